/-
  A part of the proof: the evaluator of code and its soundness.
-/
import Derived.Test.YtmlmcidljiibaaaE0
import Derived.Lib.AppendZeros
import Derived.RangeFuncRecord
import Derived.OrdersIn
set_option linter.unusedVariables false
set_option linter.unusedSimpArgs false
noncomputable section
namespace Go.Eng
open Go Go.RowKit
section
variable {P:Program}{T:Tab}{n n':Nat}{ρ ρ':Nat→Option Nat}{m m':Mem}{w w':World}{g:G}{r:R}
def Ny (s:Nat):Nat→List Value→List (List Value)
 |0,_=>[]
 |k+1,l=>l.take s::Ny s k (l.drop s)
theorem Fb (s:Nat):∀(k:Nat) (l:List AC),(CL s k l).length=k
 |0,_=>rfl
 |k+1,l=>by simp[CL,Fb s k]
theorem Ka (s:Nat):∀(k:Nat) (l:List AC),k*s≤l.length→∀x∈CL s k l,x.length=s
 |0,_,_=>by simp[CL]
 |k+1,l,h=>by
  intro x hx
  have h2:k*s+s≤l.length:=by rw[←Nat.succ_mul];exact h
  simp only[CL,List.mem_cons] at hx
  rcases hx with rfl|hx
  ·rw[List.length_take];omega
  ·exact Ka s k (l.drop s) (by rw[List.length_drop];omega) x hx
theorem Pm (s:Nat):∀(k:Nat) (l:List Value),k*s≤l.length→(Ny s k l).flatten=l.take (k*s)
 |0,_,_=>by simp[Ny]
 |k+1,l,h=>by
  have h2:k*s+s≤l.length:=by rw[←Nat.succ_mul];exact h
  simp only[Ny,List.flatten_cons]
  rw[Pm s k (l.drop s) (by rw[List.length_drop];omega),Nat.succ_mul,Nat.add_comm (k*s) s,List.take_add]
theorem MX (s:Nat):∀(k:Nat) (l:List AC) (vs:List Value),AD T n ρ m w l vs→((CL s k l).all fun l=>l.all AC.atom)=true→TK T n ρ m w (CL s k l) (Ny s k vs)
 |0,_,_,_,_=>rfl
 |k+1,l,vs,h,ha=>by
  simp only[CL,List.all_cons,Bool.and_eq_true] at ha
  exact⟨_,_,rfl,ha.1,h.take s,MX s k (l.drop s) (vs.drop s) (h.drop s) ha.2⟩
theorem iW {id off len s:Nat}{l:List AC}{e0:TypeId}{u:Value}(hm:AH T n ρ m w)(hid:m.at id= .cells l e0)(hx:AB T n ρ m w (.asl id off len) u)
  (h1:off+len*s≤l.length) (h2:0 < s) (h3:0 < len) (h5:((CL s len (l.drop off)).all fun l=>l.all AC.atom)=true):
  (Cb (CL s len (l.drop off))).length=s∧Src T ρ m w (Cb (CL s len (l.drop off))) (.list ((CL s len (l.drop off)).map fun l=>l.map fun c=>(CU c).2.eval T)) u:=by
 obtain⟨b,hb,rfl,hp⟩:=hx
 have hbk:=hm.blk id
 rw[hid] at hbk
 obtain⟨b',vs,hb',hheap,hl⟩:=hbk
 obtain rfl:b=b':=by rw[hb] at hb';exact Option.some.inj hb'
 have hlen:vs.length=l.length:=hl.length
 have hr:=MX s len (l.drop off) (vs.drop off) (hl.drop off) h5
 have hn:CL s len (l.drop off)≠[]:=fun h=>by
  have:=Fb s len (l.drop off)
  rw[h] at this;simp at this;omega
 obtain⟨c2,c3⟩:=My h2 hr (Ka s len (l.drop off) (by rw[List.length_drop];omega)) hn
 refine⟨c2,_,some ⟨b,off,none⟩,len,rfl,?_,?_,?_,(Ny s len (vs.drop off)).flatten,c3,fun _=>⟨b,off,rfl,fun j x hj=>?_⟩⟩
 ·rw[List.length_map,Fb]
 ·rw[List.length_map,Fb];exact Nat.le_refl _
 ·intro h;rw[h] at c2;simp at c2;omega
 ·rw[Pm s len (vs.drop off) (by rw[List.length_drop];omega)] at hj
  rw[JD hheap]
  have hj2:=(List.getElem?_eq_some_iff.1 hj).1
  rw[List.getElem?_take_of_lt (by rw[List.length_take] at hj2;omega),List.getElem?_drop] at hj
  exact hj
theorem Qk (hm:AH T n ρ m w)(hnn:n < n'){e:TypeId}{ks:List Kd}(hne:ks≠[])(hT:T n= .list [])
  {w1:World} (hd:w1=w∨w1=w.drew) {all:Array Value} {len cap:Nat} (hle:len≤cap) (hl:len≤68719476736) (hsz:cap*ks.length≤all.size):
  ∃ ρ',AJ T n ρ m w ρ' (m++[.tok n ks e]) (w1.alloc (.cells all e))∧AH T n' ρ' (m++[.tok n ks e]) (w1.alloc (.cells all e))∧
   AB T n' ρ' (m++[.tok n ks e]) (w1.alloc (.cells all e)) (.rsv m.length n ks) (.slice (some ⟨w.heap.size,0,none⟩) len cap):=by
 obtain⟨ρ',f1,f2,f3⟩:=RQ (n':=n') (e:=e) (ks:=ks) (l:=[]) (vs:=[]) hm hnn hne (BL.nil _ _) (by simp[BF]) hT hd (all:=all) (cap:=cap) (fun p hp=>by simp at hp) (Nat.zero_le _) hsz
 refine⟨ρ',f1,f2,?_⟩
 obtain⟨g0,g1,g2,g3⟩:=f3
 refine⟨g0,g1,hT,⟨_,_,_,rfl⟩,fun ks' e' he=>?_⟩
 rcases g3 ks' e' he with⟨a1,a2⟩|⟨b,cap',vs,a1,a2,a3,a4⟩
 ·cases a2
 ·obtain⟨e1,e2,e3⟩:=Value.slice.inj a2
  obtain rfl:w.heap.size=b:=by injection e1 with e1;injection e1
  subst e3
  exact .inr ⟨_,len,cap,vs,a1,rfl,⟨hle,hl⟩,a3,a4⟩
theorem Yp {ts:Array TypeId}{s x:AC}{v u:Value}(h:Q5 P ts s x m g=some r)(hnew:New T g.n r.us)(hps:∀q∈r.ps,q.holds T)(hm:AH T g.n ρ m w)(hs:AB T g.n ρ m w s v)(hx:AB T g.n ρ m w x u)(ty:TypeId):
  ∃z w' ρ',(Builtin.append_ ts ty #[v,u]).run P w= .ok z w'∧AJ T g.n ρ m w ρ' r.m w'∧AH T (g.n+r.us.length) ρ' r.m w'∧AB T (g.n+r.us.length) ρ' r.m w' r.c z:=by
 unfold Q5 at h
 split at h
 ·rename_i id off len
  split at h
  ·rename_i l e0 hid
   simp only[Option.bind_eq_bind,Option.bind_eq_some_iff] at h
   obtain⟨t,ht0,h⟩:=h
   split at h
   ·rename_i e hu
    simp only[Option.bind_eq_some_iff] at h
    obtain⟨i,hi,h⟩:=h
    split at h
    ·rename_i hc
     obtain⟨h1,h2,h3,h4,h5⟩:=hc
     simp only[Option.bind_eq_some_iff] at h
     obtain⟨r0,hr0,h⟩:=h
     cases h
     obtain⟨c2,c3⟩:=iW hm hid hx h1 h2 h3 h5
     have hT:T g.n= .list ((CL i.size len (l.drop off)).map fun l=>l.map fun c=>(CU c).2.eval T):=by
      have e1:=hnew.head
      have e2:=Nh (T:=T) (s:=i.size) ((CL i.size len (l.drop off)).map fun l=>l.map fun c=>(CU c).2) (fun l' hl=>by
       simp only[List.mem_map] at hl
       obtain⟨l2,hl',rfl⟩:=hl
       rw[List.length_map]
       exact Ka i.size len (l.drop off) (by rw[List.length_drop];omega) l2 hl')
      rw[e1]
      simp only[Ex.eval,U3,Qi]
      simp only[List.length_map,Fb] at e2
      rw[e2]
      simp[List.map_map,Function.comp_def]
     have hm1:AH T (g.n+1) ρ m w:=hm.mono (by omega)
     have hs1:AB T (g.n+1) ρ m w s v:=hs.up hm (by omega)
     have hnew1:New T (g.n+1) r0.us:=fun j u hj=>by
      have:=hnew (j+1) u (by simpa using hj)
      rw[show g.n+(j+1)=g.n+1+j by omega] at this
      exact this
     obtain⟨z,w', ρ',k1,k2,k3,k4⟩:=XS (g:={ g with n:=g.n+1 }) hr0 hnew1 hps hm1 hs1 (u:=u) (by rw[show (Rf.e g.n).eval T=T g.n from rfl,hT];exact c3) ty
     have en:g.n+(r0.us.length+1)=g.n+1+r0.us.length:=by omega
     exact⟨z,w', ρ',k1,k2.down (by show g.n≤g.n+1;omega),by simp only[List.length_cons];rw[en];exact k3,by simp only[List.length_cons];rw[en];exact k4⟩
    ·cases h
   ·cases h
  ·cases h
 ·rename_i id y kr
  simp only[Option.bind_eq_bind,Option.bind_eq_some_iff] at h
  obtain⟨t,ht0,h⟩:=h
  split at h
  ·rename_i e y' ky ey ht hid
   simp only[Option.bind_eq_some_iff] at h
   obtain⟨i,hi,z,hz,h⟩:=h
   split at h
   ·rename_i hc
    obtain⟨hts,hsz,hby,hbig,rfl,hkyl,hkl,hzs⟩:=hc
    cases h
    obtain rfl:ts= #[t,t]:=by
     have:=Hm _ _ hts
     exact Array.ext' this
    have hv:v= .slice none 0 0:=hs
    subst hv
    have hne:kr≠[]:=fun h=>by rw[h] at hkl;simp at hkl;omega
    have hT:T g.n= .list []:=by rw[hnew.head];rfl
    obtain⟨hy,hpad,hTy,⟨a0,len0,cap0,hu0⟩,hlink⟩:=hx
    have nilc:∀a c,∃z w' ρ',(Builtin.append_ #[t,t] ty #[.slice none 0 0,.slice a 0 c]).run P w= .ok z w'∧AJ T g.n ρ m w ρ' (m++[.tok g.n kr e]) w'∧AH T (g.n+1) ρ' (m++[.tok g.n kr e]) w'∧AB T (g.n+1) ρ' (m++[.tok g.n kr e]) w' (.rsv m.length g.n kr) z:=by
     intro a c
     obtain⟨ρ',f1,f2,g0,g1,g2,g3⟩:=RU (n':=g.n+1) (e:=e) (ks:=kr) hm (by omega) hT
     refine⟨_,w, ρ',Ea ht hi none a 0 0 c (Nat.le_refl _),f1,f2,g0,g1,hT,⟨_,_,_,rfl⟩,fun ks' e' he=>?_⟩
     rcases g3 ks' e' he with⟨a1,a2⟩|⟨b,cap',vs,a1,a2,a3,a4⟩
     ·exact .inl ⟨a1,rfl⟩
     ·cases a2
    rcases hlink ky ey hid with⟨_,hu⟩|⟨b,len,cap,vs,hb,hu,⟨hle,hlen⟩,hheap,hcap⟩
    ·subst hu;exact nilc none 0
    ·subst hu
     rcases Nat.eq_zero_or_pos len with h0|h0
     ·subst h0;exact nilc _ cap
     ·have hvs:len*i.size≤vs.size:=by
       rw[hkyl] at hcap
       exact Nat.le_trans (Nat.mul_le_mul_right _ hle) hcap
      have hrun:=run_append_nil (P:=P) w t ty e i z ht hi hz ⟨b,0,none⟩ len cap (vs.toList.take (len*i.size)) (by rw[List.length_take,Array.length_toList];omega) (fun j x hj=>by
       have hj2:=(List.getElem?_eq_some_iff.1 hj).1
       rw[List.length_take] at hj2
       rw[List.getElem?_take_of_lt (by omega)] at hj
       rw[Cd,Nat.zero_add,JD (vs:=vs.toList) (by rw[Array.toArray_toList];exact hheap)]
       exact hj) h0 (by omega) (Nat.le_trans (Nat.mul_le_mul hlen hbig) (by decide))
      have hcap2:=grownCap_ge w len 0 e
      obtain⟨ρ',f1,f2,f3⟩:=Qk (e:=e) (n':=g.n+1) (len:=len) hm (by omega) hne hT (.inr rfl) (all:=(vs.toList.take (len*i.size)).toArray++Builtin.zeroCells z.cells (grownCap w len 0 e - len)) (cap:=grownCap w len 0 e) hcap2 hlen (by
       simp only[Array.size_append,List.size_toArray,size_zeroCells,hzs,List.length_take,Array.length_toList,Nat.min_eq_left hvs,hkl]
       rw[←Nat.add_mul]
       exact Nat.mul_le_mul_right _ (by omega))
      exact⟨_,_, ρ',hrun,f1,f2,f3⟩
   ·cases h
  ·cases h
 ·rename_i x _ _
  split at h
  ·rename_i k lo0 hi0 rn hiv
   simp only[Option.bind_eq_bind,Option.bind_eq_some_iff] at h
   obtain⟨t,ht0,tn,htn0,h⟩:=h
   split at h
   ·rename_i e kn hu hun
    simp only[Option.bind_eq_some_iff] at h
    obtain⟨i,hi,z,hz,l,hl,h⟩:=h
    split at h
    ·rename_i hc
     obtain⟨hts,hpos,hkl,hzs,hby⟩:=hc
     cases h
     obtain rfl:ts= #[t,tn]:=Array.ext' (Hm _ _ hts)
     have hv:v= .slice none 0 0:=hs
     subst hv
     obtain⟨n,rfl,er,_,_⟩:=CB hiv hx
     have hp:=hps _ (List.mem_singleton.2 rfl)
     simp only[Pr.holds,D8,List.map_cons,List.map_nil,u0,er,U.toI] at hp
     obtain⟨p0,p1⟩:=hp
     obtain⟨n,rfl⟩:∃k:Nat,n=k:=⟨n.toNat,by omega⟩
     have hT:T g.n= .list []:=by rw[hnew.head];rfl
     have hne:(l.map fun c=>(CU c).1)≠[]:=fun h=>by rw[h] at hkl;simp at hkl;omega
     rcases Nat.eq_zero_or_pos n with h0|h0
     ·subst h0
      obtain⟨ρ',f1,f2,g0,g1,g2,g3⟩:=RU (n':=g.n+1) (e:=e) (ks:=l.map fun c=>(CU c).1) hm (by omega) hT
      refine⟨.slice none 0 0,w, ρ',?_,f1,f2,g0,g1,hT,⟨_,_,_,rfl⟩,fun ks' e' he=>?_⟩
      ·have hw0:IntKind.i64.wrap 0=0:=by decide
       simp[Builtin.append_,run_underlying hu,run_underlying hun,sizeOf,typeInfo,hi,asInt,asIntOf,hw0]
      ·rcases g3 ks' e' he with⟨a1,a2⟩|⟨b,cap',vs,a1,a2,a3,a4⟩
       ·exact .inl ⟨a1,rfl⟩
       ·cases a2
     ·have hrun:=Go.Lib.run_append_nil_zeros (P:=P) w t tn ty e i z k kn hu hun hi hz n h0 hpos (by omega) (Nat.le_trans (Nat.mul_le_mul (show n≤68719476736 by omega) hby) (by decide))
      have hcap2:=grownCap_ge w n 0 e
      obtain⟨ρ',f1,f2,f3⟩:=Qk (e:=e) (n':=g.n+1) (len:=n) hm (by omega) hne hT (.inr rfl) (all:=Builtin.zeroCells z.cells n++Builtin.zeroCells z.cells (grownCap w n 0 e - n)) (cap:=grownCap w n 0 e) hcap2 (by omega) (by
       simp only[Array.size_append,size_zeroCells,hzs,hkl]
       rw[←Nat.add_mul]
       exact Nat.mul_le_mul_right _ (by omega))
      exact⟨_,_, ρ',hrun,f1,f2,f3⟩
    ·cases h
   ·cases h
  ·simp only[Option.bind_eq_bind,Option.bind_eq_some_iff] at h
   obtain⟨⟨k2,r2⟩,hr2,h⟩:=h
   exact XS h hnew hps hm hs (PH (Nk hr2 hx)) ty
theorem GM {v:Int}{k:IntKind}{y:Nat}{c:BoundsCode}(h0:0≤v)(h1:v≤y):(Instr.sliceBound (.int k v) y c).run P w= .ok v.toNat w:=by
 simp[Instr.sliceBound,asIntOf,h0,h1]
theorem YG {ok:Nat→Nat→Prop}{ks:List Kd}{l:List (List U)}{a:Option Addr}{cap lo hi size:Nat}(hne:ks≠[])(hsz:size=ks.length)(hl:l.length≤BF)(hlo:lo≤hi)(hhi:hi≤l.length)(hcap:l.length≤cap)
  (h3:0 < l.length→∃b o,a=some ⟨b,o,none⟩∧∀i us,l[i]? =some us→AW ok w ks b (o+i*ks.length) us):
  AR ok w (.list ks) (.list ((l.take hi).drop lo)) (.slice (if cap=lo then a else a.map (·.add (lo*size))) (hi - lo) (cap - lo)):=by
 have hlen:((l.take hi).drop lo).length=hi - lo:=by rw[List.length_drop,List.length_take];omega
 refine⟨_,rfl,by omega,fun h=>absurd h hne,(if cap=lo then a else a.map (·.add (lo*size))),cap - lo,by rw[hlen],by omega,fun hp=>?_⟩
 obtain⟨b,o,rfl,hc⟩:=h3 (by omega)
 refine⟨b,o+lo*size,?_,fun i us hi2=>?_⟩
 ·rw[if_neg (by omega)]
  simp only[Option.map_some,Cd]
 ·have hj:=(List.getElem?_eq_some_iff.1 hi2).1
  rw[hlen] at hj
  rw[List.getElem?_drop,List.getElem?_take_of_lt (by omega)] at hi2
  have:=hc _ _ hi2
  rw[hsz,Nat.add_assoc,←Nat.add_mul]
  exact this
def Uo (T:Tab)(n:Nat)(ρ :Nat→Option Nat)(m:Mem)(w:World):Option AC→Option Value→Prop
 |none,v=>v=none
 |some c,v=>∃u,v=some u∧AB T n ρ m w c u
theorem Mv {t:TypeId}{x:AC}{lo hi:Option AC}{v:Value}{vlo vhi:Option Value}(h:Ti P t x lo hi m g=some r)(hnew:New T g.n r.us)(hps:∀q∈r.ps,q.holds T)(hm:AH T g.n ρ m w)(hx:AB T g.n ρ m w x v)
  (hlo:Uo T g.n ρ m w lo vlo) (hhi:Uo T g.n ρ m w hi vhi):
  ∃z,(Instr.sliceAt t v vlo vhi none).run P w= .ok z w∧r.m=m∧AB T (g.n+r.us.length) ρ m w r.c z:=by
 unfold Ti at h
 split at h
 ·rename_i k e hu
  split at h
  ·rename_i id off
   split at h
   ·rename_i hi2
    cases h
    obtain⟨i,hi⟩:=Option.isSome_iff_exists.1 hi2
    obtain⟨b,hb,rfl,hp⟩:=hx
    obtain rfl:vlo=none:=hlo
    obtain rfl:vhi=none:=hhi
    refine⟨.slice (some ⟨b,off,none⟩) k k,?_,rfl,b,hb,rfl,hp⟩
    simp only[Instr.sliceAt,Sem.run_bind,run_underlying hu,Result.andThen_ok,Instr.sureAddr,Sem.run_pure,Instr.sliceBounds,Bk hi,Nat.zero_mul,Nat.sub_zero,Cd,Nat.add_zero,ite_self]
   ·cases h
  ·cases h
 ·rename_i e hu
  have hgo:∀v lo hi,(Instr.sliceAt t v lo hi none).run P w=(Instr.slice t v lo hi none).run P w:=by
   intro v lo hi
   simp only[Instr.sliceAt,Sem.run_bind,run_underlying hu,Result.andThen_ok]
  rw[hgo]
  simp only[Option.bind_eq_bind,Option.bind_eq_some_iff] at h
  obtain⟨i,hi0,h⟩:=h
  split at h
  ·rename_i k n0
   split at h
   ·rename_i hn
    subst hn
    cases h
    obtain rfl:v= .slice none 0 0:=hx
    obtain rfl:vlo=none:=hlo
    obtain⟨u,rfl,hu2⟩:=hhi
    obtain rfl:u= .int k 0:=hu2
    refine⟨.slice none 0 0,?_,rfl,rfl⟩
    simp[Instr.slice,run_underlying hu,Instr.sliceBounds,GM,Bk hi0]
   ·cases h
  ·rename_i id y ks k n0
   split at h
   ·rename_i hn
    subst hn
    cases h
    obtain⟨hy,hpad,hTy,⟨a0,len0,cap0,rfl⟩,hlink⟩:=hx
    obtain rfl:vlo=none:=hlo
    obtain⟨u,rfl,hu2⟩:=hhi
    obtain rfl:u= .int k 0:=hu2
    refine⟨.slice (if cap0=0 then a0 else a0.map (·.add (0*i.size))) 0 cap0,?_,rfl,hy,hpad,?_,fun ks' e' he=>?_⟩
    ·simp[Instr.slice,run_underlying hu,Instr.sliceBounds,GM,Bk hi0]
    ·rw[hTy]
     exact⟨[],rfl,Nat.zero_le _,fun _=>rfl,_,cap0,rfl,Nat.zero_le _,fun h=>by simp at h⟩
    ·rcases hlink ks' e' he with⟨l1,l2⟩|⟨b,len,cap,vs,l1,l2,⟨l3,_⟩,l4,l5⟩
     ·cases l2
      exact .inl ⟨l1,rfl⟩
     ·cases l2
      refine .inr ⟨b,cap0,vs,l1,?_,l4,l5⟩
      rw[hTy]
      simp[U.toL,Cd]
   ·cases h
  ·rename_i x lo hi _ _
   simp only[Option.bind_eq_some_iff] at h
   obtain⟨⟨ks,r0⟩,hr0,h⟩:=h
   simp only at h
   split at h
   ·rename_i hc
    obtain⟨hsz,hpos⟩:=hc
    have hne:ks≠[]:=fun h=>by rw[h] at hsz;simp at hsz;omega
    obtain⟨l,el,hml,hk,a,cap,rfl,hcap,h3⟩:=Nk hr0 hx
    have hev:∀{f:List U→U} {tg:Tg} {rs:List Rf} {us':List Ex},New T g.n (⟨tg,f,rs⟩::us')→T g.n=f (rs.map (Rf.eval T)):=fun h=>h.head
    have fin:∀(lo hi:Nat) (l':List (List U)),lo≤hi→hi≤l.length→l'=(l.take hi).drop lo→T g.n= .list l'→AB T (g.n+1) ρ m w (.ro g.n ks) (.slice (if cap=lo then a else a.map (·.add (lo*i.size))) (hi - lo) (cap - lo)):=by
     intro lo hi l' h1 h2 h4 h5
     refine⟨by omega,?_⟩
     rw[h5,h4]
     exact YG hne hsz hml h1 h2 hcap h3
    split at h
    ·
     simp only[Option.bind_eq_some_iff] at h
     obtain⟨⟨k,l1,h1,rb⟩,hb,h⟩:=h
     cases h
     obtain rfl:vlo=none:=hlo
     obtain⟨u,rfl,hu2⟩:=hhi
     obtain⟨j,rfl,ej,_,_⟩:=CB hb hu2
     have hp:=hps _ (List.mem_singleton.2 rfl)
     simp only[Pr.holds,QY,List.map_cons,List.map_nil,u0,u1,el,ej,U.toI,U.toL] at hp
     refine⟨_,?_,rfl,fin 0 j.toNat (l.take j.toNat) (Nat.zero_le _) (by omega) rfl ((hev hnew).trans ?_)⟩
     ·simp only[Instr.slice,Sem.run_bind,run_underlying hu,Result.andThen_ok,Instr.sliceBounds,Sem.run_pure,GM (P:=P) (w:=w) (k:=k) (c:= .sliceAcap) hp.1 (show j≤(cap:Int) by omega),Bk hi0,if_true]
     ·simp[ZR,u0,u1,el,ej,U.toI,U.toL]
    ·simp only[Option.bind_eq_some_iff] at h
     obtain⟨⟨k,l1,h1,ra⟩,ha,h⟩:=h
     cases h
     obtain rfl:vhi=none:=hhi
     obtain⟨u,rfl,hu2⟩:=hlo
     obtain⟨j,rfl,ej,_,_⟩:=CB ha hu2
     have hp:=hps _ (List.mem_singleton.2 rfl)
     simp only[Pr.holds,QY,List.map_cons,List.map_nil,u0,u1,el,ej,U.toI,U.toL] at hp
     refine⟨_,?_,rfl,fin j.toNat l.length (l.drop j.toNat) (by omega) (Nat.le_refl _) (by rw[List.take_length]) ((hev hnew).trans ?_)⟩
     ·simp only[Instr.slice,Sem.run_bind,run_underlying hu,Result.andThen_ok,Instr.sliceBounds,Sem.run_pure,GM (P:=P) (w:=w) (k:=k) (c:= .sliceB) hp.1 hp.2,Bk hi0,Option.isSome_none,Bool.false_eq_true,if_false]
     ·simp[Y6,u0,u1,el,ej,U.toI,U.toL]
    ·simp only[Option.bind_eq_some_iff] at h
     obtain⟨⟨k,l1,h1,ra⟩,ha,⟨k',l1',h1',rb⟩,hb,h⟩:=h
     cases h
     obtain⟨u,rfl,hu2⟩:=hlo
     obtain⟨j,rfl,ej,_,_⟩:=CB ha hu2
     obtain⟨u,rfl,hu2⟩:=hhi
     obtain⟨q,rfl,eq,_,_⟩:=CB hb hu2
     have hp:=hps _ (List.mem_singleton.2 rfl)
     simp only[Pr.holds,dQ,List.map_cons,List.map_nil,u0,u1,u2,el,ej,eq,U.toI,U.toL] at hp
     refine⟨_,?_,rfl,fin j.toNat q.toNat ((l.take q.toNat).drop j.toNat) (by omega) (by omega) rfl ((hev hnew).trans ?_)⟩
     ·have hq:(q.toNat:Int)=q:=by omega
      simp only[Instr.slice,Sem.run_bind,run_underlying hu,Result.andThen_ok,Instr.sliceBounds,Sem.run_pure,GM (P:=P) (w:=w) (k:=k') (c:= .sliceAcap) (show 0≤q by omega) (show q≤(cap:Int) by omega),GM (P:=P) (w:=w) (k:=k) (c:= .sliceB) hp.1 (show j≤((q.toNat:Nat):Int) by omega),Bk hi0,if_true,Option.isSome_none,Bool.false_eq_true,if_false]
     ·simp[cq,u0,u1,u2,el,ej,eq,U.toI,U.toL]
    ·cases h
   ·cases h
 ·cases h
theorem Sw {t:TypeId}{a:Act}{o:Oper}{x y:Operand}{cx cy:AC}(h:MT P t cx cy m g=some r)(hnew:New T g.n r.us)(hps:∀q∈r.ps,q.holds T)(hm:AH T g.n ρ m w)
  (ho:o.op= .makeSlice t x y) (hx:AB T g.n ρ m w cx (a.eval x)) (hy:AB T g.n ρ m w cy (a.eval y)):BZ T g ρ m w ((execOp a.eval o).run P w) r:=by
 unfold MT at h
 split at h
 ·rename_i e hu
  simp only[Option.bind_eq_bind,Option.bind_eq_some_iff] at h
  obtain⟨i,hi,z,hz,⟨k,l0,h0,rr⟩,hiv,l,hl,h⟩:=h
  simp only at h
  split at h
  ·rename_i hc
   obtain⟨hbe,rfl,hpos,hkl,hzs,hby⟩:=hc
   cases h
   obtain rfl:cx=cy:=AC.beq_eq _ _ hbe
   obtain⟨n,en,er,_,_⟩:=CB hiv hx
   obtain⟨n',en',er',_,_⟩:=CB hiv hy
   obtain rfl:n=n':=by rw[er] at er';injection er'
   have hp:=hps _ (List.mem_singleton.2 rfl)
   simp only[Pr.holds,D8,List.map_cons,List.map_nil,u0,er,U.toI] at hp
   obtain⟨p0,p1⟩:=hp
   have hT:T g.n= .list []:=by rw[hnew.head];rfl
   have hw:IntKind.i64.wrap n=n:=by
    exact EU .i64 n (by rw[show IntKind.i64.min= -9223372036854775808 from rfl];omega) (by rw[show IntKind.i64.max=9223372036854775807 from rfl];omega)
   have hmul:i.bytes*n≤2 ^ 48:=by
    have:(i.bytes:Int)*n≤1024*68719476736:=Int.mul_le_mul (by omega) p1 p0 (by decide)
    omega
   have hrun:∃arr:Array Value,arr.size=n.toNat*i.size∧(execOp a.eval o).run P w= .ok (.value (.slice (some ⟨w.heap.size,0,none⟩) n.toNat n.toNat)) (w.alloc (.cells arr e)):=by
    have hti:(typeInfo e).run P w= .ok i w:=by simp[typeInfo,hi]
    have hc1:¬(i.bytes*n > 2 ^ 48):=by omega
    have hc2:¬(n < 0):=by omega
    simp only[execOp,ho,Instr.makeSlice,Sem.run_bind,run_underlying hu,Result.andThen_ok,asInt,asIntOf,en,en',Sem.run_pure,hti,hw,hc1,hc2,decide_false,Bool.or_self,Bool.false_eq_true,gt_iff_lt,Int.lt_irrefl,if_false,run_askRoom,Bk hi]
    by_cases h0:n.toNat*i.size=0
    ·refine⟨(Array.range (n.toNat*i.size)).map (fun x=>(#[]:Array Value)[x % (#[]:Array Value).size]!),by simp,?_⟩
     simp only[h0,if_true,Sem.run_pure,Result.andThen_ok,newRow]
     simp
    ·refine⟨(Array.range (n.toNat*i.size)).map (fun x=>z.cells[x % z.cells.size]!),by simp,?_⟩
     simp only[h0,if_false,Sem.run_bind,MI hi hz,Sem.run_pure,Result.andThen_ok,newRow]
     simp
   obtain⟨arr,hsz,hrun⟩:=hrun
   have hne:(l.map fun c=>(CU c).1)≠[]:=fun h=>by rw[h] at hkl;simp at hkl;omega
   obtain⟨ρ',f1,f2,f3⟩:=Qk (e:=e) (n':=g.n+1) (len:=n.toNat) (cap:=n.toNat) hm (by omega) hne hT (.inl rfl) (all:=arr) (Nat.le_refl _) (by omega) (by rw[hkl,hsz];exact Nat.le_refl _)
   exact⟨_,_, ρ',.inl hrun,f1,f2,f3⟩
  ·cases h
 ·cases h
theorem gD {big:Bool}{ts:Array TypeId}{t:TypeId}{v u z:Value}(h:(if big then Builtin.max_ ts t #[v,u] else Builtin.min_ ts t #[v,u]).run P w= .ok z w):
  ((if big then Builtin.max2 else Builtin.min2) v u).run P w= .ok z w:=by
 cases big with
 |true=>simpa [Builtin.max_] using h
 |false=>simpa [Builtin.min_] using h
theorem JJ {big:Bool}:∀(l:List AC) (x:AC) (v:Value) (us:List Value) (g:G) (r:R),N3 big x l m g=some r→New T g.n r.us→AB T g.n ρ m w x v→AD T g.n ρ m w l us→
  ∃z,(us.foldlM (if big then Builtin.max2 else Builtin.min2) v).run P w= .ok z w∧r.m=m∧AB T (g.n+r.us.length) ρ m w r.c z
 |[],x,v,us,g,r,h,hnew,hx,hl=>by
  obtain rfl:us=[]:=hl
  cases h
  exact⟨v,by simp,rfl,hx⟩
 |y::l,x,v,us,g,r,h,hnew,hx,hl=>by
  obtain⟨u,us',rfl,hy,hl'⟩:=hl
  simp only[N3,Option.bind_eq_bind,Option.bind_eq_some_iff] at h
  obtain⟨r1,hr1,r2,hr2,h⟩:=h
  cases h
  obtain⟨z,k1,k2,k3⟩:=I6 (P:=P) hr1 (fun j u hj=>hnew j u (by rw[List.getElem?_append_left (List.getElem?_eq_some_iff.1 hj).1];exact hj)) hx hy #[] 0
  have hl2:AD T (g.n+r1.us.length) ρ m w l us':=AD.mono0 (AJ.refl T g.n ρ m w) (by omega) l us' hl'
  obtain⟨z2,q1,q2,q3⟩:=JJ l r1.c z us' { g with n:=g.n+r1.us.length } r2 hr2 (fun j u hj=>by
   have:=hnew (r1.us.length+j) u (by rw[List.getElem?_append_right (by omega),Nat.add_sub_cancel_left];exact hj)
   rw[←Nat.add_assoc] at this
   exact this) k3 hl2
  refine⟨z2,?_,rfl,?_⟩
  ·simp only[List.foldlM_cons,Sem.run_bind,gD k1,Result.andThen_ok]
   exact q1
  ·simp only[List.length_append]
   rw[←Nat.add_assoc]
   exact q3
end
end Go.Eng
end
noncomputable section
namespace Go.Eng
open Go Go.RowKit
section
variable {P:Program}{T:Tab}{ρ :Nat→Option Nat}{m:Mem}{w:World}{g:G}{r:R}
theorem WL {a:Act}{o:Oper}{b:Builtin}{args:Array Operand}{ts:Array TypeId}{ev:Operand→AC}(ho:o.op= .call { callee:= .builtin b,args,argTypes:=ts })(h:HC P b ts (args.toList.map ev) m g=some r)
  (hnew:New T g.n r.us) (hps:∀q∈r.ps,q.holds T) (hm:AH T g.n ρ m w) (hev:∀x,AB T g.n ρ m w (ev x) (a.eval x)):BZ T g ρ m w ((execOp a.eval o).run P w) r:=by
 rw[Of ho]
 obtain⟨args⟩:=args
 unfold HC at h
 split at h
 ·rename_i b' x harg
  cases args with
  |nil=>cases harg
  |cons x1 rest=>
   cases rest with
   |cons=>cases harg
   |nil=>
    simp at harg
    subst harg
    simp only[Option.bind_eq_bind,Option.bind_eq_some_iff] at h
    obtain⟨t,ht,h⟩:=h
    obtain⟨z,h1,h2,h3⟩:=RH h hnew (hev x1) ts ht o.type
    exact BZ.pure (by simp[builtin,h1]) hm h2 h3
 ·rename_i b' x y harg
  cases args with
  |nil=>cases harg
  |cons x1 rest=>
   cases rest with
   |nil=>cases harg
   |cons x2 rest=>
    cases rest with
    |cons=>cases harg
    |nil=>
     simp at harg
     obtain⟨rfl,rfl⟩:=harg
     obtain⟨z,h1,h2,h3⟩:=I6 (P:=P) h hnew (hev x1) (hev x2) ts o.type
     exact BZ.pure (by simp at h1;simp[builtin,h1]) hm h2 h3
 ·rename_i b' x y harg
  cases args with
  |nil=>cases harg
  |cons x1 rest=>
   cases rest with
   |nil=>cases harg
   |cons x2 rest=>
    cases rest with
    |cons=>cases harg
    |nil=>
     simp at harg
     obtain⟨rfl,rfl⟩:=harg
     obtain⟨z,h1,h2,h3⟩:=I6 (P:=P) h hnew (hev x1) (hev x2) ts o.type
     exact BZ.pure (by simp at h1;simp[builtin,h1]) hm h2 h3
 ·rename_i b' x y harg
  cases args with
  |nil=>cases harg
  |cons x1 rest=>
   cases rest with
   |nil=>cases harg
   |cons x2 rest=>
    cases rest with
    |cons=>cases harg
    |nil=>
     simp at harg
     obtain⟨rfl,rfl⟩:=harg
     obtain⟨z,w', ρ',h1,h2,h3,h4⟩:=Yp h hnew hps hm (hev x1) (hev x2) o.type
     exact⟨z,w', ρ',.inl (by simp[builtin,h1]),h2,h3,h4⟩
 ·rename_i b' c0 c1 c2 cl harg
  cases args with
  |nil=>cases harg
  |cons x1 rest=>
   simp only[List.map_cons,List.cons.injEq] at harg
   obtain⟨rfl,harg⟩:=harg
   obtain⟨z,h1,h2,h3⟩:=JJ (P:=P) (w:=w) _ _ _ (rest.map a.eval) g r h hnew (hev x1) (by rw[←harg];exact AD.of_map hev rest)
   refine BZ.pure (v:=z) ?_ hm h2 h3
   simp only[Bool.false_eq_true,if_false] at h1
   simp[builtin,Builtin.min_,h1]
 ·rename_i b' c0 c1 c2 cl harg
  cases args with
  |nil=>cases harg
  |cons x1 rest=>
   simp only[List.map_cons,List.cons.injEq] at harg
   obtain⟨rfl,harg⟩:=harg
   obtain⟨z,h1,h2,h3⟩:=JJ (P:=P) (w:=w) _ _ _ (rest.map a.eval) g r h hnew (hev x1) (by rw[←harg];exact AD.of_map hev rest)
   refine BZ.pure (v:=z) ?_ hm h2 h3
   simp only[if_true] at h1
   simp[builtin,Builtin.max_,h1]
 ·rename_i b' harg
  cases args with
  |nil=>cases harg
  |cons x1 rest=>
   cases rest with
   |cons=>simp at harg
   |nil=>
    simp at harg
    simp only[Option.bind_eq_bind,Option.bind_eq_some_iff] at h
    obtain⟨t,ht,h⟩:=h
    split at h
    ·rename_i e hu
     cases h
     have hx:=hev x1
     rw[harg] at hx
     have hx2:a.eval x1= .slice none 0 0:=hx
     refine BZ.pure (v:= .int .i64 0) ?_ hm rfl rfl
     simp[builtin,Builtin.cap_,hx2,ht,run_underlying hu,goInt]
    ·cases h
 ·cases h
theorem av {ev:Operand→AC}{a:Act}{o:Oper}(h:aOp P ev o.op m g=some r)(hnew:New T g.n r.us)(hps:∀q∈r.ps,q.holds T)(hm:AH T g.n ρ m w)(hev:∀x,AB T g.n ρ m w (ev x) (a.eval x)):
  BZ T g ρ m w ((execOp a.eval o).run P w) r:=by
 have arr:∀xs:Array Operand,xs.map a.eval=(xs.toList.map a.eval).toArray:=fun xs=>by rw[←Array.toList_map,Array.toArray_toList]
 cases ho:o.op<;>rw[ho] at h<;>simp only[aOp] at h
 case move x=>cases h;exact BZ.same (v:=a.eval x) (by simp[execOp,ho]) hm rfl (hev x)
 case assign x=>cases h;exact BZ.same (v:=a.eval x) (by simp[execOp,ho]) hm rfl (hev x)
 case pick c x y=>
  obtain⟨q,h1,h2,h3⟩:=MO h hnew hm (hev c) (fun _=>hev x) (fun _=>hev y)
  exact BZ.pure (v:=if q then a.eval x else a.eval y) (by simp[execOp,ho,h1,asBool]) hm h2 h3
 case alloc t=>exact Zr h hm ho
 case box t x=>exact gC h hm ho (hev x)
 case build t parts=>exact (SA h hm ho hev).res hm
 case buildSlice t len parts=>exact RD h hnew hm ho hev
 case load t x=>
  obtain⟨u,h1,h2,h3⟩:=Lr h hnew hm (hev x)
  exact BZ.pure (by simp[execOp,ho,h1]) hm h2 h3
 case store t x y=>
  obtain⟨w',h1,h2,h3,h4⟩:=Zy h hnew hm (hev x) (hev y)
  exact⟨undef,w', ρ,.inr ⟨by simp[execOp,ho,h1],rfl⟩,h2,h3,by rw[h4];exact trivial⟩
 case nilCheck x=>exact (Ni h hps hm ho rfl (hev x)).res hm
 case binOp op t x y yt=>
  obtain⟨z,h1,h2,h3⟩:=Qo h hnew hps (hev x) (hev y) x y
  exact BZ.pure (v:=z) (R1 (s:=do eqGuard op t x y (a.eval x) (a.eval y);binOp op t (a.eval x) (a.eval y)) (by simp only[execOp,ho]) h1) hm h2 h3
 case unOp op t x=>
  obtain⟨z,h1,h2,h3⟩:=T4 (P:=P) (w:=w) h hnew (hev x)
  exact BZ.pure (by simp[execOp,ho,h1]) hm h2 h3
 case convert s d x=>
  obtain⟨z,h1,h2,h3⟩:=Kb h hnew (hev x)
  exact BZ.pure (by simp[execOp,ho,h1]) hm h2 h3
 case makeFunc fn first cap=>
  cases h
  refine BZ.same (v:= .func fn (first.map a.eval) (cap.map a.eval)) (by simp[execOp,ho,Instr.makeFunc]) hm rfl ?_
  refine⟨first.toList.map a.eval,cap.toList.map a.eval,by rw[arr,arr],AD.of_map hev _,AD.of_map hev _⟩
 case fieldAddr t x f=>
  obtain⟨z,h1,h2,h3,h4⟩:=IJ h (hev x)
  exact BZ.same (by simp[execOp,ho,h1]) hm h2 h4
 case field t x f=>
  obtain⟨z,h1,h2,h3,h4⟩:=Na h (hev x)
  exact BZ.same (by simp[execOp,ho,h1]) hm h2 h4
 case indexAddr t x i=>
  obtain⟨z,h1,h2,h3⟩:=II h hnew hps (hev x) (hev i)
  exact BZ.pure (by simp[execOp,ho,h1]) hm h2 h3
 case index t x i=>
  obtain⟨z,h1,h2,h3⟩:=NG h hnew hps (hev x) (hev i)
  rcases h3 with h3|h3
  ·exact BZ.same (by simp[execOp,ho,h1]) hm h2 h3
  ·exact BZ.pure (by simp[execOp,ho,h1]) hm h2 h3
 case slice t x lo hi mx=>
  cases mx with
  |some v=>cases h
  |none=>
   have ho':∀l:Option Operand,Uo T g.n ρ m w (l.map ev) (l.map a.eval):=by
    intro l
    cases l with
    |none=>rfl
    |some y=>exact⟨_,rfl,hev y⟩
   obtain⟨z,h1,h2,h3⟩:=Mv h hnew hps hm (hev x) (ho' lo) (ho' hi)
   exact BZ.pure (by simp[execOp,ho,h1]) hm h2 h3
 case makeSlice t x y=>exact Sw h hnew hps hm ho (hev x) (hev y)
 case extract x i=>
  obtain⟨z,h1,h2,h3,h4⟩:=KX (P:=P) h (hev x)
  exact BZ.same (by simp[execOp,ho,h1]) hm h2 h4
 case call c=>
  obtain⟨callee,args,ts⟩:=c
  cases callee with
  |builtin b=>exact WL ho h hnew hps hm hev
  |value f=>cases h
  |invoke x n=>cases h
 all_goals cases h
end
end Go.Eng
end
noncomputable section
namespace Go.Eng
open Go Go.RowKit
structure Loc where
 tmps:AQ
 mem:Mem
inductive XK where
 |normal
 |exit (id:Nat)
 |ret
 deriving DecidableEq
abbrev YF:=Nat→List AC→PC→Mem→G→Option (AC × Mem × G)
abbrev Ys:=Nat→Option YF
abbrev A8:=Ys→FuncId→List AC→PC→Mem→G→Option (AC × Mem × G)
structure Ar where
 k:XK
 pc:PC
 l:Loc
structure GE where
 j:Nat
 want:Bool
 p:Nat
 imp:List Nat
def Lx (imp:List Nat):AC→AC
 | .on c a=>if imp.contains c then a else .on c a
 | .gd c a=>if imp.contains c then a else .gd c a
 |a=>a
def HJ (imp:List Nat)(tmps:AQ):Operand→AC
 | .tmp t=>Lx imp ((tmps.get t).getD .any)
 | .const v=>Ol v
 | .global _=> .any
 | .func f=> .fn (.func f) [] []
def EG:PC→Rf
 |none=> .c (.bool true)
 |some c=> .e c
def CY (pc:PC)(x:Nat)(want:Bool):Ex:=
 match pc with
 |none=>if want then ⟨ "id",oId,[.e x]⟩ else ⟨ "not",Qt,[.e x]⟩
 |some c=>⟨ "and",NF,[.e c,if want then .e x else .n x]⟩
structure RS where
 tmps:AQ
 mem:Mem
 g:G
 gl:List GE
def Dg (pc:PC)(base:List Nat)(s:RS)(j:Nat)(want:Bool):AC→Option (Option (PC × List Nat) × RS)
 | .cb b=>if b=want then some (some (pc,base),s) else some (none,s)
 | .b x=>some (some (some s.g.n,s.g.n::base),{ s with g:=s.g.pushAll [CY pc x want],gl:=⟨j,want,s.g.n,s.g.n::base⟩::s.gl })
 | .nb x=>some (some (some s.g.n,s.g.n::base),{ s with g:=s.g.pushAll [CY pc x (!want)],gl:=⟨j,want,s.g.n,s.g.n::base⟩::s.gl })
 |_=>none
def Dq (ops:Array Oper)(pc:PC)(s:RS)(o:Oper):Option (Option (PC × List Nat) × RS):=
 match o.guard with
 |none=>some (some (pc,[]),s)
 |some (j,want)=>
  match s.gl.filter (fun e=>Nat.beq e.j j&&(e.want==want)) with
  |e::es=>some (some (some e.p,e.imp++(es.map (·.imp)).flatten),s)
  |[]=>do
   let oj←ops[j]?
   let d←oj.dst
   let c←s.tmps.get d
   match c with
   | .tup []=>some (none,s)
   | .gd c a=>do
    let e←s.gl.find? (fun e=>Nat.beq e.p c)
    Dg (some c) e.imp s j want a
   |a=>Dg pc [] s j want a
def BK:Op→Bool
 | .move _| .assign _| .pick .. | .build .. | .load .. | .nilCheck _| .binOp .. | .unOp .. | .convert .. | .makeFunc .. | .fieldAddr .. | .field .. | .indexAddr .. | .index .. | .extract .. | .slice .. =>true
 | .call { callee:= .builtin .cap,.. }| .call { callee:= .builtin .len,.. }| .call { callee:= .builtin .min,.. }| .call { callee:= .builtin .max,.. }=>true
 |_=>false
def Blk.beq:Blk→Blk→Bool
 | .pad,.pad=>true
 | .gone,.gone=>true
 | .cells l e,.cells l' e'=>AC.beqL l l'&&Nat.beq e e'
 | .tok x ks e,.tok x' ks' e'=>Nat.beq x x'&&Kd.beqs ks ks'&&Nat.beq e e'
 | .lp x a,.lp x' a'=>Nat.beq x x'&&AC.beq a a'
 |_,_=>false
def HH:Mem→Mem→Bool
 |[],_=>true
 |b::m,b'::m'=>Blk.beq b b'&&HH m m'
 |_,_=>false
def K4 (ops:Array Oper)(gl:List GE)(c:Operand)(want:Bool):List Nat:=
 match c with
 | .tmp t=>(gl.filter fun e=>(e.want==want)&&(((ops[e.j]?).bind (·.dst))==some t)).map (·.p)
 |_=>[]
def Dh (n:Nat)(b:Rf):Blk→Blk→Blk × List Ex
 | .cells l e,.cells l' e'=>
  if l.length=l'.length∧e=e' then
   let (r,us):=MU (fun n=>mix n b) n l l'
   if r.all AC.atom then (.cells r e,us) else (.gone,us)
  else (.gone,[])
 | .tok x ks e,.tok x' ks' e'=>
  if Nat.beq x x'&&Kd.beqs ks ks'&&Nat.beq e e' then (.tok x ks e,[])
  else if e=e'∧ks.length=ks'.length then (.tok n (Kd.joins ks ks') e,[⟨ "if",oIf,[b,.e x,.e x']⟩]) else (.gone,[])
 | .tok x ks e,.pad=>(.tok n ks e,[⟨ "if",oIf,[b,.e x,.c (.list [])]⟩])
 | .pad,.tok x ks e=>(.tok n ks e,[⟨ "if",oIf,[b,.c (.list []),.e x]⟩])
 | .lp x a,.lp x' a'=>
  if Nat.beq x x' then
   let (c,us):=mix n b a a'
   (.lp x c,us)
  else (.gone,[])
 | .pad,.pad=>(.pad,[])
 |_,_=>(.gone,[])
def Fe (b:Rf):Nat→Mem→Mem × List Ex
 |_,[]=>([],[])
 |n,y::m'=>
  let (z,us):=Dh n b .pad y
  let (r,us'):=Fe b (n+us.length) m'
  (z::r,us++us')
def Bc (b:Rf):Nat→Mem→Mem→Mem × List Ex
 |n,[],m'=>Fe b n m'
 |n,x::m,m'=>
  let (z,us):=Dh n b x (m'.headD .pad)
  let (r,us'):=Bc b (n+us.length) m m'.tail
  (z::r,us++us')
def KK (m:Mem)(id:Nat):Option AC:=match m.at id with| .tok z ks _=>some (.vec id z ks)|_=>none
def Ev (m m1 m2:Mem)(c d:AC):Option AC:=
 match c,d with
 | .vec id x ks,.vec id' x' ks'=>
  if Nat.beq id id' then
   match m1.at id,m2.at id with
   | .tok y ky _,.tok y' ky' _=>if Nat.beq x y&&Nat.beq x' y'&&Kd.beqs ks ky&&Kd.beqs ks' ky' then KK m id else none
   |_,_=>none
  else none
 | .vec id x ks,.cv .nilSlice=>
  match m1.at id,m2.at id with
  | .tok y ky _,.pad=>if Nat.beq x y&&Kd.beqs ks ky then KK m id else none
  |_,_=>none
 | .cv .nilSlice,.vec id x ks=>
  match m1.at id,m2.at id with
  | .pad,.tok y ky _=>if Nat.beq x y&&Kd.beqs ks ky then KK m id else none
  |_,_=>none
 |_,_=>none
def GF (m m1 m2:Mem):List AC→List AC→List AC→List AC
 |c::l,d::l',a::r=>(Ev m m1 m2 c d).getD a::GF m m1 m2 l l' r
 |_,_,r=>r
def U2 (m m1 m2:Mem):Blk→Blk→Blk→Blk
 | .cells l _,.cells l' _,.cells r e=> .cells (GF m m1 m2 l l' r) e
 |_,_,z=>z
def O9 (m m1 m2:Mem):Mem→Mem→Mem→Mem
 |z::r,b1,b2=>U2 m m1 m2 (b1.headD .pad) (b2.headD .pad) z::O9 m m1 m2 r b1.tail b2.tail
 |[],_,_=>[]
def Ba (b:Rf)(n:Nat)(m1 m2:Mem):Mem × List Ex:=
 let (r,us):=Bc b n m1 m2
 (O9 r m1 m2 r m1 m2,us)
def Kf (f:Nat→AC→AC→AC × List Ex)(n:Nat):Option AC→Option AC→Option AC × List Ex
 |some a,some b=>let (c,us):=f n a b;(some c,us)
 |_,_=>(none,[])
def Dl (f:Nat→AC→AC→AC × List Ex):Nat→Tr→Tr→Tr × List Ex
 |n,.node v l r,.node v' l' r'=>
  let (c,us):=Kf f n v v'
  let (l2,us1):=Dl f (n+us.length) l l'
  let (r2,us2):=Dl f (n+us.length+us1.length) r r'
  (.node c l2 r2,us++(us1++us2))
 |_,_,_=>(.nil,[])
def AQ.flat (s:AQ):Tr:=if s.loc.isEmpty then s.t else .nil
def N2 (m m1 m2:Mem)(b:Rf)(n:Nat)(c d:AC):AC × List Ex:=
 match Ev m m1 m2 c d with
 |some a=>(a,[])
 |none=>KZ n b c d
def Fi (n:Nat)(b:Rf)(l1 l2:Loc):Loc × List Ex:=
 let (m,us):=Ba b n l1.mem l2.mem
 let (t,us'):=Dl (N2 m l1.mem l2.mem b) (n+us.length) l1.tmps.flat l2.tmps.flat
 (⟨⟨l1.tmps.n,[],t⟩,m⟩,us++us')
def CD (g:G)(pc:PC)(x:Nat)(want:Bool):PC × G:=
 match pc,want with
 |none,true=>(some x,g)
 |pc,want=>(some g.n,g.pushAll [CY pc x want])
def HO (one:AC→PC→Mem→G→Option (AC × Mem × G))(x:Nat):Nat→List AC→PC→Mem→G→Option (AC × Mem × G)
 |_,[],_,_,_=>none
 |_,[c],pc,m,g=>one c pc m g
 |j,.cv .nilFunc::cs,pc,m,g=>HO one x (j+1) cs pc m (g.needAll pc [⟨ "ne",pNe,[.e x,.c (.int j)]⟩])
 |j,c::cs,pc,m,g=>do
  let t:=g.n
  let g:=g.pushAll [⟨ "eq",oEq,[.e x,.c (.int j)]⟩]
  let (pa,g):=CD g pc t true
  let (ca,ma,g) ←one c pa m g
  let (pb,g):=CD g pc t false
  let (cb,mb,g) ←HO one x (j+1) cs pb m g
  let (m',us):=Ba (.e t) g.n ma mb
  let (c',us'):=FA (g.n+us.length) (.e t) ca cb
  some (c',m',g.pushAll (us++us'))
def Di (call:A8)(ys:Ys)(args:List AC)(f:AC)(pc:PC)(m:Mem)(g:G):Option (AC × Mem × G):=
 match f with
 | .fn (.func k) first cap=>call ys k (first++args++cap) pc m g
 | .yl id=>
  match m.at id with
  | .lp stamp _=>do
   let y←ys stamp
   y id args pc m g
  |_=>none
 |_=>none
def Kn (call:A8)(ys:Ys)(f:AC)(args:List AC)(pc:PC)(m:Mem)(g:G):Option (AC × Mem × G):=
 match f with
 | .sel x alts=>HO (Di call ys args) x 0 alts pc m g
 |f=>Di call ys args f pc m g
def TJ (pc:PC)(imp:List Nat)(c:AC):AC:=
 match pc,imp with
 |some p,_::_=> .gd p c
 |_,_=>c
def DG (tmps:AQ)(dst:Option Tmp)(c:AC):AQ:=
 match dst with
 |some d=>tmps.set d c
 |none=>tmps
def TE:AC→AC
 | .on _ (.ptr i o)=> .ptr i o
 |a=>a
def VO:AC→List Pr
 | .on c (.ptr _ _)=>[⟨ "t",pT,[.e c]⟩]
 |_=>[]
def HM:List AC→List Pr
 |[]=>[]
 |a::l=>VO a++HM l
def Ck (P:Program)(call:A8)(ys:Ys)(ops:Array Oper)(pc:PC)(s:RS)(o:Oper):Option RS:=do
 let (run,s) ←Dq ops pc s o
 if s.gl.any (fun e=>((ops[e.j]?).bind (·.dst))==o.dst) then none else
 let put (c:AC):AQ:=DG s.tmps o.dst c
 match run with
 |none=>some { s with tmps:=put (.tup []) }
 |some (pc',imp)=>
  let ev:=HJ imp s.tmps
  let wrap (c:AC):AC:=TJ pc' imp c
  match o.op with
  | .call { callee:= .value f,args,.. }=>do
   let (c,m,g) ←Kn call ys (ev f) ((args.toList.map ev).map TE) pc' s.mem (s.g.needAll pc' (HM (args.toList.map ev)))
   match imp with
   |[]=>some { s with tmps:=put c,mem:=m,g }
   |_=>if HH s.mem m then some { s with tmps:=put (wrap c),mem:=s.mem++List.replicate (m.length - s.mem.length) .gone,g } else
    match pc' with
    |some p=>some { s with tmps:=put (wrap c),mem:=(Ba (.e p) g.n m s.mem).1,g:=g.pushAll (Ba (.e p) g.n m s.mem).2 }
    |none=>none
  | .pick c a b=>do
   let r←S8 (ev c) (Lx (K4 ops s.gl c true) (ev a)) (Lx (K4 ops s.gl c false) (ev b)) s.mem s.g
   some { s with tmps:=put (wrap r.c),g:=(s.g.pushAll r.us).needAll pc' r.ps }
  |op=>do
   let r←aOp P ev op s.mem s.g
   match imp with
   |[]=>some { s with tmps:=put r.c,mem:=r.m,g:=(s.g.pushAll r.us).needAll pc' r.ps }
   |_=>if BK op then some { s with tmps:=put (wrap r.c),g:=(s.g.pushAll r.us).needAll pc' r.ps } else none
def C9 (P:Program)(call:A8)(ys:Ys)(ops:Array Oper)(pc:PC):List Oper→RS→Option RS
 |[],s=>some s
 |o::l,s=>do
  let s←Ck P call ys ops pc s o
  C9 P call ys ops pc l s
def D4 (acc:List Nat):List Edge→Nat
 |[]=>0
 |e::es=>if Region.binds .any e then Nat.lor (Nat.lor (2 ^ e.on) ((acc[e.on]?).getD 0)) (D4 acc es) else D4 acc es
def AU:List Oper→List Nat→List Nat
 |[],acc=>acc
 |o::l,acc=>AU l (acc++[D4 acc o.after.toList])
structure DS where
 tmps:AQ
 mem:Mem
 g:G
 gls:List (Nat × GE)
def Bl (ops:Array Oper)(o:Oper):List Tmp:=
 (o.op.operands.toList.filterMap fun x=>match x with| .tmp t=>some t|_=>none)++
  (match o.guard with|some (j,_)=>(match ops[j]? with|some oj=>oj.dst.toList|none=>[])|none=>[])
def BD:List (Tmp × Nat)→Tmp→Option Nat
 |[],_=>none
 |(t',i)::r,t=>bif Nat.beq t' t then some i else BD r t
def Au:Nat→List Oper→List (Tmp × Nat)
 |_,[]=>[]
 |i,o::l=>match o.dst with|some t=>(t,i)::Au (i+1) l|none=>Au (i+1) l
def Bw (D:List (Tmp × Nat))(ok:Nat→Bool)(s:AQ):List Tmp→List (Nat × AC)
 |[]=>[]
 |t::r=>match s.get t with
  |some c=>if (match BD D t with|some i=>ok i|none=>true) then (t,c)::Bw D ok s r else Bw D ok s r
  |none=>Bw D ok s r
def FT (R:Nat)(gls:List (Nat × GE)):List GE:=(gls.filter fun p=>R.testBit p.1).map (·.2)
mutual
def AC.free:AC→Bool
 | .ptr .. | .pix .. | .vec .. | .yl _| .asl .. | .rsv .. =>false
 | .on _ a| .gd _ a=>AC.free a
 | .fn _ f c=>AC.freeL f&&AC.freeL c
 | .agg l| .tup l| .sel _ l=>AC.freeL l
 |_=>true
def AC.freeL:List AC→Bool
 |[]=>true
 |a::l=>AC.free a&&AC.freeL l
end
def DS.masked (S:DS)(D:List (Tmp × Nat))(ok:Nat→Bool)(R:Nat)(CM:List Tmp):RS:=⟨⟨S.tmps.n,Bw D ok S.tmps CM,.nil⟩,S.mem,S.g,FT R S.gls⟩
def Fo (s:RS)(n:Nat):List GE:=s.gl.take (s.gl.length - n)
def Gw (tmps:AQ):Option Tmp→AC
 |some d=>(tmps.get d).getD .any
 |none=> .any
def JN (P:Program)(call:A8)(ys:Ys)(ops:Array Oper)(D:List (Tmp × Nat))(pc:PC)(R j:Nat)(o:Oper)(S:DS):Option DS:=do
 let s'←Ck P call ys ops pc (S.masked D R.testBit R (Bl ops o)) o
 let c:=Gw s'.tmps o.dst
 if (Fo s' (FT R S.gls).length).all (fun e=>R.testBit e.j)&&(BK o.op||(HH S.mem s'.mem&&(Nat.beq s'.mem.length S.mem.length||AC.free c))) then
  some ⟨DG S.tmps o.dst c,S.mem,s'.g,(Fo s' (FT R S.gls).length).map (fun e=>(j,e))++S.gls⟩
 else none
def heads (P:Program)(call:A8)(ys:Ys)(ops:Array Oper)(D:List (Tmp × Nat))(pc:PC):List Nat→List Oper→Nat→DS→Option DS
 |R::Rs,o::l,j,S=>do
  let S'←JN P call ys ops D pc R j o S
  heads P call ys ops D pc Rs l (j+1) S'
 |_,[],_,S=>some S
 |[],_,_,_=>none
def D1:List Nat→Nat→Nat→Nat
 |[],_,h=>h
 |r::rs,j,h=>D1 rs (j+1) (if Nat.beq (r+1) (2 ^ j) then h else j+1)
def FH:List Nat→Nat→Bool
 |[],_=>true
 |r::rs,j=>Nat.blt r (2 ^ j)&&FH rs (j+1)
def Ed:List Tmp→Bool
 |[]=>true
 |t::l=> !l.contains t&&Ed l
def S7 (P:Program)(call:A8)(ys:Ys)(ops:Array Oper)(pc:PC)(l:Loc)(g:G):Option RS:=
 let Rs:=AU ops.toList []
 let h:=D1 Rs 0 0
 if FH Rs 0&&Ed (ops.toList.filterMap (·.dst)) then do
  let S←heads P call ys ops (Au 0 ops.toList) pc Rs (ops.toList.take h) 0 ⟨l.tmps,l.mem,g,[]⟩
  C9 P call ys ops pc (ops.toList.drop h) ⟨S.tmps,S.mem,S.g,S.gls.map (·.2)⟩
 else none
mutual
def AC.nlt (n:Nat):AC→Bool
 | .on c a| .gd c a=>Nat.blt c n&&AC.nlt n a
 | .b x| .nb x| .i _ _ _ x| .v x| .s x| .ro x _| .vec _ x _| .rsv _ x _=>Nat.blt x n
 | .pix _ _ _ _ x _=>Nat.blt x n
 | .rp x t _ _=>Nat.blt x n&&Nat.blt t n
 | .fn _ f c=>AC.nltL n f&&AC.nltL n c
 | .sel x l=>Nat.blt x n&&AC.nltL n l
 | .agg l| .tup l=>AC.nltL n l
 |_=>true
def AC.nltL (n:Nat):List AC→Bool
 |[]=>true
 |a::l=>AC.nlt n a&&AC.nltL n l
end
def AK (qc:Bool)(D:List (Tmp × Nat))(o:Oper):Nat:=
 match o.op with
 | .call { callee:= .value (.func _),.. }=>if qc then 2 else 3
 | .move x| .assign x=>if o.guard.isNone&&(match x with| .tmp t=>(BD D t).isNone|_=>true) then 0 else 1
 | .extract x _=>if o.guard.isNone&&(match x with| .tmp t=>(BD D t).isNone|_=>true) then 0 else 2
 | .nilCheck _| .fieldAddr .. | .indexAddr .. =>1
 | .alloc _=>if o.guard.isNone then 4 else 3
 |op=>if BK op then 2 else 3
def AM:Nat→List Oper→List (Tmp × Nat)
 |_,[]=>[]
 |i,o::l=>match o.op,o.dst with
  | .alloc _,some t=>(t,i)::AM (i+1) l
  |_,_=>AM (i+1) l
def P9 (cls:List Nat)(R i k:Nat):Nat→List Nat→Bool
 |_,[]=>true
 |j,c::r=>(Nat.ble i j||(if Nat.beq k 3 then R.testBit j||Nat.beq c 0 else if Nat.beq k 2 then R.testBit j||Nat.ble c 2 else true))&&P9 cls R i k (j+1) r
def TH (cls:List Nat):Nat→List Nat→List Nat→Bool
 |i,R::Rs,k::ks=>P9 cls R i k 0 cls&&TH cls (i+1) Rs ks
 |_,_,_=>true
def Pw (R:Nat):Nat→Nat→List Nat→Bool
 |0,_,_=>true
 |n+1,m,c::r=>(R.testBit m||Nat.beq c 0)&&Pw R n (m+1) r
 |_+1,_,[]=>true
def JT:Nat→List Nat→List Nat
 |_,[]=>[]
 |j,c::r=>bif Nat.beq c 4 then j::JT (j+1) r else JT (j+1) r
def wides (cls als:List Nat):Nat→List Nat→List Nat→Bool
 |i,R::Rs,k::ks=>(Nat.beq k 0||Nat.beq k 4||als.all fun j=>Nat.ble i j|| !R.testBit j||Pw R j 0 cls)&&wides cls als (i+1) Rs ks
 |_,_,_=>true
def DL:Mem→Mem→Bool
 |[],_=>true
 | .tok x ks e::m,b::m'=>Blk.beq (.tok x ks e) b&&DL m m'
 | .tok _ _ _::_,[]=>false
 |_::m,m'=>DL m m'.tail
mutual
def AC.noVec:AC→Bool
 | .on _ a| .gd _ a=>AC.noVec a
 | .vec _ _ _| .rsv _ _ _=>false
 | .fn _ f c=>AC.noVecL f&&AC.noVecL c
 | .sel _ l=>AC.noVecL l
 | .agg l| .tup l=>AC.noVecL l
 |_=>true
def AC.noVecL:List AC→Bool
 |[]=>true
 |a::l=>AC.noVec a&&AC.noVecL l
end
def okG (RA:List Nat)(R j i:Nat):Bool:=R.testBit i||(RA.getD i 0).testBit j
def N8:Blk→Blk
 | .cells l e=> .cells (l.map fun _=> .any) e
 |b=>b
def isTg (tg:List Tmp):Option Tmp→Bool
 |some d=>tg.contains d
 |none=>false
def Iw (tg:List Tmp)(dst:Option Tmp)(m m':Mem):Mem:=
 if isTg tg dst then m++(m'.drop m.length).map N8 else m'
def QC (qc md:Bool)(tg:List Tmp)(P:Program)(call:A8)(ys:Ys)(ops:Array Oper)(D DA:List (Tmp × Nat))(RA:List Nat)(pc:PC)(R j:Nat)(o:Oper)(S:DS):Option DS:=do
 let s'←Ck P call ys ops pc (S.masked D (okG RA R j) R (Bl ops o)) o
 let c:=Gw s'.tmps o.dst
 let k:=AK qc DA o
 if (Fo s' (FT R S.gls).length).all (fun e=>R.testBit e.j)&&((if Nat.ble 3 k then (md||DL S.mem s'.mem) else if Nat.beq k 0 then AC.nlt s'.g.n c else true)&&(!md||Nat.ble 2 k||AC.noVec (Gw (DG S.tmps o.dst c) o.dst))&&(!Nat.beq k 4||(match o.dst with|some d=>Nat.blt d S.tmps.n|none=>false)))&&(!Nat.beq k 2||BK o.op||(HH S.mem s'.mem&&(Nat.beq s'.mem.length S.mem.length||AC.free c))) then
  some ⟨DG S.tmps o.dst c,if Nat.ble 3 k then (if Nat.beq k 4 then Iw tg o.dst S.mem s'.mem else s'.mem) else S.mem,s'.g,(Fo s' (FT R S.gls).length).map (fun e=>(j,e))++S.gls⟩
 else none
def Ne (qc md:Bool)(tg:List Tmp)(P:Program)(call:A8)(ys:Ys)(ops:Array Oper)(D DA:List (Tmp × Nat))(RA:List Nat)(pc:PC):List Nat→List Oper→Nat→DS→Option DS
 |R::Rs,o::l,j,S=>do
  let S'←QC qc md tg P call ys ops D DA RA pc R j o S
  Ne qc md tg P call ys ops D DA RA pc Rs l (j+1) S'
 |_,[],_,S=>some S
 |[],_,_,_=>none
def FB (qc md:Bool)(tg:List Tmp)(P:Program)(call:A8)(ys:Ys)(ops:Array Oper)(pc:PC)(l:Loc)(g:G):Option RS:=
 let Rs:=AU ops.toList []
 let D:=Au 0 ops.toList
 let DA:=AM 0 ops.toList
 let cls:=ops.toList.map (AK qc DA)
 if (FH Rs 0&&Ed (ops.toList.filterMap (·.dst))&&TH cls 0 Rs cls)&&wides cls (JT 0 cls) 0 Rs cls then do
  let S←Ne qc md tg P call ys ops D DA Rs pc Rs ops.toList 0 ⟨l.tmps,l.mem,g,[]⟩
  some ⟨S.tmps,S.mem,S.g,S.gls.map (·.2)⟩
 else none
def A5 (o:Oper):Bool:=
 match o.op with
 | .store _ (.tmp _) (.tmp _)| .store _ (.tmp _) (.const _)=>o.guard.isNone&&o.dst.isNone
 |_=>false
def BM (o:Oper):Oper:=if A5 o then { o with op:= .move (.const (.bool true)) } else o
def Kr (o:Oper):Option Tmp:=if A5 o then (match o.op with| .store _ (.tmp t) _=>some t|_=>none) else none
def QB (D:List (Tmp × Nat))(R:Nat)(t:Tmp):Bool:=match BD D t with|some k=>R.testBit k|none=>true
def Nl (D DA:List (Tmp × Nat))(R:Nat)(o:Oper):Bool:=
 match o.op with
 | .store _ (.tmp t) x=> !A5 o||(QB D R t&&decide (BD D t=BD DA t)&&(match x with| .tmp y=>QB D R y&&(BD DA y).isNone|_=>true))
 |_=>true
def MH (D DA:List (Tmp × Nat)):List Nat→List Oper→Bool
 |R::Rs,o::l=>Nl D DA R o&&MH D DA Rs l
 |_,[]=>true
 |[],_=>false
def CK (P:Program)(tmps:AQ)(o:Oper):Option (Nat × Nat × List AC):=
 match o.op with
 | .store ty (.tmp t) x=>
  match tmps.get t,(HJ [] tmps x).cellsOf,P.info? ty with
  |some (.ptr id off),some cs,some i=>if cs.length=i.size then some (id,off,cs) else none
  |_,_,_=>none
 |_=>none
def E4:List AC→Bool
 |[]=>true
 | .any::l=>E4 l
 |_=>false
def GG (P:Program)(tmps:AQ):List Oper→List Nat→Mem→Option Mem
 |[],_,m=>some m
 |o::l,seen,m=>
  if A5 o then
   match CK P tmps o with
   |some (id,off,cs)=>
    match m.at id with
    | .cells c e=>if E4 c&& !seen.contains id&&Nat.ble (off+cs.length) c.length then GG P tmps l (id::seen) (m.set id (.cells (c.take off++cs++c.drop (off+cs.length)) e)) else none
    |_=>none
   |none=>none
  else GG P tmps l seen m
def C7 (tmps:AQ):List Oper→Mem→Mem
 |[],m=>m
 |o::l,m=>match Kr o with
  |some t=>(match tmps.get t with
   |some (.ptr id _)=>C7 tmps l (m.set id (N8 (m.at id)))
   |_=>C7 tmps l m)
  |none=>C7 tmps l m
def loud (qc:Bool)(D:List (Tmp × Nat))(o:Oper):Nat:=if Nat.beq (AK qc D o) 2&& !BK o.op then 3 else AK qc D o
def LS:Nat→List Nat→Nat→Nat
 |_,[],K=>K
 |j,k::r,K=>LS (j+1) r (if Nat.beq k 3 then j+1 else K)
def fL (DA:List (Tmp × Nat))(K:Nat)(o:Oper):Bool:=
 match Kr o with
 |some t=>Nat.beq K 0||(match BD DA t with|some k=>Nat.ble K k|none=>false)
 |none=>true
def new3 (P:Program)(tmps:AQ)(n:Nat)(o:Oper):Bool:=
 !A5 o||(match CK P tmps o with|some (id,_,_)=>Nat.ble n id|none=>false)
def Hz (qc md:Bool)(P:Program)(call:A8)(ys:Ys)(ops:Array Oper)(pc:PC)(l:Loc)(g:G):Option RS:=
 let ops0:=(ops.toList.map BM).toArray
 let D:=Au 0 ops.toList
 let DA:=AM 0 ops.toList
 let tg:=ops.toList.filterMap Kr
 let K:=LS 0 (ops0.toList.map (loud qc (AM 0 ops0.toList))) 0
 if (!tg.isEmpty&&MH D DA (AU ops.toList []) ops.toList)&&ops.toList.all (fL DA K) then do
  let s←FB qc md tg P call ys ops0 pc ⟨l.tmps,C7 l.tmps ops.toList l.mem⟩ g
  let m←GG P s.tmps ops.toList [] s.mem
  if Nat.beq K 0||ops.toList.all (new3 P s.tmps (C7 l.tmps ops.toList l.mem).length) then some { s with mem:=m } else none
 else none
def PV (P:Program)(call:A8)(ys:Ys)(ops:Array Oper)(pc:PC)(l:Loc)(g:G):List Nat→Option RS
 |[]=>none
 |n::r=>
  match (match n with
   |0=>FB false false [] P call ys ops pc l g
   |1=>FB false true [] P call ys ops pc l g
   |2=>Hz false false P call ys ops pc l g
   |3=>Hz false true P call ys ops pc l g
   |4=>FB true false [] P call ys ops pc l g
   |5=>Hz true false P call ys ops pc l g
   |6=>FB true true [] P call ys ops pc l g
   |_=>Hz true true P call ys ops pc l g) with
  |some s=>some s
  |none=>PV P call ys ops pc l g r
def W6 (P:Program)(call:A8)(ys:Ys)(ops:Array Oper)(draw:Bool)(pc:PC)(l:Loc)(g:G):Option RS:=
 if draw then (match S7 P call ys ops pc l g with|some s=>some s|none=>PV P call ys ops pc l g [0,1,2,3,4,5,6,7]) else C9 P call ys ops pc ops.toList ⟨l.tmps,l.mem,g,[]⟩
def TD (g:G)(sel:Rf)(pc:Option PC)(a b:Ar):Ar × G:=
 let (l,us):=Fi g.n sel a.l b.l
 let g:=g.pushAll us
 match pc with
 |some p=>(⟨a.k,p,l⟩,g)
 |none=>
  let g':=g.pushAll [⟨ "or",oOr,[EG a.pc,EG b.pc]⟩]
  (⟨a.k,some g.n,l⟩,g')
def GC (k:XK):List Ar→Option (Ar × List Ar)
 |[]=>none
 |o::os=>if o.k=k then some (o,os) else (GC k os).map fun (p,r)=>(p,o::r)
def noK (k:XK)(outs:List Ar):Bool:=outs.all fun o=> !decide (o.k=k)
def Du (sel:Option Rf)(norm:Option PC):List Ar→List Ar→G→List Ar × G
 |[],bs,g=>(bs,g)
 |a::as,bs,g=>
  match GC a.k bs with
  |none=>
   let (r,g):=Du sel norm as bs g
   (a::r,g)
  |some (b,bs)=>
   let (c,g):=TD g (sel.getD (EG a.pc)) (if a.k= .normal then norm else none) a b
   let (r,g):=Du sel norm as bs g
   (c::r,g)
def QJ:PC→PC→Bool
 |none,none=>true
 |some a,some b=>Nat.beq a b
 |_,_=>false
def PP (rec:Code→PC→Loc→G→Option (List Ar × G))(x:Nat)(a b:Code)(pc:PC)(l:Loc)(g:G):Option (List Ar × G):=if Nat.blt x g.n=false then none else do
 let (pa,g):=CD g pc x true
 let (oa,g) ←rec a pa l g
 let (pb,g):=CD g pc x false
 let (ob,g) ←rec b pb l g
 let whole:=(oa.any fun o=>decide (o.k= .normal)&&QJ o.pc pa)&&(ob.any fun o=>decide (o.k= .normal)&&QJ o.pc pb)&&oa.length=1&&ob.length=1
 some (Du (some (.e x)) (if whole then some pc else none) oa ob g)
def P5 (outs:List Ar)(g:G)(next:PC→Loc→G→Option (List Ar × G)):Option (List Ar × G):=
 match GC .normal outs with
 |none=>some (outs,g)
 |some (o,rest)=>do
  if noK .normal rest then
   let (outs',g) ←next o.pc o.l g
   some (Du none none rest outs' g)
  else none
inductive Sl where
 |tmp (t:Nat)
 |cell (id off:Nat)
 |tok (id:Nat)
 |st (id:Nat)
 deriving DecidableEq
structure DH where
 pre:List (Sl × TypeId × List Kd):=[]
 slots:List (Sl × Kd):=[]
 vecs:List (Sl × Nat × Nat):=[]
 kills:List Nat:=[]
def Ph (l:Loc):Sl→Option AC
 | .tmp t=>l.tmps.get t
 | .cell id off=>match l.mem.at id with
  | .cells c _=>c[off]?
  |_=>none
 | .tok id=>match l.mem.at id with
  | .tok x ks _=>some (.ro x ks)
  |_=>none
 | .st id=>match l.mem.at id with
  | .lp _ a=>some a
  |_=>none
def ND:Kd→Nat→AC
 | .int k lo hi,x=> .i k lo hi x
 |k,x=>KY k x
def jU (l:Loc)(k:Kd)(x:Nat):Sl→Option Loc
 | .tmp t=>some { l with tmps:=l.tmps.fix t (some (ND k x)) }
 | .cell id off=>match l.mem.at id with
  | .cells c e=>if off < c.length then some { l with mem:=l.mem.set id (.cells (c.set off (ND k x)) e) } else none
  |_=>none
 | .tok id=>match l.mem.at id,k with
  | .tok _ ks e,.list ks'=>if ks.length=ks'.length then some { l with mem:=l.mem.set id (.tok x ks' e) } else none
  |_,_=>none
 | .st id=>match l.mem.at id with
  | .lp s _=>some { l with mem:=l.mem.set id (.lp s (ND k x)) }
  |_=>none
def Zw (l:Loc):Nat→List (Sl × Kd)→Option Loc
 |_,[]=>some l
 |x,(s,k)::r=>do
  let l←jU l k x s
  Zw l (x+1) r
def Gu (l:Loc)(id x:Nat)(ks:List Kd):Sl→Option Loc
 | .tmp t=>some { l with tmps:=l.tmps.fix t (some (.vec id x ks)) }
 | .cell i off=>match l.mem.at i with
  | .cells c e=>if off < c.length then some { l with mem:=l.mem.set i (.cells (c.set off (.vec id x ks)) e) } else none
  |_=>none
 |_=>none
def Xv (l:Loc)(nh:Nat)(slots:List (Sl × Kd)):List (Sl × Nat × Nat)→Option Loc
 |[]=>some l
 |(s,id,j)::r=>do
  let (sj,kj) ←slots[j]?
  match sj,kj with
  | .tok id',.list ks=>if id=id' then (Gu l id (nh+j) ks s).bind fun l=>Xv l nh slots r else none
  |_,_=>none
def fit (k:Kd)(c:AC):Option (Rf × List Pr):=
 match k,EI c with
 | .int k lo hi,some (.int k' lo' hi',r)=>if k=k' then some (r,if lo≤lo'∧hi'≤hi then [] else [⟨ "between " ++toString lo++ " " ++toString hi,D8 lo hi,[r]⟩]) else none
 |k,some (k',r)=>if Kd.beq (Kd.join k' k) k&& !k.isAny then some (r,[]) else none
 |_,_=>none
def fits (l:Loc):List (Sl × Kd)→Option (List Rf × List Pr)
 |[]=>some ([],[])
 |(s,k)::r=>do
  let c←Ph l s
  let (x,ps) ←fit k c
  let (xs,ps') ←fits l r
  some (x::xs,ps++ps')
def FV (l:Loc)(g:G):List (Sl × TypeId × List Kd)→Option (Loc × G)
 |[]=>some (l,g)
 |(s,e,ks)::r=>
  match Ph l s with
  |some (.cv .nilSlice)=>
   if ks.isEmpty then none else (Gu { l with mem:=l.mem++[.tok g.n ks e] } l.mem.length g.n ks s).bind fun l'=>FV l' (g.pushAll [⟨ "id",oId,[.c (.list [])]⟩]) r
  |_=>none
def fN (tmps:AQ):List Nat→AQ
 |[]=>tmps
 |t::r=>fN (tmps.fix t none) r
def Xe (p:DH)(nh:Nat)(l:Loc):Option Loc:=do
 let l←Zw l nh p.slots
 let l←Xv l nh p.slots p.vecs
 some { l with tmps:=fN l.tmps p.kills }
mutual
def AC.lt (nh nm:Nat):AC→Bool
 | .any| .anyc| .cb _| .ci _ _| .cv _=>true
 | .on c a=>Nat.blt c nh&&AC.lt nh nm a
 | .gd c a=>Nat.blt c nh&&AC.lt nh nm a
 | .b x=>Nat.blt x nh
 | .nb x=>Nat.blt x nh
 | .i _ _ _ x=>Nat.blt x nh
 | .v x=>Nat.blt x nh
 | .s x=>Nat.blt x nh
 | .ro x _=>Nat.blt x nh
 | .ptr id _=>Nat.blt id nm
 | .pix id _ _ _ x _=>Nat.blt id nm&&Nat.blt x nh
 | .rp x t _ _=>Nat.blt x nh&&Nat.blt t nh
 | .vec id x _=>Nat.blt id nm&&Nat.blt x nh
 | .fn _ f c=>AC.ltL nh nm f&&AC.ltL nh nm c
 | .sel x l=>Nat.blt x nh&&AC.ltL nh nm l
 | .yl id=>Nat.blt id nm
 | .asl id _ _=>Nat.blt id nm
 | .rsv id x _=>Nat.blt id nm&&Nat.blt x nh
 | .agg l=>AC.ltL nh nm l
 | .tup l=>AC.ltL nh nm l
def AC.ltL (nh nm:Nat):List AC→Bool
 |[]=>true
 |a::l=>AC.lt nh nm a&&AC.ltL nh nm l
end
def T5 (nh nm:Nat):Tr→Bool
 | .nil=>true
 | .node v l r=>(match v with|some c=>AC.lt nh nm c|none=>true)&&T5 nh nm l&&T5 nh nm r
def U.same:U→U→Bool
 | .int a,.int b=>decide (a=b)
 | .bool a,.bool b=>a==b
 | .str a,.str b=>decide (a=b)
 | .list [],.list []=>true
 | .val .nilFunc,.val .nilFunc=>true
 | .val .nilIface,.val .nilIface=>true
 | .val (.pointer none),.val (.pointer none)=>true
 | .val (.map none),.val (.map none)=>true
 |_,_=>false
def Rf.same:Rf→Rf→Bool
 | .c u,.c v=>U.same u v
 | .e x,.e y=>Nat.beq x y
 | .n x,.n y=>Nat.beq x y
 |_,_=>false
def LO (nh:Nat)(rs:List Rf)(x:Nat)(r:Rf):Bool:=
 Nat.ble nh x&&(match rs[x - nh]? with
  |some r'=>Rf.same r' r
  |none=>false)
def HF (nh:Nat)(rs:List Rf)(x:Nat):Option (Rf × List Pr)→Option (List Pr)
 |some (r,ps)=>if LO nh rs x r then some ps else none
 |none=>none
def bf (m:Mem)(id x:Nat)(mh:Mem)(xh:Nat):Bool:=
 match mh.at id,m.at id with
 | .tok y ky e,.tok y' ky' e'=>Nat.beq y xh&&Nat.beq y' x&&Nat.beq e e'&&Nat.beq ky.length ky'.length
 |_,_=>false
def Zs (nh nm:Nat)(rs:List Rf)(mh m:Mem)(h c:AC):Option (List Pr):=
 match h with
 | .any=>some []
 | .i k lo hi x=>HF nh rs x (fit (.int k lo hi) c)
 | .b x=>HF nh rs x (fit .bool c)
 | .v x=>HF nh rs x (fit .val c)
 | .s x=>HF nh rs x (fit .str c)
 | .ro x ks=>HF nh rs x (fit (.list ks) c)
 | .vec id x ks=>
  match c with
  | .vec id' x' ks'=>if Nat.beq id id'&&Nat.blt id nm&&LO nh rs x (.e x')&&Kd.beq (Kd.join (.list ks') (.list ks)) (.list ks)&&bf m id x' mh x then some [] else none
  |_=>none
 |_=>none
def JI (nh nm:Nat)(rs:List Rf)(mh m:Mem)(h c:AC):Option (List Pr):=
 if AC.lt nh nm h&&AC.beq h c then some [] else Zs nh nm rs mh m h c
def L7:Option (List Pr)→Option (List Pr)→Option (List Pr)
 |some a,some b=>some (a++b)
 |_,_=>none
def JW (nh nm:Nat)(rs:List Rf)(mh m:Mem):List AC→List AC→Option (List Pr)
 |[],[]=>some []
 |h::l,c::l'=>L7 (JI nh nm rs mh m h c) (JW nh nm rs mh m l l')
 |_,_=>none
def E7:List (Nat × Bf)→Nat→Option Bf
 |[],_=>none
 |(s,S)::r,x=>if Nat.beq s x then some S else E7 r x
def lpLt (lps:List (Nat × Bf))(nh nm s:Nat):Bool:=
 match E7 lps s with
 |some S=>S.tmps.loc.isEmpty&&T5 nh nm S.tmps.t
 |none=>false
def Eg (lps:List (Nat × Bf))(nh nm:Nat)(rs:List Rf)(mh m:Mem):Blk→Blk→Option (List Pr)
 | .pad,.pad=>some []
 | .gone,b=>(match b with| .pad=>none|_=>some [])
 | .cells l e,.cells l' e'=>if Nat.beq e e' then JW nh nm rs mh m l l' else none
 | .tok x ks e,.tok x' ks' e'=>if Nat.beq e e'&&Nat.beq ks.length ks'.length&&((Nat.blt x nh&&Nat.beq x x'&&Kd.beqs ks ks')||LO nh rs x (.e x')) then some [] else none
 | .lp s st,.lp s' st'=>if Nat.beq s s'&&lpLt lps nh nm s then JI nh nm rs mh m st st' else none
 |_,_=>none
def JQ (lps:List (Nat × Bf))(nh nm:Nat)(rs:List Rf)(mh m:Mem):Mem→Mem→Option (List Pr)
 |[],_=>some []
 |b::l,b'::l'=>L7 (Eg lps nh nm rs mh m b b') (JQ lps nh nm rs mh m l l')
 |_,_=>none
def Zm (nh nm:Nat)(rs:List Rf)(mh m:Mem):Option AC→Option AC→Option (List Pr)
 |none,_=>some []
 |some .any,_=>some []
 |some h,some c=>JI nh nm rs mh m h c
 |_,_=>none
def Iu (nh nm:Nat)(rs:List Rf)(mh m:Mem):Tr→Tr→Option (List Pr)
 | .nil,_=>some []
 | .node v l r,t=>L7 (Zm nh nm rs mh m v t.val) (L7 (Iu nh nm rs mh m l t.lt) (Iu nh nm rs mh m r t.rt))
def Es (lps:List (Nat × Bf))(nh:Nat)(rs:List Rf)(hl l:Loc):Option (List Pr):=
 if hl.tmps.loc.isEmpty&&l.tmps.loc.isEmpty&&Nat.beq hl.tmps.n l.tmps.n then
  L7 (JQ lps nh hl.mem.length rs hl.mem l.mem hl.mem l.mem) (Iu nh hl.mem.length rs hl.mem l.mem hl.tmps.t l.tmps.t)
 else none
def Tab.upd (T:Tab)(x:Nat)(u:U):Tab:={ T with get:=fun y=>bif Nat.beq y x then u else T.get y }
def BW (T:Tab):List (Nat × Ex)→Tab
 |[]=>T
 |(x,e)::r=>let T':=BW T r;T'.upd x (e.eval T')
def Tab.upds (T:Tab):Nat→List U→Tab
 |_,[]=>T
 |x,u::us=>(T.upd x u).upds (x+1) us
def KW:List Nat→List U→Tab
 |x::xs,u::us=>(KW xs us).upd x u
 |_,_=>⟨fun _=>default,fun _ _=>True,fun _=>⟨default, #[],.skip,.skip,[]⟩,0⟩
def pcB (T:Tab):PC→Bool
 |none=>true
 |some c=>(T c).toB
structure Ae where
 nh:Nat
 k:Nat
 eqs:List (Nat × Ex)
 pcn:PC
 nxt:List Rf
 obs:List Ob
 fv:List Nat
def Ae.tab (D:Ae)(us hs:List U):Tab:=BW ((KW D.fv us).upds D.nh hs) D.eqs
def Ae.step (D:Ae)(us hs:List U):Option (List U):=
 let T:=D.tab us hs
 bif pcB T D.pcn then some (D.nxt.map (Rf.eval T)) else none
def Ae.ob (D:Ae)(us hs:List U):Prop:=∀o∈D.obs,o.holds (D.tab us hs)
def El {α:Type}(f:α→Option α):Nat→α→Option α
 |0,s=>some s
 |n+1,s=>(f s).bind (El f n)
inductive De {α:Type} (f:α→Option α) (s:α):α→Prop where
 |zero:De f s s
 |succ {t u:α}:De f s t→f t=some u→De f s u
def Ends {α:Type}(f:α→Option α)(s:α):Prop:=∃n t,El f n s=some t∧f t=none
open Classical in
def ZT {α:Type}(f:α→Option α)(s:α):α:=if h:∃t,De f s t∧f t=none then Classical.choose h else s
def Ae.res (D:Ae)(j:Nat)(us:List U):U:=(ZT (D.step (us.take D.fv.length)) (us.drop D.fv.length)).getD j default
def Ae.owes (D:Ae)(us:List U):Prop:=
 Ends (D.step (us.take D.fv.length)) (us.drop D.fv.length)∧∀hs,De (D.step (us.take D.fv.length)) (us.drop D.fv.length) hs→D.ob (us.take D.fv.length) hs
def EZ:List Rf→List Nat
 |[]=>[]
 | .c _::r=>EZ r
 | .e x::r=>x::EZ r
 | .n x::r=>x::EZ r
def Zn (acc:List Nat):List Nat→List Nat
 |[]=>acc
 |x::r=>Zn (if acc.contains x then acc else acc++[x]) r
def pcL:PC→List Nat|none=>[]|some c=>[c]
def Pv (nh:Nat)(eqs:List (Nat × Ex))(pcn:PC)(nxt:List Rf)(obs:List Ob):List Nat:=
 Zn [] ((((eqs.map fun p=>EZ p.2.args).flatten++pcL pcn++EZ nxt++(obs.map fun o=>pcL o.pc++EZ o.p.args).flatten)).filter fun x=>Nat.blt x nh)
def FD (fv:List Nat)(nh top:Nat)(l:List Nat):Bool:=l.all fun x=>fv.contains x||(Nat.ble nh x&&Nat.blt x top)
def DO (fv:List Nat)(nh lo:Nat):Nat→List (Nat × Ex)→Bool
 |top,[]=>Nat.beq top lo
 |top,(x,e)::r=>Nat.beq (x+1) top&&FD fv nh x (EZ e.args)&&DO fv nh lo x r
def Ae.inScope (D:Ae)(top:Nat):Bool:=
 DO D.fv D.nh (D.nh+D.k) top D.eqs&&FD D.fv D.nh top (pcL D.pcn)&&FD D.fv D.nh top (EZ D.nxt)&&D.obs.all (fun o=>FD D.fv D.nh top (pcL o.pc++EZ o.p.args))&&D.fv.all (fun x=>Nat.blt x D.nh)
def Ae.tg (D:Ae)(j:Nat):Tg:= .loop j D.nh D.k (D.eqs.map fun p=>(p.1,p.2.tag,p.2.args)) D.pcn D.nxt D.fv (D.obs.map fun o=>(o.pc,o.p.tag,o.p.args))
def Ae.heads (D:Ae)(inits:List Rf):List Ex:=(List.range D.k).map fun j=>⟨D.tg j,D.res j,D.fv.map .e++inits⟩
def DH.full (p:DH)(m0:Nat):DH:=
 {p with
  slots:=p.slots++p.pre.zipIdx.map fun (x:(Sl × TypeId × List Kd) × Nat)=>(Sl.tok (m0+x.2),Kd.list x.1.2.2)
  vecs:=p.vecs++p.pre.zipIdx.map fun (x:(Sl × TypeId × List Kd) × Nat)=>(x.1.1,m0+x.2,p.slots.length+x.2) }
def Ta (rec:PC→Loc→G→Option (List Ar × G))(p:DH)(pc:PC)(l:Loc)(g:G):Option (List Ar × G):=do
 let hl←Xe p g.n l
 let (inits,_) ←fits l p.slots
 let ps0←Es g.lps g.n inits hl l
 let (outs,g2) ←rec pc hl { n:=g.n+inits.length,eqs:=[],obs:=[],lps:=g.lps }
 match GC .normal outs with
 |none=>none
 |some (o,rest)=>do
  let (nxt,_) ←fits o.l p.slots
  let ps1←Es g.lps g.n nxt hl o.l
  let obs:=ps1.map (Ob.mk o.pc)++g2.obs
  let D:Ae:={ nh:=g.n,k:=inits.length,eqs:=g2.eqs,pcn:=o.pc,nxt,obs,fv:=Pv g.n g2.eqs o.pc nxt obs }
  if D.inScope g2.n&&Nat.beq nxt.length inits.length&&Nat.beq hl.mem.length l.mem.length&&noK .normal rest then
   some (rest,{ n:=g2.n,eqs:=g2.eqs++Gi g.n (D.heads inits) g.eqs,obs:=⟨pc,⟨D.tg 0,D.owes,D.fv.map .e++inits⟩⟩::(ps0.map (Ob.mk pc)++g.obs),lps:=g2.lps })
  else none
def ZF (rec:PC→Loc→G→Option (List Ar × G))(p:DH)(pc:PC)(l:Loc)(g:G):Option (List Ar × G):=do
 if l.tmps.loc.isEmpty=false then none else
 let (l',g') ←FV l g p.pre
 Ta rec (p.full l.mem.length) pc l' g'
def jB (a b:AC):Option Kd:=
 match EI a,EI b with
 |some (k,_),some (k',_)=>match Kd.join k k' with
  | .int k _ _=>some (.int k k.min k.max)
  | .any=>none
  |k=>some k
 |_,_=>none
def UP (f:Nat→Nat):Tr→Tr→List (Nat × AC × Option AC)
 | .nil,_=>[]
 | .node v l r,t=>
  (match v with
   |none|some .any=>[]
   |some a=>match t.val with
    |some b=>if AC.beq a b then [] else [(f 0,a,some b)]
    |none=>[(f 0,a,none)])++(UP (fun j=>f (2*j+1)) l t.lt++UP (fun j=>f (2*j+2)) r t.rt)
def Rl (id:Nat):Nat→List AC→List AC→List (Sl × AC × AC)
 |o,a::l,b::l'=>(if AC.beq a b then [] else [(Sl.cell id o,a,b)])++Rl id (o+1) l l'
 |_,_,_=>[]
def XH:Nat→Mem→Mem→List (Sl × AC × AC)
 |id,b::m,b'::m'=>(match b,b' with
   | .cells l _,.cells l' _=>Rl id 0 l l'
   | .tok x ks _,.tok x' ks' _=>if Nat.beq x x' then [] else [(Sl.tok id,.ro x ks,.ro x' ks')]
   | .lp _ a,.lp _ a'=>if AC.beq a a' then [] else [(Sl.st id,a,a')]
   |_,_=>[])++XH (id+1) m m'
 |_,_,_=>[]
def bB (nm:Nat):AC→AC→Option Nat
 | .vec id _ _,.vec id' _ _=>if Nat.beq id id'&&Nat.blt id nm then some id else none
 |_,_=>none
def iq (m:Mem)(id:Nat):Option TypeId:=match m.at id with| .tok _ _ e=>some e|_=>none
mutual
def Kd.wide:Kd→Kd
 | .int k _ _=> .int k k.min k.max
 | .list ks=> .list (Kd.wides ks)
 |k=>k
def Kd.wides:List Kd→List Kd
 |[]=>[]
 |k::ks=>Kd.wide k::Kd.wides ks
end
def jX (nm:Nat)(m':Mem)(p:DH)(s:Sl)(a b:AC):DH:=
 if p.slots.any (fun x=>decide (x.1=s))||p.pre.any (fun x=>decide (x.1=s)) then p else
 match bB nm a b with
 |some _=>p
 |none=>match a,b with
  | .cv .nilSlice,.vec id _ ks=>if Nat.blt id nm then p else match iq m' id with
   |some e=>{ p with pre:=p.pre++[(s,e,Kd.wides ks)] }
   |none=>p
  |a,b=>match jB a b,s with
   |some _,.st id=>{ p with slots:=p.slots++[(.st id,.int .i64 0 65536)] }
   |some k,_=>{ p with slots:=p.slots++[(s,k)] }
   |none,.tmp t=>{ p with kills:=p.kills++[t] }
   |none,_=>p
def cM (nm:Nat)(m':Mem):List (Sl × AC × AC)→DH→DH
 |[],p=>p
 |(s,a,b)::r,p=>cM nm m' r (jX nm m' p s a b)
def ii (p:DH)(id:Nat):Nat:=p.slots.findIdx fun x=>decide (x.1=Sl.tok id)
def XY (nm:Nat):List (Sl × AC × AC)→DH→DH
 |[],p=>p
 |(s,a,b)::r,p=>XY nm r (match bB nm a b with
  |some id=>if p.vecs.any (fun x=>decide (x.1=s)) then p else { p with vecs:=p.vecs++[(s,id,ii p id)] }
  |none=>p)
def da (d:List (Nat × AC × Option AC)):List (Sl × AC × AC):=d.filterMap fun x=>x.2.2.map fun b=>(Sl.tmp x.1,x.2.1,b)
def fm (d:List (Nat × AC × Option AC)):List Nat:=d.filterMap fun x=>match x.2.2 with|none=>some x.1|some _=>none
def O4 (p:DH):Nat:=p.pre.length+p.slots.length+p.vecs.length+p.kills.length
def Z3 (rec:PC→Loc→G→Option (List Ar × G))(pc:PC)(l:Loc)(g:G):Nat→DH→DH
 |0,p=>p
 |n+1,p=>
  match FV l g p.pre with
  |none=>p
  |some (l',g')=>
   let q:=p.full l.mem.length
   match Xe q g'.n l' with
   |none=>p
   |some hl=>match rec pc hl { n:=g'.n+q.slots.length,eqs:=[],obs:=[],lps:=g'.lps } with
    |none=>p
    |some (outs,_)=>match GC .normal outs with
     |none=>p
     |some (o,_)=>
      let d:=UP (fun j=>j) hl.tmps.t o.l.tmps.t
      let ds:=da d++XH 0 l.mem o.l.mem
      let p1:=cM l.mem.length o.l.mem ds p
      let p1:=XY l.mem.length ds p1
      let p1:={ p1 with kills:=p1.kills++(fm d).filter fun t=> !p1.kills.contains t }
      if Nat.beq (O4 p1) (O4 p) then p else Z3 rec pc l g n p1
def Zk (rec:PC→Loc→G→Option (List Ar × G))(p:DH)(pc:PC)(l:Loc)(g:G):Option (List Ar × G):=ZF rec (if Nat.beq (O4 p) 0 then Z3 rec pc l g 6 p else p) pc l g
mutual
def Ce:Code→List Df
 | .seq a b=>Ce a++Ce b
 | .cond _ a b=>Ce a++Ce b
 | .block id c=>(Ce c).filter fun j=>match j with| .exit i=> !Nat.beq i id| .ret=>true
 | .loop c=>Ce c
 | .scope c=>Ce c
 | .exit id=>[.exit id]
 | .ret=>[.ret]
 | .rangeFunc _ _ a b=>Ce a++Ce b
 |_=>[]
end
def Lg:List Df→List Df
 |[]=>[]
 |j::r=>if (Lg r).contains j then Lg r else j::Lg r
def Ie (tmps:AQ):List Tmp→List AC→AQ
 |p::ps,a::as=>Ie (tmps.fix p (some a)) ps as
 |_,_=>tmps
def Df.xk:Df→XK| .ret=> .ret| .exit id=> .exit id
def Ms (js:List Df):XK→Option Nat
 | .normal=>some 0
 | .ret=>(js.findIdx? (· = .ret)).map (· +1)
 | .exit id=>(js.findIdx? (· = .exit id)).map (· +1)
def endRound (js:List Df)(id stamp:Nat)(o:Ar)(_:G):Option (AC × Mem):=do
 let k←Ms js o.k
 match o.l.mem.at id with
 | .lp s (.ci .i64 (-1))=>if Nat.beq s stamp then some (.cb (Nat.beq k 0),o.l.mem.set id (.lp stamp (.ci .i64 k))) else none
 |_=>none
def Cc (fin:Ar→G→Option (AC × Mem)):List Ar→G→Option (AC × Mem × G)
 |[],_=>none
 |[o],g=>do
  let (c,m) ←fin o g
  some (c,m,g)
 |o::os,g=>do
  let (c',m',g) ←Cc fin os g
  let (c,m0) ←fin o g
  let (m,us):=Ba (EG o.pc) g.n m0 m'
  let (c,us'):=FA (g.n+us.length) (EG o.pc) c c'
  some (c,m,g.pushAll (us++us'))
def Kq (rec:Code→PC→Loc→G→Option (List Ar × G))(S:Bf)(stamp:Nat):YF:=fun id args pc m g=>
 match m.at id with
 | .lp s st=>
  if Nat.beq s stamp=false∨args.length≠S.ps.size∨S.tmps.loc.isEmpty=false then none else do
  let g←(match st with
   | .ci .i64 0=>some g
   | .i .i64 _ _ x=>some (g.needAll pc [⟨ "ready",TI,[.e x]⟩])
   |_=>none)
  let (o1,g) ←rec S.assign pc ⟨Ie S.tmps S.ps.toList args,m⟩ g
  match o1 with
  |[o]=>do
   if o.k≠ .normal then none else
   if Blk.beq (o.l.mem.at id) (.lp s st) then do
    let (outs,g) ←rec S.body o.pc { o.l with mem:=o.l.mem.set id (.lp stamp (.ci .i64 (-1))) } g
    Cc (endRound S.jumps id stamp) outs g
   else none
  |_=>none
 |_=>none
def CF (x:Nat)(pc:PC)(l:Loc):Nat→List Df→G→List Ar × G
 |_,[],g=>([],g)
 |k,j::js,g=>
  let g1:=g.pushAll [⟨ "eq",oEq,[.e x,.c (.int (k+1))]⟩]
  let (p,g2):=CD g1 pc g.n true
  let (r,g3):=CF x pc l (k+1) js g2
  (⟨j.xk,p,l⟩::r,g3)
structure G4 where
 keep:Nat
 plan:Nat→Option DH
 nar:Nat→Option (Tmp × Int × Int)
def CZ (h:Option (Tmp × Int × Int))(pc:PC)(t:AQ)(g:G):AQ × G:=
 match h with
 |none=>(t,g)
 |some (i,lo,hi)=>
  match t.get i with
  |some (.i k _ _ x)=>(t.set i (.i k lo hi x),g.needAll pc [⟨ "between " ++toString lo++ " " ++toString hi,D8 lo hi,[.e x]⟩])
  |_=>(t,g)
def Ys.add (ys:Ys)(stamp:Nat)(y:YF):Ys:=fun s=>if Nat.beq s stamp then some y else ys s
def UB (rec:Code→PC→Loc→G→Option (List Ar × G))(call:A8)(ys:Ys)(f:Operand)(ps:Array Tmp)(assign body:Code)(pc:PC)(l:Loc)(g:G):Option (List Ar × G):=
 if l.tmps.loc.isEmpty=false then none else
 match HJ [] l.tmps f with
 | .fn (.func k) first cap=>do
  let id:=l.mem.length
  let stamp:=g.n
  let S:Bf:={ tmps:=l.tmps,ps,assign,body,jumps:=Lg (Ce body) }
  let (_,m2,g2) ←call (ys.add stamp (Kq rec S stamp)) k (first++[.yl id]++cap) pc (l.mem++[.lp stamp (.ci .i64 0)]) { g.pushAll [⟨ "id",oId,[.c (.int 0)]⟩] with lps:=(stamp,S)::g.lps }
  match m2.at id with
  | .lp s st=>
   if Nat.beq s stamp=false then none else
   let l2:Loc:=⟨l.tmps,m2.set id .gone⟩
   match st with
   | .ci .i64 0=>some ([⟨.normal,pc,l2⟩],g2)
   | .i .i64 0 _ x=>
    let g3:=g2.pushAll [⟨ "eq",oEq,[.e x,.c (.int 0)]⟩]
    let (p,g4):=CD g3 pc g2.n true
    let (r,g5):=CF x pc l2 0 S.jumps g4
    some (⟨.normal,p,l2⟩::r,g5)
   |_=>none
  |_=>none
 |_=>none
def fF (rec:PC→Loc→G→Option (List Ar × G))(pc:PC)(l:Loc)(g:G):Option (List Ar × G):=
 match rec pc l g with
 |some (outs,g')=>if noK .normal outs then some (outs,g') else none
 |none=>none
def Bu (P:Program)(call:A8)(hint:G4)(inR:Bool)(ys:Ys):Nat→Nat→Code→PC→Loc→G→Option (List Ar × G)
 |0,_,_,_,_,_=>none
 |fuel+1,blk,c,pc,l,g=>
  match c with
  | .skip| .label _=>some ([⟨.normal,pc,l⟩],g)
  | .region id ops draw=>do
   let s←W6 P call ys ops draw pc l g
   some ([⟨.normal,pc,⟨(CZ (hint.nar id) pc s.tmps s.g).1.commit hint.keep,s.mem⟩⟩],(CZ (hint.nar id) pc s.tmps s.g).2)
  | .seq a b=>do
   let (outs,g) ←Bu P call hint inR ys fuel blk a pc l g
   P5 outs g (Bu P call hint inR ys fuel blk b)
  | .cond c a b=>
   match HJ [] l.tmps c with
   | .cb t=>Bu P call hint inR ys fuel blk (if t then a else b) pc l g
   | .b x=>PP (Bu P call hint inR ys fuel blk) x a b pc l g
   | .nb x=>PP (Bu P call hint inR ys fuel blk) x b a pc l g
   |_=>none
  | .block id c=>do
    let (outs,g) ←Bu P call hint inR ys fuel id c pc l g
    match GC (.exit id) outs with
    |none=>some (outs,g)
    |some (e,rest)=>
     if noK (.exit id) rest then
      some (Du none none [⟨.normal,e.pc,e.l⟩] rest g)
     else none
  | .loop c=>
   match hint.plan blk with
   |some p=>match fF (Bu P call hint inR ys fuel blk c) pc l g with
    |some r=>some r
    |none=>Zk (Bu P call hint inR ys fuel blk c) p pc l g
   |none=>do
    let (outs,g) ←Bu P call hint inR ys fuel blk c pc l g
    P5 outs g (Bu P call hint inR ys fuel blk (.loop c))
  | .rangeFunc f ps assign body=>if inR then none else UB (Bu P call hint true ys fuel blk) call ys f ps assign body pc l g
  | .scope c=>Bu P call hint inR ys fuel blk c pc l g
  | .exit id=>some ([⟨.exit id,pc,l⟩],g)
  | .ret=>some ([⟨.ret,pc,l⟩],g)
  |_=>none
def Iz (P:Program)(l:Loc)(g:G):ResultVar→Option (AC × List Ex)
 | .tmp t=>some ((l.tmps.get t).getD .any,[])
 | .cell a t=>(TA P t ((l.tmps.get a).getD .any) l.mem g).bind fun r=>match r.ps,r.us with
  |[],[]=>some (r.c,[])
  |_,_=>none
def Oj (P:Program)(fn:Func)(l:Loc)(g:G):Option AC:=do
 let rs←fn.results.toList.mapM (Iz P l g)
 match rs with
 |[(c,_)]=>some c
 |rs=>some (.tup (rs.map (·.1)))
def K3 (P:Program)(fn:Func)(o:Ar)(g:G):Option (AC × Mem):=
 if o.k= .ret∨o.k= .normal then (Oj P fn o.l g).map fun c=>(c,o.l.mem) else none
def OJ:Nat→List AC→Tr→Tr
 |_,[],t=>t
 |i,c::r,t=>OJ (i+1) r (Tr.setF 16 t i (some c))
def OE (n:Nat)(args:List AC):AQ:=⟨n,[],OJ 0 args .nil⟩
def eS (P:Program)(call:A8)(Ag:FuncId→G4)(fuel:Nat):A8:=fun ys f args pc m g=>do
 let fn←P.funcs[f]?
 let c←fn.body
 if fn.name== "runtime.NumGoroutine" ||Nat.blt fn.ntmps args.length then none else
 let (outs,g) ←Bu P call (Ag f) false ys fuel 0 c pc ⟨OE fn.ntmps args,m⟩ g
 Cc (K3 P fn) outs g
def Hw (P:Program)(ctx:FuncId→Option A8)(Ag:FuncId→G4)(fuel:Nat):Nat→A8
 |0=>fun _ _ _ _ _ _=>none
 |d+1=>fun ys f=>match ctx f with
  |some c=>c ys f
  |none=>eS P (Hw P ctx Ag fuel d) Ag fuel ys f
end Go.Eng
end
noncomputable section
namespace Go.Eng
open Go Go.RowKit
structure AP (g g':G):Prop where
 n:g.n≤g'.n
 eqs:∀p∈g.eqs,p∈g'.eqs
 obs:∀o∈g.obs,o∈g'.obs
 lps:∀p∈g.lps,p∈g'.lps
theorem AP.refl (g:G):AP g g:=⟨Nat.le_refl _,fun _ h=>h,fun _ h=>h,fun _ h=>h⟩
theorem AP.trans {a b c:G}(h:AP a b)(k:AP b c):AP a c:=
 ⟨Nat.le_trans h.n k.n,fun x hx=>k.eqs x (h.eqs x hx),fun x hx=>k.obs x (h.obs x hx),fun x hx=>k.lps x (h.lps x hx)⟩
theorem Agr.of {T:Tab}{g g':G}(h:Agr T g')(k:AP g g'):Agr T g:=⟨fun p hp=>h.eqs p (k.eqs p hp),fun p hp=>h.lps p (k.lps p hp)⟩
theorem An.of {T:Tab}{g g':G}(h:An T g')(k:AP g g'):An T g:=fun o ho=>h o (k.obs o ho)
theorem BY (g:G)(us:List Ex):(g.pushAll us).n=g.n+us.length:=by cases us<;>simp[G.pushAll]
theorem Wl (g:G)(us:List Ex):(g.pushAll us).obs=g.obs:=by cases us<;>rfl
theorem WP (g:G)(us:List Ex):(g.pushAll us).lps=g.lps:=by cases us<;>rfl
theorem AP.push (g:G)(us:List Ex):AP g (g.pushAll us):=by
 refine⟨by rw[BY];omega,fun p hp=>?_,fun o ho=>by rw[Wl];exact ho,fun p hp=>by rw[WP];exact hp⟩
 cases us with
 |nil=>exact hp
 |cons u us=>exact (Gn _ _ _ _).2 (.inl hp)
theorem Agr.new {T:Tab}{g:G}{us:List Ex}(h:Agr T (g.pushAll us)):New T g.n us:=fun j u hj=>by
 cases us with
 |nil=>simp at hj
 |cons v us=>exact h.eqs (g.n+j,u) ((Gn _ _ _ _).2 (.inr ⟨j,u,hj,rfl⟩))
theorem DT (ps:List Pr)(g:G)(pc:PC):(g.needAll pc ps).n=g.n∧(g.needAll pc ps).eqs=g.eqs∧(g.needAll pc ps).lps=g.lps∧((g.needAll pc ps).obs=ps.map (Ob.mk pc)++g.obs):=by
 cases ps<;>exact⟨rfl,rfl,rfl,rfl⟩
theorem AP.need (g:G)(pc:PC)(ps:List Pr):AP g (g.needAll pc ps):=by
 obtain⟨h1,h2,h3,h4⟩:=DT ps g pc
 exact⟨by omega,fun p hp=>by rw[h2];exact hp,fun o ho=>by rw[h4];exact List.mem_append_right _ ho,fun p hp=>by rw[h3];exact hp⟩
theorem Agr.need {T:Tab}{g:G}{pc:PC}{ps:List Pr}(h:Agr T (g.needAll pc ps)):Agr T g:=h.of (AP.need g pc ps)
theorem An.need {T:Tab}{g:G}{pc:PC}{ps:List Pr}(h:An T (g.needAll pc ps))(hp:pcv T pc):∀p∈ps,p.holds T:=fun p hps=>by
 obtain⟨_,_,_,h4⟩:=DT ps g pc
 exact h ⟨pc,p⟩ (by rw[h4];exact List.mem_append_left _ (List.mem_map.2 ⟨p,hps,rfl⟩)) hp
def BJ (T:Tab)(g:G):PC→Prop
 |none=>True
 |some c=>c < g.n∧∃b,T c= .bool b
theorem BJ.grow {T:Tab}{g g':G}{pc:PC}(h:BJ T g pc)(k:AP g g'):BJ T g' pc:=by
 cases pc with
 |none=>trivial
 |some c=>exact⟨Nat.lt_of_lt_of_le h.1 k.n,h.2⟩
theorem QQ {T:Tab}{g:G}{pc:PC}{x:Nat}{bx want:Bool}(hk:BJ T g pc)(hb:T x= .bool bx):∃b,(CY pc x want).eval T= .bool b∧(b=true↔pcv T pc∧bx=want):=by
 cases pc with
 |none=>
  refine⟨if want then bx else !bx,?_,?_⟩
  ·cases want<;>simp[CY,Ex.eval,oId,Qt,u0,eve,hb,U.toB]
  ·cases want<;>cases bx<;>simp[pcv]
 |some c=>
  obtain⟨_,bc,hc⟩:=hk
  refine⟨bc&&(if want then bx else !bx),?_,?_⟩
  ·cases want<;>simp[CY,Ex.eval,NF,u0,u1,eve,evn,hb,hc,U.toB]
  ·cases want<;>cases bx<;>cases bc<;>simp[pcv,hc]
theorem Pf {T:Tab}{g:G}{pc:PC}{x:Nat}{want:Bool}(hk:BJ T g pc)(hn:¬pcv T pc):∃b,(CY pc x want).eval T= .bool b∧b=false:=by
 cases pc with
 |none=>exact absurd trivial hn
 |some c=>
  obtain⟨_,bc,hc⟩:=hk
  cases bc with
  |true=>exact absurd hc hn
  |false=>exact⟨false,by simp[CY,Ex.eval,NF,u0,eve,hc,U.toB],rfl⟩
theorem G7 (i j:Nat)(c:AC)(r:List (Nat × AC)):BR ((i,c)::r) j=if i=j then some c else BR r j:=by
 simp only[BR]
 by_cases h:i=j
 ·subst h;simp
 ·have:Nat.beq i j=false:=by
   cases hb:Nat.beq i j with
   |false=>rfl
   |true=>exact absurd (Nat.eq_of_beq_eq_true hb) h
  simp[this,h]
theorem AQ.get_set (s:AQ)(d i:Nat)(c:AC){e:AC}(h:(s.set d c).get i=some e):(i=d∧d < s.n∧e=c)∨((d=i→¬d < s.n)∧s.get i=some e):=by
 unfold AQ.set at h
 cases hd:Nat.blt d s.n with
 |false=>
  rw[hd] at h
  refine .inr ⟨fun _ hlt=>?_,h⟩
  rw[←Nat.blt_eq] at hlt
  rw[hlt] at hd;cases hd
 |true=>
  rw[hd] at h
  have hlt:d < s.n:=by rwa [Nat.blt_eq] at hd
  simp only[cond_true,AQ.get,G7] at h
  by_cases e':d=i
  ·subst e'
   simp at h
   exact .inl ⟨rfl,hlt,h.symm⟩
  ·rw[if_neg e'] at h
   exact .inr ⟨fun h'=>absurd h' e',h⟩
theorem AQ.set_n (s:AQ)(d:Nat)(c:AC):(s.set d c).n=s.n:=by
 unfold AQ.set
 cases Nat.blt d s.n<;>rfl
theorem DI (i j:Nat):Nat.beq i j=true↔i=j:=⟨Nat.eq_of_beq_eq_true,fun h=>by subst h;simp⟩
theorem Tr.get_step (t:Tr)(i:Nat):t.get i=if i=0 then t.val else if i % 2=1 then t.lt.get (i / 2) else t.rt.get (i / 2 - 1):=by
 cases t with
 |nil=>simp[Tr.get,Tr.val,Tr.lt,Tr.rt]
 |node v l r=>
  simp only[Tr.get,Tr.val,Tr.lt,Tr.rt]
  by_cases h0:i=0
  ·subst h0;simp
  ·have e0:Nat.beq i 0=false:=by
    cases hb:Nat.beq i 0 with
    |false=>rfl
    |true=>exact absurd ((DI _ _).1 hb) h0
   rw[e0,if_neg h0]
   by_cases h1:i % 2=1
   ·have e1:Nat.beq (i % 2) 1=true:=(DI _ _).2 h1
    rw[e1,if_pos h1];rfl
   ·have e1:Nat.beq (i % 2) 1=false:=by
     cases hb:Nat.beq (i % 2) 1 with
     |false=>rfl
     |true=>exact absurd ((DI _ _).1 hb) h1
    rw[e1,if_neg h1];rfl
theorem Tr.get_setF:∀(f:Nat) (t:Tr) (d i:Nat) (c:Option AC) (e:AC),(Tr.setF f t d c).get i=some e→(i=d∧c=some e)∨(i≠d∧t.get i=some e)
 |0,t,d,i,c,e,h=>by simp[Tr.setF,Tr.get] at h
 |f+1,t,d,i,c,e,h=>by
  rw[Tr.get_step t i]
  simp only[Tr.setF] at h
  by_cases h0:d=0
  ·subst h0
   rw[show Nat.beq 0 0=true from rfl] at h
   simp only[cond_true] at h
   rw[Tr.get_step] at h
   by_cases hi:i=0
   ·subst hi
    exact .inl ⟨rfl,by simpa [Tr.val] using h⟩
   ·rw[if_neg hi] at h⊢
    exact .inr ⟨hi,h⟩
  ·have e0:Nat.beq d 0=false:=by
    cases hb:Nat.beq d 0 with
    |false=>rfl
    |true=>exact absurd ((DI _ _).1 hb) h0
   rw[e0] at h
   by_cases h1:d % 2=1
   ·have e1:Nat.beq (d % 2) 1=true:=(DI _ _).2 h1
    rw[e1] at h
    simp only[cond_true,cond_false] at h
    rw[Tr.get_step] at h
    by_cases hi:i=0
    ·subst hi
     exact .inr ⟨fun h=>h0 h.symm,by rw[if_pos rfl] at h⊢;exact h⟩
    ·rw[if_neg hi] at h⊢
     by_cases hi1:i % 2=1
     ·rw[if_pos hi1] at h⊢
      rcases Tr.get_setF f _ _ _ _ _ h with⟨h2,h3⟩|⟨h2,h3⟩
      ·exact .inl ⟨by omega,h3⟩
      ·exact .inr ⟨fun he=>h2 (by omega),h3⟩
     ·rw[if_neg hi1] at h⊢
      exact .inr ⟨fun he=>hi1 (by omega),h⟩
   ·have e1:Nat.beq (d % 2) 1=false:=by
     cases hb:Nat.beq (d % 2) 1 with
     |false=>rfl
     |true=>exact absurd ((DI _ _).1 hb) h1
    rw[e1] at h
    simp only[cond_false] at h
    rw[Tr.get_step] at h
    by_cases hi:i=0
    ·subst hi
     exact .inr ⟨fun h=>h0 h.symm,by rw[if_pos rfl] at h⊢;exact h⟩
    ·rw[if_neg hi] at h⊢
     by_cases hi1:i % 2=1
     ·rw[if_pos hi1] at h⊢
      exact .inr ⟨fun he=>h1 (by omega),h⟩
     ·rw[if_neg hi1] at h⊢
      rcases Tr.get_setF f _ _ _ _ _ h with⟨h2,h3⟩|⟨h2,h3⟩
      ·exact .inl ⟨by omega,h3⟩
      ·exact .inr ⟨fun he=>h2 (by omega),h3⟩
theorem OQ (keep:Nat):∀(l:List (Nat × AC)) (t:Tr) (i:Nat) (e:AC),(Ks keep l t).get i=some e→BR l i=some e∨(BR l i=none∧t.get i=some e)
 |[],t,i,e,h=> .inr ⟨rfl,h⟩
 |(j,c)::r,t,i,e,h=>by
  rw[G7]
  simp only[Ks] at h
  have ih:=OQ keep r t i e
  split at h
  ·rcases Tr.get_setF _ _ _ _ _ _ h with⟨h1,h2⟩|⟨h1,h2⟩
   ·rw[if_pos h1.symm];exact .inl h2
   ·rw[if_neg (fun e=>h1 e.symm)];exact ih h2
  ·split at h
   ·rename_i hn
    by_cases hij:j=i
    ·subst hij
     rw[hn] at h;cases h
    ·rw[if_neg hij];exact ih h
   ·rcases Tr.get_setF _ _ _ _ _ _ h with⟨h1,h2⟩|⟨h1,h2⟩
    ·cases h2
    ·rw[if_neg (fun e=>h1 e.symm)];exact ih h2
theorem AQ.get_commit (s:AQ)(keep i:Nat){e:AC}(h:(s.commit keep).get i=some e):s.get i=some e:=by
 have h':(Ks keep s.loc s.t).get i=some e:=h
 rcases OQ _ _ _ _ _ h' with h1|⟨h1,h2⟩
 ·simp[AQ.get,h1]
 ·simp[AQ.get,h1,h2]
theorem AQ.get_fix (s:AQ)(hl:s.loc=[])(d i:Nat)(c:Option AC){e:AC}(h:(s.fix d c).get i=some e):(i=d∧d < s.n∧c=some e)∨((d=i→¬d < s.n)∧s.get i=some e):=by
 unfold AQ.fix at h
 cases hd:Nat.blt d s.n with
 |false=>
  rw[hd] at h
  refine .inr ⟨fun _ hlt=>?_,h⟩
  rw[←Nat.blt_eq] at hlt
  rw[hlt] at hd;cases hd
 |true=>
  rw[hd] at h
  have hlt:d < s.n:=by rwa [Nat.blt_eq] at hd
  simp only[cond_true,AQ.get,hl,BR] at h⊢
  rcases Tr.get_setF _ _ _ _ _ _ h with⟨h1,h2⟩|⟨h1,h2⟩
  ·exact .inl ⟨h1,hlt,h2⟩
  ·exact .inr ⟨fun e=>absurd e.symm h1,h2⟩
theorem AQ.fix_n (s:AQ)(d:Nat)(c:Option AC):(s.fix d c).n=s.n:=by
 unfold AQ.fix
 cases Nat.blt d s.n<;>rfl
theorem AQ.fix_loc (s:AQ)(d:Nat)(c:Option AC):(s.fix d c).loc=s.loc:=by
 unfold AQ.fix
 cases Nat.blt d s.n<;>rfl
theorem AQ.commit_n (s:AQ)(keep:Nat):(s.commit keep).n=s.n:=rfl
section
variable {P:Program}{T:Tab}{n n':Nat}{ρ ρ':Nat→Option Nat}{m m':Mem}{w w':World}{a:Act}
def DU (B:Nat)(ρ :Nat→Option Nat)(m:Mem)(w:World)(ds:List Deferred):Prop:=
 B≤w.heap.size∧∃Ds:List Nat,ds=Ds.map (fun D=>{ target:= .collected D,args:= #[] })∧Ds.Nodup∧∀D∈Ds,B≤D∧w.heap[D]? =some (.deferred (some []))∧∀id,(m.at id).tracked=true→ ρ id≠some D
theorem DU.nil {B:Nat}(ρ :Nat→Option Nat)(m:Mem)(w:World)(hB:B≤w.heap.size):DU B ρ m w []:=⟨hB,[],rfl,List.nodup_nil,fun D h=>by simp at h⟩
theorem DU.on {B:Nat}{ds:List Deferred}(h:DU B ρ m w ds)(hs:AJ T n ρ m w ρ' m' w'):DU B ρ' m' w' ds:=by
 obtain⟨h0,Ds,h1,h2,h3⟩:=h
 refine⟨Nat.le_trans h0 hs.size,Ds,h1,h2,fun D hD=>?_⟩
 obtain⟨k0,k1,k2⟩:=h3 D hD
 have hlt:=(Array.getElem?_eq_some_iff.1 k1).1
 refine⟨k0,by rw[hs.old D hlt k2];exact k1,fun id ht he=>?_⟩
 rcases hs.back ht he with q|⟨q1,q2⟩
 ·omega
 ·exact k2 id q1 q2
structure Rel (T:Tab) (n:Nat) (ρ :Nat→Option Nat) (l:Loc) (a:Act) (w:World):Prop where
 defers:DU T.base ρ l.mem w a.defers
 size:a.tmps.size=l.tmps.n
 tmps:∀i c,l.tmps.get i=some c→AB T n ρ l.mem w c (a.tmps.getD i undef)
 mem:AH T n ρ l.mem w
theorem Rel.at {l:Loc}(h:Rel T n ρ l a w)(t:Nat):AB T n ρ l.mem w ((l.tmps.get t).getD .any) (a.tmps.getD t undef):=by
 cases hc:l.tmps.get t with
 |none=>exact trivial
 |some c=>exact h.tmps t c hc
theorem Rel.on {tmps:AQ}(h:Rel T n ρ ⟨tmps,m⟩ a w)(hs:AJ T n ρ m w ρ' m' w')(hn:n≤n')(hm':AH T n' ρ' m' w'):Rel T n' ρ' ⟨tmps,m'⟩ a w':=
 ⟨h.defers.on hs,h.size,fun i c hc=>AB.mono hs h.mem hn c _ (h.tmps i c hc),hm'⟩
theorem Rel.put {tmps:AQ}(h:Rel T n ρ ⟨tmps,m⟩ a w)(dst:Option Tmp){c:AC}{v:Value}(hc:AB T n ρ m w c v):
  Rel T n ρ ⟨DG tmps dst c,m⟩ (a.put dst v) w:=by
 cases dst with
 |none=>exact h
 |some d=>
  have hsz:a.tmps.size=tmps.n:=h.size
  refine⟨h.defers,by simp[Act.put,DG,AQ.set_n,hsz],fun i e he=>?_,h.mem⟩
  rcases AQ.get_set _ _ _ _ he with⟨h1,h2,h3⟩|⟨h1,h2⟩
  ·subst h1;subst h3
   simp only[Act.put,Array.getD_eq_getD_getElem?,Array.getElem?_setIfInBounds,if_true]
   rw[if_pos (by omega)]
   exact hc
  ·have:=h.tmps i e h2
   simp only[Act.put,Array.getD_eq_getD_getElem?,Array.getElem?_setIfInBounds] at this⊢
   by_cases hd:d=i
   ·have:=h1 hd
    subst hd
    rw[if_pos rfl,if_neg (by omega)]
    have h3:=h.tmps d e h2
    rw[Array.getD_eq_getD_getElem?,Array.getElem?_eq_none (by omega)] at h3
    exact h3
   ·rw[if_neg hd]
    exact this
theorem Rel.less {l:Loc}{s:AQ}(h:Rel T n ρ l a w)(hn:s.n=l.tmps.n)(hs:∀i c,s.get i=some c→l.tmps.get i=some c):Rel T n ρ ⟨s,l.mem⟩ a w:=
 ⟨h.defers,by rw[h.size];exact hn.symm,fun i c hc=>h.tmps i c (hs i c hc),h.mem⟩
theorem N6 {imp:List Nat}(himp:∀c∈imp,T c= .bool true){c:AC}{v:Value}(h:AB T n ρ m w c v):AB T n ρ m w (Lx imp c) v:=by
 cases c<;>try exact h
 case on c d=>
  simp only[Lx]
  split
  ·rename_i hc
   exact h.2 (himp c (by simpa using hc))
  ·exact h
 case gd c d=>
  simp only[Lx]
  split
  ·rename_i hc
   exact h.2.1 (himp c (by simpa using hc))
  ·exact h
theorem GK {tmps:AQ}(h:Rel T n ρ ⟨tmps,m⟩ a w){imp:List Nat}(himp:∀c∈imp,T c= .bool true)(x:Operand):AB T n ρ m w (HJ imp tmps x) (a.eval x):=by
 cases x with
 |tmp t=>exact N6 himp (h.at t)
 |const v=>exact Ix v
 |global g=>exact trivial
 |func f=>exact⟨[],[],rfl,rfl,rfl⟩
theorem AJ.weaken {m2:Mem}(h:∀id,m2.at id=m.at id∨m2.at id= .gone):AJ T n ρ m w ρ m2 w where
 os:=rfl
 tape:=rfl
 output:=rfl
 size:=Nat.le_refl _
 mlen:=fun id hp=>by
  rcases h id with e|e
  ·rw[e];exact hp
  ·rw[e];exact fun h=>by cases h
 rho:=fun id hp=>by
  refine⟨rfl,?_⟩
  rcases h id with e|e
  ·rw[e];exact hp
  ·rw[e];rfl
 untr:=fun id _ ht=>by
  rcases h id with e|e
  ·rw[←e];exact ht
  ·rw[e] at ht;cases ht
 fresh:=fun id b hp ht _=>by
  rcases h id with e|e
  ·rw[e,hp] at ht;cases ht
  ·rw[e] at ht;cases ht
 old:=fun _ _ _=>rfl
 tok:=fun id x ks e hx=>by
  rcases h id with e'|e'
  ·exact .inl ⟨by rw[e'];exact hx,rfl,fun _ _=>rfl⟩
  ·exact .inr ⟨fun _ _ _ _=>rfl,.inl e'⟩
theorem AH.weaken (hm:AH T n ρ m w){m2:Mem}(h:∀id,m2.at id=m.at id∨m2.at id= .gone):AH T n ρ m2 w where
 fr:=hm.fr
 blk:=fun id=>by
  rcases h id with e|e
  ·exact BU.step (AJ.weaken h) hm (Nat.le_refl _) e rfl (fun _ _=>rfl)
  ·rw[e];trivial
 inj:=fun id id' b ht ht' h1 h2=>by
  refine hm.inj id id' b ?_ ?_ h1 h2
  ·rcases h id with e|e
   ·rw[←e];exact ht
   ·rw[e] at ht;cases ht
  ·rcases h id' with e|e
   ·rw[←e];exact ht'
   ·rw[e] at ht';cases ht'
structure Eh (T:Tab) (ops:Array Oper) (n:Nat) (a:Act) (e:GE):Prop where
 lt:e.p < n
 bool:∃b,T e.p= .bool b
 iff:T e.p= .bool true↔yielded ops a.tmps e.j=some e.want
 imp:T e.p= .bool true→∀c∈e.imp,T c= .bool true
 ne:e.imp≠[]
structure Bq (T:Tab) (ρ :Nat→Option Nat) (ops:Array Oper) (s:RS) (a:Act) (w:World):Prop where
 rel:Rel T s.g.n ρ ⟨s.tmps,s.mem⟩ a w
 ges:∀e∈s.gl,Eh T ops s.g.n a e
theorem Eh.up {ops:Array Oper}{e:GE}(h:Eh T ops n a e)(hn:n≤n'):Eh T ops n' a e:=⟨Nat.lt_of_lt_of_le h.lt hn,h.bool,h.iff,h.imp,h.ne⟩
theorem Ws {ops:Array Oper}{pc0:PC}{base:List Nat}{s s':RS}{j:Nat}{want:Bool}{c:AC}{run:Option (PC × List Nat)}{v:Value}(h:Dg pc0 base s j want c=some (run,s'))(hA:Agr T s'.g)(hk:BJ T s.g pc0)
  (hi:Bq T ρ ops s a w) (hy:yielded ops a.tmps j=(match v with| .bool b=>some b|_=>none)) (hin:pcv T pc0→AB T s.g.n ρ s.mem w c v) (hout:¬pcv T pc0→v=undef) (hbase:pcv T pc0→∀c∈base,T c= .bool true):
  s'.tmps=s.tmps∧s'.mem=s.mem∧AP s.g s'.g∧Bq T ρ ops s' a w∧(run=none→yielded ops a.tmps j≠some want)∧
   (∀pc' imp,run=some (pc',imp)→(yielded ops a.tmps j=some want↔pcv T pc')∧(pcv T pc'→∀c∈imp,T c= .bool true)∧BJ T s'.g pc'∧((imp=[]∧pc'=pc0∧base=[])∨imp≠[]∧((∃p,pc'=some p)∨(pc'=pc0∧imp=base)))):=by
 have undefno:v=undef→yielded ops a.tmps j=none:=fun e=>by rw[hy,e];rfl
 have entry:∀(x:Nat) (pol:Bool),(pcv T pc0→x < s.g.n∧∃bx,T x= .bool bx∧v= .bool (if pol then bx else !bx))→
   (some (some (some s.g.n,s.g.n::base),{ s with g:=s.g.pushAll [CY pc0 x (if pol then want else !want)],gl:=⟨j,want,s.g.n,s.g.n::base⟩::s.gl }):Option (Option (PC × List Nat) × RS))=some (run,s')→
   s'.tmps=s.tmps∧s'.mem=s.mem∧AP s.g s'.g∧Bq T ρ ops s' a w∧(run=none→yielded ops a.tmps j≠some want)∧
   (∀pc' imp,run=some (pc',imp)→(yielded ops a.tmps j=some want↔pcv T pc')∧(pcv T pc'→∀c∈imp,T c= .bool true)∧BJ T s'.g pc'∧((imp=[]∧pc'=pc0∧base=[])∨imp≠[]∧((∃p,pc'=some p)∨(pc'=pc0∧imp=base)))):=by
  intro x pol hx he
  cases he
  have hA1:Agr T (s.g.pushAll [CY pc0 x (if pol then want else !want)]):=hA
  have hnew:T s.g.n=(CY pc0 x (if pol then want else !want)).eval T:=hA1.new.head
  have hbool:∃b,T s.g.n= .bool b:=by
   rw[hnew]
   by_cases hp:pcv T pc0
   ·obtain⟨h1,bx,h2,h3⟩:=hx hp
    obtain⟨b,e,_⟩:=QQ (want:=if pol then want else !want) hk h2
    exact⟨b,e⟩
   ·obtain⟨b,e,_⟩:=Pf (x:=x) (want:=if pol then want else !want) hk hp
    exact⟨b,e⟩
  have key:T s.g.n= .bool true↔yielded ops a.tmps j=some want:=by
   rw[hnew]
   by_cases hp:pcv T pc0
   ·obtain⟨h1,bx,h2,h3⟩:=hx hp
    rw[hy,h3]
    obtain⟨b,e,this⟩:=QQ (want:=if pol then want else !want) hk h2
    rw[e]
    constructor
    ·intro he
     have:=(this.1 (by injection he)).2
     cases pol<;>simp at this⊢ <;>simp[this]
    ·intro he
     have hb:bx=(if pol then want else !want):=by cases pol<;>simp at he⊢ <;>simp[←he]
     rw[this.2 ⟨hp,hb⟩]
   ·rw[undefno (hout hp)]
    obtain⟨b,e,hb⟩:=Pf (x:=x) (want:=if pol then want else !want) hk hp
    rw[e,hb]
    constructor<;>intro he<;>cases he
  have himp:T s.g.n= .bool true→∀c∈s.g.n::base,T c= .bool true:=by
   intro ht c hc
   cases hc with
   |head=>exact ht
   |tail _ hc=>
    refine hbase ?_ c hc
    by_cases hp:pcv T pc0
    ·exact hp
    ·have:=key.1 ht
     rw[undefno (hout hp)] at this
     cases this
  have hge:Eh T ops (s.g.pushAll [CY pc0 x (if pol then want else !want)]).n a ⟨j,want,s.g.n,s.g.n::base⟩:=⟨by rw[BY];simp,hbool,key,himp,fun h=>by cases h⟩
  refine⟨rfl,rfl,(show AP s.g (s.g.pushAll [CY pc0 x (if pol then want else !want)]) from AP.push _ _),⟨?_,fun e he=>?_⟩,(fun h=>by cases h),fun pc' imp he=>?_⟩
  ·exact hi.rel.on (AJ.refl _ _ _ _ _) (by rw[BY];omega) (hi.rel.mem.mono (by rw[BY];omega))
  ·cases he with
   |head=>exact hge
   |tail _ he=>exact (hi.ges e he).up (by rw[BY];omega)
  ·cases he
   exact⟨key.symm,himp,⟨by rw[BY];simp,hbool⟩,.inr ⟨(fun h=>by cases h),.inl ⟨_,rfl⟩⟩⟩
 cases c<;>simp only[Dg] at h<;>try (cases h;done)
 case cb b=>
  split at h
  ·rename_i hb
   cases h
   refine⟨rfl,rfl,AP.refl _,hi,(fun h=>by cases h),fun pc' imp he=>?_⟩
   cases he
   refine⟨?_,hbase,hk,?_⟩
   case refine_2=>
    cases base with
    |nil=>exact .inl ⟨rfl,rfl,rfl⟩
    |cons=>exact .inr ⟨(fun h=>by cases h),.inr ⟨rfl,rfl⟩⟩
   constructor
   ·intro hyy
    by_cases hp:pcv T pc0
    ·exact hp
    ·rw[undefno (hout hp)] at hyy;cases hyy
   ·intro hp
    have:=hin hp
    rw[hy,show v=_ from this,hb]
  ·rename_i hb
   cases h
   refine⟨rfl,rfl,AP.refl _,hi,fun _ hyy=>?_,fun pc' imp he=>by cases he⟩
   by_cases hp:pcv T pc0
   ·have:=hin hp
    rw[hy,show v=_ from this] at hyy
    simp at hyy
    exact hb hyy
   ·rw[undefno (hout hp)] at hyy;cases hyy
 case b x=>exact entry x true (fun hp=>by obtain⟨h1,bx,h2,h3⟩:=hin hp;exact⟨h1,bx,h2,by simpa using h3⟩) (by simpa using h)
 case nb x=>exact entry x false (fun hp=>by obtain⟨h1,bx,h2,h3⟩:=hin hp;exact⟨h1,bx,h2,by simpa using h3⟩) (by simpa using h)
end
end Go.Eng
end
noncomputable section
namespace Go.Eng
open Go Go.RowKit
def fen (r:Option Nat):Fence:={ Fence.wide with round:=r }
theorem Oa {r:Option Nat}{k:Nat}{P:Program}{f:FuncId}{args:Array Value}{w:World}{R:Ending→World→Prop}(h:Calls P f args w R):CallsIn (fen r) k P f args w R:=
 (callsIn_wide (n:=k)).2 h
def Ir (P:Program)(fv:Value)(args:List Value)(w:World)(R:Ending→World→Prop):Prop:=
 (∃(k:FuncId) (first cap:List Value) (fn:Func),fv= .func (.func k) first.toArray cap.toArray∧P.funcs[k]? =some fn∧fn.body.isSome=true∧(fn.name== "runtime.NumGoroutine")=false∧Calls P k (first++args++cap).toArray w R)∨
 ∃(b:Nat) (q:Loop),fv= .func (.yield b) #[] #[]∧w.heap[b]? =some (.loop q)∧args.length=q.params.size∧
  ∀k,RoundIn Fence.wide k P b q.fn ((q.params.zip args.toArray).foldl (fun t (p,v)=>t.setIfInBounds p v) q.tmps) q.assign q.body w R
def KV (T:Tab)(g:G)(ρ :Nat→Option Nat)(m:Mem)(w:World)(c:AC)(m':Mem)(g':G):Ending→World→Prop:=
 fun e w'=>∃v ρ',e= .returned v∧AJ T g.n ρ m w ρ' m' w'∧AH T g'.n ρ' m' w'∧AB T g'.n ρ' m' w' c v
def dR (P:Program)(T:Tab)(stamp:Nat)(y:YF):Prop:=
 ∀id args pc m g c m' g',y id args pc m g=some (c,m',g')→AP g g'∧(Agr T g'→An T g'→pcv T pc→BJ T g pc→∀st,m.at id= .lp stamp st→∀ ρ w vs,AD T g.n ρ m w args vs→AH T g.n ρ m w→
  ∀b, ρ id=some b→Ir P (.func (.yield b) #[] #[]) vs w (KV T g ρ m w c m' g'))
def YsOK (P:Program)(T:Tab)(ys:Ys):Prop:=∀stamp y,ys stamp=some y→dR P T stamp y
def CN (P:Program)(lp:Nat→Bf)(ys:Ys):Prop:=∀T:Tab,T.lp=lp→YsOK P T ys
def Ca (P:Program)(T:Tab)(call:A8):Prop:=
 ∀ys k args pc m g c m' g',CN P T.lp ys→call ys k args pc m g=some (c,m',g')→AP g g'∧(Agr T g'→An T g'→pcv T pc→BJ T g pc→∀ ρ w vs,AD T g.n ρ m w args vs→AH T g.n ρ m w→
  (∃fn,P.funcs[k]? =some fn∧fn.body.isSome=true∧(fn.name== "runtime.NumGoroutine")=false)∧
  Calls P k (vs:List Value).toArray w (KV T g ρ m w c m' g'))
section
variable {P:Program}{T:Tab}{n n':Nat}{ρ ρ':Nat→Option Nat}{m m':Mem}{w w':World}{a:Act}
theorem Lo {ops:Array Oper}{pc:PC}{s s':RS}{o:Oper}{run:Option (PC × List Nat)}(h:Dq ops pc s o=some (run,s'))(hA:Agr T s'.g)(hpc:pcv T pc)(hk:BJ T s.g pc)(hi:Bq T ρ ops s a w):
  s'.tmps=s.tmps∧s'.mem=s.mem∧AP s.g s'.g∧Bq T ρ ops s' a w∧(run=none→Region.wanted o (yielded ops a.tmps)=false)∧
   (∀pc' imp,run=some (pc',imp)→(Region.wanted o (yielded ops a.tmps)=true↔pcv T pc')∧(pcv T pc'→∀c∈imp,T c= .bool true)∧BJ T s'.g pc'∧
    (imp=[]→pcv T pc')∧(imp≠[]→(∃p,pc'=some p)∧∃q,o.guard=some q)):=by
 unfold Dq at h
 cases hg:o.guard with
 |none=>
  rw[hg] at h
  cases h
  refine⟨rfl,rfl,AP.refl _,hi,(fun h=>by cases h),fun pc' imp he=>?_⟩
  cases he
  exact⟨by simp[Region.wanted,hg,hpc],fun _ c hc=>(by cases hc),hk,fun _=>hpc,fun h=>absurd rfl h⟩
 |some jw=>
  obtain⟨j,want⟩:=jw
  have hwant:(Region.wanted o (yielded ops a.tmps)=true↔yielded ops a.tmps j=some want):=by simp[Region.wanted,hg]
  rw[hg] at h
  simp only at h
  split at h
  ·rename_i e es he
   cases h
   have hall:∀x∈e::es,x∈s.gl∧x.j=j∧x.want=want:=by
    intro x hx
    rw[←he] at hx
    obtain⟨h1,h2⟩:=List.mem_filter.1 hx
    simp only[Bool.and_eq_true] at h2
    exact⟨h1,Nat.eq_of_beq_eq_true h2.1,by simpa using h2.2⟩
   obtain⟨hmem,hj,hw⟩:=hall e (List.mem_cons_self ..)
   have hge:=hi.ges e hmem
   refine⟨rfl,rfl,AP.refl _,hi,(fun h=>by cases h),fun pc' imp he=>?_⟩
   cases he
   refine⟨?_,?_,⟨hge.lt,hge.bool⟩,fun h=>?_,fun _=>⟨⟨_,rfl⟩,_,rfl⟩⟩
   ·rw[hwant,←hj,←hw]
    exact hge.iff.symm
   ·intro hp c hc
    rcases List.mem_append.1 hc with hc|hc
    ·exact hge.imp hp c hc
    ·obtain⟨l,hl,hc⟩:=List.mem_flatten.1 hc
     obtain⟨x,hx,rfl⟩:=List.mem_map.1 hl
     obtain⟨k1,k2,k3⟩:=hall x (List.mem_cons_of_mem _ hx)
     have hgx:=hi.ges x k1
     refine hgx.imp (hgx.iff.2 ?_) c hc
     rw[k2,k3,←hj,←hw]
     exact hge.iff.1 hp
   ·exact absurd (List.append_eq_nil_iff.1 h).1 hge.ne
  ·rename_i hnone
   simp only[Option.bind_eq_bind,Option.bind_eq_some_iff] at h
   obtain⟨oj,hoj,d,hd,c,hc,h⟩:=h
   have hv:=hi.rel.tmps d c hc
   have hy:yielded ops a.tmps j=(match a.tmps.getD d undef with| .bool b=>some b|_=>none):=by
    simp only[yielded,hoj,Option.bind_some,hd]
    rcases Nat.lt_or_ge d a.tmps.size with hlt|hlt
    ·have hget:a.tmps[d]? =some (a.tmps.getD d undef):=by simp[Array.getD_eq_getD_getElem?,hlt]
     rw[hget]
     generalize a.tmps.getD d undef=v
     cases v<;>rfl
    ·have hget:a.tmps[d]? =none:=Array.getElem?_eq_none hlt
     rw[Array.getD_eq_getD_getElem?,hget]
     rfl
   have fin:∀(pc0:PC) (base:List Nat) (c':AC),Dg pc0 base s j want c'=some (run,s')→BJ T s.g pc0→(pcv T pc0→AB T s.g.n ρ s.mem w c' (a.tmps.getD d undef))→(¬pcv T pc0→a.tmps.getD d undef=undef)→(pcv T pc0→∀c∈base,T c= .bool true)→
     ((pc0=pc∧base=[])∨(base≠[]∧∃p,pc0=some p))→
     s'.tmps=s.tmps∧s'.mem=s.mem∧AP s.g s'.g∧Bq T ρ ops s' a w∧(run=none→Region.wanted o (yielded ops a.tmps)=false)∧
     (∀pc' imp,run=some (pc',imp)→(Region.wanted o (yielded ops a.tmps)=true↔pcv T pc')∧(pcv T pc'→∀c∈imp,T c= .bool true)∧BJ T s'.g pc'∧
      (imp=[]→pcv T pc')∧(imp≠[]→(∃p,pc'=some p)∧∃q,(some (j,want):Option (Nat × Bool))=some q)):=by
    intro pc0 base c' h1 h2 h3 h4 h5 h6
    obtain⟨k1,k2,k3,k4,k5,k6⟩:=Ws h1 hA h2 hi hy h3 h4 h5
    refine⟨k1,k2,k3,k4,fun hn=>?_,fun pc' imp he=>?_⟩
    ·have:=k5 hn
     cases hw:Region.wanted o (yielded ops a.tmps) with
     |false=>rfl
     |true=>exact absurd (hwant.1 hw) this
    ·obtain⟨q1,q2,q3,q4⟩:=k6 pc' imp he
     refine⟨hwant.trans q1,q2,q3,fun hemp=>?_,fun hne=>⟨?_,_,rfl⟩⟩
     ·rcases q4 with⟨_,e1,e2⟩|⟨hne,_⟩
      ·rcases h6 with⟨e3,_⟩|⟨e3,_⟩
       ·rw[e1,e3];exact hpc
       ·exact absurd e2 e3
      ·exact absurd hemp hne
     ·rcases q4 with⟨e1,_⟩|⟨_,q5|⟨q5,q6⟩⟩
      ·exact absurd e1 hne
      ·exact q5
      ·rcases h6 with⟨_,e4⟩|⟨_,e5⟩
       ·rw[q6,e4] at hne;exact absurd rfl hne
       ·rw[q5];exact e5
   split at h
   ·
    cases h
    obtain⟨vs,e1,e2⟩:=hv
    rw[show vs=[] from e2] at e1
    refine⟨rfl,rfl,AP.refl _,hi,fun _=>?_,fun pc' imp he=>by cases he⟩
    cases hw:Region.wanted o (yielded ops a.tmps) with
    |false=>rfl
    |true=>
     have:=hwant.1 hw
     rw[hy,e1] at this
     cases this
   ·rename_i cc c'
    simp only[Option.bind_eq_some_iff] at h
    obtain⟨e,he,h⟩:=h
    have hmem:=List.mem_of_find?_eq_some he
    have hp0:=List.find?_some he
    have hp:e.p=cc:=Nat.eq_of_beq_eq_true hp0
    subst hp
    have hge:=hi.ges e hmem
    exact fin (some e.p) e.imp c' h ⟨hge.lt,hge.bool⟩ hv.2.1 hv.2.2 hge.imp (.inr ⟨hge.ne,_,rfl⟩)
   ·exact fin pc [] c h hk (fun _=>hv) (fun hn=>absurd hpc hn) (fun _ c hc=>by cases hc) (.inl ⟨rfl,rfl⟩)
theorem He {ops:Array Oper}{j:Nat}{dst:Option Tmp}(h:((ops[j]?).bind (·.dst))≠dst)(v:Value):yielded ops (a.put dst v).tmps j=yielded ops a.tmps j:=by
 cases dst with
 |none=>rfl
 |some d=>
  simp only[yielded,Act.put]
  cases hd:(ops[j]?).bind (·.dst) with
  |none=>rfl
  |some e=>
   have hne:d≠e:=fun he=>by rw[hd,he] at h;exact h rfl
   simp only[Option.bind_some,Array.getElem?_setIfInBounds,hne,if_false]
theorem NY:∀(x y:Blk),Blk.beq x y=true→x=y
 | .pad,y,h=>by cases y<;>simp_all [Blk.beq]
 | .gone,y,h=>by cases y<;>simp_all [Blk.beq]
 | .cells l e,y,h=>by
  cases y<;>simp[Blk.beq] at h
  rw[AC.beqL_eq l _ h.1,h.2]
 | .tok x ks e,y,h=>by
  cases y<;>simp[Blk.beq] at h
  rw[h.1.1,Kd.beqs_eq ks _ h.1.2,h.2]
 | .lp x a,y,h=>by
  cases y<;>simp[Blk.beq] at h
  rw[h.1,AC.beq_eq a _ h.2]
theorem IV:∀{m m':Mem},HH m m'=true→m.length≤m'.length∧∀id,id < m.length→m'.at id=m.at id
 |[],_,_=>⟨Nat.zero_le _,fun id h=>by simp at h⟩
 |_::_,[],h=>by cases h
 |x::m,y::m',h=>by
  simp only[HH,Bool.and_eq_true] at h
  obtain⟨h1,h2⟩:=IV h.2
  refine⟨by simp;omega,fun id hid=>?_⟩
  cases id with
  |zero=>simp[Mem.at,NY _ _ h.1]
  |succ id=>
   have:=h2 id (by simpa using hid)
   simpa [Mem.at] using this
theorem Uw (m:Mem)(k:Nat)(id:Nat):Mem.at (m++List.replicate k .gone) id=if id < m.length then m.at id else if id < m.length+k then .gone else .pad:=by
 unfold Mem.at
 rw[List.getElem?_append]
 split
 ·rfl
 ·rename_i h
  by_cases hk:id < m.length+k
  ·rw[if_pos hk,List.getElem?_replicate,if_pos (by omega)];rfl
  ·rw[if_neg hk,List.getElem?_eq_none (by simp;omega)];rfl
theorem ZV {o:Oper}{f:Operand}{args:Array Operand}{ts:Array TypeId}{k:FuncId}{first cap:List Value}{fn:Func}(ho:o.op= .call { callee:= .value f,args,argTypes:=ts })
  (hf:a.eval f= .func (.func k) first.toArray cap.toArray) (h1:P.funcs[k]? =some fn) (h2:fn.body.isSome=true) (h3:(fn.name== "runtime.NumGoroutine")=false):
  (execOp a.eval o).run P w= .ok (.enter k (first++(args.toList.map a.eval)++cap).toArray) w:=by
 have hb:fn.body.isNone=false:=by cases hx:fn.body with|none=>rw[hx] at h2;cases h2|some=>rfl
 have arr:first.toArray++args.map a.eval++cap.toArray=(first++(args.toList.map a.eval)++cap).toArray:=by
  apply Array.ext'
  simp
 simp only[execOp,ho,resolve,hf,Deferred.ofValue,Sem.run_bind,Sem.run_pure,Result.andThen_ok,invoke,callFunc,run_program,h1,h3,hb,Bool.false_eq_true,if_false,arr]
theorem Bq.put {ops:Array Oper}{s:RS}(hi:Bq T ρ ops s a w){dst:Option Tmp}(hd:s.gl.any (fun e=>((ops[e.j]?).bind (·.dst))==dst)=false){g':G}(hg:AP s.g g'){mem':Mem}
  (hs:AJ T s.g.n ρ s.mem w ρ' mem' w') (hm':AH T g'.n ρ' mem' w') {c:AC} {v:Value} (hc:AB T g'.n ρ' mem' w' c v):
  Bq T ρ' ops { s with tmps:=DG s.tmps dst c,mem:=mem',g:=g' } (a.put dst v) w':=by
 refine⟨(hi.rel.on hs hg.n hm').put dst hc,fun e he=>?_⟩
 have h1:=(hi.ges e he).up hg.n
 have hne:((ops[e.j]?).bind (·.dst))≠dst:=by
  intro h
  rw[List.any_eq_false] at hd
  exact hd e he (by simp[h])
 exact⟨h1.lt,h1.bool,by rw[He hne];exact h1.iff,h1.imp,h1.ne⟩
end
end Go.Eng
end
noncomputable section
namespace Go.Eng
open Go Go.RowKit
def sel {α:Type}(b:Bool)(x y:α):α:=match b with|true=>x|false=>y
inductive DE (T:Tab) (n n':Nat) (w:World):Blk→Blk→Prop where
 |pad:DE T n n' w .pad .pad
 |gone (s:Blk):DE T n n' w s .gone
 |same (x:Nat) (ks:List Kd) (e:TypeId):DE T n n' w (.tok x ks e) (.tok x ks e)
 |cells {l l':List AC} {e:TypeId} (h:∀ ρ m vs,AD T n ρ m w l vs→AD T n' ρ m w l' vs):DE T n n' w (.cells l e) (.cells l' e)
 |tok {x k:Nat} {ks ks':List Kd} {e:TypeId} (h1:n≤k) (h2:k < n') (h4:T k=T x) (h5:ks'.length=ks.length):DE T n n' w (.tok x ks e) (.tok k ks' e)
 |new {k:Nat} {ks:List Kd} {e:TypeId} (h1:n≤k) (h2:k < n') (h4:T k= .list []):DE T n n' w .pad (.tok k ks e)
 |lp {s:Nat} {st st':AC} (h:∀ ρ m v,AB T n ρ m w st v→AB T n' ρ m w st' v):DE T n n' w (.lp s st) (.lp s st')
section
variable {T:Tab}{ρ :Nat→Option Nat}{m:Mem}{w:World}{b:Bool}{sb:Rf}{n n':Nat}
theorem Iq (hsb:(sb.eval T).toB=b)(r r':Rf):(⟨ "if",oIf,[sb,r,r']⟩:Ex).eval T=sel b (r.eval T) (r'.eval T):=by
 cases b<;>simp[Ex.eval,oIf,u0,u1,u2,hsb,sel]
theorem fV (hsb:(sb.eval T).toB=b){k:Nat}{x y:Blk}(hnew:New T k (Dh k sb x y).2)(hk:n≤k)(hl:k+(Dh k sb x y).2.length≤n'):
  DE T n n' w (sel b x y) (Dh k sb x y).1:=by
 cases x with
 |pad=>
  cases y with
  |pad=>cases b<;>exact .pad
  |gone=>exact .gone _
  |cells l e=>exact .gone _
  |lp=>exact .gone _
  |tok x' ks e'=>
   simp only[Dh] at hnew hl⊢
   simp only[List.length_singleton] at hl
   have e:=hnew.head
   rw[Iq hsb] at e
   cases b with
   |true=>exact .new hk (by omega) e
   |false=>exact .tok hk (by omega) e rfl
 |gone=>cases y<;>exact .gone _
 |cells l e=>
  cases y with
  |pad=>exact .gone _
  |gone=>exact .gone _
  |tok=>exact .gone _
  |lp=>exact .gone _
  |cells l' e'=>
   simp only[Dh] at hnew hl⊢
   split
   ·rename_i hle
    obtain⟨hll,rfl⟩:=hle
    simp only[hll,and_self,if_true] at hnew hl
    split
    ·rename_i hat
     simp only[hat,if_true] at hnew hl
     have key:∀ ρ m vs,(b=true→AD T n ρ m w l vs)→(b=false→AD T n ρ m w l' vs)→AD T n' ρ m w (MU (fun n=>mix n sb) k l l').1 vs:=fun ρ m vs k1 k2=>
      Nz (fun n0 c d v _ _ a1 a2 a3 a4=>Kz hsb (by omega) a1 a2 a3 a4) hll hnew hl k1 k2
     cases b with
     |true=>exact .cells fun ρ m vs h=>key ρ m vs (fun _=>h) (fun h=>by cases h)
     |false=>exact .cells fun ρ m vs h=>key ρ m vs (fun h=>by cases h) (fun _=>h)
    ·exact .gone _
   ·exact .gone _
 |lp s st=>
  cases y with
  |pad=>exact .gone _
  |gone=>exact .gone _
  |cells=>exact .gone _
  |tok=>exact .gone _
  |lp s' st'=>
   simp only[Dh] at hnew hl⊢
   split
   ·rename_i hb
    have e:=Nat.eq_of_beq_eq_true hb
    subst e
    simp only[hb,if_true] at hnew hl
    have key:∀ ρ m v,(b=true→AB T n ρ m w st v)→(b=false→AB T n ρ m w st' v)→AB T n' ρ m w (mix k sb st st').1 v:=fun ρ m v k1 k2=>Kz hsb (by omega) hnew hl k1 k2
    cases b with
    |true=>exact .lp fun ρ m v h=>key ρ m v (fun _=>h) (fun h=>by cases h)
    |false=>exact .lp fun ρ m v h=>key ρ m v (fun h=>by cases h) (fun _=>h)
   ·exact .gone _
 |tok x ks e=>
  cases y with
  |gone=>exact .gone _
  |cells=>exact .gone _
  |lp=>exact .gone _
  |pad=>
   simp only[Dh] at hnew hl⊢
   simp only[List.length_singleton] at hl
   have e:=hnew.head
   rw[Iq hsb] at e
   cases b with
   |false=>exact .new hk (by omega) e
   |true=>exact .tok hk (by omega) e rfl
  |tok x' ks' e'=>
   simp only[Dh] at hnew hl⊢
   split
   ·rename_i hb
    simp only[Bool.and_eq_true] at hb
    have e1:=Nat.eq_of_beq_eq_true hb.1.1
    have e2:=Nat.eq_of_beq_eq_true hb.2
    have e3:=Kd.beqs_eq _ _ hb.1.2
    subst e1;subst e2;subst e3
    cases b<;>exact .same _ _ _
   ·rename_i hb
    simp only[hb] at hnew hl
    split
    ·rename_i hc
     obtain⟨rfl,hc⟩:=hc
     simp only[hc,and_self,if_true,Bool.false_eq_true,if_false] at hnew hl
     simp only[List.length_singleton] at hl
     have e:=hnew.head
     rw[Iq hsb] at e
     have hj:=Kd.joins_len ks ks' hc
     cases b with
     |true=>exact .tok hk (by omega) e hj
     |false=>exact .tok hk (by omega) e (by rw[hj,hc])
    ·exact .gone _
theorem im (id:Nat):Mem.at [] id= .pad:=rfl
theorem Nv (x:Blk)(m:Mem):Mem.at (x::m) 0=x:=rfl
theorem GO (x:Blk)(m:Mem)(id:Nat):Mem.at (x::m) (id+1)=Mem.at m id:=by simp[Mem.at]
theorem Lb (m:Mem):m.headD .pad=m.at 0:=by cases m<;>rfl
theorem Qz (m:Mem)(id:Nat):Mem.at m.tail id=m.at (id+1):=by cases m with
 |nil=>rfl
 |cons x m=>exact (GO x m id).symm
theorem R5:∀(m2:Mem) (n0 id:Nat),∃k,n0≤k∧k+(Dh k sb .pad (m2.at id)).2.length≤n0+(Fe sb n0 m2).2.length∧(Fe sb n0 m2).1.at id=(Dh k sb .pad (m2.at id)).1∧
  ∀T,New T n0 (Fe sb n0 m2).2→New T k (Dh k sb .pad (m2.at id)).2
 |[],n0,id=>⟨n0,Nat.le_refl _,Nat.le_refl _,rfl,fun _ h=>h⟩
 |y::m2,n0,0=>by
  refine⟨n0,Nat.le_refl _,?_,rfl,fun T h=>?_⟩
  ·simp only[Fe,List.length_append,Nv];omega
  ·simp only[Fe] at h;exact h.left
 |y::m2,n0,id+1=>by
  obtain⟨k,h1,h2,h3,h4⟩:=R5 m2 (n0+(Dh n0 sb .pad y).2.length) id
  refine⟨k,by omega,?_,?_,fun T h=>?_⟩
  ·simp only[Fe,List.length_append,GO];omega
  ·simp only[Fe,GO];exact h3
  ·simp only[Fe] at h
   rw[GO]
   exact h4 T h.right
theorem Ql:∀(m1 m2:Mem) (n0 id:Nat),∃k,n0≤k∧k+(Dh k sb (m1.at id) (m2.at id)).2.length≤n0+(Bc sb n0 m1 m2).2.length∧(Bc sb n0 m1 m2).1.at id=(Dh k sb (m1.at id) (m2.at id)).1∧
  ∀T,New T n0 (Bc sb n0 m1 m2).2→New T k (Dh k sb (m1.at id) (m2.at id)).2
 |[],m2,n0,id=>R5 m2 n0 id
 |x::m1,m2,n0,0=>by
  refine⟨n0,Nat.le_refl _,?_,?_,fun T h=>?_⟩
  ·simp only[Bc,List.length_append,Nv,Lb];omega
  ·simp only[Bc,Nv,Lb]
  ·simp only[Bc] at h;rw[Lb] at h;exact h.left
 |x::m1,m2,n0,id+1=>by
  obtain⟨k,h1,h2,h3,h4⟩:=Ql m1 m2.tail (n0+(Dh n0 sb x (m2.headD .pad)).2.length) id
  rw[Qz] at h2 h3 h4
  refine⟨k,by omega,?_,?_,fun T h=>?_⟩
  ·simp only[Bc,List.length_append,GO];omega
  ·simp only[Bc,GO];exact h3
  ·simp only[Bc] at h
   rw[GO]
   exact h4 T h.right
def CW (m:Mem)(ρ :Nat→Option Nat):Nat→Option Nat:=fun id=>match m.at id with| .pad=>none|_=> ρ id
theorem Gd {id:Nat}(h:m.at id= .pad):CW m ρ id=none:=by simp[CW,h]
theorem DD {id:Nat}(h:m.at id≠ .pad):CW m ρ id= ρ id:=by
 unfold CW
 split
 ·rename_i hp;exact absurd hp h
 ·rfl
theorem Fh {m':Mem}(_hm:AH T n ρ m w)(h:∀id,DE T n n' w (m.at id) (m'.at id)):AJ T n ρ m w (CW m ρ) m' w where
 os:=rfl
 tape:=rfl
 output:=rfl
 size:=Nat.le_refl _
 mlen:=fun id hp=>by
  have:=h id
  generalize m.at id=s at this hp
  generalize m'.at id=z at this
  cases this<;>first|exact absurd rfl hp|(intro h;cases h)
 rho:=fun id hp=>by
  refine⟨DD (BV hp),?_⟩
  have:=h id
  generalize m.at id=s at this hp
  generalize m'.at id=z at this
  cases this<;>first|rfl|cases hp
 untr:=fun id hp ht=>by
  have:=h id
  generalize m.at id=s at this hp
  generalize m'.at id=z at this ht
  cases this<;>first|rfl|exact absurd rfl hp|cases ht
 fresh:=fun id b hp _ hr=>by rw[Gd hp] at hr;cases hr
 old:=fun _ _ _=>rfl
 tok:=fun id x ks e hx=>by
  have:=h id
  have hne:m.at id≠ .pad:=by rw[hx];exact fun h=>by cases h
  rw[hx] at this
  generalize hz:m'.at id=z at this
  cases this with
  |gone=>exact .inr ⟨fun _ _ _ _=>rfl,.inl rfl⟩
  |same=>exact .inl ⟨rfl,DD hne,fun _ _=>rfl⟩
  |tok h1 h2 h4 h5=>
   rename_i k ks'
   refine .inr ⟨fun _ _ _ _=>rfl,.inr ⟨k,ks',e,rfl,h1,fun b' hb=> .inl ⟨by rw[←DD (ρ := ρ) hne];exact hb,?_⟩⟩⟩
   simp only[B4,h4,h5]
   exact Nat.le_refl _
theorem P7 {m':Mem}(hm:AH T n ρ m w)(hn:n≤n')(h:∀id,DE T n n' w (m.at id) (m'.at id)):AH T n' (CW m ρ) m' w where
 blk:=fun id=>by
  have hst:=Fh hm h
  have hb:=hm.blk id
  have ht:=h id
  cases hs:m.at id with
  |pad=>
   rw[hs] at ht
   generalize hz:m'.at id=z at ht
   cases ht with
   |pad=>trivial
   |gone=>trivial
   |new h1 h2 h4=>exact⟨h2,_,h4,.inl ⟨Gd hs,rfl⟩⟩
  |gone=>
   rw[hs] at ht
   generalize hz:m'.at id=z at ht
   cases ht
   trivial
  |cells l e=>
   have hne:m.at id≠ .pad:=by rw[hs];exact fun h=>by cases h
   rw[hs] at ht hb
   obtain⟨b,vs,h1,h2,h3⟩:=hb
   generalize hz:m'.at id=z at ht
   cases ht with
   |gone=>trivial
   |cells hc=>
    exact⟨b,vs,by rw[DD hne];exact h1,h2,hc _ _ vs (AD.mono hst hm (Nat.le_refl _) _ vs h3)⟩
  |lp x st=>
   have hne:m.at id≠ .pad:=by rw[hs];exact fun h=>by cases h
   rw[hs] at ht hb
   obtain⟨b,q,h1,h2,h3,h4,h5,h9,h6,j,h7,h8⟩:=hb
   generalize hz:m'.at id=z at ht
   cases ht with
   |gone=>trivial
   |lp hc=>
    exact⟨b,q,by rw[DD hne];exact h1,h2,h3,h4,h5,h9,fun i c hcc=>AB.mono hst hm hn _ _ (h6 i c hcc),j,hc _ _ _ (AB.mono hst hm (Nat.le_refl _) _ _ h7),h8⟩
  |tok x ks e=>
   have hne:m.at id≠ .pad:=by rw[hs];exact fun h=>by cases h
   rw[hs] at ht hb
   obtain⟨h0,r,h1,h2⟩:=hb
   generalize hz:m'.at id=z at ht
   cases ht with
   |gone=>trivial
   |same=>
    refine⟨Nat.lt_of_lt_of_le h0 hn,r,h1,?_⟩
    rw[DD hne]
    exact h2
   |tok k1 k2 k4 k5=>
    refine⟨k2,r,by rw[k4,h1],?_⟩
    rw[DD hne,k5]
    exact h2
 fr:=hm.fr
 inj:=fun id id' b ht ht' h1 h2=>by
  have hst:=Fh hm h
  have old:∀id,(m'.at id).tracked=true→CW m ρ id=some b→(m.at id).tracked=true∧ ρ id=some b:=by
   intro id ht hr
   by_cases hp:m.at id= .pad
   ·rw[Gd hp] at hr;cases hr
   ·exact⟨hst.untr id hp ht,by rw[←DD (ρ := ρ) hp];exact hr⟩
  obtain⟨a1,a2⟩:=old id ht h1
  obtain⟨a3,a4⟩:=old id' ht' h2
  exact hm.inj id id' b a1 a3 a2 a4
end
end Go.Eng
end
noncomputable section
namespace Go.Eng
open Go Go.RowKit
theorem aF {kx ky:List Kd}(h:kx.length=ky.length):Kd.join (.list kx) (.list ky)= .list (Kd.joins kx ky):=by
 cases kx with
 |nil=>cases ky with
  |nil=>rfl
  |cons=>simp at h
 |cons a l=>cases ky with
  |nil=>simp at h
  |cons c l'=>
   simp only[Kd.join]
   rw[if_pos h]
section
variable {T:Tab}{ρ :Nat→Option Nat}{m m1 m2:Mem}{w:World}{b:Bool}{sb:Rf}{n n':Nat}
theorem Nd (hsb:(sb.eval T).toB=b){n0:Nat}(hn0:n≤n0)(hnew:New T n0 (Bc sb n0 m1 m2).2)(hl:n0+(Bc sb n0 m1 m2).2.length≤n'):
  ∀id,DE T n n' w ((sel b m1 m2).at id) ((Bc sb n0 m1 m2).1.at id):=by
 intro id
 obtain⟨k,h1,h2,h3,h4⟩:=Ql (sb:=sb) m1 m2 n0 id
 rw[h3]
 have e:(sel b m1 m2).at id=sel b (m1.at id) (m2.at id):=by cases b<;>rfl
 rw[e]
 exact fV hsb (h4 T hnew) (by omega) (by omega)
theorem NX (hsb:(sb.eval T).toB=b){n0 id z:Nat}{kz:List Kd}{e:TypeId}(hnew:New T n0 (Bc sb n0 m1 m2).2)(hl:n0+(Bc sb n0 m1 m2).2.length≤n')(hz:(Bc sb n0 m1 m2).1.at id= .tok z kz e):
  (∀x kx y ky e1 e2,m1.at id= .tok x kx e1→m2.at id= .tok y ky e2→e1=e∧e2=e∧((z=x∧z=y∧kz=kx∧kz=ky)∨(z < n'∧T z=sel b (T x) (T y)∧kx.length=ky.length∧kz=Kd.joins kx ky)))∧
  (∀x kx e1,m1.at id= .tok x kx e1→m2.at id= .pad→e1=e∧kz=kx∧z < n'∧T z=sel b (T x) (.list []))∧
  (∀y ky e2,m1.at id= .pad→m2.at id= .tok y ky e2→e2=e∧kz=ky∧z < n'∧T z=sel b (.list []) (T y)):=by
 obtain⟨k,h1,h2,h3,h4⟩:=Ql (sb:=sb) m1 m2 n0 id
 rw[h3] at hz
 have hnk:=h4 T hnew
 refine⟨fun x kx y ky e1 e2 a1 a2=>?_,fun x kx e1 a1 a2=>?_,fun y ky e2 a1 a2=>?_⟩
 ·rw[a1,a2] at hz hnk h2
  simp only[Dh] at hz hnk h2
  split at hz
  ·rename_i hb
   simp only[Bool.and_eq_true] at hb
   have i1:=Nat.eq_of_beq_eq_true hb.1.1
   have i2:=Nat.eq_of_beq_eq_true hb.2
   have i3:=Kd.beqs_eq _ _ hb.1.2
   injection hz with j1 j2 j3
   exact⟨j3,by rw[←i2];exact j3,.inl ⟨j1.symm,by rw[←i1];exact j1.symm,j2.symm,by rw[←i3];exact j2.symm⟩⟩
  ·rename_i hb
   simp only[hb] at hnk h2
   split at hz
   ·rename_i hc
    obtain⟨rfl,hc⟩:=hc
    simp only[hc,and_self,if_true,Bool.false_eq_true,if_false] at hnk h2
    simp only[List.length_singleton] at h2
    injection hz with j1 j2 j3
    refine⟨j3,j3,.inr ⟨by omega,?_,hc,j2.symm⟩⟩
    rw[←j1,hnk.head,Iq hsb]
    rfl
   ·cases hz
 ·rw[a1,a2] at hz hnk h2
  simp only[Dh] at hz hnk h2
  simp only[List.length_singleton] at h2
  injection hz with j1 j2 j3
  refine⟨j3,j2.symm,by omega,?_⟩
  rw[←j1,hnk.head,Iq hsb]
  rfl
 ·rw[a1,a2] at hz hnk h2
  simp only[Dh] at hz hnk h2
  simp only[List.length_singleton] at h2
  injection hz with j1 j2 j3
  refine⟨j3,j2.symm,by omega,?_⟩
  rw[←j1,hnk.head,Iq hsb]
  rfl
theorem HR {id x z:Nat}{kx kz:List Kd}{e:TypeId}{v:Value}(hst:AJ T n ρ m1 w (CW m1 ρ) m w)(h:AB T n ρ m1 w (.vec id x kx) v)(ht:m1.at id= .tok x kx e)(hz:m.at id= .tok z kz e)(hzn:z < n')(hTz:T z=T x)
  (hlen:kz.length=kx.length) (hk:∀ok:Nat→Nat→Prop,AR ok w (.list kx) (T x) v→AR ok w (.list kz) (T x) v):AB T n' (CW m1 ρ) m w (.vec id z kz) v:=by
 obtain⟨h2,h3,h4,h5⟩:=h
 refine⟨hzn,by rw[hz];exact (fun h=>by cases h),?_,fun ks' e' he=>?_⟩
 ·rw[hTz]
  exact hk _ (AR.mono (fun _ _ hs=>hst.safe0 hs) _ _ v h4)
 ·rw[hz] at he
  injection he with _ he1 he2
  subst he1;subst he2
  rcases h5 kx e ht with⟨l1,l2⟩|⟨bb,cap,vs,l1,l2,l3,l4⟩
  ·exact .inl ⟨by rw[DD h3];exact l1,l2⟩
  ·exact .inr ⟨bb,cap,vs,by rw[DD h3];exact l1,by rw[hTz];exact l2,l3,by rw[hlen];exact l4⟩
theorem Sd (hsb:(sb.eval T).toB=b)(hm:AH T n ρ (sel b m1 m2) w){n0:Nat}(hn0:n≤n0)(hnew:New T n0 (Bc sb n0 m1 m2).2)(hl:n0+(Bc sb n0 m1 m2).2.length≤n'){c d a:AC}{v:Value}
  (ha:Ev (Bc sb n0 m1 m2).1 m1 m2 c d=some a)
  (h1:AB T n ρ (sel b m1 m2) w (sel b c d) v):AB T n' (CW (sel b m1 m2) ρ) (Bc sb n0 m1 m2).1 w a v:=by
 have hst:=Fh hm (Nd (n:=n) hsb hn0 hnew hl)
 have hto:∀{id:Nat} {a:AC},KK (Bc sb n0 m1 m2).1 id=some a→∃z ks e,(Bc sb n0 m1 m2).1.at id= .tok z ks e∧a= .vec id z ks:=by
  intro id a h
  unfold KK at h
  split at h
  ·rename_i z ks e hz;cases h;exact⟨z,ks,e,hz,rfl⟩
  ·cases h
 unfold Ev at ha
 simp only at ha
 split at ha
 ·rename_i id x kx id' x' kx'
  split at ha
  ·rename_i hid
   have:=Nat.eq_of_beq_eq_true hid
   subst this
   split at ha
   ·rename_i y ky e y' ky' e' hy hy'
    split at ha
    ·rename_i hxy
     simp only[Bool.and_eq_true] at hxy
     have i1:=Nat.eq_of_beq_eq_true hxy.1.1.1
     have i2:=Nat.eq_of_beq_eq_true hxy.1.1.2
     have i3:=Kd.beqs_eq _ _ hxy.1.2
     have i4:=Kd.beqs_eq _ _ hxy.2
     subst i1;subst i2;subst i3;subst i4
     obtain⟨z,kz,e2,hz,rfl⟩:=hto ha
     obtain⟨j1,j2,j3⟩:=(NX hsb hnew hl hz).1 x kx x' kx' e e' hy hy'
     subst j1;subst j2
     rcases j3 with⟨q1,q2,q3,q4⟩|⟨q1,q2,q3,q4⟩
     ·cases b with
      |true=>
       have hx:x < n:=h1.1
       exact HR hst h1 hy hz (by rw[q1];omega) (by rw[q1]) (by rw[q3]) fun ok h=>by rw[q3];exact h
      |false=>
       have hx:x' < n:=h1.1
       exact HR hst h1 hy' hz (by rw[q2];omega) (by rw[q2]) (by rw[q4]) fun ok h=>by rw[q4];exact h
     ·have hjl:=Kd.joins_len kx kx' q3
      have hjj:=aF q3
      cases b with
      |true=>exact HR hst h1 hy hz q1 q2 (by rw[q4,hjl]) fun ok h=>by rw[q4,←hjj];exact Kd.join_l _ _ _ _ h
      |false=>exact HR hst h1 hy' hz q1 q2 (by rw[q4,hjl,q3]) fun ok h=>by rw[q4,←hjj];exact Kd.join_r _ _ _ _ h
    ·cases ha
   ·cases ha
  ·cases ha
 ·rename_i id x kx
  split at ha
  ·rename_i y ky e hy hy'
   split at ha
   ·rename_i hxy
    simp only[Bool.and_eq_true] at hxy
    have i1:=Nat.eq_of_beq_eq_true hxy.1
    have i3:=Kd.beqs_eq _ _ hxy.2
    subst i1;subst i3
    obtain⟨z,kz,e2,hz,rfl⟩:=hto ha
    obtain⟨j1,q0,q1,q2⟩:=(NX hsb hnew hl hz).2.1 x kx e hy hy'
    subst j1;subst q0
    cases b with
    |true=>exact HR hst h1 hy hz q1 q2 rfl fun ok h=>h
    |false=>
     have hv:v= .slice none 0 0:=h1
     subst hv
     refine⟨q1,by rw[hz];exact (fun h=>by cases h),by rw[q2];exact EW _ _,fun ks' e' _=> .inl ⟨Gd hy',rfl⟩⟩
   ·cases ha
  ·cases ha
 ·rename_i id x kx
  split at ha
  ·rename_i y ky e hy hy'
   split at ha
   ·rename_i hxy
    simp only[Bool.and_eq_true] at hxy
    have i1:=Nat.eq_of_beq_eq_true hxy.1
    have i3:=Kd.beqs_eq _ _ hxy.2
    subst i1;subst i3
    obtain⟨z,kz,e2,hz,rfl⟩:=hto ha
    obtain⟨j1,q0,q1,q2⟩:=(NX hsb hnew hl hz).2.2 x kx e hy hy'
    subst j1;subst q0
    cases b with
    |false=>exact HR hst h1 hy' hz q1 q2 rfl fun ok h=>h
    |true=>
     have hv:v= .slice none 0 0:=h1
     subst hv
     refine⟨q1,by rw[hz];exact (fun h=>by cases h),by rw[q2];exact EW _ _,fun ks' e' _=> .inl ⟨Gd hy,rfl⟩⟩
   ·cases ha
  ·cases ha
 ·cases ha
theorem Q4 {m:Mem}:∀(r b1 b2:Mem) (id:Nat),(O9 m m1 m2 r b1 b2).at id=U2 m m1 m2 (b1.at id) (b2.at id) (r.at id)
 |[],b1,b2,id=>by
  show Blk.pad=_
  simp only[im]
  cases b1.at id<;>cases b2.at id<;>rfl
 |z::r,b1,b2,0=>by simp only[O9,Nv,Lb]
 |z::r,b1,b2,id+1=>by
  simp only[O9,GO]
  rw[Q4 r b1.tail b2.tail id,Qz,Qz]
theorem Le {m:Mem}(x y z:Blk):U2 m m1 m2 x y z=z∨∃l e1 l' e2 r e,x= .cells l e1∧y= .cells l' e2∧z= .cells r e∧U2 m m1 m2 x y z= .cells (GF m m1 m2 l l' r) e:=by
 cases x<;>cases y<;>cases z<;>first|exact .inl rfl|exact .inr ⟨_,_,_,_,_,_,rfl,rfl,rfl,rfl⟩
theorem QW {k:Nat}{m m':Mem}(h:∀id,m'.at id=m.at id∨∃l l' e,m.at id= .cells l e∧m'.at id= .cells l' e):AJ T k ρ m w ρ m' w where
 os:=rfl
 tape:=rfl
 output:=rfl
 size:=Nat.le_refl _
 mlen:=fun id hp=>by
  rcases h id with e|⟨l,l',e,h1,h2⟩
  ·rw[e];exact hp
  ·rw[h2];exact fun h=>by cases h
 rho:=fun id hp=>by
  refine⟨rfl,?_⟩
  rcases h id with e|⟨l,l',e,h1,h2⟩
  ·rw[e];exact hp
  ·rw[h2];rfl
 untr:=fun id hp ht=>by
  rcases h id with e|⟨l,l',e,h1,h2⟩
  ·rw[←e];exact ht
  ·rw[h1];rfl
 fresh:=fun id b hp ht hr=>by
  rcases h id with e|⟨l,l',e,h1,h2⟩
  ·rw[e,hp] at ht;cases ht
  ·rw[hp] at h1;cases h1
 old:=fun _ _ _=>rfl
 tok:=fun id x ks e hx=>by
  rcases h id with e1|⟨l,l',e2,h1,h2⟩
  ·exact .inl ⟨by rw[e1];exact hx,rfl,fun _ _=>rfl⟩
  ·rw[hx] at h1;cases h1
theorem bA {k:Nat}{m m':Mem}(hm:AH T k ρ m w)(h:∀id,m'.at id=m.at id∨∃l l' e,m.at id= .cells l e∧m'.at id= .cells l' e∧∀vs b, ρ id=some b→w.heap[b]? =some (.cells (vs:List Value).toArray e (0,0))→AD T k ρ m w l vs→AD T k ρ m w l' vs):AH T k ρ m' w:=by
 have hst:AJ T k ρ m w ρ m' w:=QW fun id=>by
  rcases h id with e|⟨l,l',e,h1,h2,_⟩
  ·exact .inl e
  ·exact .inr ⟨l,l',e,h1,h2⟩
 refine⟨fun id=>?_,fun id id' b h1 h2=>?_,hm.fr⟩
 ·have hb:=hm.blk id
  rcases h id with e|⟨l,l',e,h1,h2,h3⟩
  ·rw[e]
   cases hs:m.at id with
   |pad=>trivial
   |gone=>trivial
   |cells l e=>
    rw[hs] at hb
    obtain⟨b,vs,q1,q2,q3⟩:=hb
    exact⟨b,vs,q1,q2,AD.mono hst hm (Nat.le_refl _) _ vs q3⟩
   |tok x ks e=>rw[hs] at hb;exact hb
   |lp x st=>
    rw[hs] at hb
    obtain⟨b,q,h1,h2,h3,h4,h5,h9,h6,j,h7,h8⟩:=hb
    exact⟨b,q,h1,h2,h3,h4,h5,h9,fun i c hcc=>AB.mono hst hm (Nat.le_refl _) _ _ (h6 i c hcc),j,AB.mono hst hm (Nat.le_refl _) _ _ h7,h8⟩
  ·rw[h1] at hb
   obtain⟨b,vs,q1,q2,q3⟩:=hb
   rw[h2]
   exact⟨b,vs,q1,q2,AD.mono hst hm (Nat.le_refl _) _ vs (h3 vs b q1 q2 q3)⟩
 ·have tr:∀id,(m'.at id).tracked=(m.at id).tracked:=fun id=>by
   rcases h id with e|⟨l,l',e,h1,h2,_⟩
   ·rw[e]
   ·rw[h1,h2];rfl
  rw[tr] at h1 h2
  exact hm.inj id id' b h1 h2
theorem ON {m:Mem}{k1 k2:Nat}{ρ1 ρ2:Nat→Option Nat}{ms:Mem}(hr:∀c d a v,Ev m m1 m2 c d=some a→AB T k1 ρ1 ms w (sel b c d) v→AB T k2 ρ2 m w a v):
  ∀(l l' r:List AC) (vs:List Value),AD T k1 ρ1 ms w (sel b l l') vs→AD T k2 ρ2 m w r vs→AD T k2 ρ2 m w (GF m m1 m2 l l' r) vs
 |c::l,d::l',a::r,vs,h1,h2=>by
  obtain⟨u,us,e,h3,h4⟩:=h2
  have h1':∃u us,vs=u::us∧AB T k1 ρ1 ms w (sel b c d) u∧AD T k1 ρ1 ms w (sel b l l') us:=by cases b<;>exact h1
  obtain⟨u',us',e',h5,h6⟩:=h1'
  rw[e] at e'
  injection e' with e1 e2
  subst e1;subst e2
  refine⟨u,us,e,?_,ON hr l l' r us h6 h4⟩
  cases hx:Ev m m1 m2 c d with
  |none=>exact h3
  |some z=>exact hr c d z u hx h5
 |[],_,r,vs,_,h2=>by simpa [GF] using h2
 |_::_,[],r,vs,_,h2=>by simpa [GF] using h2
 |_::_,_::_,[],vs,_,h2=>by simpa [GF] using h2
theorem Kv (hsb:(sb.eval T).toB=b)(hm:AH T n ρ (sel b m1 m2) w){n0:Nat}(hn0:n≤n0)(hnew:New T n0 (Ba sb n0 m1 m2).2)(hl:n0+(Ba sb n0 m1 m2).2.length≤n'):
  AH T n' (CW (sel b m1 m2) ρ) (Ba sb n0 m1 m2).1 w∧AJ T n ρ (sel b m1 m2) w (CW (sel b m1 m2) ρ) (Ba sb n0 m1 m2).1 w∧AJ T n' (CW (sel b m1 m2) ρ) (Bc sb n0 m1 m2).1 w (CW (sel b m1 m2) ρ) (Ba sb n0 m1 m2).1 w∧AH T n' (CW (sel b m1 m2) ρ) (Bc sb n0 m1 m2).1 w:=by
 have hnew0:New T n0 (Bc sb n0 m1 m2).2:=hnew
 have hl0:n0+(Bc sb n0 m1 m2).2.length≤n':=hl
 have ht:=Nd (n:=n) (n':=n') (w:=w) hsb hn0 hnew0 hl0
 have hmem:=P7 hm (by omega) ht
 have hst:=Fh hm ht
 have hat:∀id,(Ba sb n0 m1 m2).1.at id=U2 (Bc sb n0 m1 m2).1 m1 m2 (m1.at id) (m2.at id) ((Bc sb n0 m1 m2).1.at id):=fun id=>Q4 _ _ _ id
 have hstep:AJ T n' (CW (sel b m1 m2) ρ) (Bc sb n0 m1 m2).1 w (CW (sel b m1 m2) ρ) (Ba sb n0 m1 m2).1 w:=QW fun id=>by
  rw[hat]
  rcases Le (m:=(Bc sb n0 m1 m2).1) (m1:=m1) (m2:=m2) (m1.at id) (m2.at id) ((Bc sb n0 m1 m2).1.at id) with e|⟨l,e1,l',e2,r,e,_,_,h3,h4⟩
  ·exact .inl e
  ·exact .inr ⟨r,_,e,h3,h4⟩
 refine⟨bA hmem fun id=>?_,hst.trans hm (by omega) hstep,hstep,hmem⟩
 rw[hat]
 rcases Le (m:=(Bc sb n0 m1 m2).1) (m1:=m1) (m2:=m2) (m1.at id) (m2.at id) ((Bc sb n0 m1 m2).1.at id) with e|⟨l,e1,l',e2,r,e,h1,h2,h3,h4⟩
 ·exact .inl e
 ·refine .inr ⟨r,_,e,h3,h4,fun vs bb q1 q2 q3=>?_⟩
  have hb:=hm.blk id
  have hsel:(sel b m1 m2).at id= .cells (sel b l l') (sel b e1 e2):=by cases b with|true=>exact h1|false=>exact h2
  rw[hsel] at hb
  obtain⟨b0,vs0,p1,p2,p3⟩:=hb
  have hne:(sel b m1 m2).at id≠ .pad:=by rw[hsel];exact fun h=>by cases h
  rw[DD hne,p1] at q1
  cases q1
  rw[p2] at q2
  injection q2 with q2
  injection q2 with q2
  have q2':vs0=vs:=by simpa using q2
  subst q2'
  exact ON (b:=b) (fun c d a v hc hv=>Sd hsb hm hn0 hnew0 hl0 hc hv) l l' r _ p3 q3
theorem Yy {m:Mem}{r b1 b2:Mem}(c d:AC):Ev (O9 m m1 m2 r b1 b2) m1 m2 c d=Ev r m1 m2 c d:=by
 have ht:∀id,KK (O9 m m1 m2 r b1 b2) id=KK r id:=fun id=>by
  unfold KK
  rw[Q4]
  rcases Le (m:=m) (m1:=m1) (m2:=m2) (b1.at id) (b2.at id) (r.at id) with e|⟨l,e1,l',e2,q,e,_,_,h3,h4⟩
  ·rw[e]
  ·rw[h4,h3]
 unfold Ev
 simp only[ht]
theorem af (hsb:(sb.eval T).toB=b)(hm:AH T n ρ (sel b m1 m2) w){n0:Nat}(hn0:n≤n0)(hnew:New T n0 (Ba sb n0 m1 m2).2)(hl:n0+(Ba sb n0 m1 m2).2.length≤n'){c d:AC}{v:Value}{k:Nat}
  (hk:n≤k)
  (hnew':New T k (N2 (Ba sb n0 m1 m2).1 m1 m2 sb k c d).2)
  (hl':k+(N2 (Ba sb n0 m1 m2).1 m1 m2 sb k c d).2.length≤n')
  (h1:AB T n ρ (sel b m1 m2) w (sel b c d) v):AB T n' (CW (sel b m1 m2) ρ) (Ba sb n0 m1 m2).1 w (N2 (Ba sb n0 m1 m2).1 m1 m2 sb k c d).1 v:=by
 obtain⟨_,hst,hst2,hm2⟩:=Kv hsb hm hn0 hnew hl
 have hrl:Ev (Ba sb n0 m1 m2).1 m1 m2 c d=Ev (Bc sb n0 m1 m2).1 m1 m2 c d:=Yy c d
 unfold N2 at hnew' hl'⊢
 rw[hrl] at hnew' hl'⊢
 split
 ·rename_i a ha
  exact AB.mono hst2 hm2 (Nat.le_refl _) _ _ (Sd hsb hm hn0 hnew hl ha h1)
 ·rename_i hr
  rw[hr] at hnew' hl'
  simp only at hnew' hl'
  have h2:=AB.mono hst hm (Nat.le_refl _) _ _ h1
  refine RB (n:=n) hsb (by omega) hnew' hl' (fun hb=>?_) (fun hb=>?_)
  ·subst hb;exact h2
  ·subst hb;exact h2
theorem Tr.get_node (v:Option AC)(l r:Tr)(i:Nat):(Tr.node v l r).get i=if i=0 then v else if i % 2=1 then l.get (i / 2) else r.get (i / 2 - 1):=by
 rw[Tr.get_step];rfl
theorem PA {f:Nat→AC→AC→AC × List Ex}:∀(t1 t2:Tr) (n0:Nat),New T n0 (Dl f n0 t1 t2).2→n0+(Dl f n0 t1 t2).2.length≤n'→∀(i:Nat) (c:AC),(Dl f n0 t1 t2).1.get i=some c→
  ∃k c1 c2,n0≤k∧t1.get i=some c1∧t2.get i=some c2∧c=(f k c1 c2).1∧New T k (f k c1 c2).2∧k+(f k c1 c2).2.length≤n'
 | .nil,t2,n0,_,_,i,c,h=>by simp[Dl,Tr.get] at h
 | .node v l r,.nil,n0,_,_,i,c,h=>by simp[Dl,Tr.get] at h
 | .node v l r,.node v' l' r',n0,hnew,hl,i,c,h=>by
  rw[Tr.get_node,Tr.get_node]
  have e:Dl f n0 (.node v l r) (.node v' l' r')=(.node (Kf f n0 v v').1 (Dl f (n0+(Kf f n0 v v').2.length) l l').1 (Dl f (n0+(Kf f n0 v v').2.length+(Dl f (n0+(Kf f n0 v v').2.length) l l').2.length) r r').1,(Kf f n0 v v').2++((Dl f (n0+(Kf f n0 v v').2.length) l l').2++(Dl f (n0+(Kf f n0 v v').2.length+(Dl f (n0+(Kf f n0 v v').2.length) l l').2.length) r r').2)):=rfl
  rw[e] at hnew hl h
  simp only[List.length_append] at hl
  rw[Tr.get_node] at h
  by_cases h0:i=0
  ·rw[if_pos h0] at h⊢
   rw[if_pos h0]
   cases v with
   |none=>cases v'<;>cases h
   |some a=>
    cases v' with
    |none=>cases h
    |some a'=>
     cases h
     refine⟨n0,a,a',Nat.le_refl _,rfl,rfl,rfl,hnew.left,?_⟩
     simp only[Kf] at hl
     omega
  ·rw[if_neg h0] at h⊢
   rw[if_neg h0]
   by_cases h1:i % 2=1
   ·rw[if_pos h1] at h⊢
    rw[if_pos h1]
    obtain⟨k,c1,c2,q1,q2⟩:=PA l l' _ hnew.right.left (by omega) _ c h
    exact⟨k,c1,c2,by omega,q2⟩
   ·rw[if_neg h1] at h⊢
    rw[if_neg h1]
    obtain⟨k,c1,c2,q1,q2⟩:=PA r r' _ hnew.right.right (by omega) _ c h
    exact⟨k,c1,c2,by omega,q2⟩
theorem AQ.get_flat {s:AQ}{i:Nat}{c:AC}(h:s.flat.get i=some c):s.get i=some c:=by
 unfold AQ.flat at h
 split at h
 ·rename_i hl
  have:s.loc=[]:=by simpa using hl
  simp[AQ.get,this,BR,h]
 ·cases h
theorem SF (hsb:(sb.eval T).toB=b){l1 l2:Loc}(hll:l1.tmps.n=l2.tmps.n){n0:Nat}(hn0:n≤n0)(hnew:New T n0 (Fi n0 sb l1 l2).2)(hl:n0+(Fi n0 sb l1 l2).2.length≤n'){a:Act}(h:Rel T n ρ (sel b l1 l2) a w):
  ∃ ρ',AJ T n ρ (sel b l1 l2).mem w ρ' (Fi n0 sb l1 l2).1.mem w∧Rel T n' ρ' (Fi n0 sb l1 l2).1 a w:=by
 have em:(sel b l1 l2).mem=sel b l1.mem l2.mem:=by cases b<;>rfl
 have et:(sel b l1 l2).tmps=sel b l1.tmps l2.tmps:=by cases b<;>rfl
 have hm:=h.mem
 rw[em] at hm
 simp only[Fi,List.length_append] at hnew hl⊢
 obtain⟨hmem,hst,-,-⟩:=Kv (n':=n') hsb hm hn0 hnew.left (by omega)
 rw[em]
 have hd:=h.defers
 rw[em] at hd
 refine⟨_,hst,hd.on hst,?_,?_,hmem⟩
 ·rw[h.size,et]
  cases b<;>simp[sel,hll]
 ·intro i c hc
  have hc':(Dl (N2 (Ba sb n0 l1.mem l2.mem).1 l1.mem l2.mem sb) (n0+(Ba sb n0 l1.mem l2.mem).2.length) l1.tmps.flat l2.tmps.flat).1.get i=some c:=by
   simpa [AQ.get,BR] using hc
  obtain⟨k,c1,c2,q1,q2,q3,q4,q5,q6⟩:=PA (n':=n') _ _ _ hnew.right (by omega) i c hc'
  subst q4
  have hh:AB T n ρ (sel b l1.mem l2.mem) w (sel b c1 c2) (a.tmps.getD i undef):=by
   rw[←em]
   refine h.tmps i _ ?_
   rw[et]
   cases b
   ·exact AQ.get_flat q3
   ·exact AQ.get_flat q2
  exact af hsb hm hn0 hnew.left (by omega) (by omega) q5 q6 hh
end
end Go.Eng
end
noncomputable section
namespace Go.Eng
open Go Go.RowKit
section
variable {P:Program}{T:Tab}{call:A8}{r:Option Nat}{k:Nat}
def Co (P:Program)(r:Option Nat)(k:Nat)(ops:Array Oper)(o:Oper)(a:Act)(w:World)(K:Act→World→Prop)(Q:Exit→Act→World→Prop):Prop:=
 if Region.wanted o (yielded ops a.tmps) then o.wpIn (fen r) k P a w K Q else K (a.put o.dst undef) w
theorem K7 {o:Oper}{a:Act}{w:World}{K:Act→World→Prop}{Q:Exit→Act→World→Prop}(ho:∀c,o.op≠ .defer c)(h:o.uponIn (fen r) k P a K Q ((execOp a.eval o).run P w)):o.wpIn (fen r) k P a w K Q:=by
 refine⟨fun _ _=>trivial,?_⟩
 rw[Oper.semAt_eq _ _ _ ho]
 exact h
theorem cL {o:Oper}{a:Act}{w:World}{f:Operand}{args:Array Operand}{ts:Array TypeId}{b:Nat}{q:Loop}(ho:o.op= .call { callee:= .value f,args,argTypes:=ts })
  (hf:a.eval f= .func (.yield b) #[] #[]) (hb:w.heap[b]? =some (.loop q)) (hl:(args.toList.map a.eval).length=q.params.size):
  (execOp a.eval o).run P w= .ok (.round b q.fn ((q.params.zip (args.toList.map a.eval).toArray).foldl (fun t (p,v)=>t.setIfInBounds p v) q.tmps) q.assign q.body) w:=by
 have arr:args.map a.eval=(args.toList.map a.eval).toArray:=by rw[←Array.toList_map,Array.toArray_toList]
 have hl2:(args.map a.eval).size=q.params.size:=by simpa using hl
 have hy:=run_yield (P:=P) (args:=args.map a.eval) hb hl2
 simp only[execOp,ho,resolve,hf,Deferred.ofValue,Sem.run_bind,Sem.run_pure,Result.andThen_ok,invoke]
 rw[←arr]
 simpa using hy
theorem Yn {o:Oper}{a:Act}{w:World}{f:Operand}{args:Array Operand}{ts:Array TypeId}{R:Ending→World→Prop}{K:Act→World→Prop}{Q:Exit→Act→World→Prop}(ho:o.op= .call { callee:= .value f,args,argTypes:=ts })
  (h:Ir P (a.eval f) (args.toList.map a.eval) w R) (hR:∀e w',R e w'→∃v,e= .returned v∧K (a.put o.dst v) w'):o.wpIn (fen r) k P a w K Q:=by
 refine K7 (fun c hc=>by rw[ho] at hc;cases hc) ?_
 rcases h with⟨j,first,cap,fn,h1,h2,h3,h4,h5⟩|⟨b,q,h1,h2,h3,h4⟩
 ·rw[ZV ho h1 h2 h3 h4,Oper.uponIn_enter]
  refine⟨fun h=>(by cases h),Oa (h5.mono fun e w' hh=>?_)⟩
  obtain⟨v,rfl,hK⟩:=hR e w' hh
  exact hK
 ·rw[cL ho h1 h2 h3,Oper.uponIn_round]
  refine⟨fun h=>(by cases h),RoundIn.mono (h4 (k - 1)) fun e w' hh=>?_⟩
  obtain⟨v,rfl,hK⟩:=hR e w' hh
  exact hK
theorem Po {ev:Operand→AC}{op:Op}{m:Mem}{g:G}{r:R}(hf:BK op=true)(h:aOp P ev op m g=some r){ρ :Nat→Option Nat}{w:World}{a:Act}(hnew:New T g.n r.us)(hps:∀q∈r.ps,q.holds T)(hm:AH T g.n ρ m w)
  (hev:∀x,AB T g.n ρ m w (ev x) (a.eval x)):r.m=m:=by
 cases op<;>simp only[aOp] at h<;>simp only[BK] at hf<;>try (cases hf;done)
 case move x=>cases h;rfl
 case assign x=>cases h;rfl
 case pick c x y=>exact (MO h hnew hm (hev c) (fun _=>hev x) (fun _=>hev y)).elim fun _ h=>h.2.1
 case build t parts=>
  unfold Pj at h
  simp only[Option.bind_eq_bind,Option.bind_eq_some_iff] at h
  obtain⟨i,_,z,_,l,_,h⟩:=h
  split at h
  ·simp only[Option.bind_eq_some_iff] at h
   obtain⟨_,_,l',_,h⟩:=h
   cases h;rfl
  ·simp only[Option.bind_eq_some_iff] at h
   obtain⟨_,_,l',_,h⟩:=h
   cases h;rfl
  ·cases h
 case load t x=>obtain⟨u,h1,h2,h3⟩:=Lr h hnew hm (hev x);exact h2
 case nilCheck x=>
  unfold Eu at h
  split at h<;>cases h<;>rfl
 case binOp op t x y yt=>obtain⟨z,h1,h2,h3⟩:=Qo h hnew hps (hev x) (hev y) x y;exact h2
 case unOp op t x=>obtain⟨z,h1,h2,h3⟩:=T4 (P:=P) (w:=w) h hnew (hev x);exact h2
 case convert s d x=>obtain⟨z,h1,h2,h3⟩:=Kb h hnew (hev x);exact h2
 case makeFunc fn first cap=>cases h;rfl
 case fieldAddr t x f=>obtain⟨z,h1,h2,h3,h4⟩:=IJ h (hev x);exact h2
 case field t x f=>obtain⟨z,h1,h2,h3,h4⟩:=Na h (hev x);exact h2
 case indexAddr t x i=>obtain⟨z,h1,h2,h3⟩:=II h hnew hps (hev x) (hev i);exact h2
 case index t x i=>obtain⟨z,h1,h2,h3⟩:=NG h hnew hps (hev x) (hev i);exact h2
 case extract x i=>obtain⟨z,h1,h2,h3,h4⟩:=KX (P:=P) h (hev x);exact h2
 case slice t x lo hi mx=>
  cases mx with
  |some v=>cases h
  |none=>
   have ho':∀l:Option Operand,Uo T g.n ρ m w (l.map ev) (l.map a.eval):=by
    intro l
    cases l with
    |none=>rfl
    |some y=>exact⟨_,rfl,hev y⟩
   obtain⟨z,h1,h2,h3⟩:=Mv h hnew hps hm (hev x) (ho' lo) (ho' hi)
   exact h2
 case call c=>
  obtain⟨callee,args,ts⟩:=c
  cases callee with
  |value f=>cases h
  |invoke x n=>cases h
  |builtin b=>
   obtain⟨args⟩:=args
   simp only at h
   unfold HC at h
   cases b<;>simp only at hf<;>try (cases hf;done)
   all_goals
    split at h<;>(try (rename_i heq _;cases heq))<;>try (cases h;done)
   all_goals first
    |(simp only[N3,Option.bind_eq_bind,Option.bind_eq_some_iff] at h
      obtain⟨_,_,_,_,h⟩:=h
      cases h;rfl)
    |(simp only[Option.bind_eq_bind,Option.bind_eq_some_iff] at h
      obtain⟨t,ht,h⟩:=h
      split at h<;>cases h
      rfl)
    |(rename_i x harg
      cases args with
      |nil=>cases harg
      |cons x1 rest=>
       cases rest with
       |cons=>cases harg
       |nil=>
        simp at harg
        subst harg
        simp only[Option.bind_eq_bind,Option.bind_eq_some_iff] at h
        obtain⟨t,ht,h⟩:=h
        obtain⟨z,h1,h2,h3⟩:=RH h hnew (hev x1) ts ht 0
        exact h2)
    |(rename_i x y harg
      cases args with
      |nil=>cases harg
      |cons x1 rest=>
       cases rest with
       |nil=>cases harg
       |cons x2 rest=>
        cases rest with
        |cons=>cases harg
        |nil=>
         simp at harg
         obtain⟨rfl,rfl⟩:=harg
         obtain⟨z,h1,h2,h3⟩:=I6 (P:=P) h hnew (hev x1) (hev x2) ts 0
         exact h2)
end
end Go.Eng
end
noncomputable section
namespace Go.Eng
open Go Go.RowKit
section
variable {P:Program}{T:Tab}{ρ :Nat→Option Nat}{m:Mem}{w:World}{g:G}{r:R}
theorem Su {a:Act}{o:Oper}{b:Builtin}{args:Array Operand}{ts:Array TypeId}{ev:Operand→AC}(ho:o.op= .call { callee:= .builtin b,args,argTypes:=ts })(h:HC P b ts (args.toList.map ev) m g=some r)
  (hf:BK o.op=true) (hnew:New T g.n r.us) (hps:∀q∈r.ps,q.holds T) (hm:AH T g.n ρ m w) (hev:∀x,AB T g.n ρ m w (ev x) (a.eval x)):Az T g ρ m w ((execOp a.eval o).run P w) r:=by
 rw[Of ho]
 obtain⟨args⟩:=args
 unfold HC at h
 split at h
 ·rename_i b' x harg
  cases args with
  |nil=>cases harg
  |cons x1 rest=>
   cases rest with
   |cons=>cases harg
   |nil=>
    simp at harg
    subst harg
    simp only[Option.bind_eq_bind,Option.bind_eq_some_iff] at h
    obtain⟨t,ht,h⟩:=h
    obtain⟨z,h1,h2,h3⟩:=RH h hnew (hev x1) ts ht o.type
    exact Az.pure (by simp[builtin,h1]) hm h2 h3
 ·rename_i b' x y harg
  cases args with
  |nil=>cases harg
  |cons x1 rest=>
   cases rest with
   |nil=>cases harg
   |cons x2 rest=>
    cases rest with
    |cons=>cases harg
    |nil=>
     simp at harg
     obtain⟨rfl,rfl⟩:=harg
     obtain⟨z,h1,h2,h3⟩:=I6 (P:=P) h hnew (hev x1) (hev x2) ts o.type
     exact Az.pure (by simp at h1;simp[builtin,h1]) hm h2 h3
 ·rename_i b' x y harg
  cases args with
  |nil=>cases harg
  |cons x1 rest=>
   cases rest with
   |nil=>cases harg
   |cons x2 rest=>
    cases rest with
    |cons=>cases harg
    |nil=>
     simp at harg
     obtain⟨rfl,rfl⟩:=harg
     obtain⟨z,h1,h2,h3⟩:=I6 (P:=P) h hnew (hev x1) (hev x2) ts o.type
     exact Az.pure (by simp at h1;simp[builtin,h1]) hm h2 h3
 ·rw[ho] at hf;cases hf
 ·rename_i b' c0 c1 c2 cl harg
  cases args with
  |nil=>cases harg
  |cons x1 rest=>
   simp only[List.map_cons,List.cons.injEq] at harg
   obtain⟨rfl,harg⟩:=harg
   obtain⟨z,h1,h2,h3⟩:=JJ (P:=P) (w:=w) _ _ _ (rest.map a.eval) g r h hnew (hev x1) (by rw[←harg];exact AD.of_map hev rest)
   refine Az.pure (v:=z) ?_ hm h2 h3
   simp only[Bool.false_eq_true,if_false] at h1
   simp[builtin,Builtin.min_,h1]
 ·rename_i b' c0 c1 c2 cl harg
  cases args with
  |nil=>cases harg
  |cons x1 rest=>
   simp only[List.map_cons,List.cons.injEq] at harg
   obtain⟨rfl,harg⟩:=harg
   obtain⟨z,h1,h2,h3⟩:=JJ (P:=P) (w:=w) _ _ _ (rest.map a.eval) g r h hnew (hev x1) (by rw[←harg];exact AD.of_map hev rest)
   refine Az.pure (v:=z) ?_ hm h2 h3
   simp only[if_true] at h1
   simp[builtin,Builtin.max_,h1]
 ·rename_i b' harg
  cases args with
  |nil=>cases harg
  |cons x1 rest=>
   cases rest with
   |cons=>simp at harg
   |nil=>
    simp at harg
    simp only[Option.bind_eq_bind,Option.bind_eq_some_iff] at h
    obtain⟨t,ht,h⟩:=h
    split at h
    ·rename_i e hu
     cases h
     have hx:=hev x1
     rw[harg] at hx
     have hx2:a.eval x1= .slice none 0 0:=hx
     refine Az.pure (v:= .int .i64 0) ?_ hm rfl rfl
     simp[builtin,Builtin.cap_,hx2,ht,run_underlying hu,goInt]
    ·cases h
 ·cases h
theorem ck {ev:Operand→AC}{a:Act}{o:Oper}(h:aOp P ev o.op m g=some r)(hf:BK o.op=true)(hnew:New T g.n r.us)(hps:∀q∈r.ps,q.holds T)(hm:AH T g.n ρ m w)(hev:∀x,AB T g.n ρ m w (ev x) (a.eval x)):
  Az T g ρ m w ((execOp a.eval o).run P w) r:=by
 have arr:∀xs:Array Operand,xs.map a.eval=(xs.toList.map a.eval).toArray:=fun xs=>by rw[←Array.toList_map,Array.toArray_toList]
 have hf0:=hf
 cases ho:o.op<;>rw[ho] at h hf<;>simp only[aOp] at h<;>simp only[BK] at hf<;>try (cases hf;done)
 case move x=>cases h;exact Az.same (v:=a.eval x) (by simp[execOp,ho]) hm rfl (hev x)
 case assign x=>cases h;exact Az.same (v:=a.eval x) (by simp[execOp,ho]) hm rfl (hev x)
 case pick c x y=>
  obtain⟨q,h1,h2,h3⟩:=MO h hnew hm (hev c) (fun _=>hev x) (fun _=>hev y)
  exact Az.pure (v:=if q then a.eval x else a.eval y) (by simp[execOp,ho,h1,asBool]) hm h2 h3
 case build t parts=>exact SA h hm ho hev
 case load t x=>
  obtain⟨u,h1,h2,h3⟩:=Lr h hnew hm (hev x)
  exact Az.pure (by simp[execOp,ho,h1]) hm h2 h3
 case nilCheck x=>exact Ni h hps hm ho rfl (hev x)
 case binOp op t x y yt=>
  obtain⟨z,h1,h2,h3⟩:=Qo h hnew hps (hev x) (hev y) x y
  exact Az.pure (v:=z) (R1 (s:=do eqGuard op t x y (a.eval x) (a.eval y);binOp op t (a.eval x) (a.eval y)) (by simp only[execOp,ho]) h1) hm h2 h3
 case unOp op t x=>
  obtain⟨z,h1,h2,h3⟩:=T4 (P:=P) (w:=w) h hnew (hev x)
  exact Az.pure (by simp[execOp,ho,h1]) hm h2 h3
 case convert s d x=>
  obtain⟨z,h1,h2,h3⟩:=Kb h hnew (hev x)
  exact Az.pure (by simp[execOp,ho,h1]) hm h2 h3
 case makeFunc fn first cap=>
  cases h
  refine Az.same (v:= .func fn (first.map a.eval) (cap.map a.eval)) (by simp[execOp,ho,Instr.makeFunc]) hm rfl ?_
  refine⟨first.toList.map a.eval,cap.toList.map a.eval,by rw[arr,arr],AD.of_map hev _,AD.of_map hev _⟩
 case fieldAddr t x f=>
  obtain⟨z,h1,h2,h3,h4⟩:=IJ h (hev x)
  exact Az.same (by simp[execOp,ho,h1]) hm h2 h4
 case field t x f=>
  obtain⟨z,h1,h2,h3,h4⟩:=Na h (hev x)
  exact Az.same (by simp[execOp,ho,h1]) hm h2 h4
 case indexAddr t x i=>
  obtain⟨z,h1,h2,h3⟩:=II h hnew hps (hev x) (hev i)
  exact Az.pure (by simp[execOp,ho,h1]) hm h2 h3
 case index t x i=>
  obtain⟨z,h1,h2,h3⟩:=NG h hnew hps (hev x) (hev i)
  rcases h3 with h3|h3
  ·exact Az.same (by simp[execOp,ho,h1]) hm h2 h3
  ·exact Az.pure (by simp[execOp,ho,h1]) hm h2 h3
 case slice t x lo hi mx=>
  cases mx with
  |some v=>cases h
  |none=>
   have ho':∀l:Option Operand,Uo T g.n ρ m w (l.map ev) (l.map a.eval):=by
    intro l
    cases l with
    |none=>rfl
    |some y=>exact⟨_,rfl,hev y⟩
   obtain⟨z,h1,h2,h3⟩:=Mv h hnew hps hm (hev x) (ho' lo) (ho' hi)
   exact Az.pure (by simp[execOp,ho,h1]) hm h2 h3
 case extract x i=>
  obtain⟨z,h1,h2,h3,h4⟩:=KX (P:=P) h (hev x)
  exact Az.same (by simp[execOp,ho,h1]) hm h2 h4
 case call c=>
  obtain⟨callee,args,ts⟩:=c
  cases callee with
  |builtin b=>exact Su ho h hf0 hnew hps hm hev
  |value f=>cases h
  |invoke x n=>cases h
theorem LB {ev:Operand→AC}{a:Act}{o:Oper}(h:aOp P ev o.op m g=some r)(hf:BK o.op=true)(hnew:New T g.n r.us)(hps:∀q∈r.ps,q.holds T)(hm:AH T g.n ρ m w)(hev:∀x,AB T g.n ρ m w (ev x) (a.eval x)):
  ∃v,(execOp a.eval o).run P w= .ok (.value v) w∧AB T (g.n+r.us.length) ρ m w r.c v:=by
 obtain⟨v,h1,_,h3⟩:=ck h hf hnew hps hm hev
 exact⟨v,h1,h3⟩
end
end Go.Eng
end
noncomputable section
namespace Go.Eng
open Go Go.RowKit
section
variable {P:Program}{T:Tab}{call:A8}{ys:Ys}{r:Option Nat}{kk:Nat}
theorem Ma {pc0:PC}{base:List Nat}{s s':RS}{j:Nat}{want:Bool}{c:AC}{run:Option (PC × List Nat)}(h:Dg pc0 base s j want c=some (run,s')):AP s.g s'.g∧s'.tmps=s.tmps∧s'.mem=s.mem:=by
 cases c<;>simp only[Dg] at h<;>try (cases h;done)
 case cb b=>split at h<;>cases h<;>exact⟨AP.refl _,rfl,rfl⟩
 case b x=>cases h;exact⟨AP.push s.g [CY pc0 x want],rfl,rfl⟩
 case nb x=>cases h;exact⟨AP.push s.g [CY pc0 x (!want)],rfl,rfl⟩
theorem Gh {ops:Array Oper}{pc:PC}{s s':RS}{o:Oper}{run:Option (PC × List Nat)}(h:Dq ops pc s o=some (run,s')):AP s.g s'.g∧s'.tmps=s.tmps∧s'.mem=s.mem:=by
 unfold Dq at h
 split at h
 ·cases h;exact⟨AP.refl _,rfl,rfl⟩
 ·split at h
  ·cases h;exact⟨AP.refl _,rfl,rfl⟩
  ·simp only[Option.bind_eq_bind,Option.bind_eq_some_iff] at h
   obtain⟨_,_,_,_,c,_,h⟩:=h
   split at h
   ·cases h;exact⟨AP.refl _,rfl,rfl⟩
   ·simp only[Option.bind_eq_some_iff] at h
    obtain⟨e,_,h⟩:=h
    exact Ma h
   ·exact Ma h
theorem QG {ops:Array Oper}{n:Nat}{a:Act}{gl:List GE}(hg:∀e∈gl,Eh T ops n a e){c:Operand}{want:Bool}(hc:a.eval c= .bool want)(hsz:∀t,c= .tmp t→t < a.tmps.size):∀x∈K4 ops gl c want,T x= .bool true:=by
 intro x hx
 cases c with
 |tmp t=>
  simp only[K4,List.mem_map,List.mem_filter,Bool.and_eq_true] at hx
  obtain⟨e,⟨he,hw,hd⟩,rfl⟩:=hx
  have hw':e.want=want:=by simpa using hw
  have hd':(ops[e.j]?).bind (·.dst)=some t:=by simpa using hd
  refine (hg e he).iff.2 ?_
  have ht:=hsz t rfl
  have hget:a.tmps[t]? =some (.bool want):=by
   have:a.tmps.getD t undef= .bool want:=hc
   simp[Array.getD_eq_getD_getElem?,ht] at this
   simp[ht,this]
  simp only[yielded,hd',Option.bind_some,hget,hw']
 |_=>simp[K4] at hx
theorem Mt (pc:PC)(c:AC):TJ pc [] c=c:=by cases pc<;>rfl
theorem UH {p:Nat}{imp:List Nat}(h:imp≠[])(c:AC):TJ (some p) imp c= .gd p c:=by cases imp<;>first|exact absurd rfl h|rfl
theorem Ir.mono {fv:Value}{args:List Value}{w:World}{R R':Ending→World→Prop}(h:Ir P fv args w R)(hr:∀e w',R e w'→R' e w'):Ir P fv args w R':=by
 rcases h with⟨k,first,cap,fn,h1,h2,h3,h4,h5⟩|⟨b,q,h1,h2,h3,h4⟩
 ·exact .inl ⟨k,first,cap,fn,h1,h2,h3,h4,h5.mono hr⟩
 ·exact .inr ⟨b,q,h1,h2,h3,fun k=>(h4 k).mono hr⟩
def TB (P:Program)(T:Tab)(args:List AC)(one:AC→PC→Mem→G→Option (AC × Mem × G))(H:G→(Nat→Option Nat)→Mem→World→AC→Value→Prop):Prop:=
 ∀f pc m g c m' g',one f pc m g=some (c,m',g')→AP g g'∧(Agr T g'→An T g'→pcv T pc→BJ T g pc→∀ ρ w fv vs,H g ρ m w f fv→AD T g.n ρ m w args vs→AH T g.n ρ m w→Ir P fv vs w (KV T g ρ m w c m' g'))
theorem Ha (hcall:Ca P T call)(hys:CN P T.lp ys)(args:List AC):TB P T args (Di call ys args) (fun g ρ m w f fv=>AB T g.n ρ m w f fv):=by
 intro f pc m g c m' g' h
 unfold Di at h
 split at h
 ·rename_i k first cap
  obtain⟨gr,hs⟩:=hcall ys k _ pc m g c m' g' hys h
  refine⟨gr,fun hA hob hpc hk ρ w fv vs hf hargs hm=>?_⟩
  obtain⟨v1,us,e1,e2,e3⟩:=hf
  obtain⟨⟨fn,q1,q2,q3⟩,hc⟩:=hs hA hob hpc hk ρ w (v1++vs++us) ((e2.append hargs).append e3) hm
  exact .inl ⟨k,v1,us,fn,e1,q1,q2,q3,hc⟩
 ·rename_i id
  split at h
  ·rename_i stamp st hid
   simp only[Option.bind_eq_bind,Option.bind_eq_some_iff] at h
   obtain⟨y,hy,h⟩:=h
   obtain⟨gr,hs⟩:=hys T rfl stamp y hy id args pc m g c m' g' h
   refine⟨gr,fun hA hob hpc hk ρ w fv vs hf hargs hm=>?_⟩
   obtain⟨b,e1,e2,_⟩:=hf
   rw[e2]
   exact hs hA hob hpc hk st hid ρ w vs hargs hm b e1
  ·cases h
 ·cases h
def B7 (g:G):PC→Prop
 |none=>True
 |some c=>c < g.n
theorem B7.grow {g g':G}{pc:PC}(h:B7 g pc)(k:AP g g'):B7 g' pc:=by
 cases pc with
 |none=>trivial
 |some c=>exact Nat.lt_of_lt_of_le h k.n
theorem BJ.lt {g:G}{pc:PC}(h:BJ T g pc):B7 g pc:=by
 cases pc with
 |none=>trivial
 |some c=>exact h.1
theorem B7.ok {g:G}{pc:PC}(h:B7 g pc)(hp:pcv T pc):BJ T g pc:=by
 cases pc with
 |none=>trivial
 |some c=>exact⟨h,true,hp⟩
theorem FY {c:Nat}:pcv T (some c)↔(T c).toB=true:=⟨fun h=>by rw[show T c= .bool true from h];rfl,P0⟩
theorem D0 {g g':G}{pc p:PC}{x:Nat}{want:Bool}(h:CD g pc x want=(p,g')):AP g g'∧(Agr T g'→B7 g pc→x < g.n→B7 g' p∧(pcv T p↔pcv T pc∧(T x).toB=want)):=by
 have push:∀{p g'},(some g.n,g.pushAll [CY pc x want])=(p,g')→AP g g'∧(Agr T g'→B7 g pc→x < g.n→B7 g' p∧(pcv T p↔pcv T pc∧(T x).toB=want)):=by
  intro p g' h
  cases h
  refine⟨AP.push _ _,fun hA hp hx=>⟨by show _ < _;rw[BY];exact Nat.lt_succ_self _,?_⟩⟩
  have hnew:=hA.new.head
  rw[FY,hnew]
  cases pc with
  |none=>
   simp only[pcv,true_and]
   cases want<;>simp[CY,Ex.eval,oId,Qt,u0,eve,U.toB]
  |some c=>
   rw[FY]
   cases want<;>simp[CY,Ex.eval,NF,u0,u1,eve,evn,U.toB]
 unfold CD at h
 split at h
 ·cases h
  refine⟨AP.refl _,fun hA _ hx=>⟨hx,?_⟩⟩
  simp only[pcv,true_and]
  exact⟨fun h=>by rw[h];rfl,P0⟩
 ·exact push h
theorem Jt {b:Bool}{sb:Rf}(hsb:(sb.eval T).toB=b){n n0 n':Nat}{ρ :Nat→Option Nat}{w:World}{m1 m2:Mem}(hm:AH T n ρ (sel b m1 m2) w){c d:AC}{v:Value}(hn:n≤n0)
  (hnew:New T n0 ((Ba sb n0 m1 m2).2++(FA (n0+(Ba sb n0 m1 m2).2.length) sb c d).2))
  (hl:n0+((Ba sb n0 m1 m2).2.length+(FA (n0+(Ba sb n0 m1 m2).2.length) sb c d).2.length)≤n')
  (h:AB T n ρ (sel b m1 m2) w (sel b c d) v):
  ∃ ρ',AJ T n ρ (sel b m1 m2) w ρ' (Ba sb n0 m1 m2).1 w∧AH T n' ρ' (Ba sb n0 m1 m2).1 w∧AB T n' ρ' (Ba sb n0 m1 m2).1 w (FA (n0+(Ba sb n0 m1 m2).2.length) sb c d).1 v:=by
 obtain⟨hmem,hst,-,-⟩:=Kv (n':=n') hsb hm hn hnew.left (by omega)
 have h2:=AB.mono hst hm (Nat.le_refl _) _ _ h
 refine⟨_,hst,hmem,iQ (n:=n) hsb (by omega) hnew.right (by omega) (fun hb=>?_) (fun hb=>?_)⟩
 ·subst hb;exact h2
 ·subst hb;exact h2
theorem Qj {args:List AC}{one:AC→PC→Mem→G→Option (AC × Mem × G)}(hone:TB P T args one (fun g ρ m w f fv=>AB T g.n ρ m w f fv)){x:Nat}{ix:Int}(hix:T x= .int ix)(h0:0≤ix):
  ∀(alts:List AC) (j:Nat),TB P T args (fun _ pc m g=>HO one x j alts pc m g) (fun g ρ m w _ fv=>j≤ix.toNat∧Ah T g.n ρ m w alts (ix.toNat - j) fv)
 |[],j=>fun f pc m g c m' g' h=>by simp[HO] at h
 |[c0],j=>by
  intro f pc m g c m' g' h
  have h':one c0 pc m g=some (c,m',g'):=by cases c0<;>first|exact h|(rename_i cc;cases cc<;>exact h)
  obtain⟨gr,hs⟩:=hone c0 pc m g c m' g' h'
  refine⟨gr,fun hA hob hpc hk ρ w fv vs ⟨hj,hf⟩ hargs hm=>hs hA hob hpc hk ρ w fv vs ?_ hargs hm⟩
  cases hd:ix.toNat - j with
  |zero=>rw[hd] at hf;exact hf
  |succ d=>rw[hd] at hf;exact hf.elim
 |c0::c1::cs,j=>by
  intro f pc m g c m' g' h
  by_cases hnil:c0= .cv .nilFunc
  ·subst hnil
   simp only[HO] at h
   obtain⟨gr,hs⟩:=Qj hone hix h0 (c1::cs) (j+1) f pc m _ c m' g' h
   refine⟨(AP.need _ _ _).trans gr,fun hA hob hpc hk ρ w fv vs ⟨hj,hf⟩ hargs hm=>?_⟩
   have hne:=An.need (hob.of gr) hpc ⟨ "ne",pNe,[.e x,.c (.int j)]⟩ (by simp)
   simp only[Pr.holds,pNe,List.map_cons,List.map_nil,u0,u1,eve,evc,hix,U.toI] at hne
   obtain⟨e1,e2,e3,e4⟩:=DT [⟨ "ne",pNe,[.e x,.c (.int j)]⟩] g pc
   have hd:ix.toNat - j=(ix.toNat - (j+1))+1:=by omega
   rw[hd] at hf
   have:=hs hA hob hpc (hk.grow (AP.need _ _ _)) ρ w fv vs ⟨by omega,by rw[e1];exact hf⟩ (by rw[e1];exact hargs) (by rw[e1];exact hm)
   refine this.mono fun e w' ⟨v, ρ',q1,q2,q3,q4⟩=>⟨v, ρ',q1,by rw[e1] at q2;exact q2,q3,q4⟩
  ·have hun:HO one x j (c0::c1::cs) pc m g=(do
     let t:=g.n
     let g:=g.pushAll [⟨ "eq",oEq,[.e x,.c (.int j)]⟩]
     let (pa,g):=CD g pc t true
     let (ca,ma,g) ←one c0 pa m g
     let (pb,g):=CD g pc t false
     let (cb,mb,g) ←HO one x (j+1) (c1::cs) pb m g
     let (m',us):=Ba (.e t) g.n ma mb
     let (c',us'):=FA (g.n+us.length) (.e t) ca cb
     some (c',m',g.pushAll (us++us'))):=by
    cases c0<;>first|rfl|(rename_i cc;cases cc<;>first|rfl|exact absurd rfl hnil)
   simp only[hun] at h
   generalize hg0:g.pushAll [⟨ "eq",oEq,[.e x,.c (.int j)]⟩]=g0 at h
   have gr0:AP g g0:=by rw[←hg0];exact AP.push _ _
   have hn0:g0.n=g.n+1:=by rw[←hg0,BY];rfl
   generalize hba:CD g0 pc g.n true=ba at h
   obtain⟨pa,g1⟩:=ba
   simp only[Option.bind_eq_bind,Option.bind_eq_some_iff] at h
   obtain⟨⟨ca,ma,g2⟩,h1,h⟩:=h
   simp only at h
   generalize hbb:CD g2 pc g.n false=bb at h
   obtain⟨pb,g3⟩:=bb
   simp only[Option.bind_eq_some_iff] at h
   obtain⟨⟨cb,mb,g4⟩,h2,h⟩:=h
   cases h
   obtain⟨gr1,k1⟩:=D0 (T:=T) hba
   obtain⟨gr2,k2⟩:=hone c0 pa m g1 ca ma g2 h1
   obtain⟨gr3,k3⟩:=D0 (T:=T) hbb
   obtain⟨gr4,k4⟩:=Qj hone hix h0 (c1::cs) (j+1) f pb m g3 cb mb g4 h2
   have gr5:AP g4 (g4.pushAll ((Ba (.e g.n) g4.n ma mb).2++(FA (g4.n+(Ba (.e g.n) g4.n ma mb).2.length) (.e g.n) ca cb).2)):=AP.push _ _
   refine⟨((((gr0.trans gr1).trans gr2).trans gr3).trans gr4).trans gr5,fun hA hob hpc hk ρ w fv vs ⟨hj,hf⟩ hargs hm=>?_⟩
   have hA4:=hA.of gr5
   have hA3:=hA4.of gr4
   have hA2:=hA3.of gr3
   have hA1:=hA2.of gr2
   have hA0:=hA1.of gr1
   have hT:T g.n= .bool (decide (ix=j)):=by
    have:Agr T (g.pushAll [⟨ "eq",oEq,[.e x,.c (.int j)]⟩]):=by rw[hg0];exact hA0
    rw[this.new.head]
    simp[Ex.eval,oEq,u0,u1,eve,evc,hix,U.toI]
   obtain⟨a1,a2⟩:=k1 hA1 (hk.lt.grow gr0) (by omega)
   obtain⟨a3,a4⟩:=k3 hA3 (hk.lt.grow ((gr0.trans gr1).trans gr2)) (by have:=gr1.n;have:=gr2.n;omega)
   have hnew:=hA.new
   have hlen:(g4.pushAll ((Ba (.e g.n) g4.n ma mb).2++(FA (g4.n+(Ba (.e g.n) g4.n ma mb).2.length) (.e g.n) ca cb).2)).n=g4.n+((Ba (.e g.n) g4.n ma mb).2.length+(FA (g4.n+(Ba (.e g.n) g4.n ma mb).2.length) (.e g.n) ca cb).2.length):=by
    rw[BY,List.length_append]
   by_cases hc:ix=j
   ·have hpa:pcv T pa:=a2.2 ⟨hpc,by rw[hT];simp[hc,U.toB]⟩
    have hd:ix.toNat - j=0:=by omega
    rw[hd] at hf
    have up1:=(gr0.trans gr1).n
    have:=k2 hA2 (hob.of ((gr3.trans gr4).trans gr5)) hpa (a1.ok hpa) ρ w fv vs (AB.up hm up1 hf) (hargs.up hm up1) (hm.mono up1)
    refine this.mono fun e w' ⟨v, ρ',q1,q2,q3,q4⟩=>?_
    obtain⟨ρ2,s1,s2,s3⟩:=Jt (n:=g2.n) (b:=true) (m1:=ma) (m2:=mb) (c:=ca) (d:=cb) (v:=v) (by simp[eve,hT,hc,U.toB]) q3 (gr3.trans gr4).n hnew (Nat.le_of_eq hlen.symm) q4
    exact⟨v, ρ2,q1,(q2.down up1).trans hm ((gr0.trans gr1).trans gr2).n s1,s2,s3⟩
   ·have hpb:pcv T pb:=a4.2 ⟨hpc,by rw[hT];simp[hc,U.toB]⟩
    have hd:ix.toNat - j=(ix.toNat - (j+1))+1:=by omega
    rw[hd] at hf
    have up3:=(((gr0.trans gr1).trans gr2).trans gr3).n
    have hfA:Ah T g.n ρ m w (c1::cs) (ix.toNat - (j+1)) fv:=hf
    have:=k4 hA4 (hob.of gr5) hpb (a3.ok hpb) ρ w fv vs ⟨by omega,Ah.mono0 (AJ.refl _ _ _ _ _) up3 _ _ _ hfA⟩ (hargs.up hm up3) (hm.mono up3)
    refine this.mono fun e w' ⟨v, ρ',q1,q2,q3,q4⟩=>?_
    obtain⟨ρ2,s1,s2,s3⟩:=Jt (n:=g4.n) (b:=false) (m1:=ma) (m2:=mb) (c:=ca) (d:=cb) (v:=v) (by simp[eve,hT,hc,U.toB]) q3 (Nat.le_refl _) hnew (Nat.le_of_eq hlen.symm) q4
    exact⟨v, ρ2,q1,(q2.down up3).trans hm ((((gr0.trans gr1).trans gr2).trans gr3).trans gr4).n s1,s2,s3⟩
theorem YA (hcall:Ca P T call)(hys:CN P T.lp ys)(args:List AC):TB P T args (fun f pc m g=>Kn call ys f args pc m g) (fun g ρ m w f fv=>AB T g.n ρ m w f fv):=by
 intro f pc m g c m' g' h
 by_cases hs:∃x alts,f= .sel x alts
 ·obtain⟨x,alts,rfl⟩:=hs
  simp only[Kn] at h
  by_cases hx:∃ix,T x= .int ix∧0≤ix
  ·obtain⟨ix,h1,h2⟩:=hx
   obtain⟨gr,k⟩:=Qj (Ha hcall hys args) h1 h2 alts 0 .any pc m g c m' g' h
   refine⟨gr,fun hA hob hpc hk ρ w fv vs ⟨_,j,e1,_,e3⟩ hargs hm=>k hA hob hpc hk ρ w fv vs ⟨Nat.zero_le _,?_⟩ hargs hm⟩
   rw[h1] at e1
   cases e1
   exact e3
  ·
   refine⟨?_,fun hA hob hpc hk ρ w fv vs ⟨_,j,e1,e2,e3⟩ hargs hm=>absurd ⟨j,e1,e2⟩ hx⟩
   have grow:∀(alts:List AC) (j:Nat) (pc:PC) (m:Mem) (g:G) (c:AC) (m':Mem) (g':G),HO (Di call ys args) x j alts pc m g=some (c,m',g')→AP g g':=by
    intro alts
    induction alts with
    |nil=>intro j pc m g c m' g' h;simp[HO] at h
    |cons c0 alts ih=>
     intro j pc m g c m' g' h
     cases alts with
     |nil=>
      have h':Di call ys args c0 pc m g=some (c,m',g'):=by cases c0<;>first|exact h|(rename_i cc;cases cc<;>exact h)
      exact (Ha hcall hys args c0 pc m g c m' g' h').1
     |cons c1 cs=>
      by_cases hnil:c0= .cv .nilFunc
      ·subst hnil
       simp only[HO] at h
       exact (AP.need _ _ _).trans (ih (j+1) pc m _ c m' g' h)
      ·have hun:HO (Di call ys args) x j (c0::c1::cs) pc m g=(do
         let t:=g.n
         let g:=g.pushAll [⟨ "eq",oEq,[.e x,.c (.int j)]⟩]
         let (pa,g):=CD g pc t true
         let (ca,ma,g) ←Di call ys args c0 pa m g
         let (pb,g):=CD g pc t false
         let (cb,mb,g) ←HO (Di call ys args) x (j+1) (c1::cs) pb m g
         let (m',us):=Ba (.e t) g.n ma mb
         let (c',us'):=FA (g.n+us.length) (.e t) ca cb
         some (c',m',g.pushAll (us++us'))):=by
        cases c0<;>first|rfl|(rename_i cc;cases cc<;>first|rfl|exact absurd rfl hnil)
       simp only[hun] at h
       generalize hba:CD (g.pushAll [⟨ "eq",oEq,[.e x,.c (.int j)]⟩]) pc g.n true=ba at h
       obtain⟨pa,g1⟩:=ba
       simp only[Option.bind_eq_bind,Option.bind_eq_some_iff] at h
       obtain⟨⟨ca,ma,g2⟩,h1,h⟩:=h
       simp only at h
       generalize hbb:CD g2 pc g.n false=bb at h
       obtain⟨pb,g3⟩:=bb
       simp only[Option.bind_eq_some_iff] at h
       obtain⟨⟨cb,mb,g4⟩,h2,h⟩:=h
       cases h
       exact ((((AP.push _ _).trans (D0 (T:=T) hba).1).trans (Ha hcall hys args c0 pa m g1 ca ma g2 h1).1).trans (D0 (T:=T) hbb).1).trans ((ih (j+1) pb m g3 cb mb g4 h2).trans (AP.push _ _))
   exact grow alts 0 pc m g c m' g' h
 ·have:Kn call ys f args pc m g=Di call ys args f pc m g:=by
   unfold Kn
   split
   ·exact absurd ⟨_,_,rfl⟩ hs
   ·rfl
  simp only[this] at h
  exact Ha hcall hys args f pc m g c m' g' h
theorem ek {n:Nat}{ρ :Nat→Option Nat}{m:Mem}{w:World}{a:AC}{v:Value}(hq:∀q∈VO a,q.holds T)(h:AB T n ρ m w a v):AB T n ρ m w (TE a) v:=by
 unfold TE
 split
 ·rename_i c i o
  have:=hq ⟨ "t",pT,[.e c]⟩ (by simp[VO])
  simp only[Pr.holds,pT,List.map_cons,List.map_nil,u0,eve] at this
  exact h.2 (FY.2 this)
 ·exact h
theorem Ru {n:Nat}{ρ :Nat→Option Nat}{m:Mem}{w:World}:∀{l:List AC} {vs:List Value},(∀q∈HM l,q.holds T)→AD T n ρ m w l vs→AD T n ρ m w (l.map TE) vs
 |[],_,_,h=>h
 |a::l,_,hq,⟨u,us,e,h1,h2⟩=>⟨u,us,e,ek (fun q hx=>hq q (by simp[HM,hx])) h1,Ru (fun q hx=>hq q (by simp[HM,hx])) h2⟩
theorem PN {o:Oper}{a:Act}{w:World}{g:G}{ρ :Nat→Option Nat}{m:Mem}{r':R}{K:Act→World→Prop}{Q:Exit→Act→World→Prop}(ho:∀c,o.op≠ .defer c)(h:BZ T g ρ m w ((execOp a.eval o).run P w) r')
  (hw:BK o.op=true→∃x,(execOp a.eval o).run P w= .ok x w)
  (hK:∀v w' ρ',AJ T g.n ρ m w ρ' r'.m w'→AH T (g.n+r'.us.length) ρ' r'.m w'→AB T (g.n+r'.us.length) ρ' r'.m w' r'.c v→(BK o.op=true→w'=w)→K (a.put o.dst v) w'):o.wpIn (fen r) kk P a w K Q:=by
 refine K7 ho ?_
 obtain⟨v,w', ρ',h1|⟨h1,rfl⟩,h2,h3,h4⟩:=h
 ·rw[h1]
  refine hK v w' ρ' h2 h3 h4 fun hf=>?_
  obtain⟨x,hx⟩:=hw hf
  rw[h1] at hx
  injection hx
 ·rw[h1]
  refine hK _ w' ρ' h2 h3 h4 fun hf=>?_
  obtain⟨x,hx⟩:=hw hf
  rw[h1] at hx
  injection hx
theorem Hp (hcall:Ca P T call)(hys:CN P T.lp ys){ops:Array Oper}{pc:PC}{s s':RS}{o:Oper}(h:Ck P call ys ops pc s o=some s'):
  AP s.g s'.g∧(Agr T s'.g→An T s'.g→pcv T pc→BJ T s.g pc→∀ ρ a w K Q,Bq T ρ ops s a w→
   (∀ ρ' v w',Bq T ρ' ops s' (a.put o.dst v) w'→AJ T s.g.n ρ s.mem w ρ' s'.mem w'→(BK o.op=true→w'=w)→K (a.put o.dst v) w')→Co P r kk ops o a w K Q):=by
 unfold Ck at h
 simp only[Option.bind_eq_bind,Option.bind_eq_some_iff] at h
 obtain⟨⟨run,s1⟩,hg,h⟩:=h
 obtain⟨gg1,gg2,gg3⟩:=Gh hg
 simp only at h
 split at h
 ·cases h
 rename_i hdst
 have hd:s1.gl.any (fun e=>((ops[e.j]?).bind (·.dst))==o.dst)=false:=by simpa using hdst
 split at h
 ·
  cases h
  refine⟨gg1,fun hA _ hpc hk ρ a w K Q hi hK=>?_⟩
  obtain⟨e1,e2,_,hi1,e3,_⟩:=Lo hg hA hpc hk hi
  unfold Co
  rw[e3 rfl]
  simp only[Bool.false_eq_true,if_false]
  have:=hi1.put hd (AP.refl _) (AJ.refl T s1.g.n ρ s1.mem w) hi1.rel.mem (c:= .tup []) (v:=undef) ⟨[],rfl,rfl⟩
  exact hK ρ _ w this (by rw[show s1.mem=s.mem from e2];exact AJ.refl _ _ _ _ _) (fun _=>rfl)
 ·rename_i pc' imp
  have main:∀(g2:G) (c:AC) (mem2:Mem),AP s1.g g2→s'={ s1 with tmps:=DG s1.tmps o.dst (TJ pc' imp c),mem:=mem2,g:=g2 }→
    (imp≠[]→∀p,pc'=some p→(T p).toB=false→Agr T g2→∀ ρ w,AH T s1.g.n ρ s1.mem w→∃ ρ',AJ T s1.g.n ρ s1.mem w ρ' mem2 w∧AH T g2.n ρ' mem2 w)→
    (∀ ρ a w,Bq T ρ ops s1 a w→(∀c∈imp,T c= .bool true)→Agr T g2→An T g2→pcv T pc'→BJ T s1.g pc'→∀K Q,(∀v ρ' w',AJ T s1.g.n ρ s1.mem w ρ' mem2 w'→AH T g2.n ρ' mem2 w'→AB T g2.n ρ' mem2 w' c v→(BK o.op=true→w'=w)→K (a.put o.dst v) w')→o.wpIn (fen r) kk P a w K Q)→
    AP s.g s'.g∧(Agr T s'.g→An T s'.g→pcv T pc→BJ T s.g pc→∀ ρ a w K Q,Bq T ρ ops s a w→
     (∀ ρ' v w',Bq T ρ' ops s' (a.put o.dst v) w'→AJ T s.g.n ρ s.mem w ρ' s'.mem w'→(BK o.op=true→w'=w)→K (a.put o.dst v) w')→Co P r kk ops o a w K Q):=by
   intro g2 c mem2 gr hs' hgone hrun
   subst hs'
   refine⟨gg1.trans gr,fun hA hob hpc hk ρ a w K Q hi hK=>?_⟩
   have hA2:Agr T g2:=hA
   obtain⟨e1,e2,_,hi1,_,e4⟩:=Lo hg (hA2.of gr) hpc hk hi
   obtain⟨f1,f2,f3,f4,f5⟩:=e4 pc' imp rfl
   have step:∀{ρ' w'},AJ T s1.g.n ρ s1.mem w ρ' mem2 w'→AJ T s.g.n ρ s.mem w ρ' mem2 w':=fun hs=>by
    rw[←show s1.mem=s.mem from e2];exact hs.down gg1.n
   unfold Co
   by_cases hp:pcv T pc'
   ·rw[f1.2 hp]
    simp only[if_true]
    refine hrun ρ a w hi1 (f2 hp) hA2 hob hp f3 K Q (fun v ρ' w' k1 k2 k3 k4=>?_)
    refine hK ρ' _ w' (hi1.put hd gr k1 k2 ?_) (step k1) k4
    by_cases hemp:imp=[]
    ·subst hemp;rw[Mt];exact k3
    ·obtain⟨⟨p,rfl⟩,_⟩:=f5 hemp
     rw[UH hemp]
     exact⟨Nat.lt_of_lt_of_le f3.1 gr.n,fun _=>k3,fun hn=>absurd hp hn⟩
   ·have hw:Region.wanted o (yielded ops a.tmps)=false:=by
     cases hw:Region.wanted o (yielded ops a.tmps) with
     |false=>rfl
     |true=>exact absurd (f1.1 hw) hp
    rw[hw]
    simp only[Bool.false_eq_true,if_false]
    have hemp:imp≠[]:=fun h=>hp (f4 h)
    obtain⟨⟨p,rfl⟩,_⟩:=f5 hemp
    have hpf:(T p).toB=false:=by
     cases hb:(T p).toB with
     |false=>rfl
     |true=>exact absurd (FY.2 hb) hp
    obtain⟨ρ',hst,hmk⟩:=hgone hemp p rfl hpf hA2 ρ w hi1.rel.mem
    refine hK ρ' _ w (hi1.put hd gr hst hmk (v:=undef) ?_) (step hst) (fun _=>rfl)
    rw[UH hemp]
    exact⟨Nat.lt_of_lt_of_le f3.1 gr.n,fun h=>absurd h hp,fun _=>rfl⟩
  have weak:∀{mem2:Mem} {g2:G},AP s1.g g2→(∀id,mem2.at id=s1.mem.at id∨mem2.at id= .gone)→(imp≠[]→∀p,pc'=some p→(T p).toB=false→Agr T g2→∀ ρ w,AH T s1.g.n ρ s1.mem w→∃ ρ',AJ T s1.g.n ρ s1.mem w ρ' mem2 w∧AH T g2.n ρ' mem2 w):=
   fun gr hw _ _ _ _ _ ρ w hm=>⟨ρ,AJ.weaken hw,(hm.mono gr.n).weaken hw⟩
  have evald:∀(us:List Ex) (ps:List Pr),AP s1.g ((s1.g.pushAll us).needAll pc' ps)∧(Agr T ((s1.g.pushAll us).needAll pc' ps)→New T s1.g.n us)∧
    (An T ((s1.g.pushAll us).needAll pc' ps)→pcv T pc'→∀q∈ps,q.holds T)∧((s1.g.pushAll us).needAll pc' ps).n=s1.g.n+us.length:=by
   intro us ps
   obtain⟨q1,_⟩:=DT ps (s1.g.pushAll us) pc'
   exact⟨(AP.push _ _).trans (AP.need _ _ _),fun hA=>hA.need.new,fun hob hp=>An.need hob hp,by rw[q1,BY]⟩
  split at h
  ·
   rename_i f args ts ho
   simp only[Option.bind_eq_some_iff] at h
   obtain⟨⟨c,m2,g2⟩,hc,h⟩:=h
   obtain⟨gr0,hsound⟩:=YA hcall hys _ _ pc' s1.mem _ c m2 g2 hc
   have grn:AP s1.g (s1.g.needAll pc' (HM (args.toList.map (HJ imp s1.tmps)))):=AP.need _ _ _
   have gr:AP s1.g g2:=grn.trans gr0
   have en:(s1.g.needAll pc' (HM (args.toList.map (HJ imp s1.tmps)))).n=s1.g.n:=(DT _ s1.g pc').1
   have run:∀ ρ a w,Bq T ρ ops s1 a w→(∀c∈imp,T c= .bool true)→Agr T g2→An T g2→pcv T pc'→BJ T s1.g pc'→∀K Q,(∀v ρ' w',AJ T s1.g.n ρ s1.mem w ρ' m2 w'→AH T g2.n ρ' m2 w'→AB T g2.n ρ' m2 w' c v→(BK o.op=true→w'=w)→K (a.put o.dst v) w')→o.wpIn (fen r) kk P a w K Q:=by
    intro ρ a w hi1 himp hA2 hob2 hp hk2 K Q hK
    have hev:=GK hi1.rel himp
    have hargs:=AD.of_map hev args.toList
    have hst:=Ru (An.need (hob2.of gr0) hp) hargs
    refine Yn ho (hsound hA2 hob2 hp (hk2.grow grn) ρ w _ _ (by show AB T _ ρ s1.mem w _ _;rw[en];exact hev f) (by rw[en];exact hst) (by rw[en];exact hi1.rel.mem)) fun e w' hh=>?_
    obtain⟨v, ρ',rfl,k1,k2,k3⟩:=hh
    rw[en] at k1
    exact⟨v,rfl,hK v ρ' w' k1 k2 k3 (fun hf=>by rw[ho] at hf;cases hf)⟩
   split at h
   ·
    cases h
    exact main g2 c m2 gr (by rw[Mt]) (fun h=>absurd rfl h) run
   ·
    split at h
    ·rename_i hkept
     cases h
     obtain⟨hlen,hat⟩:=IV hkept
     have hmem2:∀id,Mem.at (s1.mem++List.replicate (m2.length - s1.mem.length) .gone) id=m2.at id∨Mem.at (s1.mem++List.replicate (m2.length - s1.mem.length) .gone) id= .gone:=by
      intro id
      rw[Uw]
      split
      ·rename_i hid;exact .inl (hat id hid).symm
      ·split
       ·exact .inr rfl
       ·exact .inl (Mem.at_ge (by omega)).symm
     refine main g2 c _ gr rfl (weak gr fun id=>?_) (fun ρ a w hi1 himp hA2 hob2 hp hk2 K Q hK=>?_)
     ·rw[Uw]
      split
      ·exact .inl rfl
      ·split
       ·exact .inr rfl
       ·exact .inl (Mem.at_ge (by omega)).symm
     ·refine run ρ a w hi1 himp hA2 hob2 hp hk2 K Q (fun v ρ' w' k1 k2 k3 k4=>?_)
      have hst:AJ T g2.n ρ' m2 w' ρ' (s1.mem++List.replicate (m2.length - s1.mem.length) .gone) w':=AJ.weaken hmem2
      exact hK v ρ' w' (k1.trans hi1.rel.mem gr.n hst) (k2.weaken hmem2) (AB.mono hst k2 (Nat.le_refl _) c v k3) k4
    ·
     split at h
     ·rename_i p
      cases h
      have gr2:AP g2 (g2.pushAll (Ba (.e p) g2.n m2 s1.mem).2):=AP.push _ _
      have hlen:(g2.pushAll (Ba (.e p) g2.n m2 s1.mem).2).n=g2.n+(Ba (.e p) g2.n m2 s1.mem).2.length:=by rw[BY]
      refine main _ c _ (gr.trans gr2) rfl (fun _ q hq hf hA ρ w hm=>?_) (fun ρ a w hi1 himp hA2 hob2 hp hk2 K Q hK=>?_)
      ·cases hq
       have hm':AH T s1.g.n ρ (sel false m2 s1.mem) w:=hm
       obtain⟨q1,q2,-,-⟩:=Kv (T:=T) (n:=s1.g.n) (n':=(g2.pushAll (Ba (.e p) g2.n m2 s1.mem).2).n) (w:=w) (m1:=m2) (m2:=s1.mem) (b:=false) (sb:= .e p) (by show (T p).toB=false;exact hf) hm' gr.n hA.new (Nat.le_of_eq hlen.symm)
       exact⟨_,q2,q1⟩
      ·refine run ρ a w hi1 himp (hA2.of gr2) (hob2.of gr2) hp hk2 K Q (fun v ρ' w' k1 k2 k3 k4=>?_)
       have k2':AH T g2.n ρ' (sel true m2 s1.mem) w':=k2
       obtain⟨q1,q2,-,-⟩:=Kv (T:=T) (n:=g2.n) (n':=(g2.pushAll (Ba (.e p) g2.n m2 s1.mem).2).n) (w:=w') (m1:=m2) (m2:=s1.mem) (b:=true) (sb:= .e p) (by show (T p).toB=true;exact FY.1 hp) k2' (Nat.le_refl _) hA2.new (Nat.le_of_eq hlen.symm)
       have hst':AJ T g2.n ρ' m2 w' _ _ w':=q2
       exact hK v _ w' (k1.trans hi1.rel.mem gr.n hst') q1 (AB.mono hst' k2 gr2.n c v k3) k4
     ·cases h
  ·
   rename_i c x y ho
   simp only[Option.bind_eq_some_iff] at h
   obtain⟨rr,hr,h⟩:=h
   cases h
   obtain⟨gr,ga,gp,gn⟩:=evald rr.us rr.ps
   refine main _ rr.c s1.mem gr rfl (weak gr fun id=> .inl rfl) (fun ρ a w hi1 himp hA2 hob2 hp hk2 K Q hK=>?_)
   have hev:=GK hi1.rel himp
   have size:∀b,a.eval c= .bool b→∀t,c= .tmp t→t < a.tmps.size:=by
    intro b hb t ht
    subst ht
    rcases Nat.lt_or_ge t a.tmps.size with h|h
    ·exact h
    ·have:a.tmps.getD t undef= .bool b:=hb
     rw[Array.getD_eq_getD_getElem?,Array.getElem?_eq_none h] at this
     cases this
   obtain⟨q,e1,e2,e3⟩:=MO (ρ := ρ) (w:=w) hr (ga hA2) hi1.rel.mem (hev c)
    (fun hb=>N6 (QG hi1.ges hb (size _ hb)) (hev x)) (fun hb=>N6 (QG hi1.ges hb (size _ hb)) (hev y))
   have hrun:(execOp a.eval o).run P w= .ok (.value (if q then a.eval x else a.eval y)) w:=by simp[execOp,ho,e1,asBool]
   refine K7 (fun c hc=>by rw[ho] at hc;cases hc) ?_
   rw[hrun]
   refine hK _ ρ w (AJ.refl _ _ _ _ _) (hi1.rel.mem.mono gr.n) ?_ (fun _=>rfl)
   rw[gn]
   exact e3
  ·
   rename_i hne1 hne2
   simp only[Option.bind_eq_some_iff] at h
   obtain⟨rr,hr,h⟩:=h
   obtain⟨gr,ga,gp,gn⟩:=evald rr.us rr.ps
   split at h
   ·
    cases h
    refine main _ rr.c rr.m gr (by rw[Mt]) (fun h=>absurd rfl h) (fun ρ a w hi1 himp hA2 hob2 hp hk2 K Q hK=>?_)
    refine PN (fun c hc=>by rw[hc] at hr;cases hr) (av hr (ga hA2) (gp hob2 hp) hi1.rel.mem (GK hi1.rel himp)) (fun hf=>let⟨v,h1,_⟩:=LB hr hf (ga hA2) (gp hob2 hp) hi1.rel.mem (GK hi1.rel himp);⟨_,h1⟩) (fun v w' ρ' k1 k2 k3 k4=>?_)
    rw[←gn] at k2 k3
    exact hK v ρ' w' k1 k2 k3 k4
   ·split at h
    ·rename_i hfree
     cases h
     refine main _ rr.c s1.mem gr rfl (weak gr fun id=> .inl rfl) (fun ρ a w hi1 himp hA2 hob2 hp hk2 K Q hK=>?_)
     have hev:=GK hi1.rel himp
     have hmm:=Po hfree hr (ga hA2) (gp hob2 hp) hi1.rel.mem hev
     refine PN (fun c hc=>by rw[hc] at hr;cases hr) (av hr (ga hA2) (gp hob2 hp) hi1.rel.mem hev) (fun hf=>let⟨v,h1,_⟩:=LB hr hf (ga hA2) (gp hob2 hp) hi1.rel.mem hev;⟨_,h1⟩) (fun v w' ρ' k1 k2 k3 k4=>?_)
     rw[←gn] at k2 k3
     rw[hmm] at k1 k2 k3
     exact hK v ρ' w' k1 k2 k3 k4
    ·cases h
theorem JC (hcall:Ca P T call)(hys:CN P T.lp ys){ops:Array Oper}{pc:PC}{s s':RS}{o:Oper}(h:Ck P call ys ops pc s o=some s'):
  AP s.g s'.g∧(Agr T s'.g→An T s'.g→pcv T pc→BJ T s.g pc→∀ ρ a w K Q,Bq T ρ ops s a w→
   (∀ ρ' v w',Bq T ρ' ops s' (a.put o.dst v) w'→AJ T s.g.n ρ s.mem w ρ' s'.mem w'→K (a.put o.dst v) w')→Co P r kk ops o a w K Q):=by
 obtain⟨h1,h2⟩:=Hp (r:=r) (kk:=kk) hcall hys h
 exact⟨h1,fun hA hob hpc hk ρ a w K Q hi hK=>h2 hA hob hpc hk ρ a w K Q hi fun ρ' v w' k1 k2 _=>hK ρ' v w' k1 k2⟩
theorem KT (hcall:Ca P T call)(hys:CN P T.lp ys){ops:Array Oper}{pc:PC}:∀{l:List Oper} {s s':RS},C9 P call ys ops pc l s=some s'→
  AP s.g s'.g∧(Agr T s'.g→An T s'.g→pcv T pc→BJ T s.g pc→∀(k:Nat) ρ a w Q,(∀j,l[j]? =ops[k+j]?)→Bq T ρ ops s a w→
   (∀ ρ' a' w',Bq T ρ' ops s' a' w'→AJ T s.g.n ρ s.mem w ρ' s'.mem w'→Q .normal a' w')→wpOpsIn (fen r) kk P ops Q (List.range' k l.length) a w)
 |[],s,s',h=>by
  simp only[C9] at h
  cases h
  exact⟨AP.refl _,fun _ _ _ _ k ρ a w Q _ hi hK=>hK ρ a w hi (AJ.refl _ _ _ _ _)⟩
 |o::l,s,s',h=>by
  simp only[C9,Option.bind_eq_bind,Option.bind_eq_some_iff] at h
  obtain⟨s1,h1,h2⟩:=h
  obtain⟨g1,k1⟩:=JC (r:=r) (kk:=kk) hcall hys h1
  obtain⟨g2,k2⟩:=KT hcall hys h2
  refine⟨g1.trans g2,fun hA hob hpc hk k ρ a w Q hl hi hK=>?_⟩
  have ho:ops[k]? =some o:=by simpa using (hl 0).symm
  have:=k1 (hA.of g2) (hob.of g2) hpc hk ρ a w (wpOpsIn (fen r) kk P ops Q (List.range' (k+1) l.length)) Q hi (fun ρ' v' w' hi' hs=>by
   refine k2 hA hob hpc (hk.grow g1) (k+1) ρ' _ w' Q (fun j=>by have:=hl (j+1);simpa [Nat.add_assoc,Nat.add_comm 1 j] using this) hi' (fun ρ2 a2 w2 hi2 hs2=>?_)
   exact hK ρ2 a2 w2 hi2 (hs.trans hi.rel.mem g1.n hs2))
  simp only[List.length_cons,List.range'_succ,wpOpsIn,ho]
  unfold Co at this
  split
  ·rename_i hw
   rw[if_pos hw] at this
   exact this
  ·rename_i hw
   rw[if_neg hw] at this
   exact⟨fun _ _=>trivial,this⟩
end
end Go.Eng
end
noncomputable section
namespace Go.Eng
open Go Go.RowKit
def K5 (ops:Array Oper)(listed:Array Bool):Prop:=
 ∀j o,ops[j]? =some o→listed.getD j false=true→∀e∈o.after,Region.binds .any e=true→listed.getD e.on false=true
theorem JB {listed:Array Bool}{acc:List Nat}(hacc:∀(j r:Nat),acc[j]? =some r→listed.getD j false=true→∀i,r.testBit i=true→listed.getD i false=true):
  ∀(es:List Edge),(∀e∈es,Region.binds .any e=true→listed.getD e.on false=true)→∀i,(D4 acc es).testBit i=true→listed.getD i false=true
 |[],_,i,h=>by simp[D4] at h
 |e::es,hes,i,h=>by
  simp only[D4] at h
  split at h
  ·rename_i hb
   have he:=hes e (List.mem_cons_self ..) hb
   simp only[show∀x y,Nat.lor x y=x ||| y from fun _ _=>rfl,Nat.testBit_or,Bool.or_eq_true] at h
   rcases h with (h|h)|h
   ·rw[Nat.testBit_two_pow] at h
    have:e.on=i:=by simpa using h
    rw[←this];exact he
   ·cases hr:acc[e.on]? with
    |none=>rw[hr] at h;simp at h
    |some r=>rw[hr] at h;exact hacc e.on r hr he i h
   ·exact JB hacc es (fun e he=>hes e (List.mem_cons_of_mem _ he)) i h
  ·exact JB hacc es (fun e he=>hes e (List.mem_cons_of_mem _ he)) i h
theorem Ls {listed:Array Bool}:∀(l:List Oper) (pre:List Oper) (acc:List Nat),acc.length=pre.length→
  (∀j o,(pre++l)[j]? =some o→listed.getD j false=true→∀e∈o.after,Region.binds .any e=true→listed.getD e.on false=true)→
  (∀(j r:Nat) (o:Oper),acc[j]? =some r→(pre++l)[j]? =some o→(∀e∈o.after,Region.binds .any e=true→listed.getD e.on false=true)→∀i,r.testBit i=true→listed.getD i false=true)→
  (AU l acc).length=(pre++l).length∧∀(j r:Nat) (o:Oper),(AU l acc)[j]? =some r→(pre++l)[j]? =some o→(∀e∈o.after,Region.binds .any e=true→listed.getD e.on false=true)→∀i,r.testBit i=true→listed.getD i false=true
 |[],pre,acc,hlen,_,h=>⟨by simp[AU,hlen],h⟩
 |o::l,pre,acc,hlen,hc,h=>by
  simp only[AU]
  have e:pre++o::l=(pre++[o])++l:=by simp
  rw[e]
  refine Ls l (pre++[o]) _ (by simp[hlen]) (by rw[←e];exact hc) ?_
  intro j r o' hr ho'
  rw[List.getElem?_append] at hr
  split at hr
  ·rename_i hj
   exact h j r o' hr (by rw[e];exact ho')
  ·rename_i hj
   have hj2:j=acc.length:=by
    rcases Nat.lt_or_ge (j - acc.length) 1 with h1|h1
    ·omega
    ·rw[List.getElem?_eq_none (by simpa using h1)] at hr;cases hr
   subst hj2
   simp at hr
   subst hr
   have hoo:o'=o:=by
    rw[hlen] at ho'
    simp at ho'
    exact ho'.symm
   subst hoo
   intro hes
   refine JB (fun j r hr hj=>?_) _ (fun e he=>hes e (by simpa using he))
   obtain⟨o2,ho2⟩:∃o2,(pre++o'::l)[j]? =some o2:=by
    have:j < acc.length:=(List.getElem?_eq_some_iff.1 hr).1
    exact⟨_,List.getElem?_eq_getElem (by simp;omega)⟩
   exact h j r o2 hr ho2 (hc j o2 ho2 hj)
theorem CC {ops:Array Oper}{listed:Array Bool}(hc:K5 ops listed){j r:Nat}{o:Oper}(hr:(AU ops.toList [])[j]? =some r)(ho:ops[j]? =some o)
  (he:∀e∈o.after,Region.binds .any e=true→listed.getD e.on false=true):∀i,r.testBit i=true→listed.getD i false=true:=
 (Ls (listed:=listed) ops.toList [] [] rfl (fun j o ho=>hc j o (by simpa using ho)) (fun j r o hr=>by simp at hr)).2 j r o hr (by simpa using ho) he
theorem CH (ops:Array Oper):(AU ops.toList []).length=ops.size:=by
 have:=(Ls (listed:= #[]) ops.toList [] [] rfl (fun j o _ h=>by simp at h) (fun j r o hr=>by simp at hr)).1
 simpa using this
theorem EF:∀(Rs:List Nat) (k:Nat),FH Rs k=true→∀(j r:Nat),Rs[j]? =some r→∀i,r.testBit i=true→i < k+j
 |[],_,_,j,r,hr=>by simp at hr
 |r0::Rs,k,h,j,r,hr=>by
  simp only[FH,Bool.and_eq_true] at h
  intro i hi
  cases j with
  |zero=>
   simp at hr;subst hr
   have h1:r0 < 2 ^ k:=by have:=h.1;rw[Nat.blt_eq] at this;exact this
   rcases Nat.lt_or_ge i k with hlt|hge
   ·omega
   ·have:=Nat.testBit_lt_two_pow (x:=r0) (i:=i) (Nat.lt_of_lt_of_le h1 (Nat.pow_le_pow_right (by decide) hge))
    rw[this] at hi;cases hi
  |succ j=>
   have:=EF Rs (k+1) h.2 j r (by simpa using hr) i hi
   omega
theorem JO:∀(Rs:List Nat) (k h:Nat),h≤k→D1 Rs k h≤k+Rs.length∧h≤D1 Rs k h∧∀(j r:Nat),Rs[j]? =some r→D1 Rs k h≤k+j→∀i,i < k+j→r.testBit i=true
 |[],k,h,hk=>⟨by simpa [D1] using hk,Nat.le_refl _,fun j r hr=>by simp at hr⟩
 |r0::Rs,k,h,hk=>by
  simp only[D1]
  by_cases hb:Nat.beq (r0+1) (2 ^ k)=true
  ·rw[if_pos hb]
   obtain⟨h1,h2,h3⟩:=JO Rs (k+1) h (by omega)
   refine⟨by simp;omega,h2,fun j r hr hj i hi=>?_⟩
   cases j with
   |zero=>
    simp at hr;subst hr
    have hr0:r0=2 ^ k - 1:=by have:=Nat.eq_of_beq_eq_true hb;omega
    rw[hr0,Nat.testBit_two_pow_sub_one]
    simpa using hi
   |succ j=>exact h3 j r (by simpa using hr) (by omega) i (by omega)
  ·rw[if_neg hb]
   obtain⟨h1,h2,h3⟩:=JO Rs (k+1) (k+1) (by omega)
   refine⟨by simp;omega,by omega,fun j r hr hj i hi=>?_⟩
   cases j with
   |zero=>omega
   |succ j=>exact h3 j r (by simpa using hr) (by omega) i (by omega)
theorem M5:∀{l:List Tmp},Ed l=true→l.Nodup
 |[],_=>List.nodup_nil
 |t::l,h=>by
  simp only[Ed,Bool.and_eq_true] at h
  refine List.nodup_cons.2 ⟨fun hm=>?_,M5 h.2⟩
  have:=h.1
  simp[hm] at this
theorem Ch {ops:Array Oper}(h:Ed (ops.toList.filterMap (·.dst))=true){i j:Nat}{oi oj:Oper}{d:Tmp}(hi:ops[i]? =some oi)(hj:ops[j]? =some oj)(hdi:oi.dst=some d)(hdj:oj.dst=some d):i=j:=by
 have key:∀(l:List Oper) (i j:Nat) (oi oj:Oper),(l.filterMap (·.dst)).Nodup→l[i]? =some oi→l[j]? =some oj→oi.dst=some d→oj.dst=some d→i=j:=by
  intro l
  induction l with
  |nil=>intro i j oi oj _ hi;simp at hi
  |cons o l ih=>
   intro i j oi oj hn hi hj hdi hdj
   cases i with
   |zero=>
    cases j with
    |zero=>rfl
    |succ j=>
     simp at hi hj
     subst hi
     rw[List.filterMap_cons_some hdi] at hn
     exact absurd (List.mem_filterMap.2 ⟨oj,List.mem_iff_getElem?.2 ⟨j,hj⟩,hdj⟩) (List.nodup_cons.1 hn).1
   |succ i=>
    cases j with
    |zero=>
     simp at hi hj
     subst hj
     rw[List.filterMap_cons_some hdj] at hn
     exact absurd (List.mem_filterMap.2 ⟨oi,List.mem_iff_getElem?.2 ⟨i,hi⟩,hdi⟩) (List.nodup_cons.1 hn).1
    |succ j=>
     simp at hi hj
     have hn2:(l.filterMap (·.dst)).Nodup:=by
      cases hd:o.dst with
      |none=>rw[List.filterMap_cons_none hd] at hn;exact hn
      |some t=>rw[List.filterMap_cons_some hd] at hn;exact (List.nodup_cons.1 hn).2
     rw[ih i j oi oj hn2 hi hj hdi hdj]
 exact key ops.toList i j oi oj (M5 h) (by simpa using hi) (by simpa using hj) hdi hdj
theorem OP:∀(l:List Oper) (k:Nat) (t:Tmp) (i:Nat) (o:Oper),(∀(i j:Nat) (oi oj:Oper),l[i]? =some oi→l[j]? =some oj→oi.dst=some t→oj.dst=some t→i=j)→l[i]? =some o→o.dst=some t→BD (Au k l) t=some (k+i)
 |[],_,_,i,o,_,ho,_=>by simp at ho
 |o0::l,k,t,i,o,hinj,ho,hd=>by
  by_cases h0:o0.dst=some t
  ·have:i=0:=hinj i 0 o o0 ho (by simp) hd h0
   subst this
   simp[Au,h0,BD]
  ·cases i with
   |zero=>simp at ho;subst ho;exact absurd hd h0
   |succ i=>
    have ih:=OP l (k+1) t i o (fun i j oi oj h1 h2 h3 h4=>by have:=hinj (i+1) (j+1) oi oj (by simpa using h1) (by simpa using h2) h3 h4;omega) (by simpa using ho) hd
    rw[show k+(i+1)=k+1+i by omega,←ih]
    cases hx:o0.dst with
    |none=>simp[Au,hx]
    |some t'=>
     have hne:Nat.beq t' t=false:=by
      cases hb:Nat.beq t' t with
      |false=>rfl
      |true=>exact absurd (by rw[hx,Nat.eq_of_beq_eq_true hb]) h0
     simp[Au,hx,BD,hne]
theorem Ge (D:List (Tmp × Nat))(ok:Nat→Bool)(s:AQ):∀(l:List Tmp) (t:Tmp) (c:AC),BR (Bw D ok s l) t=some c→s.get t=some c∧∀i,BD D t=some i→ok i=true
 |[],t,c,h=>by simp[Bw,BR] at h
 |t0::r,t,c,h=>by
  simp only[Bw] at h
  cases hc0:s.get t0 with
  |none=>rw[hc0] at h;exact Ge D ok s r t c h
  |some c0=>
   rw[hc0] at h
   have key:(BR ((t0,c0)::Bw D ok s r) t=some c∧∀i,BD D t0=some i→ok i=true)∨BR (Bw D ok s r) t=some c:=by
    simp only at h
    cases hm:BD D t0 with
    |none=>rw[hm] at h;exact .inl ⟨by simpa using h,fun i hi=>by cases hi⟩
    |some i=>
     rw[hm] at h
     simp only at h
     split at h
     ·rename_i hb;exact .inl ⟨h,fun i hi=>by cases hi;exact hb⟩
     ·exact .inr h
   rcases key with⟨h1,h2⟩|h1
   ·rw[G7] at h1
    split at h1
    ·rename_i e
     subst e
     cases h1
     exact⟨hc0,h2⟩
    ·exact Ge D ok s r t c h1
   ·exact Ge D ok s r t c h1
theorem Pt {S:DS}{ops:Array Oper}(hn:Ed (ops.toList.filterMap (·.dst))=true){ok:Nat→Bool}{R:Nat}{CM:List Tmp}{t:Tmp}{c:AC}(h:(S.masked (Au 0 ops.toList) ok R CM).tmps.get t=some c):
  S.tmps.get t=some c∧∀(i:Nat) (o:Oper),ops[i]? =some o→o.dst=some t→ok i=true:=by
 have h':BR (Bw (Au 0 ops.toList) ok S.tmps CM) t=some c:=by
  simp only[DS.masked,AQ.get] at h
  cases hx:BR (Bw (Au 0 ops.toList) ok S.tmps CM) t with
  |none=>rw[hx] at h;simp[Tr.get] at h
  |some d=>rw[hx] at h;exact h
 obtain⟨h1,h2⟩:=Ge _ _ _ _ _ _ h'
 refine⟨h1,fun i o ho hd=>h2 i ?_⟩
 have:=OP ops.toList 0 t i o (fun i j oi oj a b c d=>Ch hn (by simpa using a) (by simpa using b) c d) (by simpa using ho) hd
 simpa using this
section
variable {P:Program}{T:Tab}{n n':Nat}{ρ ρ':Nat→Option Nat}{m m':Mem}{w w':World}
structure Lp (ρ :Nat→Option Nat) (m:Mem) (ρ':Nat→Option Nat) (m':Mem):Prop where
 at':∀id,m.at id≠ .pad→m'.at id=m.at id
 rho:∀id,m.at id≠ .pad→ ρ' id= ρ id
theorem Lp.safe (h:Lp ρ m ρ' m'){b off:Nat}(hs:Ai T ρ' m' w b off):Ai T ρ m w b off:=by
 refine⟨hs.1,hs.2.1,fun id=>?_⟩
 by_cases hp:m.at id= .pad
 ·rw[hp];trivial
 ·have:=hs.2.2 id
  rw[h.at' id hp,h.rho id hp] at this
  exact this
mutual
theorem AB.back (h:Lp ρ m ρ' m'):∀(c:AC) (v0 v:Value) (w0:World),AB T n ρ m w0 c v0→AB T n' ρ' m' w c v→AB T n ρ m w c v
 | .any,_,_,_,_,_=>trivial
 | .anyc,_,_,_,_,hh=>hh
 | .on _ a,v0,v,w0,h0,hh=>⟨h0.1,fun hc=>AB.back h a v0 v w0 (h0.2 hc) (hh.2 hc)⟩
 | .gd _ a,v0,v,w0,h0,hh=>⟨h0.1,fun hc=>AB.back h a v0 v w0 (h0.2.1 hc) (hh.2.1 hc),hh.2.2⟩
 | .cb _,_,_,_,_,hh=>hh
 | .b _,_,_,_,h0,hh=>⟨h0.1,hh.2⟩
 | .nb _,_,_,_,h0,hh=>⟨h0.1,hh.2⟩
 | .ci _ _,_,_,_,_,hh=>hh
 | .i _ _ _ _,_,_,_,h0,hh=>⟨h0.1,hh.2⟩
 | .cv _,_,_,_,_,hh=>hh
 | .v _,_,_,_,h0,hh=>⟨h0.1,hh.2⟩
 | .s _,_,_,_,h0,hh=>⟨h0.1,hh.2⟩
 | .ptr id off,v0,v,w0,⟨b0,_,_,h3⟩,⟨b,k1,k2,_⟩=>⟨b,by rw[←h.rho id (BV h3)];exact k1,k2,h3⟩
 | .pix id base stride cnt x plus,v0,v,w0,⟨h0,b0,j0,_,_,_,_,_,h3⟩,⟨_,b,j,k1,k2,k3,k4,k5,_⟩=>⟨h0,b,j,by rw[←h.rho id (BV h3)];exact k1,k2,k3,k4,k5,h3⟩
 | .ro x ks,v0,v,w0,h0,⟨_,k1⟩=>⟨h0.1,AR.mono (fun _ _ hs=>⟨h.safe hs,rfl⟩) (.list ks) (T x) v k1⟩
 | .rp x t off ks,v0,v,w0,h0,⟨_,j,b,o,us,k2,k3,k4,k5,k6⟩=>⟨h0.1,j,b,o,us,k2,k3,k4,k5,AW.mono (fun _ _ hs=>⟨h.safe hs,rfl⟩) _ _ _ _ k6⟩
 | .vec id x ks,v0,v,w0,⟨h1,h2,_,_⟩,⟨_,_,k3,k4⟩=>⟨h1,h2,AR.mono (fun _ _ hs=>⟨h.safe hs,rfl⟩) (.list ks) (T x) v k3,fun ks' e he=>by
   have:=k4 ks' e (by rw[h.at' id h2];exact he)
   unfold Qr at this⊢
   rw[h.rho id h2] at this
   exact this⟩
 | .fn f first cap,v0,v,w0,⟨vs0,us0,_,a1,a2⟩,⟨vs,us,k1,k2,k3⟩=>⟨vs,us,k1,AD.back h first vs0 vs w0 a1 k2,AD.back h cap us0 us w0 a2 k3⟩
 | .sel x alts,v0,v,w0,⟨h0,j0,a1,_,a3⟩,⟨_,j,k1,k2,k3⟩=>⟨h0,j,k1,k2,by
   have e:j0=j:=by rw[a1] at k1;injection k1
   subst e
   exact Ah.back h alts j0.toNat v0 v w0 a3 k3⟩
 | .yl id,v0,v,w0,⟨b0,_,_,h3⟩,⟨b,k1,k2,_⟩=>⟨b,by rw[←h.rho id (BV h3)];exact k1,k2,h3⟩
 | .asl id off len,v0,v,w0,⟨b0,_,_,h3⟩,⟨b,k1,k2,_⟩=>⟨b,by rw[←h.rho id (BV h3)];exact k1,k2,h3⟩
 | .rsv id x ks,v0,v,w0,⟨h1,h2,h4,_,_⟩,⟨_,_,_,k3,k4⟩=>⟨h1,h2,h4,k3,fun ks' e he=>by
   have:=k4 ks' e (by rw[h.at' id h2];exact he)
   unfold Pe at this⊢
   rw[h.rho id h2] at this
   exact this⟩
 | .agg l,v0,v,w0,⟨vs0,_,a1⟩,⟨vs,k1,k2⟩=>⟨vs,k1,AD.back h l vs0 vs w0 a1 k2⟩
 | .tup l,v0,v,w0,⟨vs0,_,a1⟩,⟨vs,k1,k2⟩=>⟨vs,k1,AD.back h l vs0 vs w0 a1 k2⟩
theorem AD.back (h:Lp ρ m ρ' m'):∀(l:List AC) (vs0 vs:List Value) (w0:World),AD T n ρ m w0 l vs0→AD T n' ρ' m' w l vs→AD T n ρ m w l vs
 |[],_,_,_,_,hh=>hh
 |c::l,vs0,vs,w0,⟨u0,us0,_,a1,a2⟩,⟨u,us,k1,k2,k3⟩=>⟨u,us,k1,AB.back h c u0 u w0 a1 k2,AD.back h l us0 us w0 a2 k3⟩
theorem Ah.back (h:Lp ρ m ρ' m'):∀(l:List AC) (j:Nat) (v0 v:Value) (w0:World),Ah T n ρ m w0 l j v0→Ah T n' ρ' m' w l j v→Ah T n ρ m w l j v
 |[],_,_,_,_,h0,_=>h0.elim
 |c::_,0,v0,v,w0,h0,hh=>AB.back h c v0 v w0 h0 hh
 |_::l,j+1,v0,v,w0,h0,hh=>Ah.back h l j v0 v w0 h0 hh
end
mutual
theorem AB.backF (h:Lp ρ m ρ' m'):∀(c:AC) (v:Value),(AC.free c=true∨∀id,m'.at id≠ .pad→m.at id≠ .pad)→AB T n ρ' m' w c v→AB T n ρ m w c v
 | .any,_,_,_=>trivial
 | .anyc,_,_,hh=>hh
 | .on _ a,v,hf,hh=>⟨hh.1,fun hc=>AB.backF h a v (hf.imp (fun q=>by simpa [AC.free] using q) id) (hh.2 hc)⟩
 | .gd _ a,v,hf,hh=>⟨hh.1,fun hc=>AB.backF h a v (hf.imp (fun q=>by simpa [AC.free] using q) id) (hh.2.1 hc),hh.2.2⟩
 | .cb _,_,_,hh=>hh
 | .b _,_,_,hh=>hh
 | .nb _,_,_,hh=>hh
 | .ci _ _,_,_,hh=>hh
 | .i _ _ _ _,_,_,hh=>hh
 | .cv _,_,_,hh=>hh
 | .v _,_,_,hh=>hh
 | .s _,_,_,hh=>hh
 | .ptr id off,v,hf,⟨b,k1,k2,k3⟩=>by
  have hp:=hf.resolve_left (by simp[AC.free]) id (BV k3)
  exact⟨b,by rw[←h.rho id hp];exact k1,k2,by rw[←h.at' id hp];exact k3⟩
 | .pix id base stride cnt x plus,v,hf,⟨h0,b,j,k1,k2,k3,k4,k5,k6⟩=>by
  have hp:=hf.resolve_left (by simp[AC.free]) id (BV k6)
  exact⟨h0,b,j,by rw[←h.rho id hp];exact k1,k2,k3,k4,k5,by rw[←h.at' id hp];exact k6⟩
 | .ro x ks,v,_,⟨h0,k1⟩=>⟨h0,AR.mono (fun _ _ hs=>⟨h.safe hs,rfl⟩) (.list ks) (T x) v k1⟩
 | .rp x t off ks,v,_,⟨h0,j,b,o,us,k2,k3,k4,k5,k6⟩=>⟨h0,j,b,o,us,k2,k3,k4,k5,AW.mono (fun _ _ hs=>⟨h.safe hs,rfl⟩) _ _ _ _ k6⟩
 | .vec id x ks,v,hf,⟨k1,k2,k3,k4⟩=>by
  have hp:=hf.resolve_left (by simp[AC.free]) id k2
  refine⟨k1,hp,AR.mono (fun _ _ hs=>⟨h.safe hs,rfl⟩) (.list ks) (T x) v k3,fun ks' e he=>?_⟩
  have:=k4 ks' e (by rw[h.at' id hp];exact he)
  unfold Qr at this⊢
  rw[h.rho id hp] at this
  exact this
 | .fn f first cap,v,hf,⟨vs,us,k1,k2,k3⟩=>⟨vs,us,k1,AD.backF h first vs (hf.imp (fun hh=>by simp only[AC.free,Bool.and_eq_true] at hh;exact hh.1) (fun hh=>hh)) k2,
   AD.backF h cap us (hf.imp (fun hh=>by simp only[AC.free,Bool.and_eq_true] at hh;exact hh.2) (fun hh=>hh)) k3⟩
 | .sel x alts,v,hf,⟨h0,j,k1,k2,k3⟩=>⟨h0,j,k1,k2,Ah.backF h alts j.toNat v (hf.imp (fun hh=>by simpa [AC.free] using hh) (fun hh=>hh)) k3⟩
 | .yl id,v,hf,⟨b,k1,k2,k3⟩=>by
  have hp:=hf.resolve_left (by simp[AC.free]) id (BV k3)
  exact⟨b,by rw[←h.rho id hp];exact k1,k2,by rw[←h.at' id hp];exact k3⟩
 | .asl id off len,v,hf,⟨b,k1,k2,k3⟩=>by
  have hp:=hf.resolve_left (by simp[AC.free]) id (BV k3)
  exact⟨b,by rw[←h.rho id hp];exact k1,k2,by rw[←h.at' id hp];exact k3⟩
 | .rsv id x ks,v,hf,⟨k1,k2,k5,k3,k4⟩=>by
  have hp:=hf.resolve_left (by simp[AC.free]) id k2
  refine⟨k1,hp,k5,k3,fun ks' e he=>?_⟩
  have:=k4 ks' e (by rw[h.at' id hp];exact he)
  unfold Pe at this⊢
  rw[h.rho id hp] at this
  exact this
 | .agg l,v,hf,⟨vs,k1,k2⟩=>⟨vs,k1,AD.backF h l vs (hf.imp (fun hh=>by simpa [AC.free] using hh) (fun hh=>hh)) k2⟩
 | .tup l,v,hf,⟨vs,k1,k2⟩=>⟨vs,k1,AD.backF h l vs (hf.imp (fun hh=>by simpa [AC.free] using hh) (fun hh=>hh)) k2⟩
theorem AD.backF (h:Lp ρ m ρ' m'):∀(l:List AC) (vs:List Value),(AC.freeL l=true∨∀id,m'.at id≠ .pad→m.at id≠ .pad)→AD T n ρ' m' w l vs→AD T n ρ m w l vs
 |[],_,_,hh=>hh
 |c::l,vs,hf,⟨u,us,k1,k2,k3⟩=>⟨u,us,k1,AB.backF h c u (hf.imp (fun hh=>by simp only[AC.freeL,Bool.and_eq_true] at hh;exact hh.1) (fun hh=>hh)) k2,
   AD.backF h l us (hf.imp (fun hh=>by simp only[AC.freeL,Bool.and_eq_true] at hh;exact hh.2) (fun hh=>hh)) k3⟩
theorem Ah.backF (h:Lp ρ m ρ' m'):∀(l:List AC) (j:Nat) (v:Value),(AC.freeL l=true∨∀id,m'.at id≠ .pad→m.at id≠ .pad)→Ah T n ρ' m' w l j v→Ah T n ρ m w l j v
 |[],_,_,_,hh=>hh.elim
 |c::_,0,v,hf,hh=>AB.backF h c v (hf.imp (fun hh=>by simp only[AC.freeL,Bool.and_eq_true] at hh;exact hh.1) (fun hh=>hh)) hh
 |_::l,j+1,v,hf,hh=>Ah.backF h l j v (hf.imp (fun hh=>by simp only[AC.freeL,Bool.and_eq_true] at hh;exact hh.2) (fun hh=>hh)) hh
end
theorem AH.tok_lt (hm:AH T n ρ m w){id x:Nat}{ks:List Kd}{e:TypeId}(hx:m.at id= .tok x ks e):x < n:=by
 have:=hm.blk id
 rw[hx] at this
 exact this.1
theorem AJ.same (hs:AJ T n ρ m w ρ' m' w')(hm:AH T n ρ m w)(hk:∀id,m.at id≠ .pad→m'.at id=m.at id):Lp ρ m ρ' m' where
 at':=hk
 rho:=fun id hp=>by
  cases hx:m.at id with
  |pad=>exact absurd hx hp
  |gone=>exact (hs.rho id (by rw[hx];rfl)).1
  |cells l e=>exact (hs.rho id (by rw[hx];rfl)).1
  |lp x st=>exact (hs.rho id (by rw[hx];rfl)).1
  |tok x ks e=>
   rcases hs.tok id x ks e hx with⟨_,h2,_⟩|⟨_,h2|⟨x',ks',e',h2,h3,_⟩⟩
   ·exact h2
   ·rw[hk id hp,hx] at h2;cases h2
   ·rw[hk id hp,hx] at h2
    injection h2 with h4 h5
    have:=hm.tok_lt hx
    omega
theorem AJ.forget (hs:AJ T n ρ m w ρ' m' w')(hm:AH T n ρ m w)(hm':AH T n' ρ' m' w')(hk:∀id,m.at id≠ .pad→m'.at id=m.at id):AJ T n ρ m w ρ m w'∧AH T n ρ m w':=by
 have hsm:=hs.same hm hk
 refine⟨⟨hs.os,hs.tape,hs.output,hs.size,fun _ h=>h,fun _ h=>⟨rfl,h⟩,fun _ _ h=>h,fun id b hp ht _=>?_,hs.old,fun id x ks e hx=>?_⟩,⟨fun id=>?_,hm.inj,fun b off hb=>hm.fr b off (Nat.le_trans hs.size hb)⟩⟩
 ·rw[hp] at ht;cases ht
 ·refine .inl ⟨hx,rfl,fun b hb=>?_⟩
  have hp:m.at id≠ .pad:=by rw[hx];exact fun h=>by cases h
  rcases hs.tok id x ks e hx with⟨_,_,h3⟩|⟨_,h2|⟨x',ks',e',h2,h3,_⟩⟩
  ·exact h3 b hb
  ·rw[hk id hp,hx] at h2;cases h2
  ·rw[hk id hp,hx] at h2
   injection h2 with h4 h5
   have:=hm.tok_lt hx
   omega
 ·have h0:=hm.blk id
  by_cases hp:m.at id= .pad
  ·rw[hp];trivial
  ·have h1:=hm'.blk id
   rw[hk id hp] at h1
   cases hx:m.at id with
   |pad=>trivial
   |gone=>trivial
   |cells l e=>
    rw[hx] at h0 h1
    obtain⟨b0,vs0,_,_,a3⟩:=h0
    obtain⟨b,vs,k1,k2,k3⟩:=h1
    exact⟨b,vs,by rw[←hsm.rho id hp];exact k1,k2,AD.back hsm l vs0 vs w a3 k3⟩
   |tok x ks e=>
    rw[hx] at h0 h1
    obtain⟨a0,_⟩:=h0
    obtain⟨_,l,k1,k2⟩:=h1
    rw[hsm.rho id hp] at k2
    exact⟨a0,l,k1,k2⟩
   |lp x st=>
    rw[hx] at h0 h1
    obtain⟨b0,q0,_,_,_,_,_,_,a7,j0,a8,_⟩:=h0
    obtain⟨b,q,k1,k2,k3,k4,k5,k6,k7,j,k8,k9⟩:=h1
    exact⟨b,q,by rw[←hsm.rho id hp];exact k1,k2,k3,k4,k5,k6,fun i c hc=>AB.back hsm c _ _ w (a7 i c hc) (k7 i c hc),j,AB.back hsm st _ _ w a8 k8,k9⟩
end
end Go.Eng
end
noncomputable section
namespace Go.Eng
open Go Go.RowKit
section
variable {P:Program}{T:Tab}{call:A8}{ys:Ys}{r:Option Nat}{kk:Nat}{ops:Array Oper}{pc:PC}
theorem G8 (tmps:AQ)(dst:Option Tmp)(c:AC):(DG tmps dst c).n=tmps.n:=by cases dst<;>simp[DG,AQ.set_n]
theorem AQ.get_set_ne (s:AQ){d t:Nat}(c:AC)(h:d≠t):(s.set d c).get t=s.get t:=by
 unfold AQ.set
 cases hd:Nat.blt d s.n with
 |false=>rfl
 |true=>simp only[cond_true,AQ.get,G7,if_neg h]
theorem OX (tmps:AQ){dst:Option Tmp}{t:Nat}(c:AC)(h:dst≠some t):(DG tmps dst c).get t=tmps.get t:=by
 cases dst with
 |none=>rfl
 |some d=>exact AQ.get_set_ne _ _ (fun e=>h (by rw[e]))
theorem MV {s s':RS}{o:Oper}(h:Ck P call ys ops pc s o=some s')(hf:BK o.op=true){ρ :Nat→Option Nat}{a:Act}{w:World}(hA:Agr T s'.g)(hob:An T s'.g)(hpc:pcv T pc)(hk:BJ T s.g pc)(hi:Bq T ρ ops s a w):s'.mem=s.mem:=by
 unfold Ck at h
 simp only[Option.bind_eq_bind,Option.bind_eq_some_iff] at h
 obtain⟨⟨run,s1⟩,hg,h⟩:=h
 obtain⟨gg1,gg2,gg3⟩:=Gh hg
 simp only at h
 split at h
 ·cases h
 split at h
 ·cases h;exact gg3
 ·rename_i pc' imp
  split at h
  ·rename_i f args ts ho
   rw[ho] at hf;cases hf
  ·simp only[Option.bind_eq_some_iff] at h
   obtain⟨rr,hr,h⟩:=h
   cases h;exact gg3
  ·simp only[Option.bind_eq_some_iff] at h
   obtain⟨rr,hr,h⟩:=h
   split at h
   ·cases h
    have hA1:Agr T ((s1.g.pushAll rr.us).needAll pc' rr.ps):=hA
    obtain⟨e1,e2,_,hi1,_,e4⟩:=Lo hg (hA1.of ((AP.push _ _).trans (AP.need _ _ _))) hpc hk hi
    obtain⟨f1,f2,f3,f4,f5⟩:=e4 pc' [] rfl
    have:=Po hf hr hA1.need.new (An.need hob (f4 rfl)) hi1.rel.mem (GK hi1.rel (fun c hc=>by cases hc))
    exact this.trans gg3
   ·first
    |(simp only[hf,if_true] at h;cases h;exact gg3)
    |(split at h<;>cases h<;>exact gg3)
theorem IK {R j:Nat}{o:Oper}{S S':DS}{D:List (Tmp × Nat)}(h:JN P call ys ops D pc R j o S=some S'):
  ∃s' c,Ck P call ys ops pc (S.masked D R.testBit R (Bl ops o)) o=some s'∧S'=⟨DG S.tmps o.dst c,S.mem,s'.g,(Fo s' (FT R S.gls).length).map (fun e=>(j,e))++S.gls⟩∧
   (∀d,o.dst=some d→c=(s'.tmps.get d).getD .any)∧(BK o.op=true∨(∀id,S.mem.at id≠ .pad→s'.mem.at id=S.mem.at id)∧(AC.free c=true∨∀id,s'.mem.at id≠ .pad→S.mem.at id≠ .pad))∧
   ∀e∈Fo s' (FT R S.gls).length,e∈s'.gl∧R.testBit e.j=true:=by
 unfold JN at h
 simp only[Option.bind_eq_bind,Option.bind_eq_some_iff] at h
 obtain⟨s',hs,h⟩:=h
 split at h
 ·rename_i hc
  rw[Bool.and_eq_true,Bool.or_eq_true,Bool.and_eq_true,Bool.or_eq_true] at hc
  obtain⟨h1,h2⟩:=hc
  cases h
  refine⟨s',_,hs,rfl,fun d hd=>by rw[hd];rfl,?_,fun e he=>⟨List.mem_of_mem_take he,List.all_eq_true.1 h1 e he⟩⟩
  rcases h2 with h2|⟨h2,h3⟩
  ·exact .inl h2
  ·obtain⟨k1,k2⟩:=IV h2
   have hlt:∀id,S.mem.at id≠ .pad→id < S.mem.length:=fun id hp=>by
    rcases Nat.lt_or_ge id S.mem.length with h|h
    ·exact h
    ·exact absurd (Mem.at_ge h) hp
   refine .inr ⟨fun id hp=>k2 id (hlt id hp),?_⟩
   rcases h3 with h3|h3
   ·refine .inr fun id hp=>?_
    have hl:=Nat.eq_of_beq_eq_true h3
    rcases Nat.lt_or_ge id s'.mem.length with h|h
    ·rw[←k2 id (by omega)];exact hp
    ·exact absurd (Mem.at_ge h) hp
   ·exact .inl h3
 ·cases h
structure EL (P:Program) (T:Tab) (call:A8) (ys:Ys) (ops:Array Oper) (pc:PC) (h:Nat) (S:Nat→DS):Prop where
 le:h≤ops.size
 step:∀j o,j < h→ops[j]? =some o→∃R,(AU ops.toList [])[j]? =some R∧JN P call ys ops (Au 0 ops.toList) pc R j o (S j)=some (S (j+1))
 masks:FH (AU ops.toList []) 0=true
 nodup:Ed (ops.toList.filterMap (·.dst))=true
 tail:∀j r,(AU ops.toList [])[j]? =some r→h≤j→∀i,i < j→r.testBit i=true
 call:Ca P T call
 ys:CN P T.lp ys
 gl0:(S 0).gls=[]
theorem EL.op {h:Nat}{S:Nat→DS}(H:EL P T call ys ops pc h S){j:Nat}(hj:j < h):∃o,ops[j]? =some o:=
 ⟨_,Array.getElem?_eq_getElem (Nat.lt_of_lt_of_le hj H.le)⟩
structure jo (S S':DS):Prop where
 grow:AP S.g S'.g
 mem:S'.mem=S.mem
 len:S'.tmps.n=S.tmps.n
 gls:∀p∈S.gls,p∈S'.gls
theorem EL.later {h:Nat}{S:Nat→DS}(H:EL P T call ys ops pc h S)(i:Nat):∀k,i+k≤h→jo (S i) (S (i+k))∧
  ∀t,(∀j o,i≤j→j < i+k→ops[j]? =some o→o.dst≠some t)→(S (i+k)).tmps.get t=(S i).tmps.get t
 |0,_=>⟨⟨AP.refl _,rfl,rfl,fun _ h=>h⟩,fun _ _=>rfl⟩
 |k+1,hk=>by
  obtain⟨h1,h2⟩:=H.later i k (by omega)
  obtain⟨o,ho⟩:=H.op (j:=i+k) (by omega)
  obtain⟨R,hR,hs⟩:=H.step (i+k) o (by omega) ho
  obtain⟨s',c,a1,a2,a3,a45,a6⟩:=IK hs
  obtain⟨b1,_⟩:=JC (r:=none) (kk:=0) H.call H.ys a1
  have e:S (i+(k+1))=S (i+k+1):=rfl
  refine⟨⟨?_,?_,?_,?_⟩,fun t ht=>?_⟩
  ·rw[e,a2];exact h1.grow.trans b1
  ·rw[e,a2];exact h1.mem
  ·rw[e,a2]
   simp only
   rw[←h1.len,G8]
  ·intro p hp
   rw[e,a2]
   exact List.mem_append_right _ (h1.gls p hp)
  ·rw[e,a2]
   simp only
   rw[←h2 t (fun j o h1 h2=>ht j o h1 (by omega))]
   exact OX _ _ (ht (i+k) o (by omega) (by omega) ho)
theorem EL.gls {h:Nat}{S:Nat→DS}(H:EL P T call ys ops pc h S):∀k,k≤h→∀p∈(S k).gls,p.1 < k∧p∈(S (p.1+1)).gls
 |0,_,p,hp=>by rw[H.gl0] at hp;cases hp
 |k+1,hk,p,hp=>by
  obtain⟨o,ho⟩:=H.op (j:=k) (by omega)
  obtain⟨R,hR,hs⟩:=H.step k o (by omega) ho
  obtain⟨s',c,a1,a2,a3,a45,a6⟩:=IK hs
  have hp0:=hp
  rw[a2] at hp
  rcases List.mem_append.1 hp with h1|h1
  ·obtain⟨e,he,rfl⟩:=List.mem_map.1 h1
   exact⟨Nat.lt_succ_self _,hp0⟩
  ·obtain⟨q1,q2⟩:=H.gls k (by omega) p h1
   exact⟨by omega,q2⟩
structure JU (T:Tab) (ops:Array Oper) (h:Nat) (S:Nat→DS) (listed:Array Bool) (ρ :Nat→Option Nat) (a:Act) (w:World):Prop where
 size:listed.size=ops.size
 closed:K5 ops listed
 only:∀i,listed.getD i false=true→i < h
 defers:DU T.base ρ (S 0).mem w a.defers
 asize:a.tmps.size=(S 0).tmps.n
 mem:AH T (S 0).g.n ρ (S 0).mem w
 init:∀t c,(S 0).tmps.get t=some c→(∀i o,ops[i]? =some o→o.dst=some t→listed.getD i false=false)→AB T (S 0).g.n ρ (S 0).mem w c (a.tmps.getD t undef)
 facts:∀i o d c,listed.getD i false=true→ops[i]? =some o→o.dst=some d→(S (i+1)).tmps.get d=some c→AB T (S (i+1)).g.n ρ (S 0).mem w c (a.tmps.getD d undef)
 gfacts:∀p∈(S h).gls,listed.getD p.1 false=true→Eh T ops (S (p.1+1)).g.n a p.2∧listed.getD p.2.j false=true
variable {h:Nat}{S:Nat→DS}{listed:Array Bool}{ρ :Nat→Option Nat}{a:Act}{w:World}
theorem JU.val (H:EL P T call ys ops pc h S)(I:JU T ops h S listed ρ a w){k:Nat}(hk:k≤h){t:Nat}{c:AC}(hc:(S k).tmps.get t=some c)
  (hl:∀i o,ops[i]? =some o→o.dst=some t→listed.getD i false=true∧i < k∨listed.getD i false=false∧k≤i):AB T (S k).g.n ρ (S 0).mem w c (a.tmps.getD t undef):=by
 by_cases hex:∃i o,ops[i]? =some o∧o.dst=some t∧i < k
 ·obtain⟨i,o,ho,hd,hik⟩:=hex
  rcases hl i o ho hd with⟨h1,_⟩|⟨_,h2⟩
  ·obtain⟨l1,l2⟩:=H.later (i+1) (k - (i+1)) (by omega)
   rw[show i+1+(k - (i+1))=k by omega] at l1 l2
   have:=l2 t (fun j o' hj1 hj2 ho' hd'=>by
    have:=Ch H.nodup ho ho' hd hd'
    omega)
   rw[this] at hc
   exact (I.facts i o t c h1 ho hd hc).up0 l1.grow.n
  ·omega
 ·obtain⟨l1,l2⟩:=H.later 0 k (by omega)
  rw[Nat.zero_add] at l1 l2
  have:=l2 t (fun j o' hj1 hj2 ho' hd'=>hex ⟨j,o',ho',hd',by omega⟩)
  rw[this] at hc
  refine (I.init t c hc fun i o ho hd=>?_).up0 l1.grow.n
  rcases hl i o ho hd with⟨_,h2⟩|⟨h1,_⟩
  ·exact absurd ⟨i,o,ho,hd,h2⟩ hex
  ·exact h1
theorem JU.masked {CM:List Tmp}(H:EL P T call ys ops pc h S)(I:JU T ops h S listed ρ a w){j R:Nat}(hj:j < h)(hR:(AU ops.toList [])[j]? =some R)(hlR:∀i,R.testBit i=true→listed.getD i false=true):
  Bq T ρ ops ((S j).masked (Au 0 ops.toList) R.testBit R CM) a w:=by
 obtain⟨l1,_⟩:=H.later 0 j (by omega)
 rw[Nat.zero_add] at l1
 have hlt:=EF _ 0 H.masks j R hR
 refine⟨⟨(by simp only[DS.masked];rw[l1.mem];exact I.defers),?_,fun t c hc=>?_,?_⟩,fun e he=>?_⟩
 ·simp only[DS.masked]
  rw[I.asize,l1.len]
 ·obtain⟨h1,h2⟩:=Pt (R:=R) H.nodup hc
  simp only[DS.masked]
  rw[l1.mem]
  refine I.val H (by omega) h1 fun i o ho hd=> .inl ?_
  have hb:=h2 i o ho hd
  exact⟨hlR i hb,by have:=hlt i hb;omega⟩
 ·simp only[DS.masked]
  rw[l1.mem]
  exact I.mem.mono l1.grow.n
 ·simp only[DS.masked,FT,List.mem_map,List.mem_filter] at he
  obtain⟨p,⟨hp,hb⟩,rfl⟩:=he
  have hlp:=hlR p.1 hb
  have hpj:p.1 < j:=by have:=hlt p.1 hb;omega
  obtain⟨l2,_⟩:=H.later j (h - j) (by omega)
  rw[show j+(h - j)=h by omega] at l2
  obtain⟨l3,_⟩:=H.later (p.1+1) (j - (p.1+1)) (by omega)
  rw[show p.1+1+(j - (p.1+1))=j by omega] at l3
  exact (I.gfacts p (l2.gls p hp) hlp).1.up l3.grow.n
theorem At (listed:Array Bool)(i j:Nat)(hi:i < listed.size):(listed.setIfInBounds i true).getD j false=if j=i then true else listed.getD j false:=by
 by_cases hij:j=i
 ·subst hij
  simp[Array.getD_eq_getD_getElem?,Array.getElem?_setIfInBounds,hi]
 ·rw[if_neg hij]
  simp only[Array.getD_eq_getD_getElem?,Array.getElem?_setIfInBounds]
  rw[if_neg (fun e=>hij e.symm)]
theorem C3 {dst:Option Tmp}{t:Nat}(h:dst≠some t)(v:Value):(a.put dst v).tmps.getD t undef=a.tmps.getD t undef:=by
 cases dst with
 |none=>rfl
 |some d=>
  simp only[Act.put,Array.getD_eq_getD_getElem?,Array.getElem?_setIfInBounds]
  rw[if_neg (fun e=>h (by rw[e]))]
theorem JU.comes (H:EL P T call ys ops pc h S)(hA:Agr T (S h).g)(hob:An T (S h).g)(hpc:pcv T pc)(hpk:BJ T (S 0).g pc)(I:JU T ops h S listed ρ a w){i:Nat}{o:Oper}(hi:i < h)(ho:ops[i]? =some o)
  (hun:listed.getD i false=false) (hready:∀e∈o.after,Region.binds .any e=true→listed.getD e.on false=true) {K:Act→World→Prop} {Q:Exit→Act→World→Prop}
  (hK:∀v w',JU T ops h S (listed.setIfInBounds i true) ρ (a.put o.dst v) w'→AJ T (S 0).g.n ρ (S 0).mem w ρ (S 0).mem w'→K (a.put o.dst v) w'):Co P r kk ops o a w K Q:=by
 obtain⟨R,hR,hs⟩:=H.step i o hi ho
 obtain⟨s',c,a1,a2,a3,a45,a6⟩:=IK hs
 obtain⟨b1,b2⟩:=JC (r:=r) (kk:=kk) H.call H.ys a1
 have hlR:=CC I.closed hR ho hready
 have hlt:=EF _ 0 H.masks i R hR
 obtain⟨l1,_⟩:=H.later 0 i (by omega)
 rw[Nat.zero_add] at l1
 obtain⟨l2,_⟩:=H.later (i+1) (h - (i+1)) (by omega)
 rw[show i+1+(h - (i+1))=h by omega] at l2
 have hg:(S (i+1)).g=s'.g:=by rw[a2]
 have hA1:Agr T s'.g:=by rw[←hg];exact hA.of l2.grow
 have hob1:An T s'.g:=by rw[←hg];exact hob.of l2.grow
 have hm0:(S i).mem=(S 0).mem:=l1.mem
 have hisz:i < listed.size:=by rw[I.size];exact (Array.getElem?_eq_some_iff.1 ho).1
 have hmask:=I.masked (CM:=Bl ops o) H hi hR hlR
 have hmem2:s'.mem=(S i).mem∨¬BK o.op=true:=by
  by_cases hf:BK o.op=true
  ·exact .inl (MV a1 hf hA1 hob1 hpc (hpk.grow l1.grow) hmask)
  ·exact .inr hf
 have a4:∀id,(S i).mem.at id≠ .pad→s'.mem.at id=(S i).mem.at id:=by
  rcases a45 with hf|h
  ·rcases hmem2 with h|h
   ·intro id _;rw[h]
   ·exact absurd hf h
  ·exact h.1
 have a5:AC.free c=true∨∀id,s'.mem.at id≠ .pad→(S i).mem.at id≠ .pad:=by
  rcases a45 with hf|h
  ·rcases hmem2 with h|h
   ·exact .inr fun id hp=>by rw[←h];exact hp
   ·exact absurd hf h
  ·exact h.2
 refine b2 hA1 hob1 hpc (hpk.grow l1.grow) ρ a w K Q hmask fun ρ' v w' r1 r2=>?_
 have r2':AJ T (S i).g.n ρ (S i).mem w ρ' s'.mem w':=r2
 have hmi:AH T (S i).g.n ρ (S i).mem w:=by rw[hm0];exact I.mem.mono l1.grow.n
 obtain⟨f1,f2⟩:=r2'.forget hmi r1.rel.mem a4
 have hsm:=r2'.same hmi a4
 have st:AJ T (S 0).g.n ρ (S 0).mem w ρ (S 0).mem w':=by rw[←hm0];exact f1.down l1.grow.n
 have stn:∀n,AJ T n ρ (S 0).mem w ρ (S 0).mem w':=fun n=>⟨st.os,st.tape,st.output,st.size,st.mlen,st.rho,st.untr,st.fresh,st.old,fun id x ks e hx=>by
  rcases st.tok id x ks e hx with h1|⟨_,h2|⟨x',ks',e',h2,h3,_⟩⟩
  ·exact .inl h1
  ·rw[hx] at h2;cases h2
  ·rw[hx] at h2
   injection h2 with h4 h5
   have:=I.mem.tok_lt hx
   omega⟩
 have hmem':AH T (S 0).g.n ρ (S 0).mem w':=by
  exact (AJ.forget (m':=s'.mem) (n':=s'.g.n) (by rw[←hm0];exact r2'.down l1.grow.n) I.mem r1.rel.mem (by rw[←hm0];exact a4)).2
 refine hK v w' ⟨by simp[I.size],?_,?_,?_,?_,hmem',?_,?_,?_⟩ st
 ·
  intro j oj hoj hlj e he hb
  rw[At _ _ _ hisz] at hlj⊢
  split
  ·rfl
  ·split at hlj
   ·rename_i hji
    subst hji
    rw[ho] at hoj;cases hoj
    exact hready e he hb
   ·exact I.closed j oj hoj hlj e he hb
 ·intro j hj
  rw[At _ _ _ hisz] at hj
  split at hj
  ·rename_i hji;rw[hji];exact hi
  ·exact I.only j hj
 ·have:=I.defers.on st
  cases o.dst<;>exact this
 ·have:=r1.rel.size
  rw[←I.asize]
  cases o.dst<;>simp[Act.put]
 ·
  intro t c0 hc hno
  have hne:o.dst≠some t:=fun hd=>by
   have:=hno i o ho hd
   rw[At _ _ _ hisz,if_pos rfl] at this
   cases this
  rw[C3 hne]
  refine AB.mono0 (stn _) (Nat.le_refl _) _ _ (I.init t c0 hc fun j oj hoj hd=>?_)
  have:=hno j oj hoj hd
  rw[At _ _ _ hisz] at this
  split at this
  ·cases this
  ·exact this
 ·
  intro j oj d c0 hlj hoj hd hc
  rw[At _ _ _ hisz] at hlj
  split at hlj
  ·rename_i hji
   subst hji
   rw[ho] at hoj;cases hoj
   rw[a2] at hc
   simp only[hd,DG] at hc
   rcases AQ.get_set _ _ _ _ hc with⟨_,_,hcc⟩|⟨hdn,hold⟩
   ·have hval:=r1.rel.at d
    simp only at hval
    have hc2:c=(s'.tmps.get d).getD .any:=a3 d hd
    rw[←hc2] at hval
    rw[hg,hcc,←hm0]
    exact AB.backF hsm _ _ a5 hval
   ·
    have hn:=hdn rfl
    have hnn:¬d < a.tmps.size:=by rw[I.asize,←l1.len];exact hn
    have hv:=I.val H (by omega) hold fun i' o' ho' hd'=>by
     have:=Ch H.nodup ho ho' hd hd'
     subst this
     exact .inr ⟨hun,Nat.le_refl _⟩
    have hput:(a.put o.dst v).tmps.getD d undef=a.tmps.getD d undef:=by
     rw[hd]
     simp only[Act.put,Array.getD_eq_getD_getElem?,Array.getElem?_setIfInBounds,if_true,if_neg hnn]
     rw[Array.getElem?_eq_none (Nat.le_of_not_lt hnn)]
    rw[hput,hg]
    exact AB.mono0 (stn _) b1.n _ _ hv
  ·rename_i hji
   have hne:o.dst≠some d:=fun hd'=>hji (Ch H.nodup hoj ho hd hd')
   rw[C3 hne]
   exact AB.mono0 (stn _) (Nat.le_refl _) _ _ (I.facts j oj d c0 hlj hoj hd hc)
 ·
  intro p hp hlp
  rw[At _ _ _ hisz] at hlp
  split at hlp
  ·rename_i hpi
   obtain⟨_,q2⟩:=H.gls h (Nat.le_refl _) p hp
   rw[hpi,a2] at q2
   rcases List.mem_append.1 q2 with h1|h1
   ·obtain⟨e,he,rfl⟩:=List.mem_map.1 h1
    obtain⟨u1,u2⟩:=a6 e he
    refine⟨?_,?_⟩
    ·rw[hg]
     exact r1.ges e u1
    ·rw[At _ _ _ hisz]
     split
     ·rfl
     ·exact hlR e.j u2
   ·have:=(H.gls i (by omega) p h1).1
    omega
  ·rename_i hpi
   obtain⟨q1,q2⟩:=I.gfacts p hp hlp
   have hji:p.2.j≠i:=fun e=>by rw[e,hun] at q2;cases q2
   refine⟨⟨q1.lt,q1.bool,?_,q1.imp,q1.ne⟩,by rw[At _ _ _ hisz,if_neg hji];exact q2⟩
   have hy:yielded ops (a.put o.dst v).tmps p.2.j=yielded ops a.tmps p.2.j:=by
    cases hd:o.dst with
    |none=>rfl
    |some d=>
     refine He ?_ v
     intro he
     cases hop:ops[p.2.j]? with
     |none=>rw[hop] at he;cases he
     |some op=>
      rw[hop] at he
      exact hji (Ch H.nodup hop ho he hd)
   rw[hy]
   exact q1.iff
end
end Go.Eng
end
noncomputable section
namespace Go.Eng
open Go Go.RowKit
section
variable {P:Program}{T:Tab}{call:A8}{ys:Ys}{r:Option Nat}{kk:Nat}{ops:Array Oper}{pc:PC}
theorem Mb {acc:List Nat}:∀(es:List Edge),∀e∈es,Region.binds .any e=true→(D4 acc es).testBit e.on=true
 |[],e,he,_=>by cases he
 |e0::es,e,he,hb=>by
  simp only[D4]
  cases he with
  |head=>
   rw[if_pos hb]
   simp only[show∀x y,Nat.lor x y=x ||| y from fun _ _=>rfl,Nat.testBit_or,Nat.testBit_two_pow]
   simp
  |tail _ he=>
   have:=Mb (acc:=acc) es e he hb
   split
   ·simp only[show∀x y,Nat.lor x y=x ||| y from fun _ _=>rfl,Nat.testBit_or,this,Bool.or_true]
   ·exact this
theorem OR:∀(l:List Oper) (pre:List Oper) (acc:List Nat),acc.length=pre.length→
  (∀(j r:Nat) (o:Oper),acc[j]? =some r→(pre++l)[j]? =some o→∀e∈o.after,Region.binds .any e=true→r.testBit e.on=true)→
  ∀(j r:Nat) (o:Oper),(AU l acc)[j]? =some r→(pre++l)[j]? =some o→∀e∈o.after,Region.binds .any e=true→r.testBit e.on=true
 |[],pre,acc,_,h=>h
 |o::l,pre,acc,hlen,h=>by
  simp only[AU]
  have e:pre++o::l=(pre++[o])++l:=by simp
  rw[e]
  refine OR l (pre++[o]) _ (by simp[hlen]) ?_
  intro j r o' hr ho'
  rw[List.getElem?_append] at hr
  split at hr
  ·exact h j r o' hr (by rw[e];exact ho')
  ·rename_i hj
   have hj2:j=acc.length:=by
    rcases Nat.lt_or_ge (j - acc.length) 1 with h1|h1
    ·omega
    ·rw[List.getElem?_eq_none (by simpa using h1)] at hr;cases hr
   subst hj2
   simp at hr
   subst hr
   have hoo:o'=o:=by
    rw[hlen] at ho'
    simp at ho'
    exact ho'.symm
   subst hoo
   exact fun e he hb=>Mb _ e (by simpa using he) hb
theorem OA (hm:FH (AU ops.toList []) 0=true){k:Nat}{o:Oper}(ho:ops[k]? =some o){e:Edge}(he:e∈o.after)(hb:Region.binds .any e=true):e.on < k:=by
 have hk:k < (AU ops.toList []).length:=by rw[CH];exact (Array.getElem?_eq_some_iff.1 ho).1
 have h1:=OR ops.toList [] [] rfl (fun j r o hr=>by simp at hr) k _ o (List.getElem?_eq_getElem hk) (by simpa using ho) e he hb
 have:=EF _ 0 hm k _ (List.getElem?_eq_getElem hk) e.on h1
 omega
theorem Fd {i:Nat}{o:Oper}(ho:ops[i]? =some o){a:Act}{w:World}{K:Act→World→Prop}{Q:Exit→Act→World→Prop}(h:Co P r kk ops o a w K Q):wpOpIn (fen r) kk P ops Q i K a w:=by
 unfold Co at h
 unfold wpOpIn
 simp only[ho]
 split
 ·rename_i hw;rw[if_pos hw] at h;exact h
 ·rename_i hw;rw[if_neg hw] at h;exact⟨fun _ _=>trivial,h⟩
theorem XD (hcall:Ca P T call)(hys:CN P T.lp ys)(hm:FH (AU ops.toList []) 0=true){h:Nat}(htail:∀j r,(AU ops.toList [])[j]? =some r→h≤j→∀i,i < j→r.testBit i=true):
  ∀{l:List Oper} {s s':RS},C9 P call ys ops pc l s=some s'→Agr T s'.g→An T s'.g→pcv T pc→BJ T s.g pc→
   ∀(k:Nat) (listed:Array Bool) ρ a w Q,h≤k→k+l.length=ops.size→(∀j,l[j]? =ops[k+j]?)→listed.size=ops.size→(∀j,listed.getD j false=true↔j < k)→K5 ops listed→Bq T ρ ops s a w→
   (∀ ρ' a' w',Bq T ρ' ops s' a' w'→AJ T s.g.n ρ s.mem w ρ' s'.mem w'→Q .normal a' w')→wpAnyIn (fen r) kk P .any ops Q l.length listed a w
 |[],s,s',hs,_,_,_,_,k,listed, ρ,a,w,Q,hk,hlen,hl,hsz,hlist,_,hi,hK=>by
  simp only[C9] at hs
  cases hs
  refine wpAnyIn_done ?_ (hK ρ a w hi (AJ.refl _ _ _ _ _)) _
  refine List.eq_nil_iff_forall_not_mem.2 fun i hi=>?_
  obtain⟨h1,o,ho,_⟩:=mem_ready.1 hi
  have:i < ops.size:=(Array.getElem?_eq_some_iff.1 ho).1
  have h2:=(hlist i).2 (by simp at hlen;omega)
  rw[Array.getD_eq_getD_getElem?] at h1 h2
  have hlt:i < listed.size:=by omega
  rw[Array.getElem?_eq_getElem hlt] at h1 h2
  simp only[Option.getD_some] at h1 h2
  rw[h1] at h2;cases h2
 |o::l,s,s',hs,hA,hob,hpc,hpk,k,listed, ρ,a,w,Q,hk,hlen,hl,hsz,hlist,hcl,hi,hK=>by
  simp only[C9,Option.bind_eq_bind,Option.bind_eq_some_iff] at hs
  obtain⟨s1,h1,h2⟩:=hs
  obtain⟨g1,k1⟩:=JC (r:=r) (kk:=kk) hcall hys h1
  have g2:=(KT (r:=r) (kk:=kk) hcall hys h2).1
  have ho:ops[k]? =some o:=by simpa using (hl 0).symm
  have hksz:k < listed.size:=by simp at hlen;omega
  have toF:∀i,listed.getD i true=false→listed.getD i false=false:=fun i h=>by
   rw[Array.getD_eq_getD_getElem?] at h⊢
   cases hx:listed[i]? with
   |none=>rfl
   |some b=>rw[hx] at h;exact h
  have only:∀i,i∈Region.ready .any ops listed→i=k:=fun i hir=>by
   obtain⟨q1,oi,q2,q3⟩:=mem_ready.1 hir
   have hge:k≤i:=by
    rcases Nat.lt_or_ge i k with h|h
    ·have:=(hlist i).2 h;rw[toF i q1] at this;cases this
    ·exact h
   have hisz:i < (AU ops.toList []).length:=by rw[CH];exact (Array.getElem?_eq_some_iff.1 q2).1
   rcases Nat.lt_or_ge k i with h|h
   ·have hb:=htail i _ (List.getElem?_eq_getElem hisz) (by omega) k h
    have:=CC hcl (List.getElem?_eq_getElem hisz) q2 q3 k hb
    have:=(hlist k).1 this
    omega
   ·omega
  have kready:k∈Region.ready .any ops listed→wpOpIn (fen r) kk P ops Q k (wpAnyIn (fen r) kk P .any ops Q l.length (listed.setIfInBounds k true)) a w:=fun hkr=>by
   obtain⟨_,ok,q2,q3⟩:=mem_ready.1 hkr
   rw[ho] at q2;cases q2
   refine Fd ho ?_
   refine k1 (hA.of g2) (hob.of g2) hpc hpk ρ a w _ Q hi fun ρ' v w' r1 r2=>?_
   refine XD hcall hys hm htail h2 hA hob hpc (hpk.grow g1) (k+1) _ ρ' _ w' Q (by omega) (by simp at hlen;omega) (fun j=>by have:=hl (j+1);simpa [Nat.add_assoc,Nat.add_comm 1 j] using this) (by simpa using hsz) (fun j=>?_) ?_ r1 fun ρ2 a2 w2 hi2 hs2=>?_
   ·rw[At _ _ _ hksz]
    split
    ·rename_i e;subst e;simp
    ·rename_i e;rw[hlist j];omega
   ·intro j oj hoj hlj e he hb
    rw[At _ _ _ hksz] at hlj⊢
    split
    ·rfl
    ·split at hlj
     ·rename_i e2
      rw[e2,ho] at hoj;cases hoj
      exact q3 e he hb
     ·exact hcl j oj hoj hlj e he hb
   ·exact hK ρ2 a2 w2 hi2 (r2.trans hi.rel.mem g1.n hs2)
  refine⟨fun hnil=>?_,fun i hir=>by have:=only i hir;subst this;exact kready hir⟩
  exfalso
  have:k∈Region.ready .any ops listed:=by
   refine mem_ready.2 ⟨?_,o,ho,fun e he hb=>?_⟩
   ·have h0:¬listed.getD k false=true:=fun h=>by have:=(hlist k).1 h;omega
    rw[Array.getD_eq_getD_getElem?,Array.getElem?_eq_getElem hksz] at h0⊢
    simpa using h0
   ·exact (hlist e.on).2 (OA hm ho he hb)
  rw[hnil] at this;cases this
def CQ (listed:Array Bool):Nat:=listed.toList.countP (fun b=> !b)
theorem Qb:∀(l:List Bool) (i:Nat),l[i]? =some false→(l.set i true).countP (fun b=> !b)+1=l.countP (fun b=> !b)
 |[],i,h=>by simp at h
 |b::l,0,h=>by simp at h;subst h;simp
 |b::l,i+1,h=>by
  have:=Qb l i (by simpa using h)
  simp only[List.set_cons_succ,List.countP_cons]
  omega
theorem Dx {listed:Array Bool}{i:Nat}(hi:i < listed.size)(h:listed.getD i false=false):CQ (listed.setIfInBounds i true)+1=CQ listed:=by
 unfold CQ
 rw[Array.toList_setIfInBounds]
 refine Qb _ i ?_
 rw[Array.getD_eq_getD_getElem?,Array.getElem?_eq_getElem hi] at h
 simp at h
 simp[hi,h]
theorem JL:∀(l:List Bool) (h:Nat),h≤l.length→(∀j,(l[j]?).getD false=true↔j < h)→l.countP (fun b=> !b)=l.length - h
 |[],h,_,_=>by simp
 |b::l,0,_,hl=>by
  have hb:b=false:=by
   have:=hl 0
   simpa using this
  subst hb
  have:=JL l 0 (Nat.zero_le _) (fun j=>by simpa using hl (j+1))
  simp[this]
 |b::l,h+1,hle,hl=>by
  have hb:b=true:=by
   have:=(hl 0).2 (Nat.succ_pos _)
   simpa using this
  subst hb
  have:=JL l h (by simpa using hle) (fun j=>by have:=hl (j+1);simpa using this)
  simp[this]
theorem FQ {listed:Array Bool}{h:Nat}(hle:h≤listed.size)(hl:∀j,listed.getD j false=true↔j < h):CQ listed=listed.size - h:=by
 unfold CQ
 rw[JL listed.toList h (by simpa using hle) (fun j=>by rw[←hl j,Array.getD_eq_getD_getElem?];simp)]
 simp
theorem JU.full {h:Nat}{S:Nat→DS}(H:EL P T call ys ops pc h S){listed:Array Bool}{ρ :Nat→Option Nat}{a:Act}{w:World}(I:JU T ops h S listed ρ a w)(hl:∀j,j < h→listed.getD j false=true):
  Bq T ρ ops ⟨(S h).tmps,(S h).mem,(S h).g,(S h).gls.map (·.2)⟩ a w:=by
 obtain⟨l1,_⟩:=H.later 0 h (by omega)
 rw[Nat.zero_add] at l1
 refine⟨⟨(by simp only;rw[l1.mem];exact I.defers),by rw[I.asize,l1.len],fun t c hc=>?_,?_⟩,fun e he=>?_⟩
 ·simp only
  rw[l1.mem]
  refine I.val H (Nat.le_refl _) hc fun i o ho hd=>?_
  rcases Nat.lt_or_ge i h with hi|hi
  ·exact .inl ⟨hl i hi,hi⟩
  ·refine .inr ⟨?_,hi⟩
   cases hx:listed.getD i false with
   |false=>rfl
   |true=>have:=I.only i hx;omega
 ·simp only
  rw[l1.mem]
  exact I.mem.mono l1.grow.n
 ·obtain⟨p,hp,rfl⟩:=List.mem_map.1 he
  have hlt:=(H.gls h (Nat.le_refl _) p hp).1
  obtain⟨l3,_⟩:=H.later (p.1+1) (h - (p.1+1)) (by omega)
  rw[show p.1+1+(h - (p.1+1))=h by omega] at l3
  exact (I.gfacts p hp (hl p.1 hlt)).1.up l3.grow.n
theorem fy {h:Nat}{S:Nat→DS}(H:EL P T call ys ops pc h S)(hA:Agr T (S h).g)(hob:An T (S h).g)(hpc:pcv T pc)(hpk:BJ T (S 0).g pc){Q:Exit→Act→World→Prop}{ρ :Nat→Option Nat}{w0:World}(hm0:AH T (S 0).g.n ρ (S 0).mem w0)
  (hK:∀(listed:Array Bool) a w,listed.size=ops.size→(∀j,listed.getD j false=true↔j < h)→K5 ops listed→Bq T ρ ops ⟨(S h).tmps,(S h).mem,(S h).g,(S h).gls.map (·.2)⟩ a w→
   AJ T (S 0).g.n ρ (S 0).mem w0 ρ (S 0).mem w→wpAnyIn (fen r) kk P .any ops Q (ops.size - h) listed a w):
  ∀(fuel:Nat) (listed:Array Bool) (a:Act) (w:World),JU T ops h S listed ρ a w→AJ T (S 0).g.n ρ (S 0).mem w0 ρ (S 0).mem w→CQ listed=fuel→wpAnyIn (fen r) kk P .any ops Q fuel listed a w:=by
 intro fuel
 induction fuel with
 |zero=>
  intro listed a w I st hu
  by_cases hall:∀j,j < h→listed.getD j false=true
  ·have hiff:∀j,listed.getD j false=true↔j < h:=fun j=>⟨I.only j,hall j⟩
   have hc:=FQ (by rw[I.size];exact H.le) hiff
   rw[hu,I.size] at hc
   have:=hK listed a w I.size hiff I.closed (I.full H hall) st
   rw[←hc] at this
   exact this
  ·exfalso
   simp only[Classical.not_forall] at hall
   obtain⟨j,hj,hlj⟩:=hall
   have:=Dx (listed:=listed) (i:=j) (by rw[I.size];exact Nat.lt_of_lt_of_le hj H.le) (by simpa using hlj)
   omega
 |succ fuel ih=>
  intro listed a w I st hu
  by_cases hall:∀j,j < h→listed.getD j false=true
  ·have hiff:∀j,listed.getD j false=true↔j < h:=fun j=>⟨I.only j,hall j⟩
   have hc:=FQ (by rw[I.size];exact H.le) hiff
   rw[hu,I.size] at hc
   have:=hK listed a w I.size hiff I.closed (I.full H hall) st
   rw[←hc] at this
   exact this
  ·simp only[Classical.not_forall] at hall
   obtain⟨j,hj,hlj⟩:=hall
   have hmin:∃j,j < h∧listed.getD j false=false∧∀i,i < j→listed.getD i false=true:=by
    have key:∀n,(∃j,j < n∧j < h∧listed.getD j false=false)→∃j,j < h∧listed.getD j false=false∧∀i,i < j→listed.getD i false=true:=by
     intro n
     induction n with
     |zero=>rintro⟨j,h1,_⟩;omega
     |succ n ihn=>
      rintro⟨j,h1,h2,h3⟩
      by_cases hx:∃j,j < n∧j < h∧listed.getD j false=false
      ·exact ihn hx
      ·have hjn:j=n:=by
        rcases Nat.lt_or_ge j n with h|h
        ·exact absurd ⟨j,h,h2,h3⟩ hx
        ·omega
       subst hjn
       refine⟨j,h2,h3,fun i hi=>?_⟩
       cases hli:listed.getD i false with
       |true=>rfl
       |false=>exact absurd ⟨i,hi,by omega,hli⟩ hx
    exact key (j+1) ⟨j,Nat.lt_succ_self _,hj,by simpa using hlj⟩
   obtain⟨j0,h0,hl0,hbelow⟩:=hmin
   have toF:∀i,listed.getD i true=false→listed.getD i false=false:=fun i h=>by
    rw[Array.getD_eq_getD_getElem?] at h⊢
    cases hx:listed[i]? with
    |none=>rfl
    |some b=>rw[hx] at h;exact h
   have hr0:j0∈Region.ready .any ops listed:=by
    obtain⟨o,ho⟩:=H.op h0
    refine mem_ready.2 ⟨?_,o,ho,fun e he hb=>hbelow e.on (OA H.masks ho he hb)⟩
    have hlt:j0 < listed.size:=by rw[I.size];exact Nat.lt_of_lt_of_le h0 H.le
    rw[Array.getD_eq_getD_getElem?,Array.getElem?_eq_getElem hlt] at hl0⊢
    simpa using hl0
   refine⟨(fun hnil=>by rw[hnil] at hr0;cases hr0),fun i hir=>?_⟩
   obtain⟨q1,o,q2,q3⟩:=mem_ready.1 hir
   have hiN:i < ops.size:=(Array.getElem?_eq_some_iff.1 q2).1
   have hih:i < h:=by
    rcases Nat.lt_or_ge i h with hh|hh
    ·exact hh
    ·have hisz:i < (AU ops.toList []).length:=by rw[CH];exact hiN
     have hb:=H.tail i _ (List.getElem?_eq_getElem hisz) hh j0 (by omega)
     have:=CC I.closed (List.getElem?_eq_getElem hisz) q2 q3 j0 hb
     rw[hl0] at this;cases this
   refine Fd q2 (I.comes H hA hob hpc hpk hih q2 (toF i q1) q3 fun v w' I' st'=>?_)
   refine ih _ _ w' I' (st.trans hm0 (Nat.le_refl _) st') ?_
   have:=Dx (listed:=listed) (i:=i) (by rw[I.size];exact hiN) (toF i q1)
   omega
end
end Go.Eng
end
noncomputable section
namespace Go.Eng
open Go Go.RowKit
section
variable {P:Program}{T:Tab}{call:A8}{ys:Ys}{r:Option Nat}{kk:Nat}{ops:Array Oper}{pc:PC}
theorem SB {ops:Array Oper}{pc:PC}{s s':RS}{o:Oper}(h:Ck P call ys ops pc s o=some s'):s'.tmps.n=s.tmps.n:=by
 unfold Ck at h
 simp only[Option.bind_eq_bind,Option.bind_eq_some_iff] at h
 obtain⟨⟨run,s1⟩,hg,h⟩:=h
 obtain⟨_,gg2,_⟩:=Gh hg
 rw[←gg2]
 simp only at h
 split at h
 ·cases h
 split at h
 ·cases h;exact G8 ..
 ·split at h
  ·simp only[Option.bind_eq_some_iff] at h
   obtain⟨⟨c,m,g⟩,_,h⟩:=h
   simp only at h
   split at h
   ·cases h;exact G8 ..
   ·split at h
    ·cases h;exact G8 ..
    ·split at h
     ·cases h;exact G8 ..
     ·cases h
  ·simp only[Option.bind_eq_some_iff] at h
   obtain⟨r,_,h⟩:=h
   cases h;exact G8 ..
  ·simp only[Option.bind_eq_some_iff] at h
   obtain⟨r,_,h⟩:=h
   split at h
   ·cases h;exact G8 ..
   ·split at h
    ·cases h;exact G8 ..
    ·cases h
theorem OM {D:List (Tmp × Nat)}:∀{l:List Oper} {Rs:List Nat} {j0:Nat} {S0 Sh:DS},heads P call ys ops D pc Rs l j0 S0=some Sh→
  ∃S:Nat→DS,S j0=S0∧S (j0+l.length)=Sh∧∀i o,l[i]? =some o→∃R,Rs[i]? =some R∧JN P call ys ops D pc R (j0+i) o (S (j0+i))=some (S (j0+i+1))
 |[],Rs,j0,S0,Sh,h=>by
  have h':some S0=some Sh:=by cases Rs<;>exact h
  cases h'
  exact⟨fun _=>S0,rfl,rfl,fun i o ho=>by simp at ho⟩
 |o::l,[],j0,S0,Sh,h=>by simp[heads] at h
 |o::l,R::Rs,j0,S0,Sh,h=>by
  simp only[heads,Option.bind_eq_bind,Option.bind_eq_some_iff] at h
  obtain⟨S1,h1,h2⟩:=h
  obtain⟨S,q1,q2,q3⟩:=OM h2
  refine⟨fun k=>if k=j0 then S0 else S k,by simp,?_,fun i o' ho'=>?_⟩
  ·simp only[List.length_cons]
   rw[if_neg (by omega),←q2]
   congr 1;omega
  ·cases i with
   |zero=>
    simp at ho'
    subst ho'
    refine⟨R,rfl,?_⟩
    simp only[Nat.add_zero,if_true]
    rw[if_neg (by omega),q1]
    exact h1
   |succ i=>
    obtain⟨R',hR',this⟩:=q3 i o' (by simpa using ho')
    refine⟨R',by simpa using hR',?_⟩
    simp only
    rw[if_neg (by omega),if_neg (by omega),show j0+(i+1)=j0+1+i by omega]
    exact this
theorem AJ.drawn (T:Tab)(n:Nat)(ρ :Nat→Option Nat)(m:Mem)(w:World)(d:Nat):AJ T n ρ m w ρ m { w with drawn:=d } where
 os:=rfl
 tape:=rfl
 output:=rfl
 size:=Nat.le_refl _
 mlen:=fun _ h=>h
 rho:=fun _ h=>⟨rfl,h⟩
 untr:=fun _ _ h=>h
 fresh:=fun id b h ht _=>by rw[h] at ht;cases ht
 old:=fun _ _ _=>rfl
 tok:=fun _ _ _ _ h=> .inl ⟨h,rfl,fun _ _=>rfl⟩
theorem AH.drawn {n:Nat}{ρ :Nat→Option Nat}{m:Mem}{w:World}(hm:AH T n ρ m w)(d:Nat):AH T n ρ m { w with drawn:=d }:=
 ⟨fun id=>BU.step (AJ.drawn T n ρ m w d) hm (Nat.le_refl _) rfl rfl (fun _ _=>rfl),hm.inj,hm.fr⟩
theorem df (hm:P.follows .mixedOrders=true)(hcall:Ca P T call)(hys:CN P T.lp ys){l:Loc}{g:G}{s':RS}(h:S7 P call ys ops pc l g=some s'):
  AP g s'.g∧s'.tmps.n=l.tmps.n∧(Agr T s'.g→An T s'.g→pcv T pc→BJ T g pc→∀id ρ a w Q,Rel T g.n ρ l a w→
   (∀ ρ' a' w',Bq T ρ' ops s' a' w'→AJ T g.n ρ l.mem w ρ' s'.mem w'→Q .normal a' w')→(Code.region id ops true).wpIn (fen r) kk P Q a w):=by
 unfold S7 at h
 simp only at h
 split at h
 ·rename_i hc
  rw[Bool.and_eq_true] at hc
  obtain⟨hmask,hnod⟩:=hc
  simp only[Option.bind_eq_bind,Option.bind_eq_some_iff] at h
  obtain⟨Sh,hh,ht⟩:=h
  obtain⟨t1,_,t3⟩:=JO (AU ops.toList []) 0 0 (Nat.le_refl _)
  rw[Nat.zero_add,CH] at t1
  generalize hdef:D1 (AU ops.toList []) 0 0=hd at*
  obtain⟨S,q1,q2,q3⟩:=OM hh
  have hlen:(ops.toList.take hd).length=hd:=by simp;omega
  rw[Nat.zero_add,hlen] at q2
  have H:EL P T call ys ops pc hd S:=by
   refine⟨t1,fun j o hj ho=>?_,hmask,hnod,fun j r hr hj i hi=>t3 j r hr (by omega) i (by omega),hcall,hys,by rw[q1]⟩
   obtain⟨R,hR,this⟩:=q3 j o (by rw[List.getElem?_take,if_pos hj];simpa using ho)
   rw[Nat.zero_add] at this
   exact⟨R,hR,this⟩
  obtain⟨l1,_⟩:=H.later 0 hd (by omega)
  rw[Nat.zero_add] at l1
  have g0:(S 0).g=g:=by rw[q1]
  have m0:(S 0).mem=l.mem:=by rw[q1]
  have tm0:(S 0).tmps=l.tmps:=by rw[q1]
  subst q2
  obtain⟨g2,k2⟩:=KT (r:=r) (kk:=kk) hcall hys ht
  refine⟨?_,?_,fun hA hob hpc hpk id ρ a w Q hR hK=>?_⟩
  ·rw[←g0];exact l1.grow.trans g2
  ·have:=(show s'.tmps.n=(S hd).tmps.n from by
    have key:∀{l:List Oper} {s s':RS},C9 P call ys ops pc l s=some s'→s'.tmps.n=s.tmps.n:=by
     intro l
     induction l with
     |nil=>intro s s' h;simp only[C9] at h;cases h;rfl
     |cons o l ih=>
      intro s s' h
      simp only[C9,Option.bind_eq_bind,Option.bind_eq_some_iff] at h
      obtain⟨s1,h1,h2⟩:=h
      rw[ih h2]
      exact SB h1
    exact key ht)
   rw[this,l1.len,tm0]
  ·have hAh:Agr T (S hd).g:=hA.of g2
   have hobh:An T (S hd).g:=hob.of g2
   refine wpIn_region_any hm ?_
   have hst:=AJ.drawn T (S 0).g.n ρ (S 0).mem w (w.drawn+1)
   have hm0:AH T (S 0).g.n ρ (S 0).mem { w with drawn:=w.drawn+1 }:=by rw[g0,m0];exact hR.mem.drawn _
   have hun:∀j,(Array.replicate ops.size false).getD j false=false:=fun j=>by
    rw[Array.getD_eq_getD_getElem?,Array.getElem?_replicate]
    split<;>rfl
   have I0:JU T ops hd S (Array.replicate ops.size false) ρ a { w with drawn:=w.drawn+1 }:=by
    refine⟨by simp,fun j o _ hj=>?_,fun i hi=>?_,(by rw[m0];exact hR.defers.on (AJ.drawn T g.n ρ l.mem w (w.drawn+1))),by rw[tm0];exact hR.size,hm0,fun t c hc _=>?_,fun i o d c hi=>?_,fun p _ hp=>?_⟩
    ·rw[hun] at hj;cases hj
    ·rw[hun] at hi;cases hi
    ·rw[tm0] at hc
     have:=hR.tmps t c hc
     rw[g0,m0]
     exact AB.mono0 (by rw[←g0,←m0];exact hst) (Nat.le_refl _) _ _ this
    ·rw[hun] at hi;cases hi
    ·rw[hun] at hp;cases hp
   have hcount:CQ (Array.replicate ops.size false)=ops.size:=by simp[CQ,List.countP_replicate]
   refine fy H hAh hobh hpc (by rw[g0];exact hpk) hm0 (fun listed a' w' e1 e2 e3 e4 e5=>?_) ops.size _ a _ I0 (AJ.refl _ _ _ _ _) hcount
   have hdl:(ops.toList.drop hd).length=ops.size - hd:=by simp
   have:=XD (r:=r) (kk:=kk) hcall hys hmask (fun j r hr hj i hi=>t3 j r hr (by omega) i (by omega)) ht hA hob hpc ((by rw[g0];exact hpk:BJ T (S 0).g pc).grow l1.grow) hd listed ρ a' w' Q (Nat.le_refl _) (by rw[hdl];omega)
    (fun j=>by simp) e1 e2 e3 e4 (fun ρ2 a2 w2 hi2 hs2=>?_)
   ·rw[hdl] at this;exact this
   ·refine hK ρ2 a2 w2 hi2 ?_
    rw[←g0,←m0]
    have s1:AJ T (S 0).g.n ρ (S 0).mem w ρ (S 0).mem w':=hst.trans (by rw[g0,m0];exact hR.mem) (Nat.le_refl _) e5
    have s2:AJ T (S hd).g.n ρ (S 0).mem w' ρ2 s'.mem w2:=by rw[←l1.mem];exact hs2
    exact s1.trans (by rw[g0,m0];exact hR.mem) l1.grow.n s2
 ·cases h
end
end Go.Eng
end
noncomputable section
namespace Go.Eng
open Go Go.RowKit
structure HT (T1 T2:Tab) (ρ :Nat→Option Nat) (m1 m2:Mem) (w:World) (nh nm:Nat):Prop where
 eq:∀x,x < nh→T2 x=T1 x
 safe:∀b off,Ai T1 ρ m1 w b off→Ai T2 ρ m2 w b off
 ptr:∀id,id < nm→(m1.at id).ptrOk=true→(m2.at id).ptrOk=true
 vec:∀id,id < nm→m1.at id≠ .pad→m2.at id≠ .pad∧∀x ks e,m2.at id= .tok x ks e→x < nh→∃ks1,m1.at id= .tok x ks1 e∧ks1.length=ks.length
theorem Be {a b:Nat}(h:Nat.blt a b=true):a < b:=by rwa [Nat.blt_eq] at h
section
variable {T1 T2:Tab}{ρ :Nat→Option Nat}{m1 m2:Mem}{w:World}{nh nm n1 n2:Nat}
theorem HT.kd (M:HT T1 T2 ρ m1 m2 w nh nm){k:Kd}{u:U}{v:Value}(h:AR (Ai T1 ρ m1 w) w k u v):AR (Ai T2 ρ m2 w) w k u v:=
 AR.mono (fun b off hs=>⟨M.safe b off hs,rfl⟩) k u v h
mutual
theorem AB.move (M:HT T1 T2 ρ m1 m2 w nh nm)(hn:nh≤n2):∀(c:AC) (v:Value),AC.lt nh nm c=true→AB T1 n1 ρ m1 w c v→AB T2 n2 ρ m2 w c v
 | .any,_,_,_=>trivial
 | .anyc,_,_,h=>h
 | .on c a,v,hl,h=>by
  simp only[AC.lt,Bool.and_eq_true] at hl
  have hc:=Be hl.1
  refine⟨Nat.lt_of_lt_of_le hc hn,fun ht=>AB.move M hn a v hl.2 (h.2 ?_)⟩
  rw[M.eq c hc] at ht;exact ht
 | .gd c a,v,hl,h=>by
  simp only[AC.lt,Bool.and_eq_true] at hl
  have hc:=Be hl.1
  refine⟨Nat.lt_of_lt_of_le hc hn,fun ht=>AB.move M hn a v hl.2 (h.2.1 ?_),fun ht=>h.2.2 ?_⟩
  ·rw[M.eq c hc] at ht;exact ht
  ·rw[M.eq c hc] at ht;exact ht
 | .cb _,_,_,h=>h
 | .b x,v,hl,h=>by
  have hx:=Be hl
  obtain⟨_,b,h1,h2⟩:=h
  exact⟨Nat.lt_of_lt_of_le hx hn,b,by rw[M.eq x hx];exact h1,h2⟩
 | .nb x,v,hl,h=>by
  have hx:=Be hl
  obtain⟨_,b,h1,h2⟩:=h
  exact⟨Nat.lt_of_lt_of_le hx hn,b,by rw[M.eq x hx];exact h1,h2⟩
 | .ci _ _,_,_,h=>h
 | .i k lo hi x,v,hl,h=>by
  have hx:=Be hl
  obtain⟨_,b,h1,h2⟩:=h
  exact⟨Nat.lt_of_lt_of_le hx hn,b,by rw[M.eq x hx];exact h1,h2⟩
 | .cv _,_,_,h=>h
 | .v x,v,hl,h=>by
  have hx:=Be hl
  exact⟨Nat.lt_of_lt_of_le hx hn,by rw[M.eq x hx];exact h.2.1,h.2.2⟩
 | .s x,v,hl,h=>by
  have hx:=Be hl
  obtain⟨_,b,h1,h2⟩:=h
  exact⟨Nat.lt_of_lt_of_le hx hn,b,by rw[M.eq x hx];exact h1,h2⟩
 | .ptr id off,v,hl,h=>by
  obtain⟨b,h1,h2,h3⟩:=h
  exact⟨b,h1,h2,M.ptr id (Be hl) h3⟩
 | .pix id base stride cnt x plus,v,hl,h=>by
  simp only[AC.lt,Bool.and_eq_true] at hl
  have hx:=Be hl.2
  obtain⟨_,b,j,h1,h2,h3,h4,h5,h6⟩:=h
  exact⟨Nat.lt_of_lt_of_le hx hn,b,j,h1,by rw[M.eq x hx];exact h2,h3,h4,h5,M.ptr id (Be hl.1) h6⟩
 | .ro x ks,v,hl,h=>by
  have hx:=Be hl
  exact⟨Nat.lt_of_lt_of_le hx hn,by rw[M.eq x hx];exact M.kd h.2⟩
 | .rp x t off ks,v,hl,h=>by
  simp only[AC.lt,Bool.and_eq_true] at hl
  have hx:=Be hl.1
  have ht:=Be hl.2
  obtain⟨_,j,b,o,us,h1,h2,h3,h4,h5⟩:=h
  refine⟨⟨Nat.lt_of_lt_of_le hx hn,Nat.lt_of_lt_of_le ht hn⟩,j,b,o,us,by rw[M.eq t ht];exact h1,h2,by rw[M.eq x hx];exact h3,h4,?_⟩
  exact AW.mono (fun b off hs=>⟨M.safe b off hs,rfl⟩) _ _ _ _ h5
 | .vec id x ks,v,hl,h=>by
  simp only[AC.lt,Bool.and_eq_true] at hl
  have hx:=Be hl.2
  obtain⟨_,h2,h3,h4⟩:=h
  obtain⟨k1,k2⟩:=M.vec id (Be hl.1) h2
  refine⟨Nat.lt_of_lt_of_le hx hn,k1,by rw[M.eq x hx];exact M.kd h3,fun ks' e he=>?_⟩
  obtain⟨ks1,q1,q2⟩:=k2 x ks' e he hx
  rcases h4 ks1 e q1 with⟨l1,l2⟩|⟨b,cap,vs,l1,l2,l3,l4⟩
  ·exact .inl ⟨l1,l2⟩
  ·exact .inr ⟨b,cap,vs,l1,by rw[M.eq x hx];exact l2,l3,by rw[←q2];exact l4⟩
 | .fn f first cap,v,hl,h=>by
  simp only[AC.lt,Bool.and_eq_true] at hl
  obtain⟨vs,us,h1,h2,h3⟩:=h
  exact⟨vs,us,h1,AD.move M hn first vs hl.1 h2,AD.move M hn cap us hl.2 h3⟩
 | .sel x alts,v,hl,h=>by
  simp only[AC.lt,Bool.and_eq_true] at hl
  have hx:=Be hl.1
  obtain⟨_,j,h1,h2,h3⟩:=h
  exact⟨Nat.lt_of_lt_of_le hx hn,j,by rw[M.eq x hx];exact h1,h2,Ah.move M hn alts j.toNat v hl.2 h3⟩
 | .yl id,v,hl,h=>by
  obtain⟨b,h1,h2,h3⟩:=h
  exact⟨b,h1,h2,M.ptr id (Be hl) h3⟩
 | .asl id off len,v,hl,h=>by
  obtain⟨b,h1,h2,h3⟩:=h
  exact⟨b,h1,h2,M.ptr id (Be hl) h3⟩
 | .rsv id x ks,v,hl,h=>by
  simp only[AC.lt,Bool.and_eq_true] at hl
  have hx:=Be hl.2
  obtain⟨_,h2,h5,h3,h4⟩:=h
  obtain⟨k1,k2⟩:=M.vec id (Be hl.1) h2
  refine⟨Nat.lt_of_lt_of_le hx hn,k1,by rw[M.eq x hx];exact h5,h3,fun ks' e he=>?_⟩
  obtain⟨ks1,q1,q2⟩:=k2 x ks' e he hx
  rcases h4 ks1 e q1 with⟨l1,l2⟩|⟨b,len,cap,vs,l1,l2,l0,l3,l4⟩
  ·exact .inl ⟨l1,l2⟩
  ·exact .inr ⟨b,len,cap,vs,l1,l2,l0,l3,by rw[←q2];exact l4⟩
 | .agg l,v,hl,h=>by
  obtain⟨vs,h1,h2⟩:=h
  exact⟨vs,h1,AD.move M hn l vs (by simpa [AC.lt] using hl) h2⟩
 | .tup l,v,hl,h=>by
  obtain⟨vs,h1,h2⟩:=h
  exact⟨vs,h1,AD.move M hn l vs (by simpa [AC.lt] using hl) h2⟩
theorem AD.move (M:HT T1 T2 ρ m1 m2 w nh nm)(hn:nh≤n2):∀(l:List AC) (vs:List Value),AC.ltL nh nm l=true→AD T1 n1 ρ m1 w l vs→AD T2 n2 ρ m2 w l vs
 |[],_,_,h=>h
 |c::l,vs,hl,h=>by
  simp only[AC.ltL,Bool.and_eq_true] at hl
  obtain⟨u,us,h1,h2,h3⟩:=h
  exact⟨u,us,h1,AB.move M hn c u hl.1 h2,AD.move M hn l us hl.2 h3⟩
theorem Ah.move (M:HT T1 T2 ρ m1 m2 w nh nm)(hn:nh≤n2):∀(l:List AC) (j:Nat) (v:Value),AC.ltL nh nm l=true→Ah T1 n1 ρ m1 w l j v→Ah T2 n2 ρ m2 w l j v
 |[],_,_,_,h=>h.elim
 |c::_,0,v,hl,h=>by
  simp only[AC.ltL,Bool.and_eq_true] at hl
  exact AB.move M hn c v hl.1 h
 |_::l,j+1,v,hl,h=>by
  simp only[AC.ltL,Bool.and_eq_true] at hl
  exact Ah.move M hn l j v hl.2 h
end
structure Ec (T1 T2:Tab) (n:Nat):Prop where
 eq:∀x,x < n→T2 x=T1 x
 fr:T2.fr=T1.fr
 lp:T2.lp=T1.lp
theorem Ec.safe {n:Nat}(S:Ec T1 T2 n)(hm:AH T1 n ρ m1 w){b off:Nat}(h:Ai T1 ρ m1 w b off):Ai T2 ρ m1 w b off:=by
 refine⟨h.1,by rw[S.fr];exact h.2.1,fun id=>?_⟩
 have:=h.2.2 id
 cases hx:m1.at id with
 |pad=>trivial
 |gone=>trivial
 |cells l e=>rw[hx] at this;exact this
 |lp s st=>rw[hx] at this;exact this
 |tok x ks e=>
  rw[hx] at this
  intro hr
  have:=this hr
  unfold B4 at this⊢
  rw[S.eq x (hm.tok_lt hx)]
  exact this
section
variable {n:Nat}(S:Ec T1 T2 n)(hs:∀b off,Ai T1 ρ m1 w b off→Ai T2 ρ m1 w b off)
mutual
theorem AB.tab (S:Ec T1 T2 n)(hs:∀b off,Ai T1 ρ m1 w b off→Ai T2 ρ m1 w b off):∀(c:AC) (v:Value),AB T1 n ρ m1 w c v→AB T2 n ρ m1 w c v
 | .any,_,_=>trivial
 | .anyc,_,h=>h
 | .on c a,v,h=>⟨h.1,fun ht=>AB.tab S hs a v (h.2 (by rw[S.eq c h.1] at ht;exact ht))⟩
 | .gd c a,v,h=>⟨h.1,fun ht=>AB.tab S hs a v (h.2.1 (by rw[S.eq c h.1] at ht;exact ht)),fun ht=>h.2.2 (by rw[S.eq c h.1] at ht;exact ht)⟩
 | .cb _,_,h=>h
 | .b x,v,⟨h0,b,h1,h2⟩=>⟨h0,b,by rw[S.eq x h0];exact h1,h2⟩
 | .nb x,v,⟨h0,b,h1,h2⟩=>⟨h0,b,by rw[S.eq x h0];exact h1,h2⟩
 | .ci _ _,_,h=>h
 | .i k lo hi x,v,⟨h0,b,h1,h2⟩=>⟨h0,b,by rw[S.eq x h0];exact h1,h2⟩
 | .cv _,_,h=>h
 | .v x,v,⟨h0,h1,h2⟩=>⟨h0,by rw[S.eq x h0];exact h1,h2⟩
 | .s x,v,⟨h0,b,h1,h2⟩=>⟨h0,b,by rw[S.eq x h0];exact h1,h2⟩
 | .ptr _ _,_,h=>h
 | .pix id base stride cnt x plus,v,⟨h0,b,j,h1,h2,h3⟩=>⟨h0,b,j,h1,by rw[S.eq x h0];exact h2,h3⟩
 | .ro x ks,v,⟨h0,h1⟩=>⟨h0,by rw[S.eq x h0];exact AR.mono (fun b off h=>⟨hs b off h,rfl⟩) _ _ _ h1⟩
 | .rp x t off ks,v,⟨h0,j,b,o,us,h1,h2,h3,h4,h5⟩=>⟨h0,j,b,o,us,by rw[S.eq t h0.2];exact h1,h2,by rw[S.eq x h0.1];exact h3,h4,AW.mono (fun b off h=>⟨hs b off h,rfl⟩) _ _ _ _ h5⟩
 | .vec id x ks,v,⟨h0,h1,h2,h3⟩=>⟨h0,h1,by rw[S.eq x h0];exact AR.mono (fun b off h=>⟨hs b off h,rfl⟩) _ _ _ h2,fun ks' e he=>by
   have:=h3 ks' e he
   unfold Qr at this⊢
   rw[S.eq x h0]
   exact this⟩
 | .fn f first cap,v,⟨vs,us,h1,h2,h3⟩=>⟨vs,us,h1,AD.tab S hs first vs h2,AD.tab S hs cap us h3⟩
 | .sel x alts,v,⟨h0,j,h1,h2,h3⟩=>⟨h0,j,by rw[S.eq x h0];exact h1,h2,Ah.tab S hs alts j.toNat v h3⟩
 | .yl _,_,h=>h
 | .asl _ _ _,_,h=>h
 | .rsv id x ks,v,⟨h0,h1,h2,h3,h4⟩=>⟨h0,h1,by rw[S.eq x h0];exact h2,h3,h4⟩
 | .agg l,v,⟨vs,h1,h2⟩=>⟨vs,h1,AD.tab S hs l vs h2⟩
 | .tup l,v,⟨vs,h1,h2⟩=>⟨vs,h1,AD.tab S hs l vs h2⟩
theorem AD.tab (S:Ec T1 T2 n)(hs:∀b off,Ai T1 ρ m1 w b off→Ai T2 ρ m1 w b off):∀(l:List AC) (vs:List Value),AD T1 n ρ m1 w l vs→AD T2 n ρ m1 w l vs
 |[],_,h=>h
 |c::l,vs,⟨u,us,h1,h2,h3⟩=>⟨u,us,h1,AB.tab S hs c u h2,AD.tab S hs l us h3⟩
theorem Ah.tab (S:Ec T1 T2 n)(hs:∀b off,Ai T1 ρ m1 w b off→Ai T2 ρ m1 w b off):∀(l:List AC) (j:Nat) (v:Value),Ah T1 n ρ m1 w l j v→Ah T2 n ρ m1 w l j v
 |[],_,_,h=>h.elim
 |c::_,0,v,h=>AB.tab S hs c v h
 |_::l,j+1,v,h=>Ah.tab S hs l j v h
end
end
theorem AH.tab {n:Nat}(S:Ec T1 T2 n)(hm:AH T1 n ρ m1 w):AH T2 n ρ m1 w:=by
 have hs:∀b off,Ai T1 ρ m1 w b off→Ai T2 ρ m1 w b off:=fun b off h=>S.safe hm h
 refine⟨fun id=>?_,hm.inj,fun b off h=>by rw[S.fr];exact hm.fr b off h⟩
 have:=hm.blk id
 cases hx:m1.at id with
 |pad=>trivial
 |gone=>trivial
 |cells l e=>
  rw[hx] at this
  obtain⟨b,vs,h1,h2,h3⟩:=this
  exact⟨b,vs,h1,h2,AD.tab S hs l vs h3⟩
 |tok x ks e=>
  rw[hx] at this
  obtain⟨h0,l,h1,h2⟩:=this
  refine⟨h0,l,by rw[S.eq x h0];exact h1,?_⟩
  rw[S.fr]
  exact h2
 |lp s st=>
  rw[hx] at this
  obtain⟨b,q,h1,h2,h3,h4,h5,h6,h7,j,h8,h9⟩:=this
  refine⟨b,q,h1,h2,?_⟩
  rw[S.lp]
  exact⟨h3,h4,h5,h6,fun i c hc=>AB.tab S hs c _ (h7 i c hc),j,AB.tab S hs st _ h8,h9⟩
theorem Ec.symm {n:Nat}(S:Ec T1 T2 n):Ec T2 T1 n:=⟨fun x hx=>(S.eq x hx).symm,S.fr.symm,S.lp.symm⟩
theorem AJ.tab {n:Nat}{ρ':Nat→Option Nat}{m':Mem}{w':World}(S:Ec T1 T2 n)(hm:AH T1 n ρ m1 w)(hs:AJ T1 n ρ m1 w ρ' m' w')(hnew:∀id x' ks' e',m'.at id= .tok x' ks' e'→T2 x'=T1 x'):AJ T2 n ρ m1 w ρ' m' w':=
 {hs with
  tok:=fun id x ks e hx=>by
   have hxn:=hm.tok_lt hx
   rcases hs.tok id x ks e hx with h|⟨h1,h2⟩
   ·exact .inl h
   ·refine .inr ⟨fun b hb off ho=>h1 b hb off (by unfold B4 at ho⊢;rw[S.eq x hxn] at ho;exact ho),?_⟩
    rcases h2 with h2|⟨x',ks',e',h2,h3,h4⟩
    ·exact .inl h2
    ·refine .inr ⟨x',ks',e',h2,h3,fun b' hb'=>?_⟩
     rcases h4 b' hb' with⟨k1,k2⟩|k1
     ·refine .inl ⟨k1,?_⟩
      unfold B4 at k2⊢
      rw[S.eq x hxn,hnew id x' ks' e' h2]
      exact k2
     ·exact .inr k1 }
end
end Go.Eng
end
