/-
  A part of the proof: the evaluator of code and its soundness.
-/
import Derived.Test.YtikbgnmcfncnaaaE0
import Derived.Laws.Pointers
import Derived.Lib.AppendZeros
import Derived.RangeFuncRecord
set_option linter.unusedVariables false
set_option linter.unusedSimpArgs false
noncomputable section
namespace Go.Eng
section
open Go Go.RowKit
section
variable {P:Program}{T:Tab}{n n':Nat}{ρ ρ':Nat->Option Nat}{m m':Mem}{w w':World}{g:G}{r:R}
theorem Et:∀(l l':List Nat),De l l'=true->l=l'
 |[],[],_=>rfl
 |[],_::_,h=>by cases h
 |_::_,[],h=>by cases h
 |a::l,b::l',h=>by
  simp only[De,vo] at h;rw[vp h.1,Et l l' h.2]
theorem AJ.of {l:List AC}{vs:List Value}(ha:l.all AC.atom=true)(h:AB T n ρ m w l vs):
  AJ (AS T ρ m w) w (l.map fun c=>(BN c).1) (l.map fun c=>(BN c).2.eval T) vs:=by
 induction l generalizing vs with
 |nil=>exact⟨rfl,h⟩
 |cons c l ih=>
  obtain⟨u,us,rfl,h1,h2⟩:=h;simp only[List.all_cons,vo] at ha;exact⟨_,_,u,us,rfl,rfl,XW ha.1 h1,ih ha.2 h2⟩
theorem AU.one {l:List AC}{vs:List Value}(ha:l.all AC.atom=true)(h:AB T n ρ m w l vs):
  AU (AS T ρ m w) w (l.map fun c=>(BN c).1) [l.map fun c=>(BN c).2.eval T] vs:=
 ⟨[vs],by simp,vs,[],rfl,AJ.of ha h,rfl⟩
def Ny (T:Tab)(n:Nat)(ρ :Nat->Option Nat)(m:Mem)(w:World):List (List AC)->List (List Value)->Prop
 |[],vss=>vss=[]
 |l::ls,vss=>∃vs vss',vss=vs::vss'/\l.all AC.atom=true/\AB T n ρ m w l vs/\Ny T n ρ m w ls vss'
theorem Nf {s:Nat}(hs:0 < s):∀{ls:List (List AC)} {vss:List (List Value)},Ny T n ρ m w ls vss->(∀l∈ls,l.length=s)->ls≠[]->
  (Cd ls).length=s/\AU (AS T ρ m w) w (Cd ls) (ls.map fun l=>l.map fun c=>(BN c).2.eval T) vss.flatten
 |[],_,_,_,h=>absurd rfl h
 |[l],vss,⟨vs,vss',e,ha,hl,hr⟩,hlen,_=>by
  subst e;rw[show vss'=[] from hr];refine⟨by simp[Cd,hlen l (by simp)],?_⟩;simpa [Cd] using AU.one ha hl
 |l::l2::ls,vss,⟨vs,vss',e,ha,hl,hr⟩,hlen,_=>by
  subst e;obtain⟨e2,e3⟩:=Nf hs hr (fun x hx=>hlen x (by simp[hx])) (by simp);have hl1:(l.map fun c=>(BN c).1).length=s:=by simp[hlen l (by simp)]
  have hll:(l.map fun c=>(BN c).1).length=(Cd (l2::ls)).length:=by rw[hl1,e2]
  have e4:Cd (l::l2::ls)=Kd.joins (l.map fun c=>(BN c).1) (Cd (l2::ls)):=rfl;refine⟨by rw[e4,Kd.joins_len _ _ hll,hl1],?_⟩;have hne:(l.map fun c=>(BN c).1)≠[]:=fun h=>by rw[h] at hl1;simp at hl1;omega
  have hne2:Cd (l2::ls)≠[]:=fun h=>by rw[h] at e2;simp at e2;omega
  have:=(AU.one ha hl).app e3 (fun h=>absurd h hne) hne2 (fun _=>hll);have e5:Fc (l.map fun c=>(BN c).1) (Cd (l2::ls))=Cd (l::l2::ls):=by
   rw[e4];generalize (l.map fun c=>(BN c).1)=k1 at*;generalize Cd (l2::ls)=k2 at*;cases k1 with
   |nil=>exact absurd rfl hne
   |cons a b=>cases k2 with
    |nil=>exact absurd rfl hne2
    |cons c d=>rfl
  rw[e5] at this;simpa using this
theorem NC {s:Nat}:∀(ls:List (List Rf)),(∀l∈ls,l.length=s)->DM s ls.length (ls.flatten.map (Rf.eval T))=ls.map fun l=>l.map (Rf.eval T)
 |[],_=>rfl
 |l::ls,h=>by
  have h1:=h l (by simp);have:=NC ls (fun x hx=>h x (by simp[hx]));simp only[wQ,DM,List.flatten_cons,v7,wG];rw[List.take_left' (by simpa using h1),List.drop_left' (by simpa using h1),this]
theorem Oh {s:Nat}:∀{vss:List (List Value)},(∀v∈vss,v.length=s)->vss.flatten.length=vss.length*s
 |[],_=>by simp
 |v::vss,h=>by
  have:=Oh (vss:=vss) (fun x hx=>h x (by simp[hx]));simp[this,h v (by simp),wS,Nat.add_comm]
theorem Mn (s:Nat):∀(vals:List (Nat × Value)) (vss:List (List Value)) (k:Nat) (cur:List Value),vals.length=vss.length->(∀(j i:Nat) (v:Value) (vs:List Value),vals[j]? =some (i,v)->vss[j]? =some vs->i=k+j/\v.cells=vs.toArray)->
  (∀v∈vss,v.length=s)->cur.length=(k+vss.length)*s->
  Instr.fill (fun i=>some (i*s,s)) cur.toArray vals=some (cur.take (k*s)++vss.flatten).toArray
 |[],[],k,cur,_,_,_,hc=>by
  simp only[Instr.fill,List.flatten_nil,List.append_nil];rw[List.take_of_length_le (by simp at hc;omega)]
 |[],_::_,_,_,h,_,_,_=>by simp at h
 |_::_,[],_,_,h,_,_,_=>by simp at h
 |(i,v)::vals,vs::vss,k,cur,hl,hh,hs,hc=>by
  obtain⟨hi,hv⟩:=hh 0 i v vs rfl rfl;simp at hi;subst hi;have h1:=hs vs (by simp);have hc':cur.length=i*s+s+vss.length*s:=by
   rw[hc,wQ,wS,wS,Nat.one_mul];omega
  simp only[Instr.fill];rw[if_neg]
  .rw[VH cur.toArray (i*s) v vs hv (by simp;omega)];have:=Mn s vals vss (i+1) (BF cur (i*s) vs) (by simpa using hl) (fun j i' v' vs' q1 q2=>by
    have:=hh (j+1) i' v' vs' (by simpa using q1) (by simpa using q2);exact⟨by omega,this.2⟩) (fun x hx=>hs x (by simp[hx])) (by
     simp only[BF,wC,wb,List.length_drop];rw[wS,wS,Nat.one_mul];omega)
   rw[show (cur.toArray).toList=cur from rfl,this];congr 2;have e:(BF cur (i*s) vs).take ((i+1)*s)=cur.take (i*s)++vs:=by
    unfold BF;rw[wS,Nat.one_mul];apply List.take_left';simp;omega
   rw[e];simp
  .intro h5;simp only[hv,List.size_toArray,wU,decide_eq_true_eq] at h5;rcases h5 with h5|h5
   .exact h5 h1
   .omega
theorem XN {evs:List (AC × Value)}{ls:List (List AC)}(hev:∀p∈evs,AA T n ρ m w p.1 p.2)(h:evs.mapM (fun p=>p.1.cellsOf)=some ls):
  ∃vss,Ny T n ρ m w ls vss/\vss.length=evs.length/\(∀(j:Nat) (p:AC × Value) (vs:List Value),evs[j]? =some p->vss[j]? =some vs->p.2.cells=vs.toArray)/\(∀(j:Nat) (l:List AC) (vs:List Value),ls[j]? =some l->vss[j]? =some vs->vs.length=l.length):=by
 induction evs generalizing ls with
 |nil=>simp at h;subst h;exact⟨[],rfl,rfl,fun j p vs h=>by simp at h,fun j l vs h=>by simp at h⟩
 |cons p evs ih=>
  simp only[List.mapM_cons,vq,Option.pure_def,vn] at h;obtain⟨l,h1,ls',h2,h3⟩:=h;cases h3;obtain⟨vs,e1,e2,e3,_⟩:=CC h1 (hev p (by simp));obtain⟨vss,f1,f2,f3,f4⟩:=ih (fun q hq=>hev q (by simp[hq])) h2;refine⟨vs::vss,⟨vs,vss,rfl,e3,e2,f1⟩,by simp[f2],fun j q us hq hu=>?_,fun j q us hq hu=>?_⟩
  .cases j with
   |zero=>simp at hq hu;subst hq;subst hu;exact e1
   |succ j=>exact f3 j q us (by simpa using hq) (by simpa using hu)
  .cases j with
   |zero=>simp at hq hu;subst hq;subst hu;exact e2.length
   |succ j=>exact f4 j q us (by simpa using hq) (by simpa using hu)
theorem K8 {t:TypeId}{len:Nat}{a:Act}{o:Oper}{ev:Operand->AC}{parts:Array (Nat × Operand)}(h:EU P t len (parts.toList.map fun (i,x)=>(i,ev x)) m g=some r)(hnew:New T g.n r.us)(hm:AD T g.n ρ m w)
  (ho:o.op= .buildSlice t len parts) (hev:∀x,AA T g.n ρ m w (ev x) (a.eval x)):BC T g ρ m w ((execOp a.eval o).run P w) r:=by
 unfold EU at h;split at h
 .rename_i e hu;simp only[vq,vn] at h;obtain⟨i,hi,z,hz,h⟩:=h;split at h
  .rename_i hc;obtain⟨hidx,hpos,hlen0,hbig⟩:=hc;have hidx:=Et _ _ hidx;simp only[vn] at h;obtain⟨ls,hls,h⟩:=h;split at h
   .rename_i hall;cases h;have hls':((parts.toList.map fun (p:Nat × Operand)=>(ev p.2,a.eval p.2))).mapM (fun p=>p.1.cellsOf)=some ls:=by
     rw[List.mapM_map] at hls⊢;exact hls
    obtain⟨vss,f1,f2,f3,f4⟩:=XN (T:=T) (n:=g.n) (ρ := ρ) (m:=m) (w:=w) (by
     intro p hp;simp only[List.mem_map] at hp;obtain⟨p',_,rfl⟩:=hp;exact hev p'.2) hls'
    simp only[List.length_map] at f2;have hplen:parts.toList.length=len:=by
     have:=congrArg List.length hidx;simpa using this
    have hlsl:ls.length=len:=by
     have:=(Dl _ _ _ hls).1;simpa [hplen] using this
    have hlall:∀l∈ls,l.length=i.size:=fun l hl=>by simpa using wR.1 hall l hl
    have hvall:∀v∈vss,v.length=i.size:=by
     intro v hv;obtain⟨j,hj⟩:=List.getElem?_of_mem hv;have hjl:j < ls.length:=by rw[hlsl,<-hplen,<-f2];exact (vu.1 hj).1
     rw[f4 j _ v (vt hjl) hj];exact hlall _ (List.getElem_mem hjl)
    have hlsne:ls≠[]:=fun h=>by rw[h] at hlsl;simp at hlsl;omega
    obtain⟨c2,c3⟩:=Nf hpos f1 hlall hlsne;have hT:T g.n= .list (ls.map fun l=>l.map fun c=>(BN c).2.eval T):=by
     have e1:=hnew.head;have e2:=NC (T:=T) (s:=i.size) (ls.map fun l=>l.map fun c=>(BN c).2) (fun l hl=>by
      simp only[List.mem_map] at hl;obtain⟨l',hl',rfl⟩:=hl;simp[hlall l' hl'])
     rw[e1];simp only[Ex.eval,Tv,Ps];simp only[List.length_map,hlsl] at e2;rw[e2];simp[List.map_map,Function.comp_def]
    have hfl:=Oh hvall;rw[f2,hplen] at hfl;have hcne:Cd ls≠[]:=fun h=>by rw[h] at c2;simp at c2;omega
    have hzl:∀zs:Array Value,((Array.range (len*i.size)).map (fun x=>zs[x % zs.size]!)).toList.length=(0+vss.length)*i.size:=by
     intro zs;simp[f2,hplen]
    have hfill:∀zs:Array Value,Instr.fill (fun j=>some (j*i.size,i.size)) ((Array.range (len*i.size)).map (fun x=>zs[x % zs.size]!)) (parts.map fun (j,x)=>(j,a.eval x)).toList=some vss.flatten.toArray:=by
     intro zs;have:=Mn i.size (parts.map fun (j,x)=>(j,a.eval x)).toList vss 0 ((Array.range (len*i.size)).map (fun x=>zs[x % zs.size]!)).toList (by simp[f2]) (fun j k v vs q1 q2=>by
      simp only[Array.toList_map,wW,wK] at q1;obtain⟨⟨p1,p2⟩,e1,e2⟩:=q1;cases e2;refine⟨?_,f3 j (ev p2,a.eval p2) vs (by simp only[wW,e1,Option.map_some]) q2⟩;have e3:(parts.toList.map fun (p:Nat × Operand)=>(p.1,ev p.2)).map (·.1)=parts.toList.map (·.1):=by simp
      have e4:=hidx;rw[e3] at e4;have e5:(parts.toList.map (·.1))[j]? =some p1:=by simp only[wW,e1,Option.map_some]
      rw[e4] at e5;have hjl:j < len:=by rw[<-hplen];exact (vu.1 e1).1
      simp[hjl] at e5;omega) hvall (hzl zs)
     rw[Array.toArray_toList] at this;rw[this];simp
    have hsz0:¬(len*i.size=0):=by
     intro h;rcases Nat.mul_eq_zero.1 h with h|h<;>omega
    have hrun:(execOp a.eval o).run P w= .ok (.value (.slice (some ⟨w.heap.size,0,none⟩) len len)) (w.alloc (.cells vss.flatten.toArray e)):=by
     have hb:¬(len*i.size > 2 ^ 24):=by omega
     simp only[execOp,ho,Instr.buildSlice,Sem.run_bind,run_underlying hu,Result.andThen_ok,BD hi,Sem.run_ite,hb,if_false,hsz0,Fq hi hz,Sem.run_pure,hfill];simp[newRow]
    have hll:(ls.map fun l=>l.map fun c=>(BN c).2.eval T).length=len:=by simp[hlsl]
    obtain⟨ρ',k1,k2,k3⟩:=Qt (e:=e) (n':=g.n+1) hm (by omega) hcne c3 (by rw[hll];simp only[AF];have:len<=len*i.size:=Nat.le_mul_of_pos_right _ hpos;omega) hT (.inl rfl) (all:=vss.flatten.toArray) (cap:=len) (fun p _=>by simp) (by rw[hll];exact vr _) (by simp only[List.size_toArray];rw[hfl,c2];exact vr _);rw[hll] at k3;exact⟨_,_, ρ',.inl hrun,k1,k2,k3⟩
   .cases h
  .split at h
   .rename_i hc;obtain⟨rfl,hp0,hpos⟩:=hc;simp only[vn] at h;obtain⟨l,hl,h⟩:=h;split at h
    .rename_i hlen;cases h;have hparts:parts= #[]:=by
      have:parts.toList.length=0:=by simpa using hp0
      exact Array.ext' (List.length_eq_zero_iff.1 this)
     subst hparts;have hT:T g.n= .list []:=by rw[hnew.head];rfl
     have hne:(l.map fun c=>(BN c).1)≠[]:=fun h=>by
      have:=congrArg List.length h;simp at this;rw[this] at hlen;simp at hlen;omega
     obtain⟨ρ',k1,k2,k3⟩:=Qt (e:=e) (n':=g.n+1) hm (by omega) hne (AU.nil _ _) (wX _) hT (.inl rfl) (all:= #[]) (cap:=0) (fun p hp=>by simp at hp) (wX _) (by simp);refine⟨_,_, ρ',.inl ?_,k1,k2,k3⟩;simp[execOp,ho,Instr.buildSlice,run_underlying hu,BD hi,Instr.fill,newRow];exact congrArg (fun q=>w.alloc (Obj.cells q e)) (Array.eq_empty_of_size_eq_zero (by simp))
    .cases h
   .cases h
 .cases h
end
section
variable {P:Program}{T:Tab}{n n':Nat}{ρ ρ':Nat->Option Nat}{m m':Mem}{w w':World}{g:G}{r:R}
theorem OA (hm:AD T n ρ m w)(hnn:n < n'){id y:Nat}{ky ks:List Kd}{e:TypeId}(hid:m.at id= .tok y ky e)(hr:∀j,j≠id-> ρ' j= ρ j)
  (os:w'.os=w.os) (tape:w'.tape=w.tape) (output:w'.output=w.output) (size:w.heap.size<=w'.heap.size)
  (hold:∀k,k < w.heap.size-> ρ id≠some k->w'.heap[k]? =w.heap[k]?)
  (hcell:∀b, ρ id=some b->∀off,off < Bu T y ky->w'.cell? ⟨b,off,none⟩=w.cell? ⟨b,off,none⟩)
  (hb':∀b', ρ' id=some b'->(ρ id=some b'/\Bu T y ky<=Bu T n ks)\/w.heap.size<=b')
  {q:List (List U)} (hT:T n= .list q) (hblk: ρ' id=none\/∃b vs, ρ' id=some b/\w'.heap[b]? =some (.cells vs e (0,0))/\q.length*ks.length<=vs.size/\∀off,T.fr b off):
  AE T n ρ m w ρ' (m.set id (.tok n ks e)) w'/\AD T n' ρ' (m.set id (.tok n ks e)) w':=by
 have hne:m.at id≠ .pad:=by rw[hid];exact fun h=>by cases h
 have hat:∀j,Mem.at (m.set id (.tok n ks e)) j=if j=id then .tok n ks e else m.at j:=fun j=>DI m id (.tok n ks e) j hne
 have htr:(m.at id).tracked=true:=by rw[hid];rfl
 have hs:AE T n ρ m w ρ' (m.set id (.tok n ks e)) w':={
  os:=os
  tape:=tape
  output:=output
  size:=size
  mlen:=fun j h=>by rw[hat j];split<;>first|exact (fun h=>by cases h)|exact h
  rho:=fun j h=>by
   have hj:j≠id:=fun e'=>by subst e';rw[hid] at h;cases h
   rw[hat j,if_neg hj];exact⟨hr j hj,h⟩
  untr:=fun j h ht=>by
   rw[hat j] at ht;split at ht
   .rename_i he;subst he;exact htr
   .exact ht
  fresh:=fun j b h ht hb=>by
   rw[hat j] at ht;split at ht
   .rename_i he;subst he;exact absurd h hne
   .rw[h] at ht;cases ht
  old:=fun k hk hno=>hold k hk (hno id htr)
  tok:=fun j x kx e' h=>by
   by_cases hj:j=id
   .subst hj;rw[hid] at h;cases h;exact .inr ⟨hcell,.inr ⟨n,ks,e,by rw[hat j,if_pos rfl],vr _,hb'⟩⟩
   .refine .inl ⟨by rw[hat j,if_neg hj];exact h,hr j hj,fun b hb=>hold b (hm.lt (by rw[h];rfl) hb) (fun he=>?_)⟩;exact hj (hm.inj j id b (by rw[h];rfl) htr hb he)
  row:=fun j x y' kx e' h=>by
   have hj:j≠id:=fun e'=>by subst e';rw[hid] at h;cases h
   refine .inr ⟨x,y',kx,by rw[hat j,if_neg hj];exact h,rfl,.inl ⟨rfl,hr j hj,fun b vs hb hv=>⟨vs,?_,rfl⟩⟩⟩;rw[hold b (hm.lt (by rw[h];rfl) hb) (fun he=>hj (hm.inj j id b (by rw[h];rfl) htr hb he))];exact hv }
 refine⟨hs,⟨fun j=>?_,fun j j' b ht ht' h1 h2=>?_,fun b off h=>hm.fr b off (wI hs.size h)⟩⟩
 .by_cases hj:j=id
  .subst hj;rw[hat j,if_pos rfl];exact⟨hnn,q,hT,hblk⟩
  .by_cases ht:(m.at j).tracked=true
   .refine BB.step hs hm (by omega) (by rw[hat j,if_neg hj]) (hr j hj) (fun b hb=>hold b (hm.lt ht hb) (fun he=>hj (hm.inj j id b ht htr hb he)))
   .rw[hat j,if_neg hj];cases hx:m.at j with
    |pad=>trivial
    |gone=>trivial
    |cells=>rw[hx] at ht;exact absurd rfl ht
    |lp=>rw[hx] at ht;exact absurd rfl ht
    |tok=>rw[hx] at ht;exact absurd rfl ht
    |mrow=>rw[hx] at ht;exact absurd rfl ht
    |mapb=>rw[hx] at ht;exact absurd rfl ht
 .have tr:∀k,(Mem.at (m.set id (.tok n ks e)) k).tracked=true->(m.at k).tracked=true:=fun k hk=>by
   rw[hat k] at hk;split at hk
   .rename_i he;subst he;exact htr
   .exact hk
  have one:∀j b,(m.at j).tracked=true->j≠id-> ρ' j=some b-> ρ' id=some b->False:=by
   intro j b ht hj h1 h2;rw[hr j hj] at h1;rcases hb' b h2 with⟨h3,_⟩|h3
   .exact hj (hm.inj j id b ht htr h1 h3)
   .have:=hm.lt ht h1;omega
  by_cases hj:j=id
  .by_cases hj':j'=id
   .rw[hj,hj']
   .subst hj;exact (one j' b (tr j' ht') hj' h2 h1).elim
  .by_cases hj':j'=id
   .subst hj';exact (one j b (tr j ht) hj h1 h2).elim
   .rw[hr j hj] at h1;rw[hr j' hj'] at h2;exact hm.inj j j' b (tr j ht) (tr j' ht') h1 h2
theorem Uc (hm:AD T n ρ m w)(hnn:n < n'){e:TypeId}{ks:List Kd}{l:List (List U)}{a:Option Addr}(hT:T n= .list l)(hv:AM (AS T ρ m w) w (.list ks) (.list l) (.slice a l.length l.length)):
  ∃ ρ',AE T n ρ m w ρ' (m++[.tok n ks e]) w/\AD T n' ρ' (m++[.tok n ks e]) w/\AA T n' ρ' (m++[.tok n ks e]) w (.vec m.length n ks) (.slice a l.length l.length):=by
 let ρ':Nat->Option Nat:=fun j=>if j=m.length then none else ρ j
 have same: ρ' m.length=none:=by simp[ρ']
 have other:∀j,j≠m.length-> ρ' j= ρ j:=fun j h=>by simp[ρ',h]
 have hfree:m.at m.length= .pad:=Mem.at_ge (vr _);have hs:AE T n ρ m w ρ' (m++[.tok n ks e]) w:={
  os:=rfl
  tape:=rfl
  output:=rfl
  size:=vr _
  mlen:=fun id h=>by rw[AN];split<;>first|exact (fun h=>by cases h)|exact h
  rho:=fun id h=>by
   have:id≠m.length:=fun e=>by subst e;exact A7 h hfree
   rw[AN,if_neg this];exact⟨other _ this,h⟩
  untr:=fun id h ht=>by
   have:id≠m.length:=fun e=>by subst e;exact h hfree
   rw[AN,if_neg this] at ht;exact ht
  fresh:=fun id b h ht hr=>by
   by_cases e:id=m.length
   .subst e;rw[same] at hr;cases hr
   .rw[AN,if_neg e,h] at ht;cases ht
  old:=fun k hk _=>rfl
  tok:=fun id y ky e h=>by
   have:id≠m.length:=fun e=>by subst e;rw[hfree] at h;cases h
   exact .inl ⟨by rw[AN,if_neg this];exact h,other _ this,fun b hb=>rfl⟩
  row:=fun id x' y' ky e h=>by
   have:id≠m.length:=fun e=>by subst e;rw[hfree] at h;cases h
   exact .inr ⟨x',y',ky,by rw[AN,if_neg this];exact h,rfl,.inl ⟨rfl,other _ this,fun b vs hb hv=>⟨vs,hv,rfl⟩⟩⟩ }
 have hat:Mem.at (m++[.tok n ks e]) m.length= .tok n ks e:=by rw[AN,if_pos rfl]
 refine⟨ρ',hs,⟨fun id=>?_,fun id id' b ht ht' hr hr'=>?_,fun b off h=>hm.fr b off h⟩,hnn,by rw[hat];exact (fun h=>by cases h),?_,fun ks' e' he'=> .inl ⟨same,a,by rw[hT];rfl⟩⟩
 .by_cases he:id=m.length
  .subst he;rw[hat];exact⟨hnn,_,hT,.inl same⟩
  .by_cases ht:(m.at id).tracked=true
   .exact BB.step hs hm (by omega) (by rw[AN,if_neg he]) (other _ he) (fun b hb=>rfl)
   .rw[AN,if_neg he];cases hx:m.at id with
    |pad=>trivial
    |gone=>trivial
    |cells=>rw[hx] at ht;exact absurd rfl ht
    |lp=>rw[hx] at ht;exact absurd rfl ht
    |tok=>rw[hx] at ht;exact absurd rfl ht
    |mrow=>rw[hx] at ht;exact absurd rfl ht
    |mapb=>rw[hx] at ht;exact absurd rfl ht
 .by_cases he:id=m.length
  .subst he;rw[same] at hr;cases hr
  .by_cases he':id'=m.length
   .subst he';rw[same] at hr';cases hr'
   .rw[AN,if_neg he] at ht;rw[AN,if_neg he'] at ht';rw[other _ he] at hr;rw[other _ he'] at hr';exact hm.inj id id' b ht ht' hr hr'
 .rw[hT];exact AM.mono (fun _ _ h=>hs.safe0 h) _ _ _ hv
theorem RC (hm:AD T n ρ m w)(hnn:n < n'){e:TypeId}{ks:List Kd}(hT:T n= .list []):
  ∃ ρ',AE T n ρ m w ρ' (m++[.tok n ks e]) w/\AD T n' ρ' (m++[.tok n ks e]) w/\AA T n' ρ' (m++[.tok n ks e]) w (.vec m.length n ks) (.slice none 0 0):=
 Uc hm hnn hT (Fg _ _)
theorem Cy {t ty e:TypeId}{i:TypeInfo}(ht:P.underlying t=some (.slice e))(hi:P.info? e=some i)(base a:Option Addr)(sLen sCap c:Nat)(h:sLen<=sCap):
  (Builtin.append_ #[t,t] ty #[.slice base sLen sCap,.slice a 0 c]).run P w= .ok (.slice base sLen sCap) w:=by
 have hf:(Builtin.firstCells i.size 0 (.slice a 0 c)).run P w= .ok #[] w:=by
  cases a with
  |none=>simp[Builtin.firstCells]
  |some a=>simp[Builtin.firstCells,loadCells,loadCellsFrom]
 cases base<;>simp[Builtin.append_,run_underlying ht,sizeOf,typeInfo,hi,Builtin.lenOf,h,hf,storeCells]
theorem LB (vs:List Value)(z:Array Value)(p:Nat)(h:p < vs.length):(vs.toArray++z)[p]? =vs[p]? :=by
 rw[Array.getElem?_append_left (by simpa using h)];simp
theorem KI (hm:AD T n ρ m w)(hs:AE T n ρ m w ρ' m' w')(hm':AD T n' ρ' m' w')(hnn:n < n'){id b cap:Nat}{e:TypeId}{ks:List Kd}{l:List (List U)}{vs:List Value}{all:Array Value}(hne:ks≠[])
  (hid:m'.at id= .tok n ks e) (hr: ρ' id=some b) (hfr:∀p,p < l.length*ks.length->T.fr b p) (hv:AU (AS T ρ m w) w ks l vs) (hk:l.length<=AF) (hT:T n= .list l) (hblk:w'.heap[b]? =some (.cells all e (0,0)))
  (hall:∀p,p < l.length*ks.length->all[p]? =vs[p]?) (hcap:l.length<=cap) (hsz:cap*ks.length<=all.size):
  AA T n' ρ' m' w' (.vec id n ks) (.slice (some ⟨b,0,none⟩) l.length cap):=by
 have hpr:Bu T n ks=l.length*ks.length:=by simp[Bu,hT,U.toL]
 refine⟨hnn,by rw[hid];exact (fun h=>by cases h),⟨l,hT,hk,fun h=>absurd h hne,some ⟨b,0,none⟩,cap,rfl,hcap,fun _=>⟨b,0,rfl,?_⟩⟩,fun ks' e' he'=>?_⟩
 .refine hv.holds (o:=0) (fun b off ho=>hs.safe hm ho) (fun p hp=>⟨?_,?_⟩)
  .rw[v8];refine Tq (vx.1 hblk).1 (hfr p hp) hid hr (fun id' ht' hr'=>hm'.inj id' id b ht' (by rw[hid];rfl) hr' hr) (by rw[hpr];exact hp)
  .simp only[World.cell?,hblk,v8];exact hall p hp
 .rw[hid] at he';cases he';exact .inr ⟨b,cap,all,hr,by simp[hT,U.toL],hblk,hsz⟩
end
section
variable {P:Program}{T:Tab}{n n':Nat}{ρ ρ':Nat->Option Nat}{m m':Mem}{w w':World}{g:G}{r:R}
theorem Yq {k b:Nat}(hb:0 < b)(h:k*b<=140737488355328):k<=AF/\(k:Int)<=9223372036854775807:=by
 have:k<=k*b:=Nat.le_mul_of_pos_right _ hb;simp only[AF];omega
theorem Qe {k1 k2:List Kd}{s:Nat}(hs:0 < s)(h2:k2.length=s)(h1:k1.length=s):(Fc k1 k2).length=s:=by
 cases k1 with
 |nil=>simp at h1;omega
 |cons a k1=>
  cases k2 with
  |nil=>simp at h2;omega
  |cons b k2=>
   simp only[Fc];rw[Kd.joins_len _ _ (by omega)];exact h1
theorem Gk {ok:Nat->Nat->Prop}{ks:List Kd}{u:U}{v:Value}(h:AM ok w (.list ks) u v):
  ∃l a cap,u= .list l/\v= .slice a l.length cap/\l.length<=cap/\(ks=[]->l=[])/\∃vs,AU ok w ks l vs/\(0 < l.length->∃b o,a=some ⟨b,o,none⟩/\∀j u,vs[j]? =some u->w.cell? ⟨b,o+j,none⟩=some u):=by
 obtain⟨l,h0,_,hk,a,cap,h1,h2,h3⟩:=h;refine⟨l,a,cap,h0,h1,h2,hk,?_⟩;rcases Nat.eq_zero_or_pos l.length with hl|hl
 .have:l=[]:=List.length_eq_zero_iff.1 hl;subst this;exact⟨[],AU.nil _ _,fun h=>by simp at h⟩
 .obtain⟨b,o,h4,h5⟩:=h3 hl;obtain⟨vs,h6,h7⟩:=AU.of_holds h5;exact⟨vs,h6,fun _=>⟨b,o,h4,h7⟩⟩
def Src (T:Tab)(ρ :Nat->Option Nat)(m:Mem)(w:World)(ks:List Kd)(u:U)(v:Value):Prop:=
 ∃l a cap,u= .list l/\v= .slice a l.length cap/\l.length<=cap/\(ks=[]->l=[])/\∃vs,AU (AS T ρ m w) w ks l vs/\(0 < l.length->∃b o,a=some ⟨b,o,none⟩/\∀j u,vs[j]? =some u->w.cell? ⟨b,o+j,none⟩=some u)
theorem XY {ts:Array TypeId}{s:AC}{k2:List Kd}{r2:Rf}{v u:Value}(h:Xt P ts s k2 r2 m g=some r)(hnew:New T g.n r.us)(hps:∀q∈r.ps,q.holds T)(hm:AD T g.n ρ m w)(hs:AA T g.n ρ m w s v)(hx:Src T ρ m w k2 (r2.eval T) u)(ty:TypeId):
  ∃z w' ρ',(Builtin.append_ ts ty #[v,u]).run P w= .ok z w'/\AE T g.n ρ m w ρ' r.m w'/\AD T (g.n+r.us.length) ρ' r.m w'/\AA T (g.n+r.us.length) ρ' r.m w' r.c z:=by
 unfold Xt at h;simp only[vq,vn] at h;obtain⟨t,ht0,h⟩:=h;split at h
 .rename_i e ht;simp only[vn] at h;obtain⟨i,hi,z,hz,⟨k1,r1⟩,hr1,h⟩:=h;simp only at h;split at h
  .rename_i hc;obtain⟨hts,hsz,hby,h2l,happ,hzs⟩:=hc;obtain rfl:ts= #[t,t]:=by
    have:=Et _ _ hts;exact Array.ext' this
   have ho1:=EV hr1 hs;obtain⟨l2,a2,c2,el2,rfl,_,_,vs2,e2,e2'⟩:=hx;have hlen2:vs2.length=l2.length*i.size:=by rw[e2.len,h2l]
   cases s<;>try simp only at h
   case cv cc=>
    cases cc<;>try simp only at h
    case nilSlice=>
     cases h;simp only[IH] at hr1;cases hr1;have hv:v= .slice none 0 0:=hs;subst hv;have hT:T g.n= .list l2:=by
      have:=hnew.head;rw[this];simp[Ex.eval,PA,u0,u1,evc,el2,U.toL]
     have hfit:=hps ⟨ "fits " ++toString i.bytes,Fo i.bytes,[.c (.list []),r2]⟩ (by simp);simp only[Pr.holds,Fo,u0,u1,wG,wa,evc,el2,U.toL,List.length_nil,v8] at hfit;have hb:=Yq hby hfit;have hks:Fc [] k2=k2:=rfl;rcases Nat.eq_zero_or_pos l2.length with hk|hk
     .have:l2=[]:=List.length_eq_zero_iff.1 hk;subst this;obtain⟨ρ',f1,f2,f3⟩:=RC (n':=g.n+1) (e:=e) (ks:=Fc [] k2) hm (by omega) hT;exact⟨_,w, ρ',Cy ht hi none a2 0 0 c2 (vr _),f1,f2,f3⟩
     .obtain⟨b,o,rfl,hcell⟩:=e2' hk;have hrun:=run_append_nil (P:=P) w t ty e i z ht hi hz ⟨b,o,none⟩ l2.length c2 vs2 hlen2 (fun j y hj=>by rw[Br];exact hcell j y hj) hk hb.2 (by omega);have hcap:=grownCap_ge w l2.length 0 e;have hne:k2≠[]:=fun h=>by rw[h] at h2l;simp at h2l;omega
      obtain⟨ρ',f1,f2,f3⟩:=Qt (e:=e) (n':=g.n+1) hm (by omega) hne e2 hb.1 hT (.inr rfl) (all:=vs2.toArray++Builtin.zeroCells z.cells (grownCap w l2.length 0 e - l2.length)) (cap:=grownCap w l2.length 0 e)
       (fun p hp=>LB vs2 _ p (by rw[e2.len];exact hp)) hcap (by
        simp only[Array.size_append,List.size_toArray,size_zeroCells,hzs,hlen2,h2l];rw[<-wS];exact wO _ (by omega))
      exact⟨_,_, ρ',hrun,f1,f2,f3⟩
    all_goals cases h
   case vec id y kv=>
    split at h
    .rename_i y' k1' e' hid;split at h
     .rename_i hc;obtain⟨rfl,rfl,h1l,hkk⟩:=hc;have:=Kd.beqs_eq _ _ hkk;subst this;cases h;simp only[IH] at hr1;cases hr1;obtain⟨hyn,hne0,hro1,hlink⟩:=hs;obtain⟨l1,a1,c1,el1,hv1,hle1',hnil1,vs1,e1,e1a⟩:=Gk hro1;have hTn:T g.n= .list (l1++l2):=by
       rw[hnew.head];simp[Ex.eval,PA,u0,u1,eve,el1,el2,U.toL]
      have hfit:=hps ⟨ "fits " ++toString i.bytes,Fo i.bytes,[.e y,r2]⟩ (by simp);simp only[Pr.holds,Fo,u0,u1,wG,wa,eve,el1,el2,U.toL] at hfit;have hb:=Yq hby hfit;have hpr1:Bu T y k1=l1.length*k1.length:=by simp[Bu,el1,U.toL]
      have hne:k2≠[]:=fun h=>by rw[h] at h2l;simp at h2l;omega
      have hne1:k1≠[]:=fun h=>by rw[h] at h1l;simp at h1l;omega
      have e1':∀b cap,v= .slice (some ⟨b,0,none⟩) l1.length cap->∀j x,vs1[j]? =some x->w.cell? ⟨b,0+j,none⟩=some x:=by
       intro b cap hv' j x hj;rw[hv1] at hv';cases hv';have hk1:0 < l1.length:=by
        have h9:=(vu.1 hj).1;rw[e1.len] at h9;rcases Nat.eq_zero_or_pos l1.length with h0|h0
        .rw[h0] at h9;simp at h9
        .exact h0
       obtain⟨b',o',he,hcell⟩:=e1a hk1;cases he;exact hcell j x hj
      have hrow:=e1.app e2 hnil1 hne (fun _=>by omega);have hcs:=Qe hsz h2l h1l;generalize hksd:Fc k1 k2=ks at*;have hcne:ks≠[]:=fun h=>by rw[h] at hcs;simp at hcs;omega
      have hlen1:vs1.length=l1.length*i.size:=by rw[e1.len,h1l]
      have hlapp:(l1++l2).length=l1.length+l2.length:=wC;have hprn:Bu T g.n ks=(l1.length+l2.length)*i.size:=by simp[Bu,hTn,U.toL,hcs]
      have hle:Bu T y k1<=Bu T g.n ks:=by rw[hpr1,hprn,h1l];exact wO _ (by omega)
      have hat:Mem.at (m.set id (.tok g.n ks e)) id= .tok g.n ks e:=by rw[DI m id _ id hne0,if_pos rfl]
      have htr:(m.at id).tracked=true:=by rw[hid];rfl
      rcases hlink k1 e hid with⟨hnone,a0,hv0⟩|⟨b,cap,cur,hsome,rfl,hblk,hcur⟩
      .
       have hTl0:(T y).toL=l1:=by rw[el1];rfl
       rw[hTl0] at hv0;obtain⟨rfl,rfl⟩:a0=a1/\c1=l1.length:=by rw[hv0] at hv1;cases hv1;exact⟨rfl,rfl⟩
       subst hv0;rcases Nat.eq_zero_or_pos l2.length with hk|hk
       .have:l2=[]:=List.length_eq_zero_iff.1 hk;subst this;have hv2:vs2=[]:=by simpa using hlen2
        subst hv2;simp only[List.append_nil,List.length_nil,Nat.add_zero] at*;obtain⟨f1,f2⟩:=OA (ρ':= ρ) (w':=w) (n':=g.n+1) (ks:=ks) hm (by omega) hid (fun _ _=>rfl) rfl rfl rfl (vr _) (fun _ _ _=>rfl) (fun _ _ _ _=>rfl) (fun b' hb'=>by rw[hnone] at hb';cases hb') hTn (.inl hnone);refine⟨_,w, ρ,Cy ht hi a0 a2 l1.length l1.length c2 (vr _),f1,f2,?_⟩;refine⟨by simp,by rw[hat];exact (fun h=>by cases h),?_,fun ks'' e'' he''=> .inl ⟨hnone,a0,by rw[hTn];rfl⟩⟩;rw[hTn];refine⟨l1,rfl,hb.1,fun h=>absurd h hcne,a0,l1.length,rfl,vr _,fun hp=>?_⟩;obtain⟨b1,o1,hb1,hcell1⟩:=e1a hp;refine⟨b1,o1,hb1,?_⟩;obtain⟨l',h0',_,_,a',c',h1',_,h3'⟩:=hro1;rw[el1] at h0';cases h0';cases h1';obtain⟨b',o',h4',h5'⟩:=h3' hp;rw[hb1] at h4';cases h4';intro i' us' hi';have h6':=h5' i' us' hi';have hkl:k1.length=k2.length:=by omega
        have hks:ks=Kd.joins k1 k2:=by
         rw[<-hksd];cases k1 with
         |nil=>exact absurd rfl hne1
         |cons=>cases k2 with
          |nil=>exact absurd rfl hne
          |cons=>rfl
        have h7':=Kd.joins_l k1 k2 hkl _ _ _ h6';have hkl2:ks.length=k1.length:=by rw[hks,Kd.joins_len _ _ hkl]
        rw[<-hks] at h7';rw[hkl2];exact AX.mono (fun _ _ hs=>f1.safe0 hs) _ _ _ _ h7'
       .obtain⟨b2,o2,rfl,hcell⟩:=e2' hk;have hcell':∀j y,vs2[j]? =some y->w.cell? ((⟨b2,o2,none⟩:Addr).add j)=some y:=fun j y hj=>by rw[Br];exact hcell j y hj
        obtain⟨N,all,hrunN,hNge,hallN,hszN⟩:∃N all,(Builtin.append_ #[t,t] ty #[.slice a0 l1.length l1.length,.slice (some ⟨b2,o2,none⟩) l2.length c2]).run P w= .ok (.slice (some ⟨w.heap.size,0,none⟩) (l1.length+l2.length) N) (w.drew.alloc (.cells all e))/\l1.length+l2.length<=N/\
          (∀p,p < (l1.length+l2.length)*i.size->all[p]? =(vs1++vs2)[p]?)/\N*i.size<=all.size:=by
         rcases Nat.eq_zero_or_pos l1.length with h0|h0
         .have hv1':vs1=[]:=by rw[<-List.length_eq_zero_iff,hlen1,h0,Nat.zero_mul]
          subst hv1';rw[h0];cases a0 with
          |none=>
           have hrun:=run_append_nil (P:=P) w t ty e i z ht hi hz ⟨b2,o2,none⟩ l2.length c2 vs2 hlen2 hcell' hk (by have:=hb.2;omega) (by rw[h0,v8] at hfit;omega);have hcap:=grownCap_ge w l2.length 0 e;refine⟨_,_,by rw[v8];exact hrun,by omega,fun p hp=>?_,?_⟩
           .rw[v8] at hp;exact LB vs2 _ p (by rw[hlen2];exact hp)
           .simp only[Array.size_append,List.size_toArray,size_zeroCells,hzs,hlen2];rw[<-wS];exact wO _ (by omega)
          |some a=>
           have hrun:=run_append_grow (P:=P) w t ty e i z ht hi hz a 0 0 [] (by simp) (fun j y hj=>by simp at hj) ⟨b2,o2,none⟩ l2.length c2 vs2 hlen2 hcell' (by omega) (by rw[h0] at hb;exact hb.2) (growslice_fits (by omega) (by rw[h0] at hfit;exact hfit));have hcap:=grownCap_ge w (0+l2.length) 0 e;refine⟨_,_,hrun,hcap,fun p hp=>?_,?_⟩
           .have:=LB ([]++vs2) (Builtin.zeroCells z.cells (grownCap w (0+l2.length) 0 e - (0+l2.length))) p (by simp[hlen2];rw[v8] at hp;exact hp);simpa using this
           .simp only[Array.size_append,List.size_toArray,size_zeroCells,hzs,hlen2,List.length_nil,v8];rw[<-wS];refine wO _ ?_;rw[v8] at hcap;omega
         .obtain⟨b1,o1,rfl,hcell1⟩:=e1a h0;have hrun:=run_append_grow (P:=P) w t ty e i z ht hi hz ⟨b1,o1,none⟩ l1.length l1.length vs1 hlen1 (fun j y hj=>by rw[Br];exact hcell1 j y hj) ⟨b2,o2,none⟩ l2.length c2 vs2 hlen2 hcell' (by omega) hb.2 (growslice_fits (by omega) hfit);have hcap:=grownCap_ge w (l1.length+l2.length) l1.length e;refine⟨_,_,hrun,hcap,fun p hp=>?_,?_⟩
          .have:=LB (vs1++vs2) (Builtin.zeroCells z.cells (grownCap w (l1.length+l2.length) l1.length e - (l1.length+l2.length))) p (by rw[wC,hlen1,hlen2,<-wS];exact hp);simpa using this
          .simp only[Array.size_append,List.size_toArray,size_zeroCells,hzs,hlen1,hlen2];rw[<-wS,<-wS];exact wO _ (by omega)
        have hnew2:=CX w.drew (.cells all e);obtain⟨f1,f2⟩:=OA (ρ':=B5 ρ id w.heap.size) (w':=w.drew.alloc (.cells all e)) (n':=g.n+1) (ks:=ks) hm (by omega) hid (fun j hj=>Ad _ _ _ hj) rfl rfl rfl (by simp)
         (fun k hk _=>At w.drew _ k hk) (fun b' hb' off _=>by rw[hnone] at hb';cases hb') (fun b' hb'=>by rw[Af] at hb';cases hb';exact .inr (vr _)) hTn
         (.inr ⟨w.heap.size,_,Af _ _ _,hnew2,by
          rw[hlapp,hcs];exact wI (wO _ hNge) hszN,fun off=>hm.fr _ off (vr _)⟩)
        refine⟨_,_,_,hrunN,f1,f2,?_⟩;have:=KI (cap:=N) hm f1 f2 (by omega) hcne hat (Af _ _ _) (fun p _=>hm.fr _ p (vr _)) hrow (by rw[hlapp];exact hb.1) hTn hnew2 (fun p hp=>hallN p (by rw[hcs,hlapp] at hp;exact hp)) (by rw[hlapp];exact hNge) (by rw[hcs];exact hszN);rw[hlapp] at this;exact this
      .
       have hTl:(T y).toL=l1:=by rw[el1];rfl
       rw[hTl] at hv1;simp only[hTl];have hle1:l1.length<=cap:=by cases hv1;exact hle1'
       have hfrb:∀off,T.fr b off:=by
        have hbk:=hm.blk id;rw[hid] at hbk;obtain⟨_,lx,_,hbk⟩:=hbk;rcases hbk with q1|⟨b',_,q1,_,_,q4⟩
        .rw[hsome] at q1;cases q1
        .rw[hsome] at q1;cases q1;exact q4
       rw[h1l] at hcur;have hfits:(l1.length+l2.length)<=cap->(l1.length+l2.length)*i.size<=cur.size:=fun h=>wI (wO _ h) hcur;have hcell1:∀j x,vs1[j]? =some x->w.cell? ⟨b,0+j,none⟩=some x:=e1' b cap (by rw[hTl]);have hcur1:∀p,p < vs1.length->cur[p]? =vs1[p]? :=by
        intro p hp;have:=hcell1 p vs1[p] (vt hp);rw[v8] at this;simp only[World.cell?,hblk] at this;rw[vt hp];simpa using this
       rcases Nat.eq_zero_or_pos l2.length with hk|hk
       .have:l2=[]:=List.length_eq_zero_iff.1 hk;subst this;have hv2:vs2=[]:=by simpa using hlen2
        subst hv2;simp only[List.append_nil,List.length_nil,Nat.add_zero] at*;obtain⟨f1,f2⟩:=OA (ρ':= ρ) (w':=w) (n':=g.n+1) (ks:=ks) hm (by omega) hid (fun _ _=>rfl) rfl rfl rfl (vr _) (fun _ _ _=>rfl) (fun _ _ _ _=>rfl) (fun b' hb'=> .inl ⟨hb',hle⟩) hTn
         (.inr ⟨b,cur,hsome,hblk,by rw[hcs];exact hfits (by omega),hfrb⟩)
        refine⟨_,w, ρ,Cy ht hi _ a2 l1.length cap c2 hle1,f1,f2,?_⟩;exact KI (cap:=cap) hm f1 f2 (by omega) hcne hat hsome (fun p _=>hfrb p) hrow hb.1 hTn hblk (fun p hp=>hcur1 p (by rw[hlen1];rw[hcs] at hp;exact hp)) (by omega) (by rw[hcs];exact hcur)
       .obtain⟨b2,o2,rfl,hcell⟩:=e2' hk;have hcell':∀j y,vs2[j]? =some y->w.cell? ((⟨b2,o2,none⟩:Addr).add j)=some y:=fun j y hj=>by rw[Br];exact hcell j y hj
        by_cases hroom:l1.length+l2.length<=cap
        .
         have hfit2:l1.length*i.size+vs2.length<=cur.size:=by
          rw[hlen2,<-wS];exact hfits hroom
         have hrun:=run_append_room (P:=P) w t ty e i ht hi b l1.length cap cur hblk ⟨b2,o2,none⟩ l2.length c2 vs2 hlen2 hcell' e2.ones hroom hfit2;have hnew2:=setRow_heap w b cur (cur.toList.take (l1.length*i.size)++vs2++cur.toList.drop (l1.length*i.size+vs2.length)).toArray e (0,0) hblk;have hget:∀p,p < l1.length*i.size->(cur.toList.take (l1.length*i.size)++vs2++cur.toList.drop (l1.length*i.size+vs2.length)).toArray[p]? =cur[p]? :=by
          intro p hp;simp only[List.getElem?_toArray,wZ];rw[wE (by simp;omega),List.getElem?_take,if_pos hp];simp
         have hsize:(cur.toList.take (l1.length*i.size)++vs2++cur.toList.drop (l1.length*i.size+vs2.length)).toArray.size=cur.size:=by
          simp only[List.size_toArray,wC,wb,List.length_drop,Array.length_toList];omega
         obtain⟨f1,f2⟩:=OA (ρ':= ρ) (w':=w.setRow b (cur.toList.take (l1.length*i.size)++vs2++cur.toList.drop (l1.length*i.size+vs2.length)).toArray) (n':=g.n+1) (ks:=ks) hm (by omega) hid (fun _ _=>rfl) rfl rfl rfl (by simp)
          (fun k _ hk=>Cp w b _ k (fun he=>hk (by rw[he];exact hsome))) (fun b' hb' off ho=>by
           rw[hsome] at hb';cases hb';simp only[World.cell?,hnew2,hblk];exact hget off (by rw[hpr1,h1l] at ho;exact ho)) (fun b' hb'=> .inl ⟨hb',hle⟩) hTn
          (.inr ⟨b,_,hsome,hnew2,by rw[hlapp,hcs,hsize];exact hfits hroom,hfrb⟩)
         refine⟨_,_, ρ,hrun,f1,f2,?_⟩;have:=KI (cap:=cap) hm f1 f2 (by omega) hcne hat hsome (fun p _=>hfrb p) hrow (by rw[hlapp];exact hb.1) hTn hnew2 (fun p hp=>by
          rw[hcs,hlapp] at hp;by_cases hp1:p < l1.length*i.size
          .rw[hget p hp1,hcur1 p (by rw[hlen1];exact hp1),wE (by rw[hlen1];exact hp1)]
          .have hp2:p < l1.length*i.size+vs2.length:=by rw[hlen2,<-wS];exact hp
           simp only[List.getElem?_toArray,wZ];have hmin:(cur.toList.take (l1.length*i.size)).length=l1.length*i.size:=by simp;omega
           rw[wF (by rw[hmin];omega),hmin,wE (by omega),wF (by rw[hlen1];omega),hlen1]) (by rw[hlapp];exact hroom) (by rw[hcs,hsize];exact hcur)
         rw[hlapp] at this;exact this
        .
         have hrun:=run_append_grow (P:=P) w t ty e i z ht hi hz ⟨b,0,none⟩ l1.length cap vs1 hlen1 (fun j y hj=>by rw[Br];exact hcell1 j y hj) ⟨b2,o2,none⟩ l2.length c2 vs2 hlen2 hcell' (by omega) hb.2 (growslice_fits (by omega) hfit);have hcap:=grownCap_ge w (l1.length+l2.length) cap e;have hnew2:=CX w.drew (.cells (vs1.toArray++vs2.toArray++Builtin.zeroCells z.cells (grownCap w (l1.length+l2.length) cap e - (l1.length+l2.length))) e);have hall:(vs1.toArray++vs2.toArray++Builtin.zeroCells z.cells (grownCap w (l1.length+l2.length) cap e - (l1.length+l2.length))).size=(l1.length+l2.length)*i.size+(grownCap w (l1.length+l2.length) cap e - (l1.length+l2.length))*i.size:=by
          simp[size_zeroCells,hzs,hlen1,hlen2,wS]
         have hcapsz:grownCap w (l1.length+l2.length) cap e*i.size<=(vs1.toArray++vs2.toArray++Builtin.zeroCells z.cells (grownCap w (l1.length+l2.length) cap e - (l1.length+l2.length))).size:=by
          rw[hall,<-wS];exact wO _ (by omega)
         have hblt:=hm.lt htr hsome;obtain⟨f1,f2⟩:=OA (ρ':=B5 ρ id w.heap.size) (w':=w.drew.alloc (.cells (vs1.toArray++vs2.toArray++Builtin.zeroCells z.cells (grownCap w (l1.length+l2.length) cap e - (l1.length+l2.length))) e)) (n':=g.n+1) (ks:=ks) hm (by omega) hid (fun j hj=>Ad _ _ _ hj) rfl rfl rfl (by simp)
          (fun k hk _=>At w.drew _ k hk) (fun b' hb' off _=>by rw[hsome] at hb';cases hb';exact BY (At w.drew _ b hblt) off) (fun b' hb'=>by rw[Af] at hb';cases hb';exact .inr (vr _)) hTn
          (.inr ⟨w.heap.size,_,Af _ _ _,hnew2,by
           rw[hlapp,hcs];exact wI (wO _ hcap) hcapsz,fun off=>hm.fr _ off (vr _)⟩)
         refine⟨_,_,_,hrun,f1,f2,?_⟩;have:=KI (cap:=grownCap w (l1.length+l2.length) cap e) hm f1 f2 (by omega) hcne hat (Af _ _ _) (fun p _=>hm.fr _ p (vr _)) hrow (by rw[hlapp];exact hb.1) hTn hnew2 (fun p hp=>by
          have:=LB (vs1++vs2) (Builtin.zeroCells z.cells (grownCap w (l1.length+l2.length) cap e - (l1.length+l2.length))) p (by rw[wC,hlen1,hlen2,<-wS];rw[hcs,hlapp] at hp;exact hp);simpa using this) (by rw[hlapp];exact hcap) (by rw[hcs];exact hcapsz)
         rw[hlapp] at this;exact this
     .cases h
    .cases h
   all_goals cases h
  .cases h
 .cases h
end
section
variable {P:Program}{T:Tab}{ρ :Nat->Option Nat}{m:Mem}{w:World}{g:G}{r:R}
theorem EY (op:BinOp)(t:TypeId)(x y:Operand){a b:Value}(ha:∀cs,a≠ .agg cs)(hi:a≠ .nilIface):(eqGuard op t x y a b).run P w= .ok () w:=by
 unfold eqGuard;cases op<;>simp<;>(split<;>first|rfl|exact absurd rfl hi|exact absurd rfl (ha _)|simp)
theorem eY {n:Nat}{c d:AC}{p q:Bool}{rs:List Rf}(h:ceq c d=some (none,rs))(hb:(G2 c).isSome=true)(hc:AA T n ρ m w c (.bool p))(hd:AA T n ρ m w d (.bool q)):rs.map (Rf.eval T)=[.bool p,.bool q]:=by
 unfold ceq at h;split at h
 .rename_i k1 l1 h1 n1 k2 l2 h2 n2 hx hy;cases c<;>simp[G2] at hb<;>simp[CM] at hx
 .split at h
  .cases h
  .rename_i k1 n1 k2 n2 hne hx hy;obtain⟨i,e1,e2,_⟩:=DR hx hc;obtain⟨j,e3,e4,_⟩:=DR hy hd;cases e1;cases e3;split at h
   .cases h
   .cases h;simp[e2,e4]
  .cases c<;>simp[G2] at hb<;>simp[PI] at h
theorem aq {neg:Bool}{t:TypeId}{c d:AC}{u v:Value}(h:aEq P neg t c d m g=some r)(hnew:New T g.n r.us)(hc:AA T g.n ρ m w c u)(hd:AA T g.n ρ m w d v)(x y:Operand):
  ∃z,(do eqGuard (if neg then .neq else .eql) t x y u v;binOp (if neg then .neq else .eql) t u v:Sem Value).run P w= .ok z w/\r.m=m/\AA T (g.n+r.us.length) ρ m w r.c z:=by
 have fin:∀(k:Option Bool) (rs:List Rf) (b:Bool),(if neg then mkB g m (k.map not) ⟨ "nes",Yd,rs⟩ else mkB g m k ⟨ "eqs",Yx,rs⟩)=r->(∀q,k=some q->b=q)->(k=none->Ec (rs.map (Rf.eval T))=b)->
   r.m=m/\AA T (g.n+r.us.length) ρ m w r.c (.bool (if neg then !b else b)):=by
  intro k rs b hr hk hn;cases neg with
  |true=>
   simp only[if_true] at hr⊢;subst hr;refine⟨N2,JI hnew (fun h=>?_) (fun q hq=>?_)⟩
   .cases k with
    |none=>simp[Ex.eval,Yd,hn rfl]
    |some k=>cases h
   .cases k with
    |none=>cases hq
    |some k=>rw[hk k rfl];simpa using hq
  |false=>
   simp only[wM,if_false] at hr⊢;subst hr;exact⟨N2,JI hnew (fun h=>by simp[Ex.eval,Yx,hn h]) hk⟩
 unfold aEq at h;simp only at h;split at h
 .rename_i l l';obtain⟨us,rfl,hl⟩:=hc;obtain⟨vs,rfl,hl'⟩:=hd;split at h
  .rename_i ks hks;split at h
   .rename_i hcond;simp only[vo,Bool.not_eq_true'] at hcond;simp only[wK] at h;obtain⟨⟨k,rs⟩,h1,h2⟩:=h;obtain⟨b,e1,e2,e3⟩:=W2 h1 hcond.1.2 hl hl';have hval:∀us:List Value,Al P t us= .agg us.toArray:=by
     intro us;have:=hcond.1.1;unfold Bw at this;unfold Al;split at this<;>simp_all
    have hrun:=IZ (P:=P) (w:=w) 12 10000 t ks us vs b (by omega) hks e1;rw[hval,hval] at hrun;obtain⟨f1,f2⟩:=fin k rs b h2 e2 (fun h=>(e3 h).1);refine⟨_,?_,f1,f2⟩;simp only[Sem.run_bind,run_eqGuard_agg w _ t x y us.toArray vs.toArray hcond.2,Result.andThen_ok];cases neg with
    |true=>simp[run_neq_struct,hrun]
    |false=>simp[run_eql_struct,hrun]
   .cases h
  .cases h
 .have e1:u= .pointer none:=hc;have e2:v= .pointer none:=hd;subst e1;subst e2;split at h
  .rename_i e hu;have hp:P.underlying t=some (.pointer (P.pointee t)):=by simp[Program.pointee,hu]
   simp only[Option.map_some,Option.some.injEq] at h;obtain⟨f1,f2⟩:=fin (some true) [] true h (fun q hq=>by cases hq;rfl) (fun h=>by cases h);refine⟨_,?_,f1,f2⟩;simp only[Sem.run_bind,EY _ t x y (a:= .pointer none) (b:= .pointer none) (fun _ h=>by cases h) (fun h=>by cases h),Result.andThen_ok];cases neg with
   |true=>simp[run_neq_pointer_nil w t none hp]
   |false=>simp[run_eql_pointer_nil w t none hp]
  .cases h
 .obtain⟨b,_,e1,_⟩:=hc;have e2:v= .pointer none:=hd;subst e1;subst e2;split at h
  .rename_i e hu;have hp:P.underlying t=some (.pointer (P.pointee t)):=by simp[Program.pointee,hu]
   simp only[Option.map_some,Option.some.injEq] at h;obtain⟨f1,f2⟩:=fin (some false) [] false h (fun q hq=>by cases hq;rfl) (fun h=>by cases h);refine⟨_,?_,f1,f2⟩;simp only[Sem.run_bind,EY _ t x y (a:= .pointer _) (b:= .pointer none) (fun _ h=>by cases h) (fun h=>by cases h),Result.andThen_ok];cases neg with
   |true=>simp[run_neq_pointer_nil w t _ hp]
   |false=>simp[run_eql_pointer_nil w t _ hp]
  .cases h
 .split at h
  .rename_i hu;split at h
   .rename_i hb;simp only[wK] at h;obtain⟨⟨k,rs⟩,h1,h2⟩:=h;obtain⟨b,e1,e2,e3⟩:=UI h1 hc hd;obtain⟨⟨z1,z2⟩,hz⟩:=Option.isSome_iff_exists.1 hb;obtain⟨_,hub,_⟩:=(DR hz hc);rcases e1 with⟨_,_,_,rfl,_⟩|⟨p,q,rfl,rfl,rfl⟩|⟨_,_,rfl,_⟩
    .cases hub
    rotate_left 1
    .cases hub
    .have fin2:r.m=m/\AA T (g.n+r.us.length) ρ m w r.c (.bool (if neg then !(p==q) else (p==q))):=by
      have hev:k=none->rs.map (Rf.eval T)=[.bool p,.bool q]:=fun hk=>by subst hk;exact eY h1 hb hc hd
      cases neg with
      |true=>
       simp only[if_true] at h2⊢;subst h2;refine⟨N2,JI hnew (fun h=>?_) (fun q' hq=>?_)⟩
       .cases k with
        |none=>simp[Ex.eval,dc,hev rfl,u0,u1,U.toB]
        |some k=>cases h
       .cases k with
        |none=>cases hq
        |some k=>rw[e2 k rfl];simpa using hq
      |false=>
       simp only[wM,if_false] at h2⊢;subst h2;exact⟨N2,JI hnew (fun h=>by simp[Ex.eval,eV,hev h,u0,u1,U.toB]) e2⟩
     obtain⟨f1,f2⟩:=fin2;refine⟨_,?_,f1,f2⟩;simp only[Sem.run_bind,EY _ t x y (a:= .bool p) (b:= .bool q) (fun _ h=>by cases h) (fun h=>by cases h),Result.andThen_ok];cases neg with
     |true=>simp[run_neq_bool w t p q hu]
     |false=>simp[run_eql_bool w t p q hu]
   .cases h
  .rename_i hu;split at h
   .rename_i hb;simp only[wK] at h;obtain⟨⟨k,rs⟩,h1,h2⟩:=h;obtain⟨b,e1,e2,e3⟩:=UI h1 hc hd;obtain⟨⟨z1,z2⟩,hz⟩:=Option.isSome_iff_exists.1 hb;obtain⟨_,hub,_⟩:=(HJ hz hc);rcases e1 with⟨_,_,_,rfl,_⟩|⟨_,_,rfl,_⟩|⟨p,q,rfl,rfl,rfl⟩
    .cases hub
    .cases hub
    .obtain⟨f1,f2⟩:=fin k rs (decide (p=q)) h2 e2 (fun h=>(e3 h).1);refine⟨_,?_,f1,f2⟩;simp only[Sem.run_bind,EY _ t x y (a:= .string p) (b:= .string q) (fun _ h=>by cases h) (fun h=>by cases h),Result.andThen_ok];cases neg with
     |true=>simp[binOp,Op.stringOp,G1]
     |false=>simp[binOp,Op.stringOp,G1]
   .cases h
  .cases h
theorem eI {op:BinOp}{k:IntKind}{l1 h1 l2 h2 lo hi:Int}{r1 r2:Rf}{v:Vx}{ps:List Pr}(h:QU op k l1 h1 r1 l2 h2 r2=some ((lo,hi,v),ps)):∀y,v= .rf (.e y)->r1= .e y\/r2= .e y:=by
 intro y hy;subst hy;have hr:∀lo' hi' e lo hi,rng k lo' hi' e=(lo,hi,Vx.rf (.e y))->False:=by
  intro lo' hi' e lo hi he;unfold rng at he;split at he<;>cases he
 cases op<;>simp only[QU] at h
 case add=>
  cases h1:(if (l2=0/\h2=0)/\k.min<=l1/\h1<=k.max then (l1,h1,Vx.rf r1) else if (l1=0/\h1=0)/\k.min<=l2/\h2<=k.max then (l2,h2,Vx.rf r2) else rng k (l1+l2) (h1+h2) (ex2 "add" ez r1 r2));rw[h1] at h;cases h;split at h1
  .cases h1;exact .inl rfl
  .split at h1
   .cases h1;exact .inr rfl
   .exact (hr _ _ _ _ _ h1).elim
 case sub=>
  cases h1:(if (l2=0/\h2=0)/\k.min<=l1/\h1<=k.max then (l1,h1,Vx.rf r1) else rng k (l1 - h2) (h1 - l2) (ex2 "sub" cU r1 r2));rw[h1] at h;cases h;split at h1
  .cases h1;exact .inl rfl
  .exact (hr _ _ _ _ _ h1).elim
 case mul=>
  simp only[Option.some.injEq,Prod.mk.injEq] at h;exact (hr _ _ _ _ _ h.1).elim
 case quo=>
  split at h
  .split at h
   .simp only[Option.some.injEq,Prod.mk.injEq] at h;exact (hr _ _ _ _ _ h.1).elim
   .split at h
    .simp only[Option.some.injEq,Prod.mk.injEq] at h;exact (hr _ _ _ _ _ h.1).elim
    .simp only[Option.some.injEq,Prod.mk.injEq] at h;exact (hr _ _ _ _ _ h.1).elim
  .cases h
 case rem=>
  split at h
  .split at h<;>cases h
  .cases h
 case and=>
  split at h
  .split at h<;>cases h
  .cases h
 all_goals cases h
theorem br {op:BinOp}{k:IntKind}{l1 h1 l2 h2 lo hi:Int}{r1:Rf}{v:Vx}(h:NP op k l1 h1 r1 l2 h2=some (lo,hi,v)):∀y,v= .rf (.e y)->False:=by
 intro y hy;subst hy;unfold NP at h;split at h
 .split at h
  .simp only[Option.some.injEq] at h;unfold rng at h;split at h<;>cases h
  .cases h
  .cases h
 .cases h
theorem VN {n:Nat}{c:AC}{k:IntKind}{lo hi:Int}{y:Nat}{v:Value}(h:CM c=some (k,lo,hi,.e y))(hh:AA T n ρ m w c v):y < n:=XA h hh y rfl
theorem Nr {op:BinOp}{t:TypeId}{c d:AC}{u v:Value}(h:U8 P op t c d m g=some r)(hnew:New T g.n r.us)(hps:∀q∈r.ps,q.holds T)(hc:AA T g.n ρ m w c u)(hd:AA T g.n ρ m w d v)(x y:Operand):
  ∃z,(do eqGuard op t x y u v;binOp op t u v:Sem Value).run P w= .ok z w/\r.m=m/\AA T (g.n+r.us.length) ρ m w r.c z:=by
 unfold U8 at h;split at h
 .rename_i k l1 h1 r1 k' l2 h2 r2 hx hy;obtain⟨n1,rfl,q1,a1,b1⟩:=BZ hx hc;obtain⟨n2,rfl,q2,a2,b2⟩:=BZ hy hd;have hg:=EY (P:=P) (w:=w) op t x y (a:= .int k n1) (b:= .int k' n2) (fun _ h=>by cases h) (fun h=>by cases h);split at h
  .rename_i lo hi n har;cases h;obtain⟨n0,e1,e2⟩:=bC (k2:=k') har q1 a1 b1 a2 b2 P t w;exact⟨_,by simp only[Sem.run_bind,hg,Result.andThen_ok];exact e1,Hg,FV hnew e2.val e2.lo e2.hi (fun z hz=>(br har z hz).elim)⟩
  split at h
  .rename_i hk;subst hk;split at h
   .rename_i lo hi n ps har;cases h;obtain⟨n0,e1,e2⟩:=dL har q1 q2 a1 b1 a2 b2 (by rw[ia] at hps;exact hps) P t w;refine⟨_,by simp only[Sem.run_bind,hg,Result.andThen_ok];exact e1,Hg,FV hnew e2.val e2.lo e2.hi (fun z hz=>?_)⟩;rcases eI har z hz with rfl|rfl
    .exact VN hx hc
    .exact VN hy hd
   .split at h
    .rename_i kn b hic;cases h;obtain⟨b0,e1,e2,e3⟩:=gY (k:=k) hic q1 q2 a1 b1 a2 b2 P t w;refine⟨_,by simp only[Sem.run_bind,hg,Result.andThen_ok];exact e1,N2,JI hnew (fun _=>e2) ?_⟩;split
     .rename_i hbe;have:=AC.beq_eq _ _ hbe;subst this;rw[hx] at hy;cases hy;rw[q1] at q2;cases q2;have hb0:(op= .eql->b0=true)/\(op= .neq->b0=false):=by
       refine⟨fun ho=>?_,fun ho=>?_⟩<;>subst ho
       .have:=e1;simp[binOp,Op.intCmp] at this;exact this
       .have:=e1;simp[binOp,Op.intCmp] at this;exact this
      intro q hq;split at hq
      .cases hq;exact hb0.1 rfl
      .cases hq;exact hb0.2 rfl
      .exact e3 q hq
     .exact e3
    .cases h
  .cases h
 .split at h
  .exact aq (neg:=false) h hnew hc hd x y
  .exact aq (neg:=true) h hnew hc hd x y
  .cases h
theorem AB.of_map {n:Nat}{ev:Operand->AC}{a:Act}(hev:∀x,AA T n ρ m w (ev x) (a.eval x)):∀xs:List Operand,AB T n ρ m w (xs.map ev) (xs.map a.eval)
 |[]=>rfl
 |x::xs=>⟨_,_,rfl,hev x,AB.of_map hev xs⟩
theorem Hl {a:Act}{o:Oper}{b:Builtin}{args:Array Operand}{ts:Array TypeId}(ho:o.op= .call { callee:= .builtin b,args,argTypes:=ts }):
  (execOp a.eval o).run P w=(builtin b ts o.type (args.map fun| .const _=>true|_=>false) (args.map a.eval)).run P w:=by
 simp only[execOp,ho,resolve,invoke,Sem.run_bind,Sem.run_pure,Result.andThen_ok];rfl
theorem Q4 {t:TypeId}{c:AC}{v:Value}(h:cH P t c m g=some r)(hnew:New T g.n r.us)(hm:AD T g.n ρ m w)(hc:AA T g.n ρ m w c v)(ts:Array TypeId)(ht:ts[0]? =some t)(ty:TypeId):
  ∃z,(Builtin.len_ ts ty #[v]).run P w= .ok z w/\r.m=m/\AA T (g.n+r.us.length) ρ m w r.c z:=by
 unfold cH at h;split at h
 .rename_i e hu;split at h
  .cases h;rw[show v=_ from hc];exact⟨.int .i64 0,by simp[Builtin.len_,ht,run_underlying hu,CV.value,goInt],rfl,rfl⟩
  .cases h;obtain⟨⟨h0,_⟩,j,a,cap,h1,⟨h2,h3⟩,rfl,_⟩:=hc;exact⟨.int .i64 j,by simp[Builtin.len_,ht,run_underlying hu,goInt];omega,rfl,h0,j,h1,rfl,h2,h3⟩
  .cases h;obtain⟨b,_,rfl,_⟩:=hc;exact⟨.int .i64 _,by simp[Builtin.len_,ht,run_underlying hu,goInt],rfl,rfl⟩
  .split at h
   .rename_i ks rl hq;cases h;obtain⟨l,hl,hmax,_,a,cap,rfl,_,_⟩:=EV hq hc;refine⟨.int .i64 l.length,by simp[Builtin.len_,ht,run_underlying hu,goInt],Hg,?_⟩;exact FV hnew (by simp[Vx.eval,Ex.eval,Nc,u0,hl,U.toL]) (by omega) (by omega) (fun y hy=>by cases hy)
   .cases h
 .rename_i hu;split at h
  .rename_i s;cases h;rw[show v=_ from hc];exact⟨.int .i64 s.size,by simp[Builtin.len_,ht,run_underlying hu,CV.value,goInt],rfl,rfl⟩
  .rename_i y;cases h;obtain⟨hy,s,hs,rfl,hmax⟩:=hc;refine⟨.int .i64 s.size,by simp[Builtin.len_,ht,run_underlying hu,goInt],Hg,?_⟩;exact FV hnew (by simp[Vx.eval,Ex.eval,Y9,u0,hs,U.toS,Rf.eval]) (by omega) (by omega) (fun y hy=>by cases hy)
  .cases h
 .rename_i kt et hu;split at h
  .rename_i id;split at h
   .rename_i mx kk ka vk va hid;cases h;obtain⟨b,hrb,rfl,_⟩:=hc;have hbk:=hm.blk id;rw[hid] at hbk;obtain⟨hmx,l,b',es,clock,hT,hrb',hb,hlen,hmax,_⟩:=hbk;rw[hrb] at hrb';cases hrb';have hget:(getObj b).run P w= .ok (.map es.toArray clock) w:=by simp[getObj,Sem.run,hb]
    refine⟨.int .i64 l.length,by simp[Builtin.len_,ht,run_underlying hu,hget,goInt,hlen],Hg,?_⟩;exact FV hnew (by simp[Vx.eval,Ex.eval,Nc,u0,Rf.eval,hT,U.toL]) (by omega) (by omega) (fun y hy=>by cases hy)
   .cases h
  .cases h
 .cases h
end
section
variable {P:Program}{T:Tab}{n n':Nat}{ρ ρ':Nat->Option Nat}{m m':Mem}{w w':World}{g:G}{r:R}
theorem Uo (hm:AD T n ρ m w)(hnn:n<=n'){id x y x' y':Nat}{ks ks':List Kd}{e:TypeId}(hid:m.at id= .mrow x y ks e)(hx':x' < n')(hy':y' < n')(hny:n<=y')(hr:∀j,j≠id-> ρ' j= ρ j)
  (os:w'.os=w.os) (tape:w'.tape=w.tape) (output:w'.output=w.output) (size:w.heap.size<=w'.heap.size)
  (hold:∀k,k < w.heap.size-> ρ id≠some k->w'.heap[k]? =w.heap[k]?)
  (hb':∀b', ρ' id=some b'-> ρ id=some b'\/w.heap.size<=b') (hkl:ks'.length=ks.length) (hkn:ks'≠[])
  {q:List (List U)} (hT:T x'= .list q) (hTy:T y'= .int q.length) (hq:q.length<=AF)
  (hblk:(ρ' id=none/\q=[])\/∃b vs us, ρ' id=some b/\w'.heap[b]? =some (.cells (vs++us:List Value).toArray e (0,0))/\AU (AS T ρ m w) w ks' q vs/\∀off,T.fr b off):
  AE T n ρ m w ρ' (m.set id (.mrow x' y' ks' e)) w'/\AD T n' ρ' (m.set id (.mrow x' y' ks' e)) w':=by
 have hne:m.at id≠ .pad:=by rw[hid];exact fun h=>by cases h
 have hat:∀j,Mem.at (m.set id (.mrow x' y' ks' e)) j=if j=id then .mrow x' y' ks' e else m.at j:=fun j=>DI m id (.mrow x' y' ks' e) j hne
 have htr:(m.at id).tracked=true:=by rw[hid];rfl
 have hs:AE T n ρ m w ρ' (m.set id (.mrow x' y' ks' e)) w':={
  os:=os
  tape:=tape
  output:=output
  size:=size
  mlen:=fun j h=>by rw[hat j];split<;>first|exact (fun h=>by cases h)|exact h
  rho:=fun j h=>by
   have hj:j≠id:=fun e'=>by subst e';rw[hid] at h;cases h
   rw[hat j,if_neg hj];exact⟨hr j hj,h⟩
  untr:=fun j h ht=>by
   rw[hat j] at ht;split at ht
   .rename_i he;subst he;exact htr
   .exact ht
  fresh:=fun j b h ht hb=>by
   rw[hat j] at ht;split at ht
   .rename_i he;subst he;exact absurd h hne
   .rw[h] at ht;cases ht
  old:=fun k hk hno=>hold k hk (hno id htr)
  tok:=fun j x kx e' h=>by
   have hj:j≠id:=fun e'=>by subst e';rw[hid] at h;cases h
   refine .inl ⟨by rw[hat j,if_neg hj];exact h,hr j hj,fun b hb=>hold b (hm.lt (by rw[h];rfl) hb) (fun he=>?_)⟩;exact hj (hm.inj j id b (by rw[h];rfl) htr hb he)
  row:=fun j x2 y2 kx e' h=>by
   by_cases hj:j=id
   .subst hj;rw[hid] at h;cases h;exact .inr ⟨x',y',ks',by rw[hat j,if_pos rfl],hkl,.inr ⟨hny,hb'⟩⟩
   .refine .inr ⟨x2,y2,kx,by rw[hat j,if_neg hj];exact h,rfl,.inl ⟨rfl,hr j hj,fun b vs hb hv=>⟨vs,?_,rfl⟩⟩⟩;rw[hold b (hm.lt (by rw[h];rfl) hb) (fun he=>hj (hm.inj j id b (by rw[h];rfl) htr hb he))];exact hv }
 refine⟨hs,⟨fun j=>?_,fun j j' b ht ht' h1 h2=>?_,fun b off h=>hm.fr b off (wI hs.size h)⟩⟩
 .by_cases hj:j=id
  .subst hj;rw[hat j,if_pos rfl];refine⟨⟨hx',hy'⟩,q,hT,hTy,⟨hq,hkn⟩,?_⟩;rcases hblk with h|⟨b,vs,us,h1,h2,h3,h4⟩
   .exact .inl h
   .exact .inr ⟨b,vs,us,h1,h2,AU.mono (fun _ _ h=>hs.safe0 h) h3,h4⟩
  .by_cases ht:(m.at j).tracked=true
   .refine BB.step hs hm hnn (by rw[hat j,if_neg hj]) (hr j hj) (fun b hb=>hold b (hm.lt ht hb) (fun he=>hj (hm.inj j id b ht htr hb he)))
   .rw[hat j,if_neg hj];cases hx:m.at j with
    |pad=>trivial
    |gone=>trivial
    |cells=>rw[hx] at ht;exact absurd rfl ht
    |lp=>rw[hx] at ht;exact absurd rfl ht
    |tok=>rw[hx] at ht;exact absurd rfl ht
    |mrow=>rw[hx] at ht;exact absurd rfl ht
    |mapb=>rw[hx] at ht;exact absurd rfl ht
 .have tr:∀k,(Mem.at (m.set id (.mrow x' y' ks' e)) k).tracked=true->(m.at k).tracked=true:=fun k hk=>by
   rw[hat k] at hk;split at hk
   .rename_i he;subst he;exact htr
   .exact hk
  have one:∀j b,(m.at j).tracked=true->j≠id-> ρ' j=some b-> ρ' id=some b->False:=by
   intro j b ht hj h1 h2;rw[hr j hj] at h1;rcases hb' b h2 with h3|h3
   .exact hj (hm.inj j id b ht htr h1 h3)
   .have:=hm.lt ht h1;omega
  by_cases hj:j=id
  .by_cases hj':j'=id
   .rw[hj,hj']
   .subst hj;exact (one j' b (tr j' ht') hj' h2 h1).elim
  .by_cases hj':j'=id
   .subst hj';exact (one j b (tr j ht) hj h1 h2).elim
   .rw[hr j hj] at h1;rw[hr j' hj'] at h2;exact hm.inj j j' b (tr j ht) (tr j' ht') h1 h2
theorem PE {ts:Array TypeId}{id y:Nat}{k2:List Kd}{r2:Rf}{v u:Value}(h:TM P ts id y k2 r2 m g=some r)(hnew:New T g.n r.us)(hps:∀q∈r.ps,q.holds T)(hm:AD T g.n ρ m w)(hs:AA T g.n ρ m w (.mr id y) v)(hx:Src T ρ m w k2 (r2.eval T) u)(ty:TypeId):
  ∃z w' ρ',(Builtin.append_ ts ty #[v,u]).run P w= .ok z w'/\AE T g.n ρ m w ρ' r.m w'/\AD T (g.n+r.us.length) ρ' r.m w'/\AA T (g.n+r.us.length) ρ' r.m w' r.c z:=by
 unfold TM at h;simp only[vq,vn] at h;obtain⟨t,ht0,h⟩:=h;split at h
 .rename_i e ht;simp only[vn] at h;obtain⟨i,hi,z,hz,h⟩:=h;split at h
  .rename_i x y' k1 e' hid;split at h
   .rename_i hc;obtain⟨⟨rfl,rfl⟩,hts,hsz,hby,h2l,h1l,hzs⟩:=hc;cases h;obtain rfl:ts= #[t,t]:=Array.ext' (Et _ _ hts);obtain⟨l2,a2,c2,el2,rfl,_,_,vs2,e2,e2'⟩:=hx;have hlen2:vs2.length=l2.length*i.size:=by rw[e2.len,h2l]
    obtain⟨⟨hy0,hpad⟩,j,a1,cap,hTy,⟨hj0,hj1⟩,rfl,⟨hcap1,_⟩,hlink⟩:=hs;have hbk:=hm.blk id;rw[hid] at hbk;obtain⟨⟨hx0,_⟩,l1,hTx,hTy',⟨hmax1,_⟩,hblk⟩:=hbk;have hjl:j=l1.length:=by rw[hTy] at hTy';exact U.int.inj hTy'
    subst hjl;simp only[Int.toNat_natCast] at*;have hTn:T g.n= .list (l1++l2):=by
     rw[hnew.head];simp[Ex.eval,PA,u0,u1,eve,hTx,el2,U.toL]
    have hlapp:(l1++l2).length=l1.length+l2.length:=wC;have hTn1:T (g.n+1)= .int (l1++l2).length:=by
     have:=hnew 1 ⟨ "len",Nc,[.e g.n]⟩ rfl;rw[this];simp only[Ex.eval,Nc,u0,wG,wa,eve,hTn,U.toL]
    have hfit:=hps ⟨ "fits " ++toString i.bytes,Fo i.bytes,[.e x,r2]⟩ (by simp);simp only[Pr.holds,Fo,u0,u1,wG,wa,eve,hTx,el2,U.toL] at hfit;have hb:=Yq hby hfit;have hcs:=Qe hsz h2l h1l;have hne:k2≠[]:=fun h=>by rw[h] at h2l;simp at h2l;omega
    generalize hksd:Fc k1 k2=ks at*;have hcne:ks≠[]:=fun h=>by rw[h] at hcs;simp at hcs;omega
    have hat:Mem.at (m.set id (.mrow g.n (g.n+1) ks e)) id= .mrow g.n (g.n+1) ks e:=by rw[DI m id _ id hpad,if_pos rfl]
    have mk:∀{ρ':Nat->Option Nat} {w':World} {a:Option Addr} {N:Nat},AE T g.n ρ m w ρ' (m.set id (.mrow g.n (g.n+1) ks e)) w'->l1.length+l2.length<=N->Ng ρ' w' id ks e a N->
      AA T (g.n+2) ρ' (m.set id (.mrow g.n (g.n+1) ks e)) w' (.mr id (g.n+1)) (.slice a (l1.length+l2.length) N):=by
     intro ρ' w' a N _ hN hL;refine⟨⟨by omega,by rw[hat];exact fun h=>by cases h⟩,((l1++l2).length:Nat),a,N,hTn1,⟨by omega,by have:=hb.1;rw[hlapp];omega⟩,by rw[hlapp,Int.toNat_natCast],⟨by rw[hlapp];omega,fun hp=>?_⟩,fun x2 ks2 e2 hk=>?_⟩
     .rcases hL with⟨_,q⟩|⟨b,vs,_,q,_⟩
      .rw[hlapp] at hp;omega
      .exact⟨b,q⟩
     rw[hat] at hk;cases hk;exact hL
    have hrow:∀{vs1:List Value},AU (AS T ρ m w) w k1 l1 vs1->AU (AS T ρ m w) w ks (l1++l2) (vs1++vs2):=fun e1=>by
     rw[<-hksd];exact e1.app e2 (fun h=>by rw[h] at h1l;simp at h1l;omega) hne (fun _=>by omega)
    rcases Nat.eq_zero_or_pos l2.length with hk|hk
    .
     have:l2=[]:=List.length_eq_zero_iff.1 hk;subst this;have hv2:vs2=[]:=by simpa using hlen2
     subst hv2;simp only[List.append_nil,List.length_nil,Nat.add_zero] at*;have f:=Uo (ρ':= ρ) (w':=w) (n':=g.n+2) (x':=g.n) (y':=g.n+1) (ks':=ks) hm (by omega) hid (by omega) (by omega) (by omega) (fun _ _=>rfl) rfl rfl rfl (vr _) (fun _ _ _=>rfl) (fun b' hb'=> .inl hb') (by omega) hcne hTn hTn1 hb.1
      (by
       rcases hblk with h|⟨b,vs,us,q1,q2,q3,q4⟩
       .exact .inl h
       .exact .inr ⟨b,vs,us,q1,q2,hrow q3,q4⟩)
     refine⟨_,w, ρ,Cy ht hi a1 a2 l1.length cap c2 (by omega),f.1,f.2,mk f.1 (by omega) ?_⟩;rcases hlink x k1 e hid with q|⟨b,vs,q1,q2,q3,q4⟩
     .exact .inl q
     .exact .inr ⟨b,vs,q1,q2,q3,by rw[hcs,<-h1l];exact q4⟩
    .obtain⟨b2,o2,rfl,hcell⟩:=e2' hk;have hcell':∀j y,vs2[j]? =some y->w.cell? ((⟨b2,o2,none⟩:Addr).add j)=some y:=fun j y hj=>by rw[Br];exact hcell j y hj
     have grow:∀{vs1:List Value},AU (AS T ρ m w) w k1 l1 vs1->∀{N:Nat} {all:Array Value} {z0:Value},(Builtin.append_ #[t,t] ty #[.slice a1 l1.length cap,.slice (some ⟨b2,o2,none⟩) l2.length c2]).run P w= .ok z0 (w.drew.alloc (.cells all e))->
       z0= .slice (some ⟨w.heap.size,0,none⟩) (l1.length+l2.length) N->l1.length+l2.length<=N->all.toList.take ((l1.length+l2.length)*i.size)=vs1++vs2->N*i.size<=all.size->
       ∃z w' ρ',(Builtin.append_ #[t,t] ty #[.slice a1 l1.length cap,.slice (some ⟨b2,o2,none⟩) l2.length c2]).run P w= .ok z w'/\AE T g.n ρ m w ρ' (m.set id (.mrow g.n (g.n+1) ks e)) w'/\AD T (g.n+2) ρ' (m.set id (.mrow g.n (g.n+1) ks e)) w'/\AA T (g.n+2) ρ' (m.set id (.mrow g.n (g.n+1) ks e)) w' (.mr id (g.n+1)) z:=by
      intro vs1 q1 N all z0 hrun hz0 hN hall hszN;subst hz0;have hnew2:=CX w.drew (.cells all e);have f:=Uo (ρ':=B5 ρ id w.heap.size) (w':=w.drew.alloc (.cells all e)) (n':=g.n+2) (x':=g.n) (y':=g.n+1) (ks':=ks) hm (by omega) hid (by omega) (by omega) (by omega) (fun j hj=>Ad _ _ _ hj) rfl rfl rfl (by simp)
       (fun k hk _=>At w.drew _ k hk) (fun b' hb'=>by rw[Af] at hb';cases hb';exact .inr (vr _)) (by omega) hcne hTn hTn1 (by rw[hlapp];exact hb.1)
       (.inr ⟨w.heap.size,vs1++vs2,all.toList.drop ((l1.length+l2.length)*i.size),Af _ _ _,by
        rw[<-hall,List.take_append_drop,Array.toArray_toList];exact hnew2,hrow q1,fun off=>hm.fr _ off (vr _)⟩)
      exact⟨_,_,_,hrun,f.1,f.2,mk f.1 hN (.inr ⟨w.heap.size,_,Af _ _ _,rfl,hnew2,by rw[hcs];exact hszN⟩)⟩
     have take2:∀(vs1:List Value) (zs:Array Value),vs1.length=l1.length*i.size->(vs1.toArray++vs2.toArray++zs).toList.take ((l1.length+l2.length)*i.size)=vs1++vs2:=by
      intro vs1 zs hl;rw[Array.toList_append,Array.toList_append];simp only[List.toList_toArray];apply List.take_left';rw[wC,hl,hlen2,wS]
     rcases hblk with⟨hnone,rfl⟩|⟨b,vs1,us1,hsome,hheap,q3,hfr⟩
     .
      rcases hlink x k1 e hid with⟨_,hcap0⟩|⟨b,vs,q1,_⟩
      .subst hcap0;cases a1 with
       |none=>
        have hrun:=run_append_nil (P:=P) w t ty e i z ht hi hz ⟨b2,o2,none⟩ l2.length c2 vs2 hlen2 hcell' hk (by have:=hb.2;simp at this;omega) (by simp at hfit;omega);have hcap:=grownCap_ge w l2.length 0 e;refine grow (N:=grownCap w l2.length 0 e) (AU.nil _ _) hrun (by simp) (by simpa using hcap) ?_ ?_
        .have:=take2 [] (Builtin.zeroCells z.cells (grownCap w l2.length 0 e - l2.length)) (by simp);simpa using this
        .simp only[Array.size_append,List.size_toArray,size_zeroCells,hzs,hlen2];rw[<-wS];exact wO _ (by omega)
       |some a=>
        have hrun:=run_append_grow (P:=P) w t ty e i z ht hi hz a 0 0 [] (by simp) (fun j y hj=>by simp at hj) ⟨b2,o2,none⟩ l2.length c2 vs2 hlen2 hcell' (by omega) (by have:=hb.2;simpa using this) (growslice_fits (by omega) (by simpa using hfit));have hcap:=grownCap_ge w (0+l2.length) 0 e;refine grow (N:=grownCap w (0+l2.length) 0 e) (AU.nil _ _) hrun (by simp) (by simpa using hcap) ?_ ?_
        .have:=take2 [] (Builtin.zeroCells z.cells (grownCap w (0+l2.length) 0 e - (0+l2.length))) (by simp);simpa using this
        .simp only[Array.size_append,List.size_toArray,size_zeroCells,hzs,hlen2,List.length_nil,v8];rw[<-wS];refine wO _ ?_;rw[v8] at hcap;omega
      .rw[hnone] at q1;cases q1
     .have hlen1:vs1.length=l1.length*i.size:=by rw[q3.len,h1l]
      rcases hlink x k1 e hid with⟨q1,_⟩|⟨b',cur,q1,rfl,q5,q6⟩
      .rw[hsome] at q1;cases q1
      .rw[hsome] at q1;cases q1;rw[hheap] at q5;cases q5;rw[h1l] at q6;have hcell1:∀j x,vs1[j]? =some x->w.cell? ((⟨b,0,none⟩:Addr).add j)=some x:=fun j x hj=>by
        rw[Br,v8,Ez hheap,wE (vu.1 hj).1];exact hj
       by_cases hroom:l1.length+l2.length<=cap
       .
        have hfit2:l1.length*i.size+vs2.length<=(vs1++us1).toArray.size:=by
         rw[hlen2,<-wS];exact wI (wO _ hroom) q6
        have hrun:=run_append_room (P:=P) w t ty e i ht hi b l1.length cap (vs1++us1).toArray hheap ⟨b2,o2,none⟩ l2.length c2 vs2 hlen2 hcell' e2.ones hroom hfit2;have e3:((vs1++us1).toArray.toList.take (l1.length*i.size)++vs2++(vs1++us1).toArray.toList.drop (l1.length*i.size+vs2.length))=(vs1++vs2)++us1.drop vs2.length:=by
         simp only[List.toList_toArray];rw[<-hlen1,List.take_left' rfl,List.drop_length_add_append]
        rw[e3] at hrun;have hnew2:=setRow_heap w b (vs1++us1).toArray ((vs1++vs2)++us1.drop vs2.length).toArray e (0,0) hheap;have hsize:((vs1++vs2)++us1.drop vs2.length).toArray.size=(vs1++us1).toArray.size:=by
         simp only[List.size_toArray,wC,List.length_drop] at hfit2⊢;omega
        have f:=Uo (ρ':= ρ) (w':=w.setRow b ((vs1++vs2)++us1.drop vs2.length).toArray) (n':=g.n+2) (x':=g.n) (y':=g.n+1) (ks':=ks) hm (by omega) hid (by omega) (by omega) (by omega) (fun _ _=>rfl) rfl rfl rfl (by simp)
         (fun k _ hk=>Cp w b _ k (fun he=>hk (by rw[he];exact hsome))) (fun b' hb'=> .inl hb') (by omega) hcne hTn hTn1 (by rw[hlapp];exact hb.1)
         (.inr ⟨b,vs1++vs2,us1.drop vs2.length,hsome,hnew2,hrow q3,hfr⟩)
        exact⟨_,_,_,hrun,f.1,f.2,mk f.1 hroom (.inr ⟨b,_,hsome,rfl,hnew2,by rw[hcs,hsize];exact q6⟩)⟩
       .have hrun:=run_append_grow (P:=P) w t ty e i z ht hi hz ⟨b,0,none⟩ l1.length cap vs1 hlen1 hcell1 ⟨b2,o2,none⟩ l2.length c2 vs2 hlen2 hcell' (by omega) hb.2 (growslice_fits (by omega) hfit);have hcap:=grownCap_ge w (l1.length+l2.length) cap e;refine grow q3 hrun rfl hcap (take2 vs1 _ hlen1) ?_;simp only[Array.size_append,List.size_toArray,size_zeroCells,hzs,hlen1,hlen2];rw[<-wS,<-wS];exact wO _ (by omega)
   .cases h
  .cases h
 .cases h
end
section
variable {P:Program}{T:Tab}{n n':Nat}{ρ ρ':Nat->Option Nat}{m m':Mem}{w w':World}{g:G}{r:R}
def Nt (s:Nat):Nat->List Value->List (List Value)
 |0,_=>[]
 |k+1,l=>l.take s::Nt s k (l.drop s)
theorem Fe (s:Nat):∀(k:Nat) (l:List AC),(CI s k l).length=k
 |0,_=>rfl
 |k+1,l=>by simp[CI,Fe s k]
theorem Ki (s:Nat):∀(k:Nat) (l:List AC),k*s<=l.length->∀x∈CI s k l,x.length=s
 |0,_,_=>by simp[CI]
 |k+1,l,h=>by
  intro x hx;have h2:k*s+s<=l.length:=by rw[<-Nat.succ_mul];exact h
  simp only[CI,List.mem_cons] at hx;rcases hx with rfl|hx
  .rw[wb];omega
  .exact Ki s k (l.drop s) (by rw[List.length_drop];omega) x hx
theorem Pc (s:Nat):∀(k:Nat) (l:List Value),k*s<=l.length->(Nt s k l).flatten=l.take (k*s)
 |0,_,_=>by simp[Nt]
 |k+1,l,h=>by
  have h2:k*s+s<=l.length:=by rw[<-Nat.succ_mul];exact h
  simp only[Nt,List.flatten_cons];rw[Pc s k (l.drop s) (by rw[List.length_drop];omega),Nat.succ_mul,Nat.add_comm (k*s) s,List.take_add]
theorem MT (s:Nat):∀(k:Nat) (l:List AC) (vs:List Value),AB T n ρ m w l vs->((CI s k l).all fun l=>l.all AC.atom)=true->Ny T n ρ m w (CI s k l) (Nt s k vs)
 |0,_,_,_,_=>rfl
 |k+1,l,vs,h,ha=>by
  simp only[CI,List.all_cons,vo] at ha;exact⟨_,_,rfl,ha.1,h.take s,MT s k (l.drop s) (vs.drop s) (h.drop s) ha.2⟩
theorem ff {id off len s:Nat}{l:List AC}{e0:TypeId}{u:Value}(hm:AD T n ρ m w)(hid:m.at id= .cells l e0)(hx:AA T n ρ m w (.asl id off len) u)
  (h1:off+len*s<=l.length) (h2:0 < s) (h3:0 < len) (h5:((CI s len (l.drop off)).all fun l=>l.all AC.atom)=true):
  (Cd (CI s len (l.drop off))).length=s/\Src T ρ m w (Cd (CI s len (l.drop off))) (.list ((CI s len (l.drop off)).map fun l=>l.map fun c=>(BN c).2.eval T)) u:=by
 obtain⟨b,hb,rfl,hp⟩:=hx;have hbk:=hm.blk id;rw[hid] at hbk;obtain⟨b',vs,hb',hheap,hl⟩:=hbk;obtain rfl:b=b':=by rw[hb] at hb';exact Option.some.inj hb'
 have hlen:vs.length=l.length:=hl.length;have hr:=MT s len (l.drop off) (vs.drop off) (hl.drop off) h5;have hn:CI s len (l.drop off)≠[]:=fun h=>by
  have:=Fe s len (l.drop off);rw[h] at this;simp at this;omega
 obtain⟨c2,c3⟩:=Nf h2 hr (Ki s len (l.drop off) (by rw[List.length_drop];omega)) hn;refine⟨c2,_,some ⟨b,off,none⟩,len,rfl,?_,?_,?_,(Nt s len (vs.drop off)).flatten,c3,fun _=>⟨b,off,rfl,fun j x hj=>?_⟩⟩
 .rw[List.length_map,Fe]
 .rw[List.length_map,Fe];exact vr _
 .intro h;rw[h] at c2;simp at c2;omega
 .rw[Pc s len (vs.drop off) (by rw[List.length_drop];omega)] at hj;rw[Ez hheap];have hj2:=(vu.1 hj).1;rw[List.getElem?_take_of_lt (by rw[wb] at hj2;omega),List.getElem?_drop] at hj;exact hj
theorem RR (hm:AD T n ρ m w)(hnn:n < n'){e:TypeId}{ks:List Kd}(hne:ks≠[])(hT:T n= .list [])
  {w1:World} (hd:w1=w\/w1=w.drew) {all:Array Value} {len cap:Nat} (hle:len<=cap) (hl:len<=68719476736) (hsz:cap*ks.length<=all.size):
  ∃ ρ',AE T n ρ m w ρ' (m++[.tok n ks e]) (w1.alloc (.cells all e))/\AD T n' ρ' (m++[.tok n ks e]) (w1.alloc (.cells all e))/\
   AA T n' ρ' (m++[.tok n ks e]) (w1.alloc (.cells all e)) (.rsv m.length n ks) (.slice (some ⟨w.heap.size,0,none⟩) len cap):=by
 obtain⟨ρ',f0,f1,f2,f3⟩:=TV (n':=n') (e:=e) (ks:=ks) (l:=[]) (vs:=[]) hm hnn hne (AU.nil _ _) (by simp[AF]) hT hd (all:=all) (cap:=cap) (fun p hp=>by simp at hp) (wX _) hsz;refine⟨ρ',f1,f2,?_⟩;obtain⟨g0,g1,g2,g3⟩:=f3;refine⟨g0,g1,hT,⟨_,_,_,rfl⟩,fun ks' e' he=>?_⟩;rcases g3 ks' e' he with⟨a1,a2⟩|⟨b,cap',vs,a1,a2,a3,a4⟩
 .rw[f0] at a1;cases a1
 .obtain⟨e1,e2,e3⟩:=Value.slice.inj a2;obtain rfl:w.heap.size=b:=by injection e1 with e1;injection e1
  subst e3;exact .inr ⟨_,len,cap,vs,a1,rfl,⟨hle,hl⟩,a3,a4⟩
theorem Wo {ts:Array TypeId}{s x:AC}{v u:Value}(h:Ox P ts s x m g=some r)(hnew:New T g.n r.us)(hps:∀q∈r.ps,q.holds T)(hm:AD T g.n ρ m w)(hs:AA T g.n ρ m w s v)(hx:AA T g.n ρ m w x u)(ty:TypeId):
  ∃z w' ρ',(Builtin.append_ ts ty #[v,u]).run P w= .ok z w'/\AE T g.n ρ m w ρ' r.m w'/\AD T (g.n+r.us.length) ρ' r.m w'/\AA T (g.n+r.us.length) ρ' r.m w' r.c z:=by
 unfold Ox at h;split at h
 .rename_i id off len;split at h
  .rename_i l e0 hid;simp only[vq,vn] at h;obtain⟨t,ht0,h⟩:=h;split at h
   .rename_i e hu;simp only[vn] at h;obtain⟨i,hi,h⟩:=h;split at h
    .rename_i hc;obtain⟨h1,h2,h3,h4,h5⟩:=hc;simp only[vn] at h;obtain⟨r0,hr0,h⟩:=h;cases h;obtain⟨c2,c3⟩:=ff hm hid hx h1 h2 h3 h5;have hT:T g.n= .list ((CI i.size len (l.drop off)).map fun l=>l.map fun c=>(BN c).2.eval T):=by
      have e1:=hnew.head;have e2:=NC (T:=T) (s:=i.size) ((CI i.size len (l.drop off)).map fun l=>l.map fun c=>(BN c).2) (fun l' hl=>by
       simp only[List.mem_map] at hl;obtain⟨l2,hl',rfl⟩:=hl;rw[List.length_map];exact Ki i.size len (l.drop off) (by rw[List.length_drop];omega) l2 hl')
      rw[e1];simp only[Ex.eval,Tv,Ps];simp only[List.length_map,Fe] at e2;rw[e2];simp[List.map_map,Function.comp_def]
     have hm1:AD T (g.n+1) ρ m w:=hm.mono (by omega);have hs1:AA T (g.n+1) ρ m w s v:=hs.up hm (by omega);have hnew1:New T (g.n+1) r0.us:=fun j u hj=>by
      have:=hnew (j+1) u (by simpa using hj);rw[show g.n+(j+1)=g.n+1+j by omega] at this;exact this
     obtain⟨z,w', ρ',k1,k2,k3,k4⟩:=XY (g:={ g with n:=g.n+1 }) hr0 hnew1 hps hm1 hs1 (u:=u) (by rw[show (Rf.e g.n).eval T=T g.n from rfl,hT];exact c3) ty;have en:g.n+(r0.us.length+1)=g.n+1+r0.us.length:=by omega
     exact⟨z,w', ρ',k1,k2.down (by show g.n<=g.n+1;omega),by simp only[wQ];rw[en];exact k3,by simp only[wQ];rw[en];exact k4⟩
    .cases h
   .cases h
  .cases h
 .rename_i id y kr;simp only[vq,vn] at h;obtain⟨t,ht0,h⟩:=h;split at h
  .rename_i e y' ky ey ht hid;simp only[vn] at h;obtain⟨i,hi,z,hz,h⟩:=h;split at h
   .rename_i hc;obtain⟨hts,hsz,hby,hbig,rfl,hkyl,hkl,hzs⟩:=hc;cases h;obtain rfl:ts= #[t,t]:=by
     have:=Et _ _ hts;exact Array.ext' this
    have hv:v= .slice none 0 0:=hs;subst hv;have hne:kr≠[]:=fun h=>by rw[h] at hkl;simp at hkl;omega
    have hT:T g.n= .list []:=by rw[hnew.head];rfl
    obtain⟨hy,hpad,hTy,⟨a0,len0,cap0,hu0⟩,hlink⟩:=hx;have nilc:∀a c,∃z w' ρ',(Builtin.append_ #[t,t] ty #[.slice none 0 0,.slice a 0 c]).run P w= .ok z w'/\AE T g.n ρ m w ρ' (m++[.tok g.n kr e]) w'/\AD T (g.n+1) ρ' (m++[.tok g.n kr e]) w'/\AA T (g.n+1) ρ' (m++[.tok g.n kr e]) w' (.rsv m.length g.n kr) z:=by
     intro a c;obtain⟨ρ',f1,f2,g0,g1,g2,g3⟩:=RC (n':=g.n+1) (e:=e) (ks:=kr) hm (by omega) hT;refine⟨_,w, ρ',Cy ht hi none a 0 0 c (vr _),f1,f2,g0,g1,hT,⟨_,_,_,rfl⟩,fun ks' e' he=>?_⟩;rcases g3 ks' e' he with⟨a1,a2⟩|⟨b,cap',vs,a1,a2,a3,a4⟩
     .exact .inl ⟨a1,rfl⟩
     .cases a2
    rcases hlink ky ey hid with⟨_,hu⟩|⟨b,len,cap,vs,hb,hu,⟨hle,hlen⟩,hheap,hcap⟩
    .subst hu;exact nilc none 0
    .subst hu;rcases Nat.eq_zero_or_pos len with h0|h0
     .subst h0;exact nilc _ cap
     .have hvs:len*i.size<=vs.size:=by
       rw[hkyl] at hcap;exact wI (wO _ hle) hcap
      have hrun:=run_append_nil (P:=P) w t ty e i z ht hi hz ⟨b,0,none⟩ len cap (vs.toList.take (len*i.size)) (by rw[wb,Array.length_toList];omega) (fun j x hj=>by
       have hj2:=(vu.1 hj).1;rw[wb] at hj2;rw[List.getElem?_take_of_lt (by omega)] at hj;rw[Br,v8,Ez (vs:=vs.toList) (by rw[Array.toArray_toList];exact hheap)];exact hj) h0 (by omega) (wI (Nat.mul_le_mul hlen hbig) (by decide))
      have hcap2:=grownCap_ge w len 0 e;obtain⟨ρ',f1,f2,f3⟩:=RR (e:=e) (n':=g.n+1) (len:=len) hm (by omega) hne hT (.inr rfl) (all:=(vs.toList.take (len*i.size)).toArray++Builtin.zeroCells z.cells (grownCap w len 0 e - len)) (cap:=grownCap w len 0 e) hcap2 hlen (by
       simp only[Array.size_append,List.size_toArray,size_zeroCells,hzs,wb,Array.length_toList,Nat.min_eq_left hvs,hkl];rw[<-wS];exact wO _ (by omega))
      exact⟨_,_, ρ',hrun,f1,f2,f3⟩
   .cases h
  .cases h
 .rename_i x _ _;split at h
  .rename_i k lo0 hi0 rn hiv;simp only[vq,vn] at h;obtain⟨t,ht0,tn,htn0,h⟩:=h;split at h
   .rename_i e kn hu hun;simp only[vn] at h;obtain⟨i,hi,z,hz,l,hl,h⟩:=h;split at h
    .rename_i hc;obtain⟨hts,hpos,hkl,hzs,hby⟩:=hc;cases h;obtain rfl:ts= #[t,tn]:=Array.ext' (Et _ _ hts);have hv:v= .slice none 0 0:=hs;subst hv;obtain⟨n,rfl,er,_,_⟩:=BZ hiv hx;have hp:=hps _ (wY.2 rfl);simp only[Pr.holds,DH,wG,wa,u0,er,U.toI] at hp;obtain⟨p0,p1⟩:=hp;obtain⟨n,rfl⟩:∃k:Nat,n=k:=⟨n.toNat,by omega⟩;have hT:T g.n= .list []:=by rw[hnew.head];rfl
     have hne:(l.map fun c=>(BN c).1)≠[]:=fun h=>by rw[h] at hkl;simp at hkl;omega
     rcases Nat.eq_zero_or_pos n with h0|h0
     .subst h0;obtain⟨ρ',f1,f2,g0,g1,g2,g3⟩:=RC (n':=g.n+1) (e:=e) (ks:=l.map fun c=>(BN c).1) hm (by omega) hT;refine⟨.slice none 0 0,w, ρ',?_,f1,f2,g0,g1,hT,⟨_,_,_,rfl⟩,fun ks' e' he=>?_⟩
      .have hw0:IntKind.i64.wrap 0=0:=by decide
       simp[Builtin.append_,run_underlying hu,run_underlying hun,sizeOf,typeInfo,hi,asInt,asIntOf,hw0]
      .rcases g3 ks' e' he with⟨a1,a2⟩|⟨b,cap',vs,a1,a2,a3,a4⟩
       .exact .inl ⟨a1,rfl⟩
       .cases a2
     .have hrun:=Go.Lib.run_append_nil_zeros (P:=P) w t tn ty e i z k kn hu hun hi hz n h0 hpos (by omega) (wI (Nat.mul_le_mul (show n<=68719476736 by omega) hby) (by decide));have hcap2:=grownCap_ge w n 0 e;obtain⟨ρ',f1,f2,f3⟩:=RR (e:=e) (n':=g.n+1) (len:=n) hm (by omega) hne hT (.inr rfl) (all:=Builtin.zeroCells z.cells n++Builtin.zeroCells z.cells (grownCap w n 0 e - n)) (cap:=grownCap w n 0 e) hcap2 (by omega) (by
       simp only[Array.size_append,size_zeroCells,hzs,hkl];rw[<-wS];exact wO _ (by omega))
      exact⟨_,_, ρ',hrun,f1,f2,f3⟩
    .cases h
   .cases h
  .simp only[vq,vn] at h;obtain⟨⟨k2,r2⟩,hr2,h⟩:=h;exact XY h hnew hps hm hs (Gk (EV hr2 hx)) ty
theorem Xi {ts:Array TypeId}{s x:AC}{v u:Value}(h:RD P ts s x m g=some r)(hnew:New T g.n r.us)(hps:∀q∈r.ps,q.holds T)(hm:AD T g.n ρ m w)(hs:AA T g.n ρ m w s v)(hx:AA T g.n ρ m w x u)(ty:TypeId):
  ∃z w' ρ',(Builtin.append_ ts ty #[v,u]).run P w= .ok z w'/\AE T g.n ρ m w ρ' r.m w'/\AD T (g.n+r.us.length) ρ' r.m w'/\AA T (g.n+r.us.length) ρ' r.m w' r.c z:=by
 unfold RD at h;split at h
 .simp only[vq,vn] at h;obtain⟨⟨k2,r2⟩,hr2,h⟩:=h;exact PE h hnew hps hm hs (Gk (EV hr2 hx)) ty
 .exact Wo h hnew hps hm hs hx ty
theorem C9 {v:Int}{k:IntKind}{y:Nat}{c:BoundsCode}(h0:0<=v)(h1:v<=y):(Instr.sliceBound (.int k v) y c).run P w= .ok v.toNat w:=by
 simp[Instr.sliceBound,asIntOf,h0,h1]
theorem YN {ok:Nat->Nat->Prop}{ks:List Kd}{l:List (List U)}{a:Option Addr}{cap lo hi size:Nat}(hne:ks≠[])(hsz:size=ks.length)(hl:l.length<=AF)(hlo:lo<=hi)(hhi:hi<=l.length)(hcap:l.length<=cap)
  (h3:0 < l.length->∃b o,a=some ⟨b,o,none⟩/\∀i us,l[i]? =some us->AX ok w ks b (o+i*ks.length) us):
  AM ok w (.list ks) (.list ((l.take hi).drop lo)) (.slice (if cap=lo then a else a.map (·.add (lo*size))) (hi - lo) (cap - lo)):=by
 have hlen:((l.take hi).drop lo).length=hi - lo:=by rw[List.length_drop,wb];omega
 refine⟨_,rfl,by omega,fun h=>absurd h hne,(if cap=lo then a else a.map (·.add (lo*size))),cap - lo,by rw[hlen],by omega,fun hp=>?_⟩;obtain⟨b,o,rfl,hc⟩:=h3 (by omega);refine⟨b,o+lo*size,?_,fun i us hi2=>?_⟩
 .rw[if_neg (by omega)];simp only[Option.map_some,Br]
 .have hj:=(vu.1 hi2).1;rw[hlen] at hj;rw[List.getElem?_drop,List.getElem?_take_of_lt (by omega)] at hi2;have:=hc _ _ hi2;rw[hsz,Nat.add_assoc,<-wS];exact this
def MC (T:Tab)(n:Nat)(ρ :Nat->Option Nat)(m:Mem)(w:World):Option AC->Option Value->Prop
 |none,v=>v=none
 |some c,v=>∃u,v=some u/\AA T n ρ m w c u
theorem Mb {t:TypeId}{x:AC}{lo hi:Option AC}{v:Value}{vlo vhi:Option Value}(h:UF P t x lo hi m g=some r)(hnew:New T g.n r.us)(hps:∀q∈r.ps,q.holds T)(hm:AD T g.n ρ m w)(hx:AA T g.n ρ m w x v)
  (hlo:MC T g.n ρ m w lo vlo) (hhi:MC T g.n ρ m w hi vhi):
  ∃z,(Instr.sliceAt t v vlo vhi none).run P w= .ok z w/\r.m=m/\AA T (g.n+r.us.length) ρ m w r.c z:=by
 unfold UF at h;split at h
 .rename_i k e hu;split at h
  .rename_i id off;split at h
   .rename_i hi2;cases h;obtain⟨i,hi⟩:=Option.isSome_iff_exists.1 hi2;obtain⟨b,hb,rfl,hp⟩:=hx;obtain rfl:vlo=none:=hlo;obtain rfl:vhi=none:=hhi;refine⟨.slice (some ⟨b,off,none⟩) k k,?_,rfl,b,hb,rfl,hp⟩;simp only[Instr.sliceAt,Sem.run_bind,run_underlying hu,Result.andThen_ok,Instr.sureAddr,Sem.run_pure,Instr.sliceBounds,BD hi,Nat.zero_mul,Nat.sub_zero,Br,Nat.add_zero,ite_self]
   .cases h
  .cases h
 .rename_i e hu;have hgo:∀v lo hi,(Instr.sliceAt t v lo hi none).run P w=(Instr.slice t v lo hi none).run P w:=by
   intro v lo hi;simp only[Instr.sliceAt,Sem.run_bind,run_underlying hu,Result.andThen_ok]
  rw[hgo];simp only[vq,vn] at h;obtain⟨i,hi0,h⟩:=h;split at h
  .rename_i k n0;split at h
   .rename_i hn;subst hn;cases h;obtain rfl:v= .slice none 0 0:=hx;obtain rfl:vlo=none:=hlo;obtain⟨u,rfl,hu2⟩:=hhi;obtain rfl:u= .int k 0:=hu2;refine⟨.slice none 0 0,?_,rfl,rfl⟩;simp[Instr.slice,run_underlying hu,Instr.sliceBounds,C9,BD hi0]
   .cases h
  .rename_i id y ks k n0;split at h
   .rename_i hn;subst hn;cases h;obtain⟨hy,hpad,hTy,⟨a0,len0,cap0,rfl⟩,hlink⟩:=hx;obtain rfl:vlo=none:=hlo;obtain⟨u,rfl,hu2⟩:=hhi;obtain rfl:u= .int k 0:=hu2;refine⟨.slice (if cap0=0 then a0 else a0.map (·.add (0*i.size))) 0 cap0,?_,rfl,hy,hpad,?_,fun ks' e' he=>?_⟩
    .simp[Instr.slice,run_underlying hu,Instr.sliceBounds,C9,BD hi0]
    .rw[hTy];exact⟨[],rfl,wX _,fun _=>rfl,_,cap0,rfl,wX _,fun h=>by simp at h⟩
    .rcases hlink ks' e' he with⟨l1,l2⟩|⟨b,len,cap,vs,l1,l2,⟨l3,_⟩,l4,l5⟩
     .cases l2;exact .inl ⟨l1,none,by rw[hTy];rfl⟩
     .cases l2;refine .inr ⟨b,cap0,vs,l1,?_,l4,l5⟩;rw[hTy];simp[U.toL,Br]
   .cases h
  .rename_i x lo hi _ _;simp only[vn] at h;obtain⟨⟨ks,r0⟩,hr0,h⟩:=h;simp only at h;split at h
   .rename_i hc;obtain⟨hsz,hpos⟩:=hc;have hne:ks≠[]:=fun h=>by rw[h] at hsz;simp at hsz;omega
    obtain⟨l,el,hml,hk,a,cap,rfl,hcap,h3⟩:=EV hr0 hx;have hev:∀{f:List U->U} {tg:Tg} {rs:List Rf} {us':List Ex},New T g.n (⟨tg,f,rs⟩::us')->T g.n=f (rs.map (Rf.eval T)):=fun h=>h.head;have fin:∀(lo hi:Nat) (l':List (List U)),lo<=hi->hi<=l.length->l'=(l.take hi).drop lo->T g.n= .list l'->AA T (g.n+1) ρ m w (.ro g.n ks) (.slice (if cap=lo then a else a.map (·.add (lo*i.size))) (hi - lo) (cap - lo)):=by
     intro lo hi l' h1 h2 h4 h5;refine⟨by omega,?_⟩;rw[h5,h4];exact YN hne hsz hml h1 h2 hcap h3
    split at h
    .
     simp only[vn] at h;obtain⟨⟨k,l1,h1,rb⟩,hb,h⟩:=h;cases h;obtain rfl:vlo=none:=hlo;obtain⟨u,rfl,hu2⟩:=hhi;obtain⟨j,rfl,ej,_,_⟩:=BZ hb hu2;have hp:=hps _ (wY.2 rfl);simp only[Pr.holds,Ik,wG,wa,u0,u1,el,ej,U.toI,U.toL] at hp;refine⟨_,?_,rfl,fin 0 j.toNat (l.take j.toNat) (wX _) (by omega) rfl ((hev hnew).trans ?_)⟩
     .simp only[Instr.slice,Sem.run_bind,run_underlying hu,Result.andThen_ok,Instr.sliceBounds,Sem.run_pure,C9 (P:=P) (w:=w) (k:=k) (c:= .sliceAcap) hp.1 (show j<=(cap:Int) by omega),BD hi0,if_true]
     .simp[L8,u0,u1,el,ej,U.toI,U.toL]
    .simp only[vn] at h;obtain⟨⟨k,l1,h1,ra⟩,ha,h⟩:=h;cases h;obtain rfl:vhi=none:=hhi;obtain⟨u,rfl,hu2⟩:=hlo;obtain⟨j,rfl,ej,_,_⟩:=BZ ha hu2;have hp:=hps _ (wY.2 rfl);simp only[Pr.holds,Ik,wG,wa,u0,u1,el,ej,U.toI,U.toL] at hp;refine⟨_,?_,rfl,fin j.toNat l.length (l.drop j.toNat) (by omega) (vr _) (by rw[List.take_length]) ((hev hnew).trans ?_)⟩
     .simp only[Instr.slice,Sem.run_bind,run_underlying hu,Result.andThen_ok,Instr.sliceBounds,Sem.run_pure,C9 (P:=P) (w:=w) (k:=k) (c:= .sliceB) hp.1 hp.2,BD hi0,Option.isSome_none,wM,if_false]
     .simp[X3,u0,u1,el,ej,U.toI,U.toL]
    .simp only[vn] at h;obtain⟨⟨k,l1,h1,ra⟩,ha,⟨k',l1',h1',rb⟩,hb,h⟩:=h;cases h;obtain⟨u,rfl,hu2⟩:=hlo;obtain⟨j,rfl,ej,_,_⟩:=BZ ha hu2;obtain⟨u,rfl,hu2⟩:=hhi;obtain⟨q,rfl,eq,_,_⟩:=BZ hb hu2;have hp:=hps _ (wY.2 rfl);simp only[Pr.holds,cd,wG,wa,u0,u1,u2,el,ej,eq,U.toI,U.toL] at hp;refine⟨_,?_,rfl,fin j.toNat q.toNat ((l.take q.toNat).drop j.toNat) (by omega) (by omega) rfl ((hev hnew).trans ?_)⟩
     .have hq:(q.toNat:Int)=q:=by omega
      simp only[Instr.slice,Sem.run_bind,run_underlying hu,Result.andThen_ok,Instr.sliceBounds,Sem.run_pure,C9 (P:=P) (w:=w) (k:=k') (c:= .sliceAcap) (show 0<=q by omega) (show q<=(cap:Int) by omega),C9 (P:=P) (w:=w) (k:=k) (c:= .sliceB) hp.1 (show j<=((q.toNat:Nat):Int) by omega),BD hi0,if_true,Option.isSome_none,wM,if_false]
     .simp[cz,u0,u1,u2,el,ej,eq,U.toI,U.toL]
    .cases h
   .cases h
 .cases h
theorem S4 {t:TypeId}{a:Act}{o:Oper}{x y:Operand}{cx cy:AC}(h:ME P t cx cy m g=some r)(hnew:New T g.n r.us)(hps:∀q∈r.ps,q.holds T)(hm:AD T g.n ρ m w)
  (ho:o.op= .makeSlice t x y) (hx:AA T g.n ρ m w cx (a.eval x)) (hy:AA T g.n ρ m w cy (a.eval y)):BC T g ρ m w ((execOp a.eval o).run P w) r:=by
 unfold ME at h;split at h
 .rename_i e hu;simp only[vq,vn] at h;obtain⟨i,hi,z,hz,⟨k,l0,h0,rr⟩,hiv,l,hl,h⟩:=h;simp only at h;split at h
  .rename_i hc;obtain⟨hbe,rfl,hpos,hkl,hzs,hby⟩:=hc;cases h;obtain rfl:cx=cy:=AC.beq_eq _ _ hbe;obtain⟨n,en,er,_,_⟩:=BZ hiv hx;obtain⟨n',en',er',_,_⟩:=BZ hiv hy;obtain rfl:n=n':=by rw[er] at er';injection er'
   have hp:=hps _ (wY.2 rfl);simp only[Pr.holds,DH,wG,wa,u0,er,U.toI] at hp;obtain⟨p0,p1⟩:=hp;have hT:T g.n= .list []:=by rw[hnew.head];rfl
   have hw:IntKind.i64.wrap n=n:=by
    exact Eb .i64 n (by rw[show IntKind.i64.min= -9223372036854775808 from rfl];omega) (by rw[show IntKind.i64.max=9223372036854775807 from rfl];omega)
   have hmul:i.bytes*n<=2 ^ 48:=by
    have:(i.bytes:Int)*n<=1024*68719476736:=Int.mul_le_mul (by omega) p1 p0 (by decide);omega
   have hrun:∃arr:Array Value,arr.size=n.toNat*i.size/\(execOp a.eval o).run P w= .ok (.value (.slice (some ⟨w.heap.size,0,none⟩) n.toNat n.toNat)) (w.alloc (.cells arr e)):=by
    have hti:(typeInfo e).run P w= .ok i w:=by simp[typeInfo,hi]
    have hc1:¬(i.bytes*n > 2 ^ 48):=by omega
    have hc2:¬(n < 0):=by omega
    simp only[execOp,ho,Instr.makeSlice,Sem.run_bind,run_underlying hu,Result.andThen_ok,asInt,asIntOf,en,en',Sem.run_pure,hti,hw,hc1,hc2,decide_false,Bool.or_self,wM,gt_iff_lt,Int.lt_irrefl,if_false,run_askRoom,BD hi];by_cases h0:n.toNat*i.size=0
    .refine⟨(Array.range (n.toNat*i.size)).map (fun x=>(#[]:Array Value)[x % (#[]:Array Value).size]!),by simp,?_⟩;simp only[h0,if_true,Sem.run_pure,Result.andThen_ok,newRow];simp
    .refine⟨(Array.range (n.toNat*i.size)).map (fun x=>z.cells[x % z.cells.size]!),by simp,?_⟩;simp only[h0,if_false,Sem.run_bind,Fq hi hz,Sem.run_pure,Result.andThen_ok,newRow];simp
   obtain⟨arr,hsz,hrun⟩:=hrun;have hne:(l.map fun c=>(BN c).1)≠[]:=fun h=>by rw[h] at hkl;simp at hkl;omega
   obtain⟨ρ',f1,f2,f3⟩:=RR (e:=e) (n':=g.n+1) (len:=n.toNat) (cap:=n.toNat) hm (by omega) hne hT (.inl rfl) (all:=arr) (vr _) (by omega) (by rw[hkl,hsz];exact vr _);exact⟨_,_, ρ',.inl hrun,f1,f2,f3⟩
  .cases h
 .cases h
theorem gK {big:Bool}{ts:Array TypeId}{t:TypeId}{v u z:Value}(h:(if big then Builtin.max_ ts t #[v,u] else Builtin.min_ ts t #[v,u]).run P w= .ok z w):
  ((if big then Builtin.max2 else Builtin.min2) v u).run P w= .ok z w:=by
 cases big with
 |true=>simpa [Builtin.max_] using h
 |false=>simpa [Builtin.min_] using h
theorem Jh {big:Bool}:∀(l:List AC) (x:AC) (v:Value) (us:List Value) (g:G) (r:R),N9 big x l m g=some r->New T g.n r.us->AA T g.n ρ m w x v->AB T g.n ρ m w l us->
  ∃z,(us.foldlM (if big then Builtin.max2 else Builtin.min2) v).run P w= .ok z w/\r.m=m/\AA T (g.n+r.us.length) ρ m w r.c z
 |[],x,v,us,g,r,h,hnew,hx,hl=>by
  obtain rfl:us=[]:=hl;cases h;exact⟨v,by simp,rfl,hx⟩
 |y::l,x,v,us,g,r,h,hnew,hx,hl=>by
  obtain⟨u,us',rfl,hy,hl'⟩:=hl;simp only[N9,vq,vn] at h;obtain⟨r1,hr1,r2,hr2,h⟩:=h;cases h;obtain⟨z,k1,k2,k3⟩:=Iu (P:=P) hr1 (fun j u hj=>hnew j u (by rw[wE (vu.1 hj).1];exact hj)) hx hy #[] 0;have hl2:AB T (g.n+r1.us.length) ρ m w l us':=AB.mono0 (AE.refl T g.n ρ m w) (by omega) l us' hl';obtain⟨z2,q1,q2,q3⟩:=Jh l r1.c z us' { g with n:=g.n+r1.us.length } r2 hr2 (fun j u hj=>by
   have:=hnew (r1.us.length+j) u (by rw[wF (by omega),Nat.add_sub_cancel_left];exact hj);rw[<-Nat.add_assoc] at this;exact this) k3 hl2
  refine⟨z2,?_,rfl,?_⟩
  .simp only[List.foldlM_cons,Sem.run_bind,gK k1,Result.andThen_ok];exact q1
  .simp only[wC];rw[<-Nat.add_assoc];exact q3
end
section
variable {P:Program}{T:Tab}{n n':Nat}{ρ ρ':Nat->Option Nat}{m m':Mem}{w w':World}{g:G}{r:R}
theorem Uy (hm:AD T n ρ m w){x y:Nat}(hx:x < n')(hy:y < n')(hnn:n<=n'){e:TypeId}{ks:List Kd}{l:List (List U)}{vs us:List Value}(hne:ks≠[])(hv:AU (AS T ρ m w) w ks l vs)(hk:l.length<=AF)(hT:T x= .list l)(hTy:T y= .int l.length)
  {w1:World} (hd:w1=w\/w1=w.drew) {cap:Nat} (hcap:l.length<=cap) (hsz:cap*ks.length<=(vs++us).length):
  ∃ ρ',AE T n ρ m w ρ' (m++[.mrow x y ks e]) (w1.alloc (.cells (vs++us).toArray e))/\AD T n' ρ' (m++[.mrow x y ks e]) (w1.alloc (.cells (vs++us).toArray e))/\
   AA T n' ρ' (m++[.mrow x y ks e]) (w1.alloc (.cells (vs++us).toArray e)) (.mr m.length y) (.slice (some ⟨w.heap.size,0,none⟩) l.length cap):=by
 have hheap:w1.heap=w.heap:=by rcases hd with rfl|rfl<;>rfl
 have hs0:=Gz (T:=T) hm (.cells (vs++us).toArray e) (.mrow x y ks e);have hs:AE T n ρ m w (B5 ρ m.length w.heap.size) (m++[.mrow x y ks e]) (w1.alloc (.cells (vs++us).toArray e)):=by
  rcases hd with rfl|rfl
  .exact hs0
  .exact⟨hs0.os,hs0.tape,hs0.output,hs0.size,hs0.mlen,hs0.rho,hs0.untr,hs0.fresh,hs0.old,hs0.tok,hs0.row⟩
 have hat:Mem.at (m++[.mrow x y ks e]) m.length= .mrow x y ks e:=by rw[AN,if_pos rfl]
 have hnew:(w1.alloc (.cells (vs++us).toArray e)).heap[w.heap.size]? =some (.cells (vs++us).toArray e (0,0)):=by
  rw[<-hheap];exact CX _ _
 have hinj:∀id id' b,(Mem.at (m++[.mrow x y ks e]) id).tracked=true->(Mem.at (m++[.mrow x y ks e]) id').tracked=true->B5 ρ m.length w.heap.size id=some b->B5 ρ m.length w.heap.size id'=some b->id=id':=by
  intro id id' b ht ht' hr hr';rw[AN] at ht ht';by_cases he:id=m.length
  .by_cases he':id'=m.length
   .omega
   .rw[if_neg he'] at ht';subst he;rw[Af] at hr;cases hr;rw[Ad _ _ _ he'] at hr';have:=hm.lt ht' hr';omega
  .rw[if_neg he] at ht;rw[Ad _ _ _ he] at hr;by_cases he':id'=m.length
   .subst he';rw[Af] at hr';cases hr';have:=hm.lt ht hr;omega
   .rw[if_neg he'] at ht';rw[Ad _ _ _ he'] at hr';exact hm.inj id id' b ht ht' hr hr'
 refine⟨_,hs,⟨fun id=>?_,hinj,fun b off h=>hm.fr b off (wI hs.size h)⟩,⟨hy,by rw[hat];exact (fun h=>by cases h)⟩,l.length,some ⟨w.heap.size,0,none⟩,cap,hTy,⟨by omega,by omega⟩,by simp,⟨by omega,fun _=>⟨_,rfl⟩⟩,fun x' ks' e' he'=>?_⟩
 .by_cases he:id=m.length
  .subst he;rw[hat];exact⟨⟨hx,hy⟩,_,hT,hTy,⟨hk,hne⟩,.inr ⟨w.heap.size,vs,us,Af _ _ _,hnew,AU.mono (fun _ _ h=>hs.safe0 h) hv,fun off=>hm.fr _ off (vr _)⟩⟩
  .by_cases ht:(m.at id).tracked=true
   .refine BB.step hs hm hnn (by rw[AN,if_neg he]) (Ad _ _ _ he) (fun b hb=>?_);have:=hm.lt ht hb;rw[At _ _ _ (by rw[hheap];exact this),hheap]
   .rw[AN,if_neg he];cases hx:m.at id with
    |pad=>trivial
    |gone=>trivial
    |cells=>rw[hx] at ht;exact absurd rfl ht
    |lp=>rw[hx] at ht;exact absurd rfl ht
    |tok=>rw[hx] at ht;exact absurd rfl ht
    |mrow=>rw[hx] at ht;exact absurd rfl ht
    |mapb=>rw[hx] at ht;exact absurd rfl ht
 .rw[hat] at he';cases he';exact .inr ⟨w.heap.size,_,Af _ _ _,rfl,hnew,by simpa using hsz⟩
theorem Tj (hm:AD T n ρ m w){x y:Nat}(hx:x < n')(hy:y < n')(hnn:n<=n'){e:TypeId}{ks:List Kd}{a:Option Addr}(hne:ks≠[])(hT:T x= .list [])(hTy:T y= .int 0):
  ∃ ρ',AE T n ρ m w ρ' (m++[.mrow x y ks e]) w/\AD T n' ρ' (m++[.mrow x y ks e]) w/\AA T n' ρ' (m++[.mrow x y ks e]) w (.mr m.length y) (.slice a 0 0):=by
 let ρ':Nat->Option Nat:=fun j=>if j=m.length then none else ρ j
 have same: ρ' m.length=none:=by simp[ρ']
 have other:∀j,j≠m.length-> ρ' j= ρ j:=fun j h=>by simp[ρ',h]
 have hfree:m.at m.length= .pad:=Mem.at_ge (vr _);have hs:AE T n ρ m w ρ' (m++[.mrow x y ks e]) w:={
  os:=rfl
  tape:=rfl
  output:=rfl
  size:=vr _
  mlen:=fun id h=>by rw[AN];split<;>first|exact (fun h=>by cases h)|exact h
  rho:=fun id h=>by
   have:id≠m.length:=fun e=>by subst e;exact A7 h hfree
   rw[AN,if_neg this];exact⟨other _ this,h⟩
  untr:=fun id h ht=>by
   have:id≠m.length:=fun e=>by subst e;exact h hfree
   rw[AN,if_neg this] at ht;exact ht
  fresh:=fun id b h ht hr=>by
   by_cases e:id=m.length
   .subst e;rw[same] at hr;cases hr
   .rw[AN,if_neg e,h] at ht;cases ht
  old:=fun k hk _=>rfl
  tok:=fun id y ky e h=>by
   have:id≠m.length:=fun e=>by subst e;rw[hfree] at h;cases h
   exact .inl ⟨by rw[AN,if_neg this];exact h,other _ this,fun b hb=>rfl⟩
  row:=fun id x' y' ky e h=>by
   have:id≠m.length:=fun e=>by subst e;rw[hfree] at h;cases h
   exact .inr ⟨x',y',ky,by rw[AN,if_neg this];exact h,rfl,.inl ⟨rfl,other _ this,fun b vs hb hv=>⟨vs,hv,rfl⟩⟩⟩ }
 have hat:Mem.at (m++[.mrow x y ks e]) m.length= .mrow x y ks e:=by rw[AN,if_pos rfl]
 refine⟨ρ',hs,⟨fun id=>?_,fun id id' b ht ht' hr hr'=>?_,fun b off h=>hm.fr b off h⟩,⟨hy,by rw[hat];exact (fun h=>by cases h)⟩,0,a,0,hTy,⟨by omega,by omega⟩,rfl,⟨by omega,fun h=>by omega⟩,fun x' ks' e' he'=> .inl ⟨same,rfl⟩⟩
 .by_cases he:id=m.length
  .subst he;rw[hat];exact⟨⟨hx,hy⟩,_,hT,hTy,⟨wX _,hne⟩,.inl ⟨same,rfl⟩⟩
  .by_cases ht:(m.at id).tracked=true
   .exact BB.step hs hm hnn (by rw[AN,if_neg he]) (other _ he) (fun b hb=>rfl)
   .rw[AN,if_neg he];cases hx:m.at id with
    |pad=>trivial
    |gone=>trivial
    |cells=>rw[hx] at ht;exact absurd rfl ht
    |lp=>rw[hx] at ht;exact absurd rfl ht
    |tok=>rw[hx] at ht;exact absurd rfl ht
    |mrow=>rw[hx] at ht;exact absurd rfl ht
    |mapb=>rw[hx] at ht;exact absurd rfl ht
 .by_cases he:id=m.length
  .subst he;rw[same] at hr;cases hr
  .by_cases he':id'=m.length
   .subst he';rw[same] at hr';cases hr'
   .rw[AN,if_neg he] at ht;rw[AN,if_neg he'] at ht';rw[other _ he] at hr;rw[other _ he'] at hr';exact hm.inj id id' b ht ht' hr hr'
theorem Ia {e:TypeId}{ks:List Kd}(h:LH P e=some ks):∃i z l,P.info? e=some i/\i.zero=some z/\(II z).cellsOf=some l/\l.length=i.size/\0 < i.size/\ks=l.map (fun c=>(BN c).1)/\ks≠[]:=by
 unfold LH at h;simp only[vq,vn] at h;obtain⟨i,hi,z,hz,l,hl,h⟩:=h;split at h
 .rename_i hc;cases h;refine⟨i,z,l,hi,hz,hl,hc.1,hc.2,rfl,fun h=>?_⟩;have h2:l.length=0:=by simpa using congrArg List.length h
  have:=hc.1;have:=hc.2;omega
 .cases h
theorem PM {ks:List Kd}{e:TypeId}{us:List Ex}(hnew:New T g.n ((FO ks e m g).us++us)):T g.n= .list []/\T (g.n+1)= .int 0:=by
 refine⟨by rw[hnew.left.head];rfl,?_⟩;have:=hnew 1 ⟨ "id",oId,[.c (.int 0)]⟩ rfl;rw[this];rfl
theorem MR {t:TypeId}{len:Nat}{a:Act}{o:Oper}{parts:Array (Nat × Operand)}(h:Ge P t len parts.size m g=some r)(hnew:New T g.n r.us)(hm:AD T g.n ρ m w)
  (ho:o.op= .buildSlice t len parts):BC T g ρ m w ((execOp a.eval o).run P w) r:=by
 unfold Ge at h;split at h
 .rename_i e hu;split at h
  .rename_i hc;obtain⟨rfl,hp0⟩:=hc;simp only[wK] at h;obtain⟨ks,hk,h⟩:=h;subst h;obtain⟨i,z,l,hi,hz,hl,hlen,hpos,_,hne⟩:=Ia hk;have hparts:parts= #[]:=Array.eq_empty_of_size_eq_zero hp0;subst hparts;obtain⟨h1,h2⟩:=PM (us:=[]) (by simpa using hnew);obtain⟨ρ',k1,k2,k3⟩:=Uy (e:=e) (n':=g.n+2) (x:=g.n) (y:=g.n+1) (us:=[]) hm (by omega) (by omega) (by omega) hne (AU.nil _ _) (wX _) h1 h2 (.inl rfl) (cap:=0) (wX _) (by simp);refine⟨_,_, ρ',.inl ?_,k1,k2,k3⟩;simp[execOp,ho,Instr.buildSlice,run_underlying hu,BD hi,Instr.fill,newRow];exact congrArg (fun q=>w.alloc (Obj.cells q e)) (Array.eq_empty_of_size_eq_zero (by simp))
  .cases h
 .cases h
theorem Oc {t e:TypeId}(hu:P.underlying t=some (.slice e))(v:Value)(lo hi mx:Option Value):(Instr.sliceAt t v lo hi mx).run P w=(Instr.slice t v lo hi mx).run P w:=by
 simp only[Instr.sliceAt,Sem.run_bind,run_underlying hu,Result.andThen_ok]
theorem Sj {t:TypeId}{x:AC}{lo:Option AC}{hi mx:AC}{v vhi vmx:Value}{vlo:Option Value}(h:LZ P t x lo hi mx m g=some r)(hnew:New T g.n r.us)(hm:AD T g.n ρ m w)(hx:AA T g.n ρ m w x v)
  (hlo:MC T g.n ρ m w lo vlo) (hhi:AA T g.n ρ m w hi vhi) (hmx:AA T g.n ρ m w mx vmx):
  ∃z ρ',(Instr.sliceAt t v vlo (some vhi) (some vmx)).run P w= .ok z w/\AE T g.n ρ m w ρ' r.m w/\AD T (g.n+r.us.length) ρ' r.m w/\AA T (g.n+r.us.length) ρ' r.m w r.c z:=by
 unfold LZ at h;split at h
 .rename_i e k n0 hu;split at h
  .rename_i hc;obtain⟨hbeq,rfl,hrv⟩:=hc;have:=AC.beq_eq _ _ hbeq;subst this;simp only[wK] at h;obtain⟨ks,hk,h⟩:=h;subst h;obtain⟨i,z,l,hi,hz,hl,hlen,hpos,_,hne⟩:=Ia hk;obtain⟨h1,h2⟩:=PM (us:=[]) (by simpa using hnew);obtain⟨⟨kx,rx⟩,hrx⟩:=Option.isSome_iff_exists.1 hrv;obtain⟨l0,_,_,_,a,cap,rfl,hcap,_⟩:=EV hrx hx;obtain rfl:vlo=none:=hlo;obtain rfl:vhi= .int k 0:=hhi;obtain rfl:vmx= .int k 0:=hmx;obtain⟨ρ',k1,k2,k3⟩:=Tj (e:=e) (n':=g.n+2) (x:=g.n) (y:=g.n+1) (a:=a) hm (by omega) (by omega) (by omega) hne h1 h2;refine⟨_, ρ',?_,k1,k2,k3⟩;rw[Oc hu];simp[Instr.slice,run_underlying hu,Instr.sliceBounds,C9,BD hi]
  .cases h
 .cases h
theorem OS {ts:Array TypeId}{s x:AC}{v u:Value}(h:Iz P ts s x m g=some r)(hnew:New T g.n r.us)(hps:∀q∈r.ps,q.holds T)(hm:AD T g.n ρ m w)(hs:AA T g.n ρ m w s v)(hx:AA T g.n ρ m w x u)(ty:TypeId):
  ∃z w' ρ',(Builtin.append_ ts ty #[v,u]).run P w= .ok z w'/\AE T g.n ρ m w ρ' r.m w'/\AD T (g.n+r.us.length) ρ' r.m w'/\AA T (g.n+r.us.length) ρ' r.m w' r.c z:=by
 unfold Iz at h;simp only[vq,vn] at h;obtain⟨t,ht0,h⟩:=h;split at h
 .rename_i e hu;simp only[vn] at h;obtain⟨ks,hk,⟨k2,r2⟩,hr2,r3,h3,h⟩:=h;cases h;obtain⟨i,z,l,hi,hz,hl,hlen,hpos,_,hne⟩:=Ia hk;obtain⟨h1,h2⟩:=PM hnew;have hv:v= .slice none 0 0:=hs;subst hv;obtain⟨ρ1,k1,k2',k3⟩:=Tj (e:=e) (n':=g.n+2) (x:=g.n) (y:=g.n+1) (a:=none) hm (by omega) (by omega) (by omega) hne h1 h2;have hx1:AA T (g.n+2) ρ1 (m++[.mrow g.n (g.n+1) ks e]) w x u:=AA.mono0 k1 (by omega) _ _ hx;obtain⟨z',w', ρ',q1,q2,q3,q4⟩:=PE (g:={ g with n:=g.n+2 }) (T:=T) (ρ := ρ1) (w:=w) h3 (fun j u hj=>by
   have:=hnew (j+2) u (by simpa [FO] using hj);rwa [show g.n+(j+2)=g.n+2+j by omega] at this) hps k2' k3 (Gk (EV hr2 hx1)) ty
  have en:g.n+((FO ks e m g).us++r3.us).length=g.n+2+r3.us.length:=by simp[FO];omega
  refine⟨z',w', ρ',q1,k1.trans hm (show g.n<=g.n+2 by omega) q2,?_,?_⟩
  .show AD T (g.n+((FO ks e m g).us++r3.us).length) ρ' r3.m w';rw[en];exact q3
  .show AA T (g.n+((FO ks e m g).us++r3.us).length) ρ' r3.m w' r3.c z';rw[en];exact q4
 .cases h
theorem X0 {t:TypeId}{x:AC}{lo:Option AC}{hi mx:AC}{v vhi vmx:Value}{vlo:Option Value}(h:RP P t x lo hi mx m g=some r)(hnew:New T g.n r.us)(hps:∀q∈r.ps,q.holds T)(hm:AD T g.n ρ m w)(hx:AA T g.n ρ m w x v)
  (hlo:MC T g.n ρ m w lo vlo) (hhi:AA T g.n ρ m w hi vhi) (hmx:AA T g.n ρ m w mx vmx):
  ∃z ρ',(Instr.sliceAt t v vlo (some vhi) (some vmx)).run P w= .ok z w/\AE T g.n ρ m w ρ' r.m w/\AD T (g.n+r.us.length) ρ' r.m w/\AA T (g.n+r.us.length) ρ' r.m w r.c z:=by
 unfold RP at h;split at h
 .rename_i e hu;simp only[vq,vn] at h;obtain⟨i,hi0,⟨k,l1,h1,rb⟩,hb,h⟩:=h;simp only at h;split at h
  .rename_i hbeq;have:=AC.beq_eq _ _ hbeq;subst this;obtain rfl:vlo=none:=hlo;obtain⟨j,rfl,ej,_,_⟩:=BZ hb hhi;obtain⟨j',rfl,ej',_,_⟩:=BZ hb hmx;obtain rfl:j=j':=by rw[ej] at ej';exact U.int.inj ej'
   rw[Oc hu];split at h
   .rename_i k' n0;split at h
    .rename_i hn;subst hn;cases h;obtain rfl:v= .slice none 0 0:=hx;have:Value.int k j= .int k' 0:=hhi;cases this;refine⟨.slice none 0 0, ρ,?_,AE.refl _ _ _ _ _,hm,rfl⟩;simp[Instr.slice,run_underlying hu,Instr.sliceBounds,C9,BD hi0]
    .cases h
   .rename_i x hi _ _;simp only[vn] at h;obtain⟨⟨ks,r0⟩,hr0,h⟩:=h;simp only at h;split at h
    .rename_i hc;obtain⟨hsz,hpos⟩:=hc;have hne:ks≠[]:=fun h=>by rw[h] at hsz;simp at hsz;omega
     obtain⟨l,el,hml,hk,a,cap,rfl,hcap,h3⟩:=EV hr0 hx;have hgo:∀(hp:(⟨ "take",Ik,[r0,rb]⟩:Pr).holds T),(Instr.slice t (.slice a l.length cap) none (some (.int k j)) (some (.int k j))).run P w= .ok (.slice a (l.take j.toNat).length (l.take j.toNat).length) w/\(0<=j/\j<=l.length):=by
      intro hp;simp only[Pr.holds,Ik,u0,u1,wG,wa,el,ej,U.toL,U.toI] at hp;refine⟨?_,hp⟩;have hlt:(l.take j.toNat).length=j.toNat:=by rw[wb];omega
      rw[hlt];have b1:(Instr.sliceBound (.int k j) cap .slice3Acap).run P w= .ok j.toNat w:=C9 hp.1 (by omega);have b2:(Instr.sliceBound (.int k j) j.toNat .slice3B).run P w= .ok j.toNat w:=C9 hp.1 (by omega);simp only[Instr.slice,Sem.run_bind,run_underlying hu,Result.andThen_ok,Instr.sliceBounds,b1,b2,Sem.run_pure,BD hi0,if_true,Nat.sub_zero,Nat.zero_mul];split
      .rfl
      .obtain⟨b,o,rfl,_⟩:=h3 (by omega);simp[Br]
     have hkd:∀(hj:0<=j/\j<=l.length),AM (AS T ρ m w) w (.list ks) (.list (l.take j.toNat)) (.slice a (l.take j.toNat).length (l.take j.toNat).length):=by
      intro hj;have hlt:(l.take j.toNat).length=j.toNat:=by rw[wb];omega
      refine⟨_,rfl,by rw[hlt];omega,fun h=>absurd h hne,a,_,rfl,vr _,fun hp=>?_⟩;obtain⟨b,o,rfl,hc⟩:=h3 (by rw[hlt] at hp;omega);refine⟨b,o,rfl,fun i us hi=>hc i us ?_⟩;rw[List.getElem?_take] at hi;split at hi
      .exact hi
      .cases hi
     split at h
     .rename_i id y kv _;split at h
      .rename_i y' ks2 e' hid;split at h
       .rename_i hcc;obtain⟨⟨rfl,rfl⟩,hkb⟩:=hcc;have:=Kd.beqs_eq _ _ hkb;subst this;cases h;obtain⟨hrun,hj⟩:=hgo (hps _ (wY.2 rfl));have hT:T g.n= .list (l.take j.toNat):=by
         rw[hnew.head];simp[Ex.eval,L8,u0,u1,el,ej,U.toL,U.toI]
        obtain⟨hyn,hne0,_,_⟩:=hx;let ρ':Nat->Option Nat:=fun q=>if q=id then none else ρ q
        have same: ρ' id=none:=by simp[ρ']
        have other:∀q,q≠id-> ρ' q= ρ q:=fun q h=>by simp[ρ',h]
        obtain⟨f1,f2⟩:=OA (ρ':= ρ') (w':=w) (n':=g.n+1) (ks:=ks) hm (by omega) hid other rfl rfl rfl (vr _) (fun _ _ _=>rfl) (fun _ _ _ _=>rfl) (fun b' hb'=>by rw[same] at hb';cases hb') hT (.inl same);have hat:Mem.at (m.set id (.tok g.n ks e)) id= .tok g.n ks e:=by rw[DI m id _ id hne0,if_pos rfl]
        refine⟨_, ρ',hrun,f1,f2,by simp,by rw[hat];exact (fun h=>by cases h),?_,fun ks'' e'' he''=> .inl ⟨same,a,by rw[hT];rfl⟩⟩;rw[hT];exact AM.mono (fun _ _ hs=>f1.safe0 hs) _ _ _ (hkd hj)
       .cases h
      .cases h
     .cases h;obtain⟨hrun,hj⟩:=hgo (hps _ (wY.2 rfl));have hT:T g.n= .list (l.take j.toNat):=by
       rw[hnew.head];simp[Ex.eval,L8,u0,u1,el,ej,U.toL,U.toI]
      obtain⟨ρ',f1,f2,f3⟩:=Uc (n':=g.n+1) (e:=e) (ks:=ks) hm (by omega) hT (hkd hj);exact⟨_, ρ',hrun,f1,f2,f3⟩
    .cases h
  .cases h
 .cases h
theorem R7 (zs:List Value)(hz:0 < zs.length):∀n:Nat,(List.range (n*zs.length)).map (fun x=>zs.toArray[x % zs.toArray.size]!)=(List.replicate n zs).flatten
 |0=>by simp
 |n+1=>by
  have ih:=R7 zs hz n;rw[show (n+1)*zs.length=zs.length+n*zs.length by rw[wS];omega,List.range_add,v7,List.map_map,List.replicate_succ,List.flatten_cons,<-ih];congr 1
  .apply List.ext_getElem?;intro k;rw[wW];by_cases hk:k < zs.length
   .rw[List.getElem?_range hk];simp[Nat.mod_eq_of_lt hk,hk]
   .rw[wV (by simp;omega),wV (by omega)];rfl
  .apply List.map_congr_left;intro x _;simp
theorem Ao.rep {ok:Nat->Nat->Prop}{ks:List Kd}{us:List U}{vs:List Value}(h:AJ ok w ks us vs):∀n:Nat,Ao ok w ks (List.replicate n us) (List.replicate n vs)
 |0=>rfl
 |n+1=>⟨vs,List.replicate n vs,rfl,h,Ao.rep h n⟩
theorem Wp {t:TypeId}{a:Act}{o:Oper}{x y:Operand}{cx cy:AC}(h:O7 P t cx cy m g=some r)(hnew:New T g.n r.us)(hps:∀q∈r.ps,q.holds T)(hm:AD T g.n ρ m w)
  (ho:o.op= .makeSlice t x y) (hx:AA T g.n ρ m w cx (a.eval x)) (hy:AA T g.n ρ m w cy (a.eval y)):BC T g ρ m w ((execOp a.eval o).run P w) r:=by
 unfold O7 at h;split at h
 .rename_i e hu;simp only[vq,vn] at h;obtain⟨i,hi,z,hz,⟨k,l0,h0,rr⟩,hiv,l,hl,h⟩:=h;simp only at h;split at h
  .rename_i hc;obtain⟨hbe,rfl,hpos,hkl,hzs,hby⟩:=hc;cases h;obtain rfl:cx=cy:=AC.beq_eq _ _ hbe;obtain⟨n,en,er,_,_⟩:=BZ hiv hx;obtain⟨n',en',er',_,_⟩:=BZ hiv hy;obtain rfl:n=n':=by rw[er] at er';injection er'
   have hp:=hps _ (wY.2 rfl);simp only[Pr.holds,DH,wG,wa,u0,er,U.toI] at hp;obtain⟨p0,p1⟩:=hp;have hT:T g.n= .list (List.replicate n.toNat (l.map fun c=>(BN c).2.eval T)):=by
    rw[hnew.head];simp[Ex.eval,eC,u0,er,U.toI,List.map_map]
   have hTy:T (g.n+1)= .int (List.replicate n.toNat (l.map fun c=>(BN c).2.eval T)).length:=by
    have:=hnew 1 ⟨ "id",oId,[rr]⟩ rfl;rw[this];simp[Ex.eval,oId,u0,er];omega
   have hw:IntKind.i64.wrap n=n:=by
    exact Eb .i64 n (by rw[show IntKind.i64.min= -9223372036854775808 from rfl];omega) (by rw[show IntKind.i64.max=9223372036854775807 from rfl];omega)
   have hmul:i.bytes*n<=2 ^ 48:=by
    have:(i.bytes:Int)*n<=1024*68719476736:=Int.mul_le_mul (by omega) p1 p0 (by decide);omega
   obtain⟨zs,z1,z2,z3,z4⟩:=CC hl (GJ (T:=T) (n:=g.n) (ρ := ρ) (m:=m) (w:=w) z);have hzl:zs.length=i.size:=by rw[z1] at hzs;simpa using hzs
   have hrun:(execOp a.eval o).run P w= .ok (.value (.slice (some ⟨w.heap.size,0,none⟩) n.toNat n.toNat)) (w.alloc (.cells (List.replicate n.toNat zs).flatten.toArray e)):=by
    have hti:(typeInfo e).run P w= .ok i w:=by simp[typeInfo,hi]
    have hc1:¬(i.bytes*n > 2 ^ 48):=by omega
    have hc2:¬(n < 0):=by omega
    simp only[execOp,ho,Instr.makeSlice,Sem.run_bind,run_underlying hu,Result.andThen_ok,asInt,asIntOf,en,en',Sem.run_pure,hti,hw,hc1,hc2,decide_false,Bool.or_self,wM,gt_iff_lt,Int.lt_irrefl,if_false,run_askRoom,BD hi];by_cases h0:n.toNat*i.size=0
    .have hn0:n.toNat=0:=by rcases Nat.mul_eq_zero.1 h0 with h|h<;>omega
     simp only[h0,if_true,Sem.run_pure,Result.andThen_ok,newRow,hn0];simp;exact congrArg (fun q=>w.alloc (Obj.cells q e)) (Array.eq_empty_of_size_eq_zero (by simp))
    .have hr:=R7 zs (by omega) n.toNat;have he:(Array.range (n.toNat*i.size)).map (fun x=>z.cells[x % z.cells.size]!)=(List.replicate n.toNat zs).flatten.toArray:=by
      apply Array.ext';rw[Array.toList_map,Array.toList_range,<-hzl,z1,hr]
     simp only[h0,if_false,Sem.run_bind,Fq hi hz,Sem.run_pure,Result.andThen_ok,newRow,he];simp
   have hne:(l.map fun c=>(BN c).1)≠[]:=fun h=>by rw[h] at hkl;simp at hkl;omega
   have hrv:AU (AS T ρ m w) w (l.map fun c=>(BN c).1) (List.replicate n.toNat (l.map fun c=>(BN c).2.eval T)) (List.replicate n.toNat zs).flatten:=⟨_,rfl,Ao.rep (AJ.ofC z3 z2) _⟩;obtain⟨ρ',f1,f2,f3⟩:=Uy (e:=e) (n':=g.n+2) (x:=g.n) (y:=g.n+1) (us:=[]) hm (by omega) (by omega) (by omega) hne hrv (by simp[AF];omega) hT hTy (.inl rfl) (cap:=n.toNat) (by simp) (by rw[List.append_nil,hrv.len];simp);rw[List.append_nil] at f1 f2 f3;rw[List.length_replicate] at f3;exact⟨_,_, ρ',.inl hrun,f1,f2,f3⟩
  .cases h
 .cases h
theorem Ny.flat:∀{ls:List (List AC)} {vss:List (List Value)},Ny T n ρ m w ls vss->AB T n ρ m w ls.flatten vss.flatten
 |[],_,h=>by rw[show _=[] from h];exact rfl
 |l::ls,_,⟨vs,vss',e,_,h2,h3⟩=>by subst e;exact h2.append h3.flat
theorem RM {t:TypeId}{len:Nat}{a:Act}{o:Oper}{ev:Operand->AC}{parts:Array (Nat × Operand)}(h:Kf P t len (parts.toList.map fun (i,x)=>(i,ev x)) m=some r)(hm:AD T g.n ρ m w)
  (ho:o.op= .buildSlice t len parts) (hev:∀x,AA T g.n ρ m w (ev x) (a.eval x)):BC T g ρ m w ((execOp a.eval o).run P w) r:=by
 unfold Kf at h;split at h
 .rename_i e hu;simp only[vq,vn] at h;obtain⟨i,hi,z,hz,h⟩:=h;split at h
  .rename_i hc;obtain⟨hidx,hpos,hlen0,hbig⟩:=hc;have hidx:=Et _ _ hidx;simp only[vn] at h;obtain⟨ls,hls,h⟩:=h;split at h
   .rename_i hall;cases h;have hls':((parts.toList.map fun (p:Nat × Operand)=>(ev p.2,a.eval p.2))).mapM (fun p=>p.1.cellsOf)=some ls:=by
     rw[List.mapM_map] at hls⊢;exact hls
    obtain⟨vss,f1,f2,f3,f4⟩:=XN (T:=T) (n:=g.n) (ρ := ρ) (m:=m) (w:=w) (by
     intro p hp;simp only[List.mem_map] at hp;obtain⟨p',_,rfl⟩:=hp;exact hev p'.2) hls'
    simp only[List.length_map] at f2;have hplen:parts.toList.length=len:=by
     have:=congrArg List.length hidx;simpa using this
    have hlsl:ls.length=len:=by
     have:=(Dl _ _ _ hls).1;simpa [hplen] using this
    have hlall:∀l∈ls,l.length=i.size:=fun l hl=>by simpa using wR.1 hall l hl
    have hvall:∀v∈vss,v.length=i.size:=by
     intro v hv;obtain⟨j,hj⟩:=List.getElem?_of_mem hv;have hjl:j < ls.length:=by rw[hlsl,<-hplen,<-f2];exact (vu.1 hj).1
     rw[f4 j _ v (vt hjl) hj];exact hlall _ (List.getElem_mem hjl)
    have hzl:∀zs:Array Value,((Array.range (len*i.size)).map (fun x=>zs[x % zs.size]!)).toList.length=(0+vss.length)*i.size:=by
     intro zs;simp[f2,hplen]
    have hfill:∀zs:Array Value,Instr.fill (fun j=>some (j*i.size,i.size)) ((Array.range (len*i.size)).map (fun x=>zs[x % zs.size]!)) (parts.map fun (j,x)=>(j,a.eval x)).toList=some vss.flatten.toArray:=by
     intro zs;have:=Mn i.size (parts.map fun (j,x)=>(j,a.eval x)).toList vss 0 ((Array.range (len*i.size)).map (fun x=>zs[x % zs.size]!)).toList (by simp[f2]) (fun j k v vs q1 q2=>by
      simp only[Array.toList_map,wW,wK] at q1;obtain⟨⟨p1,p2⟩,e1,e2⟩:=q1;cases e2;refine⟨?_,f3 j (ev p2,a.eval p2) vs (by simp only[wW,e1,Option.map_some]) q2⟩;have e3:(parts.toList.map fun (p:Nat × Operand)=>(p.1,ev p.2)).map (·.1)=parts.toList.map (·.1):=by simp
      have e4:=hidx;rw[e3] at e4;have e5:(parts.toList.map (·.1))[j]? =some p1:=by simp only[wW,e1,Option.map_some]
      rw[e4] at e5;have hjl:j < len:=by rw[<-hplen];exact (vu.1 e1).1
      simp[hjl] at e5;omega) hvall (hzl zs)
     rw[Array.toArray_toList] at this;rw[this];simp
    have hsz0:¬(len*i.size=0):=by
     intro h;rcases Nat.mul_eq_zero.1 h with h|h<;>omega
    have hrun:(execOp a.eval o).run P w= .ok (.value (.slice (some ⟨w.heap.size,0,none⟩) len len)) (w.alloc (.cells vss.flatten.toArray e)):=by
     have hb:¬(len*i.size > 2 ^ 24):=by omega
     simp only[execOp,ho,Instr.buildSlice,Sem.run_bind,run_underlying hu,Result.andThen_ok,BD hi,Sem.run_ite,hb,if_false,hsz0,Fq hi hz,Sem.run_pure,hfill];simp[newRow]
    obtain⟨k1,k2,k3⟩:=Oa hm f1.flat e;obtain⟨b,q1,q2,q3⟩:=k3;refine⟨_,_,_,.inl hrun,k1,k2,b,q1,?_,q3⟩;cases q2;rfl
   .cases h
  .cases h
 .cases h
end
theorem Z5 (a b:ByteArray):(a==b)=decide (a=b):=by
 cases a with|mk a=>cases b with|mk b=>
 show (a==b)=_;by_cases h:a=b
 .subst h;simp
 .rw[decide_eq_false (fun e=>h (by injection e))];exact beq_eq_false_iff_ne.2 h
section
variable {P:Program}{w:World}
theorem bG {d:Nat}{t:TypeId}{ks:List Ek}(h:Bg P d t=some ks):∃i,P.info? t=some i:=by
 cases hi:P.info? t with
 |some i=>exact⟨i,rfl⟩
 |none=>
  cases d with
  |zero=>cases h
  |succ d=>simp[Bg,Program.underlying,hi] at h
theorem Hi (em:Bool):∀(d D:Nat) (t:TypeId) (ks:List Ek) (us:List Value),d<=D->Bg P d t=some ks->us.length=ks.length->
  (Instr.checkKey em D t (Al P t us)).run P w= .ok () w
 |0,_,_,_,_,_,h,_=>by cases h
 |d+1,0,_,_,_,hd,_,_=>by omega
 |d+1,D+1,t,ks,us,hd,h,hl=>by
  simp only[Bg] at h;split at h
  .rename_i hu;simp[Instr.checkKey,run_underlying hu]
  .rename_i k hu;simp[Instr.checkKey,run_underlying hu]
  .rename_i hu;simp[Instr.checkKey,run_underlying hu]
  .rename_i fs hu;split at h
   .cases h
   .simp only[Al,hu,Instr.checkKey,Sem.run_bind,run_underlying hu,Result.andThen_ok];rw[<-Array.forIn_toList];have hl0:0+ks.length<=us.length:=by omega
    clear hl;generalize 0=off at h hl0;generalize fs.toList=L at h;induction L generalizing off ks with
    |nil=>simp
    |cons f L ih=>
     simp only[FD,vq] at h;split at h
     .rename_i hc;simp only[vn] at h;obtain⟨k1,h1,h⟩:=h;split at h
      .rename_i hsz;simp only[vn] at h;obtain⟨k2,h2,h⟩:=h;cases h;simp only[wC] at hl0;obtain⟨rfl,hn⟩:=hc;have p1:=HM (w:=w) h1 hsz us f.offset (by omega);have p2:=Hi em d D f.type k1 ((us.drop f.offset).take k1.length) (by omega) h1 (by rw[wb,List.length_drop];omega);simp only[List.forIn_cons,Sem.run_bind,hn,ne_eq,not_false_eq_true,if_true,p1,Result.andThen_ok,p2,Sem.run_pure];exact ih k2 _ (by omega) h2
      .cases h
     .cases h
  .rename_i n e hu;simp only[vq,vn] at h;obtain⟨k1,h1,h⟩:=h;split at h
   .rename_i hsz;cases h;obtain⟨i,hi⟩:=bG h1;simp only[Al,hu,Instr.checkKey,Sem.run_bind,run_underlying hu,Result.andThen_ok];simp only[Std.Legacy.Range.forIn_eq_forIn_range',Std.Legacy.Range.size,Nat.sub_zero,Nat.add_one_sub_one,Nat.div_one];have hz:i.size=k1.length:=by
     have:=hsz;simp[Program.cellsOf,hi] at this;exact this
    have hlen:us.length=n*k1.length:=by rw[hl];simp
    have hb:∀j∈List.range' 0 n,j < n:=fun j hj=>by
     have:=List.mem_range'_1.1 hj;omega
    generalize List.range' 0 n=is at hb;induction is with
    |nil=>simp
    |cons j is ih=>
     have hj:=hb j (by simp);have b:j*k1.length+k1.length<=us.length:=by
      have:(j+1)*k1.length<=n*k1.length:=wO _ (by omega);rw[wS,Nat.one_mul] at this;omega
     have p1:=HM (w:=w) h1 hsz us (j*k1.length) b;have p2:=Hi em d D e k1 ((us.drop (j*k1.length)).take k1.length) (by omega) h1 (by rw[wb,List.length_drop];omega);simp only[List.forIn_cons,Sem.run_bind,run_sizeOf w hi,hsz,Result.andThen_ok,p1,p2,Sem.run_pure];exact ih fun y hy=>hb y (by simp[hy])
   .cases h
  .cases h
def Gt (nk:Nat)(k:List U):List MapEntry->List (List U)->Nat->Option (Nat × Value)
 |e::es,r::l,i=>bif Bb (r.take nk) k then some (i,e.val) else Gt nk k es l (i+1)
 |_,_,_=>none
theorem SG {nk:Nat}{k:List U}:∀{es:List MapEntry} {l:List (List U)} (i:Nat),es.length=l.length->Gt nk k es l i=(es[Az nk l k]?).map fun e=>(i+Az nk l k,e.val)
 |[],[],i,_=>rfl
 |e::es,r::l,i,h=>by
  simp only[Gt,Az,List.findIdx_cons];cases hk:Bb (r.take nk) k with
  |true=>simp
  |false=>
   have ih:=SG (nk:=nk) (k:=k) (es:=es) (l:=l) (i+1) (by simpa using h);simp only[cond_false];rw[ih];simp only[Az,List.getElem?_cons_succ];congr 1;funext e;rw[show i+1+List.findIdx (fun r=>Bb (List.take nk r) k) l=i+(List.findIdx (fun r=>Bb (List.take nk r) k) l+1) by omega]
 |[],_::_,_,h=>by simp at h
 |_::_,[],_,h=>by simp at h
def Jr (P:Program)(kt:TypeId)(ks:List Ek)(nk:Nat)(kv:List Value)(k:List U):List MapEntry->List (List U)->Prop
 |[],[]=>True
 |e::es,r::l=>(∃ev,e.key=Al P kt ev/\KE ks kv ev (Bb (r.take nk) k))/\Jr P kt ks nk kv k es l
 |_,_=>False
theorem Jr.len {kt:TypeId}{ks:List Ek}{nk:Nat}{kv:List Value}{k:List U}:∀{es:List MapEntry} {l:List (List U)},Jr P kt ks nk kv k es l->es.length=l.length
 |[],[],_=>rfl
 |_::_,_::_,h=>by simp[Jr.len h.2]
 |[],_::_,h=>h.elim
 |_::_,[],h=>h.elim
theorem Yh {kt:TypeId}{ks:List Ek}{us vs:List Value}{q:Bool}(hf:Bg P 12 kt=some ks)(hk:KE ks us vs q):(Op.equal kt (Al P kt us) (Al P kt vs)).run P w= .ok q w:=
 IZ 12 _ kt ks us vs q (by decide) hf hk
theorem MP {kt:TypeId}{ks:List Ek}{nk:Nat}{kv:List Value}{k:List U}(hf:Bg P 12 kt=some ks):∀{es:List MapEntry} {l:List (List U)} (i:Nat),Jr P kt ks nk kv k es l->
  (Instr.findAsking kt (Al P kt kv) es i).run P w= .ok (Gt nk k es l i) w
 |[],[],i,_=>by simp[Instr.findAsking,Gt]
 |e::es,r::l,i,h=>by
  obtain⟨⟨ev,h1,h2⟩,h3⟩:=h;simp only[Instr.findAsking,Sem.run_bind,h1,Yh hf h2,Result.andThen_ok,Gt];cases Bb (r.take nk) k with
  |true=>simp
  |false=>
   simp only[wM,if_false,cond_false];exact MP hf (i+1) h3
 |[],_::_,_,h=>h.elim
 |_::_,[],_,h=>h.elim
theorem Qa {kt:TypeId}{ks:List Ek}{nk:Nat}{kv:List Value}{k:List U}{kd:TypeDesc}(hf:Bg P 12 kt=some ks)(hu:P.underlying kt=some kd):∀{es:List MapEntry} {l:List (List U)} (i:Nat),Jr P kt ks nk kv k es l->
  Instr.findNow kd (Al P kt kv) es i=some (Gt nk k es l i)\/Instr.findNow kd (Al P kt kv) es i=none
 |[],[],i,_=> .inl rfl
 |e::es,r::l,i,h=>by
  obtain⟨⟨ev,h1,h2⟩,h3⟩:=h;have ih:=Qa hf hu (i+1) h3;have hs:Instr.sameNow kd (Al P kt kv) e.key=some (Bb (r.take nk) k)\/Instr.sameNow kd (Al P kt kv) e.key=none:=by
   rw[h1];simp only[Bg] at hf;split at hf
   .rename_i hb;rw[hb] at hu;cases hu;cases hf;generalize Bb (r.take nk) k=q at h2;cases h2 with
    |bool a b h2=>cases h2;left;simp[Al,hb,Instr.sameNow]
   .rename_i kk hb;rw[hb] at hu;cases hu;cases hf;generalize Bb (r.take nk) k=q at h2;cases h2 with
    |int k' a b h2=>cases h2;left;simp[Al,hb,Instr.sameNow]
   .rename_i hb;rw[hb] at hu;cases hu;cases hf;generalize Bb (r.take nk) k=q at h2;cases h2 with
    |str a b h2=>
     cases h2;left;simp only[Al,hb,List.headD_cons,Instr.sameNow,Bool.and_true,Z5]
   .rename_i fs hb;rw[hb] at hu;cases hu;right;rfl
   .rename_i n e hb;rw[hb] at hu;cases hu;right;rfl
   .cases hf
  rcases hs with hs|hs
  .simp only[Instr.findNow,hs,Gt];cases Bb (r.take nk) k with
   |true=>left;rfl
   |false=>exact ih
  .right;simp only[Instr.findNow,hs]
 |[],_::_,_,h=>h.elim
 |_::_,[],_,h=>h.elim
theorem Qc {kt:TypeId}{ks:List Ek}{nk:Nat}{kv:List Value}{k:List U}(hf:Bg P 12 kt=some ks){es:List MapEntry}{l:List (List U)}(h:Jr P kt ks nk kv k es l):
  (Instr.findKey kt (Al P kt kv) es).run P w= .ok ((es[Az nk l k]?).map fun e=>(Az nk l k,e.val)) w:=by
 obtain⟨kd,hu⟩:∃kd,P.underlying kt=some kd:=by
  cases hu:P.underlying kt with
  |some kd=>exact⟨kd,rfl⟩
  |none=>simp[Bg,hu] at hf
 have e0:Gt nk k es l 0=(es[Az nk l k]?).map fun e=>(Az nk l k,e.val):=by
  have:=SG (nk:=nk) (k:=k) 0 h.len;simpa using this
 rw[<-e0];simp only[Instr.findKey,Sem.run_bind,run_underlying hu,Result.andThen_ok];rcases Qa hf hu 0 h with h1|h1
 .rw[h1];simp
 .rw[h1];exact MP hf 0 h
theorem KE.same {ks us vs q}(h:KE ks us vs q):q=true->us=vs:=by
 induction h with
 |nil=>exact fun _=>rfl
 |int k a b _ ih=>intro h;rw[vo,beq_iff_eq] at h;rw[h.1,ih h.2]
 |bool a b _ ih=>intro h;rw[vo,beq_iff_eq] at h;rw[h.1,ih h.2]
 |str a b _ ih=>intro h;rw[vo,decide_eq_true_eq] at h;rw[h.1,ih h.2]
theorem KE.bits {ks us vs q}(h:KE ks us vs q)(n:Nat):∀x∈us,Instr.sameBits n x x=true:=by
 induction h with
 |nil=>simp
 |int k a b _ ih=>
  intro x hx;rcases List.mem_cons.1 hx with rfl|hx
  .simp[Instr.sameBits]
  .exact ih x hx
 |bool a b _ ih=>
  intro x hx;rcases List.mem_cons.1 hx with rfl|hx
  .simp[Instr.sameBits]
  .exact ih x hx
 |str a b _ ih=>
  intro x hx;rcases List.mem_cons.1 hx with rfl|hx
  .simp[Instr.sameBits,Z5]
  .exact ih x hx
theorem eN {kt:TypeId}{ks:List Ek}{us vs:List Value}(hf:Bg P 12 kt=some ks)(h:KE ks us vs true):(Instr.keyThatStays (Al P kt vs) (Al P kt us)).run P w= .ok (Al P kt us) w:=by
 have e:=h.same rfl;subst e;have hb:Instr.sameBits 10000 (Al P kt us) (Al P kt us)=true:=by
  have agg:Instr.sameBits 10000 (.agg us.toArray) (.agg us.toArray)=true:=by
   have:=h.bits 9999;simp only[Instr.sameBits,beq_self_eq_true,Bool.true_and,wR];intro p hp;have hz:∀(l:List Value) (p:Value × Value),p∈l.zip l->p.1=p.2/\p.1∈l:=by
    intro l;induction l with
    |nil=>intro p hp;simp at hp
    |cons a l ih=>
     intro p hp;simp only[List.zip_cons_cons,List.mem_cons] at hp;rcases hp with rfl|hp
     .exact⟨rfl,by simp⟩
     .exact⟨(ih p hp).1,vz _ (ih p hp).2⟩
   obtain⟨h1,h2⟩:=hz us p hp;rw[<-h1];exact this _ h2
  simp only[Bg] at hf;split at hf
  .rename_i hu;cases hf;have hl:=h.length.1
   match us,hl with
   |[x],_=>simp only[Al,hu,List.headD_cons];exact h.bits 10000 x (by simp)
  .rename_i k hu;cases hf;have hl:=h.length.1
   match us,hl with
   |[x],_=>simp only[Al,hu,List.headD_cons];exact h.bits 10000 x (by simp)
  .rename_i hu;cases hf;have hl:=h.length.1
   match us,hl with
   |[x],_=>simp only[Al,hu,List.headD_cons];exact h.bits 10000 x (by simp)
  .rename_i fs hu;simp only[Al,hu];exact agg
  .rename_i n e hu;simp only[Al,hu];exact agg
  .cases hf
 simp[Instr.keyThatStays,hb]
end
theorem TN {T:Tab}{n:Nat}{ρ :Nat->Option Nat}{m:Mem}{w:World}{k:Kd}{c:AC}{v:Value}{r:Rf}{ps:List Pr}(h:fit k c=some (r,ps))(hc:AA T n ρ m w c v)(hp:∀p∈ps,p.holds T):
  AM (AS T ρ m w) w k (r.eval T) v:=by
 unfold fit at h;cases hs:ED c with
 |none=>rw[hs] at h;cases k<;>cases h
 |some kr=>
  obtain⟨k1,r1⟩:=kr;rw[hs] at h;have base:=GP hs hc;have join:(if Kd.beq (Kd.join k1 k) k&& !k.isAny then some (r1,([]:List Pr)) else none)=some (r,ps)->AM (AS T ρ m w) w k (r.eval T) v:=by
   intro h;split at h
   .rename_i hb;cases h;rw[vo] at hb;have:=Kd.join_l k1 k _ v base;rw[Kd.beq_eq _ _ hb.1] at this;exact this
   .cases h
  cases k with
  |int k0 lo hi=>
   cases k1 with
   |int k' lo' hi'=>
    simp only at h;split at h
    .rename_i hk;subst hk;obtain⟨i,h1,h2,h3,h4⟩:=base;injection h with h
     injection h with e1 e2
     subst e1;subst e2;refine⟨i,h1,h2,?_⟩;split at hp
     .rename_i hb;exact⟨by omega,by omega⟩
     .have:=hp _ (wY.2 rfl);simp only[Pr.holds,DH,wG,wa,u0,h1,U.toI] at this;exact this
    .cases h
   |_=>exact join h
  |_=>exact join h
section
variable {P:Program}{T:Tab}{n n':Nat}{ρ :Nat->Option Nat}{m:Mem}{w:World}{g:G}{r:R}
theorem IX {ag:Bool}{c:AC}{l:List AC}{v:Value}(h:HV ag c=some l)(hc:AA T n ρ m w c v):∃vs,AB T n ρ m w l vs/\(if ag then v= .agg (vs:List Value).toArray else vs=[v]):=by
 cases ag with
 |true=>
  cases c<;>simp only[HV] at h<;>first|(cases h;done)|skip
  cases h;obtain⟨vs,h1,h2⟩:=hc;exact⟨vs,h2,by simpa using h1⟩
 |false=>
  have e:l=[c]:=by cases c<;>simp only[HV] at h<;>first|(cases h;rfl)|cases h
  subst e;exact⟨[v],⟨v,[],rfl,hc,rfl⟩,by simp⟩
theorem Kv:∀{ks:List Kd} {l:List AC} {rs:List Rf} {ps:List Pr} {vs:List Value},KW ks l=some (rs,ps)->AB T n ρ m w l vs->(∀p∈ps,p.holds T)->AJ (AS T ρ m w) w ks (rs.map (Rf.eval T)) vs
 |[],[],rs,ps,vs,h,hl,_=>by
  simp only[KW] at h;cases h;exact⟨rfl,hl⟩
 |k::ks,c::l,rs,ps,vs,h,hl,hp=>by
  simp only[KW,vq,vn] at h;obtain⟨⟨r1,p1⟩,h1,⟨r2,p2⟩,h2,h⟩:=h;cases h;obtain⟨u,us,rfl,k1,k2⟩:=hl;exact⟨_,_,_,_,rfl,rfl,TN h1 k1 fun p hq=>hp p (wH _ hq),Kv h2 k2 fun p hq=>hp p (wB _ hq)⟩
 |[],_::_,_,_,_,h,_,_=>by simp[KW] at h
 |_::_,[],_,_,_,h,_,_=>by simp[KW] at h
theorem L3 {t:TypeId}{ag:Bool}{v:Value}{vs:List Value}(h:Bw P t=ag)(hv:if ag then v= .agg vs.toArray else vs=[v]):v=Al P t vs:=by
 subst h;unfold Bw at hv;unfold Al;cases hu:P.underlying t with
 |none=>rw[hu] at hv;simp at hv;simp[hv]
 |some d=>cases d<;>(rw[hu] at hv;simp at hv;simp[hv])
theorem Xd {ok ok':Nat->Nat->Prop}{w':World}:∀{kk:List Kd} {ks:List Ek} {us us':List U} {vs vs':List Value},kk.map I6=ks.map some->AJ ok w kk us vs->AJ ok' w' kk us' vs'->KE ks vs vs' (Bb us' us)
 |[],[],us,us',vs,vs',_,⟨h1,h2⟩,⟨h3,h4⟩=>by subst h1 h2 h3 h4;exact .nil
 |k::kk,e::ks,us,us',vs,vs',h,⟨u,us1,v,vs1,e1,e2,h1,h2⟩,⟨u',us1',v',vs1',e3,e4,h3,h4⟩=>by
  subst e1 e2 e3 e4;simp only[wG,List.cons.injEq] at h;have ih:=Xd h.2 h2 h4;cases k with
  |int k lo hi=>
   have e:=h.1;simp only[I6,Option.some.injEq] at e;subst e;obtain⟨a,rfl,rfl,_⟩:=h1;obtain⟨b,rfl,rfl,_⟩:=h3;have e:(Bb (.int b::us1') (.int a::us1))=((a==b)&&Bb us1' us1):=by
    simp only[Bb,U.eqv];congr 1;by_cases e:a=b
    .rw[e];simp
    .have e2:¬b=a:=fun h=>e h.symm;simp[e,e2]
   rw[e];exact .int k a b ih
  |bool=>
   have e:=h.1;simp only[I6,Option.some.injEq] at e;subst e;obtain⟨a,rfl,rfl⟩:=h1;obtain⟨b,rfl,rfl⟩:=h3;have e:(Bb (.bool b::us1') (.bool a::us1))=((a==b)&&Bb us1' us1):=by
    simp only[Bb,U.eqv];congr 1;cases a<;>cases b<;>rfl
   rw[e];exact .bool a b ih
  |str=>
   have e:=h.1;simp only[I6,Option.some.injEq] at e;subst e;obtain⟨a,rfl,rfl,_⟩:=h1;obtain⟨b,rfl,rfl,_⟩:=h3;have e:(Bb (.str b::us1') (.str a::us1))=(decide (a=b)&&Bb us1' us1):=by
    simp only[Bb,U.eqv];congr 1;by_cases e:a=b
    .simp[e]
    .rw[decide_eq_false e,decide_eq_false fun h=>e h.symm]
   rw[e];exact .str a b ih
  |val=>have e:=h.1;simp[I6] at e
  |any=>have e:=h.1;simp[I6] at e
  |list _=>have e:=h.1;simp[I6] at e
 |[],_::_,_,_,_,_,h,_,_=>by simp at h
 |_::_,[],_,_,_,_,h,_,_=>by simp at h
theorem PP {ok ok':Nat->Nat->Prop}{kt:TypeId}{ks:List Ek}{kk vk:List Kd}{ka va:Bool}(hk:kk.map I6=ks.map some)(hag:Bw P kt=ka){ku:List U}{kv:List Value}(hq:AJ ok w kk ku kv):∀{es:List MapEntry} {l:List (List U)},es.length=l.length->
  (∀(i:Nat) (us:List U) (e:MapEntry),l[i]? =some us->es[i]? =some e->∃u1 u2,us=u1++u2/\Bn ok' w kk ka u1 e.key/\Bn ok' w vk va u2 e.val)->Jr P kt ks kk.length kv ku es l
 |[],[],_,_=>trivial
 |e::es,us::l,hl,h=>by
  refine⟨?_,PP hk hag hq (by simpa using hl) fun i us e h1 h2=>h (i+1) us e (by simpa using h1) (by simpa using h2)⟩;obtain⟨u1,u2,rfl,⟨vs,h2,h3⟩,_⟩:=h 0 us e rfl rfl;have hl1:u1.length=kk.length:=h2.len.2;refine⟨vs,L3 hag h3,?_⟩;rw[List.take_left' hl1];exact Xd hk hq h2
 |[],_::_,hl,_=>by simp at hl
 |_::_,[],hl,_=>by simp at hl
theorem Ri {kt:TypeId}{kk:List Kd}{ka:Bool}(h:LT P kt kk ka=true):Bw P kt=ka/\∃ks,Bg P 12 kt=some ks/\kk.map I6=ks.map some:=by
 unfold LT at h;rw[vo,beq_iff_eq] at h;refine⟨h.1,?_⟩;have h2:=h.2;split at h2
 .rename_i ks hk;exact⟨ks,hk,of_decide_eq_true h2⟩
 .cases h2
theorem Z3 {kk:List Kd}{ks:List Ek}(h:kk.map I6=ks.map some):ks.length=kk.length:=by
 have:=congrArg List.length h;simpa using this.symm
theorem Qo {b:Nat}{es:Array MapEntry}{clock:Nat}(h:w.heap[b]? =some (.map es clock)):(getObj b).run P w= .ok (.map es clock) w:=by simp[getObj,Sem.run,h]
theorem QS {b:Nat}{es:Array MapEntry}{clock:Nat}(o:Obj)(h:w.heap[b]? =some (.map es clock)):(setObj b o).run P w= .ok () (w.putObj b o):=by simp[setObj,Sem.run,h,World.putObj]
theorem New.tail {us:List Ex}{u:Ex}(h:New T n (u::us)):New T (n+1) us:=fun j x hj=>by
 have:=h (j+1) x (by simpa using hj);rw[show n+1+j=n+(j+1) by omega];exact this
theorem Rh {x nk:Nat}{rs:List Rf}:∀{ks:List Kd} {zs:List Rf} {n0 c:Nat},zs.length=ks.length->(Fj x nk rs n0 c ks zs).2.length=ks.length/\(Fj x nk rs n0 c ks zs).1.length=ks.length
 |[],[],_,_,_=>⟨rfl,rfl⟩
 |k::ks,z::zs,n0,c,h=>by
  obtain⟨h1,h2⟩:=Rh (x:=x) (nk:=nk) (rs:=rs) (ks:=ks) (zs:=zs) (n0:=n0+1) (c:=c+1) (by simpa using h);simp only[Fj,wQ];exact⟨by omega,by omega⟩
 |[],_::_,_,_,h=>by simp at h
 |_::_,[],_,_,h=>by simp at h
theorem UZ {x nk:Nat}{rs:List Rf}{N:Nat}:∀{ks:List Kd} {zs:List Rf} {n0 c:Nat} {ws:List U} {vs:List Value},zs.length=ks.length->AJ (AS T ρ m w) w ks ws vs->New T n0 (Fj x nk rs n0 c ks zs).2->n0+ks.length<=N->
  (∀(j:Nat) u z,ws[j]? =some u->zs[j]? =some z->Qp nk (c+j) (T x::z.eval T::rs.map (Rf.eval T))=u)->AB T N ρ m w (Fj x nk rs n0 c ks zs).1 vs
 |[],[],_,_,ws,vs,_,h,_,_,_=>h.2
 |k::ks,z::zs,n0,c,ws,vs,hl,⟨u,us',v,vs',e1,e2,h1,h2⟩,hn,hN,hg=>by
  subst e1 e2;simp only[Fj,wQ] at hn hN⊢;have e0:T n0=u:=by
   rw[hn.head];exact (congrArg (coC (kdC k)) (hg 0 u z rfl rfl)).trans (VT h1)
  refine⟨v,vs',rfl,Dw (by omega) (by rw[e0];exact h1),UZ (by simpa using hl) h2 hn.tail (by omega) fun j u z q1 q2=>?_⟩;rw[show c+1+j=c+(j+1) by omega];exact hg (j+1) u z (by simpa using q1) (by simpa using q2)
 |[],_::_,_,_,_,_,h,_,_,_,_=>by simp at h
 |_::_,[],_,_,_,_,h,_,_,_,_=>by simp at h
theorem YE {t:TypeId}{cx ci:AC}{ok:Bool}{xv iv:Value}(h:Qw P t cx ci ok m g=some r)(hnew:New T g.n r.us)(hps:∀q∈r.ps,q.holds T)(hm:AD T g.n ρ m w)(hx:AA T g.n ρ m w cx xv)(hi:AA T g.n ρ m w ci iv):
  ∃z,(Instr.lookup t xv iv ok).run P w= .ok z w/\r.m=m/\AA T (g.n+r.us.length) ρ m w r.c z:=by
 unfold Qw at h;split at h
 .rename_i kt et id hu;split at h
  .rename_i mx kk ka vk va hid;split at h
   .rename_i hkey;simp only[vq,vn] at h;obtain⟨kc,hkc,⟨rs,ps⟩,hfk,i,hi0,z,hz,zc,hzc,⟨zs,qs⟩,hfz,h⟩:=h;simp only at h;split at h
    .rename_i hqs;have hqs:qs=[]:=by cases qs with|nil=>rfl|cons _ _=>cases hqs
     subst hqs;obtain⟨hag,ks,hf,hks⟩:=Ri hkey;have hrps:r.ps=ps:=by cases ok<;>(simp only[wM,if_true,if_false] at h;cases h;rfl)
     rw[hrps] at hps;obtain⟨kv,k1,k2⟩:=IX hkc hi;have kC:=Kv hfk k1 hps;have ekv:=L3 hag k2;obtain⟨zv,z1,z2⟩:=IX hzc (GJ (T:=T) (n:=g.n) (ρ := ρ) (m:=m) (w:=w) z);have zC:=Kv hfz z1 (fun p hp=>by cases hp);obtain⟨b,hrb,rfl,_⟩:=hx;have hbk:=hm.blk id;rw[hid] at hbk;obtain⟨hmx,l,b',es,clock,hT,hrb',hb,hlen,hmax,hent,_⟩:=hbk;rw[hrb] at hrb';cases hrb';have hKE:=PP (P:=P) (w:=w) hks hag kC hlen hent;have hfind:=Qc (w:=w) hf hKE;have hchk:=Hi (P:=P) (w:=w) es.toArray.isEmpty 12 10000 kt ks kv (by decide) hf (by rw[Z3 hks];exact kC.len.1);have hget:=Qo (P:=P) hb;have hzl:zs.length=vk.length:=by have:=zC.len.2;simpa using this
     have hu0:∀(a:U) (rest:List U),u0 (a::rest)=a:=fun _ _=>rfl;obtain⟨ws,vs,fv,hhit,w1,w2,w3,w4⟩:∃(ws:List U) (vs:List Value) (fv:Value) (hit:Bool),AJ (AS T ρ m w) w vk ws vs/\(if va then fv= .agg vs.toArray else vs=[fv])/\
       (hit=decide (Az kk.length l (rs.map (Rf.eval T)) < l.length)/\(Instr.lookup t (.map (some b)) iv ok).run P w= .ok (if ok then .tuple #[fv,.bool hit] else fv) w)/\
       ∀(j:Nat) u z,ws[j]? =some u->zs[j]? =some z->Qp kk.length (0+j) (T mx::z.eval T::rs.map (Rf.eval T))=u:=by
      cases he:es[Az kk.length l (rs.map (Rf.eval T))]? with
      |some e=>
       have hlt:Az kk.length l (rs.map (Rf.eval T)) < l.length:=by rw[<-hlen];exact (vu.1 he).1
       have hle:=vt hlt;obtain⟨u1,u2,e1,⟨vs1,e2,_⟩,vs2,e4,e5⟩:=hent _ _ e hle he;refine⟨u2,vs2,e.val,true,e4,e5,⟨(decide_eq_true hlt).symm,?_⟩,fun j u z q1 q2=>?_⟩
       .rw[he] at hfind;simp only[Instr.lookup,Sem.run_bind,run_underlying hu,Result.andThen_ok,hget,Sem.run_pure,ekv,hchk,hfind,Option.map_some]
       .simp only[Qp,hu0,hT,U.toL,List.drop_succ_cons,List.drop_zero];rw[decide_eq_true hlt];simp only[cond_true];rw[wL (l:=l),hle,Option.getD_some,e1,wL,wF (by rw[e2.len.2];omega),e2.len.2,show kk.length+(0+j) - kk.length=j by omega,q1];rfl
      |none=>
       have hnl:¬Az kk.length l (rs.map (Rf.eval T)) < l.length:=fun hlt=>by
        rw[<-hlen] at hlt;rw[vt hlt] at he;cases he
       refine⟨zs.map (Rf.eval T),zv,z,false,zC,z2,⟨(decide_eq_false hnl).symm,?_⟩,fun j u z q1 q2=>?_⟩
       .rw[he] at hfind;simp only[Instr.lookup,Sem.run_bind,run_underlying hu,Result.andThen_ok,hget,Sem.run_pure,ekv,hchk,hfind,Option.map_none,Fq hi0 hz]
       .simp only[Qp,hu0,hT,U.toL,List.drop_succ_cons,List.drop_zero];rw[decide_eq_false hnl];simp only[cond_false];rw[wW,q2] at q1;exact Option.some.inj q1
     obtain⟨w3a,w3b⟩:=w3;have hml:=Rh (x:=mx) (nk:=kk.length) (rs:=rs) (n0:=g.n) (c:=0) hzl;have hval:∀N,g.n+vk.length<=N->New T g.n (Fj mx kk.length rs g.n 0 vk zs).2->AA T N ρ m w (if va then AC.agg (Fj mx kk.length rs g.n 0 vk zs).1 else (Fj mx kk.length rs g.n 0 vk zs).1.headD .any) fv:=by
      intro N hN hn;have hL:=UZ (N:=N) hzl w1 hn hN w4;cases va with
      |true=>
       simp only[if_true] at w2⊢;exact⟨vs,w2,hL⟩
      |false=>
       simp only[wM,if_false] at w2⊢;subst w2;generalize (Fj mx kk.length rs g.n 0 vk zs).1=L at hL;cases L with
       |nil=>exact absurd hL (by simp[AB])
       |cons c L=>
        obtain⟨u,us,e,h1,_⟩:=hL;cases e;exact h1
     cases ok with
     |false=>
      simp only[wM,if_false] at h;cases h;exact⟨fv,w3b,rfl,hval _ (by simp only[hml.1];omega) hnew⟩
     |true=>
      simp only[if_true] at h;cases h;refine⟨_,w3b,rfl,[fv,.bool hhit],by simp,⟨fv,[.bool hhit],rfl,hval _ (by simp only[wC,hml.1];omega) hnew.left,.bool hhit,[],rfl,⟨by simp only[wC,wQ,List.length_nil];omega,hhit,?_,rfl⟩,rfl⟩⟩;rw[hnew.right.head,w3a];simp only[Ex.eval,Yg,wG,hu0,Rf.eval,hT,U.toL,List.tail_cons]
    .cases h
   .cases h
  .cases h
 .cases h
theorem WR {t:TypeId}{a:Act}{o:Oper}(h:PN P t m g=some r)(hnew:New T g.n r.us)(hm:AD T g.n ρ m w)(ho:o.op= .makeMap t none):BC T g ρ m w ((execOp a.eval o).run P w) r:=by
 unfold PN at h;split at h
 .rename_i kt et hu;simp only[vq,vn] at h;obtain⟨kk,_,vk,_,h⟩:=h;cases h;have hT:T g.n= .list []:=by rw[hnew.head];rfl
  generalize hB:Blk.mapb g.n kk (Bw P kt) vk (Bw P et)=B;have hs:=Gz (T:=T) hm (.map #[] 0) B;have hnn:g.n<=g.n+1:=by omega
  have hat:Mem.at (m++[B]) m.length=B:=by rw[AN,if_pos rfl]
  have hnewb:(w.alloc (.map #[] 0)).heap[w.heap.size]? =some (.map #[] 0):=CX _ _;refine⟨.map (some w.heap.size),w.alloc (.map #[] 0),B5 ρ m.length w.heap.size,.inl (by simp[execOp,ho,Instr.makeMap]),hs,⟨fun id=>?_,?_,fun b off hb=>hm.fr b off (wI hs.size hb)⟩,⟨w.heap.size,Af _ _ _,rfl,by rw[hat,<-hB];rfl⟩⟩
  .by_cases he:id=m.length
   .subst he;rw[hat,<-hB];exact⟨by simp,[],w.heap.size,[],0,hT,Af _ _ _,hnewb,rfl,by simp,fun i us e h1=>by simp at h1,0,rfl,fun i e h1=>by simp at h1⟩
   .by_cases ht:(m.at id).tracked=true
    .refine BB.step hs hm hnn (by rw[AN,if_neg he]) (Ad _ _ _ he) (fun b hb=>?_);exact At _ _ _ (hm.lt ht hb)
    .rw[AN,if_neg he];cases hx:m.at id with
     |pad=>trivial
     |gone=>trivial
     |cells=>rw[hx] at ht;exact absurd rfl ht
     |lp=>rw[hx] at ht;exact absurd rfl ht
     |tok=>rw[hx] at ht;exact absurd rfl ht
     |mrow=>rw[hx] at ht;exact absurd rfl ht
     |mapb=>rw[hx] at ht;exact absurd rfl ht
  .intro id id' b ht ht' hr hr';rw[AN] at ht ht';by_cases he:id=m.length
   .by_cases he':id'=m.length
    .omega
    .rw[if_neg he'] at ht';subst he;rw[Af] at hr;cases hr;rw[Ad _ _ _ he'] at hr';have:=hm.lt ht' hr';omega
   .rw[if_neg he] at ht;rw[Ad _ _ _ he] at hr;by_cases he':id'=m.length
    .subst he';rw[Af] at hr';cases hr';have:=hm.lt ht hr;omega
    .rw[if_neg he'] at ht';rw[Ad _ _ _ he'] at hr';exact hm.inj id id' b ht ht' hr hr'
 .cases h
theorem gU {id b:Nat}{o:Obj}{B:Blk}(hB:B.ptrOk=true)(hm:AD T n ρ m w)(hp:(m.at id).ptrOk=true)(htr:(m.at id).tracked=true)(hr: ρ id=some b)(hnn:n<=n')
  (hnew:AE T n ρ m w ρ (m.set id B) (w.putObj b o)->BB T n' ρ (m.set id B) (w.putObj b o) id B):AE T n ρ m w ρ (m.set id B) (w.putObj b o)/\AD T n' ρ (m.set id B) (w.putObj b o):=by
 have hne:m.at id≠ .pad:=fun e=>by rw[e] at htr;cases htr
 have hat:=fun j=>DI m id B j hne;have hBp:B≠ .pad:=fun e=>by rw[e] at hB;cases hB
 have hs:AE T n ρ m w ρ (m.set id B) (w.putObj b o):={
  os:=rfl
  tape:=rfl
  output:=rfl
  size:=by simp
  mlen:=fun j h=>by rw[hat j];split<;>first|exact hBp|exact h
  rho:=fun j h=>by rw[hat j];split<;>first|exact⟨rfl,hB⟩|exact⟨rfl,h⟩
  untr:=fun j h ht=>by
   rw[hat j] at ht;split at ht
   .rename_i he;subst he;exact htr
   .exact ht
  fresh:=fun j c h ht hr'=>by
   rw[hat j] at ht;split at ht
   .rename_i he;subst he;exact absurd h hne
   .rw[h] at ht;cases ht
  old:=fun k hk hno=>World.putObj_heap_other (fun e=>hno id htr (by rw[e];exact hr))
  tok:=fun j x ks e h=>by
   have hj:j≠id:=fun e=>by rw[<-e,h] at hp;cases hp
   refine .inl ⟨by rw[hat j,if_neg hj];exact h,rfl,fun b' hb'=>?_⟩;exact World.putObj_heap_other (fun e=>hj (hm.inj j id b (by rw[h];rfl) htr (by rw[<-e];exact hb') hr))
  row:=fun j x y ks e h=>by
   have hj:j≠id:=fun e=>by rw[<-e,h] at hp;cases hp
   refine .inr ⟨x,y,ks,by rw[hat j,if_neg hj];exact h,rfl,.inl ⟨rfl,rfl,fun b' vs hb' hv=>⟨vs,?_,rfl⟩⟩⟩;rw[World.putObj_heap_other (fun e=>hj (hm.inj j id b (by rw[h];rfl) htr (by rw[<-e];exact hb') hr))];exact hv }
 refine⟨hs,⟨fun j=>?_,fun j j' c t1 t2 h1 h2=>?_,fun c off h=>hm.fr c off (wI hs.size h)⟩⟩
 .by_cases hj:j=id
  .subst hj;rw[hat j,if_pos rfl];exact hnew hs
  .by_cases ht:(m.at j).tracked=true
   .exact BB.step hs hm hnn (by rw[hat j,if_neg hj]) rfl (fun b' hb'=>World.putObj_heap_other (fun e=>hj (hm.inj j id b ht htr (by rw[<-e];exact hb') hr)))
   .rw[hat j,if_neg hj];cases hx:m.at j with
    |pad=>trivial
    |gone=>trivial
    |cells=>rw[hx] at ht;exact absurd rfl ht
    |lp=>rw[hx] at ht;exact absurd rfl ht
    |tok=>rw[hx] at ht;exact absurd rfl ht
    |mrow=>rw[hx] at ht;exact absurd rfl ht
    |mapb=>rw[hx] at ht;exact absurd rfl ht
 .have old:∀{j},(Mem.at (m.set id B) j).tracked=true->(m.at j).tracked=true:=fun {j} ht=>by
   rw[hat j] at ht;split at ht
   .rename_i he;subst he;exact htr
   .exact ht
  exact hm.inj j j' c (old t1) (old t2) h1 h2
theorem Sy {t:TypeId}{cx ci cv:AC}{xv iv vv:Value}(h:Lm P t cx ci cv m g=some r)(hnew:New T g.n r.us)(hps:∀q∈r.ps,q.holds T)(hm:AD T g.n ρ m w)(hx:AA T g.n ρ m w cx xv)(hi:AA T g.n ρ m w ci iv)(hv:AA T g.n ρ m w cv vv):
  ∃w',(Instr.mapUpdate t xv iv vv).run P w= .ok () w'/\AE T g.n ρ m w ρ r.m w'/\AD T (g.n+r.us.length) ρ r.m w'/\r.c= .any:=by
 unfold Lm at h;split at h
 .rename_i kt et id hu;split at h
  .rename_i mx kk ka vk va hid;split at h
   .rename_i hkey;simp only[vq,vn] at h;obtain⟨kc,hkc,⟨rs,ps⟩,hfk,vc,hvc,⟨vs,qs⟩,hfv,h⟩:=h;cases h;simp only at hps;obtain⟨hag,ks,hf,hks⟩:=Ri hkey;obtain⟨kv,k1,k2⟩:=IX hkc hi;have kC:=Kv hfk k1 fun p hp=>hps p (by simp[hp]);have ekv:=L3 hag k2;obtain⟨zv,z1,z2⟩:=IX hvc hv;have zC:=Kv hfv z1 fun p hp=>hps p (by simp[hp]);obtain⟨b,hrb,rfl,_⟩:=hx;have hbk:=hm.blk id;rw[hid] at hbk;obtain⟨hmx,l,b',es,clock,hT,hrb',hb,hlen,hmax,hent,base,hclock,hborn⟩:=hbk;rw[hrb] at hrb';cases hrb';have hfit:=hps ⟨ "fits 1",Fo 1,[.e mx,.c (.list [[]])]⟩ (by simp);have hfit:l.length+1<=AF:=by
     simp only[Pr.holds,Fo,wG,wa] at hfit;have e1:u0 [Rf.eval T (.e mx),Rf.eval T (.c (.list [[]]))]=T mx:=rfl;have e2:u1 [Rf.eval T (.e mx),Rf.eval T (.c (.list [[]]))]= .list [[]]:=rfl;rw[e1,e2,hT] at hfit;simpa [U.toL,AF] using hfit
    have hKE:=PP (P:=P) (w:=w) hks hag kC hlen hent;have hfind:=Qc (w:=w) hf hKE;have hchk:=Hi (P:=P) (w:=w) false 12 10000 kt ks kv (by decide) hf (by rw[Z3 hks];exact kC.len.1);have hget:=Qo (P:=P) hb;have hlt:=(vx.1 hb).1;have hkl:(rs.map (Rf.eval T)).length=kk.length:=kC.len.2;have hTn:T g.n= .list (Bc kk.length l (rs.map (Rf.eval T)) (vs.map (Rf.eval T))):=by
     rw[hnew.head];simp only[Ex.eval,YA,wG,v7,Rf.eval];have e1:u0 (T mx::(rs.map (Rf.eval T)++vs.map (Rf.eval T)))=T mx:=rfl;have e2:List.tail (T mx::(rs.map (Rf.eval T)++vs.map (Rf.eval T)))=rs.map (Rf.eval T)++vs.map (Rf.eval T):=rfl;have e3:rs.map (fun x=>Rf.eval T x)=rs.map (Rf.eval T):=rfl;rw[show (List.map (Rf.eval T) rs++List.map (Rf.eval T) vs)=rs.map (Rf.eval T)++vs.map (Rf.eval T) from rfl,e1,e2,hT,List.take_left' hkl,List.drop_left' hkl];rfl
    have hke:Bn (AS T ρ m w) w kk ka (rs.map (Rf.eval T)) iv:=⟨kv,kC,k2⟩;have hva:Bn (AS T ρ m w) w vk va (vs.map (Rf.eval T)) vv:=⟨zv,zC,z2⟩;have fin:∀(es':List MapEntry) (clock':Nat),es'.length=(Bc kk.length l (rs.map (Rf.eval T)) (vs.map (Rf.eval T))).length->es'.length<=AF->
      (∀(i:Nat) (us:List U) (e:MapEntry),(Bc kk.length l (rs.map (Rf.eval T)) (vs.map (Rf.eval T)))[i]? =some us->es'[i]? =some e->∃u1 u2,us=u1++u2/\Bn (AS T ρ m w) w kk ka u1 e.key/\Bn (AS T ρ m w) w vk va u2 e.val)->
      (∃base,clock'=base+es'.length/\∀(i:Nat) (e:MapEntry),es'[i]? =some e->e.born=base+i)->
      AE T g.n ρ m w ρ (m.set id (.mapb g.n kk ka vk va)) (w.putObj b (.map es'.toArray clock'))/\AD T (g.n+1) ρ (m.set id (.mapb g.n kk ka vk va)) (w.putObj b (.map es'.toArray clock')):=by
     intro es' clock' q1 q2 q3 q4;refine gU rfl hm (by rw[hid];rfl) (by rw[hid];rfl) hrb (by omega) fun hs=>⟨by omega,_,b,es',clock',hTn,hrb,World.putObj_heap_same hlt,q1,by omega,fun i us e h1 h2=>?_,q4⟩;obtain⟨u1,u2,g1,g2,g3⟩:=q3 i us e h1 h2;exact⟨u1,u2,g1,Bn.mono (fun _ _ h=>hs.safe0 h) g2,Bn.mono (fun _ _ h=>hs.safe0 h) g3⟩
    cases he:es[Az kk.length l (rs.map (Rf.eval T))]? with
    |some e=>
     have hlt2:Az kk.length l (rs.map (Rf.eval T)) < l.length:=by rw[<-hlen];exact (vu.1 he).1
     have hms:Bc kk.length l (rs.map (Rf.eval T)) (vs.map (Rf.eval T))=l.set (Az kk.length l (rs.map (Rf.eval T))) (rs.map (Rf.eval T)++vs.map (Rf.eval T)):=by
      unfold Bc;rw[decide_eq_true hlt2];rfl
     rw[he] at hfind;have hle:=vt hlt2;obtain⟨u1,u2,e1,⟨ev,e2,e3⟩,e4⟩:=hent _ _ e hle he;have hq:Bb u1 (rs.map (Rf.eval T))=true:=by
      have hlt4:List.findIdx (fun r=>Bb (r.take kk.length) (rs.map (Rf.eval T))) l < l.length:=hlt2;have:=List.findIdx_getElem (p:=fun r=>Bb (r.take kk.length) (rs.map (Rf.eval T))) (xs:=l) (w:=hlt4);have e5:l[List.findIdx (fun r=>Bb (r.take kk.length) (rs.map (Rf.eval T))) l]=u1++u2:=e1;rw[e5,List.take_left' e2.len.2] at this;exact this
     have hKE1:KE ks kv ev (Bb u1 (rs.map (Rf.eval T))):=Xd hks kC e2;rw[hq] at hKE1;have eek:=L3 hag e3;have hst:=eN (w:=w) hf hKE1;generalize hix:Az kk.length l (rs.map (Rf.eval T))=ix at*;have hget2:(es.toArray[ix]?).map (·.key)=some (Al P kt ev):=by simp[he,eek]
     have hmod:(es.toArray.modify ix fun e=>{ e with key:=Al P kt kv,val:=vv })=(es.modify ix fun e=>{ e with key:=Al P kt kv,val:=vv }).toArray:=by simp
     have hm2:∀i:Nat,(es.modify ix fun e=>{ e with key:=Al P kt kv,val:=vv })[i]? =if ix=i then (es[i]?).map (fun e=>{ e with key:=Al P kt kv,val:=vv }) else es[i]? :=fun i=>by
      rw[List.getElem?_modify];split<;>simp_all
     have h3:∀(i:Nat) (us:List U) (e:MapEntry),(Bc kk.length l (rs.map (Rf.eval T)) (vs.map (Rf.eval T)))[i]? =some us->(es.modify ix fun e=>{ e with key:=Al P kt kv,val:=vv })[i]? =some e->∃u1 u2,us=u1++u2/\Bn (AS T ρ m w) w kk ka u1 e.key/\Bn (AS T ρ m w) w vk va u2 e.val:=by
      intro i us e' h1 h2;rw[hms,List.getElem?_set] at h1;rw[hm2] at h2;have hl3:ix < l.length:=hlt2;by_cases hi:ix=i
      .rw[if_pos hi,if_pos hl3] at h1;rw[if_pos hi,<-hi,he] at h2;cases h1;cases h2;refine⟨_,_,rfl,?_,hva⟩;rw[<-ekv];exact hke
      .rw[if_neg hi] at h1 h2;exact hent i us e' h1 h2
     have h4:∀(i:Nat) (e:MapEntry),(es.modify ix fun e=>{ e with key:=Al P kt kv,val:=vv })[i]? =some e->e.born=base+i:=by
      intro i e' h1;rw[hm2] at h1;split at h1
      .rename_i hi;subst hi;rw[he] at h1;cases h1;exact hborn _ e he
      .exact hborn i e' h1
     obtain⟨f1,f2⟩:=fin (es.modify ix fun e=>{ e with key:=Al P kt kv,val:=vv }) clock (by rw[hms];simp[hlen]) (by simp[hlen];exact hmax) h3 ⟨base,by simp;exact hclock,h4⟩;refine⟨_,?_,f1,f2,rfl⟩;simp only[Instr.mapUpdate,Sem.run_bind,run_underlying hu,Result.andThen_ok,hget,ekv,hchk,hfind,Option.map_some,hget2,Option.getD_some,hst];rw[QS _ hb,hmod]
    |none=>
     have hnl:¬Az kk.length l (rs.map (Rf.eval T)) < l.length:=fun hlt=>by
      rw[<-hlen] at hlt;rw[vt hlt] at he;cases he
     have hms:Bc kk.length l (rs.map (Rf.eval T)) (vs.map (Rf.eval T))=l++[rs.map (Rf.eval T)++vs.map (Rf.eval T)]:=by
      unfold Bc;rw[decide_eq_false hnl];rfl
     rw[he] at hfind;have h3:∀(i:Nat) (us:List U) (e:MapEntry),(Bc kk.length l (rs.map (Rf.eval T)) (vs.map (Rf.eval T)))[i]? =some us->(es++[{ key:=iv,val:=vv,born:=clock }])[i]? =some e->∃u1 u2,us=u1++u2/\Bn (AS T ρ m w) w kk ka u1 e.key/\Bn (AS T ρ m w) w vk va u2 e.val:=by
      intro i us e h1 h2;rw[hms] at h1;rcases wD i l.length with hi|hi
      .rw[wE hi] at h1;rw[wE (by omega)] at h2;exact hent i us e h1 h2
      .rw[wF hi] at h1;rw[wF (by omega),hlen] at h2;have h0:i - l.length=0:=by
        rcases Nat.eq_zero_or_pos (i - l.length) with h|h
        .exact h
        .rw[wV (by simp;omega)] at h1;cases h1
       rw[h0] at h1 h2;cases h1;cases h2;exact⟨_,_,rfl,hke,hva⟩
     have h4:∀(i:Nat) (e:MapEntry),(es++[{ key:=iv,val:=vv,born:=clock }])[i]? =some e->e.born=base+i:=by
      intro i e h1;rcases wD i es.length with hi|hi
      .rw[wE hi] at h1;exact hborn i e h1
      .rw[wF hi] at h1;have h0:i - es.length=0:=by
        rcases Nat.eq_zero_or_pos (i - es.length) with h|h
        .exact h
        .rw[wV (by simp;omega)] at h1;cases h1
       rw[h0] at h1;cases h1;show clock=base+i;omega
     obtain⟨f1,f2⟩:=fin (es++[{ key:=iv,val:=vv,born:=clock }]) (clock+1) (by rw[hms];simp[hlen]) (by simp[hlen];exact hfit) h3 ⟨base,by simp;omega,h4⟩;refine⟨_,?_,f1,f2,rfl⟩;simp only[Instr.mapUpdate,Sem.run_bind,run_underlying hu,Result.andThen_ok,hget,ekv,hchk,hfind,Option.map_none];rw[QS _ hb];simp
   .cases h
  .cases h
 .cases h
end
section
variable {T:Tab}{n:Nat}{ρ :Nat->Option Nat}{m:Mem}{w:World}
theorem AE.weaken {m2:Mem}(h:∀id,m2.at id=m.at id\/m2.at id= .gone):AE T n ρ m w ρ m2 w where
 os:=rfl
 tape:=rfl
 output:=rfl
 size:=vr _
 mlen:=fun id hp=>by
  rcases h id with e|e
  .rw[e];exact hp
  .rw[e];exact fun h=>by cases h
 rho:=fun id hp=>by
  refine⟨rfl,?_⟩;rcases h id with e|e
  .rw[e];exact hp
  .rw[e];rfl
 untr:=fun id _ ht=>by
  rcases h id with e|e
  .rw[<-e];exact ht
  .rw[e] at ht;cases ht
 fresh:=fun id b hp ht _=>by
  rcases h id with e|e
  .rw[e,hp] at ht;cases ht
  .rw[e] at ht;cases ht
 old:=fun _ _ _=>rfl
 tok:=fun id x ks e hx=>by
  rcases h id with e'|e'
  .exact .inl ⟨by rw[e'];exact hx,rfl,fun _ _=>rfl⟩
  .exact .inr ⟨fun _ _ _ _=>rfl,.inl e'⟩
 row:=fun id x y ks e hx=>by
  rcases h id with e'|e'
  .exact .inr ⟨x,y,ks,by rw[e'];exact hx,rfl,.inl ⟨rfl,rfl,fun _ vs _ hv=>⟨vs,hv,rfl⟩⟩⟩
  .exact .inl e'
theorem AD.weaken (hm:AD T n ρ m w){m2:Mem}(h:∀id,m2.at id=m.at id\/m2.at id= .gone):AD T n ρ m2 w where
 fr:=hm.fr
 blk:=fun id=>by
  rcases h id with e|e
  .exact BB.step (AE.weaken h) hm (vr _) e rfl (fun _ _=>rfl)
  .rw[e];trivial
 inj:=fun id id' b ht ht' h1 h2=>by
  refine hm.inj id id' b ?_ ?_ h1 h2
  .rcases h id with e|e
   .rw[<-e];exact ht
   .rw[e] at ht;cases ht
  .rcases h id' with e|e
   .rw[<-e];exact ht'
   .rw[e] at ht';cases ht'
theorem fQ {m:Mem}{b:Blk}(id:Nat):Mem.at (m++[.gone]) id=Mem.at (m++[b]) id\/Mem.at (m++[.gone]) id= .gone:=by
 unfold Mem.at;rcases Nat.lt_trichotomy id m.length with h|h|h
 .rw[wE h,wE h];exact .inl rfl
 .subst h;rw[wF (vr _),wF (vr _)];simp
 .rw[wF (by omega),wF (by omega)];obtain⟨k,hk⟩:∃k,id - m.length=k+1:=⟨id - m.length - 1,by omega⟩;rw[hk];exact .inl rfl
end
section
variable {P:Program}{T:Tab}{ρ :Nat->Option Nat}{m:Mem}{w:World}{g:G}{r:R}
theorem V9 {a:Act}{o:Oper}{b:Builtin}{args:Array Operand}{ts:Array TypeId}{ev:Operand->AC}(ho:o.op= .call { callee:= .builtin b,args,argTypes:=ts })(h:HN P b ts (args.toList.map ev) m g=some r)
  (hnew:New T g.n r.us) (hps:∀q∈r.ps,q.holds T) (hm:AD T g.n ρ m w) (hev:∀x,AA T g.n ρ m w (ev x) (a.eval x)):BC T g ρ m w ((execOp a.eval o).run P w) r:=by
 rw[Hl ho];obtain⟨args⟩:=args;unfold HN at h;split at h
 .rename_i b' x harg;cases args with
  |nil=>cases harg
  |cons x1 rest=>
   cases rest with
   |cons=>cases harg
   |nil=>
    simp at harg;subst harg;simp only[vq,vn] at h;obtain⟨t,ht,h⟩:=h;obtain⟨z,h1,h2,h3⟩:=Q4 h hnew hm (hev x1) ts ht o.type;exact BC.pure (by simp[builtin,h1]) hm h2 h3
 .rename_i b' x y harg;cases args with
  |nil=>cases harg
  |cons x1 rest=>
   cases rest with
   |nil=>cases harg
   |cons x2 rest=>
    cases rest with
    |cons=>cases harg
    |nil=>
     simp at harg;obtain⟨rfl,rfl⟩:=harg;obtain⟨z,h1,h2,h3⟩:=Iu (P:=P) h hnew (hev x1) (hev x2) ts o.type;exact BC.pure (by simp at h1;simp[builtin,h1]) hm h2 h3
 .rename_i b' x y harg;cases args with
  |nil=>cases harg
  |cons x1 rest=>
   cases rest with
   |nil=>cases harg
   |cons x2 rest=>
    cases rest with
    |cons=>cases harg
    |nil=>
     simp at harg;obtain⟨rfl,rfl⟩:=harg;obtain⟨z,h1,h2,h3⟩:=Iu (P:=P) h hnew (hev x1) (hev x2) ts o.type;exact BC.pure (by simp at h1;simp[builtin,h1]) hm h2 h3
 .rename_i b' x y harg;cases args with
  |nil=>cases harg
  |cons x1 rest=>
   cases rest with
   |nil=>cases harg
   |cons x2 rest=>
    cases rest with
    |cons=>cases harg
    |nil=>
     simp at harg;obtain⟨rfl,rfl⟩:=harg;obtain⟨z,w', ρ',h1,h2,h3,h4⟩:=Xi h hnew hps hm (hev x1) (hev x2) o.type;exact⟨z,w', ρ',.inl (by simp[builtin,h1]),h2,h3,h4⟩
 .rename_i b' c0 c1 c2 cl harg;cases args with
  |nil=>cases harg
  |cons x1 rest=>
   simp only[wG,List.cons.injEq] at harg;obtain⟨rfl,harg⟩:=harg;obtain⟨z,h1,h2,h3⟩:=Jh (P:=P) (w:=w) _ _ _ (rest.map a.eval) g r h hnew (hev x1) (by rw[<-harg];exact AB.of_map hev rest);refine BC.pure (v:=z) ?_ hm h2 h3;simp only[wM,if_false] at h1;simp[builtin,Builtin.min_,h1]
 .rename_i b' c0 c1 c2 cl harg;cases args with
  |nil=>cases harg
  |cons x1 rest=>
   simp only[wG,List.cons.injEq] at harg;obtain⟨rfl,harg⟩:=harg;obtain⟨z,h1,h2,h3⟩:=Jh (P:=P) (w:=w) _ _ _ (rest.map a.eval) g r h hnew (hev x1) (by rw[<-harg];exact AB.of_map hev rest);refine BC.pure (v:=z) ?_ hm h2 h3;simp only[if_true] at h1;simp[builtin,Builtin.max_,h1]
 .rename_i b' harg;cases args with
  |nil=>cases harg
  |cons x1 rest=>
   cases rest with
   |cons=>simp at harg
   |nil=>
    simp at harg;simp only[vq,vn] at h;obtain⟨t,ht,h⟩:=h;split at h
    .rename_i e hu;cases h;have hx:=hev x1;rw[harg] at hx;have hx2:a.eval x1= .slice none 0 0:=hx;refine BC.pure (v:= .int .i64 0) ?_ hm rfl rfl;simp[builtin,Builtin.cap_,hx2,ht,run_underlying hu,goInt]
    .cases h
 .cases h
theorem ZN {ev:Operand->AC}{a:Act}{o:Oper}(h:aOp P ev o.op m g=some r)(hnew:New T g.n r.us)(hps:∀q∈r.ps,q.holds T)(hm:AD T g.n ρ m w)(hev:∀x,AA T g.n ρ m w (ev x) (a.eval x)):
  BC T g ρ m w ((execOp a.eval o).run P w) r:=by
 have arr:∀xs:Array Operand,xs.map a.eval=(xs.toList.map a.eval).toArray:=fun xs=>by rw[<-Array.toList_map,Array.toArray_toList]
 cases ho:o.op<;>rw[ho] at h<;>simp only[aOp] at h
 case move x=>cases h;exact BC.same (v:=a.eval x) (by simp[execOp,ho]) hm rfl (hev x)
 case assign x=>cases h;exact BC.same (v:=a.eval x) (by simp[execOp,ho]) hm rfl (hev x)
 case pick c x y=>
  obtain⟨q,h1,h2,h3⟩:=Ld h hnew hm (hev c) (fun _=>hev x) (fun _=>hev y);exact BC.pure (v:=if q then a.eval x else a.eval y) (by simp[execOp,ho,h1,asBool]) hm h2 h3
 case alloc t=>exact Z6 h hm ho
 case box t x=>exact gB h hm ho (hev x)
 case build t parts=>exact (Ry h hm ho hev).res hm
 case buildSlice t len parts=>exact K8 h hnew hm ho hev
 case load t x=>
  obtain⟨u,h1,h2,h3⟩:=LO h hnew hm (hev x);exact BC.pure (by simp[execOp,ho,h1]) hm h2 h3
 case store t x y=>
  obtain⟨w',h1,h2,h3,h4⟩:=b9 h hnew hm (hev x) (hev y);exact⟨undef,w', ρ,.inr ⟨by simp[execOp,ho,h1],rfl⟩,h2,h3,by rw[h4];exact trivial⟩
 case nilCheck x=>exact (MX h hps hm ho rfl (hev x)).res hm
 case binOp op t x y yt=>
  obtain⟨z,h1,h2,h3⟩:=Nr h hnew hps (hev x) (hev y) x y;exact BC.pure (v:=z) (KH (s:=do eqGuard op t x y (a.eval x) (a.eval y);binOp op t (a.eval x) (a.eval y)) (by simp only[execOp,ho]) h1) hm h2 h3
 case unOp op t x=>
  obtain⟨z,h1,h2,h3⟩:=VS (P:=P) (w:=w) h hnew (hev x);exact BC.pure (by simp[execOp,ho,h1]) hm h2 h3
 case convert s d x=>
  obtain⟨z,h1,h2,h3⟩:=Kj h hnew (hev x);exact BC.pure (by simp[execOp,ho,h1]) hm h2 h3
 case makeFunc fn first cap=>
  cases h;refine BC.same (v:= .func fn (first.map a.eval) (cap.map a.eval)) (by simp[execOp,ho,Instr.makeFunc]) hm rfl ?_;refine⟨first.toList.map a.eval,cap.toList.map a.eval,by rw[arr,arr],AB.of_map hev _,AB.of_map hev _⟩
 case fieldAddr t x f=>
  obtain⟨z,h1,h2,h3,h4⟩:=IN h (hev x);exact BC.same (by simp[execOp,ho,h1]) hm h2 h4
 case field t x f=>
  obtain⟨z,h1,h2,h3,h4⟩:=NJ h (hev x);exact BC.same (by simp[execOp,ho,h1]) hm h2 h4
 case indexAddr t x i=>
  obtain⟨z,h1,h2,h3⟩:=IJ h hnew hps (hev x) (hev i);exact BC.pure (by simp[execOp,ho,h1]) hm h2 h3
 case makeMap t rv=>
  cases rv with
  |none=>exact WR h hnew hm ho
  |some _=>cases h
 case lookup t x ix ok=>
  obtain⟨z,h1,h2,h3⟩:=YE h hnew hps hm (hev x) (hev ix);exact BC.pure (by simp[execOp,ho,h1]) hm h2 h3
 case mapUpdate t x ix v=>
  obtain⟨w',h1,h2,h3,h4⟩:=Sy h hnew hps hm (hev x) (hev ix) (hev v);exact⟨undef,w', ρ,.inr ⟨by simp[execOp,ho,h1],rfl⟩,h2,h3,by rw[h4];exact trivial⟩
 case index t x i=>
  obtain⟨z,h1,h2,h3⟩:=Ms h hnew hps (hev x) (hev i);rcases h3 with h3|h3
  .exact BC.same (by simp[execOp,ho,h1]) hm h2 h3
  .exact BC.pure (by simp[execOp,ho,h1]) hm h2 h3
 case slice t x lo hi mx=>
  cases mx with
  |some v=>
   cases hi with
   |none=>cases h
   |some hi=>
    have ho':MC T g.n ρ m w (lo.map ev) (lo.map a.eval):=by
     cases lo with
     |none=>rfl
     |some y=>exact⟨_,rfl,hev y⟩
    obtain⟨z, ρ',h1,h2,h3,h4⟩:=X0 h hnew hps hm (hev x) ho' (hev hi) (hev v);exact⟨z,w, ρ',.inl (by simp[execOp,ho,h1]),h2,h3,h4⟩
  |none=>
   have ho':∀l:Option Operand,MC T g.n ρ m w (l.map ev) (l.map a.eval):=by
    intro l;cases l with
    |none=>rfl
    |some y=>exact⟨_,rfl,hev y⟩
   obtain⟨z,h1,h2,h3⟩:=Mb h hnew hps hm (hev x) (ho' lo) (ho' hi);exact BC.pure (by simp[execOp,ho,h1]) hm h2 h3
 case makeSlice t x y=>exact S4 h hnew hps hm ho (hev x) (hev y)
 case extract x i=>
  obtain⟨z,h1,h2,h3,h4⟩:=Ka (P:=P) h (hev x);exact BC.same (by simp[execOp,ho,h1]) hm h2 h4
 case call c=>
  obtain⟨callee,args,ts⟩:=c;cases callee with
  |builtin b=>exact V9 ho h hnew hps hm hev
  |value f=>cases h
  |invoke x n=>cases h
 all_goals cases h
theorem Pi {t:TypeId}{len:Nat}{parts:List (Nat × AC)}(h:EU P t len parts m g=some r):∃x ks e,r.c= .vec m.length x ks/\r.m=m++[.tok x ks e]:=by
 unfold EU at h;split at h
 .simp only[vq,vn] at h;obtain⟨i,hi,z,hz,h⟩:=h;split at h
  .simp only[vn] at h;obtain⟨ls,_,h⟩:=h;split at h
   .cases h;exact⟨_,_,_,rfl,rfl⟩
   .cases h
  .split at h
   .simp only[vn] at h;obtain⟨l,_,h⟩:=h;split at h
    .cases h;exact⟨_,_,_,rfl,rfl⟩
    .cases h
   .cases h
 .cases h
theorem WT {t:TypeId}{len:Nat}{a:Act}{o:Oper}{ev:Operand->AC}{parts:Array (Nat × Operand)}(h:Ov P t len (parts.toList.map fun (i,x)=>(i,ev x)) m g=some r)(hnew:New T g.n r.us)(hm:AD T g.n ρ m w)
  (ho:o.op= .buildSlice t len parts) (hev:∀x,AA T g.n ρ m w (ev x) (a.eval x)):BC T g ρ m w ((execOp a.eval o).run P w) r:=by
 unfold Ov at h;simp only[vq,vn] at h;obtain⟨r0,h0,h⟩:=h;obtain⟨x,ks,e,hc,hb⟩:=Pi h0;rw[hc] at h;cases h;obtain⟨v,w', ρ',k1,k2,k3,k4⟩:=K8 h0 hnew hm ho hev;rw[hb] at k2 k3 k4;rw[hc] at k4;have k5:AA T (g.n+r0.us.length) ρ' (m++[.tok x ks e]) w' (.ro x ks) v:=⟨k4.1,k4.2.2.1⟩;have hw:=fun id=>fQ (m:=m) (b:= .tok x ks e) id;exact⟨v,w', ρ',k1,k2.trans hm (Nat.le_add_right _ r0.us.length) (AE.weaken (n:=g.n+r0.us.length) hw),k3.weaken hw,AA.mono0 (AE.weaken hw) (vr _) _ _ k5⟩
theorem RB {k:Nat}{ev:Operand->AC}{a:Act}{o:Oper}(h:FP k P ev o.op m g=some r)(hnew:New T g.n r.us)(hps:∀q∈r.ps,q.holds T)(hm:AD T g.n ρ m w)(hev:∀x,AA T g.n ρ m w (ev x) (a.eval x)):
  BC T g ρ m w ((execOp a.eval o).run P w) r:=by
 unfold FP at h;split at h
 .exact ZN h hnew hps hm hev
 .split at h
  .rename_i t n c ho;exact Wp h hnew hps hm ho (hev n) (hev c)
  .rename_i t len parts ho;exact MR h hnew hm ho
  .rename_i t x lo hi mx ho;have ho':MC T g.n ρ m w (lo.map ev) (lo.map a.eval):=by
    cases lo with
    |none=>rfl
    |some y=>exact⟨_,rfl,hev y⟩
   obtain⟨z, ρ',h1,h2,h3,h4⟩:=Sj h hnew hm (hev x) ho' (hev hi) (hev mx);exact⟨z,w, ρ',.inl (by simp[execOp,ho,h1]),h2,h3,h4⟩
  .rename_i args ts ho;obtain⟨args⟩:=args;split at h
   .rename_i s x harg;rw[Hl ho];cases args with
    |nil=>cases harg
    |cons x1 rest=>
     cases rest with
     |nil=>cases harg
     |cons x2 rest=>
      cases rest with
      |cons=>cases harg
      |nil=>
       simp at harg;obtain⟨rfl,rfl⟩:=harg;obtain⟨z,w', ρ',h1,h2,h3,h4⟩:=OS h hnew hps hm (hev x1) (hev x2) o.type;exact⟨z,w', ρ',.inl (by simp[builtin,h1]),h2,h3,h4⟩
   .cases h
  .cases h
 .split at h
  .rename_i t len parts ho;split at h
   .exact WT h hnew hm ho hev
   .exact RM h hm ho hev
  .exact ZN h hnew hps hm hev
end
structure Loc where
 tmps:AO
 mem:Mem
inductive XK where
 |normal
 |exit (id:Nat)
 |ret
 deriving DecidableEq
abbrev YF:=Nat->List AC->PC->Mem->G->Option (AC × Mem × G)
structure Ys where
 get:Nat->Option YF
 mu:Tmp->Nat
instance:CoeFun Ys (fun _=>Nat->Option YF):=⟨Ys.get⟩
def Ys.none:Ys:=⟨fun _=>Option.none,fun _=>0⟩
def dg (ys:Ys):Option Tmp->Nat
 |some t=>ys.mu t
 |none=>0
abbrev Ak:=Ys->FuncId->List AC->PC->Mem->G->Option (AC × Mem × G)
structure As where
 k:XK
 pc:PC
 l:Loc
structure GE where
 j:Nat
 want:Bool
 p:Nat
 imp:List Nat
def MM (imp:List Nat):AC->AC
 | .on c a=>if imp.contains c then a else .on c a
 | .gd c a=>if imp.contains c then a else .gd c a
 |a=>a
def DF (imp:List Nat)(tmps:AO):Operand->AC
 | .tmp t=>MM imp ((tmps.get t).getD .any)
 | .const v=>II v
 | .global _=> .any
 | .func f=> .fn (.func f) [] []
def EB:PC->Rf
 |none=> .c (.bool true)
 |some c=> .e c
def Cf (pc:PC)(x:Nat)(want:Bool):Ex:=
 match pc with
 |none=>if want then ⟨ "id",oId,[.e x]⟩ else ⟨ "not",RG,[.e x]⟩
 |some c=>⟨ "and",Mp,[.e c,if want then .e x else .n x]⟩
structure RS where
 tmps:AO
 mem:Mem
 g:G
 gl:List GE
def Di (pc:PC)(base:List Nat)(s:RS)(j:Nat)(want:Bool):AC->Option (Option (PC × List Nat) × RS)
 | .cb b=>if b=want then some (some (pc,base),s) else some (none,s)
 | .b x=>some (some (some s.g.n,s.g.n::base),{ s with g:=s.g.pushAll [Cf pc x want],gl:=⟨j,want,s.g.n,s.g.n::base⟩::s.gl })
 | .nb x=>some (some (some s.g.n,s.g.n::base),{ s with g:=s.g.pushAll [Cf pc x (!want)],gl:=⟨j,want,s.g.n,s.g.n::base⟩::s.gl })
 |_=>none
def DV (ops:Array Oper)(pc:PC)(s:RS)(o:Oper):Option (Option (PC × List Nat) × RS):=
 match o.guard with
 |none=>some (some (pc,[]),s)
 |some (j,want)=>
  match s.gl.filter (fun e=>Nat.beq e.j j&&(e.want==want)) with
  |e::es=>some (some (some e.p,e.imp++(es.map (·.imp)).flatten),s)
  |[]=>do
   let oj<-ops[j]?;let d<-oj.dst;let c<-s.tmps.get d
   match c with
   | .tup []=>some (none,s)
   | .gd c a=>do
    let e<-s.gl.find? (fun e=>Nat.beq e.p c)
    Di (some c) e.imp s j want a
   |a=>Di pc [] s j want a
def BA:Op->Bool
 | .move _| .assign _| .pick .. | .build .. | .load .. | .nilCheck _| .binOp .. | .unOp .. | .convert .. | .makeFunc .. | .fieldAddr .. | .field .. | .indexAddr .. | .index .. | .extract .. | .slice _ _ _ _ none=>true
 | .call { callee:= .builtin .cap,.. }| .call { callee:= .builtin .len,.. }| .call { callee:= .builtin .min,.. }| .call { callee:= .builtin .max,.. }=>true
 |_=>false
def Blk.beq:Blk->Blk->Bool
 | .pad,.pad=>true
 | .gone,.gone=>true
 | .cells l e,.cells l' e'=>AC.beqL l l'&&Nat.beq e e'
 | .tok x ks e,.tok x' ks' e'=>Nat.beq x x'&&Kd.beqs ks ks'&&Nat.beq e e'
 | .lp x a,.lp x' a'=>Nat.beq x x'&&AC.beq a a'
 | .mrow x y ks e,.mrow x' y' ks' e'=>Nat.beq x x'&&Nat.beq y y'&&Kd.beqs ks ks'&&Nat.beq e e'
 | .mapb x kk ka vk va,.mapb x' kk' ka' vk' va'=>Nat.beq x x'&&Kd.beqs kk kk'&&(ka==ka')&&Kd.beqs vk vk'&&(va==va')
 |_,_=>false
def GO:Mem->Mem->Bool
 |[],_=>true
 |b::m,b'::m'=>Blk.beq b b'&&GO m m'
 |_,_=>false
def Kp (ops:Array Oper)(gl:List GE)(c:Operand)(want:Bool):List Nat:=
 match c with
 | .tmp t=>(gl.filter fun e=>(e.want==want)&&(((ops[e.j]?).bind (·.dst))==some t)).map (·.p)
 |_=>[]
def DJ (n:Nat)(b:Rf):Blk->Blk->Blk × List Ex
 | .cells l e,.cells l' e'=>
  if l.length=l'.length/\e=e' then
   let (r,us):=MH (fun n=>mix n b) n l l'
   if r.all AC.atom then (.cells r e,us) else (.gone,us)
  else (.gone,[])
 | .tok x ks e,.tok x' ks' e'=>
  if Nat.beq x x'&&Kd.beqs ks ks'&&Nat.beq e e' then (.tok x ks e,[])
  else if e=e'/\ks.length=ks'.length then (.tok n (Kd.joins ks ks') e,[⟨ "if",oIf,[b,.e x,.e x']⟩]) else (.gone,[])
 | .tok x ks e,.pad=>(.tok n ks e,[⟨ "if",oIf,[b,.e x,.c (.list [])]⟩])
 | .pad,.tok x ks e=>(.tok n ks e,[⟨ "if",oIf,[b,.c (.list []),.e x]⟩])
 | .lp x a,.lp x' a'=>
  if Nat.beq x x' then
   let (c,us):=mix n b a a'
   (.lp x c,us)
  else (.gone,[])
 | .mrow x y ks e,.mrow x' y' ks' e'=>
  if Nat.beq y y'&&Nat.beq e e'&&Nat.beq ks.length ks'.length then
   if Nat.beq x x'&&Kd.beqs ks ks' then (.mrow x y ks e,[]) else (.mrow n y (Kd.joins ks ks') e,[⟨ "if",oIf,[b,.e x,.e x']⟩])
  else (.gone,[])
 | .mapb x kk ka vk va,.mapb x' kk' ka' vk' va'=>
  if Nat.beq x x'&&Kd.beqs kk kk'&&(ka==ka')&&Kd.beqs vk vk'&&(va==va') then (.mapb x kk ka vk va,[])
  else if Nat.beq kk.length kk'.length&&(ka==ka')&&Nat.beq vk.length vk'.length&&(va==va') then (.mapb n (Kd.joins kk kk') ka (Kd.joins vk vk') va,[⟨ "if",oIf,[b,.e x,.e x']⟩])
  else (.gone,[])
 | .pad,.pad=>(.pad,[])
 |_,_=>(.gone,[])
def FR (b:Rf):Nat->Mem->Mem × List Ex
 |_,[]=>([],[])
 |n,y::m'=>
  let (z,us):=DJ n b .pad y;let (r,us'):=FR b (n+us.length) m'
  (z::r,us++us')
def BR (b:Rf):Nat->Mem->Mem->Mem × List Ex
 |n,[],m'=>FR b n m'
 |n,x::m,m'=>
  let (z,us):=DJ n b x (m'.headD .pad);let (r,us'):=BR b (n+us.length) m m'.tail
  (z::r,us++us')
def Jo (m:Mem)(id:Nat):Option AC:=match m.at id with| .tok z ks _=>some (.vec id z ks)|_=>none
def Ew (m m1 m2:Mem)(c d:AC):Option AC:=
 match c,d with
 | .vec id x ks,.vec id' x' ks'=>
  if Nat.beq id id' then
   match m1.at id,m2.at id with
   | .tok y ky _,.tok y' ky' _=>if Nat.beq x y&&Nat.beq x' y'&&Kd.beqs ks ky&&Kd.beqs ks' ky' then Jo m id else none
   |_,_=>none
  else none
 | .vec id x ks,.cv .nilSlice=>
  match m1.at id,m2.at id with
  | .tok y ky _,.pad=>if Nat.beq x y&&Kd.beqs ks ky then Jo m id else none
  |_,_=>none
 | .cv .nilSlice,.vec id x ks=>
  match m1.at id,m2.at id with
  | .pad,.tok y ky _=>if Nat.beq x y&&Kd.beqs ks ky then Jo m id else none
  |_,_=>none
 |_,_=>none
def Fu (m m1 m2:Mem):List AC->List AC->List AC->List AC
 |c::l,d::l',a::r=>(Ew m m1 m2 c d).getD a::Fu m m1 m2 l l' r
 |_,_,r=>r
def Vm (m m1 m2:Mem):Blk->Blk->Blk->Blk
 | .cells l _,.cells l' _,.cells r e=> .cells (Fu m m1 m2 l l' r) e
 |_,_,z=>z
def PG (m m1 m2:Mem):Mem->Mem->Mem->Mem
 |z::r,b1,b2=>Vm m m1 m2 (b1.headD .pad) (b2.headD .pad) z::PG m m1 m2 r b1.tail b2.tail
 |[],_,_=>[]
def BT (b:Rf)(n:Nat)(m1 m2:Mem):Mem × List Ex:=
 let (r,us):=BR b n m1 m2
 (PG r m1 m2 r m1 m2,us)
def KV (f:Nat->AC->AC->AC × List Ex)(n:Nat):Option AC->Option AC->Option AC × List Ex
 |some a,some b=>let (c,us):=f n a b;(some c,us)
 |_,_=>(none,[])
def Dp (f:Nat->AC->AC->AC × List Ex):Nat->Tr->Tr->Tr × List Ex
 |n,.node v l r,.node v' l' r'=>
  let (c,us):=KV f n v v';let (l2,us1):=Dp f (n+us.length) l l';let (r2,us2):=Dp f (n+us.length+us1.length) r r'
  (.node c l2 r2,us++(us1++us2))
 |_,_,_=>(.nil,[])
def AO.flat (s:AO):Tr:=if s.loc.isEmpty then s.t else .nil
def N3 (m m1 m2:Mem)(b:Rf)(n:Nat)(c d:AC):AC × List Ex:=
 match Ew m m1 m2 c d with
 |some a=>(a,[])
 |none=>KY n b c d
def FX (n:Nat)(b:Rf)(l1 l2:Loc):Loc × List Ex:=
 let (m,us):=BT b n l1.mem l2.mem;let (t,us'):=Dp (N3 m l1.mem l2.mem b) (n+us.length) l1.tmps.flat l2.tmps.flat
 (⟨⟨l1.tmps.n,[],t⟩,m⟩,us++us')
def Cz (g:G)(pc:PC)(x:Nat)(want:Bool):PC × G:=
 match pc,want with
 |none,true=>(some x,g)
 |pc,want=>(some g.n,g.pushAll [Cf pc x want])
def HU (one:AC->PC->Mem->G->Option (AC × Mem × G))(x:Nat):Nat->List AC->PC->Mem->G->Option (AC × Mem × G)
 |_,[],_,_,_=>none
 |_,[c],pc,m,g=>one c pc m g
 |j,.cv .nilFunc::cs,pc,m,g=>HU one x (j+1) cs pc m (g.needAll pc [⟨ "ne",pNe,[.e x,.c (.int j)]⟩])
 |j,c::cs,pc,m,g=>do
  let t:=g.n;let g:=g.pushAll [⟨ "eq",oEq,[.e x,.c (.int j)]⟩];let (pa,g):=Cz g pc t true;let (ca,ma,g) <-one c pa m g;let (pb,g):=Cz g pc t false;let (cb,mb,g) <-HU one x (j+1) cs pb m g;let (m',us):=BT (.e t) g.n ma mb;let (c',us'):=E2 (g.n+us.length) (.e t) ca cb
  some (c',m',g.pushAll (us++us'))
def Dk (call:Ak)(ys:Ys)(args:List AC)(f:AC)(pc:PC)(m:Mem)(g:G):Option (AC × Mem × G):=
 match f with
 | .fn (.func k) first cap=>call ys k (first++args++cap) pc m g
 | .yl id=>
  match m.at id with
  | .lp stamp _=>do
   let y<-ys stamp
   y id args pc m g
  |_=>none
 |_=>none
def Kz (call:Ak)(ys:Ys)(f:AC)(args:List AC)(pc:PC)(m:Mem)(g:G):Option (AC × Mem × G):=
 match f with
 | .sel x alts=>HU (Dk call ys args) x 0 alts pc m g
 |f=>Dk call ys args f pc m g
def TC (pc:PC)(imp:List Nat)(c:AC):AC:=
 match pc,imp with
 |some p,_::_=> .gd p c
 |_,_=>c
def Ci (tmps:AO)(dst:Option Tmp)(c:AC):AO:=
 match dst with
 |some d=>tmps.set d c
 |none=>tmps
def TF:AC->AC
 | .on _ (.ptr i o)=> .ptr i o
 |a=>a
def VG:AC->List Pr
 | .on c (.ptr _ _)=>[⟨ "t",pT,[.e c]⟩]
 |_=>[]
def G8:List AC->List Pr
 |[]=>[]
 |a::l=>VG a++G8 l
def CO (P:Program)(call:Ak)(ys:Ys)(ops:Array Oper)(pc:PC)(s:RS)(o:Oper):Option RS:=do
 let (run,s) <-DV ops pc s o
 if s.gl.any (fun e=>((ops[e.j]?).bind (·.dst))==o.dst) then none else
 let put (c:AC):AO:=Ci s.tmps o.dst c
 match run with
 |none=>some { s with tmps:=put (.tup []) }
 |some (pc',imp)=>
  let ev:=DF imp s.tmps;let wrap (c:AC):AC:=TC pc' imp c
  match o.op with
  | .call { callee:= .value f,args,.. }=>do
   let (c,m,g) <-Kz call ys (ev f) ((args.toList.map ev).map TF) pc' s.mem (s.g.needAll pc' (G8 (args.toList.map ev)))
   match imp with
   |[]=>some { s with tmps:=put c,mem:=m,g }
   |_=>if GO s.mem m then some { s with tmps:=put (wrap c),mem:=s.mem++List.replicate (m.length - s.mem.length) .gone,g } else
    match pc' with
    |some p=>some { s with tmps:=put (wrap c),mem:=(BT (.e p) g.n m s.mem).1,g:=g.pushAll (BT (.e p) g.n m s.mem).2 }
    |none=>none
  | .pick c a b=>do
   let r<-S8 (ev c) (MM (Kp ops s.gl c true) (ev a)) (MM (Kp ops s.gl c false) (ev b)) s.mem s.g
   some { s with tmps:=put (wrap r.c),g:=(s.g.pushAll r.us).needAll pc' r.ps }
  |op=>do
   let r<-FP (match imp with|[]=>dg ys o.dst|_=>0) P ev op s.mem s.g
   match imp with
   |[]=>some { s with tmps:=put r.c,mem:=r.m,g:=(s.g.pushAll r.us).needAll pc' r.ps }
   |_=>if BA op then some { s with tmps:=put (wrap r.c),g:=(s.g.pushAll r.us).needAll pc' r.ps } else
    if GO s.mem r.m then some { s with tmps:=put (wrap r.c),mem:=s.mem++List.replicate (r.m.length - s.mem.length) .gone,g:=(s.g.pushAll r.us).needAll pc' r.ps } else none
def Cr (P:Program)(call:Ak)(ys:Ys)(ops:Array Oper)(pc:PC):List Oper->RS->Option RS
 |[],s=>some s
 |o::l,s=>do
  let s<-CO P call ys ops pc s o
  Cr P call ys ops pc l s
def D3 (acc:List Nat):List Edge->Nat
 |[]=>0
 |e::es=>if Region.binds .any e then Nat.lor (Nat.lor (2 ^ e.on) ((acc[e.on]?).getD 0)) (D3 acc es) else D3 acc es
def AQ:List Oper->List Nat->List Nat
 |[],acc=>acc
 |o::l,acc=>AQ l (acc++[D3 acc o.after.toList])
structure DS where
 tmps:AO
 mem:Mem
 g:G
 gls:List (Nat × GE)
def Ap (ops:Array Oper)(o:Oper):List Tmp:=
 (o.op.operands.toList.filterMap fun x=>match x with| .tmp t=>some t|_=>none)++
  (match o.guard with|some (j,_)=>(match ops[j]? with|some oj=>oj.dst.toList|none=>[])|none=>[])
def An:List (Tmp × Nat)->Tmp->Option Nat
 |[],_=>none
 |(t',i)::r,t=>bif Nat.beq t' t then some i else An r t
def Ah:Nat->List Oper->List (Tmp × Nat)
 |_,[]=>[]
 |i,o::l=>match o.dst with|some t=>(t,i)::Ah (i+1) l|none=>Ah (i+1) l
def Bq (D:List (Tmp × Nat))(ok:Nat->Bool)(s:AO):List Tmp->List (Nat × AC)
 |[]=>[]
 |t::r=>match s.get t with
  |some c=>if (match An D t with|some i=>ok i|none=>true) then (t,c)::Bq D ok s r else Bq D ok s r
  |none=>Bq D ok s r
def FF (R:Nat)(gls:List (Nat × GE)):List GE:=(gls.filter fun p=>R.testBit p.1).map (·.2)
mutual
def AC.free:AC->Bool
 | .ptr .. | .pix .. | .vec .. | .yl _| .asl .. | .rsv .. | .mr .. | .mp .. | .mv _=>false
 | .on _ a| .gd _ a=>AC.free a
 | .fn _ f c=>AC.freeL f&&AC.freeL c
 | .agg l| .tup l| .sel _ l=>AC.freeL l
 |_=>true
def AC.freeL:List AC->Bool
 |[]=>true
 |a::l=>AC.free a&&AC.freeL l
end
def DS.masked (S:DS)(D:List (Tmp × Nat))(ok:Nat->Bool)(R:Nat)(CD:List Tmp):RS:=⟨⟨S.tmps.n,Bq D ok S.tmps CD,.nil⟩,S.mem,S.g,FF R S.gls⟩
def FH (s:RS)(n:Nat):List GE:=s.gl.take (s.gl.length - n)
def EP (tmps:AO):Option Tmp->AC
 |some d=>(tmps.get d).getD .any
 |none=> .any
def Jb (P:Program)(call:Ak)(ys:Ys)(ops:Array Oper)(D:List (Tmp × Nat))(pc:PC)(R j:Nat)(o:Oper)(S:DS):Option DS:=do
 let s'<-CO P call ys ops pc (S.masked D R.testBit R (Ap ops o)) o;let c:=EP s'.tmps o.dst
 if (FH s' (FF R S.gls).length).all (fun e=>R.testBit e.j)&&(BA o.op||(GO S.mem s'.mem&&(Nat.beq s'.mem.length S.mem.length||AC.free c))) then
  some ⟨Ci S.tmps o.dst c,S.mem,s'.g,(FH s' (FF R S.gls).length).map (fun e=>(j,e))++S.gls⟩
 else none
def heads (P:Program)(call:Ak)(ys:Ys)(ops:Array Oper)(D:List (Tmp × Nat))(pc:PC):List Nat->List Oper->Nat->DS->Option DS
 |R::Rs,o::l,j,S=>do
  let S'<-Jb P call ys ops D pc R j o S
  heads P call ys ops D pc Rs l (j+1) S'
 |_,[],_,S=>some S
 |[],_,_,_=>none
def D6:List Nat->Nat->Nat->Nat
 |[],_,h=>h
 |r::rs,j,h=>D6 rs (j+1) (if Nat.beq (r+1) (2 ^ j) then h else j+1)
def FM:List Nat->Nat->Bool
 |[],_=>true
 |r::rs,j=>Nat.blt r (2 ^ j)&&FM rs (j+1)
def Ej:List Tmp->Bool
 |[]=>true
 |t::l=> !l.contains t&&Ej l
def TA (P:Program)(call:Ak)(ys:Ys)(ops:Array Oper)(pc:PC)(l:Loc)(g:G):Option RS:=
 let Rs:=AQ ops.toList [];let h:=D6 Rs 0 0
 if FM Rs 0&&Ej (ops.toList.filterMap (·.dst)) then do
  let S<-heads P call ys ops (Ah 0 ops.toList) pc Rs (ops.toList.take h) 0 ⟨l.tmps,l.mem,g,[]⟩
  Cr P call ys ops pc (ops.toList.drop h) ⟨S.tmps,S.mem,S.g,S.gls.map (·.2)⟩
 else none
mutual
def AC.nlt (n:Nat):AC->Bool
 | .on c a| .gd c a=>Nat.blt c n&&AC.nlt n a
 | .b x| .nb x| .i _ _ _ x| .v x| .s x| .ro x _| .vec _ x _| .rsv _ x _=>Nat.blt x n
 | .pix _ _ _ _ x _=>Nat.blt x n
 | .rp x t _ _=>Nat.blt x n&&Nat.blt t n
 | .mr _ y=>Nat.blt y n
 | .mp _ y t _ _=>Nat.blt y n&&Nat.blt t n
 | .fn _ f c=>AC.nltL n f&&AC.nltL n c
 | .sel x l=>Nat.blt x n&&AC.nltL n l
 | .agg l| .tup l=>AC.nltL n l
 |_=>true
def AC.nltL (n:Nat):List AC->Bool
 |[]=>true
 |a::l=>AC.nlt n a&&AC.nltL n l
end
def jC:BinOp->Bool| .add=>true| .sub=>true|_=>false
def Ph (n:Nat)(t:AO)(o:Oper)(c:AC):Bool:=
 match o.op with
 | .binOp _ _ x y _=>(CM (DF [] t x)).isSome&&(CM (DF [] t y)).isSome&&AC.nlt n (DF [] t x)&&AC.nlt n (DF [] t y)&&(CM c).isSome
 |_=>true
def AG (qc:Bool)(D:List (Tmp × Nat))(o:Oper):Nat:=
 match o.op with
 | .call { callee:= .value (.func _),.. }=>if qc then 2 else 3
 | .buildSlice .. =>if qc then 2 else 3
 | .move x| .assign x=>if o.guard.isNone&&(match x with| .tmp t=>(An D t).isNone|_=>true) then 0 else 1
 | .extract x _=>if o.guard.isNone&&(match x with| .tmp t=>(An D t).isNone|_=>true) then 0 else 2
 | .nilCheck _| .fieldAddr .. | .indexAddr .. =>1
 | .alloc _=>if o.guard.isNone then 4 else 3
 | .binOp op _ x y _=>if o.guard.isNone&&(jC op&&(match x with| .tmp t=>(An D t).isNone|_=>true)&&(match y with| .tmp t=>(An D t).isNone|_=>true)) then 0 else 2
 |op=>if BA op then 2 else 3
def AL:Nat->List Oper->List (Tmp × Nat)
 |_,[]=>[]
 |i,o::l=>match o.op,o.dst with
  | .alloc _,some t=>(t,i)::AL (i+1) l
  |_,_=>AL (i+1) l
def Qd (cls:List Nat)(R i k:Nat):Nat->List Nat->Bool
 |_,[]=>true
 |j,c::r=>(Nat.ble i j||(if Nat.beq k 3 then R.testBit j||Nat.beq c 0 else if Nat.beq k 2 then R.testBit j||Nat.ble c 2 else true))&&Qd cls R i k (j+1) r
def TL (cls:List Nat):Nat->List Nat->List Nat->Bool
 |i,R::Rs,k::ks=>Qd cls R i k 0 cls&&TL cls (i+1) Rs ks
 |_,_,_=>true
def QJ (R:Nat):Nat->Nat->List Nat->Bool
 |0,_,_=>true
 |n+1,m,c::r=>(R.testBit m||Nat.beq c 0)&&QJ R n (m+1) r
 |_+1,_,[]=>true
def JQ:Nat->List Nat->List Nat
 |_,[]=>[]
 |j,c::r=>bif Nat.beq c 4 then j::JQ (j+1) r else JQ (j+1) r
def wides (cls als:List Nat):Nat->List Nat->List Nat->Bool
 |i,R::Rs,k::ks=>(Nat.beq k 0||Nat.beq k 4||als.all fun j=>Nat.ble i j|| !R.testBit j||QJ R j 0 cls)&&wides cls als (i+1) Rs ks
 |_,_,_=>true
def BW:Mem->Mem->Bool
 |[],_=>true
 | .tok x ks e::m,b::m'=>Blk.beq (.tok x ks e) b&&BW m m'
 | .tok _ _ _::_,[]=>false
 | .mrow _ y ks e::m,b::m'=>(match b with| .mrow _ y' ks' e'=>Nat.beq y y'&&Nat.beq ks.length ks'.length&&Nat.beq e e'|_=>false)&&BW m m'
 | .mrow _ _ _ _::_,[]=>false
 |_::m,m'=>BW m m'.tail
mutual
def AC.noVec:AC->Bool
 | .on _ a| .gd _ a=>AC.noVec a
 | .vec _ _ _| .rsv _ _ _| .mr _ _| .mp _ _ _ _ _=>false
 | .fn _ f c=>AC.noVecL f&&AC.noVecL c
 | .sel _ l=>AC.noVecL l
 | .agg l| .tup l=>AC.noVecL l
 |_=>true
def AC.noVecL:List AC->Bool
 |[]=>true
 |a::l=>AC.noVec a&&AC.noVecL l
end
def okG (RA:List Nat)(R j i:Nat):Bool:=R.testBit i||(RA.getD i 0).testBit j
def Nv:Blk->Blk
 | .cells l e=> .cells (l.map fun _=> .any) e
 |b=>b
def isTg (tg:List Tmp):Option Tmp->Bool
 |some d=>tg.contains d
 |none=>false
def Iq (tg:List Tmp)(dst:Option Tmp)(m m':Mem):Mem:=
 if isTg tg dst then m++(m'.drop m.length).map Nv else m'
def Qi (qc md:Bool)(tg:List Tmp)(P:Program)(call:Ak)(ys:Ys)(ops:Array Oper)(D DA:List (Tmp × Nat))(RA:List Nat)(pc:PC)(R j:Nat)(o:Oper)(S:DS):Option DS:=do
 let s'<-CO P call ys ops pc (S.masked D (okG RA R j) R (Ap ops o)) o;let c:=EP s'.tmps o.dst;let k:=AG qc DA o
 if (FH s' (FF R S.gls).length).all (fun e=>R.testBit e.j)&&((if Nat.ble 3 k then (md||BW S.mem s'.mem) else if Nat.beq k 0 then AC.nlt s'.g.n c&&Ph S.g.n (S.masked D (okG RA R j) R (Ap ops o)).tmps o c else true)&&(!md||Nat.ble 2 k||AC.noVec (EP (Ci S.tmps o.dst c) o.dst))&&(!Nat.beq k 4||(match o.dst with|some d=>Nat.blt d S.tmps.n|none=>false)))&&(!Nat.beq k 2||BA o.op||(GO S.mem s'.mem&&(Nat.beq s'.mem.length S.mem.length||AC.free c))) then
  some ⟨Ci S.tmps o.dst c,if Nat.ble 3 k then (if Nat.beq k 4 then Iq tg o.dst S.mem s'.mem else s'.mem) else S.mem,s'.g,(FH s' (FF R S.gls).length).map (fun e=>(j,e))++S.gls⟩
 else none
def MW (qc md:Bool)(tg:List Tmp)(P:Program)(call:Ak)(ys:Ys)(ops:Array Oper)(D DA:List (Tmp × Nat))(RA:List Nat)(pc:PC):List Nat->List Oper->Nat->DS->Option DS
 |R::Rs,o::l,j,S=>do
  let S'<-Qi qc md tg P call ys ops D DA RA pc R j o S
  MW qc md tg P call ys ops D DA RA pc Rs l (j+1) S'
 |_,[],_,S=>some S
 |[],_,_,_=>none
def Er (qc md:Bool)(tg:List Tmp)(P:Program)(call:Ak)(ys:Ys)(ops:Array Oper)(pc:PC)(l:Loc)(g:G):Option RS:=
 let Rs:=AQ ops.toList [];let D:=Ah 0 ops.toList;let DA:=AL 0 ops.toList;let cls:=ops.toList.map (AG qc DA)
 if (FM Rs 0&&Ej (ops.toList.filterMap (·.dst))&&TL cls 0 Rs cls)&&wides cls (JQ 0 cls) 0 Rs cls then do
  let S<-MW qc md tg P call ys ops D DA Rs pc Rs ops.toList 0 ⟨l.tmps,l.mem,g,[]⟩
  some ⟨S.tmps,S.mem,S.g,S.gls.map (·.2)⟩
 else none
def Av (o:Oper):Bool:=
 match o.op with
 | .store _ (.tmp _) (.tmp _)| .store _ (.tmp _) (.const _)=>o.guard.isNone&&o.dst.isNone
 |_=>false
def BJ (o:Oper):Oper:=if Av o then { o with op:= .move (.const (.bool true)) } else o
def Kx (o:Oper):Option Tmp:=if Av o then (match o.op with| .store _ (.tmp t) _=>some t|_=>none) else none
def Qn (D:List (Tmp × Nat))(R:Nat)(t:Tmp):Bool:=match An D t with|some k=>R.testBit k|none=>true
def Nu (D DA:List (Tmp × Nat))(R:Nat)(o:Oper):Bool:=
 match o.op with
 | .store _ (.tmp t) x=> !Av o||(Qn D R t&&decide (An D t=An DA t)&&(match x with| .tmp y=>Qn D R y&&(An DA y).isNone|_=>true))
 |_=>true
def La (D DA:List (Tmp × Nat)):List Nat->List Oper->Bool
 |R::Rs,o::l=>Nu D DA R o&&La D DA Rs l
 |_,[]=>true
 |[],_=>false
def CH (P:Program)(tmps:AO)(o:Oper):Option (Nat × Nat × List AC):=
 match o.op with
 | .store ty (.tmp t) x=>
  match tmps.get t,(DF [] tmps x).cellsOf,P.info? ty with
  |some (.ptr id off),some cs,some i=>if cs.length=i.size then some (id,off,cs) else none
  |_,_,_=>none
 |_=>none
def Eu:List AC->Bool
 |[]=>true
 | .any::l=>Eu l
 |_=>false
def Fw (P:Program)(tmps:AO):List Oper->List Nat->Mem->Option Mem
 |[],_,m=>some m
 |o::l,seen,m=>
  if Av o then
   match CH P tmps o with
   |some (id,off,cs)=>
    match m.at id with
    | .cells c e=>if Eu c&& !seen.contains id&&Nat.ble (off+cs.length) c.length then Fw P tmps l (id::seen) (m.set id (.cells (c.take off++cs++c.drop (off+cs.length)) e)) else none
    |_=>none
   |none=>none
  else Fw P tmps l seen m
def DB (tmps:AO):List Oper->Mem->Mem
 |[],m=>m
 |o::l,m=>match Kx o with
  |some t=>(match tmps.get t with
   |some (.ptr id _)=>DB tmps l (m.set id (Nv (m.at id)))
   |_=>DB tmps l m)
  |none=>DB tmps l m
def loud (qc:Bool)(D:List (Tmp × Nat))(o:Oper):Nat:=if Nat.beq (AG qc D o) 2&& !BA o.op then 3 else AG qc D o
def MJ:Nat->List Nat->Nat->Nat
 |_,[],K=>K
 |j,k::r,K=>MJ (j+1) r (if Nat.beq k 3 then j+1 else K)
def fK (DA:List (Tmp × Nat))(K:Nat)(o:Oper):Bool:=
 match Kx o with
 |some t=>Nat.beq K 0||(match An DA t with|some k=>Nat.ble K k|none=>false)
 |none=>true
def new3 (P:Program)(tmps:AO)(n:Nat)(o:Oper):Bool:=
 !Av o||(match CH P tmps o with|some (id,_,_)=>Nat.ble n id|none=>false)
def IA (qc md:Bool)(P:Program)(call:Ak)(ys:Ys)(ops:Array Oper)(pc:PC)(l:Loc)(g:G):Option RS:=
 let ops0:=(ops.toList.map BJ).toArray;let D:=Ah 0 ops.toList;let DA:=AL 0 ops.toList;let tg:=ops.toList.filterMap Kx;let K:=MJ 0 (ops0.toList.map (loud qc (AL 0 ops0.toList))) 0
 if (!tg.isEmpty&&La D DA (AQ ops.toList []) ops.toList)&&ops.toList.all (fK DA K) then do
  let s<-Er qc md tg P call ys ops0 pc ⟨l.tmps,DB l.tmps ops.toList l.mem⟩ g;let m<-Fw P s.tmps ops.toList [] s.mem
  if Nat.beq K 0||ops.toList.all (new3 P s.tmps (DB l.tmps ops.toList l.mem).length) then some { s with mem:=m } else none
 else none
def QB (P:Program)(call:Ak)(ys:Ys)(ops:Array Oper)(pc:PC)(l:Loc)(g:G):List Nat->Option RS
 |[]=>none
 |n::r=>
  match (match n with
   |0=>Er false false [] P call ys ops pc l g
   |1=>Er false true [] P call ys ops pc l g
   |2=>IA false false P call ys ops pc l g
   |3=>IA false true P call ys ops pc l g
   |4=>Er true false [] P call ys ops pc l g
   |5=>IA true false P call ys ops pc l g
   |6=>Er true true [] P call ys ops pc l g
   |_=>IA true true P call ys ops pc l g) with
  |some s=>some s
  |none=>QB P call ys ops pc l g r
def Wz (P:Program)(call:Ak)(ys:Ys)(ops:Array Oper)(draw:Bool)(pc:PC)(l:Loc)(g:G):Option RS:=
 if draw then (match TA P call ys ops pc l g with|some s=>some s|none=>QB P call ys ops pc l g [0,1,2,3,4,5,6,7]) else Cr P call ys ops pc ops.toList ⟨l.tmps,l.mem,g,[]⟩
def S9 (g:G)(sel:Rf)(pc:Option PC)(a b:As):As × G:=
 let (l,us):=FX g.n sel a.l b.l;let g:=g.pushAll us
 match pc with
 |some p=>(⟨a.k,p,l⟩,g)
 |none=>
  let g':=g.pushAll [⟨ "or",oOr,[EB a.pc,EB b.pc]⟩]
  (⟨a.k,some g.n,l⟩,g')
def GA (k:XK):List As->Option (As × List As)
 |[]=>none
 |o::os=>if o.k=k then some (o,os) else (GA k os).map fun (p,r)=>(p,o::r)
def noK (k:XK)(outs:List As):Bool:=outs.all fun o=> !decide (o.k=k)
def Du (sel:Option Rf)(norm:Option PC):List As->List As->G->List As × G
 |[],bs,g=>(bs,g)
 |a::as,bs,g=>
  match GA a.k bs with
  |none=>
   let (r,g):=Du sel norm as bs g
   (a::r,g)
  |some (b,bs)=>
   let (c,g):=S9 g (sel.getD (EB a.pc)) (if a.k= .normal then norm else none) a b;let (r,g):=Du sel norm as bs g
   (c::r,g)
def P8:PC->PC->Bool
 |none,none=>true
 |some a,some b=>Nat.beq a b
 |_,_=>false
def Pm (rec:Code->PC->Loc->G->Option (List As × G))(x:Nat)(a b:Code)(pc:PC)(l:Loc)(g:G):Option (List As × G):=if Nat.blt x g.n=false then none else do
 let (pa,g):=Cz g pc x true;let (oa,g) <-rec a pa l g;let (pb,g):=Cz g pc x false;let (ob,g) <-rec b pb l g;let whole:=(oa.any fun o=>decide (o.k= .normal)&&P8 o.pc pa)&&(ob.any fun o=>decide (o.k= .normal)&&P8 o.pc pb)&&oa.length=1&&ob.length=1
 some (Du (some (.e x)) (if whole then some pc else none) oa ob g)
def QE (outs:List As)(g:G)(next:PC->Loc->G->Option (List As × G)):Option (List As × G):=
 match GA .normal outs with
 |none=>some (outs,g)
 |some (o,rest)=>do
  if noK .normal rest then
   let (outs',g) <-next o.pc o.l g
   some (Du none none rest outs' g)
  else none
inductive Sl where
 |tmp (t:Nat)
 |cell (id off:Nat)
 |tok (id:Nat)
 |st (id:Nat)
 |row (id:Nat)
 deriving DecidableEq
structure DO where
 pre:List (Sl × TypeId × List Kd):=[]
 slots:List (Sl × Kd):=[]
 vecs:List (Sl × Nat × Nat):=[]
 kills:List Nat:=[]
def Qm (l:Loc):Sl->Option AC
 | .tmp t=>l.tmps.get t
 | .cell id off=>match l.mem.at id with
  | .cells c _=>c[off]?
  |_=>none
 | .tok id=>match l.mem.at id with
  | .tok x ks _=>some (.ro x ks)
  |_=>none
 | .st id=>match l.mem.at id with
  | .lp _ a=>some a
  |_=>none
 | .row id=>match l.mem.at id with
  | .mrow x _ ks _=>some (.ro x ks)
  | .mapb x kk _ vk _=>some (.ro x (kk++vk))
  |_=>none
def NZ:Kd->Nat->AC
 | .int k lo hi,x=> .i k lo hi x
 |k,x=>IG k x
def iq (l:Loc)(k:Kd)(x:Nat):Sl->Option Loc
 | .tmp t=>some { l with tmps:=l.tmps.fix t (some (NZ k x)) }
 | .cell id off=>match l.mem.at id with
  | .cells c e=>if off < c.length then some { l with mem:=l.mem.set id (.cells (c.set off (NZ k x)) e) } else none
  |_=>none
 | .tok id=>match l.mem.at id,k with
  | .tok _ ks e,.list ks'=>if ks.length=ks'.length then some { l with mem:=l.mem.set id (.tok x ks' e) } else none
  |_,_=>none
 | .st id=>match l.mem.at id with
  | .lp s _=>some { l with mem:=l.mem.set id (.lp s (NZ k x)) }
  |_=>none
 | .row id=>match l.mem.at id,k with
  | .mrow _ y ks e,.list ks'=>if ks.length=ks'.length then some { l with mem:=l.mem.set id (.mrow x y ks' e) } else none
  | .mapb _ kk ka vk va,.list ks'=>if kk.length+vk.length=ks'.length then some { l with mem:=l.mem.set id (.mapb x (ks'.take kk.length) ka (ks'.drop kk.length) va) } else none
  |_,_=>none
def Zh (l:Loc):Nat->List (Sl × Kd)->Option Loc
 |_,[]=>some l
 |x,(s,k)::r=>do
  let l<-iq l k x s
  Zh l (x+1) r
def Ff (l:Loc)(id x:Nat)(ks:List Kd):Sl->Option Loc
 | .tmp t=>some { l with tmps:=l.tmps.fix t (some (.vec id x ks)) }
 | .cell i off=>match l.mem.at i with
  | .cells c e=>if off < c.length then some { l with mem:=l.mem.set i (.cells (c.set off (.vec id x ks)) e) } else none
  |_=>none
 |_=>none
def XT (l:Loc)(nh:Nat)(slots:List (Sl × Kd)):List (Sl × Nat × Nat)->Option Loc
 |[]=>some l
 |(s,id,j)::r=>do
  let (sj,kj) <-slots[j]?
  match sj,kj with
  | .tok id',.list ks=>if id=id' then (Ff l id (nh+j) ks s).bind fun l=>XT l nh slots r else none
  |_,_=>none
def fits (l:Loc):List (Sl × Kd)->Option (List Rf × List Pr)
 |[]=>some ([],[])
 |(s,k)::r=>do
  let c<-Qm l s;let (x,ps) <-fit k c;let (xs,ps') <-fits l r
  some (x::xs,ps++ps')
def E7 (l:Loc)(g:G):List (Sl × TypeId × List Kd)->Option (Loc × G)
 |[]=>some (l,g)
 |(s,e,ks)::r=>
  match Qm l s with
  |some (.cv .nilSlice)=>
   if ks.isEmpty then none else (Ff { l with mem:=l.mem++[.tok g.n ks e] } l.mem.length g.n ks s).bind fun l'=>E7 l' (g.pushAll [⟨ "id",oId,[.c (.list [])]⟩]) r
  |_=>none
def fG (tmps:AO):List Nat->AO
 |[]=>tmps
 |t::r=>fG (tmps.fix t none) r
def XX (p:DO)(nh:Nat)(l:Loc):Option Loc:=do
 let l<-Zh l nh p.slots;let l<-XT l nh p.slots p.vecs
 some { l with tmps:=fG l.tmps p.kills }
mutual
def AC.lt (nh nm:Nat):AC->Bool
 | .any| .anyc| .cb _| .ci _ _| .cv _=>true
 | .on c a=>Nat.blt c nh&&AC.lt nh nm a
 | .gd c a=>Nat.blt c nh&&AC.lt nh nm a
 | .b x=>Nat.blt x nh
 | .nb x=>Nat.blt x nh
 | .i _ _ _ x=>Nat.blt x nh
 | .v x=>Nat.blt x nh
 | .s x=>Nat.blt x nh
 | .ro x _=>Nat.blt x nh
 | .ptr id _=>Nat.blt id nm
 | .pix id _ _ _ x _=>Nat.blt id nm&&Nat.blt x nh
 | .rp x t _ _=>Nat.blt x nh&&Nat.blt t nh
 | .vec id x _=>Nat.blt id nm&&Nat.blt x nh
 | .fn _ f c=>AC.ltL nh nm f&&AC.ltL nh nm c
 | .sel x l=>Nat.blt x nh&&AC.ltL nh nm l
 | .yl id=>Nat.blt id nm
 | .asl id _ _=>Nat.blt id nm
 | .rsv id x _=>Nat.blt id nm&&Nat.blt x nh
 | .mr id y=>Nat.blt id nm&&Nat.blt y nh
 | .mp id y t _ _=>Nat.blt id nm&&Nat.blt y nh&&Nat.blt t nh
 | .mv id=>Nat.blt id nm
 | .agg l=>AC.ltL nh nm l
 | .tup l=>AC.ltL nh nm l
def AC.ltL (nh nm:Nat):List AC->Bool
 |[]=>true
 |a::l=>AC.lt nh nm a&&AC.ltL nh nm l
end
def UT (nh nm:Nat):Tr->Bool
 | .nil=>true
 | .node v l r=>(match v with|some c=>AC.lt nh nm c|none=>true)&&UT nh nm l&&UT nh nm r
def U.same:U->U->Bool
 | .int a,.int b=>decide (a=b)
 | .bool a,.bool b=>a==b
 | .str a,.str b=>decide (a=b)
 | .list [],.list []=>true
 | .val .nilFunc,.val .nilFunc=>true
 | .val .nilIface,.val .nilIface=>true
 | .val (.pointer none),.val (.pointer none)=>true
 | .val (.map none),.val (.map none)=>true
 |_,_=>false
def Rf.same:Rf->Rf->Bool
 | .c u,.c v=>U.same u v
 | .e x,.e y=>Nat.beq x y
 | .n x,.n y=>Nat.beq x y
 |_,_=>false
def IC (nh:Nat)(rs:List Rf)(x:Nat)(r:Rf):Bool:=
 Nat.ble nh x&&(match rs[x - nh]? with
  |some r'=>Rf.same r' r
  |none=>false)
def HQ (nh:Nat)(rs:List Rf)(x:Nat):Option (Rf × List Pr)->Option (List Pr)
 |some (r,ps)=>if IC nh rs x r then some ps else none
 |none=>none
def au (m:Mem)(id x:Nat)(mh:Mem)(xh:Nat):Bool:=
 match mh.at id,m.at id with
 | .tok y ky e,.tok y' ky' e'=>Nat.beq y xh&&Nat.beq y' x&&Nat.beq e e'&&Nat.beq ky.length ky'.length
 |_,_=>false
def aH (nh nm:Nat)(rs:List Rf)(mh m:Mem)(h c:AC):Option (List Pr):=
 match h with
 | .any=>some []
 | .i k lo hi x=>HQ nh rs x (fit (.int k lo hi) c)
 | .b x=>HQ nh rs x (fit .bool c)
 | .v x=>HQ nh rs x (fit .val c)
 | .s x=>HQ nh rs x (fit .str c)
 | .ro x ks=>HQ nh rs x (fit (.list ks) c)
 | .vec id x ks=>
  match c with
  | .vec id' x' ks'=>if Nat.beq id id'&&Nat.blt id nm&&IC nh rs x (.e x')&&Kd.beq (Kd.join (.list ks') (.list ks)) (.list ks)&&au m id x' mh x then some [] else none
  |_=>none
 |_=>none
def JY (nh nm:Nat)(rs:List Rf)(mh m:Mem)(h c:AC):Option (List Pr):=
 if AC.lt nh nm h&&AC.beq h c then some [] else aH nh nm rs mh m h c
def L9:Option (List Pr)->Option (List Pr)->Option (List Pr)
 |some a,some b=>some (a++b)
 |_,_=>none
def JZ (nh nm:Nat)(rs:List Rf)(mh m:Mem):List AC->List AC->Option (List Pr)
 |[],[]=>some []
 |h::l,c::l'=>L9 (JY nh nm rs mh m h c) (JZ nh nm rs mh m l l')
 |_,_=>none
def Es:List (Nat × CA)->Nat->Option CA
 |[],_=>none
 |(s,S)::r,x=>if Nat.beq s x then some S else Es r x
def lpLt (lps:List (Nat × CA))(nh nm s:Nat):Bool:=
 match Es lps s with
 |some S=>S.tmps.loc.isEmpty&&UT nh nm S.tmps.t
 |none=>false
def DG (lps:List (Nat × CA))(nh nm:Nat)(rs:List Rf)(mh m:Mem):Blk->Blk->Option (List Pr)
 | .pad,.pad=>some []
 | .gone,b=>(match b with| .pad=>none|_=>some [])
 | .cells l e,.cells l' e'=>if Nat.beq e e' then JZ nh nm rs mh m l l' else none
 | .tok x ks e,.tok x' ks' e'=>if Nat.beq e e'&&Nat.beq ks.length ks'.length&&((Nat.blt x nh&&Nat.beq x x'&&Kd.beqs ks ks')||IC nh rs x (.e x')) then some [] else none
 | .lp s st,.lp s' st'=>if Nat.beq s s'&&lpLt lps nh nm s then JY nh nm rs mh m st st' else none
 | .mrow x y ks e,.mrow x' y' ks' e'=>if (Nat.beq e e'&&Nat.beq y y'&&Nat.blt y nh)&&((Nat.blt x nh&&Nat.beq x x'&&Kd.beqs ks ks')||(IC nh rs x (.e x')&&Kd.beqs (Kd.joins ks' ks) ks&&Nat.beq ks.length ks'.length)) then some [] else none
 | .mapb x kk ka vk va,.mapb x' kk' ka' vk' va'=>if ((ka==ka')&&(va==va'))&&((Nat.blt x nh&&Nat.beq x x'&&Kd.beqs kk kk'&&Kd.beqs vk vk')||(IC nh rs x (.e x')&&Kd.beqs (Kd.joins kk' kk) kk&&Nat.beq kk.length kk'.length&&Kd.beqs (Kd.joins vk' vk) vk&&Nat.beq vk.length vk'.length)) then some [] else none
 |_,_=>none
def FW (lps:List (Nat × CA))(nh nm:Nat)(rs:List Rf)(mh m:Mem):Mem->Mem->Option (List Pr)
 |[],_=>some []
 |b::l,b'::l'=>L9 (DG lps nh nm rs mh m b b') (FW lps nh nm rs mh m l l')
 |_,_=>none
def ar (nh nm:Nat)(rs:List Rf)(mh m:Mem):Option AC->Option AC->Option (List Pr)
 |none,_=>some []
 |some .any,_=>some []
 |some h,some c=>JY nh nm rs mh m h c
 |_,_=>none
def Ir (nh nm:Nat)(rs:List Rf)(mh m:Mem):Tr->Tr->Option (List Pr)
 | .nil,_=>some []
 | .node v l r,t=>L9 (ar nh nm rs mh m v t.val) (L9 (Ir nh nm rs mh m l t.lt) (Ir nh nm rs mh m r t.rt))
def Do (lps:List (Nat × CA))(nh:Nat)(rs:List Rf)(hl l:Loc):Option (List Pr):=
 if hl.tmps.loc.isEmpty&&l.tmps.loc.isEmpty&&Nat.beq hl.tmps.n l.tmps.n then
  L9 (FW lps nh hl.mem.length rs hl.mem l.mem hl.mem l.mem) (Ir nh hl.mem.length rs hl.mem l.mem hl.tmps.t l.tmps.t)
 else none
def Tab.upd (T:Tab)(x:Nat)(u:U):Tab:={ T with get:=fun y=>bif Nat.beq y x then u else T.get y }
def BI (T:Tab):List (Nat × Ex)->Tab
 |[]=>T
 |(x,e)::r=>let T':=BI T r;T'.upd x (e.eval T')
def Tab.upds (T:Tab):Nat->List U->Tab
 |_,[]=>T
 |x,u::us=>(T.upd x u).upds (x+1) us
def KO:List Nat->List U->Tab
 |x::xs,u::us=>(KO xs us).upd x u
 |_,_=>⟨fun _=>default,fun _ _=>True,fun _=>⟨default, #[],.skip,.skip,[]⟩,0⟩
def pcB (T:Tab):PC->Bool
 |none=>true
 |some c=>(T c).toB
structure Ag where
 nh:Nat
 k:Nat
 eqs:List (Nat × Ex)
 pcn:PC
 nxt:List Rf
 obs:List Ob
 fv:List Nat
def Ag.tab (D:Ag)(us hs:List U):Tab:=BI ((KO D.fv us).upds D.nh hs) D.eqs
def Ag.step (D:Ag)(us hs:List U):Option (List U):=
 let T:=D.tab us hs
 bif pcB T D.pcn then some (D.nxt.map (Rf.eval T)) else none
def Ag.ob (D:Ag)(us hs:List U):Prop:=∀o∈D.obs,o.holds (D.tab us hs)
def E1 {α:Type}(f:α->Option α):Nat->α->Option α
 |0,s=>some s
 |n+1,s=>(f s).bind (E1 f n)
inductive DX {α:Type} (f:α->Option α) (s:α):α->Prop where
 |zero:DX f s s
 |succ {t u:α}:DX f s t->f t=some u->DX f s u
def Ends {α:Type}(f:α->Option α)(s:α):Prop:=∃n t,E1 f n s=some t/\f t=none
open Classical in
def ZJ {α:Type}(f:α->Option α)(s:α):α:=if h:∃t,DX f s t/\f t=none then Classical.choose h else s
def Ag.res (D:Ag)(j:Nat)(us:List U):U:=(ZJ (D.step (us.take D.fv.length)) (us.drop D.fv.length)).getD j default
def Ag.owes (D:Ag)(us:List U):Prop:=
 Ends (D.step (us.take D.fv.length)) (us.drop D.fv.length)/\∀hs,DX (D.step (us.take D.fv.length)) (us.drop D.fv.length) hs->D.ob (us.take D.fv.length) hs
def Ee:List Rf->List Nat
 |[]=>[]
 | .c _::r=>Ee r
 | .e x::r=>x::Ee r
 | .n x::r=>x::Ee r
def ah (acc:List Nat):List Nat->List Nat
 |[]=>acc
 |x::r=>ah (if acc.contains x then acc else acc++[x]) r
def pcL:PC->List Nat|none=>[]|some c=>[c]
def Ml (nh:Nat)(eqs:List (Nat × Ex))(pcn:PC)(nxt:List Rf)(obs:List Ob):List Nat:=
 ah [] ((((eqs.map fun p=>Ee p.2.args).flatten++pcL pcn++Ee nxt++(obs.map fun o=>pcL o.pc++Ee o.p.args).flatten)).filter fun x=>Nat.blt x nh)
def FK (fv:List Nat)(nh top:Nat)(l:List Nat):Bool:=l.all fun x=>fv.contains x||(Nat.ble nh x&&Nat.blt x top)
def B9 (fv:List Nat)(nh lo:Nat):Nat->List (Nat × Ex)->Bool
 |top,[]=>Nat.beq top lo
 |top,(x,e)::r=>Nat.beq (x+1) top&&FK fv nh x (Ee e.args)&&B9 fv nh lo x r
def Ag.inScope (D:Ag)(top:Nat):Bool:=
 B9 D.fv D.nh (D.nh+D.k) top D.eqs&&FK D.fv D.nh top (pcL D.pcn)&&FK D.fv D.nh top (Ee D.nxt)&&D.obs.all (fun o=>FK D.fv D.nh top (pcL o.pc++Ee o.p.args))&&D.fv.all (fun x=>Nat.blt x D.nh)
def Ag.tg (D:Ag)(j:Nat):Tg:= .loop j D.nh D.k (D.eqs.map fun p=>(p.1,p.2.tag,p.2.args)) D.pcn D.nxt D.fv (D.obs.map fun o=>(o.pc,o.p.tag,o.p.args))
def Ag.heads (D:Ag)(inits:List Rf):List Ex:=(List.range D.k).map fun j=>⟨D.tg j,D.res j,D.fv.map .e++inits⟩
def DO.full (p:DO)(m0:Nat):DO:=
 {p with
  slots:=p.slots++p.pre.zipIdx.map fun (x:(Sl × TypeId × List Kd) × Nat)=>(Sl.tok (m0+x.2),Kd.list x.1.2.2)
  vecs:=p.vecs++p.pre.zipIdx.map fun (x:(Sl × TypeId × List Kd) × Nat)=>(x.1.1,m0+x.2,p.slots.length+x.2) }
def VB (rec:PC->Loc->G->Option (List As × G))(p:DO)(pc:PC)(l:Loc)(g:G):Option (List As × G):=do
 let hl<-XX p g.n l;let (inits,_) <-fits l p.slots;let ps0<-Do g.lps g.n inits hl l;let (outs,g2) <-rec pc hl { n:=g.n+inits.length,eqs:=[],obs:=[],lps:=g.lps }
 match GA .normal outs with
 |none=>none
 |some (o,rest)=>do
  let (nxt,_) <-fits o.l p.slots;let ps1<-Do g.lps g.n nxt hl o.l;let obs:=ps1.map (Ob.mk o.pc)++g2.obs;let D:Ag:={ nh:=g.n,k:=inits.length,eqs:=g2.eqs,pcn:=o.pc,nxt,obs,fv:=Ml g.n g2.eqs o.pc nxt obs }
  if D.inScope g2.n&&Nat.beq nxt.length inits.length&&Nat.beq hl.mem.length l.mem.length&&noK .normal rest then
   some (rest,{ n:=g2.n,eqs:=g2.eqs++G3 g.n (D.heads inits) g.eqs,obs:=⟨pc,⟨D.tg 0,D.owes,D.fv.map .e++inits⟩⟩::(ps0.map (Ob.mk pc)++g.obs),lps:=g2.lps })
  else none
def YJ (rec:PC->Loc->G->Option (List As × G))(p:DO)(pc:PC)(l:Loc)(g:G):Option (List As × G):=do
 if l.tmps.loc.isEmpty=false then none else
 let (l',g') <-E7 l g p.pre
 VB rec (p.full l.mem.length) pc l' g'
def iL (a b:AC):Option Kd:=
 match ED a,ED b with
 |some (k,_),some (k',_)=>match Kd.join k k' with
  | .int k _ _=>some (.int k k.min k.max)
  | .any=>none
  |k=>some k
 |_,_=>none
def T8 (f:Nat->Nat):Tr->Tr->List (Nat × AC × Option AC)
 | .nil,_=>[]
 | .node v l r,t=>
  (match v with
   |none|some .any=>[]
   |some a=>match t.val with
    |some b=>if AC.beq a b then [] else [(f 0,a,some b)]
    |none=>[(f 0,a,none)])++(T8 (fun j=>f (2*j+1)) l t.lt++T8 (fun j=>f (2*j+2)) r t.rt)
def SX (id:Nat):Nat->List AC->List AC->List (Sl × AC × AC)
 |o,a::l,b::l'=>(if AC.beq a b then [] else [(Sl.cell id o,a,b)])++SX id (o+1) l l'
 |_,_,_=>[]
def Wy:Nat->Mem->Mem->List (Sl × AC × AC)
 |id,b::m,b'::m'=>(match b,b' with
   | .cells l _,.cells l' _=>SX id 0 l l'
   | .tok x ks _,.tok x' ks' _=>if Nat.beq x x' then [] else [(Sl.tok id,.ro x ks,.ro x' ks')]
   | .lp _ a,.lp _ a'=>if AC.beq a a' then [] else [(Sl.st id,a,a')]
   | .mrow x _ ks _,.mrow x' _ ks' _=>if Nat.beq x x' then [] else [(Sl.row id,.ro x ks,.ro x' ks')]
   | .mapb x kk _ vk _,.mapb x' kk' _ vk' _=>if Nat.beq x x' then [] else [(Sl.row id,.ro x (kk++vk),.ro x' (kk'++vk'))]
   |_,_=>[])++Wy (id+1) m m'
 |_,_,_=>[]
def bO (nm:Nat):AC->AC->Option Nat
 | .vec id _ _,.vec id' _ _=>if Nat.beq id id'&&Nat.blt id nm then some id else none
 |_,_=>none
def iE (m:Mem)(id:Nat):Option TypeId:=match m.at id with| .tok _ _ e=>some e|_=>none
mutual
def Kd.wide:Kd->Kd
 | .int k _ _=> .int k k.min k.max
 | .list ks=> .list (Kd.wides ks)
 |k=>k
def Kd.wides:List Kd->List Kd
 |[]=>[]
 |k::ks=>Kd.wide k::Kd.wides ks
end
def jF (nm:Nat)(m':Mem)(p:DO)(s:Sl)(a b:AC):DO:=
 if p.slots.any (fun x=>decide (x.1=s))||p.pre.any (fun x=>decide (x.1=s)) then p else
 match bO nm a b with
 |some _=>p
 |none=>match a,b with
  | .cv .nilSlice,.vec id _ ks=>if Nat.blt id nm then p else match iE m' id with
   |some e=>{ p with pre:=p.pre++[(s,e,Kd.wides ks)] }
   |none=>p
  |a,b=>match iL a b,s with
   |some _,.st id=>{ p with slots:=p.slots++[(.st id,.int .i64 0 65536)] }
   |some k,.row id=>{ p with slots:=p.slots++[(.row id,Kd.wide k)] }
   |some k,_=>{ p with slots:=p.slots++[(s,k)] }
   |none,.tmp t=>{ p with kills:=p.kills++[t] }
   |none,_=>p
def bZ (nm:Nat)(m':Mem):List (Sl × AC × AC)->DO->DO
 |[],p=>p
 |(s,a,b)::r,p=>bZ nm m' r (jF nm m' p s a b)
def gq (p:DO)(id:Nat):Nat:=p.slots.findIdx fun x=>decide (x.1=Sl.tok id)
def W4 (nm:Nat):List (Sl × AC × AC)->DO->DO
 |[],p=>p
 |(s,a,b)::r,p=>W4 nm r (match bO nm a b with
  |some id=>if p.vecs.any (fun x=>decide (x.1=s)) then p else { p with vecs:=p.vecs++[(s,id,gq p id)] }
  |none=>p)
def cM (d:List (Nat × AC × Option AC)):List (Sl × AC × AC):=d.filterMap fun x=>x.2.2.map fun b=>(Sl.tmp x.1,x.2.1,b)
def gH (d:List (Nat × AC × Option AC)):List Nat:=d.filterMap fun x=>match x.2.2 with|none=>some x.1|some _=>none
def PR (p:DO):Nat:=p.pre.length+p.slots.length+p.vecs.length+p.kills.length
def Zb (rec:PC->Loc->G->Option (List As × G))(pc:PC)(l:Loc)(g:G):Nat->DO->DO
 |0,p=>p
 |n+1,p=>
  match E7 l g p.pre with
  |none=>p
  |some (l',g')=>
   let q:=p.full l.mem.length
   match XX q g'.n l' with
   |none=>p
   |some hl=>match rec pc hl { n:=g'.n+q.slots.length,eqs:=[],obs:=[],lps:=g'.lps } with
    |none=>p
    |some (outs,_)=>match GA .normal outs with
     |none=>p
     |some (o,_)=>
      let d:=T8 (fun j=>j) hl.tmps.t o.l.tmps.t;let ds:=cM d++Wy 0 l.mem o.l.mem;let p1:=bZ l.mem.length o.l.mem ds p;let p1:=W4 l.mem.length ds p1;let p1:={ p1 with kills:=p1.kills++(gH d).filter fun t=> !p1.kills.contains t }
      if Nat.beq (PR p1) (PR p) then p else Zb rec pc l g n p1
def Zo (rec:PC->Loc->G->Option (List As × G))(p:DO)(pc:PC)(l:Loc)(g:G):Option (List As × G):=YJ rec (if Nat.beq (PR p) 0 then Zb rec pc l g 6 p else p) pc l g
mutual
def E5:Code->List UP
 | .seq a b=>E5 a++E5 b
 | .cond _ a b=>E5 a++E5 b
 | .block id c=>(E5 c).filter fun j=>match j with| .exit i=> !Nat.beq i id| .ret=>true
 | .loop c=>E5 c
 | .scope c=>E5 c
 | .exit id=>[.exit id]
 | .ret=>[.ret]
 | .rangeFunc _ _ a b=>E5 a++E5 b
 |_=>[]
end
def CU (fin:As->G->Option (AC × Mem)):List As->G->Option (AC × Mem × G)
 |[],_=>none
 |[o],g=>do
  let (c,m) <-fin o g
  some (c,m,g)
 |o::os,g=>do
  let (c',m',g) <-CU fin os g;let (c,m0) <-fin o g;let (m,us):=BT (EB o.pc) g.n m0 m';let (c,us'):=E2 (g.n+us.length) (EB o.pc) c c'
  some (c,m,g.pushAll (us++us'))
structure C2 where
 keep:Nat
 plan:Nat->Option DO
 nar:Nat->Option (Tmp × Int × Int)
 mu:Tmp->Nat:=fun _=>0
 frz:Nat->Bool:=fun _=>false
def By (h:Option (Tmp × Int × Int))(pc:PC)(t:AO)(g:G):AO × G:=
 match h with
 |none=>(t,g)
 |some (i,lo,hi)=>
  match t.get i with
  |some (.i k _ _ x)=>(t.set i (.i k lo hi x),g.needAll pc [⟨ "between " ++toString lo++ " " ++toString hi,DH lo hi,[.e x]⟩])
  |_=>(t,g)
mutual
def Jk (m:Mem):AC->AC
 | .mr id y=>match m.at id with
  | .mrow x y' ks _=>if Nat.beq y y' then .ro x ks else .mr id y
  |_=> .mr id y
 | .on c a=> .on c (Jk m a)
 | .gd c a=> .gd c (Jk m a)
 | .fn f a b=> .fn f (Mm m a) (Mm m b)
 | .agg l=> .agg (Mm m l)
 | .tup l=> .tup (Mm m l)
 |a=>a
def Mm (m:Mem):List AC->List AC
 |[]=>[]
 |a::l=>Jk m a::Mm m l
end
def frzB (m:Mem):Blk->Blk
 | .cells l e=> .cells (Mm m l) e
 | .mrow _ _ _ _=> .gone
 |b=>b
def NH (m:Mem):Mem:=m.map (frzB m)
def QP (m:Mem):Tr->Tr
 | .nil=> .nil
 | .node v l r=> .node (v.map (Jk m)) (QP m l) (QP m r)
def Y4 (m:Mem)(s:AO):AO:={ s with loc:=s.loc.map fun p=>(p.1,Jk m p.2),t:=QP m s.t }
def IT (b:Bool)(l:Loc):Loc:=if b then ⟨Y4 l.mem l.tmps,NH l.mem⟩ else l
def Ys.add (ys:Ys)(stamp:Nat)(y:YF):Ys:={ ys with get:=fun s=>if Nat.beq s stamp then some y else ys s }
def fF (rec:PC->Loc->G->Option (List As × G))(pc:PC)(l:Loc)(g:G):Option (List As × G):=
 match rec pc l g with
 |some (outs,g')=>if noK .normal outs then some (outs,g') else none
 |none=>none
def Bd (P:Program)(call:Ak)(hint:C2)(inR:Bool)(ys:Ys):Nat->Nat->Code->PC->Loc->G->Option (List As × G)
 |0,_,_,_,_,_=>none
 |fuel+1,blk,c,pc,l,g=>
  match c with
  | .skip| .label _=>some ([⟨.normal,pc,l⟩],g)
  | .region id ops draw=>do
   let s<-Wz P call ys ops draw pc l g
   some ([⟨.normal,pc,IT (hint.frz id) ⟨(By (hint.nar id) pc s.tmps s.g).1.commit hint.keep,s.mem⟩⟩],(By (hint.nar id) pc s.tmps s.g).2)
  | .seq a b=>do
   let (outs,g) <-Bd P call hint inR ys fuel blk a pc l g
   QE outs g (Bd P call hint inR ys fuel blk b)
  | .cond c a b=>
   match DF [] l.tmps c with
   | .cb t=>Bd P call hint inR ys fuel blk (if t then a else b) pc l g
   | .b x=>Pm (Bd P call hint inR ys fuel blk) x a b pc l g
   | .nb x=>Pm (Bd P call hint inR ys fuel blk) x b a pc l g
   |_=>none
  | .block id c=>do
    let (outs,g) <-Bd P call hint inR ys fuel id c pc l g
    match GA (.exit id) outs with
    |none=>some (outs,g)
    |some (e,rest)=>
     if noK (.exit id) rest then
      some (Du none none [⟨.normal,e.pc,e.l⟩] rest g)
     else none
  | .loop c=>
   match hint.plan blk with
   |some p=>match fF (Bd P call hint inR ys fuel blk c) pc l g with
    |some r=>some r
    |none=>Zo (Bd P call hint inR ys fuel blk c) p pc l g
   |none=>do
    let (outs,g) <-Bd P call hint inR ys fuel blk c pc l g
    QE outs g (Bd P call hint inR ys fuel blk (.loop c))
  | .scope c=>Bd P call hint inR ys fuel blk c pc l g
  | .exit id=>some ([⟨.exit id,pc,l⟩],g)
  | .ret=>some ([⟨.ret,pc,l⟩],g)
  |_=>none
def Iv (P:Program)(l:Loc)(g:G):ResultVar->Option (AC × List Ex)
 | .tmp t=>some ((l.tmps.get t).getD .any,[])
 | .cell a t=>(TI P t ((l.tmps.get a).getD .any) l.mem g).bind fun r=>match r.ps,r.us with
  |[],[]=>some (r.c,[])
  |_,_=>none
def PK (P:Program)(fn:Func)(l:Loc)(g:G):Option AC:=do
 let rs<-fn.results.toList.mapM (Iv P l g)
 match rs with
 |[(c,_)]=>some c
 |rs=>some (.tup (rs.map (·.1)))
def Hq (P:Program)(fn:Func)(o:As)(g:G):Option (AC × Mem):=
 if o.k= .ret\/o.k= .normal then (PK P fn o.l g).map fun c=>(c,o.l.mem) else none
def J5:Nat->List AC->Tr->Tr
 |_,[],t=>t
 |i,c::r,t=>J5 (i+1) r (Tr.setF 16 t i (some c))
def Fm (n:Nat)(args:List AC):AO:=⟨n,[],J5 0 args .nil⟩
def dx (P:Program)(call:Ak)(AW:FuncId->C2)(fuel:Nat):Ak:=fun ys f args pc m g=>do
 let fn<-P.funcs[f]?;let c<-fn.body
 if fn.name== "runtime.NumGoroutine" ||Nat.blt fn.ntmps args.length then none else
 let (outs,g) <-Bd P call (AW f) false { ys with mu:=(AW f).mu } fuel 0 c pc ⟨Fm fn.ntmps args,m⟩ g
 CU (Hq P fn) outs g
def EQ (P:Program)(ctx:FuncId->Option Ak)(AW:FuncId->C2)(fuel:Nat):Nat->Ak
 |0=>fun _ _ _ _ _ _=>none
 |d+1=>fun ys f=>match ctx f with
  |some c=>c ys f
  |none=>dx P (EQ P ctx AW fuel d) AW fuel ys f
structure AR (g g':G):Prop where
 n:g.n<=g'.n
 eqs:∀p∈g.eqs,p∈g'.eqs
 obs:∀o∈g.obs,o∈g'.obs
 lps:∀p∈g.lps,p∈g'.lps
theorem AR.refl (g:G):AR g g:=⟨vr _,fun _ h=>h,fun _ h=>h,fun _ h=>h⟩
theorem AR.trans {a b c:G}(h:AR a b)(k:AR b c):AR a c:=
 ⟨wI h.n k.n,fun x hx=>k.eqs x (h.eqs x hx),fun x hx=>k.obs x (h.obs x hx),fun x hx=>k.lps x (h.lps x hx)⟩
theorem Agr.of {T:Tab}{g g':G}(h:Agr T g')(k:AR g g'):Agr T g:=⟨fun p hp=>h.eqs p (k.eqs p hp),fun p hp=>h.lps p (k.lps p hp)⟩
theorem AY.of {T:Tab}{g g':G}(h:AY T g')(k:AR g g'):AY T g:=fun o ho=>h o (k.obs o ho)
theorem BQ (g:G)(us:List Ex):(g.pushAll us).n=g.n+us.length:=by cases us<;>simp[G.pushAll]
theorem WE (g:G)(us:List Ex):(g.pushAll us).obs=g.obs:=by cases us<;>rfl
theorem Wm (g:G)(us:List Ex):(g.pushAll us).lps=g.lps:=by cases us<;>rfl
theorem AR.push (g:G)(us:List Ex):AR g (g.pushAll us):=by
 refine⟨by rw[BQ];omega,fun p hp=>?_,fun o ho=>by rw[WE];exact ho,fun p hp=>by rw[Wm];exact hp⟩;cases us with
 |nil=>exact hp
 |cons u us=>exact (Gr _ _ _ _).2 (.inl hp)
theorem Agr.new {T:Tab}{g:G}{us:List Ex}(h:Agr T (g.pushAll us)):New T g.n us:=fun j u hj=>by
 cases us with
 |nil=>simp at hj
 |cons v us=>exact h.eqs (g.n+j,u) ((Gr _ _ _ _).2 (.inr ⟨j,u,hj,rfl⟩))
theorem Cn (ps:List Pr)(g:G)(pc:PC):(g.needAll pc ps).n=g.n/\(g.needAll pc ps).eqs=g.eqs/\(g.needAll pc ps).lps=g.lps/\((g.needAll pc ps).obs=ps.map (Ob.mk pc)++g.obs):=by
 cases ps<;>exact⟨rfl,rfl,rfl,rfl⟩
theorem AR.need (g:G)(pc:PC)(ps:List Pr):AR g (g.needAll pc ps):=by
 obtain⟨h1,h2,h3,h4⟩:=Cn ps g pc;exact⟨by omega,fun p hp=>by rw[h2];exact hp,fun o ho=>by rw[h4];exact wB _ ho,fun p hp=>by rw[h3];exact hp⟩
theorem Agr.need {T:Tab}{g:G}{pc:PC}{ps:List Pr}(h:Agr T (g.needAll pc ps)):Agr T g:=h.of (AR.need g pc ps)
theorem AY.need {T:Tab}{g:G}{pc:PC}{ps:List Pr}(h:AY T (g.needAll pc ps))(hp:pcv T pc):∀p∈ps,p.holds T:=fun p hps=>by
 obtain⟨_,_,_,h4⟩:=Cn ps g pc;exact h ⟨pc,p⟩ (by rw[h4];exact wH _ (List.mem_map.2 ⟨p,hps,rfl⟩)) hp
def A8 (T:Tab)(g:G):PC->Prop
 |none=>True
 |some c=>c < g.n/\∃b,T c= .bool b
theorem A8.grow {T:Tab}{g g':G}{pc:PC}(h:A8 T g pc)(k:AR g g'):A8 T g' pc:=by
 cases pc with
 |none=>trivial
 |some c=>exact⟨vw h.1 k.n,h.2⟩
theorem Pf {T:Tab}{g:G}{pc:PC}{x:Nat}{bx want:Bool}(hk:A8 T g pc)(hb:T x= .bool bx):∃b,(Cf pc x want).eval T= .bool b/\(b=true↔pcv T pc/\bx=want):=by
 cases pc with
 |none=>
  refine⟨if want then bx else !bx,?_,?_⟩
  .cases want<;>simp[Cf,Ex.eval,oId,RG,u0,eve,hb,U.toB]
  .cases want<;>cases bx<;>simp[pcv]
 |some c=>
  obtain⟨_,bc,hc⟩:=hk;refine⟨bc&&(if want then bx else !bx),?_,?_⟩
  .cases want<;>simp[Cf,Ex.eval,Mp,u0,u1,eve,evn,hb,hc,U.toB]
  .cases want<;>cases bx<;>cases bc<;>simp[pcv,hc]
theorem Pk {T:Tab}{g:G}{pc:PC}{x:Nat}{want:Bool}(hk:A8 T g pc)(hn:¬pcv T pc):∃b,(Cf pc x want).eval T= .bool b/\b=false:=by
 cases pc with
 |none=>exact absurd trivial hn
 |some c=>
  obtain⟨_,bc,hc⟩:=hk;cases bc with
  |true=>exact absurd hc hn
  |false=>exact⟨false,by simp[Cf,Ex.eval,Mp,u0,eve,hc,U.toB],rfl⟩
theorem Gn (i j:Nat)(c:AC)(r:List (Nat × AC)):A6 ((i,c)::r) j=if i=j then some c else A6 r j:=by
 simp only[A6];by_cases h:i=j
 .subst h;simp
 .have:Nat.beq i j=false:=by
   cases hb:Nat.beq i j with
   |false=>rfl
   |true=>exact absurd (vp hb) h
  simp[this,h]
theorem AO.get_set (s:AO)(d i:Nat)(c:AC){e:AC}(h:(s.set d c).get i=some e):(i=d/\d < s.n/\e=c)\/((d=i->¬d < s.n)/\s.get i=some e):=by
 unfold AO.set at h;cases hd:Nat.blt d s.n with
 |false=>
  rw[hd] at h;refine .inr ⟨fun _ hlt=>?_,h⟩;rw[<-Nat.blt_eq] at hlt;rw[hlt] at hd;cases hd
 |true=>
  rw[hd] at h;have hlt:d < s.n:=by rwa [Nat.blt_eq] at hd
  simp only[cond_true,AO.get,Gn] at h;by_cases e':d=i
  .subst e';simp at h;exact .inl ⟨rfl,hlt,h.symm⟩
  .rw[if_neg e'] at h;exact .inr ⟨fun h'=>absurd h' e',h⟩
theorem AO.set_n (s:AO)(d:Nat)(c:AC):(s.set d c).n=s.n:=by
 unfold AO.set;cases Nat.blt d s.n<;>rfl
theorem DD (i j:Nat):Nat.beq i j=true↔i=j:=⟨vp,fun h=>by subst h;simp⟩
theorem Tr.get_step (t:Tr)(i:Nat):t.get i=if i=0 then t.val else if i % 2=1 then t.lt.get (i / 2) else t.rt.get (i / 2 - 1):=by
 cases t with
 |nil=>simp[Tr.get,Tr.val,Tr.lt,Tr.rt]
 |node v l r=>
  simp only[Tr.get,Tr.val,Tr.lt,Tr.rt];by_cases h0:i=0
  .subst h0;simp
  .have e0:Nat.beq i 0=false:=by
    cases hb:Nat.beq i 0 with
    |false=>rfl
    |true=>exact absurd ((DD _ _).1 hb) h0
   rw[e0,if_neg h0];by_cases h1:i % 2=1
   .have e1:Nat.beq (i % 2) 1=true:=(DD _ _).2 h1;rw[e1,if_pos h1];rfl
   .have e1:Nat.beq (i % 2) 1=false:=by
     cases hb:Nat.beq (i % 2) 1 with
     |false=>rfl
     |true=>exact absurd ((DD _ _).1 hb) h1
    rw[e1,if_neg h1];rfl
theorem Tr.get_setF:∀(f:Nat) (t:Tr) (d i:Nat) (c:Option AC) (e:AC),(Tr.setF f t d c).get i=some e->(i=d/\c=some e)\/(i≠d/\t.get i=some e)
 |0,t,d,i,c,e,h=>by simp[Tr.setF,Tr.get] at h
 |f+1,t,d,i,c,e,h=>by
  rw[Tr.get_step t i];simp only[Tr.setF] at h;by_cases h0:d=0
  .subst h0;rw[show Nat.beq 0 0=true from rfl] at h;simp only[cond_true] at h;rw[Tr.get_step] at h;by_cases hi:i=0
   .subst hi;exact .inl ⟨rfl,by simpa [Tr.val] using h⟩
   .rw[if_neg hi] at h⊢;exact .inr ⟨hi,h⟩
  .have e0:Nat.beq d 0=false:=by
    cases hb:Nat.beq d 0 with
    |false=>rfl
    |true=>exact absurd ((DD _ _).1 hb) h0
   rw[e0] at h;by_cases h1:d % 2=1
   .have e1:Nat.beq (d % 2) 1=true:=(DD _ _).2 h1;rw[e1] at h;simp only[cond_true,cond_false] at h;rw[Tr.get_step] at h;by_cases hi:i=0
    .subst hi;exact .inr ⟨fun h=>h0 h.symm,by rw[if_pos rfl] at h⊢;exact h⟩
    .rw[if_neg hi] at h⊢;by_cases hi1:i % 2=1
     .rw[if_pos hi1] at h⊢;rcases Tr.get_setF f _ _ _ _ _ h with⟨h2,h3⟩|⟨h2,h3⟩
      .exact .inl ⟨by omega,h3⟩
      .exact .inr ⟨fun he=>h2 (by omega),h3⟩
     .rw[if_neg hi1] at h⊢;exact .inr ⟨fun he=>hi1 (by omega),h⟩
   .have e1:Nat.beq (d % 2) 1=false:=by
     cases hb:Nat.beq (d % 2) 1 with
     |false=>rfl
     |true=>exact absurd ((DD _ _).1 hb) h1
    rw[e1] at h;simp only[cond_false] at h;rw[Tr.get_step] at h;by_cases hi:i=0
    .subst hi;exact .inr ⟨fun h=>h0 h.symm,by rw[if_pos rfl] at h⊢;exact h⟩
    .rw[if_neg hi] at h⊢;by_cases hi1:i % 2=1
     .rw[if_pos hi1] at h⊢;exact .inr ⟨fun he=>h1 (by omega),h⟩
     .rw[if_neg hi1] at h⊢;rcases Tr.get_setF f _ _ _ _ _ h with⟨h2,h3⟩|⟨h2,h3⟩
      .exact .inl ⟨by omega,h3⟩
      .exact .inr ⟨fun he=>h2 (by omega),h3⟩
theorem OP (keep:Nat):∀(l:List (Nat × AC)) (t:Tr) (i:Nat) (e:AC),(Km keep l t).get i=some e->A6 l i=some e\/(A6 l i=none/\t.get i=some e)
 |[],t,i,e,h=> .inr ⟨rfl,h⟩
 |(j,c)::r,t,i,e,h=>by
  rw[Gn];simp only[Km] at h;have ih:=OP keep r t i e;split at h
  .rcases Tr.get_setF _ _ _ _ _ _ h with⟨h1,h2⟩|⟨h1,h2⟩
   .rw[if_pos h1.symm];exact .inl h2
   .rw[if_neg (fun e=>h1 e.symm)];exact ih h2
  .split at h
   .rename_i hn;by_cases hij:j=i
    .subst hij;rw[hn] at h;cases h
    .rw[if_neg hij];exact ih h
   .rcases Tr.get_setF _ _ _ _ _ _ h with⟨h1,h2⟩|⟨h1,h2⟩
    .cases h2
    .rw[if_neg (fun e=>h1 e.symm)];exact ih h2
theorem AO.get_commit (s:AO)(keep i:Nat){e:AC}(h:(s.commit keep).get i=some e):s.get i=some e:=by
 have h':(Km keep s.loc s.t).get i=some e:=h;rcases OP _ _ _ _ _ h' with h1|⟨h1,h2⟩
 .simp[AO.get,h1]
 .simp[AO.get,h1,h2]
theorem AO.get_fix (s:AO)(hl:s.loc=[])(d i:Nat)(c:Option AC){e:AC}(h:(s.fix d c).get i=some e):(i=d/\d < s.n/\c=some e)\/((d=i->¬d < s.n)/\s.get i=some e):=by
 unfold AO.fix at h;cases hd:Nat.blt d s.n with
 |false=>
  rw[hd] at h;refine .inr ⟨fun _ hlt=>?_,h⟩;rw[<-Nat.blt_eq] at hlt;rw[hlt] at hd;cases hd
 |true=>
  rw[hd] at h;have hlt:d < s.n:=by rwa [Nat.blt_eq] at hd
  simp only[cond_true,AO.get,hl,A6] at h⊢;rcases Tr.get_setF _ _ _ _ _ _ h with⟨h1,h2⟩|⟨h1,h2⟩
  .exact .inl ⟨h1,hlt,h2⟩
  .exact .inr ⟨fun e=>absurd e.symm h1,h2⟩
theorem AO.fix_n (s:AO)(d:Nat)(c:Option AC):(s.fix d c).n=s.n:=by
 unfold AO.fix;cases Nat.blt d s.n<;>rfl
theorem AO.fix_loc (s:AO)(d:Nat)(c:Option AC):(s.fix d c).loc=s.loc:=by
 unfold AO.fix;cases Nat.blt d s.n<;>rfl
theorem AO.commit_n (s:AO)(keep:Nat):(s.commit keep).n=s.n:=rfl
section
variable {P:Program}{T:Tab}{n n':Nat}{ρ ρ':Nat->Option Nat}{m m':Mem}{w w':World}{a:Act}
def Co (B:Nat)(ρ :Nat->Option Nat)(m:Mem)(w:World)(ds:List Deferred):Prop:=
 B<=w.heap.size/\∃Ds:List Nat,ds=Ds.map (fun D=>{ target:= .collected D,args:= #[] })/\Ds.Nodup/\∀D∈Ds,B<=D/\w.heap[D]? =some (.deferred (some []))/\∀id,(m.at id).tracked=true-> ρ id≠some D
theorem Co.nil {B:Nat}(ρ :Nat->Option Nat)(m:Mem)(w:World)(hB:B<=w.heap.size):Co B ρ m w []:=⟨hB,[],rfl,List.nodup_nil,fun D h=>by simp at h⟩
theorem Co.on {B:Nat}{ds:List Deferred}(h:Co B ρ m w ds)(hs:AE T n ρ m w ρ' m' w'):Co B ρ' m' w' ds:=by
 obtain⟨h0,Ds,h1,h2,h3⟩:=h;refine⟨wI h0 hs.size,Ds,h1,h2,fun D hD=>?_⟩;obtain⟨k0,k1,k2⟩:=h3 D hD;have hlt:=(vx.1 k1).1;refine⟨k0,by rw[hs.old D hlt k2];exact k1,fun id ht he=>?_⟩;rcases hs.back ht he with q|⟨q1,q2⟩
 .omega
 .exact k2 id q1 q2
structure Rel (T:Tab) (n:Nat) (ρ :Nat->Option Nat) (l:Loc) (a:Act) (w:World):Prop where
 defers:Co T.base ρ l.mem w a.defers
 size:a.tmps.size=l.tmps.n
 tmps:∀i c,l.tmps.get i=some c->AA T n ρ l.mem w c (a.tmps.getD i undef)
 mem:AD T n ρ l.mem w
theorem Rel.at {l:Loc}(h:Rel T n ρ l a w)(t:Nat):AA T n ρ l.mem w ((l.tmps.get t).getD .any) (a.tmps.getD t undef):=by
 cases hc:l.tmps.get t with
 |none=>exact trivial
 |some c=>exact h.tmps t c hc
theorem Rel.on {tmps:AO}(h:Rel T n ρ ⟨tmps,m⟩ a w)(hs:AE T n ρ m w ρ' m' w')(hn:n<=n')(hm':AD T n' ρ' m' w'):Rel T n' ρ' ⟨tmps,m'⟩ a w':=
 ⟨h.defers.on hs,h.size,fun i c hc=>AA.mono hs h.mem hn c _ (h.tmps i c hc),hm'⟩
theorem Rel.put {tmps:AO}(h:Rel T n ρ ⟨tmps,m⟩ a w)(dst:Option Tmp){c:AC}{v:Value}(hc:AA T n ρ m w c v):
  Rel T n ρ ⟨Ci tmps dst c,m⟩ (a.put dst v) w:=by
 cases dst with
 |none=>exact h
 |some d=>
  have hsz:a.tmps.size=tmps.n:=h.size;refine⟨h.defers,by simp[Act.put,Ci,AO.set_n,hsz],fun i e he=>?_,h.mem⟩;rcases AO.get_set _ _ _ _ he with⟨h1,h2,h3⟩|⟨h1,h2⟩
  .subst h1;subst h3;simp only[Act.put,vy,Array.getElem?_setIfInBounds,if_true];rw[if_pos (by omega)];exact hc
  .have:=h.tmps i e h2;simp only[Act.put,vy,Array.getElem?_setIfInBounds] at this⊢;by_cases hd:d=i
   .have:=h1 hd;subst hd;rw[if_pos rfl,if_neg (by omega)];have h3:=h.tmps d e h2;rw[vy,Array.getElem?_eq_none (by omega)] at h3;exact h3
   .rw[if_neg hd];exact this
theorem Rel.less {l:Loc}{s:AO}(h:Rel T n ρ l a w)(hn:s.n=l.tmps.n)(hs:∀i c,s.get i=some c->l.tmps.get i=some c):Rel T n ρ ⟨s,l.mem⟩ a w:=
 ⟨h.defers,by rw[h.size];exact hn.symm,fun i c hc=>h.tmps i c (hs i c hc),h.mem⟩
theorem N7 {imp:List Nat}(himp:∀c∈imp,T c= .bool true){c:AC}{v:Value}(h:AA T n ρ m w c v):AA T n ρ m w (MM imp c) v:=by
 cases c<;>try exact h
 case on c d=>
  simp only[MM];split
  .rename_i hc;exact h.2 (himp c (by simpa using hc))
  .exact h
 case gd c d=>
  simp only[MM];split
  .rename_i hc;exact h.2.1 (himp c (by simpa using hc))
  .exact h
theorem E8 {tmps:AO}(h:Rel T n ρ ⟨tmps,m⟩ a w){imp:List Nat}(himp:∀c∈imp,T c= .bool true)(x:Operand):AA T n ρ m w (DF imp tmps x) (a.eval x):=by
 cases x with
 |tmp t=>exact N7 himp (h.at t)
 |const v=>exact GJ v
 |global g=>exact trivial
 |func f=>exact⟨[],[],rfl,rfl,rfl⟩
structure El (T:Tab) (ops:Array Oper) (n:Nat) (a:Act) (e:GE):Prop where
 lt:e.p < n
 bool:∃b,T e.p= .bool b
 iff:T e.p= .bool true↔yielded ops a.tmps e.j=some e.want
 imp:T e.p= .bool true->∀c∈e.imp,T c= .bool true
 ne:e.imp≠[]
structure Bm (T:Tab) (ρ :Nat->Option Nat) (ops:Array Oper) (s:RS) (a:Act) (w:World):Prop where
 rel:Rel T s.g.n ρ ⟨s.tmps,s.mem⟩ a w
 ges:∀e∈s.gl,El T ops s.g.n a e
theorem El.up {ops:Array Oper}{e:GE}(h:El T ops n a e)(hn:n<=n'):El T ops n' a e:=⟨vw h.lt hn,h.bool,h.iff,h.imp,h.ne⟩
theorem Vz {ops:Array Oper}{pc0:PC}{base:List Nat}{s s':RS}{j:Nat}{want:Bool}{c:AC}{run:Option (PC × List Nat)}{v:Value}(h:Di pc0 base s j want c=some (run,s'))(hA:Agr T s'.g)(hk:A8 T s.g pc0)
  (hi:Bm T ρ ops s a w) (hy:yielded ops a.tmps j=(match v with| .bool b=>some b|_=>none)) (hin:pcv T pc0->AA T s.g.n ρ s.mem w c v) (hout:¬pcv T pc0->v=undef) (hbase:pcv T pc0->∀c∈base,T c= .bool true):
  s'.tmps=s.tmps/\s'.mem=s.mem/\AR s.g s'.g/\Bm T ρ ops s' a w/\(run=none->yielded ops a.tmps j≠some want)/\
   (∀pc' imp,run=some (pc',imp)->(yielded ops a.tmps j=some want↔pcv T pc')/\(pcv T pc'->∀c∈imp,T c= .bool true)/\A8 T s'.g pc'/\((imp=[]/\pc'=pc0/\base=[])\/imp≠[]/\((∃p,pc'=some p)\/(pc'=pc0/\imp=base)))):=by
 have undefno:v=undef->yielded ops a.tmps j=none:=fun e=>by rw[hy,e];rfl
 have entry:∀(x:Nat) (pol:Bool),(pcv T pc0->x < s.g.n/\∃bx,T x= .bool bx/\v= .bool (if pol then bx else !bx))->
   (some (some (some s.g.n,s.g.n::base),{ s with g:=s.g.pushAll [Cf pc0 x (if pol then want else !want)],gl:=⟨j,want,s.g.n,s.g.n::base⟩::s.gl }):Option (Option (PC × List Nat) × RS))=some (run,s')->
   s'.tmps=s.tmps/\s'.mem=s.mem/\AR s.g s'.g/\Bm T ρ ops s' a w/\(run=none->yielded ops a.tmps j≠some want)/\
   (∀pc' imp,run=some (pc',imp)->(yielded ops a.tmps j=some want↔pcv T pc')/\(pcv T pc'->∀c∈imp,T c= .bool true)/\A8 T s'.g pc'/\((imp=[]/\pc'=pc0/\base=[])\/imp≠[]/\((∃p,pc'=some p)\/(pc'=pc0/\imp=base)))):=by
  intro x pol hx he;cases he;have hA1:Agr T (s.g.pushAll [Cf pc0 x (if pol then want else !want)]):=hA;have hnew:T s.g.n=(Cf pc0 x (if pol then want else !want)).eval T:=hA1.new.head;have hbool:∃b,T s.g.n= .bool b:=by
   rw[hnew];by_cases hp:pcv T pc0
   .obtain⟨h1,bx,h2,h3⟩:=hx hp;obtain⟨b,e,_⟩:=Pf (want:=if pol then want else !want) hk h2;exact⟨b,e⟩
   .obtain⟨b,e,_⟩:=Pk (x:=x) (want:=if pol then want else !want) hk hp;exact⟨b,e⟩
  have key:T s.g.n= .bool true↔yielded ops a.tmps j=some want:=by
   rw[hnew];by_cases hp:pcv T pc0
   .obtain⟨h1,bx,h2,h3⟩:=hx hp;rw[hy,h3];obtain⟨b,e,this⟩:=Pf (want:=if pol then want else !want) hk h2;rw[e];constructor
    .intro he;have:=(this.1 (by injection he)).2;cases pol<;>simp at this⊢ <;>simp[this]
    .intro he;have hb:bx=(if pol then want else !want):=by cases pol<;>simp at he⊢ <;>simp[<-he]
     rw[this.2 ⟨hp,hb⟩]
   .rw[undefno (hout hp)];obtain⟨b,e,hb⟩:=Pk (x:=x) (want:=if pol then want else !want) hk hp;rw[e,hb];constructor<;>intro he<;>cases he
  have himp:T s.g.n= .bool true->∀c∈s.g.n::base,T c= .bool true:=by
   intro ht c hc;cases hc with
   |head=>exact ht
   |tail _ hc=>
    refine hbase ?_ c hc;by_cases hp:pcv T pc0
    .exact hp
    .have:=key.1 ht;rw[undefno (hout hp)] at this;cases this
  have hge:El T ops (s.g.pushAll [Cf pc0 x (if pol then want else !want)]).n a ⟨j,want,s.g.n,s.g.n::base⟩:=⟨by rw[BQ];simp,hbool,key,himp,fun h=>by cases h⟩;refine⟨rfl,rfl,(show AR s.g (s.g.pushAll [Cf pc0 x (if pol then want else !want)]) from AR.push _ _),⟨?_,fun e he=>?_⟩,(fun h=>by cases h),fun pc' imp he=>?_⟩
  .exact hi.rel.on (AE.refl _ _ _ _ _) (by rw[BQ];omega) (hi.rel.mem.mono (by rw[BQ];omega))
  .cases he with
   |head=>exact hge
   |tail _ he=>exact (hi.ges e he).up (by rw[BQ];omega)
  .cases he;exact⟨key.symm,himp,⟨by rw[BQ];simp,hbool⟩,.inr ⟨(fun h=>by cases h),.inl ⟨_,rfl⟩⟩⟩
 cases c<;>simp only[Di] at h<;>try (cases h;done)
 case cb b=>
  split at h
  .rename_i hb;cases h;refine⟨rfl,rfl,AR.refl _,hi,(fun h=>by cases h),fun pc' imp he=>?_⟩;cases he;refine⟨?_,hbase,hk,?_⟩
   case refine_2=>
    cases base with
    |nil=>exact .inl ⟨rfl,rfl,rfl⟩
    |cons=>exact .inr ⟨(fun h=>by cases h),.inr ⟨rfl,rfl⟩⟩
   constructor
   .intro hyy;by_cases hp:pcv T pc0
    .exact hp
    .rw[undefno (hout hp)] at hyy;cases hyy
   .intro hp;have:=hin hp;rw[hy,show v=_ from this,hb]
  .rename_i hb;cases h;refine⟨rfl,rfl,AR.refl _,hi,fun _ hyy=>?_,fun pc' imp he=>by cases he⟩;by_cases hp:pcv T pc0
   .have:=hin hp;rw[hy,show v=_ from this] at hyy;simp at hyy;exact hb hyy
   .rw[undefno (hout hp)] at hyy;cases hyy
 case b x=>exact entry x true (fun hp=>by obtain⟨h1,bx,h2,h3⟩:=hin hp;exact⟨h1,bx,h2,by simpa using h3⟩) (by simpa using h)
 case nb x=>exact entry x false (fun hp=>by obtain⟨h1,bx,h2,h3⟩:=hin hp;exact⟨h1,bx,h2,by simpa using h3⟩) (by simpa using h)
end
end
end Go.Eng
end
