/-
  A part of the proof: the evaluator of code and its soundness.
-/
import Derived.Test.YtikbgnmcfncnaaaE3
import Derived.Carry
import Derived.ChangeSame
import Derived.Maps.RangeRun
import Derived.LoopNIn
import Derived.Test.YtikbgnmcfncnaaaE2
import Derived.WalkSpells
import Derived.Lib.SliceRun
set_option linter.unusedVariables false
set_option linter.unusedSimpArgs false
noncomputable section
namespace Go.Eng
section
open Go Go.RowKit
def Nn:Nat->List Kd->List AC
 |_,[]=>[]
 |x,k::ks=>NZ k x::Nn (x+1) ks
def fD (P:Program)(t:TypeId)(x:Nat)(ks:List Kd):Option AC:=
 if Bw P t then some (.agg (Nn x ks)) else match ks with
  |[k]=>some (NZ k x)
  |_=>none
def Fd (P:Program)(d:Nat):List TypeId->Nat->Option (List AC × List Kd)
 |[],_=>some ([],[])
 |t::ts,x=>do
  let ks<-Dz P d t;let a<-fD P t x ks;let (as,r) <-Fd P d ts (x+ks.length)
  some (a::as,ks++r)
def Oj:CA:=⟨⟨0,[],.nil⟩, #[],.skip,.skip,[]⟩
def Ur (lps:List (Nat × CA))(us:List U):Tab:=⟨fun x=>us.getD x default,fun _ _=>True,fun s=>(Es lps s).getD Oj,0⟩
def MI:List (Nat × CA)->Bool
 |[]=>true
 |(s,_)::r=>(r.all fun p=> !Nat.beq p.1 s)&&MI r
def KM (n:Nat)(g:G):Bool:=B9 [] 0 n g.n g.eqs&&MI g.lps
def jH (T:Tab):AC->Prop
 | .cb b=>b=true
 | .b x=>T x= .bool true
 | .nb x=>T x= .bool false
 |_=>False
theorem NK:∀{lps:List (Nat × CA)},MI lps=true->∀p∈lps,Es lps p.1=some p.2
 |[],_,p,hp=>by cases hp
 |(s,S)::r,h,p,hp=>by
  simp only[MI,vo] at h;simp only[Es];cases hp with
  |head=>simp only[(DD s s).2 rfl,if_true]
  |tail _ hp=>
   have hne:=wR.1 h.1 p hp;split
   .rename_i hb;have e:=vp hb;rw[(DD p.1 s).2 e.symm] at hne;cases hne
   .exact NK h.2 p hp
section
variable {P:Program}{T:Tab}{n:Nat}{ρ :Nat->Option Nat}{w:World}{B:Nat}
theorem fh {ok:Nat->Nat->Prop}(hok:∀b off,ok b off->AS T ρ [] w b off){k:Kd}{x:Nat}{v:Value}(hx:x < n)(h:AM ok w k (T x) v):AA T n ρ [] w (NZ k x) v:=by
 cases k with
 |int k lo hi=>exact⟨hx,h⟩
 |bool=>exact⟨hx,h⟩
 |str=>exact⟨hx,h⟩
 |val=>exact⟨hx,h.1,h.2⟩
 |any=>exact h.one
 |list ks=>exact⟨hx,AM.mono (fun b off hb=>⟨hok b off hb,rfl⟩) _ _ _ h⟩
theorem UC {ok:Nat->Nat->Prop}(hok:∀b off,ok b off->AS T ρ [] w b off):∀{ks:List Kd} {us:List U} {cs:List Value} {x:Nat},Cm ok w ks us cs->(∀j u,us[j]? =some u->T (x+j)=u)->x+ks.length<=n->AB T n ρ [] w (Nn x ks) cs
 |[],[],[],_,_,_,_=>rfl
 |k::ks,u::us,c::cs,x,h,hT,hn=>by
  simp only[wQ] at hn;refine⟨c,cs,rfl,fh hok (by omega) ?_,UC hok h.2 (fun j v hj=>?_) (by omega)⟩
  .have:=hT 0 u rfl;rw[Nat.add_zero] at this;rw[this];exact h.1
  .have:=hT (j+1) v (by simpa using hj);rw[show x+(j+1)=x+1+j by omega] at this;exact this
 |[],_::_,_,_,h,_,_=>by cases h
 |[],[],_::_,_,h,_,_=>by cases h
 |_::_,[],_,_,h,_,_=>by cases h
 |_::_,_::_,[],_,h,_,_=>by cases h
theorem iF {d:Nat}{t:TypeId}{ks:List Kd}{v:Value}{base:Nat}(hk:Dz P d t=some ks)(ha:Bw P t=false)(hv:Value.okWide P w .any base t v):∀cs,v≠ .agg cs:=by
 intro cs e;subst e;cases d with
 |zero=>simp[Dz] at hk
 |succ d=>
  simp only[Dz] at hk;unfold Value.okWide at hv;unfold Bw at ha;split at hk<;>rename_i ht<;>simp only[ht] at hv ha<;>first
   |(cases ha;done)
   |(simp[Cell.okWide,Cell.ok,ht] at hv;done)
   |(cases hk;done)
theorem cG {t:TypeId}{v:Value}{base:Nat}(ha:Bw P t=true)(hv:Value.okWide P w .any base t v):∃cs,v= .agg cs:=by
 unfold Bw at ha;unfold Value.okWide at hv;split at ha
 .rename_i ht;simp only[ht] at hv;obtain⟨cs,h,_⟩:=hv;exact⟨cs,h⟩
 .rename_i ht;simp only[ht] at hv;obtain⟨cs,h,_⟩:=hv;exact⟨cs,h⟩
 .cases ha
theorem XO {H:Type}{enc:TypeId × Value->H}{sp:Nat->Bool}{held:Bool}{base:Nat}(hB:B<=AF){dd:Nat}:∀(ts:List TypeId) {x:Nat} {as:List AC} {ks:List Kd} {vs:List Value} {ds:List (DataW H)} {ps:List MemPlace},Fd P dd ts x=some (as,ks)->
  DataW.TrodAll enc P w 0 sp held ts vs ds ps->(∀(j:Nat) t v,ts[j]? =some t->vs[j]? =some v->Value.okWide P w .any base t v)->(∀d∈ds,Cv B d)->
  ∃us,AT B ks us/\us.length=ks.length/\∀(T:Tab) ρ,(∀b off,b < w.heap.size->AS T ρ [] w b off)->(∀j u,us[j]? =some u->T (x+j)=u)->∀n,x+ks.length<=n->AB T n ρ [] w as vs
 |[],x,as,ks,vs,ds,ps,h,ht,_,_=>by
  simp only[Fd] at h;cases h;cases vs with
  |nil=>exact⟨[],rfl,rfl,fun _ _ _ _ _ _=>rfl⟩
  |cons v vs=>cases ds<;>exact ht.elim
 |t::ts,x,as,ks,vs,ds,ps,h,ht,hv,hs=>by
  simp only[Fd,vq,vn] at h;obtain⟨k1,hk,a,ha,⟨as2,k2⟩,hr,h⟩:=h;cases h;cases vs with
  |nil=>cases ds<;>exact ht.elim
  |cons v vs=>
   cases ds with
   |nil=>exact ht.elim
   |cons d ds=>
    obtain⟨p,q,⟨fuel,h1⟩,h2,_⟩:=ht;obtain⟨us2,u1,u2,u3⟩:=XO hB ts hr h2 (fun j t' v' hj hj'=>hv (j+1) t' v' (by simpa using hj) (by simpa using hj')) (fun d' hd=>hs d' (vz _ hd));obtain⟨us1,w1,w2⟩:=CD hB dd hk h1 (hs d (wA ..));have hv0:=hv 0 t v rfl rfl;obtain⟨l1,l2⟩:=w1.len;refine⟨us1++us2,w2.append u1,by simp[l1,u2],fun T ρ hok hT n hn=>?_⟩;rw[wC] at hn;have hn':x+k1.length+k2.length<=n:=by simp only at hn;omega
    have hT1:∀j u,us1[j]? =some u->T (x+j)=u:=fun j u hj=>hT j u (by rw[wE (vu.1 hj).1];exact hj);have hcells:=UC (T:=T) (n:=n) (ρ := ρ) (x:=x) hok w1 hT1 (by omega);refine⟨v,vs,rfl,?_,u3 T ρ hok (fun j u hj=>?_) n hn'⟩
    .unfold fD at ha;split at ha
     .rename_i hagg;cases ha;obtain⟨cs,rfl⟩:=cG hagg hv0;exact⟨cs.toList,by simp,hcells⟩
     .rename_i hagg;split at ha
      .rename_i k;cases ha;obtain⟨u,us',e1,e2,e3⟩:=hcells;rw[show us'=[] from e3] at e1;have hne:=iF hk (by simpa using hagg) hv0;have hcv:v.cells= #[v]:=by cases v<;>first|rfl|exact absurd rfl (hne _)
       rw[hcv] at e1;simp at e1;rw[e1];exact e2
      .cases ha
    .have:=hT (us1.length+j) u (by rw[wF (by omega)];simpa using hj);rw[l1,<-Nat.add_assoc] at this;exact this
end
inductive TE where
 |one (k:Kd)
 |agg (ks:List Kd)
 |ptr (j off:Nat)
 |cst (c:AC)
def EO:Nat->List TE->List AC
 |_,[]=>[]
 |x,.one k::r=>NZ k x::EO (x+1) r
 |x,.agg ks::r=> .agg (Nn x ks)::EO (x+ks.length) r
 |x,.ptr j off::r=> .ptr j off::EO x r
 |x,.cst c::r=>c::EO x r
def C0:List TE->List Kd
 |[]=>[]
 | .one k::r=>k::C0 r
 | .agg ks::r=>ks++C0 r
 | .ptr _ _::r=>C0 r
 | .cst _::r=>C0 r
def Ha:Nat->List (List Kd × TypeId)->Mem
 |_,[]=>[]
 |x,(ks,e)::r=> .cells (Nn x ks) e::Ha (x+ks.length) r
def NN (l:List (List Kd × TypeId)):List Kd:=(l.map (·.1)).flatten
structure AV where
 sh:List TE
 blks:List (List Kd × TypeId)
 outs:List (Tg × (List U->U))
 c:AC
 m':Mem
 pre:List (Tg × (List U->Prop))
 row:Option (List Kd × TypeId):=none
def AV.args (t:AV):List AC:=match t.row with|none=>EO 0 t.sh|some _=> .mr 0 1::EO 2 t.sh
def AV.m (t:AV):Mem:=match t.row with|none=>Ha (C0 t.sh).length t.blks|some (ks,e)=>[.mrow 0 1 ks e]
def AV.ks (t:AV):List Kd:=match t.row with|none=>C0 t.sh++NN t.blks|some (ks,_)=> .list ks:: .int .i64 0 AF::C0 t.sh
def AV.n (t:AV):Nat:=t.ks.length
def AV.us (t:AV)(us:List U):List U:=us++t.outs.map fun o=>o.2 us
def Ae (P:Program)(f:FuncId)(t:AV):Prop:=
 ∃lp0:Nat->CA,∀(T:Tab) (us:List U),T.lp=lp0->us.length=t.n->(∀j u,(t.us us)[j]? =some u->T j=u)->(∀p∈t.pre,p.2 us)->∀ ρ w vs,AB T t.n ρ t.m w t.args vs->AD T t.n ρ t.m w->
  (∃fn,P.funcs[f]? =some fn/\fn.body.isSome=true/\(fn.name== "runtime.NumGoroutine")=false)/\
  Calls P f (vs:List Value).toArray w fun e w'=>∃v ρ',e= .returned v/\AE T t.n ρ t.m w ρ' t.m' w'/\AD T (t.n+t.outs.length) ρ' t.m' w'/\AA T (t.n+t.outs.length) ρ' t.m' w' t.c v
def TK:List AC->List AC->List (Nat × Nat)
 | .ptr j _::as,.ptr id _::cs=>(j,id)::TK as cs
 |_::as,_::cs=>TK as cs
 |_,_=>[]
def Fk:List (Nat × Nat)->Nat->Option Nat
 |[],_=>none
 |(j,id)::r,x=>if Nat.beq j x then some id else Fk r x
def Nx (x:Nat):Option (Rf × List Pr)->Option (List (Nat × Rf) × List Pr)
 |some (r,ps)=>some ([(x,r)],ps)
 |none=>none
def ZE:Option (List (Nat × Rf) × List Pr)->Option (List (Nat × Rf) × List Pr)->Option (List (Nat × Rf) × List Pr)
 |some (a,b),some (a',b')=>some (a++a',b++b')
 |_,_=>none
mutual
def Be (ren:List (Nat × Nat)):AC->AC->Option (List (Nat × Rf) × List Pr)
 | .ptr j off,c=>(match c with
  | .ptr id off'=>if Nat.beq off off'&&(match Fk ren j with|some id'=>Nat.beq id id'|none=>false) then some ([],[]) else none
  |_=>none)
 | .i k lo hi x,c=>Nx x (fit (.int k lo hi) c)
 | .b x,c=>Nx x (fit .bool c)
 | .v x,c=>Nx x (fit .val c)
 | .s x,c=>Nx x (fit .str c)
 | .ro x ks,c=>Nx x (fit (.list ks) c)
 | .agg l,c=>(match c with
  | .agg l'=>Gc ren l l'
  |_=>none)
 | .anyc,c=>if AC.atom c then some ([],[]) else none
 | .fn f [] [],c=>if AC.beq (.fn f [] []) c then some ([],[]) else none
 |_,_=>none
def Gc (ren:List (Nat × Nat)):List AC->List AC->Option (List (Nat × Rf) × List Pr)
 |[],[]=>some ([],[])
 |h::l,c::l'=>ZE (Be ren h c) (Gc ren l l')
 |_,_=>none
end
def Nj (ren:List (Nat × Nat)):Blk->Blk->Option (List (Nat × Rf) × List Pr)
 | .cells l e,.cells l' e'=>if Nat.beq e e' then Gc ren l l' else none
 |_,_=>none
def Gm (ren:List (Nat × Nat))(ma:Mem):List (Nat × Nat)->Mem->Option (List (Nat × Rf) × List Pr)
 |[],[]=>some ([],[])
 |(_,id)::r,b::m=>ZE (Nj ren b (ma.at id)) (Gm ren ma r m)
 |_,_=>none
def UO (ren:List (Nat × Nat))(nt na j:Nat):Option Nat:=if Nat.blt j nt then Fk ren j else some (na+(j - nt))
mutual
def up1 (n base:Nat)(ren:List (Nat × Nat))(nt na:Nat)(m':Mem)(rs:List Rf):AC->AC
 | .i k lo hi x=>if Nat.ble n x then .i k lo hi (base+(x - n)) else (match rs[x]? with|some (.e y)=> .i k lo hi y|_=> .anyc)
 | .b x=>if Nat.ble n x then .b (base+(x - n)) else (match rs[x]? with|some (.e y)=> .b y|_=> .anyc)
 | .v x=>if Nat.ble n x then .v (base+(x - n)) else (match rs[x]? with|some (.e y)=> .v y|_=> .anyc)
 | .s x=>if Nat.ble n x then .s (base+(x - n)) else (match rs[x]? with|some (.e y)=> .s y|_=> .anyc)
 | .ro x ks=>if Nat.ble n x then .ro (base+(x - n)) ks else (match rs[x]? with|some (.e y)=> .ro y ks|_=> .anyc)
 | .vec _ x ks=>if Nat.ble n x then .ro (base+(x - n)) ks else (match rs[x]? with|some (.e y)=> .ro y ks|_=> .anyc)
 | .ptr j off=>(match m'.at j,UO ren nt na j with| .cells _ _,some id=> .ptr id off|_,_=> .anyc)
 | .cb b=> .cb b
 | .ci k i=> .ci k i
 | .cv c=> .cv c
 | .agg l=> .agg (upL n base ren nt na m' rs l)
 | .tup l=> .tup (upL n base ren nt na m' rs l)
 |_=> .any
def upL (n base:Nat)(ren:List (Nat × Nat))(nt na:Nat)(m':Mem)(rs:List Rf):List AC->List AC
 |[]=>[]
 |a::l=>up1 n base ren nt na m' rs a::upL n base ren nt na m' rs l
end
def det:AC->Bool
 | .i .. | .b _| .v _| .s _| .ptr .. | .ci .. | .cb _| .cv _=>true
 |_=>false
def Qq (up:AC->AC):List AC->List AC->List AC->List AC
 |h0::l0,c::l,h::l'=>(if det h&&AC.beq h0 h then c else up h)::Qq up l0 l l'
 |_,_,_=>[]
def L5 (up:AC->AC):Blk->Blk->Blk->Blk
 | .cells l0 _,.cells l e,.cells l' e'=>if Nat.beq l0.length l.length&&Nat.beq l.length l'.length&&Nat.beq e e' then .cells (Qq up l0 l l') e else .gone
 |_,_,_=> .gone
def DU (B:Nat->Blk->Blk):List (Nat × Nat)->Mem->Mem
 |[],m=>m
 |(j,id)::r,m=>(DU B r m).set id (B j (m.at id))
def Vk (up:AC->AC):Blk->Blk
 | .cells l e=> .cells (l.map up) e
 |_=> .gone
def Uq (t:AV):Ak:=fun _ _ as pc ma g=>
 let ren:=TK t.args as
 if t.row.isNone&&De (ren.map (·.1)) (List.range t.m.length)&&Ej (ren.map (·.2))&&ren.all (fun p=>Nat.blt p.2 ma.length)&&Nat.ble t.m.length t.m'.length then
  match ZE (Gc ren t.args as) (Gm ren ma ren t.m) with
  |some (prs,ps)=>
   if De (prs.map (·.1)) (List.range t.n) then
    let rs:=prs.map (·.2);let up:=up1 t.n g.n ren t.m.length ma.length t.m' rs
    some (up t.c,DU (fun j b=>L5 up (t.m.at j) b (t.m'.at j)) ren ma++(t.m'.drop t.m.length).map (Vk up),
     (g.needAll pc (ps++t.pre.map fun (tg,f)=>⟨tg,f,rs⟩)).pushAll (t.outs.map fun (tg,F)=>⟨tg,F,rs⟩))
   else none
  |none=>none
 else none
theorem IR:∀{l l':List Nat},De l l'=true->l=l'
 |[],[],_=>rfl
 |a::l,b::l',h=>by
  simp only[De,vo] at h;rw[vp h.1,IR h.2]
 |[],_::_,h=>by cases h
 |_::_,[],h=>by cases h
theorem Md:∀{ren:List (Nat × Nat)} {j id:Nat},Fk ren j=some id->(j,id)∈ren
 |[],_,_,h=>by simp[Fk] at h
 |(j',id')::r,j,id,h=>by
  simp only[Fk] at h;split at h
  .rename_i hb;cases h;rw[vp hb];exact wA ..
  .exact vz _ (Md h)
theorem cP {ren:List (Nat × Nat)}(hn:(ren.map (·.1)).Nodup){j id:Nat}(h:(j,id)∈ren):Fk ren j=some id:=by
 induction ren with
 |nil=>cases h
 |cons p r ih=>
  obtain⟨j',id'⟩:=p;simp only[wG,List.nodup_cons] at hn;simp only[Fk];cases h with
  |head=>simp
  |tail _ h=>
   split
   .rename_i hb;have:=vp hb;subst this;exact absurd (List.mem_map.2 ⟨_,h,rfl⟩) hn.1
   .exact ih hn.2 h
def PQ (n:Nat):Rf->Prop
 | .c _=>True
 | .e x=>x < n
 | .n x=>x < n
theorem ft {T:Tab}{n:Nat}{ρ :Nat->Option Nat}{m:Mem}{w:World}{c:AC}{k:Kd}{r:Rf}{v:Value}(h:ED c=some (k,r))(hc:AA T n ρ m w c v):PQ n r:=by
 cases c<;>simp only[ED] at h<;>first
  |(cases h;done)
  |(cases h;trivial)
  |(cases h;exact hc.1)
  |(rename_i cc;cases cc<;>simp only[ED] at h<;>(try split at h)<;>cases h<;>trivial)
theorem hJ {T:Tab}{n:Nat}{ρ :Nat->Option Nat}{m:Mem}{w:World}{c:AC}{k:Kd}{r:Rf}{ps:List Pr}{v:Value}(h:fit k c=some (r,ps))(hc:AA T n ρ m w c v):PQ n r:=by
 cases hs:ED c with
 |none=>unfold fit at h;rw[hs] at h;cases k<;>cases h
 |some kr=>
  obtain⟨k1,r1⟩:=kr;have:=ft hs hc;have e:r1=r:=by
   unfold fit at h;rw[hs] at h;have join:(if Kd.beq (Kd.join k1 k) k&& !k.isAny then some (r1,([]:List Pr)) else none)=some (r,ps)->r1=r:=by
    intro h;split at h
    .cases h;rfl
    .cases h
   cases k with
   |int k0 lo hi=>
    cases k1 with
    |int k' lo' hi'=>
     simp only at h;split at h
     .injection h with h;injection h
     .cases h
    |_=>exact join h
   |_=>exact join h
  rw[<-e];exact this
theorem KD {a b:Option (List (Nat × Rf) × List Pr)}{prs:List (Nat × Rf)}{ps:List Pr}(h:ZE a b=some (prs,ps)):∃p1 q1 p2 q2,a=some (p1,q1)/\b=some (p2,q2)/\prs=p1++p2/\ps=q1++q2:=by
 cases a with
 |none=>cases b<;>cases h
 |some a=>
  cases b with
  |none=>cases h
  |some b=>
   obtain⟨p1,q1⟩:=a;obtain⟨p2,q2⟩:=b;cases h;exact⟨p1,q1,p2,q2,rfl,rfl,rfl,rfl⟩
section
variable {T T2:Tab}{ρ ρ2:Nat->Option Nat}{ma mt:Mem}{w:World}{n gn:Nat}{ren:List (Nat × Nat)}
structure VU (T T2:Tab) (ρ ρ2:Nat->Option Nat) (ma mt:Mem) (w:World) (ren:List (Nat × Nat)):Prop where
 safe:∀b off,AS T ρ ma w b off->AS T2 ρ2 mt w b off
 ptr:∀j id,Fk ren j=some id-> ρ2 j= ρ id/\(mt.at j).ptrOk=true
mutual
theorem dJ (M:VU T T2 ρ ρ2 ma mt w ren):∀(h c:AC) {prs:List (Nat × Rf)} {ps:List Pr} {v:Value},Be ren h c=some (prs,ps)->(∀p∈prs,p.1 < n/\T2 p.1=p.2.eval T)->(∀p∈ps,p.holds T)->AA T gn ρ ma w c v->
  AA T2 n ρ2 mt w h v/\∀p∈prs,PQ gn p.2
 | .ptr j off,c,prs,ps,v,hb,hp,hq,hv=>by
  cases c<;>simp only[Be] at hb<;>try (cases hb;done)
  rename_i id off';cases hl:Fk ren j with
  |none=>rw[hl] at hb;simp at hb
  |some id'=>
   rw[hl] at hb;simp only at hb;split at hb
   .rename_i hc;cases hb;rw[vo] at hc;have e1:=vp hc.1;have e2:=vp hc.2;subst e1;subst e2;obtain⟨b,k1,k2,_⟩:=hv;obtain⟨k3,k4⟩:=M.ptr j id hl;exact⟨⟨b,by rw[k3];exact k1,k2,k4⟩,fun p hp=>by cases hp⟩
   .cases hb
 | .i k lo hi x,c,prs,ps,v,hb,hp,hq,hv=>by
  simp only[Be] at hb;obtain⟨k1,k2,k3⟩:=JR M hb hp hq hv;exact⟨⟨k1,k2⟩,k3⟩
 | .b x,c,prs,ps,v,hb,hp,hq,hv=>by
  simp only[Be] at hb;obtain⟨k1,k2,k3⟩:=JR M hb hp hq hv;exact⟨⟨k1,k2⟩,k3⟩
 | .v x,c,prs,ps,v,hb,hp,hq,hv=>by
  simp only[Be] at hb;obtain⟨k1,k2,k3⟩:=JR M hb hp hq hv;exact⟨⟨k1,k2⟩,k3⟩
 | .s x,c,prs,ps,v,hb,hp,hq,hv=>by
  simp only[Be] at hb;obtain⟨k1,k2,k3⟩:=JR M hb hp hq hv;exact⟨⟨k1,k2⟩,k3⟩
 | .ro x ks,c,prs,ps,v,hb,hp,hq,hv=>by
  simp only[Be] at hb;obtain⟨k1,k2,k3⟩:=JR M hb hp hq hv;exact⟨⟨k1,k2⟩,k3⟩
 | .agg l,c,prs,ps,v,hb,hp,hq,hv=>by
  cases c<;>simp only[Be] at hb<;>try (cases hb;done)
  rename_i l';obtain⟨vs,e,h1⟩:=hv;obtain⟨k1,k2⟩:=G7 M l l' hb hp hq h1;exact⟨⟨vs,e,k1⟩,k2⟩
 | .anyc,c,prs,ps,v,hb,hp,hq,hv=>by
  simp only[Be] at hb;split at hb
  .rename_i ha;cases hb;exact⟨Fy ha hv,fun p hp=>by cases hp⟩
  .cases hb
 | .any,_,_,_,_,hb,_,_,_=>by simp[Be] at hb
 | .on _ _,_,_,_,_,hb,_,_,_=>by simp[Be] at hb
 | .gd _ _,_,_,_,_,hb,_,_,_=>by simp[Be] at hb
 | .cb _,_,_,_,_,hb,_,_,_=>by simp[Be] at hb
 | .nb _,_,_,_,_,hb,_,_,_=>by simp[Be] at hb
 | .ci _ _,_,_,_,_,hb,_,_,_=>by simp[Be] at hb
 | .cv _,_,_,_,_,hb,_,_,_=>by simp[Be] at hb
 | .pix ..,_,_,_,_,hb,_,_,_=>by simp[Be] at hb
 | .rp ..,_,_,_,_,hb,_,_,_=>by simp[Be] at hb
 | .vec ..,_,_,_,_,hb,_,_,_=>by simp[Be] at hb
 | .fn f [] [],c,prs,ps,v,hb,_,_,hv=>by
  simp only[Be] at hb;split at hb
  .rename_i ha;cases hb;have e:=AC.beq_eq _ _ ha;subst e;obtain⟨vs,us,h1,h2,h3⟩:=hv;exact⟨⟨vs,us,h1,h2,h3⟩,fun p hp=>by cases hp⟩
  .cases hb
 | .fn _ (_::_) _,_,_,_,_,hb,_,_,_=>by simp[Be] at hb
 | .fn _ [] (_::_),_,_,_,_,hb,_,_,_=>by simp[Be] at hb
 | .mr ..,_,_,_,_,hb,_,_,_=>by simp[Be] at hb
 | .mp ..,_,_,_,_,hb,_,_,_=>by simp[Be] at hb
 | .mv _,_,_,_,_,hb,_,_,_=>by simp[Be] at hb
 | .sel ..,_,_,_,_,hb,_,_,_=>by simp[Be] at hb
 | .yl _,_,_,_,_,hb,_,_,_=>by simp[Be] at hb
 | .asl ..,_,_,_,_,hb,_,_,_=>by simp[Be] at hb
 | .rsv ..,_,_,_,_,hb,_,_,_=>by simp[Be] at hb
 | .tup _,_,_,_,_,hb,_,_,_=>by simp[Be] at hb
theorem G7 (M:VU T T2 ρ ρ2 ma mt w ren):∀(l l':List AC) {prs:List (Nat × Rf)} {ps:List Pr} {vs:List Value},Gc ren l l'=some (prs,ps)->(∀p∈prs,p.1 < n/\T2 p.1=p.2.eval T)->(∀p∈ps,p.holds T)->AB T gn ρ ma w l' vs->
  AB T2 n ρ2 mt w l vs/\∀p∈prs,PQ gn p.2
 |[],[],prs,ps,vs,hb,_,_,hv=>by
  simp only[Gc] at hb;cases hb;exact⟨hv,fun p hp=>by cases hp⟩
 |h::l,c::l',prs,ps,vs,hb,hp,hq,hv=>by
  simp only[Gc] at hb;obtain⟨p1,q1,p2,q2,b1,b2,rfl,rfl⟩:=KD hb;obtain⟨u,us,e,h1,h2⟩:=hv;obtain⟨k1,k2⟩:=dJ M h c b1 (fun p hpp=>hp p (wH _ hpp)) (fun p hpp=>hq p (wH _ hpp)) h1;obtain⟨k3,k4⟩:=G7 M l l' b2 (fun p hpp=>hp p (wB _ hpp)) (fun p hpp=>hq p (wB _ hpp)) h2;refine⟨⟨u,us,e,k1,k3⟩,fun p hpp=>?_⟩;rcases wc.1 hpp with h|h
  .exact k2 p h
  .exact k4 p h
 |[],_::_,_,_,_,hb,_,_,_=>by simp[Gc] at hb
 |_::_,[],_,_,_,hb,_,_,_=>by simp[Gc] at hb
theorem JR (M:VU T T2 ρ ρ2 ma mt w ren){k:Kd}{x:Nat}{c:AC}{prs:List (Nat × Rf)}{ps:List Pr}{v:Value}(hb:Nx x (fit k c)=some (prs,ps))(hp:∀p∈prs,p.1 < n/\T2 p.1=p.2.eval T)(hq:∀p∈ps,p.holds T)(hv:AA T gn ρ ma w c v):
  x < n/\AM (AS T2 ρ2 mt w) w k (T2 x) v/\∀p∈prs,PQ gn p.2:=by
 cases hf:fit k c with
 |none=>rw[hf] at hb;cases hb
 |some rq=>
  obtain⟨r,q⟩:=rq;rw[hf] at hb;cases hb;obtain⟨k1,k2⟩:=hp (x,r) (wY.2 rfl);simp only at k1 k2;refine⟨k1,?_,fun p hpp=>?_⟩
  .rw[k2];exact AM.mono (fun b off h=>⟨M.safe b off h,rfl⟩) _ _ _ (TN hf hv hq)
  .simp at hpp;subst hpp;exact hJ hf hv
end
end
theorem Ud {ren:List (Nat × Nat)}{ma:Mem}:∀{r:List (Nat × Nat)} {m:Mem} {prs:List (Nat × Rf)} {ps:List Pr},Gm ren ma r m=some (prs,ps)->
  r.length=m.length/\∀(i j id:Nat) (b:Blk),r[i]? =some (j,id)->m[i]? =some b->∃p q,Nj ren b (ma.at id)=some (p,q)/\(∀x∈p,x∈prs)/\∀x∈q,x∈ps
 |[],[],prs,ps,h=>⟨rfl,fun i j id b hi=>by simp at hi⟩
 |(j0,id0)::r,b0::m,prs,ps,h=>by
  simp only[Gm] at h;obtain⟨p1,q1,p2,q2,h1,h2,rfl,rfl⟩:=KD h;obtain⟨k1,k2⟩:=Ud h2;refine⟨by simp[k1],fun i j id b hi hb=>?_⟩;cases i with
  |zero=>
   simp at hi hb;obtain⟨rfl,rfl⟩:=hi;subst hb;exact⟨p1,q1,h1,fun x hx=>wH _ hx,fun x hx=>wH _ hx⟩
  |succ i=>
   obtain⟨p,q,z1,z2,z3⟩:=k2 i j id b (by simpa using hi) (by simpa using hb);exact⟨p,q,z1,fun x hx=>wB _ (z2 x hx),fun x hx=>wB _ (z3 x hx)⟩
 |[],_::_,_,_,h=>by simp[Gm] at h
 |_::_,[],_,_,h=>by simp[Gm] at h
theorem HH (B:Nat->Blk->Blk):∀(ren:List (Nat × Nat)) (m:Mem),(DU B ren m).length=m.length
 |[],_=>rfl
 |(j,id)::r,m=>by simp[DU,HH B r m]
theorem P0 (B:Nat->Blk->Blk):∀(ren:List (Nat × Nat)) (m:Mem),(ren.map (·.2)).Nodup->(∀p∈ren,p.2 < m.length)->∀id,(∀j,(j,id)∈ren->(DU B ren m).at id=B j (m.at id))/\((∀j,(j,id) ∉ ren)->(DU B ren m).at id=m.at id)
 |[],m,_,_,id=>⟨(fun j h=>by cases h),fun _=>rfl⟩
 |(j0,id0)::r,m,hn,hl,id=>by
  simp only[wG,List.nodup_cons] at hn;obtain⟨k1,k2⟩:=P0 B r m hn.2 (fun p hp=>hl p (vz _ hp)) id;have hid0:id0 < (DU B r m).length:=by rw[HH];exact hl (j0,id0) (wA ..)
  have hat:Mem.at ((DU B r m).set id0 (B j0 (m.at id0))) id=if id=id0 then B j0 (m.at id0) else (DU B r m).at id:=by
   unfold Mem.at;rw[List.getElem?_set];by_cases h:id0=id
   .subst h;simp[hid0]
   .rw[if_neg h,if_neg (fun e=>h e.symm)]
  have e:DU B ((j0,id0)::r) m=(DU B r m).set id0 (B j0 (m.at id0)):=rfl;rw[e,hat];refine⟨fun j hj=>?_,fun hno=>?_⟩
  .cases hj with
   |head=>rw[if_pos rfl]
   |tail _ hj=>
    have hne:id≠id0:=fun h=>hn.1 (List.mem_map.2 ⟨_,hj,h⟩);rw[if_neg hne];exact k1 j hj
  .have hne:id≠id0:=fun h=>hno j0 (by rw[h];exact wA ..);rw[if_neg hne];exact k2 fun j hj=>hno j (vz _ hj)
theorem Tl:∀(bs:List (List Kd × TypeId)) (x j:Nat),j < bs.length->∃l e,(Ha x bs).at j= .cells l e
 |[],_,j,h=>by simp at h
 |(ks,e)::r,x,0,_=>⟨_,_,rfl⟩
 |(ks,e)::r,x,j+1,h=>by
  have:=Tl r (x+ks.length) j (by simpa using h);simpa [Ha,Mem.at] using this
theorem M5:∀(bs:List (List Kd × TypeId)) (x:Nat),(Ha x bs).length=bs.length
 |[],_=>rfl
 |_::r,x=>by simp[Ha,M5 r]
structure TX (T T2:Tab) (n gn gn':Nat) (ren:List (Nat × Nat)) (nt na:Nat) (ρ2 ρ':Nat->Option Nat) (m2 mo:Mem) (w':World) (rs:List Rf):Prop where
 old:∀x r,rs[x]? =some r->T2 x=r.eval T/\PQ gn' r
 new:∀x,n<=x->∀k,x < n+k->gn+k=gn'->gn+(x - n) < gn'/\T (gn+(x - n))=T2 x
 safe:∀b off,AS T2 ρ2 m2 w' b off->AS T ρ' mo w' b off
 ptr:∀j l e id,m2.at j= .cells l e->UO ren nt na j=some id-> ρ' id= ρ2 j/\(mo.at id).ptrOk=true
section
variable {T T2:Tab}{n k gn gn' nt na:Nat}{ren:List (Nat × Nat)}{ρ2 ρ':Nat->Option Nat}{m2 mo:Mem}{w':World}{rs:List Rf}
mutual
theorem cC (B:TX T T2 n gn gn' ren nt na ρ2 ρ' m2 mo w' rs)(hk:gn+k=gn'):∀(h:AC) (v:Value),AA T2 (n+k) ρ2 m2 w' h v->AA T gn' ρ' mo w' (up1 n gn ren nt na m2 rs h) v
 | .i kk lo hi x,v,⟨h0,i,h1,h2,h3⟩=>by
  simp only[up1];split
  .rename_i hx;obtain⟨z1,z2⟩:=B.new x (wN hx) k h0 hk;exact⟨z1,i,by rw[z2];exact h1,h2,h3⟩
  .split
   .rename_i y hy;obtain⟨z1,z2⟩:=B.old x _ hy;exact⟨z2,i,by rw[<-h1,z1];rfl,h2,h3⟩
   .rw[h2];rfl
 | .b x,v,⟨h0,i,h1,h2⟩=>by
  simp only[up1];split
  .rename_i hx;obtain⟨z1,z2⟩:=B.new x (wN hx) k h0 hk;exact⟨z1,i,by rw[z2];exact h1,h2⟩
  .split
   .rename_i y hy;obtain⟨z1,z2⟩:=B.old x _ hy;exact⟨z2,i,by rw[<-h1,z1];rfl,h2⟩
   .rw[h2];rfl
 | .v x,v,⟨h0,h1,h2⟩=>by
  simp only[up1];split
  .rename_i hx;obtain⟨z1,z2⟩:=B.new x (wN hx) k h0 hk;exact⟨z1,by rw[z2];exact h1,h2⟩
  .split
   .rename_i y hy;obtain⟨z1,z2⟩:=B.old x _ hy;exact⟨z2,by rw[<-h1,z1];rfl,h2⟩
   .exact h2
 | .s x,v,⟨h0,i,h1,h2⟩=>by
  simp only[up1];split
  .rename_i hx;obtain⟨z1,z2⟩:=B.new x (wN hx) k h0 hk;exact⟨z1,i,by rw[z2];exact h1,h2⟩
  .split
   .rename_i y hy;obtain⟨z1,z2⟩:=B.old x _ hy;exact⟨z2,i,by rw[<-h1,z1];rfl,h2⟩
   .rw[h2.1];rfl
 | .ro x ks,v,⟨h0,h1⟩=>by
  simp only[up1];split
  .rename_i hx;obtain⟨z1,z2⟩:=B.new x (wN hx) k h0 hk;exact⟨z1,by rw[z2];exact AM.mono (fun b off h=>⟨B.safe b off h,rfl⟩) _ _ _ h1⟩
  .split
   .rename_i y hy;obtain⟨z1,z2⟩:=B.old x _ hy;exact⟨z2,by rw[show T y=T2 x by rw[z1];rfl];exact AM.mono (fun b off h=>⟨B.safe b off h,rfl⟩) _ _ _ h1⟩
   .exact h1.one
 | .vec id x ks,v,⟨h0,_,h1,_⟩=>by
  simp only[up1];split
  .rename_i hx;obtain⟨z1,z2⟩:=B.new x (wN hx) k h0 hk;exact⟨z1,by rw[z2];exact AM.mono (fun b off h=>⟨B.safe b off h,rfl⟩) _ _ _ h1⟩
  .split
   .rename_i y hy;obtain⟨z1,z2⟩:=B.old x _ hy;exact⟨z2,by rw[show T y=T2 x by rw[z1];rfl];exact AM.mono (fun b off h=>⟨B.safe b off h,rfl⟩) _ _ _ h1⟩
   .exact h1.one
 | .ptr j off,v,⟨b,h1,h2,h3⟩=>by
  simp only[up1];split
  .rename_i l e id hj hr;obtain⟨z1,z2⟩:=B.ptr j l e id hj hr;exact⟨b,by rw[z1];exact h1,h2,z2⟩
  .rw[h2];rfl
 | .cb b,v,h=>h
 | .ci kk i,v,h=>h
 | .cv c,v,h=>h
 | .agg l,v,⟨vs,h1,h2⟩=>⟨vs,h1,Uf B hk l vs h2⟩
 | .tup l,v,⟨vs,h1,h2⟩=>⟨vs,h1,Uf B hk l vs h2⟩
 | .any,_,_=>trivial
 | .anyc,_,_=>trivial
 | .on _ _,_,_=>trivial
 | .gd _ _,_,_=>trivial
 | .nb _,_,_=>trivial
 | .pix ..,_,_=>trivial
 | .rp ..,_,_=>trivial
 | .fn ..,_,_=>trivial
 | .sel ..,_,_=>trivial
 | .yl _,_,_=>trivial
 | .asl ..,_,_=>trivial
 | .rsv ..,_,_=>trivial
 | .mr ..,_,_=>trivial
 | .mp ..,_,_=>trivial
 | .mv _,_,_=>trivial
theorem Uf (B:TX T T2 n gn gn' ren nt na ρ2 ρ' m2 mo w' rs)(hk:gn+k=gn'):∀(l:List AC) (vs:List Value),AB T2 (n+k) ρ2 m2 w' l vs->AB T gn' ρ' mo w' (upL n gn ren nt na m2 rs l) vs
 |[],_,h=>h
 |c::l,vs,⟨u,us,h1,h2,h3⟩=>⟨u,us,h1,cC B hk c u h2,Uf B hk l us h3⟩
end
end
theorem RY {ren:List (Nat × Nat)}{ma:Mem}:∀{r:List (Nat × Nat)} {m:Mem} {prs:List (Nat × Rf)} {ps:List Pr},Gm ren ma r m=some (prs,ps)->
  ∀x∈prs,∃(i j id:Nat) (b:Blk) (p:List (Nat × Rf)) (q:List Pr),r[i]? =some (j,id)/\m[i]? =some b/\Nj ren b (ma.at id)=some (p,q)/\x∈p
 |[],[],prs,ps,h,x,hx=>by simp only[Gm] at h;cases h;cases hx
 |(j0,id0)::r,b0::m,prs,ps,h,x,hx=>by
  simp only[Gm] at h;obtain⟨p1,q1,p2,q2,h1,h2,rfl,rfl⟩:=KD h;rcases wc.1 hx with hx|hx
  .exact⟨0,j0,id0,b0,p1,q1,rfl,rfl,h1,hx⟩
  .obtain⟨i,j,id,b,p,q,z1,z2,z3,z4⟩:=RY h2 x hx;exact⟨i+1,j,id,b,p,q,by simpa using z1,by simpa using z2,z3,z4⟩
 |[],_::_,_,_,h,_,_=>by simp[Gm] at h
 |_::_,[],_,_,h,_,_=>by simp[Gm] at h
theorem ge {T2:Tab}{n n':Nat}{ρ2 ρ2':Nat->Option Nat}{m m':Mem}{w w':World}(hr:∀id,(m.at id).ptrOk=true-> ρ2' id= ρ2 id){h:AC}{u u':Value}(hd:det h=true)(h1:AA T2 n ρ2 m w h u)(h2:AA T2 n' ρ2' m' w' h u'):u'=u:=by
 cases h<;>simp only[det] at hd<;>try (cases hd;done)
 case cb b=>rw[show u=_ from h1,show u'=_ from h2]
 case b x=>
  obtain⟨_,b,e1,e2⟩:=h1;obtain⟨_,b',e3,e4⟩:=h2;rw[e1] at e3;cases e3;rw[e2,e4]
 case ci k i=>rw[show u=_ from h1,show u'=_ from h2]
 case i k lo hi x=>
  obtain⟨_,b,e1,e2,_⟩:=h1;obtain⟨_,b',e3,e4,_⟩:=h2;rw[e1] at e3;cases e3;rw[e2,e4]
 case cv c=>rw[show u=_ from h1,show u'=_ from h2]
 case v x=>
  obtain⟨_,e1,_⟩:=h1;obtain⟨_,e3,_⟩:=h2;rw[e1] at e3;injection e3 with e3;exact e3.symm
 case s x=>
  obtain⟨_,b,e1,e2⟩:=h1;obtain⟨_,b',e3,e4⟩:=h2;rw[e1] at e3;cases e3;rw[e2.1,e4.1]
 case ptr id off=>
  obtain⟨b,e1,e2,e3⟩:=h1;obtain⟨b',e4,e5,_⟩:=h2;rw[hr id e3,e1] at e4;cases e4;rw[e2,e5]
theorem PX {T T2:Tab}{n n' gn gn':Nat}{ρ ρ2 ρ2' ρ':Nat->Option Nat}{ma mt m2 mo:Mem}{w w':World}{up:AC->AC}(hst:AE T gn ρ ma w ρ' mo w')(hn:gn<=gn')(hr:∀id,(mt.at id).ptrOk=true-> ρ2' id= ρ2 id)
  (hup:∀h v,AA T2 n' ρ2' m2 w' h v->AA T gn' ρ' mo w' (up h) v):∀{l0 l l':List AC} {vs vs':List Value},l0.length=l.length->l.length=l'.length->AB T2 n ρ2 mt w l0 vs->AB T gn ρ ma w l vs->AB T2 n' ρ2' m2 w' l' vs'->AB T gn' ρ' mo w' (Qq up l0 l l') vs'
 |[],[],[],vs,vs',_,_,_,_,h=>h
 |h0::l0,c::l,h::l',vs,vs',e1,e2,⟨u0,us0,f0,a1,a2⟩,⟨u1,us1,f,b1,b2⟩,⟨u,us,f3,c1,c2⟩=>by
  subst f0;subst f3;injection f with f1 f2
  subst f1;subst f2;refine⟨u,us,rfl,?_,PX hst hn hr hup (by simpa using e1) (by simpa using e2) a2 b2 c2⟩;split
  .rename_i hc;rw[vo] at hc;have e:=AC.beq_eq _ _ hc.2;subst e;rw[ge hr hc.1 a1 c1];exact AA.mono0 hst hn _ _ b1
  .exact hup _ _ c1
 |[],_::_,_,_,_,e,_,_,_,_=>by simp at e
 |_::_,[],_,_,_,e,_,_,_,_=>by simp at e
 |[],[],_::_,_,_,_,e,_,_,_=>by simp at e
 |_::_,_::_,[],_,_,_,e,_,_,_=>by simp at e
theorem aJ {T T2:Tab}{n' gn':Nat}{ρ2' ρ':Nat->Option Nat}{m2 mo:Mem}{w':World}{up:AC->AC}(hup:∀h v,AA T2 n' ρ2' m2 w' h v->AA T gn' ρ' mo w' (up h) v):∀{l:List AC} {vs:List Value},AB T2 n' ρ2' m2 w' l vs->AB T gn' ρ' mo w' (l.map up) vs
 |[],_,h=>h
 |c::l,vs,⟨u,us,e,h1,h2⟩=>⟨u,us,e,hup _ _ h1,aJ hup h2⟩
theorem ic (a b:Mem)(id:Nat):Mem.at (a++b) id=if id < a.length then a.at id else b.at (id - a.length):=by
 unfold Mem.at;rw[List.getElem?_append];split<;>rfl
theorem il (m:Mem)(nt i:Nat)(f:Blk->Blk):Mem.at ((m.drop nt).map f) i=if nt+i < m.length then f (m.at (nt+i)) else .pad:=by
 unfold Mem.at;rw[wW,List.getElem?_drop];by_cases h:nt+i < m.length
 .rw[if_pos h,vt h];rfl
 .rw[if_neg h,wV (by omega)];rfl
theorem Z4 {P:Program}{f:FuncId}{t:AV}(ht:Ae P f t):∀(T:Tab) (ys:Ys) (args:List AC) (pc:PC) (ma:Mem) (g:G) (c':AC) (mo:Mem) (g':G),Uq t ys f args pc ma g=some (c',mo,g')->
  AR g g'/\(Agr T g'->AY T g'->pcv T pc->A8 T g pc->∀ ρ w vs,AB T g.n ρ ma w args vs->AD T g.n ρ ma w->
   (∃fn,P.funcs[f]? =some fn/\fn.body.isSome=true/\(fn.name== "runtime.NumGoroutine")=false)/\Calls P f (vs:List Value).toArray w (Ed T g ρ ma w c' mo g')):=by
 intro T ys args pc ma g c' mo g' hap;obtain⟨lp0,ht⟩:=ht;unfold Uq at hap;simp only at hap;generalize hren:TK t.args args=ren at hap;split at hap
 .rename_i hc;simp only[vo] at hc;obtain⟨⟨⟨⟨hrow,hc1⟩,hc2⟩,hc3⟩,hc4⟩:=hc;have hrow:t.row=none:=Option.isNone_iff_eq_none.1 hrow;have htm:t.m=Ha (C0 t.sh).length t.blks:=by unfold AV.m;rw[hrow]
  split at hap
  .rename_i prs ps hb;split at hap
   .rename_i hc5;have hfst:=IR hc5;simp only[Option.some.injEq,Prod.mk.injEq] at hap;obtain⟨e1,e2,e3⟩:=hap;generalize hrs:prs.map (·.2)=rs at e1 e2 e3;obtain⟨p1,q1,p2,q2,hb1,hb2,hp12,hq12⟩:=KD hb;generalize hg1:g.needAll pc (ps++t.pre.map fun x=>(⟨x.1,x.2,rs⟩:Pr))=g1 at e3;have n1:g1.n=g.n:=by rw[<-hg1];exact (Cn _ _ _).1
    have gr1:AR g g1:=by rw[<-hg1];exact AR.need _ _ _
    have gr2:AR g1 g':=by rw[<-e3];exact AR.push _ _
    refine⟨gr1.trans gr2,fun hA hob hpc hpk ρ w vs hvs hm=>?_⟩;have hgn':g.n+t.outs.length=g'.n:=by rw[<-e3,BQ,n1];simp
    have hnew:New T g1.n (t.outs.map fun x=>(⟨x.1,x.2,rs⟩:Ex)):=by rw[<-e3] at hA;exact hA.new
    have hps:∀p∈ps++t.pre.map fun x=>(⟨x.1,x.2,rs⟩:Pr),p.holds T:=by
     have:=hob.of gr2;rw[<-hg1] at this;exact AY.need this hpc
    have hplen:prs.length=t.n:=by have:=congrArg List.length hfst;simpa using this
    have hrl:rs.length=t.n:=by rw[<-hrs];simpa using hplen
    have hprs:∀p∈prs,p.1 < t.n/\rs[p.1]? =some p.2:=fun p hp=>by
     obtain⟨i,hi⟩:=wP.1 hp;have h1:(prs.map (·.1))[i]? =some p.1:=by simp[hi]
     rw[hfst] at h1;obtain⟨h2,h3⟩:=vu.1 h1;simp at h2 h3;subst h3;exact⟨h2,by rw[<-hrs];simp[hi]⟩
    let us:=rs.map (Rf.eval T);have husl:us.length=t.n:=by simp[us,hrl]
    let T2:Tab:=⟨fun x=>(t.us us).getD x default,fun b off=>w.heap.size<=b\/AS T ρ ma w b off,lp0,0⟩;have hT2:∀j u,(t.us us)[j]? =some u->T2 j=u:=fun j u hj=>by
     show (t.us us).getD j default=u;simp[List.getD,hj]
    have hT2o:∀x r,rs[x]? =some r->T2 x=r.eval T:=fun x r hx=>hT2 x _ (by
     unfold AV.us;have hxl:=(vu.1 hx).1;rw[wE (by omega)];simp[us,hx])
    have hT2n:∀i,i < t.outs.length->T2 (t.n+i)=T (g.n+i):=fun i hi=>by
     have h1:=hT2 (t.n+i) (t.outs[i].2 us) (by
      unfold AV.us;rw[wF (by omega),husl];simp[hi])
     have h2:=hnew i ⟨t.outs[i].1,t.outs[i].2,rs⟩ (by simp[hi]);rw[n1] at h2;rw[h1,h2];rfl
    have hfr:=IR hc1;have hnd:=NY hc2;have hnd1:(ren.map (·.1)).Nodup:=by rw[hfr];exact List.nodup_range
    have hlt:∀p∈ren,p.2 < ma.length:=fun p hp=>Au (wR.1 hc3 p hp);have hix:∀j id,(j,id)∈ren->ren[j]? =some (j,id)/\j < t.m.length:=fun j id hj=>by
     obtain⟨i,hi⟩:=wP.1 hj;have h1:(ren.map (·.1))[i]? =some j:=by simp[hi]
     rw[hfr] at h1;obtain⟨h2,h3⟩:=vu.1 h1;simp at h2 h3;subst h3;exact⟨hi,h2⟩
    have hall:∀j,j < t.m.length->∃id,(j,id)∈ren:=fun j hj=>by
     have:j∈ren.map (·.1):=by rw[hfr];simpa using hj
     obtain⟨p,hp,e⟩:=List.mem_map.1 this;exact⟨p.2,by rw[<-e];exact hp⟩
    obtain⟨_,hbat⟩:=Ud hb2;have hblk:∀j id,(j,id)∈ren->∃l l' e p q,t.m.at j= .cells l e/\ma.at id= .cells l' e/\Gc ren l l'=some (p,q)/\(∀x∈p,x∈prs)/\∀x∈q,x∈ps:=fun j id hj=>by
     obtain⟨h1,h2⟩:=hix j id hj;obtain⟨l,e,hl⟩:=Tl t.blks (C0 t.sh).length j (by have:=M5 t.blks (C0 t.sh).length;rw[htm] at h2;omega);have hl':t.m.at j= .cells l e:=by rw[htm];exact hl
     have hget:t.m[j]? =some (.cells l e):=by
      rw[<-hl'];simp[Mem.at,vt h2]
     obtain⟨p,q,h3,h4,h5⟩:=hbat j j id _ h1 hget;cases hx:ma.at id with
     |cells l' e'=>
      rw[hx] at h3;simp only[Nj] at h3;split at h3
      .rename_i he;rw[<-vp he];exact⟨l,l',e,p,q,hl',rfl,h3,fun x hx=>by rw[hp12];exact wB _ (h4 x hx),fun x hx=>by rw[hq12];exact wB _ (h5 x hx)⟩
      .cases h3
     |_=>rw[hx] at h3;simp[Nj] at h3
    let ρ2:Nat->Option Nat:=fun j=>(Fk ren j).bind ρ;have hρ2:∀j id,(j,id)∈ren-> ρ2 j= ρ id:=fun j id hj=>by
     show (Fk ren j).bind ρ = ρ id;rw[cP hnd1 hj];rfl
    have htm:∀j,(t.m.at j).tracked=true->∃id,(j,id)∈ren:=fun j hj=>by
     refine hall j ?_;rcases wD j t.m.length with h|h
     .exact h
     .rw[Mem.at_ge h] at hj;cases hj
    have M:VU T T2 ρ ρ2 ma t.m w ren:=by
     refine⟨fun b off hs=>⟨hs.1,.inr hs,fun j=>?_⟩,fun j id hj=>?_⟩
     .by_cases hj:j < t.m.length
      .obtain⟨id,hid⟩:=hall j hj;obtain⟨l,l',e,_,_,z1,z2,_⟩:=hblk j id hid;rw[z1];have:=hs.2.2 id;rw[z2] at this;show ρ2 j≠some b;rw[hρ2 j id hid];exact this
      .rw[Mem.at_ge (by omega)];trivial
     .have hmem:=Md hj;obtain⟨l,l',e,_,_,z1,_⟩:=hblk j id hmem;exact⟨hρ2 j id hmem,by rw[z1];rfl⟩
    have hvals:∀p∈prs,p.1 < t.n/\T2 p.1=p.2.eval T:=fun p hp=>⟨(hprs p hp).1,hT2o _ _ (hprs p hp).2⟩;have hps1:∀p∈ps,p.holds T:=fun p hp=>hps p (wH _ hp);obtain⟨hargs2,hlt1⟩:=G7 (n:=t.n) M t.args args hb1 (fun p hp=>hvals p (by rw[hp12];exact wH _ hp)) (fun p hp=>hps1 p (by rw[hq12];exact wH _ hp)) hvs;have hcell:∀j id,(j,id)∈ren->∃l l' e b vs0,t.m.at j= .cells l e/\ma.at id= .cells l' e/\ ρ id=some b/\w.heap[b]? =some (.cells (vs0:List Value).toArray e (0,0))/\AB T g.n ρ ma w l' vs0/\AB T2 t.n ρ2 t.m w l vs0:=fun j id hj=>by
     obtain⟨l,l',e,p,q,z1,z2,z3,z4,z5⟩:=hblk j id hj;have:=hm.blk id;rw[z2] at this;obtain⟨b,vs0,y1,y2,y3⟩:=this;exact⟨l,l',e,b,vs0,z1,z2,y1,y2,y3,(G7 (n:=t.n) M l l' z3 (fun x hx=>hvals x (z4 x hx)) (fun x hx=>hps1 x (z5 x hx)) y3).1⟩
    have hrlt:∀p∈prs,PQ g.n p.2:=fun p hp=>by
     rw[hp12] at hp;rcases wc.1 hp with h|h
     .exact hlt1 p h
     .obtain⟨i,j,id,b,pp,qq,z1,z2,z3,z4⟩:=RY hb2 p h;have hj:(j,id)∈ren:=wP.2 ⟨i,z1⟩;obtain⟨w1,w2⟩:=hix j id hj;obtain⟨l,l',e,pb,qb,y1,y2,y3,y4,y5⟩:=hblk j id hj;have hij:i=j:=by
       have h1:(ren.map (·.1))[i]? =some j:=by simp[z1]
       rw[hfr] at h1;obtain⟨_,h3⟩:=vu.1 h1;simpa using h3
      subst hij;have hbe:b= .cells l e:=by
       have:t.m.at i=b:=by simp[Mem.at,z2]
       rw[<-this,y1]
      rw[hbe,y2] at z3;simp only[Nj,(DD e e).2 rfl,if_true] at z3;rw[y3] at z3;cases z3;have:=hm.blk id;rw[y2] at this;obtain⟨bb,vs0,_,_,x3⟩:=this;exact (G7 (n:=t.n) M l l' y3 (fun x hx=>hvals x (y4 x hx)) (fun x hx=>hps1 x (y5 x hx)) x3).2 p z4
    have hmem2:AD T2 t.n ρ2 t.m w:=by
     refine⟨fun j=>?_,fun j j' b h1 h2 h3 h4=>?_,fun b off hb=> .inl hb⟩
     .by_cases hj:j < t.m.length
      .obtain⟨id,hid⟩:=hall j hj;obtain⟨l,l',e,b,vs0,z1,z2,z3,z4,z5,z6⟩:=hcell j id hid;rw[z1];exact⟨b,vs0,by rw[hρ2 j id hid];exact z3,z4,z6⟩
      .rw[Mem.at_ge (by omega)];trivial
     .obtain⟨id,hid⟩:=htm j h1;obtain⟨id',hid'⟩:=htm j' h2;rw[hρ2 j id hid] at h3;rw[hρ2 j' id' hid'] at h4;obtain⟨_,_,_,_,_,_,z2,_⟩:=hcell j id hid;obtain⟨_,_,_,_,_,_,z2',_⟩:=hcell j' id' hid';have e:=hm.inj id id' b (by rw[z2];rfl) (by rw[z2'];rfl) h3 h4;subst e;obtain⟨i1,k1⟩:=wP.1 hid;obtain⟨i2,k2⟩:=wP.1 hid';have a1:(ren.map (·.2))[i1]? =some id:=by simp[k1]
      have a2:(ren.map (·.2))[i2]? =some id:=by simp[k2]
      have:=(List.getElem?_inj (vu.1 a1).1 hnd).1 (a1.trans a2.symm);subst this;rw[k1] at k2;cases k2;rfl
    have hpre:∀p∈t.pre,p.2 us:=fun p hp=>hps ⟨p.1,p.2,rs⟩ (wB _ (List.mem_map.2 ⟨p,hp,rfl⟩));obtain⟨hfn,hcalls⟩:=ht T2 us rfl husl hT2 hpre ρ2 w vs hargs2 hmem2;refine⟨hfn,hcalls.mono fun ee w' hh=>?_⟩;obtain⟨v, ρ2',rfl,S2,M2,H2⟩:=hh;have hnt:t.m.length<=t.m'.length:=wN hc4;have hr2:∀j,(t.m.at j).ptrOk=true-> ρ2' j= ρ2 j:=fun j hj=>(S2.rho j hj).1;let ρ':Nat->Option Nat:=fun id=>if id < ma.length then ρ id else ρ2' (t.m.length+(id - ma.length))
    have hρlt:∀id,id < ma.length-> ρ' id= ρ id:=fun id h=>if_pos h;have hρge:∀id,ma.length<=id-> ρ' id= ρ2' (t.m.length+(id - ma.length)):=fun id h=>if_neg (by omega);obtain hup:∃up,up=up1 t.n g.n ren t.m.length ma.length t.m' rs:=⟨_,rfl⟩;obtain⟨up,hup⟩:=hup;rw[<-hup] at e1 e2;have hlen:=HH (fun j b=>L5 up (t.m.at j) b (t.m'.at j)) ren ma;have hput:=fun id=>P0 (fun j b=>L5 up (t.m.at j) b (t.m'.at j)) ren ma hnd hlt id;have hmo:∀id,mo.at id=if id < ma.length then Mem.at (DU (fun j b=>L5 up (t.m.at j) b (t.m'.at j)) ren ma) id else if t.m.length+(id - ma.length) < t.m'.length then Vk up (t.m'.at (t.m.length+(id - ma.length))) else .pad:=fun id=>by
     rw[<-e2,ic,hlen,il]
    have touch:∀j id,(j,id)∈ren->mo.at id=L5 up (t.m.at j) (ma.at id) (t.m'.at j):=fun j id hj=>by
     rw[hmo,if_pos (hlt _ hj)];exact (hput id).1 j hj
    have keep:∀id,id < ma.length->(∀j,(j,id) ∉ ren)->mo.at id=ma.at id:=fun id h hno=>by
     rw[hmo,if_pos h];exact (hput id).2 hno
    have fresh:∀id,ma.length<=id->mo.at id=if t.m.length+(id - ma.length) < t.m'.length then Vk up (t.m'.at (t.m.length+(id - ma.length))) else .pad:=fun id h=>by
     rw[hmo,if_neg (by omega)]
    have upB:∀j id,(j,id)∈ren->(∃l e,mo.at id= .cells l e)\/mo.at id= .gone:=fun j id hj=>by
     obtain⟨l,l',e,b,vs0,z1,z2,_⟩:=hcell j id hj;rw[touch j id hj,z1,z2];cases t.m'.at j with
     |cells l3 e3=>
      simp only[L5];split
      .exact .inl ⟨_,_,rfl⟩
      .exact .inr rfl
     |_=>exact .inr rfl
    have newB:∀id,ma.length<=id->(mo.at id).tracked=true->∃l e,t.m'.at (t.m.length+(id - ma.length))= .cells l e/\mo.at id= .cells (l.map up) e:=fun id h htr=>by
     rw[fresh id h] at htr⊢;split at htr
     .rename_i hx;rw[if_pos hx];cases hy:t.m'.at (t.m.length+(id - ma.length)) with
      |cells l e=>exact⟨l,e,rfl,rfl⟩
      |_=>rw[hy] at htr;cases htr
     .cases htr
    have newGe:∀id b,ma.length<=id->(mo.at id).tracked=true-> ρ' id=some b->w.heap.size<=b:=fun id b h htr hb=>by
     obtain⟨l,e,h1,_⟩:=newB id h htr;rw[hρge id h] at hb;exact S2.fresh _ b (Mem.at_ge (by omega)) (by rw[h1];rfl) hb
    have trOld:∀id,id < ma.length->(mo.at id).tracked=true->(ma.at id).tracked=true:=fun id h htr=>by
     by_cases hex:∃j,(j,id)∈ren
     .obtain⟨j,hj⟩:=hex;obtain⟨l,l',e,b,vs0,z1,z2,_⟩:=hcell j id hj;rw[z2];rfl
     .rw[keep id h (fun j hj=>hex ⟨j,hj⟩)] at htr;exact htr
    have unt2:∀k,(∀id,(ma.at id).tracked=true-> ρ id≠some k)->∀j,(t.m.at j).tracked=true-> ρ2 j≠some k:=fun k hno j hj=>by
     obtain⟨id,hid⟩:=htm j hj;obtain⟨l,l',e,b,vs0,z1,z2,_⟩:=hcell j id hid;rw[hρ2 j id hid];exact hno id (by rw[z2];rfl)
    have keepHeap:∀id b,(ma.at id).tracked=true->(∀j,(j,id) ∉ ren)-> ρ id=some b->w'.heap[b]? =w.heap[b]? :=fun id b htr hno hb=>by
     refine S2.old b (hm.lt htr hb) fun j hj he=>?_;obtain⟨id',hid'⟩:=htm j hj;obtain⟨l,l',e,b',vs0,z1,z2,_⟩:=hcell j id' hid';rw[hρ2 j id' hid'] at he;have:=hm.inj id id' b htr (by rw[z2];rfl) hb he;subst this;exact hno j hid'
    have idlt:∀id,ma.at id≠ .pad->id < ma.length:=fun id h=>by
     rcases wD id ma.length with hh|hh
     .exact hh
     .exact absurd (Mem.at_ge hh) h
    have hst:AE T g.n ρ ma w ρ' mo w':={
     os:=S2.os
     tape:=S2.tape
     output:=S2.output
     size:=S2.size
     mlen:=fun id h=>by
      by_cases hex:∃j,(j,id)∈ren
      .obtain⟨j,hj⟩:=hex;rcases upB j id hj with⟨l,e,h1⟩|h1<;>rw[h1]<;>exact fun h=>by cases h
      .rw[keep id (idlt id h) (fun j hj=>hex ⟨j,hj⟩)];exact h
     rho:=fun id h=>by
      have hil:=idlt id (A7 h);refine⟨hρlt id hil,?_⟩;by_cases hex:∃j,(j,id)∈ren
      .obtain⟨j,hj⟩:=hex;rcases upB j id hj with⟨l,e,h1⟩|h1<;>rw[h1]<;>rfl
      .rw[keep id hil (fun j hj=>hex ⟨j,hj⟩)];exact h
     untr:=fun id h htr=>trOld id (idlt id h) htr
     fresh:=fun id b h htr hb=>by
      rcases wD id ma.length with hil|hil
      .have:=trOld id hil htr;rw[h] at this;cases this
      .exact newGe id b hil htr hb
     old:=fun k hk hno=>S2.old k hk (unt2 k hno)
     tok:=fun id x ks e hx=>by
      have hil:=idlt id (by rw[hx];exact fun h=>by cases h);have hno:∀j,(j,id) ∉ ren:=fun j hj=>by
       obtain⟨l,l',e,b,vs0,z1,z2,_⟩:=hcell j id hj;rw[hx] at z2;cases z2
      exact .inl ⟨by rw[keep id hil hno];exact hx,hρlt id hil,fun b hb=>keepHeap id b (by rw[hx];rfl) hno hb⟩
     row:=fun id x y ks e hx=>by
      have hil:=idlt id (by rw[hx];exact fun h=>by cases h);have hno:∀j,(j,id) ∉ ren:=fun j hj=>by
       obtain⟨l,l',e,b,vs0,z1,z2,_⟩:=hcell j id hj;rw[hx] at z2;cases z2
      exact .inr ⟨x,y,ks,by rw[keep id hil hno];exact hx,rfl,.inl ⟨rfl,hρlt id hil,fun b vs hb hv=>⟨vs,by rw[keepHeap id b (by rw[hx];rfl) hno hb];exact hv,rfl⟩⟩⟩ }
    have hgle:g.n<=g'.n:=by omega
    have B:TX T T2 t.n g.n g'.n ren t.m.length ma.length ρ2' ρ' t.m' mo w' rs:=by
     refine⟨fun x r hx=>⟨hT2o x r hx,?_⟩,fun x hx k hxk hkk=>?_,fun b off hs=>?_,fun j l e id hj hr=>?_⟩
     .rw[<-hrs,wW,wK] at hx;obtain⟨p,hp,rfl⟩:=hx;have:=hrlt p (wP.2 ⟨x,hp⟩)
      revert this
      cases p.2 with
      |c u=>exact fun _=>trivial
      |e y=>exact fun h=>vw h hgle
      |n y=>exact fun h=>vw h hgle
     .have hkk':k=t.outs.length:=by omega
      have:=hT2n (x - t.n) (by omega);rw[show t.n+(x - t.n)=x by omega] at this;exact⟨by omega,this.symm⟩
     .obtain⟨s1,s2,s3⟩:=hs;have s2':w.heap.size<=b\/AS T ρ ma w b off:=s2;refine⟨s1,?_,fun id=>?_⟩
      .rcases s2' with h|h
       .exact hm.fr b off h
       .exact h.2.1
      .rcases wD id ma.length with hil|hil
       .have base:match ma.at id with| .pad| .gone=>True| .cells _ _| .lp _ _| .mrow _ _ _ _| .mapb _ _ _ _ _=> ρ id≠some b| .tok x ks _=> ρ id=some b->off < Bu T x ks:=by
         rcases s2' with h|h
         .have no:(ma.at id).tracked=true-> ρ id≠some b:=fun htr he=>by have:=hm.lt htr he;omega
          cases hx:ma.at id with
          |pad=>trivial
          |gone=>trivial
          |cells=>exact no (by rw[hx];rfl)
          |lp=>exact no (by rw[hx];rfl)
          |mrow=>exact no (by rw[hx];rfl)
          |mapb=>exact no (by rw[hx];rfl)
          |tok=>exact fun he=>absurd he (no (by rw[hx];rfl))
         .exact h.2.2 id
        by_cases hex:∃j,(j,id)∈ren
        .obtain⟨j,hj⟩:=hex;obtain⟨l,l',e,b',vs0,z1,z2,_⟩:=hcell j id hj;rw[z2] at base;rcases upB j id hj with⟨l3,e3,h1⟩|h1
         .rw[h1];show ρ' id≠some b;rw[hρlt id hil];exact base
         .rw[h1];trivial
        .rw[keep id hil (fun j hj=>hex ⟨j,hj⟩),hρlt id hil];exact base
       .by_cases htr:(mo.at id).tracked=true
        .obtain⟨l,e,h1,h2⟩:=newB id hil htr;have:=s3 (t.m.length+(id - ma.length));rw[h1] at this;rw[h2];show ρ' id≠some b;rw[hρge id hil];exact this
        .cases hx:mo.at id with
         |pad=>trivial
         |gone=>trivial
         |cells=>rw[hx] at htr;exact absurd rfl htr
         |lp=>rw[hx] at htr;exact absurd rfl htr
         |tok=>rw[hx] at htr;exact absurd rfl htr
         |mrow=>rw[hx] at htr;exact absurd rfl htr
         |mapb=>rw[hx] at htr;exact absurd rfl htr
     .unfold UO at hr;split at hr
      .have hmem:=Md hr;obtain⟨l0,l',e0,b',vs0,z1,z2,_⟩:=hcell j id hmem;have hil:=hlt _ hmem;refine⟨by rw[hρlt id hil,hr2 j (by rw[z1];rfl),hρ2 j id hmem],?_⟩;rcases upB j id hmem with⟨l3,e3,h1⟩|h1<;>rw[h1]<;>rfl
      .rename_i hge;cases hr;have hge':t.m.length<=j:=by
        rcases wD j t.m.length with h|h
        .exact absurd (by rw[Nat.blt_eq];exact h) hge
        .exact h
       have hj':t.m.length+(ma.length+(j - t.m.length) - ma.length)=j:=by omega
       refine⟨by rw[hρge _ (by omega),hj'],?_⟩;rw[fresh _ (by omega),hj'];have hjl:j < t.m'.length:=by
        rcases wD j t.m'.length with h|h
        .exact h
        .rw[Mem.at_ge h] at hj;cases hj
       rw[if_pos hjl,hj];rfl
    have hupok:∀h v,AA T2 (t.n+t.outs.length) ρ2' t.m' w' h v->AA T g'.n ρ' mo w' (up h) v:=fun h v hh=>by
     rw[hup];exact cC B hgn' h v hh
    refine⟨v, ρ',rfl,hst,⟨fun id=>?_,fun id id' b t1 t2 h1 h2=>?_,fun b off hb=>hm.fr b off (wI S2.size hb)⟩,by rw[<-e1];exact hupok _ _ H2⟩
    .rcases wD id ma.length with hil|hil
     .by_cases hex:∃j,(j,id)∈ren
      .obtain⟨j,hj⟩:=hex;obtain⟨l,l',e,b,vs0,z1,z2,z3,z4,z5,z6⟩:=hcell j id hj;rw[touch j id hj,z1,z2];have hb2:=M2.blk j;cases hx:t.m'.at j with
       |cells l3 e3=>
        simp only[L5];split
        .rename_i hcc;simp only[vo] at hcc;obtain⟨⟨c1,c2⟩,c3⟩:=hcc;rw[hx] at hb2;obtain⟨b2,vs2,y1,y2,y3⟩:=hb2;have hbb:b2=b:=by
          rw[hr2 j (by rw[z1];rfl),hρ2 j id hj,z3] at y1;injection y1 with y1;exact y1.symm
         rw[<-vp c3] at y2;rw[hbb] at y2;exact⟨b,vs2,by rw[hρlt id hil];exact z3,y2,PX hst hgle hr2 hupok (vp c1) (vp c2) z6 z5 y3⟩
        .trivial
       |_=>trivial
      .have hno:∀j,(j,id) ∉ ren:=fun j hj=>hex ⟨j,hj⟩;by_cases htr:(ma.at id).tracked=true
       .exact BB.step hst hm hgle (keep id hil hno) (hρlt id hil) (fun b hb=>keepHeap id b htr hno hb)
       .rw[keep id hil hno];cases hx:ma.at id with
        |pad=>trivial
        |gone=>trivial
        |cells=>rw[hx] at htr;exact absurd rfl htr
        |lp=>rw[hx] at htr;exact absurd rfl htr
        |tok=>rw[hx] at htr;exact absurd rfl htr
        |mrow=>rw[hx] at htr;exact absurd rfl htr
        |mapb=>rw[hx] at htr;exact absurd rfl htr
     .by_cases htr:(mo.at id).tracked=true
      .obtain⟨l,e,h1,h2⟩:=newB id hil htr;have hb2:=M2.blk (t.m.length+(id - ma.length));rw[h1] at hb2;obtain⟨b2,vs2,y1,y2,y3⟩:=hb2;rw[h2];exact⟨b2,vs2,by rw[hρge id hil];exact y1,y2,aJ hupok y3⟩
      .cases hx:mo.at id with
       |pad=>trivial
       |gone=>trivial
       |cells=>rw[hx] at htr;exact absurd rfl htr
       |lp=>rw[hx] at htr;exact absurd rfl htr
       |tok=>rw[hx] at htr;exact absurd rfl htr
       |mrow=>rw[hx] at htr;exact absurd rfl htr
       |mapb=>rw[hx] at htr;exact absurd rfl htr
    .rcases wD id ma.length with hil|hil
     .rcases wD id' ma.length with hil'|hil'
      .rw[hρlt id hil] at h1;rw[hρlt id' hil'] at h2;exact hm.inj id id' b (trOld id hil t1) (trOld id' hil' t2) h1 h2
      .have:=newGe id' b hil' t2 h2;rw[hρlt id hil] at h1;have:=hm.lt (trOld id hil t1) h1;omega
     .rcases wD id' ma.length with hil'|hil'
      .have:=newGe id b hil t1 h1;rw[hρlt id' hil'] at h2;have:=hm.lt (trOld id' hil' t2) h2;omega
      .obtain⟨l,e,k1,_⟩:=newB id hil t1;obtain⟨l',e',k2,_⟩:=newB id' hil' t2;rw[hρge id hil] at h1;rw[hρge id' hil'] at h2;have:=M2.inj _ _ b (by rw[k1];rfl) (by rw[k2];rfl) h1 h2;omega
   .cases hap
  .cases hap
 .cases hap
end
section
open Go Go.RowKit
mutual
theorem Uz {ok:Nat->Nat->Prop}{w:World}:∀(k:Kd) {u:U} {v:Value},AM ok w k u v->KdU AF k u
 | .int _ _ _,_,_,⟨n,h1,_,h3⟩=>⟨n,h1,h3⟩
 | .bool,_,_,⟨b,h1,_⟩=>⟨b,h1⟩
 | .str,_,_,⟨s,h1,_,h2⟩=>⟨s,h1,h2⟩
 | .val,_,_,_=>trivial
 | .any,_,_,_=>trivial
 | .list ks,_,_,⟨l,h0,h1,h2,a,cap,_,_,h5⟩=>by
  refine⟨l,h0,h1,fun i us hi=>?_⟩;have hl:0 < l.length:=by have:=(vu.1 hi).1;omega
  obtain⟨b,o,_,hc⟩:=h5 hl;exact XJ ks (hc i us hi)
theorem XJ {ok:Nat->Nat->Prop}{w:World}:∀(ks:List Kd) {b off:Nat} {us:List U},AX ok w ks b off us->AT AF ks us
 |[],_,_,_,h=>h
 |k::ks,_,_,_,⟨u,us',e,⟨_,v,_,h3⟩,h4⟩=>⟨u,us',e,Uz k h3,XJ ks h4⟩
end
theorem XQ {ok:Nat->Nat->Prop}{w:World}:∀{ks:List Kd} {us:List U} {vs:List Value},AJ ok w ks us vs->AT AF ks us
 |[],_,_,h=>h.1
 |k::_,_,_,⟨u,us',v,vs',e,_,h1,h2⟩=>⟨u,us',e,Uz k h1,XQ h2⟩
section
variable {T:Tab}{n:Nat}{ρ :Nat->Option Nat}{m:Mem}{w:World}
theorem bI {k:Kd}{x:Nat}{v:Value}(h:AA T n ρ m w (NZ k x) v):KdU AF k (T x):=by
 cases k with
 |int k lo hi=>obtain⟨_,i,h1,_,h3⟩:=h;exact⟨i,h1,h3⟩
 |bool=>obtain⟨_,b,h1,_⟩:=h;exact⟨b,h1⟩
 |str=>obtain⟨_,s,h1,_,h2⟩:=h;exact⟨s,h1,h2⟩
 |val=>trivial
 |any=>trivial
 |list ks=>exact Uz (.list ks) h.2
def LC (ks:List Kd)(us:List U):Prop:=∀(j:Nat) (k:Kd) (u:U),ks[j]? =some k->us[j]? =some u->KdU AF k u
theorem RI:∀{ks:List Kd} {x:Nat} {cs:List Value},AB T n ρ m w (Nn x ks) cs->∀(j:Nat) (k:Kd),ks[j]? =some k->KdU AF k (T (x+j))
 |[],_,_,_,j,k,hj=>by simp at hj
 |k0::ks,x,cs,⟨u,us,_,h1,h2⟩,j,k,hj=>by
  cases j with
  |zero=>simp at hj;subst hj;exact bI h1
  |succ j=>
   have:=RI h2 j k (by simpa using hj);rw[show x+(j+1)=x+1+j by omega];exact this
theorem HT:∀{sh:List TE} {x:Nat} {vs:List Value},AB T n ρ m w (EO x sh) vs->∀(j:Nat) (k:Kd),(C0 sh)[j]? =some k->KdU AF k (T (x+j))
 |[],_,_,_,j,k,hj=>by simp[C0] at hj
 | .one k0::r,x,vs,⟨u,us,_,h1,h2⟩,j,k,hj=>by
  simp only[C0] at hj;cases j with
  |zero=>simp at hj;subst hj;exact bI h1
  |succ j=>
   have:=HT h2 j k (by simpa using hj);rw[show x+(j+1)=x+1+j by omega];exact this
 | .agg ks::r,x,vs,⟨u,us,_,h1,h2⟩,j,k,hj=>by
  simp only[C0] at hj;rw[List.getElem?_append] at hj;split at hj
  .obtain⟨cs,_,h3⟩:=h1;exact RI h3 j k hj
  .rename_i hge;have:=HT h2 (j - ks.length) k hj;rw[show x+ks.length+(j - ks.length)=x+j by omega] at this;exact this
 | .ptr j0 off::r,x,vs,⟨u,us,_,h1,h2⟩,j,k,hj=>HT h2 j k hj
 | .cst _::r,x,vs,⟨u,us,_,h1,h2⟩,j,k,hj=>HT h2 j k hj
theorem XP:∀{bs:List (List Kd × TypeId)} {x i0:Nat},(∀i,i < bs.length->BB T n ρ m w (i0+i) ((Ha x bs).at i))->∀(j:Nat) (k:Kd),(NN bs)[j]? =some k->KdU AF k (T (x+j))
 |[],_,_,_,j,k,hj=>by simp[NN] at hj
 |(ks,e)::r,x,i0,hb,j,k,hj=>by
  have e1:NN ((ks,e)::r)=ks++NN r:=rfl;rw[e1,List.getElem?_append] at hj;split at hj
  .obtain⟨b,vs,_,_,h3⟩:=hb 0 (by simp);exact RI h3 j k hj
  .rename_i hge;have:=XP (bs:=r) (x:=x+ks.length) (i0:=i0+1) (fun i hi=>by
    have:=hb (i+1) (by simpa using hi);rw[show i0+(i+1)=i0+1+i by omega] at this;simpa [Ha,Mem.at] using this) (j - ks.length) k hj
   rw[show x+ks.length+(j - ks.length)=x+j by omega] at this;exact this
end
def QZ (nh nm:Nat)(rs:List Rf)(mh m:Mem)(h c:AC):Option (List Pr):=
 match h,c with
 | .agg l,.agg l'=>JZ nh nm rs mh m l l'
 |h,c=>JY nh nm rs mh m h c
def Io (nh nm:Nat)(rs:List Rf)(mh m:Mem):List AC->List AC->Option (List Pr)
 |[],[]=>some []
 |h::l,c::l'=>L9 (QZ nh nm rs mh m h c) (Io nh nm rs mh m l l')
 |_,_=>none
def Ko (nh nm:Nat)(rs:List Rf)(mh m:Mem)(h c:AC):Option (List Pr):=
 match h,c with
 | .tup l,.tup l'=>Io nh nm rs mh m l l'
 |h,c=>QZ nh nm rs mh m h c
section
variable {T1 T2:Tab}{ρ :Nat->Option Nat}{m mh:Mem}{w:World}{nh n1 n2:Nat}{rs:List Rf}
theorem SF (M:HI T1 T2 ρ m mh w nh mh.length)(hn:nh<=n2)(H:EF T1 T2 nh n2 rs)(S:DW T1 T2 nh mh m){h c:AC}{ps:List Pr}(hm:QZ nh mh.length rs mh m h c=some ps)(hps:∀p∈ps,p.holds T1){v:Value}
  (hv:AA T1 n1 ρ m w c v):AA T2 n2 ρ mh w h v:=by
 unfold QZ at hm;split at hm
 .obtain⟨vs,e,h1⟩:=hv;exact⟨vs,e,Mq M hn H S hm hps vs h1⟩
 .exact J0 hm M hn H S hps hv
theorem QM (M:HI T1 T2 ρ m mh w nh mh.length)(hn:nh<=n2)(H:EF T1 T2 nh n2 rs)(S:DW T1 T2 nh mh m):∀{l l':List AC} {ps:List Pr},Io nh mh.length rs mh m l l'=some ps->(∀p∈ps,p.holds T1)->
  ∀vs,AB T1 n1 ρ m w l' vs->AB T2 n2 ρ mh w l vs
 |[],[],ps,_,_,vs,h=>h
 |[],_::_,ps,h,_,_,_=>by simp[Io] at h
 |_::_,[],ps,h,_,_,_=>by simp[Io] at h
 |a::l,c::l',ps,h,hps,vs,⟨u,us,h1,h2,h3⟩=>by
  simp only[Io] at h;obtain⟨ps1,ps2,e1,e2,rfl⟩:=Eh h;exact⟨u,us,h1,SF M hn H S e1 (fun p hp=>hps p (wH _ hp)) h2,QM M hn H S e2 (fun p hp=>hps p (wB _ hp)) us h3⟩
theorem bq (M:HI T1 T2 ρ m mh w nh mh.length)(hn:nh<=n2)(H:EF T1 T2 nh n2 rs)(S:DW T1 T2 nh mh m){h c:AC}{ps:List Pr}(hm:Ko nh mh.length rs mh m h c=some ps)(hps:∀p∈ps,p.holds T1){v:Value}
  (hv:AA T1 n1 ρ m w c v):AA T2 n2 ρ mh w h v:=by
 unfold Ko at hm;split at hm
 .obtain⟨vs,e,h1⟩:=hv;exact⟨vs,e,QM M hn H S hm hps vs h1⟩
 .exact SF M hn H S hm hps hv
end
def VK (t:AV)(rs:List Rf)(c0:AC)(m0:Mem)(g0:G):Option (List Pr):=
 if KM t.n g0&&Nat.beq rs.length t.outs.length&&Nat.ble t.m.length t.m'.length then
  L9 (FW [] t.n t.m'.length rs t.m' m0 t.m' m0) (Ko t.n t.m'.length rs t.m' m0 t.c c0)
 else none
theorem W7 {t:AV}{T:Tab}{us:List U}{ρ :Nat->Option Nat}{w:World}{vs:List Value}(hlow:∀j u,us[j]? =some u->T j=u)(hvs:AB T t.n ρ t.m w t.args vs)(hmem:AD T t.n ρ t.m w):LC t.ks us:=fun j k u hk hu=>by
 have hTj:=hlow j u hu;rw[<-hTj];cases hrow:t.row with
 |none=>
  have ha:t.args=EO 0 t.sh:=by unfold AV.args;rw[hrow]
  have hmm:t.m=Ha (C0 t.sh).length t.blks:=by unfold AV.m;rw[hrow]
  rw[ha] at hvs;rw[hmm] at hmem;unfold AV.ks at hk;rw[hrow,List.getElem?_append] at hk;split at hk
  .have:=HT hvs j k hk;rw[v8] at this;exact this
  .rename_i hge;have:=XP (bs:=t.blks) (x:=(C0 t.sh).length) (i0:=0) (fun i hi=>by rw[v8];exact hmem.blk i) (j - (C0 t.sh).length) k hk;rw[show (C0 t.sh).length+(j - (C0 t.sh).length)=j by omega] at this;exact this
 |some ke=>
  obtain⟨ks0,e0⟩:=ke;have ha:t.args= .mr 0 1::EO 2 t.sh:=by unfold AV.args;rw[hrow]
  have hmm:t.m=[.mrow 0 1 ks0 e0]:=by unfold AV.m;rw[hrow]
  rw[ha] at hvs;rw[hmm] at hmem;have hbk:BB T t.n ρ [.mrow 0 1 ks0 e0] w 0 (.mrow 0 1 ks0 e0):=hmem.blk 0;obtain⟨_,l,h1,h2,h3,h4⟩:=hbk;obtain⟨u0',us',_,_,hvs⟩:=hvs;unfold AV.ks at hk;rw[hrow] at hk
  match j,hk with
  |0,hk=>
   cases hk;rw[h1];refine⟨l,rfl,h3.1,fun i us hi=>?_⟩;rcases h4 with⟨_,rfl⟩|⟨b,vs',us2,_,_,h5,_⟩
   .simp at hi
   .obtain⟨vss,_,h6⟩:=h5;obtain⟨cs,_,h7⟩:=h6.getC hi;exact XQ h7
  |1,hk=>
   cases hk;rw[h2];exact⟨l.length,rfl,by omega,by have:=h3.1;omega⟩
  |j+2,hk=>
   have:=HT hvs j k hk;rw[show 2+j=j+2 by omega] at this;exact this
theorem Uj {t:AV}{rs:List Rf}{c0:AC}{m0:Mem}{ps1 ps2:List Pr}{Tx T:Tab}{us:List U}(hm1:FW [] t.n t.m'.length rs t.m' m0 t.m' m0=some ps1)(hm2:Ko t.n t.m'.length rs t.m' m0 t.c c0=some ps2)(hrl:rs.length=t.outs.length)(hne:∀id,id < t.m.length->t.m'.at id≠ .pad)
  (hlt:∀x,x < t.n->Tx x=T x) (r1:Tx.fr=T.fr) (r2:Tx.lp=T.lp) (hul:us.length=t.n) (hT:∀j u,(t.us us)[j]? =some u->T j=u) (hps:∀p∈ps1++ps2,p.holds Tx) (hrs:rs.map (Rf.eval Tx)=t.outs.map fun o=>o.2 us)
  {ρ ρ':Nat->Option Nat} {w w':World} {v:Value} {nx:Nat} (hm':AD Tx t.n ρ t.m w) (q1:AE Tx t.n ρ t.m w ρ' m0 w') (q2:AD Tx nx ρ' m0 w') (q3:AA Tx nx ρ' m0 w' c0 v):
  AE T t.n ρ t.m w ρ' t.m' w'/\AD T (t.n+t.outs.length) ρ' t.m' w'/\AA T (t.n+t.outs.length) ρ' t.m' w' t.c v:=by
 have H:EF Tx T t.n (t.n+t.outs.length) rs:=fun j r hj=>by
  have hjl:=(vu.1 hj).1;refine⟨by omega,?_⟩;have h1:(rs.map (Rf.eval Tx))[j]? =some (r.eval Tx):=by simp[hj]
  rw[hrs] at h1;exact hT (t.n+j) _ (by
   unfold AV.us;rw[wF (by omega),hul,show t.n+j - t.n=j by omega];exact h1)
 obtain⟨Sh,hpad⟩:=MN (T1:=Tx) (T2:=T) hm1 H;have heq:∀x,x < t.n->T x=Tx x:=fun x hx=>(hlt x hx).symm;have hne':∀id,t.m.at id≠ .pad->t.m'.at id≠ .pad:=fun id h=>by
  rcases wD id t.m.length with hl|hl
  .exact hne id hl
  .exact absurd (Mem.at_ge hl) h
 have hnk:t.n<=t.n+t.outs.length:=Nat.le_add_right _ _;have M:HI Tx T ρ' m0 t.m' w' t.n t.m'.length:=Sh.move hpad heq r1.symm;refine⟨AE.matched Sh heq (vr _) hm' hne' q1,?_,bq M hnk H Sh hm2 (fun p hp=>hps p (wB _ hp)) q3⟩;have hmatch:Do [] t.n rs ⟨⟨0,[],.nil⟩,t.m'⟩ ⟨⟨0,[],.nil⟩,m0⟩=some (ps1++[]):=by
  simp only[Do,Ir,List.isEmpty_nil,Bool.true_and,(DD 0 0).2 rfl,if_true];rw[hm1];rfl
 have hR:Rel (Tx.atBase 0) nx ρ' ⟨⟨0,[],.nil⟩,m0⟩ { tmps:= #[],defers:=[] } w':=⟨Co.nil _ _ _ (wX _),rfl,(fun i c hc=>by simp[AO.get,A6,Tr.get] at hc),q2.tab (Hc _ 0 _)⟩;obtain⟨z1,_,_⟩:=Fi (T1:=Tx.atBase 0) (T2:=T.atBase 0) hmatch (fun p hp=>by cases hp) r1.symm r2.symm rfl heq hnk H (fun p hp=>RZ.2 (hps p (by rw[List.append_nil] at hp;exact wH _ hp))) hR;exact z1.mem.tab (Hc T 0 _).symm
theorem Wv {P:Program}{f:FuncId}{t:AV}{cf:Ak}(hcf:∀T,CS P T cf)
  {c0:AC} {m0:Mem} {g0:G} {rs:List Rf} {ps:List Pr} (hrun:cf Ys.none f t.args none t.m { n:=t.n,eqs:=[],obs:=[] }=some (c0,m0,g0)) (hok:VK t rs c0 m0 g0=some ps)
  (hne:∀id,id < t.m.length->t.m'.at id≠ .pad)
  (hplain:∀(T:Tab) (us:List U),us.length=t.n->LC t.ks us->(∀p∈t.pre,p.2 us)->(∀j u,us[j]? =some u->T j=u)->(∀p∈g0.eqs,T p.1=p.2.eval T)->AY T g0/\(∀p∈ps,p.holds T)/\rs.map (Rf.eval T)=t.outs.map fun o=>o.2 us):Ae P f t:=by
 refine⟨fun s=>(Es g0.lps s).getD Oj,fun T us hlp hul hT hpre ρ w vs hvs hmem=>?_⟩;unfold VK at hok;split at hok
 .rename_i hc;simp only[vo] at hc;obtain⟨⟨hc1,hc2⟩,hc3⟩:=hc;obtain⟨ps1,ps2,hm1,hm2,rfl⟩:=Eh hok;unfold KM at hc1;rw[vo] at hc1;have hrl:=vp hc2;obtain⟨r1,r2,r3⟩:=EE g0.eqs T;have hout:=(B6 (T:=T) hc1.1).2.2;have hlt:∀x,x < t.n->BI T g0.eqs x=T x:=fun x hx=>hout x (.inl hx);have hlow:∀j u,us[j]? =some u->T j=u:=fun j u hj=>hT j u (by unfold AV.us;rw[wE (vu.1 hj).1];exact hj);have S:Bp T (BI T g0.eqs) t.n:=⟨hlt,r1,r2⟩;have hA:Agr (BI T g0.eqs) g0:=⟨fun p hp=>D4 (fv:=[]) (nh:=0) (fun x hx=>by cases hx) (wX _) hc1.1 p hp,fun p hp=>by
   rw[r2,hlp];show (Es g0.lps p.1).getD Oj=p.2;rw[NK hc1.2 p hp];rfl⟩
  have hin:LC t.ks us:=W7 hlow hvs hmem;obtain⟨hob,hps,hrs⟩:=hplain (BI T g0.eqs) us hul hin hpre (fun j u hj=>by
   have:=(vu.1 hj).1;rw[hlt j (by omega)];exact hlow j u hj) hA.eqs
  obtain⟨_,hsound⟩:=hcf (BI T g0.eqs) Ys.none f t.args none t.m _ c0 m0 g0 (fun T' _ s y hy=>by cases hy) hrun;have hm':=hmem.tab S;obtain⟨hfn,hcalls⟩:=hsound hA hob trivial trivial ρ w vs (AB.tab S (fun b off h=>S.safe hmem h) _ _ hvs) hm';refine⟨hfn,hcalls.mono fun e w' hh=>?_⟩;obtain⟨v, ρ',rfl,q1,q2,q3⟩:=hh;exact⟨v, ρ',rfl,Uj hm1 hm2 hrl hne hlt r1 r2 hul hT hps hrs hm' q1 q2 q3⟩
 .cases hok
end
section
open Go Go.RowKit
def Ux (t:AV):Ak:=fun _ _ as pc ma g=>
 match t.row,as,t.outs,t.m',t.c with
 |some (ks,e),.mr id y::as,[(tg,F)],[.mrow xo yo kso eo],.tup []=>
  match ma.at id with
  | .mrow x y' ks' e'=>
   match Gc [] (EO 2 t.sh) as with
   |some (prs,ps)=>
    if (Nat.beq y y'&&Nat.beq e e'&&Nat.beq eo e&&Nat.beq xo t.n&&Nat.beq yo 1)&&(Nat.beq ks'.length ks.length&&Kd.beqs (Kd.joins ks' ks) ks)&&De (0::1::prs.map (·.1)) (List.range t.n) then
     some (.tup [],ma.set id (.mrow g.n y kso e),(g.needAll pc (ps++t.pre.map fun p=>⟨p.1,p.2,.e x:: .e y::prs.map (·.2)⟩)).pushAll [⟨tg,F,.e x:: .e y::prs.map (·.2)⟩])
    else none
   |none=>none
  |_=>none
 |_,_,_,_,_=>none
theorem Zt {P:Program}{f:FuncId}{t:AV}(ht:Ae P f t):∀(T:Tab) (ys:Ys) (args:List AC) (pc:PC) (ma:Mem) (g:G) (c':AC) (mo:Mem) (g':G),Ux t ys f args pc ma g=some (c',mo,g')->
  AR g g'/\(Agr T g'->AY T g'->pcv T pc->A8 T g pc->∀ ρ w vs,AB T g.n ρ ma w args vs->AD T g.n ρ ma w->
   (∃fn,P.funcs[f]? =some fn/\fn.body.isSome=true/\(fn.name== "runtime.NumGoroutine")=false)/\Calls P f (vs:List Value).toArray w (Ed T g ρ ma w c' mo g')):=by
 intro T ys args pc ma g c' mo g' hap;obtain⟨lp0,ht⟩:=ht;unfold Ux at hap;split at hap
 .rename_i _ ks e id y as tg F xo yo kso eo hrow houts hm'0 hc0;split at hap
  .rename_i x y' ks' e' hid;split at hap
   .rename_i prs ps hb;split at hap
    .rename_i hc;simp only[vo] at hc;obtain⟨⟨⟨⟨⟨⟨b1,b2⟩,b3⟩,b4⟩,b5⟩,⟨b6,b7⟩⟩,b8⟩:=hc;have b1:=vp b1;subst b1;have b2:=vp b2;subst b2;have b3:=vp b3;subst b3;have b4:=vp b4;subst b4;have b5:=vp b5;subst b5;have b6:=vp b6;have b7:=Kd.beqs_eq _ _ b7;have hfst:=IR b8;simp only[Option.some.injEq,Prod.mk.injEq] at hap;obtain⟨e1,e2,e3⟩:=hap;generalize hrs:(Rf.e x::Rf.e y::prs.map (·.2))=rs at e2 e3;generalize hg1:g.needAll pc (ps++t.pre.map fun p=>(⟨p.1,p.2,rs⟩:Pr))=g1 at e3;have n1:g1.n=g.n:=by rw[<-hg1];exact (Cn _ _ _).1
     have gr1:AR g g1:=by rw[<-hg1];exact AR.need _ _ _
     have gr2:AR g1 g':=by rw[<-e3];exact AR.push _ _
     refine⟨gr1.trans gr2,fun hA hob hpc hpk ρ w vs hvs hm=>?_⟩;have hgn':g'.n=g.n+1:=by rw[<-e3,BQ,n1];rfl
     have hnew:New T g1.n [⟨tg,F,rs⟩]:=by rw[<-e3] at hA;exact hA.new
     have hps:∀p∈ps++t.pre.map fun p=>(⟨p.1,p.2,rs⟩:Pr),p.holds T:=by
      have:=hob.of gr2;rw[<-hg1] at this;exact AY.need this hpc
     have hta:t.args= .mr 0 1::EO 2 t.sh:=by unfold AV.args;rw[hrow]
     have htm:t.m=[.mrow 0 1 ks eo]:=by unfold AV.m;rw[hrow]
     have hplen:prs.length+2=t.n:=by have:=congrArg List.length hfst;simpa using this
     have hrl:rs.length=t.n:=by rw[<-hrs];simpa using hplen
     have hn2:2<=t.n:=by omega
     have hprs:∀p∈prs,p.1 < t.n/\rs[p.1]? =some p.2:=fun p hp=>by
      obtain⟨i,hi⟩:=wP.1 hp;have h1:(0::1::prs.map (·.1))[i+2]? =some p.1:=by simp[hi]
      rw[hfst] at h1;obtain⟨h2,h3⟩:=vu.1 h1;simp at h2 h3;rw[<-h3];exact⟨h2,by rw[<-hrs];simp[hi]⟩
     let us:=rs.map (Rf.eval T);have husl:us.length=t.n:=by simp[us,hrl]
     let T2:Tab:=⟨fun x=>(t.us us).getD x default,fun b off=>w.heap.size<=b\/AS T ρ ma w b off\/ ρ id=some b,lp0,0⟩;have hT2:∀j u,(t.us us)[j]? =some u->T2 j=u:=fun j u hj=>by
      show (t.us us).getD j default=u;simp[List.getD,hj]
     have hT2o:∀x r,rs[x]? =some r->T2 x=r.eval T:=fun x r hx=>hT2 x _ (by
      unfold AV.us;have hxl:=(vu.1 hx).1;rw[wE (by omega)];simp[us,hx])
     have hT0:T2 0=T x:=hT2o 0 (.e x) (by rw[<-hrs];rfl);have hT1:T2 1=T y:=hT2o 1 (.e y) (by rw[<-hrs];rfl);have hTn:T2 t.n=T g.n:=by
      have h1:=hT2 t.n (F us) (by
       unfold AV.us;rw[wF (by omega),husl,houts];simp)
      have h2:=hnew.head;rw[n1] at h2;rw[h1,h2];rfl
     obtain⟨v0,vs0,rfl,hv0,hvs0⟩:=hvs;have hbk:=hm.blk id;rw[hid] at hbk;obtain⟨⟨hx,hy⟩,l,hTx,hTy,⟨hmax,hne⟩,hrow4⟩:=hbk;let ρ2:Nat->Option Nat:=fun j=>if j=0 then ρ id else none
     have hsafe:∀b off,AS T ρ ma w b off->AS T2 ρ2 [.mrow 0 1 ks eo] w b off:=fun b off hs=>⟨hs.1,.inr (.inl hs),fun j=>by
      match j with
      |0=>
       have:=hs.2.2 id;rw[hid] at this;exact this
      |j+1=>trivial⟩
     have hkne:ks≠[]:=fun h=>hne (List.length_eq_zero_iff.1 (by rw[b6,h];rfl));have hmem2:AD T2 t.n ρ2 [.mrow 0 1 ks eo] w:=by
      refine⟨fun j=>?_,fun j j' b h1 h2 h3 h4=>?_,fun b off hb=> .inl hb⟩
      .match j with
       |0=>
        refine⟨⟨by omega,by omega⟩,l,by rw[hT0];exact hTx,by rw[hT1];exact hTy,⟨hmax,hkne⟩,?_⟩;rcases hrow4 with⟨h1,h2⟩|⟨b,vs1,us1,h1,h2,h3,h4⟩
        .exact .inl ⟨h1,h2⟩
        .refine .inr ⟨b,vs1,us1,h1,h2,?_,fun off=> .inr (.inr h1)⟩;obtain⟨vss,q1,q2⟩:=AU.mono (fun b off h=>⟨hsafe b off h,rfl⟩) h3;refine⟨vss,q1,q2.conv fun us vs hc=>?_⟩;have:=AJ.join_l (ks':=ks) b6 hc;rwa [b7] at this
       |j+1=>trivial
      .have z:∀j,(Mem.at [.mrow 0 1 ks eo] j).tracked=true->j=0:=fun j h=>by
        match j with
        |0=>rfl
        |j+1=>cases h
       rw[z j h1,z j' h2]
     have M:VU T T2 ρ ρ2 ma [.mrow 0 1 ks eo] w []:=⟨hsafe,fun j id hj=>by cases hj⟩;have hvals:∀p∈prs,p.1 < t.n/\T2 p.1=p.2.eval T:=fun p hp=>⟨(hprs p hp).1,hT2o _ _ (hprs p hp).2⟩;obtain⟨hargs2,_⟩:=G7 (n:=t.n) M (EO 2 t.sh) as hb hvals (fun p hp=>hps p (wH _ hp)) hvs0;have hv2:AA T2 t.n ρ2 [.mrow 0 1 ks eo] w (.mr 0 1) v0:=by
      obtain⟨_,j,a,cap,q1,q2,q3,q4,q5⟩:=hv0;refine⟨⟨by omega,fun h=>by cases h⟩,j,a,cap,by rw[hT1];exact q1,q2,q3,q4,fun x2 ks2 e2 he=>?_⟩;cases he;rcases q5 _ _ _ hid with q|⟨b,vs1,z1,z2,z3,z4⟩
      .exact .inl q
      .exact .inr ⟨b,vs1,z1,z2,z3,by rw[<-b6];exact z4⟩
     have hpre:∀p∈t.pre,p.2 us:=fun p hp=>hps ⟨p.1,p.2,rs⟩ (wB _ (List.mem_map.2 ⟨p,hp,rfl⟩));obtain⟨hfn,hcalls⟩:=ht T2 us rfl husl hT2 hpre ρ2 w (v0::vs0) (by rw[hta,htm];exact⟨v0,vs0,rfl,hv2,hargs2⟩) (by rw[htm];exact hmem2);refine⟨hfn,hcalls.mono fun ex w' hh=>?_⟩;obtain⟨v, ρ2',rfl,S2,M2,H2⟩:=hh;rw[htm,hm'0] at S2;rw[hm'0] at M2 H2;rw[hc0] at H2;obtain⟨vs',rfl,hvs'⟩:=H2;have hvs':vs'=[]:=hvs';subst hvs';obtain⟨hlen,hρ,hsz⟩:kso.length=ks.length/\ ρ2' 0= ρ id/\∀b vs, ρ id=some b->w.heap[b]? =some (.cells vs eo (0,0))->∃vs',w'.heap[b]? =some (.cells vs' eo (0,0))/\vs'.size=vs.size:=by
      rcases S2.row 0 0 1 ks eo rfl with h|⟨x',y',ks2,h1,h2,h3⟩
      .cases h
      .cases h1;rcases h3 with⟨_,h4,h5⟩|⟨h4,_⟩
       .exact⟨h2,h4,h5⟩
       .omega
     have hbk2:BB T2 (t.n+t.outs.length) ρ2' [.mrow t.n 1 kso eo] w' 0 (.mrow t.n 1 kso eo):=M2.blk 0;obtain⟨_,l',q1,q2,⟨q3,q4⟩,q5⟩:=hbk2;rw[hTn] at q1;rw[hT1] at q2;have hpad:ma.at id≠ .pad:=by rw[hid];exact fun h=>by cases h
     have hat:=fun j=>DI ma id (.mrow g.n y kso eo) j hpad;have htr:(ma.at id).tracked=true:=by rw[hid];rfl
     have keep:∀j b,(ma.at j).tracked=true->j≠id-> ρ j=some b->w'.heap[b]? =w.heap[b]? :=fun j b ht hj hr=>by
      refine S2.old b (hm.lt ht hr) fun j' ht' he=>?_
      match j' with
      |0=>exact hj (hm.inj j id b ht htr hr he)
      |j'+1=>cases ht'
     have hst:AE T g.n ρ ma w ρ (ma.set id (.mrow g.n y kso eo)) w':={
      os:=S2.os
      tape:=S2.tape
      output:=S2.output
      size:=S2.size
      mlen:=fun j h=>by rw[hat j];split<;>first|exact (fun h=>by cases h)|exact h
      rho:=fun j h=>by
       have hj:j≠id:=fun e=>by rw[e,hid] at h;cases h
       rw[hat j,if_neg hj];exact⟨rfl,h⟩
      untr:=fun j h ht=>by
       rw[hat j] at ht;split at ht
       .rename_i he;rw[he];exact htr
       .exact ht
      fresh:=fun j c h ht hr=>by
       rw[hat j] at ht;split at ht
       .rename_i he;rw[he] at h;exact absurd h hpad
       .rw[h] at ht;cases ht
      old:=fun k hk hno=>S2.old k hk fun j' ht' he=>by
       match j' with
       |0=>exact hno id htr he
       |j'+1=>cases ht'
      tok:=fun j x2 ks2 e2 h=>by
       have hj:j≠id:=fun e=>by rw[e,hid] at h;cases h
       exact .inl ⟨by rw[hat j,if_neg hj];exact h,rfl,fun b hb=>keep j b (by rw[h];rfl) hj hb⟩
      row:=fun j x2 y2 ks2 e2 h=>by
       by_cases hj:j=id
       .subst hj;rw[hid] at h;cases h;exact .inr ⟨g.n,y,kso,by rw[hat j,if_pos rfl],by rw[hlen,b6],.inl ⟨rfl,rfl,fun b vs hb hv=>hsz b vs hb hv⟩⟩
       .exact .inr ⟨x2,y2,ks2,by rw[hat j,if_neg hj];exact h,rfl,.inl ⟨rfl,rfl,fun b vs hb hv=>⟨vs,by rw[keep j b (by rw[h];rfl) hj hb];exact hv,rfl⟩⟩⟩ }
     have hmo:AD T g'.n ρ (ma.set id (.mrow g.n y kso eo)) w':=by
      refine⟨fun j=>?_,fun j j' c ht ht' h1 h2=>?_,fun b off h=>hm.fr b off (wI S2.size h)⟩
      .by_cases hj:j=id
       .subst hj;rw[hat j,if_pos rfl];refine⟨⟨by omega,by omega⟩,l',q1,q2,⟨q3,q4⟩,?_⟩;rcases q5 with⟨z1,z2⟩|⟨b,vs1,us1,z1,z2,z3,_⟩
        .exact .inl ⟨by rw[<-hρ];exact z1,z2⟩
        .rw[hρ] at z1;have hfrb:∀off,T.fr b off:=by
          rcases hrow4 with⟨h1,_⟩|⟨b',_,_,h1,_,_,h4⟩
          .rw[h1] at z1;cases z1
          .rw[h1] at z1;cases z1;exact h4
         refine .inr ⟨b,vs1,us1,z1,z2,AU.mono (fun b2 off h=>⟨?_,rfl⟩) z3,hfrb⟩;rcases h.2.1 with h1|h1|h1
         .refine⟨h.1,hm.fr b2 off h1,fun k=>?_⟩;have no:(Mem.at (ma.set j (.mrow g.n y kso eo)) k).tracked=true-> ρ k≠some b2:=fun ht he=>by
           have:(ma.at k).tracked=true:=by
            rw[hat k] at ht;split at ht
            .rename_i he;rw[he];exact htr
            .exact ht
           have:=hm.lt this he;omega
          cases hx:Mem.at (ma.set j (.mrow g.n y kso eo)) k<;>rw[hx] at no<;>first|trivial|exact no rfl|exact fun he=>absurd he (no rfl)
         .exact (hst.safe0 h1).1
         .have:=h.2.2 0;exact absurd (by rw[hρ];exact h1) this
       .by_cases ht:(ma.at j).tracked=true
        .exact BB.step hst hm (by omega) (by rw[hat j,if_neg hj]) rfl (fun b hb=>keep j b ht hj hb)
        .rw[hat j,if_neg hj];cases hx:ma.at j with
         |pad=>trivial
         |gone=>trivial
         |cells=>rw[hx] at ht;exact absurd rfl ht
         |lp=>rw[hx] at ht;exact absurd rfl ht
         |tok=>rw[hx] at ht;exact absurd rfl ht
         |mrow=>rw[hx] at ht;exact absurd rfl ht
         |mapb=>rw[hx] at ht;exact absurd rfl ht
      .have tr:∀k,(Mem.at (ma.set id (.mrow g.n y kso eo)) k).tracked=true->(ma.at k).tracked=true:=fun k hk=>by
        rw[hat k] at hk;split at hk
        .rename_i he;rw[he];exact htr
        .exact hk
       exact hm.inj j j' c (tr j ht) (tr j' ht') h1 h2
     refine⟨_, ρ,rfl,by rw[<-e2];exact hst,by rw[<-e2];exact hmo,by rw[<-e1];exact⟨[],rfl,rfl⟩⟩
    .cases hap
   .cases hap
  .cases hap
 .cases hap
def UL (t:AV):Ak:=match t.row with|none=>Uq t|some _=>Ux t
theorem Zx {P:Program}{f:FuncId}{t:AV}(ht:Ae P f t)(T:Tab)(ys:Ys)(args:List AC)(pc:PC)(ma:Mem)(g:G)(c':AC)(mo:Mem)(g':G)(h:UL t ys f args pc ma g=some (c',mo,g')):
  AR g g'/\(Agr T g'->AY T g'->pcv T pc->A8 T g pc->∀ ρ w vs,AB T g.n ρ ma w args vs->AD T g.n ρ ma w->
   (∃fn,P.funcs[f]? =some fn/\fn.body.isSome=true/\(fn.name== "runtime.NumGoroutine")=false)/\Calls P f (vs:List Value).toArray w (Ed T g ρ ma w c' mo g')):=by
 unfold UL at h;cases hr:t.row with
 |none=>rw[hr] at h;exact Z4 ht T ys args pc ma g c' mo g' h
 |some _=>rw[hr] at h;exact Zt ht T ys args pc ma g c' mo g' h
def Jy:List (FuncId × AV)->FuncId->Option Ak
 |[],_=>none
 |(f,t)::r,k=>if Nat.beq f k then some (UL t) else Jy r k
theorem LU {P:Program}:∀{l:List (FuncId × AV)},(∀p∈l,Ae P p.1 p.2)->∀f c,Jy l f=some c->∀T,∀ys k args pc m g c' m' g',k=f->CL P T.lp ys->c ys k args pc m g=some (c',m',g')->AR g g'/\(Agr T g'->AY T g'->pcv T pc->A8 T g pc->∀ ρ w vs,AB T g.n ρ m w args vs->AD T g.n ρ m w->
  (∃fn,P.funcs[k]? =some fn/\fn.body.isSome=true/\(fn.name== "runtime.NumGoroutine")=false)/\Calls P k (vs:List Value).toArray w (Ed T g ρ m w c' m' g'))
 |[],_,f,c,h=>by simp[Jy] at h
 |(f0,t)::r,hl,f,c,h=>by
  simp only[Jy] at h;split at h
  .rename_i hb;cases h;have e:=vp hb;subst e;intro T ys k args pc m g c' m' g' hk _ hap;subst hk;exact Zx (hl (k,t) (wA ..)) T ys args pc m g c' m' g' hap
  .exact LU (fun p hp=>hl p (vz _ hp)) f c h
section
variable {P:Program}{w:World}{B:Nat}
theorem gx {H:Type}{enc:TypeId × Value->H}{sp:Nat->Bool}{held:Bool}{base:Nat}(hB:B<=AF)(hm:P.follows .mixedOrders=true){l:List (FuncId × AV)}(hl:∀p∈l,Ae P p.1 p.2){AW:FuncId->C2}{fuel depth dd:Nat}{f:FuncId}{ts:List TypeId}{as:List AC}{ks:List Kd}{c:AC}{m':Mem}{g':G}
  (hargs:Fd P dd ts 0=some (as,ks)) (hrun:EQ P (Jy l) AW fuel depth Ys.none f as none [] { n:=ks.length,eqs:=[],obs:=[] }=some (c,m',g')) (hchk:KM ks.length g'=true)
  (hplain:∀(T:Tab) (us:List U),AT B ks us->us.length=ks.length->(∀j u,us[j]? =some u->T j=u)->(∀p∈g'.eqs,T p.1=p.2.eval T)->AY T g'/\jH T c)
  {vs:List Value} {ds:List (DataW H)} {ps:List MemPlace} (ht:DataW.TrodAll enc P w 0 sp held ts vs ds ps) (hv:∀(j:Nat) t v,ts[j]? =some t->vs[j]? =some v->Value.okWide P w .any base t v) (hs:∀d∈ds,Cv B d):
  Calls P f (vs:List Value).toArray w fun e W'=>e= .returned (.bool true)/\Below w.heap.size w W':=by
 obtain⟨us,u1,u2,u3⟩:=XO hB ts hargs ht hv hs;unfold KM at hchk;rw[vo] at hchk;generalize hT:BI (Ur g'.lps us) g'.eqs=T;obtain⟨r1,r2,r3⟩:=EE g'.eqs (Ur g'.lps us);rw[hT] at r1 r2 r3;have hlow:∀j u,us[j]? =some u->T (0+j)=u:=fun j u hj=>by
  have hjl:=(vu.1 hj).1;rw[v8,<-hT,(B6 hchk.1).2.2 j (.inl (by omega))];show us.getD j default=u;simp[List.getD,hj]
 have hA:Agr T g':=by
  refine⟨fun p hp=>?_,fun p hp=>?_⟩
  .rw[<-hT];exact D4 (fv:=[]) (nh:=0) (fun x hx=>by cases hx) (wX _) hchk.1 p hp
  .rw[r2];show (Es g'.lps p.1).getD Oj=p.2;rw[NK hchk.2 p hp];rfl
 obtain⟨p1,p2⟩:=hplain T us u1 u2 (fun j u hj=>by have:=hlow j u hj;rw[v8] at this;exact this) hA.eqs;have hsafe:∀b off,b < w.heap.size->AS T (fun _=>none) [] w b off:=fun b off hb=>⟨hb,by rw[r1];trivial,fun id=>trivial⟩;have hmem:AD T ks.length (fun _=>none) [] w:=⟨fun id=>trivial,(fun id id' b h=>by cases h),fun b off _=>by rw[r1];trivial⟩;obtain⟨_,hsound⟩:=Js (AW:=AW) (fuel:=fuel) hm (LU hl) depth T Ys.none f as none [] _ c m' g' (fun T' _ s y hy=>by cases hy) hrun;obtain⟨_,hc⟩:=hsound hA p1 trivial trivial (fun _=>none) w vs (u3 T _ hsafe hlow ks.length (by omega)) hmem;refine hc.mono fun e W' ⟨v, ρ',e1,e2,e3,e4⟩=>?_;refine⟨?_,e2.os,e2.tape,e2.output,e2.size,fun k hk=>e2.old k hk (fun id h=>by cases h)⟩;rw[e1];congr 1;cases c with
 |cb b=>rw[show b=true from p2] at e4;exact e4
 |b x=>
  obtain⟨_,b,h1,h2⟩:=e4;rw[show T x=_ from p2] at h1;cases h1;exact h2
 |nb x=>
  obtain⟨_,b,h1,h2⟩:=e4;rw[show T x=_ from p2] at h1;cases h1;exact h2
 |_=>exact p2.elim
end
theorem MS {H:Type}{enc:TypeId × Value->H}{P:Program}(hl:laidOutB P=true){W W':World}(hb:Below W.heap.size W W'){sp:Nat->Bool}:∀{ts:List TypeId} {vs:List Value} {ds:List (DataW H)} {ps:List MemPlace},
  (∀t∈ts,P.readableRec t=true/\t < P.types.size)->DataW.TrodAll enc P W 0 (fun _=>true) true ts vs ds ps->(∀x∈ps,x.block < W.heap.size)->(∀x∈ps,sp x.block=true)->DataW.TrodAll enc P W' 0 sp true ts vs ds ps
 |[],[],[],_,_,h,_,_=>h
 |t::ts,v::vs,d::ds,ps,ht,⟨p,q,h1,h2,e⟩,hlt,hs=>by
  subst e;obtain⟨r1,r2⟩:=ht t (wA ..);exact⟨p,q,WideElems.Trod_stays hl r1 r2 h1 (fun x hx=>hb.same (hlt x (wH _ hx))) (fun x hx=>hs x (wH _ hx)),
   MS hl hb (fun t h=>ht t (vz _ h)) h2 (fun x hx=>hlt x (wB _ hx)) (fun x hx=>hs x (wB _ hx)),rfl⟩
 |[],_::_,_,_,_,h,_,_=>h.elim
 |[],[],_::_,_,_,h,_,_=>h.elim
 |_::_,[],_,_,_,h,_,_=>h.elim
 |_::_,_::_,[],_,_,h,_,_=>h.elim
end
section
open Go Go.RowKit Go.ChangeShapes Go.WideShapes
theorem cO {H:Type}{enc:TypeId × Value->H}{P:Program}{f:Func}{s:ChangeSpec}{apart fresh handsOn again:Bool}{W W':World}{args:Array Value}{ds gs:List (DataW H)}{before:List MemPlace}{tb:TypeId}
  (hl:laidOutB P=true) (hrec:∀t∈f.params.toList,P.readableRec t=true/\t < P.types.size) (hres:f.resultTypes= #[tb]) (htb:P.underlying tb=some .bool) (hvs:s.vars=[])
  (hfn:s.fn H (ds++gs)={ results:=[.lit (.bool true)],args:=ds })
  (hW:DataW.Whole enc P f.params.toList s.vars apart W args.toList ds gs before) (hb:Below W.heap.size W W'):s.post enc P f apart fresh handsOn again W args (.bool true) W':=by
 have hlt:∀p∈before,p.block < W.heap.size:=hW.lt;have hW0:=hW;obtain⟨p,q,hA,hV,rfl,hz,hn⟩:=hW;have hq:q=[]:=by
  rw[hvs] at hV;cases gs with
  |nil=>exact hV
  |cons=>exact hV.elim
 subst hq;have hold:∀x∈p++[],(fun b=>decide (b < W.heap.size)) x.block=true:=fun x hx=>by simpa using hlt x hx
 have hargs:∀sp:Nat->Bool,(∀x∈p++[],sp x.block=true)->DataW.TrodAll enc P W' 0 sp true f.params.toList args.toList (s.fn H (ds++gs)).args p:=fun sp hsp=>by
  rw[hfn];exact MS hl hb hrec hA (fun x hx=>hlt x (by simp[hx])) (fun x hx=>hsp x (by simp[hx]))
 have hvars:∀sp:Nat->Bool,DataW.TrodVars enc P W' sp s.vars (s.fn H (ds++gs)).vars []:=fun sp=>by rw[hfn,hvs];rfl
 have hr:∀(b:Nat) (sp:Nat->Bool) (hd:Bool),DataW.TrodAll enc P W' b sp hd f.resultTypes.toList ((Value.bool true).resultList f.resultTypes.size) (s.fn H (ds++gs)).results []:=fun b sp hd=>by
  rw[hfn,hres];exact⟨[],[],⟨1,by simp[DataW.trod,htb,Value.cells]⟩,rfl,rfl⟩
 refine⟨ds,gs,p++[],[],p,[],hW0,hr _ _ _,hargs _ hold,hvars _,World.keptBut_mono (fun x hx=>⟨hx,.inr (by simpa using hx)⟩) (hb.frame (· ∈p++[])),fun _=>?_⟩;refine⟨fun j t r h1 h2=>?_,_,_,([]++p)++[],⟨[]++p,[],trodAll_append (hargs _ (fun _ _=>rfl)) (hr _ _ _),hvars _,rfl,?_,?_⟩,?_⟩
 .exact ok_one hres (by rfl) (by simp[Value.okWide,htb,Cell.okWide,Cell.ok]) j t r h1 h2
 .intro b off hp;rw[hb.frozen (hlt _ (by simpa using hp))];exact hz b off (by simpa using hp)
 .intro ha;simpa using hn ha
 .intro x hx _;simpa using hx
end
section
open Go
inductive Ty where
 |i|b|l|r (c:Nat)|s
 deriving DecidableEq
def I (T:Tab)(x:Nat):Int:=(T.get x).toI
def B (T:Tab)(x:Nat):Bool:=(T.get x).toB
def L (T:Tab)(x:Nat):List (List U):=(T.get x).toL
def S (T:Tab)(x:Nat):ByteArray:=(T.get x).toS
def iR (T:Tab)(r:Rf):Int:=(r.eval T).toI
def bR (T:Tab)(r:Rf):Bool:=(r.eval T).toB
def lR (T:Tab)(r:Rf):List (List U):=(r.eval T).toL
def stR (T:Tab)(r:Rf):ByteArray:=(r.eval T).toS
def uR (T:Tab):Ty->Rf->U
 | .i,r=> .int (iR T r)
 | .b,r=> .bool (bR T r)
 | .l,r=> .list (lR T r)
 | .r _,r=>r.eval T
 | .s,r=> .str (stR T r)
theorem qC {T:Tab}{n:Int}:iR T (.c (.int n))=n:=Eq.trans rfl rfl
theorem iR_e {T:Tab}{x:Nat}:iR T (.e x)=I T x:=Eq.trans rfl rfl
theorem pr {T:Tab}{n:Bool}:bR T (.c (.bool n))=n:=Eq.trans rfl rfl
theorem AP {T:Tab}{x:Nat}:bR T (.e x)=B T x:=Eq.trans rfl rfl
theorem bR_n {T:Tab}{x:Nat}:bR T (.n x)= !B T x:=Eq.trans rfl rfl
theorem ru {T:Tab}:lR T (.c (.list []))=[]:=Eq.trans rfl rfl
theorem lR_e {T:Tab}{x:Nat}:lR T (.e x)=L T x:=Eq.trans rfl rfl
theorem jA {T:Tab}{s:ByteArray}:stR T (.c (.str s))=s:=Eq.trans rfl rfl
theorem jB {T:Tab}{x:Nat}:stR T (.e x)=S T x:=Eq.trans rfl rfl
def Nk (T:Tab):List Rf->Int->Int
 |[],_=>0
 |a::l,n=>if n<=0 then iR T a else Nk T l (n - 1)
def Nw (T:Tab):List Rf->Int->Prop
 |[],_=>False
 |a::l,n=>(n<=0/\bR T a=true)\/(¬n<=0/\Nw T l (n - 1))
def Bx (l:List (List U))(i c:Nat):Int:=((l.getD i []).getD c default).toI
def Pq (l:List (List U))(i c:Nat):Bool:=((l.getD i []).getD c default).toB
def Cc (l:List (List U))(i c:Nat):ByteArray:=((l.getD i []).getD c default).toS
def Ct (nk c:Nat)(l:List (List U))(z:U)(k:List U):U:=bif decide (Az nk l k < l.length) then (l.getD (Az nk l k) []).getD (nk+c) default else z
def jD (l:List (List U))(i c:Nat):List (List U):=((l.getD i []).getD c default).toL
inductive Op2 where
 |add|sub|mul|div|mod|tdiv|tmod|min|max
def Op2.f:Op2->Int->Int->Int
 | .add=>ez| .sub=>cU| .mul=>dz| .div=>eP| .mod=>Tm| .tdiv=>QI| .tmod=>Yl| .min=>RT| .max=>RF
inductive Opn where
 |id (t:Ty)|not|and|or|lt|le|eq|ne
 |eqs (ts:List Ty)|nes (ts:List Ty)|eqb|neb
 |ite (t:Ty)|ifb
 |o2 (o:Op2)|w2 (k:IntKind) (o:Op2)|wx (k:IntKind) (o:Op2)|w1 (k:IntKind)|wneg (k:IntKind)|neg|bits (o:BinOp) (k:IntKind)
 |take|drop|sub|slen|sat
 |len|app|get (t:Ty) (c:Nat)|mget (t:Ty) (nk c:Nat) (ts:List Ty)|mhas (nk:Nat) (ts:List Ty)|mset (nk:Nat) (ts:List Ty)|pick (t:Ty)|row (k s:Nat) (ts:List Ty)|rset (c:Nat) (ts:List Ty)|rep (ts:List Ty)
 |outI (tg:String) (f:List U->Int)|outB (tg:String) (f:List U->Bool)|outL (tg:String) (f:List U->List (List U))|outS (tg:String) (f:List U->ByteArray)|res (t:Ty) (D:Ag) (j:Nat)
def tyC:Ty->Nat| .i=>0| .b=>1| .s=>2| .l=>3| .r _=>4
def Bl (f:List U->Int)(us:List U):U:= .int (f us)
def LP (f:List U->Bool)(us:List U):U:= .bool (f us)
def Eg (f:List U->List (List U))(us:List U):U:= .list (f us)
def Xn (f:List U->ByteArray)(us:List U):U:= .str (f us)
def opF:Opn->List U->U
 | .id _=>oId| .not=>RG| .and=>Mp| .or=>oOr| .lt=>oLt| .le=>oLe| .eq=>oEq| .ne=>oNe
 | .eqs _=>Yx| .nes _=>Yd| .eqb=>eV| .neb=>dc
 | .ite _=>oIf| .ifb=>Yu
 | .o2 o=>Go.Eng.o2 o.f| .w2 k o=>He k (Go.Eng.o2 o.f)| .wx k o=>He k (Go.Eng.o2 o.f)| .w1 k=>He k oId| .wneg k=>He k Vc| .neg=>Vc| .bits o k=>Go.Eng.o2 (Cx o k)
 | .take=>L8| .drop=>X3| .sub=>cz| .slen=>Y9| .sat=>ek
 | .len=>Nc| .app=>PA| .get t c=>N8 (tyC t) c| .mget t nk c _=>Zy (tyC t) nk c| .mhas nk _=>Yg nk| .mset nk _=>YA nk| .pick _=>P2| .row k s _=>Tv k s| .rset c _=>YH c| .rep _=>eC
 | .outI _ f=>Bl f| .outB _ f=>LP f| .outL _ f=>Eg f| .outS _ f=>Xn f| .res _ D j=>D.res j
structure En where
 x:Nat
 op:Opn
 rs:List Rf
def En.be (e:En):Nat × (List U->U) × List Rf:=(e.x,opF e.op,e.rs)
def EN (T:Tab):List Ty->List Rf->Prop
 | .i::ts,a::b::r=>iR T a=iR T b/\EN T ts r
 | .b::ts,a::b::r=>(bR T a=true↔bR T b=true)/\EN T ts r
 | .s::ts,a::b::r=>stR T a=stR T b/\EN T ts r
 |_,_=>True
def LW (o:Op2)(c a b:Int):Prop:=match o with
 | .add=>c=a+b| .sub=>c=a - b| .mul=>c=a*b| .div=>c=a / b| .mod=>c=a % b
 | .tdiv=>c=if 0<=a then a / b else -(-a / b)
 | .tmod=>c=if 0<=a then a % b else -(-a % b)
 | .min=>c=if a<=b then a else b
 | .max=>c=if a<=b then b else a
def w2P (k:IntKind)(o:Op2)(c a b:Int):Prop:=match k,o with
 | .i64,.add=> -9223372036854775808<=a+b->a+b<=9223372036854775807->c=a+b
 | .i64,.sub=> -9223372036854775808<=a - b->a - b<=9223372036854775807->c=a - b
 | .i64,.mul=> -9223372036854775808<=a*b->a*b<=9223372036854775807->c=a*b
 |k,o=>c=k.wrap (o.f a b)
def wnP (k:IntKind)(c a:Int):Prop:=match k with
 | .i64=>(-9223372036854775807<=a->a<=9223372036854775808->c= -a)/\(a= -9223372036854775808->c=a)
 |k=>c=k.wrap (0 - a)
def AI (T:Tab)(e:En):Prop:=
 match e with
 |⟨x,.id .i,[a]⟩=>I T x=iR T a
 |⟨x,.id .b,[a]⟩=>(B T x=true↔bR T a=true)
 |⟨x,.id .l,[a]⟩=>L T x=lR T a
 |⟨x,.id .s,[a]⟩=>S T x=stR T a
 |⟨x,.not,[a]⟩=>(B T x=true↔¬bR T a=true)
 |⟨x,.and,[a,b]⟩=>(B T x=true↔(bR T a=true/\bR T b=true))
 |⟨x,.or,[a,b]⟩=>(B T x=true↔(bR T a=true\/bR T b=true))
 |⟨x,.lt,[a,b]⟩=>(B T x=true↔iR T a < iR T b)
 |⟨x,.le,[a,b]⟩=>(B T x=true↔iR T a<=iR T b)
 |⟨x,.eq,[a,b]⟩=>(B T x=true↔iR T a=iR T b)
 |⟨x,.ne,[a,b]⟩=>(B T x=true↔¬iR T a=iR T b)
 |⟨x,.eqs ts,r⟩=>(B T x=true↔EN T ts r)
 |⟨x,.nes ts,r⟩=>(B T x=true↔¬EN T ts r)
 |⟨x,.eqb,[a,b]⟩=>(B T x=true↔(bR T a=true↔bR T b=true))
 |⟨x,.neb,[a,b]⟩=>(B T x=true↔¬(bR T a=true↔bR T b=true))
 |⟨x,.ite .i,[a,b,c]⟩=>I T x=if bR T a=true then iR T b else iR T c
 |⟨x,.ite .b,[a,b,c]⟩=>(B T x=true↔((bR T a=true/\bR T b=true)\/(¬bR T a=true/\bR T c=true)))
 |⟨x,.ite .l,[a,b,c]⟩=>L T x=if bR T a=true then lR T b else lR T c
 |⟨x,.ite .s,[a,b,c]⟩=>S T x=if bR T a=true then stR T b else stR T c
 |⟨x,.ifb,[a,b,c]⟩=>(B T x=true↔((bR T a=true/\bR T b=true)\/(¬bR T a=true/\bR T c=true)))
 |⟨x,.o2 o,[a,b]⟩=>LW o (I T x) (iR T a) (iR T b)
 |⟨x,.w2 k o,[a,b]⟩=>w2P k o (I T x) (iR T a) (iR T b)
 |⟨x,.wx k o,[a,b]⟩=>I T x=k.wrap (o.f (iR T a) (iR T b))
 |⟨x,.w1 k,[a]⟩=>I T x=k.wrap (iR T a)
 |⟨x,.wneg k,[a]⟩=>wnP k (I T x) (iR T a)
 |⟨x,.neg,[a]⟩=>I T x= -iR T a
 |⟨x,.bits o k,[a,b]⟩=>I T x=Cx o k (iR T a) (iR T b)
 |⟨x,.len,[a]⟩=>I T x=(lR T a).length
 |⟨x,.app,[a,b]⟩=>L T x=lR T a++lR T b
 |⟨x,.take,[a,b]⟩=>L T x=(lR T a).take (iR T b).toNat
 |⟨x,.drop,[a,b]⟩=>L T x=(lR T a).drop (iR T b).toNat
 |⟨x,.sub,[a,b,c]⟩=>L T x=((lR T a).take (iR T c).toNat).drop (iR T b).toNat
 |⟨x,.slen,[a]⟩=>I T x=(stR T a).size
 |⟨x,.sat,[a,b]⟩=>I T x=Jj (stR T a) (iR T b).toNat
 |⟨x,.get .i c,[a,b]⟩=>I T x=Bx (lR T a) (iR T b).toNat c
 |⟨x,.get .b c,[a,b]⟩=>B T x=Pq (lR T a) (iR T b).toNat c
 |⟨x,.get .l c,[a,b]⟩=>L T x=jD (lR T a) (iR T b).toNat c
 |⟨x,.get .s c,[a,b]⟩=>S T x=Cc (lR T a) (iR T b).toNat c
 |⟨x,.mget .i nk c ts,a::z::r⟩=>I T x=(Ct nk c (lR T a) (z.eval T) (List.zipWith (uR T) ts r)).toI
 |⟨x,.mget .b nk c ts,a::z::r⟩=>B T x=(Ct nk c (lR T a) (z.eval T) (List.zipWith (uR T) ts r)).toB
 |⟨x,.mget .s nk c ts,a::z::r⟩=>S T x=(Ct nk c (lR T a) (z.eval T) (List.zipWith (uR T) ts r)).toS
 |⟨x,.mhas nk ts,a::r⟩=>(B T x=true↔Az nk (lR T a) (List.zipWith (uR T) ts r) < (lR T a).length)
 |⟨x,.mset nk ts,a::r⟩=>L T x=Bc nk (lR T a) ((List.zipWith (uR T) ts r).take nk) ((List.zipWith (uR T) ts r).drop nk)
 |⟨x,.pick .i,a::r⟩=>I T x=Nk T r (iR T a)
 |⟨x,.pick .b,a::r⟩=>(B T x=true↔Nw T r (iR T a))
 |⟨x,.row k s ts,r⟩=>L T x=DM s k (List.zipWith (uR T) ts r)
 |⟨x,.rset c ts,a::b::r⟩=>L T x=Dc (lR T a) (iR T b).toNat c (List.zipWith (uR T) ts r)
 |⟨x,.rep ts,a::r⟩=>L T x=List.replicate (iR T a).toNat (List.zipWith (uR T) ts r)
 |⟨x,.outI _ f,r⟩=>I T x=f (r.map (Rf.eval T))
 |⟨x,.outB _ f,r⟩=>B T x=f (r.map (Rf.eval T))
 |⟨x,.outL _ f,r⟩=>L T x=f (r.map (Rf.eval T))
 |⟨x,.outS _ f,r⟩=>S T x=f (r.map (Rf.eval T))
 |_=>True
def Qr:Ty->Bool| .i=>true| .b=>true| .s=>true|_=>false
abbrev Bo:=List (Nat × Ty)
def KX:Ty->Ty->Bool| .i,.i=>true| .b,.b=>true| .l,.l=>true| .r c,.r d=>Nat.beq c d| .s,.s=>true|_,_=>false
def TB:Bo->Nat->Ty->Bool
 |[],_,_=>false
 |(y,t)::r,x,u=>if Nat.beq y x&&KX t u then true else TB r x u
def tyR (env:Bo)(t:Ty):Rf->Bool
 | .c (.int _)=>KX t .i
 | .c (.bool _)=>KX t .b
 | .c (.list _)=>KX t .l
 | .c (.str _)=>KX t .s
 | .c _=>false
 | .n _=>KX t .b
 | .e x=>TB env x t
def Em (env:Bo):List Ty->List Rf->Bool
 |[],[]=>true
 |t::ts,r::rs=>tyR env t r&&Em env ts rs
 |_,_=>false
def DT:List Ty->List Ty
 |[]=>[]
 |t::ts=>t::t::DT ts
def uV (T:Tab)(t:Ty)(x:Nat):U:=uR T t (.e x)
def Ye (T:Tab)(x c:Nat):Prop:=∀i:Nat,∃n,((L T x).getD i []).getD c default= .int n
def Sty (T:Tab)(x:Nat):Ty->Prop
 | .r c=>Ye T x c
 |t=>T.get x=uV T t x
def AK (T:Tab):Bo->Prop
 |[]=>True
 |(x,t)::r=>Sty T x t/\AK T r
theorem Sty.get {T:Tab}{x:Nat}:∀{t:Ty},Sty T x t->T.get x=uV T t x
 | .i,h=>h
 | .b,h=>h
 | .l,h=>h
 | .r _,_=>rfl
 | .s,h=>h
def noR:Ty->Bool| .r _=>false|_=>true
def FN (env:Bo)(e:En):Option (Option Ty):=
 match e.op,e.rs with
 | .id t,[a]=>some (if tyR env t a then some t else none)
 | .ite t,[_,b,c]=>some (if tyR env t b&&tyR env t c then some t else none)
 | .eqs ts,r=>if Em env (DT ts) r&&ts.all Qr then some (some .b) else none
 | .nes ts,r=>if Em env (DT ts) r&&ts.all Qr then some (some .b) else none
 | .row _ _ ts,r=>if Em env ts r then some (some .l) else none
 | .rset _ ts,_::_::r=>if Em env ts r then some (some .l) else none
 | .rep ts,_::r=>if Em env ts r then some (some .l) else none
 | .mset _ ts,_::r=>if Em env ts r then some (some .l) else none
 | .not,_| .and,_| .or,_| .lt,_| .le,_| .eq,_| .ne,_| .ifb,_| .eqb,_| .neb,_=>some (some .b)
 | .mhas _ ts,_::r=>if Em env ts r then some (some .b) else none
 | .o2 _,_| .w2 _ _,_| .wx _ _,_| .w1 _,_| .wneg _,_| .neg,_| .bits _ _,_| .len,_| .slen,_| .sat,_=>some (some .i)
 | .app,_| .take,_| .drop,_| .sub,_=>some (some .l)
 | .pick .i,_::r=>some (if r.all (tyR env .i) then some .i else none)
 | .pick .i,[]=>some none
 | .pick .b,_::b::r=>some (if (b::r).all (tyR env .b) then some .b else none)
 | .outI _ _,_=>some (some .i)
 | .outB _ _,_=>some (some .b)
 | .outL _ _,_=>some (some .l)
 | .outS _ _,_=>some (some .s)
 | .get t _,_=>some (if noR t then some t else none)
 | .mget t _ _ ts,_::_::r=>if Em env ts r then some (if noR t then some t else none) else none
 | .pick _,_| .res _ _ _,_=>some none
 |_,_=>none
def Qh (e:En):Bo:=
 match e.op with
 | .row _ s ts=>if ts.all (KX .i) then (List.range s).map fun c=>(e.x,.r c) else []
 |_=>[]
def chk:Bo->List En->Option Bo
 |env,[]=>some env
 |env,e::r=>match FN env e with
  |none=>none
  |some none=>chk env r
  |some (some t)=>if noR t then chk (Qh e++(e.x,t)::env) r else none
section
variable {T:Tab}
theorem Np {t u:Ty}(h:KX t u=true):t=u:=by cases t<;>cases u<;>first|rfl|(cases h;done)|(rw[vp h])
theorem VO:∀{env:Bo} {x:Nat} {t:Ty},AK T env->TB env x t=true->T.get x=uV T t x
 |[],_,_,_,h=>by cases h
 |(y,u)::r,x,t,hs,h=>by
  simp only[TB] at h;split at h
  .rename_i hb;rw[vo] at hb;have e:=vp hb.1;subst e;rw[<-Np hb.2];exact hs.1.get
  .exact VO hs.2 h
theorem Hs {env:Bo}{t:Ty}{r:Rf}(hs:AK T env)(h:tyR env t r=true):r.eval T=uR T t r:=by
 cases r with
 |c u=>cases u<;>simp only[tyR] at h<;>first|(have e:=Np h;subst e;rfl)|cases h
 |e x=>exact VO hs h
 |n x=>have e:=Np h;subst e;rfl
theorem B7 {env:Bo}(hs:AK T env):∀{ts:List Ty} {rs:List Rf},Em env ts rs=true->rs.map (Rf.eval T)=List.zipWith (uR T) ts rs
 |[],[],_=>rfl
 |t::ts,r::rs,h=>by
  simp only[Em,vo] at h;simp only[wG,List.zipWith_cons_cons];rw[Hs hs h.1,B7 hs h.2]
 |[],_::_,h=>by cases h
 |_::_,[],h=>by cases h
theorem Tt {env:Bo}:∀{ts:List Ty} {rs:List Rf},Em env ts rs=true->rs.length=ts.length
 |[],[],_=>rfl
 |_::_,_::_,h=>by
  simp only[Em,vo] at h;simp[Tt h.2]
 |[],_::_,h=>by cases h
 |_::_,[],h=>by cases h
theorem XU:∀{ts:List Ty} {rs:List Rf},rs.length=(DT ts).length->ts.all Qr=true->(Ec (List.zipWith (uR T) (DT ts) rs)=true↔EN T ts rs)
 |[],[],_,_=>by simp[Ec,DT,EN]
 |t::ts,a::b::r,hl,hn=>by
  simp only[List.all_cons,vo] at hn;have ih:=XU (ts:=ts) (rs:=r) (by simpa [DT] using hl) hn.2;simp only[DT,List.zipWith_cons_cons,Ec,vo];rw[ih];cases t with
  |i=>simp[uR,U.eqv,EN]
  |b=>
   simp only[uR,U.eqv,EN];cases bR T a<;>cases bR T b<;>simp
  |l=>exact absurd hn.1 (by simp[Qr])
  |r c=>exact absurd hn.1 (by simp[Qr])
  |s=>simp[uR,U.eqv,EN]
 |[],_::_,hl,_=>by simp[DT] at hl
 |_::_,[],hl,_=>by simp[DT] at hl
 |_::_,[_],hl,_=>by simp[DT] at hl
theorem U4 {env:Bo}(hs:AK T env){ts:List Ty}{rs:List Rf}{c:Bool}(h:(Em env (DT ts) rs&&ts.all Qr)=true):Ec (rs.map (Rf.eval T))=true↔EN T ts rs:=by
 rw[vo] at h;rw[B7 hs h.1];exact XU (Tt h.1) h.2
theorem aW (l:List U):(FB l).toI=0:=by
 unfold FB;split<;>rfl
theorem ZP (l:List U):(FB l).toB=false:=by
 unfold FB;split<;>rfl
theorem SZ {d:U}(hd:d.toI=0):∀(l:List Rf) (n:Int),((l.map (Rf.eval T)).getD n.toNat d).toI=Nk T l n
 |[],n=>by simp[Nk,hd]
 |a::l,n=>by
  simp only[Nk];split
  .rename_i h;have:n.toNat=0:=by omega
   simp[this,iR]
  .rename_i h;have e:n.toNat=(n - 1).toNat+1:=by omega
   rw[e,<-SZ hd l (n - 1)];simp
theorem SH {d:U}(hd:d.toB=false):∀(l:List Rf) (n:Int),((l.map (Rf.eval T)).getD n.toNat d).toB=true↔Nw T l n
 |[],n=>by simp[Nw,hd]
 |a::l,n=>by
  simp only[Nw];by_cases h:n<=0
  .have:n.toNat=0:=by omega
   simp[this,h,bR]
  .have e:n.toNat=(n - 1).toNat+1:=by omega
   rw[e,<-SH hd l (n - 1)];simp[h]
theorem vB {x:Nat}{v:Bool}(h:T.get x= .bool v):B T x=v:=by unfold B;rw[h];rfl
theorem vI {x:Nat}{v:Int}(h:T.get x= .int v):I T x=v:=by unfold I;rw[h];rfl
theorem vL {x:Nat}{v:List (List U)}(h:T.get x= .list v):L T x=v:=by unfold L;rw[h];rfl
theorem sB {x:Nat}{v:Bool}(h:T.get x= .bool v):T.get x=uV T .b x:=by rw[h];show _=U.bool (T.get x).toB;rw[h];rfl
theorem sI {x:Nat}{v:Int}(h:T.get x= .int v):T.get x=uV T .i x:=by rw[h];show _=U.int (T.get x).toI;rw[h];rfl
theorem vS {x:Nat}{v:ByteArray}(h:T.get x= .str v):S T x=v:=by unfold S;rw[h];rfl
theorem sS {x:Nat}{v:ByteArray}(h:T.get x= .str v):T.get x=uV T .s x:=by rw[h];show _=U.str (T.get x).toS;rw[h];rfl
theorem sL {x:Nat}{v:List (List U)}(h:T.get x= .list v):T.get x=uV T .l x:=by rw[h];show _=U.list (T.get x).toL;rw[h];rfl
theorem iQ (o:Op2)(a b:Int):LW o (o.f a b) a b:=by
 cases o<;>simp only[LW,Op2.f]<;>first|rfl|exact tdiv_eq_if a b|exact tmod_eq_if a b|exact Int.min_def a b|exact Int.max_def a b
theorem jG (k:IntKind)(o:Op2)(a b:Int):w2P k o (k.wrap (o.f a b)) a b:=by
 cases k<;>cases o<;>simp only[w2P,Op2.f]<;>exact fun h1 h2=>Eb .i64 _ h1 h2
theorem jE (k:IntKind)(a:Int):wnP k (k.wrap (0 - a)) a:=by
 cases k<;>simp only[wnP];refine⟨fun h1 h2=>?_,fun h=>by subst h;decide⟩;rw[Eb .i64 _ (by show (-9223372036854775808:Int)<=_;omega) (by show _<=(9223372036854775807:Int);omega)];omega
theorem XS {env:Bo}(hs:AK T env):∀(e:En) {o:Option Ty},FN env e=some o->T.get e.x=opF e.op (e.rs.map (Rf.eval T))->AI T e:=by
 intro e o ht h;unfold AI;split<;>(try simp only at ht h)
 .exact congrArg U.toI h
 .exact Bool.eq_iff_iff.1 (congrArg U.toB h)
 .exact congrArg U.toL h
 .exact congrArg U.toS h
 .have:=vB h;rw[this];simp[u0,bR]
 .have:=vB h;rw[this];simp[u0,u1,bR]
 .have:=vB h;rw[this];simp[u0,u1,bR]
 .have:=vB h;rw[this];simp[u0,u1,iR]
 .have:=vB h;rw[this];simp[u0,u1,iR]
 .have:=vB h;rw[this];simp[u0,u1,iR]
 .have:=vB h;rw[this];simp[u0,u1,iR]
 .rename_i x ts r;simp only[FN] at ht;split at ht
  .rename_i hc;rw[vB h];exact U4 (c:=true) hs hc
  .cases ht
 .rename_i x ts r;simp only[FN] at ht;split at ht
  .rename_i hc;rw[vB h,<-U4 (c:=true) hs hc];simp
  .cases ht
 .have:=vB h;rw[this];simp only[u0,u1,bR,wG,wa,List.getD_cons_zero,List.getD_cons_succ];rename_i a b;cases (a.eval T).toB<;>cases (b.eval T).toB<;>simp
 .have:=vB h;rw[this];simp only[u0,u1,bR,wG,wa,List.getD_cons_zero,List.getD_cons_succ];rename_i a b;cases (a.eval T).toB<;>cases (b.eval T).toB<;>simp
 .rename_i x a b c;have h1:=congrArg U.toI h;show (T.get x).toI=_;rw[h1];show (bif (a.eval T).toB then b.eval T else c.eval T).toI=_;unfold bR iR;cases (a.eval T).toB<;>rfl
 .rename_i x a b c;have h1:=congrArg U.toB h;show ((T.get x).toB=true↔_);rw[h1];show ((bif (a.eval T).toB then b.eval T else c.eval T).toB=true↔_);unfold bR;cases (a.eval T).toB<;>simp
 .rename_i x a b c;have h1:=congrArg U.toL h;show (T.get x).toL=_;rw[h1];show (bif (a.eval T).toB then b.eval T else c.eval T).toL=_;unfold bR lR;cases (a.eval T).toB<;>rfl
 .rename_i x a b c;have h1:=congrArg U.toS h;show (T.get x).toS=_;rw[h1];show (bif (a.eval T).toB then b.eval T else c.eval T).toS=_;unfold bR stR;cases (a.eval T).toB<;>rfl
 .rename_i x a b c;rw[vB h];show ((bif (a.eval T).toB then (b.eval T).toB else (c.eval T).toB)=true↔_);unfold bR;cases (a.eval T).toB<;>simp
 .rw[vI h];exact iQ _ _ _
 .rw[vI h];exact jG _ _ _ _
 .rw[vI h];rfl
 .rw[vI h];rfl
 .rw[vI h];exact jE _ _
 .rw[vI h];show 0 - _=_;rw[Int.zero_sub];rfl
 .rw[vI h];rfl
 .rw[vI h];rfl
 .rw[vL h];rfl
 .rw[vL h];rfl
 .rw[vL h];rfl
 .rw[vL h];rfl
 .rw[vI h];rfl
 .rw[vI h];rfl
 .exact (congrArg U.toI h).trans rfl
 .exact (congrArg U.toB h).trans rfl
 .exact (congrArg U.toL h).trans rfl
 .exact (congrArg U.toS h).trans rfl
 .simp only[FN] at ht;split at ht
  .rename_i hc;rw[<-B7 hs hc];exact (congrArg U.toI h).trans rfl
  .cases ht
 .simp only[FN] at ht;split at ht
  .rename_i hc;rw[<-B7 hs hc];exact (congrArg U.toB h).trans rfl
  .cases ht
 .simp only[FN] at ht;split at ht
  .rename_i hc;rw[<-B7 hs hc];exact (congrArg U.toS h).trans rfl
  .cases ht
 .simp only[FN] at ht;split at ht
  .rename_i hc;rw[<-B7 hs hc,vB h];exact decide_eq_true_iff
  .cases ht
 .rename_i x nk ts a r;simp only[FN] at ht;split at ht
  .rename_i hc;rw[<-B7 hs hc];exact vL h
  .cases ht
 .exact (congrArg U.toI h).trans (SZ (aW _) _ _)
 .have h1:=congrArg U.toB h;refine Iff.trans (b:=((_:U).toB=true)) (by rw[show B T _=_ from h1];exact Iff.rfl) (SH (ZP _) _ _)
 .rename_i x k s ts r;simp only[FN] at ht;split at ht
  .rename_i hc;rw[vL h,B7 hs hc]
  .cases ht
 .rename_i x c ts a b r;simp only[FN] at ht;split at ht
  .rename_i hc;rw[<-B7 hs hc];exact vL h
  .cases ht
 .rename_i x ts a r;simp only[FN] at ht;split at ht
  .rename_i hc;rw[<-B7 hs hc];exact vL h
  .cases ht
 .exact congrArg U.toI h
 .exact congrArg U.toB h
 .exact congrArg U.toL h
 .exact congrArg U.toS h
 .trivial
theorem Rg {env:Bo}(hs:AK T env):∀{r:List Rf} (n:Nat),r.all (tyR env .i)=true->∃v,(r.map (Rf.eval T)).getD n (.int 0)= .int v
 |[],n,_=>⟨0,by simp⟩
 |a::r,n,h=>by
  simp only[List.all_cons,vo] at h;cases n with
  |zero=>exact⟨iR T a,by simpa [uR] using Hs hs h.1⟩
  |succ n=>simpa using Rg hs (r:=r) n h.2
theorem P4 {env:Bo}(hs:AK T env):∀{r:List Rf} (n:Nat),r.all (tyR env .b)=true->∃v,(r.map (Rf.eval T)).getD n (.bool false)= .bool v
 |[],n,_=>⟨false,by simp⟩
 |a::r,n,h=>by
  simp only[List.all_cons,vo] at h;cases n with
  |zero=>exact⟨bR T a,by simpa [uR] using Hs hs h.1⟩
  |succ n=>simpa using P4 hs (r:=r) n h.2
theorem dR {env:Bo}(hs:AK T env){r:List Rf}(n:Nat)(h:r.all (tyR env .i)=true):∃v,(r.map (Rf.eval T)).getD n (FB (r.map (Rf.eval T)))= .int v:=by
 have e:FB (r.map (Rf.eval T))= .int 0:=by
  cases r with
  |nil=>rfl
  |cons a r=>
   simp only[List.all_cons,vo] at h;have h1:a.eval T= .int (iR T a):=by simpa [uR] using Hs hs h.1
   rw[wG,h1];rfl
 rw[e];exact Rg hs n h
theorem Zn {env:Bo}(hs:AK T env){b:Rf}{r:List Rf}(n:Nat)(h:(b::r).all (tyR env .b)=true):∃v,((b::r).map (Rf.eval T)).getD n (FB ((b::r).map (Rf.eval T)))= .bool v:=by
 have e:FB ((b::r).map (Rf.eval T))= .bool false:=by
  have h0:=h;simp only[List.all_cons,vo] at h0;have h1:b.eval T= .bool (bR T b):=by simpa [uR] using Hs hs h0.1
  rw[wG,h1];rfl
 rw[e];exact P4 hs n h
theorem aZ {t u:Ty}(h:(some (if noR t=true then some t else none):Option (Option Ty))=some (some u)):t=u:=by
 split at h<;>cases h;rfl
theorem it {c:Prop} [Decidable c] {t u:Ty}(h:(if c then some (if noR t=true then some t else none) else none:Option (Option Ty))=some (some u)):(some (if noR t=true then some t else none):Option (Option Ty))=some (some u):=by
 split at h
 .exact h
 .cases h
theorem bP {t:Ty}{x:Nat}{v:U}(ht:(some (if noR t=true then some t else none):Option (Option Ty))=some (some t))(h:T.get x=coC (tyC t) v):T.get x=uV T t x:=by
 cases t with
 |i=>exact sI h
 |b=>exact sB h
 |l=>exact sL h
 |s=>exact sS h
 |r c=>cases ht
theorem iw {env:Bo}(hs:AK T env):∀(e:En) {t:Ty},FN env e=some (some t)->T.get e.x=opF e.op (e.rs.map (Rf.eval T))->T.get e.x=uV T t e.x:=by
 intro e t ht h;unfold FN at ht;split at ht
 .rename_i a e1 e2;split at ht
  .rename_i hc;cases ht;rw[e1,e2] at h;have h2:T.get e.x=a.eval T:=h;rw[Hs hs hc] at h2;cases t
   .exact sI h2
   .exact sB h2
   .exact sL h2
   .rfl
   .exact sS h2
  .cases ht
 .rename_i a b c e1 e2;split at ht
  .rename_i hc;cases ht;rw[vo] at hc;rw[e1,e2] at h;have h2:T.get e.x=bif (a.eval T).toB then b.eval T else c.eval T:=h
   rw[Hs hs hc.1,Hs hs hc.2] at h2;cases t<;>cases hb:(a.eval T).toB<;>rw[hb] at h2<;>first|exact sI h2|exact sB h2|exact sL h2|exact sS h2|rfl
  .cases ht
 all_goals first
  |(rename_i u c e1;have hz:=aZ ht;rw[e1] at h;subst hz;exact bP ht h)
  |(rename_i u nk c ts a b2 r e1 e2;have ht2:=it ht;have hz:=aZ ht2;rw[e1] at h;subst hz;exact bP ht2 h)
  |(rename_i a b2 r e1 e2;split at ht<;>cases ht;rename_i hc;rw[e1,e2] at h;obtain⟨v,hv⟩:=Zn hs (a.eval T).toI.toNat hc;exact sB (h.trans hv))
  |(rename_i a r e1 e2;split at ht<;>cases ht;rename_i hc;rw[e1,e2] at h;obtain⟨v,hv⟩:=dR hs (a.eval T).toI.toNat hc;exact sI (h.trans hv))
  |(rename_i e1 e2;split at ht<;>cases ht;rw[e1,e2] at h;first|exact sL h|exact sB h)
  |(rename_i e1;split at ht<;>cases ht;rw[e1] at h;first|exact sI h|exact sB h|exact sL h)
  |(rename_i e1;cases ht;rw[e1] at h;first|exact sI h|exact sB h|exact sL h|exact sS h)
  |(cases ht)
  |skip
def AH (T:Tab):List En->Prop
 |[]=>True
 |e::r=>AI T e/\AH T r
theorem AH.left:∀{a b:List En},AH T (a++b)->AH T a
 |[],_,_=>trivial
 |_::_,_,h=>⟨h.1,AH.left h.2⟩
theorem AH.right:∀{a b:List En},AH T (a++b)->AH T b
 |[],_,h=>h
 |_::_,_,h=>AH.right h.2
end
abbrev BE:=Nat × (List U->U) × List Rf
abbrev BO:=PC × (List U->Prop) × List Rf
abbrev BP:=(List U->Prop) × List Rf
def Ef (l:List (Nat × Ex)):List BE:=l.map fun p=>(p.1,p.2.f,p.2.args)
def HX (l:List Ob):List BO:=l.map fun o=>(o.pc,o.p.f,o.p.args)
def ZI (l:List Pr):List BP:=l.map fun p=>(p.f,p.args)
def Ac (T:Tab):List BE->Prop
 |[]=>True
 |(x,f,rs)::r=>T x=f (rs.map (Rf.eval T))/\Ac T r
def TS (T:Tab):List BO->Prop
 |[]=>True
 |(pc,f,rs)::r=>(pcv T pc->f (rs.map (Rf.eval T)))/\TS T r
def AllP (T:Tab):List BP->Prop
 |[]=>True
 |(f,rs)::r=>f (rs.map (Rf.eval T))/\AllP T r
section
variable {T:Tab}
theorem Is:∀{l:List (Nat × Ex)},(∀p∈l,T p.1=p.2.eval T)->Ac T (Ef l)
 |[],_=>trivial
 |p::_,h=>⟨h p (wA ..),Is fun q hq=>h q (vz _ hq)⟩
theorem PS:∀{l:List (Nat × Ex)},Ac T (Ef l)->∀p∈l,T p.1=p.2.eval T
 |[],_,p,hp=>by cases hp
 |e::r,h,p,hp=>by
  cases hp with
  |head=>exact h.1
  |tail _ hp=>exact PS (l:=r) h.2 p hp
theorem Ac.left:∀{a b:List BE},Ac T (a++b)->Ac T a
 |[],_,_=>trivial
 |_::_,_,h=>⟨h.1,Ac.left h.2⟩
theorem Ac.right:∀{a b:List BE},Ac T (a++b)->Ac T b
 |[],_,h=>h
 |_::_,_,h=>Ac.right h.2
theorem GY:∀{l:List Ob},TS T (HX l)->∀o∈l,o.holds T
 |[],_,o,ho=>by cases ho
 |o'::_,h,o,ho=>by
  cases ho with
  |head=>exact h.1
  |tail _ ho=>exact GY h.2 o ho
theorem Ni:∀{l:List Pr},AllP T (ZI l)->∀o∈l,o.holds T
 |[],_,o,ho=>by cases ho
 |o'::_,h,o,ho=>by
  cases ho with
  |head=>exact h.1
  |tail _ ho=>exact Ni h.2 o ho
theorem Ze {x:Nat}:∀(t:Ty),T.get x=uV T t x->(∀c,t≠ .r c)->Sty T x t
 | .i,h,_=>h
 | .b,h,_=>h
 | .l,h,_=>h
 | .r c,_,h=>absurd rfl (h c)
 | .s,h,_=>h
theorem AK.append:∀{a b:Bo},AK T a->AK T b->AK T (a++b)
 |[],_,_,h=>h
 |_::_,_,h,h'=>⟨h.1,AK.append h.2 h'⟩
theorem Rd {s:Nat}:∀{k:Nat} {l:List U} {u:List U},u∈DM s k l->∀v∈u,v∈l
 |0,_,_,h=>by simp[DM] at h
 |k+1,l,u,h=>by
  simp only[DM,List.mem_cons] at h;intro v hv;rcases h with rfl|h
  .exact List.mem_of_mem_take hv
  .exact List.mem_of_mem_drop (Rd h v hv)
theorem XG:∀{ts:List Ty} {r:List Rf},ts.all (KX .i)=true->∀v∈List.zipWith (uR T) ts r,∃n,v= .int n
 |[],_,_,v,h=>by simp at h
 |_::_,[],_,v,h=>by simp at h
 |t::ts,a::r,ht,v,h=>by
  simp only[List.all_cons,vo] at ht;simp only[List.zipWith_cons_cons,List.mem_cons] at h;rcases h with rfl|h
  .have e:=Np ht.1;subst e;exact⟨_,rfl⟩
  .exact XG ht.2 v h
theorem ac {env:Bo}(hs:AK T env)(e:En){o:Option Ty}(ht:FN env e=some o)(h:T.get e.x=opF e.op (e.rs.map (Rf.eval T))):AK T (Qh e):=by
 obtain⟨x,op,rs⟩:=e;unfold Qh;simp only;split
 .rename_i k s ts;split
  .rename_i hi;simp only[FN] at ht;split at ht
   .rename_i hc;have e1:L T x=DM s k (List.zipWith (uR T) ts rs):=by rw[<-B7 hs hc];exact vL h
    have key:∀c,Ye T x c:=fun c i=>by
     rw[e1];have hm:∀u:List U,(∀v∈u,∃n,v= .int n)->∃n,u.getD c default= .int n:=fun u hu=>by
      rcases wD c u.length with hc|hc
      .rw[wL,vt hc];exact hu _ (List.getElem_mem hc)
      .rw[wL,wV hc];exact⟨0,rfl⟩
     rcases wD i (DM s k (List.zipWith (uR T) ts rs)).length with hl|hl
     .rw[wL (l:=DM s k (List.zipWith (uR T) ts rs)),vt hl];exact hm _ fun v hv=>XG hi v (Rd (List.getElem_mem hl) v hv)
     .rw[wL (l:=DM s k (List.zipWith (uR T) ts rs)),wV hl];exact hm _ fun v hv=>by simp at hv
    have all:∀l:List Nat,AK T (l.map fun c=>(x,Ty.r c)):=by
     intro l;induction l with
     |nil=>trivial
     |cons a l ih=>exact⟨key a,ih⟩
    exact all _
   .cases ht
  .trivial
 .trivial
theorem P3:∀{l:List En} {env env':Bo},AK T env->chk env l=some env'->Ac T (l.map En.be)->AH T l/\AK T env'
 |[],env,env',hs,h,_=>by
  simp only[chk] at h;cases h;exact⟨trivial,hs⟩
 |e::r,env,env',hs,h,hb=>by
  simp only[chk] at h;split at h
  .cases h
  .rename_i ht;obtain⟨h1,h2⟩:=P3 hs h hb.2;exact⟨⟨XS hs e ht hb.1,h1⟩,h2⟩
  .rename_i t ht;split at h
   .rename_i hn;obtain⟨h1,h2⟩:=P3 (env:=Qh e++(e.x,t)::env) ((ac hs e ht hb.1).append ⟨Ze t (iw hs e ht hb.1) (fun c hc=>by rw[hc] at hn;cases hn),hs⟩) h hb.2;exact⟨⟨XS hs e ht hb.1,h1⟩,h2⟩
   .cases h
def Ab (env:Bo)(l:List En):Bo:=(chk env l).getD []
theorem Ai {l:List En}{env:Bo}(hs:AK T env)(hc:(chk env l).isSome=true)(hb:Ac T (l.map En.be)):AH T l/\AK T (Ab env l):=by
 obtain⟨env',h⟩:=Option.isSome_iff_exists.1 hc;have:=P3 hs h hb;unfold Ab;rw[h];exact this
def dl (env:Bo)(l:List En)(tys:List Ty)(rs:List Rf):Bool:=match chk env l with
 |some env'=>Em env' tys rs
 |none=>false
theorem BG {l:List En}{env:Bo}{tys:List Ty}{rs:List Rf}(hs:AK T env)(hc:dl env l tys rs=true)(hb:Ac T (l.map En.be)):AH T l/\rs.map (Rf.eval T)=List.zipWith (uR T) tys rs:=by
 unfold dl at hc;split at hc
 .rename_i env' h;obtain⟨h1,h2⟩:=P3 hs h hb;exact⟨h1,B7 h2 hc⟩
 .cases hc
def tyKd:Kd->Option Ty
 | .int _ _ _=>some .i
 | .bool=>some .b
 | .list _=>some .l
 | .str=>some .s
 |_=>none
def QC (x:Nat):Nat->List Kd->Bo
 |_,[]=>[]
 |c,.int _ _ _::es=>(x,.r c)::QC x (c+1) es
 |c,_::es=>QC x (c+1) es
def BK:Nat->List Kd->Bo
 |_,[]=>[]
 |x,.list es::ks=>(x,.l)::(QC x 0 es++BK (x+1) ks)
 |x,k::ks=>match tyKd k with
  |some t=>(x,t)::BK (x+1) ks
  |none=>BK (x+1) ks
def Bnd (T:Tab):Nat->List Kd->Prop
 |_,[]=>True
 |x,.int _ lo hi::ks=>(lo<=I T x/\I T x<=hi)/\Bnd T (x+1) ks
 |x,.list es::ks=>((L T x).length<=140737488355328/\∀(i:Nat) (us:List U),(L T x)[i]? =some us->AT AF es us)/\Bnd T (x+1) ks
 |x,.str::ks=>(S T x).size<=140737488355328/\Bnd T (x+1) ks
 |x,_::ks=>Bnd T (x+1) ks
theorem AK.append0:∀{a b:Bo},AK T a->AK T b->AK T (a++b)
 |[],_,_,h=>h
 |_::_,_,h,h'=>⟨h.1,AK.append0 h.2 h'⟩
theorem VF:∀{es:List Kd} {us:List U} {c:Nat} {k:Kd},AT AF es us->es[c]? =some k->∃u,us[c]? =some u/\KdU AF k u
 |[],_,_,_,_,h=>by simp at h
 |e::es,us,c,k,⟨u,us',e1,h1,h2⟩,h=>by
  subst e1;cases c with
  |zero=>simp at h;subst h;exact⟨u,rfl,h1⟩
  |succ c=>simpa using VF h2 (by simpa using h)
theorem fO {x c:Nat}{es:List Kd}{kk:IntKind}{lo hi:Int}(h:∀(i:Nat) (us:List U),(L T x)[i]? =some us->AT AF es us)(hc:es[c]? =some (.int kk lo hi)):Ye T x c:=fun i=>by
 rcases wD i (L T x).length with hi|hi
 .obtain⟨u,h1,⟨n,e,_⟩⟩:=VF (h i _ (vt hi)) hc;refine⟨n,?_⟩;simp only[List.getD,vt hi,Option.getD_some,h1];exact e
 .exact⟨0,by simp only[List.getD,wV hi,Option.getD_none];simp;rfl⟩
theorem XH {x:Nat}{all:List Kd}(h:∀(i:Nat) (us:List U),(L T x)[i]? =some us->AT AF all us):∀(es:List Kd) (c:Nat),(∀j k,es[j]? =some k->all[c+j]? =some k)->AK T (QC x c es)
 |[],_,_=>trivial
 |e::es,c,ha=>by
  have ih:=XH h es (c+1) fun j k hj=>by
   have:=ha (j+1) k (by simpa using hj);rw[show c+(j+1)=c+1+j by omega] at this;exact this
  cases e with
  |int kk lo hi=>exact⟨fO h (ha 0 _ rfl),ih⟩
  |_=>exact ih
theorem NS:∀{ks:List Kd} {us:List U} {x:Nat},AT AF ks us->(∀j u,us[j]? =some u->T (x+j)=u)->AK T (BK x ks)/\Bnd T x ks
 |[],us,x,_,_=>⟨trivial,trivial⟩
 |k::ks,us,x,⟨u,us',e,h1,h2⟩,hT=>by
  subst e;have ih:=NS (x:=x+1) h2 fun j v hj=>by
   have:=hT (j+1) v (by simpa using hj);rw[show x+(j+1)=x+1+j by omega] at this;exact this
  have h0:T.get x=u:=hT 0 u rfl;cases k with
  |int kk lo hi=>
   obtain⟨n,e1,e2⟩:=h1;rw[e1] at h0;refine⟨⟨sI h0,ih.1⟩,?_,ih.2⟩;rw[vI h0];exact e2
  |bool=>
   obtain⟨n,e1⟩:=h1;rw[e1] at h0;exact⟨⟨sB h0,ih.1⟩,ih.2⟩
  |str=>
   obtain⟨n,e1,e2⟩:=h1;rw[e1] at h0;exact⟨⟨sS h0,ih.1⟩,by rw[vS h0];exact e2,ih.2⟩
  |val=>exact ih
  |any=>exact ih
  |list es=>
   obtain⟨n,e1,e2,e3⟩:=h1;rw[e1] at h0;have e3':∀(i:Nat) (us:List U),(L T x)[i]? =some us->AT AF es us:=by rw[vL h0];exact e3
   refine⟨⟨sL h0,(XH e3' es 0 (fun j k hj=>by rw[v8];exact hj)).append0 ih.1⟩,?_,ih.2⟩;exact⟨by rw[vL h0];exact e2,e3'⟩
end
inductive PO where
 |take|sub|nez|t|inr|inl|ins|btw (lo hi:Int)|fits (b:Nat)|ready|ne|pre (tg:String) (p:List U->Prop)|owes (D:Ag)
structure ObE where
 pc:PC
 po:PO
 rs:List Rf
def poF:PO->List U->Prop
 | .take=>Ik| .sub=>cd| .nez=>Ow| .t=>pT| .inr=>pIn| .inl=>RU| .ins=>YC| .btw lo hi=>DH lo hi| .fits b=>Fo b| .ready=>iz| .ne=>pNe| .pre _ p=>p| .owes D=>D.owes
def ObE.be (o:ObE):PC × (List U->Prop) × List Rf:=(o.pc,poF o.po,o.rs)
def pcP (T:Tab):PC->Prop
 |none=>True
 |some c=>B T c=true
def YZ (T:Tab)(o:ObE):Prop:=
 match o with
 |⟨pc,.take,[a,b]⟩=>pcP T pc->(0<=iR T b/\iR T b<=(lR T a).length)
 |⟨pc,.sub,[a,b,c]⟩=>pcP T pc->(0<=iR T b/\iR T b<=iR T c/\iR T c<=(lR T a).length)
 |⟨pc,.nez,[a]⟩=>pcP T pc->¬iR T a=0
 |⟨pc,.t,[a]⟩=>pcP T pc->bR T a=true
 |⟨pc,.inr,[a,b]⟩=>pcP T pc->(0<=iR T a/\iR T a < iR T b)
 |⟨pc,.inl,[a,b]⟩=>pcP T pc->(0<=iR T a/\iR T a < (lR T b).length)
 |⟨pc,.ins,[a,b]⟩=>pcP T pc->(0<=iR T b/\iR T b < (stR T a).size)
 |⟨pc,.btw lo hi,[a]⟩=>pcP T pc->(lo<=iR T a/\iR T a<=hi)
 |⟨pc,.fits b,[a,c]⟩=>pcP T pc->((lR T a).length+(lR T c).length)*b<=140737488355328
 |⟨pc,.ready,[a]⟩=>pcP T pc->iR T a=0
 |⟨pc,.ne,[a,b]⟩=>pcP T pc->¬iR T a=iR T b
 |⟨pc,.pre _ p,rs⟩=>pcP T pc->p (rs.map (Rf.eval T))
 |⟨pc,.owes D,rs⟩=>pcP T pc->D.owes (rs.map (Rf.eval T))
 |_=>False
def G5 (T:Tab):List ObE->Prop
 |[]=>True
 |o::r=>YZ T o/\G5 T r
section
variable {T:Tab}
theorem VW {pc:PC}(h:pcv T pc):pcP T pc:=by
 cases pc with
 |none=>trivial
 |some c=>show (T.get c).toB=true;rw[show T.get c= .bool true from h];rfl
theorem T5 {pc:PC}(h:pcP T pc):pcv T pc:=by
 cases pc with
 |none=>trivial
 |some c=>exact FI.2 h
theorem ck:∀{o:ObE},YZ T o->(pcv T o.pc->poF o.po (o.rs.map (Rf.eval T))):=by
 intro o h hp;have hp':=VW hp;unfold YZ at h;split at h<;>first|exact h hp'|exact h.elim
theorem FA:∀{l:List ObE},G5 T l->TS T (l.map ObE.be)
 |[],_=>trivial
 |_::_,h=>⟨ck h.1,FA h.2⟩
end
def AV.sees (t:AV)(rs:List Rf)(r:Option (AC × Mem × G)):Option (List BE × List BO × List BP):=
 match r with
 |some (c0,m0,g0)=>match VK t rs c0 m0 g0 with
  |some ps=>some (Ef g0.eqs.reverse,HX g0.obs,ZI ps)
  |none=>none
 |none=>none
theorem Ij:∀{ks:List Kd} {us:List U},us.length=ks.length->LC ks us->AT AF ks us
 |[],[],_,_=>rfl
 |k::ks,u::us,hl,h=>⟨u,us,rfl,h 0 k u rfl rfl,Ij (by simpa using hl) fun j k' u' h1 h2=>h (j+1) k' u' (by simpa using h1) (by simpa using h2)⟩
 |[],_::_,hl,_=>by simp at hl
 |_::_,[],hl,_=>by simp at hl
def AV.run (P:Program)(l:List (FuncId × AV))(AW:FuncId->C2)(fuel depth:Nat)(f:FuncId)(t:AV):Option (AC × Mem × G):=
 EQ P (Jy l) AW fuel depth Ys.none f t.args none t.m { n:=t.n,eqs:=[],obs:=[] }
def Qs (t:AV):Bool:=(List.range t.m.length).all fun id=>match t.m'.at id with| .pad=>false|_=>true
theorem tR {P:Program}{f:FuncId}{t:AV}{cf:Ak}(hcf:∀T,CS P T cf){rs:List Rf}{es:List En}{os:List ObE}
  (hrun:t.sees rs (cf Ys.none f t.args none t.m { n:=t.n,eqs:=[],obs:=[] })=some (es.map En.be,os.map ObE.be,[])) (hne:Qs t=true)
  (hplain:∀(T:Tab) (us:List U),(∀p∈t.pre,p.2 us)->(∀j u,us[j]? =some u->T j=u)->us.length=t.n->AK T (BK 0 t.ks)->Bnd T 0 t.ks->Ac T (es.map En.be)->G5 T os/\rs.map (Rf.eval T)=t.outs.map fun o=>o.2 us):Ae P f t:=by
 unfold AV.sees at hrun;split at hrun
 .rename_i c0 m0 g0 hr;split at hrun
  .rename_i ps hok;injection hrun with hrun
   injection hrun with e1 hrun
   injection hrun with e2 e3
   refine Wv hcf hr hok (fun id hid e=>?_) fun T us hul hin hpre hlow heqs=>?_
   .have:=wR.1 hne id (List.mem_range.2 hid);rw[e] at this;cases this
   .have hb:Ac T (Ef g0.eqs.reverse):=Is fun p hp=>heqs p (List.mem_reverse.1 hp);rw[e1] at hb;obtain⟨i1,i2⟩:=NS (x:=0) (Ij hul hin) fun j u hj=>by rw[v8];exact hlow j u hj
    obtain⟨h1,h3⟩:=hplain T us hpre hlow hul i1 i2 hb;have h2:=FA h1;rw[<-e2] at h2;exact⟨GY h2,Ni (by rw[e3];trivial),h3⟩
  .cases hrun
 .cases hrun
theorem BH {P:Program}{f:FuncId}{t:AV}(hm:P.follows .mixedOrders=true){l:List (FuncId × AV)}(hl:∀p∈l,Ae P p.1 p.2){AW:FuncId->C2}{fuel depth:Nat}{rs:List Rf}{es:List En}{os:List ObE}
  (hrun:t.sees rs (t.run P l AW fuel depth f)=some (es.map En.be,os.map ObE.be,[])) (hne:Qs t=true)
  (hplain:∀(T:Tab) (us:List U),(∀p∈t.pre,p.2 us)->(∀j u,us[j]? =some u->T j=u)->us.length=t.n->AK T (BK 0 t.ks)->Bnd T 0 t.ks->Ac T (es.map En.be)->G5 T os/\rs.map (Rf.eval T)=t.outs.map fun o=>o.2 us):Ae P f t:=
 tR (fun T=>Js hm (LU hl) depth T) hrun hne hplain
theorem lc {α:Type}{a b:α}{l m:List α}(h:a=b)(h':l=m):a::l=b::m:=by rw[h,h']
def aI (us:List U)(j:Nat):Int:=(us.getD j default).toI
def aB (us:List U)(j:Nat):Bool:=(us.getD j default).toB
def aL (us:List U)(j:Nat):List (List U):=(us.getD j default).toL
def aS (us:List U)(j:Nat):ByteArray:=(us.getD j default).toS
theorem inI {T:Tab}{us:List U}{j n:Nat}(h:∀j u,us[j]? =some u->T j=u)(hl:us.length=n)(hj:j < n):aI us j=I T j:=by
 have:=h j us[j] (vt (by omega));unfold aI I;rw[show T.get j=us[j] from this];simp[List.getD,vt (show j < us.length by omega)]
theorem inB {T:Tab}{us:List U}{j n:Nat}(h:∀j u,us[j]? =some u->T j=u)(hl:us.length=n)(hj:j < n):aB us j=B T j:=by
 have:=h j us[j] (vt (by omega));unfold aB B;rw[show T.get j=us[j] from this];simp[List.getD,vt (show j < us.length by omega)]
theorem inL {T:Tab}{us:List U}{j n:Nat}(h:∀j u,us[j]? =some u->T j=u)(hl:us.length=n)(hj:j < n):aL us j=L T j:=by
 have:=h j us[j] (vt (by omega));unfold aL L;rw[show T.get j=us[j] from this];simp[List.getD,vt (show j < us.length by omega)]
theorem inS {T:Tab}{us:List U}{j n:Nat}(h:∀j u,us[j]? =some u->T j=u)(hl:us.length=n)(hj:j < n):aS us j=S T j:=by
 have:=h j us[j] (vt (by omega));unfold aS S;rw[show T.get j=us[j] from this];simp[List.getD,vt (show j < us.length by omega)]
end
section
open Go
theorem Sv {D:Ag}{top:Nat}(h:D.inScope top=true):B9 D.fv D.nh (D.nh+D.k) top D.eqs=true/\FK D.fv D.nh top (pcL D.pcn)=true/\∀x∈D.fv,x < D.nh:=by
 simp only[Ag.inScope,vo] at h;obtain⟨⟨⟨⟨s1,s2⟩,_⟩,_⟩,s5⟩:=h;exact⟨s1,s2,fun x hx=>Au (wR.1 s5 x hx)⟩
theorem Pu {D:Ag}{T:Tab}{top:Nat}{inits:List U}(hsc:D.inScope top=true)(hk:inits.length=D.k)(hnl:D.nxt.length=D.k)(hH:∀j,j < D.k->T (D.nh+j)=D.res j (D.fv.map T.get++inits))(hE:∀p∈D.eqs,T p.1=p.2.eval T)
  (Inv:List U->Prop) (μ:List U->Nat) (h0:Inv inits)
  (hstep:∀(T':Tab) (s:List U),s.length=D.k->(∀x∈D.fv,T' x=T x)->(∀j u,s[j]? =some u->T' (D.nh+j)=u)->Ac T' (Ef D.eqs.reverse)->Inv s->TS T' (HX D.obs)/\(pcv T' D.pcn->Inv (D.nxt.map (Rf.eval T'))/\μ (D.nxt.map (Rf.eval T')) < μ s)):
  D.owes (D.fv.map T.get++inits)/\(∃t,Inv t/\t.length=D.k/\∀j u,t[j]? =some u->T (D.nh+j)=u)/\¬pcv T D.pcn:=by
 obtain⟨sc1,sc2,hfv⟩:=Sv hsc;have hlo:D.nh<=D.nh+D.k:=Nat.le_add_right _ _;generalize hus:D.fv.map T.get=us at*;have hfl:us.length=D.fv.length:=by rw[<-hus];simp
 have e1:(us++inits).take D.fv.length=us:=by rw[<-hfl];simp
 have e2:(us++inits).drop D.fv.length=inits:=by rw[<-hfl];simp
 have key:∀s:List U,s.length=D.k->Inv s->TS (D.tab us s) (HX D.obs)/\(pcv (D.tab us s) D.pcn->Inv (D.nxt.map (Rf.eval (D.tab us s)))/\μ (D.nxt.map (Rf.eval (D.tab us s))) < μ s):=fun s hs hi=>by
  refine hstep (D.tab us s) s hs (fun x hx=>?_) (fun j u hj=>?_) (Is fun p hp=>?_) hi
  .have:=hfv x hx;unfold Ag.tab;rw[(B6 sc1).2.2 x (.inl (by omega)),FG _ _ _ _ this,<-hus];exact KN D.fv x hx
  .have hjl:=(vu.1 hj).1;unfold Ag.tab;rw[(B6 sc1).2.2 _ (.inl (by omega))];exact Eo _ _ _ _ _ hj
  .exact D4 hfv hlo sc1 p (List.mem_reverse.1 hp)
 have stepE:∀s,D.step us s=(bif pcB (D.tab us s) D.pcn then some (D.nxt.map (Rf.eval (D.tab us s))) else none):=fun s=>rfl;have go:∀(n:Nat) (s:List U),μ s<=n->s.length=D.k->Inv s->∃m t,E1 (D.step us) m s=some t/\D.step us t=none/\Inv t/\t.length=D.k:=by
  intro n;induction n with
  |zero=>
   intro s hm hs hi;cases hp:pcB (D.tab us s) D.pcn with
   |true=>have:=((key s hs hi).2 (Iw.1 hp)).2;omega
   |false=>exact⟨0,s,rfl,by rw[stepE,hp];rfl,hi,hs⟩
  |succ n ih=>
   intro s hm hs hi;cases hp:pcB (D.tab us s) D.pcn with
   |true=>
    obtain⟨k1,k2⟩:=(key s hs hi).2 (Iw.1 hp);obtain⟨m,t,q1,q2,q3,q4⟩:=ih (D.nxt.map (Rf.eval (D.tab us s))) (by omega) (by simp[hnl]) k1;refine⟨m+1,t,?_,q2,q3,q4⟩;simp only[E1,stepE,hp,cond_true,wT];exact q1
   |false=>exact⟨0,s,rfl,by rw[stepE,hp];rfl,hi,hs⟩
 obtain⟨m,t,q1,q2,q3,q4⟩:=go (μ inits) inits (vr _) hk h0;have hreach:∀s,DX (D.step us) inits s->Inv s/\s.length=D.k:=by
  intro s hr;induction hr with
  |zero=>exact⟨h0,hk⟩
  |succ hr hst ih=>
   rename_i s1 s2;rw[stepE] at hst;cases hp:pcB (D.tab us s1) D.pcn with
   |true=>
    rw[hp] at hst;cases hst;exact⟨((key s1 ih.2 ih.1).2 (Iw.1 hp)).1,by simp[hnl]⟩
   |false=>rw[hp] at hst;cases hst
 have hlast:=XE q1 q2;have hT:∀j u,t[j]? =some u->T (D.nh+j)=u:=fun j u hj=>by
  have hjl:=(vu.1 hj).1;rw[hH j (by omega)];unfold Ag.res;rw[e1,e2,hlast];simp[List.getD,hj]
 refine⟨⟨by rw[e1,e2];exact⟨m,t,q1,q2⟩,fun s hr=>?_⟩,⟨t,q3,q4,hT⟩,fun hp=>?_⟩
 .rw[e1,e2] at hr;rw[e1];obtain⟨i1,i2⟩:=hreach s hr;exact GY (key s i2 i1).1
 .have hag:∀x,x∈D.fv\/(D.nh<=x/\x < top)->T x=D.tab us t x:=fun x hx=>by
   have:=KU (T1:=T) (T2:=(KO D.fv us).upds D.nh t) hfv hlo (fun y hy=>?_) sc1 x hx
   .rw[Lg hE] at this;exact this
   .rcases hy with hy|hy
    .rw[FG _ _ _ _ (hfv y hy),<-hus];exact (KN D.fv y hy).symm
    .have hj:y - D.nh < t.length:=by omega
     have h1:=Eo t (KO D.fv us) D.nh (y - D.nh) t[y - D.nh] (vt hj);have h2:=hT (y - D.nh) t[y - D.nh] (vt hj);rw[show D.nh+(y - D.nh)=y by omega] at h1 h2;rw[h1,h2]
  have:pcB (D.tab us t) D.pcn=true:=by
   cases hc:D.pcn with
   |none=>rfl
   |some c=>
    rw[hc] at hp sc2;have hcs:=Dm sc2 c (by simp[pcL]);rw[Iw];show D.tab us t c= .bool true;rw[<-hag c hcs];exact hp
  rw[stepE,this] at q2;cases q2
def Vl:Op2->String
 | .add=> "add" | .sub=> "sub" | .mul=> "mul" | .div=> "div" | .mod=> "mod" | .tdiv=> "tdiv" | .tmod=> "tmod" | .min=> "min" | .max=> "max"
def fu:BinOp->String
 | .and=> "and" | .or=> "or" | .xor=> "xor" |_=> "andNot"
def ip:Opn->Tg
 | .take=> "take" | .drop=> "drop" | .sub=> "cut" | .slen=> "slen" | .sat=> "sat"
 | .id _=> "id" | .not=> "not" | .and=> "and" | .or=> "or" | .lt=> "lt" | .le=> "le" | .eq=> "eq" | .ne=> "ne"
 | .eqs _=> "eqs" | .nes _=> "nes" | .eqb=> "eqb" | .neb=> "neb" | .ite _=> "if" | .ifb=> "ifb"
 | .o2 o=>Vl o| .w2 k o=>DQ k++ " " ++Vl o| .wx k o=>DQ k++ " " ++Vl o| .w1 k=>DQ k++ " id" | .wneg k=>DQ k++ " neg" | .neg=> "neg" | .bits o k=>DQ k++ " " ++fu o
 | .len=> "len" | .app=> "app" | .get t c=>RK (tyC t)++toString c| .mget t nk c _=> "m" ++RK (tyC t)++toString nk++ " " ++toString c| .mhas nk _=> "mhas " ++toString nk| .mset nk _=> "mset " ++toString nk| .pick _=> "pick" | .row _ s _=> "row " ++toString s| .rset c _=> "rset " ++toString c| .rep _=> "rep"
 | .outI tg _=>tg| .outB tg _=>tg| .outL tg _=>tg| .outS tg _=>tg| .res _ D j=>D.tg j
def im:PO->Tg
 | .take=> "take" | .sub=> "cut" | .nez=> "nez" | .t=> "t" | .inr=> "in" | .inl=> "inl" | .ins=> "ins" | .btw lo hi=> "between " ++toString lo++ " " ++toString hi| .fits b=> "fits " ++toString b| .ready=> "ready" | .ne=> "ne" | .pre tg _=>tg| .owes D=>D.tg 0
def En.ex (e:En):Nat × Ex:=(e.x,⟨ip e.op,opF e.op,e.rs⟩)
def ObE.ob (o:ObE):Ob:=⟨o.pc,⟨im o.po,poF o.po,o.rs⟩⟩
def mkD (nh k:Nat)(bes:List En)(pcn:Nat)(nxt:List Rf)(bos:List ObE)(fv:List Nat):Ag:=
 {nh,k,eqs:=(bes.map En.ex).reverse,pcn:=some pcn,nxt,obs:=bos.map ObE.ob,fv }
def hds:Nat->List Ty->Bo
 |_,[]=>[]
 |x,t::ts=>(x,t)::hds (x+1) ts
def hdU (T:Tab):Nat->List Ty->List U
 |_,[]=>[]
 |x,t::ts=>uV T t x::hdU T (x+1) ts
def uOf:Ty->U->U
 | .i,u=> .int u.toI
 | .b,u=> .bool u.toB
 | .l,u=> .list u.toL
 | .r _,u=>u
 | .s,u=> .str u.toS
def TyU:List Ty->List U->Prop
 |[],[]=>True
 |t::ts,u::us=>(u=uOf t u/\noR t=true)/\TyU ts us
 |_,_=>False
def FQ (fv:List Nat)(env:Bo):Bo:=env.filter fun p=>fv.contains p.1
section
variable {T:Tab}
theorem K0:∀{ts:List Ty} {rs:List Rf},ts.all noR=true->ts.length=rs.length->TyU ts (List.zipWith (uR T) ts rs)
 |[],[],_,_=>trivial
 |t::ts,r::rs,h0,h=>by
  simp only[List.all_cons,vo] at h0;exact⟨⟨by cases t<;>rfl,h0.1⟩,K0 h0.2 (by simpa using h)⟩
 |[],_::_,_,h=>by simp at h
 |_::_,[],_,h=>by simp at h
theorem NA:∀{ts:List Ty} {us:List U} {x:Nat},TyU ts us->(∀j u,us[j]? =some u->T (x+j)=u)->AK T (hds x ts)/\hdU T x ts=us
 |[],[],_,_,_=>⟨trivial,rfl⟩
 |t::ts,u::us,x,h,hT=>by
  obtain⟨h1,h2⟩:=NA (x:=x+1) h.2 fun j v hj=>by
   have:=hT (j+1) v (by simpa using hj);rw[show x+(j+1)=x+1+j by omega] at this;exact this
  have h0:T.get x=u:=hT 0 u rfl;have e:u=uV T t x:=by
   have:=h.1.1;cases t<;>(simp only[uV,uR,iR,bR,lR,stR,Rf.eval];rw[show T x=u from h0];try exact this)
  exact⟨⟨Ze t (h0.trans e) (fun c hc=>by have:=h.1.2;rw[hc] at this;cases this),h1⟩,by simp only[hdU];rw[h2,<-e]⟩
 |[],_::_,_,h,_=>h.elim
 |_::_,[],_,h,_=>h.elim
theorem C7 {T2:Tab}{fv:List Nat}(hfv:∀x∈fv,T2.get x=T.get x):∀{env:Bo},AK T env->AK T2 (FQ fv env)
 |[],_=>trivial
 |(x,t)::r,h=>by
  unfold FQ;rw[List.filter_cons];split
  .rename_i hc;have e:=hfv x (List.contains_iff_mem.1 hc);refine⟨?_,C7 hfv h.2⟩;cases t with
   |r c=>
    have h1:Ye T x c:=h.1;intro i;obtain⟨n,hn⟩:=h1 i;exact⟨n,by unfold L at hn⊢;rw[e];exact hn⟩
   |_=>
    have h1:=Sty.get h.1;show T2.get x=_;rw[e,h1];simp only[uV,uR,iR,bR,lR,stR,Rf.eval];rw[show T2 x=T x from e]
  .exact C7 hfv h.2
theorem Le (bes:List En):Ef (((bes.map En.ex).reverse).reverse)=bes.map En.be:=by
 rw[List.reverse_reverse];unfold Ef;rw[List.map_map];rfl
theorem Tb (bos:List ObE):HX (bos.map ObE.ob)=bos.map ObE.be:=by
 unfold HX;rw[List.map_map];rfl
def Ky (D:Ag)(args:List Rf):Nat->Nat->List BE
 |_,0=>[]
 |j,k+1=>(D.nh+j,D.res j,args)::Ky D args (j+1) k
theorem Lr {D:Ag}{args:List Rf}:∀{k j0:Nat},Ac T (Ky D args j0 k)->∀j,j < k->T (D.nh+(j0+j))=D.res (j0+j) (args.map (Rf.eval T))
 |0,_,_,j,hj=>by omega
 |k+1,j0,h,j,hj=>by
  cases j with
  |zero=>exact h.1
  |succ j=>
   have:=Lr h.2 j (by omega);rw[show j0+1+j=j0+(j+1) by omega] at this;exact this
theorem CK {env:Bo}{nh k pcn top:Nat}{bes:List En}{bos:List ObE}{nxt inits:List Rf}{fv:List Nat}{tys:List Ty}(hsc:(mkD nh k bes pcn nxt bos fv).inScope top=true)(hn:inits.length=k)(hn2:nxt.length=k)(hn3:tys.length=k)(hnr:tys.all noR=true)
  (hS:AK T env) (hini:Em env tys inits=true) (hchk:dl (hds nh tys++FQ fv env) bes tys nxt=true)
  (hB:Ac T (bes.map En.be)) (hH:Ac T (Ky (mkD nh k bes pcn nxt bos fv) (fv.map Rf.e++inits) 0 k))
  (Inv:List U->Prop) (μ:List U->Nat) (h0:Inv (List.zipWith (uR T) tys inits))
  (hstep:∀T2:Tab,(∀x∈fv,T2.get x=T.get x)->AH T2 bes->Inv (hdU T2 nh tys)->
   G5 T2 bos/\(B T2 pcn=true->Inv (List.zipWith (uR T2) tys nxt)/\μ (List.zipWith (uR T2) tys nxt) < μ (hdU T2 nh tys))):
  (mkD nh k bes pcn nxt bos fv).owes ((fv.map Rf.e++inits).map (Rf.eval T))/\AK T (hds nh tys)/\Inv (hdU T nh tys)/\¬B T pcn=true:=by
 have hI:inits.map (Rf.eval T)=List.zipWith (uR T) tys inits:=B7 hS hini;have hA:(fv.map Rf.e++inits).map (Rf.eval T)=fv.map T.get++List.zipWith (uR T) tys inits:=by
  rw[v7,hI,List.map_map];rfl
 have hH':=fun j (hj:j < k)=>Lr hH j hj;simp only[v8] at hH';rw[hA] at hH';rw[hA];have key:=Pu (D:=mkD nh k bes pcn nxt bos fv) (T:=T) (top:=top) (inits:=List.zipWith (uR T) tys inits) hsc (by simp[hn,hn3];rfl) hn2 (fun j hj=>hH' j hj)
  (fun p hp=>PS (l:=((mkD nh k bes pcn nxt bos fv).eqs).reverse) (by rw[show (mkD nh k bes pcn nxt bos fv).eqs=(bes.map En.ex).reverse from rfl,Le];exact hB) p (List.mem_reverse.2 hp))
  (fun s=>TyU tys s/\Inv s) μ ⟨K0 hnr (by omega),h0⟩ (fun T2 s hs hfv hhd hb hi=>by
   obtain⟨i1,i2⟩:=hi;obtain⟨s1,s2⟩:=NA i1 hhd;rw[show (mkD nh k bes pcn nxt bos fv).eqs=(bes.map En.ex).reverse from rfl,Le] at hb;obtain⟨f1,f2⟩:=BG (s1.append (C7 hfv hS)) hchk hb;obtain⟨g1,g2⟩:=hstep T2 hfv f1 (by rw[show hdU T2 nh tys=s from s2];exact i2);refine⟨by rw[show (mkD nh k bes pcn nxt bos fv).obs=bos.map ObE.ob from rfl,Tb];exact FA g1,fun hp=>?_⟩;obtain⟨g3,g4⟩:=g2 (VW (pc:=some pcn) hp);show (TyU tys (nxt.map (Rf.eval T2))/\Inv (nxt.map (Rf.eval T2)))/\μ (nxt.map (Rf.eval T2)) < μ s;rw[f2];rw[show hdU T2 nh tys=s from s2] at g4;exact⟨⟨K0 hnr (by omega),g3⟩,g4⟩)
 obtain⟨q1,⟨t,⟨q2,q3⟩,q4,q5⟩,q6⟩:=key;obtain⟨s1,s2⟩:=NA q2 q5;exact⟨q1,s1,by rw[show hdU T nh tys=t from s2];exact q3,fun h=>q6 (T5 (pc:=some pcn) h)⟩
end
open Go
theorem Lf {T:Tab}{env:Bo}{nh k pcn top:Nat}{bes:List En}{bos:List ObE}{nxt inits:List Rf}{fv:List Nat}{tys:List Ty}(hsc:(mkD nh k bes pcn nxt bos fv).inScope top=true)(hn:inits.length=k)(hn2:nxt.length=k)(hn3:tys.length=k)(hnr:tys.all noR=true)
  (hS:AK T env) (hini:Em env tys inits=true)
  (hB:Ac T (bes.map En.be)) (hH:Ac T (Ky (mkD nh k bes pcn nxt bos fv) (fv.map Rf.e++inits) 0 k))
  (Inv:List U->Prop) (μ:List U->Nat) (h0:Inv (List.zipWith (uR T) tys inits))
  (hstep:∀T2:Tab,(∀x∈fv,T2.get x=T.get x)->AK T2 (hds nh tys++FQ fv env)->Ac T2 (bes.map En.be)->Inv (hdU T2 nh tys)->
   nxt.map (Rf.eval T2)=List.zipWith (uR T2) tys nxt/\G5 T2 bos/\(B T2 pcn=true->Inv (List.zipWith (uR T2) tys nxt)/\μ (List.zipWith (uR T2) tys nxt) < μ (hdU T2 nh tys))):
  (mkD nh k bes pcn nxt bos fv).owes ((fv.map Rf.e++inits).map (Rf.eval T))/\AK T (hds nh tys)/\Inv (hdU T nh tys)/\¬B T pcn=true:=by
 have hI:inits.map (Rf.eval T)=List.zipWith (uR T) tys inits:=B7 hS hini;have hA:(fv.map Rf.e++inits).map (Rf.eval T)=fv.map T.get++List.zipWith (uR T) tys inits:=by
  rw[v7,hI,List.map_map];rfl
 have hH':=fun j (hj:j < k)=>Lr hH j hj;simp only[v8] at hH';rw[hA] at hH';rw[hA];have key:=Pu (D:=mkD nh k bes pcn nxt bos fv) (T:=T) (top:=top) (inits:=List.zipWith (uR T) tys inits) hsc (by simp[hn,hn3];rfl) hn2 (fun j hj=>hH' j hj)
  (fun p hp=>PS (l:=((mkD nh k bes pcn nxt bos fv).eqs).reverse) (by rw[show (mkD nh k bes pcn nxt bos fv).eqs=(bes.map En.ex).reverse from rfl,Le];exact hB) p (List.mem_reverse.2 hp))
  (fun s=>TyU tys s/\Inv s) μ ⟨K0 hnr (by omega),h0⟩ (fun T2 s hs hfv hhd hb hi=>by
   obtain⟨i1,i2⟩:=hi;obtain⟨s1,s2⟩:=NA i1 hhd;rw[show (mkD nh k bes pcn nxt bos fv).eqs=(bes.map En.ex).reverse from rfl,Le] at hb;obtain⟨f2,g1,g2⟩:=hstep T2 hfv (s1.append (C7 hfv hS)) hb (by rw[show hdU T2 nh tys=s from s2];exact i2);refine⟨by rw[show (mkD nh k bes pcn nxt bos fv).obs=bos.map ObE.ob from rfl,Tb];exact FA g1,fun hp=>?_⟩;obtain⟨g3,g4⟩:=g2 (VW (pc:=some pcn) hp);show (TyU tys (nxt.map (Rf.eval T2))/\Inv (nxt.map (Rf.eval T2)))/\μ (nxt.map (Rf.eval T2)) < μ s;rw[f2];rw[show hdU T2 nh tys=s from s2] at g4;exact⟨⟨K0 hnr (by omega),g3⟩,g4⟩)
 obtain⟨q1,⟨t,⟨q2,q3⟩,q4,q5⟩,q6⟩:=key;obtain⟨s1,s2⟩:=NA q2 q5;exact⟨q1,s1,by rw[show hdU T nh tys=t from s2];exact q3,fun h=>q6 (T5 (pc:=some pcn) h)⟩
def TU (D:Ag)(rs:List Rf):Nat->Nat->List Ty->List En
 |_,_,[]=>[]
 |j,x,t::ts=>⟨x,.res t D j,rs⟩::TU D rs (j+1) (x+1) ts
def BS (D:Ag)(tys:List Ty)(rs:List Rf):List En:=TU D rs 0 D.nh tys
theorem SU {T:Tab}{D:Ag}{rs:List Rf}:∀{tys:List Ty} {j:Nat},Ac T ((TU D rs j (D.nh+j) tys).map En.be)->Ac T (Ky D rs j tys.length)
 |[],_,_=>trivial
 |_::_,_,h=>⟨h.1,SU h.2⟩
theorem BV {T:Tab}{D:Ag}{rs:List Rf}{tys:List Ty}(h:Ac T ((BS D tys rs).map En.be)):Ac T (Ky D rs 0 tys.length):=SU (j:=0) h
theorem fvI {T T2:Tab}{x:Nat}(h:T2.get x=T.get x):I T2 x=I T x:=by unfold I;rw[h]
theorem fvB {T T2:Tab}{x:Nat}(h:T2.get x=T.get x):B T2 x=B T x:=by unfold B;rw[h]
theorem fvL {T T2:Tab}{x:Nat}(h:T2.get x=T.get x):L T2 x=L T x:=by unfold L;rw[h]
abbrev k64:Kd:= .int .i64 IntKind.i64.min IntKind.i64.max
abbrev C4 (x:Nat):AC:= .i .i64 IntKind.i64.min IntKind.i64.max x
end
section
open Go Go.RowKit
mutual
theorem KdU.up {B:Nat}(hB:B<=AF):∀{k:Kd} {u:U},KdU B k u->KdU AF k u
 | .int _ _ _,_,h=>h
 | .bool,_,h=>h
 | .str,_,⟨s,e,h⟩=>⟨s,e,wI h hB⟩
 | .val,_,_=>trivial
 | .any,_,_=>trivial
 | .list _,_,⟨l,e,h1,h2⟩=>⟨l,e,wI h1 hB,fun i us hi=>AT.up hB (h2 i us hi)⟩
theorem AT.up {B:Nat}(hB:B<=AF):∀{ks:List Kd} {us:List U},AT B ks us->AT AF ks us
 |[],_,h=>h
 |_::_,_,⟨u,us',e,h1,h2⟩=>⟨u,us',e,KdU.up hB h1,AT.up hB h2⟩
end
def RE (B:Nat)(T:Tab):Nat->List Kd->Prop
 |_,[]=>True
 |x,.list _::ks=>(L T x).length<=B/\RE B T (x+1) ks
 |x,_::ks=>RE B T (x+1) ks
theorem Wt {B:Nat}{T:Tab}:∀{ks:List Kd} {us:List U} {x:Nat},AT B ks us->(∀j u,us[j]? =some u->T (x+j)=u)->RE B T x ks
 |[],us,x,_,_=>trivial
 |k::ks,us,x,⟨u,us',e,h1,h2⟩,hT=>by
  subst e;have ih:=Wt (x:=x+1) h2 fun j v hj=>by
   have:=hT (j+1) v (by simpa using hj);rw[show x+(j+1)=x+1+j by omega] at this;exact this
  have h0:T.get x=u:=hT 0 u rfl;cases k with
  |list es=>
   obtain⟨n,e1,e2,_⟩:=h1;rw[e1] at h0;exact⟨by rw[vL h0];exact e2,ih⟩
  |_=>exact ih
def TG (n:Nat)(r:Option (AC × Mem × G)):Option (Nat × List BE × List BO):=
 match r with
 |some (.b x,_,g)=>if KM n g then some (x,Ef g.eqs.reverse,HX g.obs) else none
 |_=>none
def UY (P:Program)(l:List (FuncId × AV))(AW:FuncId->C2)(fuel depth:Nat)(f:FuncId)(as:List AC)(n:Nat):Option (AC × Mem × G):=
 EQ P (Jy l) AW fuel depth Ys.none f as none [] { n,eqs:=[],obs:=[] }
theorem Tz {P:Program}{w:World}{B:Nat}{H:Type}{enc:TypeId × Value->H}{sp:Nat->Bool}{held:Bool}{base:Nat}(hB:B<=AF)(hm:P.follows .mixedOrders=true){l:List (FuncId × AV)}(hl:∀p∈l,Ae P p.1 p.2){AW:FuncId->C2}{fuel depth dd:Nat}{f:FuncId}{ts:List TypeId}{as:List AC}{ks:List Kd}{x:Nat}{es:List En}{os:List ObE}
  (hargs:Fd P dd ts 0=some (as,ks)) (hrun:TG ks.length (UY P l AW fuel depth f as ks.length)=some (x,es.map En.be,os.map ObE.be))
  (hplain:∀T:Tab,AK T (BK 0 ks)->Bnd T 0 ks->RE B T 0 ks->Ac T (es.map En.be)->G5 T os/\Go.Eng.B T x=true)
  {vs:List Value} {ds:List (DataW H)} {ps:List MemPlace} (ht:DataW.TrodAll enc P w 0 sp held ts vs ds ps) (hv:∀(j:Nat) t v,ts[j]? =some t->vs[j]? =some v->Value.okWide P w .any base t v) (hs:∀d∈ds,Cv B d):
  Calls P f (vs:List Value).toArray w fun e W'=>e= .returned (.bool true)/\Below w.heap.size w W':=by
 unfold TG at hrun;split at hrun
 .rename_i x0 m' g' hr;split at hrun
  .rename_i hchk;injection hrun with hrun
   injection hrun with e0 hrun
   injection hrun with e1 e2
   refine gx hB hm hl hargs hr hchk (fun T us hk hlen hT heqs=>?_) ht hv hs;have hb:Ac T (Ef g'.eqs.reverse):=Is fun p hp=>heqs p (List.mem_reverse.1 hp);rw[e1] at hb;have hT0:∀j u,us[j]? =some u->T (0+j)=u:=fun j u hj=>by rw[v8];exact hT j u hj
   obtain⟨i1,i2⟩:=NS (x:=0) (AT.up hB hk) hT0;obtain⟨h1,h2⟩:=hplain T i1 i2 (Wt hk hT0) hb;have h3:=FA h1;rw[<-e2] at h3;refine⟨GY h3,?_⟩;rw[e0];exact T5 (pc:=some x) h2
  .cases hrun
 .cases hrun
end
section
open Go
abbrev Knw:=List (Nat × Ty × Rf)
def look:Knw->Nat->Ty->Option Rf
 |[],_,_=>none
 |(y,t,r)::l,x,u=>bif Nat.beq y x&&KX t u then some r else look l x u
inductive SE where
 |k (t:Ty) (r:Rf)
 |q (op:Opn) (rs:List Rf)
open Go
end
section
open Go
theorem AH.cut {T:Tab}{a b:List En}(h:AH T (a++b)):AH T a/\AH T b:=⟨h.left,h.right⟩
theorem zN:(∀(T:Tab) (x:Nat),bR T (.n x)= !B T x)/\(∀b:Bool,((!b)=true)=(b=false))/\(∀b:Bool,(¬b=true)=(b=false)):=
 ⟨fun T x=>bR_n,fun b=>Bool.not_eq_true' b,fun b=>Bool.not_eq_true b⟩
theorem zC:(∀(T:Tab) (b:Bool),bR T (.c (.bool b))=b)/\((false=true)=False)/\(∀{α:Sort 1} (a:α),(a=a)=True)/\(∀p:Prop,(p/\True)=p)/\(∀p:Prop,(p/\False)=False)/\(∀p:Prop,(p\/False)=p)/\(∀p:Prop,(False\/p)=p)/\(∀p:Prop,(True/\p)=p)/\(∀p:Prop,(False/\p)=False):=
 ⟨fun T b=>pr,wM,fun a=>eq_self a,and_true,and_false,or_false,false_or,true_and,false_and⟩
open Go
open Go
theorem zR:(∀(T:Tab) (x:Nat),iR T (.e x)=I T x)/\(∀(T:Tab) (n:Int),iR T (.c (.int n))=n):=
 ⟨fun T x=>iR_e,fun T n=>qC⟩
theorem zL:(∀(T:Tab) (x:Nat),lR T (.e x)=L T x)/\(∀T:Tab,lR T (.c (.list []))=[]):=
 ⟨fun T x=>lR_e,fun T=>ru⟩
theorem zS:(∀(T:Tab) (x:Nat),stR T (.e x)=S T x)/\(∀(T:Tab) (s:ByteArray),stR T (.c (.str s))=s):=
 ⟨fun T x=>jB,fun T s=>jA⟩
theorem zW:(∀(f:Ty->Rf->U) (a:Ty) (b:Rf) (l:List Ty) (r:List Rf),List.zipWith f (a::l) (b::r)=f a b::List.zipWith f l r)/\(∀(f:Ty->Rf->U) (r:List Rf),List.zipWith f [] r=[])/\(∀(a:U) (l:List U) (n:Nat),List.take (n+1) (a::l)=a::List.take n l)/\(∀l:List U,List.take 0 l=[])/\(∀(a:U) (l:List U) (n:Nat),List.drop (n+1) (a::l)=List.drop n l)/\(∀l:List U,List.drop 0 l=l):=
 ⟨fun _ _ _ _ _=>rfl,fun _ _=>rfl,fun _ _ _=>rfl,fun _=>rfl,fun _ _ _=>rfl,fun _=>rfl⟩
end
section
def Da:List Int:=[10,9,8,7,6,6,5,5,4,4,3,3,3,2,2,2,1,1,1,1]
def D8:List Int->Int->Int
 |[],_=>0
 |a::l,n=>if n<=0 then a else D8 l (n - 1)
def Ar (a b:Int)(level:Bool):Int:=
 if level=true then (if a < b then 20 - D8 Da (min ((b - a) / 100) 19) else D8 Da (min ((a - b) / 100) 19)) else 10
def BU (g:Int):Int:=if g<=0 then 2000 - 40*g else 2000 - 50*g
def Ax (x by_:Int):Int:=min (max (x+by_) (-10000)) 10000
def QQ (x:Int):Nat->Int->Int
 |0,g=>g
 |n+1,g=>if BU (g - 1)<=x then QQ x n (g - 1) else g
def upN (x:Int):Nat->Int->Int
 |0,g=>g
 |n+1,g=>if x<=BU (g+1) then upN x n (g+1) else g
def BX (x g:Int):Int:=QQ x (g+12).toNat g
def upG (x g:Int):Int:=upN x (48 - g).toNat g
def CT (x g:Int):Int:=upG x (BX x g)
theorem Rz {x g:Int}(h: -12 < g)(h2:BU (g - 1)<=x):BX x g=BX x (g - 1):=by
 unfold BX;rw[show (g+12).toNat=(g - 1+12).toNat+1 by omega];show (if _ then _ else _)=_;rw[if_pos h2]
theorem J2 {x g:Int}(h:¬(-12 < g/\BU (g - 1)<=x)):BX x g=g:=by
 unfold BX;cases e:(g+12).toNat with
 |zero=>rfl
 |succ n=>
  show (if _ then _ else _)=_;rw[if_neg fun a=>h ⟨by omega,a⟩]
theorem Q5 {x g:Int}(h:g < 48)(h2:x<=BU (g+1)):upG x g=upG x (g+1):=by
 unfold upG;rw[show (48 - g).toNat=(48 - (g+1)).toNat+1 by omega];show (if _ then _ else _)=_;rw[if_pos h2]
theorem Kr {x g:Int}(h:¬(g < 48/\x<=BU (g+1))):upG x g=g:=by
 unfold upG;cases e:(48 - g).toNat with
 |zero=>rfl
 |succ n=>
  show (if _ then _ else _)=_;rw[if_neg fun a=>h ⟨by omega,a⟩]
theorem RN {x:Int}(n:Nat):∀g:Int,g+12=n-> -12<=QQ x n g/\QQ x n g<=g:=by
 induction n with
 |zero=>exact fun g h=>⟨by show -12<=g;omega,Int.le_refl _⟩
 |succ n ih=>
  intro g h;unfold QQ;split
  .have:=ih (g - 1) (by omega);omega
  .omega
theorem fH {x:Int}(n:Nat):∀g:Int,48 - g=n->g<=upN x n g/\upN x n g<=48:=by
 induction n with
 |zero=>exact fun g h=>⟨Int.le_refl _,by show g<=48;omega⟩
 |succ n ih=>
  intro g h;unfold upN;split
  .have:=ih (g+1) (by omega);omega
  .omega
theorem cI {x g:Int}(h: -12<=g)(h2:g<=48): -12<=CT x g/\CT x g<=48:=by
 have a:=RN (x:=x) (g+12).toNat g (by omega);have b:=fH (x:=x) (48 - BX x g).toNat (BX x g) (by unfold BX;omega);show -12<=upN _ _ _/\upN _ _ _<=48;unfold BX at*;omega
end
section
open Go Go.RowKit
theorem AE.below {T:Tab}{n:Nat}{ρ :Nat->Option Nat}{w w':World}(h:Below w.heap.size w w'):AE T n ρ [] w ρ [] w' where
 os:=h.os
 tape:=h.tape
 output:=h.output
 size:=h.size
 mlen:=fun _ h=>h
 rho:=fun id h=>by simp[Mem.at,Blk.ptrOk] at h
 untr:=fun _ _ h=>h
 fresh:=fun id b _ h _=>by simp[Mem.at,Blk.tracked] at h
 old:=fun k hk _=>h.block k hk
 tok:=fun id x ks e h=>by simp[Mem.at] at h
 row:=fun id x y ks e h=>by simp[Mem.at] at h
theorem AD.below {T:Tab}{n n':Nat}{ρ ρ':Nat->Option Nat}{w w':World}(hm:AD T n ρ [] w)(h:Below w.heap.size w w'):AD T n' ρ' [] w' where
 blk:=fun id=>by simp[Mem.at,BB]
 inj:=fun id id' b h=>by simp[Mem.at,Blk.tracked] at h
 fr:=fun b off hb=>hm.fr b off (wI h.size hb)
theorem PZ {P:Program}{f:FuncId}{t:AV}(hb:t.blks=[])(hm':t.m'=[])(hlook:∃fn,P.funcs[f]? =some fn/\fn.body.isSome=true/\(fn.name== "runtime.NumGoroutine")=false)
  (h:∀(T:Tab) (us:List U),us.length=t.n->(∀j u,(t.us us)[j]? =some u->T j=u)->(∀p∈t.pre,p.2 us)->∀ ρ w vs,AB T t.n ρ [] w t.args vs->
   Calls P f (vs:List Value).toArray w fun e w'=>∃v,e= .returned v/\Below w.heap.size w w'/\AA T (t.n+t.outs.length) ρ [] w' t.c v) (hr:t.row=none:=by rfl):Ae P f t:=by
 refine⟨fun _=>⟨⟨0,[],.nil⟩, #[],.skip,.skip,[]⟩,fun T us _ hl hT hp ρ w vs hv hm=>⟨hlook,?_⟩⟩;have em:t.m=[]:=by unfold AV.m;rw[hr,hb];rfl
 rw[em] at hv hm⊢;rw[hm'];exact (h T us hl hT hp ρ w vs hv).mono fun e w' ⟨v,e1,e2,e3⟩=>⟨v, ρ,e1,AE.below e2,hm.below e2,e3⟩
end
section
open Go Go.RowKit
open Go.ChangeMaps (setBlock)
section
variable {P:Program}{T:Tab}{n:Nat}{ρ :Nat->Option Nat}{m:Mem}{w w':World}{a:Act}{l:Loc}{r:Option Nat}{kk:Nat}
theorem AE.off {k n':Nat}{ρ':Nat->Option Nat}{m':Mem}(hs:AE T n' ρ m w ρ' m' w')(hk:k < w.heap.size)(hno:∀id,(m.at id).tracked=true-> ρ id≠some k):∀id,(m'.at id).tracked=true-> ρ' id≠some k:=fun id ht he=>by
 rcases hs.back ht he with h|⟨h1,h2⟩
 .omega
 .exact hno id h1 h2
theorem Co.put {B D:Nat}{o:Obj}{ds:List Deferred}(h:Co B ρ m w ds)(hn:∀x,w.heap[D]? ≠some (.deferred x)):Co B ρ m (w.putObj D o) ds:=by
 obtain⟨h0,Ds,h1,h2,h3⟩:=h;refine⟨by rw[World.putObj_size];exact h0,Ds,h1,h2,fun D' hD=>?_⟩;obtain⟨k0,k1,k2⟩:=h3 D' hD;exact⟨k0,by rw[World.putObj_heap_other (fun e=>by subst e;exact hn _ k1)];exact k1,k2⟩
theorem Ck {d:Tmp}{v:Value}(h:d < a.tmps.size):(a.put (some d) v).eval (.tmp d)=v:=by
 simp[Act.put,Act.eval,vy,h]
theorem Cl {d i:Tmp}{v:Value}(h:i≠d):(a.put (some d) v).eval (.tmp i)=a.eval (.tmp i):=by
 simp[Act.put,Act.eval,vy,Array.getElem?_setIfInBounds_ne (Ne.symm h)]
theorem Bz {d:Option Tmp}{v:Value}:(a.put d v).tmps.size=a.tmps.size:=by cases d<;>simp[Act.put]
theorem Rel.putNone {d:Tmp}(h:Rel T n ρ l a w)(hd:l.tmps.get d=none)(v:Value):Rel T n ρ l (a.put (some d) v) w:=by
 refine⟨h.defers,by rw[Bz];exact h.size,fun i c hc=>?_,h.mem⟩;have hne:i≠d:=fun e=>by subst e;rw[hd] at hc;cases hc
 have:(a.put (some d) v).tmps.getD i undef=a.tmps.getD i undef:=Cl hne;rw[this];exact h.tmps i c hc
theorem Bf {ops:Array Oper}{i:Nat}{rest:List Nat}{o:Oper}{Q:Exit->Act->World->Prop}(ho:ops[i]? =some o)(hg:o.guard=none)(h:o.wpIn (fen r) kk P a w (wpOpsIn (fen r) kk P ops Q rest) Q):
  wpOpsIn (fen r) kk P ops Q (i::rest) a w:=by
 simp only[wpOpsIn,ho];rw[if_pos (by simp[Region.wanted,hg])];exact h
theorem DE {o:Oper}{v:Value}{K:Act->World->Prop}{Q:Exit->Act->World->Prop}(ho:∀c,o.op≠ .defer c)(h:(execOp a.eval o).run P w= .ok (.value v) w')(hK:K (a.put o.dst v) w'):o.wpIn (fen r) kk P a w K Q:=
 GU ho (by rw[h];exact hK)
theorem On {o:Oper}{x:Operand}(ho:o.op= .move x):(execOp a.eval o).run P w= .ok (.value (a.eval x)) w:=by
 simp[execOp,ho]
theorem Kh {o:Oper}{x:Operand}{i:Nat}{vs:Array Value}{v:Value}(ho:o.op= .extract x i)(hx:a.eval x= .tuple vs)(hi:vs[i]? =some v):(execOp a.eval o).run P w= .ok (.value v) w:=by
 simp[execOp,ho,hx,Instr.extract,hi]
theorem ZS {o:Oper}{x:Operand}{t:TypeId}{v:Value}(ho:o.op= .range t x)(h:(Instr.range t (a.eval x)).run P w= .ok v w'):(execOp a.eval o).run P w= .ok (.value v) w':=by
 simp[execOp,ho,h]
theorem TR {o:Oper}{x:Operand}{v:Value}(ho:o.op= .next x false)(h:(Instr.next (a.eval x) false o.type).run P w= .ok v w'):(execOp a.eval o).run P w= .ok (.value v) w':=by
 simp[execOp,ho,h]
theorem Za {o:Oper}{x:Operand}{v:Value}(ho:o.op= .entry x)(h:(Instr.entry (a.eval x)).run P w= .ok v w'):(execOp a.eval o).run P w= .ok (.value v) w':=by
 simp[execOp,ho,h]
theorem Cw.drew (T:Tab)(n:Nat)(ρ :Nat->Option Nat)(m:Mem)(B:Nat)(w:World)(hm:AD T n ρ m w):Cw T n ρ m B w w.drew:=
 ⟨rfl,rfl,rfl,rfl,fun _ _=>rfl,fun c v hh=>AA.mono (AE.drawn T n ρ m w (w.drawn+1)) hm (vr _) c v hh,fun hh=>hh.drawn (w.drawn+1)⟩
end
structure RgP where
 di:Tmp
 dn:Tmp
 db:Tmp
 de:Tmp
 dv:Tmp
 bid:Nat
 bi:Nat
 i2:Nat
 i3:Nat
 o1:Oper
 o2:Oper
 o3:Oper
 o4:Oper
 l3:List Oper
 rest:Code
def RgP.ops3 (p:RgP):Array Oper:=(p.o3::p.o4::p.l3).toArray
def RgP.body (p:RgP):Code:= .seq (.region p.i2 [p.o1,p.o2].toArray false) (.seq (.cond (.tmp p.db) .skip (.exit p.bid)) (.block p.bi (.seq (.region p.i3 p.ops3 false) p.rest)))
structure RgP.Ok (p:RgP):Prop where
 o1:p.o1.op= .next (.tmp p.di) false/\p.o1.dst=some p.dn/\p.o1.guard=none
 o2:p.o2.op= .extract (.tmp p.dn) 0/\p.o2.dst=some p.db/\p.o2.guard=none
 o3:p.o3.op= .entry (.tmp p.di)/\p.o3.dst=some p.de/\p.o3.guard=none
 o4:p.o4.op= .extract (.tmp p.de) 1/\p.o4.dst=some p.dv/\p.o4.guard=none
def RgP.free (p:RgP)(t:AO):Bool:=[p.dn,p.db,p.de,p.dv].all fun d=>(t.get d).isNone&&Nat.blt d t.n&& !Nat.beq p.di d
theorem W6 {p:RgP}{t:AO}(h:p.free t=true):∀d∈[p.dn,p.db,p.de,p.dv],t.get d=none/\d < t.n/\p.di≠d:=fun d hd=>by
 have:=wR.1 h d hd;rw[vo,vo] at this;exact⟨by simpa using this.1.1,by simpa using this.1.2,fun e=>by have h2:=this.2;rw[(DD _ _).2 e] at h2;cases h2⟩
section
variable {P:Program}{T:Tab}{n:Nat}{ρ :Nat->Option Nat}{w w':World}{a:Act}{l:Loc}{kk:Nat}
theorem gF {p:RgP}(hp:p.Ok){bm rr since:Nat}{seen:Array Nat}{es:Array MapEntry}{Q:Exit->Act->World->Prop}
  (hf:p.free l.tmps=true) (hR:Rel T n ρ l a w) (hdi:a.eval (.tmp p.di)= .pointer (some ⟨rr,0,none⟩))
  (hr:w.heap[rr]? =some (.mapIter (some bm) since seen since)) (hb:w.heap[bm]? =some (.map es since)) (hold:∀x∈es.toList,x.born < since)
  (hK:(leftOf es seen).size=0->∀a',Rel T n ρ l a' w->a'.eval (.tmp p.db)= .bool false->Q .normal a' w)
  (hE:∀e∈(leftOf es seen).toList,∀w1,(w1=w\/w1=w.drew)->∀a',(∀w2,Rel T n ρ l a w2->Rel T n ρ l a' w2)->a'.eval (.tmp p.db)= .bool true->a'.eval (.tmp p.di)= .pointer (some ⟨rr,0,none⟩)->
   Q .normal a' (setBlock w1 rr (.mapIter (some bm) since (seen.push e.born) since))):
  (Code.region p.i2 [p.o1,p.o2].toArray false).wpIn (fen none) kk P Q a w:=by
 have fr:=W6 hf;have f1:=fr p.dn (by simp);have f2:=fr p.db (by simp);have hsz:a.tmps.size=l.tmps.n:=hR.size;refine wpIn_region ?_;show wpOpsIn (fen none) kk P [p.o1,p.o2].toArray Q [0,1] a w;refine Bf (o:=p.o1) rfl hp.o1.2.2 ?_;rcases run_next_at (P:=P) w p.o1.type rr bm since since seen es since hr hb hold (vr _) with⟨h0,h1⟩|⟨e,he,w1,hw1,h1⟩
 .refine DE (by rw[hp.o1.1];exact fun c h=>by cases h) (TR hp.o1.1 (by rw[hdi];exact h1)) ?_;rw[hp.o1.2.1];refine Bf (o:=p.o2) rfl hp.o2.2.2 ?_;refine DE (by rw[hp.o2.1];exact fun c h=>by cases h) (Kh hp.o2.1 (Ck (by rw[hsz];exact f1.2.1)) (v:= .bool false) rfl) ?_;rw[hp.o2.2.1];exact hK h0 _ ((hR.putNone f1.1 _).putNone f2.1 _) (Ck (by rw[Bz,hsz];exact f2.2.1))
 .refine DE (by rw[hp.o1.1];exact fun c h=>by cases h) (TR hp.o1.1 (by rw[hdi];exact h1)) ?_;rw[hp.o1.2.1];refine Bf (o:=p.o2) rfl hp.o2.2.2 ?_;refine DE (by rw[hp.o2.1];exact fun c h=>by cases h) (Kh hp.o2.1 (Ck (by rw[hsz];exact f1.2.1)) (v:= .bool true) rfl) ?_;rw[hp.o2.2.1];refine hE e he w1 hw1 _ (fun w2 h2=>(h2.putNone f1.1 _).putNone f2.1 _) (Ck (by rw[Bz,hsz];exact f2.2.1)) ?_;rw[Cl f2.2.2,Cl f1.2.2];exact hdi
def QL:Kd->Bool| .int .. =>true| .bool=>true| .str=>true|_=>false
theorem cV {ok ok':Nat->Nat->Prop}{w w':World}{k:Kd}{u:U}{v:Value}(h:QL k=true)(hh:AM ok w k u v):AM ok' w' k u v:=by
 cases k<;>first|exact hh|cases h
def K7:List Kd->Nat->List AC
 |[],_=>[]
 |k::ks,n=>IG k n::K7 ks (n+1)
def No (ks:List Kd)(va:Bool)(n:Nat):AC:=if va then .agg (K7 ks n) else (K7 ks n).headD .any
theorem P9 {m:Mem}{ok:Nat->Nat->Prop}{w0:World}:∀{ks:List Kd} {us:List U} {vs:List Value} {n0:Nat},ks.all QL=true->AJ ok w0 ks us vs->(∀j u,us[j]? =some u->T (n0+j)=u)->n0+ks.length<=n->AB T n ρ m w (K7 ks n0) vs
 |[],_,_,_,_,h,_,_=>h.2
 |k::ks,_,_,n0,hk,⟨u,us',v,vs',e1,e2,h1,h2⟩,hT,hn=>by
  subst e1 e2;simp only[List.all_cons,vo] at hk;simp only[wQ] at hn;refine⟨v,vs',rfl,Dw (by omega) ?_,P9 hk.2 h2 (fun j u' hj=>?_) (by omega)⟩
  .rw[show T n0=u from hT 0 u rfl];exact cV hk.1 h1
  .rw[show n0+1+j=n0+(j+1) by omega];exact hT (j+1) u' (by simpa using hj)
theorem eg {m:Mem}{ok:Nat->Nat->Prop}{w0:World}{ks:List Kd}{va:Bool}{us:List U}{v:Value}{n0:Nat}(hk:ks.all QL=true)(h:Bn ok w0 ks va us v)(hT:∀j u,us[j]? =some u->T (n0+j)=u)(hn:n0+ks.length<=n):
  AA T n ρ m w (No ks va n0) v:=by
 obtain⟨vs,h1,h2⟩:=h;have hc:=P9 (n:=n) (ρ := ρ) (m:=m) (w:=w) hk h1 hT hn;unfold No;cases va with
 |true=>
  simp only[if_true] at h2⊢;exact⟨vs,h2,hc⟩
 |false=>
  simp only[wM,if_false] at h2⊢;subst h2;cases hx:K7 ks n0 with
  |nil=>trivial
  |cons c cs=>
   rw[hx] at hc;obtain⟨u,us2,e,h3,_⟩:=hc;cases e;exact h3
theorem Zd {es:List MapEntry}{base:Nat}(hb:∀(i:Nat) (e:MapEntry),es[i]? =some e->e.born=base+i):(es.map (·.born)).Nodup:=by
 refine List.pairwise_iff_getElem.2 fun i j hi hj hij=>?_;simp only[List.length_map] at hi hj;simp only[List.getElem_map];rw[hb i _ (vt hi),hb j _ (vt hj)];omega
theorem cZ {es:List MapEntry}{base:Nat}(hb:∀(i:Nat) (e:MapEntry),es[i]? =some e->e.born=base+i){is:List Nat}{e:MapEntry}(h:e∈(leftOf es.toArray (is.map (base+ ·)).toArray).toList):
  ∃i,es[i]? =some e/\i ∉ is/\e.born=base+i:=by
 simp only[leftOf,Array.toList_filter,List.mem_filter] at h;obtain⟨h1,h2⟩:=h;obtain⟨i,hi⟩:=wP.1 h1;refine⟨i,hi,fun hx=>?_,hb i e hi⟩;rw[hb i e hi] at h2;simp at h2;exact h2 hx
theorem Zs {es:List MapEntry}{base:Nat}(hb:∀(i:Nat) (e:MapEntry),es[i]? =some e->e.born=base+i){is:List Nat}(h:(leftOf es.toArray (is.map (base+ ·)).toArray).size=0){i:Nat}(hi:i < es.length):i∈is:=by
 have h0:leftOf es.toArray (is.map (base+ ·)).toArray= #[]:=Array.eq_empty_of_size_eq_zero h;unfold leftOf at h0;rw[Array.filter_eq_empty_iff] at h0;have h1:=h0 es[i] (by simp);rw[hb i _ (vt hi)] at h1;simp at h1;exact h1
end
theorem JS:∀(n:Nat) (is:List Nat),is.Nodup->(∀j∈is,j < n)->is.length<=n
 |0,is,_,h=>by
  cases is with
  |nil=>exact vr _
  |cons a l=>exact absurd (h a (wA ..)) (by omega)
 |n+1,is,hn,h=>by
  have h1:=JS n (is.erase n) (hn.erase n) (fun j hj=>by
   have:=(hn.mem_erase_iff).1 hj;have:=h j this.2;omega)
  rw[List.length_erase] at h1;split at h1<;>omega
structure Uk (P:Program) (call:Ak) (hint:C2) (ys:Ys) (fuel:Nat) (p:RgP) (pc:PC) (n1:Nat) (hd:Loc) (idr:Nat) (vk:List Kd) (va:Bool) (s1:RS) (pc2:PC) (l2:Loc) (g2:G) (z:Rf) (ps:List Pr) (fv:List Nat):Prop where
 di:hd.tmps.get p.di=some (.ptr idr 0)
 gone:hd.mem.at idr= .gone
 free:p.free hd.tmps=true
 flat:vk.all QL=true
 steps:Cr P call ys p.ops3 pc p.l3 ⟨hd.tmps.set p.dv (No vk va (n1+1)),hd.mem,⟨n1+1+vk.length,[],[],[]⟩,[]⟩=some s1
 code:Bd P call hint false ys fuel p.bi p.rest pc ⟨s1.tmps.commit hint.keep,s1.mem⟩ s1.g=some ([⟨.normal,pc2,l2⟩],g2)
 mat:Do [] n1 [z] hd l2=some ps
 scope:B9 fv n1 (n1+1+vk.length) g2.n g2.eqs=true
 fvs:fv.all (fun x=>Nat.blt x n1)=true
 lps:g2.lps=[]
section
variable {P:Program}{call:Ak}{hint:C2}{ys:Ys}{fuel:Nat}{p:RgP}{pc:PC}{n1:Nat}{hd:Loc}{idr:Nat}{vk:List Kd}{va:Bool}{s1:RS}{pc2:PC}{l2:Loc}{g2:G}{z:Rf}{ps:List Pr}{fv:List Nat}{kk:Nat}
theorem Z2 (hm:P.follows .mixedOrders=true)(hcall:∀T,CS P T call)(hys:∀lp,CL P lp ys)(hp:p.Ok)
  (E:Uk P call hint ys fuel p pc n1 hd idr vk va s1 pc2 l2 g2 z ps fv) {T:Tab} (hpc:pcv T pc) (hpl:∀c,pc=some c->c < n1)
  {l:List (List U)} {es:List MapEntry} {base bm rr kl:Nat} (hlen:es.length=l.length) (hborn:∀(i:Nat) (e:MapEntry),es[i]? =some e->e.born=base+i)
  (hval:∀(i:Nat) us e,l[i]? =some us->es[i]? =some e->∃u1 u2 ok w0,us=u1++u2/\u1.length=kl/\Bn ok w0 vk va u2 e.val)
  {F:List U->List (List U)}
  (law:∀(T':Tab) (is:List Nat) (i:Nat) (us:List U) (out:List (List U)),Bp T T' n1->is.Nodup->(∀j∈is,j < l.length)->i ∉ is->l[i]? =some us->out=(is.map fun j=>l.getD j []).flatMap F->T' n1= .list out->
   (∀j u,(us.drop kl)[j]? =some u->T' (n1+1+j)=u)->(∀q∈g2.eqs,T' q.1=q.2.eval T')->(∀q∈g2.obs,q.holds T')/\(pcv T' pc2->(∀q∈ps,q.holds T')/\z.eval T'= .list (out++F us)))
  {n0:Nat} {ρ0:Nat->Option Nat} {m0:Mem} {w0:World} (hm0:AD T n0 ρ0 m0 w0) (hn0:n0<=n1) (hr0:w0.heap.size<=rr)
  {Q:Exit->Act->World->Prop}
  (hQ:∀(is:List Nat) (out:List (List U)) ρ1 a1 w1,is.Perm (List.range l.length)->out=(is.map fun j=>l.getD j []).flatMap F->Rel (T.upd n1 (.list out)) (n1+1) ρ1 hd a1 w1->AE (T.upd n1 (.list out)) n0 ρ0 m0 w0 ρ1 hd.mem w1->Q .normal a1 w1):
  ∀(k:Nat) (is:List Nat) (out:List (List U)) ρ1 a1 w1,l.length - is.length<=k->is.Nodup->(∀j∈is,j < l.length)->out=(is.map fun j=>l.getD j []).flatMap F->
   Rel (T.upd n1 (.list out)) (n1+1) ρ1 hd a1 w1->AE (T.upd n1 (.list out)) n0 ρ0 m0 w0 ρ1 hd.mem w1-> ρ1 idr=some rr->
   w1.heap[rr]? =some (.mapIter (some bm) (base+es.length) (is.map (base+ ·)).toArray (base+es.length))->w1.heap[bm]? =some (.map es.toArray (base+es.length))->
   (∀id,(hd.mem.at id).tracked=true-> ρ1 id≠some rr)->(∀id,(hd.mem.at id).tracked=true-> ρ1 id≠some bm)->
   Code.roundsIn (fen none) kk P p.body (Exit.inBlock p.bid Q) (k+1) a1 w1:=by
 have upS:∀u,Bp T (T.upd n1 u) n1:=fun u=>⟨fun x hx=>Ca _ _ (by omega),rfl,rfl⟩;intro k;induction k using Nat.strongRecOn with
 |_ k ih=>?_
 intro is out ρ1 a1 w1 hk hnd hlt hout hR hst hidr hrr hbm hno1 hno2;rw[roundsIn_succ];have hdi:a1.eval (.tmp p.di)= .pointer (some ⟨rr,0,none⟩):=by
  obtain⟨b,h1,h2,_⟩:=hR.tmps _ _ E.di;rw[hidr] at h1;cases h1;exact h2
 refine wpIn_seq (gF hp E.free hR hdi hrr hbm (fun x hx=>?_) (fun h0 a' hR' hb=>?_) fun e he w1' hw1 a' hR' hb hdi'=>?_)
 .obtain⟨i,hi⟩:=wP.1 hx;have h2:=(vu.1 hi).1;rw[hborn i x hi];have:i < es.length:=h2;omega
 .
  refine wpIn_seq (wpIn_cond_false hb (wpIn_exit ?_));show Exit.inBlock p.bid Q (.exit p.bid) a' w1;simp only[Exit.inBlock,if_true];refine hQ is out ρ1 a' w1 ?_ hout hR' hst;refine (List.perm_ext_iff_of_nodup hnd List.nodup_range).2 fun x=>⟨fun hx=>List.mem_range.2 (hlt x hx),fun hx=>Zs hborn h0 (by rw[hlen];exact List.mem_range.1 hx)⟩
 .obtain⟨i,hi,hni,hbi⟩:=cZ hborn he;have hil:i < l.length:=by rw[<-hlen];exact (vu.1 hi).1
  have hnd':(is++[i]).Nodup:=by
   rw[List.nodup_append];exact⟨hnd,by simp,fun x hx y hy=>by simp at hy;subst hy;exact fun e=>hni (e▸hx)⟩
  have hlt':∀j∈is++[i],j < l.length:=fun j hj=>by
   rcases wc.1 hj with h|h
   .exact hlt j h
   .simp at h;subst h;exact hil
  have hcard:=JS l.length _ hnd' hlt';simp only[wC,wQ,List.length_nil] at hcard;obtain⟨k',rfl⟩:∃k',k=k'+1:=⟨k - 1,by omega⟩;have hbm_lt:bm < w1.heap.size:=(vx.1 hbm).1;have hrr_lt:rr < w1.heap.size:=(vx.1 hrr).1;have hne:bm≠rr:=fun e=>by rw[e,hrr] at hbm;cases hbm
  obtain⟨us,hus⟩:∃us,l[i]? =some us:=⟨_,vt hil⟩;obtain⟨u1,u2,ok,wv,hu12,hu1,hvv⟩:=hval i us e hus hi;have hdrop:us.drop kl=u2:=by rw[hu12,<-hu1];simp
  have hu2:u2.length=vk.length:=by obtain⟨vs,h1,_⟩:=hvv;have:=h1.len;omega
  have hTn1:(T.upd n1 (.list out)) n1= .list out:=Dn _ _ _;have hS01:Bp T (T.upd n1 (.list out)) n1:=upS _;have hB01:(T.upd n1 (.list out)).base=T.base:=rfl;generalize T.upd n1 (.list out)=T1 at hR hst hR' hTn1 hS01 hB01;obtain⟨b1,b2,b3⟩:=J6 u2 T1 (n1+1);obtain⟨c1,c2,c3⟩:=EE g2.eqs (T1.upds (n1+1) u2);have heqs:∀q∈g2.eqs,(BI (T1.upds (n1+1) u2) g2.eqs) q.1=q.2.eval (BI (T1.upds (n1+1) u2) g2.eqs):=D4 (fun x hx=>by have:=wR.1 E.fvs x hx;simpa using this) (by omega) E.scope;have hlt2:∀x,x < n1+1->(BI (T1.upds (n1+1) u2) g2.eqs) x=T1 x:=fun x hx=>by
   rw[(B6 (T:=T1.upds (n1+1) u2) E.scope).2.2 x (.inl (by omega))];exact FG _ _ _ _ hx
  have hcell:∀j u,u2[j]? =some u->(BI (T1.upds (n1+1) u2) g2.eqs) (n1+1+j)=u:=fun j u hj=>by
   have hjl:=(vu.1 hj).1;rw[(B6 (T:=T1.upds (n1+1) u2) E.scope).2.2 _ (.inl (by omega))];exact Eo _ _ _ _ _ hj
  have c1':=c1.trans b1;have c2':=c2.trans b2;have c3':=c3.trans b3;clear b1 b2 b3 c1 c2 c3;generalize BI (T1.upds (n1+1) u2) g2.eqs=T2 at heqs hlt2 hcell c1' c2' c3';have hS12:Bp T1 T2 (n1+1):=⟨hlt2,c1',c2'⟩;have hS02:Bp T T2 n1:=⟨fun x hx=>(hlt2 x (by omega)).trans (hS01.eq x hx),c1'.trans hS01.fr,c2'.trans hS01.lp⟩;have hB02:T2.base=T.base:=c3'.trans hB01;obtain⟨hobs,hmatch⟩:=law T2 is i us out hS02 hnd hlt hni hus hout ((hlt2 n1 (by omega)).trans hTn1) (by rw[hdrop];exact hcell) heqs;have hpc2:pcv T2 pc:=by
   cases hpe:pc with
   |none=>trivial
   |some c=>
    show T2 c= .bool true;rw[hS02.eq c (hpl c hpe)];rw[hpe] at hpc;exact hpc
  have hA2:Agr T2 g2:=⟨heqs,fun q hq=>by rw[E.lps] at hq;cases hq⟩;have hO2:AY T2 g2:=fun o ho=>hobs o ho;have hmem2:AD T2 (n1+1) ρ1 hd.mem w1:=hR.mem.tab hS12;have hR1:=hR' w1 hR;have hR2:Rel T2 (n1+1) ρ1 hd a' w1:=⟨by rw[c3'];exact hR1.defers,hR1.size,fun i c hc=>AA.tab hS12 (fun b off h=>hS12.safe hR1.mem h) _ _ (hR1.tmps i c hc),hmem2⟩;have hw1h:w1'.heap=w1.heap:=by rcases hw1 with rfl|rfl<;>rfl
  have hAf1:Cw T2 (n1+1) ρ1 hd.mem w0.heap.size w1 w1':=by
   rcases hw1 with rfl|rfl
   .exact Cw.refl _ _ _ _ _ _
   .exact Cw.drew _ _ _ _ _ _ hmem2
  have hAf:Cw T2 (n1+1) ρ1 hd.mem w0.heap.size w1 (w1'.putObj rr (.mapIter (some bm) (base+es.length) ((is.map (base+ ·)).toArray.push e.born) (base+es.length))):=
   hAf1.trans (Cw.put ⟨_,by rw[hw1h];exact hrr,rfl⟩ hr0 (fun _ _ _ h=>by cases h))
  have hwn1:(w1'.putObj rr (.mapIter (some bm) (base+es.length) ((is.map (base+ ·)).toArray.push e.born) (base+es.length))).heap[rr]? =some (.mapIter (some bm) (base+es.length) ((is.map (base+ ·)).toArray.push e.born) (base+es.length)):=
   World.putObj_heap_same (by rw[hw1h];exact hrr_lt)
  have hwn2:(w1'.putObj rr (.mapIter (some bm) (base+es.length) ((is.map (base+ ·)).toArray.push e.born) (base+es.length))).heap[bm]? =some (.map es.toArray (base+es.length)):=by
   rw[World.putObj_heap_other hne,hw1h];exact hbm
  have hRn:Rel T2 (n1+1) ρ1 hd a' (w1'.putObj rr (.mapIter (some bm) (base+es.length) ((is.map (base+ ·)).toArray.push e.born) (base+es.length))):=by
   refine⟨Co.put ?_ (fun x hx=>?_),hR2.size,fun i c hc=>hAf.holds _ _ (hR2.tmps i c hc),hAf.mem hR2.mem⟩
   .obtain⟨d0,Ds,d1,d2,d3⟩:=hR2.defers;exact⟨by rw[hw1h];exact d0,Ds,d1,d2,fun D hD=>by rw[hw1h];exact d3 D hD⟩
   .rw[hw1h,hrr] at hx;cases hx
  show (Code.seq _ _).wpIn (fen none) kk P _ a' (w1'.putObj rr _);generalize hwn:w1'.putObj rr (.mapIter (some bm) (base+es.length) ((is.map (base+ ·)).toArray.push e.born) (base+es.length))=wn at hAf hwn1 hwn2 hRn⊢;have hwns:wn.heap.size=w1.heap.size:=hAf.size;refine wpIn_seq (wpIn_cond_true hb (wpIn_skip ?_));show (Code.block _ _).wpIn (fen none) kk P _ a' wn;refine wpIn_block (wpIn_seq (wpIn_region ?_));have hrange:List.range p.ops3.size=0::1::List.range' 2 p.l3.length:=by
   simp[RgP.ops3,List.range_eq_range',List.range'_succ]
  rw[hrange];have fr:=W6 E.free;have f3:=fr p.de (by simp);have f4:=fr p.dv (by simp);have hsz:a'.tmps.size=hd.tmps.n:=hRn.size;refine Bf (o:=p.o3) (by simp[RgP.ops3]) hp.o3.2.2 ?_;refine DE (by rw[hp.o3.1];exact fun c h=>by cases h) (Za hp.o3.1 (by
   rw[hdi'];exact run_entry_at wn rr bm (base+es.length) (is.map (base+ ·)).toArray es.toArray (base+es.length) e hwn1 hwn2 (by simpa using List.mem_of_getElem? hi) (by simpa using Zd hborn))) ?_
  rw[hp.o3.2.1];refine Bf (o:=p.o4) (by simp[RgP.ops3]) hp.o4.2.2 ?_;refine DE (by rw[hp.o4.1];exact fun c h=>by cases h) (Kh hp.o4.1 (Ck (by rw[hsz];exact f3.2.1)) (v:=e.val) rfl) ?_;rw[hp.o4.2.1];have hval2:AA T2 (n1+1+vk.length) ρ1 hd.mem wn (No vk va (n1+1)) e.val:=eg E.flat hvv hcell (vr _);have hput:Rel T2 (n1+1+vk.length) ρ1 ⟨hd.tmps.set p.dv (No vk va (n1+1)),hd.mem⟩ ((a'.put (some p.de) (.tuple #[e.key,e.val])).put (some p.dv) e.val) wn:=
   Rel.put (tmps:=hd.tmps) (m:=hd.mem) ((hRn.putNone f3.1 _).up (Nat.le_add_right _ _)) (some p.dv) hval2
  obtain⟨gr1,kst⟩:=H8 (T:=T2) (r:=none) (kk:=kk) (hcall T2) (hys T2.lp) E.steps;obtain⟨gr2,kco⟩:=((IV hm hcall hint fuel false ys T2 none kk p.bi p.rest (fun _=>rfl) (hys _)).mono fun _ _ _ h=>Ns h) pc _ s1.g _ g2 E.code;have hpl2:∀g:G,n1<=g.n->Cb g pc:=fun g hg=>by
   cases hpe:pc with
   |none=>trivial
   |some c=>exact vw (hpl c hpe) hg
  have hg0:n1<=s1.g.n:=wI (by show n1<=n1+1+vk.length;omega) gr1.n;have hn1:n1+1+vk.length<=s1.g.n:=gr1.n;obtain⟨good,_,sem⟩:=kco hA2 (hpl2 _ hg0);refine kst (hA2.of gr2) (hO2.of gr2) hpc2 ((hpl2 ⟨n1+1+vk.length,[],[],[]⟩ (by show n1<=n1+1+vk.length;omega)).ok hpc2) 2 ρ1 _ wn _ (fun j=>by simp[RgP.ops3,Nat.add_comm 2 j]) ⟨hput,fun e he=>by cases he⟩ fun ρ2 a2 w2 hi2 hst2=>?_;show p.rest.wpIn (fen none) kk P _ a2 w2;refine sem hO2 hpc2 ρ2 a2 w2 _ (Rel.less (l:=⟨s1.tmps,s1.mem⟩) hi2.rel (AO.commit_n _ _) fun i c hc=>AO.get_commit _ _ _ hc) fun o ho hpo ρ3 a3 w3 hst3 hrel3=>?_;simp only[wY] at ho;subst ho;show Code.roundsIn (fen none) kk P p.body (Exit.inBlock p.bid Q) (k'+1) a3 w3;obtain⟨hps,hz⟩:=hmatch hpo;have hS03:=upS (.list (out++F us));have hT3:(T.upd n1 (.list (out++F us))) n1= .list (out++F us):=Dn _ _ _;have hB03:(T.upd n1 (.list (out++F us))).base=T.base:=rfl;have heq3:∀x,x < n1->(T.upd n1 (.list (out++F us))) x=T2 x:=fun x hx=>(hS03.eq x hx).trans (hS02.eq x hx).symm;have H:EF T2 (T.upd n1 (.list (out++F us))) n1 (n1+1) [z]:=fun j rr hj=>by
   cases j with
   |zero=>simp at hj;subst hj;exact⟨by omega,hT3.trans hz.symm⟩
   |succ j=>simp at hj
  obtain⟨z1,z2,_⟩:=Fi (T1:=T2) (T2:=T.upd n1 (.list (out++F us))) E.mat (fun q hq=>by cases hq) (hS03.fr.trans hS02.fr.symm) (hS03.lp.trans hS02.lp.symm) (hB03.trans hB02.symm) heq3 (Nat.le_succ n1) H hps hrel3;have hm1:AD T1 n0 ρ0 m0 w0:=hm0.tab ⟨fun x hx=>hS01.eq x (by omega),hS01.fr,hS01.lp⟩;have hS12':Bp T1 T2 n0:=⟨fun x hx=>hlt2 x (by omega),c1',c2'⟩;have hm2:AD T2 n0 ρ0 m0 w0:=hm1.tab hS12';have hstA:AE T2 n0 ρ0 m0 w0 ρ1 hd.mem wn:=(AE.tab hS12' hm1 hst (fun id x' ks' e' hx=>hlt2 _ (hR.mem.tok_lt hx))).after hm2 hAf;have hstB:AE T2 n0 ρ0 m0 w0 ρ3 l2.mem w3:=(hstA.trans hm2 (by show n0<=n1+1+vk.length;omega) hst2).trans hm2 (by omega) hst3;have off:∀k0,k0 < w1.heap.size->(∀id,(hd.mem.at id).tracked=true-> ρ1 id≠some k0)->w3.heap[k0]? =wn.heap[k0]? /\∀id,(hd.mem.at id).tracked=true-> ρ3 id≠some k0:=fun k0 hk0 hno=>by
   have h1:=hst2.old k0 (by rw[hwns];exact hk0) hno;have h2:=hst2.off (by rw[hwns];exact hk0) hno;have hk2:k0 < w2.heap.size:=vw (by rw[hwns];exact hk0) hst2.size;have h3:=hst3.old k0 hk2 h2;have h4:=hst3.off hk2 h2;exact⟨h3.trans h1,fun id ht=>h4 id (z2.tracked ht)⟩
  obtain⟨hr3,hno3⟩:=off rr hrr_lt hno1;obtain⟨hb3,hno4⟩:=off bm hbm_lt hno2;have hid2:=hst2.rho idr (by show (hd.mem.at idr).ptrOk=true;rw[E.gone];rfl);have hid3:=hst3.rho idr hid2.2;refine ih k' (by omega) (is++[i]) (out++F us) ρ3 a3 w3 (by simp only[wC,wQ,List.length_nil];omega) hnd' hlt' ?_ z1 (AE.matched z2 heq3 hn0 hm2 hst.mlen hstB) (hid3.1.trans (hid2.1.trans hidr)) ?_ (hb3.trans hwn2) hno3 hno4
  .rw[hout];simp[hus]
  .rw[hr3,hwn1];simp[hbi]
end
section
variable {P:Program}{T:Tab}{n:Nat}{ρ :Nat->Option Nat}{m:Mem}{w w':World}{a:Act}{l:Loc}
theorem Xm (hm:AD T n ρ m w)(o:Obj):AE T n ρ m w (B5 ρ m.length w.heap.size) (m++[.gone]) (w.alloc o)/\AD T n (B5 ρ m.length w.heap.size) (m++[.gone]) (w.alloc o):=by
 have hs:=Gz hm o .gone;refine⟨hs,⟨fun id=>?_,fun id id' b ht ht' hr hr'=>?_,fun b off h=>hm.fr b off (wI hs.size h)⟩⟩
 .by_cases he:id=m.length
  .subst he;rw[AN,if_pos rfl];exact trivial
  .by_cases ht:(m.at id).tracked=true
   .exact BB.step hs hm (vr _) (by rw[AN,if_neg he]) (Ad _ _ _ he) (fun b hb=>At w _ b (hm.lt ht hb))
   .rw[AN,if_neg he];cases hx:m.at id with
    |pad=>trivial
    |gone=>trivial
    |cells=>rw[hx] at ht;exact absurd rfl ht
    |lp=>rw[hx] at ht;exact absurd rfl ht
    |tok=>rw[hx] at ht;exact absurd rfl ht
    |mrow=>rw[hx] at ht;exact absurd rfl ht
    |mapb=>rw[hx] at ht;exact absurd rfl ht
 .rw[AN] at ht ht';by_cases he:id=m.length
  .rw[if_pos he] at ht;cases ht
  .by_cases he':id'=m.length
   .rw[if_pos he'] at ht';cases ht'
   .rw[if_neg he] at ht;rw[if_neg he'] at ht';rw[Ad _ _ _ he] at hr;rw[Ad _ _ _ he'] at hr';exact hm.inj id id' b ht ht' hr hr'
theorem Rel.tabB {T2:Tab}(hR:Rel T n ρ l a w)(S:Bp T T2 n)(hb:T2.base=T.base):Rel T2 n ρ l a w:=
 ⟨by rw[hb];exact hR.defers,hR.size,fun i c hc=>AA.tab S (fun b off h=>S.safe hR.mem h) _ _ (hR.tmps i c hc),hR.mem.tab S⟩
end
def QD (l1:Loc)(n1:Nat)(tm dm di out:Tmp)(keep:Nat)(ks:List Kd)(e:TypeId):Option (Nat × Nat × List Kd × Bool × List Kd × Bool × Loc):=
 if l1.tmps.loc.isEmpty&&(l1.tmps.get dm).isNone&&(l1.tmps.get di).isNone&&Nat.blt dm l1.tmps.n&&Nat.blt di l1.tmps.n then
  match l1.tmps.get tm with
  |some (.mv idm)=>match l1.mem.at idm with
   | .mapb x kk ka vk va=>
    match ((l1.tmps.set di (.ptr l1.mem.length 0)).commit keep).get out with
    |some (.cv .nilSlice)=>(Ff ⟨(l1.tmps.set di (.ptr l1.mem.length 0)).commit keep,((l1.mem.set idm Blk.gone)++[Blk.gone])++[Blk.tok n1 ks e]⟩ ((l1.mem.set idm Blk.gone)++[Blk.gone]).length n1 ks (.tmp out)).map fun hd=>(idm,x,kk,ka,vk,va,hd)
    |_=>none
   |_=>none
  |_=>none
 else none
section
variable {P:Program}{call:Ak}{hint:C2}{ys:Ys}{fuel:Nat}{p:RgP}{pc:PC}{n1:Nat}{hd l1:Loc}{vk:List Kd}{va:Bool}{s1:RS}{pc2:PC}{l2:Loc}{g2:G}{z:Rf}{ps:List Pr}{fv:List Nat}{kk:Nat}
theorem dQ (hm:P.follows .mixedOrders=true)(hcall:∀T,CS P T call)(hys:∀lp,CL P lp ys)(hp:p.Ok)
  {tm dm out:Tmp} {keep:Nat} {ks:List Kd} {e:TypeId} {idm x:Nat} {kks:List Kd} {ka:Bool} (hH:QD l1 n1 tm dm p.di out keep ks e=some (idm,x,kks,ka,vk,va,hd))
  (E:Uk P call hint ys fuel p pc n1 hd l1.mem.length vk va s1 pc2 l2 g2 z ps fv)
  {i1:Nat} {q1 q2:Oper} {mt kt et:TypeId} (hq1:q1.op= .move (.tmp tm)/\q1.dst=some dm/\q1.guard=none) (hq2:q2.op= .range mt (.tmp dm)/\q2.dst=some p.di/\q2.guard=none) (hmt:P.underlying mt=some (.map kt et))
  {T:Tab} (hpc:pcv T pc) (hpl:∀c,pc=some c->c < n1)
  {F:List U->List (List U)}
  (law:∀(T':Tab) (is:List Nat) (i:Nat) (us:List U) (out:List (List U)),Bp T T' n1->(T x).toL.length<=AF->is.Nodup->(∀j∈is,j < (T x).toL.length)->i ∉ is->(T x).toL[i]? =some us->out=(is.map fun j=>(T x).toL.getD j []).flatMap F->T' n1= .list out->
   (∀j u,(us.drop kks.length)[j]? =some u->T' (n1+1+j)=u)->(∀q∈g2.eqs,T' q.1=q.2.eval T')->(∀q∈g2.obs,q.holds T')/\(pcv T' pc2->(∀q∈ps,q.holds T')/\z.eval T'= .list (out++F us)))
  {ρ :Nat->Option Nat} {a:Act} {w:World} (hR:Rel T n1 ρ l1 a w)
  {Q:Exit->Act->World->Prop}
  (hQ:∀(is:List Nat) (out:List (List U)) ρ1 a1 w1,is.Perm (List.range (T x).toL.length)->out=(is.map fun j=>(T x).toL.getD j []).flatMap F->Rel (T.upd n1 (.list out)) (n1+1) ρ1 hd a1 w1->AE (T.upd n1 (.list out)) n1 ρ l1.mem w ρ1 hd.mem w1->Q .normal a1 w1):
  (Code.seq (.region i1 [q1,q2].toArray false) (.block p.bid (.loop p.body))).wpIn (fen none) kk P Q a w:=by
 unfold QD at hH;split at hH
 .rename_i hc;simp only[vo] at hc;obtain⟨⟨⟨⟨c1,c2⟩,c3⟩,c4⟩,c5⟩:=hc;split at hH
  .rename_i idm' hmap;split at hH
   .rename_i x' kk' ka' vk' va' hblk;split at hH
    .rename_i hnil;simp only[wK] at hH;obtain⟨hd',hvec,hH⟩:=hH;cases hH;have hdm:l1.tmps.get dm=none:=by simpa using c2
     have hdi:l1.tmps.get p.di=none:=by simpa using c3
     have hdm2:dm < l1.tmps.n:=by simpa using c4
     have hdi2:p.di < l1.tmps.n:=by simpa using c5
     obtain⟨bm,hb1,hb2,_⟩:=hR.tmps _ _ hmap;have hbk:=hR.mem.blk idm;rw[hblk] at hbk;obtain⟨hx,lr,b',es,clock,hTx,hb1',hheap,hlen,hmax,hent,base,hclk,hborn⟩:=hbk;rw[hb1] at hb1';cases hb1';subst hclk;have hTl:(T x).toL=lr:=by rw[hTx];rfl
     rw[hTl] at law hQ;have hbm_lt:bm < w.heap.size:=(vx.1 hheap).1;have hsz:a.tmps.size=l1.tmps.n:=hR.size;refine wpIn_seq (wpIn_region ?_);show wpOpsIn (fen none) kk P [q1,q2].toArray _ [0,1] a w;refine Bf (o:=q1) rfl hq1.2.2 (DE (by rw[hq1.1];exact fun c h=>by cases h) (On hq1.1) ?_);rw[hq1.2.1];refine Bf (o:=q2) rfl hq2.2.2 (DE (by rw[hq2.1];exact fun c h=>by cases h) (ZS hq2.1 (by
      rw[Ck (by rw[hsz];exact hdm2),show a.eval (.tmp tm)= .map (some bm) from hb2];exact run_range_map w mt kt et bm es.toArray (base+es.length) hmt hheap)) ?_)
     rw[hq2.2.1];rw[show a.eval (.tmp tm)= .map (some bm) from hb2];show (Code.block p.bid (.loop p.body)).wpIn (fen none) kk P Q _ (w.alloc (.mapIter (some bm) (base+es.length) #[] (base+es.length)));have hS01:Bp T (T.upd n1 (.list [])) n1:=⟨fun x hx=>Ca _ _ (by omega),rfl,rfl⟩;have hT1n:(T.upd n1 (.list [])) n1= .list []:=Dn _ _ _;have hR1:Rel (T.upd n1 (.list [])) n1 ρ l1 a w:=hR.tabB hS01 rfl;have hne:l1.mem.at idm≠ .pad:=by rw[hblk];exact fun h=>by cases h
     have hturn:∀id,CN (T.upd n1 (.list [])) n1 n1 w (l1.mem.at id) (Mem.at (l1.mem.set idm Blk.gone) id):=fun id=>by
      rw[DI _ _ _ _ hne];split
      .exact .gone _
      .exact CN.refl (vr _) _
     have hst1:=EW hR1.mem hturn;have hmm1:=LJ hR1.mem (vr _) hturn;obtain⟨hst2,hmm2⟩:=Xm hmm1 (.mapIter (some bm) (base+es.length) #[] (base+es.length));have hlen1:(l1.mem.set idm Blk.gone).length=l1.mem.length:=List.length_set;have hst12:=hst1.trans hR1.mem (vr _) hst2;rw[hlen1] at hst12 hmm2;have hR2:Rel (T.upd n1 (.list [])) n1 (B5 (Bt l1.mem ρ) l1.mem.length w.heap.size) ⟨l1.tmps,(l1.mem.set idm Blk.gone)++[Blk.gone]⟩ a (w.alloc (.mapIter (some bm) (base+es.length) #[] (base+es.length))):=
      Rel.on (tmps:=l1.tmps) (m:=l1.mem) hR1 hst12 (vr _) hmm2
     have hidr:(B5 (Bt l1.mem ρ) l1.mem.length w.heap.size) l1.mem.length=some w.heap.size:=Af _ _ _;have hptr:AA (T.upd n1 (.list [])) n1 (B5 (Bt l1.mem ρ) l1.mem.length w.heap.size) ((l1.mem.set idm Blk.gone)++[Blk.gone]) (w.alloc (.mapIter (some bm) (base+es.length) #[] (base+es.length))) (.ptr l1.mem.length 0) (.pointer (some ⟨w.heap.size,0,none⟩)):=
      ⟨w.heap.size,hidr,rfl,by
       have:Mem.at ((l1.mem.set idm Blk.gone)++[Blk.gone]) l1.mem.length= .gone:=by rw[<-hlen1,AN,if_pos rfl]
       rw[this];rfl⟩
     have hR3:=Rel.put (hR2.putNone (d:=dm) hdm (.map (some bm))) (some p.di) hptr;have hR4:Rel (T.upd n1 (.list [])) n1 (B5 (Bt l1.mem ρ) l1.mem.length w.heap.size) ⟨(l1.tmps.set p.di (.ptr l1.mem.length 0)).commit keep,(l1.mem.set idm Blk.gone)++[Blk.gone]⟩ ((a.put (some dm) (.map (some bm))).put (some p.di) (.pointer (some ⟨w.heap.size,0,none⟩))) (w.alloc (.mapIter (some bm) (base+es.length) #[] (base+es.length))):=
      Rel.less (l:=⟨l1.tmps.set p.di (.ptr l1.mem.length 0),(l1.mem.set idm Blk.gone)++[Blk.gone]⟩) hR3 (AO.commit_n _ _) fun i c hc=>AO.get_commit _ _ _ hc
     obtain⟨_,_, ρ5,hR5,hst5⟩:=SR (T:=T.upd n1 (.list [])) (n:=n1) (l:=⟨(l1.tmps.set p.di (.ptr l1.mem.length 0)).commit keep,(l1.mem.set idm Blk.gone)++[Blk.gone]⟩) (s:= .tmp out) rfl hT1n hnil hvec hR4;have hstA:AE (T.upd n1 (.list [])) n1 ρ l1.mem w ρ5 hd.mem _:=hst12.trans hR1.mem (vr _) hst5;have hid5:=hst5.rho l1.mem.length (by
      have:Mem.at ((l1.mem.set idm Blk.gone)++[Blk.gone]) l1.mem.length= .gone:=by rw[<-hlen1,AN,if_pos rfl]
      show (Mem.at ((l1.mem.set idm Blk.gone)++[Blk.gone]) l1.mem.length).ptrOk=true;rw[this];rfl)
     have trk:∀id,(Mem.at ((l1.mem.set idm Blk.gone)++[Blk.gone]) id).tracked=true->id≠l1.mem.length/\id≠idm/\(l1.mem.at id).tracked=true:=fun id ht=>by
      rw[AN,hlen1] at ht;by_cases he:id=l1.mem.length
      .rw[if_pos he] at ht;cases ht
      .rw[if_neg he,DI _ _ _ _ hne] at ht;by_cases he2:id=idm
       .rw[if_pos he2] at ht;cases ht
       .rw[if_neg he2] at ht;exact⟨he,he2,ht⟩
     have rho:∀id,id≠l1.mem.length->(l1.mem.at id).tracked=true->(B5 (Bt l1.mem ρ) l1.mem.length w.heap.size) id= ρ id:=fun id he ht=>by
      rw[Ad _ _ _ he];exact CF (fun h=>by rw[h] at ht;cases ht)
     have hsz2:(w.alloc (.mapIter (some bm) (base+es.length) #[] (base+es.length))).heap.size=w.heap.size+1:=by simp
     have hno1:=hst5.off (k:=w.heap.size) (by rw[hsz2];exact Nat.lt_succ_self _) fun id ht he=>by
      obtain⟨h1,h2,h3⟩:=trk id ht;rw[rho id h1 h3] at he;exact absurd (hR.mem.lt h3 he) (Nat.lt_irrefl _)
     have hno2:=hst5.off (k:=bm) (by rw[hsz2];omega) fun id ht he=>by
      obtain⟨h1,h2,h3⟩:=trk id ht;rw[rho id h1 h3] at he;exact h2 (hR.mem.inj id idm bm h3 (by rw[hblk];rfl) he hb1)
     refine wpIn_block (wpIn_loop_rounds (lr.length+1) ?_);exact Z2 hm hcall hys hp E hpc hpl (l:=lr) (es:=es) (base:=base) (bm:=bm) (rr:=w.heap.size) (kl:=kks.length) hlen hborn (fun i us e h1 h2=>by
       obtain⟨u1,u2,e1,⟨vs,e2,_⟩,e3⟩:=hent i us e h1 h2;exact⟨u1,u2,_,_,e1,e2.len.2,e3⟩)
      (fun T' is i us out h1=>law T' is i us out h1 hmax) hR.mem (vr _) (vr _) hQ lr.length [] [] ρ5 _ _ (Nat.sub_le _ _) List.nodup_nil (fun j hj=>by cases hj) rfl hR5 hstA (hid5.1.trans hidr) (heap_alloc_new _ _) ((heap_alloc_old _ _ hbm_lt).trans hheap) hno1 hno2
    .cases hH
   .cases hH
  .cases hH
 .cases hH
end
end
section
open Go Go.RowKit
def Ol:Nat->Code->List Code × Code
 |n+1,.seq a b=>(a::(Ol n b).1,(Ol n b).2)
 |_,c=>([],c)
def YB:List Code->Code->Code
 |[],c=>c
 |a::l,c=> .seq a (YB l c)
def K4 (run:Code->PC->Loc->G->Option (List As × G)):List Code->PC->Loc->G->Option (PC × Loc × G)
 |[],pc,l,g=>some (pc,l,g)
 |c::cs,pc,l,g=>match run c pc l g with
  |some ([⟨.normal,pc',l'⟩],g')=>K4 run cs pc' l' g'
  |_=>none
theorem RX {P:Program}{T:Tab}{kk:Nat}{run:Code->PC->Loc->G->Option (List As × G)}(hrun:∀c,CP T (fun Q a w=>c.wpIn (fen none) kk P Q a w) (run c)):∀{cs:List Code} {pc pc':PC} {l l':Loc} {g g':G},
  K4 run cs pc l g=some (pc',l',g')->AR g g'/\(Agr T g'->Cb g pc->Cb g' pc'/\(AY T g'->pcv T pc->∀ ρ a w rest Q,Rel T g.n ρ l a w->AD T g.n ρ l.mem w->
   (pcv T pc'->∀ ρ' a' w',AE T g.n ρ l.mem w ρ' l'.mem w'->Rel T g'.n ρ' l' a' w'->rest.wpIn (fen none) kk P Q a' w')->(YB cs rest).wpIn (fen none) kk P Q a w))
 |[],pc,pc',l,l',g,g',h=>by
  simp only[K4] at h;cases h;exact⟨AR.refl _,fun _ hp=>⟨hp,fun _ hpc ρ a w rest Q hR _ hK=>hK hpc ρ a w (AE.refl _ _ _ _ _) hR⟩⟩
 |c::cs,pc,pc',l,l',g,g',h=>by
  simp only[K4] at h;split at h
  .rename_i pc1 l1 g1 hr;obtain⟨gr1,k1⟩:=hrun c pc l g _ g1 hr;obtain⟨gr2,k2⟩:=RX hrun h;refine⟨gr1.trans gr2,fun hA hp=>?_⟩;obtain⟨q1,_,q3⟩:=k1 (hA.of gr2) hp;obtain⟨p1,p2⟩:=k2 hA (q1.each _ (wY.2 rfl)).1;refine⟨p1,fun ho hpc ρ a w rest Q hR hm hK=>wpIn_seq (q3 (ho.of gr2) hpc ρ a w _ hR fun o hx hpo ρ1 a1 w1 hs1 hR1=>?_)⟩;simp only[wY] at hx;subst hx;show (YB cs rest).wpIn (fen none) kk P Q a1 w1;exact p2 ho hpo ρ1 a1 w1 rest Q hR1 hR1.mem fun hpc' ρ2 a2 w2 hs2 hR2=>hK hpc' ρ2 a2 w2 (hs1.trans hm gr1.n hs2) hR2
  .cases h
structure RgC where
 pre:List Code
 i1:Nat
 q1:Oper
 q2:Oper
 tm:Tmp
 dm:Tmp
 out:Tmp
 mt:TypeId
 kt:TypeId
 et:TypeId
 ks:List Kd
 e:TypeId
 p:RgP
 post:Code
def RgC.code (c:RgC):Code:=YB c.pre (.seq (.seq (.region c.i1 [c.q1,c.q2].toArray false) (.block c.p.bid (.loop c.p.body))) c.post)
structure RgC.Ok (P:Program) (c:RgC):Prop where
 p:c.p.Ok
 q1:c.q1.op= .move (.tmp c.tm)/\c.q1.dst=some c.dm/\c.q1.guard=none
 q2:c.q2.op= .range c.mt (.tmp c.dm)/\c.q2.dst=some c.p.di/\c.q2.guard=none
 mt:P.underlying c.mt=some (.map c.kt c.et)
structure RgO where
 pc:PC
 l1:Loc
 g1:G
 x:Nat
 kks:List Kd
 vk:List Kd
 va:Bool
 hd:Loc
 s1:RS
 pc2:PC
 l2:Loc
 g2:G
 zx:Nat
 ps:List Pr
 fv:List Nat
 outs:List As
 g3:G
 c0:AC
 m0:Mem
 g4:G
def TD (P:Program)(call:Ak)(hint:C2)(ys:Ys)(fuel:Nat)(c:RgC)(fn:Func)(args:List AC)(m:Mem)(n:Nat):Option RgO:=do
 let (pc,l1,g1) <-K4 (Bd P call hint false ys fuel 0) c.pre none ⟨Fm fn.ntmps args,m⟩ ⟨n,[],[],[]⟩;let (_,x,kks,_,vk,va,hd) <-QD l1 g1.n c.tm c.dm c.p.di c.out hint.keep c.ks c.e;let s1<-Cr P call ys c.p.ops3 pc c.p.l3 ⟨hd.tmps.set c.p.dv (No vk va (g1.n+1)),hd.mem,⟨g1.n+1+vk.length,[],[],[]⟩,[]⟩
 match Bd P call hint false ys fuel c.p.bi c.p.rest pc ⟨s1.tmps.commit hint.keep,s1.mem⟩ s1.g with
 |some ([⟨.normal,pc2,l2⟩],g2)=>
  match l2.tmps.get c.out,hd.tmps.get c.p.di,hd.mem.at l1.mem.length with
  |some (.vec _ zx _),some (.ptr idr 0),.gone=>do
   let ps<-Do [] g1.n [.e zx] hd l2;let fv:=(Ml g1.n g2.eqs pc2 [.e zx] []);let (outs,g3) <-Bd P call hint false ys fuel 0 c.post pc hd ⟨g1.n+1,[],[],[]⟩;let (c0,m0,g4) <-CU (Hq P fn) outs g3
   if Nat.beq idr l1.mem.length&&c.p.free hd.tmps&&vk.all QL&&B9 fv g1.n (g1.n+1+vk.length) g2.n g2.eqs&&fv.all (fun x=>Nat.blt x g1.n)&&g2.lps.isEmpty&&KM n g1&&g1.lps.isEmpty&&B9 [] 0 (g1.n+1) g4.n g4.eqs&&g4.lps.isEmpty&&Nat.ble args.length fn.ntmps&&Nat.blt x g1.n then
    some ⟨pc,l1,g1,x,kks,vk,va,hd,s1,pc2,l2,g2,zx,ps,fv,outs,g3,c0,m0,g4⟩
   else none
  |_,_,_=>none
 |_=>none
structure bX (P:Program) (call:Ak) (hint:C2) (ys:Ys) (fuel:Nat) (c:RgC) (fn:Func) (args:List AC) (m:Mem) (n:Nat) (o:RgO):Prop where
 parts:K4 (Bd P call hint false ys fuel 0) c.pre none ⟨Fm fn.ntmps args,m⟩ ⟨n,[],[],[]⟩=some (o.pc,o.l1,o.g1)
 head:∃idm ka,QD o.l1 o.g1.n c.tm c.dm c.p.di c.out hint.keep c.ks c.e=some (idm,o.x,o.kks,ka,o.vk,o.va,o.hd)
 round:Uk P call hint ys fuel c.p o.pc o.g1.n o.hd o.l1.mem.length o.vk o.va o.s1 o.pc2 o.l2 o.g2 (.e o.zx) o.ps o.fv
 post:Bd P call hint false ys fuel 0 c.post o.pc o.hd ⟨o.g1.n+1,[],[],[]⟩=some (o.outs,o.g3)
 fin:CU (Hq P fn) o.outs o.g3=some (o.c0,o.m0,o.g4)
 ok1:KM n o.g1=true
 lps1:o.g1.lps=[]
 ok4:B9 [] 0 (o.g1.n+1) o.g4.n o.g4.eqs=true
 lps4:o.g4.lps=[]
 args:args.length<=fn.ntmps
 x:o.x < o.g1.n
theorem X9 {P:Program}{call:Ak}{hint:C2}{ys:Ys}{fuel:Nat}{c:RgC}{fn:Func}{args:List AC}{m:Mem}{n:Nat}{o:RgO}(h:TD P call hint ys fuel c fn args m n=some o):bX P call hint ys fuel c fn args m n o:=by
 unfold TD at h;simp only[vq,vn] at h;obtain⟨⟨pc,l1,g1⟩,h1,⟨idm,x,kks,ka,vk,va,hd⟩,h2,s1,h3,h⟩:=h;simp only at h h2 h3;split at h
 .rename_i pc2 l2 g2 h4;split at h
  .rename_i i0 zx ks0 idr h5 h6 h7;simp only[vn] at h;obtain⟨ps,h8,⟨outs,g3⟩,h9,⟨c0,m0,g4⟩,h10,h⟩:=h;simp only at h h10;split at h
   .rename_i hc;simp only[vo] at hc;obtain⟨⟨⟨⟨⟨⟨⟨⟨⟨⟨⟨d1,d2⟩,d3⟩,d4⟩,d5⟩,d6⟩,d7⟩,d8⟩,d9⟩,d10⟩,d11⟩,d12⟩:=hc;cases h;have hid:=vp d1;subst hid;exact⟨h1,⟨idm,ka,h2⟩,⟨h6,h7,d2,d3,h3,h4,h8,d4,d5,by simpa using d6⟩,h9,h10,d7,by simpa using d8,d9,by simpa using d10,wN d11,by simpa using d12⟩
   .cases h
  .cases h
 .cases h
theorem OV {T1 T2:Tab}{lo n:Nat}(h:∀x,x < n->T2 x=T1 x):∀{eqs:List (Nat × Ex)} {top:Nat},top<=n->B9 [] 0 lo top eqs=true->(∀p∈eqs,T1 p.1=p.2.eval T1)->∀p∈eqs,T2 p.1=p.2.eval T2
 |[],_,_,_,_,p,hp=>by cases hp
 |(x,e)::r,top,ht,hs,he,p,hp=>by
  simp only[B9,vo] at hs;have hx:=vp hs.1.1;cases hp with
  |head=>
   have h1:=he (x,e) (wA ..);simp only at h1⊢;rw[h x (by omega),h1];refine O5 fun y hy=>?_;rcases Dm hs.1.2 y hy with q|q
   .cases q
   .exact (h y (by omega)).symm
  |tail _ hp=>exact OV h (top:=x) (by omega) hs.2 (fun q hq=>he q (vz _ hq)) p hp
section
variable {P:Program}{f:FuncId}{t:AV}{ctx:FuncId->Option Ak}{AW:FuncId->C2}{fuel depth:Nat}{c:RgC}{fn:Func}{o:RgO}{rs:List Rf}{ps1 ps2:List Pr}{F:List U->List (List U)}
theorem ZF (hm:P.follows .mixedOrders=true)(hctx:∀f c,ctx f=some c->∀T,∀ys k args pc m g c' m' g',k=f->CL P T.lp ys->c ys k args pc m g=some (c',m',g')->AR g g'/\(Agr T g'->AY T g'->pcv T pc->A8 T g pc->∀ ρ w vs,AB T g.n ρ m w args vs->AD T g.n ρ m w->
   (∃fn,P.funcs[k]? =some fn/\fn.body.isSome=true/\(fn.name== "runtime.NumGoroutine")=false)/\Calls P k (vs:List Value).toArray w (Ed T g ρ m w c' m' g')))
  (hc:c.Ok P) (hfn:P.funcs[f]? =some fn) (hbody:fn.body=some c.code) (hname:(fn.name== "runtime.NumGoroutine")=false)
  (S:bX P (EQ P ctx AW fuel depth) (AW f) { Ys.none with mu:=(AW f).mu } fuel c fn t.args t.m t.n o)
  (hrl:rs.length=t.outs.length) (hm1:FW [] t.n t.m'.length rs t.m' o.m0 t.m' o.m0=some ps1) (hm2:Ko t.n t.m'.length rs t.m' o.m0 t.c o.c0=some ps2) (hne:∀id,id < t.m.length->t.m'.at id≠ .pad)
  (law1:∀(T:Tab) (us:List U),us.length=t.n->LC t.ks us->(∀p∈t.pre,p.2 us)->(∀j u,us[j]? =some u->T j=u)->(∀p∈o.g1.eqs,T p.1=p.2.eval T)->AY T o.g1/\
   (pcv T o.pc->
    (∀(is:List Nat) (i:Nat) (r:List U) (out:List (List U)),(T o.x).toL.length<=AF->is.Nodup->(∀j∈is,j < (T o.x).toL.length)->i ∉ is->(T o.x).toL[i]? =some r->out=(is.map fun j=>(T o.x).toL.getD j []).flatMap F->T o.g1.n= .list out->
     (∀j u,(r.drop o.kks.length)[j]? =some u->T (o.g1.n+1+j)=u)->(∀q∈o.g2.eqs,T q.1=q.2.eval T)->(∀q∈o.g2.obs,q.holds T)/\(pcv T o.pc2->(∀q∈o.ps,q.holds T)/\T o.zx= .list (out++F r)))/\
    (∀(is:List Nat),is.Perm (List.range (T o.x).toL.length)->T o.g1.n= .list ((is.map fun j=>(T o.x).toL.getD j []).flatMap F)->(∀q∈o.g4.eqs,T q.1=q.2.eval T)->AY T o.g4/\(∀p∈ps1++ps2,p.holds T)/\rs.map (Rf.eval T)=t.outs.map fun q=>q.2 us))):Ae P f t:=by
 refine⟨fun _=>Oj,fun T us hlp hul hT hpre ρ w vs hvs hmem=>⟨⟨fn,hfn,by rw[hbody];rfl,hname⟩,?_⟩⟩;have hcall:=Js (AW:=AW) (fuel:=fuel) hm hctx depth;have hys:∀lp,CL P lp { Ys.none with mu:=(AW f).mu }:=fun lp T' _ s y hy=>by cases hy
 have hok1:=S.ok1;unfold KM at hok1;rw[vo] at hok1;have hlow:∀j u,us[j]? =some u->T j=u:=fun j u hj=>hT j u (by unfold AV.us;rw[wE (vu.1 hj).1];exact hj);have hin:LC t.ks us:=W7 hlow hvs hmem;obtain⟨r1,r2,r3⟩:=EE o.g1.eqs T;have hltp:∀x,x < t.n->BI T o.g1.eqs x=T x:=fun x hx=>(B6 (T:=T) hok1.1).2.2 x (.inl hx);have heqp:∀p∈o.g1.eqs,BI T o.g1.eqs p.1=p.2.eval (BI T o.g1.eqs):=D4 (fv:=[]) (nh:=0) (fun x hx=>by cases hx) (wX _) hok1.1;generalize BI T o.g1.eqs=Tp at r1 r2 r3 hltp heqp;have hn1:t.n<=o.g1.n:=(B6 (T:=T) hok1.1).1;have agree:∀T':Tab,(∀x,x < o.g1.n->T' x=Tp x)->(∀j u,us[j]? =some u->T' j=u)/\(∀p∈o.g1.eqs,T' p.1=p.2.eval T'):=fun T' h=>⟨fun j u hj=>by
  have:=(vu.1 hj).1;rw[h j (by omega),hltp j (by omega)];exact hlow j u hj,OV h (vr _) hok1.1 heqp⟩
 have pcs:∀T':Tab,(∀x,x < o.g1.n->T' x=Tp x)->Cb o.g1 o.pc->(pcv T' o.pc↔pcv Tp o.pc):=fun T' h hp=>by
  cases hpe:o.pc with
  |none=>exact Iff.rfl
  |some x=>
   rw[hpe] at hp;show T' x= .bool true↔Tp x= .bool true;rw[h x hp]
 have hob1:AY Tp o.g1:=(law1 Tp us hul hin hpre (agree Tp fun _ _=>rfl).1 heqp).1;have hA1:Agr Tp o.g1:=⟨heqp,fun q hq=>by rw[S.lps1] at hq;cases hq⟩;have S0:Bp T Tp t.n:=⟨hltp,r1,r2⟩;have hmp:=hmem.tab S0;let T0:=Tp.atBase w.heap.size;have B0:=Hc Tp w.heap.size;have hm0:AD T0 t.n ρ t.m w:=hmp.tab (B0 _);have hvs0:AB T0 t.n ρ t.m w t.args vs:=AB.tab (B0 _) (fun b off hh=>(B0 _).safe hmp hh) _ _ (AB.tab S0 (fun b off hh=>S0.safe hmem hh) _ _ hvs);refine (callsIn_wide (n:=0)).1 (callsIn_of_wp_marks (F:=fen none) hfn hbody trivial ?_);have hlen:=hvs.length;have hR:Rel T0 t.n ρ ⟨Fm fn.ntmps t.args,t.m⟩ { tmps:=(vs:List Value).toArray++Array.replicate (fn.ntmps - (vs:List Value).toArray.size) undef,defers:=[] } w:=by
  have hal:=S.args;refine⟨Co.nil _ _ _ (vr _),?_,fun i c hi=>?_,hm0⟩
  .simp[Fm,hlen];omega
  .have hi':(J5 0 t.args .nil).get i=some c:=by
    have:(Fm fn.ntmps t.args).get i=(J5 0 t.args .nil).get i:=by simp[Fm,AO.get,A6]
    rw[<-this];exact hi
   rcases NE _ _ _ _ _ hi' with⟨j,h1,h2⟩|h1
   .rw[v8] at h1;subst h1;obtain⟨u,h3,h4⟩:=hvs0.get h2;have:((vs:List Value).toArray++Array.replicate (fn.ntmps - (vs:List Value).toArray.size) undef).getD i undef=u:=by
     have hi2:i < vs.length:=(vu.1 h3).1;simp[vy,Array.getElem?_append,hi2];rw[vt hi2] at h3;cases h3;rfl
    rw[this];exact h4
   .simp[Tr.get] at h1
 obtain⟨grA,kA⟩:=RX (P:=P) (T:=T0) (kk:=0) (fun c=>JT hm hcall (AW f) fuel { Ys.none with mu:=(AW f).mu } T0 0 c (hys _)) S.parts;obtain⟨hpl,kA⟩:=kA (Ls hA1) trivial;refine kA (Pv hob1) trivial ρ _ w _ _ hR hm0 fun hpc1 ρ1 a1 w1 hs1 hR1=>?_;have hpcp:pcv Tp o.pc:=LK.1 hpc1;obtain⟨idm,ka,hhead⟩:=S.head;refine wpIn_seq (dQ hm hcall hys hc.p hhead S.round hc.q1 hc.q2 hc.mt (T:=T0) hpc1 (fun c' he=>by have h:=hpl;rw[he] at h;exact h) (F:=F) ?_ hR1 ?_)
 .
  intro T' is i r out hS hmax hnd hlt hni hr hout hTn hcells heq2;have hag:∀x,x < o.g1.n->T' x=Tp x:=fun x hx=>hS.eq x hx;obtain⟨h1,h2⟩:=agree T' hag;have hx:T' o.x=Tp o.x:=hag _ S.x;have hpT:pcv T' o.pc:=(pcs T' hag hpl).2 hpcp;obtain⟨_,h3⟩:=law1 T' us hul hin hpre h1 h2;exact (h3 hpT).1 is i r out (by rw[hx];exact hmax) hnd (by rw[hx];exact hlt) hni (by rw[hx];exact hr) (by rw[hx];exact hout) hTn hcells heq2
 .
  intro is out ρ2 a2 w2 hperm hout hR2 hs2;show c.post.wpIn (fen none) 0 P _ a2 w2;have hSu:Bp T0 (T0.upd o.g1.n (.list out)) o.g1.n:=⟨fun x hx=>Ca _ _ (by omega),rfl,rfl⟩;have hun:(T0.upd o.g1.n (.list out)) o.g1.n= .list out:=Dn _ _ _;obtain⟨u1,u2,u3⟩:=EE o.g4.eqs (T0.upd o.g1.n (.list out));have hlt4:∀x,x < o.g1.n+1->BI (T0.upd o.g1.n (.list out)) o.g4.eqs x=(T0.upd o.g1.n (.list out)) x:=fun x hx=>(B6 (T:=T0.upd o.g1.n (.list out)) S.ok4).2.2 x (.inl hx);have heq4:∀p∈o.g4.eqs,BI (T0.upd o.g1.n (.list out)) o.g4.eqs p.1=p.2.eval (BI (T0.upd o.g1.n (.list out)) o.g4.eqs):=D4 (fv:=[]) (nh:=0) (fun x hx=>by cases hx) (wX _) S.ok4;have hub:(T0.upd o.g1.n (.list out)).base=T0.base:=rfl;generalize T0.upd o.g1.n (.list out)=Tu at hR2 hs2 hSu hun u1 u2 u3 hlt4 heq4 hub;generalize BI Tu o.g4.eqs=T4 at u1 u2 u3 hlt4 heq4;have hS24:Bp Tu T4 (o.g1.n+1):=⟨hlt4,u1,u2⟩;have hag:∀x,x < o.g1.n->T4 x=Tp x:=fun x hx=>(hlt4 x (by omega)).trans (hSu.eq x hx);obtain⟨h1,h2⟩:=agree T4 hag;have hx:T4 o.x=Tp o.x:=hag _ S.x;have hpT:pcv T4 o.pc:=(pcs T4 hag hpl).2 hpcp;obtain⟨_,h3⟩:=law1 T4 us hul hin hpre h1 h2;obtain⟨hob4,hps,hrs⟩:=(h3 hpT).2 is (by rw[hx];exact hperm) (by rw[hlt4 _ (Nat.lt_succ_self _),hun,hx];exact congrArg U.list hout) heq4;have hA4:Agr T4 o.g4:=⟨heq4,fun q hq=>by rw[S.lps4] at hq;cases hq⟩;have hR4:Rel T4 (o.g1.n+1) ρ2 o.hd a2 w2:=hR2.tabB hS24 u3;have gr34:=Gg S.fin;obtain⟨_,kP⟩:=JT hm hcall (AW f) fuel { Ys.none with mu:=(AW f).mu } T4 0 c.post (hys _) o.pc _ _ _ _ S.post;obtain⟨q1,q2,q3⟩:=kP (hA4.of gr34) (by
   have hp:=hpl;cases hpe:o.pc with
   |none=>trivial
   |some x=>rw[hpe] at hp;exact Nat.lt_succ_of_lt hp)
  refine q3 (hob4.of gr34) hpT ρ2 a2 w2 _ hR4 fun y hy hpy ρ3 a3 w3 hs3 hr3=>?_;have hSp4:Bp T T4 t.n:=⟨fun x hx=>(hag x (by omega)).trans (hltp x hx),(u1.trans hSu.fr).trans r1,(u2.trans hSu.lp).trans r2⟩;have hSt4:Bp T0 T4 t.n:=⟨fun x hx=>hag x (by omega),u1.trans hSu.fr,u2.trans hSu.lp⟩;have hm4:AD T4 t.n ρ t.m w:=hmem.tab hSp4;have hst1:AE T4 t.n ρ t.m w ρ1 o.l1.mem w1:=AE.tab hSt4 hm0 hs1 fun id x' ks' e' hxx=>hag _ (hR1.mem.tok_lt hxx);have hst2:AE T4 o.g1.n ρ1 o.l1.mem w1 ρ2 o.hd.mem w2:=AE.tab (T1:=Tu) ⟨fun x hx=>hlt4 x (by omega),u1,u2⟩ (hR1.mem.tab hSu) hs2 fun id x' ks' e' hxx=>hlt4 _ (hR2.mem.tok_lt hxx);have hst:AE T4 t.n ρ t.m w ρ3 y.l.mem w3:=(hst1.trans hm4 hn1 hst2).trans hm4 (by show t.n<=o.g1.n+1;omega) hs3;have hnt:o.hd.tmps.n=o.hd.tmps.n:=rfl;have hend:LeavesInM (fen none) 0 P fn a3.tmps (fun e w'=>∃v ρ',e= .returned v/\AE T t.n ρ t.m w ρ' t.m' w'/\AD T (t.n+t.outs.length) ρ' t.m' w'/\AA T (t.n+t.outs.length) ρ' t.m' w' t.c v) a3.defers .returning w3:=by
   obtain⟨d0,Ds,d1,d2,d3⟩:=hr3.defers;rw[d1];have hbase:T4.base=w.heap.size:=u3.trans hub;refine Kk (T:=T4) (n:=o.g3.n) (ρ := ρ3) (m:=y.l.mem) (B:=w.heap.size) Ds w3 d2 (fun D hD=>⟨by have:=(d3 D hD).1;omega,(d3 D hD).2.1⟩) fun w4 hw4=>?_;have hr4:Rel T4 o.g3.n ρ3 y.l { tmps:=a3.tmps,defers:=[] } w4:=⟨Co.nil _ _ _ (by rw[hw4.size];exact d0),hr3.size,fun i c hi=>hw4.holds _ _ (hr3.tmps i c hi),hw4.mem hr3.mem⟩;obtain⟨v,w5, ρ5,⟨_,rfl,e1⟩,e2,e3,e4⟩:=Lk (T:=T4) (I:=fun _=>True) (E:=T3 P fn) (N:=o.hd.tmps.n) Sb S.fin hA4 q1 y hy hpy ρ3 _ w4 trivial hr4;have st:=(hst.after hm4 hw4).trans hm4 (wI (by show t.n<=o.g1.n+1;omega) (JT hm hcall (AW f) fuel { Ys.none with mu:=(AW f).mu } T4 0 c.post (hys _) o.pc _ _ _ _ S.post).1.n) e2;exact⟨v,e1,v, ρ5,rfl,Uj hm1 hm2 hrl hne (fun x hx=>(hSp4.eq x hx)) hSp4.fr hSp4.lp hul hT hps hrs hm4 st e3 e4⟩
  rcases O9 S.fin y hy with hk|hk<;>rw[hk]<;>exact hend
end
structure ClC where
 o0:Oper
 o1:Oper
 o2:Oper
 p:Oper
 o5:Oper
 o6:Oper
 o7:Oper
 o8:Oper
 st:TypeId
 e:TypeId
 r0:Nat
 r1:Nat
 r2:Nat
 r3:Nat
def ClC.code (c:ClC):Code:= .seq (.region c.r0 [c.o0].toArray false) (.seq (.seq (.region c.r1 [c.o1,c.o2].toArray false) (.cond (.tmp 4) (.seq (.region c.r2 [c.p].toArray false) .ret) .skip)) (.seq (.region c.r3 [c.o5,c.o6,c.o7,c.o8].toArray false) .ret))
structure ClC.Ok (P:Program) (c:ClC) (f:FuncId) (fn:Func):Prop where
 look:P.funcs[f]? =some fn
 body:fn.body=some c.code
 name:(fn.name== "runtime.NumGoroutine")=false
 tm:fn.ntmps=8
 res:fn.results= #[ResultVar.tmp 2]
 o0:(∃v,c.o0.op= .assign v)/\c.o0.dst=some 2/\c.o0.guard=none
 o1:c.o1.op= .move (Operand.tmp 0)/\c.o1.dst=some 3/\c.o1.guard=none
 o2:(∃yt,c.o2.op= .binOp .eql c.st (Operand.tmp 3) (Operand.const (.slice none 0 0)) yt)/\c.o2.dst=some 4/\c.o2.guard=none
 p:c.p.op= .assign (Operand.const (.slice none 0 0))/\c.p.dst=some 2/\c.p.guard=none
 o5:c.o5.op= .buildSlice c.st 0 #[]/\c.o5.dst=some 5/\c.o5.guard=none
 o6:c.o6.op= .move (Operand.tmp 0)/\c.o6.dst=some 6/\c.o6.guard=none
 o7:c.o7.op= .call { callee:= .builtin .append,args:= #[Operand.tmp 5,Operand.tmp 6],argTypes:= #[c.st,c.st] }/\c.o7.dst=some 7/\c.o7.guard=none
 o8:c.o8.op= .assign (Operand.tmp 7)/\c.o8.dst=some 2/\c.o8.guard=none
 st:P.underlying c.st=some (.slice c.e)
def T9 (P:Program)(st:TypeId):Ak:=fun _ _ args pc m g=>
 match args with
 |[x]=>(Iz P #[st,st] (.cv .nilSlice) x m g).map fun r=>(r.c,r.m,(g.pushAll r.us).needAll pc r.ps)
 |_=>none
section
variable {P:Program}
theorem ML {a:Act}{w:World}{o:Oper}{x:Operand}(ho:o.op= .assign x):(execOp a.eval o).run P w= .ok (.value (a.eval x)) w:=by
 simp[execOp,ho]
theorem ZY {c:ClC}{f:FuncId}{fn:Func}(hc:c.Ok P f fn)(T:Tab)(ys:Ys)(k:FuncId)(args:List AC)(pc:PC)(m:Mem)(g:G)(c':AC)(m':Mem)(g':G)(hk:k=f)(h:T9 P c.st ys k args pc m g=some (c',m',g')):
  AR g g'/\(Agr T g'->AY T g'->pcv T pc->A8 T g pc->∀ ρ w vs,AB T g.n ρ m w args vs->AD T g.n ρ m w->
   (∃fn,P.funcs[k]? =some fn/\fn.body.isSome=true/\(fn.name== "runtime.NumGoroutine")=false)/\Calls P k (vs:List Value).toArray w (Ed T g ρ m w c' m' g')):=by
 subst hk;unfold T9 at h;split at h
 .rename_i x;simp only[wK] at h;obtain⟨r,hr,h⟩:=h;cases h;refine⟨(AR.push _ _).trans (AR.need _ _ _),fun hA hob hp _ ρ w vs hvs hm=>⟨⟨fn,hc.look,by rw[hc.body];rfl,hc.name⟩,?_⟩⟩;obtain⟨v,vs',rfl,hx,rfl⟩:=hvs;have hnew:New T g.n r.us:=hA.need.new;have hps:=hob.need hp;have hgn:((g.pushAll r.us).needAll pc r.ps).n=g.n+r.us.length:=by rw[(Cn _ _ _).1,BQ]
  have hr0:=hr;unfold Iz at hr;simp only[vq,vn] at hr;obtain⟨t,ht0,hr⟩:=hr;have ht:t=c.st:=by simpa using ht0.symm
  subst ht;split at hr
  .rename_i e' hs0 hu;have he:e'=c.e:=by rw[hc.st] at hu;cases hu;rfl
   subst he;simp only[vn] at hr;obtain⟨ks,hks,⟨k2,r2⟩,hr2,r3,h3,hr⟩:=hr;have hrow:=EV hr2 hx;obtain⟨l0,hl0,_,_,a0,cap0,rfl,hcap,hptr⟩:=hrow;refine (callsIn_wide (n:=0)).1 (callsIn_of_wp_marks (F:=fen none) hc.look hc.body trivial ?_);generalize hact:({ tmps:=_,defers:=[] }:Act)=a;have hsz:a.tmps.size=8:=by rw[<-hact];simp[hc.tm]
   have ha0:a.eval (.tmp 0)= .slice a0 l0.length cap0:=by
    rw[<-hact];show (#[Value.slice a0 l0.length cap0]++_:Array Value).getD 0 undef=_;rw[vy,Array.getElem?_append];simp
   have had:a.defers=[]:=by rw[<-hact]
   clear hact;have hfin:∀(a':Act) (w':World) (z:Value) (ρ':Nat->Option Nat),a'.tmps.size=8->a'.eval (.tmp 2)=z->a'.defers=[]->AE T g.n ρ m w ρ' r.m w'->AD T (g.n+r.us.length) ρ' r.m w'->AA T (g.n+r.us.length) ρ' r.m w' r.c z->
     LeavesInM (fen none) 0 P fn a'.tmps (Ed T g ρ m w r.c r.m ((g.pushAll r.us).needAll pc r.ps)) a'.defers .returning w':=fun a' w' z ρ' s1 s2 s3 s4 s5 s6=>by
    rw[s3];have hres:(results fn a'.tmps).run P w'= .ok z w':=by
     have h2:a'.tmps.getD 2 undef=z:=s2;rw[vy] at h2;simp[results,hc.res,h2]
    exact⟨z,hres,z, ρ',rfl,s4,by rw[hgn];exact s5,by rw[hgn];exact s6⟩
   refine wpIn_seq (wpIn_region ?_);show wpOpsIn (fen none) 0 P [c.o0].toArray _ [0] a w;obtain⟨x0,hx0⟩:=hc.o0.1;refine Bf (o:=c.o0) rfl hc.o0.2.2 (DE (by rw[hx0];exact fun c h=>by cases h) (ML hx0) ?_);rw[hc.o0.2.1];show (Code.seq _ _).wpIn (fen none) 0 P _ _ w;refine wpIn_seq (wpIn_seq (wpIn_region ?_));show wpOpsIn (fen none) 0 P [c.o1,c.o2].toArray _ [0,1] _ w;refine Bf (o:=c.o1) rfl hc.o1.2.2 (DE (by rw[hc.o1.1];exact fun c h=>by cases h) (On hc.o1.1) ?_);rw[hc.o1.2.1,Cl (by decide),ha0];obtain⟨yt,hyt⟩:=hc.o2.1;refine Bf (o:=c.o2) rfl hc.o2.2.2 (DE (v:= .bool a0.isNone) (w':=w) (by rw[hyt];exact fun c h=>by cases h) ?_ ?_)
   .refine KH (s:=do eqGuard .eql c.st (Operand.tmp 3) (Operand.const (.slice none 0 0)) (.slice a0 l0.length cap0) (.slice none 0 0);binOp .eql c.st (.slice a0 l0.length cap0) (.slice none 0 0)) ?_ ?_
    .simp only[execOp,hyt];rw[Ck (by rw[Bz,hsz];decide)];rfl
    .simp only[Sem.run_bind,EY _ c.st _ _ (a:= .slice a0 l0.length cap0) (b:= .slice none 0 0) (fun _ h=>by cases h) (fun h=>by cases h),Result.andThen_ok];exact Lib.run_eql_slice_nil w c.st c.e a0 _ _ 0 0 hc.st
   rw[hc.o2.2.1];show (Code.cond _ _ _).wpIn (fen none) 0 P _ _ w;generalize hab:(((a.put (some 2) _).put (some 3) _).put (some 4) _:Act)=b;have hbs:b.tmps.size=8:=by rw[<-hab,Bz,Bz,Bz];exact hsz
   have hb0:b.eval (.tmp 0)= .slice a0 l0.length cap0:=by rw[<-hab,Cl (by decide),Cl (by decide),Cl (by decide)];exact ha0
   have hb4:b.eval (.tmp 4)= .bool a0.isNone:=by rw[<-hab,Ck (by rw[Bz,Bz,hsz];decide)]
   have hbd:b.defers=[]:=by rw[<-hab];exact had
   clear hab;cases ha0n:a0 with
   |none=>
    subst ha0n;have hl:l0=[]:=by
     cases l0 with
     |nil=>rfl
     |cons y l=>obtain⟨b',o',h1,_⟩:=hptr (by simp);cases h1
    subst hl;refine wpIn_cond_true hb4 (wpIn_seq (wpIn_region ?_));show wpOpsIn (fen none) 0 P [c.p].toArray _ [0] b w;refine Bf (o:=c.p) rfl hc.p.2.2 (DE (by rw[hc.p.1];exact fun c h=>by cases h) (ML hc.p.1) ?_);rw[hc.p.2.1];refine wpIn_ret ?_;obtain⟨z',w', ρ',q1,q2,q3,q4⟩:=OS (v:= .slice none 0 0) hr0 hnew hps hm rfl hx (ty:=0);obtain⟨i,z,l,hi,_⟩:=Ia hks;have hz:z'= .slice none 0 0/\w'=w:=by
     have h0:=Cy (P:=P) (w:=w) (ty:=0) hc.st hi none none 0 0 cap0 (vr _);rw[show ([]:List (List U)).length=0 from rfl] at q1;rw[h0] at q1;cases q1;exact⟨rfl,rfl⟩
    obtain⟨rfl,rfl⟩:=hz;exact hfin _ _ _ ρ' (by rw[Bz];exact hbs) (Ck (by rw[hbs];decide)) hbd q2 q3 q4
   |some ad=>
    subst ha0n;refine wpIn_cond_false hb4 (wpIn_skip ?_);show (Code.seq _ _).wpIn (fen none) 0 P _ b w;refine wpIn_seq (wpIn_region ?_);show wpOpsIn (fen none) 0 P [c.o5,c.o6,c.o7,c.o8].toArray _ [0,1,2,3] b w;have hb5:Ge P c.st 0 (#[]:Array (Nat × Operand)).size m g=some (FO ks c.e m g):=by
     simp[Ge,hu,hks]
    cases hr;have hn1:New T g.n (FO ks c.e m g).us:=fun j u hj=>hnew j u (by rw[wE (vu.1 hj).1];exact hj);obtain⟨z5,w5, ρ5,q1,q2,q3,q4⟩:=MR (T:=T) (ρ := ρ) (w:=w) (a:=b) (o:=c.o5) hb5 hn1 hm hc.o5.1;refine Bf (o:=c.o5) rfl hc.o5.2.2 (sU (by rw[hc.o5.1];exact fun c h=>by cases h) ⟨z5,w5, ρ5,q1,q2,q3,q4⟩ fun v5 w6 ρ6 s1 s2 s3=>?_);rw[hc.o5.2.1];refine Bf (o:=c.o6) rfl hc.o6.2.2 (DE (by rw[hc.o6.1];exact fun c h=>by cases h) (On hc.o6.1) ?_);rw[hc.o6.2.1,Cl (by decide),hb0];have hx1:AA T (g.n+2) ρ6 (m++[.mrow g.n (g.n+1) ks c.e]) w6 x (.slice (some ad) l0.length cap0):=AA.mono s1 hm (by omega) _ _ hx;obtain⟨z',w', ρ',t1,t2,t3,t4⟩:=PE (g:={ g with n:=g.n+2 }) (T:=T) (ρ := ρ6) (w:=w6) h3 (fun j u hj=>by
     have:=hnew (j+2) u (by simpa [FO] using hj);rwa [show g.n+(j+2)=g.n+2+j by omega] at this) hps s2 s3 (Gk (EV hr2 hx1)) c.o7.type
    have en:g.n+((FO ks c.e m g).us++r3.us).length=g.n+2+r3.us.length:=by simp[FO];omega
    generalize hbb:((b.put (some 5) v5).put (some 6) _:Act)=b2;have hb2s:b2.tmps.size=8:=by rw[<-hbb,Bz,Bz];exact hbs
    have h5:b2.eval (.tmp 5)=v5:=by rw[<-hbb,Cl (by decide),Ck (by rw[hbs];decide)]
    have h6:b2.eval (.tmp 6)= .slice (some ad) l0.length cap0:=by rw[<-hbb,Ck (by rw[Bz,hbs];decide)]
    have hb2d:b2.defers=[]:=by rw[<-hbb];exact hbd
    clear hbb;refine Bf (o:=c.o7) rfl hc.o7.2.2 (DE (v:=z') (w':=w') (by rw[hc.o7.1];exact fun c h=>by cases h) ?_ ?_)
    .rw[Hl hc.o7.1];simp only[List.map_toArray,wG,wa,h5,h6];simp[builtin,t1]
    rw[hc.o7.2.1];refine Bf (o:=c.o8) rfl hc.o8.2.2 (DE (by rw[hc.o8.1];exact fun c h=>by cases h) (ML hc.o8.1) ?_);rw[hc.o8.2.1,Ck (by rw[hb2s];decide)];show (Code.ret).wpIn (fen none) 0 P _ _ w';refine wpIn_ret ?_;exact hfin _ _ _ ρ' (by rw[Bz,Bz];exact hb2s) (Ck (by rw[Bz,hb2s];decide)) hb2d (s1.trans hm (show g.n<=g.n+2 by omega) t2) (by
     show AD T (g.n+((FO ks c.e m g).us++r3.us).length) ρ' r3.m w';rw[en];exact t3) (by
     show AA T (g.n+((FO ks c.e m g).us++r3.us).length) ρ' r3.m w' r3.c z';rw[en];exact t4)
  .cases hr
 .cases h
end
def K9:List (FuncId × TypeId)->FuncId->Option TypeId
 |[],_=>none
 |(f,st)::r,g=>bif Nat.beq f g then some st else K9 r g
def UJ (P:Program)(cl:List (FuncId × TypeId))(l:List (FuncId × AV)):FuncId->Option Ak:=fun f=>match K9 cl f with
 |some st=>some (T9 P st)
 |none=>Jy l f
def JV (P:Program)(cl:List (FuncId × TypeId)):Prop:=∀p∈cl,∃c fn,ClC.Ok P c p.1 fn/\c.st=p.2
theorem OI:∀{cl:List (FuncId × TypeId)} {f:FuncId} {st:TypeId},K9 cl f=some st->(f,st)∈cl
 |[],_,_,h=>by cases h
 |(g,s)::r,f,st,h=>by
  simp only[K9] at h;cases hb:Nat.beq g f with
  |true=>
   rw[hb] at h;cases h;rw[vp hb];exact wA ..
  |false=>rw[hb] at h;exact vz _ (OI h)
theorem XM {P:Program}{cl:List (FuncId × TypeId)}{l:List (FuncId × AV)}(hcl:JV P cl)(hl:∀p∈l,Ae P p.1 p.2):∀f c,UJ P cl l f=some c->∀T,∀ys k args pc m g c' m' g',k=f->CL P T.lp ys->c ys k args pc m g=some (c',m',g')->AR g g'/\(Agr T g'->AY T g'->pcv T pc->A8 T g pc->∀ ρ w vs,AB T g.n ρ m w args vs->AD T g.n ρ m w->
   (∃fn,P.funcs[k]? =some fn/\fn.body.isSome=true/\(fn.name== "runtime.NumGoroutine")=false)/\Calls P k (vs:List Value).toArray w (Ed T g ρ m w c' m' g')):=by
 intro f c h T ys k args pc m g c' m' g' hk hys hr;unfold UJ at h;cases hca:K9 cl f with
 |some st=>
  rw[hca] at h;cases h;obtain⟨c0,fn,hc,hst⟩:=hcl _ (OI hca);simp only at hst;subst hst;exact ZY hc T ys k args pc m g c' m' g' hk hr
 |none=>
  rw[hca] at h;exact LU hl f c h T ys k args pc m g c' m' g' hk hys hr
def AV.runC (P:Program)(cl:List (FuncId × TypeId))(l:List (FuncId × AV))(AW:FuncId->C2)(fuel depth:Nat)(f:FuncId)(t:AV):Option (AC × Mem × G):=
 EQ P (UJ P cl l) AW fuel depth Ys.none f t.args none t.m { n:=t.n,eqs:=[],obs:=[] }
theorem LM {P:Program}{f:FuncId}{t:AV}{cl:List (FuncId × TypeId)}(hcl:JV P cl)(hm:P.follows .mixedOrders=true){l:List (FuncId × AV)}(hl:∀p∈l,Ae P p.1 p.2){AW:FuncId->C2}{fuel depth:Nat}{rs:List Rf}{es:List En}{os:List ObE}
  (hrun:t.sees rs (t.runC P cl l AW fuel depth f)=some (es.map En.be,os.map ObE.be,[])) (hne:Qs t=true)
  (hplain:∀(T:Tab) (us:List U),(∀p∈t.pre,p.2 us)->(∀j u,us[j]? =some u->T j=u)->us.length=t.n->AK T (BK 0 t.ks)->Bnd T 0 t.ks->Ac T (es.map En.be)->G5 T os/\rs.map (Rf.eval T)=t.outs.map fun o=>o.2 us):Ae P f t:=
 tR (fun T=>Js hm (XM hcl hl) depth T) hrun hne hplain
end
section
open Go
theorem Ru {P:Program}{f:FuncId}{t t':AV}{lo hi:Int}{x:Nat}(h:Ae P f t)(hc:t.c= .i .i64 lo hi x)(e1:t'.args=t.args)(e2:t'.m=t.m)(e3:t'.m'=t.m')(e4:t'.n=t.n)(e5:∀us,t'.us us=t.us us)
  (e6:t'.outs.length=t.outs.length) (e7:t'.c= .ci .i64 0)
  (hx:∀us:List U,us.length=t.n->(∀q∈t'.pre,q.2 us)->(t.us us)[x]? =some (.int 0)/\∀q∈t.pre,q.2 us):Ae P f t':=by
 obtain⟨lp,h⟩:=h;refine⟨lp,fun T us hl hu hT hp ρ w vs ha hm=>?_⟩;rw[e4] at hu;rw[e4,e2,e1] at ha;rw[e4,e2] at hm;rw[e5] at hT;obtain⟨h0,hpre⟩:=hx us hu hp;obtain⟨a,b⟩:=h T us hl hu hT hpre ρ w vs ha hm;refine⟨a,b.mono fun e w' k=>?_⟩;rw[e4,e2,e3,e6,e7];obtain⟨v, ρ',k1,k2,k3,k4⟩:=k;refine⟨v, ρ',k1,k2,k3,?_⟩;rw[hc] at k4;obtain⟨_,i,e1,e2,_,_⟩:=k4;have e3:T x= .int 0:=hT x _ h0;rw[e3] at e1;cases e1;exact e2
end
section
open Go Go.RowKit
abbrev RgV:=(PC × Nat × Nat × Nat) × (PC × Nat) × (List BE × List BO) × (List BE × List BO) × (List BE × List BO) × List BP
def Vb (t:AV)(rs:List Rf)(o:RgO):Option RgV:=
 if Nat.beq rs.length t.outs.length&&Nat.ble t.m.length t.m'.length then do
  let ps1<-FW [] t.n t.m'.length rs t.m' o.m0 t.m' o.m0;let ps2<-Ko t.n t.m'.length rs t.m' o.m0 t.c o.c0
  some ((o.pc,o.g1.n,o.x,o.kks.length),(o.pc2,o.zx),(Ef o.g1.eqs.reverse,HX o.g1.obs),(Ef o.g2.eqs.reverse,HX (o.ps.map (Ob.mk o.pc2)++o.g2.obs)),(Ef o.g4.eqs.reverse,HX o.g4.obs),ZI (ps1++ps2))
 else none
theorem WV {P:Program}{f:FuncId}{t:AV}{cl:List (FuncId × TypeId)}(hcl:JV P cl)(hm:P.follows .mixedOrders=true){l:List (FuncId × AV)}(hl:∀p∈l,Ae P p.1 p.2){AW:FuncId->C2}{fuel depth:Nat}{c:RgC}{fn:Func}
  (hc:c.Ok P) (hfn:P.funcs[f]? =some fn) (hbody:fn.body=some c.code) (hname:(fn.name== "runtime.NumGoroutine")=false) {rs:List Rf} {pc pc2:PC} {n1 x kl zx:Nat} {es1 es2 es4:List En} {os1 os2 os4:List ObE}
  (hview:(TD P (EQ P (UJ P cl l) AW fuel depth) (AW f) { Ys.none with mu:=(AW f).mu } fuel c fn t.args t.m t.n).bind (Vb t rs)=some ((pc,n1,x,kl),(pc2,zx),(es1.map En.be,os1.map ObE.be),(es2.map En.be,os2.map ObE.be),(es4.map En.be,os4.map ObE.be),[])) (hne:Qs t=true)
  {F:List U->List (List U)}
  (law:∀(T:Tab) (us:List U),(∀p∈t.pre,p.2 us)->(∀j u,us[j]? =some u->T j=u)->us.length=t.n->AK T (BK 0 t.ks)->Bnd T 0 t.ks->Ac T (es1.map En.be)->G5 T os1/\(pcv T pc->
   (∀(is:List Nat) (i:Nat) (r:List U) (out:List (List U)),(T x).toL.length<=AF->is.Nodup->(∀j∈is,j < (T x).toL.length)->i ∉ is->(T x).toL[i]? =some r->out=(is.map fun j=>(T x).toL.getD j []).flatMap F->T n1= .list out->
    (∀j u,(r.drop kl)[j]? =some u->T (n1+1+j)=u)->Ac T (es2.map En.be)->G5 T os2/\T zx= .list (out++F r))/\
   (∀(is:List Nat),is.Perm (List.range (T x).toL.length)->T n1= .list ((is.map fun j=>(T x).toL.getD j []).flatMap F)->Ac T (es4.map En.be)->G5 T os4/\rs.map (Rf.eval T)=t.outs.map fun q=>q.2 us))):Ae P f t:=by
 simp only[vn] at hview;obtain⟨o,hrun,hv⟩:=hview;have S:=X9 hrun;unfold Vb at hv;split at hv
 .rename_i hcc;rw[vo] at hcc;simp only[vq,vn] at hv;obtain⟨ps1,hm1,ps2,hm2,hv⟩:=hv;simp only[Option.some.injEq,Prod.mk.injEq] at hv;obtain⟨⟨e1,e2,e3,e4⟩,⟨e5,e6⟩,⟨e7,e8⟩,⟨e9,e10⟩,⟨e11,e12⟩,e13⟩:=hv;have toB:∀(T:Tab) (eqs:List (Nat × Ex)),(∀p∈eqs,T p.1=p.2.eval T)->Ac T (Ef eqs.reverse):=fun T eqs h=>Is fun p hp=>h p (List.mem_reverse.1 hp);refine ZF (F:=F) hm (XM hcl hl) hc hfn hbody hname S (vp hcc.1) hm1 hm2 (fun id hid e=>?_) fun T us hul hin hpre hlow heqs=>?_
  .have:=wR.1 hne id (List.mem_range.2 hid);rw[e] at this;cases this
  .obtain⟨i1,i2⟩:=NS (x:=0) (Ij hul hin) fun j u hj=>by rw[v8];exact hlow j u hj
   have hb1:=toB T _ heqs;rw[e7] at hb1;obtain⟨h1,h2⟩:=law T us hpre hlow hul i1 i2 hb1;have h1':=FA h1;rw[<-e8] at h1';refine⟨GY h1',fun hpc=>?_⟩;rw[e1] at hpc;obtain⟨h3,h4⟩:=h2 hpc;rw[e2,e3,e4,e5,e6];refine⟨fun is i r out k1 k2 k3 k4 k5 k6 k7 k8 k9=>?_,fun is k1 k2 k3=>?_⟩
   .have hb2:=toB T _ k9;rw[e9] at hb2;obtain⟨g1,g2⟩:=h3 is i r out k1 k2 k3 k4 k5 k6 k7 k8 hb2;have g1':=FA g1;rw[<-e10] at g1';have g3:=GY g1';exact⟨fun q hq=>g3 q (wB _ hq),fun hp=>⟨fun q hq=>g3 (Ob.mk o.pc2 q) (wH _ (List.mem_map.2 ⟨q,hq,rfl⟩)) (by rw[<-e5] at hp;exact hp),g2⟩⟩
   .have hb4:=toB T _ k3;rw[e11] at hb4;obtain⟨g1,g2⟩:=h4 is k1 k2 hb4;have g1':=FA g1;rw[<-e12] at g1';exact⟨GY g1',Ni (by rw[e13];trivial),g2⟩
 .cases hv
end
end Go.Eng
end
