/-
  A part of the proof: the evaluator of code and its soundness.
-/
import Derived.Test.YtikbgnmcfncnaaaE3
import Derived.Carry
import Derived.ChangeSame
import Derived.Maps.RangeRun
import Derived.LoopNIn
import Derived.Test.YtikbgnmcfncnaaaE2
import Derived.WalkSpells
import Derived.Lib.SliceRun
set_option linter.unusedVariables false
set_option linter.unusedSimpArgs false
noncomputable section
namespace Go.Eng
section
open Go Go.RowKit
inductive W9 where
 |one (k:Kd)
 |agg (ks:List Kd)
 |ptr (j off:Nat)
 |cst (c:AC)
def FK:Nat->List W9->List AC
 |_,[]=>[]
 |x,.one k::r=>QJ k x::FK (x+1) r
 |x,.agg ks::r=> .agg (Qb x ks)::FK (x+ks.length) r
 |x,.ptr j off::r=> .ptr j off::FK x r
 |x,.cst c::r=>c::FK x r
def DY:List W9->List Kd
 |[]=>[]
 | .one k::r=>k::DY r
 | .agg ks::r=>ks++DY r
 | .ptr _ _::r=>DY r
 | .cst _::r=>DY r
def JL:Nat->List (List Kd × TypeId)->Mem
 |_,[]=>[]
 |x,(ks,e)::r=> .cells (Qb x ks) e::JL (x+ks.length) r
def QO (l:List (List Kd × TypeId)):List Kd:=(l.map (·.1)).flatten
structure AZ where
 sh:List W9
 blks:List (List Kd × TypeId)
 outs:List (Tg × (List U->U))
 c:AC
 m':Mem
 pre:List (Tg × (List U->Prop))
 row:Option (List Kd × TypeId):=none
def AZ.args (t:AZ):List AC:=match t.row with|none=>FK 0 t.sh|some _=> .mr 0 1::FK 2 t.sh
def AZ.m (t:AZ):Mem:=match t.row with|none=>JL (DY t.sh).length t.blks|some (ks,e)=>[.mrow 0 1 ks e]
def AZ.ks (t:AZ):List Kd:=match t.row with|none=>DY t.sh++QO t.blks|some (ks,_)=> .list ks:: .int .i64 0 AD::DY t.sh
def AZ.n (t:AZ):Nat:=t.ks.length
def AZ.us (t:AZ)(us:List U):List U:=us++t.outs.map fun o=>o.2 us
def Ae (P:Program)(f:FuncId)(t:AZ):Prop:=
 ∃b:Nat->CO,∀(T:Tab) (us:List U),T.lp=b->us.length=t.n->(∀j u,(t.us us)[j]? =some u->T j=u)->(∀p∈t.pre,p.2 us)->∀ V w W,AB T t.n V t.m w t.args W->AG T t.n V t.m w->
  (∃aF,P.funcs[f]? =some aF/\aF.body.isSome=true/\(aF.name== "runtime.NumGoroutine")=false)/\
  Calls P f (W:List Value).toArray w fun e Z=>∃v ab,e= .returned v/\AH T t.n V t.m w ab t.m' Z/\AG T (t.n+t.outs.length) ab t.m' Z/\AA T (t.n+t.outs.length) ab t.m' Z t.c v
def W7:List AC->List AC->List (Nat × Nat)
 | .ptr j _::as,.ptr id _::av=>(j,id)::W7 as av
 |_::as,_::av=>W7 as av
 |_,_=>[]
def Gx:List (Nat × Nat)->Nat->Option Nat
 |[],_=>none
 |(j,id)::r,x=>if Nat.beq j x then some id else Gx r x
def Qi (x:Nat):Option (Rf × List Pr)->Option (List (Nat × Rf) × List Pr)
 |some (r,ps)=>some ([(x,r)],ps)
 |none=>none
def fL:Option (List (Nat × Rf) × List Pr)->Option (List (Nat × Rf) × List Pr)->Option (List (Nat × Rf) × List Pr)
 |some (a,b),some (a',b')=>some (a++a',b++b')
 |_,_=>none
mutual
def Bl (an:List (Nat × Nat)):AC->AC->Option (List (Nat × Rf) × List Pr)
 | .ptr j off,c=>(match c with
  | .ptr id off'=>if Nat.beq off off'&&(match Gx an j with|some b=>Nat.beq id b|none=>false) then some ([],[]) else none
  |_=>none)
 | .i k ap Y x,c=>Qi x (fit (.int k ap Y) c)
 | .b x,c=>Qi x (fit .bool c)
 | .v x,c=>Qi x (fit .val c)
 | .s x,c=>Qi x (fit .str c)
 | .ro x ks,c=>Qi x (fit (.list ks) c)
 | .agg l,c=>(match c with
  | .agg af=>Hx an l af
  |_=>none)
 | .anyc,c=>if AC.atom c then some ([],[]) else none
 | .fn f [] [],c=>if AC.beq (.fn f [] []) c then some ([],[]) else none
 |_,_=>none
def Hx (an:List (Nat × Nat)):List AC->List AC->Option (List (Nat × Rf) × List Pr)
 |[],[]=>some ([],[])
 |h::l,c::af=>fL (Bl an h c) (Hx an l af)
 |_,_=>none
end
def Qt (an:List (Nat × Nat)):Blk->Blk->Option (List (Nat × Rf) × List Pr)
 | .cells l e,.cells af e'=>if Nat.beq e e' then Hx an l af else none
 |_,_=>none
def H9 (an:List (Nat × Nat))(aq:Mem):List (Nat × Nat)->Mem->Option (List (Nat × Rf) × List Pr)
 |[],[]=>some ([],[])
 |(_,id)::r,b::m=>fL (Qt an b (aq.at id)) (H9 an aq r m)
 |_,_=>none
def XT (an:List (Nat × Nat))(a7 a5 j:Nat):Option Nat:=if Nat.blt j a7 then Gx an j else some (a5+(j - a7))
mutual
def up1 (n base:Nat)(an:List (Nat × Nat))(a7 a5:Nat)(ad:Mem)(rs:List Rf):AC->AC
 | .i k ap Y x=>if Nat.ble n x then .i k ap Y (base+(x - n)) else (match rs[x]? with|some (.e y)=> .i k ap Y y|_=> .anyc)
 | .b x=>if Nat.ble n x then .b (base+(x - n)) else (match rs[x]? with|some (.e y)=> .b y|_=> .anyc)
 | .v x=>if Nat.ble n x then .v (base+(x - n)) else (match rs[x]? with|some (.e y)=> .v y|_=> .anyc)
 | .s x=>if Nat.ble n x then .s (base+(x - n)) else (match rs[x]? with|some (.e y)=> .s y|_=> .anyc)
 | .ro x ks=>if Nat.ble n x then .ro (base+(x - n)) ks else (match rs[x]? with|some (.e y)=> .ro y ks|_=> .anyc)
 | .vec _ x ks=>if Nat.ble n x then .ro (base+(x - n)) ks else (match rs[x]? with|some (.e y)=> .ro y ks|_=> .anyc)
 | .ptr j off=>(match ad.at j,XT an a7 a5 j with| .cells _ _,some id=> .ptr id off|_,_=> .anyc)
 | .cb b=> .cb b
 | .ci k i=> .ci k i
 | .cv c=> .cv c
 | .agg l=> .agg (upL n base an a7 a5 ad rs l)
 | .tup l=> .tup (upL n base an a7 a5 ad rs l)
 |_=> .any
def upL (n base:Nat)(an:List (Nat × Nat))(a7 a5:Nat)(ad:Mem)(rs:List Rf):List AC->List AC
 |[]=>[]
 |a::l=>up1 n base an a7 a5 ad rs a::upL n base an a7 a5 ad rs l
end
def det:AC->Bool
 | .i .. | .b _| .v _| .s _| .ptr .. | .ci .. | .cb _| .cv _=>true
 |_=>false
def Ux (up:AC->AC):List AC->List AC->List AC->List AC
 |h0::l0,c::l,h::af=>(if det h&&AC.beq h0 h then c else up h)::Ux up l0 l af
 |_,_,_=>[]
def OT (up:AC->AC):Blk->Blk->Blk->Blk
 | .cells l0 _,.cells l e,.cells af e'=>if Nat.beq l0.length l.length&&Nat.beq l.length af.length&&Nat.beq e e' then .cells (Ux up l0 l af) e else .gone
 |_,_,_=> .gone
def D7 (B:Nat->Blk->Blk):List (Nat × Nat)->Mem->Mem
 |[],m=>m
 |(j,id)::r,m=>(D7 B r m).set id (B j (m.at id))
def Xq (up:AC->AC):Blk->Blk
 | .cells l e=> .cells (l.map up) e
 |_=> .gone
def ZU (t:AZ):Au:=fun _ _ as ac aq g=>
 let an:=W7 t.args as
 if t.row.isNone&&EH (an.map (·.1)) (List.range t.m.length)&&Fz (an.map (·.2))&&an.all (fun p=>Nat.blt p.2 aq.length)&&Nat.ble t.m.length t.m'.length then
  match fL (Hx an t.args as) (H9 an aq an t.m) with
  |some (prs,ps)=>
   if EH (prs.map (·.1)) (List.range t.n) then
    let rs:=prs.map (·.2);let up:=up1 t.n g.n an t.m.length aq.length t.m' rs
    some (up t.c,D7 (fun j b=>OT up (t.m.at j) b (t.m'.at j)) an aq++(t.m'.drop t.m.length).map (Xq up),
     (g.needAll ac (ps++t.pre.map fun (tg,f)=>⟨tg,f,rs⟩)).pushAll (t.outs.map fun (tg,F)=>⟨tg,F,rs⟩))
   else none
  |none=>none
 else none
theorem Kk:∀{l af:List Nat},EH l af=true->l=af
 |[],[],_=>rfl
 |a::l,b::af,h=>by
  simp only[EH,tV] at h;rw[tW h.1,Kk h.2]
 |[],_::_,h=>by cases h
 |_::_,[],h=>by cases h
theorem P4:∀{an:List (Nat × Nat)} {j id:Nat},Gx an j=some id->(j,id)∈an
 |[],_,_,h=>by simp[Gx] at h
 |(j',id')::r,j,id,h=>by
  simp only[Gx] at h;split at h
  .rename_i b;cases h;rw[tW b];exact tl ..
  .exact th _ (P4 h)
theorem nO {an:List (Nat × Nat)}(b:(an.map (·.1)).Nodup){j id:Nat}(h:(j,id)∈an):Gx an j=some id:=by
 induction an with
 |nil=>cases h
 |cons p r q=>
  obtain⟨y,s⟩:=p;simp only[tx,List.nodup_cons] at b;simp only[Gx];cases h with
  |head=>simp
  |tail _ h=>
   split
   .rename_i e;have:=tW e;subst this;exact absurd (vG.2 ⟨_,h,rfl⟩) b.1
   .exact q b.2 h
def SP (n:Nat):Rf->Prop
 | .c _=>True
 | .e x=>x < n
 | .n x=>x < n
variable{T:Tab}{V:Nat->Option Nat}{w:World}{c:AC}{k:Kd}{r:Rf}{v:Value}{ps:List Pr}
theorem qW {n:Nat}{m:Mem}(h:FG c=some (k,r))(e:AA T n V m w c v):SP n r:=by
 cases c<;>simp only[FG] at h<;>first
  |(cases h;done)
  |(cases h;trivial)
  |(cases h;exact e.1)
  |(rename_i b;cases b<;>simp only[FG] at h<;>(try split at h)<;>cases h<;>trivial)
theorem sw {n:Nat}{m:Mem}(h:fit k c=some (r,ps))(b:AA T n V m w c v):SP n r:=by
 cases aa:FG c with
 |none=>unfold fit at h;rw[aa] at h;cases k<;>cases h
 |some q=>
  obtain⟨s,ax⟩:=q;have:=qW aa b;have e:ax=r:=by
   unfold fit at h;grind
  rw[<-e];exact this
theorem MH {a b:Option (List (Nat × Rf) × List Pr)}{C:List (Nat × Rf)}(h:fL a b=some (C,ps)):∃e s q y,a=some (e,s)/\b=some (q,y)/\C=e++q/\ps=s++y:=by
 cases a with
 |none=>cases b<;>cases h
 |some a=>
  cases b with
  |none=>cases h
  |some b=>
   obtain⟨e,s⟩:=a;obtain⟨q,y⟩:=b;cases h;exact⟨e,s,q,y,rfl,rfl,rfl,rfl⟩
section
variable {T A:Tab}{V aW:Nat->Option Nat}{aq mt:Mem}{w:World}{n a4:Nat}{an:List (Nat × Nat)}
structure XZ (T T2:Tab) (ρ ρ2:Nat->Option Nat) (ma mt:Mem) (w:World) (ren:List (Nat × Nat)):Prop where
 safe:∀b off,AY T ρ ma w b off->AY T2 ρ2 mt w b off
 ptr:∀j id,Gx ren j=some id-> ρ2 j= ρ id/\(mt.at j).ptrOk=true
mutual
theorem nZ (M:XZ T A V aW aq mt w an):∀(h c:AC) {y:List (Nat × Rf)} {ps:List Pr} {v:Value},Bl an h c=some (y,ps)->(∀p∈y,p.1 < n/\A p.1=p.2.eval T)->(∀p∈ps,p.holds T)->AA T a4 V aq w c v->
  AA A n aW mt w h v/\∀p∈y,SP a4 p.2
 | .ptr j off,c,y,ps,v,hb,q,hq,hv=>by
  cases c<;>simp only[Bl] at hb<;>try (cases hb;done)
  rename_i id ba;cases N:Gx an j with
  |none=>rw[N] at hb;simp at hb
  |some a6=>
   rw[N] at hb;simp only at hb;split at hb
   .rename_i K;cases hb;rw[tV] at K;have e1:=tW K.1;have e2:=tW K.2;subst e1;subst e2;obtain⟨b,s,E,_⟩:=hv;obtain⟨H,k4⟩:=M.ptr j id N;exact⟨⟨b,by rw[H];exact s,E,k4⟩,fun p q=>by cases q⟩
   .cases hb
 | .i k ap Y x,c,y,ps,v,hb,q,hq,hv=>by
  simp only[Bl] at hb;obtain⟨s,E,H⟩:=Lj M hb q hq hv;exact⟨⟨s,E⟩,H⟩
 | .b x,c,y,ps,v,hb,q,hq,hv=>by
  simp only[Bl] at hb;obtain⟨s,E,H⟩:=Lj M hb q hq hv;exact⟨⟨s,E⟩,H⟩
 | .v x,c,y,ps,v,hb,q,hq,hv=>by
  simp only[Bl] at hb;obtain⟨s,E,H⟩:=Lj M hb q hq hv;exact⟨⟨s,E⟩,H⟩
 | .s x,c,y,ps,v,hb,q,hq,hv=>by
  simp only[Bl] at hb;obtain⟨s,E,H⟩:=Lj M hb q hq hv;exact⟨⟨s,E⟩,H⟩
 | .ro x ks,c,y,ps,v,hb,q,hq,hv=>by
  simp only[Bl] at hb;obtain⟨s,E,H⟩:=Lj M hb q hq hv;exact⟨⟨s,E⟩,H⟩
 | .agg l,c,y,ps,v,hb,q,hq,hv=>by
  cases c<;>simp only[Bl] at hb<;>try (cases hb;done)
  rename_i af;obtain⟨W,e,C⟩:=hv;obtain⟨s,E⟩:=Ic M l af hb q hq C;exact⟨⟨W,e,s⟩,E⟩
 | .anyc,c,y,ps,v,hb,q,hq,hv=>by
  simp only[Bl] at hb;split at hb
  .rename_i J;cases hb;exact⟨HL J hv,fun p q=>by cases q⟩
  .cases hb
 | .any,_,_,_,_,hb,_,_,_=>by simp[Bl] at hb
 | .on _ _,_,_,_,_,hb,_,_,_=>by simp[Bl] at hb
 | .gd _ _,_,_,_,_,hb,_,_,_=>by simp[Bl] at hb
 | .cb _,_,_,_,_,hb,_,_,_=>by simp[Bl] at hb
 | .nb _,_,_,_,_,hb,_,_,_=>by simp[Bl] at hb
 | .ci _ _,_,_,_,_,hb,_,_,_=>by simp[Bl] at hb
 | .cv _,_,_,_,_,hb,_,_,_=>by simp[Bl] at hb
 | .pix ..,_,_,_,_,hb,_,_,_=>by simp[Bl] at hb
 | .rp ..,_,_,_,_,hb,_,_,_=>by simp[Bl] at hb
 | .vec ..,_,_,_,_,hb,_,_,_=>by simp[Bl] at hb
 | .fn f [] [],c,y,ps,v,hb,_,_,hv=>by
  simp only[Bl] at hb;split at hb
  .rename_i J;cases hb;have e:=AC.beq_eq _ _ J;subst e;obtain⟨W,us,C,O,h3⟩:=hv;exact⟨⟨W,us,C,O,h3⟩,fun p q=>by cases q⟩
  .cases hb
 | .fn _ (_::_) _,_,_,_,_,hb,_,_,_=>by simp[Bl] at hb
 | .fn _ [] (_::_),_,_,_,_,hb,_,_,_=>by simp[Bl] at hb
 | .mr ..,_,_,_,_,hb,_,_,_=>by simp[Bl] at hb
 | .mp ..,_,_,_,_,hb,_,_,_=>by simp[Bl] at hb
 | .mv _,_,_,_,_,hb,_,_,_=>by simp[Bl] at hb
 | .sel ..,_,_,_,_,hb,_,_,_=>by simp[Bl] at hb
 | .yl _,_,_,_,_,hb,_,_,_=>by simp[Bl] at hb
 | .asl ..,_,_,_,_,hb,_,_,_=>by simp[Bl] at hb
 | .rsv ..,_,_,_,_,hb,_,_,_=>by simp[Bl] at hb
 | .tup _,_,_,_,_,hb,_,_,_=>by simp[Bl] at hb
theorem Ic (M:XZ T A V aW aq mt w an):∀(l af:List AC) {q:List (Nat × Rf)} {ps:List Pr} {W:List Value},Hx an l af=some (q,ps)->(∀p∈q,p.1 < n/\A p.1=p.2.eval T)->(∀p∈ps,p.holds T)->AB T a4 V aq w af W->
  AB A n aW mt w l W/\∀p∈q,SP a4 p.2
 |[],[],q,ps,W,hb,_,_,hv=>by
  simp only[Hx] at hb;cases hb;exact⟨hv,fun p s=>by cases s⟩
 |h::l,c::af,q,ps,W,hb,s,hq,hv=>by
  simp only[Hx] at hb;obtain⟨Y,q1,p2,q2,y,H,rfl,rfl⟩:=MH hb;obtain⟨u,us,e,C,O⟩:=hv;obtain⟨J,E⟩:=nZ M h c y (fun p b=>s p (tz _ b)) (fun p b=>hq p (tz _ b)) C;obtain⟨K,N⟩:=Ic M l af H (fun p b=>s p (tp _ b)) (fun p b=>hq p (tp _ b)) O;refine⟨⟨u,us,e,J,K⟩,fun p b=>?_⟩;rcases uY.1 b with h|h
  .exact E p h
  .exact N p h
 |[],_::_,_,_,_,hb,_,_,_=>by simp[Hx] at hb
 |_::_,[],_,_,_,hb,_,_,_=>by simp[Hx] at hb
theorem Lj (M:XZ T A V aW aq mt w an){k:Kd}{x:Nat}{c:AC}{y:List (Nat × Rf)}{ps:List Pr}{v:Value}(e:Qi x (fit k c)=some (y,ps))(K:∀p∈y,p.1 < n/\A p.1=p.2.eval T)(N:∀p∈ps,p.holds T)(H:AA T a4 V aq w c v):
  x < n/\AT (AY A aW mt w) w k (A x) v/\∀p∈y,SP a4 p.2:=by
 cases s:fit k c with
 |none=>rw[s] at e;cases e
 |some O=>
  obtain⟨r,q⟩:=O;rw[s] at e;cases e;obtain⟨J,E⟩:=K (x,r) (uT.2 rfl);simp only at J E;refine⟨J,?_,fun p C=>?_⟩
  .rw[E];exact AT.mono (fun b off h=>⟨M.safe b off h,rfl⟩) _ _ _ (Xa s H N)
  .simp at C;subst C;exact sw s H
end
end
theorem XX {an:List (Nat × Nat)}{aq:Mem}:∀{r:List (Nat × Nat)} {m:Mem} {s:List (Nat × Rf)} {ps:List Pr},H9 an aq r m=some (s,ps)->
  r.length=m.length/\∀(i j id:Nat) (b:Blk),r[i]? =some (j,id)->m[i]? =some b->∃p q,Qt an b (aq.at id)=some (p,q)/\(∀x∈p,x∈s)/\∀x∈q,x∈ps
 |[],[],s,ps,h=>⟨rfl,fun i j id b Y=>by simp at Y⟩
 |(M,id0)::r,b0::m,s,ps,h=>by
  simp only[H9] at h;obtain⟨J,K,p2,q2,C,O,rfl,rfl⟩:=MH h;obtain⟨H,E⟩:=XX O;refine⟨by simp[H],fun i j id b Y y=>?_⟩;cases i with
  |zero=>
   simp at Y y;obtain⟨rfl,rfl⟩:=Y;subst y;exact⟨J,K,C,fun x e=>tz _ e,fun x e=>tz _ e⟩
  |succ i=>
   obtain⟨p,q,N,W,z3⟩:=E i j id b (by simpa using Y) (by simpa using y);exact⟨p,q,N,fun x e=>tp _ (W x e),fun x e=>tp _ (z3 x e)⟩
 |[],_::_,_,_,h=>by simp[H9] at h
 |_::_,[],_,_,h=>by simp[H9] at h
theorem Iv (B:Nat->Blk->Blk):∀(an:List (Nat × Nat)) (m:Mem),(D7 B an m).length=m.length
 |[],_=>rfl
 |(j,id)::r,m=>by simp[D7,Iv B r m]
theorem TQ (B:Nat->Blk->Blk):∀(an:List (Nat × Nat)) (m:Mem),(an.map (·.2)).Nodup->(∀p∈an,p.2 < m.length)->∀id,(∀j,(j,id)∈an->(D7 B an m).at id=B j (m.at id))/\((∀j,(j,id) ∉ an)->(D7 B an m).at id=m.at id)
 |[],m,_,_,id=>⟨(fun j h=>by cases h),fun _=>rfl⟩
 |(M,id0)::r,m,hn,hl,id=>by
  simp only[tx,List.nodup_cons] at hn;obtain⟨J,E⟩:=TQ B r m hn.2 (fun p H=>hl p (th _ H)) id;have C:id0 < (D7 B r m).length:=by rw[Iv];exact hl (M,id0) (tl ..)
  have y:Mem.at ((D7 B r m).set id0 (B M (m.at id0))) id=if id=id0 then B M (m.at id0) else (D7 B r m).at id:=by
   unfold Mem.at;rw[u4];by_cases h:id0=id
   .subst h;simp[C]
   .rw[vA h,vA (fun e=>h e.symm)]
  have e:D7 B ((M,id0)::r) m=(D7 B r m).set id0 (B M (m.at id0)):=rfl;rw[e,y];refine⟨fun j b=>?_,fun s=>?_⟩
  .cases b with
   |head=>rw[vC rfl]
   |tail _ b=>
    have q:id≠id0:=fun h=>hn.1 (vG.2 ⟨_,b,h⟩);rw[vA q];exact J j b
  .have q:id≠id0:=fun h=>s M (by rw[h];exact tl ..);rw[vA q];exact E fun j b=>s j (th _ b)
theorem Zl:∀(H:List (List Kd × TypeId)) (x j:Nat),j < H.length->∃l e,(JL x H).at j= .cells l e
 |[],_,j,h=>by simp at h
 |(ks,e)::r,x,0,_=>⟨_,_,rfl⟩
 |(ks,e)::r,x,j+1,h=>by
  have:=Zl r (x+ks.length) j (by simpa using h);simpa [JL,Mem.at] using this
theorem QN:∀(H:List (List Kd × TypeId)) (x:Nat),(JL x H).length=H.length
 |[],_=>rfl
 |_::r,x=>by simp[JL,QN r]
structure Y6 (T T2:Tab) (n gn gn':Nat) (ren:List (Nat × Nat)) (nt na:Nat) (ρ2 ρ':Nat->Option Nat) (m2 mo:Mem) (w':World) (rs:List Rf):Prop where
 old:∀x r,rs[x]? =some r->T2 x=r.eval T/\SP gn' r
 new:∀x,n<=x->∀k,x < n+k->gn+k=gn'->gn+(x - n) < gn'/\T (gn+(x - n))=T2 x
 safe:∀b off,AY T2 ρ2 m2 w' b off->AY T ρ' mo w' b off
 ptr:∀j l e id,m2.at j= .cells l e->XT ren nt na j=some id-> ρ' id= ρ2 j/\(mo.at id).ptrOk=true
section
variable {T A:Tab}{n k a4 a9 a7 a5:Nat}{an:List (Nat × Nat)}{aW ab:Nat->Option Nat}{ag aX:Mem}{Z:World}{rs:List Rf}
mutual
theorem lN (B:Y6 T A n a4 a9 an a7 a5 aW ab ag aX Z rs)(J:a4+k=a9):∀(h:AC) (v:Value),AA A (n+k) aW ag Z h v->AA T a9 ab aX Z (up1 n a4 an a7 a5 ag rs h) v
 | .i ai ap Y x,v,⟨h0,i,C,O,h3⟩=>by
  simp only[up1];split
  .rename_i E;obtain⟨q,s⟩:=B.new x (uF E) k h0 J;exact⟨q,i,by rw[s];exact C,O,h3⟩
  .split
   .rename_i y H;obtain⟨q,s⟩:=B.old x _ H;exact⟨s,i,by rw[<-C,q];rfl,O,h3⟩
   .rw[O];rfl
 | .b x,v,⟨h0,i,C,O⟩=>by
  simp only[up1];split
  .rename_i E;obtain⟨q,s⟩:=B.new x (uF E) k h0 J;exact⟨q,i,by rw[s];exact C,O⟩
  .split
   .rename_i y H;obtain⟨q,s⟩:=B.old x _ H;exact⟨s,i,by rw[<-C,q];rfl,O⟩
   .rw[O];rfl
 | .v x,v,⟨h0,C,O⟩=>by
  simp only[up1];split
  .rename_i E;obtain⟨q,s⟩:=B.new x (uF E) k h0 J;exact⟨q,by rw[s];exact C,O⟩
  .split
   .rename_i y H;obtain⟨q,s⟩:=B.old x _ H;exact⟨s,by rw[<-C,q];rfl,O⟩
   .exact O
 | .s x,v,⟨h0,i,C,O⟩=>by
  simp only[up1];split
  .rename_i E;obtain⟨q,s⟩:=B.new x (uF E) k h0 J;exact⟨q,i,by rw[s];exact C,O⟩
  .split
   .rename_i y H;obtain⟨q,s⟩:=B.old x _ H;exact⟨s,i,by rw[<-C,q];rfl,O⟩
   .rw[O.1];rfl
 | .ro x ks,v,⟨h0,C⟩=>by
  simp only[up1];split
  .rename_i E;obtain⟨q,s⟩:=B.new x (uF E) k h0 J;exact⟨q,by rw[s];exact AT.mono (fun b off h=>⟨B.safe b off h,rfl⟩) _ _ _ C⟩
  .split
   .rename_i y H;obtain⟨q,s⟩:=B.old x _ H;exact⟨s,by rw[show T y=A x by rw[q];rfl];exact AT.mono (fun b off h=>⟨B.safe b off h,rfl⟩) _ _ _ C⟩
   .exact C.one
 | .vec id x ks,v,⟨h0,_,C,_⟩=>by
  simp only[up1];split
  .rename_i E;obtain⟨q,s⟩:=B.new x (uF E) k h0 J;exact⟨q,by rw[s];exact AT.mono (fun b off h=>⟨B.safe b off h,rfl⟩) _ _ _ C⟩
  .split
   .rename_i y H;obtain⟨q,s⟩:=B.old x _ H;exact⟨s,by rw[show T y=A x by rw[q];rfl];exact AT.mono (fun b off h=>⟨B.safe b off h,rfl⟩) _ _ _ C⟩
   .exact C.one
 | .ptr j off,v,⟨b,C,O,h3⟩=>by
  simp only[up1];split
  .rename_i l e id K M;obtain⟨q,s⟩:=B.ptr j l e id K M;exact⟨b,by rw[q];exact C,O,s⟩
  .rw[O];rfl
 | .cb b,v,h=>h
 | .ci ai i,v,h=>h
 | .cv c,v,h=>h
 | .agg l,v,⟨W,C,O⟩=>⟨W,C,Xr B J l W O⟩
 | .tup l,v,⟨W,C,O⟩=>⟨W,C,Xr B J l W O⟩
 | .any,_,_=>trivial
 | .anyc,_,_=>trivial
 | .on _ _,_,_=>trivial
 | .gd _ _,_,_=>trivial
 | .nb _,_,_=>trivial
 | .pix ..,_,_=>trivial
 | .rp ..,_,_=>trivial
 | .fn ..,_,_=>trivial
 | .sel ..,_,_=>trivial
 | .yl _,_,_=>trivial
 | .asl ..,_,_=>trivial
 | .rsv ..,_,_=>trivial
 | .mr ..,_,_=>trivial
 | .mp ..,_,_=>trivial
 | .mv _,_,_=>trivial
theorem Xr (B:Y6 T A n a4 a9 an a7 a5 aW ab ag aX Z rs)(b:a4+k=a9):∀(l:List AC) (W:List Value),AB A (n+k) aW ag Z l W->AB T a9 ab aX Z (upL n a4 an a7 a5 ag rs l) W
 |[],_,h=>h
 |c::l,W,⟨u,us,C,O,h3⟩=>⟨u,us,C,lN B b c u O,Xr B b l us h3⟩
end
end
theorem WH {an:List (Nat × Nat)}{aq:Mem}:∀{r:List (Nat × Nat)} {m:Mem} {s:List (Nat × Rf)} {ps:List Pr},H9 an aq r m=some (s,ps)->
  ∀x∈s,∃(i j id:Nat) (b:Blk) (p:List (Nat × Rf)) (q:List Pr),r[i]? =some (j,id)/\m[i]? =some b/\Qt an b (aq.at id)=some (p,q)/\x∈p
 |[],[],s,ps,h,x,e=>by simp only[H9] at h;cases h;cases e
 |(M,id0)::r,b0::m,s,ps,h,x,e=>by
  simp only[H9] at h;obtain⟨y,E,W,Y,C,O,rfl,rfl⟩:=MH h;rcases uY.1 e with e|e
  .exact⟨0,M,id0,b0,y,E,rfl,rfl,C,e⟩
  .obtain⟨i,j,id,b,p,q,H,J,K,N⟩:=WH O x e;exact⟨i+1,j,id,b,p,q,by simpa using H,by simpa using J,K,N⟩
 |[],_::_,_,_,h,_,_=>by simp[H9] at h
 |_::_,[],_,_,h,_,_=>by simp[H9] at h
theorem sk {A:Tab}{n ak:Nat}{aW K:Nat->Option Nat}{m ad:Mem}{w Z:World}(N:∀id,(m.at id).ptrOk=true-> K id= aW id){h:AC}{u e:Value}(hd:det h=true)(C:AA A n aW m w h u)(O:AA A ak K ad Z h e):e=u:=by
 cases h<;>simp only[det] at hd<;>try (cases hd;done)
 case cb b=>rw[show u=_ from C,show e=_ from O]
 case b x=>
  obtain⟨_,b,q,H⟩:=C;obtain⟨_,E,y,J⟩:=O;grind
 case ci k i=>rw[show u=_ from C,show e=_ from O]
 case i k ap Y x=>
  obtain⟨_,b,q,H,_⟩:=C;obtain⟨_,E,y,J,_⟩:=O;grind
 case cv c=>rw[show u=_ from C,show e=_ from O]
 case v x=>
  obtain⟨_,q,_⟩:=C;obtain⟨_,y,_⟩:=O;grind
 case s x=>
  obtain⟨_,b,q,H⟩:=C;obtain⟨_,E,y,J⟩:=O;grind
 case ptr id off=>
  obtain⟨b,q,H,y⟩:=C;obtain⟨E,J,M,_⟩:=O;grind
theorem S4 {T A:Tab}{n ak a4 a9:Nat}{V aW y ab:Nat->Option Nat}{aq mt ag aX:Mem}{w Z:World}{up:AC->AC}(H:AH T a4 V aq w ab aX Z)(C:a4<=a9)(E:∀id,(mt.at id).ptrOk=true-> y id= aW id)
  (J:∀h v,AA A ak y ag Z h v->AA T a9 ab aX Z (up h) v):∀{b l af:List AC} {W q:List Value},b.length=l.length->l.length=af.length->AB A n aW mt w b W->AB T a4 V aq w l W->AB A ak y ag Z af q->AB T a9 ab aX Z (Ux up b l af) q
 |[],[],[],W,q,_,_,_,_,h=>h
 |h0::b,c::l,h::af,W,q,e1,e2,⟨u0,us0,f0,a1,a2⟩,⟨u1,us1,f,b1,b2⟩,⟨u,us,f3,aL,c2⟩=>by
  subst f0;subst f3;injection f with K M
  subst K;subst M;refine⟨u,us,rfl,?_,S4 H C E J (by simpa using e1) (by simpa using e2) a2 b2 c2⟩;split
  .rename_i s;rw[tV] at s;have e:=AC.beq_eq _ _ s.2;subst e;rw[sk E s.1 a1 aL];exact AA.mono0 H C _ _ b1
  .exact J _ _ aL
 |[],_::_,_,_,_,e,_,_,_,_=>by simp at e
 |_::_,[],_,_,_,e,_,_,_,_=>by simp at e
 |[],[],_::_,_,_,_,e,_,_,_=>by simp at e
 |_::_,_::_,[],_,_,_,e,_,_,_=>by simp at e
theorem iG {T A:Tab}{ak a9:Nat}{q ab:Nat->Option Nat}{ag aX:Mem}{Z:World}{up:AC->AC}(b:∀h v,AA A ak q ag Z h v->AA T a9 ab aX Z (up h) v):∀{l:List AC} {W:List Value},AB A ak q ag Z l W->AB T a9 ab aX Z (l.map up) W
 |[],_,h=>h
 |c::l,W,⟨u,us,e,C,O⟩=>⟨u,us,e,b _ _ C,iG b O⟩
theorem r9 (a b:Mem)(id:Nat):Mem.at (a++b) id=if id < a.length then a.at id else b.at (id - a.length):=by
 unfold Mem.at;grind
theorem ss (m:Mem)(a7 i:Nat)(f:Blk->Blk):Mem.at ((m.drop a7).map f) i=if a7+i < m.length then f (m.at (a7+i)) else .pad:=by
 unfold Mem.at;grind
theorem jY {P:Program}{f:FuncId}{t:AZ}(ht:Ae P f t):∀(T:Tab) (aj:Ys) (args:List AC) (ac:PC) (aq:Mem) (g:G) (aV:AC) (aX:Mem) (al:G),ZU t aj f args ac aq g=some (aV,aX,al)->
  AX g al/\(Agr T al->Aj T al->pcv T ac->BK T g ac->∀ V w W,AB T g.n V aq w args W->AG T g.n V aq w->
   (∃aF,P.funcs[f]? =some aF/\aF.body.isSome=true/\(aF.name== "runtime.NumGoroutine")=false)/\Calls P f (W:List Value).toArray w (GY T g V aq w aV aX al)):=by
 intro T aj args ac aq g aV aX al b0;obtain⟨hx,ht⟩:=ht;unfold ZU at b0;simp only at b0;generalize hS:W7 t.args args=an at b0;split at b0
 .rename_i hc;simp only[tV] at hc;obtain⟨⟨⟨⟨d3,f7⟩,f8⟩,ga⟩,gd⟩:=hc;have d3:t.row=none:=Option.isNone_iff_eq_none.1 d3;have ch:t.m=JL (DY t.sh).length t.blks:=by unfold AZ.m;rw[d3]
  split at b0
  .rename_i ci ps hb;split at b0
   .rename_i gk;have es:=Kk gk;simp only[ug,Prod.mk.injEq] at b0;obtain⟨e1,e2,e3⟩:=b0;generalize d4:ci.map (·.2)=rs at e1 e2 e3;obtain⟨p1,q1,p2,q2,f3,ca,d0,e7⟩:=MH hb;generalize dm:g.needAll ac (ps++t.pre.map fun x=>(⟨x.1,x.2,rs⟩:Pr))=g1 at e3;have am:g1.n=g.n:=by rw[<-dm];exact (DB _ _ _).1
    have fs:AX g g1:=by rw[<-dm];exact AX.need _ _ _
    have em:AX g1 al:=by rw[<-e3];exact AX.push _ _
    refine⟨fs.trans em,fun hA ha hf hR V w W hq hm=>?_⟩;have gr:g.n+t.outs.length=al.n:=by rw[<-e3,Bb,am];simp
    have g8:New T g1.n (t.outs.map fun x=>(⟨x.1,x.2,rs⟩:Ex)):=by rw[<-e3] at hA;exact hA.new
    have e5:∀p∈ps++t.pre.map fun x=>(⟨x.1,x.2,rs⟩:Pr),p.holds T:=by
     have:=ha.of em;rw[<-dm] at this;exact Aj.need this hf
    have hg:ci.length=t.n:=by have:=vD List.length es;simpa using this
    have hj:rs.length=t.n:=by rw[<-d4];simpa using hg
    have e4:∀p∈ci,p.1 < t.n/\rs[p.1]? =some p.2:=fun p hp=>by
     obtain⟨i,Y⟩:=uH.1 hp;have C:(ci.map (·.1))[i]? =some p.1:=by simp[Y]
     rw[es] at C;obtain⟨O,h3⟩:=tc.1 C;simp at O h3;subst h3;exact⟨O,by rw[<-d4];simp[Y]⟩
    let us:=rs.map (Rf.eval T);have e8:us.length=t.n:=by simp[us,hj]
    let A:Tab:=⟨fun x=>(t.us us).getD x default,fun b off=>w.heap.size<=b\/AY T V aq w b off,hx,0⟩;have dj:∀j u,(t.us us)[j]? =some u->A j=u:=fun j u s=>by
     show (t.us us).getD j default=u;simp[List.getD,s]
    have eo:∀x r,rs[x]? =some r->A x=r.eval T:=fun x r H=>dj x _ (by
     unfold AZ.us;have hU:=(tc.1 H).1;rw[tv (by omega)];simp[us,H])
    have f1:∀i,i < t.outs.length->A (t.n+i)=T (g.n+i):=fun i Y=>by
     have C:=dj (t.n+i) (t.outs[i].2 us) (by
      unfold AZ.us;rw[tw (by omega),e8];simp[Y])
     have O:=g8 i ⟨t.outs[i].1,t.outs[i].2,rs⟩ (by simp[Y]);rw[am] at O;rw[C,O];rfl
    have c1:=Kk f7;have e0:=Px f8;have g7:(an.map (·.1)).Nodup:=by rw[c1];exact List.nodup_range
    have dn:∀p∈an,p.2 < aq.length:=fun p hp=>BC (uK.1 ga p hp);have et:∀j id,(j,id)∈an->an[j]? =some (j,id)/\j < t.m.length:=fun j id s=>by
     obtain⟨i,Y⟩:=uH.1 s;have C:(an.map (·.1))[i]? =some j:=by simp[Y]
     rw[c1] at C;obtain⟨O,h3⟩:=tc.1 C;simp at O h3;subst h3;exact⟨Y,O⟩
    have dk:∀j,j < t.m.length->∃id,(j,id)∈an:=fun j s=>by
     have:j∈an.map (·.1):=by rw[c1];simpa using s
     obtain⟨p,hp,e⟩:=vG.1 this;exact⟨p.2,by rw[<-e];exact hp⟩
    obtain⟨_,f4⟩:=XX ca;have c0:∀j id,(j,id)∈an->∃l af e p q,t.m.at j= .cells l e/\aq.at id= .cells af e/\Hx an l af=some (p,q)/\(∀x∈p,x∈ci)/\∀x∈q,x∈ps:=fun j id s=>by
     obtain⟨C,O⟩:=et j id s;obtain⟨l,e,hl⟩:=Zl t.blks (DY t.sh).length j (by have:=QN t.blks (DY t.sh).length;rw[ch] at O;omega);have ey:t.m.at j= .cells l e:=by rw[ch];exact hl
     have gp:t.m[j]? =some (.cells l e):=by
      rw[<-ey];simp[Mem.at,tZ O]
     obtain⟨p,q,h3,h4,h5⟩:=f4 j j id _ C gp;cases H:aq.at id with
     |cells af e'=>
      rw[H] at h3;simp only[Qt] at h3;split at h3
      .rename_i he;rw[<-tW he];exact⟨l,af,e,p,q,ey,rfl,h3,fun x H=>by rw[d0];exact tp _ (h4 x H),fun x H=>by rw[e7];exact tp _ (h5 x H)⟩
      .cases h3
     |_=>rw[H] at h3;simp[Qt] at h3
    let aW:Nat->Option Nat:=fun j=>(Gx an j).bind V;have b7:∀j id,(j,id)∈an-> aW j= V id:=fun j id s=>by
     show (Gx an j).bind V = V id;rw[nO g7 s];rfl
    have ch:∀j,(t.m.at j).tracked=true->∃id,(j,id)∈an:=fun j s=>by
     refine dk j ?_;rcases tu j t.m.length with h|h
     .exact h
     .rw[Mem.at_ge h] at s;cases s
    have M:XZ T A V aW aq t.m w an:=by
     refine⟨fun b off aa=>⟨aa.1,.inr aa,fun j=>?_⟩,fun j id s=>?_⟩
     .by_cases s:j < t.m.length
      .obtain⟨id,bs⟩:=dk j s;obtain⟨l,af,e,_,_,z1,N,_⟩:=c0 j id bs;rw[z1];have:=aa.2.2 id;rw[N] at this;show aW j≠some b;rw[b7 j id bs];exact this
      .rw[Mem.at_ge (by omega)];trivial
     .have cf:=P4 s;obtain⟨l,af,e,_,_,z1,_⟩:=c0 j id cf;exact⟨b7 j id cf,by rw[z1];rfl⟩
    have d8:∀p∈ci,p.1 < t.n/\A p.1=p.2.eval T:=fun p hp=>⟨(e4 p hp).1,eo _ _ (e4 p hp).2⟩;have d1:∀p∈ps,p.holds T:=fun p hp=>e5 p (tz _ hp);obtain⟨f2,g5⟩:=Ic (n:=t.n) M t.args args f3 (fun p hp=>d8 p (by rw[d0];exact tz _ hp)) (fun p hp=>d1 p (by rw[e7];exact tz _ hp)) hq;have bm:∀j id,(j,id)∈an->∃l af e b bj,t.m.at j= .cells l e/\aq.at id= .cells af e/\ V id=some b/\w.heap[b]? =some (.cells (bj:List Value).toArray e (0,0))/\AB T g.n V aq w af bj/\AB A t.n aW t.m w l bj:=fun j id s=>by
     obtain⟨l,af,e,p,q,z1,N,z3,z4,z5⟩:=c0 j id s;have:=hm.blk id;rw[N] at this;obtain⟨b,bj,y1,y2,y3⟩:=this;exact⟨l,af,e,b,bj,z1,N,y1,y2,y3,(Ic (n:=t.n) M l af z3 (fun x H=>d8 x (z4 x H)) (fun x H=>d1 x (z5 x H)) y3).1⟩
    have hn:∀p∈ci,SP g.n p.2:=fun p hp=>by
     rw[d0] at hp;rcases uY.1 hp with h|h
     .exact g5 p h
     .obtain⟨i,j,id,b,pp,qq,z1,N,z3,z4⟩:=WH ca p h;have s:(j,id)∈an:=uH.2 ⟨i,z1⟩;obtain⟨aJ,w2⟩:=et j id s;obtain⟨l,af,e,pb,qb,y1,y2,y3,y4,y5⟩:=c0 j id s;have gs:i=j:=by
       have C:(an.map (·.1))[i]? =some j:=by simp[z1]
       rw[c1] at C;obtain⟨_,h3⟩:=tc.1 C;simpa using h3
      subst gs;have f6:b= .cells l e:=by
       have:t.m.at i=b:=by simp[Mem.at,N]
       rw[<-this,y1]
      rw[f6,y2] at z3;simp only[Qt,(Dl e e).2 rfl,if_true] at z3;rw[y3] at z3;cases z3;have:=hm.blk id;rw[y2] at this;obtain⟨hI,bj,_,_,x3⟩:=this;exact (Ic (n:=t.n) M l af y3 (fun x H=>d8 x (y4 x H)) (fun x H=>d1 x (y5 x H)) x3).2 p z4
    have g6:AG A t.n aW t.m w:=by
     refine⟨fun j=>?_,fun j j' b C O h3 h4=>?_,fun b off hb=> .inl hb⟩
     .by_cases s:j < t.m.length
      .obtain⟨id,bs⟩:=dk j s;obtain⟨l,af,e,b,bj,z1,N,z3,z4,z5,z6⟩:=bm j id bs;rw[z1];exact⟨b,bj,by rw[b7 j id bs];exact z3,z4,z6⟩
      .rw[Mem.at_ge (by omega)];trivial
     .obtain⟨id,bs⟩:=ch j C;obtain⟨ba,ce⟩:=ch j' O;rw[b7 j id bs] at h3;rw[b7 j' ba ce] at h4;obtain⟨_,_,_,_,_,_,N,_⟩:=bm j id bs;obtain⟨_,_,_,_,_,_,hH,_⟩:=bm j' ba ce;have e:=hm.inj id ba b (by rw[N];rfl) (by rw[hH];rfl) h3 h4;subst e;obtain⟨i1,k1⟩:=uH.1 bs;obtain⟨i2,E⟩:=uH.1 ce;have a1:(an.map (·.2))[i1]? =some id:=by simp[k1]
      have a2:(an.map (·.2))[i2]? =some id:=by simp[E]
      have:=(List.getElem?_inj (tc.1 a1).1 e0).1 (a1.trans a2.symm);subst this;rw[k1] at E;cases E;rfl
    have hi:∀p∈t.pre,p.2 us:=fun p hp=>e5 ⟨p.1,p.2,rs⟩ (tp _ (vG.2 ⟨p,hp,rfl⟩));obtain⟨gm,gl⟩:=ht A us rfl e8 dj hi aW w W f2 g6;refine⟨gm,gl.mono fun hL Z hh=>?_⟩;obtain⟨v, cx,rfl,S2,M2,H2⟩:=hh;have hQ:t.m.length<=t.m'.length:=uF gd;have d2:∀j,(t.m.at j).ptrOk=true-> cx j= aW j:=fun j s=>(S2.rho j s).1;let ab:Nat->Option Nat:=fun id=>if id < aq.length then V id else cx (t.m.length+(id - aq.length))
    have bx:∀id,id < aq.length-> ab id= V id:=fun id h=>vC h;have cj:∀id,aq.length<=id-> ab id= cx (t.m.length+(id - aq.length)):=fun id h=>vA (by omega);obtain c4:∃up,up=up1 t.n g.n an t.m.length aq.length t.m' rs:=⟨_,rfl⟩;obtain⟨up,c4⟩:=c4;rw[<-c4] at e1 e2;have g4:=Iv (fun j b=>OT up (t.m.at j) b (t.m'.at j)) an aq;have e6:=fun id=>TQ (fun j b=>OT up (t.m.at j) b (t.m'.at j)) an aq e0 dn id;have dv:∀id,aX.at id=if id < aq.length then Mem.at (D7 (fun j b=>OT up (t.m.at j) b (t.m'.at j)) an aq) id else if t.m.length+(id - aq.length) < t.m'.length then Xq up (t.m'.at (t.m.length+(id - aq.length))) else .pad:=fun id=>by
     rw[<-e2,r9,g4,ss]
    have fd:∀j id,(j,id)∈an->aX.at id=OT up (t.m.at j) (aq.at id) (t.m'.at j):=fun j id s=>by
     rw[dv,vC (dn _ s)];exact (e6 id).1 j s
    have keep:∀id,id < aq.length->(∀j,(j,id) ∉ an)->aX.at id=aq.at id:=fun id h bi=>by
     rw[dv,vC h];exact (e6 id).2 bi
    have fresh:∀id,aq.length<=id->aX.at id=if t.m.length+(id - aq.length) < t.m'.length then Xq up (t.m'.at (t.m.length+(id - aq.length))) else .pad:=fun id h=>by
     rw[dv,vA (by omega)]
    have c8:∀j id,(j,id)∈an->(∃l e,aX.at id= .cells l e)\/aX.at id= .gone:=fun j id s=>by
     obtain⟨l,af,e,b,bj,z1,N,_⟩:=bm j id s;rw[fd j id s,z1,N];cases t.m'.at j with
     |cells l3 e3=>
      simp only[OT];split
      .exact .inl ⟨_,_,rfl⟩
      .exact .inr rfl
     |_=>exact .inr rfl
    have cv:∀id,aq.length<=id->(aX.at id).tracked=true->∃l e,t.m'.at (t.m.length+(id - aq.length))= .cells l e/\aX.at id= .cells (l.map up) e:=fun id h J=>by
     rw[fresh id h] at J⊢;split at J
     .rename_i H;rw[vC H];cases hy:t.m'.at (t.m.length+(id - aq.length)) with
      |cells l e=>exact⟨l,e,rfl,rfl⟩
      |_=>rw[hy] at J;cases J
     .cases J
    have ee:∀id b,aq.length<=id->(aX.at id).tracked=true-> ab id=some b->w.heap.size<=b:=fun id b h J hb=>by
     obtain⟨l,e,C,_⟩:=cv id h J;rw[cj id h] at hb;exact S2.fresh _ b (Mem.at_ge (by omega)) (by rw[C];rfl) hb
    have cl:∀id,id < aq.length->(aX.at id).tracked=true->(aq.at id).tracked=true:=fun id h J=>by
     by_cases bl:∃j,(j,id)∈an
     .obtain⟨j,s⟩:=bl;obtain⟨l,af,e,b,bj,z1,N,_⟩:=bm j id s;rw[N];rfl
     .rw[keep id h (fun j s=>bl ⟨j,s⟩)] at J;exact J
    have hC:∀k,(∀id,(aq.at id).tracked=true-> V id≠some k)->∀j,(t.m.at j).tracked=true-> aW j≠some k:=fun k bi j s=>by
     obtain⟨id,bs⟩:=ch j s;obtain⟨l,af,e,b,bj,z1,N,_⟩:=bm j id bs;rw[b7 j id bs];exact bi id (by rw[N];rfl)
    have ea:∀id b,(aq.at id).tracked=true->(∀j,(j,id) ∉ an)-> V id=some b->Z.heap[b]? =w.heap[b]? :=fun id b J bi hb=>by
     refine S2.old b (hm.lt J hb) fun j s he=>?_;obtain⟨ba,ce⟩:=ch j s;obtain⟨l,af,e,b',bj,z1,N,_⟩:=bm j ba ce;rw[b7 j ba ce] at he;have:=hm.inj id ba b J (by rw[N];rfl) hb he;subst this;exact bi j ce
    have cu:∀id,aq.at id≠ .pad->id < aq.length:=fun id h=>by
     rcases tu id aq.length with hh|hh
     .exact hh
     .exact absurd (Mem.at_ge hh) h
    have d5:AH T g.n V aq w ab aX Z:={
     os:=S2.os
     tape:=S2.tape
     output:=S2.output
     size:=S2.size
     mlen:=fun id h=>by
      by_cases bl:∃j,(j,id)∈an
      .obtain⟨j,s⟩:=bl;rcases c8 j id s with⟨l,e,C⟩|C<;>rw[C]<;>exact fun h=>by cases h
      .rw[keep id (cu id h) (fun j s=>bl ⟨j,s⟩)];exact h
     rho:=fun id h=>by
      have K:=cu id (BI h);refine⟨bx id K,?_⟩;by_cases bl:∃j,(j,id)∈an
      .obtain⟨j,s⟩:=bl;rcases c8 j id s with⟨l,e,C⟩|C<;>rw[C]<;>rfl
      .rw[keep id K (fun j s=>bl ⟨j,s⟩)];exact h
     untr:=fun id h J=>cl id (cu id h) J
     fresh:=fun id b h J hb=>by
      rcases tu id aq.length with K|K
      .have:=cl id K J;rw[h] at this;cases this
      .exact ee id b K J hb
     old:=fun k hk bi=>S2.old k hk (hC k bi)
     tok:=fun id x ks e H=>by
      have K:=cu id (by rw[H];exact fun h=>by cases h);have bi:∀j,(j,id) ∉ an:=fun j s=>by
       obtain⟨l,af,e,b,bj,z1,N,_⟩:=bm j id s;rw[H] at N;cases N
      exact .inl ⟨by rw[keep id K bi];exact H,bx id K,fun b hb=>ea id b (by rw[H];rfl) bi hb⟩
     row:=fun id x y ks e H=>by
      have K:=cu id (by rw[H];exact fun h=>by cases h);have bi:∀j,(j,id) ∉ an:=fun j s=>by
       obtain⟨l,af,e,b,bj,z1,N,_⟩:=bm j id s;rw[H] at N;cases N
      exact .inr ⟨x,y,ks,by rw[keep id K bi];exact H,rfl,.inl ⟨rfl,bx id K,fun b W hb hv=>⟨W,by rw[ea id b (by rw[H];rfl) bi hb];exact hv,rfl⟩⟩⟩ }
    have c2:g.n<=al.n:=by omega
    have B:Y6 T A t.n g.n al.n an t.m.length aq.length cx ab t.m' aX Z rs:=by
     refine⟨fun x r H=>⟨eo x r H,?_⟩,fun x H k hT hO=>?_,fun b off aa=>?_,fun j l e id s hr=>?_⟩
     .rw[<-d4,uP,uC] at H;obtain⟨p,hp,rfl⟩:=H;have:=hn p (uH.2 ⟨x,hp⟩)
      revert this
      cases p.2 with
      |c u=>exact fun _=>trivial
      |e y=>exact fun h=>td h c2
      |n y=>exact fun h=>td h c2
     .have hP:k=t.outs.length:=by omega
      have:=f1 (x - t.n) (by omega);rw[show t.n+(x - t.n)=x by omega] at this;exact⟨by omega,this.symm⟩
     .obtain⟨aD,s2,s3⟩:=aa;have e9:w.heap.size<=b\/AY T V aq w b off:=s2;refine⟨aD,?_,fun id=>?_⟩
      .rcases e9 with h|h
       .exact hm.fr b off h
       .exact h.2.1
      .rcases tu id aq.length with K|K
       .have base:match aq.at id with| .pad| .gone=>True| .cells _ _| .lp _ _| .mrow _ _ _ _| .mapb _ _ _ _ _=> V id≠some b| .tok x ks _=> V id=some b->off < CA T x ks:=by
         rcases e9 with h|h
         .have no:(aq.at id).tracked=true-> V id≠some b:=fun J he=>by have:=hm.lt J he;omega
          cases H:aq.at id with
          |pad=>trivial
          |gone=>trivial
          |cells=>exact no (by rw[H];rfl)
          |lp=>exact no (by rw[H];rfl)
          |mrow=>exact no (by rw[H];rfl)
          |mapb=>exact no (by rw[H];rfl)
          |tok=>exact fun he=>absurd he (no (by rw[H];rfl))
         .exact h.2.2 id
        by_cases bl:∃j,(j,id)∈an
        .obtain⟨j,s⟩:=bl;obtain⟨l,af,e,b',bj,z1,N,_⟩:=bm j id s;rw[N] at base;rcases c8 j id s with⟨l3,e3,C⟩|C
         .rw[C];show ab id≠some b;rw[bx id K];exact base
         .rw[C];trivial
        .rw[keep id K (fun j s=>bl ⟨j,s⟩),bx id K];exact base
       .by_cases J:(aX.at id).tracked=true
        .obtain⟨l,e,C,O⟩:=cv id K J;have:=s3 (t.m.length+(id - aq.length));rw[C] at this;rw[O];show ab id≠some b;rw[cj id K];exact this
        .cases H:aX.at id with
         |pad=>trivial
         |gone=>trivial
         |cells=>rw[H] at J;exact absurd rfl J
         |lp=>rw[H] at J;exact absurd rfl J
         |tok=>rw[H] at J;exact absurd rfl J
         |mrow=>rw[H] at J;exact absurd rfl J
         |mapb=>rw[H] at J;exact absurd rfl J
     .unfold XT at hr;split at hr
      .have cf:=P4 hr;obtain⟨l0,af,hK,b',bj,z1,N,_⟩:=bm j id cf;have K:=dn _ cf;refine⟨by rw[bx id K,d2 j (by rw[z1];rfl),b7 j id cf],?_⟩;rcases c8 j id cf with⟨l3,e3,C⟩|C<;>rw[C]<;>rfl
      .rename_i gn;cases hr;have hN:t.m.length<=j:=by
        rcases tu j t.m.length with h|h
        .exact absurd (by rw[Nat.blt_eq];exact h) gn
        .exact h
       have ev:t.m.length+(aq.length+(j - t.m.length) - aq.length)=j:=by omega
       refine⟨by rw[cj _ (by omega),ev],?_⟩;rw[fresh _ (by omega),ev];have g0:j < t.m'.length:=by
        rcases tu j t.m'.length with h|h
        .exact h
        .rw[Mem.at_ge h] at s;cases s
       rw[vC g0,s];rfl
    have d7:∀h v,AA A (t.n+t.outs.length) cx t.m' Z h v->AA T al.n ab aX Z (up h) v:=fun h v hh=>by
     rw[c4];exact lN B gr h v hh
    refine⟨v, ab,rfl,d5,⟨fun id=>?_,fun id ba b t1 t2 C O=>?_,fun b off hb=>hm.fr b off (t8 S2.size hb)⟩,by rw[<-e1];exact d7 _ _ H2⟩
    .rcases tu id aq.length with K|K
     .by_cases bl:∃j,(j,id)∈an
      .obtain⟨j,s⟩:=bl;obtain⟨l,af,e,b,bj,z1,N,z3,z4,z5,z6⟩:=bm j id s;rw[fd j id s,z1,N];have ca:=M2.blk j;cases H:t.m'.at j with
       |cells l3 e3=>
        simp only[OT];split
        .rename_i er;simp only[tV] at er;obtain⟨⟨aL,fn⟩,c3⟩:=er;rw[H] at ca;obtain⟨dd,ei,y1,y2,y3⟩:=ca;have f5:dd=b:=by
          rw[d2 j (by rw[z1];rfl),b7 j id s,z3] at y1;injection y1 with y1;exact y1.symm
         rw[<-tW c3] at y2;rw[f5] at y2;exact⟨b,ei,by rw[bx id K];exact z3,y2,S4 d5 c2 d2 d7 (tW aL) (tW fn) z6 z5 y3⟩
        .trivial
       |_=>trivial
      .have bi:∀j,(j,id) ∉ an:=fun j s=>bl ⟨j,s⟩;by_cases J:(aq.at id).tracked=true
       .exact BJ.step d5 hm c2 (keep id K bi) (bx id K) (fun b hb=>ea id b J bi hb)
       .rw[keep id K bi];cases H:aq.at id with
        |pad=>trivial
        |gone=>trivial
        |cells=>rw[H] at J;exact absurd rfl J
        |lp=>rw[H] at J;exact absurd rfl J
        |tok=>rw[H] at J;exact absurd rfl J
        |mrow=>rw[H] at J;exact absurd rfl J
        |mapb=>rw[H] at J;exact absurd rfl J
     .by_cases J:(aX.at id).tracked=true
      .obtain⟨l,e,C,O⟩:=cv id K J;have ca:=M2.blk (t.m.length+(id - aq.length));rw[C] at ca;obtain⟨dd,ei,y1,y2,y3⟩:=ca;rw[O];exact⟨dd,ei,by rw[cj id K];exact y1,y2,iG d7 y3⟩
      .cases H:aX.at id with
       |pad=>trivial
       |gone=>trivial
       |cells=>rw[H] at J;exact absurd rfl J
       |lp=>rw[H] at J;exact absurd rfl J
       |tok=>rw[H] at J;exact absurd rfl J
       |mrow=>rw[H] at J;exact absurd rfl J
       |mapb=>rw[H] at J;exact absurd rfl J
    .rcases tu id aq.length with K|K
     .rcases tu ba aq.length with b2|b2
      .rw[bx id K] at C;rw[bx ba b2] at O;exact hm.inj id ba b (cl id K t1) (cl ba b2 t2) C O
      .have:=ee ba b b2 t2 O;rw[bx id K] at C;have:=hm.lt (cl id K t1) C;omega
     .rcases tu ba aq.length with b2|b2
      .have:=ee id b K t1 C;rw[bx ba b2] at O;have:=hm.lt (cl ba b2 t2) O;omega
      .obtain⟨l,e,k1,_⟩:=cv id K t1;obtain⟨af,e',E,_⟩:=cv ba b2 t2;rw[cj id K] at C;rw[cj ba b2] at O;have:=M2.inj _ _ b (by rw[k1];rfl) (by rw[E];rfl) C O;omega
   .cases b0
  .cases b0
 .cases b0
end
section
open Go Go.RowKit
mutual
theorem YN {ok:Nat->Nat->Prop}{w:World}:∀(k:Kd) {u:U} {v:Value},AT ok w k u v->KdU AD k u
 | .int _ _ _,_,_,⟨n,C,_,h3⟩=>⟨n,C,h3⟩
 | .bool,_,_,⟨b,C,_⟩=>⟨b,C⟩
 | .str,_,_,⟨s,C,_,O⟩=>⟨s,C,O⟩
 | .val,_,_,_=>trivial
 | .any,_,_,_=>trivial
 | .list ks,_,_,⟨l,h0,C,O,a,I,_,_,h5⟩=>by
  refine⟨l,h0,C,fun i us Y=>?_⟩;have q:0 < l.length:=by have:=(tc.1 Y).1;omega
  obtain⟨b,o,_,e⟩:=h5 q;exact cN ks (e i us Y)
theorem cN {ok:Nat->Nat->Prop}{w:World}:∀(ks:List Kd) {b off:Nat} {us:List U},Af ok w ks b off us->AK AD ks us
 |[],_,_,_,h=>h
 |k::ks,_,_,_,⟨u,us',e,⟨_,v,_,h3⟩,h4⟩=>⟨u,us',e,YN k h3,cN ks h4⟩
end
theorem cP {ok:Nat->Nat->Prop}{w:World}:∀{ks:List Kd} {us:List U} {W:List Value},AP ok w ks us W->AK AD ks us
 |[],_,_,h=>h.1
 |k::_,_,_,⟨u,us',v,vs',e,_,C,O⟩=>⟨u,us',e,YN k C,cP O⟩
section
variable {T:Tab}{n:Nat}{V :Nat->Option Nat}{m:Mem}{w:World}
theorem j7 {k:Kd}{x:Nat}{v:Value}(h:AA T n V m w (QJ k x) v):KdU AD k (T x):=by
 cases k with
 |int k ap Y=>obtain⟨_,i,C,_,e⟩:=h;exact⟨i,C,e⟩
 |bool=>obtain⟨_,b,C,_⟩:=h;exact⟨b,C⟩
 |str=>obtain⟨_,s,C,_,O⟩:=h;exact⟨s,C,O⟩
 |val=>trivial
 |any=>trivial
 |list ks=>exact YN (.list ks) h.2
def NV (ks:List Kd)(us:List U):Prop:=∀(j:Nat) (k:Kd) (u:U),ks[j]? =some k->us[j]? =some u->KdU AD k u
theorem Uu:∀{ks:List Kd} {x:Nat} {av:List Value},AB T n V m w (Qb x ks) av->∀(j:Nat) (k:Kd),ks[j]? =some k->KdU AD k (T (x+j))
 |[],_,_,_,j,k,hj=>by simp at hj
 |k0::ks,x,av,⟨u,us,_,C,O⟩,j,k,hj=>by
  cases j with
  |zero=>simp at hj;subst hj;exact j7 C
  |succ j=>
   have:=Uu O j k (by simpa using hj);rw[show x+(j+1)=x+1+j by omega];exact this
theorem Iw:∀{b:List W9} {x:Nat} {W:List Value},AB T n V m w (FK x b) W->∀(j:Nat) (k:Kd),(DY b)[j]? =some k->KdU AD k (T (x+j))
 |[],_,_,_,j,k,hj=>by simp[DY] at hj
 | .one k0::r,x,W,⟨u,us,_,C,O⟩,j,k,hj=>by
  simp only[DY] at hj;cases j with
  |zero=>simp at hj;subst hj;exact j7 C
  |succ j=>
   have:=Iw O j k (by simpa using hj);rw[show x+(j+1)=x+1+j by omega];exact this
 | .agg ks::r,x,W,⟨u,us,_,C,O⟩,j,k,hj=>by
  simp only[DY] at hj;rw[uw] at hj;split at hj
  .obtain⟨av,_,e⟩:=C;exact Uu e j k hj
  .rename_i q;have:=Iw O (j - ks.length) k hj;rw[show x+ks.length+(j - ks.length)=x+j by omega] at this;exact this
 | .ptr M off::r,x,W,⟨u,us,_,C,O⟩,j,k,hj=>Iw O j k hj
 | .cst _::r,x,W,⟨u,us,_,C,O⟩,j,k,hj=>Iw O j k hj
theorem cR:∀{H:List (List Kd × TypeId)} {x y:Nat},(∀i,i < H.length->BJ T n V m w (y+i) ((JL x H).at i))->∀(j:Nat) (k:Kd),(QO H)[j]? =some k->KdU AD k (T (x+j))
 |[],_,_,_,j,k,hj=>by simp[QO] at hj
 |(ks,e)::r,x,y,hb,j,k,hj=>by
  have q:QO ((ks,e)::r)=ks++QO r:=rfl;rw[q,uw] at hj;split at hj
  .obtain⟨b,W,_,_,s⟩:=hb 0 (by simp);exact Uu s j k hj
  .rename_i C;have:=cR (H:=r) (x:=x+ks.length) (y:=y+1) (fun i Y=>by
    have:=hb (i+1) (by simpa using Y);rw[show y+(i+1)=y+1+i by omega] at this;simpa [JL,Mem.at] using this) (j - ks.length) k hj
   rw[show x+ks.length+(j - ks.length)=x+j by omega] at this;exact this
end
def UL (nh aR:Nat)(rs:List Rf)(aQ m:Mem)(h c:AC):Option (List Pr):=
 match h,c with
 | .agg l,.agg af=>LX nh aR rs aQ m l af
 |h,c=>LW nh aR rs aQ m h c
def Kv (nh aR:Nat)(rs:List Rf)(aQ m:Mem):List AC->List AC->Option (List Pr)
 |[],[]=>some []
 |h::l,c::af=>Nv (UL nh aR rs aQ m h c) (Kv nh aR rs aQ m l af)
 |_,_=>none
def ND (nh aR:Nat)(rs:List Rf)(aQ m:Mem)(h c:AC):Option (List Pr):=
 match h,c with
 | .tup l,.tup af=>Kv nh aR rs aQ m l af
 |h,c=>UL nh aR rs aQ m h c
section
variable {aC A:Tab}{V :Nat->Option Nat}{m aQ:Mem}{w:World}{nh am ay:Nat}{rs:List Rf}
variable{h c:AC}{ps:List Pr}{v:Value}
theorem V1 (M:Il aC A V m aQ w nh aQ.length)(q:nh<=ay)(H:Ev aC A nh ay rs)(S:EA aC A nh aQ m)(b:UL nh aQ.length rs aQ m h c=some ps)(s:∀p∈ps,p.holds aC)
  (y:AA aC am V m w c v):AA A ay V aQ w h v:=by
 unfold UL at b;split at b
 .obtain⟨W,e,C⟩:=y;exact⟨W,e,PW M q H S b s W C⟩
 .exact MJ b M q H S s y
theorem TJ (M:Il aC A V m aQ w nh aQ.length)(e:nh<=ay)(H:Ev aC A nh ay rs)(S:EA aC A nh aQ m):∀{l af:List AC} {ps:List Pr},Kv nh aQ.length rs aQ m l af=some ps->(∀p∈ps,p.holds aC)->
  ∀W,AB aC am V m w af W->AB A ay V aQ w l W
 |[],[],ps,_,_,W,h=>h
 |[],_::_,ps,h,_,_,_=>by simp[Kv] at h
 |_::_,[],ps,h,_,_,_=>by simp[Kv] at h
 |a::l,c::af,ps,h,hps,W,⟨u,us,C,O,h3⟩=>by
  simp only[Kv] at h;obtain⟨a8,be,q,s,rfl⟩:=Fm h;exact⟨u,us,C,V1 M e H S q (fun p b=>hps p (tz _ b)) O,TJ M e H S s (fun p b=>hps p (tp _ b)) us h3⟩
theorem lK (M:Il aC A V m aQ w nh aQ.length)(q:nh<=ay)(H:Ev aC A nh ay rs)(S:EA aC A nh aQ m)(b:ND nh aQ.length rs aQ m h c=some ps)(s:∀p∈ps,p.holds aC)
  (y:AA aC am V m w c v):AA A ay V aQ w h v:=by
 unfold ND at b;split at b
 .obtain⟨W,e,C⟩:=y;exact⟨W,e,TJ M q H S b s W C⟩
 .exact V1 M q H S b s y
end
def Xt (t:AZ)(rs:List Rf)(aP:AC)(aM:Mem)(b:G):Option (List Pr):=
 if MQ t.n b&&Nat.beq rs.length t.outs.length&&Nat.ble t.m.length t.m'.length then
  Nv (Gq [] t.n t.m'.length rs t.m' aM t.m' aM) (ND t.n t.m'.length rs t.m' aM t.c aP)
 else none
variable{t:AZ}{T:Tab}{V:Nat->Option Nat}{w:World}{aP:AC}{aM:Mem}
theorem cU {us:List U}{W:List Value}(bj:∀j u,us[j]? =some u->T j=u)(s:AB T t.n V t.m w t.args W)(E:AG T t.n V t.m w):NV t.ks us:=fun j k u e hu=>by
 have ba:=bj j u hu;rw[<-ba];cases q:t.row with
 |none=>
  have K:t.args=FK 0 t.sh:=by unfold AZ.args;rw[q]
  have M:t.m=JL (DY t.sh).length t.blks:=by unfold AZ.m;rw[q]
  rw[K] at s;rw[M] at E;unfold AZ.ks at e;rw[q,uw] at e;split at e
  .have:=Iw s j k e;rw[tj] at this;exact this
  .rename_i bs;have:=cR (H:=t.blks) (x:=(DY t.sh).length) (y:=0) (fun i Y=>by rw[tj];exact E.blk i) (j - (DY t.sh).length) k e;rw[show (DY t.sh).length+(j - (DY t.sh).length)=j by omega] at this;exact this
 |some ke=>
  obtain⟨N,J⟩:=ke;have K:t.args= .mr 0 1::FK 2 t.sh:=by unfold AZ.args;rw[q]
  have M:t.m=[.mrow 0 1 N J]:=by unfold AZ.m;rw[q]
  rw[K] at s;rw[M] at E;have bi:BJ T t.n V [.mrow 0 1 N J] w 0 (.mrow 0 1 N J):=E.blk 0;obtain⟨_,l,C,O,h3,h4⟩:=bi;obtain⟨bt,bx,_,_,s⟩:=s;unfold AZ.ks at e;rw[q] at e
  match j,e with
  |0,e=>
   cases e;rw[C];refine⟨l,rfl,h3.1,fun i us Y=>?_⟩;rcases h4 with⟨_,rfl⟩|⟨b,b1,b0,_,_,h5,_⟩
   .simp at Y
   .obtain⟨aH,_,h6⟩:=h5;obtain⟨av,_,h7⟩:=h6.getC Y;exact cP h7
  |1,e=>
   cases e;rw[O];exact⟨l.length,rfl,by omega,by have:=h3.1;omega⟩
  |j+2,e=>
   have:=Iw s j k e;rw[show 2+j=j+2 by omega] at this;exact this
theorem Zc {rs:List Rf}{a8 be:List Pr}{b:Tab}{us:List U}(K:Gq [] t.n t.m'.length rs t.m' aM t.m' aM=some a8)(a2:ND t.n t.m'.length rs t.m' aM t.c aP=some be)(b3:rs.length=t.outs.length)(ba:∀id,id < t.m.length->t.m'.at id≠ .pad)
  (al:∀x,x < t.n->b x=T x) (ax:b.fr=T.fr) (aE:b.lp=T.lp) (bm:us.length=t.n) (Y:∀j u,(t.us us)[j]? =some u->T j=u) (O:∀p∈a8++be,p.holds b) (bl:rs.map (Rf.eval b)=t.outs.map fun o=>o.2 us)
  {ab:Nat->Option Nat} {Z:World} {v:Value} {E:Nat} (a1:AG b t.n V t.m w) (q1:AH b t.n V t.m w ab aM Z) (q2:AG b E ab aM Z) (q3:AA b E ab aM Z aP v):
  AH T t.n V t.m w ab t.m' Z/\AG T (t.n+t.outs.length) ab t.m' Z/\AA T (t.n+t.outs.length) ab t.m' Z t.c v:=by
 have H:Ev b T t.n (t.n+t.outs.length) rs:=fun j r J=>by
  have b2:=(tc.1 J).1;refine⟨by omega,?_⟩;have C:(rs.map (Rf.eval b))[j]? =some (r.eval b):=by simp[J]
  rw[bl] at C;exact Y (t.n+j) _ (by
   unfold AZ.us;rw[tw (by omega),bm,show t.n+j - t.n=j by omega];exact C)
 obtain⟨q,bj⟩:=PL (aC:=b) (A:=T) K H;have s:∀x,x < t.n->T x=b x:=fun x hx=>(al x hx).symm;have bi:∀id,t.m.at id≠ .pad->t.m'.at id≠ .pad:=fun id h=>by
  rcases tu id t.m.length with y|y
  .exact ba id y
  .exact absurd (Mem.at_ge y) h
 have N:t.n<=t.n+t.outs.length:=Nat.le_add_right _ _;have M:Il b T ab aM t.m' Z t.n t.m'.length:=q.move bj s ax.symm;refine⟨AH.matched q s (tY _) a1 bi q1,?_,lK M N H q a2 (fun p e=>O p (tp _ e)) q3⟩;have a6:ES [] t.n rs ⟨⟨0,[],.nil⟩,t.m'⟩ ⟨⟨0,[],.nil⟩,aM⟩=some (a8++[]):=by
  simp only[ES,Kx,List.isEmpty_nil,Bool.true_and,(Dl 0 0).2 rfl,if_true];rw[K];rfl
 have W:Rel (b.atBase 0) E ab ⟨⟨0,[],.nil⟩,aM⟩ { tmps:= #[],defers:=[] } Z:=⟨DE.nil _ _ _ (uQ _),rfl,(fun i c hc=>by simp[AV.get,BF,Tr.get] at hc),q2.tab (JE _ 0 _)⟩;obtain⟨z1,_,_⟩:=Gs (aC:=b.atBase 0) (A:=T.atBase 0) a6 (fun p e=>by cases e) ax.symm aE.symm rfl s N H (fun p e=>Vp.2 (O p (by rw[uj] at e;exact tz _ e))) W;exact z1.mem.tab (JE T 0 _).symm
theorem qd {P:Program}{f:FuncId}{O:Au}(bl:∀T,CL P T O)
    {q:G} {rs:List Rf} {ps:List Pr} (cb:O Ys.none f t.args none t.m { n:=t.n,eqs:=[],obs:=[] }=some (aP,aM,q)) (H:Xt t rs aP aM q=some ps)
  (b2:∀id,id < t.m.length->t.m'.at id≠ .pad)
  (b5:∀(T:Tab) (us:List U),us.length=t.n->NV t.ks us->(∀p∈t.pre,p.2 us)->(∀j u,us[j]? =some u->T j=u)->(∀p∈q.eqs,T p.1=p.2.eval T)->Aj T q/\(∀p∈ps,p.holds T)/\rs.map (Rf.eval T)=t.outs.map fun o=>o.2 us):Ae P f t:=by
 refine⟨fun s=>(Fe q.lps s).getD SD,fun T us bx a6 hT b6 V w W ba K=>?_⟩;unfold Xt at H;split at H
 .rename_i hc;simp only[tV] at hc;obtain⟨⟨C,bi⟩,cl⟩:=hc;obtain⟨a8,be,b0,b1,rfl⟩:=Fm H;unfold MQ at C;rw[tV] at C;have b8:=tW bi;obtain⟨ax,aE,r3⟩:=FH q.eqs T;have b4:=(CJ (T:=T) C.1).2.2;have J:∀x,x < t.n->BS T q.eqs x=T x:=fun x N=>b4 x (.inl N);have a1:∀j u,us[j]? =some u->T j=u:=fun j u E=>hT j u (by unfold AZ.us;rw[tv (tc.1 E).1];exact E);have S:By T (BS T q.eqs) t.n:=⟨J,ax,aE⟩;have Y:Agr (BS T q.eqs) q:=⟨fun p M=>Er (fv:=[]) (nh:=0) (fun x N=>by cases N) (uQ _) C.1 p M,fun p M=>by
   rw[aE,bx];show (Fe q.lps p.1).getD SD=p.2;rw[Pf C.2 p M];rfl⟩
  have bt:NV t.ks us:=cU a1 ba K;obtain⟨b3,b7,ca⟩:=b5 (BS T q.eqs) us a6 bt b6 (fun j u E=>by
   have:=(tc.1 E).1;rw[J j (by omega)];exact a1 j u E) Y.eqs
  obtain⟨_,cc⟩:=bl (BS T q.eqs) Ys.none f t.args none t.m _ aP aM q (fun T' _ s y hy=>by cases hy) cb;have a2:=K.tab S;obtain⟨bm,bj⟩:=cc Y b3 trivial trivial V w W (AB.tab S (fun b off h=>S.safe K h) _ _ ba) a2;refine⟨bm,bj.mono fun e Z hh=>?_⟩;obtain⟨v, ab,rfl,q1,q2,q3⟩:=hh;exact⟨v, ab,rfl,Zc b0 b1 b8 b2 J ax aE a6 hT b7 ca a2 q1 q2 q3⟩
 .cases H
end
section
open Go Go.RowKit
def Z5 (t:AZ):Au:=fun _ _ as ac aq g=>
 match t.row,as,t.outs,t.m',t.c with
 |some (ks,e),.mr id y::as,[(tg,F)],[.mrow xo yo kso eo],.tup []=>
  match aq.at id with
  | .mrow x aS ah e'=>
   match Hx [] (FK 2 t.sh) as with
   |some (prs,ps)=>
    if (Nat.beq y aS&&Nat.beq e e'&&Nat.beq eo e&&Nat.beq xo t.n&&Nat.beq yo 1)&&(Nat.beq ah.length ks.length&&Kd.beqs (Kd.joins ah ks) ks)&&EH (0::1::prs.map (·.1)) (List.range t.n) then
     some (.tup [],aq.set id (.mrow g.n y kso e),(g.needAll ac (ps++t.pre.map fun p=>⟨p.1,p.2,.e x:: .e y::prs.map (·.2)⟩)).pushAll [⟨tg,F,.e x:: .e y::prs.map (·.2)⟩])
    else none
   |none=>none
  |_=>none
 |_,_,_,_,_=>none
variable{P:Program}{t:AZ}
theorem iC {f:FuncId}(s:Ae P f t):∀(T:Tab) (aj:Ys) (args:List AC) (ac:PC) (aq:Mem) (g:G) (aV:AC) (aX:Mem) (al:G),Z5 t aj f args ac aq g=some (aV,aX,al)->
  AX g al/\(Agr T al->Aj T al->pcv T ac->BK T g ac->∀ V w W,AB T g.n V aq w args W->AG T g.n V aq w->
   (∃aF,P.funcs[f]? =some aF/\aF.body.isSome=true/\(aF.name== "runtime.NumGoroutine")=false)/\Calls P f (W:List Value).toArray w (GY T g V aq w aV aX al)):=by
 intro T aj args ac aq g aV aX al N;obtain⟨gk,s⟩:=s;unfold Z5 at N;split at N
 .rename_i _ ks e id y as tg F xo yo a6 H d7 fs d3 ev;split at N
  .rename_i x aS ah e' bj;split at N
   .rename_i cb ps hb;split at N
    .rename_i hc;simp only[tV] at hc;obtain⟨⟨⟨⟨⟨⟨b1,b2⟩,b3⟩,b4⟩,b5⟩,⟨b6,b7⟩⟩,ej⟩:=hc;have b1:=tW b1;subst b1;have b2:=tW b2;subst b2;have b3:=tW b3;subst b3;have b4:=tW b4;subst b4;have b5:=tW b5;subst b5;have b6:=tW b6;have b7:=Kd.beqs_eq _ _ b7;have d2:=Kk ej;simp only[ug,Prod.mk.injEq] at N;obtain⟨e1,e2,e3⟩:=N;generalize ch:(Rf.e x::Rf.e y::cb.map (·.2))=rs at e2 e3;generalize c3:g.needAll ac (ps++t.pre.map fun p=>(⟨p.1,p.2,rs⟩:Pr))=g1 at e3;have am:g1.n=g.n:=by rw[<-c3];exact (DB _ _ _).1
     have el:AX g g1:=by rw[<-c3];exact AX.need _ _ _
     have dv:AX g1 al:=by rw[<-e3];exact AX.push _ _
     refine⟨el.trans dv,fun hA fr f0 gs V w W ga hm=>?_⟩;have gp:al.n=g.n+1:=by rw[<-e3,Bb,am];rfl
     have fj:New T g1.n [⟨tg,F,rs⟩]:=by rw[<-e3] at hA;exact hA.new
     have d6:∀p∈ps++t.pre.map fun p=>(⟨p.1,p.2,rs⟩:Pr),p.holds T:=by
      have:=fr.of dv;rw[<-c3] at this;exact Aj.need this f0
     have f5:t.args= .mr 0 1::FK 2 t.sh:=by unfold AZ.args;rw[d7]
     have c6:t.m=[.mrow 0 1 ks H]:=by unfold AZ.m;rw[d7]
     have f1:cb.length+2=t.n:=by have:=vD List.length d2;simpa using this
     have f3:rs.length=t.n:=by rw[<-ch];simpa using f1
     have gr:2<=t.n:=by omega
     have d5:∀p∈cb,p.1 < t.n/\rs[p.1]? =some p.2:=fun p hp=>by
      obtain⟨i,Y⟩:=uH.1 hp;have C:(0::1::cb.map (·.1))[i+2]? =some p.1:=by simp[Y]
      rw[d2] at C;obtain⟨O,h3⟩:=tc.1 C;simp at O h3;rw[<-h3];exact⟨O,by rw[<-ch];simp[Y]⟩
     let us:=rs.map (Rf.eval T);have ea:us.length=t.n:=by simp[us,f3]
     let A:Tab:=⟨fun x=>(t.us us).getD x default,fun b off=>w.heap.size<=b\/AY T V aq w b off\/ V id=some b,gk,0⟩;have c1:∀j u,(t.us us)[j]? =some u->A j=u:=fun j u E=>by
      show (t.us us).getD j default=u;simp[List.getD,E]
     have c2:∀x r,rs[x]? =some r->A x=r.eval T:=fun x r hx=>c1 x _ (by
      unfold AZ.us;have g0:=(tc.1 hx).1;rw[tv (by omega)];simp[us,hx])
     have en:A 0=T x:=c2 0 (.e x) (by rw[<-ch];rfl);have c0:A 1=T y:=c2 1 (.e y) (by rw[<-ch];rfl);have eo:A t.n=T g.n:=by
      have C:=c1 t.n (F us) (by
       unfold AZ.us;rw[tw (by omega),ea,fs];simp)
      have O:=fj.head;rw[am] at O;rw[C,O];rfl
     obtain⟨v0,ee,rfl,f6,gd⟩:=ga;have d1:=hm.blk id;rw[bj] at d1;obtain⟨⟨hx,hy⟩,l,eq,er,⟨e8,fi⟩,d8⟩:=d1;let aW:Nat->Option Nat:=fun j=>if j=0 then V id else none
     have d9:∀b off,AY T V aq w b off->AY A aW [.mrow 0 1 ks H] w b off:=fun b off aa=>⟨aa.1,.inr (.inl aa),fun j=>by
      match j with
      |0=>
       have:=aa.2.2 id;rw[bj] at this;exact this
      |j+1=>trivial⟩
     have e6:ks≠[]:=fun h=>fi (ur.1 (by rw[b6,h];rfl));have e9:AG A t.n aW [.mrow 0 1 ks H] w:=by
      refine⟨fun j=>?_,fun j j' b C O h3 h4=>?_,fun b off hb=> .inl hb⟩
      .match j with
       |0=>
        refine⟨⟨by omega,by omega⟩,l,by rw[en];exact eq,by rw[c0];exact er,⟨e8,e6⟩,?_⟩;rcases d8 with⟨C,O⟩|⟨b,cc,di,C,O,h3,h4⟩
        .exact .inl ⟨C,O⟩
        .refine .inr ⟨b,cc,di,C,O,?_,fun off=> .inr (.inr C)⟩;obtain⟨aH,q1,q2⟩:=Ab.mono (fun b off h=>⟨d9 b off h,rfl⟩) h3;refine⟨aH,q1,q2.conv fun us W hc=>?_⟩;have:=AP.join_l (ah:=ks) b6 hc;rwa [b7] at this
       |j+1=>trivial
      .have z:∀j,(Mem.at [.mrow 0 1 ks H] j).tracked=true->j=0:=fun j h=>by
        match j with
        |0=>rfl
        |j+1=>cases h
       rw[z j C,z j' O]
     have M:XZ T A V aW aq [.mrow 0 1 ks H] w []:=⟨d9,fun j id E=>by cases E⟩;have f8:∀p∈cb,p.1 < t.n/\A p.1=p.2.eval T:=fun p hp=>⟨(d5 p hp).1,c2 _ _ (d5 p hp).2⟩;obtain⟨es,_⟩:=Ic (n:=t.n) M (FK 2 t.sh) as hb f8 (fun p hp=>d6 p (tz _ hp)) gd;have f7:AA A t.n aW [.mrow 0 1 ks H] w (.mr 0 1) v0:=by
      obtain⟨_,j,a,I,q1,q2,q3,q4,q5⟩:=f6;refine⟨⟨by omega,fun h=>by cases h⟩,j,a,I,by rw[c0];exact q1,q2,q3,q4,fun x2 ci e2 J=>?_⟩;cases J;rcases q5 _ _ _ bj with q|⟨b,cc,z1,z2,z3,z4⟩
      .exact .inl q
      .exact .inr ⟨b,cc,z1,z2,z3,by rw[<-b6];exact z4⟩
     have f2:∀p∈t.pre,p.2 us:=fun p hp=>d6 ⟨p.1,p.2,rs⟩ (tp _ (vG.2 ⟨p,hp,rfl⟩));obtain⟨e0,ey⟩:=s A us rfl ea c1 f2 aW w (v0::ee) (by rw[f5,c6];exact⟨v0,ee,rfl,f7,es⟩) (by rw[c6];exact e9);refine⟨e0,ey.mono fun ex Z hh=>?_⟩;obtain⟨v, ei,rfl,S2,M2,H2⟩:=hh;rw[c6,d3] at S2;rw[d3] at M2 H2;rw[ev] at H2;obtain⟨cj,rfl,c8⟩:=H2;have c8:cj=[]:=c8;subst c8;obtain⟨e7,c9,f4⟩:a6.length=ks.length/\ ei 0= V id/\∀b W, V id=some b->w.heap[b]? =some (.cells W H (0,0))->∃cj,Z.heap[b]? =some (.cells cj H (0,0))/\cj.size=W.size:=by
      rcases S2.row 0 0 1 ks H rfl with h|⟨aA,aS,ci,C,O,h3⟩
      .cases h
      .cases C;rcases h3 with⟨_,h4,h5⟩|⟨h4,_⟩
       .exact⟨O,h4,h5⟩
       .omega
     have et:BJ A (t.n+t.outs.length) ei [.mrow t.n 1 a6 H] Z 0 (.mrow t.n 1 a6 H):=M2.blk 0;obtain⟨_,af,q1,q2,⟨q3,q4⟩,q5⟩:=et;rw[eo] at q1;rw[c0] at q2;have d4:aq.at id≠ .pad:=by rw[bj];exact fun h=>by cases h
     have K:=fun j=>Dn aq id (.mrow g.n y a6 H) j d4;have ca:(aq.at id).tracked=true:=by rw[bj];rfl
     have keep:∀j b,(aq.at j).tracked=true->j≠id-> V j=some b->Z.heap[b]? =w.heap[b]? :=fun j b s E hr=>by
      refine S2.old b (hm.lt s hr) fun j' b8 J=>?_
      match j' with
      |0=>exact E (hm.inj j id b s ca hr J)
      |j'+1=>cases b8
     have c5:AH T g.n V aq w V (aq.set id (.mrow g.n y a6 H)) Z:={
      os:=S2.os
      tape:=S2.tape
      output:=S2.output
      size:=S2.size
      mlen:=fun j h=>by rw[K j];split<;>first|exact (fun h=>by cases h)|exact h
      rho:=fun j h=>by
       have E:j≠id:=fun e=>by rw[e,bj] at h;cases h
       rw[K j,vA E];exact⟨rfl,h⟩
      untr:=fun j h s=>by
       rw[K j] at s;split at s
       .rename_i J;rw[J];exact ca
       .exact s
      fresh:=fun j c h s hr=>by
       rw[K j] at s;split at s
       .rename_i J;rw[J] at h;exact absurd h d4
       .rw[h] at s;cases s
      old:=fun k hk fn=>S2.old k hk fun j' b8 J=>by
       match j' with
       |0=>exact fn id ca J
       |j'+1=>cases b8
      tok:=fun j x2 ci e2 h=>by
       have E:j≠id:=fun e=>by rw[e,bj] at h;cases h
       exact .inl ⟨by rw[K j,vA E];exact h,rfl,fun b hb=>keep j b (by rw[h];rfl) E hb⟩
      row:=fun j x2 y2 ci e2 h=>by
       by_cases E:j=id
       .subst E;rw[bj] at h;cases h;exact .inr ⟨g.n,y,a6,by rw[K j,vC rfl],by rw[e7,b6],.inl ⟨rfl,rfl,fun b W hb hv=>f4 b W hb hv⟩⟩
       .exact .inr ⟨x2,y2,ci,by rw[K j,vA E];exact h,rfl,.inl ⟨rfl,rfl,fun b W hb hv=>⟨W,by rw[keep j b (by rw[h];rfl) E hb];exact hv,rfl⟩⟩⟩ }
     have fd:AG T al.n V (aq.set id (.mrow g.n y a6 H)) Z:=by
      refine⟨fun j=>?_,fun j j' c s b8 C O=>?_,fun b off h=>hm.fr b off (t8 S2.size h)⟩
      .by_cases E:j=id
       .subst E;rw[K j,vC rfl];refine⟨⟨by omega,by omega⟩,af,q1,q2,⟨q3,q4⟩,?_⟩;rcases q5 with⟨z1,z2⟩|⟨b,cc,di,z1,z2,z3,_⟩
        .exact .inl ⟨by rw[<-c9];exact z1,z2⟩
        .rw[c9] at z1;have e4:∀off,T.fr b off:=by
          rcases d8 with⟨C,_⟩|⟨b',_,_,C,_,_,h4⟩
          .rw[C] at z1;cases z1
          .rw[C] at z1;cases z1;exact h4
         refine .inr ⟨b,cc,di,z1,z2,Ab.mono (fun b2 off h=>⟨?_,rfl⟩) z3,e4⟩;rcases h.2.1 with C|C|C
         .refine⟨h.1,hm.fr b2 off C,fun k=>?_⟩;have no:(Mem.at (aq.set j (.mrow g.n y a6 H)) k).tracked=true-> V k≠some b2:=fun s J=>by
           have:(aq.at k).tracked=true:=by
            rw[K k] at s;split at s
            .rename_i J;rw[J];exact ca
            .exact s
           have:=hm.lt this J;omega
          cases hx:Mem.at (aq.set j (.mrow g.n y a6 H)) k<;>rw[hx] at no<;>first|trivial|exact no rfl|exact fun J=>absurd J (no rfl)
         .exact (c5.safe0 C).1
         .have:=h.2.2 0;exact absurd (by rw[c9];exact C) this
       .by_cases s:(aq.at j).tracked=true
        .exact BJ.step c5 hm (by omega) (by rw[K j,vA E]) rfl (fun b hb=>keep j b s E hb)
        .rw[K j,vA E];cases hx:aq.at j with
         |pad=>trivial
         |gone=>trivial
         |cells=>rw[hx] at s;exact absurd rfl s
         |lp=>rw[hx] at s;exact absurd rfl s
         |tok=>rw[hx] at s;exact absurd rfl s
         |mrow=>rw[hx] at s;exact absurd rfl s
         |mapb=>rw[hx] at s;exact absurd rfl s
      .have tr:∀k,(Mem.at (aq.set id (.mrow g.n y a6 H)) k).tracked=true->(aq.at k).tracked=true:=fun k hk=>by
        rw[K k] at hk;split at hk
        .rename_i J;rw[J];exact ca
        .exact hk
       exact hm.inj j j' c (tr j s) (tr j' b8) C O
     refine⟨_, V,rfl,by rw[<-e2];exact c5,by rw[<-e2];exact fd,by rw[<-e1];exact⟨[],rfl,rfl⟩⟩
    .cases N
   .cases N
  .cases N
 .cases N
def Xb (t:AZ):Au:=match t.row with|none=>ZU t|some _=>Z5 t
theorem lX {f:FuncId}(e:Ae P f t)(T:Tab)(aj:Ys)(args:List AC)(ac:PC)(aq:Mem)(g:G)(aV:AC)(aX:Mem)(al:G)(h:Xb t aj f args ac aq g=some (aV,aX,al)):
  AX g al/\(Agr T al->Aj T al->pcv T ac->BK T g ac->∀ V w W,AB T g.n V aq w args W->AG T g.n V aq w->
   (∃aF,P.funcs[f]? =some aF/\aF.body.isSome=true/\(aF.name== "runtime.NumGoroutine")=false)/\Calls P f (W:List Value).toArray w (GY T g V aq w aV aX al)):=by
 unfold Xb at h;cases b:t.row with
 |none=>rw[b] at h;exact jY e T aj args ac aq g aV aX al h
 |some _=>rw[b] at h;exact iC e T aj args ac aq g aV aX al h
def KQ:List (FuncId × AZ)->FuncId->Option Au
 |[],_=>none
 |(f,t)::r,k=>if Nat.beq f k then some (Xb t) else KQ r k
theorem Ln {P:Program}:∀{l:List (FuncId × AZ)},(∀p∈l,Ae P p.1 p.2)->∀f c,KQ l f=some c->∀T,∀aj k args ac m g aV ad al,k=f->Ce P T.lp aj->c aj k args ac m g=some (aV,ad,al)->AX g al/\(Agr T al->Aj T al->pcv T ac->BK T g ac->∀ V w W,AB T g.n V m w args W->AG T g.n V m w->
  (∃aF,P.funcs[k]? =some aF/\aF.body.isSome=true/\(aF.name== "runtime.NumGoroutine")=false)/\Calls P k (W:List Value).toArray w (GY T g V m w aV ad al))
 |[],_,f,c,h=>by simp[KQ] at h
 |(f0,t)::r,hl,f,c,h=>by
  simp only[KQ] at h;split at h
  .rename_i q;cases h;have e:=tW q;subst e;intro T aj k args ac m g aV ad al s _ b;subst s;exact lX (hl (k,t) (tl ..)) T aj args ac m g aV ad al b
  .exact Ln (fun p y=>hl p (th _ y)) f c h
section
variable {P:Program}{w:World}{B:Nat}
theorem tA {H:Type}{enc:TypeId × Value->H}{sp:Nat->Bool}{bd:Bool}{base:Nat}(hB:B<=AD)(hm:P.follows .mixedOrders=true){l:List (FuncId × AZ)}(hl:∀p∈l,Ae P p.1 p.2){Aa:FuncId->DI}{aK a0 dd:Nat}{f:FuncId}{ar:List TypeId}{as:List AC}{ks:List Kd}{c:AC}{ad:Mem}{al:G}
  (bl:Jj P dd ar 0=some (as,ks)) (b3:FL P (KQ l) Aa aK a0 Ys.none f as none [] { n:=ks.length,eqs:=[],obs:=[] }=some (c,ad,al)) (E:MQ ks.length al=true)
  (b2:∀(T:Tab) (us:List U),AK B ks us->us.length=ks.length->(∀j u,us[j]? =some u->T j=u)->(∀p∈al.eqs,T p.1=p.2.eval T)->Aj T al/\tB T c)
  {W:List Value} {ds:List (DataW H)} {ps:List MemPlace} (ht:DataW.TrodAll enc P w 0 sp bd ar W ds ps) (hv:∀(j:Nat) t v,ar[j]? =some t->W[j]? =some v->Value.okWide P w .any base t v) (aa:∀d∈ds,DZ B d):
  Calls P f (W:List Value).toArray w fun e W'=>e= .returned (.bool true)/\Below w.heap.size w W':=by
 obtain⟨us,u1,u2,u3⟩:=cg hB ar bl ht hv aa;unfold MQ at E;rw[tV] at E;generalize N:BS (YM al.lps us) al.eqs=T;obtain⟨ax,aE,r3⟩:=FH al.eqs (YM al.lps us);rw[N] at ax aE r3;have a6:∀j u,us[j]? =some u->T (0+j)=u:=fun j u K=>by
  have cl:=(tc.1 K).1;rw[tj,<-N,(CJ E.1).2.2 j (.inl (by omega))];show us.getD j default=u;simp[List.getD,K]
 have hA:Agr T al:=by
  refine⟨fun p Y=>?_,fun p Y=>?_⟩
  .rw[<-N];exact Er (fv:=[]) (nh:=0) (fun x hx=>by cases hx) (uQ _) E.1 p Y
  .rw[aE];show (Fe al.lps p.1).getD SD=p.2;rw[Pf E.2 p Y];rfl
 obtain⟨p1,M⟩:=b2 T us u1 u2 (fun j u K=>by have:=a6 j u K;rw[tj] at this;exact this) hA.eqs;have b4:∀b off,b < w.heap.size->AY T (fun _=>none) [] w b off:=fun b off hb=>⟨hb,by rw[ax];trivial,fun id=>trivial⟩;have b1:AG T ks.length (fun _=>none) [] w:=⟨fun id=>trivial,(fun id cs b h=>by cases h),fun b off _=>by rw[ax];trivial⟩;obtain⟨_,b5⟩:=HS (Aa:=Aa) (aK:=aK) hm (Ln hl) a0 T Ys.none f as none [] _ c ad al (fun T' _ s y hy=>by cases hy) b3;obtain⟨_,hc⟩:=b5 hA p1 trivial trivial (fun _=>none) w W (u3 T _ b4 a6 ks.length (by omega)) b1;refine hc.mono fun e W' ⟨v, ab,e1,q,e3,J⟩=>?_;refine⟨?_,q.os,q.tape,q.output,q.size,fun k hk=>q.old k hk (fun id h=>by cases h)⟩;rw[e1];congr 1;cases c with
 |cb b=>rw[show b=true from M] at J;exact J
 |b x=>
  obtain⟨_,b,C,O⟩:=J;rw[show T x=_ from M] at C;cases C;exact O
 |nb x=>
  obtain⟨_,b,C,O⟩:=J;rw[show T x=_ from M] at C;cases C;exact O
 |_=>exact M.elim
end
theorem PG {H:Type}{enc:TypeId × Value->H}{P:Program}(J:laidOutB P=true){s y:World}(E:Below s.heap.size s y){K:Nat->Bool}:∀{ar:List TypeId} {W:List Value} {ds:List (DataW H)} {ps:List MemPlace},
  (∀t∈ar,P.readableRec t=true/\t < P.types.size)->DataW.TrodAll enc P s 0 (fun _=>true) true ar W ds ps->(∀x∈ps,x.block < s.heap.size)->(∀x∈ps,K x.block=true)->DataW.TrodAll enc P y 0 K true ar W ds ps
 |[],[],[],_,_,h,_,_=>h
 |t::ar,v::W,d::ds,ps,ht,⟨p,q,C,O,e⟩,hlt,aa=>by
  subst e;obtain⟨ax,aE⟩:=ht t (tl ..);exact⟨p,q,WideElems.Trod_stays J ax aE C (fun x b=>E.same (hlt x (tz _ b))) (fun x b=>aa x (tz _ b)),
   PG J E (fun t h=>ht t (th _ h)) O (fun x b=>hlt x (tp _ b)) (fun x b=>aa x (tp _ b)),rfl⟩
 |[],_::_,_,_,_,h,_,_=>h.elim
 |[],[],_::_,_,_,h,_,_=>h.elim
 |_::_,[],_,_,_,h,_,_=>h.elim
 |_::_,_::_,[],_,_,h,_,_=>h.elim
end
section
open Go Go.RowKit Go.ChangeShapes Go.WideShapes
theorem nM {H:Type}{enc:TypeId × Value->H}{P:Program}{f:Func}{s:ChangeSpec}{apart bx b2 bt:Bool}{W K:World}{args:Array Value}{ds E:List (DataW H)}{a1:List MemPlace}{tb:TypeId}
  (hl:laidOutB P=true) (b6:∀t∈f.params.toList,P.readableRec t=true/\t < P.types.size) (bi:f.resultTypes= #[tb]) (bj:P.underlying tb=some .bool) (bm:s.vars=[])
  (ad:s.fn H (ds++E)={ results:=[.lit (.bool true)],args:=ds })
  (N:DataW.Whole enc P f.params.toList s.vars apart W args.toList ds E a1) (Y:Below W.heap.size W K):s.post enc P f apart bx b2 bt W args (.bool true) K:=by
 have al:∀p∈a1,p.block < W.heap.size:=N.lt;have b1:=N;obtain⟨p,q,hA,M,rfl,hz,hn⟩:=N;have hq:q=[]:=by
  rw[bm] at M;cases E with
  |nil=>exact M
  |cons=>exact M.elim
 subst hq;have b4:∀x∈p++[],(fun b=>decide (b < W.heap.size)) x.block=true:=fun x y=>by simpa using al x y
 have a2:∀e:Nat->Bool,(∀x∈p++[],e x.block=true)->DataW.TrodAll enc P K 0 e true f.params.toList args.toList (s.fn H (ds++E)).args p:=fun e b7=>by
  rw[ad];exact PG hl Y b6 hA (fun x y=>al x (by simp[y])) (fun x y=>b7 x (by simp[y]))
 have bl:∀e:Nat->Bool,DataW.TrodVars enc P K e s.vars (s.fn H (ds++E)).vars []:=fun e=>by rw[ad,bm];rfl
 have hr:∀(b:Nat) (e:Nat->Bool) (hd:Bool),DataW.TrodAll enc P K b e hd f.resultTypes.toList ((Value.bool true).resultList f.resultTypes.size) (s.fn H (ds++E)).results []:=fun b e hd=>by
  rw[ad,bi];exact⟨[],[],⟨1,by simp[DataW.trod,bj,Value.cells]⟩,rfl,rfl⟩
 refine⟨ds,E,p++[],[],p,[],b1,hr _ _ _,a2 _ b4,bl _,World.keptBut_mono (fun x y=>⟨y,.inr (by simpa using y)⟩) (Y.frame (· ∈p++[])),fun _=>?_⟩;refine⟨fun j t r C O=>?_,_,_,([]++p)++[],⟨[]++p,[],trodAll_append (a2 _ (fun _ _=>rfl)) (hr _ _ _),bl _,rfl,?_,?_⟩,?_⟩
 .exact ok_one bi (by rfl) (by simp[Value.okWide,bj,Cell.okWide,Cell.ok]) j t r C O
 .intro b off hp;rw[Y.frozen (al _ (by simpa using hp))];exact hz b off (by simpa using hp)
 .grind
 .grind
end
section
open Go
inductive Ty where
 |i|b|l|r (c:Nat)|s
 deriving DecidableEq
def I (T:Tab)(x:Nat):Int:=(T.get x).toI
def B (T:Tab)(x:Nat):Bool:=(T.get x).toB
def L (T:Tab)(x:Nat):List (List U):=(T.get x).toL
def S (T:Tab)(x:Nat):ByteArray:=(T.get x).toS
def iR (T:Tab)(r:Rf):Int:=(r.eval T).toI
def bR (T:Tab)(r:Rf):Bool:=(r.eval T).toB
def lR (T:Tab)(r:Rf):List (List U):=(r.eval T).toL
def stR (T:Tab)(r:Rf):ByteArray:=(r.eval T).toS
def uR (T:Tab):Ty->Rf->U
 | .i,r=> .int (iR T r)
 | .b,r=> .bool (bR T r)
 | .l,r=> .list (lR T r)
 | .r _,r=>r.eval T
 | .s,r=> .str (stR T r)
variable{T:Tab}{x:Nat}
theorem iR_c {n:Int}:iR T (.c (.int n))=n:=Eq.trans rfl rfl
theorem iR_e :iR T (.e x)=I T x:=Eq.trans rfl rfl
theorem bR_c {n:Bool}:bR T (.c (.bool n))=n:=Eq.trans rfl rfl
theorem AI :bR T (.e x)=B T x:=Eq.trans rfl rfl
theorem bR_n :bR T (.n x)= !B T x:=Eq.trans rfl rfl
theorem lR_c :lR T (.c (.list []))=[]:=Eq.trans rfl rfl
theorem lR_e :lR T (.e x)=L T x:=Eq.trans rfl rfl
theorem tC {s:ByteArray}:stR T (.c (.str s))=s:=Eq.trans rfl rfl
theorem tH :stR T (.e x)=S T x:=Eq.trans rfl rfl
def Qw (T:Tab):List Rf->Int->Int
 |[],_=>0
 |a::l,n=>if n<=0 then iR T a else Qw T l (n - 1)
def Qs (T:Tab):List Rf->Int->Prop
 |[],_=>False
 |a::l,n=>(n<=0/\bR T a=true)\/(¬n<=0/\Qs T l (n - 1))
def Ad (l:List (List U))(i c:Nat):Int:=((l.getD i []).getD c default).toI
def Bx (l:List (List U))(i c:Nat):Bool:=((l.getD i []).getD c default).toB
def BL (l:List (List U))(i c:Nat):ByteArray:=((l.getD i []).getD c default).toS
def CX (G c:Nat)(l:List (List U))(z:U)(k:List U):U:=bif decide (Ah G l k < l.length) then (l.getD (Ah G l k) []).getD (G+c) default else z
def G0 (l:List (List U))(i c:Nat):List (List U):=((l.getD i []).getD c default).toL
inductive Op2 where
 |add|sub|mul|div|mod|tdiv|tmod|min|max
def Op2.f:Op2->Int->Int->Int
 | .add=>nQ| .sub=>pF| .mul=>ny| .div=>pI| .mod=>Y0| .tdiv=>UT| .tmod=>gg| .min=>U3| .max=>U1
inductive Opn where
 |id (t:Ty)|not|and|or|lt|le|eq|ne
 |eqs (ts:List Ty)|nes (ts:List Ty)|eqb|neb
 |ite (t:Ty)|ifb
 |o2 (o:Op2)|w2 (k:IntKind) (o:Op2)|wx (k:IntKind) (o:Op2)|w1 (k:IntKind)|wneg (k:IntKind)|neg|bits (o:BinOp) (k:IntKind)
 |take|drop|sub|slen|sat
 |len|app|get (t:Ty) (c:Nat)|mget (t:Ty) (nk c:Nat) (ts:List Ty)|mhas (nk:Nat) (ts:List Ty)|mset (nk:Nat) (ts:List Ty)|pick (t:Ty)|row (k s:Nat) (ts:List Ty)|rset (c:Nat) (ts:List Ty)|rep (ts:List Ty)
 |outI (tg:String) (f:List U->Int)|outB (tg:String) (f:List U->Bool)|outL (tg:String) (f:List U->List (List U))|outS (tg:String) (f:List U->ByteArray)|res (t:Ty) (D:Ac) (j:Nat)
def tyC:Ty->Nat| .i=>0| .b=>1| .s=>2| .l=>3| .r _=>4
def Bm (f:List U->Int)(us:List U):U:= .int (f us)
def JM (f:List U->Bool)(us:List U):U:= .bool (f us)
def Cw (f:List U->List (List U))(us:List U):U:= .list (f us)
def gX (f:List U->ByteArray)(us:List U):U:= .str (f us)
def opF:Opn->List U->U
 | .id _=>oId| .not=>VQ| .and=>QI| .or=>oOr| .lt=>oLt| .le=>oLe| .eq=>oEq| .ne=>oNe
 | .eqs _=>fM| .nes _=>eN| .eqb=>ml| .neb=>nl
 | .ite _=>oIf| .ifb=>eB
 | .o2 o=>Go.Eng.o2 o.f| .w2 k o=>JH k (Go.Eng.o2 o.f)| .wx k o=>JH k (Go.Eng.o2 o.f)| .w1 k=>JH k oId| .wneg k=>JH k ZL| .neg=>ZL| .bits o k=>Go.Eng.o2 (DP o k)
 | .take=>O0| .drop=>fV| .sub=>oB| .slen=>eC| .sat=>mO
 | .len=>Pz| .app=>Rr| .get t c=>Qy (tyC t) c| .mget t G c _=>ju (tyC t) G c| .mhas G _=>ew G| .mset G _=>gW G| .pick _=>Tj| .row k s _=>Yx k s| .rset c _=>dc c| .rep _=>pB
 | .outI _ f=>Bm f| .outB _ f=>JM f| .outL _ f=>Cw f| .outS _ f=>gX f| .res _ D j=>D.res j
structure En where
 x:Nat
 op:Opn
 rs:List Rf
def En.be (e:En):Nat × (List U->U) × List Rf:=(e.x,opF e.op,e.rs)
def DU (T:Tab):List Ty->List Rf->Prop
 | .i::ar,a::b::r=>iR T a=iR T b/\DU T ar r
 | .b::ar,a::b::r=>(bR T a=true↔bR T b=true)/\DU T ar r
 | .s::ar,a::b::r=>stR T a=stR T b/\DU T ar r
 |_,_=>True
def D1 (o:Op2)(c a b:Int):Prop:=match o with
 | .add=>c=a+b| .sub=>c=a - b| .mul=>c=a*b| .div=>c=a / b| .mod=>c=a % b
 | .tdiv=>c=if 0<=a then a / b else -(-a / b)
 | .tmod=>c=if 0<=a then a % b else -(-a % b)
 | .min=>c=if a<=b then a else b
 | .max=>c=if a<=b then b else a
def w2P (k:IntKind)(o:Op2)(c a b:Int):Prop:=match k,o with
 | .i64,.add=> -9223372036854775808<=a+b->a+b<=9223372036854775807->c=a+b
 | .i64,.sub=> -9223372036854775808<=a - b->a - b<=9223372036854775807->c=a - b
 | .i64,.mul=> -9223372036854775808<=a*b->a*b<=9223372036854775807->c=a*b
 |k,o=>c=k.wrap (o.f a b)
def wnP (k:IntKind)(c a:Int):Prop:=match k with
 | .i64=>(-9223372036854775807<=a->a<=9223372036854775808->c= -a)/\(a= -9223372036854775808->c=a)
 |k=>c=k.wrap (0 - a)
def AE (T:Tab)(e:En):Prop:=
 match e with
 |⟨x,.id .i,[a]⟩=>I T x=iR T a
 |⟨x,.id .b,[a]⟩=>(B T x=true↔bR T a=true)
 |⟨x,.id .l,[a]⟩=>L T x=lR T a
 |⟨x,.id .s,[a]⟩=>S T x=stR T a
 |⟨x,.not,[a]⟩=>(B T x=true↔¬bR T a=true)
 |⟨x,.and,[a,b]⟩=>(B T x=true↔(bR T a=true/\bR T b=true))
 |⟨x,.or,[a,b]⟩=>(B T x=true↔(bR T a=true\/bR T b=true))
 |⟨x,.lt,[a,b]⟩=>(B T x=true↔iR T a < iR T b)
 |⟨x,.le,[a,b]⟩=>(B T x=true↔iR T a<=iR T b)
 |⟨x,.eq,[a,b]⟩=>(B T x=true↔iR T a=iR T b)
 |⟨x,.ne,[a,b]⟩=>(B T x=true↔¬iR T a=iR T b)
 |⟨x,.eqs ar,r⟩=>(B T x=true↔DU T ar r)
 |⟨x,.nes ar,r⟩=>(B T x=true↔¬DU T ar r)
 |⟨x,.eqb,[a,b]⟩=>(B T x=true↔(bR T a=true↔bR T b=true))
 |⟨x,.neb,[a,b]⟩=>(B T x=true↔¬(bR T a=true↔bR T b=true))
 |⟨x,.ite .i,[a,b,c]⟩=>I T x=if bR T a=true then iR T b else iR T c
 |⟨x,.ite .b,[a,b,c]⟩=>(B T x=true↔((bR T a=true/\bR T b=true)\/(¬bR T a=true/\bR T c=true)))
 |⟨x,.ite .l,[a,b,c]⟩=>L T x=if bR T a=true then lR T b else lR T c
 |⟨x,.ite .s,[a,b,c]⟩=>S T x=if bR T a=true then stR T b else stR T c
 |⟨x,.ifb,[a,b,c]⟩=>(B T x=true↔((bR T a=true/\bR T b=true)\/(¬bR T a=true/\bR T c=true)))
 |⟨x,.o2 o,[a,b]⟩=>D1 o (I T x) (iR T a) (iR T b)
 |⟨x,.w2 k o,[a,b]⟩=>w2P k o (I T x) (iR T a) (iR T b)
 |⟨x,.wx k o,[a,b]⟩=>I T x=k.wrap (o.f (iR T a) (iR T b))
 |⟨x,.w1 k,[a]⟩=>I T x=k.wrap (iR T a)
 |⟨x,.wneg k,[a]⟩=>wnP k (I T x) (iR T a)
 |⟨x,.neg,[a]⟩=>I T x= -iR T a
 |⟨x,.bits o k,[a,b]⟩=>I T x=DP o k (iR T a) (iR T b)
 |⟨x,.len,[a]⟩=>I T x=(lR T a).length
 |⟨x,.app,[a,b]⟩=>L T x=lR T a++lR T b
 |⟨x,.take,[a,b]⟩=>L T x=(lR T a).take (iR T b).toNat
 |⟨x,.drop,[a,b]⟩=>L T x=(lR T a).drop (iR T b).toNat
 |⟨x,.sub,[a,b,c]⟩=>L T x=((lR T a).take (iR T c).toNat).drop (iR T b).toNat
 |⟨x,.slen,[a]⟩=>I T x=(stR T a).size
 |⟨x,.sat,[a,b]⟩=>I T x=Bn (stR T a) (iR T b).toNat
 |⟨x,.get .i c,[a,b]⟩=>I T x=Ad (lR T a) (iR T b).toNat c
 |⟨x,.get .b c,[a,b]⟩=>B T x=Bx (lR T a) (iR T b).toNat c
 |⟨x,.get .l c,[a,b]⟩=>L T x=G0 (lR T a) (iR T b).toNat c
 |⟨x,.get .s c,[a,b]⟩=>S T x=BL (lR T a) (iR T b).toNat c
 |⟨x,.mget .i G c ar,a::z::r⟩=>I T x=(CX G c (lR T a) (z.eval T) (List.zipWith (uR T) ar r)).toI
 |⟨x,.mget .b G c ar,a::z::r⟩=>B T x=(CX G c (lR T a) (z.eval T) (List.zipWith (uR T) ar r)).toB
 |⟨x,.mget .s G c ar,a::z::r⟩=>S T x=(CX G c (lR T a) (z.eval T) (List.zipWith (uR T) ar r)).toS
 |⟨x,.mhas G ar,a::r⟩=>(B T x=true↔Ah G (lR T a) (List.zipWith (uR T) ar r) < (lR T a).length)
 |⟨x,.mset G ar,a::r⟩=>L T x=BG G (lR T a) ((List.zipWith (uR T) ar r).take G) ((List.zipWith (uR T) ar r).drop G)
 |⟨x,.pick .i,a::r⟩=>I T x=Qw T r (iR T a)
 |⟨x,.pick .b,a::r⟩=>(B T x=true↔Qs T r (iR T a))
 |⟨x,.row k s ar,r⟩=>L T x=Bh s k (List.zipWith (uR T) ar r)
 |⟨x,.rset c ar,a::b::r⟩=>L T x=EE (lR T a) (iR T b).toNat c (List.zipWith (uR T) ar r)
 |⟨x,.rep ar,a::r⟩=>L T x=List.replicate (iR T a).toNat (List.zipWith (uR T) ar r)
 |⟨x,.outI _ f,r⟩=>I T x=f (r.map (Rf.eval T))
 |⟨x,.outB _ f,r⟩=>B T x=f (r.map (Rf.eval T))
 |⟨x,.outL _ f,r⟩=>L T x=f (r.map (Rf.eval T))
 |⟨x,.outS _ f,r⟩=>S T x=f (r.map (Rf.eval T))
 |_=>True
def U9:Ty->Bool| .i=>true| .b=>true| .s=>true|_=>false
abbrev Bv:=List (Nat × Ty)
def Mo:Ty->Ty->Bool| .i,.i=>true| .b,.b=>true| .l,.l=>true| .r c,.r d=>Nat.beq c d| .s,.s=>true|_,_=>false
def W1:Bv->Nat->Ty->Bool
 |[],_,_=>false
 |(y,t)::r,x,u=>if Nat.beq y x&&Mo t u then true else W1 r x u
def tyR (az:Bv)(t:Ty):Rf->Bool
 | .c (.int _)=>Mo t .i
 | .c (.bool _)=>Mo t .b
 | .c (.list _)=>Mo t .l
 | .c (.str _)=>Mo t .s
 | .c _=>false
 | .n _=>Mo t .b
 | .e x=>W1 az x t
def Fi (az:Bv):List Ty->List Rf->Bool
 |[],[]=>true
 |t::ar,r::rs=>tyR az t r&&Fi az ar rs
 |_,_=>false
def D5:List Ty->List Ty
 |[]=>[]
 |t::ar=>t::t::D5 ar
def uV (T:Tab)(t:Ty)(x:Nat):U:=uR T t (.e x)
def ft (T:Tab)(x c:Nat):Prop:=∀i:Nat,∃n,((L T x).getD i []).getD c default= .int n
def Sty (T:Tab)(x:Nat):Ty->Prop
 | .r c=>ft T x c
 |t=>T.get x=uV T t x
def AJ (T:Tab):Bv->Prop
 |[]=>True
 |(x,t)::r=>Sty T x t/\AJ T r
theorem Sty.get :∀{t:Ty},Sty T x t->T.get x=uV T t x
 | .i,h=>h
 | .b,h=>h
 | .l,h=>h
 | .r _,_=>rfl
 | .s,h=>h
def noR:Ty->Bool| .r _=>false|_=>true
def Gb (az:Bv)(e:En):Option (Option Ty):=
 match e.op,e.rs with
 | .id t,[a]=>some (if tyR az t a then some t else none)
 | .ite t,[_,b,c]=>some (if tyR az t b&&tyR az t c then some t else none)
 | .eqs ar,r=>if Fi az (D5 ar) r&&ar.all U9 then some (some .b) else none
 | .nes ar,r=>if Fi az (D5 ar) r&&ar.all U9 then some (some .b) else none
 | .row _ _ ar,r=>if Fi az ar r then some (some .l) else none
 | .rset _ ar,_::_::r=>if Fi az ar r then some (some .l) else none
 | .rep ar,_::r=>if Fi az ar r then some (some .l) else none
 | .mset _ ar,_::r=>if Fi az ar r then some (some .l) else none
 | .not,_| .and,_| .or,_| .lt,_| .le,_| .eq,_| .ne,_| .ifb,_| .eqb,_| .neb,_=>some (some .b)
 | .mhas _ ar,_::r=>if Fi az ar r then some (some .b) else none
 | .o2 _,_| .w2 _ _,_| .wx _ _,_| .w1 _,_| .wneg _,_| .neg,_| .bits _ _,_| .len,_| .slen,_| .sat,_=>some (some .i)
 | .app,_| .take,_| .drop,_| .sub,_=>some (some .l)
 | .pick .i,_::r=>some (if r.all (tyR az .i) then some .i else none)
 | .pick .i,[]=>some none
 | .pick .b,_::b::r=>some (if (b::r).all (tyR az .b) then some .b else none)
 | .outI _ _,_=>some (some .i)
 | .outB _ _,_=>some (some .b)
 | .outL _ _,_=>some (some .l)
 | .outS _ _,_=>some (some .s)
 | .get t _,_=>some (if noR t then some t else none)
 | .mget t _ _ ar,_::_::r=>if Fi az ar r then some (if noR t then some t else none) else none
 | .pick _,_| .res _ _ _,_=>some none
 |_,_=>none
def UR (e:En):Bv:=
 match e.op with
 | .row _ s ar=>if ar.all (Mo .i) then (List.range s).map fun c=>(e.x,.r c) else []
 |_=>[]
def chk:Bv->List En->Option Bv
 |az,[]=>some az
 |az,e::r=>match Gb az e with
  |none=>none
  |some none=>chk az r
  |some (some t)=>if noR t then chk (UR e++(e.x,t)::az) r else none
section
variable {T:Tab}
variable{t u:Ty}{az:Bv}{r:List Rf}{x:Nat}{v:Bool}
theorem Qc (h:Mo t u=true):t=u:=by cases t<;>cases u<;>first|rfl|(cases h;done)|(rw[tW h])
theorem XF:∀{az:Bv} {x:Nat} {t:Ty},AJ T az->W1 az x t=true->T.get x=uV T t x
 |[],_,_,_,h=>by cases h
 |(y,u)::r,x,t,aa,h=>by
  simp only[W1] at h;split at h
  .rename_i b;rw[tV] at b;have e:=tW b.1;subst e;rw[<-Qc b.2];exact aa.1.get
  .exact XF aa.2 h
theorem JX {r:Rf}(aa:AJ T az)(h:tyR az t r=true):r.eval T=uR T t r:=by
 cases r with
 |c u=>cases u<;>simp only[tyR] at h<;>first|(have e:=Qc h;subst e;rfl)|cases h
 |e x=>exact XF aa h
 |n x=>have e:=Qc h;subst e;rfl
theorem Bp {az:Bv}(aa:AJ T az):∀{ar:List Ty} {rs:List Rf},Fi az ar rs=true->rs.map (Rf.eval T)=List.zipWith (uR T) ar rs
 |[],[],_=>rfl
 |t::ar,r::rs,h=>by
  simp only[Fi,tV] at h;simp only[tx,List.zipWith_cons_cons];rw[JX aa h.1,Bp aa h.2]
 |[],_::_,h=>by cases h
 |_::_,[],h=>by cases h
theorem Y9 {az:Bv}:∀{ar:List Ty} {rs:List Rf},Fi az ar rs=true->rs.length=ar.length
 |[],[],_=>rfl
 |_::_,_::_,h=>by
  simp only[Fi,tV] at h;simp[Y9 h.2]
 |[],_::_,h=>by cases h
 |_::_,[],h=>by cases h
theorem cI:∀{ar:List Ty} {rs:List Rf},rs.length=(D5 ar).length->ar.all U9=true->(FX (List.zipWith (uR T) (D5 ar) rs)=true↔DU T ar rs)
 |[],[],_,_=>by simp[FX,D5,DU]
 |t::ar,a::b::r,hl,hn=>by
  simp only[List.all_cons,tV] at hn;have e:=cI (ar:=ar) (rs:=r) (by simpa [D5] using hl) hn.2;simp only[D5,List.zipWith_cons_cons,FX,tV];rw[e];cases t with
  |i=>simp[uR,U.eqv,DU]
  |b=>
   simp only[uR,U.eqv,DU];cases bR T a<;>cases bR T b<;>simp
  |l=>exact absurd hn.1 (by simp[U9])
  |r c=>exact absurd hn.1 (by simp[U9])
  |s=>simp[uR,U.eqv,DU]
 |[],_::_,hl,_=>by simp[D5] at hl
 |_::_,[],hl,_=>by simp[D5] at hl
 |_::_,[_],hl,_=>by simp[D5] at hl
theorem X6 (aa:AJ T az){ar:List Ty}{rs:List Rf}{c:Bool}(h:(Fi az (D5 ar) rs&&ar.all U9)=true):FX (rs.map (Rf.eval T))=true↔DU T ar rs:=by
 rw[tV] at h;rw[Bp aa h.1];exact cI (Y9 h.1) h.2
theorem jh (l:List U):(GX l).toI=0:=by
 unfold GX;split<;>rfl
theorem iY (l:List U):(GX l).toB=false:=by
 unfold GX;split<;>rfl
theorem VT {d:U}(hd:d.toI=0):∀(l:List Rf) (n:Int),((l.map (Rf.eval T)).getD n.toNat d).toI=Qw T l n
 |[],n=>by simp[Qw,hd]
 |a::l,n=>by
  simp only[Qw];split
  .rename_i h;have:n.toNat=0:=by omega
   simp[this,iR]
  .rename_i h;have e:n.toNat=(n - 1).toNat+1:=by omega
   rw[e,<-VT hd l (n - 1)];simp
theorem VR {d:U}(hd:d.toB=false):∀(l:List Rf) (n:Int),((l.map (Rf.eval T)).getD n.toNat d).toB=true↔Qs T l n
 |[],n=>by simp[Qs,hd]
 |a::l,n=>by
  simp only[Qs];by_cases h:n<=0
  .have:n.toNat=0:=by omega
   simp[this,h,bR]
  .have e:n.toNat=(n - 1).toNat+1:=by omega
   rw[e,<-VR hd l (n - 1)];simp[h]
theorem vB (h:T.get x= .bool v):B T x=v:=by unfold B;rw[h];rfl
theorem vI {v:Int}(h:T.get x= .int v):I T x=v:=by unfold I;rw[h];rfl
theorem vL {v:List (List U)}(h:T.get x= .list v):L T x=v:=by unfold L;rw[h];rfl
theorem sB (h:T.get x= .bool v):T.get x=uV T .b x:=by rw[h];show _=U.bool (T.get x).toB;rw[h];rfl
theorem sI {v:Int}(h:T.get x= .int v):T.get x=uV T .i x:=by rw[h];show _=U.int (T.get x).toI;rw[h];rfl
theorem vS {v:ByteArray}(h:T.get x= .str v):S T x=v:=by unfold S;rw[h];rfl
theorem sS {v:ByteArray}(h:T.get x= .str v):T.get x=uV T .s x:=by rw[h];show _=U.str (T.get x).toS;rw[h];rfl
theorem sL {v:List (List U)}(h:T.get x= .list v):T.get x=uV T .l x:=by rw[h];show _=U.list (T.get x).toL;rw[h];rfl
theorem sV (o:Op2)(a b:Int):D1 o (o.f a b) a b:=by
 cases o<;>simp only[D1,Op2.f]<;>first|rfl|exact tdiv_eq_if a b|exact tmod_eq_if a b|exact Int.min_def a b|exact Int.max_def a b
theorem tL (k:IntKind)(o:Op2)(a b:Int):w2P k o (k.wrap (o.f a b)) a b:=by
 cases k<;>cases o<;>simp only[w2P,Op2.f]<;>exact fun C O=>EX .i64 _ C O
theorem tM (k:IntKind)(a:Int):wnP k (k.wrap (0 - a)) a:=by
 cases k<;>simp only[wnP];refine⟨fun C O=>?_,fun h=>by subst h;decide⟩;rw[EX .i64 _ (by show (-9223372036854775808:Int)<=_;omega) (by show _<=(9223372036854775807:Int);omega)];omega
theorem cS (aa:AJ T az):∀(e:En) {o:Option Ty},Gb az e=some o->T.get e.x=opF e.op (e.rs.map (Rf.eval T))->AE T e:=by
 intro e o q h;unfold AE;split<;>(try simp only at q h)
 .exact vD U.toI h
 .exact Bool.eq_iff_iff.1 (vD U.toB h)
 .exact vD U.toL h
 .exact vD U.toS h
 .have:=vB h;rw[this];simp[u0,bR]
 .have:=vB h;rw[this];simp[u0,u1,bR]
 .have:=vB h;rw[this];simp[u0,u1,bR]
 .have:=vB h;rw[this];simp[u0,u1,iR]
 .have:=vB h;rw[this];simp[u0,u1,iR]
 .have:=vB h;rw[this];simp[u0,u1,iR]
 .have:=vB h;rw[this];simp[u0,u1,iR]
 .rename_i x ar r;simp only[Gb] at q;split at q
  .rename_i y;rw[vB h];exact X6 (c:=true) aa y
  .cases q
 .rename_i x ar r;simp only[Gb] at q;split at q
  .rename_i y;rw[vB h,<-X6 (c:=true) aa y];simp
  .cases q
 .have:=vB h;rw[this];simp only[u0,u1,bR,tx,uW,List.getD_cons_zero,List.getD_cons_succ];rename_i a b;cases (a.eval T).toB<;>cases (b.eval T).toB<;>simp
 .have:=vB h;rw[this];simp only[u0,u1,bR,tx,uW,List.getD_cons_zero,List.getD_cons_succ];rename_i a b;cases (a.eval T).toB<;>cases (b.eval T).toB<;>simp
 .rename_i x a b c;have C:=vD U.toI h;show (T.get x).toI=_;rw[C];show (bif (a.eval T).toB then b.eval T else c.eval T).toI=_;unfold bR iR;grind
 .rename_i x a b c;have C:=vD U.toB h;show ((T.get x).toB=true↔_);rw[C];show ((bif (a.eval T).toB then b.eval T else c.eval T).toB=true↔_);unfold bR;grind
 .rename_i x a b c;have C:=vD U.toL h;show (T.get x).toL=_;rw[C];show (bif (a.eval T).toB then b.eval T else c.eval T).toL=_;unfold bR lR;grind
 .rename_i x a b c;have C:=vD U.toS h;show (T.get x).toS=_;rw[C];show (bif (a.eval T).toB then b.eval T else c.eval T).toS=_;unfold bR stR;grind
 .rename_i x a b c;rw[vB h];show ((bif (a.eval T).toB then (b.eval T).toB else (c.eval T).toB)=true↔_);unfold bR;grind
 .rw[vI h];exact sV _ _ _
 .rw[vI h];exact tL _ _ _ _
 .rw[vI h];rfl
 .rw[vI h];rfl
 .rw[vI h];exact tM _ _
 .rw[vI h];show 0 - _=_;rw[Int.zero_sub];rfl
 .rw[vI h];rfl
 .rw[vI h];rfl
 .rw[vL h];rfl
 .rw[vL h];rfl
 .rw[vL h];rfl
 .rw[vL h];rfl
 .rw[vI h];rfl
 .rw[vI h];rfl
 .exact (vD U.toI h).trans rfl
 .exact (vD U.toB h).trans rfl
 .exact (vD U.toL h).trans rfl
 .exact (vD U.toS h).trans rfl
 .simp only[Gb] at q;split at q
  .rename_i y;rw[<-Bp aa y];exact (vD U.toI h).trans rfl
  .cases q
 .simp only[Gb] at q;split at q
  .rename_i y;rw[<-Bp aa y];exact (vD U.toB h).trans rfl
  .cases q
 .simp only[Gb] at q;split at q
  .rename_i y;rw[<-Bp aa y];exact (vD U.toS h).trans rfl
  .cases q
 .simp only[Gb] at q;split at q
  .rename_i y;rw[<-Bp aa y,vB h];exact decide_eq_true_iff
  .cases q
 .rename_i x G ar a r;simp only[Gb] at q;split at q
  .rename_i y;rw[<-Bp aa y];exact vL h
  .cases q
 .exact (vD U.toI h).trans (VT (jh _) _ _)
 .have C:=vD U.toB h;refine Iff.trans (b:=((_:U).toB=true)) (by rw[show B T _=_ from C];exact Iff.rfl) (VR (iY _) _ _)
 .rename_i x k s ar r;simp only[Gb] at q;split at q
  .rename_i y;rw[vL h,Bp aa y]
  .cases q
 .rename_i x c ar a b r;simp only[Gb] at q;split at q
  .rename_i y;rw[<-Bp aa y];exact vL h
  .cases q
 .rename_i x ar a r;simp only[Gb] at q;split at q
  .rename_i y;rw[<-Bp aa y];exact vL h
  .cases q
 .exact vD U.toI h
 .exact vD U.toB h
 .exact vD U.toL h
 .exact vD U.toS h
 .trivial
theorem WO {az:Bv}(aa:AJ T az):∀{r:List Rf} (n:Nat),r.all (tyR az .i)=true->∃v,(r.map (Rf.eval T)).getD n (.int 0)= .int v
 |[],n,_=>⟨0,by simp⟩
 |a::r,n,h=>by
  simp only[List.all_cons,tV] at h;cases n with
  |zero=>exact⟨iR T a,by simpa [uR] using JX aa h.1⟩
  |succ n=>simpa using WO aa (r:=r) n h.2
theorem Ta {az:Bv}(aa:AJ T az):∀{r:List Rf} (n:Nat),r.all (tyR az .b)=true->∃v,(r.map (Rf.eval T)).getD n (.bool false)= .bool v
 |[],n,_=>⟨false,by simp⟩
 |a::r,n,h=>by
  simp only[List.all_cons,tV] at h;cases n with
  |zero=>exact⟨bR T a,by simpa [uR] using JX aa h.1⟩
  |succ n=>simpa using Ta aa (r:=r) n h.2
theorem mg (aa:AJ T az)(n:Nat)(h:r.all (tyR az .i)=true):∃v,(r.map (Rf.eval T)).getD n (GX (r.map (Rf.eval T)))= .int v:=by
 have e:GX (r.map (Rf.eval T))= .int 0:=by
  cases r with
  |nil=>rfl
  |cons a r=>
   simp only[List.all_cons,tV] at h;have C:a.eval T= .int (iR T a):=by simpa [uR] using JX aa h.1
   rw[tx,C];rfl
 rw[e];exact WO aa n h
theorem j5 (aa:AJ T az){b:Rf}(n:Nat)(h:(b::r).all (tyR az .b)=true):∃v,((b::r).map (Rf.eval T)).getD n (GX ((b::r).map (Rf.eval T)))= .bool v:=by
 have e:GX ((b::r).map (Rf.eval T))= .bool false:=by
  have q:=h;simp only[List.all_cons,tV] at q;have C:b.eval T= .bool (bR T b):=by simpa [uR] using JX aa q.1
  rw[tx,C];rfl
 rw[e];exact Ta aa n h
theorem ji (h:(some (if noR t=true then some t else none):Option (Option Ty))=some (some u)):t=u:=by
 grind
theorem tO {c:Prop} [Decidable c] (h:(if c then some (if noR t=true then some t else none) else none:Option (Option Ty))=some (some u)):(some (if noR t=true then some t else none):Option (Option Ty))=some (some u):=by
 grind
theorem lF {v:U}(e:(some (if noR t=true then some t else none):Option (Option Ty))=some (some t))(h:T.get x=coC (tyC t) v):T.get x=uV T t x:=by
 cases t with
 |i=>exact sI h
 |b=>exact sB h
 |l=>exact sL h
 |s=>exact sS h
 |r c=>cases e
theorem tG (aa:AJ T az):∀(e:En) {t:Ty},Gb az e=some (some t)->T.get e.x=opF e.op (e.rs.map (Rf.eval T))->T.get e.x=uV T t e.x:=by
 intro e t q h;unfold Gb at q;split at q
 .rename_i a s y;split at q
  .rename_i C;cases q;rw[s,y] at h;have O:T.get e.x=a.eval T:=h;rw[JX aa C] at O;cases t
   .exact sI O
   .exact sB O
   .exact sL O
   .rfl
   .exact sS O
  .cases q
 .rename_i a b c s y;split at q
  .rename_i C;cases q;rw[tV] at C;rw[s,y] at h;have O:T.get e.x=bif (a.eval T).toB then b.eval T else c.eval T:=h
   rw[JX aa C.1,JX aa C.2] at O;cases t<;>cases M:(a.eval T).toB<;>rw[M] at O<;>first|exact sI O|exact sB O|exact sL O|exact sS O|rfl
  .cases q
 all_goals first
  |(rename_i u c s;have H:=ji q;rw[s] at h;subst H;exact lF q h)
  |(rename_i u G c ar a K r s y;have J:=tO q;have H:=ji J;rw[s] at h;subst H;exact lF J h)
  |(rename_i a K r s y;split at q<;>cases q;rename_i C;rw[s,y] at h;obtain⟨v,E⟩:=j5 aa (a.eval T).toI.toNat C;exact sB (h.trans E))
  |(rename_i a r s y;split at q<;>cases q;rename_i C;rw[s,y] at h;obtain⟨v,E⟩:=mg aa (a.eval T).toI.toNat C;exact sI (h.trans E))
  |(rename_i s y;split at q<;>cases q;rw[s,y] at h;first|exact sL h|exact sB h)
  |(rename_i s;split at q<;>cases q;rw[s] at h;first|exact sI h|exact sB h|exact sL h)
  |(rename_i s;cases q;rw[s] at h;first|exact sI h|exact sB h|exact sL h|exact sS h)
  |(cases q)
  |skip
def AF (T:Tab):List En->Prop
 |[]=>True
 |e::r=>AE T e/\AF T r
theorem AF.left:∀{a b:List En},AF T (a++b)->AF T a
 |[],_,_=>trivial
 |_::_,_,h=>⟨h.1,AF.left h.2⟩
theorem AF.right:∀{a b:List En},AF T (a++b)->AF T b
 |[],_,h=>h
 |_::_,_,h=>AF.right h.2
end
abbrev BE:=Nat × (List U->U) × List Rf
abbrev BO:=PC × (List U->Prop) × List Rf
abbrev BP:=(List U->Prop) × List Rf
def GI (l:List (Nat × Ex)):List BE:=l.map fun p=>(p.1,p.2.f,p.2.args)
def Iz (l:List Ob):List BO:=l.map fun o=>(o.pc,o.p.f,o.p.args)
def ep (l:List Pr):List BP:=l.map fun p=>(p.f,p.args)
def AU (T:Tab):List BE->Prop
 |[]=>True
 |(x,f,rs)::r=>T x=f (rs.map (Rf.eval T))/\AU T r
def Yh (T:Tab):List BO->Prop
 |[]=>True
 |(ac,f,rs)::r=>(pcv T ac->f (rs.map (Rf.eval T)))/\Yh T r
def AllP (T:Tab):List BP->Prop
 |[]=>True
 |(f,rs)::r=>f (rs.map (Rf.eval T))/\AllP T r
section
variable {T:Tab}
theorem NN:∀{l:List (Nat × Ex)},(∀p∈l,T p.1=p.2.eval T)->AU T (GI l)
 |[],_=>trivial
 |p::_,h=>⟨h p (tl ..),NN fun q b=>h q (th _ b)⟩
theorem Ri:∀{l:List (Nat × Ex)},AU T (GI l)->∀p∈l,T p.1=p.2.eval T
 |[],_,p,b=>by cases b
 |e::r,h,p,b=>by
  cases b with
  |head=>exact h.1
  |tail _ b=>exact Ri (l:=r) h.2 p b
theorem AU.left:∀{a b:List BE},AU T (a++b)->AU T a
 |[],_,_=>trivial
 |_::_,_,h=>⟨h.1,AU.left h.2⟩
theorem AU.right:∀{a b:List BE},AU T (a++b)->AU T b
 |[],_,h=>h
 |_::_,_,h=>AU.right h.2
theorem Ih:∀{l:List Ob},Yh T (Iz l)->∀o∈l,o.holds T
 |[],_,o,b=>by cases b
 |o'::_,h,o,b=>by
  cases b with
  |head=>exact h.1
  |tail _ b=>exact Ih h.2 o b
theorem U8:∀{l:List Pr},AllP T (ep l)->∀o∈l,o.holds T
 |[],_,o,b=>by cases b
 |o'::_,h,o,b=>by
  cases b with
  |head=>exact h.1
  |tail _ b=>exact U8 h.2 o b
variable{x:Nat}{az:Bv}{l:List En}
theorem lD :∀(t:Ty),T.get x=uV T t x->(∀c,t≠ .r c)->Sty T x t
 | .i,h,_=>h
 | .b,h,_=>h
 | .l,h,_=>h
 | .r c,_,h=>absurd rfl (h c)
 | .s,h,_=>h
theorem AJ.append:∀{a b:Bv},AJ T a->AJ T b->AJ T (a++b)
 |[],_,_,h=>h
 |_::_,_,h,h'=>⟨h.1,AJ.append h.2 h'⟩
theorem Vq {s:Nat}:∀{k:Nat} {l:List U} {u:List U},u∈Bh s k l->∀v∈u,v∈l
 |0,_,_,h=>by simp[Bh] at h
 |k+1,l,u,h=>by
  simp only[Bh,List.mem_cons] at h;intro v b;rcases h with rfl|h
  .exact List.mem_of_mem_take b
  .exact List.mem_of_mem_drop (Vq h v b)
theorem cM:∀{ar:List Ty} {r:List Rf},ar.all (Mo .i)=true->∀v∈List.zipWith (uR T) ar r,∃n,v= .int n
 |[],_,_,v,h=>by simp at h
 |_::_,[],_,v,h=>by simp at h
 |t::ar,a::r,ht,v,h=>by
  simp only[List.all_cons,tV] at ht;simp only[List.zipWith_cons_cons,List.mem_cons] at h;rcases h with rfl|h
  .have e:=Qc ht.1;subst e;exact⟨_,rfl⟩
  .exact cM ht.2 v h
theorem kB (aa:AJ T az)(e:En){o:Option Ty}(y:Gb az e=some o)(h:T.get e.x=opF e.op (e.rs.map (Rf.eval T))):AJ T (UR e):=by
 obtain⟨x,op,rs⟩:=e;unfold UR;simp only;split
 .rename_i k s ar;split
  .rename_i Y;simp only[Gb] at y;split at y
   .rename_i b;have J:L T x=Bh s k (List.zipWith (uR T) ar rs):=by rw[<-Bp aa b];exact vL h
    have N:∀c,ft T x c:=fun c i=>by
     rw[J];have E:∀u:List U,(∀v∈u,∃n,v= .int n)->∃n,u.getD c default= .int n:=fun u K=>by
      rcases tu c u.length with b|b
      .rw[uD,tZ b];exact K _ (um b)
      .rw[uD,uO b];exact⟨0,rfl⟩
     rcases tu i (Bh s k (List.zipWith (uR T) ar rs)).length with q|q
     .rw[uD (l:=Bh s k (List.zipWith (uR T) ar rs)),tZ q];exact E _ fun v C=>cM Y v (Vq (um q) v C)
     .rw[uD (l:=Bh s k (List.zipWith (uR T) ar rs)),uO q];exact E _ fun v C=>by simp at C
    have H:∀l:List Nat,AJ T (l.map fun c=>(x,Ty.r c)):=by
     intro l;induction l with
     |nil=>trivial
     |cons a l M=>exact⟨N a,M⟩
    exact H _
   .cases y
  .trivial
 .trivial
theorem T3:∀{l:List En} {az q:Bv},AJ T az->chk az l=some q->AU T (l.map En.be)->AF T l/\AJ T q
 |[],az,q,aa,h,_=>by
  simp only[chk] at h;cases h;exact⟨trivial,aa⟩
 |e::r,az,q,aa,h,hb=>by
  simp only[chk] at h;split at h
  .cases h
  .rename_i b;obtain⟨C,O⟩:=T3 aa h hb.2;exact⟨⟨cS aa e b hb.1,C⟩,O⟩
  .rename_i t b;split at h
   .rename_i s;obtain⟨C,O⟩:=T3 (az:=UR e++(e.x,t)::az) ((kB aa e b hb.1).append ⟨lD t (tG aa e b hb.1) (fun c y=>by rw[y] at s;cases s),aa⟩) h hb.2;exact⟨⟨cS aa e b hb.1,C⟩,O⟩
   .cases h
def AM (az:Bv)(l:List En):Bv:=(chk az l).getD []
theorem AN (aa:AJ T az)(e:(chk az l).isSome=true)(b:AU T (l.map En.be)):AF T l/\AJ T (AM az l):=by
 obtain⟨q,h⟩:=Option.isSome_iff_exists.1 e;have:=T3 aa h b;unfold AM;rw[h];exact this
def oP (az:Bv)(l:List En)(R:List Ty)(rs:List Rf):Bool:=match chk az l with
 |some b=>Fi b R rs
 |none=>false
theorem At {R:List Ty}{rs:List Rf}(aa:AJ T az)(b:oP az l R rs=true)(e:AU T (l.map En.be)):AF T l/\rs.map (Rf.eval T)=List.zipWith (uR T) R rs:=by
 unfold oP at b;split at b
 .rename_i q h;obtain⟨C,O⟩:=T3 aa h e;exact⟨C,Bp O b⟩
 .cases b
def tyKd:Kd->Option Ty
 | .int _ _ _=>some .i
 | .bool=>some .b
 | .list _=>some .l
 | .str=>some .s
 |_=>none
def TN (x:Nat):Nat->List Kd->Bv
 |_,[]=>[]
 |c,.int _ _ _::aw=>(x,.r c)::TN x (c+1) aw
 |c,_::aw=>TN x (c+1) aw
def Ak:Nat->List Kd->Bv
 |_,[]=>[]
 |x,.list aw::ks=>(x,.l)::(TN x 0 aw++Ak (x+1) ks)
 |x,k::ks=>match tyKd k with
  |some t=>(x,t)::Ak (x+1) ks
  |none=>Ak (x+1) ks
def Bnd (T:Tab):Nat->List Kd->Prop
 |_,[]=>True
 |x,.int _ ap Y::ks=>(ap<=I T x/\I T x<=Y)/\Bnd T (x+1) ks
 |x,.list aw::ks=>((L T x).length<=140737488355328/\∀(i:Nat) (us:List U),(L T x)[i]? =some us->AK AD aw us)/\Bnd T (x+1) ks
 |x,.str::ks=>(S T x).size<=140737488355328/\Bnd T (x+1) ks
 |x,_::ks=>Bnd T (x+1) ks
theorem AJ.append0:∀{a b:Bv},AJ T a->AJ T b->AJ T (a++b)
 |[],_,_,h=>h
 |_::_,_,h,h'=>⟨h.1,AJ.append0 h.2 h'⟩
theorem aE:∀{aw:List Kd} {us:List U} {c:Nat} {k:Kd},AK AD aw us->aw[c]? =some k->∃u,us[c]? =some u/\KdU AD k u
 |[],_,_,_,_,h=>by simp at h
 |e::aw,us,c,k,⟨u,us',e1,C,O⟩,h=>by
  subst e1;cases c with
  |zero=>simp at h;subst h;exact⟨u,rfl,C⟩
  |succ c=>simpa using aE O (by simpa using h)
theorem qt {c:Nat}{aw:List Kd}{ai:IntKind}{ap Y:Int}(h:∀(i:Nat) (us:List U),(L T x)[i]? =some us->AK AD aw us)(b:aw[c]? =some (.int ai ap Y)):ft T x c:=fun i=>by
 rcases tu i (L T x).length with Y|Y
 .obtain⟨u,C,⟨n,e,_⟩⟩:=aE (h i _ (tZ Y)) b;refine⟨n,?_⟩;simp only[List.getD,tZ Y,Option.getD_some,C];exact e
 .exact⟨0,by simp only[List.getD,uO Y,Option.getD_none];simp;rfl⟩
theorem cT {x:Nat}{H:List Kd}(h:∀(i:Nat) (us:List U),(L T x)[i]? =some us->AK AD H us):∀(aw:List Kd) (c:Nat),(∀j k,aw[j]? =some k->H[c+j]? =some k)->AJ T (TN x c aw)
 |[],_,_=>trivial
 |e::aw,c,ha=>by
  have b:=cT h aw (c+1) fun j k q=>by
   have:=ha (j+1) k (by simpa using q);rw[show c+(j+1)=c+1+j by omega] at this;exact this
  cases e with
  |int ai ap Y=>exact⟨qt h (ha 0 _ rfl),b⟩
  |_=>exact b
theorem TU:∀{ks:List Kd} {us:List U} {x:Nat},AK AD ks us->(∀j u,us[j]? =some u->T (x+j)=u)->AJ T (Ak x ks)/\Bnd T x ks
 |[],us,x,_,_=>⟨trivial,trivial⟩
 |k::ks,us,x,⟨u,us',e,C,O⟩,hT=>by
  subst e;have q:=TU (x:=x+1) O fun j v E=>by
   have:=hT (j+1) v (by simpa using E);rw[show x+(j+1)=x+1+j by omega] at this;exact this
  have b:T.get x=u:=hT 0 u rfl;cases k with
  |int ai ap Y=>
   obtain⟨n,s,y⟩:=C;rw[s] at b;refine⟨⟨sI b,q.1⟩,?_,q.2⟩;rw[vI b];exact y
  |bool=>
   obtain⟨n,s⟩:=C;rw[s] at b;exact⟨⟨sB b,q.1⟩,q.2⟩
  |str=>
   obtain⟨n,s,y⟩:=C;rw[s] at b;exact⟨⟨sS b,q.1⟩,by rw[vS b];exact y,q.2⟩
  |val=>exact q
  |any=>exact q
  |list aw=>
   obtain⟨n,s,y,J⟩:=C;rw[s] at b;have H:∀(i:Nat) (us:List U),(L T x)[i]? =some us->AK AD aw us:=by rw[vL b];exact J
   refine⟨⟨sL b,(cT H aw 0 (fun j k E=>by rw[tj];exact E)).append0 q.1⟩,?_,q.2⟩;exact⟨by rw[vL b];exact y,H⟩
end
inductive PO where
 |take|sub|nez|t|inr|inl|ins|btw (lo hi:Int)|fits (b:Nat)|ready|ne|pre (tg:String) (p:List U->Prop)|owes (D:Ac)
structure ObE where
 pc:PC
 po:PO
 rs:List Rf
def poF:PO->List U->Prop
 | .take=>KM| .sub=>nT| .nez=>SA| .t=>pT| .inr=>pIn| .inl=>Ul| .ins=>dS| .btw ap Y=>Du ap Y| .fits b=>Gy b| .ready=>tT| .ne=>pNe| .pre _ p=>p| .owes D=>D.owes
def ObE.be (o:ObE):PC × (List U->Prop) × List Rf:=(o.pc,poF o.po,o.rs)
def pcP (T:Tab):PC->Prop
 |none=>True
 |some c=>B T c=true
def ed (T:Tab)(o:ObE):Prop:=
 match o with
 |⟨ac,.take,[a,b]⟩=>pcP T ac->(0<=iR T b/\iR T b<=(lR T a).length)
 |⟨ac,.sub,[a,b,c]⟩=>pcP T ac->(0<=iR T b/\iR T b<=iR T c/\iR T c<=(lR T a).length)
 |⟨ac,.nez,[a]⟩=>pcP T ac->¬iR T a=0
 |⟨ac,.t,[a]⟩=>pcP T ac->bR T a=true
 |⟨ac,.inr,[a,b]⟩=>pcP T ac->(0<=iR T a/\iR T a < iR T b)
 |⟨ac,.inl,[a,b]⟩=>pcP T ac->(0<=iR T a/\iR T a < (lR T b).length)
 |⟨ac,.ins,[a,b]⟩=>pcP T ac->(0<=iR T b/\iR T b < (stR T a).size)
 |⟨ac,.btw ap Y,[a]⟩=>pcP T ac->(ap<=iR T a/\iR T a<=Y)
 |⟨ac,.fits b,[a,c]⟩=>pcP T ac->((lR T a).length+(lR T c).length)*b<=140737488355328
 |⟨ac,.ready,[a]⟩=>pcP T ac->iR T a=0
 |⟨ac,.ne,[a,b]⟩=>pcP T ac->¬iR T a=iR T b
 |⟨ac,.pre _ p,rs⟩=>pcP T ac->p (rs.map (Rf.eval T))
 |⟨ac,.owes D,rs⟩=>pcP T ac->D.owes (rs.map (Rf.eval T))
 |_=>False
def IQ (T:Tab):List ObE->Prop
 |[]=>True
 |o::r=>ed T o/\IQ T r
section
variable {T:Tab}
theorem YW {ac:PC}(h:pcv T ac):pcP T ac:=by
 cases ac with
 |none=>trivial
 |some c=>show (T.get c).toB=true;rw[show T.get c= .bool true from h];rfl
theorem Zs {ac:PC}(h:pcP T ac):pcv T ac:=by
 cases ac with
 |none=>trivial
 |some c=>exact GM.2 h
theorem mD:∀{o:ObE},ed T o->(pcv T o.pc->poF o.po (o.rs.map (Rf.eval T))):=by
 intro o h b;have e:=YW b;unfold ed at h;split at h<;>first|exact h e|exact h.elim
theorem He:∀{l:List ObE},IQ T l->Yh T (l.map ObE.be)
 |[],_=>trivial
 |_::_,h=>⟨mD h.1,He h.2⟩
end
def AZ.sees (t:AZ)(rs:List Rf)(r:Option (AC × Mem × G)):Option (List BE × List BO × List BP):=
 match r with
 |some (aP,aM,g0)=>match Xt t rs aP aM g0 with
  |some ps=>some (GI g0.eqs.reverse,Iz g0.obs,ep ps)
  |none=>none
 |none=>none
theorem O9:∀{ks:List Kd} {us:List U},us.length=ks.length->NV ks us->AK AD ks us
 |[],[],_,_=>rfl
 |k::ks,u::us,hl,h=>⟨u,us,rfl,h 0 k u rfl rfl,O9 (by simpa using hl) fun j b e C O=>h (j+1) b e (by simpa using C) (by simpa using O)⟩
 |[],_::_,hl,_=>by simp at hl
 |_::_,[],hl,_=>by simp at hl
def AZ.run (P:Program)(l:List (FuncId × AZ))(Aa:FuncId->DI)(aK a0:Nat)(f:FuncId)(t:AZ):Option (AC × Mem × G):=
 FL P (KQ l) Aa aK a0 Ys.none f t.args none t.m { n:=t.n,eqs:=[],obs:=[] }
def Nb (t:AZ):Bool:=(List.range t.m.length).all fun id=>match t.m'.at id with| .pad=>false|_=>true
variable{P:Program}{t:AZ}{aw:List En}{os:List ObE}{l:List (FuncId × AZ)}{aK a0 j:Nat}{T:Tab}
theorem Oh {f:FuncId}{q:Au}(W:∀T,CL P T q){rs:List Rf}
  (b:t.sees rs (q Ys.none f t.args none t.m { n:=t.n,eqs:=[],obs:=[] })=some (aw.map En.be,os.map ObE.be,[])) (a2:Nb t=true)
  (bi:∀(T:Tab) (us:List U),(∀p∈t.pre,p.2 us)->(∀j u,us[j]? =some u->T j=u)->us.length=t.n->AJ T (Ak 0 t.ks)->Bnd T 0 t.ks->AU T (aw.map En.be)->IQ T os/\rs.map (Rf.eval T)=t.outs.map fun o=>o.2 us):Ae P f t:=by
 unfold AZ.sees at b;split at b
 .rename_i aP aM M hr;split at b
  .rename_i ps a6;injection b with b
   injection b with H b
   injection b with J K
   refine qd W hr a6 (fun id ad e=>?_) fun T us E al bj y Y=>?_
   .have:=uK.1 a2 id (List.mem_range.2 ad);grind
   .have s:AU T (GI M.eqs.reverse):=NN fun p hp=>Y p (List.mem_reverse.1 hp);rw[H] at s;obtain⟨i1,i2⟩:=TU (x:=0) (O9 E al) fun j u hj=>by rw[tj];exact y j u hj
    obtain⟨C,N⟩:=bi T us bj y E i1 i2 s;have O:=He C;rw[<-J] at O;exact⟨Ih O,U8 (by rw[K];trivial),N⟩
  .cases b
 .cases b
theorem Aq {f:FuncId}(e:P.follows .mixedOrders=true)(b:∀p∈l,Ae P p.1 p.2){Aa:FuncId->DI}{rs:List Rf}
  (y:t.sees rs (t.run P l Aa aK a0 f)=some (aw.map En.be,os.map ObE.be,[])) (q:Nb t=true)
  (s:∀(T:Tab) (us:List U),(∀p∈t.pre,p.2 us)->(∀j u,us[j]? =some u->T j=u)->us.length=t.n->AJ T (Ak 0 t.ks)->Bnd T 0 t.ks->AU T (aw.map En.be)->IQ T os/\rs.map (Rf.eval T)=t.outs.map fun o=>o.2 us):Ae P f t:=
 Oh (fun T=>HS e (Ln b) a0 T) y q s
def AZ.runB (P:Program)(l:List (FuncId × AZ))(Aa:FuncId->DI)(aK a0:Nat)(f:FuncId)(t:AZ):Option (AC × Mem × G):=
 eF P (FL P (KQ l) Aa aK a0) Aa aK Ys.none f t.args none t.m { n:=t.n,eqs:=[],obs:=[] }
theorem dT {f:FuncId}(b:P.follows .mixedOrders=true)(e:∀p∈l,Ae P p.1 p.2){Aa:FuncId->DI}{rs:List Rf}
  (y:t.sees rs (t.runB P l Aa aK a0 f)=some (aw.map En.be,os.map ObE.be,[])) (q:Nb t=true)
  (s:∀(T:Tab) (us:List U),(∀p∈t.pre,p.2 us)->(∀j u,us[j]? =some u->T j=u)->us.length=t.n->AJ T (Ak 0 t.ks)->Bnd T 0 t.ks->AU T (aw.map En.be)->IQ T os/\rs.map (Rf.eval T)=t.outs.map fun o=>o.2 us):Ae P f t:=
 Oh (dR b fun T=>HS b (Ln e) a0 T) y q s
theorem lc {aZ:Type}{a b:aZ}{l m:List aZ}(h:a=b)(e:l=m):a::l=b::m:=by rw[h,e]
def aI (us:List U)(j:Nat):Int:=(us.getD j default).toI
def aB (us:List U)(j:Nat):Bool:=(us.getD j default).toB
def aL (us:List U)(j:Nat):List (List U):=(us.getD j default).toL
def aS (us:List U)(j:Nat):ByteArray:=(us.getD j default).toS
theorem inI {us:List U}{n:Nat}(h:∀j u,us[j]? =some u->T j=u)(e:us.length=n)(b:j < n):aI us j=I T j:=by
 have:=h j us[j] (tZ (by omega));unfold aI I;grind
theorem inB {us:List U}{n:Nat}(h:∀j u,us[j]? =some u->T j=u)(e:us.length=n)(b:j < n):aB us j=B T j:=by
 have:=h j us[j] (tZ (by omega));unfold aB B;grind
theorem inL {us:List U}{n:Nat}(h:∀j u,us[j]? =some u->T j=u)(e:us.length=n)(b:j < n):aL us j=L T j:=by
 have:=h j us[j] (tZ (by omega));unfold aL L;grind
theorem inS {us:List U}{n:Nat}(h:∀j u,us[j]? =some u->T j=u)(e:us.length=n)(b:j < n):aS us j=S T j:=by
 have:=h j us[j] (tZ (by omega));unfold aS S;grind
end
section
open Go
variable{D:Ac}{aO:Nat}
theorem Wt (h:D.inScope aO=true):CK D.fv D.nh (D.nh+D.k) aO D.eqs=true/\GH D.fv D.nh aO (pcL D.pcn)=true/\∀x∈D.fv,x < D.nh:=by
 simp only[Ac.inScope,tV] at h;obtain⟨⟨⟨⟨aD,e⟩,_⟩,_⟩,q⟩:=h;exact⟨aD,e,fun x b=>BC (uK.1 q x b)⟩
theorem TR {T:Tab}{H:List U}(cl:D.inScope aO=true)(hk:H.length=D.k)(b5:D.nxt.length=D.k)(hH:∀j,j < D.k->T (D.nh+j)=D.res j (D.fv.map T.get++H))(hE:∀p∈D.eqs,T p.1=p.2.eval T)
  (e:List U->Prop) (M:List U->Nat) (h0:e H)
  (cs:∀(J:Tab) (s:List U),s.length=D.k->(∀x∈D.fv,J x=T x)->(∀j u,s[j]? =some u->J (D.nh+j)=u)->AU J (GI D.eqs.reverse)->e s->Yh J (Iz D.obs)/\(pcv J D.pcn->e (D.nxt.map (Rf.eval J))/\M (D.nxt.map (Rf.eval J)) < M s)):
  D.owes (D.fv.map T.get++H)/\(∃t,e t/\t.length=D.k/\∀j u,t[j]? =some u->T (D.nh+j)=u)/\¬pcv T D.pcn:=by
 obtain⟨bl,b6,a2⟩:=Wt cl;have b4:D.nh<=D.nh+D.k:=Nat.le_add_right _ _;generalize bs:D.fv.map T.get=us at*;have b2:us.length=D.fv.length:=by rw[<-bs];simp
 have e1:(us++H).take D.fv.length=us:=by rw[<-b2];simp
 have e2:(us++H).drop D.fv.length=H:=by rw[<-b2];simp
 have bi:∀s:List U,s.length=D.k->e s->Yh (D.tab us s) (Iz D.obs)/\(pcv (D.tab us s) D.pcn->e (D.nxt.map (Rf.eval (D.tab us s)))/\M (D.nxt.map (Rf.eval (D.tab us s))) < M s):=fun s aa Y=>by
  refine cs (D.tab us s) s aa (fun x hx=>?_) (fun j u q=>?_) (NN fun p b=>?_) Y
  .have:=a2 x hx;unfold Ac.tab;rw[(CJ bl).2.2 x (.inl (by omega)),GC _ _ _ _ this,<-bs];exact MP D.fv x hx
  .have cf:=(tc.1 q).1;unfold Ac.tab;rw[(CJ bl).2.2 _ (.inl (by omega))];exact Ff _ _ _ _ _ q
  .exact Er a2 b4 bl p (List.mem_reverse.1 b)
 have al:∀s,D.step us s=(bif pcB (D.tab us s) D.pcn then some (D.nxt.map (Rf.eval (D.tab us s))) else none):=fun s=>rfl;have go:∀(n:Nat) (s:List U),M s<=n->s.length=D.k->e s->∃m t,Fk (D.step us) m s=some t/\D.step us t=none/\e t/\t.length=D.k:=by
  intro n;induction n with
  |zero=>
   intro s hm aa Y;cases b:pcB (D.tab us s) D.pcn with
   |true=>have:=((bi s aa Y).2 (Kt.1 b)).2;omega
   |false=>exact⟨0,s,rfl,by rw[al,b];rfl,Y,aa⟩
  |succ n ih=>
   intro s hm aa Y;cases b:pcB (D.tab us s) D.pcn with
   |true=>
    obtain⟨k1,E⟩:=(bi s aa Y).2 (Kt.1 b);obtain⟨m,t,q1,K,q3,q4⟩:=ih (D.nxt.map (Rf.eval (D.tab us s))) (by omega) (by simp[b5]) k1;refine⟨m+1,t,?_,K,q3,q4⟩;simp only[Fk,al,b,cond_true,uM];exact q1
   |false=>exact⟨0,s,rfl,by rw[al,b];rfl,Y,aa⟩
 obtain⟨m,t,q1,K,q3,q4⟩:=go (M H) H (tY _) hk h0;have cj:∀s,EI (D.step us) H s->e s/\s.length=D.k:=by
  intro s N;induction N with
  |zero=>exact⟨h0,hk⟩
  |succ N W ih=>
   rename_i aD s2;rw[al] at W;cases b:pcB (D.tab us aD) D.pcn with
   |true=>
    rw[b] at W;cases W;exact⟨((bi aD ih.2 ih.1).2 (Kt.1 b)).1,by simp[b5]⟩
   |false=>rw[b] at W;cases W
 have ch:=ct q1 K;have hT:∀j u,t[j]? =some u->T (D.nh+j)=u:=fun j u q=>by
  have cf:=(tc.1 q).1;rw[hH j (by omega)];unfold Ac.res;rw[e1,e2,ch];simp[List.getD,q]
 refine⟨⟨by rw[e1,e2];exact⟨m,t,q1,K⟩,fun s N=>?_⟩,⟨t,q3,q4,hT⟩,fun b=>?_⟩
 .rw[e1,e2] at N;rw[e1];obtain⟨i1,i2⟩:=cj s N;exact Ih (bi s i2 i1).1
 .have cb:∀x,x∈D.fv\/(D.nh<=x/\x < aO)->T x=D.tab us t x:=fun x hx=>by
   have:=Mt (aC:=T) (A:=(Md D.fv us).upds D.nh t) a2 b4 (fun y hy=>?_) bl x hx
   .rw[Oj hE] at this;exact this
   .rcases hy with hy|hy
    .rw[GC _ _ _ _ (a2 y hy),<-bs];exact (MP D.fv y hy).symm
    .have q:y - D.nh < t.length:=by omega
     have C:=Ff t (Md D.fv us) D.nh (y - D.nh) t[y - D.nh] (tZ q);have O:=hT (y - D.nh) t[y - D.nh] (tZ q);rw[show D.nh+(y - D.nh)=y by omega] at C O;rw[C,O]
  have:pcB (D.tab us t) D.pcn=true:=by
   cases hc:D.pcn with
   |none=>rfl
   |some c=>
    rw[hc] at b b6;have ce:=EN b6 c (by simp[pcL]);rw[Kt];show D.tab us t c= .bool true;rw[<-cb c ce];exact b
  rw[al,this] at K;cases K
def X1:Op2->String
 | .add=> "add" | .sub=> "sub" | .mul=> "mul" | .div=> "div" | .mod=> "mod" | .tdiv=> "tdiv" | .tmod=> "tmod" | .min=> "min" | .max=> "max"
def qe:BinOp->String
 | .and=> "and" | .or=> "or" | .xor=> "xor" |_=> "andNot"
def tF:Opn->Tg
 | .take=> "take" | .drop=> "drop" | .sub=> "cut" | .slen=> "slen" | .sat=> "sat"
 | .id _=> "id" | .not=> "not" | .and=> "and" | .or=> "or" | .lt=> "lt" | .le=> "le" | .eq=> "eq" | .ne=> "ne"
 | .eqs _=> "eqs" | .nes _=> "nes" | .eqb=> "eqb" | .neb=> "neb" | .ite _=> "if" | .ifb=> "ifb"
 | .o2 o=>X1 o| .w2 k o=>D4 k++ " " ++X1 o| .wx k o=>D4 k++ " " ++X1 o| .w1 k=>D4 k++ " id" | .wneg k=>D4 k++ " neg" | .neg=> "neg" | .bits o k=>D4 k++ " " ++qe o
 | .len=> "len" | .app=> "app" | .get t c=>Ua (tyC t)++toString c| .mget t G c _=> "m" ++Ua (tyC t)++toString G++ " " ++toString c| .mhas G _=> "mhas " ++toString G| .mset G _=> "mset " ++toString G| .pick _=> "pick" | .row _ s _=> "row " ++toString s| .rset c _=> "rset " ++toString c| .rep _=> "rep"
 | .outI tg _=>tg| .outB tg _=>tg| .outL tg _=>tg| .outS tg _=>tg| .res _ D j=>D.tg j
def tJ:PO->Tg
 | .take=> "take" | .sub=> "cut" | .nez=> "nez" | .t=> "t" | .inr=> "in" | .inl=> "inl" | .ins=> "ins" | .btw ap Y=> "between " ++toString ap++ " " ++toString Y| .fits b=> "fits " ++toString b| .ready=> "ready" | .ne=> "ne" | .pre tg _=>tg| .owes D=>D.tg 0
def En.ex (e:En):Nat × Ex:=(e.x,⟨tF e.op,opF e.op,e.rs⟩)
def ObE.ob (o:ObE):Ob:=⟨o.pc,⟨tJ o.po,poF o.po,o.rs⟩⟩
def mkD (nh k:Nat)(y:List En)(pcn:Nat)(nxt:List Rf)(J:List ObE)(fv:List Nat):Ac:=
 {nh,k,eqs:=(y.map En.ex).reverse,pcn:=some pcn,nxt,obs:=J.map ObE.ob,fv }
def hds:Nat->List Ty->Bv
 |_,[]=>[]
 |x,t::ar=>(x,t)::hds (x+1) ar
def hdU (T:Tab):Nat->List Ty->List U
 |_,[]=>[]
 |x,t::ar=>uV T t x::hdU T (x+1) ar
def uOf:Ty->U->U
 | .i,u=> .int u.toI
 | .b,u=> .bool u.toB
 | .l,u=> .list u.toL
 | .r _,u=>u
 | .s,u=> .str u.toS
def TyU:List Ty->List U->Prop
 |[],[]=>True
 |t::ar,u::us=>(u=uOf t u/\noR t=true)/\TyU ar us
 |_,_=>False
def DN (fv:List Nat)(az:Bv):Bv:=az.filter fun p=>fv.contains p.1
section
variable {T:Tab}
theorem NC:∀{ar:List Ty} {rs:List Rf},ar.all noR=true->ar.length=rs.length->TyU ar (List.zipWith (uR T) ar rs)
 |[],[],_,_=>trivial
 |t::ar,r::rs,h0,h=>by
  simp only[List.all_cons,tV] at h0;exact⟨⟨by cases t<;>rfl,h0.1⟩,NC h0.2 (by simpa using h)⟩
 |[],_::_,_,h=>by simp at h
 |_::_,[],_,h=>by simp at h
theorem QH:∀{ar:List Ty} {us:List U} {x:Nat},TyU ar us->(∀j u,us[j]? =some u->T (x+j)=u)->AJ T (hds x ar)/\hdU T x ar=us
 |[],[],_,_,_=>⟨trivial,rfl⟩
 |t::ar,u::us,x,h,hT=>by
  obtain⟨C,O⟩:=QH (x:=x+1) h.2 fun j v s=>by
   have:=hT (j+1) v (by simpa using s);rw[show x+(j+1)=x+1+j by omega] at this;exact this
  have b:T.get x=u:=hT 0 u rfl;have e:u=uV T t x:=by
   have:=h.1.1;cases t<;>(simp only[uV,uR,iR,bR,lR,stR,Rf.eval];rw[show T x=u from b];try exact this)
  exact⟨⟨lD t (b.trans e) (fun c q=>by have:=h.1.2;rw[q] at this;cases this),C⟩,by simp only[hdU];rw[O,<-e]⟩
 |[],_::_,_,h,_=>h.elim
 |_::_,[],_,h,_=>h.elim
theorem CM {A:Tab}{fv:List Nat}(b:∀x∈fv,A.get x=T.get x):∀{az:Bv},AJ T az->AJ A (DN fv az)
 |[],_=>trivial
 |(x,t)::r,h=>by
  unfold DN;rw[List.filter_cons];split
  .rename_i s;have e:=b x (List.contains_iff_mem.1 s);refine⟨?_,CM b h.2⟩;cases t with
   |r c=>
    have C:ft T x c:=h.1;intro i;obtain⟨n,q⟩:=C i;exact⟨n,by unfold L at q⊢;rw[e];exact q⟩
   |_=>
    have C:=Sty.get h.1;show A.get x=_;rw[e,C];simp only[uV,uR,iR,bR,lR,stR,Rf.eval];rw[show A x=T x from e]
  .exact CM b h.2
theorem N4 (y:List En):GI (((y.map En.ex).reverse).reverse)=y.map En.be:=by
 rw[List.reverse_reverse];unfold GI;rw[List.map_map];rfl
theorem Z2 (J:List ObE):Iz (J.map ObE.ob)=J.map ObE.be:=by
 unfold Iz;rw[List.map_map];rfl
def NG (D:Ac)(args:List Rf):Nat->Nat->List BE
 |_,0=>[]
 |j,k+1=>(D.nh+j,D.res j,args)::NG D args (j+1) k
theorem Oi {D:Ac}{args:List Rf}:∀{k M:Nat},AU T (NG D args M k)->∀j,j < k->T (D.nh+(M+j))=D.res (M+j) (args.map (Rf.eval T))
 |0,_,_,j,hj=>by omega
 |k+1,M,h,j,hj=>by
  cases j with
  |zero=>exact h.1
  |succ j=>
   have:=Oi h.2 j (by omega);rw[show M+1+j=M+(j+1) by omega] at this;exact this
theorem Ax {az:Bv}{nh k pcn aO:Nat}{y:List En}{J:List ObE}{nxt H:List Rf}{fv:List Nat}{R:List Ty}(b3:(mkD nh k y pcn nxt J fv).inScope aO=true)(hn:H.length=k)(b1:nxt.length=k)(b2:R.length=k)(al:R.all noR=true)
  (O:AJ T az) (bx:Fi az R H=true) (bs:oP (hds nh R++DN fv az) y R nxt=true)
  (hB:AU T (y.map En.be)) (hH:AU T (NG (mkD nh k y pcn nxt J fv) (fv.map Rf.e++H) 0 k))
  (b:List U->Prop) (e:List U->Nat) (h0:b (List.zipWith (uR T) R H))
  (b4:∀A:Tab,(∀x∈fv,A.get x=T.get x)->AF A y->b (hdU A nh R)->
   IQ A J/\(B A pcn=true->b (List.zipWith (uR A) R nxt)/\e (List.zipWith (uR A) R nxt) < e (hdU A nh R))):
  (mkD nh k y pcn nxt J fv).owes ((fv.map Rf.e++H).map (Rf.eval T))/\AJ T (hds nh R)/\b (hdU T nh R)/\¬B T pcn=true:=by
 have hI:H.map (Rf.eval T)=List.zipWith (uR T) R H:=Bp O bx;have N:(fv.map Rf.e++H).map (Rf.eval T)=fv.map T.get++List.zipWith (uR T) R H:=by
  rw[ti,hI,List.map_map];rfl
 have C:=fun j (E:j < k)=>Oi hH j E;simp only[tj] at C;rw[N] at C;rw[N];have b7:=TR (D:=mkD nh k y pcn nxt J fv) (T:=T) (aO:=aO) (H:=List.zipWith (uR T) R H) b3 (by simp[hn,b2];rfl) b1 (fun j E=>C j E)
  (fun p K=>Ri (l:=((mkD nh k y pcn nxt J fv).eqs).reverse) (by rw[show (mkD nh k y pcn nxt J fv).eqs=(y.map En.ex).reverse from rfl,N4];exact hB) p (List.mem_reverse.2 K))
  (fun s=>TyU R s/\b s) e ⟨NC al (by omega),h0⟩ (fun A s aa ad bt W Y=>by
   obtain⟨i1,i2⟩:=Y;obtain⟨aD,q⟩:=QH i1 bt;rw[show (mkD nh k y pcn nxt J fv).eqs=(y.map En.ex).reverse from rfl,N4] at W;obtain⟨f1,f2⟩:=At (aD.append (CM ad O)) bs W;obtain⟨g1,ao⟩:=b4 A ad f1 (by rw[show hdU A nh R=s from q];exact i2);refine⟨by rw[show (mkD nh k y pcn nxt J fv).obs=J.map ObE.ob from rfl,Z2];exact He g1,fun K=>?_⟩;obtain⟨g3,M⟩:=ao (YW (ac:=some pcn) K);show (TyU R (nxt.map (Rf.eval A))/\b (nxt.map (Rf.eval A)))/\e (nxt.map (Rf.eval A)) < e s;rw[f2];rw[show hdU A nh R=s from q] at M;exact⟨⟨NC al (by omega),g3⟩,M⟩)
 obtain⟨q1,⟨t,⟨q2,q3⟩,q4,q5⟩,q6⟩:=b7;obtain⟨aD,q⟩:=QH q2 q5;exact⟨q1,aD,by rw[show hdU T nh R=t from q];exact q3,fun h=>q6 (Zs (ac:=some pcn) h)⟩
end
open Go
variable{T A:Tab}{R:List Ty}{x:Nat}
theorem HC {az:Bv}{nh k pcn aO:Nat}{y:List En}{J:List ObE}{nxt H:List Rf}{fv:List Nat}(b1:(mkD nh k y pcn nxt J fv).inScope aO=true)(hn:H.length=k)(bx:nxt.length=k)(b0:R.length=k)(al:R.all noR=true)
  (O:AJ T az) (bs:Fi az R H=true)
  (hB:AU T (y.map En.be)) (hH:AU T (NG (mkD nh k y pcn nxt J fv) (fv.map Rf.e++H) 0 k))
  (b:List U->Prop) (e:List U->Nat) (h0:b (List.zipWith (uR T) R H))
  (b2:∀A:Tab,(∀x∈fv,A.get x=T.get x)->AJ A (hds nh R++DN fv az)->AU A (y.map En.be)->b (hdU A nh R)->
   nxt.map (Rf.eval A)=List.zipWith (uR A) R nxt/\IQ A J/\(B A pcn=true->b (List.zipWith (uR A) R nxt)/\e (List.zipWith (uR A) R nxt) < e (hdU A nh R))):
  (mkD nh k y pcn nxt J fv).owes ((fv.map Rf.e++H).map (Rf.eval T))/\AJ T (hds nh R)/\b (hdU T nh R)/\¬B T pcn=true:=by
 have hI:H.map (Rf.eval T)=List.zipWith (uR T) R H:=Bp O bs;have N:(fv.map Rf.e++H).map (Rf.eval T)=fv.map T.get++List.zipWith (uR T) R H:=by
  rw[ti,hI,List.map_map];rfl
 have C:=fun j (E:j < k)=>Oi hH j E;simp only[tj] at C;rw[N] at C;rw[N];have b5:=TR (D:=mkD nh k y pcn nxt J fv) (T:=T) (aO:=aO) (H:=List.zipWith (uR T) R H) b1 (by simp[hn,b0];rfl) bx (fun j E=>C j E)
  (fun p K=>Ri (l:=((mkD nh k y pcn nxt J fv).eqs).reverse) (by rw[show (mkD nh k y pcn nxt J fv).eqs=(y.map En.ex).reverse from rfl,N4];exact hB) p (List.mem_reverse.2 K))
  (fun s=>TyU R s/\b s) e ⟨NC al (by omega),h0⟩ (fun A s aa ad bm W Y=>by
   obtain⟨i1,i2⟩:=Y;obtain⟨aD,q⟩:=QH i1 bm;rw[show (mkD nh k y pcn nxt J fv).eqs=(y.map En.ex).reverse from rfl,N4] at W;obtain⟨f2,g1,ao⟩:=b2 A ad (aD.append (CM ad O)) W (by rw[show hdU A nh R=s from q];exact i2);refine⟨by rw[show (mkD nh k y pcn nxt J fv).obs=J.map ObE.ob from rfl,Z2];exact He g1,fun K=>?_⟩;obtain⟨g3,M⟩:=ao (YW (ac:=some pcn) K);show (TyU R (nxt.map (Rf.eval A))/\b (nxt.map (Rf.eval A)))/\e (nxt.map (Rf.eval A)) < e s;rw[f2];rw[show hdU A nh R=s from q] at M;exact⟨⟨NC al (by omega),g3⟩,M⟩)
 obtain⟨q1,⟨t,⟨q2,q3⟩,q4,q5⟩,q6⟩:=b5;obtain⟨aD,q⟩:=QH q2 q5;exact⟨q1,aD,by rw[show hdU T nh R=t from q];exact q3,fun h=>q6 (Zs (ac:=some pcn) h)⟩
def XJ (D:Ac)(rs:List Rf):Nat->Nat->List Ty->List En
 |_,_,[]=>[]
 |j,x,t::ar=>⟨x,.res t D j,rs⟩::XJ D rs (j+1) (x+1) ar
def Ag (D:Ac)(R:List Ty)(rs:List Rf):List En:=XJ D rs 0 D.nh R
theorem Vi {T:Tab}{D:Ac}{rs:List Rf}:∀{R:List Ty} {j:Nat},AU T ((XJ D rs j (D.nh+j) R).map En.be)->AU T (NG D rs j R.length)
 |[],_,_=>trivial
 |_::_,_,h=>⟨h.1,Vi h.2⟩
theorem Ai {D:Ac}{rs:List Rf}(h:AU T ((Ag D R rs).map En.be)):AU T (NG D rs 0 R.length):=Vi (j:=0) h
theorem fvI (h:A.get x=T.get x):I A x=I T x:=by unfold I;rw[h]
theorem fvB (h:A.get x=T.get x):B A x=B T x:=by unfold B;rw[h]
theorem fvL (h:A.get x=T.get x):L A x=L T x:=by unfold L;rw[h]
theorem fvS (h:A.get x=T.get x):S A x=S T x:=by unfold S;rw[h]
abbrev k64:Kd:= .int .i64 IntKind.i64.min IntKind.i64.max
abbrev DK (x:Nat):AC:= .i .i64 IntKind.i64.min IntKind.i64.max x
end
section
open Go Go.RowKit
mutual
theorem KdU.up {B:Nat}(b:B<=AD):∀{k:Kd} {u:U},KdU B k u->KdU AD k u
 | .int _ _ _,_,h=>h
 | .bool,_,h=>h
 | .str,_,⟨s,e,h⟩=>⟨s,e,t8 h b⟩
 | .val,_,_=>trivial
 | .any,_,_=>trivial
 | .list _,_,⟨l,e,C,O⟩=>⟨l,e,t8 C b,fun i us Y=>AK.up b (O i us Y)⟩
theorem AK.up {B:Nat}(b:B<=AD):∀{ks:List Kd} {us:List U},AK B ks us->AK AD ks us
 |[],_,h=>h
 |_::_,_,⟨u,us',e,C,O⟩=>⟨u,us',e,KdU.up b C,AK.up b O⟩
end
def XS (B:Nat)(T:Tab):Nat->List Kd->Prop
 |_,[]=>True
 |x,.list _::ks=>(L T x).length<=B/\XS B T (x+1) ks
 |x,_::ks=>XS B T (x+1) ks
theorem cF {B:Nat}{T:Tab}:∀{ks:List Kd} {us:List U} {x:Nat},AK B ks us->(∀j u,us[j]? =some u->T (x+j)=u)->XS B T x ks
 |[],us,x,_,_=>trivial
 |k::ks,us,x,⟨u,us',e,C,O⟩,hT=>by
  subst e;have q:=cF (x:=x+1) O fun j v E=>by
   have:=hT (j+1) v (by simpa using E);rw[show x+(j+1)=x+1+j by omega] at this;exact this
  have b:T.get x=u:=hT 0 u rfl;cases k with
  |list aw=>
   obtain⟨n,s,y,_⟩:=C;rw[s] at b;exact⟨by rw[vL b];exact y,q⟩
  |_=>exact q
def gJ (n:Nat)(r:Option (AC × Mem × G)):Option (Nat × List BE × List BO):=
 match r with
 |some (.b x,_,g)=>if MQ n g then some (x,GI g.eqs.reverse,Iz g.obs) else none
 |_=>none
def ig (P:Program)(l:List (FuncId × AZ))(Aa:FuncId->DI)(aK a0:Nat)(f:FuncId)(as:List AC)(n:Nat):Option (AC × Mem × G):=
 FL P (KQ l) Aa aK a0 Ys.none f as none [] { n,eqs:=[],obs:=[] }
theorem ol {P:Program}{w:World}{B:Nat}{H:Type}{enc:TypeId × Value->H}{sp:Nat->Bool}{bd:Bool}{base:Nat}(s:B<=AD)(hm:P.follows .mixedOrders=true){l:List (FuncId × AZ)}(hl:∀p∈l,Ae P p.1 p.2){Aa:FuncId->DI}{aK a0 M:Nat}{f:FuncId}{ar:List TypeId}{as:List AC}{ks:List Kd}{x:Nat}{aw:List En}{os:List ObE}
  (a6:Jj P M ar 0=some (as,ks)) (b:gJ ks.length (ig P l Aa aK a0 f as ks.length)=some (x,aw.map En.be,os.map ObE.be))
  (bt:∀T:Tab,AJ T (Ak 0 ks)->Bnd T 0 ks->XS B T 0 ks->AU T (aw.map En.be)->IQ T os/\Go.Eng.B T x=true)
  {W:List Value} {ds:List (DataW H)} {ps:List MemPlace} (ht:DataW.TrodAll enc P w 0 sp bd ar W ds ps) (hv:∀(j:Nat) t v,ar[j]? =some t->W[j]? =some v->Value.okWide P w .any base t v) (aa:∀d∈ds,DZ B d):
  Calls P f (W:List Value).toArray w fun e K=>e= .returned (.bool true)/\Below w.heap.size w K:=by
 unfold gJ at b;split at b
 .rename_i x0 ad al hr;split at b
  .rename_i ba;injection b with b
   injection b with N b
   injection b with Y e2
   refine tA s hm hl a6 hr ba (fun T us J b5 hT bi=>?_) ht hv aa;have E:AU T (GI al.eqs.reverse):=NN fun p hp=>bi p (List.mem_reverse.1 hp);rw[Y] at E;have y:∀j u,us[j]? =some u->T (0+j)=u:=fun j u hj=>by rw[tj];exact hT j u hj
   obtain⟨i1,i2⟩:=TU (x:=0) (AK.up s J) y;obtain⟨C,O⟩:=bt T i1 i2 (cF J y) E;have q:=He C;rw[<-e2] at q;refine⟨Ih q,?_⟩;rw[N];exact Zs (ac:=some x) O
  .cases b
 .cases b
end
section
open Go
abbrev Knw:=List (Nat × Ty × Rf)
def look:Knw->Nat->Ty->Option Rf
 |[],_,_=>none
 |(y,t,r)::l,x,u=>bif Nat.beq y x&&Mo t u then some r else look l x u
inductive SE where
 |k (t:Ty) (r:Rf)
 |q (op:Opn) (rs:List Rf)
open Go
end
section
open Go
theorem AF.cut {T:Tab}{a b:List En}(h:AF T (a++b)):AF T a/\AF T b:=⟨h.left,h.right⟩
theorem zN:(∀(T:Tab) (x:Nat),bR T (.n x)= !B T x)/\(∀b:Bool,((!b)=true)=(b=false))/\(∀b:Bool,(¬b=true)=(b=false)):=
 ⟨fun T x=>bR_n,fun b=>Bool.not_eq_true' b,fun b=>Bool.not_eq_true b⟩
theorem zC:(∀(T:Tab) (b:Bool),bR T (.c (.bool b))=b)/\((false=true)=False)/\(∀{aZ:Sort 1} (a:aZ),(a=a)=True)/\(∀p:Prop,(p/\True)=p)/\(∀p:Prop,(p/\False)=False)/\(∀p:Prop,(p\/False)=p)/\(∀p:Prop,(False\/p)=p)/\(∀p:Prop,(True/\p)=p)/\(∀p:Prop,(False/\p)=False):=
 ⟨fun T b=>bR_c,uE,fun a=>eq_self a,and_true,and_false,or_false,false_or,true_and,false_and⟩
open Go
open Go
theorem zR:(∀(T:Tab) (x:Nat),iR T (.e x)=I T x)/\(∀(T:Tab) (n:Int),iR T (.c (.int n))=n):=
 ⟨fun T x=>iR_e,fun T n=>iR_c⟩
theorem zL:(∀(T:Tab) (x:Nat),lR T (.e x)=L T x)/\(∀T:Tab,lR T (.c (.list []))=[]):=
 ⟨fun T x=>lR_e,fun T=>lR_c⟩
theorem zS:(∀(T:Tab) (x:Nat),stR T (.e x)=S T x)/\(∀(T:Tab) (s:ByteArray),stR T (.c (.str s))=s):=
 ⟨fun T x=>tH,fun T s=>tC⟩
theorem zW:(∀(f:Ty->Rf->U) (a:Ty) (b:Rf) (l:List Ty) (r:List Rf),List.zipWith f (a::l) (b::r)=f a b::List.zipWith f l r)/\(∀(f:Ty->Rf->U) (r:List Rf),List.zipWith f [] r=[])/\(∀(a:U) (l:List U) (n:Nat),List.take (n+1) (a::l)=a::List.take n l)/\(∀l:List U,List.take 0 l=[])/\(∀(a:U) (l:List U) (n:Nat),List.drop (n+1) (a::l)=List.drop n l)/\(∀l:List U,List.drop 0 l=l):=
 ⟨fun _ _ _ _ _=>rfl,fun _ _=>rfl,fun _ _ _=>rfl,fun _=>rfl,fun _ _ _=>rfl,fun _=>rfl⟩
end
section
def Gk:List Int:=[10,9,8,7,6,6,5,5,4,4,3,3,3,2,2,2,1,1,1,1]
def ID:List Int->Int->Int
 |[],_=>0
 |a::l,n=>if n<=0 then a else ID l (n - 1)
def B5 (a b:Int)(e:Bool):Int:=
 if e=true then (if a < b then 20 - ID Gk (min ((b - a) / 100) 19) else ID Gk (min ((a - b) / 100) 19)) else 10
def GS (g:Int):Int:=if g<=0 then 2000 - 40*g else 2000 - 50*g
def Bz (x b:Int):Int:=min (max (x+b) (-10000)) 10000
def pU (x:Int):Nat->Int->Int
 |0,g=>g
 |n+1,g=>if GS (g - 1)<=x then pU x n (g - 1) else g
def upN (x:Int):Nat->Int->Int
 |0,g=>g
 |n+1,g=>if x<=GS (g+1) then upN x n (g+1) else g
def C6 (x g:Int):Int:=pU x (g+12).toNat g
def upG (x g:Int):Int:=upN x (48 - g).toNat g
def GG (x g:Int):Int:=upG x (C6 x g)
variable{x g:Int}
theorem lV (h: -12 < g)(O:GS (g - 1)<=x):C6 x g=C6 x (g - 1):=by
 unfold C6;rw[show (g+12).toNat=(g - 1+12).toNat+1 by omega];show (if _ then _ else _)=_;rw[vC O]
theorem il (h:¬(-12 < g/\GS (g - 1)<=x)):C6 x g=g:=by
 unfold C6;cases e:(g+12).toNat with
 |zero=>rfl
 |succ n=>
  show (if _ then _ else _)=_;rw[vA fun a=>h ⟨by omega,a⟩]
theorem pr (h:g < 48)(O:x<=GS (g+1)):upG x g=upG x (g+1):=by
 unfold upG;rw[show (48 - g).toNat=(48 - (g+1)).toNat+1 by omega];show (if _ then _ else _)=_;rw[vC O]
theorem qP (h:¬(g < 48/\x<=GS (g+1))):upG x g=g:=by
 unfold upG;cases e:(48 - g).toNat with
 |zero=>rfl
 |succ n=>
  show (if _ then _ else _)=_;rw[vA fun a=>h ⟨by omega,a⟩]
end
section
open Go Go.RowKit
variable{T:Tab}{V:Nat->Option Nat}{w Z:World}
theorem AH.below {n:Nat}(h:Below w.heap.size w Z):AH T n V [] w V [] Z where
 os:=h.os
 tape:=h.tape
 output:=h.output
 size:=h.size
 mlen:=fun _ h=>h
 rho:=fun id h=>by simp[Mem.at,Blk.ptrOk] at h
 untr:=fun _ _ h=>h
 fresh:=fun id b _ h _=>by simp[Mem.at,Blk.tracked] at h
 old:=fun k q _=>h.block k q
 tok:=fun id x ks e h=>by simp[Mem.at] at h
 row:=fun id x y ks e h=>by simp[Mem.at] at h
theorem AG.below {n ak:Nat}{ab:Nat->Option Nat}(q:AG T n V [] w)(h:Below w.heap.size w Z):AG T ak ab [] Z where
 blk:=fun id=>by simp[Mem.at,BJ]
 inj:=fun id s b h=>by simp[Mem.at,Blk.tracked] at h
 fr:=fun b off e=>q.fr b off (t8 h.size e)
theorem S8 {P:Program}{f:FuncId}{t:AZ}(J:t.blks=[])(N:t.m'=[])(M:∃aF,P.funcs[f]? =some aF/\aF.body.isSome=true/\(aF.name== "runtime.NumGoroutine")=false)
  (h:∀(T:Tab) (us:List U),us.length=t.n->(∀j u,(t.us us)[j]? =some u->T j=u)->(∀p∈t.pre,p.2 us)->∀ V w W,AB T t.n V [] w t.args W->
   Calls P f (W:List Value).toArray w fun e Z=>∃v,e= .returned v/\Below w.heap.size w Z/\AA T (t.n+t.outs.length) V [] Z t.c v) (Y:t.row=none:=by rfl):Ae P f t:=by
 refine⟨fun _=>⟨⟨0,[],.nil⟩, #[],.skip,.skip,[]⟩,fun T us _ K H O V w W s q=>⟨M,?_⟩⟩;have E:t.m=[]:=by unfold AZ.m;rw[Y,J];rfl
 rw[E] at s q⊢;rw[N];exact (h T us K H O V w W s).mono fun e Z ⟨v,y,b,C⟩=>⟨v, V,y,AH.below b,q.below b,C⟩
end
section
open Go Go.RowKit
open Go.ChangeMaps (setBlock)
section
variable {P:Program}{T:Tab}{n:Nat}{V :Nat->Option Nat}{m:Mem}{w Z:World}{a:Act}{l:Loc}{r:Option Nat}{ai:Nat}
theorem AH.off {k ak:Nat}{ab:Nat->Option Nat}{ad:Mem}(aa:AH T ak V m w ab ad Z)(s:k < w.heap.size)(e:∀id,(m.at id).tracked=true-> V id≠some k):∀id,(ad.at id).tracked=true-> ab id≠some k:=fun id q b=>by
 rcases aa.back q b with h|⟨C,O⟩
 .omega
 .exact e id C O
theorem DE.put {B D:Nat}{o:Obj}{ds:List Deferred}(h:DE B V m w ds)(K:∀x,w.heap[D]? ≠some (.deferred x)):DE B V m (w.putObj D o) ds:=by
 obtain⟨y,s,C,O,H⟩:=h;refine⟨by rw[World.putObj_size];exact y,s,C,O,fun q J=>?_⟩;obtain⟨M,b,E⟩:=H q J;exact⟨M,by rw[World.putObj_heap_other (fun e=>by subst e;exact K _ b)];exact b,E⟩
variable{o:Oper}{d:Tmp}{v:Value}{i:Nat}{Q:Exit->Act->World->Prop}{x:Operand}
theorem C5 (h:d < a.tmps.size):(a.put (some d) v).eval (.tmp d)=v:=by
 simp[Act.put,Act.eval,tf,h]
theorem C8 {i:Tmp}(h:i≠d):(a.put (some d) v).eval (.tmp i)=a.eval (.tmp i):=by
 simp[Act.put,Act.eval,tf,Array.getElem?_setIfInBounds_ne (Ne.symm h)]
theorem CF {d:Option Tmp}:(a.put d v).tmps.size=a.tmps.size:=by cases d<;>simp[Act.put]
theorem Rel.putNone (h:Rel T n V l a w)(hd:l.tmps.get d=none)(v:Value):Rel T n V l (a.put (some d) v) w:=by
 refine⟨h.defers,by rw[CF];exact h.size,fun i c b=>?_,h.mem⟩;have q:i≠d:=fun e=>by subst e;rw[hd] at b;cases b
 have:(a.put (some d) v).tmps.getD i undef=a.tmps.getD i undef:=C8 q;rw[this];exact h.tmps i c b
theorem Bk {J:Array Oper}{b:List Nat}(q:J[i]? =some o)(e:o.guard=none)(h:o.wpIn (fen r) ai P a w (wpOpsIn (fen r) ai P J Q b) Q):
  wpOpsIn (fen r) ai P J Q (i::b) a w:=by
 simp only[wpOpsIn,q];rw[vC (by simp[Region.wanted,e])];exact h
theorem Dt {K:Act->World->Prop}(e:∀c,o.op≠ .defer c)(h:(execOp a.eval o).run P w= .ok (.value v) Z)(b:K (a.put o.dst v) Z):o.wpIn (fen r) ai P a w K Q:=
 Hf e (by rw[h];exact b)
theorem SX (b:o.op= .move x):(execOp a.eval o).run P w= .ok (.value (a.eval x)) w:=by
 simp[execOp,b]
theorem Mr {W:Array Value}(b:o.op= .extract x i)(e:a.eval x= .tuple W)(Y:W[i]? =some v):(execOp a.eval o).run P w= .ok (.value v) w:=by
 simp[execOp,b,e,Instr.extract,Y]
theorem iV {t:TypeId}(b:o.op= .range t x)(h:(Instr.range t (a.eval x)).run P w= .ok v Z):(execOp a.eval o).run P w= .ok (.value v) Z:=by
 simp[execOp,b,h]
theorem Xi (b:o.op= .next x false)(h:(Instr.next (a.eval x) false o.type).run P w= .ok v Z):(execOp a.eval o).run P w= .ok (.value v) Z:=by
 simp[execOp,b,h]
theorem iB (b:o.op= .entry x)(h:(Instr.entry (a.eval x)).run P w= .ok v Z):(execOp a.eval o).run P w= .ok (.value v) Z:=by
 simp[execOp,b,h]
theorem DO.drew (T:Tab)(n:Nat)(V :Nat->Option Nat)(m:Mem)(B:Nat)(w:World)(e:AG T n V m w):DO T n V m B w w.drew:=
 ⟨rfl,rfl,rfl,rfl,fun _ _=>rfl,fun c v b=>AA.mono (AH.drawn T n V m w (w.drawn+1)) e (tY _) c v b,fun b=>b.drawn (w.drawn+1)⟩
end
structure RgP where
 di:Tmp
 dn:Tmp
 db:Tmp
 de:Tmp
 dv:Tmp
 bid:Nat
 bi:Nat
 i2:Nat
 i3:Nat
 o1:Oper
 o2:Oper
 o3:Oper
 o4:Oper
 l3:List Oper
 rest:Code
def RgP.ops3 (p:RgP):Array Oper:=(p.o3::p.o4::p.l3).toArray
def RgP.body (p:RgP):Code:= .seq (.region p.i2 [p.o1,p.o2].toArray false) (.seq (.cond (.tmp p.db) .skip (.exit p.bid)) (.block p.bi (.seq (.region p.i3 p.ops3 false) p.rest)))
structure RgP.Ok (p:RgP):Prop where
 o1:p.o1.op= .next (.tmp p.di) false/\p.o1.dst=some p.dn/\p.o1.guard=none
 o2:p.o2.op= .extract (.tmp p.dn) 0/\p.o2.dst=some p.db/\p.o2.guard=none
 o3:p.o3.op= .entry (.tmp p.di)/\p.o3.dst=some p.de/\p.o3.guard=none
 o4:p.o4.op= .extract (.tmp p.de) 1/\p.o4.dst=some p.dv/\p.o4.guard=none
def RgP.free (p:RgP)(t:AV):Bool:=[p.dn,p.db,p.de,p.dv].all fun d=>(t.get d).isNone&&Nat.blt d t.n&& !Nat.beq p.di d
theorem dK {p:RgP}{t:AV}(h:p.free t=true):∀d∈[p.dn,p.db,p.de,p.dv],t.get d=none/\d < t.n/\p.di≠d:=fun d hd=>by
 have:=uK.1 h d hd;rw[tV,tV] at this;exact⟨by simpa using this.1.1,by simpa using this.1.2,fun e=>by have O:=this.2;rw[(Dl _ _).2 e] at O;cases O⟩
section
variable {P:Program}{T:Tab}{n:Nat}{V :Nat->Option Nat}{w Z:World}{a:Act}{l:Loc}{ai:Nat}
theorem qF {p:RgP}(b:p.Ok){I aI q:Nat}{H:Array Nat}{aw:Array MapEntry}{Q:Exit->Act->World->Prop}
  (hf:p.free l.tmps=true) (W:Rel T n V l a w) (K:a.eval (.tmp p.di)= .pointer (some ⟨aI,0,none⟩))
  (hr:w.heap[aI]? =some (.mapIter (some I) q H q)) (hb:w.heap[I]? =some (.map aw q)) (ba:∀x∈aw.toList,x.born < q)
  (hK:(leftOf aw H).size=0->∀s,Rel T n V l s w->s.eval (.tmp p.db)= .bool false->Q .normal s w)
  (hE:∀e∈(leftOf aw H).toList,∀aJ,(aJ=w\/aJ=w.drew)->∀s,(∀M,Rel T n V l a M->Rel T n V l s M)->s.eval (.tmp p.db)= .bool true->s.eval (.tmp p.di)= .pointer (some ⟨aI,0,none⟩)->
   Q .normal s (setBlock aJ aI (.mapIter (some I) q (H.push e.born) q))):
  (Code.region p.i2 [p.o1,p.o2].toArray false).wpIn (fen none) ai P Q a w:=by
 have N:=dK hf;have y:=N p.dn (by simp);have E:=N p.db (by simp);have J:a.tmps.size=l.tmps.n:=W.size;refine wpIn_region ?_;show wpOpsIn (fen none) ai P [p.o1,p.o2].toArray Q [0,1] a w;refine Bk (o:=p.o1) rfl b.o1.2.2 ?_;rcases run_next_at (P:=P) w p.o1.type aI I q q H aw q hr hb ba (tY _) with⟨Y,C⟩|⟨e,he,aJ,bj,C⟩
 .refine Dt (by rw[b.o1.1];exact fun c h=>by cases h) (Xi b.o1.1 (by rw[K];exact C)) ?_;rw[b.o1.2.1];refine Bk (o:=p.o2) rfl b.o2.2.2 ?_;refine Dt (by rw[b.o2.1];exact fun c h=>by cases h) (Mr b.o2.1 (C5 (by rw[J];exact y.2.1)) (v:= .bool false) rfl) ?_;rw[b.o2.2.1];exact hK Y _ ((W.putNone y.1 _).putNone E.1 _) (C5 (by rw[CF,J];exact E.2.1))
 .refine Dt (by rw[b.o1.1];exact fun c h=>by cases h) (Xi b.o1.1 (by rw[K];exact C)) ?_;rw[b.o1.2.1];refine Bk (o:=p.o2) rfl b.o2.2.2 ?_;refine Dt (by rw[b.o2.1];exact fun c h=>by cases h) (Mr b.o2.1 (C5 (by rw[J];exact y.2.1)) (v:= .bool true) rfl) ?_;rw[b.o2.2.1];refine hE e he aJ bj _ (fun M O=>(O.putNone y.1 _).putNone E.1 _) (C5 (by rw[CF,J];exact E.2.1)) ?_;rw[C8 E.2.2,C8 y.2.2];exact K
def Sq:Kd->Bool| .int .. =>true| .bool=>true| .str=>true|_=>false
variable{aw:List MapEntry}{v:Value}{base:Nat}{au:List Nat}
theorem lh {ok M:Nat->Nat->Prop}{w Z:World}{k:Kd}{u:U}(h:Sq k=true)(b:AT ok w k u v):AT M Z k u v:=by
 cases k<;>first|exact b|cases h
def M8:List Kd->Nat->List AC
 |[],_=>[]
 |k::ks,n=>Ju k n::M8 ks (n+1)
def Qf (ks:List Kd)(aU:Bool)(n:Nat):AC:=if aU then .agg (M8 ks n) else (M8 ks n).headD .any
theorem Td {m:Mem}{ok:Nat->Nat->Prop}{aG:World}:∀{ks:List Kd} {us:List U} {W:List Value} {n0:Nat},ks.all Sq=true->AP ok aG ks us W->(∀j u,us[j]? =some u->T (n0+j)=u)->n0+ks.length<=n->AB T n V m w (M8 ks n0) W
 |[],_,_,_,_,h,_,_=>h.2
 |k::ks,_,_,n0,hk,⟨u,us',v,vs',e1,e2,C,O⟩,hT,hn=>by
  subst e1 e2;simp only[List.all_cons,tV] at hk;simp only[uJ] at hn;refine⟨v,vs',rfl,EY (by omega) ?_,Td hk.2 O (fun j e b=>?_) (by omega)⟩
  .rw[show T n0=u from hT 0 u rfl];exact lh hk.1 C
  .rw[show n0+1+j=n0+(j+1) by omega];exact hT (j+1) e (by simpa using b)
theorem ou {m:Mem}{ok:Nat->Nat->Prop}{aG:World}{ks:List Kd}{aU:Bool}{us:List U}{n0:Nat}(y:ks.all Sq=true)(h:Bw ok aG ks aU us v)(s:∀j u,us[j]? =some u->T (n0+j)=u)(E:n0+ks.length<=n):
  AA T n V m w (Qf ks aU n0) v:=by
 obtain⟨W,C,O⟩:=h;have b:=Td (n:=n) (V := V) (m:=m) (w:=w) y C s E;unfold Qf;cases aU with
 |true=>
  simp only[if_true] at O⊢;exact⟨W,O,b⟩
 |false=>
  simp only[uE,if_false] at O⊢;subst O;cases H:M8 ks n0 with
  |nil=>trivial
  |cons c av=>
   rw[H] at b;obtain⟨u,J,e,q,_⟩:=b;cases e;exact q
theorem lE (b:∀(i:Nat) (e:MapEntry),aw[i]? =some e->e.born=base+i):(aw.map (·.born)).Nodup:=by
 refine vE.2 fun i j Y q s=>?_;simp only[List.length_map] at Y q;simp only[List.getElem_map];rw[b i _ (tZ Y),b j _ (tZ q)];omega
theorem oc (b:∀(i:Nat) (e:MapEntry),aw[i]? =some e->e.born=base+i){e:MapEntry}(h:e∈(leftOf aw.toArray (au.map (base+ ·)).toArray).toList):
  ∃i,aw[i]? =some e/\i ∉ au/\e.born=base+i:=by
 simp only[leftOf,Array.toList_filter,List.mem_filter] at h;obtain⟨C,O⟩:=h;obtain⟨i,Y⟩:=uH.1 C;grind
theorem kK (q:∀(i:Nat) (e:MapEntry),aw[i]? =some e->e.born=base+i)(h:(leftOf aw.toArray (au.map (base+ ·)).toArray).size=0){i:Nat}(Y:i < aw.length):i∈au:=by
 have b:leftOf aw.toArray (au.map (base+ ·)).toArray= #[]:=Array.eq_empty_of_size_eq_zero h;unfold leftOf at b;rw[Array.filter_eq_empty_iff] at b;have C:=b aw[i] (by simp);rw[q i _ (tZ Y)] at C;simp at C;exact C
end
theorem Lk:∀(n:Nat) (au:List Nat),au.Nodup->(∀j∈au,j < n)->au.length<=n
 |0,au,_,h=>by
  cases au with
  |nil=>exact tY _
  |cons a l=>exact absurd (h a (tl ..)) (by omega)
 |n+1,au,hn,h=>by
  have C:=Lk n (au.erase n) (hn.erase n) (fun j b=>by
   have:=(hn.mem_erase_iff).1 b;have:=h j this.2;omega)
  rw[List.length_erase] at C;split at C<;>omega
structure Y3 (P:Program) (call:Au) (hint:DI) (ys:Ys) (fuel:Nat) (p:RgP) (pc:PC) (n1:Nat) (hd:Loc) (idr:Nat) (vk:List Kd) (va:Bool) (s1:RS) (pc2:PC) (l2:Loc) (g2:G) (z:Rf) (ps:List Pr) (fv:List Nat):Prop where
 di:hd.tmps.get p.di=some (.ptr idr 0)
 gone:hd.mem.at idr= .gone
 free:p.free hd.tmps=true
 flat:vk.all Sq=true
 steps:DL P call ys p.ops3 pc p.l3 ⟨hd.tmps.set p.dv (Qf vk va (n1+1)),hd.mem,⟨n1+1+vk.length,[],[],[]⟩,[]⟩=some s1
 code:Bj P call hint false ys fuel p.bi p.rest pc ⟨s1.tmps.commit hint.keep,s1.mem⟩ s1.g=some ([⟨.normal,pc2,l2⟩],g2)
 mat:ES [] n1 [z] hd l2=some ps
 scope:CK fv n1 (n1+1+vk.length) g2.n g2.eqs=true
 fvs:fv.all (fun x=>Nat.blt x n1)=true
 lps:g2.lps=[]
section
variable {P:Program}{call:Au}{aY:DI}{aj:Ys}{aK:Nat}{p:RgP}{ac:PC}{am:Nat}{hd:Loc}{bc:Nat}{aN:List Kd}{aU:Bool}{aD:RS}{bb:PC}{ae:Loc}{ao:G}{z:Rf}{ps:List Pr}{fv:List Nat}{ai:Nat}
theorem kV (hm:P.follows .mixedOrders=true)(ea:∀T,CL P T call)(e4:∀lp,Ce P lp aj)(hp:p.Ok)
  (E:Y3 P call aY aj aK p ac am hd bc aN aU aD bb ae ao z ps fv) {T:Tab} (et:pcv T ac) (ev:∀c,ac=some c->c < am)
  {l:List (List U)} {aw:List MapEntry} {base I aI J:Nat} (el:aw.length=l.length) (b8:∀(i:Nat) (e:MapEntry),aw[i]? =some e->e.born=base+i)
  (hz:∀(i:Nat) us e,l[i]? =some us->aw[i]? =some e->∃u1 u2 ok aG,us=u1++u2/\u1.length=J/\Bw ok aG aN aU u2 e.val)
  {F:List U->List (List U)}
  (hF:∀(N:Tab) (au:List Nat) (i:Nat) (us:List U) (s:List (List U)),By T N am->au.Nodup->(∀j∈au,j < l.length)->i ∉ au->l[i]? =some us->s=(au.map fun j=>l.getD j []).flatMap F->N am= .list s->
   (∀j u,(us.drop J)[j]? =some u->N (am+1+j)=u)->(∀q∈ao.eqs,N q.1=q.2.eval N)->(∀q∈ao.obs,q.holds N)/\(pcv N bb->(∀q∈ps,q.holds N)/\z.eval N= .list (s++F us)))
  {n0:Nat} {aT:Nat->Option Nat} {aM:Mem} {aG:World} (g1:AG T n0 aT aM aG) (g3:n0<=am) (hk:aG.heap.size<=aI)
  {Q:Exit->Act->World->Prop}
  (hQ:∀(au:List Nat) (s:List (List U)) M a1 aJ,au.Perm (List.range l.length)->s=(au.map fun j=>l.getD j []).flatMap F->Rel (T.upd am (.list s)) (am+1) M hd a1 aJ->AH (T.upd am (.list s)) n0 aT aM aG M hd.mem aJ->Q .normal a1 aJ):
  ∀(k:Nat) (au:List Nat) (s:List (List U)) M a1 aJ,l.length - au.length<=k->au.Nodup->(∀j∈au,j < l.length)->s=(au.map fun j=>l.getD j []).flatMap F->
   Rel (T.upd am (.list s)) (am+1) M hd a1 aJ->AH (T.upd am (.list s)) n0 aT aM aG M hd.mem aJ-> M bc=some aI->
   aJ.heap[aI]? =some (.mapIter (some I) (base+aw.length) (au.map (base+ ·)).toArray (base+aw.length))->aJ.heap[I]? =some (.map aw.toArray (base+aw.length))->
   (∀id,(hd.mem.at id).tracked=true-> M id≠some aI)->(∀id,(hd.mem.at id).tracked=true-> M id≠some I)->
   Code.roundsIn (fen none) ai P p.body (Exit.inBlock p.bid Q) (k+1) a1 aJ:=by
 have e5:∀u,By T (T.upd am u) am:=fun u=>⟨fun x K=>Ct _ _ (by omega),rfl,rfl⟩;intro k;induction k using Nat.strongRecOn with
 |_ k ih=>?_
 intro au s M a1 aJ hP c4 c3 c5 hR cf ei b1 bx g5 g6;rw[roundsIn_succ];have gk:a1.eval (.tmp p.di)= .pointer (some ⟨aI,0,none⟩):=by
  obtain⟨b,C,O,_⟩:=hR.tmps _ _ E.di;rw[ei] at C;cases C;exact O
 refine wpIn_seq (qF hp E.free hR gk b1 bx (fun x K=>?_) (fun h0 a' b5 hb=>?_) fun e he a6 e2 a' b5 hb gl=>?_)
 .obtain⟨i,Y⟩:=uH.1 K;have O:=(tc.1 Y).1;rw[b8 i x Y];have:i < aw.length:=O;omega
 .
  refine wpIn_seq (wpIn_cond_false hb (wpIn_exit ?_));show Exit.inBlock p.bid Q (.exit p.bid) a' aJ;simp only[Exit.inBlock,if_true];refine hQ au s M a' aJ ?_ c5 b5 cf;refine (List.perm_ext_iff_of_nodup c4 List.nodup_range).2 fun x=>⟨fun K=>List.mem_range.2 (c3 x K),fun K=>kK b8 h0 (by rw[el];exact List.mem_range.1 K)⟩
 .obtain⟨i,Y,er,f8⟩:=oc b8 he;have ej:i < l.length:=by rw[<-el];exact (tc.1 Y).1
  have eq:(au++[i]).Nodup:=by
   rw[List.nodup_append];exact⟨c4,by simp,fun x K y hy=>by simp at hy;subst hy;exact fun e=>er (e▸K)⟩
  have em:∀j∈au++[i],j < l.length:=fun j hj=>by
   rcases uY.1 hj with h|h
   .exact c3 j h
   .simp at h;subst h;exact ej
  have gd:=Lk l.length _ eq em;simp only[tq,uJ,ub] at gd;obtain⟨k',rfl⟩:∃k',k=k'+1:=⟨k - 1,by omega⟩;have ga:I < aJ.heap.size:=(te.1 bx).1;have e0:aI < aJ.heap.size:=(te.1 b1).1;have g4:I≠aI:=fun e=>by rw[e,b1] at bx;cases bx
  obtain⟨us,c7⟩:∃us,l[i]? =some us:=⟨_,tZ ej⟩;obtain⟨u1,u2,ok,wv,hx,hw,e1⟩:=hz i us e c7 Y;have gm:us.drop J=u2:=by rw[hx,<-hw];simp
  have hT:u2.length=aN.length:=by obtain⟨W,C,_⟩:=e1;have:=C.len;omega
  have d9:(T.upd am (.list s)) am= .list s:=ET _ _ _;have bi:By T (T.upd am (.list s)) am:=e5 _;have d6:(T.upd am (.list s)).base=T.base:=rfl;generalize T.upd am (.list s)=aC at hR cf b5 d9 bi d6;obtain⟨dk,dm,dn⟩:=Mb u2 aC (am+1);obtain⟨aL,dv,d0⟩:=FH ao.eqs (aC.upds (am+1) u2);have c1:∀q∈ao.eqs,(BS (aC.upds (am+1) u2) ao.eqs) q.1=q.2.eval (BS (aC.upds (am+1) u2) ao.eqs):=Er (fun x K=>by have:=uK.1 E.fvs x K;simpa using this) (by omega) E.scope;have bl:∀x,x < am+1->(BS (aC.upds (am+1) u2) ao.eqs) x=aC x:=fun x K=>by
   rw[(CJ (T:=aC.upds (am+1) u2) E.scope).2.2 x (.inl (by omega))];exact GC _ _ _ _ K
  have cy:∀j u,u2[j]? =some u->(BS (aC.upds (am+1) u2) ao.eqs) (am+1+j)=u:=fun j u hj=>by
   have hO:=(tc.1 hj).1;rw[(CJ (T:=aC.upds (am+1) u2) E.scope).2.2 _ (.inl (by omega))];exact Ff _ _ _ _ _ hj
  have b3:=aL.trans dk;have b4:=dv.trans dm;have cl:=d0.trans dn;clear dk dm dn aL dv d0;generalize BS (aC.upds (am+1) u2) ao.eqs=A at c1 bl cy b3 b4 cl;have cv:By aC A (am+1):=⟨bl,b3,b4⟩;have bt:By T A am:=⟨fun x K=>(bl x (by omega)).trans (bi.eq x K),b3.trans bi.fr,b4.trans bi.lp⟩;have f1:A.base=T.base:=cl.trans d6;obtain⟨ha,g2⟩:=hF A au i us s bt c4 c3 er c7 c5 ((bl am (by omega)).trans d9) (by rw[gm];exact cy) c1;have c6:pcv A ac:=by
   cases cc:ac with
   |none=>trivial
   |some c=>
    show A c= .bool true;rw[bt.eq c (ev c cc)];rw[cc] at et;exact et
  have d5:Agr A ao:=⟨c1,fun q hq=>by rw[E.lps] at hq;cases hq⟩;have d7:Aj A ao:=fun o ho=>ha o ho;have eo:AG A (am+1) M hd.mem aJ:=hR.mem.tab cv;have b6:=b5 aJ hR;have b7:Rel A (am+1) M hd a' aJ:=⟨by rw[cl];exact b6.defers,b6.size,fun i c hc=>AA.tab cv (fun b off h=>cv.safe b6.mem h) _ _ (b6.tmps i c hc),eo⟩;have bm:a6.heap=aJ.heap:=by rcases e2 with rfl|rfl<;>rfl
  have f0:DO A (am+1) M hd.mem aG.heap.size aJ a6:=by
   rcases e2 with rfl|rfl
   .exact DO.refl _ _ _ _ _ _
   .exact DO.drew _ _ _ _ _ _ eo
  have bs:DO A (am+1) M hd.mem aG.heap.size aJ (a6.putObj aI (.mapIter (some I) (base+aw.length) ((au.map (base+ ·)).toArray.push e.born) (base+aw.length))):=
   f0.trans (DO.put ⟨_,by rw[bm];exact b1,rfl⟩ hk (fun _ _ _ h=>by cases h))
  have c8:(a6.putObj aI (.mapIter (some I) (base+aw.length) ((au.map (base+ ·)).toArray.push e.born) (base+aw.length))).heap[aI]? =some (.mapIter (some I) (base+aw.length) ((au.map (base+ ·)).toArray.push e.born) (base+aw.length)):=
   World.putObj_heap_same (by rw[bm];exact e0)
  have c9:(a6.putObj aI (.mapIter (some I) (base+aw.length) ((au.map (base+ ·)).toArray.push e.born) (base+aw.length))).heap[I]? =some (.map aw.toArray (base+aw.length)):=by
   rw[World.putObj_heap_other g4,bm];exact bx
  have cs:Rel A (am+1) M hd a' (a6.putObj aI (.mapIter (some I) (base+aw.length) ((au.map (base+ ·)).toArray.push e.born) (base+aw.length))):=by
   refine⟨DE.put ?_ (fun x K=>?_),b7.size,fun i c hc=>bs.holds _ _ (b7.tmps i c hc),bs.mem b7.mem⟩
   .obtain⟨e8,Ds,d1,d2,fi⟩:=b7.defers;exact⟨by rw[bm];exact e8,Ds,d1,d2,fun D hD=>by rw[bm];exact fi D hD⟩
   .rw[bm,b1] at K;cases K
  show (Code.seq _ _).wpIn (fen none) ai P _ a' (a6.putObj aI _);generalize hU:a6.putObj aI (.mapIter (some I) (base+aw.length) ((au.map (base+ ·)).toArray.push e.born) (base+aw.length))=wn at bs c8 c9 cs⊢;have db:wn.heap.size=aJ.heap.size:=bs.size;refine wpIn_seq (wpIn_cond_true hb (wpIn_skip ?_));show (Code.block _ _).wpIn (fen none) ai P _ a' wn;refine wpIn_block (wpIn_seq (wpIn_region ?_));have hn:List.range p.ops3.size=0::1::List.range' 2 p.l3.length:=by
   simp[RgP.ops3,List.range_eq_range',List.range'_succ]
  rw[hn];have fr:=dK E.free;have f3:=fr p.de (by simp);have f4:=fr p.dv (by simp);have hu:a'.tmps.size=hd.tmps.n:=cs.size;refine Bk (o:=p.o3) (by simp[RgP.ops3]) hp.o3.2.2 ?_;refine Dt (by rw[hp.o3.1];exact fun c h=>by cases h) (iB hp.o3.1 (by
   rw[gl];exact run_entry_at wn aI I (base+aw.length) (au.map (base+ ·)).toArray aw.toArray (base+aw.length) e c8 c9 (by simpa using List.mem_of_getElem? Y) (by simpa using lE b8))) ?_
  rw[hp.o3.2.1];refine Bk (o:=p.o4) (by simp[RgP.ops3]) hp.o4.2.2 ?_;refine Dt (by rw[hp.o4.1];exact fun c h=>by cases h) (Mr hp.o4.1 (C5 (by rw[hu];exact f3.2.1)) (v:=e.val) rfl) ?_;rw[hp.o4.2.1];have hA:AA A (am+1+aN.length) M hd.mem wn (Qf aN aU (am+1)) e.val:=ou E.flat e1 cy (tY _);have hi:Rel A (am+1+aN.length) M ⟨hd.tmps.set p.dv (Qf aN aU (am+1)),hd.mem⟩ ((a'.put (some p.de) (.tuple #[e.key,e.val])).put (some p.dv) e.val) wn:=
   Rel.put (tmps:=hd.tmps) (m:=hd.mem) ((cs.putNone f3.1 _).up (Nat.le_add_right _ _)) (some p.dv) hA
  obtain⟨d3,hE⟩:=Jn (T:=A) (r:=none) (ai:=ai) (ea A) (e4 A.lp) E.steps;obtain⟨d4,hC⟩:=((KJ hm ea aY aK false aj A none ai p.bi p.rest (fun _=>rfl) (e4 _)).mono fun _ _ _ h=>Ql h) ac _ aD.g _ ao E.code;have ey:∀g:G,am<=g.n->Cu g ac:=fun g hg=>by
   cases cc:ac with
   |none=>trivial
   |some c=>exact td (ev c cc) hg
  have gp:am<=aD.g.n:=t8 (by show am<=am+1+aN.length;omega) d3.n;have hS:am+1+aN.length<=aD.g.n:=d3.n;obtain⟨hN,_,hI⟩:=hC d5 (ey _ gp);refine hE (d5.of d4) (d7.of d4) c6 ((ey ⟨am+1+aN.length,[],[],[]⟩ (by show am<=am+1+aN.length;omega)).ok c6) 2 M _ wn _ (fun j=>by simp[RgP.ops3,Nat.add_comm 2 j]) ⟨hi,fun e he=>by cases he⟩ fun aW a2 w2 gr b2=>?_;show p.rest.wpIn (fen none) ai P _ a2 w2;refine hI d7 c6 aW a2 w2 _ (Rel.less (l:=⟨aD.tmps,aD.mem⟩) gr.rel (AV.commit_n _ _) fun i c hc=>AV.get_commit _ _ _ hc) fun o ho hf de dj w3 ch hr=>?_;simp only[uT] at ho;subst ho;show Code.roundsIn (fen none) ai P p.body (Exit.inBlock p.bid Q) (k'+1) dj w3;obtain⟨hh,hB⟩:=g2 hf;have cu:=e5 (.list (s++F us));have f6:(T.upd am (.list (s++F us))) am= .list (s++F us):=ET _ _ _;have f2:(T.upd am (.list (s++F us))).base=T.base:=rfl;have eb:∀x,x < am->(T.upd am (.list (s++F us))) x=A x:=fun x K=>(cu.eq x K).trans (bt.eq x K).symm;have H:Ev A (T.upd am (.list (s++F us))) am (am+1) [z]:=fun j aI hj=>by
   cases j with
   |zero=>simp at hj;subst hj;exact⟨by omega,f6.trans hB.symm⟩
   |succ j=>simp at hj
  obtain⟨z1,z2,_⟩:=Gs (aC:=A) (A:=T.upd am (.list (s++F us))) E.mat (fun q hq=>by cases hq) (cu.fr.trans bt.fr.symm) (cu.lp.trans bt.lp.symm) (f2.trans f1.symm) eb (Nat.le_succ am) H hh hr;have en:AG aC n0 aT aM aG:=g1.tab ⟨fun x K=>bi.eq x (by omega),bi.fr,bi.lp⟩;have d8:By aC A n0:=⟨fun x K=>bl x (by omega),b3,b4⟩;have ca:AG A n0 aT aM aG:=en.tab d8;have hs:AH A n0 aT aM aG M hd.mem wn:=(AH.tab d8 en cf (fun id aA ah e' K=>bl _ (hR.mem.tok_lt K))).after ca bs;have ht:AH A n0 aT aM aG de ae.mem w3:=(hs.trans ca (by show n0<=am+1+aN.length;omega) b2).trans ca (by omega) ch;have off:∀k0,k0 < aJ.heap.size->(∀id,(hd.mem.at id).tracked=true-> M id≠some k0)->w3.heap[k0]? =wn.heap[k0]? /\∀id,(hd.mem.at id).tracked=true-> de id≠some k0:=fun k0 c2 es=>by
   have C:=b2.old k0 (by rw[db];exact c2) es;have O:=b2.off (by rw[db];exact c2) es;have ek:k0 < w2.heap.size:=td (by rw[db];exact c2) b2.size;have h3:=ch.old k0 ek O;have h4:=ch.off ek O;exact⟨h3.trans C,fun id hv=>h4 id (z2.tracked hv)⟩
  obtain⟨hl,g7⟩:=off aI e0 g5;obtain⟨f7,g8⟩:=off I ga g6;have ee:=b2.rho bc (by show (hd.mem.at bc).ptrOk=true;rw[E.gone];rfl);have gs:=ch.rho bc ee.2;refine ih k' (by omega) (au++[i]) (s++F us) de dj w3 (by simp only[tq,uJ,ub];omega) eq em ?_ z1 (AH.matched z2 eb g3 ca cf.mlen ht) (gs.1.trans (ee.1.trans ei)) ?_ (f7.trans c9) g7 g8
  .rw[c5];simp[c7]
  .rw[hl,c8];simp[f8]
end
section
variable {P:Program}{T:Tab}{n:Nat}{V :Nat->Option Nat}{m:Mem}{w Z:World}{a:Act}{l:Loc}
theorem hJ (s:AG T n V m w)(o:Obj):AH T n V m w (CI V m.length w.heap.size) (m++[.gone]) (w.alloc o)/\AG T n (CI V m.length w.heap.size) (m++[.gone]) (w.alloc o):=by
 have aa:=IJ s o .gone;refine⟨aa,⟨fun id=>?_,fun id K b e y H J=>?_,fun b off h=>s.fr b off (t8 aa.size h)⟩⟩
 .by_cases q:id=m.length
  .subst q;rw[AS,vC rfl];exact trivial
  .by_cases e:(m.at id).tracked=true
   .exact BJ.step aa s (tY _) (by rw[AS,vA q]) (Ao _ _ _ q) (fun b M=>BB w _ b (s.lt e M))
   .rw[AS,vA q];cases C:m.at id with
    |pad=>trivial
    |gone=>trivial
    |cells=>rw[C] at e;exact absurd rfl e
    |lp=>rw[C] at e;exact absurd rfl e
    |tok=>rw[C] at e;exact absurd rfl e
    |mrow=>rw[C] at e;exact absurd rfl e
    |mapb=>rw[C] at e;exact absurd rfl e
 .rw[AS] at e y;by_cases q:id=m.length
  .rw[vC q] at e;cases e
  .by_cases E:K=m.length
   .rw[vC E] at y;cases y
   .rw[vA q] at e;rw[vA E] at y;rw[Ao _ _ _ q] at H;rw[Ao _ _ _ E] at J;exact s.inj id K b e y H J
theorem Rel.tabB {A:Tab}(e:Rel T n V l a w)(S:By T A n)(q:A.base=T.base):Rel A n V l a w:=
 ⟨by rw[q];exact e.defers,e.size,fun i c s=>AA.tab S (fun b off h=>S.safe e.mem h) _ _ (e.tmps i c s),e.mem.tab S⟩
end
def T5 (X:Loc)(am:Nat)(y q b s:Tmp)(keep:Nat)(ks:List Kd)(e:TypeId):Option (Nat × Nat × List Kd × Bool × List Kd × Bool × Loc):=
 if X.tmps.loc.isEmpty&&(X.tmps.get q).isNone&&(X.tmps.get b).isNone&&Nat.blt q X.tmps.n&&Nat.blt b X.tmps.n then
  match X.tmps.get y with
  |some (.mv idm)=>match X.mem.at idm with
   | .mapb x ai ka aN aU=>
    match ((X.tmps.set b (.ptr X.mem.length 0)).commit keep).get s with
    |some (.cv .nilSlice)=>(Gf ⟨(X.tmps.set b (.ptr X.mem.length 0)).commit keep,((X.mem.set idm Blk.gone)++[Blk.gone])++[Blk.tok am ks e]⟩ ((X.mem.set idm Blk.gone)++[Blk.gone]).length am ks (.tmp s)).map fun hd=>(idm,x,ai,ka,aN,aU,hd)
    |_=>none
   |_=>none
  |_=>none
 else none
section
variable {P:Program}{call:Au}{aY:DI}{aj:Ys}{aK:Nat}{p:RgP}{ac:PC}{am:Nat}{hd X:Loc}{aN:List Kd}{aU:Bool}{aD:RS}{bb:PC}{ae:Loc}{ao:G}{z:Rf}{ps:List Pr}{fv:List Nat}{ai:Nat}
theorem nP (hm:P.follows .mixedOrders=true)(d0:∀T,CL P T call)(e4:∀lp,Ce P lp aj)(hp:p.Ok)
  {tm Y K:Tmp} {keep:Nat} {ks:List Kd} {e:TypeId} {b x:Nat} {b5:List Kd} {ka:Bool} (H:T5 X am tm Y p.di K keep ks e=some (b,x,b5,ka,aN,aU,hd))
  (E:Y3 P call aY aj aK p ac am hd X.mem.length aN aU aD bb ae ao z ps fv)
  {i1:Nat} {q1 q2:Oper} {mt kt et:TypeId} (bm:q1.op= .move (.tmp tm)/\q1.dst=some Y/\q1.guard=none) (bs:q2.op= .range mt (.tmp Y)/\q2.dst=some p.di/\q2.guard=none) (ee:P.underlying mt=some (.map kt et))
  {T:Tab} (em:pcv T ac) (en:∀c,ac=some c->c < am)
  {F:List U->List (List U)}
  (cs:∀(M:Tab) (au:List Nat) (i:Nat) (us:List U) (K:List (List U)),By T M am->(T x).toL.length<=AD->au.Nodup->(∀j∈au,j < (T x).toL.length)->i ∉ au->(T x).toL[i]? =some us->K=(au.map fun j=>(T x).toL.getD j []).flatMap F->M am= .list K->
   (∀j u,(us.drop b5.length)[j]? =some u->M (am+1+j)=u)->(∀q∈ao.eqs,M q.1=q.2.eval M)->(∀q∈ao.obs,q.holds M)/\(pcv M bb->(∀q∈ps,q.holds M)/\z.eval M= .list (K++F us)))
  {V :Nat->Option Nat} {a:Act} {w:World} (hR:Rel T am V X a w)
  {Q:Exit->Act->World->Prop}
  (hQ:∀(au:List Nat) (K:List (List U)) ρ1 a1 aJ,au.Perm (List.range (T x).toL.length)->K=(au.map fun j=>(T x).toL.getD j []).flatMap F->Rel (T.upd am (.list K)) (am+1) ρ1 hd a1 aJ->AH (T.upd am (.list K)) am V X.mem w ρ1 hd.mem aJ->Q .normal a1 aJ):
  (Code.seq (.region i1 [q1,q2].toArray false) (.block p.bid (.loop p.body))).wpIn (fen none) ai P Q a w:=by
 unfold T5 at H;split at H
 .rename_i hc;simp only[tV] at hc;obtain⟨⟨⟨⟨aL,c2⟩,c3⟩,c4⟩,c5⟩:=hc;split at H
  .rename_i fj d9;split at H
   .rename_i aA fr fn f0 fs b1;split at H
    .rename_i ei;simp only[uC] at H;obtain⟨e9,ey,H⟩:=H;cases H;have d2:X.tmps.get Y=none:=by simpa using c2
     have fd:X.tmps.get p.di=none:=by simpa using c3
     have d3:Y < X.tmps.n:=by simpa using c4
     have fi:p.di < X.tmps.n:=by simpa using c5
     obtain⟨I,b8,cb,_⟩:=hR.tmps _ _ d9;have cc:=hR.mem.blk b;rw[b1] at cc;obtain⟨hx,lr,b',aw,a6,dm,ca,b3,d7,ea,d4,base,d1,dv⟩:=cc;rw[b8] at ca;cases ca;subst d1;have dk:(T x).toL=lr:=by rw[dm];rfl
     rw[dk] at cs hQ;have dn:I < w.heap.size:=(te.1 b3).1;have ev:a.tmps.size=X.tmps.n:=hR.size;refine wpIn_seq (wpIn_region ?_);show wpOpsIn (fen none) ai P [q1,q2].toArray _ [0,1] a w;refine Bk (o:=q1) rfl bm.2.2 (Dt (by rw[bm.1];exact fun c h=>by cases h) (SX bm.1) ?_);rw[bm.2.1];refine Bk (o:=q2) rfl bs.2.2 (Dt (by rw[bs.1];exact fun c h=>by cases h) (iV bs.1 (by
      rw[C5 (by rw[ev];exact d3),show a.eval (.tmp tm)= .map (some I) from cb];exact run_range_map w mt kt et I aw.toArray (base+aw.length) ee b3)) ?_)
     rw[bs.2.1];rw[show a.eval (.tmp tm)= .map (some I) from cb];show (Code.block p.bid (.loop p.body)).wpIn (fen none) ai P Q _ (w.alloc (.mapIter (some I) (base+aw.length) #[] (base+aw.length)));have di:By T (T.upd am (.list [])) am:=⟨fun x hx=>Ct _ _ (by omega),rfl,rfl⟩;have dj:(T.upd am (.list [])) am= .list []:=ET _ _ _;have bi:Rel (T.upd am (.list [])) am V X a w:=hR.tabB di rfl;have ch:X.mem.at b≠ .pad:=by rw[b1];exact fun h=>by cases h
     have cj:∀id,Cj (T.upd am (.list [])) am am w (X.mem.at id) (Mem.at (X.mem.set b Blk.gone) id):=fun id=>by
      rw[Dn _ _ _ _ ch];split
      .exact .gone _
      .exact Cj.refl (tY _) _
     have eq:=FU bi.mem cj;have eb:=OD bi.mem (tY _) cj;obtain⟨er,cf⟩:=hJ eb (.mapIter (some I) (base+aw.length) #[] (base+aw.length));have bl:(X.mem.set b Blk.gone).length=X.mem.length:=ud;have b4:=eq.trans bi.mem (tY _) er;rw[bl] at b4 cf;have c9:Rel (T.upd am (.list [])) am (CI (CC X.mem V) X.mem.length w.heap.size) ⟨X.tmps,(X.mem.set b Blk.gone)++[Blk.gone]⟩ a (w.alloc (.mapIter (some I) (base+aw.length) #[] (base+aw.length))):=
      Rel.on (tmps:=X.tmps) (m:=X.mem) bi b4 (tY _) cf
     have ce:(CI (CC X.mem V) X.mem.length w.heap.size) X.mem.length=some w.heap.size:=Ap _ _ _;have eo:AA (T.upd am (.list [])) am (CI (CC X.mem V) X.mem.length w.heap.size) ((X.mem.set b Blk.gone)++[Blk.gone]) (w.alloc (.mapIter (some I) (base+aw.length) #[] (base+aw.length))) (.ptr X.mem.length 0) (.pointer (some ⟨w.heap.size,0,none⟩)):=
      ⟨w.heap.size,ce,rfl,by
       have:Mem.at ((X.mem.set b Blk.gone)++[Blk.gone]) X.mem.length= .gone:=by rw[<-bl,AS,vC rfl]
       rw[this];rfl⟩
     have db:=Rel.put (c9.putNone (d:=Y) d2 (.map (some I))) (some p.di) eo;have dd:Rel (T.upd am (.list [])) am (CI (CC X.mem V) X.mem.length w.heap.size) ⟨(X.tmps.set p.di (.ptr X.mem.length 0)).commit keep,(X.mem.set b Blk.gone)++[Blk.gone]⟩ ((a.put (some Y) (.map (some I))).put (some p.di) (.pointer (some ⟨w.heap.size,0,none⟩))) (w.alloc (.mapIter (some I) (base+aw.length) #[] (base+aw.length))):=
      Rel.less (l:=⟨X.tmps.set p.di (.ptr X.mem.length 0),(X.mem.set b Blk.gone)++[Blk.gone]⟩) db (AV.commit_n _ _) fun i c hc=>AV.get_commit _ _ _ hc
     obtain⟨_,_, cx,de,bt⟩:=VZ (T:=T.upd am (.list [])) (n:=am) (l:=⟨(X.tmps.set p.di (.ptr X.mem.length 0)).commit keep,(X.mem.set b Blk.gone)++[Blk.gone]⟩) (s:= .tmp K) rfl dj ei ey dd;have es:AH (T.upd am (.list [])) am V X.mem w cx hd.mem _:=b4.trans bi.mem (tY _) bt;have d5:=bt.rho X.mem.length (by
      have:Mem.at ((X.mem.set b Blk.gone)++[Blk.gone]) X.mem.length= .gone:=by rw[<-bl,AS,vC rfl]
      show (Mem.at ((X.mem.set b Blk.gone)++[Blk.gone]) X.mem.length).ptrOk=true;rw[this];rfl)
     have cv:∀id,(Mem.at ((X.mem.set b Blk.gone)++[Blk.gone]) id).tracked=true->id≠X.mem.length/\id≠b/\(X.mem.at id).tracked=true:=fun id y=>by
      rw[AS,bl] at y;by_cases N:id=X.mem.length
      .rw[vC N] at y;cases y
      .rw[vA N,Dn _ _ _ _ ch] at y;by_cases b2:id=b
       .rw[vC b2] at y;cases y
       .rw[vA b2] at y;exact⟨N,b2,y⟩
     have cu:∀id,id≠X.mem.length->(X.mem.at id).tracked=true->(CI (CC X.mem V) X.mem.length w.heap.size) id= V id:=fun id N y=>by
      rw[Ao _ _ _ N];exact CS (fun h=>by rw[h] at y;cases y)
     have ci:(w.alloc (.mapIter (some I) (base+aw.length) #[] (base+aw.length))).heap.size=w.heap.size+1:=by simp
     have ej:=bt.off (k:=w.heap.size) (by rw[ci];exact Nat.lt_succ_self _) fun id y N=>by
      obtain⟨C,O,h3⟩:=cv id y;rw[cu id C h3] at N;exact absurd (hR.mem.lt h3 N) (Nat.lt_irrefl _)
     have ek:=bt.off (k:=I) (by rw[ci];omega) fun id y N=>by
      obtain⟨C,O,h3⟩:=cv id y;rw[cu id C h3] at N;exact O (hR.mem.inj id b I h3 (by rw[b1];rfl) N b8)
     refine wpIn_block (wpIn_loop_rounds (lr.length+1) ?_);exact kV hm d0 e4 hp E em en (l:=lr) (aw:=aw) (base:=base) (I:=I) (aI:=w.heap.size) (J:=b5.length) d7 dv (fun i us e C O=>by
       obtain⟨u1,u2,e1,⟨W,e2,_⟩,e3⟩:=d4 i us e C O;exact⟨u1,u2,_,_,e1,e2.len.2,e3⟩)
      (fun M au i us K C=>cs M au i us K C ea) hR.mem (tY _) (tY _) hQ lr.length [] [] cx _ _ (Nat.sub_le _ _) List.nodup_nil (fun j hj=>by cases hj) rfl de es (d5.1.trans ce) (heap_alloc_new _ _) ((heap_alloc_old _ _ dn).trans b3) ej ek
    .cases H
   .cases H
  .cases H
 .cases H
end
end
section
open Go Go.RowKit
def Rn:Nat->Code->List Code × Code
 |n+1,.seq a b=>(a::(Rn n b).1,(Rn n b).2)
 |_,c=>([],c)
def eR:List Code->Code->Code
 |[],c=>c
 |a::l,c=> .seq a (eR l c)
def NS (run:Code->PC->Loc->G->Option (List BA × G)):List Code->PC->Loc->G->Option (PC × Loc × G)
 |[],ac,l,g=>some (ac,l,g)
 |c::av,ac,l,g=>match run c ac l g with
  |some ([⟨.normal,pc',af⟩],al)=>NS run av pc' af al
  |_=>none
theorem Vs {P:Program}{T:Tab}{ai:Nat}{run:Code->PC->Loc->G->Option (List BA × G)}(Y:∀c,Cf T (fun Q a w=>c.wpIn (fen none) ai P Q a w) (run c)):∀{av:List Code} {ac e:PC} {l af:Loc} {g al:G},
  NS run av ac l g=some (e,af,al)->AX g al/\(Agr T al->Cu g ac->Cu al e/\(Aj T al->pcv T ac->∀ V a w b Q,Rel T g.n V l a w->AG T g.n V l.mem w->
   (pcv T e->∀ ab J Z,AH T g.n V l.mem w ab af.mem Z->Rel T al.n ab af J Z->b.wpIn (fen none) ai P Q J Z)->(eR av b).wpIn (fen none) ai P Q a w))
 |[],ac,e,l,af,g,al,h=>by
  simp only[NS] at h;cases h;exact⟨AX.refl _,fun _ C=>⟨C,fun _ H V a w b Q y _ s=>s H V a w (AH.refl _ _ _ _ _) y⟩⟩
 |c::av,ac,e,l,af,g,al,h=>by
  simp only[NS] at h;split at h
  .rename_i b6 X g1 hr;obtain⟨M,k1⟩:=Y c ac l g _ g1 hr;obtain⟨q,E⟩:=Vs Y h;refine⟨M.trans q,fun N C=>?_⟩;obtain⟨q1,_,q3⟩:=k1 (N.of q) C;obtain⟨p1,p2⟩:=E N (q1.each _ (uT.2 rfl)).1;refine⟨p1,fun W H V a w b Q y hm s=>wpIn_seq (q3 (W.of q) H V a w _ y fun o hx bl b5 K aJ bs O=>?_)⟩;simp only[uT] at hx;subst hx;show (eR av b).wpIn (fen none) ai P Q K aJ;exact p2 W bl b5 K aJ b Q O O.mem fun bj aW a2 w2 bt ba=>s bj aW a2 w2 (bs.trans hm M.n bt) ba
  .cases h
structure RgC where
 pre:List Code
 i1:Nat
 q1:Oper
 q2:Oper
 tm:Tmp
 dm:Tmp
 out:Tmp
 mt:TypeId
 kt:TypeId
 et:TypeId
 ks:List Kd
 e:TypeId
 p:RgP
 post:Code
def RgC.code (c:RgC):Code:=eR c.pre (.seq (.seq (.region c.i1 [c.q1,c.q2].toArray false) (.block c.p.bid (.loop c.p.body))) c.post)
structure RgC.Ok (P:Program) (c:RgC):Prop where
 p:c.p.Ok
 q1:c.q1.op= .move (.tmp c.tm)/\c.q1.dst=some c.dm/\c.q1.guard=none
 q2:c.q2.op= .range c.mt (.tmp c.dm)/\c.q2.dst=some c.p.di/\c.q2.guard=none
 mt:P.underlying c.mt=some (.map c.kt c.et)
structure RgO where
 pc:PC
 l1:Loc
 g1:G
 x:Nat
 kks:List Kd
 vk:List Kd
 va:Bool
 hd:Loc
 s1:RS
 pc2:PC
 l2:Loc
 g2:G
 zx:Nat
 ps:List Pr
 fv:List Nat
 outs:List BA
 g3:G
 c0:AC
 m0:Mem
 g4:G
def W4 (P:Program)(call:Au)(aY:DI)(aj:Ys)(aK:Nat)(c:RgC)(aF:Func)(args:List AC)(m:Mem)(n:Nat):Option RgO:=do
 let (ac,X,g1) <-NS (Bj P call aY false aj aK 0) c.pre none ⟨Gw aF.ntmps args,m⟩ ⟨n,[],[],[]⟩;let (_,x,kks,_,aN,aU,hd) <-T5 X g1.n c.tm c.dm c.p.di c.out aY.keep c.ks c.e;let aD<-DL P call aj c.p.ops3 ac c.p.l3 ⟨hd.tmps.set c.p.dv (Qf aN aU (g1.n+1)),hd.mem,⟨g1.n+1+aN.length,[],[],[]⟩,[]⟩
 match Bj P call aY false aj aK c.p.bi c.p.rest ac ⟨aD.tmps.commit aY.keep,aD.mem⟩ aD.g with
 |some ([⟨.normal,bb,ae⟩],ao)=>
  match ae.tmps.get c.out,hd.tmps.get c.p.di,hd.mem.at X.mem.length with
  |some (.vec _ zx _),some (.ptr bc 0),.gone=>do
   let ps<-ES [] g1.n [.e zx] hd ae;let fv:=(PQ g1.n ao.eqs bb [.e zx] []);let (M,g3) <-Bj P call aY false aj aK 0 c.post ac hd ⟨g1.n+1,[],[],[]⟩;let (aP,aM,g4) <-Cm (JU P aF) M g3
   if Nat.beq bc X.mem.length&&c.p.free hd.tmps&&aN.all Sq&&CK fv g1.n (g1.n+1+aN.length) ao.n ao.eqs&&fv.all (fun x=>Nat.blt x g1.n)&&ao.lps.isEmpty&&MQ n g1&&g1.lps.isEmpty&&CK [] 0 (g1.n+1) g4.n g4.eqs&&g4.lps.isEmpty&&Nat.ble args.length aF.ntmps&&Nat.blt x g1.n then
    some ⟨ac,X,g1,x,kks,aN,aU,hd,aD,bb,ae,ao,zx,ps,fv,M,g3,aP,aM,g4⟩
   else none
  |_,_,_=>none
 |_=>none
structure jf (P:Program) (call:Au) (hint:DI) (ys:Ys) (fuel:Nat) (c:RgC) (fn:Func) (args:List AC) (m:Mem) (n:Nat) (o:RgO):Prop where
 parts:NS (Bj P call hint false ys fuel 0) c.pre none ⟨Gw fn.ntmps args,m⟩ ⟨n,[],[],[]⟩=some (o.pc,o.l1,o.g1)
 head:∃idm ka,T5 o.l1 o.g1.n c.tm c.dm c.p.di c.out hint.keep c.ks c.e=some (idm,o.x,o.kks,ka,o.vk,o.va,o.hd)
 round:Y3 P call hint ys fuel c.p o.pc o.g1.n o.hd o.l1.mem.length o.vk o.va o.s1 o.pc2 o.l2 o.g2 (.e o.zx) o.ps o.fv
 post:Bj P call hint false ys fuel 0 c.post o.pc o.hd ⟨o.g1.n+1,[],[],[]⟩=some (o.outs,o.g3)
 fin:Cm (JU P fn) o.outs o.g3=some (o.c0,o.m0,o.g4)
 ok1:MQ n o.g1=true
 lps1:o.g1.lps=[]
 ok4:CK [] 0 (o.g1.n+1) o.g4.n o.g4.eqs=true
 lps4:o.g4.lps=[]
 args:args.length<=fn.ntmps
 x:o.x < o.g1.n
theorem gj {P:Program}{call:Au}{aY:DI}{aj:Ys}{aK:Nat}{c:RgC}{aF:Func}{args:List AC}{m:Mem}{n:Nat}{o:RgO}(h:W4 P call aY aj aK c aF args m n=some o):jf P call aY aj aK c aF args m n o:=by
 unfold W4 at h;simp only[tX,tU] at h;obtain⟨⟨ac,X,g1⟩,C,⟨bs,x,b3,ka,aN,aU,hd⟩,O,aD,e,h⟩:=h;simp only at h O e;split at h
 .rename_i bb ae ao h4;split at h
  .rename_i y zx b4 bc h5 h6 h7;simp only[tU] at h;obtain⟨ps,h8,⟨M,g3⟩,h9,⟨aP,aM,g4⟩,b,h⟩:=h;simp only at h b;split at h
   .rename_i q;simp only[tV] at q;obtain⟨⟨⟨⟨⟨⟨⟨⟨⟨⟨⟨s,K⟩,N⟩,W⟩,Y⟩,d6⟩,d7⟩,d8⟩,d9⟩,E⟩,H⟩,J⟩:=q;cases h;have bm:=tW s;subst bm;exact⟨C,⟨bs,ka,O⟩,⟨h6,h7,K,N,e,h4,h8,W,Y,by simpa using d6⟩,h9,b,d7,by simpa using d8,d9,by simpa using E,uF H,by simpa using J⟩
   .cases h
  .cases h
 .cases h
theorem RW {aC A:Tab}{ap n:Nat}(h:∀x,x < n->A x=aC x):∀{s:List (Nat × Ex)} {aO:Nat},aO<=n->CK [] 0 ap aO s=true->(∀p∈s,aC p.1=p.2.eval aC)->∀p∈s,A p.1=p.2.eval A
 |[],_,_,_,_,p,b=>by cases b
 |(x,e)::r,aO,ht,aa,he,p,b=>by
  simp only[CK,tV] at aa;have J:=tW aa.1.1;cases b with
  |head=>
   have C:=he (x,e) (tl ..);simp only at C⊢;rw[h x (by omega),C];refine Rw fun y H=>?_;rcases EN aa.1.2 y H with q|q
   .cases q
   .exact (h y (by omega)).symm
  |tail _ b=>exact RW h (aO:=x) (by omega) aa.2 (fun q E=>he q (th _ E)) p b
section
variable {P:Program}{f:FuncId}{t:AZ}{bf:FuncId->Option Au}{Aa:FuncId->DI}{aK a0:Nat}{c:RgC}{aF:Func}{o:RgO}{rs:List Rf}{a8 be:List Pr}{F:List U->List (List U)}
theorem eT (hm:P.follows .mixedOrders=true)(e9:∀f c,bf f=some c->∀T,∀aj k args ac m g aV ad al,k=f->Ce P T.lp aj->c aj k args ac m g=some (aV,ad,al)->AX g al/\(Agr T al->Aj T al->pcv T ac->BK T g ac->∀ V w W,AB T g.n V m w args W->AG T g.n V m w->
   (∃aF,P.funcs[k]? =some aF/\aF.body.isSome=true/\(aF.name== "runtime.NumGoroutine")=false)/\Calls P k (W:List Value).toArray w (GY T g V m w aV ad al)))
  (hc:c.Ok P) (dv:P.funcs[f]? =some aF) (dn:aF.body=some c.code) (f5:(aF.name== "runtime.NumGoroutine")=false)
  (S:jf P (FL P bf Aa aK a0) (Aa f) { Ys.none with mu:=(Aa f).mu } aK c aF t.args t.m t.n o)
  (gr:rs.length=t.outs.length) (f1:Gq [] t.n t.m'.length rs t.m' o.m0 t.m' o.m0=some a8) (f2:ND t.n t.m'.length rs t.m' o.m0 t.c o.c0=some be) (f7:∀id,id < t.m.length->t.m'.at id≠ .pad)
  (db:∀(T:Tab) (us:List U),us.length=t.n->NV t.ks us->(∀p∈t.pre,p.2 us)->(∀j u,us[j]? =some u->T j=u)->(∀p∈o.g1.eqs,T p.1=p.2.eval T)->Aj T o.g1/\
   (pcv T o.pc->
    (∀(au:List Nat) (i:Nat) (r:List U) (a1:List (List U)),(T o.x).toL.length<=AD->au.Nodup->(∀j∈au,j < (T o.x).toL.length)->i ∉ au->(T o.x).toL[i]? =some r->a1=(au.map fun j=>(T o.x).toL.getD j []).flatMap F->T o.g1.n= .list a1->
     (∀j u,(r.drop o.kks.length)[j]? =some u->T (o.g1.n+1+j)=u)->(∀q∈o.g2.eqs,T q.1=q.2.eval T)->(∀q∈o.g2.obs,q.holds T)/\(pcv T o.pc2->(∀q∈o.ps,q.holds T)/\T o.zx= .list (a1++F r)))/\
    (∀(au:List Nat),au.Perm (List.range (T o.x).toL.length)->T o.g1.n= .list ((au.map fun j=>(T o.x).toL.getD j []).flatMap F)->(∀q∈o.g4.eqs,T q.1=q.2.eval T)->Aj T o.g4/\(∀p∈a8++be,p.holds T)/\rs.map (Rf.eval T)=t.outs.map fun q=>q.2 us))):Ae P f t:=by
 refine⟨fun _=>SD,fun T us ho cb hT c6 V w W c7 b6=>⟨⟨aF,dv,by rw[dn];rfl,f5⟩,?_⟩⟩;have b2:=HS (Aa:=Aa) (aK:=aK) hm e9 a0;have cf:∀lp,Ce P lp { Ys.none with mu:=(Aa f).mu }:=fun lp M _ s y hy=>by cases hy
 have bj:=S.ok1;unfold MQ at bj;rw[tV] at bj;have d2:∀j u,us[j]? =some u->T j=u:=fun j u hj=>hT j u (by unfold AZ.us;rw[tv (tc.1 hj).1];exact hj);have c2:NV t.ks us:=cU d2 c7 b6;obtain⟨ax,aE,r3⟩:=FH o.g1.eqs T;have b5:∀x,x < t.n->BS T o.g1.eqs x=T x:=fun x H=>(CJ (T:=T) bj.1).2.2 x (.inl H);have b4:∀p∈o.g1.eqs,BS T o.g1.eqs p.1=p.2.eval (BS T o.g1.eqs):=Er (fv:=[]) (nh:=0) (fun x H=>by cases H) (uQ _) bj.1;generalize BS T o.g1.eqs=Tp at ax aE r3 b5 b4;have f4:t.n<=o.g1.n:=(CJ (T:=T) bj.1).1;have cx:∀M:Tab,(∀x,x < o.g1.n->M x=Tp x)->(∀j u,us[j]? =some u->M j=u)/\(∀p∈o.g1.eqs,M p.1=p.2.eval M):=fun M h=>⟨fun j u hj=>by
  have:=(tc.1 hj).1;rw[h j (by omega),b5 j (by omega)];exact d2 j u hj,RW h (tY _) bj.1 b4⟩
 have eb:∀M:Tab,(∀x,x < o.g1.n->M x=Tp x)->Cu o.g1 o.pc->(pcv M o.pc↔pcv Tp o.pc):=fun M h hp=>by
  cases c5:o.pc with
  |none=>exact Iff.rfl
  |some x=>
   rw[c5] at hp;show M x= .bool true↔Tp x= .bool true;rw[h x hp]
 have ga:Aj Tp o.g1:=(db Tp us cb c2 c6 (cx Tp fun _ _=>rfl).1 b4).1;have et:Agr Tp o.g1:=⟨b4,fun q hq=>by rw[S.lps1] at hq;cases hq⟩;have S0:By T Tp t.n:=⟨b5,ax,aE⟩;have d4:=b6.tab S0;let K:=Tp.atBase w.heap.size;have B0:=JE Tp w.heap.size;have c3:AG K t.n V t.m w:=d4.tab (B0 _);have g5:AB K t.n V t.m w t.args W:=AB.tab (B0 _) (fun b off hh=>(B0 _).safe d4 hh) _ _ (AB.tab S0 (fun b off hh=>S0.safe b6 hh) _ _ c7);refine (callsIn_wide (n:=0)).1 (callsIn_of_wp_marks (F:=fen none) dv dn trivial ?_);have fs:=c7.length;have hR:Rel K t.n V ⟨Gw aF.ntmps t.args,t.m⟩ { tmps:=(W:List Value).toArray++Array.replicate (aF.ntmps - (W:List Value).toArray.size) undef,defers:=[] } w:=by
  have hl:=S.args;refine⟨DE.nil _ _ _ (tY _),?_,fun i c Y=>?_,c3⟩
  .simp[Gw,fs];omega
  .have fr:(MT 0 t.args .nil).get i=some c:=by
    have:(Gw aF.ntmps t.args).get i=(MT 0 t.args .nil).get i:=by simp[Gw,AV.get,BF]
    rw[<-this];exact Y
   rcases QY _ _ _ _ _ fr with⟨j,C,O⟩|C
   .rw[tj] at C;subst C;obtain⟨u,h3,h4⟩:=g5.get O;have:((W:List Value).toArray++Array.replicate (aF.ntmps - (W:List Value).toArray.size) undef).getD i undef=u:=by
     have d0:i < W.length:=(tc.1 h3).1;simp[tf,Array.getElem?_append,d0];rw[tZ d0] at h3;cases h3;rfl
    rw[this];exact h4
   .simp[Tr.get] at C
 obtain⟨hi,kA⟩:=Vs (P:=P) (T:=K) (ai:=0) (fun c=>K0 hm b2 (Aa f) aK { Ys.none with mu:=(Aa f).mu } K 0 c (cf _)) S.parts;obtain⟨b8,kA⟩:=kA (OP et) trivial;refine kA (Tc ga) trivial V _ w _ _ hR c3 fun d5 ei hg aJ g0 cy=>?_;have d6:pcv Tp o.pc:=OI.1 d5;obtain⟨ht,ka,fn⟩:=S.head;refine wpIn_seq (nP hm b2 cf hc.p fn S.round hc.q1 hc.q2 hc.mt (T:=K) d5 (fun aV he=>by have h:=b8;rw[he] at h;exact h) (F:=F) ?_ cy ?_)
 .
  intro M au i r a1 hS f3 f6 f0 f8 hr c4 e7 e8 fj;have a2:∀x,x < o.g1.n->M x=Tp x:=fun x H=>hS.eq x H;obtain⟨C,O⟩:=cx M a2;have H:M o.x=Tp o.x:=a2 _ S.x;have b7:pcv M o.pc:=(eb M a2 b8).2 d6;obtain⟨_,h3⟩:=db M us cb c2 c6 C O;exact (h3 b7).1 au i r a1 (by rw[H];exact f3) f6 (by rw[H];exact f0) f8 (by rw[H];exact hr) (by rw[H];exact c4) e7 e8 fj
 .
  intro au a1 aW cu w2 gk c4 c0 d7;show c.post.wpIn (fen none) 0 P _ cu w2;have ba:By K (K.upd o.g1.n (.list a1)) o.g1.n:=⟨fun x H=>Ct _ _ (by omega),rfl,rfl⟩;have d9:(K.upd o.g1.n (.list a1)) o.g1.n= .list a1:=ET _ _ _;obtain⟨u1,u2,u3⟩:=FH o.g4.eqs (K.upd o.g1.n (.list a1));have bi:∀x,x < o.g1.n+1->BS (K.upd o.g1.n (.list a1)) o.g4.eqs x=(K.upd o.g1.n (.list a1)) x:=fun x H=>(CJ (T:=K.upd o.g1.n (.list a1)) S.ok4).2.2 x (.inl H);have b3:∀p∈o.g4.eqs,BS (K.upd o.g1.n (.list a1)) o.g4.eqs p.1=p.2.eval (BS (K.upd o.g1.n (.list a1)) o.g4.eqs):=Er (fv:=[]) (nh:=0) (fun x H=>by cases H) (uQ _) S.ok4;have d8:(K.upd o.g1.n (.list a1)).base=K.base:=rfl;generalize K.upd o.g1.n (.list a1)=Tu at c0 d7 ba d9 u1 u2 u3 bi b3 d8;generalize BS Tu o.g4.eqs=J at u1 u2 u3 bi b3;have e5:By Tu J (o.g1.n+1):=⟨bi,u1,u2⟩;have a2:∀x,x < o.g1.n->J x=Tp x:=fun x H=>(bi x (by omega)).trans (ba.eq x H);obtain⟨C,O⟩:=cx J a2;have H:J o.x=Tp o.x:=a2 _ S.x;have b7:pcv J o.pc:=(eb J a2 b8).2 d6;obtain⟨_,h3⟩:=db J us cb c2 c6 C O;obtain⟨gd,gl,gs⟩:=(h3 b7).2 au (by rw[H];exact gk) (by rw[bi _ (Nat.lt_succ_self _),d9,H];exact vD U.list c4) b3;have dj:Agr J o.g4:=⟨b3,fun q hq=>by rw[S.lps4] at hq;cases hq⟩;have ey:Rel J (o.g1.n+1) aW o.hd cu w2:=c0.tabB e5 u3;have di:=Hi S.fin;obtain⟨_,kP⟩:=K0 hm b2 (Aa f) aK { Ys.none with mu:=(Aa f).mu } J 0 c.post (cf _) o.pc _ _ _ _ S.post;obtain⟨q1,q2,q3⟩:=kP (dj.of di) (by
   have hp:=b8;cases c5:o.pc with
   |none=>trivial
   |some x=>rw[c5] at hp;exact Nat.lt_succ_of_lt hp)
  refine q3 (gd.of di) b7 aW cu w2 _ ey fun y hy gm cj cv w3 g1 ca=>?_;have b0:By T J t.n:=⟨fun x H=>(a2 x (by omega)).trans (b5 x H),(u1.trans ba.fr).trans ax,(u2.trans ba.lp).trans aE⟩;have e6:By K J t.n:=⟨fun x H=>a2 x (by omega),u1.trans ba.fr,u2.trans ba.lp⟩;have bs:AG J t.n V t.m w:=b6.tab b0;have g3:AH J t.n V t.m w ei o.l1.mem aJ:=AH.tab e6 c3 g0 fun id aA ah e' c8=>a2 _ (cy.mem.tok_lt c8);have g4:AH J o.g1.n ei o.l1.mem aJ aW o.hd.mem w2:=AH.tab (aC:=Tu) ⟨fun x H=>bi x (by omega),u1,u2⟩ (cy.mem.tab ba) d7 fun id aA ah e' c8=>bi _ (c0.mem.tok_lt c8);have g2:AH J t.n V t.m w cj y.l.mem w3:=(g3.trans bs f4 g4).trans bs (by show t.n<=o.g1.n+1;omega) g1;have hs:o.hd.tmps.n=o.hd.tmps.n:=rfl;have fi:LeavesInM (fen none) 0 P aF cv.tmps (fun e Z=>∃v ab,e= .returned v/\AH T t.n V t.m w ab t.m' Z/\AG T (t.n+t.outs.length) ab t.m' Z/\AA T (t.n+t.outs.length) ab t.m' Z t.c v) cv.defers .returning w3:=by
   obtain⟨ek,Ds,d1,em,d3⟩:=ca.defers;rw[d1];have hn:J.base=w.heap.size:=u3.trans d8;refine Mn (T:=J) (n:=o.g3.n) (V := cj) (m:=y.l.mem) (B:=w.heap.size) Ds w3 em (fun D hD=>⟨by have:=(d3 D hD).1;omega,(d3 D hD).2.1⟩) fun w4 cc=>?_;have gp:Rel J o.g3.n cj y.l { tmps:=cv.tmps,defers:=[] } w4:=⟨DE.nil _ _ _ (by rw[cc.size];exact ek),ca.size,fun i c Y=>cc.holds _ _ (ca.tmps i c Y),cc.mem ca.mem⟩;obtain⟨v,w5, hf,⟨_,rfl,e1⟩,e2,e3,e4⟩:=Ot (T:=J) (I:=fun _=>True) (E:=aH P aF) (N:=o.hd.tmps.n) V3 S.fin dj q1 y hy gm cj _ w4 trivial gp;have st:=(g2.after bs cc).trans bs (t8 (by show t.n<=o.g1.n+1;omega) (K0 hm b2 (Aa f) aK { Ys.none with mu:=(Aa f).mu } J 0 c.post (cf _) o.pc _ _ _ _ S.post).1.n) e2;exact⟨v,e1,v, hf,rfl,Zc f1 f2 gr f7 (fun x H=>(b0.eq x H)) b0.fr b0.lp cb hT gl gs bs st e3 e4⟩
  rcases Rh S.fin y hy with hk|hk<;>rw[hk]<;>exact fi
end
structure ClC where
 o0:Oper
 o1:Oper
 o2:Oper
 p:Oper
 o5:Oper
 o6:Oper
 o7:Oper
 o8:Oper
 st:TypeId
 e:TypeId
 r0:Nat
 r1:Nat
 r2:Nat
 r3:Nat
def ClC.code (c:ClC):Code:= .seq (.region c.r0 [c.o0].toArray false) (.seq (.seq (.region c.r1 [c.o1,c.o2].toArray false) (.cond (.tmp 4) (.seq (.region c.r2 [c.p].toArray false) .ret) .skip)) (.seq (.region c.r3 [c.o5,c.o6,c.o7,c.o8].toArray false) .ret))
structure ClC.Ok (P:Program) (c:ClC) (f:FuncId) (fn:Func):Prop where
 look:P.funcs[f]? =some fn
 body:fn.body=some c.code
 name:(fn.name== "runtime.NumGoroutine")=false
 tm:fn.ntmps=8
 res:fn.results= #[ResultVar.tmp 2]
 o0:(∃v,c.o0.op= .assign v)/\c.o0.dst=some 2/\c.o0.guard=none
 o1:c.o1.op= .move (Operand.tmp 0)/\c.o1.dst=some 3/\c.o1.guard=none
 o2:(∃yt,c.o2.op= .binOp .eql c.st (Operand.tmp 3) (Operand.const (.slice none 0 0)) yt)/\c.o2.dst=some 4/\c.o2.guard=none
 p:c.p.op= .assign (Operand.const (.slice none 0 0))/\c.p.dst=some 2/\c.p.guard=none
 o5:c.o5.op= .buildSlice c.st 0 #[]/\c.o5.dst=some 5/\c.o5.guard=none
 o6:c.o6.op= .move (Operand.tmp 0)/\c.o6.dst=some 6/\c.o6.guard=none
 o7:c.o7.op= .call { callee:= .builtin .append,args:= #[Operand.tmp 5,Operand.tmp 6],argTypes:= #[c.st,c.st] }/\c.o7.dst=some 7/\c.o7.guard=none
 o8:c.o8.op= .assign (Operand.tmp 7)/\c.o8.dst=some 2/\c.o8.guard=none
 st:P.underlying c.st=some (.slice c.e)
def XP (P:Program)(b:TypeId):Au:=fun _ _ args ac m g=>
 match args with
 |[x]=>(LL P #[b,b] (.cv .nilSlice) x m g).map fun r=>(r.c,r.m,(g.pushAll r.us).needAll ac r.ps)
 |_=>none
section
variable {P:Program}
theorem On {a:Act}{w:World}{o:Oper}{x:Operand}(b:o.op= .assign x):(execOp a.eval o).run P w= .ok (.value (a.eval x)) w:=by
 simp[execOp,b]
theorem jx {c:ClC}{f:FuncId}{aF:Func}(e:c.Ok P f aF)(T:Tab)(aj:Ys)(k:FuncId)(args:List AC)(ac:PC)(m:Mem)(g:G)(aV:AC)(ad:Mem)(al:G)(hk:k=f)(h:XP P c.st aj k args ac m g=some (aV,ad,al)):
  AX g al/\(Agr T al->Aj T al->pcv T ac->BK T g ac->∀ V w W,AB T g.n V m w args W->AG T g.n V m w->
   (∃aF,P.funcs[k]? =some aF/\aF.body.isSome=true/\(aF.name== "runtime.NumGoroutine")=false)/\Calls P k (W:List Value).toArray w (GY T g V m w aV ad al)):=by
 subst hk;unfold XP at h;split at h
 .rename_i x;simp only[uC] at h;obtain⟨r,q,h⟩:=h;cases h;refine⟨(AX.push _ _).trans (AX.need _ _ _),fun hA dj hp _ V w W d3 hm=>⟨⟨aF,e.look,by rw[e.body];rfl,e.name⟩,?_⟩⟩;obtain⟨v,es,rfl,hx,rfl⟩:=d3;have bt:New T g.n r.us:=hA.need.new;have cl:=dj.need hp;have ci:((g.pushAll r.us).needAll ac r.ps).n=g.n+r.us.length:=by rw[(DB _ _ _).1,Bb]
  have dn:=q;unfold LL at q;simp only[tX,tU] at q;obtain⟨t,d2,q⟩:=q;have ht:t=c.st:=by simpa using d2.symm
  subst ht;split at q
  .rename_i e' eq hu;have he:e'=c.e:=by rw[e.st] at hu;cases hu;rfl
   subst he;simp only[tU] at q;obtain⟨ks,cj,⟨E,aE⟩,cs,N,h3,q⟩:=q;have d0:=FR cs hx;obtain⟨J,eo,_,_,H,K,rfl,em,dm⟩:=d0;refine (callsIn_wide (n:=0)).1 (callsIn_of_wp_marks (F:=fen none) e.look e.body trivial ?_);generalize bi:({ tmps:=_,defers:=[] }:Act)=a;have bx:a.tmps.size=8:=by rw[<-bi];simp[e.tm]
   have cb:a.eval (.tmp 0)= .slice H J.length K:=by
    rw[<-bi];show (#[Value.slice H J.length K]++_:Array Value).getD 0 undef=_;rw[tf,Array.getElem?_append];simp
   have c6:a.defers=[]:=by rw[<-bi]
   clear bi;have ch:∀(M:Act) (Z:World) (z:Value) (ab:Nat->Option Nat),M.tmps.size=8->M.eval (.tmp 2)=z->M.defers=[]->AH T g.n V m w ab r.m Z->AG T (g.n+r.us.length) ab r.m Z->AA T (g.n+r.us.length) ab r.m Z r.c z->
     LeavesInM (fen none) 0 P aF M.tmps (GY T g V m w r.c r.m ((g.pushAll r.us).needAll ac r.ps)) M.defers .returning Z:=fun M Z z ab aD s2 s3 s4 s5 s6=>by
    rw[s3];have dv:(results aF M.tmps).run P Z= .ok z Z:=by
     have O:M.tmps.getD 2 undef=z:=s2;rw[tf] at O;simp[results,e.res,O]
    exact⟨z,dv,z, ab,rfl,s4,by rw[ci];exact s5,by rw[ci];exact s6⟩
   refine wpIn_seq (wpIn_region ?_);show wpOpsIn (fen none) 0 P [c.o0].toArray _ [0] a w;obtain⟨x0,cu⟩:=e.o0.1;refine Bk (o:=c.o0) rfl e.o0.2.2 (Dt (by rw[cu];exact fun c h=>by cases h) (On cu) ?_);rw[e.o0.2.1];show (Code.seq _ _).wpIn (fen none) 0 P _ _ w;refine wpIn_seq (wpIn_seq (wpIn_region ?_));show wpOpsIn (fen none) 0 P [c.o1,c.o2].toArray _ [0,1] _ w;refine Bk (o:=c.o1) rfl e.o1.2.2 (Dt (by rw[e.o1.1];exact fun c h=>by cases h) (SX e.o1.1) ?_);rw[e.o1.2.1,C8 (by decide),cb];obtain⟨yt,cv⟩:=e.o2.1;refine Bk (o:=c.o2) rfl e.o2.2.2 (Dt (v:= .bool H.isNone) (Z:=w) (by rw[cv];exact fun c h=>by cases h) ?_ ?_)
   .refine MF (s:=do eqGuard .eql c.st (Operand.tmp 3) (Operand.const (.slice none 0 0)) (.slice H J.length K) (.slice none 0 0);binOp .eql c.st (.slice H J.length K) (.slice none 0 0)) ?_ ?_
    .simp only[execOp,cv];rw[C5 (by rw[CF,bx];decide)];rfl
    .simp only[ua,FO _ c.st _ _ (a:= .slice H J.length K) (b:= .slice none 0 0) (fun _ h=>by cases h) (fun h=>by cases h),uZ];exact Lib.run_eql_slice_nil w c.st c.e H _ _ 0 0 e.st
   rw[e.o2.2.1];show (Code.cond _ _ _).wpIn (fen none) 0 P _ _ w;generalize a1:(((a.put (some 2) _).put (some 3) _).put (some 4) _:Act)=b;have a6:b.tmps.size=8:=by rw[<-a1,CF,CF,CF];exact bx
   have c7:b.eval (.tmp 0)= .slice H J.length K:=by rw[<-a1,C8 (by decide),C8 (by decide),C8 (by decide)];exact cb
   have ce:b.eval (.tmp 4)= .bool H.isNone:=by rw[<-a1,C5 (by rw[CF,CF,bx];decide)]
   have cf:b.defers=[]:=by rw[<-a1];exact c6
   clear a1;cases cc:H with
   |none=>
    subst cc;have hl:J=[]:=by
     cases J with
     |nil=>rfl
     |cons y l=>obtain⟨b',o',C,_⟩:=dm (by simp);cases C
    subst hl;refine wpIn_cond_true ce (wpIn_seq (wpIn_region ?_));show wpOpsIn (fen none) 0 P [c.p].toArray _ [0] b w;refine Bk (o:=c.p) rfl e.p.2.2 (Dt (by rw[e.p.1];exact fun c h=>by cases h) (On e.p.1) ?_);rw[e.p.2.1];refine wpIn_ret ?_;obtain⟨z',Z, ab,q1,q2,q3,q4⟩:=RG (v:= .slice none 0 0) dn bt cl hm rfl hx (aR:=0);obtain⟨i,z,l,Y,_⟩:=Kl cj;have hz:z'= .slice none 0 0/\Z=w:=by
     have h0:=DQ (P:=P) (w:=w) (aR:=0) e.st Y none none 0 0 K (tY _);rw[show ([]:List (List U)).length=0 from rfl] at q1;rw[h0] at q1;cases q1;exact⟨rfl,rfl⟩
    obtain⟨rfl,rfl⟩:=hz;exact ch _ _ _ ab (by rw[CF];exact a6) (C5 (by rw[a6];decide)) cf q2 q3 q4
   |some b8=>
    subst cc;refine wpIn_cond_false ce (wpIn_skip ?_);show (Code.seq _ _).wpIn (fen none) 0 P _ b w;refine wpIn_seq (wpIn_region ?_);show wpOpsIn (fen none) 0 P [c.o5,c.o6,c.o7,c.o8].toArray _ [0,1,2,3] b w;have c9:Hk P c.st 0 (#[]:Array (Nat × Operand)).size m g=some (Ga ks c.e m g):=by
     simp[Hk,hu,cj]
    cases q;have di:New T g.n (Ga ks c.e m g).us:=fun j u hj=>bt j u (by rw[tv (tc.1 hj).1];exact hj);obtain⟨z5,w5, ek,q1,q2,q3,q4⟩:=PN (T:=T) (V := V) (w:=w) (a:=b) (o:=c.o5) c9 di hm e.o5.1;refine Bk (o:=c.o5) rfl e.o5.2.2 (jy (by rw[e.o5.1];exact fun c h=>by cases h) ⟨z5,w5, ek,q1,q2,q3,q4⟩ fun v5 w6 c0 aD s2 s3=>?_);rw[e.o5.2.1];refine Bk (o:=c.o6) rfl e.o6.2.2 (Dt (by rw[e.o6.1];exact fun c h=>by cases h) (SX e.o6.1) ?_);rw[e.o6.2.1,C8 (by decide),c7];have d4:AA T (g.n+2) c0 (m++[.mrow g.n (g.n+1) ks c.e]) w6 x (.slice (some b8) J.length K):=AA.mono aD hm (by omega) _ _ hx;obtain⟨z',Z, ab,t1,t2,t3,t4⟩:=Ru (g:={ g with n:=g.n+2 }) (T:=T) (V := c0) (w:=w6) h3 (fun j u hj=>by
     have:=bt (j+2) u (by simpa [Ga] using hj);rwa [show g.n+(j+2)=g.n+2+j by omega] at this) cl s2 s3 (Hy (FR cs d4)) c.o7.type
    have en:g.n+((Ga ks c.e m g).us++N.us).length=g.n+2+N.us.length:=by simp[Ga];omega
    generalize a2:((b.put (some 5) v5).put (some 6) _:Act)=b2;have bs:b2.tmps.size=8:=by rw[<-a2,CF,CF];exact a6
    have h5:b2.eval (.tmp 5)=v5:=by rw[<-a2,C8 (by decide),C5 (by rw[a6];decide)]
    have h6:b2.eval (.tmp 6)= .slice (some b8) J.length K:=by rw[<-a2,C5 (by rw[CF,a6];decide)]
    have c8:b2.defers=[]:=by rw[<-a2];exact cf
    clear a2;refine Bk (o:=c.o7) rfl e.o7.2.2 (Dt (v:=z') (Z:=Z) (by rw[e.o7.1];exact fun c h=>by cases h) ?_ ?_)
    .rw[I5 e.o7.1];simp only[List.map_toArray,tx,uW,h5,h6];simp[builtin,t1]
    rw[e.o7.2.1];refine Bk (o:=c.o8) rfl e.o8.2.2 (Dt (by rw[e.o8.1];exact fun c h=>by cases h) (On e.o8.1) ?_);rw[e.o8.2.1,C5 (by rw[bs];decide)];show (Code.ret).wpIn (fen none) 0 P _ _ Z;refine wpIn_ret ?_;exact ch _ _ _ ab (by rw[CF,CF];exact bs) (C5 (by rw[CF,bs];decide)) c8 (aD.trans hm (show g.n<=g.n+2 by omega) t2) (by
     show AG T (g.n+((Ga ks c.e m g).us++N.us).length) ab N.m Z;rw[en];exact t3) (by
     show AA T (g.n+((Ga ks c.e m g).us++N.us).length) ab N.m Z N.c z';rw[en];exact t4)
  .cases q
 .cases h
end
def NL:List (FuncId × TypeId)->FuncId->Option TypeId
 |[],_=>none
 |(f,st)::r,g=>bif Nat.beq f g then some st else NL r g
def Xv (P:Program)(a3:List (FuncId × TypeId))(l:List (FuncId × AZ)):FuncId->Option Au:=fun f=>match NL a3 f with
 |some b=>some (XP P b)
 |none=>KQ l f
def LJ (P:Program)(a3:List (FuncId × TypeId)):Prop:=∀p∈a3,∃c aF,ClC.Ok P c p.1 aF/\c.st=p.2
theorem RH:∀{a3:List (FuncId × TypeId)} {f:FuncId} {e:TypeId},NL a3 f=some e->(f,e)∈a3
 |[],_,_,h=>by cases h
 |(g,s)::r,f,e,h=>by
  simp only[NL] at h;cases b:Nat.beq g f with
  |true=>
   rw[b] at h;cases h;rw[tW b];exact tl ..
  |false=>rw[b] at h;exact th _ (RH h)
variable{P:Program}{a3:List (FuncId × TypeId)}{l:List (FuncId × AZ)}{t:AZ}{aK a0:Nat}
theorem cY (C:LJ P a3)(E:∀p∈l,Ae P p.1 p.2):∀f c,Xv P a3 l f=some c->∀T,∀aj k args ac m g aV ad al,k=f->Ce P T.lp aj->c aj k args ac m g=some (aV,ad,al)->AX g al/\(Agr T al->Aj T al->pcv T ac->BK T g ac->∀ V w W,AB T g.n V m w args W->AG T g.n V m w->
   (∃aF,P.funcs[k]? =some aF/\aF.body.isSome=true/\(aF.name== "runtime.NumGoroutine")=false)/\Calls P k (W:List Value).toArray w (GY T g V m w aV ad al)):=by
 intro f c h T aj k args ac m g aV ad al e H q;unfold Xv at h;cases b:NL a3 f with
 |some J=>
  rw[b] at h;cases h;obtain⟨aP,aF,y,s⟩:=C _ (RH b);simp only at s;subst s;exact jx y T aj k args ac m g aV ad al e q
 |none=>
  rw[b] at h;exact Ln E f c h T aj k args ac m g aV ad al e H q
def AZ.runC (P:Program)(a3:List (FuncId × TypeId))(l:List (FuncId × AZ))(Aa:FuncId->DI)(aK a0:Nat)(f:FuncId)(t:AZ):Option (AC × Mem × G):=
 FL P (Xv P a3 l) Aa aK a0 Ys.none f t.args none t.m { n:=t.n,eqs:=[],obs:=[] }
theorem Nj {f:FuncId}(b:LJ P a3)(q:P.follows .mixedOrders=true)(e:∀p∈l,Ae P p.1 p.2){Aa:FuncId->DI}{rs:List Rf}{aw:List En}{os:List ObE}
  (C:t.sees rs (t.runC P a3 l Aa aK a0 f)=some (aw.map En.be,os.map ObE.be,[])) (s:Nb t=true)
  (y:∀(T:Tab) (us:List U),(∀p∈t.pre,p.2 us)->(∀j u,us[j]? =some u->T j=u)->us.length=t.n->AJ T (Ak 0 t.ks)->Bnd T 0 t.ks->AU T (aw.map En.be)->IQ T os/\rs.map (Rf.eval T)=t.outs.map fun o=>o.2 us):Ae P f t:=
 Oh (fun T=>HS q (cY b e) a0 T) C s y
abbrev RgV:=(PC × Nat × Nat × Nat) × (PC × Nat) × (List BE × List BO) × (List BE × List BO) × (List BE × List BO) × List BP
def ZI (t:AZ)(rs:List Rf)(o:RgO):Option RgV:=
 if Nat.beq rs.length t.outs.length&&Nat.ble t.m.length t.m'.length then do
  let a8<-Gq [] t.n t.m'.length rs t.m' o.m0 t.m' o.m0;let be<-ND t.n t.m'.length rs t.m' o.m0 t.c o.c0
  some ((o.pc,o.g1.n,o.x,o.kks.length),(o.pc2,o.zx),(GI o.g1.eqs.reverse,Iz o.g1.obs),(GI o.g2.eqs.reverse,Iz (o.ps.map (Ob.mk o.pc2)++o.g2.obs)),(GI o.g4.eqs.reverse,Iz o.g4.obs),ep (a8++be))
 else none
theorem ah {f:FuncId}(cx:LJ P a3)(hm:P.follows .mixedOrders=true)(hl:∀p∈l,Ae P p.1 p.2){Aa:FuncId->DI}{c:RgC}{aF:Func}
  (hc:c.Ok P) (c0:P.funcs[f]? =some aF) (cu:aF.body=some c.code) (c8:(aF.name== "runtime.NumGoroutine")=false) {rs:List Rf} {ac bb:PC} {am x J zx:Nat} {al a1 a2:List En} {b1 b2 b3:List ObE}
  (b0:(W4 P (FL P (Xv P a3 l) Aa aK a0) (Aa f) { Ys.none with mu:=(Aa f).mu } aK c aF t.args t.m t.n).bind (ZI t rs)=some ((ac,am,x,J),(bb,zx),(al.map En.be,b1.map ObE.be),(a1.map En.be,b2.map ObE.be),(a2.map En.be,b3.map ObE.be),[])) (c9:Nb t=true)
  {F:List U->List (List U)}
  (d1:∀(T:Tab) (us:List U),(∀p∈t.pre,p.2 us)->(∀j u,us[j]? =some u->T j=u)->us.length=t.n->AJ T (Ak 0 t.ks)->Bnd T 0 t.ks->AU T (al.map En.be)->IQ T b1/\(pcv T ac->
   (∀(au:List Nat) (i:Nat) (r:List U) (y:List (List U)),(T x).toL.length<=AD->au.Nodup->(∀j∈au,j < (T x).toL.length)->i ∉ au->(T x).toL[i]? =some r->y=(au.map fun j=>(T x).toL.getD j []).flatMap F->T am= .list y->
    (∀j u,(r.drop J)[j]? =some u->T (am+1+j)=u)->AU T (a1.map En.be)->IQ T b2/\T zx= .list (y++F r))/\
   (∀(au:List Nat),au.Perm (List.range (T x).toL.length)->T am= .list ((au.map fun j=>(T x).toL.getD j []).flatMap F)->AU T (a2.map En.be)->IQ T b3/\rs.map (Rf.eval T)=t.outs.map fun q=>q.2 us))):Ae P f t:=by
 simp only[tU] at b0;obtain⟨o,dd,b⟩:=b0;have S:=gj dd;unfold ZI at b;split at b
 .rename_i bm;rw[tV] at bm;simp only[tX,tU] at b;obtain⟨a8,c6,be,c7,b⟩:=b;simp only[ug,Prod.mk.injEq] at b;obtain⟨⟨e1,e2,e3,e4⟩,⟨e5,e6⟩,⟨e7,e8⟩,⟨e9,b6⟩,⟨b7,b8⟩,ca⟩:=b;have toB:∀(T:Tab) (K:List (Nat × Ex)),(∀p∈K,T p.1=p.2.eval T)->AU T (GI K.reverse):=fun T K h=>NN fun p H=>h p (List.mem_reverse.1 H);refine eT (F:=F) hm (cY cx hl) hc c0 cu c8 S (tW bm.1) c6 c7 (fun id c1 e=>?_) fun T us bx c2 db bs cy=>?_
  .have:=uK.1 c9 id (List.mem_range.2 c1);rw[e] at this;cases this
  .obtain⟨i1,i2⟩:=TU (x:=0) (O9 bx c2) fun j u hj=>by rw[tj];exact bs j u hj
   have bi:=toB T _ cy;rw[e7] at bi;obtain⟨C,O⟩:=d1 T us db bs bx i1 i2 bi;have ba:=He C;rw[<-e8] at ba;refine⟨Ih ba,fun bt=>?_⟩;rw[e1] at bt;obtain⟨h3,h4⟩:=O bt;rw[e2,e3,e4,e5,e6];refine⟨fun au i r y W E Y k4 k5 k6 k7 k8 k9=>?_,fun au W E Y=>?_⟩
   .have bj:=toB T _ k9;rw[e9] at bj;obtain⟨M,ao⟩:=h3 au i r y W E Y k4 k5 k6 k7 k8 bj;have s:=He M;rw[<-b6] at s;have g3:=Ih s;exact⟨fun q N=>g3 q (tp _ N),fun H=>⟨fun q N=>g3 (Ob.mk o.pc2 q) (tz _ (vG.2 ⟨q,N,rfl⟩)) (by rw[<-e5] at H;exact H),ao⟩⟩
   .have bl:=toB T _ Y;rw[b7] at bl;obtain⟨M,ao⟩:=h4 au W E bl;have s:=He M;rw[<-b8] at s;exact⟨Ih s,U8 (by rw[ca];trivial),ao⟩
 .cases b
end
section
open Go
theorem WD {P:Program}{f:FuncId}{t s:AZ}{ap Y:Int}{x:Nat}(h:Ae P f t)(hc:t.c= .i .i64 ap Y x)(C:s.args=t.args)(y:s.m=t.m)(J:s.m'=t.m')(H:s.n=t.n)(e5:∀us,s.us us=t.us us)
  (e6:s.outs.length=t.outs.length) (e7:s.c= .ci .i64 0)
  (hx:∀us:List U,us.length=t.n->(∀q∈s.pre,q.2 us)->(t.us us)[x]? =some (.int 0)/\∀q∈t.pre,q.2 us):Ae P f s:=by
 obtain⟨lp,h⟩:=h;refine⟨lp,fun T us hl M K hp V w W N O=>?_⟩;rw[H] at M;rw[H,y,C] at N;rw[H,y] at O;rw[e5] at K;obtain⟨h0,bl⟩:=hx us M hp;obtain⟨a,b⟩:=h T us hl M K bl V w W N O;refine⟨a,b.mono fun e Z k=>?_⟩;rw[H,y,J,e6,e7];obtain⟨v, ab,k1,E,k3,k4⟩:=k;refine⟨v, ab,k1,E,k3,?_⟩;rw[hc] at k4;obtain⟨_,i,C,y,_,_⟩:=k4;have J:T x= .int 0:=K x _ h0;rw[J] at C;cases C;exact y
end
end Go.Eng
end
noncomputable section
namespace Go.Eng
abbrev vK(x a b:Nat):En:=⟨x,.and,[.e a,.e b]⟩
abbrev vM(x a b:Nat):En:=⟨x,.and,[.e a,.n b]⟩
abbrev vN(x a b:Nat):En:=⟨x,.or,[.e a,.e b]⟩
abbrev vO(x a b:Nat):En:=⟨x,.lt,[.e a,.e b]⟩
abbrev vP(x a b:Nat):En:=⟨x,.get .i 1,[.e a,.e b]⟩
abbrev vQ(x a:Nat):En:=⟨x,.not,[.e a]⟩
abbrev vR(x a b:Nat):En:=⟨x,.get .i 2,[.e a,.e b]⟩
abbrev vT(x a:Nat):En:=⟨x,.len,[.e a]⟩
abbrev vU(x a b:Nat):En:=⟨x,.get .i 0,[.e a,.e b]⟩
abbrev vV(x a b:Nat):En:=⟨x,.get .s 4,[.e a,.e b]⟩
abbrev vW(x a b:Nat):En:=⟨x,.get .s 5,[.e a,.e b]⟩
abbrev vX(x a b:Nat):En:=⟨x,.get .b 3,[.e a,.e b]⟩
abbrev vY(x a b:Nat):En:=⟨x,.get .b 6,[.e a,.e b]⟩
abbrev vZ(x a b:Nat):En:=⟨x,.get .i 7,[.e a,.e b]⟩
abbrev vd(x a b:Nat):En:=⟨x,.get .i 8,[.e a,.e b]⟩
abbrev ve(x a b c:Nat):En:=⟨x,.ite .i,[.e a,.e b,.e c]⟩
abbrev vf(x a b c:Nat):En:=⟨x,.ite .l,[.e a,.e b,.e c]⟩
abbrev vg(x a b:Nat):En:=⟨x,.w2 .i64 .add,[.e a,.e b]⟩
abbrev vh(x a:Nat):En:=⟨x,.id .b,[.e a]⟩
abbrev vi(x a b:Nat):En:=⟨x,.w2 .i64 .sub,[.e a,.e b]⟩
abbrev vl(x a b:Nat):En:=⟨x,.app,[.e a,.e b]⟩
abbrev vm(x a b:Nat):En:=⟨x,.get .s 0,[.e a,.e b]⟩
abbrev vn(x a b c:Nat):En:=⟨x,.ite .b,[.e a,.e b,.e c]⟩
end Go.Eng
end
