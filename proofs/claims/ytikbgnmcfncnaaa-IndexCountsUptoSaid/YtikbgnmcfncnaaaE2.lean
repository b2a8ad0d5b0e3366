/-
  A part of the proof: the evaluator of code and its soundness.
-/
import Derived.Test.YtikbgnmcfncnaaaE1
import Derived.RangeFuncRecord
import Derived.OrdersIn
import Derived.LoopNIn
import Derived.RangeFuncIn
import Derived.RangeFuncLeaves
set_option linter.unusedVariables false
set_option linter.unusedSimpArgs false
noncomputable section
namespace Go.Eng
section
open Go Go.RowKit
def fen (r:Option Nat):Fence:={ Fence.wide with round:=r }
theorem V4 {r:Option Nat}{k:Nat}{P:Program}{f:FuncId}{args:Array Value}{w:World}{R:Ending->World->Prop}(h:Calls P f args w R):CallsIn (fen r) k P f args w R:=
 (callsIn_wide (n:=k)).2 h
def It (P:Program)(fv:Value)(args:List Value)(w:World)(R:Ending->World->Prop):Prop:=
 (∃(k:FuncId) (first cap:List Value) (fn:Func),fv= .func (.func k) first.toArray cap.toArray/\P.funcs[k]? =some fn/\fn.body.isSome=true/\(fn.name== "runtime.NumGoroutine")=false/\Calls P k (first++args++cap).toArray w R)\/
 ∃(b:Nat) (q:Loop),fv= .func (.yield b) #[] #[]/\w.heap[b]? =some (.loop q)/\args.length=q.params.size/\
  ∀k,RoundIn Fence.wide k P b q.fn ((q.params.zip args.toArray).foldl (fun t (p,v)=>t.setIfInBounds p v) q.tmps) q.assign q.body w R
def Ed (T:Tab)(g:G)(ρ :Nat->Option Nat)(m:Mem)(w:World)(c:AC)(m':Mem)(g':G):Ending->World->Prop:=
 fun e w'=>∃v ρ',e= .returned v/\AE T g.n ρ m w ρ' m' w'/\AD T g'.n ρ' m' w'/\AA T g'.n ρ' m' w' c v
def YfOK (P:Program)(T:Tab)(stamp:Nat)(y:YF):Prop:=
 ∀id args pc m g c m' g',y id args pc m g=some (c,m',g')->AR g g'/\(Agr T g'->AY T g'->pcv T pc->A8 T g pc->∀st,m.at id= .lp stamp st->∀ ρ w vs,AB T g.n ρ m w args vs->AD T g.n ρ m w->
  ∀b, ρ id=some b->It P (.func (.yield b) #[] #[]) vs w (Ed T g ρ m w c m' g'))
def YsOK (P:Program)(T:Tab)(ys:Ys):Prop:=∀stamp y,ys stamp=some y->YfOK P T stamp y
def CL (P:Program)(lp:Nat->CA)(ys:Ys):Prop:=∀T:Tab,T.lp=lp->YsOK P T ys
def CS (P:Program)(T:Tab)(call:Ak):Prop:=
 ∀ys k args pc m g c m' g',CL P T.lp ys->call ys k args pc m g=some (c,m',g')->AR g g'/\(Agr T g'->AY T g'->pcv T pc->A8 T g pc->∀ ρ w vs,AB T g.n ρ m w args vs->AD T g.n ρ m w->
  (∃fn,P.funcs[k]? =some fn/\fn.body.isSome=true/\(fn.name== "runtime.NumGoroutine")=false)/\
  Calls P k (vs:List Value).toArray w (Ed T g ρ m w c m' g'))
section
variable {P:Program}{T:Tab}{n n':Nat}{ρ ρ':Nat->Option Nat}{m m':Mem}{w w':World}{a:Act}
theorem LY {ops:Array Oper}{pc:PC}{s s':RS}{o:Oper}{run:Option (PC × List Nat)}(h:DV ops pc s o=some (run,s'))(hA:Agr T s'.g)(hpc:pcv T pc)(hk:A8 T s.g pc)(hi:Bm T ρ ops s a w):
  s'.tmps=s.tmps/\s'.mem=s.mem/\AR s.g s'.g/\Bm T ρ ops s' a w/\(run=none->Region.wanted o (yielded ops a.tmps)=false)/\
   (∀pc' imp,run=some (pc',imp)->(Region.wanted o (yielded ops a.tmps)=true↔pcv T pc')/\(pcv T pc'->∀c∈imp,T c= .bool true)/\A8 T s'.g pc'/\
    (imp=[]->pcv T pc')/\(imp≠[]->(∃p,pc'=some p)/\∃q,o.guard=some q)):=by
 unfold DV at h;cases hg:o.guard with
 |none=>
  rw[hg] at h;cases h;refine⟨rfl,rfl,AR.refl _,hi,(fun h=>by cases h),fun pc' imp he=>?_⟩;cases he;exact⟨by simp[Region.wanted,hg,hpc],fun _ c hc=>(by cases hc),hk,fun _=>hpc,fun h=>absurd rfl h⟩
 |some jw=>
  obtain⟨j,want⟩:=jw;have hwant:(Region.wanted o (yielded ops a.tmps)=true↔yielded ops a.tmps j=some want):=by simp[Region.wanted,hg]
  rw[hg] at h;simp only at h;split at h
  .rename_i e es he;cases h;have hall:∀x∈e::es,x∈s.gl/\x.j=j/\x.want=want:=by
    intro x hx;rw[<-he] at hx;obtain⟨h1,h2⟩:=List.mem_filter.1 hx;simp only[vo] at h2;exact⟨h1,vp h2.1,by simpa using h2.2⟩
   obtain⟨hmem,hj,hw⟩:=hall e (wA ..);have hge:=hi.ges e hmem;refine⟨rfl,rfl,AR.refl _,hi,(fun h=>by cases h),fun pc' imp he=>?_⟩;cases he;refine⟨?_,?_,⟨hge.lt,hge.bool⟩,fun h=>?_,fun _=>⟨⟨_,rfl⟩,_,rfl⟩⟩
   .rw[hwant,<-hj,<-hw];exact hge.iff.symm
   .intro hp c hc;rcases wc.1 hc with hc|hc
    .exact hge.imp hp c hc
    .obtain⟨l,hl,hc⟩:=List.mem_flatten.1 hc;obtain⟨x,hx,rfl⟩:=List.mem_map.1 hl;obtain⟨k1,k2,k3⟩:=hall x (vz _ hx);have hgx:=hi.ges x k1;refine hgx.imp (hgx.iff.2 ?_) c hc;rw[k2,k3,<-hj,<-hw];exact hge.iff.1 hp
   .exact absurd (List.append_eq_nil_iff.1 h).1 hge.ne
  .rename_i hnone;simp only[vq,vn] at h;obtain⟨oj,hoj,d,hd,c,hc,h⟩:=h;have hv:=hi.rel.tmps d c hc;have hy:yielded ops a.tmps j=(match a.tmps.getD d undef with| .bool b=>some b|_=>none):=by
    simp only[yielded,hoj,wT,hd];rcases wD d a.tmps.size with hlt|hlt
    .have hget:a.tmps[d]? =some (a.tmps.getD d undef):=by simp[vy,hlt]
     rw[hget];generalize a.tmps.getD d undef=v;cases v<;>rfl
    .have hget:a.tmps[d]? =none:=Array.getElem?_eq_none hlt;rw[vy,hget];rfl
   have fin:∀(pc0:PC) (base:List Nat) (c':AC),Di pc0 base s j want c'=some (run,s')->A8 T s.g pc0->(pcv T pc0->AA T s.g.n ρ s.mem w c' (a.tmps.getD d undef))->(¬pcv T pc0->a.tmps.getD d undef=undef)->(pcv T pc0->∀c∈base,T c= .bool true)->
     ((pc0=pc/\base=[])\/(base≠[]/\∃p,pc0=some p))->
     s'.tmps=s.tmps/\s'.mem=s.mem/\AR s.g s'.g/\Bm T ρ ops s' a w/\(run=none->Region.wanted o (yielded ops a.tmps)=false)/\
     (∀pc' imp,run=some (pc',imp)->(Region.wanted o (yielded ops a.tmps)=true↔pcv T pc')/\(pcv T pc'->∀c∈imp,T c= .bool true)/\A8 T s'.g pc'/\
      (imp=[]->pcv T pc')/\(imp≠[]->(∃p,pc'=some p)/\∃q,(some (j,want):Option (Nat × Bool))=some q)):=by
    intro pc0 base c' h1 h2 h3 h4 h5 h6;obtain⟨k1,k2,k3,k4,k5,k6⟩:=Vz h1 hA h2 hi hy h3 h4 h5;refine⟨k1,k2,k3,k4,fun hn=>?_,fun pc' imp he=>?_⟩
    .have:=k5 hn;cases hw:Region.wanted o (yielded ops a.tmps) with
     |false=>rfl
     |true=>exact absurd (hwant.1 hw) this
    .obtain⟨q1,q2,q3,q4⟩:=k6 pc' imp he;refine⟨hwant.trans q1,q2,q3,fun hemp=>?_,fun hne=>⟨?_,_,rfl⟩⟩
     .rcases q4 with⟨_,e1,e2⟩|⟨hne,_⟩
      .rcases h6 with⟨e3,_⟩|⟨e3,_⟩
       .rw[e1,e3];exact hpc
       .exact absurd e2 e3
      .exact absurd hemp hne
     .rcases q4 with⟨e1,_⟩|⟨_,q5|⟨q5,q6⟩⟩
      .exact absurd e1 hne
      .exact q5
      .rcases h6 with⟨_,e4⟩|⟨_,e5⟩
       .rw[q6,e4] at hne;exact absurd rfl hne
       .rw[q5];exact e5
   split at h
   .
    cases h;obtain⟨vs,e1,e2⟩:=hv;rw[show vs=[] from e2] at e1;refine⟨rfl,rfl,AR.refl _,hi,fun _=>?_,fun pc' imp he=>by cases he⟩;cases hw:Region.wanted o (yielded ops a.tmps) with
    |false=>rfl
    |true=>
     have:=hwant.1 hw;rw[hy,e1] at this;cases this
   .rename_i cc c';simp only[vn] at h;obtain⟨e,he,h⟩:=h;have hmem:=List.mem_of_find?_eq_some he;have hp0:=List.find?_some he;have hp:e.p=cc:=vp hp0;subst hp;have hge:=hi.ges e hmem;exact fin (some e.p) e.imp c' h ⟨hge.lt,hge.bool⟩ hv.2.1 hv.2.2 hge.imp (.inr ⟨hge.ne,_,rfl⟩)
   .exact fin pc [] c h hk (fun _=>hv) (fun hn=>absurd hpc hn) (fun _ c hc=>by cases hc) (.inl ⟨rfl,rfl⟩)
theorem Hm {ops:Array Oper}{j:Nat}{dst:Option Tmp}(h:((ops[j]?).bind (·.dst))≠dst)(v:Value):yielded ops (a.put dst v).tmps j=yielded ops a.tmps j:=by
 cases dst with
 |none=>rfl
 |some d=>
  simp only[yielded,Act.put];cases hd:(ops[j]?).bind (·.dst) with
  |none=>rfl
  |some e=>
   have hne:d≠e:=fun he=>by rw[hd,he] at h;exact h rfl
   simp only[wT,Array.getElem?_setIfInBounds,hne,if_false]
theorem SI:∀(x y:Blk),Blk.beq x y=true->x=y
 | .pad,y,h=>by cases y<;>simp_all [Blk.beq]
 | .gone,y,h=>by cases y<;>simp_all [Blk.beq]
 | .cells l e,y,h=>by
  cases y<;>simp[Blk.beq] at h;rw[AC.beqL_eq l _ h.1,h.2]
 | .tok x ks e,y,h=>by
  cases y<;>simp[Blk.beq] at h;rw[h.1.1,Kd.beqs_eq ks _ h.1.2,h.2]
 | .lp x a,y,h=>by
  cases y<;>simp[Blk.beq] at h;rw[h.1,AC.beq_eq a _ h.2]
 | .mrow x z ks e,y,h=>by
  cases y<;>simp[Blk.beq] at h;rw[h.1.1.1,h.1.1.2,Kd.beqs_eq ks _ h.1.2,h.2]
 | .mapb x kk ka vk va,y,h=>by
  cases y<;>simp[Blk.beq] at h;rw[h.1.1.1.1,Kd.beqs_eq kk _ h.1.1.1.2,h.1.1.2,Kd.beqs_eq vk _ h.1.2,h.2]
theorem Gd:∀{m m':Mem},GO m m'=true->m.length<=m'.length/\∀id,id < m.length->m'.at id=m.at id
 |[],_,_=>⟨wX _,fun id h=>by simp at h⟩
 |_::_,[],h=>by cases h
 |x::m,y::m',h=>by
  simp only[GO,vo] at h;obtain⟨h1,h2⟩:=Gd h.2;refine⟨by simp;omega,fun id hid=>?_⟩;cases id with
  |zero=>simp[Mem.at,SI _ _ h.1]
  |succ id=>
   have:=h2 id (by simpa using hid);simpa [Mem.at] using this
theorem Lh (m:Mem)(k:Nat)(id:Nat):Mem.at (m++List.replicate k .gone) id=if id < m.length then m.at id else if id < m.length+k then .gone else .pad:=by
 unfold Mem.at;rw[List.getElem?_append];split
 .rfl
 .rename_i h;by_cases hk:id < m.length+k
  .rw[if_pos hk,List.getElem?_replicate,if_pos (by omega)];rfl
  .rw[if_neg hk,wV (by simp;omega)];rfl
theorem ZK {o:Oper}{f:Operand}{args:Array Operand}{ts:Array TypeId}{k:FuncId}{first cap:List Value}{fn:Func}(ho:o.op= .call { callee:= .value f,args,argTypes:=ts })
  (hf:a.eval f= .func (.func k) first.toArray cap.toArray) (h1:P.funcs[k]? =some fn) (h2:fn.body.isSome=true) (h3:(fn.name== "runtime.NumGoroutine")=false):
  (execOp a.eval o).run P w= .ok (.enter k (first++(args.toList.map a.eval)++cap).toArray) w:=by
 have hb:fn.body.isNone=false:=by cases hx:fn.body with|none=>rw[hx] at h2;cases h2|some=>rfl
 have arr:first.toArray++args.map a.eval++cap.toArray=(first++(args.toList.map a.eval)++cap).toArray:=by
  apply Array.ext';simp
 simp only[execOp,ho,resolve,hf,Deferred.ofValue,Sem.run_bind,Sem.run_pure,Result.andThen_ok,invoke,callFunc,run_program,h1,h3,hb,wM,if_false,arr]
theorem Bm.put {ops:Array Oper}{s:RS}(hi:Bm T ρ ops s a w){dst:Option Tmp}(hd:s.gl.any (fun e=>((ops[e.j]?).bind (·.dst))==dst)=false){g':G}(hg:AR s.g g'){mem':Mem}
  (hs:AE T s.g.n ρ s.mem w ρ' mem' w') (hm':AD T g'.n ρ' mem' w') {c:AC} {v:Value} (hc:AA T g'.n ρ' mem' w' c v):
  Bm T ρ' ops { s with tmps:=Ci s.tmps dst c,mem:=mem',g:=g' } (a.put dst v) w':=by
 refine⟨(hi.rel.on hs hg.n hm').put dst hc,fun e he=>?_⟩;have h1:=(hi.ges e he).up hg.n;have hne:((ops[e.j]?).bind (·.dst))≠dst:=by
  intro h;rw[List.any_eq_false] at hd;exact hd e he (by simp[h])
 exact⟨h1.lt,h1.bool,by rw[Hm hne];exact h1.iff,h1.imp,h1.ne⟩
end
def sel {α:Type}(b:Bool)(x y:α):α:=match b with|true=>x|false=>y
inductive CN (T:Tab) (n n':Nat) (w:World):Blk->Blk->Prop where
 |pad:CN T n n' w .pad .pad
 |gone (s:Blk):CN T n n' w s .gone
 |same (x:Nat) (ks:List Kd) (e:TypeId):CN T n n' w (.tok x ks e) (.tok x ks e)
 |cells {l l':List AC} {e:TypeId} (h:∀ ρ m vs,AB T n ρ m w l vs->AB T n' ρ m w l' vs):CN T n n' w (.cells l e) (.cells l' e)
 |tok {x k:Nat} {ks ks':List Kd} {e:TypeId} (h1:n<=k) (h2:k < n') (h4:T k=T x) (h5:ks'.length=ks.length):CN T n n' w (.tok x ks e) (.tok k ks' e)
 |new {k:Nat} {ks:List Kd} {e:TypeId} (h1:n<=k) (h2:k < n') (h4:T k= .list []):CN T n n' w .pad (.tok k ks e)
 |lp {s:Nat} {st st':AC} (h:∀ ρ m v,AA T n ρ m w st v->AA T n' ρ m w st' v):CN T n n' w (.lp s st) (.lp s st')
 |mrow {x k y:Nat} {ks ks':List Kd} {e:TypeId} (h2:k=x\/k < n') (h4:T k=T x) (h5:ks'.length=ks.length) (h6:∀ok us vs,AJ ok w ks us vs->AJ ok w ks' us vs):CN T n n' w (.mrow x y ks e) (.mrow k y ks' e)
 |mapb {x k:Nat} {kk kk' vk vk':List Kd} {ka va:Bool} (h2:k=x\/k < n') (h4:T k=T x) (h5:∀ok us vs,AJ ok w kk us vs->AJ ok w kk' us vs) (h6:∀ok us vs,AJ ok w vk us vs->AJ ok w vk' us vs):CN T n n' w (.mapb x kk ka vk va) (.mapb k kk' ka vk' va)
section
variable {T:Tab}{ρ :Nat->Option Nat}{m:Mem}{w:World}{b:Bool}{sb:Rf}{n n':Nat}
theorem GG (hsb:(sb.eval T).toB=b)(r r':Rf):(⟨ "if",oIf,[sb,r,r']⟩:Ex).eval T=sel b (r.eval T) (r'.eval T):=by
 cases b<;>simp[Ex.eval,oIf,u0,u1,u2,hsb,sel]
theorem fW (hsb:(sb.eval T).toB=b){k:Nat}{x y:Blk}(hnew:New T k (DJ k sb x y).2)(hk:n<=k)(hl:k+(DJ k sb x y).2.length<=n'):
  CN T n n' w (sel b x y) (DJ k sb x y).1:=by
 cases x with
 |pad=>
  cases y with
  |pad=>cases b<;>exact .pad
  |gone=>exact .gone _
  |cells l e=>exact .gone _
  |lp=>exact .gone _
  |mrow=>exact .gone _
  |mapb=>exact .gone _
  |tok x' ks e'=>
   simp only[DJ] at hnew hl⊢;simp only[List.length_singleton] at hl;have e:=hnew.head;rw[GG hsb] at e;cases b with
   |true=>exact .new hk (by omega) e
   |false=>exact .tok hk (by omega) e rfl
 |gone=>cases y<;>exact .gone _
 |cells l e=>
  cases y with
  |pad=>exact .gone _
  |gone=>exact .gone _
  |tok=>exact .gone _
  |lp=>exact .gone _
  |mrow=>exact .gone _
  |mapb=>exact .gone _
  |cells l' e'=>
   simp only[DJ] at hnew hl⊢;split
   .rename_i hle;obtain⟨hll,rfl⟩:=hle;simp only[hll,and_self,if_true] at hnew hl;split
    .rename_i hat;simp only[hat,if_true] at hnew hl;have key:∀ ρ m vs,(b=true->AB T n ρ m w l vs)->(b=false->AB T n ρ m w l' vs)->AB T n' ρ m w (MH (fun n=>mix n sb) k l l').1 vs:=fun ρ m vs k1 k2=>
      Nq (fun n0 c d v _ _ a1 a2 a3 a4=>Kw hsb (by omega) a1 a2 a3 a4) hll hnew hl k1 k2
     cases b with
     |true=>exact .cells fun ρ m vs h=>key ρ m vs (fun _=>h) (fun h=>by cases h)
     |false=>exact .cells fun ρ m vs h=>key ρ m vs (fun h=>by cases h) (fun _=>h)
    .exact .gone _
   .exact .gone _
 |lp s st=>
  cases y with
  |pad=>exact .gone _
  |gone=>exact .gone _
  |cells=>exact .gone _
  |tok=>exact .gone _
  |mrow=>exact .gone _
  |mapb=>exact .gone _
  |lp s' st'=>
   simp only[DJ] at hnew hl⊢;split
   .rename_i hb;have e:=vp hb;subst e;simp only[hb,if_true] at hnew hl;have key:∀ ρ m v,(b=true->AA T n ρ m w st v)->(b=false->AA T n ρ m w st' v)->AA T n' ρ m w (mix k sb st st').1 v:=fun ρ m v k1 k2=>Kw hsb (by omega) hnew hl k1 k2;cases b with
    |true=>exact .lp fun ρ m v h=>key ρ m v (fun _=>h) (fun h=>by cases h)
    |false=>exact .lp fun ρ m v h=>key ρ m v (fun h=>by cases h) (fun _=>h)
   .exact .gone _
 |mrow x z ks e=>
  cases y with
  |pad=>exact .gone _
  |gone=>exact .gone _
  |cells=>exact .gone _
  |tok=>exact .gone _
  |lp=>exact .gone _
  |mapb=>exact .gone _
  |mrow x' z' ks' e'=>
   simp only[DJ] at hnew hl⊢;split
   .rename_i hb;simp only[hb,if_true] at hnew hl;simp only[vo] at hb;have e1:=vp hb.1.1;have e2:=vp hb.1.2;have e3:=vp hb.2;subst e1;subst e2;split
    .rename_i hc;simp only[vo] at hc;have e4:=vp hc.1;have e5:=Kd.beqs_eq _ _ hc.2;subst e4;subst e5;cases b<;>exact .mrow (.inl rfl) rfl rfl (fun _ _ _ h=>h)
    .rename_i hc;simp only[hc] at hnew hl;simp only[wM,if_false] at hnew hl;simp only[List.length_singleton] at hl;have e:=hnew.head;rw[GG hsb] at e;have hj:=Kd.joins_len ks ks' e3;cases b with
     |true=>exact .mrow (.inr (by omega)) e hj (fun _ _ _ h=>h.join_l e3)
     |false=>exact .mrow (.inr (by omega)) e (by rw[hj,e3]) (fun _ _ _ h=>h.join_r e3)
   .exact .gone _
 |mapb x kk ka vk va=>
  cases y with
  |pad=>exact .gone _
  |gone=>exact .gone _
  |cells=>exact .gone _
  |tok=>exact .gone _
  |lp=>exact .gone _
  |mrow=>exact .gone _
  |mapb x' kk' ka' vk' va'=>
   simp only[DJ] at hnew hl⊢;split
   .rename_i hc;simp only[vo,beq_iff_eq] at hc;obtain⟨⟨⟨⟨c1,c2⟩,c3⟩,c4⟩,c5⟩:=hc;have e1:=vp c1;have e2:=Kd.beqs_eq _ _ c2;have e4:=Kd.beqs_eq _ _ c4;subst e1;subst e2;subst e4;subst c3;subst c5;cases b<;>exact .mapb (.inl rfl) rfl (fun _ _ _ h=>h) (fun _ _ _ h=>h)
   .rename_i hc;simp only[hc] at hnew hl;split
    .rename_i hd;simp only[wM,if_false,hd,if_true] at hnew hl;simp only[vo,beq_iff_eq] at hd;obtain⟨⟨⟨c2,c3⟩,c4⟩,c5⟩:=hd;have e2:=vp c2;have e4:=vp c4;subst c3;subst c5;simp only[List.length_singleton] at hl;have e:=hnew.head;rw[GG hsb] at e;cases b with
     |true=>exact .mapb (.inr (by omega)) e (fun _ _ _ h=>h.join_l e2) (fun _ _ _ h=>h.join_l e4)
     |false=>exact .mapb (.inr (by omega)) e (fun _ _ _ h=>h.join_r e2) (fun _ _ _ h=>h.join_r e4)
    .exact .gone _
 |tok x ks e=>
  cases y with
  |gone=>exact .gone _
  |cells=>exact .gone _
  |lp=>exact .gone _
  |mrow=>exact .gone _
  |mapb=>exact .gone _
  |pad=>
   simp only[DJ] at hnew hl⊢;simp only[List.length_singleton] at hl;have e:=hnew.head;rw[GG hsb] at e;cases b with
   |false=>exact .new hk (by omega) e
   |true=>exact .tok hk (by omega) e rfl
  |tok x' ks' e'=>
   simp only[DJ] at hnew hl⊢;split
   .rename_i hb;simp only[vo] at hb;have e1:=vp hb.1.1;have e2:=vp hb.2;have e3:=Kd.beqs_eq _ _ hb.1.2;subst e1;subst e2;subst e3;cases b<;>exact .same _ _ _
   .rename_i hb;simp only[hb] at hnew hl;split
    .rename_i hc;obtain⟨rfl,hc⟩:=hc;simp only[hc,and_self,if_true,wM,if_false] at hnew hl;simp only[List.length_singleton] at hl;have e:=hnew.head;rw[GG hsb] at e;have hj:=Kd.joins_len ks ks' hc;cases b with
     |true=>exact .tok hk (by omega) e hj
     |false=>exact .tok hk (by omega) e (by rw[hj,hc])
    .exact .gone _
theorem iU (id:Nat):Mem.at [] id= .pad:=rfl
theorem Nh (x:Blk)(m:Mem):Mem.at (x::m) 0=x:=rfl
theorem Gb (x:Blk)(m:Mem)(id:Nat):Mem.at (x::m) (id+1)=Mem.at m id:=by simp[Mem.at]
theorem Ln (m:Mem):m.headD .pad=m.at 0:=by cases m<;>rfl
theorem Q3 (m:Mem)(id:Nat):Mem.at m.tail id=m.at (id+1):=by cases m with
 |nil=>rfl
 |cons x m=>exact (Gb x m id).symm
theorem R5:∀(m2:Mem) (n0 id:Nat),∃k,n0<=k/\k+(DJ k sb .pad (m2.at id)).2.length<=n0+(FR sb n0 m2).2.length/\(FR sb n0 m2).1.at id=(DJ k sb .pad (m2.at id)).1/\
  ∀T,New T n0 (FR sb n0 m2).2->New T k (DJ k sb .pad (m2.at id)).2
 |[],n0,id=>⟨n0,vr _,vr _,rfl,fun _ h=>h⟩
 |y::m2,n0,0=>by
  refine⟨n0,vr _,?_,rfl,fun T h=>?_⟩
  .simp only[FR,wC,Nh];omega
  .simp only[FR] at h;exact h.left
 |y::m2,n0,id+1=>by
  obtain⟨k,h1,h2,h3,h4⟩:=R5 m2 (n0+(DJ n0 sb .pad y).2.length) id;refine⟨k,by omega,?_,?_,fun T h=>?_⟩
  .simp only[FR,wC,Gb];omega
  .simp only[FR,Gb];exact h3
  .simp only[FR] at h;rw[Gb];exact h4 T h.right
theorem RV:∀(m1 m2:Mem) (n0 id:Nat),∃k,n0<=k/\k+(DJ k sb (m1.at id) (m2.at id)).2.length<=n0+(BR sb n0 m1 m2).2.length/\(BR sb n0 m1 m2).1.at id=(DJ k sb (m1.at id) (m2.at id)).1/\
  ∀T,New T n0 (BR sb n0 m1 m2).2->New T k (DJ k sb (m1.at id) (m2.at id)).2
 |[],m2,n0,id=>R5 m2 n0 id
 |x::m1,m2,n0,0=>by
  refine⟨n0,vr _,?_,?_,fun T h=>?_⟩
  .simp only[BR,wC,Nh,Ln];omega
  .simp only[BR,Nh,Ln]
  .simp only[BR] at h;rw[Ln] at h;exact h.left
 |x::m1,m2,n0,id+1=>by
  obtain⟨k,h1,h2,h3,h4⟩:=RV m1 m2.tail (n0+(DJ n0 sb x (m2.headD .pad)).2.length) id;rw[Q3] at h2 h3 h4;refine⟨k,by omega,?_,?_,fun T h=>?_⟩
  .simp only[BR,wC,Gb];omega
  .simp only[BR,Gb];exact h3
  .simp only[BR] at h;rw[Gb];exact h4 T h.right
def Bt (m:Mem)(ρ :Nat->Option Nat):Nat->Option Nat:=fun id=>match m.at id with| .pad=>none|_=> ρ id
theorem GH {id:Nat}(h:m.at id= .pad):Bt m ρ id=none:=by simp[Bt,h]
theorem CF {id:Nat}(h:m.at id≠ .pad):Bt m ρ id= ρ id:=by
 unfold Bt;split
 .rename_i hp;exact absurd hp h
 .rfl
theorem EW {m':Mem}(_hm:AD T n ρ m w)(h:∀id,CN T n n' w (m.at id) (m'.at id)):AE T n ρ m w (Bt m ρ) m' w where
 os:=rfl
 tape:=rfl
 output:=rfl
 size:=vr _
 mlen:=fun id hp=>by
  have:=h id;generalize m.at id=s at this hp;generalize m'.at id=z at this;cases this<;>first|exact absurd rfl hp|(intro h;cases h)
 rho:=fun id hp=>by
  refine⟨CF (A7 hp),?_⟩;have:=h id;generalize m.at id=s at this hp;generalize m'.at id=z at this;cases this<;>first|rfl|cases hp
 untr:=fun id hp ht=>by
  have:=h id;generalize m.at id=s at this hp;generalize m'.at id=z at this ht;cases this<;>first|rfl|exact absurd rfl hp|cases ht
 fresh:=fun id b hp _ hr=>by rw[GH hp] at hr;cases hr
 old:=fun _ _ _=>rfl
 tok:=fun id x ks e hx=>by
  have:=h id;have hne:m.at id≠ .pad:=by rw[hx];exact fun h=>by cases h
  rw[hx] at this;generalize hz:m'.at id=z at this;cases this with
  |gone=>exact .inr ⟨fun _ _ _ _=>rfl,.inl rfl⟩
  |same=>exact .inl ⟨rfl,CF hne,fun _ _=>rfl⟩
  |tok h1 h2 h4 h5=>
   rename_i k ks';refine .inr ⟨fun _ _ _ _=>rfl,.inr ⟨k,ks',e,rfl,h1,fun b' hb=> .inl ⟨by rw[<-CF (ρ := ρ) hne];exact hb,?_⟩⟩⟩;simp only[Bu,h4,h5];exact vr _
 row:=fun id x y ks e hx=>by
  have:=h id;have hne:m.at id≠ .pad:=by rw[hx];exact fun h=>by cases h
  rw[hx] at this;generalize hz:m'.at id=z at this;cases this with
  |gone=>exact .inl rfl
  |mrow h2 h4 h5 h6=>exact .inr ⟨_,y,_,rfl,h5,.inl ⟨rfl,CF hne,fun b vs _ hv=>⟨vs,hv,rfl⟩⟩⟩
theorem Ao.conv {ok:Nat->Nat->Prop}{ks ks':List Kd}(h:∀us vs,AJ ok w ks us vs->AJ ok w ks' us vs):∀{l:List (List U)} {vss:List (List Value)},Ao ok w ks l vss->Ao ok w ks' l vss
 |[],_,hh=>hh
 |_::_,_,⟨vs,vss',e,h1,h2⟩=>⟨vs,vss',e,h _ _ h1,h2.conv h⟩
theorem LJ {m':Mem}(hm:AD T n ρ m w)(hn:n<=n')(h:∀id,CN T n n' w (m.at id) (m'.at id)):AD T n' (Bt m ρ) m' w where
 blk:=fun id=>by
  have hst:=EW hm h;have hb:=hm.blk id;have ht:=h id;cases hs:m.at id with
  |pad=>
   rw[hs] at ht;generalize hz:m'.at id=z at ht;cases ht with
   |pad=>trivial
   |gone=>trivial
   |new h1 h2 h4=>exact⟨h2,_,h4,.inl (GH hs)⟩
  |gone=>
   rw[hs] at ht;generalize hz:m'.at id=z at ht;cases ht;trivial
  |cells l e=>
   have hne:m.at id≠ .pad:=by rw[hs];exact fun h=>by cases h
   rw[hs] at ht hb;obtain⟨b,vs,h1,h2,h3⟩:=hb;generalize hz:m'.at id=z at ht;cases ht with
   |gone=>trivial
   |cells hc=>
    exact⟨b,vs,by rw[CF hne];exact h1,h2,hc _ _ vs (AB.mono hst hm (vr _) _ vs h3)⟩
  |lp x st=>
   have hne:m.at id≠ .pad:=by rw[hs];exact fun h=>by cases h
   rw[hs] at ht hb;obtain⟨b,q,h1,h2,h3,h4,h5,h9,h6,j,h7,h8⟩:=hb;generalize hz:m'.at id=z at ht;cases ht with
   |gone=>trivial
   |lp hc=>
    exact⟨b,q,by rw[CF hne];exact h1,h2,h3,h4,h5,h9,fun i c hcc=>AA.mono hst hm hn _ _ (h6 i c hcc),j,hc _ _ _ (AA.mono hst hm (vr _) _ _ h7),h8⟩
  |tok x ks e=>
   have hne:m.at id≠ .pad:=by rw[hs];exact fun h=>by cases h
   rw[hs] at ht hb;obtain⟨h0,r,h1,h2⟩:=hb;generalize hz:m'.at id=z at ht;cases ht with
   |gone=>trivial
   |same=>
    refine⟨vw h0 hn,r,h1,?_⟩;rw[CF hne];exact h2
   |tok k1 k2 k4 k5=>
    refine⟨k2,r,by rw[k4,h1],?_⟩;rw[CF hne,k5];exact h2
  |mrow x y ks e=>
   have hne:m.at id≠ .pad:=by rw[hs];exact fun h=>by cases h
   rw[hs] at ht hb;obtain⟨h0,r,h1,h2,⟨h3,h3'⟩,h4⟩:=hb;generalize hz:m'.at id=z at ht;cases ht with
   |gone=>trivial
   |mrow k2 k4 k5 k6=>
    refine⟨⟨?_,vw h0.2 hn⟩,r,by rw[k4,h1],h2,⟨h3,fun h=>h3' (List.length_eq_zero_iff.1 (by rw[<-k5,h];rfl))⟩,?_⟩
    .rcases k2 with k2|k2
     .rw[k2];exact vw h0.1 hn
     .exact k2
    .rw[CF hne];rcases h4 with h4|⟨b,vs,us,q1,q2,⟨vss,q3,q5⟩,q4⟩
     .exact .inl h4
     .exact .inr ⟨b,vs,us,q1,q2,⟨vss,q3,Ao.conv (k6 _) (Ao.mono (fun _ _ hs=>hst.safe0 hs) q5)⟩,q4⟩
  |mapb x kk ka vk va=>
   have hne:m.at id≠ .pad:=by rw[hs];exact fun h=>by cases h
   rw[hs] at ht hb;obtain⟨h0,l,b,es,cl,h1,h2,h3,h4,h5,h6,h7⟩:=hb;generalize hz:m'.at id=z at ht;cases ht with
   |gone=>trivial
   |mapb k2 k4 k5 k6=>
    refine⟨?_,l,b,es,cl,by rw[k4,h1],by rw[CF hne];exact h2,h3,h4,h5,fun i us e hl he=>?_,h7⟩
    .rcases k2 with k2|k2
     .rw[k2];exact vw h0 hn
     .exact k2
    .obtain⟨u1,u2,q1,⟨vs1,q2,q3⟩,⟨vs2,q4,q5⟩⟩:=h6 i us e hl he;exact⟨u1,u2,q1,⟨vs1,k5 _ _ _ (AJ.mono (fun _ _ hs=>hst.safe0 hs) q2),q3⟩,⟨vs2,k6 _ _ _ (AJ.mono (fun _ _ hs=>hst.safe0 hs) q4),q5⟩⟩
 fr:=hm.fr
 inj:=fun id id' b ht ht' h1 h2=>by
  have hst:=EW hm h;have old:∀id,(m'.at id).tracked=true->Bt m ρ id=some b->(m.at id).tracked=true/\ ρ id=some b:=by
   intro id ht hr;by_cases hp:m.at id= .pad
   .rw[GH hp] at hr;cases hr
   .exact⟨hst.untr id hp ht,by rw[<-CF (ρ := ρ) hp];exact hr⟩
  obtain⟨a1,a2⟩:=old id ht h1;obtain⟨a3,a4⟩:=old id' ht' h2;exact hm.inj id id' b a1 a3 a2 a4
end
theorem bB {kx ky:List Kd}(h:kx.length=ky.length):Kd.join (.list kx) (.list ky)= .list (Kd.joins kx ky):=by
 cases kx with
 |nil=>cases ky with
  |nil=>rfl
  |cons=>simp at h
 |cons a l=>cases ky with
  |nil=>simp at h
  |cons c l'=>
   simp only[Kd.join];rw[if_pos h]
section
variable {T:Tab}{ρ :Nat->Option Nat}{m m1 m2:Mem}{w:World}{b:Bool}{sb:Rf}{n n':Nat}
theorem Nb (hsb:(sb.eval T).toB=b){n0:Nat}(hn0:n<=n0)(hnew:New T n0 (BR sb n0 m1 m2).2)(hl:n0+(BR sb n0 m1 m2).2.length<=n'):
  ∀id,CN T n n' w ((sel b m1 m2).at id) ((BR sb n0 m1 m2).1.at id):=by
 intro id;obtain⟨k,h1,h2,h3,h4⟩:=RV (sb:=sb) m1 m2 n0 id;rw[h3];have e:(sel b m1 m2).at id=sel b (m1.at id) (m2.at id):=by cases b<;>rfl
 rw[e];exact fW hsb (h4 T hnew) (by omega) (by omega)
theorem ND (hsb:(sb.eval T).toB=b){n0 id z:Nat}{kz:List Kd}{e:TypeId}(hnew:New T n0 (BR sb n0 m1 m2).2)(hl:n0+(BR sb n0 m1 m2).2.length<=n')(hz:(BR sb n0 m1 m2).1.at id= .tok z kz e):
  (∀x kx y ky e1 e2,m1.at id= .tok x kx e1->m2.at id= .tok y ky e2->e1=e/\e2=e/\((z=x/\z=y/\kz=kx/\kz=ky)\/(z < n'/\T z=sel b (T x) (T y)/\kx.length=ky.length/\kz=Kd.joins kx ky)))/\
  (∀x kx e1,m1.at id= .tok x kx e1->m2.at id= .pad->e1=e/\kz=kx/\z < n'/\T z=sel b (T x) (.list []))/\
  (∀y ky e2,m1.at id= .pad->m2.at id= .tok y ky e2->e2=e/\kz=ky/\z < n'/\T z=sel b (.list []) (T y)):=by
 obtain⟨k,h1,h2,h3,h4⟩:=RV (sb:=sb) m1 m2 n0 id;rw[h3] at hz;have hnk:=h4 T hnew;refine⟨fun x kx y ky e1 e2 a1 a2=>?_,fun x kx e1 a1 a2=>?_,fun y ky e2 a1 a2=>?_⟩
 .rw[a1,a2] at hz hnk h2;simp only[DJ] at hz hnk h2;split at hz
  .rename_i hb;simp only[vo] at hb;have i1:=vp hb.1.1;have i2:=vp hb.2;have i3:=Kd.beqs_eq _ _ hb.1.2;injection hz with j1 j2 j3
   exact⟨j3,by rw[<-i2];exact j3,.inl ⟨j1.symm,by rw[<-i1];exact j1.symm,j2.symm,by rw[<-i3];exact j2.symm⟩⟩
  .rename_i hb;simp only[hb] at hnk h2;split at hz
   .rename_i hc;obtain⟨rfl,hc⟩:=hc;simp only[hc,and_self,if_true,wM,if_false] at hnk h2;simp only[List.length_singleton] at h2;injection hz with j1 j2 j3
    refine⟨j3,j3,.inr ⟨by omega,?_,hc,j2.symm⟩⟩;rw[<-j1,hnk.head,GG hsb];rfl
   .cases hz
 .rw[a1,a2] at hz hnk h2;simp only[DJ] at hz hnk h2;simp only[List.length_singleton] at h2;injection hz with j1 j2 j3
  refine⟨j3,j2.symm,by omega,?_⟩;rw[<-j1,hnk.head,GG hsb];rfl
 .rw[a1,a2] at hz hnk h2;simp only[DJ] at hz hnk h2;simp only[List.length_singleton] at h2;injection hz with j1 j2 j3
  refine⟨j3,j2.symm,by omega,?_⟩;rw[<-j1,hnk.head,GG hsb];rfl
theorem HO {id x z:Nat}{kx kz:List Kd}{e:TypeId}{v:Value}(hst:AE T n ρ m1 w (Bt m1 ρ) m w)(h:AA T n ρ m1 w (.vec id x kx) v)(ht:m1.at id= .tok x kx e)(hz:m.at id= .tok z kz e)(hzn:z < n')(hTz:T z=T x)
  (hlen:kz.length=kx.length) (hk:∀ok:Nat->Nat->Prop,AM ok w (.list kx) (T x) v->AM ok w (.list kz) (T x) v):AA T n' (Bt m1 ρ) m w (.vec id z kz) v:=by
 obtain⟨h2,h3,h4,h5⟩:=h;refine⟨hzn,by rw[hz];exact (fun h=>by cases h),?_,fun ks' e' he=>?_⟩
 .rw[hTz];exact hk _ (AM.mono (fun _ _ hs=>hst.safe0 hs) _ _ v h4)
 .rw[hz] at he;injection he with _ he1 he2
  subst he1;subst he2;rcases h5 kx e ht with⟨l1,l2⟩|⟨bb,cap,vs,l1,l2,l3,l4⟩
  .exact .inl ⟨by rw[CF h3];exact l1,by rw[hTz];exact l2⟩
  .exact .inr ⟨bb,cap,vs,by rw[CF h3];exact l1,by rw[hTz];exact l2,l3,by rw[hlen];exact l4⟩
theorem SC (hsb:(sb.eval T).toB=b)(hm:AD T n ρ (sel b m1 m2) w){n0:Nat}(hn0:n<=n0)(hnew:New T n0 (BR sb n0 m1 m2).2)(hl:n0+(BR sb n0 m1 m2).2.length<=n'){c d a:AC}{v:Value}
  (ha:Ew (BR sb n0 m1 m2).1 m1 m2 c d=some a)
  (h1:AA T n ρ (sel b m1 m2) w (sel b c d) v):AA T n' (Bt (sel b m1 m2) ρ) (BR sb n0 m1 m2).1 w a v:=by
 have hst:=EW hm (Nb (n:=n) hsb hn0 hnew hl);have hto:∀{id:Nat} {a:AC},Jo (BR sb n0 m1 m2).1 id=some a->∃z ks e,(BR sb n0 m1 m2).1.at id= .tok z ks e/\a= .vec id z ks:=by
  intro id a h;unfold Jo at h;split at h
  .rename_i z ks e hz;cases h;exact⟨z,ks,e,hz,rfl⟩
  .cases h
 unfold Ew at ha;simp only at ha;split at ha
 .rename_i id x kx id' x' kx';split at ha
  .rename_i hid;have:=vp hid;subst this;split at ha
   .rename_i y ky e y' ky' e' hy hy';split at ha
    .rename_i hxy;simp only[vo] at hxy;have i1:=vp hxy.1.1.1;have i2:=vp hxy.1.1.2;have i3:=Kd.beqs_eq _ _ hxy.1.2;have i4:=Kd.beqs_eq _ _ hxy.2;subst i1;subst i2;subst i3;subst i4;obtain⟨z,kz,e2,hz,rfl⟩:=hto ha;obtain⟨j1,j2,j3⟩:=(ND hsb hnew hl hz).1 x kx x' kx' e e' hy hy';subst j1;subst j2;rcases j3 with⟨q1,q2,q3,q4⟩|⟨q1,q2,q3,q4⟩
     .cases b with
      |true=>
       have hx:x < n:=h1.1;exact HO hst h1 hy hz (by rw[q1];omega) (by rw[q1]) (by rw[q3]) fun ok h=>by rw[q3];exact h
      |false=>
       have hx:x' < n:=h1.1;exact HO hst h1 hy' hz (by rw[q2];omega) (by rw[q2]) (by rw[q4]) fun ok h=>by rw[q4];exact h
     .have hjl:=Kd.joins_len kx kx' q3;have hjj:=bB q3;cases b with
      |true=>exact HO hst h1 hy hz q1 q2 (by rw[q4,hjl]) fun ok h=>by rw[q4,<-hjj];exact Kd.join_l _ _ _ _ h
      |false=>exact HO hst h1 hy' hz q1 q2 (by rw[q4,hjl,q3]) fun ok h=>by rw[q4,<-hjj];exact Kd.join_r _ _ _ _ h
    .cases ha
   .cases ha
  .cases ha
 .rename_i id x kx;split at ha
  .rename_i y ky e hy hy';split at ha
   .rename_i hxy;simp only[vo] at hxy;have i1:=vp hxy.1;have i3:=Kd.beqs_eq _ _ hxy.2;subst i1;subst i3;obtain⟨z,kz,e2,hz,rfl⟩:=hto ha;obtain⟨j1,q0,q1,q2⟩:=(ND hsb hnew hl hz).2.1 x kx e hy hy';subst j1;subst q0;cases b with
    |true=>exact HO hst h1 hy hz q1 q2 rfl fun ok h=>h
    |false=>
     have hv:v= .slice none 0 0:=h1;subst hv;refine⟨q1,by rw[hz];exact (fun h=>by cases h),by rw[q2];exact Fg _ _,fun ks' e' _=> .inl ⟨GH hy',none,by rw[q2];rfl⟩⟩
   .cases ha
  .cases ha
 .rename_i id x kx;split at ha
  .rename_i y ky e hy hy';split at ha
   .rename_i hxy;simp only[vo] at hxy;have i1:=vp hxy.1;have i3:=Kd.beqs_eq _ _ hxy.2;subst i1;subst i3;obtain⟨z,kz,e2,hz,rfl⟩:=hto ha;obtain⟨j1,q0,q1,q2⟩:=(ND hsb hnew hl hz).2.2 x kx e hy hy';subst j1;subst q0;cases b with
    |false=>exact HO hst h1 hy' hz q1 q2 rfl fun ok h=>h
    |true=>
     have hv:v= .slice none 0 0:=h1;subst hv;refine⟨q1,by rw[hz];exact (fun h=>by cases h),by rw[q2];exact Fg _ _,fun ks' e' _=> .inl ⟨GH hy,none,by rw[q2];rfl⟩⟩
   .cases ha
  .cases ha
 .cases ha
theorem Q9 {m:Mem}:∀(r b1 b2:Mem) (id:Nat),(PG m m1 m2 r b1 b2).at id=Vm m m1 m2 (b1.at id) (b2.at id) (r.at id)
 |[],b1,b2,id=>by
  show Blk.pad=_;simp only[iU];cases b1.at id<;>cases b2.at id<;>rfl
 |z::r,b1,b2,0=>by simp only[PG,Nh,Ln]
 |z::r,b1,b2,id+1=>by
  simp only[PG,Gb];rw[Q9 r b1.tail b2.tail id,Q3,Q3]
theorem MD {m:Mem}(x y z:Blk):Vm m m1 m2 x y z=z\/∃l e1 l' e2 r e,x= .cells l e1/\y= .cells l' e2/\z= .cells r e/\Vm m m1 m2 x y z= .cells (Fu m m1 m2 l l' r) e:=by
 cases x<;>cases y<;>cases z<;>first|exact .inl rfl|exact .inr ⟨_,_,_,_,_,_,rfl,rfl,rfl,rfl⟩
theorem QR {k:Nat}{m m':Mem}(h:∀id,m'.at id=m.at id\/∃l l' e,m.at id= .cells l e/\m'.at id= .cells l' e):AE T k ρ m w ρ m' w where
 os:=rfl
 tape:=rfl
 output:=rfl
 size:=vr _
 mlen:=fun id hp=>by
  rcases h id with e|⟨l,l',e,h1,h2⟩
  .rw[e];exact hp
  .rw[h2];exact fun h=>by cases h
 rho:=fun id hp=>by
  refine⟨rfl,?_⟩;rcases h id with e|⟨l,l',e,h1,h2⟩
  .rw[e];exact hp
  .rw[h2];rfl
 untr:=fun id hp ht=>by
  rcases h id with e|⟨l,l',e,h1,h2⟩
  .rw[<-e];exact ht
  .rw[h1];rfl
 fresh:=fun id b hp ht hr=>by
  rcases h id with e|⟨l,l',e,h1,h2⟩
  .rw[e,hp] at ht;cases ht
  .rw[hp] at h1;cases h1
 old:=fun _ _ _=>rfl
 tok:=fun id x ks e hx=>by
  rcases h id with e1|⟨l,l',e2,h1,h2⟩
  .exact .inl ⟨by rw[e1];exact hx,rfl,fun _ _=>rfl⟩
  .rw[hx] at h1;cases h1
 row:=fun id x y ks e hx=>by
  rcases h id with e1|⟨l,l',e2,h1,h2⟩
  .exact .inr ⟨x,y,ks,by rw[e1];exact hx,rfl,.inl ⟨rfl,rfl,fun _ vs _ hv=>⟨vs,hv,rfl⟩⟩⟩
  .rw[hx] at h1;cases h1
theorem ZV {k:Nat}{m m':Mem}(hm:AD T k ρ m w)(h:∀id,m'.at id=m.at id\/∃l l' e,m.at id= .cells l e/\m'.at id= .cells l' e/\∀vs b, ρ id=some b->w.heap[b]? =some (.cells (vs:List Value).toArray e (0,0))->AB T k ρ m w l vs->AB T k ρ m w l' vs):AD T k ρ m' w:=by
 have hst:AE T k ρ m w ρ m' w:=QR fun id=>by
  rcases h id with e|⟨l,l',e,h1,h2,_⟩
  .exact .inl e
  .exact .inr ⟨l,l',e,h1,h2⟩
 refine⟨fun id=>?_,fun id id' b h1 h2=>?_,hm.fr⟩
 .have hb:=hm.blk id;rcases h id with e|⟨l,l',e,h1,h2,h3⟩
  .exact BB.step hst hm (vr _) e rfl (fun _ _=>rfl)
  .rw[h1] at hb;obtain⟨b,vs,q1,q2,q3⟩:=hb;rw[h2];exact⟨b,vs,q1,q2,AB.mono hst hm (vr _) _ vs (h3 vs b q1 q2 q3)⟩
 .have tr:∀id,(m'.at id).tracked=(m.at id).tracked:=fun id=>by
   rcases h id with e|⟨l,l',e,h1,h2,_⟩
   .rw[e]
   .rw[h1,h2];rfl
  rw[tr] at h1 h2;exact hm.inj id id' b h1 h2
theorem OL {m:Mem}{k1 k2:Nat}{ρ1 ρ2:Nat->Option Nat}{ms:Mem}(hr:∀c d a v,Ew m m1 m2 c d=some a->AA T k1 ρ1 ms w (sel b c d) v->AA T k2 ρ2 m w a v):
  ∀(l l' r:List AC) (vs:List Value),AB T k1 ρ1 ms w (sel b l l') vs->AB T k2 ρ2 m w r vs->AB T k2 ρ2 m w (Fu m m1 m2 l l' r) vs
 |c::l,d::l',a::r,vs,h1,h2=>by
  obtain⟨u,us,e,h3,h4⟩:=h2;have h1':∃u us,vs=u::us/\AA T k1 ρ1 ms w (sel b c d) u/\AB T k1 ρ1 ms w (sel b l l') us:=by cases b<;>exact h1
  obtain⟨u',us',e',h5,h6⟩:=h1';rw[e] at e';injection e' with e1 e2
  subst e1;subst e2;refine⟨u,us,e,?_,OL hr l l' r us h6 h4⟩;cases hx:Ew m m1 m2 c d with
  |none=>exact h3
  |some z=>exact hr c d z u hx h5
 |[],_,r,vs,_,h2=>by simpa [Fu] using h2
 |_::_,[],r,vs,_,h2=>by simpa [Fu] using h2
 |_::_,_::_,[],vs,_,h2=>by simpa [Fu] using h2
theorem K5 (hsb:(sb.eval T).toB=b)(hm:AD T n ρ (sel b m1 m2) w){n0:Nat}(hn0:n<=n0)(hnew:New T n0 (BT sb n0 m1 m2).2)(hl:n0+(BT sb n0 m1 m2).2.length<=n'):
  AD T n' (Bt (sel b m1 m2) ρ) (BT sb n0 m1 m2).1 w/\AE T n ρ (sel b m1 m2) w (Bt (sel b m1 m2) ρ) (BT sb n0 m1 m2).1 w/\AE T n' (Bt (sel b m1 m2) ρ) (BR sb n0 m1 m2).1 w (Bt (sel b m1 m2) ρ) (BT sb n0 m1 m2).1 w/\AD T n' (Bt (sel b m1 m2) ρ) (BR sb n0 m1 m2).1 w:=by
 have hnew0:New T n0 (BR sb n0 m1 m2).2:=hnew;have hl0:n0+(BR sb n0 m1 m2).2.length<=n':=hl;have ht:=Nb (n:=n) (n':=n') (w:=w) hsb hn0 hnew0 hl0;have hmem:=LJ hm (by omega) ht;have hst:=EW hm ht;have hat:∀id,(BT sb n0 m1 m2).1.at id=Vm (BR sb n0 m1 m2).1 m1 m2 (m1.at id) (m2.at id) ((BR sb n0 m1 m2).1.at id):=fun id=>Q9 _ _ _ id;have hstep:AE T n' (Bt (sel b m1 m2) ρ) (BR sb n0 m1 m2).1 w (Bt (sel b m1 m2) ρ) (BT sb n0 m1 m2).1 w:=QR fun id=>by
  rw[hat];rcases MD (m:=(BR sb n0 m1 m2).1) (m1:=m1) (m2:=m2) (m1.at id) (m2.at id) ((BR sb n0 m1 m2).1.at id) with e|⟨l,e1,l',e2,r,e,_,_,h3,h4⟩
  .exact .inl e
  .exact .inr ⟨r,_,e,h3,h4⟩
 refine⟨ZV hmem fun id=>?_,hst.trans hm (by omega) hstep,hstep,hmem⟩;rw[hat];rcases MD (m:=(BR sb n0 m1 m2).1) (m1:=m1) (m2:=m2) (m1.at id) (m2.at id) ((BR sb n0 m1 m2).1.at id) with e|⟨l,e1,l',e2,r,e,h1,h2,h3,h4⟩
 .exact .inl e
 .refine .inr ⟨r,_,e,h3,h4,fun vs bb q1 q2 q3=>?_⟩;have hb:=hm.blk id;have hsel:(sel b m1 m2).at id= .cells (sel b l l') (sel b e1 e2):=by cases b with|true=>exact h1|false=>exact h2
  rw[hsel] at hb;obtain⟨b0,vs0,p1,p2,p3⟩:=hb;have hne:(sel b m1 m2).at id≠ .pad:=by rw[hsel];exact fun h=>by cases h
  rw[CF hne,p1] at q1;cases q1;rw[p2] at q2;injection q2 with q2
  injection q2 with q2
  have q2':vs0=vs:=by simpa using q2
  subst q2';exact OL (b:=b) (fun c d a v hc hv=>SC hsb hm hn0 hnew0 hl0 hc hv) l l' r _ p3 q3
theorem Ya {m:Mem}{r b1 b2:Mem}(c d:AC):Ew (PG m m1 m2 r b1 b2) m1 m2 c d=Ew r m1 m2 c d:=by
 have ht:∀id,Jo (PG m m1 m2 r b1 b2) id=Jo r id:=fun id=>by
  unfold Jo;rw[Q9];rcases MD (m:=m) (m1:=m1) (m2:=m2) (b1.at id) (b2.at id) (r.at id) with e|⟨l,e1,l',e2,q,e,_,_,h3,h4⟩
  .rw[e]
  .rw[h4,h3]
 unfold Ew;simp only[ht]
theorem bu (hsb:(sb.eval T).toB=b)(hm:AD T n ρ (sel b m1 m2) w){n0:Nat}(hn0:n<=n0)(hnew:New T n0 (BT sb n0 m1 m2).2)(hl:n0+(BT sb n0 m1 m2).2.length<=n'){c d:AC}{v:Value}{k:Nat}
  (hk:n<=k)
  (hnew':New T k (N3 (BT sb n0 m1 m2).1 m1 m2 sb k c d).2)
  (hl':k+(N3 (BT sb n0 m1 m2).1 m1 m2 sb k c d).2.length<=n')
  (h1:AA T n ρ (sel b m1 m2) w (sel b c d) v):AA T n' (Bt (sel b m1 m2) ρ) (BT sb n0 m1 m2).1 w (N3 (BT sb n0 m1 m2).1 m1 m2 sb k c d).1 v:=by
 obtain⟨_,hst,hst2,hm2⟩:=K5 hsb hm hn0 hnew hl;have hrl:Ew (BT sb n0 m1 m2).1 m1 m2 c d=Ew (BR sb n0 m1 m2).1 m1 m2 c d:=Ya c d;unfold N3 at hnew' hl'⊢;rw[hrl] at hnew' hl'⊢;split
 .rename_i a ha;exact AA.mono hst2 hm2 (vr _) _ _ (SC hsb hm hn0 hnew hl ha h1)
 .rename_i hr;rw[hr] at hnew' hl';simp only at hnew' hl';have h2:=AA.mono hst hm (vr _) _ _ h1;refine Qv (n:=n) hsb (by omega) hnew' hl' (fun hb=>?_) (fun hb=>?_)
  .subst hb;exact h2
  .subst hb;exact h2
theorem Tr.get_node (v:Option AC)(l r:Tr)(i:Nat):(Tr.node v l r).get i=if i=0 then v else if i % 2=1 then l.get (i / 2) else r.get (i / 2 - 1):=by
 rw[Tr.get_step];rfl
theorem O3 {f:Nat->AC->AC->AC × List Ex}:∀(t1 t2:Tr) (n0:Nat),New T n0 (Dp f n0 t1 t2).2->n0+(Dp f n0 t1 t2).2.length<=n'->∀(i:Nat) (c:AC),(Dp f n0 t1 t2).1.get i=some c->
  ∃k c1 c2,n0<=k/\t1.get i=some c1/\t2.get i=some c2/\c=(f k c1 c2).1/\New T k (f k c1 c2).2/\k+(f k c1 c2).2.length<=n'
 | .nil,t2,n0,_,_,i,c,h=>by simp[Dp,Tr.get] at h
 | .node v l r,.nil,n0,_,_,i,c,h=>by simp[Dp,Tr.get] at h
 | .node v l r,.node v' l' r',n0,hnew,hl,i,c,h=>by
  rw[Tr.get_node,Tr.get_node];have e:Dp f n0 (.node v l r) (.node v' l' r')=(.node (KV f n0 v v').1 (Dp f (n0+(KV f n0 v v').2.length) l l').1 (Dp f (n0+(KV f n0 v v').2.length+(Dp f (n0+(KV f n0 v v').2.length) l l').2.length) r r').1,(KV f n0 v v').2++((Dp f (n0+(KV f n0 v v').2.length) l l').2++(Dp f (n0+(KV f n0 v v').2.length+(Dp f (n0+(KV f n0 v v').2.length) l l').2.length) r r').2)):=rfl;rw[e] at hnew hl h;simp only[wC] at hl;rw[Tr.get_node] at h;by_cases h0:i=0
  .rw[if_pos h0] at h⊢;rw[if_pos h0];cases v with
   |none=>cases v'<;>cases h
   |some a=>
    cases v' with
    |none=>cases h
    |some a'=>
     cases h;refine⟨n0,a,a',vr _,rfl,rfl,rfl,hnew.left,?_⟩;simp only[KV] at hl;omega
  .rw[if_neg h0] at h⊢;rw[if_neg h0];by_cases h1:i % 2=1
   .rw[if_pos h1] at h⊢;rw[if_pos h1];obtain⟨k,c1,c2,q1,q2⟩:=O3 l l' _ hnew.right.left (by omega) _ c h;exact⟨k,c1,c2,by omega,q2⟩
   .rw[if_neg h1] at h⊢;rw[if_neg h1];obtain⟨k,c1,c2,q1,q2⟩:=O3 r r' _ hnew.right.right (by omega) _ c h;exact⟨k,c1,c2,by omega,q2⟩
theorem AO.get_flat {s:AO}{i:Nat}{c:AC}(h:s.flat.get i=some c):s.get i=some c:=by
 unfold AO.flat at h;split at h
 .rename_i hl;have:s.loc=[]:=by simpa using hl
  simp[AO.get,this,A6,h]
 .cases h
theorem SY (hsb:(sb.eval T).toB=b){l1 l2:Loc}(hll:l1.tmps.n=l2.tmps.n){n0:Nat}(hn0:n<=n0)(hnew:New T n0 (FX n0 sb l1 l2).2)(hl:n0+(FX n0 sb l1 l2).2.length<=n'){a:Act}(h:Rel T n ρ (sel b l1 l2) a w):
  ∃ ρ',AE T n ρ (sel b l1 l2).mem w ρ' (FX n0 sb l1 l2).1.mem w/\Rel T n' ρ' (FX n0 sb l1 l2).1 a w:=by
 have em:(sel b l1 l2).mem=sel b l1.mem l2.mem:=by cases b<;>rfl
 have et:(sel b l1 l2).tmps=sel b l1.tmps l2.tmps:=by cases b<;>rfl
 have hm:=h.mem;rw[em] at hm;simp only[FX,wC] at hnew hl⊢;obtain⟨hmem,hst,-,-⟩:=K5 (n':=n') hsb hm hn0 hnew.left (by omega);rw[em];have hd:=h.defers;rw[em] at hd;refine⟨_,hst,hd.on hst,?_,?_,hmem⟩
 .rw[h.size,et];cases b<;>simp[sel,hll]
 .intro i c hc;have hc':(Dp (N3 (BT sb n0 l1.mem l2.mem).1 l1.mem l2.mem sb) (n0+(BT sb n0 l1.mem l2.mem).2.length) l1.tmps.flat l2.tmps.flat).1.get i=some c:=by
   simpa [AO.get,A6] using hc
  obtain⟨k,c1,c2,q1,q2,q3,q4,q5,q6⟩:=O3 (n':=n') _ _ _ hnew.right (by omega) i c hc';subst q4;have hh:AA T n ρ (sel b l1.mem l2.mem) w (sel b c1 c2) (a.tmps.getD i undef):=by
   rw[<-em];refine h.tmps i _ ?_;rw[et];cases b
   .exact AO.get_flat q3
   .exact AO.get_flat q2
  exact bu hsb hm hn0 hnew.left (by omega) (by omega) q5 q6 hh
end
section
variable {P:Program}{T:Tab}{call:Ak}{r:Option Nat}{k:Nat}
def Ce (P:Program)(r:Option Nat)(k:Nat)(ops:Array Oper)(o:Oper)(a:Act)(w:World)(K:Act->World->Prop)(Q:Exit->Act->World->Prop):Prop:=
 if Region.wanted o (yielded ops a.tmps) then o.wpIn (fen r) k P a w K Q else K (a.put o.dst undef) w
theorem GU {o:Oper}{a:Act}{w:World}{K:Act->World->Prop}{Q:Exit->Act->World->Prop}(ho:∀c,o.op≠ .defer c)(h:o.uponIn (fen r) k P a K Q ((execOp a.eval o).run P w)):o.wpIn (fen r) k P a w K Q:=by
 refine⟨fun _ _=>trivial,?_⟩;rw[Oper.semAt_eq _ _ _ ho];exact h
theorem sU {o:Oper}{a:Act}{w:World}{g:G}{ρ :Nat->Option Nat}{m:Mem}{r':R}{K:Act->World->Prop}{Q:Exit->Act->World->Prop}(ho:∀c,o.op≠ .defer c)(h:BC T g ρ m w ((execOp a.eval o).run P w) r')
  (hK:∀v w' ρ',AE T g.n ρ m w ρ' r'.m w'->AD T (g.n+r'.us.length) ρ' r'.m w'->AA T (g.n+r'.us.length) ρ' r'.m w' r'.c v->K (a.put o.dst v) w'):o.wpIn (fen r) k P a w K Q:=by
 refine GU ho ?_;obtain⟨v,w', ρ',h1|⟨h1,rfl⟩,h2,h3,h4⟩:=h
 .rw[h1];exact hK v w' ρ' h2 h3 h4
 .rw[h1];exact hK _ w' ρ' h2 h3 h4
theorem aa {o:Oper}{a:Act}{w:World}{f:Operand}{args:Array Operand}{ts:Array TypeId}{b:Nat}{q:Loop}(ho:o.op= .call { callee:= .value f,args,argTypes:=ts })
  (hf:a.eval f= .func (.yield b) #[] #[]) (hb:w.heap[b]? =some (.loop q)) (hl:(args.toList.map a.eval).length=q.params.size):
  (execOp a.eval o).run P w= .ok (.round b q.fn ((q.params.zip (args.toList.map a.eval).toArray).foldl (fun t (p,v)=>t.setIfInBounds p v) q.tmps) q.assign q.body) w:=by
 have arr:args.map a.eval=(args.toList.map a.eval).toArray:=by rw[<-Array.toList_map,Array.toArray_toList]
 have hl2:(args.map a.eval).size=q.params.size:=by simpa using hl
 have hy:=run_yield (P:=P) (args:=args.map a.eval) hb hl2;simp only[execOp,ho,resolve,hf,Deferred.ofValue,Sem.run_bind,Sem.run_pure,Result.andThen_ok,invoke];rw[<-arr];simpa using hy
theorem Xf {o:Oper}{a:Act}{w:World}{f:Operand}{args:Array Operand}{ts:Array TypeId}{R:Ending->World->Prop}{K:Act->World->Prop}{Q:Exit->Act->World->Prop}(ho:o.op= .call { callee:= .value f,args,argTypes:=ts })
  (h:It P (a.eval f) (args.toList.map a.eval) w R) (hR:∀e w',R e w'->∃v,e= .returned v/\K (a.put o.dst v) w'):o.wpIn (fen r) k P a w K Q:=by
 refine GU (fun c hc=>by rw[ho] at hc;cases hc) ?_;rcases h with⟨j,first,cap,fn,h1,h2,h3,h4,h5⟩|⟨b,q,h1,h2,h3,h4⟩
 .rw[ZK ho h1 h2 h3 h4,Oper.uponIn_enter];refine⟨fun h=>(by cases h),V4 (h5.mono fun e w' hh=>?_)⟩;obtain⟨v,rfl,hK⟩:=hR e w' hh;exact hK
 .rw[aa ho h1 h2 h3,Oper.uponIn_round];refine⟨fun h=>(by cases h),RoundIn.mono (h4 (k - 1)) fun e w' hh=>?_⟩;obtain⟨v,rfl,hK⟩:=hR e w' hh;exact hK
theorem Yb {ev:Operand->AC}{op:Op}{m:Mem}{g:G}{r:R}(hf:BA op=true)(h:aOp P ev op m g=some r){ρ :Nat->Option Nat}{w:World}{a:Act}(hnew:New T g.n r.us)(hps:∀q∈r.ps,q.holds T)(hm:AD T g.n ρ m w)
  (hev:∀x,AA T g.n ρ m w (ev x) (a.eval x)):r.m=m:=by
 cases op<;>simp only[aOp] at h<;>simp only[BA] at hf<;>try (cases hf;done)
 case move x=>cases h;rfl
 case assign x=>cases h;rfl
 case pick c x y=>exact (Ld h hnew hm (hev c) (fun _=>hev x) (fun _=>hev y)).elim fun _ h=>h.2.1
 case build t parts=>
  unfold P5 at h;simp only[vq,vn] at h;obtain⟨i,_,z,_,l,_,h⟩:=h;split at h
  .simp only[vn] at h;obtain⟨_,_,l',_,h⟩:=h;cases h;rfl
  .simp only[vn] at h;obtain⟨_,_,l',_,h⟩:=h;cases h;rfl
  .cases h
 case load t x=>obtain⟨u,h1,h2,h3⟩:=LO h hnew hm (hev x);exact h2
 case nilCheck x=>
  unfold Ep at h;split at h<;>cases h<;>rfl
 case binOp op t x y yt=>obtain⟨z,h1,h2,h3⟩:=Nr h hnew hps (hev x) (hev y) x y;exact h2
 case unOp op t x=>obtain⟨z,h1,h2,h3⟩:=VS (P:=P) (w:=w) h hnew (hev x);exact h2
 case convert s d x=>obtain⟨z,h1,h2,h3⟩:=Kj h hnew (hev x);exact h2
 case makeFunc fn first cap=>cases h;rfl
 case fieldAddr t x f=>obtain⟨z,h1,h2,h3,h4⟩:=IN h (hev x);exact h2
 case field t x f=>obtain⟨z,h1,h2,h3,h4⟩:=NJ h (hev x);exact h2
 case indexAddr t x i=>obtain⟨z,h1,h2,h3⟩:=IJ h hnew hps (hev x) (hev i);exact h2
 case index t x i=>obtain⟨z,h1,h2,h3⟩:=Ms h hnew hps (hev x) (hev i);exact h2
 case extract x i=>obtain⟨z,h1,h2,h3,h4⟩:=Ka (P:=P) h (hev x);exact h2
 case slice t x lo hi mx=>
  cases mx with
  |some v=>cases hf
  |none=>
   have ho':∀l:Option Operand,MC T g.n ρ m w (l.map ev) (l.map a.eval):=by
    intro l;cases l with
    |none=>rfl
    |some y=>exact⟨_,rfl,hev y⟩
   obtain⟨z,h1,h2,h3⟩:=Mb h hnew hps hm (hev x) (ho' lo) (ho' hi);exact h2
 case call c=>
  obtain⟨callee,args,ts⟩:=c;cases callee with
  |value f=>cases h
  |invoke x n=>cases h
  |builtin b=>
   obtain⟨args⟩:=args;simp only at h;unfold HN at h;cases b<;>simp only at hf<;>try (cases hf;done)
   all_goals
    split at h<;>(try (rename_i heq _;cases heq))<;>try (cases h;done)
   all_goals first
    |(simp only[N9,vq,vn] at h
      obtain⟨_,_,_,_,h⟩:=h;cases h;rfl)
    |(simp only[vq,vn] at h
      obtain⟨t,ht,h⟩:=h;split at h<;>cases h;rfl)
    |(rename_i x harg
      cases args with
      |nil=>cases harg
      |cons x1 rest=>
       cases rest with
       |cons=>cases harg
       |nil=>
        simp at harg;subst harg;simp only[vq,vn] at h;obtain⟨t,ht,h⟩:=h;obtain⟨z,h1,h2,h3⟩:=Q4 h hnew hm (hev x1) ts ht 0;exact h2)
    |(rename_i x y harg
      cases args with
      |nil=>cases harg
      |cons x1 rest=>
       cases rest with
       |nil=>cases harg
       |cons x2 rest=>
        cases rest with
        |cons=>cases harg
        |nil=>
         simp at harg;obtain⟨rfl,rfl⟩:=harg;obtain⟨z,h1,h2,h3⟩:=Iu (P:=P) h hnew (hev x1) (hev x2) ts 0;exact h2)
end
section
variable {P:Program}{T:Tab}{ρ :Nat->Option Nat}{m:Mem}{w:World}{g:G}{r:R}
theorem S3 {a:Act}{o:Oper}{b:Builtin}{args:Array Operand}{ts:Array TypeId}{ev:Operand->AC}(ho:o.op= .call { callee:= .builtin b,args,argTypes:=ts })(h:HN P b ts (args.toList.map ev) m g=some r)
  (hf:BA o.op=true) (hnew:New T g.n r.us) (hps:∀q∈r.ps,q.holds T) (hm:AD T g.n ρ m w) (hev:∀x,AA T g.n ρ m w (ev x) (a.eval x)):Aq T g ρ m w ((execOp a.eval o).run P w) r:=by
 rw[Hl ho];obtain⟨args⟩:=args;unfold HN at h;split at h
 .rename_i b' x harg;cases args with
  |nil=>cases harg
  |cons x1 rest=>
   cases rest with
   |cons=>cases harg
   |nil=>
    simp at harg;subst harg;simp only[vq,vn] at h;obtain⟨t,ht,h⟩:=h;obtain⟨z,h1,h2,h3⟩:=Q4 h hnew hm (hev x1) ts ht o.type;exact Aq.pure (by simp[builtin,h1]) hm h2 h3
 .rename_i b' x y harg;cases args with
  |nil=>cases harg
  |cons x1 rest=>
   cases rest with
   |nil=>cases harg
   |cons x2 rest=>
    cases rest with
    |cons=>cases harg
    |nil=>
     simp at harg;obtain⟨rfl,rfl⟩:=harg;obtain⟨z,h1,h2,h3⟩:=Iu (P:=P) h hnew (hev x1) (hev x2) ts o.type;exact Aq.pure (by simp at h1;simp[builtin,h1]) hm h2 h3
 .rename_i b' x y harg;cases args with
  |nil=>cases harg
  |cons x1 rest=>
   cases rest with
   |nil=>cases harg
   |cons x2 rest=>
    cases rest with
    |cons=>cases harg
    |nil=>
     simp at harg;obtain⟨rfl,rfl⟩:=harg;obtain⟨z,h1,h2,h3⟩:=Iu (P:=P) h hnew (hev x1) (hev x2) ts o.type;exact Aq.pure (by simp at h1;simp[builtin,h1]) hm h2 h3
 .rw[ho] at hf;cases hf
 .rename_i b' c0 c1 c2 cl harg;cases args with
  |nil=>cases harg
  |cons x1 rest=>
   simp only[wG,List.cons.injEq] at harg;obtain⟨rfl,harg⟩:=harg;obtain⟨z,h1,h2,h3⟩:=Jh (P:=P) (w:=w) _ _ _ (rest.map a.eval) g r h hnew (hev x1) (by rw[<-harg];exact AB.of_map hev rest);refine Aq.pure (v:=z) ?_ hm h2 h3;simp only[wM,if_false] at h1;simp[builtin,Builtin.min_,h1]
 .rename_i b' c0 c1 c2 cl harg;cases args with
  |nil=>cases harg
  |cons x1 rest=>
   simp only[wG,List.cons.injEq] at harg;obtain⟨rfl,harg⟩:=harg;obtain⟨z,h1,h2,h3⟩:=Jh (P:=P) (w:=w) _ _ _ (rest.map a.eval) g r h hnew (hev x1) (by rw[<-harg];exact AB.of_map hev rest);refine Aq.pure (v:=z) ?_ hm h2 h3;simp only[if_true] at h1;simp[builtin,Builtin.max_,h1]
 .rename_i b' harg;cases args with
  |nil=>cases harg
  |cons x1 rest=>
   cases rest with
   |cons=>simp at harg
   |nil=>
    simp at harg;simp only[vq,vn] at h;obtain⟨t,ht,h⟩:=h;split at h
    .rename_i e hu;cases h;have hx:=hev x1;rw[harg] at hx;have hx2:a.eval x1= .slice none 0 0:=hx;refine Aq.pure (v:= .int .i64 0) ?_ hm rfl rfl;simp[builtin,Builtin.cap_,hx2,ht,run_underlying hu,goInt]
    .cases h
 .cases h
theorem cg {ev:Operand->AC}{a:Act}{o:Oper}(h:aOp P ev o.op m g=some r)(hf:BA o.op=true)(hnew:New T g.n r.us)(hps:∀q∈r.ps,q.holds T)(hm:AD T g.n ρ m w)(hev:∀x,AA T g.n ρ m w (ev x) (a.eval x)):
  Aq T g ρ m w ((execOp a.eval o).run P w) r:=by
 have arr:∀xs:Array Operand,xs.map a.eval=(xs.toList.map a.eval).toArray:=fun xs=>by rw[<-Array.toList_map,Array.toArray_toList]
 have hf0:=hf;cases ho:o.op<;>rw[ho] at h hf<;>simp only[aOp] at h<;>simp only[BA] at hf<;>try (cases hf;done)
 case move x=>cases h;exact Aq.same (v:=a.eval x) (by simp[execOp,ho]) hm rfl (hev x)
 case assign x=>cases h;exact Aq.same (v:=a.eval x) (by simp[execOp,ho]) hm rfl (hev x)
 case pick c x y=>
  obtain⟨q,h1,h2,h3⟩:=Ld h hnew hm (hev c) (fun _=>hev x) (fun _=>hev y);exact Aq.pure (v:=if q then a.eval x else a.eval y) (by simp[execOp,ho,h1,asBool]) hm h2 h3
 case build t parts=>exact Ry h hm ho hev
 case load t x=>
  obtain⟨u,h1,h2,h3⟩:=LO h hnew hm (hev x);exact Aq.pure (by simp[execOp,ho,h1]) hm h2 h3
 case nilCheck x=>exact MX h hps hm ho rfl (hev x)
 case binOp op t x y yt=>
  obtain⟨z,h1,h2,h3⟩:=Nr h hnew hps (hev x) (hev y) x y;exact Aq.pure (v:=z) (KH (s:=do eqGuard op t x y (a.eval x) (a.eval y);binOp op t (a.eval x) (a.eval y)) (by simp only[execOp,ho]) h1) hm h2 h3
 case unOp op t x=>
  obtain⟨z,h1,h2,h3⟩:=VS (P:=P) (w:=w) h hnew (hev x);exact Aq.pure (by simp[execOp,ho,h1]) hm h2 h3
 case convert s d x=>
  obtain⟨z,h1,h2,h3⟩:=Kj h hnew (hev x);exact Aq.pure (by simp[execOp,ho,h1]) hm h2 h3
 case makeFunc fn first cap=>
  cases h;refine Aq.same (v:= .func fn (first.map a.eval) (cap.map a.eval)) (by simp[execOp,ho,Instr.makeFunc]) hm rfl ?_;refine⟨first.toList.map a.eval,cap.toList.map a.eval,by rw[arr,arr],AB.of_map hev _,AB.of_map hev _⟩
 case fieldAddr t x f=>
  obtain⟨z,h1,h2,h3,h4⟩:=IN h (hev x);exact Aq.same (by simp[execOp,ho,h1]) hm h2 h4
 case field t x f=>
  obtain⟨z,h1,h2,h3,h4⟩:=NJ h (hev x);exact Aq.same (by simp[execOp,ho,h1]) hm h2 h4
 case indexAddr t x i=>
  obtain⟨z,h1,h2,h3⟩:=IJ h hnew hps (hev x) (hev i);exact Aq.pure (by simp[execOp,ho,h1]) hm h2 h3
 case index t x i=>
  obtain⟨z,h1,h2,h3⟩:=Ms h hnew hps (hev x) (hev i);rcases h3 with h3|h3
  .exact Aq.same (by simp[execOp,ho,h1]) hm h2 h3
  .exact Aq.pure (by simp[execOp,ho,h1]) hm h2 h3
 case slice t x lo hi mx=>
  cases mx with
  |some v=>cases hf
  |none=>
   have ho':∀l:Option Operand,MC T g.n ρ m w (l.map ev) (l.map a.eval):=by
    intro l;cases l with
    |none=>rfl
    |some y=>exact⟨_,rfl,hev y⟩
   obtain⟨z,h1,h2,h3⟩:=Mb h hnew hps hm (hev x) (ho' lo) (ho' hi);exact Aq.pure (by simp[execOp,ho,h1]) hm h2 h3
 case extract x i=>
  obtain⟨z,h1,h2,h3,h4⟩:=Ka (P:=P) h (hev x);exact Aq.same (by simp[execOp,ho,h1]) hm h2 h4
 case call c=>
  obtain⟨callee,args,ts⟩:=c;cases callee with
  |builtin b=>exact S3 ho h hf0 hnew hps hm hev
  |value f=>cases h
  |invoke x n=>cases h
theorem Qx {ev:Operand->AC}{a:Act}{o:Oper}(h:aOp P ev o.op m g=some r)(hf:BA o.op=true)(hnew:New T g.n r.us)(hps:∀q∈r.ps,q.holds T)(hm:AD T g.n ρ m w)(hev:∀x,AA T g.n ρ m w (ev x) (a.eval x)):
  ∃v,(execOp a.eval o).run P w= .ok (.value v) w/\AA T (g.n+r.us.length) ρ m w r.c v:=by
 obtain⟨v,h1,_,h3⟩:=cg h hf hnew hps hm hev;exact⟨v,h1,h3⟩
theorem SL {k:Nat}{ev:Operand->AC}{op:Op}(h:FP k P ev op m g=some r)(hf:BA op=true):aOp P ev op m g=some r:=by
 unfold FP at h;split at h
 .exact h
 .split at h
  .cases hf
  .cases hf
  .cases hf
  .cases hf
  .cases h
 .split at h
  .cases hf
  .exact h
theorem Gj {k:Nat}{ev:Operand->AC}{a:Act}{o:Oper}(h:FP k P ev o.op m g=some r)(hf:BA o.op=true)(hnew:New T g.n r.us)(hps:∀q∈r.ps,q.holds T)(hm:AD T g.n ρ m w)(hev:∀x,AA T g.n ρ m w (ev x) (a.eval x)):
  ∃v,(execOp a.eval o).run P w= .ok (.value v) w/\AA T (g.n+r.us.length) ρ m w r.c v:=Qx (SL h hf) hf hnew hps hm hev
theorem OM {k:Nat}{ev:Operand->AC}{op:Op}{m:Mem}{g:G}{r:R}(hf:BA op=true)(h:FP k P ev op m g=some r){ρ :Nat->Option Nat}{w:World}{a:Act}(hnew:New T g.n r.us)(hps:∀q∈r.ps,q.holds T)(hm:AD T g.n ρ m w)
  (hev:∀x,AA T g.n ρ m w (ev x) (a.eval x)):r.m=m:=Yb hf (SL h hf) hnew hps hm hev
theorem L6 {k:Nat}{ev:Operand->AC}{op:Op}(h:FP k P ev op m g=some r):∀c,op≠ .defer c:=by
 intro c hc;subst hc;unfold FP at h;split at h<;>cases h
end
section
variable {P:Program}{T:Tab}{call:Ak}{ys:Ys}{r:Option Nat}{kk:Nat}
theorem MU {pc0:PC}{base:List Nat}{s s':RS}{j:Nat}{want:Bool}{c:AC}{run:Option (PC × List Nat)}(h:Di pc0 base s j want c=some (run,s')):AR s.g s'.g/\s'.tmps=s.tmps/\s'.mem=s.mem:=by
 cases c<;>simp only[Di] at h<;>try (cases h;done)
 case cb b=>split at h<;>cases h<;>exact⟨AR.refl _,rfl,rfl⟩
 case b x=>cases h;exact⟨AR.push s.g [Cf pc0 x want],rfl,rfl⟩
 case nb x=>cases h;exact⟨AR.push s.g [Cf pc0 x (!want)],rfl,rfl⟩
theorem Gi {ops:Array Oper}{pc:PC}{s s':RS}{o:Oper}{run:Option (PC × List Nat)}(h:DV ops pc s o=some (run,s')):AR s.g s'.g/\s'.tmps=s.tmps/\s'.mem=s.mem:=by
 unfold DV at h;split at h
 .cases h;exact⟨AR.refl _,rfl,rfl⟩
 .split at h
  .cases h;exact⟨AR.refl _,rfl,rfl⟩
  .simp only[vq,vn] at h;obtain⟨_,_,_,_,c,_,h⟩:=h;split at h
   .cases h;exact⟨AR.refl _,rfl,rfl⟩
   .simp only[vn] at h;obtain⟨e,_,h⟩:=h;exact MU h
   .exact MU h
theorem Qb {ops:Array Oper}{n:Nat}{a:Act}{gl:List GE}(hg:∀e∈gl,El T ops n a e){c:Operand}{want:Bool}(hc:a.eval c= .bool want)(hsz:∀t,c= .tmp t->t < a.tmps.size):∀x∈Kp ops gl c want,T x= .bool true:=by
 intro x hx;cases c with
 |tmp t=>
  simp only[Kp,List.mem_map,List.mem_filter,vo] at hx;obtain⟨e,⟨he,hw,hd⟩,rfl⟩:=hx;have hw':e.want=want:=by simpa using hw
  have hd':(ops[e.j]?).bind (·.dst)=some t:=by simpa using hd
  refine (hg e he).iff.2 ?_;have ht:=hsz t rfl;have hget:a.tmps[t]? =some (.bool want):=by
   have:a.tmps.getD t undef= .bool want:=hc;simp[vy,ht] at this;simp[ht,this]
  simp only[yielded,hd',wT,hget,hw']
 |_=>simp[Kp] at hx
theorem Mx (pc:PC)(c:AC):TC pc [] c=c:=by cases pc<;>rfl
theorem VL {p:Nat}{imp:List Nat}(h:imp≠[])(c:AC):TC (some p) imp c= .gd p c:=by cases imp<;>first|exact absurd rfl h|rfl
theorem It.mono {fv:Value}{args:List Value}{w:World}{R R':Ending->World->Prop}(h:It P fv args w R)(hr:∀e w',R e w'->R' e w'):It P fv args w R':=by
 rcases h with⟨k,first,cap,fn,h1,h2,h3,h4,h5⟩|⟨b,q,h1,h2,h3,h4⟩
 .exact .inl ⟨k,first,cap,fn,h1,h2,h3,h4,h5.mono hr⟩
 .exact .inr ⟨b,q,h1,h2,h3,fun k=>(h4 k).mono hr⟩
def TH (P:Program)(T:Tab)(args:List AC)(one:AC->PC->Mem->G->Option (AC × Mem × G))(H:G->(Nat->Option Nat)->Mem->World->AC->Value->Prop):Prop:=
 ∀f pc m g c m' g',one f pc m g=some (c,m',g')->AR g g'/\(Agr T g'->AY T g'->pcv T pc->A8 T g pc->∀ ρ w fv vs,H g ρ m w f fv->AB T g.n ρ m w args vs->AD T g.n ρ m w->It P fv vs w (Ed T g ρ m w c m' g'))
theorem Hk (hcall:CS P T call)(hys:CL P T.lp ys)(args:List AC):TH P T args (Dk call ys args) (fun g ρ m w f fv=>AA T g.n ρ m w f fv):=by
 intro f pc m g c m' g' h;unfold Dk at h;split at h
 .rename_i k first cap
  obtain⟨gr,hs⟩:=hcall ys k _ pc m g c m' g' hys h;refine⟨gr,fun hA hob hpc hk ρ w fv vs hf hargs hm=>?_⟩;obtain⟨v1,us,e1,e2,e3⟩:=hf;obtain⟨⟨fn,q1,q2,q3⟩,hc⟩:=hs hA hob hpc hk ρ w (v1++vs++us) ((e2.append hargs).append e3) hm;exact .inl ⟨k,v1,us,fn,e1,q1,q2,q3,hc⟩
 .rename_i id;split at h
  .rename_i stamp st hid;simp only[vq,vn] at h;obtain⟨y,hy,h⟩:=h;obtain⟨gr,hs⟩:=hys T rfl stamp y hy id args pc m g c m' g' h;refine⟨gr,fun hA hob hpc hk ρ w fv vs hf hargs hm=>?_⟩;obtain⟨b,e1,e2,_⟩:=hf;rw[e2];exact hs hA hob hpc hk st hid ρ w vs hargs hm b e1
  .cases h
 .cases h
def Cb (g:G):PC->Prop
 |none=>True
 |some c=>c < g.n
theorem Cb.grow {g g':G}{pc:PC}(h:Cb g pc)(k:AR g g'):Cb g' pc:=by
 cases pc with
 |none=>trivial
 |some c=>exact vw h k.n
theorem A8.lt {g:G}{pc:PC}(h:A8 T g pc):Cb g pc:=by
 cases pc with
 |none=>trivial
 |some c=>exact h.1
theorem Cb.ok {g:G}{pc:PC}(h:Cb g pc)(hp:pcv T pc):A8 T g pc:=by
 cases pc with
 |none=>trivial
 |some c=>exact⟨h,true,hp⟩
theorem FI {c:Nat}:pcv T (some c)↔(T c).toB=true:=⟨fun h=>by rw[show T c= .bool true from h];rfl,Mo⟩
theorem Ga {g g':G}{pc p:PC}{x:Nat}{want:Bool}(h:Cz g pc x want=(p,g')):AR g g'/\(Agr T g'->Cb g pc->x < g.n->Cb g' p/\(pcv T p↔pcv T pc/\(T x).toB=want)):=by
 have push:∀{p g'},(some g.n,g.pushAll [Cf pc x want])=(p,g')->AR g g'/\(Agr T g'->Cb g pc->x < g.n->Cb g' p/\(pcv T p↔pcv T pc/\(T x).toB=want)):=by
  intro p g' h;cases h;refine⟨AR.push _ _,fun hA hp hx=>⟨by show _ < _;rw[BQ];exact Nat.lt_succ_self _,?_⟩⟩;have hnew:=hA.new.head;rw[FI,hnew];cases pc with
  |none=>
   simp only[pcv,true_and];cases want<;>simp[Cf,Ex.eval,oId,RG,u0,eve,U.toB]
  |some c=>
   rw[FI];cases want<;>simp[Cf,Ex.eval,Mp,u0,u1,eve,evn,U.toB]
 unfold Cz at h;split at h
 .cases h;refine⟨AR.refl _,fun hA _ hx=>⟨hx,?_⟩⟩;simp only[pcv,true_and];exact⟨fun h=>by rw[h];rfl,Mo⟩
 .exact push h
theorem J1 {b:Bool}{sb:Rf}(hsb:(sb.eval T).toB=b){n n0 n':Nat}{ρ :Nat->Option Nat}{w:World}{m1 m2:Mem}(hm:AD T n ρ (sel b m1 m2) w){c d:AC}{v:Value}(hn:n<=n0)
  (hnew:New T n0 ((BT sb n0 m1 m2).2++(E2 (n0+(BT sb n0 m1 m2).2.length) sb c d).2))
  (hl:n0+((BT sb n0 m1 m2).2.length+(E2 (n0+(BT sb n0 m1 m2).2.length) sb c d).2.length)<=n')
  (h:AA T n ρ (sel b m1 m2) w (sel b c d) v):
  ∃ ρ',AE T n ρ (sel b m1 m2) w ρ' (BT sb n0 m1 m2).1 w/\AD T n' ρ' (BT sb n0 m1 m2).1 w/\AA T n' ρ' (BT sb n0 m1 m2).1 w (E2 (n0+(BT sb n0 m1 m2).2.length) sb c d).1 v:=by
 obtain⟨hmem,hst,-,-⟩:=K5 (n':=n') hsb hm hn hnew.left (by omega);have h2:=AA.mono hst hm (vr _) _ _ h;refine⟨_,hst,hmem,fy (n:=n) hsb (by omega) hnew.right (by omega) (fun hb=>?_) (fun hb=>?_)⟩
 .subst hb;exact h2
 .subst hb;exact h2
theorem RL {args:List AC}{one:AC->PC->Mem->G->Option (AC × Mem × G)}(hone:TH P T args one (fun g ρ m w f fv=>AA T g.n ρ m w f fv)){x:Nat}{ix:Int}(hix:T x= .int ix)(h0:0<=ix):
  ∀(alts:List AC) (j:Nat),TH P T args (fun _ pc m g=>HU one x j alts pc m g) (fun g ρ m w _ fv=>j<=ix.toNat/\Aa T g.n ρ m w alts (ix.toNat - j) fv)
 |[],j=>fun f pc m g c m' g' h=>by simp[HU] at h
 |[c0],j=>by
  intro f pc m g c m' g' h;have h':one c0 pc m g=some (c,m',g'):=by cases c0<;>first|exact h|(rename_i cc;cases cc<;>exact h)
  obtain⟨gr,hs⟩:=hone c0 pc m g c m' g' h';refine⟨gr,fun hA hob hpc hk ρ w fv vs ⟨hj,hf⟩ hargs hm=>hs hA hob hpc hk ρ w fv vs ?_ hargs hm⟩;cases hd:ix.toNat - j with
  |zero=>rw[hd] at hf;exact hf
  |succ d=>rw[hd] at hf;exact hf.elim
 |c0::c1::cs,j=>by
  intro f pc m g c m' g' h;by_cases hnil:c0= .cv .nilFunc
  .subst hnil;simp only[HU] at h;obtain⟨gr,hs⟩:=RL hone hix h0 (c1::cs) (j+1) f pc m _ c m' g' h;refine⟨(AR.need _ _ _).trans gr,fun hA hob hpc hk ρ w fv vs ⟨hj,hf⟩ hargs hm=>?_⟩;have hne:=AY.need (hob.of gr) hpc ⟨ "ne",pNe,[.e x,.c (.int j)]⟩ (by simp);simp only[Pr.holds,pNe,wG,wa,u0,u1,eve,evc,hix,U.toI] at hne;obtain⟨e1,e2,e3,e4⟩:=Cn [⟨ "ne",pNe,[.e x,.c (.int j)]⟩] g pc;have hd:ix.toNat - j=(ix.toNat - (j+1))+1:=by omega
   rw[hd] at hf;have:=hs hA hob hpc (hk.grow (AR.need _ _ _)) ρ w fv vs ⟨by omega,by rw[e1];exact hf⟩ (by rw[e1];exact hargs) (by rw[e1];exact hm);refine this.mono fun e w' ⟨v, ρ',q1,q2,q3,q4⟩=>⟨v, ρ',q1,by rw[e1] at q2;exact q2,q3,q4⟩
  .have hun:HU one x j (c0::c1::cs) pc m g=(do
     let t:=g.n;let g:=g.pushAll [⟨ "eq",oEq,[.e x,.c (.int j)]⟩];let (pa,g):=Cz g pc t true;let (ca,ma,g) <-one c0 pa m g;let (pb,g):=Cz g pc t false;let (cb,mb,g) <-HU one x (j+1) (c1::cs) pb m g;let (m',us):=BT (.e t) g.n ma mb;let (c',us'):=E2 (g.n+us.length) (.e t) ca cb
     some (c',m',g.pushAll (us++us'))):=by
    cases c0<;>first|rfl|(rename_i cc;cases cc<;>first|rfl|exact absurd rfl hnil)
   simp only[hun] at h;generalize hg0:g.pushAll [⟨ "eq",oEq,[.e x,.c (.int j)]⟩]=g0 at h;have gr0:AR g g0:=by rw[<-hg0];exact AR.push _ _
   have hn0:g0.n=g.n+1:=by rw[<-hg0,BQ];rfl
   generalize hba:Cz g0 pc g.n true=ba at h;obtain⟨pa,g1⟩:=ba;simp only[vq,vn] at h;obtain⟨⟨ca,ma,g2⟩,h1,h⟩:=h;simp only at h;generalize hbb:Cz g2 pc g.n false=bb at h;obtain⟨pb,g3⟩:=bb;simp only[vn] at h;obtain⟨⟨cb,mb,g4⟩,h2,h⟩:=h;cases h;obtain⟨gr1,k1⟩:=Ga (T:=T) hba;obtain⟨gr2,k2⟩:=hone c0 pa m g1 ca ma g2 h1;obtain⟨gr3,k3⟩:=Ga (T:=T) hbb;obtain⟨gr4,k4⟩:=RL hone hix h0 (c1::cs) (j+1) f pb m g3 cb mb g4 h2;have gr5:AR g4 (g4.pushAll ((BT (.e g.n) g4.n ma mb).2++(E2 (g4.n+(BT (.e g.n) g4.n ma mb).2.length) (.e g.n) ca cb).2)):=AR.push _ _;refine⟨((((gr0.trans gr1).trans gr2).trans gr3).trans gr4).trans gr5,fun hA hob hpc hk ρ w fv vs ⟨hj,hf⟩ hargs hm=>?_⟩;have hA4:=hA.of gr5;have hA3:=hA4.of gr4;have hA2:=hA3.of gr3;have hA1:=hA2.of gr2;have hA0:=hA1.of gr1;have hT:T g.n= .bool (decide (ix=j)):=by
    have:Agr T (g.pushAll [⟨ "eq",oEq,[.e x,.c (.int j)]⟩]):=by rw[hg0];exact hA0
    rw[this.new.head];simp[Ex.eval,oEq,u0,u1,eve,evc,hix,U.toI]
   obtain⟨a1,a2⟩:=k1 hA1 (hk.lt.grow gr0) (by omega);obtain⟨a3,a4⟩:=k3 hA3 (hk.lt.grow ((gr0.trans gr1).trans gr2)) (by have:=gr1.n;have:=gr2.n;omega);have hnew:=hA.new;have hlen:(g4.pushAll ((BT (.e g.n) g4.n ma mb).2++(E2 (g4.n+(BT (.e g.n) g4.n ma mb).2.length) (.e g.n) ca cb).2)).n=g4.n+((BT (.e g.n) g4.n ma mb).2.length+(E2 (g4.n+(BT (.e g.n) g4.n ma mb).2.length) (.e g.n) ca cb).2.length):=by
    rw[BQ,wC]
   by_cases hc:ix=j
   .have hpa:pcv T pa:=a2.2 ⟨hpc,by rw[hT];simp[hc,U.toB]⟩;have hd:ix.toNat - j=0:=by omega
    rw[hd] at hf;have up1:=(gr0.trans gr1).n;have:=k2 hA2 (hob.of ((gr3.trans gr4).trans gr5)) hpa (a1.ok hpa) ρ w fv vs (AA.up hm up1 hf) (hargs.up hm up1) (hm.mono up1);refine this.mono fun e w' ⟨v, ρ',q1,q2,q3,q4⟩=>?_;obtain⟨ρ2,s1,s2,s3⟩:=J1 (n:=g2.n) (b:=true) (m1:=ma) (m2:=mb) (c:=ca) (d:=cb) (v:=v) (by simp[eve,hT,hc,U.toB]) q3 (gr3.trans gr4).n hnew (Nat.le_of_eq hlen.symm) q4;exact⟨v, ρ2,q1,(q2.down up1).trans hm ((gr0.trans gr1).trans gr2).n s1,s2,s3⟩
   .have hpb:pcv T pb:=a4.2 ⟨hpc,by rw[hT];simp[hc,U.toB]⟩;have hd:ix.toNat - j=(ix.toNat - (j+1))+1:=by omega
    rw[hd] at hf;have up3:=(((gr0.trans gr1).trans gr2).trans gr3).n;have hfA:Aa T g.n ρ m w (c1::cs) (ix.toNat - (j+1)) fv:=hf;have:=k4 hA4 (hob.of gr5) hpb (a3.ok hpb) ρ w fv vs ⟨by omega,Aa.mono0 (AE.refl _ _ _ _ _) up3 _ _ _ hfA⟩ (hargs.up hm up3) (hm.mono up3);refine this.mono fun e w' ⟨v, ρ',q1,q2,q3,q4⟩=>?_;obtain⟨ρ2,s1,s2,s3⟩:=J1 (n:=g4.n) (b:=false) (m1:=ma) (m2:=mb) (c:=ca) (d:=cb) (v:=v) (by simp[eve,hT,hc,U.toB]) q3 (vr _) hnew (Nat.le_of_eq hlen.symm) q4;exact⟨v, ρ2,q1,(q2.down up3).trans hm ((((gr0.trans gr1).trans gr2).trans gr3).trans gr4).n s1,s2,s3⟩
theorem YL (hcall:CS P T call)(hys:CL P T.lp ys)(args:List AC):TH P T args (fun f pc m g=>Kz call ys f args pc m g) (fun g ρ m w f fv=>AA T g.n ρ m w f fv):=by
 intro f pc m g c m' g' h;by_cases hs:∃x alts,f= .sel x alts
 .obtain⟨x,alts,rfl⟩:=hs;simp only[Kz] at h;by_cases hx:∃ix,T x= .int ix/\0<=ix
  .obtain⟨ix,h1,h2⟩:=hx;obtain⟨gr,k⟩:=RL (Hk hcall hys args) h1 h2 alts 0 .any pc m g c m' g' h;refine⟨gr,fun hA hob hpc hk ρ w fv vs ⟨_,j,e1,_,e3⟩ hargs hm=>k hA hob hpc hk ρ w fv vs ⟨wX _,?_⟩ hargs hm⟩;rw[h1] at e1;cases e1;exact e3
  .
   refine⟨?_,fun hA hob hpc hk ρ w fv vs ⟨_,j,e1,e2,e3⟩ hargs hm=>absurd ⟨j,e1,e2⟩ hx⟩;have grow:∀(alts:List AC) (j:Nat) (pc:PC) (m:Mem) (g:G) (c:AC) (m':Mem) (g':G),HU (Dk call ys args) x j alts pc m g=some (c,m',g')->AR g g':=by
    intro alts;induction alts with
    |nil=>intro j pc m g c m' g' h;simp[HU] at h
    |cons c0 alts ih=>
     intro j pc m g c m' g' h;cases alts with
     |nil=>
      have h':Dk call ys args c0 pc m g=some (c,m',g'):=by cases c0<;>first|exact h|(rename_i cc;cases cc<;>exact h)
      exact (Hk hcall hys args c0 pc m g c m' g' h').1
     |cons c1 cs=>
      by_cases hnil:c0= .cv .nilFunc
      .subst hnil;simp only[HU] at h;exact (AR.need _ _ _).trans (ih (j+1) pc m _ c m' g' h)
      .have hun:HU (Dk call ys args) x j (c0::c1::cs) pc m g=(do
         let t:=g.n;let g:=g.pushAll [⟨ "eq",oEq,[.e x,.c (.int j)]⟩];let (pa,g):=Cz g pc t true;let (ca,ma,g) <-Dk call ys args c0 pa m g;let (pb,g):=Cz g pc t false;let (cb,mb,g) <-HU (Dk call ys args) x (j+1) (c1::cs) pb m g;let (m',us):=BT (.e t) g.n ma mb;let (c',us'):=E2 (g.n+us.length) (.e t) ca cb
         some (c',m',g.pushAll (us++us'))):=by
        cases c0<;>first|rfl|(rename_i cc;cases cc<;>first|rfl|exact absurd rfl hnil)
       simp only[hun] at h;generalize hba:Cz (g.pushAll [⟨ "eq",oEq,[.e x,.c (.int j)]⟩]) pc g.n true=ba at h;obtain⟨pa,g1⟩:=ba;simp only[vq,vn] at h;obtain⟨⟨ca,ma,g2⟩,h1,h⟩:=h;simp only at h;generalize hbb:Cz g2 pc g.n false=bb at h;obtain⟨pb,g3⟩:=bb;simp only[vn] at h;obtain⟨⟨cb,mb,g4⟩,h2,h⟩:=h;cases h;exact ((((AR.push _ _).trans (Ga (T:=T) hba).1).trans (Hk hcall hys args c0 pa m g1 ca ma g2 h1).1).trans (Ga (T:=T) hbb).1).trans ((ih (j+1) pb m g3 cb mb g4 h2).trans (AR.push _ _))
   exact grow alts 0 pc m g c m' g' h
 .have:Kz call ys f args pc m g=Dk call ys args f pc m g:=by
   unfold Kz;split
   .exact absurd ⟨_,_,rfl⟩ hs
   .rfl
  simp only[this] at h;exact Hk hcall hys args f pc m g c m' g' h
theorem du {n:Nat}{ρ :Nat->Option Nat}{m:Mem}{w:World}{a:AC}{v:Value}(hq:∀q∈VG a,q.holds T)(h:AA T n ρ m w a v):AA T n ρ m w (TF a) v:=by
 unfold TF;split
 .rename_i c i o;have:=hq ⟨ "t",pT,[.e c]⟩ (by simp[VG]);simp only[Pr.holds,pT,wG,wa,u0,eve] at this;exact h.2 (FI.2 this)
 .exact h
theorem RW {n:Nat}{ρ :Nat->Option Nat}{m:Mem}{w:World}:∀{l:List AC} {vs:List Value},(∀q∈G8 l,q.holds T)->AB T n ρ m w l vs->AB T n ρ m w (l.map TF) vs
 |[],_,_,h=>h
 |a::l,_,hq,⟨u,us,e,h1,h2⟩=>⟨u,us,e,du (fun q hx=>hq q (by simp[G8,hx])) h1,RW (fun q hx=>hq q (by simp[G8,hx])) h2⟩
theorem LV {o:Oper}{a:Act}{w:World}{g:G}{ρ :Nat->Option Nat}{m:Mem}{r':R}{K:Act->World->Prop}{Q:Exit->Act->World->Prop}(ho:∀c,o.op≠ .defer c)(h:BC T g ρ m w ((execOp a.eval o).run P w) r')
  (hw:BA o.op=true->∃x,(execOp a.eval o).run P w= .ok x w)
  (hK:∀v w' ρ',AE T g.n ρ m w ρ' r'.m w'->AD T (g.n+r'.us.length) ρ' r'.m w'->AA T (g.n+r'.us.length) ρ' r'.m w' r'.c v->(BA o.op=true->w'=w)->K (a.put o.dst v) w'):o.wpIn (fen r) kk P a w K Q:=by
 refine GU ho ?_;obtain⟨v,w', ρ',h1|⟨h1,rfl⟩,h2,h3,h4⟩:=h
 .rw[h1];refine hK v w' ρ' h2 h3 h4 fun hf=>?_;obtain⟨x,hx⟩:=hw hf;rw[h1] at hx;injection hx
 .rw[h1];refine hK _ w' ρ' h2 h3 h4 fun hf=>?_;obtain⟨x,hx⟩:=hw hf;rw[h1] at hx;injection hx
theorem H4 (hcall:CS P T call)(hys:CL P T.lp ys){ops:Array Oper}{pc:PC}{s s':RS}{o:Oper}(h:CO P call ys ops pc s o=some s'):
  AR s.g s'.g/\(Agr T s'.g->AY T s'.g->pcv T pc->A8 T s.g pc->∀ ρ a w K Q,Bm T ρ ops s a w->
   (∀ ρ' v w',Bm T ρ' ops s' (a.put o.dst v) w'->AE T s.g.n ρ s.mem w ρ' s'.mem w'->(BA o.op=true->w'=w)->K (a.put o.dst v) w')->Ce P r kk ops o a w K Q):=by
 unfold CO at h;simp only[vq,vn] at h;obtain⟨⟨run,s1⟩,hg,h⟩:=h;obtain⟨gg1,gg2,gg3⟩:=Gi hg;simp only at h;split at h
 .cases h
 rename_i hdst;have hd:s1.gl.any (fun e=>((ops[e.j]?).bind (·.dst))==o.dst)=false:=by simpa using hdst
 split at h
 .
  cases h;refine⟨gg1,fun hA _ hpc hk ρ a w K Q hi hK=>?_⟩;obtain⟨e1,e2,_,hi1,e3,_⟩:=LY hg hA hpc hk hi;unfold Ce;rw[e3 rfl];simp only[wM,if_false];have:=hi1.put hd (AR.refl _) (AE.refl T s1.g.n ρ s1.mem w) hi1.rel.mem (c:= .tup []) (v:=undef) ⟨[],rfl,rfl⟩;exact hK ρ _ w this (by rw[show s1.mem=s.mem from e2];exact AE.refl _ _ _ _ _) (fun _=>rfl)
 .rename_i pc' imp;have main:∀(g2:G) (c:AC) (mem2:Mem),AR s1.g g2->s'={ s1 with tmps:=Ci s1.tmps o.dst (TC pc' imp c),mem:=mem2,g:=g2 }->
    (imp≠[]->∀p,pc'=some p->(T p).toB=false->Agr T g2->∀ ρ w,AD T s1.g.n ρ s1.mem w->∃ ρ',AE T s1.g.n ρ s1.mem w ρ' mem2 w/\AD T g2.n ρ' mem2 w)->
    (∀ ρ a w,Bm T ρ ops s1 a w->(∀c∈imp,T c= .bool true)->Agr T g2->AY T g2->pcv T pc'->A8 T s1.g pc'->∀K Q,(∀v ρ' w',AE T s1.g.n ρ s1.mem w ρ' mem2 w'->AD T g2.n ρ' mem2 w'->AA T g2.n ρ' mem2 w' c v->(BA o.op=true->w'=w)->K (a.put o.dst v) w')->o.wpIn (fen r) kk P a w K Q)->
    AR s.g s'.g/\(Agr T s'.g->AY T s'.g->pcv T pc->A8 T s.g pc->∀ ρ a w K Q,Bm T ρ ops s a w->
     (∀ ρ' v w',Bm T ρ' ops s' (a.put o.dst v) w'->AE T s.g.n ρ s.mem w ρ' s'.mem w'->(BA o.op=true->w'=w)->K (a.put o.dst v) w')->Ce P r kk ops o a w K Q):=by
   intro g2 c mem2 gr hs' hgone hrun;subst hs';refine⟨gg1.trans gr,fun hA hob hpc hk ρ a w K Q hi hK=>?_⟩;have hA2:Agr T g2:=hA;obtain⟨e1,e2,_,hi1,_,e4⟩:=LY hg (hA2.of gr) hpc hk hi;obtain⟨f1,f2,f3,f4,f5⟩:=e4 pc' imp rfl;have step:∀{ρ' w'},AE T s1.g.n ρ s1.mem w ρ' mem2 w'->AE T s.g.n ρ s.mem w ρ' mem2 w':=fun hs=>by
    rw[<-show s1.mem=s.mem from e2];exact hs.down gg1.n
   unfold Ce;by_cases hp:pcv T pc'
   .rw[f1.2 hp];simp only[if_true];refine hrun ρ a w hi1 (f2 hp) hA2 hob hp f3 K Q (fun v ρ' w' k1 k2 k3 k4=>?_);refine hK ρ' _ w' (hi1.put hd gr k1 k2 ?_) (step k1) k4;by_cases hemp:imp=[]
    .subst hemp;rw[Mx];exact k3
    .obtain⟨⟨p,rfl⟩,_⟩:=f5 hemp;rw[VL hemp];exact⟨vw f3.1 gr.n,fun _=>k3,fun hn=>absurd hp hn⟩
   .have hw:Region.wanted o (yielded ops a.tmps)=false:=by
     cases hw:Region.wanted o (yielded ops a.tmps) with
     |false=>rfl
     |true=>exact absurd (f1.1 hw) hp
    rw[hw];simp only[wM,if_false];have hemp:imp≠[]:=fun h=>hp (f4 h);obtain⟨⟨p,rfl⟩,_⟩:=f5 hemp;have hpf:(T p).toB=false:=by
     cases hb:(T p).toB with
     |false=>rfl
     |true=>exact absurd (FI.2 hb) hp
    obtain⟨ρ',hst,hmk⟩:=hgone hemp p rfl hpf hA2 ρ w hi1.rel.mem;refine hK ρ' _ w (hi1.put hd gr hst hmk (v:=undef) ?_) (step hst) (fun _=>rfl);rw[VL hemp];exact⟨vw f3.1 gr.n,fun h=>absurd h hp,fun _=>rfl⟩
  have weak:∀{mem2:Mem} {g2:G},AR s1.g g2->(∀id,mem2.at id=s1.mem.at id\/mem2.at id= .gone)->(imp≠[]->∀p,pc'=some p->(T p).toB=false->Agr T g2->∀ ρ w,AD T s1.g.n ρ s1.mem w->∃ ρ',AE T s1.g.n ρ s1.mem w ρ' mem2 w/\AD T g2.n ρ' mem2 w):=
   fun gr hw _ _ _ _ _ ρ w hm=>⟨ρ,AE.weaken hw,(hm.mono gr.n).weaken hw⟩
  have evald:∀(us:List Ex) (ps:List Pr),AR s1.g ((s1.g.pushAll us).needAll pc' ps)/\(Agr T ((s1.g.pushAll us).needAll pc' ps)->New T s1.g.n us)/\
    (AY T ((s1.g.pushAll us).needAll pc' ps)->pcv T pc'->∀q∈ps,q.holds T)/\((s1.g.pushAll us).needAll pc' ps).n=s1.g.n+us.length:=by
   intro us ps;obtain⟨q1,_⟩:=Cn ps (s1.g.pushAll us) pc';exact⟨(AR.push _ _).trans (AR.need _ _ _),fun hA=>hA.need.new,fun hob hp=>AY.need hob hp,by rw[q1,BQ]⟩
  split at h
  .
   rename_i f args ts ho;simp only[vn] at h;obtain⟨⟨c,m2,g2⟩,hc,h⟩:=h;obtain⟨gr0,hsound⟩:=YL hcall hys _ _ pc' s1.mem _ c m2 g2 hc;have grn:AR s1.g (s1.g.needAll pc' (G8 (args.toList.map (DF imp s1.tmps)))):=AR.need _ _ _;have gr:AR s1.g g2:=grn.trans gr0;have en:(s1.g.needAll pc' (G8 (args.toList.map (DF imp s1.tmps)))).n=s1.g.n:=(Cn _ s1.g pc').1;have run:∀ ρ a w,Bm T ρ ops s1 a w->(∀c∈imp,T c= .bool true)->Agr T g2->AY T g2->pcv T pc'->A8 T s1.g pc'->∀K Q,(∀v ρ' w',AE T s1.g.n ρ s1.mem w ρ' m2 w'->AD T g2.n ρ' m2 w'->AA T g2.n ρ' m2 w' c v->(BA o.op=true->w'=w)->K (a.put o.dst v) w')->o.wpIn (fen r) kk P a w K Q:=by
    intro ρ a w hi1 himp hA2 hob2 hp hk2 K Q hK;have hev:=E8 hi1.rel himp;have hargs:=AB.of_map hev args.toList;have hst:=RW (AY.need (hob2.of gr0) hp) hargs;refine Xf ho (hsound hA2 hob2 hp (hk2.grow grn) ρ w _ _ (by show AA T _ ρ s1.mem w _ _;rw[en];exact hev f) (by rw[en];exact hst) (by rw[en];exact hi1.rel.mem)) fun e w' hh=>?_;obtain⟨v, ρ',rfl,k1,k2,k3⟩:=hh;rw[en] at k1;exact⟨v,rfl,hK v ρ' w' k1 k2 k3 (fun hf=>by rw[ho] at hf;cases hf)⟩
   split at h
   .
    cases h;exact main g2 c m2 gr (by rw[Mx]) (fun h=>absurd rfl h) run
   .
    split at h
    .rename_i hkept;cases h;obtain⟨hlen,hat⟩:=Gd hkept;have hmem2:∀id,Mem.at (s1.mem++List.replicate (m2.length - s1.mem.length) .gone) id=m2.at id\/Mem.at (s1.mem++List.replicate (m2.length - s1.mem.length) .gone) id= .gone:=by
      intro id;rw[Lh];split
      .rename_i hid;exact .inl (hat id hid).symm
      .split
       .exact .inr rfl
       .exact .inl (Mem.at_ge (by omega)).symm
     refine main g2 c _ gr rfl (weak gr fun id=>?_) (fun ρ a w hi1 himp hA2 hob2 hp hk2 K Q hK=>?_)
     .rw[Lh];split
      .exact .inl rfl
      .split
       .exact .inr rfl
       .exact .inl (Mem.at_ge (by omega)).symm
     .refine run ρ a w hi1 himp hA2 hob2 hp hk2 K Q (fun v ρ' w' k1 k2 k3 k4=>?_);have hst:AE T g2.n ρ' m2 w' ρ' (s1.mem++List.replicate (m2.length - s1.mem.length) .gone) w':=AE.weaken hmem2;exact hK v ρ' w' (k1.trans hi1.rel.mem gr.n hst) (k2.weaken hmem2) (AA.mono hst k2 (vr _) c v k3) k4
    .
     split at h
     .rename_i p;cases h;have gr2:AR g2 (g2.pushAll (BT (.e p) g2.n m2 s1.mem).2):=AR.push _ _;have hlen:(g2.pushAll (BT (.e p) g2.n m2 s1.mem).2).n=g2.n+(BT (.e p) g2.n m2 s1.mem).2.length:=by rw[BQ]
      refine main _ c _ (gr.trans gr2) rfl (fun _ q hq hf hA ρ w hm=>?_) (fun ρ a w hi1 himp hA2 hob2 hp hk2 K Q hK=>?_)
      .cases hq;have hm':AD T s1.g.n ρ (sel false m2 s1.mem) w:=hm;obtain⟨q1,q2,-,-⟩:=K5 (T:=T) (n:=s1.g.n) (n':=(g2.pushAll (BT (.e p) g2.n m2 s1.mem).2).n) (w:=w) (m1:=m2) (m2:=s1.mem) (b:=false) (sb:= .e p) (by show (T p).toB=false;exact hf) hm' gr.n hA.new (Nat.le_of_eq hlen.symm);exact⟨_,q2,q1⟩
      .refine run ρ a w hi1 himp (hA2.of gr2) (hob2.of gr2) hp hk2 K Q (fun v ρ' w' k1 k2 k3 k4=>?_);have k2':AD T g2.n ρ' (sel true m2 s1.mem) w':=k2;obtain⟨q1,q2,-,-⟩:=K5 (T:=T) (n:=g2.n) (n':=(g2.pushAll (BT (.e p) g2.n m2 s1.mem).2).n) (w:=w') (m1:=m2) (m2:=s1.mem) (b:=true) (sb:= .e p) (by show (T p).toB=true;exact FI.1 hp) k2' (vr _) hA2.new (Nat.le_of_eq hlen.symm);have hst':AE T g2.n ρ' m2 w' _ _ w':=q2;exact hK v _ w' (k1.trans hi1.rel.mem gr.n hst') q1 (AA.mono hst' k2 gr2.n c v k3) k4
     .cases h
  .
   rename_i c x y ho;simp only[vn] at h;obtain⟨rr,hr,h⟩:=h;cases h;obtain⟨gr,ga,gp,gn⟩:=evald rr.us rr.ps;refine main _ rr.c s1.mem gr rfl (weak gr fun id=> .inl rfl) (fun ρ a w hi1 himp hA2 hob2 hp hk2 K Q hK=>?_);have hev:=E8 hi1.rel himp;have size:∀b,a.eval c= .bool b->∀t,c= .tmp t->t < a.tmps.size:=by
    intro b hb t ht;subst ht;rcases wD t a.tmps.size with h|h
    .exact h
    .have:a.tmps.getD t undef= .bool b:=hb;rw[vy,Array.getElem?_eq_none h] at this;cases this
   obtain⟨q,e1,e2,e3⟩:=Ld (ρ := ρ) (w:=w) hr (ga hA2) hi1.rel.mem (hev c)
    (fun hb=>N7 (Qb hi1.ges hb (size _ hb)) (hev x)) (fun hb=>N7 (Qb hi1.ges hb (size _ hb)) (hev y))
   have hrun:(execOp a.eval o).run P w= .ok (.value (if q then a.eval x else a.eval y)) w:=by simp[execOp,ho,e1,asBool]
   refine GU (fun c hc=>by rw[ho] at hc;cases hc) ?_;rw[hrun];refine hK _ ρ w (AE.refl _ _ _ _ _) (hi1.rel.mem.mono gr.n) ?_ (fun _=>rfl);rw[gn];exact e3
  .
   rename_i hne1 hne2;simp only[vn] at h;obtain⟨rr,hr,h⟩:=h;obtain⟨gr,ga,gp,gn⟩:=evald rr.us rr.ps;split at h
   .
    cases h;refine main _ rr.c rr.m gr (by rw[Mx]) (fun h=>absurd rfl h) (fun ρ a w hi1 himp hA2 hob2 hp hk2 K Q hK=>?_);refine LV (L6 hr) (RB hr (ga hA2) (gp hob2 hp) hi1.rel.mem (E8 hi1.rel himp)) (fun hf=>let⟨v,h1,_⟩:=Gj hr hf (ga hA2) (gp hob2 hp) hi1.rel.mem (E8 hi1.rel himp);⟨_,h1⟩) (fun v w' ρ' k1 k2 k3 k4=>?_);rw[<-gn] at k2 k3;exact hK v ρ' w' k1 k2 k3 k4
   .split at h
    .rename_i hfree;cases h;refine main _ rr.c s1.mem gr rfl (weak gr fun id=> .inl rfl) (fun ρ a w hi1 himp hA2 hob2 hp hk2 K Q hK=>?_);have hev:=E8 hi1.rel himp;have hmm:=OM hfree hr (ga hA2) (gp hob2 hp) hi1.rel.mem hev;refine LV (L6 hr) (RB hr (ga hA2) (gp hob2 hp) hi1.rel.mem hev) (fun hf=>let⟨v,h1,_⟩:=Gj hr hf (ga hA2) (gp hob2 hp) hi1.rel.mem hev;⟨_,h1⟩) (fun v w' ρ' k1 k2 k3 k4=>?_);rw[<-gn] at k2 k3;rw[hmm] at k1 k2 k3;exact hK v ρ' w' k1 k2 k3 k4
    .split at h
     .rename_i hkept;cases h;obtain⟨hlen,hat⟩:=Gd hkept;have hmem2:∀id,Mem.at (s1.mem++List.replicate (rr.m.length - s1.mem.length) .gone) id=rr.m.at id\/Mem.at (s1.mem++List.replicate (rr.m.length - s1.mem.length) .gone) id= .gone:=by
       intro id;rw[Lh];split
       .rename_i hid;exact .inl (hat id hid).symm
       .split
        .exact .inr rfl
        .exact .inl (Mem.at_ge (by omega)).symm
      refine main _ rr.c _ gr rfl (weak gr fun id=>?_) (fun ρ a w hi1 himp hA2 hob2 hp hk2 K Q hK=>?_)
      .rw[Lh];split
       .exact .inl rfl
       .split
        .exact .inr rfl
        .exact .inl (Mem.at_ge (by omega)).symm
      .have hev:=E8 hi1.rel himp;refine LV (L6 hr) (RB hr (ga hA2) (gp hob2 hp) hi1.rel.mem hev) (fun hf=>let⟨v,h1,_⟩:=Gj hr hf (ga hA2) (gp hob2 hp) hi1.rel.mem hev;⟨_,h1⟩) (fun v w' ρ' k1 k2 k3 k4=>?_);have hst:AE T (s1.g.n+rr.us.length) ρ' rr.m w' ρ' (s1.mem++List.replicate (rr.m.length - s1.mem.length) .gone) w':=AE.weaken hmem2;have q2:=k2.weaken hmem2;have q3:=AA.mono hst k2 (vr _) rr.c v k3;rw[<-gn] at q2 q3;exact hK v ρ' w' (k1.trans hi1.rel.mem (Nat.le_add_right _ _) hst) q2 q3 k4
     .cases h
theorem I7 (hcall:CS P T call)(hys:CL P T.lp ys){ops:Array Oper}{pc:PC}{s s':RS}{o:Oper}(h:CO P call ys ops pc s o=some s'):
  AR s.g s'.g/\(Agr T s'.g->AY T s'.g->pcv T pc->A8 T s.g pc->∀ ρ a w K Q,Bm T ρ ops s a w->
   (∀ ρ' v w',Bm T ρ' ops s' (a.put o.dst v) w'->AE T s.g.n ρ s.mem w ρ' s'.mem w'->K (a.put o.dst v) w')->Ce P r kk ops o a w K Q):=by
 obtain⟨h1,h2⟩:=H4 (r:=r) (kk:=kk) hcall hys h;exact⟨h1,fun hA hob hpc hk ρ a w K Q hi hK=>h2 hA hob hpc hk ρ a w K Q hi fun ρ' v w' k1 k2 _=>hK ρ' v w' k1 k2⟩
theorem H8 (hcall:CS P T call)(hys:CL P T.lp ys){ops:Array Oper}{pc:PC}:∀{l:List Oper} {s s':RS},Cr P call ys ops pc l s=some s'->
  AR s.g s'.g/\(Agr T s'.g->AY T s'.g->pcv T pc->A8 T s.g pc->∀(k:Nat) ρ a w Q,(∀j,l[j]? =ops[k+j]?)->Bm T ρ ops s a w->
   (∀ ρ' a' w',Bm T ρ' ops s' a' w'->AE T s.g.n ρ s.mem w ρ' s'.mem w'->Q .normal a' w')->wpOpsIn (fen r) kk P ops Q (List.range' k l.length) a w)
 |[],s,s',h=>by
  simp only[Cr] at h;cases h;exact⟨AR.refl _,fun _ _ _ _ k ρ a w Q _ hi hK=>hK ρ a w hi (AE.refl _ _ _ _ _)⟩
 |o::l,s,s',h=>by
  simp only[Cr,vq,vn] at h;obtain⟨s1,h1,h2⟩:=h;obtain⟨g1,k1⟩:=I7 (r:=r) (kk:=kk) hcall hys h1;obtain⟨g2,k2⟩:=H8 hcall hys h2;refine⟨g1.trans g2,fun hA hob hpc hk k ρ a w Q hl hi hK=>?_⟩;have ho:ops[k]? =some o:=by simpa using (hl 0).symm
  have:=k1 (hA.of g2) (hob.of g2) hpc hk ρ a w (wpOpsIn (fen r) kk P ops Q (List.range' (k+1) l.length)) Q hi (fun ρ' v' w' hi' hs=>by
   refine k2 hA hob hpc (hk.grow g1) (k+1) ρ' _ w' Q (fun j=>by have:=hl (j+1);simpa [Nat.add_assoc,Nat.add_comm 1 j] using this) hi' (fun ρ2 a2 w2 hi2 hs2=>?_);exact hK ρ2 a2 w2 hi2 (hs.trans hi.rel.mem g1.n hs2))
  simp only[wQ,List.range'_succ,wpOpsIn,ho];unfold Ce at this;split
  .rename_i hw;rw[if_pos hw] at this;exact this
  .rename_i hw;rw[if_neg hw] at this;exact⟨fun _ _=>trivial,this⟩
end
def K3 (ops:Array Oper)(listed:Array Bool):Prop:=
 ∀j o,ops[j]? =some o->listed.getD j false=true->∀e∈o.after,Region.binds .any e=true->listed.getD e.on false=true
theorem Jg {listed:Array Bool}{acc:List Nat}(hacc:∀(j r:Nat),acc[j]? =some r->listed.getD j false=true->∀i,r.testBit i=true->listed.getD i false=true):
  ∀(es:List Edge),(∀e∈es,Region.binds .any e=true->listed.getD e.on false=true)->∀i,(D3 acc es).testBit i=true->listed.getD i false=true
 |[],_,i,h=>by simp[D3] at h
 |e::es,hes,i,h=>by
  simp only[D3] at h;split at h
  .rename_i hb;have he:=hes e (wA ..) hb;simp only[show∀x y,Nat.lor x y=x ||| y from fun _ _=>rfl,Nat.testBit_or,wU] at h;rcases h with (h|h)|h
   .rw[Nat.testBit_two_pow] at h;have:e.on=i:=by simpa using h
    rw[<-this];exact he
   .cases hr:acc[e.on]? with
    |none=>rw[hr] at h;simp at h
    |some r=>rw[hr] at h;exact hacc e.on r hr he i h
   .exact Jg hacc es (fun e he=>hes e (vz _ he)) i h
  .exact Jg hacc es (fun e he=>hes e (vz _ he)) i h
theorem L2 {listed:Array Bool}:∀(l:List Oper) (pre:List Oper) (acc:List Nat),acc.length=pre.length->
  (∀j o,(pre++l)[j]? =some o->listed.getD j false=true->∀e∈o.after,Region.binds .any e=true->listed.getD e.on false=true)->
  (∀(j r:Nat) (o:Oper),acc[j]? =some r->(pre++l)[j]? =some o->(∀e∈o.after,Region.binds .any e=true->listed.getD e.on false=true)->∀i,r.testBit i=true->listed.getD i false=true)->
  (AQ l acc).length=(pre++l).length/\∀(j r:Nat) (o:Oper),(AQ l acc)[j]? =some r->(pre++l)[j]? =some o->(∀e∈o.after,Region.binds .any e=true->listed.getD e.on false=true)->∀i,r.testBit i=true->listed.getD i false=true
 |[],pre,acc,hlen,_,h=>⟨by simp[AQ,hlen],h⟩
 |o::l,pre,acc,hlen,hc,h=>by
  simp only[AQ];have e:pre++o::l=(pre++[o])++l:=by simp
  rw[e];refine L2 l (pre++[o]) _ (by simp[hlen]) (by rw[<-e];exact hc) ?_;intro j r o' hr ho';rw[List.getElem?_append] at hr;split at hr
  .rename_i hj;exact h j r o' hr (by rw[e];exact ho')
  .rename_i hj;have hj2:j=acc.length:=by
    rcases wD (j - acc.length) 1 with h1|h1
    .omega
    .rw[wV (by simpa using h1)] at hr;cases hr
   subst hj2;simp at hr;subst hr;have hoo:o'=o:=by
    rw[hlen] at ho';simp at ho';exact ho'.symm
   subst hoo;intro hes;refine Jg (fun j r hr hj=>?_) _ (fun e he=>hes e (by simpa using he));obtain⟨o2,ho2⟩:∃o2,(pre++o'::l)[j]? =some o2:=by
    have:j < acc.length:=(vu.1 hr).1;exact⟨_,vt (by simp;omega)⟩
   exact h j r o2 hr ho2 (hc j o2 ho2 hj)
theorem CB {ops:Array Oper}{listed:Array Bool}(hc:K3 ops listed){j r:Nat}{o:Oper}(hr:(AQ ops.toList [])[j]? =some r)(ho:ops[j]? =some o)
  (he:∀e∈o.after,Region.binds .any e=true->listed.getD e.on false=true):∀i,r.testBit i=true->listed.getD i false=true:=
 (L2 (listed:=listed) ops.toList [] [] rfl (fun j o ho=>hc j o (by simpa using ho)) (fun j r o hr=>by simp at hr)).2 j r o hr (by simpa using ho) he
theorem CJ (ops:Array Oper):(AQ ops.toList []).length=ops.size:=by
 have:=(L2 (listed:= #[]) ops.toList [] [] rfl (fun j o _ h=>by simp at h) (fun j r o hr=>by simp at hr)).1;simpa using this
theorem EI:∀(Rs:List Nat) (k:Nat),FM Rs k=true->∀(j r:Nat),Rs[j]? =some r->∀i,r.testBit i=true->i < k+j
 |[],_,_,j,r,hr=>by simp at hr
 |r0::Rs,k,h,j,r,hr=>by
  simp only[FM,vo] at h;intro i hi;cases j with
  |zero=>
   simp at hr;subst hr;have h1:r0 < 2 ^ k:=by have:=h.1;rw[Nat.blt_eq] at this;exact this
   rcases wD i k with hlt|hge
   .omega
   .have:=Nat.testBit_lt_two_pow (x:=r0) (i:=i) (vw h1 (Nat.pow_le_pow_right (by decide) hge));rw[this] at hi;cases hi
  |succ j=>
   have:=EI Rs (k+1) h.2 j r (by simpa using hr) i hi;omega
theorem Jl:∀(Rs:List Nat) (k h:Nat),h<=k->D6 Rs k h<=k+Rs.length/\h<=D6 Rs k h/\∀(j r:Nat),Rs[j]? =some r->D6 Rs k h<=k+j->∀i,i < k+j->r.testBit i=true
 |[],k,h,hk=>⟨by simpa [D6] using hk,vr _,fun j r hr=>by simp at hr⟩
 |r0::Rs,k,h,hk=>by
  simp only[D6];by_cases hb:Nat.beq (r0+1) (2 ^ k)=true
  .rw[if_pos hb];obtain⟨h1,h2,h3⟩:=Jl Rs (k+1) h (by omega);refine⟨by simp;omega,h2,fun j r hr hj i hi=>?_⟩;cases j with
   |zero=>
    simp at hr;subst hr;have hr0:r0=2 ^ k - 1:=by have:=vp hb;omega
    rw[hr0,Nat.testBit_two_pow_sub_one];simpa using hi
   |succ j=>exact h3 j r (by simpa using hr) (by omega) i (by omega)
  .rw[if_neg hb];obtain⟨h1,h2,h3⟩:=Jl Rs (k+1) (k+1) (by omega);refine⟨by simp;omega,by omega,fun j r hr hj i hi=>?_⟩;cases j with
   |zero=>omega
   |succ j=>exact h3 j r (by simpa using hr) (by omega) i (by omega)
theorem NY:∀{l:List Tmp},Ej l=true->l.Nodup
 |[],_=>List.nodup_nil
 |t::l,h=>by
  simp only[Ej,vo] at h;refine List.nodup_cons.2 ⟨fun hm=>?_,NY h.2⟩;have:=h.1;simp[hm] at this
theorem Cg {ops:Array Oper}(h:Ej (ops.toList.filterMap (·.dst))=true){i j:Nat}{oi oj:Oper}{d:Tmp}(hi:ops[i]? =some oi)(hj:ops[j]? =some oj)(hdi:oi.dst=some d)(hdj:oj.dst=some d):i=j:=by
 have key:∀(l:List Oper) (i j:Nat) (oi oj:Oper),(l.filterMap (·.dst)).Nodup->l[i]? =some oi->l[j]? =some oj->oi.dst=some d->oj.dst=some d->i=j:=by
  intro l;induction l with
  |nil=>intro i j oi oj _ hi;simp at hi
  |cons o l ih=>
   intro i j oi oj hn hi hj hdi hdj;cases i with
   |zero=>
    cases j with
    |zero=>rfl
    |succ j=>
     simp at hi hj;subst hi;rw[List.filterMap_cons_some hdi] at hn;exact absurd (List.mem_filterMap.2 ⟨oj,wP.2 ⟨j,hj⟩,hdj⟩) (List.nodup_cons.1 hn).1
   |succ i=>
    cases j with
    |zero=>
     simp at hi hj;subst hj;rw[List.filterMap_cons_some hdj] at hn;exact absurd (List.mem_filterMap.2 ⟨oi,wP.2 ⟨i,hi⟩,hdi⟩) (List.nodup_cons.1 hn).1
    |succ j=>
     simp at hi hj;have hn2:(l.filterMap (·.dst)).Nodup:=by
      cases hd:o.dst with
      |none=>rw[List.filterMap_cons_none hd] at hn;exact hn
      |some t=>rw[List.filterMap_cons_some hd] at hn;exact (List.nodup_cons.1 hn).2
     rw[ih i j oi oj hn2 hi hj hdi hdj]
 exact key ops.toList i j oi oj (NY h) (by simpa using hi) (by simpa using hj) hdi hdj
theorem OJ:∀(l:List Oper) (k:Nat) (t:Tmp) (i:Nat) (o:Oper),(∀(i j:Nat) (oi oj:Oper),l[i]? =some oi->l[j]? =some oj->oi.dst=some t->oj.dst=some t->i=j)->l[i]? =some o->o.dst=some t->An (Ah k l) t=some (k+i)
 |[],_,_,i,o,_,ho,_=>by simp at ho
 |o0::l,k,t,i,o,hinj,ho,hd=>by
  by_cases h0:o0.dst=some t
  .have:i=0:=hinj i 0 o o0 ho (by simp) hd h0;subst this;simp[Ah,h0,An]
  .cases i with
   |zero=>simp at ho;subst ho;exact absurd hd h0
   |succ i=>
    have ih:=OJ l (k+1) t i o (fun i j oi oj h1 h2 h3 h4=>by have:=hinj (i+1) (j+1) oi oj (by simpa using h1) (by simpa using h2) h3 h4;omega) (by simpa using ho) hd;rw[show k+(i+1)=k+1+i by omega,<-ih];cases hx:o0.dst with
    |none=>simp[Ah,hx]
    |some t'=>
     have hne:Nat.beq t' t=false:=by
      cases hb:Nat.beq t' t with
      |false=>rfl
      |true=>exact absurd (by rw[hx,vp hb]) h0
     simp[Ah,hx,An,hne]
theorem Gq (D:List (Tmp × Nat))(ok:Nat->Bool)(s:AO):∀(l:List Tmp) (t:Tmp) (c:AC),A6 (Bq D ok s l) t=some c->s.get t=some c/\∀i,An D t=some i->ok i=true
 |[],t,c,h=>by simp[Bq,A6] at h
 |t0::r,t,c,h=>by
  simp only[Bq] at h;cases hc0:s.get t0 with
  |none=>rw[hc0] at h;exact Gq D ok s r t c h
  |some c0=>
   rw[hc0] at h;have key:(A6 ((t0,c0)::Bq D ok s r) t=some c/\∀i,An D t0=some i->ok i=true)\/A6 (Bq D ok s r) t=some c:=by
    simp only at h;cases hm:An D t0 with
    |none=>rw[hm] at h;exact .inl ⟨by simpa using h,fun i hi=>by cases hi⟩
    |some i=>
     rw[hm] at h;simp only at h;split at h
     .rename_i hb;exact .inl ⟨h,fun i hi=>by cases hi;exact hb⟩
     .exact .inr h
   rcases key with⟨h1,h2⟩|h1
   .rw[Gn] at h1;split at h1
    .rename_i e;subst e;cases h1;exact⟨hc0,h2⟩
    .exact Gq D ok s r t c h1
   .exact Gq D ok s r t c h1
theorem Pa {S:DS}{ops:Array Oper}(hn:Ej (ops.toList.filterMap (·.dst))=true){ok:Nat->Bool}{R:Nat}{CD:List Tmp}{t:Tmp}{c:AC}(h:(S.masked (Ah 0 ops.toList) ok R CD).tmps.get t=some c):
  S.tmps.get t=some c/\∀(i:Nat) (o:Oper),ops[i]? =some o->o.dst=some t->ok i=true:=by
 have h':A6 (Bq (Ah 0 ops.toList) ok S.tmps CD) t=some c:=by
  simp only[DS.masked,AO.get] at h;cases hx:A6 (Bq (Ah 0 ops.toList) ok S.tmps CD) t with
  |none=>rw[hx] at h;simp[Tr.get] at h
  |some d=>rw[hx] at h;exact h
 obtain⟨h1,h2⟩:=Gq _ _ _ _ _ _ h';refine⟨h1,fun i o ho hd=>h2 i ?_⟩;have:=OJ ops.toList 0 t i o (fun i j oi oj a b c d=>Cg hn (by simpa using a) (by simpa using b) c d) (by simpa using ho) hd;simpa using this
section
variable {P:Program}{T:Tab}{n n':Nat}{ρ ρ':Nat->Option Nat}{m m':Mem}{w w':World}
structure MA (ρ :Nat->Option Nat) (m:Mem) (ρ':Nat->Option Nat) (m':Mem):Prop where
 at':∀id,m.at id≠ .pad->m'.at id=m.at id
 rho:∀id,m.at id≠ .pad-> ρ' id= ρ id
theorem MA.safe (h:MA ρ m ρ' m'){b off:Nat}(hs:AS T ρ' m' w b off):AS T ρ m w b off:=by
 refine⟨hs.1,hs.2.1,fun id=>?_⟩;by_cases hp:m.at id= .pad
 .rw[hp];trivial
 .have:=hs.2.2 id;rw[h.at' id hp,h.rho id hp] at this;exact this
mutual
theorem AA.back (h:MA ρ m ρ' m'):∀(c:AC) (v0 v:Value) (w0:World),AA T n ρ m w0 c v0->AA T n' ρ' m' w c v->AA T n ρ m w c v
 | .any,_,_,_,_,_=>trivial
 | .anyc,_,_,_,_,hh=>hh
 | .on _ a,v0,v,w0,h0,hh=>⟨h0.1,fun hc=>AA.back h a v0 v w0 (h0.2 hc) (hh.2 hc)⟩
 | .gd _ a,v0,v,w0,h0,hh=>⟨h0.1,fun hc=>AA.back h a v0 v w0 (h0.2.1 hc) (hh.2.1 hc),hh.2.2⟩
 | .cb _,_,_,_,_,hh=>hh
 | .b _,_,_,_,h0,hh=>⟨h0.1,hh.2⟩
 | .nb _,_,_,_,h0,hh=>⟨h0.1,hh.2⟩
 | .ci _ _,_,_,_,_,hh=>hh
 | .i _ _ _ _,_,_,_,h0,hh=>⟨h0.1,hh.2⟩
 | .cv _,_,_,_,_,hh=>hh
 | .v _,_,_,_,h0,hh=>⟨h0.1,hh.2⟩
 | .s _,_,_,_,h0,hh=>⟨h0.1,hh.2⟩
 | .ptr id off,v0,v,w0,⟨b0,_,_,h3⟩,⟨b,k1,k2,_⟩=>⟨b,by rw[<-h.rho id (A7 h3)];exact k1,k2,h3⟩
 | .pix id base stride cnt x plus,v0,v,w0,⟨h0,b0,j0,_,_,_,_,_,h3⟩,⟨_,b,j,k1,k2,k3,k4,k5,_⟩=>⟨h0,b,j,by rw[<-h.rho id (A7 h3)];exact k1,k2,k3,k4,k5,h3⟩
 | .ro x ks,v0,v,w0,h0,⟨_,k1⟩=>⟨h0.1,AM.mono (fun _ _ hs=>⟨h.safe hs,rfl⟩) (.list ks) (T x) v k1⟩
 | .rp x t off ks,v0,v,w0,h0,⟨_,j,b,o,us,k2,k3,k4,k5,k6⟩=>⟨h0.1,j,b,o,us,k2,k3,k4,k5,AX.mono (fun _ _ hs=>⟨h.safe hs,rfl⟩) _ _ _ _ k6⟩
 | .vec id x ks,v0,v,w0,⟨h1,h2,_,_⟩,⟨_,_,k3,k4⟩=>⟨h1,h2,AM.mono (fun _ _ hs=>⟨h.safe hs,rfl⟩) (.list ks) (T x) v k3,fun ks' e he=>by
   have:=k4 ks' e (by rw[h.at' id h2];exact he);unfold Q0 at this⊢;rw[h.rho id h2] at this;exact this⟩
 | .fn f first cap,v0,v,w0,⟨vs0,us0,_,a1,a2⟩,⟨vs,us,k1,k2,k3⟩=>⟨vs,us,k1,AB.back h first vs0 vs w0 a1 k2,AB.back h cap us0 us w0 a2 k3⟩
 | .sel x alts,v0,v,w0,⟨h0,j0,a1,_,a3⟩,⟨_,j,k1,k2,k3⟩=>⟨h0,j,k1,k2,by
   have e:j0=j:=by rw[a1] at k1;injection k1
   subst e;exact Aa.back h alts j0.toNat v0 v w0 a3 k3⟩
 | .yl id,v0,v,w0,⟨b0,_,_,h3⟩,⟨b,k1,k2,_⟩=>⟨b,by rw[<-h.rho id (A7 h3)];exact k1,k2,h3⟩
 | .asl id off len,v0,v,w0,⟨b0,_,_,h3⟩,⟨b,k1,k2,_⟩=>⟨b,by rw[<-h.rho id (A7 h3)];exact k1,k2,h3⟩
 | .rsv id x ks,v0,v,w0,⟨h1,h2,h4,_,_⟩,⟨_,_,_,k3,k4⟩=>⟨h1,h2,h4,k3,fun ks' e he=>by
   have:=k4 ks' e (by rw[h.at' id h2];exact he);unfold Po at this⊢;rw[h.rho id h2] at this;exact this⟩
 | .mr id y,v0,v,w0,⟨⟨h1,h2⟩,_⟩,⟨_,j,a,cap,k1,k2,k3,k4,k5⟩=>⟨⟨h1,h2⟩,j,a,cap,k1,k2,k3,k4,fun x ks e he=>by
   have:=k5 x ks e (by rw[h.at' id h2];exact he);unfold Ng at this⊢;rw[h.rho id h2] at this;exact this⟩
 | .mp id y t sz off,v0,v,w0,⟨⟨h1,h1',h2⟩,_⟩,⟨_,j,L,b,k1,k2,k3,k4,k5⟩=>⟨⟨h1,h1',h2⟩,j,L,b,k1,k2,k3,k4,fun x ks e he=>by
   have:=k5 x ks e (by rw[h.at' id h2];exact he);rw[h.rho id h2] at this;exact this⟩
 | .mv id,v0,v,w0,⟨b0,_,_,h3⟩,⟨b,k1,k2,_⟩=>⟨b,by rw[<-h.rho id (A7 h3)];exact k1,k2,h3⟩
 | .agg l,v0,v,w0,⟨vs0,_,a1⟩,⟨vs,k1,k2⟩=>⟨vs,k1,AB.back h l vs0 vs w0 a1 k2⟩
 | .tup l,v0,v,w0,⟨vs0,_,a1⟩,⟨vs,k1,k2⟩=>⟨vs,k1,AB.back h l vs0 vs w0 a1 k2⟩
theorem AB.back (h:MA ρ m ρ' m'):∀(l:List AC) (vs0 vs:List Value) (w0:World),AB T n ρ m w0 l vs0->AB T n' ρ' m' w l vs->AB T n ρ m w l vs
 |[],_,_,_,_,hh=>hh
 |c::l,vs0,vs,w0,⟨u0,us0,_,a1,a2⟩,⟨u,us,k1,k2,k3⟩=>⟨u,us,k1,AA.back h c u0 u w0 a1 k2,AB.back h l us0 us w0 a2 k3⟩
theorem Aa.back (h:MA ρ m ρ' m'):∀(l:List AC) (j:Nat) (v0 v:Value) (w0:World),Aa T n ρ m w0 l j v0->Aa T n' ρ' m' w l j v->Aa T n ρ m w l j v
 |[],_,_,_,_,h0,_=>h0.elim
 |c::_,0,v0,v,w0,h0,hh=>AA.back h c v0 v w0 h0 hh
 |_::l,j+1,v0,v,w0,h0,hh=>Aa.back h l j v0 v w0 h0 hh
end
mutual
theorem AA.backF (h:MA ρ m ρ' m'):∀(c:AC) (v:Value),(AC.free c=true\/∀id,m'.at id≠ .pad->m.at id≠ .pad)->AA T n ρ' m' w c v->AA T n ρ m w c v
 | .any,_,_,_=>trivial
 | .anyc,_,_,hh=>hh
 | .on _ a,v,hf,hh=>⟨hh.1,fun hc=>AA.backF h a v (hf.imp (fun q=>by simpa [AC.free] using q) id) (hh.2 hc)⟩
 | .gd _ a,v,hf,hh=>⟨hh.1,fun hc=>AA.backF h a v (hf.imp (fun q=>by simpa [AC.free] using q) id) (hh.2.1 hc),hh.2.2⟩
 | .cb _,_,_,hh=>hh
 | .b _,_,_,hh=>hh
 | .nb _,_,_,hh=>hh
 | .ci _ _,_,_,hh=>hh
 | .i _ _ _ _,_,_,hh=>hh
 | .cv _,_,_,hh=>hh
 | .v _,_,_,hh=>hh
 | .s _,_,_,hh=>hh
 | .ptr id off,v,hf,⟨b,k1,k2,k3⟩=>by
  have hp:=hf.resolve_left (by simp[AC.free]) id (A7 k3);exact⟨b,by rw[<-h.rho id hp];exact k1,k2,by rw[<-h.at' id hp];exact k3⟩
 | .pix id base stride cnt x plus,v,hf,⟨h0,b,j,k1,k2,k3,k4,k5,k6⟩=>by
  have hp:=hf.resolve_left (by simp[AC.free]) id (A7 k6);exact⟨h0,b,j,by rw[<-h.rho id hp];exact k1,k2,k3,k4,k5,by rw[<-h.at' id hp];exact k6⟩
 | .ro x ks,v,_,⟨h0,k1⟩=>⟨h0,AM.mono (fun _ _ hs=>⟨h.safe hs,rfl⟩) (.list ks) (T x) v k1⟩
 | .rp x t off ks,v,_,⟨h0,j,b,o,us,k2,k3,k4,k5,k6⟩=>⟨h0,j,b,o,us,k2,k3,k4,k5,AX.mono (fun _ _ hs=>⟨h.safe hs,rfl⟩) _ _ _ _ k6⟩
 | .vec id x ks,v,hf,⟨k1,k2,k3,k4⟩=>by
  have hp:=hf.resolve_left (by simp[AC.free]) id k2;refine⟨k1,hp,AM.mono (fun _ _ hs=>⟨h.safe hs,rfl⟩) (.list ks) (T x) v k3,fun ks' e he=>?_⟩;have:=k4 ks' e (by rw[h.at' id hp];exact he);unfold Q0 at this⊢;rw[h.rho id hp] at this;exact this
 | .fn f first cap,v,hf,⟨vs,us,k1,k2,k3⟩=>⟨vs,us,k1,AB.backF h first vs (hf.imp (fun hh=>by simp only[AC.free,vo] at hh;exact hh.1) (fun hh=>hh)) k2,
   AB.backF h cap us (hf.imp (fun hh=>by simp only[AC.free,vo] at hh;exact hh.2) (fun hh=>hh)) k3⟩
 | .sel x alts,v,hf,⟨h0,j,k1,k2,k3⟩=>⟨h0,j,k1,k2,Aa.backF h alts j.toNat v (hf.imp (fun hh=>by simpa [AC.free] using hh) (fun hh=>hh)) k3⟩
 | .yl id,v,hf,⟨b,k1,k2,k3⟩=>by
  have hp:=hf.resolve_left (by simp[AC.free]) id (A7 k3);exact⟨b,by rw[<-h.rho id hp];exact k1,k2,by rw[<-h.at' id hp];exact k3⟩
 | .asl id off len,v,hf,⟨b,k1,k2,k3⟩=>by
  have hp:=hf.resolve_left (by simp[AC.free]) id (A7 k3);exact⟨b,by rw[<-h.rho id hp];exact k1,k2,by rw[<-h.at' id hp];exact k3⟩
 | .rsv id x ks,v,hf,⟨k1,k2,k5,k3,k4⟩=>by
  have hp:=hf.resolve_left (by simp[AC.free]) id k2;refine⟨k1,hp,k5,k3,fun ks' e he=>?_⟩;have:=k4 ks' e (by rw[h.at' id hp];exact he);unfold Po at this⊢;rw[h.rho id hp] at this;exact this
 | .mr id y,v,hf,⟨⟨h1,h2⟩,j,a,cap,k1,k2,k3,k4,k5⟩=>by
  have hp:=hf.resolve_left (by simp[AC.free]) id h2;refine⟨⟨h1,hp⟩,j,a,cap,k1,k2,k3,k4,fun x ks e he=>?_⟩;have:=k5 x ks e (by rw[h.at' id hp];exact he);unfold Ng at this⊢;rw[h.rho id hp] at this;exact this
 | .mp id y t sz off,v,hf,⟨⟨h1,h1',h2⟩,j,L,b,k1,k2,k3,k4,k5⟩=>by
  have hp:=hf.resolve_left (by simp[AC.free]) id h2;refine⟨⟨h1,h1',hp⟩,j,L,b,k1,k2,k3,k4,fun x ks e he=>?_⟩;have:=k5 x ks e (by rw[h.at' id hp];exact he);rw[h.rho id hp] at this;exact this
 | .mv id,v,hf,⟨b,k1,k2,k3⟩=>by
  have hp:=hf.resolve_left (by simp[AC.free]) id (A7 k3);exact⟨b,by rw[<-h.rho id hp];exact k1,k2,by rw[<-h.at' id hp];exact k3⟩
 | .agg l,v,hf,⟨vs,k1,k2⟩=>⟨vs,k1,AB.backF h l vs (hf.imp (fun hh=>by simpa [AC.free] using hh) (fun hh=>hh)) k2⟩
 | .tup l,v,hf,⟨vs,k1,k2⟩=>⟨vs,k1,AB.backF h l vs (hf.imp (fun hh=>by simpa [AC.free] using hh) (fun hh=>hh)) k2⟩
theorem AB.backF (h:MA ρ m ρ' m'):∀(l:List AC) (vs:List Value),(AC.freeL l=true\/∀id,m'.at id≠ .pad->m.at id≠ .pad)->AB T n ρ' m' w l vs->AB T n ρ m w l vs
 |[],_,_,hh=>hh
 |c::l,vs,hf,⟨u,us,k1,k2,k3⟩=>⟨u,us,k1,AA.backF h c u (hf.imp (fun hh=>by simp only[AC.freeL,vo] at hh;exact hh.1) (fun hh=>hh)) k2,
   AB.backF h l us (hf.imp (fun hh=>by simp only[AC.freeL,vo] at hh;exact hh.2) (fun hh=>hh)) k3⟩
theorem Aa.backF (h:MA ρ m ρ' m'):∀(l:List AC) (j:Nat) (v:Value),(AC.freeL l=true\/∀id,m'.at id≠ .pad->m.at id≠ .pad)->Aa T n ρ' m' w l j v->Aa T n ρ m w l j v
 |[],_,_,_,hh=>hh.elim
 |c::_,0,v,hf,hh=>AA.backF h c v (hf.imp (fun hh=>by simp only[AC.freeL,vo] at hh;exact hh.1) (fun hh=>hh)) hh
 |_::l,j+1,v,hf,hh=>Aa.backF h l j v (hf.imp (fun hh=>by simp only[AC.freeL,vo] at hh;exact hh.2) (fun hh=>hh)) hh
end
theorem AD.tok_lt (hm:AD T n ρ m w){id x:Nat}{ks:List Kd}{e:TypeId}(hx:m.at id= .tok x ks e):x < n:=by
 have:=hm.blk id;rw[hx] at this;exact this.1
theorem AD.row_lt (hm:AD T n ρ m w){id x y:Nat}{ks:List Kd}{e:TypeId}(hx:m.at id= .mrow x y ks e):x < n/\y < n:=by
 have:=hm.blk id;rw[hx] at this;exact this.1
theorem AE.same (hs:AE T n ρ m w ρ' m' w')(hm:AD T n ρ m w)(hk:∀id,m.at id≠ .pad->m'.at id=m.at id):MA ρ m ρ' m' where
 at':=hk
 rho:=fun id hp=>by
  cases hx:m.at id with
  |pad=>exact absurd hx hp
  |gone=>exact (hs.rho id (by rw[hx];rfl)).1
  |cells l e=>exact (hs.rho id (by rw[hx];rfl)).1
  |lp x st=>exact (hs.rho id (by rw[hx];rfl)).1
  |mapb x kk ka vk va=>exact (hs.rho id (by rw[hx];rfl)).1
  |mrow x y ks e=>
   rcases hs.row id x y ks e hx with h2|⟨x',y',ks',h2,_,⟨_,h3,_⟩|⟨h3,_⟩⟩
   .rw[hk id hp,hx] at h2;cases h2
   .exact h3
   .rw[hk id hp,hx] at h2;injection h2 with h4 h5
    have:=(hm.row_lt hx).2;omega
  |tok x ks e=>
   rcases hs.tok id x ks e hx with⟨_,h2,_⟩|⟨_,h2|⟨x',ks',e',h2,h3,_⟩⟩
   .exact h2
   .rw[hk id hp,hx] at h2;cases h2
   .rw[hk id hp,hx] at h2;injection h2 with h4 h5
    have:=hm.tok_lt hx;omega
theorem AE.forget (hs:AE T n ρ m w ρ' m' w')(hm:AD T n ρ m w)(hm':AD T n' ρ' m' w')(hk:∀id,m.at id≠ .pad->m'.at id=m.at id):AE T n ρ m w ρ m w'/\AD T n ρ m w':=by
 have hsm:=hs.same hm hk;refine⟨⟨hs.os,hs.tape,hs.output,hs.size,fun _ h=>h,fun _ h=>⟨rfl,h⟩,fun _ _ h=>h,fun id b hp ht _=>?_,hs.old,fun id x ks e hx=>?_,fun id x y ks e hx=>?_⟩,⟨fun id=>?_,hm.inj,fun b off hb=>hm.fr b off (wI hs.size hb)⟩⟩
 .rw[hp] at ht;cases ht
 .refine .inl ⟨hx,rfl,fun b hb=>?_⟩;have hp:m.at id≠ .pad:=by rw[hx];exact fun h=>by cases h
  rcases hs.tok id x ks e hx with⟨_,_,h3⟩|⟨_,h2|⟨x',ks',e',h2,h3,_⟩⟩
  .exact h3 b hb
  .rw[hk id hp,hx] at h2;cases h2
  .rw[hk id hp,hx] at h2;injection h2 with h4 h5
   have:=hm.tok_lt hx;omega
 .have hp:m.at id≠ .pad:=by rw[hx];exact fun h=>by cases h
  rcases hs.row id x y ks e hx with h2|⟨x',y',ks',h2,_,⟨_,_,h5⟩|⟨h3,_⟩⟩
  .rw[hk id hp,hx] at h2;cases h2
  .exact .inr ⟨x,y,ks,hx,rfl,.inl ⟨rfl,rfl,h5⟩⟩
  .rw[hk id hp,hx] at h2;injection h2 with h4 h5
   have:=(hm.row_lt hx).2;omega
 .have h0:=hm.blk id;by_cases hp:m.at id= .pad
  .rw[hp];trivial
  .have h1:=hm'.blk id;rw[hk id hp] at h1;cases hx:m.at id with
   |pad=>trivial
   |gone=>trivial
   |cells l e=>
    rw[hx] at h0 h1;obtain⟨b0,vs0,_,_,a3⟩:=h0;obtain⟨b,vs,k1,k2,k3⟩:=h1;exact⟨b,vs,by rw[<-hsm.rho id hp];exact k1,k2,AB.back hsm l vs0 vs w a3 k3⟩
   |tok x ks e=>
    rw[hx] at h0 h1;obtain⟨a0,_⟩:=h0;obtain⟨_,l,k1,k2⟩:=h1;rw[hsm.rho id hp] at k2;exact⟨a0,l,k1,k2⟩
   |mrow x y ks e=>
    rw[hx] at h0 h1;obtain⟨a0,_⟩:=h0;obtain⟨_,l,k1,k1',k1'',k2⟩:=h1;rw[hsm.rho id hp] at k2;refine⟨a0,l,k1,k1',k1'',?_⟩;rcases k2 with k2|⟨b,vs,us,q1,q2,q3,q4⟩
    .exact .inl k2
    .exact .inr ⟨b,vs,us,q1,q2,AU.mono (fun _ _ hs=>⟨hsm.safe hs,rfl⟩) q3,q4⟩
   |mapb x kk ka vk va=>
    rw[hx] at h0 h1;obtain⟨a0,_⟩:=h0;obtain⟨_,l,b,es,cl,k1,k2,k3,k4,k5,k6,k7⟩:=h1;rw[hsm.rho id hp] at k2;refine⟨a0,l,b,es,cl,k1,k2,k3,k4,k5,fun i us e hl he=>?_,k7⟩;obtain⟨u1,u2,q1,q2,q3⟩:=k6 i us e hl he;exact⟨u1,u2,q1,Bn.mono (fun _ _ hs=>⟨hsm.safe hs,rfl⟩) q2,Bn.mono (fun _ _ hs=>⟨hsm.safe hs,rfl⟩) q3⟩
   |lp x st=>
    rw[hx] at h0 h1;obtain⟨b0,q0,_,_,_,_,_,_,a7,j0,a8,_⟩:=h0;obtain⟨b,q,k1,k2,k3,k4,k5,k6,k7,j,k8,k9⟩:=h1;exact⟨b,q,by rw[<-hsm.rho id hp];exact k1,k2,k3,k4,k5,k6,fun i c hc=>AA.back hsm c _ _ w (a7 i c hc) (k7 i c hc),j,AA.back hsm st _ _ w a8 k8,k9⟩
end
section
variable {P:Program}{T:Tab}{call:Ak}{ys:Ys}{r:Option Nat}{kk:Nat}{ops:Array Oper}{pc:PC}
theorem Fb (tmps:AO)(dst:Option Tmp)(c:AC):(Ci tmps dst c).n=tmps.n:=by cases dst<;>simp[Ci,AO.set_n]
theorem AO.get_set_ne (s:AO){d t:Nat}(c:AC)(h:d≠t):(s.set d c).get t=s.get t:=by
 unfold AO.set;cases hd:Nat.blt d s.n with
 |false=>rfl
 |true=>simp only[cond_true,AO.get,Gn,if_neg h]
theorem OZ (tmps:AO){dst:Option Tmp}{t:Nat}(c:AC)(h:dst≠some t):(Ci tmps dst c).get t=tmps.get t:=by
 cases dst with
 |none=>rfl
 |some d=>exact AO.get_set_ne _ _ (fun e=>h (by rw[e]))
theorem MQ {s s':RS}{o:Oper}(h:CO P call ys ops pc s o=some s')(hf:BA o.op=true){ρ :Nat->Option Nat}{a:Act}{w:World}(hA:Agr T s'.g)(hob:AY T s'.g)(hpc:pcv T pc)(hk:A8 T s.g pc)(hi:Bm T ρ ops s a w):s'.mem=s.mem:=by
 unfold CO at h;simp only[vq,vn] at h;obtain⟨⟨run,s1⟩,hg,h⟩:=h;obtain⟨gg1,gg2,gg3⟩:=Gi hg;simp only at h;split at h
 .cases h
 split at h
 .cases h;exact gg3
 .rename_i pc' imp;split at h
  .rename_i f args ts ho;rw[ho] at hf;cases hf
  .simp only[vn] at h;obtain⟨rr,hr,h⟩:=h;cases h;exact gg3
  .simp only[vn] at h;obtain⟨rr,hr,h⟩:=h;split at h
   .cases h;have hA1:Agr T ((s1.g.pushAll rr.us).needAll pc' rr.ps):=hA;obtain⟨e1,e2,_,hi1,_,e4⟩:=LY hg (hA1.of ((AR.push _ _).trans (AR.need _ _ _))) hpc hk hi;obtain⟨f1,f2,f3,f4,f5⟩:=e4 pc' [] rfl;have:=OM hf hr hA1.need.new (AY.need hob (f4 rfl)) hi1.rel.mem (E8 hi1.rel (fun c hc=>by cases hc));exact this.trans gg3
   .first
    |(simp only[hf,if_true] at h;cases h;exact gg3)
    |(split at h<;>cases h<;>exact gg3)
theorem IM {R j:Nat}{o:Oper}{S S':DS}{D:List (Tmp × Nat)}(h:Jb P call ys ops D pc R j o S=some S'):
  ∃s' c,CO P call ys ops pc (S.masked D R.testBit R (Ap ops o)) o=some s'/\S'=⟨Ci S.tmps o.dst c,S.mem,s'.g,(FH s' (FF R S.gls).length).map (fun e=>(j,e))++S.gls⟩/\
   (∀d,o.dst=some d->c=(s'.tmps.get d).getD .any)/\(BA o.op=true\/(∀id,S.mem.at id≠ .pad->s'.mem.at id=S.mem.at id)/\(AC.free c=true\/∀id,s'.mem.at id≠ .pad->S.mem.at id≠ .pad))/\
   ∀e∈FH s' (FF R S.gls).length,e∈s'.gl/\R.testBit e.j=true:=by
 unfold Jb at h;simp only[vq,vn] at h;obtain⟨s',hs,h⟩:=h;split at h
 .rename_i hc;rw[vo,wU,vo,wU] at hc;obtain⟨h1,h2⟩:=hc;cases h;refine⟨s',_,hs,rfl,fun d hd=>by rw[hd];rfl,?_,fun e he=>⟨List.mem_of_mem_take he,wR.1 h1 e he⟩⟩;rcases h2 with h2|⟨h2,h3⟩
  .exact .inl h2
  .obtain⟨k1,k2⟩:=Gd h2;have hlt:∀id,S.mem.at id≠ .pad->id < S.mem.length:=fun id hp=>by
    rcases wD id S.mem.length with h|h
    .exact h
    .exact absurd (Mem.at_ge h) hp
   refine .inr ⟨fun id hp=>k2 id (hlt id hp),?_⟩;rcases h3 with h3|h3
   .refine .inr fun id hp=>?_;have hl:=vp h3;rcases wD id s'.mem.length with h|h
    .rw[<-k2 id (by omega)];exact hp
    .exact absurd (Mem.at_ge h) hp
   .exact .inl h3
 .cases h
structure ER (P:Program) (T:Tab) (call:Ak) (ys:Ys) (ops:Array Oper) (pc:PC) (h:Nat) (S:Nat->DS):Prop where
 le:h<=ops.size
 step:∀j o,j < h->ops[j]? =some o->∃R,(AQ ops.toList [])[j]? =some R/\Jb P call ys ops (Ah 0 ops.toList) pc R j o (S j)=some (S (j+1))
 masks:FM (AQ ops.toList []) 0=true
 nodup:Ej (ops.toList.filterMap (·.dst))=true
 tail:∀j r,(AQ ops.toList [])[j]? =some r->h<=j->∀i,i < j->r.testBit i=true
 call:CS P T call
 ys:CL P T.lp ys
 gl0:(S 0).gls=[]
theorem ER.op {h:Nat}{S:Nat->DS}(H:ER P T call ys ops pc h S){j:Nat}(hj:j < h):∃o,ops[j]? =some o:=
 ⟨_,Array.getElem?_eq_getElem (vw hj H.le)⟩
structure io (S S':DS):Prop where
 grow:AR S.g S'.g
 mem:S'.mem=S.mem
 len:S'.tmps.n=S.tmps.n
 gls:∀p∈S.gls,p∈S'.gls
theorem ER.later {h:Nat}{S:Nat->DS}(H:ER P T call ys ops pc h S)(i:Nat):∀k,i+k<=h->io (S i) (S (i+k))/\
  ∀t,(∀j o,i<=j->j < i+k->ops[j]? =some o->o.dst≠some t)->(S (i+k)).tmps.get t=(S i).tmps.get t
 |0,_=>⟨⟨AR.refl _,rfl,rfl,fun _ h=>h⟩,fun _ _=>rfl⟩
 |k+1,hk=>by
  obtain⟨h1,h2⟩:=H.later i k (by omega);obtain⟨o,ho⟩:=H.op (j:=i+k) (by omega);obtain⟨R,hR,hs⟩:=H.step (i+k) o (by omega) ho;obtain⟨s',c,a1,a2,a3,a45,a6⟩:=IM hs;obtain⟨b1,_⟩:=I7 (r:=none) (kk:=0) H.call H.ys a1;have e:S (i+(k+1))=S (i+k+1):=rfl;refine⟨⟨?_,?_,?_,?_⟩,fun t ht=>?_⟩
  .rw[e,a2];exact h1.grow.trans b1
  .rw[e,a2];exact h1.mem
  .rw[e,a2];simp only;rw[<-h1.len,Fb]
  .intro p hp;rw[e,a2];exact wB _ (h1.gls p hp)
  .rw[e,a2];simp only;rw[<-h2 t (fun j o h1 h2=>ht j o h1 (by omega))];exact OZ _ _ (ht (i+k) o (by omega) (by omega) ho)
theorem ER.gls {h:Nat}{S:Nat->DS}(H:ER P T call ys ops pc h S):∀k,k<=h->∀p∈(S k).gls,p.1 < k/\p∈(S (p.1+1)).gls
 |0,_,p,hp=>by rw[H.gl0] at hp;cases hp
 |k+1,hk,p,hp=>by
  obtain⟨o,ho⟩:=H.op (j:=k) (by omega);obtain⟨R,hR,hs⟩:=H.step k o (by omega) ho;obtain⟨s',c,a1,a2,a3,a45,a6⟩:=IM hs;have hp0:=hp;rw[a2] at hp;rcases wc.1 hp with h1|h1
  .obtain⟨e,he,rfl⟩:=List.mem_map.1 h1;exact⟨Nat.lt_succ_self _,hp0⟩
  .obtain⟨q1,q2⟩:=H.gls k (by omega) p h1;exact⟨by omega,q2⟩
structure JO (T:Tab) (ops:Array Oper) (h:Nat) (S:Nat->DS) (listed:Array Bool) (ρ :Nat->Option Nat) (a:Act) (w:World):Prop where
 size:listed.size=ops.size
 closed:K3 ops listed
 only:∀i,listed.getD i false=true->i < h
 defers:Co T.base ρ (S 0).mem w a.defers
 asize:a.tmps.size=(S 0).tmps.n
 mem:AD T (S 0).g.n ρ (S 0).mem w
 init:∀t c,(S 0).tmps.get t=some c->(∀i o,ops[i]? =some o->o.dst=some t->listed.getD i false=false)->AA T (S 0).g.n ρ (S 0).mem w c (a.tmps.getD t undef)
 facts:∀i o d c,listed.getD i false=true->ops[i]? =some o->o.dst=some d->(S (i+1)).tmps.get d=some c->AA T (S (i+1)).g.n ρ (S 0).mem w c (a.tmps.getD d undef)
 gfacts:∀p∈(S h).gls,listed.getD p.1 false=true->El T ops (S (p.1+1)).g.n a p.2/\listed.getD p.2.j false=true
variable {h:Nat}{S:Nat->DS}{listed:Array Bool}{ρ :Nat->Option Nat}{a:Act}{w:World}
theorem JO.val (H:ER P T call ys ops pc h S)(I:JO T ops h S listed ρ a w){k:Nat}(hk:k<=h){t:Nat}{c:AC}(hc:(S k).tmps.get t=some c)
  (hl:∀i o,ops[i]? =some o->o.dst=some t->listed.getD i false=true/\i < k\/listed.getD i false=false/\k<=i):AA T (S k).g.n ρ (S 0).mem w c (a.tmps.getD t undef):=by
 by_cases hex:∃i o,ops[i]? =some o/\o.dst=some t/\i < k
 .obtain⟨i,o,ho,hd,hik⟩:=hex;rcases hl i o ho hd with⟨h1,_⟩|⟨_,h2⟩
  .obtain⟨l1,l2⟩:=H.later (i+1) (k - (i+1)) (by omega);rw[show i+1+(k - (i+1))=k by omega] at l1 l2;have:=l2 t (fun j o' hj1 hj2 ho' hd'=>by
    have:=Cg H.nodup ho ho' hd hd';omega)
   rw[this] at hc;exact (I.facts i o t c h1 ho hd hc).up0 l1.grow.n
  .omega
 .obtain⟨l1,l2⟩:=H.later 0 k (by omega);rw[v8] at l1 l2;have:=l2 t (fun j o' hj1 hj2 ho' hd'=>hex ⟨j,o',ho',hd',by omega⟩);rw[this] at hc;refine (I.init t c hc fun i o ho hd=>?_).up0 l1.grow.n;rcases hl i o ho hd with⟨_,h2⟩|⟨h1,_⟩
  .exact absurd ⟨i,o,ho,hd,h2⟩ hex
  .exact h1
theorem JO.masked {CD:List Tmp}(H:ER P T call ys ops pc h S)(I:JO T ops h S listed ρ a w){j R:Nat}(hj:j < h)(hR:(AQ ops.toList [])[j]? =some R)(hlR:∀i,R.testBit i=true->listed.getD i false=true):
  Bm T ρ ops ((S j).masked (Ah 0 ops.toList) R.testBit R CD) a w:=by
 obtain⟨l1,_⟩:=H.later 0 j (by omega);rw[v8] at l1;have hlt:=EI _ 0 H.masks j R hR;refine⟨⟨(by simp only[DS.masked];rw[l1.mem];exact I.defers),?_,fun t c hc=>?_,?_⟩,fun e he=>?_⟩
 .simp only[DS.masked];rw[I.asize,l1.len]
 .obtain⟨h1,h2⟩:=Pa (R:=R) H.nodup hc;simp only[DS.masked];rw[l1.mem];refine I.val H (by omega) h1 fun i o ho hd=> .inl ?_;have hb:=h2 i o ho hd;exact⟨hlR i hb,by have:=hlt i hb;omega⟩
 .simp only[DS.masked];rw[l1.mem];exact I.mem.mono l1.grow.n
 .simp only[DS.masked,FF,List.mem_map,List.mem_filter] at he;obtain⟨p,⟨hp,hb⟩,rfl⟩:=he;have hlp:=hlR p.1 hb;have hpj:p.1 < j:=by have:=hlt p.1 hb;omega
  obtain⟨l2,_⟩:=H.later j (h - j) (by omega);rw[show j+(h - j)=h by omega] at l2;obtain⟨l3,_⟩:=H.later (p.1+1) (j - (p.1+1)) (by omega);rw[show p.1+1+(j - (p.1+1))=j by omega] at l3;exact (I.gfacts p (l2.gls p hp) hlp).1.up l3.grow.n
theorem Aj (listed:Array Bool)(i j:Nat)(hi:i < listed.size):(listed.setIfInBounds i true).getD j false=if j=i then true else listed.getD j false:=by
 by_cases hij:j=i
 .subst hij;simp[vy,Array.getElem?_setIfInBounds,hi]
 .rw[if_neg hij];simp only[vy,Array.getElem?_setIfInBounds];rw[if_neg (fun e=>hij e.symm)]
theorem C6 {dst:Option Tmp}{t:Nat}(h:dst≠some t)(v:Value):(a.put dst v).tmps.getD t undef=a.tmps.getD t undef:=by
 cases dst with
 |none=>rfl
 |some d=>
  simp only[Act.put,vy,Array.getElem?_setIfInBounds];rw[if_neg (fun e=>h (by rw[e]))]
theorem JO.comes (H:ER P T call ys ops pc h S)(hA:Agr T (S h).g)(hob:AY T (S h).g)(hpc:pcv T pc)(hpk:A8 T (S 0).g pc)(I:JO T ops h S listed ρ a w){i:Nat}{o:Oper}(hi:i < h)(ho:ops[i]? =some o)
  (hun:listed.getD i false=false) (hready:∀e∈o.after,Region.binds .any e=true->listed.getD e.on false=true) {K:Act->World->Prop} {Q:Exit->Act->World->Prop}
  (hK:∀v w',JO T ops h S (listed.setIfInBounds i true) ρ (a.put o.dst v) w'->AE T (S 0).g.n ρ (S 0).mem w ρ (S 0).mem w'->K (a.put o.dst v) w'):Ce P r kk ops o a w K Q:=by
 obtain⟨R,hR,hs⟩:=H.step i o hi ho;obtain⟨s',c,a1,a2,a3,a45,a6⟩:=IM hs;obtain⟨b1,b2⟩:=I7 (r:=r) (kk:=kk) H.call H.ys a1;have hlR:=CB I.closed hR ho hready;have hlt:=EI _ 0 H.masks i R hR;obtain⟨l1,_⟩:=H.later 0 i (by omega);rw[v8] at l1;obtain⟨l2,_⟩:=H.later (i+1) (h - (i+1)) (by omega);rw[show i+1+(h - (i+1))=h by omega] at l2;have hg:(S (i+1)).g=s'.g:=by rw[a2]
 have hA1:Agr T s'.g:=by rw[<-hg];exact hA.of l2.grow
 have hob1:AY T s'.g:=by rw[<-hg];exact hob.of l2.grow
 have hm0:(S i).mem=(S 0).mem:=l1.mem;have hisz:i < listed.size:=by rw[I.size];exact (vx.1 ho).1
 have hmask:=I.masked (CD:=Ap ops o) H hi hR hlR;have hmem2:s'.mem=(S i).mem\/¬BA o.op=true:=by
  by_cases hf:BA o.op=true
  .exact .inl (MQ a1 hf hA1 hob1 hpc (hpk.grow l1.grow) hmask)
  .exact .inr hf
 have a4:∀id,(S i).mem.at id≠ .pad->s'.mem.at id=(S i).mem.at id:=by
  rcases a45 with hf|h
  .rcases hmem2 with h|h
   .intro id _;rw[h]
   .exact absurd hf h
  .exact h.1
 have a5:AC.free c=true\/∀id,s'.mem.at id≠ .pad->(S i).mem.at id≠ .pad:=by
  rcases a45 with hf|h
  .rcases hmem2 with h|h
   .exact .inr fun id hp=>by rw[<-h];exact hp
   .exact absurd hf h
  .exact h.2
 refine b2 hA1 hob1 hpc (hpk.grow l1.grow) ρ a w K Q hmask fun ρ' v w' r1 r2=>?_;have r2':AE T (S i).g.n ρ (S i).mem w ρ' s'.mem w':=r2;have hmi:AD T (S i).g.n ρ (S i).mem w:=by rw[hm0];exact I.mem.mono l1.grow.n
 obtain⟨f1,f2⟩:=r2'.forget hmi r1.rel.mem a4;have hsm:=r2'.same hmi a4;have st:AE T (S 0).g.n ρ (S 0).mem w ρ (S 0).mem w':=by rw[<-hm0];exact f1.down l1.grow.n
 have stn:∀n,AE T n ρ (S 0).mem w ρ (S 0).mem w':=fun n=>⟨st.os,st.tape,st.output,st.size,st.mlen,st.rho,st.untr,st.fresh,st.old,fun id x ks e hx=>by
  rcases st.tok id x ks e hx with h1|⟨_,h2|⟨x',ks',e',h2,h3,_⟩⟩
  .exact .inl h1
  .rw[hx] at h2;cases h2
  .rw[hx] at h2;injection h2 with h4 h5
   have:=I.mem.tok_lt hx;omega,fun id x y ks e hx=>by
  rcases st.row id x y ks e hx with h2|⟨x',y',ks',h2,_,⟨_,_,h5⟩|⟨h3,_⟩⟩
  .rw[hx] at h2;cases h2
  .exact .inr ⟨x,y,ks,hx,rfl,.inl ⟨rfl,rfl,h5⟩⟩
  .rw[hx] at h2;injection h2 with h4 h5
   have:=(I.mem.row_lt hx).2;omega⟩
 have hmem':AD T (S 0).g.n ρ (S 0).mem w':=by
  exact (AE.forget (m':=s'.mem) (n':=s'.g.n) (by rw[<-hm0];exact r2'.down l1.grow.n) I.mem r1.rel.mem (by rw[<-hm0];exact a4)).2
 refine hK v w' ⟨by simp[I.size],?_,?_,?_,?_,hmem',?_,?_,?_⟩ st
 .
  intro j oj hoj hlj e he hb;rw[Aj _ _ _ hisz] at hlj⊢;split
  .rfl
  .split at hlj
   .rename_i hji;subst hji;rw[ho] at hoj;cases hoj;exact hready e he hb
   .exact I.closed j oj hoj hlj e he hb
 .intro j hj;rw[Aj _ _ _ hisz] at hj;split at hj
  .rename_i hji;rw[hji];exact hi
  .exact I.only j hj
 .have:=I.defers.on st;cases o.dst<;>exact this
 .have:=r1.rel.size;rw[<-I.asize];cases o.dst<;>simp[Act.put]
 .
  intro t c0 hc hno;have hne:o.dst≠some t:=fun hd=>by
   have:=hno i o ho hd;rw[Aj _ _ _ hisz,if_pos rfl] at this;cases this
  rw[C6 hne];refine AA.mono0 (stn _) (vr _) _ _ (I.init t c0 hc fun j oj hoj hd=>?_);have:=hno j oj hoj hd;rw[Aj _ _ _ hisz] at this;split at this
  .cases this
  .exact this
 .
  intro j oj d c0 hlj hoj hd hc;rw[Aj _ _ _ hisz] at hlj;split at hlj
  .rename_i hji;subst hji;rw[ho] at hoj;cases hoj;rw[a2] at hc;simp only[hd,Ci] at hc;rcases AO.get_set _ _ _ _ hc with⟨_,_,hcc⟩|⟨hdn,hold⟩
   .have hval:=r1.rel.at d;simp only at hval;have hc2:c=(s'.tmps.get d).getD .any:=a3 d hd;rw[<-hc2] at hval;rw[hg,hcc,<-hm0];exact AA.backF hsm _ _ a5 hval
   .
    have hn:=hdn rfl;have hnn:¬d < a.tmps.size:=by rw[I.asize,<-l1.len];exact hn
    have hv:=I.val H (by omega) hold fun i' o' ho' hd'=>by
     have:=Cg H.nodup ho ho' hd hd';subst this;exact .inr ⟨hun,vr _⟩
    have hput:(a.put o.dst v).tmps.getD d undef=a.tmps.getD d undef:=by
     rw[hd];simp only[Act.put,vy,Array.getElem?_setIfInBounds,if_true,if_neg hnn];rw[Array.getElem?_eq_none (Nat.le_of_not_lt hnn)]
    rw[hput,hg];exact AA.mono0 (stn _) b1.n _ _ hv
  .rename_i hji;have hne:o.dst≠some d:=fun hd'=>hji (Cg H.nodup hoj ho hd hd');rw[C6 hne];exact AA.mono0 (stn _) (vr _) _ _ (I.facts j oj d c0 hlj hoj hd hc)
 .
  intro p hp hlp;rw[Aj _ _ _ hisz] at hlp;split at hlp
  .rename_i hpi;obtain⟨_,q2⟩:=H.gls h (vr _) p hp;rw[hpi,a2] at q2;rcases wc.1 q2 with h1|h1
   .obtain⟨e,he,rfl⟩:=List.mem_map.1 h1;obtain⟨u1,u2⟩:=a6 e he;refine⟨?_,?_⟩
    .rw[hg];exact r1.ges e u1
    .rw[Aj _ _ _ hisz];split
     .rfl
     .exact hlR e.j u2
   .have:=(H.gls i (by omega) p h1).1;omega
  .rename_i hpi;obtain⟨q1,q2⟩:=I.gfacts p hp hlp;have hji:p.2.j≠i:=fun e=>by rw[e,hun] at q2;cases q2
   refine⟨⟨q1.lt,q1.bool,?_,q1.imp,q1.ne⟩,by rw[Aj _ _ _ hisz,if_neg hji];exact q2⟩;have hy:yielded ops (a.put o.dst v).tmps p.2.j=yielded ops a.tmps p.2.j:=by
    cases hd:o.dst with
    |none=>rfl
    |some d=>
     refine Hm ?_ v;intro he;cases hop:ops[p.2.j]? with
     |none=>rw[hop] at he;cases he
     |some op=>
      rw[hop] at he;exact hji (Cg H.nodup hop ho he hd)
   rw[hy];exact q1.iff
end
section
variable {P:Program}{T:Tab}{call:Ak}{ys:Ys}{r:Option Nat}{kk:Nat}{ops:Array Oper}{pc:PC}
theorem MV {acc:List Nat}:∀(es:List Edge),∀e∈es,Region.binds .any e=true->(D3 acc es).testBit e.on=true
 |[],e,he,_=>by cases he
 |e0::es,e,he,hb=>by
  simp only[D3];cases he with
  |head=>
   rw[if_pos hb];simp only[show∀x y,Nat.lor x y=x ||| y from fun _ _=>rfl,Nat.testBit_or,Nat.testBit_two_pow];simp
  |tail _ he=>
   have:=MV (acc:=acc) es e he hb;split
   .simp only[show∀x y,Nat.lor x y=x ||| y from fun _ _=>rfl,Nat.testBit_or,this,Bool.or_true]
   .exact this
theorem OY:∀(l:List Oper) (pre:List Oper) (acc:List Nat),acc.length=pre.length->
  (∀(j r:Nat) (o:Oper),acc[j]? =some r->(pre++l)[j]? =some o->∀e∈o.after,Region.binds .any e=true->r.testBit e.on=true)->
  ∀(j r:Nat) (o:Oper),(AQ l acc)[j]? =some r->(pre++l)[j]? =some o->∀e∈o.after,Region.binds .any e=true->r.testBit e.on=true
 |[],pre,acc,_,h=>h
 |o::l,pre,acc,hlen,h=>by
  simp only[AQ];have e:pre++o::l=(pre++[o])++l:=by simp
  rw[e];refine OY l (pre++[o]) _ (by simp[hlen]) ?_;intro j r o' hr ho';rw[List.getElem?_append] at hr;split at hr
  .exact h j r o' hr (by rw[e];exact ho')
  .rename_i hj;have hj2:j=acc.length:=by
    rcases wD (j - acc.length) 1 with h1|h1
    .omega
    .rw[wV (by simpa using h1)] at hr;cases hr
   subst hj2;simp at hr;subst hr;have hoo:o'=o:=by
    rw[hlen] at ho';simp at ho';exact ho'.symm
   subst hoo;exact fun e he hb=>MV _ e (by simpa using he) hb
theorem N0 (hm:FM (AQ ops.toList []) 0=true){k:Nat}{o:Oper}(ho:ops[k]? =some o){e:Edge}(he:e∈o.after)(hb:Region.binds .any e=true):e.on < k:=by
 have hk:k < (AQ ops.toList []).length:=by rw[CJ];exact (vx.1 ho).1
 have h1:=OY ops.toList [] [] rfl (fun j r o hr=>by simp at hr) k _ o (vt hk) (by simpa using ho) e he hb;have:=EI _ 0 hm k _ (vt hk) e.on h1;omega
theorem Fa {i:Nat}{o:Oper}(ho:ops[i]? =some o){a:Act}{w:World}{K:Act->World->Prop}{Q:Exit->Act->World->Prop}(h:Ce P r kk ops o a w K Q):wpOpIn (fen r) kk P ops Q i K a w:=by
 unfold Ce at h;unfold wpOpIn;simp only[ho];split
 .rename_i hw;rw[if_pos hw] at h;exact h
 .rename_i hw;rw[if_neg hw] at h;exact⟨fun _ _=>trivial,h⟩
theorem W0 (hcall:CS P T call)(hys:CL P T.lp ys)(hm:FM (AQ ops.toList []) 0=true){h:Nat}(htail:∀j r,(AQ ops.toList [])[j]? =some r->h<=j->∀i,i < j->r.testBit i=true):
  ∀{l:List Oper} {s s':RS},Cr P call ys ops pc l s=some s'->Agr T s'.g->AY T s'.g->pcv T pc->A8 T s.g pc->
   ∀(k:Nat) (listed:Array Bool) ρ a w Q,h<=k->k+l.length=ops.size->(∀j,l[j]? =ops[k+j]?)->listed.size=ops.size->(∀j,listed.getD j false=true↔j < k)->K3 ops listed->Bm T ρ ops s a w->
   (∀ ρ' a' w',Bm T ρ' ops s' a' w'->AE T s.g.n ρ s.mem w ρ' s'.mem w'->Q .normal a' w')->wpAnyIn (fen r) kk P .any ops Q l.length listed a w
 |[],s,s',hs,_,_,_,_,k,listed, ρ,a,w,Q,hk,hlen,hl,hsz,hlist,_,hi,hK=>by
  simp only[Cr] at hs;cases hs;refine wpAnyIn_done ?_ (hK ρ a w hi (AE.refl _ _ _ _ _)) _;refine List.eq_nil_iff_forall_not_mem.2 fun i hi=>?_;obtain⟨h1,o,ho,_⟩:=mem_ready.1 hi;have:i < ops.size:=(vx.1 ho).1;have h2:=(hlist i).2 (by simp at hlen;omega);rw[vy] at h1 h2;have hlt:i < listed.size:=by omega
  rw[Array.getElem?_eq_getElem hlt] at h1 h2;simp only[Option.getD_some] at h1 h2;rw[h1] at h2;cases h2
 |o::l,s,s',hs,hA,hob,hpc,hpk,k,listed, ρ,a,w,Q,hk,hlen,hl,hsz,hlist,hcl,hi,hK=>by
  simp only[Cr,vq,vn] at hs;obtain⟨s1,h1,h2⟩:=hs;obtain⟨g1,k1⟩:=I7 (r:=r) (kk:=kk) hcall hys h1;have g2:=(H8 (r:=r) (kk:=kk) hcall hys h2).1;have ho:ops[k]? =some o:=by simpa using (hl 0).symm
  have hksz:k < listed.size:=by simp at hlen;omega
  have toF:∀i,listed.getD i true=false->listed.getD i false=false:=fun i h=>by
   rw[vy] at h⊢;cases hx:listed[i]? with
   |none=>rfl
   |some b=>rw[hx] at h;exact h
  have only:∀i,i∈Region.ready .any ops listed->i=k:=fun i hir=>by
   obtain⟨q1,oi,q2,q3⟩:=mem_ready.1 hir;have hge:k<=i:=by
    rcases wD i k with h|h
    .have:=(hlist i).2 h;rw[toF i q1] at this;cases this
    .exact h
   have hisz:i < (AQ ops.toList []).length:=by rw[CJ];exact (vx.1 q2).1
   rcases wD k i with h|h
   .have hb:=htail i _ (vt hisz) (by omega) k h;have:=CB hcl (vt hisz) q2 q3 k hb;have:=(hlist k).1 this;omega
   .omega
  have kready:k∈Region.ready .any ops listed->wpOpIn (fen r) kk P ops Q k (wpAnyIn (fen r) kk P .any ops Q l.length (listed.setIfInBounds k true)) a w:=fun hkr=>by
   obtain⟨_,ok,q2,q3⟩:=mem_ready.1 hkr;rw[ho] at q2;cases q2;refine Fa ho ?_;refine k1 (hA.of g2) (hob.of g2) hpc hpk ρ a w _ Q hi fun ρ' v w' r1 r2=>?_;refine W0 hcall hys hm htail h2 hA hob hpc (hpk.grow g1) (k+1) _ ρ' _ w' Q (by omega) (by simp at hlen;omega) (fun j=>by have:=hl (j+1);simpa [Nat.add_assoc,Nat.add_comm 1 j] using this) (by simpa using hsz) (fun j=>?_) ?_ r1 fun ρ2 a2 w2 hi2 hs2=>?_
   .rw[Aj _ _ _ hksz];split
    .rename_i e;subst e;simp
    .rename_i e;rw[hlist j];omega
   .intro j oj hoj hlj e he hb;rw[Aj _ _ _ hksz] at hlj⊢;split
    .rfl
    .split at hlj
     .rename_i e2;rw[e2,ho] at hoj;cases hoj;exact q3 e he hb
     .exact hcl j oj hoj hlj e he hb
   .exact hK ρ2 a2 w2 hi2 (r2.trans hi.rel.mem g1.n hs2)
  refine⟨fun hnil=>?_,fun i hir=>by have:=only i hir;subst this;exact kready hir⟩;exfalso;have:k∈Region.ready .any ops listed:=by
   refine mem_ready.2 ⟨?_,o,ho,fun e he hb=>?_⟩
   .have h0:¬listed.getD k false=true:=fun h=>by have:=(hlist k).1 h;omega
    rw[vy,Array.getElem?_eq_getElem hksz] at h0⊢;simpa using h0
   .exact (hlist e.on).2 (N0 hm ho he hb)
  rw[hnil] at this;cases this
def CR (listed:Array Bool):Nat:=listed.toList.countP (fun b=> !b)
theorem QF:∀(l:List Bool) (i:Nat),l[i]? =some false->(l.set i true).countP (fun b=> !b)+1=l.countP (fun b=> !b)
 |[],i,h=>by simp at h
 |b::l,0,h=>by simp at h;subst h;simp
 |b::l,i+1,h=>by
  have:=QF l i (by simpa using h);simp only[List.set_cons_succ,List.countP_cons];omega
theorem D1 {listed:Array Bool}{i:Nat}(hi:i < listed.size)(h:listed.getD i false=false):CR (listed.setIfInBounds i true)+1=CR listed:=by
 unfold CR;rw[Array.toList_setIfInBounds];refine QF _ i ?_;rw[vy,Array.getElem?_eq_getElem hi] at h;simp at h;simp[hi,h]
theorem Jd:∀(l:List Bool) (h:Nat),h<=l.length->(∀j,(l[j]?).getD false=true↔j < h)->l.countP (fun b=> !b)=l.length - h
 |[],h,_,_=>by simp
 |b::l,0,_,hl=>by
  have hb:b=false:=by
   have:=hl 0;simpa using this
  subst hb;have:=Jd l 0 (wX _) (fun j=>by simpa using hl (j+1));simp[this]
 |b::l,h+1,hle,hl=>by
  have hb:b=true:=by
   have:=(hl 0).2 (Nat.succ_pos _);simpa using this
  subst hb;have:=Jd l h (by simpa using hle) (fun j=>by have:=hl (j+1);simpa using this);simp[this]
theorem FL {listed:Array Bool}{h:Nat}(hle:h<=listed.size)(hl:∀j,listed.getD j false=true↔j < h):CR listed=listed.size - h:=by
 unfold CR;rw[Jd listed.toList h (by simpa using hle) (fun j=>by rw[<-hl j,vy];simp)];simp
theorem JO.full {h:Nat}{S:Nat->DS}(H:ER P T call ys ops pc h S){listed:Array Bool}{ρ :Nat->Option Nat}{a:Act}{w:World}(I:JO T ops h S listed ρ a w)(hl:∀j,j < h->listed.getD j false=true):
  Bm T ρ ops ⟨(S h).tmps,(S h).mem,(S h).g,(S h).gls.map (·.2)⟩ a w:=by
 obtain⟨l1,_⟩:=H.later 0 h (by omega);rw[v8] at l1;refine⟨⟨(by simp only;rw[l1.mem];exact I.defers),by rw[I.asize,l1.len],fun t c hc=>?_,?_⟩,fun e he=>?_⟩
 .simp only;rw[l1.mem];refine I.val H (vr _) hc fun i o ho hd=>?_;rcases wD i h with hi|hi
  .exact .inl ⟨hl i hi,hi⟩
  .refine .inr ⟨?_,hi⟩;cases hx:listed.getD i false with
   |false=>rfl
   |true=>have:=I.only i hx;omega
 .simp only;rw[l1.mem];exact I.mem.mono l1.grow.n
 .obtain⟨p,hp,rfl⟩:=List.mem_map.1 he;have hlt:=(H.gls h (vr _) p hp).1;obtain⟨l3,_⟩:=H.later (p.1+1) (h - (p.1+1)) (by omega);rw[show p.1+1+(h - (p.1+1))=h by omega] at l3;exact (I.gfacts p hp (hl p.1 hlt)).1.up l3.grow.n
theorem fo {h:Nat}{S:Nat->DS}(H:ER P T call ys ops pc h S)(hA:Agr T (S h).g)(hob:AY T (S h).g)(hpc:pcv T pc)(hpk:A8 T (S 0).g pc){Q:Exit->Act->World->Prop}{ρ :Nat->Option Nat}{w0:World}(hm0:AD T (S 0).g.n ρ (S 0).mem w0)
  (hK:∀(listed:Array Bool) a w,listed.size=ops.size->(∀j,listed.getD j false=true↔j < h)->K3 ops listed->Bm T ρ ops ⟨(S h).tmps,(S h).mem,(S h).g,(S h).gls.map (·.2)⟩ a w->
   AE T (S 0).g.n ρ (S 0).mem w0 ρ (S 0).mem w->wpAnyIn (fen r) kk P .any ops Q (ops.size - h) listed a w):
  ∀(fuel:Nat) (listed:Array Bool) (a:Act) (w:World),JO T ops h S listed ρ a w->AE T (S 0).g.n ρ (S 0).mem w0 ρ (S 0).mem w->CR listed=fuel->wpAnyIn (fen r) kk P .any ops Q fuel listed a w:=by
 intro fuel;induction fuel with
 |zero=>
  intro listed a w I st hu;by_cases hall:∀j,j < h->listed.getD j false=true
  .have hiff:∀j,listed.getD j false=true↔j < h:=fun j=>⟨I.only j,hall j⟩;have hc:=FL (by rw[I.size];exact H.le) hiff;rw[hu,I.size] at hc;have:=hK listed a w I.size hiff I.closed (I.full H hall) st;rw[<-hc] at this;exact this
  .exfalso;simp only[Classical.not_forall] at hall;obtain⟨j,hj,hlj⟩:=hall;have:=D1 (listed:=listed) (i:=j) (by rw[I.size];exact vw hj H.le) (by simpa using hlj);omega
 |succ fuel ih=>
  intro listed a w I st hu;by_cases hall:∀j,j < h->listed.getD j false=true
  .have hiff:∀j,listed.getD j false=true↔j < h:=fun j=>⟨I.only j,hall j⟩;have hc:=FL (by rw[I.size];exact H.le) hiff;rw[hu,I.size] at hc;have:=hK listed a w I.size hiff I.closed (I.full H hall) st;rw[<-hc] at this;exact this
  .simp only[Classical.not_forall] at hall;obtain⟨j,hj,hlj⟩:=hall;have hmin:∃j,j < h/\listed.getD j false=false/\∀i,i < j->listed.getD i false=true:=by
    have key:∀n,(∃j,j < n/\j < h/\listed.getD j false=false)->∃j,j < h/\listed.getD j false=false/\∀i,i < j->listed.getD i false=true:=by
     intro n;induction n with
     |zero=>rintro⟨j,h1,_⟩;omega
     |succ n ihn=>
      rintro⟨j,h1,h2,h3⟩;by_cases hx:∃j,j < n/\j < h/\listed.getD j false=false
      .exact ihn hx
      .have hjn:j=n:=by
        rcases wD j n with h|h
        .exact absurd ⟨j,h,h2,h3⟩ hx
        .omega
       subst hjn;refine⟨j,h2,h3,fun i hi=>?_⟩;cases hli:listed.getD i false with
       |true=>rfl
       |false=>exact absurd ⟨i,hi,by omega,hli⟩ hx
    exact key (j+1) ⟨j,Nat.lt_succ_self _,hj,by simpa using hlj⟩
   obtain⟨j0,h0,hl0,hbelow⟩:=hmin;have toF:∀i,listed.getD i true=false->listed.getD i false=false:=fun i h=>by
    rw[vy] at h⊢;cases hx:listed[i]? with
    |none=>rfl
    |some b=>rw[hx] at h;exact h
   have hr0:j0∈Region.ready .any ops listed:=by
    obtain⟨o,ho⟩:=H.op h0;refine mem_ready.2 ⟨?_,o,ho,fun e he hb=>hbelow e.on (N0 H.masks ho he hb)⟩;have hlt:j0 < listed.size:=by rw[I.size];exact vw h0 H.le
    rw[vy,Array.getElem?_eq_getElem hlt] at hl0⊢;simpa using hl0
   refine⟨(fun hnil=>by rw[hnil] at hr0;cases hr0),fun i hir=>?_⟩;obtain⟨q1,o,q2,q3⟩:=mem_ready.1 hir;have hiN:i < ops.size:=(vx.1 q2).1;have hih:i < h:=by
    rcases wD i h with hh|hh
    .exact hh
    .have hisz:i < (AQ ops.toList []).length:=by rw[CJ];exact hiN
     have hb:=H.tail i _ (vt hisz) hh j0 (by omega);have:=CB I.closed (vt hisz) q2 q3 j0 hb;rw[hl0] at this;cases this
   refine Fa q2 (I.comes H hA hob hpc hpk hih q2 (toF i q1) q3 fun v w' I' st'=>?_);refine ih _ _ w' I' (st.trans hm0 (vr _) st') ?_;have:=D1 (listed:=listed) (i:=i) (by rw[I.size];exact hiN) (toF i q1);omega
end
section
variable {P:Program}{T:Tab}{call:Ak}{ys:Ys}{r:Option Nat}{kk:Nat}{ops:Array Oper}{pc:PC}
theorem R1 {ops:Array Oper}{pc:PC}{s s':RS}{o:Oper}(h:CO P call ys ops pc s o=some s'):s'.tmps.n=s.tmps.n:=by
 unfold CO at h;simp only[vq,vn] at h;obtain⟨⟨run,s1⟩,hg,h⟩:=h;obtain⟨_,gg2,_⟩:=Gi hg;rw[<-gg2];simp only at h;split at h
 .cases h
 split at h
 .cases h;exact Fb ..
 .split at h
  .simp only[vn] at h;obtain⟨⟨c,m,g⟩,_,h⟩:=h;simp only at h;split at h
   .cases h;exact Fb ..
   .split at h
    .cases h;exact Fb ..
    .split at h
     .cases h;exact Fb ..
     .cases h
  .simp only[vn] at h;obtain⟨r,_,h⟩:=h;cases h;exact Fb ..
  .simp only[vn] at h;obtain⟨r,_,h⟩:=h;split at h
   .cases h;exact Fb ..
   .split at h
    .cases h;exact Fb ..
    .split at h
     .cases h;exact Fb ..
     .cases h
theorem OD {D:List (Tmp × Nat)}:∀{l:List Oper} {Rs:List Nat} {j0:Nat} {S0 Sh:DS},heads P call ys ops D pc Rs l j0 S0=some Sh->
  ∃S:Nat->DS,S j0=S0/\S (j0+l.length)=Sh/\∀i o,l[i]? =some o->∃R,Rs[i]? =some R/\Jb P call ys ops D pc R (j0+i) o (S (j0+i))=some (S (j0+i+1))
 |[],Rs,j0,S0,Sh,h=>by
  have h':some S0=some Sh:=by cases Rs<;>exact h
  cases h';exact⟨fun _=>S0,rfl,rfl,fun i o ho=>by simp at ho⟩
 |o::l,[],j0,S0,Sh,h=>by simp[heads] at h
 |o::l,R::Rs,j0,S0,Sh,h=>by
  simp only[heads,vq,vn] at h;obtain⟨S1,h1,h2⟩:=h;obtain⟨S,q1,q2,q3⟩:=OD h2;refine⟨fun k=>if k=j0 then S0 else S k,by simp,?_,fun i o' ho'=>?_⟩
  .simp only[wQ];rw[if_neg (by omega),<-q2];congr 1;omega
  .cases i with
   |zero=>
    simp at ho';subst ho';refine⟨R,rfl,?_⟩;simp only[Nat.add_zero,if_true];rw[if_neg (by omega),q1];exact h1
   |succ i=>
    obtain⟨R',hR',this⟩:=q3 i o' (by simpa using ho');refine⟨R',by simpa using hR',?_⟩;simp only;rw[if_neg (by omega),if_neg (by omega),show j0+(i+1)=j0+1+i by omega];exact this
theorem AE.drawn (T:Tab)(n:Nat)(ρ :Nat->Option Nat)(m:Mem)(w:World)(d:Nat):AE T n ρ m w ρ m { w with drawn:=d } where
 os:=rfl
 tape:=rfl
 output:=rfl
 size:=vr _
 mlen:=fun _ h=>h
 rho:=fun _ h=>⟨rfl,h⟩
 untr:=fun _ _ h=>h
 fresh:=fun id b h ht _=>by rw[h] at ht;cases ht
 old:=fun _ _ _=>rfl
 tok:=fun _ _ _ _ h=> .inl ⟨h,rfl,fun _ _=>rfl⟩
 row:=fun _ x y ks _ h=> .inr ⟨x,y,ks,h,rfl,.inl ⟨rfl,rfl,fun _ vs _ hv=>⟨vs,hv,rfl⟩⟩⟩
theorem AD.drawn {n:Nat}{ρ :Nat->Option Nat}{m:Mem}{w:World}(hm:AD T n ρ m w)(d:Nat):AD T n ρ m { w with drawn:=d }:=
 ⟨fun id=>BB.step (AE.drawn T n ρ m w d) hm (vr _) rfl rfl (fun _ _=>rfl),hm.inj,hm.fr⟩
theorem ep (hm:P.follows .mixedOrders=true)(hcall:CS P T call)(hys:CL P T.lp ys){l:Loc}{g:G}{s':RS}(h:TA P call ys ops pc l g=some s'):
  AR g s'.g/\s'.tmps.n=l.tmps.n/\(Agr T s'.g->AY T s'.g->pcv T pc->A8 T g pc->∀id ρ a w Q,Rel T g.n ρ l a w->
   (∀ ρ' a' w',Bm T ρ' ops s' a' w'->AE T g.n ρ l.mem w ρ' s'.mem w'->Q .normal a' w')->(Code.region id ops true).wpIn (fen r) kk P Q a w):=by
 unfold TA at h;simp only at h;split at h
 .rename_i hc;rw[vo] at hc;obtain⟨hmask,hnod⟩:=hc;simp only[vq,vn] at h;obtain⟨Sh,hh,ht⟩:=h;obtain⟨t1,_,t3⟩:=Jl (AQ ops.toList []) 0 0 (vr _);rw[v8,CJ] at t1;generalize hdef:D6 (AQ ops.toList []) 0 0=hd at*;obtain⟨S,q1,q2,q3⟩:=OD hh;have hlen:(ops.toList.take hd).length=hd:=by simp;omega
  rw[v8,hlen] at q2;have H:ER P T call ys ops pc hd S:=by
   refine⟨t1,fun j o hj ho=>?_,hmask,hnod,fun j r hr hj i hi=>t3 j r hr (by omega) i (by omega),hcall,hys,by rw[q1]⟩;obtain⟨R,hR,this⟩:=q3 j o (by rw[List.getElem?_take,if_pos hj];simpa using ho);rw[v8] at this;exact⟨R,hR,this⟩
  obtain⟨l1,_⟩:=H.later 0 hd (by omega);rw[v8] at l1;have g0:(S 0).g=g:=by rw[q1]
  have m0:(S 0).mem=l.mem:=by rw[q1]
  have tm0:(S 0).tmps=l.tmps:=by rw[q1]
  subst q2;obtain⟨g2,k2⟩:=H8 (r:=r) (kk:=kk) hcall hys ht;refine⟨?_,?_,fun hA hob hpc hpk id ρ a w Q hR hK=>?_⟩
  .rw[<-g0];exact l1.grow.trans g2
  .have:=(show s'.tmps.n=(S hd).tmps.n from by
    have key:∀{l:List Oper} {s s':RS},Cr P call ys ops pc l s=some s'->s'.tmps.n=s.tmps.n:=by
     intro l;induction l with
     |nil=>intro s s' h;simp only[Cr] at h;cases h;rfl
     |cons o l ih=>
      intro s s' h;simp only[Cr,vq,vn] at h;obtain⟨s1,h1,h2⟩:=h;rw[ih h2];exact R1 h1
    exact key ht)
   rw[this,l1.len,tm0]
  .have hAh:Agr T (S hd).g:=hA.of g2;have hobh:AY T (S hd).g:=hob.of g2;refine wpIn_region_any hm ?_;have hst:=AE.drawn T (S 0).g.n ρ (S 0).mem w (w.drawn+1);have hm0:AD T (S 0).g.n ρ (S 0).mem { w with drawn:=w.drawn+1 }:=by rw[g0,m0];exact hR.mem.drawn _
   have hun:∀j,(Array.replicate ops.size false).getD j false=false:=fun j=>by
    rw[vy,Array.getElem?_replicate];split<;>rfl
   have I0:JO T ops hd S (Array.replicate ops.size false) ρ a { w with drawn:=w.drawn+1 }:=by
    refine⟨by simp,fun j o _ hj=>?_,fun i hi=>?_,(by rw[m0];exact hR.defers.on (AE.drawn T g.n ρ l.mem w (w.drawn+1))),by rw[tm0];exact hR.size,hm0,fun t c hc _=>?_,fun i o d c hi=>?_,fun p _ hp=>?_⟩
    .rw[hun] at hj;cases hj
    .rw[hun] at hi;cases hi
    .rw[tm0] at hc;have:=hR.tmps t c hc;rw[g0,m0];exact AA.mono0 (by rw[<-g0,<-m0];exact hst) (vr _) _ _ this
    .rw[hun] at hi;cases hi
    .rw[hun] at hp;cases hp
   have hcount:CR (Array.replicate ops.size false)=ops.size:=by simp[CR,List.countP_replicate]
   refine fo H hAh hobh hpc (by rw[g0];exact hpk) hm0 (fun listed a' w' e1 e2 e3 e4 e5=>?_) ops.size _ a _ I0 (AE.refl _ _ _ _ _) hcount;have hdl:(ops.toList.drop hd).length=ops.size - hd:=by simp
   have:=W0 (r:=r) (kk:=kk) hcall hys hmask (fun j r hr hj i hi=>t3 j r hr (by omega) i (by omega)) ht hA hob hpc ((by rw[g0];exact hpk:A8 T (S 0).g pc).grow l1.grow) hd listed ρ a' w' Q (vr _) (by rw[hdl];omega)
    (fun j=>by simp) e1 e2 e3 e4 (fun ρ2 a2 w2 hi2 hs2=>?_)
   .rw[hdl] at this;exact this
   .refine hK ρ2 a2 w2 hi2 ?_;rw[<-g0,<-m0];have s1:AE T (S 0).g.n ρ (S 0).mem w ρ (S 0).mem w':=hst.trans (by rw[g0,m0];exact hR.mem) (vr _) e5;have s2:AE T (S hd).g.n ρ (S 0).mem w' ρ2 s'.mem w2:=by rw[<-l1.mem];exact hs2
    exact s1.trans (by rw[g0,m0];exact hR.mem) l1.grow.n s2
 .cases h
end
structure HI (T1 T2:Tab) (ρ :Nat->Option Nat) (m1 m2:Mem) (w:World) (nh nm:Nat):Prop where
 eq:∀x,x < nh->T2 x=T1 x
 safe:∀b off,AS T1 ρ m1 w b off->AS T2 ρ m2 w b off
 ptr:∀id,id < nm->(m1.at id).ptrOk=true->(m2.at id).ptrOk=true
 vec:∀id,id < nm->m1.at id≠ .pad->m2.at id≠ .pad/\∀x ks e,m2.at id= .tok x ks e->x < nh->∃ks1,m1.at id= .tok x ks1 e/\ks1.length=ks.length
 row:∀id,id < nm->m1.at id≠ .pad->m2.at id≠ .pad/\∀x y ks e,m2.at id= .mrow x y ks e->∃x1 ks1,m1.at id= .mrow x1 y ks1 e/\ks1.length=ks.length
theorem Au {a b:Nat}(h:Nat.blt a b=true):a < b:=by rwa [Nat.blt_eq] at h
section
variable {T1 T2:Tab}{ρ :Nat->Option Nat}{m1 m2:Mem}{w:World}{nh nm n1 n2:Nat}
theorem HI.kd (M:HI T1 T2 ρ m1 m2 w nh nm){k:Kd}{u:U}{v:Value}(h:AM (AS T1 ρ m1 w) w k u v):AM (AS T2 ρ m2 w) w k u v:=
 AM.mono (fun b off hs=>⟨M.safe b off hs,rfl⟩) k u v h
mutual
theorem AA.move (M:HI T1 T2 ρ m1 m2 w nh nm)(hn:nh<=n2):∀(c:AC) (v:Value),AC.lt nh nm c=true->AA T1 n1 ρ m1 w c v->AA T2 n2 ρ m2 w c v
 | .any,_,_,_=>trivial
 | .anyc,_,_,h=>h
 | .on c a,v,hl,h=>by
  simp only[AC.lt,vo] at hl;have hc:=Au hl.1;refine⟨vw hc hn,fun ht=>AA.move M hn a v hl.2 (h.2 ?_)⟩;rw[M.eq c hc] at ht;exact ht
 | .gd c a,v,hl,h=>by
  simp only[AC.lt,vo] at hl;have hc:=Au hl.1;refine⟨vw hc hn,fun ht=>AA.move M hn a v hl.2 (h.2.1 ?_),fun ht=>h.2.2 ?_⟩
  .rw[M.eq c hc] at ht;exact ht
  .rw[M.eq c hc] at ht;exact ht
 | .cb _,_,_,h=>h
 | .b x,v,hl,h=>by
  have hx:=Au hl;obtain⟨_,b,h1,h2⟩:=h;exact⟨vw hx hn,b,by rw[M.eq x hx];exact h1,h2⟩
 | .nb x,v,hl,h=>by
  have hx:=Au hl;obtain⟨_,b,h1,h2⟩:=h;exact⟨vw hx hn,b,by rw[M.eq x hx];exact h1,h2⟩
 | .ci _ _,_,_,h=>h
 | .i k lo hi x,v,hl,h=>by
  have hx:=Au hl;obtain⟨_,b,h1,h2⟩:=h;exact⟨vw hx hn,b,by rw[M.eq x hx];exact h1,h2⟩
 | .cv _,_,_,h=>h
 | .v x,v,hl,h=>by
  have hx:=Au hl;exact⟨vw hx hn,by rw[M.eq x hx];exact h.2.1,h.2.2⟩
 | .s x,v,hl,h=>by
  have hx:=Au hl;obtain⟨_,b,h1,h2⟩:=h;exact⟨vw hx hn,b,by rw[M.eq x hx];exact h1,h2⟩
 | .ptr id off,v,hl,h=>by
  obtain⟨b,h1,h2,h3⟩:=h;exact⟨b,h1,h2,M.ptr id (Au hl) h3⟩
 | .pix id base stride cnt x plus,v,hl,h=>by
  simp only[AC.lt,vo] at hl;have hx:=Au hl.2;obtain⟨_,b,j,h1,h2,h3,h4,h5,h6⟩:=h;exact⟨vw hx hn,b,j,h1,by rw[M.eq x hx];exact h2,h3,h4,h5,M.ptr id (Au hl.1) h6⟩
 | .ro x ks,v,hl,h=>by
  have hx:=Au hl;exact⟨vw hx hn,by rw[M.eq x hx];exact M.kd h.2⟩
 | .rp x t off ks,v,hl,h=>by
  simp only[AC.lt,vo] at hl;have hx:=Au hl.1;have ht:=Au hl.2;obtain⟨_,j,b,o,us,h1,h2,h3,h4,h5⟩:=h;refine⟨⟨vw hx hn,vw ht hn⟩,j,b,o,us,by rw[M.eq t ht];exact h1,h2,by rw[M.eq x hx];exact h3,h4,?_⟩;exact AX.mono (fun b off hs=>⟨M.safe b off hs,rfl⟩) _ _ _ _ h5
 | .vec id x ks,v,hl,h=>by
  simp only[AC.lt,vo] at hl;have hx:=Au hl.2;obtain⟨_,h2,h3,h4⟩:=h;obtain⟨k1,k2⟩:=M.vec id (Au hl.1) h2;refine⟨vw hx hn,k1,by rw[M.eq x hx];exact M.kd h3,fun ks' e he=>?_⟩;obtain⟨ks1,q1,q2⟩:=k2 x ks' e he hx;rcases h4 ks1 e q1 with⟨l1,l2⟩|⟨b,cap,vs,l1,l2,l3,l4⟩
  .exact .inl ⟨l1,by rw[M.eq x hx];exact l2⟩
  .exact .inr ⟨b,cap,vs,l1,by rw[M.eq x hx];exact l2,l3,by rw[<-q2];exact l4⟩
 | .fn f first cap,v,hl,h=>by
  simp only[AC.lt,vo] at hl;obtain⟨vs,us,h1,h2,h3⟩:=h;exact⟨vs,us,h1,AB.move M hn first vs hl.1 h2,AB.move M hn cap us hl.2 h3⟩
 | .sel x alts,v,hl,h=>by
  simp only[AC.lt,vo] at hl;have hx:=Au hl.1;obtain⟨_,j,h1,h2,h3⟩:=h;exact⟨vw hx hn,j,by rw[M.eq x hx];exact h1,h2,Aa.move M hn alts j.toNat v hl.2 h3⟩
 | .yl id,v,hl,h=>by
  obtain⟨b,h1,h2,h3⟩:=h;exact⟨b,h1,h2,M.ptr id (Au hl) h3⟩
 | .asl id off len,v,hl,h=>by
  obtain⟨b,h1,h2,h3⟩:=h;exact⟨b,h1,h2,M.ptr id (Au hl) h3⟩
 | .rsv id x ks,v,hl,h=>by
  simp only[AC.lt,vo] at hl;have hx:=Au hl.2;obtain⟨_,h2,h5,h3,h4⟩:=h;obtain⟨k1,k2⟩:=M.vec id (Au hl.1) h2;refine⟨vw hx hn,k1,by rw[M.eq x hx];exact h5,h3,fun ks' e he=>?_⟩;obtain⟨ks1,q1,q2⟩:=k2 x ks' e he hx;rcases h4 ks1 e q1 with⟨l1,l2⟩|⟨b,len,cap,vs,l1,l2,l0,l3,l4⟩
  .exact .inl ⟨l1,l2⟩
  .exact .inr ⟨b,len,cap,vs,l1,l2,l0,l3,by rw[<-q2];exact l4⟩
 | .mr id y,v,hl,h=>by
  simp only[AC.lt,vo] at hl;have hy:=Au hl.2;obtain⟨⟨_,h2⟩,j,a,cap,k1,k2,k3,k4,k5⟩:=h;obtain⟨q1,q2⟩:=M.row id (Au hl.1) h2;refine⟨⟨vw hy hn,q1⟩,j,a,cap,by rw[M.eq y hy];exact k1,k2,k3,k4,fun x ks e he=>?_⟩;obtain⟨x1,ks1,q3,q4⟩:=q2 x y ks e he;rcases k5 x1 ks1 e q3 with l|⟨b,vs,l1,l2,l3,l4⟩
  .exact .inl l
  .exact .inr ⟨b,vs,l1,l2,l3,by rw[<-q4];exact l4⟩
 | .mp id y t sz off,v,hl,h=>by
  simp only[AC.lt,vo] at hl;have hy:=Au hl.1.2;have ht:=Au hl.2;obtain⟨⟨_,_,h2⟩,j,L,b,k1,k2,k3,k4,k5⟩:=h;obtain⟨q1,q2⟩:=M.row id (Au hl.1.1) h2;refine⟨⟨vw hy hn,vw ht hn,q1⟩,j,L,b,by rw[M.eq t ht];exact k1,by rw[M.eq y hy];exact k2,k3,k4,fun x ks e he=>?_⟩;obtain⟨x1,ks1,q3,q4⟩:=q2 x y ks e he;exact k5 x1 ks1 e q3
 | .mv id,v,hl,h=>by
  obtain⟨b,h1,h2,h3⟩:=h;exact⟨b,h1,h2,M.ptr id (Au hl) h3⟩
 | .agg l,v,hl,h=>by
  obtain⟨vs,h1,h2⟩:=h;exact⟨vs,h1,AB.move M hn l vs (by simpa [AC.lt] using hl) h2⟩
 | .tup l,v,hl,h=>by
  obtain⟨vs,h1,h2⟩:=h;exact⟨vs,h1,AB.move M hn l vs (by simpa [AC.lt] using hl) h2⟩
theorem AB.move (M:HI T1 T2 ρ m1 m2 w nh nm)(hn:nh<=n2):∀(l:List AC) (vs:List Value),AC.ltL nh nm l=true->AB T1 n1 ρ m1 w l vs->AB T2 n2 ρ m2 w l vs
 |[],_,_,h=>h
 |c::l,vs,hl,h=>by
  simp only[AC.ltL,vo] at hl;obtain⟨u,us,h1,h2,h3⟩:=h;exact⟨u,us,h1,AA.move M hn c u hl.1 h2,AB.move M hn l us hl.2 h3⟩
theorem Aa.move (M:HI T1 T2 ρ m1 m2 w nh nm)(hn:nh<=n2):∀(l:List AC) (j:Nat) (v:Value),AC.ltL nh nm l=true->Aa T1 n1 ρ m1 w l j v->Aa T2 n2 ρ m2 w l j v
 |[],_,_,_,h=>h.elim
 |c::_,0,v,hl,h=>by
  simp only[AC.ltL,vo] at hl;exact AA.move M hn c v hl.1 h
 |_::l,j+1,v,hl,h=>by
  simp only[AC.ltL,vo] at hl;exact Aa.move M hn l j v hl.2 h
end
structure Bp (T1 T2:Tab) (n:Nat):Prop where
 eq:∀x,x < n->T2 x=T1 x
 fr:T2.fr=T1.fr
 lp:T2.lp=T1.lp
theorem Bp.safe {n:Nat}(S:Bp T1 T2 n)(hm:AD T1 n ρ m1 w){b off:Nat}(h:AS T1 ρ m1 w b off):AS T2 ρ m1 w b off:=by
 refine⟨h.1,by rw[S.fr];exact h.2.1,fun id=>?_⟩;have:=h.2.2 id;cases hx:m1.at id with
 |pad=>trivial
 |gone=>trivial
 |cells l e=>rw[hx] at this;exact this
 |lp s st=>rw[hx] at this;exact this
 |mrow x y ks e=>rw[hx] at this;exact this
 |mapb x kk ka vk va=>rw[hx] at this;exact this
 |tok x ks e=>
  rw[hx] at this;intro hr;have:=this hr;unfold Bu at this⊢;rw[S.eq x (hm.tok_lt hx)];exact this
section
variable {n:Nat}(S:Bp T1 T2 n)(hs:∀b off,AS T1 ρ m1 w b off->AS T2 ρ m1 w b off)
mutual
theorem AA.tab (S:Bp T1 T2 n)(hs:∀b off,AS T1 ρ m1 w b off->AS T2 ρ m1 w b off):∀(c:AC) (v:Value),AA T1 n ρ m1 w c v->AA T2 n ρ m1 w c v
 | .any,_,_=>trivial
 | .anyc,_,h=>h
 | .on c a,v,h=>⟨h.1,fun ht=>AA.tab S hs a v (h.2 (by rw[S.eq c h.1] at ht;exact ht))⟩
 | .gd c a,v,h=>⟨h.1,fun ht=>AA.tab S hs a v (h.2.1 (by rw[S.eq c h.1] at ht;exact ht)),fun ht=>h.2.2 (by rw[S.eq c h.1] at ht;exact ht)⟩
 | .cb _,_,h=>h
 | .b x,v,⟨h0,b,h1,h2⟩=>⟨h0,b,by rw[S.eq x h0];exact h1,h2⟩
 | .nb x,v,⟨h0,b,h1,h2⟩=>⟨h0,b,by rw[S.eq x h0];exact h1,h2⟩
 | .ci _ _,_,h=>h
 | .i k lo hi x,v,⟨h0,b,h1,h2⟩=>⟨h0,b,by rw[S.eq x h0];exact h1,h2⟩
 | .cv _,_,h=>h
 | .v x,v,⟨h0,h1,h2⟩=>⟨h0,by rw[S.eq x h0];exact h1,h2⟩
 | .s x,v,⟨h0,b,h1,h2⟩=>⟨h0,b,by rw[S.eq x h0];exact h1,h2⟩
 | .ptr _ _,_,h=>h
 | .pix id base stride cnt x plus,v,⟨h0,b,j,h1,h2,h3⟩=>⟨h0,b,j,h1,by rw[S.eq x h0];exact h2,h3⟩
 | .ro x ks,v,⟨h0,h1⟩=>⟨h0,by rw[S.eq x h0];exact AM.mono (fun b off h=>⟨hs b off h,rfl⟩) _ _ _ h1⟩
 | .rp x t off ks,v,⟨h0,j,b,o,us,h1,h2,h3,h4,h5⟩=>⟨h0,j,b,o,us,by rw[S.eq t h0.2];exact h1,h2,by rw[S.eq x h0.1];exact h3,h4,AX.mono (fun b off h=>⟨hs b off h,rfl⟩) _ _ _ _ h5⟩
 | .vec id x ks,v,⟨h0,h1,h2,h3⟩=>⟨h0,h1,by rw[S.eq x h0];exact AM.mono (fun b off h=>⟨hs b off h,rfl⟩) _ _ _ h2,fun ks' e he=>by
   have:=h3 ks' e he;unfold Q0 at this⊢;rw[S.eq x h0];exact this⟩
 | .fn f first cap,v,⟨vs,us,h1,h2,h3⟩=>⟨vs,us,h1,AB.tab S hs first vs h2,AB.tab S hs cap us h3⟩
 | .sel x alts,v,⟨h0,j,h1,h2,h3⟩=>⟨h0,j,by rw[S.eq x h0];exact h1,h2,Aa.tab S hs alts j.toNat v h3⟩
 | .yl _,_,h=>h
 | .asl _ _ _,_,h=>h
 | .rsv id x ks,v,⟨h0,h1,h2,h3,h4⟩=>⟨h0,h1,by rw[S.eq x h0];exact h2,h3,h4⟩
 | .mr id y,v,⟨⟨h0,h1⟩,j,a,cap,k1,k2⟩=>⟨⟨h0,h1⟩,j,a,cap,by rw[S.eq y h0];exact k1,k2⟩
 | .mp id y t sz off,v,⟨⟨h0,h0',h1⟩,j,L,b,k1,k2,k3⟩=>⟨⟨h0,h0',h1⟩,j,L,b,by rw[S.eq t h0'];exact k1,by rw[S.eq y h0];exact k2,k3⟩
 | .mv _,_,h=>h
 | .agg l,v,⟨vs,h1,h2⟩=>⟨vs,h1,AB.tab S hs l vs h2⟩
 | .tup l,v,⟨vs,h1,h2⟩=>⟨vs,h1,AB.tab S hs l vs h2⟩
theorem AB.tab (S:Bp T1 T2 n)(hs:∀b off,AS T1 ρ m1 w b off->AS T2 ρ m1 w b off):∀(l:List AC) (vs:List Value),AB T1 n ρ m1 w l vs->AB T2 n ρ m1 w l vs
 |[],_,h=>h
 |c::l,vs,⟨u,us,h1,h2,h3⟩=>⟨u,us,h1,AA.tab S hs c u h2,AB.tab S hs l us h3⟩
theorem Aa.tab (S:Bp T1 T2 n)(hs:∀b off,AS T1 ρ m1 w b off->AS T2 ρ m1 w b off):∀(l:List AC) (j:Nat) (v:Value),Aa T1 n ρ m1 w l j v->Aa T2 n ρ m1 w l j v
 |[],_,_,h=>h.elim
 |c::_,0,v,h=>AA.tab S hs c v h
 |_::l,j+1,v,h=>Aa.tab S hs l j v h
end
end
theorem AD.tab {n:Nat}(S:Bp T1 T2 n)(hm:AD T1 n ρ m1 w):AD T2 n ρ m1 w:=by
 have hs:∀b off,AS T1 ρ m1 w b off->AS T2 ρ m1 w b off:=fun b off h=>S.safe hm h;refine⟨fun id=>?_,hm.inj,fun b off h=>by rw[S.fr];exact hm.fr b off h⟩;have:=hm.blk id;cases hx:m1.at id with
 |pad=>trivial
 |gone=>trivial
 |cells l e=>
  rw[hx] at this;obtain⟨b,vs,h1,h2,h3⟩:=this;exact⟨b,vs,h1,h2,AB.tab S hs l vs h3⟩
 |tok x ks e=>
  rw[hx] at this;obtain⟨h0,l,h1,h2⟩:=this;refine⟨h0,l,by rw[S.eq x h0];exact h1,?_⟩;rw[S.fr];exact h2
 |mrow x y ks e=>
  rw[hx] at this;obtain⟨h0,l,h1,h1',h1'',h2⟩:=this;refine⟨h0,l,by rw[S.eq x h0.1];exact h1,by rw[S.eq y h0.2];exact h1',h1'',?_⟩;rw[S.fr];rcases h2 with h2|⟨b,vs,us,q1,q2,q3,q4⟩
  .exact .inl h2
  .exact .inr ⟨b,vs,us,q1,q2,AU.mono (fun b off h=>⟨hs b off h,rfl⟩) q3,q4⟩
 |mapb x kk ka vk va=>
  rw[hx] at this;obtain⟨h0,l,b,es,cl,h1,h2,h3,h4,h5,h6,h7⟩:=this;refine⟨h0,l,b,es,cl,by rw[S.eq x h0];exact h1,h2,h3,h4,h5,fun i us e hl he=>?_,h7⟩;obtain⟨u1,u2,q1,q2,q3⟩:=h6 i us e hl he;exact⟨u1,u2,q1,Bn.mono (fun b off h=>⟨hs b off h,rfl⟩) q2,Bn.mono (fun b off h=>⟨hs b off h,rfl⟩) q3⟩
 |lp s st=>
  rw[hx] at this;obtain⟨b,q,h1,h2,h3,h4,h5,h6,h7,j,h8,h9⟩:=this;refine⟨b,q,h1,h2,?_⟩;rw[S.lp];exact⟨h3,h4,h5,h6,fun i c hc=>AA.tab S hs c _ (h7 i c hc),j,AA.tab S hs st _ h8,h9⟩
theorem Bp.symm {n:Nat}(S:Bp T1 T2 n):Bp T2 T1 n:=⟨fun x hx=>(S.eq x hx).symm,S.fr.symm,S.lp.symm⟩
theorem AE.tab {n:Nat}{ρ':Nat->Option Nat}{m':Mem}{w':World}(S:Bp T1 T2 n)(hm:AD T1 n ρ m1 w)(hs:AE T1 n ρ m1 w ρ' m' w')(hnew:∀id x' ks' e',m'.at id= .tok x' ks' e'->T2 x'=T1 x'):AE T2 n ρ m1 w ρ' m' w':=
 {hs with
  tok:=fun id x ks e hx=>by
   have hxn:=hm.tok_lt hx;rcases hs.tok id x ks e hx with h|⟨h1,h2⟩
   .exact .inl h
   .refine .inr ⟨fun b hb off ho=>h1 b hb off (by unfold Bu at ho⊢;rw[S.eq x hxn] at ho;exact ho),?_⟩;rcases h2 with h2|⟨x',ks',e',h2,h3,h4⟩
    .exact .inl h2
    .refine .inr ⟨x',ks',e',h2,h3,fun b' hb'=>?_⟩;rcases h4 b' hb' with⟨k1,k2⟩|k1
     .refine .inl ⟨k1,?_⟩;unfold Bu at k2⊢;rw[S.eq x hxn,hnew id x' ks' e' h2];exact k2
     .exact .inr k1 }
end
theorem U.same_eq {u v:U}(h:U.same u v=true):u=v:=by
 unfold U.same at h;split at h<;>first|rfl|(cases h;done)|(simp at h;rw[h])
theorem Rf.same_eq {r s:Rf}(h:Rf.same r s=true):r=s:=by
 cases r<;>cases s<;>simp only[Rf.same] at h<;>first|(cases h;done)|(rw[U.same_eq h])|(rw[vp h])
theorem Eh {a b:Option (List Pr)}{ps:List Pr}(h:L9 a b=some ps):∃x y,a=some x/\b=some y/\ps=x++y:=by
 cases a<;>cases b<;>simp only[L9] at h<;>first|(cases h;done)|(cases h;exact⟨_,_,rfl,rfl,rfl⟩)
inductive Hd (T1 T2:Tab) (nh:Nat):Blk->Blk->Prop where
 |pad (b:Blk):Hd T1 T2 nh .pad b
 |gone {b:Blk} (h:b≠ .pad):Hd T1 T2 nh .gone b
 |cells (l l':List AC) (e:TypeId):Hd T1 T2 nh (.cells l e) (.cells l' e)
 |same (x:Nat) (ks:List Kd) (e:TypeId) (h:x < nh):Hd T1 T2 nh (.tok x ks e) (.tok x ks e)
 |tok {x x':Nat} {ks ks':List Kd} {e:TypeId} (h1:nh<=x) (h2:T2 x=T1 x') (h3:ks.length=ks'.length):Hd T1 T2 nh (.tok x ks e) (.tok x' ks' e)
 |lp (s:Nat) (st st':AC):Hd T1 T2 nh (.lp s st) (.lp s st')
 |mrow {x x' y:Nat} {ks ks':List Kd} {e:TypeId} (h1:y < nh) (h3:ks.length=ks'.length):Hd T1 T2 nh (.mrow x y ks e) (.mrow x' y ks' e)
 |mapb {x x':Nat} {kk kk' vk vk':List Kd} {ka va:Bool}:Hd T1 T2 nh (.mapb x kk ka vk va) (.mapb x' kk' ka vk' va)
section
variable {T1 T2:Tab}{ρ :Nat->Option Nat}{w:World}{nh nm n1 n2:Nat}{rs:List Rf}{mh m:Mem}
theorem OX {x:Nat}{r:Rf}(h:IC nh rs x r=true):nh<=x/\rs[x - nh]? =some r:=by
 unfold IC at h;rw[vo] at h;refine⟨wN h.1,?_⟩;have h2:=h.2;split at h2
 .rename_i r' hr;rw[hr,Rf.same_eq h2]
 .cases h2
def EF (T1 T2:Tab)(nh n2:Nat)(rs:List Rf):Prop:=∀j r,rs[j]? =some r->nh+j < n2/\T2 (nh+j)=r.eval T1
theorem EF.at {x:Nat}{r:Rf}(H:EF T1 T2 nh n2 rs)(h:IC nh rs x r=true):x < n2/\T2 x=r.eval T1:=by
 obtain⟨h1,h2⟩:=OX h;have:=H _ _ h2;rw[show nh+(x - nh)=x by omega] at this;exact this
theorem Mc {lps:List (Nat × CA)}{nm:Nat}{mh0 m0:Mem}{b b':Blk}{ps:List Pr}(h:DG lps nh nm rs mh0 m0 b b'=some ps)(H:EF T1 T2 nh n2 rs):Hd T1 T2 nh b b'/\(b= .pad->b'= .pad):=by
 cases b with
 |pad=>cases b'<;>simp only[DG] at h<;>first|(cases h;done)|exact⟨.pad _,fun _=>rfl⟩
 |gone=>cases b'<;>simp only[DG] at h<;>first|(cases h;done)|exact⟨.gone (fun h=>by cases h),fun h=>by cases h⟩
 |cells l e=>
  cases b'<;>simp only[DG] at h<;>try (cases h;done)
  split at h
  .rename_i he;rw[vp he];exact⟨.cells _ _ _,fun h=>by cases h⟩
  .cases h
 |tok x ks e=>
  cases b'<;>simp only[DG] at h<;>try (cases h;done)
  rename_i x' ks' e';split at h
  .rename_i hc;simp only[vo,wU] at hc;obtain⟨⟨h1,h2⟩,h3⟩:=hc;have e1:=vp h1;have e2:=vp h2;subst e1;refine⟨?_,fun h=>by cases h⟩;rcases h3 with⟨⟨h3,h4⟩,h5⟩|h3
   .rw[<-vp h4,<-Kd.beqs_eq _ _ h5];exact .same _ _ _ (Au h3)
   .obtain⟨_,q⟩:=H.at h3;exact .tok (OX h3).1 (by rw[q];rfl) e2
  .cases h
 |lp s st=>
  cases b'<;>simp only[DG] at h<;>try (cases h;done)
  split at h
  .rename_i hc;simp only[vo] at hc;rw[vp hc.1];exact⟨.lp _ _ _,fun h=>by cases h⟩
  .cases h
 |mrow x y ks e=>
  cases b'<;>simp only[DG] at h<;>try (cases h;done)
  split at h
  .rename_i hc;simp only[vo,wU] at hc;obtain⟨⟨⟨h1,h2⟩,h3⟩,h4⟩:=hc;rw[vp h1,<-vp h2];refine⟨.mrow (Au h3) ?_,fun h=>by cases h⟩;rcases h4 with⟨_,h4⟩|⟨_,h4⟩
   .rw[Kd.beqs_eq _ _ h4]
   .exact vp h4
  .cases h
 |mapb x kk ka vk va=>
  cases b'<;>simp only[DG] at h<;>try (cases h;done)
  split at h
  .rename_i hc;simp only[vo,beq_iff_eq] at hc;rw[hc.1.1,hc.1.2];exact⟨.mapb,fun h=>by cases h⟩
  .cases h
theorem NU {lps:List (Nat × CA)}{nm:Nat}{mh0 m0:Mem}:∀{l l':Mem} {ps:List Pr},FW lps nh nm rs mh0 m0 l l'=some ps->l.length<=l'.length/\∀id,id < l.length->∃qs,DG lps nh nm rs mh0 m0 (l.at id) (l'.at id)=some qs/\∀q∈qs,q∈ps
 |[],_,ps,h=>⟨wX _,fun id hid=>by simp at hid⟩
 |_::_,[],ps,h=>by simp[FW] at h
 |b::l,b'::l',ps,h=>by
  simp only[FW] at h;obtain⟨x,y,h1,h2,rfl⟩:=Eh h;obtain⟨k1,k2⟩:=NU h2;refine⟨by simp;omega,fun id hid=>?_⟩;cases id with
  |zero=>exact⟨x,by simpa [Mem.at] using h1,fun q hq=>wH _ hq⟩
  |succ id=>
   obtain⟨qs,q1,q2⟩:=k2 id (by simpa using hid);exact⟨qs,by simpa [Mem.at] using q1,fun q hq=>wB _ (q2 q hq)⟩
def DW (T1 T2:Tab)(nh:Nat)(mh m:Mem):Prop:=∀id,Hd T1 T2 nh (mh.at id) (m.at id)
theorem MN {lps:List (Nat × CA)}{nm:Nat}{mh0 m0:Mem}{ps:List Pr}(h:FW lps nh nm rs mh0 m0 mh m=some ps)(H:EF T1 T2 nh n2 rs):DW T1 T2 nh mh m/\∀id,id < mh.length->mh.at id= .pad->m.at id= .pad:=by
 obtain⟨h1,h2⟩:=NU h;refine⟨fun id=>?_,fun id hid hp=>?_⟩
 .rcases wD id mh.length with hid|hid
  .obtain⟨qs,q1,_⟩:=h2 id hid;exact (Mc q1 H).1
  .rw[Mem.at_ge hid];exact .pad _
 .obtain⟨qs,q1,_⟩:=h2 id hid;exact (Mc (T1:=T1) (T2:=T2) q1 H).2 hp
theorem DW.tracked (S:DW T1 T2 nh mh m){id:Nat}(h:(mh.at id).tracked=true):(m.at id).tracked=true:=by
 have:=S id;generalize mh.at id=a at this h;generalize m.at id=b at this;cases this<;>first|rfl|(cases h;done)
theorem DW.safe (S:DW T1 T2 nh mh m)(heq:∀x,x < nh->T2 x=T1 x)(hfr:T2.fr=T1.fr){b off:Nat}(h:AS T1 ρ m w b off):AS T2 ρ mh w b off:=by
 refine⟨h.1,by rw[hfr];exact h.2.1,fun id=>?_⟩;have h2:=h.2.2 id;have:=S id;generalize mh.at id=a at this⊢;generalize m.at id=b at this h2;cases this with
 |pad=>trivial
 |gone=>trivial
 |cells=>exact h2
 |lp=>exact h2
 |mrow=>exact h2
 |mapb=>exact h2
 |same x ks e hx=>
  intro hr;have:=h2 hr;unfold Bu at this⊢;rw[heq x hx];exact this
 |tok h1 h3 h4=>
  intro hr;have:=h2 hr;unfold Bu at this⊢;rw[h3,h4];exact this
theorem DW.move (S:DW T1 T2 nh mh m)(hp:∀id,id < mh.length->mh.at id= .pad->m.at id= .pad)(heq:∀x,x < nh->T2 x=T1 x)(hfr:T2.fr=T1.fr):HI T1 T2 ρ m mh w nh mh.length where
 eq:=heq
 safe:=fun b off h=>S.safe heq hfr h
 ptr:=fun id hid h=>by
  have hne:mh.at id≠ .pad:=fun e=>by rw[hp id hid e] at h;cases h
  have:=S id;generalize mh.at id=a at this hne⊢;generalize m.at id=b at this h;cases this<;>first|rfl|(exact absurd rfl hne)|(cases h;done)
 vec:=fun id hid h=>by
  refine⟨fun e=>h (hp id hid e),fun x ks e hx hlt=>?_⟩;have:=S id;rw[hx] at this;generalize m.at id=b at this;cases this with
  |same=>exact⟨_,rfl,rfl⟩
  |tok h1=>omega
 row:=fun id hid h=>by
  refine⟨fun e=>h (hp id hid e),fun x y ks e hx=>?_⟩;have:=S id;rw[hx] at this;generalize m.at id=b at this;cases this with
  |mrow h1 h3=>exact⟨_,_,rfl,h3.symm⟩
theorem J0 {h c:AC}{ps:List Pr}(hm:JY nh mh.length rs mh m h c=some ps)(M:HI T1 T2 ρ m mh w nh mh.length)(hn:nh<=n2)(H:EF T1 T2 nh n2 rs)(S:DW T1 T2 nh mh m)(hps:∀p∈ps,p.holds T1){v:Value}
  (hv:AA T1 n1 ρ m w c v):AA T2 n2 ρ mh w h v:=by
 unfold JY at hm;split at hm
 .rename_i hc;rw[vo] at hc;have e:=AC.beq_eq _ _ hc.2;subst e;exact AA.move M hn h v hc.1 hv
 .have put:∀{k:Kd} {x:Nat},HQ nh rs x (fit k c)=some ps->x < n2/\AM (AS T2 ρ mh w) w k (T2 x) v:=by
   intro k x hp;unfold HQ at hp;split at hp
   .rename_i r qs hf;split at hp
    .rename_i hh;cases hp;obtain⟨k1,k2⟩:=H.at hh;exact⟨k1,by rw[k2];exact M.kd (TN hf hv hps)⟩
    .cases hp
   .cases hp
  unfold aH at hm;cases h with
  |any=>trivial
  |i k lo hi x=>exact put hm
  |b x=>exact put hm
  |v x=>exact put hm
  |s x=>exact put hm
  |ro x ks=>exact put hm
  |vec id x ks=>
   cases c with
   |vec id' x' ks'=>
    simp only at hm;split at hm
    .rename_i hc;simp only[vo] at hc;obtain⟨⟨⟨⟨c1,c2⟩,c3⟩,c4⟩,c5⟩:=hc;have e1:=vp c1;subst e1;obtain⟨k1,k2⟩:=H.at c3;have k2':T2 x=T1 x':=by rw[k2];rfl
     obtain⟨_,h2,h3,h4⟩:=hv;unfold au at c5;split at c5
     .rename_i y ky e y' ky' e' hmh hmm;simp only[vo] at c5;obtain⟨⟨⟨d1,d2⟩,d3⟩,d4⟩:=c5;have f1:=vp d1;have f2:=vp d2;have f3:=vp d3;have f4:=vp d4;subst f1;subst f2;subst f3;refine⟨k1,by rw[hmh];exact (fun h=>by cases h),?_,fun ks'' e'' he=>?_⟩
      .rw[k2'];have:=Kd.join_l (.list ks') (.list ks) _ v (M.kd h3);rw[Kd.beq_eq _ _ c4] at this;exact this
      .rw[hmh] at he;injection he with _ g1 g2
       subst g1;subst g2;rcases h4 ky' e hmm with⟨l1,l2⟩|⟨b,cap,vs,l1,l2,l3,l4⟩
       .exact .inl ⟨l1,by rw[k2'];exact l2⟩
       .exact .inr ⟨b,cap,vs,l1,by rw[k2'];exact l2,l3,by rw[f4];exact l4⟩
     .cases c5
    .cases hm
   |_=>cases hm
  |_=>cases hm
theorem Mq (M:HI T1 T2 ρ m mh w nh mh.length)(hn:nh<=n2)(H:EF T1 T2 nh n2 rs)(S:DW T1 T2 nh mh m):∀{l l':List AC} {ps:List Pr},JZ nh mh.length rs mh m l l'=some ps->(∀p∈ps,p.holds T1)->
  ∀vs,AB T1 n1 ρ m w l' vs->AB T2 n2 ρ mh w l vs
 |[],[],ps,_,_,vs,h=>h
 |[],_::_,ps,h,_,_,_=>by simp[JZ] at h
 |_::_,[],ps,h,_,_,_=>by simp[JZ] at h
 |a::l,c::l',ps,h,hps,vs,⟨u,us,h1,h2,h3⟩=>by
  simp only[JZ] at h;obtain⟨x,y,k1,k2,rfl⟩:=Eh h;exact⟨u,us,h1,J0 k1 M hn H S (fun p hp=>hps p (wH _ hp)) h2,Mq M hn H S k2 (fun p hp=>hps p (wB _ hp)) us h3⟩
theorem Ke:∀{t t':Tr} {ps:List Pr},Ir nh nm rs mh m t t'=some ps->∀(i:Nat) (h:AC),t.get i=some h->h= .any\/∃c qs,t'.get i=some c/\JY nh nm rs mh m h c=some qs/\∀q∈qs,q∈ps
 | .nil,t',ps,_,i,h,hi=>by simp[Tr.get] at hi
 | .node v l r,t',ps,hm,i,h,hi=>by
  simp only[Ir] at hm;obtain⟨x,y,h1,h2,rfl⟩:=Eh hm;obtain⟨y1,y2,h3,h4,rfl⟩:=Eh h2;rw[Tr.get_step] at hi;rw[Tr.get_step t'];by_cases h0:i=0
  .rw[if_pos h0] at hi⊢;simp only[Tr.val] at hi;subst hi;unfold ar at h1;split at h1
   .rename_i heq;cases heq
   .rename_i heq;cases heq;exact .inl rfl
   .rename_i h' c _ heq hc;cases heq;exact .inr ⟨c,x,hc,h1,fun q hq=>wH _ hq⟩
   .cases h1
  .rw[if_neg h0] at hi⊢;by_cases h5:i % 2=1
   .rw[if_pos h5] at hi⊢;rcases Ke h3 (i / 2) h hi with k|⟨c,qs,k1,k2,k3⟩
    .exact .inl k
    .exact .inr ⟨c,qs,k1,k2,fun q hq=>wB _ (wH _ (k3 q hq))⟩
   .rw[if_neg h5] at hi⊢;rcases Ke h4 (i / 2 - 1) h hi with k|⟨c,qs,k1,k2,k3⟩
    .exact .inl k
    .exact .inr ⟨c,qs,k1,k2,fun q hq=>wB _ (wB _ (k3 q hq))⟩
theorem Oz:∀{t:Tr},UT nh nm t=true->∀(i:Nat) (c:AC),t.get i=some c->AC.lt nh nm c=true
 | .nil,_,i,c,hi=>by simp[Tr.get] at hi
 | .node v l r,h,i,c,hi=>by
  simp only[UT,vo] at h;rw[Tr.get_step] at hi;by_cases h0:i=0
  .rw[if_pos h0] at hi;simp only[Tr.val] at hi;subst hi;exact h.1.1
  .rw[if_neg h0] at hi;by_cases h5:i % 2=1
   .rw[if_pos h5] at hi;exact Oz h.1.2 _ _ hi
   .rw[if_neg h5] at hi;exact Oz h.2 _ _ hi
theorem QO:∀{lps:List (Nat × CA)} {s:Nat} {S:CA},Es lps s=some S->(s,S)∈lps
 |[],_,_,h=>by simp[Es] at h
 |(s',S')::r,s,S,h=>by
  simp only[Es] at h;split at h
  .rename_i hb;cases h;rw[vp hb];exact wA ..
  .exact vz _ (QO h)
theorem Fi {lps:List (Nat × CA)}{hl l:Loc}{ps:List Pr}(h:Do lps nh rs hl l=some ps)(hlps:∀p∈lps,T1.lp p.1=p.2)(hfr:T2.fr=T1.fr)(hlp:T2.lp=T1.lp)(hbase:T2.base=T1.base)
  (heq:∀x,x < nh->T2 x=T1 x) (hn:nh<=n2) (H:EF T1 T2 nh n2 rs) (hps:∀p∈ps,p.holds T1) {a:Act} (hR:Rel T1 n1 ρ l a w):
  Rel T2 n2 ρ hl a w/\DW T1 T2 nh hl.mem l.mem/\∀id,id < hl.mem.length->hl.mem.at id= .pad->l.mem.at id= .pad:=by
 unfold Do at h;split at h
 .rename_i hc;simp only[vo] at hc;obtain⟨⟨c1,c2⟩,c3⟩:=hc;obtain⟨p1,p2,h1,h2,rfl⟩:=Eh h;obtain⟨S,hpad⟩:=MN (T1:=T1) (T2:=T2) h1 H;have M:HI T1 T2 ρ l.mem hl.mem w nh hl.mem.length:=S.move hpad heq hfr;obtain⟨hlen,hat⟩:=NU h1;have hp1:∀p∈p1,p.holds T1:=fun p hp=>hps p (wH _ hp);have hp2:∀p∈p2,p.holds T1:=fun p hp=>hps p (wB _ hp);refine⟨⟨?_,?_,fun i c hi=>?_,⟨fun id=>?_,fun id id' b t1 t2=>hR.mem.inj id id' b (S.tracked t1) (S.tracked t2),fun b off hb=>by rw[hfr];exact hR.mem.fr b off hb⟩⟩,S,hpad⟩
  .obtain⟨d0,Ds,d1,d2,d3⟩:=hR.defers;rw[hbase];refine⟨d0,Ds,d1,d2,fun D hD=>?_⟩;obtain⟨e1,e2,e3⟩:=d3 D hD;exact⟨e1,e2,fun id ht=>e3 id (S.tracked ht)⟩
  .rw[hR.size];exact (vp c3).symm
  .have g1:hl.tmps.t.get i=some c:=by
    have:hl.tmps.loc=[]:=List.isEmpty_iff.1 c1;simpa [AO.get,this,A6] using hi
   rcases Ke h2 i c g1 with rfl|⟨c',qs,k1,k2,k3⟩
   .trivial
   .have g2:l.tmps.get i=some c':=by
     have:l.tmps.loc=[]:=List.isEmpty_iff.1 c2;simpa [AO.get,this,A6] using k1
    exact J0 k2 M hn H S (fun p hp=>hp2 p (k3 p hp)) (hR.tmps i c' g2)
  .rcases wD id hl.mem.length with hid|hid
   .obtain⟨qs,q1,q2⟩:=hat id hid;have hb:=hR.mem.blk id;have hq:∀p∈qs,p.holds T1:=fun p hp=>hp1 p (q2 p hp);generalize hl.mem.at id=b at q1⊢;generalize l.mem.at id=b' at q1 hb;cases b with
    |pad=>trivial
    |gone=>trivial
    |cells x e=>
     cases b'<;>simp only[DG] at q1<;>try (cases q1;done)
     split at q1
     .rename_i he;obtain⟨bb,vs,y1,y2,y3⟩:=hb;rw[vp he];exact⟨bb,vs,y1,y2,Mq M hn H S q1 hq vs y3⟩
     .cases q1
    |tok x ks e=>
     cases b'<;>simp only[DG] at q1<;>try (cases q1;done)
     rename_i x' ks' e';split at q1
     .rename_i hc;simp only[vo,wU] at hc;obtain⟨⟨i1,i2⟩,i3⟩:=hc;have e1:=vp i1;have e2:=vp i2;subst e1;obtain⟨y0,ll,y1,y2⟩:=hb;have key:x < n2/\T2 x=T1 x':=by
       rcases i3 with⟨⟨i3,i4⟩,_⟩|i3
       .rw[<-vp i4];exact⟨vw (Au i3) hn,heq x (Au i3)⟩
       .obtain⟨z1,z2⟩:=H.at i3;exact⟨z1,by rw[z2];rfl⟩
      refine⟨key.1,ll,by rw[key.2];exact y1,?_⟩;rw[hfr,e2];exact y2
     .cases q1
    |mrow x y ks e=>
     cases b'<;>simp only[DG] at q1<;>try (cases q1;done)
     rename_i x' y' ks' e';split at q1
     .rename_i hc;simp only[vo,wU] at hc;obtain⟨⟨⟨i1,i2⟩,i3⟩,i4⟩:=hc;have e1:=vp i1;have e2:=vp i2;subst e1;subst e2;have hy:=Au i3;obtain⟨y0,ll,y1,y1',⟨y5,y6⟩,y2⟩:=hb;have key:x < n2/\T2 x=T1 x'/\ks.length=ks'.length/\∀ok us vs,AJ ok w ks' us vs->AJ ok w ks us vs:=by
       rcases i4 with⟨⟨i3,i4⟩,i5⟩|⟨⟨i3,i4⟩,i5⟩
       .rw[<-vp i4,<-Kd.beqs_eq _ _ i5];exact⟨vw (Au i3) hn,heq x (Au i3),rfl,fun _ _ _ h=>h⟩
       .obtain⟨z1,z2⟩:=H.at i3;have hl:=vp i5;refine⟨z1,by rw[z2];rfl,hl,fun ok us vs h=>?_⟩;have:=h.join_l hl.symm;rw[Kd.beqs_eq _ _ i4] at this;exact this
      obtain⟨k1,k2,k3,k4⟩:=key;refine⟨⟨k1,vw hy hn⟩,ll,by rw[k2];exact y1,by rw[heq y hy];exact y1',⟨y5,fun h=>y6 (List.length_eq_zero_iff.1 (by rw[<-k3,h];rfl))⟩,?_⟩;rw[hfr];rcases y2 with y2|⟨bb,vs,us,z1,z2,⟨vss,z3,z4⟩,z5⟩
      .exact .inl y2
      .exact .inr ⟨bb,vs,us,z1,z2,⟨vss,z3,Ao.conv (k4 _) (Ao.mono (fun b off h=>⟨M.safe b off h,rfl⟩) z4)⟩,z5⟩
     .cases q1
    |mapb x kk ka vk va=>
     cases b'<;>simp only[DG] at q1<;>try (cases q1;done)
     rename_i x' kk' ka' vk' va';split at q1
     .rename_i hc;simp only[vo,wU,beq_iff_eq] at hc;obtain⟨⟨i1,i2⟩,i4⟩:=hc;subst i1;subst i2;obtain⟨y0,ll,bb,es,cl,y1,y2,y3,y4,y5,y6,y7⟩:=hb;have key:x < n2/\T2 x=T1 x'/\(∀ok us vs,AJ ok w kk' us vs->AJ ok w kk us vs)/\∀ok us vs,AJ ok w vk' us vs->AJ ok w vk us vs:=by
       rcases i4 with⟨⟨⟨i3,i4⟩,i5⟩,i6⟩|⟨⟨⟨⟨i3,i4⟩,i5⟩,i6⟩,i7⟩
       .rw[<-vp i4,<-Kd.beqs_eq _ _ i5,<-Kd.beqs_eq _ _ i6];exact⟨vw (Au i3) hn,heq x (Au i3),fun _ _ _ h=>h,fun _ _ _ h=>h⟩
       .obtain⟨z1,z2⟩:=H.at i3;refine⟨z1,by rw[z2];rfl,fun ok us vs h=>?_,fun ok us vs h=>?_⟩
        .have:=h.join_l (vp i5).symm;rw[Kd.beqs_eq _ _ i4] at this;exact this
        .have:=h.join_l (vp i7).symm;rw[Kd.beqs_eq _ _ i6] at this;exact this
      obtain⟨k1,k2,k3,k4⟩:=key;refine⟨k1,ll,bb,es,cl,by rw[k2];exact y1,y2,y3,y4,y5,fun i us e hl he=>?_,y7⟩;obtain⟨u1,u2,z1,⟨vs1,z2,z3⟩,⟨vs2,z4,z5⟩⟩:=y6 i us e hl he;exact⟨u1,u2,z1,⟨vs1,k3 _ _ _ (AJ.mono (fun b off h=>⟨M.safe b off h,rfl⟩) z2),z3⟩,⟨vs2,k4 _ _ _ (AJ.mono (fun b off h=>⟨M.safe b off h,rfl⟩) z4),z5⟩⟩
     .cases q1
    |lp s st=>
     cases b'<;>simp only[DG] at q1<;>try (cases q1;done)
     rename_i s' st';split at q1
     .rename_i hc;simp only[vo] at hc;have e1:=vp hc.1;subst e1;obtain⟨bb,q,y1,y2,y3,y4,y5,y6,y7,j,y8,y9⟩:=hb;have hlt:=hc.2;unfold lpLt at hlt;split at hlt
      .rename_i S0 hS;have hT:=hlps _ (QO hS);simp only at hT;rw[vo] at hlt;have hloc:S0.tmps.loc=[]:=List.isEmpty_iff.1 hlt.1;refine⟨bb,q,y1,y2,?_⟩;rw[hlp];refine⟨y3,y4,y5,y6,fun i c hi=>?_,j,J0 q1 M hn H S hq y8,y9⟩;have hg:S0.tmps.t.get i=some c:=by
        rw[hT] at hi;simpa [AO.get,hloc,A6] using hi
       exact AA.move M hn c _ (Oz hlt.2 i c hg) (y7 i c hi)
      .cases hlt
     .cases q1
   .rw[Mem.at_ge hid];trivial
 .cases h
theorem AE.matched {n:Nat}{ρ0:Nat->Option Nat}{m0:Mem}{w0:World}(S:DW T1 T2 nh mh m)(heq:∀x,x < nh->T2 x=T1 x)(hn:n<=nh)(hm0:AD T1 n ρ0 m0 w0)(hne:∀id,m0.at id≠ .pad->mh.at id≠ .pad)
  (h:AE T1 n ρ0 m0 w0 ρ m w):AE T2 n ρ0 m0 w0 ρ mh w where
 os:=h.os
 tape:=h.tape
 output:=h.output
 size:=h.size
 mlen:=hne
 rho:=fun id hp=>by
  obtain⟨h1,h2⟩:=h.rho id hp;refine⟨h1,?_⟩;have h3:=hne id (A7 hp);have:=S id;generalize mh.at id=a at this h3⊢;generalize m.at id=b at this h2;cases this<;>first|rfl|(exact absurd rfl h3)|(cases h2;done)
 untr:=fun id hp ht=>h.untr id hp (S.tracked ht)
 fresh:=fun id b hp ht hr=>h.fresh id b hp (S.tracked ht) hr
 old:=h.old
 tok:=fun id x ks e hx=>by
  have hxn:=hm0.tok_lt hx;have h3:=hne id (by rw[hx];exact fun h=>by cases h);have hs:=S id;rcases h.tok id x ks e hx with⟨k1,k2,k3⟩|⟨k1,k2⟩
  .rw[k1] at hs;generalize hmh:mh.at id=a at hs h3;cases hs with
   |pad=>exact absurd rfl h3
   |gone=>exact .inr ⟨fun b hb off _=>BY (k3 b hb) off,.inl rfl⟩
   |same=>exact .inl ⟨rfl,k2,k3⟩
   |tok g1 g2 g3=>
    refine .inr ⟨fun b hb off _=>BY (k3 b hb) off,.inr ⟨_,_,_,rfl,wI hn g1,fun b' hb'=> .inl ⟨by rw[<-k2];exact hb',?_⟩⟩⟩;unfold Bu;rw[g2,g3,heq x (by omega)];exact vr _
  .refine .inr ⟨fun b hb off ho=>k1 b hb off (by unfold Bu at ho⊢;rw[heq x (by omega)] at ho;exact ho),?_⟩;rcases k2 with k2|⟨x',ks',e',k2,k3,k4⟩
   .rw[k2] at hs;generalize hmh:mh.at id=a at hs h3;cases hs with
    |pad=>exact absurd rfl h3
    |gone=>exact .inl rfl
   .rw[k2] at hs;generalize hmh:mh.at id=a at hs h3;cases hs with
    |pad=>exact absurd rfl h3
    |gone=>exact .inl rfl
    |same _ _ _ hlt=>
     refine .inr ⟨_,_,_,rfl,k3,fun b' hb'=>?_⟩;rcases k4 b' hb' with⟨j1,j2⟩|j1
     .refine .inl ⟨j1,?_⟩;unfold Bu at j2⊢;rw[heq x (by omega),heq x' hlt];exact j2
     .exact .inr j1
    |tok g1 g2 g3=>
     refine .inr ⟨_,_,_,rfl,wI hn g1,fun b' hb'=>?_⟩;rcases k4 b' hb' with⟨j1,j2⟩|j1
     .refine .inl ⟨j1,?_⟩;unfold Bu at j2⊢;rw[g2,g3,heq x (by omega)];exact j2
     .exact .inr j1
 row:=fun id x y ks e hx=>by
  have h3:=hne id (by rw[hx];exact fun h=>by cases h);have hs:=S id;rcases h.row id x y ks e hx with k1|⟨x',y',ks',k1,k2,k3⟩
  .rw[k1] at hs;generalize hmh:mh.at id=a at hs h3;cases hs with
   |pad=>exact absurd rfl h3
   |gone=>exact .inl rfl
  .rw[k1] at hs;generalize hmh:mh.at id=a at hs h3;cases hs with
   |pad=>exact absurd rfl h3
   |gone=>exact .inl rfl
   |mrow g1 g2=>exact .inr ⟨_,_,_,rfl,g2.trans k2,k3⟩
end
def XK.ex:XK->Exit
 | .normal=> .normal
 | .exit id=> .exit id
 | .ret=> .ret
theorem Ix {T:Tab}(pc:PC):((EB pc).eval T).toB=true↔pcv T pc:=by
 cases pc with
 |none=>exact⟨fun _=>trivial,fun _=>rfl⟩
 |some c=>exact FI.symm
def QY (T:Tab)(a b:As):Prop:=¬(pcv T a.pc/\pcv T b.pc)
structure DN (T:Tab) (g:G) (N:Nat) (outs:List As):Prop where
 each:∀o∈outs,Cb g o.pc/\o.l.tmps.n=N
 apart:outs.Pairwise (QY T)
def UD (T:Tab)(n0:Nat)(ρ :Nat->Option Nat)(m:Mem)(w:World)(n:Nat)(outs:List As)(Q:Exit->Act->World->Prop):Prop:=
 ∀o∈outs,pcv T o.pc->∀ ρ' a' w',AE T n0 ρ m w ρ' o.l.mem w'->Rel T n ρ' o.l a' w'->Q o.k.ex a' w'
section
variable {T:Tab}{g g':G}{N n0 n:Nat}{ρ :Nat->Option Nat}{m:Mem}{w:World}{Q:Exit->Act->World->Prop}
theorem QY.symm {a b:As}(h:QY T a b):QY T b a:=fun⟨h1,h2⟩=>h ⟨h2,h1⟩
theorem DN.grow {outs:List As}(h:DN T g N outs)(k:AR g g'):DN T g' N outs:=⟨fun o ho=>⟨(h.each o ho).1.grow k,(h.each o ho).2⟩,h.apart⟩
theorem DN.perm {l l':List As}(h:DN T g N l)(p:l.Perm l'):DN T g N l':=
 ⟨fun o ho=>h.each o (p.mem_iff.2 ho),(p.pairwise_iff (fun h=>QY.symm h)).1 h.apart⟩
theorem Rel.up {l:Loc}{a:Act}{n':Nat}(h:Rel T n ρ l a w)(hn:n<=n'):Rel T n' ρ l a w:=
 ⟨h.defers,h.size,fun i c hc=>(h.tmps i c hc).up0 hn,h.mem.mono hn⟩
theorem Hx {k:XK}:∀{l:List As} {p:As} {r:List As},GA k l=some (p,r)->p.k=k/\l.Perm (p::r)
 |[],_,_,h=>by cases h
 |o::os,p,r,h=>by
  simp only[GA] at h;split at h
  .rename_i hk;cases h;exact⟨hk,List.Perm.refl _⟩
  .cases hp:GA k os with
   |none=>rw[hp] at h;cases h
   |some q=>
    obtain⟨p',r'⟩:=q;rw[hp] at h;cases h;obtain⟨h1,h2⟩:=Hx hp;exact⟨h1,(h2.cons o).trans (List.Perm.swap _ _ _)⟩
theorem Mv {k:XK}:∀{l:List As},GA k l=none->∀o∈l,o.k≠k
 |[],_,o,h=>by cases h
 |o::os,h,o',ho=>by
  simp only[GA] at h;split at h
  .cases h
  .rename_i hk;cases hp:GA k os with
   |none=>
    cases ho with
    |head=>exact hk
    |tail _ ho=>exact Mv hp o' ho
   |some q=>rw[hp] at h;cases h
theorem VV {k:XK}{l:List As}(h:noK k l=true):∀o∈l,o.k≠k:=fun o ho he=>by
 have:=wR.1 h o ho;simp[he] at this
theorem cY {s:Rf}{p:Option PC}{a b c:As}(h:S9 g s p a b=(c,g')):AR g g'/\(Agr T g'->Cb g a.pc->Cb g b.pc->a.l.tmps.n=N->b.l.tmps.n=N->
  (∀q,p=some q->Cb g q/\(pcv T q↔pcv T a.pc\/pcv T b.pc))->
  c.k=a.k/\c.l.tmps.n=N/\Cb g' c.pc/\(pcv T c.pc↔pcv T a.pc\/pcv T b.pc)/\
  ∀bs,(s.eval T).toB=bs->∀ ρ act w,Rel T g.n ρ (sel bs a.l b.l) act w->∃ ρ',AE T g.n ρ (sel bs a.l b.l).mem w ρ' c.l.mem w/\Rel T g'.n ρ' c.l act w):=by
 unfold S9 at h;simp only at h;have g1:AR g (g.pushAll (FX g.n s a.l b.l).2):=AR.push _ _;split at h
 .rename_i q;cases h;refine⟨g1,fun hA ha hb la lb hp=>?_⟩;obtain⟨p1,p2⟩:=hp q rfl;refine⟨rfl,la,p1.grow g1,p2,fun bs hbs ρ act w hr=>?_⟩;exact SY hbs (by rw[la,lb]) (vr _) hA.new (by rw[BQ];exact vr _) hr
 .cases h;have g2:AR (g.pushAll (FX g.n s a.l b.l).2) ((g.pushAll (FX g.n s a.l b.l).2).pushAll [⟨ "or",oOr,[EB a.pc,EB b.pc]⟩]):=AR.push _ _;refine⟨g1.trans g2,fun hA ha hb la lb hp=>?_⟩;have hA1:=hA.of g2;have hnew:=hA.new.head;refine⟨rfl,la,(by show _ < _;rw[BQ (G.pushAll _ _) [_]];exact Nat.lt_succ_self _),?_,fun bs hbs ρ act w hr=>?_⟩
  .rw[FI,hnew,<-Ix (T:=T) a.pc,<-Ix (T:=T) b.pc];simp[Ex.eval,oOr,u0,u1,U.toB]
  .obtain⟨ρ',h1,h2⟩:=SY hbs (by rw[la,lb]) (vr _) hA1.new (n':=(g.pushAll (FX g.n s a.l b.l).2).n) (by rw[BQ];exact vr _) hr;exact⟨ρ',h1,h2.up g2.n⟩
theorem G0 {s:Option Rf}{norm:Option PC}:∀{as bs r:List As} {g g':G},Du s norm as bs g=(r,g')->AR g g'/\(Agr T g'->DN T g N (as++bs)->
  (∀q,s=some q->(∀a∈as,pcv T a.pc->(q.eval T).toB=true)/\(∀b∈bs,pcv T b.pc->(q.eval T).toB=false))->
  (∀q,norm=some q->Cb g q/\∀a∈as,∀b∈bs,a.k= .normal->b.k= .normal->(pcv T q↔pcv T a.pc\/pcv T b.pc))->
  DN T g' N r/\(∀o∈r,pcv T o.pc->∃o0∈as++bs,pcv T o0.pc)/\
  ∀n0 ρ m w Q,n0<=g.n->AD T n0 ρ m w->UD T n0 ρ m w g'.n r Q->UD T n0 ρ m w g.n (as++bs) Q)
 |[],bs,r,g,g',h=>by
  simp only[Du] at h;cases h;exact⟨AR.refl _,fun _ hg _ _=>⟨hg,fun o ho hp=>⟨o,ho,hp⟩,fun _ _ _ _ _ _ _ h=>h⟩⟩
 |a::as,bs,r,g,g',h=>by
  simp only[Du] at h;split at h
  .rename_i hpop;cases hj:Du s norm as bs g with
   |mk r1 g1=>
    rw[hj] at h;cases h;obtain⟨g1,k1⟩:=G0 (as:=as) hj;refine⟨g1,fun hA hg hs hn=>?_⟩;have hgt:DN T g N (as++bs):=⟨fun o ho=>hg.each o (vz _ ho),(List.pairwise_cons.1 hg.apart).2⟩;obtain⟨q1,q2,q3⟩:=k1 hA hgt (fun q hq=>⟨fun a ha=>(hs q hq).1 a (vz _ ha),(hs q hq).2⟩) (fun q hq=>⟨(hn q hq).1,fun a ha=>(hn q hq).2 a (vz _ ha)⟩);have hapart:=(List.pairwise_cons.1 hg.apart).1;have ha:=hg.each a (wA ..);refine⟨⟨?_,?_⟩,?_,?_⟩
    .intro o ho;cases ho with
     |head=>exact⟨ha.1.grow g1,ha.2⟩
     |tail _ ho=>exact q1.each o ho
    .refine List.pairwise_cons.2 ⟨fun o ho hc=>?_,q1.apart⟩;obtain⟨o0,h0,h1⟩:=q2 o ho hc.2;exact hapart o0 h0 ⟨hc.1,h1⟩
    .intro o ho hp;cases ho with
     |head=>exact⟨a,wA ..,hp⟩
     |tail _ ho=>
      obtain⟨o0,h0,h1⟩:=q2 o ho hp;exact⟨o0,vz _ h0,h1⟩
    .intro n0 ρ m w Q hn0 hm hO o ho hp;cases ho with
     |head=>exact fun ρ' a' w' hst hr=>hO a (wA ..) hp ρ' a' w' hst (hr.up g1.n)
     |tail _ ho=>exact q3 n0 ρ m w Q hn0 hm (fun o ho=>hO o (vz _ ho)) o ho hp
  .rename_i b bs' hpop;obtain⟨hbk,hperm⟩:=Hx hpop;cases hj2:S9 g (s.getD (EB a.pc)) (if a.k= .normal then norm else none) a b with
   |mk c gm=>
    rw[hj2] at h;simp only at h;cases hj:Du s norm as bs' gm with
    |mk r1 g1=>
     rw[hj] at h;cases h;obtain⟨gr1,k1⟩:=cY (T:=T) (N:=N) hj2;obtain⟨gr2,k2⟩:=G0 (as:=as) hj;refine⟨gr1.trans gr2,fun hA hg hs hn=>?_⟩;have hp:(a::as++bs).Perm (a::b::(as++bs')):=by
      refine List.Perm.cons a ?_;exact (List.Perm.append_left as hperm).trans List.perm_middle
     have hg2:=hg.perm hp;have hA1:=hA.of gr2;have hbm:b∈bs:=hperm.mem_iff.2 (wA ..);have hbs:∀o∈bs',o∈bs:=fun o ho=>hperm.mem_iff.2 (vz _ ho);have ha:=hg2.each a (wA ..);have hb:=hg2.each b (vz _ (wA ..));have pw:=List.pairwise_cons.1 hg2.apart;have pw2:=List.pairwise_cons.1 pw.2;have hgt:DN T gm N (as++bs'):=DN.grow ⟨fun o ho=>hg2.each o (vz _ (vz _ ho)),pw2.2⟩ gr1;obtain⟨c1,c2,c3,c4,c5⟩:=k1 hA1 ha.1 hb.1 ha.2 hb.2 (fun q hq=>by
      split at hq
      .rename_i hk;obtain⟨z1,z2⟩:=hn q hq;exact⟨z1,z2 a (wA ..) b hbm hk (by rw[hbk,hk])⟩
      .cases hq)
     obtain⟨q1,q2,q3⟩:=k2 hA hgt (fun q hq=>⟨fun a ha=>(hs q hq).1 a (vz _ ha),fun b hb=>(hs q hq).2 b (hbs b hb)⟩)
      (fun q hq=>⟨(hn q hq).1.grow gr1,fun a ha b hb=>(hn q hq).2 a (vz _ ha) b (hbs b hb)⟩)
     have hmem:∀o,o∈(as++bs')->o∈(a::as++bs):=fun o ho=>hp.mem_iff.2 (vz _ (vz _ ho));have hsa:pcv T a.pc->((s.getD (EB a.pc)).eval T).toB=true:=fun hp=>by
      cases s with
      |none=>exact (Ix a.pc).2 hp
      |some q=>exact (hs q rfl).1 a (wA ..) hp
     have hsb:pcv T b.pc->((s.getD (EB a.pc)).eval T).toB=false:=fun hp=>by
      cases s with
      |none=>
       simp only[Option.getD_none];cases hq:((EB a.pc).eval T).toB with
       |false=>rfl
       |true=>exact absurd ⟨(Ix a.pc).1 hq,hp⟩ (pw.1 b (wA ..))
      |some q=>exact (hs q rfl).2 b hbm hp
     refine⟨⟨?_,?_⟩,?_,?_⟩
     .intro o ho;cases ho with
      |head=>exact⟨c3.grow gr2,c2⟩
      |tail _ ho=>exact q1.each o ho
     .refine List.pairwise_cons.2 ⟨fun o ho hc=>?_,q1.apart⟩;obtain⟨o0,h0,h1⟩:=q2 o ho hc.2;rcases c4.1 hc.1 with h2|h2
      .exact pw.1 o0 (vz _ h0) ⟨h2,h1⟩
      .exact pw2.1 o0 h0 ⟨h2,h1⟩
     .intro o ho hp;cases ho with
      |head=>
       rcases c4.1 hp with h2|h2
       .exact⟨a,wA ..,h2⟩
       .exact⟨b,wB _ hbm,h2⟩
      |tail _ ho=>
       obtain⟨o0,h0,h1⟩:=q2 o ho hp;exact⟨o0,hmem o0 h0,h1⟩
     .intro n0 ρ m w Q hn0 hm hO o ho hpo ρ' a' w' hst hr;have ho2:=hp.mem_iff.1 ho;have merged:sel ((s.getD (EB a.pc)).eval T).toB a.l b.l=o.l->pcv T c.pc->o.k=a.k->Q o.k.ex a' w':=fun e hc hk=>by
       obtain⟨ρ2,s1,s2⟩:=c5 _ rfl ρ' a' w' (by rw[e];exact hr);rw[e] at s1;rw[hk,<-c1];exact hO c (wA ..) hc ρ2 a' w' (hst.trans hm hn0 s1) (s2.up gr2.n)
      cases ho2 with
      |head=>exact merged (by rw[hsa hpo];rfl) (c4.2 (.inl hpo)) rfl
      |tail _ ho2=>
       cases ho2 with
       |head=>exact merged (by rw[hsb hpo];rfl) (c4.2 (.inr hpo)) hbk
       |tail _ ho2=>exact q3 n0 ρ m w Q (wI hn0 gr1.n) hm (fun o ho=>hO o (vz _ ho)) o ho2 hpo ρ' a' w' hst (hr.up gr1.n)
end
def CP (T:Tab)(K:(Exit->Act->World->Prop)->Act->World->Prop)(r:PC->Loc->G->Option (List As × G)):Prop:=
 ∀pc l g outs g',r pc l g=some (outs,g')->AR g g'/\(Agr T g'->Cb g pc->DN T g' l.tmps.n outs/\(∀o∈outs,pcv T o.pc->pcv T pc)/\
  (AY T g'->pcv T pc->∀ ρ a w Q,Rel T g.n ρ l a w->UD T g.n ρ l.mem w g'.n outs Q->K Q a w))
section
variable {P:Program}{T:Tab}{K1 K2:(Exit->Act->World->Prop)->Act->World->Prop}{r1 r2:PC->Loc->G->Option (List As × G)}
theorem CP.mono (h:CP T K1 r1)(hk:∀Q a w,K1 Q a w->K2 Q a w):CP T K2 r1:=by
 intro pc l g outs g' hr;obtain⟨h1,h2⟩:=h pc l g outs g' hr;refine⟨h1,fun hA hp=>?_⟩;obtain⟨h3,h4,h5⟩:=h2 hA hp;exact⟨h3,h4,fun ho hpc ρ a w Q hR hO=>hk Q a w (h5 ho hpc ρ a w Q hR hO)⟩
theorem Q6 {k:XK}(h:k≠ .normal){F:Act->World->Prop}{Q:Exit->Act->World->Prop}{a:Act}{w:World}(hq:Q k.ex a w):Exit.then F Q k.ex a w:=by
 cases k with
 |normal=>exact absurd rfl h
 |exit id=>exact hq
 |ret=>exact hq
theorem O1 (h1:CP T K1 r1)(h2:CP T K2 r2):CP T (fun Q=>K1 (Exit.then (K2 Q) Q)) (fun pc l g=>do let (outs,g) <-r1 pc l g;QE outs g r2):=by
 intro pc l g outs' g' hr;simp only[vq,vn] at hr;obtain⟨⟨outs,g1⟩,hr1,hr⟩:=hr;obtain⟨gr1,k1⟩:=h1 pc l g outs g1 hr1;simp only at hr;unfold QE at hr;split at hr
 .rename_i hpop;cases hr;refine⟨gr1,fun hA hp=>?_⟩;obtain⟨q1,q2,q3⟩:=k1 hA hp;refine⟨q1,q2,fun ho hpc ρ a w Q hR hO=>q3 ho hpc ρ a w _ hR fun o ho hp ρ' a' w' hs hr=>?_⟩;exact Q6 (Mv hpop o ho) (hO o ho hp ρ' a' w' hs hr)
 .rename_i o rest hpop;split at hr
  .rename_i hno;simp only[vq,vn] at hr;obtain⟨⟨outs2,g2⟩,hr2,hr⟩:=hr;simp only[Option.some.injEq] at hr;obtain⟨hok,hperm⟩:=Hx hpop;obtain⟨gr2,k2⟩:=h2 o.pc o.l g1 outs2 g2 hr2;obtain⟨gr3,k3⟩:=G0 (T:=T) (N:=l.tmps.n) hr;refine⟨(gr1.trans gr2).trans gr3,fun hA hp=>?_⟩;have hA2:=hA.of gr3;have hA1:=hA2.of gr2;obtain⟨q1,q2,q3⟩:=k1 hA1 hp;have q1':=q1.perm hperm;have ho:=q1'.each o (wA ..);obtain⟨s1,s2,s3⟩:=k2 hA2 ho.1;rw[ho.2] at s1;have pw:=List.pairwise_cons.1 q1'.apart;have hgood:DN T g2 l.tmps.n (rest++outs2):=by
    refine⟨fun x hx=>?_,List.pairwise_append.2 ⟨pw.2,s1.apart,fun x hx y hy hc=>pw.1 x hx ⟨s2 y hy hc.2,hc.1⟩⟩⟩;rcases wc.1 hx with hx|hx
    .have:=q1'.each x (vz _ hx);exact⟨this.1.grow gr2,this.2⟩
    .exact s1.each x hx
   obtain⟨t1,t2,t3⟩:=k3 hA hgood (fun q hq=>by cases hq) (fun q hq=>by cases hq);refine⟨t1,fun x hx hpx=>?_,fun hob hpc ρ a w Q hR hO=>?_⟩
   .obtain⟨x0,h0,h1⟩:=t2 x hx hpx;rcases wc.1 h0 with h0|h0
    .exact q2 x0 (hperm.mem_iff.2 (vz _ h0)) h1
    .exact q2 o (hperm.mem_iff.2 (wA ..)) (s2 x0 h0 h1)
   .have hO2:=t3 g.n ρ l.mem w Q (gr1.trans gr2).n hR.mem hO;refine q3 ((hob.of gr3).of gr2) hpc ρ a w _ hR fun x hx hpx ρ' a' w' hs hr=>?_;have hx2:=hperm.mem_iff.1 hx;cases hx2 with
    |head=>
     rw[hok];refine s3 (hob.of gr3) hpx ρ' a' w' Q hr fun y hy hpy ρ2 a2 w2 hs2 hr2=>?_;exact hO2 y (wB _ hy) hpy ρ2 a2 w2 (hs.trans hR.mem gr1.n hs2) hr2
    |tail _ hx2=>
     exact Q6 (VV hno x hx2) (hO2 x (wH _ hx2) hpx ρ' a' w' hs (hr.up gr2.n))
  .cases hr
theorem bL:∀{a b:PC},P8 a b=true->a=b
 |none,none,_=>rfl
 |some a,some b,h=>by rw[vp h]
 |none,some _,h=>by cases h
 |some _,none,h=>by cases h
theorem cS {rec:Code->PC->Loc->G->Option (List As × G)}{x:Nat}{ca cb:Code}(ha:CP T K1 (rec ca))(hb:CP T K2 (rec cb)):
  CP T (fun Q a w=>((T x).toB=true->K1 Q a w)/\((T x).toB=false->K2 Q a w)) (Pm rec x ca cb):=by
 intro pc l g outs g' hr;unfold Pm at hr;split at hr
 .cases hr
 rename_i hx0;have hx:x < g.n:=by rw[Bool.not_eq_false,Nat.blt_eq] at hx0;exact hx0
 cases hb1:Cz g pc x true with
 |mk pa g1=>
  simp only[hb1,vq,vn] at hr;obtain⟨⟨oa,g2⟩,hra,hr⟩:=hr;simp only at hr;cases hb2:Cz g2 pc x false with
  |mk pb g3=>
   simp only[hb2,vn] at hr;obtain⟨⟨ob,g4⟩,hrb,hr⟩:=hr;simp only[Option.some.injEq] at hr;obtain⟨gr1,b1⟩:=Ga (T:=T) hb1;obtain⟨gr2,b2⟩:=ha pa l g1 oa g2 hra;obtain⟨gr3,b3⟩:=Ga (T:=T) hb2;obtain⟨gr4,b4⟩:=hb pb l g3 ob g4 hrb;obtain⟨gr5,b5⟩:=G0 (T:=T) (N:=l.tmps.n) hr;have gr12:=gr1.trans gr2;have gr123:=gr12.trans gr3;refine⟨(gr123.trans gr4).trans gr5,fun hA hp=>?_⟩;have hA4:=hA.of gr5;have hA3:=hA4.of gr4;have hA2:=hA3.of gr3;have hA1:=hA2.of gr2;obtain⟨p1,p2⟩:=b1 hA1 hp hx;obtain⟨p3,p4⟩:=b3 hA3 (hp.grow gr12) (vw hx gr12.n);obtain⟨q1,q2,q3⟩:=b2 hA2 p1;obtain⟨q4,q5,q6⟩:=b4 hA4 p3;have hgood:DN T g4 l.tmps.n (oa++ob):=by
    refine⟨fun y hy=>?_,List.pairwise_append.2 ⟨q1.apart,q4.apart,fun y hy z hz hc=>?_⟩⟩
    .rcases wc.1 hy with hy|hy
     .exact⟨((q1.each y hy).1.grow gr3).grow gr4,(q1.each y hy).2⟩
     .exact q4.each y hy
    .have e1:=(p2.1 (q2 y hy hc.1)).2;have e2:=(p4.1 (q5 z hz hc.2)).2;rw[e1] at e2;cases e2
   obtain⟨t1,t2,t3⟩:=b5 hA hgood
    (fun q hq=>by
     cases hq;exact⟨fun a ha hpa=>(p2.1 (q2 a ha hpa)).2,fun b hb hpb=>(p4.1 (q5 b hb hpb)).2⟩)
    (fun q hq=>by
     split at hq
     .rename_i hwh;cases hq;refine⟨hp.grow (gr123.trans gr4),fun a ha b hb _ _=>?_⟩;simp only[vo,decide_eq_true_eq] at hwh;obtain⟨⟨⟨w1,w2⟩,w3⟩,w4⟩:=hwh;have one:∀{o:As} {l:List As} {p:PC},l.length=1->(l.any fun o=>decide (o.k= .normal)&&P8 o.pc p)=true->o∈l->o.pc=p:=by
       intro o l p h1 h2 h3;cases l with
       |nil=>cases h3
       |cons z l=>
        have:l=[]:=List.eq_nil_of_length_eq_zero (by simpa using h1);subst this;simp at h2 h3;subst h3;exact bL h2.2
      rw[one w3 w1 ha,one w4 w2 hb,p2,p4];cases (T x).toB<;>simp
     .cases hq)
   refine⟨t1,fun y hy hpy=>?_,fun hob hpc ρ a w Q hR hO=>?_⟩
   .obtain⟨y0,h0,h1⟩:=t2 y hy hpy;rcases wc.1 h0 with h0|h0
    .exact (p2.1 (q2 y0 h0 h1)).1
    .exact (p4.1 (q5 y0 h0 h1)).1
   .have hO2:=t3 g.n ρ l.mem w Q (gr123.trans gr4).n hR.mem hO;have hob4:=hob.of gr5;refine⟨fun hxt=>?_,fun hxf=>?_⟩
    .refine q3 (hob4.of (gr3.trans gr4)) (p2.2 ⟨hpc,hxt⟩) ρ a w Q (hR.up gr1.n) fun y hy hpy ρ' a' w' hs hr=>?_;exact hO2 y (wH _ hy) hpy ρ' a' w' (hs.down gr1.n) (hr.up (gr3.trans gr4).n)
    .refine q6 hob4 (p4.2 ⟨hpc,hxf⟩) ρ a w Q (hR.up gr123.n) fun y hy hpy ρ' a' w' hs hr=>?_;exact hO2 y (wB _ hy) hpy ρ' a' w' (hs.down gr123.n) hr
end
theorem Tab.ext' {T1 T2:Tab}(h1:∀x,T1 x=T2 x)(h2:T1.fr=T2.fr)(h3:T1.lp=T2.lp)(h4:T1.base=T2.base):T1=T2:=by
 obtain⟨g1,f1,l1,b1⟩:=T1;obtain⟨g2,f2,l2,b2⟩:=T2;have:g1=g2:=funext h1;simp only at h2 h3 h4;rw[this,h2,h3,h4]
theorem Dn (T:Tab)(x:Nat)(u:U):(T.upd x u) x=u:=by
 show (bif Nat.beq x x then u else T x)=u;rw[(DD x x).2 rfl];rfl
theorem Ca (T:Tab){x y:Nat}(u:U)(h:y≠x):(T.upd x u) y=T y:=by
 show (bif Nat.beq y x then u else T y)=T y;have:Nat.beq y x=false:=by
  cases hb:Nat.beq y x with
  |false=>rfl
  |true=>exact absurd ((DD _ _).1 hb) h
 rw[this];rfl
theorem FG:∀(us:List U) (T:Tab) (nh x:Nat),x < nh->(T.upds nh us) x=T x
 |[],_,_,_,_=>rfl
 |u::us,T,nh,x,h=>by
  simp only[Tab.upds];rw[FG us _ _ _ (by omega),Ca _ _ (by omega)]
theorem Wr:∀(us:List U) (T:Tab) (nh x:Nat),nh+us.length<=x->(T.upds nh us) x=T x
 |[],_,_,_,_=>rfl
 |u::us,T,nh,x,h=>by
  simp only[wQ] at h;simp only[Tab.upds];rw[Wr us _ _ _ (by omega),Ca _ _ (by omega)]
theorem Eo:∀(us:List U) (T:Tab) (nh j:Nat) (u:U),us[j]? =some u->(T.upds nh us) (nh+j)=u
 |[],_,_,_,_,h=>by simp at h
 |v::us,T,nh,j,u,h=>by
  simp only[Tab.upds];cases j with
  |zero=>
   simp at h;subst h;rw[FG us _ _ _ (by omega)];exact Dn _ _ _
  |succ j=>
   rw[show nh+(j+1)=nh+1+j by omega];exact Eo us _ _ j u (by simpa using h)
theorem J6:∀(us:List U) (T:Tab) (nh:Nat),(T.upds nh us).fr=T.fr/\(T.upds nh us).lp=T.lp/\(T.upds nh us).base=T.base
 |[],_,_=>⟨rfl,rfl,rfl⟩
 |u::us,T,nh=>by
  simp only[Tab.upds];exact J6 us _ _
theorem EE:∀(eqs:List (Nat × Ex)) (T:Tab),(BI T eqs).fr=T.fr/\(BI T eqs).lp=T.lp/\(BI T eqs).base=T.base
 |[],_=>⟨rfl,rfl,rfl⟩
 |(x,e)::r,T=>by
  simp only[BI];exact EE r T
theorem KN {T:Tab}:∀(fv:List Nat) (x:Nat),x∈fv->(KO fv (fv.map T.get)) x=T x
 |[],x,h=>by cases h
 |y::fv,x,h=>by
  simp only[wG,KO];by_cases hxy:x=y
  .subst hxy;exact Dn _ _ _
  .rw[Ca _ _ hxy];cases h with
   |head=>exact absurd rfl hxy
   |tail _ h=>exact KN fv x h
theorem E0 {T1 T2:Tab}:∀(l:List Rf),(∀x∈Ee l,T1 x=T2 x)->l.map (Rf.eval T1)=l.map (Rf.eval T2)
 |[],_=>rfl
 | .c u::l,h=>by
  simp only[wG,Rf.eval];rw[E0 l (fun x hx=>h x hx)]
 | .e y::l,h=>by
  simp only[wG,Rf.eval];rw[E0 l (fun x hx=>h x (vz _ hx)),h y (wA ..)]
 | .n y::l,h=>by
  simp only[wG,Rf.eval];rw[E0 l (fun x hx=>h x (vz _ hx)),h y (wA ..)]
theorem O5 {T1 T2:Tab}{e:Ex}(h:∀x∈Ee e.args,T1 x=T2 x):e.eval T1=e.eval T2:=by
 unfold Ex.eval;rw[E0 e.args h]
theorem Dm {fv:List Nat}{nh top:Nat}{l:List Nat}(h:FK fv nh top l=true):∀x∈l,x∈fv\/(nh<=x/\x < top):=fun x hx=>by
 have:=wR.1 h x hx;simp only[wU,vo] at this;rcases this with h1|⟨h1,h2⟩
 .exact .inl (by simpa using h1)
 .exact .inr ⟨wN h1,Au h2⟩
section
variable {fv:List Nat}{nh lo:Nat}
theorem B6 {T:Tab}:∀{eqs:List (Nat × Ex)} {top:Nat},B9 fv nh lo top eqs=true->lo<=top/\(∀p∈eqs,lo<=p.1/\p.1 < top)/\∀y,(y < lo\/top<=y)->BI T eqs y=T y
 |[],top,h=>⟨by rw[vp h];exact vr _,(fun p hp=>by cases hp),fun _ _=>rfl⟩
 |(x,e)::r,top,h=>by
  simp only[B9,vo] at h;have hx:=vp h.1.1;obtain⟨h1,h2,h3⟩:=B6 (T:=T) h.2;refine⟨by omega,fun p hp=>?_,fun y hy=>?_⟩
  .cases hp with
   |head=>exact⟨h1,by omega⟩
   |tail _ hp=>have:=h2 p hp;exact⟨this.1,by omega⟩
  .simp only[BI];rw[Ca _ _ (by omega)];exact h3 y (by omega)
theorem D4 {T:Tab}(hfv:∀x∈fv,x < nh)(hlo:nh<=lo):∀{eqs:List (Nat × Ex)} {top:Nat},B9 fv nh lo top eqs=true->∀p∈eqs,(BI T eqs) p.1=p.2.eval (BI T eqs)
 |[],_,_,p,hp=>by cases hp
 |(x,e)::r,top,h,p,hp=>by
  simp only[B9,vo] at h;obtain⟨h1,h2,_⟩:=B6 (T:=T) h.2;have argsOk:∀{e':Ex} {y:Nat},y<=x->FK fv nh y (Ee e'.args)=true->e'.eval (BI T ((x,e)::r))=e'.eval (BI T r):=by
   intro e' y hy hs;refine O5 fun z hz=>?_;simp only[BI];refine Ca _ _ ?_;rcases Dm hs z hz with q|q
   .have:=hfv z q;omega
   .omega
  cases hp with
  |head=>
   have:=argsOk (e':=e) (vr x) h.1.2;rw[this];simp only[BI];exact Dn _ _ _
  |tail _ hp=>
   have ih:=D4 (T:=T) hfv hlo h.2 p hp;have hb:=h2 p hp;have harg:FK fv nh p.1 (Ee p.2.args)=true:=by
    have key:∀{r:List (Nat × Ex)} {top:Nat},B9 fv nh lo top r=true->p∈r->FK fv nh p.1 (Ee p.2.args)=true:=by
     intro r;induction r with
     |nil=>intro top _ hp;cases hp
     |cons q r ih=>
      intro top h hp;obtain⟨x,e⟩:=q;simp only[B9,vo] at h;cases hp with
      |head=>exact h.1.2
      |tail _ hp=>exact ih h.2 hp
    exact key h.2 hp
   rw[argsOk (e':=p.2) (y:=p.1) (by omega) harg];simp only[BI];rw[Ca _ _ (by omega)];exact ih
theorem Lg {T:Tab}:∀{eqs:List (Nat × Ex)},(∀p∈eqs,T p.1=p.2.eval T)->BI T eqs=T
 |[],_=>rfl
 |(x,e)::r,h=>by
  simp only[BI];rw[Lg (fun p hp=>h p (vz _ hp))];refine Tab.ext' (fun y=>?_) rfl rfl rfl;by_cases hy:y=x
  .subst hy;rw[Dn];exact (h (y,e) (wA ..)).symm
  .exact Ca _ _ hy
theorem KU {T1 T2:Tab}(hfv:∀x∈fv,x < nh)(hlo:nh<=lo)(ha:∀x,x∈fv\/(nh<=x/\x < lo)->T1 x=T2 x):∀{eqs:List (Nat × Ex)} {top:Nat},B9 fv nh lo top eqs=true->
  ∀x,x∈fv\/(nh<=x/\x < top)->(BI T1 eqs) x=(BI T2 eqs) x
 |[],top,h,x,hx=>by
  rw[vp h] at hx;exact ha x hx
 |(y,e)::r,top,h,x,hx=>by
  simp only[B9,vo] at h;have hy:=vp h.1.1;obtain⟨h1,_,_⟩:=B6 (T:=T1) h.2;have ih:=KU hfv hlo ha h.2;simp only[BI];by_cases hxy:x=y
  .subst hxy;rw[Dn,Dn];exact O5 fun z hz=>ih z (Dm h.1.2 z hz)
  .rw[Ca _ _ hxy,Ca _ _ hxy];refine ih x ?_;rcases hx with hx|hx
   .exact .inl hx
   .exact .inr ⟨hx.1,by omega⟩
end
theorem DX.trans {α:Type}{f:α->Option α}{s t u:α}(h:DX f s t)(k:DX f t u):DX f s u:=by
 induction k with
 |zero=>exact h
 |succ _ e ih=>exact .succ ih e
theorem Lx {α:Type}{f:α->Option α}:∀(n:Nat) (s t:α),E1 f n s=some t->DX f s t
 |0,s,t,h=>by simp only[E1] at h;cases h;exact .zero
 |n+1,s,t,h=>by
  simp only[E1,vn] at h;obtain⟨u,h1,h2⟩:=h;exact (DX.succ .zero h1).trans (Lx n u t h2)
theorem Yt {α:Type}{f:α->Option α}{s t u:α}{n:Nat}(hn:E1 f n s=some t)(ht:f t=none)(h:DX f s u):∃m,E1 f m u=some t:=by
 induction h with
 |zero=>exact⟨n,hn⟩
 |succ _ e ih=>
  obtain⟨m,hm⟩:=ih;cases m with
  |zero=>simp only[E1] at hm;cases hm;rw[ht] at e;cases e
  |succ m=>
   simp only[E1,e,wT] at hm;exact⟨m,hm⟩
theorem XE {α:Type}{f:α->Option α}{s t:α}{n:Nat}(hn:E1 f n s=some t)(ht:f t=none):ZJ f s=t:=by
 have hex:∃t,DX f s t/\f t=none:=⟨t,Lx n s t hn,ht⟩;unfold ZJ;rw[dif_pos hex];obtain⟨h1,h2⟩:=Classical.choose_spec hex;obtain⟨m,hm⟩:=Yt hn ht h1;cases m with
 |zero=>simp only[E1] at hm;injection hm
 |succ m=>simp only[E1,h2,Option.bind_none] at hm;cases hm
theorem Cb.n {g g':G}{pc:PC}(h:Cb g pc)(hn:g.n<=g'.n):Cb g' pc:=by
 cases pc with
 |none=>trivial
 |some c=>exact vw h hn
theorem Iw {T:Tab}{pc:PC}:pcB T pc=true↔pcv T pc:=by
 cases pc with
 |none=>exact⟨fun _=>trivial,fun _=>rfl⟩
 |some c=>exact FI.symm
theorem Yp {lps:List (Nat × CA)}{nh:Nat}{rs:List Rf}{hl l:Loc}{ps:List Pr}(h:Do lps nh rs hl l=some ps):hl.tmps.n=l.tmps.n:=by
 unfold Do at h;split at h
 .rename_i hc;simp only[vo] at hc;exact vp hc.2
 .cases h
section
variable {P:Program}{T:Tab}{r:Option Nat}{kk:Nat}
theorem ak {c:Code}{rec:PC->Loc->G->Option (List As × G)}(hrec:∀T':Tab,T'.lp=T.lp->CP T' (fun Q a w=>c.wpIn (fen r) kk P Q a w) rec)(p:DO):
  CP T (fun Q a w=>(Code.loop c).wpIn (fen r) kk P Q a w) (VB rec p):=by
 intro pc l g outs g' h;unfold VB at h;simp only[vq,vn] at h;obtain⟨hl,hhl,⟨inits,psx⟩,hin,ps0,hm0,⟨outs2,g2⟩,hr,h⟩:=h;simp only at h hm0 hr;split at h
 .cases h
 rename_i o rest hpop;simp only[vn] at h;obtain⟨⟨nxt,psy⟩,hnx,ps1,hm1,h⟩:=h;simp only at h hm1;generalize hD:({ nh:=g.n,k:=inits.length,eqs:=g2.eqs,pcn:=o.pc,nxt,obs:=ps1.map (Ob.mk o.pc)++g2.obs,fv:=Ml g.n g2.eqs o.pc nxt (ps1.map (Ob.mk o.pc)++g2.obs) }:Ag)=D at h;split at h
 .rename_i hc;simp only[vo] at hc;obtain⟨⟨⟨hsc,hnl⟩,hml⟩,hno⟩:=hc;have hnl:=vp hnl;have hml:=vp hml;have dnh:D.nh=g.n:=by rw[<-hD]
  have dk:D.k=inits.length:=by rw[<-hD]
  have dfv:D.fv=Ml g.n g2.eqs o.pc nxt (ps1.map (Ob.mk o.pc)++g2.obs):=by rw[<-hD]
  have deqs:D.eqs=g2.eqs:=by rw[<-hD]
  have dpcn:D.pcn=o.pc:=by rw[<-hD]
  have dnxt:D.nxt=nxt:=by rw[<-hD]
  have dobs:D.obs=ps1.map (Ob.mk o.pc)++g2.obs:=by rw[<-hD]
  cases h;obtain⟨gr,k0⟩:=hrec T rfl pc hl _ outs2 g2 hr;have hgn:g.n+inits.length<=g2.n:=gr.n;obtain⟨hok,hperm⟩:=Hx hpop;have memEqs:∀p,p∈G3 g.n (D.heads inits) g.eqs->p∈g2.eqs++G3 g.n (D.heads inits) g.eqs:=fun p hp=>wB _ hp;refine⟨⟨by show g.n<=g2.n;omega,fun p hp=>memEqs p ((Gr _ _ _ _).2 (.inl hp)),fun x hx=>vz _ (wB _ hx),gr.lps⟩,fun hA hp=>?_⟩;have hlps:∀p∈g.lps,T.lp p.1=p.2:=fun p hp=>hA.lps p (gr.lps p hp);have hA2:Agr T g2:=⟨fun p hp=>hA.eqs p (wH _ hp),hA.lps⟩;have hpH:Cb { n:=g.n+inits.length,eqs:=[],obs:=[],lps:=g.lps } pc:=hp.n (Nat.le_add_right _ _);obtain⟨q1,q2,_⟩:=k0 hA2 hpH;have q1':=q1.perm hperm;have pw:=List.pairwise_cons.1 q1'.apart;have hln:hl.tmps.n=l.tmps.n:=Yp hm0;refine⟨⟨fun x hx=>?_,pw.2⟩,fun x hx hpx=>q2 x (hperm.mem_iff.2 (vz _ hx)) hpx,fun hob hpc ρ a w Q hR hO=>?_⟩
  .obtain⟨z1,z2⟩:=q1'.each x (vz _ hx);exact⟨z1.n (vr _),by rw[z2,hln]⟩
  simp only[Ag.inScope,vo] at hsc;obtain⟨⟨⟨⟨sc1,sc2⟩,sc3⟩,sc4⟩,sc5⟩:=hsc;rw[deqs,dnh,dk] at sc1;rw[dnh,dpcn] at sc2;rw[dnh,dnxt] at sc3;rw[dobs,dnh] at sc4;have hfv:∀x∈D.fv,x < g.n:=fun x hx=>by
   have:=wR.1 sc5 x hx;rw[dnh] at this;exact Au this
  have hlo:g.n<=g.n+inits.length:=Nat.le_add_right _ _;let us:List U:=D.fv.map T.get;let s0:List U:=inits.map (Rf.eval T);let TT:List U->Tab:=fun s=>BI (T.upds g.n s) g2.eqs;have hTTr:∀s,(TT s).fr=T.fr/\(TT s).lp=T.lp/\(TT s).base=T.base:=fun s=>by
   obtain⟨a1,a2,a3⟩:=EE g2.eqs (T.upds g.n s);obtain⟨b1,b2,b3⟩:=J6 s T g.n;exact⟨a1.trans b1,a2.trans b2,a3.trans b3⟩
  have hTTlt:∀s x,x < g.n->TT s x=T x:=fun s x hx=>by
   rw[show TT s x=(T.upds g.n s) x from (B6 sc1).2.2 x (.inl (by omega))];exact FG _ _ _ _ hx
  have hTTh:∀s j u,s.length=inits.length->s[j]? =some u->TT s (g.n+j)=u:=fun s j u hs hj=>by
   have hjl:j < s.length:=(vu.1 hj).1;rw[show TT s (g.n+j)=(T.upds g.n s) (g.n+j) from (B6 sc1).2.2 _ (.inl (by omega))];exact Eo _ _ _ _ _ hj
  have hTTe:∀s,∀p∈g2.eqs,TT s p.1=p.2.eval (TT s):=fun s p hp=>D4 hfv hlo sc1 p hp;have hTTA:∀s,Agr (TT s) g2:=fun s=>⟨hTTe s,fun p hp=>by rw[(hTTr s).2.1];exact hA.lps p hp⟩;have hagree:∀s,s.length=inits.length->∀x,x∈D.fv\/(g.n<=x/\x < g2.n)->(D.tab us s) x=TT s x:=fun s hs x hx=>by
   have e:D.tab us s=BI ((KO D.fv us).upds g.n s) g2.eqs:=by unfold Ag.tab;rw[dnh,deqs]
   rw[e];refine KU hfv hlo (fun y hy=>?_) sc1 x hx;rcases hy with hy|hy
   .rw[FG _ _ _ _ (hfv y hy),FG _ _ _ _ (hfv y hy)];exact KN D.fv y hy
   .have hj:y - g.n < s.length:=by omega
    have h1:=Eo s (KO D.fv us) g.n (y - g.n) s[y - g.n] (vt hj);have h2:=Eo s T g.n (y - g.n) s[y - g.n] (vt hj);rw[show g.n+(y - g.n)=y by omega] at h1 h2;rw[h1,h2]
  have hpcB:∀s,s.length=inits.length->pcB (D.tab us s) D.pcn=pcB (TT s) o.pc:=fun s hs=>by
   rw[dpcn];cases hop:o.pc with
   |none=>rfl
   |some x=>
    simp only[pcB];rw[hop] at sc2;rw[hagree s hs x (Dm sc2 x (by simp[pcL]))]
  have hnxt:∀s,s.length=inits.length->D.nxt.map (Rf.eval (D.tab us s))=nxt.map (Rf.eval (TT s)):=fun s hs=>by
   rw[dnxt];exact E0 nxt fun x hx=>hagree s hs x (Dm sc3 x hx)
  have hobs:∀s,s.length=inits.length->D.ob us s->∀q∈ps1.map (Ob.mk o.pc)++g2.obs,q.holds (TT s):=fun s hs hD' q hq=>by
   have h1:=hD' q (by rw[dobs];exact hq);have h2:=wR.1 sc4 q hq;have h3:=Dm h2;intro hpv;have hpv2:pcv (D.tab us s) q.pc:=by
    cases hqp:q.pc with
    |none=>trivial
    |some x=>
     rw[hqp] at hpv;have:=hagree s hs x (h3 x (by rw[hqp];exact wH _ (by simp[pcL])));show D.tab us s x= .bool true;rw[this];exact hpv
   have:=h1 hpv2;unfold Pr.holds at this⊢;rw[E0 q.p.args (fun x hx=>hagree s hs x (h3 x (wB _ hx)))] at this;exact this
  have howes:=hob ⟨pc,⟨D.tg 0,D.owes,(Ml g.n g2.eqs o.pc nxt (ps1.map (Ob.mk o.pc)++g2.obs)).map .e++inits⟩⟩ (wA ..) hpc;rw[<-dfv] at howes;have hargs:(D.fv.map Rf.e++inits).map (Rf.eval T)=us++s0:=by
   simp only[v7,List.map_map];rfl
  have husl:us.length=D.fv.length:=by simp[us]
  have htake:(us++s0).take D.fv.length=us:=by rw[<-husl];simp
  have hdrop:(us++s0).drop D.fv.length=s0:=by rw[<-husl];simp
  simp only[Pr.holds,Ag.owes] at howes;rw[hargs,htake,hdrop] at howes;obtain⟨⟨N,t,hN,ht⟩,hall⟩:=howes;have hs0:s0.length=inits.length:=by simp[s0]
  have hlen:∀s,DX (D.step us) s0 s->s.length=inits.length:=fun s hs=>by
   induction hs with
   |zero=>exact hs0
   |succ _ e _=>
    simp only[Ag.step] at e;cases hb:pcB (D.tab us _) D.pcn with
    |false=>rw[hb] at e;cases e
    |true=>rw[hb] at e;simp only[cond_true] at e;cases e;rw[dnxt];simp[hnl]
  have hlast:ZJ (D.step us) s0=t:=XE hN ht;have hheads:∀j,j < inits.length->T (g.n+j)=t.getD j default:=fun j hj=>by
   have hm:(g.n+j,(⟨D.tg j,D.res j,D.fv.map .e++inits⟩:Ex))∈G3 g.n (D.heads inits) g.eqs:=by
    refine (Gr _ _ _ _).2 (.inr ⟨j,_,?_,rfl⟩);unfold Ag.heads;rw[dk];simp[hj]
   have:=hA.eqs _ (memEqs _ hm);simp only at this;rw[this];unfold Ex.eval;simp only;rw[hargs];unfold Ag.res;rw[htake,hdrop,hlast]
  have htl:t.length=inits.length:=hlen t (Lx N s0 t hN);have hTTt:TT t=T:=by
   have e:T.upds g.n t=T:=by
    obtain⟨b1,b2,b3⟩:=J6 t T g.n;refine Tab.ext' (fun x=>?_) b1 b2 b3;by_cases h1:x < g.n
    .exact FG _ _ _ _ h1
    .by_cases h2:x < g.n+t.length
     .have hj:x - g.n < t.length:=by omega
      have h3:=Eo t T g.n (x - g.n) t[x - g.n] (vt hj);rw[show g.n+(x - g.n)=x by omega] at h3;have h4:=hheads (x - g.n) (by omega);rw[show g.n+(x - g.n)=x by omega] at h4;rw[h3,h4];simp[hj]
     .exact Wr _ _ _ _ (by omega)
   show BI (T.upds g.n t) g2.eqs=T;rw[e];exact Lg fun p hp=>hA.eqs p (wH _ hp)
  have hne:∀id,l.mem.at id≠ .pad->hl.mem.at id≠ .pad:=by
   have H0:EF T (TT s0) g.n (g.n+inits.length) inits:=fun j rr hj=>by
    have hjl:j < inits.length:=(vu.1 hj).1;exact⟨by omega,hTTh s0 j _ hs0 (by simp[s0,hj])⟩
   obtain⟨_,_,hpad⟩:=Fi (T2:=TT s0) hm0 hlps (hTTr s0).1 (hTTr s0).2.1 (hTTr s0).2.2 (hTTlt s0) hlo H0 (fun p hp=>hob ⟨pc,p⟩ (vz _ (wH _ (List.mem_map.2 ⟨p,hp,rfl⟩))) hpc) hR;intro id h1 h2;have hid:id < hl.mem.length:=by
    rw[hml];rcases wD id l.mem.length with h|h
    .exact h
    .exact absurd (Mem.at_ge h) h1
   exact h1 (hpad id hid h2)
  have hsame:∀s,Bp T (TT s) g.n:=fun s=>⟨hTTlt s,(hTTr s).1,(hTTr s).2.1⟩;have claim:∀n s,DX (D.step us) s0 s->E1 (D.step us) n s=some t->∀ ρ1 a1 w1,Rel (TT s) (g.n+inits.length) ρ1 hl a1 w1->AE (TT s) g.n ρ l.mem w ρ1 hl.mem w1->Code.roundsIn (fen r) kk P c Q (n+1) a1 w1:=by
   intro n;induction n with
   |zero=>
    intro s hs hit ρ1 a1 w1 hrel hst;simp only[E1] at hit;cases hit;rw[roundsIn_succ];obtain⟨_,_,sem⟩:=(hrec (TT t) (hTTr t).2.1 pc hl _ outs2 g2 hr).2 (hTTA t) hpH;refine sem (fun q hq=>hobs t htl (hall t hs) q (wB _ hq)) ?_ ρ1 a1 w1 _ hrel fun x hx hpx ρ' a' w' hst' hrel'=>?_
    .rw[hTTt];exact hpc
    .cases hperm.mem_iff.1 hx with
     |head=>
      exfalso;have:=Iw.2 hpx;rw[<-hpcB t htl] at this;simp only[Ag.step,this,cond_true] at ht;cases ht
     |tail _ hx2=>
      refine Q6 (VV hno x hx2) ?_;have hst2:=hst.trans (hR.mem.tab (hsame t)) hlo hst';rw[hTTt] at hst2 hrel' hpx;exact hO x hx2 hpx ρ' a' w' hst2 hrel'
   |succ n ih=>
    intro s hs hit ρ1 a1 w1 hrel hst;simp only[E1,vn] at hit;obtain⟨s',hs',hit⟩:=hit;have hsl:=hlen s hs;have hgo:pcB (D.tab us s) D.pcn=true/\s'=nxt.map (Rf.eval (TT s)):=by
     simp only[Ag.step] at hs';cases hb:pcB (D.tab us s) D.pcn with
     |false=>rw[hb] at hs';cases hs'
     |true=>
      rw[hb] at hs';simp only[cond_true] at hs';cases hs';exact⟨rfl,hnxt s hsl⟩
    have hpo:pcv (TT s) o.pc:=Iw.1 (by rw[<-hpcB s hsl];exact hgo.1);have hreach':DX (D.step us) s0 s':= .succ hs hs';have hsl':=hlen s' hreach';rw[roundsIn_succ];obtain⟨good,_,sem⟩:=(hrec (TT s) (hTTr s).2.1 pc hl _ outs2 g2 hr).2 (hTTA s) hpH;have obsS:=hobs s hsl (hall s hs);have hpcs:pcv (TT s) pc:=by
     cases pc with
     |none=>trivial
     |some x=>
      show TT s x= .bool true;rw[hTTlt s x hp];exact hpc
    refine sem (fun q hq=>obsS q (wB _ hq)) hpcs ρ1 a1 w1 _ hrel fun x hx hpx ρ' a' w' hst' hrel'=>?_;cases hperm.mem_iff.1 hx with
    |head=>
     rw[hok];show Code.roundsIn (fen r) kk P c Q (n+1) a' w';have H1:EF (TT s) (TT s') g.n (g.n+inits.length) nxt:=fun j rr hj=>by
      have hjl:j < nxt.length:=(vu.1 hj).1;exact⟨by omega,hTTh s' j _ hsl' (by rw[hgo.2];simp[hj])⟩
     have heq1:∀x,x < g.n->TT s' x=TT s x:=fun x hx=>by rw[hTTlt s' x hx,hTTlt s x hx]
     obtain⟨z1,z2,_⟩:=Fi (T2:=TT s') hm1 (fun p hp=>by rw[(hTTr s).2.1];exact hlps p hp) ((hTTr s').1.trans (hTTr s).1.symm) ((hTTr s').2.1.trans (hTTr s).2.1.symm) ((hTTr s').2.2.trans (hTTr s).2.2.symm) heq1 hlo H1
      (fun p hp=>obsS ⟨o.pc,p⟩ (wH _ (List.mem_map.2 ⟨p,hp,rfl⟩)) hpo) hrel'
     exact ih s' hreach' hit ρ' a' w' z1 (AE.matched z2 heq1 (vr _) (hR.mem.tab (hsame s)) hne (hst.trans (hR.mem.tab (hsame s)) hlo hst'))
    |tail _ hx2=>
     exfalso;have pw':=List.pairwise_cons.1 (good.perm hperm).apart;exact pw'.1 x hx2 ⟨hpo,hpx⟩
  have H0:EF T (TT s0) g.n (g.n+inits.length) inits:=fun j rr hj=>by
   have hjl:j < inits.length:=(vu.1 hj).1;exact⟨by omega,hTTh s0 j _ hs0 (by simp[s0,hj])⟩
  obtain⟨z1,z2,_⟩:=Fi (T2:=TT s0) hm0 hlps (hTTr s0).1 (hTTr s0).2.1 (hTTr s0).2.2 (hTTlt s0) hlo H0 (fun p hp=>hob ⟨pc,p⟩ (vz _ (wH _ (List.mem_map.2 ⟨p,hp,rfl⟩))) hpc) hR;exact wpIn_loop_rounds (N+1) (claim N s0 .zero hN ρ a w z1 (AE.matched z2 (hTTlt s0) (vr _) hR.mem hne (AE.refl _ _ _ _ _)))
 .cases h
end
section
variable {T:Tab}{n n':Nat}{ρ :Nat->Option Nat}{m:Mem}{w:World}{a:Act}
theorem CN.refl (hn:n<=n')(b:Blk):CN T n n' w b b:=by
 cases b with
 |pad=>exact .pad
 |gone=>exact .gone _
 |cells l e=>exact .cells fun ρ m vs h=>AB.mono0 (AE.refl _ _ _ _ _) hn _ _ h
 |tok x ks e=>exact .same _ _ _
 |lp s st=>exact .lp fun ρ m v h=>h.up0 hn
 |mrow x y ks e=>exact .mrow (.inl rfl) rfl rfl (fun _ _ _ h=>h)
 |mapb x kk ka vk va=>exact .mapb (.inl rfl) rfl (fun _ _ _ h=>h) (fun _ _ _ h=>h)
theorem Vy {b:Nat}{vs:Array Value}{e:TypeId}{fr:Nat × Nat}(h:w.heap[b]? =some (.cells vs e fr)):w.setRow b vs=w:=by
 have key:∀f:Obj->Obj,f (.cells vs e fr)= .cells vs e fr->w.heap.modify b f=w.heap:=by
  intro f hf;refine Array.ext_getElem? fun i=>?_;rw[Array.getElem?_modify];split
  .rename_i hi;subst hi;rw[h];simp only[Option.map_some,hf]
  .rfl
 unfold World.setRow;rw[key _ rfl]
theorem SR {l l':Loc}{s:Sl}{e:TypeId}{ks:List Kd}(hloc:l.tmps.loc=[])(hT:T n= .list [])(hs:Qm l s=some (.cv .nilSlice))(hl:Ff { l with mem:=l.mem++[.tok n ks e] } l.mem.length n ks s=some l')(hR:Rel T n ρ l a w):
  l'.tmps.loc=[]/\l'.tmps.n=l.tmps.n/\∃ ρ',Rel T (n+1) ρ' l' a w/\AE T n ρ l.mem w ρ' l'.mem w:=by
 have ht:∀id,CN T n (n+1) w (l.mem.at id) (Mem.at (l.mem++[.tok n ks e]) id):=fun id=>by
  rw[AN];split
  .rename_i he;rw[he,Mem.at_ge (vr _)];exact .new (vr _) (Nat.lt_succ_self _) hT
  .exact CN.refl (Nat.le_succ _) _
 have hst:=EW hR.mem ht;have hmem:=LJ hR.mem (Nat.le_succ _) ht;have hR1:Rel T (n+1) (Bt l.mem ρ) ⟨l.tmps,l.mem++[.tok n ks e]⟩ a w:=Rel.on (tmps:=l.tmps) (m:=l.mem) hR hst (Nat.le_succ _) hmem;have hat:Mem.at (l.mem++[.tok n ks e]) l.mem.length= .tok n ks e:=by rw[AN,if_pos rfl]
 have hnone:Bt l.mem ρ l.mem.length=none:=GH (Mem.at_ge (vr _));have hvec:∀v,v=CV.nilSlice.value->AA T (n+1) (Bt l.mem ρ) (l.mem++[.tok n ks e]) w (.vec l.mem.length n ks) v:=fun v hv=>by
  refine⟨Nat.lt_succ_self _,by rw[hat];exact (fun h=>by cases h),?_,fun ks' e he=> .inl ⟨hnone,none,by rw[hT];exact hv⟩⟩;rw[hT];exact⟨[],rfl,wX _,fun _=>rfl,none,0,hv,vr _,fun h=>absurd h (by simp)⟩
 cases s with
 |tmp t=>
  simp only[Ff] at hl;cases hl;simp only[Qm] at hs;have hv0:AA T n ρ l.mem w (.cv .nilSlice) (a.tmps.getD t undef):=hR.tmps t _ hs;refine⟨by rw[AO.fix_loc];exact hloc,AO.fix_n _ _ _,_,⟨hR1.defers,?_,fun i c hi=>?_,hmem⟩,hst⟩
  .rw[hR1.size];exact (AO.fix_n _ _ _).symm
  .rcases AO.get_fix l.tmps hloc t i _ hi with⟨h1,h2,h3⟩|⟨h1,h2⟩
   .cases h3;subst h1;exact hvec _ hv0
   .exact hR1.tmps i c h2
 |cell i off=>
  simp only[Ff] at hl;split at hl
  .rename_i c e' hc;split at hl
   .rename_i hoff;cases hl;have hne:i≠l.mem.length:=fun h=>by rw[h,hat] at hc;cases hc
    have hc0:l.mem.at i= .cells c e':=by rw[AN,if_neg hne] at hc;exact hc
    simp only[Qm,hc0] at hs;have hb:=hmem.blk i;rw[hc] at hb;obtain⟨b,vs,h1,h2,h3⟩:=hb;obtain⟨u,hu1,hu2⟩:=h3.get hs;have hl2:AB T (n+1) (Bt l.mem ρ) (l.mem++[.tok n ks e]) w (c.set off (.vec l.mem.length n ks)) vs:=by
     have:=h3.set off (hvec u hu2);have e:vs.set off u=vs:=by
      obtain⟨hlt,hu⟩:=vu.1 hu1;rw[<-hu];exact List.set_getElem_self hlt
     rw[e] at this;exact this
    obtain⟨s1,s2⟩:=Kl hmem hc h1 h2 hl2 (vr _);rw[Vy h2] at s1 s2;refine⟨hloc,rfl,_,Rel.on hR1 s1 (vr _) s2,hst.trans hR.mem (Nat.le_succ _) s1⟩
   .cases hl
  .cases hl
 |tok=>cases hl
 |st=>cases hl
 |row=>cases hl
theorem PV:∀{ps:List (Sl × TypeId × List Kd)} {l l':Loc} {g g':G},E7 l g ps=some (l',g')->l.tmps.loc=[]->AR g g'/\(Agr T g'->∀ ρ a w,Rel T g.n ρ l a w->l'.tmps.n=l.tmps.n/\∃ ρ',Rel T g'.n ρ' l' a w/\AE T g.n ρ l.mem w ρ' l'.mem w)
 |[],l,l',g,g',h,_=>by
  simp only[E7] at h;cases h;exact⟨AR.refl _,fun _ ρ a w hR=>⟨rfl, ρ,hR,AE.refl _ _ _ _ _⟩⟩
 |(s,e,ks)::r,l,l',g,g',h,hloc=>by
  simp only[E7] at h;split at h
  .rename_i hs;split at h
   .cases h
   simp only[vn] at h;obtain⟨l1,h1,h2⟩:=h;have hloc1:l1.tmps.loc=[]:=by
    cases s with
    |tmp t=>simp only[Ff] at h1;cases h1;rw[AO.fix_loc];exact hloc
    |cell i off=>
     simp only[Ff] at h1;split at h1
     .split at h1
      .cases h1;exact hloc
      .cases h1
     .cases h1
    |tok=>cases h1
    |st=>cases h1
    |row=>cases h1
   obtain⟨gr,k⟩:=PV h2 hloc1;refine⟨(AR.push _ _).trans gr,fun hA ρ a w hR=>?_⟩;have hT:T g.n= .list []:=by
    have:=(hA.of gr).new.head;simpa [Ex.eval,oId,u0,Rf.eval] using this
   obtain⟨_,a2, ρ1,a3,a4⟩:=SR hloc hT hs h1 hR;have hn:(g.pushAll [⟨ "id",oId,[.c (.list [])]⟩]).n=g.n+1:=by rw[BQ];rfl
   obtain⟨b1, ρ2,b2,b3⟩:=k hA ρ1 a w (by rw[hn];exact a3);rw[hn] at b3;exact⟨b1.trans a2, ρ2,b2,a4.trans hR.mem (Nat.le_succ _) b3⟩
  .cases h
theorem Sa:∀{ps:List (Sl × TypeId × List Kd)} {l l':Loc} {g g':G},E7 l g ps=some (l',g')->l'.tmps.n=l.tmps.n
 |[],l,l',g,g',h=>by simp only[E7] at h;cases h;rfl
 |(s,e,ks)::r,l,l',g,g',h=>by
  simp only[E7] at h;split at h
  .split at h
   .cases h
   simp only[vn] at h;obtain⟨l1,h1,h2⟩:=h;rw[Sa h2];cases s with
   |tmp t=>simp only[Ff] at h1;cases h1;rw[AO.fix_n]
   |cell i off=>
    simp only[Ff] at h1;split at h1
    .split at h1
     .cases h1;rfl
     .cases h1
    .cases h1
   |tok=>cases h1
   |st=>cases h1
   |row=>cases h1
  .cases h
end
section
variable {P:Program}{T:Tab}{r:Option Nat}{kk:Nat}
theorem dq {c:Code}{rec:PC->Loc->G->Option (List As × G)}(hrec:∀T':Tab,T'.lp=T.lp->CP T' (fun Q a w=>c.wpIn (fen r) kk P Q a w) rec)(p:DO):
  CP T (fun Q a w=>(Code.loop c).wpIn (fen r) kk P Q a w) (YJ rec p):=by
 intro pc l g outs g' h;unfold YJ at h;split at h
 .cases h
 rename_i hloc0;have hloc:l.tmps.loc=[]:=by
  cases hx:l.tmps.loc with
  |nil=>rfl
  |cons=>rw[hx] at hloc0;exact absurd rfl hloc0
 simp only[vq,vn] at h;obtain⟨⟨l1,g1⟩,h1,h2⟩:=h;simp only at h2;obtain⟨gr1,k1⟩:=PV (T:=T) h1 hloc;obtain⟨gr2,k2⟩:=ak hrec (p.full l.mem.length) pc l1 g1 outs g' h2;refine⟨gr1.trans gr2,fun hA hp=>?_⟩;obtain⟨q1,q2,q3⟩:=k2 hA (hp.grow gr1);rw[Sa h1] at q1;refine⟨q1,q2,fun hob hpc ρ a w Q hR hO=>?_⟩;obtain⟨_, ρ1,b2,b3⟩:=k1 (hA.of gr2) ρ a w hR;exact q3 hob hpc ρ1 a w Q b2 fun o ho hpo ρ' a' w' hst hrel=>hO o ho hpo ρ' a' w' (b3.trans hR.mem gr1.n hst) hrel
theorem aM {c:Code}{rec:PC->Loc->G->Option (List As × G)}(hrec:∀T':Tab,T'.lp=T.lp->CP T' (fun Q a w=>c.wpIn (fen r) kk P Q a w) rec)(p:DO):
  CP T (fun Q a w=>(Code.loop c).wpIn (fen r) kk P Q a w) (Zo rec p):=by
 intro pc l g outs g' h;exact dq hrec _ pc l g outs g' h
end
section
variable {T:Tab}{n n':Nat}{ρ :Nat->Option Nat}{m:Mem}{w:World}{a:Act}
theorem Gg {fin:As->G->Option (AC × Mem)}:∀{outs:List As} {g g':G} {c:AC} {m':Mem},CU fin outs g=some (c,m',g')->AR g g'
 |[],g,g',c,m',h=>by simp only[CU] at h;cases h
 |[o],g,g',c,m',h=>by
  simp only[CU,vq,vn] at h;obtain⟨⟨c0,m0⟩,_,h⟩:=h;cases h;exact AR.refl _
 |o::o2::os,g,g',c,m',h=>by
  simp only[CU,vq,vn] at h;obtain⟨⟨c2,m2,g1⟩,h1,⟨c0,m0⟩,_,h⟩:=h;cases h;exact (Gg (outs:=o2::os) h1).trans (AR.push _ _)
theorem Lk {fin:As->G->Option (AC × Mem)}{I:(Nat->Option Nat)->Prop}{E:XK->Act->World->Value->World->Prop}{N:Nat}
  (hfin:∀o g c m,fin o g=some (c,m)->Agr T g->∀ ρ a w,I ρ ->Rel T g.n ρ o.l a w->∃v w' ρ',E o.k a w v w'/\AE T g.n ρ o.l.mem w ρ' m w'/\AD T g.n ρ' m w'/\AA T g.n ρ' m w' c v):
  ∀{outs:List As} {g g':G} {c:AC} {m':Mem},CU fin outs g=some (c,m',g')->Agr T g'->DN T g N outs->
  ∀o∈outs,pcv T o.pc->∀ ρ a w,I ρ ->Rel T g.n ρ o.l a w->∃v w' ρ',E o.k a w v w'/\AE T g.n ρ o.l.mem w ρ' m' w'/\AD T g'.n ρ' m' w'/\AA T g'.n ρ' m' w' c v
 |[],g,g',c,m',h=>by simp only[CU] at h;cases h
 |[o],g,g',c,m',h=>by
  simp only[CU,vq,vn] at h;obtain⟨⟨c0,m0⟩,hc,h⟩:=h;cases h;intro hA _ o' ho hp ρ a w hI hR;simp at ho;subst ho;exact hfin _ _ _ _ hc hA ρ a w hI hR
 |o::o2::os,g,g',c,m',h=>by
  simp only[CU,vq,vn] at h;obtain⟨⟨c2,m2,g1⟩,h1,⟨c0,m0⟩,hc,h⟩:=h;simp only[Option.some.injEq,Prod.mk.injEq] at h;obtain⟨e1,e2,e3⟩:=h;subst e1;subst e2;subst e3;have gr1:=Gg (outs:=o2::os) h1;intro hA hg o' ho hp ρ a w hI hR;have hA1:Agr T g1:=hA.of (AR.push _ _);have pw:=List.pairwise_cons.1 hg.apart;have hnew:=hA.new;have hlen:=BQ g1 ((BT (EB o.pc) g1.n m0 m2).2++(E2 (g1.n+(BT (EB o.pc) g1.n m0 m2).2.length) (EB o.pc) c0 c2).2);rw[wC] at hlen;cases ho with
  |head=>
   have hb:((EB o.pc).eval T).toB=true:=(Ix o.pc).2 hp;have hR1:=hR.up gr1.n;obtain⟨v,w', ρ1,q1,q2,q3,q4⟩:=hfin _ _ _ _ hc hA1 ρ a w hI hR1;obtain⟨ρ',s1,s2,s3⟩:=J1 (n:=g1.n) (b:=true) (m1:=m0) (m2:=m2) (c:=c0) (d:=c2) (v:=v) hb q3 (vr _) hnew (Nat.le_of_eq hlen.symm) q4;exact⟨v,w', ρ',q1,(q2.trans hR1.mem (vr _) s1).down gr1.n,s2,s3⟩
  |tail _ ho=>
   have hb:((EB o.pc).eval T).toB=false:=by
    cases hq:((EB o.pc).eval T).toB with
    |false=>rfl
    |true=>exact absurd ⟨(Ix o.pc).1 hq,hp⟩ (pw.1 o' ho)
   obtain⟨v,w', ρ1,q1,q2,q3,q4⟩:=Lk hfin (outs:=o2::os) h1 hA1 ⟨fun x hx=>hg.each x (vz _ hx),pw.2⟩ o' ho hp ρ a w hI hR;obtain⟨ρ',s1,s2,s3⟩:=J1 (n:=g1.n) (b:=false) (m1:=m0) (m2:=m2) (c:=c0) (d:=c2) (v:=v) hb q3 (vr _) hnew (Nat.le_of_eq hlen.symm) q4;exact⟨v,w', ρ',q1,q2.trans hR.mem gr1.n s1,s2,s3⟩
end
section
variable {P:Program}
def Tab.atBase (T:Tab)(B:Nat):Tab:={ T with base:=B }
theorem Hc (T:Tab)(B n:Nat):Bp T (T.atBase B) n:=⟨fun _ _=>rfl,rfl,rfl⟩
theorem Zi (T:Tab)(B:Nat)(e:Ex):e.eval (T.atBase B)=e.eval T:=by
 unfold Ex.eval;rw[E0 (T1:=T.atBase B) (T2:=T) e.args (fun _ _=>rfl)]
theorem Ls {T:Tab}{B:Nat}{g:G}(h:Agr T g):Agr (T.atBase B) g:=⟨fun p hp=>by rw[Zi];exact h.eqs p hp,h.lps⟩
theorem LK {T:Tab}{B:Nat}{pc:PC}:pcv (T.atBase B) pc↔pcv T pc:=by cases pc<;>exact Iff.rfl
theorem RZ {T:Tab}{B:Nat}{p:Pr}:p.holds (T.atBase B)↔p.holds T:=by
 unfold Pr.holds;rw[E0 (T1:=T.atBase B) (T2:=T) p.args (fun _ _=>rfl)]
theorem Pv {T:Tab}{B:Nat}{g:G}(h:AY T g):AY (T.atBase B) g:=fun o ho hp=>RZ.2 (h o ho (LK.1 hp))
def pend:XK->Option Code
 | .normal=>none
 | .exit id=>some (.exit id)
 | .ret=>some .ret
end
section
variable {P:Program}{T:Tab}{call:Ak}{ys:Ys}{r:Option Nat}{kk:Nat}
abbrev Pj (P:Program)(T:Tab)(r:Option Nat)(kk:Nat)(c:Code)(run:PC->Loc->G->Option (List As × G)):Prop:=CP T (fun Q a w=>c.wpIn (fen r) kk P Q a w) run
def Mr (P:Program)(r:Option Nat)(kk:Nat)(planned:Bool)(fuel:Nat)(c:Code)(Q:Exit->Act->World->Prop)(a:Act)(w:World):Prop:=
 match c,planned with
 | .loop b,false=>Code.roundsIn (fen r) kk P b Q fuel a w
 |c,_=>c.wpIn (fen r) kk P Q a w
theorem Ns {planned:Bool}{fuel:Nat}{c:Code}{Q:Exit->Act->World->Prop}{a:Act}{w:World}(h:Mr P r kk planned fuel c Q a w):c.wpIn (fen r) kk P Q a w:=by
 cases c<;>cases planned<;>first|exact h|exact wpIn_loop_rounds fuel h
theorem XF {planned:Bool}{fuel:Nat}{c:Code}{Q:Exit->Act->World->Prop}{a:Act}{w:World}(hc:∀b,c= .loop b->planned=true)(h:c.wpIn (fen r) kk P Q a w):Mr P r kk planned fuel c Q a w:=by
 cases c<;>cases planned<;>first|exact h|(have:=hc _ rfl;cases this)
theorem fw {ops:Array Oper}{pc:PC}{s s':RS}{o:Oper}(h:CO P call ys ops pc s o=some s'):s'.tmps.n=s.tmps.n:=R1 h
theorem UN {ops:Array Oper}{pc:PC}:∀{l:List Oper} {s s':RS},Cr P call ys ops pc l s=some s'->s'.tmps.n=s.tmps.n
 |[],s,s',h=>by simp only[Cr] at h;cases h;rfl
 |o::l,s,s',h=>by
  simp only[Cr,vq,vn] at h;obtain⟨s1,h1,h2⟩:=h;rw[UN h2,fw h1]
theorem DN.one {g:G}{k:XK}{pc:PC}{l:Loc}{N:Nat}(hp:Cb g pc)(hl:l.tmps.n=N):DN T g N [⟨k,pc,l⟩]/\∀o∈([⟨k,pc,l⟩]:List As),pcv T o.pc->pcv T pc:=by
 refine⟨⟨fun o ho=>?_,by simp⟩,fun o ho h=>?_⟩
 .simp at ho;subst ho;exact⟨hp,hl⟩
 .simp at ho;subst ho;exact h
theorem QH {K:(Exit->Act->World->Prop)->Act->World->Prop}(k:XK)(hK:∀Q a w,Q k.ex a w->K Q a w):CP T K (fun pc l g=>some ([⟨k,pc,l⟩],g)):=by
 intro pc l g outs g' h;cases h;refine⟨AR.refl _,fun hA hp=>?_⟩;obtain⟨h1,h2⟩:=DN.one (T:=T) (k:=k) (l:=l) hp rfl;exact⟨h1,h2,fun _ hpc ρ a w Q hR hO=>hK Q a w (hO _ (wY.2 rfl) hpc ρ a w (AE.refl _ _ _ _ _) hR)⟩
theorem Qg {k:XK}{id:Nat}(h:k≠ .exit id){Q:Exit->Act->World->Prop}{a:Act}{w:World}(hq:Q k.ex a w):Exit.inBlock id Q k.ex a w:=by
 cases k with
 |normal=>exact hq
 |ret=>exact hq
 |exit id'=>
  simp only[XK.ex,Exit.inBlock];rw[if_neg (fun e=>h (by rw[e]))];exact hq
theorem bo {id:Nat}{K:(Exit->Act->World->Prop)->Act->World->Prop}{run:PC->Loc->G->Option (List As × G)}(hr:CP T K run):
  CP T (fun Q=>K (Exit.inBlock id Q)) (fun pc l g=>do
   let (outs,g) <-run pc l g
   match GA (.exit id) outs with
   |none=>some (outs,g)
   |some (e,rest)=>if noK (.exit id) rest then some (Du none none [⟨.normal,e.pc,e.l⟩] rest g) else none):=by
 intro pc l g outs' g' h;simp only[vq,vn] at h;obtain⟨⟨outs,g1⟩,hr1,h⟩:=h;obtain⟨gr1,k1⟩:=hr pc l g outs g1 hr1;simp only at h;split at h
 .rename_i hpop;cases h;refine⟨gr1,fun hA hp=>?_⟩;obtain⟨q1,q2,q3⟩:=k1 hA hp;refine⟨q1,q2,fun ho hpc ρ a w Q hR hO=>q3 ho hpc ρ a w _ hR fun o ho hp ρ' a' w' hs hr=>?_⟩;exact Qg (Mv hpop o ho) (hO o ho hp ρ' a' w' hs hr)
 .rename_i e rest hpop;split at h
  .rename_i hno;simp only[Option.some.injEq] at h;obtain⟨hek,hperm⟩:=Hx hpop;obtain⟨gr2,k2⟩:=G0 (T:=T) (N:=l.tmps.n) h;refine⟨gr1.trans gr2,fun hA hp=>?_⟩;obtain⟨q1,q2,q3⟩:=k1 (hA.of gr2) hp;have q1':=q1.perm hperm;have he:=q1'.each e (wA ..);have pw:=List.pairwise_cons.1 q1'.apart;have hgood:DN T g1 l.tmps.n ([⟨.normal,e.pc,e.l⟩]++rest):=by
    refine⟨fun x hx=>?_,List.pairwise_cons.2 ⟨fun y hy hc=>pw.1 y hy hc,pw.2⟩⟩;cases hx with
    |head=>exact he
    |tail _ hx=>exact q1'.each x (vz _ hx)
   obtain⟨t1,t2,t3⟩:=k2 hA hgood (fun q hq=>by cases hq) (fun q hq=>by cases hq);refine⟨t1,fun x hx hpx=>?_,fun hob hpc ρ a w Q hR hO=>?_⟩
   .obtain⟨x0,h0,h1⟩:=t2 x hx hpx;cases h0 with
    |head=>exact q2 e (hperm.mem_iff.2 (wA ..)) h1
    |tail _ h0=>exact q2 x0 (hperm.mem_iff.2 (vz _ h0)) h1
   .have hO2:=t3 g.n ρ l.mem w Q gr1.n hR.mem hO;refine q3 (hob.of gr2) hpc ρ a w _ hR fun x hx hpx ρ' a' w' hs hr=>?_;have hx2:=hperm.mem_iff.1 hx;cases hx2 with
    |head=>
     rw[hek];simp only[XK.ex,Exit.inBlock,if_true];exact hO2 ⟨.normal,e.pc,e.l⟩ (wA ..) hpx ρ' a' w' hs hr
    |tail _ hx2=>exact Qg (VV hno x hx2) (hO2 x (vz _ hx2) hpx ρ' a' w' hs hr)
  .cases h
end
end
end Go.Eng
end
