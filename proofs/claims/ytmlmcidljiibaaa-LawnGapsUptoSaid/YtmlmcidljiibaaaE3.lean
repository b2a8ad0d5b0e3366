/-
  A part of the proof: the evaluator of code and its soundness.
-/
import Derived.Test.YtmlmcidljiibaaaE2
import Derived.Scope
import Derived.Deep.Slices
import Derived.OpenShut
import Derived.Below
import Derived.Carry
import Derived.ChangeSame
set_option linter.unusedVariables false
set_option linter.unusedSimpArgs false
noncomputable section
namespace Go.Eng
open Go Go.RowKit
theorem FS (o:Oper):(BF o).after=o.after:=by unfold BF;split<;>rfl
theorem G3 (o:Oper):(BF o).dst=o.dst:=by unfold BF;split<;>rfl
theorem RK (o:Oper):(BF o).guard=o.guard:=by unfold BF;split<;>rfl
theorem Jf {o:Oper}(h:Au o=false):BF o=o:=by unfold BF;rw[h];rfl
theorem Dl {o:Oper}(h:Au o=true):∃ty t x,o.op= .store ty (.tmp t) x∧((∃y,x= .tmp y)∨∃v,x= .const v)∧o.guard=none∧o.dst=none:=by
 unfold Au at h
 split at h
 ·rename_i ty t y ho
  rw[Bool.and_eq_true,Option.isNone_iff_eq_none,Option.isNone_iff_eq_none] at h
  exact⟨ty,t,_,ho,.inl ⟨y,rfl⟩,h.1,h.2⟩
 ·rename_i ty t v ho
  rw[Bool.and_eq_true,Option.isNone_iff_eq_none,Option.isNone_iff_eq_none] at h
  exact⟨ty,t,_,ho,.inr ⟨v,rfl⟩,h.1,h.2⟩
 ·cases h
theorem Ol:∀(l:List Oper) (acc:List Nat),AS (l.map BF) acc=AS l acc
 |[],_=>rfl
 |o::l,acc=>by simp only[List.map_cons,AS,FS,Ol l]
theorem V2:∀(l:List Oper) (k:Nat),Ap k (l.map BF)=Ap k l
 |[],_=>rfl
 |o::l,k=>by simp only[List.map_cons,Ap,G3,V2 l]
theorem Yk:∀(l:List Oper) (k:Nat),AM k (l.map BF)=AM k l
 |[],_=>rfl
 |o::l,k=>by
  simp only[List.map_cons,AM,Yk l]
  cases hf:Au o with
  |false=>rw[Jf hf]
  |true=>
   obtain⟨ty,t,x,ho,_,_,hd⟩:=Dl hf
   rw[G3,hd,ho]
   unfold BF
   rw[hf]
   simp
section
variable {qc md:Bool}{tg:List Tmp}{P:Program}{T:Tab}{call:Ay}{ys:Ys}{r:Option Nat}{kk:Nat}{K:Nat}{ops ops0:Array Oper}{pc:PC}
variable {S:Nat→DS}{ρ0:Nat→Option Nat}{w0:World}{A:Nat→Nat}{q:Nat}{listed:Array Bool}{ρ ρ':Nat→Option Nat}{a:Act}{w w':World}
theorem GV (h:ops0=(ops.toList.map BF).toArray)(j:Nat):ops0[j]? =(ops[j]?).map BF:=by
 subst h
 rw[←Array.getElem?_toList]
 simp
theorem TJ (h:ops0=(ops.toList.map BF).toArray)(tmps:Array Value)(j:Nat):yielded ops0 tmps j=yielded ops tmps j:=by
 unfold yielded
 rw[GV h j]
 cases ops[j]? with
 |none=>rfl
 |some o=>simp only[Option.map_some,Option.bind_some,G3]
theorem MA:∀{l:List Oper} {k:Nat} {t:Tmp} {i:Nat},BA (Ap k l) t=some i→k≤i∧∃o,l[i - k]? =some o∧o.dst=some t
 |[],k,t,i,h=>by simp[Ap,BA] at h
 |o::l,k,t,i,h=>by
  unfold Ap at h
  cases hd:o.dst with
  |none=>
   rw[hd] at h
   obtain⟨h1,o2,h2,h3⟩:=MA (l:=l) h
   exact⟨by omega,o2,by rw[show i - k=(i - (k+1))+1 by omega];simpa using h2,h3⟩
  |some d=>
   rw[hd] at h
   simp only[BA] at h
   cases hb:Nat.beq d t with
   |true=>
    rw[hb] at h
    simp only[cond_true,Option.some.injEq] at h
    subst h
    exact⟨Nat.le_refl _,o,by simp,by rw[hd,Nat.eq_of_beq_eq_true hb]⟩
   |false=>
    rw[hb] at h
    obtain⟨h1,o2,h2,h3⟩:=MA (l:=l) h
    exact⟨by omega,o2,by rw[show i - k=(i - (k+1))+1 by omega];simpa using h2,h3⟩
theorem HT:∀{l:List Oper} {k:Nat} {t:Tmp},BA (Ap k l) t=none→∀(j:Nat) (o:Oper),l[j]? =some o→o.dst≠some t
 |[],k,t,h,j,o,hj=>by simp at hj
 |o0::l,k,t,h,j,o,hj=>by
  unfold Ap at h
  cases hd:o0.dst with
  |none=>
   rw[hd] at h
   cases j with
   |zero=>simp at hj;subst hj;rw[hd];exact fun h=>by cases h
   |succ j=>exact HT h j o (by simpa using hj)
  |some d=>
   rw[hd] at h
   simp only[BA] at h
   cases hb:Nat.beq d t with
   |true=>rw[hb] at h;cases h
   |false=>
    rw[hb] at h
    cases j with
    |zero=>
     simp at hj;subst hj;rw[hd]
     intro e
     cases e
     rw[Nat.beq_refl] at hb
     cases hb
    |succ j=>exact HT h j o (by simpa using hj)
theorem Nx:∀{l:List Oper} {k:Nat} {t:Tmp} {i:Nat},BA (AM k l) t=some i→k≤i∧∃o ty,l[i - k]? =some o∧o.op= .alloc ty∧o.dst=some t
 |[],k,t,i,h=>by simp[AM,BA] at h
 |o::l,k,t,i,h=>by
  unfold AM at h
  split at h
  ·rename_i ty d ho hd
   simp only[BA] at h
   cases hb:Nat.beq d t with
   |true=>
    rw[hb] at h
    simp only[cond_true,Option.some.injEq] at h
    subst h
    exact⟨Nat.le_refl _,o,ty,by simp,ho,by rw[hd,Nat.eq_of_beq_eq_true hb]⟩
   |false=>
    rw[hb] at h
    obtain⟨h1,o2,ty2,h2,h3⟩:=Nx (l:=l) h
    exact⟨by omega,o2,ty2,by rw[show i - k=(i - (k+1))+1 by omega];simpa using h2,h3⟩
  ·obtain⟨h1,o2,ty2,h2,h3⟩:=Nx (l:=l) h
   exact⟨by omega,o2,ty2,by rw[show i - k=(i - (k+1))+1 by omega];simpa using h2,h3⟩
theorem NP {D DA:List (Tmp × Nat)}:∀{Rs:List Nat} {l:List Oper},LJ D DA Rs l=true→∀(i R:Nat) (o:Oper),Rs[i]? =some R→l[i]? =some o→Mx D DA R o=true
 |[],_,_,i,R,o,h,_=>by simp at h
 |R0::Rs,[],_,i,R,o,_,h=>by simp at h
 |R0::Rs,o0::l,h,i,R,o,h1,h2=>by
  simp only[LJ,Bool.and_eq_true] at h
  cases i with
  |zero=>simp at h1 h2;subst h1;subst h2;exact h.1
  |succ i=>exact NP h.2 i R o (by simpa using h1) (by simpa using h2)
structure FOk (qc:Bool) (K:Nat) (ops ops0:Array Oper) (S:Nat→DS) (P:Program):Prop where
 eq0:ops0=(ops.toList.map BF).toArray
 ok:∀(i R:Nat) (o:Oper),(AS ops.toList [])[i]? =some R→ops[i]? =some o→Mx (Ap 0 ops.toList) (AM 0 ops.toList) R o=true
 loud:∀(j:Nat) (o:Oper),K≤j→ops0[j]? =some o→loud qc (AM 0 ops0.toList) o≠3
 late:∀(i:Nat) (o:Oper) (t:Tmp),ops[i]? =some o→KL o=some t→K=0∨∃k,BA (AM 0 ops.toList) t=some k∧K≤k
 fresh:K=0∨∀(i:Nat) (o:Oper) (id off:Nat) (cs:List AC),ops[i]? =some o→Au o=true→CF P (S ops0.size).tmps o=some (id,off,cs)→(S 0).mem.length≤id
 fin:∀(i:Nat) (o:Oper),ops[i]? =some o→Au o=true→∃id off cs c e,CF P (S ops0.size).tmps o=some (id,off,cs)∧(S ops0.size).mem.at id= .cells c e∧Ep c=true∧off+cs.length≤c.length
 dist:∀(i j:Nat) (oi oj:Oper) (id off:Nat) (cs:List AC) (id' off':Nat) (cs':List AC),ops[i]? =some oi→ops[j]? =some oj→Au oi=true→Au oj=true→i≠j→CF P (S ops0.size).tmps oi=some (id,off,cs)→CF P (S ops0.size).tmps oj=some (id',off',cs')→id≠id'
theorem V8 {qc:Bool}{D:List (Tmp × Nat)}{o:Oper}(h:AK qc D o=3):Go.Eng.loud qc D o=3:=by unfold Go.Eng.loud;rw[h];rfl
theorem FOk.three (F:FOk qc K ops ops0 S P):∀(j:Nat) (o:Oper),K≤j→ops0[j]? =some o→AK qc (AM 0 ops0.toList) o≠3:=fun j o hj ho h=>F.loud j o hj ho (V8 h)
theorem FOk.size (F:FOk qc K ops ops0 S P):ops0.size=ops.size:=by rw[F.eq0];simp
theorem FOk.rs (F:FOk qc K ops ops0 S P):AS ops0.toList []=AS ops.toList []:=by rw[F.eq0];simp[Ol]
theorem FOk.ds (F:FOk qc K ops ops0 S P):Ap 0 ops0.toList=Ap 0 ops.toList:=by rw[F.eq0];simp[V2]
theorem FOk.as (F:FOk qc K ops ops0 S P):AM 0 ops0.toList=AM 0 ops.toList:=by rw[F.eq0];simp[Yk]
theorem FOk.parts (F:FOk qc K ops ops0 S P){i:Nat}{o:Oper}(ho:ops[i]? =some o)(hf:Au o=true){ty:TypeId}{t:Tmp}{x:Operand}(hop:o.op= .store ty (.tmp t) x):∃R,(AS ops.toList [])[i]? =some R∧
  ((BA (Ap 0 ops.toList) t=none∧K=0)∨∃k ok tk,BA (Ap 0 ops.toList) t=some k∧R.testBit k=true∧ops0[k]? =some ok∧ok.op= .alloc tk∧ok.dst=some t∧K≤k)∧
  (∀y,x= .tmp y→(BA (Ap 0 ops.toList) y=none)∨∃k ok,BA (Ap 0 ops.toList) y=some k∧R.testBit k=true∧ops0[k]? =some ok∧ok.dst=some y∧BA (AM 0 ops.toList) y=none):=by
 have hi:i < (AS ops.toList []).length:=by rw[CE];exact (Array.getElem?_eq_some_iff.1 ho).1
 refine⟨_,List.getElem?_eq_getElem hi,?_⟩
 have h:=F.ok i _ o (List.getElem?_eq_getElem hi) ho
 unfold Mx at h
 rw[hop] at h
 simp only[hf,Bool.not_true,Bool.false_or,Bool.and_eq_true,decide_eq_true_eq] at h
 obtain⟨⟨h1,h2⟩,h3⟩:=h
 have conv:∀{k:Nat} {ok:Oper},ops[k]? =some ok→Au ok=false→ops0[k]? =some ok:=fun {k ok} hk hn=>by rw[GV F.eq0,hk,Option.map_some,Jf hn]
 have nf:∀{ok:Oper} {d:Tmp},ok.dst=some d→Au ok=false:=fun {ok d} hd=>by
  cases hx:Au ok with
  |false=>rfl
  |true=>
   obtain⟨_,_,_,_,_,_,e⟩:=Dl hx
   rw[hd] at e;cases e
 have hft:KL o=some t:=by unfold KL;rw[hf,hop];rfl
 have hlate:=F.late i o t ho hft
 constructor
 ·cases hm:BA (Ap 0 ops.toList) t with
  |none=>
   rw[hm] at h2
   rcases hlate with hl|⟨k,hl,_⟩
   ·exact .inl ⟨rfl,hl⟩
   ·rw[hl] at h2;cases h2
  |some k=>
   right
   unfold PK at h1
   rw[hm] at h1 h2
   obtain⟨_,ok,tk,e1,e2,e3⟩:=Nx h2.symm
   refine⟨k,ok,tk,rfl,h1,conv (by simpa using e1) (nf e3),e2,e3,?_⟩
   rcases hlate with hl|⟨k',hl,hk'⟩
   ·omega
   ·rw[hl] at h2;cases h2;exact hk'
 ·intro y hy
  subst hy
  simp only[Bool.and_eq_true,Option.isNone_iff_eq_none] at h3
  obtain⟨h3,h4⟩:=h3
  cases hm:BA (Ap 0 ops.toList) y with
  |none=>exact .inl rfl
  |some k=>
   right
   unfold PK at h3
   rw[hm] at h3
   obtain⟨_,ok,e1,e2⟩:=MA hm
   exact⟨k,ok,rfl,h3,conv (by simpa using e1) (nf e2),e2,h4⟩
def bJ (ops:Array Oper)(listed:Array Bool)(a:Act)(w:World):Prop:=
 ∀(i:Nat) (o:Oper) (ty:TypeId) (ta:Tmp) (x:Operand),ops[i]? =some o→Au o=true→o.op= .store ty (.tmp ta) x→listed.getD i false=true→
  ∃b off vs us e,a.tmps.getD ta undef= .pointer (some ⟨b,off,none⟩)∧w.heap[b]? =some (.cells (vs:List Value).toArray e (0,0))∧(a.eval x).cells=(us:List Value).toArray∧off+us.length≤vs.length∧(vs.drop off).take us.length=us
theorem Dj {tmps:AO}{o:Oper}{id off:Nat}{cs:List AC}{ty:TypeId}{t:Tmp}{x:Operand}(ho:o.op= .store ty (.tmp t) x)(h:CF P tmps o=some (id,off,cs)):tmps.get t=some (.ptr id off)∧(Gp [] tmps x).cellsOf=some cs∧∃i,P.info? ty=some i∧cs.length=i.size:=by
 unfold CF at h
 rw[ho] at h
 simp only at h
 split at h
 ·rename_i id' off' cs' i h1 h2 h3
  split at h
  ·rename_i h4
   cases h
   exact⟨h1,h2,i,h3,h4⟩
  ·cases h
 ·cases h
theorem BI.lastT (H:BI qc md tg P T call ys ops0 pc S){k:Nat}{ok:Oper}(hk:ops0[k]? =some ok){t:Tmp}(hd:ok.dst=some t):(S ops0.size).tmps.get t=(S (k+1)).tmps.get t:=by
 have hkN:k < ops0.size:=(Array.getElem?_eq_some_iff.1 hk).1
 obtain⟨_,l2,_⟩:=H.later (k+1) (ops0.size - (k+1)) (by omega)
 rw[show k+1+(ops0.size - (k+1))=ops0.size by omega] at l2
 exact l2 t fun j o hj1 hj2 ho hd2=>by
  have:=Ca H.nodup hk ho hd hd2
  omega
theorem BI.lastT0 (H:BI qc md tg P T call ys ops0 pc S){t:Tmp}(hno:∀(j:Nat) (o:Oper),ops0[j]? =some o→o.dst≠some t):(S ops0.size).tmps.get t=(S 0).tmps.get t:=by
 obtain⟨_,l2,_⟩:=H.later 0 ops0.size (by omega)
 rw[Nat.zero_add] at l2
 exact l2 t fun j o _ _ ho=>hno j o ho
theorem A5.tgt (H:BI qc md tg P T call ys ops0 pc S)(F:FOk qc K ops ops0 S P)(I:A5 qc P T ops0 S ρ0 w0 A q listed ρ a w){i:Nat}{o:Oper}(ho:ops[i]? =some o)(hf:Au o=true){ty:TypeId}{t:Tmp}{x:Operand}(hop:o.op= .store ty (.tmp t) x)
  (hready:∀R,(AS ops.toList [])[i]? =some R→∀k,R.testBit k=true→listed.getD k false=true) {id off:Nat} {cs c:List AC} {e:TypeId} (hat:CF P (S ops0.size).tmps o=some (id,off,cs)) (hm:(S ops0.size).mem.at id= .cells c e) (hany:Ep c=true):
  ∃b,a.tmps.getD t undef= .pointer (some ⟨b,off,none⟩)∧R8 qc ρ0 w0 ops0 S A q listed ρ b∧(∃vs:List Value,w.heap[b]? =some (.cells vs.toArray e (0,0))∧vs.length=c.length)∧
   ((∃k ok,ops0[k]? =some ok∧AK qc (AM 0 ops0.toList) ok=4∧listed.getD k false=true∧q≤k∧A k=b∧ok.dst=some t)∨(ρ id=some b∧(S q).mem.at id= .cells c e)):=by
 obtain⟨g1,g2,_⟩:=Dj hop hat
 obtain⟨R,hR,p1,_⟩:=F.parts ho hf hop
 have desc:∀{n:Nat},K≤q→AB (T.wf (frO qc T ops0 listed q A)) n ρ (S q).mem w (.ptr id off) (a.tmps.getD t undef)→∃b,a.tmps.getD t undef= .pointer (some ⟨b,off,none⟩)∧R8 qc ρ0 w0 ops0 S A q listed ρ b∧(∃vs:List Value,w.heap[b]? =some (.cells vs.toArray e (0,0))∧vs.length=c.length)∧
   ((∃k ok,ops0[k]? =some ok∧AK qc (AM 0 ops0.toList) ok=4∧listed.getD k false=true∧q≤k∧A k=b∧ok.dst=some t)∨(ρ id=some b∧(S q).mem.at id= .cells c e)):=by
  rintro n hKq ⟨b,h1,h2,h3⟩
  have hq:(S q).mem.at id= .cells c e:=by rw[←hm];exact (H.atN F.three hKq I.qle (Nat.le_refl _) (BQ h3)).symm
  have hold:w0.heap.size≤b∨∃id0,((∃l0 e0,(S 0).mem.at id0= .cells l0 e0)∧ ρ0 id0=some b):=by
   by_cases hpad:(S 0).mem.at id= .pad
   ·exact .inl (I.st.fresh id b hpad (by rw[hq];rfl) h1)
   ·rcases F.fresh with hK|hfr
    ·right
     have e1:=H.atN F.three (show K≤0 by omega) (Nat.zero_le q) I.qle hpad
     rw[hq] at e1
     exact⟨id,⟨c,e,e1.symm⟩,by rw[←(I.st.rho id (by rw[←e1];rfl)).1];exact h1⟩
    ·exact absurd (Mem.at_ge (hfr i o id off cs ho hf hat)) hpad
  have hbk:=I.mem.blk id
  rw[hq] at hbk
  obtain⟨b2,vs,k1,k2,k3⟩:=hbk
  rw[h1] at k1;cases k1
  exact⟨b,h2,.inr ⟨id,c,e,hq,h1,hany,hold⟩,⟨vs,k2,k3.length⟩,.inr ⟨h1,hq⟩⟩
 rcases p1 with⟨p1,hK0⟩|⟨k,ok,tk,p1,p2,p3,p4,p5,hKk⟩
 ·have hno:∀(j:Nat) (oj:Oper),ops0[j]? =some oj→oj.dst≠some t:=fun j oj hj=>HT (by rw[F.ds];exact p1) j oj (by simpa using hj)
  rw[H.lastT0 hno] at g1
  exact desc (by omega) (I.init t _ g1 fun j oj hj hd=>absurd hd (hno j oj hj))
 ·have hlk:=hready R hR k p2
  rw[H.lastT p3 p5] at g1
  have h4:AK qc (AM 0 ops0.toList) ok=4:=by
   have hg:ok.guard=none:=by
    have h3:=F.three k ok hKk p3
    unfold AK at h3
    rw[p4] at h3
    simp only at h3
    cases hx:ok.guard with
    |none=>rfl
    |some g=>rw[hx] at h3;exact absurd rfl h3
   unfold AK
   rw[p4,hg];rfl
  rcases Nat.lt_or_ge k q with hkq|hkq
  ·exact desc (by omega) (I.facts k ok t _ hlk p3 p5 g1 fun _=>hkq)
  ·obtain⟨c1,c2,c3,t2,l2,vs2,c4,c5,c6,c7⟩:=I.pend k ok p3 h4 hlk hkq
   obtain⟨Rk,_,hs⟩:=H.step k ok p3
   obtain⟨s',cc,a1,a2,a3,_,_,_,_,a8,_⟩:=Co hs
   obtain⟨d,hd,hdn⟩:=a8 h4
   rw[p5] at hd;cases hd
   obtain⟨hg,_⟩:=Cz h4
   obtain⟨l0,b1,b2,b3,_,_⟩:=FJ hg c4 a1
   have hcc:cc= .ptr (S k).mem.length 0:=by
    rw[a3 t p5,b2,p5]
    show ((((S k).masked (Ap 0 ops0.toList) (okG (AS ops0.toList []) Rk k) Rk (Bi ops0 ok)).tmps.set t (.ptr (S k).mem.length 0)).get t).getD .any=_
    rw[AO.get_set_self ((S k).masked (Ap 0 ops0.toList) (okG (AS ops0.toList []) Rk k) Rk (Bi ops0 ok)).tmps _ hdn];rfl
   rw[a2] at g1
   simp only[p5,C5] at g1
   rw[AO.get_set_self _ _ hdn,hcc] at g1
   cases g1
   have hkN:k < ops0.size:=(Array.getElem?_eq_some_iff.1 p3).1
   have hat1:(S (k+1)).mem.at (S k).mem.length= .cells l2 t2:=by rw[c5,Ad,if_pos rfl]
   have hfin:=H.atN F.three (show K≤k+1 by omega) (show k+1≤ops0.size by omega) (Nat.le_refl _) (id:=(S k).mem.length) (by rw[hat1];exact fun h=>by cases h)
   rw[hm,hat1] at hfin
   cases hfin
   exact⟨A k,c3 t p5,.inl ⟨k,ok,c,e,p3,h4,hlk,hkq,rfl,c5,hany⟩,⟨vs2,c6,(c7 T 0 ρ (S q).mem w).length⟩,.inl ⟨k,ok,p3,h4,hlk,hkq,rfl,p5⟩⟩
theorem A5.what (H:BI qc md tg P T call ys ops0 pc S)(F:FOk qc K ops ops0 S P)(I:A5 qc P T ops0 S ρ0 w0 A q listed ρ a w){i:Nat}{o:Oper}(ho:ops[i]? =some o)(hf:Au o=true){ty:TypeId}{t:Tmp}{x:Operand}(hop:o.op= .store ty (.tmp t) x)
  (hready:∀R,(AS ops.toList [])[i]? =some R→∀k,R.testBit k=true→listed.getD k false=true) {id off:Nat} {cs:List AC} (hat:CF P (S ops0.size).tmps o=some (id,off,cs)):
  ∃us:List Value,(a.eval x).cells=us.toArray∧us.length=cs.length∧∀u∈us,u.oneCell'=true:=by
 obtain⟨g1,g2,_⟩:=Dj hop hat
 obtain⟨R,hR,_,p2⟩:=F.parts ho hf hop
 have main:∃n,AB (T.wf (frO qc T ops0 listed q A)) n ρ (S q).mem w (Gp [] (S ops0.size).tmps x) (a.eval x):=by
  obtain⟨_,_,x',e1,e2,_⟩:=Dl hf
  rw[hop] at e1
  cases e1
  rcases e2 with⟨y,rfl⟩|⟨v,rfl⟩
  ·have hev:Gp [] (S ops0.size).tmps (.tmp y)=((S ops0.size).tmps.get y).getD .any:=by
    show K4 [] (((S ops0.size).tmps.get y).getD .any)=_
    generalize ((S ops0.size).tmps.get y).getD .any=z
    cases z<;>simp[K4]
   rw[hev]
   cases hx:(S ops0.size).tmps.get y with
   |none=>exact⟨0,trivial⟩
   |some cc=>
    rcases p2 y rfl with p2|⟨k,ok,p2,p3,p4,p5,p6⟩
    ·have hno:∀(j:Nat) (oj:Oper),ops0[j]? =some oj→oj.dst≠some y:=fun j oj hj=>HT (by rw[F.ds];exact p2) j oj (by simpa using hj)
     rw[H.lastT0 hno] at hx
     exact⟨_,I.init y _ hx fun j oj hj hd=>absurd hd (hno j oj hj)⟩
    ·rw[H.lastT p4 p5] at hx
     refine⟨_,I.facts k ok y _ (hready R hR k p3) p4 p5 hx fun h4=>?_⟩
     obtain⟨_,ty2,hty⟩:=Cz h4
     exact absurd (by rw[F.as];exact p6) (Nv ops0.toList 0 k ok y ty2 (by simpa using p4) hty p5)
  ·exact⟨0,IA v⟩
 obtain⟨n,hn⟩:=main
 obtain⟨us,h1,h2,_,h4⟩:=Cd g2 hn
 exact⟨us,h1,h2.length,h4⟩
theorem FOk.stay (F:FOk qc K ops ops0 S P)(hn:Eh (ops0.toList.filterMap (·.dst))=true){i:Nat}{o:Oper}(ho:ops[i]? =some o)(hf:Au o=true){ty:TypeId}{t:Tmp}{x:Operand}(hop:o.op= .store ty (.tmp t) x)
  (hready:∀R,(AS ops.toList [])[i]? =some R→∀k,R.testBit k=true→listed.getD k false=true) {j:Nat} {oj:Oper} (hj:ops0[j]? =some oj) (hun:listed.getD j false=false) (a:Act) (v:Value):
  (a.put oj.dst v).tmps.getD t undef=a.tmps.getD t undef∧(a.put oj.dst v).eval x=a.eval x:=by
 obtain⟨R,hR,p1,p2⟩:=F.parts ho hf hop
 have key:∀y,((BA (Ap 0 ops.toList) y=none)∨∃k ok,R.testBit k=true∧ops0[k]? =some ok∧ok.dst=some y)→oj.dst≠some y:=by
  intro y hy hd
  rcases hy with h|⟨k,ok,h1,h2,h3⟩
  ·exact HT (by rw[F.ds];exact h) j oj (by simpa using hj) hd
  ·have:=Ca hn hj h2 hd h3
   subst this
   rw[hready R hR j h1] at hun;cases hun
 constructor
 ·exact Cx (key t (p1.imp (fun h=>h.1) fun⟨k,ok,tk,_,q2,q3,_,q5,_⟩=>⟨k,ok,q2,q3,q5⟩)) v
 ·obtain⟨_,_,x',e1,e2,_⟩:=Dl hf
  rw[hop] at e1
  cases e1
  rcases e2 with⟨y,rfl⟩|⟨c,rfl⟩
  ·exact Cx (key y ((p2 y rfl).imp (fun h=>h) fun⟨k,ok,_,q2,q3,q4,_⟩=>⟨k,ok,q2,q3,q4⟩)) v
  ·rfl
theorem A5.tgt3 (F:FOk qc K ops ops0 S P)(I:A5 qc P T ops0 S ρ0 w0 A q listed ρ a w){i:Nat}{o:Oper}(ho:ops[i]? =some o)(hf:Au o=true){ty:TypeId}{t:Tmp}{x:Operand}(hop:o.op= .store ty (.tmp t) x)
  (hready:∀R,(AS ops.toList [])[i]? =some R→∀k,R.testBit k=true→listed.getD k false=true) {j:Nat} {oj:Oper} (hj:ops0[j]? =some oj) (h3:loud qc (AM 0 ops0.toList) oj=3) (hun:listed.getD j false=false):
  ∃k ok,ops0[k]? =some ok∧AK qc (AM 0 ops0.toList) ok=4∧listed.getD k false=true∧j≤k∧a.tmps.getD t undef= .pointer (some ⟨A k,0,none⟩):=by
 have hjK:j < K:=by
  rcases Nat.lt_or_ge j K with h|h
  ·exact h
  ·exact absurd h3 (F.loud j oj h hj)
 have hqj:q≤j:=by
  rcases Nat.lt_or_ge j q with h|h
  ·rcases I.base j oj h hj with h1|h1
   ·rw[hun] at h1;cases h1
   ·rcases Mg h3 with h2|⟨h2,_⟩<;>omega
  ·exact h
 obtain⟨R,hR,p1,_⟩:=F.parts ho hf hop
 rcases p1 with⟨p1,hK0⟩|⟨k,ok,tk,p1,p2,p3,p4,p5,hKk⟩
 ·omega
 ·have hlk:=hready R hR k p2
  have h4:AK qc (AM 0 ops0.toList) ok=4:=by
   have hg:ok.guard=none:=by
    have h3:=F.three k ok hKk p3
    unfold AK at h3
    rw[p4] at h3
    simp only at h3
    cases hx:ok.guard with
    |none=>rfl
    |some g=>rw[hx] at h3;exact absurd rfl h3
   unfold AK
   rw[p4,hg];rfl
  exact⟨k,ok,p3,h4,hlk,by omega,(I.pend k ok p3 h4 hlk (by omega)).2.2.1 t p5⟩
theorem A5.apart (_H:BI qc md tg P T call ys ops0 pc S)(F:FOk qc K ops ops0 S P)(I:A5 qc P T ops0 S ρ0 w0 A q listed ρ a w){i j:Nat}{oi oj:Oper}(hi:ops[i]? =some oi)(hj:ops[j]? =some oj)(fi:Au oi=true)(fj:Au oj=true)(hne:i≠j)
  {id off id' off':Nat} {cs cs' c c':List AC} {e e':TypeId} {b b':Nat} {t t':Tmp} {ty ty':TypeId} {x x':Operand} (oi':oi.op= .store ty (.tmp t) x) (oj':oj.op= .store ty' (.tmp t') x') (hat:CF P (S ops0.size).tmps oi=some (id,off,cs)) (hat':CF P (S ops0.size).tmps oj=some (id',off',cs'))
  (h1:(∃k ok,ops0[k]? =some ok∧AK qc (AM 0 ops0.toList) ok=4∧listed.getD k false=true∧q≤k∧A k=b∧ok.dst=some t)∨(ρ id=some b∧(S q).mem.at id= .cells c e))
  (h2:(∃k ok,ops0[k]? =some ok∧AK qc (AM 0 ops0.toList) ok=4∧listed.getD k false=true∧q≤k∧A k=b'∧ok.dst=some t')∨(ρ id'=some b'∧(S q).mem.at id'= .cells c' e')):b≠b':=by
 have hid:=F.dist i j oi oj id off cs id' off' cs' hi hj fi fj hne hat hat'
 obtain⟨g1,_⟩:=Dj oi' hat
 obtain⟨g1',_⟩:=Dj oj' hat'
 intro hb
 subst hb
 rcases h1 with⟨k,ok,k1,k2,k3,k4,k5,k6⟩|⟨k1,k2⟩<;>rcases h2 with⟨j2,ok',m1,m2,m3,m4,m5,m6⟩|⟨m1,m2⟩
 ·have:=I.inj k j2 ok ok' k1 m1 k2 m2 k3 m3 k4 m4 (by rw[k5,m5])
  subst this
  rw[k1] at m1;cases m1
  rw[k6] at m6;cases m6
  rw[g1] at g1'
  cases g1'
  exact hid rfl
 ·exact (I.pend k ok k1 k2 k3 k4).2.1 id' (by rw[m2];rfl) (by rw[k5];exact m1)
 ·exact (I.pend j2 ok' m1 m2 m3 m4).2.1 id (by rw[k2];rfl) (by rw[m5];exact k1)
 ·exact hid (I.mem.inj id id' b (by rw[k2];rfl) (by rw[m2];rfl) k1 m1)
end
end Go.Eng
end
noncomputable section
namespace Go.Eng
open Go Go.RowKit
section
variable {qc md:Bool}{tg:List Tmp}{P:Program}{T:Tab}{call:Ay}{ys:Ys}{r:Option Nat}{kk:Nat}{K:Nat}{ops ops0:Array Oper}{pc:PC}
variable {S:Nat→DS}{ρ0:Nat→Option Nat}{w0:World}{A:Nat→Nat}{q:Nat}{listed:Array Bool}{ρ ρ':Nat→Option Nat}{a:Act}{w w':World}
theorem A5.skip (H:BI qc md tg P T call ys ops0 pc S)(hA:Agr T (S ops0.size).g)(hob:Aj T (S ops0.size).g)(hpc:pcv T pc)(hpk:BD T (S 0).g pc)(hm0:AG T (S 0).g.n ρ0 (S 0).mem w0)(I:A5 qc P T ops0 S ρ0 w0 A q listed ρ a w){i:Nat}{o:Oper}(ho:ops0[i]? =some o)
  (hun:listed.getD i false=false) (hready:∀e∈o.after,Region.binds .any e=true→listed.getD e.on false=true) (hop:o.op= .move (.const (.bool true))) (hg:o.guard=none) (hd:o.dst=none):
  ∃A' q' ρ',A5 qc P T ops0 S ρ0 w0 A' q' (listed.setIfInBounds i true) ρ' a w:=by
 have h:=I.comesw (r:=none) (kk:=0) (K:=fun a' w'=>∃A' q' ρ',A5 qc P T ops0 S ρ0 w0 A' q' (listed.setIfInBounds i true) ρ' a' w') (Q:=fun _ _ _=>False) H hA hob hpc hpk hm0 ho hun hready fun A' q' ρ' v w' h1 _ _=>⟨A',q', ρ',h1⟩
 unfold Ci at h
 rw[if_pos (by unfold Region.wanted;rw[hg])] at h
 have h2:=h.2
 rw[Oper.semAt_eq _ _ _ (by rw[hop];exact fun c h=>by cases h)] at h2
 have hrun:(execOp a.eval o).run P w= .ok (.value (.bool true)) w:=by simp[execOp,hop,Act.eval]
 rw[hrun] at h2
 rw[Oper.uponIn_value,hd] at h2
 exact h2
theorem Ux {vs us:List Value}{off:Nat}(h:off+us.length≤vs.length):((Bf vs off us).drop off).take us.length=us∧(Bf vs off us).length=vs.length:=by
 unfold Bf
 have e:(vs.take off).length=off:=by simp;omega
 constructor
 ·rw[List.append_assoc,List.drop_append,e,List.drop_of_length_le (by omega),Nat.sub_self,List.drop_zero,List.nil_append,List.take_append,Nat.sub_self,List.take_zero,List.append_nil,List.take_of_length_le (Nat.le_refl _)]
 ·simp;omega
theorem A5.floats (H:BI qc md tg P T call ys ops0 pc S)(F:FOk qc K ops ops0 S P)(hA:Agr T (S ops0.size).g)(hob:Aj T (S ops0.size).g)(hpc:pcv T pc)(hpk:BD T (S 0).g pc)(hm0:AG T (S 0).g.n ρ0 (S 0).mem w0)(I:A5 qc P T ops0 S ρ0 w0 A q listed ρ a w)(hraw:bJ ops listed a w){i:Nat}{o:Oper}(ho:ops[i]? =some o)
  (hf:Au o=true) (hun:listed.getD i false=false) (hready:∀e∈o.after,Region.binds .any e=true→listed.getD e.on false=true) {K:Act→World→Prop} {Q:Exit→Act→World→Prop}
  (hK:∀A' q' ρ' w',A5 qc P T ops0 S ρ0 w0 A' q' (listed.setIfInBounds i true) ρ' a w'→bJ ops (listed.setIfInBounds i true) a w'→K a w'):Ci P r kk ops o a w K Q:=by
 have hisz:i < listed.size:=by rw[I.size,F.size];exact (Array.getElem?_eq_some_iff.1 ho).1
 have ho0:ops0[i]? =some (BF o):=by rw[GV F.eq0,ho];rfl
 obtain⟨ty,t,x,hop,_,hg,hd⟩:=Dl hf
 have hn0:(BF o).op= .move (.const (.bool true)):=by unfold BF;rw[hf];rfl
 have hr0:∀e∈(BF o).after,Region.binds .any e=true→listed.getD e.on false=true:=by rw[FS];exact hready
 have hbits:∀{j:Nat} {oj:Oper},ops[j]? =some oj→(∀e∈oj.after,Region.binds .any e=true→listed.getD e.on false=true)→∀R,(AS ops.toList [])[j]? =some R→∀k,R.testBit k=true→listed.getD k false=true:=by
  intro j oj hoj hrj R hR
  rw[←F.rs] at hR
  exact CA I.closed hR (show ops0[j]? =some (BF oj) by rw[GV F.eq0,hoj];rfl) (by rw[FS];exact hrj)
 have hrd:=hbits ho hready
 obtain⟨id,off,cs,c,e,f1,f2,f3,f4⟩:=F.fin i o ho hf
 obtain⟨b,t1,t2,⟨vs,t3,t4⟩,t5⟩:=I.tgt H F ho hf hop hrd f1 f2 f3
 obtain⟨us,u1,u2,u3⟩:=I.what H F ho hf hop hrd f1
 obtain⟨_,_,inf,hinf,hlen⟩:=Dj hop f1
 obtain⟨A',q', ρ',I2⟩:=I.skip H hA hob hpc hpk hm0 ho0 hun hr0 hn0 (by rw[RK];exact hg) (by rw[G3];exact hd)
 have hrun:(execOp a.eval o).run P w= .ok .skip (w.setRow b (Bf vs off us).toArray):=by
  have:=Hd (P:=P) (w:=w) hinf b off e (vs:=us) (v:=a.eval x) t3 u1 (by rw[u2,hlen]) (by rw[←hlen,t4];exact f4) u3
  have ea:a.eval (.tmp t)= .pointer (some ⟨b,off,none⟩):=t1
  simp[execOp,hop,ea,Instr.storeAt,Instr.sureAddr,this]
 unfold Ci
 rw[if_pos (by unfold Region.wanted;rw[hg])]
 refine Jt (by rw[hop];exact fun c h=>by cases h) ?_
 rw[hrun,Oper.uponIn_skip,hd]
 show K a _
 have hle:off+us.length≤vs.length:=by rw[u2,t4];exact f4
 obtain⟨sp1,sp2⟩:=Ux hle
 have hpk2:=Gz.setRow w b (Bf vs off us).toArray
 have hb2:=YS (Bf vs off us).toArray t3
 have hrd2:∀{j:Nat} {oj:Oper},ops[j]? =some oj→(listed.setIfInBounds i true).getD j false=true→∀R,(AS ops.toList [])[j]? =some R→∀k,R.testBit k=true→(listed.setIfInBounds i true).getD k false=true:=by
  intro j oj hoj hlj R hR
  rw[←F.rs] at hR
  have hcl:=I2.closed j (BF oj) (by rw[GV F.eq0,hoj];rfl) hlj
  exact CA I2.closed hR (show ops0[j]? =some (BF oj) by rw[GV F.eq0,hoj];rfl) hcl
 have hli:(listed.setIfInBounds i true).getD i false=true:=by rw[Ao _ _ _ hisz,if_pos rfl]
 obtain⟨b2,s1,s2,_,s5⟩:=I2.tgt H F ho hf hop (hrd2 ho hli) f1 f2 f3
 have eb:b2=b:=by
  rw[t1] at s1
  injection s1 with s1
  injection s1 with s1
  injection s1 with s1
  exact s1.symm
 subst eb
 have I3:=I2.poke hm0 s2 hpk2 t3 hb2 sp2
 refine hK A' q' ρ' _ I3 ?_
 intro j oj ty' t' x' hoj fj hopj hlj
 by_cases hji:j=i
 ·subst hji
  rw[ho] at hoj;cases hoj
  rw[hop] at hopj;cases hopj
  exact⟨b2,off,Bf vs off us,us,e,t1,hb2,u1,by rw[sp2];exact hle,sp1⟩
 ·have hlj0:listed.getD j false=true:=by rw[Ao _ _ _ hisz,if_neg hji] at hlj;exact hlj
  obtain⟨b',off',vs',us',e',r1,r2,r3,r4,r5⟩:=hraw j oj ty' t' x' hoj fj hopj hlj0
  obtain⟨idj,offj,csj,cj,ej,j1,j2,j3,j4⟩:=F.fin j oj hoj fj
  obtain⟨bj,k1,k2,_,k5⟩:=I2.tgt H F hoj fj hopj (hrd2 hoj hlj) j1 j2 j3
  have ebj:bj=b':=by
   rw[r1] at k1
   injection k1 with k1
   injection k1 with k1
   injection k1 with k1
   exact k1.symm
  subst ebj
  have hne:=I2.apart H F hoj ho fj hf hji hopj hop j1 f1 k5 s5
  exact⟨bj,off',vs',us',e',r1,by rw[hpk2.oth bj hne];exact r2,r3,r4,r5⟩
theorem Zu (H:BI qc md tg P T call ys ops0 pc S)(F:FOk qc K ops ops0 S P)(hA:Agr T (S ops0.size).g)(hob:Aj T (S ops0.size).g)(hpc:pcv T pc)(hpk:BD T (S 0).g pc){Q:Exit→Act→World→Prop}{ρ0:Nat→Option Nat}{w0:World}(hm0:AG T (S 0).g.n ρ0 (S 0).mem w0)
  (hK:∀ ρ a w,Bn T ρ ops0 ⟨(S ops0.size).tmps,(S ops0.size).mem,(S ops0.size).g,(S ops0.size).gls.map (·.2)⟩ a w→AI T (S 0).g.n ρ0 (S 0).mem w0 ρ (S ops0.size).mem w→
   (∀(i:Nat) (o:Oper) (ty:TypeId) (ta:Tmp) (x:Operand),ops[i]? =some o→Au o=true→o.op= .store ty (.tmp ta) x→∃b off vs us e,a.tmps.getD ta undef= .pointer (some ⟨b,off,none⟩)∧w.heap[b]? =some (.cells (vs:List Value).toArray e (0,0))∧(a.eval x).cells=(us:List Value).toArray∧off+us.length≤vs.length∧(vs.drop off).take us.length=us)→Q .normal a w):
  ∀(fuel:Nat) (listed:Array Bool) (A:Nat→Nat) (ρ :Nat→Option Nat) (q:Nat) (a:Act) (w:World),A5 qc P T ops0 S ρ0 w0 A q listed ρ a w→bJ ops listed a w→CK listed=fuel→wpAnyIn (fen r) kk P .any ops Q fuel listed a w:=by
 intro fuel
 induction fuel with
 |zero=>
  intro listed A ρ q a w I hraw hu
  have hall:∀j,j < ops0.size→listed.getD j false=true:=fun j hj=>by
   cases hlj:listed.getD j false with
   |true=>rfl
   |false=>
    have:=Dm (listed:=listed) (i:=j) (by rw[I.size];exact hj) hlj
    omega
  obtain⟨ρ2,h1,h2⟩:=I.full H hall
  refine wpAnyIn_done ?_ (hK ρ2 a w h1 h2 fun i o ty ta x hi hf hop=>hraw i o ty ta x hi hf hop (hall i (by rw[F.size];exact (Array.getElem?_eq_some_iff.1 hi).1))) _
  refine List.eq_nil_iff_forall_not_mem.2 fun i hi=>?_
  obtain⟨h1,o,ho,_⟩:=mem_ready.1 hi
  have hiN:i < ops0.size:=by rw[F.size];exact (Array.getElem?_eq_some_iff.1 ho).1
  have h2:=hall i hiN
  rw[Array.getD_eq_getD_getElem?] at h1 h2
  have hlt:i < listed.size:=by rw[I.size];exact hiN
  rw[Array.getElem?_eq_getElem hlt] at h1 h2
  simp only[Option.getD_some] at h1 h2
  rw[h1] at h2;cases h2
 |succ fuel ih=>
  intro listed A ρ q a w I hraw hu
  by_cases hall:∀j,j < ops0.size→listed.getD j false=true
  ·have hc:=E0 (h:=ops0.size) (by rw[I.size];exact Nat.le_refl _) (fun j=>by
    refine⟨fun h=>?_,hall j⟩
    rcases Nat.lt_or_ge j ops0.size with h1|h1
    ·exact h1
    ·rw[Array.getD_eq_getD_getElem?,Array.getElem?_eq_none (by rw[I.size];exact h1)] at h
     cases h)
   rw[hu,I.size] at hc
   omega
  ·simp only[Classical.not_forall] at hall
   obtain⟨j,hj,hlj⟩:=hall
   have hmin:∃j,j < ops0.size∧listed.getD j false=false∧∀i,i < j→listed.getD i false=true:=by
    have key:∀n,(∃j,j < n∧j < ops0.size∧listed.getD j false=false)→∃j,j < ops0.size∧listed.getD j false=false∧∀i,i < j→listed.getD i false=true:=by
     intro n
     induction n with
     |zero=>rintro⟨j,h1,_⟩;omega
     |succ n ihn=>
      rintro⟨j,h1,h2,h3⟩
      by_cases hx:∃j,j < n∧j < ops0.size∧listed.getD j false=false
      ·exact ihn hx
      ·have hjn:j=n:=by
        rcases Nat.lt_or_ge j n with h|h
        ·exact absurd ⟨j,h,h2,h3⟩ hx
        ·omega
       subst hjn
       refine⟨j,h2,h3,fun i hi=>?_⟩
       cases hli:listed.getD i false with
       |true=>rfl
       |false=>exact absurd ⟨i,hi,by omega,hli⟩ hx
    exact key (j+1) ⟨j,Nat.lt_succ_self _,hj,by simpa using hlj⟩
   obtain⟨j0,h0,hl0,hbelow⟩:=hmin
   have toF:∀i,listed.getD i true=false→listed.getD i false=false:=fun i h=>by
    rw[Array.getD_eq_getD_getElem?] at h⊢
    cases hx:listed[i]? with
    |none=>rfl
    |some b=>rw[hx] at h;exact h
   have hr0:j0∈Region.ready .any ops listed:=by
    obtain⟨o,ho⟩:=BI.op (ops:=ops) (j:=j0) (by rw[←F.size];exact h0)
    refine mem_ready.2 ⟨?_,o,ho,fun e he hb=>hbelow e.on ?_⟩
    ·have hlt:j0 < listed.size:=by rw[I.size];exact h0
     rw[Array.getD_eq_getD_getElem?,Array.getElem?_eq_getElem hlt] at hl0⊢
     simpa using hl0
    ·exact Mq H.masks (show ops0[j0]? =some (BF o) by rw[GV F.eq0,ho];rfl) (by rw[FS];exact he) hb
   refine⟨(fun hnil=>by rw[hnil] at hr0;cases hr0),fun i hir=>?_⟩
   obtain⟨q1,o,q2,q3⟩:=mem_ready.1 hir
   have hiN:i < ops0.size:=by rw[F.size];exact (Array.getElem?_eq_some_iff.1 q2).1
   have hcnt:=Dm (listed:=listed) (i:=i) (by rw[I.size];exact hiN) (toF i q1)
   have ho0:ops0[i]? =some (BF o):=by rw[GV F.eq0,q2];rfl
   cases hf:Au o with
   |true=>
    exact FO q2 (I.floats H F hA hob hpc hpk hm0 hraw q2 hf (toF i q1) q3 fun A' q' ρ' w' I' hr'=>ih _ _ _ _ _ w' I' hr' (by omega))
   |false=>
    rw[Jf hf] at ho0
    have hg:=I.comesw (r:=r) (kk:=kk) (K:=wpAnyIn (fen r) kk P .any ops Q fuel (listed.setIfInBounds i true)) (Q:=Q) H hA hob hpc hpk hm0 ho0 (toF i q1) q3 fun A' q' ρ' v w' I' hw hw3=>ih _ _ _ _ _ w' I' (by
     intro j oj ty t x hoj fj hopj hlj
     have hji:j≠i:=fun e=>by subst e;rw[q2] at hoj;cases hoj;rw[hf] at fj;cases fj
     have hlj0:listed.getD j false=true:=by rw[Ao _ _ _ (by rw[I.size];exact hiN),if_neg hji] at hlj;exact hlj
     obtain⟨b,off,vs,us,e,r1,r2,r3,r4,r5⟩:=hraw j oj ty t x hoj fj hopj hlj0
     have hrdy:∀R,(AS ops.toList [])[j]? =some R→∀k,R.testBit k=true→listed.getD k false=true:=fun R hR=>by
      rw[←F.rs] at hR
      have hoj0:ops0[j]? =some (BF oj):=by rw[GV F.eq0,hoj];rfl
      exact CA I.closed hR hoj0 (I.closed j _ hoj0 hlj0)
     have hst:=F.stay H.nodup hoj fj hopj (listed:=listed) hrdy ho0 (toF i q1) a v
     refine⟨b,off,vs,us,e,by rw[hst.1];exact r1,?_,by rw[hst.2];exact r3,r4,r5⟩
     by_cases h3:loud qc (AM 0 ops0.toList) o=3
     ·obtain⟨k,ok,k1,k2,k3,k4,k5⟩:=I.tgt3 F hoj fj hopj hrdy ho0 h3 (toF i q1)
      have:=hw3 h3 k ok k1 k2 k3 k4
      rw[r1] at k5
      injection k5 with k5
      injection k5 with k5
      injection k5 with k5
      rw[k5,this,←k5]
      exact r2
     ·rcases hw h3 with hw|⟨obj,hw⟩
      ·rw[hw];exact r2
      ·rw[hw,Az w obj b (Array.getElem?_eq_some_iff.1 r2).1];exact r2) (by omega)
    refine FO q2 ?_
    unfold Ci at hg⊢
    rw[show yielded ops0 a.tmps=yielded ops a.tmps from funext fun j=>TJ F.eq0 _ j] at hg
    exact hg
theorem AI.recell {n:Nat}{m:Mem}{id:Nat}{c c':List AC}{e:TypeId}(h:m.at id= .cells c e):AI T n ρ m w ρ (m.set id (.cells c' e)) w:=by
 have hat:=FK m id (.cells c' e)
 have hne:m.at id≠ .pad:=by rw[h];exact fun h=>by cases h
 refine⟨rfl,rfl,rfl,Nat.le_refl _,fun k hk=>?_,fun k hk=>⟨rfl,?_⟩,fun k _ hk=>?_,fun k b hp hk _=>?_,fun _ _ _=>rfl,fun k x ks e2 hx=> .inl ⟨?_,rfl,fun _ _=>rfl⟩⟩
 ·rw[hat k hne]
  split
  ·exact fun h=>by cases h
  ·exact hk
 ·rw[hat k hne]
  split
  ·rfl
  ·exact hk
 ·rw[hat k hne] at hk
  split at hk
  ·rename_i e3;rw[e3,h];rfl
  ·exact hk
 ·rw[hat k hne] at hk
  split at hk
  ·rename_i e3;rw[e3,h] at hp;cases hp
  ·rw[hp] at hk;cases hk
 ·rw[hat k hne]
  split
  ·rename_i e3;rw[e3,h] at hx;cases hx
  ·exact hx
theorem AG.recell {n:Nat}{m:Mem}{id b:Nat}{c c':List AC}{e:TypeId}{vs:List Value}(hm:AG T n ρ m w)(h:m.at id= .cells c e)(hr: ρ id=some b)(hb:w.heap[b]? =some (.cells vs.toArray e (0,0)))(hl:AD T n ρ m w c' vs):AG T n ρ (m.set id (.cells c' e)) w:=by
 have hat:=FK m id (.cells c' e)
 have hne:m.at id≠ .pad:=by rw[h];exact fun h=>by cases h
 have st:AI T n ρ m w ρ (m.set id (.cells c' e)) w:=AI.recell h
 have htr:∀k,(Mem.at (m.set id (.cells c' e)) k).tracked=true→(m.at k).tracked=true:=fun k hk=>by
  rw[hat k hne] at hk
  split at hk
  ·rename_i e3;rw[e3,h];rfl
  ·exact hk
 refine⟨fun k=>?_,fun k k' b' h1 h2=>hm.inj k k' b' (htr k h1) (htr k' h2),hm.fr⟩
 by_cases hk:k=id
 ·rw[hat k hne,if_pos hk]
  exact⟨b,vs,by rw[hk];exact hr,hb,AD.mono0 st (Nat.le_refl _) _ _ hl⟩
 ·exact BN.step st hm (Nat.le_refl _) (by rw[hat k hne,if_neg hk]) rfl (fun _ _=>rfl)
theorem IY {tmps:AO}:∀{l:List Oper} {seen:List Nat} {m m':Mem},Fi P tmps l seen m=some m'→
  (∀(i:Nat) (o:Oper),l[i]? =some o→Au o=true→∃id off cs c e,CF P tmps o=some (id,off,cs)∧m.at id= .cells c e∧Ep c=true∧off+cs.length≤c.length∧id ∉ seen)∧
  (∀(i j:Nat) (oi oj:Oper) (id off:Nat) (cs:List AC) (id' off':Nat) (cs':List AC),l[i]? =some oi→l[j]? =some oj→Au oi=true→Au oj=true→i≠j→CF P tmps oi=some (id,off,cs)→CF P tmps oj=some (id',off',cs')→id≠id')
 |[],seen,m,m',h=>⟨fun i o hi=>by simp at hi,fun i j oi oj _ _ _ _ _ _ hi=>by simp at hi⟩
 |o::l,seen,m,m',h=>by
  unfold Fi at h
  cases hf:Au o with
  |false=>
   rw[hf] at h
   simp only[Bool.false_eq_true,if_false] at h
   obtain⟨h1,h2⟩:=IY h
   constructor
   ·intro i o2 hi f2
    cases i with
    |zero=>simp at hi;subst hi;rw[hf] at f2;cases f2
    |succ i=>exact h1 i o2 (by simpa using hi) f2
   ·intro i j oi oj id off cs id' off' cs' hi hj fi fj hne
    cases i with
    |zero=>simp at hi;subst hi;rw[hf] at fi;cases fi
    |succ i=>
     cases j with
     |zero=>simp at hj;subst hj;rw[hf] at fj;cases fj
     |succ j=>exact h2 i j oi oj id off cs id' off' cs' (by simpa using hi) (by simpa using hj) fi fj (by omega)
  |true=>
   rw[hf] at h
   simp only[if_true] at h
   split at h
   ·rename_i id off cs hat
    split at h
    ·rename_i c e hm
     split at h
     ·rename_i hc
      simp only[Bool.and_eq_true,Bool.not_eq_true',List.contains_eq_mem,decide_eq_false_iff_not] at hc
      obtain⟨⟨c1,c2⟩,c3⟩:=hc
      have c3:=Nat.le_of_ble_eq_true c3
      obtain⟨h1,h2⟩:=IY h
      have hne:m.at id≠ .pad:=by rw[hm];exact fun h=>by cases h
      have rest:∀(i:Nat) (o2:Oper),l[i]? =some o2→Au o2=true→∃id' off' cs' c' e',CF P tmps o2=some (id',off',cs')∧m.at id'= .cells c' e'∧Ep c'=true∧off'+cs'.length≤c'.length∧id' ∉ seen∧id'≠id:=by
       intro i o2 hi f2
       obtain⟨id',off',cs',c',e',q1,q2,q3,q4,q5⟩:=h1 i o2 hi f2
       have hx:id'≠id:=fun e=>q5 (by rw[e];exact List.mem_cons_self)
       rw[FK m id _ id' hne,if_neg hx] at q2
       exact⟨id',off',cs',c',e',q1,q2,q3,q4,fun h=>q5 (List.mem_cons_of_mem _ h),hx⟩
      constructor
      ·intro i o2 hi f2
       cases i with
       |zero=>simp at hi;subst hi;exact⟨id,off,cs,c,e,hat,hm,c1,c3,c2⟩
       |succ i=>
        obtain⟨id',off',cs',c',e',q1,q2,q3,q4,q5,_⟩:=rest i o2 (by simpa using hi) f2
        exact⟨id',off',cs',c',e',q1,q2,q3,q4,q5⟩
      ·intro i j oi oj a1 a2 a3 b1 b2 b3 hi hj fi fj hne2 e1 e2
       cases i with
       |zero=>
        simp at hi
        subst hi
        rw[hat] at e1
        cases e1
        cases j with
        |zero=>exact absurd rfl hne2
        |succ j=>
         obtain⟨id',off',cs',c',e',q1,_,_,_,_,q6⟩:=rest j oj (by simpa using hj) fj
         rw[q1] at e2
         cases e2
         exact fun h=>q6 h.symm
       |succ i=>
        cases j with
        |zero=>
         simp at hj
         subst hj
         rw[hat] at e2
         cases e2
         obtain⟨id',off',cs',c',e',q1,_,_,_,_,q6⟩:=rest i oi (by simpa using hi) fi
         rw[q1] at e1
         cases e1
         exact q6
        |succ j=>exact h2 i j oi oj a1 a2 a3 b1 b2 b3 (by simpa using hi) (by simpa using hj) fi fj (by omega) e1 e2
     ·cases h
    ·cases h
   ·cases h
theorem IL {tmps:AO}{n:Nat}:∀{l:List Oper} {seen:List Nat} {m m':Mem},Fi P tmps l seen m=some m'→AG T n ρ m w→(∀t c,tmps.get t=some c→AB T n ρ m w c (a.tmps.getD t undef))→
  (∀(i:Nat) (o:Oper) (ty:TypeId) (ta:Tmp) (x:Operand),l[i]? =some o→Au o=true→o.op= .store ty (.tmp ta) x→∃b off vs us e,a.tmps.getD ta undef= .pointer (some ⟨b,off,none⟩)∧w.heap[b]? =some (.cells (vs:List Value).toArray e (0,0))∧(a.eval x).cells=(us:List Value).toArray∧off+us.length≤vs.length∧(vs.drop off).take us.length=us)→
  AG T n ρ m' w∧AI T n ρ m w ρ m' w
 |[],seen,m,m',h,hm,ht,hr=>by
  cases h
  exact⟨hm,AI.refl _ _ _ _ _⟩
 |o::l,seen,m,m',h,hm,ht,hr=>by
  unfold Fi at h
  cases hf:Au o with
  |false=>
   rw[hf] at h
   simp only[Bool.false_eq_true,if_false] at h
   exact IL h hm ht fun i o2 ty ta x hi=>hr (i+1) o2 ty ta x (by simpa using hi)
  |true=>
   rw[hf] at h
   simp only[if_true] at h
   split at h
   ·rename_i id off cs hat
    split at h
    ·rename_i c e hmi
     split at h
     ·rename_i hc
      simp only[Bool.and_eq_true] at hc
      have c3:=Nat.le_of_ble_eq_true hc.2
      obtain⟨ty,t,x,hop,hx,_,_⟩:=Dl hf
      obtain⟨g1,g2,_⟩:=Dj hop hat
      obtain⟨b,off',vs,us,e',r1,r2,r3,r4,r5⟩:=hr 0 o ty t x rfl hf hop
      obtain⟨b2,k1,k2,_⟩:=ht t _ g1
      rw[r1] at k2
      injection k2 with k2
      injection k2 with k2
      injection k2 with k2 k3
      subst k2;subst k3
      obtain⟨vs2,q1,q2⟩:=BN.get hm hmi k1
      rw[r2] at q1
      injection q1 with q1
      injection q1 with q3 q4
      have q5:vs=vs2:=by simpa using congrArg Array.toList q3
      subst q5;subst q4
      have hev:AB T n ρ m w (Gp [] tmps x) (a.eval x):=by
       rcases hx with⟨y,rfl⟩|⟨v,rfl⟩
       ·show AB T n ρ m w (K4 [] ((tmps.get y).getD .any)) _
        refine Mw (fun c hc=>by cases hc) ?_
        cases hg:tmps.get y with
        |none=>exact trivial
        |some c=>exact ht y c hg
       ·exact IA v
      obtain⟨us2,z1,z2,_,_⟩:=Cd g2 hev
      rw[r3] at z1
      have z3:us=us2:=by simpa using congrArg Array.toList z1
      subst z3
      have hsp:AD T n ρ m w (c.take off'++cs++c.drop (off'+cs.length)) vs:=by
       have hh:=Ic q2 z2 off' cs.length rfl
       have e1:Bf vs off' us=vs:=by
        unfold Bf
        have h1:=List.take_append_drop off' vs
        have h2:=List.take_append_drop us.length (vs.drop off')
        rw[r5,List.drop_drop] at h2
        rw[←h2,←List.append_assoc] at h1
        exact h1
       rw[e1] at hh
       exact hh
      have hm2:=AG.recell hm hmi k1 r2 hsp
      have st:∀k,AI T k ρ m w ρ (m.set id (.cells (c.take off'++cs++c.drop (off'+cs.length)) e')) w:=fun k=>AI.recell hmi
      obtain⟨m1,m2⟩:=IL h hm2 (fun t c hc=>AB.mono0 (st n) (Nat.le_refl _) _ _ (ht t c hc)) fun i o2 ty ta x hi=>hr (i+1) o2 ty ta x (by simpa using hi)
      exact⟨m1,(st n).trans hm (Nat.le_refl _) m2⟩
     ·cases h
    ·cases h
   ·cases h
end
end Go.Eng
end
noncomputable section
namespace Go.Eng
open Go Go.RowKit
section
variable {qc md:Bool}{tg:List Tmp}{P:Program}{T:Tab}{call:Ay}{ys:Ys}{r:Option Nat}{kk:Nat}{ops ops0:Array Oper}{pc:PC}
variable {ρ :Nat→Option Nat}{a:Act}{w w':World}
def Wk (m m':Mem):Prop:=∀id,m'.at id=m.at id∨∃l l' e,m.at id= .cells l e∧m'.at id= .cells l' e
theorem Wk.symm {m m':Mem}(h:Wk m m'):Wk m' m:=fun id=>by
 rcases h id with h|⟨l,l',e,h1,h2⟩
 ·exact .inl h.symm
 ·exact .inr ⟨l',l,e,h2,h1⟩
theorem Wk.step {n:Nat}{m m':Mem}(h:Wk m m'):AI T n ρ m w ρ m' w:=by
 refine⟨rfl,rfl,rfl,Nat.le_refl _,fun id hp=>?_,fun id hp=>⟨rfl,?_⟩,fun id _ ht=>?_,fun id b hp ht _=>?_,fun _ _ _=>rfl,fun id x ks e hx=> .inl ⟨?_,rfl,fun _ _=>rfl⟩⟩<;>rcases h id with h|⟨l,l',e2,h1,h2⟩
 ·rw[h];exact hp
 ·rw[h2];exact fun h=>by cases h
 ·rw[h];exact hp
 ·rw[h2];rfl
 ·rw[h] at ht;exact ht
 ·rw[h1];rfl
 ·rw[h,hp] at ht;cases ht
 ·rw[h1] at hp;cases hp
 ·rw[h];exact hx
 ·rw[h1] at hx;cases hx
theorem Hu (tmps:AO):∀(l:List Oper) (m:Mem),Wk m (Cy tmps l m)∧∀(n:Nat),AG T n ρ m w→AG T n ρ (Cy tmps l m) w
 |[],m=>⟨fun id=> .inl rfl,fun n h=>h⟩
 |o::l,m=>by
  have one:∀id,Wk m (m.set id (Ms (m.at id)))∧∀n,AG T n ρ m w→AG T n ρ (m.set id (Ms (m.at id))) w:=by
   intro id
   cases hx:m.at id with
   |cells c e=>
    have hne:m.at id≠ .pad:=by rw[hx];exact fun h=>by cases h
    refine⟨fun k=>?_,fun n hm=>?_⟩
    ·rw[FK m id _ k hne]
     split
     ·rename_i e2;right;rw[e2];exact⟨c,_,e,hx,rfl⟩
     ·exact .inl rfl
    ·have hb:=hm.blk id
     rw[hx] at hb
     obtain⟨b,vs,h1,h2,h3⟩:=hb
     exact AG.recell hm hx h1 h2 (AD.of_get (by simp[h3.length]) fun j c' u q1 _=>by
      simp only[List.getElem?_map,Option.map_eq_some_iff] at q1
      obtain⟨_,_,rfl⟩:=q1
      trivial)
   |_=>
    have e1:m.set id (Ms (m.at id))=m:=by
     have hw:Ms (m.at id)=m.at id:=by rw[hx];rfl
     rw[hw]
     unfold Mem.at
     rcases Nat.lt_or_ge id m.length with h|h
     ·rw[List.getElem?_eq_getElem h,Option.getD_some,List.set_getElem_self]
     ·rw[List.set_eq_of_length_le h]
    rw[hx] at e1
    rw[e1]
    exact⟨fun id=> .inl rfl,fun n h=>h⟩
  have tr:∀{m1:Mem},(Wk m m1∧∀n,AG T n ρ m w→AG T n ρ m1 w)→Wk m (Cy tmps l m1)∧∀n,AG T n ρ m w→AG T n ρ (Cy tmps l m1) w:=by
   intro m1 h
   obtain⟨h1,h2⟩:=Hu tmps l m1
   refine⟨fun id=>?_,fun n hm=>h2 n (h.2 n hm)⟩
   rcases h1 id with k|⟨l1,l2,e,k1,k2⟩
   ·rw[k];exact h.1 id
   ·rcases h.1 id with k|⟨l3,l4,e',k3,k4⟩
    ·right;exact⟨l1,l2,e,by rw[←k];exact k1,k2⟩
    ·rw[k1] at k4;cases k4
     exact .inr ⟨l3,l2,e,k3,k2⟩
  unfold Cy
  split
  ·split
   ·exact tr (one _)
   ·exact Hu tmps l m
  ·exact Hu tmps l m
theorem U7 (hcall:∀T,CX P T call)(hys:CJ P T.lp ys){l:Loc}{g:G}{s':RS}(h:EP qc md tg P call ys ops pc l g=some s'):
  ∃S:Nat→DS,BI qc md tg P T call ys ops pc S∧S 0=⟨l.tmps,l.mem,g,[]⟩∧s'=⟨(S ops.size).tmps,(S ops.size).mem,(S ops.size).g,(S ops.size).gls.map (·.2)⟩:=by
 unfold EP at h
 simp only at h
 split at h
 ·rename_i hc
  rw[Bool.and_eq_true,Bool.and_eq_true,Bool.and_eq_true] at hc
  obtain⟨⟨⟨hmask,hnod⟩,hord⟩,hwide⟩:=hc
  simp only[Option.bind_eq_bind,Option.bind_eq_some_iff] at h
  obtain⟨Sh,hh,ht⟩:=h
  obtain⟨S,q1,q2,q3⟩:=IW hh
  rw[Nat.zero_add,Array.length_toList] at q2
  refine⟨S,?_,q1,?_⟩
  ·refine⟨fun j o ho=>?_,hmask,hnod,fun i o R ho hR j oj hoj hlt=>?_,fun i o R ho hR n0 n4 j oj hoj hlt h4 hb m om hom hmj=>?_,hcall,hys,by rw[q1]⟩
   ·obtain⟨R,hR,this⟩:=q3 j o (by simpa using ho)
    rw[Nat.zero_add] at this
    exact⟨R,hR,this⟩
   ·have:=N1 hord i R (AK qc (AM 0 ops.toList) o) hR (by simp[ho]) j (AK qc (AM 0 ops.toList) oj) (by simp[hoj]) (by omega)
    exact⟨this.1,this.2⟩
   ·have hcl:∀(j:Nat) (oj:Oper),ops[j]? =some oj→(ops.toList.map (AK qc (AM 0 ops.toList)))[j]? =some (AK qc (AM 0 ops.toList) oj):=fun j oj h=>by simp[h]
    have hmem:=IS (j0:=0) (j:=j) (by rw[hcl j oj hoj,h4])
    rw[Nat.zero_add] at hmem
    have hcv:=Ni hwide i R _ hR (hcl i o ho) n0 n4 j hmem (by omega) hb
    have:=Nl hcv m _ (hcl m om hom) hmj
    rw[Nat.zero_add] at this
    exact this
  ·subst q2
   injection ht with ht
   exact ht.symm
 ·cases h
theorem Sy:∀(l:List Nat) (j0 K j:Nat),l[j]? =some 3→j0+j < LA j0 l K
 |[],_,_,_,h=>by simp at h
 |k::l,j0,K,j,h=>by
  have mono:∀(l:List Nat) (j0 K:Nat),K≤j0→K≤LA j0 l K:=by
   intro l
   induction l with
   |nil=>intro j0 K _;exact Nat.le_refl _
   |cons k l ih=>
    intro j0 K h
    unfold LA
    split
    ·exact Nat.le_trans (by omega) (ih (j0+1) (j0+1) (Nat.le_refl _))
    ·exact ih (j0+1) K (by omega)
  unfold LA
  cases j with
  |zero=>
   simp at h
   subst h
   rw[if_pos (by rfl)]
   have:=mono l (j0+1) (j0+1) (Nat.le_refl _)
   omega
  |succ j=>
   have:=Sy l (j0+1) (if Nat.beq k 3 then j0+1 else K) j (by simpa using h)
   omega
theorem Xv (hm:P.follows .mixedOrders=true)(hcall:∀T,CX P T call)(hys:CJ P T.lp ys){l:Loc}{g:G}{s':RS}(h:HW qc md P call ys ops pc l g=some s'):
  AN g s'.g∧s'.tmps.n=l.tmps.n∧(Agr T s'.g→Aj T s'.g→pcv T pc→BD T g pc→∀id ρ a w Q,Rel T g.n ρ l a w→
   (∀ ρ' a' w',Bn T ρ' ops s' a' w'→AI T g.n ρ l.mem w ρ' s'.mem w'→Q .normal a' w')→(Code.region id ops true).wpIn (fen r) kk P Q a w):=by
 unfold HW at h
 simp only at h
 split at h
 ·rename_i hc
  simp only[Bool.and_eq_true] at hc
  obtain⟨⟨_,hfo⟩,hlate⟩:=hc
  simp only[Option.bind_eq_bind,Option.bind_eq_some_iff] at h
  obtain⟨s,hs,m,hfe,h⟩:=h
  split at h
  case isFalse=>cases h
  rename_i hnew
  cases h
  obtain⟨ops0,he0⟩:∃ops0,ops0=(ops.toList.map BF).toArray:=⟨_,rfl⟩
  rw[←he0] at hs
  have hl0:ops0.toList=List.map BF ops.toList:=by rw[he0]
  rw[←hl0] at hlate hnew
  obtain⟨K,hK⟩:∃K,K=LA 0 (ops0.toList.map (loud qc (AM 0 ops0.toList))) 0:=⟨_,rfl⟩
  rw[←hK] at hlate hnew
  obtain⟨S,H,q1,hs'⟩:=U7 (T:=T) hcall hys hs
  subst hs'
  have hsz:ops0.size=ops.size:=by rw[he0];simp
  obtain⟨hid1,hid2⟩:=IY hfe
  have F:FOk qc K ops ops0 S P:=by
   refine⟨he0,fun i R o hR ho=>NP hfo i R o hR (by simpa using ho),fun j o hKj ho h3=>?_,fun i o t ho ht=>?_,?_,fun i o ho hf=>?_,fun i j oi oj a1 a2 a3 b1 b2 b3 hi hj=>hid2 i j oi oj a1 a2 a3 b1 b2 b3 (by simpa using hi) (by simpa using hj)⟩
   ·have:=Sy (ops0.toList.map (loud qc (AM 0 ops0.toList))) 0 0 j (by rw[List.getElem?_map,show ops0.toList[j]? =some o by simpa using ho];simp[h3])
    omega
   ·have:=List.all_eq_true.1 hlate o (List.mem_of_getElem? (show ops.toList[i]? =some o by simpa using ho))
    unfold bS at this
    rw[ht] at this
    simp only[Bool.or_eq_true] at this
    rcases this with h|h
    ·exact .inl (Nat.eq_of_beq_eq_true h)
    ·right
     cases hm:BA (AM 0 ops.toList) t with
     |none=>rw[hm] at h;cases h
     |some k=>rw[hm] at h;exact⟨k,rfl,Nat.le_of_ble_eq_true h⟩
   ·rw[Bool.or_eq_true] at hnew
    rcases hnew with h|h
    ·exact .inl (Nat.eq_of_beq_eq_true h)
    ·right
     intro i o id off cs ho hf hat
     have:=List.all_eq_true.1 h o (List.mem_of_getElem? (show ops.toList[i]? =some o by simpa using ho))
     unfold new3 at this
     rw[hf] at this
     simp only[Bool.not_true,Bool.false_or] at this
     change (match CF P (S ops0.size).tmps o with|some (id,_,_)=>Nat.ble (Cy l.tmps ops.toList l.mem).length id|none=>false)=true at this
     rw[hat] at this
     rw[q1]
     exact Nat.le_of_ble_eq_true this
   ·obtain⟨id,off,cs,c,e,k1,k2,k3,k4,_⟩:=hid1 i o (by simpa using ho) hf
    exact⟨id,off,cs,c,e,k1,k2,k3,k4⟩
  obtain⟨l1,_,_⟩:=H.later 0 ops0.size (by omega)
  rw[Nat.zero_add] at l1
  have g0:(S 0).g=g:=by rw[q1]
  have m0:(S 0).mem=Cy l.tmps ops.toList l.mem:=by rw[q1]
  have tm0:(S 0).tmps=l.tmps:=by rw[q1]
  refine⟨?_,?_,fun hA hob hpc hpk id ρ a w Q hR hK=>?_⟩
  ·rw[←g0];exact l1.grow
  ·rw[←tm0];exact l1.len
  ·refine wpIn_region_any hm ?_
   obtain⟨wk,wm⟩:=Hu (T:=T) (ρ := ρ) (w:=w) l.tmps ops.toList l.mem
   have wst:∀n,AI T n ρ l.mem w ρ (Cy l.tmps ops.toList l.mem) w:=fun n=>wk.step
   have hst:=AI.drawn T (S 0).g.n ρ (S 0).mem w (w.drawn+1)
   have hm0:AG T (S 0).g.n ρ (S 0).mem { w with drawn:=w.drawn+1 }:=by rw[g0,m0];exact (wm g.n hR.mem).drawn _
   have hun:∀j,(Array.replicate ops.size false).getD j false=false:=fun j=>by
    rw[Array.getD_eq_getD_getElem?,Array.getElem?_replicate]
    split<;>rfl
   have hT:T.wf (frO qc T ops0 (Array.replicate ops.size false) 0 (fun _=>0))=T:=by
    have e:frO qc T ops0 (Array.replicate ops.size false) 0 (fun _=>0)=T.fr:=by
     funext b off
     apply propext
     constructor
     ·exact fun h=>h.1
     ·exact fun h=>⟨h,fun⟨i,o,ho,_,hl,_,_⟩=>by rw[hun] at hl;cases hl⟩
    rw[e];rfl
   have I0:A5 qc P T ops0 S ρ { w with drawn:=w.drawn+1 } (fun _=>0) 0 (Array.replicate ops.size false) ρ a { w with drawn:=w.drawn+1 }:=by
    refine⟨by simp[hsz],fun j o _ hj=>?_,Nat.zero_le _,fun j o hj=>by omega,fun j o _ _=>?_,(by rw[m0];exact (hR.defers.on (wst g.n)).on (AI.drawn T g.n ρ _ w (w.drawn+1))),by rw[tm0];exact hR.size,by rw[hT];exact hm0,fun t c hc _=>?_,fun i o d c hi=>?_,fun p _ hp=>?_,fun i o _ _ hl=>?_,fun i j oi oj _ _ _ _ hl=>?_,AI.refl _ _ _ _ _⟩
    ·rw[hun] at hj;cases hj
    ·rw[hun];simp
    ·rw[tm0] at hc
     have:=AB.mono0 (wst g.n) (Nat.le_refl _) _ _ (hR.tmps t c hc)
     rw[hT,g0,m0]
     exact AB.mono0 (by rw[←g0,←m0];exact hst) (Nat.le_refl _) _ _ this
    ·rw[hun] at hi;cases hi
    ·rw[hun] at hp;cases hp
    ·rw[hun] at hl;cases hl
    ·rw[hun] at hl;cases hl
   have hcount:CK (Array.replicate ops.size false)=ops.size:=by simp[CK,List.countP_replicate]
   refine Zu H F hA hob hpc (by rw[g0];exact hpk) hm0 (fun ρ2 a2 w2 hi2 hs2 hraw=>?_) ops.size _ _ ρ 0 a _ I0 (fun j oj _ _ _ _ _ _ hl=>by rw[hun] at hl;cases hl) hcount
   obtain⟨e1,e2⟩:=IL hfe hi2.rel.mem hi2.rel.tmps fun i o ty ta x hi=>hraw i o ty ta x (by simpa using hi)
   refine hK ρ2 a2 w2 ⟨⟨hi2.rel.defers.on e2,hi2.rel.size,fun t c hc=>AB.mono0 e2 (Nat.le_refl _) _ _ (hi2.rel.tmps t c hc),e1⟩,fun e he=>?_⟩ ?_
   ·have hge:=hi2.ges e he
    refine⟨hge.lt,hge.bool,?_,hge.imp,hge.ne⟩
    rw[←TJ he0]
    exact hge.iff
   ·have s1:AI T g.n ρ l.mem w ρ (S 0).mem { w with drawn:=w.drawn+1 }:=by
     rw[m0]
     exact (wst g.n).trans hR.mem (Nat.le_refl _) (AI.drawn T g.n ρ _ w (w.drawn+1))
    have s2:AI T g.n ρ l.mem w ρ2 (S ops0.size).mem w2:=s1.trans hR.mem (Nat.le_of_eq (by rw[g0])) hs2
    exact s2.trans hR.mem (by rw[←g0];exact l1.grow.n) e2
 ·cases h
end
end Go.Eng
end
noncomputable section
namespace Go.Eng
open Go Go.RowKit
section
variable {P:Program}{F:Fence}{n:Nat}{Q:Exit→Act→World→Prop}{a:Act}{w:World}
theorem D8 {b:Frame}{k:List Item}{cs:List Frame}{c:Code}:step P (lone (b.atR a (.code (.scope c)::k)) cs w)= .next (lone (b.atR a (.code c:: .inScope c::k)) cs w):=
 step_lone_go (by simp[stepG,stepG.exec,Frame.atR])
theorem RN {b:Frame}{k:List Item}{cs:List Frame}{c:Code}:step P (lone (b.atR a (.inScope c::k)) cs w)= .next (lone (b.atR a k) cs w):=
 step_lone_go (by simp[stepG,stepG.exec,Frame.atR])
theorem W6 {c:Code}(h:c.wpIn F n P (Exit.noGoto Q) a w):(Code.scope c).wpIn F n P Q a w:=by
 intro b k cs hro hb hr
 have h0:(lone (b.atR a (.code (.scope c)::k)) cs w).fenced P F:=fenced_calm hb hr rfl
 obtain⟨e,a₁,w₁,hq,harr⟩:=h b (.inScope c::k) cs hro hb hr
 cases e with
 |normal=>exact⟨.normal,a₁,w₁,hq,.head h0 D8 (StepsIn.trans harr (.one (fenced_calm hb hr rfl) RN))⟩
 |exit id=>
  have hx:exitTo id (.inScope c::k)=exitTo id k:=by simp[exitTo]
  exact⟨.exit id,a₁,w₁,hq,fun k' hk=> .head h0 D8 (harr.1 k' (by rw[hx];exact hk)),
   fun hr' hk=>let⟨k₁,h1,h2⟩:=harr.2 hr' (by rw[hx];exact hk);⟨k₁,h1,.head h0 D8 h2⟩⟩
 |goto l=>exact hq.elim
 |ret=>exact⟨_,a₁,w₁,hq,.of_steps (.one h0 D8) harr⟩
 |panic ch=>exact⟨_,a₁,w₁,hq,.of_steps (.one h0 D8) harr⟩
 |outgrown=>exact⟨_,a₁,w₁,hq,.of_steps (.one h0 D8) harr⟩
end
end Go.Eng
end
noncomputable section
namespace Go.Eng
open Go Go.RowKit
section
variable {P:Program}{call:Ay}
theorem Yh {T:Tab}(h:Option (Tmp × Int × Int))(pc:PC)(t:AO)(g:G):AN g (CW h pc t g).2∧(CW h pc t g).2.n=g.n∧(CW h pc t g).1.n=t.n∧
  (Aj T (CW h pc t g).2→pcv T pc→∀n ρ m a w,Rel T n ρ ⟨t,m⟩ a w→Rel T n ρ ⟨(CW h pc t g).1,m⟩ a w):=by
 unfold CW
 split
 ·exact⟨AN.refl _,rfl,rfl,fun _ _ _ _ _ _ _ h=>h⟩
 ·rename_i i lo hi
  split
  ·rename_i k lo0 hi0 x hx
   dsimp only
   refine⟨AN.need _ _ _,(DR _ _ _).1,AO.set_n _ _ _,fun hob hpc n ρ m a w hR=>?_⟩
   have hb:=Aj.need hob hpc _ (List.mem_singleton.2 rfl)
   refine⟨hR.defers,by rw[hR.size];exact (AO.set_n _ _ _).symm,fun j c hc=>?_,hR.mem⟩
   rcases AO.get_set _ _ _ _ hc with⟨rfl,_,rfl⟩|⟨_,h2⟩
   ·obtain⟨q0,z,q1,q2,_⟩:=hR.tmps _ _ hx
    have q3:T.get x= .int z:=q1
    simp only[Pr.holds,Dx,List.map_cons,List.map_nil,u0,Rf.eval,q3,U.toI] at hb
    exact⟨q0,z,q1,q2,hb.1,hb.2⟩
   ·exact hR.tmps j c h2
  ·dsimp only
   exact⟨AN.refl _,rfl,rfl,fun _ _ _ _ _ _ _ h=>h⟩
theorem R2 {k:XK}:∀{l:List An},noK k l=true→Fh k l=none
 |[],_=>rfl
 |o::l,h=>by
  simp only[noK,List.all_cons,Bool.and_eq_true,Bool.not_eq_true',decide_eq_false_iff_not] at h
  unfold Fh
  rw[if_neg h.1,R2 (l:=l) h.2]
  rfl
theorem Ho (hm:P.follows .mixedOrders=true)(hcall:∀T,CX P T call)(hint:Gf):∀(fuel:Nat) (inR:Bool) (ys:Ys) (T:Tab) (r:Option Nat) (kk blk:Nat) (c:Code),(inR=false→r=none)→CJ P T.lp ys→
  B7 T (MD P r kk (hint.plan blk).isSome fuel c) (Br P call hint inR ys fuel blk c)
 |0,_,_,_,_,_,_,_,_,_=>fun pc l g outs g' h=>by simp only[Br] at h;cases h
 |fuel+1,inR,ys,T,r,kk,blk,c,hr,hys=>by
  have ih0:∀(T':Tab),T'.lp=T.lp→∀blk c,Od P T' r kk c (Br P call hint inR ys fuel blk c):=fun T' hT' blk c=>(Ho hm hcall hint fuel inR ys T' r kk blk c hr (by rw[hT'];exact hys)).mono fun Q a w h=>M4 h
  have ih:∀blk c,Od P T r kk c (Br P call hint inR ys fuel blk c):=fun blk c=>ih0 T rfl blk c
  have plain:∀{c:Code} {run:PC→Loc→G→Option (List An × G)},(∀b,c≠ .loop b)→Od P T r kk c run→B7 T (MD P r kk (hint.plan blk).isSome (fuel+1) c) run:=fun hc h=>h.mono fun Q a w hh=>Vi (fun b e=>absurd e (hc b)) hh
  cases c with
  |skip=>exact plain (fun _ h=>by cases h) (PG .normal fun Q a w h=>wpIn_skip h)
  |label l=>exact plain (fun _ h=>by cases h) (PG .normal fun Q a w h=>wpIn_label h)
  |exit id=>exact plain (fun _ h=>by cases h) (PG (.exit id) fun Q a w h=>wpIn_exit h)
  |ret=>exact plain (fun _ h=>by cases h) (PG .ret fun Q a w h=>wpIn_ret h)
  |seq x y=>exact plain (fun _ h=>by cases h) ((Ne (ih blk x) (ih blk y)).mono fun Q a w h=>wpIn_seq h)
  |loop b=>
   cases hp:hint.plan blk with
   |some p=>
    have h2:B7 T (MD P r kk false fuel (.loop b)) (fun _ _ _=>none):=fun pc l g outs g' h=>by cases h
    have h3:=(Ne (ih blk b) h2).mono (K2:=MD P r kk false (fuel+1) (.loop b)) fun Q a w h=>h
    have h4:=h3.mono (K2:=MD P r kk true (fuel+1) (.loop b)) fun Q a w h=>Vi (fun _ _=>rfl) (M4 h)
    intro pc l g outs g' h
    simp only[Br,hp] at h
    split at h
    ·rename_i r1 ho
     cases h
     unfold bM at ho
     split at ho
     ·rename_i outs1 g1 hb
      split at ho
      ·rename_i hn
       cases ho
       refine h4 pc l g outs g' ?_
       simp only[hb,Option.bind_eq_bind,Option.bind_some]
       unfold OZ
       rw[R2 hn]
      ·cases ho
     ·cases ho
    ·exact Xf (r:=r) (kk:=kk) (c:=b) (fun T' hT'=>ih0 T' hT' blk b) p pc l g outs g' h
   |none=>
    have h2:=Ho hm hcall hint fuel inR ys T r kk blk (.loop b) hr hys
    rw[hp] at h2
    have:=(Ne (ih blk b) h2).mono (K2:=MD P r kk false (fuel+1) (.loop b)) fun Q a w h=>h
    intro pc l g outs g' h
    simp only[Br,hp] at h
    exact this pc l g outs g' h
  |block id b=>
   refine plain (fun _ h=>by cases h) ?_
   have:=(YX (id:=id) (ih id b)).mono (K2:=fun Q a w=>(Code.block id b).wpIn (fen r) kk P Q a w) fun Q a w h=>wpIn_block h
   intro pc l g outs g' h
   simp only[Br] at h
   exact this pc l g outs g' h
  |scope b=>
   refine plain (fun _ h=>by cases h) ?_
   intro pc l g outs g' h
   simp only[Br] at h
   obtain⟨g1,g2⟩:=ih blk b pc l g outs g' h
   refine⟨g1,fun hA hp=>?_⟩
   obtain⟨h3,h4,h5⟩:=g2 hA hp
   refine⟨h3,h4,fun ho hpc ρ a w Q hR hO=>W6 (h5 ho hpc ρ a w _ hR fun o hm h1 ρ' a' w' h2 h6=>?_)⟩
   have:=hO o hm h1 ρ' a' w' h2 h6
   cases hk:o.k<;>(rw[hk] at this;exact this)
  |region id ops draw=>
   refine plain (fun _ h=>by cases h) ?_
   intro pc l g outs g' h
   simp only[Br,Option.bind_eq_bind,Option.bind_eq_some_iff] at h
   obtain⟨s,hs,h⟩:=h
   cases h
   unfold V1 at hs
   have fin:AN g s.g→s.tmps.n=l.tmps.n→(Agr T s.g→Aj T s.g→pcv T pc→BD T g pc→∀ ρ a w Q,Rel T g.n ρ l a w→
     (∀ ρ' a' w',Bn T ρ' ops s a' w'→AI T g.n ρ l.mem w ρ' s.mem w'→Q .normal a' w')→(Code.region id ops draw).wpIn (fen r) kk P Q a w)→
     AN g (CW (hint.nar id) pc s.tmps s.g).2∧(Agr T (CW (hint.nar id) pc s.tmps s.g).2→By g pc→Cm T (CW (hint.nar id) pc s.tmps s.g).2 l.tmps.n [⟨.normal,pc,⟨(CW (hint.nar id) pc s.tmps s.g).1.commit hint.keep,s.mem⟩⟩]∧(∀o∈([⟨.normal,pc,⟨(CW (hint.nar id) pc s.tmps s.g).1.commit hint.keep,s.mem⟩⟩]:List An),pcv T o.pc→pcv T pc)∧
      (Aj T (CW (hint.nar id) pc s.tmps s.g).2→pcv T pc→∀ ρ a w Q,Rel T g.n ρ l a w→QC T g.n ρ l.mem w (CW (hint.nar id) pc s.tmps s.g).2.n [⟨.normal,pc,⟨(CW (hint.nar id) pc s.tmps s.g).1.commit hint.keep,s.mem⟩⟩] Q→(Code.region id ops draw).wpIn (fen r) kk P Q a w)):=by
    intro gr hlen k
    obtain⟨n1,n2,n3,n4⟩:=Yh (T:=T) (hint.nar id) pc s.tmps s.g
    refine⟨gr.trans n1,fun hA hp=>?_⟩
    obtain⟨h1,h2⟩:=Cm.one (T:=T) (k:= .normal) (l:=⟨(CW (hint.nar id) pc s.tmps s.g).1.commit hint.keep,s.mem⟩) (N:=l.tmps.n) (hp.grow (gr.trans n1)) (by rw[AO.commit_n];exact n3.trans hlen)
    refine⟨h1,h2,fun hob hpc ρ a w Q hR hO=>?_⟩
    refine k (hA.of n1) (hob.of n1) hpc (hp.ok hpc) ρ a w Q hR fun ρ' a' w' hi hst=>hO _ (List.mem_singleton.2 rfl) hpc ρ' a' w' hst (Rel.less (l:=⟨(CW (hint.nar id) pc s.tmps s.g).1,s.mem⟩) (n4 hob hpc _ _ _ _ _ ?_) (AO.commit_n _ _) fun i c hc=>AO.get_commit _ _ _ hc)
    rw[n2];exact hi.rel
   cases draw with
   |true=>
    rw[if_pos rfl] at hs
    have hs':Ra P call ys ops pc l g=some s∨(∃qc md,EP qc md [] P call ys ops pc l g=some s)∨∃qc md,HW qc md P call ys ops pc l g=some s:=by
     split at hs
     ·rename_i s1 h1;injection hs with hs;subst hs;exact .inl h1
     ·right
      have key:∀ns:List Nat,Oh P call ys ops pc l g ns=some s→(∃qc md,EP qc md [] P call ys ops pc l g=some s)∨∃qc md,HW qc md P call ys ops pc l g=some s:=by
       intro ns
       induction ns with
       |nil=>intro h;cases h
       |cons n ns ih=>
        intro h
        unfold Oh at h
        split at h
        ·rename_i s1 h1
         injection h with h
         subst h
         split at h1<;>first|exact .inl ⟨_,_,h1⟩|exact .inr ⟨_,_,h1⟩
        ·exact ih h
      exact key _ hs
    have hk:AN g s.g∧s.tmps.n=l.tmps.n∧(Agr T s.g→Aj T s.g→pcv T pc→BD T g pc→∀id ρ a w Q,Rel T g.n ρ l a w→
      (∀ ρ' a' w',Bn T ρ' ops s a' w'→AI T g.n ρ l.mem w ρ' s.mem w'→Q .normal a' w')→(Code.region id ops true).wpIn (fen r) kk P Q a w):=by
     rcases hs' with hs|⟨qc,md,hs⟩|⟨qc,md,hs⟩
     ·exact aR (T:=T) (r:=r) (kk:=kk) hm (hcall T) hys hs
     ·exact ZJ (T:=T) (r:=r) (kk:=kk) hm hcall hys hs
     ·exact Xv (T:=T) (r:=r) (kk:=kk) hm hcall hys hs
    obtain⟨gr,hlen,k⟩:=hk
    exact fin gr hlen fun hA hob hpc hpk ρ a w Q hR hK=>k hA hob hpc hpk id ρ a w Q hR hK
   |false=>
    rw[if_neg (by simp)] at hs
    obtain⟨gr,k⟩:=I6 (T:=T) (r:=r) (kk:=kk) (hcall T) hys hs
    refine fin gr (Th hs) fun hA hob hpc hpk ρ a w Q hR hK=>?_
    refine wpIn_region ?_
    rw[List.range_eq_range',←Array.length_toList]
    exact k hA hob hpc hpk 0 ρ a w Q (fun j=>by simp) ⟨hR,fun e he=>by cases he⟩ fun ρ' a' w' hi hst=>hK ρ' a' w' hi hst
  |cond c x y=>
   refine plain (fun _ h=>by cases h) ?_
   intro pc l g outs g' h
   simp only[Br] at h
   have hev:∀{ρ a w},Rel T g.n ρ l a w→AB T g.n ρ l.mem w (Gp [] l.tmps c) (a.eval c):=fun hR=>Fj hR (fun c hc=>by cases hc) c
   have two:∀{e:Nat} {x y:Code} {pol:Bool},OV (Br P call hint inR ys fuel blk) e x y pc l g=some (outs,g')→
     (∀ ρ a w,Rel T g.n ρ l a w→∃t,T e= .bool t∧a.eval c= .bool (t==pol))→∀(X Y:Code),(pol=true→X=x∧Y=y)→(pol=false→X=y∧Y=x)→
     AN g g'∧(Agr T g'→By g pc→Cm T g' l.tmps.n outs∧(∀o∈outs,pcv T o.pc→pcv T pc)∧(Aj T g'→pcv T pc→∀ ρ a w Q,Rel T g.n ρ l a w→QC T g.n ρ l.mem w g'.n outs Q→(Code.cond c X Y).wpIn (fen r) kk P Q a w)):=by
    intro e x y pol h hval X Y h1 h2
    obtain⟨gr,k⟩:=Ze (ih blk x) (ih blk y) pc l g outs g' h
    refine⟨gr,fun hA hp=>?_⟩
    obtain⟨q1,q2,q3⟩:=k hA hp
    refine⟨q1,q2,fun hob hpc ρ a w Q hR hO=>?_⟩
    obtain⟨t,e1,e2⟩:=hval ρ a w hR
    obtain⟨k1,k2⟩:=q3 hob hpc ρ a w Q hR hO
    rw[e1] at k1 k2
    refine wpIn_cond e2 ?_
    cases pol with
    |true=>
     obtain⟨rfl,rfl⟩:=h1 rfl
     cases t with
     |true=>exact k1 rfl
     |false=>exact k2 rfl
    |false=>
     obtain⟨rfl,rfl⟩:=h2 rfl
     cases t with
     |true=>exact k1 rfl
     |false=>exact k2 rfl
   split at h
   ·rename_i t ht
    obtain⟨gr,k⟩:=ih blk _ pc l g outs g' h
    refine⟨gr,fun hA hp=>?_⟩
    obtain⟨q1,q2,q3⟩:=k hA hp
    refine⟨q1,q2,fun hob hpc ρ a w Q hR hO=>?_⟩
    have:=hev hR
    rw[ht] at this
    exact wpIn_cond (t:=t) this (by cases t<;>exact q3 hob hpc ρ a w Q hR hO)
   ·rename_i e ht
    refine two (pol:=true) h (fun ρ a w hR=>?_) x y (fun _=>⟨rfl,rfl⟩) (fun h=>by cases h)
    have:=hev hR
    rw[ht] at this
    obtain⟨_,t,h1,h2⟩:=this
    exact⟨t,h1,by rw[h2];cases t<;>rfl⟩
   ·rename_i e ht
    refine two (pol:=false) h (fun ρ a w hR=>?_) x y (fun h=>by cases h) (fun _=>⟨rfl,rfl⟩)
    have:=hev hR
    rw[ht] at this
    obtain⟨_,t,h1,h2⟩:=this
    exact⟨t,h1,by rw[h2];cases t<;>rfl⟩
   ·cases h
  |rangeFunc f ps assign body=>
   refine plain (fun _ h=>by cases h) ?_
   intro pc l g outs g' h
   simp only[Br] at h
   cases inR with
   |true=>simp at h
   |false=>
    have hr0:=hr rfl
    subst hr0
    simp only[Bool.false_eq_true,if_false] at h
    exact Yy (kk:=kk) hcall hys (rec:=Br P call hint true ys fuel blk) (fun T' hT' b kk c=>(Ho hm hcall hint fuel true ys T' (some b) kk blk c (fun h=>by cases h) hT').mono fun Q a w h=>M4 h) f ps assign body pc l g outs g' h
  |_=>intro pc l g outs g' h;simp only[Br] at h;cases h
theorem Rw (hm:P.follows .mixedOrders=true)(hcall:∀T,CX P T call)(hint:Gf)(fuel:Nat)(ys:Ys)(T:Tab)(kk:Nat)(c:Code)(hys:CJ P T.lp ys):Od P T none kk c (Br P call hint false ys fuel 0 c):=
 (Ho hm hcall hint fuel false ys T none kk 0 c (fun _=>rfl) hys).mono fun _ _ _ h=>M4 h
end
end Go.Eng
end
noncomputable section
namespace Go.Eng
open Go Go.RowKit
section
variable {P:Program}{T:Tab}{g:G}{n:Nat}{ρ :Nat→Option Nat}{w:World}{a:Act}
theorem LW {α β:Type}(f:α→Sem β)(r:α→β)(w:World):∀(l:List α),(∀x∈l,(f x).run P w= .ok (r x) w)→(l.mapM f).run P w= .ok (l.map r) w
 |[],_=>by simp
 |x::l,h=>by
  have h1:=h x (List.mem_cons_self ..)
  have h2:=LW f r w l (fun y hy=>h y (List.mem_cons_of_mem _ hy))
  simp[List.mapM_cons,h1,h2]
theorem Zb {t:TypeId}{v u:Value}(h:(Instr.loadAt t v).run P w= .ok u w):(do loadVar t (←asAddr v):Sem Value).run P w= .ok u w:=by
 unfold Instr.loadAt at h
 cases v with
 |pointer p=>
  cases p with
  |some q=>simpa [Instr.sureAddr,asAddr] using h
  |none=>simp[Instr.sureAddr] at h
 |_=>simp[Instr.sureAddr] at h
def KN (tmps:Array Value):ResultVar→Sem Value
 | .tmp t=>pure (tmps.getD t undef)
 | .cell a t=>do loadVar t (←asAddr (tmps.getD a undef))
theorem XH {l:Loc}(hA:Agr T g)(hR:Rel T g.n ρ l a w){x:ResultVar}{c:AC}{us:List Ex}(h:H7 P l g x=some (c,us)):
  ∃v,(KN a.tmps x).run P w= .ok v w∧AB T g.n ρ l.mem w c v:=by
 cases x with
 |tmp t=>
  simp only[H7,Option.some.injEq,Prod.mk.injEq] at h
  obtain⟨rfl,rfl⟩:=h
  exact⟨_,rfl,hR.at t⟩
 |cell p t=>
  simp only[H7,Option.bind_eq_some_iff] at h
  obtain⟨r,hr,h⟩:=h
  split at h
  ·rename_i hps hus
   cases h
   obtain⟨u,h1,h2,h3⟩:=K0 hr (by rw[hus];exact New.nil _ _) hR.mem (hR.at p)
   rw[hus] at h3
   exact⟨u,Zb h1,h3⟩
  ·cases h
theorem US {l:Loc}{fn:Func}(hA:Agr T g)(hR:Rel T g.n ρ l a w){c:AC}(h:N7 P fn l g=some c):∃v,(results fn a.tmps).run P w= .ok v w∧AB T g.n ρ l.mem w c v:=by
 unfold N7 at h
 simp only[Option.bind_eq_bind,Option.bind_eq_some_iff] at h
 obtain⟨rs,hrs,h⟩:=h
 obtain⟨hlen,hget⟩:=Du _ _ _ hrs
 have each:∀x∈fn.results.toList,∃v,(KN a.tmps x).run P w= .ok v w∧∀c us,H7 P l g x=some (c,us)→AB T g.n ρ l.mem w c v:=by
  intro x hx
  obtain⟨i,hi⟩:=List.mem_iff_getElem?.1 hx
  have h1:=hget i x hi
  have:i < rs.length:=by rw[hlen];exact (List.getElem?_eq_some_iff.1 hi).1
  rw[List.getElem?_eq_getElem this] at h1
  obtain⟨v,h2,h3⟩:=XH (c:=rs[i].1) (us:=rs[i].2) hA hR h1.symm
  refine⟨v,h2,fun c us hc=>?_⟩
  have e2:rs[i]=(c,us):=by
   have:=h1.trans hc
   injection this
  rw[e2] at h3
  exact h3
 have pick:∃f:ResultVar→Value,∀x∈fn.results.toList,(KN a.tmps x).run P w= .ok (f x) w∧∀c us,H7 P l g x=some (c,us)→AB T g.n ρ l.mem w c (f x):=by
  classical
  refine⟨fun x=>if hx:x∈fn.results.toList then (each x hx).choose else undef,fun x hx=>?_⟩
  simp only[hx,dif_pos]
  exact (each x hx).choose_spec
 obtain⟨f,hf⟩:=pick
 have hrun:=LW (P:=P) (KN a.tmps) f w fn.results.toList (fun x hx=>(hf x hx).1)
 have hval:AD T g.n ρ l.mem w (rs.map (·.1)) (fn.results.toList.map f):=by
  refine AD.of_get (by simp[hlen]) fun i c u hc hu=>?_
  simp only[List.getElem?_map,Option.map_eq_some_iff] at hc hu
  obtain⟨⟨c',us⟩,hc1,rfl⟩:=hc
  obtain⟨x,hx1,rfl⟩:=hu
  have h1:=hget i x hx1
  rw[hc1] at h1
  exact (hf x (List.mem_iff_getElem?.2 ⟨i,hx1⟩)).2 c' us h1.symm
 have hres:(results fn a.tmps).run P w= .ok (if h:(fn.results.toList.map f).toArray.size=1 then (fn.results.toList.map f).toArray[0] else .tuple (fn.results.toList.map f).toArray) w:=by
  have e:(fn.results.mapM (KN a.tmps)).run P w= .ok (fn.results.toList.map f).toArray w:=by
   rw[Array.mapM_eq_mapM_toList]
   simp[hrun]
  have h0:results fn a.tmps=(do let vs←fn.results.mapM (KN a.tmps);pure (if h:vs.size=1 then vs[0] else .tuple vs)):=rfl
  rw[h0,Sem.run_bind]
  rw[e]
  simp
 refine⟨_,hres,?_⟩
 split at h
 ·rename_i c0 us0
  cases h
  obtain⟨u,us,e1,e2,e3⟩:=hval
  rw[show us=[] from e3] at e1
  simp only[e1]
  exact e2
 ·rename_i hne
  cases h
  have hsz:(fn.results.toList.map f).toArray.size≠1:=by
   have:=hval.length
   simp at this⊢
   intro h1
   rw[h1] at this
   cases rs with
   |nil=>simp at this
   |cons r rs=>
    cases rs with
    |nil=>exact hne _ _ rfl
    |cons=>simp at this
  rw[dif_neg hsz]
  exact⟨_,rfl,hval⟩
theorem Yg {D:Nat}{o:Obj}{ds:Option (List Deferred)}(h:w.heap[D]? =some (.deferred ds))(ho:∀vs e fr,o≠ .cells vs e fr){b off:Nat}{v:Value}(hc:w.cell? ⟨b,off,none⟩=some v):(w.putObj D o).cell? ⟨b,off,none⟩=some v:=by
 have hne:b≠D:=fun e=>by
  subst e
  simp[World.cell?,h] at hc
 rw[←hc]
 exact Be (World.putObj_heap_other hne) off
mutual
theorem AP.put {D:Nat}{o:Obj}{ds:Option (List Deferred)}(h:w.heap[D]? =some (.deferred ds))(ho:∀vs e fr,o≠ .cells vs e fr){ok ok':Nat→Nat→Prop}(hok:∀b off,ok b off→ok' b off):∀(k:Kd) (u:U) (v:Value),AP ok w k u v→AP ok' (w.putObj D o) k u v
 | .int _ _ _,_,_,hh=>hh
 | .bool,_,_,hh=>hh
 | .str,_,_,hh=>hh
 | .val,_,_,hh=>hh
 | .any,_,_,hh=>hh
 | .list ks,u,v,⟨l,h0,h1,h2,a,cap,h3,h4,h5⟩=>by
  refine⟨l,h0,h1,h2,a,cap,h3,h4,fun hl=>?_⟩
  obtain⟨b,o',hb,hc⟩:=h5 hl
  exact⟨b,o',hb,fun i us hi=>AU.put h ho hok ks b _ us (hc i us hi)⟩
theorem AU.put {D:Nat}{o:Obj}{ds:Option (List Deferred)}(h:w.heap[D]? =some (.deferred ds))(ho:∀vs e fr,o≠ .cells vs e fr){ok ok':Nat→Nat→Prop}(hok:∀b off,ok b off→ok' b off):∀(ks:List Kd) (b off:Nat) (us:List U),AU ok w ks b off us→AU ok' (w.putObj D o) ks b off us
 |[],_,_,_,hh=>hh
 |k::ks,b,off,us,⟨u,us',e,⟨h1,v,h2,h3⟩,h4⟩=>
  ⟨u,us',e,⟨hok b off h1,v,Yg h ho h2,AP.put h ho hok k u v h3⟩,AU.put h ho hok ks b _ us' h4⟩
end
section
variable {m:Mem}{D:Nat}{ds:Option (List Deferred)}{o:Obj}
theorem AZ.put {b off:Nat}(h:AZ T ρ m w b off):AZ T ρ m (w.putObj D o) b off:=⟨by rw[World.putObj_size];exact h.1,h.2.1,h.2.2⟩
mutual
theorem AB.put (h:w.heap[D]? =some (.deferred ds))(ho:∀vs e fr,o≠ .cells vs e fr):∀(c:AC) (v:Value),AB T n ρ m w c v→AB T n ρ m (w.putObj D o) c v
 | .any,_,_=>trivial
 | .anyc,_,hh=>hh
 | .on _ a,v,hh=>⟨hh.1,fun hc=>AB.put h ho a v (hh.2 hc)⟩
 | .gd _ a,v,hh=>⟨hh.1,fun hc=>AB.put h ho a v (hh.2.1 hc),hh.2.2⟩
 | .cb _,_,hh=>hh
 | .b _,_,hh=>hh
 | .nb _,_,hh=>hh
 | .ci _ _,_,hh=>hh
 | .i _ _ _ _,_,hh=>hh
 | .cv _,_,hh=>hh
 | .v _,_,hh=>hh
 | .s _,_,hh=>hh
 | .ptr _ _,_,hh=>hh
 | .pix _ _ _ _ _ _,_,hh=>hh
 | .ro x ks,v,⟨h0,h1⟩=>⟨h0,AP.put h ho (fun _ _ hs=>AZ.put hs) _ _ _ h1⟩
 | .rp x t off ks,v,⟨h0,j,b,o',us,h1,h2,h3,h4,h5⟩=>⟨h0,j,b,o',us,h1,h2,h3,h4,AU.put h ho (fun _ _ hs=>AZ.put hs) _ _ _ _ h5⟩
 | .vec id x ks,v,⟨h0,h1,h2,h3⟩=>⟨h0,h1,AP.put h ho (fun _ _ hs=>AZ.put hs) _ _ _ h2,fun ks' e he=>by
   rcases h3 ks' e he with⟨l1,l2⟩|⟨b,cap,vs,l1,l2,l3,l4⟩
   ·exact .inl ⟨l1,l2⟩
   ·have hne:b≠D:=fun e=>by subst e;rw[h] at l3;cases l3
    exact .inr ⟨b,cap,vs,l1,l2,by rw[World.putObj_heap_other hne];exact l3,l4⟩⟩
 | .fn f first cap,v,⟨vs,us,h1,h2,h3⟩=>⟨vs,us,h1,AD.put h ho first vs h2,AD.put h ho cap us h3⟩
 | .sel x alts,v,⟨h0,j,h1,h2,h3⟩=>⟨h0,j,h1,h2,Aa.put h ho alts j.toNat v h3⟩
 | .yl _,_,hh=>hh
 | .asl _ _ _,_,hh=>hh
 | .rsv id x ks,v,⟨h0,h1,h2,h4,h3⟩=>⟨h0,h1,h2,h4,fun ks' e he=>by
   rcases h3 ks' e he with⟨l1,l2⟩|⟨b,len,cap,vs,l1,l2,l0,l3,l4⟩
   ·exact .inl ⟨l1,l2⟩
   ·have hne:b≠D:=fun e=>by subst e;rw[h] at l3;cases l3
    exact .inr ⟨b,len,cap,vs,l1,l2,l0,by rw[World.putObj_heap_other hne];exact l3,l4⟩⟩
 | .agg l,v,⟨vs,h1,h2⟩=>⟨vs,h1,AD.put h ho l vs h2⟩
 | .tup l,v,⟨vs,h1,h2⟩=>⟨vs,h1,AD.put h ho l vs h2⟩
theorem AD.put (h:w.heap[D]? =some (.deferred ds))(ho:∀vs e fr,o≠ .cells vs e fr):∀(l:List AC) (vs:List Value),AD T n ρ m w l vs→AD T n ρ m (w.putObj D o) l vs
 |[],_,hh=>hh
 |c::l,vs,⟨u,us,h1,h2,h3⟩=>⟨u,us,h1,AB.put h ho c u h2,AD.put h ho l us h3⟩
theorem Aa.put (h:w.heap[D]? =some (.deferred ds))(ho:∀vs e fr,o≠ .cells vs e fr):∀(l:List AC) (j:Nat) (v:Value),Aa T n ρ m w l j v→Aa T n ρ m (w.putObj D o) l j v
 |[],_,_,hh=>hh.elim
 |c::_,0,v,hh=>AB.put h ho c v hh
 |_::l,j+1,v,hh=>Aa.put h ho l j v hh
end
theorem AG.put (h:w.heap[D]? =some (.deferred ds))(ho:∀vs e fr,o≠ .cells vs e fr)(hm:AG T n ρ m w):AG T n ρ m (w.putObj D o):=by
 refine⟨fun id=>?_,hm.inj,fun b off hb=>hm.fr b off (by rw[World.putObj_size] at hb;exact hb)⟩
 have hb:=hm.blk id
 cases hx:m.at id with
 |pad=>trivial
 |gone=>trivial
 |cells l e=>
  rw[hx] at hb
  obtain⟨b,vs,h1,h2,h3⟩:=hb
  have hne:b≠D:=fun e=>by subst e;rw[h] at h2;cases h2
  exact⟨b,vs,h1,by rw[World.putObj_heap_other hne];exact h2,AD.put h ho l vs h3⟩
 |tok x ks e=>
  rw[hx] at hb
  obtain⟨h0,l,h1,h2⟩:=hb
  refine⟨h0,l,h1,?_⟩
  rcases h2 with h2|⟨b,vs,h2,h3,h4⟩
  ·exact .inl h2
  ·have hne:b≠D:=fun e=>by subst e;rw[h] at h3;cases h3
   exact .inr ⟨b,vs,h2,by rw[World.putObj_heap_other hne];exact h3,h4⟩
 |lp s st=>
  rw[hx] at hb
  obtain⟨b,q,h1,h2,h3,h4,h5,h6,h7,j,h8,h9⟩:=hb
  have hne:b≠D:=fun e=>by subst e;rw[h] at h2;cases h2
  exact⟨b,q,h1,by rw[World.putObj_heap_other hne];exact h2,h3,h4,h5,h6,fun i c hc=>AB.put h ho c _ (h7 i c hc),j,AB.put h ho st _ h8,h9⟩
structure E7 (T:Tab) (n:Nat) (ρ :Nat→Option Nat) (m:Mem) (B:Nat) (w w':World):Prop where
 os:w'.os=w.os
 tape:w'.tape=w.tape
 output:w'.output=w.output
 size:w'.heap.size=w.heap.size
 low:∀k,k < B→w'.heap[k]? =w.heap[k]?
 holds:∀c v,AB T n ρ m w c v→AB T n ρ m w' c v
 mem:AG T n ρ m w→AG T n ρ m w'
theorem E7.refl (T:Tab)(n:Nat)(ρ :Nat→Option Nat)(m:Mem)(B:Nat)(w:World):E7 T n ρ m B w w:=⟨rfl,rfl,rfl,rfl,fun _ _=>rfl,fun _ _ h=>h,fun h=>h⟩
theorem E7.trans {B:Nat}{w' w'':World}(h:E7 T n ρ m B w w')(k:E7 T n ρ m B w' w''):E7 T n ρ m B w w'':=
 ⟨k.os.trans h.os,k.tape.trans h.tape,k.output.trans h.output,k.size.trans h.size,fun i hi=>(k.low i hi).trans (h.low i hi),fun c v hh=>k.holds c v (h.holds c v hh),fun hh=>k.mem (h.mem hh)⟩
theorem E7.put {B:Nat}(h:w.heap[D]? =some (.deferred ds))(hB:B≤D)(ho:∀vs e fr,o≠ .cells vs e fr):E7 T n ρ m B w (w.putObj D o):=
 ⟨rfl,rfl,rfl,World.putObj_size,fun k hk=>World.putObj_heap_other (by omega),fun c v hh=>AB.put h ho c v hh,fun hh=>hh.put h ho⟩
theorem AI.after {n0:Nat}{ρ0:Nat→Option Nat}{m0:Mem}{w0 w':World}(h:AI T n0 ρ0 m0 w0 ρ m w)(hm:AG T n0 ρ0 m0 w0)(k:E7 T n ρ m w0.heap.size w w'):AI T n0 ρ0 m0 w0 ρ m w' where
 os:=k.os.trans h.os
 tape:=k.tape.trans h.tape
 output:=k.output.trans h.output
 size:=by rw[k.size];exact h.size
 mlen:=h.mlen
 rho:=h.rho
 untr:=h.untr
 fresh:=h.fresh
 old:=fun i hi hno=>(k.low i hi).trans (h.old i hi hno)
 tok:=fun id x ks e hx=>by
  have lt:∀b, ρ0 id=some b→b < w0.heap.size:=fun b hb=>hm.lt (by rw[hx];rfl) hb
  rcases h.tok id x ks e hx with⟨h1,h2,h3⟩|⟨h1,h2⟩
  ·exact .inl ⟨h1,h2,fun b hb=>(k.low b (lt b hb)).trans (h3 b hb)⟩
  ·exact .inr ⟨fun b hb off ho=>(Be (k.low b (lt b hb)) off).trans (h1 b hb off ho),h2⟩
theorem NU {fn:Func}{tmps:Array Value}{R:Ending→World→Prop}{kk B:Nat}:∀(Ds:List Nat) (w:World),Ds.Nodup→(∀D∈Ds,B≤D∧w.heap[D]? =some (.deferred (some [])))→
  (∀w',E7 T n ρ m B w w'→∃v,(results fn tmps).run P w'= .ok v w'∧R (.returned v) w')→
  LeavesInM (fen none) kk P fn tmps R (Ds.map fun D=>{ target:= .collected D,args:= #[] }) .returning w
 |[],w,_,_,hK=>hK w (E7.refl _ _ _ _ _ _)
 |D::Ds,w,hn,hD,hK=>by
  obtain⟨h1,h2⟩:=hD D (List.mem_cons_self ..)
  have hput:E7 T n ρ m B w (w.putObj D (.deferred none)):=E7.put h2 h1 (fun _ _ _ h=>by cases h)
  refine⟨fun h=>(by cases h),.inl ⟨D,_,rfl,run_takeDeferred h2,?_⟩⟩
  refine NU Ds _ (List.nodup_cons.1 hn).2 (fun D' hD'=>?_) fun w' hw'=>hK w' (hput.trans hw')
  obtain⟨k1,k2⟩:=hD D' (List.mem_cons_of_mem _ hD')
  refine⟨k1,?_⟩
  rw[World.putObj_heap_other (fun e=>(List.nodup_cons.1 hn).1 (by rw[←e];exact hD'))]
  exact k2
end
theorem Qm:∀(args:List AC) (i:Nat) (t:Tr) (j:Nat) (c:AC),(Mk i args t).get j=some c→(∃k,j=i+k∧args[k]? =some c)∨t.get j=some c
 |[],i,t,j,c,h=> .inr h
 |a::args,i,t,j,c,h=>by
  simp only[Mk] at h
  rcases Qm args (i+1) _ j c h with⟨k,h1,h2⟩|h1
  ·exact .inl ⟨k+1,by omega,by simpa using h2⟩
  ·rcases Tr.get_setF _ _ _ _ _ _ h1 with⟨k1,k2⟩|⟨_,k2⟩
   ·exact .inl ⟨0,by omega,by simpa using k2⟩
   ·exact .inr k2
def Xe (P:Program)(fn:Func)(k:XK)(a:Act)(w:World)(v:Value)(w':World):Prop:=(k= .ret∨k= .normal)∧w'=w∧(results fn a.tmps).run P w= .ok v w
theorem YO {fn:Func}:∀o g c m,KD P fn o g=some (c,m)→Agr T g→∀ ρ a w,True→Rel T g.n ρ o.l a w→∃v w' ρ',Xe P fn o.k a w v w'∧AI T g.n ρ o.l.mem w ρ' m w'∧AG T g.n ρ' m w'∧AB T g.n ρ' m w' c v:=by
 intro o g c m h hA ρ a w _ hR
 unfold KD at h
 split at h
 ·rename_i hk
  simp only[Option.map_eq_some_iff] at h
  obtain⟨c0,h1,h2⟩:=h
  cases h2
  obtain⟨v,h3,h4⟩:=US hA hR h1
  exact⟨v,w, ρ,⟨hk,rfl,h3⟩,AI.refl _ _ _ _ _,hR.mem,h4⟩
 ·cases h
theorem S8 {fn:Func}:∀{outs:List An} {g g':G} {c:AC} {m':Mem},CY (KD P fn) outs g=some (c,m',g')→∀o∈outs,o.k= .ret∨o.k= .normal
 |[],g,g',c,m',h=>by simp only[CY] at h;cases h
 |[o],g,g',c,m',h=>by
  simp only[CY,Option.bind_eq_bind,Option.bind_eq_some_iff] at h
  obtain⟨⟨c0,m0⟩,h,_⟩:=h
  intro o' ho
  simp at ho;subst ho
  unfold KD at h
  split at h
  ·rename_i hk;exact hk
  ·cases h
 |o::o2::os,g,g',c,m',h=>by
  simp only[CY,Option.bind_eq_bind,Option.bind_eq_some_iff] at h
  obtain⟨⟨c2,m2,g1⟩,h1,⟨c0,m0⟩,h,_⟩:=h
  intro o' ho
  cases ho with
  |head=>
   unfold KD at h
   split at h
   ·rename_i hk;exact hk
   ·cases h
  |tail _ ho=>exact S8 (outs:=o2::os) h1 o' ho
theorem b8 {call:Ay}{Ah:FuncId→Gf}{fuel:Nat}(hm:P.follows .mixedOrders=true)(hcall:∀T,CX P T call)(T:Tab):CX P T (Z7 P call Ah fuel):=by
 intro ys k args pc m g c m' g' hys h
 unfold Z7 at h
 simp only[Option.bind_eq_bind,Option.bind_eq_some_iff] at h
 obtain⟨fn,hfn,body,hbody,h⟩:=h
 split at h
 ·cases h
 rename_i hcond
 simp only[Bool.or_eq_true,not_or,Bool.not_eq_true] at hcond
 obtain⟨hname,hargs⟩:=hcond
 have hal:args.length≤fn.ntmps:=by
  rcases Nat.lt_or_ge fn.ntmps args.length with hlt|hge
  ·rw[←Nat.blt_eq] at hlt;rw[hlt] at hargs;cases hargs
  ·exact hge
 simp only[Option.bind_eq_some_iff] at h
 obtain⟨⟨outs,g1⟩,hc,h⟩:=h
 simp only at h
 have gr1:=(Rw hm hcall (Ah k) fuel ys T 0 body hys pc _ g outs g1 hc).1
 have gr2:=EO h
 refine⟨gr1.trans gr2,fun hA hob hp hpk ρ w vs hvs hmem=>⟨⟨fn,hfn,by rw[hbody];rfl,hname⟩,?_⟩⟩
 let T0:=T.atBase w.heap.size
 have S0:=Bv T w.heap.size
 have hm0:AG T0 g.n ρ m w:=hmem.tab (S0 _)
 have hvs0:AD T0 g.n ρ m w args vs:=AD.tab (S0 _) (fun b off hh=>(S0 _).safe hmem hh) _ _ hvs
 obtain⟨_,k1⟩:=Rw hm hcall (Ah k) fuel ys T0 0 body hys pc _ g outs g1 hc
 obtain⟨q1,q2,q3⟩:=k1 (GX (hA.of gr2)) hpk.lt
 refine (callsIn_wide (n:=0)).1 (callsIn_of_wp_marks (F:=fen none) hfn hbody trivial ?_)
 have hlen:=hvs.length
 have hR:Rel T0 g.n ρ ⟨NF fn.ntmps args,m⟩ { tmps:=(vs:List Value).toArray++Array.replicate (fn.ntmps - (vs:List Value).toArray.size) undef,defers:=[] } w:=by
  refine⟨DT.nil _ _ _ (Nat.le_refl _),?_,fun i c hi=>?_,hm0⟩
  ·simp[NF,hlen];omega
  ·have hi':(Mk 0 args .nil).get i=some c:=by
    have:(NF fn.ntmps args).get i=(Mk 0 args .nil).get i:=by simp[NF,AO.get,BL]
    rw[←this];exact hi
   rcases Qm _ _ _ _ _ hi' with⟨j,h1,h2⟩|h1
   ·rw[Nat.zero_add] at h1
    subst h1
    obtain⟨u,h3,h4⟩:=hvs0.get h2
    have:((vs:List Value).toArray++Array.replicate (fn.ntmps - (vs:List Value).toArray.size) undef).getD i undef=u:=by
     have hi2:i < vs.length:=(List.getElem?_eq_some_iff.1 h3).1
     simp[Array.getD_eq_getD_getElem?,Array.getElem?_append,hi2]
     rw[List.getElem?_eq_getElem hi2] at h3
     cases h3;rfl
    rw[this]
    exact h4
   ·simp[Tr.get] at h1
 refine q3 (KT (hob.of gr2)) (Kn.2 hp) ρ _ w _ hR fun o ho hpo ρ' a' w' hs hr=>?_
 have hend:LeavesInM (fen none) 0 P fn a'.tmps (JA T g ρ m w c m' g') a'.defers .returning w':=by
  obtain⟨d0,Ds,d1,d2,d3⟩:=hr.defers
  rw[d1]
  refine NU (T:=T0) (n:=g1.n) (ρ := ρ') (m:=o.l.mem) (B:=w.heap.size) Ds w' d2 (fun D hD=>⟨(d3 D hD).1,(d3 D hD).2.1⟩) fun w2 hw2=>?_
  have hr2:Rel T0 g1.n ρ' o.l { tmps:=a'.tmps,defers:=[] } w2:=⟨DT.nil _ _ _ (by rw[hw2.size];exact d0),hr.size,fun i c hi=>hw2.holds _ _ (hr.tmps i c hi),hw2.mem hr.mem⟩
  obtain⟨v,w3, ρ2,⟨_,rfl,e1⟩,e2,e3,e4⟩:=Kk (T:=T0) (I:=fun _=>True) (E:=Xe P fn) (N:=(NF fn.ntmps args).n) YO h (GX hA) q1 o ho hpo ρ' _ w2 trivial hr2
  refine⟨v,e1,v, ρ2,rfl,?_,e3.tab (S0 _).symm,AB.tab (S0 _).symm (fun b off hh=>(S0 _).symm.safe e3 hh) _ _ e4⟩
  have st:=(hs.after hm0 hw2).trans hm0 gr1.n e2
  exact AI.tab (S0 _).symm hm0 st (fun _ _ _ _ _=>rfl)
 rcases S8 h o ho with hk|hk<;>rw[hk]<;>exact hend
theorem Mc {ctx:FuncId→Option Ay}{Ah:FuncId→Gf}{fuel:Nat}(hm:P.follows .mixedOrders=true)(hctx:∀f c,ctx f=some c→∀T,∀ys k args pc m g c' m' g',k=f→CJ P T.lp ys→c ys k args pc m g=some (c',m',g')→AN g g'∧(Agr T g'→Aj T g'→pcv T pc→BD T g pc→∀ ρ w vs,AD T g.n ρ m w args vs→AG T g.n ρ m w→
  (∃fn,P.funcs[k]? =some fn∧fn.body.isSome=true∧(fn.name== "runtime.NumGoroutine")=false)∧Calls P k (vs:List Value).toArray w (JA T g ρ m w c' m' g'))):
  ∀(d:Nat) (T:Tab),CX P T (HB P ctx Ah fuel d)
 |0,T=>fun ys k args pc m g c m' g' _ h=>by simp only[HB] at h;cases h
 |d+1,T=>by
  intro ys k args pc m g c m' g' hys h
  simp only[HB] at h
  cases hcf:ctx k with
  |some cf=>
   rw[hcf] at h
   exact hctx k cf hcf T ys k args pc m g c m' g' rfl hys h
  |none=>
   rw[hcf] at h
   exact b8 hm (Mc hm hctx d) T ys k args pc m g c m' g' hys h
end
end Go.Eng
end
noncomputable section
namespace Go.Eng
open Go Go.RowKit Go.Deep
def HD (P:Program)(sub:TypeId→Option (List Kd)):List Field→Nat→Option (List Kd)
 |[],_=>some []
 |f::fs,off=>do
  let ks←sub f.type
  if Nat.beq f.offset off&&Nat.beq ks.length (P.cellsOf f.type) then
   let r←HD P sub fs (off+ks.length)
   some (ks++r)
  else none
def Dh (P:Program):Nat→TypeId→Option (List Kd)
 |0,_=>none
 |d+1,t=>
  match P.underlying t with
  |some .bool=>some [.bool]
  |some (.int k)=>some [.int k k.min k.max]
  |some .string=>some [.str]
  |some (.slice e)=>do
   let ks←Dh P d e
   if Nat.beq ks.length (P.cellsOf e)&&Nat.blt 0 ks.length then some [.list ks] else none
  |some (.struct fs)=>do
   let ks←HD P (Dh P d) fs.toList 0
   if Nat.beq ks.length (P.cellsOf t) then some ks else none
  |some (.array n e)=>do
   let ks←Dh P d e
   if Nat.beq ks.length (P.cellsOf e)&&Nat.beq (n*ks.length) (P.cellsOf t) then some (List.replicate n ks).flatten else none
  |_=>none
inductive Cs {H:Type} (B:Nat):DataW H→Prop where
 |lit {l:Lit} (h:∀s,l= .string s→s.length≤B):Cs B (.lit l)
 |nil:Cs B .nil
 |slice {l s:List (DataW H)} (hl:l.length≤B) (h:∀d∈l,Cs B d):Cs B (.slice l s)
 |agg {l:List (DataW H)} (h:∀d∈l,Cs B d):Cs B (.agg l)
 |ptr (d:DataW H):Cs B (.ptr d)
 |iface (t:String) (d:DataW H):Cs B (.iface t d)
 |map (es:List (Lit × DataW H)):Cs B (.map es)
 |held (h:H):Cs B (.held h)
mutual
def KdU (B:Nat):Kd→U→Prop
 | .int _ lo hi,u=>∃n,u= .int n∧lo≤n∧n≤hi
 | .bool,u=>∃b,u= .bool b
 | .str,u=>∃s,u= .str s∧s.size≤B
 | .val,_=>True
 | .any,_=>True
 | .list ks,u=>∃l:List (List U),u= .list l∧l.length≤B∧∀(i:Nat) (us:List U),l[i]? =some us→CL B ks us
def CL (B:Nat):List Kd→List U→Prop
 |[],us=>us=[]
 |k::ks,us=>∃u us',us=u::us'∧KdU B k u∧CL B ks us'
end
theorem CL.append {B:Nat}:∀{ks ks':List Kd} {us us':List U},CL B ks us→CL B ks' us'→CL B (ks++ks') (us++us')
 |[],_,us,us',h,h'=>by rw[show us=[] from h];exact h'
 |k::ks,_,us,us',⟨u,us1,e,h1,h2⟩,h'=>by
  subst e
  exact⟨u,us1++us',rfl,h1,CL.append h2 h'⟩
def Cg (ok:Nat→Nat→Prop)(w:World):List Kd→List U→List Value→Prop
 |[],[],[]=>True
 |k::ks,u::us,c::cs=>AP ok w k u c∧Cg ok w ks us cs
 |_,_,_=>False
section
variable {ok:Nat→Nat→Prop}{w:World}
theorem Cg.len:∀{ks:List Kd} {us:List U} {cs:List Value},Cg ok w ks us cs→us.length=ks.length∧cs.length=ks.length
 |[],[],[],_=>⟨rfl,rfl⟩
 |_::_,_::_,_::_,h=>by
  obtain⟨h1,h2⟩:=Cg.len h.2
  simp[h1,h2]
 |[],_::_,_,h=>by cases h
 |[],[],_::_,h=>by cases h
 |_::_,[],_,h=>by cases h
 |_::_,_::_,[],h=>by cases h
theorem Cg.append:∀{ks ks':List Kd} {us us':List U} {cs cs':List Value},Cg ok w ks us cs→Cg ok w ks' us' cs'→Cg ok w (ks++ks') (us++us') (cs++cs')
 |[],_,[],_,[],_,_,h=>h
 |_::_,_,_::_,_,_::_,_,h,h'=>⟨h.1,Cg.append h.2 h'⟩
 |[],_,_::_,_,_,_,h,_=>by cases h
 |[],_,[],_,_::_,_,h,_=>by cases h
 |_::_,_,[],_,_,_,h,_=>by cases h
 |_::_,_,_::_,_,[],_,h,_=>by cases h
theorem Cg.mem {b:Nat}:∀{ks:List Kd} {us:List U} {cs:List Value} {off:Nat},Cg ok w ks us cs→(∀j c,cs[j]? =some c→ok b (off+j)∧w.cell? ⟨b,off+j,none⟩=some c)→AU ok w ks b off us
 |[],[],[],_,_,_=>rfl
 |k::ks,u::us,c::cs,off,h,hm=>by
  obtain⟨m1,m2⟩:=hm 0 c rfl
  refine⟨u,us,rfl,⟨m1,c,m2,h.1⟩,Cg.mem h.2 fun j d hd=>?_⟩
  have:=hm (j+1) d (by simpa using hd)
  rw[show off+(j+1)=off+1+j by omega] at this
  exact this
 |[],_::_,_,_,h,_=>by cases h
 |[],[],_::_,_,h,_=>by cases h
 |_::_,[],_,_,h,_=>by cases h
 |_::_,_::_,[],_,h,_=>by cases h
end
theorem Ok {w:World}{base n:Nat}{a:Addr}{cs:List Value}(h:w.cells? base a n=some cs):cs.length=n∧∀j,j < n→w.cell? (a.add j)=cs[j]? :=by
 unfold World.cells? at h
 split at h
 ·obtain⟨h1,h2⟩:=Du _ _ _ h
  rw[List.length_range] at h1
  refine⟨h1,fun j hj=>?_⟩
  have:=h2 j j (by simp[hj])
  exact this.symm
 ·cases h
section
variable {H:Type}{enc:TypeId × Value→H}{P:Program}{w:World}{base:Nat}{spare:Nat→Bool}{held:Bool}{B:Nat}
theorem CI (hB:B≤A9):∀(d:Nat) {t:TypeId} {ks:List Kd} {fuel:Nat} {cs:List Value} {x:DataW H × List MemPlace},Dh P d t=some ks→DataW.trod enc P w base spare held fuel t cs=some x→Cs B x.1→
  ∃us,Cg (fun b _=>b < w.heap.size) w ks us cs∧CL B ks us
 |0,t,ks,fuel,cs,x,hk,_,_=>by simp[Dh] at hk
 |d+1,t,ks,fuel,cs,x,hk,h,hs=>by
  simp only[Dh] at hk
  split at hk
  ·rename_i ht
   obtain⟨b,rfl,rfl⟩:=DataW.trod_bool ht h
   cases hk
   exact⟨[.bool b],⟨⟨b,rfl,rfl⟩,trivial⟩,_,_,rfl,⟨b,rfl⟩,rfl⟩
  ·rename_i k ht
   obtain⟨n,rfl,rfl,hwf⟩:=DataW.trod_int ht h
   cases hk
   have hb:k.min≤n∧n≤k.max:=by simpa [Lit.wf] using hwf
   exact⟨[.int n],⟨⟨n,rfl,rfl,hb⟩,trivial⟩,_,_,rfl,⟨n,rfl,hb⟩,rfl⟩
  ·rename_i ht
   obtain⟨s,rfl,rfl,_⟩:=DataW.trod_string ht h
   cases hk
   cases hs with
   |lit hs=>
   have hb:=hs _ rfl
   have hb2:s.size≤B:=by simpa using hb
   exact⟨[.str s],⟨⟨s,rfl,rfl,Nat.le_trans hb2 hB⟩,trivial⟩,_,_,rfl,⟨s,rfl,hb2⟩,rfl⟩
  ·
   rename_i e ht
   simp only[Option.bind_eq_bind,Option.bind_eq_some_iff] at hk
   obtain⟨ke,he,hk⟩:=hk
   split at hk
   ·rename_i hc
    rw[Bool.and_eq_true] at hc
    have hlen:=Nat.eq_of_beq_eq_true hc.1
    have hpos:=Bd hc.2
    cases hk
    rcases open_slice ht h with⟨rfl,rfl⟩|⟨a,len,cap,m,n,D,Pl,rfl,_,hle,_,hm,rfl,hel⟩
    ·exact⟨[.list []],⟨⟨[],rfl,Nat.zero_le _,fun _=>rfl,none,0,rfl,Nat.le_refl _,fun h=>absurd h (by simp)⟩,trivial⟩,_,_,rfl,⟨[],rfl,Nat.zero_le _,fun i us hi=>by simp at hi⟩,rfl⟩
    ·have hmlen:len≤m:=by rw[hm];split<;>omega
     cases hs with
     |slice hl hsh=>
     have each:∀i,i < len→∃us,∃cs',w.cells? base (a.add (i*P.cellsOf e)) (P.cellsOf e)=some cs'∧Cg (fun b _=>b < w.heap.size) w ke us cs'∧CL B ke us:=fun i hi=>by
      obtain⟨cs',h1,h2⟩:=hel i (by omega)
      obtain⟨us,hus⟩:=CI hB d he h2 (hsh _ (List.mem_map.2 ⟨i,by simp[hi],rfl⟩))
      exact⟨us,cs',h1,hus⟩
     have pick:∃f:Nat→List U,∀i,i < len→∃cs',w.cells? base (a.add (i*P.cellsOf e)) (P.cellsOf e)=some cs'∧Cg (fun b _=>b < w.heap.size) w ke (f i) cs'∧CL B ke (f i):=by
      classical
      refine⟨fun i=>if hi:i < len then (each i hi).choose else [],fun i hi=>?_⟩
      simp only[hi,dif_pos]
      exact (each i hi).choose_spec
     obtain⟨f,hf⟩:=pick
     refine⟨[.list ((List.range len).map f)],⟨⟨(List.range len).map f,rfl,by simp at hl⊢;omega,fun h0=>?_,some a,cap,by simp,by simpa using hle,fun h0=>?_⟩,trivial⟩,_,_,rfl,⟨_,rfl,by simpa using hl,fun i us hi=>?_⟩,rfl⟩
     ·rw[h0] at hpos;simp at hpos
     ·have h0:0 < len:=by simpa using h0
      have hspot:a.spot=none:=by
       obtain⟨cs',h1,_⟩:=hf 0 h0
       obtain⟨k1,k2⟩:=Ok h1
       have hc0:=k2 0 (by omega)
       rw[List.getElem?_eq_getElem (by omega)] at hc0
       simp only[Nat.zero_mul,Addr.add,if_true] at hc0
       unfold World.cell? at hc0
       split at hc0
       ·split at hc0
        ·cases hc0
        ·rename_i hsp;simpa using hsp
       ·cases hc0
      obtain⟨ab,ao,asp⟩:=a
      simp only at hspot
      subst hspot
      have haddr:∀i j,((⟨ab,ao,none⟩:Addr).add i).add j=⟨ab,ao+i+j,none⟩:=fun i j=>by
       unfold Addr.add
       split<;>split<;>simp_all
      refine⟨ab,ao,rfl,fun i us hi=>?_⟩
      rw[List.getElem?_map,Option.map_eq_some_iff] at hi
      obtain⟨i',hi',rfl⟩:=hi
      obtain⟨hlt,rfl⟩:=List.getElem?_eq_some_iff.1 hi'
      simp only[List.getElem_range]
      have hil:i < len:=by simpa using hlt
      obtain⟨cs',h1,h2,_⟩:=hf i hil
      obtain⟨k1,k2⟩:=Ok h1
      refine Cg.mem h2 fun j c hj=>?_
      have hjl:j < cs'.length:=(List.getElem?_eq_some_iff.1 hj).1
      have hc:=k2 j (by omega)
      rw[hj,haddr,←hlen] at hc
      refine⟨?_,hc⟩
      unfold World.cell? at hc
      split at hc
      ·rename_i hb;exact (Array.getElem?_eq_some_iff.1 hb).1
      ·cases hc
     ·rw[List.getElem?_map,Option.map_eq_some_iff] at hi
      obtain⟨i',hi',rfl⟩:=hi
      obtain⟨hlt,rfl⟩:=List.getElem?_eq_some_iff.1 hi'
      simp only[List.getElem_range]
      obtain⟨_,_,_,h3⟩:=hf i (by simpa using hlt)
      exact h3
   ·cases hk
  ·
   rename_i fs ht
   simp only[Option.bind_eq_bind,Option.bind_eq_some_iff] at hk
   obtain⟨ks',hf,hk⟩:=hk
   split at hk
   ·rename_i hc
    have hlen:=Nat.eq_of_beq_eq_true hc
    cases hk
    obtain⟨xs,n,rfl,rfl,hcs,hxl,hxs⟩:=DataW.trod_struct ht h
    cases hs with
    |agg hsh=>
    have key:∀(l:List Field) (off i:Nat) (ks:List Kd),HD P (Dh P d) l off=some ks→(∀j f,l[j]? =some f→fs[i+j]? =some f)→off+ks.length≤cs.length→∃us,Cg (fun b _=>b < w.heap.size) w ks us ((cs.drop off).take ks.length)∧CL B ks us:=by
     intro l
     induction l with
     |nil=>intro off i ks hk _ _;simp only[HD] at hk;cases hk;exact⟨[],by simp[Cg],rfl⟩
     |cons f l ih=>
      intro off i ks hk hl hle
      simp only[HD,Option.bind_eq_bind,Option.bind_eq_some_iff] at hk
      obtain⟨kf,hkf,hk⟩:=hk
      split at hk
      ·rename_i hc
       rw[Bool.and_eq_true] at hc
       have e1:=Nat.eq_of_beq_eq_true hc.1
       have e2:=Nat.eq_of_beq_eq_true hc.2
       simp only[Option.bind_eq_some_iff] at hk
       obtain⟨kr,hkr,hk⟩:=hk
       cases hk
       rw[List.length_append] at hle
       have hfi:=hl 0 f rfl
       have hil:i < xs.length:=by rw[hxl];exact (Array.getElem?_eq_some_iff.1 (by simpa using hfi)).1
       have hx:=hxs i f (by simpa using hfi)
       rw[List.getElem?_eq_getElem hil] at hx
       obtain⟨us1,hus1⟩:=CI hB d hkf hx (hsh _ (List.mem_map.2 ⟨_,List.getElem_mem hil,rfl⟩))
       obtain⟨us2,hus2⟩:=ih (off+kf.length) (i+1) kr hkr (fun j g hg=>by have:=hl (j+1) g (by simpa using hg);rw[show i+(j+1)=i+1+j by omega] at this;exact this) (by omega)
       refine⟨us1++us2,?_,hus1.2.append hus2.2⟩
       have:=hus1.1.append hus2.1
       rw[e1,←e2] at this
       have e3:(cs.drop off).take (kf++kr).length=(cs.drop off).take kf.length++(cs.drop (off+kf.length)).take kr.length:=by
        rw[List.length_append,List.take_add,List.drop_drop]
       rw[e3]
       exact this
      ·cases hk
    obtain⟨us,hus⟩:=key fs.toList 0 0 ks hf (fun j f hj=>by simpa using hj) (by omega)
    refine⟨us,?_,hus.2⟩
    have:(cs.drop 0).take ks.length=cs:=by rw[List.drop_zero,List.take_of_length_le (by omega)]
    rw[this] at hus
    exact hus.1
   ·cases hk
  ·
   rename_i n e ht
   simp only[Option.bind_eq_bind,Option.bind_eq_some_iff] at hk
   obtain⟨ke,he,hk⟩:=hk
   split at hk
   ·rename_i hc
    rw[Bool.and_eq_true] at hc
    have hlen:=Nat.eq_of_beq_eq_true hc.1
    have htot:=Nat.eq_of_beq_eq_true hc.2
    cases hk
    obtain⟨xs,m,rfl,rfl,hcs,hxl,hxs⟩:=DataW.trod_array ht h
    cases hs with
    |agg hsh=>
    have key:∀(j i:Nat),i+j≤n→∃us,Cg (fun b _=>b < w.heap.size) w (List.replicate j ke).flatten us ((cs.drop (i*ke.length)).take (j*ke.length))∧CL B (List.replicate j ke).flatten us:=by
     intro j
     induction j with
     |zero=>intro i _;exact⟨[],by simp[Cg],rfl⟩
     |succ j ih=>
      intro i hi
      have hx:=hxs i (by omega)
      rw[List.getElem?_eq_getElem (by omega)] at hx
      obtain⟨us1,hus1⟩:=CI hB d he hx (hsh _ (List.mem_map.2 ⟨_,List.getElem_mem (by omega),rfl⟩))
      obtain⟨us2,hus2⟩:=ih (i+1) (by omega)
      rw[List.replicate_succ,List.flatten_cons]
      refine⟨us1++us2,?_,hus1.2.append hus2.2⟩
      have:=hus1.1.append hus2.1
      rw[←hlen] at this
      have e3:(cs.drop (i*ke.length)).take ((j+1)*ke.length)=(cs.drop (i*ke.length)).take ke.length++(cs.drop ((i+1)*ke.length)).take (j*ke.length):=by
       rw[show (j+1)*ke.length=ke.length+j*ke.length by rw[Nat.succ_mul];omega,List.take_add,List.drop_drop,show (i+1)*ke.length=i*ke.length+ke.length by rw[Nat.succ_mul]]
      rw[e3]
      exact this
    obtain⟨us,hus⟩:=key n 0 (by omega)
    refine⟨us,?_,hus.2⟩
    have:(cs.drop (0*ke.length)).take (n*ke.length)=cs:=by rw[Nat.zero_mul,List.drop_zero,List.take_of_length_le (by omega)]
    rw[this] at hus
    exact hus.1
   ·cases hk
  ·cases hk
end
end Go.Eng
end
noncomputable section
namespace Go.Eng
open Go Go.RowKit
def Mh:Nat→List Kd→List AC
 |_,[]=>[]
 |x,k::ks=>Md k x::Mh (x+1) ks
def bO (P:Program)(t:TypeId)(x:Nat)(ks:List Kd):Option AC:=
 if EA P t then some (.agg (Mh x ks)) else match ks with
  |[k]=>some (Md k x)
  |_=>none
def HI (P:Program)(d:Nat):List TypeId→Nat→Option (List AC × List Kd)
 |[],_=>some ([],[])
 |t::ts,x=>do
  let ks←Dh P d t
  let a←bO P t x ks
  let (as,r) ←HI P d ts (x+ks.length)
  some (a::as,ks++r)
def Wj:Bc:=⟨⟨0,[],.nil⟩, #[],.skip,.skip,[]⟩
def SL (lps:List (Nat × Bc))(us:List U):Tab:=⟨fun x=>us.getD x default,fun _ _=>True,fun s=>(EW lps s).getD Wj,0⟩
def LS:List (Nat × Bc)→Bool
 |[]=>true
 |(s,_)::r=>(r.all fun p=> !Nat.beq p.1 s)&&LS r
def OW (n:Nat)(g:G):Bool:=DD [] 0 n g.n g.eqs&&LS g.lps
def eW (T:Tab):AC→Prop
 | .cb b=>b=true
 | .b x=>T x= .bool true
 | .nb x=>T x= .bool false
 |_=>False
theorem Lk:∀{lps:List (Nat × Bc)},LS lps=true→∀p∈lps,EW lps p.1=some p.2
 |[],_,p,hp=>by cases hp
 |(s,S)::r,h,p,hp=>by
  simp only[LS,Bool.and_eq_true] at h
  simp only[EW]
  cases hp with
  |head=>simp only[(DB s s).2 rfl,if_true]
  |tail _ hp=>
   have hne:=List.all_eq_true.1 h.1 p hp
   split
   ·rename_i hb
    have e:=Nat.eq_of_beq_eq_true hb
    rw[(DB p.1 s).2 e.symm] at hne
    cases hne
   ·exact Lk h.2 p hp
section
variable {P:Program}{T:Tab}{n:Nat}{ρ :Nat→Option Nat}{w:World}{B:Nat}
theorem cZ {ok:Nat→Nat→Prop}(hok:∀b off,ok b off→AZ T ρ [] w b off){k:Kd}{x:Nat}{v:Value}(hx:x < n)(h:AP ok w k (T x) v):AB T n ρ [] w (Md k x) v:=by
 cases k with
 |int k lo hi=>exact⟨hx,h⟩
 |bool=>exact⟨hx,h⟩
 |str=>exact⟨hx,h⟩
 |val=>exact⟨hx,h.1,h.2⟩
 |any=>exact h.one
 |list ks=>exact⟨hx,AP.mono (fun b off hb=>⟨hok b off hb,rfl⟩) _ _ _ h⟩
theorem Sn {ok:Nat→Nat→Prop}(hok:∀b off,ok b off→AZ T ρ [] w b off):∀{ks:List Kd} {us:List U} {cs:List Value} {x:Nat},Cg ok w ks us cs→(∀j u,us[j]? =some u→T (x+j)=u)→x+ks.length≤n→AD T n ρ [] w (Mh x ks) cs
 |[],[],[],_,_,_,_=>rfl
 |k::ks,u::us,c::cs,x,h,hT,hn=>by
  simp only[List.length_cons] at hn
  refine⟨c,cs,rfl,cZ hok (by omega) ?_,Sn hok h.2 (fun j v hj=>?_) (by omega)⟩
  ·have:=hT 0 u rfl
   rw[Nat.add_zero] at this
   rw[this];exact h.1
  ·have:=hT (j+1) v (by simpa using hj)
   rw[show x+(j+1)=x+1+j by omega] at this
   exact this
 |[],_::_,_,_,h,_,_=>by cases h
 |[],[],_::_,_,h,_,_=>by cases h
 |_::_,[],_,_,h,_,_=>by cases h
 |_::_,_::_,[],_,h,_,_=>by cases h
theorem eG {d:Nat}{t:TypeId}{ks:List Kd}{v:Value}{base:Nat}(hk:Dh P d t=some ks)(ha:EA P t=false)(hv:Value.okWide P w .any base t v):∀cs,v≠ .agg cs:=by
 intro cs e
 subst e
 cases d with
 |zero=>simp[Dh] at hk
 |succ d=>
  simp only[Dh] at hk
  unfold Value.okWide at hv
  unfold EA at ha
  split at hk<;>rename_i ht<;>simp only[ht] at hv ha<;>first
   |(cases ha;done)
   |(simp[Cell.okWide,Cell.ok,ht] at hv;done)
   |(cases hk;done)
theorem Xr {t:TypeId}{v:Value}{base:Nat}(ha:EA P t=true)(hv:Value.okWide P w .any base t v):∃cs,v= .agg cs:=by
 unfold EA at ha
 unfold Value.okWide at hv
 split at ha
 ·rename_i ht;simp only[ht] at hv;obtain⟨cs,h,_⟩:=hv;exact⟨cs,h⟩
 ·rename_i ht;simp only[ht] at hv;obtain⟨cs,h,_⟩:=hv;exact⟨cs,h⟩
 ·cases ha
theorem Vs {H:Type}{enc:TypeId × Value→H}{sp:Nat→Bool}{held:Bool}{base:Nat}(hB:B≤A9){dd:Nat}:∀(ts:List TypeId) {x:Nat} {as:List AC} {ks:List Kd} {vs:List Value} {ds:List (DataW H)} {ps:List MemPlace},HI P dd ts x=some (as,ks)→
  DataW.TrodAll enc P w 0 sp held ts vs ds ps→(∀(j:Nat) t v,ts[j]? =some t→vs[j]? =some v→Value.okWide P w .any base t v)→(∀d∈ds,Cs B d)→
  ∃us,CL B ks us∧us.length=ks.length∧∀(T:Tab) ρ,(∀b off,b < w.heap.size→AZ T ρ [] w b off)→(∀j u,us[j]? =some u→T (x+j)=u)→∀n,x+ks.length≤n→AD T n ρ [] w as vs
 |[],x,as,ks,vs,ds,ps,h,ht,_,_=>by
  simp only[HI] at h
  cases h
  cases vs with
  |nil=>exact⟨[],rfl,rfl,fun _ _ _ _ _ _=>rfl⟩
  |cons v vs=>cases ds<;>exact ht.elim
 |t::ts,x,as,ks,vs,ds,ps,h,ht,hv,hs=>by
  simp only[HI,Option.bind_eq_bind,Option.bind_eq_some_iff] at h
  obtain⟨k1,hk,a,ha,⟨as2,k2⟩,hr,h⟩:=h
  cases h
  cases vs with
  |nil=>cases ds<;>exact ht.elim
  |cons v vs=>
   cases ds with
   |nil=>exact ht.elim
   |cons d ds=>
    obtain⟨p,q,⟨fuel,h1⟩,h2,_⟩:=ht
    obtain⟨us2,u1,u2,u3⟩:=Vs hB ts hr h2 (fun j t' v' hj hj'=>hv (j+1) t' v' (by simpa using hj) (by simpa using hj')) (fun d' hd=>hs d' (List.mem_cons_of_mem _ hd))
    obtain⟨us1,w1,w2⟩:=CI hB dd hk h1 (hs d (List.mem_cons_self ..))
    have hv0:=hv 0 t v rfl rfl
    obtain⟨l1,l2⟩:=w1.len
    refine⟨us1++us2,w2.append u1,by simp[l1,u2],fun T ρ hok hT n hn=>?_⟩
    rw[List.length_append] at hn
    have hn':x+k1.length+k2.length≤n:=by simp only at hn;omega
    have hT1:∀j u,us1[j]? =some u→T (x+j)=u:=fun j u hj=>hT j u (by rw[List.getElem?_append_left (List.getElem?_eq_some_iff.1 hj).1];exact hj)
    have hcells:=Sn (T:=T) (n:=n) (ρ := ρ) (x:=x) hok w1 hT1 (by omega)
    refine⟨v,vs,rfl,?_,u3 T ρ hok (fun j u hj=>?_) n hn'⟩
    ·unfold bO at ha
     split at ha
     ·rename_i hagg
      cases ha
      obtain⟨cs,rfl⟩:=Xr hagg hv0
      exact⟨cs.toList,by simp,hcells⟩
     ·rename_i hagg
      split at ha
      ·rename_i k
       cases ha
       obtain⟨u,us',e1,e2,e3⟩:=hcells
       rw[show us'=[] from e3] at e1
       have hne:=eG hk (by simpa using hagg) hv0
       have hcv:v.cells= #[v]:=by cases v<;>first|rfl|exact absurd rfl (hne _)
       rw[hcv] at e1
       simp at e1
       rw[e1]
       exact e2
      ·cases ha
    ·have:=hT (us1.length+j) u (by rw[List.getElem?_append_right (by omega)];simpa using hj)
     rw[l1,←Nat.add_assoc] at this
     exact this
end
end Go.Eng
end
noncomputable section
namespace Go.Eng
open Go Go.RowKit
inductive Rh where
 |one (k:Kd)
 |agg (ks:List Kd)
 |ptr (j off:Nat)
def MB:Nat→List Rh→List AC
 |_,[]=>[]
 |x,.one k::r=>Md k x::MB (x+1) r
 |x,.agg ks::r=> .agg (Mh x ks)::MB (x+ks.length) r
 |x,.ptr j off::r=> .ptr j off::MB x r
def Dw:List Rh→List Kd
 |[]=>[]
 | .one k::r=>k::Dw r
 | .agg ks::r=>ks++Dw r
 | .ptr _ _::r=>Dw r
def I5:Nat→List (List Kd × TypeId)→Mem
 |_,[]=>[]
 |x,(ks,e)::r=> .cells (Mh x ks) e::I5 (x+ks.length) r
def MF (l:List (List Kd × TypeId)):List Kd:=(l.map (·.1)).flatten
structure Ak where
 sh:List Rh
 blks:List (List Kd × TypeId)
 outs:List (Tg × (List U→U))
 c:AC
 m':Mem
 pre:List (Tg × (List U→Prop))
def Ak.args (t:Ak):List AC:=MB 0 t.sh
def Ak.m (t:Ak):Mem:=I5 (Dw t.sh).length t.blks
def Ak.ks (t:Ak):List Kd:=Dw t.sh++MF t.blks
def Ak.n (t:Ak):Nat:=t.ks.length
def Ak.us (t:Ak)(us:List U):List U:=us++t.outs.map fun o=>o.2 us
def Aq (P:Program)(f:FuncId)(t:Ak):Prop:=
 ∃lp0:Nat→Bc,∀(T:Tab) (us:List U),T.lp=lp0→us.length=t.n→(∀j u,(t.us us)[j]? =some u→T j=u)→(∀p∈t.pre,p.2 us)→∀ ρ w vs,AD T t.n ρ t.m w t.args vs→AG T t.n ρ t.m w→
  (∃fn,P.funcs[f]? =some fn∧fn.body.isSome=true∧(fn.name== "runtime.NumGoroutine")=false)∧
  Calls P f (vs:List Value).toArray w fun e w'=>∃v ρ',e= .returned v∧AI T t.n ρ t.m w ρ' t.m' w'∧AG T (t.n+t.outs.length) ρ' t.m' w'∧AB T (t.n+t.outs.length) ρ' t.m' w' t.c v
def RV:List AC→List AC→List (Nat × Nat)
 | .ptr j _::as,.ptr id _::cs=>(j,id)::RV as cs
 |_::as,_::cs=>RV as cs
 |_,_=>[]
def FU:List (Nat × Nat)→Nat→Option Nat
 |[],_=>none
 |(j,id)::r,x=>if Nat.beq j x then some id else FU r x
def Mm (x:Nat):Option (Rf × List Pr)→Option (List (Nat × Rf) × List Pr)
 |some (r,ps)=>some ([(x,r)],ps)
 |none=>none
def Wf:Option (List (Nat × Rf) × List Pr)→Option (List (Nat × Rf) × List Pr)→Option (List (Nat × Rf) × List Pr)
 |some (a,b),some (a',b')=>some (a++a',b++b')
 |_,_=>none
mutual
def B6 (ren:List (Nat × Nat)):AC→AC→Option (List (Nat × Rf) × List Pr)
 | .ptr j off,c=>(match c with
  | .ptr id off'=>if Nat.beq off off'&&(match FU ren j with|some id'=>Nat.beq id id'|none=>false) then some ([],[]) else none
  |_=>none)
 | .i k lo hi x,c=>Mm x (fit (.int k lo hi) c)
 | .b x,c=>Mm x (fit .bool c)
 | .v x,c=>Mm x (fit .val c)
 | .s x,c=>Mm x (fit .str c)
 | .ro x ks,c=>Mm x (fit (.list ks) c)
 | .agg l,c=>(match c with
  | .agg l'=>G8 ren l l'
  |_=>none)
 | .anyc,c=>if AC.atom c then some ([],[]) else none
 |_,_=>none
def G8 (ren:List (Nat × Nat)):List AC→List AC→Option (List (Nat × Rf) × List Pr)
 |[],[]=>some ([],[])
 |h::l,c::l'=>Wf (B6 ren h c) (G8 ren l l')
 |_,_=>none
end
def Mz (ren:List (Nat × Nat)):Blk→Blk→Option (List (Nat × Rf) × List Pr)
 | .cells l e,.cells l' e'=>if Nat.beq e e' then G8 ren l l' else none
 |_,_=>none
def Ge (ren:List (Nat × Nat))(ma:Mem):List (Nat × Nat)→Mem→Option (List (Nat × Rf) × List Pr)
 |[],[]=>some ([],[])
 |(_,id)::r,b::m=>Wf (Mz ren b (ma.at id)) (Ge ren ma r m)
 |_,_=>none
def Ro (ren:List (Nat × Nat))(nt na j:Nat):Option Nat:=if Nat.blt j nt then FU ren j else some (na+(j - nt))
mutual
def up1 (n base:Nat)(ren:List (Nat × Nat))(nt na:Nat)(m':Mem)(rs:List Rf):AC→AC
 | .i k lo hi x=>if Nat.ble n x then .i k lo hi (base+(x - n)) else (match rs[x]? with|some (.e y)=> .i k lo hi y|_=> .anyc)
 | .b x=>if Nat.ble n x then .b (base+(x - n)) else (match rs[x]? with|some (.e y)=> .b y|_=> .anyc)
 | .v x=>if Nat.ble n x then .v (base+(x - n)) else (match rs[x]? with|some (.e y)=> .v y|_=> .anyc)
 | .s x=>if Nat.ble n x then .s (base+(x - n)) else (match rs[x]? with|some (.e y)=> .s y|_=> .anyc)
 | .ro x ks=>if Nat.ble n x then .ro (base+(x - n)) ks else (match rs[x]? with|some (.e y)=> .ro y ks|_=> .anyc)
 | .vec _ x ks=>if Nat.ble n x then .ro (base+(x - n)) ks else (match rs[x]? with|some (.e y)=> .ro y ks|_=> .anyc)
 | .ptr j off=>(match m'.at j,Ro ren nt na j with| .cells _ _,some id=> .ptr id off|_,_=> .anyc)
 | .cb b=> .cb b
 | .ci k i=> .ci k i
 | .cv c=> .cv c
 | .agg l=> .agg (upL n base ren nt na m' rs l)
 | .tup l=> .tup (upL n base ren nt na m' rs l)
 |_=> .any
def upL (n base:Nat)(ren:List (Nat × Nat))(nt na:Nat)(m':Mem)(rs:List Rf):List AC→List AC
 |[]=>[]
 |a::l=>up1 n base ren nt na m' rs a::upL n base ren nt na m' rs l
end
def det:AC→Bool
 | .i .. | .b _| .v _| .s _| .ptr .. | .ci .. | .cb _| .cv _=>true
 |_=>false
def Pf (up:AC→AC):List AC→List AC→List AC→List AC
 |h0::l0,c::l,h::l'=>(if det h&&AC.beq h0 h then c else up h)::Pf up l0 l l'
 |_,_,_=>[]
def KR (up:AC→AC):Blk→Blk→Blk→Blk
 | .cells l0 _,.cells l e,.cells l' e'=>if Nat.beq l0.length l.length&&Nat.beq l.length l'.length&&Nat.beq e e' then .cells (Pf up l0 l l') e else .gone
 |_,_,_=> .gone
def C9 (B:Nat→Blk→Blk):List (Nat × Nat)→Mem→Mem
 |[],m=>m
 |(j,id)::r,m=>(C9 B r m).set id (B j (m.at id))
def TN (up:AC→AC):Blk→Blk
 | .cells l e=> .cells (l.map up) e
 |_=> .gone
def R1 (t:Ak):Ay:=fun _ _ as pc ma g=>
 let ren:=RV t.args as
 if Eo (ren.map (·.1)) (List.range t.m.length)&&Eh (ren.map (·.2))&&ren.all (fun p=>Nat.blt p.2 ma.length)&&Nat.ble t.m.length t.m'.length then
  match Wf (G8 ren t.args as) (Ge ren ma ren t.m) with
  |some (prs,ps)=>
   if Eo (prs.map (·.1)) (List.range t.n) then
    let rs:=prs.map (·.2)
    let up:=up1 t.n g.n ren t.m.length ma.length t.m' rs
    some (up t.c,C9 (fun j b=>KR up (t.m.at j) b (t.m'.at j)) ren ma++(t.m'.drop t.m.length).map (TN up),
     (g.needAll pc (ps++t.pre.map fun (tg,f)=>⟨tg,f,rs⟩)).pushAll (t.outs.map fun (tg,F)=>⟨tg,F,rs⟩))
   else none
  |none=>none
 else none
end Go.Eng
end
noncomputable section
namespace Go.Eng
open Go Go.RowKit
theorem K8:∀{l l':List Nat},Eo l l'=true→l=l'
 |[],[],_=>rfl
 |a::l,b::l',h=>by
  simp only[Eo,Bool.and_eq_true] at h
  rw[Nat.eq_of_beq_eq_true h.1,K8 h.2]
 |[],_::_,h=>by cases h
 |_::_,[],h=>by cases h
theorem MX:∀{ren:List (Nat × Nat)} {j id:Nat},FU ren j=some id→(j,id)∈ren
 |[],_,_,h=>by simp[FU] at h
 |(j',id')::r,j,id,h=>by
  simp only[FU] at h
  split at h
  ·rename_i hb;cases h;rw[Nat.eq_of_beq_eq_true hb];exact List.mem_cons_self ..
  ·exact List.mem_cons_of_mem _ (MX h)
theorem bI {ren:List (Nat × Nat)}(hn:(ren.map (·.1)).Nodup){j id:Nat}(h:(j,id)∈ren):FU ren j=some id:=by
 induction ren with
 |nil=>cases h
 |cons p r ih=>
  obtain⟨j',id'⟩:=p
  simp only[List.map_cons,List.nodup_cons] at hn
  simp only[FU]
  cases h with
  |head=>simp
  |tail _ h=>
   split
   ·rename_i hb
    have:=Nat.eq_of_beq_eq_true hb
    subst this
    exact absurd (List.mem_map.2 ⟨_,h,rfl⟩) hn.1
   ·exact ih hn.2 h
def Ny (n:Nat):Rf→Prop
 | .c _=>True
 | .e x=>x < n
 | .n x=>x < n
theorem cQ {T:Tab}{n:Nat}{ρ :Nat→Option Nat}{m:Mem}{w:World}{c:AC}{k:Kd}{r:Rf}{v:Value}(h:Dy c=some (k,r))(hc:AB T n ρ m w c v):Ny n r:=by
 cases c<;>simp only[Dy] at h<;>first
  |(cases h;done)
  |(cases h;trivial)
  |(cases h;exact hc.1)
  |(rename_i cc;cases cc<;>simp only[Dy] at h<;>(try split at h)<;>cases h<;>trivial)
theorem eH {T:Tab}{n:Nat}{ρ :Nat→Option Nat}{m:Mem}{w:World}{c:AC}{k:Kd}{r:Rf}{ps:List Pr}{v:Value}(h:fit k c=some (r,ps))(hc:AB T n ρ m w c v):Ny n r:=by
 cases hs:Dy c with
 |none=>unfold fit at h;rw[hs] at h;cases k<;>cases h
 |some kr=>
  obtain⟨k1,r1⟩:=kr
  have:=cQ hs hc
  have e:r1=r:=by
   unfold fit at h
   rw[hs] at h
   have join:(if Kd.beq (Kd.join k1 k) k&& !k.isAny then some (r1,([]:List Pr)) else none)=some (r,ps)→r1=r:=by
    intro h
    split at h
    ·cases h;rfl
    ·cases h
   cases k with
   |int k0 lo hi=>
    cases k1 with
    |int k' lo' hi'=>
     simp only at h
     split at h
     ·injection h with h;injection h
     ·cases h
    |_=>exact join h
   |_=>exact join h
  rw[←e];exact this
theorem Iv {a b:Option (List (Nat × Rf) × List Pr)}{prs:List (Nat × Rf)}{ps:List Pr}(h:Wf a b=some (prs,ps)):∃p1 q1 p2 q2,a=some (p1,q1)∧b=some (p2,q2)∧prs=p1++p2∧ps=q1++q2:=by
 cases a with
 |none=>cases b<;>cases h
 |some a=>
  cases b with
  |none=>cases h
  |some b=>
   obtain⟨p1,q1⟩:=a
   obtain⟨p2,q2⟩:=b
   cases h
   exact⟨p1,q1,p2,q2,rfl,rfl,rfl,rfl⟩
section
variable {T T2:Tab}{ρ ρ2:Nat→Option Nat}{ma mt:Mem}{w:World}{n gn:Nat}{ren:List (Nat × Nat)}
structure W0 (T T2:Tab) (ρ ρ2:Nat→Option Nat) (ma mt:Mem) (w:World) (ren:List (Nat × Nat)):Prop where
 safe:∀b off,AZ T ρ ma w b off→AZ T2 ρ2 mt w b off
 ptr:∀j id,FU ren j=some id→ ρ2 j= ρ id∧(mt.at j).ptrOk=true
mutual
theorem aN (M:W0 T T2 ρ ρ2 ma mt w ren):∀(h c:AC) {prs:List (Nat × Rf)} {ps:List Pr} {v:Value},B6 ren h c=some (prs,ps)→(∀p∈prs,p.1 < n∧T2 p.1=p.2.eval T)→(∀p∈ps,p.holds T)→AB T gn ρ ma w c v→
  AB T2 n ρ2 mt w h v∧∀p∈prs,Ny gn p.2
 | .ptr j off,c,prs,ps,v,hb,hp,hq,hv=>by
  cases c<;>simp only[B6] at hb<;>try (cases hb;done)
  rename_i id off'
  cases hl:FU ren j with
  |none=>rw[hl] at hb;simp at hb
  |some id'=>
   rw[hl] at hb
   simp only at hb
   split at hb
   ·rename_i hc
    cases hb
    rw[Bool.and_eq_true] at hc
    have e1:=Nat.eq_of_beq_eq_true hc.1
    have e2:=Nat.eq_of_beq_eq_true hc.2
    subst e1;subst e2
    obtain⟨b,k1,k2,_⟩:=hv
    obtain⟨k3,k4⟩:=M.ptr j id hl
    exact⟨⟨b,by rw[k3];exact k1,k2,k4⟩,fun p hp=>by cases hp⟩
   ·cases hb
 | .i k lo hi x,c,prs,ps,v,hb,hp,hq,hv=>by
  simp only[B6] at hb
  obtain⟨k1,k2,k3⟩:=IK M hb hp hq hv
  exact⟨⟨k1,k2⟩,k3⟩
 | .b x,c,prs,ps,v,hb,hp,hq,hv=>by
  simp only[B6] at hb
  obtain⟨k1,k2,k3⟩:=IK M hb hp hq hv
  exact⟨⟨k1,k2⟩,k3⟩
 | .v x,c,prs,ps,v,hb,hp,hq,hv=>by
  simp only[B6] at hb
  obtain⟨k1,k2,k3⟩:=IK M hb hp hq hv
  exact⟨⟨k1,k2⟩,k3⟩
 | .s x,c,prs,ps,v,hb,hp,hq,hv=>by
  simp only[B6] at hb
  obtain⟨k1,k2,k3⟩:=IK M hb hp hq hv
  exact⟨⟨k1,k2⟩,k3⟩
 | .ro x ks,c,prs,ps,v,hb,hp,hq,hv=>by
  simp only[B6] at hb
  obtain⟨k1,k2,k3⟩:=IK M hb hp hq hv
  exact⟨⟨k1,k2⟩,k3⟩
 | .agg l,c,prs,ps,v,hb,hp,hq,hv=>by
  cases c<;>simp only[B6] at hb<;>try (cases hb;done)
  rename_i l'
  obtain⟨vs,e,h1⟩:=hv
  obtain⟨k1,k2⟩:=If M l l' hb hp hq h1
  exact⟨⟨vs,e,k1⟩,k2⟩
 | .anyc,c,prs,ps,v,hb,hp,hq,hv=>by
  simp only[B6] at hb
  split at hb
  ·rename_i ha
   cases hb
   exact⟨FY ha hv,fun p hp=>by cases hp⟩
  ·cases hb
 | .any,_,_,_,_,hb,_,_,_=>by simp[B6] at hb
 | .on _ _,_,_,_,_,hb,_,_,_=>by simp[B6] at hb
 | .gd _ _,_,_,_,_,hb,_,_,_=>by simp[B6] at hb
 | .cb _,_,_,_,_,hb,_,_,_=>by simp[B6] at hb
 | .nb _,_,_,_,_,hb,_,_,_=>by simp[B6] at hb
 | .ci _ _,_,_,_,_,hb,_,_,_=>by simp[B6] at hb
 | .cv _,_,_,_,_,hb,_,_,_=>by simp[B6] at hb
 | .pix ..,_,_,_,_,hb,_,_,_=>by simp[B6] at hb
 | .rp ..,_,_,_,_,hb,_,_,_=>by simp[B6] at hb
 | .vec ..,_,_,_,_,hb,_,_,_=>by simp[B6] at hb
 | .fn ..,_,_,_,_,hb,_,_,_=>by simp[B6] at hb
 | .sel ..,_,_,_,_,hb,_,_,_=>by simp[B6] at hb
 | .yl _,_,_,_,_,hb,_,_,_=>by simp[B6] at hb
 | .asl ..,_,_,_,_,hb,_,_,_=>by simp[B6] at hb
 | .rsv ..,_,_,_,_,hb,_,_,_=>by simp[B6] at hb
 | .tup _,_,_,_,_,hb,_,_,_=>by simp[B6] at hb
theorem If (M:W0 T T2 ρ ρ2 ma mt w ren):∀(l l':List AC) {prs:List (Nat × Rf)} {ps:List Pr} {vs:List Value},G8 ren l l'=some (prs,ps)→(∀p∈prs,p.1 < n∧T2 p.1=p.2.eval T)→(∀p∈ps,p.holds T)→AD T gn ρ ma w l' vs→
  AD T2 n ρ2 mt w l vs∧∀p∈prs,Ny gn p.2
 |[],[],prs,ps,vs,hb,_,_,hv=>by
  simp only[G8] at hb
  cases hb
  exact⟨hv,fun p hp=>by cases hp⟩
 |h::l,c::l',prs,ps,vs,hb,hp,hq,hv=>by
  simp only[G8] at hb
  obtain⟨p1,q1,p2,q2,b1,b2,rfl,rfl⟩:=Iv hb
  obtain⟨u,us,e,h1,h2⟩:=hv
  obtain⟨k1,k2⟩:=aN M h c b1 (fun p hpp=>hp p (List.mem_append_left _ hpp)) (fun p hpp=>hq p (List.mem_append_left _ hpp)) h1
  obtain⟨k3,k4⟩:=If M l l' b2 (fun p hpp=>hp p (List.mem_append_right _ hpp)) (fun p hpp=>hq p (List.mem_append_right _ hpp)) h2
  refine⟨⟨u,us,e,k1,k3⟩,fun p hpp=>?_⟩
  rcases List.mem_append.1 hpp with h|h
  ·exact k2 p h
  ·exact k4 p h
 |[],_::_,_,_,_,hb,_,_,_=>by simp[G8] at hb
 |_::_,[],_,_,_,hb,_,_,_=>by simp[G8] at hb
theorem IK (M:W0 T T2 ρ ρ2 ma mt w ren){k:Kd}{x:Nat}{c:AC}{prs:List (Nat × Rf)}{ps:List Pr}{v:Value}(hb:Mm x (fit k c)=some (prs,ps))(hp:∀p∈prs,p.1 < n∧T2 p.1=p.2.eval T)(hq:∀p∈ps,p.holds T)(hv:AB T gn ρ ma w c v):
  x < n∧AP (AZ T2 ρ2 mt w) w k (T2 x) v∧∀p∈prs,Ny gn p.2:=by
 cases hf:fit k c with
 |none=>rw[hf] at hb;cases hb
 |some rq=>
  obtain⟨r,q⟩:=rq
  rw[hf] at hb
  cases hb
  obtain⟨k1,k2⟩:=hp (x,r) (List.mem_singleton.2 rfl)
  simp only at k1 k2
  refine⟨k1,?_,fun p hpp=>?_⟩
  ·rw[k2]
   exact AP.mono (fun b off h=>⟨M.safe b off h,rfl⟩) _ _ _ (Yt hf hv hq)
  ·simp at hpp;subst hpp;exact eH hf hv
end
end
end Go.Eng
end
noncomputable section
namespace Go.Eng
open Go Go.RowKit
theorem SX {ren:List (Nat × Nat)}{ma:Mem}:∀{r:List (Nat × Nat)} {m:Mem} {prs:List (Nat × Rf)} {ps:List Pr},Ge ren ma r m=some (prs,ps)→
  r.length=m.length∧∀(i j id:Nat) (b:Blk),r[i]? =some (j,id)→m[i]? =some b→∃p q,Mz ren b (ma.at id)=some (p,q)∧(∀x∈p,x∈prs)∧∀x∈q,x∈ps
 |[],[],prs,ps,h=>⟨rfl,fun i j id b hi=>by simp at hi⟩
 |(j0,id0)::r,b0::m,prs,ps,h=>by
  simp only[Ge] at h
  obtain⟨p1,q1,p2,q2,h1,h2,rfl,rfl⟩:=Iv h
  obtain⟨k1,k2⟩:=SX h2
  refine⟨by simp[k1],fun i j id b hi hb=>?_⟩
  cases i with
  |zero=>
   simp at hi hb
   obtain⟨rfl,rfl⟩:=hi
   subst hb
   exact⟨p1,q1,h1,fun x hx=>List.mem_append_left _ hx,fun x hx=>List.mem_append_left _ hx⟩
  |succ i=>
   obtain⟨p,q,z1,z2,z3⟩:=k2 i j id b (by simpa using hi) (by simpa using hb)
   exact⟨p,q,z1,fun x hx=>List.mem_append_right _ (z2 x hx),fun x hx=>List.mem_append_right _ (z3 x hx)⟩
 |[],_::_,_,_,h=>by simp[Ge] at h
 |_::_,[],_,_,h=>by simp[Ge] at h
theorem Gw (B:Nat→Blk→Blk):∀(ren:List (Nat × Nat)) (m:Mem),(C9 B ren m).length=m.length
 |[],_=>rfl
 |(j,id)::r,m=>by simp[C9,Gw B r m]
theorem PU (B:Nat→Blk→Blk):∀(ren:List (Nat × Nat)) (m:Mem),(ren.map (·.2)).Nodup→(∀p∈ren,p.2 < m.length)→∀id,(∀j,(j,id)∈ren→(C9 B ren m).at id=B j (m.at id))∧((∀j,(j,id) ∉ ren)→(C9 B ren m).at id=m.at id)
 |[],m,_,_,id=>⟨(fun j h=>by cases h),fun _=>rfl⟩
 |(j0,id0)::r,m,hn,hl,id=>by
  simp only[List.map_cons,List.nodup_cons] at hn
  obtain⟨k1,k2⟩:=PU B r m hn.2 (fun p hp=>hl p (List.mem_cons_of_mem _ hp)) id
  have hid0:id0 < (C9 B r m).length:=by rw[Gw];exact hl (j0,id0) (List.mem_cons_self ..)
  have hat:Mem.at ((C9 B r m).set id0 (B j0 (m.at id0))) id=if id=id0 then B j0 (m.at id0) else (C9 B r m).at id:=by
   unfold Mem.at
   rw[List.getElem?_set]
   by_cases h:id0=id
   ·subst h;simp[hid0]
   ·rw[if_neg h,if_neg (fun e=>h e.symm)]
  have e:C9 B ((j0,id0)::r) m=(C9 B r m).set id0 (B j0 (m.at id0)):=rfl
  rw[e,hat]
  refine⟨fun j hj=>?_,fun hno=>?_⟩
  ·cases hj with
   |head=>rw[if_pos rfl]
   |tail _ hj=>
    have hne:id≠id0:=fun h=>hn.1 (List.mem_map.2 ⟨_,hj,h⟩)
    rw[if_neg hne];exact k1 j hj
  ·have hne:id≠id0:=fun h=>hno j0 (by rw[h];exact List.mem_cons_self ..)
   rw[if_neg hne]
   exact k2 fun j hj=>hno j (List.mem_cons_of_mem _ hj)
theorem R5:∀(bs:List (List Kd × TypeId)) (x j:Nat),j < bs.length→∃l e,(I5 x bs).at j= .cells l e
 |[],_,j,h=>by simp at h
 |(ks,e)::r,x,0,_=>⟨_,_,rfl⟩
 |(ks,e)::r,x,j+1,h=>by
  have:=R5 r (x+ks.length) j (by simpa using h)
  simpa [I5,Mem.at] using this
theorem Mb:∀(bs:List (List Kd × TypeId)) (x:Nat),(I5 x bs).length=bs.length
 |[],_=>rfl
 |_::r,x=>by simp[I5,Mb r]
structure So (T T2:Tab) (n gn gn':Nat) (ren:List (Nat × Nat)) (nt na:Nat) (ρ2 ρ':Nat→Option Nat) (m2 mo:Mem) (w':World) (rs:List Rf):Prop where
 old:∀x r,rs[x]? =some r→T2 x=r.eval T∧Ny gn' r
 new:∀x,n≤x→∀k,x < n+k→gn+k=gn'→gn+(x - n) < gn'∧T (gn+(x - n))=T2 x
 safe:∀b off,AZ T2 ρ2 m2 w' b off→AZ T ρ' mo w' b off
 ptr:∀j l e id,m2.at j= .cells l e→Ro ren nt na j=some id→ ρ' id= ρ2 j∧(mo.at id).ptrOk=true
section
variable {T T2:Tab}{n k gn gn' nt na:Nat}{ren:List (Nat × Nat)}{ρ2 ρ':Nat→Option Nat}{m2 mo:Mem}{w':World}{rs:List Rf}
mutual
theorem ZN (B:So T T2 n gn gn' ren nt na ρ2 ρ' m2 mo w' rs)(hk:gn+k=gn'):∀(h:AC) (v:Value),AB T2 (n+k) ρ2 m2 w' h v→AB T gn' ρ' mo w' (up1 n gn ren nt na m2 rs h) v
 | .i kk lo hi x,v,⟨h0,i,h1,h2,h3⟩=>by
  simp only[up1]
  split
  ·rename_i hx
   obtain⟨z1,z2⟩:=B.new x (Nat.le_of_ble_eq_true hx) k h0 hk
   exact⟨z1,i,by rw[z2];exact h1,h2,h3⟩
  ·split
   ·rename_i y hy
    obtain⟨z1,z2⟩:=B.old x _ hy
    exact⟨z2,i,by rw[←h1,z1];rfl,h2,h3⟩
   ·rw[h2];rfl
 | .b x,v,⟨h0,i,h1,h2⟩=>by
  simp only[up1]
  split
  ·rename_i hx
   obtain⟨z1,z2⟩:=B.new x (Nat.le_of_ble_eq_true hx) k h0 hk
   exact⟨z1,i,by rw[z2];exact h1,h2⟩
  ·split
   ·rename_i y hy
    obtain⟨z1,z2⟩:=B.old x _ hy
    exact⟨z2,i,by rw[←h1,z1];rfl,h2⟩
   ·rw[h2];rfl
 | .v x,v,⟨h0,h1,h2⟩=>by
  simp only[up1]
  split
  ·rename_i hx
   obtain⟨z1,z2⟩:=B.new x (Nat.le_of_ble_eq_true hx) k h0 hk
   exact⟨z1,by rw[z2];exact h1,h2⟩
  ·split
   ·rename_i y hy
    obtain⟨z1,z2⟩:=B.old x _ hy
    exact⟨z2,by rw[←h1,z1];rfl,h2⟩
   ·exact h2
 | .s x,v,⟨h0,i,h1,h2⟩=>by
  simp only[up1]
  split
  ·rename_i hx
   obtain⟨z1,z2⟩:=B.new x (Nat.le_of_ble_eq_true hx) k h0 hk
   exact⟨z1,i,by rw[z2];exact h1,h2⟩
  ·split
   ·rename_i y hy
    obtain⟨z1,z2⟩:=B.old x _ hy
    exact⟨z2,i,by rw[←h1,z1];rfl,h2⟩
   ·rw[h2.1];rfl
 | .ro x ks,v,⟨h0,h1⟩=>by
  simp only[up1]
  split
  ·rename_i hx
   obtain⟨z1,z2⟩:=B.new x (Nat.le_of_ble_eq_true hx) k h0 hk
   exact⟨z1,by rw[z2];exact AP.mono (fun b off h=>⟨B.safe b off h,rfl⟩) _ _ _ h1⟩
  ·split
   ·rename_i y hy
    obtain⟨z1,z2⟩:=B.old x _ hy
    exact⟨z2,by rw[show T y=T2 x by rw[z1];rfl];exact AP.mono (fun b off h=>⟨B.safe b off h,rfl⟩) _ _ _ h1⟩
   ·exact h1.one
 | .vec id x ks,v,⟨h0,_,h1,_⟩=>by
  simp only[up1]
  split
  ·rename_i hx
   obtain⟨z1,z2⟩:=B.new x (Nat.le_of_ble_eq_true hx) k h0 hk
   exact⟨z1,by rw[z2];exact AP.mono (fun b off h=>⟨B.safe b off h,rfl⟩) _ _ _ h1⟩
  ·split
   ·rename_i y hy
    obtain⟨z1,z2⟩:=B.old x _ hy
    exact⟨z2,by rw[show T y=T2 x by rw[z1];rfl];exact AP.mono (fun b off h=>⟨B.safe b off h,rfl⟩) _ _ _ h1⟩
   ·exact h1.one
 | .ptr j off,v,⟨b,h1,h2,h3⟩=>by
  simp only[up1]
  split
  ·rename_i l e id hj hr
   obtain⟨z1,z2⟩:=B.ptr j l e id hj hr
   exact⟨b,by rw[z1];exact h1,h2,z2⟩
  ·rw[h2];rfl
 | .cb b,v,h=>h
 | .ci kk i,v,h=>h
 | .cv c,v,h=>h
 | .agg l,v,⟨vs,h1,h2⟩=>⟨vs,h1,R9 B hk l vs h2⟩
 | .tup l,v,⟨vs,h1,h2⟩=>⟨vs,h1,R9 B hk l vs h2⟩
 | .any,_,_=>trivial
 | .anyc,_,_=>trivial
 | .on _ _,_,_=>trivial
 | .gd _ _,_,_=>trivial
 | .nb _,_,_=>trivial
 | .pix ..,_,_=>trivial
 | .rp ..,_,_=>trivial
 | .fn ..,_,_=>trivial
 | .sel ..,_,_=>trivial
 | .yl _,_,_=>trivial
 | .asl ..,_,_=>trivial
 | .rsv ..,_,_=>trivial
theorem R9 (B:So T T2 n gn gn' ren nt na ρ2 ρ' m2 mo w' rs)(hk:gn+k=gn'):∀(l:List AC) (vs:List Value),AD T2 (n+k) ρ2 m2 w' l vs→AD T gn' ρ' mo w' (upL n gn ren nt na m2 rs l) vs
 |[],_,h=>h
 |c::l,vs,⟨u,us,h1,h2,h3⟩=>⟨u,us,h1,ZN B hk c u h2,R9 B hk l us h3⟩
end
end
end Go.Eng
end
noncomputable section
namespace Go.Eng
open Go Go.RowKit
theorem Qg {ren:List (Nat × Nat)}{ma:Mem}:∀{r:List (Nat × Nat)} {m:Mem} {prs:List (Nat × Rf)} {ps:List Pr},Ge ren ma r m=some (prs,ps)→
  ∀x∈prs,∃(i j id:Nat) (b:Blk) (p:List (Nat × Rf)) (q:List Pr),r[i]? =some (j,id)∧m[i]? =some b∧Mz ren b (ma.at id)=some (p,q)∧x∈p
 |[],[],prs,ps,h,x,hx=>by simp only[Ge] at h;cases h;cases hx
 |(j0,id0)::r,b0::m,prs,ps,h,x,hx=>by
  simp only[Ge] at h
  obtain⟨p1,q1,p2,q2,h1,h2,rfl,rfl⟩:=Iv h
  rcases List.mem_append.1 hx with hx|hx
  ·exact⟨0,j0,id0,b0,p1,q1,rfl,rfl,h1,hx⟩
  ·obtain⟨i,j,id,b,p,q,z1,z2,z3,z4⟩:=Qg h2 x hx
   exact⟨i+1,j,id,b,p,q,by simpa using z1,by simpa using z2,z3,z4⟩
 |[],_::_,_,_,h,_,_=>by simp[Ge] at h
 |_::_,[],_,_,h,_,_=>by simp[Ge] at h
theorem eJ {T2:Tab}{n n':Nat}{ρ2 ρ2':Nat→Option Nat}{m m':Mem}{w w':World}(hr:∀id,(m.at id).ptrOk=true→ ρ2' id= ρ2 id){h:AC}{u u':Value}(hd:det h=true)(h1:AB T2 n ρ2 m w h u)(h2:AB T2 n' ρ2' m' w' h u'):u'=u:=by
 cases h<;>simp only[det] at hd<;>try (cases hd;done)
 case cb b=>rw[show u=_ from h1,show u'=_ from h2]
 case b x=>
  obtain⟨_,b,e1,e2⟩:=h1
  obtain⟨_,b',e3,e4⟩:=h2
  rw[e1] at e3;cases e3
  rw[e2,e4]
 case ci k i=>rw[show u=_ from h1,show u'=_ from h2]
 case i k lo hi x=>
  obtain⟨_,b,e1,e2,_⟩:=h1
  obtain⟨_,b',e3,e4,_⟩:=h2
  rw[e1] at e3;cases e3
  rw[e2,e4]
 case cv c=>rw[show u=_ from h1,show u'=_ from h2]
 case v x=>
  obtain⟨_,e1,_⟩:=h1
  obtain⟨_,e3,_⟩:=h2
  rw[e1] at e3;injection e3 with e3;exact e3.symm
 case s x=>
  obtain⟨_,b,e1,e2⟩:=h1
  obtain⟨_,b',e3,e4⟩:=h2
  rw[e1] at e3;cases e3
  rw[e2.1,e4.1]
 case ptr id off=>
  obtain⟨b,e1,e2,e3⟩:=h1
  obtain⟨b',e4,e5,_⟩:=h2
  rw[hr id e3,e1] at e4
  cases e4
  rw[e2,e5]
theorem OO {T T2:Tab}{n n' gn gn':Nat}{ρ ρ2 ρ2' ρ':Nat→Option Nat}{ma mt m2 mo:Mem}{w w':World}{up:AC→AC}(hst:AI T gn ρ ma w ρ' mo w')(hn:gn≤gn')(hr:∀id,(mt.at id).ptrOk=true→ ρ2' id= ρ2 id)
  (hup:∀h v,AB T2 n' ρ2' m2 w' h v→AB T gn' ρ' mo w' (up h) v):∀{l0 l l':List AC} {vs vs':List Value},l0.length=l.length→l.length=l'.length→AD T2 n ρ2 mt w l0 vs→AD T gn ρ ma w l vs→AD T2 n' ρ2' m2 w' l' vs'→AD T gn' ρ' mo w' (Pf up l0 l l') vs'
 |[],[],[],vs,vs',_,_,_,_,h=>h
 |h0::l0,c::l,h::l',vs,vs',e1,e2,⟨u0,us0,f0,a1,a2⟩,⟨u1,us1,f,b1,b2⟩,⟨u,us,f3,c1,c2⟩=>by
  subst f0;subst f3
  injection f with f1 f2
  subst f1;subst f2
  refine⟨u,us,rfl,?_,OO hst hn hr hup (by simpa using e1) (by simpa using e2) a2 b2 c2⟩
  split
  ·rename_i hc
   rw[Bool.and_eq_true] at hc
   have e:=AC.beq_eq _ _ hc.2
   subst e
   rw[eJ hr hc.1 a1 c1]
   exact AB.mono0 hst hn _ _ b1
  ·exact hup _ _ c1
 |[],_::_,_,_,_,e,_,_,_,_=>by simp at e
 |_::_,[],_,_,_,e,_,_,_,_=>by simp at e
 |[],[],_::_,_,_,_,e,_,_,_=>by simp at e
 |_::_,_::_,[],_,_,_,e,_,_,_=>by simp at e
theorem ZK {T T2:Tab}{n' gn':Nat}{ρ2' ρ':Nat→Option Nat}{m2 mo:Mem}{w':World}{up:AC→AC}(hup:∀h v,AB T2 n' ρ2' m2 w' h v→AB T gn' ρ' mo w' (up h) v):∀{l:List AC} {vs:List Value},AD T2 n' ρ2' m2 w' l vs→AD T gn' ρ' mo w' (l.map up) vs
 |[],_,h=>h
 |c::l,vs,⟨u,us,e,h1,h2⟩=>⟨u,us,e,hup _ _ h1,ZK hup h2⟩
theorem dy (a b:Mem)(id:Nat):Mem.at (a++b) id=if id < a.length then a.at id else b.at (id - a.length):=by
 unfold Mem.at
 rw[List.getElem?_append]
 split<;>rfl
theorem eF (m:Mem)(nt i:Nat)(f:Blk→Blk):Mem.at ((m.drop nt).map f) i=if nt+i < m.length then f (m.at (nt+i)) else .pad:=by
 unfold Mem.at
 rw[List.getElem?_map,List.getElem?_drop]
 by_cases h:nt+i < m.length
 ·rw[if_pos h,List.getElem?_eq_getElem h];rfl
 ·rw[if_neg h,List.getElem?_eq_none (by omega)];rfl
theorem X4 {P:Program}{f:FuncId}{t:Ak}(ht:Aq P f t):∀(T:Tab) (ys:Ys) (args:List AC) (pc:PC) (ma:Mem) (g:G) (c':AC) (mo:Mem) (g':G),R1 t ys f args pc ma g=some (c',mo,g')→
  AN g g'∧(Agr T g'→Aj T g'→pcv T pc→BD T g pc→∀ ρ w vs,AD T g.n ρ ma w args vs→AG T g.n ρ ma w→
   (∃fn,P.funcs[f]? =some fn∧fn.body.isSome=true∧(fn.name== "runtime.NumGoroutine")=false)∧Calls P f (vs:List Value).toArray w (JA T g ρ ma w c' mo g')):=by
 intro T ys args pc ma g c' mo g' hap
 obtain⟨lp0,ht⟩:=ht
 unfold R1 at hap
 simp only at hap
 generalize hren:RV t.args args=ren at hap
 split at hap
 ·rename_i hc
  simp only[Bool.and_eq_true] at hc
  obtain⟨⟨⟨hc1,hc2⟩,hc3⟩,hc4⟩:=hc
  split at hap
  ·rename_i prs ps hb
   split at hap
   ·rename_i hc5
    have hfst:=K8 hc5
    simp only[Option.some.injEq,Prod.mk.injEq] at hap
    obtain⟨e1,e2,e3⟩:=hap
    generalize hrs:prs.map (·.2)=rs at e1 e2 e3
    obtain⟨p1,q1,p2,q2,hb1,hb2,hp12,hq12⟩:=Iv hb
    generalize hg1:g.needAll pc (ps++t.pre.map fun x=>(⟨x.1,x.2,rs⟩:Pr))=g1 at e3
    have n1:g1.n=g.n:=by rw[←hg1];exact (DR _ _ _).1
    have gr1:AN g g1:=by rw[←hg1];exact AN.need _ _ _
    have gr2:AN g1 g':=by rw[←e3];exact AN.push _ _
    refine⟨gr1.trans gr2,fun hA hob hpc hpk ρ w vs hvs hm=>?_⟩
    have hgn':g.n+t.outs.length=g'.n:=by rw[←e3,BU,n1];simp
    have hnew:New T g1.n (t.outs.map fun x=>(⟨x.1,x.2,rs⟩:Ex)):=by rw[←e3] at hA;exact hA.new
    have hps:∀p∈ps++t.pre.map fun x=>(⟨x.1,x.2,rs⟩:Pr),p.holds T:=by
     have:=hob.of gr2
     rw[←hg1] at this
     exact Aj.need this hpc
    have hplen:prs.length=t.n:=by have:=congrArg List.length hfst;simpa using this
    have hrl:rs.length=t.n:=by rw[←hrs];simpa using hplen
    have hprs:∀p∈prs,p.1 < t.n∧rs[p.1]? =some p.2:=fun p hp=>by
     obtain⟨i,hi⟩:=List.mem_iff_getElem?.1 hp
     have h1:(prs.map (·.1))[i]? =some p.1:=by simp[hi]
     rw[hfst] at h1
     obtain⟨h2,h3⟩:=List.getElem?_eq_some_iff.1 h1
     simp at h2 h3
     subst h3
     exact⟨h2,by rw[←hrs];simp[hi]⟩
    let us:=rs.map (Rf.eval T)
    have husl:us.length=t.n:=by simp[us,hrl]
    let T2:Tab:=⟨fun x=>(t.us us).getD x default,fun b off=>w.heap.size≤b∨AZ T ρ ma w b off,lp0,0⟩
    have hT2:∀j u,(t.us us)[j]? =some u→T2 j=u:=fun j u hj=>by
     show (t.us us).getD j default=u
     simp[List.getD,hj]
    have hT2o:∀x r,rs[x]? =some r→T2 x=r.eval T:=fun x r hx=>hT2 x _ (by
     unfold Ak.us
     have hxl:=(List.getElem?_eq_some_iff.1 hx).1
     rw[List.getElem?_append_left (by omega)]
     simp[us,hx])
    have hT2n:∀i,i < t.outs.length→T2 (t.n+i)=T (g.n+i):=fun i hi=>by
     have h1:=hT2 (t.n+i) (t.outs[i].2 us) (by
      unfold Ak.us
      rw[List.getElem?_append_right (by omega),husl]
      simp[hi])
     have h2:=hnew i ⟨t.outs[i].1,t.outs[i].2,rs⟩ (by simp[hi])
     rw[n1] at h2
     rw[h1,h2]
     rfl
    have hfr:=K8 hc1
    have hnd:=MP hc2
    have hnd1:(ren.map (·.1)).Nodup:=by rw[hfr];exact List.nodup_range
    have hlt:∀p∈ren,p.2 < ma.length:=fun p hp=>Bd (List.all_eq_true.1 hc3 p hp)
    have hix:∀j id,(j,id)∈ren→ren[j]? =some (j,id)∧j < t.m.length:=fun j id hj=>by
     obtain⟨i,hi⟩:=List.mem_iff_getElem?.1 hj
     have h1:(ren.map (·.1))[i]? =some j:=by simp[hi]
     rw[hfr] at h1
     obtain⟨h2,h3⟩:=List.getElem?_eq_some_iff.1 h1
     simp at h2 h3
     subst h3
     exact⟨hi,h2⟩
    have hall:∀j,j < t.m.length→∃id,(j,id)∈ren:=fun j hj=>by
     have:j∈ren.map (·.1):=by rw[hfr];simpa using hj
     obtain⟨p,hp,e⟩:=List.mem_map.1 this
     exact⟨p.2,by rw[←e];exact hp⟩
    obtain⟨_,hbat⟩:=SX hb2
    have hblk:∀j id,(j,id)∈ren→∃l l' e p q,t.m.at j= .cells l e∧ma.at id= .cells l' e∧G8 ren l l'=some (p,q)∧(∀x∈p,x∈prs)∧∀x∈q,x∈ps:=fun j id hj=>by
     obtain⟨h1,h2⟩:=hix j id hj
     obtain⟨l,e,hl⟩:=R5 t.blks (Dw t.sh).length j (by have:=Mb t.blks (Dw t.sh).length;unfold Ak.m at h2;omega)
     have hl':t.m.at j= .cells l e:=hl
     have hget:t.m[j]? =some (.cells l e):=by
      rw[←hl']
      simp[Mem.at,List.getElem?_eq_getElem h2]
     obtain⟨p,q,h3,h4,h5⟩:=hbat j j id _ h1 hget
     cases hx:ma.at id with
     |cells l' e'=>
      rw[hx] at h3
      simp only[Mz] at h3
      split at h3
      ·rename_i he
       rw[←Nat.eq_of_beq_eq_true he]
       exact⟨l,l',e,p,q,hl',rfl,h3,fun x hx=>by rw[hp12];exact List.mem_append_right _ (h4 x hx),fun x hx=>by rw[hq12];exact List.mem_append_right _ (h5 x hx)⟩
      ·cases h3
     |_=>rw[hx] at h3;simp[Mz] at h3
    let ρ2:Nat→Option Nat:=fun j=>(FU ren j).bind ρ
    have hρ2:∀j id,(j,id)∈ren→ ρ2 j= ρ id:=fun j id hj=>by
     show (FU ren j).bind ρ = ρ id
     rw[bI hnd1 hj];rfl
    have htm:∀j,(t.m.at j).tracked=true→∃id,(j,id)∈ren:=fun j hj=>by
     refine hall j ?_
     rcases Nat.lt_or_ge j t.m.length with h|h
     ·exact h
     ·rw[Mem.at_ge h] at hj;cases hj
    have M:W0 T T2 ρ ρ2 ma t.m w ren:=by
     refine⟨fun b off hs=>⟨hs.1,.inr hs,fun j=>?_⟩,fun j id hj=>?_⟩
     ·by_cases hj:j < t.m.length
      ·obtain⟨id,hid⟩:=hall j hj
       obtain⟨l,l',e,_,_,z1,z2,_⟩:=hblk j id hid
       rw[z1]
       have:=hs.2.2 id
       rw[z2] at this
       show ρ2 j≠some b
       rw[hρ2 j id hid]
       exact this
      ·rw[Mem.at_ge (by omega)];trivial
     ·have hmem:=MX hj
      obtain⟨l,l',e,_,_,z1,_⟩:=hblk j id hmem
      exact⟨hρ2 j id hmem,by rw[z1];rfl⟩
    have hvals:∀p∈prs,p.1 < t.n∧T2 p.1=p.2.eval T:=fun p hp=>⟨(hprs p hp).1,hT2o _ _ (hprs p hp).2⟩
    have hps1:∀p∈ps,p.holds T:=fun p hp=>hps p (List.mem_append_left _ hp)
    obtain⟨hargs2,hlt1⟩:=If (n:=t.n) M t.args args hb1 (fun p hp=>hvals p (by rw[hp12];exact List.mem_append_left _ hp)) (fun p hp=>hps1 p (by rw[hq12];exact List.mem_append_left _ hp)) hvs
    have hcell:∀j id,(j,id)∈ren→∃l l' e b vs0,t.m.at j= .cells l e∧ma.at id= .cells l' e∧ ρ id=some b∧w.heap[b]? =some (.cells (vs0:List Value).toArray e (0,0))∧AD T g.n ρ ma w l' vs0∧AD T2 t.n ρ2 t.m w l vs0:=fun j id hj=>by
     obtain⟨l,l',e,p,q,z1,z2,z3,z4,z5⟩:=hblk j id hj
     have:=hm.blk id
     rw[z2] at this
     obtain⟨b,vs0,y1,y2,y3⟩:=this
     exact⟨l,l',e,b,vs0,z1,z2,y1,y2,y3,(If (n:=t.n) M l l' z3 (fun x hx=>hvals x (z4 x hx)) (fun x hx=>hps1 x (z5 x hx)) y3).1⟩
    have hrlt:∀p∈prs,Ny g.n p.2:=fun p hp=>by
     rw[hp12] at hp
     rcases List.mem_append.1 hp with h|h
     ·exact hlt1 p h
     ·obtain⟨i,j,id,b,pp,qq,z1,z2,z3,z4⟩:=Qg hb2 p h
      have hj:(j,id)∈ren:=List.mem_iff_getElem?.2 ⟨i,z1⟩
      obtain⟨w1,w2⟩:=hix j id hj
      obtain⟨l,l',e,pb,qb,y1,y2,y3,y4,y5⟩:=hblk j id hj
      have hij:i=j:=by
       have h1:(ren.map (·.1))[i]? =some j:=by simp[z1]
       rw[hfr] at h1
       obtain⟨_,h3⟩:=List.getElem?_eq_some_iff.1 h1
       simpa using h3
      subst hij
      have hbe:b= .cells l e:=by
       have:t.m.at i=b:=by simp[Mem.at,z2]
       rw[←this,y1]
      rw[hbe,y2] at z3
      simp only[Mz,(DB e e).2 rfl,if_true] at z3
      rw[y3] at z3
      cases z3
      have:=hm.blk id
      rw[y2] at this
      obtain⟨bb,vs0,_,_,x3⟩:=this
      exact (If (n:=t.n) M l l' y3 (fun x hx=>hvals x (y4 x hx)) (fun x hx=>hps1 x (y5 x hx)) x3).2 p z4
    have hmem2:AG T2 t.n ρ2 t.m w:=by
     refine⟨fun j=>?_,fun j j' b h1 h2 h3 h4=>?_,fun b off hb=> .inl hb⟩
     ·by_cases hj:j < t.m.length
      ·obtain⟨id,hid⟩:=hall j hj
       obtain⟨l,l',e,b,vs0,z1,z2,z3,z4,z5,z6⟩:=hcell j id hid
       rw[z1]
       exact⟨b,vs0,by rw[hρ2 j id hid];exact z3,z4,z6⟩
      ·rw[Mem.at_ge (by omega)];trivial
     ·obtain⟨id,hid⟩:=htm j h1
      obtain⟨id',hid'⟩:=htm j' h2
      rw[hρ2 j id hid] at h3
      rw[hρ2 j' id' hid'] at h4
      obtain⟨_,_,_,_,_,_,z2,_⟩:=hcell j id hid
      obtain⟨_,_,_,_,_,_,z2',_⟩:=hcell j' id' hid'
      have e:=hm.inj id id' b (by rw[z2];rfl) (by rw[z2'];rfl) h3 h4
      subst e
      obtain⟨i1,k1⟩:=List.mem_iff_getElem?.1 hid
      obtain⟨i2,k2⟩:=List.mem_iff_getElem?.1 hid'
      have a1:(ren.map (·.2))[i1]? =some id:=by simp[k1]
      have a2:(ren.map (·.2))[i2]? =some id:=by simp[k2]
      have:=(List.getElem?_inj (List.getElem?_eq_some_iff.1 a1).1 hnd).1 (a1.trans a2.symm)
      subst this
      rw[k1] at k2
      cases k2
      rfl
    have hpre:∀p∈t.pre,p.2 us:=fun p hp=>hps ⟨p.1,p.2,rs⟩ (List.mem_append_right _ (List.mem_map.2 ⟨p,hp,rfl⟩))
    obtain⟨hfn,hcalls⟩:=ht T2 us rfl husl hT2 hpre ρ2 w vs hargs2 hmem2
    refine⟨hfn,hcalls.mono fun ee w' hh=>?_⟩
    obtain⟨v, ρ2',rfl,S2,M2,H2⟩:=hh
    have hnt:t.m.length≤t.m'.length:=Nat.le_of_ble_eq_true hc4
    have hr2:∀j,(t.m.at j).ptrOk=true→ ρ2' j= ρ2 j:=fun j hj=>(S2.rho j hj).1
    let ρ':Nat→Option Nat:=fun id=>if id < ma.length then ρ id else ρ2' (t.m.length+(id - ma.length))
    have hρlt:∀id,id < ma.length→ ρ' id= ρ id:=fun id h=>if_pos h
    have hρge:∀id,ma.length≤id→ ρ' id= ρ2' (t.m.length+(id - ma.length)):=fun id h=>if_neg (by omega)
    obtain hup:∃up,up=up1 t.n g.n ren t.m.length ma.length t.m' rs:=⟨_,rfl⟩
    obtain⟨up,hup⟩:=hup
    rw[←hup] at e1 e2
    have hlen:=Gw (fun j b=>KR up (t.m.at j) b (t.m'.at j)) ren ma
    have hput:=fun id=>PU (fun j b=>KR up (t.m.at j) b (t.m'.at j)) ren ma hnd hlt id
    have hmo:∀id,mo.at id=if id < ma.length then Mem.at (C9 (fun j b=>KR up (t.m.at j) b (t.m'.at j)) ren ma) id else if t.m.length+(id - ma.length) < t.m'.length then TN up (t.m'.at (t.m.length+(id - ma.length))) else .pad:=fun id=>by
     rw[←e2,dy,hlen,eF]
    have touch:∀j id,(j,id)∈ren→mo.at id=KR up (t.m.at j) (ma.at id) (t.m'.at j):=fun j id hj=>by
     rw[hmo,if_pos (hlt _ hj)]
     exact (hput id).1 j hj
    have keep:∀id,id < ma.length→(∀j,(j,id) ∉ ren)→mo.at id=ma.at id:=fun id h hno=>by
     rw[hmo,if_pos h]
     exact (hput id).2 hno
    have fresh:∀id,ma.length≤id→mo.at id=if t.m.length+(id - ma.length) < t.m'.length then TN up (t.m'.at (t.m.length+(id - ma.length))) else .pad:=fun id h=>by
     rw[hmo,if_neg (by omega)]
    have upB:∀j id,(j,id)∈ren→(∃l e,mo.at id= .cells l e)∨mo.at id= .gone:=fun j id hj=>by
     obtain⟨l,l',e,b,vs0,z1,z2,_⟩:=hcell j id hj
     rw[touch j id hj,z1,z2]
     cases t.m'.at j with
     |cells l3 e3=>
      simp only[KR]
      split
      ·exact .inl ⟨_,_,rfl⟩
      ·exact .inr rfl
     |_=>exact .inr rfl
    have newB:∀id,ma.length≤id→(mo.at id).tracked=true→∃l e,t.m'.at (t.m.length+(id - ma.length))= .cells l e∧mo.at id= .cells (l.map up) e:=fun id h htr=>by
     rw[fresh id h] at htr⊢
     split at htr
     ·rename_i hx
      rw[if_pos hx]
      cases hy:t.m'.at (t.m.length+(id - ma.length)) with
      |cells l e=>exact⟨l,e,rfl,rfl⟩
      |_=>rw[hy] at htr;cases htr
     ·cases htr
    have newGe:∀id b,ma.length≤id→(mo.at id).tracked=true→ ρ' id=some b→w.heap.size≤b:=fun id b h htr hb=>by
     obtain⟨l,e,h1,_⟩:=newB id h htr
     rw[hρge id h] at hb
     exact S2.fresh _ b (Mem.at_ge (by omega)) (by rw[h1];rfl) hb
    have trOld:∀id,id < ma.length→(mo.at id).tracked=true→(ma.at id).tracked=true:=fun id h htr=>by
     by_cases hex:∃j,(j,id)∈ren
     ·obtain⟨j,hj⟩:=hex
      obtain⟨l,l',e,b,vs0,z1,z2,_⟩:=hcell j id hj
      rw[z2];rfl
     ·rw[keep id h (fun j hj=>hex ⟨j,hj⟩)] at htr;exact htr
    have unt2:∀k,(∀id,(ma.at id).tracked=true→ ρ id≠some k)→∀j,(t.m.at j).tracked=true→ ρ2 j≠some k:=fun k hno j hj=>by
     obtain⟨id,hid⟩:=htm j hj
     obtain⟨l,l',e,b,vs0,z1,z2,_⟩:=hcell j id hid
     rw[hρ2 j id hid]
     exact hno id (by rw[z2];rfl)
    have keepHeap:∀id b,(ma.at id).tracked=true→(∀j,(j,id) ∉ ren)→ ρ id=some b→w'.heap[b]? =w.heap[b]? :=fun id b htr hno hb=>by
     refine S2.old b (hm.lt htr hb) fun j hj he=>?_
     obtain⟨id',hid'⟩:=htm j hj
     obtain⟨l,l',e,b',vs0,z1,z2,_⟩:=hcell j id' hid'
     rw[hρ2 j id' hid'] at he
     have:=hm.inj id id' b htr (by rw[z2];rfl) hb he
     subst this
     exact hno j hid'
    have idlt:∀id,ma.at id≠ .pad→id < ma.length:=fun id h=>by
     rcases Nat.lt_or_ge id ma.length with hh|hh
     ·exact hh
     ·exact absurd (Mem.at_ge hh) h
    have hst:AI T g.n ρ ma w ρ' mo w':={
     os:=S2.os
     tape:=S2.tape
     output:=S2.output
     size:=S2.size
     mlen:=fun id h=>by
      by_cases hex:∃j,(j,id)∈ren
      ·obtain⟨j,hj⟩:=hex
       rcases upB j id hj with⟨l,e,h1⟩|h1<;>rw[h1]<;>exact fun h=>by cases h
      ·rw[keep id (idlt id h) (fun j hj=>hex ⟨j,hj⟩)];exact h
     rho:=fun id h=>by
      have hil:=idlt id (BQ h)
      refine⟨hρlt id hil,?_⟩
      by_cases hex:∃j,(j,id)∈ren
      ·obtain⟨j,hj⟩:=hex
       rcases upB j id hj with⟨l,e,h1⟩|h1<;>rw[h1]<;>rfl
      ·rw[keep id hil (fun j hj=>hex ⟨j,hj⟩)];exact h
     untr:=fun id h htr=>trOld id (idlt id h) htr
     fresh:=fun id b h htr hb=>by
      rcases Nat.lt_or_ge id ma.length with hil|hil
      ·have:=trOld id hil htr
       rw[h] at this;cases this
      ·exact newGe id b hil htr hb
     old:=fun k hk hno=>S2.old k hk (unt2 k hno)
     tok:=fun id x ks e hx=>by
      have hil:=idlt id (by rw[hx];exact fun h=>by cases h)
      have hno:∀j,(j,id) ∉ ren:=fun j hj=>by
       obtain⟨l,l',e,b,vs0,z1,z2,_⟩:=hcell j id hj
       rw[hx] at z2;cases z2
      exact .inl ⟨by rw[keep id hil hno];exact hx,hρlt id hil,fun b hb=>keepHeap id b (by rw[hx];rfl) hno hb⟩ }
    have hgle:g.n≤g'.n:=by omega
    have B:So T T2 t.n g.n g'.n ren t.m.length ma.length ρ2' ρ' t.m' mo w' rs:=by
     refine⟨fun x r hx=>⟨hT2o x r hx,?_⟩,fun x hx k hxk hkk=>?_,fun b off hs=>?_,fun j l e id hj hr=>?_⟩
     ·rw[←hrs,List.getElem?_map,Option.map_eq_some_iff] at hx
      obtain⟨p,hp,rfl⟩:=hx
      have:=hrlt p (List.mem_iff_getElem?.2 ⟨x,hp⟩)
      revert this
      cases p.2 with
      |c u=>exact fun _=>trivial
      |e y=>exact fun h=>Nat.lt_of_lt_of_le h hgle
      |n y=>exact fun h=>Nat.lt_of_lt_of_le h hgle
     ·have hkk':k=t.outs.length:=by omega
      have:=hT2n (x - t.n) (by omega)
      rw[show t.n+(x - t.n)=x by omega] at this
      exact⟨by omega,this.symm⟩
     ·obtain⟨s1,s2,s3⟩:=hs
      have s2':w.heap.size≤b∨AZ T ρ ma w b off:=s2
      refine⟨s1,?_,fun id=>?_⟩
      ·rcases s2' with h|h
       ·exact hm.fr b off h
       ·exact h.2.1
      ·rcases Nat.lt_or_ge id ma.length with hil|hil
       ·have base:match ma.at id with| .pad| .gone=>True| .cells _ _| .lp _ _=> ρ id≠some b| .tok x ks _=> ρ id=some b→off < B4 T x ks:=by
         rcases s2' with h|h
         ·have no:(ma.at id).tracked=true→ ρ id≠some b:=fun htr he=>by have:=hm.lt htr he;omega
          cases hx:ma.at id with
          |pad=>trivial
          |gone=>trivial
          |cells=>exact no (by rw[hx];rfl)
          |lp=>exact no (by rw[hx];rfl)
          |tok=>exact fun he=>absurd he (no (by rw[hx];rfl))
         ·exact h.2.2 id
        by_cases hex:∃j,(j,id)∈ren
        ·obtain⟨j,hj⟩:=hex
         obtain⟨l,l',e,b',vs0,z1,z2,_⟩:=hcell j id hj
         rw[z2] at base
         rcases upB j id hj with⟨l3,e3,h1⟩|h1
         ·rw[h1];show ρ' id≠some b;rw[hρlt id hil];exact base
         ·rw[h1];trivial
        ·rw[keep id hil (fun j hj=>hex ⟨j,hj⟩),hρlt id hil]
         exact base
       ·by_cases htr:(mo.at id).tracked=true
        ·obtain⟨l,e,h1,h2⟩:=newB id hil htr
         have:=s3 (t.m.length+(id - ma.length))
         rw[h1] at this
         rw[h2]
         show ρ' id≠some b
         rw[hρge id hil]
         exact this
        ·cases hx:mo.at id with
         |pad=>trivial
         |gone=>trivial
         |cells=>rw[hx] at htr;exact absurd rfl htr
         |lp=>rw[hx] at htr;exact absurd rfl htr
         |tok=>rw[hx] at htr;exact absurd rfl htr
     ·unfold Ro at hr
      split at hr
      ·have hmem:=MX hr
       obtain⟨l0,l',e0,b',vs0,z1,z2,_⟩:=hcell j id hmem
       have hil:=hlt _ hmem
       refine⟨by rw[hρlt id hil,hr2 j (by rw[z1];rfl),hρ2 j id hmem],?_⟩
       rcases upB j id hmem with⟨l3,e3,h1⟩|h1<;>rw[h1]<;>rfl
      ·rename_i hge
       cases hr
       have hge':t.m.length≤j:=by
        rcases Nat.lt_or_ge j t.m.length with h|h
        ·exact absurd (by rw[Nat.blt_eq];exact h) hge
        ·exact h
       have hj':t.m.length+(ma.length+(j - t.m.length) - ma.length)=j:=by omega
       refine⟨by rw[hρge _ (by omega),hj'],?_⟩
       rw[fresh _ (by omega),hj']
       have hjl:j < t.m'.length:=by
        rcases Nat.lt_or_ge j t.m'.length with h|h
        ·exact h
        ·rw[Mem.at_ge h] at hj;cases hj
       rw[if_pos hjl,hj]
       rfl
    have hupok:∀h v,AB T2 (t.n+t.outs.length) ρ2' t.m' w' h v→AB T g'.n ρ' mo w' (up h) v:=fun h v hh=>by
     rw[hup]
     exact ZN B hgn' h v hh
    refine⟨v, ρ',rfl,hst,⟨fun id=>?_,fun id id' b t1 t2 h1 h2=>?_,fun b off hb=>hm.fr b off (Nat.le_trans S2.size hb)⟩,by rw[←e1];exact hupok _ _ H2⟩
    ·rcases Nat.lt_or_ge id ma.length with hil|hil
     ·by_cases hex:∃j,(j,id)∈ren
      ·obtain⟨j,hj⟩:=hex
       obtain⟨l,l',e,b,vs0,z1,z2,z3,z4,z5,z6⟩:=hcell j id hj
       rw[touch j id hj,z1,z2]
       have hb2:=M2.blk j
       cases hx:t.m'.at j with
       |cells l3 e3=>
        simp only[KR]
        split
        ·rename_i hcc
         simp only[Bool.and_eq_true] at hcc
         obtain⟨⟨c1,c2⟩,c3⟩:=hcc
         rw[hx] at hb2
         obtain⟨b2,vs2,y1,y2,y3⟩:=hb2
         have hbb:b2=b:=by
          rw[hr2 j (by rw[z1];rfl),hρ2 j id hj,z3] at y1
          injection y1 with y1;exact y1.symm
         rw[←Nat.eq_of_beq_eq_true c3] at y2
         rw[hbb] at y2
         exact⟨b,vs2,by rw[hρlt id hil];exact z3,y2,OO hst hgle hr2 hupok (Nat.eq_of_beq_eq_true c1) (Nat.eq_of_beq_eq_true c2) z6 z5 y3⟩
        ·trivial
       |_=>trivial
      ·have hno:∀j,(j,id) ∉ ren:=fun j hj=>hex ⟨j,hj⟩
       by_cases htr:(ma.at id).tracked=true
       ·exact BN.step hst hm hgle (keep id hil hno) (hρlt id hil) (fun b hb=>keepHeap id b htr hno hb)
       ·rw[keep id hil hno]
        cases hx:ma.at id with
        |pad=>trivial
        |gone=>trivial
        |cells=>rw[hx] at htr;exact absurd rfl htr
        |lp=>rw[hx] at htr;exact absurd rfl htr
        |tok=>rw[hx] at htr;exact absurd rfl htr
     ·by_cases htr:(mo.at id).tracked=true
      ·obtain⟨l,e,h1,h2⟩:=newB id hil htr
       have hb2:=M2.blk (t.m.length+(id - ma.length))
       rw[h1] at hb2
       obtain⟨b2,vs2,y1,y2,y3⟩:=hb2
       rw[h2]
       exact⟨b2,vs2,by rw[hρge id hil];exact y1,y2,ZK hupok y3⟩
      ·cases hx:mo.at id with
       |pad=>trivial
       |gone=>trivial
       |cells=>rw[hx] at htr;exact absurd rfl htr
       |lp=>rw[hx] at htr;exact absurd rfl htr
       |tok=>rw[hx] at htr;exact absurd rfl htr
    ·rcases Nat.lt_or_ge id ma.length with hil|hil
     ·rcases Nat.lt_or_ge id' ma.length with hil'|hil'
      ·rw[hρlt id hil] at h1
       rw[hρlt id' hil'] at h2
       exact hm.inj id id' b (trOld id hil t1) (trOld id' hil' t2) h1 h2
      ·have:=newGe id' b hil' t2 h2
       rw[hρlt id hil] at h1
       have:=hm.lt (trOld id hil t1) h1
       omega
     ·rcases Nat.lt_or_ge id' ma.length with hil'|hil'
      ·have:=newGe id b hil t1 h1
       rw[hρlt id' hil'] at h2
       have:=hm.lt (trOld id' hil' t2) h2
       omega
      ·obtain⟨l,e,k1,_⟩:=newB id hil t1
       obtain⟨l',e',k2,_⟩:=newB id' hil' t2
       rw[hρge id hil] at h1
       rw[hρge id' hil'] at h2
       have:=M2.inj _ _ b (by rw[k1];rfl) (by rw[k2];rfl) h1 h2
       omega
   ·cases hap
  ·cases hap
 ·cases hap
end Go.Eng
end
noncomputable section
namespace Go.Eng
open Go Go.RowKit
mutual
theorem X7 {ok:Nat→Nat→Prop}{w:World}:∀(k:Kd) {u:U} {v:Value},AP ok w k u v→KdU A9 k u
 | .int _ _ _,_,_,⟨n,h1,_,h3⟩=>⟨n,h1,h3⟩
 | .bool,_,_,⟨b,h1,_⟩=>⟨b,h1⟩
 | .str,_,_,⟨s,h1,_,h2⟩=>⟨s,h1,h2⟩
 | .val,_,_,_=>trivial
 | .any,_,_,_=>trivial
 | .list ks,_,_,⟨l,h0,h1,h2,a,cap,_,_,h5⟩=>by
  refine⟨l,h0,h1,fun i us hi=>?_⟩
  have hl:0 < l.length:=by have:=(List.getElem?_eq_some_iff.1 hi).1;omega
  obtain⟨b,o,_,hc⟩:=h5 hl
  exact VS ks (hc i us hi)
theorem VS {ok:Nat→Nat→Prop}{w:World}:∀(ks:List Kd) {b off:Nat} {us:List U},AU ok w ks b off us→CL A9 ks us
 |[],_,_,_,h=>h
 |k::ks,_,_,_,⟨u,us',e,⟨_,v,_,h3⟩,h4⟩=>⟨u,us',e,X7 k h3,VS ks h4⟩
end
section
variable {T:Tab}{n:Nat}{ρ :Nat→Option Nat}{m:Mem}{w:World}
theorem YT {k:Kd}{x:Nat}{v:Value}(h:AB T n ρ m w (Md k x) v):KdU A9 k (T x):=by
 cases k with
 |int k lo hi=>obtain⟨_,i,h1,_,h3⟩:=h;exact⟨i,h1,h3⟩
 |bool=>obtain⟨_,b,h1,_⟩:=h;exact⟨b,h1⟩
 |str=>obtain⟨_,s,h1,_,h2⟩:=h;exact⟨s,h1,h2⟩
 |val=>trivial
 |any=>trivial
 |list ks=>exact X7 (.list ks) h.2
def TC (ks:List Kd)(us:List U):Prop:=∀(j:Nat) (k:Kd) (u:U),ks[j]? =some k→us[j]? =some u→KdU A9 k u
theorem Pm:∀{ks:List Kd} {x:Nat} {cs:List Value},AD T n ρ m w (Mh x ks) cs→∀(j:Nat) (k:Kd),ks[j]? =some k→KdU A9 k (T (x+j))
 |[],_,_,_,j,k,hj=>by simp at hj
 |k0::ks,x,cs,⟨u,us,_,h1,h2⟩,j,k,hj=>by
  cases j with
  |zero=>simp at hj;subst hj;exact YT h1
  |succ j=>
   have:=Pm h2 j k (by simpa using hj)
   rw[show x+(j+1)=x+1+j by omega]
   exact this
theorem LC:∀{sh:List Rh} {x:Nat} {vs:List Value},AD T n ρ m w (MB x sh) vs→∀(j:Nat) (k:Kd),(Dw sh)[j]? =some k→KdU A9 k (T (x+j))
 |[],_,_,_,j,k,hj=>by simp[Dw] at hj
 | .one k0::r,x,vs,⟨u,us,_,h1,h2⟩,j,k,hj=>by
  simp only[Dw] at hj
  cases j with
  |zero=>simp at hj;subst hj;exact YT h1
  |succ j=>
   have:=LC h2 j k (by simpa using hj)
   rw[show x+(j+1)=x+1+j by omega]
   exact this
 | .agg ks::r,x,vs,⟨u,us,_,h1,h2⟩,j,k,hj=>by
  simp only[Dw] at hj
  rw[List.getElem?_append] at hj
  split at hj
  ·obtain⟨cs,_,h3⟩:=h1
   exact Pm h3 j k hj
  ·rename_i hge
   have:=LC h2 (j - ks.length) k hj
   rw[show x+ks.length+(j - ks.length)=x+j by omega] at this
   exact this
 | .ptr j0 off::r,x,vs,⟨u,us,_,h1,h2⟩,j,k,hj=>LC h2 j k hj
theorem Vy:∀{bs:List (List Kd × TypeId)} {x i0:Nat},(∀i,i < bs.length→BN T n ρ m w (i0+i) ((I5 x bs).at i))→∀(j:Nat) (k:Kd),(MF bs)[j]? =some k→KdU A9 k (T (x+j))
 |[],_,_,_,j,k,hj=>by simp[MF] at hj
 |(ks,e)::r,x,i0,hb,j,k,hj=>by
  have e1:MF ((ks,e)::r)=ks++MF r:=rfl
  rw[e1,List.getElem?_append] at hj
  split at hj
  ·obtain⟨b,vs,_,_,h3⟩:=hb 0 (by simp)
   exact Pm h3 j k hj
  ·rename_i hge
   have:=Vy (bs:=r) (x:=x+ks.length) (i0:=i0+1) (fun i hi=>by
    have:=hb (i+1) (by simpa using hi)
    rw[show i0+(i+1)=i0+1+i by omega] at this
    simpa [I5,Mem.at] using this) (j - ks.length) k hj
   rw[show x+ks.length+(j - ks.length)=x+j by omega] at this
   exact this
end
def OU (nh nm:Nat)(rs:List Rf)(mh m:Mem)(h c:AC):Option (List Pr):=
 match h,c with
 | .agg l,.agg l'=>IT nh nm rs mh m l l'
 |h,c=>IU nh nm rs mh m h c
def ID (nh nm:Nat)(rs:List Rf)(mh m:Mem):List AC→List AC→Option (List Pr)
 |[],[]=>some []
 |h::l,c::l'=>LR (OU nh nm rs mh m h c) (ID nh nm rs mh m l l')
 |_,_=>none
def SI (nh nm:Nat)(rs:List Rf)(mh m:Mem)(h c:AC):Option (List Pr):=
 match h,c with
 | .tup l,.tup l'=>ID nh nm rs mh m l l'
 |h,c=>OU nh nm rs mh m h c
section
variable {T1 T2:Tab}{ρ :Nat→Option Nat}{m mh:Mem}{w:World}{nh n1 n2:Nat}{rs:List Rf}
theorem QQ (M:Gq T1 T2 ρ m mh w nh mh.length)(hn:nh≤n2)(H:EM T1 T2 nh n2 rs)(S:DG T1 T2 nh mh m){h c:AC}{ps:List Pr}(hm:OU nh mh.length rs mh m h c=some ps)(hps:∀p∈ps,p.holds T1){v:Value}
  (hv:AB T1 n1 ρ m w c v):AB T2 n2 ρ mh w h v:=by
 unfold OU at hm
 split at hm
 ·obtain⟨vs,e,h1⟩:=hv
  exact⟨vs,e,Lg M hn H S hm hps vs h1⟩
 ·exact JQ hm M hn H S hps hv
theorem OI (M:Gq T1 T2 ρ m mh w nh mh.length)(hn:nh≤n2)(H:EM T1 T2 nh n2 rs)(S:DG T1 T2 nh mh m):∀{l l':List AC} {ps:List Pr},ID nh mh.length rs mh m l l'=some ps→(∀p∈ps,p.holds T1)→
  ∀vs,AD T1 n1 ρ m w l' vs→AD T2 n2 ρ mh w l vs
 |[],[],ps,_,_,vs,h=>h
 |[],_::_,ps,h,_,_,_=>by simp[ID] at h
 |_::_,[],ps,h,_,_,_=>by simp[ID] at h
 |a::l,c::l',ps,h,hps,vs,⟨u,us,h1,h2,h3⟩=>by
  simp only[ID] at h
  obtain⟨ps1,ps2,e1,e2,rfl⟩:=Ef h
  exact⟨u,us,h1,QQ M hn H S e1 (fun p hp=>hps p (List.mem_append_left _ hp)) h2,OI M hn H S e2 (fun p hp=>hps p (List.mem_append_right _ hp)) us h3⟩
theorem Yb (M:Gq T1 T2 ρ m mh w nh mh.length)(hn:nh≤n2)(H:EM T1 T2 nh n2 rs)(S:DG T1 T2 nh mh m){h c:AC}{ps:List Pr}(hm:SI nh mh.length rs mh m h c=some ps)(hps:∀p∈ps,p.holds T1){v:Value}
  (hv:AB T1 n1 ρ m w c v):AB T2 n2 ρ mh w h v:=by
 unfold SI at hm
 split at hm
 ·obtain⟨vs,e,h1⟩:=hv
  exact⟨vs,e,OI M hn H S hm hps vs h1⟩
 ·exact QQ M hn H S hm hps hv
end
def Ss (t:Ak)(rs:List Rf)(c0:AC)(m0:Mem)(g0:G):Option (List Pr):=
 if OW t.n g0&&Nat.beq rs.length t.outs.length&&Nat.ble t.m.length t.m'.length then
  LR (Ih [] t.n t.m'.length rs t.m' m0 t.m' m0) (SI t.n t.m'.length rs t.m' m0 t.c c0)
 else none
theorem cY {P:Program}{f:FuncId}{t:Ak}(hm:P.follows .mixedOrders=true){ctx:FuncId→Option Ay}{Ah:FuncId→Gf}{fuel depth:Nat}(hctx:∀f c,ctx f=some c→∀T,∀ys k args pc m g c' m' g',k=f→CJ P T.lp ys→c ys k args pc m g=some (c',m',g')→AN g g'∧(Agr T g'→Aj T g'→pcv T pc→BD T g pc→∀ ρ w vs,AD T g.n ρ m w args vs→AG T g.n ρ m w→
   (∃fn,P.funcs[k]? =some fn∧fn.body.isSome=true∧(fn.name== "runtime.NumGoroutine")=false)∧Calls P k (vs:List Value).toArray w (JA T g ρ m w c' m' g')))
  {c0:AC} {m0:Mem} {g0:G} {rs:List Rf} {ps:List Pr} (hrun:HB P ctx Ah fuel depth (fun _=>none) f t.args none t.m { n:=t.n,eqs:=[],obs:=[] }=some (c0,m0,g0)) (hok:Ss t rs c0 m0 g0=some ps)
  (hne:∀id,id < t.m.length→t.m'.at id≠ .pad)
  (hplain:∀(T:Tab) (us:List U),us.length=t.n→TC t.ks us→(∀p∈t.pre,p.2 us)→(∀j u,us[j]? =some u→T j=u)→(∀p∈g0.eqs,T p.1=p.2.eval T)→Aj T g0∧(∀p∈ps,p.holds T)∧rs.map (Rf.eval T)=t.outs.map fun o=>o.2 us):Aq P f t:=by
 refine⟨fun s=>(EW g0.lps s).getD Wj,fun T us hlp hul hT hpre ρ w vs hvs hmem=>?_⟩
 unfold Ss at hok
 split at hok
 ·rename_i hc
  simp only[Bool.and_eq_true] at hc
  obtain⟨⟨hc1,hc2⟩,hc3⟩:=hc
  obtain⟨ps1,ps2,hm1,hm2,rfl⟩:=Ef hok
  unfold OW at hc1
  rw[Bool.and_eq_true] at hc1
  have hrl:=Nat.eq_of_beq_eq_true hc2
  obtain⟨r1,r2,r3⟩:=Hm g0.eqs T
  have hout:=(DH (T:=T) hc1.1).2.2
  have hlt:∀x,x < t.n→BS T g0.eqs x=T x:=fun x hx=>hout x (.inl hx)
  have hlow:∀j u,us[j]? =some u→T j=u:=fun j u hj=>hT j u (by unfold Ak.us;rw[List.getElem?_append_left (List.getElem?_eq_some_iff.1 hj).1];exact hj)
  have S:EN T (BS T g0.eqs) t.n:=⟨hlt,r1,r2⟩
  have hA:Agr (BS T g0.eqs) g0:=⟨fun p hp=>HV (fv:=[]) (nh:=0) (fun x hx=>by cases hx) (Nat.zero_le _) hc1.1 p hp,fun p hp=>by
   rw[r2,hlp]
   show (EW g0.lps p.1).getD Wj=p.2
   rw[Lk hc1.2 p hp];rfl⟩
  have hin:TC t.ks us:=fun j k u hk hu=>by
   have hTj:=hlow j u hu
   rw[←hTj]
   unfold Ak.ks at hk
   rw[List.getElem?_append] at hk
   split at hk
   ·have:=LC hvs j k hk
    rw[Nat.zero_add] at this;exact this
   ·rename_i hge
    have:=Vy (bs:=t.blks) (x:=(Dw t.sh).length) (i0:=0) (fun i hi=>by rw[Nat.zero_add];exact hmem.blk i) (j - (Dw t.sh).length) k hk
    rw[show (Dw t.sh).length+(j - (Dw t.sh).length)=j by omega] at this
    exact this
  obtain⟨hob,hps,hrs⟩:=hplain (BS T g0.eqs) us hul hin hpre (fun j u hj=>by
   have:=(List.getElem?_eq_some_iff.1 hj).1
   rw[hlt j (by omega)];exact hlow j u hj) hA.eqs
  obtain⟨_,hsound⟩:=Mc (Ah:=Ah) (fuel:=fuel) hm hctx depth (BS T g0.eqs) (fun _=>none) f t.args none t.m _ c0 m0 g0 (fun T' _ s y hy=>by cases hy) hrun
  have hm':=hmem.tab S
  obtain⟨hfn,hcalls⟩:=hsound hA hob trivial trivial ρ w vs (AD.tab S (fun b off h=>S.safe hmem h) _ _ hvs) hm'
  refine⟨hfn,hcalls.mono fun e w' hh=>?_⟩
  obtain⟨v, ρ',rfl,q1,q2,q3⟩:=hh
  have H:EM (BS T g0.eqs) T t.n (t.n+t.outs.length) rs:=fun j r hj=>by
   have hjl:=(List.getElem?_eq_some_iff.1 hj).1
   refine⟨by omega,?_⟩
   have h1:(rs.map (Rf.eval (BS T g0.eqs)))[j]? =some (r.eval (BS T g0.eqs)):=by simp[hj]
   rw[hrs] at h1
   exact hT (t.n+j) _ (by
    unfold Ak.us
    rw[List.getElem?_append_right (by omega),hul,show t.n+j - t.n=j by omega]
    exact h1)
  obtain⟨Sh,hpad⟩:=LY (T1:=BS T g0.eqs) (T2:=T) hm1 H
  have heq:∀x,x < t.n→T x=BS T g0.eqs x:=fun x hx=>(hlt x hx).symm
  have hne':∀id,t.m.at id≠ .pad→t.m'.at id≠ .pad:=fun id h=>by
   rcases Nat.lt_or_ge id t.m.length with hl|hl
   ·exact hne id hl
   ·exact absurd (Mem.at_ge hl) h
  have hnk:t.n≤t.n+t.outs.length:=Nat.le_add_right _ _
  have M:Gq (BS T g0.eqs) T ρ' m0 t.m' w' t.n t.m'.length:=Sh.move hpad heq r1.symm
  refine⟨v, ρ',rfl,AI.matched Sh heq (Nat.le_refl _) hm' hne' q1,?_,Yb M hnk H Sh hm2 (fun p hp=>hps p (List.mem_append_right _ hp)) q3⟩
  have hmatch:EX [] t.n rs ⟨⟨0,[],.nil⟩,t.m'⟩ ⟨⟨0,[],.nil⟩,m0⟩=some (ps1++[]):=by
   simp only[EX,H8,List.isEmpty_nil,Bool.true_and,(DB 0 0).2 rfl,if_true]
   rw[hm1];rfl
  have hR:Rel ((BS T g0.eqs).atBase 0) g0.n ρ' ⟨⟨0,[],.nil⟩,m0⟩ { tmps:= #[],defers:=[] } w':=⟨DT.nil _ _ _ (Nat.zero_le _),rfl,(fun i c hc=>by simp[AO.get,BL,Tr.get] at hc),q2.tab (Bv _ 0 _)⟩
  obtain⟨z1,_,_⟩:=G1 (T1:=(BS T g0.eqs).atBase 0) (T2:=T.atBase 0) hmatch (fun p hp=>by cases hp) r1.symm r2.symm rfl heq hnk H (fun p hp=>Qx.2 (hps p (by rw[List.append_nil] at hp;exact List.mem_append_left _ hp))) hR
  exact z1.mem.tab (Bv T 0 _).symm
 ·cases hok
end Go.Eng
end
noncomputable section
namespace Go.Eng
open Go Go.RowKit
def Ko:List (FuncId × Ak)→FuncId→Option Ay
 |[],_=>none
 |(f,t)::r,k=>if Nat.beq f k then some (R1 t) else Ko r k
theorem N3 {P:Program}:∀{l:List (FuncId × Ak)},(∀p∈l,Aq P p.1 p.2)→∀f c,Ko l f=some c→∀T,∀ys k args pc m g c' m' g',k=f→CJ P T.lp ys→c ys k args pc m g=some (c',m',g')→AN g g'∧(Agr T g'→Aj T g'→pcv T pc→BD T g pc→∀ ρ w vs,AD T g.n ρ m w args vs→AG T g.n ρ m w→
  (∃fn,P.funcs[k]? =some fn∧fn.body.isSome=true∧(fn.name== "runtime.NumGoroutine")=false)∧Calls P k (vs:List Value).toArray w (JA T g ρ m w c' m' g'))
 |[],_,f,c,h=>by simp[Ko] at h
 |(f0,t)::r,hl,f,c,h=>by
  simp only[Ko] at h
  split at h
  ·rename_i hb
   cases h
   have e:=Nat.eq_of_beq_eq_true hb
   subst e
   intro T ys k args pc m g c' m' g' hk _ hap
   subst hk
   exact X4 (hl (k,t) (List.mem_cons_self ..)) T ys args pc m g c' m' g' hap
  ·exact N3 (fun p hp=>hl p (List.mem_cons_of_mem _ hp)) f c h
section
variable {P:Program}{w:World}{B:Nat}
theorem eL {H:Type}{enc:TypeId × Value→H}{sp:Nat→Bool}{held:Bool}{base:Nat}(hB:B≤A9)(hm:P.follows .mixedOrders=true){l:List (FuncId × Ak)}(hl:∀p∈l,Aq P p.1 p.2){Ah:FuncId→Gf}{fuel depth dd:Nat}{f:FuncId}{ts:List TypeId}{as:List AC}{ks:List Kd}{c:AC}{m':Mem}{g':G}
  (hargs:HI P dd ts 0=some (as,ks)) (hrun:HB P (Ko l) Ah fuel depth (fun _=>none) f as none [] { n:=ks.length,eqs:=[],obs:=[] }=some (c,m',g')) (hchk:OW ks.length g'=true)
  (hplain:∀(T:Tab) (us:List U),CL B ks us→us.length=ks.length→(∀j u,us[j]? =some u→T j=u)→(∀p∈g'.eqs,T p.1=p.2.eval T)→Aj T g'∧eW T c)
  {vs:List Value} {ds:List (DataW H)} {ps:List MemPlace} (ht:DataW.TrodAll enc P w 0 sp held ts vs ds ps) (hv:∀(j:Nat) t v,ts[j]? =some t→vs[j]? =some v→Value.okWide P w .any base t v) (hs:∀d∈ds,Cs B d):
  Calls P f (vs:List Value).toArray w fun e W'=>e= .returned (.bool true)∧Below w.heap.size w W':=by
 obtain⟨us,u1,u2,u3⟩:=Vs hB ts hargs ht hv hs
 unfold OW at hchk
 rw[Bool.and_eq_true] at hchk
 generalize hT:BS (SL g'.lps us) g'.eqs=T
 obtain⟨r1,r2,r3⟩:=Hm g'.eqs (SL g'.lps us)
 rw[hT] at r1 r2 r3
 have hlow:∀j u,us[j]? =some u→T (0+j)=u:=fun j u hj=>by
  have hjl:=(List.getElem?_eq_some_iff.1 hj).1
  rw[Nat.zero_add,←hT,(DH hchk.1).2.2 j (.inl (by omega))]
  show us.getD j default=u
  simp[List.getD,hj]
 have hA:Agr T g':=by
  refine⟨fun p hp=>?_,fun p hp=>?_⟩
  ·rw[←hT]
   exact HV (fv:=[]) (nh:=0) (fun x hx=>by cases hx) (Nat.zero_le _) hchk.1 p hp
  ·rw[r2]
   show (EW g'.lps p.1).getD Wj=p.2
   rw[Lk hchk.2 p hp];rfl
 obtain⟨p1,p2⟩:=hplain T us u1 u2 (fun j u hj=>by have:=hlow j u hj;rw[Nat.zero_add] at this;exact this) hA.eqs
 have hsafe:∀b off,b < w.heap.size→AZ T (fun _=>none) [] w b off:=fun b off hb=>⟨hb,by rw[r1];trivial,fun id=>trivial⟩
 have hmem:AG T ks.length (fun _=>none) [] w:=⟨fun id=>trivial,(fun id id' b h=>by cases h),fun b off _=>by rw[r1];trivial⟩
 obtain⟨_,hsound⟩:=Mc (Ah:=Ah) (fuel:=fuel) hm (N3 hl) depth T (fun _=>none) f as none [] _ c m' g' (fun T' _ s y hy=>by cases hy) hrun
 obtain⟨_,hc⟩:=hsound hA p1 trivial trivial (fun _=>none) w vs (u3 T _ hsafe hlow ks.length (by omega)) hmem
 refine hc.mono fun e W' ⟨v, ρ',e1,e2,e3,e4⟩=>?_
 refine⟨?_,e2.os,e2.tape,e2.output,e2.size,fun k hk=>e2.old k hk (fun id h=>by cases h)⟩
 rw[e1]
 congr 1
 cases c with
 |cb b=>rw[show b=true from p2] at e4;exact e4
 |b x=>
  obtain⟨_,b,h1,h2⟩:=e4
  rw[show T x=_ from p2] at h1
  cases h1
  exact h2
 |nb x=>
  obtain⟨_,b,h1,h2⟩:=e4
  rw[show T x=_ from p2] at h1
  cases h1
  exact h2
 |_=>exact p2.elim
end
end Go.Eng
end
noncomputable section
namespace Go.Eng
open Go Go.RowKit
theorem LV {H:Type}{enc:TypeId × Value→H}{P:Program}(hl:laidOutB P=true){W W':World}(hb:Below W.heap.size W W'){sp:Nat→Bool}:∀{ts:List TypeId} {vs:List Value} {ds:List (DataW H)} {ps:List MemPlace},
  (∀t∈ts,P.readableRec t=true∧t < P.types.size)→DataW.TrodAll enc P W 0 (fun _=>true) true ts vs ds ps→(∀x∈ps,x.block < W.heap.size)→(∀x∈ps,sp x.block=true)→DataW.TrodAll enc P W' 0 sp true ts vs ds ps
 |[],[],[],_,_,h,_,_=>h
 |t::ts,v::vs,d::ds,ps,ht,⟨p,q,h1,h2,e⟩,hlt,hs=>by
  subst e
  obtain⟨r1,r2⟩:=ht t (List.mem_cons_self ..)
  exact⟨p,q,WideElems.Trod_stays hl r1 r2 h1 (fun x hx=>hb.same (hlt x (List.mem_append_left _ hx))) (fun x hx=>hs x (List.mem_append_left _ hx)),
   LV hl hb (fun t h=>ht t (List.mem_cons_of_mem _ h)) h2 (fun x hx=>hlt x (List.mem_append_right _ hx)) (fun x hx=>hs x (List.mem_append_right _ hx)),rfl⟩
 |[],_::_,_,_,_,h,_,_=>h.elim
 |[],[],_::_,_,_,h,_,_=>h.elim
 |_::_,[],_,_,_,h,_,_=>h.elim
 |_::_,_::_,[],_,_,h,_,_=>h.elim
end Go.Eng
end
noncomputable section
namespace Go.Eng
open Go Go.RowKit Go.ChangeShapes Go.WideShapes
theorem ZU {H:Type}{enc:TypeId × Value→H}{P:Program}{f:Func}{s:ChangeSpec}{apart fresh handsOn again:Bool}{W W':World}{args:Array Value}{ds gs:List (DataW H)}{before:List MemPlace}{tb:TypeId}
  (hl:laidOutB P=true) (hrec:∀t∈f.params.toList,P.readableRec t=true∧t < P.types.size) (hres:f.resultTypes= #[tb]) (htb:P.underlying tb=some .bool) (hvs:s.vars=[])
  (hfn:s.fn H (ds++gs)={ results:=[.lit (.bool true)],args:=ds })
  (hW:DataW.Whole enc P f.params.toList s.vars apart W args.toList ds gs before) (hb:Below W.heap.size W W'):s.post enc P f apart fresh handsOn again W args (.bool true) W':=by
 have hlt:∀p∈before,p.block < W.heap.size:=hW.lt
 have hW0:=hW
 obtain⟨p,q,hA,hV,rfl,hz,hn⟩:=hW
 have hq:q=[]:=by
  rw[hvs] at hV
  cases gs with
  |nil=>exact hV
  |cons=>exact hV.elim
 subst hq
 have hold:∀x∈p++[],(fun b=>decide (b < W.heap.size)) x.block=true:=fun x hx=>by simpa using hlt x hx
 have hargs:∀sp:Nat→Bool,(∀x∈p++[],sp x.block=true)→DataW.TrodAll enc P W' 0 sp true f.params.toList args.toList (s.fn H (ds++gs)).args p:=fun sp hsp=>by
  rw[hfn]
  exact LV hl hb hrec hA (fun x hx=>hlt x (by simp[hx])) (fun x hx=>hsp x (by simp[hx]))
 have hvars:∀sp:Nat→Bool,DataW.TrodVars enc P W' sp s.vars (s.fn H (ds++gs)).vars []:=fun sp=>by rw[hfn,hvs];rfl
 have hr:∀(b:Nat) (sp:Nat→Bool) (hd:Bool),DataW.TrodAll enc P W' b sp hd f.resultTypes.toList ((Value.bool true).resultList f.resultTypes.size) (s.fn H (ds++gs)).results []:=fun b sp hd=>by
  rw[hfn,hres]
  exact⟨[],[],⟨1,by simp[DataW.trod,htb,Value.cells]⟩,rfl,rfl⟩
 refine⟨ds,gs,p++[],[],p,[],hW0,hr _ _ _,hargs _ hold,hvars _,World.keptBut_mono (fun x hx=>⟨hx,.inr (by simpa using hx)⟩) (hb.frame (· ∈p++[])),fun _=>?_⟩
 refine⟨fun j t r h1 h2=>?_,_,_,([]++p)++[],⟨[]++p,[],trodAll_append (hargs _ (fun _ _=>rfl)) (hr _ _ _),hvars _,rfl,?_,?_⟩,?_⟩
 ·exact ok_one hres (by rfl) (by simp[Value.okWide,htb,Cell.okWide,Cell.ok]) j t r h1 h2
 ·intro b off hp
  rw[hb.frozen (hlt _ (by simpa using hp))]
  exact hz b off (by simpa using hp)
 ·intro ha
  simpa using hn ha
 ·intro x hx _
  simpa using hx
end Go.Eng
end
noncomputable section
namespace Go.Eng
open Go
inductive Ty where
 |i|b|l|r (c:Nat)|s
 deriving DecidableEq
def I (T:Tab)(x:Nat):Int:=(T.get x).toI
def B (T:Tab)(x:Nat):Bool:=(T.get x).toB
def L (T:Tab)(x:Nat):List (List U):=(T.get x).toL
def S (T:Tab)(x:Nat):ByteArray:=(T.get x).toS
def iR (T:Tab)(r:Rf):Int:=(r.eval T).toI
def bR (T:Tab)(r:Rf):Bool:=(r.eval T).toB
def lR (T:Tab)(r:Rf):List (List U):=(r.eval T).toL
def stR (T:Tab)(r:Rf):ByteArray:=(r.eval T).toS
def uR (T:Tab):Ty→Rf→U
 | .i,r=> .int (iR T r)
 | .b,r=> .bool (bR T r)
 | .l,r=> .list (lR T r)
 | .r _,r=>r.eval T
 | .s,r=> .str (stR T r)
theorem iR_c {T:Tab}{n:Int}:iR T (.c (.int n))=n:=Eq.trans rfl rfl
theorem iR_e {T:Tab}{x:Nat}:iR T (.e x)=I T x:=Eq.trans rfl rfl
theorem bR_c {T:Tab}{n:Bool}:bR T (.c (.bool n))=n:=Eq.trans rfl rfl
theorem AF {T:Tab}{x:Nat}:bR T (.e x)=B T x:=Eq.trans rfl rfl
theorem bR_n {T:Tab}{x:Nat}:bR T (.n x)= !B T x:=Eq.trans rfl rfl
theorem lR_c {T:Tab}:lR T (.c (.list []))=[]:=Eq.trans rfl rfl
theorem lR_e {T:Tab}{x:Nat}:lR T (.e x)=L T x:=Eq.trans rfl rfl
theorem eo {T:Tab}{s:ByteArray}:stR T (.c (.str s))=s:=Eq.trans rfl rfl
theorem eg {T:Tab}{x:Nat}:stR T (.e x)=S T x:=Eq.trans rfl rfl
def Or (T:Tab):List Rf→Int→Int
 |[],_=>0
 |a::l,n=>if n≤0 then iR T a else Or T l (n - 1)
def Ow (T:Tab):List Rf→Int→Prop
 |[],_=>False
 |a::l,n=>(n≤0∧bR T a=true)∨(¬n≤0∧Ow T l (n - 1))
def AA (l:List (List U))(i c:Nat):Int:=((l.getD i []).getD c default).toI
def M3 (l:List (List U))(i c:Nat):Bool:=((l.getD i []).getD c default).toB
def FE (l:List (List U))(i c:Nat):List (List U):=((l.getD i []).getD c default).toL
inductive Op2 where
 |add|sub|mul|div|mod|tdiv|tmod|min|max
def Op2.f:Op2→Int→Int→Int
 | .add=>Zg| .sub=>ak| .mul=>Wh| .div=>af| .mod=>TH| .tdiv=>Oj| .tmod=>Wq| .min=>Pb| .max=>Py
inductive Opn where
 |id (t:Ty)|not|and|or|lt|le|eq|ne
 |eqs (ts:List Ty)|nes (ts:List Ty)|eqb|neb
 |ite (t:Ty)|ifb
 |o2 (o:Op2)|w2 (k:IntKind) (o:Op2)|w1 (k:IntKind)|wneg (k:IntKind)|neg|bits (o:BinOp) (k:IntKind)
 |take|drop|sub|slen|sat
 |len|app|get (t:Ty) (c:Nat)|pick (t:Ty)|row (k s:Nat) (ts:List Ty)
 |outI (tg:String) (f:List U→Int)|outB (tg:String) (f:List U→Bool)|outL (tg:String) (f:List U→List (List U))|res (t:Ty) (D:Ae) (j:Nat)
def Bj (f:List U→Int)(us:List U):U:= .int (f us)
def EK (f:List U→Bool)(us:List U):U:= .bool (f us)
def PL (f:List U→List (List U))(us:List U):U:= .list (f us)
def opF:Opn→List U→U
 | .id _=>oId| .not=>Pn| .and=>Lr| .or=>oOr| .lt=>oLt| .le=>oLe| .eq=>oEq| .ne=>oNe
 | .eqs _=>XD| .nes _=>Wu| .eqb=>aG| .neb=>Zi
 | .ite _=>oIf| .ifb=>WR
 | .o2 o=>Go.Eng.o2 o.f| .w2 k o=>Hs k (Go.Eng.o2 o.f)| .w1 k=>Hs k oId| .wneg k=>Hs k SO| .neg=>SO| .bits o k=>Go.Eng.o2 (Cl o k)
 | .take=>WF| .drop=>Wn| .sub=>Zo| .slen=>Wt| .sat=>Z6
 | .len=>Za| .app=>SQ| .get _ c=>W3 c| .pick _=>On| .row k s _=>Sr k s
 | .outI _ f=>Bj f| .outB _ f=>EK f| .outL _ f=>PL f| .res _ D j=>D.res j
structure En where
 x:Nat
 op:Opn
 rs:List Rf
def En.be (e:En):Nat × (List U→U) × List Rf:=(e.x,opF e.op,e.rs)
def Bb (T:Tab):List Ty→List Rf→Prop
 | .i::ts,a::b::r=>iR T a=iR T b∧Bb T ts r
 | .b::ts,a::b::r=>(bR T a=true↔bR T b=true)∧Bb T ts r
 |_,_=>True
def AR (o:Op2)(c a b:Int):Prop:=match o with
 | .add=>c=a+b| .sub=>c=a - b| .mul=>c=a*b| .div=>c=a / b| .mod=>c=a % b
 | .tdiv=>c=if 0≤a then a / b else -(-a / b)
 | .tmod=>c=if 0≤a then a % b else -(-a % b)
 | .min=>c=if a≤b then a else b
 | .max=>c=if a≤b then b else a
def w2P (k:IntKind)(o:Op2)(c a b:Int):Prop:=match k,o with
 | .i64,.add=> -9223372036854775808≤a+b→a+b≤9223372036854775807→c=a+b
 | .i64,.sub=> -9223372036854775808≤a - b→a - b≤9223372036854775807→c=a - b
 | .i64,.mul=> -9223372036854775808≤a*b→a*b≤9223372036854775807→c=a*b
 |k,o=>c=k.wrap (o.f a b)
def wnP (k:IntKind)(c a:Int):Prop:=match k with
 | .i64=>(-9223372036854775807≤a→a≤9223372036854775808→c= -a)∧(a= -9223372036854775808→c=a)
 |k=>c=k.wrap (0 - a)
def AE (T:Tab)(e:En):Prop:=
 match e with
 |⟨x,.id .i,[a]⟩=>I T x=iR T a
 |⟨x,.id .b,[a]⟩=>(B T x=true↔bR T a=true)
 |⟨x,.id .l,[a]⟩=>L T x=lR T a
 |⟨x,.not,[a]⟩=>(B T x=true↔¬bR T a=true)
 |⟨x,.and,[a,b]⟩=>(B T x=true↔(bR T a=true∧bR T b=true))
 |⟨x,.or,[a,b]⟩=>(B T x=true↔(bR T a=true∨bR T b=true))
 |⟨x,.lt,[a,b]⟩=>(B T x=true↔iR T a < iR T b)
 |⟨x,.le,[a,b]⟩=>(B T x=true↔iR T a≤iR T b)
 |⟨x,.eq,[a,b]⟩=>(B T x=true↔iR T a=iR T b)
 |⟨x,.ne,[a,b]⟩=>(B T x=true↔¬iR T a=iR T b)
 |⟨x,.eqs ts,r⟩=>(B T x=true↔Bb T ts r)
 |⟨x,.nes ts,r⟩=>(B T x=true↔¬Bb T ts r)
 |⟨x,.eqb,[a,b]⟩=>(B T x=true↔(bR T a=true↔bR T b=true))
 |⟨x,.neb,[a,b]⟩=>(B T x=true↔¬(bR T a=true↔bR T b=true))
 |⟨x,.ite .i,[a,b,c]⟩=>I T x=if bR T a=true then iR T b else iR T c
 |⟨x,.ite .b,[a,b,c]⟩=>(B T x=true↔((bR T a=true∧bR T b=true)∨(¬bR T a=true∧bR T c=true)))
 |⟨x,.ite .l,[a,b,c]⟩=>L T x=if bR T a=true then lR T b else lR T c
 |⟨x,.ifb,[a,b,c]⟩=>(B T x=true↔((bR T a=true∧bR T b=true)∨(¬bR T a=true∧bR T c=true)))
 |⟨x,.o2 o,[a,b]⟩=>AR o (I T x) (iR T a) (iR T b)
 |⟨x,.w2 k o,[a,b]⟩=>w2P k o (I T x) (iR T a) (iR T b)
 |⟨x,.w1 k,[a]⟩=>I T x=k.wrap (iR T a)
 |⟨x,.wneg k,[a]⟩=>wnP k (I T x) (iR T a)
 |⟨x,.neg,[a]⟩=>I T x= -iR T a
 |⟨x,.bits o k,[a,b]⟩=>I T x=Cl o k (iR T a) (iR T b)
 |⟨x,.len,[a]⟩=>I T x=(lR T a).length
 |⟨x,.app,[a,b]⟩=>L T x=lR T a++lR T b
 |⟨x,.take,[a,b]⟩=>L T x=(lR T a).take (iR T b).toNat
 |⟨x,.drop,[a,b]⟩=>L T x=(lR T a).drop (iR T b).toNat
 |⟨x,.sub,[a,b,c]⟩=>L T x=((lR T a).take (iR T c).toNat).drop (iR T b).toNat
 |⟨x,.slen,[a]⟩=>I T x=(stR T a).size
 |⟨x,.sat,[a,b]⟩=>I T x=Bk (stR T a) (iR T b).toNat
 |⟨x,.get .i c,[a,b]⟩=>I T x=AA (lR T a) (iR T b).toNat c
 |⟨x,.get .b c,[a,b]⟩=>B T x=M3 (lR T a) (iR T b).toNat c
 |⟨x,.get .l c,[a,b]⟩=>L T x=FE (lR T a) (iR T b).toNat c
 |⟨x,.pick .i,a::r⟩=>I T x=Or T r (iR T a)
 |⟨x,.pick .b,a::r⟩=>(B T x=true↔Ow T r (iR T a))
 |⟨x,.row k s ts,r⟩=>L T x=Ab s k (List.zipWith (uR T) ts r)
 |⟨x,.outI _ f,r⟩=>I T x=f (r.map (Rf.eval T))
 |⟨x,.outB _ f,r⟩=>B T x=f (r.map (Rf.eval T))
 |⟨x,.outL _ f,r⟩=>L T x=f (r.map (Rf.eval T))
 |_=>True
def Nc:Ty→Bool| .i=>true| .b=>true|_=>false
abbrev Bs:=List (Nat × Ty)
def N0:Ty→Ty→Bool| .i,.i=>true| .b,.b=>true| .l,.l=>true| .r c,.r d=>Nat.beq c d| .s,.s=>true|_,_=>false
def LL:Bs→Nat→Ty→Bool
 |[],_,_=>false
 |(y,t)::r,x,u=>if Nat.beq y x&&N0 t u then true else LL r x u
def tyR (env:Bs)(t:Ty):Rf→Bool
 | .c (.int _)=>N0 t .i
 | .c (.bool _)=>N0 t .b
 | .c (.list _)=>N0 t .l
 | .c (.str _)=>N0 t .s
 | .c _=>false
 | .n _=>N0 t .b
 | .e x=>LL env x t
def Ha (env:Bs):List Ty→List Rf→Bool
 |[],[]=>true
 |t::ts,r::rs=>tyR env t r&&Ha env ts rs
 |_,_=>false
def DE:List Ty→List Ty
 |[]=>[]
 |t::ts=>t::t::DE ts
def uV (T:Tab)(t:Ty)(x:Nat):U:=uR T t (.e x)
def Wd (T:Tab)(x c:Nat):Prop:=∀i:Nat,∃n,((L T x).getD i []).getD c default= .int n
def Sty (T:Tab)(x:Nat):Ty→Prop
 | .r c=>Wd T x c
 |t=>T.get x=uV T t x
def AL (T:Tab):Bs→Prop
 |[]=>True
 |(x,t)::r=>Sty T x t∧AL T r
theorem Sty.get {T:Tab}{x:Nat}:∀{t:Ty},Sty T x t→T.get x=uV T t x
 | .i,h=>h
 | .b,h=>h
 | .l,h=>h
 | .r _,_=>rfl
 | .s,h=>h
def No (env:Bs)(e:En):Option (Option Ty):=
 match e.op,e.rs with
 | .id t,[a]=>some (if tyR env t a then some t else none)
 | .ite t,[_,b,c]=>some (if tyR env t b&&tyR env t c then some t else none)
 | .eqs ts,r=>if Ha env (DE ts) r&&ts.all Nc then some (some .b) else none
 | .nes ts,r=>if Ha env (DE ts) r&&ts.all Nc then some (some .b) else none
 | .row _ _ ts,r=>if Ha env ts r then some (some .l) else none
 | .not,_| .and,_| .or,_| .lt,_| .le,_| .eq,_| .ne,_| .ifb,_| .eqb,_| .neb,_=>some (some .b)
 | .o2 _,_| .w2 _ _,_| .w1 _,_| .wneg _,_| .neg,_| .bits _ _,_| .len,_| .slen,_| .sat,_=>some (some .i)
 | .app,_| .take,_| .drop,_| .sub,_=>some (some .l)
 | .pick .i,_::r=>some (if r.all (tyR env .i) then some .i else none)
 | .pick .i,[]=>some none
 | .pick .b,_::b::r=>some (if (b::r).all (tyR env .b) then some .b else none)
 | .outI _ _,_=>some (some .i)
 | .outB _ _,_=>some (some .b)
 | .outL _ _,_=>some (some .l)
 | .get .i c,[.e x,_]=>some (if LL env x (.r c) then some .i else none)
 | .get _ _,_| .pick _,_| .res _ _ _,_=>some none
 |_,_=>none
def noR:Ty→Bool| .r _=>false|_=>true
def chk:Bs→List En→Option Bs
 |env,[]=>some env
 |env,e::r=>match No env e with
  |none=>none
  |some none=>chk env r
  |some (some t)=>if noR t then chk ((e.x,t)::env) r else none
section
variable {T:Tab}
theorem NA {t u:Ty}(h:N0 t u=true):t=u:=by cases t<;>cases u<;>first|rfl|(cases h;done)|(rw[Nat.eq_of_beq_eq_true h])
theorem Sq:∀{env:Bs} {x:Nat} {t:Ty},AL T env→LL env x t=true→T.get x=uV T t x
 |[],_,_,_,h=>by cases h
 |(y,u)::r,x,t,hs,h=>by
  simp only[LL] at h
  split at h
  ·rename_i hb
   rw[Bool.and_eq_true] at hb
   have e:=Nat.eq_of_beq_eq_true hb.1
   subst e
   rw[←NA hb.2];exact hs.1.get
  ·exact Sq hs.2 h
theorem Xc:∀{env:Bs} {x c:Nat},AL T env→LL env x (.r c)=true→Wd T x c
 |[],_,_,_,h=>by cases h
 |(y,u)::r,x,c,hs,h=>by
  simp only[LL] at h
  split at h
  ·rename_i hb
   rw[Bool.and_eq_true] at hb
   have e:=Nat.eq_of_beq_eq_true hb.1
   subst e
   have e2:=NA hb.2
   subst e2
   exact hs.1
  ·exact Xc hs.2 h
theorem HS {env:Bs}{t:Ty}{r:Rf}(hs:AL T env)(h:tyR env t r=true):r.eval T=uR T t r:=by
 cases r with
 |c u=>cases u<;>simp only[tyR] at h<;>first|(have e:=NA h;subst e;rfl)|cases h
 |e x=>exact Sq hs h
 |n x=>have e:=NA h;subst e;rfl
theorem E9 {env:Bs}(hs:AL T env):∀{ts:List Ty} {rs:List Rf},Ha env ts rs=true→rs.map (Rf.eval T)=List.zipWith (uR T) ts rs
 |[],[],_=>rfl
 |t::ts,r::rs,h=>by
  simp only[Ha,Bool.and_eq_true] at h
  simp only[List.map_cons,List.zipWith_cons_cons]
  rw[HS hs h.1,E9 hs h.2]
 |[],_::_,h=>by cases h
 |_::_,[],h=>by cases h
theorem Sp {env:Bs}:∀{ts:List Ty} {rs:List Rf},Ha env ts rs=true→rs.length=ts.length
 |[],[],_=>rfl
 |_::_,_::_,h=>by
  simp only[Ha,Bool.and_eq_true] at h
  simp[Sp h.2]
 |[],_::_,h=>by cases h
 |_::_,[],h=>by cases h
theorem VH:∀{ts:List Ty} {rs:List Rf},rs.length=(DE ts).length→ts.all Nc=true→(Em (List.zipWith (uR T) (DE ts) rs)=true↔Bb T ts rs)
 |[],[],_,_=>by simp[Em,DE,Bb]
 |t::ts,a::b::r,hl,hn=>by
  simp only[List.all_cons,Bool.and_eq_true] at hn
  have ih:=VH (ts:=ts) (rs:=r) (by simpa [DE] using hl) hn.2
  simp only[DE,List.zipWith_cons_cons,Em,Bool.and_eq_true]
  rw[ih]
  cases t with
  |i=>simp[uR,U.eqv,Bb]
  |b=>
   simp only[uR,U.eqv,Bb]
   cases bR T a<;>cases bR T b<;>simp
  |l=>exact absurd hn.1 (by simp[Nc])
  |r c=>exact absurd hn.1 (by simp[Nc])
  |s=>exact absurd hn.1 (by simp[Nc])
 |[],_::_,hl,_=>by simp[DE] at hl
 |_::_,[],hl,_=>by simp[DE] at hl
 |_::_,[_],hl,_=>by simp[DE] at hl
theorem Tc {env:Bs}(hs:AL T env){ts:List Ty}{rs:List Rf}{c:Bool}(h:(Ha env (DE ts) rs&&ts.all Nc)=true):Em (rs.map (Rf.eval T))=true↔Bb T ts rs:=by
 rw[Bool.and_eq_true] at h
 rw[E9 hs h.1]
 exact VH (Sp h.1) h.2
theorem X5 (l:List U):(Ew l).toI=0:=by
 unfold Ew;split<;>rfl
theorem YU (l:List U):(Ew l).toB=false:=by
 unfold Ew;split<;>rfl
theorem Qa {d:U}(hd:d.toI=0):∀(l:List Rf) (n:Int),((l.map (Rf.eval T)).getD n.toNat d).toI=Or T l n
 |[],n=>by simp[Or,hd]
 |a::l,n=>by
  simp only[Or]
  split
  ·rename_i h
   have:n.toNat=0:=by omega
   simp[this,iR]
  ·rename_i h
   have e:n.toNat=(n - 1).toNat+1:=by omega
   rw[e,←Qa hd l (n - 1)]
   simp
theorem Q3 {d:U}(hd:d.toB=false):∀(l:List Rf) (n:Int),((l.map (Rf.eval T)).getD n.toNat d).toB=true↔Ow T l n
 |[],n=>by simp[Ow,hd]
 |a::l,n=>by
  simp only[Ow]
  by_cases h:n≤0
  ·have:n.toNat=0:=by omega
   simp[this,h,bR]
  ·have e:n.toNat=(n - 1).toNat+1:=by omega
   rw[e,←Q3 hd l (n - 1)]
   simp[h]
theorem vB {x:Nat}{v:Bool}(h:T.get x= .bool v):B T x=v:=by unfold B;rw[h];rfl
theorem vI {x:Nat}{v:Int}(h:T.get x= .int v):I T x=v:=by unfold I;rw[h];rfl
theorem vL {x:Nat}{v:List (List U)}(h:T.get x= .list v):L T x=v:=by unfold L;rw[h];rfl
theorem sB {x:Nat}{v:Bool}(h:T.get x= .bool v):T.get x=uV T .b x:=by rw[h];show _=U.bool (T.get x).toB;rw[h];rfl
theorem sI {x:Nat}{v:Int}(h:T.get x= .int v):T.get x=uV T .i x:=by rw[h];show _=U.int (T.get x).toI;rw[h];rfl
theorem vS {x:Nat}{v:ByteArray}(h:T.get x= .str v):S T x=v:=by unfold S;rw[h];rfl
theorem sS {x:Nat}{v:ByteArray}(h:T.get x= .str v):T.get x=uV T .s x:=by rw[h];show _=U.str (T.get x).toS;rw[h];rfl
theorem sL {x:Nat}{v:List (List U)}(h:T.get x= .list v):T.get x=uV T .l x:=by rw[h];show _=U.list (T.get x).toL;rw[h];rfl
theorem dz (o:Op2)(a b:Int):AR o (o.f a b) a b:=by
 cases o<;>simp only[AR,Op2.f]<;>first|rfl|exact tdiv_eq_if a b|exact tmod_eq_if a b|exact Int.min_def a b|exact Int.max_def a b
theorem fJ (k:IntKind)(o:Op2)(a b:Int):w2P k o (k.wrap (o.f a b)) a b:=by
 cases k<;>cases o<;>simp only[w2P,Op2.f]<;>exact fun h1 h2=>Ez .i64 _ h1 h2
theorem eV (k:IntKind)(a:Int):wnP k (k.wrap (0 - a)) a:=by
 cases k<;>simp only[wnP]
 refine⟨fun h1 h2=>?_,fun h=>by subst h;decide⟩
 rw[Ez .i64 _ (by show (-9223372036854775808:Int)≤_;omega) (by show _≤(9223372036854775807:Int);omega)]
 omega
theorem Vz {env:Bs}(hs:AL T env):∀(e:En) {o:Option Ty},No env e=some o→T.get e.x=opF e.op (e.rs.map (Rf.eval T))→AE T e:=by
 intro e o ht h
 unfold AE
 split<;>(try simp only at ht h)
 ·exact congrArg U.toI h
 ·exact Bool.eq_iff_iff.1 (congrArg U.toB h)
 ·exact congrArg U.toL h
 ·have:=vB h;rw[this];simp[u0,bR]
 ·have:=vB h;rw[this];simp[u0,u1,bR]
 ·have:=vB h;rw[this];simp[u0,u1,bR]
 ·have:=vB h;rw[this];simp[u0,u1,iR]
 ·have:=vB h;rw[this];simp[u0,u1,iR]
 ·have:=vB h;rw[this];simp[u0,u1,iR]
 ·have:=vB h;rw[this];simp[u0,u1,iR]
 ·rename_i x ts r
  simp only[No] at ht
  split at ht
  ·rename_i hc
   rw[vB h];exact Tc (c:=true) hs hc
  ·cases ht
 ·rename_i x ts r
  simp only[No] at ht
  split at ht
  ·rename_i hc
   rw[vB h,←Tc (c:=true) hs hc];simp
  ·cases ht
 ·have:=vB h;rw[this];simp only[u0,u1,bR,List.map_cons,List.map_nil,List.getD_cons_zero,List.getD_cons_succ];rename_i a b;cases (a.eval T).toB<;>cases (b.eval T).toB<;>simp
 ·have:=vB h;rw[this];simp only[u0,u1,bR,List.map_cons,List.map_nil,List.getD_cons_zero,List.getD_cons_succ];rename_i a b;cases (a.eval T).toB<;>cases (b.eval T).toB<;>simp
 ·rename_i x a b c
  have h1:=congrArg U.toI h
  show (T.get x).toI=_
  rw[h1]
  show (bif (a.eval T).toB then b.eval T else c.eval T).toI=_
  unfold bR iR
  cases (a.eval T).toB<;>rfl
 ·rename_i x a b c
  have h1:=congrArg U.toB h
  show ((T.get x).toB=true↔_)
  rw[h1]
  show ((bif (a.eval T).toB then b.eval T else c.eval T).toB=true↔_)
  unfold bR
  cases (a.eval T).toB<;>simp
 ·rename_i x a b c
  have h1:=congrArg U.toL h
  show (T.get x).toL=_
  rw[h1]
  show (bif (a.eval T).toB then b.eval T else c.eval T).toL=_
  unfold bR lR
  cases (a.eval T).toB<;>rfl
 ·rename_i x a b c
  rw[vB h]
  show ((bif (a.eval T).toB then (b.eval T).toB else (c.eval T).toB)=true↔_)
  unfold bR
  cases (a.eval T).toB<;>simp
 ·rw[vI h];exact dz _ _ _
 ·rw[vI h];exact fJ _ _ _ _
 ·rw[vI h];rfl
 ·rw[vI h];exact eV _ _
 ·rw[vI h];show 0 - _=_;rw[Int.zero_sub];rfl
 ·rw[vI h];rfl
 ·rw[vI h];rfl
 ·rw[vL h];rfl
 ·rw[vL h];rfl
 ·rw[vL h];rfl
 ·rw[vL h];rfl
 ·rw[vI h];rfl
 ·rw[vI h];rfl
 ·exact congrArg U.toI h
 ·exact congrArg U.toB h
 ·exact congrArg U.toL h
 ·exact (congrArg U.toI h).trans (Qa (X5 _) _ _)
 ·have h1:=congrArg U.toB h
  refine Iff.trans (b:=((_:U).toB=true)) (by rw[show B T _=_ from h1];exact Iff.rfl) (Q3 (YU _) _ _)
 ·rename_i x k s ts r
  simp only[No] at ht
  split at ht
  ·rename_i hc
   rw[vL h,E9 hs hc]
  ·cases ht
 ·exact congrArg U.toI h
 ·exact congrArg U.toB h
 ·exact congrArg U.toL h
 ·trivial
theorem Qd {env:Bs}(hs:AL T env):∀{r:List Rf} (n:Nat),r.all (tyR env .i)=true→∃v,(r.map (Rf.eval T)).getD n (.int 0)= .int v
 |[],n,_=>⟨0,by simp⟩
 |a::r,n,h=>by
  simp only[List.all_cons,Bool.and_eq_true] at h
  cases n with
  |zero=>exact⟨iR T a,by simpa [uR] using HS hs h.1⟩
  |succ n=>simpa using Qd hs (r:=r) n h.2
theorem OB {env:Bs}(hs:AL T env):∀{r:List Rf} (n:Nat),r.all (tyR env .b)=true→∃v,(r.map (Rf.eval T)).getD n (.bool false)= .bool v
 |[],n,_=>⟨false,by simp⟩
 |a::r,n,h=>by
  simp only[List.all_cons,Bool.and_eq_true] at h
  cases n with
  |zero=>exact⟨bR T a,by simpa [uR] using HS hs h.1⟩
  |succ n=>simpa using OB hs (r:=r) n h.2
theorem bH {env:Bs}(hs:AL T env){r:List Rf}(n:Nat)(h:r.all (tyR env .i)=true):∃v,(r.map (Rf.eval T)).getD n (Ew (r.map (Rf.eval T)))= .int v:=by
 have e:Ew (r.map (Rf.eval T))= .int 0:=by
  cases r with
  |nil=>rfl
  |cons a r=>
   simp only[List.all_cons,Bool.and_eq_true] at h
   have h1:a.eval T= .int (iR T a):=by simpa [uR] using HS hs h.1
   rw[List.map_cons,h1];rfl
 rw[e];exact Qd hs n h
theorem X8 {env:Bs}(hs:AL T env){b:Rf}{r:List Rf}(n:Nat)(h:(b::r).all (tyR env .b)=true):∃v,((b::r).map (Rf.eval T)).getD n (Ew ((b::r).map (Rf.eval T)))= .bool v:=by
 have e:Ew ((b::r).map (Rf.eval T))= .bool false:=by
  have h0:=h
  simp only[List.all_cons,Bool.and_eq_true] at h0
  have h1:b.eval T= .bool (bR T b):=by simpa [uR] using HS hs h0.1
  rw[List.map_cons,h1];rfl
 rw[e];exact OB hs n h
theorem fC {env:Bs}(hs:AL T env):∀(e:En) {t:Ty},No env e=some (some t)→T.get e.x=opF e.op (e.rs.map (Rf.eval T))→T.get e.x=uV T t e.x:=by
 intro e t ht h
 unfold No at ht
 split at ht
 ·rename_i a e1 e2
  split at ht
  ·rename_i hc
   cases ht
   rw[e1,e2] at h
   have h2:T.get e.x=a.eval T:=h
   rw[HS hs hc] at h2
   cases t
   ·exact sI h2
   ·exact sB h2
   ·exact sL h2
   ·rfl
   ·exact sS h2
  ·cases ht
 ·rename_i a b c e1 e2
  split at ht
  ·rename_i hc
   cases ht
   rw[Bool.and_eq_true] at hc
   rw[e1,e2] at h
   have h2:T.get e.x=bif (a.eval T).toB then b.eval T else c.eval T:=h
   rw[HS hs hc.1,HS hs hc.2] at h2
   cases t<;>cases hb:(a.eval T).toB<;>rw[hb] at h2<;>first|exact sI h2|exact sB h2|exact sL h2|exact sS h2|rfl
  ·cases ht
 all_goals first
  |(rename_i c x a e1 e2;split at ht<;>cases ht;rename_i hc;rw[e1,e2] at h;obtain⟨n,hn⟩:=Xc hs hc (a.eval T).toI.toNat;exact sI (h.trans hn))
  |(rename_i a b2 r e1 e2;split at ht<;>cases ht;rename_i hc;rw[e1,e2] at h;obtain⟨v,hv⟩:=X8 hs (a.eval T).toI.toNat hc;exact sB (h.trans hv))
  |(rename_i a r e1 e2;split at ht<;>cases ht;rename_i hc;rw[e1,e2] at h;obtain⟨v,hv⟩:=bH hs (a.eval T).toI.toNat hc;exact sI (h.trans hv))
  |(rename_i e1;split at ht<;>cases ht;rw[e1] at h;first|exact sI h|exact sB h|exact sL h)
  |(rename_i e1;cases ht;rw[e1] at h;first|exact sI h|exact sB h|exact sL h)
  |(cases ht)
  |skip
def AJ (T:Tab):List En→Prop
 |[]=>True
 |e::r=>AE T e∧AJ T r
theorem AJ.left:∀{a b:List En},AJ T (a++b)→AJ T a
 |[],_,_=>trivial
 |_::_,_,h=>⟨h.1,AJ.left h.2⟩
theorem AJ.right:∀{a b:List En},AJ T (a++b)→AJ T b
 |[],_,h=>h
 |_::_,_,h=>AJ.right h.2
end
abbrev BE:=Nat × (List U→U) × List Rf
abbrev BO:=PC × (List U→Prop) × List Rf
abbrev BP:=(List U→Prop) × List Rf
def Hl (l:List (Nat × Ex)):List BE:=l.map fun p=>(p.1,p.2.f,p.2.args)
def Km (l:List Ob):List BO:=l.map fun o=>(o.pc,o.p.f,o.p.args)
def bU (l:List Pr):List BP:=l.map fun p=>(p.f,p.args)
def Ag (T:Tab):List BE→Prop
 |[]=>True
 |(x,f,rs)::r=>T x=f (rs.map (Rf.eval T))∧Ag T r
def SB (T:Tab):List BO→Prop
 |[]=>True
 |(pc,f,rs)::r=>(pcv T pc→f (rs.map (Rf.eval T)))∧SB T r
def AllP (T:Tab):List BP→Prop
 |[]=>True
 |(f,rs)::r=>f (rs.map (Rf.eval T))∧AllP T r
section
variable {T:Tab}
theorem Mn:∀{l:List (Nat × Ex)},(∀p∈l,T p.1=p.2.eval T)→Ag T (Hl l)
 |[],_=>trivial
 |p::_,h=>⟨h p (List.mem_cons_self ..),Mn fun q hq=>h q (List.mem_cons_of_mem _ hq)⟩
theorem N6:∀{l:List (Nat × Ex)},Ag T (Hl l)→∀p∈l,T p.1=p.2.eval T
 |[],_,p,hp=>by cases hp
 |e::r,h,p,hp=>by
  cases hp with
  |head=>exact h.1
  |tail _ hp=>exact N6 (l:=r) h.2 p hp
theorem Ag.left:∀{a b:List BE},Ag T (a++b)→Ag T a
 |[],_,_=>trivial
 |_::_,_,h=>⟨h.1,Ag.left h.2⟩
theorem Ag.right:∀{a b:List BE},Ag T (a++b)→Ag T b
 |[],_,h=>h
 |_::_,_,h=>Ag.right h.2
theorem Mt:∀{l:List Ob},SB T (Km l)→∀o∈l,o.holds T
 |[],_,o,ho=>by cases ho
 |o'::_,h,o,ho=>by
  cases ho with
  |head=>exact h.1
  |tail _ ho=>exact Mt h.2 o ho
theorem VV:∀{l:List Pr},AllP T (bU l)→∀o∈l,o.holds T
 |[],_,o,ho=>by cases ho
 |o'::_,h,o,ho=>by
  cases ho with
  |head=>exact h.1
  |tail _ ho=>exact VV h.2 o ho
theorem YN {x:Nat}:∀(t:Ty),T.get x=uV T t x→(∀c,t≠ .r c)→Sty T x t
 | .i,h,_=>h
 | .b,h,_=>h
 | .l,h,_=>h
 | .r c,_,h=>absurd rfl (h c)
 | .s,h,_=>h
theorem N9:∀{l:List En} {env env':Bs},AL T env→chk env l=some env'→Ag T (l.map En.be)→AJ T l∧AL T env'
 |[],env,env',hs,h,_=>by
  simp only[chk] at h;cases h;exact⟨trivial,hs⟩
 |e::r,env,env',hs,h,hb=>by
  simp only[chk] at h
  split at h
  ·cases h
  ·rename_i ht
   obtain⟨h1,h2⟩:=N9 hs h hb.2
   exact⟨⟨Vz hs e ht hb.1,h1⟩,h2⟩
  ·rename_i t ht
   split at h
   ·rename_i hn
    obtain⟨h1,h2⟩:=N9 (env:=(e.x,t)::env) ⟨YN t (fC hs e ht hb.1) (fun c hc=>by rw[hc] at hn;cases hn),hs⟩ h hb.2
    exact⟨⟨Vz hs e ht hb.1,h1⟩,h2⟩
   ·cases h
def Al (env:Bs)(l:List En):Bs:=(chk env l).getD []
theorem Ac {l:List En}{env:Bs}(hs:AL T env)(hc:(chk env l).isSome=true)(hb:Ag T (l.map En.be)):AJ T l∧AL T (Al env l):=by
 obtain⟨env',h⟩:=Option.isSome_iff_exists.1 hc
 have:=N9 hs h hb
 unfold Al
 rw[h];exact this
def ad (env:Bs)(l:List En)(tys:List Ty)(rs:List Rf):Bool:=match chk env l with
 |some env'=>Ha env' tys rs
 |none=>false
theorem Ar {l:List En}{env:Bs}{tys:List Ty}{rs:List Rf}(hs:AL T env)(hc:ad env l tys rs=true)(hb:Ag T (l.map En.be)):AJ T l∧rs.map (Rf.eval T)=List.zipWith (uR T) tys rs:=by
 unfold ad at hc
 split at hc
 ·rename_i env' h
  obtain⟨h1,h2⟩:=N9 hs h hb
  exact⟨h1,E9 h2 hc⟩
 ·cases hc
theorem AL.append:∀{a b:Bs},AL T a→AL T b→AL T (a++b)
 |[],_,_,h=>h
 |_::_,_,h,h'=>⟨h.1,AL.append h.2 h'⟩
def tyKd:Kd→Option Ty
 | .int _ _ _=>some .i
 | .bool=>some .b
 | .list _=>some .l
 | .str=>some .s
 |_=>none
def Oz (x:Nat):Nat→List Kd→Bs
 |_,[]=>[]
 |c,.int _ _ _::es=>(x,.r c)::Oz x (c+1) es
 |c,_::es=>Oz x (c+1) es
def BT:Nat→List Kd→Bs
 |_,[]=>[]
 |x,.list es::ks=>(x,.l)::(Oz x 0 es++BT (x+1) ks)
 |x,k::ks=>match tyKd k with
  |some t=>(x,t)::BT (x+1) ks
  |none=>BT (x+1) ks
def Bnd (T:Tab):Nat→List Kd→Prop
 |_,[]=>True
 |x,.int _ lo hi::ks=>(lo≤I T x∧I T x≤hi)∧Bnd T (x+1) ks
 |x,.list es::ks=>((L T x).length≤140737488355328∧∀(i:Nat) (us:List U),(L T x)[i]? =some us→CL A9 es us)∧Bnd T (x+1) ks
 |x,.str::ks=>(S T x).size≤140737488355328∧Bnd T (x+1) ks
 |x,_::ks=>Bnd T (x+1) ks
theorem AL.append0:∀{a b:Bs},AL T a→AL T b→AL T (a++b)
 |[],_,_,h=>h
 |_::_,_,h,h'=>⟨h.1,AL.append0 h.2 h'⟩
theorem SW:∀{es:List Kd} {us:List U} {c:Nat} {k:Kd},CL A9 es us→es[c]? =some k→∃u,us[c]? =some u∧KdU A9 k u
 |[],_,_,_,_,h=>by simp at h
 |e::es,us,c,k,⟨u,us',e1,h1,h2⟩,h=>by
  subst e1
  cases c with
  |zero=>simp at h;subst h;exact⟨u,rfl,h1⟩
  |succ c=>simpa using SW h2 (by simpa using h)
theorem dO {x c:Nat}{es:List Kd}{kk:IntKind}{lo hi:Int}(h:∀(i:Nat) (us:List U),(L T x)[i]? =some us→CL A9 es us)(hc:es[c]? =some (.int kk lo hi)):Wd T x c:=fun i=>by
 rcases Nat.lt_or_ge i (L T x).length with hi|hi
 ·obtain⟨u,h1,⟨n,e,_⟩⟩:=SW (h i _ (List.getElem?_eq_getElem hi)) hc
  refine⟨n,?_⟩
  simp only[List.getD,List.getElem?_eq_getElem hi,Option.getD_some,h1]
  exact e
 ·exact⟨0,by simp only[List.getD,List.getElem?_eq_none hi,Option.getD_none];simp;rfl⟩
theorem Vb {x:Nat}{all:List Kd}(h:∀(i:Nat) (us:List U),(L T x)[i]? =some us→CL A9 all us):∀(es:List Kd) (c:Nat),(∀j k,es[j]? =some k→all[c+j]? =some k)→AL T (Oz x c es)
 |[],_,_=>trivial
 |e::es,c,ha=>by
  have ih:=Vb h es (c+1) fun j k hj=>by
   have:=ha (j+1) k (by simpa using hj)
   rw[show c+(j+1)=c+1+j by omega] at this
   exact this
  cases e with
  |int kk lo hi=>exact⟨dO h (ha 0 _ rfl),ih⟩
  |_=>exact ih
theorem SR:∀{ks:List Kd} {us:List U} {x:Nat},CL A9 ks us→(∀j u,us[j]? =some u→T (x+j)=u)→AL T (BT x ks)∧Bnd T x ks
 |[],us,x,_,_=>⟨trivial,trivial⟩
 |k::ks,us,x,⟨u,us',e,h1,h2⟩,hT=>by
  subst e
  have ih:=SR (x:=x+1) h2 fun j v hj=>by
   have:=hT (j+1) v (by simpa using hj)
   rw[show x+(j+1)=x+1+j by omega] at this
   exact this
  have h0:T.get x=u:=hT 0 u rfl
  cases k with
  |int kk lo hi=>
   obtain⟨n,e1,e2⟩:=h1
   rw[e1] at h0
   refine⟨⟨sI h0,ih.1⟩,?_,ih.2⟩
   rw[vI h0];exact e2
  |bool=>
   obtain⟨n,e1⟩:=h1
   rw[e1] at h0
   exact⟨⟨sB h0,ih.1⟩,ih.2⟩
  |str=>
   obtain⟨n,e1,e2⟩:=h1
   rw[e1] at h0
   exact⟨⟨sS h0,ih.1⟩,by rw[vS h0];exact e2,ih.2⟩
  |val=>exact ih
  |any=>exact ih
  |list es=>
   obtain⟨n,e1,e2,e3⟩:=h1
   rw[e1] at h0
   have e3':∀(i:Nat) (us:List U),(L T x)[i]? =some us→CL A9 es us:=by rw[vL h0];exact e3
   refine⟨⟨sL h0,(Vb e3' es 0 (fun j k hj=>by rw[Nat.zero_add];exact hj)).append0 ih.1⟩,?_,ih.2⟩
   exact⟨by rw[vL h0];exact e2,e3'⟩
end
inductive PO where
 |take|sub|nez|t|inr|inl|ins|btw (lo hi:Int)|fits (b:Nat)|ready|ne|pre (tg:String) (p:List U→Prop)|owes (D:Ae)
structure ObE where
 pc:PC
 po:PO
 rs:List Rf
def poF:PO→List U→Prop
 | .take=>OP| .sub=>ZW| .nez=>Nm| .t=>pT| .inr=>pIn| .inl=>Pw| .ins=>XW| .btw lo hi=>Dx lo hi| .fits b=>NI b| .ready=>Rb| .ne=>pNe| .pre _ p=>p| .owes D=>D.owes
def ObE.be (o:ObE):PC × (List U→Prop) × List Rf:=(o.pc,poF o.po,o.rs)
def pcP (T:Tab):PC→Prop
 |none=>True
 |some c=>B T c=true
def Ws (T:Tab)(o:ObE):Prop:=
 match o with
 |⟨pc,.take,[a,b]⟩=>pcP T pc→(0≤iR T b∧iR T b≤(lR T a).length)
 |⟨pc,.sub,[a,b,c]⟩=>pcP T pc→(0≤iR T b∧iR T b≤iR T c∧iR T c≤(lR T a).length)
 |⟨pc,.nez,[a]⟩=>pcP T pc→¬iR T a=0
 |⟨pc,.t,[a]⟩=>pcP T pc→bR T a=true
 |⟨pc,.inr,[a,b]⟩=>pcP T pc→(0≤iR T a∧iR T a < iR T b)
 |⟨pc,.inl,[a,b]⟩=>pcP T pc→(0≤iR T a∧iR T a < (lR T b).length)
 |⟨pc,.ins,[a,b]⟩=>pcP T pc→(0≤iR T b∧iR T b < (stR T a).size)
 |⟨pc,.btw lo hi,[a]⟩=>pcP T pc→(lo≤iR T a∧iR T a≤hi)
 |⟨pc,.fits b,[a,c]⟩=>pcP T pc→((lR T a).length+(lR T c).length)*b≤140737488355328
 |⟨pc,.ready,[a]⟩=>pcP T pc→iR T a=0
 |⟨pc,.ne,[a,b]⟩=>pcP T pc→¬iR T a=iR T b
 |⟨pc,.pre _ p,rs⟩=>pcP T pc→p (rs.map (Rf.eval T))
 |⟨pc,.owes D,rs⟩=>pcP T pc→D.owes (rs.map (Rf.eval T))
 |_=>False
def Nj (T:Tab):List ObE→Prop
 |[]=>True
 |o::r=>Ws T o∧Nj T r
section
variable {T:Tab}
theorem TQ {pc:PC}(h:pcv T pc):pcP T pc:=by
 cases pc with
 |none=>trivial
 |some c=>show (T.get c).toB=true;rw[show T.get c= .bool true from h];rfl
theorem Su {pc:PC}(h:pcP T pc):pcv T pc:=by
 cases pc with
 |none=>trivial
 |some c=>exact Ev.2 h
theorem ZS:∀{o:ObE},Ws T o→(pcv T o.pc→poF o.po (o.rs.map (Rf.eval T))):=by
 intro o h hp
 have hp':=TQ hp
 unfold Ws at h
 split at h<;>first|exact h hp'|exact h.elim
theorem Js:∀{l:List ObE},Nj T l→SB T (l.map ObE.be)
 |[],_=>trivial
 |_::_,h=>⟨ZS h.1,Js h.2⟩
end
def Ak.sees (t:Ak)(rs:List Rf)(r:Option (AC × Mem × G)):Option (List BE × List BO × List BP):=
 match r with
 |some (c0,m0,g0)=>match Ss t rs c0 m0 g0 with
  |some ps=>some (Hl g0.eqs.reverse,Km g0.obs,bU ps)
  |none=>none
 |none=>none
theorem PT:∀{ks:List Kd} {us:List U},us.length=ks.length→TC ks us→CL A9 ks us
 |[],[],_,_=>rfl
 |k::ks,u::us,hl,h=>⟨u,us,rfl,h 0 k u rfl rfl,PT (by simpa using hl) fun j k' u' h1 h2=>h (j+1) k' u' (by simpa using h1) (by simpa using h2)⟩
 |[],_::_,hl,_=>by simp at hl
 |_::_,[],hl,_=>by simp at hl
def Ak.run (P:Program)(l:List (FuncId × Ak))(Ah:FuncId→Gf)(fuel depth:Nat)(f:FuncId)(t:Ak):Option (AC × Mem × G):=
 HB P (Ko l) Ah fuel depth (fun _=>none) f t.args none t.m { n:=t.n,eqs:=[],obs:=[] }
def dQ (t:Ak):Bool:=(List.range t.m.length).all fun id=>match t.m'.at id with| .pad=>false|_=>true
theorem Ai {P:Program}{f:FuncId}{t:Ak}(hm:P.follows .mixedOrders=true){l:List (FuncId × Ak)}(hl:∀p∈l,Aq P p.1 p.2){Ah:FuncId→Gf}{fuel depth:Nat}{rs:List Rf}{es:List En}{os:List ObE}
  (hrun:t.sees rs (t.run P l Ah fuel depth f)=some (es.map En.be,os.map ObE.be,[])) (hne:dQ t=true)
  (hplain:∀(T:Tab) (us:List U),(∀p∈t.pre,p.2 us)→(∀j u,us[j]? =some u→T j=u)→us.length=t.n→AL T (BT 0 t.ks)→Bnd T 0 t.ks→Ag T (es.map En.be)→Nj T os∧rs.map (Rf.eval T)=t.outs.map fun o=>o.2 us):Aq P f t:=by
 unfold Ak.sees at hrun
 split at hrun
 ·rename_i c0 m0 g0 hr
  split at hrun
  ·rename_i ps hok
   injection hrun with hrun
   injection hrun with e1 hrun
   injection hrun with e2 e3
   refine cY hm (N3 hl) hr hok (fun id hid e=>?_) fun T us hul hin hpre hlow heqs=>?_
   ·have:=List.all_eq_true.1 hne id (List.mem_range.2 hid)
    rw[e] at this;cases this
   ·have hb:Ag T (Hl g0.eqs.reverse):=Mn fun p hp=>heqs p (List.mem_reverse.1 hp)
    rw[e1] at hb
    obtain⟨i1,i2⟩:=SR (x:=0) (PT hul hin) fun j u hj=>by rw[Nat.zero_add];exact hlow j u hj
    obtain⟨h1,h3⟩:=hplain T us hpre hlow hul i1 i2 hb
    have h2:=Js h1
    rw[←e2] at h2
    exact⟨Mt h2,VV (by rw[e3];trivial),h3⟩
  ·cases hrun
 ·cases hrun
theorem lc {α:Type}{a b:α}{l m:List α}(h:a=b)(h':l=m):a::l=b::m:=by rw[h,h']
def aI (us:List U)(j:Nat):Int:=(us.getD j default).toI
def aB (us:List U)(j:Nat):Bool:=(us.getD j default).toB
def aL (us:List U)(j:Nat):List (List U):=(us.getD j default).toL
def aS (us:List U)(j:Nat):ByteArray:=(us.getD j default).toS
theorem inI {T:Tab}{us:List U}{j n:Nat}(h:∀j u,us[j]? =some u→T j=u)(hl:us.length=n)(hj:j < n):aI us j=I T j:=by
 have:=h j us[j] (List.getElem?_eq_getElem (by omega))
 unfold aI I
 rw[show T.get j=us[j] from this]
 simp[List.getD,List.getElem?_eq_getElem (show j < us.length by omega)]
theorem inB {T:Tab}{us:List U}{j n:Nat}(h:∀j u,us[j]? =some u→T j=u)(hl:us.length=n)(hj:j < n):aB us j=B T j:=by
 have:=h j us[j] (List.getElem?_eq_getElem (by omega))
 unfold aB B
 rw[show T.get j=us[j] from this]
 simp[List.getD,List.getElem?_eq_getElem (show j < us.length by omega)]
theorem inL {T:Tab}{us:List U}{j n:Nat}(h:∀j u,us[j]? =some u→T j=u)(hl:us.length=n)(hj:j < n):aL us j=L T j:=by
 have:=h j us[j] (List.getElem?_eq_getElem (by omega))
 unfold aL L
 rw[show T.get j=us[j] from this]
 simp[List.getD,List.getElem?_eq_getElem (show j < us.length by omega)]
theorem inS {T:Tab}{us:List U}{j n:Nat}(h:∀j u,us[j]? =some u→T j=u)(hl:us.length=n)(hj:j < n):aS us j=S T j:=by
 have:=h j us[j] (List.getElem?_eq_getElem (by omega))
 unfold aS S
 rw[show T.get j=us[j] from this]
 simp[List.getD,List.getElem?_eq_getElem (show j < us.length by omega)]
theorem Lz {a b:Bool}(h:a=true↔b=true):a=b:=Bool.eq_iff_iff.2 h
end Go.Eng
end
noncomputable section
namespace Go.Eng
open Go
theorem RR {D:Ae}{top:Nat}(h:D.inScope top=true):DD D.fv D.nh (D.nh+D.k) top D.eqs=true∧FD D.fv D.nh top (pcL D.pcn)=true∧∀x∈D.fv,x < D.nh:=by
 simp only[Ae.inScope,Bool.and_eq_true] at h
 obtain⟨⟨⟨⟨s1,s2⟩,_⟩,_⟩,s5⟩:=h
 exact⟨s1,s2,fun x hx=>Bd (List.all_eq_true.1 s5 x hx)⟩
theorem O9 {D:Ae}{T:Tab}{top:Nat}{inits:List U}(hsc:D.inScope top=true)(hk:inits.length=D.k)(hnl:D.nxt.length=D.k)(hH:∀j,j < D.k→T (D.nh+j)=D.res j (D.fv.map T.get++inits))(hE:∀p∈D.eqs,T p.1=p.2.eval T)
  (Inv:List U→Prop) (μ:List U→Nat) (h0:Inv inits)
  (hstep:∀(T':Tab) (s:List U),s.length=D.k→(∀x∈D.fv,T' x=T x)→(∀j u,s[j]? =some u→T' (D.nh+j)=u)→Ag T' (Hl D.eqs.reverse)→Inv s→SB T' (Km D.obs)∧(pcv T' D.pcn→Inv (D.nxt.map (Rf.eval T'))∧μ (D.nxt.map (Rf.eval T')) < μ s)):
  D.owes (D.fv.map T.get++inits)∧(∃t,Inv t∧t.length=D.k∧∀j u,t[j]? =some u→T (D.nh+j)=u)∧¬pcv T D.pcn:=by
 obtain⟨sc1,sc2,hfv⟩:=RR hsc
 have hlo:D.nh≤D.nh+D.k:=Nat.le_add_right _ _
 generalize hus:D.fv.map T.get=us at*
 have hfl:us.length=D.fv.length:=by rw[←hus];simp
 have e1:(us++inits).take D.fv.length=us:=by rw[←hfl];simp
 have e2:(us++inits).drop D.fv.length=inits:=by rw[←hfl];simp
 have key:∀s:List U,s.length=D.k→Inv s→SB (D.tab us s) (Km D.obs)∧(pcv (D.tab us s) D.pcn→Inv (D.nxt.map (Rf.eval (D.tab us s)))∧μ (D.nxt.map (Rf.eval (D.tab us s))) < μ s):=fun s hs hi=>by
  refine hstep (D.tab us s) s hs (fun x hx=>?_) (fun j u hj=>?_) (Mn fun p hp=>?_) hi
  ·have:=hfv x hx
   unfold Ae.tab
   rw[(DH sc1).2.2 x (.inl (by omega)),Fw _ _ _ _ this,←hus]
   exact Io D.fv x hx
  ·have hjl:=(List.getElem?_eq_some_iff.1 hj).1
   unfold Ae.tab
   rw[(DH sc1).2.2 _ (.inl (by omega))]
   exact Ff _ _ _ _ _ hj
  ·exact HV hfv hlo sc1 p (List.mem_reverse.1 hp)
 have stepE:∀s,D.step us s=(bif pcB (D.tab us s) D.pcn then some (D.nxt.map (Rf.eval (D.tab us s))) else none):=fun s=>rfl
 have go:∀(n:Nat) (s:List U),μ s≤n→s.length=D.k→Inv s→∃m t,Ek (D.step us) m s=some t∧D.step us t=none∧Inv t∧t.length=D.k:=by
  intro n
  induction n with
  |zero=>
   intro s hm hs hi
   cases hp:pcB (D.tab us s) D.pcn with
   |true=>have:=((key s hs hi).2 (IG.1 hp)).2;omega
   |false=>exact⟨0,s,rfl,by rw[stepE,hp];rfl,hi,hs⟩
  |succ n ih=>
   intro s hm hs hi
   cases hp:pcB (D.tab us s) D.pcn with
   |true=>
    obtain⟨k1,k2⟩:=(key s hs hi).2 (IG.1 hp)
    obtain⟨m,t,q1,q2,q3,q4⟩:=ih (D.nxt.map (Rf.eval (D.tab us s))) (by omega) (by simp[hnl]) k1
    refine⟨m+1,t,?_,q2,q3,q4⟩
    simp only[Ek,stepE,hp,cond_true,Option.bind_some]
    exact q1
   |false=>exact⟨0,s,rfl,by rw[stepE,hp];rfl,hi,hs⟩
 obtain⟨m,t,q1,q2,q3,q4⟩:=go (μ inits) inits (Nat.le_refl _) hk h0
 have hreach:∀s,DM (D.step us) inits s→Inv s∧s.length=D.k:=by
  intro s hr
  induction hr with
  |zero=>exact⟨h0,hk⟩
  |succ hr hst ih=>
   rename_i s1 s2
   rw[stepE] at hst
   cases hp:pcB (D.tab us s1) D.pcn with
   |true=>
    rw[hp] at hst
    cases hst
    exact⟨((key s1 ih.2 ih.1).2 (IG.1 hp)).1,by simp[hnl]⟩
   |false=>rw[hp] at hst;cases hst
 have hlast:=VE q1 q2
 have hT:∀j u,t[j]? =some u→T (D.nh+j)=u:=fun j u hj=>by
  have hjl:=(List.getElem?_eq_some_iff.1 hj).1
  rw[hH j (by omega)]
  unfold Ae.res
  rw[e1,e2,hlast]
  simp[List.getD,hj]
 refine⟨⟨by rw[e1,e2];exact⟨m,t,q1,q2⟩,fun s hr=>?_⟩,⟨t,q3,q4,hT⟩,fun hp=>?_⟩
 ·rw[e1,e2] at hr
  rw[e1]
  obtain⟨i1,i2⟩:=hreach s hr
  exact Mt (key s i2 i1).1
 ·have hag:∀x,x∈D.fv∨(D.nh≤x∧x < top)→T x=D.tab us t x:=fun x hx=>by
   have:=Jj (T1:=T) (T2:=(Iz D.fv us).upds D.nh t) hfv hlo (fun y hy=>?_) sc1 x hx
   ·rw[KU hE] at this
    exact this
   ·rcases hy with hy|hy
    ·rw[Fw _ _ _ _ (hfv y hy),←hus]
     exact (Io D.fv y hy).symm
    ·have hj:y - D.nh < t.length:=by omega
     have h1:=Ff t (Iz D.fv us) D.nh (y - D.nh) t[y - D.nh] (List.getElem?_eq_getElem hj)
     have h2:=hT (y - D.nh) t[y - D.nh] (List.getElem?_eq_getElem hj)
     rw[show D.nh+(y - D.nh)=y by omega] at h1 h2
     rw[h1,h2]
  have:pcB (D.tab us t) D.pcn=true:=by
   cases hc:D.pcn with
   |none=>rfl
   |some c=>
    rw[hc] at hp sc2
    have hcs:=D9 sc2 c (by simp[pcL])
    rw[IG]
    show D.tab us t c= .bool true
    rw[←hag c hcs]
    exact hp
  rw[stepE,this] at q2
  cases q2
def Yj:Op2→String
 | .add=> "add" | .sub=> "sub" | .mul=> "mul" | .div=> "div" | .mod=> "mod" | .tdiv=> "tdiv" | .tmod=> "tmod" | .min=> "min" | .max=> "max"
def dV:BinOp→String
 | .and=> "and" | .or=> "or" | .xor=> "xor" |_=> "andNot"
def fD:Opn→Tg
 | .take=> "take" | .drop=> "drop" | .sub=> "cut" | .slen=> "slen" | .sat=> "sat"
 | .id _=> "id" | .not=> "not" | .and=> "and" | .or=> "or" | .lt=> "lt" | .le=> "le" | .eq=> "eq" | .ne=> "ne"
 | .eqs _=> "eqs" | .nes _=> "nes" | .eqb=> "eqb" | .neb=> "neb" | .ite _=> "if" | .ifb=> "ifb"
 | .o2 o=>Yj o| .w2 k o=>Dg k++ " " ++Yj o| .w1 k=>Dg k++ " id" | .wneg k=>Dg k++ " neg" | .neg=> "neg" | .bits o k=>Dg k++ " " ++dV o
 | .len=> "len" | .app=> "app" | .get _ c=> "get " ++toString c| .pick _=> "pick" | .row _ s _=> "row " ++toString s
 | .outI tg _=>tg| .outB tg _=>tg| .outL tg _=>tg| .res _ D j=>D.tg j
def fA:PO→Tg
 | .take=> "take" | .sub=> "cut" | .nez=> "nez" | .t=> "t" | .inr=> "in" | .inl=> "inl" | .ins=> "ins" | .btw lo hi=> "between " ++toString lo++ " " ++toString hi| .fits b=> "fits " ++toString b| .ready=> "ready" | .ne=> "ne" | .pre tg _=>tg| .owes D=>D.tg 0
def En.ex (e:En):Nat × Ex:=(e.x,⟨fD e.op,opF e.op,e.rs⟩)
def ObE.ob (o:ObE):Ob:=⟨o.pc,⟨fA o.po,poF o.po,o.rs⟩⟩
def mkD (nh k:Nat)(bes:List En)(pcn:Nat)(nxt:List Rf)(bos:List ObE)(fv:List Nat):Ae:=
 {nh,k,eqs:=(bes.map En.ex).reverse,pcn:=some pcn,nxt,obs:=bos.map ObE.ob,fv }
def hds:Nat→List Ty→Bs
 |_,[]=>[]
 |x,t::ts=>(x,t)::hds (x+1) ts
def hdU (T:Tab):Nat→List Ty→List U
 |_,[]=>[]
 |x,t::ts=>uV T t x::hdU T (x+1) ts
def uOf:Ty→U→U
 | .i,u=> .int u.toI
 | .b,u=> .bool u.toB
 | .l,u=> .list u.toL
 | .r _,u=>u
 | .s,u=> .str u.toS
def TyU:List Ty→List U→Prop
 |[],[]=>True
 |t::ts,u::us=>(u=uOf t u∧noR t=true)∧TyU ts us
 |_,_=>False
def GQ (fv:List Nat)(env:Bs):Bs:=env.filter fun p=>fv.contains p.1
section
variable {T:Tab}
theorem KQ:∀{ts:List Ty} {rs:List Rf},ts.all noR=true→ts.length=rs.length→TyU ts (List.zipWith (uR T) ts rs)
 |[],[],_,_=>trivial
 |t::ts,r::rs,h0,h=>by
  simp only[List.all_cons,Bool.and_eq_true] at h0
  exact⟨⟨by cases t<;>rfl,h0.1⟩,KQ h0.2 (by simpa using h)⟩
 |[],_::_,_,h=>by simp at h
 |_::_,[],_,h=>by simp at h
theorem Lp:∀{ts:List Ty} {us:List U} {x:Nat},TyU ts us→(∀j u,us[j]? =some u→T (x+j)=u)→AL T (hds x ts)∧hdU T x ts=us
 |[],[],_,_,_=>⟨trivial,rfl⟩
 |t::ts,u::us,x,h,hT=>by
  obtain⟨h1,h2⟩:=Lp (x:=x+1) h.2 fun j v hj=>by
   have:=hT (j+1) v (by simpa using hj)
   rw[show x+(j+1)=x+1+j by omega] at this
   exact this
  have h0:T.get x=u:=hT 0 u rfl
  have e:u=uV T t x:=by
   have:=h.1.1
   cases t<;>(simp only[uV,uR,iR,bR,lR,stR,Rf.eval];rw[show T x=u from h0];try exact this)
  exact⟨⟨YN t (h0.trans e) (fun c hc=>by have:=h.1.2;rw[hc] at this;cases this),h1⟩,by simp only[hdU];rw[h2,←e]⟩
 |[],_::_,_,h,_=>h.elim
 |_::_,[],_,h,_=>h.elim
theorem DX {T2:Tab}{fv:List Nat}(hfv:∀x∈fv,T2.get x=T.get x):∀{env:Bs},AL T env→AL T2 (GQ fv env)
 |[],_=>trivial
 |(x,t)::r,h=>by
  unfold GQ
  rw[List.filter_cons]
  split
  ·rename_i hc
   have e:=hfv x (List.contains_iff_mem.1 hc)
   refine⟨?_,DX hfv h.2⟩
   cases t with
   |r c=>
    have h1:Wd T x c:=h.1
    intro i
    obtain⟨n,hn⟩:=h1 i
    exact⟨n,by unfold L at hn⊢;rw[e];exact hn⟩
   |_=>
    have h1:=Sty.get h.1
    show T2.get x=_
    rw[e,h1]
    simp only[uV,uR,iR,bR,lR,stR,Rf.eval];rw[show T2 x=T x from e]
  ·exact DX hfv h.2
theorem Ki (bes:List En):Hl (((bes.map En.ex).reverse).reverse)=bes.map En.be:=by
 rw[List.reverse_reverse];unfold Hl;rw[List.map_map];rfl
theorem St (bos:List ObE):Km (bos.map ObE.ob)=bos.map ObE.be:=by
 unfold Km;rw[List.map_map];rfl
def J2 (D:Ae)(args:List Rf):Nat→Nat→List BE
 |_,0=>[]
 |j,k+1=>(D.nh+j,D.res j,args)::J2 D args (j+1) k
theorem KV {D:Ae}{args:List Rf}:∀{k j0:Nat},Ag T (J2 D args j0 k)→∀j,j < k→T (D.nh+(j0+j))=D.res (j0+j) (args.map (Rf.eval T))
 |0,_,_,j,hj=>by omega
 |k+1,j0,h,j,hj=>by
  cases j with
  |zero=>exact h.1
  |succ j=>
   have:=KV h.2 j (by omega)
   rw[show j0+1+j=j0+(j+1) by omega] at this
   exact this
theorem Bl {env:Bs}{nh k pcn top:Nat}{bes:List En}{bos:List ObE}{nxt inits:List Rf}{fv:List Nat}{tys:List Ty}(hsc:(mkD nh k bes pcn nxt bos fv).inScope top=true)(hn:inits.length=k)(hn2:nxt.length=k)(hn3:tys.length=k)(hnr:tys.all noR=true)
  (hS:AL T env) (hini:Ha env tys inits=true) (hchk:ad (hds nh tys++GQ fv env) bes tys nxt=true)
  (hB:Ag T (bes.map En.be)) (hH:Ag T (J2 (mkD nh k bes pcn nxt bos fv) (fv.map Rf.e++inits) 0 k))
  (Inv:List U→Prop) (μ:List U→Nat) (h0:Inv (List.zipWith (uR T) tys inits))
  (hstep:∀T2:Tab,(∀x∈fv,T2.get x=T.get x)→AJ T2 bes→Inv (hdU T2 nh tys)→
   Nj T2 bos∧(B T2 pcn=true→Inv (List.zipWith (uR T2) tys nxt)∧μ (List.zipWith (uR T2) tys nxt) < μ (hdU T2 nh tys))):
  (mkD nh k bes pcn nxt bos fv).owes ((fv.map Rf.e++inits).map (Rf.eval T))∧AL T (hds nh tys)∧Inv (hdU T nh tys)∧¬B T pcn=true:=by
 have hI:inits.map (Rf.eval T)=List.zipWith (uR T) tys inits:=E9 hS hini
 have hA:(fv.map Rf.e++inits).map (Rf.eval T)=fv.map T.get++List.zipWith (uR T) tys inits:=by
  rw[List.map_append,hI,List.map_map];rfl
 have hH':=fun j (hj:j < k)=>KV hH j hj
 simp only[Nat.zero_add] at hH'
 rw[hA] at hH'
 rw[hA]
 have key:=O9 (D:=mkD nh k bes pcn nxt bos fv) (T:=T) (top:=top) (inits:=List.zipWith (uR T) tys inits) hsc (by simp[hn,hn3];rfl) hn2 (fun j hj=>hH' j hj)
  (fun p hp=>N6 (l:=((mkD nh k bes pcn nxt bos fv).eqs).reverse) (by rw[show (mkD nh k bes pcn nxt bos fv).eqs=(bes.map En.ex).reverse from rfl,Ki];exact hB) p (List.mem_reverse.2 hp))
  (fun s=>TyU tys s∧Inv s) μ ⟨KQ hnr (by omega),h0⟩ (fun T2 s hs hfv hhd hb hi=>by
   obtain⟨i1,i2⟩:=hi
   obtain⟨s1,s2⟩:=Lp i1 hhd
   rw[show (mkD nh k bes pcn nxt bos fv).eqs=(bes.map En.ex).reverse from rfl,Ki] at hb
   obtain⟨f1,f2⟩:=Ar (s1.append (DX hfv hS)) hchk hb
   obtain⟨g1,g2⟩:=hstep T2 hfv f1 (by rw[show hdU T2 nh tys=s from s2];exact i2)
   refine⟨by rw[show (mkD nh k bes pcn nxt bos fv).obs=bos.map ObE.ob from rfl,St];exact Js g1,fun hp=>?_⟩
   obtain⟨g3,g4⟩:=g2 (TQ (pc:=some pcn) hp)
   show (TyU tys (nxt.map (Rf.eval T2))∧Inv (nxt.map (Rf.eval T2)))∧μ (nxt.map (Rf.eval T2)) < μ s
   rw[f2]
   rw[show hdU T2 nh tys=s from s2] at g4
   exact⟨⟨KQ hnr (by omega),g3⟩,g4⟩)
 obtain⟨q1,⟨t,⟨q2,q3⟩,q4,q5⟩,q6⟩:=key
 obtain⟨s1,s2⟩:=Lp q2 q5
 exact⟨q1,s1,by rw[show hdU T nh tys=t from s2];exact q3,fun h=>q6 (Su (pc:=some pcn) h)⟩
end
open Go
theorem N2 {T:Tab}{env:Bs}{nh k pcn top:Nat}{bes:List En}{bos:List ObE}{nxt inits:List Rf}{fv:List Nat}{tys:List Ty}(hsc:(mkD nh k bes pcn nxt bos fv).inScope top=true)(hn:inits.length=k)(hn2:nxt.length=k)(hn3:tys.length=k)(hnr:tys.all noR=true)
  (hS:AL T env) (hini:Ha env tys inits=true)
  (hB:Ag T (bes.map En.be)) (hH:Ag T (J2 (mkD nh k bes pcn nxt bos fv) (fv.map Rf.e++inits) 0 k))
  (Inv:List U→Prop) (μ:List U→Nat) (h0:Inv (List.zipWith (uR T) tys inits))
  (hstep:∀T2:Tab,(∀x∈fv,T2.get x=T.get x)→AL T2 (hds nh tys++GQ fv env)→Ag T2 (bes.map En.be)→Inv (hdU T2 nh tys)→
   nxt.map (Rf.eval T2)=List.zipWith (uR T2) tys nxt∧Nj T2 bos∧(B T2 pcn=true→Inv (List.zipWith (uR T2) tys nxt)∧μ (List.zipWith (uR T2) tys nxt) < μ (hdU T2 nh tys))):
  (mkD nh k bes pcn nxt bos fv).owes ((fv.map Rf.e++inits).map (Rf.eval T))∧AL T (hds nh tys)∧Inv (hdU T nh tys)∧¬B T pcn=true:=by
 have hI:inits.map (Rf.eval T)=List.zipWith (uR T) tys inits:=E9 hS hini
 have hA:(fv.map Rf.e++inits).map (Rf.eval T)=fv.map T.get++List.zipWith (uR T) tys inits:=by
  rw[List.map_append,hI,List.map_map];rfl
 have hH':=fun j (hj:j < k)=>KV hH j hj
 simp only[Nat.zero_add] at hH'
 rw[hA] at hH'
 rw[hA]
 have key:=O9 (D:=mkD nh k bes pcn nxt bos fv) (T:=T) (top:=top) (inits:=List.zipWith (uR T) tys inits) hsc (by simp[hn,hn3];rfl) hn2 (fun j hj=>hH' j hj)
  (fun p hp=>N6 (l:=((mkD nh k bes pcn nxt bos fv).eqs).reverse) (by rw[show (mkD nh k bes pcn nxt bos fv).eqs=(bes.map En.ex).reverse from rfl,Ki];exact hB) p (List.mem_reverse.2 hp))
  (fun s=>TyU tys s∧Inv s) μ ⟨KQ hnr (by omega),h0⟩ (fun T2 s hs hfv hhd hb hi=>by
   obtain⟨i1,i2⟩:=hi
   obtain⟨s1,s2⟩:=Lp i1 hhd
   rw[show (mkD nh k bes pcn nxt bos fv).eqs=(bes.map En.ex).reverse from rfl,Ki] at hb
   obtain⟨f2,g1,g2⟩:=hstep T2 hfv (s1.append (DX hfv hS)) hb (by rw[show hdU T2 nh tys=s from s2];exact i2)
   refine⟨by rw[show (mkD nh k bes pcn nxt bos fv).obs=bos.map ObE.ob from rfl,St];exact Js g1,fun hp=>?_⟩
   obtain⟨g3,g4⟩:=g2 (TQ (pc:=some pcn) hp)
   show (TyU tys (nxt.map (Rf.eval T2))∧Inv (nxt.map (Rf.eval T2)))∧μ (nxt.map (Rf.eval T2)) < μ s
   rw[f2]
   rw[show hdU T2 nh tys=s from s2] at g4
   exact⟨⟨KQ hnr (by omega),g3⟩,g4⟩)
 obtain⟨q1,⟨t,⟨q2,q3⟩,q4,q5⟩,q6⟩:=key
 obtain⟨s1,s2⟩:=Lp q2 q5
 exact⟨q1,s1,by rw[show hdU T nh tys=t from s2];exact q3,fun h=>q6 (Su (pc:=some pcn) h)⟩
def TZ (D:Ae)(rs:List Rf):Nat→Nat→List Ty→List En
 |_,_,[]=>[]
 |j,x,t::ts=>⟨x,.res t D j,rs⟩::TZ D rs (j+1) (x+1) ts
def BJ (D:Ae)(tys:List Ty)(rs:List Rf):List En:=TZ D rs 0 D.nh tys
theorem RC {T:Tab}{D:Ae}{rs:List Rf}:∀{tys:List Ty} {j:Nat},Ag T ((TZ D rs j (D.nh+j) tys).map En.be)→Ag T (J2 D rs j tys.length)
 |[],_,_=>trivial
 |_::_,_,h=>⟨h.1,RC h.2⟩
theorem BK {T:Tab}{D:Ae}{rs:List Rf}{tys:List Ty}(h:Ag T ((BJ D tys rs).map En.be)):Ag T (J2 D rs 0 tys.length):=RC (j:=0) h
theorem fvI {T T2:Tab}{x:Nat}(h:T2.get x=T.get x):I T2 x=I T x:=by unfold I;rw[h]
theorem fvB {T T2:Tab}{x:Nat}(h:T2.get x=T.get x):B T2 x=B T x:=by unfold B;rw[h]
theorem fvL {T T2:Tab}{x:Nat}(h:T2.get x=T.get x):L T2 x=L T x:=by unfold L;rw[h]
theorem fvS {T T2:Tab}{x:Nat}(h:T2.get x=T.get x):S T2 x=S T x:=by unfold S;rw[h]
abbrev k64:Kd:= .int .i64 IntKind.i64.min IntKind.i64.max
abbrev CR (x:Nat):AC:= .i .i64 IntKind.i64.min IntKind.i64.max x
end Go.Eng
end
noncomputable section
namespace Go.Eng
open Go Go.RowKit
mutual
theorem KdU.up {B:Nat}(hB:B≤A9):∀{k:Kd} {u:U},KdU B k u→KdU A9 k u
 | .int _ _ _,_,h=>h
 | .bool,_,h=>h
 | .str,_,⟨s,e,h⟩=>⟨s,e,Nat.le_trans h hB⟩
 | .val,_,_=>trivial
 | .any,_,_=>trivial
 | .list _,_,⟨l,e,h1,h2⟩=>⟨l,e,Nat.le_trans h1 hB,fun i us hi=>CL.up hB (h2 i us hi)⟩
theorem CL.up {B:Nat}(hB:B≤A9):∀{ks:List Kd} {us:List U},CL B ks us→CL A9 ks us
 |[],_,h=>h
 |_::_,_,⟨u,us',e,h1,h2⟩=>⟨u,us',e,KdU.up hB h1,CL.up hB h2⟩
end
def TW (B:Nat)(T:Tab):Nat→List Kd→Prop
 |_,[]=>True
 |x,.list _::ks=>(L T x).length≤B∧TW B T (x+1) ks
 |x,_::ks=>TW B T (x+1) ks
theorem Ve {B:Nat}{T:Tab}:∀{ks:List Kd} {us:List U} {x:Nat},CL B ks us→(∀j u,us[j]? =some u→T (x+j)=u)→TW B T x ks
 |[],us,x,_,_=>trivial
 |k::ks,us,x,⟨u,us',e,h1,h2⟩,hT=>by
  subst e
  have ih:=Ve (x:=x+1) h2 fun j v hj=>by
   have:=hT (j+1) v (by simpa using hj)
   rw[show x+(j+1)=x+1+j by omega] at this
   exact this
  have h0:T.get x=u:=hT 0 u rfl
  cases k with
  |list es=>
   obtain⟨n,e1,e2,_⟩:=h1
   rw[e1] at h0
   exact⟨by rw[vL h0];exact e2,ih⟩
  |_=>exact ih
def WP (n:Nat)(r:Option (AC × Mem × G)):Option (Nat × List BE × List BO):=
 match r with
 |some (.b x,_,g)=>if OW n g then some (x,Hl g.eqs.reverse,Km g.obs) else none
 |_=>none
def YW (P:Program)(l:List (FuncId × Ak))(Ah:FuncId→Gf)(fuel depth:Nat)(f:FuncId)(as:List AC)(n:Nat):Option (AC × Mem × G):=
 HB P (Ko l) Ah fuel depth (fun _=>none) f as none [] { n,eqs:=[],obs:=[] }
theorem ZV {P:Program}{w:World}{B:Nat}{H:Type}{enc:TypeId × Value→H}{sp:Nat→Bool}{held:Bool}{base:Nat}(hB:B≤A9)(hm:P.follows .mixedOrders=true){l:List (FuncId × Ak)}(hl:∀p∈l,Aq P p.1 p.2){Ah:FuncId→Gf}{fuel depth dd:Nat}{f:FuncId}{ts:List TypeId}{as:List AC}{ks:List Kd}{x:Nat}{es:List En}{os:List ObE}
  (hargs:HI P dd ts 0=some (as,ks)) (hrun:WP ks.length (YW P l Ah fuel depth f as ks.length)=some (x,es.map En.be,os.map ObE.be))
  (hplain:∀T:Tab,AL T (BT 0 ks)→Bnd T 0 ks→TW B T 0 ks→Ag T (es.map En.be)→Nj T os∧Go.Eng.B T x=true)
  {vs:List Value} {ds:List (DataW H)} {ps:List MemPlace} (ht:DataW.TrodAll enc P w 0 sp held ts vs ds ps) (hv:∀(j:Nat) t v,ts[j]? =some t→vs[j]? =some v→Value.okWide P w .any base t v) (hs:∀d∈ds,Cs B d):
  Calls P f (vs:List Value).toArray w fun e W'=>e= .returned (.bool true)∧Below w.heap.size w W':=by
 unfold WP at hrun
 split at hrun
 ·rename_i x0 m' g' hr
  split at hrun
  ·rename_i hchk
   injection hrun with hrun
   injection hrun with e0 hrun
   injection hrun with e1 e2
   refine eL hB hm hl hargs hr hchk (fun T us hk hlen hT heqs=>?_) ht hv hs
   have hb:Ag T (Hl g'.eqs.reverse):=Mn fun p hp=>heqs p (List.mem_reverse.1 hp)
   rw[e1] at hb
   have hT0:∀j u,us[j]? =some u→T (0+j)=u:=fun j u hj=>by rw[Nat.zero_add];exact hT j u hj
   obtain⟨i1,i2⟩:=SR (x:=0) (CL.up hB hk) hT0
   obtain⟨h1,h2⟩:=hplain T i1 i2 (Ve hk hT0) hb
   have h3:=Js h1
   rw[←e2] at h3
   refine⟨Mt h3,?_⟩
   rw[e0]
   exact Su (pc:=some x) h2
  ·cases hrun
 ·cases hrun
end Go.Eng
end
noncomputable section
namespace Go.Eng
open Go
inductive SE where
 |k (t:Ty) (r:Rf)
 |q (op:Opn) (rs:List Rf)
open Go
end Go.Eng
end
noncomputable section
namespace Go.Eng
open Go
theorem AJ.cut {T:Tab}{a b:List En}(h:AJ T (a++b)):AJ T a∧AJ T b:=⟨h.left,h.right⟩
theorem zN:(∀(T:Tab) (x:Nat),bR T (.n x)= !B T x)∧(∀b:Bool,((!b)=true)=(b=false))∧(∀b:Bool,(¬b=true)=(b=false)):=
 ⟨fun T x=>bR_n,fun b=>Bool.not_eq_true' b,fun b=>Bool.not_eq_true b⟩
theorem zC:(∀(T:Tab) (b:Bool),bR T (.c (.bool b))=b)∧((false=true)=False)∧(∀{α:Sort 1} (a:α),(a=a)=True)∧(∀p:Prop,(p∧True)=p)∧(∀p:Prop,(p∧False)=False)∧(∀p:Prop,(p∨False)=p)∧(∀p:Prop,(False∨p)=p)∧(∀p:Prop,(True∧p)=p)∧(∀p:Prop,(False∧p)=False):=
 ⟨fun T b=>bR_c,Bool.false_eq_true,fun a=>eq_self a,and_true,and_false,or_false,false_or,true_and,false_and⟩
theorem zB:(∀a b:Bool,((a&&b)=true)=(a=true∧b=true))∧(∀a b:Bool,((a||b)=true)=(a=true∨b=true))∧(∀b:Bool,(¬b=true)=(b=false))∧(∀b:Bool,((!b)=true)=(b=false))∧(∀a b:Bool,((!a)=b)=(a= !b))∧((!true)=false)∧((!false)=true)∧(∀(p:Prop) [Decidable p],(decide p=true)=p)∧(∀(p:Prop) [Decidable p],(decide p=false)=¬p):=
 ⟨fun a b=>Bool.and_eq_true a b,fun a b=>Bool.or_eq_true a b,fun b=>Bool.not_eq_true b,fun b=>Bool.not_eq_true' b,fun a b=>propext Bool.not_eq_eq_eq_not,Bool.not_true,Bool.not_false,fun p=>decide_eq_true_eq,fun p=>propext decide_eq_false_iff_not⟩
open Go
open Go
theorem zR:(∀(T:Tab) (x:Nat),iR T (.e x)=I T x)∧(∀(T:Tab) (n:Int),iR T (.c (.int n))=n):=
 ⟨fun T x=>iR_e,fun T n=>iR_c⟩
theorem zL:(∀(T:Tab) (x:Nat),lR T (.e x)=L T x)∧(∀T:Tab,lR T (.c (.list []))=[]):=
 ⟨fun T x=>lR_e,fun T=>lR_c⟩
theorem zS:(∀(T:Tab) (x:Nat),stR T (.e x)=S T x)∧(∀(T:Tab) (s:ByteArray),stR T (.c (.str s))=s):=
 ⟨fun T x=>eg,fun T s=>eo⟩
theorem zW:(∀(f:Ty→Rf→U) (a:Ty) (b:Rf) (l:List Ty) (r:List Rf),List.zipWith f (a::l) (b::r)=f a b::List.zipWith f l r)∧(∀(f:Ty→Rf→U) (r:List Rf),List.zipWith f [] r=[])∧(∀(a:U) (l:List U) (n:Nat),List.take (n+1) (a::l)=a::List.take n l)∧(∀l:List U,List.take 0 l=[])∧(∀(a:U) (l:List U) (n:Nat),List.drop (n+1) (a::l)=List.drop n l)∧(∀l:List U,List.drop 0 l=l):=
 ⟨fun _ _ _ _ _=>rfl,fun _ _=>rfl,fun _ _ _=>rfl,fun _=>rfl,fun _ _ _=>rfl,fun _=>rfl⟩
end Go.Eng
end
noncomputable section
namespace Go.Eng
structure Ln where
 name:ByteArray
 wide:Int
 long:Int
 yard:Int
 hoops:List (List U)
 px:Int
 py:Int
 pr:Int
 nx:Int
 ny:Int
 cells:List (List U)
def gAt (k:Nat)(us:List U):Ln:=⟨aS us k,aI us (k+1),aI us (k+2),aI us (k+3),aL us (k+4),aI us (k+5),aI us (k+6),aI us (k+7),aI us (k+8),aI us (k+9),aL us (k+10)⟩
theorem DU {T:Tab}{us:List U}{k n:Nat}(h:∀j u,us[j]? =some u→T j=u)(hl:us.length=n)(hk:k+11≤n):
  gAt k us=Ln.mk (S T k) (I T (k+1)) (I T (k+2)) (I T (k+3)) (L T (k+4)) (I T (k+5)) (I T (k+6)) (I T (k+7)) (I T (k+8)) (I T (k+9)) (L T (k+10)):=by
 unfold gAt
 rw[inS h hl (by omega),inI h hl (by omega),inI h hl (by omega),inI h hl (by omega),inL h hl (by omega),inI h hl (by omega),inI h hl (by omega),inI h hl (by omega),inI h hl (by omega),inI h hl (by omega),inL h hl (by omega)]
def Cq (x lo hi:Int):Bool:=decide (lo≤x)&&decide (x≤hi)
theorem Bm {x lo hi:Int}:Cq x lo hi=true↔(lo≤x∧x≤hi):=by simp[Cq]
def Gc (b:UInt8):Bool:=(decide (97≤b.toNat)&&decide (b.toNat≤122))||(decide (48≤b.toNat)&&decide (b.toNat≤57))
def A8 (s:ByteArray):Bool:=decide (1≤s.size)&&decide (s.size≤20)&&s.data.toList.all Gc
def uI (u:List U)(c:Nat):Int:=(u.getD c default).toI
def uB (u:List U)(c:Nat):Bool:=(u.getD c default).toB
def BB (x y gap wire:Int):Bool:=Cq x 0 4194304&&Cq y 0 4194304&&Cq gap 2 32768&&decide (gap % 2=0)&&Cq wire 1 8192
def Ww (u:List U):Bool:=BB (uI u 0) (uI u 1) (uI u 2) (uI u 3)
def BM (d x y:Int):Bool:=Cq d 0 65536&&Cq x (-4096) 4096&&Cq y (-4096) 4096
def GH (u:List U):Bool:=BM (uI u 0) (uI u 1) (uI u 2)
def ML (x y r:Int):List U:=[.int x,.int y,.int r]
def Ku (x y gap wire:Int)(along:Bool):List (List U):=
 if along=true then [ML x (y - (gap / 2+wire)) wire,ML x (y+(gap / 2+wire)) wire] else [ML (x - (gap / 2+wire)) y wire,ML (x+(gap / 2+wire)) y wire]
def Ce (u:List U):List (List U):=Ku (uI u 0) (uI u 1) (uI u 2) (uI u 3) (uB u 4)
def CM (h:List (List U))(px py pr:Int):List (List U):=h.flatMap Ce++[ML px py pr]
def BC (l:Ln):List (List U):=CM l.hoops l.px l.py l.pr
def sq (ax ay bx by_:Int):Int:=(ax - bx)*(ax - bx)+(ay - by_)*(ay - by_)
def SF (wide long:Int)(u:List U):Bool:=Cq (uI u 0) (uI u 2) (wide - uI u 2)&&Cq (uI u 1) (uI u 2) (long - uI u 2)
def W5 (u v:List U):Bool:=decide (sq (uI u 0) (uI u 1) (uI v 0) (uI v 1) < (uI u 2+uI v 2)*(uI u 2+uI v 2))
def Ps (p:List (List U))(u:List U)(k:Nat):Bool:=(p.take k).all fun v=> !W5 u v
def Do (wide long:Int)(p:List (List U)):Bool:=(List.range p.length).all fun i=>SF wide long (p.getD i [])&&Ps p (p.getD i []) i
def Ir (l:Ln):Bool:=decide (l.hoops.length < 1)||decide (12 < l.hoops.length)||decide (256 < l.cells.length)
def TR (l:Ln):Bool:=
 A8 l.name&&Cq l.wide 65536 4194304&&Cq l.long 65536 4194304&&Cq l.yard 0 ((if l.wide≤l.long then l.wide else l.long) / 4)&&Cq l.pr 1 8192&&Cq l.nx 1 16&&Cq l.ny 1 16&&decide ((l.cells.length:Int)=l.nx*l.ny)
def K9 (l:Ln):Bool:=TR l&&l.hoops.all Ww&&l.cells.all GH&&Do l.wide l.long (BC l)
def AT (l:Ln):Int:=if Ir l=true then 6 else if K9 l=true then 0 else 2
def AH (x y:Int):Bool:=Cq x (-4194304) 4194304&&Cq y (-4194304) 4194304
def A6 (l:Ln)(x y:Int):Int:=if¬AT l=0 then AT l else if AH x y=true then 0 else 2
def Bx (r:Int):Bool:=Cq r 1 16384
def Ax (u:List U):Bool:=AH (uI u 0) (uI u 1)&&Bx (uI u 2)
def AQ (r:Int)(others:List (List U)):Int:=if¬Bx r=true then 3 else if 12 < others.length then 6 else if others.all Ax=true then 0 else 2
def Kp (ax ay bx by_ cx cy s:Int):Bool:=
 let dot:=(bx - ax)*(cx - ax)+(by_ - ay)*(cy - ay)
 let long:=(bx - ax)*(bx - ax)+(by_ - ay)*(by_ - ay)
 let cross:=(bx - ax)*(cy - ay) - (by_ - ay)*(cx - ax)
 if dot≤0 then decide (sq ax ay cx cy < s*s) else if long≤dot then decide (sq bx by_ cx cy < s*s) else decide (cross*cross < long*(s*s))
def FQ (ax ay bx by_ r:Int)(d:List (List U))(n:Nat):List (List U):=
 (List.range n).filterMap fun i=>if Kp ax ay bx by_ (uI (d.getD i []) 0) (uI (d.getD i []) 1) (r+uI (d.getD i []) 2)=true then some [U.int i] else none
def Kb (l:Ln)(ax ay bx by_ r:Int)(others:List (List U)):Int:=
 if¬A6 l ax ay=0 then A6 l ax ay else if¬AH bx by_=true then 2 else AQ r others
def Nz (l:Ln)(ax ay bx by_ r:Int)(others:List (List U)):List (List U):=
 if Kb l ax ay bx by_ r others=0 then FQ ax ay bx by_ r (BC l++others) (BC l++others).length else []
theorem Yx (a b:Int):a*b=(a / 4294967296)*(b / 4294967296)*18446744073709551616+((a % 4294967296)*(b / 4294967296)+(a / 4294967296)*(b % 4294967296))*4294967296+(a % 4294967296)*(b % 4294967296):=by
 have h1:a=a / 4294967296*4294967296+a % 4294967296:=by omega
 have h2:b=b / 4294967296*4294967296+b % 4294967296:=by omega
 generalize a / 4294967296=x at*
 generalize a % 4294967296=y at*
 generalize b / 4294967296=u at*
 generalize b % 4294967296=v at*
 subst h1 h2
 grind
theorem Mi {a b:Int}(h1:0≤a)(h2:a≤4294967295)(h3:0≤b)(h4:b≤4294967295):0≤a*b∧a*b≤18446744065119617025:=
 ⟨Int.mul_nonneg h1 h3,Int.mul_le_mul h2 h4 h3 (by omega)⟩
theorem Zw {a b:Int}(h1:0≤a)(h2:a≤18446744073709551615)(h3:0≤b)(h4:b≤18446744073709551615):
  (0≤(a % 4294967296)*(b % 4294967296)∧(a % 4294967296)*(b % 4294967296)≤18446744065119617025)∧
  (0≤(a % 4294967296)*(b / 4294967296)∧(a % 4294967296)*(b / 4294967296)≤18446744065119617025)∧
  (0≤(a / 4294967296)*(b % 4294967296)∧(a / 4294967296)*(b % 4294967296)≤18446744065119617025)∧
  (0≤(a / 4294967296)*(b / 4294967296)∧(a / 4294967296)*(b / 4294967296)≤18446744065119617025):=
 ⟨Mi (by omega) (by omega) (by omega) (by omega),Mi (by omega) (by omega) (by omega) (by omega),Mi (by omega) (by omega) (by omega) (by omega),Mi (by omega) (by omega) (by omega) (by omega)⟩
theorem bT (n:Int):IntKind.u64.wrap n=n % 18446744073709551616:=by simp[IntKind.wrap,IntKind.signed,IntKind.bits]
theorem Ck {p:List U→Bool}:∀{l:List (List U)},l.all p=true↔∀j:Nat,j < l.length→p (l.getD j [])=true:=by
 intro l
 rw[List.all_eq_true]
 constructor
 ·intro h j hj
  rw[List.getD_eq_getElem?_getD,List.getElem?_eq_getElem hj]
  exact h _ (List.getElem_mem hj)
 ·intro h x hx
  obtain⟨j,hj,rfl⟩:=List.getElem_of_mem hx
  have:=h j hj
  rwa [List.getD_eq_getElem?_getD,List.getElem?_eq_getElem hj] at this
theorem MU {p:List U→Bool}{l:List (List U)}{j:Nat}(hj:j < l.length)(h:¬p (l.getD j [])=true):¬l.all p=true:=fun q=>h (Ck.1 q j hj)
def Bz (l:List (List U)):Bool:=l.all fun u=>AH (uI u 0) (uI u 1)
theorem R6 {l:List (List U)}:Bz l=true↔∀j:Nat,j < l.length→AH (AA l j 0) (AA l j 1)=true:=Ck
theorem Av {x y:Int}:AH x y=true↔((-4194304≤x∧x≤4194304)∧(-4194304≤y∧y≤4194304)):=by simp only[AH,Bm,Bool.and_eq_true]
theorem RW (x y:Int):Bz [[.int x,.int y]]=AH x y:=by simp[Bz,uI,U.toI]
theorem L9 {a b A B:Int}(ha: -A≤a∧a≤A)(hb: -B≤b∧b≤B): -(A*B)≤a*b∧a*b≤A*B:=by
 obtain⟨a1,a2⟩:=ha
 obtain⟨b1,b2⟩:=hb
 have hA:0≤A:=by omega
 have hB:0≤B:=by omega
 have key:∀x y:Int,x≤A→ -A≤x→0≤y→y≤B→x*y≤A*B∧ -(A*B)≤x*y:=by
  intro x y h1 h2 h3 h4
  have p1:=Int.mul_le_mul_of_nonneg_right h1 h3
  have p2:=Int.mul_le_mul_of_nonneg_left h4 hA
  have p3:=Int.mul_le_mul_of_nonneg_right h2 h3
  rw[Int.neg_mul] at p3
  omega
 rcases Int.le_total 0 b with h|h
 ·have:=key a b a2 a1 h b2
  omega
 ·have:=key a (-b) a2 a1 (by omega) (by omega)
  rw[Int.mul_neg] at this
  omega
theorem sqB {a A:Int}(ha: -A≤a∧a≤A):0≤a*a∧a*a≤A*A:=by
 refine⟨?_,(L9 ha ha).2⟩
 rcases Int.le_total 0 a with h|h
 ·exact Int.mul_nonneg h h
 ·have:=Int.mul_nonneg (a:= -a) (b:= -a) (by omega) (by omega)
  rwa [Int.neg_mul_neg] at this
theorem dc {ax ay bx by_ cx cy s dot long cross qa qb ss:Int}(h1:dot=(bx - ax)*(cx - ax)+(by_ - ay)*(cy - ay))(h2:long=(bx - ax)*(bx - ax)+(by_ - ay)*(by_ - ay))
  (h3:cross=(bx - ax)*(cy - ay) - (by_ - ay)*(cx - ax)) (h4:qa=(ax - cx)*(ax - cx)+(ay - cy)*(ay - cy)) (h5:qb=(bx - cx)*(bx - cx)+(by_ - cy)*(by_ - cy)) (h6:ss=s*s):
  Kp ax ay bx by_ cx cy s=if dot≤0 then decide (qa < ss) else if long≤dot then decide (qb < ss) else decide (cross*cross < long*ss):=by
 subst h1 h2 h3 h4 h5 h6
 rfl
theorem dw {m n:Int}(h:n=if m≤ -m then -m else m):n*n=m*m:=by
 subst h
 split
 ·exact Int.neg_mul_neg m m
 ·rfl
def orS:List (List U)→Int
 |[]=>0
 |u::r=>if uI u 0=0 then orS r else uI u 0
theorem dX {l:List (List U)}{i:Nat}(h:i < l.length):l.drop i=l.getD i []::l.drop (i+1):=by
 rw[List.drop_eq_getElem_cons h,List.getD_eq_getElem?_getD,List.getElem?_eq_getElem h]
 rfl
theorem S6 {l:List (List U)}{i:Nat}(h:i < l.length):orS (l.drop i)=if AA l i 0=0 then orS (l.drop (i+1)) else AA l i 0:=by
 rw[dX h]
 rfl
def EI (x y:Int):Int:=if x < y then -1 else if y < x then 1 else 0
def G5 (ax ay bx by_ cx cy s:Int):Int:=
 let dot:=(bx - ax)*(cx - ax)+(by_ - ay)*(cy - ay)
 let long:=(bx - ax)*(bx - ax)+(by_ - ay)*(by_ - ay)
 let cross:=(bx - ax)*(cy - ay) - (cx - ax)*(by_ - ay)
 let qa:=(cx - ax)*(cx - ax)+(cy - ay)*(cy - ay)
 let qb:=(cx - bx)*(cx - bx)+(cy - by_)*(cy - by_)
 if dot≤0∨long≤dot then EI (if qa≤qb then qa else qb) (s*s) else EI (cross*cross) (s*s*long)
theorem Vk {ax ay bx by_ cx cy s dot long cross qa qb ss:Int}(h1:dot=(bx - ax)*(cx - ax)+(by_ - ay)*(cy - ay))(h2:long=(bx - ax)*(bx - ax)+(by_ - ay)*(by_ - ay))
  (h3:cross=(bx - ax)*(cy - ay) - (cx - ax)*(by_ - ay)) (h4:qa=(cx - ax)*(cx - ax)+(cy - ay)*(cy - ay)) (h5:qb=(cx - bx)*(cx - bx)+(cy - by_)*(cy - by_)) (h6:ss=s*s):
  G5 ax ay bx by_ cx cy s=if dot≤0∨long≤dot then EI (if qa≤qb then qa else qb) ss else EI (cross*cross) (ss*long):=by
 subst h1 h2 h3 h4 h5 h6
 rfl
theorem or2 (a b:Int):orS [[.int a],[.int b]]=if a=0 then b else a:=by
 show (if a=0 then (if b=0 then 0 else b) else a)=_
 split
 ·split
  ·rename_i h;exact h.symm
  ·rfl
 ·rfl
theorem ap (x y:Int):(if x / 18446744073709551616=y / 18446744073709551616∧x % 18446744073709551616=y % 18446744073709551616 then 0 else if EI (x / 18446744073709551616) (y / 18446744073709551616)=0 then EI (x % 18446744073709551616) (y % 18446744073709551616) else EI (x / 18446744073709551616) (y / 18446744073709551616))=EI x y:=by
 unfold EI
 repeat' split
 all_goals first|rfl|omega
theorem Y3 (ax ay bx by_ cx cy s:Int):G5 ax ay bx by_ cx cy s < 0↔Kp ax ay bx by_ cx cy s=true:=by
 rw[Vk rfl rfl rfl rfl rfl rfl,dc rfl rfl rfl rfl rfl rfl]
 have hq:(cx - bx)*(cx - bx)+(cy - by_)*(cy - by_)=((cx - ax)*(cx - ax)+(cy - ay)*(cy - ay)) - 2*((bx - ax)*(cx - ax)+(by_ - ay)*(cy - ay))+((bx - ax)*(bx - ax)+(by_ - ay)*(by_ - ay)):=by grind
 have hl:0≤(bx - ax)*(bx - ax)+(by_ - ay)*(by_ - ay):=by
  have q1:∀z:Int,0≤z*z:=fun z=>by
   rcases Int.le_total 0 z with h|h
   ·exact Int.mul_nonneg h h
   ·have:=Int.mul_nonneg (a:= -z) (b:= -z) (by omega) (by omega)
    rwa [Int.neg_mul_neg] at this
  have:=q1 (bx - ax)
  have:=q1 (by_ - ay)
  omega
 have ha:(ax - cx)*(ax - cx)+(ay - cy)*(ay - cy)=(cx - ax)*(cx - ax)+(cy - ay)*(cy - ay):=by grind
 have hb:(bx - cx)*(bx - cx)+(by_ - cy)*(by_ - cy)=(cx - bx)*(cx - bx)+(cy - by_)*(cy - by_):=by grind
 have hc:(bx - ax)*(cy - ay) - (by_ - ay)*(cx - ax)=(bx - ax)*(cy - ay) - (cx - ax)*(by_ - ay):=by grind
 rw[ha,hb,hc,Int.mul_comm (s*s)]
 generalize (bx - ax)*(cx - ax)+(by_ - ay)*(cy - ay)=dot at*
 generalize (bx - ax)*(bx - ax)+(by_ - ay)*(by_ - ay)=long at*
 generalize (cx - ax)*(cx - ax)+(cy - ay)*(cy - ay)=qa at*
 generalize (cx - bx)*(cx - bx)+(cy - by_)*(cy - by_)=qb at*
 unfold EI
 repeat' split
 all_goals simp only[decide_eq_true_eq]
 all_goals omega
theorem bP (a b c d:Int):Bz [[.int a,.int b],[.int c,.int d]]=true↔(AH a b=true∧AH c d=true):=by simp[Bz,uI,U.toI]
theorem ef (a b c d e f:Int):Bz [[.int a,.int b],[.int c,.int d],[.int e,.int f]]=true↔(AH a b=true∧AH c d=true∧AH e f=true):=by simp[Bz,uI,U.toI]
def Cn (ax ay ar bx by_ br:Int):Int:=
 if AH ax ay=true∧AH bx by_=true∧1≤ar∧ar≤65536∧1≤br∧br≤65536 then EI ((bx - ax)*(bx - ax)+(by_ - ay)*(by_ - ay)) ((ar+br)*(ar+br)) else 0
theorem OQ {h:List (List U)}{i:Nat}(hi:i < h.length):(h.take (i+1)).flatMap Ce=(h.take i).flatMap Ce++Ce (h.getD i []):=by
 rw[List.take_add_one,List.getElem?_eq_getElem hi,List.flatMap_append,List.getD_eq_getElem?_getD,List.getElem?_eq_getElem hi]
 simp
theorem ZC (u:List U):(Ce u).length=2:=by
 unfold Ce Ku
 split<;>rfl
theorem EU (h:List (List U)):(h.flatMap Ce).length=2*h.length:=by
 induction h with
 |nil=>rfl
 |cons u h ih=>rw[List.flatMap_cons,List.length_append,ZC,ih,List.length_cons];omega
def BV (h:List (List U)):Bool:=h.all Ww
theorem G9 {h:List (List U)}:BV h=true↔∀j:Nat,j < h.length→BB (AA h j 0) (AA h j 1) (AA h j 2) (AA h j 3)=true:=Ck
theorem LH {x y gap wire:Int}:BB x y gap wire=true↔((0≤x∧x≤4194304)∧(0≤y∧y≤4194304)∧(2≤gap∧gap≤32768)∧gap % 2=0∧(1≤wire∧wire≤8192)):=by
 simp only[BB,Bm,Bool.and_eq_true,decide_eq_true_eq,and_assoc]
def Bp (l:List (List U)):List (List U):=l.flatMap fun u=>(u.getD 0 default).toL
theorem NM {l:List (List U)}{i:Nat}(hi:i < l.length):Bp (l.take (i+1))=Bp (l.take i)++FE l i 0:=by
 unfold Bp FE
 have e:l.getD i []=l[i]:=by rw[List.getD_eq_getElem?_getD,List.getElem?_eq_getElem hi];rfl
 rw[List.take_add_one,List.getElem?_eq_getElem hi,List.flatMap_append,e]
 simp
theorem OC {l:List (List U)}(h:∀j:Nat,(FE l j 0).length≤1000):∀i:Nat,i≤l.length→(Bp (l.take i)).length≤1000*i
 |0,_=>by simp[Bp]
 |i+1,hi=>by
  rw[NM (by omega),List.length_append]
  have:=OC h i (by omega)
  have:=h i
  omega
theorem cO (a b:List (List U)):Bp [[.list a],[.list b]]=a++b:=by simp[Bp,U.toL]
theorem CN {r:Int}:Bx r=true↔(1≤r∧r≤16384):=by simp only[Bx,Bm]
theorem C4 {l:List (List U)}{j:Nat}:Ax (l.getD j [])=true↔(AH (AA l j 0) (AA l j 1)=true∧1≤AA l j 2∧AA l j 2≤16384):=by
 show (AH (AA l j 0) (AA l j 1)&&Bx (AA l j 2))=true↔_
 rw[Bool.and_eq_true,CN]
end Go.Eng
end
noncomputable section
namespace Go.Eng
open Go Go.RowKit
theorem AI.below {T:Tab}{n:Nat}{ρ :Nat→Option Nat}{w w':World}(h:Below w.heap.size w w'):AI T n ρ [] w ρ [] w' where
 os:=h.os
 tape:=h.tape
 output:=h.output
 size:=h.size
 mlen:=fun _ h=>h
 rho:=fun id h=>by simp[Mem.at,Blk.ptrOk] at h
 untr:=fun _ _ h=>h
 fresh:=fun id b _ h _=>by simp[Mem.at,Blk.tracked] at h
 old:=fun k hk _=>h.block k hk
 tok:=fun id x ks e h=>by simp[Mem.at] at h
theorem AG.below {T:Tab}{n n':Nat}{ρ ρ':Nat→Option Nat}{w w':World}(hm:AG T n ρ [] w)(h:Below w.heap.size w w'):AG T n' ρ' [] w' where
 blk:=fun id=>by simp[Mem.at,BN]
 inj:=fun id id' b h=>by simp[Mem.at,Blk.tracked] at h
 fr:=fun b off hb=>hm.fr b off (Nat.le_trans h.size hb)
theorem XB {P:Program}{f:FuncId}{t:Ak}(hb:t.blks=[])(hm':t.m'=[])(hlook:∃fn,P.funcs[f]? =some fn∧fn.body.isSome=true∧(fn.name== "runtime.NumGoroutine")=false)
  (h:∀(T:Tab) (us:List U),us.length=t.n→(∀j u,(t.us us)[j]? =some u→T j=u)→(∀p∈t.pre,p.2 us)→∀ ρ w vs,AD T t.n ρ [] w t.args vs→
   Calls P f (vs:List Value).toArray w fun e w'=>∃v,e= .returned v∧Below w.heap.size w w'∧AB T (t.n+t.outs.length) ρ [] w' t.c v):Aq P f t:=by
 refine⟨fun _=>⟨⟨0,[],.nil⟩, #[],.skip,.skip,[]⟩,fun T us _ hl hT hp ρ w vs hv hm=>⟨hlook,?_⟩⟩
 have em:t.m=[]:=by unfold Ak.m;rw[hb];rfl
 rw[em] at hv hm⊢
 rw[hm']
 exact (h T us hl hT hp ρ w vs hv).mono fun e w' ⟨v,e1,e2,e3⟩=>⟨v, ρ,e1,AI.below e2,hm.below e2,e3⟩
end Go.Eng
end
