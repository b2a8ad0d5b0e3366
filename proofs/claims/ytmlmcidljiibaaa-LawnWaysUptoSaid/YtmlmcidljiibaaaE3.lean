/-
  A part of the proof: the evaluator of code and its soundness.
-/
import Derived.Test.YtmlmcidljiibaaaE2
import Derived.Scope
import Derived.Deep.Slices
import Derived.OpenShut
import Derived.Below
import Derived.Carry
import Derived.ChangeSame
set_option linter.unusedVariables false
set_option linter.unusedSimpArgs false
noncomputable section
namespace Go.Eng
open Go Go.RowKit
theorem Ft (o:Oper):(BM o).after=o.after:=by unfold BM;split<;>rfl
theorem HV (o:Oper):(BM o).dst=o.dst:=by unfold BM;split<;>rfl
theorem So (o:Oper):(BM o).guard=o.guard:=by unfold BM;split<;>rfl
theorem Kc {o:Oper}(h:A5 o=false):BM o=o:=by unfold BM;rw[h];rfl
theorem Dn {o:Oper}(h:A5 o=true):∃ty t x,o.op= .store ty (.tmp t) x∧((∃y,x= .tmp y)∨∃v,x= .const v)∧o.guard=none∧o.dst=none:=by
 unfold A5 at h
 split at h
 ·rename_i ty t y ho
  rw[Bool.and_eq_true,Option.isNone_iff_eq_none,Option.isNone_iff_eq_none] at h
  exact⟨ty,t,_,ho,.inl ⟨y,rfl⟩,h.1,h.2⟩
 ·rename_i ty t v ho
  rw[Bool.and_eq_true,Option.isNone_iff_eq_none,Option.isNone_iff_eq_none] at h
  exact⟨ty,t,_,ho,.inr ⟨v,rfl⟩,h.1,h.2⟩
 ·cases h
theorem PL:∀(l:List Oper) (acc:List Nat),AU (l.map BM) acc=AU l acc
 |[],_=>rfl
 |o::l,acc=>by simp only[List.map_cons,AU,Ft,PL l]
theorem X0:∀(l:List Oper) (k:Nat),Au k (l.map BM)=Au k l
 |[],_=>rfl
 |o::l,k=>by simp only[List.map_cons,Au,HV,X0 l]
theorem Zj:∀(l:List Oper) (k:Nat),AM k (l.map BM)=AM k l
 |[],_=>rfl
 |o::l,k=>by
  simp only[List.map_cons,AM,Zj l]
  cases hf:A5 o with
  |false=>rw[Kc hf]
  |true=>
   obtain⟨ty,t,x,ho,_,_,hd⟩:=Dn hf
   rw[HV,hd,ho]
   unfold BM
   rw[hf]
   simp
section
variable {qc md:Bool}{tg:List Tmp}{P:Program}{T:Tab}{call:A8}{ys:Ys}{r:Option Nat}{kk:Nat}{K:Nat}{ops ops0:Array Oper}{pc:PC}
variable {S:Nat→DS}{ρ0:Nat→Option Nat}{w0:World}{A:Nat→Nat}{q:Nat}{listed:Array Bool}{ρ ρ':Nat→Option Nat}{a:Act}{w w':World}
theorem Gs (h:ops0=(ops.toList.map BM).toArray)(j:Nat):ops0[j]? =(ops[j]?).map BM:=by
 subst h
 rw[←Array.getElem?_toList]
 simp
theorem Tm (h:ops0=(ops.toList.map BM).toArray)(tmps:Array Value)(j:Nat):yielded ops0 tmps j=yielded ops tmps j:=by
 unfold yielded
 rw[Gs h j]
 cases ops[j]? with
 |none=>rfl
 |some o=>simp only[Option.map_some,Option.bind_some,HV]
theorem Mz:∀{l:List Oper} {k:Nat} {t:Tmp} {i:Nat},BD (Au k l) t=some i→k≤i∧∃o,l[i - k]? =some o∧o.dst=some t
 |[],k,t,i,h=>by simp[Au,BD] at h
 |o::l,k,t,i,h=>by
  unfold Au at h
  cases hd:o.dst with
  |none=>
   rw[hd] at h
   obtain⟨h1,o2,h2,h3⟩:=Mz (l:=l) h
   exact⟨by omega,o2,by rw[show i - k=(i - (k+1))+1 by omega];simpa using h2,h3⟩
  |some d=>
   rw[hd] at h
   simp only[BD] at h
   cases hb:Nat.beq d t with
   |true=>
    rw[hb] at h
    simp only[cond_true,Option.some.injEq] at h
    subst h
    exact⟨Nat.le_refl _,o,by simp,by rw[hd,Nat.eq_of_beq_eq_true hb]⟩
   |false=>
    rw[hb] at h
    obtain⟨h1,o2,h2,h3⟩:=Mz (l:=l) h
    exact⟨by omega,o2,by rw[show i - k=(i - (k+1))+1 by omega];simpa using h2,h3⟩
theorem Hv:∀{l:List Oper} {k:Nat} {t:Tmp},BD (Au k l) t=none→∀(j:Nat) (o:Oper),l[j]? =some o→o.dst≠some t
 |[],k,t,h,j,o,hj=>by simp at hj
 |o0::l,k,t,h,j,o,hj=>by
  unfold Au at h
  cases hd:o0.dst with
  |none=>
   rw[hd] at h
   cases j with
   |zero=>simp at hj;subst hj;rw[hd];exact fun h=>by cases h
   |succ j=>exact Hv h j o (by simpa using hj)
  |some d=>
   rw[hd] at h
   simp only[BD] at h
   cases hb:Nat.beq d t with
   |true=>rw[hb] at h;cases h
   |false=>
    rw[hb] at h
    cases j with
    |zero=>
     simp at hj;subst hj;rw[hd]
     intro e
     cases e
     rw[Nat.beq_refl] at hb
     cases hb
    |succ j=>exact Hv h j o (by simpa using hj)
theorem Oy:∀{l:List Oper} {k:Nat} {t:Tmp} {i:Nat},BD (AM k l) t=some i→k≤i∧∃o ty,l[i - k]? =some o∧o.op= .alloc ty∧o.dst=some t
 |[],k,t,i,h=>by simp[AM,BD] at h
 |o::l,k,t,i,h=>by
  unfold AM at h
  split at h
  ·rename_i ty d ho hd
   simp only[BD] at h
   cases hb:Nat.beq d t with
   |true=>
    rw[hb] at h
    simp only[cond_true,Option.some.injEq] at h
    subst h
    exact⟨Nat.le_refl _,o,ty,by simp,ho,by rw[hd,Nat.eq_of_beq_eq_true hb]⟩
   |false=>
    rw[hb] at h
    obtain⟨h1,o2,ty2,h2,h3⟩:=Oy (l:=l) h
    exact⟨by omega,o2,ty2,by rw[show i - k=(i - (k+1))+1 by omega];simpa using h2,h3⟩
  ·obtain⟨h1,o2,ty2,h2,h3⟩:=Oy (l:=l) h
   exact⟨by omega,o2,ty2,by rw[show i - k=(i - (k+1))+1 by omega];simpa using h2,h3⟩
theorem Od {D DA:List (Tmp × Nat)}:∀{Rs:List Nat} {l:List Oper},MH D DA Rs l=true→∀(i R:Nat) (o:Oper),Rs[i]? =some R→l[i]? =some o→Nl D DA R o=true
 |[],_,_,i,R,o,h,_=>by simp at h
 |R0::Rs,[],_,i,R,o,_,h=>by simp at h
 |R0::Rs,o0::l,h,i,R,o,h1,h2=>by
  simp only[MH,Bool.and_eq_true] at h
  cases i with
  |zero=>simp at h1 h2;subst h1;subst h2;exact h.1
  |succ i=>exact Od h.2 i R o (by simpa using h1) (by simpa using h2)
structure FOk (qc:Bool) (K:Nat) (ops ops0:Array Oper) (S:Nat→DS) (P:Program):Prop where
 eq0:ops0=(ops.toList.map BM).toArray
 ok:∀(i R:Nat) (o:Oper),(AU ops.toList [])[i]? =some R→ops[i]? =some o→Nl (Au 0 ops.toList) (AM 0 ops.toList) R o=true
 loud:∀(j:Nat) (o:Oper),K≤j→ops0[j]? =some o→loud qc (AM 0 ops0.toList) o≠3
 late:∀(i:Nat) (o:Oper) (t:Tmp),ops[i]? =some o→Kr o=some t→K=0∨∃k,BD (AM 0 ops.toList) t=some k∧K≤k
 fresh:K=0∨∀(i:Nat) (o:Oper) (id off:Nat) (cs:List AC),ops[i]? =some o→A5 o=true→CK P (S ops0.size).tmps o=some (id,off,cs)→(S 0).mem.length≤id
 fin:∀(i:Nat) (o:Oper),ops[i]? =some o→A5 o=true→∃id off cs c e,CK P (S ops0.size).tmps o=some (id,off,cs)∧(S ops0.size).mem.at id= .cells c e∧E4 c=true∧off+cs.length≤c.length
 dist:∀(i j:Nat) (oi oj:Oper) (id off:Nat) (cs:List AC) (id' off':Nat) (cs':List AC),ops[i]? =some oi→ops[j]? =some oj→A5 oi=true→A5 oj=true→i≠j→CK P (S ops0.size).tmps oi=some (id,off,cs)→CK P (S ops0.size).tmps oj=some (id',off',cs')→id≠id'
theorem YR {qc:Bool}{D:List (Tmp × Nat)}{o:Oper}(h:AK qc D o=3):Go.Eng.loud qc D o=3:=by unfold Go.Eng.loud;rw[h];rfl
theorem FOk.three (F:FOk qc K ops ops0 S P):∀(j:Nat) (o:Oper),K≤j→ops0[j]? =some o→AK qc (AM 0 ops0.toList) o≠3:=fun j o hj ho h=>F.loud j o hj ho (YR h)
theorem FOk.size (F:FOk qc K ops ops0 S P):ops0.size=ops.size:=by rw[F.eq0];simp
theorem FOk.rs (F:FOk qc K ops ops0 S P):AU ops0.toList []=AU ops.toList []:=by rw[F.eq0];simp[PL]
theorem FOk.ds (F:FOk qc K ops ops0 S P):Au 0 ops0.toList=Au 0 ops.toList:=by rw[F.eq0];simp[X0]
theorem FOk.as (F:FOk qc K ops ops0 S P):AM 0 ops0.toList=AM 0 ops.toList:=by rw[F.eq0];simp[Zj]
theorem FOk.parts (F:FOk qc K ops ops0 S P){i:Nat}{o:Oper}(ho:ops[i]? =some o)(hf:A5 o=true){ty:TypeId}{t:Tmp}{x:Operand}(hop:o.op= .store ty (.tmp t) x):∃R,(AU ops.toList [])[i]? =some R∧
  ((BD (Au 0 ops.toList) t=none∧K=0)∨∃k ok tk,BD (Au 0 ops.toList) t=some k∧R.testBit k=true∧ops0[k]? =some ok∧ok.op= .alloc tk∧ok.dst=some t∧K≤k)∧
  (∀y,x= .tmp y→(BD (Au 0 ops.toList) y=none)∨∃k ok,BD (Au 0 ops.toList) y=some k∧R.testBit k=true∧ops0[k]? =some ok∧ok.dst=some y∧BD (AM 0 ops.toList) y=none):=by
 have hi:i < (AU ops.toList []).length:=by rw[CH];exact (Array.getElem?_eq_some_iff.1 ho).1
 refine⟨_,List.getElem?_eq_getElem hi,?_⟩
 have h:=F.ok i _ o (List.getElem?_eq_getElem hi) ho
 unfold Nl at h
 rw[hop] at h
 simp only[hf,Bool.not_true,Bool.false_or,Bool.and_eq_true,decide_eq_true_eq] at h
 obtain⟨⟨h1,h2⟩,h3⟩:=h
 have conv:∀{k:Nat} {ok:Oper},ops[k]? =some ok→A5 ok=false→ops0[k]? =some ok:=fun {k ok} hk hn=>by rw[Gs F.eq0,hk,Option.map_some,Kc hn]
 have nf:∀{ok:Oper} {d:Tmp},ok.dst=some d→A5 ok=false:=fun {ok d} hd=>by
  cases hx:A5 ok with
  |false=>rfl
  |true=>
   obtain⟨_,_,_,_,_,_,e⟩:=Dn hx
   rw[hd] at e;cases e
 have hft:Kr o=some t:=by unfold Kr;rw[hf,hop];rfl
 have hlate:=F.late i o t ho hft
 constructor
 ·cases hm:BD (Au 0 ops.toList) t with
  |none=>
   rw[hm] at h2
   rcases hlate with hl|⟨k,hl,_⟩
   ·exact .inl ⟨rfl,hl⟩
   ·rw[hl] at h2;cases h2
  |some k=>
   right
   unfold QB at h1
   rw[hm] at h1 h2
   obtain⟨_,ok,tk,e1,e2,e3⟩:=Oy h2.symm
   refine⟨k,ok,tk,rfl,h1,conv (by simpa using e1) (nf e3),e2,e3,?_⟩
   rcases hlate with hl|⟨k',hl,hk'⟩
   ·omega
   ·rw[hl] at h2;cases h2;exact hk'
 ·intro y hy
  subst hy
  simp only[Bool.and_eq_true,Option.isNone_iff_eq_none] at h3
  obtain⟨h3,h4⟩:=h3
  cases hm:BD (Au 0 ops.toList) y with
  |none=>exact .inl rfl
  |some k=>
   right
   unfold QB at h3
   rw[hm] at h3
   obtain⟨_,ok,e1,e2⟩:=Mz hm
   exact⟨k,ok,rfl,h3,conv (by simpa using e1) (nf e2),e2,h4⟩
def eF (ops:Array Oper)(listed:Array Bool)(a:Act)(w:World):Prop:=
 ∀(i:Nat) (o:Oper) (ty:TypeId) (ta:Tmp) (x:Operand),ops[i]? =some o→A5 o=true→o.op= .store ty (.tmp ta) x→listed.getD i false=true→
  ∃b off vs us e,a.tmps.getD ta undef= .pointer (some ⟨b,off,none⟩)∧w.heap[b]? =some (.cells (vs:List Value).toArray e (0,0))∧(a.eval x).cells=(us:List Value).toArray∧off+us.length≤vs.length∧(vs.drop off).take us.length=us
theorem Dv {tmps:AQ}{o:Oper}{id off:Nat}{cs:List AC}{ty:TypeId}{t:Tmp}{x:Operand}(ho:o.op= .store ty (.tmp t) x)(h:CK P tmps o=some (id,off,cs)):tmps.get t=some (.ptr id off)∧(HJ [] tmps x).cellsOf=some cs∧∃i,P.info? ty=some i∧cs.length=i.size:=by
 unfold CK at h
 rw[ho] at h
 simp only at h
 split at h
 ·rename_i id' off' cs' i h1 h2 h3
  split at h
  ·rename_i h4
   cases h
   exact⟨h1,h2,i,h3,h4⟩
  ·cases h
 ·cases h
theorem BQ.lastT (H:BQ qc md tg P T call ys ops0 pc S){k:Nat}{ok:Oper}(hk:ops0[k]? =some ok){t:Tmp}(hd:ok.dst=some t):(S ops0.size).tmps.get t=(S (k+1)).tmps.get t:=by
 have hkN:k < ops0.size:=(Array.getElem?_eq_some_iff.1 hk).1
 obtain⟨_,l2,_⟩:=H.later (k+1) (ops0.size - (k+1)) (by omega)
 rw[show k+1+(ops0.size - (k+1))=ops0.size by omega] at l2
 exact l2 t fun j o hj1 hj2 ho hd2=>by
  have:=Ch H.nodup hk ho hd hd2
  omega
theorem BQ.lastT0 (H:BQ qc md tg P T call ys ops0 pc S){t:Tmp}(hno:∀(j:Nat) (o:Oper),ops0[j]? =some o→o.dst≠some t):(S ops0.size).tmps.get t=(S 0).tmps.get t:=by
 obtain⟨_,l2,_⟩:=H.later 0 ops0.size (by omega)
 rw[Nat.zero_add] at l2
 exact l2 t fun j o _ _ ho=>hno j o ho
theorem BA.tgt (H:BQ qc md tg P T call ys ops0 pc S)(F:FOk qc K ops ops0 S P)(I:BA qc P T ops0 S ρ0 w0 A q listed ρ a w){i:Nat}{o:Oper}(ho:ops[i]? =some o)(hf:A5 o=true){ty:TypeId}{t:Tmp}{x:Operand}(hop:o.op= .store ty (.tmp t) x)
  (hready:∀R,(AU ops.toList [])[i]? =some R→∀k,R.testBit k=true→listed.getD k false=true) {id off:Nat} {cs c:List AC} {e:TypeId} (hat:CK P (S ops0.size).tmps o=some (id,off,cs)) (hm:(S ops0.size).mem.at id= .cells c e) (hany:E4 c=true):
  ∃b,a.tmps.getD t undef= .pointer (some ⟨b,off,none⟩)∧VN qc ρ0 w0 ops0 S A q listed ρ b∧(∃vs:List Value,w.heap[b]? =some (.cells vs.toArray e (0,0))∧vs.length=c.length)∧
   ((∃k ok,ops0[k]? =some ok∧AK qc (AM 0 ops0.toList) ok=4∧listed.getD k false=true∧q≤k∧A k=b∧ok.dst=some t)∨(ρ id=some b∧(S q).mem.at id= .cells c e)):=by
 obtain⟨g1,g2,_⟩:=Dv hop hat
 obtain⟨R,hR,p1,_⟩:=F.parts ho hf hop
 have desc:∀{n:Nat},K≤q→AB (T.wf (frO qc T ops0 listed q A)) n ρ (S q).mem w (.ptr id off) (a.tmps.getD t undef)→∃b,a.tmps.getD t undef= .pointer (some ⟨b,off,none⟩)∧VN qc ρ0 w0 ops0 S A q listed ρ b∧(∃vs:List Value,w.heap[b]? =some (.cells vs.toArray e (0,0))∧vs.length=c.length)∧
   ((∃k ok,ops0[k]? =some ok∧AK qc (AM 0 ops0.toList) ok=4∧listed.getD k false=true∧q≤k∧A k=b∧ok.dst=some t)∨(ρ id=some b∧(S q).mem.at id= .cells c e)):=by
  rintro n hKq ⟨b,h1,h2,h3⟩
  have hq:(S q).mem.at id= .cells c e:=by rw[←hm];exact (H.atN F.three hKq I.qle (Nat.le_refl _) (BV h3)).symm
  have hold:w0.heap.size≤b∨∃id0,((∃l0 e0,(S 0).mem.at id0= .cells l0 e0)∧ ρ0 id0=some b):=by
   by_cases hpad:(S 0).mem.at id= .pad
   ·exact .inl (I.st.fresh id b hpad (by rw[hq];rfl) h1)
   ·rcases F.fresh with hK|hfr
    ·right
     have e1:=H.atN F.three (show K≤0 by omega) (Nat.zero_le q) I.qle hpad
     rw[hq] at e1
     exact⟨id,⟨c,e,e1.symm⟩,by rw[←(I.st.rho id (by rw[←e1];rfl)).1];exact h1⟩
    ·exact absurd (Mem.at_ge (hfr i o id off cs ho hf hat)) hpad
  have hbk:=I.mem.blk id
  rw[hq] at hbk
  obtain⟨b2,vs,k1,k2,k3⟩:=hbk
  rw[h1] at k1;cases k1
  exact⟨b,h2,.inr ⟨id,c,e,hq,h1,hany,hold⟩,⟨vs,k2,k3.length⟩,.inr ⟨h1,hq⟩⟩
 rcases p1 with⟨p1,hK0⟩|⟨k,ok,tk,p1,p2,p3,p4,p5,hKk⟩
 ·have hno:∀(j:Nat) (oj:Oper),ops0[j]? =some oj→oj.dst≠some t:=fun j oj hj=>Hv (by rw[F.ds];exact p1) j oj (by simpa using hj)
  rw[H.lastT0 hno] at g1
  exact desc (by omega) (I.init t _ g1 fun j oj hj hd=>absurd hd (hno j oj hj))
 ·have hlk:=hready R hR k p2
  rw[H.lastT p3 p5] at g1
  have h4:AK qc (AM 0 ops0.toList) ok=4:=by
   have hg:ok.guard=none:=by
    have h3:=F.three k ok hKk p3
    unfold AK at h3
    rw[p4] at h3
    simp only at h3
    cases hx:ok.guard with
    |none=>rfl
    |some g=>rw[hx] at h3;exact absurd rfl h3
   unfold AK
   rw[p4,hg];rfl
  rcases Nat.lt_or_ge k q with hkq|hkq
  ·exact desc (by omega) (I.facts k ok t _ hlk p3 p5 g1 fun _=>hkq)
  ·obtain⟨c1,c2,c3,t2,l2,vs2,c4,c5,c6,c7⟩:=I.pend k ok p3 h4 hlk hkq
   obtain⟨Rk,_,hs⟩:=H.step k ok p3
   obtain⟨s',cc,a1,a2,a3,_,_,_,_,a8,_⟩:=C2 hs
   obtain⟨d,hd,hdn⟩:=a8 h4
   rw[p5] at hd;cases hd
   obtain⟨hg,_⟩:=DC h4
   obtain⟨l0,b1,b2,b3,_,_⟩:=Fl hg c4 a1
   have hcc:cc= .ptr (S k).mem.length 0:=by
    rw[a3 t p5,b2,p5]
    show ((((S k).masked (Au 0 ops0.toList) (okG (AU ops0.toList []) Rk k) Rk (Bl ops0 ok)).tmps.set t (.ptr (S k).mem.length 0)).get t).getD .any=_
    rw[AQ.get_set_self ((S k).masked (Au 0 ops0.toList) (okG (AU ops0.toList []) Rk k) Rk (Bl ops0 ok)).tmps _ hdn];rfl
   rw[a2] at g1
   simp only[p5,DG] at g1
   rw[AQ.get_set_self _ _ hdn,hcc] at g1
   cases g1
   have hkN:k < ops0.size:=(Array.getElem?_eq_some_iff.1 p3).1
   have hat1:(S (k+1)).mem.at (S k).mem.length= .cells l2 t2:=by rw[c5,Aj,if_pos rfl]
   have hfin:=H.atN F.three (show K≤k+1 by omega) (show k+1≤ops0.size by omega) (Nat.le_refl _) (id:=(S k).mem.length) (by rw[hat1];exact fun h=>by cases h)
   rw[hm,hat1] at hfin
   cases hfin
   exact⟨A k,c3 t p5,.inl ⟨k,ok,c,e,p3,h4,hlk,hkq,rfl,c5,hany⟩,⟨vs2,c6,(c7 T 0 ρ (S q).mem w).length⟩,.inl ⟨k,ok,p3,h4,hlk,hkq,rfl,p5⟩⟩
theorem BA.what (H:BQ qc md tg P T call ys ops0 pc S)(F:FOk qc K ops ops0 S P)(I:BA qc P T ops0 S ρ0 w0 A q listed ρ a w){i:Nat}{o:Oper}(ho:ops[i]? =some o)(hf:A5 o=true){ty:TypeId}{t:Tmp}{x:Operand}(hop:o.op= .store ty (.tmp t) x)
  (hready:∀R,(AU ops.toList [])[i]? =some R→∀k,R.testBit k=true→listed.getD k false=true) {id off:Nat} {cs:List AC} (hat:CK P (S ops0.size).tmps o=some (id,off,cs)):
  ∃us:List Value,(a.eval x).cells=us.toArray∧us.length=cs.length∧∀u∈us,u.oneCell'=true:=by
 obtain⟨g1,g2,_⟩:=Dv hop hat
 obtain⟨R,hR,_,p2⟩:=F.parts ho hf hop
 have main:∃n,AB (T.wf (frO qc T ops0 listed q A)) n ρ (S q).mem w (HJ [] (S ops0.size).tmps x) (a.eval x):=by
  obtain⟨_,_,x',e1,e2,_⟩:=Dn hf
  rw[hop] at e1
  cases e1
  rcases e2 with⟨y,rfl⟩|⟨v,rfl⟩
  ·have hev:HJ [] (S ops0.size).tmps (.tmp y)=((S ops0.size).tmps.get y).getD .any:=by
    show Lx [] (((S ops0.size).tmps.get y).getD .any)=_
    generalize ((S ops0.size).tmps.get y).getD .any=z
    cases z<;>simp[Lx]
   rw[hev]
   cases hx:(S ops0.size).tmps.get y with
   |none=>exact⟨0,trivial⟩
   |some cc=>
    rcases p2 y rfl with p2|⟨k,ok,p2,p3,p4,p5,p6⟩
    ·have hno:∀(j:Nat) (oj:Oper),ops0[j]? =some oj→oj.dst≠some y:=fun j oj hj=>Hv (by rw[F.ds];exact p2) j oj (by simpa using hj)
     rw[H.lastT0 hno] at hx
     exact⟨_,I.init y _ hx fun j oj hj hd=>absurd hd (hno j oj hj)⟩
    ·rw[H.lastT p4 p5] at hx
     refine⟨_,I.facts k ok y _ (hready R hR k p3) p4 p5 hx fun h4=>?_⟩
     obtain⟨_,ty2,hty⟩:=DC h4
     exact absurd (by rw[F.as];exact p6) (Ow ops0.toList 0 k ok y ty2 (by simpa using p4) hty p5)
  ·exact⟨0,Ix v⟩
 obtain⟨n,hn⟩:=main
 obtain⟨us,h1,h2,_,h4⟩:=Cj g2 hn
 exact⟨us,h1,h2.length,h4⟩
theorem FOk.stay (F:FOk qc K ops ops0 S P)(hn:Ed (ops0.toList.filterMap (·.dst))=true){i:Nat}{o:Oper}(ho:ops[i]? =some o)(hf:A5 o=true){ty:TypeId}{t:Tmp}{x:Operand}(hop:o.op= .store ty (.tmp t) x)
  (hready:∀R,(AU ops.toList [])[i]? =some R→∀k,R.testBit k=true→listed.getD k false=true) {j:Nat} {oj:Oper} (hj:ops0[j]? =some oj) (hun:listed.getD j false=false) (a:Act) (v:Value):
  (a.put oj.dst v).tmps.getD t undef=a.tmps.getD t undef∧(a.put oj.dst v).eval x=a.eval x:=by
 obtain⟨R,hR,p1,p2⟩:=F.parts ho hf hop
 have key:∀y,((BD (Au 0 ops.toList) y=none)∨∃k ok,R.testBit k=true∧ops0[k]? =some ok∧ok.dst=some y)→oj.dst≠some y:=by
  intro y hy hd
  rcases hy with h|⟨k,ok,h1,h2,h3⟩
  ·exact Hv (by rw[F.ds];exact h) j oj (by simpa using hj) hd
  ·have:=Ch hn hj h2 hd h3
   subst this
   rw[hready R hR j h1] at hun;cases hun
 constructor
 ·exact C3 (key t (p1.imp (fun h=>h.1) fun⟨k,ok,tk,_,q2,q3,_,q5,_⟩=>⟨k,ok,q2,q3,q5⟩)) v
 ·obtain⟨_,_,x',e1,e2,_⟩:=Dn hf
  rw[hop] at e1
  cases e1
  rcases e2 with⟨y,rfl⟩|⟨c,rfl⟩
  ·exact C3 (key y ((p2 y rfl).imp (fun h=>h) fun⟨k,ok,_,q2,q3,q4,_⟩=>⟨k,ok,q2,q3,q4⟩)) v
  ·rfl
theorem BA.tgt3 (F:FOk qc K ops ops0 S P)(I:BA qc P T ops0 S ρ0 w0 A q listed ρ a w){i:Nat}{o:Oper}(ho:ops[i]? =some o)(hf:A5 o=true){ty:TypeId}{t:Tmp}{x:Operand}(hop:o.op= .store ty (.tmp t) x)
  (hready:∀R,(AU ops.toList [])[i]? =some R→∀k,R.testBit k=true→listed.getD k false=true) {j:Nat} {oj:Oper} (hj:ops0[j]? =some oj) (h3:loud qc (AM 0 ops0.toList) oj=3) (hun:listed.getD j false=false):
  ∃k ok,ops0[k]? =some ok∧AK qc (AM 0 ops0.toList) ok=4∧listed.getD k false=true∧j≤k∧a.tmps.getD t undef= .pointer (some ⟨A k,0,none⟩):=by
 have hjK:j < K:=by
  rcases Nat.lt_or_ge j K with h|h
  ·exact h
  ·exact absurd h3 (F.loud j oj h hj)
 have hqj:q≤j:=by
  rcases Nat.lt_or_ge j q with h|h
  ·rcases I.base j oj h hj with h1|h1
   ·rw[hun] at h1;cases h1
   ·rcases OC h3 with h2|⟨h2,_⟩<;>omega
  ·exact h
 obtain⟨R,hR,p1,_⟩:=F.parts ho hf hop
 rcases p1 with⟨p1,hK0⟩|⟨k,ok,tk,p1,p2,p3,p4,p5,hKk⟩
 ·omega
 ·have hlk:=hready R hR k p2
  have h4:AK qc (AM 0 ops0.toList) ok=4:=by
   have hg:ok.guard=none:=by
    have h3:=F.three k ok hKk p3
    unfold AK at h3
    rw[p4] at h3
    simp only at h3
    cases hx:ok.guard with
    |none=>rfl
    |some g=>rw[hx] at h3;exact absurd rfl h3
   unfold AK
   rw[p4,hg];rfl
  exact⟨k,ok,p3,h4,hlk,by omega,(I.pend k ok p3 h4 hlk (by omega)).2.2.1 t p5⟩
theorem BA.apart (_H:BQ qc md tg P T call ys ops0 pc S)(F:FOk qc K ops ops0 S P)(I:BA qc P T ops0 S ρ0 w0 A q listed ρ a w){i j:Nat}{oi oj:Oper}(hi:ops[i]? =some oi)(hj:ops[j]? =some oj)(fi:A5 oi=true)(fj:A5 oj=true)(hne:i≠j)
  {id off id' off':Nat} {cs cs' c c':List AC} {e e':TypeId} {b b':Nat} {t t':Tmp} {ty ty':TypeId} {x x':Operand} (oi':oi.op= .store ty (.tmp t) x) (oj':oj.op= .store ty' (.tmp t') x') (hat:CK P (S ops0.size).tmps oi=some (id,off,cs)) (hat':CK P (S ops0.size).tmps oj=some (id',off',cs'))
  (h1:(∃k ok,ops0[k]? =some ok∧AK qc (AM 0 ops0.toList) ok=4∧listed.getD k false=true∧q≤k∧A k=b∧ok.dst=some t)∨(ρ id=some b∧(S q).mem.at id= .cells c e))
  (h2:(∃k ok,ops0[k]? =some ok∧AK qc (AM 0 ops0.toList) ok=4∧listed.getD k false=true∧q≤k∧A k=b'∧ok.dst=some t')∨(ρ id'=some b'∧(S q).mem.at id'= .cells c' e')):b≠b':=by
 have hid:=F.dist i j oi oj id off cs id' off' cs' hi hj fi fj hne hat hat'
 obtain⟨g1,_⟩:=Dv oi' hat
 obtain⟨g1',_⟩:=Dv oj' hat'
 intro hb
 subst hb
 rcases h1 with⟨k,ok,k1,k2,k3,k4,k5,k6⟩|⟨k1,k2⟩<;>rcases h2 with⟨j2,ok',m1,m2,m3,m4,m5,m6⟩|⟨m1,m2⟩
 ·have:=I.inj k j2 ok ok' k1 m1 k2 m2 k3 m3 k4 m4 (by rw[k5,m5])
  subst this
  rw[k1] at m1;cases m1
  rw[k6] at m6;cases m6
  rw[g1] at g1'
  cases g1'
  exact hid rfl
 ·exact (I.pend k ok k1 k2 k3 k4).2.1 id' (by rw[m2];rfl) (by rw[k5];exact m1)
 ·exact (I.pend j2 ok' m1 m2 m3 m4).2.1 id (by rw[k2];rfl) (by rw[m5];exact k1)
 ·exact hid (I.mem.inj id id' b (by rw[k2];rfl) (by rw[m2];rfl) k1 m1)
end
end Go.Eng
end
noncomputable section
namespace Go.Eng
open Go Go.RowKit
section
variable {qc md:Bool}{tg:List Tmp}{P:Program}{T:Tab}{call:A8}{ys:Ys}{r:Option Nat}{kk:Nat}{K:Nat}{ops ops0:Array Oper}{pc:PC}
variable {S:Nat→DS}{ρ0:Nat→Option Nat}{w0:World}{A:Nat→Nat}{q:Nat}{listed:Array Bool}{ρ ρ':Nat→Option Nat}{a:Act}{w w':World}
theorem BA.skip (H:BQ qc md tg P T call ys ops0 pc S)(hA:Agr T (S ops0.size).g)(hob:An T (S ops0.size).g)(hpc:pcv T pc)(hpk:BJ T (S 0).g pc)(hm0:AH T (S 0).g.n ρ0 (S 0).mem w0)(I:BA qc P T ops0 S ρ0 w0 A q listed ρ a w){i:Nat}{o:Oper}(ho:ops0[i]? =some o)
  (hun:listed.getD i false=false) (hready:∀e∈o.after,Region.binds .any e=true→listed.getD e.on false=true) (hop:o.op= .move (.const (.bool true))) (hg:o.guard=none) (hd:o.dst=none):
  ∃A' q' ρ',BA qc P T ops0 S ρ0 w0 A' q' (listed.setIfInBounds i true) ρ' a w:=by
 have h:=I.comesw (r:=none) (kk:=0) (K:=fun a' w'=>∃A' q' ρ',BA qc P T ops0 S ρ0 w0 A' q' (listed.setIfInBounds i true) ρ' a' w') (Q:=fun _ _ _=>False) H hA hob hpc hpk hm0 ho hun hready fun A' q' ρ' v w' h1 _ _=>⟨A',q', ρ',h1⟩
 unfold Co at h
 rw[if_pos (by unfold Region.wanted;rw[hg])] at h
 have h2:=h.2
 rw[Oper.semAt_eq _ _ _ (by rw[hop];exact fun c h=>by cases h)] at h2
 have hrun:(execOp a.eval o).run P w= .ok (.value (.bool true)) w:=by simp[execOp,hop,Act.eval]
 rw[hrun] at h2
 rw[Oper.uponIn_value,hd] at h2
 exact h2
theorem Vj {vs us:List Value}{off:Nat}(h:off+us.length≤vs.length):((Bh vs off us).drop off).take us.length=us∧(Bh vs off us).length=vs.length:=by
 unfold Bh
 have e:(vs.take off).length=off:=by simp;omega
 constructor
 ·rw[List.append_assoc,List.drop_append,e,List.drop_of_length_le (by omega),Nat.sub_self,List.drop_zero,List.nil_append,List.take_append,Nat.sub_self,List.take_zero,List.append_nil,List.take_of_length_le (Nat.le_refl _)]
 ·simp;omega
theorem BA.floats (H:BQ qc md tg P T call ys ops0 pc S)(F:FOk qc K ops ops0 S P)(hA:Agr T (S ops0.size).g)(hob:An T (S ops0.size).g)(hpc:pcv T pc)(hpk:BJ T (S 0).g pc)(hm0:AH T (S 0).g.n ρ0 (S 0).mem w0)(I:BA qc P T ops0 S ρ0 w0 A q listed ρ a w)(hraw:eF ops listed a w){i:Nat}{o:Oper}(ho:ops[i]? =some o)
  (hf:A5 o=true) (hun:listed.getD i false=false) (hready:∀e∈o.after,Region.binds .any e=true→listed.getD e.on false=true) {K:Act→World→Prop} {Q:Exit→Act→World→Prop}
  (hK:∀A' q' ρ' w',BA qc P T ops0 S ρ0 w0 A' q' (listed.setIfInBounds i true) ρ' a w'→eF ops (listed.setIfInBounds i true) a w'→K a w'):Co P r kk ops o a w K Q:=by
 have hisz:i < listed.size:=by rw[I.size,F.size];exact (Array.getElem?_eq_some_iff.1 ho).1
 have ho0:ops0[i]? =some (BM o):=by rw[Gs F.eq0,ho];rfl
 obtain⟨ty,t,x,hop,_,hg,hd⟩:=Dn hf
 have hn0:(BM o).op= .move (.const (.bool true)):=by unfold BM;rw[hf];rfl
 have hr0:∀e∈(BM o).after,Region.binds .any e=true→listed.getD e.on false=true:=by rw[Ft];exact hready
 have hbits:∀{j:Nat} {oj:Oper},ops[j]? =some oj→(∀e∈oj.after,Region.binds .any e=true→listed.getD e.on false=true)→∀R,(AU ops.toList [])[j]? =some R→∀k,R.testBit k=true→listed.getD k false=true:=by
  intro j oj hoj hrj R hR
  rw[←F.rs] at hR
  exact CC I.closed hR (show ops0[j]? =some (BM oj) by rw[Gs F.eq0,hoj];rfl) (by rw[Ft];exact hrj)
 have hrd:=hbits ho hready
 obtain⟨id,off,cs,c,e,f1,f2,f3,f4⟩:=F.fin i o ho hf
 obtain⟨b,t1,t2,⟨vs,t3,t4⟩,t5⟩:=I.tgt H F ho hf hop hrd f1 f2 f3
 obtain⟨us,u1,u2,u3⟩:=I.what H F ho hf hop hrd f1
 obtain⟨_,_,inf,hinf,hlen⟩:=Dv hop f1
 obtain⟨A',q', ρ',I2⟩:=I.skip H hA hob hpc hpk hm0 ho0 hun hr0 hn0 (by rw[So];exact hg) (by rw[HV];exact hd)
 have hrun:(execOp a.eval o).run P w= .ok .skip (w.setRow b (Bh vs off us).toArray):=by
  have:=IG (P:=P) (w:=w) hinf b off e (vs:=us) (v:=a.eval x) t3 u1 (by rw[u2,hlen]) (by rw[←hlen,t4];exact f4) u3
  have ea:a.eval (.tmp t)= .pointer (some ⟨b,off,none⟩):=t1
  simp[execOp,hop,ea,Instr.storeAt,Instr.sureAddr,this]
 unfold Co
 rw[if_pos (by unfold Region.wanted;rw[hg])]
 refine K7 (by rw[hop];exact fun c h=>by cases h) ?_
 rw[hrun,Oper.uponIn_skip,hd]
 show K a _
 have hle:off+us.length≤vs.length:=by rw[u2,t4];exact f4
 obtain⟨sp1,sp2⟩:=Vj hle
 have hpk2:=Hf.setRow w b (Bh vs off us).toArray
 have hb2:=Zu (Bh vs off us).toArray t3
 have hrd2:∀{j:Nat} {oj:Oper},ops[j]? =some oj→(listed.setIfInBounds i true).getD j false=true→∀R,(AU ops.toList [])[j]? =some R→∀k,R.testBit k=true→(listed.setIfInBounds i true).getD k false=true:=by
  intro j oj hoj hlj R hR
  rw[←F.rs] at hR
  have hcl:=I2.closed j (BM oj) (by rw[Gs F.eq0,hoj];rfl) hlj
  exact CC I2.closed hR (show ops0[j]? =some (BM oj) by rw[Gs F.eq0,hoj];rfl) hcl
 have hli:(listed.setIfInBounds i true).getD i false=true:=by rw[At _ _ _ hisz,if_pos rfl]
 obtain⟨b2,s1,s2,_,s5⟩:=I2.tgt H F ho hf hop (hrd2 ho hli) f1 f2 f3
 have eb:b2=b:=by
  rw[t1] at s1
  injection s1 with s1
  injection s1 with s1
  injection s1 with s1
  exact s1.symm
 subst eb
 have I3:=I2.poke hm0 s2 hpk2 t3 hb2 sp2
 refine hK A' q' ρ' _ I3 ?_
 intro j oj ty' t' x' hoj fj hopj hlj
 by_cases hji:j=i
 ·subst hji
  rw[ho] at hoj;cases hoj
  rw[hop] at hopj;cases hopj
  exact⟨b2,off,Bh vs off us,us,e,t1,hb2,u1,by rw[sp2];exact hle,sp1⟩
 ·have hlj0:listed.getD j false=true:=by rw[At _ _ _ hisz,if_neg hji] at hlj;exact hlj
  obtain⟨b',off',vs',us',e',r1,r2,r3,r4,r5⟩:=hraw j oj ty' t' x' hoj fj hopj hlj0
  obtain⟨idj,offj,csj,cj,ej,j1,j2,j3,j4⟩:=F.fin j oj hoj fj
  obtain⟨bj,k1,k2,_,k5⟩:=I2.tgt H F hoj fj hopj (hrd2 hoj hlj) j1 j2 j3
  have ebj:bj=b':=by
   rw[r1] at k1
   injection k1 with k1
   injection k1 with k1
   injection k1 with k1
   exact k1.symm
  subst ebj
  have hne:=I2.apart H F hoj ho fj hf hji hopj hop j1 f1 k5 s5
  exact⟨bj,off',vs',us',e',r1,by rw[hpk2.oth bj hne];exact r2,r3,r4,r5⟩
theorem eO (H:BQ qc md tg P T call ys ops0 pc S)(F:FOk qc K ops ops0 S P)(hA:Agr T (S ops0.size).g)(hob:An T (S ops0.size).g)(hpc:pcv T pc)(hpk:BJ T (S 0).g pc){Q:Exit→Act→World→Prop}{ρ0:Nat→Option Nat}{w0:World}(hm0:AH T (S 0).g.n ρ0 (S 0).mem w0)
  (hK:∀ ρ a w,Bq T ρ ops0 ⟨(S ops0.size).tmps,(S ops0.size).mem,(S ops0.size).g,(S ops0.size).gls.map (·.2)⟩ a w→AJ T (S 0).g.n ρ0 (S 0).mem w0 ρ (S ops0.size).mem w→
   (∀(i:Nat) (o:Oper) (ty:TypeId) (ta:Tmp) (x:Operand),ops[i]? =some o→A5 o=true→o.op= .store ty (.tmp ta) x→∃b off vs us e,a.tmps.getD ta undef= .pointer (some ⟨b,off,none⟩)∧w.heap[b]? =some (.cells (vs:List Value).toArray e (0,0))∧(a.eval x).cells=(us:List Value).toArray∧off+us.length≤vs.length∧(vs.drop off).take us.length=us)→Q .normal a w):
  ∀(fuel:Nat) (listed:Array Bool) (A:Nat→Nat) (ρ :Nat→Option Nat) (q:Nat) (a:Act) (w:World),BA qc P T ops0 S ρ0 w0 A q listed ρ a w→eF ops listed a w→CQ listed=fuel→wpAnyIn (fen r) kk P .any ops Q fuel listed a w:=by
 intro fuel
 induction fuel with
 |zero=>
  intro listed A ρ q a w I hraw hu
  have hall:∀j,j < ops0.size→listed.getD j false=true:=fun j hj=>by
   cases hlj:listed.getD j false with
   |true=>rfl
   |false=>
    have:=Dx (listed:=listed) (i:=j) (by rw[I.size];exact hj) hlj
    omega
  obtain⟨ρ2,h1,h2⟩:=I.full H hall
  refine wpAnyIn_done ?_ (hK ρ2 a w h1 h2 fun i o ty ta x hi hf hop=>hraw i o ty ta x hi hf hop (hall i (by rw[F.size];exact (Array.getElem?_eq_some_iff.1 hi).1))) _
  refine List.eq_nil_iff_forall_not_mem.2 fun i hi=>?_
  obtain⟨h1,o,ho,_⟩:=mem_ready.1 hi
  have hiN:i < ops0.size:=by rw[F.size];exact (Array.getElem?_eq_some_iff.1 ho).1
  have h2:=hall i hiN
  rw[Array.getD_eq_getD_getElem?] at h1 h2
  have hlt:i < listed.size:=by rw[I.size];exact hiN
  rw[Array.getElem?_eq_getElem hlt] at h1 h2
  simp only[Option.getD_some] at h1 h2
  rw[h1] at h2;cases h2
 |succ fuel ih=>
  intro listed A ρ q a w I hraw hu
  by_cases hall:∀j,j < ops0.size→listed.getD j false=true
  ·have hc:=FQ (h:=ops0.size) (by rw[I.size];exact Nat.le_refl _) (fun j=>by
    refine⟨fun h=>?_,hall j⟩
    rcases Nat.lt_or_ge j ops0.size with h1|h1
    ·exact h1
    ·rw[Array.getD_eq_getD_getElem?,Array.getElem?_eq_none (by rw[I.size];exact h1)] at h
     cases h)
   rw[hu,I.size] at hc
   omega
  ·simp only[Classical.not_forall] at hall
   obtain⟨j,hj,hlj⟩:=hall
   have hmin:∃j,j < ops0.size∧listed.getD j false=false∧∀i,i < j→listed.getD i false=true:=by
    have key:∀n,(∃j,j < n∧j < ops0.size∧listed.getD j false=false)→∃j,j < ops0.size∧listed.getD j false=false∧∀i,i < j→listed.getD i false=true:=by
     intro n
     induction n with
     |zero=>rintro⟨j,h1,_⟩;omega
     |succ n ihn=>
      rintro⟨j,h1,h2,h3⟩
      by_cases hx:∃j,j < n∧j < ops0.size∧listed.getD j false=false
      ·exact ihn hx
      ·have hjn:j=n:=by
        rcases Nat.lt_or_ge j n with h|h
        ·exact absurd ⟨j,h,h2,h3⟩ hx
        ·omega
       subst hjn
       refine⟨j,h2,h3,fun i hi=>?_⟩
       cases hli:listed.getD i false with
       |true=>rfl
       |false=>exact absurd ⟨i,hi,by omega,hli⟩ hx
    exact key (j+1) ⟨j,Nat.lt_succ_self _,hj,by simpa using hlj⟩
   obtain⟨j0,h0,hl0,hbelow⟩:=hmin
   have toF:∀i,listed.getD i true=false→listed.getD i false=false:=fun i h=>by
    rw[Array.getD_eq_getD_getElem?] at h⊢
    cases hx:listed[i]? with
    |none=>rfl
    |some b=>rw[hx] at h;exact h
   have hr0:j0∈Region.ready .any ops listed:=by
    obtain⟨o,ho⟩:=BQ.op (ops:=ops) (j:=j0) (by rw[←F.size];exact h0)
    refine mem_ready.2 ⟨?_,o,ho,fun e he hb=>hbelow e.on ?_⟩
    ·have hlt:j0 < listed.size:=by rw[I.size];exact h0
     rw[Array.getD_eq_getD_getElem?,Array.getElem?_eq_getElem hlt] at hl0⊢
     simpa using hl0
    ·exact OA H.masks (show ops0[j0]? =some (BM o) by rw[Gs F.eq0,ho];rfl) (by rw[Ft];exact he) hb
   refine⟨(fun hnil=>by rw[hnil] at hr0;cases hr0),fun i hir=>?_⟩
   obtain⟨q1,o,q2,q3⟩:=mem_ready.1 hir
   have hiN:i < ops0.size:=by rw[F.size];exact (Array.getElem?_eq_some_iff.1 q2).1
   have hcnt:=Dx (listed:=listed) (i:=i) (by rw[I.size];exact hiN) (toF i q1)
   have ho0:ops0[i]? =some (BM o):=by rw[Gs F.eq0,q2];rfl
   cases hf:A5 o with
   |true=>
    exact Fd q2 (I.floats H F hA hob hpc hpk hm0 hraw q2 hf (toF i q1) q3 fun A' q' ρ' w' I' hr'=>ih _ _ _ _ _ w' I' hr' (by omega))
   |false=>
    rw[Kc hf] at ho0
    have hg:=I.comesw (r:=r) (kk:=kk) (K:=wpAnyIn (fen r) kk P .any ops Q fuel (listed.setIfInBounds i true)) (Q:=Q) H hA hob hpc hpk hm0 ho0 (toF i q1) q3 fun A' q' ρ' v w' I' hw hw3=>ih _ _ _ _ _ w' I' (by
     intro j oj ty t x hoj fj hopj hlj
     have hji:j≠i:=fun e=>by subst e;rw[q2] at hoj;cases hoj;rw[hf] at fj;cases fj
     have hlj0:listed.getD j false=true:=by rw[At _ _ _ (by rw[I.size];exact hiN),if_neg hji] at hlj;exact hlj
     obtain⟨b,off,vs,us,e,r1,r2,r3,r4,r5⟩:=hraw j oj ty t x hoj fj hopj hlj0
     have hrdy:∀R,(AU ops.toList [])[j]? =some R→∀k,R.testBit k=true→listed.getD k false=true:=fun R hR=>by
      rw[←F.rs] at hR
      have hoj0:ops0[j]? =some (BM oj):=by rw[Gs F.eq0,hoj];rfl
      exact CC I.closed hR hoj0 (I.closed j _ hoj0 hlj0)
     have hst:=F.stay H.nodup hoj fj hopj (listed:=listed) hrdy ho0 (toF i q1) a v
     refine⟨b,off,vs,us,e,by rw[hst.1];exact r1,?_,by rw[hst.2];exact r3,r4,r5⟩
     by_cases h3:loud qc (AM 0 ops0.toList) o=3
     ·obtain⟨k,ok,k1,k2,k3,k4,k5⟩:=I.tgt3 F hoj fj hopj hrdy ho0 h3 (toF i q1)
      have:=hw3 h3 k ok k1 k2 k3 k4
      rw[r1] at k5
      injection k5 with k5
      injection k5 with k5
      injection k5 with k5
      rw[k5,this,←k5]
      exact r2
     ·rcases hw h3 with hw|⟨obj,hw⟩
      ·rw[hw];exact r2
      ·rw[hw,A9 w obj b (Array.getElem?_eq_some_iff.1 r2).1];exact r2) (by omega)
    refine Fd q2 ?_
    unfold Co at hg⊢
    rw[show yielded ops0 a.tmps=yielded ops a.tmps from funext fun j=>Tm F.eq0 _ j] at hg
    exact hg
theorem AJ.recell {n:Nat}{m:Mem}{id:Nat}{c c':List AC}{e:TypeId}(h:m.at id= .cells c e):AJ T n ρ m w ρ (m.set id (.cells c' e)) w:=by
 have hat:=FZ m id (.cells c' e)
 have hne:m.at id≠ .pad:=by rw[h];exact fun h=>by cases h
 refine⟨rfl,rfl,rfl,Nat.le_refl _,fun k hk=>?_,fun k hk=>⟨rfl,?_⟩,fun k _ hk=>?_,fun k b hp hk _=>?_,fun _ _ _=>rfl,fun k x ks e2 hx=> .inl ⟨?_,rfl,fun _ _=>rfl⟩⟩
 ·rw[hat k hne]
  split
  ·exact fun h=>by cases h
  ·exact hk
 ·rw[hat k hne]
  split
  ·rfl
  ·exact hk
 ·rw[hat k hne] at hk
  split at hk
  ·rename_i e3;rw[e3,h];rfl
  ·exact hk
 ·rw[hat k hne] at hk
  split at hk
  ·rename_i e3;rw[e3,h] at hp;cases hp
  ·rw[hp] at hk;cases hk
 ·rw[hat k hne]
  split
  ·rename_i e3;rw[e3,h] at hx;cases hx
  ·exact hx
theorem AH.recell {n:Nat}{m:Mem}{id b:Nat}{c c':List AC}{e:TypeId}{vs:List Value}(hm:AH T n ρ m w)(h:m.at id= .cells c e)(hr: ρ id=some b)(hb:w.heap[b]? =some (.cells vs.toArray e (0,0)))(hl:AD T n ρ m w c' vs):AH T n ρ (m.set id (.cells c' e)) w:=by
 have hat:=FZ m id (.cells c' e)
 have hne:m.at id≠ .pad:=by rw[h];exact fun h=>by cases h
 have st:AJ T n ρ m w ρ (m.set id (.cells c' e)) w:=AJ.recell h
 have htr:∀k,(Mem.at (m.set id (.cells c' e)) k).tracked=true→(m.at k).tracked=true:=fun k hk=>by
  rw[hat k hne] at hk
  split at hk
  ·rename_i e3;rw[e3,h];rfl
  ·exact hk
 refine⟨fun k=>?_,fun k k' b' h1 h2=>hm.inj k k' b' (htr k h1) (htr k' h2),hm.fr⟩
 by_cases hk:k=id
 ·rw[hat k hne,if_pos hk]
  exact⟨b,vs,by rw[hk];exact hr,hb,AD.mono0 st (Nat.le_refl _) _ _ hl⟩
 ·exact BU.step st hm (Nat.le_refl _) (by rw[hat k hne,if_neg hk]) rfl (fun _ _=>rfl)
theorem JZ {tmps:AQ}:∀{l:List Oper} {seen:List Nat} {m m':Mem},GG P tmps l seen m=some m'→
  (∀(i:Nat) (o:Oper),l[i]? =some o→A5 o=true→∃id off cs c e,CK P tmps o=some (id,off,cs)∧m.at id= .cells c e∧E4 c=true∧off+cs.length≤c.length∧id ∉ seen)∧
  (∀(i j:Nat) (oi oj:Oper) (id off:Nat) (cs:List AC) (id' off':Nat) (cs':List AC),l[i]? =some oi→l[j]? =some oj→A5 oi=true→A5 oj=true→i≠j→CK P tmps oi=some (id,off,cs)→CK P tmps oj=some (id',off',cs')→id≠id')
 |[],seen,m,m',h=>⟨fun i o hi=>by simp at hi,fun i j oi oj _ _ _ _ _ _ hi=>by simp at hi⟩
 |o::l,seen,m,m',h=>by
  unfold GG at h
  cases hf:A5 o with
  |false=>
   rw[hf] at h
   simp only[Bool.false_eq_true,if_false] at h
   obtain⟨h1,h2⟩:=JZ h
   constructor
   ·intro i o2 hi f2
    cases i with
    |zero=>simp at hi;subst hi;rw[hf] at f2;cases f2
    |succ i=>exact h1 i o2 (by simpa using hi) f2
   ·intro i j oi oj id off cs id' off' cs' hi hj fi fj hne
    cases i with
    |zero=>simp at hi;subst hi;rw[hf] at fi;cases fi
    |succ i=>
     cases j with
     |zero=>simp at hj;subst hj;rw[hf] at fj;cases fj
     |succ j=>exact h2 i j oi oj id off cs id' off' cs' (by simpa using hi) (by simpa using hj) fi fj (by omega)
  |true=>
   rw[hf] at h
   simp only[if_true] at h
   split at h
   ·rename_i id off cs hat
    split at h
    ·rename_i c e hm
     split at h
     ·rename_i hc
      simp only[Bool.and_eq_true,Bool.not_eq_true',List.contains_eq_mem,decide_eq_false_iff_not] at hc
      obtain⟨⟨c1,c2⟩,c3⟩:=hc
      have c3:=Nat.le_of_ble_eq_true c3
      obtain⟨h1,h2⟩:=JZ h
      have hne:m.at id≠ .pad:=by rw[hm];exact fun h=>by cases h
      have rest:∀(i:Nat) (o2:Oper),l[i]? =some o2→A5 o2=true→∃id' off' cs' c' e',CK P tmps o2=some (id',off',cs')∧m.at id'= .cells c' e'∧E4 c'=true∧off'+cs'.length≤c'.length∧id' ∉ seen∧id'≠id:=by
       intro i o2 hi f2
       obtain⟨id',off',cs',c',e',q1,q2,q3,q4,q5⟩:=h1 i o2 hi f2
       have hx:id'≠id:=fun e=>q5 (by rw[e];exact List.mem_cons_self)
       rw[FZ m id _ id' hne,if_neg hx] at q2
       exact⟨id',off',cs',c',e',q1,q2,q3,q4,fun h=>q5 (List.mem_cons_of_mem _ h),hx⟩
      constructor
      ·intro i o2 hi f2
       cases i with
       |zero=>simp at hi;subst hi;exact⟨id,off,cs,c,e,hat,hm,c1,c3,c2⟩
       |succ i=>
        obtain⟨id',off',cs',c',e',q1,q2,q3,q4,q5,_⟩:=rest i o2 (by simpa using hi) f2
        exact⟨id',off',cs',c',e',q1,q2,q3,q4,q5⟩
      ·intro i j oi oj a1 a2 a3 b1 b2 b3 hi hj fi fj hne2 e1 e2
       cases i with
       |zero=>
        simp at hi
        subst hi
        rw[hat] at e1
        cases e1
        cases j with
        |zero=>exact absurd rfl hne2
        |succ j=>
         obtain⟨id',off',cs',c',e',q1,_,_,_,_,q6⟩:=rest j oj (by simpa using hj) fj
         rw[q1] at e2
         cases e2
         exact fun h=>q6 h.symm
       |succ i=>
        cases j with
        |zero=>
         simp at hj
         subst hj
         rw[hat] at e2
         cases e2
         obtain⟨id',off',cs',c',e',q1,_,_,_,_,q6⟩:=rest i oi (by simpa using hi) fi
         rw[q1] at e1
         cases e1
         exact q6
        |succ j=>exact h2 i j oi oj a1 a2 a3 b1 b2 b3 (by simpa using hi) (by simpa using hj) fi fj (by omega) e1 e2
     ·cases h
    ·cases h
   ·cases h
theorem JV {tmps:AQ}{n:Nat}:∀{l:List Oper} {seen:List Nat} {m m':Mem},GG P tmps l seen m=some m'→AH T n ρ m w→(∀t c,tmps.get t=some c→AB T n ρ m w c (a.tmps.getD t undef))→
  (∀(i:Nat) (o:Oper) (ty:TypeId) (ta:Tmp) (x:Operand),l[i]? =some o→A5 o=true→o.op= .store ty (.tmp ta) x→∃b off vs us e,a.tmps.getD ta undef= .pointer (some ⟨b,off,none⟩)∧w.heap[b]? =some (.cells (vs:List Value).toArray e (0,0))∧(a.eval x).cells=(us:List Value).toArray∧off+us.length≤vs.length∧(vs.drop off).take us.length=us)→
  AH T n ρ m' w∧AJ T n ρ m w ρ m' w
 |[],seen,m,m',h,hm,ht,hr=>by
  cases h
  exact⟨hm,AJ.refl _ _ _ _ _⟩
 |o::l,seen,m,m',h,hm,ht,hr=>by
  unfold GG at h
  cases hf:A5 o with
  |false=>
   rw[hf] at h
   simp only[Bool.false_eq_true,if_false] at h
   exact JV h hm ht fun i o2 ty ta x hi=>hr (i+1) o2 ty ta x (by simpa using hi)
  |true=>
   rw[hf] at h
   simp only[if_true] at h
   split at h
   ·rename_i id off cs hat
    split at h
    ·rename_i c e hmi
     split at h
     ·rename_i hc
      simp only[Bool.and_eq_true] at hc
      have c3:=Nat.le_of_ble_eq_true hc.2
      obtain⟨ty,t,x,hop,hx,_,_⟩:=Dn hf
      obtain⟨g1,g2,_⟩:=Dv hop hat
      obtain⟨b,off',vs,us,e',r1,r2,r3,r4,r5⟩:=hr 0 o ty t x rfl hf hop
      obtain⟨b2,k1,k2,_⟩:=ht t _ g1
      rw[r1] at k2
      injection k2 with k2
      injection k2 with k2
      injection k2 with k2 k3
      subst k2;subst k3
      obtain⟨vs2,q1,q2⟩:=BU.get hm hmi k1
      rw[r2] at q1
      injection q1 with q1
      injection q1 with q3 q4
      have q5:vs=vs2:=by simpa using congrArg Array.toList q3
      subst q5;subst q4
      have hev:AB T n ρ m w (HJ [] tmps x) (a.eval x):=by
       rcases hx with⟨y,rfl⟩|⟨v,rfl⟩
       ·show AB T n ρ m w (Lx [] ((tmps.get y).getD .any)) _
        refine N6 (fun c hc=>by cases hc) ?_
        cases hg:tmps.get y with
        |none=>exact trivial
        |some c=>exact ht y c hg
       ·exact Ix v
      obtain⟨us2,z1,z2,_,_⟩:=Cj g2 hev
      rw[r3] at z1
      have z3:us=us2:=by simpa using congrArg Array.toList z1
      subst z3
      have hsp:AD T n ρ m w (c.take off'++cs++c.drop (off'+cs.length)) vs:=by
       have hh:=JY q2 z2 off' cs.length rfl
       have e1:Bh vs off' us=vs:=by
        unfold Bh
        have h1:=List.take_append_drop off' vs
        have h2:=List.take_append_drop us.length (vs.drop off')
        rw[r5,List.drop_drop] at h2
        rw[←h2,←List.append_assoc] at h1
        exact h1
       rw[e1] at hh
       exact hh
      have hm2:=AH.recell hm hmi k1 r2 hsp
      have st:∀k,AJ T k ρ m w ρ (m.set id (.cells (c.take off'++cs++c.drop (off'+cs.length)) e')) w:=fun k=>AJ.recell hmi
      obtain⟨m1,m2⟩:=JV h hm2 (fun t c hc=>AB.mono0 (st n) (Nat.le_refl _) _ _ (ht t c hc)) fun i o2 ty ta x hi=>hr (i+1) o2 ty ta x (by simpa using hi)
      exact⟨m1,(st n).trans hm (Nat.le_refl _) m2⟩
     ·cases h
    ·cases h
   ·cases h
end
end Go.Eng
end
noncomputable section
namespace Go.Eng
open Go Go.RowKit
section
variable {qc md:Bool}{tg:List Tmp}{P:Program}{T:Tab}{call:A8}{ys:Ys}{r:Option Nat}{kk:Nat}{ops ops0:Array Oper}{pc:PC}
variable {ρ :Nat→Option Nat}{a:Act}{w w':World}
def Wk (m m':Mem):Prop:=∀id,m'.at id=m.at id∨∃l l' e,m.at id= .cells l e∧m'.at id= .cells l' e
theorem Wk.symm {m m':Mem}(h:Wk m m'):Wk m' m:=fun id=>by
 rcases h id with h|⟨l,l',e,h1,h2⟩
 ·exact .inl h.symm
 ·exact .inr ⟨l',l,e,h2,h1⟩
theorem Wk.step {n:Nat}{m m':Mem}(h:Wk m m'):AJ T n ρ m w ρ m' w:=by
 refine⟨rfl,rfl,rfl,Nat.le_refl _,fun id hp=>?_,fun id hp=>⟨rfl,?_⟩,fun id _ ht=>?_,fun id b hp ht _=>?_,fun _ _ _=>rfl,fun id x ks e hx=> .inl ⟨?_,rfl,fun _ _=>rfl⟩⟩<;>rcases h id with h|⟨l,l',e2,h1,h2⟩
 ·rw[h];exact hp
 ·rw[h2];exact fun h=>by cases h
 ·rw[h];exact hp
 ·rw[h2];rfl
 ·rw[h] at ht;exact ht
 ·rw[h1];rfl
 ·rw[h,hp] at ht;cases ht
 ·rw[h1] at hp;cases hp
 ·rw[h];exact hx
 ·rw[h1] at hx;cases hx
theorem IT (tmps:AQ):∀(l:List Oper) (m:Mem),Wk m (C7 tmps l m)∧∀(n:Nat),AH T n ρ m w→AH T n ρ (C7 tmps l m) w
 |[],m=>⟨fun id=> .inl rfl,fun n h=>h⟩
 |o::l,m=>by
  have one:∀id,Wk m (m.set id (N8 (m.at id)))∧∀n,AH T n ρ m w→AH T n ρ (m.set id (N8 (m.at id))) w:=by
   intro id
   cases hx:m.at id with
   |cells c e=>
    have hne:m.at id≠ .pad:=by rw[hx];exact fun h=>by cases h
    refine⟨fun k=>?_,fun n hm=>?_⟩
    ·rw[FZ m id _ k hne]
     split
     ·rename_i e2;right;rw[e2];exact⟨c,_,e,hx,rfl⟩
     ·exact .inl rfl
    ·have hb:=hm.blk id
     rw[hx] at hb
     obtain⟨b,vs,h1,h2,h3⟩:=hb
     exact AH.recell hm hx h1 h2 (AD.of_get (by simp[h3.length]) fun j c' u q1 _=>by
      simp only[List.getElem?_map,Option.map_eq_some_iff] at q1
      obtain⟨_,_,rfl⟩:=q1
      trivial)
   |_=>
    have e1:m.set id (N8 (m.at id))=m:=by
     have hw:N8 (m.at id)=m.at id:=by rw[hx];rfl
     rw[hw]
     unfold Mem.at
     rcases Nat.lt_or_ge id m.length with h|h
     ·rw[List.getElem?_eq_getElem h,Option.getD_some,List.set_getElem_self]
     ·rw[List.set_eq_of_length_le h]
    rw[hx] at e1
    rw[e1]
    exact⟨fun id=> .inl rfl,fun n h=>h⟩
  have tr:∀{m1:Mem},(Wk m m1∧∀n,AH T n ρ m w→AH T n ρ m1 w)→Wk m (C7 tmps l m1)∧∀n,AH T n ρ m w→AH T n ρ (C7 tmps l m1) w:=by
   intro m1 h
   obtain⟨h1,h2⟩:=IT tmps l m1
   refine⟨fun id=>?_,fun n hm=>h2 n (h.2 n hm)⟩
   rcases h1 id with k|⟨l1,l2,e,k1,k2⟩
   ·rw[k];exact h.1 id
   ·rcases h.1 id with k|⟨l3,l4,e',k3,k4⟩
    ·right;exact⟨l1,l2,e,by rw[←k];exact k1,k2⟩
    ·rw[k1] at k4;cases k4
     exact .inr ⟨l3,l2,e,k3,k2⟩
  unfold C7
  split
  ·split
   ·exact tr (one _)
   ·exact IT tmps l m
  ·exact IT tmps l m
theorem Wb (hcall:∀T,Ca P T call)(hys:CN P T.lp ys){l:Loc}{g:G}{s':RS}(h:FB qc md tg P call ys ops pc l g=some s'):
  ∃S:Nat→DS,BQ qc md tg P T call ys ops pc S∧S 0=⟨l.tmps,l.mem,g,[]⟩∧s'=⟨(S ops.size).tmps,(S ops.size).mem,(S ops.size).g,(S ops.size).gls.map (·.2)⟩:=by
 unfold FB at h
 simp only at h
 split at h
 ·rename_i hc
  rw[Bool.and_eq_true,Bool.and_eq_true,Bool.and_eq_true] at hc
  obtain⟨⟨⟨hmask,hnod⟩,hord⟩,hwide⟩:=hc
  simp only[Option.bind_eq_bind,Option.bind_eq_some_iff] at h
  obtain⟨Sh,hh,ht⟩:=h
  obtain⟨S,q1,q2,q3⟩:=Jb hh
  rw[Nat.zero_add,Array.length_toList] at q2
  refine⟨S,?_,q1,?_⟩
  ·refine⟨fun j o ho=>?_,hmask,hnod,fun i o R ho hR j oj hoj hlt=>?_,fun i o R ho hR n0 n4 j oj hoj hlt h4 hb m om hom hmj=>?_,hcall,hys,by rw[q1]⟩
   ·obtain⟨R,hR,this⟩:=q3 j o (by simpa using ho)
    rw[Nat.zero_add] at this
    exact⟨R,hR,this⟩
   ·have:=Oo hord i R (AK qc (AM 0 ops.toList) o) hR (by simp[ho]) j (AK qc (AM 0 ops.toList) oj) (by simp[hoj]) (by omega)
    exact⟨this.1,this.2⟩
   ·have hcl:∀(j:Nat) (oj:Oper),ops[j]? =some oj→(ops.toList.map (AK qc (AM 0 ops.toList)))[j]? =some (AK qc (AM 0 ops.toList) oj):=fun j oj h=>by simp[h]
    have hmem:=Ja (j0:=0) (j:=j) (by rw[hcl j oj hoj,h4])
    rw[Nat.zero_add] at hmem
    have hcv:=Ox hwide i R _ hR (hcl i o ho) n0 n4 j hmem (by omega) hb
    have:=PG hcv m _ (hcl m om hom) hmj
    rw[Nat.zero_add] at this
    exact this
  ·subst q2
   injection ht with ht
   exact ht.symm
 ·cases h
theorem Uh:∀(l:List Nat) (j0 K j:Nat),l[j]? =some 3→j0+j < LS j0 l K
 |[],_,_,_,h=>by simp at h
 |k::l,j0,K,j,h=>by
  have mono:∀(l:List Nat) (j0 K:Nat),K≤j0→K≤LS j0 l K:=by
   intro l
   induction l with
   |nil=>intro j0 K _;exact Nat.le_refl _
   |cons k l ih=>
    intro j0 K h
    unfold LS
    split
    ·exact Nat.le_trans (by omega) (ih (j0+1) (j0+1) (Nat.le_refl _))
    ·exact ih (j0+1) K (by omega)
  unfold LS
  cases j with
  |zero=>
   simp at h
   subst h
   rw[if_pos (by rfl)]
   have:=mono l (j0+1) (j0+1) (Nat.le_refl _)
   omega
  |succ j=>
   have:=Uh l (j0+1) (if Nat.beq k 3 then j0+1 else K) j (by simpa using h)
   omega
theorem bW (hm:P.follows .mixedOrders=true)(hcall:∀T,Ca P T call)(hys:CN P T.lp ys){l:Loc}{g:G}{s':RS}(h:Hz qc md P call ys ops pc l g=some s'):
  AP g s'.g∧s'.tmps.n=l.tmps.n∧(Agr T s'.g→An T s'.g→pcv T pc→BJ T g pc→∀id ρ a w Q,Rel T g.n ρ l a w→
   (∀ ρ' a' w',Bq T ρ' ops s' a' w'→AJ T g.n ρ l.mem w ρ' s'.mem w'→Q .normal a' w')→(Code.region id ops true).wpIn (fen r) kk P Q a w):=by
 unfold Hz at h
 simp only at h
 split at h
 ·rename_i hc
  simp only[Bool.and_eq_true] at hc
  obtain⟨⟨_,hfo⟩,hlate⟩:=hc
  simp only[Option.bind_eq_bind,Option.bind_eq_some_iff] at h
  obtain⟨s,hs,m,hfe,h⟩:=h
  split at h
  case isFalse=>cases h
  rename_i hnew
  cases h
  obtain⟨ops0,he0⟩:∃ops0,ops0=(ops.toList.map BM).toArray:=⟨_,rfl⟩
  rw[←he0] at hs
  have hl0:ops0.toList=List.map BM ops.toList:=by rw[he0]
  rw[←hl0] at hlate hnew
  obtain⟨K,hK⟩:∃K,K=LS 0 (ops0.toList.map (loud qc (AM 0 ops0.toList))) 0:=⟨_,rfl⟩
  rw[←hK] at hlate hnew
  obtain⟨S,H,q1,hs'⟩:=Wb (T:=T) hcall hys hs
  subst hs'
  have hsz:ops0.size=ops.size:=by rw[he0];simp
  obtain⟨hid1,hid2⟩:=JZ hfe
  have F:FOk qc K ops ops0 S P:=by
   refine⟨he0,fun i R o hR ho=>Od hfo i R o hR (by simpa using ho),fun j o hKj ho h3=>?_,fun i o t ho ht=>?_,?_,fun i o ho hf=>?_,fun i j oi oj a1 a2 a3 b1 b2 b3 hi hj=>hid2 i j oi oj a1 a2 a3 b1 b2 b3 (by simpa using hi) (by simpa using hj)⟩
   ·have:=Uh (ops0.toList.map (loud qc (AM 0 ops0.toList))) 0 0 j (by rw[List.getElem?_map,show ops0.toList[j]? =some o by simpa using ho];simp[h3])
    omega
   ·have:=List.all_eq_true.1 hlate o (List.mem_of_getElem? (show ops.toList[i]? =some o by simpa using ho))
    unfold fL at this
    rw[ht] at this
    simp only[Bool.or_eq_true] at this
    rcases this with h|h
    ·exact .inl (Nat.eq_of_beq_eq_true h)
    ·right
     cases hm:BD (AM 0 ops.toList) t with
     |none=>rw[hm] at h;cases h
     |some k=>rw[hm] at h;exact⟨k,rfl,Nat.le_of_ble_eq_true h⟩
   ·rw[Bool.or_eq_true] at hnew
    rcases hnew with h|h
    ·exact .inl (Nat.eq_of_beq_eq_true h)
    ·right
     intro i o id off cs ho hf hat
     have:=List.all_eq_true.1 h o (List.mem_of_getElem? (show ops.toList[i]? =some o by simpa using ho))
     unfold new3 at this
     rw[hf] at this
     simp only[Bool.not_true,Bool.false_or] at this
     change (match CK P (S ops0.size).tmps o with|some (id,_,_)=>Nat.ble (C7 l.tmps ops.toList l.mem).length id|none=>false)=true at this
     rw[hat] at this
     rw[q1]
     exact Nat.le_of_ble_eq_true this
   ·obtain⟨id,off,cs,c,e,k1,k2,k3,k4,_⟩:=hid1 i o (by simpa using ho) hf
    exact⟨id,off,cs,c,e,k1,k2,k3,k4⟩
  obtain⟨l1,_,_⟩:=H.later 0 ops0.size (by omega)
  rw[Nat.zero_add] at l1
  have g0:(S 0).g=g:=by rw[q1]
  have m0:(S 0).mem=C7 l.tmps ops.toList l.mem:=by rw[q1]
  have tm0:(S 0).tmps=l.tmps:=by rw[q1]
  refine⟨?_,?_,fun hA hob hpc hpk id ρ a w Q hR hK=>?_⟩
  ·rw[←g0];exact l1.grow
  ·rw[←tm0];exact l1.len
  ·refine wpIn_region_any hm ?_
   obtain⟨wk,wm⟩:=IT (T:=T) (ρ := ρ) (w:=w) l.tmps ops.toList l.mem
   have wst:∀n,AJ T n ρ l.mem w ρ (C7 l.tmps ops.toList l.mem) w:=fun n=>wk.step
   have hst:=AJ.drawn T (S 0).g.n ρ (S 0).mem w (w.drawn+1)
   have hm0:AH T (S 0).g.n ρ (S 0).mem { w with drawn:=w.drawn+1 }:=by rw[g0,m0];exact (wm g.n hR.mem).drawn _
   have hun:∀j,(Array.replicate ops.size false).getD j false=false:=fun j=>by
    rw[Array.getD_eq_getD_getElem?,Array.getElem?_replicate]
    split<;>rfl
   have hT:T.wf (frO qc T ops0 (Array.replicate ops.size false) 0 (fun _=>0))=T:=by
    have e:frO qc T ops0 (Array.replicate ops.size false) 0 (fun _=>0)=T.fr:=by
     funext b off
     apply propext
     constructor
     ·exact fun h=>h.1
     ·exact fun h=>⟨h,fun⟨i,o,ho,_,hl,_,_⟩=>by rw[hun] at hl;cases hl⟩
    rw[e];rfl
   have I0:BA qc P T ops0 S ρ { w with drawn:=w.drawn+1 } (fun _=>0) 0 (Array.replicate ops.size false) ρ a { w with drawn:=w.drawn+1 }:=by
    refine⟨by simp[hsz],fun j o _ hj=>?_,Nat.zero_le _,fun j o hj=>by omega,fun j o _ _=>?_,(by rw[m0];exact (hR.defers.on (wst g.n)).on (AJ.drawn T g.n ρ _ w (w.drawn+1))),by rw[tm0];exact hR.size,by rw[hT];exact hm0,fun t c hc _=>?_,fun i o d c hi=>?_,fun p _ hp=>?_,fun i o _ _ hl=>?_,fun i j oi oj _ _ _ _ hl=>?_,AJ.refl _ _ _ _ _⟩
    ·rw[hun] at hj;cases hj
    ·rw[hun];simp
    ·rw[tm0] at hc
     have:=AB.mono0 (wst g.n) (Nat.le_refl _) _ _ (hR.tmps t c hc)
     rw[hT,g0,m0]
     exact AB.mono0 (by rw[←g0,←m0];exact hst) (Nat.le_refl _) _ _ this
    ·rw[hun] at hi;cases hi
    ·rw[hun] at hp;cases hp
    ·rw[hun] at hl;cases hl
    ·rw[hun] at hl;cases hl
   have hcount:CQ (Array.replicate ops.size false)=ops.size:=by simp[CQ,List.countP_replicate]
   refine eO H F hA hob hpc (by rw[g0];exact hpk) hm0 (fun ρ2 a2 w2 hi2 hs2 hraw=>?_) ops.size _ _ ρ 0 a _ I0 (fun j oj _ _ _ _ _ _ hl=>by rw[hun] at hl;cases hl) hcount
   obtain⟨e1,e2⟩:=JV hfe hi2.rel.mem hi2.rel.tmps fun i o ty ta x hi=>hraw i o ty ta x (by simpa using hi)
   refine hK ρ2 a2 w2 ⟨⟨hi2.rel.defers.on e2,hi2.rel.size,fun t c hc=>AB.mono0 e2 (Nat.le_refl _) _ _ (hi2.rel.tmps t c hc),e1⟩,fun e he=>?_⟩ ?_
   ·have hge:=hi2.ges e he
    refine⟨hge.lt,hge.bool,?_,hge.imp,hge.ne⟩
    rw[←Tm he0]
    exact hge.iff
   ·have s1:AJ T g.n ρ l.mem w ρ (S 0).mem { w with drawn:=w.drawn+1 }:=by
     rw[m0]
     exact (wst g.n).trans hR.mem (Nat.le_refl _) (AJ.drawn T g.n ρ _ w (w.drawn+1))
    have s2:AJ T g.n ρ l.mem w ρ2 (S ops0.size).mem w2:=s1.trans hR.mem (Nat.le_of_eq (by rw[g0])) hs2
    exact s2.trans hR.mem (by rw[←g0];exact l1.grow.n) e2
 ·cases h
end
end Go.Eng
end
noncomputable section
namespace Go.Eng
open Go Go.RowKit
section
variable {P:Program}{F:Fence}{n:Nat}{Q:Exit→Act→World→Prop}{a:Act}{w:World}
theorem EV {b:Frame}{k:List Item}{cs:List Frame}{c:Code}:step P (lone (b.atR a (.code (.scope c)::k)) cs w)= .next (lone (b.atR a (.code c:: .inScope c::k)) cs w):=
 step_lone_go (by simp[stepG,stepG.exec,Frame.atR])
theorem Sp {b:Frame}{k:List Item}{cs:List Frame}{c:Code}:step P (lone (b.atR a (.inScope c::k)) cs w)= .next (lone (b.atR a k) cs w):=
 step_lone_go (by simp[stepG,stepG.exec,Frame.atR])
theorem Yo {c:Code}(h:c.wpIn F n P (Exit.noGoto Q) a w):(Code.scope c).wpIn F n P Q a w:=by
 intro b k cs hro hb hr
 have h0:(lone (b.atR a (.code (.scope c)::k)) cs w).fenced P F:=fenced_calm hb hr rfl
 obtain⟨e,a₁,w₁,hq,harr⟩:=h b (.inScope c::k) cs hro hb hr
 cases e with
 |normal=>exact⟨.normal,a₁,w₁,hq,.head h0 EV (StepsIn.trans harr (.one (fenced_calm hb hr rfl) Sp))⟩
 |exit id=>
  have hx:exitTo id (.inScope c::k)=exitTo id k:=by simp[exitTo]
  exact⟨.exit id,a₁,w₁,hq,fun k' hk=> .head h0 EV (harr.1 k' (by rw[hx];exact hk)),
   fun hr' hk=>let⟨k₁,h1,h2⟩:=harr.2 hr' (by rw[hx];exact hk);⟨k₁,h1,.head h0 EV h2⟩⟩
 |goto l=>exact hq.elim
 |ret=>exact⟨_,a₁,w₁,hq,.of_steps (.one h0 EV) harr⟩
 |panic ch=>exact⟨_,a₁,w₁,hq,.of_steps (.one h0 EV) harr⟩
 |outgrown=>exact⟨_,a₁,w₁,hq,.of_steps (.one h0 EV) harr⟩
end
end Go.Eng
end
noncomputable section
namespace Go.Eng
open Go Go.RowKit
section
variable {P:Program}{call:A8}
theorem b8 {T:Tab}(h:Option (Tmp × Int × Int))(pc:PC)(t:AQ)(g:G):AP g (CZ h pc t g).2∧(CZ h pc t g).2.n=g.n∧(CZ h pc t g).1.n=t.n∧
  (An T (CZ h pc t g).2→pcv T pc→∀n ρ m a w,Rel T n ρ ⟨t,m⟩ a w→Rel T n ρ ⟨(CZ h pc t g).1,m⟩ a w):=by
 unfold CZ
 split
 ·exact⟨AP.refl _,rfl,rfl,fun _ _ _ _ _ _ _ h=>h⟩
 ·rename_i i lo hi
  split
  ·rename_i k lo0 hi0 x hx
   dsimp only
   refine⟨AP.need _ _ _,(DT _ _ _).1,AQ.set_n _ _ _,fun hob hpc n ρ m a w hR=>?_⟩
   have hb:=An.need hob hpc _ (List.mem_singleton.2 rfl)
   refine⟨hR.defers,by rw[hR.size];exact (AQ.set_n _ _ _).symm,fun j c hc=>?_,hR.mem⟩
   rcases AQ.get_set _ _ _ _ hc with⟨rfl,_,rfl⟩|⟨_,h2⟩
   ·obtain⟨q0,z,q1,q2,_⟩:=hR.tmps _ _ hx
    have q3:T.get x= .int z:=q1
    simp only[Pr.holds,D8,List.map_cons,List.map_nil,u0,Rf.eval,q3,U.toI] at hb
    exact⟨q0,z,q1,q2,hb.1,hb.2⟩
   ·exact hR.tmps j c h2
  ·dsimp only
   exact⟨AP.refl _,rfl,rfl,fun _ _ _ _ _ _ _ h=>h⟩
theorem Uk {k:XK}:∀{l:List Ar},noK k l=true→GC k l=none
 |[],_=>rfl
 |o::l,h=>by
  simp only[noK,List.all_cons,Bool.and_eq_true,Bool.not_eq_true',decide_eq_false_iff_not] at h
  unfold GC
  rw[if_neg h.1,Uk (l:=l) h.2]
  rfl
theorem IW (hm:P.follows .mixedOrders=true)(hcall:∀T,Ca P T call)(hint:G4):∀(fuel:Nat) (inR:Bool) (ys:Ys) (T:Tab) (r:Option Nat) (kk blk:Nat) (c:Code),(inR=false→r=none)→CN P T.lp ys→
  B9 T (NS P r kk (hint.plan blk).isSome fuel c) (Bu P call hint inR ys fuel blk c)
 |0,_,_,_,_,_,_,_,_,_=>fun pc l g outs g' h=>by simp only[Bu] at h;cases h
 |fuel+1,inR,ys,T,r,kk,blk,c,hr,hys=>by
  have ih0:∀(T':Tab),T'.lp=T.lp→∀blk c,PQ P T' r kk c (Bu P call hint inR ys fuel blk c):=fun T' hT' blk c=>(IW hm hcall hint fuel inR ys T' r kk blk c hr (by rw[hT'];exact hys)).mono fun Q a w h=>OK h
  have ih:∀blk c,PQ P T r kk c (Bu P call hint inR ys fuel blk c):=fun blk c=>ih0 T rfl blk c
  have plain:∀{c:Code} {run:PC→Loc→G→Option (List Ar × G)},(∀b,c≠ .loop b)→PQ P T r kk c run→B9 T (NS P r kk (hint.plan blk).isSome (fuel+1) c) run:=fun hc h=>h.mono fun Q a w hh=>Xz (fun b e=>absurd e (hc b)) hh
  cases c with
  |skip=>exact plain (fun _ h=>by cases h) (QS .normal fun Q a w h=>wpIn_skip h)
  |label l=>exact plain (fun _ h=>by cases h) (QS .normal fun Q a w h=>wpIn_label h)
  |exit id=>exact plain (fun _ h=>by cases h) (QS (.exit id) fun Q a w h=>wpIn_exit h)
  |ret=>exact plain (fun _ h=>by cases h) (QS .ret fun Q a w h=>wpIn_ret h)
  |seq x y=>exact plain (fun _ h=>by cases h) ((Ok (ih blk x) (ih blk y)).mono fun Q a w h=>wpIn_seq h)
  |loop b=>
   cases hp:hint.plan blk with
   |some p=>
    have h2:B9 T (NS P r kk false fuel (.loop b)) (fun _ _ _=>none):=fun pc l g outs g' h=>by cases h
    have h3:=(Ok (ih blk b) h2).mono (K2:=NS P r kk false (fuel+1) (.loop b)) fun Q a w h=>h
    have h4:=h3.mono (K2:=NS P r kk true (fuel+1) (.loop b)) fun Q a w h=>Xz (fun _ _=>rfl) (OK h)
    intro pc l g outs g' h
    simp only[Bu,hp] at h
    split at h
    ·rename_i r1 ho
     cases h
     unfold fF at ho
     split at ho
     ·rename_i outs1 g1 hb
      split at ho
      ·rename_i hn
       cases ho
       refine h4 pc l g outs g' ?_
       simp only[hb,Option.bind_eq_bind,Option.bind_some]
       unfold P5
       rw[Uk hn]
      ·cases ho
     ·cases ho
    ·exact bT (r:=r) (kk:=kk) (c:=b) (fun T' hT'=>ih0 T' hT' blk b) p pc l g outs g' h
   |none=>
    have h2:=IW hm hcall hint fuel inR ys T r kk blk (.loop b) hr hys
    rw[hp] at h2
    have:=(Ok (ih blk b) h2).mono (K2:=NS P r kk false (fuel+1) (.loop b)) fun Q a w h=>h
    intro pc l g outs g' h
    simp only[Bu,hp] at h
    exact this pc l g outs g' h
  |block id b=>
   refine plain (fun _ h=>by cases h) ?_
   have:=(cH (id:=id) (ih id b)).mono (K2:=fun Q a w=>(Code.block id b).wpIn (fen r) kk P Q a w) fun Q a w h=>wpIn_block h
   intro pc l g outs g' h
   simp only[Bu] at h
   exact this pc l g outs g' h
  |scope b=>
   refine plain (fun _ h=>by cases h) ?_
   intro pc l g outs g' h
   simp only[Bu] at h
   obtain⟨g1,g2⟩:=ih blk b pc l g outs g' h
   refine⟨g1,fun hA hp=>?_⟩
   obtain⟨h3,h4,h5⟩:=g2 hA hp
   refine⟨h3,h4,fun ho hpc ρ a w Q hR hO=>Yo (h5 ho hpc ρ a w _ hR fun o hm h1 ρ' a' w' h2 h6=>?_)⟩
   have:=hO o hm h1 ρ' a' w' h2 h6
   cases hk:o.k<;>(rw[hk] at this;exact this)
  |region id ops draw=>
   refine plain (fun _ h=>by cases h) ?_
   intro pc l g outs g' h
   simp only[Bu,Option.bind_eq_bind,Option.bind_eq_some_iff] at h
   obtain⟨s,hs,h⟩:=h
   cases h
   unfold W6 at hs
   have fin:AP g s.g→s.tmps.n=l.tmps.n→(Agr T s.g→An T s.g→pcv T pc→BJ T g pc→∀ ρ a w Q,Rel T g.n ρ l a w→
     (∀ ρ' a' w',Bq T ρ' ops s a' w'→AJ T g.n ρ l.mem w ρ' s.mem w'→Q .normal a' w')→(Code.region id ops draw).wpIn (fen r) kk P Q a w)→
     AP g (CZ (hint.nar id) pc s.tmps s.g).2∧(Agr T (CZ (hint.nar id) pc s.tmps s.g).2→B7 g pc→Ct T (CZ (hint.nar id) pc s.tmps s.g).2 l.tmps.n [⟨.normal,pc,⟨(CZ (hint.nar id) pc s.tmps s.g).1.commit hint.keep,s.mem⟩⟩]∧(∀o∈([⟨.normal,pc,⟨(CZ (hint.nar id) pc s.tmps s.g).1.commit hint.keep,s.mem⟩⟩]:List Ar),pcv T o.pc→pcv T pc)∧
      (An T (CZ (hint.nar id) pc s.tmps s.g).2→pcv T pc→∀ ρ a w Q,Rel T g.n ρ l a w→RV T g.n ρ l.mem w (CZ (hint.nar id) pc s.tmps s.g).2.n [⟨.normal,pc,⟨(CZ (hint.nar id) pc s.tmps s.g).1.commit hint.keep,s.mem⟩⟩] Q→(Code.region id ops draw).wpIn (fen r) kk P Q a w)):=by
    intro gr hlen k
    obtain⟨n1,n2,n3,n4⟩:=b8 (T:=T) (hint.nar id) pc s.tmps s.g
    refine⟨gr.trans n1,fun hA hp=>?_⟩
    obtain⟨h1,h2⟩:=Ct.one (T:=T) (k:= .normal) (l:=⟨(CZ (hint.nar id) pc s.tmps s.g).1.commit hint.keep,s.mem⟩) (N:=l.tmps.n) (hp.grow (gr.trans n1)) (by rw[AQ.commit_n];exact n3.trans hlen)
    refine⟨h1,h2,fun hob hpc ρ a w Q hR hO=>?_⟩
    refine k (hA.of n1) (hob.of n1) hpc (hp.ok hpc) ρ a w Q hR fun ρ' a' w' hi hst=>hO _ (List.mem_singleton.2 rfl) hpc ρ' a' w' hst (Rel.less (l:=⟨(CZ (hint.nar id) pc s.tmps s.g).1,s.mem⟩) (n4 hob hpc _ _ _ _ _ ?_) (AQ.commit_n _ _) fun i c hc=>AQ.get_commit _ _ _ hc)
    rw[n2];exact hi.rel
   cases draw with
   |true=>
    rw[if_pos rfl] at hs
    have hs':S7 P call ys ops pc l g=some s∨(∃qc md,FB qc md [] P call ys ops pc l g=some s)∨∃qc md,Hz qc md P call ys ops pc l g=some s:=by
     split at hs
     ·rename_i s1 h1;injection hs with hs;subst hs;exact .inl h1
     ·right
      have key:∀ns:List Nat,PV P call ys ops pc l g ns=some s→(∃qc md,FB qc md [] P call ys ops pc l g=some s)∨∃qc md,Hz qc md P call ys ops pc l g=some s:=by
       intro ns
       induction ns with
       |nil=>intro h;cases h
       |cons n ns ih=>
        intro h
        unfold PV at h
        split at h
        ·rename_i s1 h1
         injection h with h
         subst h
         split at h1<;>first|exact .inl ⟨_,_,h1⟩|exact .inr ⟨_,_,h1⟩
        ·exact ih h
      exact key _ hs
    have hk:AP g s.g∧s.tmps.n=l.tmps.n∧(Agr T s.g→An T s.g→pcv T pc→BJ T g pc→∀id ρ a w Q,Rel T g.n ρ l a w→
      (∀ ρ' a' w',Bq T ρ' ops s a' w'→AJ T g.n ρ l.mem w ρ' s.mem w'→Q .normal a' w')→(Code.region id ops true).wpIn (fen r) kk P Q a w):=by
     rcases hs' with hs|⟨qc,md,hs⟩|⟨qc,md,hs⟩
     ·exact df (T:=T) (r:=r) (kk:=kk) hm (hcall T) hys hs
     ·exact cI (T:=T) (r:=r) (kk:=kk) hm hcall hys hs
     ·exact bW (T:=T) (r:=r) (kk:=kk) hm hcall hys hs
    obtain⟨gr,hlen,k⟩:=hk
    exact fin gr hlen fun hA hob hpc hpk ρ a w Q hR hK=>k hA hob hpc hpk id ρ a w Q hR hK
   |false=>
    rw[if_neg (by simp)] at hs
    obtain⟨gr,k⟩:=KT (T:=T) (r:=r) (kk:=kk) (hcall T) hys hs
    refine fin gr (Tf hs) fun hA hob hpc hpk ρ a w Q hR hK=>?_
    refine wpIn_region ?_
    rw[List.range_eq_range',←Array.length_toList]
    exact k hA hob hpc hpk 0 ρ a w Q (fun j=>by simp) ⟨hR,fun e he=>by cases he⟩ fun ρ' a' w' hi hst=>hK ρ' a' w' hi hst
  |cond c x y=>
   refine plain (fun _ h=>by cases h) ?_
   intro pc l g outs g' h
   simp only[Bu] at h
   have hev:∀{ρ a w},Rel T g.n ρ l a w→AB T g.n ρ l.mem w (HJ [] l.tmps c) (a.eval c):=fun hR=>GK hR (fun c hc=>by cases hc) c
   have two:∀{e:Nat} {x y:Code} {pol:Bool},PP (Bu P call hint inR ys fuel blk) e x y pc l g=some (outs,g')→
     (∀ ρ a w,Rel T g.n ρ l a w→∃t,T e= .bool t∧a.eval c= .bool (t==pol))→∀(X Y:Code),(pol=true→X=x∧Y=y)→(pol=false→X=y∧Y=x)→
     AP g g'∧(Agr T g'→B7 g pc→Ct T g' l.tmps.n outs∧(∀o∈outs,pcv T o.pc→pcv T pc)∧(An T g'→pcv T pc→∀ ρ a w Q,Rel T g.n ρ l a w→RV T g.n ρ l.mem w g'.n outs Q→(Code.cond c X Y).wpIn (fen r) kk P Q a w)):=by
    intro e x y pol h hval X Y h1 h2
    obtain⟨gr,k⟩:=cz (ih blk x) (ih blk y) pc l g outs g' h
    refine⟨gr,fun hA hp=>?_⟩
    obtain⟨q1,q2,q3⟩:=k hA hp
    refine⟨q1,q2,fun hob hpc ρ a w Q hR hO=>?_⟩
    obtain⟨t,e1,e2⟩:=hval ρ a w hR
    obtain⟨k1,k2⟩:=q3 hob hpc ρ a w Q hR hO
    rw[e1] at k1 k2
    refine wpIn_cond e2 ?_
    cases pol with
    |true=>
     obtain⟨rfl,rfl⟩:=h1 rfl
     cases t with
     |true=>exact k1 rfl
     |false=>exact k2 rfl
    |false=>
     obtain⟨rfl,rfl⟩:=h2 rfl
     cases t with
     |true=>exact k1 rfl
     |false=>exact k2 rfl
   split at h
   ·rename_i t ht
    obtain⟨gr,k⟩:=ih blk _ pc l g outs g' h
    refine⟨gr,fun hA hp=>?_⟩
    obtain⟨q1,q2,q3⟩:=k hA hp
    refine⟨q1,q2,fun hob hpc ρ a w Q hR hO=>?_⟩
    have:=hev hR
    rw[ht] at this
    exact wpIn_cond (t:=t) this (by cases t<;>exact q3 hob hpc ρ a w Q hR hO)
   ·rename_i e ht
    refine two (pol:=true) h (fun ρ a w hR=>?_) x y (fun _=>⟨rfl,rfl⟩) (fun h=>by cases h)
    have:=hev hR
    rw[ht] at this
    obtain⟨_,t,h1,h2⟩:=this
    exact⟨t,h1,by rw[h2];cases t<;>rfl⟩
   ·rename_i e ht
    refine two (pol:=false) h (fun ρ a w hR=>?_) x y (fun h=>by cases h) (fun _=>⟨rfl,rfl⟩)
    have:=hev hR
    rw[ht] at this
    obtain⟨_,t,h1,h2⟩:=this
    exact⟨t,h1,by rw[h2];cases t<;>rfl⟩
   ·cases h
  |rangeFunc f ps assign body=>
   refine plain (fun _ h=>by cases h) ?_
   intro pc l g outs g' h
   simp only[Bu] at h
   cases inR with
   |true=>simp at h
   |false=>
    have hr0:=hr rfl
    subst hr0
    simp only[Bool.false_eq_true,if_false] at h
    exact Zv (kk:=kk) hcall hys (rec:=Bu P call hint true ys fuel blk) (fun T' hT' b kk c=>(IW hm hcall hint fuel true ys T' (some b) kk blk c (fun h=>by cases h) hT').mono fun Q a w h=>OK h) f ps assign body pc l g outs g' h
  |_=>intro pc l g outs g' h;simp only[Bu] at h;cases h
theorem VB (hm:P.follows .mixedOrders=true)(hcall:∀T,Ca P T call)(hint:G4)(fuel:Nat)(ys:Ys)(T:Tab)(kk:Nat)(c:Code)(hys:CN P T.lp ys):PQ P T none kk c (Bu P call hint false ys fuel 0 c):=
 (IW hm hcall hint fuel false ys T none kk 0 c (fun _=>rfl) hys).mono fun _ _ _ h=>OK h
end
end Go.Eng
end
noncomputable section
namespace Go.Eng
open Go Go.RowKit
section
variable {P:Program}{T:Tab}{g:G}{n:Nat}{ρ :Nat→Option Nat}{w:World}{a:Act}
theorem Mc {α β:Type}(f:α→Sem β)(r:α→β)(w:World):∀(l:List α),(∀x∈l,(f x).run P w= .ok (r x) w)→(l.mapM f).run P w= .ok (l.map r) w
 |[],_=>by simp
 |x::l,h=>by
  have h1:=h x (List.mem_cons_self ..)
  have h2:=Mc f r w l (fun y hy=>h y (List.mem_cons_of_mem _ hy))
  simp[List.mapM_cons,h1,h2]
theorem dh {t:TypeId}{v u:Value}(h:(Instr.loadAt t v).run P w= .ok u w):(do loadVar t (←asAddr v):Sem Value).run P w= .ok u w:=by
 unfold Instr.loadAt at h
 cases v with
 |pointer p=>
  cases p with
  |some q=>simpa [Instr.sureAddr,asAddr] using h
  |none=>simp[Instr.sureAddr] at h
 |_=>simp[Instr.sureAddr] at h
def LJ (tmps:Array Value):ResultVar→Sem Value
 | .tmp t=>pure (tmps.getD t undef)
 | .cell a t=>do loadVar t (←asAddr (tmps.getD a undef))
theorem ZU {l:Loc}(hA:Agr T g)(hR:Rel T g.n ρ l a w){x:ResultVar}{c:AC}{us:List Ex}(h:Iz P l g x=some (c,us)):
  ∃v,(LJ a.tmps x).run P w= .ok v w∧AB T g.n ρ l.mem w c v:=by
 cases x with
 |tmp t=>
  simp only[Iz,Option.some.injEq,Prod.mk.injEq] at h
  obtain⟨rfl,rfl⟩:=h
  exact⟨_,rfl,hR.at t⟩
 |cell p t=>
  simp only[Iz,Option.bind_eq_some_iff] at h
  obtain⟨r,hr,h⟩:=h
  split at h
  ·rename_i hps hus
   cases h
   obtain⟨u,h1,h2,h3⟩:=Lr hr (by rw[hus];exact New.nil _ _) hR.mem (hR.at p)
   rw[hus] at h3
   exact⟨u,dh h1,h3⟩
  ·cases h
theorem V9 {l:Loc}{fn:Func}(hA:Agr T g)(hR:Rel T g.n ρ l a w){c:AC}(h:Oj P fn l g=some c):∃v,(results fn a.tmps).run P w= .ok v w∧AB T g.n ρ l.mem w c v:=by
 unfold Oj at h
 simp only[Option.bind_eq_bind,Option.bind_eq_some_iff] at h
 obtain⟨rs,hrs,h⟩:=h
 obtain⟨hlen,hget⟩:=ED _ _ _ hrs
 have each:∀x∈fn.results.toList,∃v,(LJ a.tmps x).run P w= .ok v w∧∀c us,Iz P l g x=some (c,us)→AB T g.n ρ l.mem w c v:=by
  intro x hx
  obtain⟨i,hi⟩:=List.mem_iff_getElem?.1 hx
  have h1:=hget i x hi
  have:i < rs.length:=by rw[hlen];exact (List.getElem?_eq_some_iff.1 hi).1
  rw[List.getElem?_eq_getElem this] at h1
  obtain⟨v,h2,h3⟩:=ZU (c:=rs[i].1) (us:=rs[i].2) hA hR h1.symm
  refine⟨v,h2,fun c us hc=>?_⟩
  have e2:rs[i]=(c,us):=by
   have:=h1.trans hc
   injection this
  rw[e2] at h3
  exact h3
 have pick:∃f:ResultVar→Value,∀x∈fn.results.toList,(LJ a.tmps x).run P w= .ok (f x) w∧∀c us,Iz P l g x=some (c,us)→AB T g.n ρ l.mem w c (f x):=by
  classical
  refine⟨fun x=>if hx:x∈fn.results.toList then (each x hx).choose else undef,fun x hx=>?_⟩
  simp only[hx,dif_pos]
  exact (each x hx).choose_spec
 obtain⟨f,hf⟩:=pick
 have hrun:=Mc (P:=P) (LJ a.tmps) f w fn.results.toList (fun x hx=>(hf x hx).1)
 have hval:AD T g.n ρ l.mem w (rs.map (·.1)) (fn.results.toList.map f):=by
  refine AD.of_get (by simp[hlen]) fun i c u hc hu=>?_
  simp only[List.getElem?_map,Option.map_eq_some_iff] at hc hu
  obtain⟨⟨c',us⟩,hc1,rfl⟩:=hc
  obtain⟨x,hx1,rfl⟩:=hu
  have h1:=hget i x hx1
  rw[hc1] at h1
  exact (hf x (List.mem_iff_getElem?.2 ⟨i,hx1⟩)).2 c' us h1.symm
 have hres:(results fn a.tmps).run P w= .ok (if h:(fn.results.toList.map f).toArray.size=1 then (fn.results.toList.map f).toArray[0] else .tuple (fn.results.toList.map f).toArray) w:=by
  have e:(fn.results.mapM (LJ a.tmps)).run P w= .ok (fn.results.toList.map f).toArray w:=by
   rw[Array.mapM_eq_mapM_toList]
   simp[hrun]
  have h0:results fn a.tmps=(do let vs←fn.results.mapM (LJ a.tmps);pure (if h:vs.size=1 then vs[0] else .tuple vs)):=rfl
  rw[h0,Sem.run_bind]
  rw[e]
  simp
 refine⟨_,hres,?_⟩
 split at h
 ·rename_i c0 us0
  cases h
  obtain⟨u,us,e1,e2,e3⟩:=hval
  rw[show us=[] from e3] at e1
  simp only[e1]
  exact e2
 ·rename_i hne
  cases h
  have hsz:(fn.results.toList.map f).toArray.size≠1:=by
   have:=hval.length
   simp at this⊢
   intro h1
   rw[h1] at this
   cases rs with
   |nil=>simp at this
   |cons r rs=>
    cases rs with
    |nil=>exact hne _ _ rfl
    |cons=>simp at this
  rw[dif_neg hsz]
  exact⟨_,rfl,hval⟩
theorem ah {D:Nat}{o:Obj}{ds:Option (List Deferred)}(h:w.heap[D]? =some (.deferred ds))(ho:∀vs e fr,o≠ .cells vs e fr){b off:Nat}{v:Value}(hc:w.cell? ⟨b,off,none⟩=some v):(w.putObj D o).cell? ⟨b,off,none⟩=some v:=by
 have hne:b≠D:=fun e=>by
  subst e
  simp[World.cell?,h] at hc
 rw[←hc]
 exact Bg (World.putObj_heap_other hne) off
mutual
theorem AR.put {D:Nat}{o:Obj}{ds:Option (List Deferred)}(h:w.heap[D]? =some (.deferred ds))(ho:∀vs e fr,o≠ .cells vs e fr){ok ok':Nat→Nat→Prop}(hok:∀b off,ok b off→ok' b off):∀(k:Kd) (u:U) (v:Value),AR ok w k u v→AR ok' (w.putObj D o) k u v
 | .int _ _ _,_,_,hh=>hh
 | .bool,_,_,hh=>hh
 | .str,_,_,hh=>hh
 | .val,_,_,hh=>hh
 | .any,_,_,hh=>hh
 | .list ks,u,v,⟨l,h0,h1,h2,a,cap,h3,h4,h5⟩=>by
  refine⟨l,h0,h1,h2,a,cap,h3,h4,fun hl=>?_⟩
  obtain⟨b,o',hb,hc⟩:=h5 hl
  exact⟨b,o',hb,fun i us hi=>AW.put h ho hok ks b _ us (hc i us hi)⟩
theorem AW.put {D:Nat}{o:Obj}{ds:Option (List Deferred)}(h:w.heap[D]? =some (.deferred ds))(ho:∀vs e fr,o≠ .cells vs e fr){ok ok':Nat→Nat→Prop}(hok:∀b off,ok b off→ok' b off):∀(ks:List Kd) (b off:Nat) (us:List U),AW ok w ks b off us→AW ok' (w.putObj D o) ks b off us
 |[],_,_,_,hh=>hh
 |k::ks,b,off,us,⟨u,us',e,⟨h1,v,h2,h3⟩,h4⟩=>
  ⟨u,us',e,⟨hok b off h1,v,ah h ho h2,AR.put h ho hok k u v h3⟩,AW.put h ho hok ks b _ us' h4⟩
end
section
variable {m:Mem}{D:Nat}{ds:Option (List Deferred)}{o:Obj}
theorem Ai.put {b off:Nat}(h:Ai T ρ m w b off):Ai T ρ m (w.putObj D o) b off:=⟨by rw[World.putObj_size];exact h.1,h.2.1,h.2.2⟩
mutual
theorem AB.put (h:w.heap[D]? =some (.deferred ds))(ho:∀vs e fr,o≠ .cells vs e fr):∀(c:AC) (v:Value),AB T n ρ m w c v→AB T n ρ m (w.putObj D o) c v
 | .any,_,_=>trivial
 | .anyc,_,hh=>hh
 | .on _ a,v,hh=>⟨hh.1,fun hc=>AB.put h ho a v (hh.2 hc)⟩
 | .gd _ a,v,hh=>⟨hh.1,fun hc=>AB.put h ho a v (hh.2.1 hc),hh.2.2⟩
 | .cb _,_,hh=>hh
 | .b _,_,hh=>hh
 | .nb _,_,hh=>hh
 | .ci _ _,_,hh=>hh
 | .i _ _ _ _,_,hh=>hh
 | .cv _,_,hh=>hh
 | .v _,_,hh=>hh
 | .s _,_,hh=>hh
 | .ptr _ _,_,hh=>hh
 | .pix _ _ _ _ _ _,_,hh=>hh
 | .ro x ks,v,⟨h0,h1⟩=>⟨h0,AR.put h ho (fun _ _ hs=>Ai.put hs) _ _ _ h1⟩
 | .rp x t off ks,v,⟨h0,j,b,o',us,h1,h2,h3,h4,h5⟩=>⟨h0,j,b,o',us,h1,h2,h3,h4,AW.put h ho (fun _ _ hs=>Ai.put hs) _ _ _ _ h5⟩
 | .vec id x ks,v,⟨h0,h1,h2,h3⟩=>⟨h0,h1,AR.put h ho (fun _ _ hs=>Ai.put hs) _ _ _ h2,fun ks' e he=>by
   rcases h3 ks' e he with⟨l1,l2⟩|⟨b,cap,vs,l1,l2,l3,l4⟩
   ·exact .inl ⟨l1,l2⟩
   ·have hne:b≠D:=fun e=>by subst e;rw[h] at l3;cases l3
    exact .inr ⟨b,cap,vs,l1,l2,by rw[World.putObj_heap_other hne];exact l3,l4⟩⟩
 | .fn f first cap,v,⟨vs,us,h1,h2,h3⟩=>⟨vs,us,h1,AD.put h ho first vs h2,AD.put h ho cap us h3⟩
 | .sel x alts,v,⟨h0,j,h1,h2,h3⟩=>⟨h0,j,h1,h2,Ah.put h ho alts j.toNat v h3⟩
 | .yl _,_,hh=>hh
 | .asl _ _ _,_,hh=>hh
 | .rsv id x ks,v,⟨h0,h1,h2,h4,h3⟩=>⟨h0,h1,h2,h4,fun ks' e he=>by
   rcases h3 ks' e he with⟨l1,l2⟩|⟨b,len,cap,vs,l1,l2,l0,l3,l4⟩
   ·exact .inl ⟨l1,l2⟩
   ·have hne:b≠D:=fun e=>by subst e;rw[h] at l3;cases l3
    exact .inr ⟨b,len,cap,vs,l1,l2,l0,by rw[World.putObj_heap_other hne];exact l3,l4⟩⟩
 | .agg l,v,⟨vs,h1,h2⟩=>⟨vs,h1,AD.put h ho l vs h2⟩
 | .tup l,v,⟨vs,h1,h2⟩=>⟨vs,h1,AD.put h ho l vs h2⟩
theorem AD.put (h:w.heap[D]? =some (.deferred ds))(ho:∀vs e fr,o≠ .cells vs e fr):∀(l:List AC) (vs:List Value),AD T n ρ m w l vs→AD T n ρ m (w.putObj D o) l vs
 |[],_,hh=>hh
 |c::l,vs,⟨u,us,h1,h2,h3⟩=>⟨u,us,h1,AB.put h ho c u h2,AD.put h ho l us h3⟩
theorem Ah.put (h:w.heap[D]? =some (.deferred ds))(ho:∀vs e fr,o≠ .cells vs e fr):∀(l:List AC) (j:Nat) (v:Value),Ah T n ρ m w l j v→Ah T n ρ m (w.putObj D o) l j v
 |[],_,_,hh=>hh.elim
 |c::_,0,v,hh=>AB.put h ho c v hh
 |_::l,j+1,v,hh=>Ah.put h ho l j v hh
end
theorem AH.put (h:w.heap[D]? =some (.deferred ds))(ho:∀vs e fr,o≠ .cells vs e fr)(hm:AH T n ρ m w):AH T n ρ m (w.putObj D o):=by
 refine⟨fun id=>?_,hm.inj,fun b off hb=>hm.fr b off (by rw[World.putObj_size] at hb;exact hb)⟩
 have hb:=hm.blk id
 cases hx:m.at id with
 |pad=>trivial
 |gone=>trivial
 |cells l e=>
  rw[hx] at hb
  obtain⟨b,vs,h1,h2,h3⟩:=hb
  have hne:b≠D:=fun e=>by subst e;rw[h] at h2;cases h2
  exact⟨b,vs,h1,by rw[World.putObj_heap_other hne];exact h2,AD.put h ho l vs h3⟩
 |tok x ks e=>
  rw[hx] at hb
  obtain⟨h0,l,h1,h2⟩:=hb
  refine⟨h0,l,h1,?_⟩
  rcases h2 with h2|⟨b,vs,h2,h3,h4⟩
  ·exact .inl h2
  ·have hne:b≠D:=fun e=>by subst e;rw[h] at h3;cases h3
   exact .inr ⟨b,vs,h2,by rw[World.putObj_heap_other hne];exact h3,h4⟩
 |lp s st=>
  rw[hx] at hb
  obtain⟨b,q,h1,h2,h3,h4,h5,h6,h7,j,h8,h9⟩:=hb
  have hne:b≠D:=fun e=>by subst e;rw[h] at h2;cases h2
  exact⟨b,q,h1,by rw[World.putObj_heap_other hne];exact h2,h3,h4,h5,h6,fun i c hc=>AB.put h ho c _ (h7 i c hc),j,AB.put h ho st _ h8,h9⟩
structure FE (T:Tab) (n:Nat) (ρ :Nat→Option Nat) (m:Mem) (B:Nat) (w w':World):Prop where
 os:w'.os=w.os
 tape:w'.tape=w.tape
 output:w'.output=w.output
 size:w'.heap.size=w.heap.size
 low:∀k,k < B→w'.heap[k]? =w.heap[k]?
 holds:∀c v,AB T n ρ m w c v→AB T n ρ m w' c v
 mem:AH T n ρ m w→AH T n ρ m w'
theorem FE.refl (T:Tab)(n:Nat)(ρ :Nat→Option Nat)(m:Mem)(B:Nat)(w:World):FE T n ρ m B w w:=⟨rfl,rfl,rfl,rfl,fun _ _=>rfl,fun _ _ h=>h,fun h=>h⟩
theorem FE.trans {B:Nat}{w' w'':World}(h:FE T n ρ m B w w')(k:FE T n ρ m B w' w''):FE T n ρ m B w w'':=
 ⟨k.os.trans h.os,k.tape.trans h.tape,k.output.trans h.output,k.size.trans h.size,fun i hi=>(k.low i hi).trans (h.low i hi),fun c v hh=>k.holds c v (h.holds c v hh),fun hh=>k.mem (h.mem hh)⟩
theorem FE.put {B:Nat}(h:w.heap[D]? =some (.deferred ds))(hB:B≤D)(ho:∀vs e fr,o≠ .cells vs e fr):FE T n ρ m B w (w.putObj D o):=
 ⟨rfl,rfl,rfl,World.putObj_size,fun k hk=>World.putObj_heap_other (by omega),fun c v hh=>AB.put h ho c v hh,fun hh=>hh.put h ho⟩
theorem AJ.after {n0:Nat}{ρ0:Nat→Option Nat}{m0:Mem}{w0 w':World}(h:AJ T n0 ρ0 m0 w0 ρ m w)(hm:AH T n0 ρ0 m0 w0)(k:FE T n ρ m w0.heap.size w w'):AJ T n0 ρ0 m0 w0 ρ m w' where
 os:=k.os.trans h.os
 tape:=k.tape.trans h.tape
 output:=k.output.trans h.output
 size:=by rw[k.size];exact h.size
 mlen:=h.mlen
 rho:=h.rho
 untr:=h.untr
 fresh:=h.fresh
 old:=fun i hi hno=>(k.low i hi).trans (h.old i hi hno)
 tok:=fun id x ks e hx=>by
  have lt:∀b, ρ0 id=some b→b < w0.heap.size:=fun b hb=>hm.lt (by rw[hx];rfl) hb
  rcases h.tok id x ks e hx with⟨h1,h2,h3⟩|⟨h1,h2⟩
  ·exact .inl ⟨h1,h2,fun b hb=>(k.low b (lt b hb)).trans (h3 b hb)⟩
  ·exact .inr ⟨fun b hb off ho=>(Bg (k.low b (lt b hb)) off).trans (h1 b hb off ho),h2⟩
theorem OO {fn:Func}{tmps:Array Value}{R:Ending→World→Prop}{kk B:Nat}:∀(Ds:List Nat) (w:World),Ds.Nodup→(∀D∈Ds,B≤D∧w.heap[D]? =some (.deferred (some [])))→
  (∀w',FE T n ρ m B w w'→∃v,(results fn tmps).run P w'= .ok v w'∧R (.returned v) w')→
  LeavesInM (fen none) kk P fn tmps R (Ds.map fun D=>{ target:= .collected D,args:= #[] }) .returning w
 |[],w,_,_,hK=>hK w (FE.refl _ _ _ _ _ _)
 |D::Ds,w,hn,hD,hK=>by
  obtain⟨h1,h2⟩:=hD D (List.mem_cons_self ..)
  have hput:FE T n ρ m B w (w.putObj D (.deferred none)):=FE.put h2 h1 (fun _ _ _ h=>by cases h)
  refine⟨fun h=>(by cases h),.inl ⟨D,_,rfl,run_takeDeferred h2,?_⟩⟩
  refine OO Ds _ (List.nodup_cons.1 hn).2 (fun D' hD'=>?_) fun w' hw'=>hK w' (hput.trans hw')
  obtain⟨k1,k2⟩:=hD D' (List.mem_cons_of_mem _ hD')
  refine⟨k1,?_⟩
  rw[World.putObj_heap_other (fun e=>(List.nodup_cons.1 hn).1 (by rw[←e];exact hD'))]
  exact k2
end
theorem R4:∀(args:List AC) (i:Nat) (t:Tr) (j:Nat) (c:AC),(OJ i args t).get j=some c→(∃k,j=i+k∧args[k]? =some c)∨t.get j=some c
 |[],i,t,j,c,h=> .inr h
 |a::args,i,t,j,c,h=>by
  simp only[OJ] at h
  rcases R4 args (i+1) _ j c h with⟨k,h1,h2⟩|h1
  ·exact .inl ⟨k+1,by omega,by simpa using h2⟩
  ·rcases Tr.get_setF _ _ _ _ _ _ h1 with⟨k1,k2⟩|⟨_,k2⟩
   ·exact .inl ⟨0,by omega,by simpa using k2⟩
   ·exact .inr k2
def ak (P:Program)(fn:Func)(k:XK)(a:Act)(w:World)(v:Value)(w':World):Prop:=(k= .ret∨k= .normal)∧w'=w∧(results fn a.tmps).run P w= .ok v w
theorem au {fn:Func}:∀o g c m,K3 P fn o g=some (c,m)→Agr T g→∀ ρ a w,True→Rel T g.n ρ o.l a w→∃v w' ρ',ak P fn o.k a w v w'∧AJ T g.n ρ o.l.mem w ρ' m w'∧AH T g.n ρ' m w'∧AB T g.n ρ' m w' c v:=by
 intro o g c m h hA ρ a w _ hR
 unfold K3 at h
 split at h
 ·rename_i hk
  simp only[Option.map_eq_some_iff] at h
  obtain⟨c0,h1,h2⟩:=h
  cases h2
  obtain⟨v,h3,h4⟩:=V9 hA hR h1
  exact⟨v,w, ρ,⟨hk,rfl,h3⟩,AJ.refl _ _ _ _ _,hR.mem,h4⟩
 ·cases h
theorem TR {fn:Func}:∀{outs:List Ar} {g g':G} {c:AC} {m':Mem},Cc (K3 P fn) outs g=some (c,m',g')→∀o∈outs,o.k= .ret∨o.k= .normal
 |[],g,g',c,m',h=>by simp only[Cc] at h;cases h
 |[o],g,g',c,m',h=>by
  simp only[Cc,Option.bind_eq_bind,Option.bind_eq_some_iff] at h
  obtain⟨⟨c0,m0⟩,h,_⟩:=h
  intro o' ho
  simp at ho;subst ho
  unfold K3 at h
  split at h
  ·rename_i hk;exact hk
  ·cases h
 |o::o2::os,g,g',c,m',h=>by
  simp only[Cc,Option.bind_eq_bind,Option.bind_eq_some_iff] at h
  obtain⟨⟨c2,m2,g1⟩,h1,⟨c0,m0⟩,h,_⟩:=h
  intro o' ho
  cases ho with
  |head=>
   unfold K3 at h
   split at h
   ·rename_i hk;exact hk
   ·cases h
  |tail _ ho=>exact TR (outs:=o2::os) h1 o' ho
theorem fY {call:A8}{Ag:FuncId→G4}{fuel:Nat}(hm:P.follows .mixedOrders=true)(hcall:∀T,Ca P T call)(T:Tab):Ca P T (eS P call Ag fuel):=by
 intro ys k args pc m g c m' g' hys h
 unfold eS at h
 simp only[Option.bind_eq_bind,Option.bind_eq_some_iff] at h
 obtain⟨fn,hfn,body,hbody,h⟩:=h
 split at h
 ·cases h
 rename_i hcond
 simp only[Bool.or_eq_true,not_or,Bool.not_eq_true] at hcond
 obtain⟨hname,hargs⟩:=hcond
 have hal:args.length≤fn.ntmps:=by
  rcases Nat.lt_or_ge fn.ntmps args.length with hlt|hge
  ·rw[←Nat.blt_eq] at hlt;rw[hlt] at hargs;cases hargs
  ·exact hge
 simp only[Option.bind_eq_some_iff] at h
 obtain⟨⟨outs,g1⟩,hc,h⟩:=h
 simp only at h
 have gr1:=(VB hm hcall (Ag k) fuel ys T 0 body hys pc _ g outs g1 hc).1
 have gr2:=Ey h
 refine⟨gr1.trans gr2,fun hA hob hp hpk ρ w vs hvs hmem=>⟨⟨fn,hfn,by rw[hbody];rfl,hname⟩,?_⟩⟩
 let T0:=T.atBase w.heap.size
 have S0:=Bz T w.heap.size
 have hm0:AH T0 g.n ρ m w:=hmem.tab (S0 _)
 have hvs0:AD T0 g.n ρ m w args vs:=AD.tab (S0 _) (fun b off hh=>(S0 _).safe hmem hh) _ _ hvs
 obtain⟨_,k1⟩:=VB hm hcall (Ag k) fuel ys T0 0 body hys pc _ g outs g1 hc
 obtain⟨q1,q2,q3⟩:=k1 (Gk (hA.of gr2)) hpk.lt
 refine (callsIn_wide (n:=0)).1 (callsIn_of_wp_marks (F:=fen none) hfn hbody trivial ?_)
 have hlen:=hvs.length
 have hR:Rel T0 g.n ρ ⟨OE fn.ntmps args,m⟩ { tmps:=(vs:List Value).toArray++Array.replicate (fn.ntmps - (vs:List Value).toArray.size) undef,defers:=[] } w:=by
  refine⟨DU.nil _ _ _ (Nat.le_refl _),?_,fun i c hi=>?_,hm0⟩
  ·simp[OE,hlen];omega
  ·have hi':(OJ 0 args .nil).get i=some c:=by
    have:(OE fn.ntmps args).get i=(OJ 0 args .nil).get i:=by simp[OE,AQ.get,BR]
    rw[←this];exact hi
   rcases R4 _ _ _ _ _ hi' with⟨j,h1,h2⟩|h1
   ·rw[Nat.zero_add] at h1
    subst h1
    obtain⟨u,h3,h4⟩:=hvs0.get h2
    have:((vs:List Value).toArray++Array.replicate (fn.ntmps - (vs:List Value).toArray.size) undef).getD i undef=u:=by
     have hi2:i < vs.length:=(List.getElem?_eq_some_iff.1 h3).1
     simp[Array.getD_eq_getD_getElem?,Array.getElem?_append,hi2]
     rw[List.getElem?_eq_getElem hi2] at h3
     cases h3;rfl
    rw[this]
    exact h4
   ·simp[Tr.get] at h1
 refine q3 (LY (hob.of gr2)) (MK.2 hp) ρ _ w _ hR fun o ho hpo ρ' a' w' hs hr=>?_
 have hend:LeavesInM (fen none) 0 P fn a'.tmps (KV T g ρ m w c m' g') a'.defers .returning w':=by
  obtain⟨d0,Ds,d1,d2,d3⟩:=hr.defers
  rw[d1]
  refine OO (T:=T0) (n:=g1.n) (ρ := ρ') (m:=o.l.mem) (B:=w.heap.size) Ds w' d2 (fun D hD=>⟨(d3 D hD).1,(d3 D hD).2.1⟩) fun w2 hw2=>?_
  have hr2:Rel T0 g1.n ρ' o.l { tmps:=a'.tmps,defers:=[] } w2:=⟨DU.nil _ _ _ (by rw[hw2.size];exact d0),hr.size,fun i c hi=>hw2.holds _ _ (hr.tmps i c hi),hw2.mem hr.mem⟩
  obtain⟨v,w3, ρ2,⟨_,rfl,e1⟩,e2,e3,e4⟩:=L8 (T:=T0) (I:=fun _=>True) (E:=ak P fn) (N:=(OE fn.ntmps args).n) au h (Gk hA) q1 o ho hpo ρ' _ w2 trivial hr2
  refine⟨v,e1,v, ρ2,rfl,?_,e3.tab (S0 _).symm,AB.tab (S0 _).symm (fun b off hh=>(S0 _).symm.safe e3 hh) _ _ e4⟩
  have st:=(hs.after hm0 hw2).trans hm0 gr1.n e2
  exact AJ.tab (S0 _).symm hm0 st (fun _ _ _ _ _=>rfl)
 rcases TR h o ho with hk|hk<;>rw[hk]<;>exact hend
theorem M7 {ctx:FuncId→Option A8}{Ag:FuncId→G4}{fuel:Nat}(hm:P.follows .mixedOrders=true)(hctx:∀f c,ctx f=some c→∀T,∀ys k args pc m g c' m' g',k=f→CN P T.lp ys→c ys k args pc m g=some (c',m',g')→AP g g'∧(Agr T g'→An T g'→pcv T pc→BJ T g pc→∀ ρ w vs,AD T g.n ρ m w args vs→AH T g.n ρ m w→
  (∃fn,P.funcs[k]? =some fn∧fn.body.isSome=true∧(fn.name== "runtime.NumGoroutine")=false)∧Calls P k (vs:List Value).toArray w (KV T g ρ m w c' m' g'))):
  ∀(d:Nat) (T:Tab),Ca P T (Hw P ctx Ag fuel d)
 |0,T=>fun ys k args pc m g c m' g' _ h=>by simp only[Hw] at h;cases h
 |d+1,T=>by
  intro ys k args pc m g c m' g' hys h
  simp only[Hw] at h
  cases hcf:ctx k with
  |some cf=>
   rw[hcf] at h
   exact hctx k cf hcf T ys k args pc m g c m' g' rfl hys h
  |none=>
   rw[hcf] at h
   exact fY hm (M7 hm hctx d) T ys k args pc m g c m' g' hys h
end
end Go.Eng
end
noncomputable section
namespace Go.Eng
open Go Go.RowKit Go.Deep
def H7 (P:Program)(sub:TypeId→Option (List Kd)):List Field→Nat→Option (List Kd)
 |[],_=>some []
 |f::fs,off=>do
  let ks←sub f.type
  if Nat.beq f.offset off&&Nat.beq ks.length (P.cellsOf f.type) then
   let r←H7 P sub fs (off+ks.length)
   some (ks++r)
  else none
def Dy (P:Program):Nat→TypeId→Option (List Kd)
 |0,_=>none
 |d+1,t=>
  match P.underlying t with
  |some .bool=>some [.bool]
  |some (.int k)=>some [.int k k.min k.max]
  |some .string=>some [.str]
  |some (.slice e)=>do
   let ks←Dy P d e
   if Nat.beq ks.length (P.cellsOf e)&&Nat.blt 0 ks.length then some [.list ks] else none
  |some (.struct fs)=>do
   let ks←H7 P (Dy P d) fs.toList 0
   if Nat.beq ks.length (P.cellsOf t) then some ks else none
  |some (.array n e)=>do
   let ks←Dy P d e
   if Nat.beq ks.length (P.cellsOf e)&&Nat.beq (n*ks.length) (P.cellsOf t) then some (List.replicate n ks).flatten else none
  |_=>none
inductive Cs {H:Type} (B:Nat):DataW H→Prop where
 |lit {l:Lit} (h:∀s,l= .string s→s.length≤B):Cs B (.lit l)
 |nil:Cs B .nil
 |slice {l s:List (DataW H)} (hl:l.length≤B) (h:∀d∈l,Cs B d):Cs B (.slice l s)
 |agg {l:List (DataW H)} (h:∀d∈l,Cs B d):Cs B (.agg l)
 |ptr (d:DataW H):Cs B (.ptr d)
 |iface (t:String) (d:DataW H):Cs B (.iface t d)
 |map (es:List (Lit × DataW H)):Cs B (.map es)
 |held (h:H):Cs B (.held h)
mutual
def KdU (B:Nat):Kd→U→Prop
 | .int _ lo hi,u=>∃n,u= .int n∧lo≤n∧n≤hi
 | .bool,u=>∃b,u= .bool b
 | .str,u=>∃s,u= .str s∧s.size≤B
 | .val,_=>True
 | .any,_=>True
 | .list ks,u=>∃l:List (List U),u= .list l∧l.length≤B∧∀(i:Nat) (us:List U),l[i]? =some us→CO B ks us
def CO (B:Nat):List Kd→List U→Prop
 |[],us=>us=[]
 |k::ks,us=>∃u us',us=u::us'∧KdU B k u∧CO B ks us'
end
theorem CO.append {B:Nat}:∀{ks ks':List Kd} {us us':List U},CO B ks us→CO B ks' us'→CO B (ks++ks') (us++us')
 |[],_,us,us',h,h'=>by rw[show us=[] from h];exact h'
 |k::ks,_,us,us',⟨u,us1,e,h1,h2⟩,h'=>by
  subst e
  exact⟨u,us1++us',rfl,h1,CO.append h2 h'⟩
def Cl (ok:Nat→Nat→Prop)(w:World):List Kd→List U→List Value→Prop
 |[],[],[]=>True
 |k::ks,u::us,c::cs=>AR ok w k u c∧Cl ok w ks us cs
 |_,_,_=>False
section
variable {ok:Nat→Nat→Prop}{w:World}
theorem Cl.len:∀{ks:List Kd} {us:List U} {cs:List Value},Cl ok w ks us cs→us.length=ks.length∧cs.length=ks.length
 |[],[],[],_=>⟨rfl,rfl⟩
 |_::_,_::_,_::_,h=>by
  obtain⟨h1,h2⟩:=Cl.len h.2
  simp[h1,h2]
 |[],_::_,_,h=>by cases h
 |[],[],_::_,h=>by cases h
 |_::_,[],_,h=>by cases h
 |_::_,_::_,[],h=>by cases h
theorem Cl.append:∀{ks ks':List Kd} {us us':List U} {cs cs':List Value},Cl ok w ks us cs→Cl ok w ks' us' cs'→Cl ok w (ks++ks') (us++us') (cs++cs')
 |[],_,[],_,[],_,_,h=>h
 |_::_,_,_::_,_,_::_,_,h,h'=>⟨h.1,Cl.append h.2 h'⟩
 |[],_,_::_,_,_,_,h,_=>by cases h
 |[],_,[],_,_::_,_,h,_=>by cases h
 |_::_,_,[],_,_,_,h,_=>by cases h
 |_::_,_,_::_,_,[],_,h,_=>by cases h
theorem Cl.mem {b:Nat}:∀{ks:List Kd} {us:List U} {cs:List Value} {off:Nat},Cl ok w ks us cs→(∀j c,cs[j]? =some c→ok b (off+j)∧w.cell? ⟨b,off+j,none⟩=some c)→AW ok w ks b off us
 |[],[],[],_,_,_=>rfl
 |k::ks,u::us,c::cs,off,h,hm=>by
  obtain⟨m1,m2⟩:=hm 0 c rfl
  refine⟨u,us,rfl,⟨m1,c,m2,h.1⟩,Cl.mem h.2 fun j d hd=>?_⟩
  have:=hm (j+1) d (by simpa using hd)
  rw[show off+(j+1)=off+1+j by omega] at this
  exact this
 |[],_::_,_,_,h,_=>by cases h
 |[],[],_::_,_,h,_=>by cases h
 |_::_,[],_,_,h,_=>by cases h
 |_::_,_::_,[],_,h,_=>by cases h
end
theorem PT {w:World}{base n:Nat}{a:Addr}{cs:List Value}(h:w.cells? base a n=some cs):cs.length=n∧∀j,j < n→w.cell? (a.add j)=cs[j]? :=by
 unfold World.cells? at h
 split at h
 ·obtain⟨h1,h2⟩:=ED _ _ _ h
  rw[List.length_range] at h1
  refine⟨h1,fun j hj=>?_⟩
  have:=h2 j j (by simp[hj])
  exact this.symm
 ·cases h
section
variable {H:Type}{enc:TypeId × Value→H}{P:Program}{w:World}{base:Nat}{spare:Nat→Bool}{held:Bool}{B:Nat}
theorem CM (hB:B≤BF):∀(d:Nat) {t:TypeId} {ks:List Kd} {fuel:Nat} {cs:List Value} {x:DataW H × List MemPlace},Dy P d t=some ks→DataW.trod enc P w base spare held fuel t cs=some x→Cs B x.1→
  ∃us,Cl (fun b _=>b < w.heap.size) w ks us cs∧CO B ks us
 |0,t,ks,fuel,cs,x,hk,_,_=>by simp[Dy] at hk
 |d+1,t,ks,fuel,cs,x,hk,h,hs=>by
  simp only[Dy] at hk
  split at hk
  ·rename_i ht
   obtain⟨b,rfl,rfl⟩:=DataW.trod_bool ht h
   cases hk
   exact⟨[.bool b],⟨⟨b,rfl,rfl⟩,trivial⟩,_,_,rfl,⟨b,rfl⟩,rfl⟩
  ·rename_i k ht
   obtain⟨n,rfl,rfl,hwf⟩:=DataW.trod_int ht h
   cases hk
   have hb:k.min≤n∧n≤k.max:=by simpa [Lit.wf] using hwf
   exact⟨[.int n],⟨⟨n,rfl,rfl,hb⟩,trivial⟩,_,_,rfl,⟨n,rfl,hb⟩,rfl⟩
  ·rename_i ht
   obtain⟨s,rfl,rfl,_⟩:=DataW.trod_string ht h
   cases hk
   cases hs with
   |lit hs=>
   have hb:=hs _ rfl
   have hb2:s.size≤B:=by simpa using hb
   exact⟨[.str s],⟨⟨s,rfl,rfl,Nat.le_trans hb2 hB⟩,trivial⟩,_,_,rfl,⟨s,rfl,hb2⟩,rfl⟩
  ·
   rename_i e ht
   simp only[Option.bind_eq_bind,Option.bind_eq_some_iff] at hk
   obtain⟨ke,he,hk⟩:=hk
   split at hk
   ·rename_i hc
    rw[Bool.and_eq_true] at hc
    have hlen:=Nat.eq_of_beq_eq_true hc.1
    have hpos:=Be hc.2
    cases hk
    rcases open_slice ht h with⟨rfl,rfl⟩|⟨a,len,cap,m,n,D,Pl,rfl,_,hle,_,hm,rfl,hel⟩
    ·exact⟨[.list []],⟨⟨[],rfl,Nat.zero_le _,fun _=>rfl,none,0,rfl,Nat.le_refl _,fun h=>absurd h (by simp)⟩,trivial⟩,_,_,rfl,⟨[],rfl,Nat.zero_le _,fun i us hi=>by simp at hi⟩,rfl⟩
    ·have hmlen:len≤m:=by rw[hm];split<;>omega
     cases hs with
     |slice hl hsh=>
     have each:∀i,i < len→∃us,∃cs',w.cells? base (a.add (i*P.cellsOf e)) (P.cellsOf e)=some cs'∧Cl (fun b _=>b < w.heap.size) w ke us cs'∧CO B ke us:=fun i hi=>by
      obtain⟨cs',h1,h2⟩:=hel i (by omega)
      obtain⟨us,hus⟩:=CM hB d he h2 (hsh _ (List.mem_map.2 ⟨i,by simp[hi],rfl⟩))
      exact⟨us,cs',h1,hus⟩
     have pick:∃f:Nat→List U,∀i,i < len→∃cs',w.cells? base (a.add (i*P.cellsOf e)) (P.cellsOf e)=some cs'∧Cl (fun b _=>b < w.heap.size) w ke (f i) cs'∧CO B ke (f i):=by
      classical
      refine⟨fun i=>if hi:i < len then (each i hi).choose else [],fun i hi=>?_⟩
      simp only[hi,dif_pos]
      exact (each i hi).choose_spec
     obtain⟨f,hf⟩:=pick
     refine⟨[.list ((List.range len).map f)],⟨⟨(List.range len).map f,rfl,by simp at hl⊢;omega,fun h0=>?_,some a,cap,by simp,by simpa using hle,fun h0=>?_⟩,trivial⟩,_,_,rfl,⟨_,rfl,by simpa using hl,fun i us hi=>?_⟩,rfl⟩
     ·rw[h0] at hpos;simp at hpos
     ·have h0:0 < len:=by simpa using h0
      have hspot:a.spot=none:=by
       obtain⟨cs',h1,_⟩:=hf 0 h0
       obtain⟨k1,k2⟩:=PT h1
       have hc0:=k2 0 (by omega)
       rw[List.getElem?_eq_getElem (by omega)] at hc0
       simp only[Nat.zero_mul,Addr.add,if_true] at hc0
       unfold World.cell? at hc0
       split at hc0
       ·split at hc0
        ·cases hc0
        ·rename_i hsp;simpa using hsp
       ·cases hc0
      obtain⟨ab,ao,asp⟩:=a
      simp only at hspot
      subst hspot
      have haddr:∀i j,((⟨ab,ao,none⟩:Addr).add i).add j=⟨ab,ao+i+j,none⟩:=fun i j=>by
       unfold Addr.add
       split<;>split<;>simp_all
      refine⟨ab,ao,rfl,fun i us hi=>?_⟩
      rw[List.getElem?_map,Option.map_eq_some_iff] at hi
      obtain⟨i',hi',rfl⟩:=hi
      obtain⟨hlt,rfl⟩:=List.getElem?_eq_some_iff.1 hi'
      simp only[List.getElem_range]
      have hil:i < len:=by simpa using hlt
      obtain⟨cs',h1,h2,_⟩:=hf i hil
      obtain⟨k1,k2⟩:=PT h1
      refine Cl.mem h2 fun j c hj=>?_
      have hjl:j < cs'.length:=(List.getElem?_eq_some_iff.1 hj).1
      have hc:=k2 j (by omega)
      rw[hj,haddr,←hlen] at hc
      refine⟨?_,hc⟩
      unfold World.cell? at hc
      split at hc
      ·rename_i hb;exact (Array.getElem?_eq_some_iff.1 hb).1
      ·cases hc
     ·rw[List.getElem?_map,Option.map_eq_some_iff] at hi
      obtain⟨i',hi',rfl⟩:=hi
      obtain⟨hlt,rfl⟩:=List.getElem?_eq_some_iff.1 hi'
      simp only[List.getElem_range]
      obtain⟨_,_,_,h3⟩:=hf i (by simpa using hlt)
      exact h3
   ·cases hk
  ·
   rename_i fs ht
   simp only[Option.bind_eq_bind,Option.bind_eq_some_iff] at hk
   obtain⟨ks',hf,hk⟩:=hk
   split at hk
   ·rename_i hc
    have hlen:=Nat.eq_of_beq_eq_true hc
    cases hk
    obtain⟨xs,n,rfl,rfl,hcs,hxl,hxs⟩:=DataW.trod_struct ht h
    cases hs with
    |agg hsh=>
    have key:∀(l:List Field) (off i:Nat) (ks:List Kd),H7 P (Dy P d) l off=some ks→(∀j f,l[j]? =some f→fs[i+j]? =some f)→off+ks.length≤cs.length→∃us,Cl (fun b _=>b < w.heap.size) w ks us ((cs.drop off).take ks.length)∧CO B ks us:=by
     intro l
     induction l with
     |nil=>intro off i ks hk _ _;simp only[H7] at hk;cases hk;exact⟨[],by simp[Cl],rfl⟩
     |cons f l ih=>
      intro off i ks hk hl hle
      simp only[H7,Option.bind_eq_bind,Option.bind_eq_some_iff] at hk
      obtain⟨kf,hkf,hk⟩:=hk
      split at hk
      ·rename_i hc
       rw[Bool.and_eq_true] at hc
       have e1:=Nat.eq_of_beq_eq_true hc.1
       have e2:=Nat.eq_of_beq_eq_true hc.2
       simp only[Option.bind_eq_some_iff] at hk
       obtain⟨kr,hkr,hk⟩:=hk
       cases hk
       rw[List.length_append] at hle
       have hfi:=hl 0 f rfl
       have hil:i < xs.length:=by rw[hxl];exact (Array.getElem?_eq_some_iff.1 (by simpa using hfi)).1
       have hx:=hxs i f (by simpa using hfi)
       rw[List.getElem?_eq_getElem hil] at hx
       obtain⟨us1,hus1⟩:=CM hB d hkf hx (hsh _ (List.mem_map.2 ⟨_,List.getElem_mem hil,rfl⟩))
       obtain⟨us2,hus2⟩:=ih (off+kf.length) (i+1) kr hkr (fun j g hg=>by have:=hl (j+1) g (by simpa using hg);rw[show i+(j+1)=i+1+j by omega] at this;exact this) (by omega)
       refine⟨us1++us2,?_,hus1.2.append hus2.2⟩
       have:=hus1.1.append hus2.1
       rw[e1,←e2] at this
       have e3:(cs.drop off).take (kf++kr).length=(cs.drop off).take kf.length++(cs.drop (off+kf.length)).take kr.length:=by
        rw[List.length_append,List.take_add,List.drop_drop]
       rw[e3]
       exact this
      ·cases hk
    obtain⟨us,hus⟩:=key fs.toList 0 0 ks hf (fun j f hj=>by simpa using hj) (by omega)
    refine⟨us,?_,hus.2⟩
    have:(cs.drop 0).take ks.length=cs:=by rw[List.drop_zero,List.take_of_length_le (by omega)]
    rw[this] at hus
    exact hus.1
   ·cases hk
  ·
   rename_i n e ht
   simp only[Option.bind_eq_bind,Option.bind_eq_some_iff] at hk
   obtain⟨ke,he,hk⟩:=hk
   split at hk
   ·rename_i hc
    rw[Bool.and_eq_true] at hc
    have hlen:=Nat.eq_of_beq_eq_true hc.1
    have htot:=Nat.eq_of_beq_eq_true hc.2
    cases hk
    obtain⟨xs,m,rfl,rfl,hcs,hxl,hxs⟩:=DataW.trod_array ht h
    cases hs with
    |agg hsh=>
    have key:∀(j i:Nat),i+j≤n→∃us,Cl (fun b _=>b < w.heap.size) w (List.replicate j ke).flatten us ((cs.drop (i*ke.length)).take (j*ke.length))∧CO B (List.replicate j ke).flatten us:=by
     intro j
     induction j with
     |zero=>intro i _;exact⟨[],by simp[Cl],rfl⟩
     |succ j ih=>
      intro i hi
      have hx:=hxs i (by omega)
      rw[List.getElem?_eq_getElem (by omega)] at hx
      obtain⟨us1,hus1⟩:=CM hB d he hx (hsh _ (List.mem_map.2 ⟨_,List.getElem_mem (by omega),rfl⟩))
      obtain⟨us2,hus2⟩:=ih (i+1) (by omega)
      rw[List.replicate_succ,List.flatten_cons]
      refine⟨us1++us2,?_,hus1.2.append hus2.2⟩
      have:=hus1.1.append hus2.1
      rw[←hlen] at this
      have e3:(cs.drop (i*ke.length)).take ((j+1)*ke.length)=(cs.drop (i*ke.length)).take ke.length++(cs.drop ((i+1)*ke.length)).take (j*ke.length):=by
       rw[show (j+1)*ke.length=ke.length+j*ke.length by rw[Nat.succ_mul];omega,List.take_add,List.drop_drop,show (i+1)*ke.length=i*ke.length+ke.length by rw[Nat.succ_mul]]
      rw[e3]
      exact this
    obtain⟨us,hus⟩:=key n 0 (by omega)
    refine⟨us,?_,hus.2⟩
    have:(cs.drop (0*ke.length)).take (n*ke.length)=cs:=by rw[Nat.zero_mul,List.drop_zero,List.take_of_length_le (by omega)]
    rw[this] at hus
    exact hus.1
   ·cases hk
  ·cases hk
end
end Go.Eng
end
noncomputable section
namespace Go.Eng
open Go Go.RowKit
def OI:Nat→List Kd→List AC
 |_,[]=>[]
 |x,k::ks=>ND k x::OI (x+1) ks
def fJ (P:Program)(t:TypeId)(x:Nat)(ks:List Kd):Option AC:=
 if ER P t then some (.agg (OI x ks)) else match ks with
  |[k]=>some (ND k x)
  |_=>none
def Fj (P:Program)(d:Nat):List TypeId→Nat→Option (List AC × List Kd)
 |[],_=>some ([],[])
 |t::ts,x=>do
  let ks←Dy P d t
  let a←fJ P t x ks
  let (as,r) ←Fj P d ts (x+ks.length)
  some (a::as,ks++r)
def YB:Bf:=⟨⟨0,[],.nil⟩, #[],.skip,.skip,[]⟩
def Uz (lps:List (Nat × Bf))(us:List U):Tab:=⟨fun x=>us.getD x default,fun _ _=>True,fun s=>(E7 lps s).getD YB,0⟩
def MB:List (Nat × Bf)→Bool
 |[]=>true
 |(s,_)::r=>(r.all fun p=> !Nat.beq p.1 s)&&MB r
def QT (n:Nat)(g:G):Bool:=DO [] 0 n g.n g.eqs&&MB g.lps
def jN (T:Tab):AC→Prop
 | .cb b=>b=true
 | .b x=>T x= .bool true
 | .nb x=>T x= .bool false
 |_=>False
theorem Mg:∀{lps:List (Nat × Bf)},MB lps=true→∀p∈lps,E7 lps p.1=some p.2
 |[],_,p,hp=>by cases hp
 |(s,S)::r,h,p,hp=>by
  simp only[MB,Bool.and_eq_true] at h
  simp only[E7]
  cases hp with
  |head=>simp only[(DI s s).2 rfl,if_true]
  |tail _ hp=>
   have hne:=List.all_eq_true.1 h.1 p hp
   split
   ·rename_i hb
    have e:=Nat.eq_of_beq_eq_true hb
    rw[(DI p.1 s).2 e.symm] at hne
    cases hne
   ·exact Mg h.2 p hp
section
variable {P:Program}{T:Tab}{n:Nat}{ρ :Nat→Option Nat}{w:World}{B:Nat}
theorem ge {ok:Nat→Nat→Prop}(hok:∀b off,ok b off→Ai T ρ [] w b off){k:Kd}{x:Nat}{v:Value}(hx:x < n)(h:AR ok w k (T x) v):AB T n ρ [] w (ND k x) v:=by
 cases k with
 |int k lo hi=>exact⟨hx,h⟩
 |bool=>exact⟨hx,h⟩
 |str=>exact⟨hx,h⟩
 |val=>exact⟨hx,h.1,h.2⟩
 |any=>exact h.one
 |list ks=>exact⟨hx,AR.mono (fun b off hb=>⟨hok b off hb,rfl⟩) _ _ _ h⟩
theorem TQ {ok:Nat→Nat→Prop}(hok:∀b off,ok b off→Ai T ρ [] w b off):∀{ks:List Kd} {us:List U} {cs:List Value} {x:Nat},Cl ok w ks us cs→(∀j u,us[j]? =some u→T (x+j)=u)→x+ks.length≤n→AD T n ρ [] w (OI x ks) cs
 |[],[],[],_,_,_,_=>rfl
 |k::ks,u::us,c::cs,x,h,hT,hn=>by
  simp only[List.length_cons] at hn
  refine⟨c,cs,rfl,ge hok (by omega) ?_,TQ hok h.2 (fun j v hj=>?_) (by omega)⟩
  ·have:=hT 0 u rfl
   rw[Nat.add_zero] at this
   rw[this];exact h.1
  ·have:=hT (j+1) v (by simpa using hj)
   rw[show x+(j+1)=x+1+j by omega] at this
   exact this
 |[],_::_,_,_,h,_,_=>by cases h
 |[],[],_::_,_,h,_,_=>by cases h
 |_::_,[],_,_,h,_,_=>by cases h
 |_::_,_::_,[],_,h,_,_=>by cases h
theorem iZ {d:Nat}{t:TypeId}{ks:List Kd}{v:Value}{base:Nat}(hk:Dy P d t=some ks)(ha:ER P t=false)(hv:Value.okWide P w .any base t v):∀cs,v≠ .agg cs:=by
 intro cs e
 subst e
 cases d with
 |zero=>simp[Dy] at hk
 |succ d=>
  simp only[Dy] at hk
  unfold Value.okWide at hv
  unfold ER at ha
  split at hk<;>rename_i ht<;>simp only[ht] at hv ha<;>first
   |(cases ha;done)
   |(simp[Cell.okWide,Cell.ok,ht] at hv;done)
   |(cases hk;done)
theorem bN {t:TypeId}{v:Value}{base:Nat}(ha:ER P t=true)(hv:Value.okWide P w .any base t v):∃cs,v= .agg cs:=by
 unfold ER at ha
 unfold Value.okWide at hv
 split at ha
 ·rename_i ht;simp only[ht] at hv;obtain⟨cs,h,_⟩:=hv;exact⟨cs,h⟩
 ·rename_i ht;simp only[ht] at hv;obtain⟨cs,h,_⟩:=hv;exact⟨cs,h⟩
 ·cases ha
theorem X5 {H:Type}{enc:TypeId × Value→H}{sp:Nat→Bool}{held:Bool}{base:Nat}(hB:B≤BF){dd:Nat}:∀(ts:List TypeId) {x:Nat} {as:List AC} {ks:List Kd} {vs:List Value} {ds:List (DataW H)} {ps:List MemPlace},Fj P dd ts x=some (as,ks)→
  DataW.TrodAll enc P w 0 sp held ts vs ds ps→(∀(j:Nat) t v,ts[j]? =some t→vs[j]? =some v→Value.okWide P w .any base t v)→(∀d∈ds,Cs B d)→
  ∃us,CO B ks us∧us.length=ks.length∧∀(T:Tab) ρ,(∀b off,b < w.heap.size→Ai T ρ [] w b off)→(∀j u,us[j]? =some u→T (x+j)=u)→∀n,x+ks.length≤n→AD T n ρ [] w as vs
 |[],x,as,ks,vs,ds,ps,h,ht,_,_=>by
  simp only[Fj] at h
  cases h
  cases vs with
  |nil=>exact⟨[],rfl,rfl,fun _ _ _ _ _ _=>rfl⟩
  |cons v vs=>cases ds<;>exact ht.elim
 |t::ts,x,as,ks,vs,ds,ps,h,ht,hv,hs=>by
  simp only[Fj,Option.bind_eq_bind,Option.bind_eq_some_iff] at h
  obtain⟨k1,hk,a,ha,⟨as2,k2⟩,hr,h⟩:=h
  cases h
  cases vs with
  |nil=>cases ds<;>exact ht.elim
  |cons v vs=>
   cases ds with
   |nil=>exact ht.elim
   |cons d ds=>
    obtain⟨p,q,⟨fuel,h1⟩,h2,_⟩:=ht
    obtain⟨us2,u1,u2,u3⟩:=X5 hB ts hr h2 (fun j t' v' hj hj'=>hv (j+1) t' v' (by simpa using hj) (by simpa using hj')) (fun d' hd=>hs d' (List.mem_cons_of_mem _ hd))
    obtain⟨us1,w1,w2⟩:=CM hB dd hk h1 (hs d (List.mem_cons_self ..))
    have hv0:=hv 0 t v rfl rfl
    obtain⟨l1,l2⟩:=w1.len
    refine⟨us1++us2,w2.append u1,by simp[l1,u2],fun T ρ hok hT n hn=>?_⟩
    rw[List.length_append] at hn
    have hn':x+k1.length+k2.length≤n:=by simp only at hn;omega
    have hT1:∀j u,us1[j]? =some u→T (x+j)=u:=fun j u hj=>hT j u (by rw[List.getElem?_append_left (List.getElem?_eq_some_iff.1 hj).1];exact hj)
    have hcells:=TQ (T:=T) (n:=n) (ρ := ρ) (x:=x) hok w1 hT1 (by omega)
    refine⟨v,vs,rfl,?_,u3 T ρ hok (fun j u hj=>?_) n hn'⟩
    ·unfold fJ at ha
     split at ha
     ·rename_i hagg
      cases ha
      obtain⟨cs,rfl⟩:=bN hagg hv0
      exact⟨cs.toList,by simp,hcells⟩
     ·rename_i hagg
      split at ha
      ·rename_i k
       cases ha
       obtain⟨u,us',e1,e2,e3⟩:=hcells
       rw[show us'=[] from e3] at e1
       have hne:=iZ hk (by simpa using hagg) hv0
       have hcv:v.cells= #[v]:=by cases v<;>first|rfl|exact absurd rfl (hne _)
       rw[hcv] at e1
       simp at e1
       rw[e1]
       exact e2
      ·cases ha
    ·have:=hT (us1.length+j) u (by rw[List.getElem?_append_right (by omega)];simpa using hj)
     rw[l1,←Nat.add_assoc] at this
     exact this
end
end Go.Eng
end
noncomputable section
namespace Go.Eng
open Go Go.RowKit
inductive TG where
 |one (k:Kd)
 |agg (ks:List Kd)
 |ptr (j off:Nat)
def NR:Nat→List TG→List AC
 |_,[]=>[]
 |x,.one k::r=>ND k x::NR (x+1) r
 |x,.agg ks::r=> .agg (OI x ks)::NR (x+ks.length) r
 |x,.ptr j off::r=> .ptr j off::NR x r
def EE:List TG→List Kd
 |[]=>[]
 | .one k::r=>k::EE r
 | .agg ks::r=>ks++EE r
 | .ptr _ _::r=>EE r
def Ju:Nat→List (List Kd × TypeId)→Mem
 |_,[]=>[]
 |x,(ks,e)::r=> .cells (OI x ks) e::Ju (x+ks.length) r
def M9 (l:List (List Kd × TypeId)):List Kd:=(l.map (·.1)).flatten
structure Ak where
 sh:List TG
 blks:List (List Kd × TypeId)
 outs:List (Tg × (List U→U))
 c:AC
 m':Mem
 pre:List (Tg × (List U→Prop))
def Ak.args (t:Ak):List AC:=NR 0 t.sh
def Ak.m (t:Ak):Mem:=Ju (EE t.sh).length t.blks
def Ak.ks (t:Ak):List Kd:=EE t.sh++M9 t.blks
def Ak.n (t:Ak):Nat:=t.ks.length
def Ak.us (t:Ak)(us:List U):List U:=us++t.outs.map fun o=>o.2 us
def Ao (P:Program)(f:FuncId)(t:Ak):Prop:=
 ∃lp0:Nat→Bf,∀(T:Tab) (us:List U),T.lp=lp0→us.length=t.n→(∀j u,(t.us us)[j]? =some u→T j=u)→(∀p∈t.pre,p.2 us)→∀ ρ w vs,AD T t.n ρ t.m w t.args vs→AH T t.n ρ t.m w→
  (∃fn,P.funcs[f]? =some fn∧fn.body.isSome=true∧(fn.name== "runtime.NumGoroutine")=false)∧
  Calls P f (vs:List Value).toArray w fun e w'=>∃v ρ',e= .returned v∧AJ T t.n ρ t.m w ρ' t.m' w'∧AH T (t.n+t.outs.length) ρ' t.m' w'∧AB T (t.n+t.outs.length) ρ' t.m' w' t.c v
def S9:List AC→List AC→List (Nat × Nat)
 | .ptr j _::as,.ptr id _::cs=>(j,id)::S9 as cs
 |_::as,_::cs=>S9 as cs
 |_,_=>[]
def Fu:List (Nat × Nat)→Nat→Option Nat
 |[],_=>none
 |(j,id)::r,x=>if Nat.beq j x then some id else Fu r x
def N9 (x:Nat):Option (Rf × List Pr)→Option (List (Nat × Rf) × List Pr)
 |some (r,ps)=>some ([(x,r)],ps)
 |none=>none
def X9:Option (List (Nat × Rf) × List Pr)→Option (List (Nat × Rf) × List Pr)→Option (List (Nat × Rf) × List Pr)
 |some (a,b),some (a',b')=>some (a++a',b++b')
 |_,_=>none
mutual
def CA (ren:List (Nat × Nat)):AC→AC→Option (List (Nat × Rf) × List Pr)
 | .ptr j off,c=>(match c with
  | .ptr id off'=>if Nat.beq off off'&&(match Fu ren j with|some id'=>Nat.beq id id'|none=>false) then some ([],[]) else none
  |_=>none)
 | .i k lo hi x,c=>N9 x (fit (.int k lo hi) c)
 | .b x,c=>N9 x (fit .bool c)
 | .v x,c=>N9 x (fit .val c)
 | .s x,c=>N9 x (fit .str c)
 | .ro x ks,c=>N9 x (fit (.list ks) c)
 | .agg l,c=>(match c with
  | .agg l'=>HY ren l l'
  |_=>none)
 | .anyc,c=>if AC.atom c then some ([],[]) else none
 |_,_=>none
def HY (ren:List (Nat × Nat)):List AC→List AC→Option (List (Nat × Rf) × List Pr)
 |[],[]=>some ([],[])
 |h::l,c::l'=>X9 (CA ren h c) (HY ren l l')
 |_,_=>none
end
def OH (ren:List (Nat × Nat)):Blk→Blk→Option (List (Nat × Rf) × List Pr)
 | .cells l e,.cells l' e'=>if Nat.beq e e' then HY ren l l' else none
 |_,_=>none
def Gx (ren:List (Nat × Nat))(ma:Mem):List (Nat × Nat)→Mem→Option (List (Nat × Rf) × List Pr)
 |[],[]=>some ([],[])
 |(_,id)::r,b::m=>X9 (OH ren b (ma.at id)) (Gx ren ma r m)
 |_,_=>none
def TS (ren:List (Nat × Nat))(nt na j:Nat):Option Nat:=if Nat.blt j nt then Fu ren j else some (na+(j - nt))
mutual
def up1 (n base:Nat)(ren:List (Nat × Nat))(nt na:Nat)(m':Mem)(rs:List Rf):AC→AC
 | .i k lo hi x=>if Nat.ble n x then .i k lo hi (base+(x - n)) else (match rs[x]? with|some (.e y)=> .i k lo hi y|_=> .anyc)
 | .b x=>if Nat.ble n x then .b (base+(x - n)) else (match rs[x]? with|some (.e y)=> .b y|_=> .anyc)
 | .v x=>if Nat.ble n x then .v (base+(x - n)) else (match rs[x]? with|some (.e y)=> .v y|_=> .anyc)
 | .s x=>if Nat.ble n x then .s (base+(x - n)) else (match rs[x]? with|some (.e y)=> .s y|_=> .anyc)
 | .ro x ks=>if Nat.ble n x then .ro (base+(x - n)) ks else (match rs[x]? with|some (.e y)=> .ro y ks|_=> .anyc)
 | .vec _ x ks=>if Nat.ble n x then .ro (base+(x - n)) ks else (match rs[x]? with|some (.e y)=> .ro y ks|_=> .anyc)
 | .ptr j off=>(match m'.at j,TS ren nt na j with| .cells _ _,some id=> .ptr id off|_,_=> .anyc)
 | .cb b=> .cb b
 | .ci k i=> .ci k i
 | .cv c=> .cv c
 | .agg l=> .agg (upL n base ren nt na m' rs l)
 | .tup l=> .tup (upL n base ren nt na m' rs l)
 |_=> .any
def upL (n base:Nat)(ren:List (Nat × Nat))(nt na:Nat)(m':Mem)(rs:List Rf):List AC→List AC
 |[]=>[]
 |a::l=>up1 n base ren nt na m' rs a::upL n base ren nt na m' rs l
end
def det:AC→Bool
 | .i .. | .b _| .v _| .s _| .ptr .. | .ci .. | .cb _| .cv _=>true
 |_=>false
def Q9 (up:AC→AC):List AC→List AC→List AC→List AC
 |h0::l0,c::l,h::l'=>(if det h&&AC.beq h0 h then c else up h)::Q9 up l0 l l'
 |_,_,_=>[]
def L4 (up:AC→AC):Blk→Blk→Blk→Blk
 | .cells l0 _,.cells l e,.cells l' e'=>if Nat.beq l0.length l.length&&Nat.beq l.length l'.length&&Nat.beq e e' then .cells (Q9 up l0 l l') e else .gone
 |_,_,_=> .gone
def DM (B:Nat→Blk→Blk):List (Nat × Nat)→Mem→Mem
 |[],m=>m
 |(j,id)::r,m=>(DM B r m).set id (B j (m.at id))
def T9 (up:AC→AC):Blk→Blk
 | .cells l e=> .cells (l.map up) e
 |_=> .gone
def Un (t:Ak):A8:=fun _ _ as pc ma g=>
 let ren:=S9 t.args as
 if Et (ren.map (·.1)) (List.range t.m.length)&&Ed (ren.map (·.2))&&ren.all (fun p=>Nat.blt p.2 ma.length)&&Nat.ble t.m.length t.m'.length then
  match X9 (HY ren t.args as) (Gx ren ma ren t.m) with
  |some (prs,ps)=>
   if Et (prs.map (·.1)) (List.range t.n) then
    let rs:=prs.map (·.2)
    let up:=up1 t.n g.n ren t.m.length ma.length t.m' rs
    some (up t.c,DM (fun j b=>L4 up (t.m.at j) b (t.m'.at j)) ren ma++(t.m'.drop t.m.length).map (T9 up),
     (g.needAll pc (ps++t.pre.map fun (tg,f)=>⟨tg,f,rs⟩)).pushAll (t.outs.map fun (tg,F)=>⟨tg,F,rs⟩))
   else none
  |none=>none
 else none
end Go.Eng
end
noncomputable section
namespace Go.Eng
open Go Go.RowKit
theorem Lk:∀{l l':List Nat},Et l l'=true→l=l'
 |[],[],_=>rfl
 |a::l,b::l',h=>by
  simp only[Et,Bool.and_eq_true] at h
  rw[Nat.eq_of_beq_eq_true h.1,Lk h.2]
 |[],_::_,h=>by cases h
 |_::_,[],h=>by cases h
theorem Nb:∀{ren:List (Nat × Nat)} {j id:Nat},Fu ren j=some id→(j,id)∈ren
 |[],_,_,h=>by simp[Fu] at h
 |(j',id')::r,j,id,h=>by
  simp only[Fu] at h
  split at h
  ·rename_i hb;cases h;rw[Nat.eq_of_beq_eq_true hb];exact List.mem_cons_self ..
  ·exact List.mem_cons_of_mem _ (Nb h)
theorem dg {ren:List (Nat × Nat)}(hn:(ren.map (·.1)).Nodup){j id:Nat}(h:(j,id)∈ren):Fu ren j=some id:=by
 induction ren with
 |nil=>cases h
 |cons p r ih=>
  obtain⟨j',id'⟩:=p
  simp only[List.map_cons,List.nodup_cons] at hn
  simp only[Fu]
  cases h with
  |head=>simp
  |tail _ h=>
   split
   ·rename_i hb
    have:=Nat.eq_of_beq_eq_true hb
    subst this
    exact absurd (List.mem_map.2 ⟨_,h,rfl⟩) hn.1
   ·exact ih hn.2 h
def Om (n:Nat):Rf→Prop
 | .c _=>True
 | .e x=>x < n
 | .n x=>x < n
theorem gG {T:Tab}{n:Nat}{ρ :Nat→Option Nat}{m:Mem}{w:World}{c:AC}{k:Kd}{r:Rf}{v:Value}(h:EI c=some (k,r))(hc:AB T n ρ m w c v):Om n r:=by
 cases c<;>simp only[EI] at h<;>first
  |(cases h;done)
  |(cases h;trivial)
  |(cases h;exact hc.1)
  |(rename_i cc;cases cc<;>simp only[EI] at h<;>(try split at h)<;>cases h<;>trivial)
theorem i5 {T:Tab}{n:Nat}{ρ :Nat→Option Nat}{m:Mem}{w:World}{c:AC}{k:Kd}{r:Rf}{ps:List Pr}{v:Value}(h:fit k c=some (r,ps))(hc:AB T n ρ m w c v):Om n r:=by
 cases hs:EI c with
 |none=>unfold fit at h;rw[hs] at h;cases k<;>cases h
 |some kr=>
  obtain⟨k1,r1⟩:=kr
  have:=gG hs hc
  have e:r1=r:=by
   unfold fit at h
   rw[hs] at h
   have join:(if Kd.beq (Kd.join k1 k) k&& !k.isAny then some (r1,([]:List Pr)) else none)=some (r,ps)→r1=r:=by
    intro h
    split at h
    ·cases h;rfl
    ·cases h
   cases k with
   |int k0 lo hi=>
    cases k1 with
    |int k' lo' hi'=>
     simp only at h
     split at h
     ·injection h with h;injection h
     ·cases h
    |_=>exact join h
   |_=>exact join h
  rw[←e];exact this
theorem J6 {a b:Option (List (Nat × Rf) × List Pr)}{prs:List (Nat × Rf)}{ps:List Pr}(h:X9 a b=some (prs,ps)):∃p1 q1 p2 q2,a=some (p1,q1)∧b=some (p2,q2)∧prs=p1++p2∧ps=q1++q2:=by
 cases a with
 |none=>cases b<;>cases h
 |some a=>
  cases b with
  |none=>cases h
  |some b=>
   obtain⟨p1,q1⟩:=a
   obtain⟨p2,q2⟩:=b
   cases h
   exact⟨p1,q1,p2,q2,rfl,rfl,rfl,rfl⟩
section
variable {T T2:Tab}{ρ ρ2:Nat→Option Nat}{ma mt:Mem}{w:World}{n gn:Nat}{ren:List (Nat × Nat)}
structure YL (T T2:Tab) (ρ ρ2:Nat→Option Nat) (ma mt:Mem) (w:World) (ren:List (Nat × Nat)):Prop where
 safe:∀b off,Ai T ρ ma w b off→Ai T2 ρ2 mt w b off
 ptr:∀j id,Fu ren j=some id→ ρ2 j= ρ id∧(mt.at j).ptrOk=true
mutual
theorem dH (M:YL T T2 ρ ρ2 ma mt w ren):∀(h c:AC) {prs:List (Nat × Rf)} {ps:List Pr} {v:Value},CA ren h c=some (prs,ps)→(∀p∈prs,p.1 < n∧T2 p.1=p.2.eval T)→(∀p∈ps,p.holds T)→AB T gn ρ ma w c v→
  AB T2 n ρ2 mt w h v∧∀p∈prs,Om gn p.2
 | .ptr j off,c,prs,ps,v,hb,hp,hq,hv=>by
  cases c<;>simp only[CA] at hb<;>try (cases hb;done)
  rename_i id off'
  cases hl:Fu ren j with
  |none=>rw[hl] at hb;simp at hb
  |some id'=>
   rw[hl] at hb
   simp only at hb
   split at hb
   ·rename_i hc
    cases hb
    rw[Bool.and_eq_true] at hc
    have e1:=Nat.eq_of_beq_eq_true hc.1
    have e2:=Nat.eq_of_beq_eq_true hc.2
    subst e1;subst e2
    obtain⟨b,k1,k2,_⟩:=hv
    obtain⟨k3,k4⟩:=M.ptr j id hl
    exact⟨⟨b,by rw[k3];exact k1,k2,k4⟩,fun p hp=>by cases hp⟩
   ·cases hb
 | .i k lo hi x,c,prs,ps,v,hb,hp,hq,hv=>by
  simp only[CA] at hb
  obtain⟨k1,k2,k3⟩:=JS M hb hp hq hv
  exact⟨⟨k1,k2⟩,k3⟩
 | .b x,c,prs,ps,v,hb,hp,hq,hv=>by
  simp only[CA] at hb
  obtain⟨k1,k2,k3⟩:=JS M hb hp hq hv
  exact⟨⟨k1,k2⟩,k3⟩
 | .v x,c,prs,ps,v,hb,hp,hq,hv=>by
  simp only[CA] at hb
  obtain⟨k1,k2,k3⟩:=JS M hb hp hq hv
  exact⟨⟨k1,k2⟩,k3⟩
 | .s x,c,prs,ps,v,hb,hp,hq,hv=>by
  simp only[CA] at hb
  obtain⟨k1,k2,k3⟩:=JS M hb hp hq hv
  exact⟨⟨k1,k2⟩,k3⟩
 | .ro x ks,c,prs,ps,v,hb,hp,hq,hv=>by
  simp only[CA] at hb
  obtain⟨k1,k2,k3⟩:=JS M hb hp hq hv
  exact⟨⟨k1,k2⟩,k3⟩
 | .agg l,c,prs,ps,v,hb,hp,hq,hv=>by
  cases c<;>simp only[CA] at hb<;>try (cases hb;done)
  rename_i l'
  obtain⟨vs,e,h1⟩:=hv
  obtain⟨k1,k2⟩:=JF M l l' hb hp hq h1
  exact⟨⟨vs,e,k1⟩,k2⟩
 | .anyc,c,prs,ps,v,hb,hp,hq,hv=>by
  simp only[CA] at hb
  split at hb
  ·rename_i ha
   cases hb
   exact⟨Fw ha hv,fun p hp=>by cases hp⟩
  ·cases hb
 | .any,_,_,_,_,hb,_,_,_=>by simp[CA] at hb
 | .on _ _,_,_,_,_,hb,_,_,_=>by simp[CA] at hb
 | .gd _ _,_,_,_,_,hb,_,_,_=>by simp[CA] at hb
 | .cb _,_,_,_,_,hb,_,_,_=>by simp[CA] at hb
 | .nb _,_,_,_,_,hb,_,_,_=>by simp[CA] at hb
 | .ci _ _,_,_,_,_,hb,_,_,_=>by simp[CA] at hb
 | .cv _,_,_,_,_,hb,_,_,_=>by simp[CA] at hb
 | .pix ..,_,_,_,_,hb,_,_,_=>by simp[CA] at hb
 | .rp ..,_,_,_,_,hb,_,_,_=>by simp[CA] at hb
 | .vec ..,_,_,_,_,hb,_,_,_=>by simp[CA] at hb
 | .fn ..,_,_,_,_,hb,_,_,_=>by simp[CA] at hb
 | .sel ..,_,_,_,_,hb,_,_,_=>by simp[CA] at hb
 | .yl _,_,_,_,_,hb,_,_,_=>by simp[CA] at hb
 | .asl ..,_,_,_,_,hb,_,_,_=>by simp[CA] at hb
 | .rsv ..,_,_,_,_,hb,_,_,_=>by simp[CA] at hb
 | .tup _,_,_,_,_,hb,_,_,_=>by simp[CA] at hb
theorem JF (M:YL T T2 ρ ρ2 ma mt w ren):∀(l l':List AC) {prs:List (Nat × Rf)} {ps:List Pr} {vs:List Value},HY ren l l'=some (prs,ps)→(∀p∈prs,p.1 < n∧T2 p.1=p.2.eval T)→(∀p∈ps,p.holds T)→AD T gn ρ ma w l' vs→
  AD T2 n ρ2 mt w l vs∧∀p∈prs,Om gn p.2
 |[],[],prs,ps,vs,hb,_,_,hv=>by
  simp only[HY] at hb
  cases hb
  exact⟨hv,fun p hp=>by cases hp⟩
 |h::l,c::l',prs,ps,vs,hb,hp,hq,hv=>by
  simp only[HY] at hb
  obtain⟨p1,q1,p2,q2,b1,b2,rfl,rfl⟩:=J6 hb
  obtain⟨u,us,e,h1,h2⟩:=hv
  obtain⟨k1,k2⟩:=dH M h c b1 (fun p hpp=>hp p (List.mem_append_left _ hpp)) (fun p hpp=>hq p (List.mem_append_left _ hpp)) h1
  obtain⟨k3,k4⟩:=JF M l l' b2 (fun p hpp=>hp p (List.mem_append_right _ hpp)) (fun p hpp=>hq p (List.mem_append_right _ hpp)) h2
  refine⟨⟨u,us,e,k1,k3⟩,fun p hpp=>?_⟩
  rcases List.mem_append.1 hpp with h|h
  ·exact k2 p h
  ·exact k4 p h
 |[],_::_,_,_,_,hb,_,_,_=>by simp[HY] at hb
 |_::_,[],_,_,_,hb,_,_,_=>by simp[HY] at hb
theorem JS (M:YL T T2 ρ ρ2 ma mt w ren){k:Kd}{x:Nat}{c:AC}{prs:List (Nat × Rf)}{ps:List Pr}{v:Value}(hb:N9 x (fit k c)=some (prs,ps))(hp:∀p∈prs,p.1 < n∧T2 p.1=p.2.eval T)(hq:∀p∈ps,p.holds T)(hv:AB T gn ρ ma w c v):
  x < n∧AR (Ai T2 ρ2 mt w) w k (T2 x) v∧∀p∈prs,Om gn p.2:=by
 cases hf:fit k c with
 |none=>rw[hf] at hb;cases hb
 |some rq=>
  obtain⟨r,q⟩:=rq
  rw[hf] at hb
  cases hb
  obtain⟨k1,k2⟩:=hp (x,r) (List.mem_singleton.2 rfl)
  simp only at k1 k2
  refine⟨k1,?_,fun p hpp=>?_⟩
  ·rw[k2]
   exact AR.mono (fun b off h=>⟨M.safe b off h,rfl⟩) _ _ _ (Zq hf hv hq)
  ·simp at hpp;subst hpp;exact i5 hf hv
end
end
end Go.Eng
end
noncomputable section
namespace Go.Eng
open Go Go.RowKit
theorem Tz {ren:List (Nat × Nat)}{ma:Mem}:∀{r:List (Nat × Nat)} {m:Mem} {prs:List (Nat × Rf)} {ps:List Pr},Gx ren ma r m=some (prs,ps)→
  r.length=m.length∧∀(i j id:Nat) (b:Blk),r[i]? =some (j,id)→m[i]? =some b→∃p q,OH ren b (ma.at id)=some (p,q)∧(∀x∈p,x∈prs)∧∀x∈q,x∈ps
 |[],[],prs,ps,h=>⟨rfl,fun i j id b hi=>by simp at hi⟩
 |(j0,id0)::r,b0::m,prs,ps,h=>by
  simp only[Gx] at h
  obtain⟨p1,q1,p2,q2,h1,h2,rfl,rfl⟩:=J6 h
  obtain⟨k1,k2⟩:=Tz h2
  refine⟨by simp[k1],fun i j id b hi hb=>?_⟩
  cases i with
  |zero=>
   simp at hi hb
   obtain⟨rfl,rfl⟩:=hi
   subst hb
   exact⟨p1,q1,h1,fun x hx=>List.mem_append_left _ hx,fun x hx=>List.mem_append_left _ hx⟩
  |succ i=>
   obtain⟨p,q,z1,z2,z3⟩:=k2 i j id b (by simpa using hi) (by simpa using hb)
   exact⟨p,q,z1,fun x hx=>List.mem_append_right _ (z2 x hx),fun x hx=>List.mem_append_right _ (z3 x hx)⟩
 |[],_::_,_,_,h=>by simp[Gx] at h
 |_::_,[],_,_,h=>by simp[Gx] at h
theorem HD (B:Nat→Blk→Blk):∀(ren:List (Nat × Nat)) (m:Mem),(DM B ren m).length=m.length
 |[],_=>rfl
 |(j,id)::r,m=>by simp[DM,HD B r m]
theorem PJ (B:Nat→Blk→Blk):∀(ren:List (Nat × Nat)) (m:Mem),(ren.map (·.2)).Nodup→(∀p∈ren,p.2 < m.length)→∀id,(∀j,(j,id)∈ren→(DM B ren m).at id=B j (m.at id))∧((∀j,(j,id) ∉ ren)→(DM B ren m).at id=m.at id)
 |[],m,_,_,id=>⟨(fun j h=>by cases h),fun _=>rfl⟩
 |(j0,id0)::r,m,hn,hl,id=>by
  simp only[List.map_cons,List.nodup_cons] at hn
  obtain⟨k1,k2⟩:=PJ B r m hn.2 (fun p hp=>hl p (List.mem_cons_of_mem _ hp)) id
  have hid0:id0 < (DM B r m).length:=by rw[HD];exact hl (j0,id0) (List.mem_cons_self ..)
  have hat:Mem.at ((DM B r m).set id0 (B j0 (m.at id0))) id=if id=id0 then B j0 (m.at id0) else (DM B r m).at id:=by
   unfold Mem.at
   rw[List.getElem?_set]
   by_cases h:id0=id
   ·subst h;simp[hid0]
   ·rw[if_neg h,if_neg (fun e=>h e.symm)]
  have e:DM B ((j0,id0)::r) m=(DM B r m).set id0 (B j0 (m.at id0)):=rfl
  rw[e,hat]
  refine⟨fun j hj=>?_,fun hno=>?_⟩
  ·cases hj with
   |head=>rw[if_pos rfl]
   |tail _ hj=>
    have hne:id≠id0:=fun h=>hn.1 (List.mem_map.2 ⟨_,hj,h⟩)
    rw[if_neg hne];exact k1 j hj
  ·have hne:id≠id0:=fun h=>hno j0 (by rw[h];exact List.mem_cons_self ..)
   rw[if_neg hne]
   exact k2 fun j hj=>hno j (List.mem_cons_of_mem _ hj)
theorem Tj:∀(bs:List (List Kd × TypeId)) (x j:Nat),j < bs.length→∃l e,(Ju x bs).at j= .cells l e
 |[],_,j,h=>by simp at h
 |(ks,e)::r,x,0,_=>⟨_,_,rfl⟩
 |(ks,e)::r,x,j+1,h=>by
  have:=Tj r (x+ks.length) j (by simpa using h)
  simpa [Ju,Mem.at] using this
theorem NQ:∀(bs:List (List Kd × TypeId)) (x:Nat),(Ju x bs).length=bs.length
 |[],_=>rfl
 |_::r,x=>by simp[Ju,NQ r]
structure VG (T T2:Tab) (n gn gn':Nat) (ren:List (Nat × Nat)) (nt na:Nat) (ρ2 ρ':Nat→Option Nat) (m2 mo:Mem) (w':World) (rs:List Rf):Prop where
 old:∀x r,rs[x]? =some r→T2 x=r.eval T∧Om gn' r
 new:∀x,n≤x→∀k,x < n+k→gn+k=gn'→gn+(x - n) < gn'∧T (gn+(x - n))=T2 x
 safe:∀b off,Ai T2 ρ2 m2 w' b off→Ai T ρ' mo w' b off
 ptr:∀j l e id,m2.at j= .cells l e→TS ren nt na j=some id→ ρ' id= ρ2 j∧(mo.at id).ptrOk=true
section
variable {T T2:Tab}{n k gn gn' nt na:Nat}{ren:List (Nat × Nat)}{ρ2 ρ':Nat→Option Nat}{m2 mo:Mem}{w':World}{rs:List Rf}
mutual
theorem aQ (B:VG T T2 n gn gn' ren nt na ρ2 ρ' m2 mo w' rs)(hk:gn+k=gn'):∀(h:AC) (v:Value),AB T2 (n+k) ρ2 m2 w' h v→AB T gn' ρ' mo w' (up1 n gn ren nt na m2 rs h) v
 | .i kk lo hi x,v,⟨h0,i,h1,h2,h3⟩=>by
  simp only[up1]
  split
  ·rename_i hx
   obtain⟨z1,z2⟩:=B.new x (Nat.le_of_ble_eq_true hx) k h0 hk
   exact⟨z1,i,by rw[z2];exact h1,h2,h3⟩
  ·split
   ·rename_i y hy
    obtain⟨z1,z2⟩:=B.old x _ hy
    exact⟨z2,i,by rw[←h1,z1];rfl,h2,h3⟩
   ·rw[h2];rfl
 | .b x,v,⟨h0,i,h1,h2⟩=>by
  simp only[up1]
  split
  ·rename_i hx
   obtain⟨z1,z2⟩:=B.new x (Nat.le_of_ble_eq_true hx) k h0 hk
   exact⟨z1,i,by rw[z2];exact h1,h2⟩
  ·split
   ·rename_i y hy
    obtain⟨z1,z2⟩:=B.old x _ hy
    exact⟨z2,i,by rw[←h1,z1];rfl,h2⟩
   ·rw[h2];rfl
 | .v x,v,⟨h0,h1,h2⟩=>by
  simp only[up1]
  split
  ·rename_i hx
   obtain⟨z1,z2⟩:=B.new x (Nat.le_of_ble_eq_true hx) k h0 hk
   exact⟨z1,by rw[z2];exact h1,h2⟩
  ·split
   ·rename_i y hy
    obtain⟨z1,z2⟩:=B.old x _ hy
    exact⟨z2,by rw[←h1,z1];rfl,h2⟩
   ·exact h2
 | .s x,v,⟨h0,i,h1,h2⟩=>by
  simp only[up1]
  split
  ·rename_i hx
   obtain⟨z1,z2⟩:=B.new x (Nat.le_of_ble_eq_true hx) k h0 hk
   exact⟨z1,i,by rw[z2];exact h1,h2⟩
  ·split
   ·rename_i y hy
    obtain⟨z1,z2⟩:=B.old x _ hy
    exact⟨z2,i,by rw[←h1,z1];rfl,h2⟩
   ·rw[h2.1];rfl
 | .ro x ks,v,⟨h0,h1⟩=>by
  simp only[up1]
  split
  ·rename_i hx
   obtain⟨z1,z2⟩:=B.new x (Nat.le_of_ble_eq_true hx) k h0 hk
   exact⟨z1,by rw[z2];exact AR.mono (fun b off h=>⟨B.safe b off h,rfl⟩) _ _ _ h1⟩
  ·split
   ·rename_i y hy
    obtain⟨z1,z2⟩:=B.old x _ hy
    exact⟨z2,by rw[show T y=T2 x by rw[z1];rfl];exact AR.mono (fun b off h=>⟨B.safe b off h,rfl⟩) _ _ _ h1⟩
   ·exact h1.one
 | .vec id x ks,v,⟨h0,_,h1,_⟩=>by
  simp only[up1]
  split
  ·rename_i hx
   obtain⟨z1,z2⟩:=B.new x (Nat.le_of_ble_eq_true hx) k h0 hk
   exact⟨z1,by rw[z2];exact AR.mono (fun b off h=>⟨B.safe b off h,rfl⟩) _ _ _ h1⟩
  ·split
   ·rename_i y hy
    obtain⟨z1,z2⟩:=B.old x _ hy
    exact⟨z2,by rw[show T y=T2 x by rw[z1];rfl];exact AR.mono (fun b off h=>⟨B.safe b off h,rfl⟩) _ _ _ h1⟩
   ·exact h1.one
 | .ptr j off,v,⟨b,h1,h2,h3⟩=>by
  simp only[up1]
  split
  ·rename_i l e id hj hr
   obtain⟨z1,z2⟩:=B.ptr j l e id hj hr
   exact⟨b,by rw[z1];exact h1,h2,z2⟩
  ·rw[h2];rfl
 | .cb b,v,h=>h
 | .ci kk i,v,h=>h
 | .cv c,v,h=>h
 | .agg l,v,⟨vs,h1,h2⟩=>⟨vs,h1,T8 B hk l vs h2⟩
 | .tup l,v,⟨vs,h1,h2⟩=>⟨vs,h1,T8 B hk l vs h2⟩
 | .any,_,_=>trivial
 | .anyc,_,_=>trivial
 | .on _ _,_,_=>trivial
 | .gd _ _,_,_=>trivial
 | .nb _,_,_=>trivial
 | .pix ..,_,_=>trivial
 | .rp ..,_,_=>trivial
 | .fn ..,_,_=>trivial
 | .sel ..,_,_=>trivial
 | .yl _,_,_=>trivial
 | .asl ..,_,_=>trivial
 | .rsv ..,_,_=>trivial
theorem T8 (B:VG T T2 n gn gn' ren nt na ρ2 ρ' m2 mo w' rs)(hk:gn+k=gn'):∀(l:List AC) (vs:List Value),AD T2 (n+k) ρ2 m2 w' l vs→AD T gn' ρ' mo w' (upL n gn ren nt na m2 rs l) vs
 |[],_,h=>h
 |c::l,vs,⟨u,us,h1,h2,h3⟩=>⟨u,us,h1,aQ B hk c u h2,T8 B hk l us h3⟩
end
end
end Go.Eng
end
noncomputable section
namespace Go.Eng
open Go Go.RowKit
theorem Sk {ren:List (Nat × Nat)}{ma:Mem}:∀{r:List (Nat × Nat)} {m:Mem} {prs:List (Nat × Rf)} {ps:List Pr},Gx ren ma r m=some (prs,ps)→
  ∀x∈prs,∃(i j id:Nat) (b:Blk) (p:List (Nat × Rf)) (q:List Pr),r[i]? =some (j,id)∧m[i]? =some b∧OH ren b (ma.at id)=some (p,q)∧x∈p
 |[],[],prs,ps,h,x,hx=>by simp only[Gx] at h;cases h;cases hx
 |(j0,id0)::r,b0::m,prs,ps,h,x,hx=>by
  simp only[Gx] at h
  obtain⟨p1,q1,p2,q2,h1,h2,rfl,rfl⟩:=J6 h
  rcases List.mem_append.1 hx with hx|hx
  ·exact⟨0,j0,id0,b0,p1,q1,rfl,rfl,h1,hx⟩
  ·obtain⟨i,j,id,b,p,q,z1,z2,z3,z4⟩:=Sk h2 x hx
   exact⟨i+1,j,id,b,p,q,by simpa using z1,by simpa using z2,z3,z4⟩
 |[],_::_,_,_,h,_,_=>by simp[Gx] at h
 |_::_,[],_,_,h,_,_=>by simp[Gx] at h
theorem ij {T2:Tab}{n n':Nat}{ρ2 ρ2':Nat→Option Nat}{m m':Mem}{w w':World}(hr:∀id,(m.at id).ptrOk=true→ ρ2' id= ρ2 id){h:AC}{u u':Value}(hd:det h=true)(h1:AB T2 n ρ2 m w h u)(h2:AB T2 n' ρ2' m' w' h u'):u'=u:=by
 cases h<;>simp only[det] at hd<;>try (cases hd;done)
 case cb b=>rw[show u=_ from h1,show u'=_ from h2]
 case b x=>
  obtain⟨_,b,e1,e2⟩:=h1
  obtain⟨_,b',e3,e4⟩:=h2
  rw[e1] at e3;cases e3
  rw[e2,e4]
 case ci k i=>rw[show u=_ from h1,show u'=_ from h2]
 case i k lo hi x=>
  obtain⟨_,b,e1,e2,_⟩:=h1
  obtain⟨_,b',e3,e4,_⟩:=h2
  rw[e1] at e3;cases e3
  rw[e2,e4]
 case cv c=>rw[show u=_ from h1,show u'=_ from h2]
 case v x=>
  obtain⟨_,e1,_⟩:=h1
  obtain⟨_,e3,_⟩:=h2
  rw[e1] at e3;injection e3 with e3;exact e3.symm
 case s x=>
  obtain⟨_,b,e1,e2⟩:=h1
  obtain⟨_,b',e3,e4⟩:=h2
  rw[e1] at e3;cases e3
  rw[e2.1,e4.1]
 case ptr id off=>
  obtain⟨b,e1,e2,e3⟩:=h1
  obtain⟨b',e4,e5,_⟩:=h2
  rw[hr id e3,e1] at e4
  cases e4
  rw[e2,e5]
theorem Qg {T T2:Tab}{n n' gn gn':Nat}{ρ ρ2 ρ2' ρ':Nat→Option Nat}{ma mt m2 mo:Mem}{w w':World}{up:AC→AC}(hst:AJ T gn ρ ma w ρ' mo w')(hn:gn≤gn')(hr:∀id,(mt.at id).ptrOk=true→ ρ2' id= ρ2 id)
  (hup:∀h v,AB T2 n' ρ2' m2 w' h v→AB T gn' ρ' mo w' (up h) v):∀{l0 l l':List AC} {vs vs':List Value},l0.length=l.length→l.length=l'.length→AD T2 n ρ2 mt w l0 vs→AD T gn ρ ma w l vs→AD T2 n' ρ2' m2 w' l' vs'→AD T gn' ρ' mo w' (Q9 up l0 l l') vs'
 |[],[],[],vs,vs',_,_,_,_,h=>h
 |h0::l0,c::l,h::l',vs,vs',e1,e2,⟨u0,us0,f0,a1,a2⟩,⟨u1,us1,f,b1,b2⟩,⟨u,us,f3,c1,c2⟩=>by
  subst f0;subst f3
  injection f with f1 f2
  subst f1;subst f2
  refine⟨u,us,rfl,?_,Qg hst hn hr hup (by simpa using e1) (by simpa using e2) a2 b2 c2⟩
  split
  ·rename_i hc
   rw[Bool.and_eq_true] at hc
   have e:=AC.beq_eq _ _ hc.2
   subst e
   rw[ij hr hc.1 a1 c1]
   exact AB.mono0 hst hn _ _ b1
  ·exact hup _ _ c1
 |[],_::_,_,_,_,e,_,_,_,_=>by simp at e
 |_::_,[],_,_,_,e,_,_,_,_=>by simp at e
 |[],[],_::_,_,_,_,e,_,_,_=>by simp at e
 |_::_,_::_,[],_,_,_,e,_,_,_=>by simp at e
theorem bt {T T2:Tab}{n' gn':Nat}{ρ2' ρ':Nat→Option Nat}{m2 mo:Mem}{w':World}{up:AC→AC}(hup:∀h v,AB T2 n' ρ2' m2 w' h v→AB T gn' ρ' mo w' (up h) v):∀{l:List AC} {vs:List Value},AD T2 n' ρ2' m2 w' l vs→AD T gn' ρ' mo w' (l.map up) vs
 |[],_,h=>h
 |c::l,vs,⟨u,us,e,h1,h2⟩=>⟨u,us,e,hup _ _ h1,bt hup h2⟩
theorem jM (a b:Mem)(id:Nat):Mem.at (a++b) id=if id < a.length then a.at id else b.at (id - a.length):=by
 unfold Mem.at
 rw[List.getElem?_append]
 split<;>rfl
theorem ia (m:Mem)(nt i:Nat)(f:Blk→Blk):Mem.at ((m.drop nt).map f) i=if nt+i < m.length then f (m.at (nt+i)) else .pad:=by
 unfold Mem.at
 rw[List.getElem?_map,List.getElem?_drop]
 by_cases h:nt+i < m.length
 ·rw[if_pos h,List.getElem?_eq_getElem h];rfl
 ·rw[if_neg h,List.getElem?_eq_none (by omega)];rfl
theorem az {P:Program}{f:FuncId}{t:Ak}(ht:Ao P f t):∀(T:Tab) (ys:Ys) (args:List AC) (pc:PC) (ma:Mem) (g:G) (c':AC) (mo:Mem) (g':G),Un t ys f args pc ma g=some (c',mo,g')→
  AP g g'∧(Agr T g'→An T g'→pcv T pc→BJ T g pc→∀ ρ w vs,AD T g.n ρ ma w args vs→AH T g.n ρ ma w→
   (∃fn,P.funcs[f]? =some fn∧fn.body.isSome=true∧(fn.name== "runtime.NumGoroutine")=false)∧Calls P f (vs:List Value).toArray w (KV T g ρ ma w c' mo g')):=by
 intro T ys args pc ma g c' mo g' hap
 obtain⟨lp0,ht⟩:=ht
 unfold Un at hap
 simp only at hap
 generalize hren:S9 t.args args=ren at hap
 split at hap
 ·rename_i hc
  simp only[Bool.and_eq_true] at hc
  obtain⟨⟨⟨hc1,hc2⟩,hc3⟩,hc4⟩:=hc
  split at hap
  ·rename_i prs ps hb
   split at hap
   ·rename_i hc5
    have hfst:=Lk hc5
    simp only[Option.some.injEq,Prod.mk.injEq] at hap
    obtain⟨e1,e2,e3⟩:=hap
    generalize hrs:prs.map (·.2)=rs at e1 e2 e3
    obtain⟨p1,q1,p2,q2,hb1,hb2,hp12,hq12⟩:=J6 hb
    generalize hg1:g.needAll pc (ps++t.pre.map fun x=>(⟨x.1,x.2,rs⟩:Pr))=g1 at e3
    have n1:g1.n=g.n:=by rw[←hg1];exact (DT _ _ _).1
    have gr1:AP g g1:=by rw[←hg1];exact AP.need _ _ _
    have gr2:AP g1 g':=by rw[←e3];exact AP.push _ _
    refine⟨gr1.trans gr2,fun hA hob hpc hpk ρ w vs hvs hm=>?_⟩
    have hgn':g.n+t.outs.length=g'.n:=by rw[←e3,BY,n1];simp
    have hnew:New T g1.n (t.outs.map fun x=>(⟨x.1,x.2,rs⟩:Ex)):=by rw[←e3] at hA;exact hA.new
    have hps:∀p∈ps++t.pre.map fun x=>(⟨x.1,x.2,rs⟩:Pr),p.holds T:=by
     have:=hob.of gr2
     rw[←hg1] at this
     exact An.need this hpc
    have hplen:prs.length=t.n:=by have:=congrArg List.length hfst;simpa using this
    have hrl:rs.length=t.n:=by rw[←hrs];simpa using hplen
    have hprs:∀p∈prs,p.1 < t.n∧rs[p.1]? =some p.2:=fun p hp=>by
     obtain⟨i,hi⟩:=List.mem_iff_getElem?.1 hp
     have h1:(prs.map (·.1))[i]? =some p.1:=by simp[hi]
     rw[hfst] at h1
     obtain⟨h2,h3⟩:=List.getElem?_eq_some_iff.1 h1
     simp at h2 h3
     subst h3
     exact⟨h2,by rw[←hrs];simp[hi]⟩
    let us:=rs.map (Rf.eval T)
    have husl:us.length=t.n:=by simp[us,hrl]
    let T2:Tab:=⟨fun x=>(t.us us).getD x default,fun b off=>w.heap.size≤b∨Ai T ρ ma w b off,lp0,0⟩
    have hT2:∀j u,(t.us us)[j]? =some u→T2 j=u:=fun j u hj=>by
     show (t.us us).getD j default=u
     simp[List.getD,hj]
    have hT2o:∀x r,rs[x]? =some r→T2 x=r.eval T:=fun x r hx=>hT2 x _ (by
     unfold Ak.us
     have hxl:=(List.getElem?_eq_some_iff.1 hx).1
     rw[List.getElem?_append_left (by omega)]
     simp[us,hx])
    have hT2n:∀i,i < t.outs.length→T2 (t.n+i)=T (g.n+i):=fun i hi=>by
     have h1:=hT2 (t.n+i) (t.outs[i].2 us) (by
      unfold Ak.us
      rw[List.getElem?_append_right (by omega),husl]
      simp[hi])
     have h2:=hnew i ⟨t.outs[i].1,t.outs[i].2,rs⟩ (by simp[hi])
     rw[n1] at h2
     rw[h1,h2]
     rfl
    have hfr:=Lk hc1
    have hnd:=M5 hc2
    have hnd1:(ren.map (·.1)).Nodup:=by rw[hfr];exact List.nodup_range
    have hlt:∀p∈ren,p.2 < ma.length:=fun p hp=>Be (List.all_eq_true.1 hc3 p hp)
    have hix:∀j id,(j,id)∈ren→ren[j]? =some (j,id)∧j < t.m.length:=fun j id hj=>by
     obtain⟨i,hi⟩:=List.mem_iff_getElem?.1 hj
     have h1:(ren.map (·.1))[i]? =some j:=by simp[hi]
     rw[hfr] at h1
     obtain⟨h2,h3⟩:=List.getElem?_eq_some_iff.1 h1
     simp at h2 h3
     subst h3
     exact⟨hi,h2⟩
    have hall:∀j,j < t.m.length→∃id,(j,id)∈ren:=fun j hj=>by
     have:j∈ren.map (·.1):=by rw[hfr];simpa using hj
     obtain⟨p,hp,e⟩:=List.mem_map.1 this
     exact⟨p.2,by rw[←e];exact hp⟩
    obtain⟨_,hbat⟩:=Tz hb2
    have hblk:∀j id,(j,id)∈ren→∃l l' e p q,t.m.at j= .cells l e∧ma.at id= .cells l' e∧HY ren l l'=some (p,q)∧(∀x∈p,x∈prs)∧∀x∈q,x∈ps:=fun j id hj=>by
     obtain⟨h1,h2⟩:=hix j id hj
     obtain⟨l,e,hl⟩:=Tj t.blks (EE t.sh).length j (by have:=NQ t.blks (EE t.sh).length;unfold Ak.m at h2;omega)
     have hl':t.m.at j= .cells l e:=hl
     have hget:t.m[j]? =some (.cells l e):=by
      rw[←hl']
      simp[Mem.at,List.getElem?_eq_getElem h2]
     obtain⟨p,q,h3,h4,h5⟩:=hbat j j id _ h1 hget
     cases hx:ma.at id with
     |cells l' e'=>
      rw[hx] at h3
      simp only[OH] at h3
      split at h3
      ·rename_i he
       rw[←Nat.eq_of_beq_eq_true he]
       exact⟨l,l',e,p,q,hl',rfl,h3,fun x hx=>by rw[hp12];exact List.mem_append_right _ (h4 x hx),fun x hx=>by rw[hq12];exact List.mem_append_right _ (h5 x hx)⟩
      ·cases h3
     |_=>rw[hx] at h3;simp[OH] at h3
    let ρ2:Nat→Option Nat:=fun j=>(Fu ren j).bind ρ
    have hρ2:∀j id,(j,id)∈ren→ ρ2 j= ρ id:=fun j id hj=>by
     show (Fu ren j).bind ρ = ρ id
     rw[dg hnd1 hj];rfl
    have htm:∀j,(t.m.at j).tracked=true→∃id,(j,id)∈ren:=fun j hj=>by
     refine hall j ?_
     rcases Nat.lt_or_ge j t.m.length with h|h
     ·exact h
     ·rw[Mem.at_ge h] at hj;cases hj
    have M:YL T T2 ρ ρ2 ma t.m w ren:=by
     refine⟨fun b off hs=>⟨hs.1,.inr hs,fun j=>?_⟩,fun j id hj=>?_⟩
     ·by_cases hj:j < t.m.length
      ·obtain⟨id,hid⟩:=hall j hj
       obtain⟨l,l',e,_,_,z1,z2,_⟩:=hblk j id hid
       rw[z1]
       have:=hs.2.2 id
       rw[z2] at this
       show ρ2 j≠some b
       rw[hρ2 j id hid]
       exact this
      ·rw[Mem.at_ge (by omega)];trivial
     ·have hmem:=Nb hj
      obtain⟨l,l',e,_,_,z1,_⟩:=hblk j id hmem
      exact⟨hρ2 j id hmem,by rw[z1];rfl⟩
    have hvals:∀p∈prs,p.1 < t.n∧T2 p.1=p.2.eval T:=fun p hp=>⟨(hprs p hp).1,hT2o _ _ (hprs p hp).2⟩
    have hps1:∀p∈ps,p.holds T:=fun p hp=>hps p (List.mem_append_left _ hp)
    obtain⟨hargs2,hlt1⟩:=JF (n:=t.n) M t.args args hb1 (fun p hp=>hvals p (by rw[hp12];exact List.mem_append_left _ hp)) (fun p hp=>hps1 p (by rw[hq12];exact List.mem_append_left _ hp)) hvs
    have hcell:∀j id,(j,id)∈ren→∃l l' e b vs0,t.m.at j= .cells l e∧ma.at id= .cells l' e∧ ρ id=some b∧w.heap[b]? =some (.cells (vs0:List Value).toArray e (0,0))∧AD T g.n ρ ma w l' vs0∧AD T2 t.n ρ2 t.m w l vs0:=fun j id hj=>by
     obtain⟨l,l',e,p,q,z1,z2,z3,z4,z5⟩:=hblk j id hj
     have:=hm.blk id
     rw[z2] at this
     obtain⟨b,vs0,y1,y2,y3⟩:=this
     exact⟨l,l',e,b,vs0,z1,z2,y1,y2,y3,(JF (n:=t.n) M l l' z3 (fun x hx=>hvals x (z4 x hx)) (fun x hx=>hps1 x (z5 x hx)) y3).1⟩
    have hrlt:∀p∈prs,Om g.n p.2:=fun p hp=>by
     rw[hp12] at hp
     rcases List.mem_append.1 hp with h|h
     ·exact hlt1 p h
     ·obtain⟨i,j,id,b,pp,qq,z1,z2,z3,z4⟩:=Sk hb2 p h
      have hj:(j,id)∈ren:=List.mem_iff_getElem?.2 ⟨i,z1⟩
      obtain⟨w1,w2⟩:=hix j id hj
      obtain⟨l,l',e,pb,qb,y1,y2,y3,y4,y5⟩:=hblk j id hj
      have hij:i=j:=by
       have h1:(ren.map (·.1))[i]? =some j:=by simp[z1]
       rw[hfr] at h1
       obtain⟨_,h3⟩:=List.getElem?_eq_some_iff.1 h1
       simpa using h3
      subst hij
      have hbe:b= .cells l e:=by
       have:t.m.at i=b:=by simp[Mem.at,z2]
       rw[←this,y1]
      rw[hbe,y2] at z3
      simp only[OH,(DI e e).2 rfl,if_true] at z3
      rw[y3] at z3
      cases z3
      have:=hm.blk id
      rw[y2] at this
      obtain⟨bb,vs0,_,_,x3⟩:=this
      exact (JF (n:=t.n) M l l' y3 (fun x hx=>hvals x (y4 x hx)) (fun x hx=>hps1 x (y5 x hx)) x3).2 p z4
    have hmem2:AH T2 t.n ρ2 t.m w:=by
     refine⟨fun j=>?_,fun j j' b h1 h2 h3 h4=>?_,fun b off hb=> .inl hb⟩
     ·by_cases hj:j < t.m.length
      ·obtain⟨id,hid⟩:=hall j hj
       obtain⟨l,l',e,b,vs0,z1,z2,z3,z4,z5,z6⟩:=hcell j id hid
       rw[z1]
       exact⟨b,vs0,by rw[hρ2 j id hid];exact z3,z4,z6⟩
      ·rw[Mem.at_ge (by omega)];trivial
     ·obtain⟨id,hid⟩:=htm j h1
      obtain⟨id',hid'⟩:=htm j' h2
      rw[hρ2 j id hid] at h3
      rw[hρ2 j' id' hid'] at h4
      obtain⟨_,_,_,_,_,_,z2,_⟩:=hcell j id hid
      obtain⟨_,_,_,_,_,_,z2',_⟩:=hcell j' id' hid'
      have e:=hm.inj id id' b (by rw[z2];rfl) (by rw[z2'];rfl) h3 h4
      subst e
      obtain⟨i1,k1⟩:=List.mem_iff_getElem?.1 hid
      obtain⟨i2,k2⟩:=List.mem_iff_getElem?.1 hid'
      have a1:(ren.map (·.2))[i1]? =some id:=by simp[k1]
      have a2:(ren.map (·.2))[i2]? =some id:=by simp[k2]
      have:=(List.getElem?_inj (List.getElem?_eq_some_iff.1 a1).1 hnd).1 (a1.trans a2.symm)
      subst this
      rw[k1] at k2
      cases k2
      rfl
    have hpre:∀p∈t.pre,p.2 us:=fun p hp=>hps ⟨p.1,p.2,rs⟩ (List.mem_append_right _ (List.mem_map.2 ⟨p,hp,rfl⟩))
    obtain⟨hfn,hcalls⟩:=ht T2 us rfl husl hT2 hpre ρ2 w vs hargs2 hmem2
    refine⟨hfn,hcalls.mono fun ee w' hh=>?_⟩
    obtain⟨v, ρ2',rfl,S2,M2,H2⟩:=hh
    have hnt:t.m.length≤t.m'.length:=Nat.le_of_ble_eq_true hc4
    have hr2:∀j,(t.m.at j).ptrOk=true→ ρ2' j= ρ2 j:=fun j hj=>(S2.rho j hj).1
    let ρ':Nat→Option Nat:=fun id=>if id < ma.length then ρ id else ρ2' (t.m.length+(id - ma.length))
    have hρlt:∀id,id < ma.length→ ρ' id= ρ id:=fun id h=>if_pos h
    have hρge:∀id,ma.length≤id→ ρ' id= ρ2' (t.m.length+(id - ma.length)):=fun id h=>if_neg (by omega)
    obtain hup:∃up,up=up1 t.n g.n ren t.m.length ma.length t.m' rs:=⟨_,rfl⟩
    obtain⟨up,hup⟩:=hup
    rw[←hup] at e1 e2
    have hlen:=HD (fun j b=>L4 up (t.m.at j) b (t.m'.at j)) ren ma
    have hput:=fun id=>PJ (fun j b=>L4 up (t.m.at j) b (t.m'.at j)) ren ma hnd hlt id
    have hmo:∀id,mo.at id=if id < ma.length then Mem.at (DM (fun j b=>L4 up (t.m.at j) b (t.m'.at j)) ren ma) id else if t.m.length+(id - ma.length) < t.m'.length then T9 up (t.m'.at (t.m.length+(id - ma.length))) else .pad:=fun id=>by
     rw[←e2,jM,hlen,ia]
    have touch:∀j id,(j,id)∈ren→mo.at id=L4 up (t.m.at j) (ma.at id) (t.m'.at j):=fun j id hj=>by
     rw[hmo,if_pos (hlt _ hj)]
     exact (hput id).1 j hj
    have keep:∀id,id < ma.length→(∀j,(j,id) ∉ ren)→mo.at id=ma.at id:=fun id h hno=>by
     rw[hmo,if_pos h]
     exact (hput id).2 hno
    have fresh:∀id,ma.length≤id→mo.at id=if t.m.length+(id - ma.length) < t.m'.length then T9 up (t.m'.at (t.m.length+(id - ma.length))) else .pad:=fun id h=>by
     rw[hmo,if_neg (by omega)]
    have upB:∀j id,(j,id)∈ren→(∃l e,mo.at id= .cells l e)∨mo.at id= .gone:=fun j id hj=>by
     obtain⟨l,l',e,b,vs0,z1,z2,_⟩:=hcell j id hj
     rw[touch j id hj,z1,z2]
     cases t.m'.at j with
     |cells l3 e3=>
      simp only[L4]
      split
      ·exact .inl ⟨_,_,rfl⟩
      ·exact .inr rfl
     |_=>exact .inr rfl
    have newB:∀id,ma.length≤id→(mo.at id).tracked=true→∃l e,t.m'.at (t.m.length+(id - ma.length))= .cells l e∧mo.at id= .cells (l.map up) e:=fun id h htr=>by
     rw[fresh id h] at htr⊢
     split at htr
     ·rename_i hx
      rw[if_pos hx]
      cases hy:t.m'.at (t.m.length+(id - ma.length)) with
      |cells l e=>exact⟨l,e,rfl,rfl⟩
      |_=>rw[hy] at htr;cases htr
     ·cases htr
    have newGe:∀id b,ma.length≤id→(mo.at id).tracked=true→ ρ' id=some b→w.heap.size≤b:=fun id b h htr hb=>by
     obtain⟨l,e,h1,_⟩:=newB id h htr
     rw[hρge id h] at hb
     exact S2.fresh _ b (Mem.at_ge (by omega)) (by rw[h1];rfl) hb
    have trOld:∀id,id < ma.length→(mo.at id).tracked=true→(ma.at id).tracked=true:=fun id h htr=>by
     by_cases hex:∃j,(j,id)∈ren
     ·obtain⟨j,hj⟩:=hex
      obtain⟨l,l',e,b,vs0,z1,z2,_⟩:=hcell j id hj
      rw[z2];rfl
     ·rw[keep id h (fun j hj=>hex ⟨j,hj⟩)] at htr;exact htr
    have unt2:∀k,(∀id,(ma.at id).tracked=true→ ρ id≠some k)→∀j,(t.m.at j).tracked=true→ ρ2 j≠some k:=fun k hno j hj=>by
     obtain⟨id,hid⟩:=htm j hj
     obtain⟨l,l',e,b,vs0,z1,z2,_⟩:=hcell j id hid
     rw[hρ2 j id hid]
     exact hno id (by rw[z2];rfl)
    have keepHeap:∀id b,(ma.at id).tracked=true→(∀j,(j,id) ∉ ren)→ ρ id=some b→w'.heap[b]? =w.heap[b]? :=fun id b htr hno hb=>by
     refine S2.old b (hm.lt htr hb) fun j hj he=>?_
     obtain⟨id',hid'⟩:=htm j hj
     obtain⟨l,l',e,b',vs0,z1,z2,_⟩:=hcell j id' hid'
     rw[hρ2 j id' hid'] at he
     have:=hm.inj id id' b htr (by rw[z2];rfl) hb he
     subst this
     exact hno j hid'
    have idlt:∀id,ma.at id≠ .pad→id < ma.length:=fun id h=>by
     rcases Nat.lt_or_ge id ma.length with hh|hh
     ·exact hh
     ·exact absurd (Mem.at_ge hh) h
    have hst:AJ T g.n ρ ma w ρ' mo w':={
     os:=S2.os
     tape:=S2.tape
     output:=S2.output
     size:=S2.size
     mlen:=fun id h=>by
      by_cases hex:∃j,(j,id)∈ren
      ·obtain⟨j,hj⟩:=hex
       rcases upB j id hj with⟨l,e,h1⟩|h1<;>rw[h1]<;>exact fun h=>by cases h
      ·rw[keep id (idlt id h) (fun j hj=>hex ⟨j,hj⟩)];exact h
     rho:=fun id h=>by
      have hil:=idlt id (BV h)
      refine⟨hρlt id hil,?_⟩
      by_cases hex:∃j,(j,id)∈ren
      ·obtain⟨j,hj⟩:=hex
       rcases upB j id hj with⟨l,e,h1⟩|h1<;>rw[h1]<;>rfl
      ·rw[keep id hil (fun j hj=>hex ⟨j,hj⟩)];exact h
     untr:=fun id h htr=>trOld id (idlt id h) htr
     fresh:=fun id b h htr hb=>by
      rcases Nat.lt_or_ge id ma.length with hil|hil
      ·have:=trOld id hil htr
       rw[h] at this;cases this
      ·exact newGe id b hil htr hb
     old:=fun k hk hno=>S2.old k hk (unt2 k hno)
     tok:=fun id x ks e hx=>by
      have hil:=idlt id (by rw[hx];exact fun h=>by cases h)
      have hno:∀j,(j,id) ∉ ren:=fun j hj=>by
       obtain⟨l,l',e,b,vs0,z1,z2,_⟩:=hcell j id hj
       rw[hx] at z2;cases z2
      exact .inl ⟨by rw[keep id hil hno];exact hx,hρlt id hil,fun b hb=>keepHeap id b (by rw[hx];rfl) hno hb⟩ }
    have hgle:g.n≤g'.n:=by omega
    have B:VG T T2 t.n g.n g'.n ren t.m.length ma.length ρ2' ρ' t.m' mo w' rs:=by
     refine⟨fun x r hx=>⟨hT2o x r hx,?_⟩,fun x hx k hxk hkk=>?_,fun b off hs=>?_,fun j l e id hj hr=>?_⟩
     ·rw[←hrs,List.getElem?_map,Option.map_eq_some_iff] at hx
      obtain⟨p,hp,rfl⟩:=hx
      have:=hrlt p (List.mem_iff_getElem?.2 ⟨x,hp⟩)
      revert this
      cases p.2 with
      |c u=>exact fun _=>trivial
      |e y=>exact fun h=>Nat.lt_of_lt_of_le h hgle
      |n y=>exact fun h=>Nat.lt_of_lt_of_le h hgle
     ·have hkk':k=t.outs.length:=by omega
      have:=hT2n (x - t.n) (by omega)
      rw[show t.n+(x - t.n)=x by omega] at this
      exact⟨by omega,this.symm⟩
     ·obtain⟨s1,s2,s3⟩:=hs
      have s2':w.heap.size≤b∨Ai T ρ ma w b off:=s2
      refine⟨s1,?_,fun id=>?_⟩
      ·rcases s2' with h|h
       ·exact hm.fr b off h
       ·exact h.2.1
      ·rcases Nat.lt_or_ge id ma.length with hil|hil
       ·have base:match ma.at id with| .pad| .gone=>True| .cells _ _| .lp _ _=> ρ id≠some b| .tok x ks _=> ρ id=some b→off < B4 T x ks:=by
         rcases s2' with h|h
         ·have no:(ma.at id).tracked=true→ ρ id≠some b:=fun htr he=>by have:=hm.lt htr he;omega
          cases hx:ma.at id with
          |pad=>trivial
          |gone=>trivial
          |cells=>exact no (by rw[hx];rfl)
          |lp=>exact no (by rw[hx];rfl)
          |tok=>exact fun he=>absurd he (no (by rw[hx];rfl))
         ·exact h.2.2 id
        by_cases hex:∃j,(j,id)∈ren
        ·obtain⟨j,hj⟩:=hex
         obtain⟨l,l',e,b',vs0,z1,z2,_⟩:=hcell j id hj
         rw[z2] at base
         rcases upB j id hj with⟨l3,e3,h1⟩|h1
         ·rw[h1];show ρ' id≠some b;rw[hρlt id hil];exact base
         ·rw[h1];trivial
        ·rw[keep id hil (fun j hj=>hex ⟨j,hj⟩),hρlt id hil]
         exact base
       ·by_cases htr:(mo.at id).tracked=true
        ·obtain⟨l,e,h1,h2⟩:=newB id hil htr
         have:=s3 (t.m.length+(id - ma.length))
         rw[h1] at this
         rw[h2]
         show ρ' id≠some b
         rw[hρge id hil]
         exact this
        ·cases hx:mo.at id with
         |pad=>trivial
         |gone=>trivial
         |cells=>rw[hx] at htr;exact absurd rfl htr
         |lp=>rw[hx] at htr;exact absurd rfl htr
         |tok=>rw[hx] at htr;exact absurd rfl htr
     ·unfold TS at hr
      split at hr
      ·have hmem:=Nb hr
       obtain⟨l0,l',e0,b',vs0,z1,z2,_⟩:=hcell j id hmem
       have hil:=hlt _ hmem
       refine⟨by rw[hρlt id hil,hr2 j (by rw[z1];rfl),hρ2 j id hmem],?_⟩
       rcases upB j id hmem with⟨l3,e3,h1⟩|h1<;>rw[h1]<;>rfl
      ·rename_i hge
       cases hr
       have hge':t.m.length≤j:=by
        rcases Nat.lt_or_ge j t.m.length with h|h
        ·exact absurd (by rw[Nat.blt_eq];exact h) hge
        ·exact h
       have hj':t.m.length+(ma.length+(j - t.m.length) - ma.length)=j:=by omega
       refine⟨by rw[hρge _ (by omega),hj'],?_⟩
       rw[fresh _ (by omega),hj']
       have hjl:j < t.m'.length:=by
        rcases Nat.lt_or_ge j t.m'.length with h|h
        ·exact h
        ·rw[Mem.at_ge h] at hj;cases hj
       rw[if_pos hjl,hj]
       rfl
    have hupok:∀h v,AB T2 (t.n+t.outs.length) ρ2' t.m' w' h v→AB T g'.n ρ' mo w' (up h) v:=fun h v hh=>by
     rw[hup]
     exact aQ B hgn' h v hh
    refine⟨v, ρ',rfl,hst,⟨fun id=>?_,fun id id' b t1 t2 h1 h2=>?_,fun b off hb=>hm.fr b off (Nat.le_trans S2.size hb)⟩,by rw[←e1];exact hupok _ _ H2⟩
    ·rcases Nat.lt_or_ge id ma.length with hil|hil
     ·by_cases hex:∃j,(j,id)∈ren
      ·obtain⟨j,hj⟩:=hex
       obtain⟨l,l',e,b,vs0,z1,z2,z3,z4,z5,z6⟩:=hcell j id hj
       rw[touch j id hj,z1,z2]
       have hb2:=M2.blk j
       cases hx:t.m'.at j with
       |cells l3 e3=>
        simp only[L4]
        split
        ·rename_i hcc
         simp only[Bool.and_eq_true] at hcc
         obtain⟨⟨c1,c2⟩,c3⟩:=hcc
         rw[hx] at hb2
         obtain⟨b2,vs2,y1,y2,y3⟩:=hb2
         have hbb:b2=b:=by
          rw[hr2 j (by rw[z1];rfl),hρ2 j id hj,z3] at y1
          injection y1 with y1;exact y1.symm
         rw[←Nat.eq_of_beq_eq_true c3] at y2
         rw[hbb] at y2
         exact⟨b,vs2,by rw[hρlt id hil];exact z3,y2,Qg hst hgle hr2 hupok (Nat.eq_of_beq_eq_true c1) (Nat.eq_of_beq_eq_true c2) z6 z5 y3⟩
        ·trivial
       |_=>trivial
      ·have hno:∀j,(j,id) ∉ ren:=fun j hj=>hex ⟨j,hj⟩
       by_cases htr:(ma.at id).tracked=true
       ·exact BU.step hst hm hgle (keep id hil hno) (hρlt id hil) (fun b hb=>keepHeap id b htr hno hb)
       ·rw[keep id hil hno]
        cases hx:ma.at id with
        |pad=>trivial
        |gone=>trivial
        |cells=>rw[hx] at htr;exact absurd rfl htr
        |lp=>rw[hx] at htr;exact absurd rfl htr
        |tok=>rw[hx] at htr;exact absurd rfl htr
     ·by_cases htr:(mo.at id).tracked=true
      ·obtain⟨l,e,h1,h2⟩:=newB id hil htr
       have hb2:=M2.blk (t.m.length+(id - ma.length))
       rw[h1] at hb2
       obtain⟨b2,vs2,y1,y2,y3⟩:=hb2
       rw[h2]
       exact⟨b2,vs2,by rw[hρge id hil];exact y1,y2,bt hupok y3⟩
      ·cases hx:mo.at id with
       |pad=>trivial
       |gone=>trivial
       |cells=>rw[hx] at htr;exact absurd rfl htr
       |lp=>rw[hx] at htr;exact absurd rfl htr
       |tok=>rw[hx] at htr;exact absurd rfl htr
    ·rcases Nat.lt_or_ge id ma.length with hil|hil
     ·rcases Nat.lt_or_ge id' ma.length with hil'|hil'
      ·rw[hρlt id hil] at h1
       rw[hρlt id' hil'] at h2
       exact hm.inj id id' b (trOld id hil t1) (trOld id' hil' t2) h1 h2
      ·have:=newGe id' b hil' t2 h2
       rw[hρlt id hil] at h1
       have:=hm.lt (trOld id hil t1) h1
       omega
     ·rcases Nat.lt_or_ge id' ma.length with hil'|hil'
      ·have:=newGe id b hil t1 h1
       rw[hρlt id' hil'] at h2
       have:=hm.lt (trOld id' hil' t2) h2
       omega
      ·obtain⟨l,e,k1,_⟩:=newB id hil t1
       obtain⟨l',e',k2,_⟩:=newB id' hil' t2
       rw[hρge id hil] at h1
       rw[hρge id' hil'] at h2
       have:=M2.inj _ _ b (by rw[k1];rfl) (by rw[k2];rfl) h1 h2
       omega
   ·cases hap
  ·cases hap
 ·cases hap
end Go.Eng
end
noncomputable section
namespace Go.Eng
open Go Go.RowKit
mutual
theorem aX {ok:Nat→Nat→Prop}{w:World}:∀(k:Kd) {u:U} {v:Value},AR ok w k u v→KdU BF k u
 | .int _ _ _,_,_,⟨n,h1,_,h3⟩=>⟨n,h1,h3⟩
 | .bool,_,_,⟨b,h1,_⟩=>⟨b,h1⟩
 | .str,_,_,⟨s,h1,_,h2⟩=>⟨s,h1,h2⟩
 | .val,_,_,_=>trivial
 | .any,_,_,_=>trivial
 | .list ks,_,_,⟨l,h0,h1,h2,a,cap,_,_,h5⟩=>by
  refine⟨l,h0,h1,fun i us hi=>?_⟩
  have hl:0 < l.length:=by have:=(List.getElem?_eq_some_iff.1 hi).1;omega
  obtain⟨b,o,_,hc⟩:=h5 hl
  exact XX ks (hc i us hi)
theorem XX {ok:Nat→Nat→Prop}{w:World}:∀(ks:List Kd) {b off:Nat} {us:List U},AW ok w ks b off us→CO BF ks us
 |[],_,_,_,h=>h
 |k::ks,_,_,_,⟨u,us',e,⟨_,v,_,h3⟩,h4⟩=>⟨u,us',e,aX k h3,XX ks h4⟩
end
section
variable {T:Tab}{n:Nat}{ρ :Nat→Option Nat}{m:Mem}{w:World}
theorem Zl {k:Kd}{x:Nat}{v:Value}(h:AB T n ρ m w (ND k x) v):KdU BF k (T x):=by
 cases k with
 |int k lo hi=>obtain⟨_,i,h1,_,h3⟩:=h;exact⟨i,h1,h3⟩
 |bool=>obtain⟨_,b,h1,_⟩:=h;exact⟨b,h1⟩
 |str=>obtain⟨_,s,h1,_,h2⟩:=h;exact⟨s,h1,h2⟩
 |val=>trivial
 |any=>trivial
 |list ks=>exact aX (.list ks) h.2
def TY (ks:List Kd)(us:List U):Prop:=∀(j:Nat) (k:Kd) (u:U),ks[j]? =some k→us[j]? =some u→KdU BF k u
theorem Qw:∀{ks:List Kd} {x:Nat} {cs:List Value},AD T n ρ m w (OI x ks) cs→∀(j:Nat) (k:Kd),ks[j]? =some k→KdU BF k (T (x+j))
 |[],_,_,_,j,k,hj=>by simp at hj
 |k0::ks,x,cs,⟨u,us,_,h1,h2⟩,j,k,hj=>by
  cases j with
  |zero=>simp at hj;subst hj;exact Zl h1
  |succ j=>
   have:=Qw h2 j k (by simpa using hj)
   rw[show x+(j+1)=x+1+j by omega]
   exact this
theorem Lj:∀{sh:List TG} {x:Nat} {vs:List Value},AD T n ρ m w (NR x sh) vs→∀(j:Nat) (k:Kd),(EE sh)[j]? =some k→KdU BF k (T (x+j))
 |[],_,_,_,j,k,hj=>by simp[EE] at hj
 | .one k0::r,x,vs,⟨u,us,_,h1,h2⟩,j,k,hj=>by
  simp only[EE] at hj
  cases j with
  |zero=>simp at hj;subst hj;exact Zl h1
  |succ j=>
   have:=Lj h2 j k (by simpa using hj)
   rw[show x+(j+1)=x+1+j by omega]
   exact this
 | .agg ks::r,x,vs,⟨u,us,_,h1,h2⟩,j,k,hj=>by
  simp only[EE] at hj
  rw[List.getElem?_append] at hj
  split at hj
  ·obtain⟨cs,_,h3⟩:=h1
   exact Qw h3 j k hj
  ·rename_i hge
   have:=Lj h2 (j - ks.length) k hj
   rw[show x+ks.length+(j - ks.length)=x+j by omega] at this
   exact this
 | .ptr j0 off::r,x,vs,⟨u,us,_,h1,h2⟩,j,k,hj=>Lj h2 j k hj
theorem XJ:∀{bs:List (List Kd × TypeId)} {x i0:Nat},(∀i,i < bs.length→BU T n ρ m w (i0+i) ((Ju x bs).at i))→∀(j:Nat) (k:Kd),(M9 bs)[j]? =some k→KdU BF k (T (x+j))
 |[],_,_,_,j,k,hj=>by simp[M9] at hj
 |(ks,e)::r,x,i0,hb,j,k,hj=>by
  have e1:M9 ((ks,e)::r)=ks++M9 r:=rfl
  rw[e1,List.getElem?_append] at hj
  split at hj
  ·obtain⟨b,vs,_,_,h3⟩:=hb 0 (by simp)
   exact Qw h3 j k hj
  ·rename_i hge
   have:=XJ (bs:=r) (x:=x+ks.length) (i0:=i0+1) (fun i hi=>by
    have:=hb (i+1) (by simpa using hi)
    rw[show i0+(i+1)=i0+1+i by omega] at this
    simpa [Ju,Mem.at] using this) (j - ks.length) k hj
   rw[show x+ks.length+(j - ks.length)=x+j by omega] at this
   exact this
end
def Ps (nh nm:Nat)(rs:List Rf)(mh m:Mem)(h c:AC):Option (List Pr):=
 match h,c with
 | .agg l,.agg l'=>JW nh nm rs mh m l l'
 |h,c=>JI nh nm rs mh m h c
def Ip (nh nm:Nat)(rs:List Rf)(mh m:Mem):List AC→List AC→Option (List Pr)
 |[],[]=>some []
 |h::l,c::l'=>L7 (Ps nh nm rs mh m h c) (Ip nh nm rs mh m l l')
 |_,_=>none
def Tv (nh nm:Nat)(rs:List Rf)(mh m:Mem)(h c:AC):Option (List Pr):=
 match h,c with
 | .tup l,.tup l'=>Ip nh nm rs mh m l l'
 |h,c=>Ps nh nm rs mh m h c
section
variable {T1 T2:Tab}{ρ :Nat→Option Nat}{m mh:Mem}{w:World}{nh n1 n2:Nat}{rs:List Rf}
theorem Ry (M:HT T1 T2 ρ m mh w nh mh.length)(hn:nh≤n2)(H:Eb T1 T2 nh n2 rs)(S:Db T1 T2 nh mh m){h c:AC}{ps:List Pr}(hm:Ps nh mh.length rs mh m h c=some ps)(hps:∀p∈ps,p.holds T1){v:Value}
  (hv:AB T1 n1 ρ m w c v):AB T2 n2 ρ mh w h v:=by
 unfold Ps at hm
 split at hm
 ·obtain⟨vs,e,h1⟩:=hv
  exact⟨vs,e,NP M hn H S hm hps vs h1⟩
 ·exact Je hm M hn H S hps hv
theorem QZ (M:HT T1 T2 ρ m mh w nh mh.length)(hn:nh≤n2)(H:Eb T1 T2 nh n2 rs)(S:Db T1 T2 nh mh m):∀{l l':List AC} {ps:List Pr},Ip nh mh.length rs mh m l l'=some ps→(∀p∈ps,p.holds T1)→
  ∀vs,AD T1 n1 ρ m w l' vs→AD T2 n2 ρ mh w l vs
 |[],[],ps,_,_,vs,h=>h
 |[],_::_,ps,h,_,_,_=>by simp[Ip] at h
 |_::_,[],ps,h,_,_,_=>by simp[Ip] at h
 |a::l,c::l',ps,h,hps,vs,⟨u,us,h1,h2,h3⟩=>by
  simp only[Ip] at h
  obtain⟨ps1,ps2,e1,e2,rfl⟩:=Eo h
  exact⟨u,us,h1,Ry M hn H S e1 (fun p hp=>hps p (List.mem_append_left _ hp)) h2,QZ M hn H S e2 (fun p hp=>hps p (List.mem_append_right _ hp)) us h3⟩
theorem bz (M:HT T1 T2 ρ m mh w nh mh.length)(hn:nh≤n2)(H:Eb T1 T2 nh n2 rs)(S:Db T1 T2 nh mh m){h c:AC}{ps:List Pr}(hm:Tv nh mh.length rs mh m h c=some ps)(hps:∀p∈ps,p.holds T1){v:Value}
  (hv:AB T1 n1 ρ m w c v):AB T2 n2 ρ mh w h v:=by
 unfold Tv at hm
 split at hm
 ·obtain⟨vs,e,h1⟩:=hv
  exact⟨vs,e,QZ M hn H S hm hps vs h1⟩
 ·exact Ry M hn H S hm hps hv
end
def U4 (t:Ak)(rs:List Rf)(c0:AC)(m0:Mem)(g0:G):Option (List Pr):=
 if QT t.n g0&&Nat.beq rs.length t.outs.length&&Nat.ble t.m.length t.m'.length then
  L7 (JQ [] t.n t.m'.length rs t.m' m0 t.m' m0) (Tv t.n t.m'.length rs t.m' m0 t.c c0)
 else none
theorem gf {P:Program}{f:FuncId}{t:Ak}(hm:P.follows .mixedOrders=true){ctx:FuncId→Option A8}{Ag:FuncId→G4}{fuel depth:Nat}(hctx:∀f c,ctx f=some c→∀T,∀ys k args pc m g c' m' g',k=f→CN P T.lp ys→c ys k args pc m g=some (c',m',g')→AP g g'∧(Agr T g'→An T g'→pcv T pc→BJ T g pc→∀ ρ w vs,AD T g.n ρ m w args vs→AH T g.n ρ m w→
   (∃fn,P.funcs[k]? =some fn∧fn.body.isSome=true∧(fn.name== "runtime.NumGoroutine")=false)∧Calls P k (vs:List Value).toArray w (KV T g ρ m w c' m' g')))
  {c0:AC} {m0:Mem} {g0:G} {rs:List Rf} {ps:List Pr} (hrun:Hw P ctx Ag fuel depth (fun _=>none) f t.args none t.m { n:=t.n,eqs:=[],obs:=[] }=some (c0,m0,g0)) (hok:U4 t rs c0 m0 g0=some ps)
  (hne:∀id,id < t.m.length→t.m'.at id≠ .pad)
  (hplain:∀(T:Tab) (us:List U),us.length=t.n→TY t.ks us→(∀p∈t.pre,p.2 us)→(∀j u,us[j]? =some u→T j=u)→(∀p∈g0.eqs,T p.1=p.2.eval T)→An T g0∧(∀p∈ps,p.holds T)∧rs.map (Rf.eval T)=t.outs.map fun o=>o.2 us):Ao P f t:=by
 refine⟨fun s=>(E7 g0.lps s).getD YB,fun T us hlp hul hT hpre ρ w vs hvs hmem=>?_⟩
 unfold U4 at hok
 split at hok
 ·rename_i hc
  simp only[Bool.and_eq_true] at hc
  obtain⟨⟨hc1,hc2⟩,hc3⟩:=hc
  obtain⟨ps1,ps2,hm1,hm2,rfl⟩:=Eo hok
  unfold QT at hc1
  rw[Bool.and_eq_true] at hc1
  have hrl:=Nat.eq_of_beq_eq_true hc2
  obtain⟨r1,r2,r3⟩:=IU g0.eqs T
  have hout:=(DR (T:=T) hc1.1).2.2
  have hlt:∀x,x < t.n→BW T g0.eqs x=T x:=fun x hx=>hout x (.inl hx)
  have hlow:∀j u,us[j]? =some u→T j=u:=fun j u hj=>hT j u (by unfold Ak.us;rw[List.getElem?_append_left (List.getElem?_eq_some_iff.1 hj).1];exact hj)
  have S:Ec T (BW T g0.eqs) t.n:=⟨hlt,r1,r2⟩
  have hA:Agr (BW T g0.eqs) g0:=⟨fun p hp=>IE (fv:=[]) (nh:=0) (fun x hx=>by cases hx) (Nat.zero_le _) hc1.1 p hp,fun p hp=>by
   rw[r2,hlp]
   show (E7 g0.lps p.1).getD YB=p.2
   rw[Mg hc1.2 p hp];rfl⟩
  have hin:TY t.ks us:=fun j k u hk hu=>by
   have hTj:=hlow j u hu
   rw[←hTj]
   unfold Ak.ks at hk
   rw[List.getElem?_append] at hk
   split at hk
   ·have:=Lj hvs j k hk
    rw[Nat.zero_add] at this;exact this
   ·rename_i hge
    have:=XJ (bs:=t.blks) (x:=(EE t.sh).length) (i0:=0) (fun i hi=>by rw[Nat.zero_add];exact hmem.blk i) (j - (EE t.sh).length) k hk
    rw[show (EE t.sh).length+(j - (EE t.sh).length)=j by omega] at this
    exact this
  obtain⟨hob,hps,hrs⟩:=hplain (BW T g0.eqs) us hul hin hpre (fun j u hj=>by
   have:=(List.getElem?_eq_some_iff.1 hj).1
   rw[hlt j (by omega)];exact hlow j u hj) hA.eqs
  obtain⟨_,hsound⟩:=M7 (Ag:=Ag) (fuel:=fuel) hm hctx depth (BW T g0.eqs) (fun _=>none) f t.args none t.m _ c0 m0 g0 (fun T' _ s y hy=>by cases hy) hrun
  have hm':=hmem.tab S
  obtain⟨hfn,hcalls⟩:=hsound hA hob trivial trivial ρ w vs (AD.tab S (fun b off h=>S.safe hmem h) _ _ hvs) hm'
  refine⟨hfn,hcalls.mono fun e w' hh=>?_⟩
  obtain⟨v, ρ',rfl,q1,q2,q3⟩:=hh
  have H:Eb (BW T g0.eqs) T t.n (t.n+t.outs.length) rs:=fun j r hj=>by
   have hjl:=(List.getElem?_eq_some_iff.1 hj).1
   refine⟨by omega,?_⟩
   have h1:(rs.map (Rf.eval (BW T g0.eqs)))[j]? =some (r.eval (BW T g0.eqs)):=by simp[hj]
   rw[hrs] at h1
   exact hT (t.n+j) _ (by
    unfold Ak.us
    rw[List.getElem?_append_right (by omega),hul,show t.n+j - t.n=j by omega]
    exact h1)
  obtain⟨Sh,hpad⟩:=MY (T1:=BW T g0.eqs) (T2:=T) hm1 H
  have heq:∀x,x < t.n→T x=BW T g0.eqs x:=fun x hx=>(hlt x hx).symm
  have hne':∀id,t.m.at id≠ .pad→t.m'.at id≠ .pad:=fun id h=>by
   rcases Nat.lt_or_ge id t.m.length with hl|hl
   ·exact hne id hl
   ·exact absurd (Mem.at_ge hl) h
  have hnk:t.n≤t.n+t.outs.length:=Nat.le_add_right _ _
  have M:HT (BW T g0.eqs) T ρ' m0 t.m' w' t.n t.m'.length:=Sh.move hpad heq r1.symm
  refine⟨v, ρ',rfl,AJ.matched Sh heq (Nat.le_refl _) hm' hne' q1,?_,bz M hnk H Sh hm2 (fun p hp=>hps p (List.mem_append_right _ hp)) q3⟩
  have hmatch:Es [] t.n rs ⟨⟨0,[],.nil⟩,t.m'⟩ ⟨⟨0,[],.nil⟩,m0⟩=some (ps1++[]):=by
   simp only[Es,Iu,List.isEmpty_nil,Bool.true_and,(DI 0 0).2 rfl,if_true]
   rw[hm1];rfl
  have hR:Rel ((BW T g0.eqs).atBase 0) g0.n ρ' ⟨⟨0,[],.nil⟩,m0⟩ { tmps:= #[],defers:=[] } w':=⟨DU.nil _ _ _ (Nat.zero_le _),rfl,(fun i c hc=>by simp[AQ.get,BR,Tr.get] at hc),q2.tab (Bz _ 0 _)⟩
  obtain⟨z1,_,_⟩:=Hb (T1:=(BW T g0.eqs).atBase 0) (T2:=T.atBase 0) hmatch (fun p hp=>by cases hp) r1.symm r2.symm rfl heq hnk H (fun p hp=>Rz.2 (hps p (by rw[List.append_nil] at hp;exact List.mem_append_left _ hp))) hR
  exact z1.mem.tab (Bz T 0 _).symm
 ·cases hok
end Go.Eng
end
noncomputable section
namespace Go.Eng
open Go Go.RowKit
def Lv:List (FuncId × Ak)→FuncId→Option A8
 |[],_=>none
 |(f,t)::r,k=>if Nat.beq f k then some (Un t) else Lv r k
theorem Oq {P:Program}:∀{l:List (FuncId × Ak)},(∀p∈l,Ao P p.1 p.2)→∀f c,Lv l f=some c→∀T,∀ys k args pc m g c' m' g',k=f→CN P T.lp ys→c ys k args pc m g=some (c',m',g')→AP g g'∧(Agr T g'→An T g'→pcv T pc→BJ T g pc→∀ ρ w vs,AD T g.n ρ m w args vs→AH T g.n ρ m w→
  (∃fn,P.funcs[k]? =some fn∧fn.body.isSome=true∧(fn.name== "runtime.NumGoroutine")=false)∧Calls P k (vs:List Value).toArray w (KV T g ρ m w c' m' g'))
 |[],_,f,c,h=>by simp[Lv] at h
 |(f0,t)::r,hl,f,c,h=>by
  simp only[Lv] at h
  split at h
  ·rename_i hb
   cases h
   have e:=Nat.eq_of_beq_eq_true hb
   subst e
   intro T ys k args pc m g c' m' g' hk _ hap
   subst hk
   exact az (hl (k,t) (List.mem_cons_self ..)) T ys args pc m g c' m' g' hap
  ·exact Oq (fun p hp=>hl p (List.mem_cons_of_mem _ hp)) f c h
section
variable {P:Program}{w:World}{B:Nat}
theorem ip {H:Type}{enc:TypeId × Value→H}{sp:Nat→Bool}{held:Bool}{base:Nat}(hB:B≤BF)(hm:P.follows .mixedOrders=true){l:List (FuncId × Ak)}(hl:∀p∈l,Ao P p.1 p.2){Ag:FuncId→G4}{fuel depth dd:Nat}{f:FuncId}{ts:List TypeId}{as:List AC}{ks:List Kd}{c:AC}{m':Mem}{g':G}
  (hargs:Fj P dd ts 0=some (as,ks)) (hrun:Hw P (Lv l) Ag fuel depth (fun _=>none) f as none [] { n:=ks.length,eqs:=[],obs:=[] }=some (c,m',g')) (hchk:QT ks.length g'=true)
  (hplain:∀(T:Tab) (us:List U),CO B ks us→us.length=ks.length→(∀j u,us[j]? =some u→T j=u)→(∀p∈g'.eqs,T p.1=p.2.eval T)→An T g'∧jN T c)
  {vs:List Value} {ds:List (DataW H)} {ps:List MemPlace} (ht:DataW.TrodAll enc P w 0 sp held ts vs ds ps) (hv:∀(j:Nat) t v,ts[j]? =some t→vs[j]? =some v→Value.okWide P w .any base t v) (hs:∀d∈ds,Cs B d):
  Calls P f (vs:List Value).toArray w fun e W'=>e= .returned (.bool true)∧Below w.heap.size w W':=by
 obtain⟨us,u1,u2,u3⟩:=X5 hB ts hargs ht hv hs
 unfold QT at hchk
 rw[Bool.and_eq_true] at hchk
 generalize hT:BW (Uz g'.lps us) g'.eqs=T
 obtain⟨r1,r2,r3⟩:=IU g'.eqs (Uz g'.lps us)
 rw[hT] at r1 r2 r3
 have hlow:∀j u,us[j]? =some u→T (0+j)=u:=fun j u hj=>by
  have hjl:=(List.getElem?_eq_some_iff.1 hj).1
  rw[Nat.zero_add,←hT,(DR hchk.1).2.2 j (.inl (by omega))]
  show us.getD j default=u
  simp[List.getD,hj]
 have hA:Agr T g':=by
  refine⟨fun p hp=>?_,fun p hp=>?_⟩
  ·rw[←hT]
   exact IE (fv:=[]) (nh:=0) (fun x hx=>by cases hx) (Nat.zero_le _) hchk.1 p hp
  ·rw[r2]
   show (E7 g'.lps p.1).getD YB=p.2
   rw[Mg hchk.2 p hp];rfl
 obtain⟨p1,p2⟩:=hplain T us u1 u2 (fun j u hj=>by have:=hlow j u hj;rw[Nat.zero_add] at this;exact this) hA.eqs
 have hsafe:∀b off,b < w.heap.size→Ai T (fun _=>none) [] w b off:=fun b off hb=>⟨hb,by rw[r1];trivial,fun id=>trivial⟩
 have hmem:AH T ks.length (fun _=>none) [] w:=⟨fun id=>trivial,(fun id id' b h=>by cases h),fun b off _=>by rw[r1];trivial⟩
 obtain⟨_,hsound⟩:=M7 (Ag:=Ag) (fuel:=fuel) hm (Oq hl) depth T (fun _=>none) f as none [] _ c m' g' (fun T' _ s y hy=>by cases hy) hrun
 obtain⟨_,hc⟩:=hsound hA p1 trivial trivial (fun _=>none) w vs (u3 T _ hsafe hlow ks.length (by omega)) hmem
 refine hc.mono fun e W' ⟨v, ρ',e1,e2,e3,e4⟩=>?_
 refine⟨?_,e2.os,e2.tape,e2.output,e2.size,fun k hk=>e2.old k hk (fun id h=>by cases h)⟩
 rw[e1]
 congr 1
 cases c with
 |cb b=>rw[show b=true from p2] at e4;exact e4
 |b x=>
  obtain⟨_,b,h1,h2⟩:=e4
  rw[show T x=_ from p2] at h1
  cases h1
  exact h2
 |nb x=>
  obtain⟨_,b,h1,h2⟩:=e4
  rw[show T x=_ from p2] at h1
  cases h1
  exact h2
 |_=>exact p2.elim
end
end Go.Eng
end
noncomputable section
namespace Go.Eng
open Go Go.RowKit
theorem MW {H:Type}{enc:TypeId × Value→H}{P:Program}(hl:laidOutB P=true){W W':World}(hb:Below W.heap.size W W'){sp:Nat→Bool}:∀{ts:List TypeId} {vs:List Value} {ds:List (DataW H)} {ps:List MemPlace},
  (∀t∈ts,P.readableRec t=true∧t < P.types.size)→DataW.TrodAll enc P W 0 (fun _=>true) true ts vs ds ps→(∀x∈ps,x.block < W.heap.size)→(∀x∈ps,sp x.block=true)→DataW.TrodAll enc P W' 0 sp true ts vs ds ps
 |[],[],[],_,_,h,_,_=>h
 |t::ts,v::vs,d::ds,ps,ht,⟨p,q,h1,h2,e⟩,hlt,hs=>by
  subst e
  obtain⟨r1,r2⟩:=ht t (List.mem_cons_self ..)
  exact⟨p,q,WideElems.Trod_stays hl r1 r2 h1 (fun x hx=>hb.same (hlt x (List.mem_append_left _ hx))) (fun x hx=>hs x (List.mem_append_left _ hx)),
   MW hl hb (fun t h=>ht t (List.mem_cons_of_mem _ h)) h2 (fun x hx=>hlt x (List.mem_append_right _ hx)) (fun x hx=>hs x (List.mem_append_right _ hx)),rfl⟩
 |[],_::_,_,_,_,h,_,_=>h.elim
 |[],[],_::_,_,_,h,_,_=>h.elim
 |_::_,[],_,_,_,h,_,_=>h.elim
 |_::_,_::_,[],_,_,h,_,_=>h.elim
end Go.Eng
end
noncomputable section
namespace Go.Eng
open Go Go.RowKit Go.ChangeShapes Go.WideShapes
theorem eG {H:Type}{enc:TypeId × Value→H}{P:Program}{f:Func}{s:ChangeSpec}{apart fresh handsOn again:Bool}{W W':World}{args:Array Value}{ds gs:List (DataW H)}{before:List MemPlace}{tb:TypeId}
  (hl:laidOutB P=true) (hrec:∀t∈f.params.toList,P.readableRec t=true∧t < P.types.size) (hres:f.resultTypes= #[tb]) (htb:P.underlying tb=some .bool) (hvs:s.vars=[])
  (hfn:s.fn H (ds++gs)={ results:=[.lit (.bool true)],args:=ds })
  (hW:DataW.Whole enc P f.params.toList s.vars apart W args.toList ds gs before) (hb:Below W.heap.size W W'):s.post enc P f apart fresh handsOn again W args (.bool true) W':=by
 have hlt:∀p∈before,p.block < W.heap.size:=hW.lt
 have hW0:=hW
 obtain⟨p,q,hA,hV,rfl,hz,hn⟩:=hW
 have hq:q=[]:=by
  rw[hvs] at hV
  cases gs with
  |nil=>exact hV
  |cons=>exact hV.elim
 subst hq
 have hold:∀x∈p++[],(fun b=>decide (b < W.heap.size)) x.block=true:=fun x hx=>by simpa using hlt x hx
 have hargs:∀sp:Nat→Bool,(∀x∈p++[],sp x.block=true)→DataW.TrodAll enc P W' 0 sp true f.params.toList args.toList (s.fn H (ds++gs)).args p:=fun sp hsp=>by
  rw[hfn]
  exact MW hl hb hrec hA (fun x hx=>hlt x (by simp[hx])) (fun x hx=>hsp x (by simp[hx]))
 have hvars:∀sp:Nat→Bool,DataW.TrodVars enc P W' sp s.vars (s.fn H (ds++gs)).vars []:=fun sp=>by rw[hfn,hvs];rfl
 have hr:∀(b:Nat) (sp:Nat→Bool) (hd:Bool),DataW.TrodAll enc P W' b sp hd f.resultTypes.toList ((Value.bool true).resultList f.resultTypes.size) (s.fn H (ds++gs)).results []:=fun b sp hd=>by
  rw[hfn,hres]
  exact⟨[],[],⟨1,by simp[DataW.trod,htb,Value.cells]⟩,rfl,rfl⟩
 refine⟨ds,gs,p++[],[],p,[],hW0,hr _ _ _,hargs _ hold,hvars _,World.keptBut_mono (fun x hx=>⟨hx,.inr (by simpa using hx)⟩) (hb.frame (· ∈p++[])),fun _=>?_⟩
 refine⟨fun j t r h1 h2=>?_,_,_,([]++p)++[],⟨[]++p,[],trodAll_append (hargs _ (fun _ _=>rfl)) (hr _ _ _),hvars _,rfl,?_,?_⟩,?_⟩
 ·exact ok_one hres (by rfl) (by simp[Value.okWide,htb,Cell.okWide,Cell.ok]) j t r h1 h2
 ·intro b off hp
  rw[hb.frozen (hlt _ (by simpa using hp))]
  exact hz b off (by simpa using hp)
 ·intro ha
  simpa using hn ha
 ·intro x hx _
  simpa using hx
end Go.Eng
end
noncomputable section
namespace Go.Eng
open Go
inductive Ty where
 |i|b|l|r (c:Nat)|s
 deriving DecidableEq
def I (T:Tab)(x:Nat):Int:=(T.get x).toI
def B (T:Tab)(x:Nat):Bool:=(T.get x).toB
def L (T:Tab)(x:Nat):List (List U):=(T.get x).toL
def S (T:Tab)(x:Nat):ByteArray:=(T.get x).toS
def iR (T:Tab)(r:Rf):Int:=(r.eval T).toI
def bR (T:Tab)(r:Rf):Bool:=(r.eval T).toB
def lR (T:Tab)(r:Rf):List (List U):=(r.eval T).toL
def stR (T:Tab)(r:Rf):ByteArray:=(r.eval T).toS
def uR (T:Tab):Ty→Rf→U
 | .i,r=> .int (iR T r)
 | .b,r=> .bool (bR T r)
 | .l,r=> .list (lR T r)
 | .r _,r=>r.eval T
 | .s,r=> .str (stR T r)
theorem iR_c {T:Tab}{n:Int}:iR T (.c (.int n))=n:=Eq.trans rfl rfl
theorem iR_e {T:Tab}{x:Nat}:iR T (.e x)=I T x:=Eq.trans rfl rfl
theorem bR_c {T:Tab}{n:Bool}:bR T (.c (.bool n))=n:=Eq.trans rfl rfl
theorem AG {T:Tab}{x:Nat}:bR T (.e x)=B T x:=Eq.trans rfl rfl
theorem bR_n {T:Tab}{x:Nat}:bR T (.n x)= !B T x:=Eq.trans rfl rfl
theorem lR_c {T:Tab}:lR T (.c (.list []))=[]:=Eq.trans rfl rfl
theorem lR_e {T:Tab}{x:Nat}:lR T (.e x)=L T x:=Eq.trans rfl rfl
theorem jh {T:Tab}{s:ByteArray}:stR T (.c (.str s))=s:=Eq.trans rfl rfl
theorem ju {T:Tab}{x:Nat}:stR T (.e x)=S T x:=Eq.trans rfl rfl
def Pg (T:Tab):List Rf→Int→Int
 |[],_=>0
 |a::l,n=>if n≤0 then iR T a else Pg T l (n - 1)
def PK (T:Tab):List Rf→Int→Prop
 |[],_=>False
 |a::l,n=>(n≤0∧bR T a=true)∨(¬n≤0∧PK T l (n - 1))
def AA (l:List (List U))(i c:Nat):Int:=((l.getD i []).getD c default).toI
def Ll (l:List (List U))(i c:Nat):Bool:=((l.getD i []).getD c default).toB
def FK (l:List (List U))(i c:Nat):List (List U):=((l.getD i []).getD c default).toL
inductive Op2 where
 |add|sub|mul|div|mod|tdiv|tmod|min|max
def Op2.f:Op2→Int→Int→Int
 | .add=>eK| .sub=>dJ| .mul=>Yf| .div=>eN| .mod=>VS| .tdiv=>QO| .tmod=>ZI| .min=>RF| .max=>RN
inductive Opn where
 |id (t:Ty)|not|and|or|lt|le|eq|ne
 |eqs (ts:List Ty)|nes (ts:List Ty)|eqb|neb
 |ite (t:Ty)|ifb
 |o2 (o:Op2)|w2 (k:IntKind) (o:Op2)|w1 (k:IntKind)|wneg (k:IntKind)|neg|bits (o:BinOp) (k:IntKind)
 |take|drop|sub|slen|sat
 |len|app|get (t:Ty) (c:Nat)|pick (t:Ty)|row (k s:Nat) (ts:List Ty)
 |outI (tg:String) (f:List U→Int)|outB (tg:String) (f:List U→Bool)|outL (tg:String) (f:List U→List (List U))|res (t:Ty) (D:Ae) (j:Nat)
def Bi (f:List U→Int)(us:List U):U:= .int (f us)
def DF (f:List U→Bool)(us:List U):U:= .bool (f us)
def LQ (f:List U→List (List U))(us:List U):U:= .list (f us)
def opF:Opn→List U→U
 | .id _=>oId| .not=>Qt| .and=>NF| .or=>oOr| .lt=>oLt| .le=>oLe| .eq=>oEq| .ne=>oNe
 | .eqs _=>Y3| .nes _=>Zg| .eqb=>dI| .neb=>dX
 | .ite _=>oIf| .ifb=>ZE
 | .o2 o=>Go.Eng.o2 o.f| .w2 k o=>If k (Go.Eng.o2 o.f)| .w1 k=>If k oId| .wneg k=>If k T6| .neg=>T6| .bits o k=>Go.Eng.o2 (Cq o k)
 | .take=>ZR| .drop=>Y6| .sub=>cq| .slen=>YX| .sat=>cR
 | .len=>dr| .app=>UV| .get _ c=>Yr c| .pick _=>QD| .row k s _=>U3 k s
 | .outI _ f=>Bi f| .outB _ f=>DF f| .outL _ f=>LQ f| .res _ D j=>D.res j
structure En where
 x:Nat
 op:Opn
 rs:List Rf
def En.be (e:En):Nat × (List U→U) × List Rf:=(e.x,opF e.op,e.rs)
def Bd (T:Tab):List Ty→List Rf→Prop
 | .i::ts,a::b::r=>iR T a=iR T b∧Bd T ts r
 | .b::ts,a::b::r=>(bR T a=true↔bR T b=true)∧Bd T ts r
 |_,_=>True
def AS (o:Op2)(c a b:Int):Prop:=match o with
 | .add=>c=a+b| .sub=>c=a - b| .mul=>c=a*b| .div=>c=a / b| .mod=>c=a % b
 | .tdiv=>c=if 0≤a then a / b else -(-a / b)
 | .tmod=>c=if 0≤a then a % b else -(-a % b)
 | .min=>c=if a≤b then a else b
 | .max=>c=if a≤b then b else a
def w2P (k:IntKind)(o:Op2)(c a b:Int):Prop:=match k,o with
 | .i64,.add=> -9223372036854775808≤a+b→a+b≤9223372036854775807→c=a+b
 | .i64,.sub=> -9223372036854775808≤a - b→a - b≤9223372036854775807→c=a - b
 | .i64,.mul=> -9223372036854775808≤a*b→a*b≤9223372036854775807→c=a*b
 |k,o=>c=k.wrap (o.f a b)
def wnP (k:IntKind)(c a:Int):Prop:=match k with
 | .i64=>(-9223372036854775807≤a→a≤9223372036854775808→c= -a)∧(a= -9223372036854775808→c=a)
 |k=>c=k.wrap (0 - a)
def AE (T:Tab)(e:En):Prop:=
 match e with
 |⟨x,.id .i,[a]⟩=>I T x=iR T a
 |⟨x,.id .b,[a]⟩=>(B T x=true↔bR T a=true)
 |⟨x,.id .l,[a]⟩=>L T x=lR T a
 |⟨x,.not,[a]⟩=>(B T x=true↔¬bR T a=true)
 |⟨x,.and,[a,b]⟩=>(B T x=true↔(bR T a=true∧bR T b=true))
 |⟨x,.or,[a,b]⟩=>(B T x=true↔(bR T a=true∨bR T b=true))
 |⟨x,.lt,[a,b]⟩=>(B T x=true↔iR T a < iR T b)
 |⟨x,.le,[a,b]⟩=>(B T x=true↔iR T a≤iR T b)
 |⟨x,.eq,[a,b]⟩=>(B T x=true↔iR T a=iR T b)
 |⟨x,.ne,[a,b]⟩=>(B T x=true↔¬iR T a=iR T b)
 |⟨x,.eqs ts,r⟩=>(B T x=true↔Bd T ts r)
 |⟨x,.nes ts,r⟩=>(B T x=true↔¬Bd T ts r)
 |⟨x,.eqb,[a,b]⟩=>(B T x=true↔(bR T a=true↔bR T b=true))
 |⟨x,.neb,[a,b]⟩=>(B T x=true↔¬(bR T a=true↔bR T b=true))
 |⟨x,.ite .i,[a,b,c]⟩=>I T x=if bR T a=true then iR T b else iR T c
 |⟨x,.ite .b,[a,b,c]⟩=>(B T x=true↔((bR T a=true∧bR T b=true)∨(¬bR T a=true∧bR T c=true)))
 |⟨x,.ite .l,[a,b,c]⟩=>L T x=if bR T a=true then lR T b else lR T c
 |⟨x,.ifb,[a,b,c]⟩=>(B T x=true↔((bR T a=true∧bR T b=true)∨(¬bR T a=true∧bR T c=true)))
 |⟨x,.o2 o,[a,b]⟩=>AS o (I T x) (iR T a) (iR T b)
 |⟨x,.w2 k o,[a,b]⟩=>w2P k o (I T x) (iR T a) (iR T b)
 |⟨x,.w1 k,[a]⟩=>I T x=k.wrap (iR T a)
 |⟨x,.wneg k,[a]⟩=>wnP k (I T x) (iR T a)
 |⟨x,.neg,[a]⟩=>I T x= -iR T a
 |⟨x,.bits o k,[a,b]⟩=>I T x=Cq o k (iR T a) (iR T b)
 |⟨x,.len,[a]⟩=>I T x=(lR T a).length
 |⟨x,.app,[a,b]⟩=>L T x=lR T a++lR T b
 |⟨x,.take,[a,b]⟩=>L T x=(lR T a).take (iR T b).toNat
 |⟨x,.drop,[a,b]⟩=>L T x=(lR T a).drop (iR T b).toNat
 |⟨x,.sub,[a,b,c]⟩=>L T x=((lR T a).take (iR T c).toNat).drop (iR T b).toNat
 |⟨x,.slen,[a]⟩=>I T x=(stR T a).size
 |⟨x,.sat,[a,b]⟩=>I T x=Bm (stR T a) (iR T b).toNat
 |⟨x,.get .i c,[a,b]⟩=>I T x=AA (lR T a) (iR T b).toNat c
 |⟨x,.get .b c,[a,b]⟩=>B T x=Ll (lR T a) (iR T b).toNat c
 |⟨x,.get .l c,[a,b]⟩=>L T x=FK (lR T a) (iR T b).toNat c
 |⟨x,.pick .i,a::r⟩=>I T x=Pg T r (iR T a)
 |⟨x,.pick .b,a::r⟩=>(B T x=true↔PK T r (iR T a))
 |⟨x,.row k s ts,r⟩=>L T x=AY s k (List.zipWith (uR T) ts r)
 |⟨x,.outI _ f,r⟩=>I T x=f (r.map (Rf.eval T))
 |⟨x,.outB _ f,r⟩=>B T x=f (r.map (Rf.eval T))
 |⟨x,.outL _ f,r⟩=>L T x=f (r.map (Rf.eval T))
 |_=>True
def Ov:Ty→Bool| .i=>true| .b=>true|_=>false
abbrev Bx:=List (Nat × Ty)
def Or:Ty→Ty→Bool| .i,.i=>true| .b,.b=>true| .l,.l=>true| .r c,.r d=>Nat.beq c d| .s,.s=>true|_,_=>false
def MS:Bx→Nat→Ty→Bool
 |[],_,_=>false
 |(y,t)::r,x,u=>if Nat.beq y x&&Or t u then true else MS r x u
def tyR (env:Bx)(t:Ty):Rf→Bool
 | .c (.int _)=>Or t .i
 | .c (.bool _)=>Or t .b
 | .c (.list _)=>Or t .l
 | .c (.str _)=>Or t .s
 | .c _=>false
 | .n _=>Or t .b
 | .e x=>MS env x t
def IH (env:Bx):List Ty→List Rf→Bool
 |[],[]=>true
 |t::ts,r::rs=>tyR env t r&&IH env ts rs
 |_,_=>false
def DN:List Ty→List Ty
 |[]=>[]
 |t::ts=>t::t::DN ts
def uV (T:Tab)(t:Ty)(x:Nat):U:=uR T t (.e x)
def ZW (T:Tab)(x c:Nat):Prop:=∀i:Nat,∃n,((L T x).getD i []).getD c default= .int n
def Sty (T:Tab)(x:Nat):Ty→Prop
 | .r c=>ZW T x c
 |t=>T.get x=uV T t x
def AL (T:Tab):Bx→Prop
 |[]=>True
 |(x,t)::r=>Sty T x t∧AL T r
theorem Sty.get {T:Tab}{x:Nat}:∀{t:Ty},Sty T x t→T.get x=uV T t x
 | .i,h=>h
 | .b,h=>h
 | .l,h=>h
 | .r _,_=>rfl
 | .s,h=>h
def Oi (env:Bx)(e:En):Option (Option Ty):=
 match e.op,e.rs with
 | .id t,[a]=>some (if tyR env t a then some t else none)
 | .ite t,[_,b,c]=>some (if tyR env t b&&tyR env t c then some t else none)
 | .eqs ts,r=>if IH env (DN ts) r&&ts.all Ov then some (some .b) else none
 | .nes ts,r=>if IH env (DN ts) r&&ts.all Ov then some (some .b) else none
 | .row _ _ ts,r=>if IH env ts r then some (some .l) else none
 | .not,_| .and,_| .or,_| .lt,_| .le,_| .eq,_| .ne,_| .ifb,_| .eqb,_| .neb,_=>some (some .b)
 | .o2 _,_| .w2 _ _,_| .w1 _,_| .wneg _,_| .neg,_| .bits _ _,_| .len,_| .slen,_| .sat,_=>some (some .i)
 | .app,_| .take,_| .drop,_| .sub,_=>some (some .l)
 | .pick .i,_::r=>some (if r.all (tyR env .i) then some .i else none)
 | .pick .i,[]=>some none
 | .pick .b,_::b::r=>some (if (b::r).all (tyR env .b) then some .b else none)
 | .outI _ _,_=>some (some .i)
 | .outB _ _,_=>some (some .b)
 | .outL _ _,_=>some (some .l)
 | .get .i c,[.e x,_]=>some (if MS env x (.r c) then some .i else none)
 | .get _ _,_| .pick _,_| .res _ _ _,_=>some none
 |_,_=>none
def noR:Ty→Bool| .r _=>false|_=>true
def chk:Bx→List En→Option Bx
 |env,[]=>some env
 |env,e::r=>match Oi env e with
  |none=>none
  |some none=>chk env r
  |some (some t)=>if noR t then chk ((e.x,t)::env) r else none
section
variable {T:Tab}
theorem Nm {t u:Ty}(h:Or t u=true):t=u:=by cases t<;>cases u<;>first|rfl|(cases h;done)|(rw[Nat.eq_of_beq_eq_true h])
theorem Um:∀{env:Bx} {x:Nat} {t:Ty},AL T env→MS env x t=true→T.get x=uV T t x
 |[],_,_,_,h=>by cases h
 |(y,u)::r,x,t,hs,h=>by
  simp only[MS] at h
  split at h
  ·rename_i hb
   rw[Bool.and_eq_true] at hb
   have e:=Nat.eq_of_beq_eq_true hb.1
   subst e
   rw[←Nm hb.2];exact hs.1.get
  ·exact Um hs.2 h
theorem bV:∀{env:Bx} {x c:Nat},AL T env→MS env x (.r c)=true→ZW T x c
 |[],_,_,_,h=>by cases h
 |(y,u)::r,x,c,hs,h=>by
  simp only[MS] at h
  split at h
  ·rename_i hb
   rw[Bool.and_eq_true] at hb
   have e:=Nat.eq_of_beq_eq_true hb.1
   subst e
   have e2:=Nm hb.2
   subst e2
   exact hs.1
  ·exact bV hs.2 h
theorem Ho {env:Bx}{t:Ty}{r:Rf}(hs:AL T env)(h:tyR env t r=true):r.eval T=uR T t r:=by
 cases r with
 |c u=>cases u<;>simp only[tyR] at h<;>first|(have e:=Nm h;subst e;rfl)|cases h
 |e x=>exact Um hs h
 |n x=>have e:=Nm h;subst e;rfl
theorem FU {env:Bx}(hs:AL T env):∀{ts:List Ty} {rs:List Rf},IH env ts rs=true→rs.map (Rf.eval T)=List.zipWith (uR T) ts rs
 |[],[],_=>rfl
 |t::ts,r::rs,h=>by
  simp only[IH,Bool.and_eq_true] at h
  simp only[List.map_cons,List.zipWith_cons_cons]
  rw[Ho hs h.1,FU hs h.2]
 |[],_::_,h=>by cases h
 |_::_,[],h=>by cases h
theorem T7 {env:Bx}:∀{ts:List Ty} {rs:List Rf},IH env ts rs=true→rs.length=ts.length
 |[],[],_=>rfl
 |_::_,_::_,h=>by
  simp only[IH,Bool.and_eq_true] at h
  simp[T7 h.2]
 |[],_::_,h=>by cases h
 |_::_,[],h=>by cases h
theorem XP:∀{ts:List Ty} {rs:List Rf},rs.length=(DN ts).length→ts.all Ov=true→(E5 (List.zipWith (uR T) (DN ts) rs)=true↔Bd T ts rs)
 |[],[],_,_=>by simp[E5,DN,Bd]
 |t::ts,a::b::r,hl,hn=>by
  simp only[List.all_cons,Bool.and_eq_true] at hn
  have ih:=XP (ts:=ts) (rs:=r) (by simpa [DN] using hl) hn.2
  simp only[DN,List.zipWith_cons_cons,E5,Bool.and_eq_true]
  rw[ih]
  cases t with
  |i=>simp[uR,U.eqv,Bd]
  |b=>
   simp only[uR,U.eqv,Bd]
   cases bR T a<;>cases bR T b<;>simp
  |l=>exact absurd hn.1 (by simp[Ov])
  |r c=>exact absurd hn.1 (by simp[Ov])
  |s=>exact absurd hn.1 (by simp[Ov])
 |[],_::_,hl,_=>by simp[DN] at hl
 |_::_,[],hl,_=>by simp[DN] at hl
 |_::_,[_],hl,_=>by simp[DN] at hl
theorem TM {env:Bx}(hs:AL T env){ts:List Ty}{rs:List Rf}{c:Bool}(h:(IH env (DN ts) rs&&ts.all Ov)=true):E5 (rs.map (Rf.eval T))=true↔Bd T ts rs:=by
 rw[Bool.and_eq_true] at h
 rw[FU hs h.1]
 exact XP (T7 h.1) h.2
theorem bw (l:List U):(FW l).toI=0:=by
 unfold FW;split<;>rfl
theorem bq (l:List U):(FW l).toB=false:=by
 unfold FW;split<;>rfl
theorem Sa {d:U}(hd:d.toI=0):∀(l:List Rf) (n:Int),((l.map (Rf.eval T)).getD n.toNat d).toI=Pg T l n
 |[],n=>by simp[Pg,hd]
 |a::l,n=>by
  simp only[Pg]
  split
  ·rename_i h
   have:n.toNat=0:=by omega
   simp[this,iR]
  ·rename_i h
   have e:n.toNat=(n - 1).toNat+1:=by omega
   rw[e,←Sa hd l (n - 1)]
   simp
theorem Rg {d:U}(hd:d.toB=false):∀(l:List Rf) (n:Int),((l.map (Rf.eval T)).getD n.toNat d).toB=true↔PK T l n
 |[],n=>by simp[PK,hd]
 |a::l,n=>by
  simp only[PK]
  by_cases h:n≤0
  ·have:n.toNat=0:=by omega
   simp[this,h,bR]
  ·have e:n.toNat=(n - 1).toNat+1:=by omega
   rw[e,←Rg hd l (n - 1)]
   simp[h]
theorem vB {x:Nat}{v:Bool}(h:T.get x= .bool v):B T x=v:=by unfold B;rw[h];rfl
theorem vI {x:Nat}{v:Int}(h:T.get x= .int v):I T x=v:=by unfold I;rw[h];rfl
theorem vL {x:Nat}{v:List (List U)}(h:T.get x= .list v):L T x=v:=by unfold L;rw[h];rfl
theorem sB {x:Nat}{v:Bool}(h:T.get x= .bool v):T.get x=uV T .b x:=by rw[h];show _=U.bool (T.get x).toB;rw[h];rfl
theorem sI {x:Nat}{v:Int}(h:T.get x= .int v):T.get x=uV T .i x:=by rw[h];show _=U.int (T.get x).toI;rw[h];rfl
theorem vS {x:Nat}{v:ByteArray}(h:T.get x= .str v):S T x=v:=by unfold S;rw[h];rfl
theorem sS {x:Nat}{v:ByteArray}(h:T.get x= .str v):T.get x=uV T .s x:=by rw[h];show _=U.str (T.get x).toS;rw[h];rfl
theorem sL {x:Nat}{v:List (List U)}(h:T.get x= .list v):T.get x=uV T .l x:=by rw[h];show _=U.list (T.get x).toL;rw[h];rfl
theorem jD (o:Op2)(a b:Int):AS o (o.f a b) a b:=by
 cases o<;>simp only[AS,Op2.f]<;>first|rfl|exact tdiv_eq_if a b|exact tmod_eq_if a b|exact Int.min_def a b|exact Int.max_def a b
theorem jQ (k:IntKind)(o:Op2)(a b:Int):w2P k o (k.wrap (o.f a b)) a b:=by
 cases k<;>cases o<;>simp only[w2P,Op2.f]<;>exact fun h1 h2=>EU .i64 _ h1 h2
theorem jY (k:IntKind)(a:Int):wnP k (k.wrap (0 - a)) a:=by
 cases k<;>simp only[wnP]
 refine⟨fun h1 h2=>?_,fun h=>by subst h;decide⟩
 rw[EU .i64 _ (by show (-9223372036854775808:Int)≤_;omega) (by show _≤(9223372036854775807:Int);omega)]
 omega
theorem XU {env:Bx}(hs:AL T env):∀(e:En) {o:Option Ty},Oi env e=some o→T.get e.x=opF e.op (e.rs.map (Rf.eval T))→AE T e:=by
 intro e o ht h
 unfold AE
 split<;>(try simp only at ht h)
 ·exact congrArg U.toI h
 ·exact Bool.eq_iff_iff.1 (congrArg U.toB h)
 ·exact congrArg U.toL h
 ·have:=vB h;rw[this];simp[u0,bR]
 ·have:=vB h;rw[this];simp[u0,u1,bR]
 ·have:=vB h;rw[this];simp[u0,u1,bR]
 ·have:=vB h;rw[this];simp[u0,u1,iR]
 ·have:=vB h;rw[this];simp[u0,u1,iR]
 ·have:=vB h;rw[this];simp[u0,u1,iR]
 ·have:=vB h;rw[this];simp[u0,u1,iR]
 ·rename_i x ts r
  simp only[Oi] at ht
  split at ht
  ·rename_i hc
   rw[vB h];exact TM (c:=true) hs hc
  ·cases ht
 ·rename_i x ts r
  simp only[Oi] at ht
  split at ht
  ·rename_i hc
   rw[vB h,←TM (c:=true) hs hc];simp
  ·cases ht
 ·have:=vB h;rw[this];simp only[u0,u1,bR,List.map_cons,List.map_nil,List.getD_cons_zero,List.getD_cons_succ];rename_i a b;cases (a.eval T).toB<;>cases (b.eval T).toB<;>simp
 ·have:=vB h;rw[this];simp only[u0,u1,bR,List.map_cons,List.map_nil,List.getD_cons_zero,List.getD_cons_succ];rename_i a b;cases (a.eval T).toB<;>cases (b.eval T).toB<;>simp
 ·rename_i x a b c
  have h1:=congrArg U.toI h
  show (T.get x).toI=_
  rw[h1]
  show (bif (a.eval T).toB then b.eval T else c.eval T).toI=_
  unfold bR iR
  cases (a.eval T).toB<;>rfl
 ·rename_i x a b c
  have h1:=congrArg U.toB h
  show ((T.get x).toB=true↔_)
  rw[h1]
  show ((bif (a.eval T).toB then b.eval T else c.eval T).toB=true↔_)
  unfold bR
  cases (a.eval T).toB<;>simp
 ·rename_i x a b c
  have h1:=congrArg U.toL h
  show (T.get x).toL=_
  rw[h1]
  show (bif (a.eval T).toB then b.eval T else c.eval T).toL=_
  unfold bR lR
  cases (a.eval T).toB<;>rfl
 ·rename_i x a b c
  rw[vB h]
  show ((bif (a.eval T).toB then (b.eval T).toB else (c.eval T).toB)=true↔_)
  unfold bR
  cases (a.eval T).toB<;>simp
 ·rw[vI h];exact jD _ _ _
 ·rw[vI h];exact jQ _ _ _ _
 ·rw[vI h];rfl
 ·rw[vI h];exact jY _ _
 ·rw[vI h];show 0 - _=_;rw[Int.zero_sub];rfl
 ·rw[vI h];rfl
 ·rw[vI h];rfl
 ·rw[vL h];rfl
 ·rw[vL h];rfl
 ·rw[vL h];rfl
 ·rw[vL h];rfl
 ·rw[vI h];rfl
 ·rw[vI h];rfl
 ·exact congrArg U.toI h
 ·exact congrArg U.toB h
 ·exact congrArg U.toL h
 ·exact (congrArg U.toI h).trans (Sa (bw _) _ _)
 ·have h1:=congrArg U.toB h
  refine Iff.trans (b:=((_:U).toB=true)) (by rw[show B T _=_ from h1];exact Iff.rfl) (Rg (bq _) _ _)
 ·rename_i x k s ts r
  simp only[Oi] at ht
  split at ht
  ·rename_i hc
   rw[vL h,FU hs hc]
  ·cases ht
 ·exact congrArg U.toI h
 ·exact congrArg U.toB h
 ·exact congrArg U.toL h
 ·trivial
theorem Rx {env:Bx}(hs:AL T env):∀{r:List Rf} (n:Nat),r.all (tyR env .i)=true→∃v,(r.map (Rf.eval T)).getD n (.int 0)= .int v
 |[],n,_=>⟨0,by simp⟩
 |a::r,n,h=>by
  simp only[List.all_cons,Bool.and_eq_true] at h
  cases n with
  |zero=>exact⟨iR T a,by simpa [uR] using Ho hs h.1⟩
  |succ n=>simpa using Rx hs (r:=r) n h.2
theorem P6 {env:Bx}(hs:AL T env):∀{r:List Rf} (n:Nat),r.all (tyR env .b)=true→∃v,(r.map (Rf.eval T)).getD n (.bool false)= .bool v
 |[],n,_=>⟨false,by simp⟩
 |a::r,n,h=>by
  simp only[List.all_cons,Bool.and_eq_true] at h
  cases n with
  |zero=>exact⟨bR T a,by simpa [uR] using Ho hs h.1⟩
  |succ n=>simpa using P6 hs (r:=r) n h.2
theorem cm {env:Bx}(hs:AL T env){r:List Rf}(n:Nat)(h:r.all (tyR env .i)=true):∃v,(r.map (Rf.eval T)).getD n (FW (r.map (Rf.eval T)))= .int v:=by
 have e:FW (r.map (Rf.eval T))= .int 0:=by
  cases r with
  |nil=>rfl
  |cons a r=>
   simp only[List.all_cons,Bool.and_eq_true] at h
   have h1:a.eval T= .int (iR T a):=by simpa [uR] using Ho hs h.1
   rw[List.map_cons,h1];rfl
 rw[e];exact Rx hs n h
theorem b9 {env:Bx}(hs:AL T env){b:Rf}{r:List Rf}(n:Nat)(h:(b::r).all (tyR env .b)=true):∃v,((b::r).map (Rf.eval T)).getD n (FW ((b::r).map (Rf.eval T)))= .bool v:=by
 have e:FW ((b::r).map (Rf.eval T))= .bool false:=by
  have h0:=h
  simp only[List.all_cons,Bool.and_eq_true] at h0
  have h1:b.eval T= .bool (bR T b):=by simpa [uR] using Ho hs h0.1
  rw[List.map_cons,h1];rfl
 rw[e];exact P6 hs n h
theorem jm {env:Bx}(hs:AL T env):∀(e:En) {t:Ty},Oi env e=some (some t)→T.get e.x=opF e.op (e.rs.map (Rf.eval T))→T.get e.x=uV T t e.x:=by
 intro e t ht h
 unfold Oi at ht
 split at ht
 ·rename_i a e1 e2
  split at ht
  ·rename_i hc
   cases ht
   rw[e1,e2] at h
   have h2:T.get e.x=a.eval T:=h
   rw[Ho hs hc] at h2
   cases t
   ·exact sI h2
   ·exact sB h2
   ·exact sL h2
   ·rfl
   ·exact sS h2
  ·cases ht
 ·rename_i a b c e1 e2
  split at ht
  ·rename_i hc
   cases ht
   rw[Bool.and_eq_true] at hc
   rw[e1,e2] at h
   have h2:T.get e.x=bif (a.eval T).toB then b.eval T else c.eval T:=h
   rw[Ho hs hc.1,Ho hs hc.2] at h2
   cases t<;>cases hb:(a.eval T).toB<;>rw[hb] at h2<;>first|exact sI h2|exact sB h2|exact sL h2|exact sS h2|rfl
  ·cases ht
 all_goals first
  |(rename_i c x a e1 e2;split at ht<;>cases ht;rename_i hc;rw[e1,e2] at h;obtain⟨n,hn⟩:=bV hs hc (a.eval T).toI.toNat;exact sI (h.trans hn))
  |(rename_i a b2 r e1 e2;split at ht<;>cases ht;rename_i hc;rw[e1,e2] at h;obtain⟨v,hv⟩:=b9 hs (a.eval T).toI.toNat hc;exact sB (h.trans hv))
  |(rename_i a r e1 e2;split at ht<;>cases ht;rename_i hc;rw[e1,e2] at h;obtain⟨v,hv⟩:=cm hs (a.eval T).toI.toNat hc;exact sI (h.trans hv))
  |(rename_i e1;split at ht<;>cases ht;rw[e1] at h;first|exact sI h|exact sB h|exact sL h)
  |(rename_i e1;cases ht;rw[e1] at h;first|exact sI h|exact sB h|exact sL h)
  |(cases ht)
  |skip
def AI (T:Tab):List En→Prop
 |[]=>True
 |e::r=>AE T e∧AI T r
theorem AI.left:∀{a b:List En},AI T (a++b)→AI T a
 |[],_,_=>trivial
 |_::_,_,h=>⟨h.1,AI.left h.2⟩
theorem AI.right:∀{a b:List En},AI T (a++b)→AI T b
 |[],_,h=>h
 |_::_,_,h=>AI.right h.2
end
abbrev BE:=Nat × (List U→U) × List Rf
abbrev BO:=PC × (List U→Prop) × List Rf
abbrev BP:=(List U→Prop) × List Rf
def IN (l:List (Nat × Ex)):List BE:=l.map fun p=>(p.1,p.2.f,p.2.args)
def Lm (l:List Ob):List BO:=l.map fun o=>(o.pc,o.p.f,o.p.args)
def fI (l:List Pr):List BP:=l.map fun p=>(p.f,p.args)
def AX (T:Tab):List BE→Prop
 |[]=>True
 |(x,f,rs)::r=>T x=f (rs.map (Rf.eval T))∧AX T r
def VC (T:Tab):List BO→Prop
 |[]=>True
 |(pc,f,rs)::r=>(pcv T pc→f (rs.map (Rf.eval T)))∧VC T r
def AllP (T:Tab):List BP→Prop
 |[]=>True
 |(f,rs)::r=>f (rs.map (Rf.eval T))∧AllP T r
section
variable {T:Tab}
theorem N4:∀{l:List (Nat × Ex)},(∀p∈l,T p.1=p.2.eval T)→AX T (IN l)
 |[],_=>trivial
 |p::_,h=>⟨h p (List.mem_cons_self ..),N4 fun q hq=>h q (List.mem_cons_of_mem _ hq)⟩
theorem O1:∀{l:List (Nat × Ex)},AX T (IN l)→∀p∈l,T p.1=p.2.eval T
 |[],_,p,hp=>by cases hp
 |e::r,h,p,hp=>by
  cases hp with
  |head=>exact h.1
  |tail _ hp=>exact O1 (l:=r) h.2 p hp
theorem AX.left:∀{a b:List BE},AX T (a++b)→AX T a
 |[],_,_=>trivial
 |_::_,_,h=>⟨h.1,AX.left h.2⟩
theorem AX.right:∀{a b:List BE},AX T (a++b)→AX T b
 |[],_,h=>h
 |_::_,_,h=>AX.right h.2
theorem N7:∀{l:List Ob},VC T (Lm l)→∀o∈l,o.holds T
 |[],_,o,ho=>by cases ho
 |o'::_,h,o,ho=>by
  cases ho with
  |head=>exact h.1
  |tail _ ho=>exact N7 h.2 o ho
theorem XQ:∀{l:List Pr},AllP T (fI l)→∀o∈l,o.holds T
 |[],_,o,ho=>by cases ho
 |o'::_,h,o,ho=>by
  cases ho with
  |head=>exact h.1
  |tail _ ho=>exact XQ h.2 o ho
theorem cB {x:Nat}:∀(t:Ty),T.get x=uV T t x→(∀c,t≠ .r c)→Sty T x t
 | .i,h,_=>h
 | .b,h,_=>h
 | .l,h,_=>h
 | .r c,_,h=>absurd rfl (h c)
 | .s,h,_=>h
theorem PI:∀{l:List En} {env env':Bx},AL T env→chk env l=some env'→AX T (l.map En.be)→AI T l∧AL T env'
 |[],env,env',hs,h,_=>by
  simp only[chk] at h;cases h;exact⟨trivial,hs⟩
 |e::r,env,env',hs,h,hb=>by
  simp only[chk] at h
  split at h
  ·cases h
  ·rename_i ht
   obtain⟨h1,h2⟩:=PI hs h hb.2
   exact⟨⟨XU hs e ht hb.1,h1⟩,h2⟩
  ·rename_i t ht
   split at h
   ·rename_i hn
    obtain⟨h1,h2⟩:=PI (env:=(e.x,t)::env) ⟨cB t (jm hs e ht hb.1) (fun c hc=>by rw[hc] at hn;cases hn),hs⟩ h hb.2
    exact⟨⟨XU hs e ht hb.1,h1⟩,h2⟩
   ·cases h
def Am (env:Bx)(l:List En):Bx:=(chk env l).getD []
theorem AV {l:List En}{env:Bx}(hs:AL T env)(hc:(chk env l).isSome=true)(hb:AX T (l.map En.be)):AI T l∧AL T (Am env l):=by
 obtain⟨env',h⟩:=Option.isSome_iff_exists.1 hc
 have:=PI hs h hb
 unfold Am
 rw[h];exact this
def cd (env:Bx)(l:List En)(tys:List Ty)(rs:List Rf):Bool:=match chk env l with
 |some env'=>IH env' tys rs
 |none=>false
theorem Ap {l:List En}{env:Bx}{tys:List Ty}{rs:List Rf}(hs:AL T env)(hc:cd env l tys rs=true)(hb:AX T (l.map En.be)):AI T l∧rs.map (Rf.eval T)=List.zipWith (uR T) tys rs:=by
 unfold cd at hc
 split at hc
 ·rename_i env' h
  obtain⟨h1,h2⟩:=PI hs h hb
  exact⟨h1,FU h2 hc⟩
 ·cases hc
theorem AL.append:∀{a b:Bx},AL T a→AL T b→AL T (a++b)
 |[],_,_,h=>h
 |_::_,_,h,h'=>⟨h.1,AL.append h.2 h'⟩
def tyKd:Kd→Option Ty
 | .int _ _ _=>some .i
 | .bool=>some .b
 | .list _=>some .l
 | .str=>some .s
 |_=>none
def P8 (x:Nat):Nat→List Kd→Bx
 |_,[]=>[]
 |c,.int _ _ _::es=>(x,.r c)::P8 x (c+1) es
 |c,_::es=>P8 x (c+1) es
def BG:Nat→List Kd→Bx
 |_,[]=>[]
 |x,.list es::ks=>(x,.l)::(P8 x 0 es++BG (x+1) ks)
 |x,k::ks=>match tyKd k with
  |some t=>(x,t)::BG (x+1) ks
  |none=>BG (x+1) ks
def Bnd (T:Tab):Nat→List Kd→Prop
 |_,[]=>True
 |x,.int _ lo hi::ks=>(lo≤I T x∧I T x≤hi)∧Bnd T (x+1) ks
 |x,.list es::ks=>((L T x).length≤140737488355328∧∀(i:Nat) (us:List U),(L T x)[i]? =some us→CO BF es us)∧Bnd T (x+1) ks
 |x,.str::ks=>(S T x).size≤140737488355328∧Bnd T (x+1) ks
 |x,_::ks=>Bnd T (x+1) ks
theorem AL.append0:∀{a b:Bx},AL T a→AL T b→AL T (a++b)
 |[],_,_,h=>h
 |_::_,_,h,h'=>⟨h.1,AL.append0 h.2 h'⟩
theorem TX:∀{es:List Kd} {us:List U} {c:Nat} {k:Kd},CO BF es us→es[c]? =some k→∃u,us[c]? =some u∧KdU BF k u
 |[],_,_,_,_,h=>by simp at h
 |e::es,us,c,k,⟨u,us',e1,h1,h2⟩,h=>by
  subst e1
  cases c with
  |zero=>simp at h;subst h;exact⟨u,rfl,h1⟩
  |succ c=>simpa using TX h2 (by simpa using h)
theorem iM {x c:Nat}{es:List Kd}{kk:IntKind}{lo hi:Int}(h:∀(i:Nat) (us:List U),(L T x)[i]? =some us→CO BF es us)(hc:es[c]? =some (.int kk lo hi)):ZW T x c:=fun i=>by
 rcases Nat.lt_or_ge i (L T x).length with hi|hi
 ·obtain⟨u,h1,⟨n,e,_⟩⟩:=TX (h i _ (List.getElem?_eq_getElem hi)) hc
  refine⟨n,?_⟩
  simp only[List.getD,List.getElem?_eq_getElem hi,Option.getD_some,h1]
  exact e
 ·exact⟨0,by simp only[List.getD,List.getElem?_eq_none hi,Option.getD_none];simp;rfl⟩
theorem Xr {x:Nat}{all:List Kd}(h:∀(i:Nat) (us:List U),(L T x)[i]? =some us→CO BF all us):∀(es:List Kd) (c:Nat),(∀j k,es[j]? =some k→all[c+j]? =some k)→AL T (P8 x c es)
 |[],_,_=>trivial
 |e::es,c,ha=>by
  have ih:=Xr h es (c+1) fun j k hj=>by
   have:=ha (j+1) k (by simpa using hj)
   rw[show c+(j+1)=c+1+j by omega] at this
   exact this
  cases e with
  |int kk lo hi=>exact⟨iM h (ha 0 _ rfl),ih⟩
  |_=>exact ih
theorem Uj:∀{ks:List Kd} {us:List U} {x:Nat},CO BF ks us→(∀j u,us[j]? =some u→T (x+j)=u)→AL T (BG x ks)∧Bnd T x ks
 |[],us,x,_,_=>⟨trivial,trivial⟩
 |k::ks,us,x,⟨u,us',e,h1,h2⟩,hT=>by
  subst e
  have ih:=Uj (x:=x+1) h2 fun j v hj=>by
   have:=hT (j+1) v (by simpa using hj)
   rw[show x+(j+1)=x+1+j by omega] at this
   exact this
  have h0:T.get x=u:=hT 0 u rfl
  cases k with
  |int kk lo hi=>
   obtain⟨n,e1,e2⟩:=h1
   rw[e1] at h0
   refine⟨⟨sI h0,ih.1⟩,?_,ih.2⟩
   rw[vI h0];exact e2
  |bool=>
   obtain⟨n,e1⟩:=h1
   rw[e1] at h0
   exact⟨⟨sB h0,ih.1⟩,ih.2⟩
  |str=>
   obtain⟨n,e1,e2⟩:=h1
   rw[e1] at h0
   exact⟨⟨sS h0,ih.1⟩,by rw[vS h0];exact e2,ih.2⟩
  |val=>exact ih
  |any=>exact ih
  |list es=>
   obtain⟨n,e1,e2,e3⟩:=h1
   rw[e1] at h0
   have e3':∀(i:Nat) (us:List U),(L T x)[i]? =some us→CO BF es us:=by rw[vL h0];exact e3
   refine⟨⟨sL h0,(Xr e3' es 0 (fun j k hj=>by rw[Nat.zero_add];exact hj)).append0 ih.1⟩,?_,ih.2⟩
   exact⟨by rw[vL h0];exact e2,e3'⟩
end
inductive PO where
 |take|sub|nez|t|inr|inl|ins|btw (lo hi:Int)|fits (b:Nat)|ready|ne|pre (tg:String) (p:List U→Prop)|owes (D:Ae)
structure ObE where
 pc:PC
 po:PO
 rs:List Rf
def poF:PO→List U→Prop
 | .take=>QY| .sub=>dQ| .nez=>PD| .t=>pT| .inr=>pIn| .inl=>Qm| .ins=>YZ| .btw lo hi=>D8 lo hi| .fits b=>Nt b| .ready=>TI| .ne=>pNe| .pre _ p=>p| .owes D=>D.owes
def ObE.be (o:ObE):PC × (List U→Prop) × List Rf:=(o.pc,poF o.po,o.rs)
def pcP (T:Tab):PC→Prop
 |none=>True
 |some c=>B T c=true
def YH (T:Tab)(o:ObE):Prop:=
 match o with
 |⟨pc,.take,[a,b]⟩=>pcP T pc→(0≤iR T b∧iR T b≤(lR T a).length)
 |⟨pc,.sub,[a,b,c]⟩=>pcP T pc→(0≤iR T b∧iR T b≤iR T c∧iR T c≤(lR T a).length)
 |⟨pc,.nez,[a]⟩=>pcP T pc→¬iR T a=0
 |⟨pc,.t,[a]⟩=>pcP T pc→bR T a=true
 |⟨pc,.inr,[a,b]⟩=>pcP T pc→(0≤iR T a∧iR T a < iR T b)
 |⟨pc,.inl,[a,b]⟩=>pcP T pc→(0≤iR T a∧iR T a < (lR T b).length)
 |⟨pc,.ins,[a,b]⟩=>pcP T pc→(0≤iR T b∧iR T b < (stR T a).size)
 |⟨pc,.btw lo hi,[a]⟩=>pcP T pc→(lo≤iR T a∧iR T a≤hi)
 |⟨pc,.fits b,[a,c]⟩=>pcP T pc→((lR T a).length+(lR T c).length)*b≤140737488355328
 |⟨pc,.ready,[a]⟩=>pcP T pc→iR T a=0
 |⟨pc,.ne,[a,b]⟩=>pcP T pc→¬iR T a=iR T b
 |⟨pc,.pre _ p,rs⟩=>pcP T pc→p (rs.map (Rf.eval T))
 |⟨pc,.owes D,rs⟩=>pcP T pc→D.owes (rs.map (Rf.eval T))
 |_=>False
def Ng (T:Tab):List ObE→Prop
 |[]=>True
 |o::r=>YH T o∧Ng T r
section
variable {T:Tab}
theorem VR {pc:PC}(h:pcv T pc):pcP T pc:=by
 cases pc with
 |none=>trivial
 |some c=>show (T.get c).toB=true;rw[show T.get c= .bool true from h];rfl
theorem VD {pc:PC}(h:pcP T pc):pcv T pc:=by
 cases pc with
 |none=>trivial
 |some c=>exact FY.2 h
theorem dM:∀{o:ObE},YH T o→(pcv T o.pc→poF o.po (o.rs.map (Rf.eval T))):=by
 intro o h hp
 have hp':=VR hp
 unfold YH at h
 split at h<;>first|exact h hp'|exact h.elim
theorem LG:∀{l:List ObE},Ng T l→VC T (l.map ObE.be)
 |[],_=>trivial
 |_::_,h=>⟨dM h.1,LG h.2⟩
end
def Ak.sees (t:Ak)(rs:List Rf)(r:Option (AC × Mem × G)):Option (List BE × List BO × List BP):=
 match r with
 |some (c0,m0,g0)=>match U4 t rs c0 m0 g0 with
  |some ps=>some (IN g0.eqs.reverse,Lm g0.obs,fI ps)
  |none=>none
 |none=>none
theorem Pc:∀{ks:List Kd} {us:List U},us.length=ks.length→TY ks us→CO BF ks us
 |[],[],_,_=>rfl
 |k::ks,u::us,hl,h=>⟨u,us,rfl,h 0 k u rfl rfl,Pc (by simpa using hl) fun j k' u' h1 h2=>h (j+1) k' u' (by simpa using h1) (by simpa using h2)⟩
 |[],_::_,hl,_=>by simp at hl
 |_::_,[],hl,_=>by simp at hl
def Ak.run (P:Program)(l:List (FuncId × Ak))(Ag:FuncId→G4)(fuel depth:Nat)(f:FuncId)(t:Ak):Option (AC × Mem × G):=
 Hw P (Lv l) Ag fuel depth (fun _=>none) f t.args none t.m { n:=t.n,eqs:=[],obs:=[] }
def gL (t:Ak):Bool:=(List.range t.m.length).all fun id=>match t.m'.at id with| .pad=>false|_=>true
theorem AZ {P:Program}{f:FuncId}{t:Ak}(hm:P.follows .mixedOrders=true){l:List (FuncId × Ak)}(hl:∀p∈l,Ao P p.1 p.2){Ag:FuncId→G4}{fuel depth:Nat}{rs:List Rf}{es:List En}{os:List ObE}
  (hrun:t.sees rs (t.run P l Ag fuel depth f)=some (es.map En.be,os.map ObE.be,[])) (hne:gL t=true)
  (hplain:∀(T:Tab) (us:List U),(∀p∈t.pre,p.2 us)→(∀j u,us[j]? =some u→T j=u)→us.length=t.n→AL T (BG 0 t.ks)→Bnd T 0 t.ks→AX T (es.map En.be)→Ng T os∧rs.map (Rf.eval T)=t.outs.map fun o=>o.2 us):Ao P f t:=by
 unfold Ak.sees at hrun
 split at hrun
 ·rename_i c0 m0 g0 hr
  split at hrun
  ·rename_i ps hok
   injection hrun with hrun
   injection hrun with e1 hrun
   injection hrun with e2 e3
   refine gf hm (Oq hl) hr hok (fun id hid e=>?_) fun T us hul hin hpre hlow heqs=>?_
   ·have:=List.all_eq_true.1 hne id (List.mem_range.2 hid)
    rw[e] at this;cases this
   ·have hb:AX T (IN g0.eqs.reverse):=N4 fun p hp=>heqs p (List.mem_reverse.1 hp)
    rw[e1] at hb
    obtain⟨i1,i2⟩:=Uj (x:=0) (Pc hul hin) fun j u hj=>by rw[Nat.zero_add];exact hlow j u hj
    obtain⟨h1,h3⟩:=hplain T us hpre hlow hul i1 i2 hb
    have h2:=LG h1
    rw[←e2] at h2
    exact⟨N7 h2,XQ (by rw[e3];trivial),h3⟩
  ·cases hrun
 ·cases hrun
theorem lc {α:Type}{a b:α}{l m:List α}(h:a=b)(h':l=m):a::l=b::m:=by rw[h,h']
def aI (us:List U)(j:Nat):Int:=(us.getD j default).toI
def aB (us:List U)(j:Nat):Bool:=(us.getD j default).toB
def aL (us:List U)(j:Nat):List (List U):=(us.getD j default).toL
def aS (us:List U)(j:Nat):ByteArray:=(us.getD j default).toS
theorem inI {T:Tab}{us:List U}{j n:Nat}(h:∀j u,us[j]? =some u→T j=u)(hl:us.length=n)(hj:j < n):aI us j=I T j:=by
 have:=h j us[j] (List.getElem?_eq_getElem (by omega))
 unfold aI I
 rw[show T.get j=us[j] from this]
 simp[List.getD,List.getElem?_eq_getElem (show j < us.length by omega)]
theorem inB {T:Tab}{us:List U}{j n:Nat}(h:∀j u,us[j]? =some u→T j=u)(hl:us.length=n)(hj:j < n):aB us j=B T j:=by
 have:=h j us[j] (List.getElem?_eq_getElem (by omega))
 unfold aB B
 rw[show T.get j=us[j] from this]
 simp[List.getD,List.getElem?_eq_getElem (show j < us.length by omega)]
theorem inL {T:Tab}{us:List U}{j n:Nat}(h:∀j u,us[j]? =some u→T j=u)(hl:us.length=n)(hj:j < n):aL us j=L T j:=by
 have:=h j us[j] (List.getElem?_eq_getElem (by omega))
 unfold aL L
 rw[show T.get j=us[j] from this]
 simp[List.getD,List.getElem?_eq_getElem (show j < us.length by omega)]
theorem inS {T:Tab}{us:List U}{j n:Nat}(h:∀j u,us[j]? =some u→T j=u)(hl:us.length=n)(hj:j < n):aS us j=S T j:=by
 have:=h j us[j] (List.getElem?_eq_getElem (by omega))
 unfold aS S
 rw[show T.get j=us[j] from this]
 simp[List.getD,List.getElem?_eq_getElem (show j < us.length by omega)]
theorem Mm {a b:Bool}(h:a=true↔b=true):a=b:=Bool.eq_iff_iff.2 h
end Go.Eng
end
noncomputable section
namespace Go.Eng
open Go
theorem Sx {D:Ae}{top:Nat}(h:D.inScope top=true):DO D.fv D.nh (D.nh+D.k) top D.eqs=true∧FD D.fv D.nh top (pcL D.pcn)=true∧∀x∈D.fv,x < D.nh:=by
 simp only[Ae.inScope,Bool.and_eq_true] at h
 obtain⟨⟨⟨⟨s1,s2⟩,_⟩,_⟩,s5⟩:=h
 exact⟨s1,s2,fun x hx=>Be (List.all_eq_true.1 s5 x hx)⟩
theorem PZ {D:Ae}{T:Tab}{top:Nat}{inits:List U}(hsc:D.inScope top=true)(hk:inits.length=D.k)(hnl:D.nxt.length=D.k)(hH:∀j,j < D.k→T (D.nh+j)=D.res j (D.fv.map T.get++inits))(hE:∀p∈D.eqs,T p.1=p.2.eval T)
  (Inv:List U→Prop) (μ:List U→Nat) (h0:Inv inits)
  (hstep:∀(T':Tab) (s:List U),s.length=D.k→(∀x∈D.fv,T' x=T x)→(∀j u,s[j]? =some u→T' (D.nh+j)=u)→AX T' (IN D.eqs.reverse)→Inv s→VC T' (Lm D.obs)∧(pcv T' D.pcn→Inv (D.nxt.map (Rf.eval T'))∧μ (D.nxt.map (Rf.eval T')) < μ s)):
  D.owes (D.fv.map T.get++inits)∧(∃t,Inv t∧t.length=D.k∧∀j u,t[j]? =some u→T (D.nh+j)=u)∧¬pcv T D.pcn:=by
 obtain⟨sc1,sc2,hfv⟩:=Sx hsc
 have hlo:D.nh≤D.nh+D.k:=Nat.le_add_right _ _
 generalize hus:D.fv.map T.get=us at*
 have hfl:us.length=D.fv.length:=by rw[←hus];simp
 have e1:(us++inits).take D.fv.length=us:=by rw[←hfl];simp
 have e2:(us++inits).drop D.fv.length=inits:=by rw[←hfl];simp
 have key:∀s:List U,s.length=D.k→Inv s→VC (D.tab us s) (Lm D.obs)∧(pcv (D.tab us s) D.pcn→Inv (D.nxt.map (Rf.eval (D.tab us s)))∧μ (D.nxt.map (Rf.eval (D.tab us s))) < μ s):=fun s hs hi=>by
  refine hstep (D.tab us s) s hs (fun x hx=>?_) (fun j u hj=>?_) (N4 fun p hp=>?_) hi
  ·have:=hfv x hx
   unfold Ae.tab
   rw[(DR sc1).2.2 x (.inl (by omega)),GT _ _ _ _ this,←hus]
   exact KQ D.fv x hx
  ·have hjl:=(List.getElem?_eq_some_iff.1 hj).1
   unfold Ae.tab
   rw[(DR sc1).2.2 _ (.inl (by omega))]
   exact GA _ _ _ _ _ hj
  ·exact IE hfv hlo sc1 p (List.mem_reverse.1 hp)
 have stepE:∀s,D.step us s=(bif pcB (D.tab us s) D.pcn then some (D.nxt.map (Rf.eval (D.tab us s))) else none):=fun s=>rfl
 have go:∀(n:Nat) (s:List U),μ s≤n→s.length=D.k→Inv s→∃m t,El (D.step us) m s=some t∧D.step us t=none∧Inv t∧t.length=D.k:=by
  intro n
  induction n with
  |zero=>
   intro s hm hs hi
   cases hp:pcB (D.tab us s) D.pcn with
   |true=>have:=((key s hs hi).2 (Io.1 hp)).2;omega
   |false=>exact⟨0,s,rfl,by rw[stepE,hp];rfl,hi,hs⟩
  |succ n ih=>
   intro s hm hs hi
   cases hp:pcB (D.tab us s) D.pcn with
   |true=>
    obtain⟨k1,k2⟩:=(key s hs hi).2 (Io.1 hp)
    obtain⟨m,t,q1,q2,q3,q4⟩:=ih (D.nxt.map (Rf.eval (D.tab us s))) (by omega) (by simp[hnl]) k1
    refine⟨m+1,t,?_,q2,q3,q4⟩
    simp only[El,stepE,hp,cond_true,Option.bind_some]
    exact q1
   |false=>exact⟨0,s,rfl,by rw[stepE,hp];rfl,hi,hs⟩
 obtain⟨m,t,q1,q2,q3,q4⟩:=go (μ inits) inits (Nat.le_refl _) hk h0
 have hreach:∀s,De (D.step us) inits s→Inv s∧s.length=D.k:=by
  intro s hr
  induction hr with
  |zero=>exact⟨h0,hk⟩
  |succ hr hst ih=>
   rename_i s1 s2
   rw[stepE] at hst
   cases hp:pcB (D.tab us s1) D.pcn with
   |true=>
    rw[hp] at hst
    cases hst
    exact⟨((key s1 ih.2 ih.1).2 (Io.1 hp)).1,by simp[hnl]⟩
   |false=>rw[hp] at hst;cases hst
 have hlast:=XE q1 q2
 have hT:∀j u,t[j]? =some u→T (D.nh+j)=u:=fun j u hj=>by
  have hjl:=(List.getElem?_eq_some_iff.1 hj).1
  rw[hH j (by omega)]
  unfold Ae.res
  rw[e1,e2,hlast]
  simp[List.getD,hj]
 refine⟨⟨by rw[e1,e2];exact⟨m,t,q1,q2⟩,fun s hr=>?_⟩,⟨t,q3,q4,hT⟩,fun hp=>?_⟩
 ·rw[e1,e2] at hr
  rw[e1]
  obtain⟨i1,i2⟩:=hreach s hr
  exact N7 (key s i2 i1).1
 ·have hag:∀x,x∈D.fv∨(D.nh≤x∧x < top)→T x=D.tab us t x:=fun x hx=>by
   have:=Kj (T1:=T) (T2:=(KW D.fv us).upds D.nh t) hfv hlo (fun y hy=>?_) sc1 x hx
   ·rw[MP hE] at this
    exact this
   ·rcases hy with hy|hy
    ·rw[GT _ _ _ _ (hfv y hy),←hus]
     exact (KQ D.fv y hy).symm
    ·have hj:y - D.nh < t.length:=by omega
     have h1:=GA t (KW D.fv us) D.nh (y - D.nh) t[y - D.nh] (List.getElem?_eq_getElem hj)
     have h2:=hT (y - D.nh) t[y - D.nh] (List.getElem?_eq_getElem hj)
     rw[show D.nh+(y - D.nh)=y by omega] at h1 h2
     rw[h1,h2]
  have:pcB (D.tab us t) D.pcn=true:=by
   cases hc:D.pcn with
   |none=>rfl
   |some c=>
    rw[hc] at hp sc2
    have hcs:=EO sc2 c (by simp[pcL])
    rw[Io]
    show D.tab us t c= .bool true
    rw[←hag c hcs]
    exact hp
  rw[stepE,this] at q2
  cases q2
def bG:Op2→String
 | .add=> "add" | .sub=> "sub" | .mul=> "mul" | .div=> "div" | .mod=> "mod" | .tdiv=> "tdiv" | .tmod=> "tmod" | .min=> "min" | .max=> "max"
def gE:BinOp→String
 | .and=> "and" | .or=> "or" | .xor=> "xor" |_=> "andNot"
def jO:Opn→Tg
 | .take=> "take" | .drop=> "drop" | .sub=> "cut" | .slen=> "slen" | .sat=> "sat"
 | .id _=> "id" | .not=> "not" | .and=> "and" | .or=> "or" | .lt=> "lt" | .le=> "le" | .eq=> "eq" | .ne=> "ne"
 | .eqs _=> "eqs" | .nes _=> "nes" | .eqb=> "eqb" | .neb=> "neb" | .ite _=> "if" | .ifb=> "ifb"
 | .o2 o=>bG o| .w2 k o=>Dt k++ " " ++bG o| .w1 k=>Dt k++ " id" | .wneg k=>Dt k++ " neg" | .neg=> "neg" | .bits o k=>Dt k++ " " ++gE o
 | .len=> "len" | .app=> "app" | .get _ c=> "get " ++toString c| .pick _=> "pick" | .row _ s _=> "row " ++toString s
 | .outI tg _=>tg| .outB tg _=>tg| .outL tg _=>tg| .res _ D j=>D.tg j
def jS:PO→Tg
 | .take=> "take" | .sub=> "cut" | .nez=> "nez" | .t=> "t" | .inr=> "in" | .inl=> "inl" | .ins=> "ins" | .btw lo hi=> "between " ++toString lo++ " " ++toString hi| .fits b=> "fits " ++toString b| .ready=> "ready" | .ne=> "ne" | .pre tg _=>tg| .owes D=>D.tg 0
def En.ex (e:En):Nat × Ex:=(e.x,⟨jO e.op,opF e.op,e.rs⟩)
def ObE.ob (o:ObE):Ob:=⟨o.pc,⟨jS o.po,poF o.po,o.rs⟩⟩
def mkD (nh k:Nat)(bes:List En)(pcn:Nat)(nxt:List Rf)(bos:List ObE)(fv:List Nat):Ae:=
 {nh,k,eqs:=(bes.map En.ex).reverse,pcn:=some pcn,nxt,obs:=bos.map ObE.ob,fv }
def hds:Nat→List Ty→Bx
 |_,[]=>[]
 |x,t::ts=>(x,t)::hds (x+1) ts
def hdU (T:Tab):Nat→List Ty→List U
 |_,[]=>[]
 |x,t::ts=>uV T t x::hdU T (x+1) ts
def uOf:Ty→U→U
 | .i,u=> .int u.toI
 | .b,u=> .bool u.toB
 | .l,u=> .list u.toL
 | .r _,u=>u
 | .s,u=> .str u.toS
def TyU:List Ty→List U→Prop
 |[],[]=>True
 |t::ts,u::us=>(u=uOf t u∧noR t=true)∧TyU ts us
 |_,_=>False
def Gm (fv:List Nat)(env:Bx):Bx:=env.filter fun p=>fv.contains p.1
section
variable {T:Tab}
theorem K8:∀{ts:List Ty} {rs:List Rf},ts.all noR=true→ts.length=rs.length→TyU ts (List.zipWith (uR T) ts rs)
 |[],[],_,_=>trivial
 |t::ts,r::rs,h0,h=>by
  simp only[List.all_cons,Bool.and_eq_true] at h0
  exact⟨⟨by cases t<;>rfl,h0.1⟩,K8 h0.2 (by simpa using h)⟩
 |[],_::_,_,h=>by simp at h
 |_::_,[],_,h=>by simp at h
theorem M6:∀{ts:List Ty} {us:List U} {x:Nat},TyU ts us→(∀j u,us[j]? =some u→T (x+j)=u)→AL T (hds x ts)∧hdU T x ts=us
 |[],[],_,_,_=>⟨trivial,rfl⟩
 |t::ts,u::us,x,h,hT=>by
  obtain⟨h1,h2⟩:=M6 (x:=x+1) h.2 fun j v hj=>by
   have:=hT (j+1) v (by simpa using hj)
   rw[show x+(j+1)=x+1+j by omega] at this
   exact this
  have h0:T.get x=u:=hT 0 u rfl
  have e:u=uV T t x:=by
   have:=h.1.1
   cases t<;>(simp only[uV,uR,iR,bR,lR,stR,Rf.eval];rw[show T x=u from h0];try exact this)
  exact⟨⟨cB t (h0.trans e) (fun c hc=>by have:=h.1.2;rw[hc] at this;cases this),h1⟩,by simp only[hdU];rw[h2,←e]⟩
 |[],_::_,_,h,_=>h.elim
 |_::_,[],_,h,_=>h.elim
theorem Dj {T2:Tab}{fv:List Nat}(hfv:∀x∈fv,T2.get x=T.get x):∀{env:Bx},AL T env→AL T2 (Gm fv env)
 |[],_=>trivial
 |(x,t)::r,h=>by
  unfold Gm
  rw[List.filter_cons]
  split
  ·rename_i hc
   have e:=hfv x (List.contains_iff_mem.1 hc)
   refine⟨?_,Dj hfv h.2⟩
   cases t with
   |r c=>
    have h1:ZW T x c:=h.1
    intro i
    obtain⟨n,hn⟩:=h1 i
    exact⟨n,by unfold L at hn⊢;rw[e];exact hn⟩
   |_=>
    have h1:=Sty.get h.1
    show T2.get x=_
    rw[e,h1]
    simp only[uV,uR,iR,bR,lR,stR,Rf.eval];rw[show T2 x=T x from e]
  ·exact Dj hfv h.2
theorem LU (bes:List En):IN (((bes.map En.ex).reverse).reverse)=bes.map En.be:=by
 rw[List.reverse_reverse];unfold IN;rw[List.map_map];rfl
theorem UX (bos:List ObE):Lm (bos.map ObE.ob)=bos.map ObE.be:=by
 unfold Lm;rw[List.map_map];rfl
def LA (D:Ae)(args:List Rf):Nat→Nat→List BE
 |_,0=>[]
 |j,k+1=>(D.nh+j,D.res j,args)::LA D args (j+1) k
theorem Lc {D:Ae}{args:List Rf}:∀{k j0:Nat},AX T (LA D args j0 k)→∀j,j < k→T (D.nh+(j0+j))=D.res (j0+j) (args.map (Rf.eval T))
 |0,_,_,j,hj=>by omega
 |k+1,j0,h,j,hj=>by
  cases j with
  |zero=>exact h.1
  |succ j=>
   have:=Lc h.2 j (by omega)
   rw[show j0+1+j=j0+(j+1) by omega] at this
   exact this
theorem BS {env:Bx}{nh k pcn top:Nat}{bes:List En}{bos:List ObE}{nxt inits:List Rf}{fv:List Nat}{tys:List Ty}(hsc:(mkD nh k bes pcn nxt bos fv).inScope top=true)(hn:inits.length=k)(hn2:nxt.length=k)(hn3:tys.length=k)(hnr:tys.all noR=true)
  (hS:AL T env) (hini:IH env tys inits=true) (hchk:cd (hds nh tys++Gm fv env) bes tys nxt=true)
  (hB:AX T (bes.map En.be)) (hH:AX T (LA (mkD nh k bes pcn nxt bos fv) (fv.map Rf.e++inits) 0 k))
  (Inv:List U→Prop) (μ:List U→Nat) (h0:Inv (List.zipWith (uR T) tys inits))
  (hstep:∀T2:Tab,(∀x∈fv,T2.get x=T.get x)→AI T2 bes→Inv (hdU T2 nh tys)→
   Ng T2 bos∧(B T2 pcn=true→Inv (List.zipWith (uR T2) tys nxt)∧μ (List.zipWith (uR T2) tys nxt) < μ (hdU T2 nh tys))):
  (mkD nh k bes pcn nxt bos fv).owes ((fv.map Rf.e++inits).map (Rf.eval T))∧AL T (hds nh tys)∧Inv (hdU T nh tys)∧¬B T pcn=true:=by
 have hI:inits.map (Rf.eval T)=List.zipWith (uR T) tys inits:=FU hS hini
 have hA:(fv.map Rf.e++inits).map (Rf.eval T)=fv.map T.get++List.zipWith (uR T) tys inits:=by
  rw[List.map_append,hI,List.map_map];rfl
 have hH':=fun j (hj:j < k)=>Lc hH j hj
 simp only[Nat.zero_add] at hH'
 rw[hA] at hH'
 rw[hA]
 have key:=PZ (D:=mkD nh k bes pcn nxt bos fv) (T:=T) (top:=top) (inits:=List.zipWith (uR T) tys inits) hsc (by simp[hn,hn3];rfl) hn2 (fun j hj=>hH' j hj)
  (fun p hp=>O1 (l:=((mkD nh k bes pcn nxt bos fv).eqs).reverse) (by rw[show (mkD nh k bes pcn nxt bos fv).eqs=(bes.map En.ex).reverse from rfl,LU];exact hB) p (List.mem_reverse.2 hp))
  (fun s=>TyU tys s∧Inv s) μ ⟨K8 hnr (by omega),h0⟩ (fun T2 s hs hfv hhd hb hi=>by
   obtain⟨i1,i2⟩:=hi
   obtain⟨s1,s2⟩:=M6 i1 hhd
   rw[show (mkD nh k bes pcn nxt bos fv).eqs=(bes.map En.ex).reverse from rfl,LU] at hb
   obtain⟨f1,f2⟩:=Ap (s1.append (Dj hfv hS)) hchk hb
   obtain⟨g1,g2⟩:=hstep T2 hfv f1 (by rw[show hdU T2 nh tys=s from s2];exact i2)
   refine⟨by rw[show (mkD nh k bes pcn nxt bos fv).obs=bos.map ObE.ob from rfl,UX];exact LG g1,fun hp=>?_⟩
   obtain⟨g3,g4⟩:=g2 (VR (pc:=some pcn) hp)
   show (TyU tys (nxt.map (Rf.eval T2))∧Inv (nxt.map (Rf.eval T2)))∧μ (nxt.map (Rf.eval T2)) < μ s
   rw[f2]
   rw[show hdU T2 nh tys=s from s2] at g4
   exact⟨⟨K8 hnr (by omega),g3⟩,g4⟩)
 obtain⟨q1,⟨t,⟨q2,q3⟩,q4,q5⟩,q6⟩:=key
 obtain⟨s1,s2⟩:=M6 q2 q5
 exact⟨q1,s1,by rw[show hdU T nh tys=t from s2];exact q3,fun h=>q6 (VD (pc:=some pcn) h)⟩
end
open Go
theorem O8 {T:Tab}{env:Bx}{nh k pcn top:Nat}{bes:List En}{bos:List ObE}{nxt inits:List Rf}{fv:List Nat}{tys:List Ty}(hsc:(mkD nh k bes pcn nxt bos fv).inScope top=true)(hn:inits.length=k)(hn2:nxt.length=k)(hn3:tys.length=k)(hnr:tys.all noR=true)
  (hS:AL T env) (hini:IH env tys inits=true)
  (hB:AX T (bes.map En.be)) (hH:AX T (LA (mkD nh k bes pcn nxt bos fv) (fv.map Rf.e++inits) 0 k))
  (Inv:List U→Prop) (μ:List U→Nat) (h0:Inv (List.zipWith (uR T) tys inits))
  (hstep:∀T2:Tab,(∀x∈fv,T2.get x=T.get x)→AL T2 (hds nh tys++Gm fv env)→AX T2 (bes.map En.be)→Inv (hdU T2 nh tys)→
   nxt.map (Rf.eval T2)=List.zipWith (uR T2) tys nxt∧Ng T2 bos∧(B T2 pcn=true→Inv (List.zipWith (uR T2) tys nxt)∧μ (List.zipWith (uR T2) tys nxt) < μ (hdU T2 nh tys))):
  (mkD nh k bes pcn nxt bos fv).owes ((fv.map Rf.e++inits).map (Rf.eval T))∧AL T (hds nh tys)∧Inv (hdU T nh tys)∧¬B T pcn=true:=by
 have hI:inits.map (Rf.eval T)=List.zipWith (uR T) tys inits:=FU hS hini
 have hA:(fv.map Rf.e++inits).map (Rf.eval T)=fv.map T.get++List.zipWith (uR T) tys inits:=by
  rw[List.map_append,hI,List.map_map];rfl
 have hH':=fun j (hj:j < k)=>Lc hH j hj
 simp only[Nat.zero_add] at hH'
 rw[hA] at hH'
 rw[hA]
 have key:=PZ (D:=mkD nh k bes pcn nxt bos fv) (T:=T) (top:=top) (inits:=List.zipWith (uR T) tys inits) hsc (by simp[hn,hn3];rfl) hn2 (fun j hj=>hH' j hj)
  (fun p hp=>O1 (l:=((mkD nh k bes pcn nxt bos fv).eqs).reverse) (by rw[show (mkD nh k bes pcn nxt bos fv).eqs=(bes.map En.ex).reverse from rfl,LU];exact hB) p (List.mem_reverse.2 hp))
  (fun s=>TyU tys s∧Inv s) μ ⟨K8 hnr (by omega),h0⟩ (fun T2 s hs hfv hhd hb hi=>by
   obtain⟨i1,i2⟩:=hi
   obtain⟨s1,s2⟩:=M6 i1 hhd
   rw[show (mkD nh k bes pcn nxt bos fv).eqs=(bes.map En.ex).reverse from rfl,LU] at hb
   obtain⟨f2,g1,g2⟩:=hstep T2 hfv (s1.append (Dj hfv hS)) hb (by rw[show hdU T2 nh tys=s from s2];exact i2)
   refine⟨by rw[show (mkD nh k bes pcn nxt bos fv).obs=bos.map ObE.ob from rfl,UX];exact LG g1,fun hp=>?_⟩
   obtain⟨g3,g4⟩:=g2 (VR (pc:=some pcn) hp)
   show (TyU tys (nxt.map (Rf.eval T2))∧Inv (nxt.map (Rf.eval T2)))∧μ (nxt.map (Rf.eval T2)) < μ s
   rw[f2]
   rw[show hdU T2 nh tys=s from s2] at g4
   exact⟨⟨K8 hnr (by omega),g3⟩,g4⟩)
 obtain⟨q1,⟨t,⟨q2,q3⟩,q4,q5⟩,q6⟩:=key
 obtain⟨s1,s2⟩:=M6 q2 q5
 exact⟨q1,s1,by rw[show hdU T nh tys=t from s2];exact q3,fun h=>q6 (VD (pc:=some pcn) h)⟩
def TV (D:Ae)(rs:List Rf):Nat→Nat→List Ty→List En
 |_,_,[]=>[]
 |j,x,t::ts=>⟨x,.res t D j,rs⟩::TV D rs (j+1) (x+1) ts
def Ax (D:Ae)(tys:List Ty)(rs:List Rf):List En:=TV D rs 0 D.nh tys
theorem SD {T:Tab}{D:Ae}{rs:List Rf}:∀{tys:List Ty} {j:Nat},AX T ((TV D rs j (D.nh+j) tys).map En.be)→AX T (LA D rs j tys.length)
 |[],_,_=>trivial
 |_::_,_,h=>⟨h.1,SD h.2⟩
theorem Ay {T:Tab}{D:Ae}{rs:List Rf}{tys:List Ty}(h:AX T ((Ax D tys rs).map En.be)):AX T (LA D rs 0 tys.length):=SD (j:=0) h
theorem fvI {T T2:Tab}{x:Nat}(h:T2.get x=T.get x):I T2 x=I T x:=by unfold I;rw[h]
theorem fvB {T T2:Tab}{x:Nat}(h:T2.get x=T.get x):B T2 x=B T x:=by unfold B;rw[h]
theorem fvL {T T2:Tab}{x:Nat}(h:T2.get x=T.get x):L T2 x=L T x:=by unfold L;rw[h]
theorem fvS {T T2:Tab}{x:Nat}(h:T2.get x=T.get x):S T2 x=S T x:=by unfold S;rw[h]
abbrev k64:Kd:= .int .i64 IntKind.i64.min IntKind.i64.max
abbrev CP (x:Nat):AC:= .i .i64 IntKind.i64.min IntKind.i64.max x
end Go.Eng
end
noncomputable section
namespace Go.Eng
open Go Go.RowKit
mutual
theorem KdU.up {B:Nat}(hB:B≤BF):∀{k:Kd} {u:U},KdU B k u→KdU BF k u
 | .int _ _ _,_,h=>h
 | .bool,_,h=>h
 | .str,_,⟨s,e,h⟩=>⟨s,e,Nat.le_trans h hB⟩
 | .val,_,_=>trivial
 | .any,_,_=>trivial
 | .list _,_,⟨l,e,h1,h2⟩=>⟨l,e,Nat.le_trans h1 hB,fun i us hi=>CO.up hB (h2 i us hi)⟩
theorem CO.up {B:Nat}(hB:B≤BF):∀{ks:List Kd} {us:List U},CO B ks us→CO BF ks us
 |[],_,h=>h
 |_::_,_,⟨u,us',e,h1,h2⟩=>⟨u,us',e,KdU.up hB h1,CO.up hB h2⟩
end
def Qn (B:Nat)(T:Tab):Nat→List Kd→Prop
 |_,[]=>True
 |x,.list _::ks=>(L T x).length≤B∧Qn B T (x+1) ks
 |x,_::ks=>Qn B T (x+1) ks
theorem W9 {B:Nat}{T:Tab}:∀{ks:List Kd} {us:List U} {x:Nat},CO B ks us→(∀j u,us[j]? =some u→T (x+j)=u)→Qn B T x ks
 |[],us,x,_,_=>trivial
 |k::ks,us,x,⟨u,us',e,h1,h2⟩,hT=>by
  subst e
  have ih:=W9 (x:=x+1) h2 fun j v hj=>by
   have:=hT (j+1) v (by simpa using hj)
   rw[show x+(j+1)=x+1+j by omega] at this
   exact this
  have h0:T.get x=u:=hT 0 u rfl
  cases k with
  |list es=>
   obtain⟨n,e1,e2,_⟩:=h1
   rw[e1] at h0
   exact⟨by rw[vL h0];exact e2,ih⟩
  |_=>exact ih
def TC (n:Nat)(r:Option (AC × Mem × G)):Option (Nat × List BE × List BO):=
 match r with
 |some (.b x,_,g)=>if QT n g then some (x,IN g.eqs.reverse,Lm g.obs) else none
 |_=>none
def Tw (P:Program)(l:List (FuncId × Ak))(Ag:FuncId→G4)(fuel depth:Nat)(f:FuncId)(as:List AC)(n:Nat):Option (AC × Mem × G):=
 Hw P (Lv l) Ag fuel depth (fun _=>none) f as none [] { n,eqs:=[],obs:=[] }
theorem UR {P:Program}{w:World}{B:Nat}{H:Type}{enc:TypeId × Value→H}{sp:Nat→Bool}{held:Bool}{base:Nat}(hB:B≤BF)(hm:P.follows .mixedOrders=true){l:List (FuncId × Ak)}(hl:∀p∈l,Ao P p.1 p.2){Ag:FuncId→G4}{fuel depth dd:Nat}{f:FuncId}{ts:List TypeId}{as:List AC}{ks:List Kd}{x:Nat}{es:List En}{os:List ObE}
  (hargs:Fj P dd ts 0=some (as,ks)) (hrun:TC ks.length (Tw P l Ag fuel depth f as ks.length)=some (x,es.map En.be,os.map ObE.be))
  (hplain:∀T:Tab,AL T (BG 0 ks)→Bnd T 0 ks→Qn B T 0 ks→AX T (es.map En.be)→Ng T os∧Go.Eng.B T x=true)
  {vs:List Value} {ds:List (DataW H)} {ps:List MemPlace} (ht:DataW.TrodAll enc P w 0 sp held ts vs ds ps) (hv:∀(j:Nat) t v,ts[j]? =some t→vs[j]? =some v→Value.okWide P w .any base t v) (hs:∀d∈ds,Cs B d):
  Calls P f (vs:List Value).toArray w fun e W'=>e= .returned (.bool true)∧Below w.heap.size w W':=by
 unfold TC at hrun
 split at hrun
 ·rename_i x0 m' g' hr
  split at hrun
  ·rename_i hchk
   injection hrun with hrun
   injection hrun with e0 hrun
   injection hrun with e1 e2
   refine ip hB hm hl hargs hr hchk (fun T us hk hlen hT heqs=>?_) ht hv hs
   have hb:AX T (IN g'.eqs.reverse):=N4 fun p hp=>heqs p (List.mem_reverse.1 hp)
   rw[e1] at hb
   have hT0:∀j u,us[j]? =some u→T (0+j)=u:=fun j u hj=>by rw[Nat.zero_add];exact hT j u hj
   obtain⟨i1,i2⟩:=Uj (x:=0) (CO.up hB hk) hT0
   obtain⟨h1,h2⟩:=hplain T i1 i2 (W9 hk hT0) hb
   have h3:=LG h1
   rw[←e2] at h3
   refine⟨N7 h3,?_⟩
   rw[e0]
   exact VD (pc:=some x) h2
  ·cases hrun
 ·cases hrun
end Go.Eng
end
noncomputable section
namespace Go.Eng
open Go
inductive SE where
 |k (t:Ty) (r:Rf)
 |q (op:Opn) (rs:List Rf)
open Go
end Go.Eng
end
noncomputable section
namespace Go.Eng
open Go
theorem AI.cut {T:Tab}{a b:List En}(h:AI T (a++b)):AI T a∧AI T b:=⟨h.left,h.right⟩
theorem zN:(∀(T:Tab) (x:Nat),bR T (.n x)= !B T x)∧(∀b:Bool,((!b)=true)=(b=false))∧(∀b:Bool,(¬b=true)=(b=false)):=
 ⟨fun T x=>bR_n,fun b=>Bool.not_eq_true' b,fun b=>Bool.not_eq_true b⟩
theorem zC:(∀(T:Tab) (b:Bool),bR T (.c (.bool b))=b)∧((false=true)=False)∧(∀{α:Sort 1} (a:α),(a=a)=True)∧(∀p:Prop,(p∧True)=p)∧(∀p:Prop,(p∧False)=False)∧(∀p:Prop,(p∨False)=p)∧(∀p:Prop,(False∨p)=p)∧(∀p:Prop,(True∧p)=p)∧(∀p:Prop,(False∧p)=False):=
 ⟨fun T b=>bR_c,Bool.false_eq_true,fun a=>eq_self a,and_true,and_false,or_false,false_or,true_and,false_and⟩
theorem zB:(∀a b:Bool,((a&&b)=true)=(a=true∧b=true))∧(∀a b:Bool,((a||b)=true)=(a=true∨b=true))∧(∀b:Bool,(¬b=true)=(b=false))∧(∀b:Bool,((!b)=true)=(b=false))∧(∀a b:Bool,((!a)=b)=(a= !b))∧((!true)=false)∧((!false)=true)∧(∀(p:Prop) [Decidable p],(decide p=true)=p)∧(∀(p:Prop) [Decidable p],(decide p=false)=¬p):=
 ⟨fun a b=>Bool.and_eq_true a b,fun a b=>Bool.or_eq_true a b,fun b=>Bool.not_eq_true b,fun b=>Bool.not_eq_true' b,fun a b=>propext Bool.not_eq_eq_eq_not,Bool.not_true,Bool.not_false,fun p=>decide_eq_true_eq,fun p=>propext decide_eq_false_iff_not⟩
open Go
open Go
theorem zR:(∀(T:Tab) (x:Nat),iR T (.e x)=I T x)∧(∀(T:Tab) (n:Int),iR T (.c (.int n))=n):=
 ⟨fun T x=>iR_e,fun T n=>iR_c⟩
theorem zL:(∀(T:Tab) (x:Nat),lR T (.e x)=L T x)∧(∀T:Tab,lR T (.c (.list []))=[]):=
 ⟨fun T x=>lR_e,fun T=>lR_c⟩
theorem zS:(∀(T:Tab) (x:Nat),stR T (.e x)=S T x)∧(∀(T:Tab) (s:ByteArray),stR T (.c (.str s))=s):=
 ⟨fun T x=>ju,fun T s=>jh⟩
theorem zW:(∀(f:Ty→Rf→U) (a:Ty) (b:Rf) (l:List Ty) (r:List Rf),List.zipWith f (a::l) (b::r)=f a b::List.zipWith f l r)∧(∀(f:Ty→Rf→U) (r:List Rf),List.zipWith f [] r=[])∧(∀(a:U) (l:List U) (n:Nat),List.take (n+1) (a::l)=a::List.take n l)∧(∀l:List U,List.take 0 l=[])∧(∀(a:U) (l:List U) (n:Nat),List.drop (n+1) (a::l)=List.drop n l)∧(∀l:List U,List.drop 0 l=l):=
 ⟨fun _ _ _ _ _=>rfl,fun _ _=>rfl,fun _ _ _=>rfl,fun _=>rfl,fun _ _ _=>rfl,fun _=>rfl⟩
end Go.Eng
end
noncomputable section
namespace Go.Eng
structure Ln where
 name:ByteArray
 wide:Int
 long:Int
 yard:Int
 hoops:List (List U)
 px:Int
 py:Int
 pr:Int
 nx:Int
 ny:Int
 cells:List (List U)
def gAt (k:Nat)(us:List U):Ln:=⟨aS us k,aI us (k+1),aI us (k+2),aI us (k+3),aL us (k+4),aI us (k+5),aI us (k+6),aI us (k+7),aI us (k+8),aI us (k+9),aL us (k+10)⟩
theorem Cu {T:Tab}{us:List U}{k n:Nat}(h:∀j u,us[j]? =some u→T j=u)(hl:us.length=n)(hk:k+11≤n):
  gAt k us=Ln.mk (S T k) (I T (k+1)) (I T (k+2)) (I T (k+3)) (L T (k+4)) (I T (k+5)) (I T (k+6)) (I T (k+7)) (I T (k+8)) (I T (k+9)) (L T (k+10)):=by
 unfold gAt
 rw[inS h hl (by omega),inI h hl (by omega),inI h hl (by omega),inI h hl (by omega),inL h hl (by omega),inI h hl (by omega),inI h hl (by omega),inI h hl (by omega),inI h hl (by omega),inI h hl (by omega),inL h hl (by omega)]
def Cx (x lo hi:Int):Bool:=decide (lo≤x)&&decide (x≤hi)
theorem Bo {x lo hi:Int}:Cx x lo hi=true↔(lo≤x∧x≤hi):=by simp[Cx]
def Gp (b:UInt8):Bool:=(decide (97≤b.toNat)&&decide (b.toNat≤122))||(decide (48≤b.toNat)&&decide (b.toNat≤57))
def BC (s:ByteArray):Bool:=decide (1≤s.size)&&decide (s.size≤20)&&s.data.toList.all Gp
def uI (u:List U)(c:Nat):Int:=(u.getD c default).toI
def uB (u:List U)(c:Nat):Bool:=(u.getD c default).toB
def BI (x y gap wire:Int):Bool:=Cx x 0 4194304&&Cx y 0 4194304&&Cx gap 2 32768&&decide (gap % 2=0)&&Cx wire 1 8192
def Yh (u:List U):Bool:=BI (uI u 0) (uI u 1) (uI u 2) (uI u 3)
def BT (d x y:Int):Bool:=Cx d 0 65536&&Cx x (-4096) 4096&&Cx y (-4096) 4096
def G5 (u:List U):Bool:=BT (uI u 0) (uI u 1) (uI u 2)
def MJ (x y r:Int):List U:=[.int x,.int y,.int r]
def IY (x y gap wire:Int)(along:Bool):List (List U):=
 if along=true then [MJ x (y - (gap / 2+wire)) wire,MJ x (y+(gap / 2+wire)) wire] else [MJ (x - (gap / 2+wire)) y wire,MJ (x+(gap / 2+wire)) y wire]
def Bv (u:List U):List (List U):=IY (uI u 0) (uI u 1) (uI u 2) (uI u 3) (uB u 4)
def CS (h:List (List U))(px py pr:Int):List (List U):=h.flatMap Bv++[MJ px py pr]
def AN (l:Ln):List (List U):=CS l.hoops l.px l.py l.pr
def sq (ax ay bx by_:Int):Int:=(ax - bx)*(ax - bx)+(ay - by_)*(ay - by_)
def Ua (wide long:Int)(u:List U):Bool:=Cx (uI u 0) (uI u 2) (wide - uI u 2)&&Cx (uI u 1) (uI u 2) (long - uI u 2)
def Yw (u v:List U):Bool:=decide (sq (uI u 0) (uI u 1) (uI v 0) (uI v 1) < (uI u 2+uI v 2)*(uI u 2+uI v 2))
def RO (p:List (List U))(u:List U)(k:Nat):Bool:=(p.take k).all fun v=> !Yw u v
def Dm (wide long:Int)(p:List (List U)):Bool:=(List.range p.length).all fun i=>Ua wide long (p.getD i [])&&RO p (p.getD i []) i
def Jk (l:Ln):Bool:=decide (l.hoops.length < 1)||decide (12 < l.hoops.length)||decide (256 < l.cells.length)
def UA (l:Ln):Bool:=
 BC l.name&&Cx l.wide 65536 4194304&&Cx l.long 65536 4194304&&Cx l.yard 0 ((if l.wide≤l.long then l.wide else l.long) / 4)&&Cx l.pr 1 8192&&Cx l.nx 1 16&&Cx l.ny 1 16&&decide ((l.cells.length:Int)=l.nx*l.ny)
def MA (l:Ln):Bool:=UA l&&l.hoops.all Yh&&l.cells.all G5&&Dm l.wide l.long (AN l)
def AO (l:Ln):Int:=if Jk l=true then 6 else if MA l=true then 0 else 2
def AF (x y:Int):Bool:=Cx x (-4194304) 4194304&&Cx y (-4194304) 4194304
def A7 (l:Ln)(x y:Int):Int:=if¬AO l=0 then AO l else if AF x y=true then 0 else 2
def Bn (r:Int):Bool:=Cx r 1 16384
def Aq (u:List U):Bool:=AF (uI u 0) (uI u 1)&&Bn (uI u 2)
def AT (r:Int)(others:List (List U)):Int:=if¬Bn r=true then 3 else if 12 < others.length then 6 else if others.all Aq=true then 0 else 2
def CR (ax ay bx by_ cx cy s:Int):Bool:=
 let dot:=(bx - ax)*(cx - ax)+(by_ - ay)*(cy - ay)
 let long:=(bx - ax)*(bx - ax)+(by_ - ay)*(by_ - ay)
 let cross:=(bx - ax)*(cy - ay) - (by_ - ay)*(cx - ax)
 if dot≤0 then decide (sq ax ay cx cy < s*s) else if long≤dot then decide (sq bx by_ cx cy < s*s) else decide (cross*cross < long*(s*s))
def Av (ax ay bx by_ r:Int)(d:List (List U))(n:Nat):List (List U):=
 (List.range n).filterMap fun i=>if CR ax ay bx by_ (uI (d.getD i []) 0) (uI (d.getD i []) 1) (r+uI (d.getD i []) 2)=true then some [U.int i] else none
def Cf (l:Ln)(ax ay bx by_ r:Int)(others:List (List U)):Int:=
 if¬A7 l ax ay=0 then A7 l ax ay else if¬AF bx by_=true then 2 else AT r others
def E3 (l:Ln)(ax ay bx by_ r:Int)(others:List (List U)):List (List U):=
 if Cf l ax ay bx by_ r others=0 then Av ax ay bx by_ r (AN l++others) (AN l++others).length else []
theorem aN (a b:Int):a*b=(a / 4294967296)*(b / 4294967296)*18446744073709551616+((a % 4294967296)*(b / 4294967296)+(a / 4294967296)*(b % 4294967296))*4294967296+(a % 4294967296)*(b % 4294967296):=by
 have h1:a=a / 4294967296*4294967296+a % 4294967296:=by omega
 have h2:b=b / 4294967296*4294967296+b % 4294967296:=by omega
 generalize a / 4294967296=x at*
 generalize a % 4294967296=y at*
 generalize b / 4294967296=u at*
 generalize b % 4294967296=v at*
 subst h1 h2
 grind
theorem OF {a b:Int}(h1:0≤a)(h2:a≤4294967295)(h3:0≤b)(h4:b≤4294967295):0≤a*b∧a*b≤18446744065119617025:=
 ⟨Int.mul_nonneg h1 h3,Int.mul_le_mul h2 h4 h3 (by omega)⟩
theorem dD {a b:Int}(h1:0≤a)(h2:a≤18446744073709551615)(h3:0≤b)(h4:b≤18446744073709551615):
  (0≤(a % 4294967296)*(b % 4294967296)∧(a % 4294967296)*(b % 4294967296)≤18446744065119617025)∧
  (0≤(a % 4294967296)*(b / 4294967296)∧(a % 4294967296)*(b / 4294967296)≤18446744065119617025)∧
  (0≤(a / 4294967296)*(b % 4294967296)∧(a / 4294967296)*(b % 4294967296)≤18446744065119617025)∧
  (0≤(a / 4294967296)*(b / 4294967296)∧(a / 4294967296)*(b / 4294967296)≤18446744065119617025):=
 ⟨OF (by omega) (by omega) (by omega) (by omega),OF (by omega) (by omega) (by omega) (by omega),OF (by omega) (by omega) (by omega) (by omega),OF (by omega) (by omega) (by omega) (by omega)⟩
theorem fA (n:Int):IntKind.u64.wrap n=n % 18446744073709551616:=by simp[IntKind.wrap,IntKind.signed,IntKind.bits]
theorem CX {p:List U→Bool}:∀{l:List (List U)},l.all p=true↔∀j:Nat,j < l.length→p (l.getD j [])=true:=by
 intro l
 rw[List.all_eq_true]
 constructor
 ·intro h j hj
  rw[List.getD_eq_getElem?_getD,List.getElem?_eq_getElem hj]
  exact h _ (List.getElem_mem hj)
 ·intro h x hx
  obtain⟨j,hj,rfl⟩:=List.getElem_of_mem hx
  have:=h j hj
  rwa [List.getD_eq_getElem?_getD,List.getElem?_eq_getElem hj] at this
theorem Mp {p:List U→Bool}{l:List (List U)}{j:Nat}(hj:j < l.length)(h:¬p (l.getD j [])=true):¬l.all p=true:=fun q=>h (CX.1 q j hj)
def B6 (l:List (List U)):Bool:=l.all fun u=>AF (uI u 0) (uI u 1)
theorem Up {l:List (List U)}:B6 l=true↔∀j:Nat,j < l.length→AF (AA l j 0) (AA l j 1)=true:=CX
theorem Af {x y:Int}:AF x y=true↔((-4194304≤x∧x≤4194304)∧(-4194304≤y∧y≤4194304)):=by simp only[AF,Bo,Bool.and_eq_true]
theorem TF (x y:Int):B6 [[.int x,.int y]]=AF x y:=by simp[B6,uI,U.toI]
theorem Cp {a b A B:Int}(ha: -A≤a∧a≤A)(hb: -B≤b∧b≤B): -(A*B)≤a*b∧a*b≤A*B:=by
 obtain⟨a1,a2⟩:=ha
 obtain⟨b1,b2⟩:=hb
 have hA:0≤A:=by omega
 have hB:0≤B:=by omega
 have key:∀x y:Int,x≤A→ -A≤x→0≤y→y≤B→x*y≤A*B∧ -(A*B)≤x*y:=by
  intro x y h1 h2 h3 h4
  have p1:=Int.mul_le_mul_of_nonneg_right h1 h3
  have p2:=Int.mul_le_mul_of_nonneg_left h4 hA
  have p3:=Int.mul_le_mul_of_nonneg_right h2 h3
  rw[Int.neg_mul] at p3
  omega
 rcases Int.le_total 0 b with h|h
 ·have:=key a b a2 a1 h b2
  omega
 ·have:=key a (-b) a2 a1 (by omega) (by omega)
  rw[Int.mul_neg] at this
  omega
theorem sqB {a A:Int}(ha: -A≤a∧a≤A):0≤a*a∧a*a≤A*A:=by
 refine⟨?_,(Cp ha ha).2⟩
 rcases Int.le_total 0 a with h|h
 ·exact Int.mul_nonneg h h
 ·have:=Int.mul_nonneg (a:= -a) (b:= -a) (by omega) (by omega)
  rwa [Int.neg_mul_neg] at this
theorem I4 {ax ay bx by_ cx cy s dot long cross qa qb ss:Int}(h1:dot=(bx - ax)*(cx - ax)+(by_ - ay)*(cy - ay))(h2:long=(bx - ax)*(bx - ax)+(by_ - ay)*(by_ - ay))
  (h3:cross=(bx - ax)*(cy - ay) - (by_ - ay)*(cx - ax)) (h4:qa=(ax - cx)*(ax - cx)+(ay - cy)*(ay - cy)) (h5:qb=(bx - cx)*(bx - cx)+(by_ - cy)*(by_ - cy)) (h6:ss=s*s):
  CR ax ay bx by_ cx cy s=if dot≤0 then decide (qa < ss) else if long≤dot then decide (qb < ss) else decide (cross*cross < long*ss):=by
 subst h1 h2 h3 h4 h5 h6
 rfl
theorem iY {m n:Int}(h:n=if m≤ -m then -m else m):n*n=m*m:=by
 subst h
 split
 ·exact Int.neg_mul_neg m m
 ·rfl
def orS:List (List U)→Int
 |[]=>0
 |u::r=>if uI u 0=0 then orS r else uI u 0
theorem fo {l:List (List U)}{i:Nat}(h:i < l.length):l.drop i=l.getD i []::l.drop (i+1):=by
 rw[List.drop_eq_getElem_cons h,List.getD_eq_getElem?_getD,List.getElem?_eq_getElem h]
 rfl
theorem TP {l:List (List U)}{i:Nat}(h:i < l.length):orS (l.drop i)=if AA l i 0=0 then orS (l.drop (i+1)) else AA l i 0:=by
 rw[fo h]
 rfl
def EY (x y:Int):Int:=if x < y then -1 else if y < x then 1 else 0
def Hi (ax ay bx by_ cx cy s:Int):Int:=
 let dot:=(bx - ax)*(cx - ax)+(by_ - ay)*(cy - ay)
 let long:=(bx - ax)*(bx - ax)+(by_ - ay)*(by_ - ay)
 let cross:=(bx - ax)*(cy - ay) - (cx - ax)*(by_ - ay)
 let qa:=(cx - ax)*(cx - ax)+(cy - ay)*(cy - ay)
 let qb:=(cx - bx)*(cx - bx)+(cy - by_)*(cy - by_)
 if dot≤0∨long≤dot then EY (if qa≤qb then qa else qb) (s*s) else EY (cross*cross) (s*s*long)
theorem Xj {ax ay bx by_ cx cy s dot long cross qa qb ss:Int}(h1:dot=(bx - ax)*(cx - ax)+(by_ - ay)*(cy - ay))(h2:long=(bx - ax)*(bx - ax)+(by_ - ay)*(by_ - ay))
  (h3:cross=(bx - ax)*(cy - ay) - (cx - ax)*(by_ - ay)) (h4:qa=(cx - ax)*(cx - ax)+(cy - ay)*(cy - ay)) (h5:qb=(cx - bx)*(cx - bx)+(cy - by_)*(cy - by_)) (h6:ss=s*s):
  Hi ax ay bx by_ cx cy s=if dot≤0∨long≤dot then EY (if qa≤qb then qa else qb) ss else EY (cross*cross) (ss*long):=by
 subst h1 h2 h3 h4 h5 h6
 rfl
theorem or2 (a b:Int):orS [[.int a],[.int b]]=if a=0 then b else a:=by
 show (if a=0 then (if b=0 then 0 else b) else a)=_
 split
 ·split
  ·rename_i h;exact h.symm
  ·rfl
 ·rfl
theorem eB (x y:Int):(if x / 18446744073709551616=y / 18446744073709551616∧x % 18446744073709551616=y % 18446744073709551616 then 0 else if EY (x / 18446744073709551616) (y / 18446744073709551616)=0 then EY (x % 18446744073709551616) (y % 18446744073709551616) else EY (x / 18446744073709551616) (y / 18446744073709551616))=EY x y:=by
 unfold EY
 repeat' split
 all_goals first|rfl|omega
theorem cP (ax ay bx by_ cx cy s:Int):Hi ax ay bx by_ cx cy s < 0↔CR ax ay bx by_ cx cy s=true:=by
 rw[Xj rfl rfl rfl rfl rfl rfl,I4 rfl rfl rfl rfl rfl rfl]
 have hq:(cx - bx)*(cx - bx)+(cy - by_)*(cy - by_)=((cx - ax)*(cx - ax)+(cy - ay)*(cy - ay)) - 2*((bx - ax)*(cx - ax)+(by_ - ay)*(cy - ay))+((bx - ax)*(bx - ax)+(by_ - ay)*(by_ - ay)):=by grind
 have hl:0≤(bx - ax)*(bx - ax)+(by_ - ay)*(by_ - ay):=by
  have q1:∀z:Int,0≤z*z:=fun z=>by
   rcases Int.le_total 0 z with h|h
   ·exact Int.mul_nonneg h h
   ·have:=Int.mul_nonneg (a:= -z) (b:= -z) (by omega) (by omega)
    rwa [Int.neg_mul_neg] at this
  have:=q1 (bx - ax)
  have:=q1 (by_ - ay)
  omega
 have ha:(ax - cx)*(ax - cx)+(ay - cy)*(ay - cy)=(cx - ax)*(cx - ax)+(cy - ay)*(cy - ay):=by grind
 have hb:(bx - cx)*(bx - cx)+(by_ - cy)*(by_ - cy)=(cx - bx)*(cx - bx)+(cy - by_)*(cy - by_):=by grind
 have hc:(bx - ax)*(cy - ay) - (by_ - ay)*(cx - ax)=(bx - ax)*(cy - ay) - (cx - ax)*(by_ - ay):=by grind
 rw[ha,hb,hc,Int.mul_comm (s*s)]
 generalize (bx - ax)*(cx - ax)+(by_ - ay)*(cy - ay)=dot at*
 generalize (bx - ax)*(bx - ax)+(by_ - ay)*(by_ - ay)=long at*
 generalize (cx - ax)*(cx - ax)+(cy - ay)*(cy - ay)=qa at*
 generalize (cx - bx)*(cx - bx)+(cy - by_)*(cy - by_)=qb at*
 unfold EY
 repeat' split
 all_goals simp only[decide_eq_true_eq]
 all_goals omega
theorem fM (a b c d:Int):B6 [[.int a,.int b],[.int c,.int d]]=true↔(AF a b=true∧AF c d=true):=by simp[B6,uI,U.toI]
theorem jV (a b c d e f:Int):B6 [[.int a,.int b],[.int c,.int d],[.int e,.int f]]=true↔(AF a b=true∧AF c d=true∧AF e f=true):=by simp[B6,uI,U.toI]
def Cv (ax ay ar bx by_ br:Int):Int:=
 if AF ax ay=true∧AF bx by_=true∧1≤ar∧ar≤65536∧1≤br∧br≤65536 then EY ((bx - ax)*(bx - ax)+(by_ - ay)*(by_ - ay)) ((ar+br)*(ar+br)) else 0
theorem MR {h:List (List U)}{i:Nat}(hi:i < h.length):(h.take (i+1)).flatMap Bv=(h.take i).flatMap Bv++Bv (h.getD i []):=by
 rw[List.take_add_one,List.getElem?_eq_getElem hi,List.flatMap_append,List.getD_eq_getElem?_getD,List.getElem?_eq_getElem hi]
 simp
theorem aa (u:List U):(Bv u).length=2:=by
 unfold Bv IY
 split<;>rfl
theorem DQ (h:List (List U)):(h.flatMap Bv).length=2*h.length:=by
 induction h with
 |nil=>rfl
 |cons u h ih=>rw[List.flatMap_cons,List.length_append,aa,ih,List.length_cons];omega
def BN (h:List (List U)):Bool:=h.all Yh
theorem Gc {h:List (List U)}:BN h=true↔∀j:Nat,j < h.length→BI (AA h j 0) (AA h j 1) (AA h j 2) (AA h j 3)=true:=CX
theorem JR {x y gap wire:Int}:BI x y gap wire=true↔((0≤x∧x≤4194304)∧(0≤y∧y≤4194304)∧(2≤gap∧gap≤32768)∧gap % 2=0∧(1≤wire∧wire≤8192)):=by
 simp only[BI,Bo,Bool.and_eq_true,decide_eq_true_eq,and_assoc]
def Bs (l:List (List U)):List (List U):=l.flatMap fun u=>(u.getD 0 default).toL
theorem OW {l:List (List U)}{i:Nat}(hi:i < l.length):Bs (l.take (i+1))=Bs (l.take i)++FK l i 0:=by
 unfold Bs FK
 have e:l.getD i []=l[i]:=by rw[List.getD_eq_getElem?_getD,List.getElem?_eq_getElem hi];rfl
 rw[List.take_add_one,List.getElem?_eq_getElem hi,List.flatMap_append,e]
 simp
theorem QE {l:List (List U)}(h:∀j:Nat,(FK l j 0).length≤1000):∀i:Nat,i≤l.length→(Bs (l.take i)).length≤1000*i
 |0,_=>by simp[Bs]
 |i+1,hi=>by
  rw[OW (by omega),List.length_append]
  have:=QE h i (by omega)
  have:=h i
  omega
theorem gq (a b:List (List U)):Bs [[.list a],[.list b]]=a++b:=by simp[Bs,U.toL]
theorem Bp {r:Int}:Bn r=true↔(1≤r∧r≤16384):=by simp only[Bn,Bo]
theorem DB {l:List (List U)}{j:Nat}:Aq (l.getD j [])=true↔(AF (AA l j 0) (AA l j 1)=true∧1≤AA l j 2∧AA l j 2≤16384):=by
 show (AF (AA l j 0) (AA l j 1)&&Bn (AA l j 2))=true↔_
 rw[Bool.and_eq_true,Bp]
end Go.Eng
end
noncomputable section
namespace Go.Eng
open Go Go.RowKit
theorem AJ.below {T:Tab}{n:Nat}{ρ :Nat→Option Nat}{w w':World}(h:Below w.heap.size w w'):AJ T n ρ [] w ρ [] w' where
 os:=h.os
 tape:=h.tape
 output:=h.output
 size:=h.size
 mlen:=fun _ h=>h
 rho:=fun id h=>by simp[Mem.at,Blk.ptrOk] at h
 untr:=fun _ _ h=>h
 fresh:=fun id b _ h _=>by simp[Mem.at,Blk.tracked] at h
 old:=fun k hk _=>h.block k hk
 tok:=fun id x ks e h=>by simp[Mem.at] at h
theorem AH.below {T:Tab}{n n':Nat}{ρ ρ':Nat→Option Nat}{w w':World}(hm:AH T n ρ [] w)(h:Below w.heap.size w w'):AH T n' ρ' [] w' where
 blk:=fun id=>by simp[Mem.at,BU]
 inj:=fun id id' b h=>by simp[Mem.at,Blk.tracked] at h
 fr:=fun b off hb=>hm.fr b off (Nat.le_trans h.size hb)
theorem Yk {P:Program}{f:FuncId}{t:Ak}(hb:t.blks=[])(hm':t.m'=[])(hlook:∃fn,P.funcs[f]? =some fn∧fn.body.isSome=true∧(fn.name== "runtime.NumGoroutine")=false)
  (h:∀(T:Tab) (us:List U),us.length=t.n→(∀j u,(t.us us)[j]? =some u→T j=u)→(∀p∈t.pre,p.2 us)→∀ ρ w vs,AD T t.n ρ [] w t.args vs→
   Calls P f (vs:List Value).toArray w fun e w'=>∃v,e= .returned v∧Below w.heap.size w w'∧AB T (t.n+t.outs.length) ρ [] w' t.c v):Ao P f t:=by
 refine⟨fun _=>⟨⟨0,[],.nil⟩, #[],.skip,.skip,[]⟩,fun T us _ hl hT hp ρ w vs hv hm=>⟨hlook,?_⟩⟩
 have em:t.m=[]:=by unfold Ak.m;rw[hb];rfl
 rw[em] at hv hm⊢
 rw[hm']
 exact (h T us hl hT hp ρ w vs hv).mono fun e w' ⟨v,e1,e2,e3⟩=>⟨v, ρ,e1,AJ.below e2,hm.below e2,e3⟩
end Go.Eng
end
