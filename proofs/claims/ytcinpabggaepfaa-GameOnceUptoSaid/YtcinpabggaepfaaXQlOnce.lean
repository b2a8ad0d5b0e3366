/-
  A part of the proof: plain laws.
-/
import Derived.Test.YtcinpabggaepfaaE3
set_option linter.unusedVariables false
set_option linter.unusedSimpArgs false
noncomputable section
namespace Go.Eng
theorem ox {g:Gm}(h:AR g=true):(¬g.p0=13→g.p0≤AX g.code)∧(¬g.p1=13→g.p1≤AX g.code)∧(¬g.p2=13→g.p2≤AX g.code)∧(¬g.p3=13→g.p3≤AX g.code):=by
 have h:=(Bs h).1
 simp only[BU,CE,Bool.and_eq_true,Bool.or_eq_true,Bool.not_eq_true',decide_eq_true_eq,decide_eq_false_iff_not] at h
 refine⟨?_,?_,?_,?_⟩<;>grind
def mj (c h0 h1:Int):Bool:=decide (0≤c)&&decide (c≤3)&&DD c h0 h1
def mf (c h0 h1:Int):Gm:=if mj c h0 h1=true then ⟨c,0,0,-1,-1,0,0,0,0,false,false,false,false,false,false,false,false,h0,h1,false,false,false,0,0,-1,-1⟩ else Jm
def mm (c h0 h1:Int):Int:=if¬(0≤c∧c≤3) then 3 else if mj c h0 h1=true then 0 else 2
def evS (g:Gm)(x:Int):List (List U):=if inS g (x % 4)=true∧¬(x / 4 % 4=0∧x % 4=g.ball) then [[.int (1+x / 4 % 4),.int (x % 4)]] else []
def ml (g:Gm)(out:List (List U)):List (List U)→List (List U)
 |[]=>out
 |r::t=>if 24≤out.length then out else if 250≤(r.getD 0 default).toI then out++[[.int 5,.int 0]] else ml g (out++evS g (r.getD 0 default).toI) t
def nU (g:Gm)(l:List (List U)):List (List U):=ml g [] l
theorem ol {g:Gm}{out l:List (List U)}{i:Nat}(h:l.length≤i):ml g out (l.drop i)=out:=by
 rw[List.drop_eq_nil_of_le h];rfl
theorem oP {g:Gm}{out l:List (List U)}(h:24≤out.length):ml g out l=out:=by
 cases l with
 |nil=>rfl
 |cons r t=>unfold ml;exact if_pos h
theorem oo {g:Gm}{out l:List (List U)}{i:Nat}(h:i < l.length)(h2:¬24≤out.length)(h3:250≤At l i 0):ml g out (l.drop i)=out++[[.int 5,.int 0]]:=by
 rw[T5 h];unfold ml;rw[if_neg h2];exact if_pos h3
theorem pB {g:Gm}{out l:List (List U)}{i:Nat}(h:i < l.length)(h2:¬24≤out.length)(h3:¬250≤At l i 0):ml g out (l.drop i)=ml g (out++evS g (At l i 0)) (l.drop (i+1)):=by
 rw[T5 h]
 show (if 24≤out.length then out else if 250≤At l i 0 then _ else _)=_
 rw[if_neg h2,if_neg h3];rfl
def o6 (g:Gm)(r:List U):Prop:=1≤(r.getD 0 default).toI∧(r.getD 0 default).toI≤4∧inS g (r.getD 1 default).toI=true∧¬((r.getD 0 default).toI=1∧(r.getD 1 default).toI=g.ball)
theorem pe {g:Gm}{x:Int}:∀r∈evS g x,o6 g r:=by
 intro r h
 unfold evS at h
 split at h
 ·rename_i h1
  obtain rfl:=List.mem_singleton.1 h
  refine⟨?_,?_,h1.1,?_⟩
  ·show 1≤1+x / 4 % 4;omega
  ·show 1+x / 4 % 4≤4;omega
  ·intro h2
   apply h1.2
   have h3:1+x / 4 % 4=1:=h2.1
   exact⟨by omega,h2.2⟩
 ·cases h
theorem oe {g:Gm}{x:Int}:(evS g x).length≤1:=by unfold evS;split<;>simp
theorem oE {g:Gm}{out t:List (List U)}(ho:∀r∈out,o6 g r){j:Nat}(hj:j < out.length)(n i:Int):Kw g n i (At (out++t) j 0) (At (out++t) j 1):=by
 have e:(out++t).getD j []=out[j]:=by
  rw[List.getD_eq_getElem?_getD,List.getElem?_append_left hj,List.getElem?_eq_getElem hj];rfl
 have h:=ho _ (List.getElem_mem hj)
 unfold Kw At
 rw[e]
 obtain⟨a,b,c,d⟩:=h
 exact⟨a,by omega,fun h=>by omega,fun _=>⟨c,d⟩⟩
theorem pG {g:Gm}:∀(l out:List (List U)),(∀r∈out,o6 g r)→out.length≤24→BX g (ml g out l)=true∧(ml g out l).length≤24:=by
 have base:∀out:List (List U),(∀r∈out,o6 g r)→BX g out=true:=fun out h=>HU.2 fun j hj=>by
  have:=oE (t:=[]) h (j:=j) (by omega) out.length j
  rwa [List.append_nil] at this
 intro l
 induction l with
 |nil=>exact fun out h hl=>⟨base out h,hl⟩
 |cons r t ih=>
  intro out h hl
  unfold ml
  split
  ·exact⟨base out h,hl⟩
  ·rename_i h2
   split
   ·constructor
    ·refine HU.2 fun j hj=>?_
     have hlen:(out++[[U.int 5,U.int 0]]).length=out.length+1:=by simp
     rw[hlen] at hj⊢
     by_cases hj2:j < out.length
     ·exact oE h hj2 _ _
     ·obtain rfl:j=out.length:=by omega
      have e:(out++[[U.int 5,U.int 0]]).getD out.length []=[U.int 5,U.int 0]:=by
       rw[List.getD_eq_getElem?_getD,List.getElem?_append_right (Nat.le_refl _),Nat.sub_self];rfl
      unfold Kw At
      rw[e]
      exact⟨by decide,by decide,fun _=>by omega,fun h=>absurd rfl h⟩
    ·simp;omega
   ·refine ih _ (fun r hr=>?_) ?_
    ·rcases List.mem_append.1 hr with hr|hr
     ·exact h r hr
     ·exact pe r hr
    ·have:=oe (g:=g) (x:=(r.getD 0 default).toI)
     rw[List.length_append];omega
theorem nj {g:Gm}{l:List (List U)}:BX g (nU g l)=true∧(nU g l).length≤24:=pG l [] (fun r h=>by cases h) (by decide)
theorem pW {P:List U→Prop}{g:Gm}(h:∀k b f,P (mvU k b f)):∀u∈C2 g,P u:=by
 have hc:∀b,∀u∈Co g b,P u:=by
  intro b u hu
  unfold Co at hu
  split at hu
  ·split at hu
   ·rcases List.mem_cons.1 hu with rfl|hu
    ·exact h _ _ _
    ·obtain rfl:=List.mem_singleton.1 hu;exact h _ _ _
   ·obtain rfl:=List.mem_singleton.1 hu;exact h _ _ _
  ·cases hu
 have h1:∀u∈Ij g,P u:=by
  intro u hu;unfold Ij at hu
  split at hu
  ·obtain rfl:=List.mem_singleton.1 hu;exact h _ _ _
  ·cases hu
 have h2:∀u∈C1 g,P u:=by
  intro u hu;unfold C1 at hu
  split at hu
  ·obtain rfl:=List.mem_singleton.1 hu;exact h _ _ _
  ·cases hu
 have h3:∀u∈C0 g,P u:=by
  intro u hu;unfold C0 at hu
  split at hu
  ·obtain rfl:=List.mem_singleton.1 hu;exact h _ _ _
  ·cases hu
 intro u hu
 unfold C2 at hu
 split at hu
 ·rcases List.mem_cons.1 hu with rfl|hu
  ·exact h _ _ _
  ·obtain rfl:=List.mem_singleton.1 hu;exact h _ _ _
 ·split at hu
  ·cases hu
  ·rcases List.mem_append.1 hu with hu|hu
   ·rcases List.mem_append.1 hu with hu|hu
    ·rcases List.mem_append.1 hu with hu|hu
     ·rcases List.mem_append.1 hu with hu|hu
      ·exact hc _ _ hu
      ·exact hc _ _ hu
     ·exact h1 _ hu
    ·exact h2 _ hu
   ·exact h3 _ hu
theorem nd (g:Gm)(j:Nat):EF (C2 g) j 3=[]:=by
 by_cases h:j < (C2 g).length
 ·exact pW (P:=fun u=>(u.getD 3 default).toL=[]) (fun _ _ _=>rfl) _ (ii h)
 ·unfold EF
  have e:(C2 g).getD j []=[]:=by rw[List.getD_eq_getElem?_getD,List.getElem?_eq_none (by omega)];rfl
  rw[e];rfl
theorem ow (g:Gm):BX g []=true:=rfl
theorem oJ {g:Gm}{j:Nat}(h:j < (C2 g).length):C3 g (At (C2 g) j 0) (At (C2 g) j 1) (C8 (C2 g) j 2)=true:=
 UA.2 ⟨j,h,rfl,rfl,rfl⟩
theorem np {g:Gm}{j:Nat}{l:List (List U)}(hl:AR g=true)(h:j < (C2 g).length)(h2:At (C2 g) j 0=2→l.length≤24∧BX g l=true)(h3:¬At (C2 g) j 0=2→l=[]):
  B9 g (At (C2 g) j 0) (At (C2 g) j 1) (C8 (C2 g) j 2) l=0:=by
 have hL:l.length≤24∧BX g l=true∧(¬At (C2 g) j 0=2→l.length=0):=by
  by_cases hk:At (C2 g) j 0=2
  ·exact⟨(h2 hk).1,(h2 hk).2,fun h=>absurd hk h⟩
  ·have:=h3 hk;subst this;exact⟨by decide,ow g,fun _=>rfl⟩
 unfold B9
 rw[if_neg (by rw[hl];decide),if_neg (by rw[oJ h];decide),if_neg (by omega),if_neg (by rintro (h|h);exact absurd (hL.2.2 h.1) (by omega);rw[hL.2.1] at h;cases h)]
theorem od {l:List (List U)}{es:List Kd}{m j c:Nat}{k:IntKind}{lo hi:Int}(he:∀(i:Nat) (us:List U),l[i]? =some us→DC m es us)(hj:j < l.length)(hk:es[c]? =some (.int k lo hi)):lo≤At l j c∧At l j c≤hi:=by
 have h1:=he j l[j] (List.getElem?_eq_getElem hj)
 have e:l.getD j []=l[j]:=by rw[List.getD_eq_getElem?_getD,List.getElem?_eq_getElem hj];rfl
 unfold At
 rw[e]
 generalize l[j]=us at h1
 clear he hj e
 induction es generalizing us c with
 |nil=>simp at hk
 |cons e es ih=>
  obtain⟨u,us',rfl,h2,h3⟩:=h1
  cases c with
  |zero=>
   have e0:e= .int k lo hi:=by simpa using hk
   subst e0
   obtain⟨n,rfl,h4,h5⟩:=h2
   exact⟨h4,h5⟩
  |succ c=>exact ih (c:=c) (by simpa using hk) us' h3
theorem pd {a b c:Int}:mj (a % 4) (if a % 4=1∨a % 4=3 then 0 else b % 41) (if a % 4=1∨a % 4=3 then 0 else c % 41)=true:=by
 unfold mj DD Ao
 simp only[Bool.and_eq_true,Bool.or_eq_true,Bool.not_eq_true',decide_eq_true_eq,decide_eq_false_iff_not]
 split<;>omega
theorem pE {c a b:Int}(h:mj c a b=true):AR (mf c a b)=true:=by
 unfold mf
 rw[if_pos h]
 unfold mj at h
 simp only[Bool.and_eq_true,decide_eq_true_eq] at h
 have hh:=gR c
 have h6:(0:Int)≤AX c:=by omega
 simp[AR,BU,DR,CI,Cm,Ag,C5,Cz,Cj,CQ,bit,CE,h,h6]
theorem pP {c a b:Int}(h:mj c a b=true):mm c a b=0:=by
 have h2:=h
 unfold mj at h2
 simp only[Bool.and_eq_true,decide_eq_true_eq] at h2
 unfold mm
 rw[if_neg (by omega),if_pos h]
def tk1 (g:Gm)(t0 t1 t2 t3:Bool):Prop:=
 (t0=true→g.d0=true∨(g.phase=2∧g.taken=0)∨g.n0=false)∧(t1=true→g.d1=true∨(g.phase=2∧g.taken=1)∨g.n1=false)∧
 (t2=true→g.d2=true∨(g.phase=2∧g.taken=2)∨g.n2=false)∧(t3=true→g.d3=true∨(g.phase=2∧g.taken=3)∨g.n3=false)
def tk2 (d0 d1 d2 d3 n0 n1 n2 n3:Bool)(t0 t1 t2 t3:Bool):Prop:=
 (t0=true→d0=true∨n0=false)∧(t1=true→d1=true∨n1=false)∧(t2=true→d2=true∨n2=false)∧(t3=true→d3=true∨n3=false)
theorem oC (d0 d1 d2 d3 n0 n1 n2 n3:Bool):tk2 d0 d1 d2 d3 n0 n1 n2 n3 false false false false:=by unfold tk2;simp
theorem pA {g:Gm}{t0 t1 t2 t3:Bool}(h:tk1 g t0 t1 t2 t3):tk2 (EL g).d0 (EL g).d1 (EL g).d2 (EL g).d3 g.n0 g.n1 g.n2 g.n3 t0 t1 t2 t3:=by
 unfold tk1 at h
 unfold tk2
 simp only[EL,Cn,Bool.or_eq_true,decide_eq_true_eq]
 obtain⟨h0,h1,h2,h3⟩:=h
 refine⟨fun h=>?_,fun h=>?_,fun h=>?_,fun h=>?_⟩
 ·rcases h0 h with h|⟨h,e⟩|h<;>simp[h];simp[e]
 ·rcases h1 h with h|⟨h,e⟩|h<;>simp[h];simp[e]
 ·rcases h2 h with h|⟨h,e⟩|h<;>simp[h];simp[e]
 ·rcases h3 h with h|⟨h,e⟩|h<;>simp[h];simp[e]
theorem pK {g:Gm}{s:St}{k b:Int}{t0 t1 t2 t3:Bool}(h:tk2 s.d0 s.d1 s.d2 s.d3 s.n0 s.n1 s.n2 s.n3 t0 t1 t2 t3)(ho:CH g s k b=false):
  tk2 (Br g s k b).d0 (Br g s k b).d1 (Br g s k b).d2 (Br g s k b).d3 (Br g s k b).n0 (Br g s k b).n1 (Br g s k b).n2 (Br g s k b).n3 t0 t1 t2 t3:=by
 unfold tk2 at*
 simp only[Br,ho,Bool.not_false,Bool.and_true]
 obtain⟨h0,h1,h2,h3⟩:=h
 refine⟨fun h=>?_,fun h=>?_,fun h=>?_,fun h=>?_⟩
 ·rcases h0 h with h|h<;>simp only[h,Bool.true_and,Bool.false_and,or_true];cases (Bw g s k b&&decide (b=0))<;>simp
 ·rcases h1 h with h|h<;>simp only[h,Bool.true_and,Bool.false_and,or_true];cases (Bw g s k b&&decide (b=1))<;>simp
 ·rcases h2 h with h|h<;>simp only[h,Bool.true_and,Bool.false_and,or_true];cases (Bw g s k b&&decide (b=2))<;>simp
 ·rcases h3 h with h|h<;>simp only[h,Bool.true_and,Bool.false_and,or_true];cases (Bw g s k b&&decide (b=3))<;>simp
theorem pN {g:Gm}{s:St}{k b:Int}(hb:0≤g.ball∧g.ball≤3):
  Bp (Br g s k b) g.ball=if CH g s k b=true then Bp s g.ball+1 else if Bw g s k b=true∧b=g.ball then 13 else Bp s g.ball:=by
 have hu:CH g s k b=true→b=g.ball:=fun h=>(km h).2.2.2.2.1
 have hp:Bx g s k b=true→¬b=g.ball:=fun h=>(jW h).2.2.2.2
 have h4:g.ball=0∨g.ball=1∨g.ball=2∨g.ball=3:=by omega
 unfold Bp AS Br
 rcases h4 with e|e|e|e<;>simp only[e] at hu hp⊢ <;>grind
theorem ns {g:Gm}{l:List (List U)}{t0 t1 t2 t3:Bool}(hl:AR g=true)(hb:0≤g.ball∧g.ball≤3)(hp:AJ g g.ball≤12)(ht:tk1 g t0 t1 t2 t3):∀n:Nat,
  AJ g g.ball≤Bp (Cw g l n) g.ball∧(Bp (Cw g l n) g.ball=AJ g g.ball→tk2 (Cw g l n).d0 (Cw g l n).d1 (Cw g l n).d2 (Cw g l n).d3 (Cw g l n).n0 (Cw g l n).n1 (Cw g l n).n2 (Cw g l n).n3 t0 t1 t2 t3)
 |0=>⟨Int.le_refl _,fun _=>pA ht⟩
 |n+1=>by
  obtain⟨h1,h2⟩:=ns (l:=l) hl hb hp ht n
  have hs:=pN (s:=Cw g l n) (k:=At l n 0) (b:=At l n 1) hb
  show AJ g g.ball≤Bp (Br g (Cw g l n) (At l n 0) (At l n 1)) g.ball∧(Bp (Br g (Cw g l n) (At l n 0) (At l n 1)) g.ball=AJ g g.ball→_)
  rw[hs]
  cases ho:CH g (Cw g l n) (At l n 0) (At l n 1) with
  |true=>
   rw[if_pos rfl]
   exact⟨by omega,fun h=>by omega⟩
  |false=>
   rw[if_neg (by decide)]
   split
   ·exact⟨by omega,fun h=>by omega⟩
   ·exact⟨h1,fun h=>pK (h2 h) ho⟩
theorem nr {g n:Gm}{k b:Int}{f:Bool}{l:List (List U)}{t0 t1 t2 t3:Bool}(he:B9 g k b f l=0)(hn:n=Bv g k b l)(ht:tk1 g t0 t1 t2 t3)
  (hb:n.ball=g.ball) (h0:0≤n.ball∧n.ball≤3) (hp:AJ n n.ball=AJ g n.ball):tk2 n.d0 n.d1 n.d2 n.d3 n.n0 n.n1 n.n2 n.n3 t0 t1 t2 t3:=by
 obtain⟨hl,ha,-,-,hv⟩:=WH he
 have hg:0≤g.ball∧g.ball≤3:=by rw[←hb];exact h0
 have hturn:Ag g=true:=by
  cases hx:Ag g with
  |true=>rfl
  |false=>have:=(Ii hl hx).1;omega
 have hk:k=2∨k=3:=by
  rcases (Ko hl).1 ha with h|h|h|h|h
  ·exact .inl h.1
  ·exact .inr h.1
  ·rw[hturn] at h;cases h.2.1
  ·rw[hturn] at h;cases h.2.2.1
  ·rw[hturn] at h;cases h.2.2.1
 have hpt:AJ g g.ball≤12:=by
  have hin:inS g g.ball=true:=by
   have:=dx hl hturn
   simp only[Ct,Bool.and_eq_true] at this
   exact this.1.1.1.1.1.1.1
  have h1:=KP hl
  have h2:=ox hl
  have h3:=gR g.code
  have h4:g.ball=0∨g.ball=1∨g.ball=2∨g.ball=3:=by omega
  unfold inS AY at hin
  unfold AJ AS
  rcases h4 with e|e|e|e<;>simp[e] at hin⊢
  ·have:=h2.1 (h1.1 hin);omega
  ·have:=h2.2.1 (h1.2.1 hin);omega
  ·have:=h2.2.2.1 (h1.2.2.1 hin);omega
  ·have:=h2.2.2.2 (h1.2.2.2 hin);omega
 rcases hk with rfl|rfl
 ·simp only[Bv,show¬(2:Int)=1 by omega,if_false,if_true] at hn
  subst hn
  unfold Ch at hb h0 hp⊢
  by_cases hf:Ck l=true
  ·rw[if_pos hf] at h0;exact absurd h0.1 (by simp[AW])
  ·rw[if_neg hf] at hb h0 hp⊢
   have hd:=ns hl hg hpt ht (l:=l) l.length
   generalize Cw g l l.length=s at hb h0 hp hd⊢
   have key:(Hg g s).ball=g.ball→AJ (Hg g s) (Hg g s).ball=AJ g (Hg g s).ball→Bp s g.ball=AJ g g.ball:=by
    intro e1 e2
    rw[e1] at e2
    rw[←e2]
    obtain⟨-,f2,f3,f4,f5,-⟩:=dr (g:=g) (s:=s)
    unfold Bp AJ
    rw[f2,f3,f4,f5]
   have hd2:=hd.2 (key hb hp)
   clear hd key hp
   unfold Hg at h0⊢
   split at h0
   ·exact absurd h0.1 (by simp)
   ·rename_i h1
    rw[if_neg h1]
    split at h0
    ·exact absurd h0.1 (by simp[AW])
    ·rename_i h2
     rw[if_neg h2]
     split at h0
     ·rename_i h3
      rw[if_pos h3];exact hd2
     ·rename_i h3
      rw[if_neg h3]
      split at h0
      ·exact absurd h0.1 (by simp[AW])
      ·rename_i h4
       rw[if_neg h4];exact hd2
 ·simp only[Bv,show¬(3:Int)=1 by omega,show¬(3:Int)=2 by omega,if_false,if_true] at hn
  subst hn
  exact absurd h0.1 (by simp[AW])
theorem nk {n:Gm}{t0 t1 t2 t3:Bool}(hl:AR n=true)(h2:tk2 n.d0 n.d1 n.d2 n.d3 n.n0 n.n1 n.n2 n.n3 t0 t1 t2 t3):
  (n.phase=2→(0≤n.taken∧n.taken≤3)∧AY n.taken t0 t1 t2 t3=false∧tk1 n (t0||decide (n.taken=0)) (t1||decide (n.taken=1)) (t2||decide (n.taken=2)) (t3||decide (n.taken=3)))∧tk1 n t0 t1 t2 t3:=by
 unfold tk2 at h2
 constructor
 ·intro hp
  have ht:Ag n=true:=by unfold Ag;simp[hp]
  have h:=dx hl ht
  have hr:=(Bs hl).2.2.2.1 hp
  simp only[Ct,Bool.and_eq_true,Bool.or_eq_true,hp,decide_true,true_and,Bool.not_true,Bool.false_eq_true,false_and,or_false] at h
  have hi:=h.2.1.1
  have hd:=h.2.2
  clear h
  refine⟨hr,?_,?_⟩
  ·unfold inS AY at hi
   unfold Dk AY at hd
   have h4:n.taken=0∨n.taken=1∨n.taken=2∨n.taken=3:=by omega
   unfold AY
   rcases h4 with e|e|e|e<;>simp[e] at hi hd⊢ <;>grind
  ·unfold tk1
   simp only[Bool.or_eq_true,decide_eq_true_eq,hp,true_and]
   grind
 ·unfold tk1;grind
end Go.Eng
end
