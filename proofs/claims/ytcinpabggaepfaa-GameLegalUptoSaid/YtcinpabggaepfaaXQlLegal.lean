/-
  A part of the proof: plain laws.
-/
import Derived.Test.YtcinpabggaepfaaE3
set_option linter.unusedVariables false
set_option linter.unusedSimpArgs false
noncomputable section
namespace Go.Eng
set_option maxHeartbeats 1000000
theorem qN {g:Gm}(h:AR g=true)(hp:g.phase=4):(g.p0=13∧g.p2=13∧g.winner=0)∨(g.p1=13∧g.p3=13∧g.winner=1):=by
 simp only[AR,DR,C5,Cz,Bool.and_eq_true,Bool.or_eq_true,Bool.not_eq_true',decide_eq_true_eq,Bool.and_eq_false_iff,decide_eq_false_iff_not] at h
 grind
end Go.Eng
end
noncomputable section
namespace Go.Eng
def mj (c h0 h1:Int):Bool:=decide (0≤c)&&decide (c≤3)&&DD c h0 h1
def mf (c h0 h1:Int):Gm:=if mj c h0 h1=true then ⟨c,0,0,-1,-1,0,0,0,0,false,false,false,false,false,false,false,false,h0,h1,false,false,false,0,0,-1,-1⟩ else Jm
def mm (c h0 h1:Int):Int:=if¬(0≤c∧c≤3) then 3 else if mj c h0 h1=true then 0 else 2
def evS (g:Gm)(x:Int):List (List U):=if inS g (x % 4)=true∧¬(x / 4 % 4=0∧x % 4=g.ball) then [[.int (1+x / 4 % 4),.int (x % 4)]] else []
def ml (g:Gm)(out:List (List U)):List (List U)→List (List U)
 |[]=>out
 |r::t=>if 24≤out.length then out else if 250≤(r.getD 0 default).toI then out++[[.int 5,.int 0]] else ml g (out++evS g (r.getD 0 default).toI) t
def nU (g:Gm)(l:List (List U)):List (List U):=ml g [] l
theorem ol {g:Gm}{out l:List (List U)}{i:Nat}(h:l.length≤i):ml g out (l.drop i)=out:=by
 rw[List.drop_eq_nil_of_le h];rfl
theorem oP {g:Gm}{out l:List (List U)}(h:24≤out.length):ml g out l=out:=by
 cases l with
 |nil=>rfl
 |cons r t=>unfold ml;exact if_pos h
theorem oo {g:Gm}{out l:List (List U)}{i:Nat}(h:i < l.length)(h2:¬24≤out.length)(h3:250≤At l i 0):ml g out (l.drop i)=out++[[.int 5,.int 0]]:=by
 rw[T5 h];unfold ml;rw[if_neg h2];exact if_pos h3
theorem pB {g:Gm}{out l:List (List U)}{i:Nat}(h:i < l.length)(h2:¬24≤out.length)(h3:¬250≤At l i 0):ml g out (l.drop i)=ml g (out++evS g (At l i 0)) (l.drop (i+1)):=by
 rw[T5 h]
 show (if 24≤out.length then out else if 250≤At l i 0 then _ else _)=_
 rw[if_neg h2,if_neg h3];rfl
def o6 (g:Gm)(r:List U):Prop:=1≤(r.getD 0 default).toI∧(r.getD 0 default).toI≤4∧inS g (r.getD 1 default).toI=true∧¬((r.getD 0 default).toI=1∧(r.getD 1 default).toI=g.ball)
theorem pe {g:Gm}{x:Int}:∀r∈evS g x,o6 g r:=by
 intro r h
 unfold evS at h
 split at h
 ·rename_i h1
  obtain rfl:=List.mem_singleton.1 h
  refine⟨?_,?_,h1.1,?_⟩
  ·show 1≤1+x / 4 % 4;omega
  ·show 1+x / 4 % 4≤4;omega
  ·intro h2
   apply h1.2
   have h3:1+x / 4 % 4=1:=h2.1
   exact⟨by omega,h2.2⟩
 ·cases h
theorem oe {g:Gm}{x:Int}:(evS g x).length≤1:=by unfold evS;split<;>simp
theorem oE {g:Gm}{out t:List (List U)}(ho:∀r∈out,o6 g r){j:Nat}(hj:j < out.length)(n i:Int):Kw g n i (At (out++t) j 0) (At (out++t) j 1):=by
 have e:(out++t).getD j []=out[j]:=by
  rw[List.getD_eq_getElem?_getD,List.getElem?_append_left hj,List.getElem?_eq_getElem hj];rfl
 have h:=ho _ (List.getElem_mem hj)
 unfold Kw At
 rw[e]
 obtain⟨a,b,c,d⟩:=h
 exact⟨a,by omega,fun h=>by omega,fun _=>⟨c,d⟩⟩
theorem pG {g:Gm}:∀(l out:List (List U)),(∀r∈out,o6 g r)→out.length≤24→BX g (ml g out l)=true∧(ml g out l).length≤24:=by
 have base:∀out:List (List U),(∀r∈out,o6 g r)→BX g out=true:=fun out h=>HU.2 fun j hj=>by
  have:=oE (t:=[]) h (j:=j) (by omega) out.length j
  rwa [List.append_nil] at this
 intro l
 induction l with
 |nil=>exact fun out h hl=>⟨base out h,hl⟩
 |cons r t ih=>
  intro out h hl
  unfold ml
  split
  ·exact⟨base out h,hl⟩
  ·rename_i h2
   split
   ·constructor
    ·refine HU.2 fun j hj=>?_
     have hlen:(out++[[U.int 5,U.int 0]]).length=out.length+1:=by simp
     rw[hlen] at hj⊢
     by_cases hj2:j < out.length
     ·exact oE h hj2 _ _
     ·obtain rfl:j=out.length:=by omega
      have e:(out++[[U.int 5,U.int 0]]).getD out.length []=[U.int 5,U.int 0]:=by
       rw[List.getD_eq_getElem?_getD,List.getElem?_append_right (Nat.le_refl _),Nat.sub_self];rfl
      unfold Kw At
      rw[e]
      exact⟨by decide,by decide,fun _=>by omega,fun h=>absurd rfl h⟩
    ·simp;omega
   ·refine ih _ (fun r hr=>?_) ?_
    ·rcases List.mem_append.1 hr with hr|hr
     ·exact h r hr
     ·exact pe r hr
    ·have:=oe (g:=g) (x:=(r.getD 0 default).toI)
     rw[List.length_append];omega
theorem nj {g:Gm}{l:List (List U)}:BX g (nU g l)=true∧(nU g l).length≤24:=pG l [] (fun r h=>by cases h) (by decide)
theorem pW {P:List U→Prop}{g:Gm}(h:∀k b f,P (mvU k b f)):∀u∈C2 g,P u:=by
 have hc:∀b,∀u∈Co g b,P u:=by
  intro b u hu
  unfold Co at hu
  split at hu
  ·split at hu
   ·rcases List.mem_cons.1 hu with rfl|hu
    ·exact h _ _ _
    ·obtain rfl:=List.mem_singleton.1 hu;exact h _ _ _
   ·obtain rfl:=List.mem_singleton.1 hu;exact h _ _ _
  ·cases hu
 have h1:∀u∈Ij g,P u:=by
  intro u hu;unfold Ij at hu
  split at hu
  ·obtain rfl:=List.mem_singleton.1 hu;exact h _ _ _
  ·cases hu
 have h2:∀u∈C1 g,P u:=by
  intro u hu;unfold C1 at hu
  split at hu
  ·obtain rfl:=List.mem_singleton.1 hu;exact h _ _ _
  ·cases hu
 have h3:∀u∈C0 g,P u:=by
  intro u hu;unfold C0 at hu
  split at hu
  ·obtain rfl:=List.mem_singleton.1 hu;exact h _ _ _
  ·cases hu
 intro u hu
 unfold C2 at hu
 split at hu
 ·rcases List.mem_cons.1 hu with rfl|hu
  ·exact h _ _ _
  ·obtain rfl:=List.mem_singleton.1 hu;exact h _ _ _
 ·split at hu
  ·cases hu
  ·rcases List.mem_append.1 hu with hu|hu
   ·rcases List.mem_append.1 hu with hu|hu
    ·rcases List.mem_append.1 hu with hu|hu
     ·rcases List.mem_append.1 hu with hu|hu
      ·exact hc _ _ hu
      ·exact hc _ _ hu
     ·exact h1 _ hu
    ·exact h2 _ hu
   ·exact h3 _ hu
theorem nd (g:Gm)(j:Nat):EF (C2 g) j 3=[]:=by
 by_cases h:j < (C2 g).length
 ·exact pW (P:=fun u=>(u.getD 3 default).toL=[]) (fun _ _ _=>rfl) _ (ii h)
 ·unfold EF
  have e:(C2 g).getD j []=[]:=by rw[List.getD_eq_getElem?_getD,List.getElem?_eq_none (by omega)];rfl
  rw[e];rfl
theorem ow (g:Gm):BX g []=true:=rfl
theorem rH {g:Gm}{k b:Int}{f:Bool}(h:AR g=true):B9 g k b f []=if C3 g k b f=true then 0 else 10:=by
 unfold B9
 rw[if_neg (by rw[h];decide)]
 cases ha:C3 g k b f with
 |false=>rw[if_pos rfl];rfl
 |true=>rw[if_neg (by decide),if_neg (by decide),if_neg (by rw[ow];simp)];rfl
theorem oJ {g:Gm}{j:Nat}(h:j < (C2 g).length):C3 g (At (C2 g) j 0) (At (C2 g) j 1) (C8 (C2 g) j 2)=true:=
 UA.2 ⟨j,h,rfl,rfl,rfl⟩
theorem np {g:Gm}{j:Nat}{l:List (List U)}(hl:AR g=true)(h:j < (C2 g).length)(h2:At (C2 g) j 0=2→l.length≤24∧BX g l=true)(h3:¬At (C2 g) j 0=2→l=[]):
  B9 g (At (C2 g) j 0) (At (C2 g) j 1) (C8 (C2 g) j 2) l=0:=by
 have hL:l.length≤24∧BX g l=true∧(¬At (C2 g) j 0=2→l.length=0):=by
  by_cases hk:At (C2 g) j 0=2
  ·exact⟨(h2 hk).1,(h2 hk).2,fun h=>absurd hk h⟩
  ·have:=h3 hk;subst this;exact⟨by decide,ow g,fun _=>rfl⟩
 unfold B9
 rw[if_neg (by rw[hl];decide),if_neg (by rw[oJ h];decide),if_neg (by omega),if_neg (by rintro (h|h);exact absurd (hL.2.2 h.1) (by omega);rw[hL.2.1] at h;cases h)]
theorem qO {g:Gm}(h:AR g=true):(C2 g).length=0↔g.phase=4:=by
 cases ht:Ag g with
 |true=>
  unfold C2
  rw[if_pos ht]
  simp only[Ag,Bool.or_eq_true,decide_eq_true_eq] at ht
  simp only[List.length_cons,List.length_nil]
  omega
 |false=>
  unfold C2
  rw[if_neg (by rw[ht];decide)]
  by_cases hp:g.phase=4
  ·rw[if_pos hp];exact⟨fun _=>hp,fun _=>rfl⟩
  ·rw[if_neg hp]
   refine⟨fun hz=>?_,fun h=>absurd h hp⟩
   exfalso
   have h0:=dY h ht hp
   have hs:=MO h
   have hb:=CS h
   have hside:=hb.side
   have htn:=hb.turns
   simp only[List.length_append] at hz
   by_cases h4:4≤g.turns
   ·have:(Ij g).length=1:=by unfold Ij;rw[if_pos h4];rfl
    omega
   ·have hc:∀b,MK g b=true→0 < (Co g b).length:=by
     intro b hm;unfold Co;rw[if_pos hm];split<;>simp
    have hca:=hb.ca
    have hcb:=hb.cb
    have n0:MK g g.side=false:=by
     cases hm:MK g g.side with
     |false=>rfl
     |true=>have:=hc _ hm;omega
    have n1:MK g (g.side+2)=false:=by
     cases hm:MK g (g.side+2) with
     |false=>rfl
     |true=>have:=hc _ hm;omega
    have hc2:g.side=0∨g.side=1:=by omega
    simp only[CI,ht,h0,Bool.or_eq_true,Bool.and_eq_true,decide_eq_true_eq,h4,and_false,false_or,Bool.not_false,true_or,true_and,decide_true,Bool.not_true,Bool.false_eq_true] at hs
    simp only[MK,inS,AJ,AY,AS,Bool.or_eq_false_iff,Bool.and_eq_false_iff,decide_eq_false_iff_not,Bool.not_eq_false',decide_eq_true_eq] at n0 n1
    have hf:CQ g.turns=g.turns:=by unfold CQ;rw[if_pos (by omega)]
    rw[hf] at hca hcb
    unfold Cj bit at hca hcb
    rcases hc2 with e|e<;>simp only[e] at n0 n1 hs<;>clear hc hz hb h ht hp<;>grind (splits:=60)
theorem od {l:List (List U)}{es:List Kd}{m j c:Nat}{k:IntKind}{lo hi:Int}(he:∀(i:Nat) (us:List U),l[i]? =some us→DC m es us)(hj:j < l.length)(hk:es[c]? =some (.int k lo hi)):lo≤At l j c∧At l j c≤hi:=by
 have h1:=he j l[j] (List.getElem?_eq_getElem hj)
 have e:l.getD j []=l[j]:=by rw[List.getD_eq_getElem?_getD,List.getElem?_eq_getElem hj];rfl
 unfold At
 rw[e]
 generalize l[j]=us at h1
 clear he hj e
 induction es generalizing us c with
 |nil=>simp at hk
 |cons e es ih=>
  obtain⟨u,us',rfl,h2,h3⟩:=h1
  cases c with
  |zero=>
   have e0:e= .int k lo hi:=by simpa using hk
   subst e0
   obtain⟨n,rfl,h4,h5⟩:=h2
   exact⟨h4,h5⟩
  |succ c=>exact ih (c:=c) (by simpa using hk) us' h3
theorem pd {a b c:Int}:mj (a % 4) (if a % 4=1∨a % 4=3 then 0 else b % 41) (if a % 4=1∨a % 4=3 then 0 else c % 41)=true:=by
 unfold mj DD Ao
 simp only[Bool.and_eq_true,Bool.or_eq_true,Bool.not_eq_true',decide_eq_true_eq,decide_eq_false_iff_not]
 split<;>omega
theorem pE {c a b:Int}(h:mj c a b=true):AR (mf c a b)=true:=by
 unfold mf
 rw[if_pos h]
 unfold mj at h
 simp only[Bool.and_eq_true,decide_eq_true_eq] at h
 have hh:=gR c
 have h6:(0:Int)≤AX c:=by omega
 simp[AR,BU,DR,CI,Cm,Ag,C5,Cz,Cj,CQ,bit,CE,h,h6]
theorem pP {c a b:Int}(h:mj c a b=true):mm c a b=0:=by
 have h2:=h
 unfold mj at h2
 simp only[Bool.and_eq_true,decide_eq_true_eq] at h2
 unfold mm
 rw[if_neg (by omega),if_pos h]
end Go.Eng
end
