/-
  A part of the proof: plain laws.
-/
import Derived.Test.YtmlmcidljiibaaaE3
import Derived.Test.YtmlmcidljiibaaaE4
set_option linter.unusedVariables false
set_option linter.unusedSimpArgs false
noncomputable section
namespace Go.Eng
theorem iy {l:Ln}{ax ay bx by_ r:Int}{others:List (List U)}(h:Cf l ax ay bx by_ r others=0):
  AO l=0∧AF ax ay=true∧AF bx by_=true∧Bn r=true∧others.length≤12∧others.all Aq=true:=by
 unfold Cf A7 AT at h
 grind
end Go.Eng
end
noncomputable section
namespace Go.Eng
def EJ (l:List (List U))(n:Int):Bool:=l.any fun u=>decide (uI u 0=n)
def Jp (a b:List (List U)):Bool:=decide (a.length=b.length)&&(List.range a.length).all fun i=>decide (AA a i 0=AA b i 0)
theorem Rc (a:List (List U)):Jp a a=true:=by
 unfold Jp
 simp
theorem ct {a b:List (List U)}:Jp a b=true↔(a.length=b.length∧∀i:Nat,i < a.length→AA a i 0=AA b i 0):=by
 unfold Jp
 rw[Bool.and_eq_true,decide_eq_true_eq,List.all_eq_true]
 constructor
 ·rintro⟨h1,h2⟩
  exact⟨h1,fun i hi=>by simpa using h2 i (List.mem_range.2 hi)⟩
 ·rintro⟨h1,h2⟩
  exact⟨h1,fun i hi=>by simpa using h2 i (List.mem_range.1 hi)⟩
theorem Qv {l:List (List U)}{j:Nat}(hj:j < l.length):l.getD j []=l[j]:=by
 rw[List.getD_eq_getElem?_getD,List.getElem?_eq_getElem hj]
 rfl
theorem gN {l:List (List U)}{n:Int}:EJ l n=true↔∃i:Nat,i < l.length∧AA l i 0=n:=by
 unfold EJ
 rw[List.any_eq_true]
 constructor
 ·rintro⟨u,hu,h⟩
  obtain⟨j,hj,rfl⟩:=List.getElem_of_mem hu
  refine⟨j,hj,?_⟩
  show uI (l.getD j []) 0=n
  rw[Qv hj]
  exact of_decide_eq_true h
 ·rintro⟨j,hj,h⟩
  refine⟨l[j],List.getElem_mem hj,?_⟩
  have h:uI (l.getD j []) 0=n:=h
  rw[Qv hj] at h
  exact decide_eq_true h
def M8 (l:Ln):List (List U):=if AO l=0 then AN l else []
open Go
theorem wdiv {a b:Int}(h0:0≤a)(h1:a≤4611686018427387904)(hb:1≤b):IntKind.i64.wrap (Op2.tdiv.f a b)=a / b:=by
 have e:Op2.tdiv.f a b=a / b:=(tdiv_eq_if a b).trans (if_pos h0)
 have h2:0≤a / b:=Int.ediv_nonneg h0 (by omega)
 have h3:a / b≤a:=Int.ediv_le_self b h0
 rw[e,EU .i64 _ (by simp[IntKind.min,IntKind.signed,IntKind.bits];omega) (by simp[IntKind.max,IntKind.signed,IntKind.bits];omega)]
end Go.Eng
end
noncomputable section
namespace Go.Eng
end Go.Eng
end
noncomputable section
namespace Go.Eng
def freeL (l:Ln)(r:Int)(others:List (List U))(n:Int):Bool:=Aw l.yard (l.wide - 2*l.yard) (l.long - 2*l.yard) r others n
section
variable {l:Ln}{x y r:Int}{others:List (List U)}(h:C8 l x y r others=0)
include h
end
end Go.Eng
end
noncomputable section
namespace Go.Eng
theorem On {ax ay bx by_ r:Int}{d:List (List U)}{n k:Nat}(hk:k < n):EJ (Av ax ay bx by_ r d n) k=CR ax ay bx by_ (AA d k 0) (AA d k 1) (r+AA d k 2):=by
 refine Bool.eq_iff_iff.2 ?_
 unfold EJ Av
 rw[List.any_eq_true]
 constructor
 ·rintro⟨u,hu,h⟩
  obtain⟨i,hi,e⟩:=List.mem_filterMap.1 hu
  split at e
  ·rename_i hn
   cases e
   have:i=k:=by
    have h2:(i:Int)=k:=of_decide_eq_true h
    omega
   subst this
   exact hn
  ·cases e
 ·intro h
  refine⟨[.int k],List.mem_filterMap.2 ⟨k,List.mem_range.2 hk,if_pos h⟩,?_⟩
  exact decide_eq_true rfl
theorem bC {ax ay cx cy s:Int}:CR ax ay ax ay cx cy s=decide (sq ax ay cx cy < s*s):=by
 unfold CR
 simp
def Iy (a b:List (List U)):Bool:=a.all fun u=>EJ b (uI u 0)
theorem Py {a b:List (List U)}:Iy a b=true↔∀i:Nat,i < a.length→EJ b (AA a i 0)=true:=CX
def GB (ax ay bx by_ cx cy cr r:Int):Bool:=
 let x:=bx - ax
 let y:=by_ - ay
 let dot:=x*(cx - ax)+y*(cy - ay)
 let long:=x*x+y*y
 let k:=dot / (long / 32768+1)
 let div:=fun z:Int=>if 0≤z then z / 32768 else -(-z / 32768)
 let px:=if long≤dot then bx else if 0 < dot then ax+div (x*k) else ax
 let py:=if long≤dot then by_ else if 0 < dot then ay+div (y*k) else ay
 let s:=r+cr+2
 let s:=if 0 < dot∧dot < long then s+(1024+((if x≤ -x then -x else x)+(if y≤ -y then -y else y)) / 16384) else s
 decide ((px - cx)*(px - cx)+(py - cy)*(py - cy) < s*s)
theorem sqn (z:Int):0≤z*z:=by
 rcases Int.le_total 0 z with h|h
 ·exact Int.mul_nonneg h h
 ·have:=Int.mul_nonneg (a:= -z) (b:= -z) (by omega) (by omega)
  rwa [Int.neg_mul_neg] at this
theorem eW (ax ay bx by_ cx cy s:Int):CR bx by_ ax ay cx cy s=CR ax ay bx by_ cx cy s:=by
 rw[I4 rfl rfl rfl rfl rfl rfl,I4 rfl rfl rfl rfl rfl rfl]
 have e1:(ax - bx)*(cx - bx)+(ay - by_)*(cy - by_)=((bx - ax)*(bx - ax)+(by_ - ay)*(by_ - ay)) - ((bx - ax)*(cx - ax)+(by_ - ay)*(cy - ay)):=by grind
 have e2:(ax - bx)*(ax - bx)+(ay - by_)*(ay - by_)=(bx - ax)*(bx - ax)+(by_ - ay)*(by_ - ay):=by grind
 have e3:((ax - bx)*(cy - by_) - (ay - by_)*(cx - bx))*((ax - bx)*(cy - by_) - (ay - by_)*(cx - bx))=((bx - ax)*(cy - ay) - (by_ - ay)*(cx - ax))*((bx - ax)*(cy - ay) - (by_ - ay)*(cx - ax)):=by grind
 have hq:(bx - cx)*(bx - cx)+(by_ - cy)*(by_ - cy)=((ax - cx)*(ax - cx)+(ay - cy)*(ay - cy)) - 2*((bx - ax)*(cx - ax)+(by_ - ay)*(cy - ay))+((bx - ax)*(bx - ax)+(by_ - ay)*(by_ - ay)):=by grind
 have hl:0≤(bx - ax)*(bx - ax)+(by_ - ay)*(by_ - ay):=by
  have:=sqn (bx - ax)
  have:=sqn (by_ - ay)
  omega
 rw[e1,e2,e3,hq]
 generalize (bx - ax)*(cx - ax)+(by_ - ay)*(cy - ay)=dot at*
 generalize (bx - ax)*(bx - ax)+(by_ - ay)*(by_ - ay)=long at*
 generalize (ax - cx)*(ax - cx)+(ay - cy)*(ay - cy)=qa at*
 generalize (bx - ax)*(cy - ay) - (by_ - ay)*(cx - ax)=cr at*
 repeat' split
 all_goals first|rfl|(congr 1;apply propext;omega)|(exfalso;omega)
theorem aM {ax ay bx by_ cx cy s t:Int}(h0:0≤s)(h1:s≤t)(h:CR ax ay bx by_ cx cy s=true):CR ax ay bx by_ cx cy t=true:=by
 rw[I4 rfl rfl rfl rfl rfl rfl] at h⊢
 have hs:s*s≤t*t:=Int.mul_le_mul h1 h1 h0 (by omega)
 have hl:0≤(bx - ax)*(bx - ax)+(by_ - ay)*(by_ - ay):=by
  have:=sqn (bx - ax)
  have:=sqn (by_ - ay)
  omega
 have hm:=Int.mul_le_mul_of_nonneg_left hs hl
 generalize (bx - ax)*(cx - ax)+(by_ - ay)*(cy - ay)=dot at*
 split at h
 ·rename_i k;rw[if_pos k];exact decide_eq_true (by have:=of_decide_eq_true h;omega)
 ·rename_i k
  rw[if_neg k]
  split at h
  ·rename_i k2;rw[if_pos k2];exact decide_eq_true (by have:=of_decide_eq_true h;omega)
  ·rename_i k2;rw[if_neg k2];exact decide_eq_true (by have:=of_decide_eq_true h;omega)
theorem NC {ax ay bx by_ cx cy s k:Int}(hk:0≤k∧k≤64)
  (h:(ax*(64 - k)+bx*k - 64*cx)*(ax*(64 - k)+bx*k - 64*cx)+(ay*(64 - k)+by_*k - 64*cy)*(ay*(64 - k)+by_*k - 64*cy) < (64*s)*(64*s)):CR ax ay bx by_ cx cy s=true:=by
 rw[I4 rfl rfl rfl rfl rfl rfl]
 have hf:(ax*(64 - k)+bx*k - 64*cx)*(ax*(64 - k)+bx*k - 64*cx)+(ay*(64 - k)+by_*k - 64*cy)*(ay*(64 - k)+by_*k - 64*cy)=4096*((ax - cx)*(ax - cx)+(ay - cy)*(ay - cy)) - 128*(k*((bx - ax)*(cx - ax)+(by_ - ay)*(cy - ay)))+k*k*((bx - ax)*(bx - ax)+(by_ - ay)*(by_ - ay)):=by grind
 have hq:(bx - cx)*(bx - cx)+(by_ - cy)*(by_ - cy)=((ax - cx)*(ax - cx)+(ay - cy)*(ay - cy)) - 2*((bx - ax)*(cx - ax)+(by_ - ay)*(cy - ay))+((bx - ax)*(bx - ax)+(by_ - ay)*(by_ - ay)):=by grind
 have hc:((bx - ax)*(cy - ay) - (by_ - ay)*(cx - ax))*((bx - ax)*(cy - ay) - (by_ - ay)*(cx - ax))=((bx - ax)*(bx - ax)+(by_ - ay)*(by_ - ay))*((ax - cx)*(ax - cx)+(ay - cy)*(ay - cy)) - ((bx - ax)*(cx - ax)+(by_ - ay)*(cy - ay))*((bx - ax)*(cx - ax)+(by_ - ay)*(cy - ay)):=by grind
 have hl:0≤(bx - ax)*(bx - ax)+(by_ - ay)*(by_ - ay):=by
  have:=sqn (bx - ax)
  have:=sqn (by_ - ay)
  omega
 rw[hf] at h
 rw[hc,hq]
 have hS:(64*s)*(64*s)=4096*(s*s):=by grind
 rw[hS] at h
 generalize (bx - ax)*(cx - ax)+(by_ - ay)*(cy - ay)=dot at*
 generalize (bx - ax)*(bx - ax)+(by_ - ay)*(by_ - ay)=long at*
 generalize (ax - cx)*(ax - cx)+(ay - cy)*(ay - cy)=A at*
 generalize s*s=S at*
 clear hf hq hc hS
 have hkk:=Int.mul_nonneg (sqn k) hl
 by_cases k1:dot≤0
 ·rw[if_pos k1]
  have:=Int.mul_nonneg hk.1 (show 0≤ -dot by omega)
  rw[Int.mul_neg] at this
  exact decide_eq_true (by omega)
 ·rw[if_neg k1]
  by_cases k2:long≤dot
  ·rw[if_pos k2]
   have e1:=Int.mul_nonneg (show 0≤64 - k by omega) (show 0≤dot - long by omega)
   have e2:=Int.mul_nonneg (Int.mul_nonneg (show 0≤64 - k by omega) (show 0≤64 - k by omega)) hl
   have e3:4096*A - 128*(k*dot)+k*k*long=4096*(A - 2*dot+long)+128*((64 - k)*(dot - long))+(64 - k)*(64 - k)*long:=by grind
   exact decide_eq_true (by omega)
  ·rw[if_neg k2]
   have hp:0 < long:=by omega
   have e1:=Int.mul_lt_mul_of_pos_left h hp
   have e2:=sqn (64*dot - k*long)
   have e3:long*(4096*A - 128*(k*dot)+k*k*long)=4096*(long*A - dot*dot)+(64*dot - k*long)*(64*dot - k*long):=by grind
   rw[e3] at e1
   have e4:long*(4096*S)=4096*(long*S):=by grind
   rw[e4] at e1
   exact decide_eq_true (by omega)
theorem YK {ax ay bx by_ cx cy s:Int}(h:CR ax ay ax ay cx cy s=true):CR ax ay bx by_ cx cy s=true:=by
 rw[bC] at h
 have h:=of_decide_eq_true h
 refine NC (k:=0) (by omega) ?_
 unfold sq at h
 have e:(ax*(64 - 0)+bx*0 - 64*cx)*(ax*(64 - 0)+bx*0 - 64*cx)+(ay*(64 - 0)+by_*0 - 64*cy)*(ay*(64 - 0)+by_*0 - 64*cy)=4096*((ax - cx)*(ax - cx)+(ay - cy)*(ay - cy)):=by grind
 have e2:(64*s)*(64*s)=4096*(s*s):=by grind
 rw[e,e2]
 omega
theorem U1 {a b:Int}(hb:0≤b)(h:a*a < b*b): -b≤a∧a≤b:=by
 constructor
 ·apply Classical.byContradiction
  intro hn
  have:=Int.mul_le_mul (show b≤ -a by omega) (show b≤ -a by omega) hb (by omega)
  rw[Int.neg_mul_neg] at this
  omega
 ·apply Classical.byContradiction
  intro hn
  have:=Int.mul_le_mul (show b≤a by omega) (show b≤a by omega) hb (by omega)
  omega
theorem Y7 {x y u v s M k dx dy long dot cr:Int}(el:long=x*x+y*y)(ed:dot=x*u+y*v)(ec:cr=x*v - y*u)(h1:0 < dot)(h2:dot < long)(hc:cr*cr < long*(s*s))(hs:0≤s)
  (hk:k=dot / (long / 32768+1)) (hdx:32768*dx≤x*k+32767∧x*k - 32767≤32768*dx) (hdy:32768*dy≤y*k+32767∧y*k - 32767≤32768*dy)
  (hM:0≤M) (hx: -x≤0→x+(if 0≤y then y else -y) < 16384*(M+1)) (hx':x≤0→ -x+(if 0≤y then y else -y) < 16384*(M+1)):
  (dx - u)*(dx - u)+(dy - v)*(dy - v) < (s+2+(1024+M))*(s+2+(1024+M)):=by
 have hp:0 < long:=by omega
 generalize hL:long / 32768+1=L at*
 have l1:long < 32768*L:=by omega
 have l2:32768*L≤long+32768:=by omega
 have l3:1≤L:=by omega
 have k0:0≤k:=by rw[hk];exact Int.ediv_nonneg (by omega) (by omega)
 have k1:k*L≤dot:=by rw[hk];exact Int.ediv_mul_le dot (by omega)
 have k2:dot < (k+1)*L:=by
  rw[hk]
  have:=Int.lt_ediv_add_one_mul_self dot (show 0 < L by omega)
  exact this
 have k3:k < 32768:=by
  apply Classical.byContradiction
  intro hn
  have:=Int.mul_le_mul_of_nonneg_right (show 32768≤k by omega) (show 0≤L by omega)
  omega
 have k4:k+1≤long:=by
  have:=Int.mul_le_mul_of_nonneg_left l3 k0
  omega
 obtain⟨D,hD⟩:∃D,D=32768*dot - k*long:=⟨_,rfl⟩
 have d0:0≤D:=by
  have:=Int.mul_le_mul_of_nonneg_left (show long≤32768*L by omega) k0
  have e:k*(32768*L)=32768*(k*L):=by grind
  omega
 have d1:D≤long+32768*(k+1):=by
  have:=Int.mul_le_mul_of_nonneg_left l2 (show 0≤k+1 by omega)
  have e:(k+1)*(32768*L)=32768*((k+1)*L):=by grind
  have e2:(k+1)*(long+32768)=k*long+long+32768*(k+1):=by grind
  omega
 have m1:(k+1)*(k+1)≤32768*long:=Int.mul_le_mul (by omega) k4 (by omega) (by omega)
 have d2:D*D≤long*(2*long+70368744177664):=by
  have a:=Int.mul_le_mul d1 d1 d0 (by omega)
  have b:=sqn (long - 32768*(k+1))
  have e:(long+32768*(k+1))*(long+32768*(k+1))=2*(long*long)+2147483648*((k+1)*(k+1)) - (long - 32768*(k+1))*(long - 32768*(k+1)):=by grind
  have e2:long*(2*long+70368744177664)=2*(long*long)+70368744177664*long:=by grind
  omega
 have x1:long≤268435456*((M+1)*(M+1)):=by
  have hxy:∃p q:Int,0≤p∧0≤q∧p+q≤16384*(M+1)∧long=p*p+q*q:=by
   rcases Int.le_total 0 x with a|a<;>rcases Int.le_total 0 y with b|b
   ·have:=hx (by omega);rw[if_pos b] at this;exact⟨x,y,a,b,by omega,el⟩
   ·refine⟨x,-y,a,by omega,?_,by rw[Int.neg_mul_neg];exact el⟩
    have:=hx (by omega)
    split at this<;>omega
   ·have:=hx' a;rw[if_pos b] at this;exact⟨-x,y,by omega,b,by omega,by rw[Int.neg_mul_neg];exact el⟩
   ·refine⟨-x,-y,by omega,by omega,?_,by rw[Int.neg_mul_neg,Int.neg_mul_neg];exact el⟩
    have:=hx' a
    split at this<;>omega
  obtain⟨p,q,hp0,hq0,hpq,e⟩:=hxy
  have a:=Int.mul_le_mul hpq hpq (by omega) (by omega)
  have b:=Int.mul_nonneg hp0 hq0
  have e1:(p+q)*(p+q)=p*p+q*q+2*(p*q):=by grind
  have e2:(16384*(M+1))*(16384*(M+1))=268435456*((M+1)*(M+1)):=by grind
  omega
 obtain⟨F,hF⟩:∃F,F=32768*(1024+M):=⟨_,rfl⟩
 have f0:0≤F:=by omega
 have f1:2*long+70368744177664≤F*F:=by
  have e:F*F=1073741824*(M*M)+2199023255552*M+1125899906842624:=by rw[hF];grind
  have e2:(M+1)*(M+1)=M*M+2*M+1:=by grind
  have:=sqn M
  omega
 have d3:D*D≤long*(F*F):=Int.le_trans d2 (Int.mul_le_mul_of_nonneg_left f1 (by omega))
 obtain⟨ex,hex⟩:∃e,e=x*k - 32768*u:=⟨_,rfl⟩
 obtain⟨ey,hey⟩:∃e,e=y*k - 32768*v:=⟨_,rfl⟩
 have n1:long*(ex*ex+ey*ey)=D*D+1073741824*(cr*cr):=by
  rw[hex,hey,hD,ec,ed,el];grind
 obtain⟨G,hG⟩:∃G,G=F+32768*s:=⟨_,rfl⟩
 have n2:ex*ex+ey*ey < G*G:=by
  have a:long*(ex*ex+ey*ey) < long*(F*F+1073741824*(s*s)):=by
   rw[n1]
   have e:long*(F*F+1073741824*(s*s))=long*(F*F)+1073741824*(long*(s*s)):=by grind
   omega
  have b:=Int.lt_of_mul_lt_mul_left a (by omega)
  have c:=Int.mul_nonneg f0 hs
  have e:G*G=F*F+65536*(F*s)+1073741824*(s*s):=by rw[hG];grind
  omega
 have g0:0≤G:=by omega
 have sx:=sqn ex
 have sy:=sqn ey
 have bx:=U1 g0 (show ex*ex < G*G by omega)
 have by_:=U1 g0 (show ey*ey < G*G by omega)
 obtain⟨p,hp'⟩:∃p,p=32768*(dx - u) - ex:=⟨_,rfl⟩
 obtain⟨q,hq'⟩:∃q,q=32768*(dy - v) - ey:=⟨_,rfl⟩
 have p1: -32767≤p∧p≤32767:=by omega
 have q1: -32767≤q∧q≤32767:=by omega
 have a1:=(Cp bx p1).2
 have a2:=(Cp by_ q1).2
 have a3:=(sqB p1).2
 have a4:=(sqB q1).2
 have e1:1073741824*((dx - u)*(dx - u)+(dy - v)*(dy - v))=(ex*ex+ey*ey)+2*(ex*p)+2*(ey*q)+p*p+q*q:=by
  have e2:32768*(dx - u)=ex+p:=by omega
  have e3:32768*(dy - v)=ey+q:=by omega
  have:1073741824*((dx - u)*(dx - u)+(dy - v)*(dy - v))=(32768*(dx - u))*(32768*(dx - u))+(32768*(dy - v))*(32768*(dy - v)):=by grind
  rw[this,e2,e3]
  grind
 have e4:1073741824*((s+2+(1024+M))*(s+2+(1024+M)))=G*G+131072*G+4294967296:=by
  rw[hG,hF];grind
 omega
theorem fK {z a b:Int}(h:z < a*a)(h0:0≤a)(h1:a≤b):z < b*b:=by
 have:=Int.mul_le_mul h1 h1 h0 (by omega)
 omega
theorem VA {ax ay bx by_ cx cy cr r:Int}(hr:1≤r)(hcr:1≤cr)(h:CR ax ay bx by_ cx cy (r+cr)=true):GB ax ay bx by_ cx cy cr r=true:=by
 rw[I4 rfl rfl rfl rfl rfl rfl] at h
 have hq:(bx - cx)*(bx - cx)+(by_ - cy)*(by_ - cy)=((ax - cx)*(ax - cx)+(ay - cy)*(ay - cy)) - 2*((bx - ax)*(cx - ax)+(by_ - ay)*(cy - ay))+((bx - ax)*(bx - ax)+(by_ - ay)*(by_ - ay)):=by grind
 have hl:0≤(bx - ax)*(bx - ax)+(by_ - ay)*(by_ - ay):=by
  have:=sqn (bx - ax)
  have:=sqn (by_ - ay)
  omega
 unfold GB
 dsimp only
 rw[decide_eq_true_eq]
 by_cases k2:(bx - ax)*(bx - ax)+(by_ - ay)*(by_ - ay)≤(bx - ax)*(cx - ax)+(by_ - ay)*(cy - ay)
 ·rw[if_pos k2,if_pos k2,if_neg (by omega)]
  refine fK (a:=r+cr) ?_ (by omega) (by omega)
  split at h
  ·have:=of_decide_eq_true h
   omega
  ·exact of_decide_eq_true h
 ·rw[if_neg k2,if_neg k2]
  by_cases k1:0 < (bx - ax)*(cx - ax)+(by_ - ay)*(cy - ay)
  ·have k3:0 < (bx - ax)*(cx - ax)+(by_ - ay)*(cy - ay)∧(bx - ax)*(cx - ax)+(by_ - ay)*(cy - ay) < (bx - ax)*(bx - ax)+(by_ - ay)*(by_ - ay):=⟨k1,by omega⟩
   rw[if_pos k1,if_pos k1,if_pos k3]
   rw[if_neg (by omega),if_neg k2] at h
   have h:=of_decide_eq_true h
   have key:=Y7 (x:=bx - ax) (y:=by_ - ay) (u:=cx - ax) (v:=cy - ay) (s:=r+cr)
    (M:=((if bx - ax≤ -(bx - ax) then -(bx - ax) else bx - ax)+(if by_ - ay≤ -(by_ - ay) then -(by_ - ay) else by_ - ay)) / 16384)
    (dx:=if 0≤(bx - ax)*(((bx - ax)*(cx - ax)+(by_ - ay)*(cy - ay)) / (((bx - ax)*(bx - ax)+(by_ - ay)*(by_ - ay)) / 32768+1)) then (bx - ax)*(((bx - ax)*(cx - ax)+(by_ - ay)*(cy - ay)) / (((bx - ax)*(bx - ax)+(by_ - ay)*(by_ - ay)) / 32768+1)) / 32768 else -(-((bx - ax)*(((bx - ax)*(cx - ax)+(by_ - ay)*(cy - ay)) / (((bx - ax)*(bx - ax)+(by_ - ay)*(by_ - ay)) / 32768+1))) / 32768))
    (dy:=if 0≤(by_ - ay)*(((bx - ax)*(cx - ax)+(by_ - ay)*(cy - ay)) / (((bx - ax)*(bx - ax)+(by_ - ay)*(by_ - ay)) / 32768+1)) then (by_ - ay)*(((bx - ax)*(cx - ax)+(by_ - ay)*(cy - ay)) / (((bx - ax)*(bx - ax)+(by_ - ay)*(by_ - ay)) / 32768+1)) / 32768 else -(-((by_ - ay)*(((bx - ax)*(cx - ax)+(by_ - ay)*(cy - ay)) / (((bx - ax)*(bx - ax)+(by_ - ay)*(by_ - ay)) / 32768+1))) / 32768))
    rfl rfl rfl k1 (by omega) h (by omega) rfl (by constructor<;>split<;>omega) (by constructor<;>split<;>omega)
    (by refine Int.ediv_nonneg ?_ (by omega);(repeat' split)<;>omega)
    (by intro a;(repeat' split)<;>omega)
    (by intro a;(repeat' split)<;>omega)
   have e:∀p q z:Int,p+q - z=q - (z - p):=fun p q z=>by omega
   rw[e ax,e ay]
   have e2:∀a b:Int,a+2+b=a+2+b:=fun _ _=>rfl
   exact key
  ·rw[if_neg k1,if_neg k1,if_neg (fun a=>k1 a.1)]
   rw[if_pos (by omega)] at h
   exact fK (a:=r+cr) (of_decide_eq_true h) (by omega) (by omega)
end Go.Eng
end
noncomputable section
namespace Go.Eng
section
variable {ax ay bx by_ r:Int}{d:List (List U)}
theorem cn {n:Nat}:Av bx by_ ax ay r d n=Av ax ay bx by_ r d n:=by
 unfold Av
 congr 1
 funext i
 rw[eW]
theorem LW {n i:Nat}(hi:i < (Av ax ay bx by_ r d n).length):∃j:Nat,j < n∧AA (Av ax ay bx by_ r d n) i 0=j∧CR ax ay bx by_ (AA d j 0) (AA d j 1) (r+AA d j 2)=true:=by
 have hm:=List.getElem_mem hi
 obtain⟨j,hj,e⟩:=List.mem_filterMap.1 hm
 split at e
 ·rename_i hn
  refine⟨j,List.mem_range.1 hj,?_,hn⟩
  show uI ((Av ax ay bx by_ r d n).getD i []) 0=j
  rw[Qv hi]
  cases e2:(Av ax ay bx by_ r d n)[i] with
  |nil=>rw[show (Av ax ay bx by_ r d n)[i]=[U.int j] from (Option.some.inj e).symm] at e2;cases e2
  |cons a l=>
   rw[show (Av ax ay bx by_ r d n)[i]=[U.int j] from (Option.some.inj e).symm] at e2
   cases e2
   rfl
 ·cases e
theorem eI (n:Nat):Av ax ay bx by_ r d (n+1)=Av ax ay bx by_ r d n++if CR ax ay bx by_ (AA d n 0) (AA d n 1) (r+AA d n 2)=true then [[.int n]] else []:=by
 have:=R6 (ax:=ax) (ay:=ay) (bx:=bx) (by_:=by_) (r:=r) (d:=d) (i:=n) (n:=n+1) (b:=if CR ax ay bx by_ (AA d n 0) (AA d n 1) (r+AA d n 2)=true then Av ax ay bx by_ r d n++[[.int n]] else Av ax ay bx by_ r d n) (a:=Av ax ay bx by_ r d n) (by omega) rfl (by rw[Int.toNat_natCast]) (by rw[Int.toNat_natCast])
 rw[show ((n:Int)+1).toNat=n+1 by omega] at this
 rw[←this]
 split
 ·rfl
 ·rw[List.append_nil]
theorem Lf:∀(n i:Nat),i+1 < (Av ax ay bx by_ r d n).length→AA (Av ax ay bx by_ r d n) i 0 < AA (Av ax ay bx by_ r d n) (i+1) 0
 |0,i,h=>absurd h (by simp[Av])
 |n+1,i,h=>by
  rw[eI] at h⊢
  split at h
  ·rename_i hn
   rw[if_pos hn]
   rw[List.length_append] at h
   simp only[List.length_cons,List.length_nil] at h
   rcases Nat.lt_or_ge (i+1) (Av ax ay bx by_ r d n).length with k|k
   ·rw[GX (by omega),GX k]
    exact Lf n i k
   ·obtain⟨j,h1,h2,-⟩:=LW (ax:=ax) (ay:=ay) (bx:=bx) (by_:=by_) (r:=r) (d:=d) (n:=n) (i:=i) (by omega)
    rw[GX (by omega),IR k,h2,show i+1 - (Av ax ay bx by_ r d n).length=0 by omega]
    show (j:Int) < n
    omega
  ·rename_i hn
   rw[if_neg hn,List.append_nil]
   rw[List.append_nil] at h
   exact Lf n i h
theorem Te {ax' ay' bx' by' r':Int}{n:Nat}(h:∀j:Nat,j < n→CR ax ay bx by_ (AA d j 0) (AA d j 1) (r+AA d j 2)=true→CR ax' ay' bx' by' (AA d j 0) (AA d j 1) (r'+AA d j 2)=true):
  Iy (Av ax ay bx by_ r d n) (Av ax' ay' bx' by' r' d n)=true:=by
 rw[Py]
 intro i hi
 obtain⟨j,h1,h2,h3⟩:=LW hi
 rw[h2,On h1]
 exact h j h1 h3
end
theorem QP {l:Ln}{ax ay bx by_ r:Int}{others:List (List U)}(hc:AO l=0)(h1:AF ax ay=true)(h2:AF bx by_=true)(h3:Bn r=true)(h4:others.length≤12)(h5:others.all Aq=true):Cf l ax ay bx by_ r others=0:=by
 unfold Cf A7 AT
 simp only[hc,h1,h2,h3,h5,not_true,if_false,if_true]
 rw[if_neg (by omega)]
theorem JA {l:Ln}{ax ay bx by_ r:Int}{others:List (List U)}(h:Cf l ax ay bx by_ r others=0):E3 l ax ay bx by_ r others=Av ax ay bx by_ r (AN l++others) (AN l++others).length:=if_pos h
end Go.Eng
end
