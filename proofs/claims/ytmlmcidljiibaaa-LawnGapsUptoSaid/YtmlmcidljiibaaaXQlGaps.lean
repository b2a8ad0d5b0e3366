/-
  A part of the proof: plain laws.
-/
import Derived.Test.YtmlmcidljiibaaaE3
import Derived.Test.YtmlmcidljiibaaaE4
set_option linter.unusedVariables false
set_option linter.unusedSimpArgs false
noncomputable section
namespace Go.Eng
def fR (l:Ln)(h r:Int):Int:=if¬AT l=0 then AT l else if h < 0∨l.hoops.length≤h∨¬Bx r=true then 3 else 0
def fS (l:Ln)(h r:Int):Bool:=decide (fR l h r=0)&&decide (2*r≤AA l.hoops h.toNat 2)
end Go.Eng
end
noncomputable section
namespace Go.Eng
def tY (l:List (List U))(n:Int):Bool:=l.any fun u=>decide (uI u 0=n)
theorem qG {l:List (List U)}{j:Nat}(hj:j < l.length):l.getD j []=l[j]:=by
 rw[List.getD_eq_getElem?_getD,List.getElem?_eq_getElem hj]
 rfl
theorem um {l:List (List U)}{n:Int}:tY l n=true↔∃i:Nat,i < l.length∧AA l i 0=n:=by
 unfold tY
 rw[List.any_eq_true]
 constructor
 ·rintro⟨u,hu,h⟩
  obtain⟨j,hj,rfl⟩:=List.getElem_of_mem hu
  refine⟨j,hj,?_⟩
  show uI (l.getD j []) 0=n
  rw[qG hj]
  exact of_decide_eq_true h
 ·rintro⟨j,hj,h⟩
  refine⟨l[j],List.getElem_mem hj,?_⟩
  have h:uI (l.getD j []) 0=n:=h
  rw[qG hj] at h
  exact decide_eq_true h
open Go
end Go.Eng
end
noncomputable section
namespace Go.Eng
end Go.Eng
end
noncomputable section
namespace Go.Eng
def freeL (l:Ln)(r:Int)(others:List (List U))(n:Int):Bool:=As l.yard (l.wide - 2*l.yard) (l.long - 2*l.yard) r others n
section
variable {l:Ln}{x y r:Int}{others:List (List U)}(h:C7 l x y r others=0)
include h
end
end Go.Eng
end
noncomputable section
namespace Go.Eng
def tl (gap wire u v r:Int):Int:=if gap / 2≤v∨gap / 2≤ -v then 0 else if -wire≤u - r then 3 else if wire < u+r then 2 else if -wire < u+r then 1 else 0
def uA (hx:Int)(along fwd:Bool)(u v:Int):Int:=if along=true then hx+(if fwd=true then u else -u) else hx+v
def uD (hy:Int)(along fwd:Bool)(u v:Int):Int:=if along=true then hy+v else hy+(if fwd=true then u else -u)
theorem uE (hx hy gap wire:Int)(along fwd:Bool)(r u v:Int):Ox hx hy gap wire along fwd (uA hx along fwd u v) (uD hy along fwd u v) r=tl gap wire u v r:=by
 unfold Ox tl uA uD
 have e1:∀a b:Int,a+b - a=b:=fun a b=>by omega
 cases along<;>cases fwd<;>simp[e1]
theorem uO {gap wire u u' v r:Int}(h:u≤u'):tl gap wire u v r≤tl gap wire u' v r:=by
 unfold tl
 repeat' split
 all_goals omega
theorem tq {ax ay bx by_ r:Int}{d:List (List U)}{n k:Nat}(hk:k < n):tY (FQ ax ay bx by_ r d n) k=Kp ax ay bx by_ (AA d k 0) (AA d k 1) (r+AA d k 2):=by
 refine Bool.eq_iff_iff.2 ?_
 unfold tY FQ
 rw[List.any_eq_true]
 constructor
 ·rintro⟨u,hu,h⟩
  obtain⟨i,hi,e⟩:=List.mem_filterMap.1 hu
  split at e
  ·rename_i hn
   cases e
   have:i=k:=by
    have h2:(i:Int)=k:=of_decide_eq_true h
    omega
   subst this
   exact hn
  ·cases e
 ·intro h
  refine⟨[.int k],List.mem_filterMap.2 ⟨k,List.mem_range.2 hk,if_pos h⟩,?_⟩
  exact decide_eq_true rfl
theorem uF:∀(h:List (List U)) (n:Nat) (c:Nat),n < h.length→c < 2→(h.flatMap Ce).getD (2*n+c) []=(Ce (h.getD n [])).getD c []
 |[],n,_,hn,_=>by simp at hn
 |u::h,0,c,_,hc=>by
  rw[List.flatMap_cons,List.getD_eq_getElem?_getD,List.getElem?_append_left (by rw[ZC];omega),←List.getD_eq_getElem?_getD]
  simp
 |u::h,n+1,c,hn,hc=>by
  rw[List.flatMap_cons,List.getD_eq_getElem?_getD,List.getElem?_append_right (by rw[ZC];omega),ZC,show 2*(n+1)+c - 2=2*n+c by omega,←List.getD_eq_getElem?_getD,uF h n c (by simpa using hn) hc]
  simp
theorem uY {l:Ln}{n c k:Nat}(hn:n < l.hoops.length)(hc:c < 2):AA (BC l++[]) (2*n+c) k=uI ((Ce (l.hoops.getD n [])).getD c []) k:=by
 have hl:2*n+c < (l.hoops.flatMap Ce).length:=by rw[EU];omega
 rw[List.append_nil]
 unfold BC CM
 rw[Le hl]
 unfold AA
 rw[uF _ _ _ hn hc]
 rfl
theorem ur {a b:Int}(ha:0≤a)(hb:0≤b):a*a < b*b↔a < b:=by
 constructor
 ·intro h
  rcases Int.lt_or_le a b with k|k
  ·exact k
  ·have:=Int.mul_le_mul k k hb ha
   omega
 ·intro h
  have:=Int.mul_le_mul (show a+1≤b by omega) (show a+1≤b by omega) (by omega) hb
  have e:(a+1)*(a+1)=a*a+2*a+1:=by grind
  omega
theorem uX {hx hy gap wire:Int}{along:Bool}{c:Nat}(hc:c < 2):∃e:Int,(e=1∨e= -1)∧(Ku hx hy gap wire along).getD c []=if along=true then ML hx (hy+e*(gap / 2+wire)) wire else ML (hx+e*(gap / 2+wire)) hy wire:=by
 unfold Ku
 match c,hc with
 |0,_=>
  refine⟨-1,.inr rfl,?_⟩
  cases along
  ·show ML (hx - (gap / 2+wire)) hy wire=ML (hx+ -1*(gap / 2+wire)) hy wire
   rw[show hx - (gap / 2+wire)=hx+ -1*(gap / 2+wire) by omega]
  ·show ML hx (hy - (gap / 2+wire)) wire=ML hx (hy+ -1*(gap / 2+wire)) wire
   rw[show hy - (gap / 2+wire)=hy+ -1*(gap / 2+wire) by omega]
 |1,_=>
  refine⟨1,.inl rfl,?_⟩
  cases along
  ·show ML (hx+(gap / 2+wire)) hy wire=ML (hx+1*(gap / 2+wire)) hy wire
   rw[Int.one_mul]
  ·show ML hx (hy+(gap / 2+wire)) wire=ML hx (hy+1*(gap / 2+wire)) wire
   rw[Int.one_mul]
theorem ud {ax ay cx cy s:Int}:Kp ax ay ax ay cx cy s=decide (sq ax ay cx cy < s*s):=by
 unfold Kp
 simp
theorem tz {hx hy gap wire r:Int}{along:Bool}{c:Nat}(hc:c < 2)(hg:2≤gap)(he:gap % 2=0)(hw:1≤wire)(hr:1≤r):
  Kp hx hy hx hy (uI ((Ku hx hy gap wire along).getD c []) 0) (uI ((Ku hx hy gap wire along).getD c []) 1) (r+uI ((Ku hx hy gap wire along).getD c []) 2)= !decide (2*r≤gap):=by
 obtain⟨e,h1,h2⟩:=uX (hx:=hx) (hy:=hy) (gap:=gap) (wire:=wire) (along:=along) hc
 rw[h2,ud]
 have key:sq hx hy (uI (if along=true then ML hx (hy+e*(gap / 2+wire)) wire else ML (hx+e*(gap / 2+wire)) hy wire) 0) (uI (if along=true then ML hx (hy+e*(gap / 2+wire)) wire else ML (hx+e*(gap / 2+wire)) hy wire) 1)=(gap / 2+wire)*(gap / 2+wire)∧uI (if along=true then ML hx (hy+e*(gap / 2+wire)) wire else ML (hx+e*(gap / 2+wire)) hy wire) 2=wire:=by
  cases along
  ·refine⟨?_,rfl⟩
   show (hx - (hx+e*(gap / 2+wire)))*(hx - (hx+e*(gap / 2+wire)))+(hy - hy)*(hy - hy)=_
   rcases h1 with rfl|rfl<;>grind
  ·refine⟨?_,rfl⟩
   show (hx - hx)*(hx - hx)+(hy - (hy+e*(gap / 2+wire)))*(hy - (hy+e*(gap / 2+wire)))=_
   rcases h1 with rfl|rfl<;>grind
 rw[key.1,key.2]
 refine Bool.eq_iff_iff.2 ?_
 rw[decide_eq_true_eq,ur (by omega) (by omega),Bool.not_eq_true',decide_eq_false_iff_not]
 omega
theorem uG {hx hy gap wire r u u':Int}{along fwd:Bool}{c:Nat}(hc:c < 2)(hg:2≤gap)(hw:1≤wire)(hr:1≤r)(hp:2*r≤gap):
  Kp (uA hx along fwd u 0) (uD hy along fwd u 0) (uA hx along fwd u' 0) (uD hy along fwd u' 0) (uI ((Ku hx hy gap wire along).getD c []) 0) (uI ((Ku hx hy gap wire along).getD c []) 1) (r+uI ((Ku hx hy gap wire along).getD c []) 2)=false:=by
 obtain⟨e,h1,h2⟩:=uX (hx:=hx) (hy:=hy) (gap:=gap) (wire:=wire) (along:=along) hc
 rw[h2]
 have hD:(r+wire)*(r+wire)≤(gap / 2+wire)*(gap / 2+wire):=Int.mul_le_mul (by omega) (by omega) (by omega) (by omega)
 have hee:e*e=1:=by rcases h1 with rfl|rfl<;>rfl
 have sqn:∀z:Int,0≤z*z:=fun z=>by
  rcases Int.le_total 0 z with h|h
  ·exact Int.mul_nonneg h h
  ·have:=Int.mul_nonneg (a:= -z) (b:= -z) (by omega) (by omega)
   rwa [Int.neg_mul_neg] at this
 have core:∀(p q m:Int) (D S:Int),S≤D*D→¬((p - m)*(p - m)+D*D < S)∧¬((q - p)*(q - p)*(D*D) < (q - p)*(q - p)*S):=fun p q m D S h=>by
  have a:=sqn (p - m)
  have b:=Int.mul_le_mul_of_nonneg_left h (sqn (q - p))
  exact⟨by omega,by omega⟩
 generalize hf:(if fwd=true then u else -u)=f
 generalize hf':(if fwd=true then u' else -u')=f'
 cases along
 ·unfold uA uD
  simp only[Bool.false_eq_true,if_false]
  rw[hf,hf',dc rfl rfl rfl rfl rfl rfl]
  show (if _ then decide ((hx+0 - (hx+e*(gap / 2+wire)))*(hx+0 - (hx+e*(gap / 2+wire)))+(hy+f - hy)*(hy+f - hy) < (r+wire)*(r+wire)) else if _ then decide ((hx+0 - (hx+e*(gap / 2+wire)))*(hx+0 - (hx+e*(gap / 2+wire)))+(hy+f' - hy)*(hy+f' - hy) < (r+wire)*(r+wire)) else decide (((hx+0 - (hx+0))*(hy - (hy+f)) - (hy+f' - (hy+f))*(hx+e*(gap / 2+wire) - (hx+0)))*((hx+0 - (hx+0))*(hy - (hy+f)) - (hy+f' - (hy+f))*(hx+e*(gap / 2+wire) - (hx+0))) < ((hx+0 - (hx+0))*(hx+0 - (hx+0))+(hy+f' - (hy+f))*(hy+f' - (hy+f)))*((r+wire)*(r+wire))))=false
  have k1:=core (hy+f) (hy+f') hy (gap / 2+wire) ((r+wire)*(r+wire)) hD
  have k2:=core (hy+f') (hy+f) hy (gap / 2+wire) ((r+wire)*(r+wire)) hD
  have e1:(hx+0 - (hx+e*(gap / 2+wire)))*(hx+0 - (hx+e*(gap / 2+wire)))=(gap / 2+wire)*(gap / 2+wire):=by rcases h1 with rfl|rfl<;>grind
  have e2:((hx+0 - (hx+0))*(hy - (hy+f)) - (hy+f' - (hy+f))*(hx+e*(gap / 2+wire) - (hx+0)))*((hx+0 - (hx+0))*(hy - (hy+f)) - (hy+f' - (hy+f))*(hx+e*(gap / 2+wire) - (hx+0)))=(hy+f' - (hy+f))*(hy+f' - (hy+f))*((gap / 2+wire)*(gap / 2+wire)):=by rcases h1 with rfl|rfl<;>grind
  have e3:(hx+0 - (hx+0))*(hx+0 - (hx+0))+(hy+f' - (hy+f))*(hy+f' - (hy+f))=(hy+f' - (hy+f))*(hy+f' - (hy+f)):=by grind
  rw[e1,e2,e3,Int.add_comm ((gap / 2+wire)*(gap / 2+wire)),Int.add_comm ((gap / 2+wire)*(gap / 2+wire))]
  rw[decide_eq_false k1.1,decide_eq_false k2.1,decide_eq_false k1.2]
  repeat' split
  all_goals rfl
 ·unfold uA uD
  simp only[if_true]
  rw[hf,hf',dc rfl rfl rfl rfl rfl rfl]
  show (if _ then decide ((hx+f - hx)*(hx+f - hx)+(hy+0 - (hy+e*(gap / 2+wire)))*(hy+0 - (hy+e*(gap / 2+wire))) < (r+wire)*(r+wire)) else if _ then decide ((hx+f' - hx)*(hx+f' - hx)+(hy+0 - (hy+e*(gap / 2+wire)))*(hy+0 - (hy+e*(gap / 2+wire))) < (r+wire)*(r+wire)) else decide (((hx+f' - (hx+f))*(hy+e*(gap / 2+wire) - (hy+0)) - (hy+0 - (hy+0))*(hx - (hx+f)))*((hx+f' - (hx+f))*(hy+e*(gap / 2+wire) - (hy+0)) - (hy+0 - (hy+0))*(hx - (hx+f))) < ((hx+f' - (hx+f))*(hx+f' - (hx+f))+(hy+0 - (hy+0))*(hy+0 - (hy+0)))*((r+wire)*(r+wire))))=false
  have k1:=core (hx+f) (hx+f') hx (gap / 2+wire) ((r+wire)*(r+wire)) hD
  have k2:=core (hx+f') (hx+f) hx (gap / 2+wire) ((r+wire)*(r+wire)) hD
  have e1:(hy+0 - (hy+e*(gap / 2+wire)))*(hy+0 - (hy+e*(gap / 2+wire)))=(gap / 2+wire)*(gap / 2+wire):=by rcases h1 with rfl|rfl<;>grind
  have e2:((hx+f' - (hx+f))*(hy+e*(gap / 2+wire) - (hy+0)) - (hy+0 - (hy+0))*(hx - (hx+f)))*((hx+f' - (hx+f))*(hy+e*(gap / 2+wire) - (hy+0)) - (hy+0 - (hy+0))*(hx - (hx+f)))=(hx+f' - (hx+f))*(hx+f' - (hx+f))*((gap / 2+wire)*(gap / 2+wire)):=by rcases h1 with rfl|rfl<;>grind
  have e3:(hx+f' - (hx+f))*(hx+f' - (hx+f))+(hy+0 - (hy+0))*(hy+0 - (hy+0))=(hx+f' - (hx+f))*(hx+f' - (hx+f)):=by grind
  rw[e1,e2,e3]
  rw[decide_eq_false k1.1,decide_eq_false k2.1,decide_eq_false k1.2]
  repeat' split
  all_goals rfl
end Go.Eng
end
