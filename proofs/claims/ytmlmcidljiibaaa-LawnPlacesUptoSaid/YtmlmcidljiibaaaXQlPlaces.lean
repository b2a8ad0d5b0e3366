/-
  A part of the proof: plain laws.
-/
import Derived.Test.YtmlmcidljiibaaaE3
import Derived.Test.YtmlmcidljiibaaaE4
set_option linter.unusedVariables false
set_option linter.unusedSimpArgs false
noncomputable section
namespace Go.Eng
def onS (l:Ln)(x y:Int):Bool:=Cq x 0 l.wide&&Cq y 0 l.long
end Go.Eng
end
noncomputable section
namespace Go.Eng
theorem qG {l:List (List U)}{j:Nat}(hj:j < l.length):l.getD j []=l[j]:=by
 rw[List.getD_eq_getElem?_getD,List.getElem?_eq_getElem hj]
 rfl
def onR (l:Ln)(x y:Int):Bool:=decide (A6 l x y=0)&&onS l x y
def lf (l:Ln)(x y:Int):Int:=if¬A6 l x y=0 then A6 l x y else if onS l x y=true then 0 else 5
def mu (l:Ln)(x y:Int):Nat:=
 ((if y*l.ny / l.long≤l.ny - 1 then y*l.ny / l.long else l.ny - 1)*l.nx+(if x*l.nx / l.wide≤l.nx - 1 then x*l.nx / l.wide else l.nx - 1)).toNat
def lP (l:Ln)(x y:Int)(c:Nat):Int:=if lf l x y=0 then AA l.cells (mu l x y) c else 0
def mJ (l:Ln)(x y:Int):Int:=if A6 l x y=0 then FR l x else 0
def mN (l:Ln)(x y:Int):Int:=if A6 l x y=0 then FT l y else 0
def mE (l:Ln)(x y:Int):Bool:=decide (A6 l x y=0)&&decide (¬(FR l x=x∧FT l y=y))
def ln (l:Ln)(n:Int):Int:=if¬AT l=0 then AT l else if 0≤n∧n < 2*((l.wide - 2*l.yard)+(l.long - 2*l.yard)) then 0 else 3
def mT (l:Ln)(n:Int):Int:=if ln l n=0 then AY l.yard (l.wide - 2*l.yard) (l.long - 2*l.yard) n else 0
def mR (l:Ln)(n:Int):Int:=if ln l n=0 then AX l.yard (l.wide - 2*l.yard) (l.long - 2*l.yard) n else 0
def lw (l:Ln)(x y:Int):Int:=if¬A6 l x y=0 then A6 l x y else if AW l.yard (l.wide - 2*l.yard) (l.long - 2*l.yard) x y < 0 then 5 else 0
def lz (l:Ln)(x y:Int):Int:=if lw l x y=0 then AW l.yard (l.wide - 2*l.yard) (l.long - 2*l.yard) x y else 0
def mY (l:Ln)(x y:Int):Int:=
 if¬A6 l x y=0 then 0 else if y=l.yard∧l.yard≤x∧x≤l.wide / 2 then 1 else if y=l.long - l.yard∧l.wide - l.wide / 2≤x∧x≤l.wide - l.yard then 2 else 0
def lS (l:Ln):List (List U):=if AT l=0 then BC l else []
theorem lX {l:Ln}{x y:Int}(h:A6 l x y=0):AT l=0∧AH x y=true:=by
 unfold A6 at h
 grind
theorem nO {x nx wide a m:Int}(h1:0≤x)(h2:x≤wide)(h3:65536≤wide)(h4:1≤nx)(ha:a=x*nx / wide)(hm:m=if a≤nx - 1 then a else nx - 1):0≤m∧m≤nx - 1:=by
 have:0≤a:=by rw[ha];exact Int.ediv_nonneg (Int.mul_nonneg h1 (by omega)) (by omega)
 subst hm
 split<;>omega
theorem nY {l:Ln}(h:AT l=0):(1≤l.nx∧l.nx≤16)∧(1≤l.ny∧l.ny≤16)∧(l.cells.length:Int)=l.nx*l.ny:=(cq h).2.2.2.1
theorem ou {k i nx ny n:Int}(h1:0≤k∧k≤ny - 1)(h2:0≤i∧i≤nx - 1)(hn:n=nx*ny):0≤k*nx+i∧k*nx+i < n:=by
 have h3:=Int.mul_nonneg h1.1 (show 0≤nx by omega)
 have h4:=Int.mul_le_mul_of_nonneg_right h1.2 (show 0≤nx by omega)
 have e:(ny - 1)*nx=nx*ny - nx:=by grind
 rw[e] at h4
 subst hn
 omega
open Go in
theorem ox {a b:Int}(h0:0≤a)(h1:a≤4611686018427387904)(hb:1≤b):IntKind.i64.wrap (Op2.tdiv.f a b)=a / b:=by
 have e:Op2.tdiv.f a b=a / b:=(tdiv_eq_if a b).trans (if_pos h0)
 have h2:0≤a / b:=Int.ediv_nonneg h0 (by omega)
 have h3:a / b≤a:=Int.ediv_le_self b h0
 rw[e,Ez .i64 _ (by simp[IntKind.min,IntKind.signed,IntKind.bits];omega) (by simp[IntKind.max,IntKind.signed,IntKind.bits];omega)]
theorem o4 {u v:List U}(h:v∈Ce u):∃a b c,v=[.int a,.int b,.int c]:=by
 unfold Ce Ku at h
 split at h<;>(simp only[List.mem_cons,List.not_mem_nil,or_false] at h;rcases h with rfl|rfl<;>exact⟨_,_,_,rfl⟩)
theorem oo {l:Ln}{v:List U}(h:v∈lS l):∃a b c,v=[.int a,.int b,.int c]:=by
 unfold lS at h
 split at h
 ·unfold BC CM at h
  rcases List.mem_append.1 h with h|h
  ·obtain⟨u,_,h⟩:=List.mem_flatMap.1 h
   exact o4 h
  ·rw[List.mem_singleton] at h
   subst h
   exact⟨_,_,_,rfl⟩
 ·exact absurd h (List.not_mem_nil)
theorem lu {T:Tab}{x:Nat}{l:Ln}{c:Nat}(h:L T x=lS l)(hc:c < 3):Wd T x c:=fun i=>by
 rw[h]
 rcases Nat.lt_or_ge i (lS l).length with hi|hi
 ·rw[qG hi]
  obtain⟨a,b,d,e⟩:=oo (List.getElem_mem hi)
  rw[e]
  match c,hc with
  |0,_=>exact⟨a,rfl⟩
  |1,_=>exact⟨b,rfl⟩
  |2,_=>exact⟨d,rfl⟩
 ·exact⟨0,by simp only[List.getD,List.getElem?_eq_none hi,Option.getD_none];simp;rfl⟩
end Go.Eng
end
