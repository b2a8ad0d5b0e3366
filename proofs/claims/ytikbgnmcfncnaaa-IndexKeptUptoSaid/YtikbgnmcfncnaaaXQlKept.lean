/-
  A part of the proof: plain laws.
-/
import Derived.Test.YtikbgnmcfncnaaaE5
set_option linter.unusedVariables false
set_option linter.unusedSimpArgs false
noncomputable section
namespace Go.Eng
theorem Tk (x b:Int): -10000≤Ax x b∧Ax x b≤10000:=by unfold Ax;omega
theorem R8 {m n:Int}(h0:0≤m)(h1:m≤n)(h2:n≤19):D8 Da n≤D8 Da m:=by
 obtain⟨j,rfl⟩:∃k:Nat,m=k:=⟨m.toNat,by omega⟩
 obtain⟨k,rfl⟩:∃k:Nat,n=k:=⟨n.toNat,by omega⟩
 have key:∀j k:Fin 20,(j:Nat)≤(k:Nat)→D8 Da ((k:Nat):Int)≤D8 Da ((j:Nat):Int):=by decide
 exact key ⟨j,by omega⟩ ⟨k,by omega⟩ (by simp only;omega)
theorem dO (a b:Int)(l:Bool):Ar a b l+Ar b a l=20:=by
 unfold Ar
 cases l with
 |false=>rfl
 |true=>
  simp only[if_true]
  by_cases h:a < b
  ·rw[if_pos h,if_neg (by omega)];omega
  ·by_cases h2:b < a
   ·rw[if_neg h,if_pos h2];omega
   ·rw[if_neg h,if_neg h2,show a - b=0 by omega,show b - a=0 by omega];rfl
theorem ZZ {a c b:Int}{l:Bool}(h:a≤c):Ar c b l≤Ar a b l:=by
 unfold Ar
 cases l with
 |false=>exact Int.le_refl _
 |true=>
  simp only[if_true]
  by_cases h1:c < b
  ·rw[if_pos h1,if_pos (by omega)]
   have:=R8 (m:=min ((b - c) / 100) 19) (n:=min ((b - a) / 100) 19) (by omega) (by omega) (by omega)
   omega
  ·rw[if_neg h1]
   by_cases h2:a < b
   ·rw[if_pos h2]
    have x:=Nm (n:=min ((b - a) / 100) 19) (by omega) (by omega)
    have y:=Nm (n:=min ((c - b) / 100) 19) (by omega) (by omega)
    omega
   ·rw[if_neg h2]
    exact R8 (m:=min ((a - b) / 100) 19) (n:=min ((c - b) / 100) 19) (by omega) (by omega) (by omega)
theorem dM {a b g:Int}(ha: -10000≤a∧a≤10000)(hg:1≤g∧g≤19)(hb: -10000≤b∧b≤10000):a≤Ax a g∧Ax b (-g)≤b:=by unfold Ax;omega
theorem eJ {a b g:Int}(ha: -10000≤a∧a≤10000)(hg:1≤g∧g≤19)(hb: -10000≤b∧b≤10000)(h1:a+g≤10000)(h2: -10000≤b - g):Ax a g=a+g∧Ax b (-g)=b - g:=by unfold Ax;omega
end Go.Eng
end
