/-
  A part of the proof: plain laws.
-/
import Derived.Test.YtmlmcidljiibaaaE3
import Derived.Test.YtmlmcidljiibaaaE4
set_option linter.unusedVariables false
set_option linter.unusedSimpArgs false
noncomputable section
namespace Go.Eng
def onS (l:Ln)(x y:Int):Bool:=Cq x 0 l.wide&&Cq y 0 l.long
theorem lA (m l:Int)(hm:0≤m)(hl:0≤l)(hl2:l≤4294967295):Cl .or .u64 ((m*4294967296) % 18446744073709551616) l=(m*4294967296) % 18446744073709551616+l:=by
 obtain⟨a,ha⟩:∃a:Nat,(m*4294967296) % 18446744073709551616=((a*4294967296:Nat):Int):=⟨((m*4294967296) % 18446744073709551616 / 4294967296).toNat,by omega⟩
 obtain⟨b,rfl⟩:∃b:Nat,l=b:=⟨l.toNat,by omega⟩
 rw[ha]
 have hlt:a*4294967296 < 18446744073709551616:=by omega
 have e:(BitVec.ofInt 64 ((a*4294967296:Nat):Int) ||| BitVec.ofInt 64 (b:Int)).toNat=a*4294967296+b:=by
  rw[BitVec.toNat_or,BitVec.ofInt_natCast,BitVec.ofInt_natCast,BitVec.toNat_ofNat,BitVec.toNat_ofNat,Nat.mod_eq_of_lt (by omega),Nat.mod_eq_of_lt (by omega)]
  have:=Nat.two_pow_add_eq_or_of_lt (i:=32) (b:=b) (by omega) a
  rw[show a*4294967296=2 ^ 32*a by omega]
  omega
 show IntKind.u64.wrap (((BitVec.ofInt 64 ((a*4294967296:Nat):Int) ||| BitVec.ofInt 64 (b:Int)).toNat:Nat):Int)=_
 rw[e,Ez .u64 _ (by simp[IntKind.min,IntKind.signed];omega) (by simp[IntKind.max,IntKind.signed,IntKind.bits];omega)]
 omega
theorem kP (x y:Int):(x / 18446744073709551616 < y / 18446744073709551616∨(x / 18446744073709551616=y / 18446744073709551616∧x % 18446744073709551616 < y % 18446744073709551616))↔x < y:=by omega
def iJ (l:Ln)(x y r:Int)(others:List (List U)):Bool:=decide (Kb l x y x y r others=0)&&decide ((Nz l x y x y r others).length=0)&&onS l x y
def iI (a b:List (List U)):Bool:=decide (a.length=b.length)&&(List.range a.length).all fun i=>decide (AA a i 0=AA b i 0)
theorem jA (a:List (List U)):iI a a=true:=by
 unfold iI
 simp
theorem kD {a b:List (List U)}:iI a b=true↔(a.length=b.length∧∀i:Nat,i < a.length→AA a i 0=AA b i 0):=by
 unfold iI
 rw[Bool.and_eq_true,decide_eq_true_eq,List.all_eq_true]
 constructor
 ·rintro⟨h1,h2⟩
  exact⟨h1,fun i hi=>by simpa using h2 i (List.mem_range.2 hi)⟩
 ·rintro⟨h1,h2⟩
  exact⟨h1,fun i hi=>by simpa using h2 i (List.mem_range.1 hi)⟩
end Go.Eng
end
