/-
  A part of the proof: plain laws.
-/
import Derived.Test.YtikbgnmcfncnaaaE5
set_option linter.unusedVariables false
set_option linter.unusedSimpArgs false
noncomputable section
namespace Go.Eng
section
open Go
theorem jO {a b:Bool}(h:a=true↔b=true):a=b:=Bool.eq_iff_iff.2 h
end
section
open Go
open Go
theorem fvS {T T2:Tab}{x:Nat}(h:T2.get x=T.get x):S T2 x=S T x:=by unfold S;rw[h]
end
section
open Go
def qO (T:Tab):Nat × Ty × Rf->Prop
 |(x,.i,r)=>I T x=iR T r
 |(x,.b,r)=>B T x=bR T r
 |(x,.l,r)=>L T x=lR T r
 |(x,.s,r)=>S T x=stR T r
 |_=>True
section
variable {T:Tab}
def qF (T:Tab)(x:Nat):SE->Prop
 | .k t r=>qO T (x,t,r)
 | .q op rs=>AI T ⟨x,op,rs⟩
theorem kB {x:Nat}{r:Rf}(h:B T x=true↔bR T r=true):qF T x (.k .b r):=Bool.eq_iff_iff.2 h
end
open Go
end
section
def mK:List (List U):=Da.map fun x=>[U.int x]
theorem nI {n:Int}(h0:0<=n)(h1:n<=19):Bx mK n.toNat 0=D8 Da n:=by
 obtain⟨k,rfl⟩:∃k:Nat,n=k:=⟨n.toNat,by omega⟩;have key:∀k:Fin 20,Bx mK ((k:Nat):Int).toNat 0=D8 Da ((k:Nat):Int):=by decide
 exact key ⟨k,by omega⟩
end
section
open Go Go.Proofs
def okB (s:ByteArray)(j:Nat):Prop:=97<=Jj s j/\Jj s j<=122\/48<=Jj s j/\Jj s j<=57
theorem pk {s:ByteArray}{k:Nat}(hk:k=s.size):s.data.toList.all Ku=true↔∀j:Nat,(j:Int) < k->okB s j:=by
 unfold okB;subst hk;rw[aX];have e:∀j (hj:j < s.size),(Ku (s[j]'hj)=true↔(97<=Jj s j/\Jj s j<=122\/48<=Jj s j/\Jj s j<=57)):=by
  intro j hj;have e:Jj s j=((s[j]'hj).toNat:Int):=by
   unfold Jj;have hl:j < s.data.toList.length:=by simpa using hj
   rw[wL,vt hl];rfl
  rw[e];simp only[Ku,wU,vo,decide_eq_true_eq];omega
 constructor
 .intro h j hj;exact (e j (by omega)).1 (h j (by omega))
 .intro h j hj;exact (e j hj).2 (h j (by omega))
theorem pD {s:ByteArray}:EC s=true↔(1<=s.size/\s.size<=20/\∀j:Nat,(j:Int) < s.size->okB s j):=by
 unfold EC;rw[vo,vo,decide_eq_true_eq,decide_eq_true_eq,pk rfl,and_assoc]
end
section
def jJ (a b:Int):Int:=min (max (a - b) 0) 40
def nG (c:Int):Bool:=decide (0<=c)&&decide (c<=3)
def jL (c:Int):Bool:=decide (c=0)||decide (c=2)
def jK (c:Int)(s:ByteArray)(x g:Int)(t:ByteArray)(y h:Int):Bool:=decide (Am s x g t y h=0)&&nG c
def mN (c:Int)(s:ByteArray)(x g:Int)(t:ByteArray)(y h:Int):Int:=if Am s x g t y h=0 then (if nG c=true then 0 else 3) else Am s x g t y h
def jk (c:Int)(s:ByteArray)(x g:Int)(t:ByteArray)(y h:Int):Bool:=jK c s x g t y h&&jL c
theorem kM {c:Int}:nG c=true↔0<=c/\c<=3:=by unfold nG;rw[vo,decide_eq_true_eq,decide_eq_true_eq]
theorem jN {c:Int}:jL c=true↔c=0\/c=2:=by unfold jL;rw[wU,decide_eq_true_eq,decide_eq_true_eq]
theorem jI {c:Int}{s:ByteArray}{x g:Int}{t:ByteArray}{y h:Int}:jK c s x g t y h=true↔Am s x g t y h=0/\0<=c/\c<=3:=by unfold jK;rw[vo,decide_eq_true_eq,kM]
theorem jM {c:Int}{s:ByteArray}{x g:Int}{t:ByteArray}{y h:Int}:jk c s x g t y h=true↔(Am s x g t y h=0/\0<=c/\c<=3)/\(c=0\/c=2):=by unfold jk;rw[vo,jI,jN]
theorem mH (a b:Int):0<=jJ a b/\jJ a b<=40:=by unfold jJ;omega
end
end Go.Eng
end
