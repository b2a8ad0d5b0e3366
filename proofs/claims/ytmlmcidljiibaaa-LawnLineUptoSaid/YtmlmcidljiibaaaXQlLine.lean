/-
  A part of the proof: plain laws.
-/
import Derived.Test.YtmlmcidljiibaaaE3
import Derived.Test.YtmlmcidljiibaaaE4
set_option linter.unusedVariables false
set_option linter.unusedSimpArgs false
noncomputable section
namespace Go.Eng
def mJ (l:Ln)(x y:Int):Int:=if A6 l x y=0 then FR l x else 0
def mN (l:Ln)(x y:Int):Int:=if A6 l x y=0 then FT l y else 0
def mE (l:Ln)(x y:Int):Bool:=decide (A6 l x y=0)&&decide (¬(FR l x=x∧FT l y=y))
def ln (l:Ln)(n:Int):Int:=if¬AT l=0 then AT l else if 0≤n∧n < 2*((l.wide - 2*l.yard)+(l.long - 2*l.yard)) then 0 else 3
def mT (l:Ln)(n:Int):Int:=if ln l n=0 then AY l.yard (l.wide - 2*l.yard) (l.long - 2*l.yard) n else 0
def mR (l:Ln)(n:Int):Int:=if ln l n=0 then AX l.yard (l.wide - 2*l.yard) (l.long - 2*l.yard) n else 0
def lw (l:Ln)(x y:Int):Int:=if¬A6 l x y=0 then A6 l x y else if AW l.yard (l.wide - 2*l.yard) (l.long - 2*l.yard) x y < 0 then 5 else 0
def lz (l:Ln)(x y:Int):Int:=if lw l x y=0 then AW l.yard (l.wide - 2*l.yard) (l.long - 2*l.yard) x y else 0
theorem lX {l:Ln}{x y:Int}(h:A6 l x y=0):AT l=0∧AH x y=true:=by
 unfold A6 at h
 grind
open Go
end Go.Eng
end
noncomputable section
namespace Go.Eng
theorem rP {y w h n:Int}(hd:BR y w h)(h0:0≤n)(h1:n < 2*(w+h)):AW y w h (AY y w h n) (AX y w h n)=n:=by
 obtain⟨⟨d1,d2⟩,⟨d3,d4⟩,d5,d6⟩:=hd
 unfold AW AY AX
 repeat' split
 all_goals first|rfl|omega
theorem rR {y w h px py m:Int}(hd:BR y w h)(hm:AW y w h px py=m)(h0:0≤m):AY y w h m=px∧AX y w h m=py:=by
 obtain⟨⟨d1,d2⟩,⟨d3,d4⟩,d5,d6⟩:=hd
 unfold AW at hm
 unfold AY AX
 subst hm
 repeat' split at h0
 all_goals (refine⟨?_,?_⟩<;>(repeat' split)<;>omega)
section
variable {l:Ln}{x y n:Int}
theorem rL (h:AT l=0)(hn:ln l n=0):0≤n∧n < 2*((l.wide - 2*l.yard)+(l.long - 2*l.yard)):=by
 unfold ln at hn
 grind
theorem qm {x lo hi:Int}(h1:lo≤x)(h2:x≤hi):Bh x lo hi=x:=by
 unfold Bh
 repeat' split
 all_goals omega
theorem rD (h:AT l=0)(h1:l.yard≤x∧x≤l.wide - l.yard)(h2:l.yard≤y∧y≤l.long - l.yard):A6 l x y=0∧FR l x=x∧FT l y=y:=by
 obtain⟨⟨⟨d1,d2⟩,⟨d3,d4⟩,d5,d6⟩,d7,d8,-⟩:=CP h
 refine⟨?_,qm h1.1 h1.2,qm h2.1 h2.2⟩
 unfold A6
 rw[if_neg (by simp[h]),if_pos (Av.2 (by omega))]
theorem rA (h:AT l=0)(hn:ln l n=0):lw l (mT l n) (mR l n)=0∧lz l (mT l n) (mR l n)=n∧A6 l (mT l n) (mR l n)=0∧
  mJ l (mT l n) (mR l n)=mT l n∧mN l (mT l n) (mR l n)=mR l n∧mE l (mT l n) (mR l n)=false:=by
 obtain⟨hd,d7,d8,-⟩:=CP h
 obtain⟨b1,b2⟩:=rL h hn
 have ha:=Mr hd b1 b2
 have hx:mT l n=AY l.yard (l.wide - 2*l.yard) (l.long - 2*l.yard) n:=if_pos hn
 have hy:mR l n=AX l.yard (l.wide - 2*l.yard) (l.long - 2*l.yard) n:=if_pos hn
 rw[←hx,←hy] at ha
 obtain⟨o1,o2,o3⟩:=rD (x:=mT l n) (y:=mR l n) h (by omega) (by omega)
 have hl:AW l.yard (l.wide - 2*l.yard) (l.long - 2*l.yard) (mT l n) (mR l n)=n:=by rw[hx,hy];exact rP hd b1 b2
 have hE:lw l (mT l n) (mR l n)=0:=by
  unfold lw
  rw[if_neg (by simp[o1]),hl,if_neg (by omega)]
 refine⟨hE,?_,o1,?_,?_,?_⟩
 ·unfold lz;rw[if_pos hE,hl]
 ·unfold mJ;rw[if_pos o1,o2]
 ·unfold mN;rw[if_pos o1,o3]
 ·unfold mE;simp[o2,o3]
theorem rU (hn:lw l x y=0):A6 l x y=0∧0≤AW l.yard (l.wide - 2*l.yard) (l.long - 2*l.yard) x y∧lz l x y=AW l.yard (l.wide - 2*l.yard) (l.long - 2*l.yard) x y:=by
 have h2:lz l x y=AW l.yard (l.wide - 2*l.yard) (l.long - 2*l.yard) x y:=if_pos hn
 unfold lw at hn
 grind
theorem qu (hn:lw l x y=0):ln l (lz l x y)=0∧mT l (lz l x y)=x∧mR l (lz l x y)=y:=by
 obtain⟨o1,h0,h1⟩:=rU hn
 have h:=(lX o1).1
 obtain⟨hd,d7,d8,-⟩:=CP h
 have hb:=(VM (y:=l.yard) (px:=x) (py:=y) hd.2.1.1 hd.2.2.1).1
 have hE:ln l (lz l x y)=0:=by
  unfold ln
  rw[if_neg (by simp[h]),if_pos (by rw[h1];exact⟨h0,hb⟩)]
 have ha:=rR hd rfl h0
 refine⟨hE,?_,?_⟩
 ·unfold mT;rw[if_pos hE,h1];exact ha.1
 ·unfold mR;rw[if_pos hE,h1];exact ha.2
theorem rJ (h:¬A6 l x y=0):mJ l x y=0∧mN l x y=0∧mE l x y=false:=by
 refine⟨if_neg h,if_neg h,?_⟩
 unfold mE
 simp[h]
theorem qf (h:AT l=0):(l.yard≤FR l x∧FR l x≤l.wide - l.yard)∧(l.yard≤FT l y∧FT l y≤l.long - l.yard):=by
 obtain⟨⟨⟨d1,d2⟩,⟨d3,d4⟩,d5,d6⟩,d7,d8,-⟩:=CP h
 exact⟨Ka (by omega),Ka (by omega)⟩
theorem rS (h:A6 l x y=0)(hb:mE l x y=true):lw l (mJ l x y) (mN l x y)=0:=by
 have hc:=(lX h).1
 obtain⟨hd,d7,d8,-⟩:=CP hc
 obtain⟨⟨d1,d2⟩,⟨d3,d4⟩,d5,d6⟩:=hd
 have e1:mJ l x y=FR l x:=if_pos h
 have e2:mN l x y=FT l y:=if_pos h
 have hs:=qf (l:=l) (x:=x) (y:=y) hc
 obtain⟨o1,o2,o3⟩:=rD hc hs.1 hs.2
 unfold mE at hb
 rw[Bool.and_eq_true,decide_eq_true_eq,decide_eq_true_eq] at hb
 have hl:=O3 (px:=x) (py:=y) (qx:=FR l x) (qy:=FT l y) d3 d5 (by unfold FR;rw[show l.wide - l.yard=l.yard+(l.wide - 2*l.yard) by omega]) (by unfold FT;rw[show l.long - l.yard=l.yard+(l.long - 2*l.yard) by omega]) hb.2
 rw[e1,e2]
 unfold lw
 rw[if_neg (by simp[o1]),if_neg (by omega)]
theorem rM (h:A6 l x y=0)(hb:mE l x y=false):mJ l x y=x∧mN l x y=y:=by
 have e1:mJ l x y=FR l x:=if_pos h
 have e2:mN l x y=FT l y:=if_pos h
 rw[e1,e2]
 unfold mE at hb
 rw[Bool.and_eq_false_iff,decide_eq_false_iff_not,decide_eq_false_iff_not] at hb
 rcases hb with hb|hb
 ·exact absurd h hb
 ·exact Classical.not_not.1 hb
theorem rN {a b:Int}(h:(0≤a∧a≤b)∨(b≤a∧a≤0)):a*a≤b*b:=by
 rcases h with h|h
 ·exact Int.mul_le_mul h.2 h.2 h.1 (by omega)
 ·have:=Int.mul_le_mul (show -a≤ -b by omega) (show -a≤ -b by omega) (by omega) (by omega)
  rwa [Int.neg_mul_neg,Int.neg_mul_neg] at this
theorem qh {x lo hi o:Int}(h:lo≤o∧o≤hi):(x - Bh x lo hi)*(x - Bh x lo hi)≤(x - o)*(x - o):=by
 apply rN
 unfold Bh
 repeat' split
 all_goals omega
theorem rF {ox oy:Int}(h:A6 l x y=0)(h1:l.yard≤ox∧ox≤l.wide - l.yard)(h2:l.yard≤oy∧oy≤l.long - l.yard):sq x y (mJ l x y) (mN l x y)≤sq x y ox oy:=by
 have e1:mJ l x y=FR l x:=if_pos h
 have e2:mN l x y=FT l y:=if_pos h
 rw[e1,e2]
 have a:=qh (x:=x) h1
 have b:=qh (x:=y) h2
 unfold sq FR FT
 omega
end
end Go.Eng
end
