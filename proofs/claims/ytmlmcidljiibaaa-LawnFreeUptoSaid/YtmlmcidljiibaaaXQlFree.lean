/-
  A part of the proof: plain laws.
-/
import Derived.Test.YtmlmcidljiibaaaE3
import Derived.Test.YtmlmcidljiibaaaE4
set_option linter.unusedVariables false
set_option linter.unusedSimpArgs false
noncomputable section
namespace Go.Eng
def mJ (l:Ln)(x y:Int):Int:=if A6 l x y=0 then FR l x else 0
def mN (l:Ln)(x y:Int):Int:=if A6 l x y=0 then FT l y else 0
def mE (l:Ln)(x y:Int):Bool:=decide (A6 l x y=0)&&decide (¬(FR l x=x∧FT l y=y))
def ln (l:Ln)(n:Int):Int:=if¬AT l=0 then AT l else if 0≤n∧n < 2*((l.wide - 2*l.yard)+(l.long - 2*l.yard)) then 0 else 3
def mT (l:Ln)(n:Int):Int:=if ln l n=0 then AY l.yard (l.wide - 2*l.yard) (l.long - 2*l.yard) n else 0
def mR (l:Ln)(n:Int):Int:=if ln l n=0 then AX l.yard (l.wide - 2*l.yard) (l.long - 2*l.yard) n else 0
def lw (l:Ln)(x y:Int):Int:=if¬A6 l x y=0 then A6 l x y else if AW l.yard (l.wide - 2*l.yard) (l.long - 2*l.yard) x y < 0 then 5 else 0
def lz (l:Ln)(x y:Int):Int:=if lw l x y=0 then AW l.yard (l.wide - 2*l.yard) (l.long - 2*l.yard) x y else 0
theorem lX {l:Ln}{x y:Int}(h:A6 l x y=0):AT l=0∧AH x y=true:=by
 unfold A6 at h
 grind
open Go
theorem ox {a b:Int}(h0:0≤a)(h1:a≤4611686018427387904)(hb:1≤b):IntKind.i64.wrap (Op2.tdiv.f a b)=a / b:=by
 have e:Op2.tdiv.f a b=a / b:=(tdiv_eq_if a b).trans (if_pos h0)
 have h2:0≤a / b:=Int.ediv_nonneg h0 (by omega)
 have h3:a / b≤a:=Int.ediv_le_self b h0
 rw[e,Ez .i64 _ (by simp[IntKind.min,IntKind.signed,IntKind.bits];omega) (by simp[IntKind.max,IntKind.signed,IntKind.bits];omega)]
theorem nO {l:List (List U)}{es:List Kd}{m j c:Nat}{k:Go.IntKind}{lo hi:Int}(he:∀(i:Nat) (us:List U),l[i]? =some us→CL m es us)(hj:j < l.length)(hk:es[c]? =some (.int k lo hi)):lo≤AA l j c∧AA l j c≤hi:=by
 have h1:=he j l[j] (List.getElem?_eq_getElem hj)
 have e:l.getD j []=l[j]:=by rw[List.getD_eq_getElem?_getD,List.getElem?_eq_getElem hj];rfl
 unfold AA
 rw[e]
 generalize l[j]=us at h1
 clear he hj e
 induction es generalizing us c with
 |nil=>simp at hk
 |cons e es ih=>
  obtain⟨u,us',rfl,h2,h3⟩:=h1
  cases c with
  |zero=>
   have e0:e= .int k lo hi:=by simpa using hk
   subst e0
   obtain⟨n,rfl,h4,h5⟩:=h2
   exact⟨h4,h5⟩
  |succ c=>exact ih (c:=c) (by simpa using hk) us' h3
end Go.Eng
end
noncomputable section
namespace Go.Eng
theorem rP {y w h n:Int}(hd:BR y w h)(h0:0≤n)(h1:n < 2*(w+h)):AW y w h (AY y w h n) (AX y w h n)=n:=by
 obtain⟨⟨d1,d2⟩,⟨d3,d4⟩,d5,d6⟩:=hd
 unfold AW AY AX
 repeat' split
 all_goals first|rfl|omega
theorem rR {y w h px py m:Int}(hd:BR y w h)(hm:AW y w h px py=m)(h0:0≤m):AY y w h m=px∧AX y w h m=py:=by
 obtain⟨⟨d1,d2⟩,⟨d3,d4⟩,d5,d6⟩:=hd
 unfold AW at hm
 unfold AY AX
 subst hm
 repeat' split at h0
 all_goals (refine⟨?_,?_⟩<;>(repeat' split)<;>omega)
section
variable {l:Ln}{x y n:Int}
theorem rL (h:AT l=0)(hn:ln l n=0):0≤n∧n < 2*((l.wide - 2*l.yard)+(l.long - 2*l.yard)):=by
 unfold ln at hn
 grind
theorem qm {x lo hi:Int}(h1:lo≤x)(h2:x≤hi):Bh x lo hi=x:=by
 unfold Bh
 repeat' split
 all_goals omega
theorem rD (h:AT l=0)(h1:l.yard≤x∧x≤l.wide - l.yard)(h2:l.yard≤y∧y≤l.long - l.yard):A6 l x y=0∧FR l x=x∧FT l y=y:=by
 obtain⟨⟨⟨d1,d2⟩,⟨d3,d4⟩,d5,d6⟩,d7,d8,-⟩:=CP h
 refine⟨?_,qm h1.1 h1.2,qm h2.1 h2.2⟩
 unfold A6
 rw[if_neg (by simp[h]),if_pos (Av.2 (by omega))]
theorem rA (h:AT l=0)(hn:ln l n=0):lw l (mT l n) (mR l n)=0∧lz l (mT l n) (mR l n)=n∧A6 l (mT l n) (mR l n)=0∧
  mJ l (mT l n) (mR l n)=mT l n∧mN l (mT l n) (mR l n)=mR l n∧mE l (mT l n) (mR l n)=false:=by
 obtain⟨hd,d7,d8,-⟩:=CP h
 obtain⟨b1,b2⟩:=rL h hn
 have ha:=Mr hd b1 b2
 have hx:mT l n=AY l.yard (l.wide - 2*l.yard) (l.long - 2*l.yard) n:=if_pos hn
 have hy:mR l n=AX l.yard (l.wide - 2*l.yard) (l.long - 2*l.yard) n:=if_pos hn
 rw[←hx,←hy] at ha
 obtain⟨o1,o2,o3⟩:=rD (x:=mT l n) (y:=mR l n) h (by omega) (by omega)
 have hl:AW l.yard (l.wide - 2*l.yard) (l.long - 2*l.yard) (mT l n) (mR l n)=n:=by rw[hx,hy];exact rP hd b1 b2
 have hE:lw l (mT l n) (mR l n)=0:=by
  unfold lw
  rw[if_neg (by simp[o1]),hl,if_neg (by omega)]
 refine⟨hE,?_,o1,?_,?_,?_⟩
 ·unfold lz;rw[if_pos hE,hl]
 ·unfold mJ;rw[if_pos o1,o2]
 ·unfold mN;rw[if_pos o1,o3]
 ·unfold mE;simp[o2,o3]
theorem rU (hn:lw l x y=0):A6 l x y=0∧0≤AW l.yard (l.wide - 2*l.yard) (l.long - 2*l.yard) x y∧lz l x y=AW l.yard (l.wide - 2*l.yard) (l.long - 2*l.yard) x y:=by
 have h2:lz l x y=AW l.yard (l.wide - 2*l.yard) (l.long - 2*l.yard) x y:=if_pos hn
 unfold lw at hn
 grind
theorem qu (hn:lw l x y=0):ln l (lz l x y)=0∧mT l (lz l x y)=x∧mR l (lz l x y)=y:=by
 obtain⟨o1,h0,h1⟩:=rU hn
 have h:=(lX o1).1
 obtain⟨hd,d7,d8,-⟩:=CP h
 have hb:=(VM (y:=l.yard) (px:=x) (py:=y) hd.2.1.1 hd.2.2.1).1
 have hE:ln l (lz l x y)=0:=by
  unfold ln
  rw[if_neg (by simp[h]),if_pos (by rw[h1];exact⟨h0,hb⟩)]
 have ha:=rR hd rfl h0
 refine⟨hE,?_,?_⟩
 ·unfold mT;rw[if_pos hE,h1];exact ha.1
 ·unfold mR;rw[if_pos hE,h1];exact ha.2
theorem qf (h:AT l=0):(l.yard≤FR l x∧FR l x≤l.wide - l.yard)∧(l.yard≤FT l y∧FT l y≤l.long - l.yard):=by
 obtain⟨⟨⟨d1,d2⟩,⟨d3,d4⟩,d5,d6⟩,d7,d8,-⟩:=CP h
 exact⟨Ka (by omega),Ka (by omega)⟩
end
end Go.Eng
end
noncomputable section
namespace Go.Eng
theorem sX {free:Int→Bool}{start many:Int}(hs:0≤start∧start < many):∀(f:Nat) (t:Int),0≤t→Cj free start many t→0≤Pz free start many f t→
  ∃t0,t≤t0∧t0 < t+f∧Cj free start many t0∧free (Pz free start many f t)=true∧(Pz free start many f t=(start+t0) % many∨Pz free start many f t=(start - t0+many) % many)
 |0,_,_,_,h=>absurd h (by unfold Pz;omega)
 |f+1,t,h0,hn,h=>by
  have e:Pz free start many (f+1) t=if free ((start+t) % many)=true then (start+t) % many else if free ((start - t+many) % many)=true then (start - t+many) % many else Pz free start many f (t+1):=rfl
  by_cases h1:free ((start+t) % many)=true
  ·rw[e,if_pos h1]
   exact⟨t,by omega,by omega,hn,h1,.inl rfl⟩
  ·by_cases h2:free ((start - t+many) % many)=true
   ·rw[e,if_neg h1,if_pos h2]
    exact⟨t,by omega,by omega,hn,h2,.inr rfl⟩
   ·rw[e,if_neg h1,if_neg h2] at h⊢
    obtain⟨t0,a,b,c,d,g⟩:=sX hs f (t+1) (by omega) (RE rfl h0 hn (Bool.eq_false_iff.2 h1) (Bool.eq_false_iff.2 h2)) h
    exact⟨t0,by omega,by omega,c,d,g⟩
theorem tB {free:Int→Bool}{start many:Int}(hs:0≤start∧start < many)(h:0≤Nf free start many):
  ∃t0,0≤t0∧t0≤many / 2∧Cj free start many t0∧free (Nf free start many)=true∧(Nf free start many=(start+t0) % many∨Nf free start many=(start - t0+many) % many):=by
 unfold Nf at h⊢
 obtain⟨t0,a,b,c,d,g⟩:=sX hs _ 0 (by omega) (fun j hj=>absurd hj (by omega)) h
 exact⟨t0,a,by omega,c,d,g⟩
theorem s7 {start many t0 n:Int}(hs:0≤start∧start < many)(h0:0≤t0)(h1:t0≤many / 2)(hn:n=(start+t0) % many∨n=(start - t0+many) % many):
  (0≤n∧n < many)∧(if (n - start+many) % many≤(start - n+many) % many then (n - start+many) % many else (start - n+many) % many)≤t0:=by
 have hm:0 < many:=by omega
 have key:∀a:Int,0≤a→a < 2*many→(a % many=a∧a < many)∨(a % many=a - many∧many≤a):=fun a b c=>by
  rcases Int.lt_or_le a many with h|h
  ·exact .inl ⟨Int.emod_eq_of_lt b h,h⟩
  ·refine .inr ⟨?_,h⟩
   rw[←Int.sub_emod_right,Int.emod_eq_of_lt (by omega) (by omega)]
 rcases hn with hn|hn
 ·have k1:=key (start+t0) (by omega) (by omega)
  rw[←hn] at k1
  have k2:=key (n - start+many) (by omega) (by omega)
  have k3:=key (start - n+many) (by omega) (by omega)
  refine⟨by omega,?_⟩
  split<;>omega
 ·have k1:=key (start - t0+many) (by omega) (by omega)
  rw[←hn] at k1
  have k2:=key (n - start+many) (by omega) (by omega)
  have k3:=key (start - n+many) (by omega) (by omega)
  refine⟨by omega,?_⟩
  split<;>omega
theorem tF {free:Int→Bool}{start many t u:Int}(h:u≤t)(hn:Cj free start many t):Cj free start many u:=fun j hj=>hn j (by omega)
def rh (l:Ln)(x y:Int):Int:=AW l.yard (l.wide - 2*l.yard) (l.long - 2*l.yard) (FR l x) (FT l y)
def sE (l:Ln):Int:=2*((l.wide - 2*l.yard)+(l.long - 2*l.yard))
def rg (l:Ln)(x y r:Int)(others:List (List U)):Int:=Dd l.yard (l.wide - 2*l.yard) (l.long - 2*l.yard) (FR l x) (FT l y) r others
def freeL (l:Ln)(r:Int)(others:List (List U))(n:Int):Bool:=As l.yard (l.wide - 2*l.yard) (l.long - 2*l.yard) r others n
section
variable {l:Ln}{x y r:Int}{others:List (List U)}(h:C7 l x y r others=0)
include h
theorem ru:A6 l x y=0∧AQ r others=0∧¬((FR l x=x∧FT l y=y)∧AW l.yard (l.wide - 2*l.yard) (l.long - 2*l.yard) x y < 0)∧0≤rg l x y r others:=by
 unfold C7 at h
 unfold rg
 split at h
 ·rename_i h1;exact absurd h h1
 ·rename_i h1
  split at h
  ·rename_i h2;exact absurd h h2
  ·rename_i h2
   split at h
   ·omega
   ·rename_i h3
    split at h
    ·omega
    ·exact⟨Classical.not_not.1 h1,Classical.not_not.1 h2,h3,by omega⟩
theorem sN:0≤rh l x y∧rh l x y < sE l:=by
 obtain⟨h1,h2,h3,h4⟩:=ru h
 have hc:=(lX h1).1
 obtain⟨⟨⟨d1,d2⟩,⟨d3,d4⟩,d5,d6⟩,d7,d8,-⟩:=CP hc
 have hb:=(VM (y:=l.yard) (px:=FR l x) (py:=FT l y) d3 d5).1
 refine⟨?_,hb⟩
 unfold rh
 by_cases k:FR l x=x∧FT l y=y
 ·rw[k.1,k.2]
  have:=fun a=>h3 ⟨k,a⟩
  omega
 ·exact O3 (px:=x) (py:=y) d3 d5 (by unfold FR;rw[show l.wide - l.yard=l.yard+(l.wide - 2*l.yard) by omega]) (by unfold FT;rw[show l.long - l.yard=l.yard+(l.long - 2*l.yard) by omega]) k
theorem sW:∃t0,0≤t0∧t0≤sE l / 2∧Cj (freeL l r others) (rh l x y) (sE l) t0∧freeL l r others (rg l x y r others)=true∧(rg l x y r others=(rh l x y+t0) % sE l∨rg l x y r others=(rh l x y - t0+sE l) % sE l):=
 tB (free:=freeL l r others) (sN h) (ru h).2.2.2
theorem sU:ln l (rg l x y r others)=0∧GC l x y r others=mT l (rg l x y r others)∧GJ l x y r others=mR l (rg l x y r others):=by
 obtain⟨h1,h2,h3,h4⟩:=ru h
 have hc:=(lX h1).1
 obtain⟨t0,a,b,c,d,e⟩:=sW h
 have hb:=(s7 (sN h) a b e).1
 have hE:ln l (rg l x y r others)=0:=by
  unfold ln
  rw[if_neg (by simp[hc])]
  exact if_pos hb
 refine⟨hE,?_,?_⟩
 ·unfold GC mT;rw[if_pos h,if_pos hE];rfl
 ·unfold GJ mR;rw[if_pos h,if_pos hE];rfl
theorem sy:lw l (GC l x y r others) (GJ l x y r others)=0∧lz l (GC l x y r others) (GJ l x y r others)=rg l x y r others:=by
 obtain⟨p1,p2,p3⟩:=sU h
 have hc:=(lX (ru h).1).1
 obtain⟨q1,q2,-⟩:=rA hc p1
 rw[p2,p3]
 exact⟨q1,q2⟩
theorem sg:lw l (mJ l x y) (mN l x y)=0∧lz l (mJ l x y) (mN l x y)=rh l x y:=by
 obtain⟨h1,h2,h3,h4⟩:=ru h
 have hc:=(lX h1).1
 have e1:mJ l x y=FR l x:=if_pos h1
 have e2:mN l x y=FT l y:=if_pos h1
 have hs:=qf (l:=l) (x:=x) (y:=y) hc
 obtain⟨o1,o2,o3⟩:=rD hc hs.1 hs.2
 have hE:lw l (mJ l x y) (mN l x y)=0:=by
  rw[e1,e2]
  unfold lw
  have:=(sN h).1
  unfold rh at this
  rw[if_neg (by simp[o1]),if_neg (by omega)]
 refine⟨hE,?_⟩
 unfold lz
 rw[if_pos hE,e1,e2]
 rfl
theorem tM:Ba (GC l x y r others) (GJ l x y r others) r others=true:=by
 obtain⟨p1,p2,p3⟩:=sU h
 obtain⟨t0,a,b,c,d,e⟩:=sW h
 rw[p2,p3,show mT l (rg l x y r others)=_ from if_pos p1,show mR l (rg l x y r others)=_ from if_pos p1]
 exact d
theorem tE:C7 l x y r []=0∧GC l x y r []=mJ l x y∧GJ l x y r []=mN l x y:=by
 obtain⟨h1,h2,h3,h4⟩:=ru h
 have hc:=(lX h1).1
 have hb:AQ r []=0:=by
  have:=(Nh h2).1
  unfold AQ
  rw[if_neg (by simp[this])]
  rfl
 have hs:=sN h
 have hP:rg l x y r []=rh l x y:=by
  show Nf (freeL l r []) (rh l x y) (sE l)=_
  rw[QI (t:=0) (by omega) (by omega) (fun j hj=>absurd hj (by omega)),if_pos (show freeL l r [] ((rh l x y+0) % sE l)=true from rfl),Int.add_zero]
  exact Int.emod_eq_of_lt hs.1 hs.2
 have hE:C7 l x y r []=0:=by
  rw[P9 rfl rfl rfl rfl rfl h1 hb,if_neg h3,if_neg]
  show¬rg l x y r [] < 0
  rw[hP];omega
 obtain⟨p1,p2,p3⟩:=sU hE
 rw[hP] at p1 p2 p3
 obtain⟨s1,s2⟩:=sg h
 obtain⟨q1,q2,q3⟩:=qu s1
 rw[s2] at q2 q3
 exact⟨hE,p2.trans q2,p3.trans q3⟩
end
end Go.Eng
end
