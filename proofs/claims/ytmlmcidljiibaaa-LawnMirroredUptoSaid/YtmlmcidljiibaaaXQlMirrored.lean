/-
  A part of the proof: plain laws.
-/
import Derived.Test.YtmlmcidljiibaaaE4
import Derived.Test.YtmlmcidljiibaaaE5
set_option linter.unusedVariables false
set_option linter.unusedSimpArgs false
noncomputable section
namespace Go.Eng
theorem iy {l:Ln}{ax ay bx by_ r:Int}{others:List (List U)}(h:Cf l ax ay bx by_ r others=0):
  AO l=0∧AF ax ay=true∧AF bx by_=true∧Bn r=true∧others.length≤12∧others.all Aq=true:=by
 unfold Cf A7 AT at h
 grind
end Go.Eng
end
noncomputable section
namespace Go.Eng
def EJ (l:List (List U))(n:Int):Bool:=l.any fun u=>decide (uI u 0=n)
theorem Qv {l:List (List U)}{j:Nat}(hj:j < l.length):l.getD j []=l[j]:=by
 rw[List.getD_eq_getElem?_getD,List.getElem?_eq_getElem hj]
 rfl
theorem gN {l:List (List U)}{n:Int}:EJ l n=true↔∃i:Nat,i < l.length∧AA l i 0=n:=by
 unfold EJ
 rw[List.any_eq_true]
 constructor
 ·rintro⟨u,hu,h⟩
  obtain⟨j,hj,rfl⟩:=List.getElem_of_mem hu
  refine⟨j,hj,?_⟩
  show uI (l.getD j []) 0=n
  rw[Qv hj]
  exact of_decide_eq_true h
 ·rintro⟨j,hj,h⟩
  refine⟨l[j],List.getElem_mem hj,?_⟩
  have h:uI (l.getD j []) 0=n:=h
  rw[Qv hj] at h
  exact decide_eq_true h
theorem nH {l:Ln}(h:AO l=0):(1≤l.nx∧l.nx≤16)∧(1≤l.ny∧l.ny≤16)∧(l.cells.length:Int)=l.nx*l.ny:=(iG h).2.2.2.1
open Go
end Go.Eng
end
noncomputable section
namespace Go.Eng
end Go.Eng
end
noncomputable section
namespace Go.Eng
def freeL (l:Ln)(r:Int)(others:List (List U))(n:Int):Bool:=Aw l.yard (l.wide - 2*l.yard) (l.long - 2*l.yard) r others n
section
variable {l:Ln}{x y r:Int}{others:List (List U)}(h:C8 l x y r others=0)
include h
end
end Go.Eng
end
noncomputable section
namespace Go.Eng
theorem On {ax ay bx by_ r:Int}{d:List (List U)}{n k:Nat}(hk:k < n):EJ (Av ax ay bx by_ r d n) k=CR ax ay bx by_ (AA d k 0) (AA d k 1) (r+AA d k 2):=by
 refine Bool.eq_iff_iff.2 ?_
 unfold EJ Av
 rw[List.any_eq_true]
 constructor
 ·rintro⟨u,hu,h⟩
  obtain⟨i,hi,e⟩:=List.mem_filterMap.1 hu
  split at e
  ·rename_i hn
   cases e
   have:i=k:=by
    have h2:(i:Int)=k:=of_decide_eq_true h
    omega
   subst this
   exact hn
  ·cases e
 ·intro h
  refine⟨[.int k],List.mem_filterMap.2 ⟨k,List.mem_range.2 hk,if_pos h⟩,?_⟩
  exact decide_eq_true rfl
theorem mi:∀(h:List (List U)) (n:Nat) (c:Nat),n < h.length→c < 2→(h.flatMap Bv).getD (2*n+c) []=(Bv (h.getD n [])).getD c []
 |[],n,_,hn,_=>by simp at hn
 |u::h,0,c,_,hc=>by
  rw[List.flatMap_cons,List.getD_eq_getElem?_getD,List.getElem?_append_left (by rw[aa];omega),←List.getD_eq_getElem?_getD]
  simp
 |u::h,n+1,c,hn,hc=>by
  rw[List.flatMap_cons,List.getD_eq_getElem?_getD,List.getElem?_append_right (by rw[aa];omega),aa,show 2*(n+1)+c - 2=2*n+c by omega,←List.getD_eq_getElem?_getD,mi h n c (by simpa using hn) hc]
  simp
theorem nE {l:Ln}{n c k:Nat}(hn:n < l.hoops.length)(hc:c < 2):AA (AN l++[]) (2*n+c) k=uI ((Bv (l.hoops.getD n [])).getD c []) k:=by
 have hl:2*n+c < (l.hoops.flatMap Bv).length:=by rw[DQ];omega
 rw[List.append_nil]
 unfold AN CS
 rw[GX hl]
 unfold AA
 rw[mi _ _ _ hn hc]
 rfl
theorem JA {l:Ln}{ax ay bx by_ r:Int}{others:List (List U)}(h:Cf l ax ay bx by_ r others=0):E3 l ax ay bx by_ r others=Av ax ay bx by_ r (AN l++others) (AN l++others).length:=if_pos h
end Go.Eng
end
noncomputable section
namespace Go.Eng
open Go
theorem ni (n:Nat):n ^^^ 1=if n % 2=0 then n+1 else n - 1:=by
 have h1:(n ^^^ 1) / 2=n / 2:=by rw[Nat.xor_div_two];simp
 have h2:(n ^^^ 1) % 2=(n % 2+1) % 2:=by
  have h:=Nat.xor_mod_two_pow (a:=n) (b:=1) (n:=1)
  rw[show (2:Nat) ^ 1=2 from rfl] at h
  rw[h]
  rcases Nat.mod_two_eq_zero_or_one n with k|k<;>rw[k]<;>rfl
 split<;>omega
theorem xor1 {i:Int}(h0:0≤i)(h1:i≤4611686018427387904):Cq .xor .i64 i 1=if i % 2=0 then i+1 else i - 1:=by
 obtain⟨n,rfl⟩:∃n:Nat,i=n:=⟨i.toNat,by omega⟩
 have e:(BitVec.ofInt 64 (n:Int) ^^^ BitVec.ofInt 64 (1:Int)).toNat=n ^^^ 1:=by
  rw[BitVec.toNat_xor,BitVec.ofInt_natCast,show (1:Int)=((1:Nat):Int) from rfl,BitVec.ofInt_natCast,BitVec.toNat_ofNat,BitVec.toNat_ofNat,Nat.mod_eq_of_lt (by omega),Nat.mod_eq_of_lt (by omega)]
 show IntKind.i64.wrap (((BitVec.ofInt 64 (n:Int) ^^^ BitVec.ofInt 64 (1:Int)).toNat:Nat):Int)=_
 rw[e,ni]
 generalize hm:(if n % 2=0 then n+1 else n - 1)=m
 have h2:m≤4611686018427387905∧(m:Int)=if (n:Int) % 2=0 then (n:Int)+1 else (n:Int) - 1:=by
  rw[←hm]
  split<;>split<;>omega
 rw[←h2.2,EU .i64 _ (by show (-9223372036854775808:Int)≤_;omega) (by show _≤(9223372036854775807:Int);omega)]
def kF (w:Int)(u:List U):List U:= .int (w - uI u 0)::u.drop 1
def jy (w:Int)(h:List (List U))(k:Nat):List (List U):=(h.take k).map (kF w)++h.drop k
theorem nd (w:Int)(u:List U):uI (kF w u) 0=w - uI u 0:=rfl
theorem km (w:Int)(u:List U)(c:Nat):(kF w u).getD (c+1) default=u.getD (c+1) default:=by
 unfold kF
 simp[List.getD_eq_getElem?_getD,List.getElem?_drop,Nat.add_comm]
section
variable {w:Int}{h:List (List U)}
theorem lZ (k:Nat):(jy w h k).length=h.length:=by
 unfold jy
 rw[List.length_append,List.length_map,List.length_take,List.length_drop]
 omega
theorem nO {k:Nat}(hk:k < h.length){v:Int}(hv:v=w - AA h k 0):kW (jy w h k) k 0 [.int v]=jy w h (k+1):=by
 obtain⟨a,u,b,rfl,rfl⟩:∃a u b,h=a++u::b∧a.length=k:=
  ⟨h.take k,h[k],h.drop (k+1),by rw[←List.drop_eq_getElem_cons hk,List.take_append_drop],by rw[List.length_take];omega⟩
 have e0:(a++u::b).getD a.length []=u:=by rw[List.getD_eq_getElem?_getD,List.getElem?_append_right (Nat.le_refl _),Nat.sub_self];rfl
 have e4:v=w - uI u 0:=by rw[hv];unfold AA uI;rw[e0]
 have m1:jy w (a++u::b) a.length=a.map (kF w)++u::b:=by unfold jy;rw[List.take_left,List.drop_left]
 have m2:jy w (a++u::b) (a.length+1)=a.map (kF w)++kF w u::b:=by
  unfold jy
  rw[show a++u::b=(a++[u])++b by simp,show a.length+1=(a++[u]).length by simp,List.take_left,List.drop_left,List.map_append]
  simp
 have e3:(a.map (kF w)++u::b).getD a.length []=u:=by rw[List.getD_eq_getElem?_getD,List.getElem?_append_right (by simp),List.length_map,Nat.sub_self];rfl
 rw[m1,m2]
 unfold kW
 rw[e3,List.set_append_right _ _ (by simp),List.length_map,Nat.sub_self,e4]
 rfl
theorem nc:jy w h 0=h:=by simp[jy]
theorem mf {j:Nat}(hj:j < h.length):(jy w h h.length).getD j []=kF w (h.getD j []):=by
 unfold jy
 rw[List.take_length,List.drop_length,List.append_nil,List.getD_eq_getElem?_getD,List.getElem?_map,List.getElem?_eq_getElem hj,Qv hj]
 rfl
end
def dy (l:Ln):Ln:={ l with hoops:=jy l.wide l.hoops l.hoops.length,px:=l.wide - l.px }
theorem nR (w ax ay bx by_ cx cy s:Int):CR (w - ax) ay (w - bx) by_ (w - cx) cy s=CR ax ay bx by_ cx cy s:=by
 rw[I4 rfl rfl rfl rfl rfl rfl,I4 rfl rfl rfl rfl rfl rfl]
 have e1:(w - bx - (w - ax))*(w - cx - (w - ax))+(by_ - ay)*(cy - ay)=(bx - ax)*(cx - ax)+(by_ - ay)*(cy - ay):=by grind
 have e2:(w - bx - (w - ax))*(w - bx - (w - ax))+(by_ - ay)*(by_ - ay)=(bx - ax)*(bx - ax)+(by_ - ay)*(by_ - ay):=by grind
 have e3:((w - bx - (w - ax))*(cy - ay) - (by_ - ay)*(w - cx - (w - ax)))*((w - bx - (w - ax))*(cy - ay) - (by_ - ay)*(w - cx - (w - ax)))=((bx - ax)*(cy - ay) - (by_ - ay)*(cx - ax))*((bx - ax)*(cy - ay) - (by_ - ay)*(cx - ax)):=by grind
 have e4:(w - ax - (w - cx))*(w - ax - (w - cx))+(ay - cy)*(ay - cy)=(ax - cx)*(ax - cx)+(ay - cy)*(ay - cy):=by grind
 have e5:(w - bx - (w - cx))*(w - bx - (w - cx))+(by_ - cy)*(by_ - cy)=(bx - cx)*(bx - cx)+(by_ - cy)*(by_ - cy):=by grind
 rw[e1,e2,e3,e4,e5]
theorem ly {a b:List (List U)}{j c:Nat}(hj:j < a.length):AA (a++b) j c=AA a j c:=by
 have e:(a++b).getD j []=a.getD j []:=by rw[List.getD_eq_getElem?_getD,List.getElem?_append_left hj,←List.getD_eq_getElem?_getD]
 unfold AA
 rw[e]
theorem lP {a b:List (List U)}{j n c:Nat}(hn:a.length=n):AA (a++b) (n+j) c=AA b j c:=by
 have e:(a++b).getD (n+j) []=b.getD j []:=by rw[List.getD_eq_getElem?_getD,List.getElem?_append_right (by omega),←List.getD_eq_getElem?_getD,show n+j - a.length=j by omega]
 unfold AA
 rw[e]
theorem j5 (l:Ln):(AN l).length=2*l.hoops.length+1:=by
 unfold AN CS
 rw[List.length_append,DQ]
 rfl
theorem kZ {l:Ln}{o:List (List U)}(c:Nat):AA (AN l++o) (2*l.hoops.length) c=uI (MJ l.px l.py l.pr) c:=by
 rw[ly (by rw[j5];omega)]
 unfold AN CS
 have:=lP (a:=l.hoops.flatMap Bv) (b:=[MJ l.px l.py l.pr]) (j:=0) (c:=c) (DQ _)
 rw[Nat.add_zero] at this
 rw[this]
 rfl
theorem lI {l:Ln}{o:List (List U)}{n c k:Nat}(hn:n < l.hoops.length)(hc:c < 2):AA (AN l++o) (2*n+c) k=uI ((Bv (l.hoops.getD n [])).getD c []) k:=by
 have h:=nE (l:=l) (n:=n) (c:=c) (k:=k) hn hc
 have hl:2*n+c < (AN l).length:=by rw[j5];omega
 rw[ly hl] at h⊢
 exact h
theorem nP {w:Int}{u:List U}{c:Nat}(hc:c < 2)(k:Nat):uI ((Bv (kF w u)).getD (if uB u 4=false then 1 - c else c) []) k=if k=0 then w - uI ((Bv u).getD c []) 0 else uI ((Bv u).getD c []) k:=by
 have h1:uI (kF w u) 1=uI u 1:=congrArg U.toI (km w u 0)
 have h2:uI (kF w u) 2=uI u 2:=congrArg U.toI (km w u 1)
 have h3:uI (kF w u) 3=uI u 3:=congrArg U.toI (km w u 2)
 have h4:uB (kF w u) 4=uB u 4:=congrArg U.toB (km w u 3)
 unfold Bv
 rw[nd,h1,h2,h3,h4]
 generalize uI u 0=x
 generalize uI u 1=y
 generalize uI u 2=gap
 generalize uI u 3=wire
 have hc2:c=0∨c=1:=by omega
 cases hb:uB u 4 with
 |true=>
  rcases hc2 with rfl|rfl<;>(cases k with
   |zero=>rfl
   |succ k=>rfl)
 |false=>
  rcases hc2 with rfl|rfl<;>(cases k with
   |zero=>simp[IY,MJ,uI,U.toI];omega
   |succ k=>rfl)
def kS (l:Ln)(i:Nat):Nat:=if i < 2*l.hoops.length∧Ll l.hoops (i / 2) 4=false then (if i % 2=0 then i+1 else i - 1) else i
theorem nW {l:Ln}{o o':List (List U)}(hlen:o'.length=o.length)(ho:∀q:Nat,q < o.length→AA o' q 0=l.wide - AA o q 0∧AA o' q 1=AA o q 1∧AA o' q 2=AA o q 2){i:Nat}(hi:i < (AN l++o).length):
  kS l i < (AN (dy l)++o').length∧AA (AN (dy l)++o') (kS l i) 0=l.wide - AA (AN l++o) i 0∧AA (AN (dy l)++o') (kS l i) 1=AA (AN l++o) i 1∧AA (AN (dy l)++o') (kS l i) 2=AA (AN l++o) i 2:=by
 have hh:(dy l).hoops.length=l.hoops.length:=lZ _
 rw[List.length_append,j5] at hi
 rw[List.length_append,j5,hh]
 by_cases h1:i < 2*l.hoops.length
 ·obtain⟨n,c,hc,rfl⟩:∃n c,c < 2∧i=2*n+c:=⟨i / 2,i % 2,by omega,by omega⟩
  have hn:n < l.hoops.length:=by omega
  have hd:(2*n+c) / 2=n:=by omega
  have e:kS l (2*n+c)=2*n+(if uB (l.hoops.getD n []) 4=false then 1 - c else c):=by
   unfold kS
   rw[hd]
   have:Ll l.hoops n 4=uB (l.hoops.getD n []) 4:=rfl
   rw[this]
   cases hb:uB (l.hoops.getD n []) 4 with
   |true=>rw[if_neg (fun a=>by cases a.2),if_neg (fun a=>by cases a)]
   |false=>
    rw[if_pos ⟨h1,rfl⟩,if_pos rfl]
    split<;>omega
  have hc':(if uB (l.hoops.getD n []) 4=false then 1 - c else c) < 2:=by split<;>omega
  have hg:(dy l).hoops.getD n []=kF l.wide (l.hoops.getD n []):=mf hn
  have key:∀k,AA (AN (dy l)++o') (kS l (2*n+c)) k=if k=0 then l.wide - AA (AN l++o) (2*n+c) 0 else AA (AN l++o) (2*n+c) k:=fun k=>by
   rw[e,lI (by omega) hc',hg,nP hc,lI hn hc,lI hn hc]
  exact⟨by rw[e];omega,key 0,key 1,key 2⟩
 ·have e:kS l i=i:=by
   unfold kS
   rw[if_neg fun a=>h1 a.1]
  rw[e]
  refine⟨by omega,?_⟩
  by_cases h2:i=2*l.hoops.length
  ·subst h2
   have hp:∀c,AA (AN (dy l)++o') (2*l.hoops.length) c=uI (MJ (l.wide - l.px) l.py l.pr) c:=fun c=>by
    have:=kZ (l:=dy l) (o:=o') c
    rw[hh] at this
    exact this
   rw[hp,hp,hp,kZ,kZ,kZ]
   exact⟨rfl,rfl,rfl⟩
  ·obtain⟨q,rfl⟩:∃q,i=2*l.hoops.length+1+q:=⟨i - (2*l.hoops.length+1),by omega⟩
   have hr:∀c,AA (AN (dy l)++o') (2*l.hoops.length+1+q) c=AA o' q c:=fun c=>lP (by rw[j5,hh])
   rw[hr,hr,hr,lP (j5 l),lP (j5 l),lP (j5 l)]
   exact ho q (by omega)
theorem nD {l:Ln}{ax ay bx by_ r:Int}{o o':List (List U)}(h1:Cf l ax ay bx by_ r o=0)(h2:Cf (dy l) (l.wide - ax) ay (l.wide - bx) by_ r o'=0)(hlen:o'.length=o.length)
  (ho:∀q:Nat,q < o.length→AA o' q 0=l.wide - AA o q 0∧AA o' q 1=AA o q 1∧AA o' q 2=AA o q 2) {i:Nat} (hi:i < 2*l.hoops.length+1+o.length):
  EJ (E3 l ax ay bx by_ r o) i=EJ (E3 (dy l) (l.wide - ax) ay (l.wide - bx) by_ r o') (kS l i):=by
 have hi':i < (AN l++o).length:=by rw[List.length_append,j5];omega
 obtain⟨k1,k2,k3,k4⟩:=nW hlen ho hi'
 rw[JA h1,JA h2,On hi',On k1,k2,k3,k4,nR]
theorem mM {l:Ln}{h x y r:Int}{fwd:Bool}(h1:Gr l h x y r=0)(h2:Gr (dy l) h (l.wide - x) y r=0)(ha:Ll l.hoops h.toNat 4=false):JH (dy l) h fwd (l.wide - x) y r=JH l h fwd x y r:=by
 have hb:0≤h∧h < l.hoops.length:=by
  unfold Gr at h1
  split at h1
  ·omega
  ·split at h1
   ·omega
   ·omega
 unfold JH
 rw[if_pos h1,if_pos h2]
 have hg:(dy l).hoops.getD h.toNat []=kF l.wide (l.hoops.getD h.toNat []):=mf (by omega)
 have c0:AA (dy l).hoops h.toNat 0=l.wide - AA l.hoops h.toNat 0:=by unfold AA;rw[hg];rfl
 have cs:∀c,AA (dy l).hoops h.toNat (c+1)=AA l.hoops h.toNat (c+1):=fun c=>by unfold AA;rw[hg,km]
 have c4:Ll (dy l).hoops h.toNat 4=Ll l.hoops h.toNat 4:=by unfold Ll;rw[hg,km]
 rw[c0,cs 0,cs 1,cs 2,c4,ha]
 unfold Pb
 simp only[Bool.false_eq_true,if_false]
 generalize AA l.hoops h.toNat 0=x0
 generalize AA l.hoops h.toNat 2=gap
 have e:(gap / 2≤l.wide - x - (l.wide - x0)∨gap / 2≤ -(l.wide - x - (l.wide - x0)))↔(gap / 2≤x - x0∨gap / 2≤ -(x - x0)):=by omega
 simp only[e]
theorem nZ {l:Ln}(h:AO l=0): -4194304≤l.px∧l.px≤4194304:=by
 have h1:=(cX h (2*l.hoops.length) (by rw[j5];omega)).1
 have e:∀c,AA (AN l) (2*l.hoops.length) c=uI (MJ l.px l.py l.pr) c:=fun c=>by
  have:=kZ (l:=l) (o:=[]) c
  rw[List.append_nil] at this
  exact this
 rw[e,e] at h1
 exact (Af.1 h1).1
theorem ng {nm:ByteArray}{w lo y:Int}{h h':List (List U)}{px px' py pr nx ny:Int}{c c':List (List U)}(h1:h'=jy w h h.length)(h2:px'=w - px)(h3:c'=c):Ln.mk nm w lo y h' px' py pr nx ny c'=dy (Ln.mk nm w lo y h px py pr nx ny c):=by
 subst h1 h2 h3
 rfl
theorem nC {l:Ln}{i k d x:Int}{a b:Bool}(h0:0≤i)(h1:i≤4611686018427387904)(hd:d=i / 2)(ha:a=true↔(i < 2*l.hoops.length∧¬b=true))(hb:i < 2*l.hoops.length→b=Ll l.hoops d.toNat 4)(hx:x=Cq .xor .i64 i 1)(hk:k=if a=true then x else i):k=(kS l i.toNat:Nat):=by
 rw[xor1 h0 h1] at hx
 have hd2:d.toNat=i.toNat / 2:=by omega
 unfold kS
 rw[←hd2]
 by_cases h2:i < 2*l.hoops.length
 ·rw[←hb h2]
  cases hbb:b with
  |true=>
   have:¬a=true:=fun h=>(ha.1 h).2 hbb
   rw[if_neg this] at hk
   rw[if_neg (by simp)]
   omega
  |false=>
   have:a=true:=ha.2 ⟨h2,by simp[hbb]⟩
   rw[if_pos this] at hk
   rw[if_pos ⟨by omega,rfl⟩,hk,hx]
   split<;>split<;>omega
 ·have:¬a=true:=fun h=>h2 (ha.1 h).1
  rw[if_neg this] at hk
  rw[if_neg (fun z=>h2 (by omega))]
  omega
theorem lA {l:Ln}{ax ay bx by_ r h:Int}{o:List (List U)}(hw:Cf l ax ay bx by_ r o=0)(h0:0≤h)(h1:h < l.hoops.length):Gr l h ax ay r=0:=by
 obtain⟨a1,a2,a3,a4,a5,a6⟩:=iy hw
 unfold Gr
 rw[if_neg (by simp[a1]),if_neg (by omega),if_neg (by simp[a2]),if_neg (by simp[a4])]
end Go.Eng
end
