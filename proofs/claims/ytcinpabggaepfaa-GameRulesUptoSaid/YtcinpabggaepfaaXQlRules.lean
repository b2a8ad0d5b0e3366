/-
  A part of the proof: plain laws.
-/
import Derived.Test.YtcinpabggaepfaaE3
set_option linter.unusedVariables false
set_option linter.unusedSimpArgs false
noncomputable section
namespace Go.Eng
theorem ox {g:Gm}(h:AR g=true):(¬g.p0=13→g.p0≤AX g.code)∧(¬g.p1=13→g.p1≤AX g.code)∧(¬g.p2=13→g.p2≤AX g.code)∧(¬g.p3=13→g.p3≤AX g.code):=by
 have h:=(Bs h).1
 simp only[BU,CE,Bool.and_eq_true,Bool.or_eq_true,Bool.not_eq_true',decide_eq_true_eq,decide_eq_false_iff_not] at h
 refine⟨?_,?_,?_,?_⟩<;>grind
def rQ (h p q:Int):Int:=(if p≤h+1 then p else h+1)+(if q≤h+1 then q else h+1)
def mj (c h0 h1:Int):Bool:=decide (0≤c)&&decide (c≤3)&&DD c h0 h1
def mf (c h0 h1:Int):Gm:=if mj c h0 h1=true then ⟨c,0,0,-1,-1,0,0,0,0,false,false,false,false,false,false,false,false,h0,h1,false,false,false,0,0,-1,-1⟩ else Jm
def mm (c h0 h1:Int):Int:=if¬(0≤c∧c≤3) then 3 else if mj c h0 h1=true then 0 else 2
def rO (g:Gm)(b:Int):List (List U):=if inS g b=true∧¬Dk g b=true∧¬b=g.ball then [[.int b]] else []
def ra (g:Gm):List (List U):=if g.phase=1∨g.phase=3 then rO g 0++rO g 1++rO g 2++rO g 3 else []
theorem pW {P:List U→Prop}{g:Gm}(h:∀k b f,P (mvU k b f)):∀u∈C2 g,P u:=by
 have hc:∀b,∀u∈Co g b,P u:=by
  intro b u hu
  unfold Co at hu
  split at hu
  ·split at hu
   ·rcases List.mem_cons.1 hu with rfl|hu
    ·exact h _ _ _
    ·obtain rfl:=List.mem_singleton.1 hu;exact h _ _ _
   ·obtain rfl:=List.mem_singleton.1 hu;exact h _ _ _
  ·cases hu
 have h1:∀u∈Ij g,P u:=by
  intro u hu;unfold Ij at hu
  split at hu
  ·obtain rfl:=List.mem_singleton.1 hu;exact h _ _ _
  ·cases hu
 have h2:∀u∈C1 g,P u:=by
  intro u hu;unfold C1 at hu
  split at hu
  ·obtain rfl:=List.mem_singleton.1 hu;exact h _ _ _
  ·cases hu
 have h3:∀u∈C0 g,P u:=by
  intro u hu;unfold C0 at hu
  split at hu
  ·obtain rfl:=List.mem_singleton.1 hu;exact h _ _ _
  ·cases hu
 intro u hu
 unfold C2 at hu
 split at hu
 ·rcases List.mem_cons.1 hu with rfl|hu
  ·exact h _ _ _
  ·obtain rfl:=List.mem_singleton.1 hu;exact h _ _ _
 ·split at hu
  ·cases hu
  ·rcases List.mem_append.1 hu with hu|hu
   ·rcases List.mem_append.1 hu with hu|hu
    ·rcases List.mem_append.1 hu with hu|hu
     ·rcases List.mem_append.1 hu with hu|hu
      ·exact hc _ _ hu
      ·exact hc _ _ hu
     ·exact h1 _ hu
    ·exact h2 _ hu
   ·exact h3 _ hu
theorem nd (g:Gm)(j:Nat):EF (C2 g) j 3=[]:=by
 by_cases h:j < (C2 g).length
 ·exact pW (P:=fun u=>(u.getD 3 default).toL=[]) (fun _ _ _=>rfl) _ (ii h)
 ·unfold EF
  have e:(C2 g).getD j []=[]:=by rw[List.getD_eq_getElem?_getD,List.getElem?_eq_none (by omega)];rfl
  rw[e];rfl
theorem ut (j c:Nat):EF [] j c=[]:=by
 unfold EF
 have e:([]:List (List U)).getD j []=[]:=by rw[List.getD_eq_getElem?_getD,List.getElem?_nil];rfl
 have e2:([]:List U).getD c default=default:=by rw[List.getD_eq_getElem?_getD,List.getElem?_nil];rfl
 rw[e,e2];rfl
theorem vQ (g:Gm):(ra g).length≤4:=by
 have h:∀b,(rO g b).length≤1:=by intro b;unfold rO;split<;>simp
 have h0:=h 0
 have h1:=h 1
 have h2:=h 2
 have h3:=h 3
 unfold ra
 split
 ·simp only[List.length_append];omega
 ·simp
end Go.Eng
end
