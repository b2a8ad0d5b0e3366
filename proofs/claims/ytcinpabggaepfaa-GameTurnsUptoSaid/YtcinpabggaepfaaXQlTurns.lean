/-
  A part of the proof: plain laws.
-/
import Derived.Test.YtcinpabggaepfaaE3
set_option linter.unusedVariables false
set_option linter.unusedSimpArgs false
section
namespace Go.Eng
theorem hoopsS_le (c:Int):6≤hoopsS c∧hoopsS c≤12:=by unfold hoopsS;split<;>omega
theorem ball1_step {h p p0 i b:Int}{n d n0 own peel peg:Bool}(H:ball1 h p n d p0 n0)(hh:6≤h∧h≤12)(hu:b=i→(own=true∨peel=true)→n=true∧¬p=h)(hg:b=i→peg=true→n=true∧p=h):
  ball1 h (if b=i then (if own=true∨peel=true then p+1 else if peg=true then 13 else p) else p) (n&& !(peg&&decide (b=i))) (d&& !own&& !(peg&&decide (b=i))) p0 n0:=by
 unfold ball1 at*
 by_cases hb:b=i
 ·simp only[hb,if_true,decide_true,Bool.and_true] at*
  cases own<;>cases peel<;>cases peg<;>simp at hu hg⊢ <;>grind
 ·simp only[hb,if_false,decide_false,Bool.and_false,Bool.not_false,Bool.and_true] at*
  cases own<;>simp<;>grind
section
variable {g:Gm}{s:St}{k b:Int}
theorem own_of (h:ownS g s k b=true):actS s b=true∧k=2∧¬sPts s b=hoopsS g.code∧nothingS g b=false∧b=g.ball∧s.roquet= -1:=by
 simp only[ownS,Bool.and_eq_true,decide_eq_true_eq,Bool.not_eq_true',decide_eq_false_iff_not] at h;grind
theorem peel_of (h:peelS g s k b=true):actS s b=true∧k=2∧¬sPts s b=hoopsS g.code∧nothingS g b=false∧¬b=g.ball:=by
 simp only[peelS,Bool.and_eq_true,decide_eq_true_eq,Bool.not_eq_true',decide_eq_false_iff_not] at h;grind
theorem peg_of (h:pegS g s k b=true):actS s b=true∧k=3∧sPts s b=hoopsS g.code∧nothingS g b=false∧¬(b=g.ball∧¬s.roquet= -1):=by
 simp only[pegS,Bool.and_eq_true,decide_eq_true_eq,Bool.not_eq_true',decide_eq_false_iff_not,Bool.and_eq_false_iff,Bool.not_eq_false'] at h;grind
theorem hit_of (h:hitS g s k b=true):actS s b=true∧k=1∧s.roquet= -1∧sDead s b=false:=by
 simp only[hitS,Bool.and_eq_true,decide_eq_true_eq,Bool.not_eq_true'] at h;grind
theorem act_of (h:actS s b=true):sIn s b=true∧sWon s=false:=by
 simp only[actS,Bool.and_eq_true,Bool.not_eq_true'] at h;exact h
theorem up_of (h:ownS g s k b=true∨peelS g s k b=true):sIn s b=true∧¬sPts s b=hoopsS g.code∧sWon s=false∧nothingS g b=false∧k=2:=by
 rcases h with h|h
 ·have:=own_of h;have:=act_of this.1;grind
 ·have:=peel_of h;have:=act_of this.1;grind
theorem pg_of (h:pegS g s k b=true):sIn s b=true∧sPts s b=hoopsS g.code∧sWon s=false∧nothingS g b=false∧k=3:=by
 have:=peg_of h;have:=act_of this.1;grind
end
theorem okSt_step {g:Gm}{s:St}(h:OkSt g s){k b:Int}(hb:0≤g.ball∧g.ball≤3)(hk:k=1→¬b=g.ball)(hb2:0≤b∧b≤3):OkSt g (stepS g s k b):=by
 have hh:=hoopsS_le g.code
 have hu:(ownS g s k b=true∨peelS g s k b=true)→sIn s b=true∧¬sPts s b=hoopsS g.code∧sWon s=false∧nothingS g b=false∧k=2:=up_of
 have hp:pegS g s k b=true→sIn s b=true∧sPts s b=hoopsS g.code∧sWon s=false∧nothingS g b=false∧k=3:=pg_of
 have hi:hitS g s k b=true→actS s b=true∧k=1∧s.roquet= -1∧sDead s b=false:=hit_of
 have hi2:hitS g s k b=true→sIn s b=true:=fun h=>(act_of (hit_of h).1).1
 obtain⟨h0,h1,h2,h3,hw,hr,ha,hf⟩:=h
 unfold stepS
 generalize ho:ownS g s k b=own at*
 generalize hpe:peelS g s k b=peel at*
 generalize hpg:pegS g s k b=peg at*
 generalize hht:hitS g s k b=hit at*
 generalize hof:offS g s k b=off at*
 clear ho hpe hpg hht hof
 refine⟨ball1_step h0 hh ?_ ?_,ball1_step h1 hh ?_ ?_,ball1_step h2 hh ?_ ?_,ball1_step h3 hh ?_ ?_,?_,?_,?_,?_⟩
 ·rintro rfl h;have:=hu h;have z:=And.intro this.1 this.2.1;simpa [sIn,sPts,oneB,oneI] using z
 ·rintro rfl h;have:=hp h;have z:=And.intro this.1 this.2.1;simpa [sIn,sPts,oneB,oneI] using z
 ·rintro rfl h;have:=hu h;have z:=And.intro this.1 this.2.1;simpa [sIn,sPts,oneB,oneI] using z
 ·rintro rfl h;have:=hp h;have z:=And.intro this.1 this.2.1;simpa [sIn,sPts,oneB,oneI] using z
 ·rintro rfl h;have:=hu h;have z:=And.intro this.1 this.2.1;simpa [sIn,sPts,oneB,oneI] using z
 ·rintro rfl h;have:=hp h;have z:=And.intro this.1 this.2.1;simpa [sIn,sPts,oneB,oneI] using z
 ·rintro rfl h;have:=hu h;have z:=And.intro this.1 this.2.1;simpa [sIn,sPts,oneB,oneI] using z
 ·rintro rfl h;have:=hp h;have z:=And.intro this.1 this.2.1;simpa [sIn,sPts,oneB,oneI] using z
 ·clear hr ha hf h0 h1 h2 h3 hi hi2
  have hu':(own=true∨peel=true)→sWon s=false:=fun h=>(hu h).2.2.1
  have hp':peg=true→sWon s=false:=fun h=>(hp h).2.2.1
  clear hu hp
  simp only[sWon,Bool.or_eq_false_iff,Bool.and_eq_false_iff,decide_eq_false_iff_not] at hu' hp'
  by_cases hU:own=true∨peel=true
  ·have:=hu' hU;simp only[hU,if_true];grind
  ·simp only[hU,if_false]
   by_cases hP:peg=true
   ·have:=hp' hP;simp only[hP,if_true];grind
   ·simp only[hP];simpa using hw
 ·clear hu hw hf ha h0 h1 h2 h3
  simp only[sIn,sDead,oneB,Bool.and_eq_true,Bool.or_eq_true,decide_eq_true_eq,Bool.and_eq_false_iff,Bool.or_eq_false_iff,decide_eq_false_iff_not,Bool.not_eq_true'] at*
  cases hit with
  |true=>
   have e1:=hi rfl
   have e2:=hi2 rfl
   have e3:peg=false:=by cases peg with|false=>rfl|true=>have:=hp rfl;omega
   subst e3
   simp only[if_true,Bool.false_eq_true]
   right
   clear hp hi hi2
   grind
  |false=>
   simp only[Bool.false_eq_true,if_false]
   clear hi hi2
   by_cases hP:peg=true∧b=s.roquet
   ·left;rw[if_pos hP]
   ·rw[if_neg hP]
    rcases hr with hr|hr
    ·left;exact hr
    ·right;clear hp;grind
 ·clear hu hp hi hi2 hw hr hf h0 h1 h2 h3 hk hb2 hh
  simp only[sDead,oneB,Bool.and_eq_true,Bool.or_eq_true,decide_eq_true_eq] at*
  grind
 ·intro hhf
  have e:=hf hhf
  have hn:nothingS g b=false→¬b % 2=g.side:=by intro h;simp only[nothingS,hhf,Bool.true_and,decide_eq_false_iff_not] at h;exact h
  have hu':(own=true∨peel=true)→¬b % 2=g.side:=fun h=>hn (hu h).2.2.2.1
  have hp':peg=true→¬b % 2=g.side:=fun h=>hn (hp h).2.2.2.1
  clear hu hp hi hi2 hw hr ha h0 h1 h2 h3 hn hf
  by_cases hU:own=true∨peel=true
  ·have:=hu' hU;simp only[hU,if_true];grind
  ·simp only[hU,if_false]
   by_cases hP:peg=true
   ·have:=hp' hP;simp only[hP,if_true];grind
   ·simp only[hP];simpa using e
end Go.Eng
end
section
namespace Go.Eng
set_option maxHeartbeats 1000000
theorem legal_of {g:Gm}(hb:Base g)(hp:0≤g.phase∧g.phase≤4)(hc:(¬g.phase=4∧Open g)∨(g.phase=4∧¬((g.p0=13∧g.p2=13)∧(g.p1=13∧g.p3=13))∧((g.p0=13∧g.p2=13∧g.winner=0)∨(g.p1=13∧g.p3=13∧g.winner=1))))(hs:sidesS g=true)(ht:turnS g=true→turnsS g=true)(hr:turnS g=false→restsS g=true):legalS g=true:=by
 have e1:numbersS g=true:=by
  obtain⟨h1,h2,h3,h4,h5,h6,h7,h8,h9,h10,h11⟩:=hb
  simp only[numbersS,Bool.and_eq_true,Bool.or_eq_true,Bool.not_eq_true',decide_eq_true_eq]
  exact⟨⟨⟨⟨⟨⟨⟨⟨⟨⟨⟨⟨⟨h1.1,h1.2⟩,hp.1⟩,hp.2⟩,h2.1⟩,h2.2⟩,h3.1⟩,h3.2⟩,h4⟩,h5⟩,h6⟩,h7⟩,h8⟩,h9⟩
 have e2:casesS g=true:=by
  simp only[casesS,wonaS,wonbS,Bool.and_eq_true,Bool.or_eq_true,Bool.not_eq_true',decide_eq_true_eq,Bool.and_eq_false_iff,decide_eq_false_iff_not]
  refine⟨⟨⟨hb.ca,hb.cb⟩,?_⟩,?_⟩
  ·rcases hc with⟨_,h⟩|h
   ·have:=h.a;grind
   ·grind
  ·rcases hc with⟨h0,h⟩|h
   ·have:=h.a;have:=h.b;have:=h.win;grind
   ·grind
 simp only[legalS,e1,e2,hs,Bool.true_and,Bool.and_eq_true,Bool.or_eq_true,Bool.not_eq_true']
 cases h:turnS g with
 |true=>exact .inl ⟨rfl,ht h⟩
 |false=>exact .inr ⟨rfl,hr h⟩
theorem ballS_dead {h p:Int}{n d:Bool}(hb:ballS h p n d=true):ballS h p n false=true:=by
 simp only[ballS,Bool.and_eq_true,Bool.or_eq_true,Bool.not_eq_true',decide_eq_true_eq] at*; grind
theorem end_legal {g:Gm}(hb:Base g)(ho:Open g)(hs:(bisqS g.code=true∧4≤g.turns)∨g.side=(g.turns+1) % 2)(hl:g.ball= -1∨(0≤g.ball∧g.ball≤3∧g.ball % 2=g.side)):legalS (endS g)=true:=by
 have hb':=hb
 obtain⟨h1,h2,h3,h4,h5,h6,h7,h8,h9,h10,h11⟩:=hb
 refine legal_of ⟨h1,?_,h3,h4,ballS_dead h5,ballS_dead h6,ballS_dead h7,ballS_dead h8,?_,h10,h11⟩ ?_ ?_ ?_ (fun h=>?_) (fun _=>?_)
 ·simp only[endS];omega
 ·simp only[endS,gainS,liftaS,liftbS]
  by_cases hc:g.code=1
  ·exact .inl hc
  ·right;rcases h9 with h9|h9
   ·exact absurd h9 hc
   ·simp[hc,h9]
 ·simp[endS]
 ·left;exact⟨by simp[endS],ho.a,ho.b,ho.win⟩
 ·simp only[sidesS,turnS,Bool.and_eq_true,Bool.or_eq_true,Bool.not_eq_true',decide_eq_true_eq,decide_eq_false_iff_not]
  simp only[endS]
  rcases hs with hs|hs
  ·left;exact hs
  ·right;simp;omega
 ·simp[endS,turnS] at h
 ·have hL:lastS g= -1∨(lastS g=g.ball∧bisqS g.code=true∧inS g g.ball=true∧4≤g.turns∧¬g.ball= -1):=by
   unfold lastS
   by_cases h:g.ball= -1
   ·rw[if_pos h];exact .inl rfl
   ·rw[if_neg h]
    by_cases h':bisqS g.code=true∧inS g g.ball=true∧4≤g.turns
    ·rw[if_pos h'];exact .inr ⟨rfl,h'.1,h'.2.1,h'.2.2,h⟩
    ·rw[if_neg h'];exact .inl rfl
  simp only[restsS,Bool.and_eq_true,Bool.or_eq_true,Bool.not_eq_true',decide_eq_true_eq,decide_eq_false_iff_not]
  refine⟨by simp[endS],?_⟩
  show lastS g= -1∨((((0:Int)=0∧bisqS g.code=true)∧4≤g.turns)∧inS g (lastS g)=true)∧¬lastS g % 2=1 - g.side
  rcases hL with h|⟨h,h1,h2,h3,h4⟩
  ·exact .inl h
  ·rw[h];right;exact⟨⟨⟨⟨rfl,h1⟩,h3⟩,h2⟩,by omega⟩
end Go.Eng
end
section
namespace Go.Eng
set_option maxHeartbeats 1000000
theorem ball1_start {h p i c:Int}{n d:Bool}(hb:ballS h p n d=true)(hc:c=i→n=true):ball1 h p n (d||decide (c=i)) p n:=by
 simp only[ballS,Bool.and_eq_true,Bool.or_eq_true,Bool.not_eq_true',decide_eq_true_eq,Bool.not_eq_true,decide_eq_false_iff_not] at hb
 unfold ball1
 by_cases e:c=i
 ·have:=hc e;simp only[e,decide_true,Bool.or_true];grind
 ·simp only[e,decide_false,Bool.or_false];grind
theorem start_ok {g:Gm}(h:legalS g=true)(ht:turnS g=true):OkSt g (startS g):=by
 obtain⟨ho,hs,hb,hi,hd,-,-,-,-,h2,h3⟩:=turn_facts h ht
 obtain⟨-,-,-,-,b0,b1,b2,b3,-⟩:=legal_base h
 have hc:∀i:Int,0≤i→croqS g=i→inS g i=true∧¬i=g.ball∧deadS g i=false:=by
  intro i hi e
  unfold croqS at e
  by_cases hp:g.phase=2
  ·rw[if_pos hp] at e;rw[←e];exact h2 hp
  ·rw[if_neg hp] at e;omega
 refine⟨ball1_start b0 ?_,ball1_start b1 ?_,ball1_start b2 ?_,ball1_start b3 ?_,?_,.inl rfl,?_,?_⟩
 ·intro e;have:=(hc 0 (by omega) e).1;show g.n0=true;simpa [inS,oneB] using this
 ·intro e;have:=(hc 1 (by omega) e).1;show g.n1=true;simpa [inS,oneB] using this
 ·intro e;have:=(hc 2 (by omega) e).1;show g.n2=true;simpa [inS,oneB] using this
 ·intro e;have:=(hc 3 (by omega) e).1;show g.n3=true;simpa [inS,oneB] using this
 ·rintro⟨h,-⟩;exact ho.a h
 ·have e0:=hc 0 (by omega)
  have e1:=hc 1 (by omega)
  have e2:=hc 2 (by omega)
  have e3:=hc 3 (by omega)
  clear hc
  simp only[startS,sDead,deadS,oneB,Bool.and_eq_true,Bool.or_eq_true,Bool.or_eq_false_iff,Bool.and_eq_false_iff,decide_eq_true_eq,decide_eq_false_iff_not] at*
  grind
 ·intro _;exact⟨fun _=>⟨rfl,rfl⟩,fun _=>⟨rfl,rfl⟩⟩
theorem iter_ok {g:Gm}(h:legalS g=true)(ht:turnS g=true){l:List (List U)}:∀n:Nat,(∀j:Nat,j < n→inS g (cellI l j 1)=true∧¬(cellI l j 0=1∧cellI l j 1=g.ball))→OkSt g (iterS g l n)
 |0,_=>start_ok h ht
 |n+1,he=>by
  have hb:=(turn_facts h ht).2.2.1
  have e:=he n (by omega)
  refine okSt_step (iter_ok h ht n fun j hj=>he j (by omega)) ⟨hb.1,hb.2.1⟩ (fun h1 h2=>e.2 ⟨h1,h2⟩) ?_
  have:=e.1
  simp only[inS,oneB,Bool.and_eq_true,Bool.or_eq_true,decide_eq_true_eq] at this
  omega
theorem events_in {g:Gm}{l:List (List U)}(he:eventsS g l=true)(hf:faultS l=false)(j:Nat)(hj:j < l.length):inS g (cellI l j 1)=true∧¬(cellI l j 0=1∧cellI l j 1=g.ball):=by
 have h:=eventsS_iff.1 he j (by omega)
 obtain⟨h1,h2,h3,h4⟩:=h
 have h5:¬cellI l j 0=5:=by
  intro e
  have:=h3 e
  have e2:j=l.length - 1:=by omega
  simp only[faultS,Bool.and_eq_false_iff,decide_eq_false_iff_not] at hf
  rcases hf with hf|hf
  ·omega
  ·rw[←e2] at hf;exact hf e
 exact h4 h5
theorem fin_ok {g:Gm}{l:List (List U)}(h:legalS g=true)(ht:turnS g=true)(he:eventsS g l=true)(hf:faultS l=false):OkSt g (iterS g l l.length):=
 iter_ok h ht _ fun j hj=>events_in he hf j hj
theorem ballS_of {h p p0:Int}{n d n0:Bool}(hb:ball1 h p n d p0 n0):ballS h p n d=true:=by
 unfold ball1 at hb
 simp only[ballS,Bool.and_eq_true,Bool.or_eq_true,Bool.not_eq_true',decide_eq_true_eq,Bool.not_eq_true,decide_eq_false_iff_not]
 grind
theorem come_of {n m n0 m0:Bool}{p q p0 q0 h:Int}{d e:Bool}(h1:ball1 h p n d p0 n0)(h2:ball1 h q m e q0 m0):comeS n m p q=comeS n0 m0 p0 q0:=by
 have e1:(n||decide (p=13))=(n0||decide (p0=13)):=by
  refine Bool.eq_iff_iff.2 ?_
  simp only[Bool.or_eq_true,decide_eq_true_eq];exact h1.2.2.1
 have e2:(m||decide (q=13))=(m0||decide (q0=13)):=by
  refine Bool.eq_iff_iff.2 ?_
  simp only[Bool.or_eq_true,decide_eq_true_eq];exact h2.2.2.1
 unfold comeS;rw[e1,e2]
theorem put_base {g:Gm}{s:St}(h:Base g)(ho:OkSt g s):Base (putS g s):=
 ⟨h.code,h.side,h.turns,h.halves,ballS_of ho.b0,ballS_of ho.b1,ballS_of ho.b2,ballS_of ho.b3,h.lift,(come_of ho.b0 ho.b2).trans h.ca,(come_of ho.b1 ho.b3).trans h.cb⟩
theorem won_iff {s:St}:sWon s=true↔((s.p0=13∧s.p2=13)∨(s.p1=13∧s.p3=13)):=by
 simp only[sWon,Bool.or_eq_true,Bool.and_eq_true,decide_eq_true_eq]
theorem points_le {g:Gm}{s:St}(ho:OkSt g s)(b:Int):pointsS g b≤sPts s b:=by
 have:=ho.b0.1;have:=ho.b1.1;have:=ho.b2.1;have:=ho.b3.1
 unfold pointsS sPts oneI
 split<;>(try split)<;>(try split)<;>assumption
theorem fin_legal {g:Gm}{s:St}(h:legalS g=true)(ht:turnS g=true)(ho:OkSt g s):legalS (finS g s)=true:=by
 obtain⟨hop,hs,hb,hi,hd,hb0,hb1,hl,hh,h2,h3⟩:=turn_facts h ht
 have hbase:=put_base (legal_base h) ho
 have hbase':=hbase
 obtain⟨c1,c2,c3,c4,c5,c6,c7,c8,c9,c10,c11⟩:=hbase'
 have hside:sidesS g=true:=legal_side h
 unfold finS
 by_cases hw:sWon s=true
 ·rw[if_pos hw]
  have hw':=won_iff.1 hw
  refine legal_of ⟨c1,c2,c3,c4,ballS_dead c5,ballS_dead c6,ballS_dead c7,ballS_dead c8,c9,c10,c11⟩ (by simp) (.inr ⟨rfl,ho.won,?_⟩) ?_ (fun ht=>?_) (fun _=>?_)
  ·show (s.p0=13∧s.p2=13∧_=(0:Int))∨(s.p1=13∧s.p3=13∧_=(1:Int))
   have:=ho.won
   simp only[putS]
   by_cases hx:s.p0=13∧s.p2=13
   ·rw[if_pos hx];left;exact⟨hx.1,hx.2,rfl⟩
   ·rw[if_neg hx];right;rcases hw' with h'|h'
    ·exact absurd h' hx
    ·exact⟨h'.1,h'.2,rfl⟩
  ·simp only[sidesS,Bool.or_eq_true,Bool.and_eq_true];right;exact⟨.inl rfl,.inl rfl⟩
  ·simp[turnS] at ht
  ·simp[restsS]
 ·rw[if_neg hw]
  have hopen:Open (putS g s):=by
   have:=fun z=>hw (won_iff.2 z)
   exact⟨fun h=>this (.inl h),fun h=>this (.inr h),hop.win⟩
  have hend:legalS (endS (putS g s))=true:=end_legal hbase hopen hs (.inr hb)
  by_cases hov:s.over=true∨¬sIn s g.ball=true
  ·rw[if_pos hov];exact hend
  ·rw[if_neg hov]
   have hin:sIn s g.ball=true:=by
    cases e:sIn s g.ball with
    |true=>rfl
    |false=>exact absurd (.inr (by rw[e];decide)) hov
   have hal:sDead s g.ball=false:=by
    cases e:sDead s g.ball with
    |false=>rfl
    |true=>exact absurd e ho.alive
   have hpl:=points_le ho g.ball
   have hsid:∀p t:Int,(p=2∨p=3)→sidesS { putS g s with phase:=p,taken:=t }=true:=by
    intro p t hp
    simp only[sidesS,Bool.or_eq_true,Bool.and_eq_true,decide_eq_true_eq,Bool.not_eq_true',decide_eq_false_iff_not]
    rcases hs with hs|hs
    ·left;exact hs
    ·right
     exact⟨.inr hs,.inl (by rcases hp with rfl|rfl<;>decide)⟩
   have htu:∀p t:Int,(p=2∧sIn s t=true∧¬t=g.ball∧sDead s t=false)∨(p=3∧t= -1)→turnsS { putS g s with phase:=p,taken:=t }=true:=by
    intro p t hp
    have hh':(!g.half||bisqS g.code)=true:=by cases e:g.half with|false=>rfl|true=>rw[hh e];rfl
    simp only[turnsS,Bool.or_eq_true,Bool.and_eq_true,decide_eq_true_eq,Bool.not_eq_true',decide_eq_false_iff_not]
    refine⟨⟨⟨⟨⟨⟨⟨hin,hb.2.2⟩,hal⟩,hb0⟩,Int.le_trans hb1 hpl⟩,hl⟩,by show g.half=false∨bisqS g.code=true;simpa [Bool.or_eq_true,Bool.not_eq_true'] using hh'⟩,?_⟩
    rcases hp with⟨rfl,p1,p2,p3⟩|⟨rfl,rfl⟩
    ·left;exact⟨⟨⟨rfl,p1⟩,p2⟩,p3⟩
    ·right;exact⟨by decide,rfl⟩
   have key:∀p t:Int,((p=2∧sIn s t=true∧¬t=g.ball∧sDead s t=false)∨(p=3∧t= -1))→legalS { putS g s with phase:=p,taken:=t }=true:=by
    intro p t hp
    have hp':p=2∨p=3:=by rcases hp with h|h;exact .inl h.1;exact .inr h.1
    refine legal_of ⟨c1,c2,c3,c4,c5,c6,c7,c8,c9,c10,c11⟩ (by show 0≤p∧p≤4;omega) (.inl ⟨by show¬p=4;omega,hopen.a,hopen.b,hopen.win⟩) (hsid p t hp') (fun _=>htu p t hp) (fun hx=>?_)
    have:turnS { putS g s with phase:=p,taken:=t }=true:=by
     simp only[turnS,Bool.or_eq_true,decide_eq_true_eq];rcases hp' with h|h
     ·exact .inl (.inr h)
     ·exact .inr h
    rw[this] at hx;cases hx
   by_cases hr:¬s.roquet= -1
   ·rw[if_pos hr]
    have e:=key 2 s.roquet
    rcases ho.roq with h'|⟨_,_,h1,h2,h3⟩
    ·exact absurd h' hr
    ·refine e (.inl ⟨rfl,h1,h3,?_⟩)
     cases e:sDead s s.roquet with
     |false=>rfl
     |true=>exact absurd e h2
   ·rw[if_neg hr]
    by_cases hn:¬s.run=true∧croqS g= -1
    ·rw[if_pos hn];exact hend
    ·rw[if_neg hn];exact key 3 (-1) (.inr ⟨rfl,rfl⟩)
theorem stroke_legal {g:Gm}{l:List (List U)}(h:legalS g=true)(ht:turnS g=true)(he:eventsS g l=true):legalS (strokeS g l)=true:=by
 unfold strokeS
 cases hf:faultS l with
 |true=>
  obtain⟨hop,hs,hb,_⟩:=turn_facts h ht
  exact end_legal (legal_base h) hop hs (.inr hb)
 |false=>exact fin_legal h ht (fin_ok h ht he hf)
end Go.Eng
end
section
namespace Go.Eng
set_option maxHeartbeats 1000000
theorem ballS_in {h p:Int}{n d:Bool}(hb:ballS h p n d=true)(hp:¬p=13)(d':Bool):ballS h p true d'=true:=by
 simp only[ballS,Bool.and_eq_true,Bool.or_eq_true,Bool.not_eq_true',decide_eq_true_eq] at*; grind
theorem follow_le {t:Int}(h:0≤t∧t≤1073741824):0≤followS t∧followS t≤1073741824∧(4≤t→4≤followS t)∧(t < 4→followS t=t+1)∧(followS t+1) % 2=t % 2:=by
 unfold followS;split<;>omega
theorem begin_base {g:Gm}(h:legalS g=true)(ht:turnS g=false){b:Int}(hb:0≤b∧b≤3)(hm:(inS g b=true∧4≤g.turns)∨(g.turns < 4∧inS g b=false∧¬pointsS g b=13∧b % 2=g.turns % 2)):Base (beginS g b):=by
 obtain⟨h1,h2,h3,h4,h5,h6,h7,h8,h9,h10,h11⟩:=legal_base h
 obtain⟨q0,q1,q2,q3⟩:=in_points h
 have hf:=follow_le h3
 have key:∀{i p:Int} {n d:Bool},ballS (hoopsS g.code) p n d=true→(b=i→¬p=13)→ballS (hoopsS g.code) p (n||decide (b=i)) false=true:=by
  intro i p n d hB hi
  by_cases e:b=i
  ·simp only[e,decide_true,Bool.or_true];exact ballS_in hB (hi e) false
  ·simp only[e,decide_false,Bool.or_false];exact ballS_dead hB
 have hnp:(b=0→¬g.p0=13)∧(b=1→¬g.p1=13)∧(b=2→¬g.p2=13)∧(b=3→¬g.p3=13):=by
  simp only[inS,oneB,pointsS,oneI,Bool.and_eq_true,Bool.or_eq_true,decide_eq_true_eq] at hm
  grind
 refine⟨h1,by show 0≤b % 2∧b % 2≤1;omega,⟨hf.1,hf.2.1⟩,h4,key h5 hnp.1,key h6 hnp.2.1,key h7 hnp.2.2.1,key h8 hnp.2.2.2,h9,?_,?_⟩
 ·show comeS (g.n0||decide (b=0)) (g.n2||decide (b=2)) g.p0 g.p2=(firstS (followS g.turns)+1) / 2
  simp only[inS,oneB,pointsS,oneI,Bool.and_eq_true,Bool.or_eq_true,Bool.or_eq_false_iff,Bool.and_eq_false_iff,decide_eq_true_eq,decide_eq_false_iff_not] at hm
  unfold comeS bit firstS at*
  obtain rfl|rfl|rfl|rfl:b=0∨b=1∨b=2∨b=3:=by omega
  all_goals simp at hm hnp⊢
  all_goals rcases hm with hm|hm
  all_goals grind
 ·show comeS (g.n1||decide (b=1)) (g.n3||decide (b=3)) g.p1 g.p3=firstS (followS g.turns) / 2
  simp only[inS,oneB,pointsS,oneI,Bool.and_eq_true,Bool.or_eq_true,Bool.or_eq_false_iff,Bool.and_eq_false_iff,decide_eq_true_eq,decide_eq_false_iff_not] at hm
  unfold comeS bit firstS at*
  obtain rfl|rfl|rfl|rfl:b=0∨b=1∨b=2∨b=3:=by omega
  all_goals simp at hm hnp⊢
  all_goals rcases hm with hm|hm
  all_goals grind
end Go.Eng
end
section
namespace Go.Eng
set_option maxHeartbeats 1000000
theorem points_nonneg {g:Gm}(h:legalS g=true)(b:Int):0≤pointsS g b:=by
 obtain⟨⟨h0,_⟩,⟨h1,_⟩,⟨h2,_⟩,⟨h3,_⟩⟩:=legalS_pts h
 unfold pointsS oneI
 split<;>(try split)<;>(try split)<;>assumption
theorem begin_legal {g:Gm}(h:legalS g=true)(ht:turnS g=false)(hp:¬g.phase=4){b:Int}(hb:0≤b∧b≤3)(hm:(inS g b=true∧4≤g.turns)∨(g.turns < 4∧inS g b=false∧¬pointsS g b=13∧b % 2=g.turns % 2))
  (hs:(bisqS g.code=true∧4≤g.turns)∨b % 2=g.turns % 2) {e0 e1:Int} {l0 l1 hf:Bool} (he:halvesS g.code e0 e1=true) (hl:g.code=1∨(l0=false∧l1=false)) (hh:hf=true→bisqS g.code=true):
  legalS { beginS g b with h0:=e0,h1:=e1,l0:=l0,l1:=l1,half:=hf }=true:=by
 obtain⟨c1,c2,c3,c4,c5,c6,c7,c8,c9,c10,c11⟩:=begin_base h ht hb hm
 have ho:=legal_open h hp
 have hfl:=follow_le (legal_base h).turns
 have hpn:=points_nonneg h b
 refine legal_of ⟨c1,c2,c3,he,c5,c6,c7,c8,hl,c10,c11⟩ (by show (0:Int)≤1∧(1:Int)≤4;decide) (.inl ⟨by show¬(1:Int)=4;decide,ho.a,ho.b,ho.win⟩) ?_ (fun _=>?_) (fun hx=>?_)
 ·simp only[sidesS,Bool.or_eq_true,Bool.and_eq_true,decide_eq_true_eq]
  rcases hs with hs|hs
  ·left;exact⟨hs.1,hfl.2.2.1 hs.2⟩
  ·right;refine⟨.inr ?_,.inl rfl⟩
   show b % 2=(followS g.turns+1) % 2
   rw[hfl.2.2.2.2];exact hs
 ·simp only[turnsS,Bool.or_eq_true,Bool.and_eq_true,decide_eq_true_eq,Bool.not_eq_true']
  refine⟨⟨⟨⟨⟨⟨⟨?_,rfl⟩,?_⟩,hpn⟩,Int.le_refl _⟩,rfl⟩,?_⟩,.inr ⟨rfl,rfl⟩⟩
  ·show oneB b (g.n0||decide (b=0)) (g.n1||decide (b=1)) (g.n2||decide (b=2)) (g.n3||decide (b=3))=true
   simp only[oneB,Bool.or_eq_true,Bool.and_eq_true,decide_eq_true_eq];omega
  ·show oneB b false false false false=false
   simp[oneB]
  ·show hf=false∨bisqS g.code=true
   cases hf with
   |false=>exact .inl rfl
   |true=>exact .inr (hh rfl)
 ·simp[turnS,beginS] at hx
theorem halves_lt {c a b x y:Int}(h:halvesS c a b=true)(hx:0≤x∧x≤a)(hy:0≤y∧y≤b):halvesS c x y=true:=by
 simp only[halvesS,Bool.and_eq_true,Bool.or_eq_true,decide_eq_true_eq] at*
 obtain⟨⟨⟨⟨h1,h2⟩,h3⟩,h4⟩,h5⟩:=h
 refine⟨⟨⟨⟨by omega,by omega⟩,by omega⟩,by omega⟩,?_⟩
 rcases h5 with h5|h5
 ·exact .inl h5
 ·right;omega
theorem halves_pos {c a b:Int}(h:halvesS c a b=true):0≤a∧0≤b∧(0 < a→bisqS c=true)∧(0 < b→bisqS c=true):=by
 simp only[halvesS,Bool.and_eq_true,Bool.or_eq_true,decide_eq_true_eq] at h
 obtain⟨⟨⟨⟨h1,h2⟩,h3⟩,h4⟩,h5⟩:=h
 refine⟨h1,h3,fun p=>?_,fun p=>?_⟩<;>(rcases h5 with h5|h5;exact h5;omega)
theorem play_legal {g:Gm}{k b:Int}{f:Bool}{l:List (List U)}(h:legalS g=true)(ha:allowS g k b f=true)(he:k=2→eventsS g l=true):legalS (playS g k b l)=true:=by
 have hB:=legal_base h
 have hball:=allow_ball h ha
 have hin:=in_points h
 have hsd:=legal_side h
 rcases (allow_cases h).1 ha with⟨rfl,-,-,ht⟩|⟨rfl,-,-,ht⟩|⟨rfl,ht,h0,hbs,hm,-⟩|⟨rfl,-,ht,h0,rfl,hl,hh⟩|⟨rfl,-,ht,h0,rfl,hl,hh⟩
 ·exact stroke_legal h ht (he rfl)
 ·show legalS (endS (passedS g))=true
  rcases ht with ht|⟨ht,h0,h4⟩
  ·obtain⟨hop,hs,hb,_⟩:=turn_facts h ht
   have e:passedS g=g:=by
    have:¬g.phase=0:=by intro e;simp[turnS,e] at ht
    unfold passedS;rw[if_neg this]
   rw[e];exact end_legal hB hop hs (.inr hb)
  ·have hfl:=follow_le hB.turns
   have e:passedS g={ g with turns:=followS g.turns }:=by unfold passedS;rw[if_pos h0]
   have hr:=rest_facts h ht
   rw[e]
   obtain⟨c1,c2,c3,c4,c5,c6,c7,c8,c9,c10,c11⟩:=hB
   have ho:=legal_open h (by omega)
   refine end_legal ⟨c1,c2,⟨hfl.1,hfl.2.1⟩,c4,c5,c6,c7,c8,c9,?_,?_⟩ ⟨ho.a,ho.b,ho.win⟩ ?_ (.inl hr.1)
   ·show _=(firstS (followS g.turns)+1) / 2
    rw[c10];have:=hfl.2.2.1 h4;unfold firstS;split<;>split<;>omega
   ·show _=firstS (followS g.turns) / 2
    rw[c11];have:=hfl.2.2.1 h4;unfold firstS;split<;>split<;>omega
   ·simp only[sidesS,Bool.and_eq_true,Bool.or_eq_true,Bool.not_eq_true',decide_eq_true_eq,decide_eq_false_iff_not] at hsd
    rcases hsd with hsd|⟨-,hsd⟩
    ·left;exact⟨hsd.1,hfl.2.2.1 hsd.2⟩
    ·right;show g.side=(followS g.turns+1) % 2
     rw[hfl.2.2.2.2];rcases hsd with hsd|hsd
     ·exact absurd h0 hsd
     ·exact hsd
 ·show legalS (liftOff (beginS g b))=true
  have hb:0≤b∧b≤3:=hball.2.2.1 (by decide) (by decide)
  have hs:(bisqS g.code=true∧4≤g.turns)∨b % 2=g.turns % 2:=by
   have h2:=hB.side
   have e:b % 2=g.side:=by omega
   simp only[sidesS,Bool.and_eq_true,Bool.or_eq_true,Bool.not_eq_true',decide_eq_true_eq,decide_eq_false_iff_not] at hsd
   rcases hsd with hsd|⟨-,hsd⟩
   ·exact .inl hsd
   ·right;rcases hsd with hsd|hsd
    ·exact absurd h0 hsd
    ·omega
  have hm':(inS g b=true∧4≤g.turns)∨(g.turns < 4∧inS g b=false∧¬pointsS g b=13∧b % 2=g.turns % 2):=by
   simp only[mayS,Bool.or_eq_true,Bool.and_eq_true,Bool.not_eq_true',decide_eq_true_eq,decide_eq_false_iff_not] at hm
   rcases hm with hm|hm
   ·right;refine⟨hm.1.1,hm.1.2,hm.2,?_⟩
    rcases hs with hs|hs
    ·have:=hs.2;omega
    ·exact hs
   ·left;exact⟨hm.2,hm.1⟩
  have hl:=hB.lift
  exact begin_legal h ht (by omega) hb hm' hs hB.halves (l0:=g.l0&& !decide (b % 2=0)) (l1:=g.l1&& !decide (b % 2=1)) (hf:=false) (by rcases hl with hl|hl;exact .inl hl;right;simp[hl]) (fun h=>by cases h)
 ·show legalS (spend 2 (beginS g g.lastb))=true
  have hb:0≤g.lastb∧g.lastb≤3:=hball.2.2.1 (by decide) (by decide)
  obtain⟨-,-,-,-,-,-,-,-,hr⟩:=rest_facts h ht
  rcases hr with hr|⟨-,hq,h4,hi,-⟩
  ·exact absurd hr hl
  have hp:=halves_pos hB.halves
  refine begin_legal h ht (by omega) hb (.inl ⟨hi,h4⟩) (.inl ⟨hq,h4⟩) (e0:=if g.lastb % 2=0 then g.h0 - 2 else g.h0) (e1:=if g.lastb % 2=1 then g.h1 - 2 else g.h1) (hf:=false) (halves_lt hB.halves ?_ ?_) hB.lift (fun h=>by cases h)
  ·unfold halfS at hh;split<;>(try split at hh)<;>omega
  ·unfold halfS at hh;split<;>(try split at hh)<;>omega
 ·show legalS { spend 1 (beginS g g.lastb) with half:=true }=true
  have hb:0≤g.lastb∧g.lastb≤3:=hball.2.2.1 (by decide) (by decide)
  obtain⟨-,-,-,-,-,-,-,-,hr⟩:=rest_facts h ht
  rcases hr with hr|⟨-,hq,h4,hi,-⟩
  ·exact absurd hr hl
  have hp:=halves_pos hB.halves
  refine begin_legal h ht (by omega) hb (.inl ⟨hi,h4⟩) (.inl ⟨hq,h4⟩) (e0:=if g.lastb % 2=0 then g.h0 - 1 else g.h0) (e1:=if g.lastb % 2=1 then g.h1 - 1 else g.h1) (hf:=true) (halves_lt hB.halves ?_ ?_) hB.lift (fun _=>hq)
  ·unfold halfS at hh;split<;>(try split at hh)<;>omega
  ·unfold halfS at hh;split<;>(try split at hh)<;>omega
end Go.Eng
namespace Go.Eng
end Go.Eng
end
section
namespace Go.Eng
theorem err_zero {g:Gm}{k b:Int}{f:Bool}{l:List (List U)}(h:errS g k b f l=0):legalS g=true∧allowS g k b f=true∧l.length≤24∧(¬k=2→l.length=0)∧eventsS g l=true:=by
 unfold errS at h
 split at h
 ·omega
 ·rename_i h1
  split at h
  ·omega
  ·rename_i h2
   split at h
   ·omega
   ·rename_i h3
    split at h
    ·omega
    ·rename_i h4
     refine⟨by simpa using h1,by simpa using h2,by omega,fun hk=>?_,?_⟩
     ·by_cases hz:0 < l.length
      ·exact absurd (.inl ⟨hk,hz⟩) h4
      ·omega
     ·cases he:eventsS g l with
      |true=>rfl
      |false=>exact absurd (.inr he) h4
theorem fin_turns (g:Gm)(s:St):(finS g s).turns=g.turns∧(finS g s).h0=g.h0∧(finS g s).h1=g.h1∧((finS g s).phase=0→(finS g s).side=1 - g.side)∧((finS g s).half=true↔g.half=true∧¬(finS g s).phase=0∧¬(finS g s).phase=4):=by
 unfold finS
 split
 ·simp[putS]
 ·split
  ·simp[endS,putS]
  ·split
   ·simp[putS]
   ·split
    ·simp[endS,putS]
    ·simp[putS]
theorem stroke_turns (g:Gm)(l:List (List U)):(strokeS g l).turns=g.turns∧(strokeS g l).h0=g.h0∧(strokeS g l).h1=g.h1∧((strokeS g l).phase=0→(strokeS g l).side=1 - g.side)∧((strokeS g l).half=true↔g.half=true∧¬(strokeS g l).phase=0∧¬(strokeS g l).phase=4):=by
 unfold strokeS
 split
 ·simp[endS]
 ·exact fin_turns g _
theorem play_turns {g:Gm}{k b:Int}{f:Bool}{l:List (List U)}{n:Gm}(he:errS g k b f l=0)(hn:n=playS g k b l):
  (1≤k∧k≤5)∧n.turns=(if (k=1∨k=4∨k=5)∨(k=3∧g.phase=0) then followS g.turns else g.turns)∧
  (k=1∨k=4∨k=5→n.phase=1∧n.ball=b∧n.side=b % 2∧0≤b∧b≤3)∧(n.phase=0→n.side=1 - g.side)∧
  (g.h0+g.h1 - n.h0 - n.h1=if k=4 then 2 else if k=5 then 1 else 0)∧
  (n.half=true↔k=5∨(g.half=true∧k=2∧¬n.phase=0∧¬n.phase=4)):=by
 obtain⟨hl,ha,-,-,-⟩:=err_zero he
 obtain⟨k1,k5,hb,ht⟩:=allow_ball hl ha
 subst hn
 refine⟨⟨k1,k5⟩,?_⟩
 have hk:k=1∨k=2∨k=3∨k=4∨k=5:=by omega
 rcases hk with rfl|rfl|rfl|rfl|rfl
 ·have:=hb (by omega) (by omega)
  simp[playS,liftOff,beginS,this]
  omega
 ·obtain⟨h1,h2,h3,h4,h5⟩:=stroke_turns g l
  simp only[playS,show¬(2:Int)=1 by omega,if_false,if_true]
  rw[h1,h2,h3]
  refine⟨by simp,by simp,h4,by simp;omega,?_⟩
  rw[h5];simp
 ·simp only[playS,show¬(3:Int)=1 by omega,show¬(3:Int)=2 by omega,if_false,if_true]
  simp[endS,passedS]
  omega
 ·have:=hb (by omega) (by omega)
  simp only[playS,show¬(4:Int)=1 by omega,show¬(4:Int)=2 by omega,show¬(4:Int)=3 by omega,if_false,if_true]
  have h2:b % 2=0∨b % 2=1:=by omega
  rcases h2 with h2|h2<;>simp[spend,beginS,this,h2]<;>omega
 ·have:=hb (by omega) (by omega)
  simp only[playS,show¬(5:Int)=1 by omega,show¬(5:Int)=2 by omega,show¬(5:Int)=3 by omega,show¬(5:Int)=4 by omega,if_false]
  have h2:b % 2=0∨b % 2=1:=by omega
  rcases h2 with h2|h2<;>simp[spend,beginS,this,h2]<;>omega
end Go.Eng
end
section
namespace Go.Eng
theorem legal_res {g:Gm}{k b:Int}{f:Bool}{l:List (List U)}(he:errS g k b f l=0):legalS (playS g k b l)=true:=by
 obtain⟨hl,ha,-,-,hv⟩:=err_zero he
 exact play_legal hl ha fun _=>hv
structure PtsOk (g n:Gm) (k:Int) (flt:Bool):Prop where
 code:n.code=g.code
 a0:g.p0≤n.p0∧(n.n0=g.n0∨k=1∨n.p0=13)
 a1:g.p1≤n.p1∧(n.n1=g.n1∨k=1∨n.p1=13)
 a2:g.p2≤n.p2∧(n.n2=g.n2∨k=1∨n.p2=13)
 a3:g.p3≤n.p3∧(n.n3=g.n3∨k=1∨n.p3=13)
 same:¬k=2∨flt=true→n.p0=g.p0∧n.p1=g.p1∧n.p2=g.p2∧n.p3=g.p3
 ins:flt=true→n.n0=g.n0∧n.n1=g.n1∧n.n2=g.n2∧n.n3=g.n3
 half:g.half=true→(g.side=0→n.p0=g.p0∧n.p2=g.p2)∧(g.side=1→n.p1=g.p1∧n.p3=g.p3)
end Go.Eng
end
