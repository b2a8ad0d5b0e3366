/-
  A part of the proof: K_lGradesd K_lGrades.
-/
import Derived.Test.YtikbgnmcfncnaaaE4
import Derived.Test.YtikbgnmcfncnaaaE6
import Derived.Test.YtikbgnmcfncnaaaKCount
import Derived.Test.YtikbgnmcfncnaaaKgraded
import Derived.Test.YtikbgnmcfncnaaaKworks
set_option linter.unusedVariables false
set_option linter.unusedSimpArgs false
noncomputable section
open Go Go.Eng Go.Proofs
set_option maxHeartbeats 4000000
set_option maxRecDepth 100000
namespace Go.Eng
def KG:List Kd:=[.str,k64,k64,.str,k64,k64,.bool]
def QJ:List AC:=((H8 Try.prog 9 Try.f4.params.toList 0).map (·.1)).getD []
def S6:List En:=[⟨7,.slen,[.e 0]⟩,
 ⟨8,.lt,[.c (.int 100),.e 7]⟩,
 ⟨9,.not,[.e 8]⟩,
 ⟨10,.slen,[.e 3]⟩,
 ⟨11,.lt,[.c (.int 100),.e 10]⟩,
 ⟨12,.or,[.e 8,.e 11]⟩,
 ⟨13,.outB "works.0" GJ,[]⟩,
 ⟨14,.not,[.e 12]⟩,
 ⟨15,.outS "Count.0" Hy,[.e 0,.e 1,.e 2,.e 3,.e 4,.e 5,.e 6]⟩,
 ⟨16,.outI "Count.1" H6,[.e 0,.e 1,.e 2,.e 3,.e 4,.e 5,.e 6]⟩,
 ⟨17,.outI "Count.2" Hx,[.e 0,.e 1,.e 2,.e 3,.e 4,.e 5,.e 6]⟩,
 ⟨18,.outS "Count.3" Hf,[.e 0,.e 1,.e 2,.e 3,.e 4,.e 5,.e 6]⟩,
 ⟨19,.outI "Count.4" Hw,[.e 0,.e 1,.e 2,.e 3,.e 4,.e 5,.e 6]⟩,
 ⟨20,.outI "Count.5" Hk,[.e 0,.e 1,.e 2,.e 3,.e 4,.e 5,.e 6]⟩,
 ⟨21,.outI "Count.6" Ht,[.e 0,.e 1,.e 2,.e 3,.e 4,.e 5,.e 6]⟩,
 ⟨22,.ne,[.e 21,.c (.int 0)]⟩]
def TD:List En:=[⟨23,.and,[.e 14,.e 22]⟩,
 ⟨24,.outB "works.0" GJ,[]⟩,
 ⟨25,.and,[.e 14,.n 22]⟩,
 ⟨26,.outB "graded.0" ED,[.e 15,.e 16,.e 17]⟩,
 ⟨27,.and,[.e 25,.e 26]⟩,
 ⟨28,.outB "graded.0" ED,[.e 18,.e 19,.e 20]⟩,
 ⟨29,.or,[.n 26,.n 28]⟩,
 ⟨30,.and,[.e 25,.e 29]⟩,
 ⟨31,.and,[.e 25,.n 29]⟩,
 ⟨32,.outB "graded.0" ED,[.e 0,.e 1,.e 2]⟩,
 ⟨33,.and,[.e 31,.e 32]⟩,
 ⟨34,.le,[.e 17,.e 2]⟩,
 ⟨35,.or,[.n 32,.e 34]⟩,
 ⟨36,.and,[.e 31,.e 35]⟩,
 ⟨37,.outB "graded.0" ED,[.e 3,.e 4,.e 5]⟩,
 ⟨38,.and,[.e 36,.e 37]⟩]
def St:List En:=[⟨39,.le,[.e 5,.e 20]⟩,
 ⟨40,.or,[.n 37,.e 39]⟩,
 ⟨41,.and,[.e 35,.e 40]⟩,
 ⟨42,.and,[.e 31,.e 41]⟩,
 ⟨43,.outB "works.0" GJ,[]⟩,
 ⟨44,.and,[.e 41,.e 43]⟩,
 ⟨45,.ite .b,[.e 30,.c (.bool false),.e 44]⟩,
 ⟨46,.or,[.e 30,.e 31]⟩,
 ⟨47,.ite .b,[.e 23,.e 24,.e 45]⟩,
 ⟨48,.or,[.e 23,.e 46]⟩,
 ⟨49,.ite .b,[.e 12,.e 13,.e 47]⟩,
 ⟨50,.or,[.e 12,.e 48]⟩]
def Kk:List En:=S6++(TD++(St))
def SS:List ObE:=[]
def aV:List Rf:=[.e 49]
theorem bZ:ZF 7 (Zg Try.prog [(16,HK),(18,Jg),(15,LE)] AW 3000 20 4 QJ 7)=some (49,(Kk).map En.be,SS.map ObE.be):=by kernel_rfl
theorem Z2 {T:Tab}(hz0:(S T 0).size≤140737488355328)(hz3:(S T 3).size≤140737488355328)(A0:AH T Kk):
  ((B T 49)=(true)):=by
 obtain⟨F0,A0⟩:=A0.cut
 obtain⟨F1,A0⟩:=A0.cut
 have F2:=A0;clear A0
 ·obtain⟨-,-,-,-,-,-,e13,e14,e15,e16,e17,e18,e19,e20,e21,e22,-⟩:=F0
  obtain⟨e23,e24,-,e26,-,e28,e29,e30,-,e32,-,e34,e35,-,e37,-⟩:=F1
  obtain⟨e39,e40,e41,-,e43,e44,e45,-,e47,-,e49,-⟩:=F2
  replace e13:B T 13=(true):=e13
  replace e15:S T 15=(if A8 (S T 0) (I T 1) (I T 2) (S T 3) (I T 4) (I T 5)=0 then (S T 0) else (⟨#[]⟩:ByteArray)):=e15
  replace e16:I T 16=(if A8 (S T 0) (I T 1) (I T 2) (S T 3) (I T 4) (I T 5)=0 then BV (I T 1) (Bb (I T 1) (I T 4) (B T 6)) else 0):=e16
  replace e17:I T 17=(if A8 (S T 0) (I T 1) (I T 2) (S T 3) (I T 4) (I T 5)=0 then Cs (BV (I T 1) (Bb (I T 1) (I T 4) (B T 6))) (I T 2) else 0):=e17
  replace e18:S T 18=(if A8 (S T 0) (I T 1) (I T 2) (S T 3) (I T 4) (I T 5)=0 then (S T 3) else (⟨#[]⟩:ByteArray)):=e18
  replace e19:I T 19=(if A8 (S T 0) (I T 1) (I T 2) (S T 3) (I T 4) (I T 5)=0 then BV (I T 4) (-(Bb (I T 1) (I T 4) (B T 6))) else 0):=e19
  replace e20:I T 20=(if A8 (S T 0) (I T 1) (I T 2) (S T 3) (I T 4) (I T 5)=0 then Cs (BV (I T 4) (-(Bb (I T 1) (I T 4) (B T 6)))) (I T 5) else 0):=e20
  replace e21:I T 21=(A8 (S T 0) (I T 1) (I T 2) (S T 3) (I T 4) (I T 5)):=e21
  replace e24:B T 24=(true):=e24
  replace e26:B T 26=(D2 (I T 16) (I T 17)):=e26
  replace e28:B T 28=(D2 (I T 19) (I T 20)):=e28
  replace e32:B T 32=(D2 (I T 1) (I T 2)):=e32
  replace e37:B T 37=(D2 (I T 4) (I T 5)):=e37
  replace e43:B T 43=(true):=e43
  simp only[AI,AS,zN,zC,zR,zL,zS] at e14 e22 e23 e29 e30 e34 e35 e39 e40 e41 e44 e45 e47 e49
  by_cases hp:A8 ((S T 0)) (I T 1) (I T 2) ((S T 3)) (I T 4) (I T 5)=0
  ·rw[if_pos hp] at e15 e16 e17 e18 e19 e20
   obtain⟨p1,p2,p3⟩:=Li hp
   rw[Fa] at p1 p2
   have g0:=JQ (I T 1) (I T 4) ((B T 6))
   have m1:(I T 1)≤I T 16:=by rw[e16];unfold BV;omega
   have m2:(I T 19)≤I T 4:=by rw[e19];unfold BV;omega
   rw[←e16] at e17
   rw[←e19] at e20
   have h26:(B T 26)=true:=by rw[e26,e17];exact My p1.2.2.1 p1.2.2.2
   have h28:(B T 28)=true:=by rw[e28,e20];exact My p2.2.2.1 p2.2.2.2
   have h35:(B T 35)=true:=by
    rw[e35]
    by_cases h:(B T 32)=true
    ·exact .inr (e34.2 (by rw[e17];exact cS (by rw[←e32];exact h) m1))
    ·exact .inl (by simpa using h)
   have h40:(B T 40)=true:=by
    rw[e40]
    by_cases h:(B T 37)=true
    ·exact .inr (e39.2 (by rw[e20];exact dI (by rw[←e37];exact h) m2))
    ·exact .inl (by simpa using h)
   have h44:=e44.2 ⟨e41.2 ⟨h35,h40⟩,e43⟩
   have n29:¬B T 29=true:=by rw[e29,h26,h28];simp
   have h30:(B T 30)=false:=by simpa using fun h=>n29 (e30.1 h).2
   have n22:¬B T 22=true:=fun h=>e22.1 h (e21.trans hp)
   have h23:(B T 23)=false:=by simpa using fun h=>n22 (e23.1 h).2
   have h47:=e47.2 (.inr ⟨h23,e45.2 ⟨h30,h44⟩⟩)
   rw[e49]
   cases (B T 12)
   ·exact .inr ⟨rfl,h47⟩
   ·exact .inl ⟨rfl,e13⟩
  ·rw[e49]
   by_cases h12:(B T 12)=true
   ·exact .inl ⟨h12,e13⟩
   ·have h12:(B T 12)=false:=by simpa using h12
    have h23:=e23.2 ⟨e14.2 h12,e22.2 (fun h=>hp (e21.symm.trans h))⟩
    exact .inr ⟨h12,e47.2 (.inl ⟨h23,e24⟩)⟩
theorem U2:H8 Try.prog 9 Try.f4.params.toList 0=some (QJ,KG):=by kernel_rfl
theorem Wr:∀p∈([(16,HK),(18,Jg),(15,LE)]:List (FuncId × AV)),Ai Try.prog p.1 p.2:=by simp only[List.forall_mem_cons];exact⟨U6,an,eS,fun _ h=>absurd h (by simp)⟩
theorem ZH:∀T:Tab,AM T (BJ 0 KG)→Bnd T 0 KG→Ui 1048576 T 0 KG→Ae T ((Kk).map En.be)→IF T SS∧B T 49=true:=by
 intro T hS hBd hBl hE
 obtain⟨hz0,-,-,hz3,-⟩:=hBd
 replace hz0:(S T 0).size≤140737488355328:=hz0
 replace hz3:(S T 3).size≤140737488355328:=hz3
 clear hBl
 skip
 obtain⟨A0,hO⟩:=BI (tys:=[.b]) (rs:=aV) hS (by kernel_rfl) hE
 have q0:=Z2 hz0 hz3 A0
 exact⟨trivial,q0⟩
end Go.Eng
end
