/-
  A part of the proof: K_chkNewc0.
-/
import Derived.Test.YtikbgnmcfncnaaaXQlBegins
import Derived.Test.YtikbgnmcfncnaaaKchkNewd
set_option linter.unusedVariables false
set_option linter.unusedSimpArgs false
noncomputable section
namespace Go.Eng
section
open Go Go.Eng Go.Proofs
set_option maxHeartbeats 4000000
set_option maxRecDepth 100000
theorem rc {T:Tab}(hF:AH T py)(k1:(I T 1)=0)(k2:(I T 2)=0)(k3:(I T 3)=(-1))(k4:(I T 4)=(-1))(k5:(I T 5)=0)(k6:(I T 6)=0)(k7:(I T 7)=0)(k8:(I T 8)=0)(k9:(B T 9)=false)(k10:(B T 10)=false)(k11:(B T 11)=false)(k12:(B T 12)=false)(k13:(B T 13)=false)(k14:(B T 14)=false)(k15:(B T 15)=false)(k16:(B T 16)=false)(k19:(B T 19)=false)(k20:(B T 20)=false)(k21:(B T 21)=false)(k22:(I T 22)=0)(k23:(I T 23)=0)(k24:(I T 24)=(-1))(k25:(I T 25)=(-1))(k0:(I T 0)=0)(hH:qD T):pu T:=by
 obtain⟨ho,he⟩:=qR (K:=[(1,.i,.c (.int 0)),(2,.i,.c (.int 0)),(3,.i,.c (.int (-1))),(4,.i,.c (.int (-1))),(5,.i,.c (.int 0)),(6,.i,.c (.int 0)),(7,.i,.c (.int 0)),(8,.i,.c (.int 0)),(9,.b,.c (.bool false)),(10,.b,.c (.bool false)),(11,.b,.c (.bool false)),(12,.b,.c (.bool false)),(13,.b,.c (.bool false)),(14,.b,.c (.bool false)),(15,.b,.c (.bool false)),(16,.b,.c (.bool false)),(19,.b,.c (.bool false)),(20,.b,.c (.bool false)),(21,.b,.c (.bool false)),(22,.i,.c (.int 0)),(23,.i,.c (.int 0)),(24,.i,.c (.int (-1))),(25,.i,.c (.int (-1))),(0,.i,.c (.int 0))]) (outs:=pv) (os:=[.e 473,.c (.bool false),.c (.bool false),.c (.bool false),.c (.bool false),.c (.bool false),.c (.bool false)]) (es':=[⟨52,.bits .andNot .i64,[.e 2,.c (.int 1)]⟩,⟨53,.ne,[.e 52,.c (.int 0)]⟩,⟨66,.o2 .min,[.e 17,.e 18]⟩,⟨67,.le,[.c (.int 0),.e 66]⟩,⟨69,.o2 .max,[.e 17,.e 18]⟩,⟨70,.le,[.e 69,.c (.int 40)]⟩,⟨71,.and,[.e 67,.e 70]⟩,⟨72,.or,[.e 53,.n 71]⟩,⟨473,.ite .i,[.e 72,.c (.int 2),.c (.int 0)]⟩]) ⟨k1,k2,k3,k4,k5,k6,k7,k8,k9,k10,k11,k12,k13,k14,k15,k16,k19,k20,k21,k22,k23,k24,k25,k0,trivial⟩ hF (by kernel_rfl);clear hF;obtain⟨h17,h18,hz⟩:=hH;simp only[AH,AI,EN,LW,w2P,wnP,Nk,Nw,AP,zN,zR,zL,zC,uR,DM,zW,if_true,if_false] at he;simp only[pv,qM,qO,AP,zR,zL,zC] at ho;simp only[pu,k0,ho];clear ho;refine⟨?_,trivial,trivial,trivial,trivial,trivial,trivial⟩;obtain⟨e52,e53,e66,e67,e69,e70,e71,e72,e473⟩:=he;have z52:(I T 52)=0:=by rw[e52,k2];kernel_rfl
 have n53:¬B T 53=true:=fun h=>(e53.1 h) z52;have h67:=e67.2 (by rw[e66];split<;>omega);have h70:=e70.2 (by rw[e69];split<;>omega);have h71:=e71.2 ⟨h67,h70⟩;have n72:¬B T 72=true:=fun h=>(e72.1 h).elim n53 (fun h=>by rw[h71] at h;cases h);rw[e473,if_neg n72]
end
end Go.Eng
end
