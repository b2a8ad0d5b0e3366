/-
  A part of the proof: HG Q1 HH.
-/
import Derived.Test.YtcinpabggaepfaaE3
import Derived.KernelRfl
import Derived.Test.YtcinpabggaepfaaProg
import Derived.Test.YtcinpabggaepfaaRows
import Derived.WalkKit
import Derived.ProofKit
import Derived.JoinedCond
import Derived.OpenShut
set_option linter.unusedVariables false
set_option linter.unusedSimpArgs false
noncomputable section
namespace Go.Eng
open Go Go.Eng Go.Proofs
def jJ:List (Nat × Nat):=[(3,4607),(4,93461383087050967595580594781161471),(5,42535298400418508389398643321962766335),(6,22837443992156200556465454237065817323978882831),(7,6135),(8,11150377916339553987345566749916387771416335),(9,576531121316169719),(10,713994073588959119534021371033298012678914039),(11,127),(12,4227583),(13,9007270121966079),(14,39),(15,21),(16,29393407),(17,1065211),(18,409855),(19,576461027181396215),(20,537985037),(21,69231448055),(22,17182036983),(23,23),(24,23),(25,146028891135),(26,525),(27,525),(28,67643),(29,79),(30,31),(31,576460993895367167),(32,549756862783),(33,2101887),(34,268435583),(35,2475880687459682025937637435),(36,231399078373294599678042562564778199535720674622926929161879711),(37,10141243488044664568659507744863),(38,562954399384695),(39,277161707263),(40,191),(41,7),(42,1),(43,2333),(44,2147483835),(45,158514353557870112340845789213),(46,53478898112939196370036498439096720537788676143893093693041676285),(47,15),(48,19),(49,5),(50,12601331),(51,3),(52,22836050195622828232666773024511085053562847603),(53,65537),(54,37778931865156192337941),(55,664613997892609052216510055712817183),(56,1049207),(57,23),(58,7),(59,23),(60,23),(61,15192848445567715635727504487998059601730200773526776137305189122650514693944377335),(62,1152923703630112831),(63,170234646071574667783054372376389099643),(64,5),(65,19),(66,32829),(67,1064973),(68,19),(69,66483),(70,247),(71,7),(72,140737488355331),(73,9223512774880002067),(74,83076749746228648613407173688426515),(75,259),(76,19),(77,19)]
def Yi:List (Nat × Nat)→Nat→Nat
 |[],_=>0
 |(i,k)::r,f=>bif Nat.beq i f then k else Yi r f
def jH:List (Nat × List Nat):=[(38,[0]),(13,[0]),(50,[0]),(52,[0]),(61,[0]),(69,[0]),(10,[0,2])]
def Wo:List (Nat × List Nat)→Nat→Nat→Option Dm
 |[],_,_=>none
 |(i,l)::r,f,b=>bif Nat.beq i f then (bif l.any (Nat.beq b) then some {} else none) else Wo r f b
def Ba:FuncId→Ht:=fun f=>⟨Yi jJ f,Wo jH f,fun _=>none⟩
theorem C6:Try.prog.follows .mixedOrders=true:=by kernel_rfl
end Go.Eng
end
noncomputable section
namespace Go.Proofs.Ytcinpabggaepfaa
open Go Go.Eng Go.RowKit Go.ChangeShapes Go.WideShapes Go.ChangeAt
section
variable {H:Type}
theorem ir (d:DataW H):0 < Rows.uptoBulk d:=by
 cases d with
 |lit l=>cases l<;>simp[Rows.uptoBulk]
 |_=>simp[Rows.uptoBulk]
theorem PV:∀(l:List (DataW H)),l.length≤Rows.uptoBulkAll l
 |[]=>by simp[Rows.uptoBulkAll]
 |d::r=>by
  have h1:=ir d
  have h2:=PV r
  simp only[List.length_cons,Rows.uptoBulkAll];omega
mutual
theorem g7:(d:DataW H)→Rows.uptoBulk d≤1048576→DX 1048576 d
 | .lit l,h=> .lit fun s e=>by
  subst e
  simp only[Rows.uptoBulk] at h;omega
 | .nil,_=> .nil
 | .ptr d,_=> .ptr d
 | .slice l s,h=>by
  simp only[Rows.uptoBulk] at h
  have h1:=PV l
  exact .slice (by omega) (KX l (by omega))
 | .agg l,h=>by
  simp only[Rows.uptoBulk] at h
  exact .agg (KX l (by omega))
 | .iface t d,_=> .iface t d
 | .map es,_=> .map es
 | .held h,_=> .held h
theorem KX:(l:List (DataW H))→Rows.uptoBulkAll l≤1048576→∀d∈l,DX 1048576 d
 |[],_=>fun d hd=>by cases hd
 |x::r,h=>fun d hd=>by
  simp only[Rows.uptoBulkAll] at h
  rcases List.mem_cons.1 hd with e|hd
  ·rw[e];exact g7 x (by omega)
  ·exact KX r (by omega) d hd
end
end
theorem bM {H:Type}{enc:TypeId × Value→H}{P:Program}{W:World}{base:Nat}{sp:Nat→Bool}{held:Bool}:∀{ts:List TypeId} {vs:List Value} {ds:List (DataW H)} {ps:List MemPlace},DataW.TrodAll enc P W base sp held ts vs ds ps→ds.length=ts.length
 |[],[],[],_,_=>rfl
 |[],[],_::_,_,h=>h.elim
 |[],_::_,_,_,h=>h.elim
 |_::_,[],_,_,h=>h.elim
 |_::_,_::_,[],_,h=>h.elim
 |_::ts,_::vs,_::ds,_,⟨_,_,_,h2,_⟩=>by simp[bM h2]
theorem own:ownKnob Try.prog.godebug=none:=by kernel_rfl
theorem laid:laidOutB Try.prog=true:=by kernel_rfl
set_option maxRecDepth 100000 in
theorem iH {s:ChangeSpec}{f:Func}{k:FuncId}(hres:f.resultTypes= #[4])(hvs:s.vars=[])(hrec:∀t∈f.params.toList,Try.prog.readableRec t=true∧t < Try.prog.types.size)
  (hfn:∀(H:Type) (ds:List (DataW H)),ds.length=f.params.toList.length→s.fn H ds={ results:=[.lit (.bool true)],args:=ds })
  (hcall:∀{H:Type} {enc:TypeId × Value→H} {W:World} {base:Nat} {vs:List Value} {ds:List (DataW H)} {ps:List MemPlace},DataW.TrodAll enc Try.prog W 0 (fun _=>true) true f.params.toList vs ds ps→
   (∀(j:Nat) t v,f.params.toList[j]? =some t→vs[j]? =some v→Value.okWide Try.prog W .any base t v)→(∀d∈ds,DX 1048576 d)→
   Calls Try.prog k (vs:List Value).toArray W fun e W'=>e= .returned (.bool true)∧Below W.heap.size W W')
  (htb:Try.prog.underlying 4=some .bool)
  (H:Type) (enc:TypeId × Value→H) (W:World) (base:Nat) (args:Array Value) (ds gs:List (DataW H)) (before:List MemPlace)
  (hval:∀(j:Nat) t v,f.params[j]? =some t→args[j]? =some v→Value.okWide Try.prog W .any base t v)
  (hW:DataW.Whole enc Try.prog f.params.toList s.vars false W args.toList ds gs before) (hk:Rows.uptoSmall H (ds++gs)=true):
  Calls Try.prog k args W fun e W'=>∃v,e= .returned v∧s.post enc Try.prog f false true false false W args v W':=by
 have hW0:=hW
 obtain⟨p,q,hA,hV,rfl,hz,hn⟩:=hW
 have hgs:gs=[]:=by
  rw[hvs] at hV
  cases gs with
  |nil=>rfl
  |cons=>exact hV.elim
 subst hgs
 have hlen:ds.length=f.params.toList.length:=bM hA
 have hsh:∀d∈ds,DX 1048576 d:=KX ds (by
  have h1:=hk
  unfold Rows.uptoSmall at h1
  rw[List.append_nil,decide_eq_true_eq] at h1
  exact h1)
 have hc:=hcall hA (fun j t v h1 h2=>hval j t v (by simpa using h1) (by simpa using h2)) hsh
 refine hc.mono fun e W' ⟨he,hb⟩=>⟨_,he,?_⟩
 exact gg laid hrec hres htb hvs (by rw[List.append_nil];exact hfn H ds hlen) hW0 hb
end Go.Proofs.Ytcinpabggaepfaa
end
noncomputable section
namespace Go.Eng
open Go Go.Eng Go.Proofs
def kF:List (Nat × List Nat):=[(6,[0]),(8,[0]),(9,[0]),(19,[0]),(20,[0]),(21,[0]),(22,[0]),(25,[0])]
def nars:Nat→Nat→Option (Tmp × Int × Int):=fun f r=>bif Nat.beq f 63&&Nat.beq r 3 then some (3,0,1) else none
def RN:FuncId→Ht:=fun f=>⟨Yi jJ f,Wo (kF++jH) f,nars f⟩
end Go.Eng
end
