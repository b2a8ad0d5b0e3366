/-
  A part of the proof: the evaluator of code and its soundness.
-/
import Derived.Test.YtikbgnmcfncnaaaE4
import Derived.KernelRfl
import Derived.Test.YtikbgnmcfncnaaaProg
import Derived.Test.YtikbgnmcfncnaaaRows
import Derived.WalkKit
import Derived.ProofKit
import Derived.JoinedCond
import Derived.OpenShut
import Derived.Shelf.GgClosure.StringsIndexFuncTop
import Derived.Laws.RangeAny
import Derived.Lib.Bytealg
set_option linter.unusedVariables false
set_option linter.unusedSimpArgs false
noncomputable section
namespace Go.Eng
section
open Go Go.Eng Go.Proofs
def j5:List (Nat × Nat):=[(3,356811923197259157698710802876495906918760255),(4,550830080991),(5,170141193601676453770381015179702828319),(6,89202980794163057433707209216026507515787263),(7,4630263367964029055),(8,6734599546214597221990822883665133711009854619906111),(9,9908658249016404373193949127),(10,98079720826798845593930068094850309804911155896884789191),(11,137456271347),(12,70506183115263),(13,3064991081731777722365913037005480846757658662151385151),(14,20752587087222415351),(15,127),(16,17375),(17,32967),(18,1125938561695871),(19,4611704712406761927),(20,4398601212221),(21,2360397),(22,1152923703630102535),(23,285),(24,33011),(25,33571891),(26,33571891),(27,1),(28,4351),(29,525),(30,8395535),(31,1),(32,255),(33,33551),(34,10141204806031981158242960407583),(35,316912952583809060057652395039),(36,1126449931223167),(37,33571891),(38,2163),(39,4296024039),(40,1057479),(41,134495533),(42,262707),(43,4398063288335),(44,4786206345238451),(45,20754838917633812467),(46,77),(47,1165),(48,32967),(49,525),(50,18399),(51,575),(52,4295231479),(53,274945034231),(54,9007199254874355),(55,525),(56,23),(57,16447),(58,71),(59,71),(60,8903),(61,7),(62,1125899906851101),(63,71),(64,1099511662605),(65,146243636491757),(66,151115731674017756698611),(67,7715),(68,1),(69,45),(70,4296023823),(71,19),(72,63),(73,134714111),(74,67113231),(75,140874944118543),(76,262707),(77,36028797019098895),(78,2475880078606789348968890611),(79,147),(80,19342813122841268197662663),(81,32831),(82,7),(83,5),(84,504373101),(85,4294983149),(86,19807040630007236279178105341),(87,19),(88,7),(89,18874823),(90,21),(91,135199),(92,479),(93,31),(94,1065211),(95,67643),(96,1),(97,268435583),(98,144115192370823171),(99,1),(100,19),(101,31),(102,17389),(103,604275),(104,21),(105,730750818665451459250395221072963867452968785863),(106,21),(107,3),(108,1),(109,1075843571),(110,19),(111,5),(112,65619),(113,66483),(114,549764202519),(115,191),(116,2147483835),(117,158514353557870112340845789213),(118,53478898112939196370036498439096720537788676143893093693041676285),(119,21),(120,3),(121,5),(122,18014433942971335),(123,31),(124,604275),(125,31),(126,31),(127,31),(128,31),(129,19),(130,19),(131,2333),(132,19),(133,32829),(134,5),(135,1064973),(136,19),(137,18014433942971335),(138,17179886351),(139,13164839976634628298295110780136696778032692856359452003713154079),(140,5),(141,19),(142,531911),(143,7),(144,17179886351),(145,13164839976634628298295110780136696778032692856359452003713154079),(146,9440287),(148,9440287),(149,9231),(150,9231)]
def WE:List (Nat × Nat)->Nat->Nat
 |[],_=>0
 |(i,k)::r,f=>bif Nat.beq i f then k else WE r f
def jQ:List (Nat × List Nat):=[(5,[0]),(6,[0]),(7,[0]),(8,[0,2]),(9,[0]),(10,[0,2]),(11,[0]),(13,[0]),(19,[0,2]),(20,[0,2,4]),(21,[0]),(25,[0]),(26,[0]),(34,[0,2]),(35,[0,2,4,6]),(37,[0]),(41,[0]),(42,[0]),(44,[0,2]),(45,[0,2]),(54,[0]),(62,[0,2]),(64,[0]),(65,[0,2]),(66,[0,2]),(67,[0]),(75,[0,2]),(76,[0]),(77,[0]),(78,[0]),(80,[0]),(84,[0,2]),(85,[0]),(86,[0,2,4]),(98,[0,2]),(105,[0,2,4]),(109,[0]),(113,[0]),(114,[0,2]),(116,[0]),(117,[0]),(118,[0,2]),(122,[0,2,4]),(133,[0]),(137,[0,2,4]),(138,[0,2]),(139,[0,2,4,6,8]),(142,[0]),(144,[0,2]),(145,[0,2,4,6,8]),(146,[0]),(148,[0]),(149,[0]),(150,[0])]
def xK:FF:={ slots:=[(.tmp 4,.int .i64 (-9223372036854775808) 9223372036854775807),(.tmp 3,.list [.int .i64 (-9223372036854775808) 9223372036854775807,.int .i64 (-9223372036854775808) 9223372036854775807,.int .i64 (-9223372036854775808) 9223372036854775807,.bool,.str,.str,.bool,.int .i64 (-9223372036854775808) 9223372036854775807,.int .i64 (-9223372036854775808) 9223372036854775807])] }
def Wp:List (Nat × List Nat)->Nat->Nat->Option FF
 |[],_,_=>none
 |(i,l)::r,f,b=>bif Nat.beq f 86&&Nat.beq b 0 then some xK else bif Nat.beq i f then (bif l.any (Nat.beq b) then some {} else none) else Wp r f b
def mus:Nat->Tmp->Nat
 |101,15=>2
 |108,6=>2
 |105,23=>1
 |66,84=>3
 |86,103=>3
 |44,15=>2
 |_,_=>0
def rZ:Nat->Nat->Bool
 |100,2=>true
 |71,2=>true
 |105,27=>true
 |_,_=>false
def AA9:Nat->Nat->Option (Tmp × Int × Int):=fun f r=>bif Nat.beq f 84&&Nat.beq r 3 then some (3,0,1000000) else none
def Bp:FuncId->EM:=fun f=>⟨WE j5 f,Wp jQ f,AA9 f,mus f,rZ f⟩
theorem CP:Try.prog.follows .mixedOrders=true:=by kernel_rfl
end
end Go.Eng
end
noncomputable section
namespace Go.Proofs.Ytikbgnmcfncnaaa
open Go Go.Eng Go.RowKit Go.ChangeShapes Go.WideShapes Go.ChangeAt
section
variable {H:Type}
theorem sZ (d:DataW H):0 < Rows.uptoBulk d:=by
 cases d with
 |lit l=>cases l<;>simp[Rows.uptoBulk]
 |_=>simp[Rows.uptoBulk]
theorem Tk:∀(l:List (DataW H)),l.length<=Rows.uptoBulkAll l
 |[]=>by simp[Rows.uptoBulkAll]
 |d::r=>by
  have O:=sZ d;have C:=Tk r;simp only[Ad,Rows.uptoBulkAll];omega
mutual
theorem qf:(d:DataW H)->Rows.uptoBulk d<=1048576->Et 1048576 d
 | .lit l,h=> .lit fun s e=>by
  subst e;simp only[Rows.uptoBulk] at h;omega
 | .nil,_=> .nil
 | .ptr d,_=> .ptr d
 | .slice l s,h=>by
  simp only[Rows.uptoBulk] at h;have O:=Tk l;exact .slice (by omega) (Ou l (by omega))
 | .agg l,h=>by
  simp only[Rows.uptoBulk] at h;exact .agg (Ou l (by omega))
 | .iface t d,_=> .iface t d
 | .map ay,_=> .map ay
 | .held h,_=> .held h
theorem Ou:(l:List (DataW H))->Rows.uptoBulkAll l<=1048576->∀d∈l,Et 1048576 d
 |[],_=>fun d hd=>by cases hd
 |x::r,h=>fun d hd=>by
  simp only[Rows.uptoBulkAll] at h;rcases List.mem_cons.1 hd with e|hd
  .rw[e];exact qf x (by omega)
  .exact Ou r (by omega) d hd
end
end
theorem gz {H:Type}{enc:TypeId × Value->H}{P:Program}{W:World}{base:Nat}{A:Nat->Bool}{bc:Bool}:∀{au:List TypeId} {Y:List Value} {t:List (DataW H)} {ps:List MemPlace},DataW.TrodAll enc P W base A bc au Y t ps->t.length=au.length
 |[],[],[],_,_=>rfl
 |[],[],_::_,_,h=>h.elim
 |[],_::_,_,_,h=>h.elim
 |_::_,[],_,_,h=>h.elim
 |_::_,_::_,[],_,h=>h.elim
 |_::au,_::Y,_::t,_,⟨_,_,_,C,_⟩=>by simp[gz C]
theorem own:ownKnob Try.prog.godebug=none:=by kernel_rfl
theorem laid:laidOutB Try.prog=true:=by kernel_rfl
set_option maxRecDepth 100000 in
theorem tp {s:ChangeSpec}{f:Func}{k:FuncId}(a1:f.resultTypes= #[4])(N:s.vars=[])(a0:∀t∈f.params.toList,Try.prog.readableRec t=true/\t < Try.prog.types.size)
  (al:∀(H:Type) (h:List (DataW H)),h.length=f.params.toList.length->s.fn H h={ results:=[.lit (.bool true)],args:=h })
  (ad:∀{H:Type} {enc:TypeId × Value->H} {W:World} {base:Nat} {Y:List Value} {h:List (DataW H)} {ps:List MemPlace},DataW.TrodAll enc Try.prog W 0 (fun _=>true) true f.params.toList Y h ps->
   (∀(j:Nat) t v,f.params.toList[j]? =some t->Y[j]? =some v->Value.okWide Try.prog W .any base t v)->(∀d∈h,Et 1048576 d)->
   Calls Try.prog k (Y:List Value).toArray W fun e A=>e= .returned (.bool true)/\Below W.heap.size W A)
  (a3:Try.prog.underlying 4=some .bool)
  (H:Type) (enc:TypeId × Value->H) (W:World) (base:Nat) (args:Array Value) (h E:List (DataW H)) (T:List MemPlace)
  (a4:∀(j:Nat) t v,f.params[j]? =some t->args[j]? =some v->Value.okWide Try.prog W .any base t v)
  (M:DataW.Whole enc Try.prog f.params.toList s.vars false W args.toList h E T) (hk:Rows.uptoSmall H (h++E)=true):
  Calls Try.prog k args W fun e A=>∃v,e= .returned v/\s.post enc Try.prog f false true false false W args v A:=by
 have V:=M;obtain⟨p,q,J,K,rfl,hz,hn⟩:=M;have ao:E=[]:=by
  rw[N] at K;cases E with
  |nil=>rfl
  |cons=>exact K.elim
 subst ao;have ax:h.length=f.params.toList.length:=gz J;have a2:∀d∈h,Et 1048576 d:=Ou h (by
  have O:=hk;unfold Rows.uptoSmall at O;rw[yJ,decide_eq_true_eq] at O;exact O)
 have hc:=ad J (fun j t v O C=>a4 j t v (by simpa using O) (by simpa using C)) a2;refine hc.mono fun e A ⟨he,Z⟩=>⟨_,he,?_⟩;exact tL laid a0 a1 a3 N (by rw[yJ];exact al H h ax) V Z
end Go.Proofs.Ytikbgnmcfncnaaa
end
noncomputable section
namespace Go.Eng
section
open Go Go.Eng Go.Proofs
def musC:Nat->Tmp->Nat
 |5,110=>3
 |5,121=>3
 |f,t=>mus f t
def ABD:FuncId->EM:=fun f=>⟨WE j5 f,Wp jQ f,AA9 f,musC f,rZ f⟩
end
section
open Go Go.Proofs
def Jt (b:UInt8):Bool:=(decide (97<=b.toNat)&&decide (b.toNat<=122))||(decide (48<=b.toNat)&&decide (b.toNat<=57))
def Dn (s:ByteArray):Bool:=decide (1<=s.size)&&decide (s.size<=20)&&s.data.toList.all Jt
def KY (x ar ab:Int):Bool:=decide (ar<=x)&&decide (x<=ab)
theorem RH {x ar ab:Int}:KY x ar ab=true↔(ar<=x/\x<=ab):=by simp[KY]
def EI (r:Nat):Bool:=(decide (r < 97)||decide (122 < r))&&(decide (r < 48)||decide (57 < r))
theorem RR (b:UInt8):Jt b= !EI b.toNat:=by
 rw[Bool.eq_iff_iff];simp only[Jt,EI,Ah,AB,decide_eq_true_eq,Bool.not_eq_true',Bool.and_eq_false_iff,Bool.or_eq_false_iff,decide_eq_false_iff_not];omega
theorem iW (s:ByteArray):∀(f pos:Nat),s.size<=pos+f->(Lib.idxFuncFrom EI true s f pos= -1↔∀j (h:j < s.size),pos<=j->Jt (s[j]'h)=true)
 |0,pos,hf=>by
  simp only[Lib.idxFuncFrom,true_iff];intro j h t;omega
 |f+1,pos,hf=>by
  unfold Lib.idxFuncFrom;by_cases t:pos < s.size
  .rw[BH t];by_cases J:(s[pos]'t).toNat < 128
   .rw[decode_ascii s pos t J];simp only;by_cases z:EI (s[pos]'t).toNat=true
    .rw[BH z];constructor
     .intro h;omega
     .intro h;have:=h pos t (AE _);rw[RR,z] at this;cases this
    .rw[BG z,iW s f (pos+1) (by omega)];constructor
     .intro h j A E;by_cases e:j=pos
      .subst e;rw[RR];simpa using z
      .exact h j A (by omega)
     .intro h j A E;exact h j A (by omega)
   .obtain⟨O,C⟩:=decode_high s pos t (by omega);have z:EI (Utf8.decode s pos).1=true:=by
     simp only[EI,Ah,AB,decide_eq_true_eq];omega
    rw[BH z];constructor
    .intro h;omega
    .intro h;have:=h pos t (AE _);rw[RR] at this;have K:EI (s[pos]'t).toNat=true:=by
      simp only[EI,Ah,AB,decide_eq_true_eq];omega
     rw[K] at this;cases this
  .rw[BG t];simp only[true_iff];intro j h E;omega
theorem YQ (s:ByteArray):s.data.toList.all Jt=true↔∀j (h:j < s.size),Jt (s[j]'h)=true:=by
 rw[Ae];constructor
 .intro h j t;exact h _ (by
   have:s[j]=s.data.toList[j]'(by simpa using t):=rfl;rw[this];exact yM _)
 .intro h x z;obtain⟨j,t,rfl⟩:=List.getElem_of_mem z;exact h j (by simpa using t)
theorem jd (s:ByteArray):Dn s=(decide (1<=s.size)&&decide (s.size<=20)&& !decide (0<=Lib.idxFunc EI true s)):=by
 have O:=iW s s.size 0 (by omega);have C:=YQ s;have z:=Lib.idxFunc_range EI true s;unfold Dn;congr 1;rw[Bool.eq_iff_iff,C];change Lib.idxFunc EI true s= -1↔_ at O;rw[Bool.not_eq_true',decide_eq_false_iff_not];constructor
 .intro h;have:=O.2 fun j t _=>h j t;omega
 .intro h j t;exact O.1 (by omega) j t (Ak _)
def okB (s:ByteArray)(j:Nat):Prop:=97<=C4 s j/\C4 s j<=122\/48<=C4 s j/\C4 s j<=57
theorem vm {s:ByteArray}{k:Nat}(z:k=s.size):s.data.toList.all Jt=true↔∀j:Nat,(j:Int) < k->okB s j:=by
 unfold okB;subst z;rw[YQ];have e:∀j (t:j < s.size),(Jt (s[j]'t)=true↔(97<=C4 s j/\C4 s j<=122\/48<=C4 s j/\C4 s j<=57)):=by
  intro j t;have e:C4 s j=((s[j]'t).toNat:Int):=by
   unfold C4;have A:j < s.data.toList.length:=by simpa using t
   rw[AY,AF A];rfl
  rw[e];simp only[Jt,Ah,AB,decide_eq_true_eq];omega
 constructor
 .intro h j t;exact (e j (by omega)).1 (h j (by omega))
 .intro h j t;exact (e j t).2 (h j (by omega))
theorem tG {s:ByteArray}:Dn s=true↔(1<=s.size/\s.size<=20/\∀j:Nat,(j:Int) < s.size->okB s j):=by
 unfold Dn;rw[AB,AB,decide_eq_true_eq,decide_eq_true_eq,vm rfl,and_assoc]
end
section
def Dl (s:ByteArray)(x g:Int):Bool:=Dn s&&KY x (-10000) 10000&&KY g (-12) 48
def Cq (s:ByteArray)(x g:Int)(t:ByteArray)(y h:Int):Int:=
 if Dl s x g=true/\Dl t y h=true then (if s=t then 12 else 0) else 2
variable{s:ByteArray}{x g:Int}
theorem G9 :Dl s x g=true↔(Dn s=true/\(-10000<=x/\x<=10000)/\ -12<=g/\g<=48):=by
 unfold Dl;rw[AB,AB,RH,RH,and_assoc]
theorem Uz {t:ByteArray}{y h:Int}(e:Cq s x g t y h=0):Dl s x g=true/\Dl t y h=true/\¬s=t:=by
 unfold Cq at e;split at e
 .rename_i z;split at e
  .omega
  .exact⟨z.1,z.2,by assumption⟩
 .omega
theorem ir {n:Int}(t:0<=n)(O:n<=19):1<=IE GF n/\IE GF n<=10:=by
 obtain⟨k,rfl⟩:∃k:Nat,n=k:=⟨n.toNat,by omega⟩;have h:∀k:Fin 20,1<=IE GF ((k:Nat):Int)/\IE GF ((k:Nat):Int)<=10:=by decide
 exact h ⟨k,by omega⟩
theorem EH (a b:Int)(l:Bool):1<=CJ a b l/\CJ a b l<=19:=by
 unfold CJ;split
 .split
  .have:=ir (n:=min ((b - a) / 100) 19) (by omega) (by omega);omega
  .have:=ir (n:=min ((a - b) / 100) 19) (by omega) (by omega);omega
 .omega
def DC (a b:Int):Int:=if a < b then -1 else if b < a then 1 else 0
def uI (u:List U)(c:Nat):Int:=(u.getD c default).toI
def uB (u:List U)(c:Nat):Bool:=(u.getD c default).toB
def uS (u:List U)(c:Nat):ByteArray:=(u.getD c default).toS
section
variable {lt:List U->List U->Bool}{x:List U}{P R S l:List (List U)}{k a i b:Nat}
def Gj (lt:List U->List U->Bool)(x:List U):List (List U)->List (List U)
 |[]=>[x]
 |y::r=>if lt x y=true then y::Gj lt x r else x::y::r
def Gt (lt:List U->List U->Bool)(l:List (List U)):List (List U):=l.foldl (fun f x=>Gj lt x f) []
def Br (lt:List U->List U->Bool)(l:List (List U))(a b:Nat):List (List U):=l.take a++(Gt lt ((l.take b).drop a)).reverse++l.drop b
def eb (lt:List U->List U->Bool)(l:List (List U))(a i:Nat):List (List U):=l.take a++(Gj lt (l.getD i []) ((l.take i).drop a).reverse).reverse++l.drop (i+1)
def Ew (P R S:List (List U))(x:List U)(k:Nat):List (List U):=P++(R.take k++x::R.drop k).reverse++S
theorem YE (h:k < R.length):Ew P R S x k=(P++(R.drop (k+1)).reverse)++R.getD k []::x::((R.take k).reverse++S):=by
 have:R.drop k=R.getD k []::R.drop (k+1):=by
  rw[List.drop_eq_getElem_cons h,AY,AF h];rfl
 unfold Ew;rw[this];simp
theorem qi (h:k < R.length):Ew P R S x (k+1)=(P++(R.drop (k+1)).reverse)++x::R.getD k []::((R.take k).reverse++S):=by
 have:R.take (k+1)=R.take k++[R.getD k []]:=by
  rw[List.take_add_one,AY,AF h];rfl
 unfold Ew;rw[this];simp
theorem qy {A B:List (List U)}{x y:List U}:((A++y::x::B).set (A.length+1) y).set A.length x=A++x::y::B:=by
 induction A with
 |nil=>rfl
 |cons c A h=>simp only[List.cons_append,Ad,List.set_cons_succ];rw[h]
theorem sH (h:k < R.length):((Ew P R S x k).set (P.length+(R.length - k)) (R.getD k [])).set (P.length+(R.length - k) - 1) x=Ew P R S x (k+1):=by
 rw[YE h,qi h];have e:(P++(R.drop (k+1)).reverse).length=P.length+(R.length - k) - 1:=by simp;omega
 rw[<-e,show P.length+(R.length - k)=(P++(R.drop (k+1)).reverse).length+1 by simp;omega];exact qy
theorem xC (h:k<=R.length):(Ew P R S x k).getD (P.length+(R.length - k)) []=x:=by
 unfold Ew;simp only[List.reverse_append,List.reverse_cons];rw[AY,Am,AS (by omega),Am,Am,AS (by simp)];simp
theorem rJ (h:k < R.length):(Ew P R S x k).getD (P.length+(R.length - k) - 1) []=R.getD k []:=by
 rw[YE h,AY];have e:(P++(R.drop (k+1)).reverse).length=P.length+(R.length - k) - 1:=by simp;omega
 rw[<-e,AS (AE _)];simp
theorem wB:(Ew P R S x k).length=P.length+R.length+1+S.length:=by
 unfold Ew;simp;omega
theorem iS:∀{R:List (List U)} {k:Nat},k<=R.length->(∀q,q < k->lt x (R.getD q [])=true)->(k=R.length\/¬lt x (R.getD k [])=true)->Gj lt x R=R.take k++x::R.drop k
 |[],k,h,_,_=>by
  have:k=0:=by simpa using h
  subst this;rfl
 |y::R,0,_,_,h=>by
  simp only[Gj];rcases h with h|h
  .simp at h
  .rw[BG (by simpa using h)];rfl
 |y::R,k+1,h,O,C=>by
  simp only[Gj];rw[BH (by simpa using O 0 (by omega)),iS (k:=k) (by simpa using h) (fun q t=>by simpa using O (q+1) (by omega)) (by
   rcases C with C|C
   .exact .inl (by simpa using C)
   .exact .inr (by simpa using C))]
  rfl
theorem eD:∀{R:List (List U)},(Gj lt x R).length=R.length+1
 |[]=>rfl
 |y::R=>by
  simp only[Gj];split
  .simp[eD (R:=R)]
  .rfl
theorem jP:Gt lt (l++[x])=Gj lt x (Gt lt l):=by
 unfold Gt;rw[List.foldl_append];rfl
theorem Ro:(Gt lt l).length=l.length:=by
 have t:∀(l f:List (List U)),(l.foldl (fun f x=>Gj lt x f) f).length=f.length+l.length:=by
  intro l;induction l with
  |nil=>exact fun _=>rfl
  |cons y l h=>intro f;rw[List.foldl_cons,h,eD];simp;omega
 unfold Gt;rw[t];simp
def CX (lt:List U->List U->Bool)(l:List (List U)):List (List U):=(Gt lt l).reverse
theorem UO {n:Nat}(h:n=l.length):Br lt l 0 n=CX lt l:=by
 subst h;unfold Br CX;simp
theorem DY:(CX lt l).length=l.length:=by unfold CX;rw[List.length_reverse,Ro]
theorem ah {y:List U}:∀{R:List (List U)},y∈Gj lt x R->y=x\/y∈R
 |[],h=>by simpa [Gj] using h
 |z::R,h=>by
  simp only[Gj] at h;split at h
  .rcases List.mem_cons.1 h with h|h
   .exact .inr (List.mem_cons.2 (.inl h))
   .rcases ah h with h|h
    .exact .inl h
    .exact .inr (List.mem_cons.2 (.inr h))
  .rcases List.mem_cons.1 h with h|h
   .exact .inl h
   .exact .inr h
theorem D6 (h:i < l.length):l.take (i+1)=l.take i++[l.getD i []]:=by
 rw[List.take_add_one,AY,AF h];rfl
theorem SS (t:a<=i)(h:i < l.length):(l.take (i+1)).drop a=(l.take i).drop a++[l.getD i []]:=by
 rw[D6 h,List.drop_append_of_le_length (by simp;omega)]
theorem WV (h:a<=l.length):Br lt l a (a+1)=l:=by
 unfold Br;rcases AQ a l.length with O|O
 .have e:(l.take (a+1)).drop a=[l.getD a []]:=by
   rw[SS (AE _) O];simp[List.drop_take]
  rw[e];show l.take a++[l.getD a []]++l.drop (a+1)=l;rw[<-D6 O,Az]
 .have e:l.take a=l:=List.take_of_length_le O;have t:l.take (a+1)=l:=List.take_of_length_le (by omega);rw[t,List.drop_eq_nil_of_le O,List.drop_eq_nil_of_le (show l.length<=a+1 by omega),e];simp[Gt]
theorem Rv (h:b<=a)(C:a<=b):Br lt l a b=l:=by
 obtain rfl:a=b:=by omega
 unfold Br;rw[List.drop_eq_nil_of_le (by simp;omega)];simp[Gt]
theorem HW (h:a<=b)(C:b<=l.length):(Br lt l a b).length=l.length:=by
 unfold Br;simp[Ro];omega
theorem Vq (h:a<=i)(C:i<=l.length):(Br lt l a i).take a=l.take a/\((Br lt l a i).take i).drop a=(Gt lt ((l.take i).drop a)).reverse/\(Br lt l a i).drop i=l.drop i:=by
 unfold Br;have t:(l.take a).length=a:=by simp;omega
 have A:((Gt lt ((l.take i).drop a)).reverse).length=i - a:=by simp[Ro];omega
 have z:(l.take a++(Gt lt ((l.take i).drop a)).reverse).length=i:=by rw[AP,t,A];omega
 refine⟨?_,?_,?_⟩
 .rw[Am,List.take_left' t]
 .rw[List.take_left' z,List.drop_left' t]
 .rw[List.drop_left' z]
theorem nN (h:a<=i)(C:i < l.length):Br lt l a (i+1)=eb lt (Br lt l a i) a i:=by
 obtain⟨A,E,t⟩:=Vq (lt:=lt) h (Nat.le_of_lt C);unfold eb;have J:(Br lt l a i).getD i []=l.getD i []:=by
  have:=BI (fun z=>z.getD 0 []) t;simpa [AY,A8] using this
 have K:(Br lt l a i).drop (i+1)=l.drop (i+1):=by
  have:=BI (fun z=>z.drop 1) t;simpa [A7,Nat.add_comm] using this
 rw[A,E,J,K,List.reverse_reverse];show l.take a++(Gt lt ((l.take (i+1)).drop a)).reverse++l.drop (i+1)=_;rw[SS h C,jP]
theorem s7 (h:a<=i)(C:i < l.length):Ew (l.take a) (((l.take i).drop a).reverse) (l.drop (i+1)) (l.getD i []) 0=l:=by
 unfold Ew;simp only[List.take_zero,BF,List.drop_zero,List.reverse_cons,List.reverse_reverse];rw[<-SS h C];have e:l.take (i+1)=l.take a++(l.take (i+1)).drop a:=by
  have:=Az a (l.take (i+1));rw[List.take_take,Nat.min_eq_left (by omega)] at this;exact this.symm
 rw[<-e,Az]
theorem td (h:a<=i)(C:i < l.length)(A:k<=i - a)(t:∀q,q < k->lt (l.getD i []) ((((l.take i).drop a).reverse).getD q [])=true)(z:k=i - a\/¬lt (l.getD i []) ((((l.take i).drop a).reverse).getD k [])=true):
  Ew (l.take a) (((l.take i).drop a).reverse) (l.drop (i+1)) (l.getD i []) k=eb lt l a i:=by
 have e:(((l.take i).drop a).reverse).length=i - a:=by simp;omega
 unfold eb Ew;rw[iS (k:=k) (by rw[e];exact A) t (by rw[e];exact z)]
theorem ZH {j:Nat}{c:List (List U)}(E:a<=j)(K:j<=i)(ab:i < l.length)(h:c=Ew (l.take a) (((l.take i).drop a).reverse) (l.drop (i+1)) (l.getD i []) (i - j)):c.length=l.length/\c.getD j []=l.getD i []/\
  (a < j->c.getD (j - 1) []=(((l.take i).drop a).reverse).getD (i - j) []/\(c.set j (c.getD (j - 1) [])).set (j - 1) (c.getD j [])=Ew (l.take a) (((l.take i).drop a).reverse) (l.drop (i+1)) (l.getD i []) (i - (j - 1))):=by
 have e:(((l.take i).drop a).reverse).length=i - a:=by simp;omega
 have t:(l.take a).length=a:=by simp;omega
 have z:(l.take a).length+((((l.take i).drop a).reverse).length - (i - j))=j:=by rw[e,t];omega
 have O:=xC (P:=l.take a) (R:=((l.take i).drop a).reverse) (S:=l.drop (i+1)) (x:=l.getD i []) (k:=i - j) (by rw[e];omega);rw[z,<-h] at O;refine⟨by rw[h,wB,e,t];simp;omega,O,fun J=>?_⟩;have C:=rJ (P:=l.take a) (R:=((l.take i).drop a).reverse) (S:=l.drop (i+1)) (x:=l.getD i []) (k:=i - j) (by rw[e];omega);have A:=sH (P:=l.take a) (R:=((l.take i).drop a).reverse) (S:=l.drop (i+1)) (x:=l.getD i []) (k:=i - j) (by rw[e];omega);rw[z,<-h] at C A;refine⟨C,?_⟩;rw[O,C,A,show i - (j - 1)=i - j+1 by omega]
end
variable{l:List (List U)}{i:Nat}{u:List U}
theorem NU (h:(l.getD i []).length=u.length):E7 l i 0 u=l.set i u:=by
 unfold E7;rw[AM,List.take_zero,BF,List.drop_eq_nil_of_le (by omega),yJ]
theorem FY {p:List U->Prop}(h:∀v∈l,p v)(t:p u):∀v∈l.set i u,p v:=fun v z=>by
 rcases List.mem_or_eq_of_mem_set z with O|O
 .exact h v O
 .rw[O];exact t
theorem Ca (h:i < l.length):l.getD i []∈l:=by
 rw[AY,AF h];exact yM h
def KB:List Kd:=[.int .i64 IntKind.i64.min IntKind.i64.max,.int .i64 IntKind.i64.min IntKind.i64.max,.int .i64 IntKind.i64.min IntKind.i64.max,.bool,.str,.str,.bool,.int .i64 IntKind.i64.min IntKind.i64.max,.int .i64 IntKind.i64.min IntKind.i64.max]
theorem Nd (h:Bb BT KB u):[U.int (uI u 0),.int (uI u 1),.int (uI u 2),.bool (uB u 3),.str (uS u 4),.str (uS u 5),.bool (uB u 6),.int (uI u 7),.int (uI u 8)]=u:=by
 obtain⟨_,_,rfl,⟨_,rfl,_⟩,_,_,rfl,⟨_,rfl,_⟩,_,_,rfl,⟨_,rfl,_⟩,_,_,rfl,⟨_,rfl⟩,_,_,rfl,⟨_,rfl,_⟩,_,_,rfl,⟨_,rfl,_⟩,_,_,rfl,⟨_,rfl⟩,_,_,rfl,⟨_,rfl,_⟩,_,_,rfl,⟨_,rfl,_⟩,h⟩:=h;rw[show _=[] from h];rfl
theorem rS (h:Bb BT KB u):u.length=9:=by rw[<-Nd h];rfl
theorem Sr {v:List U}(aa:∀u∈l,Bb BT KB u)(ab:i < l.length)(h:Bb BT KB v):
  E7 l i 0 [U.int (uI v 0),.int (uI v 1),.int (uI v 2),.bool (uB v 3),.str (uS v 4),.str (uS v 5),.bool (uB v 6),.int (uI v 7),.int (uI v 8)]=l.set i v:=by
 rw[Nd h];exact NU (by rw[rS (aa _ (Ca ab)),rS h])
def eC (u v:List U):Int:=if DC (uI u 2) (uI v 2)=0 then DC (uI u 0) (uI v 0) else DC (uI u 2) (uI v 2)
def ltB (u v:List U):Bool:=decide (eC u v < 0)
structure WkO (lt:List U->List U->Bool):Prop where
 asym:∀a b,lt a b=true->¬lt b a=true
 tr:∀a b c,¬lt b a=true->¬lt c b=true->¬lt c a=true
section
variable {lt:List U->List U->Bool}{x:List U}{l ak R:List (List U)}
theorem Yc:∀{R:List (List U)},(Gj lt x R).Perm (x::R)
 |[]=>List.Perm.refl _
 |y::R=>by
  simp only[Gj];split
  .exact ((Yc (R:=R)).cons y).trans (List.Perm.swap x y R)
  .exact List.Perm.refl _
theorem mY:(Gt lt l).Perm l:=by
 have t:∀(l f:List (List U)),(l.foldl (fun f x=>Gj lt x f) f).Perm (l++f):=by
  intro l;induction l with
  |nil=>exact fun f=>List.Perm.refl _
  |cons y l h=>
   intro f;rw[List.foldl_cons];exact ((h _).trans (Yc.append_left l)).trans List.perm_middle
 have:=t l [];rwa [yJ] at this
theorem EX:(CX lt l).Perm l:=(List.reverse_perm _).trans mY
theorem N5 {y:List U}:y∈CX lt l↔y∈l:=EX.mem_iff
theorem T7 (h:WkO lt):∀{R:List (List U)},R.Pairwise (fun a b=>¬lt a b=true)->(Gj lt x R).Pairwise (fun a b=>¬lt a b=true)
 |[],_=>List.pairwise_singleton _ _
 |y::R,hp=>by
  rw[BN] at hp;simp only[Gj];split
  .rename_i A;refine BN.2 ⟨fun z t=>?_,T7 h hp.2⟩;rcases ah t with rfl|t
   .exact h.asym _ _ A
   .exact hp.1 z t
  .rename_i A;refine BN.2 ⟨fun z t=>?_,BN.2 hp⟩;rcases List.mem_cons.1 t with rfl|t
   .exact A
   .exact h.tr _ _ _ (hp.1 z t) A
theorem bk (h:WkO lt):(Gt lt l).Pairwise (fun a b=>¬lt a b=true):=by
 have A:∀(l f:List (List U)),f.Pairwise (fun a b=>¬lt a b=true)->(l.foldl (fun f x=>Gj lt x f) f).Pairwise (fun a b=>¬lt a b=true):=by
  intro l;induction l with
  |nil=>exact fun f h=>h
  |cons y l z=>intro f t;rw[List.foldl_cons];exact z _ (T7 h t)
 exact A l [] List.Pairwise.nil
theorem D0 (h:WkO lt):(CX lt l).Pairwise (fun a b=>¬lt b a=true):=by
 unfold CX;exact List.pairwise_reverse.2 (bk h)
theorem P3 (h:l.Perm ak)(O:l.Pairwise (fun a b=>¬lt b a=true))(C:ak.Pairwise (fun a b=>¬lt b a=true))(hd:∀a b,a∈l->b∈l->¬lt a b=true->¬lt b a=true->a=b):l=ak:=
 List.Perm.eq_of_pairwise (le:=fun a b=>¬lt b a=true) (fun a b t z x y=>hd a b t (h.mem_iff.2 z) y x) O C h
theorem Q5 (h:WkO lt)(A:l.Perm ak)(hd:∀a b,a∈l->b∈l->¬lt a b=true->¬lt b a=true->a=b):CX lt l=CX lt ak:=
 P3 (EX.trans (A.trans EX.symm)) (D0 h) (D0 h) fun a b t z=>hd a b (N5.1 t) (N5.1 z)
end
variable{a b:Int}{u v k:List U}{p:List U->Prop}{l:List (List U)}{i:Nat}
theorem cK :DC a b < 0↔a < b:=by
 unfold DC;split
 .omega
 .split<;>omega
theorem iD :DC a b=0↔a=b:=by
 unfold DC;split
 .omega
 .split<;>omega
theorem K4 :ltB u v=true↔(uI u 2 < uI v 2\/(uI u 2=uI v 2/\uI u 0 < uI v 0)):=by
 unfold ltB eC;rw[decide_eq_true_eq];split
 .rename_i h;rw[cK];have:=iD.1 h;omega
 .rename_i h;rw[cK];have:¬uI u 2=uI v 2:=fun e=>h (iD.2 e);omega
theorem wkB:WkO ltB where
 asym:=fun a b h=>by rw[K4] at h⊢;omega
 tr:=fun a b c O C=>by rw[K4] at O C⊢;omega
def O2 (m:List (List U))(n:Int):Prop:=Bz 1 m [.int n] < m.length
instance (m:List (List U))(n:Int):Decidable (O2 m n):=by unfold O2;infer_instance
def Xp (m:List (List U))(n:Int):Int:=(EB 1 1 m (.int 0) [.int n]).toI
def I5 (m:List (List U))(u:List U):List (List U):=if¬O2 m (uI u 0)\/Xp m (uI u 0) < uI u 1 then Cb 1 m [.int (uI u 0)] u else m
def CI (l:List (List U)):List (List U):=l.foldl I5 []
def Da (r:List U):List (List U):=if uB r 4=true then [] else [r.drop 1]
def CH (l:List (List U)):List (List U):=CX ltB ((CI l).flatMap Da)
structure My (p:List U->Prop) (m:List (List U)):Prop where
 row:∀r∈m,∃u,r=U.int (uI u 0)::u/\p u
 once:m.Pairwise fun a b=>uI a 0≠uI b 0
theorem cB {m:List (List U)}(h:My p m){n:Int}(ab:O2 m n):uI (m[Bz 1 m [.int n]]'ab) 0=n:=by
 have t:Bz 1 m [.int n] < m.length:=ab;have O:Ce ((m[Bz 1 m [.int n]]'t).take 1) [.int n]=true:=List.findIdx_getElem (w:=t);obtain⟨u,z,_⟩:=h.row _ (yM t);show uI (m[Bz 1 m [.int n]]'t) 0=n;generalize m[Bz 1 m [.int n]]'t=r at O z;rw[z] at O⊢;simp only[List.take_succ_cons,List.take_zero,Ce,U.eqv,Bool.and_true,decide_eq_true_eq] at O;exact O
theorem iN {m:List (List U)}(h:My p m){n:Int}(ab:¬O2 m n):∀r∈m,uI r 0≠n:=fun r t e=>by
 have O:Bz 1 m [.int n]=m.length:=by
  have:=List.findIdx_le_length (xs:=m) (p:=fun r=>Ce (r.take 1) [.int n]);unfold O2 Bz at ab;unfold Bz;omega
 unfold Bz at O;rw[List.findIdx_eq_length] at O;have C:=O r t;obtain⟨u,z,_⟩:=h.row r t;rw[z] at C e;have e':uI u 0=n:=e;simp[Ce,U.eqv,e'] at C
theorem uD {m:List (List U)}(h:My p m)(K:p u):My p (I5 m u):=by
 unfold I5;split
 .unfold Cb;by_cases ab:O2 m (uI u 0)
  .rw[show decide (Bz 1 m [.int (uI u 0)] < m.length)=true from decide_eq_true ab];refine⟨fun r z=>?_,?_⟩
   .rcases List.mem_or_eq_of_mem_set z with O|O
    .exact h.row r O
    .exact⟨u,O,K⟩
   .rw[BJ];intro i j E J N;simp only[cond_true,Au] at E J;have t:=BJ.1 h.once i j E J N;have A:=cB h ab;simp only[cond_true,List.getElem_set];split
    .rename_i e;subst e;split
     .omega
     .exact fun e=>t (A.trans e)
    .split
     .rename_i e;subst e;exact fun e=>t (e.trans A.symm)
     .exact t
  .rw[show decide (Bz 1 m [.int (uI u 0)] < m.length)=false from decide_eq_false ab];refine⟨fun r z=>?_,?_⟩
   .rcases Ap.1 z with O|O
    .exact h.row r O
    .simp at O;exact⟨u,O,K⟩
   .simp only[cond_false];rw[BM];refine⟨h.once,List.pairwise_singleton _ _,fun a M b C=>?_⟩;simp at C;subst C;show _≠uI u 0;exact iN h ab a M
 .exact h
theorem vl (m:List (List U))(u:List U):(I5 m u).length<=m.length+1:=by
 unfold I5 Cb;split
 .cases decide (Bz 1 m [.int (uI u 0)] < m.length)<;>simp
 .omega
theorem WN :CI (l++[u])=I5 (CI l) u:=by unfold CI;rw[List.foldl_append];rfl
theorem Yz {p:List U->Prop}:∀{l:List (List U)} {m:List (List U)},My p m->(∀u∈l,p u)->My p (l.foldl I5 m)
 |[],m,h,_=>h
 |u::l,m,h,hl=>by
  rw[List.foldl_cons];exact Yz (uD h (hl u (AN ..))) fun v t=>hl v (AK _ t)
theorem JT :My (· ∈l) (CI l):=Yz ⟨fun r h=>(by cases h),List.Pairwise.nil⟩ fun u h=>h
theorem dU:∀{l:List (List U)} {m:List (List U)},(l.foldl I5 m).length<=m.length+l.length
 |[],m=>AE _
 |u::l,m=>by
  rw[List.foldl_cons];have:=dU (l:=l) (m:=I5 m u);have:=vl m u;simp only[Ad];omega
theorem bK :(CI l).length<=l.length:=by have:=dU (l:=l) (m:=[]);unfold CI;simpa using this
theorem rI {r:List U}:(Da r).length<=1:=by unfold Da;split<;>simp
theorem Up:∀{m:List (List U)},(m.flatMap Da).length<=m.length
 |[]=>AE _
 |r::m=>by
  rw[List.flatMap_cons,AP,Ad];have:=Up (m:=m);have:=rI (r:=r);omega
theorem eJ {m:List (List U)}(h:My p m){a b:List U}(z:a∈m.flatMap Da)(M:b∈m.flatMap Da)(e:uI a 0=uI b 0):a=b:=by
 have mem:∀{a},a∈m.flatMap Da->∃r∈m,a=r.drop 1/\uI r 0=uI a 0:=fun {a} z=>by
  obtain⟨r,t,O⟩:=List.mem_flatMap.1 z;unfold Da at O;split at O
  .cases O
  .simp at O;obtain⟨u,N,_⟩:=h.row r t;refine⟨r,t,by simpa using O,?_⟩;rw[N] at O⊢;simp at O;rw[O];rfl
 obtain⟨r,t,J,A⟩:=mem z;obtain⟨s,aa,K,C⟩:=mem M;have:r=s:=by
  obtain⟨i,ab,rfl⟩:=yK.1 t;obtain⟨j,E,rfl⟩:=yK.1 aa;rcases Nat.lt_trichotomy i j with O|O|O
  .exact absurd (A.trans (e.trans C.symm)) (BJ.1 h.once i j ab E O)
  .subst O;rfl
  .exact absurd (C.trans (e.symm.trans A.symm)) (BJ.1 h.once j i E ab O)
 rw[J,K,this]
theorem qP {an:List (List U)}(h:an.Perm ((CI l).flatMap Da)):CX ltB an=CH l:=by
 refine Q5 wkB h fun a b t z O C=>?_;rw[K4] at O C;exact eJ JT (h.mem_iff.1 t) (h.mem_iff.1 z) (by omega)
def KP:List Kd:=[.str,.int .i64 IntKind.i64.min IntKind.i64.max,.int .i64 IntKind.i64.min IntKind.i64.max]
theorem pS (h:Bb BT KP u):[U.str (uS u 0),.int (uI u 1),.int (uI u 2)]=u:=by
 obtain⟨_,_,rfl,⟨_,rfl,_⟩,_,_,rfl,⟨_,rfl,_⟩,_,_,rfl,⟨_,rfl,_⟩,h⟩:=h;rw[show _=[] from h];rfl
def U0 (m:List (List U))(u:List U):List (List U):=Cb 1 m [.str (uS u 0)] [.bool true]
def Cl (l:List (List U)):List (List U):=l.foldl U0 []
def Dk (u:List U):Bool:=Dl (uS u 0) (uI u 1) (uI u 2)
def BW (l:List (List U)):Int:=if 24 < l.length then 6 else if¬l.all Dk=true then 2 else if (Cl l).length < l.length then 12 else 0
def Gw (n v a:Int)(w l:ByteArray)(p q:Int):Int:=
 if (KY n 0 1099511627776&&KY a 0 1099511627776&&KY v 0 1048576&&Dn w&&Dn l&& !decide (w=l)&&decide (0<=q)&&decide (q<=p)&&decide (p<=26))=true then 0 else 2
def Ed (u:List U):Bool:=decide (Gw (uI u 0) (uI u 1) (uI u 2) (uS u 4) (uS u 5) (uI u 7) (uI u 8)=0)
def DT (u:List U):List U:=[.int (uI u 0),.int (uI u 1)]
def Q3 (u v:List U):Bool:=decide (uI u 0=uI v 0)&&decide (uI u 1=uI v 1)&&decide (uI u 2=uI v 2)&&decide (uB u 3=uB v 3)&&decide (uS u 4=uS v 4)&&decide (uS u 5=uS v 5)&&decide (uB u 6=uB v 6)&&decide (uI u 7=uI v 7)&&decide (uI u 8=uI v 8)
def LU (m:List (List U))(u:List U):Bool:=decide (Bz 2 m (DT u) < m.length)&& !Q3 ((m.getD (Bz 2 m (DT u)) []).drop 2) u
def Dv (m:List (List U)):List (List U)->Bool
 |[]=>true
 |u::l=>if LU m u=true then false else Dv (Cb 2 m (DT u) u) l
def EZ (l:List (List U)):Bool:=Dv [] l
theorem MZ {G:Nat}{m:List (List U)}:(Cb G m k v).length<=m.length+1:=by
 unfold Cb;cases decide (Bz G m k < m.length)<;>simp
theorem PP :Cl (l++[u])=U0 (Cl l) u:=by unfold Cl;rw[List.foldl_append];rfl
theorem YJ:∀{l m:List (List U)},(l.foldl U0 m).length<=m.length+l.length
 |[],m=>AE _
 |u::l,m=>by
  rw[List.foldl_cons];have:=YJ (l:=l) (m:=U0 m u);have h:(U0 m u).length<=m.length+1:=MZ;simp only[Ad];omega
theorem Ql :(Cl l).length<=l.length:=by have:=YJ (l:=l) (m:=[]);unfold Cl;simpa using this
theorem RB {p:List U->Bool}:(l++[u]).all p=true↔(l.all p=true/\p u=true):=by simp
theorem T3 {m:List (List U)}(h:i < l.length):Dv m (l.drop i)=if LU m (l.getD i [])=true then false else Dv (Cb 2 m (DT (l.getD i [])) (l.getD i [])) (l.drop (i+1)):=by
 have:l.drop i=l.getD i []::l.drop (i+1):=by
  rw[List.drop_eq_getElem_cons h,AY,AF h];rfl
 rw[this];rfl
theorem cA {m:List (List U)}{c:Bool}{t z A M N z0 z1 z2 z7 z8:Int}{C K z3 z6:Bool}{E J z4 z5:ByteArray}{q0 q1 q2 q3 q4 q5 q6 q7 q8:U}
  (h:c=true↔(Bz 2 m k < m.length/\¬(z0=t/\z1=z/\z2=A/\(z3=true↔C=true)/\z4=E/\z5=J/\(z6=true↔K=true)/\z7=M/\z8=N))) (hk:k=DT (l.getD i []))
  (O:z0=(EB 2 0 m q0 k).toI) (T:z1=(EB 2 1 m q1 k).toI) (V:z2=(EB 2 2 m q2 k).toI) (W:z3=(EB 2 3 m q3 k).toB) (Y:z4=(EB 2 4 m q4 k).toS) (Z:z5=(EB 2 5 m q5 k).toS) (e6:z6=(EB 2 6 m q6 k).toB) (e7:z7=(EB 2 7 m q7 k).toI) (e8:z8=(EB 2 8 m q8 k).toI)
  (f0:t=BU l i 0) (f1:z=BU l i 1) (f2:A=BU l i 2) (f3:C=DW l i 3) (f4:E=Bq l i 4) (f5:J=Bq l i 5) (f6:K=DW l i 6) (f7:M=BU l i 7) (f8:N=BU l i 8):c=true↔LU m (l.getD i [])=true:=by
 rw[h];subst hk;unfold LU;rw[AB,decide_eq_true_eq];refine and_congr_right fun bl=>?_;have g:∀(n:Nat) (q:U),EB 2 n m q (DT (l.getD i []))=((m.getD (Bz 2 m (DT (l.getD i []))) []).drop 2).getD n default:=fun n q=>by
  unfold EB;rw[decide_eq_true bl];simp[AY,A8]
 rw[g] at O T V W Y Z e6 e7 e8;have b:∀x y:Bool,(x=true↔y=true)↔x=y:=fun x y=>by cases x<;>cases y<;>simp
 rw[b,b,O,T,V,W,Y,Z,e6,e7,e8,f0,f1,f2,f3,f4,f5,f6,f7,f8];unfold Q3;simp only[Bool.not_eq_true',<-Bool.not_eq_true,AB,decide_eq_true_eq,and_assoc];exact Iff.rfl
def Bc (l:List (List U)):Int:=if 200 < l.length then 6 else if¬l.all Ed=true then 2 else if EZ l=true then 0 else 12
def Co (l:List (List U))(o:Nat->Nat):List (List U):=(List.range l.length).map fun q=>l.getD (o q) []
def swS (a b n q:Nat):Nat:=if a<=q/\q < a+n then q+(b - a) else if b<=q/\q < b+n then q - (b - a) else q
def rtS (a m b q:Nat):Nat:=if a<=q/\q < a+(b - m) then q+(m - a) else if a+(b - m)<=q/\q < b then q - (b - m) else q
def DH (l:List (List U))(a m b:Nat):List (List U):=l.take a++((l.take b).drop m++((l.take m).drop a++l.drop b))
section
variable {l c:List (List U)}{o F :Nat->Nat}{a b m n i j:Nat}
theorem Gh:(Co l o).length=l.length:=by unfold Co;simp
variable{q:Nat}
theorem I7 (h:q < l.length):(Co l o).getD q []=l.getD (o q) []:=by
 unfold Co;grind
theorem Qq (h:c.length=l.length)(C:∀q,q < l.length->c.getD q []=l.getD q []):c=l:=by
 refine List.ext_getElem h fun q t z=>?_;grind
theorem Ni (h:c.length=l.length)(C:∀q,q < l.length->c.getD q []=l.getD (o q) []):c=Co l o:=
 Qq (by rw[h,Gh]) fun q t=>by rw[Gh] at t;rw[C q t,I7 t]
theorem vU (h:∀q,q < l.length->o q=q):Co l o=l:=(Ni rfl fun q t=>by rw[h q t]).symm
theorem Y1 {W :Nat->Nat}(h:∀q,q < l.length-> F q < l.length/\o (F q)= W q):Co (Co l o) F =Co l W :=
 Ni (by rw[Gh,Gh]) fun q t=>by
  rw[I7 (by rw[Gh];exact t),I7 (h q t).1,(h q t).2]
theorem SD {x y:List U}(ab:i < c.length)(h:j < c.length):((c.set i x).set j y).getD q []=if q=j then y else if q=i then x else c.getD q []:=by
 grind
theorem ua (h:c=Co l (swS a b i))(A:a+i < b)(E:b+i < l.length):
  (c.set (a+i) (c.getD (b+i) [])).set (b+i) (c.getD (a+i) [])=Co l (swS a b (i+1)):=by
 have t:c.length=l.length:=by rw[h,Gh]
 refine Ni (by rw[Au,Au,t]) fun q z=>?_;rw[SD (by omega) (by omega),h,I7 (by omega),I7 (by omega)];by_cases O:q=b+i
 .subst O;rw[BH rfl];congr 1;unfold swS;grind
 .rw[BG O];by_cases C:q=a+i
  .subst C;rw[BH rfl];congr 1;unfold swS;grind
  .rw[BG C,I7 z];congr 1;unfold swS;grind
theorem vO:Co l (swS a b 0)=l:=vU fun q _=>by
 unfold swS
 (repeat' split)<;>omega
theorem xT (h:j < i)(ab:i<=m)(t:m+j<=l.length):Co (Co l (swS (m - i) m j)) (rtS (m - (i - j)) m (m+j))=Co l (rtS (m - i) m (m+j)):=
 Y1 fun q z=>by
  unfold swS rtS;constructor
  ·(repeat' split)<;>omega
  ·(repeat' split)<;>omega
theorem wX (h:i < j)(ab:i<=m)(t:m+j<=l.length):Co (Co l (swS (m - i) (m+j - i) i)) (rtS (m - i) m (m+(j - i)))=Co l (rtS (m - i) m (m+j)):=
 Y1 fun q z=>by
  unfold swS rtS;constructor
  ·(repeat' split)<;>omega
  ·(repeat' split)<;>omega
theorem wj (ab:i<=m)(t:m+i<=l.length):Co l (swS (m - i) m i)=Co l (rtS (m - i) m (m+i)):=
 (Ni Gh fun q h=>by
  rw[I7 h];congr 1;unfold swS rtS
  (repeat' split)<;>omega)
theorem Gd (O:a<=m)(C:m<=b)(h:b<=l.length):(DH l a m b).length=l.length:=by
 unfold DH;grind
theorem Fl (O:a<=m)(C:m<=b)(h:b<=l.length):(DH l a m b).getD q []=l.getD (rtS a m b q) []:=by
 unfold DH rtS;rw[AY,AY];congr 1;simp only[BA,Ao,Av,BB,A8];grind
theorem ve (O:a<=m)(C:m<=b)(h:b<=l.length):Co l (rtS a m b)=DH l a m b:=
 (Ni (Gd O C h) fun q _=>Fl O C h).symm
theorem Ss (O:a=m\/m=b)(C:a<=m)(t:m<=b)(h:b<=l.length):DH l a m b=l:=
 Qq (Gd C t h) fun q _=>by
  rw[Fl C t h];congr 1;unfold rtS
  (repeat' split)<;>omega
theorem xS (h:c=DH l a (a+1) (i+1))(z:a<=i)(ab:i+1 < l.length):
  (c.set i (c.getD (i+1) [])).set (i+1) (c.getD i [])=DH l a (a+1) (i+2):=by
 have t:c.length=l.length:=by rw[h,Gd]<;>omega
 refine Qq (by rw[Au,Au,t,Gd]<;>omega) fun q A=>?_;rw[SD (by omega) (by omega),h,Fl (by omega) (by omega) (by omega),Fl (by omega) (by omega) (by omega),Fl (by omega) (by omega) (by omega),Fl (by omega) (by omega) (by omega)];by_cases O:q=i+1
 .subst O;rw[BH rfl];congr 1;unfold rtS;grind
 .rw[BG O];by_cases C:q=i
  .subst C;rw[BH rfl];congr 1;unfold rtS;grind
  .rw[BG C];congr 1;unfold rtS;grind
theorem ss (h:c=DH l i m (m+1))(O:1<=i)(ab:i<=m)(z:m+1<=l.length):
  (c.set i (c.getD (i - 1) [])).set (i - 1) (c.getD i [])=DH l (i - 1) m (m+1):=by
 have t:c.length=l.length:=by rw[h,Gd]<;>omega
 refine Qq (by rw[Au,Au,t,Gd]<;>omega) fun q A=>?_;rw[SD (by omega) (by omega),h,Fl (by omega) (by omega) (by omega),Fl (by omega) (by omega) (by omega),Fl (by omega) (by omega) (by omega),Fl (by omega) (by omega) (by omega)];by_cases O:q=i - 1
 .subst O;rw[BH rfl];congr 1;unfold rtS;grind
 .rw[BG O];by_cases C:q=i
  .subst C;rw[BH rfl];congr 1;unfold rtS;grind
  .rw[BG C];congr 1;unfold rtS;grind
end
theorem Kn {x:Int}(O:0<=x)(C:x<=18446744073709551615):IntKind.u64.wrap x=x:=by
 refine GO .u64 x ?_ ?_<;>simp[IntKind.min,IntKind.max,IntKind.signed,IntKind.bits]<;>omega
def seg (l:List (List U))(a b:Nat):List (List U):=(l.take b).drop a
def Srt (lt:List U->List U->Bool)(l:List (List U)):Prop:=l.Pairwise fun x y=>¬lt y x=true
def Dst (lt:List U->List U->Bool)(l:List (List U)):Prop:=∀x y,x∈l->y∈l->¬lt x y=true->¬lt y x=true->x=y
section
variable {lt:List U->List U->Bool}{l c:List (List U)}{a b m s e:Nat}
theorem spl {i j:Nat}(h:i<=j):l.drop i=(l.drop i).take (j - i)++l.drop j:=by
 have e:l.drop j=(l.drop i).drop (j - i):=by rw[A7,show i+(j - i)=j by omega]
 rw[e,Az]
theorem Eh (h:b<=l.length):(seg l a b).length=b - a:=by unfold seg;rw[Av,Ao];omega
theorem Fw (h:a<=b):seg l a b=(l.drop a).take (b - a):=by unfold seg;rw[List.drop_take]
theorem Eo (h:a<=m)(C:m<=b):seg l a b=seg l a m++seg l m b:=by
 rw[Fw (AV h C),Fw h,Fw C];have e:=spl (l:=l) (i:=a) (j:=m) h
 conv=>lhs;rw[e]
 rw[List.take_append];congr 1
 .grind
 .rw[Ao,Av];by_cases t:m<=l.length
  .congr 1;omega
  .rw[List.drop_eq_nil_of_le (by omega)];simp
theorem vM {t z:Nat}(h:a<=t)(A:t<=z)(C:z<=b):seg l t z ⊆ seg l a b:=fun x E=>by
 rw[Eo h (AV A C),Eo A C];exact Ap.2 (.inr (Ap.2 (.inl E)))
variable{q x p aY y:Nat}{X P aS:List (List U)}
theorem PX (O:a<=q)(C:q < b)(h:q < l.length):(seg l a b)[q - a]? =some (l.getD q []):=by
 unfold seg;grind
theorem G3 {x:List U}(t:b<=l.length)(h:x∈seg l a b):∃q,a<=q/\q < b/\l.getD q []=x:=by
 obtain⟨k,z,rfl⟩:=yK.1 h;rw[Eh t] at z;have:=PX (l:=l) (a:=a) (b:=b) (q:=a+k) (by omega) (by omega) (by omega);grind
theorem Hx (h:Srt lt (seg l a b))(A:a<=p)(N:p < q)(J:q < b)(M:b<=l.length):¬lt (l.getD q []) (l.getD p [])=true:=by
 have O:=PX (l:=l) (a:=a) (b:=b) (q:=p) A (by omega) (by omega);have C:=PX (l:=l) (a:=a) (b:=b) (q:=q) (by omega) J (by omega);obtain⟨K,t⟩:=AG.1 O;obtain⟨E,z⟩:=AG.1 C;have:=(BJ.1 h) (p - a) (q - a) K E (by omega);rwa [t,z] at this
theorem L9 (A:WkO lt)(h:Srt lt (seg l a b))(t:a<=p)(C:p<=q)(E:q < b)(z:b<=l.length):¬lt (l.getD q []) (l.getD p [])=true:=by
 rcases Nat.lt_or_eq_of_le C with O|O
 .exact Hx h t O E z
 .subst O;exact fun h=>A.asym _ _ h h
theorem Ps (t:b<=l.length)(h:∀p q,a<=p->p < q->q < b->¬lt (l.getD q []) (l.getD p [])=true):Srt lt (seg l a b):=by
 refine BJ.2 fun i j ab z A=>?_;rw[Eh t] at ab z;have O:=PX (l:=l) (a:=a) (b:=b) (q:=a+i) (by omega) (by omega) (by omega);have C:=PX (l:=l) (a:=a) (b:=b) (q:=a+j) (by omega) (by omega) (by omega);grind
theorem UQ:Br lt l a b=l.take a++(CX lt (seg l a b)++l.drop b):=by
 unfold Br CX seg;rw[Am]
theorem TP (z:WkO lt)(hd:Dst lt (seg l a b))(t:c=l.take a++(X++l.drop b))(h:X.Perm (seg l a b))(aa:Srt lt X):c=Br lt l a b:=by
 rw[t,UQ];congr 2;refine P3 (lt:=lt) (h.trans EX.symm) aa (D0 z) fun x y A E O C=>?_;exact hd x y (h.subset A) (h.subset E) O C
theorem Tw (t:WkO lt)(hd:Dst lt (seg l a b))(aa:Srt lt (seg l a b))(h:a<=b):Br lt l a b=l:=by
 refine (TP t hd ?_ (List.Perm.refl _) aa).symm;rw[Fw h,<-spl h,Az]
theorem Ml (O:a<=s)(C:s<=m)(A:m<=e)(h:e<=b)(E:b<=l.length):
  DH l s m e=l.take a++(seg l a s++(seg l m e++(seg l s m++(seg l e b++l.drop b)))):=by
 have t:l.take s=l.take a++seg l a s:=by
  have:=Az a (l.take s);rw[List.take_take,show min a s=a by omega] at this;exact this.symm
 have z:l.drop e=seg l e b++l.drop b:=by rw[Fw h];exact spl h
 unfold DH;rw[t,z];simp only[Am];rfl
theorem U6 {S:List (List U)}:Br lt (P++(X++S)) P.length (P.length+X.length)=P++(CX lt X++S):=by
 rw[UQ];have O:(P++(X++S)).take P.length=P:=List.take_left' rfl;have C:seg (P++(X++S)) P.length (P.length+X.length)=X:=by
  rw[Fw (Nat.le_add_right _ _),List.drop_left' rfl,show P.length+X.length - P.length=X.length by omega,List.take_left' rfl]
 grind
theorem tM (h:WkO lt){W Y:List (List U)}(J:a<=s)(ab:s<=m)(M:m<=e)(Z:e<=b)(K:b<=l.length)(a2:aY+m=s+e)
  (O:Srt lt (seg l a m)) (C:Srt lt (seg l m b)) (hd:Dst lt (seg l a b))
  (t:s=a\/e=b\/¬lt (l.getD e []) (l.getD (s - 1) [])=true) (A:e=m\/s=m\/lt (l.getD (e - 1) []) (l.getD s [])=true)
  (ax:aS=DH l s m e) (a0:W=Br lt aS a aY) (a1:Y=Br lt W aY b):Y=Br lt l a b:=by
 have hP:(l.take a).length=a:=by rw[Ao];omega
 have aB:=Ml (l:=l) J ab M Z K;have g1:aS=l.take a++((seg l a s++seg l m e)++(seg l s m++(seg l e b++l.drop b))):=by rw[ax,aB];simp only[Am]
 have av:a+(seg l a s++seg l m e).length=aY:=by rw[AP,Eh (by omega),Eh (by omega)];omega
 have aw:W=l.take a++(CX lt (seg l a s++seg l m e)++(seg l s m++(seg l e b++l.drop b))):=by
  have:=U6 (lt:=lt) (P:=l.take a) (X:=seg l a s++seg l m e) (S:=seg l s m++(seg l e b++l.drop b));rw[hP,av,<-g1,<-a0] at this;exact this
 have g3:Y=l.take a++((CX lt (seg l a s++seg l m e)++CX lt (seg l s m++seg l e b))++l.drop b):=by
  have:=U6 (lt:=lt) (P:=l.take a++CX lt (seg l a s++seg l m e)) (X:=seg l s m++seg l e b) (S:=l.drop b);rw[AP,hP,DY,av,show aY+(seg l s m++seg l e b).length=b by rw[AP,Eh (by omega),Eh (by omega)];omega] at this;rw[a1,aw];simp only[Am] at this⊢;exact this
 refine TP h hd g3 ?_ ?_
 .rw[Eo (l:=l) (AV J ab) (AV M Z),Eo (l:=l) J ab,Eo (l:=l) M Z];refine (EX.append EX).trans ?_;simp only[Am];refine List.Perm.append_left _ ?_;rw[<-Am,<-Am];exact List.Perm.append_right _ List.perm_append_comm
 .refine BM.2 ⟨D0 h,D0 h,fun x z y E=>?_⟩;rw[N5,Ap] at z E;have V:=h.tr;rcases z with z|z<;>obtain⟨p,N,p2,rfl⟩:=G3 (by omega) z<;>rcases E with E|E<;>obtain⟨q,q1,T,rfl⟩:=G3 (by omega) E
  .exact Hx O N (by omega) T (by omega)
  .rcases t with t|t|t
   .omega
   .omega
   .exact V _ _ _ (V _ _ _ (L9 h O N (q:=s - 1) (by omega) (by omega) (by omega)) t) (L9 h C M (p:=e) q1 T K)
  .rcases A with A|A|A
   .omega
   .omega
   .exact V _ _ _ (V _ _ _ (L9 h C N (q:=e - 1) (by omega) (by omega) K) (h.asym _ _ A)) (L9 h O J (p:=s) q1 T (by omega))
  .exact Hx C N (by omega) T K
theorem wp (z:WkO lt)(N:a+1<=e)(W:e<=b)(h:b<=l.length)(C:Srt lt (seg l (a+1) b))(hd:Dst lt (seg l a b))
  (E:e=a+1\/lt (l.getD (e - 1) []) (l.getD a [])=true) (J:e=b\/¬lt (l.getD e []) (l.getD a [])=true):DH l a (a+1) e=Br lt l a b:=by
 have hl:=Gd (l:=l) (a:=a) (m:=a+1) (b:=e) (by omega) N (by omega);have aB:=Ml (l:=l) (a:=a) (s:=a) (m:=a+1) (e:=e) (b:=b) (AE _) (by omega) N W h;have n0:seg l a a=[]:=List.eq_nil_of_length_eq_zero (by rw[Eh (by omega)];omega);rw[n0,BF] at aB;have g:DH l a (a+1) e=l.take a++((seg l (a+1) e++(seg l a (a+1)++seg l e b))++l.drop b):=by rw[aB];simp only[Am]
 refine TP z hd g ?_ ?_
 .rw[Eo (l:=l) (a:=a) (m:=a+1) (b:=b) (by omega) (by omega),Eo (l:=l) N W,<-Am,<-Am];exact List.Perm.append_right _ List.perm_append_comm
 .have Z:=z.tr;refine BM.2 ⟨?_,BM.2 ⟨?_,?_,fun x O y t=>?_⟩,fun x O y t=>?_⟩
  .exact Ps (by omega) fun p q K A M=>Hx C K A (by omega) h
  .exact Ps (by omega) fun p q K A M=>by omega
  .exact Ps h fun p q K A M=>Hx C (by omega) A M h
  .obtain⟨p,T,p2,rfl⟩:=G3 (by omega) O;obtain⟨q,Y,V,rfl⟩:=G3 (by omega) t;obtain rfl:p=a:=by omega
   rcases J with J|J
   .omega
   .exact Z _ _ _ J (L9 z C (p:=e) (by omega) Y V h)
  .obtain⟨p,T,p2,rfl⟩:=G3 (by omega) O;rcases Ap.1 t with t|t<;>obtain⟨q,Y,V,rfl⟩:=G3 (by omega) t
   .obtain rfl:q=a:=by omega
    rcases E with E|E
    .omega
    .exact Z _ _ _ (L9 z C T (q:=e - 1) (by omega) (by omega) h) (z.asym _ _ E)
   .exact Hx C T (by omega) V h
theorem rO (t:WkO lt)(K:a<=s)(V:s<=m)(Z:m+1<=l.length)(O:Srt lt (seg l a m))(hd:Dst lt (seg l a (m+1)))
  (A:s=a\/¬lt (l.getD m []) (l.getD (s - 1) [])=true) (C:s=m\/lt (l.getD m []) (l.getD s [])=true):DH l s m (m+1)=Br lt l a (m+1):=by
 have aB:=Ml (l:=l) (a:=a) (s:=s) (m:=m) (e:=m+1) (b:=m+1) K V (by omega) (AE _) Z;have n0:seg l (m+1) (m+1)=[]:=List.eq_nil_of_length_eq_zero (by rw[Eh (by omega)];omega);rw[n0,BF] at aB;have g:DH l s m (m+1)=l.take a++((seg l a s++(seg l m (m+1)++seg l s m))++l.drop (m+1)):=by rw[aB];simp only[Am]
 refine TP t hd g ?_ ?_
 .rw[Eo (l:=l) (a:=a) (m:=m) (b:=m+1) (by omega) (by omega),Eo (l:=l) K V,Am];exact List.Perm.append_left _ List.perm_append_comm
 .have Y:=t.tr;refine BM.2 ⟨?_,BM.2 ⟨?_,?_,fun x M y h=>?_⟩,fun x M y h=>?_⟩
  .exact Ps (by omega) fun p q E z J=>Hx O E z (by omega) (by omega)
  .exact Ps (by omega) fun p q E z J=>by omega
  .exact Ps (by omega) fun p q E z J=>Hx O (by omega) z J (by omega)
  .obtain⟨p,N,p2,rfl⟩:=G3 (by omega) M;obtain⟨q,W,T,rfl⟩:=G3 (by omega) h;obtain rfl:p=m:=by omega
   rcases C with C|C
   .omega
   .exact Y _ _ _ (t.asym _ _ C) (L9 t O (p:=s) K W T (by omega))
  .obtain⟨p,N,p2,rfl⟩:=G3 (by omega) M;rcases Ap.1 h with h|h<;>obtain⟨q,W,T,rfl⟩:=G3 (by omega) h
   .obtain rfl:q=m:=by omega
    rcases A with A|A
    .omega
    .exact Y _ _ _ (L9 t O N (q:=s - 1) (by omega) (by omega) (by omega)) A
   .exact Hx O N (by omega) T (by omega)
theorem Pt {S:List (List U)}(O:x=P.length)(C:y=P.length+X.length):seg (P++(X++S)) x y=X:=by
 subst O;subst C;rw[Fw (Nat.le_add_right _ _),List.drop_left' rfl,show P.length+X.length - P.length=X.length by omega,List.take_left' rfl]
theorem Dst.mono {ak:List (List U)}(h:Dst lt l)(C:ak ⊆ l):Dst lt ak:=fun x y t z=>h x y (C t) (C z)
theorem ui (t:a<=s)(M:s<=m)(K:m<=e)(z:e<=b)(T:b<=l.length)(ao:aY+m=s+e)
  (O:Srt lt (seg l a m)) (C:Srt lt (seg l m b)) (hd:Dst lt (seg l a b)) (V:aS=DH l s m e):
  aS.length=l.length/\Srt lt (seg aS a s)/\Srt lt (seg aS s aY)/\Dst lt (seg aS a aY)/\Srt lt (seg aS aY e)/\Srt lt (seg aS e b)/\Dst lt (seg aS aY b):=by
 have hP:(l.take a).length=a:=by rw[Ao];omega
 have av:(seg l a s).length=s - a:=Eh (by omega);have aD:(seg l m e).length=e - m:=Eh (by omega);have n3:(seg l s m).length=m - s:=Eh (by omega);have n4:(seg l e b).length=b - e:=Eh T;have aB:=Ml (l:=l) t M K z T;rw[<-V] at aB;have W:seg aS a s=seg l a s:=by rw[aB];exact Pt hP.symm (by omega)
 have E:seg aS s aY=seg l m e:=by
  rw[aB,<-Am];exact Pt (by rw[AP];omega) (by rw[AP];omega)
 have Y:seg aS aY e=seg l s m:=by
  rw[aB,<-Am,<-Am];exact Pt (by rw[AP,AP];omega) (by rw[AP,AP];omega)
 have Z:seg aS e b=seg l e b:=by
  rw[aB,<-Am,<-Am,<-Am];exact Pt (by rw[AP,AP,AP];omega) (by rw[AP,AP,AP];omega)
 have J:∀x y,a<=x->x<=y->y<=b->seg l x y ⊆ seg l a b:=fun x y p1 p2 p3=>vM p1 p2 p3;have A:Srt lt (seg l a s)/\Srt lt (seg l s m):=by
  rw[Eo (l:=l) t M] at O;exact⟨(BM.1 O).1,(BM.1 O).2.1⟩
 have B:Srt lt (seg l m e)/\Srt lt (seg l e b):=by
  rw[Eo (l:=l) K z] at C;exact⟨(BM.1 C).1,(BM.1 C).2.1⟩
 refine⟨by rw[V,Gd]<;>omega,by rw[W];exact A.1,by rw[E];exact B.1,?_,by rw[Y];exact A.2,by rw[Z];exact B.2,?_⟩
 .rw[Eo (l:=aS) t (m:=s) (b:=aY) (by omega),W,E];exact hd.mono fun x N=>(Ap.1 N).elim (fun h=>J a s (by omega) t (by omega) h) (fun h=>J m e (by omega) K z h)
 .rw[Eo (l:=aS) (a:=aY) (m:=e) (b:=b) (by omega) z,Y,Z];exact hd.mono fun x N=>(Ap.1 N).elim (fun h=>J s m t M (by omega) h) (fun h=>J e b (by omega) z (AE _) h)
theorem dg (t:WkO lt)(aa:s=a\/s=m)(h:a<=m)(O:Srt lt (seg l a s))(C:Srt lt (seg l s m))(hd:Dst lt (seg l a m)):Br lt l a m=l:=by
 rcases aa with rfl|rfl
 .exact Tw t hd C h
 .exact Tw t hd O h
theorem tv (h:a<=m)(z:m<=l.length)(A:m<=x)(t:x<=y):seg (Br lt l a m) x y=seg l x y:=by
 rw[Fw t,Fw t];congr 1;have:=(Vq (lt:=lt) (l:=l) h z).2.2;rw[show x=m+(x - m) by omega,<-A7,this,A7]
theorem iJ (h:b=l.length):seg l 0 b=l:=by unfold seg;rw[List.drop_zero,h,BD]
theorem sQ (A:WkO lt){n:Nat}(O:m<=n)(E:n=l.length)(hd:Dst lt l)(N:c=Br lt (Br lt l 0 m) m n):
  c.length=l.length/\Srt lt (seg c 0 m)/\Srt lt (seg c m n)/\Dst lt (seg c 0 n)/\Br lt c 0 n=Br lt l 0 n:=by
 have T:l.drop m=(l.drop m).take (n - m)++l.drop n:=spl O;have z:l.drop n=[]:=List.drop_eq_nil_of_le (by omega);have t:(seg l 0 m).length=m:=by rw[Eh (by omega)];omega
 have J:(seg l m n).length=n - m:=Eh (by omega);have W:Br lt l 0 m=CX lt (seg l 0 m)++(seg l m n++[]):=by
  rw[UQ,List.take_zero,BF,T,Fw O,z]
 have C:c=CX lt (seg l 0 m)++(CX lt (seg l m n)++[]):=by
  rw[N,W];have:=U6 (lt:=lt) (P:=CX lt (seg l 0 m)) (X:=seg l m n) (S:=[]);rw[DY,t,J,show m+(n - m)=n by omega] at this;exact this
 have e:l=seg l 0 m++seg l m n:=by
  have:=Eo (l:=l) (a:=0) (m:=m) (b:=n) (Ak _) O;rwa [iJ E] at this
 have h:c.Perm l:=by
  rw[C,yJ];exact (EX.append EX).trans (by rw[<-e])
 have V:=h.length_eq;have Y:seg c 0 m=CX lt (seg l 0 m):=by
  have:=Pt (P:=[]) (X:=CX lt (seg l 0 m)) (S:=CX lt (seg l m n)++[]) (x:=0) (y:=m) rfl (by rw[DY,t];simp);rwa [BF,<-C] at this
 have Z:seg c m n=CX lt (seg l m n):=by
  rw[C];exact Pt (by rw[DY,t]) (by rw[DY,DY,t,J];omega)
 have q3:seg c 0 n=c:=iJ (by omega);refine⟨V,by rw[Y];exact D0 A,by rw[Z];exact D0 A,by rw[q3];exact hd.mono h.subset,?_⟩;rw[UO (by omega),UO E];exact Q5 A h fun a b K M=>hd a b (h.subset K) (h.subset M)
end
end
section
def TyB (l:List (List U)):Prop:=∀u∈l,Bb BT KB u
def Nl (l:List (List U)):Prop:=∀u v,u∈l->v∈l->uI u 0=uI v 0->uI u 1=uI v 1->u=v
variable{u v:List U}{l aj a:List (List U)}{i j:Nat}{p:List U->Bool}
theorem U3 (t:Bb BT KB u)(z:Bb BT KB v):Q3 u v=true↔u=v:=by
 constructor
 .intro h;rw[<-Nd t,<-Nd z];unfold Q3 at h;grind
 .rintro rfl;unfold Q3;simp
def mkL (L:List (List U)):List (List U):=L.map fun u=>DT u++u
theorem XS :Ce ((DT v++v).take 2) (DT u)=true↔(uI v 0=uI u 0/\uI v 1=uI u 1):=by
 show Ce [U.int (uI v 0),U.int (uI v 1)] [U.int (uI u 0),U.int (uI u 1)]=true↔_;simp[Ce,U.eqv]
theorem pq {L:List (List U)}:Bz 2 (mkL L) (DT u) < (mkL L).length↔∃v∈L,uI v 0=uI u 0/\uI v 1=uI u 1:=by
 unfold Bz;rw[List.findIdx_lt_length];unfold mkL;constructor
 .rintro⟨x,z,h⟩;obtain⟨v,t,rfl⟩:=BL.1 z;exact⟨v,t,XS.1 h⟩
 .rintro⟨v,t,h⟩;exact⟨_,BL.2 ⟨v,t,rfl⟩,XS.2 h⟩
theorem aN {L:List (List U)}(h:Bz 2 (mkL L) (DT u) < (mkL L).length):∃v∈L,(uI v 0=uI u 0/\uI v 1=uI u 1)/\(mkL L).getD (Bz 2 (mkL L) (DT u)) []=DT v++v:=by
 have O:Ce (((mkL L)[Bz 2 (mkL L) (DT u)]'h).take 2) (DT u)=true:=List.findIdx_getElem (w:=h);have C:(mkL L)[Bz 2 (mkL L) (DT u)]'h∈mkL L:=yM h;unfold mkL at C;obtain⟨v,t,e⟩:=BL.1 C;refine⟨v,t,?_,?_⟩
 .rw[<-XS];have:(DT v++v)=(mkL L)[Bz 2 (mkL L) (DT u)]'h:=e;rw[this];exact O
 .rw[AY,AF h];exact e.symm
theorem Y3 {L:List (List U)}(E:TyB L)(J:Bb BT KB u)(aa:Nl L):LU (mkL L) u=true↔∃v∈L,(uI v 0=uI u 0/\uI v 1=uI u 1)/\v≠u:=by
 unfold LU;rw[AB,decide_eq_true_eq];constructor
 .rintro⟨O,C⟩;obtain⟨v,z,A,e⟩:=aN O;rw[e,show (DT v++v).drop 2=v from rfl] at C;refine⟨v,z,A,fun h=>?_⟩;rw[(U3 (E v z) J).2 h] at C;cases C
 .rintro⟨v,z,A,N⟩;have O:Bz 2 (mkL L) (DT u) < (mkL L).length:=pq.2 ⟨v,z,A⟩;refine⟨O,?_⟩;obtain⟨t,K,V,e⟩:=aN O;rw[e,show (DT t++t).drop 2=t from rfl];have T:t=v:=aa _ _ K z (by omega) (by omega);cases M:Q3 t u
  .rfl
  .exact absurd (T.symm.trans ((U3 (E t K) J).1 M)) N
theorem Qk:∀{l L:List (List U)},TyB L->TyB l->Nl L->(Dv (mkL L) l=true↔Nl (L++l))
 |[],L,_,_,aa=>by rw[yJ];exact⟨fun _=>aa,fun _=>rfl⟩
 |u::l,L,hL,hl,aa=>by
  have V:=hl u AN;have Y:TyB l:=fun x W=>hl x (AK _ W);show (if LU (mkL L) u=true then false else Dv (Cb 2 (mkL L) (DT u) u) l)=true↔_;by_cases M:LU (mkL L) u=true
  .rw[BH M];obtain⟨v,A,J,N⟩:=(Y3 hL V aa).1 M;refine⟨fun h=>(by cases h),fun h=>absurd (h v u (AU _ A) (AO _ AN) J.1 J.2) N⟩
  .rw[BG M];have Z:∀v∈L,uI v 0=uI u 0->uI v 1=uI u 1->v=u:=fun v A O C=>by
    by_cases h:v=u
    .exact h
    .exact absurd ((Y3 hL V aa).2 ⟨v,A,⟨O,C⟩,h⟩) M
   by_cases ab:Bz 2 (mkL L) (DT u) < (mkL L).length
   .obtain⟨v,A,J,e⟩:=aN ab;obtain rfl:=Z v A J.1 J.2;have T:Cb 2 (mkL L) (DT v) v=mkL L:=by
     unfold Cb;rw[decide_eq_true ab];show (mkL L).set (Bz 2 (mkL L) (DT v)) (DT v++v)=mkL L;rw[<-e,AY,AF ab];exact List.set_getElem_self ab
    rw[T,Qk hL Y aa];constructor
    .intro h a b t z;have K:∀a,a∈L++v::l->a∈L++l:=fun a t=>by
      rcases Ap.1 t with h|h
      .exact AU _ h
      .rcases List.mem_cons.1 h with rfl|h
       .exact AU _ A
       .exact AO _ h
     exact h a b (K a t) (K b z)
    .intro h a b t z;have K:∀a,a∈L++l->a∈L++v::l:=fun a t=>by
      rcases Ap.1 t with h|h
      .exact AU _ h
      .exact AO _ (AK _ h)
     exact h a b (K a t) (K b z)
   .have T:Cb 2 (mkL L) (DT u) u=mkL (L++[u]):=by
     unfold Cb;rw[decide_eq_false ab];show mkL L++[DT u++u]=_;unfold mkL;rw[AL];rfl
    have N:∀v∈L,¬(uI v 0=uI u 0/\uI v 1=uI u 1):=fun v A h=>ab (pq.2 ⟨v,A,h⟩);rw[T,Qk (L:=L++[u]) (fun x W=>(Ap.1 W).elim (hL x) fun h=>by rw[Al.1 h];exact V) Y ?_]
    .rw[Am];rfl
    .intro a b t z E O;rcases Ap.1 t with t|t<;>rcases Ap.1 z with z|z
     .exact aa a b t z E O
     .rw[Al.1 z] at E O;exact absurd ⟨E,O⟩ (N a t)
     .rw[Al.1 t] at E O;exact absurd ⟨E.symm,O.symm⟩ (N b z)
     .rw[Al.1 t,Al.1 z]
theorem Rz (h:TyB l):EZ l=true↔Nl l:=by
 have:=Qk (l:=l) (L:=[]) (fun x z=>by cases z) h (fun u v t=>by cases t);rwa [BF] at this
def okP (l:List (List U))(p q:Nat):Prop:=uI (l.getD p []) 0=uI (l.getD q []) 0->uI (l.getD p []) 1=uI (l.getD q []) 1->l.getD p []=l.getD q []
theorem mE :Nl l↔∀p q:Nat,q < p->p < l.length->okP l p q:=by
 constructor
 .exact fun h p q O C=>h _ _ (Ca C) (Ca (by omega))
 .intro h u v E J N O;obtain⟨p,z,rfl⟩:=yK.1 E;obtain⟨q,A,rfl⟩:=yK.1 J;have K:l.getD p []=l[p]:=by rw[AY,AF z];rfl
  have M:l.getD q []=l[q]:=by rw[AY,AF A];rfl
  rcases Nat.lt_trichotomy p q with t|t|t
  .have:=h q p t A;unfold okP at this;grind
  .subst t;rfl
  .have:=h p q t z;unfold okP at this;grind
theorem Q0 (O:TyB l)(C:TyB aj)(ab:i < l.length)(h:j < aj.length):(BU l i 0=BU aj j 0/\BU l i 1=BU aj j 1/\BU l i 2=BU aj j 2/\(DW l i 3=true↔DW aj j 3=true)/\Bq l i 4=Bq aj j 4/\Bq l i 5=Bq aj j 5/\(DW l i 6=true↔DW aj j 6=true)/\BU l i 7=BU aj j 7/\BU l i 8=BU aj j 8)↔l.getD i []=aj.getD j []:=by
 rw[<-U3 (O _ (Ca ab)) (C _ (Ca h))];have b:∀x y:Bool,(x=true↔y=true)↔x=y:=fun x y=>by cases x<;>cases y<;>simp
 unfold Q3;simp only[b,AB,decide_eq_true_eq,and_assoc];exact Iff.rfl
theorem Mp (h:Bc l=0):l.length<=200:=by
 unfold Bc at h;grind
theorem AAt (h:i < l.length):u∈l.take (i+1)↔u∈l.take i\/l.getD i []=u:=by
 rw[D6 h,Ap,Al];grind
def AAN (a b:List (List U)):Bool:=decide (a.length=b.length)&&(List.range a.length).all fun j=>Q3 (a.getD j []) (b.getD j [])
theorem AAz :AAN a a=true:=by
 unfold AAN;rw[AB,Ae];exact⟨by simp,fun j _=>by unfold Q3;simp⟩
theorem AA2 {b:List (List U)}:AAN a b=true↔(a.length=b.length/\∀j:Nat,j < a.length->Q3 (a.getD j []) (b.getD j [])=true):=by
 unfold AAN;grind
theorem AAT :(BU l i 0=BU aj j 0/\BU l i 1=BU aj j 1/\BU l i 2=BU aj j 2/\(DW l i 3=true↔DW aj j 3=true)/\Bq l i 4=Bq aj j 4/\Bq l i 5=Bq aj j 5/\(DW l i 6=true↔DW aj j 6=true)/\BU l i 7=BU aj j 7/\BU l i 8=BU aj j 8)↔Q3 (l.getD i []) (aj.getD j [])=true:=by
 have b:∀x y:Bool,(x=true↔y=true)↔x=y:=fun x y=>by cases x<;>cases y<;>simp
 unfold Q3;simp only[b,AB,decide_eq_true_eq,and_assoc];exact Iff.rfl
def Ol (u:List U):Bool:=decide (100 < (uS u 0).size)
def LW (u:List U):Bool:=decide (100 < (uS u 4).size)||decide (100 < (uS u 5).size)
def HL (p l:List (List U))(h:Int):Bool:=decide (30 < p.length)||(decide (h < l.length)&&decide (l.length<=200))||decide (210 < l.length)||p.any Ol||l.any LW
theorem dN :(l++[u]).any p=true↔(l.any p=true\/p u=true):=by simp
theorem xE (h:i < l.length)(t:p (l.getD i [])=true):l.any p=true:=List.any_eq_true.2 ⟨_,Ca h,t⟩
end
section
structure Wm (l:List (List U)):Prop where
 mx:∀r∈CI l,∀v∈l,uI v 0=uI r 0->uI v 1<=uI r 2
 al:∀v∈l,∃r∈CI l,uI r 0=uI v 0
theorem io {m:List (List U)}{p:List U->Prop}(h:My p m){a b:List U}(z:a∈m)(A:b∈m)(e:uI a 0=uI b 0):a=b:=by
 obtain⟨i,ab,rfl⟩:=yK.1 z;obtain⟨j,t,rfl⟩:=yK.1 A;rcases Nat.lt_trichotomy i j with O|O|O
 .exact absurd e ((BJ.1 h.once) i j ab t O)
 .subst O;rfl
 .exact absurd e.symm ((BJ.1 h.once) j i t ab O)
variable{l:List (List U)}
theorem kS {u:List U}(h:Wm l):Wm (l++[u]):=by
 have K:=JT (l:=l);have aZ:∀r∈CI l,∃v∈l,r=U.int (uI v 0)::v:=fun r t=>by
  obtain⟨v,e,A⟩:=K.row r t;exact⟨v,A,e⟩
 have a2:∀ag,CI (l++[u])=ag->(∀r∈ag,∀v∈l++[u],uI v 0=uI r 0->uI v 1<=uI r 2)->(∀v∈l++[u],∃r∈ag,uI r 0=uI v 0)->Wm (l++[u]):=fun ag e O C=>⟨by rw[e];exact O,by rw[e];exact C⟩;refine a2 _ WN ?_ ?_
 all_goals unfold I5
 .intro r t v A e;by_cases z:O2 (CI l) (uI u 0)
  .have ab:Bz 1 (CI l) [.int (uI u 0)] < (CI l).length:=z;have E:=cB K z;have T:(CI l)[Bz 1 (CI l) [.int (uI u 0)]]'ab∈CI l:=yM ab;have ao:Xp (CI l) (uI u 0)=uI ((CI l)[Bz 1 (CI l) [.int (uI u 0)]]'ab) 2:=by
    unfold Xp EB;rw[decide_eq_true ab,cond_true,AY (l:=CI l),AF ab];rfl
   split at t
   .rename_i hc;have a5:=hc.resolve_left (fun a=>a z);unfold Cb at t;rw[decide_eq_true ab,cond_true] at t;rcases List.mem_or_eq_of_mem_set t with O|O
    .by_cases V:uI r 0=uI u 0
     .have a1:=io K O T (V.trans E.symm);rcases Ap.1 A with C|C
      .exact h.mx r O v C e
      .exfalso;obtain⟨j,N,J⟩:=yK.1 t;rw[Au] at N;by_cases M:Bz 1 (CI l) [.int (uI u 0)]=j
       .subst M;rw[List.getElem_set_self] at J;have a3:uI r 2=uI u 1:=by rw[<-J];rfl
        have a4:uI r 2=Xp (CI l) (uI u 0):=by rw[ao,<-a1]
        omega
       .rw[List.getElem_set_ne M] at J;have al:=BJ.1 K.once;rcases Nat.lt_or_gt_of_ne M with Z|Z
        .exact al _ _ ab N Z (by rw[J,V];exact E)
        .exact al _ _ N ab Z (by rw[J,V];exact E.symm)
     .rcases Ap.1 A with C|C
      .exact h.mx r O v C e
      .rw[Al.1 C] at e;exact absurd e.symm V
    .have W:uI r 0=uI u 0:=by rw[O];rfl
     have Y:uI r 2=uI u 1:=by rw[O];rfl
     rcases Ap.1 A with C|C
     .have:=h.mx _ T v C (by rw[e,W];exact E.symm);omega
     .rw[Al.1 C,Y];exact Aw _
   .rename_i hc;rcases Ap.1 A with C|C
    .exact h.mx r t v C e
    .rw[Al.1 C] at e⊢;have:=io K t T (e.symm.trans E.symm);rw[this,<-ao];have:¬Xp (CI l) (uI u 0) < uI u 1:=fun a=>hc (.inr a);omega
  .have f:=iN K z;rw[BH (.inl z)] at t;unfold Cb at t;rw[decide_eq_false (show¬Bz 1 (CI l) [.int (uI u 0)] < (CI l).length from z),cond_false] at t;rcases Ap.1 t with O|O
   .rcases Ap.1 A with C|C
    .exact h.mx r O v C e
    .rw[Al.1 C] at e;exact absurd e.symm (f r O)
   .have O:=Al.1 O;have W:uI r 0=uI u 0:=by rw[O];rfl
    have Y:uI r 2=uI u 1:=by rw[O];rfl
    rcases Ap.1 A with C|C
    .obtain⟨aJ,a0,e2⟩:=h.al v C;exact absurd (e2.trans (e.trans W)) (f aJ a0)
    .rw[Al.1 C,Y];exact Aw _
 .intro v A;by_cases z:O2 (CI l) (uI u 0)
  .have ab:Bz 1 (CI l) [.int (uI u 0)] < (CI l).length:=z;have E:=cB K z;have T:(CI l)[Bz 1 (CI l) [.int (uI u 0)]]'ab∈CI l:=yM ab;have aw:∃r∈CI l,uI r 0=uI v 0:=by
    rcases Ap.1 A with C|C
    .exact h.al v C
    .rw[Al.1 C];exact⟨_,T,E⟩
   split
   .unfold Cb;rw[decide_eq_true ab,cond_true];obtain⟨r,t,e⟩:=aw;obtain⟨j,N,J⟩:=yK.1 t;refine⟨((CI l).set (Bz 1 (CI l) [.int (uI u 0)]) ([.int (uI u 0)]++u))[j]'(by rw[Au];exact N),yM _,?_⟩;by_cases M:Bz 1 (CI l) [.int (uI u 0)]=j
    .subst M;rw[List.getElem_set_self];show uI u 0=uI v 0;rw[<-e,<-J];exact E.symm
    .rw[List.getElem_set_ne M,J];exact e
   .exact aw
  .rw[BH (.inl z)];unfold Cb;rw[decide_eq_false (show¬Bz 1 (CI l) [.int (uI u 0)] < (CI l).length from z),cond_false];rcases Ap.1 A with C|C
   .obtain⟨r,t,e⟩:=h.al v C;exact⟨r,AU _ t,e⟩
   .rw[Al.1 C];exact⟨_,AO _ (Al.2 rfl),rfl⟩
theorem VM {l:List (List U)}:∀n:Nat,n<=l.length->Wm (l.take n)
 |0,_=>⟨fun r t=>by simp[CI] at t,fun v z=>by simp at z⟩
 |n+1,h=>by rw[D6 (by omega)];exact kS (VM n (by omega))
theorem yG :Wm l:=by have:=VM (l:=l) l.length (AE _);rwa [BD] at this
def Xq (l:List (List U))(i:Nat):Prop:=uB (l.getD i []) 3=false/\∀k,k < l.length->uI (l.getD k []) 0=uI (l.getD i []) 0->¬(uI (l.getD i []) 1 < uI (l.getD k []) 1)/\¬(l.getD k []=l.getD i []/\k < i)
open Classical in
def Dr (l:List (List U)):Nat->List (List U)
 |0=>[]
 |n+1=>if Xq l n then Dr l n++[l.getD n []] else Dr l n
theorem M3 {l:List (List U)}{u:List U}:∀{n:Nat},u∈Dr l n↔∃i,i < n/\Xq l i/\l.getD i []=u
 |0=>⟨fun h=>(by cases h),fun⟨i,h,_⟩=>(by omega)⟩
 |n+1=>by
  unfold Dr;split
  .rename_i z;rw[Ap,Al,M3];constructor
   .rintro (⟨i,O,C⟩|h)
    .exact⟨i,by omega,C⟩
    .exact⟨n,by omega,z,h.symm⟩
   .rintro⟨i,O,C,t⟩;by_cases e:i=n
    .subst e;exact .inr t.symm
    .exact .inl ⟨i,by omega,C,t⟩
  .rename_i z;rw[M3];constructor
   .rintro⟨i,O,C⟩;exact⟨i,by omega,C⟩
   .rintro⟨i,O,C,t⟩;exact⟨i,by have:i≠n:=(fun e=>by subst e;exact z C);omega,C,t⟩
theorem SY {l:List (List U)}:∀{n:Nat},n<=l.length->(Dr l n).Nodup
 |0,_=>List.nodup_nil
 |n+1,h=>by
  unfold Dr;split
  .rename_i J;refine List.nodup_append.2 ⟨SY (by omega),List.nodup_cons.2 ⟨by simp,List.nodup_nil⟩,fun a E b t e=>?_⟩;obtain⟨i,O,C,A⟩:=M3.1 E;have t:=Al.1 t;have z:l.getD i []=l.getD n []:=by rw[A,e,t]
   exact ((J.2 i (by omega) (by rw[z])).2 ⟨z,O⟩)
  .exact SY (by omega)
variable{l:List (List U)}
theorem iB (aa:Nl l){n:Nat}(E:n<=l.length):Dst ltB (Dr l n):=by
 intro a b h t O C;rw[K4] at O C;obtain⟨i,J,z,rfl⟩:=M3.1 h;obtain⟨j,K,A,rfl⟩:=M3.1 t;have M:=(z.2 j (by omega) (by omega)).1;have N:=(A.2 i (by omega) (by omega)).1;exact aa _ _ (Ca (by omega)) (Ca (by omega)) (by omega) (by omega)
theorem pm (hl:TyB l)(aa:Nl l):CX ltB (Dr l l.length)=CH l:=by
 unfold CH;have K:=JT (l:=l);have Y:=yG (l:=l);refine Q5 wkB ?_ (iB aa (AE _));refine (List.perm_ext_iff_of_nodup (SY (AE _)) ?_).2 fun u=>?_
 .refine List.pairwise_flatMap.2 ⟨fun r z=>?_,K.once.imp_of_mem fun ha hb N=>?_⟩
  .unfold Da;split<;>simp
  .intro x t y A e;obtain⟨u1,e1,_⟩:=K.row _ ha;obtain⟨u2,e2,_⟩:=K.row _ hb;unfold Da at t A;split at t
   .cases t
   .split at A
    .cases A
    .have t:=Al.1 t;have A:=Al.1 A;rw[e1] at t N;rw[e2] at A N;have e3:u1=u2:=by
      have a1:x=u1:=t;have a2:y=u2:=A;rw[<-a1,<-a2];exact e
     rw[e3] at N;exact N rfl
 .rw[M3,List.mem_flatMap];constructor
  .rintro⟨i,O,C,rfl⟩;obtain⟨r,z,e⟩:=Y.al (l.getD i []) (Ca O);obtain⟨v,aE,T⟩:=K.row r z;have ax:=Y.mx r z _ (Ca O) e.symm;have a6:uI r 0=uI v 0:=by rw[aE];rfl
   have a7:uI r 2=uI v 1:=by rw[aE];rfl
   obtain⟨j,M,Z⟩:=yK.1 T;have ag:l.getD j []=v:=by rw[AY,AF M];exact Z
   have ai:=(C.2 j M (by rw[ag];omega)).1;rw[ag] at ai;have ao:v=l.getD i []:=aa _ _ T (Ca O) (by omega) (by omega);refine⟨r,z,?_⟩;unfold Da;have W:uB r 4=uB v 3:=by rw[aE];rfl
   rw[W,ao,C.1,aE,ao];simp
  .rintro⟨r,z,J⟩;obtain⟨v,aE,T⟩:=K.row r z;unfold Da at J;have W:uB r 4=uB v 3:=by rw[aE];rfl
   split at J
   .cases J
   .rename_i hn;have J:=Al.1 J;have bi:u=v:=by rw[J,aE];rfl
    have a6:uI r 0=uI v 0:=by rw[aE];rfl
    have a7:uI r 2=uI v 1:=by rw[aE];rfl
    have ba:∃i,i < l.length/\l.getD i []=v:=by
     obtain⟨j,M,Z⟩:=yK.1 T;exact⟨j,M,by rw[AY,AF M];exact Z⟩
    have bc:∃i,(i < l.length/\l.getD i []=v)/\∀k,k < i->¬l.getD k []=v:=by
     obtain⟨i,ab⟩:=ba;induction i using Nat.strongRecOn with
     |ind i ih=>
      by_cases t:∃k,k < i/\l.getD k []=v
      .obtain⟨k,k1,E⟩:=t;exact ih k k1 ⟨by omega,E⟩
      .exact⟨i,ab,fun k k1 E=>t ⟨k,k1,E⟩⟩
    obtain⟨i,⟨i1,V⟩,i3⟩:=bc;refine⟨i,i1,⟨?_,fun k hk e=>⟨?_,fun h=>i3 k h.2 (by rw[h.1,V])⟩⟩,by rw[V,bi]⟩
    .rw[V];rw[W] at hn;simpa using hn
    .rw[V] at e⊢;have:=Y.mx r z _ (Ca hk) (by omega);omega
end
section
def Bv (l:List (List U))(s:ByteArray):Nat:=l.findIdx fun u=>decide (uS u 0=s)
def Bm (l:List (List U))(s:ByteArray):Int:=if Bv l s < l.length then (Bv l s:Int) else -1
def Ju (u v:List U):Bool:=decide (uS u 0=uS v 0)&&decide (uI u 1=uI v 1)&&decide (uI u 2=uI v 2)
def Lz (a b:List (List U)):Bool:=decide (a.length=b.length)&&(List.range a.length).all fun j=>Ju (a.getD j []) (b.getD j [])
theorem gH {a:List (List U)}:Lz a a=true:=by
 unfold Lz;rw[AB,Ae];exact⟨by simp,fun j _=>by unfold Ju;simp⟩
theorem jx {a b:List (List U)}:Lz a b=true↔(a.length=b.length/\∀j:Nat,j < a.length->Ju (a.getD j []) (b.getD j [])=true):=by
 unfold Lz;rw[AB,decide_eq_true_eq,Ae];simp only[List.mem_range]
variable{a g d v p q:Int}{l P Q r:List (List U)}{i j w x:Nat}{u:List U}{D:Bool}{s:ByteArray}
theorem TX {aj:List (List U)}:(Bq l i 0=Bq aj j 0/\BU l i 1=BU aj j 1/\BU l i 2=BU aj j 2)↔Ju (l.getD i []) (aj.getD j [])=true:=by
 unfold Ju;simp only[AB,decide_eq_true_eq,and_assoc];exact Iff.rfl
def DD (l:List (List U)):Prop:=∀p q:Nat,q < p->p < l.length->¬uS (l.getD p []) 0=uS (l.getD q []) 0
structure rF (l:List (List U)):Prop where
 row:∀r∈Cl l,∃s,r=[U.str s,U.bool true]
 has:∀s,Bz 1 (Cl l) [.str s] < (Cl l).length↔∃v∈l,uS v 0=s
theorem oH (h:rF l):rF (l++[u])/\((Cl (l++[u])).length=(Cl l).length+(if∃v∈l,uS v 0=uS u 0 then 0 else 1)):=by
 have M:∀(s C:ByteArray),Ce (([U.str s,U.bool true]:List U).take 1) [.str C]=true↔s=C:=fun s C=>by
  show Ce [U.str s] [U.str C]=true↔_;simp[Ce,U.eqv]
 by_cases ab:Bz 1 (Cl l) [.str (uS u 0)] < (Cl l).length
 .have J:=(h.has _).1 ab;have O:Ce (((Cl l)[Bz 1 (Cl l) [.str (uS u 0)]]'ab).take 1) [.str (uS u 0)]=true:=List.findIdx_getElem (w:=ab);obtain⟨s,aa⟩:=h.row _ (yM ab);rw[aa,M] at O;have e:Cl (l++[u])=Cl l:=by
   rw[PP];unfold U0 Cb;rw[decide_eq_true ab,cond_true];show (Cl l).set (Bz 1 (Cl l) [.str (uS u 0)]) [U.str (uS u 0),U.bool true]=Cl l;rw[<-O,<-aa,O];exact List.set_getElem_self ab
  rw[e,BH J];refine⟨⟨by rw[e];exact h.row,fun C=>?_⟩,rfl⟩;rw[e,h.has];constructor
  .rintro⟨v,t,z⟩;exact⟨v,AU _ t,z⟩
  .rintro⟨v,t,z⟩;rcases Ap.1 t with t|t
   .exact⟨v,t,z⟩
   .rw[Al.1 t] at z;obtain⟨V,T,N⟩:=J;exact⟨V,T,N.trans z⟩
 .have J:¬ ∃v∈l,uS v 0=uS u 0:=fun a=>ab ((h.has _).2 a);have e:Cl (l++[u])=Cl l++[[U.str (uS u 0),U.bool true]]:=by
   rw[PP];unfold U0 Cb;rw[decide_eq_false ab,cond_false];rfl
  rw[e,BG J];refine⟨⟨by rw[e];exact fun r A=>(Ap.1 A).elim (h.row r) (fun a=>⟨_,Al.1 a⟩),fun C=>?_⟩,by simp⟩;have K:=h.has C;unfold Bz at K⊢;rw[List.findIdx_lt_length] at K⊢;rw[e];constructor
  .rintro⟨r,A,E⟩;rcases Ap.1 A with A|A
   .obtain⟨v,t,z⟩:=K.1 ⟨r,A,E⟩;exact⟨v,AU _ t,z⟩
   .rw[Al.1 A,M] at E;exact⟨u,AO _ (Al.2 rfl),E⟩
  .rintro⟨v,t,z⟩;rcases Ap.1 t with t|t
   .obtain⟨r,A,E⟩:=K.2 ⟨v,t,z⟩;exact⟨r,AU _ A,E⟩
   .rw[Al.1 t] at z;exact⟨_,AO _ (Al.2 rfl),(M _ _).2 z⟩
theorem YP {l:List (List U)}:∀n:Nat,n<=l.length->rF (l.take n)/\(DD (l.take n)↔(Cl (l.take n)).length=n)
 |0,_=>⟨⟨fun r Y=>by simp[Cl] at Y,fun s=>by simp[Cl,Bz]⟩,⟨fun _=>by simp[Cl],fun _ p q _ t=>by simp at t⟩⟩
 |n+1,h=>by
  obtain⟨O,C⟩:=YP (l:=l) n (by omega);obtain⟨k1,E⟩:=oH (u:=l.getD n []) O;rw[D6 (by omega)];refine⟨k1,?_⟩;rw[E];have A:(l.take n).length=n:=by rw[Ao];omega
  have W:=Ql (l:=l.take n);rw[A] at W;have z:∀p,p < n->((l.take n)++[l.getD n []]).getD p []=(l.take n).getD p []:=fun p t=>by
   rw[AY,AR (by omega),<-AY]
  have a4:((l.take n)++[l.getD n []]).getD n []=l.getD n []:=by
   rw[AY,AS (by omega),A];simp
  constructor
  .intro hd;have K:DD (l.take n):=fun p q J t=>by
    rw[A] at t;have:=hd p q J (by rw[AP,A];simp only[Ad,As];omega);rw[z p t,z q (by omega)] at this;exact this
   rw[C.1 K,BG];rintro⟨v,Z,e⟩;obtain⟨j,V,rfl⟩:=yK.1 Z;have T:j < n:=by omega
   have:=hd n j T (by rw[AP,A];simp);rw[a4,z j T,AY,AY (l:=l.take n),AF V] at this;exact this (by rw[AY] at e;exact e.symm)
  .intro N;by_cases M:∃v∈l.take n,uS v 0=uS (l.getD n []) 0
   .rw[BH M] at N;omega
   .rw[BG M] at N;have K:=C.2 (by omega);intro p q J t;rw[AP,A] at t;simp only[Ad,As] at t;by_cases e:p=n
    .subst e;rw[a4,z q J];exact fun a=>M ⟨_,Ca (by omega),a.symm⟩
    .rw[z p (by omega),z q (by omega)];exact K p q J (by omega)
theorem Sn :(Cl l).length < l.length↔¬DD l:=by
 have:=(YP (l:=l) l.length (AE _)).2;rw[BD] at this;have h:=Ql (l:=l);rw[this];omega
def DR (P:List (List U))(i:Nat)(a g:Int):List (List U):=P.set i [.str (Bq P i 0),.int a,.int g]
def Dq (P:List (List U))(i:Nat)(d:Int):List (List U):=DR P i (B9 (BU P i 1) d) (Cz (B9 (BU P i 1) d) (BU P i 2))
def FI (P:List (List U))(w x:Nat)(D:Bool):List (List U):=
 Dq (Dq P w (CJ (BU P w 1) (BU P x 1) D)) x (-CJ (BU P w 1) (BU P x 1) D)
theorem rowP (h:∀u∈P,Bb BT KP u)(ab:i < P.length):P.getD i []=[.str (Bq P i 0),.int (BU P i 1),.int (BU P i 2)]:=by
 have e:P.getD i []=P[i]:=by rw[AY,AF ab];rfl
 have:=pS (h P[i] (yM ab));unfold Bq BU;rw[e];exact this.symm
theorem qv :(DR P i a g).length=P.length:=by unfold DR;simp
theorem UZ (ab:i < P.length):(DR P i a g).getD i []=[.str (Bq P i 0),.int a,.int g]:=by
 unfold DR;rw[AY,yP];simp[ab]
theorem kZ (h:¬j=i):(DR P i a g).getD j []=P.getD j []:=by
 unfold DR;rw[AY,yP,BG (fun e=>h e.symm),AY]
theorem SV (ab:i < P.length):BU (DR P i a g) i 1=a:=by
 show ((_:List U).getD 1 default).toI=_;rw[UZ ab];rfl
theorem PZ (ab:i < P.length):BU (DR P i a g) i 2=g:=by
 show ((_:List U).getD 2 default).toI=_;rw[UZ ab];rfl
theorem set1 (h:∀u∈P,Bb BT KP u)(ab:i < P.length):E7 P i 1 [.int a]=DR P i a (BU P i 2):=by
 unfold E7 DR;rw[rowP h ab];rfl
theorem mK (ab:i < P.length){k:Int}:E7 (DR P i a g) i 2 [.int k]=DR P i a k:=by
 show (DR P i a g).set i _=_;rw[UZ ab];show (P.set i _).set i [.str (Bq P i 0),.int a,.int k]=_;rw[List.set_set];rfl
theorem Vd :(Dq P i d).length=P.length:=qv
theorem Kp (h:¬j=i):(Dq P i d).getD j []=P.getD j []:=kZ h
theorem Fv {c:Nat}(h:P.getD i []=Q.getD j []):BU P i c=BU Q j c:=by unfold BU;rw[h]
def aG (a b:ByteArray):Int:=Lib.compareBytes a.data.toList b.data.toList
theorem im:∀(a b:List UInt8),-1<=Lib.compareBytes a b/\Lib.compareBytes a b<=1
 |[],[]=>by decide
 |[],_::_=>by simp[Lib.compareBytes]
 |_::_,[]=>by simp[Lib.compareBytes]
 |a::al,b::bl=>by
  simp only[Lib.compareBytes];split
  .exact⟨Aw _,by decide⟩
  .split
   .exact⟨by decide,Aw _⟩
   .exact im al bl
theorem uq (a b:ByteArray): -1<=aG a b/\aG a b<=1:=im _ _
def Db {aW:Type}(f:Nat->aW->aW):Nat->aW->aW
 |0,x=>x
 |n+1,x=>f n (Db f n x)
theorem Ya {aW:Type}{f:Nat->aW->aW}{x:aW}(p:Nat->aW->Prop)(h:p 0 x)(aa:∀n y,p n y->p (n+1) (f n y)):∀n,p n (Db f n x)
 |0=>h
 |n+1=>aa n _ (Ya p h aa n)
def MG (P:List (List U))(i:Nat)(m:List (List U)):List (List U):=Cb 1 m [.str (Bq P i 0)] [.int i]
def CE (P:List (List U)):List (List U):=Db (MG P) P.length []
def MK (m:List (List U))(s:ByteArray):Prop:=Bz 1 m [.str s] < m.length
instance (m:List (List U))(s:ByteArray):Decidable (MK m s):=by unfold MK;infer_instance
def Fs (m:List (List U))(s:ByteArray):Int:=(EB 1 0 m (.int 0) [.str s]).toI
def rD (B:List (List U))(k:Nat):List U:=[.int (BU B k 0),.int (BU B k 1),.int (BU B k 2),.bool (DW B k 3),.str (Bq B k 4),.str (Bq B k 5),.bool (DW B k 6),.int (BU B k 7),.int (BU B k 8)]
def C9 (M B:List (List U))(k:Nat)(g:List (List U)):List (List U):=if MK M (Bq B k 4)/\MK M (Bq B k 5) then g++[rD B k] else g
def Fg (M B:List (List U)):List (List U):=Db (C9 M B) B.length []
def stF0 (P:List (List U))(k:Nat)(s:List (List U)):List (List U):=E7 s k 0 [.str (Bq P k 0)]
def st0 (P:List (List U)):List (List U):=Db (stF0 P) P.length (List.replicate P.length [.str ByteArray.empty,.int 0,.int 0,.int 0,.int 0,.int 0])
def uJ (a b:Int)(G:List (List U))(k:Nat):Prop:=a<=BU G k 2/\BU G k 2 < b
instance (a b:Int)(G:List (List U))(k:Nat):Decidable (uJ a b G k):=by unfold uJ;infer_instance
theorem eL {aW:Type}{f:Nat->List aW->List aW}(h:∀k g,(f k g).length<=g.length+1)(n:Nat):(Db f n []).length<=n:=
 Ya (p:=fun n (g:List aW)=>g.length<=n) (by simp) (fun n g t=>by have:=h n g;omega) n
theorem On {M B:List (List U)}(n:Nat):(Db (C9 M B) n []).length<=n:=eL (fun k g=>by unfold C9;split<;>simp) n
theorem iE (n:Nat):(Db (MG P) n []).length<=n:=eL (fun k g=>MZ) n
theorem Jg {L:List (List U)}:(CH L).length<=L.length:=by
 unfold CH;rw[DY];have O:∀m:List (List U),(m.flatMap Da).length<=m.length:=by
  intro m;induction m with
  |nil=>simp
  |cons r m t=>
   rw[List.flatMap_cons,AP,Ad];have:(Da r).length<=1:=by unfold Da;split<;>simp
   omega
 have C:∀(l m:List (List U)),(l.foldl I5 m).length<=m.length+l.length:=by
  intro l;induction l with
  |nil=>intro m;simp
  |cons u l t=>
   intro m;rw[List.foldl_cons,Ad];have h:(I5 m u).length<=m.length+1:=by
    unfold I5;split
    .exact MZ
    .omega
   have:=t (I5 m u);omega
 have:=O (CI L);have h:=C L [];unfold CI at*;simp at h;omega
def upK {aW:Type}(f:aW->List U->aW)(L:List (List U)):Nat->aW->aW
 |0,x=>x
 |n+1,x=>f (upK f L n x) (L.getD n [])
theorem bI {aW:Type}{f:aW->List U->aW}{u:List U}{L:List (List U)}{x:aW}:∀n,upK f (u::L) (n+1) x=upK f L n (f x u)
 |0=>rfl
 |n+1=>by
  show f (upK f (u::L) (n+1) x) (L.getD n [])=f (upK f L n (f x u)) (L.getD n []);rw[bI n]
theorem Jd {aW:Type}{f:aW->List U->aW}:∀(L:List (List U)) (x:aW),upK f L L.length x=L.foldl f x
 |[],x=>rfl
 |u::L,x=>by rw[Ad,bI,Jd L];rfl
theorem Dd (h:i < P.length):P.getD i []=P[i]:=by rw[AY,AF h];rfl
def nmL (P:List (List U)):List ByteArray:=P.map fun u=>uS u 0
theorem aE :(nmL P).length=P.length:=by unfold nmL;simp
theorem nD (h:i < P.length):(nmL P)[i]? =some (Bq P i 0):=by
 unfold nmL Bq;rw[Aj,AF h,Dd h];rfl
theorem qM :nmL (DR P i a g)=nmL P:=by
 unfold DR;rcases AQ i P.length with h|h
 .have e:=nD h;unfold nmL at*;rw[List.map_set];show (P.map _).set i (Bq P i 0)=_;refine List.ext_getElem? fun j=>?_;rw[yP];split
  .rename_i t;subst t;rw[BH (by simpa using h),e]
  .rfl
 .rw[List.set_eq_of_length_le h]
theorem uP :nmL (FI P w x D)=nmL P:=by unfold FI Dq;rw[qM,qM]
theorem Uh :Bv P s=(nmL P).findIdx fun t=>decide (t=s):=by
 unfold Bv nmL;rw[List.findIdx_map];rfl
theorem sD (h:nmL P=nmL Q)(s:ByteArray):Bv P s=Bv Q s:=by rw[Uh,Uh,h]
theorem DG (h:nmL P=nmL Q):P.length=Q.length:=by rw[<-aE,h,aE]
theorem P7 (h:nmL P=nmL Q)(s:ByteArray):Bm P s=Bm Q s:=by
 unfold Bm;rw[sD h,DG h]
theorem ai (h:Bv P s < P.length):Bq P (Bv P s) 0=s:=by
 have:=List.findIdx_getElem (xs:=P) (p:=fun u=>decide (uS u 0=s)) (w:=h);unfold Bq;rw[Dd h];exact of_decide_eq_true this
theorem FE :¬Bm P s < 0↔Bv P s < P.length:=by
 unfold Bm;split<;>omega
theorem Hi (h:Bv P s < P.length):Bm P s=Bv P s:=by unfold Bm;rw[BH h]
theorem FD {t:ByteArray}(h:Bv P s < P.length)(C:Bv P t < P.length)(z:¬s=t):¬Bv P s=Bv P t:=fun e=>z (by rw[<-ai h,<-ai C,e])
theorem WS {P:List (List U)}(hd:DD P):∀n,n<=P.length->Db (MG P) n []=(List.range n).map fun j=>[U.str (Bq P j 0),U.int j]
 |0,_=>rfl
 |n+1,h=>by
  show MG P n (Db (MG P) n [])=_;rw[WS hd n (by omega),List.range_succ,AL];unfold MG Cb;have E:Bz 1 ((List.range n).map fun j=>[U.str (Bq P j 0),U.int j]) [.str (Bq P n 0)]=n:=by
   have:¬Bz 1 ((List.range n).map fun j=>[U.str (Bq P j 0),U.int j]) [.str (Bq P n 0)] < ((List.range n).map fun j=>[U.str (Bq P j 0),U.int j]).length:=fun z=>by
    unfold Bz at z;rw[List.findIdx_lt_length] at z;obtain⟨r,J,e⟩:=z;obtain⟨j,t,rfl⟩:=BL.1 J;have t:=List.mem_range.1 t;have A:Bq P j 0=Bq P n 0:=by
     have:Ce [U.str (Bq P j 0)] [.str (Bq P n 0)]=true:=e;simpa [Ce,U.eqv] using this
    exact hd n j t (by omega) A.symm
   have C:Bz 1 ((List.range n).map fun j=>[U.str (Bq P j 0),U.int j]) [.str (Bq P n 0)]<=((List.range n).map fun j=>[U.str (Bq P j 0),U.int j]).length:=List.findIdx_le_length;simp only[List.length_map,List.length_range] at this C;omega
  rw[E];simp
theorem qB (hd:DD P):Bz 1 (CE P) [.str s]=Bv P s:=by
 unfold CE;rw[WS hd _ (AE _)];unfold Bz;rw[List.findIdx_map,Uh];have e:nmL P=(List.range P.length).map fun j=>Bq P j 0:=by
  refine List.ext_getElem? fun j=>?_;rcases AQ j P.length with h|h
  .rw[nD h];simp[h]
  .rw[Ai (by rw[aE];exact h),Ai (by simpa using h)]
 rw[e,List.findIdx_map];congr 1;funext j;show Ce [U.str (Bq P j 0)] [.str s]=decide (Bq P j 0=s);simp[Ce,U.eqv]
theorem WT (hd:DD P):(CE P).length=P.length:=by unfold CE;rw[WS hd _ (AE _)];simp
theorem GB (hd:DD P):MK (CE P) s↔Bv P s < P.length:=by
 unfold MK;rw[qB hd,WT hd]
theorem CO (hd:DD P)(h:Bv P s < P.length):Fs (CE P) s=Bv P s:=by
 unfold Fs EB;rw[qB hd,WT hd,decide_eq_true h];have:(CE P).getD (Bv P s) []=[U.str (Bq P (Bv P s) 0),U.int (Bv P s)]:=by
  unfold CE;rw[WS hd _ (AE _),AY];simp[h]
 rw[this];rfl
def OkR (P:List (List U)):Prop:=∀i,i < P.length-> -10000<=BU P i 1/\BU P i 1<=10000/\ -12<=BU P i 2/\BU P i 2<=48
theorem uL (h:OkR P):OkR (Dq P i d):=fun j t=>by
 rw[Vd] at t;by_cases e:j=i
 .subst e;have:=h j t;have a:=sO (BU P j 1) d;have b:=uG (x:=B9 (BU P j 1) d) this.2.2.1 this.2.2.2;unfold Dq;rw[SV t,PZ t];omega
 .rw[Fv (c:=1) (Kp e),Fv (c:=2) (Kp e)];exact h j t
theorem uM (h:OkR P):OkR (FI P w x D):=uL (uL h)
theorem Nm (h:BW P=0):OkR P/\DD P/\P.length<=24:=by
 unfold BW at h;split at h
 .omega
 split at h
 .omega
 split at h
 .omega
 rename_i O C t;have C:=Ae.1 (At C);refine⟨fun i ab=>?_,Classical.not_not.1 fun e=>t (Sn.2 e),by omega⟩;have:=C _ (yM ab);unfold Dk at this;rw[G9] at this;have e:∀c,BU P i c=uI P[i] c:=fun c=>by unfold BU;rw[Dd ab];rfl
 rw[e,e];omega
def ctU (M:List (List U))(s:List (List U))(u:List U):List (List U):=FI s (Fs M (uS u 4)).toNat (Fs M (uS u 5)).toNat (uB u 6)
def rfU (s:List (List U))(u:List U):List (List U):=
 if Bm s (uS u 4) < 0\/Bm s (uS u 5) < 0 then s else FI s (Bm s (uS u 4)).toNat (Bm s (uS u 5)).toNat (uB u 6)
def MX (P:List (List U))(u:List U):Prop:=Bv P (uS u 4) < P.length/\Bv P (uS u 5) < P.length/\¬uS u 4=uS u 5
theorem Mo {P B:List (List U)}(hd:DD P)(z:∀u∈B,¬uS u 4=uS u 5):∀n,n<=B.length->∀u∈Db (C9 (CE P) B) n [],MX P u
 |0,_,u,t=>by cases t
 |n+1,h,u,t=>by
  have t:u∈C9 (CE P) B n (Db (C9 (CE P) B) n []):=t;unfold C9 at t;split at t
  .rename_i A;rcases Ap.1 t with O|O
   .exact Mo hd z n (by omega) u O
   .rw[Al.1 O];refine⟨(GB hd).1 A.1,(GB hd).1 A.2,?_⟩;have:=z _ (yM (show n < B.length by omega));show¬Bq B n 4=Bq B n 5;unfold Bq;rw[Dd (by omega)];exact this
  .exact Mo hd z n (by omega) u t
theorem IF {M G P:List (List U)}:∀n,nmL (upK (ctU M) G n P)=nmL P
 |0=>rfl
 |n+1=>uP.trans (IF n)
theorem GK {M G P:List (List U)}(h:OkR P):∀n,OkR (upK (ctU M) G n P)
 |0=>h
 |n+1=>uM (GK h n)
theorem HM {B P:List (List U)}:∀n,nmL (upK rfU B n P)=nmL P
 |0=>rfl
 |n+1=>by
  have e:∀s u,nmL (rfU s u)=nmL s:=fun s u=>by unfold rfU;split;rfl;exact uP
  exact (e _ _).trans (HM n)
theorem uQ {P B:List (List U)}(hd:DD P):∀n,(Db (C9 (CE P) B) n []).foldl (ctU (CE P)) P=upK rfU B n P
 |0=>rfl
 |n+1=>by
  have E:=uQ (B:=B) hd n;show (C9 (CE P) B n _).foldl _ P=rfU (upK rfU B n P) (B.getD n []);have z:=P7 (HM (B:=B) (P:=P) n) (Bq B n 4);have A:=P7 (HM (B:=B) (P:=P) n) (Bq B n 5);by_cases t:MK (CE P) (Bq B n 4)/\MK (CE P) (Bq B n 5)
  .have J:=(GB hd).1 t.1;have K:=(GB hd).1 t.2;have M:=Hi J;have N:=Hi K;rw[show C9 (CE P) B n (Db (C9 (CE P) B) n [])=Db (C9 (CE P) B) n []++[rD B n] from BH t,List.foldl_append,E];refine Eq.trans ?_ (BG (by show¬(Bm (upK rfU B n P) (Bq B n 4) < 0\/Bm (upK rfU B n P) (Bq B n 5) < 0);rw[z,A,M,N];omega)).symm;show FI (upK rfU B n P) (Fs (CE P) (Bq B n 4)).toNat (Fs (CE P) (Bq B n 5)).toNat (DW B n 6)=FI (upK rfU B n P) (Bm (upK rfU B n P) (Bq B n 4)).toNat (Bm (upK rfU B n P) (Bq B n 5)).toNat (DW B n 6);rw[z,A,M,N,CO hd J,CO hd K]
  .rw[show C9 (CE P) B n (Db (C9 (CE P) B) n [])=Db (C9 (CE P) B) n [] from BG t,E];refine (BH ?_).symm;show Bm (upK rfU B n P) (Bq B n 4) < 0\/Bm (upK rfU B n P) (Bq B n 5) < 0;rw[z,A];rw[GB hd,GB hd] at t;rcases AQ (Bv P (Bq B n 4)) P.length with C|C
   .right;have O:¬Bv P (Bq B n 5) < P.length:=fun h=>t ⟨C,h⟩;exact At fun e=>O (FE.1 e)
   .left;exact At fun e=>by have:=FE.1 e;omega
theorem UN {L:List (List U)}(h:Bc L=0):∀u∈CH L,¬uS u 4=uS u 5:=fun u z=>by
 have E:u∈L:=by
  unfold CH at z;rw[N5] at z;obtain⟨r,K,O⟩:=List.mem_flatMap.1 z;obtain⟨v,M,J⟩:=(JT (l:=L)).row r K;unfold Da at O;split at O
  .cases O
  .rw[M] at O;have:u=v:=by simpa using O
   rw[this];exact J
 unfold Bc at h;split at h
 .omega
 split at h
 .omega
 rename_i C;have t:=Ae.1 (At C) u E;unfold Ed Gw at t;have t:=of_decide_eq_true t;split at t
 .rename_i A;simp only[AB,Bool.not_eq_true',decide_eq_false_iff_not] at A;exact A.1.1.1.2
 .omega
def FP (P L:List (List U)):List (List U):=(CH L).foldl rfU P
theorem gS {L:List (List U)}(hd:DD P):upK (ctU (CE P)) (Fg (CE P) (CH L)) (Fg (CE P) (CH L)).length P=FP P L:=by
 rw[Jd];unfold Fg FP;rw[uQ hd,Jd]
def AA7 (l:List (List U))(u:List U):Prop:=u∈l/\uB u 3=false/\∀v∈l,uI v 0=uI u 0->uI v 1<=uI u 1
theorem AA5 :u∈Dr l l.length↔AA7 l u:=by
 have J:∀v∈l,∃j,j < l.length/\l.getD j []=v:=fun v t=>by
  obtain⟨j,K,T⟩:=yK.1 t;exact⟨j,K,by rw[Dd K];exact T⟩
 rw[M3];constructor
 .rintro⟨i,O,C,rfl⟩;refine⟨Ca O,C.1,fun v t e=>?_⟩;obtain⟨k,h,rfl⟩:=J v t;have:=(C.2 k h e).1;omega
 .rintro⟨O,C,N⟩;have V:∃i,(i < l.length/\l.getD i []=u)/\∀k,k < i->¬l.getD k []=u:=by
   obtain⟨i,ab⟩:=J u O;induction i using Nat.strongRecOn with
   |ind i Z=>
    by_cases M:∃k,k < i/\l.getD k []=u
    .obtain⟨k,A,E⟩:=M;exact Z k A ⟨by omega,E⟩
    .exact⟨i,ab,fun k A E=>M ⟨k,A,E⟩⟩
  obtain⟨i,⟨W,z⟩,Y⟩:=V;refine⟨i,W,⟨by rw[z];exact C,fun k h e=>?_⟩,z⟩;rw[z] at e⊢;have:=N _ (Ca h) e;exact⟨by omega,fun a=>Y k a.2 a.1⟩
theorem AAl {m:List (List U)}(t:TyB l)(aa:Nl l)(z:TyB m)(A:Nl m)(h:∀u,AA7 l u↔AA7 m u):CH l=CH m:=by
 rw[<-pm t aa,<-pm z A];refine Q5 wkB ((List.perm_ext_iff_of_nodup (SY (AE _)) (SY (AE _))).2 fun u=>?_) (iB aa (AE _));rw[AA5,AA5];exact h u
theorem AAG (z:TyB l):Bc l=0↔(l.length<=200/\(∀u∈l,Ed u=true)/\Nl l):=by
 unfold Bc;rw[<-Rz z,<-Ae];split
 .exact⟨fun h=>by omega,fun h=>by omega⟩
 .split
  .rename_i h;exact⟨fun h=>by omega,fun a=>absurd a.2.1 h⟩
  .rename_i O C;split
   .rename_i t;exact⟨fun _=>⟨by omega,At C,t⟩,fun _=>rfl⟩
   .rename_i t;exact⟨fun h=>by omega,fun a=>absurd a.2.2 t⟩
theorem AAh {m:List (List U)}(A:TyB l)(h:Bc l=0)(z:∀u∈m,u∈l)(E:m.length<=200):TyB m/\Bc m=0:=by
 obtain⟨a,b,c⟩:=(AAG A).1 h;have C:TyB m:=fun u t=>A u (z u t);exact⟨C,(AAG C).2 ⟨E,fun u t=>b u (z u t),fun u v t J=>c u v (z u t) (z v J)⟩⟩
theorem AAx {s:List U}{n:Int}(Y:TyB l)(h:Bc l=0)(hn:l.length<=100)(au:Bb BT KB s)(aa:Ed s=true)(Z:uI s 0=n)
  (J:∀v∈l,uI v 0=n->uI v 1 < uI s 1) (C:∀v,v∈r↔(v∈l/\¬uI v 0=n)) (ad:r.length<=100):
  Bc (l++[s])=0/\(uB s 3=true->Bc r=0/\CH (l++[s])=CH r)/\(¬uB s 3=true->Bc (r++[s])=0/\CH (l++[s])=CH (r++[s])):=by
 obtain⟨a,b,c⟩:=(AAG Y).1 h;have mem:∀{q:List (List U)} {v},v∈q++[s]↔(v∈q\/v=s):=fun {q v}=>by rw[Ap,Al]
 have K:TyB (l++[s]):=fun u t=>(mem.1 t).elim (Y u) fun e=>by rw[e];exact au
 have aF:Nl (l++[s]):=fun u v t A N O=>by
  rcases mem.1 t with t|t<;>rcases mem.1 A with A|A
  .exact c u v t A N O
  .rw[A] at N O;have:=J u t (by omega);omega
  .rw[t] at N O;have:=J v A (by omega);omega
  .rw[t,A]
 have af:Bc (l++[s])=0:=(AAG K).2 ⟨by rw[AP];simp only[Ad,As];omega,fun u t=>(mem.1 t).elim (b u) fun e=>by rw[e];exact aa,aF⟩;refine⟨af,fun W=>?_,fun W=>?_⟩
 .obtain⟨M,aj⟩:=AAh (m:=r) K af (fun u t=>mem.2 (.inl ((C u).1 t).1)) (by omega);refine⟨aj,AAl K aF M ((AAG M).1 aj).2.2 fun u=>?_⟩;constructor
  .rintro⟨x,y,z⟩;have t:u∈l:=(mem.1 x).resolve_right fun e=>by rw[e,W] at y;cases y
   have V:¬uI u 0=n:=fun e=>by have:=J u t e;have:=z s (mem.2 (.inr rfl)) (by omega);omega
   exact⟨(C u).2 ⟨t,V⟩,y,fun v A e=>z v (mem.2 (.inl ((C v).1 A).1)) e⟩
  .rintro⟨x,y,z⟩;obtain⟨t,V⟩:=(C u).1 x;refine⟨mem.2 (.inl t),y,fun v A e=>?_⟩;have E:=(mem.1 A).resolve_right fun T=>by rw[T] at e;omega
   exact z v ((C v).2 ⟨E,by omega⟩) e
 .obtain⟨M,aj⟩:=AAh (m:=r++[s]) K af (fun u t=>(mem.1 t).elim (fun t=>mem.2 (.inl ((C u).1 t).1)) fun e=>mem.2 (.inr e)) (by rw[AP];simp only[Ad,As];omega);refine⟨aj,AAl K aF M ((AAG M).1 aj).2.2 fun u=>?_⟩;constructor
  .rintro⟨x,y,z⟩;refine⟨?_,y,fun v A e=>z v ((mem.1 A).elim (fun E=>mem.2 (.inl ((C v).1 E).1)) fun e=>mem.2 (.inr e)) e⟩;rcases mem.1 x with t|t
   .exact mem.2 (.inl ((C u).2 ⟨t,fun e=>by have:=J u t e;have:=z s (mem.2 (.inr rfl)) (by omega);omega⟩))
   .exact mem.2 (.inr t)
  .rintro⟨x,y,z⟩;rcases mem.1 x with t|t
   .obtain⟨t,V⟩:=(C u).1 t;refine⟨mem.2 (.inl t),y,fun v A e=>?_⟩;have E:=(mem.1 A).resolve_right fun T=>by rw[T] at e;omega
    exact z v (mem.2 (.inl ((C v).2 ⟨E,by omega⟩))) e
   .refine⟨mem.2 (.inr t),y,fun v A e=>?_⟩;rcases mem.1 A with E|E
    .have:=J v E (by rw[e,t,Z]);rw[t];omega
    .rw[E,t];exact Aw _
def AAA (n:Int)(r:List (List U))(u:List U):List (List U):=if uI u 0=n then r else r++[u]
def AAE (n:Int)(v:Int)(u:List U):Int:=if uI u 0=n then max v (uI u 1+1) else v
theorem AAq {l:List (List U)}{n:Int}{v:List U}:∀k,k<=l.length->(v∈upK (AAA n) l k []↔(v∈l.take k/\¬uI v 0=n))
 |0,_=>by simp[upK]
 |k+1,h=>by
  have t:=AAq (l:=l) (n:=n) (v:=v) k (by omega);rw[AAt (by omega)];show v∈AAA n (upK (AAA n) l k []) (l.getD k [])↔_;unfold AAA;split
  .rename_i e;rw[show upK (fun r u=>if uI u 0=n then r else r++[u]) l k []=upK (AAA n) l k [] from rfl,t];exact⟨fun a=>⟨.inl a.1,a.2⟩,fun a=>⟨a.1.resolve_right fun z=>a.2 (by rw[<-z];exact e),a.2⟩⟩
  .rename_i e;rw[Ap,Al,show upK (fun r u=>if uI u 0=n then r else r++[u]) l k []=upK (AAA n) l k [] from rfl,t];constructor
   .rintro (a|a)
    .exact⟨.inl a.1,a.2⟩
    .rw[a];exact⟨.inr rfl,e⟩
   .rintro⟨a|a,b⟩
    .exact .inl ⟨a,b⟩
    .exact .inr a.symm
theorem AAQ {l:List (List U)}{n:Int}:∀k,(upK (AAA n) l k []).length<=k
 |0=>AE _
 |k+1=>by
  have h:=AAQ (l:=l) (n:=n) k;show (AAA n (upK (AAA n) l k []) (l.getD k [])).length<=_;generalize upK (AAA n) l k []=r at h;unfold AAA;split
  .omega
  .rw[AP];simp only[Ad,As];omega
theorem AA6 {l:List (List U)}{n:Int}:∀k,k<=l.length->∀v∈l.take k,uI v 0=n->uI v 1 < upK (AAE n) l k 0
 |0,_,v,hv,_=>by simp at hv
 |k+1,h,v,hv,e=>by
  have t:=AA6 (l:=l) (n:=n) k (by omega);show _ < AAE n (upK (AAE n) l k 0) (l.getD k []);generalize upK (AAE n) l k 0=x at t;unfold AAE;rcases (AAt (by omega)).1 hv with a|a
  .have:=t v a e;split<;>omega
  .rw[a,BH e];omega
theorem AA3 {l:List (List U)}{n M:Int}(h:∀v∈l,uI v 1<=M)(t:0<=M):∀k,k<=l.length->0<=upK (AAE n) l k 0/\upK (AAE n) l k 0<=M+1
 |0,_=>by show (0:Int)<=0/\(0:Int)<=M+1;omega
 |k+1,hk=>by
  have z:=AA3 (n:=n) h t k (by omega);show 0<=AAE n (upK (AAE n) l k 0) (l.getD k [])/\AAE n (upK (AAE n) l k 0) (l.getD k [])<=M+1;generalize upK (AAE n) l k 0=x at z;have:=h _ (Ca (show k < l.length by omega));unfold AAE;split<;>omega
theorem AAb {n:Int}{w x:ByteArray}(h:Gw n v a w x p q=0):(0<=n/\n<=1099511627776)/\(0<=a/\a<=1099511627776)/\(0<=v/\v<=1048576)/\0<=q/\q<=p/\p<=26:=by
 unfold Gw at h;split at h
 .rename_i C;simp only[AB,KY,decide_eq_true_eq] at C;omega
 .omega
theorem AAg (h:Bc l=0):∀v∈l,uI v 1<=1048576:=fun v z=>by
 unfold Bc at h;split at h
 .omega
 split at h
 .omega
 rename_i C;have t:=Ae.1 (At C) v z;exact (AAb (of_decide_eq_true t)).2.2.1.2
theorem AA4 (h:Bc l=0):∀v∈l,0<=uI v 1:=fun v z=>by
 unfold Bc at h;split at h
 .omega
 split at h
 .omega
 rename_i C;have t:=Ae.1 (At C) v z;exact (AAb (of_decide_eq_true t)).2.2.1.1
theorem AA8 {n:Int}{b c:Bool}{w x:ByteArray}(J:TyB l)(h:Bc l=0)(T:l.length<=30)(K:v=upK (AAE n) l l.length 0)(E:r=upK (AAA n) l l.length [])
  (M:w.size<=BT) (N:x.size<=BT) (aa:Gw n v a w x p q=0) {s:List U} (ay:s=[.int n,.int v,.int a,.bool b,.str w,.str x,.bool c,.int p,.int q]) {m:List (List U)} (C:m=if b=true then r else r++[s]):
  Bc (l++[s])=0/\m.length<=31/\Bc m=0/\CH (l++[s])=CH m:=by
 subst ay;have ab:=AAb aa;have au:Bb BT KB [U.int n,.int v,.int a,.bool b,.str w,.str x,.bool c,.int p,.int q]:=by
  have i:∀{z:Int},(0<=z/\z<=1099511627776)->KdU BT (.int .i64 IntKind.i64.min IntKind.i64.max) (U.int z):=fun {z} hz=>⟨z,rfl,Int.le_trans (show IntKind.i64.min<=0 by decide) hz.1,Int.le_trans hz.2 (by decide)⟩;exact⟨_,_,rfl,i (by omega),_,_,rfl,i (by omega),_,_,rfl,i (by omega),_,_,rfl,⟨_,rfl⟩,_,_,rfl,⟨_,rfl,M⟩,_,_,rfl,⟨_,rfl,N⟩,_,_,rfl,⟨_,rfl⟩,_,_,rfl,i (by omega),_,_,rfl,i (by omega),rfl⟩
 have V:r.length<=l.length:=by rw[E];exact AAQ _
 have A:=AAx (r:=r) (s:=[U.int n,.int v,.int a,.bool b,.str w,.str x,.bool c,.int p,.int q]) (n:=n) J h (by omega) au (decide_eq_true aa) rfl
  (fun y O e=>by have:=AA6 (n:=n) l.length (AE _) y (by rw[BD];exact O) e;rw[<-K] at this;exact this)
  (fun y=>by rw[E,AAq _ (AE _),BD]) (by omega)
 refine⟨A.1,?_⟩;by_cases t:b=true
 .rw[C,BH t];exact⟨by omega,A.2.1 t⟩
 .rw[C,BG t];exact⟨by rw[AP];simp only[Ad,As];omega,A.2.2 t⟩
theorem Q7 {b:Int}(h:(if¬a=0 then a else b)=0):a=0/\b=0:=by
 by_cases e:a=0
 .rw[BG (fun k=>k e)] at h;exact⟨e,h⟩
 .rw[BH e] at h;exact absurd h e
end
section
open Go Go.Proofs
def Ri (c:Code)(k:Nat):Oper:=match c with
 | .seq (.region _ Z _) _=>Z[k]!
 | .region _ Z _=>Z[k]!
 |_=>default
def Z9:Code->Nat
 | .seq (.region i _ _) _=>i
 | .region i _ _=>i
 |_=>0
def Xf (aA:Func)(st e:TypeId):ClC:=
 match aA.body.getD .skip with
 | .seq aO (.seq (.seq aS (.cond _ c2 _)) c3)=>{ o0:=Ri aO 0,o1:=Ri aS 0,o2:=Ri aS 1,p:=Ri c2 0,o5:=Ri c3 0,o6:=Ri c3 1,o7:=Ri c3 2,o8:=Ri c3 3,st,e,r0:=Z9 aO,r1:=Z9 aS,r2:=Z9 c2,r3:=Z9 c3 }
 |_=>⟨default,default,default,default,default,default,default,default,st,e,0,0,0,0⟩
def Gy:List (FuncId × TypeId):=[(119,35),(106,56),(104,34)]
theorem su:(Xf Try.f119 35 38).Ok Try.prog 119 Try.f119:=by refine ⟨Try.func119,?_,?_,?_,?_,⟨⟨.const (.slice none 0 0),?_⟩,?_,?_⟩,⟨?_,?_,?_⟩,⟨⟨35,?_⟩,?_,?_⟩,⟨?_,?_,?_⟩,⟨?_,?_,?_⟩,⟨?_,?_,?_⟩,⟨?_,?_,?_⟩,⟨?_,?_,?_⟩,?_⟩<;>kernel_rfl
theorem sK:(Xf Try.f106 56 61).Ok Try.prog 106 Try.f106:=by refine ⟨Try.func106,?_,?_,?_,?_,⟨⟨.const (.slice none 0 0),?_⟩,?_,?_⟩,⟨?_,?_,?_⟩,⟨⟨56,?_⟩,?_,?_⟩,⟨?_,?_,?_⟩,⟨?_,?_,?_⟩,⟨?_,?_,?_⟩,⟨?_,?_,?_⟩,⟨?_,?_,?_⟩,?_⟩<;>kernel_rfl
theorem qr:(Xf Try.f104 34 23).Ok Try.prog 104 Try.f104:=by refine ⟨Try.func104,?_,?_,?_,?_,⟨⟨.const (.slice none 0 0),?_⟩,?_,?_⟩,⟨?_,?_,?_⟩,⟨⟨34,?_⟩,?_,?_⟩,⟨?_,?_,?_⟩,⟨?_,?_,?_⟩,⟨?_,?_,?_⟩,⟨?_,?_,?_⟩,⟨?_,?_,?_⟩,?_⟩<;>kernel_rfl
theorem FU:Nk Try.prog Gy:=by
 unfold Nk Gy;simp only[AW];exact⟨⟨_,_,su,rfl⟩,⟨_,_,sK,rfl⟩,⟨_,_,qr,rfl⟩,fun _ h=>absurd h (by simp)⟩
instance:Inhabited RgP:=⟨⟨0,0,0,0,0,0,0,0,0,default,default,default,default,[],.skip⟩⟩
instance:Inhabited RgC:=⟨⟨[],0,default,default,0,0,0,0,0,0,[],0,default,.skip⟩⟩
def rgOf (k:Nat)(c:Code)(out:Tmp)(mt kt et:TypeId)(ks:List Kd)(e:TypeId):RgC:=
 match Uw k c with
 |(pre,.seq (.seq (.region i1 a _) (.block bid (.loop (.seq (.region i2 b _) (.seq (.cond _ _ _) (.block bi (.seq (.region i3 d _) rest))))))) post)=>
  {pre,i1,q1:=a[0]!,q2:=a[1]!,tm:=(match (a[0]!).op with| .move (.tmp t)=>t|_=>0),dm:=((a[0]!).dst).getD 0,out,mt,kt,et,ks,e,
   p:={ di:=((a[1]!).dst).getD 0,dn:=((b[0]!).dst).getD 0,db:=((b[1]!).dst).getD 0,de:=((d[0]!).dst).getD 0,dv:=((d[1]!).dst).getD 0,bid,bi,i2,i3,o1:=b[0]!,o2:=b[1]!,o3:=d[0]!,o4:=d[1]!,l3:=d.toList.drop 2,rest },post }
 |_=>default
def rgB:RgC:=rgOf 4 (Try.f65.body.getD .skip) 8 143 2 38 [.int .i64 IntKind.i64.min IntKind.i64.max,.int .i64 IntKind.i64.min IntKind.i64.max,.int .i64 IntKind.i64.min IntKind.i64.max,.bool,.str,.str,.bool,.int .i64 IntKind.i64.min IntKind.i64.max,.int .i64 IntKind.i64.min IntKind.i64.max] 38
theorem tA:Try.f65.body=some rgB.code:=by kernel_rfl
theorem wO:rgB.Ok Try.prog:=by refine ⟨⟨⟨?_,?_,?_⟩,⟨?_,?_,?_⟩,⟨?_,?_,?_⟩,⟨?_,?_,?_⟩⟩,⟨?_,?_,?_⟩,⟨?_,?_,?_⟩,?_⟩<;>kernel_rfl
end
section
open Go Go.Eng Go.Proofs
def musS:Nat->Tmp->Nat
 |80,13=>1
 |81,25=>3
 |f,t=>mus f t
def yA:Nat->Nat->Bool
 |80,14=>true
 |24,5=>true
 |f,r=>rZ f r
def NZ:FuncId->EM:=fun f=>⟨WE j5 f,Wp jQ f,AA9 f,musS f,yA f⟩
end
section
def Xk:ByteArray:=⟨#[97,110,110]⟩
def UK:ByteArray:=⟨#[98,111,98]⟩
def iy:ByteArray:=⟨#[99,97,116]⟩
def bZ:List (List U):=[[.str Xk,.int 2000,.int 0],[.str UK,.int 1500,.int 10],[.str iy,.int 1000,.int 20]]
def bO:List (List U):=[[.int 1,.int 0,.int 5,.bool false,.str Xk,.str UK,.bool true,.int 26,.int 20],[.int 2,.int 0,.int 6,.bool false,.str UK,.str iy,.bool true,.int 26,.int 3],[.int 3,.int 0,.int 7,.bool false,.str iy,.str Xk,.bool true,.int 26,.int 25]]
def In:List (List U):=[[.str UK,.int 1,.int 1,.int 1,.int 17,.int 1],[.str Xk,.int 1,.int 1,.int 1,.int 5,.int 1],[.str iy,.int 1,.int 1,.int 1,.int (-22),.int 1]]
theorem nF:In.length=3:=by kernel_rfl
theorem gb:Cq UK 1500 10 Xk 2000 0=0:=by kernel_rfl
theorem ex_i:B9 1500 (CJ 1500 2000 true)=1514:=by kernel_rfl
theorem ex_g:Cz (B9 1500 (CJ 1500 2000 true)) 10=10:=by kernel_rfl
theorem ex_j:B9 2000 (-(CJ 1500 2000 true))=1986:=by kernel_rfl
theorem ex_h:Cz (B9 2000 (-(CJ 1500 2000 true))) 0=0:=by kernel_rfl
theorem wR:Bq In 0 0=UK/\BU In 0 1=1/\BU In 0 2=1/\BU In 0 3=1/\BU In 0 4=17/\BU In 0 5=1:=⟨by kernel_rfl,by kernel_rfl,by kernel_rfl,by kernel_rfl,by kernel_rfl,by kernel_rfl⟩
end
section
open Go Go.Eng Go.Proofs
def yE:Nat->Nat->Option (Tmp × Int × Int)
 |66,8=>some (33,3,3)
 |66,13=>some (49,3,3)
 |105,1=>some (22,3,3)
 |105,2=>some (28,3,3)
 |105,8=>some (45,3,3)
 |105,16=>some (94,3,3)
 |122,1=>some (1,3,3)
 |_,_=>none
def oc:FuncId->EM:=fun f=>⟨WE j5 f,bif Nat.beq f 66||Nat.beq f 105||Nat.beq f 122||Nat.beq f 138 then (fun _=>none) else Wp jQ f,yE f,mus f,rZ f⟩
end
end Go.Eng
end
noncomputable section
namespace Go.Eng
theorem o2' {A B C:Prop}(f:A->B->C)(h:A/\B):C:=f h.1 h.2
theorem cutB {T:Tab}{a b:List BE}(h:Bi T (a++b)):Bi T a/\Bi T b:=⟨h.left,h.right⟩
end Go.Eng
end
