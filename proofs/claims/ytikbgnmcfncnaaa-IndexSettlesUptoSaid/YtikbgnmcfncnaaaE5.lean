/-
  A part of the proof: the evaluator of code and its soundness.
-/
import Derived.Test.YtikbgnmcfncnaaaE4
import Derived.KernelRfl
import Derived.Test.YtikbgnmcfncnaaaProg
import Derived.Test.YtikbgnmcfncnaaaRows
import Derived.WalkKit
import Derived.ProofKit
import Derived.JoinedCond
import Derived.OpenShut
import Derived.Shelf.GgClosure.StringsIndexFuncTop
import Derived.Laws.RangeAny
import Derived.Lib.Bytealg
set_option linter.unusedVariables false
set_option linter.unusedSimpArgs false
noncomputable section
namespace Go.Eng
section
open Go Go.Eng Go.Proofs
def j5:List (Nat × Nat):=[(3,356811923197259157698710802876495906918760255),(4,550830080991),(5,170141193601676453770381015179702828319),(6,89202980794163057433707209216026507515787263),(7,4630263367964029055),(8,6734599546214597221990822883665133711009854619906111),(9,9908658249016404373193949127),(10,98079720826798845593930068094850309804911155896884789191),(11,137456271347),(12,70506183115263),(13,3064991081731777722365913037005480846757658662151385151),(14,20752587087222415351),(15,127),(16,17375),(17,32967),(18,1125938561695871),(19,4611704712406761927),(20,4398601212221),(21,2360397),(22,1152923703630102535),(23,285),(24,33011),(25,33571891),(26,33571891),(27,1),(28,4351),(29,525),(30,8395535),(31,1),(32,255),(33,33551),(34,10141204806031981158242960407583),(35,316912952583809060057652395039),(36,1126449931223167),(37,33571891),(38,2163),(39,4296024039),(40,1057479),(41,134495533),(42,262707),(43,4398063288335),(44,4786206345238451),(45,20754838917633812467),(46,77),(47,1165),(48,32967),(49,525),(50,18399),(51,575),(52,4295231479),(53,274945034231),(54,9007199254874355),(55,525),(56,23),(57,16447),(58,71),(59,71),(60,8903),(61,7),(62,1125899906851101),(63,71),(64,1099511662605),(65,146243636491757),(66,151115731674017756698611),(67,7715),(68,1),(69,45),(70,4296023823),(71,19),(72,63),(73,134714111),(74,67113231),(75,140874944118543),(76,262707),(77,36028797019098895),(78,2475880078606789348968890611),(79,147),(80,19342813122841268197662663),(81,32831),(82,7),(83,5),(84,504373101),(85,4294983149),(86,19807040630007236279178105341),(87,19),(88,7),(89,18874823),(90,21),(91,135199),(92,479),(93,31),(94,1065211),(95,67643),(96,1),(97,268435583),(98,144115192370823171),(99,1),(100,19),(101,31),(102,17389),(103,604275),(104,21),(105,730750818665451459250395221072963867452968785863),(106,21),(107,3),(108,1),(109,1075843571),(110,19),(111,5),(112,65619),(113,66483),(114,549764202519),(115,191),(116,2147483835),(117,158514353557870112340845789213),(118,53478898112939196370036498439096720537788676143893093693041676285),(119,21),(120,3),(121,5),(122,18014433942971335),(123,31),(124,604275),(125,31),(126,31),(127,31),(128,31),(129,19),(130,19),(131,2333),(132,19),(133,32829),(134,5),(135,1064973),(136,19),(137,18014433942971335),(138,17179886351),(139,13164839976634628298295110780136696778032692856359452003713154079),(140,5),(141,19),(142,531911),(143,7),(144,17179886351),(145,13164839976634628298295110780136696778032692856359452003713154079),(146,9440287),(148,9440287),(149,9231),(150,9231)]
def WE:List (Nat × Nat)->Nat->Nat
 |[],_=>0
 |(i,k)::r,f=>bif Nat.beq i f then k else WE r f
def jQ:List (Nat × List Nat):=[(5,[0]),(6,[0]),(7,[0]),(8,[0,2]),(9,[0]),(10,[0,2]),(11,[0]),(13,[0]),(19,[0,2]),(20,[0,2,4]),(21,[0]),(25,[0]),(26,[0]),(34,[0,2]),(35,[0,2,4,6]),(37,[0]),(41,[0]),(42,[0]),(44,[0,2]),(45,[0,2]),(54,[0]),(62,[0,2]),(64,[0]),(65,[0,2]),(66,[0,2]),(67,[0]),(75,[0,2]),(76,[0]),(77,[0]),(78,[0]),(80,[0]),(84,[0,2]),(85,[0]),(86,[0,2,4]),(98,[0,2]),(105,[0,2,4]),(109,[0]),(113,[0]),(114,[0,2]),(116,[0]),(117,[0]),(118,[0,2]),(122,[0,2,4]),(133,[0]),(137,[0,2,4]),(138,[0,2]),(139,[0,2,4,6,8]),(142,[0]),(144,[0,2]),(145,[0,2,4,6,8]),(146,[0]),(148,[0]),(149,[0]),(150,[0])]
def xK:FF:={ slots:=[(.tmp 4,.int .i64 (-9223372036854775808) 9223372036854775807),(.tmp 3,.list [.int .i64 (-9223372036854775808) 9223372036854775807,.int .i64 (-9223372036854775808) 9223372036854775807,.int .i64 (-9223372036854775808) 9223372036854775807,.bool,.str,.str,.bool,.int .i64 (-9223372036854775808) 9223372036854775807,.int .i64 (-9223372036854775808) 9223372036854775807])] }
def Wp:List (Nat × List Nat)->Nat->Nat->Option FF
 |[],_,_=>none
 |(i,l)::r,f,b=>bif Nat.beq f 86&&Nat.beq b 0 then some xK else bif Nat.beq i f then (bif l.any (Nat.beq b) then some {} else none) else Wp r f b
def mus:Nat->Tmp->Nat
 |101,15=>2
 |108,6=>2
 |105,23=>1
 |66,84=>3
 |86,103=>3
 |44,15=>2
 |_,_=>0
def rZ:Nat->Nat->Bool
 |100,2=>true
 |71,2=>true
 |105,27=>true
 |_,_=>false
def AA9:Nat->Nat->Option (Tmp × Int × Int):=fun f r=>bif Nat.beq f 84&&Nat.beq r 3 then some (3,0,1000000) else none
def Bp:FuncId->EM:=fun f=>⟨WE j5 f,Wp jQ f,AA9 f,mus f,rZ f⟩
theorem CP:Try.prog.follows .mixedOrders=true:=by kernel_rfl
end
end Go.Eng
end
noncomputable section
namespace Go.Proofs.Ytikbgnmcfncnaaa
open Go Go.Eng Go.RowKit Go.ChangeShapes Go.WideShapes Go.ChangeAt
section
variable {H:Type}
theorem sZ (d:DataW H):0 < Rows.uptoBulk d:=by
 cases d with
 |lit l=>cases l<;>simp[Rows.uptoBulk]
 |_=>simp[Rows.uptoBulk]
theorem Tk:∀(l:List (DataW H)),l.length<=Rows.uptoBulkAll l
 |[]=>by simp[Rows.uptoBulkAll]
 |d::r=>by
  have O:=sZ d;have C:=Tk r;simp only[Ad,Rows.uptoBulkAll];omega
mutual
theorem qf:(d:DataW H)->Rows.uptoBulk d<=1048576->Et 1048576 d
 | .lit l,h=> .lit fun s e=>by
  subst e;simp only[Rows.uptoBulk] at h;omega
 | .nil,_=> .nil
 | .ptr d,_=> .ptr d
 | .slice l s,h=>by
  simp only[Rows.uptoBulk] at h;have O:=Tk l;exact .slice (by omega) (Ou l (by omega))
 | .agg l,h=>by
  simp only[Rows.uptoBulk] at h;exact .agg (Ou l (by omega))
 | .iface t d,_=> .iface t d
 | .map az,_=> .map az
 | .held h,_=> .held h
theorem Ou:(l:List (DataW H))->Rows.uptoBulkAll l<=1048576->∀d∈l,Et 1048576 d
 |[],_=>fun d hd=>by cases hd
 |x::r,h=>fun d hd=>by
  simp only[Rows.uptoBulkAll] at h;rcases List.mem_cons.1 hd with e|hd
  .rw[e];exact qf x (by omega)
  .exact Ou r (by omega) d hd
end
end
theorem gz {H:Type}{enc:TypeId × Value->H}{P:Program}{W:World}{base:Nat}{t:Nat->Bool}{bb:Bool}:∀{ax:List TypeId} {Y:List Value} {o:List (DataW H)} {ps:List MemPlace},DataW.TrodAll enc P W base t bb ax Y o ps->o.length=ax.length
 |[],[],[],_,_=>rfl
 |[],[],_::_,_,h=>h.elim
 |[],_::_,_,_,h=>h.elim
 |_::_,[],_,_,h=>h.elim
 |_::_,_::_,[],_,h=>h.elim
 |_::ax,_::Y,_::o,_,⟨_,_,_,C,_⟩=>by simp[gz C]
theorem own:ownKnob Try.prog.godebug=none:=by kernel_rfl
theorem laid:laidOutB Try.prog=true:=by kernel_rfl
set_option maxRecDepth 100000 in
theorem tp {s:ChangeSpec}{f:Func}{k:FuncId}(aw:f.resultTypes= #[4])(K:s.vars=[])(ao:∀t∈f.params.toList,Try.prog.readableRec t=true/\t < Try.prog.types.size)
  (ad:∀(H:Type) (h:List (DataW H)),h.length=f.params.toList.length->s.fn H h={ results:=[.lit (.bool true)],args:=h })
  (Z:∀{H:Type} {enc:TypeId × Value->H} {W:World} {base:Nat} {Y:List Value} {h:List (DataW H)} {ps:List MemPlace},DataW.TrodAll enc Try.prog W 0 (fun _=>true) true f.params.toList Y h ps->
   (∀(j:Nat) t v,f.params.toList[j]? =some t->Y[j]? =some v->Value.okWide Try.prog W .any base t v)->(∀d∈h,Et 1048576 d)->
   Calls Try.prog k (Y:List Value).toArray W fun e r=>e= .returned (.bool true)/\Below W.heap.size W r)
  (a0:Try.prog.underlying 4=some .bool)
  (H:Type) (enc:TypeId × Value->H) (W:World) (base:Nat) (args:Array Value) (h z:List (DataW H)) (M:List MemPlace)
  (a1:∀(j:Nat) t v,f.params[j]? =some t->args[j]? =some v->Value.okWide Try.prog W .any base t v)
  (F:DataW.Whole enc Try.prog f.params.toList s.vars false W args.toList h z M) (hk:Rows.uptoSmall H (h++z)=true):
  Calls Try.prog k args W fun e r=>∃v,e= .returned v/\s.post enc Try.prog f false true false false W args v r:=by
 have N:=F;obtain⟨p,q,A,E,rfl,hz,hn⟩:=F;have ag:z=[]:=by
  rw[K] at E;cases z with
  |nil=>rfl
  |cons=>exact E.elim
 subst ag;have an:h.length=f.params.toList.length:=gz A;have ax:∀d∈h,Et 1048576 d:=Ou h (by
  have O:=hk;unfold Rows.uptoSmall at O;rw[yJ,decide_eq_true_eq] at O;exact O)
 have V:=Z A (fun j t v O C=>a1 j t v (by simpa using O) (by simpa using C)) ax;refine V.mono fun e r ⟨he,T⟩=>⟨_,he,?_⟩;exact tL laid ao aw a0 K (by rw[yJ];exact ad H h an) N T
end Go.Proofs.Ytikbgnmcfncnaaa
end
noncomputable section
namespace Go.Eng
section
open Go Go.Proofs
def Jt (b:UInt8):Bool:=(decide (97<=b.toNat)&&decide (b.toNat<=122))||(decide (48<=b.toNat)&&decide (b.toNat<=57))
def Dn (s:ByteArray):Bool:=decide (1<=s.size)&&decide (s.size<=20)&&s.data.toList.all Jt
def KY (x ar Z:Int):Bool:=decide (ar<=x)&&decide (x<=Z)
theorem RH {x ar Z:Int}:KY x ar Z=true↔(ar<=x/\x<=Z):=by simp[KY]
def EI (r:Nat):Bool:=(decide (r < 97)||decide (122 < r))&&(decide (r < 48)||decide (57 < r))
theorem RR (b:UInt8):Jt b= !EI b.toNat:=by
 rw[Bool.eq_iff_iff];simp only[Jt,EI,Ah,AB,decide_eq_true_eq,Bool.not_eq_true',Bool.and_eq_false_iff,Bool.or_eq_false_iff,decide_eq_false_iff_not];omega
theorem iW (s:ByteArray):∀(f pos:Nat),s.size<=pos+f->(Lib.idxFuncFrom EI true s f pos= -1↔∀j (h:j < s.size),pos<=j->Jt (s[j]'h)=true)
 |0,pos,hf=>by
  simp only[Lib.idxFuncFrom,true_iff];intro j h o;omega
 |f+1,pos,hf=>by
  unfold Lib.idxFuncFrom;by_cases o:pos < s.size
  .rw[BH o];by_cases A:(s[pos]'o).toNat < 128
   .rw[decode_ascii s pos o A];simp only;by_cases r:EI (s[pos]'o).toNat=true
    .rw[BH r];constructor
     .intro h;omega
     .intro h;have:=h pos o (AE _);rw[RR,r] at this;cases this
    .rw[BG r,iW s f (pos+1) (by omega)];constructor
     .intro h j t z;by_cases e:j=pos
      .subst e;rw[RR];simpa using r
      .exact h j t (by omega)
     .intro h j t z;exact h j t (by omega)
   .obtain⟨O,C⟩:=decode_high s pos o (by omega);have r:EI (Utf8.decode s pos).1=true:=by
     simp only[EI,Ah,AB,decide_eq_true_eq];omega
    rw[BH r];constructor
    .intro h;omega
    .intro h;have:=h pos o (AE _);rw[RR] at this;have E:EI (s[pos]'o).toNat=true:=by
      simp only[EI,Ah,AB,decide_eq_true_eq];omega
     rw[E] at this;cases this
  .rw[BG o];simp only[true_iff];intro j h z;omega
theorem YQ (s:ByteArray):s.data.toList.all Jt=true↔∀j (h:j < s.size),Jt (s[j]'h)=true:=by
 rw[Ae];constructor
 .intro h j o;exact h _ (by
   have:s[j]=s.data.toList[j]'(by simpa using o):=rfl;rw[this];exact yM _)
 .intro h x r;obtain⟨j,o,rfl⟩:=List.getElem_of_mem r;exact h j (by simpa using o)
theorem jd (s:ByteArray):Dn s=(decide (1<=s.size)&&decide (s.size<=20)&& !decide (0<=Lib.idxFunc EI true s)):=by
 have O:=iW s s.size 0 (by omega);have C:=YQ s;have r:=Lib.idxFunc_range EI true s;unfold Dn;congr 1;rw[Bool.eq_iff_iff,C];change Lib.idxFunc EI true s= -1↔_ at O;rw[Bool.not_eq_true',decide_eq_false_iff_not];constructor
 .intro h;have:=O.2 fun j o _=>h j o;omega
 .intro h j o;exact O.1 (by omega) j o (Ak _)
def okB (s:ByteArray)(j:Nat):Prop:=97<=C4 s j/\C4 s j<=122\/48<=C4 s j/\C4 s j<=57
theorem vm {s:ByteArray}{k:Nat}(r:k=s.size):s.data.toList.all Jt=true↔∀j:Nat,(j:Int) < k->okB s j:=by
 unfold okB;subst r;rw[YQ];have e:∀j (o:j < s.size),(Jt (s[j]'o)=true↔(97<=C4 s j/\C4 s j<=122\/48<=C4 s j/\C4 s j<=57)):=by
  intro j o;have e:C4 s j=((s[j]'o).toNat:Int):=by
   unfold C4;have t:j < s.data.toList.length:=by simpa using o
   rw[AY,AF t];rfl
  rw[e];simp only[Jt,Ah,AB,decide_eq_true_eq];omega
 constructor
 .intro h j o;exact (e j (by omega)).1 (h j (by omega))
 .intro h j o;exact (e j o).2 (h j (by omega))
theorem tG {s:ByteArray}:Dn s=true↔(1<=s.size/\s.size<=20/\∀j:Nat,(j:Int) < s.size->okB s j):=by
 unfold Dn;rw[AB,AB,decide_eq_true_eq,decide_eq_true_eq,vm rfl,and_assoc]
end
section
def Dl (s:ByteArray)(x g:Int):Bool:=Dn s&&KY x (-10000) 10000&&KY g (-12) 48
def Cq (s:ByteArray)(x g:Int)(t:ByteArray)(y h:Int):Int:=
 if Dl s x g=true/\Dl t y h=true then (if s=t then 12 else 0) else 2
variable{s:ByteArray}{x g:Int}
theorem G9 :Dl s x g=true↔(Dn s=true/\(-10000<=x/\x<=10000)/\ -12<=g/\g<=48):=by
 unfold Dl;rw[AB,AB,RH,RH,and_assoc]
theorem Uz {t:ByteArray}{y h:Int}(e:Cq s x g t y h=0):Dl s x g=true/\Dl t y h=true/\¬s=t:=by
 unfold Cq at e;split at e
 .rename_i o;split at e
  .omega
  .exact⟨o.1,o.2,by assumption⟩
 .omega
theorem ir {n:Int}(o:0<=n)(O:n<=19):1<=IE GF n/\IE GF n<=10:=by
 obtain⟨k,rfl⟩:∃k:Nat,n=k:=⟨n.toNat,by omega⟩;have h:∀k:Fin 20,1<=IE GF ((k:Nat):Int)/\IE GF ((k:Nat):Int)<=10:=by decide
 exact h ⟨k,by omega⟩
theorem EH (a b:Int)(l:Bool):1<=CJ a b l/\CJ a b l<=19:=by
 unfold CJ;split
 .split
  .have:=ir (n:=min ((b - a) / 100) 19) (by omega) (by omega);omega
  .have:=ir (n:=min ((a - b) / 100) 19) (by omega) (by omega);omega
 .omega
def DC (a b:Int):Int:=if a < b then -1 else if b < a then 1 else 0
def uI (u:List U)(c:Nat):Int:=(u.getD c default).toI
def uB (u:List U)(c:Nat):Bool:=(u.getD c default).toB
def uS (u:List U)(c:Nat):ByteArray:=(u.getD c default).toS
section
variable {lt:List U->List U->Bool}{x:List U}{P R S l:List (List U)}{k a i b:Nat}
def Gj (lt:List U->List U->Bool)(x:List U):List (List U)->List (List U)
 |[]=>[x]
 |y::r=>if lt x y=true then y::Gj lt x r else x::y::r
def Gt (lt:List U->List U->Bool)(l:List (List U)):List (List U):=l.foldl (fun f x=>Gj lt x f) []
def Br (lt:List U->List U->Bool)(l:List (List U))(a b:Nat):List (List U):=l.take a++(Gt lt ((l.take b).drop a)).reverse++l.drop b
def eb (lt:List U->List U->Bool)(l:List (List U))(a i:Nat):List (List U):=l.take a++(Gj lt (l.getD i []) ((l.take i).drop a).reverse).reverse++l.drop (i+1)
def Ew (P R S:List (List U))(x:List U)(k:Nat):List (List U):=P++(R.take k++x::R.drop k).reverse++S
theorem YE (h:k < R.length):Ew P R S x k=(P++(R.drop (k+1)).reverse)++R.getD k []::x::((R.take k).reverse++S):=by
 have:R.drop k=R.getD k []::R.drop (k+1):=by
  rw[List.drop_eq_getElem_cons h,AY,AF h];rfl
 unfold Ew;rw[this];simp
theorem qi (h:k < R.length):Ew P R S x (k+1)=(P++(R.drop (k+1)).reverse)++x::R.getD k []::((R.take k).reverse++S):=by
 have:R.take (k+1)=R.take k++[R.getD k []]:=by
  rw[List.take_add_one,AY,AF h];rfl
 unfold Ew;rw[this];simp
theorem qy {A B:List (List U)}{x y:List U}:((A++y::x::B).set (A.length+1) y).set A.length x=A++x::y::B:=by
 induction A with
 |nil=>rfl
 |cons c A h=>simp only[List.cons_append,Ad,List.set_cons_succ];rw[h]
theorem sH (h:k < R.length):((Ew P R S x k).set (P.length+(R.length - k)) (R.getD k [])).set (P.length+(R.length - k) - 1) x=Ew P R S x (k+1):=by
 rw[YE h,qi h];have e:(P++(R.drop (k+1)).reverse).length=P.length+(R.length - k) - 1:=by simp;omega
 rw[<-e,show P.length+(R.length - k)=(P++(R.drop (k+1)).reverse).length+1 by simp;omega];exact qy
theorem xC (h:k<=R.length):(Ew P R S x k).getD (P.length+(R.length - k)) []=x:=by
 unfold Ew;simp only[List.reverse_append,List.reverse_cons];rw[AY,Am,AS (by omega),Am,Am,AS (by simp)];simp
theorem rJ (h:k < R.length):(Ew P R S x k).getD (P.length+(R.length - k) - 1) []=R.getD k []:=by
 rw[YE h,AY];have e:(P++(R.drop (k+1)).reverse).length=P.length+(R.length - k) - 1:=by simp;omega
 rw[<-e,AS (AE _)];simp
theorem wB:(Ew P R S x k).length=P.length+R.length+1+S.length:=by
 unfold Ew;simp;omega
theorem iS:∀{R:List (List U)} {k:Nat},k<=R.length->(∀q,q < k->lt x (R.getD q [])=true)->(k=R.length\/¬lt x (R.getD k [])=true)->Gj lt x R=R.take k++x::R.drop k
 |[],k,h,_,_=>by
  have:k=0:=by simpa using h
  subst this;rfl
 |y::R,0,_,_,h=>by
  simp only[Gj];rcases h with h|h
  .simp at h
  .rw[BG (by simpa using h)];rfl
 |y::R,k+1,h,O,C=>by
  simp only[Gj];rw[BH (by simpa using O 0 (by omega)),iS (k:=k) (by simpa using h) (fun q o=>by simpa using O (q+1) (by omega)) (by
   rcases C with C|C
   .exact .inl (by simpa using C)
   .exact .inr (by simpa using C))]
  rfl
theorem eD:∀{R:List (List U)},(Gj lt x R).length=R.length+1
 |[]=>rfl
 |y::R=>by
  simp only[Gj];split
  .simp[eD (R:=R)]
  .rfl
theorem jP:Gt lt (l++[x])=Gj lt x (Gt lt l):=by
 unfold Gt;rw[List.foldl_append];rfl
theorem Ro:(Gt lt l).length=l.length:=by
 have o:∀(l f:List (List U)),(l.foldl (fun f x=>Gj lt x f) f).length=f.length+l.length:=by
  intro l;induction l with
  |nil=>exact fun _=>rfl
  |cons y l h=>intro f;rw[List.foldl_cons,h,eD];simp;omega
 unfold Gt;rw[o];simp
def CX (lt:List U->List U->Bool)(l:List (List U)):List (List U):=(Gt lt l).reverse
theorem UO {n:Nat}(h:n=l.length):Br lt l 0 n=CX lt l:=by
 subst h;unfold Br CX;simp
theorem DY:(CX lt l).length=l.length:=by unfold CX;rw[List.length_reverse,Ro]
theorem ah {y:List U}:∀{R:List (List U)},y∈Gj lt x R->y=x\/y∈R
 |[],h=>by simpa [Gj] using h
 |z::R,h=>by
  simp only[Gj] at h;split at h
  .rcases List.mem_cons.1 h with h|h
   .exact .inr (List.mem_cons.2 (.inl h))
   .rcases ah h with h|h
    .exact .inl h
    .exact .inr (List.mem_cons.2 (.inr h))
  .rcases List.mem_cons.1 h with h|h
   .exact .inl h
   .exact .inr h
theorem D6 (h:i < l.length):l.take (i+1)=l.take i++[l.getD i []]:=by
 rw[List.take_add_one,AY,AF h];rfl
theorem SS (o:a<=i)(h:i < l.length):(l.take (i+1)).drop a=(l.take i).drop a++[l.getD i []]:=by
 rw[D6 h,List.drop_append_of_le_length (by simp;omega)]
theorem WV (h:a<=l.length):Br lt l a (a+1)=l:=by
 unfold Br;rcases AQ a l.length with O|O
 .have e:(l.take (a+1)).drop a=[l.getD a []]:=by
   rw[SS (AE _) O];simp[List.drop_take]
  rw[e];show l.take a++[l.getD a []]++l.drop (a+1)=l;rw[<-D6 O,Az]
 .have e:l.take a=l:=List.take_of_length_le O;have o:l.take (a+1)=l:=List.take_of_length_le (by omega);rw[o,List.drop_eq_nil_of_le O,List.drop_eq_nil_of_le (show l.length<=a+1 by omega),e];simp[Gt]
theorem Rv (h:b<=a)(C:a<=b):Br lt l a b=l:=by
 obtain rfl:a=b:=by omega
 unfold Br;rw[List.drop_eq_nil_of_le (by simp;omega)];simp[Gt]
theorem HW (h:a<=b)(C:b<=l.length):(Br lt l a b).length=l.length:=by
 unfold Br;simp[Ro];omega
theorem Vq (h:a<=i)(C:i<=l.length):(Br lt l a i).take a=l.take a/\((Br lt l a i).take i).drop a=(Gt lt ((l.take i).drop a)).reverse/\(Br lt l a i).drop i=l.drop i:=by
 unfold Br;have o:(l.take a).length=a:=by simp;omega
 have t:((Gt lt ((l.take i).drop a)).reverse).length=i - a:=by simp[Ro];omega
 have r:(l.take a++(Gt lt ((l.take i).drop a)).reverse).length=i:=by rw[AP,o,t];omega
 refine⟨?_,?_,?_⟩
 .rw[Am,List.take_left' o]
 .rw[List.take_left' r,List.drop_left' o]
 .rw[List.drop_left' r]
theorem nN (h:a<=i)(C:i < l.length):Br lt l a (i+1)=eb lt (Br lt l a i) a i:=by
 obtain⟨r,t,o⟩:=Vq (lt:=lt) h (Nat.le_of_lt C);unfold eb;have A:(Br lt l a i).getD i []=l.getD i []:=by
  have:=BI (fun z=>z.getD 0 []) o;simpa [AY,A8] using this
 have E:(Br lt l a i).drop (i+1)=l.drop (i+1):=by
  have:=BI (fun z=>z.drop 1) o;simpa [A7,Nat.add_comm] using this
 rw[r,t,A,E,List.reverse_reverse];show l.take a++(Gt lt ((l.take (i+1)).drop a)).reverse++l.drop (i+1)=_;rw[SS h C,jP]
theorem s7 (h:a<=i)(C:i < l.length):Ew (l.take a) (((l.take i).drop a).reverse) (l.drop (i+1)) (l.getD i []) 0=l:=by
 unfold Ew;simp only[List.take_zero,BF,List.drop_zero,List.reverse_cons,List.reverse_reverse];rw[<-SS h C];have e:l.take (i+1)=l.take a++(l.take (i+1)).drop a:=by
  have:=Az a (l.take (i+1));rw[List.take_take,Nat.min_eq_left (by omega)] at this;exact this.symm
 rw[<-e,Az]
theorem td (h:a<=i)(C:i < l.length)(t:k<=i - a)(o:∀q,q < k->lt (l.getD i []) ((((l.take i).drop a).reverse).getD q [])=true)(r:k=i - a\/¬lt (l.getD i []) ((((l.take i).drop a).reverse).getD k [])=true):
  Ew (l.take a) (((l.take i).drop a).reverse) (l.drop (i+1)) (l.getD i []) k=eb lt l a i:=by
 have e:(((l.take i).drop a).reverse).length=i - a:=by simp;omega
 unfold eb Ew;rw[iS (k:=k) (by rw[e];exact t) o (by rw[e];exact r)]
theorem ZH {j:Nat}{c:List (List U)}(z:a<=j)(E:j<=i)(Z:i < l.length)(h:c=Ew (l.take a) (((l.take i).drop a).reverse) (l.drop (i+1)) (l.getD i []) (i - j)):c.length=l.length/\c.getD j []=l.getD i []/\
  (a < j->c.getD (j - 1) []=(((l.take i).drop a).reverse).getD (i - j) []/\(c.set j (c.getD (j - 1) [])).set (j - 1) (c.getD j [])=Ew (l.take a) (((l.take i).drop a).reverse) (l.drop (i+1)) (l.getD i []) (i - (j - 1))):=by
 have e:(((l.take i).drop a).reverse).length=i - a:=by simp;omega
 have o:(l.take a).length=a:=by simp;omega
 have r:(l.take a).length+((((l.take i).drop a).reverse).length - (i - j))=j:=by rw[e,o];omega
 have O:=xC (P:=l.take a) (R:=((l.take i).drop a).reverse) (S:=l.drop (i+1)) (x:=l.getD i []) (k:=i - j) (by rw[e];omega);rw[r,<-h] at O;refine⟨by rw[h,wB,e,o];simp;omega,O,fun A=>?_⟩;have C:=rJ (P:=l.take a) (R:=((l.take i).drop a).reverse) (S:=l.drop (i+1)) (x:=l.getD i []) (k:=i - j) (by rw[e];omega);have t:=sH (P:=l.take a) (R:=((l.take i).drop a).reverse) (S:=l.drop (i+1)) (x:=l.getD i []) (k:=i - j) (by rw[e];omega);rw[r,<-h] at C t;refine⟨C,?_⟩;rw[O,C,t,show i - (j - 1)=i - j+1 by omega]
end
variable{l:List (List U)}{i:Nat}{u:List U}
theorem NU (h:(l.getD i []).length=u.length):E7 l i 0 u=l.set i u:=by
 unfold E7;rw[AM,List.take_zero,BF,List.drop_eq_nil_of_le (by omega),yJ]
theorem FY {p:List U->Prop}(h:∀v∈l,p v)(o:p u):∀v∈l.set i u,p v:=fun v r=>by
 rcases List.mem_or_eq_of_mem_set r with O|O
 .exact h v O
 .rw[O];exact o
theorem Ca (h:i < l.length):l.getD i []∈l:=by
 rw[AY,AF h];exact yM h
def KB:List Kd:=[.int .i64 IntKind.i64.min IntKind.i64.max,.int .i64 IntKind.i64.min IntKind.i64.max,.int .i64 IntKind.i64.min IntKind.i64.max,.bool,.str,.str,.bool,.int .i64 IntKind.i64.min IntKind.i64.max,.int .i64 IntKind.i64.min IntKind.i64.max]
theorem Nd (h:Bb BT KB u):[U.int (uI u 0),.int (uI u 1),.int (uI u 2),.bool (uB u 3),.str (uS u 4),.str (uS u 5),.bool (uB u 6),.int (uI u 7),.int (uI u 8)]=u:=by
 obtain⟨_,_,rfl,⟨_,rfl,_⟩,_,_,rfl,⟨_,rfl,_⟩,_,_,rfl,⟨_,rfl,_⟩,_,_,rfl,⟨_,rfl⟩,_,_,rfl,⟨_,rfl,_⟩,_,_,rfl,⟨_,rfl,_⟩,_,_,rfl,⟨_,rfl⟩,_,_,rfl,⟨_,rfl,_⟩,_,_,rfl,⟨_,rfl,_⟩,h⟩:=h;rw[show _=[] from h];rfl
theorem rS (h:Bb BT KB u):u.length=9:=by rw[<-Nd h];rfl
theorem Sr {v:List U}(ac:∀u∈l,Bb BT KB u)(Z:i < l.length)(h:Bb BT KB v):
  E7 l i 0 [U.int (uI v 0),.int (uI v 1),.int (uI v 2),.bool (uB v 3),.str (uS v 4),.str (uS v 5),.bool (uB v 6),.int (uI v 7),.int (uI v 8)]=l.set i v:=by
 rw[Nd h];exact NU (by rw[rS (ac _ (Ca Z)),rS h])
def eC (u v:List U):Int:=if DC (uI u 2) (uI v 2)=0 then DC (uI u 0) (uI v 0) else DC (uI u 2) (uI v 2)
def ltB (u v:List U):Bool:=decide (eC u v < 0)
structure WkO (lt:List U->List U->Bool):Prop where
 asym:∀a b,lt a b=true->¬lt b a=true
 tr:∀a b c,¬lt b a=true->¬lt c b=true->¬lt c a=true
section
variable {lt:List U->List U->Bool}{x:List U}{l aj R:List (List U)}
theorem Yc:∀{R:List (List U)},(Gj lt x R).Perm (x::R)
 |[]=>List.Perm.refl _
 |y::R=>by
  simp only[Gj];split
  .exact ((Yc (R:=R)).cons y).trans (List.Perm.swap x y R)
  .exact List.Perm.refl _
theorem mY:(Gt lt l).Perm l:=by
 have o:∀(l f:List (List U)),(l.foldl (fun f x=>Gj lt x f) f).Perm (l++f):=by
  intro l;induction l with
  |nil=>exact fun f=>List.Perm.refl _
  |cons y l h=>
   intro f;rw[List.foldl_cons];exact ((h _).trans (Yc.append_left l)).trans List.perm_middle
 have:=o l [];rwa [yJ] at this
theorem EX:(CX lt l).Perm l:=(List.reverse_perm _).trans mY
theorem N5 {y:List U}:y∈CX lt l↔y∈l:=EX.mem_iff
theorem T7 (h:WkO lt):∀{R:List (List U)},R.Pairwise (fun a b=>¬lt a b=true)->(Gj lt x R).Pairwise (fun a b=>¬lt a b=true)
 |[],_=>List.pairwise_singleton _ _
 |y::R,hp=>by
  rw[BN] at hp;simp only[Gj];split
  .rename_i r;refine BN.2 ⟨fun z o=>?_,T7 h hp.2⟩;rcases ah o with rfl|o
   .exact h.asym _ _ r
   .exact hp.1 z o
  .rename_i r;refine BN.2 ⟨fun z o=>?_,BN.2 hp⟩;rcases List.mem_cons.1 o with rfl|o
   .exact r
   .exact h.tr _ _ _ (hp.1 z o) r
theorem bk (h:WkO lt):(Gt lt l).Pairwise (fun a b=>¬lt a b=true):=by
 have t:∀(l f:List (List U)),f.Pairwise (fun a b=>¬lt a b=true)->(l.foldl (fun f x=>Gj lt x f) f).Pairwise (fun a b=>¬lt a b=true):=by
  intro l;induction l with
  |nil=>exact fun f h=>h
  |cons y l r=>intro f o;rw[List.foldl_cons];exact r _ (T7 h o)
 exact t l [] List.Pairwise.nil
theorem D0 (h:WkO lt):(CX lt l).Pairwise (fun a b=>¬lt b a=true):=by
 unfold CX;exact List.pairwise_reverse.2 (bk h)
theorem P3 (h:l.Perm aj)(O:l.Pairwise (fun a b=>¬lt b a=true))(C:aj.Pairwise (fun a b=>¬lt b a=true))(hd:∀a b,a∈l->b∈l->¬lt a b=true->¬lt b a=true->a=b):l=aj:=
 List.Perm.eq_of_pairwise (le:=fun a b=>¬lt b a=true) (fun a b o r x y=>hd a b o (h.mem_iff.2 r) y x) O C h
theorem Q5 (h:WkO lt)(t:l.Perm aj)(hd:∀a b,a∈l->b∈l->¬lt a b=true->¬lt b a=true->a=b):CX lt l=CX lt aj:=
 P3 (EX.trans (t.trans EX.symm)) (D0 h) (D0 h) fun a b o r=>hd a b (N5.1 o) (N5.1 r)
end
variable{a b:Int}{u v k:List U}{p:List U->Prop}{l:List (List U)}{i:Nat}
theorem cK :DC a b < 0↔a < b:=by
 unfold DC;split
 .omega
 .split<;>omega
theorem iD :DC a b=0↔a=b:=by
 unfold DC;split
 .omega
 .split<;>omega
theorem K4 :ltB u v=true↔(uI u 2 < uI v 2\/(uI u 2=uI v 2/\uI u 0 < uI v 0)):=by
 unfold ltB eC;rw[decide_eq_true_eq];split
 .rename_i h;rw[cK];have:=iD.1 h;omega
 .rename_i h;rw[cK];have:¬uI u 2=uI v 2:=fun e=>h (iD.2 e);omega
theorem wkB:WkO ltB where
 asym:=fun a b h=>by rw[K4] at h⊢;omega
 tr:=fun a b c O C=>by rw[K4] at O C⊢;omega
def O2 (m:List (List U))(n:Int):Prop:=Bz 1 m [.int n] < m.length
instance (m:List (List U))(n:Int):Decidable (O2 m n):=by unfold O2;infer_instance
def Xp (m:List (List U))(n:Int):Int:=(EB 1 1 m (.int 0) [.int n]).toI
def I5 (m:List (List U))(u:List U):List (List U):=if¬O2 m (uI u 0)\/Xp m (uI u 0) < uI u 1 then Cb 1 m [.int (uI u 0)] u else m
def CI (l:List (List U)):List (List U):=l.foldl I5 []
def Da (r:List U):List (List U):=if uB r 4=true then [] else [r.drop 1]
def CH (l:List (List U)):List (List U):=CX ltB ((CI l).flatMap Da)
structure My (p:List U->Prop) (m:List (List U)):Prop where
 row:∀r∈m,∃u,r=U.int (uI u 0)::u/\p u
 once:m.Pairwise fun a b=>uI a 0≠uI b 0
theorem cB {m:List (List U)}(h:My p m){n:Int}(Z:O2 m n):uI (m[Bz 1 m [.int n]]'Z) 0=n:=by
 have o:Bz 1 m [.int n] < m.length:=Z;have O:Ce ((m[Bz 1 m [.int n]]'o).take 1) [.int n]=true:=List.findIdx_getElem (w:=o);obtain⟨u,t,_⟩:=h.row _ (yM o);show uI (m[Bz 1 m [.int n]]'o) 0=n;generalize m[Bz 1 m [.int n]]'o=r at O t;rw[t] at O⊢;simp only[List.take_succ_cons,List.take_zero,Ce,U.eqv,Bool.and_true,decide_eq_true_eq] at O;exact O
theorem iN {m:List (List U)}(h:My p m){n:Int}(Z:¬O2 m n):∀r∈m,uI r 0≠n:=fun r o e=>by
 have O:Bz 1 m [.int n]=m.length:=by
  have:=List.findIdx_le_length (xs:=m) (p:=fun r=>Ce (r.take 1) [.int n]);unfold O2 Bz at Z;unfold Bz;omega
 unfold Bz at O;rw[List.findIdx_eq_length] at O;have C:=O r o;obtain⟨u,t,_⟩:=h.row r o;rw[t] at C e;have e':uI u 0=n:=e;simp[Ce,U.eqv,e'] at C
theorem uD {m:List (List U)}(h:My p m)(F:p u):My p (I5 m u):=by
 unfold I5;split
 .unfold Cb;by_cases Z:O2 m (uI u 0)
  .rw[show decide (Bz 1 m [.int (uI u 0)] < m.length)=true from decide_eq_true Z];refine⟨fun r t=>?_,?_⟩
   .rcases List.mem_or_eq_of_mem_set t with O|O
    .exact h.row r O
    .exact⟨u,O,F⟩
   .rw[BJ];intro i j C E M;simp only[cond_true,Au] at C E;have o:=BJ.1 h.once i j C E M;have z:=cB h Z;simp only[cond_true,List.getElem_set];split
    .rename_i e;subst e;split
     .omega
     .exact fun e=>o (z.trans e)
    .split
     .rename_i e;subst e;exact fun e=>o (e.trans z.symm)
     .exact o
  .rw[show decide (Bz 1 m [.int (uI u 0)] < m.length)=false from decide_eq_false Z];refine⟨fun r t=>?_,?_⟩
   .rcases Ap.1 t with O|O
    .exact h.row r O
    .simp at O;exact⟨u,O,F⟩
   .simp only[cond_false];rw[BM];refine⟨h.once,List.pairwise_singleton _ _,fun a K b A=>?_⟩;simp at A;subst A;show _≠uI u 0;exact iN h Z a K
 .exact h
theorem vl (m:List (List U))(u:List U):(I5 m u).length<=m.length+1:=by
 unfold I5 Cb;split
 .cases decide (Bz 1 m [.int (uI u 0)] < m.length)<;>simp
 .omega
theorem WN :CI (l++[u])=I5 (CI l) u:=by unfold CI;rw[List.foldl_append];rfl
theorem Yz {p:List U->Prop}:∀{l:List (List U)} {m:List (List U)},My p m->(∀u∈l,p u)->My p (l.foldl I5 m)
 |[],m,h,_=>h
 |u::l,m,h,hl=>by
  rw[List.foldl_cons];exact Yz (uD h (hl u (AN ..))) fun v o=>hl v (AK _ o)
theorem JT :My (· ∈l) (CI l):=Yz ⟨fun r h=>(by cases h),List.Pairwise.nil⟩ fun u h=>h
theorem dU:∀{l:List (List U)} {m:List (List U)},(l.foldl I5 m).length<=m.length+l.length
 |[],m=>AE _
 |u::l,m=>by
  rw[List.foldl_cons];have:=dU (l:=l) (m:=I5 m u);have:=vl m u;simp only[Ad];omega
theorem bK :(CI l).length<=l.length:=by have:=dU (l:=l) (m:=[]);unfold CI;simpa using this
theorem rI {r:List U}:(Da r).length<=1:=by unfold Da;split<;>simp
theorem Up:∀{m:List (List U)},(m.flatMap Da).length<=m.length
 |[]=>AE _
 |r::m=>by
  rw[List.flatMap_cons,AP,Ad];have:=Up (m:=m);have:=rI (r:=r);omega
theorem eJ {m:List (List U)}(h:My p m){a b:List U}(t:a∈m.flatMap Da)(K:b∈m.flatMap Da)(e:uI a 0=uI b 0):a=b:=by
 have mem:∀{a},a∈m.flatMap Da->∃r∈m,a=r.drop 1/\uI r 0=uI a 0:=fun {a} t=>by
  obtain⟨r,o,O⟩:=List.mem_flatMap.1 t;unfold Da at O;split at O
  .cases O
  .simp at O;obtain⟨u,M,_⟩:=h.row r o;refine⟨r,o,by simpa using O,?_⟩;rw[M] at O⊢;simp at O;rw[O];rfl
 obtain⟨r,o,E,z⟩:=mem t;obtain⟨s,ac,F,A⟩:=mem K;have:r=s:=by
  obtain⟨i,Z,rfl⟩:=yK.1 o;obtain⟨j,C,rfl⟩:=yK.1 ac;rcases Nat.lt_trichotomy i j with O|O|O
  .exact absurd (z.trans (e.trans A.symm)) (BJ.1 h.once i j Z C O)
  .subst O;rfl
  .exact absurd (A.trans (e.symm.trans z.symm)) (BJ.1 h.once j i C Z O)
 rw[E,F,this]
theorem qP {an:List (List U)}(h:an.Perm ((CI l).flatMap Da)):CX ltB an=CH l:=by
 refine Q5 wkB h fun a b o r O C=>?_;rw[K4] at O C;exact eJ JT (h.mem_iff.1 o) (h.mem_iff.1 r) (by omega)
def KP:List Kd:=[.str,.int .i64 IntKind.i64.min IntKind.i64.max,.int .i64 IntKind.i64.min IntKind.i64.max]
theorem pS (h:Bb BT KP u):[U.str (uS u 0),.int (uI u 1),.int (uI u 2)]=u:=by
 obtain⟨_,_,rfl,⟨_,rfl,_⟩,_,_,rfl,⟨_,rfl,_⟩,_,_,rfl,⟨_,rfl,_⟩,h⟩:=h;rw[show _=[] from h];rfl
def U0 (m:List (List U))(u:List U):List (List U):=Cb 1 m [.str (uS u 0)] [.bool true]
def Cl (l:List (List U)):List (List U):=l.foldl U0 []
def Dk (u:List U):Bool:=Dl (uS u 0) (uI u 1) (uI u 2)
def BW (l:List (List U)):Int:=if 24 < l.length then 6 else if¬l.all Dk=true then 2 else if (Cl l).length < l.length then 12 else 0
def Gw (n v a:Int)(w l:ByteArray)(p q:Int):Int:=
 if (KY n 0 1099511627776&&KY a 0 1099511627776&&KY v 0 1048576&&Dn w&&Dn l&& !decide (w=l)&&decide (0<=q)&&decide (q<=p)&&decide (p<=26))=true then 0 else 2
def Ed (u:List U):Bool:=decide (Gw (uI u 0) (uI u 1) (uI u 2) (uS u 4) (uS u 5) (uI u 7) (uI u 8)=0)
def DT (u:List U):List U:=[.int (uI u 0),.int (uI u 1)]
def Q3 (u v:List U):Bool:=decide (uI u 0=uI v 0)&&decide (uI u 1=uI v 1)&&decide (uI u 2=uI v 2)&&decide (uB u 3=uB v 3)&&decide (uS u 4=uS v 4)&&decide (uS u 5=uS v 5)&&decide (uB u 6=uB v 6)&&decide (uI u 7=uI v 7)&&decide (uI u 8=uI v 8)
def LU (m:List (List U))(u:List U):Bool:=decide (Bz 2 m (DT u) < m.length)&& !Q3 ((m.getD (Bz 2 m (DT u)) []).drop 2) u
def Dv (m:List (List U)):List (List U)->Bool
 |[]=>true
 |u::l=>if LU m u=true then false else Dv (Cb 2 m (DT u) u) l
def EZ (l:List (List U)):Bool:=Dv [] l
theorem MZ {G:Nat}{m:List (List U)}:(Cb G m k v).length<=m.length+1:=by
 unfold Cb;cases decide (Bz G m k < m.length)<;>simp
theorem PP :Cl (l++[u])=U0 (Cl l) u:=by unfold Cl;rw[List.foldl_append];rfl
theorem YJ:∀{l m:List (List U)},(l.foldl U0 m).length<=m.length+l.length
 |[],m=>AE _
 |u::l,m=>by
  rw[List.foldl_cons];have:=YJ (l:=l) (m:=U0 m u);have h:(U0 m u).length<=m.length+1:=MZ;simp only[Ad];omega
theorem Ql :(Cl l).length<=l.length:=by have:=YJ (l:=l) (m:=[]);unfold Cl;simpa using this
theorem RB {p:List U->Bool}:(l++[u]).all p=true↔(l.all p=true/\p u=true):=by simp
theorem T3 {m:List (List U)}(h:i < l.length):Dv m (l.drop i)=if LU m (l.getD i [])=true then false else Dv (Cb 2 m (DT (l.getD i [])) (l.getD i [])) (l.drop (i+1)):=by
 have:l.drop i=l.getD i []::l.drop (i+1):=by
  rw[List.drop_eq_getElem_cons h,AY,AF h];rfl
 rw[this];rfl
theorem cA {m:List (List U)}{c:Bool}{o r t F K z0 z1 z2 z7 z8:Int}{z E z3 z6:Bool}{A C z4 z5:ByteArray}{q0 q1 q2 q3 q4 q5 q6 q7 q8:U}
  (h:c=true↔(Bz 2 m k < m.length/\¬(z0=o/\z1=r/\z2=t/\(z3=true↔z=true)/\z4=A/\z5=C/\(z6=true↔E=true)/\z7=F/\z8=K))) (hk:k=DT (l.getD i []))
  (M:z0=(EB 2 0 m q0 k).toI) (N:z1=(EB 2 1 m q1 k).toI) (O:z2=(EB 2 2 m q2 k).toI) (T:z3=(EB 2 3 m q3 k).toB) (V:z4=(EB 2 4 m q4 k).toS) (W:z5=(EB 2 5 m q5 k).toS) (Y:z6=(EB 2 6 m q6 k).toB) (Z:z7=(EB 2 7 m q7 k).toI) (e8:z8=(EB 2 8 m q8 k).toI)
  (f0:o=BU l i 0) (f1:r=BU l i 1) (f2:t=BU l i 2) (f3:z=DW l i 3) (f4:A=Bq l i 4) (f5:C=Bq l i 5) (f6:E=DW l i 6) (f7:F=BU l i 7) (f8:K=BU l i 8):c=true↔LU m (l.getD i [])=true:=by
 rw[h];subst hk;unfold LU;rw[AB,decide_eq_true_eq];refine and_congr_right fun bb=>?_;have g:∀(n:Nat) (q:U),EB 2 n m q (DT (l.getD i []))=((m.getD (Bz 2 m (DT (l.getD i []))) []).drop 2).getD n default:=fun n q=>by
  unfold EB;rw[decide_eq_true bb];simp[AY,A8]
 rw[g] at M N O T V W Y Z e8;have b:∀x y:Bool,(x=true↔y=true)↔x=y:=fun x y=>by cases x<;>cases y<;>simp
 rw[b,b,M,N,O,T,V,W,Y,Z,e8,f0,f1,f2,f3,f4,f5,f6,f7,f8];unfold Q3;simp only[Bool.not_eq_true',<-Bool.not_eq_true,AB,decide_eq_true_eq,and_assoc];exact Iff.rfl
def Bc (l:List (List U)):Int:=if 200 < l.length then 6 else if¬l.all Ed=true then 2 else if EZ l=true then 0 else 12
def Co (l:List (List U))(D:Nat->Nat):List (List U):=(List.range l.length).map fun q=>l.getD (D q) []
def swS (a b n q:Nat):Nat:=if a<=q/\q < a+n then q+(b - a) else if b<=q/\q < b+n then q - (b - a) else q
def rtS (a m b q:Nat):Nat:=if a<=q/\q < a+(b - m) then q+(m - a) else if a+(b - m)<=q/\q < b then q - (b - m) else q
def DH (l:List (List U))(a m b:Nat):List (List U):=l.take a++((l.take b).drop m++((l.take m).drop a++l.drop b))
section
variable {l c:List (List U)}{D J :Nat->Nat}{a b m n i j:Nat}
theorem Gh:(Co l D).length=l.length:=by unfold Co;simp
variable{q:Nat}
theorem I7 (h:q < l.length):(Co l D).getD q []=l.getD (D q) []:=by
 unfold Co;grind
theorem Qq (h:c.length=l.length)(C:∀q,q < l.length->c.getD q []=l.getD q []):c=l:=by
 refine List.ext_getElem h fun q o r=>?_;grind
theorem Ni (h:c.length=l.length)(C:∀q,q < l.length->c.getD q []=l.getD (D q) []):c=Co l D:=
 Qq (by rw[h,Gh]) fun q o=>by rw[Gh] at o;rw[C q o,I7 o]
theorem vU (h:∀q,q < l.length->D q=q):Co l D=l:=(Ni rfl fun q o=>by rw[h q o]).symm
theorem Y1 {W :Nat->Nat}(h:∀q,q < l.length-> J q < l.length/\D (J q)= W q):Co (Co l D) J =Co l W :=
 Ni (by rw[Gh,Gh]) fun q o=>by
  rw[I7 (by rw[Gh];exact o),I7 (h q o).1,(h q o).2]
theorem SD {x y:List U}(Z:i < c.length)(h:j < c.length):((c.set i x).set j y).getD q []=if q=j then y else if q=i then x else c.getD q []:=by
 grind
theorem ua (h:c=Co l (swS a b i))(t:a+i < b)(z:b+i < l.length):
  (c.set (a+i) (c.getD (b+i) [])).set (b+i) (c.getD (a+i) [])=Co l (swS a b (i+1)):=by
 have o:c.length=l.length:=by rw[h,Gh]
 refine Ni (by rw[Au,Au,o]) fun q r=>?_;rw[SD (by omega) (by omega),h,I7 (by omega),I7 (by omega)];by_cases O:q=b+i
 .subst O;rw[BH rfl];congr 1;unfold swS;grind
 .rw[BG O];by_cases C:q=a+i
  .subst C;rw[BH rfl];congr 1;unfold swS;grind
  .rw[BG C,I7 r];congr 1;unfold swS;grind
theorem vO:Co l (swS a b 0)=l:=vU fun q _=>by
 unfold swS
 (repeat' split)<;>omega
theorem xT (h:j < i)(Z:i<=m)(o:m+j<=l.length):Co (Co l (swS (m - i) m j)) (rtS (m - (i - j)) m (m+j))=Co l (rtS (m - i) m (m+j)):=
 Y1 fun q r=>by
  unfold swS rtS;constructor
  ·(repeat' split)<;>omega
  ·(repeat' split)<;>omega
theorem wX (h:i < j)(Z:i<=m)(o:m+j<=l.length):Co (Co l (swS (m - i) (m+j - i) i)) (rtS (m - i) m (m+(j - i)))=Co l (rtS (m - i) m (m+j)):=
 Y1 fun q r=>by
  unfold swS rtS;constructor
  ·(repeat' split)<;>omega
  ·(repeat' split)<;>omega
theorem wj (Z:i<=m)(o:m+i<=l.length):Co l (swS (m - i) m i)=Co l (rtS (m - i) m (m+i)):=
 (Ni Gh fun q h=>by
  rw[I7 h];congr 1;unfold swS rtS
  (repeat' split)<;>omega)
theorem Gd (O:a<=m)(C:m<=b)(h:b<=l.length):(DH l a m b).length=l.length:=by
 unfold DH;grind
theorem Fl (O:a<=m)(C:m<=b)(h:b<=l.length):(DH l a m b).getD q []=l.getD (rtS a m b q) []:=by
 unfold DH rtS;rw[AY,AY];congr 1;simp only[BA,Ao,Av,BB,A8];grind
theorem ve (O:a<=m)(C:m<=b)(h:b<=l.length):Co l (rtS a m b)=DH l a m b:=
 (Ni (Gd O C h) fun q _=>Fl O C h).symm
theorem Ss (O:a=m\/m=b)(C:a<=m)(o:m<=b)(h:b<=l.length):DH l a m b=l:=
 Qq (Gd C o h) fun q _=>by
  rw[Fl C o h];congr 1;unfold rtS
  (repeat' split)<;>omega
theorem xS (h:c=DH l a (a+1) (i+1))(r:a<=i)(Z:i+1 < l.length):
  (c.set i (c.getD (i+1) [])).set (i+1) (c.getD i [])=DH l a (a+1) (i+2):=by
 have o:c.length=l.length:=by rw[h,Gd]<;>omega
 refine Qq (by rw[Au,Au,o,Gd]<;>omega) fun q t=>?_;rw[SD (by omega) (by omega),h,Fl (by omega) (by omega) (by omega),Fl (by omega) (by omega) (by omega),Fl (by omega) (by omega) (by omega),Fl (by omega) (by omega) (by omega)];by_cases O:q=i+1
 .subst O;rw[BH rfl];congr 1;unfold rtS;grind
 .rw[BG O];by_cases C:q=i
  .subst C;rw[BH rfl];congr 1;unfold rtS;grind
  .rw[BG C];congr 1;unfold rtS;grind
theorem ss (h:c=DH l i m (m+1))(O:1<=i)(Z:i<=m)(r:m+1<=l.length):
  (c.set i (c.getD (i - 1) [])).set (i - 1) (c.getD i [])=DH l (i - 1) m (m+1):=by
 have o:c.length=l.length:=by rw[h,Gd]<;>omega
 refine Qq (by rw[Au,Au,o,Gd]<;>omega) fun q t=>?_;rw[SD (by omega) (by omega),h,Fl (by omega) (by omega) (by omega),Fl (by omega) (by omega) (by omega),Fl (by omega) (by omega) (by omega),Fl (by omega) (by omega) (by omega)];by_cases O:q=i - 1
 .subst O;rw[BH rfl];congr 1;unfold rtS;grind
 .rw[BG O];by_cases C:q=i
  .subst C;rw[BH rfl];congr 1;unfold rtS;grind
  .rw[BG C];congr 1;unfold rtS;grind
end
theorem Kn {x:Int}(O:0<=x)(C:x<=18446744073709551615):IntKind.u64.wrap x=x:=by
 refine GO .u64 x ?_ ?_<;>simp[IntKind.min,IntKind.max,IntKind.signed,IntKind.bits]<;>omega
def seg (l:List (List U))(a b:Nat):List (List U):=(l.take b).drop a
def Srt (lt:List U->List U->Bool)(l:List (List U)):Prop:=l.Pairwise fun x y=>¬lt y x=true
def Dst (lt:List U->List U->Bool)(l:List (List U)):Prop:=∀x y,x∈l->y∈l->¬lt x y=true->¬lt y x=true->x=y
section
variable {lt:List U->List U->Bool}{l c:List (List U)}{a b m s e:Nat}
theorem spl {i j:Nat}(h:i<=j):l.drop i=(l.drop i).take (j - i)++l.drop j:=by
 have e:l.drop j=(l.drop i).drop (j - i):=by rw[A7,show i+(j - i)=j by omega]
 rw[e,Az]
theorem Eh (h:b<=l.length):(seg l a b).length=b - a:=by unfold seg;rw[Av,Ao];omega
theorem Fw (h:a<=b):seg l a b=(l.drop a).take (b - a):=by unfold seg;rw[List.drop_take]
theorem Eo (h:a<=m)(C:m<=b):seg l a b=seg l a m++seg l m b:=by
 rw[Fw (AV h C),Fw h,Fw C];have e:=spl (l:=l) (i:=a) (j:=m) h
 conv=>lhs;rw[e]
 rw[List.take_append];congr 1
 .grind
 .rw[Ao,Av];by_cases o:m<=l.length
  .congr 1;omega
  .rw[List.drop_eq_nil_of_le (by omega)];simp
theorem vM {o r:Nat}(h:a<=o)(t:o<=r)(C:r<=b):seg l o r ⊆ seg l a b:=fun x z=>by
 rw[Eo h (AV t C),Eo t C];exact Ap.2 (.inr (Ap.2 (.inl z)))
variable{q x p aY y:Nat}{X P aS:List (List U)}
theorem PX (O:a<=q)(C:q < b)(h:q < l.length):(seg l a b)[q - a]? =some (l.getD q []):=by
 unfold seg;grind
theorem G3 {x:List U}(o:b<=l.length)(h:x∈seg l a b):∃q,a<=q/\q < b/\l.getD q []=x:=by
 obtain⟨k,r,rfl⟩:=yK.1 h;rw[Eh o] at r;have:=PX (l:=l) (a:=a) (b:=b) (q:=a+k) (by omega) (by omega) (by omega);grind
theorem Hx (h:Srt lt (seg l a b))(t:a<=p)(K:p < q)(z:q < b)(F:b<=l.length):¬lt (l.getD q []) (l.getD p [])=true:=by
 have O:=PX (l:=l) (a:=a) (b:=b) (q:=p) t (by omega) (by omega);have C:=PX (l:=l) (a:=a) (b:=b) (q:=q) (by omega) z (by omega);obtain⟨A,o⟩:=AG.1 O;obtain⟨E,r⟩:=AG.1 C;have:=(BJ.1 h) (p - a) (q - a) A E (by omega);rwa [o,r] at this
theorem L9 (t:WkO lt)(h:Srt lt (seg l a b))(o:a<=p)(z:p<=q)(A:q < b)(r:b<=l.length):¬lt (l.getD q []) (l.getD p [])=true:=by
 rcases Nat.lt_or_eq_of_le z with O|O
 .exact Hx h o O A r
 .subst O;exact fun h=>t.asym _ _ h h
theorem Ps (o:b<=l.length)(h:∀p q,a<=p->p < q->q < b->¬lt (l.getD q []) (l.getD p [])=true):Srt lt (seg l a b):=by
 refine BJ.2 fun i j Z r t=>?_;rw[Eh o] at Z r;have O:=PX (l:=l) (a:=a) (b:=b) (q:=a+i) (by omega) (by omega) (by omega);have C:=PX (l:=l) (a:=a) (b:=b) (q:=a+j) (by omega) (by omega) (by omega);grind
theorem UQ:Br lt l a b=l.take a++(CX lt (seg l a b)++l.drop b):=by
 unfold Br CX seg;rw[Am]
theorem TP (r:WkO lt)(hd:Dst lt (seg l a b))(o:c=l.take a++(X++l.drop b))(h:X.Perm (seg l a b))(ac:Srt lt X):c=Br lt l a b:=by
 rw[o,UQ];congr 2;refine P3 (lt:=lt) (h.trans EX.symm) ac (D0 r) fun x y t z O C=>?_;exact hd x y (h.subset t) (h.subset z) O C
theorem Tw (o:WkO lt)(hd:Dst lt (seg l a b))(ac:Srt lt (seg l a b))(h:a<=b):Br lt l a b=l:=by
 refine (TP o hd ?_ (List.Perm.refl _) ac).symm;rw[Fw h,<-spl h,Az]
theorem Ml (O:a<=s)(C:s<=m)(t:m<=e)(h:e<=b)(z:b<=l.length):
  DH l s m e=l.take a++(seg l a s++(seg l m e++(seg l s m++(seg l e b++l.drop b)))):=by
 have o:l.take s=l.take a++seg l a s:=by
  have:=Az a (l.take s);rw[List.take_take,show min a s=a by omega] at this;exact this.symm
 have r:l.drop e=seg l e b++l.drop b:=by rw[Fw h];exact spl h
 unfold DH;rw[o,r];simp only[Am];rfl
theorem U6 {S:List (List U)}:Br lt (P++(X++S)) P.length (P.length+X.length)=P++(CX lt X++S):=by
 rw[UQ];have O:(P++(X++S)).take P.length=P:=List.take_left' rfl;have C:seg (P++(X++S)) P.length (P.length+X.length)=X:=by
  rw[Fw (Nat.le_add_right _ _),List.drop_left' rfl,show P.length+X.length - P.length=X.length by omega,List.take_left' rfl]
 grind
theorem tM (h:WkO lt){T V:List (List U)}(A:a<=s)(Y:s<=m)(F:m<=e)(W:e<=b)(E:b<=l.length)(ax:aY+m=s+e)
  (O:Srt lt (seg l a m)) (C:Srt lt (seg l m b)) (hd:Dst lt (seg l a b))
  (o:s=a\/e=b\/¬lt (l.getD e []) (l.getD (s - 1) [])=true) (t:e=m\/s=m\/lt (l.getD (e - 1) []) (l.getD s [])=true)
  (al:aS=DH l s m e) (an:T=Br lt aS a aY) (ao:V=Br lt T aY b):V=Br lt l a b:=by
 have Z:(l.take a).length=a:=by rw[Ao];omega
 have ay:=Ml (l:=l) A Y F W E;have g1:aS=l.take a++((seg l a s++seg l m e)++(seg l s m++(seg l e b++l.drop b))):=by rw[al,ay];simp only[Am]
 have av:a+(seg l a s++seg l m e).length=aY:=by rw[AP,Eh (by omega),Eh (by omega)];omega
 have aw:T=l.take a++(CX lt (seg l a s++seg l m e)++(seg l s m++(seg l e b++l.drop b))):=by
  have:=U6 (lt:=lt) (P:=l.take a) (X:=seg l a s++seg l m e) (S:=seg l s m++(seg l e b++l.drop b));rw[Z,av,<-g1,<-an] at this;exact this
 have g3:V=l.take a++((CX lt (seg l a s++seg l m e)++CX lt (seg l s m++seg l e b))++l.drop b):=by
  have:=U6 (lt:=lt) (P:=l.take a++CX lt (seg l a s++seg l m e)) (X:=seg l s m++seg l e b) (S:=l.drop b);rw[AP,Z,DY,av,show aY+(seg l s m++seg l e b).length=b by rw[AP,Eh (by omega),Eh (by omega)];omega] at this;rw[ao,aw];simp only[Am] at this⊢;exact this
 refine TP h hd g3 ?_ ?_
 .rw[Eo (l:=l) (AV A Y) (AV F W),Eo (l:=l) A Y,Eo (l:=l) F W];refine (EX.append EX).trans ?_;simp only[Am];refine List.Perm.append_left _ ?_;rw[<-Am,<-Am];exact List.Perm.append_right _ List.perm_append_comm
 .refine BM.2 ⟨D0 h,D0 h,fun x r y z=>?_⟩;rw[N5,Ap] at r z;have N:=h.tr;rcases r with r|r<;>obtain⟨p,K,p2,rfl⟩:=G3 (by omega) r<;>rcases z with z|z<;>obtain⟨q,q1,M,rfl⟩:=G3 (by omega) z
  .exact Hx O K (by omega) M (by omega)
  .rcases o with o|o|o
   .omega
   .omega
   .exact N _ _ _ (N _ _ _ (L9 h O K (q:=s - 1) (by omega) (by omega) (by omega)) o) (L9 h C F (p:=e) q1 M E)
  .rcases t with t|t|t
   .omega
   .omega
   .exact N _ _ _ (N _ _ _ (L9 h C K (q:=e - 1) (by omega) (by omega) E) (h.asym _ _ t)) (L9 h O A (p:=s) q1 M (by omega))
  .exact Hx C K (by omega) M E
theorem wp (r:WkO lt)(K:a+1<=e)(T:e<=b)(h:b<=l.length)(C:Srt lt (seg l (a+1) b))(hd:Dst lt (seg l a b))
  (z:e=a+1\/lt (l.getD (e - 1) []) (l.getD a [])=true) (A:e=b\/¬lt (l.getD e []) (l.getD a [])=true):DH l a (a+1) e=Br lt l a b:=by
 have Z:=Gd (l:=l) (a:=a) (m:=a+1) (b:=e) (by omega) K (by omega);have ay:=Ml (l:=l) (a:=a) (s:=a) (m:=a+1) (e:=e) (b:=b) (AE _) (by omega) K T h;have n0:seg l a a=[]:=List.eq_nil_of_length_eq_zero (by rw[Eh (by omega)];omega);rw[n0,BF] at ay;have g:DH l a (a+1) e=l.take a++((seg l (a+1) e++(seg l a (a+1)++seg l e b))++l.drop b):=by rw[ay];simp only[Am]
 refine TP r hd g ?_ ?_
 .rw[Eo (l:=l) (a:=a) (m:=a+1) (b:=b) (by omega) (by omega),Eo (l:=l) K T,<-Am,<-Am];exact List.Perm.append_right _ List.perm_append_comm
 .have W:=r.tr;refine BM.2 ⟨?_,BM.2 ⟨?_,?_,fun x M y o=>?_⟩,fun x M y o=>?_⟩
  .exact Ps (by omega) fun p q E t F=>Hx C E t (by omega) h
  .exact Ps (by omega) fun p q E t F=>by omega
  .exact Ps h fun p q E t F=>Hx C (by omega) t F h
  .obtain⟨p,N,Y,rfl⟩:=G3 (by omega) M;obtain⟨q,V,O,rfl⟩:=G3 (by omega) o;obtain rfl:p=a:=by omega
   rcases A with A|A
   .omega
   .exact W _ _ _ A (L9 r C (p:=e) (by omega) V O h)
  .obtain⟨p,N,Y,rfl⟩:=G3 (by omega) M;rcases Ap.1 o with o|o<;>obtain⟨q,V,O,rfl⟩:=G3 (by omega) o
   .obtain rfl:q=a:=by omega
    rcases z with z|z
    .omega
    .exact W _ _ _ (L9 r C N (q:=e - 1) (by omega) (by omega) h) (r.asym _ _ z)
   .exact Hx C N (by omega) O h
theorem rO (o:WkO lt)(E:a<=s)(N:s<=m)(W:m+1<=l.length)(O:Srt lt (seg l a m))(hd:Dst lt (seg l a (m+1)))
  (t:s=a\/¬lt (l.getD m []) (l.getD (s - 1) [])=true) (z:s=m\/lt (l.getD m []) (l.getD s [])=true):DH l s m (m+1)=Br lt l a (m+1):=by
 have ay:=Ml (l:=l) (a:=a) (s:=s) (m:=m) (e:=m+1) (b:=m+1) E N (by omega) (AE _) W;have n0:seg l (m+1) (m+1)=[]:=List.eq_nil_of_length_eq_zero (by rw[Eh (by omega)];omega);rw[n0,BF] at ay;have g:DH l s m (m+1)=l.take a++((seg l a s++(seg l m (m+1)++seg l s m))++l.drop (m+1)):=by rw[ay];simp only[Am]
 refine TP o hd g ?_ ?_
 .rw[Eo (l:=l) (a:=a) (m:=m) (b:=m+1) (by omega) (by omega),Eo (l:=l) E N,Am];exact List.Perm.append_left _ List.perm_append_comm
 .have V:=o.tr;refine BM.2 ⟨?_,BM.2 ⟨?_,?_,fun x F y h=>?_⟩,fun x F y h=>?_⟩
  .exact Ps (by omega) fun p q A r C=>Hx O A r (by omega) (by omega)
  .exact Ps (by omega) fun p q A r C=>by omega
  .exact Ps (by omega) fun p q A r C=>Hx O (by omega) r C (by omega)
  .obtain⟨p,K,Y,rfl⟩:=G3 (by omega) F;obtain⟨q,T,M,rfl⟩:=G3 (by omega) h;obtain rfl:p=m:=by omega
   rcases z with z|z
   .omega
   .exact V _ _ _ (o.asym _ _ z) (L9 o O (p:=s) E T M (by omega))
  .obtain⟨p,K,Y,rfl⟩:=G3 (by omega) F;rcases Ap.1 h with h|h<;>obtain⟨q,T,M,rfl⟩:=G3 (by omega) h
   .obtain rfl:q=m:=by omega
    rcases t with t|t
    .omega
    .exact V _ _ _ (L9 o O K (q:=s - 1) (by omega) (by omega) (by omega)) t
   .exact Hx O K (by omega) M (by omega)
theorem Pt {S:List (List U)}(O:x=P.length)(C:y=P.length+X.length):seg (P++(X++S)) x y=X:=by
 subst O;subst C;rw[Fw (Nat.le_add_right _ _),List.drop_left' rfl,show P.length+X.length - P.length=X.length by omega,List.take_left' rfl]
theorem Dst.mono {aj:List (List U)}(h:Dst lt l)(C:aj ⊆ l):Dst lt aj:=fun x y o r=>h x y (C o) (C r)
theorem ui (o:a<=s)(F:s<=m)(z:m<=e)(r:e<=b)(M:b<=l.length)(ag:aY+m=s+e)
  (O:Srt lt (seg l a m)) (C:Srt lt (seg l m b)) (hd:Dst lt (seg l a b)) (N:aS=DH l s m e):
  aS.length=l.length/\Srt lt (seg aS a s)/\Srt lt (seg aS s aY)/\Dst lt (seg aS a aY)/\Srt lt (seg aS aY e)/\Srt lt (seg aS e b)/\Dst lt (seg aS aY b):=by
 have Y:(l.take a).length=a:=by rw[Ao];omega
 have av:(seg l a s).length=s - a:=Eh (by omega);have aD:(seg l m e).length=e - m:=Eh (by omega);have n3:(seg l s m).length=m - s:=Eh (by omega);have n4:(seg l e b).length=b - e:=Eh M;have ay:=Ml (l:=l) o F z r M;rw[<-N] at ay;have T:seg aS a s=seg l a s:=by rw[ay];exact Pt Y.symm (by omega)
 have E:seg aS s aY=seg l m e:=by
  rw[ay,<-Am];exact Pt (by rw[AP];omega) (by rw[AP];omega)
 have V:seg aS aY e=seg l s m:=by
  rw[ay,<-Am,<-Am];exact Pt (by rw[AP,AP];omega) (by rw[AP,AP];omega)
 have W:seg aS e b=seg l e b:=by
  rw[ay,<-Am,<-Am,<-Am];exact Pt (by rw[AP,AP,AP];omega) (by rw[AP,AP,AP];omega)
 have t:∀x y,a<=x->x<=y->y<=b->seg l x y ⊆ seg l a b:=fun x y Z p2 p3=>vM Z p2 p3;have A:Srt lt (seg l a s)/\Srt lt (seg l s m):=by
  rw[Eo (l:=l) o F] at O;exact⟨(BM.1 O).1,(BM.1 O).2.1⟩
 have B:Srt lt (seg l m e)/\Srt lt (seg l e b):=by
  rw[Eo (l:=l) z r] at C;exact⟨(BM.1 C).1,(BM.1 C).2.1⟩
 refine⟨by rw[N,Gd]<;>omega,by rw[T];exact A.1,by rw[E];exact B.1,?_,by rw[V];exact A.2,by rw[W];exact B.2,?_⟩
 .rw[Eo (l:=aS) o (m:=s) (b:=aY) (by omega),T,E];exact hd.mono fun x K=>(Ap.1 K).elim (fun h=>t a s (by omega) o (by omega) h) (fun h=>t m e (by omega) z r h)
 .rw[Eo (l:=aS) (a:=aY) (m:=e) (b:=b) (by omega) r,V,W];exact hd.mono fun x K=>(Ap.1 K).elim (fun h=>t s m o F (by omega) h) (fun h=>t e b (by omega) r (AE _) h)
theorem dg (o:WkO lt)(ac:s=a\/s=m)(h:a<=m)(O:Srt lt (seg l a s))(C:Srt lt (seg l s m))(hd:Dst lt (seg l a m)):Br lt l a m=l:=by
 rcases ac with rfl|rfl
 .exact Tw o hd C h
 .exact Tw o hd O h
theorem tv (h:a<=m)(r:m<=l.length)(t:m<=x)(o:x<=y):seg (Br lt l a m) x y=seg l x y:=by
 rw[Fw o,Fw o];congr 1;have:=(Vq (lt:=lt) (l:=l) h r).2.2;rw[show x=m+(x - m) by omega,<-A7,this,A7]
theorem iJ (h:b=l.length):seg l 0 b=l:=by unfold seg;rw[List.drop_zero,h,BD]
theorem sQ (r:WkO lt){n:Nat}(O:m<=n)(A:n=l.length)(hd:Dst lt l)(K:c=Br lt (Br lt l 0 m) m n):
  c.length=l.length/\Srt lt (seg c 0 m)/\Srt lt (seg c m n)/\Dst lt (seg c 0 n)/\Br lt c 0 n=Br lt l 0 n:=by
 have M:l.drop m=(l.drop m).take (n - m)++l.drop n:=spl O;have z:l.drop n=[]:=List.drop_eq_nil_of_le (by omega);have o:(seg l 0 m).length=m:=by rw[Eh (by omega)];omega
 have C:(seg l m n).length=n - m:=Eh (by omega);have T:Br lt l 0 m=CX lt (seg l 0 m)++(seg l m n++[]):=by
  rw[UQ,List.take_zero,BF,M,Fw O,z]
 have t:c=CX lt (seg l 0 m)++(CX lt (seg l m n)++[]):=by
  rw[K,T];have:=U6 (lt:=lt) (P:=CX lt (seg l 0 m)) (X:=seg l m n) (S:=[]);rw[DY,o,C,show m+(n - m)=n by omega] at this;exact this
 have e:l=seg l 0 m++seg l m n:=by
  have:=Eo (l:=l) (a:=0) (m:=m) (b:=n) (Ak _) O;rwa [iJ A] at this
 have h:c.Perm l:=by
  rw[t,yJ];exact (EX.append EX).trans (by rw[<-e])
 have N:=h.length_eq;have V:seg c 0 m=CX lt (seg l 0 m):=by
  have:=Pt (P:=[]) (X:=CX lt (seg l 0 m)) (S:=CX lt (seg l m n)++[]) (x:=0) (y:=m) rfl (by rw[DY,o];simp);rwa [BF,<-t] at this
 have W:seg c m n=CX lt (seg l m n):=by
  rw[t];exact Pt (by rw[DY,o]) (by rw[DY,DY,o,C];omega)
 have Y:seg c 0 n=c:=iJ (by omega);refine⟨N,by rw[V];exact D0 r,by rw[W];exact D0 r,by rw[Y];exact hd.mono h.subset,?_⟩;rw[UO (by omega),UO A];exact Q5 r h fun a b E F=>hd a b (h.subset E) (h.subset F)
end
end
section
def TyB (l:List (List U)):Prop:=∀u∈l,Bb BT KB u
def Nl (l:List (List U)):Prop:=∀u v,u∈l->v∈l->uI u 0=uI v 0->uI u 1=uI v 1->u=v
variable{u v:List U}{l:List (List U)}{i:Nat}{p:List U->Bool}
theorem U3 (o:Bb BT KB u)(r:Bb BT KB v):Q3 u v=true↔u=v:=by
 constructor
 .intro h;rw[<-Nd o,<-Nd r];unfold Q3 at h;grind
 .rintro rfl;unfold Q3;simp
def mkL (L:List (List U)):List (List U):=L.map fun u=>DT u++u
theorem XS :Ce ((DT v++v).take 2) (DT u)=true↔(uI v 0=uI u 0/\uI v 1=uI u 1):=by
 show Ce [U.int (uI v 0),U.int (uI v 1)] [U.int (uI u 0),U.int (uI u 1)]=true↔_;simp[Ce,U.eqv]
theorem pq {L:List (List U)}:Bz 2 (mkL L) (DT u) < (mkL L).length↔∃v∈L,uI v 0=uI u 0/\uI v 1=uI u 1:=by
 unfold Bz;rw[List.findIdx_lt_length];unfold mkL;constructor
 .rintro⟨x,r,h⟩;obtain⟨v,o,rfl⟩:=BL.1 r;exact⟨v,o,XS.1 h⟩
 .rintro⟨v,o,h⟩;exact⟨_,BL.2 ⟨v,o,rfl⟩,XS.2 h⟩
theorem aN {L:List (List U)}(h:Bz 2 (mkL L) (DT u) < (mkL L).length):∃v∈L,(uI v 0=uI u 0/\uI v 1=uI u 1)/\(mkL L).getD (Bz 2 (mkL L) (DT u)) []=DT v++v:=by
 have O:Ce (((mkL L)[Bz 2 (mkL L) (DT u)]'h).take 2) (DT u)=true:=List.findIdx_getElem (w:=h);have C:(mkL L)[Bz 2 (mkL L) (DT u)]'h∈mkL L:=yM h;unfold mkL at C;obtain⟨v,o,e⟩:=BL.1 C;refine⟨v,o,?_,?_⟩
 .rw[<-XS];have:(DT v++v)=(mkL L)[Bz 2 (mkL L) (DT u)]'h:=e;rw[this];exact O
 .rw[AY,AF h];exact e.symm
theorem Y3 {L:List (List U)}(z:TyB L)(A:Bb BT KB u)(ac:Nl L):LU (mkL L) u=true↔∃v∈L,(uI v 0=uI u 0/\uI v 1=uI u 1)/\v≠u:=by
 unfold LU;rw[AB,decide_eq_true_eq];constructor
 .rintro⟨O,C⟩;obtain⟨v,r,t,e⟩:=aN O;rw[e,show (DT v++v).drop 2=v from rfl] at C;refine⟨v,r,t,fun h=>?_⟩;rw[(U3 (z v r) A).2 h] at C;cases C
 .rintro⟨v,r,t,K⟩;have O:Bz 2 (mkL L) (DT u) < (mkL L).length:=pq.2 ⟨v,r,t⟩;refine⟨O,?_⟩;obtain⟨o,E,N,e⟩:=aN O;rw[e,show (DT o++o).drop 2=o from rfl];have M:o=v:=ac _ _ E r (by omega) (by omega);cases F:Q3 o u
  .rfl
  .exact absurd (M.symm.trans ((U3 (z o E) A).1 F)) K
theorem Qk:∀{l L:List (List U)},TyB L->TyB l->Nl L->(Dv (mkL L) l=true↔Nl (L++l))
 |[],L,_,_,ac=>by rw[yJ];exact⟨fun _=>ac,fun _=>rfl⟩
 |u::l,L,hL,hl,ac=>by
  have N:=hl u AN;have V:TyB l:=fun x T=>hl x (AK _ T);show (if LU (mkL L) u=true then false else Dv (Cb 2 (mkL L) (DT u) u) l)=true↔_;by_cases F:LU (mkL L) u=true
  .rw[BH F];obtain⟨v,t,A,K⟩:=(Y3 hL N ac).1 F;refine⟨fun h=>(by cases h),fun h=>absurd (h v u (AU _ t) (AO _ AN) A.1 A.2) K⟩
  .rw[BG F];have W:∀v∈L,uI v 0=uI u 0->uI v 1=uI u 1->v=u:=fun v t O C=>by
    by_cases h:v=u
    .exact h
    .exact absurd ((Y3 hL N ac).2 ⟨v,t,⟨O,C⟩,h⟩) F
   by_cases Z:Bz 2 (mkL L) (DT u) < (mkL L).length
   .obtain⟨v,t,A,e⟩:=aN Z;obtain rfl:=W v t A.1 A.2;have M:Cb 2 (mkL L) (DT v) v=mkL L:=by
     unfold Cb;rw[decide_eq_true Z];show (mkL L).set (Bz 2 (mkL L) (DT v)) (DT v++v)=mkL L;rw[<-e,AY,AF Z];exact List.set_getElem_self Z
    rw[M,Qk hL V ac];constructor
    .intro h a b o r;have E:∀a,a∈L++v::l->a∈L++l:=fun a o=>by
      rcases Ap.1 o with h|h
      .exact AU _ h
      .rcases List.mem_cons.1 h with rfl|h
       .exact AU _ t
       .exact AO _ h
     exact h a b (E a o) (E b r)
    .intro h a b o r;have E:∀a,a∈L++l->a∈L++v::l:=fun a o=>by
      rcases Ap.1 o with h|h
      .exact AU _ h
      .exact AO _ (AK _ h)
     exact h a b (E a o) (E b r)
   .have M:Cb 2 (mkL L) (DT u) u=mkL (L++[u]):=by
     unfold Cb;rw[decide_eq_false Z];show mkL L++[DT u++u]=_;unfold mkL;rw[AL];rfl
    have K:∀v∈L,¬(uI v 0=uI u 0/\uI v 1=uI u 1):=fun v t h=>Z (pq.2 ⟨v,t,h⟩);rw[M,Qk (L:=L++[u]) (fun x T=>(Ap.1 T).elim (hL x) fun h=>by rw[Al.1 h];exact N) V ?_]
    .rw[Am];rfl
    .intro a b o r z O;rcases Ap.1 o with o|o<;>rcases Ap.1 r with r|r
     .exact ac a b o r z O
     .rw[Al.1 r] at z O;exact absurd ⟨z,O⟩ (K a o)
     .rw[Al.1 o] at z O;exact absurd ⟨z.symm,O.symm⟩ (K b r)
     .rw[Al.1 o,Al.1 r]
theorem Rz (h:TyB l):EZ l=true↔Nl l:=by
 have:=Qk (l:=l) (L:=[]) (fun x r=>by cases r) h (fun u v o=>by cases o);rwa [BF] at this
def okP (l:List (List U))(p q:Nat):Prop:=uI (l.getD p []) 0=uI (l.getD q []) 0->uI (l.getD p []) 1=uI (l.getD q []) 1->l.getD p []=l.getD q []
theorem mE :Nl l↔∀p q:Nat,q < p->p < l.length->okP l p q:=by
 constructor
 .exact fun h p q O C=>h _ _ (Ca C) (Ca (by omega))
 .intro h u v z A K O;obtain⟨p,r,rfl⟩:=yK.1 z;obtain⟨q,t,rfl⟩:=yK.1 A;have E:l.getD p []=l[p]:=by rw[AY,AF r];rfl
  have F:l.getD q []=l[q]:=by rw[AY,AF t];rfl
  rcases Nat.lt_trichotomy p q with o|o|o
  .have:=h q p o t;unfold okP at this;grind
  .subst o;rfl
  .have:=h p q o r;unfold okP at this;grind
theorem Q0 {ah:List (List U)}{j:Nat}(O:TyB l)(C:TyB ah)(Z:i < l.length)(h:j < ah.length):(BU l i 0=BU ah j 0/\BU l i 1=BU ah j 1/\BU l i 2=BU ah j 2/\(DW l i 3=true↔DW ah j 3=true)/\Bq l i 4=Bq ah j 4/\Bq l i 5=Bq ah j 5/\(DW l i 6=true↔DW ah j 6=true)/\BU l i 7=BU ah j 7/\BU l i 8=BU ah j 8)↔l.getD i []=ah.getD j []:=by
 rw[<-U3 (O _ (Ca Z)) (C _ (Ca h))];have b:∀x y:Bool,(x=true↔y=true)↔x=y:=fun x y=>by cases x<;>cases y<;>simp
 unfold Q3;simp only[b,AB,decide_eq_true_eq,and_assoc];exact Iff.rfl
theorem Mp (h:Bc l=0):l.length<=200:=by
 unfold Bc at h;grind
def Ol (u:List U):Bool:=decide (100 < (uS u 0).size)
def LW (u:List U):Bool:=decide (100 < (uS u 4).size)||decide (100 < (uS u 5).size)
def HL (p l:List (List U))(h:Int):Bool:=decide (30 < p.length)||(decide (h < l.length)&&decide (l.length<=200))||decide (210 < l.length)||p.any Ol||l.any LW
theorem dN :(l++[u]).any p=true↔(l.any p=true\/p u=true):=by simp
theorem xE (h:i < l.length)(o:p (l.getD i [])=true):l.any p=true:=List.any_eq_true.2 ⟨_,Ca h,o⟩
end
section
structure Wm (l:List (List U)):Prop where
 mx:∀r∈CI l,∀v∈l,uI v 0=uI r 0->uI v 1<=uI r 2
 al:∀v∈l,∃r∈CI l,uI r 0=uI v 0
theorem io {m:List (List U)}{p:List U->Prop}(h:My p m){a b:List U}(r:a∈m)(t:b∈m)(e:uI a 0=uI b 0):a=b:=by
 obtain⟨i,Z,rfl⟩:=yK.1 r;obtain⟨j,o,rfl⟩:=yK.1 t;rcases Nat.lt_trichotomy i j with O|O|O
 .exact absurd e ((BJ.1 h.once) i j Z o O)
 .subst O;rfl
 .exact absurd e.symm ((BJ.1 h.once) j i o Z O)
variable{l:List (List U)}
theorem kS {u:List U}(h:Wm l):Wm (l++[u]):=by
 have K:=JT (l:=l);have aZ:∀r∈CI l,∃v∈l,r=U.int (uI v 0)::v:=fun r t=>by
  obtain⟨v,e,A⟩:=K.row r t;exact⟨v,A,e⟩
 have a0:∀af,CI (l++[u])=af->(∀r∈af,∀v∈l++[u],uI v 0=uI r 0->uI v 1<=uI r 2)->(∀v∈l++[u],∃r∈af,uI r 0=uI v 0)->Wm (l++[u]):=fun af e O C=>⟨by rw[e];exact O,by rw[e];exact C⟩;refine a0 _ WN ?_ ?_
 all_goals unfold I5
 .intro r t v A e;by_cases z:O2 (CI l) (uI u 0)
  .have Z:Bz 1 (CI l) [.int (uI u 0)] < (CI l).length:=z;have E:=cB K z;have T:(CI l)[Bz 1 (CI l) [.int (uI u 0)]]'Z∈CI l:=yM Z;have al:Xp (CI l) (uI u 0)=uI ((CI l)[Bz 1 (CI l) [.int (uI u 0)]]'Z) 2:=by
    unfold Xp EB;rw[decide_eq_true Z,cond_true,AY (l:=CI l),AF Z];rfl
   split at t
   .rename_i hc;have a3:=hc.resolve_left (fun a=>a z);unfold Cb at t;rw[decide_eq_true Z,cond_true] at t;rcases List.mem_or_eq_of_mem_set t with O|O
    .by_cases V:uI r 0=uI u 0
     .have ax:=io K O T (V.trans E.symm);rcases Ap.1 A with C|C
      .exact h.mx r O v C e
      .exfalso;obtain⟨j,N,F⟩:=yK.1 t;rw[Au] at N;by_cases M:Bz 1 (CI l) [.int (uI u 0)]=j
       .subst M;rw[List.getElem_set_self] at F;have a1:uI r 2=uI u 1:=by rw[<-F];rfl
        have a2:uI r 2=Xp (CI l) (uI u 0):=by rw[al,<-ax]
        omega
       .rw[List.getElem_set_ne M] at F;have ag:=BJ.1 K.once;rcases Nat.lt_or_gt_of_ne M with h3|h3
        .exact ag _ _ Z N h3 (by rw[F,V];exact E)
        .exact ag _ _ N Z h3 (by rw[F,V];exact E.symm)
     .rcases Ap.1 A with C|C
      .exact h.mx r O v C e
      .rw[Al.1 C] at e;exact absurd e.symm V
    .have W:uI r 0=uI u 0:=by rw[O];rfl
     have Y:uI r 2=uI u 1:=by rw[O];rfl
     rcases Ap.1 A with C|C
     .have:=h.mx _ T v C (by rw[e,W];exact E.symm);omega
     .rw[Al.1 C,Y];exact Aw _
   .rename_i hc;rcases Ap.1 A with C|C
    .exact h.mx r t v C e
    .rw[Al.1 C] at e⊢;have:=io K t T (e.symm.trans E.symm);rw[this,<-al];have:¬Xp (CI l) (uI u 0) < uI u 1:=fun a=>hc (.inr a);omega
  .have o:=iN K z;rw[BH (.inl z)] at t;unfold Cb at t;rw[decide_eq_false (show¬Bz 1 (CI l) [.int (uI u 0)] < (CI l).length from z),cond_false] at t;rcases Ap.1 t with O|O
   .rcases Ap.1 A with C|C
    .exact h.mx r O v C e
    .rw[Al.1 C] at e;exact absurd e.symm (o r O)
   .have O:=Al.1 O;have W:uI r 0=uI u 0:=by rw[O];rfl
    have Y:uI r 2=uI u 1:=by rw[O];rfl
    rcases Ap.1 A with C|C
    .obtain⟨aG,aw,e2⟩:=h.al v C;exact absurd (e2.trans (e.trans W)) (o aG aw)
    .rw[Al.1 C,Y];exact Aw _
 .intro v A;by_cases z:O2 (CI l) (uI u 0)
  .have Z:Bz 1 (CI l) [.int (uI u 0)] < (CI l).length:=z;have E:=cB K z;have T:(CI l)[Bz 1 (CI l) [.int (uI u 0)]]'Z∈CI l:=yM Z;have an:∃r∈CI l,uI r 0=uI v 0:=by
    rcases Ap.1 A with C|C
    .exact h.al v C
    .rw[Al.1 C];exact⟨_,T,E⟩
   split
   .unfold Cb;rw[decide_eq_true Z,cond_true];obtain⟨r,t,e⟩:=an;obtain⟨j,N,F⟩:=yK.1 t;refine⟨((CI l).set (Bz 1 (CI l) [.int (uI u 0)]) ([.int (uI u 0)]++u))[j]'(by rw[Au];exact N),yM _,?_⟩;by_cases M:Bz 1 (CI l) [.int (uI u 0)]=j
    .subst M;rw[List.getElem_set_self];show uI u 0=uI v 0;rw[<-e,<-F];exact E.symm
    .rw[List.getElem_set_ne M,F];exact e
   .exact an
  .rw[BH (.inl z)];unfold Cb;rw[decide_eq_false (show¬Bz 1 (CI l) [.int (uI u 0)] < (CI l).length from z),cond_false];rcases Ap.1 A with C|C
   .obtain⟨r,t,e⟩:=h.al v C;exact⟨r,AU _ t,e⟩
   .rw[Al.1 C];exact⟨_,AO _ (Al.2 rfl),rfl⟩
theorem VM {l:List (List U)}:∀n:Nat,n<=l.length->Wm (l.take n)
 |0,_=>⟨fun r o=>by simp[CI] at o,fun v t=>by simp at t⟩
 |n+1,h=>by rw[D6 (by omega)];exact kS (VM n (by omega))
theorem yG :Wm l:=by have:=VM (l:=l) l.length (AE _);rwa [BD] at this
def Xq (l:List (List U))(i:Nat):Prop:=uB (l.getD i []) 3=false/\∀k,k < l.length->uI (l.getD k []) 0=uI (l.getD i []) 0->¬(uI (l.getD i []) 1 < uI (l.getD k []) 1)/\¬(l.getD k []=l.getD i []/\k < i)
open Classical in
def Dr (l:List (List U)):Nat->List (List U)
 |0=>[]
 |n+1=>if Xq l n then Dr l n++[l.getD n []] else Dr l n
theorem M3 {l:List (List U)}{u:List U}:∀{n:Nat},u∈Dr l n↔∃i,i < n/\Xq l i/\l.getD i []=u
 |0=>⟨fun h=>(by cases h),fun⟨i,h,_⟩=>(by omega)⟩
 |n+1=>by
  unfold Dr;split
  .rename_i r;rw[Ap,Al,M3];constructor
   .rintro (⟨i,O,C⟩|h)
    .exact⟨i,by omega,C⟩
    .exact⟨n,by omega,r,h.symm⟩
   .rintro⟨i,O,C,o⟩;by_cases e:i=n
    .subst e;exact .inr o.symm
    .exact .inl ⟨i,by omega,C,o⟩
  .rename_i r;rw[M3];constructor
   .rintro⟨i,O,C⟩;exact⟨i,by omega,C⟩
   .rintro⟨i,O,C,o⟩;exact⟨i,by have:i≠n:=(fun e=>by subst e;exact r C);omega,C,o⟩
theorem SY {l:List (List U)}:∀{n:Nat},n<=l.length->(Dr l n).Nodup
 |0,_=>List.nodup_nil
 |n+1,h=>by
  unfold Dr;split
  .rename_i A;refine List.nodup_append.2 ⟨SY (by omega),List.nodup_cons.2 ⟨by simp,List.nodup_nil⟩,fun a z b o e=>?_⟩;obtain⟨i,O,C,t⟩:=M3.1 z;have o:=Al.1 o;have r:l.getD i []=l.getD n []:=by rw[t,e,o]
   exact ((A.2 i (by omega) (by rw[r])).2 ⟨r,O⟩)
  .exact SY (by omega)
variable{l:List (List U)}
theorem iB (ac:Nl l){n:Nat}(z:n<=l.length):Dst ltB (Dr l n):=by
 intro a b h o O C;rw[K4] at O C;obtain⟨i,A,r,rfl⟩:=M3.1 h;obtain⟨j,E,t,rfl⟩:=M3.1 o;have F:=(r.2 j (by omega) (by omega)).1;have K:=(t.2 i (by omega) (by omega)).1;exact ac _ _ (Ca (by omega)) (Ca (by omega)) (by omega) (by omega)
theorem sM {lt:List U->List U->Bool}(o:WkO lt){L F:List (List U)}{s:List U}{k:Nat}(z:L=CX lt F)(hk:k<=L.length)(O:∀q,q < k->lt (L.getD q []) s=true)(C:k=L.length\/¬lt (L.getD k []) s=true)(hd:Dst lt (F++[s])):
  L.take k++(s::L.drop k)=CX lt (F++[s]):=by
 have t:(L.take k++(s::L.drop k)).Perm (F++[s]):=by
  refine List.perm_middle.trans ?_;rw[Az];have N:L.Perm F:=by rw[z];exact EX
  exact (List.Perm.cons s N).trans (List.perm_append_comm (l₁:=[s]) (l₂:=F))
 have A:L.Pairwise fun a b=>¬lt b a=true:=by rw[z];exact D0 o
 have K:=A;rw[<-Az k L] at K;obtain⟨W,Y,Z⟩:=BM.1 K;refine P3 (t.trans EX.symm) ?_ (D0 o) fun a b T V=>hd a b (t.subset T) (t.subset V);refine BM.2 ⟨W,BN.2 ⟨fun y h=>?_,Y⟩,fun x M y h=>?_⟩
 .obtain⟨j,r,rfl⟩:=yK.1 h;rw[Av] at r;have E:k < L.length:=by omega
  have C:=C.resolve_left (by omega);rw[List.getElem_drop];rw[AY,AF E] at C;rcases yN j with rfl|ab
  .exact C
  .exact o.tr _ _ _ C ((BJ.1 A) k (k+j) E (by omega) (by omega))
 .rcases List.mem_cons.1 h with rfl|h
  .obtain⟨j,r,rfl⟩:=yK.1 M;rw[Ao] at r;have:=O j (by omega);rw[AY,AF (by omega)] at this;rw[List.getElem_take];exact o.asym _ _ this
  .exact Z x M y h
theorem pm (hl:TyB l)(ac:Nl l):CX ltB (Dr l l.length)=CH l:=by
 unfold CH;have F:=JT (l:=l);have Y:=yG (l:=l);refine Q5 wkB ?_ (iB ac (AE _));refine (List.perm_ext_iff_of_nodup (SY (AE _)) ?_).2 fun u=>?_
 .refine List.pairwise_flatMap.2 ⟨fun r t=>?_,F.once.imp_of_mem fun ha hb M=>?_⟩
  .unfold Da;split<;>simp
  .intro x o y z e;obtain⟨u1,e1,_⟩:=F.row _ ha;obtain⟨u2,e2,_⟩:=F.row _ hb;unfold Da at o z;split at o
   .cases o
   .split at z
    .cases z
    .have o:=Al.1 o;have z:=Al.1 z;rw[e1] at o M;rw[e2] at z M;have e3:u1=u2:=by
      have a1:x=u1:=o;have a2:y=u2:=z;rw[<-a1,<-a2];exact e
     rw[e3] at M;exact M rfl
 .rw[M3,List.mem_flatMap];constructor
  .rintro⟨i,O,C,rfl⟩;obtain⟨r,t,e⟩:=Y.al (l.getD i []) (Ca O);obtain⟨v,aB,N⟩:=F.row r t;have au:=Y.mx r t _ (Ca O) e.symm;have a4:uI r 0=uI v 0:=by rw[aB];rfl
   have a5:uI r 2=uI v 1:=by rw[aB];rfl
   obtain⟨j,K,ab⟩:=yK.1 N;have ag:l.getD j []=v:=by rw[AY,AF K];exact ab
   have V:=(C.2 j K (by rw[ag];omega)).1;rw[ag] at V;have an:v=l.getD i []:=ac _ _ N (Ca O) (by omega) (by omega);refine⟨r,t,?_⟩;unfold Da;have W:uB r 4=uB v 3:=by rw[aB];rfl
   rw[W,an,C.1,aB,an];simp
  .rintro⟨r,t,A⟩;obtain⟨v,aB,N⟩:=F.row r t;unfold Da at A;have W:uB r 4=uB v 3:=by rw[aB];rfl
   split at A
   .cases A
   .rename_i hn;have A:=Al.1 A;have bb:u=v:=by rw[A,aB];rfl
    have a4:uI r 0=uI v 0:=by rw[aB];rfl
    have a5:uI r 2=uI v 1:=by rw[aB];rfl
    have a8:∃i,i < l.length/\l.getD i []=v:=by
     obtain⟨j,K,ab⟩:=yK.1 N;exact⟨j,K,by rw[AY,AF K];exact ab⟩
    have ba:∃i,(i < l.length/\l.getD i []=v)/\∀k,k < i->¬l.getD k []=v:=by
     obtain⟨i,Z⟩:=a8;induction i using Nat.strongRecOn with
     |ind i ih=>
      by_cases o:∃k,k < i/\l.getD k []=v
      .obtain⟨k,k1,E⟩:=o;exact ih k k1 ⟨by omega,E⟩
      .exact⟨i,Z,fun k k1 E=>o ⟨k,k1,E⟩⟩
    obtain⟨i,⟨i1,T⟩,i3⟩:=ba;refine⟨i,i1,⟨?_,fun k hk e=>⟨?_,fun h=>i3 k h.2 (by rw[h.1,T])⟩⟩,by rw[T,bb]⟩
    .rw[T];rw[W] at hn;simpa using hn
    .rw[T] at e⊢;have:=Y.mx r t _ (Ca hk) (by omega);omega
theorem JN {l:List (List U)}:∀{n:Nat},(Dr l n).length<=n
 |0=>AE _
 |n+1=>by
  have:=JN (l:=l) (n:=n);unfold Dr;split
  .rw[AP];simp only[Ad,As];omega
  .omega
theorem s8 {n:Nat}(h:Xq l n):Dr l (n+1)=Dr l n++[l.getD n []]:=by rw[Dr,BH h]
theorem wJ {n:Nat}(h:¬Xq l n):Dr l (n+1)=Dr l n:=by rw[Dr,BG h]
theorem cS (h:Bc l=0):EZ l=true:=by
 unfold Bc at h;split at h
 .cases h
 .split at h
  .cases h
  .split at h
   .assumption
   .cases h
end
section
def Bv (l:List (List U))(s:ByteArray):Nat:=l.findIdx fun u=>decide (uS u 0=s)
def Bm (l:List (List U))(s:ByteArray):Int:=if Bv l s < l.length then (Bv l s:Int) else -1
variable{l P Q:List (List U)}{s:ByteArray}{i j w x:Nat}{a g d:Int}{I:Bool}
theorem Yi (h:∀j:Nat,j < l.length->¬uS (l.getD j []) 0=s):Bm l s= -1:=by
 unfold Bm;rw[BG];unfold Bv;rw[List.findIdx_lt_length];rintro⟨u,r,e⟩;obtain⟨j,o,rfl⟩:=yK.1 r;have:=h j o;rw[AY,AF o] at this;exact this (of_decide_eq_true e)
theorem ig (Z:i < l.length)(h:∀j:Nat,j < i->¬uS (l.getD j []) 0=s)(C:uS (l.getD i []) 0=s):Bm l s=i:=by
 have e:Bv l s=i:=by
  unfold Bv;rw[List.findIdx_eq Z];have g:∀j (o:j < l.length),l.getD j []=l[j]:=fun j o=>by rw[AY,AF o];rfl
  refine⟨?_,fun j o=>?_⟩
  .rw[<-g i Z];exact decide_eq_true C
  .have:=h j o;rw[g j (by omega)] at this;exact decide_eq_false this
 unfold Bm;rw[e,BH Z]
def Ju (u v:List U):Bool:=decide (uS u 0=uS v 0)&&decide (uI u 1=uI v 1)&&decide (uI u 2=uI v 2)
def Lz (a b:List (List U)):Bool:=decide (a.length=b.length)&&(List.range a.length).all fun j=>Ju (a.getD j []) (b.getD j [])
theorem gH {a:List (List U)}:Lz a a=true:=by
 unfold Lz;rw[AB,Ae];exact⟨by simp,fun j _=>by unfold Ju;simp⟩
theorem jx {a b:List (List U)}:Lz a b=true↔(a.length=b.length/\∀j:Nat,j < a.length->Ju (a.getD j []) (b.getD j [])=true):=by
 unfold Lz;rw[AB,decide_eq_true_eq,Ae];simp only[List.mem_range]
theorem TX {ah:List (List U)}:(Bq l i 0=Bq ah j 0/\BU l i 1=BU ah j 1/\BU l i 2=BU ah j 2)↔Ju (l.getD i []) (ah.getD j [])=true:=by
 unfold Ju;simp only[AB,decide_eq_true_eq,and_assoc];exact Iff.rfl
def DD (l:List (List U)):Prop:=∀p q:Nat,q < p->p < l.length->¬uS (l.getD p []) 0=uS (l.getD q []) 0
structure rF (l:List (List U)):Prop where
 row:∀r∈Cl l,∃s,r=[U.str s,U.bool true]
 has:∀s,Bz 1 (Cl l) [.str s] < (Cl l).length↔∃v∈l,uS v 0=s
theorem oH {u:List U}(h:rF l):rF (l++[u])/\((Cl (l++[u])).length=(Cl l).length+(if∃v∈l,uS v 0=uS u 0 then 0 else 1)):=by
 have K:∀(s A:ByteArray),Ce (([U.str s,U.bool true]:List U).take 1) [.str A]=true↔s=A:=fun s A=>by
  show Ce [U.str s] [U.str A]=true↔_;simp[Ce,U.eqv]
 by_cases Z:Bz 1 (Cl l) [.str (uS u 0)] < (Cl l).length
 .have E:=(h.has _).1 Z;have O:Ce (((Cl l)[Bz 1 (Cl l) [.str (uS u 0)]]'Z).take 1) [.str (uS u 0)]=true:=List.findIdx_getElem (w:=Z);obtain⟨s,ac⟩:=h.row _ (yM Z);rw[ac,K] at O;have e:Cl (l++[u])=Cl l:=by
   rw[PP];unfold U0 Cb;rw[decide_eq_true Z,cond_true];show (Cl l).set (Bz 1 (Cl l) [.str (uS u 0)]) [U.str (uS u 0),U.bool true]=Cl l;rw[<-O,<-ac,O];exact List.set_getElem_self Z
  rw[e,BH E];refine⟨⟨by rw[e];exact h.row,fun A=>?_⟩,rfl⟩;rw[e,h.has];constructor
  .rintro⟨v,o,t⟩;exact⟨v,AU _ o,t⟩
  .rintro⟨v,o,t⟩;rcases Ap.1 o with o|o
   .exact⟨v,o,t⟩
   .rw[Al.1 o] at t;obtain⟨T,N,M⟩:=E;exact⟨T,N,M.trans t⟩
 .have E:¬ ∃v∈l,uS v 0=uS u 0:=fun a=>Z ((h.has _).2 a);have e:Cl (l++[u])=Cl l++[[U.str (uS u 0),U.bool true]]:=by
   rw[PP];unfold U0 Cb;rw[decide_eq_false Z,cond_false];rfl
  rw[e,BG E];refine⟨⟨by rw[e];exact fun r z=>(Ap.1 z).elim (h.row r) (fun a=>⟨_,Al.1 a⟩),fun A=>?_⟩,by simp⟩;have F:=h.has A;unfold Bz at F⊢;rw[List.findIdx_lt_length] at F⊢;rw[e];constructor
  .rintro⟨r,z,C⟩;rcases Ap.1 z with z|z
   .obtain⟨v,o,t⟩:=F.1 ⟨r,z,C⟩;exact⟨v,AU _ o,t⟩
   .rw[Al.1 z,K] at C;exact⟨u,AO _ (Al.2 rfl),C⟩
  .rintro⟨v,o,t⟩;rcases Ap.1 o with o|o
   .obtain⟨r,z,C⟩:=F.2 ⟨v,o,t⟩;exact⟨r,AU _ z,C⟩
   .rw[Al.1 o] at t;exact⟨_,AO _ (Al.2 rfl),(K _ _).2 t⟩
theorem YP {l:List (List U)}:∀n:Nat,n<=l.length->rF (l.take n)/\(DD (l.take n)↔(Cl (l.take n)).length=n)
 |0,_=>⟨⟨fun r W=>by simp[Cl] at W,fun s=>by simp[Cl,Bz]⟩,⟨fun _=>by simp[Cl],fun _ p q _ o=>by simp at o⟩⟩
 |n+1,h=>by
  obtain⟨O,C⟩:=YP (l:=l) n (by omega);obtain⟨Z,E⟩:=oH (u:=l.getD n []) O;rw[D6 (by omega)];refine⟨Z,?_⟩;rw[E];have z:(l.take n).length=n:=by rw[Ao];omega
  have V:=Ql (l:=l.take n);rw[z] at V;have t:∀p,p < n->((l.take n)++[l.getD n []]).getD p []=(l.take n).getD p []:=fun p o=>by
   rw[AY,AR (by omega),<-AY]
  have a3:((l.take n)++[l.getD n []]).getD n []=l.getD n []:=by
   rw[AY,AS (by omega),z];simp
  constructor
  .intro hd;have F:DD (l.take n):=fun p q A o=>by
    rw[z] at o;have:=hd p q A (by rw[AP,z];simp only[Ad,As];omega);rw[t p o,t q (by omega)] at this;exact this
   rw[C.1 F,BG];rintro⟨v,Y,e⟩;obtain⟨j,T,rfl⟩:=yK.1 Y;have N:j < n:=by omega
   have:=hd n j N (by rw[AP,z];simp);rw[a3,t j N,AY,AY (l:=l.take n),AF T] at this;exact this (by rw[AY] at e;exact e.symm)
  .intro M;by_cases K:∃v∈l.take n,uS v 0=uS (l.getD n []) 0
   .rw[BH K] at M;omega
   .rw[BG K] at M;have F:=C.2 (by omega);intro p q A o;rw[AP,z] at o;simp only[Ad,As] at o;by_cases e:p=n
    .subst e;rw[a3,t q A];exact fun a=>K ⟨_,Ca (by omega),a.symm⟩
    .rw[t p (by omega),t q (by omega)];exact F p q A (by omega)
theorem Sn :(Cl l).length < l.length↔¬DD l:=by
 have:=(YP (l:=l) l.length (AE _)).2;rw[BD] at this;have h:=Ql (l:=l);rw[this];omega
def DR (P:List (List U))(i:Nat)(a g:Int):List (List U):=P.set i [.str (Bq P i 0),.int a,.int g]
def Dq (P:List (List U))(i:Nat)(d:Int):List (List U):=DR P i (B9 (BU P i 1) d) (Cz (B9 (BU P i 1) d) (BU P i 2))
def FI (P:List (List U))(w x:Nat)(I:Bool):List (List U):=
 Dq (Dq P w (CJ (BU P w 1) (BU P x 1) I)) x (-CJ (BU P w 1) (BU P x 1) I)
theorem rowP (h:∀u∈P,Bb BT KP u)(Z:i < P.length):P.getD i []=[.str (Bq P i 0),.int (BU P i 1),.int (BU P i 2)]:=by
 have e:P.getD i []=P[i]:=by rw[AY,AF Z];rfl
 have:=pS (h P[i] (yM Z));unfold Bq BU;rw[e];exact this.symm
theorem qv :(DR P i a g).length=P.length:=by unfold DR;simp
theorem UZ (Z:i < P.length):(DR P i a g).getD i []=[.str (Bq P i 0),.int a,.int g]:=by
 unfold DR;rw[AY,yP];simp[Z]
theorem kZ (h:¬j=i):(DR P i a g).getD j []=P.getD j []:=by
 unfold DR;rw[AY,yP,BG (fun e=>h e.symm),AY]
theorem SV (Z:i < P.length):BU (DR P i a g) i 1=a:=by
 show ((_:List U).getD 1 default).toI=_;rw[UZ Z];rfl
theorem PZ (Z:i < P.length):BU (DR P i a g) i 2=g:=by
 show ((_:List U).getD 2 default).toI=_;rw[UZ Z];rfl
theorem set1 (h:∀u∈P,Bb BT KP u)(Z:i < P.length):E7 P i 1 [.int a]=DR P i a (BU P i 2):=by
 unfold E7 DR;rw[rowP h Z];rfl
theorem mK (Z:i < P.length){k:Int}:E7 (DR P i a g) i 2 [.int k]=DR P i a k:=by
 show (DR P i a g).set i _=_;rw[UZ Z];show (P.set i _).set i [.str (Bq P i 0),.int a,.int k]=_;rw[List.set_set];rfl
theorem Vd :(Dq P i d).length=P.length:=qv
theorem Kp (h:¬j=i):(Dq P i d).getD j []=P.getD j []:=kZ h
theorem Fv {c:Nat}(h:P.getD i []=Q.getD j []):BU P i c=BU Q j c:=by unfold BU;rw[h]
def aG (a b:ByteArray):Int:=Lib.compareBytes a.data.toList b.data.toList
theorem im:∀(a b:List UInt8),-1<=Lib.compareBytes a b/\Lib.compareBytes a b<=1
 |[],[]=>by decide
 |[],_::_=>by simp[Lib.compareBytes]
 |_::_,[]=>by simp[Lib.compareBytes]
 |a::al,b::bl=>by
  simp only[Lib.compareBytes];split
  .exact⟨Aw _,by decide⟩
  .split
   .exact⟨by decide,Aw _⟩
   .exact im al bl
theorem uq (a b:ByteArray): -1<=aG a b/\aG a b<=1:=im _ _
def Db {aW:Type}(f:Nat->aW->aW):Nat->aW->aW
 |0,x=>x
 |n+1,x=>f n (Db f n x)
theorem Ya {aW:Type}{f:Nat->aW->aW}{x:aW}(p:Nat->aW->Prop)(h:p 0 x)(ac:∀n y,p n y->p (n+1) (f n y)):∀n,p n (Db f n x)
 |0=>h
 |n+1=>ac n _ (Ya p h ac n)
def MG (P:List (List U))(i:Nat)(m:List (List U)):List (List U):=Cb 1 m [.str (Bq P i 0)] [.int i]
def CE (P:List (List U)):List (List U):=Db (MG P) P.length []
def MK (m:List (List U))(s:ByteArray):Prop:=Bz 1 m [.str s] < m.length
instance (m:List (List U))(s:ByteArray):Decidable (MK m s):=by unfold MK;infer_instance
def Fs (m:List (List U))(s:ByteArray):Int:=(EB 1 0 m (.int 0) [.str s]).toI
def rD (B:List (List U))(k:Nat):List U:=[.int (BU B k 0),.int (BU B k 1),.int (BU B k 2),.bool (DW B k 3),.str (Bq B k 4),.str (Bq B k 5),.bool (DW B k 6),.int (BU B k 7),.int (BU B k 8)]
def C9 (M B:List (List U))(k:Nat)(g:List (List U)):List (List U):=if MK M (Bq B k 4)/\MK M (Bq B k 5) then g++[rD B k] else g
def Fg (M B:List (List U)):List (List U):=Db (C9 M B) B.length []
def stF0 (P:List (List U))(k:Nat)(s:List (List U)):List (List U):=E7 s k 0 [.str (Bq P k 0)]
def st0 (P:List (List U)):List (List U):=Db (stF0 P) P.length (List.replicate P.length [.str ByteArray.empty,.int 0,.int 0,.int 0,.int 0,.int 0])
def uJ (a b:Int)(G:List (List U))(k:Nat):Prop:=a<=BU G k 2/\BU G k 2 < b
instance (a b:Int)(G:List (List U))(k:Nat):Decidable (uJ a b G k):=by unfold uJ;infer_instance
theorem eL {aW:Type}{f:Nat->List aW->List aW}(h:∀k g,(f k g).length<=g.length+1)(n:Nat):(Db f n []).length<=n:=
 Ya (p:=fun n (g:List aW)=>g.length<=n) (by simp) (fun n g o=>by have:=h n g;omega) n
theorem On {M B:List (List U)}(n:Nat):(Db (C9 M B) n []).length<=n:=eL (fun k g=>by unfold C9;split<;>simp) n
theorem iE (n:Nat):(Db (MG P) n []).length<=n:=eL (fun k g=>MZ) n
theorem Jg {L:List (List U)}:(CH L).length<=L.length:=by
 unfold CH;rw[DY];have O:∀m:List (List U),(m.flatMap Da).length<=m.length:=by
  intro m;induction m with
  |nil=>simp
  |cons r m o=>
   rw[List.flatMap_cons,AP,Ad];have:(Da r).length<=1:=by unfold Da;split<;>simp
   omega
 have C:∀(l m:List (List U)),(l.foldl I5 m).length<=m.length+l.length:=by
  intro l;induction l with
  |nil=>intro m;simp
  |cons u l o=>
   intro m;rw[List.foldl_cons,Ad];have h:(I5 m u).length<=m.length+1:=by
    unfold I5;split
    .exact MZ
    .omega
   have:=o (I5 m u);omega
 have:=O (CI L);have h:=C L [];unfold CI at*;simp at h;omega
def upK {aW:Type}(f:aW->List U->aW)(L:List (List U)):Nat->aW->aW
 |0,x=>x
 |n+1,x=>f (upK f L n x) (L.getD n [])
theorem bI {aW:Type}{f:aW->List U->aW}{u:List U}{L:List (List U)}{x:aW}:∀n,upK f (u::L) (n+1) x=upK f L n (f x u)
 |0=>rfl
 |n+1=>by
  show f (upK f (u::L) (n+1) x) (L.getD n [])=f (upK f L n (f x u)) (L.getD n []);rw[bI n]
theorem Jd {aW:Type}{f:aW->List U->aW}:∀(L:List (List U)) (x:aW),upK f L L.length x=L.foldl f x
 |[],x=>rfl
 |u::L,x=>by rw[Ad,bI,Jd L];rfl
theorem Dd (h:i < P.length):P.getD i []=P[i]:=by rw[AY,AF h];rfl
def nmL (P:List (List U)):List ByteArray:=P.map fun u=>uS u 0
theorem aE :(nmL P).length=P.length:=by unfold nmL;simp
theorem nD (h:i < P.length):(nmL P)[i]? =some (Bq P i 0):=by
 unfold nmL Bq;rw[Aj,AF h,Dd h];rfl
theorem qM :nmL (DR P i a g)=nmL P:=by
 unfold DR;rcases AQ i P.length with h|h
 .have e:=nD h;unfold nmL at*;rw[List.map_set];show (P.map _).set i (Bq P i 0)=_;refine List.ext_getElem? fun j=>?_;rw[yP];split
  .rename_i o;subst o;rw[BH (by simpa using h),e]
  .rfl
 .rw[List.set_eq_of_length_le h]
theorem uP :nmL (FI P w x I)=nmL P:=by unfold FI Dq;rw[qM,qM]
theorem Uh :Bv P s=(nmL P).findIdx fun t=>decide (t=s):=by
 unfold Bv nmL;rw[List.findIdx_map];rfl
theorem sD (h:nmL P=nmL Q)(s:ByteArray):Bv P s=Bv Q s:=by rw[Uh,Uh,h]
theorem DG (h:nmL P=nmL Q):P.length=Q.length:=by rw[<-aE,h,aE]
theorem P7 (h:nmL P=nmL Q)(s:ByteArray):Bm P s=Bm Q s:=by
 unfold Bm;rw[sD h,DG h]
theorem ai (h:Bv P s < P.length):Bq P (Bv P s) 0=s:=by
 have:=List.findIdx_getElem (xs:=P) (p:=fun u=>decide (uS u 0=s)) (w:=h);unfold Bq;rw[Dd h];exact of_decide_eq_true this
theorem FE :¬Bm P s < 0↔Bv P s < P.length:=by
 unfold Bm;split<;>omega
theorem Hi (h:Bv P s < P.length):Bm P s=Bv P s:=by unfold Bm;rw[BH h]
theorem EN : -1<=Bm P s/\Bm P s < P.length:=by unfold Bm;split<;>omega
theorem FD {t:ByteArray}(h:Bv P s < P.length)(C:Bv P t < P.length)(o:¬s=t):¬Bv P s=Bv P t:=fun e=>o (by rw[<-ai h,<-ai C,e])
theorem WS {P:List (List U)}(hd:DD P):∀n,n<=P.length->Db (MG P) n []=(List.range n).map fun j=>[U.str (Bq P j 0),U.int j]
 |0,_=>rfl
 |n+1,h=>by
  show MG P n (Db (MG P) n [])=_;rw[WS hd n (by omega),List.range_succ,AL];unfold MG Cb;have A:Bz 1 ((List.range n).map fun j=>[U.str (Bq P j 0),U.int j]) [.str (Bq P n 0)]=n:=by
   have:¬Bz 1 ((List.range n).map fun j=>[U.str (Bq P j 0),U.int j]) [.str (Bq P n 0)] < ((List.range n).map fun j=>[U.str (Bq P j 0),U.int j]).length:=fun t=>by
    unfold Bz at t;rw[List.findIdx_lt_length] at t;obtain⟨r,E,e⟩:=t;obtain⟨j,o,rfl⟩:=BL.1 E;have o:=List.mem_range.1 o;have z:Bq P j 0=Bq P n 0:=by
     have:Ce [U.str (Bq P j 0)] [.str (Bq P n 0)]=true:=e;simpa [Ce,U.eqv] using this
    exact hd n j o (by omega) z.symm
   have C:Bz 1 ((List.range n).map fun j=>[U.str (Bq P j 0),U.int j]) [.str (Bq P n 0)]<=((List.range n).map fun j=>[U.str (Bq P j 0),U.int j]).length:=List.findIdx_le_length;simp only[List.length_map,List.length_range] at this C;omega
  rw[A];simp
theorem qB (hd:DD P):Bz 1 (CE P) [.str s]=Bv P s:=by
 unfold CE;rw[WS hd _ (AE _)];unfold Bz;rw[List.findIdx_map,Uh];have e:nmL P=(List.range P.length).map fun j=>Bq P j 0:=by
  refine List.ext_getElem? fun j=>?_;rcases AQ j P.length with h|h
  .rw[nD h];simp[h]
  .rw[Ai (by rw[aE];exact h),Ai (by simpa using h)]
 rw[e,List.findIdx_map];congr 1;funext j;show Ce [U.str (Bq P j 0)] [.str s]=decide (Bq P j 0=s);simp[Ce,U.eqv]
theorem WT (hd:DD P):(CE P).length=P.length:=by unfold CE;rw[WS hd _ (AE _)];simp
theorem GB (hd:DD P):MK (CE P) s↔Bv P s < P.length:=by
 unfold MK;rw[qB hd,WT hd]
theorem CO (hd:DD P)(h:Bv P s < P.length):Fs (CE P) s=Bv P s:=by
 unfold Fs EB;rw[qB hd,WT hd,decide_eq_true h];have:(CE P).getD (Bv P s) []=[U.str (Bq P (Bv P s) 0),U.int (Bv P s)]:=by
  unfold CE;rw[WS hd _ (AE _),AY];simp[h]
 rw[this];rfl
def OkR (P:List (List U)):Prop:=∀i,i < P.length-> -10000<=BU P i 1/\BU P i 1<=10000/\ -12<=BU P i 2/\BU P i 2<=48
theorem uL (h:OkR P):OkR (Dq P i d):=fun j o=>by
 rw[Vd] at o;by_cases e:j=i
 .subst e;have:=h j o;have a:=sO (BU P j 1) d;have b:=uG (x:=B9 (BU P j 1) d) this.2.2.1 this.2.2.2;unfold Dq;rw[SV o,PZ o];omega
 .rw[Fv (c:=1) (Kp e),Fv (c:=2) (Kp e)];exact h j o
theorem uM (h:OkR P):OkR (FI P w x I):=uL (uL h)
def GI (P:List (List U)):Prop:=∀u∈P,u.length=3
theorem mm (h:GI P):GI (Dq P i d):=fun u o=>by
 unfold Dq DR at o;rcases List.mem_or_eq_of_mem_set o with O|O
 .exact h u O
 .rw[O];rfl
theorem xc (h:GI P):GI (FI P w x I):=mm (mm h)
theorem Nm (h:BW P=0):OkR P/\DD P/\P.length<=24:=by
 unfold BW at h;split at h
 .omega
 split at h
 .omega
 split at h
 .omega
 rename_i O C o;have C:=Ae.1 (At C);refine⟨fun i Z=>?_,Classical.not_not.1 fun e=>o (Sn.2 e),by omega⟩;have:=C _ (yM Z);unfold Dk at this;rw[G9] at this;have e:∀c,BU P i c=uI P[i] c:=fun c=>by unfold BU;rw[Dd Z];rfl
 rw[e,e];omega
def ctU (M:List (List U))(s:List (List U))(u:List U):List (List U):=FI s (Fs M (uS u 4)).toNat (Fs M (uS u 5)).toNat (uB u 6)
def rfU (s:List (List U))(u:List U):List (List U):=
 if Bm s (uS u 4) < 0\/Bm s (uS u 5) < 0 then s else FI s (Bm s (uS u 4)).toNat (Bm s (uS u 5)).toNat (uB u 6)
def MX (P:List (List U))(u:List U):Prop:=Bv P (uS u 4) < P.length/\Bv P (uS u 5) < P.length/\¬uS u 4=uS u 5
theorem Mo {P B:List (List U)}(hd:DD P)(r:∀u∈B,¬uS u 4=uS u 5):∀n,n<=B.length->∀u∈Db (C9 (CE P) B) n [],MX P u
 |0,_,u,o=>by cases o
 |n+1,h,u,o=>by
  have o:u∈C9 (CE P) B n (Db (C9 (CE P) B) n []):=o;unfold C9 at o;split at o
  .rename_i t;rcases Ap.1 o with O|O
   .exact Mo hd r n (by omega) u O
   .rw[Al.1 O];refine⟨(GB hd).1 t.1,(GB hd).1 t.2,?_⟩;have:=r _ (yM (show n < B.length by omega));show¬Bq B n 4=Bq B n 5;unfold Bq;rw[Dd (by omega)];exact this
  .exact Mo hd r n (by omega) u o
theorem IF {M G P:List (List U)}:∀n,nmL (upK (ctU M) G n P)=nmL P
 |0=>rfl
 |n+1=>uP.trans (IF n)
theorem GK {M G P:List (List U)}(h:OkR P):∀n,OkR (upK (ctU M) G n P)
 |0=>h
 |n+1=>uM (GK h n)
theorem HM {B P:List (List U)}:∀n,nmL (upK rfU B n P)=nmL P
 |0=>rfl
 |n+1=>by
  have e:∀s u,nmL (rfU s u)=nmL s:=fun s u=>by unfold rfU;split;rfl;exact uP
  exact (e _ _).trans (HM n)
theorem IS {B P:List (List U)}(h:OkR P):∀n,OkR (upK rfU B n P)
 |0=>h
 |n+1=>by
  show OkR (rfU _ _);unfold rfU;split
  .exact IS h n
  .exact uM (IS h n)
theorem IW {B P:List (List U)}(h:GI P):∀n,GI (upK rfU B n P)
 |0=>h
 |n+1=>by
  show GI (rfU _ _);unfold rfU;split
  .exact IW h n
  .exact xc (IW h n)
theorem uQ {P B:List (List U)}(hd:DD P):∀n,(Db (C9 (CE P) B) n []).foldl (ctU (CE P)) P=upK rfU B n P
 |0=>rfl
 |n+1=>by
  have A:=uQ (B:=B) hd n;show (C9 (CE P) B n _).foldl _ P=rfU (upK rfU B n P) (B.getD n []);have r:=P7 (HM (B:=B) (P:=P) n) (Bq B n 4);have t:=P7 (HM (B:=B) (P:=P) n) (Bq B n 5);by_cases o:MK (CE P) (Bq B n 4)/\MK (CE P) (Bq B n 5)
  .have C:=(GB hd).1 o.1;have E:=(GB hd).1 o.2;have F:=Hi C;have K:=Hi E;rw[show C9 (CE P) B n (Db (C9 (CE P) B) n [])=Db (C9 (CE P) B) n []++[rD B n] from BH o,List.foldl_append,A];refine Eq.trans ?_ (BG (by show¬(Bm (upK rfU B n P) (Bq B n 4) < 0\/Bm (upK rfU B n P) (Bq B n 5) < 0);rw[r,t,F,K];omega)).symm;show FI (upK rfU B n P) (Fs (CE P) (Bq B n 4)).toNat (Fs (CE P) (Bq B n 5)).toNat (DW B n 6)=FI (upK rfU B n P) (Bm (upK rfU B n P) (Bq B n 4)).toNat (Bm (upK rfU B n P) (Bq B n 5)).toNat (DW B n 6);rw[r,t,F,K,CO hd C,CO hd E]
  .rw[show C9 (CE P) B n (Db (C9 (CE P) B) n [])=Db (C9 (CE P) B) n [] from BG o,A];refine (BH ?_).symm;show Bm (upK rfU B n P) (Bq B n 4) < 0\/Bm (upK rfU B n P) (Bq B n 5) < 0;rw[r,t];rw[GB hd,GB hd] at o;rcases AQ (Bv P (Bq B n 4)) P.length with z|z
   .right;have M:¬Bv P (Bq B n 5) < P.length:=fun h=>o ⟨z,h⟩;exact At fun e=>M (FE.1 e)
   .left;exact At fun e=>by have:=FE.1 e;omega
theorem UN {L:List (List U)}(h:Bc L=0):∀u∈CH L,¬uS u 4=uS u 5:=fun u t=>by
 have A:u∈L:=by
  unfold CH at t;rw[N5] at t;obtain⟨r,F,O⟩:=List.mem_flatMap.1 t;obtain⟨v,K,E⟩:=(JT (l:=L)).row r F;unfold Da at O;split at O
  .cases O
  .rw[K] at O;have:u=v:=by simpa using O
   rw[this];exact E
 unfold Bc at h;split at h
 .omega
 split at h
 .omega
 rename_i C;have o:=Ae.1 (At C) u A;unfold Ed Gw at o;have o:=of_decide_eq_true o;split at o
 .rename_i z;simp only[AB,Bool.not_eq_true',decide_eq_false_iff_not] at z;exact z.1.1.1.2
 .omega
def FP (P L:List (List U)):List (List U):=(CH L).foldl rfU P
theorem gS {L:List (List U)}(hd:DD P):upK (ctU (CE P)) (Fg (CE P) (CH L)) (Fg (CE P) (CH L)).length P=FP P L:=by
 rw[Jd];unfold Fg FP;rw[uQ hd,Jd]
theorem wY (z:GI P)(A:w < P.length)(C:x < P.length)(t:¬w=x)(r:g=CJ (BU P w 1) (BU P x 1) I):
  E7 (E7 P w 0 [.str (Bq P w 0),.int (B9 (BU P w 1) g),.int (Cz (B9 (BU P w 1) g) (BU P w 2))]) x 0 [.str (Bq P x 0),.int (B9 (BU P x 1) (-g)),.int (Cz (B9 (BU P x 1) (-g)) (BU P x 2))]=FI P w x I:=by
 have l:∀i,i < P.length->(P.getD i []).length=3:=fun i Z=>by rw[Dd Z];exact z _ (yM Z)
 have o:E7 P w 0 [.str (Bq P w 0),.int (B9 (BU P w 1) g),.int (Cz (B9 (BU P w 1) g) (BU P w 2))]=Dq P w g:=NU (l w A);have h:(Dq P w g).getD x []=P.getD x []:=Kp (fun e=>t e.symm);rw[o,NU (by rw[h];exact l x C)];unfold FI;rw[<-r];have aN:Bq (Dq P w g) x 0=Bq P x 0:=by unfold Bq;rw[h]
 show _=DR (Dq P w g) x (B9 (BU (Dq P w g) x 1) (-g)) (Cz (B9 (BU (Dq P w g) x 1) (-g)) (BU (Dq P w g) x 2));rw[Fv (c:=1) h,Fv (c:=2) h];unfold DR;rw[aN]
def hsR (one:Int)(q:List (List U) × List (List U))(u:List U):List (List U) × List (List U):=
 if Bm q.1 (uS u 4) < 0\/Bm q.1 (uS u 5) < 0 then q else
  (FI q.1 (Bm q.1 (uS u 4)).toNat (Bm q.1 (uS u 5)).toNat (uB u 6),
   if Bm q.1 (uS u 4)=one\/Bm q.1 (uS u 5)=one then q.2++[[.int (BU (FI q.1 (Bm q.1 (uS u 4)).toNat (Bm q.1 (uS u 5)).toNat (uB u 6)) one.toNat 1)]] else q.2)
theorem IP {one:Int}{B:List (List U)}{P h:List (List U)}:∀n,(upK (hsR one) B n (P,h)).1=upK rfU B n P
 |0=>rfl
 |n+1=>by
  have e:∀q u,(hsR one q u).1=rfU q.1 u:=fun q u=>by unfold hsR rfU;split<;>rfl
  show (hsR one _ _).1=rfU _ _;rw[e,IP n]
def hsP (M:List (List U))(f:ByteArray)(i:Int)(q:List (List U) × List (List U))(u:List U):List (List U) × List (List U):=
 (ctU M q.1 u,if uS u 4=f\/uS u 5=f then q.2++[[.int (BU (ctU M q.1 u) i.toNat 1)]] else q.2)
theorem OP {M G:List (List U)}{f:ByteArray}{i:Int}{P h:List (List U)}:∀n,(upK (hsP M f i) G n (P,h)).1=upK (ctU M) G n P
 |0=>rfl
 |n+1=>by
  show ctU M _ _=ctU M _ _;rw[OP n]
theorem uH {P B h:List (List U)}(hd:DD P){f:ByteArray}(o:Bv P f < P.length):∀n,(Db (C9 (CE P) B) n []).foldl (hsP (CE P) f (Fs (CE P) f)) (P,h)=upK (hsR (Bm P f)) B n (P,h)
 |0=>rfl
 |n+1=>by
  have M:=uH (B:=B) (h:=h) hd o n;show (C9 (CE P) B n _).foldl _ (P,h)=hsR _ (upK (hsR (Bm P f)) B n (P,h)) (B.getD n []);have aR:nmL (upK (hsR (Bm P f)) B n (P,h)).1=nmL P:=by rw[IP];exact HM n
  have A:=P7 aR (Bq B n 4);have C:=P7 aR (Bq B n 5);by_cases r:MK (CE P) (Bq B n 4)/\MK (CE P) (Bq B n 5)
  .have t:=(GB hd).1 r.1;have z:=(GB hd).1 r.2;have T:=Hi t;have V:=Hi z;rw[show C9 (CE P) B n (Db (C9 (CE P) B) n [])=Db (C9 (CE P) B) n []++[rD B n] from BH r,List.foldl_append,M];generalize upK (hsR (Bm P f)) B n (P,h)=q at A C⊢;have E:Bm q.1 (uS (B.getD n []) 4)=Fs (CE P) (Bq B n 4):=by rw[CO hd t,<-T];exact A
   have F:Bm q.1 (uS (B.getD n []) 5)=Fs (CE P) (Bq B n 5):=by rw[CO hd z,<-V];exact C
   have N:Bm P f=Fs (CE P) f:=by rw[CO hd o,Hi o]
   refine Eq.trans ?_ (BG (by rw[E,F,CO hd t,CO hd z];omega)).symm;rw[E,F,N];have W:Fs (CE P) (Bq B n 4)=Fs (CE P) f↔Bq B n 4=f:=by
    rw[CO hd t,CO hd o];exact⟨fun e=>Classical.not_not.1 fun a=>FD t o a (by omega),fun e=>by rw[e]⟩
   have Y:Fs (CE P) (Bq B n 5)=Fs (CE P) f↔Bq B n 5=f:=by
    rw[CO hd z,CO hd o];exact⟨fun e=>Classical.not_not.1 fun a=>FD z o a (by omega),fun e=>by rw[e]⟩
   exact Prod.ext rfl (ite_congr (propext (or_congr W.symm Y.symm)) (fun _=>rfl) (fun _=>rfl))
  .rw[show C9 (CE P) B n (Db (C9 (CE P) B) n [])=Db (C9 (CE P) B) n [] from BG r,M];refine (BH ?_).symm;show Bm _ (Bq B n 4) < 0\/Bm _ (Bq B n 5) < 0;rw[A,C];rw[GB hd,GB hd] at r;rcases AQ (Bv P (Bq B n 4)) P.length with K|K
   .right;have O:¬Bv P (Bq B n 5) < P.length:=fun h=>r ⟨K,h⟩;exact At fun e=>O (FE.1 e)
   .left;exact At fun e=>by have:=FE.1 e;omega
def hsS (P L:List (List U))(one:Int):List (List U) × List (List U):=(CH L).foldl (hsR one) (P,if 0<=one then [[.int (BU P one.toNat 1)]] else [])
theorem pz {L:List (List U)}(hd:DD P){f:ByteArray}(h:Bv P f < P.length):
  (upK (hsP (CE P) f (Fs (CE P) f)) (Fg (CE P) (CH L)) (Fg (CE P) (CH L)).length (P,[[.int (BU P (Fs (CE P) f).toNat 1)]])).2=(hsS P L (Bm P f)).2:=by
 rw[Jd];unfold Fg hsS;rw[uH hd h,Jd,Hi h,CO hd h,BH (by omega)]
theorem XR {one:Int}{B:List (List U)}{q:List (List U) × List (List U)}:∀n,(upK (hsR one) B n q).2.length<=n+q.2.length
 |0=>by show q.2.length<=_;omega
 |n+1=>by
  have e:∀q u,(hsR one q u).2.length<=q.2.length+1:=fun q u=>by
   unfold hsR;split
   .omega
   .show (if _ then _ else _:List (List U)).length<=_;split
    .simp
    .omega
  have:=e (upK (hsR one) B n q) (B.getD n []);have h:=XR (one:=one) (B:=B) (q:=q) n;show (hsR one _ _).2.length<=_;omega
theorem iT {M G:List (List U)}{f:ByteArray}{i:Int}{q:List (List U) × List (List U)}:∀n,(upK (hsP M f i) G n q).2.length<=n+q.2.length
 |0=>by show q.2.length<=_;omega
 |n+1=>by
  have e:∀q u,(hsP M f i q u).2.length<=q.2.length+1:=fun q u=>by
   show (if _ then _ else _:List (List U)).length<=_;split
   .simp
   .omega
  have:=e (upK (hsP M f i) G n q) (G.getD n []);have h:=iT (M:=M) (G:=G) (f:=f) (i:=i) (q:=q) n;show (hsP M f i _ _).2.length<=_;omega
theorem Q7 {b:Int}(h:(if¬a=0 then a else b)=0):a=0/\b=0:=by
 by_cases e:a=0
 .rw[BG (fun k=>k e)] at h;exact⟨e,h⟩
 .rw[BH e] at h;exact absurd h e
theorem dF {L:List (List U)}(h:(if¬BW P=0 then BW P else Bc L)=0)(o:L.length<=40\/200 < L.length):BW P=0/\Bc L=0/\L.length<=40:=by
 obtain⟨a,b⟩:=Q7 h;have:=Mp b;exact⟨a,b,by omega⟩
theorem sC {L:List (List U)}{one:Int}:(hsS P L one).2.length<=L.length+1:=by
 unfold hsS;rw[<-Jd];have h:=XR (one:=one) (B:=CH L) (q:=(P,if 0<=one then [[.int (BU P one.toNat 1)]] else [])) (CH L).length;have o:=Jg (L:=L);have:(if 0<=one then [[.int (BU P one.toNat 1)]] else []:List (List U)).length<=1:=by split<;>simp
 replace h:_<=(CH L).length+(if 0<=one then [[.int (BU P one.toNat 1)]] else []:List (List U)).length:=h;omega
theorem Qj {L:List (List U)}(h:¬HL P L 40=true):L.length<=40\/200 < L.length:=by
 by_cases o:L.length<=40
 .exact .inl o
 .right;refine Nat.lt_of_not_le fun C=>h ?_;unfold HL;have a:decide ((40:Int) < L.length)=true:=decide_eq_true (by omega);have b:decide (L.length<=200)=true:=decide_eq_true C;simp[a,b]
theorem wH {c:Prop} [Decidable c] {a:List (List U)}{n:Nat}(h:a.length<=n):(if c then a else []).length<=n:=by
 split
 .exact h
 .exact Ak _
end
section
open Go Go.Proofs
def Ri (c:Code)(k:Nat):Oper:=match c with
 | .seq (.region _ aa _) _=>aa[k]!
 | .region _ aa _=>aa[k]!
 |_=>default
def Z9:Code->Nat
 | .seq (.region i _ _) _=>i
 | .region i _ _=>i
 |_=>0
def Xf (aE:Func)(st e:TypeId):ClC:=
 match aE.body.getD .skip with
 | .seq aN (.seq (.seq aS (.cond _ c2 _)) c3)=>{ o0:=Ri aN 0,o1:=Ri aS 0,o2:=Ri aS 1,p:=Ri c2 0,o5:=Ri c3 0,o6:=Ri c3 1,o7:=Ri c3 2,o8:=Ri c3 3,st,e,r0:=Z9 aN,r1:=Z9 aS,r2:=Z9 c2,r3:=Z9 c3 }
 |_=>⟨default,default,default,default,default,default,default,default,st,e,0,0,0,0⟩
def Gy:List (FuncId × TypeId):=[(119,35),(106,56),(104,34)]
theorem su:(Xf Try.f119 35 38).Ok Try.prog 119 Try.f119:=by refine ⟨Try.func119,?_,?_,?_,?_,⟨⟨.const (.slice none 0 0),?_⟩,?_,?_⟩,⟨?_,?_,?_⟩,⟨⟨35,?_⟩,?_,?_⟩,⟨?_,?_,?_⟩,⟨?_,?_,?_⟩,⟨?_,?_,?_⟩,⟨?_,?_,?_⟩,⟨?_,?_,?_⟩,?_⟩<;>kernel_rfl
theorem sK:(Xf Try.f106 56 61).Ok Try.prog 106 Try.f106:=by refine ⟨Try.func106,?_,?_,?_,?_,⟨⟨.const (.slice none 0 0),?_⟩,?_,?_⟩,⟨?_,?_,?_⟩,⟨⟨56,?_⟩,?_,?_⟩,⟨?_,?_,?_⟩,⟨?_,?_,?_⟩,⟨?_,?_,?_⟩,⟨?_,?_,?_⟩,⟨?_,?_,?_⟩,?_⟩<;>kernel_rfl
theorem qr:(Xf Try.f104 34 23).Ok Try.prog 104 Try.f104:=by refine ⟨Try.func104,?_,?_,?_,?_,⟨⟨.const (.slice none 0 0),?_⟩,?_,?_⟩,⟨?_,?_,?_⟩,⟨⟨34,?_⟩,?_,?_⟩,⟨?_,?_,?_⟩,⟨?_,?_,?_⟩,⟨?_,?_,?_⟩,⟨?_,?_,?_⟩,⟨?_,?_,?_⟩,?_⟩<;>kernel_rfl
theorem FU:Nk Try.prog Gy:=by
 unfold Nk Gy;simp only[AW];exact⟨⟨_,_,su,rfl⟩,⟨_,_,sK,rfl⟩,⟨_,_,qr,rfl⟩,fun _ h=>absurd h (by simp)⟩
end
section
open Go Go.Eng Go.Proofs
def musS:Nat->Tmp->Nat
 |80,13=>1
 |81,25=>3
 |f,t=>mus f t
def yA:Nat->Nat->Bool
 |80,14=>true
 |24,5=>true
 |f,r=>rZ f r
def NZ:FuncId->EM:=fun f=>⟨WE j5 f,Wp jQ f,AA9 f,musS f,yA f⟩
end
section
open Go Go.Proofs
instance:Inhabited RgP:=⟨⟨0,0,0,0,0,0,0,0,0,default,default,default,default,[],.skip⟩⟩
instance:Inhabited RgC:=⟨⟨[],0,default,default,0,0,0,0,0,0,[],0,default,.skip⟩⟩
def rgOf (k:Nat)(c:Code)(out:Tmp)(mt kt et:TypeId)(ks:List Kd)(e:TypeId):RgC:=
 match Uw k c with
 |(pre,.seq (.seq (.region i1 a _) (.block bid (.loop (.seq (.region i2 b _) (.seq (.cond _ _ _) (.block bi (.seq (.region i3 d _) rest))))))) post)=>
  {pre,i1,q1:=a[0]!,q2:=a[1]!,tm:=(match (a[0]!).op with| .move (.tmp t)=>t|_=>0),dm:=((a[0]!).dst).getD 0,out,mt,kt,et,ks,e,
   p:={ di:=((a[1]!).dst).getD 0,dn:=((b[0]!).dst).getD 0,db:=((b[1]!).dst).getD 0,de:=((d[0]!).dst).getD 0,dv:=((d[1]!).dst).getD 0,bid,bi,i2,i3,o1:=b[0]!,o2:=b[1]!,o3:=d[0]!,o4:=d[1]!,l3:=d.toList.drop 2,rest },post }
 |_=>default
def rgB:RgC:=rgOf 4 (Try.f65.body.getD .skip) 8 143 2 38 [.int .i64 IntKind.i64.min IntKind.i64.max,.int .i64 IntKind.i64.min IntKind.i64.max,.int .i64 IntKind.i64.min IntKind.i64.max,.bool,.str,.str,.bool,.int .i64 IntKind.i64.min IntKind.i64.max,.int .i64 IntKind.i64.min IntKind.i64.max] 38
theorem tA:Try.f65.body=some rgB.code:=by kernel_rfl
theorem wO:rgB.Ok Try.prog:=by refine ⟨⟨⟨?_,?_,?_⟩,⟨?_,?_,?_⟩,⟨?_,?_,?_⟩,⟨?_,?_,?_⟩⟩,⟨?_,?_,?_⟩,⟨?_,?_,?_⟩,?_⟩<;>kernel_rfl
end
section
def Xk:ByteArray:=⟨#[97,110,110]⟩
def UK:ByteArray:=⟨#[98,111,98]⟩
def iy:ByteArray:=⟨#[99,97,116]⟩
def bZ:List (List U):=[[.str Xk,.int 2000,.int 0],[.str UK,.int 1500,.int 10],[.str iy,.int 1000,.int 20]]
def bO:List (List U):=[[.int 1,.int 0,.int 5,.bool false,.str Xk,.str UK,.bool true,.int 26,.int 20],[.int 2,.int 0,.int 6,.bool false,.str UK,.str iy,.bool true,.int 26,.int 3],[.int 3,.int 0,.int 7,.bool false,.str iy,.str Xk,.bool true,.int 26,.int 25]]
def In:List (List U):=[[.str UK,.int 1,.int 1,.int 1,.int 17,.int 1],[.str Xk,.int 1,.int 1,.int 1,.int 5,.int 1],[.str iy,.int 1,.int 1,.int 1,.int (-22),.int 1]]
theorem nF:In.length=3:=by kernel_rfl
theorem gb:Cq UK 1500 10 Xk 2000 0=0:=by kernel_rfl
theorem ex_i:B9 1500 (CJ 1500 2000 true)=1514:=by kernel_rfl
theorem ex_g:Cz (B9 1500 (CJ 1500 2000 true)) 10=10:=by kernel_rfl
theorem ex_j:B9 2000 (-(CJ 1500 2000 true))=1986:=by kernel_rfl
theorem ex_h:Cz (B9 2000 (-(CJ 1500 2000 true))) 0=0:=by kernel_rfl
theorem wR:Bq In 0 0=UK/\BU In 0 1=1/\BU In 0 2=1/\BU In 0 3=1/\BU In 0 4=17/\BU In 0 5=1:=⟨by kernel_rfl,by kernel_rfl,by kernel_rfl,by kernel_rfl,by kernel_rfl,by kernel_rfl⟩
end
section
open Go Go.Eng Go.Proofs
def yE:Nat->Nat->Option (Tmp × Int × Int)
 |66,8=>some (33,3,3)
 |66,13=>some (49,3,3)
 |105,1=>some (22,3,3)
 |105,2=>some (28,3,3)
 |105,8=>some (45,3,3)
 |105,16=>some (94,3,3)
 |122,1=>some (1,3,3)
 |_,_=>none
def oc:FuncId->EM:=fun f=>⟨WE j5 f,bif Nat.beq f 66||Nat.beq f 105||Nat.beq f 122||Nat.beq f 138 then (fun _=>none) else Wp jQ f,yE f,mus f,rZ f⟩
end
end Go.Eng
end
noncomputable section
namespace Go.Eng
theorem o2' {A B C:Prop}(f:A->B->C)(h:A/\B):C:=f h.1 h.2
theorem cutB {T:Tab}{a b:List BE}(h:Bi T (a++b)):Bi T a/\Bi T b:=⟨h.left,h.right⟩
end Go.Eng
end
