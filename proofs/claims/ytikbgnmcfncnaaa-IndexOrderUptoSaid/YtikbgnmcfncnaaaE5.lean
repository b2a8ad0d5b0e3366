/-
  A part of the proof: the evaluator of code and its soundness.
-/
import Derived.Test.YtikbgnmcfncnaaaE4
import Derived.KernelRfl
import Derived.Test.YtikbgnmcfncnaaaProg
import Derived.Test.YtikbgnmcfncnaaaRows
import Derived.WalkKit
import Derived.ProofKit
import Derived.JoinedCond
import Derived.OpenShut
import Derived.Shelf.GgClosure.StringsIndexFuncTop
import Derived.Laws.RangeAny
import Derived.Lib.Bytealg
set_option linter.unusedVariables false
set_option linter.unusedSimpArgs false
noncomputable section
namespace Go.Eng
section
open Go Go.Eng Go.Proofs
def VY:List (Nat × Nat):=[(3,356811923197259157698710802876495906918760255),(4,550830080991),(5,170141193601676453770381015179702828319),(6,89202980794163057433707209216026507515787263),(7,4630263367964029055),(8,6734599546214597221990822883665133711009854619906111),(9,9908658249016404373193949127),(10,98079720826798845593930068094850309804911155896884789191),(11,137456271347),(12,70506183115263),(13,3064991081731777722365913037005480846757658662151385151),(14,20752587087222415351),(15,127),(16,17375),(17,32967),(18,1125938561695871),(19,4611704712406761927),(20,4398601212221),(21,2360397),(22,1152923703630102535),(23,285),(24,33011),(25,33571891),(26,33571891),(27,1),(28,4351),(29,525),(30,8395535),(31,1),(32,255),(33,33551),(34,10141204806031981158242960407583),(35,316912952583809060057652395039),(36,1126449931223167),(37,33571891),(38,2163),(39,4296024039),(40,1057479),(41,134495533),(42,262707),(43,4398063288335),(44,4786206345238451),(45,20754838917633812467),(46,77),(47,1165),(48,32967),(49,525),(50,18399),(51,575),(52,4295231479),(53,274945034231),(54,9007199254874355),(55,525),(56,23),(57,16447),(58,71),(59,71),(60,8903),(61,7),(62,1125899906851101),(63,71),(64,1099511662605),(65,146243636491757),(66,151115731674017756698611),(67,7715),(68,1),(69,45),(70,4296023823),(71,19),(72,63),(73,134714111),(74,67113231),(75,140874944118543),(76,262707),(77,36028797019098895),(78,2475880078606789348968890611),(79,147),(80,19342813122841268197662663),(81,32831),(82,7),(83,5),(84,504373101),(85,4294983149),(86,19807040630007236279178105341),(87,19),(88,7),(89,18874823),(90,21),(91,135199),(92,479),(93,31),(94,1065211),(95,67643),(96,1),(97,268435583),(98,144115192370823171),(99,1),(100,19),(101,31),(102,17389),(103,604275),(104,21),(105,730750818665451459250395221072963867452968785863),(106,21),(107,3),(108,1),(109,1075843571),(110,19),(111,5),(112,65619),(113,66483),(114,549764202519),(115,191),(116,2147483835),(117,158514353557870112340845789213),(118,53478898112939196370036498439096720537788676143893093693041676285),(119,21),(120,3),(121,5),(122,18014433942971335),(123,31),(124,604275),(125,31),(126,31),(127,31),(128,31),(129,19),(130,19),(131,2333),(132,19),(133,32829),(134,5),(135,1064973),(136,19),(137,18014433942971335),(138,17179886351),(139,13164839976634628298295110780136696778032692856359452003713154079),(140,5),(141,19),(142,531911),(143,7),(144,17179886351),(145,13164839976634628298295110780136696778032692856359452003713154079),(146,9440287),(148,9440287),(149,9231),(150,9231)]
def O7:List (Nat × Nat)->Nat->Nat
 |[],_=>0
 |(i,k)::r,f=>bif Nat.beq i f then k else O7 r f
def TO:List (Nat × List Nat):=[(5,[0]),(6,[0]),(7,[0]),(8,[0,2]),(9,[0]),(10,[0,2]),(11,[0]),(13,[0]),(19,[0,2]),(20,[0,2,4]),(21,[0]),(25,[0]),(26,[0]),(34,[0,2]),(35,[0,2,4,6]),(37,[0]),(41,[0]),(42,[0]),(44,[0,2]),(45,[0,2]),(54,[0]),(62,[0,2]),(64,[0]),(65,[0,2]),(66,[0,2]),(67,[0]),(75,[0,2]),(76,[0]),(77,[0]),(78,[0]),(80,[0]),(84,[0,2]),(85,[0]),(86,[0,2,4]),(98,[0,2]),(105,[0,2,4]),(109,[0]),(113,[0]),(114,[0,2]),(116,[0]),(117,[0]),(118,[0,2]),(122,[0,2,4]),(133,[0]),(137,[0,2,4]),(138,[0,2]),(139,[0,2,4,6,8]),(142,[0]),(144,[0,2]),(145,[0,2,4,6,8]),(146,[0]),(148,[0]),(149,[0]),(150,[0])]
def sd:Dg:={ slots:=[(.tmp 4,.int .i64 (-9223372036854775808) 9223372036854775807),(.tmp 3,.list [.int .i64 (-9223372036854775808) 9223372036854775807,.int .i64 (-9223372036854775808) 9223372036854775807,.int .i64 (-9223372036854775808) 9223372036854775807,.bool,.str,.str,.bool,.int .i64 (-9223372036854775808) 9223372036854775807,.int .i64 (-9223372036854775808) 9223372036854775807])] }
def Ms:List (Nat × List Nat)->Nat->Nat->Option Dg
 |[],_,_=>none
 |(i,l)::r,f,b=>bif Nat.beq f 86&&Nat.beq b 0 then some sd else bif Nat.beq i f then (bif l.any (Nat.beq b) then some {} else none) else Ms r f b
def mus:Nat->Tmp->Nat
 |101,15=>2
 |108,6=>2
 |105,23=>1
 |66,84=>3
 |86,103=>3
 |44,15=>2
 |_,_=>0
def fw:Nat->Nat->Bool
 |100,2=>true
 |71,2=>true
 |105,27=>true
 |_,_=>false
def lQ:Nat->Nat->Option (Tmp × Int × Int):=fun f r=>bif Nat.beq f 84&&Nat.beq r 3 then some (3,0,1000000) else none
def Ab:FuncId->Ct:=fun f=>⟨O7 VY f,Ms TO f,lQ f,mus f,fw f⟩
def AAb:FuncId->Ct:=fun f=>⟨O7 VY f,bif Nat.beq f 44 then (fun b=>bif Nat.beq b 0 then none else Ms TO f b) else Ms TO f,lQ f,mus f,fw f⟩
theorem A8:Try.prog.follows .mixedOrders=true:=by kernel_rfl
end
end Go.Eng
end
noncomputable section
namespace Go.Proofs.Ytikbgnmcfncnaaa
open Go Go.Eng Go.RowKit Go.ChangeShapes Go.WideShapes Go.ChangeAt
section
variable {H:Type}
theorem wc (d:DataW H):0 < Rows.uptoBulk d:=by
 cases d with
 |lit l=>cases l<;>simp[Rows.uptoBulk]
 |_=>simp[Rows.uptoBulk]
theorem UM:∀(l:List (DataW H)),l.length<=Rows.uptoBulkAll l
 |[]=>by simp[Rows.uptoBulkAll]
 |d::r=>by
  have C:=wc d;have O:=UM r;simp only[ABa,Rows.uptoBulkAll];omega
mutual
theorem wI:(d:DataW H)->Rows.uptoBulk d<=1048576->Dh 1048576 d
 | .lit l,h=> .lit fun s e=>by
  subst e;simp only[Rows.uptoBulk] at h;omega
 | .nil,_=> .nil
 | .ptr d,_=> .ptr d
 | .slice l s,h=>by
  simp only[Rows.uptoBulk] at h;have C:=UM l;exact .slice (by omega) (Nf l (by omega))
 | .agg l,h=>by
  simp only[Rows.uptoBulk] at h;exact .agg (Nf l (by omega))
 | .iface t d,_=> .iface t d
 | .map ar,_=> .map ar
 | .held h,_=> .held h
theorem Nf:(l:List (DataW H))->Rows.uptoBulkAll l<=1048576->∀d∈l,Dh 1048576 d
 |[],_=>fun d hd=>by cases hd
 |x::r,h=>fun d hd=>by
  simp only[Rows.uptoBulkAll] at h;rcases List.mem_cons.1 hd with e|hd
  .rw[e];exact wI x (by omega)
  .exact Nf r (by omega) d hd
end
end
theorem jY {H:Type}{enc:TypeId × Value->H}{P:Program}{r:World}{base:Nat}{t:Nat->Bool}{bc:Bool}:∀{ay:List TypeId} {W:List Value} {o:List (DataW H)} {ps:List MemPlace},DataW.TrodAll enc P r base t bc ay W o ps->o.length=ay.length
 |[],[],[],_,_=>rfl
 |[],[],_::_,_,h=>h.elim
 |[],_::_,_,_,h=>h.elim
 |_::_,[],_,_,h=>h.elim
 |_::_,_::_,[],_,h=>h.elim
 |_::ay,_::W,_::o,_,⟨_,_,_,O,_⟩=>by simp[jY O]
theorem own:ownKnob Try.prog.godebug=none:=by kernel_rfl
theorem laid:laidOutB Try.prog=true:=by kernel_rfl
set_option maxRecDepth 100000 in
theorem wp {s:ChangeSpec}{f:Func}{k:FuncId}(a1:f.resultTypes= #[4])(N:s.vars=[])(ax:∀t∈f.params.toList,Try.prog.readableRec t=true/\t < Try.prog.types.size)
  (ag:∀(H:Type) (h:List (DataW H)),h.length=f.params.toList.length->s.fn H h={ results:=[.lit (.bool true)],args:=h })
  (ab:∀{H:Type} {enc:TypeId × Value->H} {o:World} {base:Nat} {W:List Value} {h:List (DataW H)} {ps:List MemPlace},DataW.TrodAll enc Try.prog o 0 (fun _=>true) true f.params.toList W h ps->
   (∀(j:Nat) t v,f.params.toList[j]? =some t->W[j]? =some v->Value.okWide Try.prog o .any base t v)->(∀d∈h,Dh 1048576 d)->
   Calls Try.prog k (W:List Value).toArray o fun e r=>e= .returned (.bool true)/\Below o.heap.size o r)
  (a3:Try.prog.underlying 4=some .bool)
  (H:Type) (enc:TypeId × Value->H) (o:World) (base:Nat) (args:Array Value) (h z:List (DataW H)) (T:List MemPlace)
  (a4:∀(j:Nat) t v,f.params[j]? =some t->args[j]? =some v->Value.okWide Try.prog o .any base t v)
  (K:DataW.Whole enc Try.prog f.params.toList s.vars false o args.toList h z T) (hk:Rows.uptoSmall H (h++z)=true):
  Calls Try.prog k args o fun e r=>∃v,e= .returned v/\s.post enc Try.prog f false true false false o args v r:=by
 have V:=K;obtain⟨p,q,A,E,rfl,hz,hn⟩:=K;have al:z=[]:=by
  rw[N] at E;cases z with
  |nil=>rfl
  |cons=>exact E.elim
 subst al;have aw:h.length=f.params.toList.length:=jY A;have a2:∀d∈h,Dh 1048576 d:=Nf h (by
  have C:=hk;unfold Rows.uptoSmall at C;rw[ABx,decide_eq_true_eq] at C;exact C)
 have Z:=ab A (fun j t v C O=>a4 j t v (by simpa using C) (by simpa using O)) a2;refine Z.mono fun e r ⟨he,Y⟩=>⟨_,he,?_⟩;exact tW laid ax a1 a3 N (by rw[ABx];exact ag H h aw) V Y
end Go.Proofs.Ytikbgnmcfncnaaa
end
noncomputable section
namespace Go.Eng
section
open Go Go.Eng Go.Proofs
def musC:Nat->Tmp->Nat
 |5,110=>3
 |5,121=>3
 |54,36=>3
 |13,93=>2
 |f,t=>mus f t
def AAa:Dg:={ slots:=(sd.slots.zip [6,5]).map fun s=>(.tmp s.2,s.1.2) }
def qn:FuncId->Ct:=fun f=>⟨O7 VY f,bif Nat.beq f 54 then (fun b=>bif Nat.beq b 0 then some AAa else none) else bif Nat.beq f 13 then (fun _=>none) else Ms TO f,lQ f,musC f,fw f⟩
end
section
open Go Go.Proofs
def JN (b:UInt8):Bool:=(decide (97<=b.toNat)&&decide (b.toNat<=122))||(decide (48<=b.toNat)&&decide (b.toNat<=57))
def Cf (s:ByteArray):Bool:=decide (1<=s.size)&&decide (s.size<=20)&&s.data.toList.all JN
def KH (x am Y:Int):Bool:=decide (am<=x)&&decide (x<=Y)
theorem Pm {x am Y:Int}:KH x am Y=true↔(am<=x/\x<=Y):=by simp[KH]
def C9 (r:Nat):Bool:=(decide (r < 97)||decide (122 < r))&&(decide (r < 48)||decide (57 < r))
theorem P4 (b:UInt8):JN b= !C9 b.toNat:=by
 rw[Bool.eq_iff_iff];simp only[JN,C9,ABe,AA8,decide_eq_true_eq,Bool.not_eq_true',Bool.and_eq_false_iff,Bool.or_eq_false_iff,decide_eq_false_iff_not];omega
theorem jz (s:ByteArray):∀(f pos:Nat),s.size<=pos+f->(Lib.idxFuncFrom C9 true s f pos= -1↔∀j (h:j < s.size),pos<=j->JN (s[j]'h)=true)
 |0,pos,hf=>by
  simp only[Lib.idxFuncFrom,true_iff];intro j h o;omega
 |f+1,pos,hf=>by
  unfold Lib.idxFuncFrom;by_cases o:pos < s.size
  .rw[ACE o];by_cases A:(s[pos]'o).toNat < 128
   .rw[decode_ascii s pos o A];simp only;by_cases r:C9 (s[pos]'o).toNat=true
    .rw[ACE r];constructor
     .intro h;omega
     .intro h;have:=h pos o (ABB _);rw[P4,r] at this;cases this
    .rw[ACD r,jz s f (pos+1) (by omega)];constructor
     .intro h j t z;by_cases e:j=pos
      .subst e;rw[P4];simpa using r
      .exact h j t (by omega)
     .intro h j t z;exact h j t (by omega)
   .obtain⟨C,O⟩:=decode_high s pos o (by omega);have r:C9 (Utf8.decode s pos).1=true:=by
     simp only[C9,ABe,AA8,decide_eq_true_eq];omega
    rw[ACE r];constructor
    .intro h;omega
    .intro h;have:=h pos o (ABB _);rw[P4] at this;have E:C9 (s[pos]'o).toNat=true:=by
      simp only[C9,ABe,AA8,decide_eq_true_eq];omega
     rw[E] at this;cases this
  .rw[ACD o];simp only[true_iff];intro j h z;omega
theorem YP (s:ByteArray):s.data.toList.all JN=true↔∀j (h:j < s.size),JN (s[j]'h)=true:=by
 rw[ABb];constructor
 .intro h j o;exact h _ (by
   have:s[j]=s.data.toList[j]'(by simpa using o):=rfl;rw[this];exact AB0 _)
 .intro h x r;obtain⟨j,o,rfl⟩:=List.getElem_of_mem r;exact h j (by simpa using o)
theorem nS (s:ByteArray):Cf s=(decide (1<=s.size)&&decide (s.size<=20)&& !decide (0<=Lib.idxFunc C9 true s)):=by
 have C:=jz s s.size 0 (by omega);have O:=YP s;have r:=Lib.idxFunc_range C9 true s;unfold Cf;congr 1;rw[Bool.eq_iff_iff,O];change Lib.idxFunc C9 true s= -1↔_ at C;rw[Bool.not_eq_true',decide_eq_false_iff_not];constructor
 .intro h;have:=C.2 fun j o _=>h j o;omega
 .intro h j o;exact C.1 (by omega) j o (ABh _)
def okB (s:ByteArray)(j:Nat):Prop:=97<=Br s j/\Br s j<=122\/48<=Br s j/\Br s j<=57
theorem xO {s:ByteArray}{k:Nat}(r:k=s.size):s.data.toList.all JN=true↔∀j:Nat,(j:Int) < k->okB s j:=by
 unfold okB;subst r;rw[YP];have e:∀j (o:j < s.size),(JN (s[j]'o)=true↔(97<=Br s j/\Br s j<=122\/48<=Br s j/\Br s j<=57)):=by
  intro j o;have e:Br s j=((s[j]'o).toNat:Int):=by
   unfold Br;have t:j < s.data.toList.length:=by simpa using o
   rw[ABV,ABC t];rfl
  rw[e];simp only[JN,ABe,AA8,decide_eq_true_eq];omega
 constructor
 .intro h j o;exact (e j (by omega)).1 (h j (by omega))
 .intro h j o;exact (e j o).2 (h j (by omega))
theorem vU {s:ByteArray}:Cf s=true↔(1<=s.size/\s.size<=20/\∀j:Nat,(j:Int) < s.size->okB s j):=by
 unfold Cf;rw[AA8,AA8,decide_eq_true_eq,decide_eq_true_eq,xO rfl,and_assoc]
end
section
def Cd (s:ByteArray)(x g:Int):Bool:=Cf s&&KH x (-10000) 10000&&KH g (-12) 48
def BZ (s:ByteArray)(x g:Int)(t:ByteArray)(y h:Int):Int:=
 if Cd s x g=true/\Cd t y h=true then (if s=t then 12 else 0) else 2
variable{s:ByteArray}{x g:Int}
theorem Fr :Cd s x g=true↔(Cf s=true/\(-10000<=x/\x<=10000)/\ -12<=g/\g<=48):=by
 unfold Cd;rw[AA8,AA8,Pm,Pm,and_assoc]
theorem VB {t:ByteArray}{y h:Int}(e:BZ s x g t y h=0):Cd s x g=true/\Cd t y h=true/\¬s=t:=by
 unfold BZ at e;split at e
 .rename_i o;split at e
  .omega
  .exact⟨o.1,o.2,by assumption⟩
 .omega
theorem jn {n:Int}(o:0<=n)(C:n<=19):1<=JP Hg n/\JP Hg n<=10:=by
 obtain⟨k,rfl⟩:∃k:Nat,n=k:=⟨n.toNat,by omega⟩;have h:∀k:Fin 20,1<=JP Hg ((k:Nat):Int)/\JP Hg ((k:Nat):Int)<=10:=by decide
 exact h ⟨k,by omega⟩
theorem GN (a b:Int)(l:Bool):1<=Bg a b l/\Bg a b l<=19:=by
 unfold Bg;split
 .split
  .have:=jn (n:=min ((b - a) / 100) 19) (by omega) (by omega);omega
  .have:=jn (n:=min ((a - b) / 100) 19) (by omega) (by omega);omega
 .omega
def BV (a b:Int):Int:=if a < b then -1 else if b < a then 1 else 0
def uI (u:List U)(c:Nat):Int:=(u.getD c default).toI
def uB (u:List U)(c:Nat):Bool:=(u.getD c default).toB
def uS (u:List U)(c:Nat):ByteArray:=(u.getD c default).toS
section
variable {lt:List U->List U->Bool}{x:List U}{P R S l:U'}{k a i b:Nat}
def FT (lt:List U->List U->Bool)(x:List U):U'->U'
 |[]=>[x]
 |y::r=>if lt x y=true then y::FT lt x r else x::y::r
def Fk (lt:List U->List U->Bool)(l:U'):U':=l.foldl (fun D x=>FT lt x D) []
def AQ (lt:List U->List U->Bool)(l:U')(a b:Nat):U':=l.take a++(Fk lt ((l.take b).drop a)).reverse++l.drop b
def XX (lt:List U->List U->Bool)(l:U')(a i:Nat):U':=l.take a++(FT lt (l.getD i []) ((l.take i).drop a).reverse).reverse++l.drop (i+1)
def CY (P R S:U')(x:List U)(k:Nat):U':=P++(R.take k++x::R.drop k).reverse++S
theorem YG (h:k < R.length):CY P R S x k=(P++(R.drop (k+1)).reverse)++R.getD k []::x::((R.take k).reverse++S):=by
 have:R.drop k=R.getD k []::R.drop (k+1):=by
  rw[List.drop_eq_getElem_cons h,ABV,ABC h];rfl
 unfold CY;rw[this];simp
theorem vX (h:k < R.length):CY P R S x (k+1)=(P++(R.drop (k+1)).reverse)++x::R.getD k []::((R.take k).reverse++S):=by
 have:R.take (k+1)=R.take k++[R.getD k []]:=by
  rw[List.take_add_one,ABV,ABC h];rfl
 unfold CY;rw[this];simp
theorem vE {A B:U'}{x y:List U}:((A++y::x::B).set (A.length+1) y).set A.length x=A++x::y::B:=by
 induction A with
 |nil=>rfl
 |cons c A h=>simp only[List.cons_append,ABa,List.set_cons_succ];rw[h]
theorem uZ (h:k < R.length):((CY P R S x k).set (P.length+(R.length - k)) (R.getD k [])).set (P.length+(R.length - k) - 1) x=CY P R S x (k+1):=by
 rw[YG h,vX h];have e:(P++(R.drop (k+1)).reverse).length=P.length+(R.length - k) - 1:=by simp;omega
 rw[<-e,show P.length+(R.length - k)=(P++(R.drop (k+1)).reverse).length+1 by simp;omega];exact vE
theorem ze (h:k<=R.length):(CY P R S x k).getD (P.length+(R.length - k)) []=x:=by
 unfold CY;simp only[List.reverse_append,List.reverse_cons];rw[ABV,ABj,ABP (by omega),ABj,ABj,ABP (by simp)];simp
theorem um (h:k < R.length):(CY P R S x k).getD (P.length+(R.length - k) - 1) []=R.getD k []:=by
 rw[YG h,ABV];have e:(P++(R.drop (k+1)).reverse).length=P.length+(R.length - k) - 1:=by simp;omega
 rw[<-e,ABP (ABB _)];simp
theorem xr:(CY P R S x k).length=P.length+R.length+1+S.length:=by
 unfold CY;simp;omega
theorem jd:∀{R:U'} {k:Nat},k<=R.length->(∀q,q < k->lt x (R.getD q [])=true)->(k=R.length\/¬lt x (R.getD k [])=true)->FT lt x R=R.take k++x::R.drop k
 |[],k,h,_,_=>by
  have:k=0:=by simpa using h
  subst this;rfl
 |y::R,0,_,_,h=>by
  simp only[FT];rcases h with h|h
  .simp at h
  .rw[ACD (by simpa using h)];rfl
 |y::R,k+1,h,C,O=>by
  simp only[FT];rw[ACE (by simpa using C 0 (by omega)),jd (k:=k) (by simpa using h) (fun q o=>by simpa using C (q+1) (by omega)) (by
   rcases O with O|O
   .exact .inl (by simpa using O)
   .exact .inr (by simpa using O))]
  rfl
theorem eN:∀{R:U'},(FT lt x R).length=R.length+1
 |[]=>rfl
 |y::R=>by
  simp only[FT];split
  .simp[eN (R:=R)]
  .rfl
theorem ou:Fk lt (l++[x])=FT lt x (Fk lt l):=by
 unfold Fk;rw[List.foldl_append];rfl
theorem RZ:(Fk lt l).length=l.length:=by
 have o:∀(l D:U'),(l.foldl (fun D x=>FT lt x D) D).length=D.length+l.length:=by
  intro l;induction l with
  |nil=>exact fun _=>rfl
  |cons y l h=>intro D;rw[List.foldl_cons,h,eN];simp;omega
 unfold Fk;rw[o];simp
def Bc (lt:List U->List U->Bool)(l:U'):U':=(Fk lt l).reverse
theorem RO {n:Nat}(h:n=l.length):AQ lt l 0 n=Bc lt l:=by
 subst h;unfold AQ Bc;simp
theorem In:(Bc lt l).length=l.length:=by unfold Bc;rw[List.length_reverse,RZ]
theorem eO {y:List U}:∀{R:U'},y∈FT lt x R->y=x\/y∈R
 |[],h=>by simpa [FT] using h
 |z::R,h=>by
  simp only[FT] at h;split at h
  .rcases List.mem_cons.1 h with h|h
   .exact .inr (List.mem_cons.2 (.inl h))
   .rcases eO h with h|h
    .exact .inl h
    .exact .inr (List.mem_cons.2 (.inr h))
  .rcases List.mem_cons.1 h with h|h
   .exact .inl h
   .exact .inr h
theorem CQ (h:i < l.length):l.take (i+1)=l.take i++[l.getD i []]:=by
 rw[List.take_add_one,ABV,ABC h];rfl
theorem Sk (o:a<=i)(h:i < l.length):(l.take (i+1)).drop a=(l.take i).drop a++[l.getD i []]:=by
 rw[CQ h,List.drop_append_of_le_length (by simp;omega)]
theorem L1 (h:a<=l.length):AQ lt l a (a+1)=l:=by
 unfold AQ;rcases ABN a l.length with C|C
 .have e:(l.take (a+1)).drop a=[l.getD a []]:=by
   rw[Sk (ABB _) C];simp[List.drop_take]
  rw[e];show l.take a++[l.getD a []]++l.drop (a+1)=l;rw[<-CQ C,ABw]
 .have e:l.take a=l:=List.take_of_length_le C;have o:l.take (a+1)=l:=List.take_of_length_le (by omega);rw[o,List.drop_eq_nil_of_le C,List.drop_eq_nil_of_le (show l.length<=a+1 by omega),e];simp[Fk]
theorem Iu (h:b<=a)(O:a<=b):AQ lt l a b=l:=by
 obtain rfl:a=b:=by omega
 unfold AQ;rw[List.drop_eq_nil_of_le (by simp;omega)];simp[Fk]
theorem By (h:a<=b)(O:b<=l.length):(AQ lt l a b).length=l.length:=by
 unfold AQ;simp[RZ];omega
theorem Wn (h:a<=i)(O:i<=l.length):(AQ lt l a i).take a=l.take a/\((AQ lt l a i).take i).drop a=(Fk lt ((l.take i).drop a)).reverse/\(AQ lt l a i).drop i=l.drop i:=by
 unfold AQ;have o:(l.take a).length=a:=by simp;omega
 have t:((Fk lt ((l.take i).drop a)).reverse).length=i - a:=by simp[RZ];omega
 have r:(l.take a++(Fk lt ((l.take i).drop a)).reverse).length=i:=by rw[ABM,o,t];omega
 refine⟨?_,?_,?_⟩
 .rw[ABj,List.take_left' o]
 .rw[List.take_left' r,List.drop_left' o]
 .rw[List.drop_left' r]
theorem Yk (h:a<=i)(O:i < l.length):AQ lt l a (i+1)=XX lt (AQ lt l a i) a i:=by
 obtain⟨r,t,o⟩:=Wn (lt:=lt) h (Nat.le_of_lt O);unfold XX;have A:(AQ lt l a i).getD i []=l.getD i []:=by
  have:=ACF (fun z=>z.getD 0 []) o;simpa [ABV,AB5] using this
 have C:(AQ lt l a i).drop (i+1)=l.drop (i+1):=by
  have:=ACF (fun z=>z.drop 1) o;simpa [AB4,Nat.add_comm] using this
 rw[r,t,A,C,List.reverse_reverse];show l.take a++(Fk lt ((l.take (i+1)).drop a)).reverse++l.drop (i+1)=_;rw[Sk h O,ou]
theorem cO (h:a<=i)(O:i < l.length):CY (l.take a) (((l.take i).drop a).reverse) (l.drop (i+1)) (l.getD i []) 0=l:=by
 unfold CY;simp only[List.take_zero,ACC,List.drop_zero,List.reverse_cons,List.reverse_reverse];rw[<-Sk h O];have e:l.take (i+1)=l.take a++(l.take (i+1)).drop a:=by
  have:=ABw a (l.take (i+1));rw[List.take_take,Nat.min_eq_left (by omega)] at this;exact this.symm
 rw[<-e,ABw]
theorem aV (h:a<=i)(O:i < l.length)(t:k<=i - a)(o:∀q,q < k->lt (l.getD i []) ((((l.take i).drop a).reverse).getD q [])=true)(r:k=i - a\/¬lt (l.getD i []) ((((l.take i).drop a).reverse).getD k [])=true):
  CY (l.take a) (((l.take i).drop a).reverse) (l.drop (i+1)) (l.getD i []) k=XX lt l a i:=by
 have e:(((l.take i).drop a).reverse).length=i - a:=by simp;omega
 unfold XX CY;rw[jd (k:=k) (by rw[e];exact t) o (by rw[e];exact r)]
theorem OF {j:Nat}{c:U'}(z:a<=j)(E:j<=i)(Y:i < l.length)(h:c=CY (l.take a) (((l.take i).drop a).reverse) (l.drop (i+1)) (l.getD i []) (i - j)):c.length=l.length/\c.getD j []=l.getD i []/\
  (a < j->c.getD (j - 1) []=(((l.take i).drop a).reverse).getD (i - j) []/\(c.set j (c.getD (j - 1) [])).set (j - 1) (c.getD j [])=CY (l.take a) (((l.take i).drop a).reverse) (l.drop (i+1)) (l.getD i []) (i - (j - 1))):=by
 have e:(((l.take i).drop a).reverse).length=i - a:=by simp;omega
 have o:(l.take a).length=a:=by simp;omega
 have r:(l.take a).length+((((l.take i).drop a).reverse).length - (i - j))=j:=by rw[e,o];omega
 have C:=ze (P:=l.take a) (R:=((l.take i).drop a).reverse) (S:=l.drop (i+1)) (x:=l.getD i []) (k:=i - j) (by rw[e];omega);rw[r,<-h] at C;refine⟨by rw[h,xr,e,o];simp;omega,C,fun A=>?_⟩;have O:=um (P:=l.take a) (R:=((l.take i).drop a).reverse) (S:=l.drop (i+1)) (x:=l.getD i []) (k:=i - j) (by rw[e];omega);have t:=uZ (P:=l.take a) (R:=((l.take i).drop a).reverse) (S:=l.drop (i+1)) (x:=l.getD i []) (k:=i - j) (by rw[e];omega);rw[r,<-h] at O t;refine⟨O,?_⟩;rw[C,O,t,show i - (j - 1)=i - j+1 by omega]
end
variable{l:U'}{i:Nat}{u:List U}
theorem Sc (h:(l.getD i []).length=u.length):B7 l i 0 u=l.set i u:=by
 unfold B7;rw[ABJ,List.take_zero,ACC,List.drop_eq_nil_of_le (by omega),ABx]
theorem Bi {p:List U->Prop}(h:∀v∈l,p v)(o:p u):∀v∈l.set i u,p v:=fun v r=>by
 rcases List.mem_or_eq_of_mem_set r with C|C
 .exact h v C
 .rw[C];exact o
theorem Aq (h:i < l.length):l.getD i []∈l:=by
 rw[ABV,ABC h];exact AB0 h
def KB:List Kd:=[.int .i64 IntKind.i64.min IntKind.i64.max,.int .i64 IntKind.i64.min IntKind.i64.max,.int .i64 IntKind.i64.min IntKind.i64.max,.bool,.str,.str,.bool,.int .i64 IntKind.i64.min IntKind.i64.max,.int .i64 IntKind.i64.min IntKind.i64.max]
theorem Fq (h:AL AB KB u):[U.int (uI u 0),.int (uI u 1),.int (uI u 2),.bool (uB u 3),.str (uS u 4),.str (uS u 5),.bool (uB u 6),.int (uI u 7),.int (uI u 8)]=u:=by
 obtain⟨_,_,rfl,⟨_,rfl,_⟩,_,_,rfl,⟨_,rfl,_⟩,_,_,rfl,⟨_,rfl,_⟩,_,_,rfl,⟨_,rfl⟩,_,_,rfl,⟨_,rfl,_⟩,_,_,rfl,⟨_,rfl,_⟩,_,_,rfl,⟨_,rfl⟩,_,_,rfl,⟨_,rfl,_⟩,_,_,rfl,⟨_,rfl,_⟩,h⟩:=h;rw[show _=[] from h];rfl
theorem dh (h:AL AB KB u):u.length=9:=by rw[<-Fq h];rfl
theorem SI {v:List U}(aa:∀u∈l,AL AB KB u)(Y:i < l.length)(h:AL AB KB v):
  B7 l i 0 [U.int (uI v 0),.int (uI v 1),.int (uI v 2),.bool (uB v 3),.str (uS v 4),.str (uS v 5),.bool (uB v 6),.int (uI v 7),.int (uI v 8)]=l.set i v:=by
 rw[Fq h];exact Sc (by rw[dh (aa _ (Aq Y)),dh h])
def ct (u v:List U):Int:=if BV (uI u 2) (uI v 2)=0 then BV (uI u 0) (uI v 0) else BV (uI u 2) (uI v 2)
def ltB (u v:List U):Bool:=decide (ct u v < 0)
structure WkO (lt:List U->List U->Bool):Prop where
 asym:∀a b,lt a b=true->¬lt b a=true
 tr:∀a b c,¬lt b a=true->¬lt c b=true->¬lt c a=true
section
variable {lt:List U->List U->Bool}{x:List U}{l ae R:U'}
theorem X7:∀{R:U'},(FT lt x R).Perm (x::R)
 |[]=>List.Perm.refl _
 |y::R=>by
  simp only[FT];split
  .exact ((X7 (R:=R)).cons y).trans (List.Perm.swap x y R)
  .exact List.Perm.refl _
theorem nJ:(Fk lt l).Perm l:=by
 have o:∀(l D:U'),(l.foldl (fun D x=>FT lt x D) D).Perm (l++D):=by
  intro l;induction l with
  |nil=>exact fun D=>List.Perm.refl _
  |cons y l h=>
   intro D;rw[List.foldl_cons];exact ((h _).trans (X7.append_left l)).trans List.perm_middle
 have:=o l [];rwa [ABx] at this
theorem Dj:(Bc lt l).Perm l:=(List.reverse_perm _).trans nJ
theorem N5 {y:List U}:y∈Bc lt l↔y∈l:=Dj.mem_iff
theorem UK (h:WkO lt):∀{R:U'},R.Pairwise (fun a b=>¬lt a b=true)->(FT lt x R).Pairwise (fun a b=>¬lt a b=true)
 |[],_=>List.pairwise_singleton _ _
 |y::R,hp=>by
  rw[ACK] at hp;simp only[FT];split
  .rename_i r;refine ACK.2 ⟨fun z o=>?_,UK h hp.2⟩;rcases eO o with rfl|o
   .exact h.asym _ _ r
   .exact hp.1 z o
  .rename_i r;refine ACK.2 ⟨fun z o=>?_,ACK.2 hp⟩;rcases List.mem_cons.1 o with rfl|o
   .exact r
   .exact h.tr _ _ _ (hp.1 z o) r
theorem eH (h:WkO lt):(Fk lt l).Pairwise (fun a b=>¬lt a b=true):=by
 have t:∀(l D:U'),D.Pairwise (fun a b=>¬lt a b=true)->(l.foldl (fun D x=>FT lt x D) D).Pairwise (fun a b=>¬lt a b=true):=by
  intro l;induction l with
  |nil=>exact fun D h=>h
  |cons y l r=>intro D o;rw[List.foldl_cons];exact r _ (UK h o)
 exact t l [] List.Pairwise.nil
theorem D2 (h:WkO lt):(Bc lt l).Pairwise (fun a b=>¬lt b a=true):=by
 unfold Bc;exact List.pairwise_reverse.2 (eH h)
theorem WX (h:l.Perm ae)(C:l.Pairwise (fun a b=>¬lt b a=true))(O:ae.Pairwise (fun a b=>¬lt b a=true))(hd:∀a b,a∈l->b∈l->¬lt a b=true->¬lt b a=true->a=b):l=ae:=
 List.Perm.eq_of_pairwise (le:=fun a b=>¬lt b a=true) (fun a b o r x y=>hd a b o (h.mem_iff.2 r) y x) C O h
theorem MJ (h:WkO lt)(t:l.Perm ae)(hd:∀a b,a∈l->b∈l->¬lt a b=true->¬lt b a=true->a=b):Bc lt l=Bc lt ae:=
 WX (Dj.trans (t.trans Dj.symm)) (D2 h) (D2 h) fun a b o r=>hd a b (N5.1 o) (N5.1 r)
end
variable{a b:Int}{u v k:List U}{p:List U->Prop}{l:U'}{i:Nat}
theorem Jr :BV a b < 0↔a < b:=by
 unfold BV;split
 .omega
 .split<;>omega
theorem jJ :BV a b=0↔a=b:=by
 unfold BV;split
 .omega
 .split<;>omega
theorem O4 :ltB u v=true↔(uI u 2 < uI v 2\/(uI u 2=uI v 2/\uI u 0 < uI v 0)):=by
 unfold ltB ct;rw[decide_eq_true_eq];split
 .rename_i h;rw[Jr];have:=jJ.1 h;omega
 .rename_i h;rw[Jr];have:¬uI u 2=uI v 2:=fun e=>h (jJ.2 e);omega
theorem wkB:WkO ltB where
 asym:=fun a b h=>by rw[O4] at h⊢;omega
 tr:=fun a b c C O=>by rw[O4] at C O⊢;omega
def Oc (m:U')(n:Int):Prop:=Ai 1 m [.int n] < m.length
instance (m:U')(n:Int):Decidable (Oc m n):=by unfold Oc;infer_instance
def W5 (m:U')(n:Int):Int:=(CU 1 1 m (.int 0) [.int n]).toI
def Mf (m:U')(u:List U):U':=if¬Oc m (uI u 0)\/W5 m (uI u 0) < uI u 1 then BB 1 m [.int (uI u 0)] u else m
def AY (l:U'):U':=l.foldl Mf []
def Cs (r:List U):U':=if uB r 4=true then [] else [r.drop 1]
def Aw (l:U'):U':=Bc ltB ((AY l).flatMap Cs)
structure Ll (p:List U->Prop) (m:U'):Prop where
 row:∀r∈m,∃u,r=U.int (uI u 0)::u/\p u
 once:m.Pairwise fun a b=>uI a 0≠uI b 0
theorem bw {m:U'}(h:Ll p m){n:Int}(Y:Oc m n):uI (m[Ai 1 m [.int n]]'Y) 0=n:=by
 have o:Ai 1 m [.int n] < m.length:=Y;have C:BG ((m[Ai 1 m [.int n]]'o).take 1) [.int n]=true:=List.findIdx_getElem (w:=o);obtain⟨u,t,_⟩:=h.row _ (AB0 o);show uI (m[Ai 1 m [.int n]]'o) 0=n;generalize m[Ai 1 m [.int n]]'o=r at C t;rw[t] at C⊢;simp only[List.take_succ_cons,List.take_zero,BG,U.eqv,Bool.and_true,decide_eq_true_eq] at C;exact C
theorem im {m:U'}(h:Ll p m){n:Int}(Y:¬Oc m n):∀r∈m,uI r 0≠n:=fun r o e=>by
 have C:Ai 1 m [.int n]=m.length:=by
  have:=List.findIdx_le_length (xs:=m) (p:=fun r=>BG (r.take 1) [.int n]);unfold Oc Ai at Y;unfold Ai;omega
 unfold Ai at C;rw[List.findIdx_eq_length] at C;have O:=C r o;obtain⟨u,t,_⟩:=h.row r o;rw[t] at O e;have e':uI u 0=n:=e;simp[BG,U.eqv,e'] at O
theorem td {m:U'}(h:Ll p m)(N:p u):Ll p (Mf m u):=by
 unfold Mf;split
 .unfold BB;by_cases Y:Oc m (uI u 0)
  .rw[show decide (Ai 1 m [.int (uI u 0)] < m.length)=true from decide_eq_true Y];refine⟨fun r t=>?_,?_⟩
   .rcases List.mem_or_eq_of_mem_set t with C|C
    .exact h.row r C
    .exact⟨u,C,N⟩
   .rw[ACG];intro i j E K T;simp only[cond_true,ABr] at E K;have o:=ACG.1 h.once i j E K T;have z:=bw h Y;simp only[cond_true,List.getElem_set];split
    .rename_i e;subst e;split
     .omega
     .exact fun e=>o (z.trans e)
    .split
     .rename_i e;subst e;exact fun e=>o (e.trans z.symm)
     .exact o
  .rw[show decide (Ai 1 m [.int (uI u 0)] < m.length)=false from decide_eq_false Y];refine⟨fun r t=>?_,?_⟩
   .rcases ABm.1 t with C|C
    .exact h.row r C
    .simp at C;exact⟨u,C,N⟩
   .simp only[cond_false];rw[ACJ];refine⟨h.once,List.pairwise_singleton _ _,fun a O b A=>?_⟩;simp at A;subst A;show _≠uI u 0;exact im h Y a O
 .exact h
theorem xy (m:U')(u:List U):(Mf m u).length<=m.length+1:=by
 unfold Mf BB;split
 .cases decide (Ai 1 m [.int (uI u 0)] < m.length)<;>simp
 .omega
theorem Vm :AY (l++[u])=Mf (AY l) u:=by unfold AY;rw[List.foldl_append];rfl
theorem Yz {p:List U->Prop}:∀{l:U'} {m:U'},Ll p m->(∀u∈l,p u)->Ll p (l.foldl Mf m)
 |[],m,h,_=>h
 |u::l,m,h,hl=>by
  rw[List.foldl_cons];exact Yz (td h (hl u (ABK ..))) fun v o=>hl v (ABH _ o)
theorem Gm :Ll (· ∈l) (AY l):=Yz ⟨fun r h=>(by cases h),List.Pairwise.nil⟩ fun u h=>h
theorem bQ:∀{l:U'} {m:U'},(l.foldl Mf m).length<=m.length+l.length
 |[],m=>ABB _
 |u::l,m=>by
  rw[List.foldl_cons];have:=bQ (l:=l) (m:=Mf m u);have:=xy m u;simp only[ABa];omega
theorem uP :(AY l).length<=l.length:=by have:=bQ (l:=l) (m:=[]);unfold AY;simpa using this
theorem ud {r:List U}:(Cs r).length<=1:=by unfold Cs;split<;>simp
theorem Qr:∀{m:U'},(m.flatMap Cs).length<=m.length
 |[]=>ABB _
 |r::m=>by
  rw[List.flatMap_cons,ABM,ABa];have:=Qr (m:=m);have:=ud (r:=r);omega
theorem Lw :(Aw l).length<=(AY l).length:=by unfold Aw;rw[show∀l:U',(Bc ltB l).length=l.length from fun _=>Dj.length_eq];exact Qr
theorem dP {m:U'}(h:Ll p m){a b:List U}(t:a∈m.flatMap Cs)(O:b∈m.flatMap Cs)(e:uI a 0=uI b 0):a=b:=by
 have mem:∀{a},a∈m.flatMap Cs->∃r∈m,a=r.drop 1/\uI r 0=uI a 0:=fun {a} t=>by
  obtain⟨r,o,C⟩:=List.mem_flatMap.1 t;unfold Cs at C;split at C
  .cases C
  .simp at C;obtain⟨u,T,_⟩:=h.row r o;refine⟨r,o,by simpa using C,?_⟩;rw[T] at C⊢;simp at C;rw[C];rfl
 obtain⟨r,o,K,z⟩:=mem t;obtain⟨s,aa,N,A⟩:=mem O;have:r=s:=by
  obtain⟨i,Y,rfl⟩:=ABy.1 o;obtain⟨j,E,rfl⟩:=ABy.1 aa;rcases Nat.lt_trichotomy i j with C|C|C
  .exact absurd (z.trans (e.trans A.symm)) (ACG.1 h.once i j Y E C)
  .subst C;rfl
  .exact absurd (A.trans (e.symm.trans z.symm)) (ACG.1 h.once j i E Y C)
 rw[K,N,this]
theorem su {ap:U'}(h:ap.Perm ((AY l).flatMap Cs)):Bc ltB ap=Aw l:=by
 refine MJ wkB h fun a b o r C O=>?_;rw[O4] at C O;exact dP Gm (h.mem_iff.1 o) (h.mem_iff.1 r) (by omega)
def KP:List Kd:=[.str,.int .i64 IntKind.i64.min IntKind.i64.max,.int .i64 IntKind.i64.min IntKind.i64.max]
theorem AAZ (h:AL AB KP u):[U.str (uS u 0),.int (uI u 1),.int (uI u 2)]=u:=by
 obtain⟨_,_,rfl,⟨_,rfl,_⟩,_,_,rfl,⟨_,rfl,_⟩,_,_,rfl,⟨_,rfl,_⟩,h⟩:=h;rw[show _=[] from h];rfl
def U6 (m:U')(u:List U):U':=BB 1 m [.str (uS u 0)] [.bool true]
def BT (l:U'):U':=l.foldl U6 []
def Cc (u:List U):Bool:=Cd (uS u 0) (uI u 1) (uI u 2)
def AS (l:U'):Int:=if 24 < l.length then 6 else if¬l.all Cc=true then 2 else if (BT l).length < l.length then 12 else 0
def Fp (n v a:Int)(w l:ByteArray)(p q:Int):Int:=
 if (KH n 0 1099511627776&&KH a 0 1099511627776&&KH v 0 1048576&&Cf w&&Cf l&& !decide (w=l)&&decide (0<=q)&&decide (q<=p)&&decide (p<=26))=true then 0 else 2
def C6 (u:List U):Bool:=decide (Fp (uI u 0) (uI u 1) (uI u 2) (uS u 4) (uS u 5) (uI u 7) (uI u 8)=0)
def CN (u:List U):List U:=[.int (uI u 0),.int (uI u 1)]
def D9 (u v:List U):Bool:=decide (uI u 0=uI v 0)&&decide (uI u 1=uI v 1)&&decide (uI u 2=uI v 2)&&decide (uB u 3=uB v 3)&&decide (uS u 4=uS v 4)&&decide (uS u 5=uS v 5)&&decide (uB u 6=uB v 6)&&decide (uI u 7=uI v 7)&&decide (uI u 8=uI v 8)
def Ke (m:U')(u:List U):Bool:=decide (Ai 2 m (CN u) < m.length)&& !D9 ((m.getD (Ai 2 m (CN u)) []).drop 2) u
def Cu (m:U'):U'->Bool
 |[]=>true
 |u::l=>if Ke m u=true then false else Cu (BB 2 m (CN u) u) l
def EQ (l:U'):Bool:=Cu [] l
theorem Q4 {G:Nat}{m:U'}:(BB G m k v).length<=m.length+1:=by
 unfold BB;cases decide (Ai G m k < m.length)<;>simp
theorem Ox :BT (l++[u])=U6 (BT l) u:=by unfold BT;rw[List.foldl_append];rfl
theorem YE:∀{l m:U'},(l.foldl U6 m).length<=m.length+l.length
 |[],m=>ABB _
 |u::l,m=>by
  rw[List.foldl_cons];have:=YE (l:=l) (m:=U6 m u);have h:(U6 m u).length<=m.length+1:=Q4;simp only[ABa];omega
theorem Qa :(BT l).length<=l.length:=by have:=YE (l:=l) (m:=[]);unfold BT;simpa using this
theorem Qs {p:List U->Bool}:(l++[u]).all p=true↔(l.all p=true/\p u=true):=by simp
theorem T6 {m:U'}(h:i < l.length):Cu m (l.drop i)=if Ke m (l.getD i [])=true then false else Cu (BB 2 m (CN (l.getD i [])) (l.getD i [])) (l.drop (i+1)):=by
 have:l.drop i=l.getD i []::l.drop (i+1):=by
  rw[List.drop_eq_getElem_cons h,ABV,ABC h];rfl
 rw[this];rfl
theorem bF {m:U'}{c:Bool}{o r t K N z0 z1 z2 z7 z8:Int}{z E z3 z6:Bool}{A C z4 z5:ByteArray}{q0 q1 q2 q3 q4 q5 q6 q7 q8:U}
  (h:c=true↔(Ai 2 m k < m.length/\¬(z0=o/\z1=r/\z2=t/\(z3=true↔z=true)/\z4=A/\z5=C/\(z6=true↔E=true)/\z7=K/\z8=N))) (hk:k=CN (l.getD i []))
  (O:z0=(CU 2 0 m q0 k).toI) (T:z1=(CU 2 1 m q1 k).toI) (V:z2=(CU 2 2 m q2 k).toI) (W:z3=(CU 2 3 m q3 k).toB) (Y:z4=(CU 2 4 m q4 k).toS) (Z:z5=(CU 2 5 m q5 k).toS) (e6:z6=(CU 2 6 m q6 k).toB) (e7:z7=(CU 2 7 m q7 k).toI) (e8:z8=(CU 2 8 m q8 k).toI)
  (f0:o=AJ l i 0) (f1:r=AJ l i 1) (f2:t=AJ l i 2) (f3:z=FZ l i 3) (f4:A=Af l i 4) (f5:C=Af l i 5) (f6:E=FZ l i 6) (f7:K=AJ l i 7) (f8:N=AJ l i 8):c=true↔Ke m (l.getD i [])=true:=by
 rw[h];subst hk;unfold Ke;rw[AA8,decide_eq_true_eq];refine and_congr_right fun bl=>?_;have g:∀(n:Nat) (q:U),CU 2 n m q (CN (l.getD i []))=((m.getD (Ai 2 m (CN (l.getD i []))) []).drop 2).getD n default:=fun n q=>by
  unfold CU;rw[decide_eq_true bl];simp[ABV,AB5]
 rw[g] at O T V W Y Z e6 e7 e8;have b:∀x y:Bool,(x=true↔y=true)↔x=y:=fun x y=>by cases x<;>cases y<;>simp
 rw[b,b,O,T,V,W,Y,Z,e6,e7,e8,f0,f1,f2,f3,f4,f5,f6,f7,f8];unfold D9;simp only[Bool.not_eq_true',<-Bool.not_eq_true,AA8,decide_eq_true_eq,and_assoc];exact Iff.rfl
def AM (l:U'):Int:=if 200 < l.length then 6 else if¬l.all C6=true then 2 else if EQ l=true then 0 else 12
def BI (l:U')(F:Nat->Nat):U':=(List.range l.length).map fun q=>l.getD (F q) []
def swS (a b n q:Nat):Nat:=if a<=q/\q < a+n then q+(b - a) else if b<=q/\q < b+n then q - (b - a) else q
def rtS (a m b q:Nat):Nat:=if a<=q/\q < a+(b - m) then q+(m - a) else if a+(b - m)<=q/\q < b then q - (b - m) else q
def Bp (l:U')(a m b:Nat):U':=l.take a++((l.take b).drop m++((l.take m).drop a++l.drop b))
section
variable {l c:U'}{F J :Nat->Nat}{a b m n i j:Nat}
theorem D1:(BI l F).length=l.length:=by unfold BI;simp
variable{q:Nat}
theorem ID (h:q < l.length):(BI l F).getD q []=l.getD (F q) []:=by
 unfold BI;grind
theorem Qt (h:c.length=l.length)(O:∀q,q < l.length->c.getD q []=l.getD q []):c=l:=by
 refine List.ext_getElem h fun q o r=>?_;grind
theorem M1 (h:c.length=l.length)(O:∀q,q < l.length->c.getD q []=l.getD (F q) []):c=BI l F:=
 Qt (by rw[h,D1]) fun q o=>by rw[D1] at o;rw[O q o,ID o]
theorem xj (h:∀q,q < l.length->F q=q):BI l F=l:=(M1 rfl fun q o=>by rw[h q o]).symm
theorem Yt {V :Nat->Nat}(h:∀q,q < l.length-> J q < l.length/\F (J q)= V q):BI (BI l F) J =BI l V :=
 M1 (by rw[D1,D1]) fun q o=>by
  rw[ID (by rw[D1];exact o),ID (h q o).1,(h q o).2]
theorem SB {x y:List U}(Y:i < c.length)(h:j < c.length):((c.set i x).set j y).getD q []=if q=j then y else if q=i then x else c.getD q []:=by
 grind
theorem j5 (h:c=BI l (swS a b i))(t:a+i < b)(z:b+i < l.length):
  (c.set (a+i) (c.getD (b+i) [])).set (b+i) (c.getD (a+i) [])=BI l (swS a b (i+1)):=by
 have o:c.length=l.length:=by rw[h,D1]
 refine M1 (by rw[ABr,ABr,o]) fun q r=>?_;rw[SB (by omega) (by omega),h,ID (by omega),ID (by omega)];by_cases C:q=b+i
 .subst C;rw[ACE rfl];congr 1;unfold swS;grind
 .rw[ACD C];by_cases O:q=a+i
  .subst O;rw[ACE rfl];congr 1;unfold swS;grind
  .rw[ACD O,ID r];congr 1;unfold swS;grind
theorem jI:BI l (swS a b 0)=l:=xj fun q _=>by
 unfold swS
 (repeat' split)<;>omega
theorem qK (h:j < i)(Y:i<=m)(o:m+j<=l.length):BI (BI l (swS (m - i) m j)) (rtS (m - (i - j)) m (m+j))=BI l (rtS (m - i) m (m+j)):=
 Yt fun q r=>by
  unfold swS rtS;constructor
  iterate 2
   ·(repeat' split)<;>omega
theorem pj (h:i < j)(Y:i<=m)(o:m+j<=l.length):BI (BI l (swS (m - i) (m+j - i) i)) (rtS (m - i) m (m+(j - i)))=BI l (rtS (m - i) m (m+j)):=
 Yt fun q r=>by
  unfold swS rtS;constructor
  iterate 2
   ·(repeat' split)<;>omega
theorem pn (Y:i<=m)(o:m+i<=l.length):BI l (swS (m - i) m i)=BI l (rtS (m - i) m (m+i)):=
 (M1 D1 fun q h=>by
  rw[ID h];congr 1;unfold swS rtS
  (repeat' split)<;>omega)
theorem EZ (C:a<=m)(O:m<=b)(h:b<=l.length):(Bp l a m b).length=l.length:=by
 unfold Bp;grind
theorem El (C:a<=m)(O:m<=b)(h:b<=l.length):(Bp l a m b).getD q []=l.getD (rtS a m b q) []:=by
 unfold Bp rtS;rw[ABV,ABV];congr 1;simp only[AB7,ABl,ABs,AB8,AB5];grind
theorem jT (C:a<=m)(O:m<=b)(h:b<=l.length):BI l (rtS a m b)=Bp l a m b:=
 (M1 (EZ C O h) fun q _=>El C O h).symm
theorem Ie (C:a=m\/m=b)(O:a<=m)(o:m<=b)(h:b<=l.length):Bp l a m b=l:=
 Qt (EZ O o h) fun q _=>by
  rw[El O o h];congr 1;unfold rtS
  (repeat' split)<;>omega
theorem pA (h:c=Bp l a (a+1) (i+1))(r:a<=i)(Y:i+1 < l.length):
  (c.set i (c.getD (i+1) [])).set (i+1) (c.getD i [])=Bp l a (a+1) (i+2):=by
 have o:c.length=l.length:=by rw[h,EZ]<;>omega
 refine Qt (by rw[ABr,ABr,o,EZ]<;>omega) fun q t=>?_;rw[SB (by omega) (by omega),h,El (by omega) (by omega) (by omega),El (by omega) (by omega) (by omega),El (by omega) (by omega) (by omega),El (by omega) (by omega) (by omega)];by_cases C:q=i+1
 .subst C;rw[ACE rfl];congr 1;unfold rtS;grind
 .rw[ACD C];by_cases O:q=i
  .subst O;rw[ACE rfl];congr 1;unfold rtS;grind
  .rw[ACD O];congr 1;unfold rtS;grind
theorem dV (h:c=Bp l i m (m+1))(C:1<=i)(Y:i<=m)(r:m+1<=l.length):
  (c.set i (c.getD (i - 1) [])).set (i - 1) (c.getD i [])=Bp l (i - 1) m (m+1):=by
 have o:c.length=l.length:=by rw[h,EZ]<;>omega
 refine Qt (by rw[ABr,ABr,o,EZ]<;>omega) fun q t=>?_;rw[SB (by omega) (by omega),h,El (by omega) (by omega) (by omega),El (by omega) (by omega) (by omega),El (by omega) (by omega) (by omega),El (by omega) (by omega) (by omega)];by_cases C:q=i - 1
 .subst C;rw[ACE rfl];congr 1;unfold rtS;grind
 .rw[ACD C];by_cases O:q=i
  .subst O;rw[ACE rfl];congr 1;unfold rtS;grind
  .rw[ACD O];congr 1;unfold rtS;grind
end
theorem DP {x:Int}(C:0<=x)(O:x<=18446744073709551615):IntKind.u64.wrap x=x:=by
 refine E6 .u64 x ?_ ?_<;>simp[IntKind.min,IntKind.max,IntKind.signed,IntKind.bits]<;>omega
def seg (l:U')(a b:Nat):U':=(l.take b).drop a
def Srt (lt:List U->List U->Bool)(l:U'):Prop:=l.Pairwise fun x y=>¬lt y x=true
def Dst (lt:List U->List U->Bool)(l:U'):Prop:=∀x y,x∈l->y∈l->¬lt x y=true->¬lt y x=true->x=y
section
variable {lt:List U->List U->Bool}{l c:U'}{a b m s e:Nat}
theorem spl {i j:Nat}(h:i<=j):l.drop i=(l.drop i).take (j - i)++l.drop j:=by
 have e:l.drop j=(l.drop i).drop (j - i):=by rw[AB4,show i+(j - i)=j by omega]
 rw[e,ABw]
theorem DU (h:b<=l.length):(seg l a b).length=b - a:=by unfold seg;rw[ABs,ABl];omega
theorem Ed (h:a<=b):seg l a b=(l.drop a).take (b - a):=by unfold seg;rw[List.drop_take]
theorem DX (h:a<=m)(O:m<=b):seg l a b=seg l a m++seg l m b:=by
 rw[Ed (ABS h O),Ed h,Ed O];have e:=spl (l:=l) (i:=a) (j:=m) h
 conv=>lhs;rw[e]
 rw[List.take_append];congr 1
 .grind
 .rw[ABl,ABs];by_cases o:m<=l.length
  .congr 1;omega
  .rw[List.drop_eq_nil_of_le (by omega)];simp
theorem xd {o r:Nat}(h:a<=o)(t:o<=r)(O:r<=b):seg l o r ⊆ seg l a b:=fun x z=>by
 rw[DX h (ABS t O),DX t O];exact ABm.2 (.inr (ABm.2 (.inl z)))
variable{q x p a0 y:Nat}{X P aS:U'}
theorem PN (C:a<=q)(O:q < b)(h:q < l.length):(seg l a b)[q - a]? =some (l.getD q []):=by
 unfold seg;grind
theorem GH {x:List U}(o:b<=l.length)(h:x∈seg l a b):∃q,a<=q/\q < b/\l.getD q []=x:=by
 obtain⟨k,r,rfl⟩:=ABy.1 h;rw[DU o] at r;have:=PN (l:=l) (a:=a) (b:=b) (q:=a+k) (by omega) (by omega) (by omega);grind
theorem HL (h:Srt lt (seg l a b))(t:a<=p)(N:p < q)(z:q < b)(K:b<=l.length):¬lt (l.getD q []) (l.getD p [])=true:=by
 have C:=PN (l:=l) (a:=a) (b:=b) (q:=p) t (by omega) (by omega);have O:=PN (l:=l) (a:=a) (b:=b) (q:=q) (by omega) z (by omega);obtain⟨A,o⟩:=ABD.1 C;obtain⟨E,r⟩:=ABD.1 O;have:=(ACG.1 h) (p - a) (q - a) A E (by omega);rwa [o,r] at this
theorem LB (t:WkO lt)(h:Srt lt (seg l a b))(o:a<=p)(z:p<=q)(A:q < b)(r:b<=l.length):¬lt (l.getD q []) (l.getD p [])=true:=by
 rcases Nat.lt_or_eq_of_le z with C|C
 .exact HL h o C A r
 .subst C;exact fun h=>t.asym _ _ h h
theorem PD (o:b<=l.length)(h:∀p q,a<=p->p < q->q < b->¬lt (l.getD q []) (l.getD p [])=true):Srt lt (seg l a b):=by
 refine ACG.2 fun i j Y r t=>?_;rw[DU o] at Y r;have C:=PN (l:=l) (a:=a) (b:=b) (q:=a+i) (by omega) (by omega) (by omega);have O:=PN (l:=l) (a:=a) (b:=b) (q:=a+j) (by omega) (by omega) (by omega);grind
theorem VH:AQ lt l a b=l.take a++(Bc lt (seg l a b)++l.drop b):=by
 unfold AQ Bc seg;rw[ABj]
theorem Su (r:WkO lt)(hd:Dst lt (seg l a b))(o:c=l.take a++(X++l.drop b))(h:X.Perm (seg l a b))(aa:Srt lt X):c=AQ lt l a b:=by
 rw[o,VH];congr 2;refine WX (lt:=lt) (h.trans Dj.symm) aa (D2 r) fun x y t z C O=>?_;exact hd x y (h.subset t) (h.subset z) C O
theorem UN (o:WkO lt)(hd:Dst lt (seg l a b))(aa:Srt lt (seg l a b))(h:a<=b):AQ lt l a b=l:=by
 refine (Su o hd ?_ (List.Perm.refl _) aa).symm;rw[Ed h,<-spl h,ABw]
theorem ME (C:a<=s)(O:s<=m)(t:m<=e)(h:e<=b)(z:b<=l.length):
  Bp l s m e=l.take a++(seg l a s++(seg l m e++(seg l s m++(seg l e b++l.drop b)))):=by
 have o:l.take s=l.take a++seg l a s:=by
  have:=ABw a (l.take s);rw[List.take_take,show min a s=a by omega] at this;exact this.symm
 have r:l.drop e=seg l e b++l.drop b:=by rw[Ed h];exact spl h
 unfold Bp;rw[o,r];simp only[ABj];rfl
theorem Uz {S:U'}:AQ lt (P++(X++S)) P.length (P.length+X.length)=P++(Bc lt X++S):=by
 rw[VH];have C:(P++(X++S)).take P.length=P:=List.take_left' rfl;have O:seg (P++(X++S)) P.length (P.length+X.length)=X:=by
  rw[Ed (Nat.le_add_right _ _),List.drop_left' rfl,show P.length+X.length - P.length=X.length by omega,List.take_left' rfl]
 grind
theorem bZ (h:WkO lt){W Y:U'}(A:a<=s)(ab:s<=m)(K:m<=e)(Z:e<=b)(E:b<=l.length)(a3:a0+m=s+e)
  (C:Srt lt (seg l a m)) (O:Srt lt (seg l m b)) (hd:Dst lt (seg l a b))
  (o:s=a\/e=b\/¬lt (l.getD e []) (l.getD (s - 1) [])=true) (t:e=m\/s=m\/lt (l.getD (e - 1) []) (l.getD s [])=true)
  (aw:aS=Bp l s m e) (a1:W=AQ lt aS a a0) (a2:Y=AQ lt W a0 b):Y=AQ lt l a b:=by
 have hP:(l.take a).length=a:=by rw[ABl];omega
 have ax:=ME (l:=l) A ab K Z E;have g1:aS=l.take a++((seg l a s++seg l m e)++(seg l s m++(seg l e b++l.drop b))):=by rw[aw,ax];simp only[ABj]
 have av:a+(seg l a s++seg l m e).length=a0:=by rw[ABM,DU (by omega),DU (by omega)];omega
 have au:W=l.take a++(Bc lt (seg l a s++seg l m e)++(seg l s m++(seg l e b++l.drop b))):=by
  have:=Uz (lt:=lt) (P:=l.take a) (X:=seg l a s++seg l m e) (S:=seg l s m++(seg l e b++l.drop b));rw[hP,av,<-g1,<-a1] at this;exact this
 have g3:Y=l.take a++((Bc lt (seg l a s++seg l m e)++Bc lt (seg l s m++seg l e b))++l.drop b):=by
  have:=Uz (lt:=lt) (P:=l.take a++Bc lt (seg l a s++seg l m e)) (X:=seg l s m++seg l e b) (S:=l.drop b);rw[ABM,hP,In,av,show a0+(seg l s m++seg l e b).length=b by rw[ABM,DU (by omega),DU (by omega)];omega] at this;rw[a2,au];simp only[ABj] at this⊢;exact this
 refine Su h hd g3 ?_ ?_
 .rw[DX (l:=l) (ABS A ab) (ABS K Z),DX (l:=l) A ab,DX (l:=l) K Z];refine (Dj.append Dj).trans ?_;simp only[ABj];refine List.Perm.append_left _ ?_;rw[<-ABj,<-ABj];exact List.Perm.append_right _ List.perm_append_comm
 .refine ACJ.2 ⟨D2 h,D2 h,fun x r y z=>?_⟩;rw[N5,ABm] at r z;have V:=h.tr;rcases r with r|r<;>obtain⟨p,N,p2,rfl⟩:=GH (by omega) r<;>rcases z with z|z<;>obtain⟨q,q1,T,rfl⟩:=GH (by omega) z
  .exact HL C N (by omega) T (by omega)
  .rcases o with o|o|o
   .omega
   .omega
   .exact V _ _ _ (V _ _ _ (LB h C N (q:=s - 1) (by omega) (by omega) (by omega)) o) (LB h O K (p:=e) q1 T E)
  .rcases t with t|t|t
   .omega
   .omega
   .exact V _ _ _ (V _ _ _ (LB h O N (q:=e - 1) (by omega) (by omega) E) (h.asym _ _ t)) (LB h C A (p:=s) q1 T (by omega))
  .exact HL O N (by omega) T E
theorem pJ (r:WkO lt)(K:a+1<=e)(W:e<=b)(h:b<=l.length)(O:Srt lt (seg l (a+1) b))(hd:Dst lt (seg l a b))
  (z:e=a+1\/lt (l.getD (e - 1) []) (l.getD a [])=true) (A:e=b\/¬lt (l.getD e []) (l.getD a [])=true):Bp l a (a+1) e=AQ lt l a b:=by
 have hl:=EZ (l:=l) (a:=a) (m:=a+1) (b:=e) (by omega) K (by omega);have ax:=ME (l:=l) (a:=a) (s:=a) (m:=a+1) (e:=e) (b:=b) (ABB _) (by omega) K W h;have n0:seg l a a=[]:=List.eq_nil_of_length_eq_zero (by rw[DU (by omega)];omega);rw[n0,ACC] at ax;have g:Bp l a (a+1) e=l.take a++((seg l (a+1) e++(seg l a (a+1)++seg l e b))++l.drop b):=by rw[ax];simp only[ABj]
 refine Su r hd g ?_ ?_
 .rw[DX (l:=l) (a:=a) (m:=a+1) (b:=b) (by omega) (by omega),DX (l:=l) K W,<-ABj,<-ABj];exact List.Perm.append_right _ List.perm_append_comm
 .have Z:=r.tr;refine ACJ.2 ⟨?_,ACJ.2 ⟨?_,?_,fun x N y o=>?_⟩,fun x N y o=>?_⟩
  .exact PD (by omega) fun p q C t E=>HL O C t (by omega) h
  .exact PD (by omega) fun p q C t E=>by omega
  .exact PD h fun p q C t E=>HL O (by omega) t E h
  .obtain⟨p,T,p2,rfl⟩:=GH (by omega) N;obtain⟨q,Y,V,rfl⟩:=GH (by omega) o;obtain rfl:p=a:=by omega
   rcases A with A|A
   .omega
   .exact Z _ _ _ A (LB r O (p:=e) (by omega) Y V h)
  .obtain⟨p,T,p2,rfl⟩:=GH (by omega) N;rcases ABm.1 o with o|o<;>obtain⟨q,Y,V,rfl⟩:=GH (by omega) o
   .obtain rfl:q=a:=by omega
    rcases z with z|z
    .omega
    .exact Z _ _ _ (LB r O T (q:=e - 1) (by omega) (by omega) h) (r.asym _ _ z)
   .exact HL O T (by omega) V h
theorem eM (o:WkO lt)(K:a<=s)(V:s<=m)(Z:m+1<=l.length)(C:Srt lt (seg l a m))(hd:Dst lt (seg l a (m+1)))
  (t:s=a\/¬lt (l.getD m []) (l.getD (s - 1) [])=true) (z:s=m\/lt (l.getD m []) (l.getD s [])=true):Bp l s m (m+1)=AQ lt l a (m+1):=by
 have ax:=ME (l:=l) (a:=a) (s:=s) (m:=m) (e:=m+1) (b:=m+1) K V (by omega) (ABB _) Z;have n0:seg l (m+1) (m+1)=[]:=List.eq_nil_of_length_eq_zero (by rw[DU (by omega)];omega);rw[n0,ACC] at ax;have g:Bp l s m (m+1)=l.take a++((seg l a s++(seg l m (m+1)++seg l s m))++l.drop (m+1)):=by rw[ax];simp only[ABj]
 refine Su o hd g ?_ ?_
 .rw[DX (l:=l) (a:=a) (m:=m) (b:=m+1) (by omega) (by omega),DX (l:=l) K V,ABj];exact List.Perm.append_left _ List.perm_append_comm
 .have Y:=o.tr;refine ACJ.2 ⟨?_,ACJ.2 ⟨?_,?_,fun x N y h=>?_⟩,fun x N y h=>?_⟩
  .exact PD (by omega) fun p q A r E=>HL C A r (by omega) (by omega)
  .exact PD (by omega) fun p q A r E=>by omega
  .exact PD (by omega) fun p q A r E=>HL C (by omega) r E (by omega)
  .obtain⟨p,O,p2,rfl⟩:=GH (by omega) N;obtain⟨q,W,T,rfl⟩:=GH (by omega) h;obtain rfl:p=m:=by omega
   rcases z with z|z
   .omega
   .exact Y _ _ _ (o.asym _ _ z) (LB o C (p:=s) K W T (by omega))
  .obtain⟨p,O,p2,rfl⟩:=GH (by omega) N;rcases ABm.1 h with h|h<;>obtain⟨q,W,T,rfl⟩:=GH (by omega) h
   .obtain rfl:q=m:=by omega
    rcases t with t|t
    .omega
    .exact Y _ _ _ (LB o C O (q:=s - 1) (by omega) (by omega) (by omega)) t
   .exact HL C O (by omega) T (by omega)
theorem O3 {S:U'}(C:x=P.length)(O:y=P.length+X.length):seg (P++(X++S)) x y=X:=by
 subst C;subst O;rw[Ed (Nat.le_add_right _ _),List.drop_left' rfl,show P.length+X.length - P.length=X.length by omega,List.take_left' rfl]
theorem Dst.mono {ae:U'}(h:Dst lt l)(O:ae ⊆ l):Dst lt ae:=fun x y o r=>h x y (O o) (O r)
theorem iY (o:a<=s)(K:s<=m)(z:m<=e)(r:e<=b)(T:b<=l.length)(ao:a0+m=s+e)
  (C:Srt lt (seg l a m)) (O:Srt lt (seg l m b)) (hd:Dst lt (seg l a b)) (V:aS=Bp l s m e):
  aS.length=l.length/\Srt lt (seg aS a s)/\Srt lt (seg aS s a0)/\Dst lt (seg aS a a0)/\Srt lt (seg aS a0 e)/\Srt lt (seg aS e b)/\Dst lt (seg aS a0 b):=by
 have hP:(l.take a).length=a:=by rw[ABl];omega
 have av:(seg l a s).length=s - a:=DU (by omega);have aB:(seg l m e).length=e - m:=DU (by omega);have n3:(seg l s m).length=m - s:=DU (by omega);have n4:(seg l e b).length=b - e:=DU T;have ax:=ME (l:=l) o K z r T;rw[<-V] at ax;have W:seg aS a s=seg l a s:=by rw[ax];exact O3 hP.symm (by omega)
 have E:seg aS s a0=seg l m e:=by
  rw[ax,<-ABj];exact O3 (by rw[ABM];omega) (by rw[ABM];omega)
 have Y:seg aS a0 e=seg l s m:=by
  rw[ax,<-ABj,<-ABj];exact O3 (by rw[ABM,ABM];omega) (by rw[ABM,ABM];omega)
 have Z:seg aS e b=seg l e b:=by
  rw[ax,<-ABj,<-ABj,<-ABj];exact O3 (by rw[ABM,ABM,ABM];omega) (by rw[ABM,ABM,ABM];omega)
 have t:∀x y,a<=x->x<=y->y<=b->seg l x y ⊆ seg l a b:=fun x y p1 p2 p3=>xd p1 p2 p3;have A:Srt lt (seg l a s)/\Srt lt (seg l s m):=by
  rw[DX (l:=l) o K] at C;exact⟨(ACJ.1 C).1,(ACJ.1 C).2.1⟩
 have B:Srt lt (seg l m e)/\Srt lt (seg l e b):=by
  rw[DX (l:=l) z r] at O;exact⟨(ACJ.1 O).1,(ACJ.1 O).2.1⟩
 refine⟨by rw[V,EZ]<;>omega,by rw[W];exact A.1,by rw[E];exact B.1,?_,by rw[Y];exact A.2,by rw[Z];exact B.2,?_⟩
 .rw[DX (l:=aS) o (m:=s) (b:=a0) (by omega),W,E];exact hd.mono fun x N=>(ABm.1 N).elim (fun h=>t a s (by omega) o (by omega) h) (fun h=>t m e (by omega) z r h)
 .rw[DX (l:=aS) (a:=a0) (m:=e) (b:=b) (by omega) r,Y,Z];exact hd.mono fun x N=>(ABm.1 N).elim (fun h=>t s m o K (by omega) h) (fun h=>t e b (by omega) r (ABB _) h)
theorem Q3 (o:WkO lt)(aa:s=a\/s=m)(h:a<=m)(C:Srt lt (seg l a s))(O:Srt lt (seg l s m))(hd:Dst lt (seg l a m)):AQ lt l a m=l:=by
 rcases aa with rfl|rfl
 .exact UN o hd O h
 .exact UN o hd C h
theorem eb (h:a<=m)(r:m<=l.length)(t:m<=x)(o:x<=y):seg (AQ lt l a m) x y=seg l x y:=by
 rw[Ed o,Ed o];congr 1;have:=(Wn (lt:=lt) (l:=l) h r).2.2;rw[show x=m+(x - m) by omega,<-AB4,this,AB4]
theorem jU (h:b=l.length):seg l 0 b=l:=by unfold seg;rw[List.drop_zero,h,ACA]
theorem cL (r:WkO lt){n:Nat}(C:m<=n)(A:n=l.length)(hd:Dst lt l)(O:c=AQ lt (AQ lt l 0 m) m n):
  c.length=l.length/\Srt lt (seg c 0 m)/\Srt lt (seg c m n)/\Dst lt (seg c 0 n)/\AQ lt c 0 n=AQ lt l 0 n:=by
 have T:l.drop m=(l.drop m).take (n - m)++l.drop n:=spl C;have z:l.drop n=[]:=List.drop_eq_nil_of_le (by omega);have o:(seg l 0 m).length=m:=by rw[DU (by omega)];omega
 have E:(seg l m n).length=n - m:=DU (by omega);have W:AQ lt l 0 m=Bc lt (seg l 0 m)++(seg l m n++[]):=by
  rw[VH,List.take_zero,ACC,T,Ed C,z]
 have t:c=Bc lt (seg l 0 m)++(Bc lt (seg l m n)++[]):=by
  rw[O,W];have:=Uz (lt:=lt) (P:=Bc lt (seg l 0 m)) (X:=seg l m n) (S:=[]);rw[In,o,E,show m+(n - m)=n by omega] at this;exact this
 have e:l=seg l 0 m++seg l m n:=by
  have:=DX (l:=l) (a:=0) (m:=m) (b:=n) (ABh _) C;rwa [jU A] at this
 have h:c.Perm l:=by
  rw[t,ABx];exact (Dj.append Dj).trans (by rw[<-e])
 have V:=h.length_eq;have Y:seg c 0 m=Bc lt (seg l 0 m):=by
  have:=O3 (P:=[]) (X:=Bc lt (seg l 0 m)) (S:=Bc lt (seg l m n)++[]) (x:=0) (y:=m) rfl (by rw[In,o];simp);rwa [ACC,<-t] at this
 have Z:seg c m n=Bc lt (seg l m n):=by
  rw[t];exact O3 (by rw[In,o]) (by rw[In,In,o,E];omega)
 have q3:seg c 0 n=c:=jU (by omega);refine⟨V,by rw[Y];exact D2 r,by rw[Z];exact D2 r,by rw[q3];exact hd.mono h.subset,?_⟩;rw[RO (by omega),RO A];exact MJ r h fun a b K N=>hd a b (h.subset K) (h.subset N)
end
end
section
def Cx (l:U'):U':=l.flatMap fun u=>(u.getD 0 default).toL
variable{l:U'}{i:Nat}{u v:List U}
theorem TX (Y:i < l.length):Cx (l.take (i+1))=Cx (l.take i)++Hx l i 0:=by
 unfold Cx Hx;have e:l.getD i []=l[i]:=by rw[ABV,ABC Y];rfl
 rw[List.take_add_one,ABC Y,List.flatMap_append,e];simp
theorem V1 {l:U'}(h:∀j:Nat,(Hx l j 0).length<=1000):∀i:Nat,i<=l.length->(Cx (l.take i)).length<=1000*i
 |0,_=>by simp[Cx]
 |i+1,Y=>by
  rw[TX (by omega),ABM];have:=V1 h i (by omega);have:=h i;omega
theorem xK (a b:U'):Cx [[.list a],[.list b]]=a++b:=by simp[Cx,U.toL]
def TyB (l:U'):Prop:=∀u∈l,AL AB KB u
def Gw (l:U'):Prop:=∀u v,u∈l->v∈l->uI u 0=uI v 0->uI u 1=uI v 1->u=v
theorem UU (o:AL AB KB u)(r:AL AB KB v):D9 u v=true↔u=v:=by
 constructor
 .intro h;rw[<-Fq o,<-Fq r];unfold D9 at h;grind
 .rintro rfl;unfold D9;simp
def mkL (L:U'):U':=L.map fun u=>CN u++u
theorem W3 :BG ((CN v++v).take 2) (CN u)=true↔(uI v 0=uI u 0/\uI v 1=uI u 1):=by
 show BG [U.int (uI v 0),U.int (uI v 1)] [U.int (uI u 0),U.int (uI u 1)]=true↔_;simp[BG,U.eqv]
theorem s9 {L:U'}:Ai 2 (mkL L) (CN u) < (mkL L).length↔∃v∈L,uI v 0=uI u 0/\uI v 1=uI u 1:=by
 unfold Ai;rw[List.findIdx_lt_length];unfold mkL;constructor
 .rintro⟨x,r,h⟩;obtain⟨v,o,rfl⟩:=ACI.1 r;exact⟨v,o,W3.1 h⟩
 .rintro⟨v,o,h⟩;exact⟨_,ACI.2 ⟨v,o,rfl⟩,W3.2 h⟩
theorem cZ {L:U'}(h:Ai 2 (mkL L) (CN u) < (mkL L).length):∃v∈L,(uI v 0=uI u 0/\uI v 1=uI u 1)/\(mkL L).getD (Ai 2 (mkL L) (CN u)) []=CN v++v:=by
 have C:BG (((mkL L)[Ai 2 (mkL L) (CN u)]'h).take 2) (CN u)=true:=List.findIdx_getElem (w:=h);have O:(mkL L)[Ai 2 (mkL L) (CN u)]'h∈mkL L:=AB0 h;unfold mkL at O;obtain⟨v,o,e⟩:=ACI.1 O;refine⟨v,o,?_,?_⟩
 .rw[<-W3];have:(CN v++v)=(mkL L)[Ai 2 (mkL L) (CN u)]'h:=e;rw[this];exact C
 .rw[ABV,ABC h];exact e.symm
theorem YW {L:U'}(z:TyB L)(A:AL AB KB u)(aa:Gw L):Ke (mkL L) u=true↔∃v∈L,(uI v 0=uI u 0/\uI v 1=uI u 1)/\v≠u:=by
 unfold Ke;rw[AA8,decide_eq_true_eq];constructor
 .rintro⟨C,O⟩;obtain⟨v,r,t,e⟩:=cZ C;rw[e,show (CN v++v).drop 2=v from rfl] at O;refine⟨v,r,t,fun h=>?_⟩;rw[(UU (z v r) A).2 h] at O;cases O
 .rintro⟨v,r,t,N⟩;have C:Ai 2 (mkL L) (CN u) < (mkL L).length:=s9.2 ⟨v,r,t⟩;refine⟨C,?_⟩;obtain⟨o,E,V,e⟩:=cZ C;rw[e,show (CN o++o).drop 2=o from rfl];have T:o=v:=aa _ _ E r (by omega) (by omega);cases K:D9 o u
  .rfl
  .exact absurd (T.symm.trans ((UU (z o E) A).1 K)) N
theorem QV:∀{l L:U'},TyB L->TyB l->Gw L->(Cu (mkL L) l=true↔Gw (L++l))
 |[],L,_,_,aa=>by rw[ABx];exact⟨fun _=>aa,fun _=>rfl⟩
 |u::l,L,hL,hl,aa=>by
  have V:=hl u ABK;have Z:TyB l:=fun x W=>hl x (ABH _ W);show (if Ke (mkL L) u=true then false else Cu (BB 2 (mkL L) (CN u) u) l)=true↔_;by_cases K:Ke (mkL L) u=true
  .rw[ACE K];obtain⟨v,t,A,N⟩:=(YW hL V aa).1 K;refine⟨fun h=>(by cases h),fun h=>absurd (h v u (ABR _ t) (ABL _ ABK) A.1 A.2) N⟩
  .rw[ACD K];have ab:∀v∈L,uI v 0=uI u 0->uI v 1=uI u 1->v=u:=fun v t C O=>by
    by_cases h:v=u
    .exact h
    .exact absurd ((YW hL V aa).2 ⟨v,t,⟨C,O⟩,h⟩) K
   by_cases Y:Ai 2 (mkL L) (CN u) < (mkL L).length
   .obtain⟨v,t,A,e⟩:=cZ Y;obtain rfl:=ab v t A.1 A.2;have T:BB 2 (mkL L) (CN v) v=mkL L:=by
     unfold BB;rw[decide_eq_true Y];show (mkL L).set (Ai 2 (mkL L) (CN v)) (CN v++v)=mkL L;rw[<-e,ABV,ABC Y];exact List.set_getElem_self Y
    rw[T,QV hL Z aa];constructor
    .intro h a b o r;have E:∀a,a∈L++v::l->a∈L++l:=fun a o=>by
      rcases ABm.1 o with h|h
      .exact ABR _ h
      .rcases List.mem_cons.1 h with rfl|h
       .exact ABR _ t
       .exact ABL _ h
     exact h a b (E a o) (E b r)
    .intro h a b o r;have E:∀a,a∈L++l->a∈L++v::l:=fun a o=>by
      rcases ABm.1 o with h|h
      .exact ABR _ h
      .exact ABL _ (ABH _ h)
     exact h a b (E a o) (E b r)
   .have T:BB 2 (mkL L) (CN u) u=mkL (L++[u]):=by
     unfold BB;rw[decide_eq_false Y];show mkL L++[CN u++u]=_;unfold mkL;rw[ABI];rfl
    have N:∀v∈L,¬(uI v 0=uI u 0/\uI v 1=uI u 1):=fun v t h=>Y (s9.2 ⟨v,t,h⟩);rw[T,QV (L:=L++[u]) (fun x W=>(ABm.1 W).elim (hL x) fun h=>by rw[ABi.1 h];exact V) Z ?_]
    .rw[ABj];rfl
    .intro a b o r z C;rcases ABm.1 o with o|o<;>rcases ABm.1 r with r|r
     .exact aa a b o r z C
     .rw[ABi.1 r] at z C;exact absurd ⟨z,C⟩ (N a o)
     .rw[ABi.1 o] at z C;exact absurd ⟨z.symm,C.symm⟩ (N b r)
     .rw[ABi.1 o,ABi.1 r]
theorem Yu (h:TyB l):EQ l=true↔Gw l:=by
 have:=QV (l:=l) (L:=[]) (fun x r=>by cases r) h (fun u v o=>by cases o);rwa [ACC] at this
def okP (l:U')(p q:Nat):Prop:=uI (l.getD p []) 0=uI (l.getD q []) 0->uI (l.getD p []) 1=uI (l.getD q []) 1->l.getD p []=l.getD q []
theorem ly :Gw l↔∀p q:Nat,q < p->p < l.length->okP l p q:=by
 constructor
 .exact fun h p q C O=>h _ _ (Aq O) (Aq (by omega))
 .intro h u v z A N C;obtain⟨p,r,rfl⟩:=ABy.1 z;obtain⟨q,t,rfl⟩:=ABy.1 A;have E:l.getD p []=l[p]:=by rw[ABV,ABC r];rfl
  have K:l.getD q []=l[q]:=by rw[ABV,ABC t];rfl
  rcases Nat.lt_trichotomy p q with o|o|o
  .have:=h q p o t;unfold okP at this;grind
  .subst o;rfl
  .have:=h p q o r;unfold okP at this;grind
theorem Wc {ah:U'}{j:Nat}(C:TyB l)(O:TyB ah)(Y:i < l.length)(h:j < ah.length):(AJ l i 0=AJ ah j 0/\AJ l i 1=AJ ah j 1/\AJ l i 2=AJ ah j 2/\(FZ l i 3=true↔FZ ah j 3=true)/\Af l i 4=Af ah j 4/\Af l i 5=Af ah j 5/\(FZ l i 6=true↔FZ ah j 6=true)/\AJ l i 7=AJ ah j 7/\AJ l i 8=AJ ah j 8)↔l.getD i []=ah.getD j []:=by
 rw[<-UU (C _ (Aq Y)) (O _ (Aq h))];have b:∀x y:Bool,(x=true↔y=true)↔x=y:=fun x y=>by cases x<;>cases y<;>simp
 unfold D9;simp only[b,AA8,decide_eq_true_eq,and_assoc];exact Iff.rfl
open Classical in
def ddN (D:U')(u:List U):U':=if u∈D then D else D++[u]
def ddS (l:U'):U':=l.foldl ddN []
variable{D l:U'}{u:List U}
theorem ef (h:u∈D):ddN D u=D:=by unfold ddN;rw[ACE h]
theorem Xh (h:¬u∈D):ddN D u=D++[u]:=by unfold ddN;rw[ACD h]
theorem uH {i:Nat}(h:i < l.length):ddS (l.take (i+1))=ddN (ddS (l.take i)) (l.getD i []):=by
 rw[CQ h];unfold ddS;grind
theorem tJ:∀{l D:U'},(l.foldl ddN D).length<=D.length+l.length
 |[],D=>ABB _
 |u::l,D=>by
  rw[List.foldl_cons];have h:=tJ (l:=l) (D:=ddN D u);have O:(ddN D u).length<=D.length+1:=by unfold ddN;split<;>simp
  simp only[ABa];omega
theorem iZ :(ddS l).length<=l.length:=by have:=tJ (l:=l) (D:=[]);unfold ddS;simpa using this
theorem qV:∀{l D:U'} {u:List U},u∈l.foldl ddN D↔u∈D\/u∈l
 |[],D,u=>by simp
 |v::l,D,u=>by
  rw[List.foldl_cons,qV];by_cases h:v∈D
  .rw[ef h];constructor
   .rintro (C|C)
    .exact .inl C
    .exact .inr (ABH _ C)
   .rintro (C|C)
    .exact .inl C
    .rcases List.mem_cons.1 C with rfl|C
     .exact .inl h
     .exact .inr C
  .rw[Xh h,ABm,ABi,List.mem_cons];constructor
   .rintro ((C|C)|C)
    .exact .inl C
    .exact .inr (.inl C)
    .exact .inr (.inr C)
   .rintro (C|C|C)
    .exact .inl (.inl C)
    .exact .inl (.inr C)
    .exact .inr C
theorem ip :u∈ddS l↔u∈l:=by unfold ddS;rw[qV];simp
open Classical in
def HZ (a b:U'):Int:=if¬AM a=0 then AM a else if¬AM b=0 then AM b else if 200 < (ddS (a++b)).length then 6 else if EQ (ddS (a++b))=true then 0 else 12
def JA (a b:U'):U':=if HZ a b=0 then ddS (a++b) else []
variable{l a:U'}{i:Nat}{u:List U}{p:List U->Bool}
theorem HE (h:AM l=0):l.length<=200:=by
 unfold AM at h;grind
theorem vR (h:i < l.length):u∈l.take (i+1)↔u∈l.take i\/l.getD i []=u:=by
 rw[CQ h,ABm,ABi];grind
def Kj (a b:U'):Bool:=decide (a.length=b.length)&&(List.range a.length).all fun j=>D9 (a.getD j []) (b.getD j [])
theorem PY :Kj a a=true:=by
 unfold Kj;rw[AA8,ABb];exact⟨by simp,fun j _=>by unfold D9;simp⟩
theorem tE {b:U'}:Kj a b=true↔(a.length=b.length/\∀j:Nat,j < a.length->D9 (a.getD j []) (b.getD j [])=true):=by
 unfold Kj;grind
theorem UG {ah:U'}{j:Nat}:(AJ l i 0=AJ ah j 0/\AJ l i 1=AJ ah j 1/\AJ l i 2=AJ ah j 2/\(FZ l i 3=true↔FZ ah j 3=true)/\Af l i 4=Af ah j 4/\Af l i 5=Af ah j 5/\(FZ l i 6=true↔FZ ah j 6=true)/\AJ l i 7=AJ ah j 7/\AJ l i 8=AJ ah j 8)↔D9 (l.getD i []) (ah.getD j [])=true:=by
 have b:∀x y:Bool,(x=true↔y=true)↔x=y:=fun x y=>by cases x<;>cases y<;>simp
 unfold D9;simp only[b,AA8,decide_eq_true_eq,and_assoc];exact Iff.rfl
def N9 (u:List U):Bool:=decide (100 < (uS u 0).size)
def KY (u:List U):Bool:=decide (100 < (uS u 4).size)||decide (100 < (uS u 5).size)
def Z9 (p l:U')(h:Int):Bool:=decide (30 < p.length)||(decide (h < l.length)&&decide (l.length<=200))||decide (210 < l.length)||p.any N9||l.any KY
theorem bX :(l++[u]).any p=true↔(l.any p=true\/p u=true):=by simp
theorem zA (h:i < l.length)(o:p (l.getD i [])=true):l.any p=true:=List.any_eq_true.2 ⟨_,Aq h,o⟩
def mkT (L:U'):U':=L.map fun u=>u++[U.bool true]
theorem keyT {v:List U}(o:AL AB KB u)(r:AL AB KB v):BG ((v++[U.bool true]).take 9) u=true↔v=u:=by
 rw[List.take_left' (dh r)];constructor
 .intro h;rw[<-Fq o,<-Fq r] at h⊢;simp only[BG,U.eqv,AA8,decide_eq_true_eq,beq_iff_eq,and_true,Bool.and_true] at h;grind
 .rintro rfl;rw[<-Fq o];simp[BG,U.eqv]
theorem XG {L:U'}(t:TyB L)(o:AL AB KB u):Ai 9 (mkT L) u < (mkT L).length↔u∈L:=by
 unfold Ai;rw[List.findIdx_lt_length];unfold mkT;constructor
 .rintro⟨x,z,h⟩;obtain⟨v,r,rfl⟩:=ACI.1 z;rw[<-(keyT o (t v r)).1 h];exact r
 .exact fun h=>⟨_,ACI.2 ⟨u,h,rfl⟩,(keyT o o).2 rfl⟩
theorem xQ {L:U'}(o:TyB L)(r:AL AB KB u):(CU 9 0 (mkT L) (.bool false) u).toB=true↔u∈L:=by
 unfold CU;by_cases h:Ai 9 (mkT L) u < (mkT L).length
 .rw[decide_eq_true h,cond_true];have O:(mkT L)[Ai 9 (mkT L) u]'h∈mkT L:=AB0 h;obtain⟨v,A,e⟩:=ACI.1 O;have t:(mkT L).getD (Ai 9 (mkT L) u) []=v++[U.bool true]:=by rw[ABV,ABC h];exact e.symm
  rw[t];have C:=dh (o v A);have z:(v++[U.bool true]).getD (9+0) default= .bool true:=by
   grind
  rw[z];exact⟨fun _=>(XG o r).1 h,fun _=>rfl⟩
 .rw[decide_eq_false h,cond_false];exact⟨fun h=>(by cases h),fun O=>absurd ((XG o r).2 O) h⟩
theorem xc {L:U'}(o:TyB L)(r:AL AB KB u)(h:¬u∈L):BB 9 (mkT L) u [.bool true]=mkT (L++[u]):=by
 unfold BB;rw[decide_eq_false fun O=>h ((XG o r).1 O)];show mkT L++[u++[.bool true]]=_;unfold mkT;grind
end
section
structure VO (l:U'):Prop where
 mx:∀r∈AY l,∀v∈l,uI v 0=uI r 0->uI v 1<=uI r 2
 al:∀v∈l,∃r∈AY l,uI r 0=uI v 0
theorem jD {m:U'}{p:List U->Prop}(h:Ll p m){a b:List U}(r:a∈m)(t:b∈m)(e:uI a 0=uI b 0):a=b:=by
 obtain⟨i,Y,rfl⟩:=ABy.1 r;obtain⟨j,o,rfl⟩:=ABy.1 t;rcases Nat.lt_trichotomy i j with C|C|C
 .exact absurd e ((ACG.1 h.once) i j Y o C)
 .subst C;rfl
 .exact absurd e.symm ((ACG.1 h.once) j i o Y C)
variable{l:U'}
theorem lN {u:List U}(h:VO l):VO (l++[u]):=by
 have N:=Gm (l:=l);have a1:∀r∈AY l,∃v∈l,r=U.int (uI v 0)::v:=fun r t=>by
  obtain⟨v,e,A⟩:=N.row r t;exact⟨v,A,e⟩
 have a6:∀ag,AY (l++[u])=ag->(∀r∈ag,∀v∈l++[u],uI v 0=uI r 0->uI v 1<=uI r 2)->(∀v∈l++[u],∃r∈ag,uI r 0=uI v 0)->VO (l++[u]):=fun ag e C O=>⟨by rw[e];exact C,by rw[e];exact O⟩;refine a6 _ Vm ?_ ?_
 all_goals unfold Mf
 .intro r t v A e;by_cases z:Oc (AY l) (uI u 0)
  .have Y:Ai 1 (AY l) [.int (uI u 0)] < (AY l).length:=z;have E:=bw N z;have W:(AY l)[Ai 1 (AY l) [.int (uI u 0)]]'Y∈AY l:=AB0 Y;have ax:W5 (AY l) (uI u 0)=uI ((AY l)[Ai 1 (AY l) [.int (uI u 0)]]'Y) 2:=by
    unfold W5 CU;rw[decide_eq_true Y,cond_true,ABV (l:=AY l),ABC Y];rfl
   split at t
   .rename_i hc;have a9:=hc.resolve_left (fun a=>a z);unfold BB at t;rw[decide_eq_true Y,cond_true] at t;rcases List.mem_or_eq_of_mem_set t with C|C
    .by_cases Z:uI r 0=uI u 0
     .have a5:=jD N C W (Z.trans E.symm);rcases ABm.1 A with O|O
      .exact h.mx r C v O e
      .exfalso;obtain⟨j,V,K⟩:=ABy.1 t;rw[ABr] at V;by_cases T:Ai 1 (AY l) [.int (uI u 0)]=j
       .subst T;rw[List.getElem_set_self] at K;have a7:uI r 2=uI u 1:=by rw[<-K];rfl
        have a8:uI r 2=W5 (AY l) (uI u 0):=by rw[ax,<-a5]
        omega
       .rw[List.getElem_set_ne T] at K;have aw:=ACG.1 N.once;rcases Nat.lt_or_gt_of_ne T with h3|h3
        .exact aw _ _ Y V h3 (by rw[K,Z];exact E)
        .exact aw _ _ V Y h3 (by rw[K,Z];exact E.symm)
     .rcases ABm.1 A with O|O
      .exact h.mx r C v O e
      .rw[ABi.1 O] at e;exact absurd e.symm Z
    .have ab:uI r 0=uI u 0:=by rw[C];rfl
     have ad:uI r 2=uI u 1:=by rw[C];rfl
     rcases ABm.1 A with O|O
     .have:=h.mx _ W v O (by rw[e,ab];exact E.symm);omega
     .rw[ABi.1 O,ad];exact ABt _
   .rename_i hc;rcases ABm.1 A with O|O
    .exact h.mx r t v O e
    .rw[ABi.1 O] at e⊢;have:=jD N t W (e.symm.trans E.symm);rw[this,<-ax];have:¬W5 (AY l) (uI u 0) < uI u 1:=fun a=>hc (.inr a);omega
  .have o:=im N z;rw[ACE (.inl z)] at t;unfold BB at t;rw[decide_eq_false (show¬Ai 1 (AY l) [.int (uI u 0)] < (AY l).length from z),cond_false] at t;rcases ABm.1 t with C|C
   .rcases ABm.1 A with O|O
    .exact h.mx r C v O e
    .rw[ABi.1 O] at e;exact absurd e.symm (o r C)
   .have C:=ABi.1 C;have ab:uI r 0=uI u 0:=by rw[C];rfl
    have ad:uI r 2=uI u 1:=by rw[C];rfl
    rcases ABm.1 A with O|O
    .obtain⟨aK,a4,e2⟩:=h.al v O;exact absurd (e2.trans (e.trans ab)) (o aK a4)
    .rw[ABi.1 O,ad];exact ABt _
 .intro v A;by_cases z:Oc (AY l) (uI u 0)
  .have Y:Ai 1 (AY l) [.int (uI u 0)] < (AY l).length:=z;have E:=bw N z;have W:(AY l)[Ai 1 (AY l) [.int (uI u 0)]]'Y∈AY l:=AB0 Y;have a2:∃r∈AY l,uI r 0=uI v 0:=by
    rcases ABm.1 A with O|O
    .exact h.al v O
    .rw[ABi.1 O];exact⟨_,W,E⟩
   split
   .unfold BB;rw[decide_eq_true Y,cond_true];obtain⟨r,t,e⟩:=a2;obtain⟨j,V,K⟩:=ABy.1 t;refine⟨((AY l).set (Ai 1 (AY l) [.int (uI u 0)]) ([.int (uI u 0)]++u))[j]'(by rw[ABr];exact V),AB0 _,?_⟩;by_cases T:Ai 1 (AY l) [.int (uI u 0)]=j
    .subst T;rw[List.getElem_set_self];show uI u 0=uI v 0;rw[<-e,<-K];exact E.symm
    .rw[List.getElem_set_ne T,K];exact e
   .exact a2
  .rw[ACE (.inl z)];unfold BB;rw[decide_eq_false (show¬Ai 1 (AY l) [.int (uI u 0)] < (AY l).length from z),cond_false];rcases ABm.1 A with O|O
   .obtain⟨r,t,e⟩:=h.al v O;exact⟨r,ABR _ t,e⟩
   .rw[ABi.1 O];exact⟨_,ABL _ (ABi.2 rfl),rfl⟩
theorem Ws {l:U'}:∀n:Nat,n<=l.length->VO (l.take n)
 |0,_=>⟨fun r o=>by simp[AY] at o,fun v t=>by simp at t⟩
 |n+1,h=>by rw[CQ (by omega)];exact lN (Ws n (by omega))
theorem AA4 :VO l:=by have:=Ws (l:=l) l.length (ABB _);rwa [ACA] at this
def cntP (l:U')(i:Nat):Prop:=uB (l.getD i []) 3=false/\∀k,k < l.length->uI (l.getD k []) 0=uI (l.getD i []) 0->¬(uI (l.getD i []) 1 < uI (l.getD k []) 1)/\¬(l.getD k []=l.getD i []/\k < i)
open Classical in
def QN (l:U'):Nat->U'
 |0=>[]
 |n+1=>if cntP l n then QN l n++[l.getD n []] else QN l n
theorem J6 {l:U'}{u:List U}:∀{n:Nat},u∈QN l n↔∃i,i < n/\cntP l i/\l.getD i []=u
 |0=>⟨fun h=>(by cases h),fun⟨i,h,_⟩=>(by omega)⟩
 |n+1=>by
  unfold QN;split
  .rename_i r;rw[ABm,ABi,J6];constructor
   .rintro (⟨i,C,O⟩|h)
    .exact⟨i,by omega,O⟩
    .exact⟨n,by omega,r,h.symm⟩
   .rintro⟨i,C,O,o⟩;by_cases e:i=n
    .subst e;exact .inr o.symm
    .exact .inl ⟨i,by omega,O,o⟩
  .rename_i r;rw[J6];constructor
   .rintro⟨i,C,O⟩;exact⟨i,by omega,O⟩
   .rintro⟨i,C,O,o⟩;exact⟨i,by have:i≠n:=(fun e=>by subst e;exact r O);omega,O,o⟩
theorem LC {l:U'}:∀{n:Nat},n<=l.length->(QN l n).Nodup
 |0,_=>List.nodup_nil
 |n+1,h=>by
  unfold QN;split
  .rename_i A;refine List.nodup_append.2 ⟨LC (by omega),List.nodup_cons.2 ⟨by simp,List.nodup_nil⟩,fun a z b o e=>?_⟩;obtain⟨i,C,O,t⟩:=J6.1 z;have o:=ABi.1 o;have r:l.getD i []=l.getD n []:=by rw[t,e,o]
   exact ((A.2 i (by omega) (by rw[r])).2 ⟨r,C⟩)
  .exact LC (by omega)
variable{l:U'}
theorem jf (aa:Gw l){n:Nat}(z:n<=l.length):Dst ltB (QN l n):=by
 intro a b h o C O;rw[O4] at C O;obtain⟨i,A,r,rfl⟩:=J6.1 h;obtain⟨j,E,t,rfl⟩:=J6.1 o;have K:=(r.2 j (by omega) (by omega)).1;have N:=(t.2 i (by omega) (by omega)).1;exact aa _ _ (Aq (by omega)) (Aq (by omega)) (by omega) (by omega)
theorem YQ (hl:TyB l)(aa:Gw l):Bc ltB (QN l l.length)=Aw l:=by
 unfold Aw;have K:=Gm (l:=l);have hP:=AA4 (l:=l);refine MJ wkB ?_ (jf aa (ABB _));refine (List.perm_ext_iff_of_nodup (LC (ABB _)) ?_).2 fun u=>?_
 .refine List.pairwise_flatMap.2 ⟨fun r t=>?_,K.once.imp_of_mem fun ha hb T=>?_⟩
  .unfold Cs;split<;>simp
  .intro x o y z e;obtain⟨u1,e1,_⟩:=K.row _ ha;obtain⟨u2,e2,_⟩:=K.row _ hb;unfold Cs at o z;split at o
   .cases o
   .split at z
    .cases z
    .have o:=ABi.1 o;have z:=ABi.1 z;rw[e1] at o T;rw[e2] at z T;have e3:u1=u2:=by
      have a1:x=u1:=o;have a2:y=u2:=z;rw[<-a1,<-a2];exact e
     rw[e3] at T;exact T rfl
 .rw[J6,List.mem_flatMap];constructor
  .rintro⟨i,C,O,rfl⟩;obtain⟨r,t,e⟩:=hP.al (l.getD i []) (Aq C);obtain⟨v,aI,V⟩:=K.row r t;have az:=hP.mx r t _ (Aq C) e.symm;have a6:uI r 0=uI v 0:=by rw[aI];rfl
   have a7:uI r 2=uI v 1:=by rw[aI];rfl
   obtain⟨j,N,ad⟩:=ABy.1 V;have ao:l.getD j []=v:=by rw[ABV,ABC N];exact ad
   have al:=(O.2 j N (by rw[ao];omega)).1;rw[ao] at al;have ax:v=l.getD i []:=aa _ _ V (Aq C) (by omega) (by omega);refine⟨r,t,?_⟩;unfold Cs;have Z:uB r 4=uB v 3:=by rw[aI];rfl
   rw[Z,ax,O.1,aI,ax];simp
  .rintro⟨r,t,A⟩;obtain⟨v,aI,V⟩:=K.row r t;unfold Cs at A;have Z:uB r 4=uB v 3:=by rw[aI];rfl
   split at A
   .cases A
   .rename_i hn;have A:=ABi.1 A;have bi:u=v:=by rw[A,aI];rfl
    have a6:uI r 0=uI v 0:=by rw[aI];rfl
    have a7:uI r 2=uI v 1:=by rw[aI];rfl
    have ba:∃i,i < l.length/\l.getD i []=v:=by
     obtain⟨j,N,ad⟩:=ABy.1 V;exact⟨j,N,by rw[ABV,ABC N];exact ad⟩
    have bc:∃i,(i < l.length/\l.getD i []=v)/\∀k,k < i->¬l.getD k []=v:=by
     obtain⟨i,Y⟩:=ba;induction i using Nat.strongRecOn with
     |ind i ih=>
      by_cases o:∃k,k < i/\l.getD k []=v
      .obtain⟨k,k1,E⟩:=o;exact ih k k1 ⟨by omega,E⟩
      .exact⟨i,Y,fun k k1 E=>o ⟨k,k1,E⟩⟩
    obtain⟨i,⟨i1,W⟩,i3⟩:=bc;refine⟨i,i1,⟨?_,fun k hk e=>⟨?_,fun h=>i3 k h.2 (by rw[h.1,W])⟩⟩,by rw[W,bi]⟩
    .rw[W];rw[Z] at hn;simpa using hn
    .rw[W] at e⊢;have:=hP.mx r t _ (Aq hk) (by omega);omega
theorem fT (h:AM l=0):EQ l=true:=by
 unfold AM at h;split at h
 .cases h
 .split at h
  .cases h
  .split at h
   .assumption
   .cases h
end
section
def Az (l:U')(s:ByteArray):Nat:=l.findIdx fun u=>decide (uS u 0=s)
def EN (l:U')(s:ByteArray):Int:=if Az l s < l.length then (Az l s:Int) else -1
def JR (u v:List U):Bool:=decide (uS u 0=uS v 0)&&decide (uI u 1=uI v 1)&&decide (uI u 2=uI v 2)
def Hb (a b:U'):Bool:=decide (a.length=b.length)&&(List.range a.length).all fun j=>JR (a.getD j []) (b.getD j [])
theorem Oh {a:U'}:Hb a a=true:=by
 unfold Hb;rw[AA8,ABb];exact⟨by simp,fun j _=>by unfold JR;simp⟩
theorem nO {a b:U'}:Hb a b=true↔(a.length=b.length/\∀j:Nat,j < a.length->JR (a.getD j []) (b.getD j [])=true):=by
 unfold Hb;rw[AA8,decide_eq_true_eq,ABb];simp only[List.mem_range]
variable{a b g d:Int}{l ah P Q M s:U'}{i j c w x:Nat}{u v:List U}{aW:Type}{I:Bool}
theorem TZ :(Af l i 0=Af ah j 0/\AJ l i 1=AJ ah j 1/\AJ l i 2=AJ ah j 2)↔JR (l.getD i []) (ah.getD j [])=true:=by
 unfold JR;simp only[AA8,decide_eq_true_eq,and_assoc];exact Iff.rfl
def Df (l:U'):Prop:=∀p q:Nat,q < p->p < l.length->¬uS (l.getD p []) 0=uS (l.getD q []) 0
structure wS (l:U'):Prop where
 row:∀r∈BT l,∃s,r=[U.str s,U.bool true]
 has:∀s,Ai 1 (BT l) [.str s] < (BT l).length↔∃v∈l,uS v 0=s
theorem rC (h:wS l):wS (l++[u])/\((BT (l++[u])).length=(BT l).length+(if∃v∈l,uS v 0=uS u 0 then 0 else 1)):=by
 have O:∀(s A:ByteArray),BG (([U.str s,U.bool true]:List U).take 1) [.str A]=true↔s=A:=fun s A=>by
  show BG [U.str s] [U.str A]=true↔_;simp[BG,U.eqv]
 by_cases Y:Ai 1 (BT l) [.str (uS u 0)] < (BT l).length
 .have K:=(h.has _).1 Y;have C:BG (((BT l)[Ai 1 (BT l) [.str (uS u 0)]]'Y).take 1) [.str (uS u 0)]=true:=List.findIdx_getElem (w:=Y);obtain⟨s,aa⟩:=h.row _ (AB0 Y);rw[aa,O] at C;have e:BT (l++[u])=BT l:=by
   rw[Ox];unfold U6 BB;rw[decide_eq_true Y,cond_true];show (BT l).set (Ai 1 (BT l) [.str (uS u 0)]) [U.str (uS u 0),U.bool true]=BT l;rw[<-C,<-aa,C];exact List.set_getElem_self Y
  rw[e,ACE K];refine⟨⟨by rw[e];exact h.row,fun A=>?_⟩,rfl⟩;rw[e,h.has];constructor
  .rintro⟨v,o,t⟩;exact⟨v,ABR _ o,t⟩
  .rintro⟨v,o,t⟩;rcases ABm.1 o with o|o
   .exact⟨v,o,t⟩
   .rw[ABi.1 o] at t;obtain⟨W,V,T⟩:=K;exact⟨W,V,T.trans t⟩
 .have K:¬ ∃v∈l,uS v 0=uS u 0:=fun a=>Y ((h.has _).2 a);have e:BT (l++[u])=BT l++[[U.str (uS u 0),U.bool true]]:=by
   rw[Ox];unfold U6 BB;rw[decide_eq_false Y,cond_false];rfl
  rw[e,ACD K];refine⟨⟨by rw[e];exact fun r z=>(ABm.1 z).elim (h.row r) (fun a=>⟨_,ABi.1 a⟩),fun A=>?_⟩,by simp⟩;have N:=h.has A;unfold Ai at N⊢;rw[List.findIdx_lt_length] at N⊢;rw[e];constructor
  .rintro⟨r,z,E⟩;rcases ABm.1 z with z|z
   .obtain⟨v,o,t⟩:=N.1 ⟨r,z,E⟩;exact⟨v,ABR _ o,t⟩
   .rw[ABi.1 z,O] at E;exact⟨u,ABL _ (ABi.2 rfl),E⟩
  .rintro⟨v,o,t⟩;rcases ABm.1 o with o|o
   .obtain⟨r,z,E⟩:=N.2 ⟨v,o,t⟩;exact⟨r,ABR _ z,E⟩
   .rw[ABi.1 o] at t;exact⟨_,ABL _ (ABi.2 rfl),(O _ _).2 t⟩
theorem Yw {l:U'}:∀n:Nat,n<=l.length->wS (l.take n)/\(Df (l.take n)↔(BT (l.take n)).length=n)
 |0,_=>⟨⟨fun r Z=>by simp[BT] at Z,fun s=>by simp[BT,Ai]⟩,⟨fun _=>by simp[BT],fun _ p q _ o=>by simp at o⟩⟩
 |n+1,h=>by
  obtain⟨C,O⟩:=Yw (l:=l) n (by omega);obtain⟨k1,E⟩:=rC (u:=l.getD n []) C;rw[CQ (by omega)];refine⟨k1,?_⟩;rw[E];have z:(l.take n).length=n:=by rw[ABl];omega
  have Y:=Qa (l:=l.take n);rw[z] at Y;have t:∀p,p < n->((l.take n)++[l.getD n []]).getD p []=(l.take n).getD p []:=fun p o=>by
   rw[ABV,ABO (by omega),<-ABV]
  have a5:((l.take n)++[l.getD n []]).getD n []=l.getD n []:=by
   rw[ABV,ABP (by omega),z];simp
  constructor
  .intro hd;have K:Df (l.take n):=fun p q A o=>by
    rw[z] at o;have:=hd p q A (by rw[ABM,z];simp only[ABa,ABp];omega);rw[t p o,t q (by omega)] at this;exact this
   rw[O.1 K,ACD];rintro⟨v,hv,e⟩;obtain⟨j,W,rfl⟩:=ABy.1 hv;have V:j < n:=by omega
   have:=hd n j V (by rw[ABM,z];simp);rw[a5,t j V,ABV,ABV (l:=l.take n),ABC W] at this;exact this (by rw[ABV] at e;exact e.symm)
  .intro T;by_cases N:∃v∈l.take n,uS v 0=uS (l.getD n []) 0
   .rw[ACE N] at T;omega
   .rw[ACD N] at T;have K:=O.2 (by omega);intro p q A o;rw[ABM,z] at o;simp only[ABa,ABp] at o;by_cases e:p=n
    .subst e;rw[a5,t q A];exact fun a=>N ⟨_,Aq (by omega),a.symm⟩
    .rw[t p (by omega),t q (by omega)];exact K p q A (by omega)
theorem Rx :(BT l).length < l.length↔¬Df l:=by
 have:=(Yw (l:=l) l.length (ABB _)).2;rw[ACA] at this;have h:=Qa (l:=l);rw[this];omega
def Ci (P:U')(i:Nat)(a g:Int):U':=P.set i [.str (Af P i 0),.int a,.int g]
def FX (P:U')(i:Nat)(d:Int):U':=Ci P i (Bd (AJ P i 1) d) (EX (Bd (AJ P i 1) d) (AJ P i 2))
def JC (P:U')(w x:Nat)(I:Bool):U':=
 FX (FX P w (Bg (AJ P w 1) (AJ P x 1) I)) x (-Bg (AJ P w 1) (AJ P x 1) I)
theorem rowP (h:∀u∈P,AL AB KP u)(Y:i < P.length):P.getD i []=[.str (Af P i 0),.int (AJ P i 1),.int (AJ P i 2)]:=by
 have e:P.getD i []=P[i]:=by rw[ABV,ABC Y];rfl
 have:=AAZ (h P[i] (AB0 Y));unfold Af AJ;rw[e];exact this.symm
theorem v8 :(Ci P i a g).length=P.length:=by unfold Ci;simp
theorem VA (Y:i < P.length):(Ci P i a g).getD i []=[.str (Af P i 0),.int a,.int g]:=by
 unfold Ci;rw[ABV,ACB];simp[Y]
theorem oF (h:¬j=i):(Ci P i a g).getD j []=P.getD j []:=by
 unfold Ci;rw[ABV,ACB,ACD (fun e=>h e.symm),ABV]
theorem SJ (Y:i < P.length):AJ (Ci P i a g) i 1=a:=by
 show ((_:List U).getD 1 default).toI=_;rw[VA Y];rfl
theorem O1 (Y:i < P.length):AJ (Ci P i a g) i 2=g:=by
 show ((_:List U).getD 2 default).toI=_;rw[VA Y];rfl
theorem set1 (h:∀u∈P,AL AB KP u)(Y:i < P.length):B7 P i 1 [.int a]=Ci P i a (AJ P i 2):=by
 unfold B7 Ci;rw[rowP h Y];rfl
theorem kV (Y:i < P.length){k:Int}:B7 (Ci P i a g) i 2 [.int k]=Ci P i a k:=by
 show (Ci P i a g).set i _=_;rw[VA Y];show (P.set i _).set i [.str (Af P i 0),.int a,.int k]=_;rw[List.set_set];rfl
theorem Wx :(FX P i d).length=P.length:=v8
theorem NK (h:¬j=i):(FX P i d).getD j []=P.getD j []:=oF h
theorem Gu (h:P.getD i []=Q.getD j []):AJ P i c=AJ Q j c:=by unfold AJ;rw[h]
def Em (a b:ByteArray):Int:=Lib.compareBytes a.data.toList b.data.toList
theorem jj:∀(a b:List UInt8),-1<=Lib.compareBytes a b/\Lib.compareBytes a b<=1
 |[],[]=>by decide
 |[],_::_=>by simp[Lib.compareBytes]
 |_::_,[]=>by simp[Lib.compareBytes]
 |a::al,b::bl=>by
  simp only[Lib.compareBytes];split
  .exact⟨ABt _,by decide⟩
  .split
   .exact⟨by decide,ABt _⟩
   .exact jj al bl
theorem yQ (a b:ByteArray): -1<=Em a b/\Em a b<=1:=jj _ _
theorem YZ:∀(a b:List UInt8),Lib.compareBytes a b=0↔a=b
 |[],[]=>by simp[Lib.compareBytes]
 |[],_::_=>by simp[Lib.compareBytes]
 |_::_,[]=>by simp[Lib.compareBytes]
 |a::al,b::bl=>by
  simp only[Lib.compareBytes,List.cons.injEq];have o:∀x y:UInt8,¬x < y->¬y < x->x=y:=fun x y C O=>UInt8.le_antisymm (UInt8.not_lt.1 O) (UInt8.not_lt.1 C);split
  .rename_i h;exact⟨fun e=>by simp at e,fun e=>absurd h (by rw[e.1];exact UInt8.lt_irrefl _)⟩
  .rename_i h;split
   .rename_i O;exact⟨fun e=>by simp at e,fun e=>absurd O (by rw[e.1];exact UInt8.lt_irrefl _)⟩
   .rename_i O;rw[YZ al bl];exact⟨fun e=>⟨o a b h O,e⟩,fun e=>e.2⟩
theorem Ib (a b:ByteArray):Em a b=0↔a=b:=by
 unfold Em;rw[YZ];constructor
 .intro h;obtain⟨⟨x⟩⟩:=a;obtain⟨⟨y⟩⟩:=b;simp at h;rw[h]
 .intro h;rw[h]
theorem Yx:∀(a b:List UInt8),Lib.compareBytes b a= -Lib.compareBytes a b
 |[],[]=>rfl
 |[],_::_=>rfl
 |_::_,[]=>rfl
 |a::al,b::bl=>by
  simp only[Lib.compareBytes];by_cases C:a < b
  .have O:¬b < a:=fun h=>absurd (UInt8.lt_trans C h) (UInt8.lt_irrefl _);simp[C,O]
  .by_cases O:b < a
   .simp[C,O]
   .simp[C,O,Yx al bl]
theorem LT (a b:ByteArray):Em b a= -Em a b:=Yx _ _
theorem WR:∀(a b c:List UInt8),Lib.compareBytes a b < 0->Lib.compareBytes b c < 0->Lib.compareBytes a c < 0
 |[],[],_,h,_=>by simp[Lib.compareBytes] at h
 |_::_,[],_,h,_=>by simp[Lib.compareBytes] at h
 |_,_::_,[],_,h=>by simp[Lib.compareBytes] at h
 |[],_::_,_::_,_,_=>by simp[Lib.compareBytes]
 |a::al,b::bl,c::a4,C,O=>by
  simp only[Lib.compareBytes] at C O⊢;by_cases t:a < b
  .by_cases o:b < c
   .simp[UInt8.lt_trans t o]
   .by_cases r:c < b
    .simp[o,r] at O
    .have:b=c:=UInt8.le_antisymm (UInt8.not_lt.1 r) (UInt8.not_lt.1 o);subst this;simp[t]
  .by_cases o:b < a
   .simp[t,o] at C
   .have:a=b:=UInt8.le_antisymm (UInt8.not_lt.1 o) (UInt8.not_lt.1 t);subst this;by_cases r:a < c
    .simp[r]
    .by_cases z:c < a
     .simp[r,z] at O
     .simp only[t,o,r,z,if_false] at C O⊢;exact WR al bl a4 C O
theorem nf {a b c:ByteArray}(C:Em a b < 0)(O:Em b c < 0):Em a c < 0:=WR _ _ _ C O
def plN (aG h av t:Int)(aF:ByteArray)(r o aB aZ:Int)(z:ByteArray):Int:=
 if¬aG=r then BV r aG else if¬h=o then BV o h else if¬av=aB then BV aB av else if¬t=aZ then BV aZ t else Em aF z
def plR (aG h av z:Int)(aF:ByteArray)(t o aB aZ:Int)(r:ByteArray):Int:=
 if¬aG=t then 1 else if¬h=o then 2 else if¬av=aB then 3 else if¬z=aZ then 4 else if aF=r then 0 else 5
theorem Bw :BV a b=0↔a=b:=by
 unfold BV;split
 .omega
 .split<;>omega
def KS:List Kd:=[.str,.int .i64 IntKind.i64.min IntKind.i64.max,.int .i64 IntKind.i64.min IntKind.i64.max,.int .i64 IntKind.i64.min IntKind.i64.max,.int .i64 IntKind.i64.min IntKind.i64.max,.int .i64 IntKind.i64.min IntKind.i64.max]
theorem tH (h:AL AB KS u):[U.str (uS u 0),.int (uI u 1),.int (uI u 2),.int (uI u 3),.int (uI u 4),.int (uI u 5)]=u:=by
 obtain⟨_,_,rfl,⟨_,rfl,_⟩,_,_,rfl,⟨_,rfl,_⟩,_,_,rfl,⟨_,rfl,_⟩,_,_,rfl,⟨_,rfl,_⟩,_,_,rfl,⟨_,rfl,_⟩,_,_,rfl,⟨_,rfl,_⟩,h⟩:=h;rw[show _=[] from h];rfl
theorem lenT (h:AL AB KS u):u.length=6:=by rw[<-tH h];rfl
theorem Nh (aa:∀u∈l,AL AB KS u)(Y:i < l.length)(h:AL AB KS v):
  B7 l i 0 [U.str (uS v 0),.int (uI v 1),.int (uI v 2),.int (uI v 3),.int (uI v 4),.int (uI v 5)]=l.set i v:=by
 rw[tH h];exact Sc (by rw[lenT (aa _ (Aq Y)),lenT h])
def ew (u v:List U):Int:=plN (uI u 1) (uI u 3) (uI u 4) (uI u 5) (uS u 0) (uI v 1) (uI v 3) (uI v 4) (uI v 5) (uS v 0)
def ltT (u v:List U):Bool:=decide (ew u v < 0)
def Ax {aW:Type}(f:Nat->aW->aW):Nat->aW->aW
 |0,x=>x
 |n+1,x=>f n (Ax f n x)
theorem Gc {aW:Type}{f:Nat->aW->aW}{x:aW}(p:Nat->aW->Prop)(h:p 0 x)(aa:∀n y,p n y->p (n+1) (f n y)):∀n,p n (Ax f n x)
 |0=>h
 |n+1=>aa n _ (Gc p h aa n)
def E2 (P:U')(i:Nat)(m:U'):U':=BB 1 m [.str (Af P i 0)] [.int i]
def BQ (P:U'):U':=Ax (E2 P) P.length []
def NP (m:U')(s:ByteArray):Prop:=Ai 1 m [.str s] < m.length
instance (m:U')(s:ByteArray):Decidable (NP m s):=by unfold NP;infer_instance
def Bx (m:U')(s:ByteArray):Int:=(CU 1 0 m (.int 0) [.str s]).toI
def wN (B:U')(k:Nat):List U:=[.int (AJ B k 0),.int (AJ B k 1),.int (AJ B k 2),.bool (FZ B k 3),.str (Af B k 4),.str (Af B k 5),.bool (FZ B k 6),.int (AJ B k 7),.int (AJ B k 8)]
def Cl (M B:U')(k:Nat)(g:U'):U':=if NP M (Af B k 4)/\NP M (Af B k 5) then g++[wN B k] else g
def JW (M B:U'):U':=Ax (Cl M B) B.length []
def HT (P:U')(k:Nat)(s:U'):U':=B7 s k 0 [.str (Af P k 0)]
def st0 (P:U'):U':=Ax (HT P) P.length (List.replicate P.length [.str ByteArray.empty,.int 0,.int 0,.int 0,.int 0,.int 0])
abbrev w64 (n:Int):Int:=IntKind.i64.wrap n
def OU (s:U')(j:Int)(c:Nat)(v:Int):U':=B7 s j.toNat c [.int (w64 (AJ s j.toNat c+v))]
def tY (s:U')(j:Int)(c:Nat)(v:Int):U':=B7 s j.toNat c [.int (w64 (AJ s j.toNat c - v))]
def Nk (a b:Int)(G:U')(k:Nat):Prop:=a<=AJ G k 2/\AJ G k 2 < b
instance (a b:Int)(G:U')(k:Nat):Decidable (Nk a b G k):=by unfold Nk;infer_instance
def Sf (M G:U')(a b:Int)(k:Nat)(s:U'):U':=
 if Nk a b G k then OU (OU s (Bx M (Af G k 4)) 1 1) (Bx M (Af G k 5)) 2 1 else s
def inF (G:U')(a b:Int)(k:Nat)(g:U'):U':=if Nk a b G k then g++[wN G k] else g
def kY (G:U')(a b:Int):U':=Ax (inF G a b) G.length []
def bT (s:U')(w x n:Int):U':=tY (OU s w 4 n) x 4 n
def fS (s:U')(w x:Int):U':=OU s w 5 (AJ s x.toNat 1)
def kR (s:U')(w x:Int):U':=if AJ s w.toNat 1=AJ s x.toNat 1 then OU s w 3 1 else s
def Rn (M G:U')(k:Nat)(s:U'):U':=
 kR (fS (bT s (Bx M (Af G k 4)) (Bx M (Af G k 5)) (w64 (AJ G k 7 - AJ G k 8))) (Bx M (Af G k 4)) (Bx M (Af G k 5))) (Bx M (Af G k 4)) (Bx M (Af G k 5))
def PK (P G:U')(a b:Int):U':=
 Ax (Rn (BQ P) (kY G a b)) (kY G a b).length (Ax (Sf (BQ P) G a b) G.length (st0 P))
def HV (a b:Int):Int:=if a < 0\/b < a\/1099511627776 < b then 3 else 0
def Mu (P L:U'):U':=JW (BQ P) (Aw L)
def I7 (P L:U')(a b:Int):U':=if HV a b=0 then Bc ltT (PK P (Mu P L) a b) else []
theorem yB (n:Nat):∀r∈Ax (E2 P) n [],∃s,∃j:Nat,r=[.str s,.int j]/\j < n:=by
 refine Gc (p:=fun n m=>∀r∈m,∃s,∃j:Nat,r=[U.str s,.int j]/\j < n) (fun r h=>by cases h) (fun n m t r o=>?_) n;have C:r∈m\/r=[U.str (Af P n 0),.int n]:=by
  unfold E2 BB at o;cases hd:decide (Ai 1 m [.str (Af P n 0)] < m.length) with
  |true=>
   rw[hd] at o;rcases List.mem_or_eq_of_mem_set o with h|h
   .exact .inl h
   .exact .inr h
  |false=>
   rw[hd] at o;simpa using o
 rcases C with C|C
 .obtain⟨s,j,h,z⟩:=t r C;exact⟨s,j,h,by omega⟩
 .exact⟨_,n,C,by omega⟩
theorem yn {n:Nat}(s:ByteArray):0<=Bx (Ax (E2 P) n []) s/\(0 < n->Bx (Ax (E2 P) n []) s < n):=by
 unfold Bx CU;cases hd:decide (Ai 1 (Ax (E2 P) n []) [.str s] < (Ax (E2 P) n []).length) with
 |false=>exact⟨ABt 0,fun h=>by show (0:Int) < _;omega⟩
 |true=>
  have Y:=of_decide_eq_true hd;obtain⟨t,j,h,o⟩:=yB n _ (AB0 Y);have e:(Ax (E2 P) n []).getD (Ai 1 (Ax (E2 P) n []) [.str s]) []=[.str t,.int j]:=by
   rw[ABV,ABC Y];exact h
  rw[e];show 0<=(j:Int)/\(0 < n->(j:Int) < n);omega
theorem jQ (s:ByteArray):0<=Bx (BQ P) s/\(0 < P.length->Bx (BQ P) s < P.length):=yn s
theorem qU {B:U'}(n:Nat):P.length=0->Ax (Cl (BQ P) B) n []=[]:=fun h=>by
 refine Gc (p:=fun _ g=>g=[]) rfl (fun n g o=>?_) n;have:BQ P=[]:=by unfold BQ;rw[h];rfl
 unfold Cl NP;rw[this,o];simp
theorem vG {L:U'}(h:0 < (Mu P L).length):0 < P.length:=by
 rcases AB1 P.length with o|o
 .unfold Mu JW at h;rw[qU _ o] at h;simp at h
 .exact o
theorem Ub {f:Nat->List aW->List aW}(h:∀k g,(f k g).length<=g.length+1)(n:Nat):(Ax f n []).length<=n:=
 Gc (p:=fun n (g:List aW)=>g.length<=n) (by simp) (fun n g o=>by have:=h n g;omega) n
theorem Nb {B:U'}(n:Nat):(Ax (Cl M B) n []).length<=n:=Ub (fun k g=>by unfold Cl;split<;>simp) n
theorem rD {G:U'}(n:Nat):(Ax (inF G a b) n []).length<=n:=Ub (fun k g=>by unfold inF;split<;>simp) n
theorem MK :(B7 l i c v).length=l.length:=by unfold B7;simp
theorem Si {f:Nat->List aW->List aW}{x:List aW}(h:∀k g,(f k g).length=g.length)(n:Nat):(Ax f n x).length=x.length:=
 Gc (p:=fun n (g:List aW)=>g.length=x.length) rfl (fun n g o=>by rw[h,o]) n
theorem yA :(st0 P).length=P.length:=by unfold st0;exact (Si (f:=HT P) (fun k g=>MK) _).trans (by simp)
theorem yO {G:U'}(n:Nat):(Ax (Sf M G a b) n s).length=s.length:=Si (fun k g=>by unfold Sf OU;split<;>simp[MK]) n
theorem xJ {G:U'}(n:Nat):(Ax (Rn M G) n s).length=s.length:=Si (fun k g=>by unfold Rn kR fS bT OU tY;split<;>simp[MK]) n
theorem qH {G:U'}:(PK P G a b).length=P.length:=by unfold PK;rw[xJ,yO,yA]
theorem jX (n:Nat):(Ax (E2 P) n []).length<=n:=Ub (fun k g=>Q4) n
theorem UV :HV a b=0↔¬(a < 0\/b < a\/1099511627776 < b):=by
 unfold HV;split
 .rename_i h;exact⟨fun e=>by omega,fun e=>absurd h e⟩
 .rename_i h;exact⟨fun _=>h,fun _=>rfl⟩
def upK {aW:Type}(f:aW->List U->aW)(L:U'):Nat->aW->aW
 |0,x=>x
 |n+1,x=>f (upK f L n x) (L.getD n [])
theorem dL {aW:Type}{f:aW->List U->aW}{u:List U}{L:U'}{x:aW}:∀n,upK f (u::L) (n+1) x=upK f L n (f x u)
 |0=>rfl
 |n+1=>by
  show f (upK f (u::L) (n+1) x) (L.getD n [])=f (upK f L n (f x u)) (L.getD n []);rw[dL n]
theorem XN {aW:Type}{f:aW->List U->aW}:∀(L:U') (x:aW),upK f L L.length x=L.foldl f x
 |[],x=>rfl
 |u::L,x=>by rw[ABa,dL,XN L];rfl
theorem Dv (h:i < P.length):P.getD i []=P[i]:=by rw[ABV,ABC h];rfl
def nmL (P:U'):List ByteArray:=P.map fun u=>uS u 0
theorem Rq :(nmL P).length=P.length:=by unfold nmL;simp
theorem NW (h:i < P.length):(nmL P)[i]? =some (Af P i 0):=by
 unfold nmL Af;rw[ABg,ABC h,Dv h];rfl
theorem pW :nmL (Ci P i a g)=nmL P:=by
 unfold Ci;rcases ABN i P.length with h|h
 .have e:=NW h;unfold nmL at*;rw[List.map_set];show (P.map _).set i (Af P i 0)=_;refine List.ext_getElem? fun j=>?_;rw[ACB];split
  .rename_i o;subst o;rw[ACE (by simpa using h),e]
  .rfl
 .rw[List.set_eq_of_length_le h]
theorem xG :nmL (JC P w x I)=nmL P:=by unfold JC FX;rw[pW,pW]
theorem US {s:ByteArray}:Az P s=(nmL P).findIdx fun t=>decide (t=s):=by
 unfold Az nmL;rw[List.findIdx_map];rfl
theorem tV (h:nmL P=nmL Q)(s:ByteArray):Az P s=Az Q s:=by rw[US,US,h]
theorem JX (h:nmL P=nmL Q):P.length=Q.length:=by rw[<-Rq,h,Rq]
theorem dw (h:nmL P=nmL Q)(s:ByteArray):EN P s=EN Q s:=by
 unfold EN;rw[tV h,JX h]
theorem bg {s:ByteArray}(h:Az P s < P.length):Af P (Az P s) 0=s:=by
 have:=List.findIdx_getElem (xs:=P) (p:=fun u=>decide (uS u 0=s)) (w:=h);unfold Af;rw[Dv h];exact of_decide_eq_true this
theorem dI {s:ByteArray}:¬EN P s < 0↔Az P s < P.length:=by
 unfold EN;split<;>omega
theorem cm {s:ByteArray}(h:Az P s < P.length):EN P s=Az P s:=by unfold EN;rw[ACE h]
theorem IF {s t:ByteArray}(h:Az P s < P.length)(O:Az P t < P.length)(o:¬s=t):¬Az P s=Az P t:=fun e=>o (by rw[<-bg h,<-bg O,e])
theorem Wf {P:U'}(hd:Df P):∀n,n<=P.length->Ax (E2 P) n []=(List.range n).map fun j=>[U.str (Af P j 0),U.int j]
 |0,_=>rfl
 |n+1,h=>by
  show E2 P n (Ax (E2 P) n [])=_;rw[Wf hd n (by omega),List.range_succ,ABI];unfold E2 BB;have A:Ai 1 ((List.range n).map fun j=>[U.str (Af P j 0),U.int j]) [.str (Af P n 0)]=n:=by
   have:¬Ai 1 ((List.range n).map fun j=>[U.str (Af P j 0),U.int j]) [.str (Af P n 0)] < ((List.range n).map fun j=>[U.str (Af P j 0),U.int j]).length:=fun t=>by
    unfold Ai at t;rw[List.findIdx_lt_length] at t;obtain⟨r,C,e⟩:=t;obtain⟨j,o,rfl⟩:=ACI.1 C;have o:=List.mem_range.1 o;have z:Af P j 0=Af P n 0:=by
     have:BG [U.str (Af P j 0)] [.str (Af P n 0)]=true:=e;simpa [BG,U.eqv] using this
    exact hd n j o (by omega) z.symm
   have O:Ai 1 ((List.range n).map fun j=>[U.str (Af P j 0),U.int j]) [.str (Af P n 0)]<=((List.range n).map fun j=>[U.str (Af P j 0),U.int j]).length:=List.findIdx_le_length;simp only[List.length_map,List.length_range] at this O;omega
  rw[A];simp
theorem rV (hd:Df P){s:ByteArray}:Ai 1 (BQ P) [.str s]=Az P s:=by
 unfold BQ;rw[Wf hd _ (ABB _)];unfold Ai;rw[List.findIdx_map,US];have e:nmL P=(List.range P.length).map fun j=>Af P j 0:=by
  refine List.ext_getElem? fun j=>?_;rcases ABN j P.length with h|h
  .rw[NW h];simp[h]
  .rw[ABf (by rw[Rq];exact h),ABf (by simpa using h)]
 rw[e,List.findIdx_map];congr 1;funext j;show BG [U.str (Af P j 0)] [.str s]=decide (Af P j 0=s);simp[BG,U.eqv]
theorem Wd (hd:Df P):(BQ P).length=P.length:=by unfold BQ;rw[Wf hd _ (ABB _)];simp
theorem MW (hd:Df P){s:ByteArray}:NP (BQ P) s↔Az P s < P.length:=by
 unfold NP;rw[rV hd,Wd hd]
theorem Cy (hd:Df P){s:ByteArray}(h:Az P s < P.length):Bx (BQ P) s=Az P s:=by
 unfold Bx CU;rw[rV hd,Wd hd,decide_eq_true h];have:(BQ P).getD (Az P s) []=[U.str (Af P (Az P s) 0),U.int (Az P s)]:=by
  unfold BQ;rw[Wf hd _ (ABB _),ABV];simp[h]
 rw[this];rfl
def OkR (P:U'):Prop:=∀i,i < P.length-> -10000<=AJ P i 1/\AJ P i 1<=10000/\ -12<=AJ P i 2/\AJ P i 2<=48
theorem xC (h:OkR P):OkR (FX P i d):=fun j o=>by
 rw[Wx] at o;by_cases e:j=i
 .subst e;have:=h j o;have a:=wK (AJ P j 1) d;have b:=wq (x:=Bd (AJ P j 1) d) this.2.2.1 this.2.2.2;unfold FX;rw[SJ o,O1 o];omega
 .rw[Gu (c:=1) (NK e),Gu (c:=2) (NK e)];exact h j o
theorem AAi (h:OkR P):OkR (JC P w x I):=xC (xC h)
theorem H4 (h:AS P=0):OkR P/\Df P/\P.length<=24:=by
 unfold AS at h;split at h
 .omega
 split at h
 .omega
 split at h
 .omega
 rename_i C O o;have O:=ABb.1 (ABq O);refine⟨fun i Y=>?_,Classical.not_not.1 fun e=>o (Rx.2 e),by omega⟩;have:=O _ (AB0 Y);unfold Cc at this;rw[Fr] at this;have e:∀c,AJ P i c=uI P[i] c:=fun c=>by unfold AJ;rw[Dv Y];rfl
 rw[e,e];omega
def ctU (M:U')(s:U')(u:List U):U':=JC s (Bx M (uS u 4)).toNat (Bx M (uS u 5)).toNat (uB u 6)
def rfU (s:U')(u:List U):U':=
 if EN s (uS u 4) < 0\/EN s (uS u 5) < 0 then s else JC s (EN s (uS u 4)).toNat (EN s (uS u 5)).toNat (uB u 6)
def VR (P:U')(u:List U):Prop:=Az P (uS u 4) < P.length/\Az P (uS u 5) < P.length/\¬uS u 4=uS u 5
theorem Qj {P B:U'}(hd:Df P)(r:∀u∈B,¬uS u 4=uS u 5):∀n,n<=B.length->∀u∈Ax (Cl (BQ P) B) n [],VR P u
 |0,_,u,o=>by cases o
 |n+1,h,u,o=>by
  have o:u∈Cl (BQ P) B n (Ax (Cl (BQ P) B) n []):=o;unfold Cl at o;split at o
  .rename_i t;rcases ABm.1 o with C|C
   .exact Qj hd r n (by omega) u C
   .rw[ABi.1 C];refine⟨(MW hd).1 t.1,(MW hd).1 t.2,?_⟩;have:=r _ (AB0 (show n < B.length by omega));show¬Af B n 4=Af B n 5;unfold Af;rw[Dv (by omega)];exact this
  .exact Qj hd r n (by omega) u o
theorem OI {M G P:U'}:∀n,nmL (upK (ctU M) G n P)=nmL P
 |0=>rfl
 |n+1=>xG.trans (OI n)
theorem LW {M G P:U'}(h:OkR P):∀n,OkR (upK (ctU M) G n P)
 |0=>h
 |n+1=>AAi (LW h n)
theorem nq {B P:U'}:∀n,nmL (upK rfU B n P)=nmL P
 |0=>rfl
 |n+1=>by
  have e:∀s u,nmL (rfU s u)=nmL s:=fun s u=>by unfold rfU;split;rfl;exact xG
  exact (e _ _).trans (nq n)
theorem xH {P B:U'}(hd:Df P):∀n,(Ax (Cl (BQ P) B) n []).foldl (ctU (BQ P)) P=upK rfU B n P
 |0=>rfl
 |n+1=>by
  have A:=xH (B:=B) hd n;show (Cl (BQ P) B n _).foldl _ P=rfU (upK rfU B n P) (B.getD n []);have r:=dw (nq (B:=B) (P:=P) n) (Af B n 4);have t:=dw (nq (B:=B) (P:=P) n) (Af B n 5);by_cases o:NP (BQ P) (Af B n 4)/\NP (BQ P) (Af B n 5)
  .have C:=(MW hd).1 o.1;have E:=(MW hd).1 o.2;have K:=cm C;have N:=cm E;rw[show Cl (BQ P) B n (Ax (Cl (BQ P) B) n [])=Ax (Cl (BQ P) B) n []++[wN B n] from ACE o,List.foldl_append,A];refine Eq.trans ?_ (ACD (by show¬(EN (upK rfU B n P) (Af B n 4) < 0\/EN (upK rfU B n P) (Af B n 5) < 0);rw[r,t,K,N];omega)).symm;show JC (upK rfU B n P) (Bx (BQ P) (Af B n 4)).toNat (Bx (BQ P) (Af B n 5)).toNat (FZ B n 6)=JC (upK rfU B n P) (EN (upK rfU B n P) (Af B n 4)).toNat (EN (upK rfU B n P) (Af B n 5)).toNat (FZ B n 6);rw[r,t,K,N,Cy hd C,Cy hd E]
  .rw[show Cl (BQ P) B n (Ax (Cl (BQ P) B) n [])=Ax (Cl (BQ P) B) n [] from ACD o,A];refine (ACE ?_).symm;show EN (upK rfU B n P) (Af B n 4) < 0\/EN (upK rfU B n P) (Af B n 5) < 0;rw[r,t];rw[MW hd,MW hd] at o;rcases ABN (Az P (Af B n 4)) P.length with z|z
   .right;have O:¬Az P (Af B n 5) < P.length:=fun h=>o ⟨z,h⟩;exact ABq fun e=>O (dI.1 e)
   .left;exact ABq fun e=>by have:=dI.1 e;omega
theorem tj {L:U'}(h:AM L=0):∀u∈Aw L,¬uS u 4=uS u 5:=fun u t=>by
 have A:u∈L:=by
  unfold Aw at t;rw[N5] at t;obtain⟨r,K,C⟩:=List.mem_flatMap.1 t;obtain⟨v,N,E⟩:=(Gm (l:=L)).row r K;unfold Cs at C;split at C
  .cases C
  .rw[N] at C;have:u=v:=by simpa using C
   rw[this];exact E
 unfold AM at h;split at h
 .omega
 split at h
 .omega
 rename_i O;have o:=ABb.1 (ABq O) u A;unfold C6 Fp at o;have o:=of_decide_eq_true o;split at o
 .rename_i z;simp only[AA8,Bool.not_eq_true',decide_eq_false_iff_not] at z;exact z.1.1.1.2
 .omega
def Cw (P L:U'):U':=(Aw L).foldl rfU P
theorem gb {L:U'}(hd:Df P):upK (ctU (BQ P)) (JW (BQ P) (Aw L)) (JW (BQ P) (Aw L)).length P=Cw P L:=by
 rw[XN];unfold JW Cw;rw[xH hd,XN]
def kO (l:U')(u:List U):Prop:=u∈l/\uB u 3=false/\∀v∈l,uI v 0=uI u 0->uI v 1<=uI u 1
theorem sw :u∈QN l l.length↔kO l u:=by
 have z:∀v∈l,∃j,j < l.length/\l.getD j []=v:=fun v o=>by
  obtain⟨j,A,T⟩:=ABy.1 o;exact⟨j,A,by rw[Dv A];exact T⟩
 rw[J6];constructor
 .rintro⟨i,C,O,rfl⟩;refine⟨Aq C,O.1,fun v o e=>?_⟩;obtain⟨k,h,rfl⟩:=z v o;have:=(O.2 k h e).1;omega
 .rintro⟨C,O,N⟩;have V:∃i,(i < l.length/\l.getD i []=u)/\∀k,k < i->¬l.getD k []=u:=by
   obtain⟨i,Y⟩:=z u C;induction i using Nat.strongRecOn with
   |ind i ih=>
    by_cases K:∃k,k < i/\l.getD k []=u
    .obtain⟨k,t,E⟩:=K;exact ih k t ⟨by omega,E⟩
    .exact⟨i,Y,fun k t E=>K ⟨k,t,E⟩⟩
  obtain⟨i,⟨W,r⟩,Z⟩:=V;refine⟨i,W,⟨by rw[r];exact O,fun k h e=>?_⟩,r⟩;rw[r] at e⊢;have:=N _ (Aq h) e;exact⟨by omega,fun a=>Z k a.2 a.1⟩
theorem pF {m:U'}(o:TyB l)(aa:Gw l)(r:TyB m)(t:Gw m)(h:∀u,kO l u↔kO m u):Aw l=Aw m:=by
 rw[<-YQ o aa,<-YQ r t];refine MJ wkB ((List.perm_ext_iff_of_nodup (LC (ABB _)) (LC (ABB _))).2 fun u=>?_) (jf aa (ABB _));rw[sw,sw];exact h u
theorem pu {m:U'}(t:TyB l)(aa:Gw l)(h:∀u,u∈l↔u∈m):Aw l=Aw m:=
 pF t aa (fun u r=>t u ((h u).2 r)) (fun u v r o=>aa u v ((h u).2 r) ((h v).2 o)) fun u=>by
  unfold kO;rw[h u];exact and_congr_right fun _=>and_congr_right fun _=>⟨fun a v o=>a v ((h v).2 o),fun a v o=>a v ((h v).1 o)⟩
theorem Qu (r:TyB l):AM l=0↔(l.length<=200/\(∀u∈l,C6 u=true)/\Gw l):=by
 unfold AM;rw[<-Yu r,<-ABb];split
 .exact⟨fun h=>by omega,fun h=>by omega⟩
 .split
  .rename_i h;exact⟨fun h=>by omega,fun a=>absurd a.2.1 h⟩
  .rename_i C O;split
   .rename_i o;exact⟨fun _=>⟨by omega,ABq O,o⟩,fun _=>rfl⟩
   .rename_i o;exact⟨fun h=>by omega,fun a=>absurd a.2.2 o⟩
theorem PW {m:U'}(t:TyB l)(h:AM l=0)(r:∀u∈m,u∈l)(A:m.length<=200):TyB m/\AM m=0:=by
 obtain⟨a,b,c⟩:=(Qu t).1 h;have z:TyB m:=fun u o=>t u (r u o);exact⟨z,(Qu z).2 ⟨A,fun u o=>b u (r u o),fun u v o C=>c u v (r u o) (r v C)⟩⟩
theorem XY :ltT u v=true↔(uI v 1 < uI u 1\/(uI u 1=uI v 1/\(uI v 3 < uI u 3\/(uI u 3=uI v 3/\(uI v 4 < uI u 4\/(uI u 4=uI v 4/\(uI v 5 < uI u 5\/(uI u 5=uI v 5/\Em (uS u 0) (uS v 0) < 0)))))))):=by
 unfold ltT ew plN;rw[decide_eq_true_eq];split
 .rw[Jr];omega
 .split
  .rw[Jr];omega
  .split
   .rw[Jr];omega
   .split
    .rw[Jr];omega
    .omega
theorem zQ {a b c:ByteArray}(C:¬Em b a < 0)(O:¬Em c b < 0):¬Em c a < 0:=fun h=>by
 have t:=LT a b;have z:=LT b c;have A:=LT a c;by_cases o:Em a b=0
 .rw[(Ib a b).1 o] at h;exact O h
 .by_cases r:Em b c=0
  .rw[<-(Ib b c).1 r] at h;exact C h
  .have:=nf (a:=a) (b:=b) (c:=c) (by omega) (by omega);omega
theorem wkT:WkO ltT where
 asym:=fun a b h=>by
  have:=LT (uS a 0) (uS b 0);rw[XY] at h⊢;omega
 tr:=fun a b c C O=>by
  rw[XY] at C O⊢;have:=@zQ (uS a 0) (uS b 0) (uS c 0);omega
theorem ut (C:¬ltT u v=true)(O:¬ltT v u=true):uS u 0=uS v 0:=by
 have:=LT (uS u 0) (uS v 0);rw[XY] at C O;rw[<-Ib];omega
structure StN (P s:U'):Prop where
 six:∀r∈s,r.length=6
 nm:nmL s=nmL P
theorem StN.len (h:StN P s):s.length=P.length:=JX h.nm
theorem jF (h:∀r∈s,r.length=6)(t:c+v.length<=6):∀r∈B7 s i c v,r.length=6:=fun r o=>by
 unfold B7 at o;rcases ABN i s.length with Y|Y
 .rcases List.mem_or_eq_of_mem_set o with C|C
  .exact h r C
  .have:=h (s.getD i []) (Aq Y);rw[C];simp only[ABM,ABl,ABs];omega
 .rw[List.set_eq_of_length_le Y] at o;exact h r o
theorem yV (h:∀r∈s,r.length=6)(z:1<=c):nmL (B7 s i c v)=nmL s:=by
 unfold B7;rcases ABN i s.length with Y|Y
 .have t:(s.getD i []).length=6:=h (s.getD i []) (Aq Y);have e:uS ((s.getD i []).take c++v++(s.getD i []).drop (c+v.length)) 0=Af s i 0:=by
   unfold Af;generalize s.getD i []=r at t;show (List.getD _ 0 default:U).toS=(List.getD _ 0 default:U).toS;rw[ABV,ABV,ABj,ABO (by rw[ABl];omega),List.getElem?_take_of_lt (by omega)]
  unfold nmL;rw[List.map_set];show (s.map _).set i (uS _ 0)=_;rw[e];have g:=NW Y;unfold nmL at g;refine List.ext_getElem? fun j=>?_;rw[ACB];split
  .rename_i o;subst o;rw[ACE (by simpa using Y),g]
  .rfl
 .rw[List.set_eq_of_length_le Y]
theorem StN.put (h:StN P s)(o:1<=c)(r:c<=5):StN P (B7 s i c [.int a]):=
 ⟨jF h.six (by show c+1<=6;omega),(yV h.six o).trans h.nm⟩
theorem yf {G:U'}(h:StN P s):∀n,StN P (Ax (Sf M G a b) n s):=fun n=>
 Gc (p:=fun _ s=>StN P s) h (fun n y o=>by
  unfold Sf OU;split
  .exact (o.put (by omega) (by omega)).put (by omega) (by omega)
  .exact o) n
theorem yq {G:U'}(h:StN P s):∀n,StN P (Ax (Rn M G) n s):=fun n=>
 Gc (p:=fun _ s=>StN P s) h (fun n y o=>by
  have k:StN P (fS (bT y (Bx M (Af G n 4)) (Bx M (Af G n 5)) (w64 (AJ G n 7 - AJ G n 8))) (Bx M (Af G n 4)) (Bx M (Af G n 5))):=by
   unfold fS bT OU tY;exact ((o.put (by omega) (by omega)).put (by omega) (by omega)).put (by omega) (by omega)
  unfold Rn kR;split
  .unfold OU;exact k.put (by omega) (by omega)
  .exact k) n
theorem dG {P:U'}:∀n,n<=P.length->(∀r∈Ax (HT P) n (List.replicate P.length [U.str ByteArray.empty,.int 0,.int 0,.int 0,.int 0,.int 0]),r.length=6)/\(Ax (HT P) n (List.replicate P.length [U.str ByteArray.empty,.int 0,.int 0,.int 0,.int 0,.int 0])).length=P.length/\
  ∀j,j < n->(Ax (HT P) n (List.replicate P.length [U.str ByteArray.empty,.int 0,.int 0,.int 0,.int 0,.int 0])).getD j []=[.str (Af P j 0),.int 0,.int 0,.int 0,.int 0,.int 0]
 |0,_=>⟨fun r K=>by rw[List.eq_of_mem_replicate K];rfl,List.length_replicate,fun j A=>by omega⟩
 |n+1,h=>by
  obtain⟨t,E,z⟩:=dG (P:=P) n (by omega);have o:(Ax (HT P) n (List.replicate P.length [U.str ByteArray.empty,.int 0,.int 0,.int 0,.int 0,.int 0])).getD n []=[U.str ByteArray.empty,.int 0,.int 0,.int 0,.int 0,.int 0]:=by
   have O:∀m,m<=n->(Ax (HT P) m (List.replicate P.length [U.str ByteArray.empty,.int 0,.int 0,.int 0,.int 0,.int 0])).getD n []=[U.str ByteArray.empty,.int 0,.int 0,.int 0,.int 0,.int 0]:=by
    intro m;induction m with
    |zero=>intro _;show (List.replicate _ _).getD n []=_;rw[ABV,List.getElem?_replicate];simp[show n < P.length by omega]
    |succ m N=>
     intro T;show (HT P m _).getD n []=_;unfold HT B7;rw[ABV,ACB,ACD (by omega),<-ABV];exact N (by omega)
   exact O n (ABB _)
  generalize aa:Ax (HT P) n (List.replicate P.length [U.str ByteArray.empty,.int 0,.int 0,.int 0,.int 0,.int 0])=s at o t E z;have e:Ax (HT P) (n+1) (List.replicate P.length [U.str ByteArray.empty,.int 0,.int 0,.int 0,.int 0,.int 0])=HT P n s:=by rw[<-aa];rfl
  rw[e];unfold HT;refine⟨jF t (ABX rfl),by rw[MK];exact E,fun j A=>?_⟩;unfold B7;rw[ABV,ACB];split
  .rename_i C;subst C;rw[ACE (by omega),o];rfl
  .rw[<-ABV];exact z j (by omega)
theorem yY (h:j < P.length):(st0 P).getD j []=[.str (Af P j 0),.int 0,.int 0,.int 0,.int 0,.int 0]:=(dG P.length (ABB _)).2.2 j h
theorem AAu :StN P (st0 P):=by
 obtain⟨o,E,t⟩:=dG (P:=P) P.length (ABB _);refine⟨o,List.ext_getElem? fun j=>?_⟩;have r:(st0 P).length=P.length:=E;rcases ABN j P.length with h|h
 .rw[NW h,NW (by omega)];unfold Af;rw[yY h];rfl
 .rw[ABf (by rw[Rq];omega),ABf (by rw[Rq];exact h)]
theorem t8 {G:U'}:StN P (PK P G a b):=yq (yf AAu _) _
theorem tN (h:StN P s)(hd:Df P):Dst ltT s:=fun x y A E C O=>by
 obtain⟨i,Y,rfl⟩:=ABy.1 A;obtain⟨j,z,rfl⟩:=ABy.1 E;have t:=ut C O;have K:=h.len;have g:∀k (r:k < s.length),uS s[k] 0=uS (P.getD k []) 0:=fun k r=>by
  have a:=NW r;rw[h.nm,NW (show k < P.length by omega)] at a;injection a with a
  rw[<-Dv r];exact a.symm
 rw[g i Y,g j z] at t;rcases Nat.lt_trichotomy i j with o|o|o
 .exact absurd t.symm (hd j i o (by omega))
 .subst o;rfl
 .exact absurd t (hd i j o (by omega))
def FH (l o:U')(i:Nat)(h:U'):U':=
 let t:=if i < o.length then (AJ o i 0 % ((h.length:Int)+1)).toNat else 0
 let r:=h.take t++([l.getD i []]++h.drop t)
 if i < o.length/\AJ o i 0 % 5=0 then r++[l.getD i []] else r
def Nw (l o:U'):U':=Ax (FH l o) l.length []
theorem dT {l o:U'}{u:List U}:∀n,n<=l.length->(u∈Ax (FH l o) n []↔u∈l.take n)
 |0,_=>by simp[Ax]
 |n+1,h=>by
  have t:=dT (l:=l) (o:=o) (u:=u) n (by omega);rw[vR (by omega),<-t];show u∈FH l o n (Ax (FH l o) n [])↔_;generalize Ax (FH l o) n []=s;have r:∀k,u∈s.take k++([l.getD n []]++s.drop k)↔(u∈s\/l.getD n []=u):=fun k=>by
   have aa:u∈s↔(u∈s.take k\/u∈s.drop k):=by rw[<-ABm,ABw]
   rw[ABm,ABm,ABi,aa];constructor
   .rintro (a|a|a)
    .exact .inl (.inl a)
    .exact .inr a.symm
    .exact .inl (.inr a)
   .rintro ((a|a)|a)
    .exact .inl a
    .exact .inr (.inr a)
    .exact .inr (.inl a.symm)
  unfold FH;simp only;split
  .rw[ABm,ABi,r];exact⟨fun a=>a.elim id fun b=> .inr b.symm,.inl⟩
  .exact r _
theorem Cp {l o:U'}:∀n,(Ax (FH l o) n []).length<=2*n
 |0=>ABB _
 |n+1=>by
  have r:=Cp (l:=l) (o:=o) n;show (FH l o n (Ax (FH l o) n [])).length<=_;generalize Ax (FH l o) n []=s at r;have h:∀k,(s.take k++([l.getD n []]++s.drop k)).length=s.length+1:=fun k=>by
   simp only[ABM,ABl,ABs,ABa,ABp];omega
  unfold FH;simp only;split
  .rw[ABM,h];simp only[ABa,ABp];omega
  .rw[h];omega
def Sv (u v:List U):Bool:=decide (uS u 0=uS v 0)&&decide (uI u 1=uI v 1)&&decide (uI u 2=uI v 2)&&decide (uI u 3=uI v 3)&&decide (uI u 4=uI v 4)&&decide (uI u 5=uI v 5)
def Hp (a b:U'):Bool:=decide (a.length=b.length)&&(List.range a.length).all fun j=>Sv (a.getD j []) (b.getD j [])
theorem OZ {a:U'}:Hp a a=true:=by
 unfold Hp;rw[AA8,ABb];exact⟨by simp,fun j _=>by unfold Sv;simp⟩
theorem mA {a b:U'}:Hp a b=true↔(a.length=b.length/\∀j:Nat,j < a.length->Sv (a.getD j []) (b.getD j [])=true):=by
 unfold Hp;rw[AA8,decide_eq_true_eq,ABb];simp only[List.mem_range]
theorem Tn :(Af l i 0=Af ah j 0/\AJ l i 1=AJ ah j 1/\AJ l i 2=AJ ah j 2/\AJ l i 3=AJ ah j 3/\AJ l i 4=AJ ah j 4/\AJ l i 5=AJ ah j 5)↔Sv (l.getD i []) (ah.getD j [])=true:=by
 unfold Sv;simp only[AA8,decide_eq_true_eq,and_assoc];exact Iff.rfl
theorem SH:∀{a l:U'},a.Nodup->(∀u∈a,u∈l)->a.length<=l.length
 |[],_,_,_=>ABh _
 |x::a,l,hd,aa=>by
  obtain⟨C,O⟩:=List.nodup_cons.1 hd;obtain⟨p,q,rfl⟩:=List.append_of_mem (aa x ABK);have:=SH (a:=a) (l:=p++q) O fun u o=>by
   have r:¬u=x:=fun e=>C (by rw[<-e];exact o);rcases ABm.1 (aa u (ABH _ o)) with h|h
   .exact ABR _ h
   .exact ABL _ ((List.mem_cons.1 h).resolve_left r)
  simp only[ABM,ABa] at this⊢;omega
theorem eD:∀{l D:U'},D.Nodup->(l.foldl ddN D).Nodup
 |[],D,h=>h
 |u::l,D,h=>by
  rw[List.foldl_cons];refine eD ?_;by_cases o:u∈D
  .rw[ef o];exact h
  .rw[Xh o];exact List.nodup_append.2 ⟨h,List.nodup_cons.2 ⟨by simp,List.nodup_nil⟩,fun a r b t e=>o (by rw[<-ABi.1 t,<-e];exact r)⟩
structure Mo (l m:U'):Prop where
 mem:∀u,u∈m↔u∈l
 led:AM m=0
 last:(AY m).length<=40
 bk:Aw m=Aw l
theorem dN {m:U'}(z:TyB l)(h:AM l=0)(V:l.length<=30)(A:m.length<=200)(t:∀u,u∈m↔u∈l):Mo l m:=by
 obtain⟨a,b,c⟩:=(Qu z).1 h;have aa:=PW z h (fun u o=>(t u).1 o) A;refine⟨t,aa.2,?_,(pu z c fun u=>(t u).symm).symm⟩;have K:=Gm (l:=m);have E:∀r∈AY m,uI r 0=uI (r.drop 1) 0/\r.drop 1∈m:=fun r C=>by
  obtain⟨u,o,A⟩:=K.row r C;rw[o];exact⟨rfl,A⟩
 have:=SH (a:=(AY m).map (·.drop 1)) (l:=l) (by
  refine List.pairwise_map.2 (K.once.imp_of_mem fun N O T e=>T ?_);rw[(E _ N).1,(E _ O).1,e]) fun u o=>by
   obtain⟨r,C,rfl⟩:=ACI.1 o;exact (t _).1 (E r C).2
 rw[List.length_map] at this;omega
theorem Ym {a b:U'}(r:TyB l)(h:AM l=0)(C:l.length<=30)(t:∀u∈a,u∈l)(z:∀u∈b,u∈l)(E:∀u∈l,u∈a\/u∈b)(a8:a.length<=200)(O:b.length<=200):
  HZ a b=0/\Mo l (JA a b)/\(JA a b).length<=l.length:=by
 have hd:∀u,u∈ddS (a++b)↔u∈l:=fun u=>by
  rw[ip,ABm];exact⟨fun x=>x.elim (t u) (z u),E u⟩
 have K:(ddS (a++b)).length<=l.length:=SH (eD List.nodup_nil) fun u N=>(hd u).1 N;have o:=dN (m:=ddS (a++b)) r h C (by omega) hd;have e:HZ a b=0:=by
  unfold HZ;rw[ACD (fun x=>x (PW r h t a8).2),ACD (fun x=>x (PW r h z O).2),ACD (by omega),ACE (fT o.led)]
 have A:JA a b=ddS (a++b):=by unfold JA;rw[ACE e]
 rw[A];exact⟨e,o,K⟩
theorem Mo.settle {m:U'}(h:Mo l m):Cw P m=Cw P l:=by unfold Cw;rw[h.bk]
theorem Mo.tab {m:U'}(h:Mo l m):I7 P m a b=I7 P l a b:=by unfold I7 Mu;rw[h.bk]
theorem QO (r:TyB l)(h:AM l=0)(o:l.length<=30):Mo l l:=dN r h o (by omega) fun _=>Iff.rfl
theorem uf {o:U'}(t:TyB l)(h:AM l=0)(r:l.length<=30):Mo l (Nw l o)/\(Nw l o).length<=200:=by
 have z:=Cp (l:=l) (o:=o) l.length;have e:(Nw l o).length<=200:=by unfold Nw;omega
 exact⟨dN t h r e fun u=>by unfold Nw;rw[dT _ (ABB _),ACA],e⟩
end
section
open Go Go.Proofs
def R5 (c:Code)(k:Nat):Oper:=match c with
 | .seq (.region _ Z _) _=>Z[k]!
 | .region _ Z _=>Z[k]!
 |_=>default
def Z3:Code->Nat
 | .seq (.region i _ _) _=>i
 | .region i _ _=>i
 |_=>0
def Xm (aC:Func)(st e:TypeId):ClC:=
 match aC.body.getD .skip with
 | .seq aN (.seq (.seq aS (.cond _ c2 _)) c3)=>{ o0:=R5 aN 0,o1:=R5 aS 0,o2:=R5 aS 1,p:=R5 c2 0,o5:=R5 c3 0,o6:=R5 c3 1,o7:=R5 c3 2,o8:=R5 c3 3,st,e,r0:=Z3 aN,r1:=Z3 aS,r2:=Z3 c2,r3:=Z3 c3 }
 |_=>⟨default,default,default,default,default,default,default,default,st,e,0,0,0,0⟩
def GZ:List (FuncId × TypeId):=[(119,35),(106,56),(104,34)]
theorem vi:(Xm Try.f119 35 38).Ok Try.prog 119 Try.f119:=by refine ⟨Try.func119,?_,?_,?_,?_,⟨⟨.const (.slice none 0 0),?_⟩,?_,?_⟩,⟨?_,?_,?_⟩,⟨⟨35,?_⟩,?_,?_⟩,⟨?_,?_,?_⟩,⟨?_,?_,?_⟩,⟨?_,?_,?_⟩,⟨?_,?_,?_⟩,⟨?_,?_,?_⟩,?_⟩<;>kernel_rfl
theorem vD:(Xm Try.f106 56 61).Ok Try.prog 106 Try.f106:=by refine ⟨Try.func106,?_,?_,?_,?_,⟨⟨.const (.slice none 0 0),?_⟩,?_,?_⟩,⟨?_,?_,?_⟩,⟨⟨56,?_⟩,?_,?_⟩,⟨?_,?_,?_⟩,⟨?_,?_,?_⟩,⟨?_,?_,?_⟩,⟨?_,?_,?_⟩,⟨?_,?_,?_⟩,?_⟩<;>kernel_rfl
theorem tl:(Xm Try.f104 34 23).Ok Try.prog 104 Try.f104:=by refine ⟨Try.func104,?_,?_,?_,?_,⟨⟨.const (.slice none 0 0),?_⟩,?_,?_⟩,⟨?_,?_,?_⟩,⟨⟨34,?_⟩,?_,?_⟩,⟨?_,?_,?_⟩,⟨?_,?_,?_⟩,⟨?_,?_,?_⟩,⟨?_,?_,?_⟩,⟨?_,?_,?_⟩,?_⟩<;>kernel_rfl
theorem FB:NQ Try.prog GZ:=by
 unfold NQ GZ;simp only[ABT];exact⟨⟨_,_,vi,rfl⟩,⟨_,_,vD,rfl⟩,⟨_,_,tl,rfl⟩,fun _ h=>absurd h (by simp)⟩
instance:Inhabited RgP:=⟨⟨0,0,0,0,0,0,0,0,0,default,default,default,default,[],.skip⟩⟩
instance:Inhabited RgC:=⟨⟨[],0,default,default,0,0,0,0,0,0,[],0,default,.skip⟩⟩
def rgOf (k:Nat)(c:Code)(out:Tmp)(mt kt et:TypeId)(ks:List Kd)(e:TypeId):RgC:=
 match UO k c with
 |(pre,.seq (.seq (.region i1 a _) (.block bid (.loop (.seq (.region i2 b _) (.seq (.cond _ _ _) (.block bi (.seq (.region i3 d _) rest))))))) post)=>
  {pre,i1,q1:=a[0]!,q2:=a[1]!,tm:=(match (a[0]!).op with| .move (.tmp t)=>t|_=>0),dm:=((a[0]!).dst).getD 0,out,mt,kt,et,ks,e,
   p:={ di:=((a[1]!).dst).getD 0,dn:=((b[0]!).dst).getD 0,db:=((b[1]!).dst).getD 0,de:=((d[0]!).dst).getD 0,dv:=((d[1]!).dst).getD 0,bid,bi,i2,i3,o1:=b[0]!,o2:=b[1]!,o3:=d[0]!,o4:=d[1]!,l3:=d.toList.drop 2,rest },post }
 |_=>default
def rgB:RgC:=rgOf 4 (Try.f65.body.getD .skip) 8 143 2 38 [.int .i64 IntKind.i64.min IntKind.i64.max,.int .i64 IntKind.i64.min IntKind.i64.max,.int .i64 IntKind.i64.min IntKind.i64.max,.bool,.str,.str,.bool,.int .i64 IntKind.i64.min IntKind.i64.max,.int .i64 IntKind.i64.min IntKind.i64.max] 38
theorem vJ:Try.f65.body=some rgB.code:=by kernel_rfl
theorem za:rgB.Ok Try.prog:=by refine ⟨⟨⟨?_,?_,?_⟩,⟨?_,?_,?_⟩,⟨?_,?_,?_⟩,⟨?_,?_,?_⟩⟩,⟨?_,?_,?_⟩,⟨?_,?_,?_⟩,?_⟩<;>kernel_rfl
end
section
open Go Go.Eng Go.Proofs
def musS:Nat->Tmp->Nat
 |80,13=>1
 |81,25=>3
 |f,t=>mus f t
def AAr:Nat->Nat->Bool
 |80,14=>true
 |24,5=>true
 |f,r=>fw f r
def bD:FuncId->Ct:=fun f=>⟨O7 VY f,Ms TO f,lQ f,musS f,AAr f⟩
end
section
def Xf:ByteArray:=⟨#[97,110,110]⟩
def U3:ByteArray:=⟨#[98,111,98]⟩
def lF:ByteArray:=⟨#[99,97,116]⟩
def fl:U':=[[.str Xf,.int 2000,.int 0],[.str U3,.int 1500,.int 10],[.str lF,.int 1000,.int 20]]
def fH:U':=[[.int 1,.int 0,.int 5,.bool false,.str Xf,.str U3,.bool true,.int 26,.int 20],[.int 2,.int 0,.int 6,.bool false,.str U3,.str lF,.bool true,.int 26,.int 3],[.int 3,.int 0,.int 7,.bool false,.str lF,.str Xf,.bool true,.int 26,.int 25]]
def Hw:U':=I7 fl fH 0 100
theorem ACQ:AS fl=0:=by kernel_rfl
theorem ACR:AM fH=0:=by kernel_rfl
theorem ACW:HV 0 100=0:=by kernel_rfl
theorem sT:Hw.length=3:=by kernel_rfl
theorem ic:BZ U3 1500 10 Xf 2000 0=0:=by kernel_rfl
theorem ex_i:Bd 1500 (Bg 1500 2000 true)=1514:=by kernel_rfl
theorem ex_g:EX (Bd 1500 (Bg 1500 2000 true)) 10=10:=by kernel_rfl
theorem ex_j:Bd 2000 (-(Bg 1500 2000 true))=1986:=by kernel_rfl
theorem ex_h:EX (Bd 2000 (-(Bg 1500 2000 true))) 0=0:=by kernel_rfl
theorem zO:Af Hw 0 0=U3/\AJ Hw 0 1=1/\AJ Hw 0 2=1/\AJ Hw 0 3=1/\AJ Hw 0 4=17/\AJ Hw 0 5=1:=⟨by kernel_rfl,by kernel_rfl,by kernel_rfl,by kernel_rfl,by kernel_rfl,by kernel_rfl⟩
end
end Go.Eng
end
noncomputable section
namespace Go.Eng
theorem o2' {A B C:Prop}(f:A->B->C)(h:A/\B):C:=f h.1 h.2
theorem cutB {T:Tab}{a b:List BE}(h:AR T (a++b)):AR T a/\AR T b:=⟨h.left,h.right⟩
end Go.Eng
end
