/-
  A part of the proof: the evaluator of code and its soundness.
-/
import Derived.Test.YtikbgnmcfncnaaaE4
import Derived.KernelRfl
import Derived.Test.YtikbgnmcfncnaaaProg
import Derived.Test.YtikbgnmcfncnaaaRows
import Derived.WalkKit
import Derived.ProofKit
import Derived.JoinedCond
import Derived.OpenShut
import Derived.Shelf.GgClosure.StringsIndexFuncTop
import Derived.Laws.RangeAny
import Derived.Lib.Bytealg
set_option linter.unusedVariables false
set_option linter.unusedSimpArgs false
noncomputable section
namespace Go.Eng
section
open Go Go.Eng Go.Proofs
def pS:List (Nat × Nat):=[(3,356811923197259157698710802876495906918760255),(4,550830080991),(5,170141193601676453770381015179702828319),(6,89202980794163057433707209216026507515787263),(7,4630263367964029055),(8,6734599546214597221990822883665133711009854619906111),(9,9908658249016404373193949127),(10,98079720826798845593930068094850309804911155896884789191),(11,137456271347),(12,70506183115263),(13,3064991081731777722365913037005480846757658662151385151),(14,20752587087222415351),(15,127),(16,17375),(17,32967),(18,1125938561695871),(19,4611704712406761927),(20,4398601212221),(21,2360397),(22,1152923703630102535),(23,285),(24,33011),(25,33571891),(26,33571891),(27,1),(28,4351),(29,525),(30,8395535),(31,1),(32,255),(33,33551),(34,10141204806031981158242960407583),(35,316912952583809060057652395039),(36,1126449931223167),(37,33571891),(38,2163),(39,4296024039),(40,1057479),(41,134495533),(42,262707),(43,4398063288335),(44,4786206345238451),(45,20754838917633812467),(46,77),(47,1165),(48,32967),(49,525),(50,18399),(51,575),(52,4295231479),(53,274945034231),(54,9007199254874355),(55,525),(56,23),(57,16447),(58,71),(59,71),(60,8903),(61,7),(62,1125899906851101),(63,71),(64,1099511662605),(65,146243636491757),(66,151115731674017756698611),(67,7715),(68,1),(69,45),(70,4296023823),(71,19),(72,63),(73,134714111),(74,67113231),(75,140874944118543),(76,262707),(77,36028797019098895),(78,2475880078606789348968890611),(79,147),(80,19342813122841268197662663),(81,32831),(82,7),(83,5),(84,504373101),(85,4294983149),(86,19807040630007236279178105341),(87,19),(88,7),(89,18874823),(90,21),(91,135199),(92,479),(93,31),(94,1065211),(95,67643),(96,1),(97,268435583),(98,144115192370823171),(99,1),(100,19),(101,31),(102,17389),(103,604275),(104,21),(105,730750818665451459250395221072963867452968785863),(106,21),(107,3),(108,1),(109,1075843571),(110,19),(111,5),(112,65619),(113,66483),(114,549764202519),(115,191),(116,2147483835),(117,158514353557870112340845789213),(118,53478898112939196370036498439096720537788676143893093693041676285),(119,21),(120,3),(121,5),(122,18014433942971335),(123,31),(124,604275),(125,31),(126,31),(127,31),(128,31),(129,19),(130,19),(131,2333),(132,19),(133,32829),(134,5),(135,1064973),(136,19),(137,18014433942971335),(138,17179886351),(139,13164839976634628298295110780136696778032692856359452003713154079),(140,5),(141,19),(142,531911),(143,7),(144,17179886351),(145,13164839976634628298295110780136696778032692856359452003713154079),(146,9440287),(148,9440287),(149,9231),(150,9231)]
def Zj:List (Nat × Nat)->Nat->Nat
 |[],_=>0
 |(i,k)::r,f=>bif Nat.beq i f then k else Zj r f
def fU:List (Nat × List Nat):=[(5,[0]),(6,[0]),(7,[0]),(8,[0,2]),(9,[0]),(10,[0,2]),(11,[0]),(13,[0]),(19,[0,2]),(20,[0,2,4]),(21,[0]),(25,[0]),(26,[0]),(34,[0,2]),(35,[0,2,4,6]),(37,[0]),(41,[0]),(42,[0]),(44,[0,2]),(45,[0,2]),(54,[0]),(62,[0,2]),(64,[0]),(65,[0,2]),(66,[0,2]),(67,[0]),(75,[0,2]),(76,[0]),(77,[0]),(78,[0]),(80,[0]),(84,[0,2]),(85,[0]),(86,[0,2,4]),(98,[0,2]),(105,[0,2,4]),(109,[0]),(113,[0]),(114,[0,2]),(116,[0]),(117,[0]),(118,[0,2]),(122,[0,2,4]),(133,[0]),(137,[0,2,4]),(138,[0,2]),(139,[0,2,4,6,8]),(142,[0]),(144,[0,2]),(145,[0,2,4,6,8]),(146,[0]),(148,[0]),(149,[0]),(150,[0])]
def sY:Dr:={ slots:=[(.tmp 4,.int .i64 (-9223372036854775808) 9223372036854775807),(.tmp 3,.list [.int .i64 (-9223372036854775808) 9223372036854775807,.int .i64 (-9223372036854775808) 9223372036854775807,.int .i64 (-9223372036854775808) 9223372036854775807,.bool,.str,.str,.bool,.int .i64 (-9223372036854775808) 9223372036854775807,.int .i64 (-9223372036854775808) 9223372036854775807])] }
def UB:List (Nat × List Nat)->Nat->Nat->Option Dr
 |[],_,_=>none
 |(i,l)::r,f,b=>bif Nat.beq f 86&&Nat.beq b 0 then some sY else bif Nat.beq i f then (bif l.any (Nat.beq b) then some {} else none) else UB r f b
def mus:Nat->Tmp->Nat
 |101,15=>2
 |108,6=>2
 |105,23=>1
 |66,84=>3
 |86,103=>3
 |44,15=>2
 |_,_=>0
def frzs:Nat->Nat->Bool
 |100,2=>true
 |71,2=>true
 |105,27=>true
 |_,_=>false
def nars:Nat->Nat->Option (Tmp × Int × Int):=fun f r=>bif Nat.beq f 84&&Nat.beq r 3 then some (3,0,1000000) else none
def Aa:FuncId->DI:=fun f=>⟨Zj pS f,UB fU f,nars f,mus f,frzs f⟩
def sJ:FuncId->DI:=fun f=>⟨Zj pS f,bif Nat.beq f 44 then (fun b=>bif Nat.beq b 0 then none else UB fU f b) else UB fU f,nars f,mus f,frzs f⟩
theorem BU:Try.prog.follows .mixedOrders=true:=by kernel_rfl
end
end Go.Eng
end
noncomputable section
namespace Go.Proofs.Ytikbgnmcfncnaaa
open Go Go.Eng Go.RowKit Go.ChangeShapes Go.WideShapes Go.ChangeAt
section
variable {H:Type}
theorem oL (d:DataW H):0 < Rows.uptoBulk d:=by
 cases d with
 |lit l=>cases l<;>simp[Rows.uptoBulk]
 |_=>simp[Rows.uptoBulk]
theorem Q6:∀(l:List (DataW H)),l.length<=Rows.uptoBulkAll l
 |[]=>by simp[Rows.uptoBulkAll]
 |d::r=>by
  have C:=oL d;have O:=Q6 r;simp only[uJ,Rows.uptoBulkAll];omega
mutual
theorem oh:(d:DataW H)->Rows.uptoBulk d<=1048576->DZ 1048576 d
 | .lit l,h=> .lit fun s e=>by
  subst e;simp only[Rows.uptoBulk] at h;omega
 | .nil,_=> .nil
 | .ptr d,_=> .ptr d
 | .slice l s,h=>by
  simp only[Rows.uptoBulk] at h;have C:=Q6 l;exact .slice (by omega) (ML l (by omega))
 | .agg l,h=>by
  simp only[Rows.uptoBulk] at h;exact .agg (ML l (by omega))
 | .iface t d,_=> .iface t d
 | .map aw,_=> .map aw
 | .held h,_=> .held h
theorem ML:(l:List (DataW H))->Rows.uptoBulkAll l<=1048576->∀d∈l,DZ 1048576 d
 |[],_=>fun d hd=>by cases hd
 |x::r,h=>fun d hd=>by
  simp only[Rows.uptoBulkAll] at h;rcases List.mem_cons.1 hd with e|hd
  .rw[e];exact oh x (by omega)
  .exact ML r (by omega) d hd
end
end
theorem cJ {H:Type}{enc:TypeId × Value->H}{P:Program}{d:World}{base:Nat}{r:Nat->Bool}{bd:Bool}:∀{ar:List TypeId} {W:List Value} {ds:List (DataW H)} {ps:List MemPlace},DataW.TrodAll enc P d base r bd ar W ds ps->ds.length=ar.length
 |[],[],[],_,_=>rfl
 |[],[],_::_,_,h=>h.elim
 |[],_::_,_,_,h=>h.elim
 |_::_,[],_,_,h=>h.elim
 |_::_,_::_,[],_,h=>h.elim
 |_::ar,_::W,_::ds,_,⟨_,_,_,O,_⟩=>by simp[cJ O]
theorem own:ownKnob Try.prog.godebug=none:=by kernel_rfl
theorem laid:laidOutB Try.prog=true:=by kernel_rfl
set_option maxRecDepth 100000 in
theorem mF {s:ChangeSpec}{f:Func}{k:FuncId}(al:f.resultTypes= #[4])(F:s.vars=[])(ag:∀t∈f.params.toList,Try.prog.readableRec t=true/\t < Try.prog.types.size)
  (Y:∀(H:Type) (ds:List (DataW H)),ds.length=f.params.toList.length->s.fn H ds={ results:=[.lit (.bool true)],args:=ds })
  (T:∀{H:Type} {enc:TypeId × Value->H} {h:World} {base:Nat} {W:List Value} {ds:List (DataW H)} {ps:List MemPlace},DataW.TrodAll enc Try.prog h 0 (fun _=>true) true f.params.toList W ds ps->
   (∀(j:Nat) t v,f.params.toList[j]? =some t->W[j]? =some v->Value.okWide Try.prog h .any base t v)->(∀d∈ds,DZ 1048576 d)->
   Calls Try.prog k (W:List Value).toArray h fun e r=>e= .returned (.bool true)/\Below h.heap.size h r)
  (a0:Try.prog.underlying 4=some .bool)
  (H:Type) (enc:TypeId × Value->H) (h:World) (base:Nat) (args:Array Value) (ds w:List (DataW H)) (J:List MemPlace)
  (a1:∀(j:Nat) t v,f.params[j]? =some t->args[j]? =some v->Value.okWide Try.prog h .any base t v)
  (E:DataW.Whole enc Try.prog f.params.toList s.vars false h args.toList ds w J) (hk:Rows.uptoSmall H (ds++w)=true):
  Calls Try.prog k args h fun e r=>∃v,e= .returned v/\s.post enc Try.prog f false true false false h args v r:=by
 have K:=E;obtain⟨p,q,z,A,rfl,hz,hn⟩:=E;have Z:w=[]:=by
  rw[F] at A;cases w with
  |nil=>rfl
  |cons=>exact A.elim
 subst Z;have ad:ds.length=f.params.toList.length:=cJ z;have ao:∀d∈ds,DZ 1048576 d:=ML ds (by
  have C:=hk;unfold Rows.uptoSmall at C;rw[uj,decide_eq_true_eq] at C;exact C)
 have Q:=T z (fun j t v C O=>a1 j t v (by simpa using C) (by simpa using O)) ao;refine Q.mono fun e r ⟨V,N⟩=>⟨_,V,?_⟩;exact nM laid ag al a0 F (by rw[uj];exact Y H ds ad) K N
end Go.Proofs.Ytikbgnmcfncnaaa
end
noncomputable section
namespace Go.Eng
section
open Go Go.Proofs
def Ho (b:UInt8):Bool:=(decide (97<=b.toNat)&&decide (b.toNat<=122))||(decide (48<=b.toNat)&&decide (b.toNat<=57))
def Ch (s:ByteArray):Bool:=decide (1<=s.size)&&decide (s.size<=20)&&s.data.toList.all Ho
def In (x ap Y:Int):Bool:=decide (ap<=x)&&decide (x<=Y)
theorem Ny {x ap Y:Int}:In x ap Y=true↔(ap<=x/\x<=Y):=by simp[In]
def C1 (r:Nat):Bool:=(decide (r < 97)||decide (122 < r))&&(decide (r < 48)||decide (57 < r))
theorem Ov (b:UInt8):Ho b= !C1 b.toNat:=by
 rw[Bool.eq_iff_iff];simp only[Ho,C1,uN,tV,decide_eq_true_eq,Bool.not_eq_true',Bool.and_eq_false_iff,Bool.or_eq_false_iff,decide_eq_false_iff_not];omega
theorem dB (s:ByteArray):∀(f pos:Nat),s.size<=pos+f->(Lib.idxFuncFrom C1 true s f pos= -1↔∀j (h:j < s.size),pos<=j->Ho (s[j]'h)=true)
 |0,pos,hf=>by
  simp only[Lib.idxFuncFrom,true_iff];intro j h d;omega
 |f+1,pos,hf=>by
  unfold Lib.idxFuncFrom;by_cases d:pos < s.size
  .rw[vC d];by_cases z:(s[pos]'d).toNat < 128
   .rw[decode_ascii s pos d z];simp only;by_cases r:C1 (s[pos]'d).toNat=true
    .rw[vC r];constructor
     .intro h;omega
     .intro h;have:=h pos d (tY _);rw[Ov,r] at this;cases this
    .rw[vA r,dB s f (pos+1) (by omega)];constructor
     .intro h j t w;by_cases e:j=pos
      .subst e;rw[Ov];simpa using r
      .exact h j t (by omega)
     .intro h j t w;exact h j t (by omega)
   .obtain⟨C,O⟩:=decode_high s pos d (by omega);have r:C1 (Utf8.decode s pos).1=true:=by
     simp only[C1,uN,tV,decide_eq_true_eq];omega
    rw[vC r];constructor
    .intro h;omega
    .intro h;have:=h pos d (tY _);rw[Ov] at this;have A:C1 (s[pos]'d).toNat=true:=by
      simp only[C1,uN,tV,decide_eq_true_eq];omega
     rw[A] at this;cases this
  .rw[vA d];simp only[true_iff];intro j h w;omega
theorem WG (s:ByteArray):s.data.toList.all Ho=true↔∀j (h:j < s.size),Ho (s[j]'h)=true:=by
 rw[uK];constructor
 .intro h j d;exact h _ (by
   have:s[j]=s.data.toList[j]'(by simpa using d):=rfl;rw[this];exact um _)
 .intro h x r;obtain⟨j,d,rfl⟩:=List.getElem_of_mem r;exact h j (by simpa using d)
theorem gT (s:ByteArray):Ch s=(decide (1<=s.size)&&decide (s.size<=20)&& !decide (0<=Lib.idxFunc C1 true s)):=by
 have C:=dB s s.size 0 (by omega);have O:=WG s;have r:=Lib.idxFunc_range C1 true s;unfold Ch;congr 1;rw[Bool.eq_iff_iff,O];change Lib.idxFunc C1 true s= -1↔_ at C;rw[Bool.not_eq_true',decide_eq_false_iff_not];constructor
 .intro h;have:=C.2 fun j d _=>h j d;omega
 .intro h j d;exact C.1 (by omega) j d (uQ _)
def okB (s:ByteArray)(j:Nat):Prop:=97<=Bn s j/\Bn s j<=122\/48<=Bn s j/\Bn s j<=57
theorem pq {s:ByteArray}{k:Nat}(r:k=s.size):s.data.toList.all Ho=true↔∀j:Nat,(j:Int) < k->okB s j:=by
 unfold okB;subst r;rw[WG];have e:∀j (d:j < s.size),(Ho (s[j]'d)=true↔(97<=Bn s j/\Bn s j<=122\/48<=Bn s j/\Bn s j<=57)):=by
  intro j d;have e:Bn s j=((s[j]'d).toNat:Int):=by
   unfold Bn;have t:j < s.data.toList.length:=by simpa using d
   rw[uD,tZ t];rfl
  rw[e];simp only[Ho,uN,tV,decide_eq_true_eq];omega
 constructor
 .intro h j d;exact (e j (by omega)).1 (h j (by omega))
 .intro h j d;exact (e j d).2 (h j (by omega))
theorem pN {s:ByteArray}:Ch s=true↔(1<=s.size/\s.size<=20/\∀j:Nat,(j:Int) < s.size->okB s j):=by
 unfold Ch;rw[tV,tV,decide_eq_true_eq,decide_eq_true_eq,pq rfl,and_assoc]
end
section
def Dm (s:ByteArray)(x g:Int):Bool:=Ch s&&In x (-10000) 10000&&In g (-12) 48
def Ba (s:ByteArray)(x g:Int)(t:ByteArray)(y h:Int):Int:=
 if Dm s x g=true/\Dm t y h=true then (if s=t then 12 else 0) else 2
variable{s:ByteArray}{x g:Int}
theorem I9 :Dm s x g=true↔(Ch s=true/\(-10000<=x/\x<=10000)/\ -12<=g/\g<=48):=by
 unfold Dm;rw[tV,tV,Ny,Ny,and_assoc]
theorem SJ {t:ByteArray}{y h:Int}(e:Ba s x g t y h=0):Dm s x g=true/\Dm t y h=true/\¬s=t:=by
 unfold Ba at e;split at e
 .rename_i d;split at e
  .omega
  .exact⟨d.1,d.2,by assumption⟩
 .omega
theorem cO {n:Int}(h:0<=n)(C:n<=19):1<=ID Gk n/\ID Gk n<=10:=by
 obtain⟨k,rfl⟩:∃k:Nat,n=k:=⟨n.toNat,by omega⟩;have d:∀k:Fin 20,1<=ID Gk ((k:Nat):Int)/\ID Gk ((k:Nat):Int)<=10:=by decide
 exact d ⟨k,by omega⟩
theorem N8 (a b:Int)(l:Bool):1<=B5 a b l/\B5 a b l<=19:=by
 unfold B5;split
 .split
  .have:=cO (n:=min ((b - a) / 100) 19) (by omega) (by omega);omega
  .have:=cO (n:=min ((a - b) / 100) 19) (by omega) (by omega);omega
 .omega
def BV (a b:Int):Int:=if a < b then -1 else if b < a then 1 else 0
def uI (u:List U)(c:Nat):Int:=(u.getD c default).toI
def uB (u:List U)(c:Nat):Bool:=(u.getD c default).toB
def uS (u:List U)(c:Nat):ByteArray:=(u.getD c default).toS
section
variable {lt:List U->List U->Bool}{x:List U}{P R S l:List (List U)}{k a i b:Nat}
def FD (lt:List U->List U->Bool)(x:List U):List (List U)->List (List U)
 |[]=>[x]
 |y::r=>if lt x y=true then y::FD lt x r else x::y::r
def E8 (lt:List U->List U->Bool)(l:List (List U)):List (List U):=l.foldl (fun aA x=>FD lt x aA) []
def AR (lt:List U->List U->Bool)(l:List (List U))(a b:Nat):List (List U):=l.take a++(E8 lt ((l.take b).drop a)).reverse++l.drop b
def Uy (lt:List U->List U->Bool)(l:List (List U))(a i:Nat):List (List U):=l.take a++(FD lt (l.getD i []) ((l.take i).drop a).reverse).reverse++l.drop (i+1)
def CR (P R S:List (List U))(x:List U)(k:Nat):List (List U):=P++(R.take k++x::R.drop k).reverse++S
theorem WB (d:k < R.length):CR P R S x k=(P++(R.drop (k+1)).reverse)++R.getD k []::x::((R.take k).reverse++S):=by
 have:R.drop k=R.getD k []::R.drop (k+1):=by
  rw[List.drop_eq_getElem_cons d,uD,tZ d];rfl
 unfold CR;rw[this];simp
theorem nd (d:k < R.length):CR P R S x (k+1)=(P++(R.drop (k+1)).reverse)++x::R.getD k []::((R.take k).reverse++S):=by
 have:R.take (k+1)=R.take k++[R.getD k []]:=by
  rw[List.take_add_one,uD,tZ d];rfl
 unfold CR;rw[this];simp
theorem pA {A B:List (List U)}{x y:List U}:((A++y::x::B).set (A.length+1) y).set A.length x=A++x::y::B:=by
 induction A with
 |nil=>rfl
 |cons c A d=>simp only[List.cons_append,uJ,List.set_cons_succ];rw[d]
theorem oq (d:k < R.length):((CR P R S x k).set (P.length+(R.length - k)) (R.getD k [])).set (P.length+(R.length - k) - 1) x=CR P R S x (k+1):=by
 rw[WB d,nd d];have e:(P++(R.drop (k+1)).reverse).length=P.length+(R.length - k) - 1:=by simp;omega
 rw[<-e,show P.length+(R.length - k)=(P++(R.drop (k+1)).reverse).length+1 by simp;omega];exact pA
theorem sE (d:k<=R.length):(CR P R S x k).getD (P.length+(R.length - k)) []=x:=by
 unfold CR;simp only[List.reverse_append,List.reverse_cons];rw[uD,uU,tw (by omega),uU,uU,tw (by simp)];simp
theorem od (d:k < R.length):(CR P R S x k).getD (P.length+(R.length - k) - 1) []=R.getD k []:=by
 rw[WB d,uD];have e:(P++(R.drop (k+1)).reverse).length=P.length+(R.length - k) - 1:=by simp;omega
 rw[<-e,tw (tY _)];simp
theorem pl:(CR P R S x k).length=P.length+R.length+1+S.length:=by
 unfold CR;simp;omega
theorem cr:∀{R:List (List U)} {k:Nat},k<=R.length->(∀q,q < k->lt x (R.getD q [])=true)->(k=R.length\/¬lt x (R.getD k [])=true)->FD lt x R=R.take k++x::R.drop k
 |[],k,h,_,_=>by
  have:k=0:=by simpa using h
  subst this;rfl
 |y::R,0,_,_,h=>by
  simp only[FD];rcases h with h|h
  .simp at h
  .rw[vA (by simpa using h)];rfl
 |y::R,k+1,h,C,O=>by
  simp only[FD];rw[vC (by simpa using C 0 (by omega)),cr (k:=k) (by simpa using h) (fun q d=>by simpa using C (q+1) (by omega)) (by
   rcases O with O|O
   .exact .inl (by simpa using O)
   .exact .inr (by simpa using O))]
  rfl
theorem ZN:∀{R:List (List U)},(FD lt x R).length=R.length+1
 |[]=>rfl
 |y::R=>by
  simp only[FD];split
  .simp[ZN (R:=R)]
  .rfl
theorem ge:E8 lt (l++[x])=FD lt x (E8 lt l):=by
 unfold E8;rw[List.foldl_append];rfl
theorem Ps:(E8 lt l).length=l.length:=by
 have h:∀(l aA:List (List U)),(l.foldl (fun aA x=>FD lt x aA) aA).length=aA.length+l.length:=by
  intro l;induction l with
  |nil=>exact fun _=>rfl
  |cons y l d=>intro aA;rw[List.foldl_cons,d,ZN];simp;omega
 unfold E8;rw[h];simp
def A6 (lt:List U->List U->Bool)(l:List (List U)):List (List U):=(E8 lt l).reverse
theorem OX {n:Nat}(h:n=l.length):AR lt l 0 n=A6 lt l:=by
 subst h;unfold AR A6;simp
theorem CH:(A6 lt l).length=l.length:=by unfold A6;rw[List.length_reverse,Ps]
theorem Yc {y:List U}:∀{R:List (List U)},y∈FD lt x R->y=x\/y∈R
 |[],h=>by simpa [FD] using h
 |z::R,h=>by
  simp only[FD] at h;split at h
  .rcases List.mem_cons.1 h with h|h
   .exact .inr (List.mem_cons.2 (.inl h))
   .rcases Yc h with h|h
    .exact .inl h
    .exact .inr (List.mem_cons.2 (.inr h))
  .rcases List.mem_cons.1 h with h|h
   .exact .inl h
   .exact .inr h
theorem Co (h:i < l.length):l.take (i+1)=l.take i++[l.getD i []]:=by
 rw[List.take_add_one,uD,tZ h];rfl
theorem PX (d:a<=i)(h:i < l.length):(l.take (i+1)).drop a=(l.take i).drop a++[l.getD i []]:=by
 rw[Co h,List.drop_append_of_le_length (by simp;omega)]
theorem Ke (h:a<=l.length):AR lt l a (a+1)=l:=by
 unfold AR;rcases tu a l.length with C|C
 .have e:(l.take (a+1)).drop a=[l.getD a []]:=by
   rw[PX (tY _) C];simp[List.drop_take]
  rw[e];show l.take a++[l.getD a []]++l.drop (a+1)=l;rw[<-Co C,ui]
 .have e:l.take a=l:=List.take_of_length_le C;have d:l.take (a+1)=l:=List.take_of_length_le (by omega);rw[d,List.drop_eq_nil_of_le C,List.drop_eq_nil_of_le (show l.length<=a+1 by omega),e];simp[E8]
theorem Jf (h:b<=a)(O:a<=b):AR lt l a b=l:=by
 obtain rfl:a=b:=by omega
 unfold AR;rw[List.drop_eq_nil_of_le (by simp;omega)];simp[E8]
theorem Dv (h:a<=b)(O:b<=l.length):(AR lt l a b).length=l.length:=by
 unfold AR;simp[Ps];omega
theorem Tz (h:a<=i)(O:i<=l.length):(AR lt l a i).take a=l.take a/\((AR lt l a i).take i).drop a=(E8 lt ((l.take i).drop a)).reverse/\(AR lt l a i).drop i=l.drop i:=by
 unfold AR;have d:(l.take a).length=a:=by simp;omega
 have t:((E8 lt ((l.take i).drop a)).reverse).length=i - a:=by simp[Ps];omega
 have r:(l.take a++(E8 lt ((l.take i).drop a)).reverse).length=i:=by rw[tq,d,t];omega
 refine⟨?_,?_,?_⟩
 .rw[uU,List.take_left' d]
 .rw[List.take_left' r,List.drop_left' d]
 .rw[List.drop_left' r]
theorem VY (h:a<=i)(O:i < l.length):AR lt l a (i+1)=Uy lt (AR lt l a i) a i:=by
 obtain⟨r,t,d⟩:=Tz (lt:=lt) h (Nat.le_of_lt O);unfold Uy;have w:(AR lt l a i).getD i []=l.getD i []:=by
  have:=vD (fun z=>z.getD 0 []) d;simpa [uD,uu] using this
 have A:(AR lt l a i).drop (i+1)=l.drop (i+1):=by
  have:=vD (fun z=>z.drop 1) d;simpa [ut,Nat.add_comm] using this
 rw[r,t,w,A,List.reverse_reverse];show l.take a++(E8 lt ((l.take (i+1)).drop a)).reverse++l.drop (i+1)=_;rw[PX h O,ge]
theorem ZZ (h:a<=i)(O:i < l.length):CR (l.take a) (((l.take i).drop a).reverse) (l.drop (i+1)) (l.getD i []) 0=l:=by
 unfold CR;simp only[List.take_zero,u9,List.drop_zero,List.reverse_cons,List.reverse_reverse];rw[<-PX h O];have e:l.take (i+1)=l.take a++(l.take (i+1)).drop a:=by
  have:=ui a (l.take (i+1));rw[List.take_take,Nat.min_eq_left (by omega)] at this;exact this.symm
 rw[<-e,ui]
theorem Yk (h:a<=i)(O:i < l.length)(t:k<=i - a)(d:∀q,q < k->lt (l.getD i []) ((((l.take i).drop a).reverse).getD q [])=true)(r:k=i - a\/¬lt (l.getD i []) ((((l.take i).drop a).reverse).getD k [])=true):
  CR (l.take a) (((l.take i).drop a).reverse) (l.drop (i+1)) (l.getD i []) k=Uy lt l a i:=by
 have e:(((l.take i).drop a).reverse).length=i - a:=by simp;omega
 unfold Uy CR;rw[cr (k:=k) (by rw[e];exact t) d (by rw[e];exact r)]
theorem MY {j:Nat}{c:List (List U)}(w:a<=j)(A:j<=i)(Y:i < l.length)(d:c=CR (l.take a) (((l.take i).drop a).reverse) (l.drop (i+1)) (l.getD i []) (i - j)):c.length=l.length/\c.getD j []=l.getD i []/\
  (a < j->c.getD (j - 1) []=(((l.take i).drop a).reverse).getD (i - j) []/\(c.set j (c.getD (j - 1) [])).set (j - 1) (c.getD j [])=CR (l.take a) (((l.take i).drop a).reverse) (l.drop (i+1)) (l.getD i []) (i - (j - 1))):=by
 have e:(((l.take i).drop a).reverse).length=i - a:=by simp;omega
 have h:(l.take a).length=a:=by simp;omega
 have r:(l.take a).length+((((l.take i).drop a).reverse).length - (i - j))=j:=by rw[e,h];omega
 have C:=sE (P:=l.take a) (R:=((l.take i).drop a).reverse) (S:=l.drop (i+1)) (x:=l.getD i []) (k:=i - j) (by rw[e];omega);rw[r,<-d] at C;refine⟨by rw[d,pl,e,h];simp;omega,C,fun z=>?_⟩;have O:=od (P:=l.take a) (R:=((l.take i).drop a).reverse) (S:=l.drop (i+1)) (x:=l.getD i []) (k:=i - j) (by rw[e];omega);have t:=oq (P:=l.take a) (R:=((l.take i).drop a).reverse) (S:=l.drop (i+1)) (x:=l.getD i []) (k:=i - j) (by rw[e];omega);rw[r,<-d] at O t;refine⟨O,?_⟩;rw[C,O,t,show i - (j - 1)=i - j+1 by omega]
end
variable{l:List (List U)}{i:Nat}{u:List U}
theorem Pu (h:(l.getD i []).length=u.length):EE l i 0 u=l.set i u:=by
 unfold EE;rw[tj,List.take_zero,u9,List.drop_eq_nil_of_le (by omega),uj]
theorem C9 {p:List U->Prop}(h:∀v∈l,p v)(d:p u):∀v∈l.set i u,p v:=fun v r=>by
 rcases List.mem_or_eq_of_mem_set r with C|C
 .exact h v C
 .rw[C];exact d
theorem Az (h:i < l.length):l.getD i []∈l:=by
 rw[uD,tZ h];exact um h
def KB:List Kd:=[.int .i64 IntKind.i64.min IntKind.i64.max,.int .i64 IntKind.i64.min IntKind.i64.max,.int .i64 IntKind.i64.min IntKind.i64.max,.bool,.str,.str,.bool,.int .i64 IntKind.i64.min IntKind.i64.max,.int .i64 IntKind.i64.min IntKind.i64.max]
theorem FI (h:AK AD KB u):[U.int (uI u 0),.int (uI u 1),.int (uI u 2),.bool (uB u 3),.str (uS u 4),.str (uS u 5),.bool (uB u 6),.int (uI u 7),.int (uI u 8)]=u:=by
 obtain⟨_,_,rfl,⟨_,rfl,_⟩,_,_,rfl,⟨_,rfl,_⟩,_,_,rfl,⟨_,rfl,_⟩,_,_,rfl,⟨_,rfl⟩,_,_,rfl,⟨_,rfl,_⟩,_,_,rfl,⟨_,rfl,_⟩,_,_,rfl,⟨_,rfl⟩,_,_,rfl,⟨_,rfl,_⟩,_,_,rfl,⟨_,rfl,_⟩,h⟩:=h;rw[show _=[] from h];rfl
theorem Z3 (h:AK AD KB u):u.length=9:=by rw[<-FI h];rfl
theorem Pb {v:List U}(aa:∀u∈l,AK AD KB u)(Y:i < l.length)(d:AK AD KB v):
  EE l i 0 [U.int (uI v 0),.int (uI v 1),.int (uI v 2),.bool (uB v 3),.str (uS v 4),.str (uS v 5),.bool (uB v 6),.int (uI v 7),.int (uI v 8)]=l.set i v:=by
 rw[FI d];exact Pu (by rw[Z3 (aa _ (Az Y)),Z3 d])
def ZW (u v:List U):Int:=if BV (uI u 2) (uI v 2)=0 then BV (uI u 0) (uI v 0) else BV (uI u 2) (uI v 2)
def ltB (u v:List U):Bool:=decide (ZW u v < 0)
structure WkO (lt:List U->List U->Bool):Prop where
 asym:∀a b,lt a b=true->¬lt b a=true
 tr:∀a b c,¬lt b a=true->¬lt c b=true->¬lt c a=true
section
variable {lt:List U->List U->Bool}{x:List U}{l af R:List (List U)}
theorem WM:∀{R:List (List U)},(FD lt x R).Perm (x::R)
 |[]=>List.Perm.refl _
 |y::R=>by
  simp only[FD];split
  .exact ((WM (R:=R)).cons y).trans (List.Perm.swap x y R)
  .exact List.Perm.refl _
theorem fw:(E8 lt l).Perm l:=by
 have h:∀(l aA:List (List U)),(l.foldl (fun aA x=>FD lt x aA) aA).Perm (l++aA):=by
  intro l;induction l with
  |nil=>exact fun aA=>List.Perm.refl _
  |cons y l d=>
   intro aA;rw[List.foldl_cons];exact ((d _).trans (WM.append_left l)).trans List.perm_middle
 have:=h l [];rwa [uj] at this
theorem DC:(A6 lt l).Perm l:=(List.reverse_perm _).trans fw
theorem QT {y:List U}:y∈A6 lt l↔y∈l:=DC.mem_iff
theorem RE (h:WkO lt):∀{R:List (List U)},R.Pairwise (fun a b=>¬lt a b=true)->(FD lt x R).Pairwise (fun a b=>¬lt a b=true)
 |[],_=>List.pairwise_singleton _ _
 |y::R,hp=>by
  rw[vJ] at hp;simp only[FD];split
  .rename_i r;refine vJ.2 ⟨fun z d=>?_,RE h hp.2⟩;rcases Yc d with rfl|d
   .exact h.asym _ _ r
   .exact hp.1 z d
  .rename_i r;refine vJ.2 ⟨fun z d=>?_,vJ.2 hp⟩;rcases List.mem_cons.1 d with rfl|d
   .exact r
   .exact h.tr _ _ _ (hp.1 z d) r
theorem aT (h:WkO lt):(E8 lt l).Pairwise (fun a b=>¬lt a b=true):=by
 have t:∀(l aA:List (List U)),aA.Pairwise (fun a b=>¬lt a b=true)->(l.foldl (fun aA x=>FD lt x aA) aA).Pairwise (fun a b=>¬lt a b=true):=by
  intro l;induction l with
  |nil=>exact fun aA h=>h
  |cons y l r=>intro aA d;rw[List.foldl_cons];exact r _ (RE h d)
 exact t l [] List.Pairwise.nil
theorem Cl (h:WkO lt):(A6 lt l).Pairwise (fun a b=>¬lt b a=true):=by
 unfold A6;exact List.pairwise_reverse.2 (aT h)
theorem Ol (d:l.Perm af)(C:l.Pairwise (fun a b=>¬lt b a=true))(O:af.Pairwise (fun a b=>¬lt b a=true))(hd:∀a b,a∈l->b∈l->¬lt a b=true->¬lt b a=true->a=b):l=af:=
 List.Perm.eq_of_pairwise (le:=fun a b=>¬lt b a=true) (fun a b h r x y=>hd a b h (d.mem_iff.2 r) y x) C O d
theorem OY (h:WkO lt)(t:l.Perm af)(hd:∀a b,a∈l->b∈l->¬lt a b=true->¬lt b a=true->a=b):A6 lt l=A6 lt af:=
 Ol (DC.trans (t.trans DC.symm)) (Cl h) (Cl h) fun a b d r=>hd a b (QT.1 d) (QT.1 r)
end
variable{a b:Int}{u v k:List U}{p:List U->Prop}{l:List (List U)}{i:Nat}
theorem Ze :BV a b < 0↔a < b:=by
 unfold BV;split
 .omega
 .split<;>omega
theorem cG :BV a b=0↔a=b:=by
 unfold BV;split
 .omega
 .split<;>omega
theorem IX :ltB u v=true↔(uI u 2 < uI v 2\/(uI u 2=uI v 2/\uI u 0 < uI v 0)):=by
 unfold ltB ZW;rw[decide_eq_true_eq];split
 .rename_i h;rw[Ze];have:=cG.1 h;omega
 .rename_i h;rw[Ze];have:¬uI u 2=uI v 2:=fun e=>h (cG.2 e);omega
theorem wkB:WkO ltB where
 asym:=fun a b h=>by rw[IX] at h⊢;omega
 tr:=fun a b c C O=>by rw[IX] at C O⊢;omega
def Mk (m:List (List U))(n:Int):Prop:=Ah 1 m [.int n] < m.length
instance (m:List (List U))(n:Int):Decidable (Mk m n):=by unfold Mk;infer_instance
def VI (m:List (List U))(n:Int):Int:=(CX 1 1 m (.int 0) [.int n]).toI
def HA (m:List (List U))(u:List U):List (List U):=if¬Mk m (uI u 0)\/VI m (uI u 0) < uI u 1 then BG 1 m [.int (uI u 0)] u else m
def Ar (l:List (List U)):List (List U):=l.foldl HA []
def CQ (r:List U):List (List U):=if uB r 4=true then [] else [r.drop 1]
def Bi (l:List (List U)):List (List U):=A6 ltB ((Ar l).flatMap CQ)
structure J4 (p:List U->Prop) (m:List (List U)):Prop where
 row:∀r∈m,∃u,r=U.int (uI u 0)::u/\p u
 once:m.Pairwise fun a b=>uI a 0≠uI b 0
theorem Y1 {m:List (List U)}(h:J4 p m){n:Int}(Y:Mk m n):uI (m[Ah 1 m [.int n]]'Y) 0=n:=by
 have d:Ah 1 m [.int n] < m.length:=Y;have C:BX ((m[Ah 1 m [.int n]]'d).take 1) [.int n]=true:=List.findIdx_getElem (w:=d);obtain⟨u,t,_⟩:=h.row _ (um d);show uI (m[Ah 1 m [.int n]]'d) 0=n;generalize m[Ah 1 m [.int n]]'d=r at C t;rw[t] at C⊢;simp only[List.take_succ_cons,List.take_zero,BX,U.eqv,Bool.and_true,decide_eq_true_eq] at C;exact C
theorem cV {m:List (List U)}(h:J4 p m){n:Int}(Y:¬Mk m n):∀r∈m,uI r 0≠n:=fun r d e=>by
 have C:Ah 1 m [.int n]=m.length:=by
  have:=List.findIdx_le_length (xs:=m) (p:=fun r=>BX (r.take 1) [.int n]);unfold Mk Ah at Y;unfold Ah;omega
 unfold Ah at C;rw[List.findIdx_eq_length] at C;have O:=C r d;obtain⟨u,t,_⟩:=h.row r d;rw[t] at O e;have e':uI u 0=n:=e;simp[BX,U.eqv,e'] at O
theorem mE {m:List (List U)}(h:J4 p m)(F:p u):J4 p (HA m u):=by
 unfold HA;split
 .unfold BG;by_cases Y:Mk m (uI u 0)
  .rw[show decide (Ah 1 m [.int (uI u 0)] < m.length)=true from decide_eq_true Y];refine⟨fun r t=>?_,?_⟩
   .rcases List.mem_or_eq_of_mem_set t with C|C
    .exact h.row r C
    .exact⟨u,C,F⟩
   .rw[vE];intro i j A E K;simp only[cond_true,ud] at A E;have d:=vE.1 h.once i j A E K;have w:=Y1 h Y;simp only[cond_true,List.getElem_set];split
    .rename_i e;subst e;split
     .omega
     .exact fun e=>d (w.trans e)
    .split
     .rename_i e;subst e;exact fun e=>d (e.trans w.symm)
     .exact d
  .rw[show decide (Ah 1 m [.int (uI u 0)] < m.length)=false from decide_eq_false Y];refine⟨fun r t=>?_,?_⟩
   .rcases uY.1 t with C|C
    .exact h.row r C
    .simp at C;exact⟨u,C,F⟩
   .simp only[cond_false];rw[vH];refine⟨h.once,List.pairwise_singleton _ _,fun a J b z=>?_⟩;simp at z;subst z;show _≠uI u 0;exact cV h Y a J
 .exact h
theorem qu (m:List (List U))(u:List U):(HA m u).length<=m.length+1:=by
 unfold HA BG;split
 .cases decide (Ah 1 m [.int (uI u 0)] < m.length)<;>simp
 .omega
theorem UH :Ar (l++[u])=HA (Ar l) u:=by unfold Ar;rw[List.foldl_append];rfl
theorem WR {p:List U->Prop}:∀{l:List (List U)} {m:List (List U)},J4 p m->(∀u∈l,p u)->J4 p (l.foldl HA m)
 |[],m,h,_=>h
 |u::l,m,h,hl=>by
  rw[List.foldl_cons];exact WR (mE h (hl u (tl ..))) fun v d=>hl v (th _ d)
theorem JN :J4 (· ∈l) (Ar l):=WR ⟨fun r h=>(by cases h),List.Pairwise.nil⟩ fun u h=>h
theorem Xd:∀{l:List (List U)} {m:List (List U)},(l.foldl HA m).length<=m.length+l.length
 |[],m=>tY _
 |u::l,m=>by
  rw[List.foldl_cons];have:=Xd (l:=l) (m:=HA m u);have:=qu m u;simp only[uJ];omega
theorem Yg :(Ar l).length<=l.length:=by have:=Xd (l:=l) (m:=[]);unfold Ar;simpa using this
theorem ly {r:List U}:(CQ r).length<=1:=by unfold CQ;split<;>simp
theorem R6:∀{m:List (List U)},(m.flatMap CQ).length<=m.length
 |[]=>tY _
 |r::m=>by
  rw[List.flatMap_cons,tq,uJ];have:=R6 (m:=m);have:=ly (r:=r);omega
theorem ZA {m:List (List U)}(h:J4 p m){a b:List U}(t:a∈m.flatMap CQ)(J:b∈m.flatMap CQ)(e:uI a 0=uI b 0):a=b:=by
 have mem:∀{a},a∈m.flatMap CQ->∃r∈m,a=r.drop 1/\uI r 0=uI a 0:=fun {a} t=>by
  obtain⟨r,d,C⟩:=List.mem_flatMap.1 t;unfold CQ at C;split at C
  .cases C
  .simp at C;obtain⟨u,K,_⟩:=h.row r d;refine⟨r,d,by simpa using C,?_⟩;rw[K] at C⊢;simp at C;rw[C];rfl
 obtain⟨r,d,E,w⟩:=mem t;obtain⟨s,aa,F,z⟩:=mem J;have:r=s:=by
  obtain⟨i,Y,rfl⟩:=uk.1 d;obtain⟨j,A,rfl⟩:=uk.1 aa;rcases Nat.lt_trichotomy i j with C|C|C
  .exact absurd (w.trans (e.trans z.symm)) (vE.1 h.once i j Y A C)
  .subst C;rfl
  .exact absurd (z.trans (e.symm.trans w.symm)) (vE.1 h.once j i A Y C)
 rw[E,F,this]
theorem ia {aj:List (List U)}(h:aj.Perm ((Ar l).flatMap CQ)):A6 ltB aj=Bi l:=by
 refine OY wkB h fun a b d r C O=>?_;rw[IX] at C O;exact ZA JN (h.mem_iff.1 d) (h.mem_iff.1 r) (by omega)
def KP:List Kd:=[.str,.int .i64 IntKind.i64.min IntKind.i64.max,.int .i64 IntKind.i64.min IntKind.i64.max]
def Xw (m:List (List U))(u:List U):List (List U):=BG 1 m [.str (uS u 0)] [.bool true]
def EW (l:List (List U)):List (List U):=l.foldl Xw []
def HV (u:List U):Bool:=Dm (uS u 0) (uI u 1) (uI u 2)
def Br (l:List (List U)):Int:=if 24 < l.length then 6 else if¬l.all HV=true then 2 else if (EW l).length < l.length then 12 else 0
def Eh (n v a:Int)(w l:ByteArray)(p q:Int):Int:=
 if (In n 0 1099511627776&&In a 0 1099511627776&&In v 0 1048576&&Ch w&&Ch l&& !decide (w=l)&&decide (0<=q)&&decide (q<=p)&&decide (p<=26))=true then 0 else 2
def DV (u:List U):Bool:=decide (Eh (uI u 0) (uI u 1) (uI u 2) (uS u 4) (uS u 5) (uI u 7) (uI u 8)=0)
def CG (u:List U):List U:=[.int (uI u 0),.int (uI u 1)]
def D0 (u v:List U):Bool:=decide (uI u 0=uI v 0)&&decide (uI u 1=uI v 1)&&decide (uI u 2=uI v 2)&&decide (uB u 3=uB v 3)&&decide (uS u 4=uS v 4)&&decide (uS u 5=uS v 5)&&decide (uB u 6=uB v 6)&&decide (uI u 7=uI v 7)&&decide (uI u 8=uI v 8)
def JI (m:List (List U))(u:List U):Bool:=decide (Ah 2 m (CG u) < m.length)&& !D0 ((m.getD (Ah 2 m (CG u)) []).drop 2) u
def Ci (m:List (List U)):List (List U)->Bool
 |[]=>true
 |u::l=>if JI m u=true then false else Ci (BG 2 m (CG u) u) l
def CT (l:List (List U)):Bool:=Ci [] l
theorem J9 {G:Nat}{m:List (List U)}:(BG G m k v).length<=m.length+1:=by
 unfold BG;cases decide (Ah G m k < m.length)<;>simp
theorem bS :EW (l++[u])=Xw (EW l) u:=by unfold EW;rw[List.foldl_append];rfl
theorem WF:∀{l m:List (List U)},(l.foldl Xw m).length<=m.length+l.length
 |[],m=>tY _
 |u::l,m=>by
  rw[List.foldl_cons];have:=WF (l:=l) (m:=Xw m u);have h:(Xw m u).length<=m.length+1:=J9;simp only[uJ];omega
theorem dU :(EW l).length<=l.length:=by have:=WF (l:=l) (m:=[]);unfold EW;simpa using this
theorem R2 {p:List U->Bool}:(l++[u]).all p=true↔(l.all p=true/\p u=true):=by simp
theorem Q4 {m:List (List U)}(h:i < l.length):Ci m (l.drop i)=if JI m (l.getD i [])=true then false else Ci (BG 2 m (CG (l.getD i [])) (l.getD i [])) (l.drop (i+1)):=by
 have:l.drop i=l.getD i []::l.drop (i+1):=by
  rw[List.drop_eq_getElem_cons h,uD,tZ h];rfl
 rw[this];rfl
theorem ZK {m:List (List U)}{c:Bool}{d r t E F Z z1 z2 z7 z8:Int}{w C z3 z6:Bool}{z A z4 z5:ByteArray}{q0 q1 q2 q3 q4 q5 q6 q7 q8:U}
  (h:c=true↔(Ah 2 m k < m.length/\¬(Z=d/\z1=r/\z2=t/\(z3=true↔w=true)/\z4=z/\z5=A/\(z6=true↔C=true)/\z7=E/\z8=F))) (hk:k=CG (l.getD i []))
  (J:Z=(CX 2 0 m q0 k).toI) (K:z1=(CX 2 1 m q1 k).toI) (N:z2=(CX 2 2 m q2 k).toI) (O:z3=(CX 2 3 m q3 k).toB) (Q:z4=(CX 2 4 m q4 k).toS) (T:z5=(CX 2 5 m q5 k).toS) (V:z6=(CX 2 6 m q6 k).toB) (W:z7=(CX 2 7 m q7 k).toI) (Y:z8=(CX 2 8 m q8 k).toI)
  (f0:d=Ad l i 0) (f1:r=Ad l i 1) (f2:t=Ad l i 2) (f3:w=Bx l i 3) (f4:z=BL l i 4) (f5:A=BL l i 5) (f6:C=Bx l i 6) (f7:E=Ad l i 7) (f8:F=Ad l i 8):c=true↔JI m (l.getD i [])=true:=by
 rw[h];subst hk;unfold JI;rw[tV,decide_eq_true_eq];refine and_congr_right fun bc=>?_;have g:∀(n:Nat) (q:U),CX 2 n m q (CG (l.getD i []))=((m.getD (Ah 2 m (CG (l.getD i []))) []).drop 2).getD n default:=fun n q=>by
  unfold CX;rw[decide_eq_true bc];simp[uD,uu]
 rw[g] at J K N O Q T V W Y;have b:∀x y:Bool,(x=true↔y=true)↔x=y:=fun x y=>by cases x<;>cases y<;>simp
 rw[b,b,J,K,N,O,Q,T,V,W,Y,f0,f1,f2,f3,f4,f5,f6,f7,f8];unfold D0;simp only[Bool.not_eq_true',<-Bool.not_eq_true,tV,decide_eq_true_eq,and_assoc];exact Iff.rfl
def AO (l:List (List U)):Int:=if 200 < l.length then 6 else if¬l.all DV=true then 2 else if CT l=true then 0 else 12
def BZ (l:List (List U))(o:Nat->Nat):List (List U):=(List.range l.length).map fun q=>l.getD (o q) []
def swS (a b n q:Nat):Nat:=if a<=q/\q < a+n then q+(b - a) else if b<=q/\q < b+n then q - (b - a) else q
def rtS (a m b q:Nat):Nat:=if a<=q/\q < a+(b - m) then q+(m - a) else if a+(b - m)<=q/\q < b then q - (b - m) else q
def B9 (l:List (List U))(a m b:Nat):List (List U):=l.take a++((l.take b).drop m++((l.take m).drop a++l.drop b))
section
variable {l c:List (List U)}{o D :Nat->Nat}{a b m n i j:Nat}
theorem FF:(BZ l o).length=l.length:=by unfold BZ;simp
variable{q:Nat}
theorem G4 (h:q < l.length):(BZ l o).getD q []=l.getD (o q) []:=by
 unfold BZ;rw[uD,uP,List.getElem?_range h];rfl
theorem N7 (h:c.length=l.length)(O:∀q,q < l.length->c.getD q []=l.getD q []):c=l:=by
 refine List.ext_getElem h fun q r d=>?_;have:=O q d;rwa [uD,uD,tZ r,tZ d] at this
theorem LY (h:c.length=l.length)(O:∀q,q < l.length->c.getD q []=l.getD (o q) []):c=BZ l o:=
 N7 (by rw[h,FF]) fun q d=>by rw[FF] at d;rw[O q d,G4 d]
theorem qR (h:∀q,q < l.length->o q=q):BZ l o=l:=(LY rfl fun q d=>by rw[h q d]).symm
theorem Vj {V :Nat->Nat}(h:∀q,q < l.length-> D q < l.length/\o (D q)= V q):BZ (BZ l o) D =BZ l V :=
 LY (by rw[FF,FF]) fun q d=>by
  rw[G4 (by rw[FF];exact d),G4 (h q d).1,(h q d).2]
theorem QG {x y:List U}(Y:i < c.length)(d:j < c.length):((c.set i x).set j y).getD q []=if q=j then y else if q=i then x else c.getD q []:=by
 rw[uD,u4,u4,ud,uD];by_cases C:j=q
 .subst C;rw[vC rfl,vC d,vC rfl];rfl
 .rw[vA C,vA (show¬q=j from fun h=>C h.symm)];by_cases O:i=q
  .subst O;rw[vC rfl,vC Y,vC rfl];rfl
  .rw[vA O,vA (show¬q=i from fun h=>O h.symm)]
theorem qV (h:c=BZ l (swS a b i))(t:a+i < b)(w:b+i < l.length):
  (c.set (a+i) (c.getD (b+i) [])).set (b+i) (c.getD (a+i) [])=BZ l (swS a b (i+1)):=by
 have d:c.length=l.length:=by rw[h,FF]
 refine LY (by rw[ud,ud,d]) fun q r=>?_;rw[QG (by omega) (by omega),h,G4 (by omega),G4 (by omega)];by_cases C:q=b+i
 .subst C;rw[vC rfl];congr 1;unfold swS
  (repeat' split)<;>omega
 .rw[vA C];by_cases O:q=a+i
  .subst O;rw[vC rfl];congr 1;unfold swS
   (repeat' split)<;>omega
  .rw[vA O,G4 r];congr 1;unfold swS
   (repeat' split)<;>omega
theorem qw:BZ l (swS a b 0)=l:=qR fun q _=>by
 unfold swS
 (repeat' split)<;>omega
theorem sm (h:j < i)(Y:i<=m)(d:m+j<=l.length):BZ (BZ l (swS (m - i) m j)) (rtS (m - (i - j)) m (m+j))=BZ l (rtS (m - i) m (m+j)):=
 Vj fun q r=>by
  unfold swS rtS;constructor
  ·(repeat' split)<;>omega
  ·(repeat' split)<;>omega
theorem rN (h:i < j)(Y:i<=m)(d:m+j<=l.length):BZ (BZ l (swS (m - i) (m+j - i) i)) (rtS (m - i) m (m+(j - i)))=BZ l (rtS (m - i) m (m+j)):=
 Vj fun q r=>by
  unfold swS rtS;constructor
  ·(repeat' split)<;>omega
  ·(repeat' split)<;>omega
theorem sc (Y:i<=m)(h:m+i<=l.length):BZ l (swS (m - i) m i)=BZ l (rtS (m - i) m (m+i)):=
 (LY FF fun q d=>by
  rw[G4 d];congr 1;unfold swS rtS
  (repeat' split)<;>omega)
theorem FA (C:a<=m)(O:m<=b)(d:b<=l.length):(B9 l a m b).length=l.length:=by
 unfold B9;simp only[tq,uX,ue];omega
theorem EQ (C:a<=m)(O:m<=b)(r:b<=l.length):(B9 l a m b).getD q []=l.getD (rtS a m b q) []:=by
 unfold B9 rtS;rw[uD,uD];congr 1;simp only[uw,uX,ue,ux,uu];rw[show min a l.length=a by omega,show min b l.length=b by omega,show min m l.length=m by omega];by_cases aL:q < a
 .rw[vC aL,vC aL,vA (by omega),vA (by omega)]
 .rw[vA aL];by_cases d:q - a < b - m
  .rw[vC d,vC (by omega),vC (by omega)];congr 1;omega
  .rw[vA d];by_cases h:q - a - (b - m) < m - a
   .rw[vC h,vC (by omega),vA (by omega),vC (by omega)];congr 1;omega
   .rw[vA h,vA (by omega),vA (by omega)];congr 1;omega
theorem p9 (C:a<=m)(O:m<=b)(d:b<=l.length):BZ l (rtS a m b)=B9 l a m b:=
 (LY (FA C O d) fun q _=>EQ C O d).symm
theorem QM (C:a=m\/m=b)(O:a<=m)(h:m<=b)(d:b<=l.length):B9 l a m b=l:=
 N7 (FA O h d) fun q _=>by
  rw[EQ O h d];congr 1;unfold rtS
  (repeat' split)<;>omega
theorem rV (h:c=B9 l a (a+1) (i+1))(r:a<=i)(Y:i+1 < l.length):
  (c.set i (c.getD (i+1) [])).set (i+1) (c.getD i [])=B9 l a (a+1) (i+2):=by
 have d:c.length=l.length:=by rw[h,FA]<;>omega
 refine N7 (by rw[ud,ud,d,FA]<;>omega) fun q t=>?_;rw[QG (by omega) (by omega),h,EQ (by omega) (by omega) (by omega),EQ (by omega) (by omega) (by omega),EQ (by omega) (by omega) (by omega),EQ (by omega) (by omega) (by omega)];by_cases C:q=i+1
 .subst C;rw[vC rfl];congr 1;unfold rtS
  (repeat' split)<;>omega
 .rw[vA C];by_cases O:q=i
  .subst O;rw[vC rfl];congr 1;unfold rtS
   (repeat' split)<;>omega
  .rw[vA O];congr 1;unfold rtS
   (repeat' split)<;>omega
theorem mA (h:c=B9 l i m (m+1))(C:1<=i)(Y:i<=m)(r:m+1<=l.length):
  (c.set i (c.getD (i - 1) [])).set (i - 1) (c.getD i [])=B9 l (i - 1) m (m+1):=by
 have d:c.length=l.length:=by rw[h,FA]<;>omega
 refine N7 (by rw[ud,ud,d,FA]<;>omega) fun q t=>?_;rw[QG (by omega) (by omega),h,EQ (by omega) (by omega) (by omega),EQ (by omega) (by omega) (by omega),EQ (by omega) (by omega) (by omega),EQ (by omega) (by omega) (by omega)];by_cases C:q=i - 1
 .subst C;rw[vC rfl];congr 1;unfold rtS
  (repeat' split)<;>omega
 .rw[vA C];by_cases O:q=i
  .subst O;rw[vC rfl];congr 1;unfold rtS
   (repeat' split)<;>omega
  .rw[vA O];congr 1;unfold rtS
   (repeat' split)<;>omega
end
theorem IV {x:Int}(C:0<=x)(O:x<=18446744073709551615):IntKind.u64.wrap x=x:=by
 refine EX .u64 x ?_ ?_<;>simp[IntKind.min,IntKind.max,IntKind.signed,IntKind.bits]<;>omega
def seg (l:List (List U))(a b:Nat):List (List U):=(l.take b).drop a
def Srt (lt:List U->List U->Bool)(l:List (List U)):Prop:=l.Pairwise fun x y=>¬lt y x=true
def Dst (lt:List U->List U->Bool)(l:List (List U)):Prop:=∀x y,x∈l->y∈l->¬lt x y=true->¬lt y x=true->x=y
section
variable {lt:List U->List U->Bool}{l c:List (List U)}{a b m s e:Nat}
theorem spl {i j:Nat}(h:i<=j):l.drop i=(l.drop i).take (j - i)++l.drop j:=by
 have e:l.drop j=(l.drop i).drop (j - i):=by rw[ut,show i+(j - i)=j by omega]
 rw[e,ui]
theorem C2 (h:b<=l.length):(seg l a b).length=b - a:=by unfold seg;rw[ue,uX];omega
theorem EO (h:a<=b):seg l a b=(l.drop a).take (b - a):=by unfold seg;rw[List.drop_take]
theorem DR (h:a<=m)(O:m<=b):seg l a b=seg l a m++seg l m b:=by
 rw[EO (t8 h O),EO h,EO O];have e:=spl (l:=l) (i:=a) (j:=m) h
 conv=>lhs;rw[e]
 rw[List.take_append];congr 1
 .rw[List.take_take];congr 1;omega
 .rw[uX,ue];by_cases d:m<=l.length
  .congr 1;omega
  .rw[List.drop_eq_nil_of_le (by omega)];simp
theorem qT {d r:Nat}(h:a<=d)(t:d<=r)(O:r<=b):seg l d r ⊆ seg l a b:=fun x w=>by
 rw[DR h (t8 t O),DR t O];exact uY.2 (.inr (uY.2 (.inl w)))
variable{q x p aC y:Nat}{X P aL:List (List U)}
theorem M7 (C:a<=q)(O:q < b)(d:q < l.length):(seg l a b)[q - a]? =some (l.getD q []):=by
 unfold seg;rw[uu,ux,show a+(q - a)=q by omega,vC O,uD,tZ d];rfl
theorem FW {x:List U}(d:b<=l.length)(h:x∈seg l a b):∃q,a<=q/\q < b/\l.getD q []=x:=by
 obtain⟨k,r,rfl⟩:=uk.1 h;rw[C2 d] at r;have:=M7 (l:=l) (a:=a) (b:=b) (q:=a+k) (by omega) (by omega) (by omega);refine⟨a+k,by omega,by omega,?_⟩;rw[show a+k - a=k by omega,tZ (by rw[C2 d];omega)] at this;exact (Option.some.inj this).symm
theorem GJ (h:Srt lt (seg l a b))(t:a<=p)(F:p < q)(w:q < b)(A:b<=l.length):¬lt (l.getD q []) (l.getD p [])=true:=by
 have C:=M7 (l:=l) (a:=a) (b:=b) (q:=p) t (by omega) (by omega);have O:=M7 (l:=l) (a:=a) (b:=b) (q:=q) (by omega) w (by omega);obtain⟨z,d⟩:=tc.1 C;obtain⟨E,r⟩:=tc.1 O;have:=(vE.1 h) (p - a) (q - a) z E (by omega);rwa [d,r] at this
theorem JQ (t:WkO lt)(h:Srt lt (seg l a b))(d:a<=p)(w:p<=q)(z:q < b)(r:b<=l.length):¬lt (l.getD q []) (l.getD p [])=true:=by
 rcases Nat.lt_or_eq_of_le w with C|C
 .exact GJ h d C z r
 .subst C;exact fun h=>t.asym _ _ h h
theorem NR (d:b<=l.length)(h:∀p q,a<=p->p < q->q < b->¬lt (l.getD q []) (l.getD p [])=true):Srt lt (seg l a b):=by
 refine vE.2 fun i j Y r t=>?_;rw[C2 d] at Y r;have C:=M7 (l:=l) (a:=a) (b:=b) (q:=a+i) (by omega) (by omega) (by omega);have O:=M7 (l:=l) (a:=a) (b:=b) (q:=a+j) (by omega) (by omega) (by omega);rw[show a+i - a=i by omega] at C;rw[show a+j - a=j by omega] at O;rw[(tc.1 C).2,(tc.1 O).2];exact h _ _ (by omega) (by omega) (by omega)
theorem SV:AR lt l a b=l.take a++(A6 lt (seg l a b)++l.drop b):=by
 unfold AR A6 seg;rw[uU]
theorem Qm (r:WkO lt)(hd:Dst lt (seg l a b))(h:c=l.take a++(X++l.drop b))(d:X.Perm (seg l a b))(aa:Srt lt X):c=AR lt l a b:=by
 rw[h,SV];congr 2;refine Ol (lt:=lt) (d.trans DC.symm) aa (Cl r) fun x y t w C O=>?_;exact hd x y (d.subset t) (d.subset w) C O
theorem RP (h:WkO lt)(hd:Dst lt (seg l a b))(aa:Srt lt (seg l a b))(d:a<=b):AR lt l a b=l:=by
 refine (Qm h hd ?_ (List.Perm.refl _) aa).symm;rw[EO d,<-spl d,ui]
theorem J2 (C:a<=s)(O:s<=m)(t:m<=e)(d:e<=b)(w:b<=l.length):
  B9 l s m e=l.take a++(seg l a s++(seg l m e++(seg l s m++(seg l e b++l.drop b)))):=by
 have h:l.take s=l.take a++seg l a s:=by
  have:=ui a (l.take s);rw[List.take_take,show min a s=a by omega] at this;exact this.symm
 have r:l.drop e=seg l e b++l.drop b:=by rw[EO d];exact spl d
 unfold B9;rw[h,r];simp only[uU];rfl
theorem SS {S:List (List U)}:AR lt (P++(X++S)) P.length (P.length+X.length)=P++(A6 lt X++S):=by
 rw[SV];have C:(P++(X++S)).take P.length=P:=List.take_left' rfl;have O:seg (P++(X++S)) P.length (P.length+X.length)=X:=by
  rw[EO (Nat.le_add_right _ _),List.drop_left' rfl,show P.length+X.length - P.length=X.length by omega,List.take_left' rfl]
 have d:(P++(X++S)).drop (P.length+X.length)=S:=by
  rw[<-ut,List.drop_left' rfl,List.drop_left' rfl]
 rw[C,O,d]
theorem oO (d:WkO lt){N Q:List (List U)}(z:a<=s)(V:s<=m)(E:m<=e)(T:e<=b)(A:b<=l.length)(a0:aC+m=s+e)
  (C:Srt lt (seg l a m)) (O:Srt lt (seg l m b)) (hd:Dst lt (seg l a b))
  (h:s=a\/e=b\/¬lt (l.getD e []) (l.getD (s - 1) [])=true) (t:e=m\/s=m\/lt (l.getD (e - 1) []) (l.getD s [])=true)
  (ad:aL=B9 l s m e) (ag:N=AR lt aL a aC) (al:Q=AR lt N aC b):Q=AR lt l a b:=by
 have W:(l.take a).length=a:=by rw[uX];omega
 have ax:=J2 (l:=l) z V E T A;have Z:aL=l.take a++((seg l a s++seg l m e)++(seg l s m++(seg l e b++l.drop b))):=by rw[ad,ax];simp only[uU]
 have am:a+(seg l a s++seg l m e).length=aC:=by rw[tq,C2 (by omega),C2 (by omega)];omega
 have ao:N=l.take a++(A6 lt (seg l a s++seg l m e)++(seg l s m++(seg l e b++l.drop b))):=by
  have:=SS (lt:=lt) (P:=l.take a) (X:=seg l a s++seg l m e) (S:=seg l s m++(seg l e b++l.drop b));rw[W,am,<-Z,<-ag] at this;exact this
 have g3:Q=l.take a++((A6 lt (seg l a s++seg l m e)++A6 lt (seg l s m++seg l e b))++l.drop b):=by
  have:=SS (lt:=lt) (P:=l.take a++A6 lt (seg l a s++seg l m e)) (X:=seg l s m++seg l e b) (S:=l.drop b);rw[tq,W,CH,am,show aC+(seg l s m++seg l e b).length=b by rw[tq,C2 (by omega),C2 (by omega)];omega] at this;rw[al,ao];simp only[uU] at this⊢;exact this
 refine Qm d hd g3 ?_ ?_
 .rw[DR (l:=l) (t8 z V) (t8 E T),DR (l:=l) z V,DR (l:=l) E T];refine (DC.append DC).trans ?_;simp only[uU];refine List.Perm.append_left _ ?_;rw[<-uU,<-uU];exact List.Perm.append_right _ List.perm_append_comm
 .refine vH.2 ⟨Cl d,Cl d,fun x r y w=>?_⟩;rw[QT,uY] at r w;have K:=d.tr;rcases r with r|r<;>obtain⟨p,F,p2,rfl⟩:=FW (by omega) r<;>rcases w with w|w<;>obtain⟨q,Y,J,rfl⟩:=FW (by omega) w
  .exact GJ C F (by omega) J (by omega)
  .rcases h with h|h|h
   .omega
   .omega
   .exact K _ _ _ (K _ _ _ (JQ d C F (q:=s - 1) (by omega) (by omega) (by omega)) h) (JQ d O E (p:=e) Y J A)
  .rcases t with t|t|t
   .omega
   .omega
   .exact K _ _ _ (K _ _ _ (JQ d O F (q:=e - 1) (by omega) (by omega) A) (d.asym _ _ t)) (JQ d C z (p:=s) Y J (by omega))
  .exact GJ O F (by omega) J A
theorem rX (r:WkO lt)(E:a+1<=e)(N:e<=b)(d:b<=l.length)(O:Srt lt (seg l (a+1) b))(hd:Dst lt (seg l a b))
  (w:e=a+1\/lt (l.getD (e - 1) []) (l.getD a [])=true) (z:e=b\/¬lt (l.getD e []) (l.getD a [])=true):B9 l a (a+1) e=AR lt l a b:=by
 have W:=FA (l:=l) (a:=a) (m:=a+1) (b:=e) (by omega) E (by omega);have ax:=J2 (l:=l) (a:=a) (s:=a) (m:=a+1) (e:=e) (b:=b) (tY _) (by omega) E N d;have n0:seg l a a=[]:=List.eq_nil_of_length_eq_zero (by rw[C2 (by omega)];omega);rw[n0,u9] at ax;have g:B9 l a (a+1) e=l.take a++((seg l (a+1) e++(seg l a (a+1)++seg l e b))++l.drop b):=by rw[ax];simp only[uU]
 refine Qm r hd g ?_ ?_
 .rw[DR (l:=l) (a:=a) (m:=a+1) (b:=b) (by omega) (by omega),DR (l:=l) E N,<-uU,<-uU];exact List.Perm.append_right _ List.perm_append_comm
 .have T:=r.tr;refine vH.2 ⟨?_,vH.2 ⟨?_,?_,fun x F y h=>?_⟩,fun x F y h=>?_⟩
  .exact NR (by omega) fun p q A t C=>GJ O A t (by omega) d
  .exact NR (by omega) fun p q A t C=>by omega
  .exact NR d fun p q A t C=>GJ O (by omega) t C d
  .obtain⟨p,J,V,rfl⟩:=FW (by omega) F;obtain⟨q,Q,K,rfl⟩:=FW (by omega) h;obtain rfl:p=a:=by omega
   rcases z with z|z
   .omega
   .exact T _ _ _ z (JQ r O (p:=e) (by omega) Q K d)
  .obtain⟨p,J,V,rfl⟩:=FW (by omega) F;rcases uY.1 h with h|h<;>obtain⟨q,Q,K,rfl⟩:=FW (by omega) h
   .obtain rfl:q=a:=by omega
    rcases w with w|w
    .omega
    .exact T _ _ _ (JQ r O J (q:=e - 1) (by omega) (by omega) d) (r.asym _ _ w)
   .exact GJ O J (by omega) K d
theorem mW (h:WkO lt)(E:a<=s)(N:s<=m)(T:m+1<=l.length)(C:Srt lt (seg l a m))(hd:Dst lt (seg l a (m+1)))
  (t:s=a\/¬lt (l.getD m []) (l.getD (s - 1) [])=true) (w:s=m\/lt (l.getD m []) (l.getD s [])=true):B9 l s m (m+1)=AR lt l a (m+1):=by
 have ax:=J2 (l:=l) (a:=a) (s:=s) (m:=m) (e:=m+1) (b:=m+1) E N (by omega) (tY _) T;have n0:seg l (m+1) (m+1)=[]:=List.eq_nil_of_length_eq_zero (by rw[C2 (by omega)];omega);rw[n0,u9] at ax;have g:B9 l s m (m+1)=l.take a++((seg l a s++(seg l m (m+1)++seg l s m))++l.drop (m+1)):=by rw[ax];simp only[uU]
 refine Qm h hd g ?_ ?_
 .rw[DR (l:=l) (a:=a) (m:=m) (b:=m+1) (by omega) (by omega),DR (l:=l) E N,uU];exact List.Perm.append_left _ List.perm_append_comm
 .have Q:=h.tr;refine vH.2 ⟨?_,vH.2 ⟨?_,?_,fun x F y d=>?_⟩,fun x F y d=>?_⟩
  .exact NR (by omega) fun p q z r A=>GJ C z r (by omega) (by omega)
  .exact NR (by omega) fun p q z r A=>by omega
  .exact NR (by omega) fun p q z r A=>GJ C (by omega) r A (by omega)
  .obtain⟨p,J,V,rfl⟩:=FW (by omega) F;obtain⟨q,O,K,rfl⟩:=FW (by omega) d;obtain rfl:p=m:=by omega
   rcases w with w|w
   .omega
   .exact Q _ _ _ (h.asym _ _ w) (JQ h C (p:=s) E O K (by omega))
  .obtain⟨p,J,V,rfl⟩:=FW (by omega) F;rcases uY.1 d with d|d<;>obtain⟨q,O,K,rfl⟩:=FW (by omega) d
   .obtain rfl:q=m:=by omega
    rcases t with t|t
    .omega
    .exact Q _ _ _ (JQ h C J (q:=s - 1) (by omega) (by omega) (by omega)) t
   .exact GJ C J (by omega) K (by omega)
theorem M5 {S:List (List U)}(C:x=P.length)(O:y=P.length+X.length):seg (P++(X++S)) x y=X:=by
 subst C;subst O;rw[EO (Nat.le_add_right _ _),List.drop_left' rfl,show P.length+X.length - P.length=X.length by omega,List.take_left' rfl]
theorem Dst.mono {af:List (List U)}(h:Dst lt l)(O:af ⊆ l):Dst lt af:=fun x y d r=>h x y (O d) (O r)
theorem pi (d:a<=s)(z:s<=m)(w:m<=e)(r:e<=b)(J:b<=l.length)(ab:aC+m=s+e)
  (C:Srt lt (seg l a m)) (O:Srt lt (seg l m b)) (hd:Dst lt (seg l a b)) (K:aL=B9 l s m e):
  aL.length=l.length/\Srt lt (seg aL a s)/\Srt lt (seg aL s aC)/\Dst lt (seg aL a aC)/\Srt lt (seg aL aC e)/\Srt lt (seg aL e b)/\Dst lt (seg aL aC b):=by
 have V:(l.take a).length=a:=by rw[uX];omega
 have am:(seg l a s).length=s - a:=C2 (by omega);have ay:(seg l m e).length=e - m:=C2 (by omega);have n3:(seg l s m).length=m - s:=C2 (by omega);have n4:(seg l e b).length=b - e:=C2 J;have ax:=J2 (l:=l) d z w r J;rw[<-K] at ax;have N:seg aL a s=seg l a s:=by rw[ax];exact M5 V.symm (by omega)
 have E:seg aL s aC=seg l m e:=by
  rw[ax,<-uU];exact M5 (by rw[tq];omega) (by rw[tq];omega)
 have Q:seg aL aC e=seg l s m:=by
  rw[ax,<-uU,<-uU];exact M5 (by rw[tq,tq];omega) (by rw[tq,tq];omega)
 have T:seg aL e b=seg l e b:=by
  rw[ax,<-uU,<-uU,<-uU];exact M5 (by rw[tq,tq,tq];omega) (by rw[tq,tq,tq];omega)
 have t:∀x y,a<=x->x<=y->y<=b->seg l x y ⊆ seg l a b:=fun x y W Y Z=>qT W Y Z;have A:Srt lt (seg l a s)/\Srt lt (seg l s m):=by
  rw[DR (l:=l) d z] at C;exact⟨(vH.1 C).1,(vH.1 C).2.1⟩
 have B:Srt lt (seg l m e)/\Srt lt (seg l e b):=by
  rw[DR (l:=l) w r] at O;exact⟨(vH.1 O).1,(vH.1 O).2.1⟩
 refine⟨by rw[K,FA]<;>omega,by rw[N];exact A.1,by rw[E];exact B.1,?_,by rw[Q];exact A.2,by rw[T];exact B.2,?_⟩
 .rw[DR (l:=aL) d (m:=s) (b:=aC) (by omega),N,E];exact hd.mono fun x F=>(uY.1 F).elim (fun h=>t a s (by omega) d (by omega) h) (fun h=>t m e (by omega) w r h)
 .rw[DR (l:=aL) (a:=aC) (m:=e) (b:=b) (by omega) r,Q,T];exact hd.mono fun x F=>(uY.1 F).elim (fun h=>t s m d z (by omega) h) (fun h=>t e b (by omega) r (tY _) h)
theorem YE (d:WkO lt)(aa:s=a\/s=m)(h:a<=m)(C:Srt lt (seg l a s))(O:Srt lt (seg l s m))(hd:Dst lt (seg l a m)):AR lt l a m=l:=by
 rcases aa with rfl|rfl
 .exact RP d hd O h
 .exact RP d hd C h
theorem oE (h:a<=m)(r:m<=l.length)(t:m<=x)(d:x<=y):seg (AR lt l a m) x y=seg l x y:=by
 rw[EO d,EO d];congr 1;have:=(Tz (lt:=lt) (l:=l) h r).2.2;rw[show x=m+(x - m) by omega,<-ut,this,ut]
theorem cW (h:b=l.length):seg l 0 b=l:=by unfold seg;rw[List.drop_zero,h,uz]
theorem oC (r:WkO lt){n:Nat}(C:m<=n)(w:n=l.length)(hd:Dst lt l)(J:c=AR lt (AR lt l 0 m) m n):
  c.length=l.length/\Srt lt (seg c 0 m)/\Srt lt (seg c m n)/\Dst lt (seg c 0 n)/\AR lt c 0 n=AR lt l 0 n:=by
 have K:l.drop m=(l.drop m).take (n - m)++l.drop n:=spl C;have z:l.drop n=[]:=List.drop_eq_nil_of_le (by omega);have h:(seg l 0 m).length=m:=by rw[C2 (by omega)];omega
 have A:(seg l m n).length=n - m:=C2 (by omega);have O:AR lt l 0 m=A6 lt (seg l 0 m)++(seg l m n++[]):=by
  rw[SV,List.take_zero,u9,K,EO C,z]
 have t:c=A6 lt (seg l 0 m)++(A6 lt (seg l m n)++[]):=by
  rw[J,O];have:=SS (lt:=lt) (P:=A6 lt (seg l 0 m)) (X:=seg l m n) (S:=[]);rw[CH,h,A,show m+(n - m)=n by omega] at this;exact this
 have e:l=seg l 0 m++seg l m n:=by
  have:=DR (l:=l) (a:=0) (m:=m) (b:=n) (uQ _) C;rwa [cW w] at this
 have d:c.Perm l:=by
  rw[t,uj];exact (DC.append DC).trans (by rw[<-e])
 have N:=d.length_eq;have Q:seg c 0 m=A6 lt (seg l 0 m):=by
  have:=M5 (P:=[]) (X:=A6 lt (seg l 0 m)) (S:=A6 lt (seg l m n)++[]) (x:=0) (y:=m) rfl (by rw[CH,h];simp);rwa [u9,<-t] at this
 have T:seg c m n=A6 lt (seg l m n):=by
  rw[t];exact M5 (by rw[CH,h]) (by rw[CH,CH,h,A];omega)
 have V:seg c 0 n=c:=cW (by omega);refine⟨N,by rw[Q];exact Cl r,by rw[T];exact Cl r,by rw[V];exact hd.mono d.subset,?_⟩;rw[OX (by omega),OX w];exact OY r d fun a b E F=>hd a b (d.subset E) (d.subset F)
end
end
section
def Cn (l:List (List U)):List (List U):=l.flatMap fun u=>(u.getD 0 default).toL
variable{l:List (List U)}{i:Nat}{u v:List U}
theorem RJ (Y:i < l.length):Cn (l.take (i+1))=Cn (l.take i)++G0 l i 0:=by
 unfold Cn G0;have e:l.getD i []=l[i]:=by rw[uD,tZ Y];rfl
 rw[List.take_add_one,tZ Y,List.flatMap_append,e];simp
theorem S6 {l:List (List U)}(h:∀j:Nat,(G0 l j 0).length<=1000):∀i:Nat,i<=l.length->(Cn (l.take i)).length<=1000*i
 |0,_=>by simp[Cn]
 |i+1,Y=>by
  rw[RJ (by omega),tq];have:=S6 h i (by omega);have:=h i;omega
theorem rC (a b:List (List U)):Cn [[.list a],[.list b]]=a++b:=by simp[Cn,U.toL]
def TyB (l:List (List U)):Prop:=∀u∈l,AK AD KB u
def Lb (l:List (List U)):Prop:=∀u v,u∈l->v∈l->uI u 0=uI v 0->uI u 1=uI v 1->u=v
theorem SW (F:AK AD KB u)(J:AK AD KB v):D0 u v=true↔u=v:=by
 constructor
 .intro h;rw[<-FI F,<-FI J];unfold D0 at h;simp only[tV,decide_eq_true_eq] at h;obtain⟨⟨⟨⟨⟨⟨⟨⟨d,C⟩,O⟩,r⟩,t⟩,w⟩,z⟩,A⟩,E⟩:=h;rw[d,C,O,r,t,w,z,A,E]
 .rintro rfl;unfold D0;simp
def mkL (L:List (List U)):List (List U):=L.map fun u=>CG u++u
theorem Um :BX ((CG v++v).take 2) (CG u)=true↔(uI v 0=uI u 0/\uI v 1=uI u 1):=by
 show BX [U.int (uI v 0),U.int (uI v 1)] [U.int (uI u 0),U.int (uI u 1)]=true↔_;simp[BX,U.eqv]
theorem kY {L:List (List U)}:Ah 2 (mkL L) (CG u) < (mkL L).length↔∃v∈L,uI v 0=uI u 0/\uI v 1=uI u 1:=by
 unfold Ah;rw[List.findIdx_lt_length];unfold mkL;constructor
 .rintro⟨x,r,h⟩;obtain⟨v,d,rfl⟩:=vG.1 r;exact⟨v,d,Um.1 h⟩
 .rintro⟨v,d,h⟩;exact⟨_,vG.2 ⟨v,d,rfl⟩,Um.2 h⟩
theorem Y8 {L:List (List U)}(h:Ah 2 (mkL L) (CG u) < (mkL L).length):∃v∈L,(uI v 0=uI u 0/\uI v 1=uI u 1)/\(mkL L).getD (Ah 2 (mkL L) (CG u)) []=CG v++v:=by
 have C:BX (((mkL L)[Ah 2 (mkL L) (CG u)]'h).take 2) (CG u)=true:=List.findIdx_getElem (w:=h);have O:(mkL L)[Ah 2 (mkL L) (CG u)]'h∈mkL L:=um h;unfold mkL at O;obtain⟨v,d,e⟩:=vG.1 O;refine⟨v,d,?_,?_⟩
 .rw[<-Um];have:(CG v++v)=(mkL L)[Ah 2 (mkL L) (CG u)]'h:=e;rw[this];exact C
 .rw[uD,tZ h];exact e.symm
theorem Vr {L:List (List U)}(w:TyB L)(z:AK AD KB u)(aa:Lb L):JI (mkL L) u=true↔∃v∈L,(uI v 0=uI u 0/\uI v 1=uI u 1)/\v≠u:=by
 unfold JI;rw[tV,decide_eq_true_eq];constructor
 .rintro⟨C,O⟩;obtain⟨v,r,t,e⟩:=Y8 C;rw[e,show (CG v++v).drop 2=v from rfl] at O;refine⟨v,r,t,fun h=>?_⟩;rw[(SW (w v r) z).2 h] at O;cases O
 .rintro⟨v,r,t,F⟩;have C:Ah 2 (mkL L) (CG u) < (mkL L).length:=kY.2 ⟨v,r,t⟩;refine⟨C,?_⟩;obtain⟨d,A,K,e⟩:=Y8 C;rw[e,show (CG d++d).drop 2=d from rfl];have J:d=v:=aa _ _ A r (by omega) (by omega);cases E:D0 d u
  .rfl
  .exact absurd (J.symm.trans ((SW (w d A) z).1 E)) F
theorem O4:∀{l L:List (List U)},TyB L->TyB l->Lb L->(Ci (mkL L) l=true↔Lb (L++l))
 |[],L,_,_,aa=>by rw[uj];exact⟨fun _=>aa,fun _=>rfl⟩
 |u::l,L,hL,hl,aa=>by
  have K:=hl u tl;have Q:TyB l:=fun x N=>hl x (th _ N);show (if JI (mkL L) u=true then false else Ci (BG 2 (mkL L) (CG u) u) l)=true↔_;by_cases E:JI (mkL L) u=true
  .rw[vC E];obtain⟨v,t,z,F⟩:=(Vr hL K aa).1 E;refine⟨fun h=>(by cases h),fun h=>absurd (h v u (tz _ t) (tp _ tl) z.1 z.2) F⟩
  .rw[vA E];have T:∀v∈L,uI v 0=uI u 0->uI v 1=uI u 1->v=u:=fun v t C O=>by
    by_cases h:v=u
    .exact h
    .exact absurd ((Vr hL K aa).2 ⟨v,t,⟨C,O⟩,h⟩) E
   by_cases Y:Ah 2 (mkL L) (CG u) < (mkL L).length
   .obtain⟨v,t,z,e⟩:=Y8 Y;obtain rfl:=T v t z.1 z.2;have J:BG 2 (mkL L) (CG v) v=mkL L:=by
     unfold BG;rw[decide_eq_true Y];show (mkL L).set (Ah 2 (mkL L) (CG v)) (CG v++v)=mkL L;rw[<-e,uD,tZ Y];exact List.set_getElem_self Y
    rw[J,O4 hL Q aa];constructor
    .intro h a b d r;have A:∀a,a∈L++v::l->a∈L++l:=fun a d=>by
      rcases uY.1 d with h|h
      .exact tz _ h
      .rcases List.mem_cons.1 h with rfl|h
       .exact tz _ t
       .exact tp _ h
     exact h a b (A a d) (A b r)
    .intro h a b d r;have A:∀a,a∈L++l->a∈L++v::l:=fun a d=>by
      rcases uY.1 d with h|h
      .exact tz _ h
      .exact tp _ (th _ h)
     exact h a b (A a d) (A b r)
   .have J:BG 2 (mkL L) (CG u) u=mkL (L++[u]):=by
     unfold BG;rw[decide_eq_false Y];show mkL L++[CG u++u]=_;unfold mkL;rw[ti];rfl
    have F:∀v∈L,¬(uI v 0=uI u 0/\uI v 1=uI u 1):=fun v t h=>Y (kY.2 ⟨v,t,h⟩);rw[J,O4 (L:=L++[u]) (fun x N=>(uY.1 N).elim (hL x) fun h=>by rw[uT.1 h];exact K) Q ?_]
    .rw[uU];rfl
    .intro a b d r w C;rcases uY.1 d with d|d<;>rcases uY.1 r with r|r
     .exact aa a b d r w C
     .rw[uT.1 r] at w C;exact absurd ⟨w,C⟩ (F a d)
     .rw[uT.1 d] at w C;exact absurd ⟨w.symm,C.symm⟩ (F b r)
     .rw[uT.1 d,uT.1 r]
theorem Pg (d:TyB l):CT l=true↔Lb l:=by
 have:=O4 (l:=l) (L:=[]) (fun x r=>by cases r) d (fun u v h=>by cases h);rwa [u9] at this
def okP (l:List (List U))(p q:Nat):Prop:=uI (l.getD p []) 0=uI (l.getD q []) 0->uI (l.getD p []) 1=uI (l.getD q []) 1->l.getD p []=l.getD q []
theorem fN :Lb l↔∀p q:Nat,q < p->p < l.length->okP l p q:=by
 constructor
 .exact fun h p q C O=>h _ _ (Az O) (Az (by omega))
 .intro h u v E F w C;obtain⟨p,z,rfl⟩:=uk.1 E;obtain⟨q,A,rfl⟩:=uk.1 F;have r:l.getD p []=l[p]:=by rw[uD,tZ z];rfl
  have t:l.getD q []=l[q]:=by rw[uD,tZ A];rfl
  rcases Nat.lt_trichotomy p q with d|d|d
  .have:=h q p d A;unfold okP at this;rw[r,t] at this;exact (this w.symm C.symm).symm
  .subst d;rfl
  .have:=h p q d z;unfold okP at this;rw[r,t] at this;exact this w C
theorem J7 {ae:List (List U)}{j:Nat}(C:TyB l)(O:TyB ae)(Y:i < l.length)(d:j < ae.length):(Ad l i 0=Ad ae j 0/\Ad l i 1=Ad ae j 1/\Ad l i 2=Ad ae j 2/\(Bx l i 3=true↔Bx ae j 3=true)/\BL l i 4=BL ae j 4/\BL l i 5=BL ae j 5/\(Bx l i 6=true↔Bx ae j 6=true)/\Ad l i 7=Ad ae j 7/\Ad l i 8=Ad ae j 8)↔l.getD i []=ae.getD j []:=by
 rw[<-SW (C _ (Az Y)) (O _ (Az d))];have b:∀x y:Bool,(x=true↔y=true)↔x=y:=fun x y=>by cases x<;>cases y<;>simp
 unfold D0;simp only[b,tV,decide_eq_true_eq,and_assoc];exact Iff.rfl
open Classical in
def ddN (aA:List (List U))(u:List U):List (List U):=if u∈aA then aA else aA++[u]
def ddS (l:List (List U)):List (List U):=l.foldl ddN []
variable{aA l:List (List U)}{u:List U}
theorem Zx (h:u∈aA):ddN aA u=aA:=by unfold ddN;rw[vC h]
theorem Us (h:¬u∈aA):ddN aA u=aA++[u]:=by unfold ddN;rw[vA h]
theorem Zk {i:Nat}(h:i < l.length):ddS (l.take (i+1))=ddN (ddS (l.take i)) (l.getD i []):=by
 rw[Co h];unfold ddS;rw[List.foldl_append];rfl
theorem io:∀{l aA:List (List U)},(l.foldl ddN aA).length<=aA.length+l.length
 |[],aA=>tY _
 |u::l,aA=>by
  rw[List.foldl_cons];have h:=io (l:=l) (aA:=ddN aA u);have O:(ddN aA u).length<=aA.length+1:=by unfold ddN;split<;>simp
  simp only[uJ];omega
theorem NK :(ddS l).length<=l.length:=by have:=io (l:=l) (aA:=[]);unfold ddS;simpa using this
theorem iu:∀{l aA:List (List U)} {u:List U},u∈l.foldl ddN aA↔u∈aA\/u∈l
 |[],aA,u=>by simp
 |v::l,aA,u=>by
  rw[List.foldl_cons,iu];by_cases h:v∈aA
  .rw[Zx h];constructor
   .rintro (C|C)
    .exact .inl C
    .exact .inr (th _ C)
   .rintro (C|C)
    .exact .inl C
    .rcases List.mem_cons.1 C with rfl|C
     .exact .inl h
     .exact .inr C
  .rw[Us h,uY,uT,List.mem_cons];constructor
   .rintro ((C|C)|C)
    .exact .inl C
    .exact .inr (.inl C)
    .exact .inr (.inr C)
   .rintro (C|C|C)
    .exact .inl (.inl C)
    .exact .inl (.inr C)
    .exact .inr C
theorem dG :u∈ddS l↔u∈l:=by unfold ddS;rw[iu];simp
open Classical in
def Fr (a b:List (List U)):Int:=if¬AO a=0 then AO a else if¬AO b=0 then AO b else if 200 < (ddS (a++b)).length then 6 else if CT (ddS (a++b))=true then 0 else 12
def Ji (a b:List (List U)):List (List U):=if Fr a b=0 then ddS (a++b) else []
variable{l a:List (List U)}{i:Nat}{u:List U}{p:List U->Bool}
theorem EF (h:AO l=0):l.length<=200:=by
 unfold AO at h;split at h
 .cases h
 .omega
theorem mB (h:i < l.length):u∈l.take (i+1)↔u∈l.take i\/l.getD i []=u:=by
 rw[Co h,uY,uT];exact or_congr_right eq_comm
def J6 (a b:List (List U)):Bool:=decide (a.length=b.length)&&(List.range a.length).all fun j=>D0 (a.getD j []) (b.getD j [])
theorem Sn :J6 a a=true:=by
 unfold J6;rw[tV,uK];exact⟨by simp,fun j _=>by unfold D0;simp⟩
theorem jR {b:List (List U)}:J6 a b=true↔(a.length=b.length/\∀j:Nat,j < a.length->D0 (a.getD j []) (b.getD j [])=true):=by
 unfold J6;rw[tV,decide_eq_true_eq,uK];simp only[List.mem_range]
theorem RL {ae:List (List U)}{j:Nat}:(Ad l i 0=Ad ae j 0/\Ad l i 1=Ad ae j 1/\Ad l i 2=Ad ae j 2/\(Bx l i 3=true↔Bx ae j 3=true)/\BL l i 4=BL ae j 4/\BL l i 5=BL ae j 5/\(Bx l i 6=true↔Bx ae j 6=true)/\Ad l i 7=Ad ae j 7/\Ad l i 8=Ad ae j 8)↔D0 (l.getD i []) (ae.getD j [])=true:=by
 have b:∀x y:Bool,(x=true↔y=true)↔x=y:=fun x y=>by cases x<;>cases y<;>simp
 unfold D0;simp only[b,tV,decide_eq_true_eq,and_assoc];exact Iff.rfl
def Lv (u:List U):Bool:=decide (100 < (uS u 0).size)
def H6 (u:List U):Bool:=decide (100 < (uS u 4).size)||decide (100 < (uS u 5).size)
def Og (p l:List (List U))(d:Int):Bool:=decide (30 < p.length)||(decide (d < l.length)&&decide (l.length<=200))||decide (210 < l.length)||p.any Lv||l.any H6
theorem Xe :(l++[u]).any p=true↔(l.any p=true\/p u=true):=by simp
theorem im (h:i < l.length)(d:p (l.getD i [])=true):l.any p=true:=List.any_eq_true.2 ⟨_,Az h,d⟩
def mkT (L:List (List U)):List (List U):=L.map fun u=>u++[U.bool true]
theorem keyT {v:List U}(d:AK AD KB u)(r:AK AD KB v):BX ((v++[U.bool true]).take 9) u=true↔v=u:=by
 rw[List.take_left' (Z3 r)];constructor
 .intro h;rw[<-FI d,<-FI r] at h⊢;simp only[BX,U.eqv,tV,decide_eq_true_eq,beq_iff_eq,and_true,Bool.and_true] at h;obtain⟨t,C,O,w,z,A,E,F,J⟩:=h;rw[t,C,O,w,z,A,E,F,J]
 .rintro rfl;rw[<-FI d];simp[BX,U.eqv]
theorem U2 {L:List (List U)}(t:TyB L)(d:AK AD KB u):Ah 9 (mkT L) u < (mkT L).length↔u∈L:=by
 unfold Ah;rw[List.findIdx_lt_length];unfold mkT;constructor
 .rintro⟨x,w,h⟩;obtain⟨v,r,rfl⟩:=vG.1 w;rw[<-(keyT d (t v r)).1 h];exact r
 .exact fun h=>⟨_,vG.2 ⟨u,h,rfl⟩,(keyT d d).2 rfl⟩
theorem pj {L:List (List U)}(d:TyB L)(r:AK AD KB u):(CX 9 0 (mkT L) (.bool false) u).toB=true↔u∈L:=by
 unfold CX;by_cases h:Ah 9 (mkT L) u < (mkT L).length
 .rw[decide_eq_true h,cond_true];have O:(mkT L)[Ah 9 (mkT L) u]'h∈mkT L:=um h;obtain⟨v,A,e⟩:=vG.1 O;have t:(mkT L).getD (Ah 9 (mkT L) u) []=v++[U.bool true]:=by rw[uD,tZ h];exact e.symm
  rw[t];have z:=Z3 (d v A);have w:(v++[U.bool true]).getD (9+0) default= .bool true:=by
   rw[uD,tw (by omega),z];rfl
  rw[w];exact⟨fun _=>(U2 d r).1 h,fun _=>rfl⟩
 .rw[decide_eq_false h,cond_false];exact⟨fun h=>(by cases h),fun O=>absurd ((U2 d r).2 O) h⟩
theorem pf {L:List (List U)}(d:TyB L)(r:AK AD KB u)(h:¬u∈L):BG 9 (mkT L) u [.bool true]=mkT (L++[u]):=by
 unfold BG;rw[decide_eq_false fun O=>h ((U2 d r).1 O)];show mkT L++[u++[.bool true]]=_;unfold mkT;rw[ti];rfl
end
section
structure Sg (l:List (List U)):Prop where
 mx:∀r∈Ar l,∀v∈l,uI v 0=uI r 0->uI v 1<=uI r 2
 al:∀v∈l,∃r∈Ar l,uI r 0=uI v 0
theorem dP {m:List (List U)}{p:List U->Prop}(h:J4 p m){a b:List U}(r:a∈m)(t:b∈m)(e:uI a 0=uI b 0):a=b:=by
 obtain⟨i,Y,rfl⟩:=uk.1 r;obtain⟨j,d,rfl⟩:=uk.1 t;rcases Nat.lt_trichotomy i j with C|C|C
 .exact absurd e ((vE.1 h.once) i j Y d C)
 .subst C;rfl
 .exact absurd e.symm ((vE.1 h.once) j i d Y C)
variable{l:List (List U)}
theorem gF {u:List U}(h:Sg l):Sg (l++[u]):=by
 have F:=JN (l:=l);have a1:∀r∈Ar l,∃v∈l,r=U.int (uI v 0)::v:=fun r t=>by
  obtain⟨v,e,z⟩:=F.row r t;exact⟨v,z,e⟩
 have a3:∀ad,Ar (l++[u])=ad->(∀r∈ad,∀v∈l++[u],uI v 0=uI r 0->uI v 1<=uI r 2)->(∀v∈l++[u],∃r∈ad,uI r 0=uI v 0)->Sg (l++[u]):=fun ad e C O=>⟨by rw[e];exact C,by rw[e];exact O⟩;refine a3 _ UH ?_ ?_
 all_goals unfold HA
 .intro r t v z e;by_cases w:Mk (Ar l) (uI u 0)
  .have Y:Ah 1 (Ar l) [.int (uI u 0)] < (Ar l).length:=w;have A:=Y1 F w;have N:(Ar l)[Ah 1 (Ar l) [.int (uI u 0)]]'Y∈Ar l:=um Y;have ag:VI (Ar l) (uI u 0)=uI ((Ar l)[Ah 1 (Ar l) [.int (uI u 0)]]'Y) 2:=by
    unfold VI CX;rw[decide_eq_true Y,cond_true,uD (l:=Ar l),tZ Y];rfl
   split at t
   .rename_i Z;have a6:=Z.resolve_left (fun a=>a w);unfold BG at t;rw[decide_eq_true Y,cond_true] at t;rcases List.mem_or_eq_of_mem_set t with C|C
    .by_cases Q:uI r 0=uI u 0
     .have a2:=dP F C N (Q.trans A.symm);rcases uY.1 z with O|O
      .exact h.mx r C v O e
      .exfalso;obtain⟨j,K,E⟩:=uk.1 t;rw[ud] at K;by_cases J:Ah 1 (Ar l) [.int (uI u 0)]=j
       .subst J;rw[List.getElem_set_self] at E;have a4:uI r 2=uI u 1:=by rw[<-E];rfl
        have a5:uI r 2=VI (Ar l) (uI u 0):=by rw[ag,<-a2]
        omega
       .rw[List.getElem_set_ne J] at E;have ab:=vE.1 F.once;rcases Nat.lt_or_gt_of_ne J with W|W
        .exact ab _ _ Y K W (by rw[E,Q];exact A)
        .exact ab _ _ K Y W (by rw[E,Q];exact A.symm)
     .rcases uY.1 z with O|O
      .exact h.mx r C v O e
      .rw[uT.1 O] at e;exact absurd e.symm Q
    .have T:uI r 0=uI u 0:=by rw[C];rfl
     have V:uI r 2=uI u 1:=by rw[C];rfl
     rcases uY.1 z with O|O
     .have:=h.mx _ N v O (by rw[e,T];exact A.symm);omega
     .rw[uT.1 O,V];exact uf _
   .rename_i Z;rcases uY.1 z with O|O
    .exact h.mx r t v O e
    .rw[uT.1 O] at e⊢;have:=dP F t N (e.symm.trans A.symm);rw[this,<-ag];have:¬VI (Ar l) (uI u 0) < uI u 1:=fun a=>Z (.inr a);omega
  .have d:=cV F w;rw[vC (.inl w)] at t;unfold BG at t;rw[decide_eq_false (show¬Ah 1 (Ar l) [.int (uI u 0)] < (Ar l).length from w),cond_false] at t;rcases uY.1 t with C|C
   .rcases uY.1 z with O|O
    .exact h.mx r C v O e
    .rw[uT.1 O] at e;exact absurd e.symm (d r C)
   .have C:=uT.1 C;have T:uI r 0=uI u 0:=by rw[C];rfl
    have V:uI r 2=uI u 1:=by rw[C];rfl
    rcases uY.1 z with O|O
    .obtain⟨aE,a0,e2⟩:=h.al v O;exact absurd (e2.trans (e.trans T)) (d aE a0)
    .rw[uT.1 O,V];exact uf _
 .intro v z;by_cases w:Mk (Ar l) (uI u 0)
  .have Y:Ah 1 (Ar l) [.int (uI u 0)] < (Ar l).length:=w;have A:=Y1 F w;have N:(Ar l)[Ah 1 (Ar l) [.int (uI u 0)]]'Y∈Ar l:=um Y;have al:∃r∈Ar l,uI r 0=uI v 0:=by
    rcases uY.1 z with O|O
    .exact h.al v O
    .rw[uT.1 O];exact⟨_,N,A⟩
   split
   .unfold BG;rw[decide_eq_true Y,cond_true];obtain⟨r,t,e⟩:=al;obtain⟨j,K,E⟩:=uk.1 t;refine⟨((Ar l).set (Ah 1 (Ar l) [.int (uI u 0)]) ([.int (uI u 0)]++u))[j]'(by rw[ud];exact K),um _,?_⟩;by_cases J:Ah 1 (Ar l) [.int (uI u 0)]=j
    .subst J;rw[List.getElem_set_self];show uI u 0=uI v 0;rw[<-e,<-E];exact A.symm
    .rw[List.getElem_set_ne J,E];exact e
   .exact al
  .rw[vC (.inl w)];unfold BG;rw[decide_eq_false (show¬Ah 1 (Ar l) [.int (uI u 0)] < (Ar l).length from w),cond_false];rcases uY.1 z with O|O
   .obtain⟨r,t,e⟩:=h.al v O;exact⟨r,tz _ t,e⟩
   .rw[uT.1 O];exact⟨_,tp _ (uT.2 rfl),rfl⟩
theorem UA {l:List (List U)}:∀n:Nat,n<=l.length->Sg (l.take n)
 |0,_=>⟨fun r d=>by simp[Ar] at d,fun v t=>by simp at t⟩
 |n+1,h=>by rw[Co (by omega)];exact gF (UA n (by omega))
theorem tS :Sg l:=by have:=UA (l:=l) l.length (tY _);rwa [uz] at this
def VJ (l:List (List U))(i:Nat):Prop:=uB (l.getD i []) 3=false/\∀k,k < l.length->uI (l.getD k []) 0=uI (l.getD i []) 0->¬(uI (l.getD i []) 1 < uI (l.getD k []) 1)/\¬(l.getD k []=l.getD i []/\k < i)
open Classical in
def Ca (l:List (List U)):Nat->List (List U)
 |0=>[]
 |n+1=>if VJ l n then Ca l n++[l.getD n []] else Ca l n
theorem Ky {l:List (List U)}{u:List U}:∀{n:Nat},u∈Ca l n↔∃i,i < n/\VJ l i/\l.getD i []=u
 |0=>⟨fun h=>(by cases h),fun⟨i,h,_⟩=>(by omega)⟩
 |n+1=>by
  unfold Ca;split
  .rename_i r;rw[uY,uT,Ky];constructor
   .rintro (⟨i,C,O⟩|h)
    .exact⟨i,by omega,O⟩
    .exact⟨n,by omega,r,h.symm⟩
   .rintro⟨i,C,O,d⟩;by_cases e:i=n
    .subst e;exact .inr d.symm
    .exact .inl ⟨i,by omega,O,d⟩
  .rename_i r;rw[Ky];constructor
   .rintro⟨i,C,O⟩;exact⟨i,by omega,O⟩
   .rintro⟨i,C,O,d⟩;exact⟨i,by have:i≠n:=(fun e=>by subst e;exact r O);omega,O,d⟩
theorem PU {l:List (List U)}:∀{n:Nat},n<=l.length->(Ca l n).Nodup
 |0,_=>List.nodup_nil
 |n+1,h=>by
  unfold Ca;split
  .rename_i z;refine List.nodup_append.2 ⟨PU (by omega),List.nodup_cons.2 ⟨by simp,List.nodup_nil⟩,fun a w b d e=>?_⟩;obtain⟨i,C,O,t⟩:=Ky.1 w;have d:=uT.1 d;have r:l.getD i []=l.getD n []:=by rw[t,e,d]
   exact ((z.2 i (by omega) (by rw[r])).2 ⟨r,C⟩)
  .exact PU (by omega)
variable{l:List (List U)}
theorem dH (aa:Lb l){n:Nat}(w:n<=l.length):Dst ltB (Ca l n):=by
 intro a b d h C O;rw[IX] at C O;obtain⟨i,z,r,rfl⟩:=Ky.1 d;obtain⟨j,A,t,rfl⟩:=Ky.1 h;have E:=(r.2 j (by omega) (by omega)).1;have F:=(t.2 i (by omega) (by omega)).1;exact aa _ _ (Az (by omega)) (Az (by omega)) (by omega) (by omega)
theorem mX {lt:List U->List U->Bool}(h:WkO lt){L F:List (List U)}{s:List U}{k:Nat}(w:L=A6 lt F)(Z:k<=L.length)(C:∀q,q < k->lt (L.getD q []) s=true)(O:k=L.length\/¬lt (L.getD k []) s=true)(hd:Dst lt (F++[s])):
  L.take k++(s::L.drop k)=A6 lt (F++[s]):=by
 have t:(L.take k++(s::L.drop k)).Perm (F++[s]):=by
  refine List.perm_middle.trans ?_;rw[ui];have K:L.Perm F:=by rw[w];exact DC
  exact (List.Perm.cons s K).trans (List.perm_append_comm (l₁:=[s]) (l₂:=F))
 have z:L.Pairwise fun a b=>¬lt b a=true:=by rw[w];exact Cl h
 have E:=z;rw[<-ui k L] at E;obtain⟨T,V,W⟩:=vH.1 E;refine Ol (t.trans DC.symm) ?_ (Cl h) fun a b N Q=>hd a b (t.subset N) (t.subset Q);refine vH.2 ⟨T,vJ.2 ⟨fun y d=>?_,V⟩,fun x J y d=>?_⟩
 .obtain⟨j,r,rfl⟩:=uk.1 d;rw[ue] at r;have A:k < L.length:=by omega
  have O:=O.resolve_left (by omega);rw[List.getElem_drop];rw[uD,tZ A] at O;rcases uo j with rfl|Y
  .exact O
  .exact h.tr _ _ _ O ((vE.1 z) k (k+j) A (by omega) (by omega))
 .rcases List.mem_cons.1 d with rfl|d
  .obtain⟨j,r,rfl⟩:=uk.1 J;rw[uX] at r;have:=C j (by omega);rw[uD,tZ (by omega)] at this;rw[List.getElem_take];exact h.asym _ _ this
  .exact W x J y d
theorem jT (hl:TyB l)(aa:Lb l):A6 ltB (Ca l l.length)=Bi l:=by
 unfold Bi;have A:=JN (l:=l);have T:=tS (l:=l);refine OY wkB ?_ (dH aa (tY _));refine (List.perm_ext_iff_of_nodup (PU (tY _)) ?_).2 fun u=>?_
 .refine List.pairwise_flatMap.2 ⟨fun r t=>?_,A.once.imp_of_mem fun ha hb J=>?_⟩
  .unfold CQ;split<;>simp
  .intro x d y w e;obtain⟨u1,e1,_⟩:=A.row _ ha;obtain⟨u2,e2,_⟩:=A.row _ hb;unfold CQ at d w;split at d
   .cases d
   .split at w
    .cases w
    .have d:=uT.1 d;have w:=uT.1 w;rw[e1] at d J;rw[e2] at w J;have e3:u1=u2:=by
      have a1:x=u1:=d;have a2:y=u2:=w;rw[<-a1,<-a2];exact e
     rw[e3] at J;exact J rfl
 .rw[Ky,List.mem_flatMap];constructor
  .rintro⟨i,C,O,rfl⟩;obtain⟨r,t,e⟩:=T.al (l.getD i []) (Az C);obtain⟨v,az,K⟩:=A.row r t;have au:=T.mx r t _ (Az C) e.symm;have a5:uI r 0=uI v 0:=by rw[az];rfl
   have a6:uI r 2=uI v 1:=by rw[az];rfl
   obtain⟨j,F,V⟩:=uk.1 K;have Z:l.getD j []=v:=by rw[uD,tZ F];exact V
   have ag:=(O.2 j F (by rw[Z];omega)).1;rw[Z] at ag;have ad:v=l.getD i []:=aa _ _ K (Az C) (by omega) (by omega);refine⟨r,t,?_⟩;unfold CQ;have Q:uB r 4=uB v 3:=by rw[az];rfl
   rw[Q,ad,O.1,az,ad];simp
  .rintro⟨r,t,z⟩;obtain⟨v,az,K⟩:=A.row r t;unfold CQ at z;have Q:uB r 4=uB v 3:=by rw[az];rfl
   split at z
   .cases z
   .rename_i hn;have z:=uT.1 z;have bc:u=v:=by rw[z,az];rfl
    have a5:uI r 0=uI v 0:=by rw[az];rfl
    have a6:uI r 2=uI v 1:=by rw[az];rfl
    have a9:∃i,i < l.length/\l.getD i []=v:=by
     obtain⟨j,F,V⟩:=uk.1 K;exact⟨j,F,by rw[uD,tZ F];exact V⟩
    have bb:∃i,(i < l.length/\l.getD i []=v)/\∀k,k < i->¬l.getD k []=v:=by
     obtain⟨i,Y⟩:=a9;induction i using Nat.strongRecOn with
     |ind i ih=>
      by_cases d:∃k,k < i/\l.getD k []=v
      .obtain⟨k,W,E⟩:=d;exact ih k W ⟨by omega,E⟩
      .exact⟨i,Y,fun k W E=>d ⟨k,W,E⟩⟩
    obtain⟨i,⟨i1,N⟩,i3⟩:=bb;refine⟨i,i1,⟨?_,fun k hk e=>⟨?_,fun h=>i3 k h.2 (by rw[h.1,N])⟩⟩,by rw[N,bc]⟩
    .rw[N];rw[Q] at hn;simpa using hn
    .rw[N] at e⊢;have:=T.mx r t _ (Az hk) (by omega);omega
theorem HZ {l:List (List U)}:∀{n:Nat},(Ca l n).length<=n
 |0=>tY _
 |n+1=>by
  have:=HZ (l:=l) (n:=n);unfold Ca;split
  .rw[tq];simp only[uJ,ub];omega
  .omega
theorem mj {n:Nat}(h:VJ l n):Ca l (n+1)=Ca l n++[l.getD n []]:=by rw[Ca,vC h]
theorem qn {n:Nat}(h:¬VJ l n):Ca l (n+1)=Ca l n:=by rw[Ca,vA h]
theorem ZV (h:AO l=0):CT l=true:=by
 unfold AO at h;split at h
 .cases h
 .split at h
  .cases h
  .split at h
   .assumption
   .cases h
end
section
open Go Go.Proofs
def QW (c:Code)(k:Nat):Oper:=match c with
 | .seq (.region _ J _) _=>J[k]!
 | .region _ J _=>J[k]!
 |_=>default
def W3:Code->Nat
 | .seq (.region i _ _) _=>i
 | .region i _ _=>i
 |_=>0
def VB (aF:Func)(st e:TypeId):ClC:=
 match aF.body.getD .skip with
 | .seq aP (.seq (.seq aL (.cond _ c2 _)) c3)=>{ o0:=QW aP 0,o1:=QW aL 0,o2:=QW aL 1,p:=QW c2 0,o5:=QW c3 0,o6:=QW c3 1,o7:=QW c3 2,o8:=QW c3 3,st,e,r0:=W3 aP,r1:=W3 aL,r2:=W3 c2,r3:=W3 c3 }
 |_=>⟨default,default,default,default,default,default,default,default,st,e,0,0,0,0⟩
def NP:List (FuncId × TypeId):=[(119,35),(106,56),(104,34)]
theorem m9:(VB Try.f119 35 38).Ok Try.prog 119 Try.f119:=by refine ⟨Try.func119,?_,?_,?_,?_,⟨⟨.const (.slice none 0 0),?_⟩,?_,?_⟩,⟨?_,?_,?_⟩,⟨⟨35,?_⟩,?_,?_⟩,⟨?_,?_,?_⟩,⟨?_,?_,?_⟩,⟨?_,?_,?_⟩,⟨?_,?_,?_⟩,⟨?_,?_,?_⟩,?_⟩<;>kernel_rfl
theorem pK:(VB Try.f106 56 61).Ok Try.prog 106 Try.f106:=by refine ⟨Try.func106,?_,?_,?_,?_,⟨⟨.const (.slice none 0 0),?_⟩,?_,?_⟩,⟨?_,?_,?_⟩,⟨⟨56,?_⟩,?_,?_⟩,⟨?_,?_,?_⟩,⟨?_,?_,?_⟩,⟨?_,?_,?_⟩,⟨?_,?_,?_⟩,⟨?_,?_,?_⟩,?_⟩<;>kernel_rfl
theorem pH:(VB Try.f104 34 23).Ok Try.prog 104 Try.f104:=by refine ⟨Try.func104,?_,?_,?_,?_,⟨⟨.const (.slice none 0 0),?_⟩,?_,?_⟩,⟨?_,?_,?_⟩,⟨⟨34,?_⟩,?_,?_⟩,⟨?_,?_,?_⟩,⟨?_,?_,?_⟩,⟨?_,?_,?_⟩,⟨?_,?_,?_⟩,⟨?_,?_,?_⟩,?_⟩<;>kernel_rfl
theorem L9:LJ Try.prog NP:=by
 unfold LJ NP;simp only[uA];exact⟨⟨_,_,m9,rfl⟩,⟨_,_,pK,rfl⟩,⟨_,_,pH,rfl⟩,fun _ h=>absurd h (by simp)⟩
instance:Inhabited RgP:=⟨⟨0,0,0,0,0,0,0,0,0,default,default,default,default,[],.skip⟩⟩
instance:Inhabited RgC:=⟨⟨[],0,default,default,0,0,0,0,0,0,[],0,default,.skip⟩⟩
def rgOf (k:Nat)(c:Code)(out:Tmp)(mt kt et:TypeId)(ks:List Kd)(e:TypeId):RgC:=
 match Rn k c with
 |(pre,.seq (.seq (.region i1 a _) (.block bid (.loop (.seq (.region i2 b _) (.seq (.cond _ _ _) (.block bi (.seq (.region i3 d _) rest))))))) post)=>
  {pre,i1,q1:=a[0]!,q2:=a[1]!,tm:=(match (a[0]!).op with| .move (.tmp t)=>t|_=>0),dm:=((a[0]!).dst).getD 0,out,mt,kt,et,ks,e,
   p:={ di:=((a[1]!).dst).getD 0,dn:=((b[0]!).dst).getD 0,db:=((b[1]!).dst).getD 0,de:=((d[0]!).dst).getD 0,dv:=((d[1]!).dst).getD 0,bid,bi,i2,i3,o1:=b[0]!,o2:=b[1]!,o3:=d[0]!,o4:=d[1]!,l3:=d.toList.drop 2,rest },post }
 |_=>default
def rgB:RgC:=rgOf 4 (Try.f65.body.getD .skip) 8 143 2 38 [.int .i64 IntKind.i64.min IntKind.i64.max,.int .i64 IntKind.i64.min IntKind.i64.max,.int .i64 IntKind.i64.min IntKind.i64.max,.bool,.str,.str,.bool,.int .i64 IntKind.i64.min IntKind.i64.max,.int .i64 IntKind.i64.min IntKind.i64.max] 38
theorem l7:Try.f65.body=some rgB.code:=by kernel_rfl
theorem su:rgB.Ok Try.prog:=by refine ⟨⟨⟨?_,?_,?_⟩,⟨?_,?_,?_⟩,⟨?_,?_,?_⟩,⟨?_,?_,?_⟩⟩,⟨?_,?_,?_⟩,⟨?_,?_,?_⟩,?_⟩<;>kernel_rfl
end
section
def Mm (a b:ByteArray):Int:=Lib.compareBytes a.data.toList b.data.toList
theorem dF:∀(a b:List UInt8),-1<=Lib.compareBytes a b/\Lib.compareBytes a b<=1
 |[],[]=>by decide
 |[],_::_=>by simp[Lib.compareBytes]
 |_::_,[]=>by simp[Lib.compareBytes]
 |a::al,b::bl=>by
  simp only[Lib.compareBytes];split
  .exact⟨uf _,by decide⟩
  .split
   .exact⟨by decide,uf _⟩
   .exact dF al bl
theorem rF (a b:ByteArray): -1<=Mm a b/\Mm a b<=1:=dF _ _
theorem WY:∀(a b:List UInt8),Lib.compareBytes a b=0↔a=b
 |[],[]=>by simp[Lib.compareBytes]
 |[],_::_=>by simp[Lib.compareBytes]
 |_::_,[]=>by simp[Lib.compareBytes]
 |a::al,b::bl=>by
  simp only[Lib.compareBytes,List.cons.injEq];have d:∀x y:UInt8,¬x < y->¬y < x->x=y:=fun x y C O=>UInt8.le_antisymm (UInt8.not_lt.1 O) (UInt8.not_lt.1 C);split
  .rename_i h;exact⟨fun e=>by simp at e,fun e=>absurd h (by rw[e.1];exact UInt8.lt_irrefl _)⟩
  .rename_i h;split
   .rename_i O;exact⟨fun e=>by simp at e,fun e=>absurd O (by rw[e.1];exact UInt8.lt_irrefl _)⟩
   .rename_i O;rw[WY al bl];exact⟨fun e=>⟨d a b h O,e⟩,fun e=>e.2⟩
theorem Pp (a b:ByteArray):Mm a b=0↔a=b:=by
 unfold Mm;rw[WY];constructor
 .intro h;obtain⟨⟨x⟩⟩:=a;obtain⟨⟨y⟩⟩:=b;simp at h;rw[h]
 .intro h;rw[h]
def plN (aJ d am t:Int)(aD:ByteArray)(r h ay w:Int)(z:ByteArray):Int:=
 if¬aJ=r then BV r aJ else if¬d=h then BV h d else if¬am=ay then BV ay am else if¬t=w then BV w t else Mm aD z
def plR (aJ d am w:Int)(aD:ByteArray)(t h ay z:Int)(r:ByteArray):Int:=
 if¬aJ=t then 1 else if¬d=h then 2 else if¬am=ay then 3 else if¬w=z then 4 else if aD=r then 0 else 5
variable{a b:Int}{u v:List U}{l P M s:List (List U)}{i:Nat}{aZ:Type}
theorem Bq :BV a b=0↔a=b:=by
 unfold BV;split
 .omega
 .split<;>omega
def KS:List Kd:=[.str,.int .i64 IntKind.i64.min IntKind.i64.max,.int .i64 IntKind.i64.min IntKind.i64.max,.int .i64 IntKind.i64.min IntKind.i64.max,.int .i64 IntKind.i64.min IntKind.i64.max,.int .i64 IntKind.i64.min IntKind.i64.max]
theorem lG (h:AK AD KS u):[U.str (uS u 0),.int (uI u 1),.int (uI u 2),.int (uI u 3),.int (uI u 4),.int (uI u 5)]=u:=by
 obtain⟨_,_,rfl,⟨_,rfl,_⟩,_,_,rfl,⟨_,rfl,_⟩,_,_,rfl,⟨_,rfl,_⟩,_,_,rfl,⟨_,rfl,_⟩,_,_,rfl,⟨_,rfl,_⟩,_,_,rfl,⟨_,rfl,_⟩,h⟩:=h;rw[show _=[] from h];rfl
theorem lenT (h:AK AD KS u):u.length=6:=by rw[<-lG h];rfl
theorem pW (aa:∀u∈l,AK AD KS u)(Y:i < l.length)(d:AK AD KS v):
  EE l i 0 [U.str (uS v 0),.int (uI v 1),.int (uI v 2),.int (uI v 3),.int (uI v 4),.int (uI v 5)]=l.set i v:=by
 rw[lG d];exact Pu (by rw[lenT (aa _ (Az Y)),lenT d])
def cmpT (u v:List U):Int:=plN (uI u 1) (uI u 3) (uI u 4) (uI u 5) (uS u 0) (uI v 1) (uI v 3) (uI v 4) (uI v 5) (uS v 0)
def ltT (u v:List U):Bool:=decide (cmpT u v < 0)
def Al {aZ:Type}(f:Nat->aZ->aZ):Nat->aZ->aZ
 |0,x=>x
 |n+1,x=>f n (Al f n x)
theorem Je {aZ:Type}{f:Nat->aZ->aZ}{x:aZ}(p:Nat->aZ->Prop)(d:p 0 x)(aa:∀n y,p n y->p (n+1) (f n y)):∀n,p n (Al f n x)
 |0=>d
 |n+1=>aa n _ (Je p d aa n)
def D2 (P:List (List U))(i:Nat)(m:List (List U)):List (List U):=BG 1 m [.str (BL P i 0)] [.int i]
def IR (P:List (List U)):List (List U):=Al (D2 P) P.length []
def U7 (m:List (List U))(s:ByteArray):Prop:=Ah 1 m [.str s] < m.length
instance (m:List (List U))(s:ByteArray):Decidable (U7 m s):=by unfold U7;infer_instance
def C4 (m:List (List U))(s:ByteArray):Int:=(CX 1 0 m (.int 0) [.str s]).toI
def rowB (B:List (List U))(k:Nat):List U:=[.int (Ad B k 0),.int (Ad B k 1),.int (Ad B k 2),.bool (Bx B k 3),.str (BL B k 4),.str (BL B k 5),.bool (Bx B k 6),.int (Ad B k 7),.int (Ad B k 8)]
def EV (M B:List (List U))(k:Nat)(g:List (List U)):List (List U):=if U7 M (BL B k 4)/\U7 M (BL B k 5) then g++[rowB B k] else g
def jz (M B:List (List U)):List (List U):=Al (EV M B) B.length []
def Js (P:List (List U))(k:Nat)(s:List (List U)):List (List U):=EE s k 0 [.str (BL P k 0)]
def st0 (P:List (List U)):List (List U):=Al (Js P) P.length (List.replicate P.length [.str ByteArray.empty,.int 0,.int 0,.int 0,.int 0,.int 0])
abbrev w64 (n:Int):Int:=IntKind.i64.wrap n
def R9 (s:List (List U))(j:Int)(c:Nat)(v:Int):List (List U):=EE s j.toNat c [.int (w64 (Ad s j.toNat c+v))]
def subC (s:List (List U))(j:Int)(c:Nat)(v:Int):List (List U):=EE s j.toNat c [.int (w64 (Ad s j.toNat c - v))]
def Mf (a b:Int)(G:List (List U))(k:Nat):Prop:=a<=Ad G k 2/\Ad G k 2 < b
instance (a b:Int)(G:List (List U))(k:Nat):Decidable (Mf a b G k):=by unfold Mf;infer_instance
def Jq (M G:List (List U))(a b:Int)(k:Nat)(s:List (List U)):List (List U):=
 if Mf a b G k then R9 (R9 s (C4 M (BL G k 4)) 1 1) (C4 M (BL G k 5)) 2 1 else s
def inF (G:List (List U))(a b:Int)(k:Nat)(g:List (List U)):List (List U):=if Mf a b G k then g++[rowB G k] else g
def gA (G:List (List U))(a b:Int):List (List U):=Al (inF G a b) G.length []
def my (s:List (List U))(w x n:Int):List (List U):=subC (R9 s w 4 n) x 4 n
def oH (s:List (List U))(w x:Int):List (List U):=R9 s w 5 (Ad s x.toNat 1)
def nU (s:List (List U))(w x:Int):List (List U):=if Ad s w.toNat 1=Ad s x.toNat 1 then R9 s w 3 1 else s
def LF (M G:List (List U))(k:Nat)(s:List (List U)):List (List U):=
 nU (oH (my s (C4 M (BL G k 4)) (C4 M (BL G k 5)) (w64 (Ad G k 7 - Ad G k 8))) (C4 M (BL G k 4)) (C4 M (BL G k 5))) (C4 M (BL G k 4)) (C4 M (BL G k 5))
def NQ (P G:List (List U))(a b:Int):List (List U):=
 Al (LF (IR P) (gA G a b)) (gA G a b).length (Al (Jq (IR P) G a b) G.length (st0 P))
def Hr (a b:Int):Int:=if a < 0\/b < a\/1099511627776 < b then 3 else 0
def Mi (P L:List (List U)):List (List U):=jz (IR P) (Bi L)
def Un (P L:List (List U))(a b:Int):List (List U):=if Hr a b=0 then A6 ltT (NQ P (Mi P L) a b) else []
theorem qO (n:Nat):∀r∈Al (D2 P) n [],∃s,∃j:Nat,r=[.str s,.int j]/\j < n:=by
 refine Je (p:=fun n m=>∀r∈m,∃s,∃j:Nat,r=[U.str s,.int j]/\j < n) (fun r h=>by cases h) (fun n m t r d=>?_) n;have C:r∈m\/r=[U.str (BL P n 0),.int n]:=by
  unfold D2 BG at d;cases hd:decide (Ah 1 m [.str (BL P n 0)] < m.length) with
  |true=>
   rw[hd] at d;rcases List.mem_or_eq_of_mem_set d with h|h
   .exact .inl h
   .exact .inr h
  |false=>
   rw[hd] at d;simpa using d
 rcases C with C|C
 .obtain⟨s,j,h,w⟩:=t r C;exact⟨s,j,h,by omega⟩
 .exact⟨_,n,C,by omega⟩
theorem pk {n:Nat}(s:ByteArray):0<=C4 (Al (D2 P) n []) s/\(0 < n->C4 (Al (D2 P) n []) s < n):=by
 unfold C4 CX;cases hd:decide (Ah 1 (Al (D2 P) n []) [.str s] < (Al (D2 P) n []).length) with
 |false=>exact⟨uf 0,fun h=>by show (0:Int) < _;omega⟩
 |true=>
  have Y:=of_decide_eq_true hd;obtain⟨t,j,h,d⟩:=qO n _ (um Y);have e:(Al (D2 P) n []).getD (Ah 1 (Al (D2 P) n []) [.str s]) []=[.str t,.int j]:=by
   rw[uD,tZ Y];exact h
  rw[e];show 0<=(j:Int)/\(0 < n->(j:Int) < n);omega
theorem cX (s:ByteArray):0<=C4 (IR P) s/\(0 < P.length->C4 (IR P) s < P.length):=pk s
theorem ib {B:List (List U)}(n:Nat):P.length=0->Al (EV (IR P) B) n []=[]:=fun h=>by
 refine Je (p:=fun _ g=>g=[]) rfl (fun n g d=>?_) n;have:IR P=[]:=by unfold IR;rw[h];rfl
 unfold EV U7;rw[this,d];simp
theorem li {L:List (List U)}(h:0 < (Mi P L).length):0 < P.length:=by
 rcases uo P.length with d|d
 .unfold Mi jz at h;rw[ib _ d] at h;simp at h
 .exact d
theorem SH {f:Nat->List aZ->List aZ}(d:∀k g,(f k g).length<=g.length+1)(n:Nat):(Al f n []).length<=n:=
 Je (p:=fun n (g:List aZ)=>g.length<=n) (by simp) (fun n g h=>by have:=d n g;omega) n
theorem WT {B:List (List U)}(n:Nat):(Al (EV M B) n []).length<=n:=SH (fun k g=>by unfold EV;split<;>simp) n
theorem jK {G:List (List U)}(n:Nat):(Al (inF G a b) n []).length<=n:=SH (fun k g=>by unfold inF;split<;>simp) n
theorem N3 {c:Nat}:(EE l i c v).length=l.length:=by unfold EE;simp
theorem Ph {f:Nat->List aZ->List aZ}{x:List aZ}(d:∀k g,(f k g).length=g.length)(n:Nat):(Al f n x).length=x.length:=
 Je (p:=fun n (g:List aZ)=>g.length=x.length) rfl (fun n g h=>by rw[d,h]) n
theorem pd :(st0 P).length=P.length:=by unfold st0;exact (Ph (f:=Js P) (fun k g=>N3) _).trans (by simp)
theorem qI {G:List (List U)}(n:Nat):(Al (Jq M G a b) n s).length=s.length:=Ph (fun k g=>by unfold Jq R9;split<;>simp[N3]) n
theorem rA {G:List (List U)}(n:Nat):(Al (LF M G) n s).length=s.length:=Ph (fun k g=>by unfold LF nU oH my R9 subC;split<;>simp[N3]) n
theorem lL {G:List (List U)}:(NQ P G a b).length=P.length:=by unfold NQ;rw[rA,qI,pd]
theorem qJ (n:Nat):(Al (D2 P) n []).length<=n:=SH (fun k g=>J9) n
theorem WE {L:List (List U)}:(Bi L).length<=L.length:=by
 unfold Bi;rw[CH];have C:∀m:List (List U),(m.flatMap CQ).length<=m.length:=by
  intro m;induction m with
  |nil=>simp
  |cons r m h=>
   rw[List.flatMap_cons,tq,uJ];have:(CQ r).length<=1:=by unfold CQ;split<;>simp
   omega
 have O:∀(l m:List (List U)),(l.foldl HA m).length<=m.length+l.length:=by
  intro l;induction l with
  |nil=>intro m;simp
  |cons u l h=>
   intro m;rw[List.foldl_cons,uJ];have d:(HA m u).length<=m.length+1:=by
    unfold HA;split
    .exact J9
    .omega
   have:=h (HA m u);omega
 have:=C (Ar L);have d:=O L [];unfold Ar at*;simp at d;omega
theorem Rp :Hr a b=0↔¬(a < 0\/b < a\/1099511627776 < b):=by
 unfold Hr;split
 .rename_i h;exact⟨fun e=>by omega,fun e=>absurd h e⟩
 .rename_i h;exact⟨fun _=>h,fun _=>rfl⟩
def Zn:ByteArray:=⟨#[97,110,110]⟩
def Uk:ByteArray:=⟨#[98,111,98]⟩
def l9:ByteArray:=⟨#[99,97,116]⟩
def oD:List (List U):=[[.str Zn,.int 2000,.int 0],[.str Uk,.int 1500,.int 10],[.str l9,.int 1000,.int 20]]
def mm:List (List U):=[[.int 1,.int 0,.int 5,.bool false,.str Zn,.str Uk,.bool true,.int 26,.int 20],[.int 2,.int 0,.int 6,.bool false,.str Uk,.str l9,.bool true,.int 26,.int 3],[.int 3,.int 0,.int 7,.bool false,.str l9,.str Zn,.bool true,.int 26,.int 25]]
def KY:List (List U):=Un oD mm 0 100
theorem gQ:Br oD=0:=by kernel_rfl
theorem iK:AO mm=0:=by kernel_rfl
theorem rZ:Hr 0 100=0:=by kernel_rfl
theorem js:KY.length=3:=by kernel_rfl
theorem dQ:Ba Uk 1500 10 Zn 2000 0=0:=by kernel_rfl
theorem ex_i:Bz 1500 (B5 1500 2000 true)=1514:=by kernel_rfl
theorem ex_g:GG (Bz 1500 (B5 1500 2000 true)) 10=10:=by kernel_rfl
theorem ex_j:Bz 2000 (-(B5 1500 2000 true))=1986:=by kernel_rfl
theorem ex_h:GG (Bz 2000 (-(B5 1500 2000 true))) 0=0:=by kernel_rfl
theorem sZ:BL KY 0 0=Uk/\Ad KY 0 1=1/\Ad KY 0 2=1/\Ad KY 0 3=1/\Ad KY 0 4=17/\Ad KY 0 5=1:=⟨by kernel_rfl,by kernel_rfl,by kernel_rfl,by kernel_rfl,by kernel_rfl,by kernel_rfl⟩
end
end Go.Eng
end
