/-
  A part of the proof: the evaluator of code and its soundness.
-/
import Derived.Test.YtikbgnmcfncnaaaE4
import Derived.KernelRfl
import Derived.Test.YtikbgnmcfncnaaaProg
import Derived.Test.YtikbgnmcfncnaaaRows
import Derived.WalkKit
import Derived.ProofKit
import Derived.JoinedCond
import Derived.OpenShut
import Derived.Shelf.GgClosure.StringsIndexFuncTop
import Derived.Laws.RangeAny
import Derived.Lib.Bytealg
set_option linter.unusedVariables false
set_option linter.unusedSimpArgs false
noncomputable section
namespace Go.Eng
section
open Go Go.Eng Go.Proofs
def ir:List (Nat × Nat):=[(3,356811923197259157698710802876495906918760255),(4,550830080991),(5,170141193601676453770381015179702828319),(6,89202980794163057433707209216026507515787263),(7,4630263367964029055),(8,6734599546214597221990822883665133711009854619906111),(9,9908658249016404373193949127),(10,98079720826798845593930068094850309804911155896884789191),(11,137456271347),(12,70506183115263),(13,3064991081731777722365913037005480846757658662151385151),(14,20752587087222415351),(15,127),(16,17375),(17,32967),(18,1125938561695871),(19,4611704712406761927),(20,4398601212221),(21,2360397),(22,1152923703630102535),(23,285),(24,33011),(25,33571891),(26,33571891),(27,1),(28,4351),(29,525),(30,8395535),(31,1),(32,255),(33,33551),(34,10141204806031981158242960407583),(35,316912952583809060057652395039),(36,1126449931223167),(37,33571891),(38,2163),(39,4296024039),(40,1057479),(41,134495533),(42,262707),(43,4398063288335),(44,4786206345238451),(45,20754838917633812467),(46,77),(47,1165),(48,32967),(49,525),(50,18399),(51,575),(52,4295231479),(53,274945034231),(54,9007199254874355),(55,525),(56,23),(57,16447),(58,71),(59,71),(60,8903),(61,7),(62,1125899906851101),(63,71),(64,1099511662605),(65,146243636491757),(66,151115731674017756698611),(67,7715),(68,1),(69,45),(70,4296023823),(71,19),(72,63),(73,134714111),(74,67113231),(75,140874944118543),(76,262707),(77,36028797019098895),(78,2475880078606789348968890611),(79,147),(80,19342813122841268197662663),(81,32831),(82,7),(83,5),(84,504373101),(85,4294983149),(86,19807040630007236279178105341),(87,19),(88,7),(89,18874823),(90,21),(91,135199),(92,479),(93,31),(94,1065211),(95,67643),(96,1),(97,268435583),(98,144115192370823171),(99,1),(100,19),(101,31),(102,17389),(103,604275),(104,21),(105,730750818665451459250395221072963867452968785863),(106,21),(107,3),(108,1),(109,1075843571),(110,19),(111,5),(112,65619),(113,66483),(114,549764202519),(115,191),(116,2147483835),(117,158514353557870112340845789213),(118,53478898112939196370036498439096720537788676143893093693041676285),(119,21),(120,3),(121,5),(122,18014433942971335),(123,31),(124,604275),(125,31),(126,31),(127,31),(128,31),(129,19),(130,19),(131,2333),(132,19),(133,32829),(134,5),(135,1064973),(136,19),(137,18014433942971335),(138,17179886351),(139,13164839976634628298295110780136696778032692856359452003713154079),(140,5),(141,19),(142,531911),(143,7),(144,17179886351),(145,13164839976634628298295110780136696778032692856359452003713154079),(146,9440287),(148,9440287),(149,9231),(150,9231)]
def bk:List (Nat × Nat)->Nat->Nat
 |[],_=>0
 |(i,k)::r,f=>bif Nat.beq i f then k else bk r f
def iu:List (Nat × List Nat):=[(5,[0]),(6,[0]),(7,[0]),(8,[0,2]),(9,[0]),(10,[0,2]),(11,[0]),(13,[0]),(19,[0,2]),(20,[0,2,4]),(21,[0]),(25,[0]),(26,[0]),(34,[0,2]),(35,[0,2,4,6]),(37,[0]),(41,[0]),(42,[0]),(44,[0,2]),(45,[0,2]),(54,[0]),(62,[0,2]),(64,[0]),(65,[0,2]),(66,[0,2]),(67,[0]),(75,[0,2]),(76,[0]),(77,[0]),(78,[0]),(80,[0]),(84,[0,2]),(85,[0]),(86,[0,2,4]),(98,[0,2]),(105,[0,2,4]),(109,[0]),(113,[0]),(114,[0,2]),(116,[0]),(117,[0]),(118,[0,2]),(122,[0,2,4]),(133,[0]),(137,[0,2,4]),(138,[0,2]),(139,[0,2,4,6,8]),(142,[0]),(144,[0,2]),(145,[0,2,4,6,8]),(146,[0]),(148,[0]),(149,[0]),(150,[0])]
def ZW:List (Nat × List Nat)->Nat->Nat->Option DO
 |[],_,_=>none
 |(i,l)::r,f,b=>bif Nat.beq i f then (bif l.any (Nat.beq b) then some {} else none) else ZW r f b
def mus:Nat->Tmp->Nat
 |101,15=>2
 |108,6=>2
 |105,23=>1
 |66,84=>3
 |_,_=>0
def frzs:Nat->Nat->Bool
 |100,2=>true
 |71,2=>true
 |105,27=>true
 |_,_=>false
def AW:FuncId->C2:=fun f=>⟨bk ir f,ZW iu f,fun _=>none,mus f,frzs f⟩
theorem Bh:Try.prog.follows .mixedOrders=true:=by kernel_rfl
end
end Go.Eng
end
noncomputable section
namespace Go.Proofs.Ytikbgnmcfncnaaa
open Go Go.Eng Go.RowKit Go.ChangeShapes Go.WideShapes Go.ChangeAt
section
variable {H:Type}
theorem eu (d:DataW H):0 < Rows.uptoBulk d:=by
 cases d with
 |lit l=>cases l<;>simp[Rows.uptoBulk]
 |_=>simp[Rows.uptoBulk]
theorem OE:∀(l:List (DataW H)),l.length<=Rows.uptoBulkAll l
 |[]=>by simp[Rows.uptoBulkAll]
 |d::r=>by
  have h1:=eu d;have h2:=OE r;simp only[wQ,Rows.uptoBulkAll];omega
mutual
theorem eL:(d:DataW H)->Rows.uptoBulk d<=1048576->Cv 1048576 d
 | .lit l,h=> .lit fun s e=>by
  subst e;simp only[Rows.uptoBulk] at h;omega
 | .nil,_=> .nil
 | .ptr d,_=> .ptr d
 | .slice l s,h=>by
  simp only[Rows.uptoBulk] at h;have h1:=OE l;exact .slice (by omega) (Jz l (by omega))
 | .agg l,h=>by
  simp only[Rows.uptoBulk] at h;exact .agg (Jz l (by omega))
 | .iface t d,_=> .iface t d
 | .map es,_=> .map es
 | .held h,_=> .held h
theorem Jz:(l:List (DataW H))->Rows.uptoBulkAll l<=1048576->∀d∈l,Cv 1048576 d
 |[],_=>fun d hd=>by cases hd
 |x::r,h=>fun d hd=>by
  simp only[Rows.uptoBulkAll] at h;rcases List.mem_cons.1 hd with e|hd
  .rw[e];exact eL x (by omega)
  .exact Jz r (by omega) d hd
end
end
theorem W5 {H:Type}{enc:TypeId × Value->H}{P:Program}{W:World}{base:Nat}{sp:Nat->Bool}{held:Bool}:∀{ts:List TypeId} {vs:List Value} {ds:List (DataW H)} {ps:List MemPlace},DataW.TrodAll enc P W base sp held ts vs ds ps->ds.length=ts.length
 |[],[],[],_,_=>rfl
 |[],[],_::_,_,h=>h.elim
 |[],_::_,_,_,h=>h.elim
 |_::_,[],_,_,h=>h.elim
 |_::_,_::_,[],_,h=>h.elim
 |_::ts,_::vs,_::ds,_,⟨_,_,_,h2,_⟩=>by simp[W5 h2]
theorem own:ownKnob Try.prog.godebug=none:=by kernel_rfl
theorem laid:laidOutB Try.prog=true:=by kernel_rfl
set_option maxRecDepth 100000 in
theorem VD {s:ChangeSpec}{f:Func}{k:FuncId}(hres:f.resultTypes= #[4])(hvs:s.vars=[])(hrec:∀t∈f.params.toList,Try.prog.readableRec t=true/\t < Try.prog.types.size)
  (hfn:∀(H:Type) (ds:List (DataW H)),ds.length=f.params.toList.length->s.fn H ds={ results:=[.lit (.bool true)],args:=ds })
  (hcall:∀{H:Type} {enc:TypeId × Value->H} {W:World} {base:Nat} {vs:List Value} {ds:List (DataW H)} {ps:List MemPlace},DataW.TrodAll enc Try.prog W 0 (fun _=>true) true f.params.toList vs ds ps->
   (∀(j:Nat) t v,f.params.toList[j]? =some t->vs[j]? =some v->Value.okWide Try.prog W .any base t v)->(∀d∈ds,Cv 1048576 d)->
   Calls Try.prog k (vs:List Value).toArray W fun e W'=>e= .returned (.bool true)/\Below W.heap.size W W')
  (htb:Try.prog.underlying 4=some .bool)
  (H:Type) (enc:TypeId × Value->H) (W:World) (base:Nat) (args:Array Value) (ds gs:List (DataW H)) (before:List MemPlace)
  (hval:∀(j:Nat) t v,f.params[j]? =some t->args[j]? =some v->Value.okWide Try.prog W .any base t v)
  (hW:DataW.Whole enc Try.prog f.params.toList s.vars false W args.toList ds gs before) (hk:Rows.uptoSmall H (ds++gs)=true):
  Calls Try.prog k args W fun e W'=>∃v,e= .returned v/\s.post enc Try.prog f false true false false W args v W':=by
 have hW0:=hW;obtain⟨p,q,hA,hV,rfl,hz,hn⟩:=hW;have hgs:gs=[]:=by
  rw[hvs] at hV;cases gs with
  |nil=>rfl
  |cons=>exact hV.elim
 subst hgs;have hlen:ds.length=f.params.toList.length:=W5 hA;have hsh:∀d∈ds,Cv 1048576 d:=Jz ds (by
  have h1:=hk;unfold Rows.uptoSmall at h1;rw[List.append_nil,decide_eq_true_eq] at h1;exact h1)
 have hc:=hcall hA (fun j t v h1 h2=>hval j t v (by simpa using h1) (by simpa using h2)) hsh;refine hc.mono fun e W' ⟨he,hb⟩=>⟨_,he,?_⟩;exact cO laid hrec hres htb hvs (by rw[List.append_nil];exact hfn H ds hlen) hW0 hb
end Go.Proofs.Ytikbgnmcfncnaaa
end
noncomputable section
namespace Go.Eng
section
open Go Go.Proofs
def Ku (b:UInt8):Bool:=(decide (97<=b.toNat)&&decide (b.toNat<=122))||(decide (48<=b.toNat)&&decide (b.toNat<=57))
def EC (s:ByteArray):Bool:=decide (1<=s.size)&&decide (s.size<=20)&&s.data.toList.all Ku
def Ay (x lo hi:Int):Bool:=decide (lo<=x)&&decide (x<=hi)
theorem Bk {x lo hi:Int}:Ay x lo hi=true↔(lo<=x/\x<=hi):=by simp[Ay]
def Ch (r:Nat):Bool:=(decide (r < 97)||decide (122 < r))&&(decide (r < 48)||decide (57 < r))
theorem Lb (b:UInt8):Ku b= !Ch b.toNat:=by
 rw[Bool.eq_iff_iff];simp only[Ku,Ch,wU,vo,decide_eq_true_eq,Bool.not_eq_true',Bool.and_eq_false_iff,Bool.or_eq_false_iff,decide_eq_false_iff_not];omega
theorem XR (s:ByteArray):∀(f pos:Nat),s.size<=pos+f->(Lib.idxFuncFrom Ch true s f pos= -1↔∀j (h:j < s.size),pos<=j->Ku (s[j]'h)=true)
 |0,pos,hf=>by
  simp only[Lib.idxFuncFrom,true_iff];intro j h hp;omega
 |f+1,pos,hf=>by
  unfold Lib.idxFuncFrom;by_cases hp:pos < s.size
  .rw[if_pos hp];by_cases ha:(s[pos]'hp).toNat < 128
   .rw[decode_ascii s pos hp ha];simp only;by_cases hb:Ch (s[pos]'hp).toNat=true
    .rw[if_pos hb];constructor
     .intro h;omega
     .intro h;have:=h pos hp (vr _);rw[Lb,hb] at this;cases this
    .rw[if_neg hb,XR s f (pos+1) (by omega)];constructor
     .intro h j hj hle;by_cases e:j=pos
      .subst e;rw[Lb];simpa using hb
      .exact h j hj (by omega)
     .intro h j hj hle;exact h j hj (by omega)
   .obtain⟨h1,h2⟩:=decode_high s pos hp (by omega);have hb:Ch (Utf8.decode s pos).1=true:=by
     simp only[Ch,wU,vo,decide_eq_true_eq];omega
    rw[if_pos hb];constructor
    .intro h;omega
    .intro h;have:=h pos hp (vr _);rw[Lb] at this;have hb2:Ch (s[pos]'hp).toNat=true:=by
      simp only[Ch,wU,vo,decide_eq_true_eq];omega
     rw[hb2] at this;cases this
  .rw[if_neg hp];simp only[true_iff];intro j h hle;omega
theorem aX (s:ByteArray):s.data.toList.all Ku=true↔∀j (h:j < s.size),Ku (s[j]'h)=true:=by
 rw[wR];constructor
 .intro h j hj;exact h _ (by
   have:s[j]=s.data.toList[j]'(by simpa using hj):=rfl;rw[this];exact List.getElem_mem _)
 .intro h x hx;obtain⟨j,hj,rfl⟩:=List.getElem_of_mem hx;exact h j (by simpa using hj)
theorem Yf (s:ByteArray):EC s=(decide (1<=s.size)&&decide (s.size<=20)&& !decide (0<=Lib.idxFunc Ch true s)):=by
 have h1:=XR s s.size 0 (by omega);have h2:=aX s;have h3:=Lib.idxFunc_range Ch true s;unfold EC;congr 1;rw[Bool.eq_iff_iff,h2];change Lib.idxFunc Ch true s= -1↔_ at h1;rw[Bool.not_eq_true',decide_eq_false_iff_not];constructor
 .intro h;have:=h1.2 fun j hj _=>h j hj;omega
 .intro h j hj;exact h1.1 (by omega) j hj (wX _)
end
section
def DC (s:ByteArray)(x g:Int):Bool:=EC s&&Ay x (-10000) 10000&&Ay g (-12) 48
def Am (s:ByteArray)(x g:Int)(t:ByteArray)(y h:Int):Int:=
 if DC s x g=true/\DC t y h=true then (if s=t then 12 else 0) else 2
theorem Ea {s:ByteArray}{x g:Int}:DC s x g=true↔(EC s=true/\(-10000<=x/\x<=10000)/\ -12<=g/\g<=48):=by
 unfold DC;rw[vo,vo,Bk,Bk,and_assoc]
theorem JA {s:ByteArray}{x g:Int}{t:ByteArray}{y h:Int}(e:Am s x g t y h=0):DC s x g=true/\DC t y h=true/\¬s=t:=by
 unfold Am at e;split at e
 .rename_i hp;split at e
  .omega
  .exact⟨hp.1,hp.2,by assumption⟩
 .omega
theorem Nm {n:Int}(h0:0<=n)(h1:n<=19):1<=D8 Da n/\D8 Da n<=10:=by
 obtain⟨k,rfl⟩:∃k:Nat,n=k:=⟨n.toNat,by omega⟩;have key:∀k:Fin 20,1<=D8 Da ((k:Nat):Int)/\D8 Da ((k:Nat):Int)<=10:=by decide
 exact key ⟨k,by omega⟩
theorem HF (a b:Int)(l:Bool):1<=Ar a b l/\Ar a b l<=19:=by
 unfold Ar;split
 .split
  .have:=Nm (n:=min ((b - a) / 100) 19) (by omega) (by omega);omega
  .have:=Nm (n:=min ((a - b) / 100) 19) (by omega) (by omega);omega
 .omega
def Dt (x g:Int):Bool:=Ay g (-12) 48&&(decide (g<= -12)||decide (x < BU (g - 1)))&&(decide (48<=g)||decide (BU (g+1) < x))
theorem Ho {x g:Int}:Dt x g=true↔((-12<=g/\g<=48)/\(g<= -12\/x < BU (g - 1)))/\(48<=g\/BU (g+1) < x):=by
 unfold Dt;rw[vo,vo,Bk,wU,wU,decide_eq_true_eq,decide_eq_true_eq,decide_eq_true_eq,decide_eq_true_eq]
def Ba (a b:Int):Int:=if a < b then -1 else if b < a then 1 else 0
def uI (u:List U)(c:Nat):Int:=(u.getD c default).toI
def uB (u:List U)(c:Nat):Bool:=(u.getD c default).toB
def uS (u:List U)(c:Nat):ByteArray:=(u.getD c default).toS
section
variable {lt:List U->List U->Bool}{x:List U}{P R S l:List (List U)}{k a i b:Nat}
def EM (lt:List U->List U->Bool)(x:List U):List (List U)->List (List U)
 |[]=>[x]
 |y::r=>if lt x y=true then y::EM lt x r else x::y::r
def EK (lt:List U->List U->Bool)(l:List (List U)):List (List U):=l.foldl (fun acc x=>EM lt x acc) []
def Aw (lt:List U->List U->Bool)(l:List (List U))(a b:Nat):List (List U):=l.take a++(EK lt ((l.take b).drop a)).reverse++l.drop b
def Q1 (lt:List U->List U->Bool)(l:List (List U))(a i:Nat):List (List U):=l.take a++(EM lt (l.getD i []) ((l.take i).drop a).reverse).reverse++l.drop (i+1)
def CE (P R S:List (List U))(x:List U)(k:Nat):List (List U):=P++(R.take k++x::R.drop k).reverse++S
theorem R2 (hk:k < R.length):CE P R S x k=(P++(R.drop (k+1)).reverse)++R.getD k []::x::((R.take k).reverse++S):=by
 have:R.drop k=R.getD k []::R.drop (k+1):=by
  rw[List.drop_eq_getElem_cons hk,wL,vt hk];rfl
 unfold CE;rw[this];simp
theorem dP (hk:k < R.length):CE P R S x (k+1)=(P++(R.drop (k+1)).reverse)++x::R.getD k []::((R.take k).reverse++S):=by
 have:R.take (k+1)=R.take k++[R.getD k []]:=by
  rw[List.take_add_one,wL,vt hk];rfl
 unfold CE;rw[this];simp
theorem dY {A B:List (List U)}{x y:List U}:((A++y::x::B).set (A.length+1) y).set A.length x=A++x::y::B:=by
 induction A with
 |nil=>rfl
 |cons c A ih=>simp only[List.cons_append,wQ,List.set_cons_succ];rw[ih]
theorem dh (hk:k < R.length):((CE P R S x k).set (P.length+(R.length - k)) (R.getD k [])).set (P.length+(R.length - k) - 1) x=CE P R S x (k+1):=by
 rw[R2 hk,dP hk];have e:(P++(R.drop (k+1)).reverse).length=P.length+(R.length - k) - 1:=by simp;omega
 rw[<-e,show P.length+(R.length - k)=(P++(R.drop (k+1)).reverse).length+1 by simp;omega];exact dY
theorem gj (hk:k<=R.length):(CE P R S x k).getD (P.length+(R.length - k)) []=x:=by
 unfold CE;simp only[List.reverse_append,List.reverse_cons];rw[wL,wZ,wF (by omega),wZ,wZ,wF (by simp)];simp
theorem dp (hk:k < R.length):(CE P R S x k).getD (P.length+(R.length - k) - 1) []=R.getD k []:=by
 rw[R2 hk,wL];have e:(P++(R.drop (k+1)).reverse).length=P.length+(R.length - k) - 1:=by simp;omega
 rw[<-e,wF (vr _)];simp
theorem fL:(CE P R S x k).length=P.length+R.length+1+S.length:=by
 unfold CE;simp;omega
theorem XC:∀{R:List (List U)} {k:Nat},k<=R.length->(∀q,q < k->lt x (R.getD q [])=true)->(k=R.length\/¬lt x (R.getD k [])=true)->EM lt x R=R.take k++x::R.drop k
 |[],k,h,_,_=>by
  have:k=0:=by simpa using h
  subst this;rfl
 |y::R,0,_,_,h=>by
  simp only[EM];rcases h with h|h
  .simp at h
  .rw[if_neg (by simpa using h)];rfl
 |y::R,k+1,h,h1,h2=>by
  simp only[EM];rw[if_pos (by simpa using h1 0 (by omega)),XC (k:=k) (by simpa using h) (fun q hq=>by simpa using h1 (q+1) (by omega)) (by
   rcases h2 with h2|h2
   .exact .inl (by simpa using h2)
   .exact .inr (by simpa using h2))]
  rfl
theorem Vr:∀{R:List (List U)},(EM lt x R).length=R.length+1
 |[]=>rfl
 |y::R=>by
  simp only[EM];split
  .simp[Vr (R:=R)]
  .rfl
theorem Xj:EK lt (l++[x])=EM lt x (EK lt l):=by
 unfold EK;rw[List.foldl_append];rfl
theorem NT:(EK lt l).length=l.length:=by
 have key:∀(l acc:List (List U)),(l.foldl (fun acc x=>EM lt x acc) acc).length=acc.length+l.length:=by
  intro l;induction l with
  |nil=>exact fun _=>rfl
  |cons y l ih=>intro acc;rw[List.foldl_cons,ih,Vr];simp;omega
 unfold EK;rw[key];simp
def C5 (lt:List U->List U->Bool)(l:List (List U)):List (List U):=(EK lt l).reverse
theorem Ug {n:Nat}(h:n=l.length):Aw lt l 0 n=C5 lt l:=by
 subst h;unfold Aw C5;simp
theorem bS:(C5 lt l).length=l.length:=by unfold C5;rw[List.length_reverse,NT]
theorem UX {y:List U}:∀{R:List (List U)},y∈EM lt x R->y=x\/y∈R
 |[],h=>by simpa [EM] using h
 |z::R,h=>by
  simp only[EM] at h;split at h
  .rcases List.mem_cons.1 h with h|h
   .exact .inr (List.mem_cons.2 (.inl h))
   .rcases UX h with h|h
    .exact .inl h
    .exact .inr (List.mem_cons.2 (.inr h))
  .rcases List.mem_cons.1 h with h|h
   .exact .inl h
   .exact .inr h
theorem GR (h:i < l.length):l.take (i+1)=l.take i++[l.getD i []]:=by
 rw[List.take_add_one,wL,vt h];rfl
theorem M8 (ha:a<=i)(h:i < l.length):(l.take (i+1)).drop a=(l.take i).drop a++[l.getD i []]:=by
 rw[GR h,List.drop_append_of_le_length (by simp;omega)]
theorem IU (h:a<=l.length):Aw lt l a (a+1)=l:=by
 unfold Aw;rcases wD a l.length with h1|h1
 .have e:(l.take (a+1)).drop a=[l.getD a []]:=by
   rw[M8 (vr _) h1];simp[List.drop_take]
  rw[e];show l.take a++[l.getD a []]++l.drop (a+1)=l;rw[<-GR h1,List.take_append_drop]
 .have e:l.take a=l:=List.take_of_length_le h1;have e2:l.take (a+1)=l:=List.take_of_length_le (by omega);rw[e2,List.drop_eq_nil_of_le h1,List.drop_eq_nil_of_le (show l.length<=a+1 by omega),e];simp[EK]
theorem KK (h:b<=a)(h2:a<=b):Aw lt l a b=l:=by
 obtain rfl:a=b:=by omega
 unfold Aw;rw[List.drop_eq_nil_of_le (by simp;omega)];simp[EK]
theorem Th (h:a<=b)(h2:b<=l.length):(Aw lt l a b).length=l.length:=by
 unfold Aw;simp[NT];omega
theorem X5 (h:a<=i)(h2:i<=l.length):(Aw lt l a i).take a=l.take a/\((Aw lt l a i).take i).drop a=(EK lt ((l.take i).drop a)).reverse/\(Aw lt l a i).drop i=l.drop i:=by
 unfold Aw;have e1:(l.take a).length=a:=by simp;omega
 have e2:((EK lt ((l.take i).drop a)).reverse).length=i - a:=by simp[NT];omega
 have e3:(l.take a++(EK lt ((l.take i).drop a)).reverse).length=i:=by rw[wC,e1,e2];omega
 refine⟨?_,?_,?_⟩
 .rw[wZ,List.take_left' e1]
 .rw[List.take_left' e3,List.drop_left' e1]
 .rw[List.drop_left' e3]
theorem Re (h:a<=i)(h2:i < l.length):Aw lt l a (i+1)=Q1 lt (Aw lt l a i) a i:=by
 obtain⟨e1,e2,e3⟩:=X5 (lt:=lt) h (Nat.le_of_lt h2);unfold Q1;have e4:(Aw lt l a i).getD i []=l.getD i []:=by
  have:=congrArg (fun z=>z.getD 0 []) e3;simpa [wL,List.getElem?_drop] using this
 have e5:(Aw lt l a i).drop (i+1)=l.drop (i+1):=by
  have:=congrArg (fun z=>z.drop 1) e3;simpa [List.drop_drop,Nat.add_comm] using this
 rw[e1,e2,e4,e5,List.reverse_reverse];show l.take a++(EK lt ((l.take (i+1)).drop a)).reverse++l.drop (i+1)=_;rw[M8 h h2,Xj]
theorem Ta (h:a<=i)(h2:i < l.length):CE (l.take a) (((l.take i).drop a).reverse) (l.drop (i+1)) (l.getD i []) 0=l:=by
 unfold CE;simp only[List.take_zero,List.nil_append,List.drop_zero,List.reverse_cons,List.reverse_reverse];rw[<-M8 h h2];have e:l.take (i+1)=l.take a++(l.take (i+1)).drop a:=by
  have:=List.take_append_drop a (l.take (i+1));rw[List.take_take,Nat.min_eq_left (by omega)] at this;exact this.symm
 rw[<-e,List.take_append_drop]
theorem Vn (h:a<=i)(h2:i < l.length)(hk:k<=i - a)(h3:∀q,q < k->lt (l.getD i []) ((((l.take i).drop a).reverse).getD q [])=true)(h4:k=i - a\/¬lt (l.getD i []) ((((l.take i).drop a).reverse).getD k [])=true):
  CE (l.take a) (((l.take i).drop a).reverse) (l.drop (i+1)) (l.getD i []) k=Q1 lt l a i:=by
 have e:(((l.take i).drop a).reverse).length=i - a:=by simp;omega
 unfold Q1 CE;rw[XC (k:=k) (by rw[e];exact hk) h3 (by rw[e];exact h4)]
theorem Jx {j:Nat}{c:List (List U)}(ha:a<=j)(hj:j<=i)(hi:i < l.length)(hc:c=CE (l.take a) (((l.take i).drop a).reverse) (l.drop (i+1)) (l.getD i []) (i - j)):c.length=l.length/\c.getD j []=l.getD i []/\
  (a < j->c.getD (j - 1) []=(((l.take i).drop a).reverse).getD (i - j) []/\(c.set j (c.getD (j - 1) [])).set (j - 1) (c.getD j [])=CE (l.take a) (((l.take i).drop a).reverse) (l.drop (i+1)) (l.getD i []) (i - (j - 1))):=by
 have e:(((l.take i).drop a).reverse).length=i - a:=by simp;omega
 have e2:(l.take a).length=a:=by simp;omega
 have e3:(l.take a).length+((((l.take i).drop a).reverse).length - (i - j))=j:=by rw[e,e2];omega
 have h1:=gj (P:=l.take a) (R:=((l.take i).drop a).reverse) (S:=l.drop (i+1)) (x:=l.getD i []) (k:=i - j) (by rw[e];omega);rw[e3,<-hc] at h1;refine⟨by rw[hc,fL,e,e2];simp;omega,h1,fun haj=>?_⟩;have h2:=dp (P:=l.take a) (R:=((l.take i).drop a).reverse) (S:=l.drop (i+1)) (x:=l.getD i []) (k:=i - j) (by rw[e];omega);have h3:=dh (P:=l.take a) (R:=((l.take i).drop a).reverse) (S:=l.drop (i+1)) (x:=l.getD i []) (k:=i - j) (by rw[e];omega);rw[e3,<-hc] at h2 h3;refine⟨h2,?_⟩;rw[h1,h2,h3,show i - (j - 1)=i - j+1 by omega]
end
theorem Mg {l:List (List U)}{i:Nat}{u:List U}(h:(l.getD i []).length=u.length):Dc l i 0 u=l.set i u:=by
 unfold Dc;rw[v8,List.take_zero,List.nil_append,List.drop_eq_nil_of_le (by omega),List.append_nil]
theorem Ie {l:List (List U)}{i:Nat}{u:List U}{p:List U->Prop}(h:∀v∈l,p v)(hu:p u):∀v∈l.set i u,p v:=fun v hv=>by
 rcases List.mem_or_eq_of_mem_set hv with h1|h1
 .exact h v h1
 .rw[h1];exact hu
theorem Dj {l:List (List U)}{i:Nat}(h:i < l.length):l.getD i []∈l:=by
 rw[wL,vt h];exact List.getElem_mem h
def KB:List Kd:=[.int .i64 IntKind.i64.min IntKind.i64.max,.int .i64 IntKind.i64.min IntKind.i64.max,.int .i64 IntKind.i64.min IntKind.i64.max,.bool,.str,.str,.bool,.int .i64 IntKind.i64.min IntKind.i64.max,.int .i64 IntKind.i64.min IntKind.i64.max]
theorem QT {u:List U}(h:AT AF KB u):[U.int (uI u 0),.int (uI u 1),.int (uI u 2),.bool (uB u 3),.str (uS u 4),.str (uS u 5),.bool (uB u 6),.int (uI u 7),.int (uI u 8)]=u:=by
 obtain⟨_,_,rfl,⟨_,rfl,_⟩,_,_,rfl,⟨_,rfl,_⟩,_,_,rfl,⟨_,rfl,_⟩,_,_,rfl,⟨_,rfl⟩,_,_,rfl,⟨_,rfl,_⟩,_,_,rfl,⟨_,rfl,_⟩,_,_,rfl,⟨_,rfl⟩,_,_,rfl,⟨_,rfl,_⟩,_,_,rfl,⟨_,rfl,_⟩,h⟩:=h;rw[show _=[] from h];rfl
theorem dt {u:List U}(h:AT AF KB u):u.length=9:=by rw[<-QT h];rfl
theorem tV {l:List (List U)}{i:Nat}{v:List U}(hs:∀u∈l,AT AF KB u)(hi:i < l.length)(hv:AT AF KB v):
  Dc l i 0 [U.int (uI v 0),.int (uI v 1),.int (uI v 2),.bool (uB v 3),.str (uS v 4),.str (uS v 5),.bool (uB v 6),.int (uI v 7),.int (uI v 8)]=l.set i v:=by
 rw[QT hv];exact Mg (by rw[dt (hs _ (Dj hi)),dt hv])
def uG (u v:List U):Int:=if Ba (uI u 2) (uI v 2)=0 then Ba (uI u 0) (uI v 0) else Ba (uI u 2) (uI v 2)
def ltB (u v:List U):Bool:=decide (uG u v < 0)
structure WkO (lt:List U->List U->Bool):Prop where
 asym:∀a b,lt a b=true->¬lt b a=true
 tr:∀a b c,¬lt b a=true->¬lt c b=true->¬lt c a=true
section
variable {lt:List U->List U->Bool}{x:List U}{l l' R:List (List U)}
theorem Ro:∀{R:List (List U)},(EM lt x R).Perm (x::R)
 |[]=>List.Perm.refl _
 |y::R=>by
  simp only[EM];split
  .exact ((Ro (R:=R)).cons y).trans (List.Perm.swap x y R)
  .exact List.Perm.refl _
theorem Xa:(EK lt l).Perm l:=by
 have key:∀(l acc:List (List U)),(l.foldl (fun acc x=>EM lt x acc) acc).Perm (l++acc):=by
  intro l;induction l with
  |nil=>exact fun acc=>List.Perm.refl _
  |cons y l ih=>
   intro acc;rw[List.foldl_cons];exact ((ih _).trans (Ro.append_left l)).trans List.perm_middle
 have:=key l [];rwa [List.append_nil] at this
theorem Lq:(C5 lt l).Perm l:=(List.reverse_perm _).trans Xa
theorem SO {y:List U}:y∈C5 lt l↔y∈l:=Lq.mem_iff
theorem Od (h:WkO lt):∀{R:List (List U)},R.Pairwise (fun a b=>¬lt a b=true)->(EM lt x R).Pairwise (fun a b=>¬lt a b=true)
 |[],_=>List.pairwise_singleton _ _
 |y::R,hp=>by
  rw[List.pairwise_cons] at hp;simp only[EM];split
  .rename_i hlt;refine List.pairwise_cons.2 ⟨fun z hz=>?_,Od h hp.2⟩;rcases UX hz with rfl|hz
   .exact h.asym _ _ hlt
   .exact hp.1 z hz
  .rename_i hlt;refine List.pairwise_cons.2 ⟨fun z hz=>?_,List.pairwise_cons.2 hp⟩;rcases List.mem_cons.1 hz with rfl|hz
   .exact hlt
   .exact h.tr _ _ _ (hp.1 z hz) hlt
theorem Tn (h:WkO lt):(EK lt l).Pairwise (fun a b=>¬lt a b=true):=by
 have key:∀(l acc:List (List U)),acc.Pairwise (fun a b=>¬lt a b=true)->(l.foldl (fun acc x=>EM lt x acc) acc).Pairwise (fun a b=>¬lt a b=true):=by
  intro l;induction l with
  |nil=>exact fun acc h=>h
  |cons y l ih=>intro acc ha;rw[List.foldl_cons];exact ih _ (Od h ha)
 exact key l [] List.Pairwise.nil
theorem M1 (h:WkO lt):(C5 lt l).Pairwise (fun a b=>¬lt b a=true):=by
 unfold C5;exact List.pairwise_reverse.2 (Tn h)
theorem Xz (hp:l.Perm l')(h1:l.Pairwise (fun a b=>¬lt b a=true))(h2:l'.Pairwise (fun a b=>¬lt b a=true))(hd:∀a b,a∈l->b∈l->¬lt a b=true->¬lt b a=true->a=b):l=l':=
 List.Perm.eq_of_pairwise (le:=fun a b=>¬lt b a=true) (fun a b ha hb x y=>hd a b ha (hp.mem_iff.2 hb) y x) h1 h2 hp
theorem Y6 (h:WkO lt)(hp:l.Perm l')(hd:∀a b,a∈l->b∈l->¬lt a b=true->¬lt b a=true->a=b):C5 lt l=C5 lt l':=
 Xz (Lq.trans (hp.trans Lq.symm)) (M1 h) (M1 h) fun a b ha hb=>hd a b (SO.1 ha) (SO.1 hb)
end
theorem Vd {a b:Int}:Ba a b < 0↔a < b:=by
 unfold Ba;split
 .omega
 .split<;>omega
theorem XI {a b:Int}:Ba a b=0↔a=b:=by
 unfold Ba;split
 .omega
 .split<;>omega
theorem RJ {u v:List U}:ltB u v=true↔(uI u 2 < uI v 2\/(uI u 2=uI v 2/\uI u 0 < uI v 0)):=by
 unfold ltB uG;rw[decide_eq_true_eq];split
 .rename_i h;rw[Vd];have:=XI.1 h;omega
 .rename_i h;rw[Vd];have:¬uI u 2=uI v 2:=fun e=>h (XI.2 e);omega
theorem wkB:WkO ltB where
 asym:=fun a b h=>by rw[RJ] at h⊢;omega
 tr:=fun a b c h1 h2=>by rw[RJ] at h1 h2⊢;omega
def Mz (m:List (List U))(n:Int):Prop:=Az 1 m [.int n] < m.length
instance (m:List (List U))(n:Int):Decidable (Mz m n):=by unfold Mz;infer_instance
def verN (m:List (List U))(n:Int):Int:=(Ct 1 1 m (.int 0) [.int n]).toI
def Gp (m:List (List U))(u:List U):List (List U):=if¬Mz m (uI u 0)\/verN m (uI u 0) < uI u 1 then Bc 1 m [.int (uI u 0)] u else m
def Bv (l:List (List U)):List (List U):=l.foldl Gp []
def C3 (r:List U):List (List U):=if uB r 4=true then [] else [r.drop 1]
def Df (l:List (List U)):List (List U):=C5 ltB ((Bv l).flatMap C3)
structure KF (p:List U->Prop) (m:List (List U)):Prop where
 row:∀r∈m,∃u,r=U.int (uI u 0)::u/\p u
 once:m.Pairwise fun a b=>uI a 0≠uI b 0
theorem ii {p:List U->Prop}{m:List (List U)}(h:KF p m){n:Int}(hi:Mz m n):uI (m[Az 1 m [.int n]]'hi) 0=n:=by
 have hi':Az 1 m [.int n] < m.length:=hi;have h1:Bb ((m[Az 1 m [.int n]]'hi').take 1) [.int n]=true:=List.findIdx_getElem (w:=hi');obtain⟨u,hu,_⟩:=h.row _ (List.getElem_mem hi');show uI (m[Az 1 m [.int n]]'hi') 0=n;generalize m[Az 1 m [.int n]]'hi'=r at h1 hu;rw[hu] at h1⊢;simp only[List.take_succ_cons,List.take_zero,Bb,U.eqv,Bool.and_true,decide_eq_true_eq] at h1;exact h1
theorem fM {p:List U->Prop}{m:List (List U)}(h:KF p m){n:Int}(hi:¬Mz m n):∀r∈m,uI r 0≠n:=fun r hr e=>by
 have h1:Az 1 m [.int n]=m.length:=by
  have:=List.findIdx_le_length (xs:=m) (p:=fun r=>Bb (r.take 1) [.int n]);unfold Mz Az at hi;unfold Az;omega
 unfold Az at h1;rw[List.findIdx_eq_length] at h1;have h2:=h1 r hr;obtain⟨u,hu,_⟩:=h.row r hr;rw[hu] at h2 e;have e':uI u 0=n:=e;simp[Bb,U.eqv,e'] at h2
theorem dy {p:List U->Prop}{m:List (List U)}(h:KF p m){u:List U}(hu:p u):KF p (Gp m u):=by
 unfold Gp;split
 .unfold Bc;by_cases hi:Mz m (uI u 0)
  .rw[show decide (Az 1 m [.int (uI u 0)] < m.length)=true from decide_eq_true hi];refine⟨fun r hr=>?_,?_⟩
   .rcases List.mem_or_eq_of_mem_set hr with h1|h1
    .exact h.row r h1
    .exact⟨u,h1,hu⟩
   .rw[List.pairwise_iff_getElem];intro i j hi' hj' hij;simp only[cond_true,List.length_set] at hi' hj';have h3:=List.pairwise_iff_getElem.1 h.once i j hi' hj' hij;have h4:=ii h hi;simp only[cond_true,List.getElem_set];split
    .rename_i e;subst e;split
     .omega
     .exact fun e=>h3 (h4.trans e)
    .split
     .rename_i e;subst e;exact fun e=>h3 (e.trans h4.symm)
     .exact h3
  .rw[show decide (Az 1 m [.int (uI u 0)] < m.length)=false from decide_eq_false hi];refine⟨fun r hr=>?_,?_⟩
   .rcases wc.1 hr with h1|h1
    .exact h.row r h1
    .simp at h1;exact⟨u,h1,hu⟩
   .simp only[cond_false];rw[List.pairwise_append];refine⟨h.once,List.pairwise_singleton _ _,fun a ha b hb=>?_⟩;simp at hb;subst hb;show _≠uI u 0;exact fM h hi a ha
 .exact h
theorem fY (m:List (List U))(u:List U):(Gp m u).length<=m.length+1:=by
 unfold Gp Bc;split
 .cases decide (Az 1 m [.int (uI u 0)] < m.length)<;>simp
 .omega
theorem Y2 {l:List (List U)}{u:List U}:Bv (l++[u])=Gp (Bv l) u:=by unfold Bv;rw[List.foldl_append];rfl
theorem Rb {p:List U->Prop}:∀{l:List (List U)} {m:List (List U)},KF p m->(∀u∈l,p u)->KF p (l.foldl Gp m)
 |[],m,h,_=>h
 |u::l,m,h,hl=>by
  rw[List.foldl_cons];exact Rb (dy h (hl u (wA ..))) fun v hv=>hl v (vz _ hv)
theorem Rc {l:List (List U)}:KF (· ∈l) (Bv l):=Rb ⟨fun r h=>(by cases h),List.Pairwise.nil⟩ fun u h=>h
theorem UH:∀{l:List (List U)} {m:List (List U)},(l.foldl Gp m).length<=m.length+l.length
 |[],m=>vr _
 |u::l,m=>by
  rw[List.foldl_cons];have:=UH (l:=l) (m:=Gp m u);have:=fY m u;simp only[wQ];omega
theorem U0 {l:List (List U)}:(Bv l).length<=l.length:=by have:=UH (l:=l) (m:=[]);unfold Bv;simpa using this
theorem cp {r:List U}:(C3 r).length<=1:=by unfold C3;split<;>simp
theorem O8:∀{m:List (List U)},(m.flatMap C3).length<=m.length
 |[]=>vr _
 |r::m=>by
  rw[List.flatMap_cons,wC,wQ];have:=O8 (m:=m);have:=cp (r:=r);omega
theorem eO {p:List U->Prop}{m:List (List U)}(h:KF p m){a b:List U}(ha:a∈m.flatMap C3)(hb:b∈m.flatMap C3)(e:uI a 0=uI b 0):a=b:=by
 have mem:∀{a},a∈m.flatMap C3->∃r∈m,a=r.drop 1/\uI r 0=uI a 0:=fun {a} ha=>by
  obtain⟨r,hr,h1⟩:=List.mem_flatMap.1 ha;unfold C3 at h1;split at h1
  .cases h1
  .simp at h1;obtain⟨u,hu,_⟩:=h.row r hr;refine⟨r,hr,by simpa using h1,?_⟩;rw[hu] at h1⊢;simp at h1;rw[h1];rfl
 obtain⟨r,hr,e1,e2⟩:=mem ha;obtain⟨s,hs,e3,e4⟩:=mem hb;have:r=s:=by
  obtain⟨i,hi,rfl⟩:=List.mem_iff_getElem.1 hr;obtain⟨j,hj,rfl⟩:=List.mem_iff_getElem.1 hs;rcases Nat.lt_trichotomy i j with h1|h1|h1
  .exact absurd (e2.trans (e.trans e4.symm)) (List.pairwise_iff_getElem.1 h.once i j hi hj h1)
  .subst h1;rfl
  .exact absurd (e4.trans (e.symm.trans e2.symm)) (List.pairwise_iff_getElem.1 h.once j i hj hi h1)
 rw[e1,e3,this]
theorem am {l:List (List U)}{ys:List (List U)}(h:ys.Perm ((Bv l).flatMap C3)):C5 ltB ys=Df l:=by
 refine Y6 wkB h fun a b ha hb h1 h2=>?_;rw[RJ] at h1 h2;exact eO Rc (h.mem_iff.1 ha) (h.mem_iff.1 hb) (by omega)
def KP:List Kd:=[.str,.int .i64 IntKind.i64.min IntKind.i64.max,.int .i64 IntKind.i64.min IntKind.i64.max]
def Vo (m:List (List U))(u:List U):List (List U):=Bc 1 m [.str (uS u 0)] [.bool true]
def Dv (l:List (List U)):List (List U):=l.foldl Vo []
def GN (u:List U):Bool:=DC (uS u 0) (uI u 1) (uI u 2)
def Bj (l:List (List U)):Int:=if 24 < l.length then 6 else if¬l.all GN=true then 2 else if (Dv l).length < l.length then 12 else 0
def Ks (n v a:Int)(w l:ByteArray)(p q:Int):Int:=
 if (Ay n 0 1099511627776&&Ay a 0 1099511627776&&Ay v 0 1048576&&EC w&&EC l&& !decide (w=l)&&decide (0<=q)&&decide (q<=p)&&decide (p<=26))=true then 0 else 2
def Gx (u:List U):Bool:=decide (Ks (uI u 0) (uI u 1) (uI u 2) (uS u 4) (uS u 5) (uI u 7) (uI u 8)=0)
def JL (u:List U):List U:=[.int (uI u 0),.int (uI u 1)]
def fI (u v:List U):Bool:=decide (uI u 0=uI v 0)&&decide (uI u 1=uI v 1)&&decide (uI u 2=uI v 2)&&decide (uB u 3=uB v 3)&&decide (uS u 4=uS v 4)&&decide (uS u 5=uS v 5)&&decide (uB u 6=uB v 6)&&decide (uI u 7=uI v 7)&&decide (uI u 8=uI v 8)
def N4 (m:List (List U))(u:List U):Bool:=decide (Az 2 m (JL u) < m.length)&& !fI ((m.getD (Az 2 m (JL u)) []).drop 2) u
def Cu (m:List (List U)):List (List U)->Bool
 |[]=>true
 |u::l=>if N4 m u=true then false else Cu (Bc 2 m (JL u) u) l
def NW (l:List (List U)):Bool:=Cu [] l
theorem Il {nk:Nat}{m:List (List U)}{k v:List U}:(Bc nk m k v).length<=m.length+1:=by
 unfold Bc;cases decide (Az nk m k < m.length)<;>simp
theorem WZ {l:List (List U)}{u:List U}:Dv (l++[u])=Vo (Dv l) u:=by unfold Dv;rw[List.foldl_append];rfl
theorem Rq:∀{l m:List (List U)},(l.foldl Vo m).length<=m.length+l.length
 |[],m=>vr _
 |u::l,m=>by
  rw[List.foldl_cons];have:=Rq (l:=l) (m:=Vo m u);have h:(Vo m u).length<=m.length+1:=Il;simp only[wQ];omega
theorem Xq {l:List (List U)}:(Dv l).length<=l.length:=by have:=Rq (l:=l) (m:=[]);unfold Dv;simpa using this
theorem Ut {p:List U->Bool}{l:List (List U)}{u:List U}:(l++[u]).all p=true↔(l.all p=true/\p u=true):=by simp
theorem Of {m l:List (List U)}{i:Nat}(h:i < l.length):Cu m (l.drop i)=if N4 m (l.getD i [])=true then false else Cu (Bc 2 m (JL (l.getD i [])) (l.getD i [])) (l.drop (i+1)):=by
 have:l.drop i=l.getD i []::l.drop (i+1):=by
  rw[List.drop_eq_getElem_cons h,wL,vt h];rfl
 rw[this];rfl
theorem TO {m l:List (List U)}{i:Nat}{k:List U}{c:Bool}{a0 a1 a2 a7 a8 z0 z1 z2 z7 z8:Int}{a3 a6 z3 z6:Bool}{a4 a5 z4 z5:ByteArray}{q0 q1 q2 q3 q4 q5 q6 q7 q8:U}
  (h:c=true↔(Az 2 m k < m.length/\¬(z0=a0/\z1=a1/\z2=a2/\(z3=true↔a3=true)/\z4=a4/\z5=a5/\(z6=true↔a6=true)/\z7=a7/\z8=a8))) (hk:k=JL (l.getD i []))
  (e0:z0=(Ct 2 0 m q0 k).toI) (e1:z1=(Ct 2 1 m q1 k).toI) (e2:z2=(Ct 2 2 m q2 k).toI) (e3:z3=(Ct 2 3 m q3 k).toB) (e4:z4=(Ct 2 4 m q4 k).toS) (e5:z5=(Ct 2 5 m q5 k).toS) (e6:z6=(Ct 2 6 m q6 k).toB) (e7:z7=(Ct 2 7 m q7 k).toI) (e8:z8=(Ct 2 8 m q8 k).toI)
  (f0:a0=Bx l i 0) (f1:a1=Bx l i 1) (f2:a2=Bx l i 2) (f3:a3=Pq l i 3) (f4:a4=Cc l i 4) (f5:a5=Cc l i 5) (f6:a6=Pq l i 6) (f7:a7=Bx l i 7) (f8:a8=Bx l i 8):c=true↔N4 m (l.getD i [])=true:=by
 rw[h];subst hk;unfold N4;rw[vo,decide_eq_true_eq];refine and_congr_right fun hin=>?_;have g:∀(n:Nat) (q:U),Ct 2 n m q (JL (l.getD i []))=((m.getD (Az 2 m (JL (l.getD i []))) []).drop 2).getD n default:=fun n q=>by
  unfold Ct;rw[decide_eq_true hin];simp[wL,List.getElem?_drop]
 rw[g] at e0 e1 e2 e3 e4 e5 e6 e7 e8;have b:∀x y:Bool,(x=true↔y=true)↔x=y:=fun x y=>by cases x<;>cases y<;>simp
 rw[b,b,e0,e1,e2,e3,e4,e5,e6,e7,e8,f0,f1,f2,f3,f4,f5,f6,f7,f8];unfold fI;simp only[Bool.not_eq_true',<-Bool.not_eq_true,vo,decide_eq_true_eq,and_assoc];exact Iff.rfl
def B8 (l:List (List U)):Int:=if 200 < l.length then 6 else if¬l.all Gx=true then 2 else if NW l=true then 0 else 12
def Kb (a b:ByteArray):Int:=Lib.compareBytes a.data.toList b.data.toList
theorem XV:∀(a b:List UInt8),-1<=Lib.compareBytes a b/\Lib.compareBytes a b<=1
 |[],[]=>by decide
 |[],_::_=>by simp[Lib.compareBytes]
 |_::_,[]=>by simp[Lib.compareBytes]
 |a::al,b::bl=>by
  simp only[Lib.compareBytes];split
  .exact⟨Int.le_refl _,by decide⟩
  .split
   .exact⟨by decide,Int.le_refl _⟩
   .exact XV al bl
theorem f9 (a b:ByteArray): -1<=Kb a b/\Kb a b<=1:=XV _ _
theorem SS:∀(a b:List UInt8),Lib.compareBytes a b=0↔a=b
 |[],[]=>by simp[Lib.compareBytes]
 |[],_::_=>by simp[Lib.compareBytes]
 |_::_,[]=>by simp[Lib.compareBytes]
 |a::al,b::bl=>by
  simp only[Lib.compareBytes,List.cons.injEq];have key:∀x y:UInt8,¬x < y->¬y < x->x=y:=fun x y h1 h2=>UInt8.le_antisymm (UInt8.not_lt.1 h2) (UInt8.not_lt.1 h1);split
  .rename_i h;exact⟨fun e=>by simp at e,fun e=>absurd h (by rw[e.1];exact UInt8.lt_irrefl _)⟩
  .rename_i h;split
   .rename_i h2;exact⟨fun e=>by simp at e,fun e=>absurd h2 (by rw[e.1];exact UInt8.lt_irrefl _)⟩
   .rename_i h2;rw[SS al bl];exact⟨fun e=>⟨key a b h h2,e⟩,fun e=>e.2⟩
theorem NV (a b:ByteArray):Kb a b=0↔a=b:=by
 unfold Kb;rw[SS];constructor
 .intro h;obtain⟨⟨x⟩⟩:=a;obtain⟨⟨y⟩⟩:=b;simp at h;rw[h]
 .intro h;rw[h]
def plN (w1 a1 n1 x1:Int)(s1:ByteArray)(w2 a2 n2 x2:Int)(s2:ByteArray):Int:=
 if¬w1=w2 then Ba w2 w1 else if¬a1=a2 then Ba a2 a1 else if¬n1=n2 then Ba n2 n1 else if¬x1=x2 then Ba x2 x1 else Kb s1 s2
def plR (w1 a1 n1 x1:Int)(s1:ByteArray)(w2 a2 n2 x2:Int)(s2:ByteArray):Int:=
 if¬w1=w2 then 1 else if¬a1=a2 then 2 else if¬n1=n2 then 3 else if¬x1=x2 then 4 else if s1=s2 then 0 else 5
theorem Bi {a b:Int}:Ba a b=0↔a=b:=by
 unfold Ba;split
 .omega
 .split<;>omega
def KS:List Kd:=[.str,.int .i64 IntKind.i64.min IntKind.i64.max,.int .i64 IntKind.i64.min IntKind.i64.max,.int .i64 IntKind.i64.min IntKind.i64.max,.int .i64 IntKind.i64.min IntKind.i64.max,.int .i64 IntKind.i64.min IntKind.i64.max]
theorem Z8 {u:List U}(h:AT AF KS u):[U.str (uS u 0),.int (uI u 1),.int (uI u 2),.int (uI u 3),.int (uI u 4),.int (uI u 5)]=u:=by
 obtain⟨_,_,rfl,⟨_,rfl,_⟩,_,_,rfl,⟨_,rfl,_⟩,_,_,rfl,⟨_,rfl,_⟩,_,_,rfl,⟨_,rfl,_⟩,_,_,rfl,⟨_,rfl,_⟩,_,_,rfl,⟨_,rfl,_⟩,h⟩:=h;rw[show _=[] from h];rfl
theorem lenT {u:List U}(h:AT AF KS u):u.length=6:=by rw[<-Z8 h];rfl
theorem fJ {l:List (List U)}{i:Nat}{v:List U}(hs:∀u∈l,AT AF KS u)(hi:i < l.length)(hv:AT AF KS v):
  Dc l i 0 [U.str (uS v 0),.int (uI v 1),.int (uI v 2),.int (uI v 3),.int (uI v 4),.int (uI v 5)]=l.set i v:=by
 rw[Z8 hv];exact Mg (by rw[lenT (hs _ (Dj hi)),lenT hv])
def cmpT (u v:List U):Int:=plN (uI u 1) (uI u 3) (uI u 4) (uI u 5) (uS u 0) (uI v 1) (uI v 3) (uI v 4) (uI v 5) (uS v 0)
def ltT (u v:List U):Bool:=decide (cmpT u v < 0)
def AZ {α:Type}(f:Nat->α->α):Nat->α->α
 |0,x=>x
 |n+1,x=>f n (AZ f n x)
theorem Hu {α:Type}{f:Nat->α->α}{x:α}(p:Nat->α->Prop)(h0:p 0 x)(hs:∀n y,p n y->p (n+1) (f n y)):∀n,p n (AZ f n x)
 |0=>h0
 |n+1=>hs n _ (Hu p h0 hs n)
def DP (P:List (List U))(i:Nat)(m:List (List U)):List (List U):=Bc 1 m [.str (Cc P i 0)] [.int i]
def Gf (P:List (List U)):List (List U):=AZ (DP P) P.length []
def Qy (m:List (List U))(s:ByteArray):Prop:=Az 1 m [.str s] < m.length
instance (m:List (List U))(s:ByteArray):Decidable (Qy m s):=by unfold Qy;infer_instance
def Cj (m:List (List U))(s:ByteArray):Int:=(Ct 1 0 m (.int 0) [.str s]).toI
def rowB (B:List (List U))(k:Nat):List U:=[.int (Bx B k 0),.int (Bx B k 1),.int (Bx B k 2),.bool (Pq B k 3),.str (Cc B k 4),.str (Cc B k 5),.bool (Pq B k 6),.int (Bx B k 7),.int (Bx B k 8)]
def Dq (M B:List (List U))(k:Nat)(g:List (List U)):List (List U):=if Qy M (Cc B k 4)/\Qy M (Cc B k 5) then g++[rowB B k] else g
def av (M B:List (List U)):List (List U):=AZ (Dq M B) B.length []
def IK (P:List (List U))(k:Nat)(s:List (List U)):List (List U):=Dc s k 0 [.str (Cc P k 0)]
def st0 (P:List (List U)):List (List U):=AZ (IK P) P.length (List.replicate P.length [.str ByteArray.empty,.int 0,.int 0,.int 0,.int 0,.int 0])
abbrev w64 (n:Int):Int:=IntKind.i64.wrap n
def O0 (s:List (List U))(j:Int)(c:Nat)(v:Int):List (List U):=Dc s j.toNat c [.int (w64 (Bx s j.toNat c+v))]
def subC (s:List (List U))(j:Int)(c:Nat)(v:Int):List (List U):=Dc s j.toNat c [.int (w64 (Bx s j.toNat c - v))]
def J4 (a b:Int)(G:List (List U))(k:Nat):Prop:=a<=Bx G k 2/\Bx G k 2 < b
instance (a b:Int)(G:List (List U))(k:Nat):Decidable (J4 a b G k):=by unfold J4;infer_instance
def IL (M G:List (List U))(a b:Int)(k:Nat)(s:List (List U)):List (List U):=
 if J4 a b G k then O0 (O0 s (Cj M (Cc G k 4)) 1 1) (Cj M (Cc G k 5)) 2 1 else s
def inF (G:List (List U))(a b:Int)(k:Nat)(g:List (List U)):List (List U):=if J4 a b G k then g++[rowB G k] else g
def YO (G:List (List U))(a b:Int):List (List U):=AZ (inF G a b) G.length []
def eK (s:List (List U))(w x n:Int):List (List U):=subC (O0 s w 4 n) x 4 n
def cr (s:List (List U))(w x:Int):List (List U):=O0 s w 5 (Bx s x.toNat 1)
def dG (s:List (List U))(w x:Int):List (List U):=if Bx s w.toNat 1=Bx s x.toNat 1 then O0 s w 3 1 else s
def JD (M G:List (List U))(k:Nat)(s:List (List U)):List (List U):=
 dG (cr (eK s (Cj M (Cc G k 4)) (Cj M (Cc G k 5)) (w64 (Bx G k 7 - Bx G k 8))) (Cj M (Cc G k 4)) (Cj M (Cc G k 5))) (Cj M (Cc G k 4)) (Cj M (Cc G k 5))
def Kt (P G:List (List U))(a b:Int):List (List U):=
 AZ (JD (Gf P) (YO G a b)) (YO G a b).length (AZ (IL (Gf P) G a b) G.length (st0 P))
def Gh (a b:Int):Int:=if a < 0\/b < a\/1099511627776 < b then 3 else 0
def KT (P L:List (List U)):List (List U):=av (Gf P) (Df L)
def RH (P L:List (List U))(a b:Int):List (List U):=if Gh a b=0 then C5 ltT (Kt P (KT P L) a b) else []
theorem gC {P:List (List U)}(n:Nat):∀r∈AZ (DP P) n [],∃s,∃j:Nat,r=[.str s,.int j]/\j < n:=by
 refine Hu (p:=fun n m=>∀r∈m,∃s,∃j:Nat,r=[U.str s,.int j]/\j < n) (fun r h=>by cases h) (fun n m ih r hr=>?_) n;have h1:r∈m\/r=[U.str (Cc P n 0),.int n]:=by
  unfold DP Bc at hr;cases hd:decide (Az 1 m [.str (Cc P n 0)] < m.length) with
  |true=>
   rw[hd] at hr;rcases List.mem_or_eq_of_mem_set hr with h|h
   .exact .inl h
   .exact .inr h
  |false=>
   rw[hd] at hr;simpa using hr
 rcases h1 with h1|h1
 .obtain⟨s,j,h,hj⟩:=ih r h1;exact⟨s,j,h,by omega⟩
 .exact⟨_,n,h1,by omega⟩
theorem gW {P:List (List U)}{n:Nat}(s:ByteArray):0<=Cj (AZ (DP P) n []) s/\(0 < n->Cj (AZ (DP P) n []) s < n):=by
 unfold Cj Ct;cases hd:decide (Az 1 (AZ (DP P) n []) [.str s] < (AZ (DP P) n []).length) with
 |false=>exact⟨Int.le_refl 0,fun h=>by show (0:Int) < _;omega⟩
 |true=>
  have hi:=of_decide_eq_true hd;obtain⟨t,j,h,hj⟩:=gC n _ (List.getElem_mem hi);have e:(AZ (DP P) n []).getD (Az 1 (AZ (DP P) n []) [.str s]) []=[.str t,.int j]:=by
   rw[wL,vt hi];exact h
  rw[e];show 0<=(j:Int)/\(0 < n->(j:Int) < n);omega
theorem Ww {P:List (List U)}(s:ByteArray):0<=Cj (Gf P) s/\(0 < P.length->Cj (Gf P) s < P.length):=gW s
theorem bE {P B:List (List U)}(n:Nat):P.length=0->AZ (Dq (Gf P) B) n []=[]:=fun h=>by
 refine Hu (p:=fun _ g=>g=[]) rfl (fun n g ih=>?_) n;have:Gf P=[]:=by unfold Gf;rw[h];rfl
 unfold Dq Qy;rw[this,ih];simp
theorem dD {P L:List (List U)}(h:0 < (KT P L).length):0 < P.length:=by
 rcases Nat.eq_zero_or_pos P.length with h0|h0
 .unfold KT av at h;rw[bE _ h0] at h;simp at h
 .exact h0
theorem PT {α:Type}{f:Nat->List α->List α}(hf:∀k g,(f k g).length<=g.length+1)(n:Nat):(AZ f n []).length<=n:=
 Hu (p:=fun n (g:List α)=>g.length<=n) (by simp) (fun n g ih=>by have:=hf n g;omega) n
theorem Sc {M B:List (List U)}(n:Nat):(AZ (Dq M B) n []).length<=n:=PT (fun k g=>by unfold Dq;split<;>simp) n
theorem Zv {G:List (List U)}{a b:Int}(n:Nat):(AZ (inF G a b) n []).length<=n:=PT (fun k g=>by unfold inF;split<;>simp) n
theorem Lz {l:List (List U)}{i c:Nat}{v:List U}:(Dc l i c v).length=l.length:=by unfold Dc;simp
theorem M4 {α:Type}{f:Nat->List α->List α}{x:List α}(hf:∀k g,(f k g).length=g.length)(n:Nat):(AZ f n x).length=x.length:=
 Hu (p:=fun n (g:List α)=>g.length=x.length) rfl (fun n g ih=>by rw[hf,ih]) n
theorem fx {P:List (List U)}:(st0 P).length=P.length:=by unfold st0;exact (M4 (f:=IK P) (fun k g=>Lz) _).trans (by simp)
theorem gD {M G s:List (List U)}{a b:Int}(n:Nat):(AZ (IL M G a b) n s).length=s.length:=M4 (fun k g=>by unfold IL O0;split<;>simp[Lz]) n
theorem fP {M G s:List (List U)}(n:Nat):(AZ (JD M G) n s).length=s.length:=M4 (fun k g=>by unfold JD dG cr eK O0 subC;split<;>simp[Lz]) n
theorem bp {P G:List (List U)}{a b:Int}:(Kt P G a b).length=P.length:=by unfold Kt;rw[fP,gD,fx]
theorem gI {P:List (List U)}(n:Nat):(AZ (DP P) n []).length<=n:=PT (fun k g=>Il) n
theorem SV {L:List (List U)}:(Df L).length<=L.length:=by
 unfold Df;rw[bS];have h1:∀m:List (List U),(m.flatMap C3).length<=m.length:=by
  intro m;induction m with
  |nil=>simp
  |cons r m ih=>
   rw[List.flatMap_cons,wC,wQ];have:(C3 r).length<=1:=by unfold C3;split<;>simp
   omega
 have h2:∀(l m:List (List U)),(l.foldl Gp m).length<=m.length+l.length:=by
  intro l;induction l with
  |nil=>intro m;simp
  |cons u l ih=>
   intro m;rw[List.foldl_cons,wQ];have h3:(Gp m u).length<=m.length+1:=by
    unfold Gp;split
    .exact Il
    .omega
   have:=ih (Gp m u);omega
 have:=h1 (Bv L);have h3:=h2 L [];unfold Bv at*;simp at h3;omega
theorem Oi {a b:Int}:Gh a b=0↔¬(a < 0\/b < a\/1099511627776 < b):=by
 unfold Gh;split
 .rename_i h;exact⟨fun e=>by omega,fun e=>absurd h e⟩
 .rename_i h;exact⟨fun _=>h,fun _=>rfl⟩
def Te:ByteArray:=⟨#[97,110,110]⟩
def Qz:ByteArray:=⟨#[98,111,98]⟩
def eR:ByteArray:=⟨#[99,97,116]⟩
def dI:List (List U):=[[.str Te,.int 2000,.int 0],[.str Qz,.int 1500,.int 10],[.str eR,.int 1000,.int 20]]
def dK:List (List U):=[[.int 1,.int 0,.int 5,.bool false,.str Te,.str Qz,.bool true,.int 26,.int 20],[.int 2,.int 0,.int 6,.bool false,.str Qz,.str eR,.bool true,.int 26,.int 3],[.int 3,.int 0,.int 7,.bool false,.str eR,.str Te,.bool true,.int 26,.int 25]]
def Id:List (List U):=RH dI dK 0 100
theorem Y3:Bj dI=0:=by kernel_rfl
theorem Z0:B8 dK=0:=by kernel_rfl
theorem iC:Gh 0 100=0:=by kernel_rfl
theorem bQ:Id.length=3:=by kernel_rfl
theorem XD:Am Qz 1500 10 Te 2000 0=0:=by kernel_rfl
theorem ex_i:Ax 1500 (Ar 1500 2000 true)=1514:=by kernel_rfl
theorem ex_g:CT (Ax 1500 (Ar 1500 2000 true)) 10=10:=by kernel_rfl
theorem ex_j:Ax 2000 (-(Ar 1500 2000 true))=1986:=by kernel_rfl
theorem ex_h:CT (Ax 2000 (-(Ar 1500 2000 true))) 0=0:=by kernel_rfl
theorem ib:Cc Id 0 0=Qz/\Bx Id 0 1=1/\Bx Id 0 2=1/\Bx Id 0 3=1/\Bx Id 0 4=17/\Bx Id 0 5=1:=⟨by kernel_rfl,by kernel_rfl,by kernel_rfl,by kernel_rfl,by kernel_rfl,by kernel_rfl⟩
theorem Zu (g:Int):BU (g+1) < BU g:=by unfold BU;split<;>split<;>omega
theorem TZ {x:Int}:∀(n:Nat) (g:Int),g+12=n->BX x g<= -12\/x < BU (BX x g - 1)
 |0,g,h=>by rw[J2 (by omega)];omega
 |n+1,g,h=>by
  by_cases h2:BU (g - 1)<=x
  .rw[Rz (by omega) h2];exact TZ n (g - 1) (by omega)
  .rw[J2 (by omega)];exact .inr (by omega)
theorem Zc {x:Int}:∀(n:Nat) (g:Int),48 - g=n->(g<= -12\/x < BU (g - 1))->(upG x g<= -12\/x < BU (upG x g - 1))/\(48<=upG x g\/BU (upG x g+1) < x)
 |0,g,h,h1=>by rw[Kr (by omega)];exact⟨h1,by omega⟩
 |n+1,g,h,h1=>by
  by_cases h2:x<=BU (g+1)
  .rw[Q5 (by omega) h2];refine Zc n (g+1) (by omega) (.inr ?_);have:=Zu g;rw[show g+1 - 1=g by omega];omega
  .rw[Kr (by omega)];exact⟨h1,.inr (by omega)⟩
theorem fE {x g:Int}(hg:48<=g\/BU (g+1) < x):∀(n:Nat) (d:Int),48 - d=n->d<=g->upG x d<=g
 |0,d,h,h1=>by rw[Kr (by omega)];exact h1
 |n+1,d,h,h1=>by
  by_cases h2:x<=BU (d+1)
  .rw[Q5 (by omega) h2];refine fE hg n (d+1) (by omega) ?_;rcases Int.lt_or_eq_of_le h1 with h3|h3
   .omega
   .subst h3;omega
  .rw[Kr (by omega)];exact h1
theorem Na {x g:Int}(h: -12<=g)(h2:g<=48):Dt x (CT x g)=true:=by
 rw[Ho];have a:=RN (x:=x) (g+12).toNat g (by omega);have b:=cI (x:=x) h h2;have c:=Zc (x:=x) (48 - BX x g).toNat (BX x g) (by unfold BX;omega) (TZ (g+12).toNat g (by omega));exact⟨⟨b,c.1⟩,c.2⟩
theorem cw {x y g:Int}(hg:Dt x g=true)(hx:x<=y):CT y g<=g:=by
 rw[Ho] at hg;have a:=RN (x:=y) (g+12).toNat g (by omega);exact fE (by rcases hg.2 with h|h;exact .inl h;exact .inr (by omega)) (48 - BX y g).toNat _ (by unfold BX;omega) a.2
theorem dA {x y g:Int}(hg:Dt x g=true)(hx:y<=x):g<=CT y g:=by
 rw[Ho] at hg;have a:BX y g=g:=J2 (fun h=>by rcases hg.1.2 with h1|h1<;>omega);have b:=fH (x:=y) (48 - g).toNat g (by omega);unfold CT;rw[a];exact b.1
end
section
open Go Go.Proofs
def Mh (c:Code)(k:Nat):Oper:=match c with
 | .seq (.region _ ops _) _=>ops[k]!
 | .region _ ops _=>ops[k]!
 |_=>default
def TJ:Code->Nat
 | .seq (.region i _ _) _=>i
 | .region i _ _=>i
 |_=>0
def RO (fn:Func)(st e:TypeId):ClC:=
 match fn.body.getD .skip with
 | .seq c0 (.seq (.seq c1 (.cond _ c2 _)) c3)=>{ o0:=Mh c0 0,o1:=Mh c1 0,o2:=Mh c1 1,p:=Mh c2 0,o5:=Mh c3 0,o6:=Mh c3 1,o7:=Mh c3 2,o8:=Mh c3 3,st,e,r0:=TJ c0,r1:=TJ c1,r2:=TJ c2,r3:=TJ c3 }
 |_=>⟨default,default,default,default,default,default,default,default,st,e,0,0,0,0⟩
def Kn:List (FuncId × TypeId):=[(119,35),(106,56),(104,34)]
theorem eB:(RO Try.f119 35 38).Ok Try.prog 119 Try.f119:=⟨Try.func119,by kernel_rfl,by kernel_rfl,by kernel_rfl,by kernel_rfl,⟨⟨.const (.slice none 0 0),by kernel_rfl⟩,by kernel_rfl,by kernel_rfl⟩,⟨by kernel_rfl,by kernel_rfl,by kernel_rfl⟩,⟨⟨35,by kernel_rfl⟩,by kernel_rfl,by kernel_rfl⟩,⟨by kernel_rfl,by kernel_rfl,by kernel_rfl⟩,⟨by kernel_rfl,by kernel_rfl,by kernel_rfl⟩,⟨by kernel_rfl,by kernel_rfl,by kernel_rfl⟩,⟨by kernel_rfl,by kernel_rfl,by kernel_rfl⟩,⟨by kernel_rfl,by kernel_rfl,by kernel_rfl⟩,by kernel_rfl⟩
theorem eM:(RO Try.f106 56 61).Ok Try.prog 106 Try.f106:=⟨Try.func106,by kernel_rfl,by kernel_rfl,by kernel_rfl,by kernel_rfl,⟨⟨.const (.slice none 0 0),by kernel_rfl⟩,by kernel_rfl,by kernel_rfl⟩,⟨by kernel_rfl,by kernel_rfl,by kernel_rfl⟩,⟨⟨56,by kernel_rfl⟩,by kernel_rfl,by kernel_rfl⟩,⟨by kernel_rfl,by kernel_rfl,by kernel_rfl⟩,⟨by kernel_rfl,by kernel_rfl,by kernel_rfl⟩,⟨by kernel_rfl,by kernel_rfl,by kernel_rfl⟩,⟨by kernel_rfl,by kernel_rfl,by kernel_rfl⟩,⟨by kernel_rfl,by kernel_rfl,by kernel_rfl⟩,by kernel_rfl⟩
theorem dN:(RO Try.f104 34 23).Ok Try.prog 104 Try.f104:=⟨Try.func104,by kernel_rfl,by kernel_rfl,by kernel_rfl,by kernel_rfl,⟨⟨.const (.slice none 0 0),by kernel_rfl⟩,by kernel_rfl,by kernel_rfl⟩,⟨by kernel_rfl,by kernel_rfl,by kernel_rfl⟩,⟨⟨34,by kernel_rfl⟩,by kernel_rfl,by kernel_rfl⟩,⟨by kernel_rfl,by kernel_rfl,by kernel_rfl⟩,⟨by kernel_rfl,by kernel_rfl,by kernel_rfl⟩,⟨by kernel_rfl,by kernel_rfl,by kernel_rfl⟩,⟨by kernel_rfl,by kernel_rfl,by kernel_rfl⟩,⟨by kernel_rfl,by kernel_rfl,by kernel_rfl⟩,by kernel_rfl⟩
theorem Ju:JV Try.prog Kn:=by
 unfold JV Kn;simp only[wJ];exact⟨⟨_,_,eB,rfl⟩,⟨_,_,eM,rfl⟩,⟨_,_,dN,rfl⟩,fun _ h=>absurd h (by simp)⟩
instance:Inhabited RgP:=⟨⟨0,0,0,0,0,0,0,0,0,default,default,default,default,[],.skip⟩⟩
instance:Inhabited RgC:=⟨⟨[],0,default,default,0,0,0,0,0,0,[],0,default,.skip⟩⟩
def rgOf (k:Nat)(c:Code)(out:Tmp)(mt kt et:TypeId)(ks:List Kd)(e:TypeId):RgC:=
 match Ol k c with
 |(pre,.seq (.seq (.region i1 a _) (.block bid (.loop (.seq (.region i2 b _) (.seq (.cond _ _ _) (.block bi (.seq (.region i3 d _) rest))))))) post)=>
  {pre,i1,q1:=a[0]!,q2:=a[1]!,tm:=(match (a[0]!).op with| .move (.tmp t)=>t|_=>0),dm:=((a[0]!).dst).getD 0,out,mt,kt,et,ks,e,
   p:={ di:=((a[1]!).dst).getD 0,dn:=((b[0]!).dst).getD 0,db:=((b[1]!).dst).getD 0,de:=((d[0]!).dst).getD 0,dv:=((d[1]!).dst).getD 0,bid,bi,i2,i3,o1:=b[0]!,o2:=b[1]!,o3:=d[0]!,o4:=d[1]!,l3:=d.toList.drop 2,rest },post }
 |_=>default
def rgB:RgC:=rgOf 4 (Try.f65.body.getD .skip) 8 143 2 38 [.int .i64 IntKind.i64.min IntKind.i64.max,.int .i64 IntKind.i64.min IntKind.i64.max,.int .i64 IntKind.i64.min IntKind.i64.max,.bool,.str,.str,.bool,.int .i64 IntKind.i64.min IntKind.i64.max,.int .i64 IntKind.i64.min IntKind.i64.max] 38
theorem fB:Try.f65.body=some rgB.code:=by kernel_rfl
theorem iB:rgB.Ok Try.prog:=⟨⟨⟨by kernel_rfl,by kernel_rfl,by kernel_rfl⟩,⟨by kernel_rfl,by kernel_rfl,by kernel_rfl⟩,⟨by kernel_rfl,by kernel_rfl,by kernel_rfl⟩,⟨by kernel_rfl,by kernel_rfl,by kernel_rfl⟩⟩,⟨by kernel_rfl,by kernel_rfl,by kernel_rfl⟩,⟨by kernel_rfl,by kernel_rfl,by kernel_rfl⟩,by kernel_rfl⟩
end
end Go.Eng
end
