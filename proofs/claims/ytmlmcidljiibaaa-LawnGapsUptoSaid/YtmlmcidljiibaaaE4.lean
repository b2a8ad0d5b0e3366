/-
  A part of the proof: the evaluator of code and its soundness.
-/
import Derived.Test.YtmlmcidljiibaaaE3
import Derived.KernelRfl
import Derived.Test.YtmlmcidljiibaaaProg
import Derived.Test.YtmlmcidljiibaaaRows
import Derived.WalkKit
import Derived.ProofKit
import Derived.JoinedCond
import Derived.OpenShut
import Derived.Shelf.GgClosure.StringsIndexFuncTop
import Derived.Laws.RangeAny
set_option linter.unusedVariables false
set_option linter.unusedSimpArgs false
noncomputable section
namespace Go.Eng
open Go Go.Eng Go.Proofs
def eu:List (Nat × Nat):=[(3,532287),(4,27606985387265833458448626086019086850798682975815910917497243415084287),(5,231584178474635887544326277586061401570821035840802400406322581688174220657663),(6,1572159),(7,545258751),(8,356811923841428486710687855541069266886312191),(9,1496577676670400731287583030439392479603664785226879),(10,2722258937907761275144690232847402794879),(11,348449143727040986586643248523917211467743),(12,7),(13,255),(14,304028159760777215),(15,9973638083948653743046463),(16,13479973333685659576275851718263930187144008251458327323533429965055),(17,72431419260415),(18,131635),(19,2427314828227746153397567),(20,831),(21,33571891),(22,262707),(23,55),(24,5070602400913241865159983759231),(25,2229199),(26,67110095),(27,2449493311),(28,35687679),(29,831),(30,2101055),(31,2101055),(32,17695),(33,16895),(34,1057023),(35,4294971855),(36,31),(37,1099528438007),(38,8390903),(39,31),(40,287),(41,79),(42,4223),(43,575),(44,1065471),(45,526591),(46,4607),(47,524599),(48,263295),(49,4295237887),(50,2251799947903551),(51,1),(52,2222263),(53,8755),(54,7),(55,31),(56,288239190498476159),(57,31),(58,19),(59,255),(60,4255),(61,8589969715),(62,127),(63,1180627658336293093887),(64,4294971855),(65,1099511662605),(66,71),(67,7),(68,7),(69,4398046519807),(70,31),(71,127),(72,164735),(73,504373101),(74,1975),(75,2098295),(76,71),(77,5),(78,55),(79,5),(80,7),(81,4538990229194591),(82,137440017663),(83,31),(84,31),(85,15),(86,10561175960189429404692119567),(87,7),(88,1073873399),(89,71),(90,7),(91,549755815991),(92,66483),(93,1073742325),(94,71),(95,17592186048383),(96,65619),(97,15),(98,23),(99,36929516944439115647),(100,5),(101,19),(102,7),(103,7),(104,19),(105,7),(106,7),(107,577525079559142263),(108,127),(109,604275),(110,127),(111,115),(112,159),(113,2035),(114,19),(115,5),(116,66483),(117,66483),(118,8255),(119,5),(120,16371),(121,17389),(122,604275),(123,19),(124,131079),(125,5),(126,531911)]
def XZ:List (Nat × Nat)→Nat→Nat
 |[],_=>0
 |(i,k)::r,f=>bif Nat.beq i f then k else XZ r f
def fI:List (Nat × List Nat):=[(4,[0,2,4,6]),(5,[0,2]),(9,[0]),(11,[0]),(15,[0]),(16,[0,2,4,6]),(17,[0]),(18,[0]),(21,[0]),(22,[0]),(35,[0]),(52,[0]),(61,[0]),(64,[0]),(65,[0]),(69,[0]),(73,[0,2]),(74,[0]),(82,[0]),(91,[0]),(92,[0]),(93,[0]),(107,[0,2]),(116,[0]),(117,[0]),(121,[0]),(126,[0])]
def YC:List (Nat × List Nat)→Nat→Nat→Option C6
 |[],_,_=>none
 |(i,l)::r,f,b=>bif Nat.beq i f then (bif l.any (Nat.beq b) then some {} else none) else YC r f b
def nars:Nat→Nat→Option (Tmp × Int × Int):=fun f r=>bif Nat.beq f 73&&Nat.beq r 3 then some (3,0,1000000) else none
def Ah:FuncId→Gf:=fun f=>⟨XZ eu f,YC fI f,nars f⟩
theorem BX:Try.prog.follows .mixedOrders=true:=by kernel_rfl
end Go.Eng
end
noncomputable section
namespace Go.Proofs.Ytmlmcidljiibaaa
open Go Go.Eng Go.RowKit Go.ChangeShapes Go.WideShapes Go.ChangeAt
section
variable {H:Type}
theorem aQ (d:DataW H):0 < Rows.uptoBulk d:=by
 cases d with
 |lit l=>cases l<;>simp[Rows.uptoBulk]
 |_=>simp[Rows.uptoBulk]
theorem NJ:∀(l:List (DataW H)),l.length≤Rows.uptoBulkAll l
 |[]=>by simp[Rows.uptoBulkAll]
 |d::r=>by
  have h1:=aQ d
  have h2:=NJ r
  simp only[List.length_cons,Rows.uptoBulkAll];omega
mutual
theorem aH:(d:DataW H)→Rows.uptoBulk d≤1048576→Cs 1048576 d
 | .lit l,h=> .lit fun s e=>by
  subst e
  simp only[Rows.uptoBulk] at h;omega
 | .nil,_=> .nil
 | .ptr d,_=> .ptr d
 | .slice l s,h=>by
  simp only[Rows.uptoBulk] at h
  have h1:=NJ l
  exact .slice (by omega) (JT l (by omega))
 | .agg l,h=>by
  simp only[Rows.uptoBulk] at h
  exact .agg (JT l (by omega))
 | .iface t d,_=> .iface t d
 | .map es,_=> .map es
 | .held h,_=> .held h
theorem JT:(l:List (DataW H))→Rows.uptoBulkAll l≤1048576→∀d∈l,Cs 1048576 d
 |[],_=>fun d hd=>by cases hd
 |x::r,h=>fun d hd=>by
  simp only[Rows.uptoBulkAll] at h
  rcases List.mem_cons.1 hd with e|hd
  ·rw[e];exact aH x (by omega)
  ·exact JT r (by omega) d hd
end
end
theorem Vp {H:Type}{enc:TypeId × Value→H}{P:Program}{W:World}{base:Nat}{sp:Nat→Bool}{held:Bool}:∀{ts:List TypeId} {vs:List Value} {ds:List (DataW H)} {ps:List MemPlace},DataW.TrodAll enc P W base sp held ts vs ds ps→ds.length=ts.length
 |[],[],[],_,_=>rfl
 |[],[],_::_,_,h=>h.elim
 |[],_::_,_,_,h=>h.elim
 |_::_,[],_,_,h=>h.elim
 |_::_,_::_,[],_,h=>h.elim
 |_::ts,_::vs,_::ds,_,⟨_,_,_,h2,_⟩=>by simp[Vp h2]
theorem own:ownKnob Try.prog.godebug=none:=by kernel_rfl
theorem laid:laidOutB Try.prog=true:=by kernel_rfl
set_option maxRecDepth 100000 in
theorem ah {s:ChangeSpec}{f:Func}{k:FuncId}(hres:f.resultTypes= #[4])(hvs:s.vars=[])(hrec:∀t∈f.params.toList,Try.prog.readableRec t=true∧t < Try.prog.types.size)
  (hfn:∀(H:Type) (ds:List (DataW H)),ds.length=f.params.toList.length→s.fn H ds={ results:=[.lit (.bool true)],args:=ds })
  (hcall:∀{H:Type} {enc:TypeId × Value→H} {W:World} {base:Nat} {vs:List Value} {ds:List (DataW H)} {ps:List MemPlace},DataW.TrodAll enc Try.prog W 0 (fun _=>true) true f.params.toList vs ds ps→
   (∀(j:Nat) t v,f.params.toList[j]? =some t→vs[j]? =some v→Value.okWide Try.prog W .any base t v)→(∀d∈ds,Cs 1048576 d)→
   Calls Try.prog k (vs:List Value).toArray W fun e W'=>e= .returned (.bool true)∧Below W.heap.size W W')
  (htb:Try.prog.underlying 4=some .bool)
  (H:Type) (enc:TypeId × Value→H) (W:World) (base:Nat) (args:Array Value) (ds gs:List (DataW H)) (before:List MemPlace)
  (hval:∀(j:Nat) t v,f.params[j]? =some t→args[j]? =some v→Value.okWide Try.prog W .any base t v)
  (hW:DataW.Whole enc Try.prog f.params.toList s.vars false W args.toList ds gs before) (hk:Rows.uptoSmall H (ds++gs)=true):
  Calls Try.prog k args W fun e W'=>∃v,e= .returned v∧s.post enc Try.prog f false true false false W args v W':=by
 have hW0:=hW
 obtain⟨p,q,hA,hV,rfl,hz,hn⟩:=hW
 have hgs:gs=[]:=by
  rw[hvs] at hV
  cases gs with
  |nil=>rfl
  |cons=>exact hV.elim
 subst hgs
 have hlen:ds.length=f.params.toList.length:=Vp hA
 have hsh:∀d∈ds,Cs 1048576 d:=JT ds (by
  have h1:=hk
  unfold Rows.uptoSmall at h1
  rw[List.append_nil,decide_eq_true_eq] at h1
  exact h1)
 have hc:=hcall hA (fun j t v h1 h2=>hval j t v (by simpa using h1) (by simpa using h2)) hsh
 refine hc.mono fun e W' ⟨he,hb⟩=>⟨_,he,?_⟩
 exact ZU laid hrec hres htb hvs (by rw[List.append_nil];exact hfn H ds hlen) hW0 hb
end Go.Proofs.Ytmlmcidljiibaaa
end
noncomputable section
namespace Go.Eng
open Go Go.Proofs
def Cc (r:Nat):Bool:=(decide (r < 97)||decide (122 < r))&&(decide (r < 48)||decide (57 < r))
theorem LI (b:UInt8):Gc b= !Cc b.toNat:=by
 rw[Bool.eq_iff_iff]
 simp only[Gc,Cc,Bool.or_eq_true,Bool.and_eq_true,decide_eq_true_eq,Bool.not_eq_true',Bool.and_eq_false_iff,Bool.or_eq_false_iff,decide_eq_false_iff_not]
 omega
theorem VT (s:ByteArray):∀(f pos:Nat),s.size≤pos+f→(Lib.idxFuncFrom Cc true s f pos= -1↔∀j (h:j < s.size),pos≤j→Gc (s[j]'h)=true)
 |0,pos,hf=>by
  simp only[Lib.idxFuncFrom,true_iff]
  intro j h hp
  omega
 |f+1,pos,hf=>by
  unfold Lib.idxFuncFrom
  by_cases hp:pos < s.size
  ·rw[if_pos hp]
   by_cases ha:(s[pos]'hp).toNat < 128
   ·rw[decode_ascii s pos hp ha]
    simp only
    by_cases hb:Cc (s[pos]'hp).toNat=true
    ·rw[if_pos hb]
     constructor
     ·intro h;omega
     ·intro h
      have:=h pos hp (Nat.le_refl _)
      rw[LI,hb] at this
      cases this
    ·rw[if_neg hb,VT s f (pos+1) (by omega)]
     constructor
     ·intro h j hj hle
      by_cases e:j=pos
      ·subst e
       rw[LI]
       simpa using hb
      ·exact h j hj (by omega)
     ·intro h j hj hle
      exact h j hj (by omega)
   ·obtain⟨h1,h2⟩:=decode_high s pos hp (by omega)
    have hb:Cc (Utf8.decode s pos).1=true:=by
     simp only[Cc,Bool.or_eq_true,Bool.and_eq_true,decide_eq_true_eq]
     omega
    rw[if_pos hb]
    constructor
    ·intro h;omega
    ·intro h
     have:=h pos hp (Nat.le_refl _)
     rw[LI] at this
     have hb2:Cc (s[pos]'hp).toNat=true:=by
      simp only[Cc,Bool.or_eq_true,Bool.and_eq_true,decide_eq_true_eq]
      omega
     rw[hb2] at this
     cases this
  ·rw[if_neg hp]
   simp only[true_iff]
   intro j h hle
   omega
theorem RD (s:ByteArray):s.data.toList.all Gc=true↔∀j (h:j < s.size),Gc (s[j]'h)=true:=by
 rw[List.all_eq_true]
 constructor
 ·intro h j hj
  exact h _ (by
   have:s[j]=s.data.toList[j]'(by simpa using hj):=rfl
   rw[this]
   exact List.getElem_mem _)
 ·intro h x hx
  obtain⟨j,hj,rfl⟩:=List.getElem_of_mem hx
  exact h j (by simpa using hj)
theorem WK (s:ByteArray):A8 s=(decide (1≤s.size)&&decide (s.size≤20)&& !decide (0≤Lib.idxFunc Cc true s)):=by
 have h1:=VT s s.size 0 (by omega)
 have h2:=RD s
 have h3:=Lib.idxFunc_range Cc true s
 unfold A8
 congr 1
 rw[Bool.eq_iff_iff,h2]
 change Lib.idxFunc Cc true s= -1↔_ at h1
 rw[Bool.not_eq_true',decide_eq_false_iff_not]
 constructor
 ·intro h
  have:=h1.2 fun j hj _=>h j hj
  omega
 ·intro h j hj
  exact h1.1 (by omega) j hj (Nat.zero_le _)
end Go.Eng
end
noncomputable section
namespace Go.Eng
def okB (s:ByteArray)(j:Nat):Prop:=97≤Bk s j∧Bk s j≤122∨48≤Bk s j∧Bk s j≤57
theorem cr {s:ByteArray}{k:Nat}(hk:k=s.size):s.data.toList.all Gc=true↔∀j:Nat,(j:Int) < k→okB s j:=by
 unfold okB
 subst hk
 rw[RD]
 have e:∀j (hj:j < s.size),(Gc (s[j]'hj)=true↔(97≤Bk s j∧Bk s j≤122∨48≤Bk s j∧Bk s j≤57)):=by
  intro j hj
  have e:Bk s j=((s[j]'hj).toNat:Int):=by
   unfold Bk
   have hl:j < s.data.toList.length:=by simpa using hj
   rw[List.getD_eq_getElem?_getD,List.getElem?_eq_getElem hl]
   rfl
  rw[e]
  simp only[Gc,Bool.or_eq_true,Bool.and_eq_true,decide_eq_true_eq]
  omega
 constructor
 ·intro h j hj
  exact (e j (by omega)).1 (h j (by omega))
 ·intro h j hj
  exact (e j hj).2 (h j (by omega))
def AY (y w h n:Int):Int:=if n < w then y+n else if n < w+h then y+w else if n < 2*w+h then y+w - (n - w - h) else y
def AX (y w h n:Int):Int:=if n < w then y else if n < w+h then y+(n - w) else if n < 2*w+h then y+h else y+h - (n - 2*w - h)
def AW (y w h px py:Int):Int:=
 if¬(0≤px - y∧px - y≤w∧0≤py - y∧py - y≤h) then -1
 else if py - y=0 then px - y else if px - y=w then w+(py - y) else if py - y=h then w+h+(w - (px - y)) else if px - y=0 then 2*w+h+(h - (py - y)) else -1
def Bh (x lo hi:Int):Int:=if x < lo then lo else if hi < x then hi else x
def Ba (px py r:Int)(others:List (List U)):Bool:=others.all fun u=> !decide (sq px py (uI u 0) (uI u 1) < (r+uI u 2)*(r+uI u 2))
def Pz (free:Int→Bool)(start many:Int):Nat→Int→Int
 |0,_=> -1
 |f+1,t=>if free ((start+t) % many)=true then (start+t) % many else if free ((start - t+many) % many)=true then (start - t+many) % many else Pz free start many f (t+1)
def Nf (free:Int→Bool)(start many:Int):Int:=Pz free start many (many / 2+1).toNat 0
def BR (y w h:Int):Prop:=(0≤y∧y≤1048576)∧(0 < w∧w≤4194304)∧(0 < h∧h≤4194304)
theorem Ka {x lo hi:Int}(h:lo≤hi):lo≤Bh x lo hi∧Bh x lo hi≤hi:=by
 unfold Bh
 split
 ·omega
 ·split<;>omega
theorem CP {l:Ln}(h:AT l=0):BR l.yard (l.wide - 2*l.yard) (l.long - 2*l.yard)∧(65536≤l.wide∧l.wide≤4194304)∧(65536≤l.long∧l.long≤4194304)∧l.hoops.length≤12∧1≤l.hoops.length∧BV l.hoops=true∧(1≤l.pr∧l.pr≤8192):=by
 unfold AT at h
 split at h
 ·omega
 ·rename_i hm
  split at h
  ·rename_i hl
   simp only[K9,TR,Bool.and_eq_true,Bm,decide_eq_true_eq] at hl
   simp only[Ir,Bool.or_eq_true,decide_eq_true_eq,not_or] at hm
   obtain⟨⟨⟨⟨⟨⟨⟨⟨⟨⟨h1,h2⟩,h3⟩,h4⟩,h5⟩,h6⟩,h7⟩,h8⟩,h9⟩,h10⟩,h11⟩:=hl
   have hy:l.yard≤l.wide / 4∧l.yard≤l.long / 4:=by
    obtain⟨_,h4⟩:=h4
    split at h4<;>omega
   refine⟨⟨by omega,by omega,by omega⟩,by omega,by omega,by omega,by omega,h9,h5⟩
  ·omega
theorem au {s:ByteArray}:A8 s=true↔(1≤s.size∧s.size≤20∧∀j:Nat,(j:Int) < s.size→okB s j):=by
 unfold A8
 rw[Bool.and_eq_true,Bool.and_eq_true,decide_eq_true_eq,decide_eq_true_eq,cr rfl,and_assoc]
def Bo (l:Ln)(ps:List (List U)):Int:=if¬AT l=0 then AT l else if Bz ps=true then 0 else 2
def Ld (l:Ln):Bool:=decide (100 < l.name.size)||decide (20 < l.hoops.length)||decide (300 < l.cells.length)
def Bu (w h:Int)(p:List (List U))(i:Nat):Prop:=
 (AA p i 2≤AA p i 0∧AA p i 0≤w - AA p i 2)∧(AA p i 2≤AA p i 1∧AA p i 1≤h - AA p i 2)∧
  ∀q:Nat,q < i→¬sq (AA p i 0) (AA p i 1) (AA p q 0) (AA p q 1) < (AA p i 2+AA p q 2)*(AA p i 2+AA p q 2)
theorem NR {p:List (List U)}{u:List U}{k:Nat}(hk:k≤p.length):Ps p u k=true↔∀q:Nat,q < k→W5 u (p.getD q [])=false:=by
 unfold Ps
 rw[Ck]
 have e:∀q,q < k→(p.take k).getD q []=p.getD q []:=fun q hq=>by
  rw[List.getD_eq_getElem?_getD,List.getElem?_take_of_lt hq,←List.getD_eq_getElem?_getD]
 constructor
 ·intro h q hq
  have:=h q (by rw[List.length_take];omega)
  rw[e q hq] at this
  simpa using this
 ·intro h q hq
  rw[List.length_take] at hq
  have hq':q < k:=by omega
  rw[e q hq',h q hq']
  rfl
theorem JN {w h:Int}{p:List (List U)}:Do w h p=true↔∀i:Nat,i < p.length→Bu w h p i:=by
 unfold Do Bu
 rw[List.all_eq_true]
 constructor
 ·intro hh i hi
  have:=hh i (List.mem_range.2 hi)
  rw[Bool.and_eq_true,NR (by omega)] at this
  obtain⟨h1,h2⟩:=this
  unfold SF at h1
  rw[Bool.and_eq_true,Bm,Bm] at h1
  refine⟨h1.1,h1.2,fun q hq=>?_⟩
  have:=h2 q hq
  unfold W5 at this
  rw[decide_eq_false_iff_not] at this
  exact this
 ·intro hh i hi
  obtain⟨h1,h2,h3⟩:=hh i (List.mem_range.1 hi)
  have hi:=List.mem_range.1 hi
  rw[Bool.and_eq_true,NR (by omega)]
  refine⟨?_,fun q hq=>?_⟩
  ·unfold SF
   rw[Bool.and_eq_true,Bm,Bm]
   exact⟨h1,h2⟩
  ·unfold W5
   rw[decide_eq_false_iff_not]
   exact h3 q hq
def CG (p:List (List U)):Bool:=p.all fun u=>Cq (uI u 2) 1 8192
theorem DN {p:List (List U)}:CG p=true↔∀j:Nat,j < p.length→(1≤AA p j 2∧AA p j 2≤8192):=by
 unfold CG
 rw[Ck]
 constructor
 ·intro h j hj
  exact Bm.1 (h j hj)
 ·intro h j hj
  exact Bm.2 (h j hj)
theorem Om {w h ax ay ar bx by_ br:Int}(hw:w≤4194304)(hh:h≤4194304)(ha:1≤ar∧ar≤8192)(hb:1≤br∧br≤8192)(h1:ar≤ax∧ax≤w - ar)(h2:ar≤ay∧ay≤h - ar)(h3:br≤bx∧bx≤w - br)(h4:br≤by_∧by_≤h - br):
  Cn ax ay ar bx by_ br < 0↔sq ax ay bx by_ < (ar+br)*(ar+br):=by
 unfold Cn
 rw[if_pos ⟨Av.2 (by omega),Av.2 (by omega),by omega,by omega,by omega,by omega⟩]
 have e:(bx - ax)*(bx - ax)+(by_ - ay)*(by_ - ay)=sq ax ay bx by_:=by unfold sq;grind
 rw[e]
 unfold EI
 repeat' split
 all_goals omega
theorem Fk {p:List (List U)}{n q c:Nat}(h:q < n):AA (p.take n) q c=AA p q c:=by
 unfold AA
 rw[List.getD_eq_getElem?_getD (l:=p.take n),List.getElem?_take_of_lt h,←List.getD_eq_getElem?_getD]
def Hg (name:ByteArray)(wide long yard:Int)(hoops:List (List U))(px py pr nx ny:Int)(cells:List (List U)):Prop:=
 (A8 name=true∧(65536≤wide∧wide≤4194304)∧(65536≤long∧long≤4194304))∧(0≤yard∧yard≤(if wide≤long then wide else long) / 4)∧
  (1≤pr∧pr≤8192)∧((1≤nx∧nx≤16)∧(1≤ny∧ny≤16)∧(cells.length:Int)=nx*ny)∧BV hoops=true∧cells.all GH=true∧Do wide long (CM hoops px py pr)=true
theorem Nq {name wide long yard hoops px py pr nx ny cells}:K9 ⟨name,wide,long,yard,hoops,px,py,pr,nx,ny,cells⟩=true↔Hg name wide long yard hoops px py pr nx ny cells:=by
 unfold K9 TR Hg BV BC
 simp only[Bool.and_eq_true,Bm,decide_eq_true_eq]
 constructor
 ·rintro⟨⟨⟨⟨⟨⟨⟨⟨⟨⟨h1,h2⟩,h3⟩,h4⟩,h5⟩,h6⟩,h7⟩,h8⟩,h9⟩,h10⟩,h11⟩
  exact⟨⟨h1,h2,h3⟩,h4,h5,⟨h6,h7,h8⟩,h9,h10,h11⟩
 ·rintro⟨⟨h1,h2,h3⟩,h4,h5,⟨h6,h7,h8⟩,h9,h10,h11⟩
  exact⟨⟨⟨⟨⟨⟨⟨⟨⟨⟨h1,h2⟩,h3⟩,h4⟩,h5⟩,h6⟩,h7⟩,h8⟩,h9⟩,h10⟩,h11⟩
theorem Qh {h:List (List U)}:h.all GH=true↔∀j:Nat,j < h.length→BM (AA h j 0) (AA h j 1) (AA h j 2)=true:=Ck
theorem dt {u:List U}(h:Ww u=true):∀v∈Ce u,Cq (uI v 2) 1 8192=true:=by
 intro v hv
 have hw:=(LH.1 h).2.2.2.2
 have e:Cq (uI u 3) 1 8192=true:=Bm.2 hw
 unfold Ce Ku at hv
 split at hv<;>(simp only[List.mem_cons,List.not_mem_nil,or_false] at hv;rcases hv with rfl|rfl<;>exact e)
theorem Jd {h:List (List U)}{px py pr:Int}(hh:BV h=true)(hp:1≤pr∧pr≤8192):CG (CM h px py pr)=true:=by
 unfold CG CM
 rw[List.all_append,Bool.and_eq_true]
 refine⟨?_,?_⟩
 ·rw[List.all_eq_true]
  intro v hv
  obtain⟨u,hu,hv⟩:=List.mem_flatMap.1 hv
  exact dt (List.all_eq_true.1 hh u hu) v hv
 ·show (Cq pr 1 8192&&true)=true
  rw[Bool.and_true]
  exact Bm.2 hp
theorem JR {h:List (List U)}{px py pr:Int}:(CM h px py pr).length=2*h.length+1:=by
 unfold CM
 rw[List.length_append,EU]
 rfl
theorem WL {h:List (List U)}{px py pr:Int}:(CM h px py pr).getD (2*h.length) []=ML px py pr:=by
 unfold CM
 rw[List.getD_eq_getElem?_getD,List.getElem?_append_right (by rw[EU];omega),EU,Nat.sub_self]
 rfl
theorem Xi {w l:Int}{h:List (List U)}{px py pr:Int}(hp:1≤pr)(ha:Do w l (CM h px py pr)=true):(pr≤px∧px≤w - pr)∧(pr≤py∧py≤l - pr):=by
 have:=JN.1 ha (2*h.length) (by rw[JR];omega)
 unfold Bu AA at this
 rw[WL] at this
 exact⟨this.1,this.2.1⟩
theorem Sx {l:Ln}:Ir l=true↔((l.hoops.length < 1∨12 < l.hoops.length)∨256 < l.cells.length):=by
 unfold Ir
 simp only[Bool.or_eq_true,decide_eq_true_eq]
theorem YJ {l:Ln}:Ld l=true↔((100 < l.name.size∨20 < l.hoops.length)∨300 < l.cells.length):=by
 unfold Ld
 simp only[Bool.or_eq_true,decide_eq_true_eq]
def Ox (hx hy gap wire:Int)(along fwd:Bool)(x y r:Int):Int:=
 let v:=if along=true then y - hy else x - hx
 let u:=if along=true then x - hx else y - hy
 let u:=if fwd=true then u else -u
 if gap / 2≤v∨gap / 2≤ -v then 0 else if -wire≤u - r then 3 else if wire < u+r then 2 else if -wire < u+r then 1 else 0
def GN (l:Ln)(h x y r:Int):Int:=if¬AT l=0 then AT l else if h < 0∨l.hoops.length≤h then 3 else if¬AH x y=true then 2 else if¬Bx r=true then 3 else 0
def IP (l:Ln)(h:Int)(fwd:Bool)(x y r:Int):Int:=
 if GN l h x y r=0 then Ox (AA l.hoops h.toNat 0) (AA l.hoops h.toNat 1) (AA l.hoops h.toNat 2) (AA l.hoops h.toNat 3) (M3 l.hoops h.toNat 4) fwd x y r else 0
theorem X6 {l:Ln}{h:Int}(hc:AT l=0)(h1:0≤h)(h2:h < l.hoops.length):
  (0≤AA l.hoops h.toNat 0∧AA l.hoops h.toNat 0≤4194304)∧(0≤AA l.hoops h.toNat 1∧AA l.hoops h.toNat 1≤4194304)∧(2≤AA l.hoops h.toNat 2∧AA l.hoops h.toNat 2≤32768)∧(1≤AA l.hoops h.toNat 3∧AA l.hoops h.toNat 3≤8192):=by
 have:=LH.1 (G9.1 (CP hc).2.2.2.2.2.1 h.toNat (by omega))
 exact⟨this.1,this.2.1,this.2.2.1,this.2.2.2.2⟩
theorem Z3 {hx hy gap wire:Int}{along fwd:Bool}{x y r u v w m:Int}(hv:v=if along=true then y - hy else x - hx)(hu:w=if along=true then x - hx else y - hy)(hw:u=if fwd=true then w else -w)(hm:m=if v≤ -v then -v else v):
  Ox hx hy gap wire along fwd x y r=if gap / 2≤m then 0 else if -wire≤u - r then 3 else if wire < u+r then 2 else if -wire < u+r then 1 else 0:=by
 subst hv hu hw hm
 unfold Ox
 have e:∀a:Int,(gap / 2≤a∨gap / 2≤ -a)↔gap / 2≤if a≤ -a then -a else a:=fun a=>by
  split<;>omega
 simp only[e]
def Fp (p:List (List U)):Prop:=∀j:Nat,j < p.length→AH (AA p j 0) (AA p j 1)=true∧1≤AA p j 2∧AA p j 2≤16384
theorem cq {l:Ln}(h:AT l=0):Hg l.name l.wide l.long l.yard l.hoops l.px l.py l.pr l.nx l.ny l.cells:=by
 unfold AT at h
 split at h
 ·omega
 ·split at h
  ·rename_i hl
   exact Nq.1 hl
  ·omega
theorem aF {l:Ln}(h:AT l=0):Fp (BC l):=by
 intro j hj
 obtain⟨⟨-,h1,h2⟩,-,h3,-,h4,-,h5⟩:=cq h
 have ha:=JN.1 h5 j hj
 have hr:=DN.1 (Jd (px:=l.px) (py:=l.py) h4 h3) j hj
 obtain⟨a1,a2,-⟩:=ha
 show AH (AA (CM l.hoops l.px l.py l.pr) j 0) (AA (CM l.hoops l.px l.py l.pr) j 1)=true∧1≤AA (CM l.hoops l.px l.py l.pr) j 2∧AA (CM l.hoops l.px l.py l.pr) j 2≤16384
 rw[Av]
 omega
theorem Le {p q:List (List U)}{j c:Nat}(h:j < p.length):AA (p++q) j c=AA p j c:=by
 unfold AA
 rw[List.getD_eq_getElem?_getD (l:=p++q),List.getElem?_append_left h,←List.getD_eq_getElem?_getD]
theorem Kt {p q:List (List U)}{j c:Nat}(h:p.length≤j):AA (p++q) j c=AA q (j - p.length) c:=by
 unfold AA
 rw[List.getD_eq_getElem?_getD (l:=p++q),List.getElem?_append_right h,←List.getD_eq_getElem?_getD]
theorem Yc {p q:List (List U)}(hp:Fp p)(hq:q.all Ax=true):Fp (p++q):=by
 intro j hj
 rw[List.length_append] at hj
 rcases Nat.lt_or_ge j p.length with h|h
 ·rw[Le h,Le h,Le h];exact hp j h
 ·rw[Kt h,Kt h,Kt h];exact C4.1 (Ck.1 hq (j - p.length) (by omega))
theorem ZA {ax ay bx by_ r:Int}{d:List (List U)}{i n:Int}{a b:List (List U)}(h0:0≤i)(hn:n=i+1)(ha:a=FQ ax ay bx by_ r d i.toNat)
  (hb:b=if Kp ax ay bx by_ (AA d i.toNat 0) (AA d i.toNat 1) (r+AA d i.toNat 2)=true then a++[[.int i]] else a):b=FQ ax ay bx by_ r d n.toNat:=by
 subst hn ha hb
 rw[show (i+1).toNat=i.toNat+1 by omega]
 unfold FQ
 rw[List.range_succ,List.filterMap_append]
 have e:((i.toNat:Nat):Int)=i:=by omega
 by_cases k:Kp ax ay bx by_ (AA d i.toNat 0) (AA d i.toNat 1) (r+AA d i.toNat 2)=true
 ·rw[if_pos k,List.filterMap_cons_some (b:=[.int i])]
  ·rfl
  ·rw[←e]
   exact if_pos k
 ·rw[if_neg k,List.filterMap_cons_none]
  ·simp
  ·exact if_neg k
theorem am {ax ay bx by_ r:Int}{d:List (List U)}{n:Nat}:(FQ ax ay bx by_ r d n).length≤n:=by
 unfold FQ
 refine Nat.le_trans (List.length_filterMap_le _ _) ?_
 rw[List.length_range]
 exact Nat.le_refl _
theorem Nh {r:Int}{others:List (List U)}(h:AQ r others=0):Bx r=true∧others.length≤12∧others.all Ax=true:=by
 unfold AQ at h
 grind
theorem eQ {l:Ln}{others:List (List U)}(h:AT l=0)(h1:others.length≤12)(h2:others.all Ax=true):Fp (BC l++others)∧(BC l++others).length≤37:=by
 refine⟨Yc (aF h) h2,?_⟩
 have:=(CP h).2.2.2.1
 rw[List.length_append,show (BC l).length=2*l.hoops.length+1 from JR]
 omega
theorem bn {ax ay bx by_ cx cy s:Int}(h1:AH ax ay=true)(h2:AH bx by_=true)(h3:AH cx cy=true)(h4:0≤s∧s≤8388608):
  (if (AH ax ay=true∧AH bx by_=true∧AH cx cy=true)∧0≤s∧s≤8388608 then G5 ax ay bx by_ cx cy s else 0) < 0↔Kp ax ay bx by_ cx cy s=true:=by
 rw[if_pos ⟨⟨h1,h2,h3⟩,h4⟩,Y3]
end Go.Eng
end
noncomputable section
namespace Go.Eng
theorem MG {free:Int→Bool}{start many:Int}:∀(k f:Nat) (t:Int),(∀j:Nat,j < k→free ((start+(t+j)) % many)=false∧free ((start - (t+j)+many) % many)=false)→
  Pz free start many (f+k) t=Pz free start many f (t+k)
 |0,f,t,_=>by simp
 |k+1,f,t,h=>by
  have h0:=h 0 (by omega)
  simp only[Int.natCast_zero,Int.add_zero] at h0
  rw[show f+(k+1)=(f+k)+1 by omega]
  show (if free ((start+t) % many)=true then (start+t) % many else if free ((start - t+many) % many)=true then (start - t+many) % many else Pz free start many (f+k) (t+1))=_
  rw[if_neg (by rw[h0.1];exact Bool.false_ne_true),if_neg (by rw[h0.2];exact Bool.false_ne_true),MG k f (t+1) fun j hj=>by
   have:=h (j+1) (by omega)
   rw[show t+((j+1:Nat):Int)=t+1+j by omega] at this
   exact this]
  rw[show t+1+(k:Int)=t+((k+1:Nat):Int) by omega]
def Cj (free:Int→Bool)(start many t:Int):Prop:=∀j:Nat,(j:Int) < t→free ((start+j) % many)=false∧free ((start - j+many) % many)=false
theorem QI {free:Int→Bool}{start many t:Int}(h0:0≤t)(h1:t≤many / 2)(h:Cj free start many t):
  Nf free start many=if free ((start+t) % many)=true then (start+t) % many else if free ((start - t+many) % many)=true then (start - t+many) % many else Pz free start many ((many / 2+1).toNat - t.toNat - 1) (t+1):=by
 unfold Nf
 rw[show (many / 2+1).toNat=((many / 2+1).toNat - t.toNat - 1+1)+t.toNat by omega,MG t.toNat _ 0 fun j hj=>by rw[Int.zero_add];exact h j (by omega)]
 rw[show (0:Int)+(t.toNat:Int)=t by omega]
 rw[show (many / 2+1).toNat - t.toNat - 1+1+t.toNat - t.toNat - 1=(many / 2+1).toNat - t.toNat - 1 by omega]
 rfl
theorem Q1 {free:Int→Bool}{start many t:Int}(h1:many / 2 < t)(h:Cj free start many t):Nf free start many= -1:=by
 unfold Nf
 have:=MG (free:=free) (start:=start) (many:=many) (many / 2+1).toNat 0 0 fun j hj=>by rw[Int.zero_add];exact h j (by omega)
 rw[Nat.zero_add] at this
 rw[this]
 rfl
theorem RE {free:Int→Bool}{start many t u:Int}(hu:u=t+1)(h0:0≤t)(h:Cj free start many t)(h1:free ((start+t) % many)=false)(h2:free ((start - t+many) % many)=false):Cj free start many u:=by
 intro j hj
 by_cases k:(j:Int) < t
 ·exact h j k
 ·obtain rfl:(j:Int)=t:=by omega
  exact⟨h1,h2⟩
theorem VM {y w h px py:Int}(hw:0 < w)(hh:0 < h):AW y w h px py < 2*(w+h)∧ -1≤AW y w h px py:=by
 unfold AW
 repeat' split
 all_goals omega
theorem O3 {y w h px py qx qy:Int}(hw:0 < w)(hh:0 < h)(ex:qx=Bh px y (y+w))(ey:qy=Bh py y (y+h))(hn:¬(qx=px∧qy=py)):0≤AW y w h qx qy:=by
 unfold Bh at ex ey
 unfold AW
 grind
theorem Mr {y w h n:Int}(hd:BR y w h)(h0:0≤n)(h1:n < 2*(w+h)):(y≤AY y w h n∧AY y w h n≤y+w)∧(y≤AX y w h n∧AX y w h n≤y+h):=by
 obtain⟨⟨d1,d2⟩,⟨d3,d4⟩,d5,d6⟩:=hd
 unfold AY AX
 refine⟨⟨?_,?_⟩,?_,?_⟩<;>(repeat' split)<;>omega
theorem Qr {x lo hi m:Int}(h:lo≤hi)(hm:m=if x≤hi then x else hi):(if lo≤m then m else lo)=Bh x lo hi:=by
 subst hm;unfold Bh;repeat' split
 all_goals omega
def FR (l:Ln)(x:Int):Int:=Bh x l.yard (l.wide - l.yard)
def FT (l:Ln)(y:Int):Int:=Bh y l.yard (l.long - l.yard)
def As (y w h r:Int)(others:List (List U))(n:Int):Bool:=Ba (AY y w h n) (AX y w h n) r others
def Dd (y w h qx qy r:Int)(others:List (List U)):Int:=Nf (As y w h r others) (AW y w h qx qy) (2*(w+h))
def C7 (l:Ln)(x y r:Int)(others:List (List U)):Int:=
 if¬A6 l x y=0 then A6 l x y else if¬AQ r others=0 then AQ r others
 else if (FR l x=x∧FT l y=y)∧AW l.yard (l.wide - 2*l.yard) (l.long - 2*l.yard) x y < 0 then 5
 else if Dd l.yard (l.wide - 2*l.yard) (l.long - 2*l.yard) (FR l x) (FT l y) r others < 0 then 15 else 0
def GC (l:Ln)(x y r:Int)(others:List (List U)):Int:=
 if C7 l x y r others=0 then AY l.yard (l.wide - 2*l.yard) (l.long - 2*l.yard) (Dd l.yard (l.wide - 2*l.yard) (l.long - 2*l.yard) (FR l x) (FT l y) r others) else 0
def GJ (l:Ln)(x y r:Int)(others:List (List U)):Int:=
 if C7 l x y r others=0 then AX l.yard (l.wide - 2*l.yard) (l.long - 2*l.yard) (Dd l.yard (l.wide - 2*l.yard) (l.long - 2*l.yard) (FR l x) (FT l y) r others) else 0
theorem nl {l:Ln}{x y:Int}:Bo l [[.int x,.int y]]=A6 l x y:=by
 unfold Bo A6
 rw[RW]
theorem RH {x lo hi m:Int}(h:lo≤hi)(hm:m=if x≤lo then lo else x):(if m≤hi then m else hi)=Bh x lo hi:=by
 subst hm;unfold Bh;repeat' split
 all_goals omega
theorem SJ {px py r:Int}{others:List (List U)}:Ba px py r others=true↔∀j:Nat,j < others.length→¬sq px py (AA others j 0) (AA others j 1) < (r+AA others j 2)*(r+AA others j 2):=by
 unfold Ba
 rw[Ck]
 constructor
 ·intro h j hj
  have:=h j hj
  rw[Bool.not_eq_true',decide_eq_false_iff_not] at this
  exact this
 ·intro h j hj
  rw[Bool.not_eq_true',decide_eq_false_iff_not]
  exact h j hj
section
variable {l:Ln}{x y r yd w h qx qy:Int}{others:List (List U)}(e1:l.yard=yd)(e2:l.wide - 2*l.yard=w)(e3:l.long - 2*l.yard=h)(e4:FR l x=qx)(e5:FT l y=qy)
include e1 e2 e3 e4 e5
theorem P9 (h1:A6 l x y=0)(h2:AQ r others=0):C7 l x y r others=if (qx=x∧qy=y)∧AW yd w h x y < 0 then 5 else if Dd yd w h qx qy r others < 0 then 15 else 0:=by
 subst e1 e2 e3 e4 e5
 unfold C7
 rw[if_neg (by simp[h1]),if_neg (by simp[h2])]
theorem Pg:GC l x y r others=if C7 l x y r others=0 then AY yd w h (Dd yd w h qx qy r others) else 0:=by
 subst e1 e2 e3 e4 e5
 rfl
theorem Pu:GJ l x y r others=if C7 l x y r others=0 then AX yd w h (Dd yd w h qx qy r others) else 0:=by
 subst e1 e2 e3 e4 e5
 rfl
end
theorem Ti {l:Ln}{x y r:Int}{others:List (List U)}(h:¬(A6 l x y=0∧AQ r others=0)):C7 l x y r others=(if¬A6 l x y=0 then A6 l x y else AQ r others)∧¬C7 l x y r others=0:=by
 unfold C7
 by_cases h1:A6 l x y=0
 ·by_cases h2:AQ r others=0
  ·exact absurd ⟨h1,h2⟩ h
  ·rw[if_neg (by simp[h1]),if_pos h2,if_neg (by simp[h1])]
   exact⟨rfl,h2⟩
 ·rw[if_pos h1,if_pos h1]
  exact⟨rfl,h1⟩
end Go.Eng
end
noncomputable section
namespace Go.Eng
open Go
def exH:List (List U):=[[.int 50000,.int 40000,.int 6000,.int 500,.bool false],[.int 30000,.int 100000,.int 6000,.int 500,.bool true]]
def exC:List (List U):=[[.int 100,.int 0,.int 0],[.int 200,.int 5,.int (-5)]]
def exL:Ln:=⟨⟨#[103,114,101,101,110]⟩,100000,200000,5000,exH,50000,100000,1200,2,1,exC⟩
theorem dh:Nz exL 49900 30000 49900 50000 2946 []=[[.int 0]]∧Kb exL 49900 30000 49900 50000 2946 []=0:=⟨by kernel_rfl,by kernel_rfl⟩
theorem az:IP exL 0 true 50000 42446 2946=3∧GN exL 0 50000 42446 2946=0:=⟨by kernel_rfl,by kernel_rfl⟩
def exD:List (List U):=[[.int 5000,.int 70000,.int 2946]]
theorem PY (n:Int)(h1:370000≤n)(h2:n < 560000):As 5000 90000 190000 2946 exD n= !decide ((495000 - n)*(495000 - n) < 34715664):=by
 unfold As
 have hx:AY 5000 90000 190000 n=5000:=by unfold AY;rw[if_neg (by omega),if_neg (by omega),if_neg (by omega)]
 have hy:AX 5000 90000 190000 n=70000+(495000 - n):=by unfold AX;rw[if_neg (by omega),if_neg (by omega),if_neg (by omega)];omega
 rw[hx,hy]
 show (!decide (sq 5000 (70000+(495000 - n)) 5000 70000 < (2946+2946)*(2946+2946))&&true)=_
 rw[Bool.and_true]
 have e:sq 5000 (70000+(495000 - n)) 5000 70000=(495000 - n)*(495000 - n):=by unfold sq;grind
 rw[e]
 rfl
theorem Pa:Dd 5000 90000 190000 5000 70000 2946 exD=500892:=by
 unfold Dd
 have hs:AW 5000 90000 190000 5000 70000=495000:=by kernel_rfl
 rw[hs,show (2:Int)*(90000+190000)=560000 by decide]
 have hn:Cj (As 5000 90000 190000 2946 exD) 495000 560000 5892:=by
  intro j hj
  have e1:((495000:Int)+j) % 560000=495000+j:=by omega
  have e2:((495000:Int) - j+560000) % 560000=495000 - j:=by omega
  rw[e1,e2,PY _ (by omega) (by omega),PY _ (by omega) (by omega)]
  have hq:(j:Int)*j < 34715664:=by
   have:=Int.mul_le_mul (a:=(j:Int)) (b:=j) (c:=5891) (d:=5891) (by omega) (by omega) (by omega) (by omega)
   omega
  rw[show (495000:Int) - (495000+j)= -j by omega,show (495000:Int) - (495000 - j)=j by omega,Int.neg_mul_neg]
  simp[hq]
 rw[QI (by decide) (by decide) hn]
 have e1:((495000:Int)+5892) % 560000=500892:=by decide
 rw[e1,PY _ (by decide) (by decide)]
 rfl
theorem eA:GC exL 1000 70000 2946 exD=5000∧GJ exL 1000 70000 2946 exD=64108∧C7 exL 1000 70000 2946 exD=0:=by
 have h4:FR exL 1000=5000:=by kernel_rfl
 have h5:FT exL 70000=70000:=by kernel_rfl
 have h1:A6 exL 1000 70000=0:=by kernel_rfl
 have h2:AQ 2946 exD=0:=by kernel_rfl
 have hE:C7 exL 1000 70000 2946 exD=0:=by
  rw[P9 (yd:=5000) (w:=90000) (h:=190000) rfl (by kernel_rfl) (by kernel_rfl) h4 h5 h1 h2,Pa]
  rfl
 refine⟨?_,?_,hE⟩
 ·rw[Pg (yd:=5000) (w:=90000) (h:=190000) rfl (by kernel_rfl) (by kernel_rfl) h4 h5,hE,Pa]
  kernel_rfl
 ·rw[Pu (yd:=5000) (w:=90000) (h:=190000) rfl (by kernel_rfl) (by kernel_rfl) h4 h5,hE,Pa]
  kernel_rfl
end Go.Eng
end
