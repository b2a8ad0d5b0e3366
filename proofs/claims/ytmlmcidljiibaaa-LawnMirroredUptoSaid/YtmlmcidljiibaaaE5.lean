/-
  A part of the proof: the evaluator of code and its soundness.
-/
import Derived.Test.YtmlmcidljiibaaaE4
import Derived.KernelRfl
import Derived.Test.YtmlmcidljiibaaaProg
import Derived.Test.YtmlmcidljiibaaaRows
import Derived.WalkKit
import Derived.ProofKit
import Derived.JoinedCond
import Derived.OpenShut
import Derived.Shelf.GgClosure.StringsIndexFuncTop
import Derived.Laws.RangeAny
set_option linter.unusedVariables false
set_option linter.unusedSimpArgs false
noncomputable section
namespace Go.Eng
open Go Go.Eng Go.Proofs
def jP:List (Nat × Nat):=[(3,532287),(4,27606985387265833458448626086019086850798682975815910917497243415084287),(5,231584178474635887544326277586061401570821035840802400406322581688174220657663),(6,1572159),(7,545258751),(8,356811923841428486710687855541069266886312191),(9,1496577676670400731287583030439392479603664785226879),(10,2722258937907761275144690232847402794879),(11,348449143727040986586643248523917211467743),(12,7),(13,255),(14,304028159760777215),(15,9973638083948653743046463),(16,13479973333685659576275851718263930187144008251458327323533429965055),(17,72431419260415),(18,131635),(19,2427314828227746153397567),(20,831),(21,33571891),(22,262707),(23,55),(24,5070602400913241865159983759231),(25,2229199),(26,67110095),(27,2449493311),(28,35687679),(29,831),(30,2101055),(31,2101055),(32,17695),(33,16895),(34,1057023),(35,4294971855),(36,31),(37,1099528438007),(38,8390903),(39,31),(40,287),(41,79),(42,4223),(43,575),(44,1065471),(45,526591),(46,4607),(47,524599),(48,263295),(49,4295237887),(50,2251799947903551),(51,1),(52,2222263),(53,8755),(54,7),(55,31),(56,288239190498476159),(57,31),(58,19),(59,255),(60,4255),(61,8589969715),(62,127),(63,1180627658336293093887),(64,4294971855),(65,1099511662605),(66,71),(67,7),(68,7),(69,4398046519807),(70,31),(71,127),(72,164735),(73,504373101),(74,1975),(75,2098295),(76,71),(77,5),(78,55),(79,5),(80,7),(81,4538990229194591),(82,137440017663),(83,31),(84,31),(85,15),(86,10561175960189429404692119567),(87,7),(88,1073873399),(89,71),(90,7),(91,549755815991),(92,66483),(93,1073742325),(94,71),(95,17592186048383),(96,65619),(97,15),(98,23),(99,36929516944439115647),(100,5),(101,19),(102,7),(103,7),(104,19),(105,7),(106,7),(107,577525079559142263),(108,127),(109,604275),(110,127),(111,115),(112,159),(113,2035),(114,19),(115,5),(116,66483),(117,66483),(118,8255),(119,5),(120,16371),(121,17389),(122,604275),(123,19),(124,131079),(125,5),(126,531911)]
def bF:List (Nat × Nat)→Nat→Nat
 |[],_=>0
 |(i,k)::r,f=>bif Nat.beq i f then k else bF r f
def jk:List (Nat × List Nat):=[(4,[0,2,4,6]),(5,[0,2]),(9,[0]),(11,[0]),(15,[0]),(16,[0,2,4,6]),(17,[0]),(18,[0]),(21,[0]),(22,[0]),(35,[0]),(52,[0]),(61,[0]),(64,[0]),(65,[0]),(69,[0]),(73,[0,2]),(74,[0]),(82,[0]),(91,[0]),(92,[0]),(93,[0]),(107,[0,2]),(116,[0]),(117,[0]),(121,[0]),(126,[0])]
def bU:List (Nat × List Nat)→Nat→Nat→Option DH
 |[],_,_=>none
 |(i,l)::r,f,b=>bif Nat.beq i f then (bif l.any (Nat.beq b) then some {} else none) else bU r f b
def nars:Nat→Nat→Option (Tmp × Int × Int):=fun f r=>bif Nat.beq f 73&&Nat.beq r 3 then some (3,0,1000000) else none
def mus:Nat→Tmp→Nat:=fun f t=>bif Nat.beq f 4&&Nat.beq t 52 then 1 else 0
def frzs:Nat→Nat→Bool:=fun f r=>Nat.beq f 4&&Nat.beq r 10
def Ag:FuncId→G4:=fun f=>⟨bF jP f,bU jk f,nars f,mus f,frzs f⟩
theorem BH:Try.prog.follows .mixedOrders=true:=by kernel_rfl
end Go.Eng
end
noncomputable section
namespace Go.Proofs.Ytmlmcidljiibaaa
open Go Go.Eng Go.RowKit Go.ChangeShapes Go.WideShapes Go.ChangeAt
section
variable {H:Type}
theorem cZ (d:DataW H):0 < Rows.uptoBulk d:=by
 cases d with
 |lit l=>cases l<;>simp[Rows.uptoBulk]
 |_=>simp[Rows.uptoBulk]
theorem OY:∀(l:List (DataW H)),l.length≤Rows.uptoBulkAll l
 |[]=>by simp[Rows.uptoBulkAll]
 |d::r=>by
  have h1:=cZ d
  have h2:=OY r
  simp only[List.length_cons,Rows.uptoBulkAll];omega
mutual
theorem dv:(d:DataW H)→Rows.uptoBulk d≤1048576→Cs 1048576 d
 | .lit l,h=> .lit fun s e=>by
  subst e
  simp only[Rows.uptoBulk] at h;omega
 | .nil,_=> .nil
 | .ptr d,_=> .ptr d
 | .slice l s,h=>by
  simp only[Rows.uptoBulk] at h
  have h1:=OY l
  exact .slice (by omega) (Jo l (by omega))
 | .agg l,h=>by
  simp only[Rows.uptoBulk] at h
  exact .agg (Jo l (by omega))
 | .iface t d,_=> .iface t d
 | .map es,_=> .map es
 | .held h,_=> .held h
theorem Jo:(l:List (DataW H))→Rows.uptoBulkAll l≤1048576→∀d∈l,Cs 1048576 d
 |[],_=>fun d hd=>by cases hd
 |x::r,h=>fun d hd=>by
  simp only[Rows.uptoBulkAll] at h
  rcases List.mem_cons.1 hd with e|hd
  ·rw[e];exact dv x (by omega)
  ·exact Jo r (by omega) d hd
end
end
theorem Xu {H:Type}{enc:TypeId × Value→H}{P:Program}{W:World}{base:Nat}{sp:Nat→Bool}{held:Bool}:∀{ts:List TypeId} {vs:List Value} {ds:List (DataW H)} {ps:List MemPlace},DataW.TrodAll enc P W base sp held ts vs ds ps→ds.length=ts.length
 |[],[],[],_,_=>rfl
 |[],[],_::_,_,h=>h.elim
 |[],_::_,_,_,h=>h.elim
 |_::_,[],_,_,h=>h.elim
 |_::_,_::_,[],_,h=>h.elim
 |_::ts,_::vs,_::ds,_,⟨_,_,_,h2,_⟩=>by simp[Xu h2]
theorem own:ownKnob Try.prog.godebug=none:=by kernel_rfl
theorem laid:laidOutB Try.prog=true:=by kernel_rfl
set_option maxRecDepth 100000 in
theorem Uf {s:ChangeSpec}{f:Func}{k:FuncId}(hres:f.resultTypes= #[4])(hvs:s.vars=[])(hrec:∀t∈f.params.toList,Try.prog.readableRec t=true∧t < Try.prog.types.size)
  (hfn:∀(H:Type) (ds:List (DataW H)),ds.length=f.params.toList.length→s.fn H ds={ results:=[.lit (.bool true)],args:=ds })
  (hcall:∀{H:Type} {enc:TypeId × Value→H} {W:World} {base:Nat} {vs:List Value} {ds:List (DataW H)} {ps:List MemPlace},DataW.TrodAll enc Try.prog W 0 (fun _=>true) true f.params.toList vs ds ps→
   (∀(j:Nat) t v,f.params.toList[j]? =some t→vs[j]? =some v→Value.okWide Try.prog W .any base t v)→(∀d∈ds,Cs 1048576 d)→
   Calls Try.prog k (vs:List Value).toArray W fun e W'=>e= .returned (.bool true)∧Below W.heap.size W W')
  (htb:Try.prog.underlying 4=some .bool)
  (H:Type) (enc:TypeId × Value→H) (W:World) (base:Nat) (args:Array Value) (ds gs:List (DataW H)) (before:List MemPlace)
  (hval:∀(j:Nat) t v,f.params[j]? =some t→args[j]? =some v→Value.okWide Try.prog W .any base t v)
  (hW:DataW.Whole enc Try.prog f.params.toList s.vars false W args.toList ds gs before) (hk:Rows.uptoSmall H (ds++gs)=true):
  Calls Try.prog k args W fun e W'=>∃v,e= .returned v∧s.post enc Try.prog f false true false false W args v W':=by
 have hW0:=hW
 obtain⟨p,q,hA,hV,rfl,hz,hn⟩:=hW
 have hgs:gs=[]:=by
  rw[hvs] at hV
  cases gs with
  |nil=>rfl
  |cons=>exact hV.elim
 subst hgs
 have hlen:ds.length=f.params.toList.length:=Xu hA
 have hsh:∀d∈ds,Cs 1048576 d:=Jo ds (by
  have h1:=hk
  unfold Rows.uptoSmall at h1
  rw[List.append_nil,decide_eq_true_eq] at h1
  exact h1)
 have hc:=hcall hA (fun j t v h1 h2=>hval j t v (by simpa using h1) (by simpa using h2)) hsh
 refine hc.mono fun e W' ⟨he,hb⟩=>⟨_,he,?_⟩
 exact eG laid hrec hres htb hvs (by rw[List.append_nil];exact hfn H ds hlen) hW0 hb
end Go.Proofs.Ytmlmcidljiibaaa
end
noncomputable section
namespace Go.Eng
open Go Go.Proofs
def Cg (r:Nat):Bool:=(decide (r < 97)||decide (122 < r))&&(decide (r < 48)||decide (57 < r))
theorem Ld (b:UInt8):Gp b= !Cg b.toNat:=by
 rw[Bool.eq_iff_iff]
 simp only[Gp,Cg,Bool.or_eq_true,Bool.and_eq_true,decide_eq_true_eq,Bool.not_eq_true',Bool.and_eq_false_iff,Bool.or_eq_false_iff,decide_eq_false_iff_not]
 omega
theorem Xs (s:ByteArray):∀(f pos:Nat),s.size≤pos+f→(Lib.idxFuncFrom Cg true s f pos= -1↔∀j (h:j < s.size),pos≤j→Gp (s[j]'h)=true)
 |0,pos,hf=>by
  simp only[Lib.idxFuncFrom,true_iff]
  intro j h hp
  omega
 |f+1,pos,hf=>by
  unfold Lib.idxFuncFrom
  by_cases hp:pos < s.size
  ·rw[if_pos hp]
   by_cases ha:(s[pos]'hp).toNat < 128
   ·rw[decode_ascii s pos hp ha]
    simp only
    by_cases hb:Cg (s[pos]'hp).toNat=true
    ·rw[if_pos hb]
     constructor
     ·intro h;omega
     ·intro h
      have:=h pos hp (Nat.le_refl _)
      rw[Ld,hb] at this
      cases this
    ·rw[if_neg hb,Xs s f (pos+1) (by omega)]
     constructor
     ·intro h j hj hle
      by_cases e:j=pos
      ·subst e
       rw[Ld]
       simpa using hb
      ·exact h j hj (by omega)
     ·intro h j hj hle
      exact h j hj (by omega)
   ·obtain⟨h1,h2⟩:=decode_high s pos hp (by omega)
    have hb:Cg (Utf8.decode s pos).1=true:=by
     simp only[Cg,Bool.or_eq_true,Bool.and_eq_true,decide_eq_true_eq]
     omega
    rw[if_pos hb]
    constructor
    ·intro h;omega
    ·intro h
     have:=h pos hp (Nat.le_refl _)
     rw[Ld] at this
     have hb2:Cg (s[pos]'hp).toNat=true:=by
      simp only[Cg,Bool.or_eq_true,Bool.and_eq_true,decide_eq_true_eq]
      omega
     rw[hb2] at this
     cases this
  ·rw[if_neg hp]
   simp only[true_iff]
   intro j h hle
   omega
theorem Sj (s:ByteArray):s.data.toList.all Gp=true↔∀j (h:j < s.size),Gp (s[j]'h)=true:=by
 rw[List.all_eq_true]
 constructor
 ·intro h j hj
  exact h _ (by
   have:s[j]=s.data.toList[j]'(by simpa using hj):=rfl
   rw[this]
   exact List.getElem_mem _)
 ·intro h x hx
  obtain⟨j,hj,rfl⟩:=List.getElem_of_mem hx
  exact h j (by simpa using hj)
theorem Yu (s:ByteArray):BC s=(decide (1≤s.size)&&decide (s.size≤20)&& !decide (0≤Lib.idxFunc Cg true s)):=by
 have h1:=Xs s s.size 0 (by omega)
 have h2:=Sj s
 have h3:=Lib.idxFunc_range Cg true s
 unfold BC
 congr 1
 rw[Bool.eq_iff_iff,h2]
 change Lib.idxFunc Cg true s= -1↔_ at h1
 rw[Bool.not_eq_true',decide_eq_false_iff_not]
 constructor
 ·intro h
  have:=h1.2 fun j hj _=>h j hj
  omega
 ·intro h j hj
  exact h1.1 (by omega) j hj (Nat.zero_le _)
end Go.Eng
end
noncomputable section
namespace Go.Eng
def okB (s:ByteArray)(j:Nat):Prop:=97≤Bm s j∧Bm s j≤122∨48≤Bm s j∧Bm s j≤57
theorem gv {s:ByteArray}{k:Nat}(hk:k=s.size):s.data.toList.all Gp=true↔∀j:Nat,(j:Int) < k→okB s j:=by
 unfold okB
 subst hk
 rw[Sj]
 have e:∀j (hj:j < s.size),(Gp (s[j]'hj)=true↔(97≤Bm s j∧Bm s j≤122∨48≤Bm s j∧Bm s j≤57)):=by
  intro j hj
  have e:Bm s j=((s[j]'hj).toNat:Int):=by
   unfold Bm
   have hl:j < s.data.toList.length:=by simpa using hj
   rw[List.getD_eq_getElem?_getD,List.getElem?_eq_getElem hl]
   rfl
  rw[e]
  simp only[Gp,Bool.or_eq_true,Bool.and_eq_true,decide_eq_true_eq]
  omega
 constructor
 ·intro h j hj
  exact (e j (by omega)).1 (h j (by omega))
 ·intro h j hj
  exact (e j hj).2 (h j (by omega))
def Ad (y w h n:Int):Int:=if n < w then y+n else if n < w+h then y+w else if n < 2*w+h then y+w - (n - w - h) else y
def Ac (y w h n:Int):Int:=if n < w then y else if n < w+h then y+(n - w) else if n < 2*w+h then y+h else y+h - (n - 2*w - h)
def Ab (y w h px py:Int):Int:=
 if¬(0≤px - y∧px - y≤w∧0≤py - y∧py - y≤h) then -1
 else if py - y=0 then px - y else if px - y=w then w+(py - y) else if py - y=h then w+h+(w - (px - y)) else if px - y=0 then 2*w+h+(h - (py - y)) else -1
def Bj (x lo hi:Int):Int:=if x < lo then lo else if hi < x then hi else x
def Bb (px py r:Int)(others:List (List U)):Bool:=others.all fun u=> !decide (sq px py (uI u 0) (uI u 1) < (r+uI u 2)*(r+uI u 2))
def RK (free:Int→Bool)(start many:Int):Nat→Int→Int
 |0,_=> -1
 |f+1,t=>if free ((start+t) % many)=true then (start+t) % many else if free ((start - t+many) % many)=true then (start - t+many) % many else RK free start many f (t+1)
def O7 (free:Int→Bool)(start many:Int):Int:=RK free start many (many / 2+1).toNat 0
def BX (y w h:Int):Prop:=(0≤y∧y≤1048576)∧(0 < w∧w≤4194304)∧(0 < h∧h≤4194304)
theorem LR {x lo hi:Int}(h:lo≤hi):lo≤Bj x lo hi∧Bj x lo hi≤hi:=by
 unfold Bj
 split
 ·omega
 ·split<;>omega
theorem CI {l:Ln}(h:AO l=0):BX l.yard (l.wide - 2*l.yard) (l.long - 2*l.yard)∧(65536≤l.wide∧l.wide≤4194304)∧(65536≤l.long∧l.long≤4194304)∧l.hoops.length≤12∧1≤l.hoops.length∧BN l.hoops=true∧(1≤l.pr∧l.pr≤8192):=by
 unfold AO at h
 split at h
 ·omega
 ·rename_i hm
  split at h
  ·rename_i hl
   simp only[MA,UA,Bool.and_eq_true,Bo,decide_eq_true_eq] at hl
   simp only[Jk,Bool.or_eq_true,decide_eq_true_eq,not_or] at hm
   obtain⟨⟨⟨⟨⟨⟨⟨⟨⟨⟨h1,h2⟩,h3⟩,h4⟩,h5⟩,h6⟩,h7⟩,h8⟩,h9⟩,h10⟩,h11⟩:=hl
   have hy:l.yard≤l.wide / 4∧l.yard≤l.long / 4:=by
    obtain⟨_,h4⟩:=h4
    split at h4<;>omega
   refine⟨⟨by omega,by omega,by omega⟩,by omega,by omega,by omega,by omega,h9,h5⟩
  ·omega
theorem eP {s:ByteArray}:BC s=true↔(1≤s.size∧s.size≤20∧∀j:Nat,(j:Int) < s.size→okB s j):=by
 unfold BC
 rw[Bool.and_eq_true,Bool.and_eq_true,decide_eq_true_eq,decide_eq_true_eq,gv rfl,and_assoc]
def Br (l:Ln)(ps:List (List U)):Int:=if¬AO l=0 then AO l else if B6 ps=true then 0 else 2
def NB (l:Ln):Bool:=decide (100 < l.name.size)||decide (20 < l.hoops.length)||decide (300 < l.cells.length)
def By (w h:Int)(p:List (List U))(i:Nat):Prop:=
 (AA p i 2≤AA p i 0∧AA p i 0≤w - AA p i 2)∧(AA p i 2≤AA p i 1∧AA p i 1≤h - AA p i 2)∧
  ∀q:Nat,q < i→¬sq (AA p i 0) (AA p i 1) (AA p q 0) (AA p q 1) < (AA p i 2+AA p q 2)*(AA p i 2+AA p q 2)
theorem OT {p:List (List U)}{u:List U}{k:Nat}(hk:k≤p.length):RO p u k=true↔∀q:Nat,q < k→Yw u (p.getD q [])=false:=by
 unfold RO
 rw[CX]
 have e:∀q,q < k→(p.take k).getD q []=p.getD q []:=fun q hq=>by
  rw[List.getD_eq_getElem?_getD,List.getElem?_take_of_lt hq,←List.getD_eq_getElem?_getD]
 constructor
 ·intro h q hq
  have:=h q (by rw[List.length_take];omega)
  rw[e q hq] at this
  simpa using this
 ·intro h q hq
  rw[List.length_take] at hq
  have hq':q < k:=by omega
  rw[e q hq',h q hq']
  rfl
theorem KU {w h:Int}{p:List (List U)}:Dm w h p=true↔∀i:Nat,i < p.length→By w h p i:=by
 unfold Dm By
 rw[List.all_eq_true]
 constructor
 ·intro hh i hi
  have:=hh i (List.mem_range.2 hi)
  rw[Bool.and_eq_true,OT (by omega)] at this
  obtain⟨h1,h2⟩:=this
  unfold Ua at h1
  rw[Bool.and_eq_true,Bo,Bo] at h1
  refine⟨h1.1,h1.2,fun q hq=>?_⟩
  have:=h2 q hq
  unfold Yw at this
  rw[decide_eq_false_iff_not] at this
  exact this
 ·intro hh i hi
  obtain⟨h1,h2,h3⟩:=hh i (List.mem_range.1 hi)
  have hi:=List.mem_range.1 hi
  rw[Bool.and_eq_true,OT (by omega)]
  refine⟨?_,fun q hq=>?_⟩
  ·unfold Ua
   rw[Bool.and_eq_true,Bo,Bo]
   exact⟨h1,h2⟩
  ·unfold Yw
   rw[decide_eq_false_iff_not]
   exact h3 q hq
def CJ (p:List (List U)):Bool:=p.all fun u=>Cx (uI u 2) 1 8192
theorem DX {p:List (List U)}:CJ p=true↔∀j:Nat,j < p.length→(1≤AA p j 2∧AA p j 2≤8192):=by
 unfold CJ
 rw[CX]
 constructor
 ·intro h j hj
  exact Bo.1 (h j hj)
 ·intro h j hj
  exact Bo.2 (h j hj)
theorem Pz {w h ax ay ar bx by_ br:Int}(hw:w≤4194304)(hh:h≤4194304)(ha:1≤ar∧ar≤8192)(hb:1≤br∧br≤8192)(h1:ar≤ax∧ax≤w - ar)(h2:ar≤ay∧ay≤h - ar)(h3:br≤bx∧bx≤w - br)(h4:br≤by_∧by_≤h - br):
  Cv ax ay ar bx by_ br < 0↔sq ax ay bx by_ < (ar+br)*(ar+br):=by
 unfold Cv
 rw[if_pos ⟨Af.2 (by omega),Af.2 (by omega),by omega,by omega,by omega,by omega⟩]
 have e:(bx - ax)*(bx - ax)+(by_ - ay)*(by_ - ay)=sq ax ay bx by_:=by unfold sq;grind
 rw[e]
 unfold EY
 repeat' split
 all_goals omega
theorem Ga {p:List (List U)}{n q c:Nat}(h:q < n):AA (p.take n) q c=AA p q c:=by
 unfold AA
 rw[List.getD_eq_getElem?_getD (l:=p.take n),List.getElem?_take_of_lt h,←List.getD_eq_getElem?_getD]
def IX (name:ByteArray)(wide long yard:Int)(hoops:List (List U))(px py pr nx ny:Int)(cells:List (List U)):Prop:=
 (BC name=true∧(65536≤wide∧wide≤4194304)∧(65536≤long∧long≤4194304))∧(0≤yard∧yard≤(if wide≤long then wide else long) / 4)∧
  (1≤pr∧pr≤8192)∧((1≤nx∧nx≤16)∧(1≤ny∧ny≤16)∧(cells.length:Int)=nx*ny)∧BN hoops=true∧cells.all G5=true∧Dm wide long (CS hoops px py pr)=true
theorem O5 {name wide long yard hoops px py pr nx ny cells}:MA ⟨name,wide,long,yard,hoops,px,py,pr,nx,ny,cells⟩=true↔IX name wide long yard hoops px py pr nx ny cells:=by
 unfold MA UA IX BN AN
 simp only[Bool.and_eq_true,Bo,decide_eq_true_eq]
 constructor
 ·rintro⟨⟨⟨⟨⟨⟨⟨⟨⟨⟨h1,h2⟩,h3⟩,h4⟩,h5⟩,h6⟩,h7⟩,h8⟩,h9⟩,h10⟩,h11⟩
  exact⟨⟨h1,h2,h3⟩,h4,h5,⟨h6,h7,h8⟩,h9,h10,h11⟩
 ·rintro⟨⟨h1,h2,h3⟩,h4,h5,⟨h6,h7,h8⟩,h9,h10,h11⟩
  exact⟨⟨⟨⟨⟨⟨⟨⟨⟨⟨h1,h2⟩,h3⟩,h4⟩,h5⟩,h6⟩,h7⟩,h8⟩,h9⟩,h10⟩,h11⟩
theorem SX {h:List (List U)}:h.all G5=true↔∀j:Nat,j < h.length→BT (AA h j 0) (AA h j 1) (AA h j 2)=true:=CX
theorem jG {u:List U}(h:Yh u=true):∀v∈Bv u,Cx (uI v 2) 1 8192=true:=by
 intro v hv
 have hw:=(JR.1 h).2.2.2.2
 have e:Cx (uI u 3) 1 8192=true:=Bo.2 hw
 unfold Bv IY at hv
 split at hv<;>(simp only[List.mem_cons,List.not_mem_nil,or_false] at hv;rcases hv with rfl|rfl<;>exact e)
theorem Kg {h:List (List U)}{px py pr:Int}(hh:BN h=true)(hp:1≤pr∧pr≤8192):CJ (CS h px py pr)=true:=by
 unfold CJ CS
 rw[List.all_append,Bool.and_eq_true]
 refine⟨?_,?_⟩
 ·rw[List.all_eq_true]
  intro v hv
  obtain⟨u,hu,hv⟩:=List.mem_flatMap.1 hv
  exact jG (List.all_eq_true.1 hh u hu) v hv
 ·show (Cx pr 1 8192&&true)=true
  rw[Bool.and_true]
  exact Bo.2 hp
theorem J7 {h:List (List U)}{px py pr:Int}:(CS h px py pr).length=2*h.length+1:=by
 unfold CS
 rw[List.length_append,DQ]
 rfl
theorem Y1 {h:List (List U)}{px py pr:Int}:(CS h px py pr).getD (2*h.length) []=MJ px py pr:=by
 unfold CS
 rw[List.getD_eq_getElem?_getD,List.getElem?_append_right (by rw[DQ];omega),DQ,Nat.sub_self]
 rfl
theorem aH {w l:Int}{h:List (List U)}{px py pr:Int}(hp:1≤pr)(ha:Dm w l (CS h px py pr)=true):(pr≤px∧px≤w - pr)∧(pr≤py∧py≤l - pr):=by
 have:=KU.1 ha (2*h.length) (by rw[J7];omega)
 unfold By AA at this
 rw[Y1] at this
 exact⟨this.1,this.2.1⟩
theorem VE {l:Ln}:Jk l=true↔((l.hoops.length < 1∨12 < l.hoops.length)∨256 < l.cells.length):=by
 unfold Jk
 simp only[Bool.or_eq_true,decide_eq_true_eq]
theorem aK {l:Ln}:NB l=true↔((100 < l.name.size∨20 < l.hoops.length)∨300 < l.cells.length):=by
 unfold NB
 simp only[Bool.or_eq_true,decide_eq_true_eq]
def Pb (hx hy gap wire:Int)(along fwd:Bool)(x y r:Int):Int:=
 let v:=if along=true then y - hy else x - hx
 let u:=if along=true then x - hx else y - hy
 let u:=if fwd=true then u else -u
 if gap / 2≤v∨gap / 2≤ -v then 0 else if -wire≤u - r then 3 else if wire < u+r then 2 else if -wire < u+r then 1 else 0
def Gr (l:Ln)(h x y r:Int):Int:=if¬AO l=0 then AO l else if h < 0∨l.hoops.length≤h then 3 else if¬AF x y=true then 2 else if¬Bn r=true then 3 else 0
def JH (l:Ln)(h:Int)(fwd:Bool)(x y r:Int):Int:=
 if Gr l h x y r=0 then Pb (AA l.hoops h.toNat 0) (AA l.hoops h.toNat 1) (AA l.hoops h.toNat 2) (AA l.hoops h.toNat 3) (Ll l.hoops h.toNat 4) fwd x y r else 0
theorem aO {l:Ln}{h:Int}(hc:AO l=0)(h1:0≤h)(h2:h < l.hoops.length):
  (0≤AA l.hoops h.toNat 0∧AA l.hoops h.toNat 0≤4194304)∧(0≤AA l.hoops h.toNat 1∧AA l.hoops h.toNat 1≤4194304)∧(2≤AA l.hoops h.toNat 2∧AA l.hoops h.toNat 2≤32768)∧(1≤AA l.hoops h.toNat 3∧AA l.hoops h.toNat 3≤8192):=by
 have:=JR.1 (Gc.1 (CI hc).2.2.2.2.2.1 h.toNat (by omega))
 exact⟨this.1,this.2.1,this.2.2.1,this.2.2.2.2⟩
theorem eT {hx hy gap wire:Int}{along fwd:Bool}{x y r u v w m:Int}(hv:v=if along=true then y - hy else x - hx)(hu:w=if along=true then x - hx else y - hy)(hw:u=if fwd=true then w else -w)(hm:m=if v≤ -v then -v else v):
  Pb hx hy gap wire along fwd x y r=if gap / 2≤m then 0 else if -wire≤u - r then 3 else if wire < u+r then 2 else if -wire < u+r then 1 else 0:=by
 subst hv hu hw hm
 unfold Pb
 have e:∀a:Int,(gap / 2≤a∨gap / 2≤ -a)↔gap / 2≤if a≤ -a then -a else a:=fun a=>by
  split<;>omega
 simp only[e]
def Cr (p:List (List U)):Prop:=∀j:Nat,j < p.length→AF (AA p j 0) (AA p j 1)=true∧1≤AA p j 2∧AA p j 2≤16384
theorem iG {l:Ln}(h:AO l=0):IX l.name l.wide l.long l.yard l.hoops l.px l.py l.pr l.nx l.ny l.cells:=by
 unfold AO at h
 split at h
 ·omega
 ·split at h
  ·rename_i hl
   exact O5.1 hl
  ·omega
theorem cX {l:Ln}(h:AO l=0):Cr (AN l):=by
 intro j hj
 obtain⟨⟨-,h1,h2⟩,-,h3,-,h4,-,h5⟩:=iG h
 have ha:=KU.1 h5 j hj
 have hr:=DX.1 (Kg (px:=l.px) (py:=l.py) h4 h3) j hj
 obtain⟨a1,a2,-⟩:=ha
 show AF (AA (CS l.hoops l.px l.py l.pr) j 0) (AA (CS l.hoops l.px l.py l.pr) j 1)=true∧1≤AA (CS l.hoops l.px l.py l.pr) j 2∧AA (CS l.hoops l.px l.py l.pr) j 2≤16384
 rw[Af]
 omega
theorem GX {p q:List (List U)}{j c:Nat}(h:j < p.length):AA (p++q) j c=AA p j c:=by
 unfold AA
 rw[List.getD_eq_getElem?_getD (l:=p++q),List.getElem?_append_left h,←List.getD_eq_getElem?_getD]
theorem IR {p q:List (List U)}{j c:Nat}(h:p.length≤j):AA (p++q) j c=AA q (j - p.length) c:=by
 unfold AA
 rw[List.getD_eq_getElem?_getD (l:=p++q),List.getElem?_append_right h,←List.getD_eq_getElem?_getD]
theorem aP {p q:List (List U)}(hp:Cr p)(hq:q.all Aq=true):Cr (p++q):=by
 intro j hj
 rw[List.length_append] at hj
 rcases Nat.lt_or_ge j p.length with h|h
 ·rw[GX h,GX h,GX h];exact hp j h
 ·rw[IR h,IR h,IR h];exact DB.1 (CX.1 hq (j - p.length) (by omega))
theorem R6 {ax ay bx by_ r:Int}{d:List (List U)}{i n:Int}{a b:List (List U)}(h0:0≤i)(hn:n=i+1)(ha:a=Av ax ay bx by_ r d i.toNat)
  (hb:b=if CR ax ay bx by_ (AA d i.toNat 0) (AA d i.toNat 1) (r+AA d i.toNat 2)=true then a++[[.int i]] else a):b=Av ax ay bx by_ r d n.toNat:=by
 subst hn ha hb
 rw[show (i+1).toNat=i.toNat+1 by omega]
 unfold Av
 rw[List.range_succ,List.filterMap_append]
 have e:((i.toNat:Nat):Int)=i:=by omega
 by_cases k:CR ax ay bx by_ (AA d i.toNat 0) (AA d i.toNat 1) (r+AA d i.toNat 2)=true
 ·rw[if_pos k,List.filterMap_cons_some (b:=[.int i])]
  ·rfl
  ·rw[←e]
   exact if_pos k
 ·rw[if_neg k,List.filterMap_cons_none]
  ·simp
  ·exact if_neg k
theorem MM {ax ay bx by_ r:Int}{d:List (List U)}{n:Nat}:(Av ax ay bx by_ r d n).length≤n:=by
 unfold Av
 refine Nat.le_trans (List.length_filterMap_le _ _) ?_
 rw[List.length_range]
 exact Nat.le_refl _
theorem O2 {r:Int}{others:List (List U)}(h:AT r others=0):Bn r=true∧others.length≤12∧others.all Aq=true:=by
 unfold AT at h
 grind
theorem U9 {l:Ln}{others:List (List U)}(h:AO l=0)(h1:others.length≤12)(h2:others.all Aq=true):Cr (AN l++others)∧(AN l++others).length≤37:=by
 refine⟨aP (cX h) h2,?_⟩
 have:=(CI h).2.2.2.1
 rw[List.length_append,show (AN l).length=2*l.hoops.length+1 from J7]
 omega
theorem gP {ax ay bx by_ cx cy s:Int}(h1:AF ax ay=true)(h2:AF bx by_=true)(h3:AF cx cy=true)(h4:0≤s∧s≤8388608):
  (if (AF ax ay=true∧AF bx by_=true∧AF cx cy=true)∧0≤s∧s≤8388608 then Hi ax ay bx by_ cx cy s else 0) < 0↔CR ax ay bx by_ cx cy s=true:=by
 rw[if_pos ⟨⟨h1,h2,h3⟩,h4⟩,cP]
end Go.Eng
end
noncomputable section
namespace Go.Eng
theorem Mo {free:Int→Bool}{start many:Int}:∀(k f:Nat) (t:Int),(∀j:Nat,j < k→free ((start+(t+j)) % many)=false∧free ((start - (t+j)+many) % many)=false)→
  RK free start many (f+k) t=RK free start many f (t+k)
 |0,f,t,_=>by simp
 |k+1,f,t,h=>by
  have h0:=h 0 (by omega)
  simp only[Int.natCast_zero,Int.add_zero] at h0
  rw[show f+(k+1)=(f+k)+1 by omega]
  show (if free ((start+t) % many)=true then (start+t) % many else if free ((start - t+many) % many)=true then (start - t+many) % many else RK free start many (f+k) (t+1))=_
  rw[if_neg (by rw[h0.1];exact Bool.false_ne_true),if_neg (by rw[h0.2];exact Bool.false_ne_true),Mo k f (t+1) fun j hj=>by
   have:=h (j+1) (by omega)
   rw[show t+((j+1:Nat):Int)=t+1+j by omega] at this
   exact this]
  rw[show t+1+(k:Int)=t+((k+1:Nat):Int) by omega]
def Cn (free:Int→Bool)(start many t:Int):Prop:=∀j:Nat,(j:Int) < t→free ((start+j) % many)=false∧free ((start - j+many) % many)=false
theorem Q8 {free:Int→Bool}{start many t:Int}(h0:0≤t)(h1:t≤many / 2)(h:Cn free start many t):
  O7 free start many=if free ((start+t) % many)=true then (start+t) % many else if free ((start - t+many) % many)=true then (start - t+many) % many else RK free start many ((many / 2+1).toNat - t.toNat - 1) (t+1):=by
 unfold O7
 rw[show (many / 2+1).toNat=((many / 2+1).toNat - t.toNat - 1+1)+t.toNat by omega,Mo t.toNat _ 0 fun j hj=>by rw[Int.zero_add];exact h j (by omega)]
 rw[show (0:Int)+(t.toNat:Int)=t by omega]
 rw[show (many / 2+1).toNat - t.toNat - 1+1+t.toNat - t.toNat - 1=(many / 2+1).toNat - t.toNat - 1 by omega]
 rfl
theorem Rd {free:Int→Bool}{start many t:Int}(h1:many / 2 < t)(h:Cn free start many t):O7 free start many= -1:=by
 unfold O7
 have:=Mo (free:=free) (start:=start) (many:=many) (many / 2+1).toNat 0 0 fun j hj=>by rw[Int.zero_add];exact h j (by omega)
 rw[Nat.zero_add] at this
 rw[this]
 rfl
theorem Rt {free:Int→Bool}{start many t u:Int}(hu:u=t+1)(h0:0≤t)(h:Cn free start many t)(h1:free ((start+t) % many)=false)(h2:free ((start - t+many) % many)=false):Cn free start many u:=by
 intro j hj
 by_cases k:(j:Int) < t
 ·exact h j k
 ·obtain rfl:(j:Int)=t:=by omega
  exact⟨h1,h2⟩
theorem Xl {y w h px py:Int}(hw:0 < w)(hh:0 < h):Ab y w h px py < 2*(w+h)∧ -1≤Ab y w h px py:=by
 unfold Ab
 repeat' split
 all_goals omega
theorem QN {y w h px py qx qy:Int}(hw:0 < w)(hh:0 < h)(ex:qx=Bj px y (y+w))(ey:qy=Bj py y (y+h))(hn:¬(qx=px∧qy=py)):0≤Ab y w h qx qy:=by
 unfold Bj at ex ey
 unfold Ab
 grind
theorem Ns {y w h n:Int}(hd:BX y w h)(h0:0≤n)(h1:n < 2*(w+h)):(y≤Ad y w h n∧Ad y w h n≤y+w)∧(y≤Ac y w h n∧Ac y w h n≤y+h):=by
 obtain⟨⟨d1,d2⟩,⟨d3,d4⟩,d5,d6⟩:=hd
 unfold Ad Ac
 refine⟨⟨?_,?_⟩,?_,?_⟩<;>(repeat' split)<;>omega
theorem Rr {x lo hi m:Int}(h:lo≤hi)(hm:m=if x≤hi then x else hi):(if lo≤m then m else lo)=Bj x lo hi:=by
 subst hm;unfold Bj;repeat' split
 all_goals omega
def Fq (l:Ln)(x:Int):Int:=Bj x l.yard (l.wide - l.yard)
def Fs (l:Ln)(y:Int):Int:=Bj y l.yard (l.long - l.yard)
def Aw (y w h r:Int)(others:List (List U))(n:Int):Bool:=Bb (Ad y w h n) (Ac y w h n) r others
def Dp (y w h qx qy r:Int)(others:List (List U)):Int:=O7 (Aw y w h r others) (Ab y w h qx qy) (2*(w+h))
def C8 (l:Ln)(x y r:Int)(others:List (List U)):Int:=
 if¬A7 l x y=0 then A7 l x y else if¬AT r others=0 then AT r others
 else if (Fq l x=x∧Fs l y=y)∧Ab l.yard (l.wide - 2*l.yard) (l.long - 2*l.yard) x y < 0 then 5
 else if Dp l.yard (l.wide - 2*l.yard) (l.long - 2*l.yard) (Fq l x) (Fs l y) r others < 0 then 15 else 0
def G3 (l:Ln)(x y r:Int)(others:List (List U)):Int:=
 if C8 l x y r others=0 then Ad l.yard (l.wide - 2*l.yard) (l.long - 2*l.yard) (Dp l.yard (l.wide - 2*l.yard) (l.long - 2*l.yard) (Fq l x) (Fs l y) r others) else 0
def HB (l:Ln)(x y r:Int)(others:List (List U)):Int:=
 if C8 l x y r others=0 then Ac l.yard (l.wide - 2*l.yard) (l.long - 2*l.yard) (Dp l.yard (l.wide - 2*l.yard) (l.long - 2*l.yard) (Fq l x) (Fs l y) r others) else 0
theorem chk1 {l:Ln}{x y:Int}:Br l [[.int x,.int y]]=A7 l x y:=by
 unfold Br A7
 rw[TF]
theorem SN {x lo hi m:Int}(h:lo≤hi)(hm:m=if x≤lo then lo else x):(if m≤hi then m else hi)=Bj x lo hi:=by
 subst hm;unfold Bj;repeat' split
 all_goals omega
theorem UJ {px py r:Int}{others:List (List U)}:Bb px py r others=true↔∀j:Nat,j < others.length→¬sq px py (AA others j 0) (AA others j 1) < (r+AA others j 2)*(r+AA others j 2):=by
 unfold Bb
 rw[CX]
 constructor
 ·intro h j hj
  have:=h j hj
  rw[Bool.not_eq_true',decide_eq_false_iff_not] at this
  exact this
 ·intro h j hj
  rw[Bool.not_eq_true',decide_eq_false_iff_not]
  exact h j hj
section
variable {l:Ln}{x y r yd w h qx qy:Int}{others:List (List U)}(e1:l.yard=yd)(e2:l.wide - 2*l.yard=w)(e3:l.long - 2*l.yard=h)(e4:Fq l x=qx)(e5:Fs l y=qy)
include e1 e2 e3 e4 e5
theorem RT (h1:A7 l x y=0)(h2:AT r others=0):C8 l x y r others=if (qx=x∧qy=y)∧Ab yd w h x y < 0 then 5 else if Dp yd w h qx qy r others < 0 then 15 else 0:=by
 subst e1 e2 e3 e4 e5
 unfold C8
 rw[if_neg (by simp[h1]),if_neg (by simp[h2])]
theorem Qs:G3 l x y r others=if C8 l x y r others=0 then Ad yd w h (Dp yd w h qx qy r others) else 0:=by
 subst e1 e2 e3 e4 e5
 rfl
theorem RC:HB l x y r others=if C8 l x y r others=0 then Ac yd w h (Dp yd w h qx qy r others) else 0:=by
 subst e1 e2 e3 e4 e5
 rfl
end
theorem UK {l:Ln}{x y r:Int}{others:List (List U)}(h:¬(A7 l x y=0∧AT r others=0)):C8 l x y r others=(if¬A7 l x y=0 then A7 l x y else AT r others)∧¬C8 l x y r others=0:=by
 unfold C8
 by_cases h1:A7 l x y=0
 ·by_cases h2:AT r others=0
  ·exact absurd ⟨h1,h2⟩ h
  ·rw[if_neg (by simp[h1]),if_pos h2,if_neg (by simp[h1])]
   exact⟨rfl,h2⟩
 ·rw[if_pos h1,if_pos h1]
  exact⟨rfl,h1⟩
end Go.Eng
end
noncomputable section
namespace Go.Eng
open Go
def exH:List (List U):=[[.int 50000,.int 40000,.int 6000,.int 500,.bool false],[.int 30000,.int 100000,.int 6000,.int 500,.bool true]]
def exC:List (List U):=[[.int 100,.int 0,.int 0],[.int 200,.int 5,.int (-5)]]
def exL:Ln:=⟨⟨#[103,114,101,101,110]⟩,100000,200000,5000,exH,50000,100000,1200,2,1,exC⟩
theorem ic:E3 exL 49900 30000 49900 50000 2946 []=[[.int 0]]∧Cf exL 49900 30000 49900 50000 2946 []=0:=⟨by kernel_rfl,by kernel_rfl⟩
theorem dl:JH exL 0 true 50000 42446 2946=3∧Gr exL 0 50000 42446 2946=0:=⟨by kernel_rfl,by kernel_rfl⟩
def exD:List (List U):=[[.int 5000,.int 70000,.int 2946]]
theorem Qp (n:Int)(h1:370000≤n)(h2:n < 560000):Aw 5000 90000 190000 2946 exD n= !decide ((495000 - n)*(495000 - n) < 34715664):=by
 unfold Aw
 have hx:Ad 5000 90000 190000 n=5000:=by unfold Ad;rw[if_neg (by omega),if_neg (by omega),if_neg (by omega)]
 have hy:Ac 5000 90000 190000 n=70000+(495000 - n):=by unfold Ac;rw[if_neg (by omega),if_neg (by omega),if_neg (by omega)];omega
 rw[hx,hy]
 show (!decide (sq 5000 (70000+(495000 - n)) 5000 70000 < (2946+2946)*(2946+2946))&&true)=_
 rw[Bool.and_true]
 have e:sq 5000 (70000+(495000 - n)) 5000 70000=(495000 - n)*(495000 - n):=by unfold sq;grind
 rw[e]
 rfl
theorem Qx:Dp 5000 90000 190000 5000 70000 2946 exD=500892:=by
 unfold Dp
 have hs:Ab 5000 90000 190000 5000 70000=495000:=by kernel_rfl
 rw[hs,show (2:Int)*(90000+190000)=560000 by decide]
 have hn:Cn (Aw 5000 90000 190000 2946 exD) 495000 560000 5892:=by
  intro j hj
  have e1:((495000:Int)+j) % 560000=495000+j:=by omega
  have e2:((495000:Int) - j+560000) % 560000=495000 - j:=by omega
  rw[e1,e2,Qp _ (by omega) (by omega),Qp _ (by omega) (by omega)]
  have hq:(j:Int)*j < 34715664:=by
   have:=Int.mul_le_mul (a:=(j:Int)) (b:=j) (c:=5891) (d:=5891) (by omega) (by omega) (by omega) (by omega)
   omega
  rw[show (495000:Int) - (495000+j)= -j by omega,show (495000:Int) - (495000 - j)=j by omega,Int.neg_mul_neg]
  simp[hq]
 rw[Q8 (by decide) (by decide) hn]
 have e1:((495000:Int)+5892) % 560000=500892:=by decide
 rw[e1,Qp _ (by decide) (by decide)]
 rfl
theorem jJ:G3 exL 1000 70000 2946 exD=5000∧HB exL 1000 70000 2946 exD=64108∧C8 exL 1000 70000 2946 exD=0:=by
 have h4:Fq exL 1000=5000:=by kernel_rfl
 have h5:Fs exL 70000=70000:=by kernel_rfl
 have h1:A7 exL 1000 70000=0:=by kernel_rfl
 have h2:AT 2946 exD=0:=by kernel_rfl
 have hE:C8 exL 1000 70000 2946 exD=0:=by
  rw[RT (yd:=5000) (w:=90000) (h:=190000) rfl (by kernel_rfl) (by kernel_rfl) h4 h5 h1 h2,Qx]
  rfl
 refine⟨?_,?_,hE⟩
 ·rw[Qs (yd:=5000) (w:=90000) (h:=190000) rfl (by kernel_rfl) (by kernel_rfl) h4 h5,hE,Qx]
  kernel_rfl
 ·rw[RC (yd:=5000) (w:=90000) (h:=190000) rfl (by kernel_rfl) (by kernel_rfl) h4 h5,hE,Qx]
  kernel_rfl
end Go.Eng
end
