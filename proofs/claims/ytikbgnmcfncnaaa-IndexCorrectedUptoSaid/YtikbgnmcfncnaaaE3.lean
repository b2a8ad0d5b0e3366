/-
  A part of the proof: the evaluator of code and its soundness.
-/
import Derived.Test.YtikbgnmcfncnaaaE2
import Derived.Scope
import Derived.Deep.Slices
import Derived.OpenShut
import Derived.Below
set_option linter.unusedVariables false
set_option linter.unusedSimpArgs false
noncomputable section
namespace Go.Eng
section
open Go Go.RowKit
section
variable {am:QC}{aY:Bool}{tg:List Tmp}{P:Program}{T:Tab}{call:CM}{an:Ys}{r:Option Nat}{al:Nat}{Z:Array Oper}{ae:PC}
variable{k j:Nat}{D:List (Tmp × Nat)}{o:Oper}
theorem ip {m:Mem}(h:k≠2\/MJ tg=none):JE tg k m=m:=by
 unfold JE;cases d:MJ tg with
 |none=>rfl
 |some n=>
  simp only;rcases h with h|h
  .have:Nat.beq k 2=false:=by
    cases p:Nat.beq k 2 with
    |false=>rfl
    |true=>exact absurd (yI p) h
   rw[this];rfl
  .rw[d] at h;cases h
theorem Jr {S:DS}{ok:Nat->Bool}{R:Nat}{C6:List Tmp}{aq:RS}(h:Cu P call an Z ae { S.masked D ok R C6 with mem:=JE tg k S.mem } o=some aq)(d:k≠2\/MJ tg=none):Cu P call an Z ae (S.masked D ok R C6) o=some aq:=by
 rw[ip d] at h;exact h
theorem Ev {R:Nat}{S S':DS}{p:List (Tmp × Nat)}{M:List Nat}(h:WY am aY tg P call an Z D p M ae R j o S=some S'):
  ∃aq c,Cu P call an Z ae { S.masked D (okG M R j) R (CD Z o) with mem:=JE tg (Bd am p o) S.mem } o=some aq/\S'=⟨EL S.tmps o.dst c,if Nat.ble 3 (Bd am p o) then (if Nat.beq (Bd am p o) 4 then TJ tg o.dst S.mem aq.mem else aq.mem) else S.mem,aq.g,(H6 aq (Is R S.gls).length).map (fun e=>(j,e))++S.gls⟩/\
   (∀d,o.dst=some d->c=(aq.tmps.get d).getD .any)/\(Bd am p o=3->aY=false->Cx S.mem aq.mem=true)/\(Bd am p o=0->AC.nlt aq.g.n c=true/\Zz S.g.n (S.masked D (okG M R j) R (CD Z o)).tmps o c=true/\lZ tg (S.masked D (okG M R j) R (CD Z o)).tmps o=true)/\
   (aY=true->Bd am p o < 2->∀d aO,o.dst=some d->S'.tmps.get d=some aO->AC.noVec aO=true\/mc R j=true)/\
   (∀e∈H6 aq (Is R S.gls).length,e∈aq.gl/\R.testBit e.j=true)/\(Bd am p o=4->∃d,o.dst=some d/\d < S.tmps.n)/\
   (Bd am p o=2->CS o.op=true\/((∀id,(JE tg (Bd am p o) S.mem).at id≠ .pad->aq.mem.at id=(JE tg (Bd am p o) S.mem).at id)/\(AC.free c=true\/∀id,aq.mem.at id≠ .pad->(JE tg (Bd am p o) S.mem).at id≠ .pad)))/\
   (∀n,MJ tg=some n->aY=true/\Bd am p o < 4/\(Bd am p o=3->n<=S.mem.length/\ID (S.mem.take n) aq.mem=true)/\(Bd am p o=2->Z3 an (S.masked D (okG M R j) R (CD Z o)).tmps o=true/\∀d aO,o.dst=some d->S'.tmps.get d=some aO->AC.noVec aO=true)):=by
 unfold WY at h;simp only[AD,AA] at h;obtain⟨aq,aa,h⟩:=h;rw[Option.ite_none_right_eq_some] at h;obtain⟨hX,h⟩:=h
 .injection h with h
  rw[AB,AB,AB,AB,AB] at hX;obtain⟨⟨⟨O,⟨C,Y⟩,h4⟩,z⟩,N⟩:=hX;have a9:S'.tmps=EL S.tmps o.dst (HU aq.tmps o.dst):=by rw[<-h]
  refine⟨aq,_,aa,h.symm,fun d hd=>by rw[hd];rfl,fun u hm=>?_,fun u=>?_,fun hm u d aO hd y=>?_,fun e he=>⟨List.mem_of_mem_take he,Ae.1 O e he⟩,fun u=>?_,fun u=>?_,fun n hn=>?_⟩
  .rw[u,hm] at C;exact C
  .rw[u] at C;have a3:(AC.nlt aq.g.n (HU aq.tmps o.dst)&&(Zz S.g.n (S.masked D (okG M R j) R (CD Z o)).tmps o (HU aq.tmps o.dst)&&lZ tg (S.masked D (okG M R j) R (CD Z o)).tmps o))=true:=C;rw[AB,AB] at a3;exact a3
  .have hb:Nat.ble 2 (Bd am p o)=false:=by
    cases hx:Nat.ble 2 (Bd am p o) with
    |false=>rfl
    |true=>have:=Aa hx;omega
   rw[hm,hb] at Y;simp only[Bool.not_true,Bool.or_self,Bool.false_or,Ah] at Y;rw[a9] at y;rw[hd] at Y y;simp only[HU] at Y;simp only[HU] at y;rw[y] at Y;exact Y
  .rw[u] at h4;rw[show Nat.beq 4 4=true from rfl,Bool.not_true,Bool.false_or] at h4;cases hd:o.dst with
   |none=>rw[hd] at h4;exact absurd h4 (by simp)
   |some d=>
    rw[hd] at h4;exact⟨d,rfl,Em h4⟩
  .rw[show Nat.beq (Bd am p o) 2=true by rw[u];rfl,Bool.not_true,Bool.false_or,Ah] at z;rcases z with z|z
   .exact .inl z
   .right;rw[AB,Ah] at z;obtain⟨k1,E⟩:=Gn z.1;have bl:∀id,(JE tg (Bd am p o) S.mem).at id≠ .pad->id < (JE tg (Bd am p o) S.mem).length:=fun id hp=>by
     rcases AQ id (JE tg (Bd am p o) S.mem).length with h|h
     .exact h
     .exact absurd (Mem.at_ge h) hp
    refine⟨fun id hp=>E id (bl id hp),z.2.symm.imp (fun h=>h) fun N id hp=>?_⟩;have hl:=yI N;have bt:id < aq.mem.length:=by
     rcases AQ id aq.mem.length with h|h
     .exact h
     .exact absurd (Mem.at_ge h) hp
    rw[<-E id (by omega)];exact hp
  .unfold ni at N;rw[hn] at N;simp only at N;rw[AB,AB] at N;obtain⟨⟨g1,aw⟩,X⟩:=N;refine⟨g1,Em aw,fun u=>?_,fun u=>?_⟩
   .rw[BH (by rw[u];rfl),AB] at X;exact⟨Aa X.1,X.2⟩
   .rw[BG (by rw[u];decide),BH (by rw[u];rfl),AB] at X;refine⟨X.1,fun d aO hd y=>?_⟩;have g4:=X.2;rw[a9] at y;rw[hd] at g4 y;simp only[HU] at g4;simp only[HU] at y;rw[y] at g4;exact g4
theorem Xn:∀{m:Mem} {n id:Nat},Mem.at (m.take n) id≠ .pad->Mem.at (m.take n) id=m.at id
 |[],n,id,h=>by simp
 |b::m,0,id,h=>by simp[Mem.at] at h
 |b::m,n+1,0,h=>by simp[Mem.at]
 |b::m,n+1,id+1,h=>by
  have d:Mem.at (m.take n) id≠ .pad:=by simpa [Mem.at] using h
  have:=Xn d;simpa [Mem.at] using this
theorem m7 {R i:Nat}(h:mc R j=true)(ab:i < j):R.testBit i=true:=by
 have C:R+1=2 ^ j:=yI h;have:R=2 ^ j - 1:=by omega
 grind
structure C7 (qc:QC) (md:Bool) (tg:List Tmp) (P:Program) (T:Tab) (call:CM) (ys:Ys) (ops:Array Oper) (pc:PC) (S:Nat->DS):Prop where
 step:∀j o,ops[j]? =some o->∃R,(Bx ops.toList [])[j]? =some R/\WY qc md tg P call ys ops (Ck 0 ops.toList) (By 0 ops.toList) (Bx ops.toList []) pc R j o (S j)=some (S (j+1))
 masks:Hz (Bx ops.toList []) 0=true
 nodup:Ij (ops.toList.filterMap (·.dst))=true
 ord:∀(i:Nat) (o:Oper) (R:Nat),ops[i]? =some o->(Bx ops.toList [])[i]? =some R->∀j oj,ops[j]? =some oj->j < i->
  (Bd qc (By 0 ops.toList) o=3->R.testBit j=true\/Bd qc (By 0 ops.toList) oj=0)/\(Bd qc (By 0 ops.toList) o=2->R.testBit j=true\/Bd qc (By 0 ops.toList) oj<=2\/(MJ tg).isSome=true/\Bd qc (By 0 ops.toList) oj<=3)
 wide:∀(i:Nat) (o:Oper) (R:Nat),ops[i]? =some o->(Bx ops.toList [])[i]? =some R->Bd qc (By 0 ops.toList) o≠0->Bd qc (By 0 ops.toList) o≠4->∀j oj,ops[j]? =some oj->j < i->Bd qc (By 0 ops.toList) oj=4->R.testBit j=true->
  ∀m om,ops[m]? =some om->m < j->R.testBit m=true\/Bd qc (By 0 ops.toList) om=0
 call:∀T,Dj P T call
 ys:ES P T.lp ys
 gl0:(S 0).gls=[]
variable {S:Nat->DS}
theorem C7.op {j:Nat}(d:j < Z.size):∃o,Z[j]? =some o:=⟨_,yO d⟩
structure xM (S S':DS):Prop where
 grow:Bo S.g S'.g
 len:S'.tmps.n=S.tmps.n
 gls:∀p∈S.gls,p∈S'.gls
theorem C7.later (H:C7 am aY tg P T call an Z ae S)(i:Nat):∀k,i+k<=Z.size->xM (S i) (S (i+k))/\
  (∀t,(∀j o,i<=j->j < i+k->Z[j]? =some o->o.dst≠some t)->(S (i+k)).tmps.get t=(S i).tmps.get t)/\
  ((∀j o,i<=j->j < i+k->Z[j]? =some o->Bd am (By 0 Z.toList) o < 3)->(S (i+k)).mem=(S i).mem)
 |0,_=>⟨⟨Bo.refl _,rfl,fun _ h=>h⟩,fun _ _=>rfl,fun _=>rfl⟩
 |k+1,hk=>by
  obtain⟨O,C,N⟩:=H.later i k (by omega);obtain⟨o,u⟩:=C7.op (Z:=Z) (j:=i+k) (by omega);obtain⟨R,hR,aa⟩:=H.step (i+k) o u;obtain⟨aq,c,E,d,a3,aw,a5,a7,a1,a9,bb,-⟩:=Ev aa;obtain⟨M,_⟩:=Nv (r:=none) (al:=0) (H.call T) H.ys E;have e:S (i+(k+1))=S (i+k+1):=rfl;refine⟨⟨?_,?_,?_⟩,fun t z=>?_,fun y=>?_⟩
  .rw[e,d];exact O.grow.trans M
  .rw[e,d];simp only;rw[<-O.len,IU]
  .intro p Y;rw[e,d];exact AO _ (O.gls p Y)
  .rw[e,d];simp only;rw[<-C t (fun j o O C=>z j o O (by omega))];exact T5 _ _ (z (i+k) o (by omega) (by omega) u)
  .rw[e,d];have bl:=y (i+k) o (by omega) (by omega) u;have X:Nat.ble 3 (Bd am (By 0 Z.toList) o)=false:=by
    cases hx:Nat.ble 3 (Bd am (By 0 Z.toList) o) with
    |false=>rfl
    |true=>have:=Aa hx;omega
   simp only[X];exact N fun j o O C=>y j o O (by omega)
theorem C7.gls (H:C7 am aY tg P T call an Z ae S):∀k,k<=Z.size->∀p∈(S k).gls,p.1 < k/\p∈(S (p.1+1)).gls
 |0,_,p,hp=>by rw[H.gl0] at hp;cases hp
 |k+1,hk,p,hp=>by
  obtain⟨o,u⟩:=C7.op (Z:=Z) (j:=k) (by omega);obtain⟨R,hR,aa⟩:=H.step k o u;obtain⟨aq,c,C,d,E,M,N,Y,X,ab,a9,-⟩:=Ev aa;have y:=hp;rw[d] at hp;rcases Ap.1 hp with O|O
  .obtain⟨e,he,rfl⟩:=BL.1 O;exact⟨Nat.lt_succ_self _,y⟩
  .obtain⟨q1,z⟩:=H.gls k (by omega) p O;exact⟨by omega,z⟩
theorem C7.keep (H:C7 am aY tg P T call an Z ae S){n:Nat}(p:MJ tg=some n)(i:Nat):∀k,i+k<=Z.size->∀id,Mem.at ((S (i+k)).mem.take n) id≠ .pad->(S i).mem.at id=Mem.at ((S (i+k)).mem.take n) id
 |0,_,id,hp=>by
  rw[Nat.add_zero] at hp⊢;exact (Xn hp).symm
 |k+1,hk,id,hp=>by
  obtain⟨o,X⟩:=C7.op (Z:=Z) (j:=i+k) (by omega);obtain⟨R,hR,aa⟩:=H.step (i+k) o X;obtain⟨aq,c,a1,u,a3,aw,a5,a7,a2,a9,bb,z⟩:=Ev aa;obtain⟨b1,b2,C,b4⟩:=z n p;have e:(S (i+(k+1)))=S (i+k+1):=rfl;rw[e] at hp⊢;by_cases y:Bd am (By 0 Z.toList) o=3
  .obtain⟨aS,M⟩:=C y;have d:(S (i+k+1)).mem=aq.mem:=by rw[u,y];rfl
   obtain⟨k1,E⟩:=Gn M;have bs:id < n:=by
    rcases AQ id n with h|h
    .exact h
    .exact absurd (Mem.at_ge (by rw[Ao];omega)) hp
   have O:Mem.at ((S (i+k+1)).mem.take n) id=Mem.at ((S (i+k)).mem.take n) id:=by
    rw[Xn hp,d];exact E id (by rw[Ao];omega)
   rw[O] at hp⊢;exact H.keep p i k (by omega) id hp
  .have d:(S (i+k+1)).mem=(S (i+k)).mem:=by
    have N:Nat.ble 3 (Bd am (By 0 Z.toList) o)=false:=by
     cases Y:Nat.ble 3 (Bd am (By 0 Z.toList) o) with
     |false=>rfl
     |true=>have:=Aa Y;omega
    rw[u];simp only[N];rfl
   rw[d] at hp⊢;exact H.keep p i k (by omega) id hp
theorem C7.keep2 (H:C7 am aY tg P T call an Z ae S){n:Nat}(C:MJ tg=some n)(i:Nat){id:Nat}(z:id < n)(ab:(S i).mem.at id≠ .pad):∀k,i+k<=Z.size->(S (i+k)).mem.at id=(S i).mem.at id
 |0,_=>rfl
 |k+1,hk=>by
  have p:=C7.keep2 H C i z ab k (by omega);obtain⟨o,Y⟩:=C7.op (Z:=Z) (j:=i+k) (by omega);obtain⟨R,hR,aa⟩:=H.step (i+k) o Y;obtain⟨aq,c,a1,u,a3,a5,a7,bb,a9,bi,bl,M⟩:=Ev aa;obtain⟨b1,b2,N,b4⟩:=M n C;have e:(S (i+(k+1)))=S (i+k+1):=rfl;rw[e];by_cases y:Bd am (By 0 Z.toList) o=3
  .obtain⟨aS,O⟩:=N y;have d:(S (i+k+1)).mem=aq.mem:=by rw[u,y];rfl
   obtain⟨k1,E⟩:=Gn O;have ht:Mem.at ((S (i+k)).mem.take n) id=(S (i+k)).mem.at id:=by
    unfold Mem.at;rw[BB,BH z]
   have hl:id < (S (i+k)).mem.length:=by
    rcases AQ id (S (i+k)).mem.length with h|h
    .exact h
    .have:=Mem.at_ge h;rw[p] at this;exact absurd this ab
   rw[d,<-p,<-ht];exact E id (by rw[Ao];omega)
  .have d:(S (i+k+1)).mem=(S (i+k)).mem:=by
    have X:Nat.ble 3 (Bd am (By 0 Z.toList) o)=false:=by
     cases hx:Nat.ble 3 (Bd am (By 0 Z.toList) o) with
     |false=>rfl
     |true=>have:=Aa hx;omega
    rw[u];simp only[X];rfl
   rw[d,p]
def Pd (am:QC)(Z:Array Oper)(V:Array Bool)(q:Nat)(A:Nat->Nat)(b:Nat):Prop:=
 ∃i o,Z[i]? =some o/\Bd am (By 0 Z.toList) o=4/\V.getD i false=true/\q<=i/\A i=b
def frO (am:QC)(T:Tab)(Z:Array Oper)(V:Array Bool)(q:Nat)(A:Nat->Nat):Nat->Nat->Prop:=fun b off=>T.fr b off/\¬Pd am Z V q A b
structure C8 (qc:QC) (P:Program) (T:Tab) (ops:Array Oper) (S:Nat->DS) (ρ0:Nat->Option Nat) (w0:World) (A:Nat->Nat) (q:Nat) (listed:Array Bool) (ρ :Nat->Option Nat) (a:Act) (w:World):Prop where
 size:listed.size=ops.size
 closed:Pz ops listed
 qle:q<=ops.size
 base:∀j o,j < q->ops[j]? =some o->listed.getD j false=true\/Bd qc (By 0 ops.toList) o=0
 mlist:∀j o,ops[j]? =some o->Bd qc (By 0 ops.toList) o=3->(listed.getD j false=true↔j < q)
 defers:FK T.base ρ (S q).mem w a.defers
 asize:a.tmps.size=(S 0).tmps.n
 mem:BX (T.wf (frO qc T ops listed q A)) (S q).g.n ρ (S q).mem w
 init:∀t c,(S 0).tmps.get t=some c->(∀i o,ops[i]? =some o->o.dst=some t->listed.getD i false=false)->BQ (T.wf (frO qc T ops listed q A)) (S 0).g.n ρ (S q).mem w c (a.tmps.getD t undef)
 facts:∀i o d c,listed.getD i false=true->ops[i]? =some o->o.dst=some d->(S (i+1)).tmps.get d=some c->(Bd qc (By 0 ops.toList) o=4->i < q)->BQ (T.wf (frO qc T ops listed q A)) (S (i+1)).g.n ρ (S q).mem w c (a.tmps.getD d undef)
 gfacts:∀p∈(S ops.size).gls,listed.getD p.1 false=true->HX T ops (S (p.1+1)).g.n a p.2/\listed.getD p.2.j false=true
 pend:∀i o,ops[i]? =some o->Bd qc (By 0 ops.toList) o=4->listed.getD i false=true->q<=i->w0.heap.size<=A i/\(∀id,((S q).mem.at id).tracked=true-> ρ id≠some (A i))/\
  (∀d,o.dst=some d->a.tmps.getD d undef= .pointer (some ⟨A i,0,none⟩))/\∃t l vs,o.op= .alloc t/\(S (i+1)).mem=(S i).mem++[.cells l t]/\w.heap[A i]? =some (.cells (vs:List Value).toArray t (0,0))/\∀(T:Tab) (n:Nat) (ρ :Nat->Option Nat) (m:Mem) (w:World),BR T n ρ m w l vs
 inj:∀i j oi oj,ops[i]? =some oi->ops[j]? =some oj->Bd qc (By 0 ops.toList) oi=4->Bd qc (By 0 ops.toList) oj=4->listed.getD i false=true->listed.getD j false=true->q<=i->q<=j->A i=A j->i=j
 st:BY T (S 0).g.n ρ0 (S 0).mem w0 ρ (S q).mem w
variable {aX:Nat->Option Nat}{aH:World}{A:Nat->Nat}{q:Nat}{V:Array Bool}{W :Nat->Option Nat}{a:Act}{w:World}
variable{c:AC}{F:Nat->Nat->Prop}{e:GE}
theorem C8.val (H:C7 am aY tg P T call an Z ae S)(I:C8 am P T Z S aX aH A q V W a w){k:Nat}(hk:k<=Z.size){t:Nat}(d:(S k).tmps.get t=some c)
  (Y:∀i o,Z[i]? =some o->o.dst=some t->(V.getD i false=true/\i < k/\(Bd am (By 0 Z.toList) o=4->i < q))\/V.getD i false=false/\k<=i):BQ (T.wf (frO am T Z V q A)) (S k).g.n W (S q).mem w c (a.tmps.getD t undef):=by
 by_cases z:∃i o,Z[i]? =some o/\o.dst=some t/\i < k
 .obtain⟨i,o,p,hd,ab⟩:=z;rcases Y i o p hd with⟨O,_,M⟩|⟨_,C⟩
  .obtain⟨af,aj,_⟩:=H.later (i+1) (k - (i+1)) (by omega);rw[show i+1+(k - (i+1))=k by omega] at af aj;have:=aj t (fun j E N X y u=>by
    have:=E4 H.nodup p y hd u;omega)
   rw[this] at d;exact (I.facts i o t c O p hd d M).up0 af.grow.n
  .omega
 .obtain⟨af,aj,_⟩:=H.later 0 k (by omega);rw[AM] at af aj;have:=aj t (fun j E N X y u=>z ⟨j,E,y,u,by omega⟩);rw[this] at d;refine (I.init t c d fun i o p hd=>?_).up0 af.grow.n;grind
theorem KV (D:List (Tmp × Nat))(ok:Nat->Bool)(s:Bn):∀(l:List Tmp) (t:Tmp) (c:AC),CY (DE D ok s l) t=some c->t∈l
 |[],_,_,h=>by simp[DE,CY] at h
 |x::r,t,c,h=>by
  have u:∀aO:AC,CY ((x,aO)::DE D ok s r) t=some c->t∈x::r:=fun aO h=>by
   by_cases e:t=x
   .rw[e];exact AN
   .refine AK _ (KV D ok s r t c ?_);have y:Nat.beq x t=false:=by
     cases z:Nat.beq x t with
     |false=>rfl
     |true=>exact absurd (yI z).symm e
    change (bif Nat.beq x t then some aO else CY (DE D ok s r) t)=some c at h;rw[y] at h;exact h
  simp only[DE] at h;cases d:s.get x with
  |none=>rw[d] at h;exact AK _ (KV D ok s r t c h)
  |some aO=>
   rw[d] at h;simp only at h;cases p:DO D x with
   |none=>rw[p] at h;exact u aO (by simpa using h)
   |some i=>
    rw[p] at h;simp only at h;split at h
    .exact u aO h
    .exact AK _ (KV D ok s r t c h)
theorem j8 {S:DS}{D:List (Tmp × Nat)}{ok:Nat->Bool}{R:Nat}{C6:List Tmp}{t:Tmp}(h:(S.masked D ok R C6).tmps.get t=some c):t∈C6:=by
 simp only[DS.masked,Bn.get] at h;cases p:CY (DE D ok S.tmps C6) t with
 |none=>rw[p] at h;simp[Tr.get] at h
 |some d=>exact KV _ _ _ _ _ _ p
theorem HX.wf {n:Nat}(h:HX T Z n a e):HX (T.wf F) Z n a e:=⟨h.lt,h.bool,h.iff,h.imp,h.ne⟩
theorem HX.un {n:Nat}(h:HX (T.wf F) Z n a e):HX T Z n a e:=⟨h.lt,h.bool,h.iff,h.imp,h.ne⟩
theorem C8.masked {C6:List Tmp}(H:C7 am aY tg P T call an Z ae S)(I:C8 am P T Z S aX aH A q V W a w){j R:Nat}{g:G}(hj:j < Z.size)(a9:V.getD j false=false)(hR:(Bx Z.toList [])[j]? =some R)(X:∀i,R.testBit i=true->V.getD i false=true)
  (a1:∀t i y,t∈C6->Z[i]? =some y->y.dst=some t->Bd am (By 0 Z.toList) y=4->R.testBit i=true->i < q) (N:(S j).g.n<=g.n) (a2:(S q).g.n<=g.n):
  DM (T.wf (frO am T Z V q A)) W Z { (S j).masked (Ck 0 Z.toList) (okG (Bx Z.toList []) R j) R C6 with mem:=(S q).mem,g:=g } a w:=by
 obtain⟨af,_⟩:=H.later 0 j (by omega);rw[AM] at af;have Y:=Gl _ 0 H.masks j R hR;refine⟨⟨I.defers,?_,fun t c E=>?_,I.mem.mono a2⟩,fun e M=>?_⟩
 .simp only[DS.masked];rw[I.asize,af.len]
 .obtain⟨O,C⟩:=Wi (R:=R) H.nodup E;have a7:=j8 (R:=R) E;refine (I.val H (by omega) O fun i o u hd=>?_).up0 N;have d:=C i o u hd;simp only[okG,Ah] at d;rcases d with d|d
  .exact .inl ⟨X i d,by have:=Y i d;omega,fun h4=>a1 t i o a7 u hd h4 d⟩
  .right;have ab:i < (Bx Z.toList []).length:=by
    rw[EF];exact (AI.1 u).1
   have z:(Bx Z.toList [])[i]? =some ((Bx Z.toList []).getD i 0):=by
    simp[List.getD,AF ab]
   have bl:=Gl _ 0 H.masks i _ z j d;refine⟨?_,by omega⟩;cases hx:V.getD i false with
   |false=>rfl
   |true=>
    have:=FC I.closed z u (I.closed i o u hx) j d;rw[a9] at this;cases this
 .simp only[DS.masked,Is,BL,List.mem_filter] at M;obtain⟨p,⟨hp,d⟩,rfl⟩:=M;have a3:=X p.1 d;have bm:p.1 < j:=by have:=Y p.1 d;omega
  obtain⟨aj,_⟩:=H.later j (Z.size - j) (by omega);rw[show j+(Z.size - j)=Z.size by omega] at aj;obtain⟨l3,_⟩:=H.later (p.1+1) (j - (p.1+1)) (by omega);rw[show p.1+1+(j - (p.1+1))=j by omega] at l3;exact ((I.gfacts p (aj.gls p hp) a3).1.up (AV l3.grow.n N)).wf
end
section
variable {am:QC}{aY:Bool}{tg:List Tmp}{P:Program}{T:Tab}{call:CM}{an:Ys}{r:Option Nat}{al:Nat}{Z:Array Oper}{ae:PC}
variable{aE:Operand->AC}{x:Operand}{t:TypeId}{id:Nat}{g:G}{s aq:RS}{o:Oper}{D:List (Tmp × Nat)}
theorem mN {op:Op}(d:op= .move x\/op= .assign x\/∃k,op= .extract x k)(k:Nat):(∀m g,FL k P aE op m g=aOp P aE op m g)\/∀m g,FL k P aE op m g=none:=by
 match k with
 |0=>exact .inl fun _ _=>rfl
 |1=>rcases d with rfl|rfl|⟨k,rfl⟩<;>exact .inr fun _ _=>rfl
 |n+2=>rcases d with rfl|rfl|⟨k,rfl⟩<;>exact .inl fun _ _=>rfl
theorem X1 {off:Nat}{m ai:Mem}{aw:G}{r:R}(u:ai.at id=m.at id)(h:HK P t (.ptr id off) m g=some r):r.m=m/\r.us=[]/\r.ps=[]/\HK P t (.ptr id off) ai aw=some { r with m:=ai }:=by
 unfold HK at h⊢;cases aa:GH P t with
 |none=>rw[aa] at h;cases h
 |some x=>
  obtain⟨size,y⟩:=x;rw[aa] at h;simp only[AD,Ag] at h⊢;rw[u];split at h
  .split at h
   .rename_i p;rw[BH p];split at h
    .rename_i d;cases h;rw[BH d];exact⟨rfl,rfl,rfl,rfl⟩
    .rename_i d;rw[BG d];rw[AX] at h;obtain⟨c,p,rfl⟩:=h;rw[p];exact⟨rfl,rfl,rfl,rfl⟩
   .cases h
  .cases h
theorem jT (y:o.guard=none)(p:o.op= .move x\/o.op= .assign x\/∃k,o.op= .extract x k)(h:Cu P call an Z ae s o=some aq):
  aq.mem=s.mem/\aq.g=s.g/\aq.gl=s.gl/\∀m g,Cu P call an Z ae { s with mem:=m,g:=g } o=some { aq with mem:=m,g:=g }:=by
 unfold Cu EG at h⊢;simp only[y,AD,Ag] at h⊢;split at h
 .cases h
 rename_i z;simp only[z];have d:=mN (P:=P) (aE:=EJ [] s.tmps) p (Oy an o.dst);generalize Oy an o.dst=K at h d⊢;rcases p with p|p|⟨k,p⟩
 .rw[p] at h d⊢;rcases d with d|d
  .simp only[d,aOp,Ag] at h⊢;cases h;exact⟨rfl,rfl,rfl,fun m g=>rfl⟩
  .simp only[d] at h;cases h
 .rw[p] at h d⊢;rcases d with d|d
  .simp only[d,aOp,Ag] at h⊢;cases h;exact⟨rfl,rfl,rfl,fun m g=>rfl⟩
  .simp only[d] at h;cases h
 .rw[p] at h d⊢;rcases d with d|d
  .simp only[d,aOp,P1] at h⊢;generalize EJ [] s.tmps x=e at h⊢;cases e
   case tup l=>
    simp only[AA,AX] at h;obtain⟨aI,⟨c,u,rfl⟩,h⟩:=h;cases h;refine⟨rfl,rfl,rfl,fun m g=>?_⟩;simp only[u,BC,Ag];rfl
   all_goals simp at h
  .simp only[d] at h;cases h
theorem if23 {b:Bool}:(b=true/\(if b=true then 2 else 3)=2)\/(b=false/\(if b=true then 2 else 3)=3):=by cases b<;>simp
theorem pU {op:BinOp}{p:TypeId}{y:Operand}(u:o.guard=none)(z:o.op= .binOp op t x y p)(h:Cu P call an Z ae s o=some aq):
  ∃aI,ec P op t (EJ [] s.tmps x) (EJ [] s.tmps y) s.mem s.g=some aI/\aq.mem=aI.m/\aq.g=(s.g.pushAll aI.us).needAll ae aI.ps/\aq.gl=s.gl/\aq.tmps=EL s.tmps o.dst aI.c:=by
 unfold Cu EG at h;simp only[u,AD,Ag] at h;split at h
 .cases h
 simp only[z,AA] at h;obtain⟨aI,C,h⟩:=h;cases h;have E:∀k,FL k P (EJ [] s.tmps) (.binOp op t x y p) s.mem s.g=some aI->ec P op t (EJ [] s.tmps x) (EJ [] s.tmps y) s.mem s.g=some aI:=fun k d=>by
  match k,d with
  |0,d=>exact d
  |1,d=>cases d
  |n+2,d=>exact d
 grind
theorem BQ.intAny {T:Tab}{n:Nat}{W ad:Nat->Option Nat}{m ag:Mem}{w ac:World}{c:AC}{v:Value}(d:(DV c).isSome=true)(h:BQ T n W m w c v):BQ T n ad ag ac c v:=by
 cases c<;>first|exact h|cases d
theorem l9 {aR:TypeId}{off:Nat}(M:o.guard=none)(Y:o.op= .load aR x)(y:EJ [] s.tmps x= .ptr id off)(h:Cu P call an Z ae s o=some aq):
  aq.mem=s.mem/\aq.g=s.g/\aq.gl=s.gl/\∀m g,m.at id=s.mem.at id->Cu P call an Z ae { s with mem:=m,g:=g } o=some { aq with mem:=m,g:=g }:=by
 unfold Cu EG at h⊢;simp only[M,AD,Ag] at h⊢;split at h
 .cases h
 rename_i X;simp only[X];rw[Y] at h⊢;simp only[AD,AA] at h;obtain⟨aI,d,h⟩:=h;have ab:HK P aR (EJ [] s.tmps x) s.mem s.g=some aI/\∀m g,FL (Oy an o.dst) P (EJ [] s.tmps) (.load aR x) m g=HK P aR (EJ [] s.tmps x) m g:=by
  generalize Oy an o.dst=k at d⊢
  match k,d with
  |0,d=>exact⟨d,fun _ _=>rfl⟩
  |1,d=>nomatch d
  |k+2,d=>exact⟨d,fun _ _=>rfl⟩
 obtain⟨O,C⟩:=ab;rw[y] at O;obtain⟨z,p,u,_⟩:=X1 (ai:=s.mem) (aw:=s.g) rfl O;cases h;refine⟨z,by rw[p,u];rfl,rfl,fun m g N=>?_⟩;obtain⟨_,_,_,E⟩:=X1 (ai:=m) (aw:=g) N O;simp only[C,y,E,Ag,p,u];rfl
theorem Ov {am:QC}(D:List (Tmp × Nat))(o:Oper):(Bd am D o=0/\o.guard=none/\((∃x,(o.op= .move x\/o.op= .assign x\/∃k,o.op= .extract x k)/\∀t,x= .tmp t->DO D t=none)\/(∃op t x y u,o.op= .binOp op t x y u/\(∀t,x= .tmp t->DO D t=none)/\∀t,y= .tmp t->DO D t=none)\/∃t x,o.op= .load t x/\∀y,x= .tmp y->DO D y=none))\/(Bd am D o=1/\VC o.op=true)\/(Bd am D o=2/\(CS o.op=true\/(∃f aU au,o.op= .call { callee:= .value f,args:=aU,argTypes:=au })\/∃t n ps,o.op= .buildSlice t n ps))\/Bd am D o=3\/(Bd am D o=4/\o.guard=none/\∃t,o.op= .alloc t):=by
 unfold Bd;have p:∀(b:Bool) (n:Nat),((if (o.guard.isNone&&b)=true then 0 else n)=0/\o.guard=none/\b=true)\/(if (o.guard.isNone&&b)=true then 0 else n)=n:=by
  intro b n;cases b<;>cases o.guard<;>simp
 cases d:o.op with
 |move x|assign x=>
  simp only;refine (p _ _).elim (fun h=> .inl ⟨h.1,h.2.1,.inl ⟨x,by simp,fun t e=>?_⟩⟩) (fun h=> .inr (.inl ⟨h,rfl⟩));have C:=h.2.2;subst e;simpa using C
 |extract x k=>
  simp only;refine (p _ _).elim (fun h=> .inl ⟨h.1,h.2.1,.inl ⟨x,by simp,fun t e=>?_⟩⟩) (fun h=> .inr (.inr (.inl ⟨h,.inl rfl⟩)));have C:=h.2.2;subst e;simpa using C
 |binOp op aR x y u=>
  simp only;have z:∀x:Operand,(match x with| .tmp t=>(DO D t).isNone|_=>true)=true->∀t,x= .tmp t->DO D t=none:=fun x h t e=>by
   subst e;simpa using h
  refine (p _ _).elim (fun h=> .inl ⟨h.1,h.2.1,.inr (.inl ⟨op,aR,x,y,u,rfl,?_⟩)⟩) (fun h=> .inr (.inr (.inl ⟨h,.inl rfl⟩)));have C:=h.2.2;rw[AB,AB] at C;exact⟨z x C.1.2,z y C.2⟩
 |load aR x=>
  simp only;refine (p _ _).elim (fun h=> .inl ⟨h.1,h.2.1,.inr (.inr ⟨aR,x,rfl,fun t e=>?_⟩)⟩) (fun h=> .inr (.inr (.inl ⟨h,.inl rfl⟩)));have C:=h.2.2;subst e;rw[AB] at C;simpa using C.2
 |nilCheck x=>exact .inr (.inl ⟨rfl,rfl⟩)
 |fieldAddr a b c=>exact .inr (.inl ⟨rfl,rfl⟩)
 |indexAddr a b c=>exact .inr (.inl ⟨rfl,rfl⟩)
 |buildSlice t n ps=>
  simp only;cases ((am.1||am.2)&&Nat.blt 0 n) with
  |true=>exact .inr (.inr (.inl ⟨rfl,.inr (.inr ⟨t,n,ps,rfl⟩)⟩))
  |false=>exact .inr (.inr (.inr (.inl rfl)))
 |alloc t=>
  simp only;cases M:o.guard with
  |none=>exact .inr (.inr (.inr (.inr ⟨rfl,rfl,t,rfl⟩)))
  |some g=>exact .inr (.inr (.inr (.inl rfl)))
 |call c=>
  obtain⟨E,aU,au⟩:=c;cases E with
  |value f=>
   cases f with
   |func k=>
    simp only;cases am.1 with
    |true=>exact .inr (.inr (.inl ⟨rfl,.inr (.inl ⟨_,aU,au,rfl⟩)⟩))
    |false=>exact .inr (.inr (.inr (.inl rfl)))
   |_=>exact .inr (.inr (.inr (.inl rfl)))
  |_=>
   simp only;rcases @if23 (CS o.op) with⟨O,C⟩|⟨_,C⟩
   .rw[d] at O C;exact .inr (.inr (.inl ⟨C,.inl O⟩))
   .rw[d] at C;exact .inr (.inr (.inr (.inl C)))
 |_=>
  simp only;rcases @if23 (CS o.op) with⟨O,C⟩|⟨_,C⟩
  .rw[d] at O C;exact .inr (.inr (.inl ⟨C,.inl O⟩))
  .rw[d] at C;exact .inr (.inr (.inr (.inl C)))
theorem Nz:∀(l:List Oper) (k j:Nat) (o:Oper) (t:Tmp) (aR:TypeId),l[j]? =some o->o.op= .alloc aR->o.dst=some t->DO (By k l) t≠none
 |[],_,_,_,_,_,h,_,_=>by simp at h
 |o0::l,k,j,o,t,aR,h,ho,hd=>by
  cases j with
  |zero=>
   simp at h;subst h;unfold By;rw[ho,hd];show (bif Nat.beq t t then some k else _)≠none;rw[Nat.beq_refl];exact fun h=>by cases h
  |succ j=>
   have d:=Nz l (k+1) j o t aR (by simpa using h) ho hd;unfold By;split
   .rename_i p _ _;show (bif Nat.beq p t then some k else DO (By (k+1) l) t)≠none;cases Nat.beq p t with
    |true=>exact fun h=>by cases h
    |false=>exact d
   .exact d
theorem GD {am:QC}(h:Bd am D o=4):o.guard=none/\∃t,o.op= .alloc t:=by
 rcases Ov (am:=am) D o with⟨O,_⟩|⟨O,_⟩|⟨O,_⟩|O|⟨_,C⟩
 .omega
 .omega
 .omega
 .omega
 .exact C
theorem Qd {am:QC}:Bd am D o=0\/Bd am D o=1\/Bd am D o=2\/Bd am D o=3\/Bd am D o=4:=by
 rcases Ov (am:=am) D o with⟨O,_⟩|⟨O,_⟩|⟨O,_⟩|O|⟨O,_⟩<;>simp[O]
theorem bY {k:Nat}{m:Mem}{r:R}(h:FL k P aE (.alloc t) m g=some r):J3 P t m=some r:=
 match k,h with
 |0,h=>h
 |1,h=>nomatch h
 |_+2,h=>h
theorem O6 (p:o.guard=none)(y:o.op= .alloc t)(h:Cu P call an Z ae s o=some aq):
  ∃l,J3 P t []=some (Sv l t [])/\aq.tmps=EL s.tmps o.dst (.ptr s.mem.length 0)/\aq.mem=s.mem++[.cells l t]/\aq.g=s.g/\aq.gl=s.gl:=by
 unfold Cu EG at h;simp only[p,AD,Ag] at h;split at h
 .cases h
 .rw[y] at h;simp only[AD,AA] at h;obtain⟨aI,d,h⟩:=h;cases h;replace d:J3 P t s.mem=some aI:=bY d;unfold J3 at d⊢;simp only[AD,AA] at d;obtain⟨i,ab,z,C,l,u,d⟩:=d;cases d;refine⟨l,?_,rfl,rfl,rfl,rfl⟩;simp only[ab,C,u,AD,Ag]
variable {S:Nat->DS}{aX:Nat->Option Nat}{aH:World}{A:Nat->Nat}{q:Nat}{V:Array Bool}{W ad:Nat->Option Nat}{a:Act}{w ac:World}
theorem oE {z:Array Bool}{M:Nat}(h:∀j E,Z[j]? =some E->Bd am (By 0 Z.toList) E=4->((z.getD j false=true/\M<=j)↔(V.getD j false=true/\q<=j))):frO am T Z z M A=frO am T Z V q A:=by
 funext b off;apply propext;constructor
 .rintro⟨O,C⟩;exact⟨O,fun⟨i,o,p,d,u,y,e⟩=>C ⟨i,o,p,d,((h i o p d).2 ⟨u,y⟩).1,((h i o p d).2 ⟨u,y⟩).2,e⟩⟩
 .rintro⟨O,C⟩;exact⟨O,fun⟨i,o,p,d,u,y,e⟩=>C ⟨i,o,p,d,((h i o p d).1 ⟨u,y⟩).1,((h i o p d).1 ⟨u,y⟩).2,e⟩⟩
variable{i:Nat}{o:Oper}
theorem C8.plt (I:C8 am P T Z S aX aH A q V W a w)(u:Z[i]? =some o)(d:Bd am (By 0 Z.toList) o=4)(p:V.getD i false=true)(y:q<=i):A i < w.heap.size:=by
 obtain⟨_,_,_,t,l,Y,_,_,h,_⟩:=I.pend i o u d p y;grind
theorem Bn.get_set_self (s:Bn){d:Nat}(c:AC)(h:d < s.n):(s.set d c).get d=some c:=by
 unfold Bn.set;have p:Nat.blt d s.n=true:=Nat.ble_eq_true_of_le h;rw[p];show (match (bif Nat.beq d d then some c else CY s.loc d) with|some c=>some c|none=>_)=some c;rw[Nat.beq_refl];rfl
theorem C8.act1 (H:C7 am aY tg P T call an Z ae S)(I:C8 am P T Z S aX aH A q V W a w)(ho:Z[q]? =some o)(hl:V.getD q false=true\/Bd am (By 0 Z.toList) o=0)(X:Bd am (By 0 Z.toList) o≠3):
  ∃ ad,C8 am P T Z S aX aH A (q+1) V ad a w:=by
 have eo:q < Z.size:=(AI.1 ho).1;obtain⟨lq,_,lm⟩:=H.later q 1 (by omega);have b9:∀j o,j < q+1->Z[j]? =some o->V.getD j false=true\/Bd am (By 0 Z.toList) o=0:=fun j oj hj E=>by
  rcases AQ j q with h|h
  .exact I.base j oj h E
  .have:j=q:=by omega
   subst this;rw[ho] at E;cases E;exact hl
 have ce:∀j o,Z[j]? =some o->Bd am (By 0 Z.toList) o=3->(V.getD j false=true↔j < q+1):=fun j oj E cb=>by
  have cf:j≠q:=fun e=>by subst e;rw[ho] at E;cases E;exact X cb
  rw[I.mlist j oj E cb];omega
 by_cases p:Bd am (By 0 Z.toList) o=4
 .
  have b4:V.getD q false=true:=hl.resolve_right (by omega);obtain⟨p1,p2,p3,t,l,Y,p4,p5,p6,p7⟩:=I.pend q o ho p b4 (AE _);obtain⟨R,hR,aa⟩:=H.step q o ho;obtain⟨aq,c,bt,a2,cs,d5,a5,a7,d7,cu,d9,-⟩:=Ev aa;replace bt:=Jr bt (.inl (by omega));obtain⟨d,hd,ca⟩:=cu p;obtain⟨hg,_⟩:=GD p;obtain⟨l0,b1,cv,b3,ej,el⟩:=O6 hg p4 bt;obtain⟨k,hk⟩:∃k,k=(S q).mem.length:=⟨_,rfl⟩;have z:(S (q+1)).mem=(S q).mem++[.cells l t]:=p5;have b7:(S q).mem.at k= .pad:=Mem.at_ge (by omega);obtain⟨ad,bs⟩:∃ ad, ad=DX W k (A q):=⟨_,rfl⟩;have a3: ad k=some (A q):=by rw[bs];exact CF _ _ _
  have bl:((S q).mem++[Blk.cells l t]).at k= .cells l t:=by rw[hk,Bj,BH rfl]
  have bm:∀id,id≠k->((S q).mem++[Blk.cells l t]).at id=(S q).mem.at id:=fun id e=>by rw[Bj,BG (by rw[<-hk];exact e)]
  have b8:∀id,(S q).mem.at id≠ .pad->((S q).mem++[Blk.cells l t]).at id=(S q).mem.at id/\ ad id= W id:=fun id hp=>by
   have e:id≠k:=fun e=>by rw[e] at hp;exact hp b7
   exact⟨bm id e,by rw[bs];exact CC _ _ _ e⟩
  have b6:∀id,(S q).mem.at id= .pad->id≠k->((S q).mem++[Blk.cells l t]).at id= .pad:=fun id hp e=>by rw[bm id e];exact hp
  have c3:∀b,Pd am Z V (q+1) A b->Pd am Z V q A b:=fun b ⟨i,u,O,C,X,p,h5⟩=>⟨i,u,O,C,X,by omega,h5⟩;have hF:∀b off,frO am T Z V q A b off->frO am T Z V (q+1) A b off:=fun b off ⟨O,C⟩=>⟨O,fun h=>C (c3 b h)⟩;have chg:Chg T (frO am T Z V q A) (frO am T Z V (q+1) A) W ad (S q).mem ((S q).mem++[Blk.cells l t]) w:=by
   refine⟨b8,fun b off ⟨O,C,X⟩=>⟨O,hF b off C,fun id=>?_⟩⟩;by_cases e:id=k
   .subst e;rw[bl];show ad id≠some b;rw[a3];intro N;exact C.2 ⟨q,o,ho,p,b4,AE _,Option.some.inj N⟩
   .by_cases hp:(S q).mem.at id= .pad
    .rw[b6 id hp e];trivial
    .obtain⟨e1,N⟩:=b8 id hp;rw[e1,N];exact X id
  have c9:BX (T.wf (frO am T Z V (q+1) A)) (S q).g.n ad ((S q).mem++[Blk.cells l t]) w:=by
   refine BX.more I.mem chg b7 b6 a3 p2 ?_ (fun b off hb=>?_) fun id b _ _ h off=>hF b off (h off)
   .rw[bl];exact⟨A q,Y,a3,p6,p7 _ _ _ _ _⟩
   .exact hF b off (I.mem.fr b off hb)
  refine⟨ad,⟨I.size,I.closed,by omega,b9,ce,?_,I.asize,?_,fun tt c hc b5=>?_,fun i u di bb ax M a9 a1 bi=>?_,I.gfacts,fun i u M bo ax bi=>?_,fun i j u oj O C X p h5 h6 h7 h8=>I.inj i j u oj O C X p h5 h6 (by omega) (by omega),?_⟩⟩
  .rw[z];obtain⟨h0,Ds,O,C,X⟩:=I.defers;refine⟨h0,Ds,O,C,fun D hD=>?_⟩;obtain⟨p,h5,h6⟩:=X D hD;refine⟨p,h5,fun id ht e=>?_⟩;by_cases N:id=k
   .rw[N,a3] at e;cases e;rw[p6] at h5;cases h5
   .rw[bm id N] at ht;rw[bs,CC _ _ _ N] at e;exact h6 id ht e
  .rw[z];exact c9.mono lq.grow.n
  .rw[z];exact BQ.chg chg _ _ (I.init tt c hc b5)
  .rw[z];by_cases e:i=q
   .subst e;rw[ho] at M;cases M;rw[hd] at a9;cases a9;have c5:c= .ptr (S i).mem.length 0:=by
     rw[cs d hd,cv,hd];show ((((S i).masked (Ck 0 Z.toList) (okG (Bx Z.toList []) R i) R (CD Z o)).tmps.set d (.ptr (S i).mem.length 0)).get d).getD .any=_;rw[Bn.get_set_self ((S i).masked (Ck 0 Z.toList) (okG (Bx Z.toList []) R i) R (CD Z o)).tmps _ ca];rfl
    have c6:bb= .ptr k 0:=by
     rw[a2] at a1;simp only[hd,EL] at a1;rw[Bn.get_set_self _ _ ca] at a1;cases a1;rw[c5,hk]
    rw[c6];exact⟨A i,a3,p3 d hd,by rw[bl];rfl⟩
   .exact BQ.chg chg _ _ (I.facts i u di bb ax M a9 a1 fun h=>by have:=bi h;omega)
  .obtain⟨aB,aJ,r3,t2,aj,d4,r4,r5,r6,r7⟩:=I.pend i u M bo ax (by omega);refine⟨aB,fun id ht e=>?_,r3,t2,aj,d4,r4,r5,r6,r7⟩;rw[z] at ht;by_cases N:id=k
   .rw[N,a3] at e;have:=I.inj q i o u ho M p bo b4 ax (AE _) (by omega) (Option.some.inj e);omega
   .rw[bm id N] at ht;rw[bs,CC _ _ _ N] at e;exact aJ id ht e
  .rw[z];exact BY.more I.st b8 b7 b6 (by rw[bl];rfl) a3 p1
 .have z:(S (q+1)).mem=(S q).mem:=lm fun j oj O C E=>by
   have:j=q:=by omega
   subst this;rw[ho] at E;cases E;have:=Qd (am:=am) (D:=By 0 Z.toList) (o:=o);omega
  have b2:frO am T Z V (q+1) A=frO am T Z V q A:=oE fun j oj E c8=>by
   have cf:j≠q:=fun e=>by subst e;rw[ho] at E;cases E;exact p c8
   constructor<;>(rintro⟨x,y⟩;exact⟨x,by omega⟩)
  refine⟨W,⟨I.size,I.closed,by omega,b9,ce,by rw[z];exact I.defers,I.asize,by rw[b2,z];exact I.mem.mono lq.grow.n,fun tt c hc b5=>by rw[b2,z];exact I.init tt c hc b5,fun i u di bb ax M a9 a1 bi=>?_,I.gfacts,fun i u M bo ax bi=>?_,fun i j u oj O C X p h5 h6 h7 h8=>I.inj i j u oj O C X p h5 h6 (by omega) (by omega),by rw[z];exact I.st⟩⟩
  .rw[b2,z];refine I.facts i u di bb ax M a9 a1 fun h=>?_;have:=bi h;have cf:i≠q:=fun e=>by subst e;rw[ho] at M;cases M;exact p h
   omega
  .rw[z];exact I.pend i u M bo ax (by omega)
theorem C8.acts (H:C7 am aY tg P T call an Z ae S):∀(k:Nat) {q:Nat} {W :Nat->Option Nat},C8 am P T Z S aX aH A q V W a w->q+k<=Z.size->
  (∀j o,q<=j->j < q+k->Z[j]? =some o->(V.getD j false=true\/Bd am (By 0 Z.toList) o=0)/\Bd am (By 0 Z.toList) o≠3)->∃ ad,C8 am P T Z S aX aH A (q+k) V ad a w
 |0,_, W,I,_,_=>⟨W,I⟩
 |k+1,q, W,I,hk,h=>by
  obtain⟨o,d⟩:=C7.op (Z:=Z) (j:=q) (by omega);obtain⟨O,C⟩:=h q o (AE _) (by omega) d;obtain⟨M,p⟩:=I.act1 H d O C;have:=C8.acts H k p (by omega) fun j y z E u=>h j y (by omega) (by omega) u;rw[show q+1+k=q+(k+1) by omega] at this;exact this
theorem C8.reach (H:C7 am aY tg P T call an Z ae S)(I:C8 am P T Z S aX aH A q V W a w){R:Nat}(M:Z[i]? =some o)(X:(Bx Z.toList [])[i]? =some R)(E:∀j,R.testBit j=true->V.getD j false=true)(O:Bd am (By 0 Z.toList) o≠0)(y:Bd am (By 0 Z.toList) o≠4)(hq:q<=i):
  ∀k,k<=i->∃z ad,C8 am P T Z S aX aH A z V ad a w/\q<=z/\z<=i/\∀j d,j < k->Z[j]? =some d->Bd am (By 0 Z.toList) d=4->R.testBit j=true->j < z
 |0,_=>⟨q, W,I,AE _,hq,fun j d h=>by omega⟩
 |k+1,hk=>by
  obtain⟨u, bl,C,a7,a9,hc⟩:=I.reach H M X E O y hq k (by omega);have bm:i < Z.size:=(AI.1 M).1;obtain⟨ok,ax⟩:=C7.op (Z:=Z) (j:=k) (by omega);by_cases hx:Bd am (By 0 Z.toList) ok=4/\R.testBit k=true/\u<=k
  .obtain⟨x1,aw,x3⟩:=hx;have hw:=H.wide i o R M X O y k ok ax (by omega) x1 aw;obtain⟨aV,N⟩:=C8.acts H (k+1 - u) C (by omega) fun j d bo bs p=>by
    have ao:V.getD j false=true\/Bd am (By 0 Z.toList) d=0:=by
     by_cases e:j=k
     .subst e;exact .inl (E j aw)
     .exact (hw j d p (by omega)).imp (E j) (fun h=>h)
    refine⟨ao,fun h3=>?_⟩;rcases ao with h|h
    .have:=(C.mlist j d p h3).1 h;omega
    .omega
   rw[show u+(k+1 - u)=k+1 by omega] at N;exact⟨k+1, aV,N,by omega,by omega,fun j d hj _ _ _=>hj⟩
  .refine⟨u, bl,C,a7,a9,fun j d hj p y Y=>?_⟩;by_cases e:j=k
   .subst e;rw[ax] at p;cases p;rcases AQ j u with h|h
    .exact h
    .exact absurd ⟨y,Y,h⟩ hx
   .exact hc j d (by omega) p y Y
end
section
variable {am:QC}{aY:Bool}{tg:List Tmp}{P:Program}{T:Tab}{call:CM}{an:Ys}{r:Option Nat}{al:Nat}{Z:Array Oper}{ae:PC}
variable {S:Nat->DS}{aX:Nat->Option Nat}{aH:World}{A:Nat->Nat}{q:Nat}{V:Array Bool}{W ad:Nat->Option Nat}{a:Act}{w ac:World}
variable{i:Nat}{o:Oper}{v:Value}{ag:Mem}
theorem C8.next (H:C7 am aY tg P T call an Z ae S)(I:C8 am P T Z S aX aH A q V W a w)(ho:Z[i]? =some o)(cv:V.getD i false=false)
  (cj:∀e∈o.after,Region.binds .any e=true->V.getD e.on false=true) {M:Nat}  (ci:M<=Z.size) (b3:Bd am (By 0 Z.toList) o≠4)
  (a5:∀j u,Z[j]? =some u->Bd am (By 0 Z.toList) u=4->V.getD j false=true->(j < M↔j < q)) {n0:Nat} (ah:BY T n0 W (S q).mem w ad (S M).mem ac) (cl:BY T (S 0).g.n aX (S 0).mem aH ad (S M).mem ac)
  (st0:∀c z,BQ (T.wf (frO am T Z V q A)) (S 0).g.n W (S q).mem w c z->BQ (T.wf (frO am T Z V q A)) (S 0).g.n ad (S M).mem ac c z)
  (st:∀j u d c z,V.getD j false=true->Z[j]? =some u->u.dst=some d->(S (j+1)).tmps.get d=some c->BQ (T.wf (frO am T Z V q A)) (S (j+1)).g.n W (S q).mem w c z->BQ (T.wf (frO am T Z V q A)) (S (j+1)).g.n ad (S M).mem ac c z) (ce:BX (T.wf (frO am T Z V q A)) (S M).g.n ad (S M).mem ac) (cs:(a.put o.dst v).tmps.size=(S 0).tmps.n)
  (ca:FK T.base ad (S M).mem ac (a.put o.dst v).defers)
  (b9:∀j o',j < M->Z[j]? =some o'->(V.setIfInBounds i true).getD j false=true\/Bd am (By 0 Z.toList) o'=0)
  (cf:∀j o',Z[j]? =some o'->Bd am (By 0 Z.toList) o'=3->((V.setIfInBounds i true).getD j false=true↔j < M))
  (cx:∀d aO,o.dst=some d->(S (i+1)).tmps.get d=some aO->BQ (T.wf (frO am T Z V q A)) (S (i+1)).g.n ad (S M).mem ac aO ((a.put o.dst v).tmps.getD d undef))
  (cb:∀p∈(S Z.size).gls,p.1=i->HX T Z (S (i+1)).g.n (a.put o.dst v) p.2/\V.getD p.2.j false=true):
  C8 am P T Z S aX aH A M (V.setIfInBounds i true) ad (a.put o.dst v) ac:=by
 have ao:i < V.size:=by rw[I.size];exact (AI.1 ho).1
 have N:∀j u,Z[j]? =some u->Bd am (By 0 Z.toList) u=4->(V.setIfInBounds i true).getD j false=true->V.getD j false=true/\j≠i:=fun j u E X hl=>by
  have ab:j≠i:=fun e=>by subst e;rw[ho] at E;cases E;exact b3 X
  rw[CL _ _ _ ao,BG ab] at hl;exact⟨hl,ab⟩
 have bs:frO am T Z (V.setIfInBounds i true) M A=frO am T Z V q A:=oE fun j u E X=>by
  have ab:j≠i:=fun e=>by subst e;rw[ho] at E;cases E;exact b3 X
  rw[CL _ _ _ ao,BG ab];constructor
  .rintro⟨x,y⟩;have:=a5 j u E X x;exact⟨x,by omega⟩
  .rintro⟨x,y⟩;have:=a5 j u E X x;exact⟨x,by omega⟩
 refine⟨by simp[I.size],?_,ci,b9,cf,ca,cs,by rw[bs];exact ce,?_,?_,?_,?_,?_,cl⟩
 .
  intro j u E N e he hb;rw[CL _ _ _ ao] at N⊢;split
  .rfl
  .split at N
   .rename_i ax;subst ax;rw[ho] at E;cases E;exact cj e he hb
   .exact I.closed j u E N e he hb
 .
  intro t aO hc b6;rw[bs];have ab:o.dst≠some t:=fun hd=>by
   have:=b6 i o ho hd;rw[CL _ _ _ ao,BH rfl] at this;cases this
  rw[GR ab];refine st0 _ _ (I.init t aO hc fun j u E hd=>?_);have:=b6 j u E hd;rw[CL _ _ _ ao] at this;split at this
  .cases this
  .exact this
 .
  intro j u d aO N E hd hc b4;rw[bs];rw[CL _ _ _ ao] at N;split at N
  .rename_i ax;subst ax;rw[ho] at E;cases E;exact cx d aO hd hc
  .rename_i ax;have ab:o.dst≠some d:=fun bo=>ax (E4 H.nodup E ho hd bo);rw[GR ab];exact st j u d aO _ N E hd hc (I.facts j u d aO N E hd hc fun h4=>(a5 j u E h4 N).1 (b4 h4))
 .
  intro p hp bt;rw[CL _ _ _ ao] at bt;split at bt
  .rename_i b0;obtain⟨O,C⟩:=cb p hp b0;refine⟨by rw[b0];exact O,?_⟩;rw[CL _ _ _ ao];split
   .rfl
   .exact C
  .rename_i b0;obtain⟨q1,q2⟩:=I.gfacts p hp bt;have ax:p.2.j≠i:=fun e=>by rw[e,cv] at q2;cases q2
   refine⟨⟨q1.lt,q1.bool,?_,q1.imp,q1.ne⟩,by rw[CL _ _ _ ao,BG ax];exact q2⟩;have hy:yielded Z (a.put o.dst v).tmps p.2.j=yielded Z a.tmps p.2.j:=by
    cases hd:o.dst with
    |none=>rfl
    |some d=>
     refine LY ?_ v;intro he;cases bx:Z[p.2.j]? with
     |none=>rw[bx] at he;cases he
     |some op=>
      rw[bx] at he;exact ax (E4 H.nodup bx ho he hd)
   rw[hy];exact q1.iff
 .
  intro j u E X hl b4;obtain⟨hl,ab⟩:=N j u E X hl;have b5:q<=j:=by have:=a5 j u E X hl;omega
  have cc:=I.plt E X hl b5;obtain⟨p1,p2,p3,t,l,Y,p4,p5,p6,p7⟩:=I.pend j u E X hl b5;refine⟨p1,fun id ht e=>?_,fun d hd=>?_,t,l,Y,p4,p5,by rw[ah.old (A j) cc p2];exact p6,p7⟩
  .rcases ah.back ht e with h|⟨O,C⟩
   .omega
   .exact p2 id O C
  .have ch:o.dst≠some d:=fun bo=>ab (E4 H.nodup E ho hd bo);rw[GR ch];exact p3 d hd
 .intro j k u ok O C h3 h4 h5 h6 h7 h8;obtain⟨h5,_⟩:=N j u O h3 h5;obtain⟨h6,_⟩:=N k ok C h4 h6;have:=a5 j u O h3 h5;have:=a5 k ok C h4 h6;exact I.inj j k u ok O C h3 h4 h5 h6 (by omega) (by omega)
theorem UH:∀{m ag:Mem},Cx m ag=true->∀id x y ks e,m.at id= .mrow x y ks e->∃L X,ag.at id= .mrow L y X e/\X.length=ks.length
 |[],_,_,id,x,y,ks,e,h=>by simp[Mem.at] at h
 |b::m,ag,hh,id,x,y,ks,e,h=>by
  cases id with
  |zero=>
   have p:b= .mrow x y ks e:=by simpa [Mem.at] using h
   subst p;cases ag with
   |nil=>simp[Cx] at hh
   |cons u ag=>
    simp only[Cx,AB] at hh;have d:=hh.1;split at d
    .simp only[AB] at d;obtain⟨⟨O,C⟩,z⟩:=d;rw[yI O,yI z];exact⟨_,_,rfl,(yI C).symm⟩
    .cases d
  |succ id=>
   have p:Mem.at m id= .mrow x y ks e:=by simpa [Mem.at] using h
   have E:Cx m ag.tail=true:=by
    cases b with
    |tok=>
     cases ag with
     |nil=>simp[Cx] at hh
     |cons u ag=>simp only[Cx,AB] at hh;exact hh.2
    |mrow=>
     cases ag with
     |nil=>simp[Cx] at hh
     |cons u ag=>simp only[Cx,AB] at hh;exact hh.2
    |_=>simpa [Cx] using hh
   obtain⟨L,X,O,C⟩:=UH E id x y ks e p;refine⟨L,X,?_,C⟩;rw[<-O];cases ag<;>simp[Mem.at]
theorem BY.any {n:Nat}{m:Mem}(h:BY T n W m w ad ag ac)(M:BX T n W m w)(z:∀id x ks e,m.at id= .tok x ks e->ag.at id= .tok x ks e)(ab:∀id x y ks e,m.at id= .mrow x y ks e->∃L X,ag.at id= .mrow L y X e/\X.length=ks.length)(ap:Nat):BY T ap W m w ad ag ac:=
 ⟨h.os,h.tape,h.output,h.size,h.mlen,h.rho,h.untr,h.fresh,h.old,fun id x ks e d=>by
  rcases h.tok id x ks e d with O|⟨_,C|⟨L,X,e',C,u,_⟩⟩
  .exact .inl O
  .rw[z id x ks e d] at C;cases C
  .rw[z id x ks e d] at C;injection C with p Y
   have:=M.tok_lt d;omega,
  fun id x y ks e d=>by
  obtain⟨aw,ax,N,E⟩:=ab id x y ks e d;rcases h.row id x y ks e d with C|⟨L,aF,X,C,u,p|⟨p,_⟩⟩
  .rw[N] at C;cases C
  .exact .inr ⟨L,aF,X,C,u,.inl p⟩
  .rw[N] at C;injection C with Y h6
   have:=(M.row_lt d).2;omega⟩
theorem C8.own (H:C7 am aY tg P T call an Z ae S)(I:C8 am P T Z S aX aH A q V W a w)(z:Z[i]? =some o)(aw:V.getD i false=false){c aO:AC}{d:Tmp}(hd:o.dst=some d)
   (C:(S (i+1)).tmps=EL (S i).tmps o.dst c) (O:(S i).g.n<=(S (i+1)).g.n) (st:BY (T.wf (frO am T Z V q A)) (S i).g.n W (S q).mem w ad ag ac) (u:BQ (T.wf (frO am T Z V q A)) (S (i+1)).g.n ad ag ac c ((a.put o.dst v).tmps.getD d undef))
  (p:(S (i+1)).tmps.get d=some aO):BQ (T.wf (frO am T Z V q A)) (S (i+1)).g.n ad ag ac aO ((a.put o.dst v).tmps.getD d undef):=by
 have a1:i < Z.size:=(AI.1 z).1;obtain⟨af,_,_⟩:=H.later 0 i (by omega);rw[AM] at af;rw[C] at p;simp only[hd,EL] at p;rcases Bn.get_set _ _ _ _ p with⟨_,_,E⟩|⟨N,ab⟩
 .rw[E];exact u
 .
  have X:=N rfl;have y:¬d < a.tmps.size:=by rw[I.asize,<-af.len];exact X
  have u:=I.val H (by omega) ab fun i' o' Y M=>by
   have:=E4 H.nodup z Y hd M;subst this;exact .inr ⟨aw,AE _⟩
  have ao:(a.put o.dst v).tmps.getD d undef=a.tmps.getD d undef:=by
   rw[hd];simp only[Act.put,AJ,yL,if_true,BG y];rw[Array.getElem?_eq_none (Nat.le_of_not_lt y)]
  rw[ao];exact BQ.mono0 st O _ _ u
end
section
variable {am:QC}{aY:Bool}{tg:List Tmp}{P:Program}{T:Tab}{call:CM}{an:Ys}{r:Option Nat}{al:Nat}{Z:Array Oper}{ae:PC}
variable {S:Nat->DS}{aX:Nat->Option Nat}{aH:World}{A:Nat->Nat}{q:Nat}{V:Array Bool}{W ad:Nat->Option Nat}{a:Act}{w ac:World}
variable{F:Nat->Nat->Prop}{g:G}
theorem Agr.wf (h:Agr T g):Agr (T.wf F) g:=⟨h.eqs,h.lps⟩
theorem CB.wf (h:CB T g):CB (T.wf F) g:=h
theorem Ch.wf {ae:PC}(h:Ch T g ae):Ch (T.wf F) g ae:=h
theorem Nq {ae:PC}(h:pcv T ae):pcv (T.wf F) ae:=h
theorem C8.early (H:C7 am aY tg P T call an Z ae S)(I:C8 am P T Z S aX aH A q V W a w)(dm:BX T (S 0).g.n aX (S 0).mem aH){i:Nat}{o:Oper}(ho:Z[i]? =some o)
  (b7:V.getD i false=false) (dv:∀e∈o.after,Region.binds .any e=true->V.getD e.on false=true) (h4:Bd am (By 0 Z.toList) o=4) {K:Act->World->Prop} {Q:Exit->Act->World->Prop}
  (hK:∀A' q' ad v ac,C8 am P T Z S aX aH A' q' (V.setIfInBounds i true) ad (a.put o.dst v) ac->(∃ob,ac=w.alloc ob)->K (a.put o.dst v) ac):Fe P r al Z o a w K Q:=by
 have dd:i < Z.size:=(AI.1 ho).1;have b3:i < V.size:=by rw[I.size];exact dd
 obtain⟨hg,t,ht⟩:=GD h4;obtain⟨R,hR,aa⟩:=H.step i o ho;obtain⟨aq,c,a1,a2,a3,el,em,a7,en,cv,eq,-⟩:=Ev aa;replace a1:=Jr a1 (.inl (by omega));obtain⟨d,hd,db⟩:=cv h4;obtain⟨l,b1,b2,cy,es,c0⟩:=O6 hg ht a1;obtain⟨Y,aB,cu⟩:=qQ (P:=P) (a:=a) b1 ht;obtain⟨ak,dn,aJ⟩:∃ak,(S (i+1)).mem=(S i).mem++[.cells ak t]/\∀(T:Tab) (n:Nat) (W :Nat->Option Nat) (m:Mem) (w:World),BR T n W m w ak Y:=by
  have e:(S (i+1)).mem=TJ tg o.dst (S i).mem aq.mem:=by rw[a2,h4];rfl
  rw[e,cy];have e2:((S i).masked (Ck 0 Z.toList) (okG (Bx Z.toList []) R i) R (CD Z o)).mem=(S i).mem:=rfl;rw[e2];unfold TJ;cases hb:isTg tg o.dst with
  |true=>
   rw[BH rfl];refine⟨l.map fun _=> .any,?_,fun T n W m w=>BR.of_get ?_ fun j c u O C=>?_⟩
   .rw[List.drop_left];rfl
   .have:=(cu T n W m w).length;simp[this]
   .simp only[Aj,AX] at O;obtain⟨_,_,rfl⟩:=O;trivial
  |false=>
   rw[BG (by decide)];exact⟨l,rfl,cu⟩
 obtain⟨af,_,_⟩:=H.later 0 i (by omega);rw[AM] at af;have hq:q<=i:=by
  rcases AQ i q with h|h
  .rcases I.base i o h ho with O|O
   .rw[b7] at O;cases O
   .omega
  .exact h
 unfold Fe;rw[BH (by unfold Region.wanted;rw[hg])];refine Kh (by rw[ht];exact fun c h=>by cases h) ?_;rw[aB w];show K (a.put o.dst (.pointer (some ⟨w.heap.size,0,none⟩))) (w.alloc (.cells Y.toArray t));obtain⟨A',cb⟩:∃A':Nat->Nat,A'=fun j=>if j=i then w.heap.size else A j:=⟨_,rfl⟩
 have bo:A' i=w.heap.size:=by rw[cb];simp
 have a9:∀j,j≠i->A' j=A j:=fun j h=>by rw[cb];simp[h]
 have aw:∀j,(V.setIfInBounds i true).getD j false=true↔(j=i\/V.getD j false=true):=fun j=>by
  rw[CL _ _ _ b3];split
  .rename_i e;simp[e]
  .rename_i e;simp[e]
 have c6:∀b,Pd am Z (V.setIfInBounds i true) q A' b↔(b=w.heap.size\/Pd am Z V q A b):=fun b=>by
  constructor
  .rintro⟨j,y,X,N,q3,q4,q5⟩;by_cases e:j=i
   .subst e;left;rw[<-q5,bo]
   .right;exact⟨j,y,X,N,((aw j).1 q3).resolve_left e,q4,by rw[<-a9 j e];exact q5⟩
  .rintro (h|⟨j,y,X,N,q3,q4,q5⟩)
   .exact⟨i,o,ho,h4,(aw i).2 (.inl rfl),hq,by rw[bo,h]⟩
   .have e:j≠i:=fun e=>by subst e;rw[b7] at q3;cases q3
    exact⟨j,y,X,N,(aw j).2 (.inr q3),q4,by rw[a9 j e];exact q5⟩
 have hF:∀b off,b≠w.heap.size->frO am T Z V q A b off->frO am T Z (V.setIfInBounds i true) q A' b off:=fun b off hb ⟨O,C⟩=>⟨O,fun h=>((c6 b).1 h).elim hb C⟩;have chg:Chg T (frO am T Z V q A) (frO am T Z (V.setIfInBounds i true) q A') W W (S q).mem (S q).mem w:=
  ⟨fun _ _=>⟨rfl,rfl⟩,fun b off ⟨O,C,h3⟩=>⟨O,hF b off (by omega) C,h3⟩⟩
 have ay:∀n,BY T n W (S q).mem w W (S q).mem (w.alloc (.cells Y.toArray t)):=fun n=>(BY.wf (F:=frO am T Z V q A) (a5:=T.fr) (Q2 I.mem (.cells Y.toArray t) n):_);have c3:∀n,BY (T.wf (frO am T Z (V.setIfInBounds i true) q A')) n W (S q).mem w W (S q).mem (w.alloc (.cells Y.toArray t)):=fun n=>BY.wf (F:=frO am T Z V q A) (Q2 I.mem (.cells Y.toArray t) n);have b4:∀j y,Z[j]? =some y->Bd am (By 0 Z.toList) y=4->V.getD j false=true->q<=j->A j < w.heap.size:=fun j y X N q3 q4=>I.plt X N q3 q4;have move:∀{n:Nat} {c:AC} {z:Value},BQ (T.wf (frO am T Z V q A)) n W (S q).mem w c z->BQ (T.wf (frO am T Z (V.setIfInBounds i true) q A')) n W (S q).mem (w.alloc (.cells Y.toArray t)) c z:=fun {n c z} h=>
  BQ.mono0 (c3 n) (AE _) c z (BQ.chg chg c z h)
 refine hK A' q W _ _ ⟨by simp[I.size],?_,I.qle,fun j y hj E=>?_,fun j y E di=>?_,?_,by rw[<-I.asize];cases o.dst<;>simp[Act.put],?_,?_,?_,?_,?_,?_,I.st.trans dm (AE _) (ay _)⟩ ⟨_,rfl⟩
 .intro j y E M e he hb;rw[aw] at M⊢;rcases M with M|M
  .subst M;rw[ho] at E;cases E;exact .inr (dv e he hb)
  .exact .inr (I.closed j y E M e he hb)
 .rw[aw];exact (I.base j y hj E).imp .inr (fun h=>h)
 .have e:j≠i:=fun e=>by subst e;rw[ho] at E;cases E;omega
  rw[aw,or_iff_right e];exact I.mlist j y E di
 .have:=I.defers.on (ay (S q).g.n);cases o.dst<;>exact this
 .exact oo I.mem _ chg (fun b off hb=>hF b off (by omega) (I.mem.fr b off (by omega))) fun id b hx hb h off=>hF b off (by have:=I.mem.lt hx hb;omega) (h off)
 .intro tt c1 hc ci;have bt:o.dst≠some tt:=fun hd=>by
   have:=ci i o ho hd;rw[CL _ _ _ b3,BH rfl] at this;cases this
  rw[GR bt];refine move (I.init tt c1 hc fun j y E hd=>?_);have:=ci j y E hd;rw[CL _ _ _ b3] at this;split at this
  .cases this
  .exact this
 .intro j y dj cj M E cc c8 bs;rw[aw] at M;have e:j≠i:=fun e=>by subst e;rw[ho] at E;cases E;have:=bs h4;omega
  have bt:o.dst≠some dj:=fun bb=>e (E4 H.nodup E ho cc bb);rw[GR bt];exact move (I.facts j y dj cj (M.resolve_left e) E cc c8 bs)
 .intro p hp ch;rw[aw] at ch;obtain⟨_,N⟩:=H.gls Z.size (AE _) p hp;have b6:p.1≠i:=fun b6=>by
   rw[b6,a2] at N;rcases Ap.1 N with O|O
   .unfold H6 at O;rw[c0] at O;simp[DS.masked] at O
   .have:=(H.gls i (by omega) p O).1;omega
  obtain⟨X,N⟩:=I.gfacts p hp (ch.resolve_left b6);have dk:p.2.j≠i:=fun e=>by rw[e,b7] at N;cases N
  refine⟨⟨X.lt,X.bool,?_,X.imp,X.ne⟩,by rw[aw];exact .inr N⟩;have hy:yielded Z (a.put o.dst (.pointer (some ⟨w.heap.size,0,none⟩))).tmps p.2.j=yielded Z a.tmps p.2.j:=by
   rw[hd];refine LY ?_ _;intro he;cases b5:Z[p.2.j]? with
   |none=>rw[b5] at he;cases he
   |some op=>
    rw[b5] at he;exact dk (E4 H.nodup b5 ho he hd)
  rw[hy];exact X.iff
 .intro j y E cf M bs;rw[aw] at M;by_cases e:j=i
  .subst e;rw[ho] at E;cases E;rw[bo];refine⟨I.st.size,fun id ht e=>?_,fun d' bb=>?_,t,ak,Y,ht,dn,D5 _ _,aJ⟩
   .have:=I.mem.lt ht e;omega
   .rw[hd] at bb;cases bb;rw[hd];simp only[Act.put,AJ];rw[yL,BH rfl,BH (by rw[I.asize,<-af.len];exact db)];rfl
  .have M:=M.resolve_left e;obtain⟨p1,p2,p3,t2,aj,ei,p4,p5,p6,p7⟩:=I.pend j y E cf M bs;rw[a9 j e];refine⟨p1,p2,fun d' bb=>?_,t2,aj,ei,p4,p5,by rw[CZ _ _ _ (b4 j y E cf M bs)];exact p6,p7⟩;have bt:o.dst≠some d':=fun c9=>e (E4 H.nodup E ho bb c9);rw[GR bt];exact p3 d' bb
 .intro j k y ok X N q3 q4 q5 q6 q7 q8 q9;rw[aw] at q5 q6;by_cases e:j=i<;>by_cases e2:k=i
  .rw[e,e2]
  .rw[e,bo,a9 k e2] at q9;have:=b4 k ok N q4 (q6.resolve_left e2) q8;omega
  .rw[e2,bo,a9 j e] at q9;have:=b4 j y X q3 (q5.resolve_left e) q7;omega
  .rw[a9 j e,a9 k e2] at q9;exact I.inj j k y ok X N q3 q4 (q5.resolve_left e) (q6.resolve_left e2) q7 q8 q9
end
section
variable {am:QC}{aY:Bool}{tg:List Tmp}{P:Program}{T:Tab}{call:CM}{an:Ys}{r:Option Nat}{al:Nat}{Z:Array Oper}{ae:PC}
variable {S:Nat->DS}{aX:Nat->Option Nat}{aH:World}{A:Nat->Nat}{q:Nat}{V:Array Bool}{W ad:Nat->Option Nat}{a:Act}{w ac:World}
variable{D:List (Tmp × Nat)}{o:Oper}{i:Nat}{K:Act->World->Prop}{Q:Exit->Act->World->Prop}
theorem Px {am:QC}(h:US am D o=3):Bd am D o=3\/(Bd am D o=2/\CS o.op=false):=by
 unfold US at h;split at h
 .rename_i d;rw[AB] at d;exact .inr ⟨yI d.1,by simpa using d.2⟩
 .exact .inl h
theorem oW {am:QC}(h:CS o.op=false)(C:Bd am D o=2):US am D o=3:=by
 unfold US;rw[h,C];rfl
theorem C8.comesw (H:C7 am aY tg P T call an Z ae S)(hA:Agr T (S Z.size).g)(f6:CB T (S Z.size).g)(c5:pcv T ae)(dv:Ch T (S 0).g ae)(dn:BX T (S 0).g.n aX (S 0).mem aH)(I0:C8 am P T Z S aX aH A q V W a w)(ho:Z[i]? =some o)
  (ax:V.getD i false=false) (c1:∀e∈o.after,Region.binds .any e=true->V.getD e.on false=true)  
  (hK:∀A' q' ad v ac,C8 am P T Z S aX aH A' q' (V.setIfInBounds i true) ad (a.put o.dst v) ac->(US am (By 0 Z.toList) o≠3->ac=w\/∃ob,ac=w.alloc ob)->(US am (By 0 Z.toList) o=3->∀(k:Nat) (ok:Oper),Z[k]? =some ok->Bd am (By 0 Z.toList) ok=4->V.getD k false=true->i<=k->ac.heap[A k]? =w.heap[A k]?)->K (a.put o.dst v) ac):Fe P r al Z o a w K Q:=by
 have cy:i < Z.size:=(AI.1 ho).1;have b0:i < V.size:=by rw[I0.size];exact cy
 obtain⟨R,hR,aa⟩:=H.step i o ho;obtain⟨aq,c,Y,en,de,gp,d2,a7,eo,j2,a9,hE⟩:=Ev aa;have bx:=FC I0.closed hR ho c1;have hh:=Gl _ 0 H.masks i R hR;obtain⟨af,_,_⟩:=H.later 0 i (by omega);rw[AM] at af;obtain⟨aj,_,_⟩:=H.later (i+1) (Z.size - (i+1)) (by omega);rw[show i+1+(Z.size - (i+1))=Z.size by omega] at aj;have hg:(S (i+1)).g=aq.g:=by rw[en]
 have d0:(S (i+1)).tmps=EL (S i).tmps o.dst c:=by rw[en]
 have ds:(S i).g.n<=(S (i+1)).g.n:=by
  obtain⟨l,_,_⟩:=H.later i 1 (by omega);exact l.grow.n
 have d4:Agr T aq.g:=by rw[<-hg];exact hA.of aj.grow
 have d8:CB T aq.g:=by rw[<-hg];exact f6.of aj.grow
 have dk:∀{a':Act},(∀e∈H6 aq (Is R (S i).gls).length,HX T Z (S (i+1)).g.n a' e)->∀p∈(S Z.size).gls,p.1=i->HX T Z (S (i+1)).g.n a' p.2/\V.getD p.2.j false=true:=by
  intro a' ie p hp i4;obtain⟨_,q2⟩:=H.gls Z.size (AE _) p hp;rw[i4,en] at q2;rcases Ap.1 q2 with O|O
  .obtain⟨e,X,rfl⟩:=BL.1 O;obtain⟨u1,u2⟩:=eo e X;exact⟨ie e X,bx e.j u2⟩
  .have:=(H.gls i (by omega) p O).1;omega
 have eu:=H.ord i o R ho hR;rcases Ov (am:=am) (By 0 Z.toList) o with⟨k0,kg,⟨x,kx,gd⟩|hB|hU⟩|hw
 .
  have I:=I0;obtain⟨lq,_,_⟩:=H.later 0 q (by have:=I.qle;omega);rw[AM] at lq;replace Y:=Jr Y (.inl (by omega));obtain⟨e1,e2,e3,e4⟩:=jT kg kx Y;obtain⟨M,g2,d5,cf,g3⟩:∃M,M<=Z.size/\(S i).g.n<=(S M).g.n/\(S q).g.n<=(S M).g.n/\(S 0).g.n<=(S M).g.n:=by
   rcases Nat.le_total q i with h|h
   .obtain⟨l,_,_⟩:=H.later q (i - q) (by omega);rw[show q+(i - q)=i by omega] at l;exact⟨i,by omega,AE _,l.grow.n,af.grow.n⟩
   .have:=I.qle;obtain⟨l,_,_⟩:=H.later i (q - i) (by omega);rw[show i+(q - i)=q by omega] at l;exact⟨q,by omega,l.grow.n,AE _,lq.grow.n⟩
  obtain⟨lM,_,_⟩:=H.later M (Z.size - M) (by omega);rw[show M+(Z.size - M)=Z.size by omega] at lM;obtain⟨c9,_,_⟩:=H.later 0 M (by omega);rw[AM] at c9;have ee:∀t∈CD Z o,x= .tmp t:=by
   intro t ht;unfold CD at ht;rw[kg] at ht;simp only[yJ,List.mem_filterMap] at ht;obtain⟨y,hy,el⟩:=ht;have f8:y=x:=by
    rcases kx with h|h|⟨k,h⟩<;>(rw[h] at hy;simpa [Op.operands] using hy)
   subst f8;cases y<;>simp at el;rw[el]
  have b5:=I.masked (C6:=CD Z o) (g:=(S M).g) H cy ax hR bx (fun t j u ht ao hd b1 _=>by
   obtain⟨_,aR,d1⟩:=GD b1;exact absurd (gd t (ee t ht)) (Nz Z.toList 0 j u t aR (by simpa using ao) d1 hd)) d5 cf
  obtain⟨c2,b2⟩:=JU (T:=T.wf (frO am T Z V q A)) (r:=r) (al:=al) (H.call _) H.ys (e4 (S q).mem (S M).g);refine b2 (Agr.wf (hA.of lM.grow)) (CB.wf (f6.of lM.grow)) (Nq c5) (Ch.wf (dv.grow c9.grow)) W a w K Q b5 fun ad v ac aB aJ r3=>?_;have a2:BY (T.wf (frO am T Z V q A)) (S M).g.n W (S q).mem w ad (S q).mem ac:=aJ;have db:BX (T.wf (frO am T Z V q A)) (S M).g.n ad (S q).mem ac:=aB.rel.mem;obtain⟨f1,f2⟩:=(a2.down cf).forget I.mem db (fun _ _=>rfl);have c6:=a2.same (I.mem.mono cf) (fun _ _=>rfl);have st:=BY.any f1 I.mem (fun _ _ _ _ h=>h) (fun _ _ _ ks _ h=>⟨_,ks,h,rfl⟩);have bs:BY T (S 0).g.n W (S q).mem w W (S q).mem ac:=(BY.wf (F:=frO am T Z V q A) (a5:=T.fr) (st (S 0).g.n):_);refine hK A q W v ac (I.next H ho ax c1 I.qle (by omega) (fun _ _ _ _ _=>Iff.rfl) bs (I.st.trans dn (AE _) bs) (fun c z=>BQ.mono0 (st _) (AE _) c z) (fun j u d c z _ _ _ _=>BQ.mono0 (st _) (AE _) c z) f2 ?_ ?_ ?_ ?_ ?_ (dk ?_)) (fun _=> .inl (r3 (by rcases kx with h|h|⟨k,h⟩<;>(rw[h];rfl)))) (fun h=>by rcases Px h with h|⟨h,_⟩<;>omega)
  .rw[<-I.asize];cases o.dst<;>simp[Act.put]
  .have:=I.defers.on f1;cases o.dst<;>exact this
  .intro j o' hj N;rw[CL _ _ _ b0];split
   .exact .inl rfl
   .exact I.base j o' hj N
  .intro j o' N h3;rw[CL _ _ _ b0];have bi:j≠i:=fun e=>by subst e;rw[ho] at N;cases N;omega
   rw[BG bi];exact I.mlist j o' N h3
  .intro d aO hd hc;have hv:BQ (T.wf (frO am T Z V q A)) (S M).g.n ad (S q).mem ac c ((a.put o.dst v).tmps.getD d undef):=by
    have:=aB.rel.at d;rw[de d hd];exact this
   have cj:=BQ.backF c6 _ _ (.inr fun id h=>h) hv;have ei:=AC.nlt_ok _ _ (d2 k0).1 cj;rw[<-hg] at ei;exact I.own H ho ax hd d0 ds (st _) ei hc
  .intro e X;unfold H6 at X;rw[e3] at X;simp[DS.masked] at X
 .
  obtain⟨gr,bt,x,y,yt,d6,h1,h2⟩:=hB;have I:=I0;obtain⟨lq,_,_⟩:=H.later 0 q (by have:=I.qle;omega);rw[AM] at lq;obtain⟨M,g2,d5,cf,g3⟩:∃M,M<=Z.size/\(S i).g.n<=(S M).g.n/\(S q).g.n<=(S M).g.n/\(S 0).g.n<=(S M).g.n:=by
   rcases Nat.le_total q i with h|h
   .obtain⟨l,_,_⟩:=H.later q (i - q) (by omega);rw[show q+(i - q)=i by omega] at l;exact⟨i,by omega,AE _,l.grow.n,af.grow.n⟩
   .have:=I.qle;obtain⟨l,_,_⟩:=H.later i (q - i) (by omega);rw[show i+(q - i)=q by omega] at l;exact⟨q,by omega,l.grow.n,AE _,lq.grow.n⟩
  obtain⟨lM,_,_⟩:=H.later M (Z.size - M) (by omega);rw[show M+(Z.size - M)=Z.size by omega] at lM;obtain⟨c9,_,_⟩:=H.later 0 M (by omega);rw[AM] at c9;replace Y:=Jr Y (.inl (by omega));obtain⟨aI,c2,b2,b3,b4,hF⟩:=pU kg d6 Y;have ee:∀t∈CD Z o,x= .tmp t\/y= .tmp t:=by
   intro t ht;unfold CD at ht;rw[kg] at ht;simp only[yJ,List.mem_filterMap] at ht;obtain⟨z,hz,ev⟩:=ht;have jp:z=x\/z=y:=by rw[d6] at hz;simpa [Op.operands] using hz
   rcases jp with rfl|rfl
   .cases z<;>simp at ev;exact .inl (by rw[ev])
   .cases z<;>simp at ev;exact .inr (by rw[ev])
  have b5:=I.masked (C6:=CD Z o) (g:=(S M).g) H cy ax hR bx (fun t j u ht ao hd b1 _=>by
   obtain⟨_,aR,d1⟩:=GD b1;rcases ee t ht with h|h
   .exact absurd (h1 t h) (Nz Z.toList 0 j u t aR (by simpa using ao) d1 hd)
   .exact absurd (h2 t h) (Nz Z.toList 0 j u t aR (by simpa using ao) d1 hd)) d5 cf
  have et:=(d2 k0).2.1;unfold Zz at et;rw[d6] at et;simp only[AB] at et;obtain⟨⟨⟨⟨f1,f2⟩,hN⟩,hO⟩,g1⟩:=et;have g7:∀z:Operand,BQ (T.wf (frO am T Z V q A)) (S M).g.n W (S q).mem w (EJ [] ((S i).masked (Ck 0 Z.toList) (okG (Bx Z.toList []) R i) R (CD Z o)).tmps z) (a.eval z):=fun z=>IM b5.rel (fun c hc=>by cases hc) z;have i8:=AC.nlt_ok _ _ hN (g7 x);have i9:=AC.nlt_ok _ _ hO (g7 y);have hS:Agr (T.wf (frO am T Z V q A)) (((S i).g.pushAll aI.us).needAll ae aI.ps):=by
   have:=Agr.wf (F:=frO am T Z V q A) d4;rw[b3] at this;exact this
  have hV:CB (T.wf (frO am T Z V q A)) (((S i).g.pushAll aI.us).needAll ae aI.ps):=by
   have:=CB.wf (F:=frO am T Z V q A) d8;rw[b3] at this;exact this
  obtain⟨z,aB,aJ,r3⟩:=S3 (W := W) (w:=w) c2 hS.need.new (hV.need (Nq c5)) (BQ.intAny f1 i8) (BQ.intAny f2 i9) x y;have ih:aq.g.n=(S i).g.n+aI.us.length:=by rw[b3,(EW _ _ _).1,Cr];rfl
  have i7:(execOp a.eval o).run P w= .ok (.value z) w:=OA (s:=do eqGuard gr bt x y (a.eval x) (a.eval y);binOp gr bt (a.eval x) (a.eval y)) (by simp only[execOp,d6]) aB;unfold Fe;rw[BH (by simp[Region.wanted,kg])];refine Kh (by rw[d6];exact fun c h=>by cases h) ?_;rw[i7];have st:∀n,BY (T.wf (frO am T Z V q A)) n W (S q).mem w W (S q).mem w:=fun n=>BY.refl _ _ _ _ _;refine hK A q W z w (I.next H ho ax c1 I.qle (by omega) (fun _ _ _ _ _=>Iff.rfl) (BY.refl T (S 0).g.n W (S q).mem w) I.st (fun c z h=>h) (fun j u d c z _ _ _ _ h=>h) I.mem ?_ ?_ ?_ ?_ ?_ (dk ?_)) (fun _=> .inl rfl) (fun h=>by rcases Px h with h|⟨h,_⟩<;>omega)
  .rw[<-I.asize];cases o.dst<;>simp[Act.put]
  .have:=I.defers;cases o.dst<;>exact this
  .intro j o' hj N;rw[CL _ _ _ b0];split
   .exact .inl rfl
   .exact I.base j o' hj N
  .intro j o' N h3;rw[CL _ _ _ b0];have bi:j≠i:=fun e=>by subst e;rw[ho] at N;cases N;omega
   rw[BG bi];exact I.mlist j o' N h3
  .intro d aO hd hc;have dj:c=(aq.tmps.get d).getD .any:=de d hd;have hv:BQ (T.wf (frO am T Z V q A)) (S (i+1)).g.n W (S q).mem w c ((a.put o.dst z).tmps.getD d undef):=by
    have i1:(S (i+1)).g.n=(S i).g.n+aI.us.length:=by rw[hg,ih]
    have hn:((S i).masked (Ck 0 Z.toList) (okG (Bx Z.toList []) R i) R (CD Z o)).tmps.n=a.tmps.size:=b5.rel.size.symm;rw[hF,hd] at dj;rw[hd];by_cases es:d < a.tmps.size
    .have e1:(EL ((S i).masked (Ck 0 Z.toList) (okG (Bx Z.toList []) R i) R (CD Z o)).tmps (some d) aI.c).get d=some aI.c:=by
      have hb:Nat.blt d ((S i).masked (Ck 0 Z.toList) (okG (Bx Z.toList []) R i) R (CD Z o)).tmps.n=true:=by rw[hn,Nat.blt_eq];exact es
      simp[EL,Bn.set,hb,Bn.get,CY]
     rw[e1] at dj;have e2:(a.put (some d) z).tmps.getD d undef=z:=by simp[Act.put,AJ,es]
     rw[e2,dj,i1];rw[dj] at g1;exact BQ.intAny g1 r3
    .have hb:Nat.blt d ((S i).masked (Ck 0 Z.toList) (okG (Bx Z.toList []) R i) R (CD Z o)).tmps.n=false:=by
      rw[hn];cases hx:Nat.blt d a.tmps.size with
      |false=>rfl
      |true=>rw[Nat.blt_eq] at hx;exact absurd hx es
     have e1:EL ((S i).masked (Ck 0 Z.toList) (okG (Bx Z.toList []) R i) R (CD Z o)).tmps (some d) aI.c=((S i).masked (Ck 0 Z.toList) (okG (Bx Z.toList []) R i) R (CD Z o)).tmps:=by
      simp[EL,Bn.set,hb]
     rw[e1] at dj;have e2:(a.put (some d) z).tmps.getD d undef=a.tmps.getD d undef:=by simp[Act.put,AJ,yL,es]
     rw[e2,hg];refine AC.nlt_ok (ap:=(S M).g.n) _ _ (d2 k0).1 ?_;rw[dj];exact b5.rel.at d
   exact I.own H ho ax hd d0 ds (st _) hv hc
  .intro e X;unfold H6 at X;rw[b4] at X;simp[DS.masked] at X
 .
  have I:=I0;obtain⟨lq,_,_⟩:=H.later 0 q (by have:=I.qle;omega);rw[AM] at lq;replace Y:=Jr Y (.inl (by omega));obtain⟨aR,x,kx,gd⟩:=hU;have dm:=(d2 k0).2.2;unfold lZ at dm;rw[kx] at dm;simp only at dm;split at dm
  case h_2=>cases dm
  rename_i nb id off ch hx;have g8:=Em dm;obtain⟨e1,e2,e3,hM⟩:=l9 kg kx hx Y;have h7:∃a3 e,(S i).mem.at id= .cells a3 e:=by
   unfold Cu EG at Y;simp only[kg,AD,Ag] at Y;split at Y
   .cases Y
   rw[kx] at Y;simp only[AD,AA] at Y;obtain⟨aI,hr,_⟩:=Y;have hl:HK P aR (.ptr id off) (S i).mem (S i).g=some aI:=by
    rw[<-hx];generalize Oy an o.dst=k at hr
    match k,hr with
    |0,hr=>exact hr
    |1,hr=>nomatch hr
    |k+2,hr=>exact hr
   unfold HK at hl;simp only[AD,AA] at hl;obtain⟨_,_,hl⟩:=hl;split at hl
   .rename_i a3 e X;exact⟨a3,e,X⟩
   .cases hl
  have hW:(S q).mem.at id=(S i).mem.at id:=by
   obtain⟨a3,e,X⟩:=h7;have hI:=I.qle;have tk:∀m:Mem,id < nb->Mem.at (m.take nb) id=m.at id:=fun m h=>by
    unfold Mem.at;rw[BB,BH h]
   rcases Nat.le_total q i with h|h
   .have:=H.keep ch q (i - q) (by omega) id;rw[show q+(i - q)=i by omega,tk _ g8] at this;exact this (by rw[X];exact fun h=>by cases h)
   .have:=H.keep2 ch i g8 (by rw[X];exact fun h=>by cases h) (q - i) (by omega);rwa [show i+(q - i)=q by omega] at this
  have e4:∀(m:Mem) (g:G),m.at id=(S i).mem.at id->Cu P call an Z ae { (S i).masked (Ck 0 Z.toList) (okG (Bx Z.toList []) R i) R (CD Z o) with mem:=m,g:=g } o=some { aq with mem:=m,g:=g }:=hM;obtain⟨M,g2,d5,cf,g3⟩:∃M,M<=Z.size/\(S i).g.n<=(S M).g.n/\(S q).g.n<=(S M).g.n/\(S 0).g.n<=(S M).g.n:=by
   rcases Nat.le_total q i with h|h
   .obtain⟨l,_,_⟩:=H.later q (i - q) (by omega);rw[show q+(i - q)=i by omega] at l;exact⟨i,by omega,AE _,l.grow.n,af.grow.n⟩
   .have:=I.qle;obtain⟨l,_,_⟩:=H.later i (q - i) (by omega);rw[show i+(q - i)=q by omega] at l;exact⟨q,by omega,l.grow.n,AE _,lq.grow.n⟩
  obtain⟨lM,_,_⟩:=H.later M (Z.size - M) (by omega);rw[show M+(Z.size - M)=Z.size by omega] at lM;obtain⟨c9,_,_⟩:=H.later 0 M (by omega);rw[AM] at c9;have ee:∀t∈CD Z o,x= .tmp t:=by
   intro t ht;unfold CD at ht;rw[kg] at ht;simp only[yJ,List.mem_filterMap] at ht;obtain⟨y,hy,el⟩:=ht;have f8:y=x:=by rw[kx] at hy;simpa [Op.operands] using hy
   subst f8;cases y<;>simp at el;rw[el]
  have b5:=I.masked (C6:=CD Z o) (g:=(S M).g) H cy ax hR bx (fun t j u ht ao hd b1 _=>by
   obtain⟨_,aR,d1⟩:=GD b1;exact absurd (gd t (ee t ht)) (Nz Z.toList 0 j u t aR (by simpa using ao) d1 hd)) d5 cf
  obtain⟨c2,b2⟩:=JU (T:=T.wf (frO am T Z V q A)) (r:=r) (al:=al) (H.call _) H.ys (e4 (S q).mem (S M).g hW);refine b2 (Agr.wf (hA.of lM.grow)) (CB.wf (f6.of lM.grow)) (Nq c5) (Ch.wf (dv.grow c9.grow)) W a w K Q b5 fun ad v ac aB aJ r3=>?_;have a2:BY (T.wf (frO am T Z V q A)) (S M).g.n W (S q).mem w ad (S q).mem ac:=aJ;have db:BX (T.wf (frO am T Z V q A)) (S M).g.n ad (S q).mem ac:=aB.rel.mem;obtain⟨f1,f2⟩:=(a2.down cf).forget I.mem db (fun _ _=>rfl);have c6:=a2.same (I.mem.mono cf) (fun _ _=>rfl);have st:=BY.any f1 I.mem (fun _ _ _ _ h=>h) (fun _ _ _ ks _ h=>⟨_,ks,h,rfl⟩);have bs:BY T (S 0).g.n W (S q).mem w W (S q).mem ac:=(BY.wf (F:=frO am T Z V q A) (a5:=T.fr) (st (S 0).g.n):_);refine hK A q W v ac (I.next H ho ax c1 I.qle (by omega) (fun _ _ _ _ _=>Iff.rfl) bs (I.st.trans dn (AE _) bs) (fun c z=>BQ.mono0 (st _) (AE _) c z) (fun j u d c z _ _ _ _=>BQ.mono0 (st _) (AE _) c z) f2 ?_ ?_ ?_ ?_ ?_ (dk ?_)) (fun _=> .inl (r3 (by rw[kx];rfl))) (fun h=>by rcases Px h with h|⟨h,_⟩<;>omega)
  .rw[<-I.asize];cases o.dst<;>simp[Act.put]
  .have:=I.defers.on f1;cases o.dst<;>exact this
  .intro j o' hj N;rw[CL _ _ _ b0];split
   .exact .inl rfl
   .exact I.base j o' hj N
  .intro j o' N h3;rw[CL _ _ _ b0];have bi:j≠i:=fun e=>by subst e;rw[ho] at N;cases N;omega
   rw[BG bi];exact I.mlist j o' N h3
  .intro d aO hd hc;have hv:BQ (T.wf (frO am T Z V q A)) (S M).g.n ad (S q).mem ac c ((a.put o.dst v).tmps.getD d undef):=by
    have:=aB.rel.at d;rw[de d hd];exact this
   have cj:=BQ.backF c6 _ _ (.inr fun id h=>h) hv;have ei:=AC.nlt_ok _ _ (d2 k0).1 cj;rw[<-hg] at ei;exact I.own H ho ax hd d0 ds (st _) ei hc
  .intro e X;unfold H6 at X;rw[e3] at X;simp[DS.masked] at X
 by_cases h4:Bd am (By 0 Z.toList) o=4
 .exact I0.early H dn ho ax c1 h4 fun A' q' ad v ac O C=>hK A' q' ad v ac O (fun _=> .inr C) (fun h=>by rcases Px h with h|⟨h,_⟩<;>omega)
 have h0:Bd am (By 0 Z.toList) o≠0:=by
  rcases hw with⟨h,_⟩|⟨h,_⟩|h|⟨h,_⟩<;>omega
 have i6:q<=i:=by
  rcases AQ i q with h|h
  .rcases I0.base i o h ho with O|O
   .rw[ax] at O;cases O
   .omega
  .exact h
 obtain⟨q, W,I,_,i5,fn⟩:=I0.reach H ho hR bx h0 h4 i6 i (AE _);have er:∀t j u,t∈CD Z o->Z[j]? =some u->u.dst=some t->Bd am (By 0 Z.toList) u=4->R.testBit j=true->j < q:=fun t j u _ ao _ b1 hb=>fn j u (by have:=hh j hb;omega) ao b1 hb;obtain⟨lq,_,_⟩:=H.later 0 q (by omega);rw[AM] at lq;obtain⟨cu,_,_⟩:=H.later q (i - q) (by omega);rw[show q+(i - q)=i by omega] at cu;have same:(∀j u,q<=j->j < i->Z[j]? =some u->3<=Bd am (By 0 Z.toList) u->R.testBit j=true)->(S i).mem=(S q).mem:=fun ik=>by
  obtain⟨_,_,lm⟩:=H.later q (i - q) (by omega);rw[show q+(i - q)=i by omega] at lm;refine lm fun j u O C ao=>?_;rcases AQ (Bd am (By 0 Z.toList) u) 3 with h|h
  .exact h
  .exfalso;have hb:=ik j u O C ao h;have kl:=Qd (am:=am) (D:=By 0 Z.toList) (o:=u);rcases AQ (Bd am (By 0 Z.toList) u) 4 with h5|h5
   .have:=(I.mlist j u ao (by omega)).1 (bx j hb);omega
   .have:=fn j u C ao (by omega) hb;omega
 rcases hw with⟨k1,kp⟩|⟨E,kf⟩|k3|⟨h,_⟩
 .
  replace Y:=Jr Y (.inl (by omega));obtain⟨e1,e2⟩:=jG kp Y;have b5:=I.masked (C6:=CD Z o) (g:=(S i).g) H cy ax hR bx er (AE _) cu.grow.n;obtain⟨c2,b2⟩:=JU (T:=T.wf (frO am T Z V q A)) (r:=r) (al:=al) (H.call _) H.ys (e2 (S q).mem);refine b2 (Agr.wf d4) (CB.wf d8) (Nq c5) (Ch.wf (dv.grow af.grow)) W a w K Q b5 fun ad v ac aB aJ r3=>?_;have a2:BY (T.wf (frO am T Z V q A)) (S i).g.n W (S q).mem w ad (S q).mem ac:=aJ;have db:BX (T.wf (frO am T Z V q A)) aq.g.n ad (S q).mem ac:=aB.rel.mem;obtain⟨f1,f2⟩:=(a2.down cu.grow.n).forget I.mem db (fun _ _=>rfl);have c6:=a2.same (I.mem.mono cu.grow.n) (fun _ _=>rfl);have st:=BY.any f1 I.mem (fun _ _ _ _ h=>h) (fun _ _ _ ks _ h=>⟨_,ks,h,rfl⟩);have bs:BY T (S 0).g.n W (S q).mem w W (S q).mem ac:=(BY.wf (F:=frO am T Z V q A) (a5:=T.fr) (st (S 0).g.n):_);refine hK A q W v ac (I.next H ho ax c1 I.qle h4 (fun _ _ _ _ _=>Iff.rfl) bs (I.st.trans dn (AE _) bs) (fun c z=>BQ.mono0 (st _) (AE _) c z) (fun j u d c z _ _ _ _=>BQ.mono0 (st _) (AE _) c z) f2 ?_ ?_ ?_ ?_ ?_ (dk ?_)) (fun _=> .inl (r3 (by cases i3:o.op<;>rw[i3] at kp<;>first|rfl|cases kp))) (fun h=>by rcases Px h with h|⟨h,_⟩<;>omega)
  .rw[<-I.asize];cases o.dst<;>simp[Act.put]
  .have:=I.defers.on f1;cases o.dst<;>exact this
  .intro j o' hj N;rw[CL _ _ _ b0];split
   .exact .inl rfl
   .exact I.base j o' hj N
  .intro j o' N h3;rw[CL _ _ _ b0];have bi:j≠i:=fun e=>by subst e;rw[ho] at N;cases N;omega
   rw[BG bi];exact I.mlist j o' N h3
  .intro d aO hd hc;have hv:BQ (T.wf (frO am T Z V q A)) aq.g.n ad (S q).mem ac c ((a.put o.dst v).tmps.getD d undef):=by
    have:=aB.rel.at d;rw[de d hd];exact this
   have cj:=BQ.backF c6 _ _ (.inr fun id h=>h) hv;rw[<-hg] at cj;exact I.own H ho ax hd d0 ds (st _) cj hc
  .intro e X;rw[hg];exact (aB.ges e (eo e X).1).un
 .
  obtain⟨s2,Y,t1,t2,t3,f3⟩:∃s2,Cu P call an Z ae { (S i).masked (Ck 0 Z.toList) (okG (Bx Z.toList []) R i) R (CD Z o) with mem:=(S q).mem } o=some s2/\s2.tmps=aq.tmps/\s2.g=aq.g/\s2.gl=aq.gl/\
    (∀id,(S q).mem.at id≠ .pad->s2.mem.at id=(S q).mem.at id)/\(AC.free c=true\/∀id,s2.mem.at id≠ .pad->(S q).mem.at id≠ .pad):=by
   have ix:DM (T.wf (frO am T Z V q A)) W Z { (S i).masked (Ck 0 Z.toList) (okG (Bx Z.toList []) R i) R (CD Z o) with mem:=(S q).mem } a w:=
    I.masked (C6:=CD Z o) (g:=(S i).g) H cy ax hR bx er (AE _) cu.grow.n
   cases ch:MJ tg with
   |none=>
    have hi:=same fun j u O C ao h3=>((eu j u ao C).2 E).resolve_right fun h=>by
     rcases h with h|⟨h,_⟩
     .omega
     .rw[ch] at h;cases h
    have gn:=Jr Y (.inr ch);have e0:{ (S i).masked (Ck 0 Z.toList) (okG (Bx Z.toList []) R i) R (CD Z o) with mem:=(S q).mem }=(S i).masked (Ck 0 Z.toList) (okG (Bx Z.toList []) R i) R (CD Z o):=by rw[<-hi];rfl
    refine⟨aq,by rw[e0];exact gn,rfl,rfl,rfl,?_⟩;rw[ip (.inr ch)] at a9;rw[<-hi];rcases a9 E with kf|hk
    .have c4:aq.mem=(S i).mem:=RX gn kf (Agr.wf d4) (CB.wf d8) (Nq c5) (Ch.wf (dv.grow af.grow)) (by rw[<-e0];exact ix);rw[c4];exact⟨fun _ _=>rfl,.inr fun _ h=>h⟩
    .exact hk
   |some n=>
    obtain⟨c2,b2,b3,b4⟩:=hE n ch;obtain⟨iv,_⟩:=b4 E;have he:JE tg (Bd am (By 0 Z.toList) o) (S i).mem=(S i).mem.take n:=by
     unfold JE;rw[ch,E];rfl
    rw[he] at Y;have h9:∀id,Mem.at ((S i).mem.take n) id≠ .pad->(S q).mem.at id=Mem.at ((S i).mem.take n) id:=fun id hp=>by
     have:=H.keep ch q (i - q) (by omega) id;rw[show q+(i - q)=i by omega] at this;exact this hp
    obtain⟨x,hx,e1,e2⟩:=pI (ai:=(S q).mem) (s:={ (S i).masked (Ck 0 Z.toList) (okG (Bx Z.toList []) R i) R (CD Z o) with mem:=(S i).mem.take n }) iv h9 Y;refine⟨_,e2,rfl,rfl,rfl,?_⟩;rcases hx with rfl|⟨rfl,hf⟩
    .rw[yJ];exact⟨fun _ _=>rfl,.inr fun _ h=>h⟩
    .refine⟨fun id hp=>?_,.inl ?_⟩
     .rw[Bj,BG fun e=>hp (Mem.at_ge (by omega))]
     .rcases a9 E with kf|⟨_,kf|kf⟩
      .rw[hf] at kf;cases kf
      .exact kf
      .rw[he] at kf;refine absurd (Mem.at_ge (AE _)) (kf ((S i).mem.take n).length ?_);rw[e1,Bj,BH rfl];exact fun h=>by cases h
  obtain⟨c2,b2⟩:=JU (T:=T.wf (frO am T Z V q A)) (r:=r) (al:=al) (H.call _) H.ys Y;refine b2 (by rw[t2];exact Agr.wf d4) (by rw[t2];exact CB.wf d8) (Nq c5) (Ch.wf (dv.grow af.grow)) W a w K Q (I.masked (C6:=CD Z o) (g:=(S i).g) H cy ax hR bx er (AE _) cu.grow.n) fun ad v ac aB aJ r3=>?_;have a2:BY (T.wf (frO am T Z V q A)) (S i).g.n W (S q).mem w ad s2.mem ac:=aJ;have db:BX (T.wf (frO am T Z V q A)) s2.g.n ad s2.mem ac:=aB.rel.mem;obtain⟨f1,f2⟩:=(a2.down cu.grow.n).forget I.mem db f3.1;have c6:=a2.same (I.mem.mono cu.grow.n) f3.1;have st:=BY.any f1 I.mem (fun _ _ _ _ h=>h) (fun _ _ _ ks _ h=>⟨_,ks,h,rfl⟩);have bs:BY T (S 0).g.n W (S q).mem w W (S q).mem ac:=(BY.wf (F:=frO am T Z V q A) (a5:=T.fr) (st (S 0).g.n):_);refine hK A q W v ac (I.next H ho ax c1 I.qle h4 (fun _ _ _ _ _=>Iff.rfl) bs (I.st.trans dn (AE _) bs) (fun c z=>BQ.mono0 (st _) (AE _) c z) (fun j u d c z _ _ _ _=>BQ.mono0 (st _) (AE _) c z) f2 ?_ ?_ ?_ ?_ ?_ (dk ?_)) (fun hl=> .inl (r3 (by cases hf:CS o.op with|true=>rfl|false=>exact absurd (oW hf E) hl))) (fun _ k ok hk d3 d7 fs=>f1.old (A k) (I.plt hk d3 d7 (by omega)) (I.pend k ok hk d3 d7 (by omega)).2.1)
  .rw[<-I.asize];cases o.dst<;>simp[Act.put]
  .have:=I.defers.on f1;cases o.dst<;>exact this
  .intro j o' hj N;rw[CL _ _ _ b0];split
   .exact .inl rfl
   .exact I.base j o' hj N
  .intro j o' N h3;rw[CL _ _ _ b0];have bi:j≠i:=fun e=>by subst e;rw[ho] at N;cases N;omega
   rw[BG bi];exact I.mlist j o' N h3
  .intro d aO hd hc;have hv:BQ (T.wf (frO am T Z V q A)) s2.g.n ad s2.mem ac c ((a.put o.dst v).tmps.getD d undef):=by
    have:=aB.rel.at d;rw[de d hd,<-t1];exact this
   have cj:=BQ.backF c6 _ _ f3.2 hv;rw[t2,<-hg] at cj;exact I.own H ho ax hd d0 ds (st _) cj hc
  .intro e X;rw[hg];have:=(aB.ges e (by rw[t3];exact (eo e X).1)).un;rw[t2] at this;exact this
 .
  replace Y:=Jr Y (.inl (by omega));obtain⟨W,I⟩:=C8.acts H (i - q) I (by omega) fun j u kr ku ao=>by
   have hl:=((eu j u ao (by omega)).1 k3).imp (bx j) (fun h=>h);refine⟨hl,fun h3=>?_⟩;rcases hl with h|h
   .have:=(I.mlist j u ao h3).1 h;omega
   .omega
  rw[show q+(i - q)=i by omega] at I;clear same fn er cu lq i5;obtain⟨F,kn⟩:∃F,F=frO am T Z V i A:=⟨_,rfl⟩;have b5:DM (T.wf (frO am T Z V i A)) W Z ((S i).masked (Ck 0 Z.toList) (okG (Bx Z.toList []) R i) R (CD Z o)) a w:=
   I.masked (C6:=CD Z o) (g:=(S i).g) H cy ax hR bx (fun t j u _ _ _ _ hb=>by have:=hh j hb;omega) (AE _) (AE _)
  have c4:(S (i+1)).mem=aq.mem:=by rw[en,k3];rfl
  obtain⟨c2,b2⟩:=JU (T:=T.wf (frO am T Z V i A)) (r:=r) (al:=al) (H.call _) H.ys Y;refine b2 (Agr.wf d4) (CB.wf d8) (Nq c5) (Ch.wf (dv.grow af.grow)) W a w K Q b5 fun ad v ac aB aJ r3=>?_;have a2:BY (T.wf (frO am T Z V i A)) (S i).g.n W (S i).mem w ad (S (i+1)).mem ac:=by
   have:BY (T.wf (frO am T Z V i A)) (S i).g.n W (S i).mem w ad aq.mem ac:=aJ;rw[c4];exact this
  have st:∀j u d c z,V.getD j false=true->Z[j]? =some u->u.dst=some d->(S (j+1)).tmps.get d=some c->BQ (T.wf (frO am T Z V i A)) (S (j+1)).g.n W (S i).mem w c z->BQ (T.wf (frO am T Z V i A)) (S (j+1)).g.n ad (S (i+1)).mem ac c z:=by
   intro j u d c z f4 ao hd hc;have f0:j < Z.size:=(AI.1 ao).1;rcases AQ j i with bi|bi
   .obtain⟨lj,_,_⟩:=H.later (j+1) (i - (j+1)) (by omega);rw[show j+1+(i - (j+1))=i by omega] at lj;exact BQ.mono0 (a2.down lj.grow.n) (AE _) c z
   .have kv:j≠i:=fun e=>by subst e;rw[ax] at f4;cases f4
    by_cases b1:Bd am (By 0 Z.toList) u=4
    .
     obtain⟨Rj,_,f7⟩:=H.step j u ao;obtain⟨sj,hL,aS,hG,c3,j3,ka,c7,kb,c8,ke,-⟩:=Ev f7;replace aS:=Jr aS (.inl (by omega));obtain⟨kj,g5,g6⟩:=c8 b1;rw[hd] at g5;cases g5;obtain⟨kg,t,kt⟩:=GD b1;obtain⟨l,_,q2,_,_,_⟩:=O6 kg kt aS;have h8:hL= .ptr (S j).mem.length 0:=by
      rw[c3 d hd,q2,hd];show ((((S j).masked (Ck 0 Z.toList) (okG (Bx Z.toList []) Rj j) Rj (CD Z u)).tmps.set d (.ptr (S j).mem.length 0)).get d).getD .any=_;rw[Bn.get_set_self ((S j).masked (Ck 0 Z.toList) (okG (Bx Z.toList []) Rj j) Rj (CD Z u)).tmps _ g6];rfl
     have h6:c= .ptr (S j).mem.length 0:=by
      rw[hG] at hc;simp only[hd,EL] at hc;rw[Bn.get_set_self _ _ g6] at hc;cases hc;exact h8
     rw[h6];exact BQ.monoV a2 _ z rfl
    .cases f5:aY with
     |false=>
      have hq:=VB (gp k3 f5);have hs:=UH (gp k3 f5);rw[<-c4] at hq hs;exact BQ.mono0 (BY.any a2 I.mem hq hs _) (AE _) c z
     |true=>
      have fv:j < (Bx Z.toList []).length:=by rw[EF];exact f0
      have fd:=AF fv;obtain⟨Rj,g4,f7⟩:=H.step j u ao;obtain⟨_,_,_,_,_,_,_,i2,_,_,_,hX⟩:=Ev f7;have gl:Rj.testBit i=true->False:=fun hb=>by
       have:=FC I.closed g4 ao (fun e X hb=>I.closed j u ao f4 e X hb) i hb;rw[ax] at this;cases this
      have hm:=H.ord j u _ ao g4 i o ho (by omega);have kk:=Qd (am:=am) (D:=By 0 Z.toList) (o:=u);by_cases hk:Bd am (By 0 Z.toList) u < 2
      .rcases i2 f5 hk d c hd hc with h|h
       .exact BQ.monoV a2 c z h
       .exact (gl (m7 h (by omega))).elim
      .by_cases ha:Bd am (By 0 Z.toList) u=2
       .rcases hm.2 ha with h|h|⟨h,_⟩
        .exact (gl h).elim
        .omega
        .obtain⟨n,i0⟩:=Option.isSome_iff_exists.1 h;exact BQ.monoV a2 c z (((hX n i0).2.2.2 ha).2 d c hd hc)
       .rcases hm.1 (by omega) with h|h
        .exact (gl h).elim
        .omega
  have bs:BY T (S 0).g.n W (S i).mem w ad (S (i+1)).mem ac:=(BY.wf (F:=frO am T Z V i A) (a5:=T.fr) (a2.down af.grow.n):_);refine hK A (i+1) ad v ac (I.next H ho ax c1 (by omega) h4 (fun j u ao b1 hl=>?_) bs (I.st.trans dn (AE _) bs) (fun c z=>BQ.mono0 (a2.down af.grow.n) (AE _) c z) st ?_ ?_ ?_ ?_ ?_ ?_ (dk ?_)) (fun h=>absurd (by unfold US;rw[k3];rfl) h) (fun _ k ok hk d3 d7 fs=>a2.old (A k) (I.plt hk d3 d7 fs) (I.pend k ok hk d3 d7 fs).2.1)
  .have bi:j≠i:=fun e=>by subst e;rw[ho] at ao;cases ao;exact h4 b1
   constructor<;>(intro h;omega)
  .rw[hg,c4];exact aB.rel.mem
  .rw[<-I.asize];cases o.dst<;>simp[Act.put]
  .rw[c4];exact aB.rel.defers
  .intro j o' hj N;rw[CL _ _ _ b0];split
   .exact .inl rfl
   .rename_i bi;exact ((eu j o' N (by omega)).1 k3).imp (bx j) (fun h=>h)
  .intro j o' N h3;rw[CL _ _ _ b0];split
   .rename_i bi;subst bi;simp
   .rename_i bi;have f0:j < Z.size:=(AI.1 N).1;rcases AQ j i with h|h
    .have:=bx j (((eu j o' N h).1 k3).resolve_right (by omega));rw[this];simp;omega
    .constructor
     .intro hl;exfalso;have fv:j < (Bx Z.toList []).length:=by rw[EF];exact f0
      have fd:=AF fv;have hb:=((H.ord j o' _ N fd i o ho (by omega)).1 h3).resolve_right (by omega);have:=FC I.closed fd N (fun e X hb=>I.closed j o' N hl e X hb) i hb;rw[ax] at this;cases this
     .intro h;omega
  .intro d aO hd hc;have hv:BQ (T.wf (frO am T Z V i A)) (S (i+1)).g.n ad (S (i+1)).mem ac c ((a.put o.dst v).tmps.getD d undef):=by
    have:=aB.rel.at d;rw[de d hd,hg,c4];exact this
   exact I.own H ho ax hd d0 ds a2 hv hc
  .intro e X;rw[hg];exact (aB.ges e (eo e X).1).un
 .omega
theorem C8.comes (H:C7 am aY tg P T call an Z ae S)(y:Agr T (S Z.size).g)(M:CB T (S Z.size).g)(N:pcv T ae)(X:Ch T (S 0).g ae)(C:BX T (S 0).g.n aX (S 0).mem aH)(u:C8 am P T Z S aX aH A q V W a w)(E:Z[i]? =some o)
  (ab:V.getD i false=false) (Y:∀e∈o.after,Region.binds .any e=true->V.getD e.on false=true)  
  (z:∀d p ad v ac,C8 am P T Z S aX aH d p (V.setIfInBounds i true) ad (a.put o.dst v) ac->K (a.put o.dst v) ac):Fe P r al Z o a w K Q:=by
 exact u.comesw H y M N X C E ab Y fun d p ad v ac O _ _=>z d p ad v ac O
end
section
variable {am:QC}{aY:Bool}{tg:List Tmp}{P:Program}{T:Tab}{call:CM}{an:Ys}{r:Option Nat}{al:Nat}{Z:Array Oper}{ae:PC}
variable{aX:Nat->Option Nat}{aH:World}
theorem C8.full {S:Nat->DS}(H:C7 am aY tg P T call an Z ae S){A:Nat->Nat}{q:Nat}{V:Array Bool}{W :Nat->Option Nat}{a:Act}{w:World}(y:C8 am P T Z S aX aH A q V W a w)(u:∀j,j < Z.size->V.getD j false=true):
  ∃ ad,DM T ad Z ⟨(S Z.size).tmps,(S Z.size).mem,(S Z.size).g,(S Z.size).gls.map (·.2)⟩ a w/\BY T (S 0).g.n aX (S 0).mem aH ad (S Z.size).mem w:=by
 have a1:=y.qle;obtain⟨W,I⟩:=C8.acts H (Z.size - q) y (by omega) fun j o O C d=>by
  refine⟨.inl (u j (by omega)),fun X=>?_⟩;have:=(y.mlist j o d X).1 (u j (by omega));omega
 rw[show q+(Z.size - q)=Z.size by omega] at I;obtain⟨af,_,_⟩:=H.later 0 Z.size (by omega);rw[AM] at af;have ao:T.wf (frO am T Z V Z.size A)=T:=by
  have e:frO am T Z V Z.size A=T.fr:=by
   funext b off;apply propext;constructor
   .exact fun h=>h.1
   .exact fun h=>⟨h,fun⟨i,o,d,_,_,hq,_⟩=>by have:=(AI.1 d).1;omega⟩
  rw[e];rfl
 have E:=I.mem;rw[ao] at E;refine⟨W,⟨⟨I.defers,by rw[I.asize,af.len],fun t c Y=>?_,E⟩,fun e he=>?_⟩,I.st⟩
 .have:=I.val H (AE _) Y fun i o d hd=> .inl (by
   have z:i < Z.size:=(AI.1 d).1;exact⟨u i z,z,fun _=>z⟩)
  grind
 .obtain⟨p,M,rfl⟩:=BL.1 he;have aw:=(H.gls Z.size (AE _) p M).1;obtain⟨N,_,_⟩:=H.later (p.1+1) (Z.size - (p.1+1)) (by omega);rw[show p.1+1+(Z.size - (p.1+1))=Z.size by omega] at N;exact (I.gfacts p M (u p.1 aw)).1.up N.grow.n
theorem ru {S:Nat->DS}(H:C7 am aY tg P T call an Z ae S)(hA:Agr T (S Z.size).g)(b1:CB T (S Z.size).g)(b2:pcv T ae)(b3:Ch T (S 0).g ae){Q:Exit->Act->World->Prop}(bt:BX T (S 0).g.n aX (S 0).mem aH)
  (hK:∀ W a w,DM T W Z ⟨(S Z.size).tmps,(S Z.size).mem,(S Z.size).g,(S Z.size).gls.map (·.2)⟩ a w->BY T (S 0).g.n aX (S 0).mem aH W (S Z.size).mem w->Q .normal a w):
  ∀(aK:Nat) (V:Array Bool) (A:Nat->Nat) (W :Nat->Option Nat) (q:Nat) (a:Act) (w:World),C8 am P T Z S aX aH A q V W a w->FA V=aK->wpAnyIn (fen r) al P .any Z Q aK V a w:=by
 intro aK;induction aK with
 |zero=>
  intro V A W q a w I hu;have d:∀j,j < Z.size->V.getD j false=true:=fun j z=>by
   cases E:V.getD j false with
   |true=>rfl
   |false=>
    have:=KF (V:=V) (i:=j) (by rw[I.size];exact z) E;omega
  obtain⟨aV,O,C⟩:=I.full H d;refine wpAnyIn_done ?_ (hK aV a w O C) _;refine List.eq_nil_iff_forall_not_mem.2 fun i ab=>?_;obtain⟨O,o,y,_⟩:=mem_ready.1 ab;have u:i < Z.size:=(AI.1 y).1;have C:=d i u;rw[AJ] at O C;have M:i < V.size:=by rw[I.size];exact u
  rw[yO M] at O C;simp only[Option.getD_some] at O C;rw[O] at C;cases C
 |succ aK ih=>
  intro V A W q a w I hu;by_cases d:∀j,j < Z.size->V.getD j false=true
  .have hc:=Km (h:=Z.size) (by rw[I.size];exact AE _) (fun j=>by
    refine⟨fun h=>?_,d j⟩;rcases AQ j Z.size with O|O
    .exact O
    .rw[AJ,Array.getElem?_eq_none (by rw[I.size];exact O)] at h;cases h)
   rw[hu,I.size] at hc;omega
  .simp only[Classical.not_forall] at d;obtain⟨j,z,E⟩:=d;have bx:∃j,j < Z.size/\V.getD j false=false/\∀i,i < j->V.getD i false=true:=by
    have b6:∀n,(∃j,j < n/\j < Z.size/\V.getD j false=false)->∃j,j < Z.size/\V.getD j false=false/\∀i,i < j->V.getD i false=true:=by
     intro n;induction n with
     |zero=>rintro⟨j,O,_⟩;omega
     |succ n b5=>
      rintro⟨j,O,C,Y⟩;by_cases p:∃j,j < n/\j < Z.size/\V.getD j false=false
      .exact b5 p
      .have bo:j=n:=by
        rcases AQ j n with h|h
        .exact absurd ⟨j,h,C,Y⟩ p
        .omega
       subst bo;refine⟨j,C,Y,fun i ab=>?_⟩;cases bs:V.getD i false with
       |true=>rfl
       |false=>exact absurd ⟨i,ab,by omega,bs⟩ p
    exact b6 (j+1) ⟨j,Nat.lt_succ_self _,z,by simpa using E⟩
   obtain⟨U,X,ao,bb⟩:=bx;have a2:∀i,V.getD i true=false->V.getD i false=false:=fun i h=>by
    rw[AJ] at h⊢;cases p:V[i]? with
    |none=>rfl
    |some b=>rw[p] at h;exact h
   have aw:U∈Region.ready .any Z V:=by
    obtain⟨o,y⟩:=C7.op (Z:=Z) X;refine mem_ready.2 ⟨?_,o,y,fun e he hb=>bb e.on (XF H.masks y he hb)⟩;have M:U < V.size:=by rw[I.size];exact X
    rw[AJ,yO M] at ao⊢;simpa using ao
   refine⟨(fun b0=>by rw[b0] at aw;cases aw),fun i bm=>?_⟩;obtain⟨q1,o,N,q3⟩:=mem_ready.1 bm;have u:i < Z.size:=(AI.1 N).1;refine PB N (I.comes H hA b1 b2 b3 bt N (a2 i q1) q3 fun A' q' ad v ac I'=>?_);refine ih _ _ _ _ _ ac I' ?_;have:=KF (V:=V) (i:=i) (by rw[I.size];exact u) (a2 i q1);omega
theorem Rd {D z:List (Tmp × Nat)}{E:List Nat}:∀{l:List Oper} {u:List Nat} {U:Nat} {d p:DS},Ru am aY tg P call an Z D z E ae u l U d=some p->
  ∃S:Nat->DS,S U=d/\S (U+l.length)=p/\∀i o,l[i]? =some o->∃R,u[i]? =some R/\WY am aY tg P call an Z D z E ae R (U+i) o (S (U+i))=some (S (U+i+1))
 |[],u,U,d,p,h=>by
  have N:some d=some p:=by cases u<;>exact h
  cases N;exact⟨fun _=>d,rfl,rfl,fun i o Y=>by simp at Y⟩
 |o::l,[],U,d,p,h=>by simp[Ru] at h
 |o::l,R::u,U,d,p,h=>by
  simp only[Ru,AD,AA] at h;obtain⟨S1,O,C⟩:=h;obtain⟨S,q1,q2,q3⟩:=Rd C;refine⟨fun k=>if k=U then d else S k,by simp,?_,fun i o' y=>?_⟩
  .simp only[Ad];rw[BG (by omega),<-q2];congr 1;omega
  .cases i with
   |zero=>
    simp at y;subst y;refine⟨R,rfl,?_⟩;simp only[Nat.add_zero,if_true];rw[BG (by omega),q1];exact O
   |succ i=>
    obtain⟨M,X,this⟩:=q3 i o' (by simpa using y);refine⟨M,by simpa using X,?_⟩;simp only;rw[BG (by omega),BG (by omega),show U+(i+1)=U+1+i by omega];exact this
theorem pj (hm:P.follows .mixedOrders=true)(bx:∀T,Dj P T call)(ci:ES P T.lp an){l:Loc}{g:G}{aq:RS}(h:IR am aY tg P call an Z ae l g=some aq):
  Bo g aq.g/\aq.tmps.n=l.tmps.n/\(Agr T aq.g->CB T aq.g->pcv T ae->Ch T g ae->∀id W a w Q,Rel T g.n W l a w->
   (∀ ad a' ac,DM T ad Z aq a' ac->BY T g.n W l.mem w ad aq.mem ac->Q .normal a' ac)->(Code.region id Z true).wpIn (fen r) al P Q a w):=by
 unfold IR at h;simp only at h;split at h
 .rename_i N;rw[AB,AB,AB] at N;obtain⟨⟨⟨b6,b8⟩,cb⟩,ch⟩:=N;simp only[AD,AA] at h;obtain⟨Sh,hh,ht⟩:=h;obtain⟨S,O,q2,q3⟩:=Rd hh;rw[AM,Array.length_toList] at q2;have H:C7 am aY tg P T call an Z ae S:=by
   refine⟨fun j o M=>?_,b6,b8,fun i o R M u j z ao b4=>?_,fun i o R M u n0 n4 j z ao b4 h4 hb m om ca b7=>?_,bx,ci,by rw[O]⟩
   .obtain⟨R,u,this⟩:=q3 j o (by simpa using M);rw[AM] at this;exact⟨R,u,this⟩
   .have:=aZ cb i R (Bd am (By 0 Z.toList) o) u (by simp[M]) j (Bd am (By 0 Z.toList) z) (by simp[ao]) (by omega);exact⟨this.1,this.2⟩
   .have X:∀(j:Nat) (z:Oper),Z[j]? =some z->(Z.toList.map (Bd am (By 0 Z.toList)))[j]? =some (Bd am (By 0 Z.toList) z):=fun j z h=>by simp[h]
    have a5:=Rk (U:=0) (j:=j) (by rw[X j z ao,h4]);rw[AM] at a5;have b1:=dA ch i R _ u (X i o M) n0 n4 j a5 (by omega) hb;have:=dI b1 m _ (X m om ca) b7;rw[AM] at this;exact this
  obtain⟨af,_,_⟩:=H.later 0 Z.size (by omega);rw[AM] at af;have C:(S 0).g=g:=by rw[O]
  have aP:(S 0).mem=l.mem:=by rw[O]
  have ax:(S 0).tmps=l.tmps:=by rw[O]
  subst q2;injection ht with ht
  subst ht;refine⟨?_,?_,fun hA b9 cc ce id W a w Q u hK=>?_⟩
  .rw[<-C];exact af.grow
  .rw[<-ax];exact af.len
  .refine wpIn_region_any hm ?_;have a9:=BY.drawn T (S 0).g.n W (S 0).mem w (w.drawn+1);have a3:BX T (S 0).g.n W (S 0).mem { w with drawn:=w.drawn+1 }:=by rw[C,aP];exact u.mem.drawn _
   have E:∀j,(Array.replicate Z.size false).getD j false=false:=fun j=>by
    rw[AJ,Array.getElem?_replicate];split<;>rfl
   have hT:T.wf (frO am T Z (Array.replicate Z.size false) 0 (fun _=>0))=T:=by
    have e:frO am T Z (Array.replicate Z.size false) 0 (fun _=>0)=T.fr:=by
     funext b off;apply propext;constructor
     .exact fun h=>h.1
     .exact fun h=>⟨h,fun⟨i,o,M,_,y,_,_⟩=>by rw[E] at y;cases y⟩
    rw[e];rfl
   have I0:C8 am P T Z S W { w with drawn:=w.drawn+1 } (fun _=>0) 0 (Array.replicate Z.size false) W a { w with drawn:=w.drawn+1 }:=by
    refine⟨by simp,fun j o _ Y=>?_,Ak _,fun j o Y=>by omega,fun j o _ _=>?_,(by rw[aP];exact u.defers.on (BY.drawn T g.n W l.mem w (w.drawn+1))),by rw[ax];exact u.size,by rw[hT];exact a3,fun t c N _=>?_,fun i o d c ab=>?_,fun p _ hp=>?_,fun i o _ _ y=>?_,fun i j oi z _ _ _ _ y=>?_,BY.refl _ _ _ _ _⟩
    .rw[E] at Y;cases Y
    .rw[E];simp
    .rw[ax] at N;have:=u.tmps t c N;rw[hT,C,aP];exact BQ.mono0 (by rw[<-C,<-aP];exact a9) (AE _) _ _ this
    .rw[E] at ab;cases ab
    .rw[E] at hp;cases hp
    .rw[E] at y;cases y
    .rw[E] at y;cases y
   have b0:FA (Array.replicate Z.size false)=Z.size:=by simp[FA,List.countP_replicate]
   refine ru H hA b9 cc (by rw[C];exact ce) a3 (fun aV a2 w2 b3 cf=>?_) Z.size _ _ W 0 a _ I0 b0;refine hK aV a2 w2 b3 ?_;rw[<-C,<-aP];exact a9.trans (by rw[C,aP];exact u.mem) (AE _) cf
 .cases h
end
section
variable {P:Program}{F:Fence}{n:Nat}{Q:Exit->Act->World->Prop}{a:Act}{w:World}
variable{b:Frame}{k:List Item}{aC:List Frame}{c:Code}
theorem HB :step P (lone (b.atR a (.code (.scope c)::k)) aC w)= .next (lone (b.atR a (.code c:: .inScope c::k)) aC w):=
 step_lone_go (by simp[stepG,stepG.exec,Frame.atR])
theorem ZV :step P (lone (b.atR a (.inScope c::k)) aC w)= .next (lone (b.atR a k) aC w):=
 step_lone_go (by simp[stepG,stepG.exec,Frame.atR])
theorem lF (h:c.wpIn F n P (Exit.noGoto Q) a w):(Code.scope c).wpIn F n P Q a w:=by
 intro b k aC ab E N;have d:(lone (b.atR a (.code (.scope c)::k)) aC w).fenced P F:=fenced_calm E N rfl;obtain⟨e,y,z,u,p⟩:=h b (.inScope c::k) aC ab E N;cases e with
 |normal=>exact⟨.normal,y,z,u,.head d HB (StepsIn.trans p (.one (fenced_calm E N rfl) ZV))⟩
 |exit id=>
  have X:exitTo id (.inScope c::k)=exitTo id k:=by simp[exitTo]
  exact⟨.exit id,y,z,u,fun k' M=> .head d HB (p.1 k' (by rw[X];exact M)),
   fun Y M=>let⟨aw,O,C⟩:=p.2 Y (by rw[X];exact M);⟨aw,O,.head d HB C⟩⟩
 |goto l=>exact u.elim
 |ret=>exact⟨_,y,z,u,.of_steps (.one d HB) p⟩
 |panic ch=>exact⟨_,y,z,u,.of_steps (.one d HB) p⟩
 |outgrown=>exact⟨_,y,z,u,.of_steps (.one d HB) p⟩
end
section
variable {P:Program}{T:Tab}{call:CM}{an:Ys}{r:Option Nat}{al:Nat}{Z bf:Array Oper}{ae:PC}
variable {W :Nat->Option Nat}{a:Act}{w ac:World}
def Wk (m ag:Mem):Prop:=∀id,ag.at id=m.at id\/∃l ak e,m.at id= .cells l e/\ag.at id= .cells ak e
theorem Wk.symm {m ag:Mem}(h:Wk m ag):Wk ag m:=fun id=>by
 rcases h id with h|⟨l,ak,e,O,C⟩
 .exact .inl h.symm
 .exact .inr ⟨ak,l,e,C,O⟩
theorem Wk.step {n:Nat}{m ag:Mem}(h:Wk m ag):BY T n W m w W ag w:=by
 refine⟨rfl,rfl,rfl,AE _,fun id d=>?_,fun id d=>⟨rfl,?_⟩,fun id _ u=>?_,fun id b d u _=>?_,fun _ _ _=>rfl,fun id x ks e p=> .inl ⟨?_,rfl,fun _ _=>rfl⟩,fun id x y ks e p=> .inr ⟨x,y,ks,?_,rfl,.inl ⟨rfl,rfl,fun _ Y _ z=>⟨Y,z,rfl⟩⟩⟩⟩<;>rcases h id with h|⟨l,ak,E,O,C⟩
 .rw[h];exact d
 .grind
 .rw[h];exact d
 .rw[C];rfl
 .rw[h] at u;exact u
 .rw[O];rfl
 .rw[h,d] at u;cases u
 .rw[O] at d;cases d
 .rw[h];exact p
 .rw[O] at p;cases p
 .rw[h];exact p
 .rw[O] at p;cases p
end
section
variable {T:Tab}{n:Nat}{W :Nat->Option Nat}{m:Mem}{w:World}
def KU:Blk->Blk| .mrow _ _ _ _=> .gone|b=>b
theorem QW (f:Blk->Blk)(d:f .pad= .pad)(m:Mem)(id:Nat):Mem.at (m.map f) id=f (m.at id):=by
 unfold Mem.at;grind
theorem NW (m:Mem)(id:Nat):Mem.at (m.map KU) id=KU (m.at id):=QW _ rfl m id
theorem Cm (m:Mem)(id:Nat):Mem.at (m.map KU) id=m.at id\/Mem.at (m.map KU) id= .gone:=by
 rw[NW];cases m.at id<;>simp[KU]
theorem jo {b off:Nat}(h:Bt T W m w b off):Bt T W (m.map KU) w b off:=
 ⟨h.1,h.2.1,fun id=>by
  have:=h.2.2 id;rw[NW];cases d:m.at id<;>rw[d] at this<;>first|exact this|trivial⟩
mutual
theorem S4 (d:BX T n W m w):∀(c:AC) (v:Value),BQ T n W m w c v->BQ T n W (m.map KU) w (Ng m c) v
 | .mr id y,v,h=>by
  have back:BQ T n W (m.map KU) w (.mr id y) v:=BQ.mono0 (BY.weaken (Cm m)) (AE _) _ _ h;unfold Ng;split
  .rename_i x aF ks e N;split
   .rename_i hy;have hy:=yI hy;subst hy;obtain⟨⟨h0,O⟩,j,a,I,k1,E,k3,⟨k4,k5⟩,k6⟩:=h;have hb:=d.blk id;rw[N] at hb;obtain⟨⟨g0,_⟩,l,g1,aw,g3,u⟩:=hb;have e1:j=l.length:=by rw[k1] at aw;injection aw
    have e2:j.toNat=l.length:=by omega
    refine⟨g0,l,g1,g3.1,fun e=>absurd e g3.2,a,I,by rw[k3,e2],by omega,fun bm=>?_⟩;rcases u with⟨_,rfl⟩|⟨X,Y,us,u,g5,g6,g7⟩
    .simp at bm
    .rcases k6 _ _ _ N with⟨M,_⟩|⟨b3,ca,M,q2,_⟩
     .rw[u] at M;cases M
     .rw[u] at M;cases M;refine⟨X,0,q2,?_⟩;have b6:=g6.len;refine Bu.holds (ok:=Bt T W m w) (o:=0) (fun b off aa=>⟨jo aa,rfl⟩) g6 (fun p hp=>⟨⟨(AI.1 g5).1,g7 _,fun z=>?_⟩,?_⟩)
      .rw[NW];by_cases a7:z=id
       .rw[a7,N];trivial
       .have ax:(m.at z).tracked=true-> W z≠some X:=fun ht he=>a7 (d.inj z id X ht (by rw[N];rfl) he u);cases bs:m.at z<;>rw[bs] at ax<;>first|trivial|exact ax rfl|exact fun he=>absurd he (ax rfl)
      .rw[AM,HY g5,AR (by omega)]
   .exact back
  .exact back
 | .on c a,v,h=>⟨h.1,fun O=>S4 d a v (h.2 O)⟩
 | .gd c a,v,h=>⟨h.1,fun O=>S4 d a v (h.2.1 O),h.2.2⟩
 | .fn f a b,v,⟨Y,us,O,C,h3⟩=>⟨Y,us,O,NC d a Y C,NC d b us h3⟩
 | .agg l,v,⟨Y,O,C⟩=>⟨Y,O,NC d l Y C⟩
 | .tup l,v,⟨Y,O,C⟩=>⟨Y,O,NC d l Y C⟩
 | .any,v,h=>BQ.mono0 (BY.weaken (Cm m)) (AE _) _ _ h
 | .anyc,v,h=>BQ.mono0 (BY.weaken (Cm m)) (AE _) _ _ h
 | .cb _,v,h=>BQ.mono0 (BY.weaken (Cm m)) (AE _) _ _ h
 | .b _,v,h=>BQ.mono0 (BY.weaken (Cm m)) (AE _) _ _ h
 | .nb _,v,h=>BQ.mono0 (BY.weaken (Cm m)) (AE _) _ _ h
 | .ci _ _,v,h=>BQ.mono0 (BY.weaken (Cm m)) (AE _) _ _ h
 | .i _ _ _ _,v,h=>BQ.mono0 (BY.weaken (Cm m)) (AE _) _ _ h
 | .cv _,v,h=>BQ.mono0 (BY.weaken (Cm m)) (AE _) _ _ h
 | .v _,v,h=>BQ.mono0 (BY.weaken (Cm m)) (AE _) _ _ h
 | .s _,v,h=>BQ.mono0 (BY.weaken (Cm m)) (AE _) _ _ h
 | .ptr _ _,v,h=>BQ.mono0 (BY.weaken (Cm m)) (AE _) _ _ h
 | .pix _ _ _ _ _ _,v,h=>BQ.mono0 (BY.weaken (Cm m)) (AE _) _ _ h
 | .ro _ _,v,h=>BQ.mono0 (BY.weaken (Cm m)) (AE _) _ _ h
 | .rp _ _ _ _,v,h=>BQ.mono0 (BY.weaken (Cm m)) (AE _) _ _ h
 | .vec _ _ _,v,h=>BQ.mono0 (BY.weaken (Cm m)) (AE _) _ _ h
 | .sel _ _,v,h=>BQ.mono0 (BY.weaken (Cm m)) (AE _) _ _ h
 | .yl _,v,h=>BQ.mono0 (BY.weaken (Cm m)) (AE _) _ _ h
 | .asl _ _ _,v,h=>BQ.mono0 (BY.weaken (Cm m)) (AE _) _ _ h
 | .rsv _ _ _,v,h=>BQ.mono0 (BY.weaken (Cm m)) (AE _) _ _ h
 | .mp _ _ _ _ _,v,h=>BQ.mono0 (BY.weaken (Cm m)) (AE _) _ _ h
 | .mv _,v,h=>BQ.mono0 (BY.weaken (Cm m)) (AE _) _ _ h
theorem NC (d:BX T n W m w):∀(l:List AC) (Y:List Value),BR T n W m w l Y->BR T n W (m.map KU) w (R7 m l) Y
 |[],_,h=>h
 |c::l,_,⟨u,us,O,C,h3⟩=>⟨u,us,O,S4 d c u C,NC d l us h3⟩
end
theorem VT (m:Mem):Wk (m.map KU) (Rq m):=fun id=>by
 unfold Rq;rw[NW,QW _ rfl];cases m.at id with
 |cells l e=>exact .inr ⟨l,R7 m l,e,rfl,rfl⟩
 |_=>exact .inl rfl
theorem te {k:Nat}(p:BX T n W m w)(d:n<=k):BY T n W m w W (Rq m) w:=
 (BY.weaken (Cm m)).trans p d ((VT m).step (n:=k))
theorem vn (d:BX T n W m w):BX T n W (Rq m) w:=by
 have ab:=BX.weaken d (Cm m);have M:BY T n W (m.map KU) w W (Rq m) w:=(VT m).step;have u:∀id,Mem.at (Rq m) id=frzB m (m.at id):=fun id=>QW _ rfl m id;have z:∀id,(Mem.at (Rq m) id).tracked=true->(m.at id).tracked=true:=fun id h=>by
  rw[u] at h;cases p:m.at id<;>rw[p] at h<;>first|rfl|exact h
 refine⟨fun id=>?_,fun id E b O C=>d.inj id E b (z id O) (z E C),d.fr⟩;rcases VT m id with h|⟨l,ak,e,O,C⟩
 .exact Cj.step M ab (AE _) h rfl (fun _ _=>rfl)
 .cases p:m.at id with
  |cells l0 e0=>
   have y:=d.blk id;rw[p] at y;obtain⟨b,Y,N,aw,X⟩:=y;rw[u,p];exact⟨b,Y,N,aw,BR.mono0 M (AE _) _ _ (NC d l0 Y X)⟩
  |_=>rw[NW,p] at O;cases O
theorem R6 (m:Mem):∀(t:Tr) (i:Nat),(WM m t).get i=(t.get i).map (Ng m)
 | .nil,i=>rfl
 | .node v l r,i=>by
  simp only[WM,Tr.get];rw[R6 m l,R6 m r];cases Nat.beq i 0<;>simp only[cond];cases Nat.beq (i % 2) 1<;>rfl
theorem tS (m:Mem)(s:Bn)(i:Nat):(ji m s).get i=(s.get i).map (Ng m):=by
 have u:∀l:List (Nat × AC),CY (l.map fun p=>(p.1,Ng m p.2)) i=(CY l i).map (Ng m):=by
  intro l;induction l with
  |nil=>rfl
  |cons p l d=>
   obtain⟨j,c⟩:=p;simp only[AT,CY];cases Nat.beq j i<;>first|exact d|rfl
 unfold Bn.get ji;simp only[u];cases CY s.loc i with
 |some c=>rfl
 |none=>exact R6 m s.t i
theorem sn {b:Bool}{l:Loc}{a:Act}(h:Rel T n W l a w):BY T n W l.mem w W (MU b l).mem w/\Rel T n W (MU b l) a w/\(MU b l).tmps.n=l.tmps.n:=by
 cases b with
 |false=>exact⟨BY.weaken fun _=> .inl rfl,h,rfl⟩
 |true=>
  have p:=te h.mem (AE n);refine⟨p,⟨h.defers.on p,h.size,fun i c d=>?_,vn h.mem⟩,rfl⟩;have d:(ji l.mem l.tmps).get i=some c:=d;rw[tS,AX] at d;obtain⟨aO,u,rfl⟩:=d;exact BQ.mono0 (VT l.mem).step (AE _) _ _ (S4 h.mem _ _ (h.tmps i aO u))
end
section
variable {P:Program}{call:CM}
theorem ou {T:Tab}(h:Option (Tmp × Int × Int))(ae:PC)(t:Bn)(g:G):Bo g (DQ h ae t g).2/\(DQ h ae t g).2.n=g.n/\(DQ h ae t g).1.n=t.n/\
  (CB T (DQ h ae t g).2->pcv T ae->∀n W m a w,Rel T n W ⟨t,m⟩ a w->Rel T n W ⟨(DQ h ae t g).1,m⟩ a w):=by
 unfold DQ;split
 .exact⟨Bo.refl _,rfl,rfl,fun _ _ _ _ _ _ _ h=>h⟩
 .rename_i i ar ab;split
  .rename_i k aw ao x N;dsimp only;refine⟨Bo.need _ _ _,(EW _ _ _).1,Bn.set_n _ _ _,fun E M n W m a w d=>?_⟩;have p:=CB.need E M _ (Al.2 rfl);refine⟨d.defers,by rw[d.size];exact (Bn.set_n _ _ _).symm,fun j c y=>?_,d.mem⟩;rcases Bn.get_set _ _ _ _ y with⟨rfl,_,rfl⟩|⟨_,C⟩
   .obtain⟨O,z,u,X,_⟩:=d.tmps _ _ N;have Y:T.get x= .int z:=u;simp only[Pr.holds,FH,AT,An,u0,Rf.eval,Y,U.toI] at p;exact⟨O,z,u,X,p.1,p.2⟩
   .exact d.tmps j c C
  .dsimp only;exact⟨Bo.refl _,rfl,rfl,fun _ _ _ _ _ _ _ h=>h⟩
theorem cP {k:XK}:∀{l:List CT},noK k l=true->I9 k l=none
 |[],_=>rfl
 |o::l,h=>by
  simp only[noK,List.all_cons,AB,Bool.not_eq_true',decide_eq_false_iff_not] at h;unfold I9;rw[BG h.1,cP (l:=l) h.2];rfl
theorem MR (hm:P.follows .mixedOrders=true)(bs:∀T,Dj P T call)(ax:EM):∀(aK:Nat) (bb:Bool) (an:Ys) (T:Tab) (r:Option Nat) (al d:Nat) (c:Code),(bb=false->r=none)->ES P T.lp an->
  D3 T (SO P r al (ax.plan d).isSome aK c) (C1 P call ax bb an aK d c)
 |0,_,_,_,_,_,_,_,_,_=>fun ae l g L ao h=>by simp only[C1] at h;cases h
 |aK+1,bb,an,T,r,al,d,c,hr,hys=>by
  have cj:∀(T':Tab),T'.lp=T.lp->∀d c,WR P T' r al c (C1 P call ax bb an aK d c):=fun T' b5 d c=>(MR hm bs ax aK bb an T' r al d c hr (by rw[b5];exact hys)).mono fun Q a w h=>TD h;have ih:∀d c,WR P T r al c (C1 P call ax bb an aK d c):=fun d c=>cj T rfl d c;have a7:∀{c:Code} {run:PC->Loc->G->Option (List CT × G)},(∀b,c≠ .loop b)->WR P T r al c run->D3 T (SO P r al (ax.plan d).isSome (aK+1) c) run:=fun hc h=>h.mono fun Q a w hh=>ij (fun b e=>absurd e (hc b)) hh;cases c with
  |skip=>exact a7 (fun _ h=>by cases h) (WW .normal fun Q a w h=>wpIn_skip h)
  |label l=>exact a7 (fun _ h=>by cases h) (WW .normal fun Q a w h=>wpIn_label h)
  |exit id=>exact a7 (fun _ h=>by cases h) (WW (.exit id) fun Q a w h=>wpIn_exit h)
  |ret=>exact a7 (fun _ h=>by cases h) (WW .ret fun Q a w h=>wpIn_ret h)
  |seq x y=>exact a7 (fun _ h=>by cases h) ((Uu (ih d x) (ih d y)).mono fun Q a w h=>wpIn_seq h)
  |loop b=>
   cases Y:ax.plan d with
   |some p=>
    have C:D3 T (SO P r al false aK (.loop b)) (fun _ _ _=>none):=fun ae l g L ao h=>by cases h
    have h3:=(Uu (ih d b) C).mono (K2:=SO P r al false (aK+1) (.loop b)) fun Q a w h=>h;have h4:=h3.mono (K2:=SO P r al true (aK+1) (.loop b)) fun Q a w h=>ij (fun _ _=>rfl) (TD h);intro ae l g L ao h;simp only[C1,Y] at h;split at h
    .rename_i aB ho;cases h;unfold uU at ho;split at ho
     .rename_i di g1 hb;split at ho
      .rename_i hn;cases ho;refine h4 ae l g L ao ?_;simp only[hb,AD,Ag];unfold Vs;rw[cP hn]
      .cases ho
     .cases ho
    .exact qJ (r:=r) (al:=al) (c:=b) (fun T' b5=>cj T' b5 d b) p ae l g L ao h
   |none=>
    have C:=MR hm bs ax aK bb an T r al d (.loop b) hr hys;rw[Y] at C;have:=(Uu (ih d b) C).mono (K2:=SO P r al false (aK+1) (.loop b)) fun Q a w h=>h;intro ae l g L ao h;simp only[C1,Y] at h;exact this ae l g L ao h
  |block id b=>
   refine a7 (fun _ h=>by cases h) ?_;have:=(pg (id:=id) (ih id b)).mono (K2:=fun Q a w=>(Code.block id b).wpIn (fen r) al P Q a w) fun Q a w h=>wpIn_block h;intro ae l g L ao h;simp only[C1] at h;exact this ae l g L ao h
  |scope b=>
   refine a7 (fun _ h=>by cases h) ?_;intro ae l g L ao h;simp only[C1] at h;obtain⟨g1,aw⟩:=ih d b ae l g L ao h;refine⟨g1,fun hA Y=>?_⟩;obtain⟨h3,h4,h5⟩:=aw hA Y;refine⟨h3,h4,fun ho z W a w Q u hO=>lF (h5 ho z W a w _ u fun o hm O ad M ac C h6=>?_)⟩;have:=hO o hm O ad M ac C h6;cases hk:o.k<;>(rw[hk] at this;exact this)
  |region id Z b1=>
   refine a7 (fun _ h=>by cases h) ?_;intro ae l g L ao h;simp only[C1,AD,AA] at h;obtain⟨s,aa,h⟩:=h;cases h;unfold iK at aa;have ch:Bo g s.g->s.tmps.n=l.tmps.n->(Agr T s.g->CB T s.g->pcv T ae->Ch T g ae->∀ W a w Q,Rel T g.n W l a w->
     (∀ ad M ac,DM T ad Z s M ac->BY T g.n W l.mem w ad s.mem ac->Q .normal M ac)->(Code.region id Z b1).wpIn (fen r) al P Q a w)->
     Bo g (DQ (ax.nar id) ae s.tmps s.g).2/\(Agr T (DQ (ax.nar id) ae s.tmps s.g).2->EA g ae->FM T (DQ (ax.nar id) ae s.tmps s.g).2 l.tmps.n [⟨.normal,ae,MU (ax.frz id) ⟨(DQ (ax.nar id) ae s.tmps s.g).1.commit ax.keep,s.mem⟩⟩]/\(∀o∈([⟨.normal,ae,MU (ax.frz id) ⟨(DQ (ax.nar id) ae s.tmps s.g).1.commit ax.keep,s.mem⟩⟩]:List CT),pcv T o.pc->pcv T ae)/\
      (CB T (DQ (ax.nar id) ae s.tmps s.g).2->pcv T ae->∀ W a w Q,Rel T g.n W l a w->br T g.n W l.mem w (DQ (ax.nar id) ae s.tmps s.g).2.n [⟨.normal,ae,MU (ax.frz id) ⟨(DQ (ax.nar id) ae s.tmps s.g).1.commit ax.keep,s.mem⟩⟩] Q->(Code.region id Z b1).wpIn (fen r) al P Q a w)):=by
    intro gr b8 k;obtain⟨av,aD,n3,n4⟩:=ou (T:=T) (ax.nar id) ae s.tmps s.g;refine⟨gr.trans av,fun hA Y=>?_⟩;have hN:(MU (ax.frz id) ⟨(DQ (ax.nar id) ae s.tmps s.g).1.commit ax.keep,s.mem⟩).tmps.n=l.tmps.n:=by
     have h0:((DQ (ax.nar id) ae s.tmps s.g).1.commit ax.keep).n=l.tmps.n:=by rw[Bn.commit_n];exact n3.trans b8
     cases ax.frz id<;>exact h0
    obtain⟨O,C⟩:=FM.one (T:=T) (k:= .normal) (l:=MU (ax.frz id) ⟨(DQ (ax.nar id) ae s.tmps s.g).1.commit ax.keep,s.mem⟩) (N:=l.tmps.n) (Y.grow (gr.trans av)) hN;refine⟨O,C,fun a5 z W a w Q u hO=>?_⟩;refine k (hA.of av) (a5.of av) z (Y.ok z) W a w Q u fun ad M ac ab ca=>?_;have c7:Rel T (DQ (ax.nar id) ae s.tmps s.g).2.n ad ⟨(DQ (ax.nar id) ae s.tmps s.g).1.commit ax.keep,s.mem⟩ M ac:=
     Rel.less (l:=⟨(DQ (ax.nar id) ae s.tmps s.g).1,s.mem⟩) (n4 a5 z _ _ _ _ _ (by rw[aD];exact ab.rel)) (Bn.commit_n _ _) fun i c hc=>Bn.get_commit _ _ _ hc
    obtain⟨f1,f2,_⟩:=sn (b:=ax.frz id) c7;exact hO _ (Al.2 rfl) z ad M ac (ca.trans u.mem (gr.trans av).n f1) f2
   cases b1 with
   |true=>
    rw[BH rfl] at aa;have c8:Zx P call an Z ae l g=some s\/∃am aY tg,IR am aY tg P call an Z ae l g=some s:=by
     split at aa
     .rename_i aF O;injection aa with aa;subst aa;exact .inl O
     .right;have db:∀ns:List Nat,VV P call an Z ae l g ns=some s->∃am aY tg,IR am aY tg P call an Z ae l g=some s:=by
       intro ns;induction ns with
       |nil=>intro h;cases h
       |cons n ns ih=>
        intro h;unfold VV at h;split at h
        .rename_i aF O;injection h with h
         subst h;split at O<;>exact⟨_,_,_,O⟩
        .exact ih h
      exact db _ aa
    have hk:Bo g s.g/\s.tmps.n=l.tmps.n/\(Agr T s.g->CB T s.g->pcv T ae->Ch T g ae->∀id W a w Q,Rel T g.n W l a w->
      (∀ ad M ac,DM T ad Z s M ac->BY T g.n W l.mem w ad s.mem ac->Q .normal M ac)->(Code.region id Z true).wpIn (fen r) al P Q a w):=by
     rcases c8 with aa|⟨am,aY,tg,aa⟩
     .exact qa (T:=T) (r:=r) (al:=al) hm (bs T) hys aa
     .exact pj (T:=T) (r:=r) (al:=al) hm bs hys aa
    obtain⟨gr,b8,k⟩:=hk;exact ch gr b8 fun hA a5 z b9 W a w Q u hK=>k hA a5 z b9 id W a w Q u hK
   |false=>
    rw[BG (by simp)] at aa;obtain⟨gr,k⟩:=L4 (T:=T) (r:=r) (al:=al) (bs T) hys aa;refine ch gr (aM aa) fun hA a5 z b9 W a w Q u hK=>?_;refine wpIn_region ?_;rw[List.range_eq_range',<-Array.length_toList];exact k hA a5 z b9 0 W a w Q (fun j=>by simp) ⟨u,fun e he=>by cases he⟩ fun ad M ac ab ca=>hK ad M ac ab ca
  |cond c x y=>
   refine a7 (fun _ h=>by cases h) ?_;intro ae l g L ao h;simp only[C1] at h;have b6:∀{W a w},Rel T g.n W l a w->BQ T g.n W l.mem w (EJ [] l.tmps c) (a.eval c):=fun u=>IM u (fun c hc=>by cases hc) c;have cl:∀{e:Nat} {x y:Code} {pol:Bool},VF (C1 P call ax bb an aK d) e x y ae l g=some (L,ao)->
     (∀ W a w,Rel T g.n W l a w->∃t,T e= .bool t/\a.eval c= .bool (t==pol))->∀(X bx:Code),(pol=true->X=x/\bx=y)->(pol=false->X=y/\bx=x)->
     Bo g ao/\(Agr T ao->EA g ae->FM T ao l.tmps.n L/\(∀o∈L,pcv T o.pc->pcv T ae)/\(CB T ao->pcv T ae->∀ W a w Q,Rel T g.n W l a w->br T g.n W l.mem w ao.n L Q->(Code.cond c X bx).wpIn (fen r) al P Q a w)):=by
    intro e x y pol h c9 X bx O C;obtain⟨gr,k⟩:=tC (ih d x) (ih d y) ae l g L ao h;refine⟨gr,fun hA Y=>?_⟩;obtain⟨q1,q2,q3⟩:=k hA Y;refine⟨q1,q2,fun a5 z W a w Q u hO=>?_⟩;obtain⟨t,e1,e2⟩:=c9 W a w u;obtain⟨k1,E⟩:=q3 a5 z W a w Q u hO;rw[e1] at k1 E;refine wpIn_cond e2 ?_;cases pol with
    |true=>
     obtain⟨rfl,rfl⟩:=O rfl;cases t with
     |true=>exact k1 rfl
     |false=>exact E rfl
    |false=>
     obtain⟨rfl,rfl⟩:=C rfl;cases t with
     |true=>exact k1 rfl
     |false=>exact E rfl
   split at h
   .rename_i t ht;obtain⟨gr,k⟩:=ih d _ ae l g L ao h;refine⟨gr,fun hA Y=>?_⟩;obtain⟨q1,q2,q3⟩:=k hA Y;refine⟨q1,q2,fun a5 z W a w Q u hO=>?_⟩;have:=b6 u;rw[ht] at this;exact wpIn_cond (t:=t) this (by cases t<;>exact q3 a5 z W a w Q u hO)
   .rename_i e ht;refine cl (pol:=true) h (fun W a w u=>?_) x y (fun _=>⟨rfl,rfl⟩) (fun h=>by cases h);have:=b6 u;rw[ht] at this;obtain⟨_,t,O,C⟩:=this;exact⟨t,O,by rw[C];cases t<;>rfl⟩
   .rename_i e ht;refine cl (pol:=false) h (fun W a w u=>?_) x y (fun h=>by cases h) (fun _=>⟨rfl,rfl⟩);have:=b6 u;rw[ht] at this;obtain⟨_,t,O,C⟩:=this;exact⟨t,O,by rw[C];cases t<;>rfl⟩
   .cases h
  |_=>intro ae l g L ao h;simp only[C1] at h;cases h
theorem Nb (p:P.follows .mixedOrders=true)(d:∀T,Dj P T call)(ax:EM)(aK:Nat)(an:Ys)(T:Tab)(al:Nat)(c:Code)(u:ES P T.lp an):WR P T none al c (C1 P call ax false an aK 0 c):=
 (MR p d ax aK false an T none al 0 c (fun _=>rfl) u).mono fun _ _ _ h=>TD h
end
section
variable {P:Program}{T:Tab}{g:G}{n:Nat}{W :Nat->Option Nat}{w:World}{a:Act}
theorem RZ {aW d:Type}(f:aW->Sem d)(r:aW->d)(w:World):∀(l:List aW),(∀x∈l,(f x).run P w= .ok (r x) w)->(l.mapM f).run P w= .ok (l.map r) w
 |[],_=>by simp
 |x::l,h=>by
  have O:=h x (AN ..);have C:=RZ f r w l (fun y p=>h y (AK _ p));simp[List.mapM_cons,O,C]
variable{v:Value}{l:Loc}{c:AC}{D:Nat}{o:Obj}
theorem tP {t:TypeId}{u:Value}(h:(Instr.loadAt t v).run P w= .ok u w):(do loadVar t (<-asAddr v):Sem Value).run P w= .ok u w:=by
 unfold Instr.loadAt at h;cases v with
 |pointer p=>
  cases p with
  |some q=>simpa [Instr.sureAddr,asAddr] using h
  |none=>simp[Instr.sureAddr] at h
 |_=>simp[Instr.sureAddr] at h
def PY (tmps:Array Value):ResultVar->Sem Value
 | .tmp t=>pure (tmps.getD t undef)
 | .cell a t=>do loadVar t (<-asAddr (tmps.getD a undef))
theorem kF (M:Agr T g)(d:Rel T g.n W l a w){x:ResultVar}{us:List Ex}(h:NB P l g x=some (c,us)):
  ∃v,(PY a.tmps x).run P w= .ok v w/\BQ T g.n W l.mem w c v:=by
 cases x with
 |tmp t=>
  simp only[NB,Ax,Prod.mk.injEq] at h;obtain⟨rfl,rfl⟩:=h;exact⟨_,rfl,d.at t⟩
 |cell p t=>
  simp only[NB,AA] at h;obtain⟨r,E,h⟩:=h;split at h
  .rename_i N z;cases h;obtain⟨u,O,C,y⟩:=P9 E (by rw[z];exact New.nil _ _) d.mem (d.at p);rw[z] at y;exact⟨u,tP O,y⟩
  .cases h
theorem fV {aA:Func}(M:Agr T g)(N:Rel T g.n W l a w)(h:UW P aA l g=some c):∃v,(results aA a.tmps).run P w= .ok v w/\BQ T g.n W l.mem w c v:=by
 unfold UW at h;simp only[AD,AA] at h;obtain⟨ah,a1,h⟩:=h;obtain⟨y,ao⟩:=Fx _ _ _ a1;have z:∀x∈aA.results.toList,∃v,(PY a.tmps x).run P w= .ok v w/\∀c us,NB P l g x=some (c,us)->BQ T g.n W l.mem w c v:=by
  intro x d;obtain⟨i,ab⟩:=Ac.1 d;have O:=ao i x ab;have:i < ah.length:=by rw[y];exact (AG.1 ab).1
  rw[AF this] at O;obtain⟨v,C,h3⟩:=kF (c:=ah[i].1) (us:=ah[i].2) M N O.symm;grind
 have a5:∃f:ResultVar->Value,∀x∈aA.results.toList,(PY a.tmps x).run P w= .ok (f x) w/\∀c us,NB P l g x=some (c,us)->BQ T g.n W l.mem w c (f x):=by
  classical
  refine⟨fun x=>if d:x∈aA.results.toList then (z x d).choose else undef,fun x d=>?_⟩;grind
 obtain⟨f,X⟩:=a5;have a2:=RZ (P:=P) (PY a.tmps) f w aA.results.toList (fun x d=>(X x d).1);have p:BR T g.n W l.mem w (ah.map (·.1)) (aA.results.toList.map f):=by
  refine BR.of_get (by simp[y]) fun i c u hc hu=>?_;grind
 have ax:(results aA a.tmps).run P w= .ok (if h:(aA.results.toList.map f).toArray.size=1 then (aA.results.toList.map f).toArray[0] else .tuple (aA.results.toList.map f).toArray) w:=by
  have e:(aA.results.mapM (PY a.tmps)).run P w= .ok (aA.results.toList.map f).toArray w:=by
   rw[Array.mapM_eq_mapM_toList];simp[a2]
  have E:results aA a.tmps=(do let Y<-aA.results.mapM (PY a.tmps);pure (if h:Y.size=1 then Y[0] else .tuple Y)):=rfl;rw[E,Ar];rw[e];simp
 refine⟨_,ax,?_⟩;split at h
 .rename_i aO bo;cases h;obtain⟨u,us,e1,e2,e3⟩:=p;grind
 .rename_i aw;cases h;have a3:(aA.results.toList.map f).toArray.size≠1:=by
   have:=p.length;simp at this⊢;intro O;rw[O] at this;cases ah with
   |nil=>simp at this
   |cons r ah=>
    cases ah with
    |nil=>exact aw _ _ rfl
    |cons=>simp at this
  rw[dif_neg a3];exact⟨_,rfl,p⟩
def uT:Obj->Bool| .deferred _=>true| .mapIter .. =>true|_=>false
def NoC (w:World)(D:Nat):Prop:=∃d,w.heap[D]? =some d/\uT d=true
theorem NoC.no {w:World}(h:NoC w D)(k:w.heap[D]? =some o)(d:uT o=false):False:=by
 obtain⟨p,O,C⟩:=h;grind
theorem oT (h:NoC w D)(z:∀Y e p,o≠ .cells Y e p){b off:Nat}(d:w.cell? ⟨b,off,none⟩=some v):(w.putObj D o).cell? ⟨b,off,none⟩=some v:=by
 have u:b≠D:=fun e=>by
  subst e;obtain⟨y,O,C⟩:=h;cases y<;>first|(cases C;done)|(simp[World.cell?,O] at d)
 rw[<-d];exact C5 (World.putObj_heap_other u) off
mutual
theorem Bk.put {D:Nat}{o:Obj}(h:NoC w D)(E:∀Y e d,o≠ .cells Y e d){ok N:Nat->Nat->Prop}(M:∀b off,ok b off->N b off):∀(k:Kd) (u:U) (v:Value),Bk ok w k u v->Bk N (w.putObj D o) k u v
 | .int _ _ _,_,_,hh=>hh
 | .bool,_,_,hh=>hh
 | .str,_,_,hh=>hh
 | .val,_,_,hh=>hh
 | .any,_,_,hh=>hh
 | .list ks,u,v,⟨l,h0,O,C,a,I,h3,h4,h5⟩=>by
  refine⟨l,h0,O,C,a,I,h3,h4,fun z=>?_⟩;obtain⟨b,X,p,y⟩:=h5 z;exact⟨b,X,p,fun i us ab=>Bw.put h E M ks b _ us (y i us ab)⟩
theorem Bw.put {D:Nat}{o:Obj}(h:NoC w D)(d:∀Y e y,o≠ .cells Y e y){ok N:Nat->Nat->Prop}(p:∀b off,ok b off->N b off):∀(ks:List Kd) (b off:Nat) (us:List U),Bw ok w ks b off us->Bw N (w.putObj D o) ks b off us
 |[],_,_,_,hh=>hh
 |k::ks,b,off,us,⟨u,us',e,⟨O,v,C,h3⟩,h4⟩=>
  ⟨u,us',e,⟨p b off O,v,oT h d C,Bk.put h d p k u v h3⟩,Bw.put h d p ks b _ us' h4⟩
end
theorem Bg.put {D:Nat}{o:Obj}(h:NoC w D)(d:∀Y e y,o≠ .cells Y e y){ok N:Nat->Nat->Prop}(p:∀b off,ok b off->N b off):∀{ks:List Kd} {us:List U} {Y:List Value},Bg ok w ks us Y->Bg N (w.putObj D o) ks us Y
 |[],_,_,hh=>hh
 |k::_,_,_,⟨u,us',v,vs',e1,e2,O,C⟩=>⟨u,us',v,vs',e1,e2,Bk.put h d p k u v O,Bg.put h d p C⟩
theorem CQ.put {D:Nat}{o:Obj}(h:NoC w D)(d:∀Y e u,o≠ .cells Y e u){ok N:Nat->Nat->Prop}(p:∀b off,ok b off->N b off){ks:List Kd}:∀{l:List (List U)} {R:List (List Value)},CQ ok w ks l R->CQ N (w.putObj D o) ks l R
 |[],_,hh=>hh
 |_::_,_,⟨Y,vss',e,O,C⟩=>⟨Y,vss',e,Bg.put h d p O,CQ.put h d p C⟩
theorem Bu.put {D:Nat}{o:Obj}(h:NoC w D)(u:∀Y e d,o≠ .cells Y e d){ok N:Nat->Nat->Prop}(y:∀b off,ok b off->N b off){ks:List Kd}{l:List (List U)}{Y:List Value}(p:Bu ok w ks l Y):Bu N (w.putObj D o) ks l Y:=by
 obtain⟨R,O,C⟩:=p;exact⟨R,O,CQ.put h u y C⟩
theorem DL.put {D:Nat}{o:Obj}(h:NoC w D)(u:∀Y e d,o≠ .cells Y e d){ok N:Nat->Nat->Prop}(y:∀b off,ok b off->N b off){ks:List Kd}{a7:Bool}{us:List U}{v:Value}(p:DL ok w ks a7 us v):DL N (w.putObj D o) ks a7 us v:=by
 obtain⟨Y,O,C⟩:=p;exact⟨Y,Bg.put h u y O,C⟩
section
variable {m:Mem}{D:Nat}{o:Obj}
theorem Bt.put {b off:Nat}(h:Bt T W m w b off):Bt T W m (w.putObj D o) b off:=⟨by rw[World.putObj_size];exact h.1,h.2.1,h.2.2⟩
mutual
theorem BQ.put (h:NoC w D)(d:∀Y e fr,o≠ .cells Y e fr):∀(c:AC) (v:Value),BQ T n W m w c v->BQ T n W m (w.putObj D o) c v
 | .any,_,_=>trivial
 | .anyc,_,hh=>hh
 | .on _ a,v,hh=>⟨hh.1,fun N=>BQ.put h d a v (hh.2 N)⟩
 | .gd _ a,v,hh=>⟨hh.1,fun N=>BQ.put h d a v (hh.2.1 N),hh.2.2⟩
 | .cb _,_,hh=>hh
 | .b _,_,hh=>hh
 | .nb _,_,hh=>hh
 | .ci _ _,_,hh=>hh
 | .i _ _ _ _,_,hh=>hh
 | .cv _,_,hh=>hh
 | .v _,_,hh=>hh
 | .s _,_,hh=>hh
 | .ptr _ _,_,hh=>hh
 | .pix _ _ _ _ _ _,_,hh=>hh
 | .ro x ks,v,⟨h0,O⟩=>⟨h0,Bk.put h d (fun _ _ aa=>Bt.put aa) _ _ _ O⟩
 | .rp x t off ks,v,⟨h0,j,b,o',us,O,C,h3,h4,h5⟩=>⟨h0,j,b,o',us,O,C,h3,h4,Bw.put h d (fun _ _ aa=>Bt.put aa) _ _ _ _ h5⟩
 | .vec id x ks,v,⟨h0,O,C,h3⟩=>⟨h0,O,Bk.put h d (fun _ _ aa=>Bt.put aa) _ _ _ C,fun X e u=>by
   rcases h3 X e u with⟨af,aj⟩|⟨b,I,Y,af,aj,p,M⟩
   .exact .inl ⟨af,aj⟩
   .have z:b≠D:=fun e=>by subst e;exact h.no p rfl
    exact .inr ⟨b,I,Y,af,aj,by rw[World.putObj_heap_other z];exact p,M⟩⟩
 | .fn f first I,v,⟨Y,us,O,C,h3⟩=>⟨Y,us,O,BR.put h d first Y C,BR.put h d I us h3⟩
 | .sel x alts,v,⟨h0,j,O,C,h3⟩=>⟨h0,j,O,C,CG.put h d alts j.toNat v h3⟩
 | .yl _,_,hh=>hh
 | .asl _ _ _,_,hh=>hh
 | .rsv id x ks,v,⟨h0,O,C,h4,h3⟩=>⟨h0,O,C,h4,fun X e u=>by
   rcases h3 X e u with⟨af,aj⟩|⟨b,len,I,Y,af,aj,l0,p,M⟩
   .exact .inl ⟨af,aj⟩
   .have z:b≠D:=fun e=>by subst e;exact h.no p rfl
    exact .inr ⟨b,len,I,Y,af,aj,l0,by rw[World.putObj_heap_other z];exact p,M⟩⟩
 | .mr id y,v,⟨h0,j,a,I,k1,E,k3,k4,k5⟩=>⟨h0,j,a,I,k1,E,k3,k4,fun x ks e u=>by
   rcases k5 x ks e u with af|⟨b,Y,af,aj,p,M⟩
   .exact .inl af
   .have z:b≠D:=fun e=>by subst e;exact h.no p rfl
    exact .inr ⟨b,Y,af,aj,by rw[World.putObj_heap_other z];exact p,M⟩⟩
 | .mp _ _ _ _ _,_,hh=>hh
 | .mv _,_,hh=>hh
 | .agg l,v,⟨Y,O,C⟩=>⟨Y,O,BR.put h d l Y C⟩
 | .tup l,v,⟨Y,O,C⟩=>⟨Y,O,BR.put h d l Y C⟩
theorem BR.put (h:NoC w D)(d:∀Y e p,o≠ .cells Y e p):∀(l:List AC) (Y:List Value),BR T n W m w l Y->BR T n W m (w.putObj D o) l Y
 |[],_,hh=>hh
 |c::l,Y,⟨u,us,O,C,h3⟩=>⟨u,us,O,BQ.put h d c u C,BR.put h d l us h3⟩
theorem CG.put (h:NoC w D)(d:∀Y e p,o≠ .cells Y e p):∀(l:List AC) (j:Nat) (v:Value),CG T n W m w l j v->CG T n W m (w.putObj D o) l j v
 |[],_,_,hh=>hh.elim
 |c::_,0,v,hh=>BQ.put h d c v hh
 |_::l,j+1,v,hh=>CG.put h d l j v hh
end
theorem BX.put (h:NoC w D)(M:∀Y e fr,o≠ .cells Y e fr)(hm:BX T n W m w):BX T n W m (w.putObj D o):=by
 refine⟨fun id=>?_,hm.inj,fun b off d=>hm.fr b off (by rw[World.putObj_size] at d;exact d)⟩;have d:=hm.blk id;cases hx:m.at id with
 |pad=>trivial
 |gone=>trivial
 |cells l e=>
  rw[hx] at d;obtain⟨b,Y,O,C,p⟩:=d;have z:b≠D:=fun e=>by subst e;exact h.no C rfl
  exact⟨b,Y,O,by rw[World.putObj_heap_other z];exact C,BR.put h M l Y p⟩
 |tok x ks e=>
  rw[hx] at d;obtain⟨N,l,O,C⟩:=d;refine⟨N,l,O,?_⟩;rcases C with C|⟨b,Y,C,p,u⟩
  .exact .inl C
  .have z:b≠D:=fun e=>by subst e;exact h.no p rfl
   exact .inr ⟨b,Y,C,by rw[World.putObj_heap_other z];exact p,u⟩
 |lp s st=>
  rw[hx] at d;obtain⟨b,q,O,C,p,u,E,X,h7,j,h8,h9⟩:=d;have z:b≠D:=fun e=>by subst e;exact h.no C rfl
  exact⟨b,q,O,by rw[World.putObj_heap_other z];exact C,p,u,E,X,fun i c hc=>BQ.put h M c _ (h7 i c hc),j,BQ.put h M st _ h8,h9⟩
 |mrow x y ks e=>
  rw[hx] at d;obtain⟨N,l,O,C,p,u⟩:=d;refine⟨N,l,O,C,p,?_⟩;rcases u with u|⟨b,Y,us,u,E,X,h7⟩
  .exact .inl u
  .have z:b≠D:=fun e=>by subst e;exact h.no E rfl
   exact .inr ⟨b,Y,us,u,by rw[World.putObj_heap_other z];exact E,Bu.put h M (fun _ _ aa=>Bt.put aa) X,h7⟩
 |mapb x al ka aM aT=>
  rw[hx] at d;obtain⟨N,l,b,ay,a5,O,C,p,u,E,X,h7⟩:=d;have z:b≠D:=fun e=>by subst e;exact h.no p rfl
  exact⟨N,l,b,ay,a5,O,C,by rw[World.putObj_heap_other z];exact p,u,E,fun i us e h8 h9=>by
   obtain⟨u1,u2,g1,aw,g3⟩:=X i us e h8 h9;exact⟨u1,u2,g1,DL.put h M (fun _ _ aa=>Bt.put aa) aw,DL.put h M (fun _ _ aa=>Bt.put aa) g3⟩,h7⟩
structure Ej (T:Tab) (n:Nat) (ρ :Nat->Option Nat) (m:Mem) (B:Nat) (w w':World):Prop where
 os:w'.os=w.os
 tape:w'.tape=w.tape
 output:w'.output=w.output
 size:w'.heap.size=w.heap.size
 low:∀k,k < B->w'.heap[k]? =w.heap[k]?
 holds:∀c v,BQ T n ρ m w c v->BQ T n ρ m w' c v
 mem:BX T n ρ m w->BX T n ρ m w'
theorem Ej.refl (T:Tab)(n:Nat)(W :Nat->Option Nat)(m:Mem)(B:Nat)(w:World):Ej T n W m B w w:=⟨rfl,rfl,rfl,rfl,fun _ _=>rfl,fun _ _ h=>h,fun h=>h⟩
theorem Ej.trans {B:Nat}{ac ao:World}(h:Ej T n W m B w ac)(k:Ej T n W m B ac ao):Ej T n W m B w ao:=
 ⟨k.os.trans h.os,k.tape.trans h.tape,k.output.trans h.output,k.size.trans h.size,fun i ab=>(k.low i ab).trans (h.low i ab),fun c v d=>k.holds c v (h.holds c v d),fun d=>k.mem (h.mem d)⟩
theorem Ej.put {B:Nat}(h:NoC w D)(y:B<=D)(p:∀Y e u,o≠ .cells Y e u):Ej T n W m B w (w.putObj D o):=
 ⟨rfl,rfl,rfl,World.putObj_size,fun k z=>World.putObj_heap_other (by omega),fun c v d=>BQ.put h p c v d,fun d=>d.put h p⟩
theorem BY.after {n0:Nat}{aX:Nat->Option Nat}{aP:Mem}{aH ac:World}(h:BY T n0 aX aP aH W m w)(z:BX T n0 aX aP aH)(k:Ej T n W m aH.heap.size w ac):BY T n0 aX aP aH W m ac where
 os:=k.os.trans h.os
 tape:=k.tape.trans h.tape
 output:=k.output.trans h.output
 size:=by rw[k.size];exact h.size
 mlen:=h.mlen
 rho:=h.rho
 untr:=h.untr
 fresh:=h.fresh
 old:=fun i ab N=>(k.low i ab).trans (h.old i ab N)
 tok:=fun id x ks e u=>by
  have lt:∀b, aX id=some b->b < aH.heap.size:=fun b d=>z.lt (by rw[u];rfl) d;rcases h.tok id x ks e u with⟨O,C,p⟩|⟨O,C⟩
  .exact .inl ⟨O,C,fun b d=>(k.low b (lt b d)).trans (p b d)⟩
  .exact .inr ⟨fun b d off ho=>(C5 (k.low b (lt b d)) off).trans (O b d off ho),C⟩
 row:=fun id x y ks e u=>by
  have lt:∀b, aX id=some b->b < aH.heap.size:=fun b d=>z.lt (by rw[u];rfl) d;rcases h.row id x y ks e u with O|⟨L,aF,X,O,C,⟨p,E,M⟩|p⟩
  .exact .inl O
  .exact .inr ⟨L,aF,X,O,C,.inl ⟨p,E,fun b Y d hv=>by rw[k.low b (lt b d)];exact M b Y d hv⟩⟩
  .exact .inr ⟨L,aF,X,O,C,.inr p⟩
theorem Ow {aA:Func}{tmps:Array Value}{R:Ending->World->Prop}{al B:Nat}:∀(d:List Nat) (w:World),d.Nodup->(∀D∈d,B<=D/\w.heap[D]? =some (.deferred (some [])))->
  (∀ac,Ej T n W m B w ac->∃v,(results aA tmps).run P ac= .ok v ac/\R (.returned v) ac)->
  LeavesInM (fen none) al P aA tmps R (d.map fun D=>{ target:= .collected D,args:= #[] }) .returning w
 |[],w,_,_,hK=>hK w (Ej.refl _ _ _ _ _ _)
 |D::d,w,hn,hD,hK=>by
  obtain⟨O,C⟩:=hD D (AN ..);have y:Ej T n W m B w (w.putObj D (.deferred none)):=Ej.put ⟨_,C,rfl⟩ O (fun _ _ _ h=>by cases h);refine⟨fun h=>(by cases h),.inl ⟨D,_,rfl,run_takeDeferred C,?_⟩⟩;refine Ow d _ (List.nodup_cons.1 hn).2 (fun u p=>?_) fun ac z=>hK ac (y.trans z);obtain⟨M,E⟩:=hD u (AK _ p);refine⟨M,?_⟩;rw[World.putObj_heap_other (fun e=>(List.nodup_cons.1 hn).1 (by rw[<-e];exact p))];exact E
end
theorem Re:∀(args:List AC) (i:Nat) (t:Tr) (j:Nat) (c:AC),(Om i args t).get j=some c->(∃k,j=i+k/\args[k]? =some c)\/t.get j=some c
 |[],i,t,j,c,h=> .inr h
 |a::args,i,t,j,c,h=>by
  simp only[Om] at h;rcases Re args (i+1) _ j c h with⟨k,O,C⟩|O
  .exact .inl ⟨k+1,by omega,by simpa using C⟩
  .rcases Tr.get_setF _ _ _ _ _ _ O with⟨d,E⟩|⟨_,E⟩
   .exact .inl ⟨0,by omega,by simpa using E⟩
   .exact .inr E
def dz (P:Program)(aA:Func)(k:XK)(a:Act)(w:World)(v:Value)(ac:World):Prop:=(k= .ret\/k= .normal)/\ac=w/\(results aA a.tmps).run P w= .ok v w
theorem Yv {aA:Func}:∀o g c m,Lj P aA o g=some (c,m)->Agr T g->∀ W a w,True->Rel T g.n W o.l a w->∃v ac ad,dz P aA o.k a w v ac/\BY T g.n W o.l.mem w ad m ac/\BX T g.n ad m ac/\BQ T g.n ad m ac c v:=by
 intro o g c m h y W a w _ d;unfold Lj at h;split at h
 .rename_i z;simp only[AX] at h;obtain⟨aO,O,C⟩:=h;cases C;obtain⟨v,p,u⟩:=fV y d O;exact⟨v,w, W,⟨z,rfl,p⟩,BY.refl _ _ _ _ _,d.mem,u⟩
 .cases h
theorem UM {aA:Func}:∀{L:List CT} {g ao:G} {c:AC} {ag:Mem},D4 (Lj P aA) L g=some (c,ag,ao)->∀o∈L,o.k= .ret\/o.k= .normal
 |[],g,ao,c,ag,h=>by simp only[D4] at h;cases h
 |[o],g,ao,c,ag,h=>by
  simp only[D4,AD,AA] at h;obtain⟨⟨aO,aP⟩,h,_⟩:=h;intro u d;simp at d;subst d;unfold Lj at h;split at h
  .rename_i p;exact p
  .cases h
 |o::o2::os,g,ao,c,ag,h=>by
  simp only[D4,AD,AA] at h;obtain⟨⟨y,ai,z⟩,O,⟨aO,aP⟩,h,_⟩:=h;intro u d;cases d with
  |head=>
   unfold Lj at h;split at h
   .rename_i p;exact p
   .cases h
  |tail _ d=>exact UM (L:=o2::os) O u d
theorem ge {call:CM}{Bp:FuncId->EM}{aK:Nat}(hm:P.follows .mixedOrders=true)(bo:∀T,Dj P T call)(T:Tab):Dj P T (jf P call Bp aK):=by
 intro an k args ae m g c ag ao aw h;unfold jf at h;simp only[AD,AA] at h;obtain⟨aA,bt,body,bm,h⟩:=h;split at h
 .cases h
 rename_i bs;simp only[Ah,not_or,Bool.not_eq_true] at bs;obtain⟨cv,bl⟩:=bs;have c9:args.length<=aA.ntmps:=by
  rcases AQ aA.ntmps args.length with b0|cj
  .rw[<-Nat.blt_eq] at b0;rw[b0] at bl;cases bl
  .exact cj
 simp only[AA] at h;obtain⟨⟨L,y⟩,hc,h⟩:=h;simp only at h;generalize c4:({ an with mu:=(Bp k).mu }:Ys)=ys1 at hc;have aw:ES P T.lp ys1:=by subst c4;exact aw
 have a9:=(Nb hm bo (Bp k) aK ys1 T 0 body aw ae _ g L y hc).1;have a1:=KM h;refine⟨a9.trans a1,fun hA cx hp c0 W w Y b4 b2=>⟨⟨aA,bt,by rw[bm];rfl,cv⟩,?_⟩⟩;let p:=T.atBase w.heap.size;have d:=LB T w.heap.size;have z:BX p g.n W m w:=b2.tab (d _);have c3:BR p g.n W m w args Y:=BR.tab (d _).eq (fun b off hh=>(d _).safe b2 hh) _ _ b4;obtain⟨_,k1⟩:=Nb hm bo (Bp k) aK ys1 p 0 body aw ae _ g L y hc;obtain⟨q1,q2,q3⟩:=k1 (RQ (hA.of a1)) c0.lt;refine (callsIn_wide (n:=0)).1 (callsIn_of_wp_marks (F:=fen none) bt bm trivial ?_);have cu:=b4.length;have hR:Rel p g.n W ⟨Ip aA.ntmps args,m⟩ { tmps:=(Y:List Value).toArray++Array.replicate (aA.ntmps - (Y:List Value).toArray.size) undef,defers:=[] } w:=by
  refine⟨FK.nil _ _ _ (AE _),?_,fun i c ab=>?_,z⟩
  .simp[Ip,cu];omega
  .have cl:(Om 0 args .nil).get i=some c:=by
    have:(Ip aA.ntmps args).get i=(Om 0 args .nil).get i:=by simp[Ip,Bn.get,CY]
    rw[<-this];exact ab
   rcases Re _ _ _ _ _ cl with⟨j,O,C⟩|O
   .rw[AM] at O;subst O;obtain⟨u,h3,h4⟩:=c3.get C;have:((Y:List Value).toArray++Array.replicate (aA.ntmps - (Y:List Value).toArray.size) undef).getD i undef=u:=by
     have cs:i < Y.length:=(AG.1 h3).1;simp[AJ,Array.getElem?_append,cs];grind
    rw[this];exact h4
   .simp[Tr.get] at O
 refine q3 (Vb (cx.of a1)) (QR.2 hp) W _ w _ hR fun o ho c1 ad a' ac aa M=>?_;have ci:LeavesInM (fen none) 0 P aA a'.tmps (H3 T g W m w c ag ao) a'.defers .returning ac:=by
  obtain⟨d0,Ds,d1,d2,d3⟩:=M.defers;rw[d1];refine Ow (T:=p) (n:=y.n) (W := ad) (m:=o.l.mem) (B:=w.heap.size) Ds ac d2 (fun D hD=>⟨(d3 D hD).1,(d3 D hD).2.1⟩) fun w2 X=>?_;have c2:Rel p y.n ad o.l { tmps:=a'.tmps,defers:=[] } w2:=⟨FK.nil _ _ _ (by rw[X.size];exact d0),M.size,fun i c ab=>X.holds _ _ (M.tmps i c ab),X.mem M.mem⟩;obtain⟨v,w3, aV,⟨_,rfl,e1⟩,e2,e3,e4⟩:=RD (T:=p) (I:=fun _=>True) (E:=dz P aA) (N:=(Ip aA.ntmps args).n) Yv h (RQ hA) q1 o ho c1 ad _ w2 trivial c2;refine⟨v,e1,v, aV,rfl,?_,e3.tab (d _).symm,BQ.tab (d _).symm.eq (fun b off hh=>(d _).symm.safe e3 hh) _ _ e4⟩;have st:=(aa.after z X).trans z a9.n e2;exact BY.tab (d _).symm z st (fun _ _ _ _ _=>rfl)
 rcases UM h o ho with hk|hk<;>rw[hk]<;>exact ci
theorem Ht {bd:FuncId->Option CM}{Bp:FuncId->EM}{aK:Nat}(z:P.follows .mixedOrders=true)(y:∀f c,bd f=some c->∀T,∀an k args ae m g u ag ao,k=f->ES P T.lp an->c an k args ae m g=some (u,ag,ao)->Bo g ao/\(Agr T ao->CB T ao->pcv T ae->Ch T g ae->∀ W w Y,BR T g.n W m w args Y->BX T g.n W m w->
  (∃aA,P.funcs[k]? =some aA/\aA.body.isSome=true/\(aA.name== "runtime.NumGoroutine")=false)/\Calls P k (Y:List Value).toArray w (H3 T g W m w u ag ao))):
  ∀(d:Nat) (T:Tab),Dj P T (GN P bd Bp aK d)
 |0,T=>fun an k args ae m g c ag ao _ h=>by simp only[GN] at h;cases h
 |d+1,T=>by
  intro an k args ae m g c ag ao C h;simp only[GN] at h;cases p:bd k with
  |some E=>
   rw[p] at h;exact y k E p T an k args ae m g c ag ao rfl C h
  |none=>
   rw[p] at h;exact ge z (Ht z y d) T an k args ae m g c ag ao C h
end
end
section
open Go Go.RowKit Go.Deep
def Lv (P:Program)(d:TypeId->Option (List Kd)):List Field->Nat->Option (List Kd)
 |[],_=>some []
 |f::fs,off=>do
  let ks<-d f.type
  if Nat.beq f.offset off&&Nat.beq ks.length (P.cellsOf f.type) then
   let r<-Lv P d fs (off+ks.length)
   some (ks++r)
  else none
def GJ (P:Program):Nat->TypeId->Option (List Kd)
 |0,_=>none
 |d+1,t=>
  match P.underlying t with
  |some .bool=>some [.bool]
  |some (.int k)=>some [.int k k.min k.max]
  |some .string=>some [.str]
  |some (.slice e)=>do
   let ks<-GJ P d e
   if Nat.beq ks.length (P.cellsOf e)&&Nat.blt 0 ks.length then some [.list ks] else none
  |some (.struct fs)=>do
   let ks<-Lv P (GJ P d) fs.toList 0
   if Nat.beq ks.length (P.cellsOf t) then some ks else none
  |some (.array n e)=>do
   let ks<-GJ P d e
   if Nat.beq ks.length (P.cellsOf e)&&Nat.beq (n*ks.length) (P.cellsOf t) then some (List.replicate n ks).flatten else none
  |_=>none
inductive Et {H:Type} (B:Nat):DataW H->Prop where
 |lit {l:Lit} (h:∀s,l= .string s->s.length<=B):Et B (.lit l)
 |nil:Et B .nil
 |slice {l s:List (DataW H)} (hl:l.length<=B) (h:∀d∈l,Et B d):Et B (.slice l s)
 |agg {l:List (DataW H)} (h:∀d∈l,Et B d):Et B (.agg l)
 |ptr (d:DataW H):Et B (.ptr d)
 |iface (t:String) (d:DataW H):Et B (.iface t d)
 |map (es:List (Lit × DataW H)):Et B (.map es)
 |held (h:H):Et B (.held h)
mutual
def KdU (B:Nat):Kd->U->Prop
 | .int _ ar ab,u=>∃n,u= .int n/\ar<=n/\n<=ab
 | .bool,u=>∃b,u= .bool b
 | .str,u=>∃s,u= .str s/\s.size<=B
 | .val,_=>True
 | .any,_=>True
 | .list ks,u=>∃l:List (List U),u= .list l/\l.length<=B/\∀(i:Nat) (us:List U),l[i]? =some us->Bb B ks us
def Bb (B:Nat):List Kd->List U->Prop
 |[],us=>us=[]
 |k::ks,us=>∃u d,us=u::d/\KdU B k u/\Bb B ks d
end
theorem Bb.append {B:Nat}:∀{ks X:List Kd} {us d:List U},Bb B ks us->Bb B X d->Bb B (ks++X) (us++d)
 |[],_,us,d,h,h'=>by rw[show us=[] from h];exact h'
 |k::ks,_,us,d,⟨u,us1,e,O,C⟩,h'=>by
  subst e;exact⟨u,us1++d,rfl,O,Bb.append C h'⟩
def ER (ok:Nat->Nat->Prop)(w:World):List Kd->List U->List Value->Prop
 |[],[],[]=>True
 |k::ks,u::us,c::aC=>Bk ok w k u c/\ER ok w ks us aC
 |_,_,_=>False
section
variable {ok:Nat->Nat->Prop}{w:World}
theorem ER.len:∀{ks:List Kd} {us:List U} {aC:List Value},ER ok w ks us aC->us.length=ks.length/\aC.length=ks.length
 |[],[],[],_=>⟨rfl,rfl⟩
 |_::_,_::_,_::_,h=>by
  obtain⟨O,C⟩:=ER.len h.2;simp[O,C]
 |[],_::_,_,h=>by cases h
 |[],[],_::_,h=>by cases h
 |_::_,[],_,h=>by cases h
 |_::_,_::_,[],h=>by cases h
theorem ER.append:∀{ks X:List Kd} {us p:List U} {aC d:List Value},ER ok w ks us aC->ER ok w X p d->ER ok w (ks++X) (us++p) (aC++d)
 |[],_,[],_,[],_,_,h=>h
 |_::_,_,_::_,_,_::_,_,h,h'=>⟨h.1,ER.append h.2 h'⟩
 |[],_,_::_,_,_,_,h,_=>by cases h
 |[],_,[],_,_::_,_,h,_=>by cases h
 |_::_,_,[],_,_,_,h,_=>by cases h
 |_::_,_,_::_,_,[],_,h,_=>by cases h
theorem ER.mem {b:Nat}:∀{ks:List Kd} {us:List U} {aC:List Value} {off:Nat},ER ok w ks us aC->(∀j c,aC[j]? =some c->ok b (off+j)/\w.cell? ⟨b,off+j,none⟩=some c)->Bw ok w ks b off us
 |[],[],[],_,_,_=>rfl
 |k::ks,u::us,c::aC,off,h,hm=>by
  obtain⟨ax,ai⟩:=hm 0 c rfl;refine⟨u,us,rfl,⟨ax,c,ai,h.1⟩,ER.mem h.2 fun j d hd=>?_⟩;have:=hm (j+1) d (by simpa using hd);rw[show off+(j+1)=off+1+j by omega] at this;exact this
 |[],_::_,_,_,h,_=>by cases h
 |[],[],_::_,_,h,_=>by cases h
 |_::_,[],_,_,h,_=>by cases h
 |_::_,_::_,[],_,h,_=>by cases h
end
theorem VI {w:World}{base n:Nat}{a:Addr}{aC:List Value}(h:w.cells? base a n=some aC):aC.length=n/\∀j,j < n->w.cell? (a.add j)=aC[j]? :=by
 unfold World.cells? at h;split at h
 .obtain⟨O,C⟩:=Fx _ _ _ h;grind
 .cases h
section
variable {H:Type}{enc:TypeId × Value->H}{P:Program}{w:World}{base:Nat}{be:Nat->Bool}{bc:Bool}{B:Nat}
theorem C6 (hB:B<=BT):∀(d:Nat) {t:TypeId} {ks:List Kd} {aK:Nat} {aC:List Value} {x:DataW H × List MemPlace},GJ P d t=some ks->DataW.trod enc P w base be bc aK t aC=some x->Et B x.1->
  ∃us,ER (fun b _=>b < w.heap.size) w ks us aC/\Bb B ks us
 |0,t,ks,aK,aC,x,p,_,_=>by simp[GJ] at p
 |d+1,t,ks,aK,aC,x,p,h,aa=>by
  simp only[GJ] at p;split at p
  .rename_i z;obtain⟨b,rfl,rfl⟩:=DataW.trod_bool z h;cases p;exact⟨[.bool b],⟨⟨b,rfl,rfl⟩,trivial⟩,_,_,rfl,⟨b,rfl⟩,rfl⟩
  .rename_i k z;obtain⟨n,rfl,rfl,c3⟩:=DataW.trod_int z h;cases p;have hb:k.min<=n/\n<=k.max:=by simpa [Lit.wf] using c3
   exact⟨[.int n],⟨⟨n,rfl,rfl,hb⟩,trivial⟩,_,_,rfl,⟨n,rfl,hb⟩,rfl⟩
  .rename_i z;obtain⟨s,rfl,rfl,_⟩:=DataW.trod_string z h;cases p;cases aa with
   |lit aa=>
   have hb:=aa _ rfl;have cb:s.size<=B:=by simpa using hb
   exact⟨[.str s],⟨⟨s,rfl,rfl,AV cb hB⟩,trivial⟩,_,_,rfl,⟨s,rfl,cb⟩,rfl⟩
  .
   rename_i e z;simp only[AD,AA] at p;obtain⟨u,he,p⟩:=p;split at p
   .rename_i y;rw[AB] at y;have bl:=yI y.1;have ce:=CU y.2;cases p;rcases open_slice z h with⟨rfl,rfl⟩|⟨a,len,I,m,n,D,Pl,rfl,_,b1,_,hm,rfl,cv⟩
    .exact⟨[.list []],⟨⟨[],rfl,Ak _,fun _=>rfl,none,0,rfl,AE _,fun h=>absurd h (by simp)⟩,trivial⟩,_,_,rfl,⟨[],rfl,Ak _,fun i us ab=>by simp at ab⟩,rfl⟩
    .have db:len<=m:=by rw[hm];split<;>omega
     cases aa with
     |slice hl a2=>
     have b9:∀i,i < len->∃us,∃M,w.cells? base (a.add (i*P.cellsOf e)) (P.cellsOf e)=some M/\ER (fun b _=>b < w.heap.size) w u us M/\Bb B u us:=fun i ab=>by
      obtain⟨M,O,C⟩:=cv i (by omega);obtain⟨us,N⟩:=C6 hB d he C (a2 _ (BL.2 ⟨i,by simp[ab],rfl⟩));exact⟨us,M,O,N⟩
     have c6:∃f:Nat->List U,∀i,i < len->∃M,w.cells? base (a.add (i*P.cellsOf e)) (P.cellsOf e)=some M/\ER (fun b _=>b < w.heap.size) w u (f i) M/\Bb B u (f i):=by
      classical
      refine⟨fun i=>if ab:i < len then (b9 i ab).choose else [],fun i ab=>?_⟩;simp only[ab,dif_pos];exact (b9 i ab).choose_spec
     obtain⟨f,hf⟩:=c6;refine⟨[.list ((List.range len).map f)],⟨⟨(List.range len).map f,rfl,by simp at hl⊢;omega,fun h0=>?_,some a,I,by simp,by simpa using b1,fun h0=>?_⟩,trivial⟩,_,_,rfl,⟨_,rfl,by simpa using hl,fun i us ab=>?_⟩,rfl⟩
     .rw[h0] at ce;simp at ce
     .have h0:0 < len:=by simpa using h0
      have cf:a.spot=none:=by
       obtain⟨M,O,_⟩:=hf 0 h0;obtain⟨k1,E⟩:=VI O;have Y:=E 0 (by omega);rw[AF (by omega)] at Y;simp only[Nat.zero_mul,Addr.add,if_true] at Y;unfold World.cell? at Y;split at Y
       .split at Y
        .cases Y
        .rename_i c2;simpa using c2
       .cases Y
      obtain⟨bo,ao,c8⟩:=a;simp only at cf;subst cf;have cs:∀i j,((⟨bo,ao,none⟩:Addr).add i).add j=⟨bo,ao+i+j,none⟩:=fun i j=>by
       unfold Addr.add;split<;>split<;>simp_all
      refine⟨bo,ao,rfl,fun i us ab=>?_⟩;rw[Aj,AX] at ab;obtain⟨i',b0,rfl⟩:=ab;obtain⟨b2,rfl⟩:=AG.1 b0;simp only[List.getElem_range];have bb:i < len:=by simpa using b2
      obtain⟨M,O,C,_⟩:=hf i bb;obtain⟨k1,E⟩:=VI O;refine ER.mem C fun j c hj=>?_;have c9:j < M.length:=(AG.1 hj).1;have y:=E j (by omega);rw[hj,cs,<-bl] at y;refine⟨?_,y⟩;unfold World.cell? at y;split at y
      .rename_i hb;exact (AI.1 hb).1
      .cases y
     .rw[Aj,AX] at ab;obtain⟨i',b0,rfl⟩:=ab;obtain⟨b2,rfl⟩:=AG.1 b0;simp only[List.getElem_range];obtain⟨_,_,_,h3⟩:=hf i (by simpa using b2);exact h3
   .cases p
  .
   rename_i fs z;simp only[AD,AA] at p;obtain⟨X,hf,p⟩:=p;split at p
   .rename_i y;have bl:=yI y;cases p;obtain⟨xs,n,rfl,rfl,cu,ch,b3⟩:=DataW.trod_struct z h;cases aa with
    |agg a2=>
    have b5:∀(l:List Field) (off i:Nat) (ks:List Kd),Lv P (GJ P d) l off=some ks->(∀j f,l[j]? =some f->fs[i+j]? =some f)->off+ks.length<=aC.length->∃us,ER (fun b _=>b < w.heap.size) w ks us ((aC.drop off).take ks.length)/\Bb B ks us:=by
     intro l;induction l with
     |nil=>intro off i ks p _ _;simp only[Lv] at p;cases p;exact⟨[],by simp[ER],rfl⟩
     |cons f l ih=>
      intro off i ks p hl b1;simp only[Lv,AD,AA] at p;obtain⟨kf,cy,p⟩:=p;split at p
      .rename_i y;rw[AB] at y;have e1:=yI y.1;have e2:=yI y.2;simp only[AA] at p;obtain⟨kr,c0,p⟩:=p;cases p;rw[AP] at b1;have cc:=hl 0 f rfl;have bb:i < xs.length:=by rw[ch];exact (AI.1 (by simpa using cc)).1
       have hx:=b3 i f (by simpa using cc);rw[AF bb] at hx;obtain⟨b7,a3⟩:=C6 hB d cy hx (a2 _ (BL.2 ⟨_,yM bb,rfl⟩));obtain⟨b8,a5⟩:=ih (off+kf.length) (i+1) kr c0 (fun j g hg=>by have:=hl (j+1) g (by simpa using hg);rw[show i+(j+1)=i+1+j by omega] at this;exact this) (by omega);refine⟨b7++b8,?_,a3.2.append a5.2⟩;have:=a3.1.append a5.1;rw[e1,<-e2] at this;have e3:(aC.drop off).take (kf++kr).length=(aC.drop off).take kf.length++(aC.drop (off+kf.length)).take kr.length:=by
        rw[AP,List.take_add,A7]
       rw[e3];exact this
      .cases p
    obtain⟨us,N⟩:=b5 fs.toList 0 0 ks hf (fun j f hj=>by simpa using hj) (by omega);refine⟨us,?_,N.2⟩;have:(aC.drop 0).take ks.length=aC:=by rw[List.drop_zero,List.take_of_length_le (by omega)]
    rw[this] at N;exact N.1
   .cases p
  .
   rename_i n e z;simp only[AD,AA] at p;obtain⟨u,he,p⟩:=p;split at p
   .rename_i y;rw[AB] at y;have bl:=yI y.1;have dd:=yI y.2;cases p;obtain⟨xs,m,rfl,rfl,cu,ch,b3⟩:=DataW.trod_array z h;cases aa with
    |agg a2=>
    have b5:∀(j i:Nat),i+j<=n->∃us,ER (fun b _=>b < w.heap.size) w (List.replicate j u).flatten us ((aC.drop (i*u.length)).take (j*u.length))/\Bb B (List.replicate j u).flatten us:=by
     intro j;induction j with
     |zero=>intro i _;exact⟨[],by simp[ER],rfl⟩
     |succ j ih=>
      intro i ab;have hx:=b3 i (by omega);rw[AF (by omega)] at hx;obtain⟨b7,a3⟩:=C6 hB d he hx (a2 _ (BL.2 ⟨_,yM (by omega),rfl⟩));obtain⟨b8,a5⟩:=ih (i+1) (by omega);rw[List.replicate_succ,BK];refine⟨b7++b8,?_,a3.2.append a5.2⟩;have:=a3.1.append a5.1;rw[<-bl] at this;have e3:(aC.drop (i*u.length)).take ((j+1)*u.length)=(aC.drop (i*u.length)).take u.length++(aC.drop ((i+1)*u.length)).take (j*u.length):=by
       rw[show (j+1)*u.length=u.length+j*u.length by rw[Nat.succ_mul];omega,List.take_add,A7,show (i+1)*u.length=i*u.length+u.length by rw[Nat.succ_mul]]
      rw[e3];exact this
    obtain⟨us,N⟩:=b5 n 0 (by omega);refine⟨us,?_,N.2⟩;have:(aC.drop (0*u.length)).take (n*u.length)=aC:=by rw[Nat.zero_mul,List.drop_zero,List.take_of_length_le (by omega)]
    rw[this] at N;exact N.1
   .cases p
  .cases p
end
end
section
open Go Go.RowKit
def S6:Nat->List Kd->List AC
 |_,[]=>[]
 |x,k::ks=>SL k x::S6 (x+1) ks
def uO (P:Program)(t:TypeId)(x:Nat)(ks:List Kd):Option AC:=
 if DI P t then some (.agg (S6 x ks)) else match ks with
  |[k]=>some (SL k x)
  |_=>none
def MC (P:Program)(d:Nat):List TypeId->Nat->Option (List AC × List Kd)
 |[],_=>some ([],[])
 |t::au,x=>do
  let ks<-GJ P d t;let a<-uO P t x ks;let (aU,r) <-MC P d au (x+ks.length)
  some (a::aU,ks++r)
def QA:DP:=⟨⟨0,[],.nil⟩, #[],.skip,.skip,[]⟩
def cY (lps:List (Nat × DP))(us:List U):Tab:=⟨fun x=>us.getD x default,fun _ _=>True,fun s=>(Hg lps s).getD QA,0⟩
def QQ:List (Nat × DP)->Bool
 |[]=>true
 |(s,_)::r=>(r.all fun p=> !Nat.beq p.1 s)&&QQ r
def Oq (n:Nat)(g:G):Bool:=Dc [] 0 n g.n g.eqs&&QQ g.lps
def xp (T:Tab):AC->Prop
 | .cb b=>b=true
 | .b x=>T x= .bool true
 | .nb x=>T x= .bool false
 |_=>False
theorem SX:∀{lps:List (Nat × DP)},QQ lps=true->∀p∈lps,Hg lps p.1=some p.2
 |[],_,p,d=>by cases d
 |(s,S)::r,h,p,d=>by
  simp only[QQ,AB] at h;simp only[Hg];cases d with
  |head=>simp only[(E5 s s).2 rfl,if_true]
  |tail _ d=>
   have u:=Ae.1 h.1 p d;split
   .rename_i y;have e:=yI y;rw[(E5 p.1 s).2 e.symm] at u;cases u
   .exact SX h.2 p d
section
variable {P:Program}{T:Tab}{n:Nat}{W :Nat->Option Nat}{w:World}{B:Nat}
variable{v:Value}{t:TypeId}{base:Nat}
theorem vC {ok:Nat->Nat->Prop}(u:∀b off,ok b off->Bt T W [] w b off){k:Kd}{x:Nat}(d:x < n)(h:Bk ok w k (T x) v):BQ T n W [] w (SL k x) v:=by
 cases k with
 |int k ar ab=>exact⟨d,h⟩
 |bool=>exact⟨d,h⟩
 |str=>exact⟨d,h⟩
 |val=>exact⟨d,h.1,h.2⟩
 |any=>exact h.one
 |list ks=>exact⟨d,Bk.mono (fun b off p=>⟨u b off p,rfl⟩) _ _ _ h⟩
theorem eP {ok:Nat->Nat->Prop}(d:∀b off,ok b off->Bt T W [] w b off):∀{ks:List Kd} {us:List U} {aC:List Value} {x:Nat},ER ok w ks us aC->(∀j u,us[j]? =some u->T (x+j)=u)->x+ks.length<=n->BR T n W [] w (S6 x ks) aC
 |[],[],[],_,_,_,_=>rfl
 |k::ks,u::us,c::aC,x,h,hT,hn=>by
  simp only[Ad] at hn;refine⟨c,aC,rfl,vC d (by omega) ?_,eP d h.2 (fun j v p=>?_) (by omega)⟩
  .have:=hT 0 u rfl;rw[Nat.add_zero] at this;rw[this];exact h.1
  .have:=hT (j+1) v (by simpa using p);rw[show x+(j+1)=x+1+j by omega] at this;exact this
 |[],_::_,_,_,h,_,_=>by cases h
 |[],[],_::_,_,h,_,_=>by cases h
 |_::_,[],_,_,h,_,_=>by cases h
 |_::_,_::_,[],_,h,_,_=>by cases h
theorem xZ {d:Nat}{ks:List Kd}(p:GJ P d t=some ks)(u:DI P t=false)(y:Value.okWide P w .any base t v):∀aC,v≠ .agg aC:=by
 intro aC e;subst e;cases d with
 |zero=>simp[GJ] at p
 |succ d=>
  simp only[GJ] at p;unfold Value.okWide at y;unfold DI at u;split at p<;>rename_i z<;>simp only[z] at y u<;>first
   |(cases u;done)
   |(simp[Cell.okWide,Cell.ok,z] at y;done)
   |(cases p;done)
theorem oK (d:DI P t=true)(p:Value.okWide P w .any base t v):∃aC,v= .agg aC:=by
 unfold DI at d;unfold Value.okWide at p;grind
theorem iu {H:Type}{enc:TypeId × Value->H}{sp:Nat->Bool}{bc:Bool}{base:Nat}(hB:B<=BT){dd:Nat}:∀(au:List TypeId) {x:Nat} {aU:List AC} {ks:List Kd} {Y:List Value} {y:List (DataW H)} {ps:List MemPlace},MC P dd au x=some (aU,ks)->
  DataW.TrodAll enc P w 0 sp bc au Y y ps->(∀(j:Nat) t v,au[j]? =some t->Y[j]? =some v->Value.okWide P w .any base t v)->(∀d∈y,Et B d)->
  ∃us,Bb B ks us/\us.length=ks.length/\∀(T:Tab) W,(∀b off,b < w.heap.size->Bt T W [] w b off)->(∀j u,us[j]? =some u->T (x+j)=u)->∀n,x+ks.length<=n->BR T n W [] w aU Y
 |[],x,aU,ks,Y,y,ps,h,ht,_,_=>by
  simp only[MC] at h;cases h;cases Y with
  |nil=>exact⟨[],rfl,rfl,fun _ _ _ _ _ _=>rfl⟩
  |cons v Y=>cases y<;>exact ht.elim
 |t::au,x,aU,ks,Y,y,ps,h,ht,hv,aa=>by
  simp only[MC,AD,AA] at h;obtain⟨k1,hk,a,z,⟨b8,E⟩,hr,h⟩:=h;cases h;cases Y with
  |nil=>cases y<;>exact ht.elim
  |cons v Y=>
   cases y with
   |nil=>exact ht.elim
   |cons d y=>
    obtain⟨p,q,⟨aK,O⟩,C,_⟩:=ht;obtain⟨b5,u1,u2,u3⟩:=iu hB au hr C (fun j a2 v' M bs=>hv (j+1) a2 v' (by simpa using M) (by simpa using bs)) (fun d' hd=>aa d' (AK _ hd));obtain⟨ab,aN,w2⟩:=C6 hB dd hk O (aa d (AN ..));have a9:=hv 0 t v rfl rfl;obtain⟨af,aj⟩:=aN.len;refine⟨ab++b5,w2.append u1,by simp[af,u2],fun T W a7 hT n hn=>?_⟩;rw[AP] at hn;have bt:x+k1.length+E.length<=n:=by simp only at hn;omega
    have bm:∀j u,ab[j]? =some u->T (x+j)=u:=fun j u M=>hT j u (by rw[AR (AG.1 M).1];exact M);have a1:=eP (T:=T) (n:=n) (W := W) (x:=x) a7 aN bm (by omega);refine⟨v,Y,rfl,?_,u3 T W a7 (fun j u M=>?_) n bt⟩
    .unfold uO at z;split at z
     .rename_i X;cases z;obtain⟨aC,rfl⟩:=oK X a9;exact⟨aC.toList,by simp,a1⟩
     .rename_i X;split at z
      .rename_i k;cases z;obtain⟨u,b4,N,e2,e3⟩:=a1;rw[show b4=[] from e3] at N;have bx:=xZ hk (by simpa using X) a9;have bo:v.cells= #[v]:=by cases v<;>first|rfl|exact absurd rfl (bx _)
       rw[bo] at N;simp at N;rw[N];exact e2
      .cases z
    .have:=hT (ab.length+j) u (by rw[AS (by omega)];simpa using M);rw[af,<-Nat.add_assoc] at this;exact this
end
inductive Z7 where
 |one (k:Kd)
 |agg (ks:List Kd)
 |ptr (j off:Nat)
 |cst (c:AC)
def Gv:Nat->List Z7->List AC
 |_,[]=>[]
 |x,.one k::r=>SL k x::Gv (x+1) r
 |x,.agg ks::r=> .agg (S6 x ks)::Gv (x+ks.length) r
 |x,.ptr j off::r=> .ptr j off::Gv x r
 |x,.cst c::r=>c::Gv x r
def Eg:List Z7->List Kd
 |[]=>[]
 | .one k::r=>k::Eg r
 | .agg ks::r=>ks++Eg r
 | .ptr _ _::r=>Eg r
 | .cst _::r=>Eg r
def LJ:Nat->List (List Kd × TypeId)->Mem
 |_,[]=>[]
 |x,(ks,e)::r=> .cells (S6 x ks) e::LJ (x+ks.length) r
def Su (l:List (List Kd × TypeId)):List Kd:=(l.map (·.1)).flatten
structure Bf where
 sh:List Z7
 blks:List (List Kd × TypeId)
 outs:List (Tg × (List U->U))
 c:AC
 m':Mem
 pre:List (Tg × (List U->Prop))
 row:Option (List Kd × TypeId):=none
 ptrs:Nat:=0
def Wx (d:Nat):Nat->Nat->List AC
 |_,0=>[]
 |x,k+1=> .mp 0 1 x d 0::Wx d (x+1) k
def TM (d:Nat):Nat->List AC
 |0=>[.mr 0 1]
 |k+1=>Wx d 2 (k+1)
def Bf.args (t:Bf):List AC:=match t.row with|none=>Gv 0 t.sh|some (ks,_)=>TM ks.length t.ptrs++Gv (2+t.ptrs) t.sh
def Bf.m (t:Bf):Mem:=match t.row with|none=>LJ (Eg t.sh).length t.blks|some (ks,e)=>[.mrow 0 1 ks e]
def Bf.ks (t:Bf):List Kd:=match t.row with|none=>Eg t.sh++Su t.blks|some (ks,_)=> .list ks:: .int .i64 0 BT::(List.replicate t.ptrs (.int .i64 0 BT)++Eg t.sh)
def Bf.n (t:Bf):Nat:=t.ks.length
def Bf.us (t:Bf)(us:List U):List U:=us++t.outs.map fun o=>o.2 us
def Bl (P:Program)(f:FuncId)(t:Bf):Prop:=
 ∃d:Nat->DP,∀(T:Tab) (us:List U),T.lp=d->us.length=t.n->(∀j u,(t.us us)[j]? =some u->T j=u)->(∀p∈t.pre,p.2 us)->∀ W w Y,BR T t.n W t.m w t.args Y->BX T t.n W t.m w->
  (∃aA,P.funcs[f]? =some aA/\aA.body.isSome=true/\(aA.name== "runtime.NumGoroutine")=false)/\
  Calls P f (Y:List Value).toArray w fun e ac=>∃v ad,e= .returned v/\BY T t.n W t.m w ad t.m' ac/\BX T (t.n+t.outs.length) ad t.m' ac/\BQ T (t.n+t.outs.length) ad t.m' ac t.c v
def Z8:List AC->List AC->List (Nat × Nat)
 | .ptr j _::aU,.ptr id _::aC=>(j,id)::Z8 aU aC
 |_::aU,_::aC=>Z8 aU aC
 |_,_=>[]
def Ir:List (Nat × Nat)->Nat->Option Nat
 |[],_=>none
 |(j,id)::r,x=>if Nat.beq j x then some id else Ir r x
def TF (x:Nat):Option (Rf × List Pr)->Option (List (Nat × Rf) × List Pr)
 |some (r,ps)=>some ([(x,r)],ps)
 |none=>none
def jN:Option (List (Nat × Rf) × List Pr)->Option (List (Nat × Rf) × List Pr)->Option (List (Nat × Rf) × List Pr)
 |some (a,b),some (a',b')=>some (a++a',b++b')
 |_,_=>none
mutual
def C2 (aL:List (Nat × Nat)):AC->AC->Option (List (Nat × Rf) × List Pr)
 | .ptr j off,c=>(match c with
  | .ptr id off'=>if Nat.beq off off'&&(match Ir aL j with|some d=>Nat.beq id d|none=>false) then some ([],[]) else none
  |_=>none)
 | .i k ar ab x,c=>TF x (fit (.int k ar ab) c)
 | .b x,c=>TF x (fit .bool c)
 | .v x,c=>TF x (fit .val c)
 | .s x,c=>TF x (fit .str c)
 | .ro x ks,c=>TF x (fit (.list ks) c)
 | .agg l,c=>(match c with
  | .agg ak=>Jj aL l ak
  |_=>none)
 | .anyc,c=>if AC.atom c then some ([],[]) else none
 | .fn f [] [],c=>if AC.beq (.fn f [] []) c then some ([],[]) else none
 |_,_=>none
def Jj (aL:List (Nat × Nat)):List AC->List AC->Option (List (Nat × Rf) × List Pr)
 |[],[]=>some ([],[])
 |h::l,c::ak=>jN (C2 aL h c) (Jj aL l ak)
 |_,_=>none
end
def TN (aL:List (Nat × Nat)):Blk->Blk->Option (List (Nat × Rf) × List Pr)
 | .cells l e,.cells ak e'=>if Nat.beq e e' then Jj aL l ak else none
 |_,_=>none
def Jw (aL:List (Nat × Nat))(aG:Mem):List (Nat × Nat)->Mem->Option (List (Nat × Rf) × List Pr)
 |[],[]=>some ([],[])
 |(_,id)::r,b::m=>jN (TN aL b (aG.at id)) (Jw aL aG r m)
 |_,_=>none
def co (aL:List (Nat × Nat))(a8 a6 j:Nat):Option Nat:=if Nat.blt j a8 then Ir aL j else some (a6+(j - a8))
mutual
def up1 (n base:Nat)(aL:List (Nat × Nat))(a8 a6:Nat)(ag:Mem)(ah:List Rf):AC->AC
 | .i k ar ab x=>if Nat.ble n x then .i k ar ab (base+(x - n)) else (match ah[x]? with|some (.e y)=> .i k ar ab y|_=> .anyc)
 | .b x=>if Nat.ble n x then .b (base+(x - n)) else (match ah[x]? with|some (.e y)=> .b y|_=> .anyc)
 | .v x=>if Nat.ble n x then .v (base+(x - n)) else (match ah[x]? with|some (.e y)=> .v y|_=> .anyc)
 | .s x=>if Nat.ble n x then .s (base+(x - n)) else (match ah[x]? with|some (.e y)=> .s y|_=> .anyc)
 | .ro x ks=>if Nat.ble n x then .ro (base+(x - n)) ks else (match ah[x]? with|some (.e y)=> .ro y ks|_=> .anyc)
 | .vec _ x ks=>if Nat.ble n x then .ro (base+(x - n)) ks else (match ah[x]? with|some (.e y)=> .ro y ks|_=> .anyc)
 | .ptr j off=>(match ag.at j,co aL a8 a6 j with| .cells _ _,some id=> .ptr id off|_,_=> .anyc)
 | .cb b=> .cb b
 | .ci k i=> .ci k i
 | .cv c=> .cv c
 | .agg l=> .agg (upL n base aL a8 a6 ag ah l)
 | .tup l=> .tup (upL n base aL a8 a6 ag ah l)
 |_=> .any
def upL (n base:Nat)(aL:List (Nat × Nat))(a8 a6:Nat)(ag:Mem)(ah:List Rf):List AC->List AC
 |[]=>[]
 |a::l=>up1 n base aL a8 a6 ag ah a::upL n base aL a8 a6 ag ah l
end
def det:AC->Bool
 | .i .. | .b _| .v _| .s _| .ptr .. | .ci .. | .cb _| .cv _=>true
 |_=>false
def XG (up:AC->AC):List AC->List AC->List AC->List AC
 |h0::l0,c::l,h::ak=>(if det h&&AC.beq h0 h then c else up h)::XG up l0 l ak
 |_,_,_=>[]
def Qf (up:AC->AC):Blk->Blk->Blk->Blk
 | .cells l0 _,.cells l e,.cells ak e'=>if Nat.beq l0.length l.length&&Nat.beq l.length ak.length&&Nat.beq e e' then .cells (XG up l0 l ak) e else .gone
 |_,_,_=> .gone
def FN (B:Nat->Blk->Blk):List (Nat × Nat)->Mem->Mem
 |[],m=>m
 |(j,id)::r,m=>(FN B r m).set id (B j (m.at id))
def ef (up:AC->AC):Blk->Blk
 | .cells l e=> .cells (l.map up) e
 |_=> .gone
def aR (t:Bf):CM:=fun _ _ aU ae aG g=>
 let aL:=Z8 t.args aU
 if t.row.isNone&&Ff (aL.map (·.1)) (List.range t.m.length)&&Ij (aL.map (·.2))&&aL.all (fun p=>Nat.blt p.2 aG.length)&&Nat.ble t.m.length t.m'.length then
  match jN (Jj aL t.args aU) (Jw aL aG aL t.m) with
  |some (prs,ps)=>
   if Ff (prs.map (·.1)) (List.range t.n) then
    let ah:=prs.map (·.2);let up:=up1 t.n g.n aL t.m.length aG.length t.m' ah
    some (up t.c,FN (fun j b=>Qf up (t.m.at j) b (t.m'.at j)) aL aG++(t.m'.drop t.m.length).map (ef up),
     (g.needAll ae (ps++t.pre.map fun (tg,f)=>⟨tg,f,ah⟩)).pushAll (t.outs.map fun (tg,F)=>⟨tg,F,ah⟩))
   else none
  |none=>none
 else none
theorem MW:∀{l ak:List Nat},Ff l ak=true->l=ak
 |[],[],_=>rfl
 |a::l,b::ak,h=>by
  simp only[Ff,AB] at h;rw[yI h.1,MW h.2]
 |[],_::_,h=>by cases h
 |_::_,[],h=>by cases h
theorem SW:∀{aL:List (Nat × Nat)} {j id:Nat},Ir aL j=some id->(j,id)∈aL
 |[],_,_,h=>by simp[Ir] at h
 |(j',id')::r,j,id,h=>by
  simp only[Ir] at h;split at h
  .rename_i d;cases h;rw[yI d];exact AN ..
  .exact AK _ (SW h)
theorem rC {aL:List (Nat × Nat)}(d:(aL.map (·.1)).Nodup){j id:Nat}(h:(j,id)∈aL):Ir aL j=some id:=by
 induction aL with
 |nil=>cases h
 |cons p r y=>
  obtain⟨C,z⟩:=p;simp only[AT,List.nodup_cons] at d;simp only[Ir];cases h with
  |head=>simp
  |tail _ h=>
   split
   .rename_i u;have:=yI u;subst this;exact absurd (BL.2 ⟨_,h,rfl⟩) d.1
   .exact y d.2 h
def Um (n:Nat):Rf->Prop
 | .c _=>True
 | .e x=>x < n
 | .n x=>x < n
variable{T:Tab}{W:Nat->Option Nat}{w:World}{c:AC}{k:Kd}{r:Rf}{v:Value}{ps:List Pr}
theorem uf {n:Nat}{m:Mem}(h:Gq c=some (k,r))(p:BQ T n W m w c v):Um n r:=by
 cases c<;>simp only[Gq] at h<;>first
  |(cases h;done)
  |(cases h;trivial)
  |(cases h;exact p.1)
  |(rename_i d;cases d<;>simp only[Gq] at h<;>(try split at h)<;>cases h<;>trivial)
theorem wZ {n:Nat}{m:Mem}(h:fit k c=some (r,ps))(d:BQ T n W m w c v):Um n r:=by
 cases aa:Gq c with
 |none=>unfold fit at h;rw[aa] at h;cases k<;>cases h
 |some p=>
  obtain⟨u,aB⟩:=p;have:=uf aa d;have e:aB=r:=by
   unfold fit at h;grind
  rw[<-e];exact this
theorem OM {a b:Option (List (Nat × Rf) × List Pr)}{z:List (Nat × Rf)}(h:jN a b=some (z,ps)):∃d u p y,a=some (d,u)/\b=some (p,y)/\z=d++p/\ps=u++y:=by
 cases a with
 |none=>cases b<;>cases h
 |some a=>
  cases b with
  |none=>cases h
  |some b=>
   obtain⟨d,u⟩:=a;obtain⟨p,y⟩:=b;cases h;exact⟨d,u,p,y,rfl,rfl,rfl,rfl⟩
section
variable {T J:Tab}{W aV:Nat->Option Nat}{aG mt:Mem}{w:World}{n a4:Nat}{aL:List (Nat × Nat)}
structure ay (T T2:Tab) (ρ ρ2:Nat->Option Nat) (ma mt:Mem) (w:World) (ren:List (Nat × Nat)):Prop where
 safe:∀b off,Bt T ρ ma w b off->Bt T2 ρ2 mt w b off
 ptr:∀j id,Ir ren j=some id-> ρ2 j= ρ id/\(mt.at j).ptrOk=true
mutual
theorem sG (M:ay T J W aV aG mt w aL):∀(h c:AC) {y:List (Nat × Rf)} {ps:List Pr} {v:Value},C2 aL h c=some (y,ps)->(∀p∈y,p.1 < n/\J p.1=p.2.eval T)->(∀p∈ps,p.holds T)->BQ T a4 W aG w c v->
  BQ J n aV mt w h v/\∀p∈y,Um a4 p.2
 | .ptr j off,c,y,ps,v,hb,d,hq,hv=>by
  cases c<;>simp only[C2] at hb<;>try (cases hb;done)
  rename_i id a5;cases hl:Ir aL j with
  |none=>rw[hl] at hb;simp at hb
  |some a3=>
   rw[hl] at hb;simp only at hb;split at hb
   .rename_i X;cases hb;rw[AB] at X;have e1:=yI X.1;have e2:=yI X.2;subst e1;subst e2;obtain⟨b,u,E,_⟩:=hv;obtain⟨z,k4⟩:=M.ptr j id hl;exact⟨⟨b,by rw[z];exact u,E,k4⟩,fun p d=>by cases d⟩
   .cases hb
 | .i k ar ab x,c,y,ps,v,hb,d,hq,hv=>by
  simp only[C2] at hb;obtain⟨u,E,z⟩:=Nt M hb d hq hv;exact⟨⟨u,E⟩,z⟩
 | .b x,c,y,ps,v,hb,d,hq,hv=>by
  simp only[C2] at hb;obtain⟨u,E,z⟩:=Nt M hb d hq hv;exact⟨⟨u,E⟩,z⟩
 | .v x,c,y,ps,v,hb,d,hq,hv=>by
  simp only[C2] at hb;obtain⟨u,E,z⟩:=Nt M hb d hq hv;exact⟨⟨u,E⟩,z⟩
 | .s x,c,y,ps,v,hb,d,hq,hv=>by
  simp only[C2] at hb;obtain⟨u,E,z⟩:=Nt M hb d hq hv;exact⟨⟨u,E⟩,z⟩
 | .ro x ks,c,y,ps,v,hb,d,hq,hv=>by
  simp only[C2] at hb;obtain⟨u,E,z⟩:=Nt M hb d hq hv;exact⟨⟨u,E⟩,z⟩
 | .agg l,c,y,ps,v,hb,d,hq,hv=>by
  cases c<;>simp only[C2] at hb<;>try (cases hb;done)
  rename_i ak;obtain⟨Y,e,O⟩:=hv;obtain⟨u,E⟩:=Kw M l ak hb d hq O;exact⟨⟨Y,e,u⟩,E⟩
 | .anyc,c,y,ps,v,hb,d,hq,hv=>by
  simp only[C2] at hb;split at hb
  .rename_i N;cases hb;exact⟨Iu N hv,fun p d=>by cases d⟩
  .cases hb
 | .any,_,_,_,_,hb,_,_,_=>by simp[C2] at hb
 | .on _ _,_,_,_,_,hb,_,_,_=>by simp[C2] at hb
 | .gd _ _,_,_,_,_,hb,_,_,_=>by simp[C2] at hb
 | .cb _,_,_,_,_,hb,_,_,_=>by simp[C2] at hb
 | .nb _,_,_,_,_,hb,_,_,_=>by simp[C2] at hb
 | .ci _ _,_,_,_,_,hb,_,_,_=>by simp[C2] at hb
 | .cv _,_,_,_,_,hb,_,_,_=>by simp[C2] at hb
 | .pix ..,_,_,_,_,hb,_,_,_=>by simp[C2] at hb
 | .rp ..,_,_,_,_,hb,_,_,_=>by simp[C2] at hb
 | .vec ..,_,_,_,_,hb,_,_,_=>by simp[C2] at hb
 | .fn f [] [],c,y,ps,v,hb,_,_,hv=>by
  simp only[C2] at hb;split at hb
  .rename_i N;cases hb;have e:=AC.beq_eq _ _ N;subst e;obtain⟨Y,us,O,C,h3⟩:=hv;exact⟨⟨Y,us,O,C,h3⟩,fun p d=>by cases d⟩
  .cases hb
 | .fn _ (_::_) _,_,_,_,_,hb,_,_,_=>by simp[C2] at hb
 | .fn _ [] (_::_),_,_,_,_,hb,_,_,_=>by simp[C2] at hb
 | .mr ..,_,_,_,_,hb,_,_,_=>by simp[C2] at hb
 | .mp ..,_,_,_,_,hb,_,_,_=>by simp[C2] at hb
 | .mv _,_,_,_,_,hb,_,_,_=>by simp[C2] at hb
 | .sel ..,_,_,_,_,hb,_,_,_=>by simp[C2] at hb
 | .yl _,_,_,_,_,hb,_,_,_=>by simp[C2] at hb
 | .asl ..,_,_,_,_,hb,_,_,_=>by simp[C2] at hb
 | .rsv ..,_,_,_,_,hb,_,_,_=>by simp[C2] at hb
 | .tup _,_,_,_,_,hb,_,_,_=>by simp[C2] at hb
theorem Kw (M:ay T J W aV aG mt w aL):∀(l ak:List AC) {y:List (Nat × Rf)} {ps:List Pr} {Y:List Value},Jj aL l ak=some (y,ps)->(∀p∈y,p.1 < n/\J p.1=p.2.eval T)->(∀p∈ps,p.holds T)->BR T a4 W aG w ak Y->
  BR J n aV mt w l Y/\∀p∈y,Um a4 p.2
 |[],[],y,ps,Y,hb,_,_,hv=>by
  simp only[Jj] at hb;cases hb;exact⟨hv,fun p z=>by cases z⟩
 |h::l,c::ak,y,ps,Y,hb,z,hq,hv=>by
  simp only[Jj] at hb;obtain⟨p1,q1,p2,q2,N,X,rfl,rfl⟩:=OM hb;obtain⟨u,us,e,O,C⟩:=hv;obtain⟨k1,E⟩:=sG M h c N (fun p d=>z p (AU _ d)) (fun p d=>hq p (AU _ d)) O;obtain⟨k3,k4⟩:=Kw M l ak X (fun p d=>z p (AO _ d)) (fun p d=>hq p (AO _ d)) C;refine⟨⟨u,us,e,k1,k3⟩,fun p d=>?_⟩;rcases Ap.1 d with h|h
  .exact E p h
  .exact k4 p h
 |[],_::_,_,_,_,hb,_,_,_=>by simp[Jj] at hb
 |_::_,[],_,_,_,hb,_,_,_=>by simp[Jj] at hb
theorem Nt (M:ay T J W aV aG mt w aL){k:Kd}{x:Nat}{c:AC}{y:List (Nat × Rf)}{ps:List Pr}{v:Value}(d:TF x (fit k c)=some (y,ps))(O:∀p∈y,p.1 < n/\J p.1=p.2.eval T)(X:∀p∈ps,p.holds T)(C:BQ T a4 W aG w c v):
  x < n/\Bk (Bt J aV mt w) w k (J x) v/\∀p∈y,Um a4 p.2:=by
 cases u:fit k c with
 |none=>rw[u] at d;cases d
 |some Y=>
  obtain⟨r,q⟩:=Y;rw[u] at d;cases d;obtain⟨N,E⟩:=O (x,r) (Al.2 rfl);simp only at N E;refine⟨N,?_,fun p z=>?_⟩
  .rw[E];exact Bk.mono (fun b off h=>⟨M.safe b off h,rfl⟩) _ _ _ (aU u C X)
  .simp at z;subst z;exact wZ u C
end
end
theorem cN {aL:List (Nat × Nat)}{aG:Mem}:∀{r:List (Nat × Nat)} {m:Mem} {u:List (Nat × Rf)} {ps:List Pr},Jw aL aG r m=some (u,ps)->
  r.length=m.length/\∀(i j id:Nat) (b:Blk),r[i]? =some (j,id)->m[i]? =some b->∃p q,TN aL b (aG.at id)=some (p,q)/\(∀x∈p,x∈u)/\∀x∈q,x∈ps
 |[],[],u,ps,h=>⟨rfl,fun i j id b ab=>by simp at ab⟩
 |(U,id0)::r,b0::m,u,ps,h=>by
  simp only[Jw] at h;obtain⟨M,N,p2,q2,O,C,rfl,rfl⟩:=OM h;obtain⟨z,E⟩:=cN C;refine⟨by simp[z],fun i j id b ab y=>?_⟩;cases i with
  |zero=>
   simp at ab y;obtain⟨rfl,rfl⟩:=ab;subst y;exact⟨M,N,O,fun x d=>AU _ d,fun x d=>AU _ d⟩
  |succ i=>
   obtain⟨p,q,X,Y,z3⟩:=E i j id b (by simpa using ab) (by simpa using y);exact⟨p,q,X,fun x d=>AO _ (Y x d),fun x d=>AO _ (z3 x d)⟩
 |[],_::_,_,_,h=>by simp[Jw] at h
 |_::_,[],_,_,h=>by simp[Jw] at h
theorem Kc (B:Nat->Blk->Blk):∀(aL:List (Nat × Nat)) (m:Mem),(FN B aL m).length=m.length
 |[],_=>rfl
 |(j,id)::r,m=>by simp[FN,Kc B r m]
theorem Vh (B:Nat->Blk->Blk):∀(aL:List (Nat × Nat)) (m:Mem),(aL.map (·.2)).Nodup->(∀p∈aL,p.2 < m.length)->∀id,(∀j,(j,id)∈aL->(FN B aL m).at id=B j (m.at id))/\((∀j,(j,id) ∉ aL)->(FN B aL m).at id=m.at id)
 |[],m,_,_,id=>⟨(fun j h=>by cases h),fun _=>rfl⟩
 |(U,id0)::r,m,hn,hl,id=>by
  simp only[AT,List.nodup_cons] at hn;obtain⟨N,E⟩:=Vh B r m hn.2 (fun p M=>hl p (AK _ M)) id;have C:id0 < (FN B r m).length:=by rw[Kc];exact hl (U,id0) (AN ..)
  have z:Mem.at ((FN B r m).set id0 (B U (m.at id0))) id=if id=id0 then B U (m.at id0) else (FN B r m).at id:=by
   unfold Mem.at;rw[yP];by_cases h:id0=id
   .subst h;simp[C]
   .rw[BG h,BG (fun e=>h e.symm)]
  have e:FN B ((U,id0)::r) m=(FN B r m).set id0 (B U (m.at id0)):=rfl;rw[e,z];refine⟨fun j d=>?_,fun y=>?_⟩
  .cases d with
   |head=>rw[BH rfl]
   |tail _ d=>
    have u:id≠id0:=fun h=>hn.1 (BL.2 ⟨_,d,h⟩);rw[BG u];exact N j d
  .have u:id≠id0:=fun h=>y U (by rw[h];exact AN ..);rw[BG u];exact E fun j d=>y j (AK _ d)
theorem eG:∀(f:List (List Kd × TypeId)) (x j:Nat),j < f.length->∃l e,(LJ x f).at j= .cells l e
 |[],_,j,h=>by simp at h
 |(ks,e)::r,x,0,_=>⟨_,_,rfl⟩
 |(ks,e)::r,x,j+1,h=>by
  have:=eG r (x+ks.length) j (by simpa using h);simpa [LJ,Mem.at] using this
theorem Rl:∀(f:List (List Kd × TypeId)) (x:Nat),(LJ x f).length=f.length
 |[],_=>rfl
 |_::r,x=>by simp[LJ,Rl r]
structure dQ (T T2:Tab) (n gn gn':Nat) (ren:List (Nat × Nat)) (nt na:Nat) (ρ2 ρ':Nat->Option Nat) (m2 mo:Mem) (w':World) (rs:List Rf):Prop where
 old:∀x r,rs[x]? =some r->T2 x=r.eval T/\Um gn' r
 new:∀x,n<=x->∀k,x < n+k->gn+k=gn'->gn+(x - n) < gn'/\T (gn+(x - n))=T2 x
 safe:∀b off,Bt T2 ρ2 m2 w' b off->Bt T ρ' mo w' b off
 ptr:∀j l e id,m2.at j= .cells l e->co ren nt na j=some id-> ρ' id= ρ2 j/\(mo.at id).ptrOk=true
section
variable {T J:Tab}{n k a4 ba a8 a6:Nat}{aL:List (Nat × Nat)}{aV ad:Nat->Option Nat}{ai a0:Mem}{ac:World}{ah:List Rf}
mutual
theorem pE (B:dQ T J n a4 ba aL a8 a6 aV ad ai a0 ac ah)(E:a4+k=ba):∀(h:AC) (v:Value),BQ J (n+k) aV ai ac h v->BQ T ba ad a0 ac (up1 n a4 aL a8 a6 ai ah h) v
 | .i al ar ab x,v,⟨h0,i,O,C,h3⟩=>by
  simp only[up1];split
  .rename_i u;obtain⟨d,p⟩:=B.new x (Aa u) k h0 E;exact⟨d,i,by rw[p];exact O,C,h3⟩
  .split
   .rename_i y z;obtain⟨d,p⟩:=B.old x _ z;exact⟨p,i,by rw[<-O,d];rfl,C,h3⟩
   .rw[C];rfl
 | .b x,v,⟨h0,i,O,C⟩=>by
  simp only[up1];split
  .rename_i u;obtain⟨d,p⟩:=B.new x (Aa u) k h0 E;exact⟨d,i,by rw[p];exact O,C⟩
  .split
   .rename_i y z;obtain⟨d,p⟩:=B.old x _ z;exact⟨p,i,by rw[<-O,d];rfl,C⟩
   .rw[C];rfl
 | .v x,v,⟨h0,O,C⟩=>by
  simp only[up1];split
  .rename_i u;obtain⟨d,p⟩:=B.new x (Aa u) k h0 E;exact⟨d,by rw[p];exact O,C⟩
  .split
   .rename_i y z;obtain⟨d,p⟩:=B.old x _ z;exact⟨p,by rw[<-O,d];rfl,C⟩
   .exact C
 | .s x,v,⟨h0,i,O,C⟩=>by
  simp only[up1];split
  .rename_i u;obtain⟨d,p⟩:=B.new x (Aa u) k h0 E;exact⟨d,i,by rw[p];exact O,C⟩
  .split
   .rename_i y z;obtain⟨d,p⟩:=B.old x _ z;exact⟨p,i,by rw[<-O,d];rfl,C⟩
   .rw[C.1];rfl
 | .ro x ks,v,⟨h0,O⟩=>by
  simp only[up1];split
  .rename_i u;obtain⟨d,p⟩:=B.new x (Aa u) k h0 E;exact⟨d,by rw[p];exact Bk.mono (fun b off h=>⟨B.safe b off h,rfl⟩) _ _ _ O⟩
  .split
   .rename_i y z;obtain⟨d,p⟩:=B.old x _ z;exact⟨p,by rw[show T y=J x by rw[d];rfl];exact Bk.mono (fun b off h=>⟨B.safe b off h,rfl⟩) _ _ _ O⟩
   .exact O.one
 | .vec id x ks,v,⟨h0,_,O,_⟩=>by
  simp only[up1];split
  .rename_i u;obtain⟨d,p⟩:=B.new x (Aa u) k h0 E;exact⟨d,by rw[p];exact Bk.mono (fun b off h=>⟨B.safe b off h,rfl⟩) _ _ _ O⟩
  .split
   .rename_i y z;obtain⟨d,p⟩:=B.old x _ z;exact⟨p,by rw[show T y=J x by rw[d];rfl];exact Bk.mono (fun b off h=>⟨B.safe b off h,rfl⟩) _ _ _ O⟩
   .exact O.one
 | .ptr j off,v,⟨b,O,C,h3⟩=>by
  simp only[up1];split
  .rename_i l e id M N;obtain⟨d,p⟩:=B.ptr j l e id M N;exact⟨b,by rw[d];exact O,C,p⟩
  .rw[C];rfl
 | .cb b,v,h=>h
 | .ci al i,v,h=>h
 | .cv c,v,h=>h
 | .agg l,v,⟨Y,O,C⟩=>⟨Y,O,bH B E l Y C⟩
 | .tup l,v,⟨Y,O,C⟩=>⟨Y,O,bH B E l Y C⟩
 | .any,_,_=>trivial
 | .anyc,_,_=>trivial
 | .on _ _,_,_=>trivial
 | .gd _ _,_,_=>trivial
 | .nb _,_,_=>trivial
 | .pix ..,_,_=>trivial
 | .rp ..,_,_=>trivial
 | .fn ..,_,_=>trivial
 | .sel ..,_,_=>trivial
 | .yl _,_,_=>trivial
 | .asl ..,_,_=>trivial
 | .rsv ..,_,_=>trivial
 | .mr ..,_,_=>trivial
 | .mp ..,_,_=>trivial
 | .mv _,_,_=>trivial
theorem bH (B:dQ T J n a4 ba aL a8 a6 aV ad ai a0 ac ah)(d:a4+k=ba):∀(l:List AC) (Y:List Value),BR J (n+k) aV ai ac l Y->BR T ba ad a0 ac (upL n a4 aL a8 a6 ai ah l) Y
 |[],_,h=>h
 |c::l,Y,⟨u,us,O,C,h3⟩=>⟨u,us,O,pE B d c u C,bH B d l us h3⟩
end
end
theorem ZC {aL:List (Nat × Nat)}{aG:Mem}:∀{r:List (Nat × Nat)} {m:Mem} {u:List (Nat × Rf)} {ps:List Pr},Jw aL aG r m=some (u,ps)->
  ∀x∈u,∃(i j id:Nat) (b:Blk) (p:List (Nat × Rf)) (q:List Pr),r[i]? =some (j,id)/\m[i]? =some b/\TN aL b (aG.at id)=some (p,q)/\x∈p
 |[],[],u,ps,h,x,d=>by simp only[Jw] at h;cases h;cases d
 |(U,id0)::r,b0::m,u,ps,h,x,d=>by
  simp only[Jw] at h;obtain⟨y,z,Y,q2,O,C,rfl,rfl⟩:=OM h;rcases Ap.1 d with d|d
  .exact⟨0,U,id0,b0,y,z,rfl,rfl,O,d⟩
  .obtain⟨i,j,id,b,p,q,E,M,N,X⟩:=ZC C x d;exact⟨i+1,j,id,b,p,q,by simpa using E,by simpa using M,N,X⟩
 |[],_::_,_,_,h,_,_=>by simp[Jw] at h
 |_::_,[],_,_,h,_,_=>by simp[Jw] at h
theorem xL {J:Tab}{n ap:Nat}{aV N:Nat->Option Nat}{m ag:Mem}{w ac:World}(Y:∀id,(m.at id).ptrOk=true-> N id= aV id){h:AC}{u d:Value}(hd:det h=true)(O:BQ J n aV m w h u)(C:BQ J ap N ag ac h d):d=u:=by
 cases h<;>simp only[det] at hd<;>try (cases hd;done)
 case cb b=>rw[show u=_ from O,show d=_ from C]
 case b x=>
  obtain⟨_,b,p,E⟩:=O;obtain⟨_,z,y,M⟩:=C;grind
 case ci k i=>rw[show u=_ from O,show d=_ from C]
 case i k ar ab x=>
  obtain⟨_,b,p,E,_⟩:=O;obtain⟨_,z,y,M,_⟩:=C;grind
 case cv c=>rw[show u=_ from O,show d=_ from C]
 case v x=>
  obtain⟨_,p,_⟩:=O;obtain⟨_,y,_⟩:=C;grind
 case s x=>
  obtain⟨_,b,p,E⟩:=O;obtain⟨_,z,y,M⟩:=C;grind
 case ptr id off=>
  obtain⟨b,p,E,y⟩:=O;obtain⟨z,M,X,_⟩:=C;grind
theorem Vo {T J:Tab}{n ap a4 ba:Nat}{W aV z ad:Nat->Option Nat}{aG mt ai a0:Mem}{w ac:World}{up:AC->AC}(M:BY T a4 W aG w ad a0 ac)(C:a4<=ba)(E:∀id,(mt.at id).ptrOk=true-> z id= aV id)
  (N:∀h v,BQ J ap z ai ac h v->BQ T ba ad a0 ac (up h) v):∀{d l ak:List AC} {Y p:List Value},d.length=l.length->l.length=ak.length->BR J n aV mt w d Y->BR T a4 W aG w l Y->BR J ap z ai ac ak p->BR T ba ad a0 ac (XG up d l ak) p
 |[],[],[],Y,p,_,_,_,_,h=>h
 |h0::d,c::l,h::ak,Y,p,e1,e2,⟨u0,us0,f0,a1,a2⟩,⟨u1,us1,f,b1,b2⟩,⟨u,us,f3,aS,c2⟩=>by
  subst f0;subst f3;injection f with O X
  subst O;subst X;refine⟨u,us,rfl,?_,Vo M C E N (by simpa using e1) (by simpa using e2) a2 b2 c2⟩;split
  .rename_i y;rw[AB] at y;have e:=AC.beq_eq _ _ y.2;subst e;rw[xL E y.1 a1 aS];exact BQ.mono0 M C _ _ b1
  .exact N _ _ aS
 |[],_::_,_,_,_,e,_,_,_,_=>by simp at e
 |_::_,[],_,_,_,e,_,_,_,_=>by simp at e
 |[],[],_::_,_,_,_,e,_,_,_=>by simp at e
 |_::_,_::_,[],_,_,_,e,_,_,_=>by simp at e
theorem od {T J:Tab}{ap ba:Nat}{p ad:Nat->Option Nat}{ai a0:Mem}{ac:World}{up:AC->AC}(d:∀h v,BQ J ap p ai ac h v->BQ T ba ad a0 ac (up h) v):∀{l:List AC} {Y:List Value},BR J ap p ai ac l Y->BR T ba ad a0 ac (l.map up) Y
 |[],_,h=>h
 |c::l,Y,⟨u,us,e,O,C⟩=>⟨u,us,e,d _ _ O,od d C⟩
theorem wb (a b:Mem)(id:Nat):Mem.at (a++b) id=if id < a.length then a.at id else b.at (id - a.length):=by
 unfold Mem.at;grind
theorem xD (m:Mem)(a8 i:Nat)(f:Blk->Blk):Mem.at ((m.drop a8).map f) i=if a8+i < m.length then f (m.at (a8+i)) else .pad:=by
 unfold Mem.at;grind
theorem nV {P:Program}{f:FuncId}{t:Bf}(ht:Bl P f t):∀(T:Tab) (an:Ys) (args:List AC) (ae:PC) (aG:Mem) (g:G) (c':AC) (a0:Mem) (ao:G),aR t an f args ae aG g=some (c',a0,ao)->
  Bo g ao/\(Agr T ao->CB T ao->pcv T ae->Ch T g ae->∀ W w Y,BR T g.n W aG w args Y->BX T g.n W aG w->
   (∃aA,P.funcs[f]? =some aA/\aA.body.isSome=true/\(aA.name== "runtime.NumGoroutine")=false)/\Calls P f (Y:List Value).toArray w (H3 T g W aG w c' a0 ao)):=by
 intro T an args ae aG g c' a0 ao bs;obtain⟨hx,ht⟩:=ht;unfold aR at bs;simp only at bs;generalize hQ:Z8 t.args args=aL at bs;split at bs
 .rename_i hc;simp only[AB] at hc;obtain⟨⟨⟨⟨dv,f6⟩,f7⟩,f8⟩,ga⟩:=hc;have dv:t.row=none:=Option.isNone_iff_eq_none.1 dv;have cb:t.m=LJ (Eg t.sh).length t.blks:=by unfold Bf.m;rw[dv]
  split at bs
  .rename_i cc ps hb;split at bs
   .rename_i gd;have er:=MW gd;simp only[Ax,Prod.mk.injEq] at bs;obtain⟨e1,e2,e3⟩:=bs;generalize d0:cc.map (·.2)=ah at e1 e2 e3;obtain⟨p1,q1,p2,q2,f2,b6,dm,e5⟩:=OM hb;generalize di:g.needAll ae (ps++t.pre.map fun x=>(⟨x.1,x.2,ah⟩:Pr))=g1 at e3;have av:g1.n=g.n:=by rw[<-di];exact (EW _ _ _).1
    have fs:Bo g g1:=by rw[<-di];exact Bo.need _ _ _
    have el:Bo g1 ao:=by rw[<-e3];exact Bo.push _ _
    refine⟨fs.trans el,fun hA ha hf hP W w Y hq hm=>?_⟩;have gr:g.n+t.outs.length=ao.n:=by rw[<-e3,Cr,av];simp
    have g8:New T g1.n (t.outs.map fun x=>(⟨x.1,x.2,ah⟩:Ex)):=by rw[<-e3] at hA;exact hA.new
    have e0:∀p∈ps++t.pre.map fun x=>(⟨x.1,x.2,ah⟩:Pr),p.holds T:=by
     have:=ha.of el;rw[<-di] at this;exact CB.need this hf
    have hg:cc.length=t.n:=by have:=BI List.length er;simpa using this
    have hj:ah.length=t.n:=by rw[<-d0];simpa using hg
    have ey:∀p∈cc,p.1 < t.n/\ah[p.1]? =some p.2:=fun p hp=>by
     obtain⟨i,ab⟩:=Ac.1 hp;have O:(cc.map (·.1))[i]? =some p.1:=by simp[ab]
     rw[er] at O;obtain⟨C,h3⟩:=AG.1 O;simp at C h3;subst h3;exact⟨C,by rw[<-d0];simp[ab]⟩
    let us:=ah.map (Rf.eval T);have e6:us.length=t.n:=by simp[us,hj]
    let J:Tab:=⟨fun x=>(t.us us).getD x default,fun b off=>w.heap.size<=b\/Bt T W aG w b off,hx,0⟩;have dd:∀j u,(t.us us)[j]? =some u->J j=u:=fun j u d=>by
     show (t.us us).getD j default=u;simp[List.getD,d]
    have en:∀x r,ah[x]? =some r->J x=r.eval T:=fun x r z=>dd x _ (by
     unfold Bf.us;have hS:=(AG.1 z).1;rw[AR (by omega)];simp[us,z])
    have f0:∀i,i < t.outs.length->J (t.n+i)=T (g.n+i):=fun i ab=>by
     have O:=dd (t.n+i) (t.outs[i].2 us) (by
      unfold Bf.us;rw[AS (by omega),e6];simp[ab])
     have C:=g8 i ⟨t.outs[i].1,t.outs[i].2,ah⟩ (by simp[ab]);rw[av] at C;rw[O,C];rfl
    have cv:=MW f6;have ev:=Rh f7;have g7:(aL.map (·.1)).Nodup:=by rw[cv];exact List.nodup_range
    have dj:∀p∈aL,p.2 < aG.length:=fun p hp=>CU (Ae.1 f8 p hp);have es:∀j id,(j,id)∈aL->aL[j]? =some (j,id)/\j < t.m.length:=fun j id d=>by
     obtain⟨i,ab⟩:=Ac.1 d;have O:(aL.map (·.1))[i]? =some j:=by simp[ab]
     rw[cv] at O;obtain⟨C,h3⟩:=AG.1 O;simp at C h3;subst h3;exact⟨ab,C⟩
    have de:∀j,j < t.m.length->∃id,(j,id)∈aL:=fun j d=>by
     have:j∈aL.map (·.1):=by rw[cv];simpa using d
     obtain⟨p,hp,e⟩:=BL.1 this;exact⟨p.2,by rw[<-e];exact hp⟩
    obtain⟨_,f3⟩:=cN b6;have cu:∀j id,(j,id)∈aL->∃l ak e p q,t.m.at j= .cells l e/\aG.at id= .cells ak e/\Jj aL l ak=some (p,q)/\(∀x∈p,x∈cc)/\∀x∈q,x∈ps:=fun j id d=>by
     obtain⟨O,C⟩:=es j id d;obtain⟨l,e,hl⟩:=eG t.blks (Eg t.sh).length j (by have:=Rl t.blks (Eg t.sh).length;rw[cb] at C;omega);have eu:t.m.at j= .cells l e:=by rw[cb];exact hl
     have gp:t.m[j]? =some (.cells l e):=by
      rw[<-eu];simp[Mem.at,AF C]
     obtain⟨p,q,h3,h4,h5⟩:=f3 j j id _ O gp;cases z:aG.at id with
     |cells ak e'=>
      rw[z] at h3;simp only[TN] at h3;split at h3
      .rename_i he;rw[<-yI he];exact⟨l,ak,e,p,q,eu,rfl,h3,fun x z=>by rw[dm];exact AO _ (h4 x z),fun x z=>by rw[e5];exact AO _ (h5 x z)⟩
      .cases h3
     |_=>rw[z] at h3;simp[TN] at h3
    let aV:Nat->Option Nat:=fun j=>(Ir aL j).bind W;have b4:∀j id,(j,id)∈aL-> aV j= W id:=fun j id d=>by
     show (Ir aL j).bind W = W id;rw[rC g7 d];rfl
    have cb:∀j,(t.m.at j).tracked=true->∃id,(j,id)∈aL:=fun j d=>by
     refine de j ?_;rcases AQ j t.m.length with h|h
     .exact h
     .rw[Mem.at_ge h] at d;cases d
    have M:ay T J W aV aG t.m w aL:=by
     refine⟨fun b off aa=>⟨aa.1,.inr aa,fun j=>?_⟩,fun j id d=>?_⟩
     .by_cases d:j < t.m.length
      .obtain⟨id,bl⟩:=de j d;obtain⟨l,ak,e,_,_,z1,z2,_⟩:=cu j id bl;rw[z1];have:=aa.2.2 id;rw[z2] at this;show aV j≠some b;rw[b4 j id bl];exact this
      .rw[Mem.at_ge (by omega)];trivial
     .have ca:=SW d;obtain⟨l,ak,e,_,_,z1,_⟩:=cu j id ca;exact⟨b4 j id ca,by rw[z1];rfl⟩
    have d4:∀p∈cc,p.1 < t.n/\J p.1=p.2.eval T:=fun p hp=>⟨(ey p hp).1,en _ _ (ey p hp).2⟩;have dn:∀p∈ps,p.holds T:=fun p hp=>e0 p (AU _ hp);obtain⟨f1,g5⟩:=Kw (n:=t.n) M t.args args f2 (fun p hp=>d4 p (by rw[dm];exact AU _ hp)) (fun p hp=>dn p (by rw[e5];exact AU _ hp)) hq;have bi:∀j id,(j,id)∈aL->∃l ak e b a9,t.m.at j= .cells l e/\aG.at id= .cells ak e/\ W id=some b/\w.heap[b]? =some (.cells (a9:List Value).toArray e (0,0))/\BR T g.n W aG w ak a9/\BR J t.n aV t.m w l a9:=fun j id d=>by
     obtain⟨l,ak,e,p,q,z1,z2,z3,z4,z5⟩:=cu j id d;have:=hm.blk id;rw[z2] at this;obtain⟨b,a9,y1,y2,y3⟩:=this;exact⟨l,ak,e,b,a9,z1,z2,y1,y2,y3,(Kw (n:=t.n) M l ak z3 (fun x z=>d4 x (z4 x z)) (fun x z=>dn x (z5 x z)) y3).1⟩
    have hn:∀p∈cc,Um g.n p.2:=fun p hp=>by
     rw[dm] at hp;rcases Ap.1 hp with h|h
     .exact g5 p h
     .obtain⟨i,j,id,b,pp,qq,z1,z2,z3,z4⟩:=ZC b6 p h;have d:(j,id)∈aL:=Ac.2 ⟨i,z1⟩;obtain⟨aN,w2⟩:=es j id d;obtain⟨l,ak,e,pb,qb,y1,y2,y3,y4,y5⟩:=cu j id d;have gs:i=j:=by
       have O:(aL.map (·.1))[i]? =some j:=by simp[z1]
       rw[cv] at O;obtain⟨_,h3⟩:=AG.1 O;simpa using h3
      subst gs;have f5:b= .cells l e:=by
       have:t.m.at i=b:=by simp[Mem.at,z2]
       rw[<-this,y1]
      rw[f5,y2] at z3;simp only[TN,(E5 e e).2 rfl,if_true] at z3;rw[y3] at z3;cases z3;have:=hm.blk id;rw[y2] at this;obtain⟨hH,a9,_,_,x3⟩:=this;exact (Kw (n:=t.n) M l ak y3 (fun x z=>d4 x (y4 x z)) (fun x z=>dn x (y5 x z)) x3).2 p z4
    have g6:BX J t.n aV t.m w:=by
     refine⟨fun j=>?_,fun j j' b O C h3 h4=>?_,fun b off hb=> .inl hb⟩
     .by_cases d:j < t.m.length
      .obtain⟨id,bl⟩:=de j d;obtain⟨l,ak,e,b,a9,z1,z2,z3,z4,z5,z6⟩:=bi j id bl;rw[z1];exact⟨b,a9,by rw[b4 j id bl];exact z3,z4,z6⟩
      .rw[Mem.at_ge (by omega)];trivial
     .obtain⟨id,bl⟩:=cb j O;obtain⟨a5,b9⟩:=cb j' C;rw[b4 j id bl] at h3;rw[b4 j' a5 b9] at h4;obtain⟨_,_,_,_,_,_,z2,_⟩:=bi j id bl;obtain⟨_,_,_,_,_,_,hG,_⟩:=bi j' a5 b9;have e:=hm.inj id a5 b (by rw[z2];rfl) (by rw[hG];rfl) h3 h4;subst e;obtain⟨i1,k1⟩:=Ac.1 bl;obtain⟨i2,E⟩:=Ac.1 b9;have a1:(aL.map (·.2))[i1]? =some id:=by simp[k1]
      have a2:(aL.map (·.2))[i2]? =some id:=by simp[E]
      have:=(List.getElem?_inj (AG.1 a1).1 ev).1 (a1.trans a2.symm);subst this;rw[k1] at E;cases E;rfl
    have hi:∀p∈t.pre,p.2 us:=fun p hp=>e0 ⟨p.1,p.2,ah⟩ (AO _ (BL.2 ⟨p,hp,rfl⟩));obtain⟨gm,gl⟩:=ht J us rfl e6 dd hi aV w Y f1 g6;refine⟨gm,gl.mono fun ee ac hh=>?_⟩;obtain⟨v, cl,rfl,S2,M2,H2⟩:=hh;have hO:t.m.length<=t.m'.length:=Aa ga;have ds:∀j,(t.m.at j).ptrOk=true-> cl j= aV j:=fun j d=>(S2.rho j d).1;let ad:Nat->Option Nat:=fun id=>if id < aG.length then W id else cl (t.m.length+(id - aG.length))
    have bo:∀id,id < aG.length-> ad id= W id:=fun id h=>BH h;have ce:∀id,aG.length<=id-> ad id= cl (t.m.length+(id - aG.length)):=fun id h=>BG (by omega);obtain c0:∃up,up=up1 t.n g.n aL t.m.length aG.length t.m' ah:=⟨_,rfl⟩;obtain⟨up,c0⟩:=c0;rw[<-c0] at e1 e2;have g4:=Kc (fun j b=>Qf up (t.m.at j) b (t.m'.at j)) aL aG;have e4:=fun id=>Vh (fun j b=>Qf up (t.m.at j) b (t.m'.at j)) aL aG ev dj id;have dk:∀id,a0.at id=if id < aG.length then Mem.at (FN (fun j b=>Qf up (t.m.at j) b (t.m'.at j)) aL aG) id else if t.m.length+(id - aG.length) < t.m'.length then ef up (t.m'.at (t.m.length+(id - aG.length))) else .pad:=fun id=>by
     rw[<-e2,wb,g4,xD]
    have e8:∀j id,(j,id)∈aL->a0.at id=Qf up (t.m.at j) (aG.at id) (t.m'.at j):=fun j id d=>by
     rw[dk,BH (dj _ d)];exact (e4 id).1 j d
    have keep:∀id,id < aG.length->(∀j,(j,id) ∉ aL)->a0.at id=aG.at id:=fun id h a7=>by
     rw[dk,BH h];exact (e4 id).2 a7
    have fresh:∀id,aG.length<=id->a0.at id=if t.m.length+(id - aG.length) < t.m'.length then ef up (t.m'.at (t.m.length+(id - aG.length))) else .pad:=fun id h=>by
     rw[dk,BG (by omega)]
    have c4:∀j id,(j,id)∈aL->(∃l e,a0.at id= .cells l e)\/a0.at id= .gone:=fun j id d=>by
     obtain⟨l,ak,e,b,a9,z1,z2,_⟩:=bi j id d;rw[e8 j id d,z1,z2];cases t.m'.at j with
     |cells l3 e3=>
      simp only[Qf];split
      .exact .inl ⟨_,_,rfl⟩
      .exact .inr rfl
     |_=>exact .inr rfl
    have cj:∀id,aG.length<=id->(a0.at id).tracked=true->∃l e,t.m'.at (t.m.length+(id - aG.length))= .cells l e/\a0.at id= .cells (l.map up) e:=fun id h N=>by
     rw[fresh id h] at N⊢;split at N
     .rename_i z;rw[BH z];cases hy:t.m'.at (t.m.length+(id - aG.length)) with
      |cells l e=>exact⟨l,e,rfl,rfl⟩
      |_=>rw[hy] at N;cases N
     .cases N
    have d8:∀id b,aG.length<=id->(a0.at id).tracked=true-> ad id=some b->w.heap.size<=b:=fun id b h N hb=>by
     obtain⟨l,e,O,_⟩:=cj id h N;rw[ce id h] at hb;exact S2.fresh _ b (Mem.at_ge (by omega)) (by rw[O];rfl) hb
    have cf:∀id,id < aG.length->(a0.at id).tracked=true->(aG.at id).tracked=true:=fun id h N=>by
     by_cases bb:∃j,(j,id)∈aL
     .obtain⟨j,d⟩:=bb;obtain⟨l,ak,e,b,a9,z1,z2,_⟩:=bi j id d;rw[z2];rfl
     .rw[keep id h (fun j d=>bb ⟨j,d⟩)] at N;exact N
    have hC:∀k,(∀id,(aG.at id).tracked=true-> W id≠some k)->∀j,(t.m.at j).tracked=true-> aV j≠some k:=fun k a7 j d=>by
     obtain⟨id,bl⟩:=cb j d;obtain⟨l,ak,e,b,a9,z1,z2,_⟩:=bi j id bl;rw[b4 j id bl];exact a7 id (by rw[z2];rfl)
    have d6:∀id b,(aG.at id).tracked=true->(∀j,(j,id) ∉ aL)-> W id=some b->ac.heap[b]? =w.heap[b]? :=fun id b N a7 hb=>by
     refine S2.old b (hm.lt N hb) fun j d he=>?_;obtain⟨a5,b9⟩:=cb j d;obtain⟨l,ak,e,b',a9,z1,z2,_⟩:=bi j a5 b9;rw[b4 j a5 b9] at he;have:=hm.inj id a5 b N (by rw[z2];rfl) hb he;subst this;exact a7 j b9
    have ci:∀id,aG.at id≠ .pad->id < aG.length:=fun id h=>by
     rcases AQ id aG.length with hh|hh
     .exact hh
     .exact absurd (Mem.at_ge hh) h
    have d1:BY T g.n W aG w ad a0 ac:={
     os:=S2.os
     tape:=S2.tape
     output:=S2.output
     size:=S2.size
     mlen:=fun id h=>by
      by_cases bb:∃j,(j,id)∈aL
      .obtain⟨j,d⟩:=bb;rcases c4 j id d with⟨l,e,O⟩|O<;>rw[O]<;>exact fun h=>by cases h
      .rw[keep id (ci id h) (fun j d=>bb ⟨j,d⟩)];exact h
     rho:=fun id h=>by
      have X:=ci id (Cf h);refine⟨bo id X,?_⟩;by_cases bb:∃j,(j,id)∈aL
      .obtain⟨j,d⟩:=bb;rcases c4 j id d with⟨l,e,O⟩|O<;>rw[O]<;>rfl
      .rw[keep id X (fun j d=>bb ⟨j,d⟩)];exact h
     untr:=fun id h N=>cf id (ci id h) N
     fresh:=fun id b h N hb=>by
      rcases AQ id aG.length with X|X
      .have:=cf id X N;rw[h] at this;cases this
      .exact d8 id b X N hb
     old:=fun k hk a7=>S2.old k hk (hC k a7)
     tok:=fun id x ks e z=>by
      have X:=ci id (by rw[z];exact fun h=>by cases h);have a7:∀j,(j,id) ∉ aL:=fun j d=>by
       obtain⟨l,ak,e,b,a9,z1,z2,_⟩:=bi j id d;rw[z] at z2;cases z2
      exact .inl ⟨by rw[keep id X a7];exact z,bo id X,fun b hb=>d6 id b (by rw[z];rfl) a7 hb⟩
     row:=fun id x y ks e z=>by
      have X:=ci id (by rw[z];exact fun h=>by cases h);have a7:∀j,(j,id) ∉ aL:=fun j d=>by
       obtain⟨l,ak,e,b,a9,z1,z2,_⟩:=bi j id d;rw[z] at z2;cases z2
      exact .inr ⟨x,y,ks,by rw[keep id X a7];exact z,rfl,.inl ⟨rfl,bo id X,fun b Y hb hv=>⟨Y,by rw[d6 id b (by rw[z];rfl) a7 hb];exact hv,rfl⟩⟩⟩ }
    have cx:g.n<=ao.n:=by omega
    have B:dQ T J t.n g.n ao.n aL t.m.length aG.length cl ad t.m' a0 ac ah:=by
     refine⟨fun x r z=>⟨en x r z,?_⟩,fun x z k hR hM=>?_,fun b off aa=>?_,fun j l e id d hr=>?_⟩
     .rw[<-d0,Aj,AX] at z;obtain⟨p,hp,rfl⟩:=z;have:=hn p (Ac.2 ⟨x,hp⟩)
      revert this
      cases p.2 with
      |c u=>exact fun _=>trivial
      |e y=>exact fun h=>AH h cx
      |n y=>exact fun h=>AH h cx
     .have hN:k=t.outs.length:=by omega
      have:=f0 (x - t.n) (by omega);rw[show t.n+(x - t.n)=x by omega] at this;exact⟨by omega,this.symm⟩
     .obtain⟨aF,s2,s3⟩:=aa;have e7:w.heap.size<=b\/Bt T W aG w b off:=s2;refine⟨aF,?_,fun id=>?_⟩
      .rcases e7 with h|h
       .exact hm.fr b off h
       .exact h.2.1
      .rcases AQ id aG.length with X|X
       .have base:match aG.at id with| .pad| .gone=>True| .cells _ _| .lp _ _| .mrow _ _ _ _| .mapb _ _ _ _ _=> W id≠some b| .tok x ks _=> W id=some b->off < DN T x ks:=by
         rcases e7 with h|h
         .have no:(aG.at id).tracked=true-> W id≠some b:=fun N he=>by have:=hm.lt N he;omega
          cases z:aG.at id with
          |pad=>trivial
          |gone=>trivial
          |cells=>exact no (by rw[z];rfl)
          |lp=>exact no (by rw[z];rfl)
          |mrow=>exact no (by rw[z];rfl)
          |mapb=>exact no (by rw[z];rfl)
          |tok=>exact fun he=>absurd he (no (by rw[z];rfl))
         .exact h.2.2 id
        by_cases bb:∃j,(j,id)∈aL
        .obtain⟨j,d⟩:=bb;obtain⟨l,ak,e,b',a9,z1,z2,_⟩:=bi j id d;rw[z2] at base;rcases c4 j id d with⟨l3,e3,O⟩|O
         .rw[O];show ad id≠some b;rw[bo id X];exact base
         .rw[O];trivial
        .rw[keep id X (fun j d=>bb ⟨j,d⟩),bo id X];exact base
       .by_cases N:(a0.at id).tracked=true
        .obtain⟨l,e,O,C⟩:=cj id X N;have:=s3 (t.m.length+(id - aG.length));rw[O] at this;rw[C];show ad id≠some b;rw[ce id X];exact this
        .cases z:a0.at id with
         |pad=>trivial
         |gone=>trivial
         |cells=>rw[z] at N;exact absurd rfl N
         |lp=>rw[z] at N;exact absurd rfl N
         |tok=>rw[z] at N;exact absurd rfl N
         |mrow=>rw[z] at N;exact absurd rfl N
         |mapb=>rw[z] at N;exact absurd rfl N
     .unfold co at hr;split at hr
      .have ca:=SW hr;obtain⟨l0,ak,hI,b',a9,z1,z2,_⟩:=bi j id ca;have X:=dj _ ca;refine⟨by rw[bo id X,ds j (by rw[z1];rfl),b4 j id ca],?_⟩;rcases c4 j id ca with⟨l3,e3,O⟩|O<;>rw[O]<;>rfl
      .rename_i gn;cases hr;have hL:t.m.length<=j:=by
        rcases AQ j t.m.length with h|h
        .exact absurd (by rw[Nat.blt_eq];exact h) gn
        .exact h
       have et:t.m.length+(aG.length+(j - t.m.length) - aG.length)=j:=by omega
       refine⟨by rw[ce _ (by omega),et],?_⟩;rw[fresh _ (by omega),et];have g0:j < t.m'.length:=by
        rcases AQ j t.m'.length with h|h
        .exact h
        .rw[Mem.at_ge h] at d;cases d
       rw[BH g0,d];rfl
    have d3:∀h v,BQ J (t.n+t.outs.length) cl t.m' ac h v->BQ T ao.n ad a0 ac (up h) v:=fun h v hh=>by
     rw[c0];exact pE B gr h v hh
    refine⟨v, ad,rfl,d1,⟨fun id=>?_,fun id a5 b t1 t2 O C=>?_,fun b off hb=>hm.fr b off (AV S2.size hb)⟩,by rw[<-e1];exact d3 _ _ H2⟩
    .rcases AQ id aG.length with X|X
     .by_cases bb:∃j,(j,id)∈aL
      .obtain⟨j,d⟩:=bb;obtain⟨l,ak,e,b,a9,z1,z2,z3,z4,z5,z6⟩:=bi j id d;rw[e8 j id d,z1,z2];have b6:=M2.blk j;cases z:t.m'.at j with
       |cells l3 e3=>
        simp only[Qf];split
        .rename_i eq;simp only[AB] at eq;obtain⟨⟨aS,c2⟩,c3⟩:=eq;rw[z] at b6;obtain⟨b2,d9,y1,y2,y3⟩:=b6;have f4:b2=b:=by
          rw[ds j (by rw[z1];rfl),b4 j id d,z3] at y1;injection y1 with y1;exact y1.symm
         rw[<-yI c3] at y2;rw[f4] at y2;exact⟨b,d9,by rw[bo id X];exact z3,y2,Vo d1 cx ds d3 (yI aS) (yI c2) z6 z5 y3⟩
        .trivial
       |_=>trivial
      .have a7:∀j,(j,id) ∉ aL:=fun j d=>bb ⟨j,d⟩;by_cases N:(aG.at id).tracked=true
       .exact Cj.step d1 hm cx (keep id X a7) (bo id X) (fun b hb=>d6 id b N a7 hb)
       .rw[keep id X a7];cases z:aG.at id with
        |pad=>trivial
        |gone=>trivial
        |cells=>rw[z] at N;exact absurd rfl N
        |lp=>rw[z] at N;exact absurd rfl N
        |tok=>rw[z] at N;exact absurd rfl N
        |mrow=>rw[z] at N;exact absurd rfl N
        |mapb=>rw[z] at N;exact absurd rfl N
     .by_cases N:(a0.at id).tracked=true
      .obtain⟨l,e,O,C⟩:=cj id X N;have b6:=M2.blk (t.m.length+(id - aG.length));rw[O] at b6;obtain⟨b2,d9,y1,y2,y3⟩:=b6;rw[C];exact⟨b2,d9,by rw[ce id X];exact y1,y2,od d3 y3⟩
      .cases z:a0.at id with
       |pad=>trivial
       |gone=>trivial
       |cells=>rw[z] at N;exact absurd rfl N
       |lp=>rw[z] at N;exact absurd rfl N
       |tok=>rw[z] at N;exact absurd rfl N
       |mrow=>rw[z] at N;exact absurd rfl N
       |mapb=>rw[z] at N;exact absurd rfl N
    .rcases AQ id aG.length with X|X
     .rcases AQ a5 aG.length with bx|bx
      .rw[bo id X] at O;rw[bo a5 bx] at C;exact hm.inj id a5 b (cf id X t1) (cf a5 bx t2) O C
      .have:=d8 a5 b bx t2 C;rw[bo id X] at O;have:=hm.lt (cf id X t1) O;omega
     .rcases AQ a5 aG.length with bx|bx
      .have:=d8 id b X t1 O;rw[bo a5 bx] at C;have:=hm.lt (cf a5 bx t2) C;omega
      .obtain⟨l,e,k1,_⟩:=cj id X t1;obtain⟨ak,e',E,_⟩:=cj a5 bx t2;rw[ce id X] at O;rw[ce a5 bx] at C;have:=M2.inj _ _ b (by rw[k1];rfl) (by rw[E];rfl) O C;omega
   .cases bs
  .cases bs
 .cases bs
end
section
open Go Go.RowKit
mutual
theorem dT {ok:Nat->Nat->Prop}{w:World}:∀(k:Kd) {u:U} {v:Value},Bk ok w k u v->KdU BT k u
 | .int _ _ _,_,_,⟨n,O,_,h3⟩=>⟨n,O,h3⟩
 | .bool,_,_,⟨b,O,_⟩=>⟨b,O⟩
 | .str,_,_,⟨s,O,_,C⟩=>⟨s,O,C⟩
 | .val,_,_,_=>trivial
 | .any,_,_,_=>trivial
 | .list ks,_,_,⟨l,h0,O,C,a,I,_,_,h5⟩=>by
  refine⟨l,h0,O,fun i us ab=>?_⟩;have p:0 < l.length:=by have:=(AG.1 ab).1;omega
  obtain⟨b,o,_,d⟩:=h5 p;exact iO ks (d i us ab)
theorem iO {ok:Nat->Nat->Prop}{w:World}:∀(ks:List Kd) {b off:Nat} {us:List U},Bw ok w ks b off us->Bb BT ks us
 |[],_,_,_,h=>h
 |k::ks,_,_,_,⟨u,us',e,⟨_,v,_,h3⟩,h4⟩=>⟨u,us',e,dT k h3,iO ks h4⟩
end
theorem g9 {ok:Nat->Nat->Prop}{w:World}:∀{ks:List Kd} {us:List U} {Y:List Value},Bg ok w ks us Y->Bb BT ks us
 |[],_,_,h=>h.1
 |k::_,_,_,⟨u,us',v,vs',e,_,O,C⟩=>⟨u,us',e,dT k O,g9 C⟩
section
variable {T:Tab}{n:Nat}{W :Nat->Option Nat}{m:Mem}{w:World}
theorem oZ {k:Kd}{x:Nat}{v:Value}(h:BQ T n W m w (SL k x) v):KdU BT k (T x):=by
 cases k with
 |int k ar ab=>obtain⟨_,i,O,_,d⟩:=h;exact⟨i,O,d⟩
 |bool=>obtain⟨_,b,O,_⟩:=h;exact⟨b,O⟩
 |str=>obtain⟨_,s,O,_,C⟩:=h;exact⟨s,O,C⟩
 |val=>trivial
 |any=>trivial
 |list ks=>exact dT (.list ks) h.2
def Py (ks:List Kd)(us:List U):Prop:=∀(j:Nat) (k:Kd) (u:U),ks[j]? =some k->us[j]? =some u->KdU BT k u
theorem Xo:∀{ks:List Kd} {x:Nat} {aC:List Value},BR T n W m w (S6 x ks) aC->∀(j:Nat) (k:Kd),ks[j]? =some k->KdU BT k (T (x+j))
 |[],_,_,_,j,k,hj=>by simp at hj
 |k0::ks,x,aC,⟨u,us,_,O,C⟩,j,k,hj=>by
  cases j with
  |zero=>simp at hj;subst hj;exact oZ O
  |succ j=>
   have:=Xo C j k (by simpa using hj);rw[show x+(j+1)=x+1+j by omega];exact this
theorem Kr:∀{d:List Z7} {x:Nat} {Y:List Value},BR T n W m w (Gv x d) Y->∀(j:Nat) (k:Kd),(Eg d)[j]? =some k->KdU BT k (T (x+j))
 |[],_,_,_,j,k,hj=>by simp[Eg] at hj
 | .one k0::r,x,Y,⟨u,us,_,O,C⟩,j,k,hj=>by
  simp only[Eg] at hj;cases j with
  |zero=>simp at hj;subst hj;exact oZ O
  |succ j=>
   have:=Kr C j k (by simpa using hj);rw[show x+(j+1)=x+1+j by omega];exact this
 | .agg ks::r,x,Y,⟨u,us,_,O,C⟩,j,k,hj=>by
  simp only[Eg] at hj;rw[BA] at hj;split at hj
  .obtain⟨aC,_,p⟩:=O;exact Xo p j k hj
  .rename_i y;have:=Kr C (j - ks.length) k hj;rw[show x+ks.length+(j - ks.length)=x+j by omega] at this;exact this
 | .ptr U off::r,x,Y,⟨u,us,_,O,C⟩,j,k,hj=>Kr C j k hj
 | .cst _::r,x,Y,⟨u,us,_,O,C⟩,j,k,hj=>Kr C j k hj
theorem gu:∀{f:List (List Kd × TypeId)} {x y:Nat},(∀i,i < f.length->Cj T n W m w (y+i) ((LJ x f).at i))->∀(j:Nat) (k:Kd),(Su f)[j]? =some k->KdU BT k (T (x+j))
 |[],_,_,_,j,k,hj=>by simp[Su] at hj
 |(ks,e)::r,x,y,hb,j,k,hj=>by
  have d:Su ((ks,e)::r)=ks++Su r:=rfl;rw[d,BA] at hj;split at hj
  .obtain⟨b,Y,_,_,p⟩:=hb 0 (by simp);exact Xo p j k hj
  .rename_i u;have:=gu (f:=r) (x:=x+ks.length) (y:=y+1) (fun i ab=>by
    have:=hb (i+1) (by simpa using ab);rw[show y+(i+1)=y+1+i by omega] at this;simpa [LJ,Mem.at] using this) (j - ks.length) k hj
   rw[show x+ks.length+(j - ks.length)=x+j by omega] at this;exact this
end
def Wr (nh aR:Nat)(ah:List Rf)(aQ m:Mem)(h c:AC):Option (List Pr):=
 match h,c with
 | .agg l,.agg ak=>N2 nh aR ah aQ m l ak
 |h,c=>NV nh aR ah aQ m h c
def M1 (nh aR:Nat)(ah:List Rf)(aQ m:Mem):List AC->List AC->Option (List Pr)
 |[],[]=>some []
 |h::l,c::ak=>QO (Wr nh aR ah aQ m h c) (M1 nh aR ah aQ m l ak)
 |_,_=>none
def Pk (nh aR:Nat)(ah:List Rf)(aQ m:Mem)(h c:AC):Option (List Pr):=
 match h,c with
 | .tup l,.tup ak=>M1 nh aR ah aQ m l ak
 |h,c=>Wr nh aR ah aQ m h c
section
variable {az J:Tab}{W :Nat->Option Nat}{m aQ:Mem}{w:World}{nh av aD:Nat}{ah:List Rf}
variable{h c:AC}{ps:List Pr}{v:Value}
theorem YC (M:Kj az J W m aQ w nh aQ.length)(u:nh<=aD)(H:Gc az J nh aD ah)(S:Fc az J nh aQ m)(d:Wr nh aQ.length ah aQ m h c=some ps)(y:∀p∈ps,p.holds az)
  (z:BQ az av W m w c v):BQ J aD W aQ w h v:=by
 unfold Wr at d;split at d
 .obtain⟨Y,e,O⟩:=z;exact⟨Y,e,Sb M u H S d y Y O⟩
 .exact N6 d M u H S y z
theorem VH (M:Kj az J W m aQ w nh aQ.length)(y:nh<=aD)(H:Gc az J nh aD ah)(S:Fc az J nh aQ m):∀{l ak:List AC} {ps:List Pr},M1 nh aQ.length ah aQ m l ak=some ps->(∀p∈ps,p.holds az)->
  ∀Y,BR az av W m w ak Y->BR J aD W aQ w l Y
 |[],[],ps,_,_,Y,h=>h
 |[],_::_,ps,h,_,_,_=>by simp[M1] at h
 |_::_,[],ps,h,_,_,_=>by simp[M1] at h
 |a::l,c::ak,ps,h,hps,Y,⟨u,us,O,C,h3⟩=>by
  simp only[M1] at h;obtain⟨a9,a7,z,E,rfl⟩:=Hn h;exact⟨u,us,O,YC M y H S z (fun p d=>hps p (AU _ d)) C,VH M y H S E (fun p d=>hps p (AO _ d)) us h3⟩
theorem oF (M:Kj az J W m aQ w nh aQ.length)(u:nh<=aD)(H:Gc az J nh aD ah)(S:Fc az J nh aQ m)(d:Pk nh aQ.length ah aQ m h c=some ps)(y:∀p∈ps,p.holds az)
  (z:BQ az av W m w c v):BQ J aD W aQ w h v:=by
 unfold Pk at d;split at d
 .obtain⟨Y,e,O⟩:=z;exact⟨Y,e,VH M u H S d y Y O⟩
 .exact YC M u H S d y z
end
def dh (t:Bf)(ah:List Rf)(aO:AC)(aP:Mem)(d:G):Option (List Pr):=
 if Oq t.n d&&Nat.beq ah.length t.outs.length&&Nat.ble t.m.length t.m'.length then
  QO (Il [] t.n t.m'.length ah t.m' aP t.m' aP) (Pk t.n t.m'.length ah t.m' aP t.c aO)
 else none
variable{T:Tab}{W:Nat->Option Nat}{w:World}{t:Bf}{ah:List Rf}{aO:AC}{aP:Mem}
theorem BR.split {n:Nat}{m:Mem}:∀{l aj:List AC} {Y:List Value},BR T n W m w (l++aj) Y->∃d p,Y=d++p/\BR T n W m w l d/\BR T n W m w aj p
 |[],_,Y,h=>⟨[],Y,rfl,rfl,h⟩
 |_::_,_,_,⟨u,us,O,C,h3⟩=>by
  obtain⟨d,p,rfl,y,z⟩:=h3.split;exact⟨u::d,p,O,⟨u,d,rfl,C,y⟩,z⟩
theorem eV {T:Tab}{n:Nat}{W :Nat->Option Nat}{m:Mem}{w:World}{z:Nat}(d:∀L,T 1= .int L->L<=BT):∀{k x:Nat} {Y:List Value},BR T n W m w (Wx z x k) Y->∀j,j < k->KdU BT (.int .i64 0 BT) (T (x+j))
 |k+1,x,_,⟨_,_,_,C,h3⟩,0,_=>by
  obtain⟨_,i,L,_,p,u,y,_⟩:=C;have:=d L u;exact⟨i,p,y.1,by omega⟩
 |k+1,x,_,⟨_,_,_,_,h3⟩,j+1,h=>by
  have:=eV d h3 j (by omega);rwa [show x+1+j=x+(j+1) by omega] at this
theorem il {us:List U}{Y:List Value}(bl:∀j u,us[j]? =some u->T j=u)(E:BR T t.n W t.m w t.args Y)(M:BX T t.n W t.m w):Py t.ks us:=fun j k u d hu=>by
 have bb:=bl j u hu;rw[<-bb];cases z:t.row with
 |none=>
  have ha:t.args=Gv 0 t.sh:=by unfold Bf.args;rw[z]
  have N:t.m=LJ (Eg t.sh).length t.blks:=by unfold Bf.m;rw[z]
  rw[ha] at E;rw[N] at M;unfold Bf.ks at d;rw[z,BA] at d;split at d
  .have:=Kr E j k d;rw[AM] at this;exact this
  .rename_i bx;have:=gu (f:=t.blks) (x:=(Eg t.sh).length) (y:=0) (fun i ab=>by rw[AM];exact M.blk i) (j - (Eg t.sh).length) k d;rw[show (Eg t.sh).length+(j - (Eg t.sh).length)=j by omega] at this;exact this
 |some ke=>
  obtain⟨X,e0⟩:=ke;have ha:t.args=TM X.length t.ptrs++Gv (2+t.ptrs) t.sh:=by unfold Bf.args;rw[z]
  have N:t.m=[.mrow 0 1 X e0]:=by unfold Bf.m;rw[z]
  rw[ha] at E;rw[N] at M;have bi:Cj T t.n W [.mrow 0 1 X e0] w 0 (.mrow 0 1 X e0):=M.blk 0;obtain⟨_,l,O,C,h3,h4⟩:=bi;rw[N] at E;obtain⟨v1,v2,_,a2,bs⟩:=E.split;unfold Bf.ks at d;rw[z] at d
  match j,d with
  |0,d=>
   cases d;rw[O];refine⟨l,rfl,h3.1,fun i us ab=>?_⟩;rcases h4 with⟨_,rfl⟩|⟨b,b3,b0,_,_,h5,_⟩
   .simp at ab
   .obtain⟨R,_,h6⟩:=h5;obtain⟨aC,_,h7⟩:=h6.getC ab;exact g9 h7
  |1,d=>
   cases d;rw[C];exact⟨l.length,rfl,by omega,by have:=h3.1;omega⟩
  |j+2,d=>
   replace d:(List.replicate t.ptrs (Kd.int .i64 0 BT)++Eg t.sh)[j]? =some k:=d;rw[BA] at d;split at d
   .rename_i p;rw[List.length_replicate] at p;rw[List.getElem?_replicate,BH p] at d;cases d;cases hp:t.ptrs with
    |zero=>omega
    |succ q=>
     rw[hp] at a2 p;have:=eV (fun L hL=>by rw[C] at hL;cases hL;exact Int.ofNat_le.2 h3.1) a2 j p;rwa [Nat.add_comm] at this
   .rename_i p;rw[List.length_replicate] at p d;have:=Kr bs (j - t.ptrs) k d;rwa [show 2+t.ptrs+(j - t.ptrs)=j+2 by omega] at this
theorem eY {a9 a7:List Pr}{d:Tab}{us:List U}(Y:Il [] t.n t.m'.length ah t.m' aP t.m' aP=some a9)(a5:Pk t.n t.m'.length ah t.m' aP t.c aO=some a7)(b4:ah.length=t.outs.length)(bi:∀id,id < t.m.length->t.m'.at id≠ .pad)
  (a2:∀x,x < t.n->d x=T x) (aB:d.fr=T.fr) (aJ:d.lp=T.lp) (bs:us.length=t.n) (hT:∀j u,(t.us us)[j]? =some u->T j=u) (ao:∀p∈a9++a7,p.holds d) (bo:ah.map (Rf.eval d)=t.outs.map fun o=>o.2 us)
  {ad:Nat->Option Nat} {ac:World} {v:Value} {N:Nat} (a3:BX d t.n W t.m w) (q1:BY d t.n W t.m w ad aP ac) (q2:BX d N ad aP ac) (q3:BQ d N ad aP ac aO v):
  BY T t.n W t.m w ad t.m' ac/\BX T (t.n+t.outs.length) ad t.m' ac/\BQ T (t.n+t.outs.length) ad t.m' ac t.c v:=by
 have H:Gc d T t.n (t.n+t.outs.length) ah:=fun j r X=>by
  have b3:=(AG.1 X).1;refine⟨by omega,?_⟩;have O:(ah.map (Rf.eval d))[j]? =some (r.eval d):=by simp[X]
  rw[bo] at O;exact hT (t.n+j) _ (by
   unfold Bf.us;rw[AS (by omega),bs,show t.n+j - t.n=j by omega];exact O)
 obtain⟨z,bm⟩:=RV (az:=d) (J:=T) Y H;have C:∀x,x < t.n->T x=d x:=fun x hx=>(a2 x hx).symm;have bl:∀id,t.m.at id≠ .pad->t.m'.at id≠ .pad:=fun id h=>by
  rcases AQ id t.m.length with E|E
  .exact bi id E
  .exact absurd (Mem.at_ge E) h
 have ab:t.n<=t.n+t.outs.length:=Nat.le_add_right _ _;have M:Kj d T ad aP t.m' ac t.n t.m'.length:=z.move bm C aB.symm;refine⟨BY.matched z C (AE _) a3 bl q1,?_,oF M ab H z a5 (fun p y=>ao p (AO _ y)) q3⟩;have bb:Fk [] t.n ah ⟨⟨0,[],.nil⟩,t.m'⟩ ⟨⟨0,[],.nil⟩,aP⟩=some (a9++[]):=by
  simp only[Fk,NF,List.isEmpty_nil,Bool.true_and,(E5 0 0).2 rfl,if_true];rw[Y];rfl
 have hR:Rel (d.atBase 0) N ad ⟨⟨0,[],.nil⟩,aP⟩ { tmps:= #[],defers:=[] } ac:=⟨FK.nil _ _ _ (Ak _),rfl,(fun i c hc=>by simp[Bn.get,CY,Tr.get] at hc),q2.tab (LB _ 0 _)⟩;obtain⟨z1,_,_⟩:=IZ (az:=d.atBase 0) (J:=T.atBase 0) bb (fun p y=>by cases y) aB.symm aJ.symm rfl C ab H (fun p y=>Y4.2 (ao p (by rw[yJ] at y;exact AU _ y))) hR;exact z1.mem.tab (LB T 0 _).symm
theorem iY {P:Program}{f:FuncId}{E:CM}(bl:∀T,Dj P T E)
    {d:G}  {ps:List Pr} (b9:E Ys.none f t.args none t.m { n:=t.n,eqs:=[],obs:=[] }=some (aO,aP,d)) (M:dh t ah aO aP d=some ps)
  (b1:∀id,id < t.m.length->t.m'.at id≠ .pad)
  (b4:∀(T:Tab) (us:List U),us.length=t.n->Py t.ks us->(∀p∈t.pre,p.2 us)->(∀j u,us[j]? =some u->T j=u)->(∀p∈d.eqs,T p.1=p.2.eval T)->CB T d/\(∀p∈ps,p.holds T)/\ah.map (Rf.eval T)=t.outs.map fun o=>o.2 us):Bl P f t:=by
 refine⟨fun s=>(Hg d.lps s).getD QA,fun T us bt a3 hT b5 W w Y a5 O=>?_⟩;unfold dh at M;split at M
 .rename_i hc;simp only[AB] at hc;obtain⟨⟨z,bb⟩,ci⟩:=hc;obtain⟨a9,a7,bx,b0,rfl⟩:=Hn M;unfold Oq at z;rw[AB] at z;have b7:=yI bb;obtain⟨aB,aJ,r3⟩:=Gi d.eqs T;have b3:=(DZ (T:=T) z.1).2.2;have N:∀x,x < t.n->Ci T d.eqs x=T x:=fun x hx=>b3 x (.inl hx);have a1:∀j u,us[j]? =some u->T j=u:=fun j u C=>hT j u (by unfold Bf.us;rw[AR (AG.1 C).1];exact C);have S:Do T (Ci T d.eqs) t.n:=⟨N,aB,aJ⟩;have hA:Agr (Ci T d.eqs) d:=⟨fun p X=>GT (fv:=[]) (nh:=0) (fun x hx=>by cases hx) (Ak _) z.1 p X,fun p X=>by
   rw[aJ,bt];show (Hg d.lps p.1).getD QA=p.2;rw[SX z.2 p X];rfl⟩
  have bs:Py t.ks us:=il a1 a5 O;obtain⟨b2,b6,b8⟩:=b4 (Ci T d.eqs) us a3 bs b5 (fun j u C=>by
   have:=(AG.1 C).1;rw[N j (by omega)];exact a1 j u C) hA.eqs
  obtain⟨_,ca⟩:=bl (Ci T d.eqs) Ys.none f t.args none t.m _ aO aP d (fun T' _ s y hy=>by cases hy) b9;have a2:=O.tab S;obtain⟨bm,bi⟩:=ca hA b2 trivial trivial W w Y (BR.tab S.eq (fun b off h=>S.safe O h) _ _ a5) a2;refine⟨bm,bi.mono fun e ac hh=>?_⟩;obtain⟨v, ad,rfl,q1,q2,q3⟩:=hh;exact⟨v, ad,rfl,eY bx b0 b7 b1 N aB aJ a3 hT b6 b8 a2 q1 q2 q3⟩
 .cases M
end
section
open Go Go.RowKit
def OZ (id y d:Nat):Nat->List AC->Option (List Rf × List AC)
 |0,aU=>some ([],aU)
 |k+1,.mp id' aF t sz' 0::aU=>if Nat.beq id id'&&Nat.beq y aF&&Nat.beq d sz' then (match OZ id y d k aU with|some (l,r)=>some (.e t::l,r)|none=>none) else none
 |_,_=>none
def kh (d:Nat):Nat->List AC->Option (Nat × Nat × List Rf × List AC)
 |0,.mr id y::aU=>some (id,y,[],aU)
 |k+1,.mp id y t sz' off::aU=>(match OZ id y d (k+1) (.mp id y t sz' off::aU) with|some (l,r)=>some (id,y,l,r)|none=>none)
 |_,_=>none
def outS (n base:Nat):AC->Option AC
 | .tup []=>some (.tup [])
 | .i k ar ab x=>if Nat.ble n x then some (.i k ar ab (base+(x - n))) else none
 | .b x=>if Nat.ble n x then some (.b (base+(x - n))) else none
 |_=>none
def dY (t:Bf):CM:=fun _ _ aU ae aG g=>
 match t.row,t.m' with
 |some (ks,e),[.mrow xo yo kso eo]=>
  match kh ks.length t.ptrs aU with
  |some (id,y,l,aU)=>
   match aG.at id with
   | .mrow x aF X e'=>
    match Jj [] (Gv (2+t.ptrs) t.sh) aU,outS t.n g.n t.c with
    |some (prs,ps),some c=>
     if (Nat.beq y aF&&Nat.beq e e'&&Nat.beq eo e&&(Nat.beq xo 0||Nat.beq xo t.n&&Nat.blt 0 t.outs.length)&&Nat.beq yo 1)&&(Nat.beq X.length ks.length&&Kd.beqs (Kd.joins X ks) ks)&&(Ff (prs.map (·.1)) ((List.range t.n).drop (2+t.ptrs))&&Nat.ble (2+t.ptrs) t.n) then
      some (c,aG.set id (.mrow (bif Nat.beq xo 0 then x else g.n) y kso e),(g.needAll ae (ps++t.pre.map fun p=>⟨p.1,p.2,.e x:: .e y::(l++prs.map (·.2))⟩)).pushAll (t.outs.map fun o=>⟨o.1,o.2,.e x:: .e y::(l++prs.map (·.2))⟩))
     else none
    |_,_=>none
   |_=>none
  |none=>none
 |_,_=>none
theorem bQ {T J:Tab}{a4 n id x y N:Nat}{W aV:Nat->Option Nat}{aG:Mem}{w:World}{ks X:List Kd}{e:TypeId}(M:aG.at id= .mrow x y X e)(E: aV 0= W id)(hn:2<=n)(O:J 1=T y):
  ∀{k:Nat} {aU:List AC} {l:List Rf} {r:List AC} {aw:Nat} {Y:List Value},OZ id y N k aU=some (l,r)->aw+k<=n->(∀i a,l[i]? =some a->J (aw+i)=a.eval T)->BR T a4 W aG w aU Y->
  l.length=k/\∃d z,Y=d++z/\BR T a4 W aG w r z/\BR J n aV [.mrow 0 1 ks e] w (Wx N aw k) d
 |0,aU,l,r,aw,Y,h,_,_,hv=>by
  simp only[OZ] at h;cases h;exact⟨rfl,[],Y,rfl,hv,rfl⟩
 |k+1,[],l,r,aw,Y,h,_,_,hv=>by simp[OZ] at h
 |k+1,a::aU,l,r,aw,Y,h,hx,hl,hv=>by
  cases a with
  |mp b4 aF t b6 off=>
   cases off with
   |succ q=>simp[OZ] at h
   |zero=>
    simp only[OZ] at h;split at h
    .rename_i p;simp only[AB] at p;have b1:=yI p.1.1;subst b1;have b2:=yI p.1.2;subst b2;have b3:=yI p.2;subst b3;split at h
     .rename_i aj aJ C;cases h;obtain⟨u,us,rfl,hu,a7⟩:=hv;obtain⟨q1,d,z,rfl,q3,q4⟩:=bQ (ks:=ks) (k:=k) (aw:=aw+1) M E hn O C (by omega) (fun i a ab=>by rw[show aw+1+i=aw+(i+1) by omega];exact hl (i+1) a ab) a7;refine⟨by simp[q1],u::d,z,rfl,q3,u,d,rfl,?_,q4⟩;obtain⟨_,i,L,b,z1,z2,z3,z4,z5⟩:=hu;have hb:=z5 _ _ _ M;refine⟨⟨by omega,by omega,fun h=>by cases h⟩,i,L,b,?_,by rw[O];exact z2,z3,z4,fun x3 b5 e3 he=>?_⟩
      .have:=hl 0 (.e t) rfl;rw[Nat.add_zero] at this;rw[this];exact z1
      .rw[E];exact hb
     .cases h
    .cases h
  |_=>simp[OZ] at h
variable{T J:Tab}{W aV:Nat->Option Nat}{w:World}{P:Program}{t:Bf}
theorem rA {a4 n id x y z:Nat}{aG:Mem}{ks X:List Kd}{e:TypeId}(p:aG.at id= .mrow x y X e)(d: aV 0= W id)(hn:2<=n)(O:J 1=T y)(a1:X.length=ks.length):
  ∀{k:Nat} {aU:List AC} {l:List Rf} {r:List AC} {Y:List Value},kh z k aU=some (id,y,l,r)->2+k<=n->(∀i a,l[i]? =some a->J (2+i)=a.eval T)->BR T a4 W aG w aU Y->
  l.length=k/\∃M N,Y=M++N/\BR T a4 W aG w r N/\BR J n aV [.mrow 0 1 ks e] w (TM z k) M:=by
 intro k aU l r Y h hk hl u;unfold kh at h;split at h
 .cases h;obtain⟨E,bm,rfl,a3,a5⟩:=u;obtain⟨_,j,a,I,q1,q2,q3,q4,q5⟩:=a3;refine⟨rfl,[E],bm,rfl,a5,E,[],rfl,⟨⟨by omega,fun h=>by cases h⟩,j,a,I,by rw[O];exact q1,q2,q3,q4,fun aw b2 e2 he=>?_⟩,rfl⟩;cases he;rcases q5 _ _ _ p with q|⟨b,bo,z1,z2,z3,z4⟩
  .exact .inl ⟨by rw[d];exact q.1,q.2⟩
  .exact .inr ⟨b,bo,by rw[d];exact z1,z2,z3,by rw[<-a1];exact z4⟩
 .split at h
  .rename_i C;cases h;exact bQ p d hn O C hk hl u
  .cases h
 .cases h
theorem vP {n base k:Nat}{m ai:Mem}{c y:AC}{v:Value}(h:outS n base c=some y)(z:∀j,j < k->J (n+j)=T (base+j))(u:BQ J (n+k) aV ai w c v):BQ T (base+k) W m w y v:=by
 unfold outS at h;split at h
 .cases h;obtain⟨Y,rfl,E⟩:=u;cases E;exact⟨[],rfl,rfl⟩
 .split at h
  .rename_i M ar ab x d;cases h;have d:=Aa d;obtain⟨O,i,C,p⟩:=u;have:=z (x - n) (by omega);rw[show n+(x - n)=x by omega] at this;exact⟨by omega,i,by rw[<-this];exact C,p⟩
  .cases h
 .split at h
  .rename_i x d;cases h;have d:=Aa d;obtain⟨O,i,C,p⟩:=u;have:=z (x - n) (by omega);rw[show n+(x - n)=x by omega] at this;exact⟨by omega,i,by rw[<-this];exact C,p⟩
  .cases h
 .cases h
theorem oS {f:FuncId}(d:Bl P f t):∀(T:Tab) (an:Ys) (args:List AC) (ae:PC) (aG:Mem) (g:G) (c':AC) (a0:Mem) (ao:G),dY t an f args ae aG g=some (c',a0,ao)->
  Bo g ao/\(Agr T ao->CB T ao->pcv T ae->Ch T g ae->∀ W w Y,BR T g.n W aG w args Y->BX T g.n W aG w->
   (∃aA,P.funcs[f]? =some aA/\aA.body.isSome=true/\(aA.name== "runtime.NumGoroutine")=false)/\Calls P f (Y:List Value).toArray w (H3 T g W aG w c' a0 ao)):=by
 intro T an args ae aG g c' a0 ao a1;obtain⟨gm,d⟩:=d;unfold dY at a1;split at a1
 .rename_i _ _ ks e xo yo a9 N d3 dv;split at a1
  .rename_i id y l aU f4;split at a1
   .rename_i x aF X e' bi;split at a1
    .rename_i _ _ b1 ps g6 hb es;split at a1
     .rename_i hc;simp only[AB,Ah] at hc;obtain⟨⟨⟨⟨⟨⟨ci,b2⟩,b3⟩,bx⟩,b5⟩,⟨b6,b7⟩⟩,ee,cu⟩:=hc;have ci:=yI ci;subst ci;have b2:=yI b2;subst b2;have b3:=yI b3;subst b3;have b5:=yI b5;subst b5;have b6:=yI b6;have b7:=Kd.beqs_eq _ _ b7;have ds:=MW ee;have cu:=Aa cu;simp only[Ax,Prod.mk.injEq] at a1;obtain⟨e1,e2,e3⟩:=a1;subst e1;generalize b8:(Rf.e x::Rf.e y::(l++b1.map (·.2)))=ah at e3;generalize c0:g.needAll ae (ps++t.pre.map fun p=>(⟨p.1,p.2,ah⟩:Pr))=g1 at e3;have av:g1.n=g.n:=by rw[<-c0];exact (EW _ _ _).1
      have ej:Bo g g1:=by rw[<-c0];exact Bo.need _ _ _
      have di:Bo g1 ao:=by rw[<-e3];exact Bo.push _ _
      refine⟨ej.trans di,fun hA fs fv ha W w Y f7 hm=>?_⟩;have ey:ao.n=g.n+t.outs.length:=by rw[<-e3,Cr,av,List.length_map]
      have fn:New T g1.n (t.outs.map fun o=>⟨o.1,o.2,ah⟩):=by rw[<-e3] at hA;exact hA.new
      have d2:∀p∈ps++t.pre.map fun p=>(⟨p.1,p.2,ah⟩:Pr),p.holds T:=by
       have:=fs.of di;rw[<-c0] at this;exact CB.need this fv
      have f3:t.args=TM ks.length t.ptrs++Gv (2+t.ptrs) t.sh:=by unfold Bf.args;rw[d3]
      have c3:t.m=[.mrow 0 1 ks N]:=by unfold Bf.m;rw[d3]
      let us:=ah.map (Rf.eval T);let J:Tab:=⟨fun x=>(t.us us).getD x default,fun b off=>w.heap.size<=b\/Bt T W aG w b off\/ W id=some b,gm,0⟩;have cy:∀j u,(t.us us)[j]? =some u->J j=u:=fun j u E=>by
       show (t.us us).getD j default=u;simp[List.getD,E]
      have cb:∀x r,ah[x]? =some r->J x=r.eval T:=fun x r hx=>cy x _ (by
       unfold Bf.us;have hg:=(AG.1 hx).1;rw[AR (by simp[us];omega)];simp[us,hx])
      have dk:J 0=T x:=cb 0 (.e x) (by rw[<-b8];rfl);have cx:J 1=T y:=cb 1 (.e y) (by rw[<-b8];rfl);let aV:Nat->Option Nat:=fun j=>if j=0 then W id else none
      obtain⟨g7,v1,v2,rfl,f8,f5⟩:=rA (J:=J) (n:=t.n) (aV:= aV) (ks:=ks) bi rfl (by omega) cx b6 f4 cu (fun i a ab=>cb (2+i) a (by
       have e4:=(AG.1 ab).1;rw[<-b8,Nat.add_comm];show (l++_)[i]? =_;rw[AR e4];exact ab)) f7
      have hf:b1.length+(2+t.ptrs)=t.n:=by have:=BI List.length ds;simp at this;omega
      have f1:ah.length=t.n:=by rw[<-b8];simp;omega
      have g8:2<=t.n:=by omega
      have d1:∀p∈b1,p.1 < t.n/\ah[p.1]? =some p.2:=fun p hp=>by
       obtain⟨i,ab⟩:=Ac.1 hp;have O:(b1.map (·.1))[i]? =some p.1:=by simp[ab]
       rw[ds] at O;obtain⟨C,h3⟩:=AG.1 O;simp at C h3;rw[<-h3];refine⟨by omega,?_⟩;rw[<-b8,show 2+t.ptrs+i=(l.length+i)+2 by omega];show (l++b1.map (·.2))[l.length+i]? =_;rw[AS (by omega)];simp[ab]
      have d6:us.length=t.n:=by simp[us,f1]
      have dm:∀j,j < t.outs.length->J (t.n+j)=T (g.n+j):=fun j E=>by
       have O:=cy (t.n+j) ((t.outs[j]).2 us) (by
        unfold Bf.us;rw[AS (by omega),d6];simp[E])
       have C:=fn j ⟨(t.outs[j]).1,(t.outs[j]).2,ah⟩ (by simp[E]);rw[av] at C;rw[O,C];rfl
      obtain⟨aw,ga,en,gd⟩:∃aw,(bif Nat.beq xo 0 then x else g.n)=aw/\J xo=T aw/\(x < g.n->aw < ao.n):=by
       rcases bx with bx|⟨bx,bo⟩
       .have:=yI bx;subst this;exact⟨x,rfl,dk,fun _=>by omega⟩
       .have:=yI bx;subst this;have bo:=Aa bo;have hz:Nat.beq t.n 0=false:=by cases h:Nat.beq t.n 0;rfl;have:=yI h;omega
        refine⟨g.n,by rw[hz];rfl,?_,fun _=>by omega⟩;have:=dm 0 (by omega);simpa using this
      rw[ga] at e2;have dn:=hm.blk id;rw[bi] at dn;obtain⟨⟨hx,hy⟩,lx,em,eo,⟨e7,fd⟩,d4⟩:=dn;have d5:∀b off,Bt T W aG w b off->Bt J aV [.mrow 0 1 ks N] w b off:=fun b off aa=>⟨aa.1,.inr (.inl aa),fun j=>by
       match j with
       |0=>
        have:=aa.2.2 id;rw[bi] at this;exact this
       |j+1=>trivial⟩
      have e5:ks≠[]:=fun h=>fd (A6.1 (by rw[b6,h];rfl));have e8:BX J t.n aV [.mrow 0 1 ks N] w:=by
       refine⟨fun j=>?_,fun j j' b O C h3 h4=>?_,fun b off hb=> .inl hb⟩
       .match j with
        |0=>
         refine⟨⟨by omega,by omega⟩,lx,by rw[dk];exact em,by rw[cx];exact eo,⟨e7,e5⟩,?_⟩;rcases d4 with⟨O,C⟩|⟨b,c8,c7,O,C,h3,h4⟩
         .exact .inl ⟨O,C⟩
         .refine .inr ⟨b,c8,c7,O,C,?_,fun off=> .inr (.inr O)⟩;obtain⟨R,q1,q2⟩:=Bu.mono (fun b off h=>⟨d5 b off h,rfl⟩) h3;refine⟨R,q1,q2.conv fun us Y hc=>?_⟩;have:=Bg.join_l (X:=ks) b6 hc;rwa [b7] at this
        |j+1=>trivial
       .have z:∀j,(Mem.at [.mrow 0 1 ks N] j).tracked=true->j=0:=fun j h=>by
         match j with
         |0=>rfl
         |j+1=>cases h
        rw[z j O,z j' C]
      have M:ay T J W aV aG [.mrow 0 1 ks N] w []:=⟨d5,fun j id E=>by cases E⟩;have f6:∀p∈b1,p.1 < t.n/\J p.1=p.2.eval T:=fun p hp=>⟨(d1 p hp).1,cb _ _ (d1 p hp).2⟩;obtain⟨eq,_⟩:=Kw (n:=t.n) M (Gv (2+t.ptrs) t.sh) aU hb f6 (fun p hp=>d2 p (AU _ hp)) f8;have f0:∀p∈t.pre,p.2 us:=fun p hp=>d2 ⟨p.1,p.2,ah⟩ (AO _ (BL.2 ⟨p,hp,rfl⟩));obtain⟨eu,et⟩:=d J us rfl d6 cy f0 aV w (v1++v2) (by rw[f3,c3];exact BR.append f5 eq) (by rw[c3];exact e8);refine⟨eu,et.mono fun ex ac hh=>?_⟩;obtain⟨v, d9,rfl,S2,M2,H2⟩:=hh;rw[c3,dv] at S2;rw[dv] at M2 H2;obtain⟨e6,c5,f2⟩:a9.length=ks.length/\ d9 0= W id/\∀b Y, W id=some b->w.heap[b]? =some (.cells Y N (0,0))->∃d8,ac.heap[b]? =some (.cells d8 N (0,0))/\d8.size=Y.size:=by
       rcases S2.row 0 0 1 ks N rfl with h|⟨L,aF,c6,O,C,h3⟩
       .cases h
       .cases O;rcases h3 with⟨_,h4,h5⟩|⟨h4,_⟩
        .exact⟨C,h4,h5⟩
        .omega
      have er:Cj J (t.n+t.outs.length) d9 [.mrow xo 1 a9 N] ac 0 (.mrow xo 1 a9 N):=M2.blk 0;obtain⟨_,ak,q1,q2,⟨q3,q4⟩,q5⟩:=er;rw[en] at q1;rw[cx] at q2;have d0:aG.at id≠ .pad:=by rw[bi];exact fun h=>by cases h
      have a2:=fun j=>Hw aG id (.mrow aw y a9 N) j d0;have ca:(aG.at id).tracked=true:=by rw[bi];rfl
      have keep:∀j b,(aG.at j).tracked=true->j≠id-> W j=some b->ac.heap[b]? =w.heap[b]? :=fun j b d E hr=>by
       refine S2.old b (hm.lt d hr) fun j' b9 he=>?_
       match j' with
       |0=>exact E (hm.inj j id b d ca hr he)
       |j'+1=>cases b9
      have c2:BY T g.n W aG w W (aG.set id (.mrow aw y a9 N)) ac:={
       os:=S2.os
       tape:=S2.tape
       output:=S2.output
       size:=S2.size
       mlen:=fun j h=>by rw[a2 j];split<;>first|exact (fun h=>by cases h)|exact h
       rho:=fun j h=>by
        have E:j≠id:=fun e=>by rw[e,bi] at h;cases h
        rw[a2 j,BG E];exact⟨rfl,h⟩
       untr:=fun j h d=>by
        rw[a2 j] at d;split at d
        .rename_i he;rw[he];exact ca
        .exact d
       fresh:=fun j c h d hr=>by
        rw[a2 j] at d;split at d
        .rename_i he;rw[he] at h;exact absurd h d0
        .rw[h] at d;cases d
       old:=fun k hk fr=>S2.old k hk fun j' b9 he=>by
        match j' with
        |0=>exact fr id ca he
        |j'+1=>cases b9
       tok:=fun j aw c6 e2 h=>by
        have E:j≠id:=fun e=>by rw[e,bi] at h;cases h
        exact .inl ⟨by rw[a2 j,BG E];exact h,rfl,fun b hb=>keep j b (by rw[h];rfl) E hb⟩
       row:=fun j aw y2 c6 e2 h=>by
        by_cases E:j=id
        .subst E;rw[bi] at h;cases h;exact .inr ⟨aw,y,a9,by rw[a2 j,BH rfl],by rw[e6,b6],.inl ⟨rfl,rfl,fun b Y hb hv=>f2 b Y hb hv⟩⟩
        .exact .inr ⟨aw,y2,c6,by rw[a2 j,BG E];exact h,rfl,.inl ⟨rfl,rfl,fun b Y hb hv=>⟨Y,by rw[keep j b (by rw[h];rfl) E hb];exact hv,rfl⟩⟩⟩ }
      have e9:BX T ao.n W (aG.set id (.mrow aw y a9 N)) ac:=by
       refine⟨fun j=>?_,fun j j' c d b9 O C=>?_,fun b off h=>hm.fr b off (AV S2.size h)⟩
       .by_cases E:j=id
        .subst E;rw[a2 j,BH rfl];refine⟨⟨gd hx,by omega⟩,ak,q1,q2,⟨q3,q4⟩,?_⟩;rcases q5 with⟨z1,z2⟩|⟨b,c8,c7,z1,z2,z3,_⟩
         .exact .inl ⟨by rw[<-c5];exact z1,z2⟩
         .rw[c5] at z1;have ev:∀off,T.fr b off:=by
           rcases d4 with⟨O,_⟩|⟨b',_,_,O,_,_,h4⟩
           .rw[O] at z1;cases z1
           .rw[O] at z1;cases z1;exact h4
          refine .inr ⟨b,c8,c7,z1,z2,Bu.mono (fun b2 off h=>⟨?_,rfl⟩) z3,ev⟩;rcases h.2.1 with O|O|O
          .refine⟨h.1,hm.fr b2 off O,fun k=>?_⟩;have no:(Mem.at (aG.set j (.mrow aw y a9 N)) k).tracked=true-> W k≠some b2:=fun d he=>by
            have:(aG.at k).tracked=true:=by
             rw[a2 k] at d;split at d
             .rename_i he;rw[he];exact ca
             .exact d
            have:=hm.lt this he;omega
           cases hx:Mem.at (aG.set j (.mrow aw y a9 N)) k<;>rw[hx] at no<;>first|trivial|exact no rfl|exact fun he=>absurd he (no rfl)
          .exact (c2.safe0 O).1
          .have:=h.2.2 0;exact absurd (by rw[c5];exact O) this
        .by_cases d:(aG.at j).tracked=true
         .exact Cj.step c2 hm (by omega) (by rw[a2 j,BG E]) rfl (fun b hb=>keep j b d E hb)
         .rw[a2 j,BG E];cases hx:aG.at j with
          |pad=>trivial
          |gone=>trivial
          |cells=>rw[hx] at d;exact absurd rfl d
          |lp=>rw[hx] at d;exact absurd rfl d
          |tok=>rw[hx] at d;exact absurd rfl d
          |mrow=>rw[hx] at d;exact absurd rfl d
          |mapb=>rw[hx] at d;exact absurd rfl d
       .have tr:∀k,(Mem.at (aG.set id (.mrow aw y a9 N)) k).tracked=true->(aG.at k).tracked=true:=fun k hk=>by
         rw[a2 k] at hk;split at hk
         .rename_i he;rw[he];exact ca
         .exact hk
        exact hm.inj j j' c (tr j d) (tr j' b9) O C
      refine⟨_, W,rfl,by rw[<-e2];exact c2,by rw[<-e2];exact e9,by rw[ey];exact vP es dm H2⟩
     .cases a1
    .cases a1
   .cases a1
  .cases a1
 .cases a1
def eE (t:Bf):CM:=match t.row with|none=>aR t|some _=>dY t
theorem pl {f:FuncId}(u:Bl P f t)(T:Tab)(an:Ys)(args:List AC)(ae:PC)(aG:Mem)(g:G)(d:AC)(a0:Mem)(ao:G)(h:eE t an f args ae aG g=some (d,a0,ao)):
  Bo g ao/\(Agr T ao->CB T ao->pcv T ae->Ch T g ae->∀ W w Y,BR T g.n W aG w args Y->BX T g.n W aG w->
   (∃aA,P.funcs[f]? =some aA/\aA.body.isSome=true/\(aA.name== "runtime.NumGoroutine")=false)/\Calls P f (Y:List Value).toArray w (H3 T g W aG w d a0 ao)):=by
 unfold eE at h;cases p:t.row with
 |none=>rw[p] at h;exact nV u T an args ae aG g d a0 ao h
 |some _=>rw[p] at h;exact oS u T an args ae aG g d a0 ao h
end
end Go.Eng
end
