/-
  A part of the proof: the evaluator of code and its soundness.
-/
import Derived.Test.YtikbgnmcfncnaaaE2
import Derived.Scope
import Derived.Deep.Slices
import Derived.OpenShut
import Derived.Below
set_option linter.unusedVariables false
set_option linter.unusedSimpArgs false
noncomputable section
namespace Go.Eng
section
open Go Go.RowKit
section
variable {an:QC}{a0:Bool}{tg:List Tmp}{P:Program}{T:Tab}{call:A7}{ap:Ys}{r:Option Nat}{ao:Nat}{Z:Array Oper}{ad:PC}
variable{k j:Nat}{D:List (Tmp × Nat)}{o:Oper}
theorem iy {m:Mem}(h:k≠2\/Ld tg=none):IC tg k m=m:=by
 unfold IC;cases d:Ld tg with
 |none=>rfl
 |some n=>
  simp only;rcases h with h|h
  .have:Nat.beq k 2=false:=by
    cases p:Nat.beq k 2 with
    |false=>rfl
    |true=>exact absurd (AA9 p) h
   rw[this];rfl
  .rw[d] at h;cases h
theorem Je {S:DS}{ok:Nat->Bool}{R:Nat}{Bt:List Tmp}{aw:RS}(h:Bh P call ap Z ad { S.masked D ok R Bt with mem:=IC tg k S.mem } o=some aw)(d:k≠2\/Ld tg=none):Bh P call ap Z ad (S.masked D ok R Bt) o=some aw:=by
 rw[iy d] at h;exact h
theorem Dl {R:Nat}{S S':DS}{p:List (Tmp × Nat)}{M:List Nat}(h:WS an a0 tg P call ap Z D p M ad R j o S=some S'):
  ∃aw c,Bh P call ap Z ad { S.masked D (okG M R j) R (At Z o) with mem:=IC tg (AP an p o) S.mem } o=some aw/\S'=⟨C8 S.tmps o.dst c,if Nat.ble 3 (AP an p o) then (if Nat.beq (AP an p o) 4 then Sy tg o.dst S.mem aw.mem else aw.mem) else S.mem,aw.g,(HB aw (Hr R S.gls).length).map (fun e=>(j,e))++S.gls⟩/\
   (∀d,o.dst=some d->c=(aw.tmps.get d).getD .any)/\(AP an p o=3->a0=false->Bj S.mem aw.mem=true)/\(AP an p o=0->AC.nlt aw.g.n c=true/\aF S.g.n (S.masked D (okG M R j) R (At Z o)).tmps o c=true/\m9 tg (S.masked D (okG M R j) R (At Z o)).tmps o=true)/\
   (a0=true->AP an p o < 2->∀d aN,o.dst=some d->S'.tmps.get d=some aN->AC.noVec aN=true\/nU R j=true)/\
   (∀e∈HB aw (Hr R S.gls).length,e∈aw.gl/\R.testBit e.j=true)/\(AP an p o=4->∃d,o.dst=some d/\d < S.tmps.n)/\
   (AP an p o=2->BD o.op=true\/((∀id,(IC tg (AP an p o) S.mem).at id≠ .pad->aw.mem.at id=(IC tg (AP an p o) S.mem).at id)/\(AC.free c=true\/∀id,aw.mem.at id≠ .pad->(IC tg (AP an p o) S.mem).at id≠ .pad)))/\
   (∀n,Ld tg=some n->a0=true/\AP an p o < 4/\(AP an p o=3->n<=S.mem.length/\HP (S.mem.take n) aw.mem=true)/\(AP an p o=2->aC ap (S.masked D (okG M R j) R (At Z o)).tmps o=true/\∀d aN,o.dst=some d->S'.tmps.get d=some aN->AC.noVec aN=true)):=by
 unfold WS at h;simp only[ABA,AA7] at h;obtain⟨aw,aa,h⟩:=h;rw[Option.ite_none_right_eq_some] at h;obtain⟨hX,h⟩:=h
 .injection h with h
  rw[AA8,AA8,AA8,AA8,AA8] at hX;obtain⟨⟨⟨C,⟨O,X⟩,Y⟩,z⟩,N⟩:=hX;have bi:S'.tmps=C8 S.tmps o.dst (GW aw.tmps o.dst):=by rw[<-h]
  refine⟨aw,_,aa,h.symm,fun d hd=>by rw[hd];rfl,fun u hm=>?_,fun u=>?_,fun hm u d aN hd y=>?_,fun e he=>⟨List.mem_of_mem_take he,ABb.1 C e he⟩,fun u=>?_,fun u=>?_,fun n hn=>?_⟩
  .rw[u,hm] at O;exact O
  .rw[u] at O;have a6:(AC.nlt aw.g.n (GW aw.tmps o.dst)&&(aF S.g.n (S.masked D (okG M R j) R (At Z o)).tmps o (GW aw.tmps o.dst)&&m9 tg (S.masked D (okG M R j) R (At Z o)).tmps o))=true:=O;rw[AA8,AA8] at a6;exact a6
  .have hb:Nat.ble 2 (AP an p o)=false:=by
    cases hx:Nat.ble 2 (AP an p o) with
    |false=>rfl
    |true=>have:=ABX hx;omega
   rw[hm,hb] at X;simp only[Bool.not_true,Bool.or_self,Bool.false_or,ABe] at X;rw[bi] at y;rw[hd] at X y;simp only[GW] at X;simp only[GW] at y;rw[y] at X;exact X
  .rw[u] at Y;rw[show Nat.beq 4 4=true from rfl,Bool.not_true,Bool.false_or] at Y;cases hd:o.dst with
   |none=>rw[hd] at Y;exact absurd Y (by simp)
   |some d=>
    rw[hd] at Y;exact⟨d,rfl,DZ Y⟩
  .rw[show Nat.beq (AP an p o) 2=true by rw[u];rfl,Bool.not_true,Bool.false_or,ABe] at z;rcases z with z|z
   .exact .inl z
   .right;rw[AA8,ABe] at z;obtain⟨k1,E⟩:=FM z.1;have bm:∀id,(IC tg (AP an p o) S.mem).at id≠ .pad->id < (IC tg (AP an p o) S.mem).length:=fun id hp=>by
     rcases ABN id (IC tg (AP an p o) S.mem).length with h|h
     .exact h
     .exact absurd (Mem.at_ge h) hp
    refine⟨fun id hp=>E id (bm id hp),z.2.symm.imp (fun h=>h) fun N id hp=>?_⟩;have hl:=AA9 N;have bx:id < aw.mem.length:=by
     rcases ABN id aw.mem.length with h|h
     .exact h
     .exact absurd (Mem.at_ge h) hp
    rw[<-E id (by omega)];exact hp
  .unfold pM at N;rw[hn] at N;simp only at N;rw[AA8,AA8] at N;obtain⟨⟨g1,au⟩,W⟩:=N;refine⟨g1,DZ au,fun u=>?_,fun u=>?_⟩
   .rw[ACE (by rw[u];rfl),AA8] at W;exact⟨ABX W.1,W.2⟩
   .rw[ACD (by rw[u];decide),ACE (by rw[u];rfl),AA8] at W;refine⟨W.1,fun d aN hd y=>?_⟩;have g4:=W.2;rw[bi] at y;rw[hd] at g4 y;simp only[GW] at g4;simp only[GW] at y;rw[y] at g4;exact g4
theorem XF:∀{m:Mem} {n id:Nat},Mem.at (m.take n) id≠ .pad->Mem.at (m.take n) id=m.at id
 |[],n,id,h=>by simp
 |b::m,0,id,h=>by simp[Mem.at] at h
 |b::m,n+1,0,h=>by simp[Mem.at]
 |b::m,n+1,id+1,h=>by
  have d:Mem.at (m.take n) id≠ .pad:=by simpa [Mem.at] using h
  have:=XF d;simpa [Mem.at] using this
theorem sm {R i:Nat}(h:nU R j=true)(Y:i < j):R.testBit i=true:=by
 have O:R+1=2 ^ j:=AA9 h;have:R=2 ^ j - 1:=by omega
 grind
structure Bu (qc:QC) (md:Bool) (tg:List Tmp) (P:Program) (T:Tab) (call:A7) (ys:Ys) (ops:Array Oper) (pc:PC) (S:Nat->DS):Prop where
 step:∀j o,ops[j]? =some o->∃R,(Ak ops.toList [])[j]? =some R/\WS qc md tg P call ys ops (BU 0 ops.toList) (Am 0 ops.toList) (Ak ops.toList []) pc R j o (S j)=some (S (j+1))
 masks:HI (Ak ops.toList []) 0=true
 nodup:Ho (ops.toList.filterMap (·.dst))=true
 ord:∀(i:Nat) (o:Oper) (R:Nat),ops[i]? =some o->(Ak ops.toList [])[i]? =some R->∀j oj,ops[j]? =some oj->j < i->
  (AP qc (Am 0 ops.toList) o=3->R.testBit j=true\/AP qc (Am 0 ops.toList) oj=0)/\(AP qc (Am 0 ops.toList) o=2->R.testBit j=true\/AP qc (Am 0 ops.toList) oj<=2\/(Ld tg).isSome=true/\AP qc (Am 0 ops.toList) oj<=3)
 wide:∀(i:Nat) (o:Oper) (R:Nat),ops[i]? =some o->(Ak ops.toList [])[i]? =some R->AP qc (Am 0 ops.toList) o≠0->AP qc (Am 0 ops.toList) o≠4->∀j oj,ops[j]? =some oj->j < i->AP qc (Am 0 ops.toList) oj=4->R.testBit j=true->
  ∀m om,ops[m]? =some om->m < j->R.testBit m=true\/AP qc (Am 0 ops.toList) om=0
 call:∀T,Ca P T call
 ys:DI P T.lp ys
 gl0:(S 0).gls=[]
variable {S:Nat->DS}
theorem Bu.op {j:Nat}(d:j < Z.size):∃o,Z[j]? =some o:=⟨_,AB2 d⟩
structure AAT (S S':DS):Prop where
 grow:Ac S.g S'.g
 len:S'.tmps.n=S.tmps.n
 gls:∀p∈S.gls,p∈S'.gls
theorem Bu.later (H:Bu an a0 tg P T call ap Z ad S)(i:Nat):∀k,i+k<=Z.size->AAT (S i) (S (i+k))/\
  (∀t,(∀j o,i<=j->j < i+k->Z[j]? =some o->o.dst≠some t)->(S (i+k)).tmps.get t=(S i).tmps.get t)/\
  ((∀j o,i<=j->j < i+k->Z[j]? =some o->AP an (Am 0 Z.toList) o < 3)->(S (i+k)).mem=(S i).mem)
 |0,_=>⟨⟨Ac.refl _,rfl,fun _ h=>h⟩,fun _ _=>rfl,fun _=>rfl⟩
 |k+1,hk=>by
  obtain⟨C,O,N⟩:=H.later i k (by omega);obtain⟨o,u⟩:=Bu.op (Z:=Z) (j:=i+k) (by omega);obtain⟨R,hR,aa⟩:=H.step (i+k) o u;obtain⟨aw,c,E,d,ax,a4,a2,a7,a6,bb,bi,-⟩:=Dl aa;obtain⟨M,_⟩:=Mc (r:=none) (ao:=0) (H.call T) H.ys E;have e:S (i+(k+1))=S (i+k+1):=rfl;refine⟨⟨?_,?_,?_⟩,fun t z=>?_,fun y=>?_⟩
  .rw[e,d];exact C.grow.trans M
  .rw[e,d];simp only;rw[<-C.len,Hl]
  .intro p X;rw[e,d];exact ABL _ (C.gls p X)
  .rw[e,d];simp only;rw[<-O t (fun j o C O=>z j o C (by omega))];exact TY _ _ (z (i+k) o (by omega) (by omega) u)
  .rw[e,d];have bl:=y (i+k) o (by omega) (by omega) u;have W:Nat.ble 3 (AP an (Am 0 Z.toList) o)=false:=by
    cases Y:Nat.ble 3 (AP an (Am 0 Z.toList) o) with
    |false=>rfl
    |true=>have:=ABX Y;omega
   simp only[W];exact N fun j o C O=>y j o C (by omega)
theorem Bu.gls (H:Bu an a0 tg P T call ap Z ad S):∀k,k<=Z.size->∀p∈(S k).gls,p.1 < k/\p∈(S (p.1+1)).gls
 |0,_,p,hp=>by rw[H.gl0] at hp;cases hp
 |k+1,hk,p,hp=>by
  obtain⟨o,u⟩:=Bu.op (Z:=Z) (j:=k) (by omega);obtain⟨R,hR,aa⟩:=H.step k o u;obtain⟨aw,c,E,d,M,N,O,X,W,Y,ax,-⟩:=Dl aa;have y:=hp;rw[d] at hp;rcases ABm.1 hp with C|C
  .obtain⟨e,he,rfl⟩:=ACI.1 C;exact⟨Nat.lt_succ_self _,y⟩
  .obtain⟨q1,z⟩:=H.gls k (by omega) p C;exact⟨by omega,z⟩
theorem Bu.keep (H:Bu an a0 tg P T call ap Z ad S){n:Nat}(p:Ld tg=some n)(i:Nat):∀k,i+k<=Z.size->∀id,Mem.at ((S (i+k)).mem.take n) id≠ .pad->(S i).mem.at id=Mem.at ((S (i+k)).mem.take n) id
 |0,_,id,hp=>by
  rw[Nat.add_zero] at hp⊢;exact (XF hp).symm
 |k+1,hk,id,hp=>by
  obtain⟨o,W⟩:=Bu.op (Z:=Z) (j:=i+k) (by omega);obtain⟨R,hR,aa⟩:=H.step (i+k) o W;obtain⟨aw,c,Y,u,ax,a4,a2,a7,a6,bb,bi,z⟩:=Dl aa;obtain⟨b1,b2,M,b4⟩:=z n p;have e:(S (i+(k+1)))=S (i+k+1):=rfl;rw[e] at hp⊢;by_cases y:AP an (Am 0 Z.toList) o=3
  .obtain⟨aS,N⟩:=M y;have d:(S (i+k+1)).mem=aw.mem:=by rw[u,y];rfl
   obtain⟨k1,E⟩:=FM N;have bs:id < n:=by
    rcases ABN id n with h|h
    .exact h
    .exact absurd (Mem.at_ge (by rw[ABl];omega)) hp
   have C:Mem.at ((S (i+k+1)).mem.take n) id=Mem.at ((S (i+k)).mem.take n) id:=by
    rw[XF hp,d];exact E id (by rw[ABl];omega)
   rw[C] at hp⊢;exact H.keep p i k (by omega) id hp
  .have d:(S (i+k+1)).mem=(S (i+k)).mem:=by
    have O:Nat.ble 3 (AP an (Am 0 Z.toList) o)=false:=by
     cases X:Nat.ble 3 (AP an (Am 0 Z.toList) o) with
     |false=>rfl
     |true=>have:=ABX X;omega
    rw[u];simp only[O];rfl
   rw[d] at hp⊢;exact H.keep p i k (by omega) id hp
theorem Bu.keep2 (H:Bu an a0 tg P T call ap Z ad S){n:Nat}(C:Ld tg=some n)(i:Nat){id:Nat}(z:id < n)(Y:(S i).mem.at id≠ .pad):∀k,i+k<=Z.size->(S (i+k)).mem.at id=(S i).mem.at id
 |0,_=>rfl
 |k+1,hk=>by
  have p:=Bu.keep2 H C i z Y k (by omega);obtain⟨o,X⟩:=Bu.op (Z:=Z) (j:=i+k) (by omega);obtain⟨R,hR,aa⟩:=H.step (i+k) o X;obtain⟨aw,c,a1,u,a4,a6,a7,bi,bb,bk,bl,M⟩:=Dl aa;obtain⟨b1,b2,N,b4⟩:=M n C;have e:(S (i+(k+1)))=S (i+k+1):=rfl;rw[e];by_cases y:AP an (Am 0 Z.toList) o=3
  .obtain⟨aS,O⟩:=N y;have d:(S (i+k+1)).mem=aw.mem:=by rw[u,y];rfl
   obtain⟨k1,E⟩:=FM O;have ht:Mem.at ((S (i+k)).mem.take n) id=(S (i+k)).mem.at id:=by
    unfold Mem.at;rw[AB8,ACE z]
   have hl:id < (S (i+k)).mem.length:=by
    rcases ABN id (S (i+k)).mem.length with h|h
    .exact h
    .have:=Mem.at_ge h;rw[p] at this;exact absurd this Y
   rw[d,<-p,<-ht];exact E id (by rw[ABl];omega)
  .have d:(S (i+k+1)).mem=(S (i+k)).mem:=by
    have W:Nat.ble 3 (AP an (Am 0 Z.toList) o)=false:=by
     cases hx:Nat.ble 3 (AP an (Am 0 Z.toList) o) with
     |false=>rfl
     |true=>have:=ABX hx;omega
    rw[u];simp only[W];rfl
   rw[d,p]
def Pd (an:QC)(Z:Array Oper)(ak:Array Bool)(q:Nat)(A:Nat->Nat)(b:Nat):Prop:=
 ∃i o,Z[i]? =some o/\AP an (Am 0 Z.toList) o=4/\ak.getD i false=true/\q<=i/\A i=b
def frO (an:QC)(T:Tab)(Z:Array Oper)(ak:Array Bool)(q:Nat)(A:Nat->Nat):Nat->Nat->Prop:=fun b off=>T.fr b off/\¬Pd an Z ak q A b
structure Bz (qc:QC) (P:Program) (T:Tab) (ops:Array Oper) (S:Nat->DS) (ρ0:Nat->Option Nat) (w0:World) (A:Nat->Nat) (q:Nat) (listed:Array Bool) (ρ :Nat->Option Nat) (a:Act) (w:World):Prop where
 size:listed.size=ops.size
 closed:PI ops listed
 qle:q<=ops.size
 base:∀j o,j < q->ops[j]? =some o->listed.getD j false=true\/AP qc (Am 0 ops.toList) o=0
 mlist:∀j o,ops[j]? =some o->AP qc (Am 0 ops.toList) o=3->(listed.getD j false=true↔j < q)
 defers:D7 T.base ρ (S q).mem w a.defers
 asize:a.tmps.size=(S 0).tmps.n
 mem:AH (T.wf (frO qc T ops listed q A)) (S q).g.n ρ (S q).mem w
 init:∀t c,(S 0).tmps.get t=some c->(∀i o,ops[i]? =some o->o.dst=some t->listed.getD i false=false)->AA (T.wf (frO qc T ops listed q A)) (S 0).g.n ρ (S q).mem w c (a.tmps.getD t undef)
 facts:∀i o d c,listed.getD i false=true->ops[i]? =some o->o.dst=some d->(S (i+1)).tmps.get d=some c->(AP qc (Am 0 ops.toList) o=4->i < q)->AA (T.wf (frO qc T ops listed q A)) (S (i+1)).g.n ρ (S q).mem w c (a.tmps.getD d undef)
 gfacts:∀p∈(S ops.size).gls,listed.getD p.1 false=true->Ga T ops (S (p.1+1)).g.n a p.2/\listed.getD p.2.j false=true
 pend:∀i o,ops[i]? =some o->AP qc (Am 0 ops.toList) o=4->listed.getD i false=true->q<=i->w0.heap.size<=A i/\(∀id,((S q).mem.at id).tracked=true-> ρ id≠some (A i))/\
  (∀d,o.dst=some d->a.tmps.getD d undef= .pointer (some ⟨A i,0,none⟩))/\∃t l vs,o.op= .alloc t/\(S (i+1)).mem=(S i).mem++[.cells l t]/\w.heap[A i]? =some (.cells (vs:List Value).toArray t (0,0))/\∀(T:Tab) (n:Nat) (ρ :Nat->Option Nat) (m:Mem) (w:World),AF T n ρ m w l vs
 inj:∀i j oi oj,ops[i]? =some oi->ops[j]? =some oj->AP qc (Am 0 ops.toList) oi=4->AP qc (Am 0 ops.toList) oj=4->listed.getD i false=true->listed.getD j false=true->q<=i->q<=j->A i=A j->i=j
 st:AI T (S 0).g.n ρ0 (S 0).mem w0 ρ (S q).mem w
variable {a3:Nat->Option Nat}{aH:World}{A:Nat->Nat}{q:Nat}{ak:Array Bool}{V :Nat->Option Nat}{a:Act}{w:World}
variable{c:AC}{F:Nat->Nat->Prop}{e:GE}
theorem Bz.val (H:Bu an a0 tg P T call ap Z ad S)(I:Bz an P T Z S a3 aH A q ak V a w){k:Nat}(hk:k<=Z.size){t:Nat}(d:(S k).tmps.get t=some c)
  (Y:∀i o,Z[i]? =some o->o.dst=some t->(ak.getD i false=true/\i < k/\(AP an (Am 0 Z.toList) o=4->i < q))\/ak.getD i false=false/\k<=i):AA (T.wf (frO an T Z ak q A)) (S k).g.n V (S q).mem w c (a.tmps.getD t undef):=by
 by_cases z:∃i o,Z[i]? =some o/\o.dst=some t/\i < k
 .obtain⟨i,o,p,hd,ax⟩:=z;rcases Y i o p hd with⟨C,_,M⟩|⟨_,O⟩
  .obtain⟨X,ah,_⟩:=H.later (i+1) (k - (i+1)) (by omega);rw[show i+1+(k - (i+1))=k by omega] at X ah;have:=ah t (fun j E N W y u=>by
    have:=Du H.nodup p y hd u;omega)
   rw[this] at d;exact (I.facts i o t c C p hd d M).up0 X.grow.n
  .omega
 .obtain⟨X,ah,_⟩:=H.later 0 k (by omega);rw[ABJ] at X ah;have:=ah t (fun j E N W y u=>z ⟨j,E,y,u,by omega⟩);rw[this] at d;refine (I.init t c d fun i o p hd=>?_).up0 X.grow.n;grind
theorem Jb (D:List (Tmp × Nat))(ok:Nat->Bool)(s:AZ):∀(l:List Tmp) (t:Tmp) (c:AC),BH (CC D ok s l) t=some c->t∈l
 |[],_,_,h=>by simp[CC,BH] at h
 |x::r,t,c,h=>by
  have u:∀aN:AC,BH ((x,aN)::CC D ok s r) t=some c->t∈x::r:=fun aN h=>by
   by_cases e:t=x
   .rw[e];exact ABK
   .refine ABH _ (Jb D ok s r t c ?_);have y:Nat.beq x t=false:=by
     cases z:Nat.beq x t with
     |false=>rfl
     |true=>exact absurd (AA9 z).symm e
    change (bif Nat.beq x t then some aN else BH (CC D ok s r) t)=some c at h;rw[y] at h;exact h
  simp only[CC] at h;cases d:s.get x with
  |none=>rw[d] at h;exact ABH _ (Jb D ok s r t c h)
  |some aN=>
   rw[d] at h;simp only at h;cases p:CK D x with
   |none=>rw[p] at h;exact u aN (by simpa using h)
   |some i=>
    rw[p] at h;simp only at h;split at h
    .exact u aN h
    .exact ABH _ (Jb D ok s r t c h)
theorem ld {S:DS}{D:List (Tmp × Nat)}{ok:Nat->Bool}{R:Nat}{Bt:List Tmp}{t:Tmp}(h:(S.masked D ok R Bt).tmps.get t=some c):t∈Bt:=by
 simp only[DS.masked,AZ.get] at h;cases p:BH (CC D ok S.tmps Bt) t with
 |none=>rw[p] at h;simp[Tr.get] at h
 |some d=>exact Jb _ _ _ _ _ _ p
theorem Ga.wf {n:Nat}(h:Ga T Z n a e):Ga (T.wf F) Z n a e:=⟨h.lt,h.bool,h.iff,h.imp,h.ne⟩
theorem Ga.un {n:Nat}(h:Ga (T.wf F) Z n a e):Ga T Z n a e:=⟨h.lt,h.bool,h.iff,h.imp,h.ne⟩
theorem Bz.masked {Bt:List Tmp}(H:Bu an a0 tg P T call ap Z ad S)(I:Bz an P T Z S a3 aH A q ak V a w){j R:Nat}{g:G}(hj:j < Z.size)(bl:ak.getD j false=false)(hR:(Ak Z.toList [])[j]? =some R)(W:∀i,R.testBit i=true->ak.getD i false=true)
  (a6:∀t i y,t∈Bt->Z[i]? =some y->y.dst=some t->AP an (Am 0 Z.toList) y=4->R.testBit i=true->i < q) (N:(S j).g.n<=g.n) (a7:(S q).g.n<=g.n):
  CG (T.wf (frO an T Z ak q A)) V Z { (S j).masked (BU 0 Z.toList) (okG (Ak Z.toList []) R j) R Bt with mem:=(S q).mem,g:=g } a w:=by
 obtain⟨X,_⟩:=H.later 0 j (by omega);rw[ABJ] at X;have ax:=FP _ 0 H.masks j R hR;refine⟨⟨I.defers,?_,fun t c E=>?_,I.mem.mono a7⟩,fun e M=>?_⟩
 .simp only[DS.masked];rw[I.asize,X.len]
 .obtain⟨C,O⟩:=VX (R:=R) H.nodup E;have bk:=ld (R:=R) E;refine (I.val H (by omega) C fun i o u hd=>?_).up0 N;have d:=O i o u hd;simp only[okG,ABe] at d;rcases d with d|d
  .exact .inl ⟨W i d,by have:=ax i d;omega,fun h4=>a6 t i o bk u hd h4 d⟩
  .right;have Y:i < (Ak Z.toList []).length:=by
    rw[DB];exact (ABF.1 u).1
   have z:(Ak Z.toList [])[i]? =some ((Ak Z.toList []).getD i 0):=by
    simp[List.getD,ABC Y]
   have bs:=FP _ 0 H.masks i _ z j d;refine⟨?_,by omega⟩;cases hx:ak.getD i false with
   |false=>rfl
   |true=>
    have:=D3 I.closed z u (I.closed i o u hx) j d;rw[bl] at this;cases this
 .simp only[DS.masked,Hr,ACI,List.mem_filter] at M;obtain⟨p,⟨hp,d⟩,rfl⟩:=M;have bb:=W p.1 d;have bt:p.1 < j:=by have:=ax p.1 d;omega
  obtain⟨ah,_⟩:=H.later j (Z.size - j) (by omega);rw[show j+(Z.size - j)=Z.size by omega] at ah;obtain⟨l3,_⟩:=H.later (p.1+1) (j - (p.1+1)) (by omega);rw[show p.1+1+(j - (p.1+1))=j by omega] at l3;exact ((I.gfacts p (ah.gls p hp) bb).1.up (ABS l3.grow.n N)).wf
end
section
variable {an:QC}{a0:Bool}{tg:List Tmp}{P:Program}{T:Tab}{call:A7}{ap:Ys}{r:Option Nat}{ao:Nat}{Z:Array Oper}{ad:PC}
variable{aI:Operand->AC}{x:Operand}{t:TypeId}{id:Nat}{g:G}{s aw:RS}{o:Oper}{D:List (Tmp × Nat)}
theorem mE {op:Op}(d:op= .move x\/op= .assign x\/∃k,op= .extract x k)(k:Nat):(∀m g,EA k P aI op m g=aOp P aI op m g)\/∀m g,EA k P aI op m g=none:=by
 match k with
 |0=>exact .inl fun _ _=>rfl
 |1=>rcases d with rfl|rfl|⟨k,rfl⟩<;>exact .inr fun _ _=>rfl
 |n+2=>rcases d with rfl|rfl|⟨k,rfl⟩<;>exact .inl fun _ _=>rfl
theorem Y9 {off:Nat}{m al:Mem}{au:G}{r:R}(u:al.at id=m.at id)(h:GK P t (.ptr id off) m g=some r):r.m=m/\r.us=[]/\r.ps=[]/\GK P t (.ptr id off) al au=some { r with m:=al }:=by
 unfold GK at h⊢;cases aa:E3 P t with
 |none=>rw[aa] at h;cases h
 |some x=>
  obtain⟨size,y⟩:=x;rw[aa] at h;simp only[ABA,ABd] at h⊢;rw[u];split at h
  .split at h
   .rename_i p;rw[ACE p];split at h
    .rename_i d;cases h;rw[ACE d];exact⟨rfl,rfl,rfl,rfl⟩
    .rename_i d;rw[ACD d];rw[ABU] at h;obtain⟨c,p,rfl⟩:=h;rw[p];exact⟨rfl,rfl,rfl,rfl⟩
   .cases h
  .cases h
theorem oy (y:o.guard=none)(p:o.op= .move x\/o.op= .assign x\/∃k,o.op= .extract x k)(h:Bh P call ap Z ad s o=some aw):
  aw.mem=s.mem/\aw.g=s.g/\aw.gl=s.gl/\∀m g,Bh P call ap Z ad { s with mem:=m,g:=g } o=some { aw with mem:=m,g:=g }:=by
 unfold Bh DE at h⊢;simp only[y,ABA,ABd] at h⊢;split at h
 .cases h
 rename_i z;simp only[z];have d:=mE (P:=P) (aI:=DC [] s.tmps) p (OY ap o.dst);generalize OY ap o.dst=K at h d⊢;rcases p with p|p|⟨k,p⟩
 iterate 2
  .rw[p] at h d⊢;rcases d with d|d
   .simp only[d,aOp,ABd] at h⊢;cases h;exact⟨rfl,rfl,rfl,fun m g=>rfl⟩
   .simp only[d] at h;cases h
 .rw[p] at h d⊢;rcases d with d|d
  .simp only[d,aOp,QA] at h⊢;generalize DC [] s.tmps x=e at h⊢;cases e
   case tup l=>
    simp only[AA7,ABU] at h;obtain⟨aO,⟨c,u,rfl⟩,h⟩:=h;cases h;refine⟨rfl,rfl,rfl,fun m g=>?_⟩;simp only[u,AB9,ABd];rfl
   all_goals simp at h
  .simp only[d] at h;cases h
theorem if23 {b:Bool}:(b=true/\(if b=true then 2 else 3)=2)\/(b=false/\(if b=true then 2 else 3)=3):=by cases b<;>simp
theorem ss {op:BinOp}{p:TypeId}{y:Operand}(u:o.guard=none)(z:o.op= .binOp op t x y p)(h:Bh P call ap Z ad s o=some aw):
  ∃aO,ae P op t (DC [] s.tmps x) (DC [] s.tmps y) s.mem s.g=some aO/\aw.mem=aO.m/\aw.g=(s.g.pushAll aO.us).needAll ad aO.ps/\aw.gl=s.gl/\aw.tmps=C8 s.tmps o.dst aO.c:=by
 unfold Bh DE at h;simp only[u,ABA,ABd] at h;split at h
 .cases h
 simp only[z,AA7] at h;obtain⟨aO,C,h⟩:=h;cases h;have E:∀k,EA k P (DC [] s.tmps) (.binOp op t x y p) s.mem s.g=some aO->ae P op t (DC [] s.tmps x) (DC [] s.tmps y) s.mem s.g=some aO:=fun k d=>by
  match k,d with
  |0,d=>exact d
  |1,d=>cases d
  |n+2,d=>exact d
 grind
theorem AA.intAny {T:Tab}{n:Nat}{V ac:Nat->Option Nat}{m ag:Mem}{w ab:World}{c:AC}{v:Value}(d:(CO c).isSome=true)(h:AA T n V m w c v):AA T n ac ag ab c v:=by
 cases c<;>first|exact h|cases d
theorem mN {az:TypeId}{off:Nat}(M:o.guard=none)(X:o.op= .load az x)(y:DC [] s.tmps x= .ptr id off)(h:Bh P call ap Z ad s o=some aw):
  aw.mem=s.mem/\aw.g=s.g/\aw.gl=s.gl/\∀m g,m.at id=s.mem.at id->Bh P call ap Z ad { s with mem:=m,g:=g } o=some { aw with mem:=m,g:=g }:=by
 unfold Bh DE at h⊢;simp only[M,ABA,ABd] at h⊢;split at h
 .cases h
 rename_i W;simp only[W];rw[X] at h⊢;simp only[ABA,AA7] at h;obtain⟨aO,d,h⟩:=h;have Y:GK P az (DC [] s.tmps x) s.mem s.g=some aO/\∀m g,EA (OY ap o.dst) P (DC [] s.tmps) (.load az x) m g=GK P az (DC [] s.tmps x) m g:=by
  generalize OY ap o.dst=k at d⊢
  match k,d with
  |0,d=>exact⟨d,fun _ _=>rfl⟩
  |1,d=>nomatch d
  |k+2,d=>exact⟨d,fun _ _=>rfl⟩
 obtain⟨C,O⟩:=Y;rw[y] at C;obtain⟨z,p,u,_⟩:=Y9 (al:=s.mem) (au:=s.g) rfl C;cases h;refine⟨z,by rw[p,u];rfl,rfl,fun m g N=>?_⟩;obtain⟨_,_,_,E⟩:=Y9 (al:=m) (au:=g) N C;simp only[O,y,E,ABd,p,u];rfl
theorem Om {an:QC}(D:List (Tmp × Nat))(o:Oper):(AP an D o=0/\o.guard=none/\((∃x,(o.op= .move x\/o.op= .assign x\/∃k,o.op= .extract x k)/\∀t,x= .tmp t->CK D t=none)\/(∃op t x y u,o.op= .binOp op t x y u/\(∀t,x= .tmp t->CK D t=none)/\∀t,y= .tmp t->CK D t=none)\/∃t x,o.op= .load t x/\∀y,x= .tmp y->CK D y=none))\/(AP an D o=1/\Wi o.op=true)\/(AP an D o=2/\(BD o.op=true\/(∃f aX ay,o.op= .call { callee:= .value f,args:=aX,argTypes:=ay })\/∃t n ps,o.op= .buildSlice t n ps))\/AP an D o=3\/(AP an D o=4/\o.guard=none/\∃t,o.op= .alloc t):=by
 unfold AP;have p:∀(b:Bool) (n:Nat),((if (o.guard.isNone&&b)=true then 0 else n)=0/\o.guard=none/\b=true)\/(if (o.guard.isNone&&b)=true then 0 else n)=n:=by
  intro b n;cases b<;>cases o.guard<;>simp
 cases d:o.op with
 |move x|assign x=>
  simp only;refine (p _ _).elim (fun h=> .inl ⟨h.1,h.2.1,.inl ⟨x,by simp,fun t e=>?_⟩⟩) (fun h=> .inr (.inl ⟨h,rfl⟩));have O:=h.2.2;subst e;simpa using O
 |extract x k=>
  simp only;refine (p _ _).elim (fun h=> .inl ⟨h.1,h.2.1,.inl ⟨x,by simp,fun t e=>?_⟩⟩) (fun h=> .inr (.inr (.inl ⟨h,.inl rfl⟩)));have O:=h.2.2;subst e;simpa using O
 |binOp op az x y u=>
  simp only;have z:∀x:Operand,(match x with| .tmp t=>(CK D t).isNone|_=>true)=true->∀t,x= .tmp t->CK D t=none:=fun x h t e=>by
   subst e;simpa using h
  refine (p _ _).elim (fun h=> .inl ⟨h.1,h.2.1,.inr (.inl ⟨op,az,x,y,u,rfl,?_⟩)⟩) (fun h=> .inr (.inr (.inl ⟨h,.inl rfl⟩)));have O:=h.2.2;rw[AA8,AA8] at O;exact⟨z x O.1.2,z y O.2⟩
 |load az x=>
  simp only;refine (p _ _).elim (fun h=> .inl ⟨h.1,h.2.1,.inr (.inr ⟨az,x,rfl,fun t e=>?_⟩)⟩) (fun h=> .inr (.inr (.inl ⟨h,.inl rfl⟩)));have O:=h.2.2;subst e;rw[AA8] at O;simpa using O.2
 |nilCheck x=>exact .inr (.inl ⟨rfl,rfl⟩)
 |fieldAddr a b c=>exact .inr (.inl ⟨rfl,rfl⟩)
 |indexAddr a b c=>exact .inr (.inl ⟨rfl,rfl⟩)
 |buildSlice t n ps=>
  simp only;cases ((an.1||an.2)&&Nat.blt 0 n) with
  |true=>exact .inr (.inr (.inl ⟨rfl,.inr (.inr ⟨t,n,ps,rfl⟩)⟩))
  |false=>exact .inr (.inr (.inr (.inl rfl)))
 |alloc t=>
  simp only;cases M:o.guard with
  |none=>exact .inr (.inr (.inr (.inr ⟨rfl,rfl,t,rfl⟩)))
  |some g=>exact .inr (.inr (.inr (.inl rfl)))
 |call c=>
  obtain⟨E,aX,ay⟩:=c;cases E with
  |value f=>
   cases f with
   |func k=>
    simp only;cases an.1 with
    |true=>exact .inr (.inr (.inl ⟨rfl,.inr (.inl ⟨_,aX,ay,rfl⟩)⟩))
    |false=>exact .inr (.inr (.inr (.inl rfl)))
   |_=>exact .inr (.inr (.inr (.inl rfl)))
  |_=>
   simp only;rcases @if23 (BD o.op) with⟨C,O⟩|⟨_,O⟩
   .rw[d] at C O;exact .inr (.inr (.inl ⟨O,.inl C⟩))
   .rw[d] at O;exact .inr (.inr (.inr (.inl O)))
 |_=>
  simp only;rcases @if23 (BD o.op) with⟨C,O⟩|⟨_,O⟩
  .rw[d] at C O;exact .inr (.inr (.inl ⟨O,.inl C⟩))
  .rw[d] at O;exact .inr (.inr (.inr (.inl O)))
theorem Mt:∀(l:List Oper) (k j:Nat) (o:Oper) (t:Tmp) (az:TypeId),l[j]? =some o->o.op= .alloc az->o.dst=some t->CK (Am k l) t≠none
 |[],_,_,_,_,_,h,_,_=>by simp at h
 |o0::l,k,j,o,t,az,h,ho,hd=>by
  cases j with
  |zero=>
   simp at h;subst h;unfold Am;rw[ho,hd];show (bif Nat.beq t t then some k else _)≠none;rw[Nat.beq_refl];exact fun h=>by cases h
  |succ j=>
   have d:=Mt l (k+1) j o t az (by simpa using h) ho hd;unfold Am;split
   .rename_i p _ _;show (bif Nat.beq p t then some k else CK (Am (k+1) l) t)≠none;cases Nat.beq p t with
    |true=>exact fun h=>by cases h
    |false=>exact d
   .exact d
theorem E1 {an:QC}(h:AP an D o=4):o.guard=none/\∃t,o.op= .alloc t:=by
 rcases Om (an:=an) D o with⟨C,_⟩|⟨C,_⟩|⟨C,_⟩|C|⟨_,O⟩
 iterate 4
  .omega
 .exact O
theorem Px {an:QC}:AP an D o=0\/AP an D o=1\/AP an D o=2\/AP an D o=3\/AP an D o=4:=by
 rcases Om (an:=an) D o with⟨C,_⟩|⟨C,_⟩|⟨C,_⟩|C|⟨C,_⟩<;>simp[C]
theorem dS {k:Nat}{m:Mem}{r:R}(h:EA k P aI (.alloc t) m g=some r):I8 P t m=some r:=
 match k,h with
 |0,h=>h
 |1,h=>nomatch h
 |_+2,h=>h
theorem Ot (p:o.guard=none)(y:o.op= .alloc t)(h:Bh P call ap Z ad s o=some aw):
  ∃l,I8 P t []=some (Sa l t [])/\aw.tmps=C8 s.tmps o.dst (.ptr s.mem.length 0)/\aw.mem=s.mem++[.cells l t]/\aw.g=s.g/\aw.gl=s.gl:=by
 unfold Bh DE at h;simp only[p,ABA,ABd] at h;split at h
 .cases h
 .rw[y] at h;simp only[ABA,AA7] at h;obtain⟨aO,d,h⟩:=h;cases h;replace d:I8 P t s.mem=some aO:=dS d;unfold I8 at d⊢;simp only[ABA,AA7] at d;obtain⟨i,Y,z,C,l,u,d⟩:=d;cases d;refine⟨l,?_,rfl,rfl,rfl,rfl⟩;simp only[Y,C,u,ABA,ABd]
variable {S:Nat->DS}{a3:Nat->Option Nat}{aH:World}{A:Nat->Nat}{q:Nat}{ak:Array Bool}{V ac:Nat->Option Nat}{a:Act}{w ab:World}
theorem sX {z:Array Bool}{M:Nat}(h:∀j E,Z[j]? =some E->AP an (Am 0 Z.toList) E=4->((z.getD j false=true/\M<=j)↔(ak.getD j false=true/\q<=j))):frO an T Z z M A=frO an T Z ak q A:=by
 funext b off;apply propext;constructor
 .rintro⟨C,O⟩;exact⟨C,fun⟨i,o,p,d,u,y,e⟩=>O ⟨i,o,p,d,((h i o p d).2 ⟨u,y⟩).1,((h i o p d).2 ⟨u,y⟩).2,e⟩⟩
 .rintro⟨C,O⟩;exact⟨C,fun⟨i,o,p,d,u,y,e⟩=>O ⟨i,o,p,d,((h i o p d).1 ⟨u,y⟩).1,((h i o p d).1 ⟨u,y⟩).2,e⟩⟩
variable{i:Nat}{o:Oper}
theorem Bz.plt (I:Bz an P T Z S a3 aH A q ak V a w)(u:Z[i]? =some o)(d:AP an (Am 0 Z.toList) o=4)(p:ak.getD i false=true)(y:q<=i):A i < w.heap.size:=by
 obtain⟨_,_,_,t,l,W,_,_,h,_⟩:=I.pend i o u d p y;grind
theorem AZ.get_set_self (s:AZ){d:Nat}(c:AC)(h:d < s.n):(s.set d c).get d=some c:=by
 unfold AZ.set;have p:Nat.blt d s.n=true:=Nat.ble_eq_true_of_le h;rw[p];show (match (bif Nat.beq d d then some c else BH s.loc d) with|some c=>some c|none=>_)=some c;rw[Nat.beq_refl];rfl
theorem Bz.act1 (H:Bu an a0 tg P T call ap Z ad S)(I:Bz an P T Z S a3 aH A q ak V a w)(Y:Z[q]? =some o)(hl:ak.getD q false=true\/AP an (Am 0 Z.toList) o=0)(X:AP an (Am 0 Z.toList) o≠3):
  ∃ ac,Bz an P T Z S a3 aH A (q+1) ak ac a w:=by
 have es:q < Z.size:=(ABF.1 Y).1;obtain⟨lq,_,lm⟩:=H.later q 1 (by omega);have cc:∀j o,j < q+1->Z[j]? =some o->ak.getD j false=true\/AP an (Am 0 Z.toList) o=0:=fun j oj hj E=>by
  rcases ABN j q with h|h
  .exact I.base j oj h E
  .have:j=q:=by omega
   subst this;rw[Y] at E;cases E;exact hl
 have ci:∀j o,Z[j]? =some o->AP an (Am 0 Z.toList) o=3->(ak.getD j false=true↔j < q+1):=fun j oj E cf=>by
  have cj:j≠q:=fun e=>by subst e;rw[Y] at E;cases E;exact X cf
  rw[I.mlist j oj E cf];omega
 by_cases p:AP an (Am 0 Z.toList) o=4
 .
  have b7:ak.getD q false=true:=hl.resolve_right (by omega);obtain⟨p1,p2,p3,t,l,W,p4,p5,p6,p7⟩:=I.pend q o Y p b7 (ABB _);obtain⟨R,hR,aa⟩:=H.step q o Y;obtain⟨aw,c,a1,a2,cx,d8,d9,a7,ee,cy,ej,-⟩:=Dl aa;replace a1:=Je a1 (.inl (by omega));obtain⟨d,hd,ce⟩:=cy p;obtain⟨hg,_⟩:=E1 p;obtain⟨l0,b1,b2,b3,b4,eo⟩:=Ot hg p4 a1;obtain⟨k,hk⟩:∃k,k=(S q).mem.length:=⟨_,rfl⟩;have z:(S (q+1)).mem=(S q).mem++[.cells l t]:=p5;have ca:(S q).mem.at k= .pad:=Mem.at_ge (by omega);obtain⟨ac,b0⟩:∃ ac, ac=CS V k (A q):=⟨_,rfl⟩;have bi: ac k=some (A q):=by rw[b0];exact Au _ _ _
  have bs:((S q).mem++[Blk.cells l t]).at k= .cells l t:=by rw[hk,AV,ACE rfl]
  have bt:∀id,id≠k->((S q).mem++[Blk.cells l t]).at id=(S q).mem.at id:=fun id e=>by rw[AV,ACD (by rw[<-hk];exact e)]
  have cb:∀id,(S q).mem.at id≠ .pad->((S q).mem++[Blk.cells l t]).at id=(S q).mem.at id/\ ac id= V id:=fun id hp=>by
   have e:id≠k:=fun e=>by rw[e] at hp;exact hp ca
   exact⟨bt id e,by rw[b0];exact As _ _ _ e⟩
  have b9:∀id,(S q).mem.at id= .pad->id≠k->((S q).mem++[Blk.cells l t]).at id= .pad:=fun id hp e=>by rw[bt id e];exact hp
  have c6:∀b,Pd an Z ak (q+1) A b->Pd an Z ak q A b:=fun b ⟨i,u,C,O,X,p,h5⟩=>⟨i,u,C,O,X,by omega,h5⟩;have hF:∀b off,frO an T Z ak q A b off->frO an T Z ak (q+1) A b off:=fun b off ⟨C,O⟩=>⟨C,fun h=>O (c6 b h)⟩;have chg:Chg T (frO an T Z ak q A) (frO an T Z ak (q+1) A) V ac (S q).mem ((S q).mem++[Blk.cells l t]) w:=by
   refine⟨cb,fun b off ⟨C,O,X⟩=>⟨C,hF b off O,fun id=>?_⟩⟩;by_cases e:id=k
   .subst e;rw[bs];show ac id≠some b;rw[bi];intro N;exact O.2 ⟨q,o,Y,p,b7,ABB _,Option.some.inj N⟩
   .by_cases hp:(S q).mem.at id= .pad
    .rw[b9 id hp e];trivial
    .obtain⟨e1,N⟩:=cb id hp;rw[e1,N];exact X id
  have de:AH (T.wf (frO an T Z ak (q+1) A)) (S q).g.n ac ((S q).mem++[Blk.cells l t]) w:=by
   refine AH.more I.mem chg ca b9 bi p2 ?_ (fun b off hb=>?_) fun id b _ _ h off=>hF b off (h off)
   .rw[bs];exact⟨A q,W,bi,p6,p7 _ _ _ _ _⟩
   .exact hF b off (I.mem.fr b off hb)
  refine⟨ac,⟨I.size,I.closed,by omega,cc,ci,?_,I.asize,?_,fun tt c hc b8=>?_,fun i u di bb a4 M bm a6 bo=>?_,I.gfacts,fun i u M bx a4 bo=>?_,fun i j u oj C O X p h5 h6 h7 h8=>I.inj i j u oj C O X p h5 h6 (by omega) (by omega),?_⟩⟩
  .rw[z];obtain⟨h0,Ds,C,O,X⟩:=I.defers;refine⟨h0,Ds,C,O,fun D hD=>?_⟩;obtain⟨p,h5,h6⟩:=X D hD;refine⟨p,h5,fun id ht e=>?_⟩;by_cases N:id=k
   .rw[N,bi] at e;cases e;rw[p6] at h5;cases h5
   .rw[bt id N] at ht;rw[b0,As _ _ _ N] at e;exact h6 id ht e
  .rw[z];exact de.mono lq.grow.n
  .rw[z];exact AA.chg chg _ _ (I.init tt c hc b8)
  .rw[z];by_cases e:i=q
   .subst e;rw[Y] at M;cases M;rw[hd] at bm;cases bm;have c8:c= .ptr (S i).mem.length 0:=by
     rw[cx d hd,b2,hd];show ((((S i).masked (BU 0 Z.toList) (okG (Ak Z.toList []) R i) R (At Z o)).tmps.set d (.ptr (S i).mem.length 0)).get d).getD .any=_;rw[AZ.get_set_self ((S i).masked (BU 0 Z.toList) (okG (Ak Z.toList []) R i) R (At Z o)).tmps _ ce];rfl
    have c9:bb= .ptr k 0:=by
     rw[a2] at a6;simp only[hd,C8] at a6;rw[AZ.get_set_self _ _ ce] at a6;cases a6;rw[c8,hk]
    rw[c9];exact⟨A i,bi,p3 d hd,by rw[bs];rfl⟩
   .exact AA.chg chg _ _ (I.facts i u di bb a4 M bm a6 fun h=>by have:=bo h;omega)
  .obtain⟨ax,aK,r3,t2,ah,d7,r4,r5,r6,r7⟩:=I.pend i u M bx a4 (by omega);refine⟨ax,fun id ht e=>?_,r3,t2,ah,d7,r4,r5,r6,r7⟩;rw[z] at ht;by_cases N:id=k
   .rw[N,bi] at e;have:=I.inj q i o u Y M p bx b7 a4 (ABB _) (by omega) (Option.some.inj e);omega
   .rw[bt id N] at ht;rw[b0,As _ _ _ N] at e;exact aK id ht e
  .rw[z];exact AI.more I.st cb ca b9 (by rw[bs];rfl) bi p1
 .have z:(S (q+1)).mem=(S q).mem:=lm fun j oj C O E=>by
   have:j=q:=by omega
   subst this;rw[Y] at E;cases E;have:=Px (an:=an) (D:=Am 0 Z.toList) (o:=o);omega
  have b5:frO an T Z ak (q+1) A=frO an T Z ak q A:=sX fun j oj E dd=>by
   have cj:j≠q:=fun e=>by subst e;rw[Y] at E;cases E;exact p dd
   constructor<;>(rintro⟨x,y⟩;exact⟨x,by omega⟩)
  refine⟨V,⟨I.size,I.closed,by omega,cc,ci,by rw[z];exact I.defers,I.asize,by rw[b5,z];exact I.mem.mono lq.grow.n,fun tt c hc b8=>by rw[b5,z];exact I.init tt c hc b8,fun i u di bb a4 M bm a6 bo=>?_,I.gfacts,fun i u M bx a4 bo=>?_,fun i j u oj C O X p h5 h6 h7 h8=>I.inj i j u oj C O X p h5 h6 (by omega) (by omega),by rw[z];exact I.st⟩⟩
  .rw[b5,z];refine I.facts i u di bb a4 M bm a6 fun h=>?_;have:=bo h;have cj:i≠q:=fun e=>by subst e;rw[Y] at M;cases M;exact p h
   omega
  .rw[z];exact I.pend i u M bx a4 (by omega)
theorem Bz.acts (H:Bu an a0 tg P T call ap Z ad S):∀(k:Nat) {q:Nat} {V :Nat->Option Nat},Bz an P T Z S a3 aH A q ak V a w->q+k<=Z.size->
  (∀j o,q<=j->j < q+k->Z[j]? =some o->(ak.getD j false=true\/AP an (Am 0 Z.toList) o=0)/\AP an (Am 0 Z.toList) o≠3)->∃ ac,Bz an P T Z S a3 aH A (q+k) ak ac a w
 |0,_, V,I,_,_=>⟨V,I⟩
 |k+1,q, V,I,hk,h=>by
  obtain⟨o,d⟩:=Bu.op (Z:=Z) (j:=q) (by omega);obtain⟨C,O⟩:=h q o (ABB _) (by omega) d;obtain⟨M,p⟩:=I.act1 H d C O;have:=Bz.acts H k p (by omega) fun j y z E u=>h j y (by omega) (by omega) u;rw[show q+1+k=q+(k+1) by omega] at this;exact this
theorem Bz.reach (H:Bu an a0 tg P T call ap Z ad S)(I:Bz an P T Z S a3 aH A q ak V a w){R:Nat}(M:Z[i]? =some o)(W:(Ak Z.toList [])[i]? =some R)(E:∀j,R.testBit j=true->ak.getD j false=true)(O:AP an (Am 0 Z.toList) o≠0)(y:AP an (Am 0 Z.toList) o≠4)(hq:q<=i):
  ∀k,k<=i->∃z ac,Bz an P T Z S a3 aH A z ak ac a w/\q<=z/\z<=i/\∀j d,j < k->Z[j]? =some d->AP an (Am 0 Z.toList) d=4->R.testBit j=true->j < z
 |0,_=>⟨q, V,I,ABB _,hq,fun j d h=>by omega⟩
 |k+1,hk=>by
  obtain⟨u, bm,C,bb,bi,hc⟩:=I.reach H M W E O y hq k (by omega);have bo:i < Z.size:=(ABF.1 M).1;obtain⟨ok,a1⟩:=Bu.op (Z:=Z) (j:=k) (by omega);by_cases hx:AP an (Am 0 Z.toList) ok=4/\R.testBit k=true/\u<=k
  .obtain⟨x1,aZ,x3⟩:=hx;have hw:=H.wide i o R M W O y k ok a1 (by omega) x1 aZ;obtain⟨aV,N⟩:=Bz.acts H (k+1 - u) C (by omega) fun j d bs bt p=>by
    have ax:ak.getD j false=true\/AP an (Am 0 Z.toList) d=0:=by
     by_cases e:j=k
     .subst e;exact .inl (E j aZ)
     .exact (hw j d p (by omega)).imp (E j) (fun h=>h)
    refine⟨ax,fun h3=>?_⟩;rcases ax with h|h
    .have:=(C.mlist j d p h3).1 h;omega
    .omega
   rw[show u+(k+1 - u)=k+1 by omega] at N;exact⟨k+1, aV,N,by omega,by omega,fun j d Y _ _ _=>Y⟩
  .refine⟨u, bm,C,bb,bi,fun j d Y p y X=>?_⟩;by_cases e:j=k
   .subst e;rw[a1] at p;cases p;rcases ABN j u with h|h
    .exact h
    .exact absurd ⟨y,X,h⟩ hx
   .exact hc j d (by omega) p y X
end
section
variable {an:QC}{a0:Bool}{tg:List Tmp}{P:Program}{T:Tab}{call:A7}{ap:Ys}{r:Option Nat}{ao:Nat}{Z:Array Oper}{ad:PC}
variable {S:Nat->DS}{a3:Nat->Option Nat}{aH:World}{A:Nat->Nat}{q:Nat}{ak:Array Bool}{V ac:Nat->Option Nat}{a:Act}{w ab:World}
variable{i:Nat}{o:Oper}{v:Value}{ag:Mem}
theorem Bz.next (H:Bu an a0 tg P T call ap Z ad S)(I:Bz an P T Z S a3 aH A q ak V a w)(ho:Z[i]? =some o)(cy:ak.getD i false=false)
  (cs:∀e∈o.after,Region.binds .any e=true->ak.getD e.on false=true) {M:Nat}  (cl:M<=Z.size) (b5:AP an (Am 0 Z.toList) o≠4)
  (bb:∀j u,Z[j]? =some u->AP an (Am 0 Z.toList) u=4->ak.getD j false=true->(j < M↔j < q)) {n0:Nat} (ai:AI T n0 V (S q).mem w ac (S M).mem ab) (cu:AI T (S 0).g.n a3 (S 0).mem aH ac (S M).mem ab)
  (st0:∀c z,AA (T.wf (frO an T Z ak q A)) (S 0).g.n V (S q).mem w c z->AA (T.wf (frO an T Z ak q A)) (S 0).g.n ac (S M).mem ab c z)
  (st:∀j u d c z,ak.getD j false=true->Z[j]? =some u->u.dst=some d->(S (j+1)).tmps.get d=some c->AA (T.wf (frO an T Z ak q A)) (S (j+1)).g.n V (S q).mem w c z->AA (T.wf (frO an T Z ak q A)) (S (j+1)).g.n ac (S M).mem ab c z) (ch:AH (T.wf (frO an T Z ak q A)) (S M).g.n ac (S M).mem ab) (cv:(a.put o.dst v).tmps.size=(S 0).tmps.n)
  (cc:D7 T.base ac (S M).mem ab (a.put o.dst v).defers)
  (cb:∀j o',j < M->Z[j]? =some o'->(ak.setIfInBounds i true).getD j false=true\/AP an (Am 0 Z.toList) o'=0)
  (ci:∀j o',Z[j]? =some o'->AP an (Am 0 Z.toList) o'=3->((ak.setIfInBounds i true).getD j false=true↔j < M))
  (c0:∀d aN,o.dst=some d->(S (i+1)).tmps.get d=some aN->AA (T.wf (frO an T Z ak q A)) (S (i+1)).g.n ac (S M).mem ab aN ((a.put o.dst v).tmps.getD d undef))
  (ce:∀p∈(S Z.size).gls,p.1=i->Ga T Z (S (i+1)).g.n (a.put o.dst v) p.2/\ak.getD p.2.j false=true):
  Bz an P T Z S a3 aH A M (ak.setIfInBounds i true) ac (a.put o.dst v) ab:=by
 have ax:i < ak.size:=by rw[I.size];exact (ABF.1 ho).1
 have N:∀j u,Z[j]? =some u->AP an (Am 0 Z.toList) u=4->(ak.setIfInBounds i true).getD j false=true->ak.getD j false=true/\j≠i:=fun j u E X hl=>by
  have Y:j≠i:=fun e=>by subst e;rw[ho] at E;cases E;exact b5 X
  rw[Ay _ _ _ ax,ACD Y] at hl;exact⟨hl,Y⟩
 have bx:frO an T Z (ak.setIfInBounds i true) M A=frO an T Z ak q A:=sX fun j u E X=>by
  have Y:j≠i:=fun e=>by subst e;rw[ho] at E;cases E;exact b5 X
  rw[Ay _ _ _ ax,ACD Y];constructor
  iterate 2
   .rintro⟨x,y⟩;have:=bb j u E X x;exact⟨x,by omega⟩
 refine⟨by simp[I.size],?_,cl,cb,ci,cc,cv,by rw[bx];exact ch,?_,?_,?_,?_,?_,cu⟩
 .
  intro j u E N e he hb;rw[Ay _ _ _ ax] at N⊢;split
  .rfl
  .split at N
   .rename_i a2;subst a2;rw[ho] at E;cases E;exact cs e he hb
   .exact I.closed j u E N e he hb
 .
  intro t aN hc b8;rw[bx];have Y:o.dst≠some t:=fun hd=>by
   have:=b8 i o ho hd;rw[Ay _ _ _ ax,ACE rfl] at this;cases this
  rw[E8 Y];refine st0 _ _ (I.init t aN hc fun j u E hd=>?_);have:=b8 j u E hd;rw[Ay _ _ _ ax] at this;split at this
  .cases this
  .exact this
 .
  intro j u d aN N E hd hc b6;rw[bx];rw[Ay _ _ _ ax] at N;split at N
  .rename_i a2;subst a2;rw[ho] at E;cases E;exact c0 d aN hd hc
  .rename_i a2;have Y:o.dst≠some d:=fun bt=>a2 (Du H.nodup E ho hd bt);rw[E8 Y];exact st j u d aN _ N E hd hc (I.facts j u d aN N E hd hc fun h4=>(bb j u E h4 N).1 (b6 h4))
 .
  intro p hp b0;rw[Ay _ _ _ ax] at b0;split at b0
  .rename_i b2;obtain⟨C,O⟩:=ce p hp b2;refine⟨by rw[b2];exact C,?_⟩;rw[Ay _ _ _ ax];split
   .rfl
   .exact O
  .rename_i b2;obtain⟨q1,q2⟩:=I.gfacts p hp b0;have a2:p.2.j≠i:=fun e=>by rw[e,cy] at q2;cases q2
   refine⟨⟨q1.lt,q1.bool,?_,q1.imp,q1.ne⟩,by rw[Ay _ _ _ ax,ACD a2];exact q2⟩;have hy:yielded Z (a.put o.dst v).tmps p.2.j=yielded Z a.tmps p.2.j:=by
    cases hd:o.dst with
    |none=>rfl
    |some d=>
     refine K7 ?_ v;intro he;cases b1:Z[p.2.j]? with
     |none=>rw[b1] at he;cases he
     |some op=>
      rw[b1] at he;exact a2 (Du H.nodup b1 ho he hd)
   rw[hy];exact q1.iff
 .
  intro j u E X hl b6;obtain⟨hl,Y⟩:=N j u E X hl;have b7:q<=j:=by have:=bb j u E X hl;omega
  have cf:=I.plt E X hl b7;obtain⟨p1,p2,p3,t,l,W,p4,p5,p6,p7⟩:=I.pend j u E X hl b7;refine⟨p1,fun id ht e=>?_,fun d hd=>?_,t,l,W,p4,p5,by rw[ai.old (A j) cf p2];exact p6,p7⟩
  .rcases ai.back ht e with h|⟨C,O⟩
   .omega
   .exact p2 id C O
  .have cj:o.dst≠some d:=fun bt=>Y (Du H.nodup E ho hd bt);rw[E8 cj];exact p3 d hd
 .intro j k u ok C O h3 h4 h5 h6 h7 h8;obtain⟨h5,_⟩:=N j u C h3 h5;obtain⟨h6,_⟩:=N k ok O h4 h6;have:=bb j u C h3 h5;have:=bb k ok O h4 h6;exact I.inj j k u ok C O h3 h4 h5 h6 (by omega) (by omega)
theorem To:∀{m ag:Mem},Bj m ag=true->∀id x y ks e,m.at id= .mrow x y ks e->∃L af,ag.at id= .mrow L y af e/\af.length=ks.length
 |[],_,_,id,x,y,ks,e,h=>by simp[Mem.at] at h
 |b::m,ag,hh,id,x,y,ks,e,h=>by
  cases id with
  |zero=>
   have p:b= .mrow x y ks e:=by simpa [Mem.at] using h
   subst p;cases ag with
   |nil=>simp[Bj] at hh
   |cons u ag=>
    simp only[Bj,AA8] at hh;have d:=hh.1;split at d
    .simp only[AA8] at d;obtain⟨⟨C,O⟩,z⟩:=d;rw[AA9 C,AA9 z];exact⟨_,_,rfl,(AA9 O).symm⟩
    .cases d
  |succ id=>
   have p:Mem.at m id= .mrow x y ks e:=by simpa [Mem.at] using h
   have E:Bj m ag.tail=true:=by
    cases b with
    |tok=>
     cases ag with
     |nil=>simp[Bj] at hh
     |cons u ag=>simp only[Bj,AA8] at hh;exact hh.2
    |mrow=>
     cases ag with
     |nil=>simp[Bj] at hh
     |cons u ag=>simp only[Bj,AA8] at hh;exact hh.2
    |_=>simpa [Bj] using hh
   obtain⟨L,af,C,O⟩:=To E id x y ks e p;refine⟨L,af,?_,O⟩;rw[<-C];cases ag<;>simp[Mem.at]
theorem AI.any {n:Nat}{m:Mem}(h:AI T n V m w ac ag ab)(M:AH T n V m w)(z:∀id x ks e,m.at id= .tok x ks e->ag.at id= .tok x ks e)(X:∀id x y ks e,m.at id= .mrow x y ks e->∃L af,ag.at id= .mrow L y af e/\af.length=ks.length)(aj:Nat):AI T aj V m w ac ag ab:=
 ⟨h.os,h.tape,h.output,h.size,h.mlen,h.rho,h.untr,h.fresh,h.old,fun id x ks e d=>by
  rcases h.tok id x ks e d with C|⟨_,O|⟨L,af,e',O,u,_⟩⟩
  .exact .inl C
  .rw[z id x ks e d] at O;cases O
  .rw[z id x ks e d] at O;injection O with p W
   have:=M.tok_lt d;omega,
  fun id x y ks e d=>by
  obtain⟨aZ,ax,N,E⟩:=X id x y ks e d;rcases h.row id x y ks e d with O|⟨L,aF,af,O,u,p|⟨p,_⟩⟩
  .rw[N] at O;cases O
  .exact .inr ⟨L,aF,af,O,u,.inl p⟩
  .rw[N] at O;injection O with W Y
   have:=(M.row_lt d).2;omega⟩
theorem Bz.own (H:Bu an a0 tg P T call ap Z ad S)(I:Bz an P T Z S a3 aH A q ak V a w)(z:Z[i]? =some o)(a2:ak.getD i false=false){c aN:AC}{d:Tmp}(hd:o.dst=some d)
   (C:(S (i+1)).tmps=C8 (S i).tmps o.dst c) (O:(S i).g.n<=(S (i+1)).g.n) (st:AI (T.wf (frO an T Z ak q A)) (S i).g.n V (S q).mem w ac ag ab) (u:AA (T.wf (frO an T Z ak q A)) (S (i+1)).g.n ac ag ab c ((a.put o.dst v).tmps.getD d undef))
  (p:(S (i+1)).tmps.get d=some aN):AA (T.wf (frO an T Z ak q A)) (S (i+1)).g.n ac ag ab aN ((a.put o.dst v).tmps.getD d undef):=by
 have a6:i < Z.size:=(ABF.1 z).1;obtain⟨X,_,_⟩:=H.later 0 i (by omega);rw[ABJ] at X;rw[C] at p;simp only[hd,C8] at p;rcases AZ.get_set _ _ _ _ p with⟨_,_,E⟩|⟨N,ax⟩
 .rw[E];exact u
 .
  have W:=N rfl;have y:¬d < a.tmps.size:=by rw[I.asize,<-X.len];exact W
  have u:=I.val H (by omega) ax fun i' o' Y M=>by
   have:=Du H.nodup z Y hd M;subst this;exact .inr ⟨a2,ABB _⟩
  have a1:(a.put o.dst v).tmps.getD d undef=a.tmps.getD d undef:=by
   rw[hd];simp only[Act.put,ABG,ABz,if_true,ACD y];rw[Array.getElem?_eq_none (Nat.le_of_not_lt y)]
  rw[a1];exact AA.mono0 st O _ _ u
end
section
variable {an:QC}{a0:Bool}{tg:List Tmp}{P:Program}{T:Tab}{call:A7}{ap:Ys}{r:Option Nat}{ao:Nat}{Z:Array Oper}{ad:PC}
variable {S:Nat->DS}{a3:Nat->Option Nat}{aH:World}{A:Nat->Nat}{q:Nat}{ak:Array Bool}{V ac:Nat->Option Nat}{a:Act}{w ab:World}
variable{F:Nat->Nat->Prop}{g:G}
theorem Agr.wf (h:Agr T g):Agr (T.wf F) g:=⟨h.eqs,h.lps⟩
theorem Ar.wf (h:Ar T g):Ar (T.wf F) g:=h
theorem BN.wf {ad:PC}(h:BN T g ad):BN (T.wf F) g ad:=h
theorem NE {ad:PC}(h:pcv T ad):pcv (T.wf F) ad:=h
theorem Bz.early (H:Bu an a0 tg P T call ap Z ad S)(I:Bz an P T Z S a3 aH A q ak V a w)(d0:AH T (S 0).g.n a3 (S 0).mem aH){i:Nat}{o:Oper}(ho:Z[i]? =some o)
  (cb:ak.getD i false=false) (d3:∀e∈o.after,Region.binds .any e=true->ak.getD e.on false=true) (h4:AP an (Am 0 Z.toList) o=4) {K:Act->World->Prop} {Q:Exit->Act->World->Prop}
  (hK:∀A' q' ac v ab,Bz an P T Z S a3 aH A' q' (ak.setIfInBounds i true) ac (a.put o.dst v) ab->(∃ob,ab=w.alloc ob)->K (a.put o.dst v) ab):EL P r ao Z o a w K Q:=by
 have dm:i < Z.size:=(ABF.1 ho).1;have b7:i < ak.size:=by rw[I.size];exact dm
 obtain⟨hg,t,ht⟩:=E1 h4;obtain⟨R,hR,aa⟩:=H.step i o ho;obtain⟨aw,c,a1,a2,eo,eq,er,a7,es,c1,ev,-⟩:=Dl aa;replace a1:=Je a1 (.inl (by omega));obtain⟨d,hd,dk⟩:=c1 h4;obtain⟨l,c2,ey,b3,b4,b5⟩:=Ot hg ht a1;obtain⟨W,ax,c0⟩:=sc (P:=P) (a:=a) c2 ht;obtain⟨ae,d1,aK⟩:∃ae,(S (i+1)).mem=(S i).mem++[.cells ae t]/\∀(T:Tab) (n:Nat) (V :Nat->Option Nat) (m:Mem) (w:World),AF T n V m w ae W:=by
  have e:(S (i+1)).mem=Sy tg o.dst (S i).mem aw.mem:=by rw[a2,h4];rfl
  rw[e,b3];have e2:((S i).masked (BU 0 Z.toList) (okG (Ak Z.toList []) R i) R (At Z o)).mem=(S i).mem:=rfl;rw[e2];unfold Sy;cases hb:isTg tg o.dst with
  |true=>
   rw[ACE rfl];refine⟨l.map fun _=> .any,?_,fun T n V m w=>AF.of_get ?_ fun j c u C O=>?_⟩
   .rw[List.drop_left];rfl
   .have:=(c0 T n V m w).length;simp[this]
   .simp only[ABg,ABU] at C;obtain⟨_,_,rfl⟩:=C;trivial
  |false=>
   rw[ACD (by decide)];exact⟨l,rfl,c0⟩
 obtain⟨X,_,_⟩:=H.later 0 i (by omega);rw[ABJ] at X;have hq:q<=i:=by
  rcases ABN i q with h|h
  .rcases I.base i o h ho with C|C
   .rw[cb] at C;cases C
   .omega
  .exact h
 unfold EL;rw[ACE (by unfold Region.wanted;rw[hg])];refine J2 (by rw[ht];exact fun c h=>by cases h) ?_;rw[ax w];show K (a.put o.dst (.pointer (some ⟨w.heap.size,0,none⟩))) (w.alloc (.cells W.toArray t));obtain⟨A',ch⟩:∃A':Nat->Nat,A'=fun j=>if j=i then w.heap.size else A j:=⟨_,rfl⟩
 have b0:A' i=w.heap.size:=by rw[ch];simp
 have bm:∀j,j≠i->A' j=A j:=fun j h=>by rw[ch];simp[h]
 have a4:∀j,(ak.setIfInBounds i true).getD j false=true↔(j=i\/ak.getD j false=true):=fun j=>by
  rw[Ay _ _ _ b7];split
  iterate 2
   .rename_i e;simp[e]
 have db:∀b,Pd an Z (ak.setIfInBounds i true) q A' b↔(b=w.heap.size\/Pd an Z ak q A b):=fun b=>by
  constructor
  .rintro⟨j,y,Y,N,q3,q4,q5⟩;by_cases e:j=i
   .subst e;left;rw[<-q5,b0]
   .right;exact⟨j,y,Y,N,((a4 j).1 q3).resolve_left e,q4,by rw[<-bm j e];exact q5⟩
  .rintro (h|⟨j,y,Y,N,q3,q4,q5⟩)
   .exact⟨i,o,ho,h4,(a4 i).2 (.inl rfl),hq,by rw[b0,h]⟩
   .have e:j≠i:=fun e=>by subst e;rw[cb] at q3;cases q3
    exact⟨j,y,Y,N,(a4 j).2 (.inr q3),q4,by rw[bm j e];exact q5⟩
 have hF:∀b off,b≠w.heap.size->frO an T Z ak q A b off->frO an T Z (ak.setIfInBounds i true) q A' b off:=fun b off hb ⟨C,O⟩=>⟨C,fun h=>((db b).1 h).elim hb O⟩;have chg:Chg T (frO an T Z ak q A) (frO an T Z (ak.setIfInBounds i true) q A') V V (S q).mem (S q).mem w:=
  ⟨fun _ _=>⟨rfl,rfl⟩,fun b off ⟨C,O,h3⟩=>⟨C,hF b off (by omega) O,h3⟩⟩
 have ar:∀n,AI T n V (S q).mem w V (S q).mem (w.alloc (.cells W.toArray t)):=fun n=>(AI.wf (F:=frO an T Z ak q A) (a6:=T.fr) (RJ I.mem (.cells W.toArray t) n):_);have c7:∀n,AI (T.wf (frO an T Z (ak.setIfInBounds i true) q A')) n V (S q).mem w V (S q).mem (w.alloc (.cells W.toArray t)):=fun n=>AI.wf (F:=frO an T Z ak q A) (RJ I.mem (.cells W.toArray t) n);have b8:∀j y,Z[j]? =some y->AP an (Am 0 Z.toList) y=4->ak.getD j false=true->q<=j->A j < w.heap.size:=fun j y Y N q3 q4=>I.plt Y N q3 q4;have move:∀{n:Nat} {c:AC} {z:Value},AA (T.wf (frO an T Z ak q A)) n V (S q).mem w c z->AA (T.wf (frO an T Z (ak.setIfInBounds i true) q A')) n V (S q).mem (w.alloc (.cells W.toArray t)) c z:=fun {n c z} h=>
  AA.mono0 (c7 n) (ABB _) c z (AA.chg chg c z h)
 refine hK A' q V _ _ ⟨by simp[I.size],?_,I.qle,fun j y hj E=>?_,fun j y E ds=>?_,?_,by rw[<-I.asize];cases o.dst<;>simp[Act.put],?_,?_,?_,?_,?_,?_,I.st.trans d0 (ABB _) (ar _)⟩ ⟨_,rfl⟩
 .intro j y E M e he hb;rw[a4] at M⊢;rcases M with M|M
  .subst M;rw[ho] at E;cases E;exact .inr (d3 e he hb)
  .exact .inr (I.closed j y E M e he hb)
 .rw[a4];exact (I.base j y hj E).imp .inr (fun h=>h)
 .have e:j≠i:=fun e=>by subst e;rw[ho] at E;cases E;omega
  rw[a4,or_iff_right e];exact I.mlist j y E ds
 .have:=I.defers.on (ar (S q).g.n);cases o.dst<;>exact this
 .exact sW I.mem _ chg (fun b off hb=>hF b off (by omega) (I.mem.fr b off (by omega))) fun id b hx hb h off=>hF b off (by have:=I.mem.lt hx hb;omega) (h off)
 .intro tt cc hc cu;have b2:o.dst≠some tt:=fun hd=>by
   have:=cu i o ho hd;rw[Ay _ _ _ b7,ACE rfl] at this;cases this
  rw[E8 b2];refine move (I.init tt cc hc fun j y E hd=>?_);have:=cu j y E hd;rw[Ay _ _ _ b7] at this;split at this
  .cases this
  .exact this
 .intro j y dj cj M E ci de b1;rw[a4] at M;have e:j≠i:=fun e=>by subst e;rw[ho] at E;cases E;have:=b1 h4;omega
  have b2:o.dst≠some dj:=fun bo=>e (Du H.nodup E ho ci bo);rw[E8 b2];exact move (I.facts j y dj cj (M.resolve_left e) E ci de b1)
 .intro p hp cs;rw[a4] at cs;obtain⟨_,N⟩:=H.gls Z.size (ABB _) p hp;have ca:p.1≠i:=fun ca=>by
   rw[ca,a2] at N;rcases ABm.1 N with C|C
   .unfold HB at C;rw[b5] at C;simp[DS.masked] at C
   .have:=(H.gls i (by omega) p C).1;omega
  obtain⟨Y,N⟩:=I.gfacts p hp (cs.resolve_left ca);have dv:p.2.j≠i:=fun e=>by rw[e,cb] at N;cases N
  refine⟨⟨Y.lt,Y.bool,?_,Y.imp,Y.ne⟩,by rw[a4];exact .inr N⟩;have hy:yielded Z (a.put o.dst (.pointer (some ⟨w.heap.size,0,none⟩))).tmps p.2.j=yielded Z a.tmps p.2.j:=by
   rw[hd];refine K7 ?_ _;intro he;cases b9:Z[p.2.j]? with
   |none=>rw[b9] at he;cases he
   |some op=>
    rw[b9] at he;exact dv (Du H.nodup b9 ho he hd)
  rw[hy];exact Y.iff
 .intro j y E cl M b1;rw[a4] at M;by_cases e:j=i
  .subst e;rw[ho] at E;cases E;rw[b0];refine⟨I.st.size,fun id ht e=>?_,fun d' bo=>?_,t,ae,W,ht,d1,C2 _ _,aK⟩
   .have:=I.mem.lt ht e;omega
   .rw[hd] at bo;cases bo;rw[hd];simp only[Act.put,ABG];rw[ABz,ACE rfl,ACE (by rw[I.asize,<-X.len];exact dk)];rfl
  .have M:=M.resolve_left e;obtain⟨p1,p2,p3,t2,ah,en,p4,p5,p6,p7⟩:=I.pend j y E cl M b1;rw[bm j e];refine⟨p1,p2,fun d' bo=>?_,t2,ah,en,p4,p5,by rw[BJ _ _ _ (b8 j y E cl M b1)];exact p6,p7⟩;have b2:o.dst≠some d':=fun di=>e (Du H.nodup E ho bo di);rw[E8 b2];exact p3 d' bo
 .intro j k y ok Y N q3 q4 q5 q6 q7 q8 q9;rw[a4] at q5 q6;by_cases e:j=i<;>by_cases e2:k=i
  .rw[e,e2]
  .rw[e,b0,bm k e2] at q9;have:=b8 k ok N q4 (q6.resolve_left e2) q8;omega
  .rw[e2,b0,bm j e] at q9;have:=b8 j y Y q3 (q5.resolve_left e) q7;omega
  .rw[bm j e,bm k e2] at q9;exact I.inj j k y ok Y N q3 q4 (q5.resolve_left e) (q6.resolve_left e2) q7 q8 q9
end
section
variable {an:QC}{a0:Bool}{tg:List Tmp}{P:Program}{T:Tab}{call:A7}{ap:Ys}{r:Option Nat}{ao:Nat}{Z:Array Oper}{ad:PC}
variable {S:Nat->DS}{a3:Nat->Option Nat}{aH:World}{A:Nat->Nat}{q:Nat}{ak:Array Bool}{V ac:Nat->Option Nat}{a:Act}{w ab:World}
variable{D:List (Tmp × Nat)}{o:Oper}{i:Nat}{K:Act->World->Prop}{Q:Exit->Act->World->Prop}
theorem PP {an:QC}(h:U2 an D o=3):AP an D o=3\/(AP an D o=2/\BD o.op=false):=by
 unfold U2 at h;split at h
 .rename_i d;rw[AA8] at d;exact .inr ⟨AA9 d.1,by simpa using d.2⟩
 .exact .inl h
theorem pD {an:QC}(h:BD o.op=false)(O:AP an D o=2):U2 an D o=3:=by
 unfold U2;rw[h,O];rfl
theorem Bz.comesw (H:Bu an a0 tg P T call ap Z ad S)(hA:Agr T (S Z.size).g)(ge:Ar T (S Z.size).g)(c9:pcv T ad)(d3:BN T (S 0).g ad)(d1:AH T (S 0).g.n a3 (S 0).mem aH)(I0:Bz an P T Z S a3 aH A q ak V a w)(ho:Z[i]? =some o)
  (bb:ak.getD i false=false) (c5:∀e∈o.after,Region.binds .any e=true->ak.getD e.on false=true)  
  (hK:∀A' q' ac v ab,Bz an P T Z S a3 aH A' q' (ak.setIfInBounds i true) ac (a.put o.dst v) ab->(U2 an (Am 0 Z.toList) o≠3->ab=w\/∃ob,ab=w.alloc ob)->(U2 an (Am 0 Z.toList) o=3->∀(k:Nat) (ok:Oper),Z[k]? =some ok->AP an (Am 0 Z.toList) ok=4->ak.getD k false=true->i<=k->ab.heap[A k]? =w.heap[A k]?)->K (a.put o.dst v) ab):EL P r ao Z o a w K Q:=by
 have c3:i < Z.size:=(ABF.1 ho).1;have b4:i < ak.size:=by rw[I0.size];exact c3
 obtain⟨R,hR,aa⟩:=H.step i o ho;obtain⟨aw,c,Y,es,dm,gs,d6,a7,et,i7,fd,hB⟩:=Dl aa;have b3:=D3 I0.closed hR ho c5;have g9:=FP _ 0 H.masks i R hR;obtain⟨X,_,_⟩:=H.later 0 i (by omega);rw[ABJ] at X;obtain⟨ah,_,_⟩:=H.later (i+1) (Z.size - (i+1)) (by omega);rw[show i+1+(Z.size - (i+1))=Z.size by omega] at ah;have hg:(S (i+1)).g=aw.g:=by rw[es]
 have d4:(S (i+1)).tmps=C8 (S i).tmps o.dst c:=by rw[es]
 have d2:(S i).g.n<=(S (i+1)).g.n:=by
  obtain⟨l,_,_⟩:=H.later i 1 (by omega);exact l.grow.n
 have d8:Agr T aw.g:=by rw[<-hg];exact hA.of ah.grow
 have ej:Ar T aw.g:=by rw[<-hg];exact ge.of ah.grow
 have dv:∀{a':Act},(∀e∈HB aw (Hr R (S i).gls).length,Ga T Z (S (i+1)).g.n a' e)->∀p∈(S Z.size).gls,p.1=i->Ga T Z (S (i+1)).g.n a' p.2/\ak.getD p.2.j false=true:=by
  intro a' h6 p hp iz;obtain⟨_,q2⟩:=H.gls Z.size (ABB _) p hp;rw[iz,es] at q2;rcases ABm.1 q2 with C|C
  .obtain⟨e,W,rfl⟩:=ACI.1 C;obtain⟨u1,u2⟩:=et e W;exact⟨h6 e W,b3 e.j u2⟩
  .have:=(H.gls i (by omega) p C).1;omega
 have e4:=H.ord i o R ho hR;rcases Om (an:=an) (Am 0 Z.toList) o with⟨k0,kg,⟨x,kx,gm⟩|hP|hL⟩|hq
 .
  have I:=I0;obtain⟨lq,_,_⟩:=H.later 0 q (by have:=I.qle;omega);rw[ABJ] at lq;replace Y:=Je Y (.inl (by omega));obtain⟨e1,e2,fr,fs⟩:=oy kg kx Y;obtain⟨M,g0,d9,cl,g1⟩:∃M,M<=Z.size/\(S i).g.n<=(S M).g.n/\(S q).g.n<=(S M).g.n/\(S 0).g.n<=(S M).g.n:=by
   rcases Nat.le_total q i with h|h
   .obtain⟨l,_,_⟩:=H.later q (i - q) (by omega);rw[show q+(i - q)=i by omega] at l;exact⟨i,by omega,ABB _,l.grow.n,X.grow.n⟩
   .have:=I.qle;obtain⟨l,_,_⟩:=H.later i (q - i) (by omega);rw[show i+(q - i)=q by omega] at l;exact⟨q,by omega,l.grow.n,ABB _,lq.grow.n⟩
  obtain⟨lM,_,_⟩:=H.later M (Z.size - M) (by omega);rw[show M+(Z.size - M)=Z.size by omega] at lM;obtain⟨di,_,_⟩:=H.later 0 M (by omega);rw[ABJ] at di;have em:∀t∈At Z o,x= .tmp t:=by
   intro t ht;unfold At at ht;rw[kg] at ht;simp only[ABx,List.mem_filterMap] at ht;obtain⟨y,hy,eq⟩:=ht;have gk:y=x:=by
    rcases kx with h|h|⟨k,h⟩<;>(rw[h] at hy;simpa [Op.operands] using hy)
   subst gk;cases y<;>simp at eq;rw[eq]
  have b9:=I.masked (Bt:=At Z o) (g:=(S M).g) H c3 bb hR b3 (fun t j u ht a2 hd b5 _=>by
   obtain⟨_,az,d5⟩:=E1 b5;exact absurd (gm t (em t ht)) (Mt Z.toList 0 j u t az (by simpa using a2) d5 hd)) d9 cl
  obtain⟨c6,b2⟩:=Ix (T:=T.wf (frO an T Z ak q A)) (r:=r) (ao:=ao) (H.call _) H.ys (fs (S q).mem (S M).g);refine b2 (Agr.wf (hA.of lM.grow)) (Ar.wf (ge.of lM.grow)) (NE c9) (BN.wf (d3.grow di.grow)) V a w K Q b9 fun ac v ab ax aK r3=>?_;have bk:AI (T.wf (frO an T Z ak q A)) (S M).g.n V (S q).mem w ac (S q).mem ab:=aK;have dj:AH (T.wf (frO an T Z ak q A)) (S M).g.n ac (S q).mem ab:=ax.rel.mem;obtain⟨f1,f2⟩:=(bk.down cl).forget I.mem dj (fun _ _=>rfl);have db:=bk.same (I.mem.mono cl) (fun _ _=>rfl);have st:=AI.any f1 I.mem (fun _ _ _ _ h=>h) (fun _ _ _ ks _ h=>⟨_,ks,h,rfl⟩);have b1:AI T (S 0).g.n V (S q).mem w V (S q).mem ab:=(AI.wf (F:=frO an T Z ak q A) (a6:=T.fr) (st (S 0).g.n):_);refine hK A q V v ab (I.next H ho bb c5 I.qle (by omega) (fun _ _ _ _ _=>Iff.rfl) b1 (I.st.trans d1 (ABB _) b1) (fun c z=>AA.mono0 (st _) (ABB _) c z) (fun j u d c z _ _ _ _=>AA.mono0 (st _) (ABB _) c z) f2 ?_ ?_ ?_ ?_ ?_ (dv ?_)) (fun _=> .inl (r3 (by rcases kx with h|h|⟨k,h⟩<;>(rw[h];rfl)))) (fun h=>by rcases PP h with h|⟨h,_⟩<;>omega)
  .rw[<-I.asize];cases o.dst<;>simp[Act.put]
  .have:=I.defers.on f1;cases o.dst<;>exact this
  .intro j o' hj N;rw[Ay _ _ _ b4];split
   .exact .inl rfl
   .exact I.base j o' hj N
  .intro j o' N h3;rw[Ay _ _ _ b4];have bs:j≠i:=fun e=>by subst e;rw[ho] at N;cases N;omega
   rw[ACD bs];exact I.mlist j o' N h3
  .intro d aN hd hc;have hv:AA (T.wf (frO an T Z ak q A)) (S M).g.n ac (S q).mem ab c ((a.put o.dst v).tmps.getD d undef):=by
    have:=ax.rel.at d;rw[dm d hd];exact this
   have cv:=AA.backF db _ _ (.inr fun id h=>h) hv;have en:=AC.nlt_ok _ _ (d6 k0).1 cv;rw[<-hg] at en;exact I.own H ho bb hd d4 d2 (st _) en hc
  .intro e W;unfold HB at W;rw[fr] at W;simp[DS.masked] at W
 .
  obtain⟨gv,bt,x,y,yt,ee,hV,hW⟩:=hP;have I:=I0;obtain⟨lq,_,_⟩:=H.later 0 q (by have:=I.qle;omega);rw[ABJ] at lq;obtain⟨M,g0,d9,cl,g1⟩:∃M,M<=Z.size/\(S i).g.n<=(S M).g.n/\(S q).g.n<=(S M).g.n/\(S 0).g.n<=(S M).g.n:=by
   rcases Nat.le_total q i with h|h
   .obtain⟨l,_,_⟩:=H.later q (i - q) (by omega);rw[show q+(i - q)=i by omega] at l;exact⟨i,by omega,ABB _,l.grow.n,X.grow.n⟩
   .have:=I.qle;obtain⟨l,_,_⟩:=H.later i (q - i) (by omega);rw[show i+(q - i)=q by omega] at l;exact⟨q,by omega,l.grow.n,ABB _,lq.grow.n⟩
  obtain⟨lM,_,_⟩:=H.later M (Z.size - M) (by omega);rw[show M+(Z.size - M)=Z.size by omega] at lM;obtain⟨di,_,_⟩:=H.later 0 M (by omega);rw[ABJ] at di;replace Y:=Je Y (.inl (by omega));obtain⟨aO,c6,b2,ev,fn,hC⟩:=ss kg ee Y;have em:∀t∈At Z o,x= .tmp t\/y= .tmp t:=by
   intro t ht;unfold At at ht;rw[kg] at ht;simp only[ABx,List.mem_filterMap] at ht;obtain⟨z,hz,e5⟩:=ht;have i1:z=x\/z=y:=by rw[ee] at hz;simpa [Op.operands] using hz
   rcases i1 with rfl|rfl
   .cases z<;>simp at e5;exact .inl (by rw[e5])
   .cases z<;>simp at e5;exact .inr (by rw[e5])
  have b9:=I.masked (Bt:=At Z o) (g:=(S M).g) H c3 bb hR b3 (fun t j u ht a2 hd b5 _=>by
   obtain⟨_,az,d5⟩:=E1 b5;rcases em t ht with h|h
   .exact absurd (hV t h) (Mt Z.toList 0 j u t az (by simpa using a2) d5 hd)
   .exact absurd (hW t h) (Mt Z.toList 0 j u t az (by simpa using a2) d5 hd)) d9 cl
  have e3:=(d6 k0).2.1;unfold aF at e3;rw[ee] at e3;simp only[AA8] at e3;obtain⟨⟨⟨⟨f1,f2⟩,hI⟩,f4⟩,gH⟩:=e3;have g5:∀z:Operand,AA (T.wf (frO an T Z ak q A)) (S M).g.n V (S q).mem w (DC [] ((S i).masked (BU 0 Z.toList) (okG (Ak Z.toList []) R i) R (At Z o)).tmps z) (a.eval z):=fun z=>HO b9.rel (fun c hc=>by cases hc) z;have iW:=AC.nlt_ok _ _ hI (g5 x);have i0:=AC.nlt_ok _ _ f4 (g5 y);have hO:Agr (T.wf (frO an T Z ak q A)) (((S i).g.pushAll aO.us).needAll ad aO.ps):=by
   have:=Agr.wf (F:=frO an T Z ak q A) d8;rw[ev] at this;exact this
  have hS:Ar (T.wf (frO an T Z ak q A)) (((S i).g.pushAll aO.us).needAll ad aO.ps):=by
   have:=Ar.wf (F:=frO an T Z ak q A) ej;rw[ev] at this;exact this
  obtain⟨z,ax,aK,r3⟩:=S3 (V := V) (w:=w) c6 hO.need.new (hS.need (NE c9)) (AA.intAny f1 iW) (AA.intAny f2 i0) x y;have h7:aw.g.n=(S i).g.n+aO.us.length:=by rw[ev,(DG _ _ _).1,Bb];rfl
  have iI:(execOp a.eval o).run P w= .ok (.value z) w:=N8 (s:=do eqGuard gv bt x y (a.eval x) (a.eval y);binOp gv bt (a.eval x) (a.eval y)) (by simp only[execOp,ee]) ax;unfold EL;rw[ACE (by simp[Region.wanted,kg])];refine J2 (by rw[ee];exact fun c h=>by cases h) ?_;rw[iI];have st:∀n,AI (T.wf (frO an T Z ak q A)) n V (S q).mem w V (S q).mem w:=fun n=>AI.refl _ _ _ _ _;refine hK A q V z w (I.next H ho bb c5 I.qle (by omega) (fun _ _ _ _ _=>Iff.rfl) (AI.refl T (S 0).g.n V (S q).mem w) I.st (fun c z h=>h) (fun j u d c z _ _ _ _ h=>h) I.mem ?_ ?_ ?_ ?_ ?_ (dv ?_)) (fun _=> .inl rfl) (fun h=>by rcases PP h with h|⟨h,_⟩<;>omega)
  .rw[<-I.asize];cases o.dst<;>simp[Act.put]
  .have:=I.defers;cases o.dst<;>exact this
  .intro j o' hj N;rw[Ay _ _ _ b4];split
   .exact .inl rfl
   .exact I.base j o' hj N
  .intro j o' N h3;rw[Ay _ _ _ b4];have bs:j≠i:=fun e=>by subst e;rw[ho] at N;cases N;omega
   rw[ACD bs];exact I.mlist j o' N h3
  .intro d aN hd hc;have ds:c=(aw.tmps.get d).getD .any:=dm d hd;have hv:AA (T.wf (frO an T Z ak q A)) (S (i+1)).g.n V (S q).mem w c ((a.put o.dst z).tmps.getD d undef):=by
    have ik:(S (i+1)).g.n=(S i).g.n+aO.us.length:=by rw[hg,h7]
    have hh:((S i).masked (BU 0 Z.toList) (okG (Ak Z.toList []) R i) R (At Z o)).tmps.n=a.tmps.size:=b9.rel.size.symm;rw[hC,hd] at ds;rw[hd];by_cases e0:d < a.tmps.size
    .have e1:(C8 ((S i).masked (BU 0 Z.toList) (okG (Ak Z.toList []) R i) R (At Z o)).tmps (some d) aO.c).get d=some aO.c:=by
      have hb:Nat.blt d ((S i).masked (BU 0 Z.toList) (okG (Ak Z.toList []) R i) R (At Z o)).tmps.n=true:=by rw[hh,Nat.blt_eq];exact e0
      simp[C8,AZ.set,hb,AZ.get,BH]
     rw[e1] at ds;have e2:(a.put (some d) z).tmps.getD d undef=z:=by simp[Act.put,ABG,e0]
     rw[e2,ds,ik];rw[ds] at gH;exact AA.intAny gH r3
    .have hb:Nat.blt d ((S i).masked (BU 0 Z.toList) (okG (Ak Z.toList []) R i) R (At Z o)).tmps.n=false:=by
      rw[hh];cases hx:Nat.blt d a.tmps.size with
      |false=>rfl
      |true=>rw[Nat.blt_eq] at hx;exact absurd hx e0
     have e1:C8 ((S i).masked (BU 0 Z.toList) (okG (Ak Z.toList []) R i) R (At Z o)).tmps (some d) aO.c=((S i).masked (BU 0 Z.toList) (okG (Ak Z.toList []) R i) R (At Z o)).tmps:=by
      simp[C8,AZ.set,hb]
     rw[e1] at ds;have e2:(a.put (some d) z).tmps.getD d undef=a.tmps.getD d undef:=by simp[Act.put,ABG,ABz,e0]
     rw[e2,hg];refine AC.nlt_ok (aj:=(S M).g.n) _ _ (d6 k0).1 ?_;rw[ds];exact b9.rel.at d
   exact I.own H ho bb hd d4 d2 (st _) hv hc
  .intro e W;unfold HB at W;rw[fn] at W;simp[DS.masked] at W
 .
  have I:=I0;obtain⟨lq,_,_⟩:=H.later 0 q (by have:=I.qle;omega);rw[ABJ] at lq;replace Y:=Je Y (.inl (by omega));obtain⟨az,x,kx,gm⟩:=hL;have d0:=(d6 k0).2.2;unfold m9 at d0;rw[kx] at d0;simp only at d0;split at d0
  case h_2=>cases d0
  rename_i nb id off cs hx;have g6:=DZ d0;obtain⟨e1,e2,fr,hH⟩:=mN kg kx hx Y;have hZ:∃a4 e,(S i).mem.at id= .cells a4 e:=by
   unfold Bh DE at Y;simp only[kg,ABA,ABd] at Y;split at Y
   .cases Y
   rw[kx] at Y;simp only[ABA,AA7] at Y;obtain⟨aO,hr,_⟩:=Y;have hl:GK P az (.ptr id off) (S i).mem (S i).g=some aO:=by
    rw[<-hx];generalize OY ap o.dst=k at hr
    match k,hr with
    |0,hr=>exact hr
    |1,hr=>nomatch hr
    |k+2,hr=>exact hr
   unfold GK at hl;simp only[ABA,AA7] at hl;obtain⟨_,_,hl⟩:=hl;split at hl
   .rename_i a4 e W;exact⟨a4,e,W⟩
   .cases hl
  have hT:(S q).mem.at id=(S i).mem.at id:=by
   obtain⟨a4,e,W⟩:=hZ;have j2:=I.qle;have tk:∀m:Mem,id < nb->Mem.at (m.take nb) id=m.at id:=fun m h=>by
    unfold Mem.at;rw[AB8,ACE h]
   rcases Nat.le_total q i with h|h
   .have:=H.keep cs q (i - q) (by omega) id;rw[show q+(i - q)=i by omega,tk _ g6] at this;exact this (by rw[W];exact fun h=>by cases h)
   .have:=H.keep2 cs i g6 (by rw[W];exact fun h=>by cases h) (q - i) (by omega);rwa [show i+(q - i)=q by omega] at this
  have fs:∀(m:Mem) (g:G),m.at id=(S i).mem.at id->Bh P call ap Z ad { (S i).masked (BU 0 Z.toList) (okG (Ak Z.toList []) R i) R (At Z o) with mem:=m,g:=g } o=some { aw with mem:=m,g:=g }:=hH;obtain⟨M,g0,d9,cl,g1⟩:∃M,M<=Z.size/\(S i).g.n<=(S M).g.n/\(S q).g.n<=(S M).g.n/\(S 0).g.n<=(S M).g.n:=by
   rcases Nat.le_total q i with h|h
   .obtain⟨l,_,_⟩:=H.later q (i - q) (by omega);rw[show q+(i - q)=i by omega] at l;exact⟨i,by omega,ABB _,l.grow.n,X.grow.n⟩
   .have:=I.qle;obtain⟨l,_,_⟩:=H.later i (q - i) (by omega);rw[show i+(q - i)=q by omega] at l;exact⟨q,by omega,l.grow.n,ABB _,lq.grow.n⟩
  obtain⟨lM,_,_⟩:=H.later M (Z.size - M) (by omega);rw[show M+(Z.size - M)=Z.size by omega] at lM;obtain⟨di,_,_⟩:=H.later 0 M (by omega);rw[ABJ] at di;have em:∀t∈At Z o,x= .tmp t:=by
   intro t ht;unfold At at ht;rw[kg] at ht;simp only[ABx,List.mem_filterMap] at ht;obtain⟨y,hy,eq⟩:=ht;have gk:y=x:=by rw[kx] at hy;simpa [Op.operands] using hy
   subst gk;cases y<;>simp at eq;rw[eq]
  have b9:=I.masked (Bt:=At Z o) (g:=(S M).g) H c3 bb hR b3 (fun t j u ht a2 hd b5 _=>by
   obtain⟨_,az,d5⟩:=E1 b5;exact absurd (gm t (em t ht)) (Mt Z.toList 0 j u t az (by simpa using a2) d5 hd)) d9 cl
  obtain⟨c6,b2⟩:=Ix (T:=T.wf (frO an T Z ak q A)) (r:=r) (ao:=ao) (H.call _) H.ys (fs (S q).mem (S M).g hT);refine b2 (Agr.wf (hA.of lM.grow)) (Ar.wf (ge.of lM.grow)) (NE c9) (BN.wf (d3.grow di.grow)) V a w K Q b9 fun ac v ab ax aK r3=>?_;have bk:AI (T.wf (frO an T Z ak q A)) (S M).g.n V (S q).mem w ac (S q).mem ab:=aK;have dj:AH (T.wf (frO an T Z ak q A)) (S M).g.n ac (S q).mem ab:=ax.rel.mem;obtain⟨f1,f2⟩:=(bk.down cl).forget I.mem dj (fun _ _=>rfl);have db:=bk.same (I.mem.mono cl) (fun _ _=>rfl);have st:=AI.any f1 I.mem (fun _ _ _ _ h=>h) (fun _ _ _ ks _ h=>⟨_,ks,h,rfl⟩);have b1:AI T (S 0).g.n V (S q).mem w V (S q).mem ab:=(AI.wf (F:=frO an T Z ak q A) (a6:=T.fr) (st (S 0).g.n):_);refine hK A q V v ab (I.next H ho bb c5 I.qle (by omega) (fun _ _ _ _ _=>Iff.rfl) b1 (I.st.trans d1 (ABB _) b1) (fun c z=>AA.mono0 (st _) (ABB _) c z) (fun j u d c z _ _ _ _=>AA.mono0 (st _) (ABB _) c z) f2 ?_ ?_ ?_ ?_ ?_ (dv ?_)) (fun _=> .inl (r3 (by rw[kx];rfl))) (fun h=>by rcases PP h with h|⟨h,_⟩<;>omega)
  .rw[<-I.asize];cases o.dst<;>simp[Act.put]
  .have:=I.defers.on f1;cases o.dst<;>exact this
  .intro j o' hj N;rw[Ay _ _ _ b4];split
   .exact .inl rfl
   .exact I.base j o' hj N
  .intro j o' N h3;rw[Ay _ _ _ b4];have bs:j≠i:=fun e=>by subst e;rw[ho] at N;cases N;omega
   rw[ACD bs];exact I.mlist j o' N h3
  .intro d aN hd hc;have hv:AA (T.wf (frO an T Z ak q A)) (S M).g.n ac (S q).mem ab c ((a.put o.dst v).tmps.getD d undef):=by
    have:=ax.rel.at d;rw[dm d hd];exact this
   have cv:=AA.backF db _ _ (.inr fun id h=>h) hv;have en:=AC.nlt_ok _ _ (d6 k0).1 cv;rw[<-hg] at en;exact I.own H ho bb hd d4 d2 (st _) en hc
  .intro e W;unfold HB at W;rw[fr] at W;simp[DS.masked] at W
 by_cases h4:AP an (Am 0 Z.toList) o=4
 .exact I0.early H d1 ho bb c5 h4 fun A' q' ac v ab C O=>hK A' q' ac v ab C (fun _=> .inr O) (fun h=>by rcases PP h with h|⟨h,_⟩<;>omega)
 have h0:AP an (Am 0 Z.toList) o≠0:=by
  rcases hq with⟨h,_⟩|⟨h,_⟩|h|⟨h,_⟩<;>omega
 have iF:q<=i:=by
  rcases ABN i q with h|h
  .rcases I0.base i o h ho with C|C
   .rw[bb] at C;cases C
   .omega
  .exact h
 obtain⟨q, V,I,_,iA,f3⟩:=I0.reach H ho hR b3 h0 h4 iF i (ABB _);have ey:∀t j u,t∈At Z o->Z[j]? =some u->u.dst=some t->AP an (Am 0 Z.toList) u=4->R.testBit j=true->j < q:=fun t j u _ a2 _ b5 hb=>f3 j u (by have:=g9 j hb;omega) a2 b5 hb;obtain⟨lq,_,_⟩:=H.later 0 q (by omega);rw[ABJ] at lq;obtain⟨c0,_,_⟩:=H.later q (i - q) (by omega);rw[show q+(i - q)=i by omega] at c0;have same:(∀j u,q<=j->j < i->Z[j]? =some u->3<=AP an (Am 0 Z.toList) u->R.testBit j=true)->(S i).mem=(S q).mem:=fun h8=>by
  obtain⟨_,_,lm⟩:=H.later q (i - q) (by omega);rw[show q+(i - q)=i by omega] at lm;refine lm fun j u C O a2=>?_;rcases ABN (AP an (Am 0 Z.toList) u) 3 with h|h
  .exact h
  .exfalso;have hb:=h8 j u C O a2 h;have j0:=Px (an:=an) (D:=Am 0 Z.toList) (o:=u);rcases ABN (AP an (Am 0 Z.toList) u) 4 with h5|h5
   .have:=(I.mlist j u a2 (by omega)).1 (b3 j hb);omega
   .have:=f3 j u O a2 (by omega) hb;omega
 rcases hq with⟨k1,kp⟩|⟨E,kf⟩|k3|⟨h,_⟩
 .
  replace Y:=Je Y (.inl (by omega));obtain⟨e1,e2⟩:=lP kp Y;have b9:=I.masked (Bt:=At Z o) (g:=(S i).g) H c3 bb hR b3 ey (ABB _) c0.grow.n;obtain⟨c6,b2⟩:=Ix (T:=T.wf (frO an T Z ak q A)) (r:=r) (ao:=ao) (H.call _) H.ys (e2 (S q).mem);refine b2 (Agr.wf d8) (Ar.wf ej) (NE c9) (BN.wf (d3.grow X.grow)) V a w K Q b9 fun ac v ab ax aK r3=>?_;have bk:AI (T.wf (frO an T Z ak q A)) (S i).g.n V (S q).mem w ac (S q).mem ab:=aK;have dj:AH (T.wf (frO an T Z ak q A)) aw.g.n ac (S q).mem ab:=ax.rel.mem;obtain⟨f1,f2⟩:=(bk.down c0.grow.n).forget I.mem dj (fun _ _=>rfl);have db:=bk.same (I.mem.mono c0.grow.n) (fun _ _=>rfl);have st:=AI.any f1 I.mem (fun _ _ _ _ h=>h) (fun _ _ _ ks _ h=>⟨_,ks,h,rfl⟩);have b1:AI T (S 0).g.n V (S q).mem w V (S q).mem ab:=(AI.wf (F:=frO an T Z ak q A) (a6:=T.fr) (st (S 0).g.n):_);refine hK A q V v ab (I.next H ho bb c5 I.qle h4 (fun _ _ _ _ _=>Iff.rfl) b1 (I.st.trans d1 (ABB _) b1) (fun c z=>AA.mono0 (st _) (ABB _) c z) (fun j u d c z _ _ _ _=>AA.mono0 (st _) (ABB _) c z) f2 ?_ ?_ ?_ ?_ ?_ (dv ?_)) (fun _=> .inl (r3 (by cases ix:o.op<;>rw[ix] at kp<;>first|rfl|cases kp))) (fun h=>by rcases PP h with h|⟨h,_⟩<;>omega)
  .rw[<-I.asize];cases o.dst<;>simp[Act.put]
  .have:=I.defers.on f1;cases o.dst<;>exact this
  .intro j o' hj N;rw[Ay _ _ _ b4];split
   .exact .inl rfl
   .exact I.base j o' hj N
  .intro j o' N h3;rw[Ay _ _ _ b4];have bs:j≠i:=fun e=>by subst e;rw[ho] at N;cases N;omega
   rw[ACD bs];exact I.mlist j o' N h3
  .intro d aN hd hc;have hv:AA (T.wf (frO an T Z ak q A)) aw.g.n ac (S q).mem ab c ((a.put o.dst v).tmps.getD d undef):=by
    have:=ax.rel.at d;rw[dm d hd];exact this
   have cv:=AA.backF db _ _ (.inr fun id h=>h) hv;rw[<-hg] at cv;exact I.own H ho bb hd d4 d2 (st _) cv hc
  .intro e W;rw[hg];exact (ax.ges e (et e W).1).un
 .
  obtain⟨s2,Y,t1,t2,t3,f8⟩:∃s2,Bh P call ap Z ad { (S i).masked (BU 0 Z.toList) (okG (Ak Z.toList []) R i) R (At Z o) with mem:=(S q).mem } o=some s2/\s2.tmps=aw.tmps/\s2.g=aw.g/\s2.gl=aw.gl/\
    (∀id,(S q).mem.at id≠ .pad->s2.mem.at id=(S q).mem.at id)/\(AC.free c=true\/∀id,s2.mem.at id≠ .pad->(S q).mem.at id≠ .pad):=by
   have ie:CG (T.wf (frO an T Z ak q A)) V Z { (S i).masked (BU 0 Z.toList) (okG (Ak Z.toList []) R i) R (At Z o) with mem:=(S q).mem } a w:=
    I.masked (Bt:=At Z o) (g:=(S i).g) H c3 bb hR b3 ey (ABB _) c0.grow.n
   cases cs:Ld tg with
   |none=>
    have ha:=same fun j u C O a2 h3=>((e4 j u a2 O).2 E).resolve_right fun h=>by
     rcases h with h|⟨h,_⟩
     .omega
     .rw[cs] at h;cases h
    have gr:=Je Y (.inr cs);have gG:{ (S i).masked (BU 0 Z.toList) (okG (Ak Z.toList []) R i) R (At Z o) with mem:=(S q).mem }=(S i).masked (BU 0 Z.toList) (okG (Ak Z.toList []) R i) R (At Z o):=by rw[<-ha];rfl
    refine⟨aw,by rw[gG];exact gr,rfl,rfl,rfl,?_⟩;rw[iy (.inr cs)] at fd;rw[<-ha];rcases fd E with kf|hk
    .have c8:aw.mem=(S i).mem:=RV gr kf (Agr.wf d8) (Ar.wf ej) (NE c9) (BN.wf (d3.grow X.grow)) (by rw[<-gG];exact ie);rw[c8];exact⟨fun _ _=>rfl,.inr fun _ h=>h⟩
    .exact hk
   |some n=>
    obtain⟨c6,b2,ev,fn⟩:=hB n cs;obtain⟨h9,_⟩:=fn E;have g8:IC tg (AP an (Am 0 Z.toList) o) (S i).mem=(S i).mem.take n:=by
     unfold IC;rw[cs,E];rfl
    rw[g8] at Y;have h2:∀id,Mem.at ((S i).mem.take n) id≠ .pad->(S q).mem.at id=Mem.at ((S i).mem.take n) id:=fun id hp=>by
     have:=H.keep cs q (i - q) (by omega) id;rw[show q+(i - q)=i by omega] at this;exact this hp
    obtain⟨x,hx,e1,e2⟩:=qT (al:=(S q).mem) (s:={ (S i).masked (BU 0 Z.toList) (okG (Ak Z.toList []) R i) R (At Z o) with mem:=(S i).mem.take n }) h9 h2 Y;refine⟨_,e2,rfl,rfl,rfl,?_⟩;rcases hx with rfl|⟨rfl,hf⟩
    .rw[ABx];exact⟨fun _ _=>rfl,.inr fun _ h=>h⟩
    .refine⟨fun id hp=>?_,.inl ?_⟩
     .rw[AV,ACD fun e=>hp (Mem.at_ge (by omega))]
     .rcases fd E with kf|⟨_,kf|kf⟩
      .rw[hf] at kf;cases kf
      .exact kf
      .rw[g8] at kf;refine absurd (Mem.at_ge (ABB _)) (kf ((S i).mem.take n).length ?_);rw[e1,AV,ACE rfl];exact fun h=>by cases h
  obtain⟨c6,b2⟩:=Ix (T:=T.wf (frO an T Z ak q A)) (r:=r) (ao:=ao) (H.call _) H.ys Y;refine b2 (by rw[t2];exact Agr.wf d8) (by rw[t2];exact Ar.wf ej) (NE c9) (BN.wf (d3.grow X.grow)) V a w K Q (I.masked (Bt:=At Z o) (g:=(S i).g) H c3 bb hR b3 ey (ABB _) c0.grow.n) fun ac v ab ax aK r3=>?_;have bk:AI (T.wf (frO an T Z ak q A)) (S i).g.n V (S q).mem w ac s2.mem ab:=aK;have dj:AH (T.wf (frO an T Z ak q A)) s2.g.n ac s2.mem ab:=ax.rel.mem;obtain⟨f1,f2⟩:=(bk.down c0.grow.n).forget I.mem dj f8.1;have db:=bk.same (I.mem.mono c0.grow.n) f8.1;have st:=AI.any f1 I.mem (fun _ _ _ _ h=>h) (fun _ _ _ ks _ h=>⟨_,ks,h,rfl⟩);have b1:AI T (S 0).g.n V (S q).mem w V (S q).mem ab:=(AI.wf (F:=frO an T Z ak q A) (a6:=T.fr) (st (S 0).g.n):_);refine hK A q V v ab (I.next H ho bb c5 I.qle h4 (fun _ _ _ _ _=>Iff.rfl) b1 (I.st.trans d1 (ABB _) b1) (fun c z=>AA.mono0 (st _) (ABB _) c z) (fun j u d c z _ _ _ _=>AA.mono0 (st _) (ABB _) c z) f2 ?_ ?_ ?_ ?_ ?_ (dv ?_)) (fun hl=> .inl (r3 (by cases hf:BD o.op with|true=>rfl|false=>exact absurd (pD hf E) hl))) (fun _ k ok hk d7 ei f5=>f1.old (A k) (I.plt hk d7 ei (by omega)) (I.pend k ok hk d7 ei (by omega)).2.1)
  .rw[<-I.asize];cases o.dst<;>simp[Act.put]
  .have:=I.defers.on f1;cases o.dst<;>exact this
  .intro j o' hj N;rw[Ay _ _ _ b4];split
   .exact .inl rfl
   .exact I.base j o' hj N
  .intro j o' N h3;rw[Ay _ _ _ b4];have bs:j≠i:=fun e=>by subst e;rw[ho] at N;cases N;omega
   rw[ACD bs];exact I.mlist j o' N h3
  .intro d aN hd hc;have hv:AA (T.wf (frO an T Z ak q A)) s2.g.n ac s2.mem ab c ((a.put o.dst v).tmps.getD d undef):=by
    have:=ax.rel.at d;rw[dm d hd,<-t1];exact this
   have cv:=AA.backF db _ _ f8.2 hv;rw[t2,<-hg] at cv;exact I.own H ho bb hd d4 d2 (st _) cv hc
  .intro e W;rw[hg];have:=(ax.ges e (by rw[t3];exact (et e W).1)).un;rw[t2] at this;exact this
 .
  replace Y:=Je Y (.inl (by omega));obtain⟨V,I⟩:=Bz.acts H (i - q) I (by omega) fun j u j3 j6 a2=>by
   have hl:=((e4 j u a2 (by omega)).1 k3).imp (b3 j) (fun h=>h);refine⟨hl,fun h3=>?_⟩;rcases hl with h|h
   .have:=(I.mlist j u a2 h3).1 h;omega
   .omega
  rw[show q+(i - q)=i by omega] at I;clear same f3 ey c0 lq iA;obtain⟨F,j1⟩:∃F,F=frO an T Z ak i A:=⟨_,rfl⟩;have b9:CG (T.wf (frO an T Z ak i A)) V Z ((S i).masked (BU 0 Z.toList) (okG (Ak Z.toList []) R i) R (At Z o)) a w:=
   I.masked (Bt:=At Z o) (g:=(S i).g) H c3 bb hR b3 (fun t j u _ _ _ _ hb=>by have:=g9 j hb;omega) (ABB _) (ABB _)
  have c8:(S (i+1)).mem=aw.mem:=by rw[es,k3];rfl
  obtain⟨c6,b2⟩:=Ix (T:=T.wf (frO an T Z ak i A)) (r:=r) (ao:=ao) (H.call _) H.ys Y;refine b2 (Agr.wf d8) (Ar.wf ej) (NE c9) (BN.wf (d3.grow X.grow)) V a w K Q b9 fun ac v ab ax aK r3=>?_;have bk:AI (T.wf (frO an T Z ak i A)) (S i).g.n V (S i).mem w ac (S (i+1)).mem ab:=by
   have:AI (T.wf (frO an T Z ak i A)) (S i).g.n V (S i).mem w ac aw.mem ab:=aK;rw[c8];exact this
  have st:∀j u d c z,ak.getD j false=true->Z[j]? =some u->u.dst=some d->(S (j+1)).tmps.get d=some c->AA (T.wf (frO an T Z ak i A)) (S (j+1)).g.n V (S i).mem w c z->AA (T.wf (frO an T Z ak i A)) (S (j+1)).g.n ac (S (i+1)).mem ab c z:=by
   intro j u d c z ga a2 hd hc;have f7:j < Z.size:=(ABF.1 a2).1;rcases ABN j i with bs|bs
   .obtain⟨lj,_,_⟩:=H.later (j+1) (i - (j+1)) (by omega);rw[show j+1+(i - (j+1))=i by omega] at lj;exact AA.mono0 (bk.down lj.grow.n) (ABB _) c z
   .have ka:j≠i:=fun e=>by subst e;rw[bb] at ga;cases ga
    by_cases b5:AP an (Am 0 Z.toList) u=4
    .
     obtain⟨Rj,_,gi⟩:=H.step j u a2;obtain⟨sj,cj,aS,c2,hE,c4,i9,c7,jp,hF,jA,-⟩:=Dl gi;replace aS:=Je aS (.inl (by omega));obtain⟨jB,g3,g4⟩:=hF b5;rw[hd] at g3;cases g3;obtain⟨kg,t,kt⟩:=E1 b5;obtain⟨l,_,q2,_,_,_⟩:=Ot kg kt aS;have h1:cj= .ptr (S j).mem.length 0:=by
      rw[hE d hd,q2,hd];show ((((S j).masked (BU 0 Z.toList) (okG (Ak Z.toList []) Rj j) Rj (At Z u)).tmps.set d (.ptr (S j).mem.length 0)).get d).getD .any=_;rw[AZ.get_set_self ((S j).masked (BU 0 Z.toList) (okG (Ak Z.toList []) Rj j) Rj (At Z u)).tmps _ g4];rfl
     have hX:c= .ptr (S j).mem.length 0:=by
      rw[c2] at hc;simp only[hd,C8] at hc;rw[AZ.get_set_self _ _ g4] at hc;cases hc;exact h1
     rw[hX];exact AA.monoV bk _ z rfl
    .cases gd:a0 with
     |false=>
      have hi:=Vc (gs k3 gd);have hm:=To (gs k3 gd);rw[<-c8] at hi hm;exact AA.mono0 (AI.any bk I.mem hi hm _) (ABB _) c z
     |true=>
      have f6:j < (Ak Z.toList []).length:=by rw[DB];exact f7
      have f0:=ABC f6;obtain⟨Rj,g2,gi⟩:=H.step j u a2;obtain⟨_,_,_,_,_,_,_,iv,_,_,_,hU⟩:=Dl gi;have gn:Rj.testBit i=true->False:=fun hb=>by
       have:=D3 I.closed g2 a2 (fun e W hb=>I.closed j u a2 ga e W hb) i hb;rw[bb] at this;cases this
      have he:=H.ord j u _ a2 g2 i o ho (by omega);have jM:=Px (an:=an) (D:=Am 0 Z.toList) (o:=u);by_cases hk:AP an (Am 0 Z.toList) u < 2
      .rcases iv gd hk d c hd hc with h|h
       .exact AA.monoV bk c z h
       .exact (gn (sm h (by omega))).elim
      .by_cases g7:AP an (Am 0 Z.toList) u=2
       .rcases he.2 g7 with h|h|⟨h,_⟩
        .exact (gn h).elim
        .omega
        .obtain⟨n,hn⟩:=Option.isSome_iff_exists.1 h;exact AA.monoV bk c z (((hU n hn).2.2.2 g7).2 d c hd hc)
       .rcases he.1 (by omega) with h|h
        .exact (gn h).elim
        .omega
  have b1:AI T (S 0).g.n V (S i).mem w ac (S (i+1)).mem ab:=(AI.wf (F:=frO an T Z ak i A) (a6:=T.fr) (bk.down X.grow.n):_);refine hK A (i+1) ac v ab (I.next H ho bb c5 (by omega) h4 (fun j u a2 b5 hl=>?_) b1 (I.st.trans d1 (ABB _) b1) (fun c z=>AA.mono0 (bk.down X.grow.n) (ABB _) c z) st ?_ ?_ ?_ ?_ ?_ ?_ (dv ?_)) (fun h=>absurd (by unfold U2;rw[k3];rfl) h) (fun _ k ok hk d7 ei f5=>bk.old (A k) (I.plt hk d7 ei f5) (I.pend k ok hk d7 ei f5).2.1)
  .have bs:j≠i:=fun e=>by subst e;rw[ho] at a2;cases a2;exact h4 b5
   constructor<;>(intro h;omega)
  .rw[hg,c8];exact ax.rel.mem
  .rw[<-I.asize];cases o.dst<;>simp[Act.put]
  .rw[c8];exact ax.rel.defers
  .intro j o' hj N;rw[Ay _ _ _ b4];split
   .exact .inl rfl
   .rename_i bs;exact ((e4 j o' N (by omega)).1 k3).imp (b3 j) (fun h=>h)
  .intro j o' N h3;rw[Ay _ _ _ b4];split
   .rename_i bs;subst bs;simp
   .rename_i bs;have f7:j < Z.size:=(ABF.1 N).1;rcases ABN j i with h|h
    .have:=b3 j (((e4 j o' N h).1 k3).resolve_right (by omega));rw[this];simp;omega
    .constructor
     .intro hl;exfalso;have f6:j < (Ak Z.toList []).length:=by rw[DB];exact f7
      have f0:=ABC f6;have hb:=((H.ord j o' _ N f0 i o ho (by omega)).1 h3).resolve_right (by omega);have:=D3 I.closed f0 N (fun e W hb=>I.closed j o' N hl e W hb) i hb;rw[bb] at this;cases this
     .intro h;omega
  .intro d aN hd hc;have hv:AA (T.wf (frO an T Z ak i A)) (S (i+1)).g.n ac (S (i+1)).mem ab c ((a.put o.dst v).tmps.getD d undef):=by
    have:=ax.rel.at d;rw[dm d hd,hg,c8];exact this
   exact I.own H ho bb hd d4 d2 bk hv hc
  .intro e W;rw[hg];exact (ax.ges e (et e W).1).un
 .omega
theorem Bz.comes (H:Bu an a0 tg P T call ap Z ad S)(y:Agr T (S Z.size).g)(N:Ar T (S Z.size).g)(O:pcv T ad)(W:BN T (S 0).g ad)(E:AH T (S 0).g.n a3 (S 0).mem aH)(u:Bz an P T Z S a3 aH A q ak V a w)(M:Z[i]? =some o)
  (Y:ak.getD i false=false) (X:∀e∈o.after,Region.binds .any e=true->ak.getD e.on false=true)  
  (z:∀d p ac v ab,Bz an P T Z S a3 aH d p (ak.setIfInBounds i true) ac (a.put o.dst v) ab->K (a.put o.dst v) ab):EL P r ao Z o a w K Q:=by
 exact u.comesw H y N O W E M Y X fun d p ac v ab C _ _=>z d p ac v ab C
end
section
variable {an:QC}{a0:Bool}{tg:List Tmp}{P:Program}{T:Tab}{call:A7}{ap:Ys}{r:Option Nat}{ao:Nat}{Z:Array Oper}{ad:PC}
variable{a3:Nat->Option Nat}{aH:World}
theorem Bz.full {S:Nat->DS}(H:Bu an a0 tg P T call ap Z ad S){A:Nat->Nat}{q:Nat}{ak:Array Bool}{V :Nat->Option Nat}{a:Act}{w:World}(y:Bz an P T Z S a3 aH A q ak V a w)(u:∀j,j < Z.size->ak.getD j false=true):
  ∃ ac,CG T ac Z ⟨(S Z.size).tmps,(S Z.size).mem,(S Z.size).g,(S Z.size).gls.map (·.2)⟩ a w/\AI T (S 0).g.n a3 (S 0).mem aH ac (S Z.size).mem w:=by
 have a6:=y.qle;obtain⟨V,I⟩:=Bz.acts H (Z.size - q) y (by omega) fun j o C O d=>by
  refine⟨.inl (u j (by omega)),fun W=>?_⟩;have:=(y.mlist j o d W).1 (u j (by omega));omega
 rw[show q+(Z.size - q)=Z.size by omega] at I;obtain⟨X,_,_⟩:=H.later 0 Z.size (by omega);rw[ABJ] at X;have a1:T.wf (frO an T Z ak Z.size A)=T:=by
  have e:frO an T Z ak Z.size A=T.fr:=by
   funext b off;apply propext;constructor
   .exact fun h=>h.1
   .exact fun h=>⟨h,fun⟨i,o,d,_,_,hq,_⟩=>by have:=(ABF.1 d).1;omega⟩
  rw[e];rfl
 have E:=I.mem;rw[a1] at E;refine⟨V,⟨⟨I.defers,by rw[I.asize,X.len],fun t c Y=>?_,E⟩,fun e he=>?_⟩,I.st⟩
 .have:=I.val H (ABB _) Y fun i o d hd=> .inl (by
   have z:i < Z.size:=(ABF.1 d).1;exact⟨u i z,z,fun _=>z⟩)
  grind
 .obtain⟨p,M,rfl⟩:=ACI.1 he;have a2:=(H.gls Z.size (ABB _) p M).1;obtain⟨N,_,_⟩:=H.later (p.1+1) (Z.size - (p.1+1)) (by omega);rw[show p.1+1+(Z.size - (p.1+1))=Z.size by omega] at N;exact (I.gfacts p M (u p.1 a2)).1.up N.grow.n
theorem vO {S:Nat->DS}(H:Bu an a0 tg P T call ap Z ad S)(hA:Agr T (S Z.size).g)(b3:Ar T (S Z.size).g)(b4:pcv T ad)(b5:BN T (S 0).g ad){Q:Exit->Act->World->Prop}(b0:AH T (S 0).g.n a3 (S 0).mem aH)
  (hK:∀ V a w,CG T V Z ⟨(S Z.size).tmps,(S Z.size).mem,(S Z.size).g,(S Z.size).gls.map (·.2)⟩ a w->AI T (S 0).g.n a3 (S 0).mem aH V (S Z.size).mem w->Q .normal a w):
  ∀(aM:Nat) (ak:Array Bool) (A:Nat->Nat) (V :Nat->Option Nat) (q:Nat) (a:Act) (w:World),Bz an P T Z S a3 aH A q ak V a w->D5 ak=aM->wpAnyIn (fen r) ao P .any Z Q aM ak a w:=by
 intro aM;induction aM with
 |zero=>
  intro ak A V q a w I hu;have d:∀j,j < Z.size->ak.getD j false=true:=fun j z=>by
   cases E:ak.getD j false with
   |true=>rfl
   |false=>
    have:=Iy (ak:=ak) (i:=j) (by rw[I.size];exact z) E;omega
  obtain⟨aV,C,O⟩:=I.full H d;refine wpAnyIn_done ?_ (hK aV a w C O) _;refine List.eq_nil_iff_forall_not_mem.2 fun i Y=>?_;obtain⟨C,o,y,_⟩:=mem_ready.1 Y;have u:i < Z.size:=(ABF.1 y).1;have O:=d i u;rw[ABG] at C O;have M:i < ak.size:=by rw[I.size];exact u
  rw[AB2 M] at C O;simp only[Option.getD_some] at C O;rw[C] at O;cases O
 |succ aM ih=>
  intro ak A V q a w I hu;by_cases d:∀j,j < Z.size->ak.getD j false=true
  .have hc:=Ju (h:=Z.size) (by rw[I.size];exact ABB _) (fun j=>by
    refine⟨fun h=>?_,d j⟩;rcases ABN j Z.size with C|C
    .exact C
    .rw[ABG,Array.getElem?_eq_none (by rw[I.size];exact C)] at h;cases h)
   rw[hu,I.size] at hc;omega
  .simp only[Classical.not_forall] at d;obtain⟨j,z,E⟩:=d;have b1:∃j,j < Z.size/\ak.getD j false=false/\∀i,i < j->ak.getD i false=true:=by
    have b8:∀n,(∃j,j < n/\j < Z.size/\ak.getD j false=false)->∃j,j < Z.size/\ak.getD j false=false/\∀i,i < j->ak.getD i false=true:=by
     intro n;induction n with
     |zero=>rintro⟨j,C,_⟩;omega
     |succ n b7=>
      rintro⟨j,C,O,X⟩;by_cases p:∃j,j < n/\j < Z.size/\ak.getD j false=false
      .exact b7 p
      .have bt:j=n:=by
        rcases ABN j n with h|h
        .exact absurd ⟨j,h,O,X⟩ p
        .omega
       subst bt;refine⟨j,O,X,fun i Y=>?_⟩;cases bx:ak.getD i false with
       |true=>rfl
       |false=>exact absurd ⟨i,Y,by omega,bx⟩ p
    exact b8 (j+1) ⟨j,Nat.lt_succ_self _,z,by simpa using E⟩
   obtain⟨U,W,ax,bl⟩:=b1;have a6:∀i,ak.getD i true=false->ak.getD i false=false:=fun i h=>by
    rw[ABG] at h⊢;cases p:ak[i]? with
    |none=>rfl
    |some b=>rw[p] at h;exact h
   have a1:U∈Region.ready .any Z ak:=by
    obtain⟨o,y⟩:=Bu.op (Z:=Z) W;refine mem_ready.2 ⟨?_,o,y,fun e he hb=>bl e.on (XQ H.masks y he hb)⟩;have M:U < ak.size:=by rw[I.size];exact W
    rw[ABG,AB2 M] at ax⊢;simpa using ax
   refine⟨(fun b2=>by rw[b2] at a1;cases a1),fun i bs=>?_⟩;obtain⟨q1,o,N,q3⟩:=mem_ready.1 bs;have u:i < Z.size:=(ABF.1 N).1;refine Ov N (I.comes H hA b3 b4 b5 b0 N (a6 i q1) q3 fun A' q' ac v ab I'=>?_);refine ih _ _ _ _ _ ab I' ?_;have:=Iy (ak:=ak) (i:=i) (by rw[I.size];exact u) (a6 i q1);omega
theorem Sg {D z:List (Tmp × Nat)}{E:List Nat}:∀{l:List Oper} {u:List Nat} {U:Nat} {d p:DS},Rr an a0 tg P call ap Z D z E ad u l U d=some p->
  ∃S:Nat->DS,S U=d/\S (U+l.length)=p/\∀i o,l[i]? =some o->∃R,u[i]? =some R/\WS an a0 tg P call ap Z D z E ad R (U+i) o (S (U+i))=some (S (U+i+1))
 |[],u,U,d,p,h=>by
  have N:some d=some p:=by cases u<;>exact h
  cases N;exact⟨fun _=>d,rfl,rfl,fun i o X=>by simp at X⟩
 |o::l,[],U,d,p,h=>by simp[Rr] at h
 |o::l,R::u,U,d,p,h=>by
  simp only[Rr,ABA,AA7] at h;obtain⟨S1,C,O⟩:=h;obtain⟨S,q1,q2,q3⟩:=Sg O;refine⟨fun k=>if k=U then d else S k,by simp,?_,fun i Y y=>?_⟩
  .simp only[ABa];rw[ACD (by omega),<-q2];congr 1;omega
  .cases i with
   |zero=>
    simp at y;subst y;refine⟨R,rfl,?_⟩;simp only[Nat.add_zero,if_true];rw[ACD (by omega),q1];exact C
   |succ i=>
    obtain⟨M,W,this⟩:=q3 i Y (by simpa using y);refine⟨M,by simpa using W,?_⟩;simp only;rw[ACD (by omega),ACD (by omega),show U+(i+1)=U+1+i by omega];exact this
theorem pm (hm:P.follows .mixedOrders=true)(b2:∀T,Ca P T call)(cs:DI P T.lp ap){l:Loc}{g:G}{aw:RS}(h:Gj an a0 tg P call ap Z ad l g=some aw):
  Ac g aw.g/\aw.tmps.n=l.tmps.n/\(Agr T aw.g->Ar T aw.g->pcv T ad->BN T g ad->∀id V a w Q,Rel T g.n V l a w->
   (∀ ac a' ab,CG T ac Z aw a' ab->AI T g.n V l.mem w ac aw.mem ab->Q .normal a' ab)->(Code.region id Z true).wpIn (fen r) ao P Q a w):=by
 unfold Gj at h;simp only at h;split at h
 .rename_i N;rw[AA8,AA8,AA8] at N;obtain⟨⟨⟨b9,cb⟩,cf⟩,cl⟩:=N;simp only[ABA,AA7] at h;obtain⟨Sh,hh,ht⟩:=h;obtain⟨S,O,q2,q3⟩:=Sg hh;rw[ABJ,Array.length_toList] at q2;have H:Bu an a0 tg P T call ap Z ad S:=by
   refine⟨fun j o M=>?_,b9,cb,fun i o R M u j z a1 b7=>?_,fun i o R M u n0 n4 j z a1 b7 h4 hb m om ce ca=>?_,b2,cs,by rw[O]⟩
   .obtain⟨R,u,this⟩:=q3 j o (by simpa using M);rw[ABJ] at this;exact⟨R,u,this⟩
   .have:=fP cf i R (AP an (Am 0 Z.toList) o) u (by simp[M]) j (AP an (Am 0 Z.toList) z) (by simp[a1]) (by omega);exact⟨this.1,this.2⟩
   .have W:∀(j:Nat) (z:Oper),Z[j]? =some z->(Z.toList.map (AP an (Am 0 Z.toList)))[j]? =some (AP an (Am 0 Z.toList) z):=fun j z h=>by simp[h]
    have bi:=Re (U:=0) (j:=j) (by rw[W j z a1,h4]);rw[ABJ] at bi;have b4:=da cl i R _ u (W i o M) n0 n4 j bi (by omega) hb;have:=dF b4 m _ (W m om ce) ca;rw[ABJ] at this;exact this
  obtain⟨X,_,_⟩:=H.later 0 Z.size (by omega);rw[ABJ] at X;have C:(S 0).g=g:=by rw[O]
  have aP:(S 0).mem=l.mem:=by rw[O]
  have a4:(S 0).tmps=l.tmps:=by rw[O]
  subst q2;injection ht with ht
  subst ht;refine⟨?_,?_,fun hA cc ch ci id V a w Q u hK=>?_⟩
  .rw[<-C];exact X.grow
  .rw[<-a4];exact X.len
  .refine wpIn_region_any hm ?_;have bl:=AI.drawn T (S 0).g.n V (S 0).mem w (w.drawn+1);have bb:AH T (S 0).g.n V (S 0).mem { w with drawn:=w.drawn+1 }:=by rw[C,aP];exact u.mem.drawn _
   have E:∀j,(Array.replicate Z.size false).getD j false=false:=fun j=>by
    rw[ABG,Array.getElem?_replicate];split<;>rfl
   have hT:T.wf (frO an T Z (Array.replicate Z.size false) 0 (fun _=>0))=T:=by
    have e:frO an T Z (Array.replicate Z.size false) 0 (fun _=>0)=T.fr:=by
     funext b off;apply propext;constructor
     .exact fun h=>h.1
     .exact fun h=>⟨h,fun⟨i,o,M,_,y,_,_⟩=>by rw[E] at y;cases y⟩
    rw[e];rfl
   have I0:Bz an P T Z S V { w with drawn:=w.drawn+1 } (fun _=>0) 0 (Array.replicate Z.size false) V a { w with drawn:=w.drawn+1 }:=by
    refine⟨by simp,fun j o _ hj=>?_,ABh _,fun j o hj=>by omega,fun j o _ _=>?_,(by rw[aP];exact u.defers.on (AI.drawn T g.n V l.mem w (w.drawn+1))),by rw[a4];exact u.size,by rw[hT];exact bb,fun t c N _=>?_,fun i o d c Y=>?_,fun p _ hp=>?_,fun i o _ _ y=>?_,fun i j oi z _ _ _ _ y=>?_,AI.refl _ _ _ _ _⟩
    .rw[E] at hj;cases hj
    .rw[E];simp
    .rw[a4] at N;have:=u.tmps t c N;rw[hT,C,aP];exact AA.mono0 (by rw[<-C,<-aP];exact bl) (ABB _) _ _ this
    .rw[E] at Y;cases Y
    .rw[E] at hp;cases hp
    iterate 2
     .rw[E] at y;cases y
   have b3:D5 (Array.replicate Z.size false)=Z.size:=by simp[D5,List.countP_replicate]
   refine vO H hA cc ch (by rw[C];exact ci) bb (fun aV a2 w2 b6 cj=>?_) Z.size _ _ V 0 a _ I0 b3;refine hK aV a2 w2 b6 ?_;rw[<-C,<-aP];exact bl.trans (by rw[C,aP];exact u.mem) (ABB _) cj
 .cases h
end
section
variable {P:Program}{F:Fence}{n:Nat}{Q:Exit->Act->World->Prop}{a:Act}{w:World}
variable{b:Frame}{k:List Item}{aD:List Frame}{c:Code}
theorem Fz :step P (lone (b.atR a (.code (.scope c)::k)) aD w)= .next (lone (b.atR a (.code c:: .inScope c::k)) aD w):=
 step_lone_go (by simp[stepG,stepG.exec,Frame.atR])
theorem ZO :step P (lone (b.atR a (.inScope c::k)) aD w)= .next (lone (b.atR a k) aD w):=
 step_lone_go (by simp[stepG,stepG.exec,Frame.atR])
theorem kh (h:c.wpIn F n P (Exit.noGoto Q) a w):(Code.scope c).wpIn F n P Q a w:=by
 intro b k aD Y E N;have d:(lone (b.atR a (.code (.scope c)::k)) aD w).fenced P F:=fenced_calm E N rfl;obtain⟨e,y,z,u,p⟩:=h b (.inScope c::k) aD Y E N;cases e with
 |normal=>exact⟨.normal,y,z,u,.head d Fz (StepsIn.trans p (.one (fenced_calm E N rfl) ZO))⟩
 |exit id=>
  have W:exitTo id (.inScope c::k)=exitTo id k:=by simp[exitTo]
  exact⟨.exit id,y,z,u,fun k' M=> .head d Fz (p.1 k' (by rw[W];exact M)),
   fun X M=>let⟨a1,C,O⟩:=p.2 X (by rw[W];exact M);⟨a1,C,.head d Fz O⟩⟩
 |goto l=>exact u.elim
 |ret=>exact⟨_,y,z,u,.of_steps (.one d Fz) p⟩
 |panic ch=>exact⟨_,y,z,u,.of_steps (.one d Fz) p⟩
 |outgrown=>exact⟨_,y,z,u,.of_steps (.one d Fz) p⟩
end
section
variable {P:Program}{T:Tab}{call:A7}{ap:Ys}{r:Option Nat}{ao:Nat}{Z bf:Array Oper}{ad:PC}
variable {V :Nat->Option Nat}{a:Act}{w ab:World}
def Wk (m ag:Mem):Prop:=∀id,ag.at id=m.at id\/∃l ae e,m.at id= .cells l e/\ag.at id= .cells ae e
theorem Wk.symm {m ag:Mem}(h:Wk m ag):Wk ag m:=fun id=>by
 rcases h id with h|⟨l,ae,e,C,O⟩
 .exact .inl h.symm
 .exact .inr ⟨ae,l,e,O,C⟩
theorem Wk.step {n:Nat}{m ag:Mem}(h:Wk m ag):AI T n V m w V ag w:=by
 refine⟨rfl,rfl,rfl,ABB _,fun id d=>?_,fun id d=>⟨rfl,?_⟩,fun id _ u=>?_,fun id b d u _=>?_,fun _ _ _=>rfl,fun id x ks e p=> .inl ⟨?_,rfl,fun _ _=>rfl⟩,fun id x y ks e p=> .inr ⟨x,y,ks,?_,rfl,.inl ⟨rfl,rfl,fun _ W _ z=>⟨W,z,rfl⟩⟩⟩⟩<;>rcases h id with h|⟨l,ae,E,C,O⟩
 .rw[h];exact d
 .grind
 .rw[h];exact d
 .rw[O];rfl
 .rw[h] at u;exact u
 .rw[C];rfl
 .rw[h,d] at u;cases u
 .rw[C] at d;cases d
 .rw[h];exact p
 .rw[C] at p;cases p
 .rw[h];exact p
 .rw[C] at p;cases p
end
section
variable {T:Tab}{n:Nat}{V :Nat->Option Nat}{m:Mem}{w:World}
def JZ:Blk->Blk| .mrow _ _ _ _=> .gone|b=>b
theorem Pt (f:Blk->Blk)(d:f .pad= .pad)(m:Mem)(id:Nat):Mem.at (m.map f) id=f (m.at id):=by
 unfold Mem.at;grind
theorem NY (m:Mem)(id:Nat):Mem.at (m.map JZ) id=JZ (m.at id):=Pt _ rfl m id
theorem BW (m:Mem)(id:Nat):Mem.at (m.map JZ) id=m.at id\/Mem.at (m.map JZ) id= .gone:=by
 rw[NY];cases m.at id<;>simp[JZ]
theorem j8 {b off:Nat}(h:Ag T V m w b off):Ag T V (m.map JZ) w b off:=
 ⟨h.1,h.2.1,fun id=>by
  have:=h.2.2 id;rw[NY];cases d:m.at id<;>rw[d] at this<;>first|exact this|trivial⟩
mutual
theorem Ss (d:AH T n V m w):∀(c:AC) (v:Value),AA T n V m w c v->AA T n V (m.map JZ) w (Mk m c) v
 | .mr id y,v,h=>by
  have back:AA T n V (m.map JZ) w (.mr id y) v:=AA.mono0 (AI.weaken (BW m)) (ABB _) _ _ h;unfold Mk;split
  .rename_i x aF ks e N;split
   .rename_i hy;have hy:=AA9 hy;subst hy;obtain⟨⟨h0,C⟩,j,a,I,k1,E,k3,⟨k4,k5⟩,k6⟩:=h;have hb:=d.blk id;rw[N] at hb;obtain⟨⟨g0,_⟩,l,g1,au,g3,u⟩:=hb;have e1:j=l.length:=by rw[k1] at au;injection au
    have e2:j.toNat=l.length:=by omega
    refine⟨g0,l,g1,g3.1,fun e=>absurd e g3.2,a,I,by rw[k3,e2],by omega,fun bo=>?_⟩;rcases u with⟨_,rfl⟩|⟨X,W,us,u,g5,g6,g7⟩
    .simp at bo
    .rcases k6 _ _ _ N with⟨M,_⟩|⟨b3,ca,M,q2,_⟩
     .rw[u] at M;cases M
     .rw[u] at M;cases M;refine⟨X,0,q2,?_⟩;have b6:=g6.len;refine Ah.holds (ok:=Ag T V m w) (o:=0) (fun b off aa=>⟨j8 aa,rfl⟩) g6 (fun p hp=>⟨⟨(ABF.1 g5).1,g7 _,fun z=>?_⟩,?_⟩)
      .rw[NY];by_cases bb:z=id
       .rw[bb,N];trivial
       .have a1:(m.at z).tracked=true-> V z≠some X:=fun ht Y=>bb (d.inj z id X ht (by rw[N];rfl) Y u);cases bt:m.at z<;>rw[bt] at a1<;>first|trivial|exact a1 rfl|exact fun Y=>absurd Y (a1 rfl)
      .rw[ABJ,Gr g5,ABO (by omega)]
   .exact back
  .exact back
 | .on c a,v,h=>⟨h.1,fun C=>Ss d a v (h.2 C)⟩
 | .gd c a,v,h=>⟨h.1,fun C=>Ss d a v (h.2.1 C),h.2.2⟩
 | .fn f a b,v,⟨W,us,C,O,h3⟩=>⟨W,us,C,MS d a W O,MS d b us h3⟩
 | .agg l,v,⟨W,C,O⟩=>⟨W,C,MS d l W O⟩
 | .tup l,v,⟨W,C,O⟩=>⟨W,C,MS d l W O⟩
 | .any,v,h=>AA.mono0 (AI.weaken (BW m)) (ABB _) _ _ h
 | .anyc,v,h=>AA.mono0 (AI.weaken (BW m)) (ABB _) _ _ h
 | .cb _,v,h=>AA.mono0 (AI.weaken (BW m)) (ABB _) _ _ h
 | .b _,v,h=>AA.mono0 (AI.weaken (BW m)) (ABB _) _ _ h
 | .nb _,v,h=>AA.mono0 (AI.weaken (BW m)) (ABB _) _ _ h
 | .ci _ _,v,h=>AA.mono0 (AI.weaken (BW m)) (ABB _) _ _ h
 | .i _ _ _ _,v,h=>AA.mono0 (AI.weaken (BW m)) (ABB _) _ _ h
 | .cv _,v,h=>AA.mono0 (AI.weaken (BW m)) (ABB _) _ _ h
 | .v _,v,h=>AA.mono0 (AI.weaken (BW m)) (ABB _) _ _ h
 | .s _,v,h=>AA.mono0 (AI.weaken (BW m)) (ABB _) _ _ h
 | .ptr _ _,v,h=>AA.mono0 (AI.weaken (BW m)) (ABB _) _ _ h
 | .pix _ _ _ _ _ _,v,h=>AA.mono0 (AI.weaken (BW m)) (ABB _) _ _ h
 | .ro _ _,v,h=>AA.mono0 (AI.weaken (BW m)) (ABB _) _ _ h
 | .rp _ _ _ _,v,h=>AA.mono0 (AI.weaken (BW m)) (ABB _) _ _ h
 | .vec _ _ _,v,h=>AA.mono0 (AI.weaken (BW m)) (ABB _) _ _ h
 | .sel _ _,v,h=>AA.mono0 (AI.weaken (BW m)) (ABB _) _ _ h
 | .yl _,v,h=>AA.mono0 (AI.weaken (BW m)) (ABB _) _ _ h
 | .asl _ _ _,v,h=>AA.mono0 (AI.weaken (BW m)) (ABB _) _ _ h
 | .rsv _ _ _,v,h=>AA.mono0 (AI.weaken (BW m)) (ABB _) _ _ h
 | .mp _ _ _ _ _,v,h=>AA.mono0 (AI.weaken (BW m)) (ABB _) _ _ h
 | .mv _,v,h=>AA.mono0 (AI.weaken (BW m)) (ABB _) _ _ h
theorem MS (d:AH T n V m w):∀(l:List AC) (W:List Value),AF T n V m w l W->AF T n V (m.map JZ) w (Se m l) W
 |[],_,h=>h
 |c::l,_,⟨u,us,C,O,h3⟩=>⟨u,us,C,Ss d c u O,MS d l us h3⟩
end
theorem Vq (m:Mem):Wk (m.map JZ) (R3 m):=fun id=>by
 unfold R3;rw[NY,Pt _ rfl];cases m.at id with
 |cells l e=>exact .inr ⟨l,Se m l,e,rfl,rfl⟩
 |_=>exact .inl rfl
theorem vP {k:Nat}(p:AH T n V m w)(d:n<=k):AI T n V m w V (R3 m) w:=
 (AI.weaken (BW m)).trans p d ((Vq m).step (n:=k))
theorem xZ (d:AH T n V m w):AH T n V (R3 m) w:=by
 have Y:=AH.weaken d (BW m);have M:AI T n V (m.map JZ) w V (R3 m) w:=(Vq m).step;have u:∀id,Mem.at (R3 m) id=frzB m (m.at id):=fun id=>Pt _ rfl m id;have z:∀id,(Mem.at (R3 m) id).tracked=true->(m.at id).tracked=true:=fun id h=>by
  rw[u] at h;cases p:m.at id<;>rw[p] at h<;>first|rfl|exact h
 refine⟨fun id=>?_,fun id E b C O=>d.inj id E b (z id C) (z E O),d.fr⟩;rcases Vq m id with h|⟨l,ae,e,C,O⟩
 .exact BS.step M Y (ABB _) h rfl (fun _ _=>rfl)
 .cases p:m.at id with
  |cells l0 e0=>
   have y:=d.blk id;rw[p] at y;obtain⟨b,W,N,au,X⟩:=y;rw[u,p];exact⟨b,W,N,au,AF.mono0 M (ABB _) _ _ (MS d l0 W X)⟩
  |_=>rw[NY,p] at C;cases C
theorem SG (m:Mem):∀(t:Tr) (i:Nat),(Vs m t).get i=(t.get i).map (Mk m)
 | .nil,i=>rfl
 | .node v l r,i=>by
  simp only[Vs,Tr.get];rw[SG m l,SG m r];cases Nat.beq i 0<;>simp only[cond];cases Nat.beq (i % 2) 1<;>rfl
theorem uK (m:Mem)(s:AZ)(i:Nat):(mq m s).get i=(s.get i).map (Mk m):=by
 have u:∀l:List (Nat × AC),BH (l.map fun p=>(p.1,Mk m p.2)) i=(BH l i).map (Mk m):=by
  intro l;induction l with
  |nil=>rfl
  |cons p l d=>
   obtain⟨j,c⟩:=p;simp only[ABQ,BH];cases Nat.beq j i<;>first|exact d|rfl
 unfold AZ.get mq;simp only[u];cases BH s.loc i with
 |some c=>rfl
 |none=>exact SG m s.t i
theorem wy {b:Bool}{l:Loc}{a:Act}(h:Rel T n V l a w):AI T n V l.mem w V (L6 b l).mem w/\Rel T n V (L6 b l) a w/\(L6 b l).tmps.n=l.tmps.n:=by
 cases b with
 |false=>exact⟨AI.weaken fun _=> .inl rfl,h,rfl⟩
 |true=>
  have p:=vP h.mem (ABB n);refine⟨p,⟨h.defers.on p,h.size,fun i c d=>?_,xZ h.mem⟩,rfl⟩;have d:(mq l.mem l.tmps).get i=some c:=d;rw[uK,ABU] at d;obtain⟨aN,u,rfl⟩:=d;exact AA.mono0 (Vq l.mem).step (ABB _) _ _ (Ss h.mem _ _ (h.tmps i aN u))
end
section
variable {P:Program}{call:A7}
theorem qv {T:Tab}(h:Option (Tmp × Int × Int))(ad:PC)(t:AZ)(g:G):Ac g (CM h ad t g).2/\(CM h ad t g).2.n=g.n/\(CM h ad t g).1.n=t.n/\
  (Ar T (CM h ad t g).2->pcv T ad->∀n V m a w,Rel T n V ⟨t,m⟩ a w->Rel T n V ⟨(CM h ad t g).1,m⟩ a w):=by
 unfold CM;split
 .exact⟨Ac.refl _,rfl,rfl,fun _ _ _ _ _ _ _ h=>h⟩
 .rename_i i am Y;split
  .rename_i k a1 ax x M;dsimp only;refine⟨Ac.need _ _ _,(DG _ _ _).1,AZ.set_n _ _ _,fun C E n V m a w d=>?_⟩;have p:=Ar.need C E _ (ABi.2 rfl);refine⟨d.defers,by rw[d.size];exact (AZ.set_n _ _ _).symm,fun j c y=>?_,d.mem⟩;rcases AZ.get_set _ _ _ _ y with⟨rfl,_,rfl⟩|⟨_,O⟩
   .obtain⟨N,z,u,W,_⟩:=d.tmps _ _ M;have X:T.get x= .int z:=u;simp only[Pr.holds,Dy,ABQ,ABk,u0,Rf.eval,X,U.toI] at p;exact⟨N,z,u,W,p.1,p.2⟩
   .exact d.tmps j c O
  .dsimp only;exact⟨Ac.refl _,rfl,rfl,fun _ _ _ _ _ _ _ h=>h⟩
theorem aT {k:XK}:∀{l:List BC},noK k l=true->H6 k l=none
 |[],_=>rfl
 |o::l,h=>by
  simp only[noK,List.all_cons,AA8,Bool.not_eq_true',decide_eq_false_iff_not] at h;unfold H6;rw[ACD h.1,aT (l:=l) h.2];rfl
theorem MH (hm:P.follows .mixedOrders=true)(bs:∀T,Ca P T call)(aR:Ct):∀(aM:Nat) (bi:Bool) (ap:Ys) (T:Tab) (r:Option Nat) (ao d:Nat) (c:Code),(bi=false->r=none)->DI P T.lp ap->
  Cr T (Rz P r ao (aR.plan d).isSome aM c) (Bm P call aR bi ap aM d c)
 |0,_,_,_,_,_,_,_,_,_=>fun ad l g L aq h=>by simp only[Bm] at h;cases h
 |aM+1,bi,ap,T,r,ao,d,c,hr,hys=>by
  have cj:∀(T':Tab),T'.lp=T.lp->∀d c,WK P T' r ao c (Bm P call aR bi ap aM d c):=fun T' b5 d c=>(MH hm bs aR aM bi ap T' r ao d c hr (by rw[b5];exact hys)).mono fun Q a w h=>TA h;have ih:∀d c,WK P T r ao c (Bm P call aR bi ap aM d c):=fun d c=>cj T rfl d c;have a7:∀{c:Code} {run:PC->Loc->G->Option (List BC × G)},(∀b,c≠ .loop b)->WK P T r ao c run->Cr T (Rz P r ao (aR.plan d).isSome (aM+1) c) run:=fun hc h=>h.mono fun Q a w hh=>je (fun b e=>absurd e (hc b)) hh;cases c with
  |skip=>exact a7 (fun _ h=>by cases h) (V8 .normal fun Q a w h=>wpIn_skip h)
  |label l=>exact a7 (fun _ h=>by cases h) (V8 .normal fun Q a w h=>wpIn_label h)
  |exit id=>exact a7 (fun _ h=>by cases h) (V8 (.exit id) fun Q a w h=>wpIn_exit h)
  |ret=>exact a7 (fun _ h=>by cases h) (V8 .ret fun Q a w h=>wpIn_ret h)
  |seq x y=>exact a7 (fun _ h=>by cases h) ((VF (ih d x) (ih d y)).mono fun Q a w h=>wpIn_seq h)
  |loop b=>
   cases W:aR.plan d with
   |some p=>
    have O:Cr T (Rz P r ao false aM (.loop b)) (fun _ _ _=>none):=fun ad l g L aq h=>by cases h
    have h3:=(VF (ih d b) O).mono (K2:=Rz P r ao false (aM+1) (.loop b)) fun Q a w h=>h;have h4:=h3.mono (K2:=Rz P r ao true (aM+1) (.loop b)) fun Q a w h=>je (fun _ _=>rfl) (TA h);intro ad l g L aq h;simp only[Bm,W] at h;split at h
    .rename_i ax ho;cases h;unfold xB at ho;split at ho
     .rename_i di g1 hb;split at ho
      .rename_i hn;cases ho;refine h4 ad l g L aq ?_;simp only[hb,ABA,ABd];unfold VT;rw[aT hn]
      .cases ho
     .cases ho
    .exact sQ (r:=r) (ao:=ao) (c:=b) (fun T' b5=>cj T' b5 d b) p ad l g L aq h
   |none=>
    have O:=MH hm bs aR aM bi ap T r ao d (.loop b) hr hys;rw[W] at O;have:=(VF (ih d b) O).mono (K2:=Rz P r ao false (aM+1) (.loop b)) fun Q a w h=>h;intro ad l g L aq h;simp only[Bm,W] at h;exact this ad l g L aq h
  |block id b=>
   refine a7 (fun _ h=>by cases h) ?_;have:=(rX (id:=id) (ih id b)).mono (K2:=fun Q a w=>(Code.block id b).wpIn (fen r) ao P Q a w) fun Q a w h=>wpIn_block h;intro ad l g L aq h;simp only[Bm] at h;exact this ad l g L aq h
  |scope b=>
   refine a7 (fun _ h=>by cases h) ?_;intro ad l g L aq h;simp only[Bm] at h;obtain⟨g1,au⟩:=ih d b ad l g L aq h;refine⟨g1,fun hA W=>?_⟩;obtain⟨h3,h4,h5⟩:=au hA W;refine⟨h3,h4,fun ho z V a w Q u hO=>kh (h5 ho z V a w _ u fun o hm C ac M ab O h6=>?_)⟩;have:=hO o hm C ac M ab O h6;cases hk:o.k<;>(rw[hk] at this;exact this)
  |region id Z b1=>
   refine a7 (fun _ h=>by cases h) ?_;intro ad l g L aq h;simp only[Bm,ABA,AA7] at h;obtain⟨s,aa,h⟩:=h;cases h;unfold jr at aa;have ch:Ac g s.g->s.tmps.n=l.tmps.n->(Agr T s.g->Ar T s.g->pcv T ad->BN T g ad->∀ V a w Q,Rel T g.n V l a w->
     (∀ ac M ab,CG T ac Z s M ab->AI T g.n V l.mem w ac s.mem ab->Q .normal M ab)->(Code.region id Z b1).wpIn (fen r) ao P Q a w)->
     Ac g (CM (aR.nar id) ad s.tmps s.g).2/\(Agr T (CM (aR.nar id) ad s.tmps s.g).2->C4 g ad->EC T (CM (aR.nar id) ad s.tmps s.g).2 l.tmps.n [⟨.normal,ad,L6 (aR.frz id) ⟨(CM (aR.nar id) ad s.tmps s.g).1.commit aR.keep,s.mem⟩⟩]/\(∀o∈([⟨.normal,ad,L6 (aR.frz id) ⟨(CM (aR.nar id) ad s.tmps s.g).1.commit aR.keep,s.mem⟩⟩]:List BC),pcv T o.pc->pcv T ad)/\
      (Ar T (CM (aR.nar id) ad s.tmps s.g).2->pcv T ad->∀ V a w Q,Rel T g.n V l a w->ah T g.n V l.mem w (CM (aR.nar id) ad s.tmps s.g).2.n [⟨.normal,ad,L6 (aR.frz id) ⟨(CM (aR.nar id) ad s.tmps s.g).1.commit aR.keep,s.mem⟩⟩] Q->(Code.region id Z b1).wpIn (fen r) ao P Q a w)):=by
    intro gr b8 k;obtain⟨av,aB,n3,n4⟩:=qv (T:=T) (aR.nar id) ad s.tmps s.g;refine⟨gr.trans av,fun hA W=>?_⟩;have hN:(L6 (aR.frz id) ⟨(CM (aR.nar id) ad s.tmps s.g).1.commit aR.keep,s.mem⟩).tmps.n=l.tmps.n:=by
     have h0:((CM (aR.nar id) ad s.tmps s.g).1.commit aR.keep).n=l.tmps.n:=by rw[AZ.commit_n];exact n3.trans b8
     cases aR.frz id<;>exact h0
    obtain⟨C,O⟩:=EC.one (T:=T) (k:= .normal) (l:=L6 (aR.frz id) ⟨(CM (aR.nar id) ad s.tmps s.g).1.commit aR.keep,s.mem⟩) (N:=l.tmps.n) (W.grow (gr.trans av)) hN;refine⟨C,O,fun a6 z V a w Q u hO=>?_⟩;refine k (hA.of av) (a6.of av) z (W.ok z) V a w Q u fun ac M ab Y ca=>?_;have c7:Rel T (CM (aR.nar id) ad s.tmps s.g).2.n ac ⟨(CM (aR.nar id) ad s.tmps s.g).1.commit aR.keep,s.mem⟩ M ab:=
     Rel.less (l:=⟨(CM (aR.nar id) ad s.tmps s.g).1,s.mem⟩) (n4 a6 z _ _ _ _ _ (by rw[aB];exact Y.rel)) (AZ.commit_n _ _) fun i c hc=>AZ.get_commit _ _ _ hc
    obtain⟨f1,f2,_⟩:=wy (b:=aR.frz id) c7;exact hO _ (ABi.2 rfl) z ac M ab (ca.trans u.mem (gr.trans av).n f1) f2
   cases b1 with
   |true=>
    rw[ACE rfl] at aa;have c8:Z8 P call ap Z ad l g=some s\/∃an a0 tg,Gj an a0 tg P call ap Z ad l g=some s:=by
     split at aa
     .rename_i aF C;injection aa with aa;subst aa;exact .inl C
     .right;have db:∀ns:List Nat,V0 P call ap Z ad l g ns=some s->∃an a0 tg,Gj an a0 tg P call ap Z ad l g=some s:=by
       intro ns;induction ns with
       |nil=>intro h;cases h
       |cons n ns ih=>
        intro h;unfold V0 at h;split at h
        .rename_i aF C;injection h with h
         subst h;split at C<;>exact⟨_,_,_,C⟩
        .exact ih h
      exact db _ aa
    have hk:Ac g s.g/\s.tmps.n=l.tmps.n/\(Agr T s.g->Ar T s.g->pcv T ad->BN T g ad->∀id V a w Q,Rel T g.n V l a w->
      (∀ ac M ab,CG T ac Z s M ab->AI T g.n V l.mem w ac s.mem ab->Q .normal M ab)->(Code.region id Z true).wpIn (fen r) ao P Q a w):=by
     rcases c8 with aa|⟨an,a0,tg,aa⟩
     .exact vF (T:=T) (r:=r) (ao:=ao) hm (bs T) hys aa
     .exact pm (T:=T) (r:=r) (ao:=ao) hm bs hys aa
    obtain⟨gr,b8,k⟩:=hk;exact ch gr b8 fun hA a6 z b9 V a w Q u hK=>k hA a6 z b9 id V a w Q u hK
   |false=>
    rw[ACD (by simp)] at aa;obtain⟨gr,k⟩:=LA (T:=T) (r:=r) (ao:=ao) (bs T) hys aa;refine ch gr (eK aa) fun hA a6 z b9 V a w Q u hK=>?_;refine wpIn_region ?_;rw[List.range_eq_range',<-Array.length_toList];exact k hA a6 z b9 0 V a w Q (fun j=>by simp) ⟨u,fun e he=>by cases he⟩ fun ac M ab Y ca=>hK ac M ab Y ca
  |cond c x y=>
   refine a7 (fun _ h=>by cases h) ?_;intro ad l g L aq h;simp only[Bm] at h;have b6:∀{V a w},Rel T g.n V l a w->AA T g.n V l.mem w (DC [] l.tmps c) (a.eval c):=fun u=>HO u (fun c hc=>by cases hc) c;have cl:∀{e:Nat} {x y:Code} {pol:Bool},V6 (Bm P call aR bi ap aM d) e x y ad l g=some (L,aq)->
     (∀ V a w,Rel T g.n V l a w->∃t,T e= .bool t/\a.eval c= .bool (t==pol))->∀(X bx:Code),(pol=true->X=x/\bx=y)->(pol=false->X=y/\bx=x)->
     Ac g aq/\(Agr T aq->C4 g ad->EC T aq l.tmps.n L/\(∀o∈L,pcv T o.pc->pcv T ad)/\(Ar T aq->pcv T ad->∀ V a w Q,Rel T g.n V l a w->ah T g.n V l.mem w aq.n L Q->(Code.cond c X bx).wpIn (fen r) ao P Q a w)):=by
    intro e x y pol h c9 X bx C O;obtain⟨gr,k⟩:=wl (ih d x) (ih d y) ad l g L aq h;refine⟨gr,fun hA W=>?_⟩;obtain⟨q1,q2,q3⟩:=k hA W;refine⟨q1,q2,fun a6 z V a w Q u hO=>?_⟩;obtain⟨t,e1,e2⟩:=c9 V a w u;obtain⟨k1,E⟩:=q3 a6 z V a w Q u hO;rw[e1] at k1 E;refine wpIn_cond e2 ?_;cases pol with
    |true=>
     obtain⟨rfl,rfl⟩:=C rfl;cases t with
     |true=>exact k1 rfl
     |false=>exact E rfl
    |false=>
     obtain⟨rfl,rfl⟩:=O rfl;cases t with
     |true=>exact k1 rfl
     |false=>exact E rfl
   split at h
   .rename_i t ht;obtain⟨gr,k⟩:=ih d _ ad l g L aq h;refine⟨gr,fun hA W=>?_⟩;obtain⟨q1,q2,q3⟩:=k hA W;refine⟨q1,q2,fun a6 z V a w Q u hO=>?_⟩;have:=b6 u;rw[ht] at this;exact wpIn_cond (t:=t) this (by cases t<;>exact q3 a6 z V a w Q u hO)
   .rename_i e ht;refine cl (pol:=true) h (fun V a w u=>?_) x y (fun _=>⟨rfl,rfl⟩) (fun h=>by cases h);have:=b6 u;rw[ht] at this;obtain⟨_,t,C,O⟩:=this;exact⟨t,C,by rw[O];cases t<;>rfl⟩
   .rename_i e ht;refine cl (pol:=false) h (fun V a w u=>?_) x y (fun h=>by cases h) (fun _=>⟨rfl,rfl⟩);have:=b6 u;rw[ht] at this;obtain⟨_,t,C,O⟩:=this;exact⟨t,C,by rw[O];cases t<;>rfl⟩
   .cases h
  |_=>intro ad l g L aq h;simp only[Bm] at h;cases h
theorem NR (p:P.follows .mixedOrders=true)(d:∀T,Ca P T call)(aR:Ct)(aM:Nat)(ap:Ys)(T:Tab)(ao:Nat)(c:Code)(u:DI P T.lp ap):WK P T none ao c (Bm P call aR false ap aM 0 c):=
 (MH p d aR aM false ap T none ao 0 c (fun _=>rfl) u).mono fun _ _ _ h=>TA h
end
section
variable {P:Program}{T:Tab}{g:G}{n:Nat}{V :Nat->Option Nat}{w:World}{a:Act}
theorem RY {aW d:Type}(f:aW->Sem d)(r:aW->d)(w:World):∀(l:List aW),(∀x∈l,(f x).run P w= .ok (r x) w)->(l.mapM f).run P w= .ok (l.map r) w
 |[],_=>by simp
 |x::l,h=>by
  have C:=h x (ABK ..);have O:=RY f r w l (fun y p=>h y (ABH _ p));simp[List.mapM_cons,C,O]
variable{v:Value}{l:Loc}{c:AC}{D:Nat}{o:Obj}
theorem wk {t:TypeId}{u:Value}(h:(Instr.loadAt t v).run P w= .ok u w):(do loadVar t (<-asAddr v):Sem Value).run P w= .ok u w:=by
 unfold Instr.loadAt at h;cases v with
 |pointer p=>
  cases p with
  |some q=>simpa [Instr.sureAddr,asAddr] using h
  |none=>simp[Instr.sureAddr] at h
 |_=>simp[Instr.sureAddr] at h
def PQ (tmps:Array Value):ResultVar->Sem Value
 | .tmp t=>pure (tmps.getD t undef)
 | .cell a t=>do loadVar t (<-asAddr (tmps.getD a undef))
theorem mV (M:Agr T g)(d:Rel T g.n V l a w){x:ResultVar}{us:List Ex}(h:MR P l g x=some (c,us)):
  ∃v,(PQ a.tmps x).run P w= .ok v w/\AA T g.n V l.mem w c v:=by
 cases x with
 |tmp t=>
  simp only[MR,ABu,Prod.mk.injEq] at h;obtain⟨rfl,rfl⟩:=h;exact⟨_,rfl,d.at t⟩
 |cell p t=>
  simp only[MR,AA7] at h;obtain⟨r,E,h⟩:=h;split at h
  .rename_i N z;cases h;obtain⟨u,C,O,y⟩:=Pv E (by rw[z];exact New.nil _ _) d.mem (d.at p);rw[z] at y;exact⟨u,wk C,y⟩
  .cases h
theorem iC {aC:Func}(M:Agr T g)(N:Rel T g.n V l a w)(h:Uh P aC l g=some c):∃v,(results aC a.tmps).run P w= .ok v w/\AA T g.n V l.mem w c v:=by
 unfold Uh at h;simp only[ABA,AA7] at h;obtain⟨ai,a4,h⟩:=h;obtain⟨y,ax⟩:=Ei _ _ _ a4;have z:∀x∈aC.results.toList,∃v,(PQ a.tmps x).run P w= .ok v w/\∀c us,MR P l g x=some (c,us)->AA T g.n V l.mem w c v:=by
  intro x d;obtain⟨i,Y⟩:=ABZ.1 d;have C:=ax i x Y;have:i < ai.length:=by rw[y];exact (ABD.1 Y).1
  rw[ABC this] at C;obtain⟨v,O,h3⟩:=mV (c:=ai[i].1) (us:=ai[i].2) M N C.symm;grind
 have bb:∃f:ResultVar->Value,∀x∈aC.results.toList,(PQ a.tmps x).run P w= .ok (f x) w/\∀c us,MR P l g x=some (c,us)->AA T g.n V l.mem w c (f x):=by
  classical
  refine⟨fun x=>if d:x∈aC.results.toList then (z x d).choose else undef,fun x d=>?_⟩;grind
 obtain⟨f,X⟩:=bb;have a6:=RY (P:=P) (PQ a.tmps) f w aC.results.toList (fun x d=>(X x d).1);have p:AF T g.n V l.mem w (ai.map (·.1)) (aC.results.toList.map f):=by
  refine AF.of_get (by simp[y]) fun i c u hc hu=>?_;grind
 have a2:(results aC a.tmps).run P w= .ok (if h:(aC.results.toList.map f).toArray.size=1 then (aC.results.toList.map f).toArray[0] else .tuple (aC.results.toList.map f).toArray) w:=by
  have e:(aC.results.mapM (PQ a.tmps)).run P w= .ok (aC.results.toList.map f).toArray w:=by
   rw[Array.mapM_eq_mapM_toList];simp[a6]
  have E:results aC a.tmps=(do let W<-aC.results.mapM (PQ a.tmps);pure (if h:W.size=1 then W[0] else .tuple W)):=rfl;rw[E,ABo];rw[e];simp
 refine⟨_,a2,?_⟩;split at h
 .rename_i aN bt;cases h;obtain⟨u,us,e1,e2,e3⟩:=p;grind
 .rename_i a1;cases h;have a7:(aC.results.toList.map f).toArray.size≠1:=by
   have:=p.length;simp at this⊢;intro C;rw[C] at this;cases ai with
   |nil=>simp at this
   |cons r ai=>
    cases ai with
    |nil=>exact a1 _ _ rfl
    |cons=>simp at this
  rw[dif_neg a7];exact⟨_,rfl,p⟩
def w9:Obj->Bool| .deferred _=>true| .mapIter .. =>true|_=>false
def NoC (w:World)(D:Nat):Prop:=∃d,w.heap[D]? =some d/\w9 d=true
theorem NoC.no {w:World}(h:NoC w D)(k:w.heap[D]? =some o)(d:w9 o=false):False:=by
 obtain⟨p,C,O⟩:=h;grind
theorem sF (h:NoC w D)(z:∀W e p,o≠ .cells W e p){b off:Nat}(d:w.cell? ⟨b,off,none⟩=some v):(w.putObj D o).cell? ⟨b,off,none⟩=some v:=by
 have u:b≠D:=fun e=>by
  subst e;obtain⟨y,C,O⟩:=h;cases y<;>first|(cases O;done)|(simp[World.cell?,C] at d)
 rw[<-d];exact Bq (World.putObj_heap_other u) off
mutual
theorem AX.put {D:Nat}{o:Obj}(h:NoC w D)(E:∀W e d,o≠ .cells W e d){ok N:Nat->Nat->Prop}(M:∀b off,ok b off->N b off):∀(k:Kd) (u:U) (v:Value),AX ok w k u v->AX N (w.putObj D o) k u v
 | .int _ _ _,_,_,hh=>hh
 | .bool,_,_,hh=>hh
 | .str,_,_,hh=>hh
 | .val,_,_,hh=>hh
 | .any,_,_,hh=>hh
 | .list ks,u,v,⟨l,h0,C,O,a,I,h3,h4,h5⟩=>by
  refine⟨l,h0,C,O,a,I,h3,h4,fun z=>?_⟩;obtain⟨b,X,p,y⟩:=h5 z;exact⟨b,X,p,fun i us Y=>Al.put h E M ks b _ us (y i us Y)⟩
theorem Al.put {D:Nat}{o:Obj}(h:NoC w D)(d:∀W e y,o≠ .cells W e y){ok N:Nat->Nat->Prop}(p:∀b off,ok b off->N b off):∀(ks:List Kd) (b off:Nat) (us:List U),Al ok w ks b off us->Al N (w.putObj D o) ks b off us
 |[],_,_,_,hh=>hh
 |k::ks,b,off,us,⟨u,us',e,⟨C,v,O,h3⟩,h4⟩=>
  ⟨u,us',e,⟨p b off C,v,sF h d O,AX.put h d p k u v h3⟩,Al.put h d p ks b _ us' h4⟩
end
theorem AT.put {D:Nat}{o:Obj}(h:NoC w D)(d:∀W e y,o≠ .cells W e y){ok N:Nat->Nat->Prop}(p:∀b off,ok b off->N b off):∀{ks:List Kd} {us:List U} {W:List Value},AT ok w ks us W->AT N (w.putObj D o) ks us W
 |[],_,_,hh=>hh
 |k::_,_,_,⟨u,us',v,vs',e1,e2,C,O⟩=>⟨u,us',v,vs',e1,e2,AX.put h d p k u v C,AT.put h d p O⟩
theorem A9.put {D:Nat}{o:Obj}(h:NoC w D)(d:∀W e u,o≠ .cells W e u){ok N:Nat->Nat->Prop}(p:∀b off,ok b off->N b off){ks:List Kd}:∀{l:U'} {R:List (List Value)},A9 ok w ks l R->A9 N (w.putObj D o) ks l R
 |[],_,hh=>hh
 |_::_,_,⟨W,vss',e,C,O⟩=>⟨W,vss',e,AT.put h d p C,A9.put h d p O⟩
theorem Ah.put {D:Nat}{o:Obj}(h:NoC w D)(u:∀W e d,o≠ .cells W e d){ok N:Nat->Nat->Prop}(y:∀b off,ok b off->N b off){ks:List Kd}{l:U'}{W:List Value}(p:Ah ok w ks l W):Ah N (w.putObj D o) ks l W:=by
 obtain⟨R,C,O⟩:=p;exact⟨R,C,A9.put h u y O⟩
theorem CJ.put {D:Nat}{o:Obj}(h:NoC w D)(u:∀W e d,o≠ .cells W e d){ok N:Nat->Nat->Prop}(y:∀b off,ok b off->N b off){ks:List Kd}{a7:Bool}{us:List U}{v:Value}(p:CJ ok w ks a7 us v):CJ N (w.putObj D o) ks a7 us v:=by
 obtain⟨W,C,O⟩:=p;exact⟨W,AT.put h u y C,O⟩
section
variable {m:Mem}{D:Nat}{o:Obj}
theorem Ag.put {b off:Nat}(h:Ag T V m w b off):Ag T V m (w.putObj D o) b off:=⟨by rw[World.putObj_size];exact h.1,h.2.1,h.2.2⟩
mutual
theorem AA.put (h:NoC w D)(d:∀W e Y,o≠ .cells W e Y):∀(c:AC) (v:Value),AA T n V m w c v->AA T n V m (w.putObj D o) c v
 | .any,_,_=>trivial
 | .anyc,_,hh=>hh
 | .on _ a,v,hh=>⟨hh.1,fun N=>AA.put h d a v (hh.2 N)⟩
 | .gd _ a,v,hh=>⟨hh.1,fun N=>AA.put h d a v (hh.2.1 N),hh.2.2⟩
 | .cb _,_,hh=>hh
 | .b _,_,hh=>hh
 | .nb _,_,hh=>hh
 | .ci _ _,_,hh=>hh
 | .i _ _ _ _,_,hh=>hh
 | .cv _,_,hh=>hh
 | .v _,_,hh=>hh
 | .s _,_,hh=>hh
 | .ptr _ _,_,hh=>hh
 | .pix _ _ _ _ _ _,_,hh=>hh
 | .ro x ks,v,⟨h0,C⟩=>⟨h0,AX.put h d (fun _ _ aa=>Ag.put aa) _ _ _ C⟩
 | .rp x t off ks,v,⟨h0,j,b,o',us,C,O,h3,h4,h5⟩=>⟨h0,j,b,o',us,C,O,h3,h4,Al.put h d (fun _ _ aa=>Ag.put aa) _ _ _ _ h5⟩
 | .vec id x ks,v,⟨h0,C,O,h3⟩=>⟨h0,C,AX.put h d (fun _ _ aa=>Ag.put aa) _ _ _ O,fun af e u=>by
   rcases h3 af e u with⟨X,ah⟩|⟨b,I,W,X,ah,p,M⟩
   .exact .inl ⟨X,ah⟩
   .have z:b≠D:=fun e=>by subst e;exact h.no p rfl
    exact .inr ⟨b,I,W,X,ah,by rw[World.putObj_heap_other z];exact p,M⟩⟩
 | .fn f first I,v,⟨W,us,C,O,h3⟩=>⟨W,us,C,AF.put h d first W O,AF.put h d I us h3⟩
 | .sel x alts,v,⟨h0,j,C,O,h3⟩=>⟨h0,j,C,O,Av.put h d alts j.toNat v h3⟩
 | .yl _,_,hh=>hh
 | .asl _ _ _,_,hh=>hh
 | .rsv id x ks,v,⟨h0,C,O,h4,h3⟩=>⟨h0,C,O,h4,fun af e u=>by
   rcases h3 af e u with⟨X,ah⟩|⟨b,len,I,W,X,ah,l0,p,M⟩
   .exact .inl ⟨X,ah⟩
   .have z:b≠D:=fun e=>by subst e;exact h.no p rfl
    exact .inr ⟨b,len,I,W,X,ah,l0,by rw[World.putObj_heap_other z];exact p,M⟩⟩
 | .mr id y,v,⟨h0,j,a,I,k1,E,k3,k4,k5⟩=>⟨h0,j,a,I,k1,E,k3,k4,fun x ks e u=>by
   rcases k5 x ks e u with X|⟨b,W,X,ah,p,M⟩
   .exact .inl X
   .have z:b≠D:=fun e=>by subst e;exact h.no p rfl
    exact .inr ⟨b,W,X,ah,by rw[World.putObj_heap_other z];exact p,M⟩⟩
 | .mp _ _ _ _ _,_,hh=>hh
 | .mv _,_,hh=>hh
 | .agg l,v,⟨W,C,O⟩=>⟨W,C,AF.put h d l W O⟩
 | .tup l,v,⟨W,C,O⟩=>⟨W,C,AF.put h d l W O⟩
theorem AF.put (h:NoC w D)(d:∀W e p,o≠ .cells W e p):∀(l:List AC) (W:List Value),AF T n V m w l W->AF T n V m (w.putObj D o) l W
 |[],_,hh=>hh
 |c::l,W,⟨u,us,C,O,h3⟩=>⟨u,us,C,AA.put h d c u O,AF.put h d l us h3⟩
theorem Av.put (h:NoC w D)(d:∀W e p,o≠ .cells W e p):∀(l:List AC) (j:Nat) (v:Value),Av T n V m w l j v->Av T n V m (w.putObj D o) l j v
 |[],_,_,hh=>hh.elim
 |c::_,0,v,hh=>AA.put h d c v hh
 |_::l,j+1,v,hh=>Av.put h d l j v hh
end
theorem AH.put (h:NoC w D)(M:∀W e fr,o≠ .cells W e fr)(hm:AH T n V m w):AH T n V m (w.putObj D o):=by
 refine⟨fun id=>?_,hm.inj,fun b off d=>hm.fr b off (by rw[World.putObj_size] at d;exact d)⟩;have d:=hm.blk id;cases hx:m.at id with
 |pad=>trivial
 |gone=>trivial
 |cells l e=>
  rw[hx] at d;obtain⟨b,W,C,O,p⟩:=d;have z:b≠D:=fun e=>by subst e;exact h.no O rfl
  exact⟨b,W,C,by rw[World.putObj_heap_other z];exact O,AF.put h M l W p⟩
 |tok x ks e=>
  rw[hx] at d;obtain⟨N,l,C,O⟩:=d;refine⟨N,l,C,?_⟩;rcases O with O|⟨b,W,O,p,u⟩
  .exact .inl O
  .have z:b≠D:=fun e=>by subst e;exact h.no p rfl
   exact .inr ⟨b,W,O,by rw[World.putObj_heap_other z];exact p,u⟩
 |lp s st=>
  rw[hx] at d;obtain⟨b,q,C,O,p,u,E,X,Y,j,h8,h9⟩:=d;have z:b≠D:=fun e=>by subst e;exact h.no O rfl
  exact⟨b,q,C,by rw[World.putObj_heap_other z];exact O,p,u,E,X,fun i c hc=>AA.put h M c _ (Y i c hc),j,AA.put h M st _ h8,h9⟩
 |mrow x y ks e=>
  rw[hx] at d;obtain⟨N,l,C,O,p,u⟩:=d;refine⟨N,l,C,O,p,?_⟩;rcases u with u|⟨b,W,us,u,E,X,Y⟩
  .exact .inl u
  .have z:b≠D:=fun e=>by subst e;exact h.no E rfl
   exact .inr ⟨b,W,us,u,by rw[World.putObj_heap_other z];exact E,Ah.put h M (fun _ _ aa=>Ag.put aa) X,Y⟩
 |mapb x ao ka aJ aT=>
  rw[hx] at d;obtain⟨N,l,b,ar,a6,C,O,p,u,E,X,Y⟩:=d;have z:b≠D:=fun e=>by subst e;exact h.no p rfl
  exact⟨N,l,b,ar,a6,C,O,by rw[World.putObj_heap_other z];exact p,u,E,fun i us e h8 h9=>by
   obtain⟨u1,u2,g1,au,g3⟩:=X i us e h8 h9;exact⟨u1,u2,g1,CJ.put h M (fun _ _ aa=>Ag.put aa) au,CJ.put h M (fun _ _ aa=>Ag.put aa) g3⟩,Y⟩
structure DV (T:Tab) (n:Nat) (ρ :Nat->Option Nat) (m:Mem) (B:Nat) (w w':World):Prop where
 os:w'.os=w.os
 tape:w'.tape=w.tape
 output:w'.output=w.output
 size:w'.heap.size=w.heap.size
 low:∀k,k < B->w'.heap[k]? =w.heap[k]?
 holds:∀c v,AA T n ρ m w c v->AA T n ρ m w' c v
 mem:AH T n ρ m w->AH T n ρ m w'
theorem DV.refl (T:Tab)(n:Nat)(V :Nat->Option Nat)(m:Mem)(B:Nat)(w:World):DV T n V m B w w:=⟨rfl,rfl,rfl,rfl,fun _ _=>rfl,fun _ _ h=>h,fun h=>h⟩
theorem DV.trans {B:Nat}{ab aq:World}(h:DV T n V m B w ab)(k:DV T n V m B ab aq):DV T n V m B w aq:=
 ⟨k.os.trans h.os,k.tape.trans h.tape,k.output.trans h.output,k.size.trans h.size,fun i Y=>(k.low i Y).trans (h.low i Y),fun c v d=>k.holds c v (h.holds c v d),fun d=>k.mem (h.mem d)⟩
theorem DV.put {B:Nat}(h:NoC w D)(y:B<=D)(p:∀W e u,o≠ .cells W e u):DV T n V m B w (w.putObj D o):=
 ⟨rfl,rfl,rfl,World.putObj_size,fun k z=>World.putObj_heap_other (by omega),fun c v d=>AA.put h p c v d,fun d=>d.put h p⟩
theorem AI.after {n0:Nat}{a3:Nat->Option Nat}{aP:Mem}{aH ab:World}(h:AI T n0 a3 aP aH V m w)(z:AH T n0 a3 aP aH)(k:DV T n V m aH.heap.size w ab):AI T n0 a3 aP aH V m ab where
 os:=k.os.trans h.os
 tape:=k.tape.trans h.tape
 output:=k.output.trans h.output
 size:=by rw[k.size];exact h.size
 mlen:=h.mlen
 rho:=h.rho
 untr:=h.untr
 fresh:=h.fresh
 old:=fun i Y N=>(k.low i Y).trans (h.old i Y N)
 tok:=fun id x ks e u=>by
  have lt:∀b, a3 id=some b->b < aH.heap.size:=fun b d=>z.lt (by rw[u];rfl) d;rcases h.tok id x ks e u with⟨C,O,p⟩|⟨C,O⟩
  .exact .inl ⟨C,O,fun b d=>(k.low b (lt b d)).trans (p b d)⟩
  .exact .inr ⟨fun b d off X=>(Bq (k.low b (lt b d)) off).trans (C b d off X),O⟩
 row:=fun id x y ks e u=>by
  have lt:∀b, a3 id=some b->b < aH.heap.size:=fun b d=>z.lt (by rw[u];rfl) d;rcases h.row id x y ks e u with C|⟨L,aF,af,C,O,⟨p,E,M⟩|p⟩
  .exact .inl C
  .exact .inr ⟨L,aF,af,C,O,.inl ⟨p,E,fun b W d hv=>by rw[k.low b (lt b d)];exact M b W d hv⟩⟩
  .exact .inr ⟨L,aF,af,C,O,.inr p⟩
theorem Od {aC:Func}{tmps:Array Value}{R:Ending->World->Prop}{ao B:Nat}:∀(d:List Nat) (w:World),d.Nodup->(∀D∈d,B<=D/\w.heap[D]? =some (.deferred (some [])))->
  (∀ab,DV T n V m B w ab->∃v,(results aC tmps).run P ab= .ok v ab/\R (.returned v) ab)->
  LeavesInM (fen none) ao P aC tmps R (d.map fun D=>{ target:= .collected D,args:= #[] }) .returning w
 |[],w,_,_,hK=>hK w (DV.refl _ _ _ _ _ _)
 |D::d,w,hn,hD,hK=>by
  obtain⟨C,O⟩:=hD D (ABK ..);have y:DV T n V m B w (w.putObj D (.deferred none)):=DV.put ⟨_,O,rfl⟩ C (fun _ _ _ h=>by cases h);refine⟨fun h=>(by cases h),.inl ⟨D,_,rfl,run_takeDeferred O,?_⟩⟩;refine Od d _ (List.nodup_cons.1 hn).2 (fun u p=>?_) fun ab z=>hK ab (y.trans z);obtain⟨M,E⟩:=hD u (ABH _ p);refine⟨M,?_⟩;rw[World.putObj_heap_other (fun e=>(List.nodup_cons.1 hn).1 (by rw[<-e];exact p))];exact E
end
theorem SK:∀(args:List AC) (i:Nat) (t:Tr) (j:Nat) (c:AC),(OJ i args t).get j=some c->(∃k,j=i+k/\args[k]? =some c)\/t.get j=some c
 |[],i,t,j,c,h=> .inr h
 |a::args,i,t,j,c,h=>by
  simp only[OJ] at h;rcases SK args (i+1) _ j c h with⟨k,C,O⟩|C
  .exact .inl ⟨k+1,by omega,by simpa using O⟩
  .rcases Tr.get_setF _ _ _ _ _ _ C with⟨d,E⟩|⟨_,E⟩
   .exact .inl ⟨0,by omega,by simpa using E⟩
   .exact .inr E
def fg (P:Program)(aC:Func)(k:XK)(a:Act)(w:World)(v:Value)(ab:World):Prop:=(k= .ret\/k= .normal)/\ab=w/\(results aC a.tmps).run P w= .ok v w
theorem YO {aC:Func}:∀o g c m,Lc P aC o g=some (c,m)->Agr T g->∀ V a w,True->Rel T g.n V o.l a w->∃v ab ac,fg P aC o.k a w v ab/\AI T g.n V o.l.mem w ac m ab/\AH T g.n ac m ab/\AA T g.n ac m ab c v:=by
 intro o g c m h y V a w _ d;unfold Lc at h;split at h
 .rename_i z;simp only[ABU] at h;obtain⟨aN,C,O⟩:=h;cases O;obtain⟨v,p,u⟩:=iC y d C;exact⟨v,w, V,⟨z,rfl,p⟩,AI.refl _ _ _ _ _,d.mem,u⟩
 .cases h
theorem Ui {aC:Func}:∀{L:List BC} {g aq:G} {c:AC} {ag:Mem},Cv (Lc P aC) L g=some (c,ag,aq)->∀o∈L,o.k= .ret\/o.k= .normal
 |[],g,aq,c,ag,h=>by simp only[Cv] at h;cases h
 |[o],g,aq,c,ag,h=>by
  simp only[Cv,ABA,AA7] at h;obtain⟨⟨aN,aP⟩,h,_⟩:=h;intro u d;simp at d;subst d;unfold Lc at h;split at h
  .rename_i p;exact p
  .cases h
 |o::o2::os,g,aq,c,ag,h=>by
  simp only[Cv,ABA,AA7] at h;obtain⟨⟨y,al,z⟩,C,⟨aN,aP⟩,h,_⟩:=h;intro u d;cases d with
  |head=>
   unfold Lc at h;split at h
   .rename_i p;exact p
   .cases h
  |tail _ d=>exact Ui (L:=o2::os) C u d
theorem ij {call:A7}{Ab:FuncId->Ct}{aM:Nat}(hm:P.follows .mixedOrders=true)(bs:∀T,Ca P T call)(T:Tab):Ca P T (ov P call Ab aM):=by
 intro ap k args ad m g c ag aq ax h;unfold ov at h;simp only[ABA,AA7] at h;obtain⟨aC,bx,body,bo,h⟩:=h;split at h
 .cases h
 rename_i bt;simp only[ABe,not_or,Bool.not_eq_true] at bt;obtain⟨cx,bm⟩:=bt;have db:args.length<=aC.ntmps:=by
  rcases ABN aC.ntmps args.length with b1|cl
  .rw[<-Nat.blt_eq] at b1;rw[b1] at bm;cases bm
  .exact cl
 simp only[AA7] at h;obtain⟨⟨L,y⟩,hc,h⟩:=h;simp only at h;generalize c5:({ ap with mu:=(Ab k).mu }:Ys)=ys1 at hc;have ax:DI P T.lp ys1:=by subst c5;exact ax
 have bi:=(NR hm bs (Ab k) aM ys1 T 0 body ax ad _ g L y hc).1;have a2:=JH h;refine⟨bi.trans a2,fun hA cy hp c1 V w W b5 b3=>⟨⟨aC,bx,by rw[bo];rfl,cx⟩,?_⟩⟩;let p:=T.atBase w.heap.size;have d:=Kk T w.heap.size;have z:AH p g.n V m w:=b3.tab (d _);have c4:AF p g.n V m w args W:=AF.tab (d _).eq (fun b off hh=>(d _).safe b3 hh) _ _ b5;obtain⟨_,k1⟩:=NR hm bs (Ab k) aM ys1 p 0 body ax ad _ g L y hc;obtain⟨q1,q2,q3⟩:=k1 (QH (hA.of a2)) c1.lt;refine (callsIn_wide (n:=0)).1 (callsIn_of_wp_marks (F:=fen none) bx bo trivial ?_);have cv:=b5.length;have hR:Rel p g.n V ⟨Ht aC.ntmps args,m⟩ { tmps:=(W:List Value).toArray++Array.replicate (aC.ntmps - (W:List Value).toArray.size) undef,defers:=[] } w:=by
  refine⟨D7.nil _ _ _ (ABB _),?_,fun i c Y=>?_,z⟩
  .simp[Ht,cv];omega
  .have cs:(OJ 0 args .nil).get i=some c:=by
    have:(Ht aC.ntmps args).get i=(OJ 0 args .nil).get i:=by simp[Ht,AZ.get,BH]
    rw[<-this];exact Y
   rcases SK _ _ _ _ _ cs with⟨j,C,O⟩|C
   .rw[ABJ] at C;subst C;obtain⟨u,h3,h4⟩:=c4.get O;have:((W:List Value).toArray++Array.replicate (aC.ntmps - (W:List Value).toArray.size) undef).getD i undef=u:=by
     have cu:i < W.length:=(ABD.1 h3).1;simp[ABG,Array.getElem?_append,cu];grind
    rw[this];exact h4
   .simp[Tr.get] at C
 refine q3 (WL (cy.of a2)) (Pk.2 hp) V _ w _ hR fun o ho c2 ac a' ab aa M=>?_;have cj:LeavesInM (fen none) 0 P aC a'.tmps (G8 T g V m w c ag aq) a'.defers .returning ab:=by
  obtain⟨d0,Ds,d1,d2,d3⟩:=M.defers;rw[d1];refine Od (T:=p) (n:=y.n) (V := ac) (m:=o.l.mem) (B:=w.heap.size) Ds ab d2 (fun D hD=>⟨(d3 D hD).1,(d3 D hD).2.1⟩) fun w2 X=>?_;have c3:Rel p y.n ac o.l { tmps:=a'.tmps,defers:=[] } w2:=⟨D7.nil _ _ _ (by rw[X.size];exact d0),M.size,fun i c Y=>X.holds _ _ (M.tmps i c Y),X.mem M.mem⟩;obtain⟨v,w3, aV,⟨_,rfl,e1⟩,e2,e3,e4⟩:=QU (T:=p) (I:=fun _=>True) (E:=fg P aC) (N:=(Ht aC.ntmps args).n) YO h (QH hA) q1 o ho c2 ac _ w2 trivial c3;refine⟨v,e1,v, aV,rfl,?_,e3.tab (d _).symm,AA.tab (d _).symm.eq (fun b off hh=>(d _).symm.safe e3 hh) _ _ e4⟩;have st:=(aa.after z X).trans z bi.n e2;exact AI.tab (d _).symm z st (fun _ _ _ _ _=>rfl)
 rcases Ui h o ho with hk|hk<;>rw[hk]<;>exact cj
theorem Ge {bd:FuncId->Option A7}{Ab:FuncId->Ct}{aM:Nat}(z:P.follows .mixedOrders=true)(y:∀f c,bd f=some c->∀T,∀ap k args ad m g u ag aq,k=f->DI P T.lp ap->c ap k args ad m g=some (u,ag,aq)->Ac g aq/\(Agr T aq->Ar T aq->pcv T ad->BN T g ad->∀ V w W,AF T g.n V m w args W->AH T g.n V m w->
  (∃aC,P.funcs[k]? =some aC/\aC.body.isSome=true/\(aC.name== "runtime.NumGoroutine")=false)/\Calls P k (W:List Value).toArray w (G8 T g V m w u ag aq))):
  ∀(d:Nat) (T:Tab),Ca P T (Ew P bd Ab aM d)
 |0,T=>fun ap k args ad m g c ag aq _ h=>by simp only[Ew] at h;cases h
 |d+1,T=>by
  intro ap k args ad m g c ag aq C h;simp only[Ew] at h;cases p:bd k with
  |some E=>
   rw[p] at h;exact y k E p T ap k args ad m g c ag aq rfl C h
  |none=>
   rw[p] at h;exact ij z (Ge z y d) T ap k args ad m g c ag aq C h
end
end
section
open Go Go.RowKit Go.Deep
def K8 (P:Program)(d:TypeId->Option (List Kd)):List Field->Nat->Option (List Kd)
 |[],_=>some []
 |f::fs,off=>do
  let ks<-d f.type
  if Nat.beq f.offset off&&Nat.beq ks.length (P.cellsOf f.type) then
   let r<-K8 P d fs (off+ks.length)
   some (ks++r)
  else none
def Ev (P:Program):Nat->TypeId->Option (List Kd)
 |0,_=>none
 |d+1,t=>
  match P.underlying t with
  |some .bool=>some [.bool]
  |some (.int k)=>some [.int k k.min k.max]
  |some .string=>some [.str]
  |some (.slice e)=>do
   let ks<-Ev P d e
   if Nat.beq ks.length (P.cellsOf e)&&Nat.blt 0 ks.length then some [.list ks] else none
  |some (.struct fs)=>do
   let ks<-K8 P (Ev P d) fs.toList 0
   if Nat.beq ks.length (P.cellsOf t) then some ks else none
  |some (.array n e)=>do
   let ks<-Ev P d e
   if Nat.beq ks.length (P.cellsOf e)&&Nat.beq (n*ks.length) (P.cellsOf t) then some (List.replicate n ks).flatten else none
  |_=>none
inductive Dh {H:Type} (B:Nat):DataW H->Prop where
 |lit {l:Lit} (h:∀s,l= .string s->s.length<=B):Dh B (.lit l)
 |nil:Dh B .nil
 |slice {l s:List (DataW H)} (hl:l.length<=B) (h:∀d∈l,Dh B d):Dh B (.slice l s)
 |agg {l:List (DataW H)} (h:∀d∈l,Dh B d):Dh B (.agg l)
 |ptr (d:DataW H):Dh B (.ptr d)
 |iface (t:String) (d:DataW H):Dh B (.iface t d)
 |map (es:List (Lit × DataW H)):Dh B (.map es)
 |held (h:H):Dh B (.held h)
mutual
def KdU (B:Nat):Kd->U->Prop
 | .int _ am Y,u=>∃n,u= .int n/\am<=n/\n<=Y
 | .bool,u=>∃b,u= .bool b
 | .str,u=>∃s,u= .str s/\s.size<=B
 | .val,_=>True
 | .any,_=>True
 | .list ks,u=>∃l:U',u= .list l/\l.length<=B/\∀(i:Nat) (us:List U),l[i]? =some us->AL B ks us
def AL (B:Nat):List Kd->List U->Prop
 |[],us=>us=[]
 |k::ks,us=>∃u d,us=u::d/\KdU B k u/\AL B ks d
end
theorem AL.append {B:Nat}:∀{ks af:List Kd} {us d:List U},AL B ks us->AL B af d->AL B (ks++af) (us++d)
 |[],_,us,d,h,h'=>by rw[show us=[] from h];exact h'
 |k::ks,_,us,d,⟨u,us1,e,C,O⟩,h'=>by
  subst e;exact⟨u,us1++d,rfl,C,AL.append O h'⟩
def DL (ok:Nat->Nat->Prop)(w:World):List Kd->List U->List Value->Prop
 |[],[],[]=>True
 |k::ks,u::us,c::aD=>AX ok w k u c/\DL ok w ks us aD
 |_,_,_=>False
section
variable {ok:Nat->Nat->Prop}{w:World}
theorem DL.len:∀{ks:List Kd} {us:List U} {aD:List Value},DL ok w ks us aD->us.length=ks.length/\aD.length=ks.length
 |[],[],[],_=>⟨rfl,rfl⟩
 |_::_,_::_,_::_,h=>by
  obtain⟨C,O⟩:=DL.len h.2;simp[C,O]
 |[],_::_,_,h=>by cases h
 |[],[],_::_,h=>by cases h
 |_::_,[],_,h=>by cases h
 |_::_,_::_,[],h=>by cases h
theorem DL.append:∀{ks af:List Kd} {us p:List U} {aD d:List Value},DL ok w ks us aD->DL ok w af p d->DL ok w (ks++af) (us++p) (aD++d)
 |[],_,[],_,[],_,_,h=>h
 |_::_,_,_::_,_,_::_,_,h,h'=>⟨h.1,DL.append h.2 h'⟩
 |[],_,_::_,_,_,_,h,_=>by cases h
 |[],_,[],_,_::_,_,h,_=>by cases h
 |_::_,_,[],_,_,_,h,_=>by cases h
 |_::_,_,_::_,_,[],_,h,_=>by cases h
theorem DL.mem {b:Nat}:∀{ks:List Kd} {us:List U} {aD:List Value} {off:Nat},DL ok w ks us aD->(∀j c,aD[j]? =some c->ok b (off+j)/\w.cell? ⟨b,off+j,none⟩=some c)->Al ok w ks b off us
 |[],[],[],_,_,_=>rfl
 |k::ks,u::us,c::aD,off,h,hm=>by
  obtain⟨az,al⟩:=hm 0 c rfl;refine⟨u,us,rfl,⟨az,c,al,h.1⟩,DL.mem h.2 fun j d hd=>?_⟩;have:=hm (j+1) d (by simpa using hd);rw[show off+(j+1)=off+1+j by omega] at this;exact this
 |[],_::_,_,_,h,_=>by cases h
 |[],[],_::_,_,h,_=>by cases h
 |_::_,[],_,_,h,_=>by cases h
 |_::_,_::_,[],_,h,_=>by cases h
end
theorem WP {w:World}{base n:Nat}{a:Addr}{aD:List Value}(h:w.cells? base a n=some aD):aD.length=n/\∀j,j < n->w.cell? (a.add j)=aD[j]? :=by
 unfold World.cells? at h;split at h
 .obtain⟨C,O⟩:=Ei _ _ _ h;grind
 .cases h
section
variable {H:Type}{enc:TypeId × Value->H}{P:Program}{w:World}{base:Nat}{be:Nat->Bool}{bc:Bool}{B:Nat}
theorem Bt (hB:B<=AB):∀(d:Nat) {t:TypeId} {ks:List Kd} {aM:Nat} {aD:List Value} {x:DataW H × List MemPlace},Ev P d t=some ks->DataW.trod enc P w base be bc aM t aD=some x->Dh B x.1->
  ∃us,DL (fun b _=>b < w.heap.size) w ks us aD/\AL B ks us
 |0,t,ks,aM,aD,x,p,_,_=>by simp[Ev] at p
 |d+1,t,ks,aM,aD,x,p,h,aa=>by
  simp only[Ev] at p;split at p
  .rename_i z;obtain⟨b,rfl,rfl⟩:=DataW.trod_bool z h;cases p;exact⟨[.bool b],⟨⟨b,rfl,rfl⟩,trivial⟩,_,_,rfl,⟨b,rfl⟩,rfl⟩
  .rename_i k z;obtain⟨n,rfl,rfl,c4⟩:=DataW.trod_int z h;cases p;have X:k.min<=n/\n<=k.max:=by simpa [Lit.wf] using c4
   exact⟨[.int n],⟨⟨n,rfl,rfl,X⟩,trivial⟩,_,_,rfl,⟨n,rfl,X⟩,rfl⟩
  .rename_i z;obtain⟨s,rfl,rfl,_⟩:=DataW.trod_string z h;cases p;cases aa with
   |lit aa=>
   have X:=aa _ rfl;have cc:s.size<=B:=by simpa using X
   exact⟨[.str s],⟨⟨s,rfl,rfl,ABS cc hB⟩,trivial⟩,_,_,rfl,⟨s,rfl,cc⟩,rfl⟩
  .
   rename_i e z;simp only[ABA,AA7] at p;obtain⟨u,he,p⟩:=p;split at p
   .rename_i y;rw[AA8] at y;have bm:=AA9 y.1;have cf:=BF y.2;cases p;rcases open_slice z h with⟨rfl,rfl⟩|⟨a,len,I,m,n,D,Pl,rfl,_,b2,_,hm,rfl,cx⟩
    .exact⟨[.list []],⟨⟨[],rfl,ABh _,fun _=>rfl,none,0,rfl,ABB _,fun h=>absurd h (by simp)⟩,trivial⟩,_,_,rfl,⟨[],rfl,ABh _,fun i us Y=>by simp at Y⟩,rfl⟩
    .have dd:len<=m:=by rw[hm];split<;>omega
     cases aa with
     |slice hl a4=>
     have ca:∀i,i < len->∃us,∃M,w.cells? base (a.add (i*P.cellsOf e)) (P.cellsOf e)=some M/\DL (fun b _=>b < w.heap.size) w u us M/\AL B u us:=fun i Y=>by
      obtain⟨M,C,O⟩:=cx i (by omega);obtain⟨us,N⟩:=Bt hB d he O (a4 _ (ACI.2 ⟨i,by simp[Y],rfl⟩));exact⟨us,M,C,N⟩
     have c7:∃f:Nat->List U,∀i,i < len->∃M,w.cells? base (a.add (i*P.cellsOf e)) (P.cellsOf e)=some M/\DL (fun b _=>b < w.heap.size) w u (f i) M/\AL B u (f i):=by
      classical
      refine⟨fun i=>if Y:i < len then (ca i Y).choose else [],fun i Y=>?_⟩;simp only[Y,dif_pos];exact (ca i Y).choose_spec
     obtain⟨f,hf⟩:=c7;refine⟨[.list ((List.range len).map f)],⟨⟨(List.range len).map f,rfl,by simp at hl⊢;omega,fun h0=>?_,some a,I,by simp,by simpa using b2,fun h0=>?_⟩,trivial⟩,_,_,rfl,⟨_,rfl,by simpa using hl,fun i us Y=>?_⟩,rfl⟩
     .rw[h0] at cf;simp at cf
     .have h0:0 < len:=by simpa using h0
      have ch:a.spot=none:=by
       obtain⟨M,C,_⟩:=hf 0 h0;obtain⟨k1,E⟩:=WP C;have W:=E 0 (by omega);rw[ABC (by omega)] at W;simp only[Nat.zero_mul,Addr.add,if_true] at W;unfold World.cell? at W;split at W
       .split at W
        .cases W
        .rename_i c3;simpa using c3
       .cases W
      obtain⟨bs,bt,c9⟩:=a;simp only at ch;subst ch;have cu:∀i j,((⟨bs,bt,none⟩:Addr).add i).add j=⟨bs,bt+i+j,none⟩:=fun i j=>by
       unfold Addr.add;split<;>split<;>simp_all
      refine⟨bs,bt,rfl,fun i us Y=>?_⟩;rw[ABg,ABU] at Y;obtain⟨i',b1,rfl⟩:=Y;obtain⟨b3,rfl⟩:=ABD.1 b1;simp only[List.getElem_range];have bk:i < len:=by simpa using b3
      obtain⟨M,C,O,_⟩:=hf i bk;obtain⟨k1,E⟩:=WP C;refine DL.mem O fun j c hj=>?_;have db:j < M.length:=(ABD.1 hj).1;have y:=E j (by omega);rw[hj,cu,<-bm] at y;refine⟨?_,y⟩;unfold World.cell? at y;split at y
      .rename_i X;exact (ABF.1 X).1
      .cases y
     .rw[ABg,ABU] at Y;obtain⟨i',b1,rfl⟩:=Y;obtain⟨b3,rfl⟩:=ABD.1 b1;simp only[List.getElem_range];obtain⟨_,_,_,h3⟩:=hf i (by simpa using b3);exact h3
   .cases p
  .
   rename_i fs z;simp only[ABA,AA7] at p;obtain⟨af,hf,p⟩:=p;split at p
   .rename_i y;have bm:=AA9 y;cases p;obtain⟨xs,n,rfl,rfl,cv,ci,b4⟩:=DataW.trod_struct z h;cases aa with
    |agg a4=>
    have b6:∀(l:List Field) (off i:Nat) (ks:List Kd),K8 P (Ev P d) l off=some ks->(∀j f,l[j]? =some f->fs[i+j]? =some f)->off+ks.length<=aD.length->∃us,DL (fun b _=>b < w.heap.size) w ks us ((aD.drop off).take ks.length)/\AL B ks us:=by
     intro l;induction l with
     |nil=>intro off i ks p _ _;simp only[K8] at p;cases p;exact⟨[],by simp[DL],rfl⟩
     |cons f l ih=>
      intro off i ks p hl b2;simp only[K8,ABA,AA7] at p;obtain⟨kf,c0,p⟩:=p;split at p
      .rename_i y;rw[AA8] at y;have e1:=AA9 y.1;have e2:=AA9 y.2;simp only[AA7] at p;obtain⟨kr,c1,p⟩:=p;cases p;rw[ABM] at b2;have ce:=hl 0 f rfl;have bk:i < xs.length:=by rw[ci];exact (ABF.1 (by simpa using ce)).1
       have hx:=b4 i f (by simpa using ce);rw[ABC bk] at hx;obtain⟨b8,a6⟩:=Bt hB d c0 hx (a4 _ (ACI.2 ⟨_,AB0 bk,rfl⟩));obtain⟨b9,a7⟩:=ih (off+kf.length) (i+1) kr c1 (fun j g hg=>by have:=hl (j+1) g (by simpa using hg);rw[show i+(j+1)=i+1+j by omega] at this;exact this) (by omega);refine⟨b8++b9,?_,a6.2.append a7.2⟩;have:=a6.1.append a7.1;rw[e1,<-e2] at this;have e3:(aD.drop off).take (kf++kr).length=(aD.drop off).take kf.length++(aD.drop (off+kf.length)).take kr.length:=by
        rw[ABM,List.take_add,AB4]
       rw[e3];exact this
      .cases p
    obtain⟨us,N⟩:=b6 fs.toList 0 0 ks hf (fun j f hj=>by simpa using hj) (by omega);refine⟨us,?_,N.2⟩;have:(aD.drop 0).take ks.length=aD:=by rw[List.drop_zero,List.take_of_length_le (by omega)]
    rw[this] at N;exact N.1
   .cases p
  .
   rename_i n e z;simp only[ABA,AA7] at p;obtain⟨u,he,p⟩:=p;split at p
   .rename_i y;rw[AA8] at y;have bm:=AA9 y.1;have de:=AA9 y.2;cases p;obtain⟨xs,m,rfl,rfl,cv,ci,b4⟩:=DataW.trod_array z h;cases aa with
    |agg a4=>
    have b6:∀(j i:Nat),i+j<=n->∃us,DL (fun b _=>b < w.heap.size) w (List.replicate j u).flatten us ((aD.drop (i*u.length)).take (j*u.length))/\AL B (List.replicate j u).flatten us:=by
     intro j;induction j with
     |zero=>intro i _;exact⟨[],by simp[DL],rfl⟩
     |succ j ih=>
      intro i Y;have hx:=b4 i (by omega);rw[ABC (by omega)] at hx;obtain⟨b8,a6⟩:=Bt hB d he hx (a4 _ (ACI.2 ⟨_,AB0 (by omega),rfl⟩));obtain⟨b9,a7⟩:=ih (i+1) (by omega);rw[List.replicate_succ,ACH];refine⟨b8++b9,?_,a6.2.append a7.2⟩;have:=a6.1.append a7.1;rw[<-bm] at this;have e3:(aD.drop (i*u.length)).take ((j+1)*u.length)=(aD.drop (i*u.length)).take u.length++(aD.drop ((i+1)*u.length)).take (j*u.length):=by
       rw[show (j+1)*u.length=u.length+j*u.length by rw[Nat.succ_mul];omega,List.take_add,AB4,show (i+1)*u.length=i*u.length+u.length by rw[Nat.succ_mul]]
      rw[e3];exact this
    obtain⟨us,N⟩:=b6 n 0 (by omega);refine⟨us,?_,N.2⟩;have:(aD.drop (0*u.length)).take (n*u.length)=aD:=by rw[Nat.zero_mul,List.drop_zero,List.take_of_length_le (by omega)]
    rw[this] at N;exact N.1
   .cases p
  .cases p
end
end
section
open Go Go.RowKit
def S9:Nat->List Kd->List AC
 |_,[]=>[]
 |x,k::ks=>Rc k x::S9 (x+1) ks
def xE (P:Program)(t:TypeId)(x:Nat)(ks:List Kd):Option AC:=
 if CF P t then some (.agg (S9 x ks)) else match ks with
  |[k]=>some (Rc k x)
  |_=>none
def LD (P:Program)(d:Nat):List TypeId->Nat->Option (List AC × List Kd)
 |[],_=>some ([],[])
 |t::ay,x=>do
  let ks<-Ev P d t;let a<-xE P t x ks;let (aX,r) <-LD P d ay (x+ks.length)
  some (a::aX,ks++r)
def Qv:CL:=⟨⟨0,[],.nil⟩, #[],.skip,.skip,[]⟩
def dx (lps:List (Nat × CL))(us:List U):Tab:=⟨fun x=>us.getD x default,fun _ _=>True,fun s=>(Gi lps s).getD Qv,0⟩
def RM:List (Nat × CL)->Bool
 |[]=>true
 |(s,_)::r=>(r.all fun p=> !Nat.beq p.1 s)&&RM r
def Nc (n:Nat)(g:G):Bool:=CT [] 0 n g.n g.eqs&&RM g.lps
def AAn (T:Tab):AC->Prop
 | .cb b=>b=true
 | .b x=>T x= .bool true
 | .nb x=>T x= .bool false
 |_=>False
theorem SS:∀{lps:List (Nat × CL)},RM lps=true->∀p∈lps,Gi lps p.1=some p.2
 |[],_,p,d=>by cases d
 |(s,S)::r,h,p,d=>by
  simp only[RM,AA8] at h;simp only[Gi];cases d with
  |head=>simp only[(Dw s s).2 rfl,if_true]
  |tail _ d=>
   have u:=ABb.1 h.1 p d;split
   .rename_i y;have e:=AA9 y;rw[(Dw p.1 s).2 e.symm] at u;cases u
   .exact SS h.2 p d
section
variable {P:Program}{T:Tab}{n:Nat}{V :Nat->Option Nat}{w:World}{B:Nat}
variable{v:Value}{t:TypeId}{base:Nat}
theorem yX {ok:Nat->Nat->Prop}(u:∀b off,ok b off->Ag T V [] w b off){k:Kd}{x:Nat}(d:x < n)(h:AX ok w k (T x) v):AA T n V [] w (Rc k x) v:=by
 cases k with
 |int k am Y=>exact⟨d,h⟩
 |bool=>exact⟨d,h⟩
 |str=>exact⟨d,h⟩
 |val=>exact⟨d,h.1,h.2⟩
 |any=>exact h.one
 |list ks=>exact⟨d,AX.mono (fun b off p=>⟨u b off p,rfl⟩) _ _ _ h⟩
theorem eI {ok:Nat->Nat->Prop}(d:∀b off,ok b off->Ag T V [] w b off):∀{ks:List Kd} {us:List U} {aD:List Value} {x:Nat},DL ok w ks us aD->(∀j u,us[j]? =some u->T (x+j)=u)->x+ks.length<=n->AF T n V [] w (S9 x ks) aD
 |[],[],[],_,_,_,_=>rfl
 |k::ks,u::us,c::aD,x,h,hT,hn=>by
  simp only[ABa] at hn;refine⟨c,aD,rfl,yX d (by omega) ?_,eI d h.2 (fun j v p=>?_) (by omega)⟩
  .have:=hT 0 u rfl;rw[Nat.add_zero] at this;rw[this];exact h.1
  .have:=hT (j+1) v (by simpa using p);rw[show x+(j+1)=x+1+j by omega] at this;exact this
 |[],_::_,_,_,h,_,_=>by cases h
 |[],[],_::_,_,h,_,_=>by cases h
 |_::_,[],_,_,h,_,_=>by cases h
 |_::_,_::_,[],_,h,_,_=>by cases h
theorem zX {d:Nat}{ks:List Kd}(p:Ev P d t=some ks)(u:CF P t=false)(y:Value.okWide P w .any base t v):∀aD,v≠ .agg aD:=by
 intro aD e;subst e;cases d with
 |zero=>simp[Ev] at p
 |succ d=>
  simp only[Ev] at p;unfold Value.okWide at y;unfold CF at u;split at p<;>rename_i z<;>simp only[z] at y u<;>first
   |(cases u;done)
   |(simp[Cell.okWide,Cell.ok,z] at y;done)
   |(cases p;done)
theorem rm (d:CF P t=true)(p:Value.okWide P w .any base t v):∃aD,v= .agg aD:=by
 unfold CF at d;unfold Value.okWide at p;grind
theorem ir {H:Type}{enc:TypeId × Value->H}{sp:Nat->Bool}{bc:Bool}{base:Nat}(hB:B<=AB){dd:Nat}:∀(ay:List TypeId) {x:Nat} {aX:List AC} {ks:List Kd} {W:List Value} {y:List (DataW H)} {ps:List MemPlace},LD P dd ay x=some (aX,ks)->
  DataW.TrodAll enc P w 0 sp bc ay W y ps->(∀(j:Nat) t v,ay[j]? =some t->W[j]? =some v->Value.okWide P w .any base t v)->(∀d∈y,Dh B d)->
  ∃us,AL B ks us/\us.length=ks.length/\∀(T:Tab) V,(∀b off,b < w.heap.size->Ag T V [] w b off)->(∀j u,us[j]? =some u->T (x+j)=u)->∀n,x+ks.length<=n->AF T n V [] w aX W
 |[],x,aX,ks,W,y,ps,h,ht,_,_=>by
  simp only[LD] at h;cases h;cases W with
  |nil=>exact⟨[],rfl,rfl,fun _ _ _ _ _ _=>rfl⟩
  |cons v W=>cases y<;>exact ht.elim
 |t::ay,x,aX,ks,W,y,ps,h,ht,hv,aa=>by
  simp only[LD,ABA,AA7] at h;obtain⟨k1,hk,a,z,⟨cb,E⟩,hr,h⟩:=h;cases h;cases W with
  |nil=>cases y<;>exact ht.elim
  |cons v W=>
   cases y with
   |nil=>exact ht.elim
   |cons d y=>
    obtain⟨p,q,⟨aM,C⟩,O,_⟩:=ht;obtain⟨b8,u1,u2,u3⟩:=ir hB ay hr O (fun j t' v' M bx=>hv (j+1) t' v' (by simpa using M) (by simpa using bx)) (fun d' hd=>aa d' (ABH _ hd));obtain⟨ax,aG,w2⟩:=Bt hB dd hk C (aa d (ABK ..));have bk:=hv 0 t v rfl rfl;obtain⟨X,ah⟩:=aG.len;refine⟨ax++b8,w2.append u1,by simp[X,u2],fun T V bi hT n hn=>?_⟩;rw[ABM] at hn;have b0:x+k1.length+E.length<=n:=by simp only at hn;omega
    have bs:∀j u,ax[j]? =some u->T (x+j)=u:=fun j u M=>hT j u (by rw[ABO (ABD.1 M).1];exact M);have a6:=eI (T:=T) (n:=n) (V := V) (x:=x) bi aG bs (by omega);refine⟨v,W,rfl,?_,u3 T V bi (fun j u M=>?_) n b0⟩
    .unfold xE at z;split at z
     .rename_i Y;cases z;obtain⟨aD,rfl⟩:=rm Y bk;exact⟨aD.toList,by simp,a6⟩
     .rename_i Y;split at z
      .rename_i k;cases z;obtain⟨u,b7,N,e2,e3⟩:=a6;rw[show b7=[] from e3] at N;have b1:=zX hk (by simpa using Y) bk;have bt:v.cells= #[v]:=by cases v<;>first|rfl|exact absurd rfl (b1 _)
       rw[bt] at N;simp at N;rw[N];exact e2
      .cases z
    .have:=hT (ax.length+j) u (by rw[ABP (by omega)];simpa using M);rw[X,<-Nat.add_assoc] at this;exact this
end
inductive Z4 where
 |one (k:Kd)
 |agg (ks:List Kd)
 |ptr (j off:Nat)
 |cst (c:AC)
def Fo:Nat->List Z4->List AC
 |_,[]=>[]
 |x,.one k::r=>Rc k x::Fo (x+1) r
 |x,.agg ks::r=> .agg (S9 x ks)::Fo (x+ks.length) r
 |x,.ptr j off::r=> .ptr j off::Fo x r
 |x,.cst c::r=>c::Fo x r
def DW:List Z4->List Kd
 |[]=>[]
 | .one k::r=>k::DW r
 | .agg ks::r=>ks++DW r
 | .ptr _ _::r=>DW r
 | .cst _::r=>DW r
def K6:Nat->List (List Kd × TypeId)->Mem
 |_,[]=>[]
 |x,(ks,e)::r=> .cells (S9 x ks) e::K6 (x+ks.length) r
def SX (l:List (List Kd × TypeId)):List Kd:=(l.map (·.1)).flatten
structure AU where
 sh:List Z4
 blks:List (List Kd × TypeId)
 outs:List (Tg × (List U->U))
 c:AC
 m':Mem
 pre:List (Tg × (List U->Prop))
 row:Option (List Kd × TypeId):=none
 ptrs:Nat:=0
def Vv (d:Nat):Nat->Nat->List AC
 |_,0=>[]
 |x,k+1=> .mp 0 1 x d 0::Vv d (x+1) k
def TF (d:Nat):Nat->List AC
 |0=>[.mr 0 1]
 |k+1=>Vv d 2 (k+1)
def AU.args (t:AU):List AC:=match t.row with|none=>Fo 0 t.sh|some (ks,_)=>TF ks.length t.ptrs++Fo (2+t.ptrs) t.sh
def AU.m (t:AU):Mem:=match t.row with|none=>K6 (DW t.sh).length t.blks|some (ks,e)=>[.mrow 0 1 ks e]
def AU.ks (t:AU):List Kd:=match t.row with|none=>DW t.sh++SX t.blks|some (ks,_)=> .list ks:: .int .i64 0 AB::(List.replicate t.ptrs (.int .i64 0 AB)++DW t.sh)
def AU.n (t:AU):Nat:=t.ks.length
def AU.us (t:AU)(us:List U):List U:=us++t.outs.map fun o=>o.2 us
def AW (P:Program)(f:FuncId)(t:AU):Prop:=
 ∃d:Nat->CL,∀(T:Tab) (us:List U),T.lp=d->us.length=t.n->(∀j u,(t.us us)[j]? =some u->T j=u)->(∀p∈t.pre,p.2 us)->∀ V w W,AF T t.n V t.m w t.args W->AH T t.n V t.m w->
  (∃aC,P.funcs[f]? =some aC/\aC.body.isSome=true/\(aC.name== "runtime.NumGoroutine")=false)/\
  Calls P f (W:List Value).toArray w fun e ab=>∃v ac,e= .returned v/\AI T t.n V t.m w ac t.m' ab/\AH T (t.n+t.outs.length) ac t.m' ab/\AA T (t.n+t.outs.length) ac t.m' ab t.c v
def Z2:List AC->List AC->List (Nat × Nat)
 | .ptr j _::aX,.ptr id _::aD=>(j,id)::Z2 aX aD
 |_::aX,_::aD=>Z2 aX aD
 |_,_=>[]
def Hv:List (Nat × Nat)->Nat->Option Nat
 |[],_=>none
 |(j,id)::r,x=>if Nat.beq j x then some id else Hv r x
def TD (x:Nat):Option (Rf × List Pr)->Option (List (Nat × Rf) × List Pr)
 |some (r,ps)=>some ([(x,r)],ps)
 |none=>none
def kU:Option (List (Nat × Rf) × List Pr)->Option (List (Nat × Rf) × List Pr)->Option (List (Nat × Rf) × List Pr)
 |some (a,b),some (a',b')=>some (a++a',b++b')
 |_,_=>none
mutual
def Bn (aL:List (Nat × Nat)):AC->AC->Option (List (Nat × Rf) × List Pr)
 | .ptr j off,c=>(match c with
  | .ptr id off'=>if Nat.beq off off'&&(match Hv aL j with|some d=>Nat.beq id d|none=>false) then some ([],[]) else none
  |_=>none)
 | .i k am Y x,c=>TD x (fit (.int k am Y) c)
 | .b x,c=>TD x (fit .bool c)
 | .v x,c=>TD x (fit .val c)
 | .s x,c=>TD x (fit .str c)
 | .ro x ks,c=>TD x (fit (.list ks) c)
 | .agg l,c=>(match c with
  | .agg ae=>I6 aL l ae
  |_=>none)
 | .anyc,c=>if AC.atom c then some ([],[]) else none
 | .fn f [] [],c=>if AC.beq (.fn f [] []) c then some ([],[]) else none
 |_,_=>none
def I6 (aL:List (Nat × Nat)):List AC->List AC->Option (List (Nat × Rf) × List Pr)
 |[],[]=>some ([],[])
 |h::l,c::ae=>kU (Bn aL h c) (I6 aL l ae)
 |_,_=>none
end
def TL (aL:List (Nat × Nat)):Blk->Blk->Option (List (Nat × Rf) × List Pr)
 | .cells l e,.cells ae e'=>if Nat.beq e e' then I6 aL l ae else none
 |_,_=>none
def I5 (aL:List (Nat × Nat))(aE:Mem):List (Nat × Nat)->Mem->Option (List (Nat × Rf) × List Pr)
 |[],[]=>some ([],[])
 |(_,id)::r,b::m=>kU (TL aL b (aE.at id)) (I5 aL aE r m)
 |_,_=>none
def aj (aL:List (Nat × Nat))(a9 a8 j:Nat):Option Nat:=if Nat.blt j a9 then Hv aL j else some (a8+(j - a9))
mutual
def up1 (n base:Nat)(aL:List (Nat × Nat))(a9 a8:Nat)(ag:Mem)(ai:List Rf):AC->AC
 | .i k am Y x=>if Nat.ble n x then .i k am Y (base+(x - n)) else (match ai[x]? with|some (.e y)=> .i k am Y y|_=> .anyc)
 | .b x=>if Nat.ble n x then .b (base+(x - n)) else (match ai[x]? with|some (.e y)=> .b y|_=> .anyc)
 | .v x=>if Nat.ble n x then .v (base+(x - n)) else (match ai[x]? with|some (.e y)=> .v y|_=> .anyc)
 | .s x=>if Nat.ble n x then .s (base+(x - n)) else (match ai[x]? with|some (.e y)=> .s y|_=> .anyc)
 | .ro x ks=>if Nat.ble n x then .ro (base+(x - n)) ks else (match ai[x]? with|some (.e y)=> .ro y ks|_=> .anyc)
 | .vec _ x ks=>if Nat.ble n x then .ro (base+(x - n)) ks else (match ai[x]? with|some (.e y)=> .ro y ks|_=> .anyc)
 | .ptr j off=>(match ag.at j,aj aL a9 a8 j with| .cells _ _,some id=> .ptr id off|_,_=> .anyc)
 | .cb b=> .cb b
 | .ci k i=> .ci k i
 | .cv c=> .cv c
 | .agg l=> .agg (upL n base aL a9 a8 ag ai l)
 | .tup l=> .tup (upL n base aL a9 a8 ag ai l)
 |_=> .any
def upL (n base:Nat)(aL:List (Nat × Nat))(a9 a8:Nat)(ag:Mem)(ai:List Rf):List AC->List AC
 |[]=>[]
 |a::l=>up1 n base aL a9 a8 ag ai a::upL n base aL a9 a8 ag ai l
end
def det:AC->Bool
 | .i .. | .b _| .v _| .s _| .ptr .. | .ci .. | .cb _| .cv _=>true
 |_=>false
def W6 (up:AC->AC):List AC->List AC->List AC->List AC
 |h0::l0,c::l,h::ae=>(if det h&&AC.beq h0 h then c else up h)::W6 up l0 l ae
 |_,_,_=>[]
def P2 (up:AC->AC):Blk->Blk->Blk->Blk
 | .cells l0 _,.cells l e,.cells ae e'=>if Nat.beq l0.length l.length&&Nat.beq l.length ae.length&&Nat.beq e e' then .cells (W6 up l0 l ae) e else .gone
 |_,_,_=> .gone
def EH (B:Nat->Blk->Blk):List (Nat × Nat)->Mem->Mem
 |[],m=>m
 |(j,id)::r,m=>(EH B r m).set id (B j (m.at id))
def eT (up:AC->AC):Blk->Blk
 | .cells l e=> .cells (l.map up) e
 |_=> .gone
def am (t:AU):A7:=fun _ _ aX ad aE g=>
 let aL:=Z2 t.args aX
 if t.row.isNone&&EP (aL.map (·.1)) (List.range t.m.length)&&Ho (aL.map (·.2))&&aL.all (fun p=>Nat.blt p.2 aE.length)&&Nat.ble t.m.length t.m'.length then
  match kU (I6 aL t.args aX) (I5 aL aE aL t.m) with
  |some (prs,ps)=>
   if EP (prs.map (·.1)) (List.range t.n) then
    let ai:=prs.map (·.2);let up:=up1 t.n g.n aL t.m.length aE.length t.m' ai
    some (up t.c,EH (fun j b=>P2 up (t.m.at j) b (t.m'.at j)) aL aE++(t.m'.drop t.m.length).map (eT up),
     (g.needAll ad (ps++t.pre.map fun (tg,f)=>⟨tg,f,ai⟩)).pushAll (t.outs.map fun (tg,F)=>⟨tg,F,ai⟩))
   else none
  |none=>none
 else none
theorem L3:∀{l ae:List Nat},EP l ae=true->l=ae
 |[],[],_=>rfl
 |a::l,b::ae,h=>by
  simp only[EP,AA8] at h;rw[AA9 h.1,L3 h.2]
 |[],_::_,h=>by cases h
 |_::_,[],h=>by cases h
theorem R2:∀{aL:List (Nat × Nat)} {j id:Nat},Hv aL j=some id->(j,id)∈aL
 |[],_,_,h=>by simp[Hv] at h
 |(j',id')::r,j,id,h=>by
  simp only[Hv] at h;split at h
  .rename_i d;cases h;rw[AA9 d];exact ABK ..
  .exact ABH _ (R2 h)
theorem wB {aL:List (Nat × Nat)}(d:(aL.map (·.1)).Nodup){j id:Nat}(h:(j,id)∈aL):Hv aL j=some id:=by
 induction aL with
 |nil=>cases h
 |cons p r y=>
  obtain⟨C,z⟩:=p;simp only[ABQ,List.nodup_cons] at d;simp only[Hv];cases h with
  |head=>simp
  |tail _ h=>
   split
   .rename_i u;have:=AA9 u;subst this;exact absurd (ACI.2 ⟨_,h,rfl⟩) d.1
   .exact y d.2 h
def Uv (n:Nat):Rf->Prop
 | .c _=>True
 | .e x=>x < n
 | .n x=>x < n
variable{T:Tab}{V:Nat->Option Nat}{w:World}{c:AC}{k:Kd}{r:Rf}{v:Value}{ps:List Pr}
theorem xq {n:Nat}{m:Mem}(h:FY c=some (k,r))(p:AA T n V m w c v):Uv n r:=by
 cases c<;>simp only[FY] at h<;>first
  |(cases h;done)
  |(cases h;trivial)
  |(cases h;exact p.1)
  |(rename_i d;cases d<;>simp only[FY] at h<;>(try split at h)<;>cases h<;>trivial)
theorem zJ {n:Nat}{m:Mem}(h:fit k c=some (r,ps))(d:AA T n V m w c v):Uv n r:=by
 cases aa:FY c with
 |none=>unfold fit at h;rw[aa] at h;cases k<;>cases h
 |some p=>
  obtain⟨u,ax⟩:=p;have:=xq aa d;have e:ax=r:=by
   unfold fit at h;grind
  rw[<-e];exact this
theorem OC {a b:Option (List (Nat × Rf) × List Pr)}{z:List (Nat × Rf)}(h:kU a b=some (z,ps)):∃d u p y,a=some (d,u)/\b=some (p,y)/\z=d++p/\ps=u++y:=by
 cases a with
 |none=>cases b<;>cases h
 |some a=>
  cases b with
  |none=>cases h
  |some b=>
   obtain⟨d,u⟩:=a;obtain⟨p,y⟩:=b;cases h;exact⟨d,u,p,y,rfl,rfl,rfl,rfl⟩
section
variable {T J:Tab}{V aV:Nat->Option Nat}{aE mt:Mem}{w:World}{n a5:Nat}{aL:List (Nat × Nat)}
structure eE (T T2:Tab) (ρ ρ2:Nat->Option Nat) (ma mt:Mem) (w:World) (ren:List (Nat × Nat)):Prop where
 safe:∀b off,Ag T ρ ma w b off->Ag T2 ρ2 mt w b off
 ptr:∀j id,Hv ren j=some id-> ρ2 j= ρ id/\(mt.at j).ptrOk=true
mutual
theorem ux (M:eE T J V aV aE mt w aL):∀(h c:AC) {y:List (Nat × Rf)} {ps:List Pr} {v:Value},Bn aL h c=some (y,ps)->(∀p∈y,p.1 < n/\J p.1=p.2.eval T)->(∀p∈ps,p.holds T)->AA T a5 V aE w c v->
  AA J n aV mt w h v/\∀p∈y,Uv a5 p.2
 | .ptr j off,c,y,ps,v,hb,d,hq,hv=>by
  cases c<;>simp only[Bn] at hb<;>try (cases hb;done)
  rename_i id bb;cases hl:Hv aL j with
  |none=>rw[hl] at hb;simp at hb
  |some a7=>
   rw[hl] at hb;simp only at hb;split at hb
   .rename_i X;cases hb;rw[AA8] at X;have e1:=AA9 X.1;have e2:=AA9 X.2;subst e1;subst e2;obtain⟨b,u,E,_⟩:=hv;obtain⟨z,k4⟩:=M.ptr j id hl;exact⟨⟨b,by rw[z];exact u,E,k4⟩,fun p d=>by cases d⟩
   .cases hb
 | .i k am Y x,c,y,ps,v,hb,d,hq,hv=>by
  simp only[Bn] at hb;obtain⟨u,E,z⟩:=NC M hb d hq hv;exact⟨⟨u,E⟩,z⟩
 | .b x,c,y,ps,v,hb,d,hq,hv=>by
  simp only[Bn] at hb;obtain⟨u,E,z⟩:=NC M hb d hq hv;exact⟨⟨u,E⟩,z⟩
 | .v x,c,y,ps,v,hb,d,hq,hv=>by
  simp only[Bn] at hb;obtain⟨u,E,z⟩:=NC M hb d hq hv;exact⟨⟨u,E⟩,z⟩
 | .s x,c,y,ps,v,hb,d,hq,hv=>by
  simp only[Bn] at hb;obtain⟨u,E,z⟩:=NC M hb d hq hv;exact⟨⟨u,E⟩,z⟩
 | .ro x ks,c,y,ps,v,hb,d,hq,hv=>by
  simp only[Bn] at hb;obtain⟨u,E,z⟩:=NC M hb d hq hv;exact⟨⟨u,E⟩,z⟩
 | .agg l,c,y,ps,v,hb,d,hq,hv=>by
  cases c<;>simp only[Bn] at hb<;>try (cases hb;done)
  rename_i ae;obtain⟨W,e,C⟩:=hv;obtain⟨u,E⟩:=Jw M l ae hb d hq C;exact⟨⟨W,e,u⟩,E⟩
 | .anyc,c,y,ps,v,hb,d,hq,hv=>by
  simp only[Bn] at hb;split at hb
  .rename_i N;cases hb;exact⟨IQ N hv,fun p d=>by cases d⟩
  .cases hb
 | .any,_,_,_,_,hb,_,_,_=>by simp[Bn] at hb
 | .on _ _,_,_,_,_,hb,_,_,_=>by simp[Bn] at hb
 | .gd _ _,_,_,_,_,hb,_,_,_=>by simp[Bn] at hb
 | .cb _,_,_,_,_,hb,_,_,_=>by simp[Bn] at hb
 | .nb _,_,_,_,_,hb,_,_,_=>by simp[Bn] at hb
 | .ci _ _,_,_,_,_,hb,_,_,_=>by simp[Bn] at hb
 | .cv _,_,_,_,_,hb,_,_,_=>by simp[Bn] at hb
 | .pix ..,_,_,_,_,hb,_,_,_=>by simp[Bn] at hb
 | .rp ..,_,_,_,_,hb,_,_,_=>by simp[Bn] at hb
 | .vec ..,_,_,_,_,hb,_,_,_=>by simp[Bn] at hb
 | .fn f [] [],c,y,ps,v,hb,_,_,hv=>by
  simp only[Bn] at hb;split at hb
  .rename_i N;cases hb;have e:=AC.beq_eq _ _ N;subst e;obtain⟨W,us,C,O,h3⟩:=hv;exact⟨⟨W,us,C,O,h3⟩,fun p d=>by cases d⟩
  .cases hb
 | .fn _ (_::_) _,_,_,_,_,hb,_,_,_=>by simp[Bn] at hb
 | .fn _ [] (_::_),_,_,_,_,hb,_,_,_=>by simp[Bn] at hb
 | .mr ..,_,_,_,_,hb,_,_,_=>by simp[Bn] at hb
 | .mp ..,_,_,_,_,hb,_,_,_=>by simp[Bn] at hb
 | .mv _,_,_,_,_,hb,_,_,_=>by simp[Bn] at hb
 | .sel ..,_,_,_,_,hb,_,_,_=>by simp[Bn] at hb
 | .yl _,_,_,_,_,hb,_,_,_=>by simp[Bn] at hb
 | .asl ..,_,_,_,_,hb,_,_,_=>by simp[Bn] at hb
 | .rsv ..,_,_,_,_,hb,_,_,_=>by simp[Bn] at hb
 | .tup _,_,_,_,_,hb,_,_,_=>by simp[Bn] at hb
theorem Jw (M:eE T J V aV aE mt w aL):∀(l ae:List AC) {y:List (Nat × Rf)} {ps:List Pr} {W:List Value},I6 aL l ae=some (y,ps)->(∀p∈y,p.1 < n/\J p.1=p.2.eval T)->(∀p∈ps,p.holds T)->AF T a5 V aE w ae W->
  AF J n aV mt w l W/\∀p∈y,Uv a5 p.2
 |[],[],y,ps,W,hb,_,_,hv=>by
  simp only[I6] at hb;cases hb;exact⟨hv,fun p z=>by cases z⟩
 |h::l,c::ae,y,ps,W,hb,z,hq,hv=>by
  simp only[I6] at hb;obtain⟨p1,q1,p2,q2,N,X,rfl,rfl⟩:=OC hb;obtain⟨u,us,e,C,O⟩:=hv;obtain⟨Y,E⟩:=ux M h c N (fun p d=>z p (ABR _ d)) (fun p d=>hq p (ABR _ d)) C;obtain⟨k3,k4⟩:=Jw M l ae X (fun p d=>z p (ABL _ d)) (fun p d=>hq p (ABL _ d)) O;refine⟨⟨u,us,e,Y,k3⟩,fun p d=>?_⟩;rcases ABm.1 d with h|h
  .exact E p h
  .exact k4 p h
 |[],_::_,_,_,_,hb,_,_,_=>by simp[I6] at hb
 |_::_,[],_,_,_,hb,_,_,_=>by simp[I6] at hb
theorem NC (M:eE T J V aV aE mt w aL){k:Kd}{x:Nat}{c:AC}{y:List (Nat × Rf)}{ps:List Pr}{v:Value}(d:TD x (fit k c)=some (y,ps))(O:∀p∈y,p.1 < n/\J p.1=p.2.eval T)(W:∀p∈ps,p.holds T)(C:AA T a5 V aE w c v):
  x < n/\AX (Ag J aV mt w) w k (J x) v/\∀p∈y,Uv a5 p.2:=by
 cases u:fit k c with
 |none=>rw[u] at d;cases d
 |some X=>
  obtain⟨r,q⟩:=X;rw[u] at d;cases d;obtain⟨N,E⟩:=O (x,r) (ABi.2 rfl);simp only at N E;refine⟨N,?_,fun p z=>?_⟩
  .rw[E];exact AX.mono (fun b off h=>⟨M.safe b off h,rfl⟩) _ _ _ (cE u C W)
  .simp at z;subst z;exact zJ u C
end
end
theorem cB {aL:List (Nat × Nat)}{aE:Mem}:∀{r:List (Nat × Nat)} {m:Mem} {u:List (Nat × Rf)} {ps:List Pr},I5 aL aE r m=some (u,ps)->
  r.length=m.length/\∀(i j id:Nat) (b:Blk),r[i]? =some (j,id)->m[i]? =some b->∃p q,TL aL b (aE.at id)=some (p,q)/\(∀x∈p,x∈u)/\∀x∈q,x∈ps
 |[],[],u,ps,h=>⟨rfl,fun i j id b Y=>by simp at Y⟩
 |(U,id0)::r,b0::m,u,ps,h=>by
  simp only[I5] at h;obtain⟨M,N,p2,q2,C,O,rfl,rfl⟩:=OC h;obtain⟨z,E⟩:=cB O;refine⟨by simp[z],fun i j id b Y y=>?_⟩;cases i with
  |zero=>
   simp at Y y;obtain⟨rfl,rfl⟩:=Y;subst y;exact⟨M,N,C,fun x d=>ABR _ d,fun x d=>ABR _ d⟩
  |succ i=>
   obtain⟨p,q,W,X,z3⟩:=E i j id b (by simpa using Y) (by simpa using y);exact⟨p,q,W,fun x d=>ABL _ (X x d),fun x d=>ABL _ (z3 x d)⟩
 |[],_::_,_,_,h=>by simp[I5] at h
 |_::_,[],_,_,h=>by simp[I5] at h
theorem KT (B:Nat->Blk->Blk):∀(aL:List (Nat × Nat)) (m:Mem),(EH B aL m).length=m.length
 |[],_=>rfl
 |(j,id)::r,m=>by simp[EH,KT B r m]
theorem WD (B:Nat->Blk->Blk):∀(aL:List (Nat × Nat)) (m:Mem),(aL.map (·.2)).Nodup->(∀p∈aL,p.2 < m.length)->∀id,(∀j,(j,id)∈aL->(EH B aL m).at id=B j (m.at id))/\((∀j,(j,id) ∉ aL)->(EH B aL m).at id=m.at id)
 |[],m,_,_,id=>⟨(fun j h=>by cases h),fun _=>rfl⟩
 |(U,id0)::r,m,hn,hl,id=>by
  simp only[ABQ,List.nodup_cons] at hn;obtain⟨N,E⟩:=WD B r m hn.2 (fun p M=>hl p (ABH _ M)) id;have C:id0 < (EH B r m).length:=by rw[KT];exact hl (U,id0) (ABK ..)
  have z:Mem.at ((EH B r m).set id0 (B U (m.at id0))) id=if id=id0 then B U (m.at id0) else (EH B r m).at id:=by
   unfold Mem.at;rw[ACB];by_cases h:id0=id
   .subst h;simp[C]
   .rw[ACD h,ACD (fun e=>h e.symm)]
  have e:EH B ((U,id0)::r) m=(EH B r m).set id0 (B U (m.at id0)):=rfl;rw[e,z];refine⟨fun j d=>?_,fun y=>?_⟩
  .cases d with
   |head=>rw[ACE rfl]
   |tail _ d=>
    have u:id≠id0:=fun h=>hn.1 (ACI.2 ⟨_,d,h⟩);rw[ACD u];exact N j d
  .have u:id≠id0:=fun h=>y U (by rw[h];exact ABK ..);rw[ACD u];exact E fun j d=>y j (ABH _ d)
theorem fB:∀(f:List (List Kd × TypeId)) (x j:Nat),j < f.length->∃l e,(K6 x f).at j= .cells l e
 |[],_,j,h=>by simp at h
 |(ks,e)::r,x,0,_=>⟨_,_,rfl⟩
 |(ks,e)::r,x,j+1,h=>by
  have:=fB r (x+ks.length) j (by simpa using h);simpa [K6,Mem.at] using this
theorem SD:∀(f:List (List Kd × TypeId)) (x:Nat),(K6 x f).length=f.length
 |[],_=>rfl
 |_::r,x=>by simp[K6,SD r]
structure fW (T T2:Tab) (n gn gn':Nat) (ren:List (Nat × Nat)) (nt na:Nat) (ρ2 ρ':Nat->Option Nat) (m2 mo:Mem) (w':World) (rs:List Rf):Prop where
 old:∀x r,rs[x]? =some r->T2 x=r.eval T/\Uv gn' r
 new:∀x,n<=x->∀k,x < n+k->gn+k=gn'->gn+(x - n) < gn'/\T (gn+(x - n))=T2 x
 safe:∀b off,Ag T2 ρ2 m2 w' b off->Ag T ρ' mo w' b off
 ptr:∀j l e id,m2.at j= .cells l e->aj ren nt na j=some id-> ρ' id= ρ2 j/\(mo.at id).ptrOk=true
section
variable {T J:Tab}{n k a5 ba a9 a8:Nat}{aL:List (Nat × Nat)}{aV ac:Nat->Option Nat}{al aU:Mem}{ab:World}{ai:List Rf}
mutual
theorem rT (B:fW T J n a5 ba aL a9 a8 aV ac al aU ab ai)(E:a5+k=ba):∀(h:AC) (v:Value),AA J (n+k) aV al ab h v->AA T ba ac aU ab (up1 n a5 aL a9 a8 al ai h) v
 | .i ao am Y x,v,⟨h0,i,C,O,h3⟩=>by
  simp only[up1];split
  .rename_i u;obtain⟨d,p⟩:=B.new x (ABX u) k h0 E;exact⟨d,i,by rw[p];exact C,O,h3⟩
  .split
   .rename_i y z;obtain⟨d,p⟩:=B.old x _ z;exact⟨p,i,by rw[<-C,d];rfl,O,h3⟩
   .rw[O];rfl
 | .b x,v,⟨h0,i,C,O⟩=>by
  simp only[up1];split
  .rename_i u;obtain⟨d,p⟩:=B.new x (ABX u) k h0 E;exact⟨d,i,by rw[p];exact C,O⟩
  .split
   .rename_i y z;obtain⟨d,p⟩:=B.old x _ z;exact⟨p,i,by rw[<-C,d];rfl,O⟩
   .rw[O];rfl
 | .v x,v,⟨h0,C,O⟩=>by
  simp only[up1];split
  .rename_i u;obtain⟨d,p⟩:=B.new x (ABX u) k h0 E;exact⟨d,by rw[p];exact C,O⟩
  .split
   .rename_i y z;obtain⟨d,p⟩:=B.old x _ z;exact⟨p,by rw[<-C,d];rfl,O⟩
   .exact O
 | .s x,v,⟨h0,i,C,O⟩=>by
  simp only[up1];split
  .rename_i u;obtain⟨d,p⟩:=B.new x (ABX u) k h0 E;exact⟨d,i,by rw[p];exact C,O⟩
  .split
   .rename_i y z;obtain⟨d,p⟩:=B.old x _ z;exact⟨p,i,by rw[<-C,d];rfl,O⟩
   .rw[O.1];rfl
 | .ro x ks,v,⟨h0,C⟩=>by
  simp only[up1];split
  .rename_i u;obtain⟨d,p⟩:=B.new x (ABX u) k h0 E;exact⟨d,by rw[p];exact AX.mono (fun b off h=>⟨B.safe b off h,rfl⟩) _ _ _ C⟩
  .split
   .rename_i y z;obtain⟨d,p⟩:=B.old x _ z;exact⟨p,by rw[show T y=J x by rw[d];rfl];exact AX.mono (fun b off h=>⟨B.safe b off h,rfl⟩) _ _ _ C⟩
   .exact C.one
 | .vec id x ks,v,⟨h0,_,C,_⟩=>by
  simp only[up1];split
  .rename_i u;obtain⟨d,p⟩:=B.new x (ABX u) k h0 E;exact⟨d,by rw[p];exact AX.mono (fun b off h=>⟨B.safe b off h,rfl⟩) _ _ _ C⟩
  .split
   .rename_i y z;obtain⟨d,p⟩:=B.old x _ z;exact⟨p,by rw[show T y=J x by rw[d];rfl];exact AX.mono (fun b off h=>⟨B.safe b off h,rfl⟩) _ _ _ C⟩
   .exact C.one
 | .ptr j off,v,⟨b,C,O,h3⟩=>by
  simp only[up1];split
  .rename_i l e id M N;obtain⟨d,p⟩:=B.ptr j l e id M N;exact⟨b,by rw[d];exact C,O,p⟩
  .rw[O];rfl
 | .cb b,v,h=>h
 | .ci ao i,v,h=>h
 | .cv c,v,h=>h
 | .agg l,v,⟨W,C,O⟩=>⟨W,C,cM B E l W O⟩
 | .tup l,v,⟨W,C,O⟩=>⟨W,C,cM B E l W O⟩
 | .any,_,_=>trivial
 | .anyc,_,_=>trivial
 | .on _ _,_,_=>trivial
 | .gd _ _,_,_=>trivial
 | .nb _,_,_=>trivial
 | .pix ..,_,_=>trivial
 | .rp ..,_,_=>trivial
 | .fn ..,_,_=>trivial
 | .sel ..,_,_=>trivial
 | .yl _,_,_=>trivial
 | .asl ..,_,_=>trivial
 | .rsv ..,_,_=>trivial
 | .mr ..,_,_=>trivial
 | .mp ..,_,_=>trivial
 | .mv _,_,_=>trivial
theorem cM (B:fW T J n a5 ba aL a9 a8 aV ac al aU ab ai)(d:a5+k=ba):∀(l:List AC) (W:List Value),AF J (n+k) aV al ab l W->AF T ba ac aU ab (upL n a5 aL a9 a8 al ai l) W
 |[],_,h=>h
 |c::l,W,⟨u,us,C,O,h3⟩=>⟨u,us,C,rT B d c u O,cM B d l us h3⟩
end
end
theorem YA {aL:List (Nat × Nat)}{aE:Mem}:∀{r:List (Nat × Nat)} {m:Mem} {u:List (Nat × Rf)} {ps:List Pr},I5 aL aE r m=some (u,ps)->
  ∀x∈u,∃(i j id:Nat) (b:Blk) (p:List (Nat × Rf)) (q:List Pr),r[i]? =some (j,id)/\m[i]? =some b/\TL aL b (aE.at id)=some (p,q)/\x∈p
 |[],[],u,ps,h,x,d=>by simp only[I5] at h;cases h;cases d
 |(U,id0)::r,b0::m,u,ps,h,x,d=>by
  simp only[I5] at h;obtain⟨y,z,X,Y,C,O,rfl,rfl⟩:=OC h;rcases ABm.1 d with d|d
  .exact⟨0,U,id0,b0,y,z,rfl,rfl,C,d⟩
  .obtain⟨i,j,id,b,p,q,E,M,N,W⟩:=YA O x d;exact⟨i+1,j,id,b,p,q,by simpa using E,by simpa using M,N,W⟩
 |[],_::_,_,_,h,_,_=>by simp[I5] at h
 |_::_,[],_,_,h,_,_=>by simp[I5] at h
theorem yw {J:Tab}{n aj:Nat}{aV N:Nat->Option Nat}{m ag:Mem}{w ab:World}(X:∀id,(m.at id).ptrOk=true-> N id= aV id){h:AC}{u d:Value}(hd:det h=true)(C:AA J n aV m w h u)(O:AA J aj N ag ab h d):d=u:=by
 cases h<;>simp only[det] at hd<;>try (cases hd;done)
 case cb b=>rw[show u=_ from C,show d=_ from O]
 case b x=>
  obtain⟨_,b,p,E⟩:=C;obtain⟨_,z,y,M⟩:=O;grind
 case ci k i=>rw[show u=_ from C,show d=_ from O]
 case i k am Y x=>
  obtain⟨_,b,p,E,_⟩:=C;obtain⟨_,z,y,M,_⟩:=O;grind
 case cv c=>rw[show u=_ from C,show d=_ from O]
 case v x=>
  obtain⟨_,p,_⟩:=C;obtain⟨_,y,_⟩:=O;grind
 case s x=>
  obtain⟨_,b,p,E⟩:=C;obtain⟨_,z,y,M⟩:=O;grind
 case ptr id off=>
  obtain⟨b,p,E,y⟩:=C;obtain⟨z,M,W,_⟩:=O;grind
theorem Wa {T J:Tab}{n aj a5 ba:Nat}{V aV z ac:Nat->Option Nat}{aE mt al aU:Mem}{w ab:World}{up:AC->AC}(M:AI T a5 V aE w ac aU ab)(C:a5<=ba)(E:∀id,(mt.at id).ptrOk=true-> z id= aV id)
  (N:∀h v,AA J aj z al ab h v->AA T ba ac aU ab (up h) v):∀{d l ae:List AC} {W p:List Value},d.length=l.length->l.length=ae.length->AF J n aV mt w d W->AF T a5 V aE w l W->AF J aj z al ab ae p->AF T ba ac aU ab (W6 up d l ae) p
 |[],[],[],W,p,_,_,_,_,h=>h
 |h0::d,c::l,h::ae,W,p,e1,e2,⟨u0,us0,f0,a1,a2⟩,⟨u1,us1,f,b1,b2⟩,⟨u,us,f3,aS,c2⟩=>by
  subst f0;subst f3;injection f with O X
  subst O;subst X;refine⟨u,us,rfl,?_,Wa M C E N (by simpa using e1) (by simpa using e2) a2 b2 c2⟩;split
  .rename_i y;rw[AA8] at y;have e:=AC.beq_eq _ _ y.2;subst e;rw[yw E y.1 a1 aS];exact AA.mono0 M C _ _ b1
  .exact N _ _ aS
 |[],_::_,_,_,_,e,_,_,_,_=>by simp at e
 |_::_,[],_,_,_,e,_,_,_,_=>by simp at e
 |[],[],_::_,_,_,_,e,_,_,_=>by simp at e
 |_::_,_::_,[],_,_,_,e,_,_,_=>by simp at e
theorem qB {T J:Tab}{aj ba:Nat}{p ac:Nat->Option Nat}{al aU:Mem}{ab:World}{up:AC->AC}(d:∀h v,AA J aj p al ab h v->AA T ba ac aU ab (up h) v):∀{l:List AC} {W:List Value},AF J aj p al ab l W->AF T ba ac aU ab (l.map up) W
 |[],_,h=>h
 |c::l,W,⟨u,us,e,C,O⟩=>⟨u,us,e,d _ _ C,qB d O⟩
theorem zZ (a b:Mem)(id:Nat):Mem.at (a++b) id=if id < a.length then a.at id else b.at (id - a.length):=by
 unfold Mem.at;grind
theorem AAS (m:Mem)(a9 i:Nat)(f:Blk->Blk):Mem.at ((m.drop a9).map f) i=if a9+i < m.length then f (m.at (a9+i)) else .pad:=by
 unfold Mem.at;grind
theorem qY {P:Program}{f:FuncId}{t:AU}(ht:AW P f t):∀(T:Tab) (ap:Ys) (args:List AC) (ad:PC) (aE:Mem) (g:G) (c':AC) (aU:Mem) (aq:G),am t ap f args ad aE g=some (c',aU,aq)->
  Ac g aq/\(Agr T aq->Ar T aq->pcv T ad->BN T g ad->∀ V w W,AF T g.n V aE w args W->AH T g.n V aE w->
   (∃aC,P.funcs[f]? =some aC/\aC.body.isSome=true/\(aC.name== "runtime.NumGoroutine")=false)/\Calls P f (W:List Value).toArray w (G8 T g V aE w c' aU aq)):=by
 intro T ap args ad aE g c' aU aq bt;obtain⟨hn,ht⟩:=ht;unfold am at bt;simp only at bt;generalize hK:Z2 t.args args=aL at bt;split at bt
 .rename_i hc;simp only[AA8] at hc;obtain⟨⟨⟨⟨d0,f8⟩,ga⟩,gd⟩,ge⟩:=hc;have d0:t.row=none:=Option.isNone_iff_eq_none.1 d0;have cc:t.m=K6 (DW t.sh).length t.blks:=by unfold AU.m;rw[d0]
  split at bt
  .rename_i ce ps hb;split at bt
   .rename_i gi;have es:=L3 gi;simp only[ABu,Prod.mk.injEq] at bt;obtain⟨e1,e2,e3⟩:=bt;generalize d1:ce.map (·.2)=ai at e1 e2 e3;obtain⟨p1,q1,p2,q2,f4,b7,dn,e7⟩:=OC hb;generalize dj:g.needAll ad (ps++t.pre.map fun x=>(⟨x.1,x.2,ai⟩:Pr))=g1 at e3;have av:g1.n=g.n:=by rw[<-dj];exact (DG _ _ _).1
    have f0:Ac g g1:=by rw[<-dj];exact Ac.need _ _ _
    have em:Ac g1 aq:=by rw[<-e3];exact Ac.push _ _
    refine⟨f0.trans em,fun hA g4 g5 hI V w W hf hm=>?_⟩;have gp:g.n+t.outs.length=aq.n:=by rw[<-e3,Bb,av];simp
    have g3:New T g1.n (t.outs.map fun x=>(⟨x.1,x.2,ai⟩:Ex)):=by rw[<-e3] at hA;exact hA.new
    have e5:∀p∈ps++t.pre.map fun x=>(⟨x.1,x.2,ai⟩:Pr),p.holds T:=by
     have:=g4.of em;rw[<-dj] at this;exact Ar.need this g5
    have g6:ce.length=t.n:=by have:=ACF List.length es;simpa using this
    have g8:ai.length=t.n:=by rw[<-d1];simpa using g6
    have e4:∀p∈ce,p.1 < t.n/\ai[p.1]? =some p.2:=fun p hp=>by
     obtain⟨i,Y⟩:=ABZ.1 hp;have C:(ce.map (·.1))[i]? =some p.1:=by simp[Y]
     rw[es] at C;obtain⟨O,h3⟩:=ABD.1 C;simp at O h3;subst h3;exact⟨O,by rw[<-d1];simp[Y]⟩
    let us:=ai.map (Rf.eval T);have e8:us.length=t.n:=by simp[us,g8]
    let J:Tab:=⟨fun x=>(t.us us).getD x default,fun b off=>w.heap.size<=b\/Ag T V aE w b off,hn,0⟩;have de:∀j u,(t.us us)[j]? =some u->J j=u:=fun j u d=>by
     show (t.us us).getD j default=u;simp[List.getD,d]
    have eo:∀x r,ai[x]? =some r->J x=r.eval T:=fun x r z=>de x _ (by
     unfold AU.us;have hM:=(ABD.1 z).1;rw[ABO (by omega)];simp[us,z])
    have f2:∀i,i < t.outs.length->J (t.n+i)=T (g.n+i):=fun i Y=>by
     have C:=de (t.n+i) (t.outs[i].2 us) (by
      unfold AU.us;rw[ABP (by omega),e8];simp[Y])
     have O:=g3 i ⟨t.outs[i].1,t.outs[i].2,ai⟩ (by simp[Y]);rw[av] at O;rw[C,O];rfl
    have cx:=L3 f8;have e0:=Rp ga;have g2:(aL.map (·.1)).Nodup:=by rw[cx];exact List.nodup_range
    have dk:∀p∈aL,p.2 < aE.length:=fun p hp=>BF (ABb.1 gd p hp);have et:∀j id,(j,id)∈aL->aL[j]? =some (j,id)/\j < t.m.length:=fun j id d=>by
     obtain⟨i,Y⟩:=ABZ.1 d;have C:(aL.map (·.1))[i]? =some j:=by simp[Y]
     rw[cx] at C;obtain⟨O,h3⟩:=ABD.1 C;simp at O h3;subst h3;exact⟨Y,O⟩
    have di:∀j,j < t.m.length->∃id,(j,id)∈aL:=fun j d=>by
     have:j∈aL.map (·.1):=by rw[cx];simpa using d
     obtain⟨p,hp,e⟩:=ACI.1 this;exact⟨p.2,by rw[<-e];exact hp⟩
    obtain⟨_,f5⟩:=cB b7;have cv:∀j id,(j,id)∈aL->∃l ae e p q,t.m.at j= .cells l e/\aE.at id= .cells ae e/\I6 aL l ae=some (p,q)/\(∀x∈p,x∈ce)/\∀x∈q,x∈ps:=fun j id d=>by
     obtain⟨C,O⟩:=et j id d;obtain⟨l,e,hl⟩:=fB t.blks (DW t.sh).length j (by have:=SD t.blks (DW t.sh).length;rw[cc] at O;omega);have ey:t.m.at j= .cells l e:=by rw[cc];exact hl
     have gn:t.m[j]? =some (.cells l e):=by
      rw[<-ey];simp[Mem.at,ABC O]
     obtain⟨p,q,h3,h4,h5⟩:=f5 j j id _ C gn;cases z:aE.at id with
     |cells ae e'=>
      rw[z] at h3;simp only[TL] at h3;split at h3
      .rename_i he;rw[<-AA9 he];exact⟨l,ae,e,p,q,ey,rfl,h3,fun x z=>by rw[dn];exact ABL _ (h4 x z),fun x z=>by rw[e7];exact ABL _ (h5 x z)⟩
      .cases h3
     |_=>rw[z] at h3;simp[TL] at h3
    let aV:Nat->Option Nat:=fun j=>(Hv aL j).bind V;have b5:∀j id,(j,id)∈aL-> aV j= V id:=fun j id d=>by
     show (Hv aL j).bind V = V id;rw[wB g2 d];rfl
    have cc:∀j,(t.m.at j).tracked=true->∃id,(j,id)∈aL:=fun j d=>by
     refine di j ?_;rcases ABN j t.m.length with h|h
     .exact h
     .rw[Mem.at_ge h] at d;cases d
    have M:eE T J V aV aE t.m w aL:=by
     refine⟨fun b off aa=>⟨aa.1,.inr aa,fun j=>?_⟩,fun j id d=>?_⟩
     .by_cases d:j < t.m.length
      .obtain⟨id,bm⟩:=di j d;obtain⟨l,ae,e,_,_,z1,z2,_⟩:=cv j id bm;rw[z1];have:=aa.2.2 id;rw[z2] at this;show aV j≠some b;rw[b5 j id bm];exact this
      .rw[Mem.at_ge (by omega)];trivial
     .have cb:=R2 d;obtain⟨l,ae,e,_,_,z1,_⟩:=cv j id cb;exact⟨b5 j id cb,by rw[z1];rfl⟩
    have d5:∀p∈ce,p.1 < t.n/\J p.1=p.2.eval T:=fun p hp=>⟨(e4 p hp).1,eo _ _ (e4 p hp).2⟩;have ds:∀p∈ps,p.holds T:=fun p hp=>e5 p (ABR _ hp);obtain⟨f3,gH⟩:=Jw (n:=t.n) M t.args args f4 (fun p hp=>d5 p (by rw[dn];exact ABR _ hp)) (fun p hp=>ds p (by rw[e7];exact ABR _ hp)) hf;have bl:∀j id,(j,id)∈aL->∃l ae e b bi,t.m.at j= .cells l e/\aE.at id= .cells ae e/\ V id=some b/\w.heap[b]? =some (.cells (bi:List Value).toArray e (0,0))/\AF T g.n V aE w ae bi/\AF J t.n aV t.m w l bi:=fun j id d=>by
     obtain⟨l,ae,e,p,q,z1,z2,z3,z4,z5⟩:=cv j id d;have:=hm.blk id;rw[z2] at this;obtain⟨b,bi,y1,y2,y3⟩:=this;exact⟨l,ae,e,b,bi,z1,z2,y1,y2,y3,(Jw (n:=t.n) M l ae z3 (fun x z=>d5 x (z4 x z)) (fun x z=>ds x (z5 x z)) y3).1⟩
    have g9:∀p∈ce,Uv g.n p.2:=fun p hp=>by
     rw[dn] at hp;rcases ABm.1 hp with h|h
     .exact gH p h
     .obtain⟨i,j,id,b,pp,qq,z1,z2,z3,z4⟩:=YA b7 p h;have d:(j,id)∈aL:=ABZ.2 ⟨i,z1⟩;obtain⟨aG,w2⟩:=et j id d;obtain⟨l,ae,e,pb,qb,y1,y2,y3,y4,y5⟩:=cv j id d;have gr:i=j:=by
       have C:(aL.map (·.1))[i]? =some j:=by simp[z1]
       rw[cx] at C;obtain⟨_,h3⟩:=ABD.1 C;simpa using h3
      subst gr;have f7:b= .cells l e:=by
       have:t.m.at i=b:=by simp[Mem.at,z2]
       rw[<-this,y1]
      rw[f7,y2] at z3;simp only[TL,(Dw e e).2 rfl,if_true] at z3;rw[y3] at z3;cases z3;have:=hm.blk id;rw[y2] at this;obtain⟨hB,bi,_,_,x3⟩:=this;exact (Jw (n:=t.n) M l ae y3 (fun x z=>d5 x (y4 x z)) (fun x z=>ds x (y5 x z)) x3).2 p z4
    have g0:AH J t.n aV t.m w:=by
     refine⟨fun j=>?_,fun j j' b C O h3 h4=>?_,fun b off hb=> .inl hb⟩
     .by_cases d:j < t.m.length
      .obtain⟨id,bm⟩:=di j d;obtain⟨l,ae,e,b,bi,z1,z2,z3,z4,z5,z6⟩:=bl j id bm;rw[z1];exact⟨b,bi,by rw[b5 j id bm];exact z3,z4,z6⟩
      .rw[Mem.at_ge (by omega)];trivial
     .obtain⟨id,bm⟩:=cc j C;obtain⟨a7,ca⟩:=cc j' O;rw[b5 j id bm] at h3;rw[b5 j' a7 ca] at h4;obtain⟨_,_,_,_,_,_,z2,_⟩:=bl j id bm;obtain⟨_,_,_,_,_,_,hz,_⟩:=bl j' a7 ca;have e:=hm.inj id a7 b (by rw[z2];rfl) (by rw[hz];rfl) h3 h4;subst e;obtain⟨i1,k1⟩:=ABZ.1 bm;obtain⟨i2,E⟩:=ABZ.1 ca;have a1:(aL.map (·.2))[i1]? =some id:=by simp[k1]
      have a2:(aL.map (·.2))[i2]? =some id:=by simp[E]
      have:=(List.getElem?_inj (ABD.1 a1).1 e0).1 (a1.trans a2.symm);subst this;rw[k1] at E;cases E;rfl
    have g7:∀p∈t.pre,p.2 us:=fun p hp=>e5 ⟨p.1,p.2,ai⟩ (ABL _ (ACI.2 ⟨p,hp,rfl⟩));obtain⟨gl,gk⟩:=ht J us rfl e8 de g7 aV w W f3 g0;refine⟨gl,gk.mono fun hD ab hh=>?_⟩;obtain⟨v, cs,rfl,S2,M2,H2⟩:=hh;have hH:t.m.length<=t.m'.length:=ABX ge;have dv:∀j,(t.m.at j).ptrOk=true-> cs j= aV j:=fun j d=>(S2.rho j d).1;let ac:Nat->Option Nat:=fun id=>if id < aE.length then V id else cs (t.m.length+(id - aE.length))
    have bs:∀id,id < aE.length-> ac id= V id:=fun id h=>ACE h;have cf:∀id,aE.length<=id-> ac id= cs (t.m.length+(id - aE.length)):=fun id h=>ACD (by omega);obtain c1:∃up,up=up1 t.n g.n aL t.m.length aE.length t.m' ai:=⟨_,rfl⟩;obtain⟨up,c1⟩:=c1;rw[<-c1] at e1 e2;have gG:=KT (fun j b=>P2 up (t.m.at j) b (t.m'.at j)) aL aE;have e6:=fun id=>WD (fun j b=>P2 up (t.m.at j) b (t.m'.at j)) aL aE e0 dk id;have dm:∀id,aU.at id=if id < aE.length then Mem.at (EH (fun j b=>P2 up (t.m.at j) b (t.m'.at j)) aL aE) id else if t.m.length+(id - aE.length) < t.m'.length then eT up (t.m'.at (t.m.length+(id - aE.length))) else .pad:=fun id=>by
     rw[<-e2,zZ,gG,AAS]
    have fd:∀j id,(j,id)∈aL->aU.at id=P2 up (t.m.at j) (aE.at id) (t.m'.at j):=fun j id d=>by
     rw[dm,ACE (dk _ d)];exact (e6 id).1 j d
    have keep:∀id,id < aE.length->(∀j,(j,id) ∉ aL)->aU.at id=aE.at id:=fun id h bb=>by
     rw[dm,ACE h];exact (e6 id).2 bb
    have fresh:∀id,aE.length<=id->aU.at id=if t.m.length+(id - aE.length) < t.m'.length then eT up (t.m'.at (t.m.length+(id - aE.length))) else .pad:=fun id h=>by
     rw[dm,ACD (by omega)]
    have c5:∀j id,(j,id)∈aL->(∃l e,aU.at id= .cells l e)\/aU.at id= .gone:=fun j id d=>by
     obtain⟨l,ae,e,b,bi,z1,z2,_⟩:=bl j id d;rw[fd j id d,z1,z2];cases t.m'.at j with
     |cells l3 e3=>
      simp only[P2];split
      .exact .inl ⟨_,_,rfl⟩
      .exact .inr rfl
     |_=>exact .inr rfl
    have cl:∀id,aE.length<=id->(aU.at id).tracked=true->∃l e,t.m'.at (t.m.length+(id - aE.length))= .cells l e/\aU.at id= .cells (l.map up) e:=fun id h N=>by
     rw[fresh id h] at N⊢;split at N
     .rename_i z;rw[ACE z];cases hy:t.m'.at (t.m.length+(id - aE.length)) with
      |cells l e=>exact⟨l,e,rfl,rfl⟩
      |_=>rw[hy] at N;cases N
     .cases N
    have d9:∀id b,aE.length<=id->(aU.at id).tracked=true-> ac id=some b->w.heap.size<=b:=fun id b h N hb=>by
     obtain⟨l,e,C,_⟩:=cl id h N;rw[cf id h] at hb;exact S2.fresh _ b (Mem.at_ge (by omega)) (by rw[C];rfl) hb
    have ch:∀id,id < aE.length->(aU.at id).tracked=true->(aE.at id).tracked=true:=fun id h N=>by
     by_cases bk:∃j,(j,id)∈aL
     .obtain⟨j,d⟩:=bk;obtain⟨l,ae,e,b,bi,z1,z2,_⟩:=bl j id d;rw[z2];rfl
     .rw[keep id h (fun j d=>bk ⟨j,d⟩)] at N;exact N
    have hs:∀k,(∀id,(aE.at id).tracked=true-> V id≠some k)->∀j,(t.m.at j).tracked=true-> aV j≠some k:=fun k bb j d=>by
     obtain⟨id,bm⟩:=cc j d;obtain⟨l,ae,e,b,bi,z1,z2,_⟩:=bl j id bm;rw[b5 j id bm];exact bb id (by rw[z2];rfl)
    have d7:∀id b,(aE.at id).tracked=true->(∀j,(j,id) ∉ aL)-> V id=some b->ab.heap[b]? =w.heap[b]? :=fun id b N bb hb=>by
     refine S2.old b (hm.lt N hb) fun j d he=>?_;obtain⟨a7,ca⟩:=cc j d;obtain⟨l,ae,e,b',bi,z1,z2,_⟩:=bl j a7 ca;rw[b5 j a7 ca] at he;have:=hm.inj id a7 b N (by rw[z2];rfl) hb he;subst this;exact bb j ca
    have cj:∀id,aE.at id≠ .pad->id < aE.length:=fun id h=>by
     rcases ABN id aE.length with hh|hh
     .exact hh
     .exact absurd (Mem.at_ge hh) h
    have d2:AI T g.n V aE w ac aU ab:={
     os:=S2.os
     tape:=S2.tape
     output:=S2.output
     size:=S2.size
     mlen:=fun id h=>by
      by_cases bk:∃j,(j,id)∈aL
      .obtain⟨j,d⟩:=bk;rcases c5 j id d with⟨l,e,C⟩|C<;>rw[C]<;>exact fun h=>by cases h
      .rw[keep id (cj id h) (fun j d=>bk ⟨j,d⟩)];exact h
     rho:=fun id h=>by
      have X:=cj id (BM h);refine⟨bs id X,?_⟩;by_cases bk:∃j,(j,id)∈aL
      .obtain⟨j,d⟩:=bk;rcases c5 j id d with⟨l,e,C⟩|C<;>rw[C]<;>rfl
      .rw[keep id X (fun j d=>bk ⟨j,d⟩)];exact h
     untr:=fun id h N=>ch id (cj id h) N
     fresh:=fun id b h N hb=>by
      rcases ABN id aE.length with X|X
      .have:=ch id X N;rw[h] at this;cases this
      .exact d9 id b X N hb
     old:=fun k hk bb=>S2.old k hk (hs k bb)
     tok:=fun id x ks e z=>by
      have X:=cj id (by rw[z];exact fun h=>by cases h);have bb:∀j,(j,id) ∉ aL:=fun j d=>by
       obtain⟨l,ae,e,b,bi,z1,z2,_⟩:=bl j id d;rw[z] at z2;cases z2
      exact .inl ⟨by rw[keep id X bb];exact z,bs id X,fun b hb=>d7 id b (by rw[z];rfl) bb hb⟩
     row:=fun id x y ks e z=>by
      have X:=cj id (by rw[z];exact fun h=>by cases h);have bb:∀j,(j,id) ∉ aL:=fun j d=>by
       obtain⟨l,ae,e,b,bi,z1,z2,_⟩:=bl j id d;rw[z] at z2;cases z2
      exact .inr ⟨x,y,ks,by rw[keep id X bb];exact z,rfl,.inl ⟨rfl,bs id X,fun b W hb hv=>⟨W,by rw[d7 id b (by rw[z];rfl) bb hb];exact hv,rfl⟩⟩⟩ }
    have cy:g.n<=aq.n:=by omega
    have B:fW T J t.n g.n aq.n aL t.m.length aE.length cs ac t.m' aU ab ai:=by
     refine⟨fun x r z=>⟨eo x r z,?_⟩,fun x z k hL hF=>?_,fun b off aa=>?_,fun j l e id d hr=>?_⟩
     .rw[<-d1,ABg,ABU] at z;obtain⟨p,hp,rfl⟩:=z;have:=g9 p (ABZ.2 ⟨x,hp⟩)
      revert this
      cases p.2 with
      |c u=>exact fun _=>trivial
      |e y=>exact fun h=>ABE h cy
      |n y=>exact fun h=>ABE h cy
     .have hG:k=t.outs.length:=by omega
      have:=f2 (x - t.n) (by omega);rw[show t.n+(x - t.n)=x by omega] at this;exact⟨by omega,this.symm⟩
     .obtain⟨aF,s2,s3⟩:=aa;have e9:w.heap.size<=b\/Ag T V aE w b off:=s2;refine⟨aF,?_,fun id=>?_⟩
      .rcases e9 with h|h
       .exact hm.fr b off h
       .exact h.2.1
      .rcases ABN id aE.length with X|X
       .have base:match aE.at id with| .pad| .gone=>True| .cells _ _| .lp _ _| .mrow _ _ _ _| .mapb _ _ _ _ _=> V id≠some b| .tok x ks _=> V id=some b->off < CH T x ks:=by
         rcases e9 with h|h
         .have no:(aE.at id).tracked=true-> V id≠some b:=fun N he=>by have:=hm.lt N he;omega
          cases z:aE.at id with
          |pad=>trivial
          |gone=>trivial
          |cells=>exact no (by rw[z];rfl)
          |lp=>exact no (by rw[z];rfl)
          |mrow=>exact no (by rw[z];rfl)
          |mapb=>exact no (by rw[z];rfl)
          |tok=>exact fun he=>absurd he (no (by rw[z];rfl))
         .exact h.2.2 id
        by_cases bk:∃j,(j,id)∈aL
        .obtain⟨j,d⟩:=bk;obtain⟨l,ae,e,b',bi,z1,z2,_⟩:=bl j id d;rw[z2] at base;rcases c5 j id d with⟨l3,e3,C⟩|C
         .rw[C];show ac id≠some b;rw[bs id X];exact base
         .rw[C];trivial
        .rw[keep id X (fun j d=>bk ⟨j,d⟩),bs id X];exact base
       .by_cases N:(aU.at id).tracked=true
        .obtain⟨l,e,C,O⟩:=cl id X N;have:=s3 (t.m.length+(id - aE.length));rw[C] at this;rw[O];show ac id≠some b;rw[cf id X];exact this
        .cases z:aU.at id with
         |pad=>trivial
         |gone=>trivial
         |cells=>rw[z] at N;exact absurd rfl N
         |lp=>rw[z] at N;exact absurd rfl N
         |tok=>rw[z] at N;exact absurd rfl N
         |mrow=>rw[z] at N;exact absurd rfl N
         |mapb=>rw[z] at N;exact absurd rfl N
     .unfold aj at hr;split at hr
      .have cb:=R2 hr;obtain⟨l0,ae,hC,b',bi,z1,z2,_⟩:=bl j id cb;have X:=dk _ cb;refine⟨by rw[bs id X,dv j (by rw[z1];rfl),b5 j id cb],?_⟩;rcases c5 j id cb with⟨l3,e3,C⟩|C<;>rw[C]<;>rfl
      .rename_i gm;cases hr;have hE:t.m.length<=j:=by
        rcases ABN j t.m.length with h|h
        .exact absurd (by rw[Nat.blt_eq];exact h) gm
        .exact h
       have ev:t.m.length+(aE.length+(j - t.m.length) - aE.length)=j:=by omega
       refine⟨by rw[cf _ (by omega),ev],?_⟩;rw[fresh _ (by omega),ev];have gs:j < t.m'.length:=by
        rcases ABN j t.m'.length with h|h
        .exact h
        .rw[Mem.at_ge h] at d;cases d
       rw[ACE gs,d];rfl
    have d4:∀h v,AA J (t.n+t.outs.length) cs t.m' ab h v->AA T aq.n ac aU ab (up h) v:=fun h v hh=>by
     rw[c1];exact rT B gp h v hh
    refine⟨v, ac,rfl,d2,⟨fun id=>?_,fun id a7 b t1 t2 C O=>?_,fun b off hb=>hm.fr b off (ABS S2.size hb)⟩,by rw[<-e1];exact d4 _ _ H2⟩
    .rcases ABN id aE.length with X|X
     .by_cases bk:∃j,(j,id)∈aL
      .obtain⟨j,d⟩:=bk;obtain⟨l,ae,e,b,bi,z1,z2,z3,z4,z5,z6⟩:=bl j id d;rw[fd j id d,z1,z2];have b7:=M2.blk j;cases z:t.m'.at j with
       |cells l3 e3=>
        simp only[P2];split
        .rename_i er;simp only[AA8] at er;obtain⟨⟨aS,c2⟩,c3⟩:=er;rw[z] at b7;obtain⟨b2,ee,y1,y2,y3⟩:=b7;have f6:b2=b:=by
          rw[dv j (by rw[z1];rfl),b5 j id d,z3] at y1;injection y1 with y1;exact y1.symm
         rw[<-AA9 c3] at y2;rw[f6] at y2;exact⟨b,ee,by rw[bs id X];exact z3,y2,Wa d2 cy dv d4 (AA9 aS) (AA9 c2) z6 z5 y3⟩
        .trivial
       |_=>trivial
      .have bb:∀j,(j,id) ∉ aL:=fun j d=>bk ⟨j,d⟩;by_cases N:(aE.at id).tracked=true
       .exact BS.step d2 hm cy (keep id X bb) (bs id X) (fun b hb=>d7 id b N bb hb)
       .rw[keep id X bb];cases z:aE.at id with
        |pad=>trivial
        |gone=>trivial
        |cells=>rw[z] at N;exact absurd rfl N
        |lp=>rw[z] at N;exact absurd rfl N
        |tok=>rw[z] at N;exact absurd rfl N
        |mrow=>rw[z] at N;exact absurd rfl N
        |mapb=>rw[z] at N;exact absurd rfl N
     .by_cases N:(aU.at id).tracked=true
      .obtain⟨l,e,C,O⟩:=cl id X N;have b7:=M2.blk (t.m.length+(id - aE.length));rw[C] at b7;obtain⟨b2,ee,y1,y2,y3⟩:=b7;rw[O];exact⟨b2,ee,by rw[cf id X];exact y1,y2,qB d4 y3⟩
      .cases z:aU.at id with
       |pad=>trivial
       |gone=>trivial
       |cells=>rw[z] at N;exact absurd rfl N
       |lp=>rw[z] at N;exact absurd rfl N
       |tok=>rw[z] at N;exact absurd rfl N
       |mrow=>rw[z] at N;exact absurd rfl N
       |mapb=>rw[z] at N;exact absurd rfl N
    .rcases ABN id aE.length with X|X
     .rcases ABN a7 aE.length with b0|b0
      .rw[bs id X] at C;rw[bs a7 b0] at O;exact hm.inj id a7 b (ch id X t1) (ch a7 b0 t2) C O
      .have:=d9 a7 b b0 t2 O;rw[bs id X] at C;have:=hm.lt (ch id X t1) C;omega
     .rcases ABN a7 aE.length with b0|b0
      .have:=d9 id b X t1 C;rw[bs a7 b0] at O;have:=hm.lt (ch a7 b0 t2) O;omega
      .obtain⟨l,e,k1,_⟩:=cl id X t1;obtain⟨ae,e',E,_⟩:=cl a7 b0 t2;rw[cf id X] at C;rw[cf a7 b0] at O;have:=M2.inj _ _ b (by rw[k1];rfl) (by rw[E];rfl) C O;omega
   .cases bt
  .cases bt
 .cases bt
end
section
open Go Go.RowKit
mutual
theorem cI {ok:Nat->Nat->Prop}{w:World}:∀(k:Kd) {u:U} {v:Value},AX ok w k u v->KdU AB k u
 | .int _ _ _,_,_,⟨n,C,_,h3⟩=>⟨n,C,h3⟩
 | .bool,_,_,⟨b,C,_⟩=>⟨b,C⟩
 | .str,_,_,⟨s,C,_,O⟩=>⟨s,C,O⟩
 | .val,_,_,_=>trivial
 | .any,_,_,_=>trivial
 | .list ks,_,_,⟨l,h0,C,O,a,I,_,_,h5⟩=>by
  refine⟨l,h0,C,fun i us Y=>?_⟩;have p:0 < l.length:=by have:=(ABD.1 Y).1;omega
  obtain⟨b,o,_,d⟩:=h5 p;exact jZ ks (d i us Y)
theorem jZ {ok:Nat->Nat->Prop}{w:World}:∀(ks:List Kd) {b off:Nat} {us:List U},Al ok w ks b off us->AL AB ks us
 |[],_,_,_,h=>h
 |k::ks,_,_,_,⟨u,us',e,⟨_,v,_,h3⟩,h4⟩=>⟨u,us',e,cI k h3,jZ ks h4⟩
end
theorem ii {ok:Nat->Nat->Prop}{w:World}:∀{ks:List Kd} {us:List U} {W:List Value},AT ok w ks us W->AL AB ks us
 |[],_,_,h=>h.1
 |k::_,_,_,⟨u,us',v,vs',e,_,C,O⟩=>⟨u,us',e,cI k C,ii O⟩
section
variable {T:Tab}{n:Nat}{V :Nat->Option Nat}{m:Mem}{w:World}
theorem ql {k:Kd}{x:Nat}{v:Value}(h:AA T n V m w (Rc k x) v):KdU AB k (T x):=by
 cases k with
 |int k am Y=>obtain⟨_,i,C,_,d⟩:=h;exact⟨i,C,d⟩
 |bool=>obtain⟨_,b,C,_⟩:=h;exact⟨b,C⟩
 |str=>obtain⟨_,s,C,_,O⟩:=h;exact⟨s,C,O⟩
 |val=>trivial
 |any=>trivial
 |list ks=>exact cI (.list ks) h.2
def PM (ks:List Kd)(us:List U):Prop:=∀(j:Nat) (k:Kd) (u:U),ks[j]? =some k->us[j]? =some u->KdU AB k u
theorem Xn:∀{ks:List Kd} {x:Nat} {aD:List Value},AF T n V m w (S9 x ks) aD->∀(j:Nat) (k:Kd),ks[j]? =some k->KdU AB k (T (x+j))
 |[],_,_,_,j,k,hj=>by simp at hj
 |k0::ks,x,aD,⟨u,us,_,C,O⟩,j,k,hj=>by
  cases j with
  |zero=>simp at hj;subst hj;exact ql C
  |succ j=>
   have:=Xn O j k (by simpa using hj);rw[show x+(j+1)=x+1+j by omega];exact this
theorem J8:∀{d:List Z4} {x:Nat} {W:List Value},AF T n V m w (Fo x d) W->∀(j:Nat) (k:Kd),(DW d)[j]? =some k->KdU AB k (T (x+j))
 |[],_,_,_,j,k,hj=>by simp[DW] at hj
 | .one k0::r,x,W,⟨u,us,_,C,O⟩,j,k,hj=>by
  simp only[DW] at hj;cases j with
  |zero=>simp at hj;subst hj;exact ql C
  |succ j=>
   have:=J8 O j k (by simpa using hj);rw[show x+(j+1)=x+1+j by omega];exact this
 | .agg ks::r,x,W,⟨u,us,_,C,O⟩,j,k,hj=>by
  simp only[DW] at hj;rw[AB7] at hj;split at hj
  .obtain⟨aD,_,p⟩:=C;exact Xn p j k hj
  .rename_i y;have:=J8 O (j - ks.length) k hj;rw[show x+ks.length+(j - ks.length)=x+j by omega] at this;exact this
 | .ptr U off::r,x,W,⟨u,us,_,C,O⟩,j,k,hj=>J8 O j k hj
 | .cst _::r,x,W,⟨u,us,_,C,O⟩,j,k,hj=>J8 O j k hj
theorem jm:∀{f:List (List Kd × TypeId)} {x y:Nat},(∀i,i < f.length->BS T n V m w (y+i) ((K6 x f).at i))->∀(j:Nat) (k:Kd),(SX f)[j]? =some k->KdU AB k (T (x+j))
 |[],_,_,_,j,k,hj=>by simp[SX] at hj
 |(ks,e)::r,x,y,hb,j,k,hj=>by
  have d:SX ((ks,e)::r)=ks++SX r:=rfl;rw[d,AB7] at hj;split at hj
  .obtain⟨b,W,_,_,p⟩:=hb 0 (by simp);exact Xn p j k hj
  .rename_i u;have:=jm (f:=r) (x:=x+ks.length) (y:=y+1) (fun i Y=>by
    have:=hb (i+1) (by simpa using Y);rw[show y+(i+1)=y+1+i by omega] at this;simpa [K6,Mem.at] using this) (j - ks.length) k hj
   rw[show x+ks.length+(j - ks.length)=x+j by omega] at this;exact this
end
def V5 (nh aR:Nat)(ai:List Rf)(aQ m:Mem)(h c:AC):Option (List Pr):=
 match h,c with
 | .agg l,.agg ae=>Ml nh aR ai aQ m l ae
 |h,c=>M3 nh aR ai aQ m h c
def MV (nh aR:Nat)(ai:List Rf)(aQ m:Mem):List AC->List AC->Option (List Pr)
 |[],[]=>some []
 |h::l,c::ae=>QZ (V5 nh aR ai aQ m h c) (MV nh aR ai aQ m l ae)
 |_,_=>none
def PH (nh aR:Nat)(ai:List Rf)(aQ m:Mem)(h c:AC):Option (List Pr):=
 match h,c with
 | .tup l,.tup ae=>MV nh aR ai aQ m l ae
 |h,c=>V5 nh aR ai aQ m h c
section
variable {aA J:Tab}{V :Nat->Option Nat}{m aQ:Mem}{w:World}{nh av aB:Nat}{ai:List Rf}
variable{h c:AC}{ps:List Pr}{v:Value}
theorem Y8 (M:KA aA J V m aQ w nh aQ.length)(u:nh<=aB)(H:Fc aA J nh aB ai)(S:EK aA J nh aQ m)(d:V5 nh aQ.length ai aQ m h c=some ps)(y:∀p∈ps,p.holds aA)
  (z:AA aA av V m w c v):AA J aB V aQ w h v:=by
 unfold V5 at d;split at d
 .obtain⟨W,e,C⟩:=z;exact⟨W,e,Rv M u H S d y W C⟩
 .exact Ni d M u H S y z
theorem VU (M:KA aA J V m aQ w nh aQ.length)(y:nh<=aB)(H:Fc aA J nh aB ai)(S:EK aA J nh aQ m):∀{l ae:List AC} {ps:List Pr},MV nh aQ.length ai aQ m l ae=some ps->(∀p∈ps,p.holds aA)->
  ∀W,AF aA av V m w ae W->AF J aB V aQ w l W
 |[],[],ps,_,_,W,h=>h
 |[],_::_,ps,h,_,_,_=>by simp[MV] at h
 |_::_,[],ps,h,_,_,_=>by simp[MV] at h
 |a::l,c::ae,ps,h,hps,W,⟨u,us,C,O,h3⟩=>by
  simp only[MV] at h;obtain⟨aZ,aY,z,E,rfl⟩:=GS h;exact⟨u,us,C,Y8 M y H S z (fun p d=>hps p (ABR _ d)) O,VU M y H S E (fun p d=>hps p (ABL _ d)) us h3⟩
theorem rO (M:KA aA J V m aQ w nh aQ.length)(u:nh<=aB)(H:Fc aA J nh aB ai)(S:EK aA J nh aQ m)(d:PH nh aQ.length ai aQ m h c=some ps)(y:∀p∈ps,p.holds aA)
  (z:AA aA av V m w c v):AA J aB V aQ w h v:=by
 unfold PH at d;split at d
 .obtain⟨W,e,C⟩:=z;exact⟨W,e,VU M u H S d y W C⟩
 .exact Y8 M u H S d y z
end
def eC (t:AU)(ai:List Rf)(aN:AC)(aP:Mem)(d:G):Option (List Pr):=
 if Nc t.n d&&Nat.beq ai.length t.outs.length&&Nat.ble t.m.length t.m'.length then
  QZ (Hh [] t.n t.m'.length ai t.m' aP t.m' aP) (PH t.n t.m'.length ai t.m' aP t.c aN)
 else none
variable{T:Tab}{V:Nat->Option Nat}{w:World}{t:AU}{ai:List Rf}{aN:AC}{aP:Mem}
theorem AF.split {n:Nat}{m:Mem}:∀{l ah:List AC} {W:List Value},AF T n V m w (l++ah) W->∃d p,W=d++p/\AF T n V m w l d/\AF T n V m w ah p
 |[],_,W,h=>⟨[],W,rfl,rfl,h⟩
 |_::_,_,_,⟨u,us,C,O,h3⟩=>by
  obtain⟨d,p,rfl,y,z⟩:=h3.split;exact⟨u::d,p,C,⟨u,d,rfl,O,y⟩,z⟩
theorem dl {T:Tab}{n:Nat}{V :Nat->Option Nat}{m:Mem}{w:World}{z:Nat}(d:∀L,T 1= .int L->L<=AB):∀{k x:Nat} {W:List Value},AF T n V m w (Vv z x k) W->∀j,j < k->KdU AB (.int .i64 0 AB) (T (x+j))
 |k+1,x,_,⟨_,_,_,O,h3⟩,0,_=>by
  obtain⟨_,i,L,_,p,u,y,_⟩:=O;have:=d L u;exact⟨i,p,y.1,by omega⟩
 |k+1,x,_,⟨_,_,_,_,h3⟩,j+1,h=>by
  have:=dl d h3 j (by omega);rwa [show x+1+j=x+(j+1) by omega] at this
theorem jt {us:List U}{W:List Value}(bo:∀j u,us[j]? =some u->T j=u)(E:AF T t.n V t.m w t.args W)(M:AH T t.n V t.m w):PM t.ks us:=fun j k u d hu=>by
 have bl:=bo j u hu;rw[<-bl];cases z:t.row with
 |none=>
  have ha:t.args=Fo 0 t.sh:=by unfold AU.args;rw[z]
  have N:t.m=K6 (DW t.sh).length t.blks:=by unfold AU.m;rw[z]
  rw[ha] at E;rw[N] at M;unfold AU.ks at d;rw[z,AB7] at d;split at d
  .have:=J8 E j k d;rw[ABJ] at this;exact this
  .rename_i b1;have:=jm (f:=t.blks) (x:=(DW t.sh).length) (y:=0) (fun i Y=>by rw[ABJ];exact M.blk i) (j - (DW t.sh).length) k d;rw[show (DW t.sh).length+(j - (DW t.sh).length)=j by omega] at this;exact this
 |some ke=>
  obtain⟨X,e0⟩:=ke;have ha:t.args=TF X.length t.ptrs++Fo (2+t.ptrs) t.sh:=by unfold AU.args;rw[z]
  have N:t.m=[.mrow 0 1 X e0]:=by unfold AU.m;rw[z]
  rw[ha] at E;rw[N] at M;have bm:BS T t.n V [.mrow 0 1 X e0] w 0 (.mrow 0 1 X e0):=M.blk 0;obtain⟨_,l,C,O,h3,h4⟩:=bm;rw[N] at E;obtain⟨v1,v2,_,a6,bx⟩:=E.split;unfold AU.ks at d;rw[z] at d
  match j,d with
  |0,d=>
   cases d;rw[C];refine⟨l,rfl,h3.1,fun i us Y=>?_⟩;rcases h4 with⟨_,rfl⟩|⟨b,b5,b2,_,_,h5,_⟩
   .simp at Y
   .obtain⟨R,_,h6⟩:=h5;obtain⟨aD,_,h7⟩:=h6.getC Y;exact ii h7
  |1,d=>
   cases d;rw[O];exact⟨l.length,rfl,by omega,by have:=h3.1;omega⟩
  |j+2,d=>
   replace d:(List.replicate t.ptrs (Kd.int .i64 0 AB)++DW t.sh)[j]? =some k:=d;rw[AB7] at d;split at d
   .rename_i p;rw[List.length_replicate] at p;rw[List.getElem?_replicate,ACE p] at d;cases d;cases hp:t.ptrs with
    |zero=>omega
    |succ q=>
     rw[hp] at a6 p;have:=dl (fun L hL=>by rw[O] at hL;cases hL;exact Int.ofNat_le.2 h3.1) a6 j p;rwa [Nat.add_comm] at this
   .rename_i p;rw[List.length_replicate] at p d;have:=J8 bx (j - t.ptrs) k d;rwa [show 2+t.ptrs+(j - t.ptrs)=j+2 by omega] at this
theorem bV {aZ aY:List Pr}{d:Tab}{us:List U}(X:Hh [] t.n t.m'.length ai t.m' aP t.m' aP=some aZ)(bi:PH t.n t.m'.length ai t.m' aP t.c aN=some aY)(b5:ai.length=t.outs.length)(bl:∀id,id < t.m.length->t.m'.at id≠ .pad)
  (a7:∀x,x < t.n->d x=T x) (ax:d.fr=T.fr) (aK:d.lp=T.lp) (bt:us.length=t.n) (hT:∀j u,(t.us us)[j]? =some u->T j=u) (a1:∀p∈aZ++aY,p.holds d) (bs:ai.map (Rf.eval d)=t.outs.map fun o=>o.2 us)
  {ac:Nat->Option Nat} {ab:World} {v:Value} {O:Nat} (bb:AH d t.n V t.m w) (q1:AI d t.n V t.m w ac aP ab) (q2:AH d O ac aP ab) (q3:AA d O ac aP ab aN v):
  AI T t.n V t.m w ac t.m' ab/\AH T (t.n+t.outs.length) ac t.m' ab/\AA T (t.n+t.outs.length) ac t.m' ab t.c v:=by
 have H:Fc d T t.n (t.n+t.outs.length) ai:=fun j r W=>by
  have b4:=(ABD.1 W).1;refine⟨by omega,?_⟩;have C:(ai.map (Rf.eval d))[j]? =some (r.eval d):=by simp[W]
  rw[bs] at C;exact hT (t.n+j) _ (by
   unfold AU.us;rw[ABP (by omega),bt,show t.n+j - t.n=j by omega];exact C)
 obtain⟨z,bo⟩:=RR (aA:=d) (J:=T) X H;have E:∀x,x < t.n->T x=d x:=fun x hx=>(a7 x hx).symm;have bm:∀id,t.m.at id≠ .pad->t.m'.at id≠ .pad:=fun id h=>by
  rcases ABN id t.m.length with N|N
  .exact bl id N
  .exact absurd (Mem.at_ge N) h
 have Y:t.n<=t.n+t.outs.length:=Nat.le_add_right _ _;have M:KA d T ac aP t.m' ab t.n t.m'.length:=z.move bo E ax.symm;refine⟨AI.matched z E (ABB _) bb bm q1,?_,rO M Y H z bi (fun p y=>a1 p (ABL _ y)) q3⟩;have bk:Ep [] t.n ai ⟨⟨0,[],.nil⟩,t.m'⟩ ⟨⟨0,[],.nil⟩,aP⟩=some (aZ++[]):=by
  simp only[Ep,MQ,List.isEmpty_nil,Bool.true_and,(Dw 0 0).2 rfl,if_true];rw[X];rfl
 have hR:Rel (d.atBase 0) O ac ⟨⟨0,[],.nil⟩,aP⟩ { tmps:= #[],defers:=[] } ab:=⟨D7.nil _ _ _ (ABh _),rfl,(fun i c hc=>by simp[AZ.get,BH,Tr.get] at hc),q2.tab (Kk _ 0 _)⟩;obtain⟨z1,_,_⟩:=Hd (aA:=d.atBase 0) (J:=T.atBase 0) bk (fun p y=>by cases y) ax.symm aK.symm rfl E Y H (fun p y=>Yg.2 (a1 p (by rw[ABx] at y;exact ABR _ y))) hR;exact z1.mem.tab (Kk T 0 _).symm
theorem jl {P:Program}{f:FuncId}{Y:A7}(bm:∀T,Ca P T Y)
    {d:G}  {ps:List Pr} (ca:Y Ys.none f t.args none t.m { n:=t.n,eqs:=[],obs:=[] }=some (aN,aP,d)) (E:eC t ai aN aP d=some ps)
  (b2:∀id,id < t.m.length->t.m'.at id≠ .pad)
  (b5:∀(T:Tab) (us:List U),us.length=t.n->PM t.ks us->(∀p∈t.pre,p.2 us)->(∀j u,us[j]? =some u->T j=u)->(∀p∈d.eqs,T p.1=p.2.eval T)->Ar T d/\(∀p∈ps,p.holds T)/\ai.map (Rf.eval T)=t.outs.map fun o=>o.2 us):AW P f t:=by
 refine⟨fun s=>(Gi d.lps s).getD Qv,fun T us bx bb hT b6 V w W bi N=>?_⟩;unfold eC at E;split at E
 .rename_i hc;simp only[AA8] at hc;obtain⟨⟨z,bk⟩,cj⟩:=hc;obtain⟨aZ,aY,b0,b1,rfl⟩:=GS E;unfold Nc at z;rw[AA8] at z;have b8:=AA9 bk;obtain⟨ax,aK,r3⟩:=Fa d.eqs T;have b4:=(CR (T:=T) z.1).2.2;have M:∀x,x < t.n->BR T d.eqs x=T x:=fun x X=>b4 x (.inl X);have a6:∀j u,us[j]? =some u->T j=u:=fun j u C=>hT j u (by unfold AU.us;rw[ABO (ABD.1 C).1];exact C);have S:Cg T (BR T d.eqs) t.n:=⟨M,ax,aK⟩;have hA:Agr (BR T d.eqs) d:=⟨fun p O=>FF (fv:=[]) (nh:=0) (fun x X=>by cases X) (ABh _) z.1 p O,fun p O=>by
   rw[aK,bx];show (Gi d.lps p.1).getD Qv=p.2;rw[SS z.2 p O];rfl⟩
  have bt:PM t.ks us:=jt a6 bi N;obtain⟨b3,b7,b9⟩:=b5 (BR T d.eqs) us bb bt b6 (fun j u C=>by
   have:=(ABD.1 C).1;rw[M j (by omega)];exact a6 j u C) hA.eqs
  obtain⟨_,cb⟩:=bm (BR T d.eqs) Ys.none f t.args none t.m _ aN aP d (fun T' _ s y hy=>by cases hy) ca;have a7:=N.tab S;obtain⟨bo,bl⟩:=cb hA b3 trivial trivial V w W (AF.tab S.eq (fun b off h=>S.safe N h) _ _ bi) a7;refine⟨bo,bl.mono fun e ab hh=>?_⟩;obtain⟨v, ac,rfl,q1,q2,q3⟩:=hh;exact⟨v, ac,rfl,bV b0 b1 b8 b2 M ax aK bb hT b7 b9 a7 q1 q2 q3⟩
 .cases E
end
section
open Go Go.RowKit
def Nv (id y d:Nat):Nat->List AC->Option (List Rf × List AC)
 |0,aX=>some ([],aX)
 |k+1,.mp id' aF t sz' 0::aX=>if Nat.beq id id'&&Nat.beq y aF&&Nat.beq d sz' then (match Nv id y d k aX with|some (l,r)=>some (.e t::l,r)|none=>none) else none
 |_,_=>none
def nZ (d:Nat):Nat->List AC->Option (Nat × Nat × List Rf × List AC)
 |0,.mr id y::aX=>some (id,y,[],aX)
 |k+1,.mp id y t sz' off::aX=>(match Nv id y d (k+1) (.mp id y t sz' off::aX) with|some (l,r)=>some (id,y,l,r)|none=>none)
 |_,_=>none
def outS (n base:Nat):AC->Option AC
 | .tup []=>some (.tup [])
 | .i k am Y x=>if Nat.ble n x then some (.i k am Y (base+(x - n))) else none
 | .b x=>if Nat.ble n x then some (.b (base+(x - n))) else none
 |_=>none
def au (t:AU):A7:=fun _ _ aX ad aE g=>
 match t.row,t.m' with
 |some (ks,e),[.mrow xo yo kso eo]=>
  match nZ ks.length t.ptrs aX with
  |some (id,y,l,aX)=>
   match aE.at id with
   | .mrow x aF af e'=>
    match I6 [] (Fo (2+t.ptrs) t.sh) aX,outS t.n g.n t.c with
    |some (prs,ps),some c=>
     if (Nat.beq y aF&&Nat.beq e e'&&Nat.beq eo e&&(Nat.beq xo 0||Nat.beq xo t.n&&Nat.blt 0 t.outs.length)&&Nat.beq yo 1)&&(Nat.beq af.length ks.length&&Kd.beqs (Kd.joins af ks) ks)&&(EP (prs.map (·.1)) ((List.range t.n).drop (2+t.ptrs))&&Nat.ble (2+t.ptrs) t.n) then
      some (c,aE.set id (.mrow (bif Nat.beq xo 0 then x else g.n) y kso e),(g.needAll ad (ps++t.pre.map fun p=>⟨p.1,p.2,.e x:: .e y::(l++prs.map (·.2))⟩)).pushAll (t.outs.map fun o=>⟨o.1,o.2,.e x:: .e y::(l++prs.map (·.2))⟩))
     else none
    |_,_=>none
   |_=>none
  |none=>none
 |_,_=>none
theorem aY {T J:Tab}{a5 n id x y N:Nat}{V aV:Nat->Option Nat}{aE:Mem}{w:World}{ks af:List Kd}{e:TypeId}(M:aE.at id= .mrow x y af e)(E: aV 0= V id)(hn:2<=n)(C:J 1=T y):
  ∀{k:Nat} {aX:List AC} {l:List Rf} {r:List AC} {aZ:Nat} {W:List Value},Nv id y N k aX=some (l,r)->aZ+k<=n->(∀i a,l[i]? =some a->J (aZ+i)=a.eval T)->AF T a5 V aE w aX W->
  l.length=k/\∃d z,W=d++z/\AF T a5 V aE w r z/\AF J n aV [.mrow 0 1 ks e] w (Vv N aZ k) d
 |0,aX,l,r,aZ,W,h,_,_,hv=>by
  simp only[Nv] at h;cases h;exact⟨rfl,[],W,rfl,hv,rfl⟩
 |k+1,[],l,r,aZ,W,h,_,_,hv=>by simp[Nv] at h
 |k+1,a::aX,l,r,aZ,W,h,hx,hl,hv=>by
  cases a with
  |mp b1 aF t b5 off=>
   cases off with
   |succ q=>simp[Nv] at h
   |zero=>
    simp only[Nv] at h;split at h
    .rename_i p;simp only[AA8] at p;have X:=AA9 p.1.1;subst X;have b2:=AA9 p.1.2;subst b2;have b3:=AA9 p.2;subst b3;split at h
     .rename_i ah aK O;cases h;obtain⟨u,us,rfl,hu,a7⟩:=hv;obtain⟨q1,d,z,rfl,q3,q4⟩:=aY (ks:=ks) (k:=k) (aZ:=aZ+1) M E hn C O (by omega) (fun i a Y=>by rw[show aZ+1+i=aZ+(i+1) by omega];exact hl (i+1) a Y) a7;refine⟨by simp[q1],u::d,z,rfl,q3,u,d,rfl,?_,q4⟩;obtain⟨_,i,L,b,z1,z2,z3,z4,z5⟩:=hu;have hb:=z5 _ _ _ M;refine⟨⟨by omega,by omega,fun h=>by cases h⟩,i,L,b,?_,by rw[C];exact z2,z3,z4,fun x3 b4 e3 he=>?_⟩
      .have:=hl 0 (.e t) rfl;rw[Nat.add_zero] at this;rw[this];exact z1
      .rw[E];exact hb
     .cases h
    .cases h
  |_=>simp[Nv] at h
variable{T J:Tab}{V aV:Nat->Option Nat}{w:World}{P:Program}{t:AU}
theorem tc {a5 n id x y z:Nat}{aE:Mem}{ks af:List Kd}{e:TypeId}(p:aE.at id= .mrow x y af e)(d: aV 0= V id)(hn:2<=n)(C:J 1=T y)(a1:af.length=ks.length):
  ∀{k:Nat} {aX:List AC} {l:List Rf} {r:List AC} {W:List Value},nZ z k aX=some (id,y,l,r)->2+k<=n->(∀i a,l[i]? =some a->J (2+i)=a.eval T)->AF T a5 V aE w aX W->
  l.length=k/\∃M N,W=M++N/\AF T a5 V aE w r N/\AF J n aV [.mrow 0 1 ks e] w (TF z k) M:=by
 intro k aX l r W h Y hl u;unfold nZ at h;split at h
 .cases h;obtain⟨E,bm,rfl,a4,a6⟩:=u;obtain⟨_,j,a,I,q1,q2,q3,q4,q5⟩:=a4;refine⟨rfl,[E],bm,rfl,a6,E,[],rfl,⟨⟨by omega,fun h=>by cases h⟩,j,a,I,by rw[C];exact q1,q2,q3,q4,fun aZ b2 e2 X=>?_⟩,rfl⟩;cases X;rcases q5 _ _ _ p with q|⟨b,bo,z1,z2,z3,z4⟩
  .exact .inl ⟨by rw[d];exact q.1,q.2⟩
  .exact .inr ⟨b,bo,by rw[d];exact z1,z2,z3,by rw[<-a1];exact z4⟩
 .split at h
  .rename_i O;cases h;exact aY p d hn C O Y hl u
  .cases h
 .cases h
theorem xY {n base k:Nat}{m al:Mem}{c y:AC}{v:Value}(h:outS n base c=some y)(z:∀j,j < k->J (n+j)=T (base+j))(u:AA J (n+k) aV al w c v):AA T (base+k) V m w y v:=by
 unfold outS at h;split at h
 .cases h;obtain⟨W,rfl,E⟩:=u;cases E;exact⟨[],rfl,rfl⟩
 .split at h
  .rename_i M am Y x d;cases h;have d:=ABX d;obtain⟨C,i,O,p⟩:=u;have:=z (x - n) (by omega);rw[show n+(x - n)=x by omega] at this;exact⟨by omega,i,by rw[<-this];exact O,p⟩
  .cases h
 .split at h
  .rename_i x d;cases h;have d:=ABX d;obtain⟨C,i,O,p⟩:=u;have:=z (x - n) (by omega);rw[show n+(x - n)=x by omega] at this;exact⟨by omega,i,by rw[<-this];exact O,p⟩
  .cases h
 .cases h
theorem rZ {f:FuncId}(d:AW P f t):∀(T:Tab) (ap:Ys) (args:List AC) (ad:PC) (aE:Mem) (g:G) (c':AC) (aU:Mem) (aq:G),au t ap f args ad aE g=some (c',aU,aq)->
  Ac g aq/\(Agr T aq->Ar T aq->pcv T ad->BN T g ad->∀ V w W,AF T g.n V aE w args W->AH T g.n V aE w->
   (∃aC,P.funcs[f]? =some aC/\aC.body.isSome=true/\(aC.name== "runtime.NumGoroutine")=false)/\Calls P f (W:List Value).toArray w (G8 T g V aE w c' aU aq)):=by
 intro T ap args ad aE g c' aU aq ax;obtain⟨gi,d⟩:=d;unfold au at ax;split at ax
 .rename_i _ _ ks e xo yo a7 N d2 ds;split at ax
  .rename_i id y l aX f4;split at ax
   .rename_i x aF af e' bi;split at ax
    .rename_i _ _ b0 ps gG hb er;split at ax
     .rename_i hc;simp only[AA8,ABe] at hc;obtain⟨⟨⟨⟨⟨⟨b1,b2⟩,b3⟩,bx⟩,b5⟩,⟨b6,cl⟩⟩,d9,cs⟩:=hc;have b1:=AA9 b1;subst b1;have b2:=AA9 b2;subst b2;have b3:=AA9 b3;subst b3;have b5:=AA9 b5;subst b5;have b6:=AA9 b6;have cl:=Kd.beqs_eq _ _ cl;have dn:=L3 d9;have cs:=ABX cs;simp only[ABu,Prod.mk.injEq] at ax;obtain⟨e1,e2,e3⟩:=ax;subst e1;generalize b7:(Rf.e x::Rf.e y::(l++b0.map (·.2)))=ai at e3;generalize cy:g.needAll ad (ps++t.pre.map fun p=>(⟨p.1,p.2,ai⟩:Pr))=g1 at e3;have av:g1.n=g.n:=by rw[<-cy];exact (DG _ _ _).1
      have ei:Ac g g1:=by rw[<-cy];exact Ac.need _ _ _
      have de:Ac g1 aq:=by rw[<-e3];exact Ac.push _ _
      refine⟨ei.trans de,fun hA fs fv g2 V w W f7 hm=>?_⟩;have ey:aq.n=g.n+t.outs.length:=by rw[<-e3,Bb,av,List.length_map]
      have fn:New T g1.n (t.outs.map fun o=>⟨o.1,o.2,ai⟩):=by rw[<-e3] at hA;exact hA.new
      have d1:∀p∈ps++t.pre.map fun p=>(⟨p.1,p.2,ai⟩:Pr),p.holds T:=by
       have:=fs.of de;rw[<-cy] at this;exact Ar.need this fv
      have f3:t.args=TF ks.length t.ptrs++Fo (2+t.ptrs) t.sh:=by unfold AU.args;rw[d2]
      have c2:t.m=[.mrow 0 1 ks N]:=by unfold AU.m;rw[d2]
      let us:=ai.map (Rf.eval T);let J:Tab:=⟨fun x=>(t.us us).getD x default,fun b off=>w.heap.size<=b\/Ag T V aE w b off\/ V id=some b,gi,0⟩;have cx:∀j u,(t.us us)[j]? =some u->J j=u:=fun j u E=>by
       show (t.us us).getD j default=u;simp[List.getD,E]
      have ca:∀x r,ai[x]? =some r->J x=r.eval T:=fun x r hx=>cx x _ (by
       unfold AU.us;have g4:=(ABD.1 hx).1;rw[ABO (by simp[us];omega)];simp[us,hx])
      have dj:J 0=T x:=ca 0 (.e x) (by rw[<-b7];rfl);have cv:J 1=T y:=ca 1 (.e y) (by rw[<-b7];rfl);let aV:Nat->Option Nat:=fun j=>if j=0 then V id else none
      obtain⟨gH,v1,v2,rfl,f8,f5⟩:=tc (J:=J) (n:=t.n) (aV:= aV) (ks:=ks) bi rfl (by omega) cv b6 f4 cs (fun i a Y=>ca (2+i) a (by
       have e4:=(ABD.1 Y).1;rw[<-b7,Nat.add_comm];show (l++_)[i]? =_;rw[ABO e4];exact Y)) f7
      have g3:b0.length+(2+t.ptrs)=t.n:=by have:=ACF List.length dn;simp at this;omega
      have f1:ai.length=t.n:=by rw[<-b7];simp;omega
      have g0:2<=t.n:=by omega
      have d0:∀p∈b0,p.1 < t.n/\ai[p.1]? =some p.2:=fun p hp=>by
       obtain⟨i,Y⟩:=ABZ.1 hp;have C:(b0.map (·.1))[i]? =some p.1:=by simp[Y]
       rw[dn] at C;obtain⟨O,h3⟩:=ABD.1 C;simp at O h3;rw[<-h3];refine⟨by omega,?_⟩;rw[<-b7,show 2+t.ptrs+i=(l.length+i)+2 by omega];show (l++b0.map (·.2))[l.length+i]? =_;rw[ABP (by omega)];simp[Y]
      have d5:us.length=t.n:=by simp[us,f1]
      have dk:∀j,j < t.outs.length->J (t.n+j)=T (g.n+j):=fun j E=>by
       have C:=cx (t.n+j) ((t.outs[j]).2 us) (by
        unfold AU.us;rw[ABP (by omega),d5];simp[E])
       have O:=fn j ⟨(t.outs[j]).1,(t.outs[j]).2,ai⟩ (by simp[E]);rw[av] at O;rw[C,O];rfl
      obtain⟨aZ,ga,em,gd⟩:∃aZ,(bif Nat.beq xo 0 then x else g.n)=aZ/\J xo=T aZ/\(x < g.n->aZ < aq.n):=by
       rcases bx with bx|⟨bx,bo⟩
       .have:=AA9 bx;subst this;exact⟨x,rfl,dj,fun _=>by omega⟩
       .have:=AA9 bx;subst this;have bo:=ABX bo;have hz:Nat.beq t.n 0=false:=by cases h:Nat.beq t.n 0;rfl;have:=AA9 h;omega
        refine⟨g.n,by rw[hz];rfl,?_,fun _=>by omega⟩;have:=dk 0 (by omega);simpa using this
      rw[ga] at e2;have dm:=hm.blk id;rw[bi] at dm;obtain⟨⟨hx,hy⟩,lx,el,en,⟨e7,fd⟩,d3⟩:=dm;have d4:∀b off,Ag T V aE w b off->Ag J aV [.mrow 0 1 ks N] w b off:=fun b off aa=>⟨aa.1,.inr (.inl aa),fun j=>by
       match j with
       |0=>
        have:=aa.2.2 id;rw[bi] at this;exact this
       |j+1=>trivial⟩
      have e5:ks≠[]:=fun h=>fd (AB3.1 (by rw[b6,h];rfl));have e8:AH J t.n aV [.mrow 0 1 ks N] w:=by
       refine⟨fun j=>?_,fun j j' b C O h3 h4=>?_,fun b off hb=> .inl hb⟩
       .match j with
        |0=>
         refine⟨⟨by omega,by omega⟩,lx,by rw[dj];exact el,by rw[cv];exact en,⟨e7,e5⟩,?_⟩;rcases d3 with⟨C,O⟩|⟨b,c7,c6,C,O,h3,h4⟩
         .exact .inl ⟨C,O⟩
         .refine .inr ⟨b,c7,c6,C,O,?_,fun off=> .inr (.inr C)⟩;obtain⟨R,q1,q2⟩:=Ah.mono (fun b off h=>⟨d4 b off h,rfl⟩) h3;refine⟨R,q1,q2.conv fun us W hc=>?_⟩;have:=AT.join_l (af:=ks) b6 hc;rwa [cl] at this
        |j+1=>trivial
       .have z:∀j,(Mem.at [.mrow 0 1 ks N] j).tracked=true->j=0:=fun j h=>by
         match j with
         |0=>rfl
         |j+1=>cases h
        rw[z j C,z j' O]
      have M:eE T J V aV aE [.mrow 0 1 ks N] w []:=⟨d4,fun j id E=>by cases E⟩;have f6:∀p∈b0,p.1 < t.n/\J p.1=p.2.eval T:=fun p hp=>⟨(d0 p hp).1,ca _ _ (d0 p hp).2⟩;obtain⟨eo,_⟩:=Jw (n:=t.n) M (Fo (2+t.ptrs) t.sh) aX hb f6 (fun p hp=>d1 p (ABR _ hp)) f8;have f0:∀p∈t.pre,p.2 us:=fun p hp=>d1 ⟨p.1,p.2,ai⟩ (ABL _ (ACI.2 ⟨p,hp,rfl⟩));obtain⟨et,es⟩:=d J us rfl d5 cx f0 aV w (v1++v2) (by rw[f3,c2];exact AF.append f5 eo) (by rw[c2];exact e8);refine⟨et,es.mono fun ex ab hh=>?_⟩;obtain⟨v, d8,rfl,S2,M2,H2⟩:=hh;rw[c2,ds] at S2;rw[ds] at M2 H2;obtain⟨e6,c4,f2⟩:a7.length=ks.length/\ d8 0= V id/\∀b W, V id=some b->w.heap[b]? =some (.cells W N (0,0))->∃d7,ab.heap[b]? =some (.cells d7 N (0,0))/\d7.size=W.size:=by
       rcases S2.row 0 0 1 ks N rfl with h|⟨L,aF,c5,C,O,h3⟩
       .cases h
       .cases C;rcases h3 with⟨_,h4,h5⟩|⟨h4,_⟩
        .exact⟨O,h4,h5⟩
        .omega
      have eq:BS J (t.n+t.outs.length) d8 [.mrow xo 1 a7 N] ab 0 (.mrow xo 1 a7 N):=M2.blk 0;obtain⟨_,ae,q1,q2,⟨q3,q4⟩,q5⟩:=eq;rw[em] at q1;rw[cv] at q2;have dv:aE.at id≠ .pad:=by rw[bi];exact fun h=>by cases h
      have a1:=fun j=>Gq aE id (.mrow aZ y a7 N) j dv;have b9:(aE.at id).tracked=true:=by rw[bi];rfl
      have keep:∀j b,(aE.at j).tracked=true->j≠id-> V j=some b->ab.heap[b]? =w.heap[b]? :=fun j b d E hr=>by
       refine S2.old b (hm.lt d hr) fun j' b8 X=>?_
       match j' with
       |0=>exact E (hm.inj j id b d b9 hr X)
       |j'+1=>cases b8
      have c1:AI T g.n V aE w V (aE.set id (.mrow aZ y a7 N)) ab:={
       os:=S2.os
       tape:=S2.tape
       output:=S2.output
       size:=S2.size
       mlen:=fun j h=>by rw[a1 j];split<;>first|exact (fun h=>by cases h)|exact h
       rho:=fun j h=>by
        have E:j≠id:=fun e=>by rw[e,bi] at h;cases h
        rw[a1 j,ACD E];exact⟨rfl,h⟩
       untr:=fun j h d=>by
        rw[a1 j] at d;split at d
        .rename_i X;rw[X];exact b9
        .exact d
       fresh:=fun j c h d hr=>by
        rw[a1 j] at d;split at d
        .rename_i X;rw[X] at h;exact absurd h dv
        .rw[h] at d;cases d
       old:=fun k hk fr=>S2.old k hk fun j' b8 X=>by
        match j' with
        |0=>exact fr id b9 X
        |j'+1=>cases b8
       tok:=fun j aZ c5 e2 h=>by
        have E:j≠id:=fun e=>by rw[e,bi] at h;cases h
        exact .inl ⟨by rw[a1 j,ACD E];exact h,rfl,fun b hb=>keep j b (by rw[h];rfl) E hb⟩
       row:=fun j aZ y2 c5 e2 h=>by
        by_cases E:j=id
        .subst E;rw[bi] at h;cases h;exact .inr ⟨aZ,y,a7,by rw[a1 j,ACE rfl],by rw[e6,b6],.inl ⟨rfl,rfl,fun b W hb hv=>f2 b W hb hv⟩⟩
        .exact .inr ⟨aZ,y2,c5,by rw[a1 j,ACD E];exact h,rfl,.inl ⟨rfl,rfl,fun b W hb hv=>⟨W,by rw[keep j b (by rw[h];rfl) E hb];exact hv,rfl⟩⟩⟩ }
      have e9:AH T aq.n V (aE.set id (.mrow aZ y a7 N)) ab:=by
       refine⟨fun j=>?_,fun j j' c d b8 C O=>?_,fun b off h=>hm.fr b off (ABS S2.size h)⟩
       .by_cases E:j=id
        .subst E;rw[a1 j,ACE rfl];refine⟨⟨gd hx,by omega⟩,ae,q1,q2,⟨q3,q4⟩,?_⟩;rcases q5 with⟨z1,z2⟩|⟨b,c7,c6,z1,z2,z3,_⟩
         .exact .inl ⟨by rw[<-c4];exact z1,z2⟩
         .rw[c4] at z1;have ev:∀off,T.fr b off:=by
           rcases d3 with⟨C,_⟩|⟨b',_,_,C,_,_,h4⟩
           .rw[C] at z1;cases z1
           .rw[C] at z1;cases z1;exact h4
          refine .inr ⟨b,c7,c6,z1,z2,Ah.mono (fun b2 off h=>⟨?_,rfl⟩) z3,ev⟩;rcases h.2.1 with C|C|C
          .refine⟨h.1,hm.fr b2 off C,fun k=>?_⟩;have no:(Mem.at (aE.set j (.mrow aZ y a7 N)) k).tracked=true-> V k≠some b2:=fun d X=>by
            have:(aE.at k).tracked=true:=by
             rw[a1 k] at d;split at d
             .rename_i X;rw[X];exact b9
             .exact d
            have:=hm.lt this X;omega
           cases hx:Mem.at (aE.set j (.mrow aZ y a7 N)) k<;>rw[hx] at no<;>first|trivial|exact no rfl|exact fun X=>absurd X (no rfl)
          .exact (c1.safe0 C).1
          .have:=h.2.2 0;exact absurd (by rw[c4];exact C) this
        .by_cases d:(aE.at j).tracked=true
         .exact BS.step c1 hm (by omega) (by rw[a1 j,ACD E]) rfl (fun b hb=>keep j b d E hb)
         .rw[a1 j,ACD E];cases hx:aE.at j with
          |pad=>trivial
          |gone=>trivial
          |cells=>rw[hx] at d;exact absurd rfl d
          |lp=>rw[hx] at d;exact absurd rfl d
          |tok=>rw[hx] at d;exact absurd rfl d
          |mrow=>rw[hx] at d;exact absurd rfl d
          |mapb=>rw[hx] at d;exact absurd rfl d
       .have tr:∀k,(Mem.at (aE.set id (.mrow aZ y a7 N)) k).tracked=true->(aE.at k).tracked=true:=fun k hk=>by
         rw[a1 k] at hk;split at hk
         .rename_i X;rw[X];exact b9
         .exact hk
        exact hm.inj j j' c (tr j d) (tr j' b8) C O
      refine⟨_, V,rfl,by rw[<-e2];exact c1,by rw[<-e2];exact e9,by rw[ey];exact xY er dk H2⟩
     .cases ax
    .cases ax
   .cases ax
  .cases ax
 .cases ax
def af (t:AU):A7:=match t.row with|none=>am t|some _=>au t
theorem s8 {f:FuncId}(u:AW P f t)(T:Tab)(ap:Ys)(args:List AC)(ad:PC)(aE:Mem)(g:G)(d:AC)(aU:Mem)(aq:G)(h:af t ap f args ad aE g=some (d,aU,aq)):
  Ac g aq/\(Agr T aq->Ar T aq->pcv T ad->BN T g ad->∀ V w W,AF T g.n V aE w args W->AH T g.n V aE w->
   (∃aC,P.funcs[f]? =some aC/\aC.body.isSome=true/\(aC.name== "runtime.NumGoroutine")=false)/\Calls P f (W:List Value).toArray w (G8 T g V aE w d aU aq)):=by
 unfold af at h;cases p:t.row with
 |none=>rw[p] at h;exact qY u T ap args ad aE g d aU aq h
 |some _=>rw[p] at h;exact rZ u T ap args ad aE g d aU aq h
end
end Go.Eng
end
