/-
  A part of the proof: plain laws.
-/
import Derived.Test.YtikbgnmcfncnaaaE5
set_option linter.unusedVariables false
set_option linter.unusedSimpArgs false
noncomputable section
namespace Go.Eng
section
open Go
theorem jO {a b:Bool}(h:a=true↔b=true):a=b:=Bool.eq_iff_iff.2 h
end
section
open Go Go.Eng Go.Proofs
def sP (f:FuncId):Bool:=Nat.beq f 117||Nat.beq f 118||Nat.beq f 133
def sT:FuncId->C2:=fun f=>⟨bk ir f,bif sP f then (fun _=>none) else ZW iu f,fun _=>none,mus f,frzs f⟩
end
section
open Go
def qJ:Rf->Rf
 | .e x=> .n x
 | .n x=> .e x
 | .c (.bool b)=> .c (.bool !b)
 |r=>r
def pt:Rf->Bool
 | .e _| .n _| .c (.bool _)=>true
 |_=>false
def sR (K:Knw):Ty->Rf->Rf
 |t,.e x=>(look K x t).getD (.e x)
 | .b,.n x=>match look K x .b with
  |some r=>bif pt r then qJ r else .n x
  |none=> .n x
 |_,r=>r
def qO (T:Tab):Nat × Ty × Rf->Prop
 |(x,.i,r)=>I T x=iR T r
 |(x,.b,r)=>B T x=bR T r
 |(x,.l,r)=>L T x=lR T r
 |(x,.s,r)=>S T x=stR T r
 |_=>True
def KOk (T:Tab):Knw->Prop
 |[]=>True
 |p::l=>qO T p/\KOk T l
def px:Rf->Rf->Bool
 | .e x,.e y=>Nat.beq x y
 | .n x,.n y=>Nat.beq x y
 | .c (.int a),.c (.int b)=>decide (a=b)
 | .c (.bool a),.c (.bool b)=>a==b
 |_,_=>false
def rH:Ty->Rf->Rf->Option Bool
 | .i,.c (.int m),.c (.int n)=>some (decide (m=n))
 | .b,.c (.bool m),.c (.bool n)=>some (m==n)
 | .i,a,b=>bif px a b then some true else none
 | .b,a,b=>bif px a b then some true else none
 |_,_,_=>none
def qE (K:Knw):List Ty->List Rf->Option (List Ty × List Rf)
 |t::ts,a::b::r=>bif Qr t then (match rH t (sR K t a) (sR K t b) with
  |some true=>qE K ts r
  |some false=>none
  |none=>(qE K ts r).map fun p=>(t::p.1,sR K t a::sR K t b::p.2)) else some (t::ts,a::b::r)
 |ts,r=>some (ts,r)
def op2C:Op2->Int->Int->Int
 | .add,a,b=>a+b| .sub,a,b=>a - b| .mul,a,b=>a*b| .div,a,b=>a / b| .mod,a,b=>a % b
 | .tdiv,a,b=>if 0<=a then a / b else -(-a / b)
 | .tmod,a,b=>if 0<=a then a % b else -(-a % b)
 | .min,a,b=>if a<=b then a else b
 | .max,a,b=>if a<=b then b else a
def qZ (op:Opn)(f:Int->Int->Bool)(refl:Bool)(a b:Rf):SE:=
 match a,b with
 | .c (.int m),.c (.int n)=> .k .b (.c (.bool (f m n)))
 |a,b=>bif px a b then .k .b (.c (.bool refl)) else .q op [a,b]
def rL (a b:Rf):SE:=
 match a,b with
 | .c (.bool false),_=> .k .b (.c (.bool false))
 |_,.c (.bool false)=> .k .b (.c (.bool false))
 | .c (.bool true),r=> .k .b r
 |r,.c (.bool true)=> .k .b r
 |a,b=>bif px a b then .k .b a else .q .and [a,b]
def orE (a b:Rf):SE:=
 match a,b with
 | .c (.bool true),_=> .k .b (.c (.bool true))
 |_,.c (.bool true)=> .k .b (.c (.bool true))
 | .c (.bool false),r=> .k .b r
 |r,.c (.bool false)=> .k .b r
 |a,b=>bif px a b then .k .b a else .q .or [a,b]
def rG (op:Opn)(c a b:Rf):SE:=
 match c,a,b with
 | .c (.bool true),a,_=> .k .b a
 | .c (.bool false),_,b=> .k .b b
 |c,.c (.bool true),b=>orE c b
 |c,.c (.bool false),b=>bif pt c then rL (qJ c) b else .q op [c,a,b]
 |c,a,.c (.bool false)=>rL c a
 |c,a,.c (.bool true)=>bif pt c then orE (qJ c) a else .q op [c,a,b]
 |c,a,b=>bif px a b then .k .b a else .q op [c,a,b]
def sF (a b:Rf):SE:=
 match a with
 | .c (.bool k)=>bif k then .k .b b else bif pt b then .k .b (qJ b) else .q .eqb [.c (.bool k),b]
 |a=>match b with
  | .c (.bool k)=>bif k then .k .b a else bif pt a then .k .b (qJ a) else .q .eqb [a,.c (.bool k)]
  |b=>bif px a b then .k .b (.c (.bool true)) else .q .eqb [a,b]
def sJ (a b:Rf):SE:=
 match a with
 | .c (.bool k)=>bif k then (bif pt b then .k .b (qJ b) else .q .neb [.c (.bool k),b]) else .k .b b
 |a=>match b with
  | .c (.bool k)=>bif k then (bif pt a then .k .b (qJ a) else .q .neb [a,.c (.bool k)]) else .k .b a
  |b=>bif px a b then .k .b (.c (.bool false)) else .q .neb [a,b]
def p9 (K:Knw)(t:Ty):List Rf->Int->Option Rf
 |[],_=>none
 |a::l,n=>if n<=0 then some (sR K t a) else p9 K t l (n - 1)
def sEn (K:Knw)(op:Opn)(rs:List Rf):SE:=
 match op,rs with
 | .id t,[a]=> .k t (sR K t a)
 | .not,[a]=>let r:=sR K .b a;bif pt r then .k .b (qJ r) else .q .not [r]
 | .and,[a,b]=>rL (sR K .b a) (sR K .b b)
 | .or,[a,b]=>orE (sR K .b a) (sR K .b b)
 | .lt,[a,b]=>qZ .lt (fun m n=>decide (m < n)) false (sR K .i a) (sR K .i b)
 | .le,[a,b]=>qZ .le (fun m n=>decide (m<=n)) true (sR K .i a) (sR K .i b)
 | .eq,[a,b]=>qZ .eq (fun m n=>decide (m=n)) true (sR K .i a) (sR K .i b)
 | .ne,[a,b]=>qZ .ne (fun m n=> !decide (m=n)) false (sR K .i a) (sR K .i b)
 | .eqs ts,r=>match qE K ts r with
  |none=> .k .b (.c (.bool false))
  |some ([],[])=> .k .b (.c (.bool true))
  |some (ts,r)=> .q (.eqs ts) r
 | .nes ts,r=>match qE K ts r with
  |none=> .k .b (.c (.bool true))
  |some ([],[])=> .k .b (.c (.bool false))
  |some (ts,r)=> .q (.nes ts) r
 | .eqb,[a,b]=>sF (sR K .b a) (sR K .b b)
 | .neb,[a,b]=>sJ (sR K .b a) (sR K .b b)
 | .ite .i,[c,a,b]=>match sR K .b c,sR K .i a,sR K .i b with
  | .c (.bool true),a,_=> .k .i a
  | .c (.bool false),_,b=> .k .i b
  |c,a,b=>bif px a b then .k .i a else .q (.ite .i) [c,a,b]
 | .ite .l,[c,a,b]=>match sR K .b c,sR K .l a,sR K .l b with
  | .c (.bool true),a,_=> .k .l a
  | .c (.bool false),_,b=> .k .l b
  |c,a,b=>bif px a b then .k .l a else .q (.ite .l) [c,a,b]
 | .ite .b,[c,a,b]=>rG (.ite .b) (sR K .b c) (sR K .b a) (sR K .b b)
 | .ifb,[c,a,b]=>rG .ifb (sR K .b c) (sR K .b a) (sR K .b b)
 | .o2 o,[a,b]=>match sR K .i a,sR K .i b with
  | .c (.int m),.c (.int n)=> .k .i (.c (.int (op2C o m n)))
  |a,b=> .q (.o2 o) [a,b]
 | .w2 .i64 o,[a,b]=>match o,sR K .i a,sR K .i b with
  | .add,.c (.int m),.c (.int n)=>bif decide (-9223372036854775808<=m+n)&&decide (m+n<=9223372036854775807) then .k .i (.c (.int (m+n))) else .q (.w2 .i64 .add) [.c (.int m),.c (.int n)]
  | .sub,.c (.int m),.c (.int n)=>bif decide (-9223372036854775808<=m - n)&&decide (m - n<=9223372036854775807) then .k .i (.c (.int (m - n))) else .q (.w2 .i64 .sub) [.c (.int m),.c (.int n)]
  |o,a,b=> .q (.w2 .i64 o) [a,b]
 | .neg,[a]=>match sR K .i a with
  | .c (.int m)=> .k .i (.c (.int (-m)))
  |a=> .q .neg [a]
 | .len,[a]=>match sR K .l a with
  | .c (.list [])=> .k .i (.c (.int 0))
  |a=> .q .len [a]
 | .app,[a,b]=>match sR K .l a,sR K .l b with
  | .c (.list []),b=> .k .l b
  |a,.c (.list [])=> .k .l a
  |a,b=> .q .app [a,b]
 | .get .i c,[a,b]=> .q (.get .i c) [sR K .l a,sR K .i b]
 | .get .b c,[a,b]=> .q (.get .b c) [sR K .l a,sR K .i b]
 | .get .l c,[a,b]=> .q (.get .l c) [sR K .l a,sR K .i b]
 | .pick .i,a::r=>match sR K .i a with
  | .c (.int n)=>match p9 K .i r n with
   |some x=> .k .i x
   |none=> .k .i (.c (.int 0))
  |a=> .q (.pick .i) (a::r.map (sR K .i))
 | .pick .b,a::r=>match sR K .i a with
  | .c (.int n)=>match p9 K .b r n with
   |some x=> .k .b x
   |none=> .k .b (.c (.bool false))
  |a=> .q (.pick .b) (a::r.map (sR K .b))
 |op,rs=> .q op rs
def red:Knw->List En->Knw × List En
 |K,[]=>(K,[])
 |K,e::es=>bif K.any (fun p=>Nat.beq p.1 e.x) then red K es else
  match sEn K e.op e.rs with
  | .k t r=>red ((e.x,t,r)::K) es
  | .q op rs=>let p:=red K es;(p.1,⟨e.x,op,rs⟩::p.2)
section
variable {T:Tab}
theorem qH:∀{K:Knw} {x:Nat} {t:Ty} {r:Rf},KOk T K->look K x t=some r->qO T (x,t,r)
 |[],_,_,_,_,h=>by cases h
 |(y,u,r0)::l,x,t,r,hk,h=>by
  simp only[look] at h;cases hb:(Nat.beq y x&&KX u t) with
  |true=>
   rw[hb] at h;rw[Bool.and_eq_true] at hb;have e:=Nat.eq_of_beq_eq_true hb.1;have e2:=Np hb.2;subst e;subst e2;cases h;exact hk.1
  |false=>rw[hb] at h;exact qH hk.2 h
theorem p8 {r:Rf}(h:pt r=true):bR T (qJ r)= !bR T r:=by
 cases r with
 |e x=>rfl
 |n x=>simp[qJ,bR,Rf.eval,U.toB]
 |c u=>cases u<;>first|rfl|cases h
theorem sRi {K:Knw}(hk:KOk T K)(r:Rf):iR T (sR K .i r)=iR T r:=by
 cases r with
 |c u=>rfl
 |n x=>rfl
 |e x=>
  simp only[sR];cases h:look K x .i with
  |none=>rfl
  |some r=>exact (qH hk h).symm
theorem sRl {K:Knw}(hk:KOk T K)(r:Rf):lR T (sR K .l r)=lR T r:=by
 cases r with
 |c u=>rfl
 |n x=>rfl
 |e x=>
  simp only[sR];cases h:look K x .l with
  |none=>rfl
  |some r=>exact (qH hk h).symm
theorem sRs {K:Knw}(hk:KOk T K)(r:Rf):stR T (sR K .s r)=stR T r:=by
 cases r with
 |c u=>rfl
 |n x=>rfl
 |e x=>
  simp only[sR];cases h:look K x .s with
  |none=>rfl
  |some r=>exact (qH hk h).symm
theorem sRb {K:Knw}(hk:KOk T K)(r:Rf):bR T (sR K .b r)=bR T r:=by
 cases r with
 |c u=>rfl
 |e x=>
  simp only[sR];cases h:look K x .b with
  |none=>rfl
  |some r=>exact (qH hk h).symm
 |n x=>
  simp only[sR];cases h:look K x .b with
  |none=>rfl
  |some r=>
   simp only;cases hn:pt r with
   |false=>rfl
   |true=>
    have h1:B T x=bR T r:=qH hk h;simp only[cond_true];rw[p8 hn,<-h1];rfl
theorem pz {a b:Rf}(h:px a b=true):iR T a=iR T b/\bR T a=bR T b/\lR T a=lR T b:=by
 unfold px at h;split at h<;>first
  |(have e:=Nat.eq_of_beq_eq_true h;subst e;exact⟨rfl,rfl,rfl⟩)
  |(have e:=of_decide_eq_true h;subst e;exact⟨rfl,rfl,rfl⟩)
  |(have e:=eq_of_beq h;subst e;exact⟨rfl,rfl,rfl⟩)
  |cases h
def qF (T:Tab)(x:Nat):SE->Prop
 | .k t r=>qO T (x,t,r)
 | .q op rs=>AI T ⟨x,op,rs⟩
theorem kB {x:Nat}{r:Rf}(h:B T x=true↔bR T r=true):qF T x (.k .b r):=Bool.eq_iff_iff.2 h
theorem qY {x:Nat}{a b:Rf}(h:B T x=true↔(bR T a=true/\bR T b=true)):qF T x (rL a b):=by
 unfold rL;split
 .refine kB ?_;rw[h,pr];simp
 .refine kB ?_;rw[h,pr];simp
 .refine kB ?_;rw[h,pr];simp
 .refine kB ?_;rw[h,pr];simp
 .cases he:px a b with
  |true=>refine kB ?_;rw[h,<-(pz he).2.1];simp
  |false=>exact h
theorem rV {x:Nat}{a b:Rf}(h:B T x=true↔(bR T a=true\/bR T b=true)):qF T x (orE a b):=by
 unfold orE;split
 .refine kB ?_;rw[h,pr];simp
 .refine kB ?_;rw[h,pr];simp
 .refine kB ?_;rw[h,pr];simp
 .refine kB ?_;rw[h,pr];simp
 .cases he:px a b with
  |true=>refine kB ?_;rw[h,<-(pz he).2.1];simp
  |false=>exact h
theorem rT {x:Nat}{op:Opn}{c a b:Rf}(hop:AI T ⟨x,op,[c,a,b]⟩)(h:B T x=true↔((bR T c=true/\bR T a=true)\/(¬bR T c=true/\bR T b=true))):qF T x (rG op c a b):=by
 unfold rG;split
 .refine kB ?_;rw[h,pr];simp
 .refine kB ?_;rw[h,pr];simp
 .refine rV ?_;rw[h,pr];cases bR T c<;>simp
 .cases hn:pt c with
  |true=>refine qY ?_;rw[h,pr,p8 hn];cases bR T c<;>simp
  |false=>exact hop
 .refine qY ?_;rw[h,pr];cases bR T c<;>simp
 .cases hn:pt c with
  |true=>refine rV ?_;rw[h,pr,p8 hn];cases bR T c<;>simp
  |false=>exact hop
 .cases he:px a b with
  |true=>refine kB ?_;rw[h,<-(pz he).2.1];cases bR T c<;>simp
  |false=>exact hop
theorem sN {x:Nat}{a b:Rf}(h:B T x=true↔(bR T a=true↔bR T b=true)):qF T x (sF a b):=by
 unfold sF;split
 .rename_i k;cases k with
  |true=>refine kB ?_;rw[h,pr];simp
  |false=>
   show qF T x (bif pt b then _ else _);cases hn:pt b with
   |true=>refine kB ?_;rw[h,pr,p8 hn];cases bR T b<;>simp
   |false=>exact h
 .rename_i hne;clear hne;split
  .rename_i k;cases k with
   |true=>refine kB ?_;rw[h,pr];simp
   |false=>
    show qF T x (bif pt a then _ else _);cases hn:pt a with
    |true=>refine kB ?_;rw[h,pr,p8 hn];cases bR T a<;>simp
    |false=>exact h
  .cases he:px a b with
   |true=>refine kB ?_;rw[h,pr,<-(pz he).2.1];simp
   |false=>exact h
theorem sM {x:Nat}{a b:Rf}(h:B T x=true↔¬(bR T a=true↔bR T b=true)):qF T x (sJ a b):=by
 unfold sJ;split
 .rename_i k;cases k with
  |false=>refine kB ?_;rw[h,pr];simp
  |true=>
   show qF T x (bif pt b then _ else _);cases hn:pt b with
   |true=>refine kB ?_;rw[h,pr,p8 hn];cases bR T b<;>simp
   |false=>exact h
 .rename_i hne;clear hne;split
  .rename_i k;cases k with
   |false=>refine kB ?_;rw[h,pr];simp
   |true=>
    show qF T x (bif pt a then _ else _);cases hn:pt a with
    |true=>refine kB ?_;rw[h,pr,p8 hn];cases bR T a<;>simp
    |false=>exact h
  .cases he:px a b with
   |true=>refine kB ?_;rw[h,pr,<-(pz he).2.1];simp
   |false=>exact h
def qL (T:Tab):Ty->Rf->Rf->Prop
 | .i,a,b=>iR T a=iR T b
 | .b,a,b=>bR T a=true↔bR T b=true
 | .s,a,b=>stR T a=stR T b
 |_,_,_=>False
theorem sE {t:Ty}{a b:Rf}{k:Bool}(h:rH t a b=some k):qL T t a b↔k=true:=by
 unfold rH at h;split at h
 .injection h with h;rw[<-h];show _=_↔_;rw[qC,qC];simp
 .injection h with h;rw[<-h];rename_i m n;show (_↔_)↔_;rw[pr,pr];cases m<;>cases n<;>simp
 .cases he:px a b with
  |true=>rw[he] at h;cases h;have:=(pz (T:=T) he).1;simp[qL,this]
  |false=>rw[he] at h;cases h
 .cases he:px a b with
  |true=>rw[he] at h;cases h;have:=(pz (T:=T) he).2.1;simp[qL,this]
  |false=>rw[he] at h;cases h
 .cases h
theorem sO {K:Knw}(hk:KOk T K){t:Ty}{a b:Rf}:qL T t (sR K t a) (sR K t b)↔qL T t a b:=by
 cases t with
 |i=>simp only[qL,sRi hk]
 |b=>simp only[qL,sRb hk]
 |l=>exact Iff.rfl
 |r c=>exact Iff.rfl
 |s=>simp only[qL,sRs hk]
theorem qd {t:Ty}{ts:List Ty}{a b:Rf}{r:List Rf}(ht:Qr t=true):EN T (t::ts) (a::b::r)↔(qL T t a b/\EN T ts r):=by
 cases t with
 |i=>exact Iff.rfl
 |b=>exact Iff.rfl
 |l=>cases ht
 |r c=>cases ht
 |s=>exact Iff.rfl
theorem qX {K:Knw}(hk:KOk T K):∀{ts:List Ty} {rs:List Rf},(match qE K ts rs with|none=>¬EN T ts rs|some (ts',rs')=>(EN T ts rs↔EN T ts' rs'))
 |[],_=>by simp[qE]
 |_::_,[]=>by simp[qE]
 |_::_,[_]=>by simp[qE]
 |t::ts,a::b::r=>by
  have ih:=qX hk (ts:=ts) (rs:=r);by_cases ht:Qr t=true
  .rw[qd ht,<-sO hk];simp only[qE,ht,cond_true];cases hp:rH t (sR K t a) (sR K t b) with
   |none=>
    simp only;cases hs:qE K ts r with
    |none=>rw[hs] at ih;simp only[Option.map_none];exact fun h=>ih h.2
    |some p=>
     obtain⟨ts',rs'⟩:=p;rw[hs] at ih;simp only[Option.map_some];rw[qd ht];exact and_congr_right fun _=>ih
   |some k=>
    have hc:=sE (T:=T) hp;cases k with
    |true=>
     simp only;have hc':=hc.2 rfl;cases hs:qE K ts r with
     |none=>rw[hs] at ih;exact fun h=>ih h.2
     |some p=>
      obtain⟨ts',rs'⟩:=p;rw[hs] at ih;simp only[hc',true_and];exact ih
    |false=>
     simp only;exact fun h=>absurd (hc.1 h.1) (by simp)
  .have ht':Qr t=false:=by simpa using ht
   simp only[qE,ht',cond_false]
theorem re {K:Knw}(hk:KOk T K):∀{l:List Rf} {n:Int},Nk T l n=match p9 K .i l n with|some r=>iR T r|none=>0
 |[],_=>rfl
 |a::l,n=>by
  simp only[Nk,p9];split
  .simp only[sRi hk]
  .exact re hk
theorem rg {K:Knw}(hk:KOk T K):∀{l:List Rf} {n:Int},Nw T l n↔match p9 K .b l n with|some r=>bR T r=true|none=>False
 |[],_=>Iff.rfl
 |a::l,n=>by
  simp only[Nw];by_cases h:n<=0
  .have e:p9 K .b (a::l) n=some (sR K .b a):=by simp only[p9,if_pos h]
   rw[e];simp only[sRb hk];simp[h]
  .have e:p9 K .b (a::l) n=p9 K .b l (n - 1):=by simp only[p9,if_neg h]
   rw[e,<-rg hk];simp[h]
theorem rh {K:Knw}(hk:KOk T K):∀{l:List Rf} {n:Int},Nk T (l.map (sR K .i)) n=Nk T l n
 |[],_=>rfl
 |a::l,n=>by simp only[List.map_cons,Nk,sRi hk,rh hk]
theorem rj {K:Knw}(hk:KOk T K):∀{l:List Rf} {n:Int},Nw T (l.map (sR K .b)) n↔Nw T l n
 |[],_=>Iff.rfl
 |a::l,n=>by simp only[List.map_cons,Nw,sRb hk,rj hk]
theorem qQ {x:Nat}{op:Opn}{f:Int->Int->Bool}{P:Int->Int->Prop}{refl:Bool}{a b:Rf}(hf:∀m n,f m n=true↔P m n)(hr:∀m,P m m↔refl=true)(hop:AI T ⟨x,op,[a,b]⟩)(h:B T x=true↔P (iR T a) (iR T b)):qF T x (qZ op f refl a b):=by
 unfold qZ;split
 .refine kB ?_;rw[h,qC,qC,pr,hf]
 .cases he:px a b with
  |true=>refine kB ?_;rw[h,(pz he).1,pr,hr]
  |false=>exact hop
theorem sQ {K:Knw}(hk:KOk T K){x:Nat}{op:Opn}{rs:List Rf}(h:AI T ⟨x,op,rs⟩):qF T x (sEn K op rs):=by
 unfold sEn;split
 .
  rename_i t a;cases t with
  |i=>show I T x=_;rw[sRi hk];exact h
  |b=>refine kB ?_;rw[sRb hk];exact h
  |l=>show L T x=_;rw[sRl hk];exact h
  |r c=>exact trivial
  |s=>show S T x=_;rw[sRs hk];exact h
 .
  rename_i a;have h':B T x=true↔¬bR T a=true:=h;simp only;cases hn:pt (sR K .b a) with
  |true=>refine kB ?_;rw[p8 hn,sRb hk,h'];simp
  |false=>show B T x=true↔_;rw[sRb hk];exact h
 .refine qY ?_;rw[sRb hk,sRb hk];exact h
 .refine rV ?_;rw[sRb hk,sRb hk];exact h
 .refine qQ (P:=fun m n=>m < n) (by simp) (by simp) (show B T x=true↔_ by rw[sRi hk,sRi hk];exact h) ?_;rw[sRi hk,sRi hk];exact h
 .refine qQ (P:=fun m n=>m<=n) (by simp) (by simp) (show B T x=true↔_ by rw[sRi hk,sRi hk];exact h) ?_;rw[sRi hk,sRi hk];exact h
 .refine qQ (P:=fun m n=>m=n) (by simp) (by simp) (show B T x=true↔_ by rw[sRi hk,sRi hk];exact h) ?_;rw[sRi hk,sRi hk];exact h
 .refine qQ (P:=fun m n=>¬m=n) (by simp) (by simp) (show B T x=true↔_ by rw[sRi hk,sRi hk];exact h) ?_;rw[sRi hk,sRi hk];exact h
 .
  rename_i ts;have h':B T x=true↔EN T ts rs:=h;have:=qX hk (ts:=ts) (rs:=rs);split<;>rename_i he<;>rw[he] at this
  .refine kB ?_;rw[h',pr];simp[this]
  .refine kB ?_;rw[h',pr];simp only[this];simp[EN]
  .show B T x=true↔_;rw[h'];exact this
 .
  rename_i ts;have h':B T x=true↔¬EN T ts rs:=h;have:=qX hk (ts:=ts) (rs:=rs);split<;>rename_i he<;>rw[he] at this
  .refine kB ?_;rw[h',pr];simp[this]
  .refine kB ?_;rw[h',pr];simp only[this];simp[EN]
  .show B T x=true↔_;rw[h'];exact not_congr this
 .refine sN ?_;rw[sRb hk,sRb hk];exact h
 .refine sM ?_;rw[sRb hk,sRb hk];exact h
 .
  rename_i c a b;have h':I T x=if bR T c=true then iR T a else iR T b:=h
  rw[<-sRb hk,<-sRi hk a,<-sRi hk b] at h';split
  .rename_i e;rw[e,pr,if_pos rfl] at h';exact h'
  .rename_i e;rw[e,pr,if_neg (by decide)] at h';exact h'
  .cases he:px (sR K .i a) (sR K .i b) with
   |true=>show I T x=_;rw[h',(pz (T:=T) he).1];simp
   |false=>exact h'
 .
  rename_i c a b;have h':L T x=if bR T c=true then lR T a else lR T b:=h
  rw[<-sRb hk,<-sRl hk a,<-sRl hk b] at h';split
  .rename_i e;rw[e,pr,if_pos rfl] at h';exact h'
  .rename_i e;rw[e,pr,if_neg (by decide)] at h';exact h'
  .cases he:px (sR K .l a) (sR K .l b) with
   |true=>show L T x=_;rw[h',(pz (T:=T) he).2.2];simp
   |false=>exact h'
 .refine rT (show B T x=true↔_ by rw[sRb hk,sRb hk,sRb hk];exact h) ?_;rw[sRb hk,sRb hk,sRb hk];exact h
 .refine rT (show B T x=true↔_ by rw[sRb hk,sRb hk,sRb hk];exact h) ?_;rw[sRb hk,sRb hk,sRb hk];exact h
 .
  rename_i o a b;have h':LW o (I T x) (iR T a) (iR T b):=h;rw[<-sRi hk a,<-sRi hk b] at h';split
  .rename_i e1 e2;rw[e1,e2,qC,qC] at h';show I T x=_;rw[qC];cases o<;>exact h'
  .exact h'
 .
  rename_i o a b;have h':w2P .i64 o (I T x) (iR T a) (iR T b):=h;rw[<-sRi hk a,<-sRi hk b] at h';split
  .rename_i m n e1 e2;rw[e1,e2] at h';cases hc:(decide (-9223372036854775808<=m+n)&&decide (m+n<=9223372036854775807)) with
   |true=>
    rw[Bool.and_eq_true,decide_eq_true_eq,decide_eq_true_eq] at hc;show I T x=_;rw[qC];exact h' hc.1 hc.2
   |false=>exact h'
  .rename_i m n e1 e2;rw[e1,e2] at h';cases hc:(decide (-9223372036854775808<=m - n)&&decide (m - n<=9223372036854775807)) with
   |true=>
    rw[Bool.and_eq_true,decide_eq_true_eq,decide_eq_true_eq] at hc;show I T x=_;rw[qC];exact h' hc.1 hc.2
   |false=>exact h'
  .exact h'
 .
  rename_i a;have h':I T x= -iR T a:=h;rw[<-sRi hk a] at h';split
  .rename_i e;rw[e,qC] at h';exact h'
  .exact h'
 .
  rename_i a;have h':I T x=(lR T a).length:=h;rw[<-sRl hk a] at h';split
  .rename_i e;rw[e,ru] at h';exact h'
  .exact h'
 .
  rename_i a b;have h':L T x=lR T a++lR T b:=h;rw[<-sRl hk a,<-sRl hk b] at h';split
  .rename_i e;rw[e,ru] at h';exact h'
  .rename_i e _;rw[e,ru,List.append_nil] at h';exact h'
  .exact h'
 .rename_i c a b;show I T x=Bx _ _ _;rw[sRl hk,sRi hk];exact h
 .rename_i c a b;show B T x=Pq _ _ _;rw[sRl hk,sRi hk];exact h
 .rename_i c a b;show L T x=jD _ _ _;rw[sRl hk,sRi hk];exact h
 .
  rename_i a r;have h':I T x=Nk T r (iR T a):=h;rw[<-sRi hk a] at h';split
  .rename_i n e;rw[e,qC,re hk] at h';split<;>rename_i e2<;>rw[e2] at h'<;>exact h'
  .show I T x=Nk T _ _;rw[rh hk];exact h'
 .rename_i a r;have h':B T x=true↔Nw T r (iR T a):=h;rw[<-sRi hk a] at h';split
  .rename_i n e;rw[e,qC,rg hk] at h';split<;>rename_i e2<;>rw[e2] at h'
   .exact kB h'
   .refine kB ?_;rw[h',pr];simp
  .show B T x=true↔Nw T _ _;rw[rj hk];exact h'
 .exact h
theorem qW:∀{es:List En} {K:Knw},KOk T K->AH T es->KOk T (red K es).1/\AH T (red K es).2
 |[],_,hk,_=>⟨hk,trivial⟩
 |e::es,K,hk,h=>by
  simp only[red];cases ha:K.any (fun p=>Nat.beq p.1 e.x) with
  |true=>exact qW hk h.2
  |false=>
   have h1:=sQ hk (x:=e.x) (op:=e.op) (rs:=e.rs) h.1;simp only[cond_false];cases hs:sEn K e.op e.rs with
   |k t r=>rw[hs] at h1;exact qW (K:=(e.x,t,r)::K) ⟨h1,hk⟩ h.2
   |q op rs=>
    rw[hs] at h1;have ih:=qW hk h.2;exact⟨ih.1,h1,ih.2⟩
end
open Go
def qP:List Rf->List Nat
 |[]=>[]
 | .e x::r=>x::qP r
 | .n x::r=>x::qP r
 | .c _::r=>qP r
def qU:List En->List Nat->List En->List En
 |[],_,acc=>acc
 |e::r,need,acc=>bif need.any (Nat.beq e.x) then qU r (qP e.rs++need) (e::acc) else qU r need acc
def redo (K:Knw)(es:List En)(outs:List (Nat × Ty)):List Rf × List En:=
 let p:=red K es;let os:=outs.map fun o=>sR p.1 o.2 (.e o.1)
 (os,qU p.2.reverse (qP os) [])
def qM (T:Tab):List (Nat × Ty)->List Rf->Prop
 |(x,t)::l,r::rs=>qO T (x,t,r)/\qM T l rs
 |_,_=>True
section
variable {T:Tab}
theorem qN:∀{l:List En},AH T l↔∀e∈l,AI T e
 |[]=>⟨fun _ _ h=>(by cases h),fun _=>trivial⟩
 |e::l=>by
  rw[List.forall_mem_cons,<-qN (l:=l)];exact Iff.rfl
theorem qT:∀{l:List En} {need:List Nat} {acc:List En},(∀e∈l,AI T e)->(∀e∈acc,AI T e)->∀e∈qU l need acc,AI T e
 |[],_,_,_,h=>h
 |e::l,need,acc,h1,h2=>by
  simp only[qU];rw[List.forall_mem_cons] at h1;cases need.any (Nat.beq e.x) with
  |true=>exact qT h1.2 (List.forall_mem_cons.2 ⟨h1.1,h2⟩)
  |false=>exact qT h1.2 h2
theorem ri {K:Knw}(hk:KOk T K):∀{outs:List (Nat × Ty)},qM T outs (outs.map fun o=>sR K o.2 (.e o.1))
 |[]=>trivial
 |(x,t)::l=>by
  refine⟨?_,ri hk⟩;cases t with
  |i=>exact (sRi hk (.e x)).symm
  |b=>exact (sRb hk (.e x)).symm
  |l=>exact (sRl hk (.e x)).symm
  |r c=>exact trivial
  |s=>exact (sRs hk (.e x)).symm
theorem qR {K:Knw}{es es':List En}{outs:List (Nat × Ty)}{os:List Rf}(hk:KOk T K)(h:AH T es)(hr:redo K es outs=(os,es')):qM T outs os/\AH T es':=by
 have h1:=qW hk h;unfold redo at hr;injection hr with h2 h3
 subst h2;subst h3;exact⟨ri h1.1,qN.2 (qT (fun e he=>qN.1 h1.2 e (List.mem_reverse.1 he)) (fun e he=>by cases he))⟩
end
end
section
def jJ (a b:Int):Int:=min (max (a - b) 0) 40
def nG (c:Int):Bool:=decide (0<=c)&&decide (c<=3)
def jL (c:Int):Bool:=decide (c=0)||decide (c=2)
def jK (c:Int)(s:ByteArray)(x g:Int)(t:ByteArray)(y h:Int):Bool:=decide (Am s x g t y h=0)&&nG c
def mN (c:Int)(s:ByteArray)(x g:Int)(t:ByteArray)(y h:Int):Int:=if Am s x g t y h=0 then (if nG c=true then 0 else 3) else Am s x g t y h
def jk (c:Int)(s:ByteArray)(x g:Int)(t:ByteArray)(y h:Int):Bool:=jK c s x g t y h&&jL c
theorem kM {c:Int}:nG c=true↔0<=c/\c<=3:=by unfold nG;rw[Bool.and_eq_true,decide_eq_true_eq,decide_eq_true_eq]
theorem jN {c:Int}:jL c=true↔c=0\/c=2:=by unfold jL;rw[Bool.or_eq_true,decide_eq_true_eq,decide_eq_true_eq]
theorem jI {c:Int}{s:ByteArray}{x g:Int}{t:ByteArray}{y h:Int}:jK c s x g t y h=true↔Am s x g t y h=0/\0<=c/\c<=3:=by unfold jK;rw[Bool.and_eq_true,decide_eq_true_eq,kM]
theorem jM {c:Int}{s:ByteArray}{x g:Int}{t:ByteArray}{y h:Int}:jk c s x g t y h=true↔(Am s x g t y h=0/\0<=c/\c<=3)/\(c=0\/c=2):=by unfold jk;rw[Bool.and_eq_true,jI,jN]
theorem mH (a b:Int):0<=jJ a b/\jJ a b<=40:=by unfold jJ;omega
theorem rk (a b:Int):jJ a b=0\/jJ b a=0:=by unfold jJ;omega
end
end Go.Eng
end
