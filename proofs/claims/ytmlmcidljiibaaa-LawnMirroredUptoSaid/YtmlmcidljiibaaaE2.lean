/-
  A part of the proof: the evaluator of code and its soundness.
-/
import Derived.Test.YtmlmcidljiibaaaE1
import Derived.OrdersIn
import Derived.LoopNIn
import Derived.RangeFuncRecord
import Derived.RangeFuncIn
import Derived.RangeFuncLeaves
set_option linter.unusedVariables false
set_option linter.unusedSimpArgs false
noncomputable section
namespace Go.Eng
open Go Go.RowKit
section
variable {P:Program}{T:Tab}{call:A8}{ys:Ys}{r:Option Nat}{kk:Nat}
theorem Ma {pc0:PC}{base:List Nat}{s s':RS}{j:Nat}{want:Bool}{c:AC}{run:Option (PC × List Nat)}(h:Dg pc0 base s j want c=some (run,s')):AP s.g s'.g∧s'.tmps=s.tmps∧s'.mem=s.mem:=by
 cases c<;>simp only[Dg] at h<;>try (cases h;done)
 case cb b=>split at h<;>cases h<;>exact⟨AP.refl _,rfl,rfl⟩
 case b x=>cases h;exact⟨AP.push s.g [CY pc0 x want],rfl,rfl⟩
 case nb x=>cases h;exact⟨AP.push s.g [CY pc0 x (!want)],rfl,rfl⟩
theorem Gh {ops:Array Oper}{pc:PC}{s s':RS}{o:Oper}{run:Option (PC × List Nat)}(h:Dq ops pc s o=some (run,s')):AP s.g s'.g∧s'.tmps=s.tmps∧s'.mem=s.mem:=by
 unfold Dq at h
 split at h
 ·cases h;exact⟨AP.refl _,rfl,rfl⟩
 ·split at h
  ·cases h;exact⟨AP.refl _,rfl,rfl⟩
  ·simp only[Option.bind_eq_bind,Option.bind_eq_some_iff] at h
   obtain⟨_,_,_,_,c,_,h⟩:=h
   split at h
   ·cases h;exact⟨AP.refl _,rfl,rfl⟩
   ·simp only[Option.bind_eq_some_iff] at h
    obtain⟨e,_,h⟩:=h
    exact Ma h
   ·exact Ma h
theorem QG {ops:Array Oper}{n:Nat}{a:Act}{gl:List GE}(hg:∀e∈gl,Eh T ops n a e){c:Operand}{want:Bool}(hc:a.eval c= .bool want)(hsz:∀t,c= .tmp t→t < a.tmps.size):∀x∈K4 ops gl c want,T x= .bool true:=by
 intro x hx
 cases c with
 |tmp t=>
  simp only[K4,List.mem_map,List.mem_filter,Bool.and_eq_true] at hx
  obtain⟨e,⟨he,hw,hd⟩,rfl⟩:=hx
  have hw':e.want=want:=by simpa using hw
  have hd':(ops[e.j]?).bind (·.dst)=some t:=by simpa using hd
  refine (hg e he).iff.2 ?_
  have ht:=hsz t rfl
  have hget:a.tmps[t]? =some (.bool want):=by
   have:a.tmps.getD t undef= .bool want:=hc
   simp[Array.getD_eq_getD_getElem?,ht] at this
   simp[ht,this]
  simp only[yielded,hd',Option.bind_some,hget,hw']
 |_=>simp[K4] at hx
theorem Mt (pc:PC)(c:AC):TJ pc [] c=c:=by cases pc<;>rfl
theorem UH {p:Nat}{imp:List Nat}(h:imp≠[])(c:AC):TJ (some p) imp c= .gd p c:=by cases imp<;>first|exact absurd rfl h|rfl
theorem Ir.mono {fv:Value}{args:List Value}{w:World}{R R':Ending→World→Prop}(h:Ir P fv args w R)(hr:∀e w',R e w'→R' e w'):Ir P fv args w R':=by
 rcases h with⟨k,first,cap,fn,h1,h2,h3,h4,h5⟩|⟨b,q,h1,h2,h3,h4⟩
 ·exact .inl ⟨k,first,cap,fn,h1,h2,h3,h4,h5.mono hr⟩
 ·exact .inr ⟨b,q,h1,h2,h3,fun k=>(h4 k).mono hr⟩
def TB (P:Program)(T:Tab)(args:List AC)(one:AC→PC→Mem→G→Option (AC × Mem × G))(H:G→(Nat→Option Nat)→Mem→World→AC→Value→Prop):Prop:=
 ∀f pc m g c m' g',one f pc m g=some (c,m',g')→AP g g'∧(Agr T g'→An T g'→pcv T pc→BJ T g pc→∀ ρ w fv vs,H g ρ m w f fv→AD T g.n ρ m w args vs→AH T g.n ρ m w→Ir P fv vs w (KV T g ρ m w c m' g'))
theorem Ha (hcall:Ca P T call)(hys:CN P T.lp ys)(args:List AC):TB P T args (Di call ys args) (fun g ρ m w f fv=>AB T g.n ρ m w f fv):=by
 intro f pc m g c m' g' h
 unfold Di at h
 split at h
 ·rename_i k first cap
  obtain⟨gr,hs⟩:=hcall ys k _ pc m g c m' g' hys h
  refine⟨gr,fun hA hob hpc hk ρ w fv vs hf hargs hm=>?_⟩
  obtain⟨v1,us,e1,e2,e3⟩:=hf
  obtain⟨⟨fn,q1,q2,q3⟩,hc⟩:=hs hA hob hpc hk ρ w (v1++vs++us) ((e2.append hargs).append e3) hm
  exact .inl ⟨k,v1,us,fn,e1,q1,q2,q3,hc⟩
 ·rename_i id
  split at h
  ·rename_i stamp st hid
   simp only[Option.bind_eq_bind,Option.bind_eq_some_iff] at h
   obtain⟨y,hy,h⟩:=h
   obtain⟨gr,hs⟩:=hys T rfl stamp y hy id args pc m g c m' g' h
   refine⟨gr,fun hA hob hpc hk ρ w fv vs hf hargs hm=>?_⟩
   obtain⟨b,e1,e2,_⟩:=hf
   rw[e2]
   exact hs hA hob hpc hk st hid ρ w vs hargs hm b e1
  ·cases h
 ·cases h
def B7 (g:G):PC→Prop
 |none=>True
 |some c=>c < g.n
theorem B7.grow {g g':G}{pc:PC}(h:B7 g pc)(k:AP g g'):B7 g' pc:=by
 cases pc with
 |none=>trivial
 |some c=>exact Nat.lt_of_lt_of_le h k.n
theorem BJ.lt {g:G}{pc:PC}(h:BJ T g pc):B7 g pc:=by
 cases pc with
 |none=>trivial
 |some c=>exact h.1
theorem B7.ok {g:G}{pc:PC}(h:B7 g pc)(hp:pcv T pc):BJ T g pc:=by
 cases pc with
 |none=>trivial
 |some c=>exact⟨h,true,hp⟩
theorem FY {c:Nat}:pcv T (some c)↔(T c).toB=true:=⟨fun h=>by rw[show T c= .bool true from h];rfl,P0⟩
theorem D0 {g g':G}{pc p:PC}{x:Nat}{want:Bool}(h:CD g pc x want=(p,g')):AP g g'∧(Agr T g'→B7 g pc→x < g.n→B7 g' p∧(pcv T p↔pcv T pc∧(T x).toB=want)):=by
 have push:∀{p g'},(some g.n,g.pushAll [CY pc x want])=(p,g')→AP g g'∧(Agr T g'→B7 g pc→x < g.n→B7 g' p∧(pcv T p↔pcv T pc∧(T x).toB=want)):=by
  intro p g' h
  cases h
  refine⟨AP.push _ _,fun hA hp hx=>⟨by show _ < _;rw[BY];exact Nat.lt_succ_self _,?_⟩⟩
  have hnew:=hA.new.head
  rw[FY,hnew]
  cases pc with
  |none=>
   simp only[pcv,true_and]
   cases want<;>simp[CY,Ex.eval,oId,Qt,u0,eve,U.toB]
  |some c=>
   rw[FY]
   cases want<;>simp[CY,Ex.eval,NF,u0,u1,eve,evn,U.toB]
 unfold CD at h
 split at h
 ·cases h
  refine⟨AP.refl _,fun hA _ hx=>⟨hx,?_⟩⟩
  simp only[pcv,true_and]
  exact⟨fun h=>by rw[h];rfl,P0⟩
 ·exact push h
theorem Jt {b:Bool}{sb:Rf}(hsb:(sb.eval T).toB=b){n n0 n':Nat}{ρ :Nat→Option Nat}{w:World}{m1 m2:Mem}(hm:AH T n ρ (sel b m1 m2) w){c d:AC}{v:Value}(hn:n≤n0)
  (hnew:New T n0 ((Ba sb n0 m1 m2).2++(FA (n0+(Ba sb n0 m1 m2).2.length) sb c d).2))
  (hl:n0+((Ba sb n0 m1 m2).2.length+(FA (n0+(Ba sb n0 m1 m2).2.length) sb c d).2.length)≤n')
  (h:AB T n ρ (sel b m1 m2) w (sel b c d) v):
  ∃ ρ',AJ T n ρ (sel b m1 m2) w ρ' (Ba sb n0 m1 m2).1 w∧AH T n' ρ' (Ba sb n0 m1 m2).1 w∧AB T n' ρ' (Ba sb n0 m1 m2).1 w (FA (n0+(Ba sb n0 m1 m2).2.length) sb c d).1 v:=by
 obtain⟨hmem,hst,-,-⟩:=Kv (n':=n') hsb hm hn hnew.left (by omega)
 have h2:=AB.mono hst hm (Nat.le_refl _) _ _ h
 refine⟨_,hst,hmem,iQ (n:=n) hsb (by omega) hnew.right (by omega) (fun hb=>?_) (fun hb=>?_)⟩
 ·subst hb;exact h2
 ·subst hb;exact h2
theorem Qj {args:List AC}{one:AC→PC→Mem→G→Option (AC × Mem × G)}(hone:TB P T args one (fun g ρ m w f fv=>AB T g.n ρ m w f fv)){x:Nat}{ix:Int}(hix:T x= .int ix)(h0:0≤ix):
  ∀(alts:List AC) (j:Nat),TB P T args (fun _ pc m g=>HO one x j alts pc m g) (fun g ρ m w _ fv=>j≤ix.toNat∧Ah T g.n ρ m w alts (ix.toNat - j) fv)
 |[],j=>fun f pc m g c m' g' h=>by simp[HO] at h
 |[c0],j=>by
  intro f pc m g c m' g' h
  have h':one c0 pc m g=some (c,m',g'):=by cases c0<;>first|exact h|(rename_i cc;cases cc<;>exact h)
  obtain⟨gr,hs⟩:=hone c0 pc m g c m' g' h'
  refine⟨gr,fun hA hob hpc hk ρ w fv vs ⟨hj,hf⟩ hargs hm=>hs hA hob hpc hk ρ w fv vs ?_ hargs hm⟩
  cases hd:ix.toNat - j with
  |zero=>rw[hd] at hf;exact hf
  |succ d=>rw[hd] at hf;exact hf.elim
 |c0::c1::cs,j=>by
  intro f pc m g c m' g' h
  by_cases hnil:c0= .cv .nilFunc
  ·subst hnil
   simp only[HO] at h
   obtain⟨gr,hs⟩:=Qj hone hix h0 (c1::cs) (j+1) f pc m _ c m' g' h
   refine⟨(AP.need _ _ _).trans gr,fun hA hob hpc hk ρ w fv vs ⟨hj,hf⟩ hargs hm=>?_⟩
   have hne:=An.need (hob.of gr) hpc ⟨ "ne",pNe,[.e x,.c (.int j)]⟩ (by simp)
   simp only[Pr.holds,pNe,List.map_cons,List.map_nil,u0,u1,eve,evc,hix,U.toI] at hne
   obtain⟨e1,e2,e3,e4⟩:=DT [⟨ "ne",pNe,[.e x,.c (.int j)]⟩] g pc
   have hd:ix.toNat - j=(ix.toNat - (j+1))+1:=by omega
   rw[hd] at hf
   have:=hs hA hob hpc (hk.grow (AP.need _ _ _)) ρ w fv vs ⟨by omega,by rw[e1];exact hf⟩ (by rw[e1];exact hargs) (by rw[e1];exact hm)
   refine this.mono fun e w' ⟨v, ρ',q1,q2,q3,q4⟩=>⟨v, ρ',q1,by rw[e1] at q2;exact q2,q3,q4⟩
  ·have hun:HO one x j (c0::c1::cs) pc m g=(do
     let t:=g.n
     let g:=g.pushAll [⟨ "eq",oEq,[.e x,.c (.int j)]⟩]
     let (pa,g):=CD g pc t true
     let (ca,ma,g) ←one c0 pa m g
     let (pb,g):=CD g pc t false
     let (cb,mb,g) ←HO one x (j+1) (c1::cs) pb m g
     let (m',us):=Ba (.e t) g.n ma mb
     let (c',us'):=FA (g.n+us.length) (.e t) ca cb
     some (c',m',g.pushAll (us++us'))):=by
    cases c0<;>first|rfl|(rename_i cc;cases cc<;>first|rfl|exact absurd rfl hnil)
   simp only[hun] at h
   generalize hg0:g.pushAll [⟨ "eq",oEq,[.e x,.c (.int j)]⟩]=g0 at h
   have gr0:AP g g0:=by rw[←hg0];exact AP.push _ _
   have hn0:g0.n=g.n+1:=by rw[←hg0,BY];rfl
   generalize hba:CD g0 pc g.n true=ba at h
   obtain⟨pa,g1⟩:=ba
   simp only[Option.bind_eq_bind,Option.bind_eq_some_iff] at h
   obtain⟨⟨ca,ma,g2⟩,h1,h⟩:=h
   simp only at h
   generalize hbb:CD g2 pc g.n false=bb at h
   obtain⟨pb,g3⟩:=bb
   simp only[Option.bind_eq_some_iff] at h
   obtain⟨⟨cb,mb,g4⟩,h2,h⟩:=h
   cases h
   obtain⟨gr1,k1⟩:=D0 (T:=T) hba
   obtain⟨gr2,k2⟩:=hone c0 pa m g1 ca ma g2 h1
   obtain⟨gr3,k3⟩:=D0 (T:=T) hbb
   obtain⟨gr4,k4⟩:=Qj hone hix h0 (c1::cs) (j+1) f pb m g3 cb mb g4 h2
   have gr5:AP g4 (g4.pushAll ((Ba (.e g.n) g4.n ma mb).2++(FA (g4.n+(Ba (.e g.n) g4.n ma mb).2.length) (.e g.n) ca cb).2)):=AP.push _ _
   refine⟨((((gr0.trans gr1).trans gr2).trans gr3).trans gr4).trans gr5,fun hA hob hpc hk ρ w fv vs ⟨hj,hf⟩ hargs hm=>?_⟩
   have hA4:=hA.of gr5
   have hA3:=hA4.of gr4
   have hA2:=hA3.of gr3
   have hA1:=hA2.of gr2
   have hA0:=hA1.of gr1
   have hT:T g.n= .bool (decide (ix=j)):=by
    have:Agr T (g.pushAll [⟨ "eq",oEq,[.e x,.c (.int j)]⟩]):=by rw[hg0];exact hA0
    rw[this.new.head]
    simp[Ex.eval,oEq,u0,u1,eve,evc,hix,U.toI]
   obtain⟨a1,a2⟩:=k1 hA1 (hk.lt.grow gr0) (by omega)
   obtain⟨a3,a4⟩:=k3 hA3 (hk.lt.grow ((gr0.trans gr1).trans gr2)) (by have:=gr1.n;have:=gr2.n;omega)
   have hnew:=hA.new
   have hlen:(g4.pushAll ((Ba (.e g.n) g4.n ma mb).2++(FA (g4.n+(Ba (.e g.n) g4.n ma mb).2.length) (.e g.n) ca cb).2)).n=g4.n+((Ba (.e g.n) g4.n ma mb).2.length+(FA (g4.n+(Ba (.e g.n) g4.n ma mb).2.length) (.e g.n) ca cb).2.length):=by
    rw[BY,List.length_append]
   by_cases hc:ix=j
   ·have hpa:pcv T pa:=a2.2 ⟨hpc,by rw[hT];simp[hc,U.toB]⟩
    have hd:ix.toNat - j=0:=by omega
    rw[hd] at hf
    have up1:=(gr0.trans gr1).n
    have:=k2 hA2 (hob.of ((gr3.trans gr4).trans gr5)) hpa (a1.ok hpa) ρ w fv vs (AB.up hm up1 hf) (hargs.up hm up1) (hm.mono up1)
    refine this.mono fun e w' ⟨v, ρ',q1,q2,q3,q4⟩=>?_
    obtain⟨ρ2,s1,s2,s3⟩:=Jt (n:=g2.n) (b:=true) (m1:=ma) (m2:=mb) (c:=ca) (d:=cb) (v:=v) (by simp[eve,hT,hc,U.toB]) q3 (gr3.trans gr4).n hnew (Nat.le_of_eq hlen.symm) q4
    exact⟨v, ρ2,q1,(q2.down up1).trans hm ((gr0.trans gr1).trans gr2).n s1,s2,s3⟩
   ·have hpb:pcv T pb:=a4.2 ⟨hpc,by rw[hT];simp[hc,U.toB]⟩
    have hd:ix.toNat - j=(ix.toNat - (j+1))+1:=by omega
    rw[hd] at hf
    have up3:=(((gr0.trans gr1).trans gr2).trans gr3).n
    have hfA:Ah T g.n ρ m w (c1::cs) (ix.toNat - (j+1)) fv:=hf
    have:=k4 hA4 (hob.of gr5) hpb (a3.ok hpb) ρ w fv vs ⟨by omega,Ah.mono0 (AJ.refl _ _ _ _ _) up3 _ _ _ hfA⟩ (hargs.up hm up3) (hm.mono up3)
    refine this.mono fun e w' ⟨v, ρ',q1,q2,q3,q4⟩=>?_
    obtain⟨ρ2,s1,s2,s3⟩:=Jt (n:=g4.n) (b:=false) (m1:=ma) (m2:=mb) (c:=ca) (d:=cb) (v:=v) (by simp[eve,hT,hc,U.toB]) q3 (Nat.le_refl _) hnew (Nat.le_of_eq hlen.symm) q4
    exact⟨v, ρ2,q1,(q2.down up3).trans hm ((((gr0.trans gr1).trans gr2).trans gr3).trans gr4).n s1,s2,s3⟩
theorem YA (hcall:Ca P T call)(hys:CN P T.lp ys)(args:List AC):TB P T args (fun f pc m g=>Kn call ys f args pc m g) (fun g ρ m w f fv=>AB T g.n ρ m w f fv):=by
 intro f pc m g c m' g' h
 by_cases hs:∃x alts,f= .sel x alts
 ·obtain⟨x,alts,rfl⟩:=hs
  simp only[Kn] at h
  by_cases hx:∃ix,T x= .int ix∧0≤ix
  ·obtain⟨ix,h1,h2⟩:=hx
   obtain⟨gr,k⟩:=Qj (Ha hcall hys args) h1 h2 alts 0 .any pc m g c m' g' h
   refine⟨gr,fun hA hob hpc hk ρ w fv vs ⟨_,j,e1,_,e3⟩ hargs hm=>k hA hob hpc hk ρ w fv vs ⟨Nat.zero_le _,?_⟩ hargs hm⟩
   rw[h1] at e1
   cases e1
   exact e3
  ·
   refine⟨?_,fun hA hob hpc hk ρ w fv vs ⟨_,j,e1,e2,e3⟩ hargs hm=>absurd ⟨j,e1,e2⟩ hx⟩
   have grow:∀(alts:List AC) (j:Nat) (pc:PC) (m:Mem) (g:G) (c:AC) (m':Mem) (g':G),HO (Di call ys args) x j alts pc m g=some (c,m',g')→AP g g':=by
    intro alts
    induction alts with
    |nil=>intro j pc m g c m' g' h;simp[HO] at h
    |cons c0 alts ih=>
     intro j pc m g c m' g' h
     cases alts with
     |nil=>
      have h':Di call ys args c0 pc m g=some (c,m',g'):=by cases c0<;>first|exact h|(rename_i cc;cases cc<;>exact h)
      exact (Ha hcall hys args c0 pc m g c m' g' h').1
     |cons c1 cs=>
      by_cases hnil:c0= .cv .nilFunc
      ·subst hnil
       simp only[HO] at h
       exact (AP.need _ _ _).trans (ih (j+1) pc m _ c m' g' h)
      ·have hun:HO (Di call ys args) x j (c0::c1::cs) pc m g=(do
         let t:=g.n
         let g:=g.pushAll [⟨ "eq",oEq,[.e x,.c (.int j)]⟩]
         let (pa,g):=CD g pc t true
         let (ca,ma,g) ←Di call ys args c0 pa m g
         let (pb,g):=CD g pc t false
         let (cb,mb,g) ←HO (Di call ys args) x (j+1) (c1::cs) pb m g
         let (m',us):=Ba (.e t) g.n ma mb
         let (c',us'):=FA (g.n+us.length) (.e t) ca cb
         some (c',m',g.pushAll (us++us'))):=by
        cases c0<;>first|rfl|(rename_i cc;cases cc<;>first|rfl|exact absurd rfl hnil)
       simp only[hun] at h
       generalize hba:CD (g.pushAll [⟨ "eq",oEq,[.e x,.c (.int j)]⟩]) pc g.n true=ba at h
       obtain⟨pa,g1⟩:=ba
       simp only[Option.bind_eq_bind,Option.bind_eq_some_iff] at h
       obtain⟨⟨ca,ma,g2⟩,h1,h⟩:=h
       simp only at h
       generalize hbb:CD g2 pc g.n false=bb at h
       obtain⟨pb,g3⟩:=bb
       simp only[Option.bind_eq_some_iff] at h
       obtain⟨⟨cb,mb,g4⟩,h2,h⟩:=h
       cases h
       exact ((((AP.push _ _).trans (D0 (T:=T) hba).1).trans (Ha hcall hys args c0 pa m g1 ca ma g2 h1).1).trans (D0 (T:=T) hbb).1).trans ((ih (j+1) pb m g3 cb mb g4 h2).trans (AP.push _ _))
   exact grow alts 0 pc m g c m' g' h
 ·have:Kn call ys f args pc m g=Di call ys args f pc m g:=by
   unfold Kn
   split
   ·exact absurd ⟨_,_,rfl⟩ hs
   ·rfl
  simp only[this] at h
  exact Ha hcall hys args f pc m g c m' g' h
theorem ek {n:Nat}{ρ :Nat→Option Nat}{m:Mem}{w:World}{a:AC}{v:Value}(hq:∀q∈VO a,q.holds T)(h:AB T n ρ m w a v):AB T n ρ m w (TE a) v:=by
 unfold TE
 split
 ·rename_i c i o
  have:=hq ⟨ "t",pT,[.e c]⟩ (by simp[VO])
  simp only[Pr.holds,pT,List.map_cons,List.map_nil,u0,eve] at this
  exact h.2 (FY.2 this)
 ·exact h
theorem Ru {n:Nat}{ρ :Nat→Option Nat}{m:Mem}{w:World}:∀{l:List AC} {vs:List Value},(∀q∈HM l,q.holds T)→AD T n ρ m w l vs→AD T n ρ m w (l.map TE) vs
 |[],_,_,h=>h
 |a::l,_,hq,⟨u,us,e,h1,h2⟩=>⟨u,us,e,ek (fun q hx=>hq q (by simp[HM,hx])) h1,Ru (fun q hx=>hq q (by simp[HM,hx])) h2⟩
theorem PN {o:Oper}{a:Act}{w:World}{g:G}{ρ :Nat→Option Nat}{m:Mem}{r':R}{K:Act→World→Prop}{Q:Exit→Act→World→Prop}(ho:∀c,o.op≠ .defer c)(h:BZ T g ρ m w ((execOp a.eval o).run P w) r')
  (hw:BK o.op=true→∃x,(execOp a.eval o).run P w= .ok x w)
  (hK:∀v w' ρ',AJ T g.n ρ m w ρ' r'.m w'→AH T (g.n+r'.us.length) ρ' r'.m w'→AB T (g.n+r'.us.length) ρ' r'.m w' r'.c v→(BK o.op=true→w'=w)→K (a.put o.dst v) w'):o.wpIn (fen r) kk P a w K Q:=by
 refine K7 ho ?_
 obtain⟨v,w', ρ',h1|⟨h1,rfl⟩,h2,h3,h4⟩:=h
 ·rw[h1]
  refine hK v w' ρ' h2 h3 h4 fun hf=>?_
  obtain⟨x,hx⟩:=hw hf
  rw[h1] at hx
  injection hx
 ·rw[h1]
  refine hK _ w' ρ' h2 h3 h4 fun hf=>?_
  obtain⟨x,hx⟩:=hw hf
  rw[h1] at hx
  injection hx
theorem Hp (hcall:Ca P T call)(hys:CN P T.lp ys){ops:Array Oper}{pc:PC}{s s':RS}{o:Oper}(h:Ck P call ys ops pc s o=some s'):
  AP s.g s'.g∧(Agr T s'.g→An T s'.g→pcv T pc→BJ T s.g pc→∀ ρ a w K Q,Bq T ρ ops s a w→
   (∀ ρ' v w',Bq T ρ' ops s' (a.put o.dst v) w'→AJ T s.g.n ρ s.mem w ρ' s'.mem w'→(BK o.op=true→w'=w)→K (a.put o.dst v) w')→Co P r kk ops o a w K Q):=by
 unfold Ck at h
 simp only[Option.bind_eq_bind,Option.bind_eq_some_iff] at h
 obtain⟨⟨run,s1⟩,hg,h⟩:=h
 obtain⟨gg1,gg2,gg3⟩:=Gh hg
 simp only at h
 split at h
 ·cases h
 rename_i hdst
 have hd:s1.gl.any (fun e=>((ops[e.j]?).bind (·.dst))==o.dst)=false:=by simpa using hdst
 split at h
 ·
  cases h
  refine⟨gg1,fun hA _ hpc hk ρ a w K Q hi hK=>?_⟩
  obtain⟨e1,e2,_,hi1,e3,_⟩:=Lo hg hA hpc hk hi
  unfold Co
  rw[e3 rfl]
  simp only[Bool.false_eq_true,if_false]
  have:=hi1.put hd (AP.refl _) (AJ.refl T s1.g.n ρ s1.mem w) hi1.rel.mem (c:= .tup []) (v:=undef) ⟨[],rfl,rfl⟩
  exact hK ρ _ w this (by rw[show s1.mem=s.mem from e2];exact AJ.refl _ _ _ _ _) (fun _=>rfl)
 ·rename_i pc' imp
  have main:∀(g2:G) (c:AC) (mem2:Mem),AP s1.g g2→s'={ s1 with tmps:=DG s1.tmps o.dst (TJ pc' imp c),mem:=mem2,g:=g2 }→
    (imp≠[]→∀p,pc'=some p→(T p).toB=false→Agr T g2→∀ ρ w,AH T s1.g.n ρ s1.mem w→∃ ρ',AJ T s1.g.n ρ s1.mem w ρ' mem2 w∧AH T g2.n ρ' mem2 w)→
    (∀ ρ a w,Bq T ρ ops s1 a w→(∀c∈imp,T c= .bool true)→Agr T g2→An T g2→pcv T pc'→BJ T s1.g pc'→∀K Q,(∀v ρ' w',AJ T s1.g.n ρ s1.mem w ρ' mem2 w'→AH T g2.n ρ' mem2 w'→AB T g2.n ρ' mem2 w' c v→(BK o.op=true→w'=w)→K (a.put o.dst v) w')→o.wpIn (fen r) kk P a w K Q)→
    AP s.g s'.g∧(Agr T s'.g→An T s'.g→pcv T pc→BJ T s.g pc→∀ ρ a w K Q,Bq T ρ ops s a w→
     (∀ ρ' v w',Bq T ρ' ops s' (a.put o.dst v) w'→AJ T s.g.n ρ s.mem w ρ' s'.mem w'→(BK o.op=true→w'=w)→K (a.put o.dst v) w')→Co P r kk ops o a w K Q):=by
   intro g2 c mem2 gr hs' hgone hrun
   subst hs'
   refine⟨gg1.trans gr,fun hA hob hpc hk ρ a w K Q hi hK=>?_⟩
   have hA2:Agr T g2:=hA
   obtain⟨e1,e2,_,hi1,_,e4⟩:=Lo hg (hA2.of gr) hpc hk hi
   obtain⟨f1,f2,f3,f4,f5⟩:=e4 pc' imp rfl
   have step:∀{ρ' w'},AJ T s1.g.n ρ s1.mem w ρ' mem2 w'→AJ T s.g.n ρ s.mem w ρ' mem2 w':=fun hs=>by
    rw[←show s1.mem=s.mem from e2];exact hs.down gg1.n
   unfold Co
   by_cases hp:pcv T pc'
   ·rw[f1.2 hp]
    simp only[if_true]
    refine hrun ρ a w hi1 (f2 hp) hA2 hob hp f3 K Q (fun v ρ' w' k1 k2 k3 k4=>?_)
    refine hK ρ' _ w' (hi1.put hd gr k1 k2 ?_) (step k1) k4
    by_cases hemp:imp=[]
    ·subst hemp;rw[Mt];exact k3
    ·obtain⟨⟨p,rfl⟩,_⟩:=f5 hemp
     rw[UH hemp]
     exact⟨Nat.lt_of_lt_of_le f3.1 gr.n,fun _=>k3,fun hn=>absurd hp hn⟩
   ·have hw:Region.wanted o (yielded ops a.tmps)=false:=by
     cases hw:Region.wanted o (yielded ops a.tmps) with
     |false=>rfl
     |true=>exact absurd (f1.1 hw) hp
    rw[hw]
    simp only[Bool.false_eq_true,if_false]
    have hemp:imp≠[]:=fun h=>hp (f4 h)
    obtain⟨⟨p,rfl⟩,_⟩:=f5 hemp
    have hpf:(T p).toB=false:=by
     cases hb:(T p).toB with
     |false=>rfl
     |true=>exact absurd (FY.2 hb) hp
    obtain⟨ρ',hst,hmk⟩:=hgone hemp p rfl hpf hA2 ρ w hi1.rel.mem
    refine hK ρ' _ w (hi1.put hd gr hst hmk (v:=undef) ?_) (step hst) (fun _=>rfl)
    rw[UH hemp]
    exact⟨Nat.lt_of_lt_of_le f3.1 gr.n,fun h=>absurd h hp,fun _=>rfl⟩
  have weak:∀{mem2:Mem} {g2:G},AP s1.g g2→(∀id,mem2.at id=s1.mem.at id∨mem2.at id= .gone)→(imp≠[]→∀p,pc'=some p→(T p).toB=false→Agr T g2→∀ ρ w,AH T s1.g.n ρ s1.mem w→∃ ρ',AJ T s1.g.n ρ s1.mem w ρ' mem2 w∧AH T g2.n ρ' mem2 w):=
   fun gr hw _ _ _ _ _ ρ w hm=>⟨ρ,AJ.weaken hw,(hm.mono gr.n).weaken hw⟩
  have evald:∀(us:List Ex) (ps:List Pr),AP s1.g ((s1.g.pushAll us).needAll pc' ps)∧(Agr T ((s1.g.pushAll us).needAll pc' ps)→New T s1.g.n us)∧
    (An T ((s1.g.pushAll us).needAll pc' ps)→pcv T pc'→∀q∈ps,q.holds T)∧((s1.g.pushAll us).needAll pc' ps).n=s1.g.n+us.length:=by
   intro us ps
   obtain⟨q1,_⟩:=DT ps (s1.g.pushAll us) pc'
   exact⟨(AP.push _ _).trans (AP.need _ _ _),fun hA=>hA.need.new,fun hob hp=>An.need hob hp,by rw[q1,BY]⟩
  split at h
  ·
   rename_i f args ts ho
   simp only[Option.bind_eq_some_iff] at h
   obtain⟨⟨c,m2,g2⟩,hc,h⟩:=h
   obtain⟨gr0,hsound⟩:=YA hcall hys _ _ pc' s1.mem _ c m2 g2 hc
   have grn:AP s1.g (s1.g.needAll pc' (HM (args.toList.map (HJ imp s1.tmps)))):=AP.need _ _ _
   have gr:AP s1.g g2:=grn.trans gr0
   have en:(s1.g.needAll pc' (HM (args.toList.map (HJ imp s1.tmps)))).n=s1.g.n:=(DT _ s1.g pc').1
   have run:∀ ρ a w,Bq T ρ ops s1 a w→(∀c∈imp,T c= .bool true)→Agr T g2→An T g2→pcv T pc'→BJ T s1.g pc'→∀K Q,(∀v ρ' w',AJ T s1.g.n ρ s1.mem w ρ' m2 w'→AH T g2.n ρ' m2 w'→AB T g2.n ρ' m2 w' c v→(BK o.op=true→w'=w)→K (a.put o.dst v) w')→o.wpIn (fen r) kk P a w K Q:=by
    intro ρ a w hi1 himp hA2 hob2 hp hk2 K Q hK
    have hev:=GK hi1.rel himp
    have hargs:=AD.of_map hev args.toList
    have hst:=Ru (An.need (hob2.of gr0) hp) hargs
    refine Yn ho (hsound hA2 hob2 hp (hk2.grow grn) ρ w _ _ (by show AB T _ ρ s1.mem w _ _;rw[en];exact hev f) (by rw[en];exact hst) (by rw[en];exact hi1.rel.mem)) fun e w' hh=>?_
    obtain⟨v, ρ',rfl,k1,k2,k3⟩:=hh
    rw[en] at k1
    exact⟨v,rfl,hK v ρ' w' k1 k2 k3 (fun hf=>by rw[ho] at hf;cases hf)⟩
   split at h
   ·
    cases h
    exact main g2 c m2 gr (by rw[Mt]) (fun h=>absurd rfl h) run
   ·
    split at h
    ·rename_i hkept
     cases h
     obtain⟨hlen,hat⟩:=IV hkept
     have hmem2:∀id,Mem.at (s1.mem++List.replicate (m2.length - s1.mem.length) .gone) id=m2.at id∨Mem.at (s1.mem++List.replicate (m2.length - s1.mem.length) .gone) id= .gone:=by
      intro id
      rw[Uw]
      split
      ·rename_i hid;exact .inl (hat id hid).symm
      ·split
       ·exact .inr rfl
       ·exact .inl (Mem.at_ge (by omega)).symm
     refine main g2 c _ gr rfl (weak gr fun id=>?_) (fun ρ a w hi1 himp hA2 hob2 hp hk2 K Q hK=>?_)
     ·rw[Uw]
      split
      ·exact .inl rfl
      ·split
       ·exact .inr rfl
       ·exact .inl (Mem.at_ge (by omega)).symm
     ·refine run ρ a w hi1 himp hA2 hob2 hp hk2 K Q (fun v ρ' w' k1 k2 k3 k4=>?_)
      have hst:AJ T g2.n ρ' m2 w' ρ' (s1.mem++List.replicate (m2.length - s1.mem.length) .gone) w':=AJ.weaken hmem2
      exact hK v ρ' w' (k1.trans hi1.rel.mem gr.n hst) (k2.weaken hmem2) (AB.mono hst k2 (Nat.le_refl _) c v k3) k4
    ·
     split at h
     ·rename_i p
      cases h
      have gr2:AP g2 (g2.pushAll (Ba (.e p) g2.n m2 s1.mem).2):=AP.push _ _
      have hlen:(g2.pushAll (Ba (.e p) g2.n m2 s1.mem).2).n=g2.n+(Ba (.e p) g2.n m2 s1.mem).2.length:=by rw[BY]
      refine main _ c _ (gr.trans gr2) rfl (fun _ q hq hf hA ρ w hm=>?_) (fun ρ a w hi1 himp hA2 hob2 hp hk2 K Q hK=>?_)
      ·cases hq
       have hm':AH T s1.g.n ρ (sel false m2 s1.mem) w:=hm
       obtain⟨q1,q2,-,-⟩:=Kv (T:=T) (n:=s1.g.n) (n':=(g2.pushAll (Ba (.e p) g2.n m2 s1.mem).2).n) (w:=w) (m1:=m2) (m2:=s1.mem) (b:=false) (sb:= .e p) (by show (T p).toB=false;exact hf) hm' gr.n hA.new (Nat.le_of_eq hlen.symm)
       exact⟨_,q2,q1⟩
      ·refine run ρ a w hi1 himp (hA2.of gr2) (hob2.of gr2) hp hk2 K Q (fun v ρ' w' k1 k2 k3 k4=>?_)
       have k2':AH T g2.n ρ' (sel true m2 s1.mem) w':=k2
       obtain⟨q1,q2,-,-⟩:=Kv (T:=T) (n:=g2.n) (n':=(g2.pushAll (Ba (.e p) g2.n m2 s1.mem).2).n) (w:=w') (m1:=m2) (m2:=s1.mem) (b:=true) (sb:= .e p) (by show (T p).toB=true;exact FY.1 hp) k2' (Nat.le_refl _) hA2.new (Nat.le_of_eq hlen.symm)
       have hst':AJ T g2.n ρ' m2 w' _ _ w':=q2
       exact hK v _ w' (k1.trans hi1.rel.mem gr.n hst') q1 (AB.mono hst' k2 gr2.n c v k3) k4
     ·cases h
  ·
   rename_i c x y ho
   simp only[Option.bind_eq_some_iff] at h
   obtain⟨rr,hr,h⟩:=h
   cases h
   obtain⟨gr,ga,gp,gn⟩:=evald rr.us rr.ps
   refine main _ rr.c s1.mem gr rfl (weak gr fun id=> .inl rfl) (fun ρ a w hi1 himp hA2 hob2 hp hk2 K Q hK=>?_)
   have hev:=GK hi1.rel himp
   have size:∀b,a.eval c= .bool b→∀t,c= .tmp t→t < a.tmps.size:=by
    intro b hb t ht
    subst ht
    rcases Nat.lt_or_ge t a.tmps.size with h|h
    ·exact h
    ·have:a.tmps.getD t undef= .bool b:=hb
     rw[Array.getD_eq_getD_getElem?,Array.getElem?_eq_none h] at this
     cases this
   obtain⟨q,e1,e2,e3⟩:=MO (ρ := ρ) (w:=w) hr (ga hA2) hi1.rel.mem (hev c)
    (fun hb=>N6 (QG hi1.ges hb (size _ hb)) (hev x)) (fun hb=>N6 (QG hi1.ges hb (size _ hb)) (hev y))
   have hrun:(execOp a.eval o).run P w= .ok (.value (if q then a.eval x else a.eval y)) w:=by simp[execOp,ho,e1,asBool]
   refine K7 (fun c hc=>by rw[ho] at hc;cases hc) ?_
   rw[hrun]
   refine hK _ ρ w (AJ.refl _ _ _ _ _) (hi1.rel.mem.mono gr.n) ?_ (fun _=>rfl)
   rw[gn]
   exact e3
  ·
   rename_i hne1 hne2
   simp only[Option.bind_eq_some_iff] at h
   obtain⟨rr,hr,h⟩:=h
   obtain⟨gr,ga,gp,gn⟩:=evald rr.us rr.ps
   split at h
   ·
    cases h
    refine main _ rr.c rr.m gr (by rw[Mt]) (fun h=>absurd rfl h) (fun ρ a w hi1 himp hA2 hob2 hp hk2 K Q hK=>?_)
    refine PN (lv hr) (nB hr (ga hA2) (gp hob2 hp) hi1.rel.mem (GK hi1.rel himp)) (fun hf=>let⟨v,h1,_⟩:=kh hr hf (ga hA2) (gp hob2 hp) hi1.rel.mem (GK hi1.rel himp);⟨_,h1⟩) (fun v w' ρ' k1 k2 k3 k4=>?_)
    rw[←gn] at k2 k3
    exact hK v ρ' w' k1 k2 k3 k4
   ·split at h
    ·rename_i hfree
     cases h
     refine main _ rr.c s1.mem gr rfl (weak gr fun id=> .inl rfl) (fun ρ a w hi1 himp hA2 hob2 hp hk2 K Q hK=>?_)
     have hev:=GK hi1.rel himp
     have hmm:=lW hfree hr (ga hA2) (gp hob2 hp) hi1.rel.mem hev
     refine PN (lv hr) (nB hr (ga hA2) (gp hob2 hp) hi1.rel.mem hev) (fun hf=>let⟨v,h1,_⟩:=kh hr hf (ga hA2) (gp hob2 hp) hi1.rel.mem hev;⟨_,h1⟩) (fun v w' ρ' k1 k2 k3 k4=>?_)
     rw[←gn] at k2 k3
     rw[hmm] at k1 k2 k3
     exact hK v ρ' w' k1 k2 k3 k4
    ·cases h
theorem JC (hcall:Ca P T call)(hys:CN P T.lp ys){ops:Array Oper}{pc:PC}{s s':RS}{o:Oper}(h:Ck P call ys ops pc s o=some s'):
  AP s.g s'.g∧(Agr T s'.g→An T s'.g→pcv T pc→BJ T s.g pc→∀ ρ a w K Q,Bq T ρ ops s a w→
   (∀ ρ' v w',Bq T ρ' ops s' (a.put o.dst v) w'→AJ T s.g.n ρ s.mem w ρ' s'.mem w'→K (a.put o.dst v) w')→Co P r kk ops o a w K Q):=by
 obtain⟨h1,h2⟩:=Hp (r:=r) (kk:=kk) hcall hys h
 exact⟨h1,fun hA hob hpc hk ρ a w K Q hi hK=>h2 hA hob hpc hk ρ a w K Q hi fun ρ' v w' k1 k2 _=>hK ρ' v w' k1 k2⟩
theorem KT (hcall:Ca P T call)(hys:CN P T.lp ys){ops:Array Oper}{pc:PC}:∀{l:List Oper} {s s':RS},C9 P call ys ops pc l s=some s'→
  AP s.g s'.g∧(Agr T s'.g→An T s'.g→pcv T pc→BJ T s.g pc→∀(k:Nat) ρ a w Q,(∀j,l[j]? =ops[k+j]?)→Bq T ρ ops s a w→
   (∀ ρ' a' w',Bq T ρ' ops s' a' w'→AJ T s.g.n ρ s.mem w ρ' s'.mem w'→Q .normal a' w')→wpOpsIn (fen r) kk P ops Q (List.range' k l.length) a w)
 |[],s,s',h=>by
  simp only[C9] at h
  cases h
  exact⟨AP.refl _,fun _ _ _ _ k ρ a w Q _ hi hK=>hK ρ a w hi (AJ.refl _ _ _ _ _)⟩
 |o::l,s,s',h=>by
  simp only[C9,Option.bind_eq_bind,Option.bind_eq_some_iff] at h
  obtain⟨s1,h1,h2⟩:=h
  obtain⟨g1,k1⟩:=JC (r:=r) (kk:=kk) hcall hys h1
  obtain⟨g2,k2⟩:=KT hcall hys h2
  refine⟨g1.trans g2,fun hA hob hpc hk k ρ a w Q hl hi hK=>?_⟩
  have ho:ops[k]? =some o:=by simpa using (hl 0).symm
  have:=k1 (hA.of g2) (hob.of g2) hpc hk ρ a w (wpOpsIn (fen r) kk P ops Q (List.range' (k+1) l.length)) Q hi (fun ρ' v' w' hi' hs=>by
   refine k2 hA hob hpc (hk.grow g1) (k+1) ρ' _ w' Q (fun j=>by have:=hl (j+1);simpa [Nat.add_assoc,Nat.add_comm 1 j] using this) hi' (fun ρ2 a2 w2 hi2 hs2=>?_)
   exact hK ρ2 a2 w2 hi2 (hs.trans hi.rel.mem g1.n hs2))
  simp only[List.length_cons,List.range'_succ,wpOpsIn,ho]
  unfold Co at this
  split
  ·rename_i hw
   rw[if_pos hw] at this
   exact this
  ·rename_i hw
   rw[if_neg hw] at this
   exact⟨fun _ _=>trivial,this⟩
end
end Go.Eng
end
noncomputable section
namespace Go.Eng
open Go Go.RowKit
def K5 (ops:Array Oper)(listed:Array Bool):Prop:=
 ∀j o,ops[j]? =some o→listed.getD j false=true→∀e∈o.after,Region.binds .any e=true→listed.getD e.on false=true
theorem JB {listed:Array Bool}{acc:List Nat}(hacc:∀(j r:Nat),acc[j]? =some r→listed.getD j false=true→∀i,r.testBit i=true→listed.getD i false=true):
  ∀(es:List Edge),(∀e∈es,Region.binds .any e=true→listed.getD e.on false=true)→∀i,(D4 acc es).testBit i=true→listed.getD i false=true
 |[],_,i,h=>by simp[D4] at h
 |e::es,hes,i,h=>by
  simp only[D4] at h
  split at h
  ·rename_i hb
   have he:=hes e (List.mem_cons_self ..) hb
   simp only[show∀x y,Nat.lor x y=x ||| y from fun _ _=>rfl,Nat.testBit_or,Bool.or_eq_true] at h
   rcases h with (h|h)|h
   ·rw[Nat.testBit_two_pow] at h
    have:e.on=i:=by simpa using h
    rw[←this];exact he
   ·cases hr:acc[e.on]? with
    |none=>rw[hr] at h;simp at h
    |some r=>rw[hr] at h;exact hacc e.on r hr he i h
   ·exact JB hacc es (fun e he=>hes e (List.mem_cons_of_mem _ he)) i h
  ·exact JB hacc es (fun e he=>hes e (List.mem_cons_of_mem _ he)) i h
theorem Ls {listed:Array Bool}:∀(l:List Oper) (pre:List Oper) (acc:List Nat),acc.length=pre.length→
  (∀j o,(pre++l)[j]? =some o→listed.getD j false=true→∀e∈o.after,Region.binds .any e=true→listed.getD e.on false=true)→
  (∀(j r:Nat) (o:Oper),acc[j]? =some r→(pre++l)[j]? =some o→(∀e∈o.after,Region.binds .any e=true→listed.getD e.on false=true)→∀i,r.testBit i=true→listed.getD i false=true)→
  (AU l acc).length=(pre++l).length∧∀(j r:Nat) (o:Oper),(AU l acc)[j]? =some r→(pre++l)[j]? =some o→(∀e∈o.after,Region.binds .any e=true→listed.getD e.on false=true)→∀i,r.testBit i=true→listed.getD i false=true
 |[],pre,acc,hlen,_,h=>⟨by simp[AU,hlen],h⟩
 |o::l,pre,acc,hlen,hc,h=>by
  simp only[AU]
  have e:pre++o::l=(pre++[o])++l:=by simp
  rw[e]
  refine Ls l (pre++[o]) _ (by simp[hlen]) (by rw[←e];exact hc) ?_
  intro j r o' hr ho'
  rw[List.getElem?_append] at hr
  split at hr
  ·rename_i hj
   exact h j r o' hr (by rw[e];exact ho')
  ·rename_i hj
   have hj2:j=acc.length:=by
    rcases Nat.lt_or_ge (j - acc.length) 1 with h1|h1
    ·omega
    ·rw[List.getElem?_eq_none (by simpa using h1)] at hr;cases hr
   subst hj2
   simp at hr
   subst hr
   have hoo:o'=o:=by
    rw[hlen] at ho'
    simp at ho'
    exact ho'.symm
   subst hoo
   intro hes
   refine JB (fun j r hr hj=>?_) _ (fun e he=>hes e (by simpa using he))
   obtain⟨o2,ho2⟩:∃o2,(pre++o'::l)[j]? =some o2:=by
    have:j < acc.length:=(List.getElem?_eq_some_iff.1 hr).1
    exact⟨_,List.getElem?_eq_getElem (by simp;omega)⟩
   exact h j r o2 hr ho2 (hc j o2 ho2 hj)
theorem CC {ops:Array Oper}{listed:Array Bool}(hc:K5 ops listed){j r:Nat}{o:Oper}(hr:(AU ops.toList [])[j]? =some r)(ho:ops[j]? =some o)
  (he:∀e∈o.after,Region.binds .any e=true→listed.getD e.on false=true):∀i,r.testBit i=true→listed.getD i false=true:=
 (Ls (listed:=listed) ops.toList [] [] rfl (fun j o ho=>hc j o (by simpa using ho)) (fun j r o hr=>by simp at hr)).2 j r o hr (by simpa using ho) he
theorem CH (ops:Array Oper):(AU ops.toList []).length=ops.size:=by
 have:=(Ls (listed:= #[]) ops.toList [] [] rfl (fun j o _ h=>by simp at h) (fun j r o hr=>by simp at hr)).1
 simpa using this
theorem EF:∀(Rs:List Nat) (k:Nat),FH Rs k=true→∀(j r:Nat),Rs[j]? =some r→∀i,r.testBit i=true→i < k+j
 |[],_,_,j,r,hr=>by simp at hr
 |r0::Rs,k,h,j,r,hr=>by
  simp only[FH,Bool.and_eq_true] at h
  intro i hi
  cases j with
  |zero=>
   simp at hr;subst hr
   have h1:r0 < 2 ^ k:=by have:=h.1;rw[Nat.blt_eq] at this;exact this
   rcases Nat.lt_or_ge i k with hlt|hge
   ·omega
   ·have:=Nat.testBit_lt_two_pow (x:=r0) (i:=i) (Nat.lt_of_lt_of_le h1 (Nat.pow_le_pow_right (by decide) hge))
    rw[this] at hi;cases hi
  |succ j=>
   have:=EF Rs (k+1) h.2 j r (by simpa using hr) i hi
   omega
theorem JO:∀(Rs:List Nat) (k h:Nat),h≤k→D1 Rs k h≤k+Rs.length∧h≤D1 Rs k h∧∀(j r:Nat),Rs[j]? =some r→D1 Rs k h≤k+j→∀i,i < k+j→r.testBit i=true
 |[],k,h,hk=>⟨by simpa [D1] using hk,Nat.le_refl _,fun j r hr=>by simp at hr⟩
 |r0::Rs,k,h,hk=>by
  simp only[D1]
  by_cases hb:Nat.beq (r0+1) (2 ^ k)=true
  ·rw[if_pos hb]
   obtain⟨h1,h2,h3⟩:=JO Rs (k+1) h (by omega)
   refine⟨by simp;omega,h2,fun j r hr hj i hi=>?_⟩
   cases j with
   |zero=>
    simp at hr;subst hr
    have hr0:r0=2 ^ k - 1:=by have:=Nat.eq_of_beq_eq_true hb;omega
    rw[hr0,Nat.testBit_two_pow_sub_one]
    simpa using hi
   |succ j=>exact h3 j r (by simpa using hr) (by omega) i (by omega)
  ·rw[if_neg hb]
   obtain⟨h1,h2,h3⟩:=JO Rs (k+1) (k+1) (by omega)
   refine⟨by simp;omega,by omega,fun j r hr hj i hi=>?_⟩
   cases j with
   |zero=>omega
   |succ j=>exact h3 j r (by simpa using hr) (by omega) i (by omega)
theorem M5:∀{l:List Tmp},Ed l=true→l.Nodup
 |[],_=>List.nodup_nil
 |t::l,h=>by
  simp only[Ed,Bool.and_eq_true] at h
  refine List.nodup_cons.2 ⟨fun hm=>?_,M5 h.2⟩
  have:=h.1
  simp[hm] at this
theorem Ch {ops:Array Oper}(h:Ed (ops.toList.filterMap (·.dst))=true){i j:Nat}{oi oj:Oper}{d:Tmp}(hi:ops[i]? =some oi)(hj:ops[j]? =some oj)(hdi:oi.dst=some d)(hdj:oj.dst=some d):i=j:=by
 have key:∀(l:List Oper) (i j:Nat) (oi oj:Oper),(l.filterMap (·.dst)).Nodup→l[i]? =some oi→l[j]? =some oj→oi.dst=some d→oj.dst=some d→i=j:=by
  intro l
  induction l with
  |nil=>intro i j oi oj _ hi;simp at hi
  |cons o l ih=>
   intro i j oi oj hn hi hj hdi hdj
   cases i with
   |zero=>
    cases j with
    |zero=>rfl
    |succ j=>
     simp at hi hj
     subst hi
     rw[List.filterMap_cons_some hdi] at hn
     exact absurd (List.mem_filterMap.2 ⟨oj,List.mem_iff_getElem?.2 ⟨j,hj⟩,hdj⟩) (List.nodup_cons.1 hn).1
   |succ i=>
    cases j with
    |zero=>
     simp at hi hj
     subst hj
     rw[List.filterMap_cons_some hdj] at hn
     exact absurd (List.mem_filterMap.2 ⟨oi,List.mem_iff_getElem?.2 ⟨i,hi⟩,hdi⟩) (List.nodup_cons.1 hn).1
    |succ j=>
     simp at hi hj
     have hn2:(l.filterMap (·.dst)).Nodup:=by
      cases hd:o.dst with
      |none=>rw[List.filterMap_cons_none hd] at hn;exact hn
      |some t=>rw[List.filterMap_cons_some hd] at hn;exact (List.nodup_cons.1 hn).2
     rw[ih i j oi oj hn2 hi hj hdi hdj]
 exact key ops.toList i j oi oj (M5 h) (by simpa using hi) (by simpa using hj) hdi hdj
theorem OP:∀(l:List Oper) (k:Nat) (t:Tmp) (i:Nat) (o:Oper),(∀(i j:Nat) (oi oj:Oper),l[i]? =some oi→l[j]? =some oj→oi.dst=some t→oj.dst=some t→i=j)→l[i]? =some o→o.dst=some t→BD (Au k l) t=some (k+i)
 |[],_,_,i,o,_,ho,_=>by simp at ho
 |o0::l,k,t,i,o,hinj,ho,hd=>by
  by_cases h0:o0.dst=some t
  ·have:i=0:=hinj i 0 o o0 ho (by simp) hd h0
   subst this
   simp[Au,h0,BD]
  ·cases i with
   |zero=>simp at ho;subst ho;exact absurd hd h0
   |succ i=>
    have ih:=OP l (k+1) t i o (fun i j oi oj h1 h2 h3 h4=>by have:=hinj (i+1) (j+1) oi oj (by simpa using h1) (by simpa using h2) h3 h4;omega) (by simpa using ho) hd
    rw[show k+(i+1)=k+1+i by omega,←ih]
    cases hx:o0.dst with
    |none=>simp[Au,hx]
    |some t'=>
     have hne:Nat.beq t' t=false:=by
      cases hb:Nat.beq t' t with
      |false=>rfl
      |true=>exact absurd (by rw[hx,Nat.eq_of_beq_eq_true hb]) h0
     simp[Au,hx,BD,hne]
theorem Ge (D:List (Tmp × Nat))(ok:Nat→Bool)(s:AQ):∀(l:List Tmp) (t:Tmp) (c:AC),BR (Bw D ok s l) t=some c→s.get t=some c∧∀i,BD D t=some i→ok i=true
 |[],t,c,h=>by simp[Bw,BR] at h
 |t0::r,t,c,h=>by
  simp only[Bw] at h
  cases hc0:s.get t0 with
  |none=>rw[hc0] at h;exact Ge D ok s r t c h
  |some c0=>
   rw[hc0] at h
   have key:(BR ((t0,c0)::Bw D ok s r) t=some c∧∀i,BD D t0=some i→ok i=true)∨BR (Bw D ok s r) t=some c:=by
    simp only at h
    cases hm:BD D t0 with
    |none=>rw[hm] at h;exact .inl ⟨by simpa using h,fun i hi=>by cases hi⟩
    |some i=>
     rw[hm] at h
     simp only at h
     split at h
     ·rename_i hb;exact .inl ⟨h,fun i hi=>by cases hi;exact hb⟩
     ·exact .inr h
   rcases key with⟨h1,h2⟩|h1
   ·rw[G7] at h1
    split at h1
    ·rename_i e
     subst e
     cases h1
     exact⟨hc0,h2⟩
    ·exact Ge D ok s r t c h1
   ·exact Ge D ok s r t c h1
theorem Pt {S:DS}{ops:Array Oper}(hn:Ed (ops.toList.filterMap (·.dst))=true){ok:Nat→Bool}{R:Nat}{CM:List Tmp}{t:Tmp}{c:AC}(h:(S.masked (Au 0 ops.toList) ok R CM).tmps.get t=some c):
  S.tmps.get t=some c∧∀(i:Nat) (o:Oper),ops[i]? =some o→o.dst=some t→ok i=true:=by
 have h':BR (Bw (Au 0 ops.toList) ok S.tmps CM) t=some c:=by
  simp only[DS.masked,AQ.get] at h
  cases hx:BR (Bw (Au 0 ops.toList) ok S.tmps CM) t with
  |none=>rw[hx] at h;simp[Tr.get] at h
  |some d=>rw[hx] at h;exact h
 obtain⟨h1,h2⟩:=Ge _ _ _ _ _ _ h'
 refine⟨h1,fun i o ho hd=>h2 i ?_⟩
 have:=OP ops.toList 0 t i o (fun i j oi oj a b c d=>Ch hn (by simpa using a) (by simpa using b) c d) (by simpa using ho) hd
 simpa using this
section
variable {P:Program}{T:Tab}{n n':Nat}{ρ ρ':Nat→Option Nat}{m m':Mem}{w w':World}
structure Lp (ρ :Nat→Option Nat) (m:Mem) (ρ':Nat→Option Nat) (m':Mem):Prop where
 at':∀id,m.at id≠ .pad→m'.at id=m.at id
 rho:∀id,m.at id≠ .pad→ ρ' id= ρ id
theorem Lp.safe (h:Lp ρ m ρ' m'){b off:Nat}(hs:Ai T ρ' m' w b off):Ai T ρ m w b off:=by
 refine⟨hs.1,hs.2.1,fun id=>?_⟩
 by_cases hp:m.at id= .pad
 ·rw[hp];trivial
 ·have:=hs.2.2 id
  rw[h.at' id hp,h.rho id hp] at this
  exact this
mutual
theorem AB.back (h:Lp ρ m ρ' m'):∀(c:AC) (v0 v:Value) (w0:World),AB T n ρ m w0 c v0→AB T n' ρ' m' w c v→AB T n ρ m w c v
 | .any,_,_,_,_,_=>trivial
 | .anyc,_,_,_,_,hh=>hh
 | .on _ a,v0,v,w0,h0,hh=>⟨h0.1,fun hc=>AB.back h a v0 v w0 (h0.2 hc) (hh.2 hc)⟩
 | .gd _ a,v0,v,w0,h0,hh=>⟨h0.1,fun hc=>AB.back h a v0 v w0 (h0.2.1 hc) (hh.2.1 hc),hh.2.2⟩
 | .cb _,_,_,_,_,hh=>hh
 | .b _,_,_,_,h0,hh=>⟨h0.1,hh.2⟩
 | .nb _,_,_,_,h0,hh=>⟨h0.1,hh.2⟩
 | .ci _ _,_,_,_,_,hh=>hh
 | .i _ _ _ _,_,_,_,h0,hh=>⟨h0.1,hh.2⟩
 | .cv _,_,_,_,_,hh=>hh
 | .v _,_,_,_,h0,hh=>⟨h0.1,hh.2⟩
 | .s _,_,_,_,h0,hh=>⟨h0.1,hh.2⟩
 | .ptr id off,v0,v,w0,⟨b0,_,_,h3⟩,⟨b,k1,k2,_⟩=>⟨b,by rw[←h.rho id (BV h3)];exact k1,k2,h3⟩
 | .pix id base stride cnt x plus,v0,v,w0,⟨h0,b0,j0,_,_,_,_,_,h3⟩,⟨_,b,j,k1,k2,k3,k4,k5,_⟩=>⟨h0,b,j,by rw[←h.rho id (BV h3)];exact k1,k2,k3,k4,k5,h3⟩
 | .ro x ks,v0,v,w0,h0,⟨_,k1⟩=>⟨h0.1,AR.mono (fun _ _ hs=>⟨h.safe hs,rfl⟩) (.list ks) (T x) v k1⟩
 | .rp x t off ks,v0,v,w0,h0,⟨_,j,b,o,us,k2,k3,k4,k5,k6⟩=>⟨h0.1,j,b,o,us,k2,k3,k4,k5,AW.mono (fun _ _ hs=>⟨h.safe hs,rfl⟩) _ _ _ _ k6⟩
 | .vec id x ks,v0,v,w0,⟨h1,h2,_,_⟩,⟨_,_,k3,k4⟩=>⟨h1,h2,AR.mono (fun _ _ hs=>⟨h.safe hs,rfl⟩) (.list ks) (T x) v k3,fun ks' e he=>by
   have:=k4 ks' e (by rw[h.at' id h2];exact he)
   unfold Qr at this⊢
   rw[h.rho id h2] at this
   exact this⟩
 | .fn f first cap,v0,v,w0,⟨vs0,us0,_,a1,a2⟩,⟨vs,us,k1,k2,k3⟩=>⟨vs,us,k1,AD.back h first vs0 vs w0 a1 k2,AD.back h cap us0 us w0 a2 k3⟩
 | .sel x alts,v0,v,w0,⟨h0,j0,a1,_,a3⟩,⟨_,j,k1,k2,k3⟩=>⟨h0,j,k1,k2,by
   have e:j0=j:=by rw[a1] at k1;injection k1
   subst e
   exact Ah.back h alts j0.toNat v0 v w0 a3 k3⟩
 | .yl id,v0,v,w0,⟨b0,_,_,h3⟩,⟨b,k1,k2,_⟩=>⟨b,by rw[←h.rho id (BV h3)];exact k1,k2,h3⟩
 | .asl id off len,v0,v,w0,⟨b0,_,_,h3⟩,⟨b,k1,k2,_⟩=>⟨b,by rw[←h.rho id (BV h3)];exact k1,k2,h3⟩
 | .rsv id x ks,v0,v,w0,⟨h1,h2,h4,_,_⟩,⟨_,_,_,k3,k4⟩=>⟨h1,h2,h4,k3,fun ks' e he=>by
   have:=k4 ks' e (by rw[h.at' id h2];exact he)
   unfold Pe at this⊢
   rw[h.rho id h2] at this
   exact this⟩
 | .mr id y,v0,v,w0,⟨⟨h1,h2⟩,_⟩,⟨_,j,a,cap,k1,k2,k3,k4,k5⟩=>⟨⟨h1,h2⟩,j,a,cap,k1,k2,k3,k4,fun x ks e he=>by
   have:=k5 x ks e (by rw[h.at' id h2];exact he)
   unfold lQ at this⊢
   rw[h.rho id h2] at this
   exact this⟩
 | .mp id y t sz off,v0,v,w0,⟨⟨h1,h1',h2⟩,_⟩,⟨_,j,L,b,k1,k2,k3,k4,k5⟩=>⟨⟨h1,h1',h2⟩,j,L,b,k1,k2,k3,k4,fun x ks e he=>by
   have:=k5 x ks e (by rw[h.at' id h2];exact he)
   rw[h.rho id h2] at this
   exact this⟩
 | .mv id,v0,v,w0,⟨b0,_,_,h3⟩,⟨b,k1,k2,_⟩=>⟨b,by rw[←h.rho id (BV h3)];exact k1,k2,h3⟩
 | .agg l,v0,v,w0,⟨vs0,_,a1⟩,⟨vs,k1,k2⟩=>⟨vs,k1,AD.back h l vs0 vs w0 a1 k2⟩
 | .tup l,v0,v,w0,⟨vs0,_,a1⟩,⟨vs,k1,k2⟩=>⟨vs,k1,AD.back h l vs0 vs w0 a1 k2⟩
theorem AD.back (h:Lp ρ m ρ' m'):∀(l:List AC) (vs0 vs:List Value) (w0:World),AD T n ρ m w0 l vs0→AD T n' ρ' m' w l vs→AD T n ρ m w l vs
 |[],_,_,_,_,hh=>hh
 |c::l,vs0,vs,w0,⟨u0,us0,_,a1,a2⟩,⟨u,us,k1,k2,k3⟩=>⟨u,us,k1,AB.back h c u0 u w0 a1 k2,AD.back h l us0 us w0 a2 k3⟩
theorem Ah.back (h:Lp ρ m ρ' m'):∀(l:List AC) (j:Nat) (v0 v:Value) (w0:World),Ah T n ρ m w0 l j v0→Ah T n' ρ' m' w l j v→Ah T n ρ m w l j v
 |[],_,_,_,_,h0,_=>h0.elim
 |c::_,0,v0,v,w0,h0,hh=>AB.back h c v0 v w0 h0 hh
 |_::l,j+1,v0,v,w0,h0,hh=>Ah.back h l j v0 v w0 h0 hh
end
mutual
theorem AB.backF (h:Lp ρ m ρ' m'):∀(c:AC) (v:Value),(AC.free c=true∨∀id,m'.at id≠ .pad→m.at id≠ .pad)→AB T n ρ' m' w c v→AB T n ρ m w c v
 | .any,_,_,_=>trivial
 | .anyc,_,_,hh=>hh
 | .on _ a,v,hf,hh=>⟨hh.1,fun hc=>AB.backF h a v (hf.imp (fun q=>by simpa [AC.free] using q) id) (hh.2 hc)⟩
 | .gd _ a,v,hf,hh=>⟨hh.1,fun hc=>AB.backF h a v (hf.imp (fun q=>by simpa [AC.free] using q) id) (hh.2.1 hc),hh.2.2⟩
 | .cb _,_,_,hh=>hh
 | .b _,_,_,hh=>hh
 | .nb _,_,_,hh=>hh
 | .ci _ _,_,_,hh=>hh
 | .i _ _ _ _,_,_,hh=>hh
 | .cv _,_,_,hh=>hh
 | .v _,_,_,hh=>hh
 | .s _,_,_,hh=>hh
 | .ptr id off,v,hf,⟨b,k1,k2,k3⟩=>by
  have hp:=hf.resolve_left (by simp[AC.free]) id (BV k3)
  exact⟨b,by rw[←h.rho id hp];exact k1,k2,by rw[←h.at' id hp];exact k3⟩
 | .pix id base stride cnt x plus,v,hf,⟨h0,b,j,k1,k2,k3,k4,k5,k6⟩=>by
  have hp:=hf.resolve_left (by simp[AC.free]) id (BV k6)
  exact⟨h0,b,j,by rw[←h.rho id hp];exact k1,k2,k3,k4,k5,by rw[←h.at' id hp];exact k6⟩
 | .ro x ks,v,_,⟨h0,k1⟩=>⟨h0,AR.mono (fun _ _ hs=>⟨h.safe hs,rfl⟩) (.list ks) (T x) v k1⟩
 | .rp x t off ks,v,_,⟨h0,j,b,o,us,k2,k3,k4,k5,k6⟩=>⟨h0,j,b,o,us,k2,k3,k4,k5,AW.mono (fun _ _ hs=>⟨h.safe hs,rfl⟩) _ _ _ _ k6⟩
 | .vec id x ks,v,hf,⟨k1,k2,k3,k4⟩=>by
  have hp:=hf.resolve_left (by simp[AC.free]) id k2
  refine⟨k1,hp,AR.mono (fun _ _ hs=>⟨h.safe hs,rfl⟩) (.list ks) (T x) v k3,fun ks' e he=>?_⟩
  have:=k4 ks' e (by rw[h.at' id hp];exact he)
  unfold Qr at this⊢
  rw[h.rho id hp] at this
  exact this
 | .fn f first cap,v,hf,⟨vs,us,k1,k2,k3⟩=>⟨vs,us,k1,AD.backF h first vs (hf.imp (fun hh=>by simp only[AC.free,Bool.and_eq_true] at hh;exact hh.1) (fun hh=>hh)) k2,
   AD.backF h cap us (hf.imp (fun hh=>by simp only[AC.free,Bool.and_eq_true] at hh;exact hh.2) (fun hh=>hh)) k3⟩
 | .sel x alts,v,hf,⟨h0,j,k1,k2,k3⟩=>⟨h0,j,k1,k2,Ah.backF h alts j.toNat v (hf.imp (fun hh=>by simpa [AC.free] using hh) (fun hh=>hh)) k3⟩
 | .yl id,v,hf,⟨b,k1,k2,k3⟩=>by
  have hp:=hf.resolve_left (by simp[AC.free]) id (BV k3)
  exact⟨b,by rw[←h.rho id hp];exact k1,k2,by rw[←h.at' id hp];exact k3⟩
 | .asl id off len,v,hf,⟨b,k1,k2,k3⟩=>by
  have hp:=hf.resolve_left (by simp[AC.free]) id (BV k3)
  exact⟨b,by rw[←h.rho id hp];exact k1,k2,by rw[←h.at' id hp];exact k3⟩
 | .rsv id x ks,v,hf,⟨k1,k2,k5,k3,k4⟩=>by
  have hp:=hf.resolve_left (by simp[AC.free]) id k2
  refine⟨k1,hp,k5,k3,fun ks' e he=>?_⟩
  have:=k4 ks' e (by rw[h.at' id hp];exact he)
  unfold Pe at this⊢
  rw[h.rho id hp] at this
  exact this
 | .mr id y,v,hf,⟨⟨h1,h2⟩,j,a,cap,k1,k2,k3,k4,k5⟩=>by
  have hp:=hf.resolve_left (by simp[AC.free]) id h2
  refine⟨⟨h1,hp⟩,j,a,cap,k1,k2,k3,k4,fun x ks e he=>?_⟩
  have:=k5 x ks e (by rw[h.at' id hp];exact he)
  unfold lQ at this⊢
  rw[h.rho id hp] at this
  exact this
 | .mp id y t sz off,v,hf,⟨⟨h1,h1',h2⟩,j,L,b,k1,k2,k3,k4,k5⟩=>by
  have hp:=hf.resolve_left (by simp[AC.free]) id h2
  refine⟨⟨h1,h1',hp⟩,j,L,b,k1,k2,k3,k4,fun x ks e he=>?_⟩
  have:=k5 x ks e (by rw[h.at' id hp];exact he)
  rw[h.rho id hp] at this
  exact this
 | .mv id,v,hf,⟨b,k1,k2,k3⟩=>by
  have hp:=hf.resolve_left (by simp[AC.free]) id (BV k3)
  exact⟨b,by rw[←h.rho id hp];exact k1,k2,by rw[←h.at' id hp];exact k3⟩
 | .agg l,v,hf,⟨vs,k1,k2⟩=>⟨vs,k1,AD.backF h l vs (hf.imp (fun hh=>by simpa [AC.free] using hh) (fun hh=>hh)) k2⟩
 | .tup l,v,hf,⟨vs,k1,k2⟩=>⟨vs,k1,AD.backF h l vs (hf.imp (fun hh=>by simpa [AC.free] using hh) (fun hh=>hh)) k2⟩
theorem AD.backF (h:Lp ρ m ρ' m'):∀(l:List AC) (vs:List Value),(AC.freeL l=true∨∀id,m'.at id≠ .pad→m.at id≠ .pad)→AD T n ρ' m' w l vs→AD T n ρ m w l vs
 |[],_,_,hh=>hh
 |c::l,vs,hf,⟨u,us,k1,k2,k3⟩=>⟨u,us,k1,AB.backF h c u (hf.imp (fun hh=>by simp only[AC.freeL,Bool.and_eq_true] at hh;exact hh.1) (fun hh=>hh)) k2,
   AD.backF h l us (hf.imp (fun hh=>by simp only[AC.freeL,Bool.and_eq_true] at hh;exact hh.2) (fun hh=>hh)) k3⟩
theorem Ah.backF (h:Lp ρ m ρ' m'):∀(l:List AC) (j:Nat) (v:Value),(AC.freeL l=true∨∀id,m'.at id≠ .pad→m.at id≠ .pad)→Ah T n ρ' m' w l j v→Ah T n ρ m w l j v
 |[],_,_,_,hh=>hh.elim
 |c::_,0,v,hf,hh=>AB.backF h c v (hf.imp (fun hh=>by simp only[AC.freeL,Bool.and_eq_true] at hh;exact hh.1) (fun hh=>hh)) hh
 |_::l,j+1,v,hf,hh=>Ah.backF h l j v (hf.imp (fun hh=>by simp only[AC.freeL,Bool.and_eq_true] at hh;exact hh.2) (fun hh=>hh)) hh
end
theorem AH.tok_lt (hm:AH T n ρ m w){id x:Nat}{ks:List Kd}{e:TypeId}(hx:m.at id= .tok x ks e):x < n:=by
 have:=hm.blk id
 rw[hx] at this
 exact this.1
theorem AH.row_lt (hm:AH T n ρ m w){id x y:Nat}{ks:List Kd}{e:TypeId}(hx:m.at id= .mrow x y ks e):x < n∧y < n:=by
 have:=hm.blk id
 rw[hx] at this
 exact this.1
theorem AJ.same (hs:AJ T n ρ m w ρ' m' w')(hm:AH T n ρ m w)(hk:∀id,m.at id≠ .pad→m'.at id=m.at id):Lp ρ m ρ' m' where
 at':=hk
 rho:=fun id hp=>by
  cases hx:m.at id with
  |pad=>exact absurd hx hp
  |gone=>exact (hs.rho id (by rw[hx];rfl)).1
  |cells l e=>exact (hs.rho id (by rw[hx];rfl)).1
  |lp x st=>exact (hs.rho id (by rw[hx];rfl)).1
  |mapb x kk ka vk va=>exact (hs.rho id (by rw[hx];rfl)).1
  |mrow x y ks e=>
   rcases hs.row id x y ks e hx with h2|⟨x',y',ks',h2,_,⟨_,h3,_⟩|⟨h3,_⟩⟩
   ·rw[hk id hp,hx] at h2;cases h2
   ·exact h3
   ·rw[hk id hp,hx] at h2
    injection h2 with h4 h5
    have:=(hm.row_lt hx).2
    omega
  |tok x ks e=>
   rcases hs.tok id x ks e hx with⟨_,h2,_⟩|⟨_,h2|⟨x',ks',e',h2,h3,_⟩⟩
   ·exact h2
   ·rw[hk id hp,hx] at h2;cases h2
   ·rw[hk id hp,hx] at h2
    injection h2 with h4 h5
    have:=hm.tok_lt hx
    omega
theorem AJ.forget (hs:AJ T n ρ m w ρ' m' w')(hm:AH T n ρ m w)(hm':AH T n' ρ' m' w')(hk:∀id,m.at id≠ .pad→m'.at id=m.at id):AJ T n ρ m w ρ m w'∧AH T n ρ m w':=by
 have hsm:=hs.same hm hk
 refine⟨⟨hs.os,hs.tape,hs.output,hs.size,fun _ h=>h,fun _ h=>⟨rfl,h⟩,fun _ _ h=>h,fun id b hp ht _=>?_,hs.old,fun id x ks e hx=>?_,fun id x y ks e hx=>?_⟩,⟨fun id=>?_,hm.inj,fun b off hb=>hm.fr b off (Nat.le_trans hs.size hb)⟩⟩
 ·rw[hp] at ht;cases ht
 ·refine .inl ⟨hx,rfl,fun b hb=>?_⟩
  have hp:m.at id≠ .pad:=by rw[hx];exact fun h=>by cases h
  rcases hs.tok id x ks e hx with⟨_,_,h3⟩|⟨_,h2|⟨x',ks',e',h2,h3,_⟩⟩
  ·exact h3 b hb
  ·rw[hk id hp,hx] at h2;cases h2
  ·rw[hk id hp,hx] at h2
   injection h2 with h4 h5
   have:=hm.tok_lt hx
   omega
 ·have hp:m.at id≠ .pad:=by rw[hx];exact fun h=>by cases h
  rcases hs.row id x y ks e hx with h2|⟨x',y',ks',h2,_,⟨_,_,h5⟩|⟨h3,_⟩⟩
  ·rw[hk id hp,hx] at h2;cases h2
  ·exact .inr ⟨x,y,ks,hx,rfl,.inl ⟨rfl,rfl,h5⟩⟩
  ·rw[hk id hp,hx] at h2
   injection h2 with h4 h5
   have:=(hm.row_lt hx).2
   omega
 ·have h0:=hm.blk id
  by_cases hp:m.at id= .pad
  ·rw[hp];trivial
  ·have h1:=hm'.blk id
   rw[hk id hp] at h1
   cases hx:m.at id with
   |pad=>trivial
   |gone=>trivial
   |cells l e=>
    rw[hx] at h0 h1
    obtain⟨b0,vs0,_,_,a3⟩:=h0
    obtain⟨b,vs,k1,k2,k3⟩:=h1
    exact⟨b,vs,by rw[←hsm.rho id hp];exact k1,k2,AD.back hsm l vs0 vs w a3 k3⟩
   |tok x ks e=>
    rw[hx] at h0 h1
    obtain⟨a0,_⟩:=h0
    obtain⟨_,l,k1,k2⟩:=h1
    rw[hsm.rho id hp] at k2
    exact⟨a0,l,k1,k2⟩
   |mrow x y ks e=>
    rw[hx] at h0 h1
    obtain⟨a0,_⟩:=h0
    obtain⟨_,l,k1,k1',k1'',k2⟩:=h1
    rw[hsm.rho id hp] at k2
    refine⟨a0,l,k1,k1',k1'',?_⟩
    rcases k2 with k2|⟨b,vs,us,q1,q2,q3,q4⟩
    ·exact .inl k2
    ·exact .inr ⟨b,vs,us,q1,q2,BL.mono (fun _ _ hs=>⟨hsm.safe hs,rfl⟩) q3,q4⟩
   |mapb x kk ka vk va=>
    rw[hx] at h0 h1
    obtain⟨a0,_⟩:=h0
    obtain⟨_,l,b,es,cl,k1,k2,k3,k4,k5,k6,k7⟩:=h1
    rw[hsm.rho id hp] at k2
    refine⟨a0,l,b,es,cl,k1,k2,k3,k4,k5,fun i us e hl he=>?_,k7⟩
    obtain⟨u1,u2,q1,q2,q3⟩:=k6 i us e hl he
    exact⟨u1,u2,q1,j8.mono (fun _ _ hs=>⟨hsm.safe hs,rfl⟩) q2,j8.mono (fun _ _ hs=>⟨hsm.safe hs,rfl⟩) q3⟩
   |lp x st=>
    rw[hx] at h0 h1
    obtain⟨b0,q0,_,_,_,_,_,_,a7,j0,a8,_⟩:=h0
    obtain⟨b,q,k1,k2,k3,k4,k5,k6,k7,j,k8,k9⟩:=h1
    exact⟨b,q,by rw[←hsm.rho id hp];exact k1,k2,k3,k4,k5,k6,fun i c hc=>AB.back hsm c _ _ w (a7 i c hc) (k7 i c hc),j,AB.back hsm st _ _ w a8 k8,k9⟩
end
end Go.Eng
end
noncomputable section
namespace Go.Eng
open Go Go.RowKit
section
variable {P:Program}{T:Tab}{call:A8}{ys:Ys}{r:Option Nat}{kk:Nat}{ops:Array Oper}{pc:PC}
theorem G8 (tmps:AQ)(dst:Option Tmp)(c:AC):(DG tmps dst c).n=tmps.n:=by cases dst<;>simp[DG,AQ.set_n]
theorem AQ.get_set_ne (s:AQ){d t:Nat}(c:AC)(h:d≠t):(s.set d c).get t=s.get t:=by
 unfold AQ.set
 cases hd:Nat.blt d s.n with
 |false=>rfl
 |true=>simp only[cond_true,AQ.get,G7,if_neg h]
theorem OX (tmps:AQ){dst:Option Tmp}{t:Nat}(c:AC)(h:dst≠some t):(DG tmps dst c).get t=tmps.get t:=by
 cases dst with
 |none=>rfl
 |some d=>exact AQ.get_set_ne _ _ (fun e=>h (by rw[e]))
theorem MV {s s':RS}{o:Oper}(h:Ck P call ys ops pc s o=some s')(hf:BK o.op=true){ρ :Nat→Option Nat}{a:Act}{w:World}(hA:Agr T s'.g)(hob:An T s'.g)(hpc:pcv T pc)(hk:BJ T s.g pc)(hi:Bq T ρ ops s a w):s'.mem=s.mem:=by
 unfold Ck at h
 simp only[Option.bind_eq_bind,Option.bind_eq_some_iff] at h
 obtain⟨⟨run,s1⟩,hg,h⟩:=h
 obtain⟨gg1,gg2,gg3⟩:=Gh hg
 simp only at h
 split at h
 ·cases h
 split at h
 ·cases h;exact gg3
 ·rename_i pc' imp
  split at h
  ·rename_i f args ts ho
   rw[ho] at hf;cases hf
  ·simp only[Option.bind_eq_some_iff] at h
   obtain⟨rr,hr,h⟩:=h
   cases h;exact gg3
  ·simp only[Option.bind_eq_some_iff] at h
   obtain⟨rr,hr,h⟩:=h
   split at h
   ·cases h
    have hA1:Agr T ((s1.g.pushAll rr.us).needAll pc' rr.ps):=hA
    obtain⟨e1,e2,_,hi1,_,e4⟩:=Lo hg (hA1.of ((AP.push _ _).trans (AP.need _ _ _))) hpc hk hi
    obtain⟨f1,f2,f3,f4,f5⟩:=e4 pc' [] rfl
    have:=lW hf hr hA1.need.new (An.need hob (f4 rfl)) hi1.rel.mem (GK hi1.rel (fun c hc=>by cases hc))
    exact this.trans gg3
   ·first
    |(simp only[hf,if_true] at h;cases h;exact gg3)
    |(split at h<;>cases h<;>exact gg3)
theorem IK {R j:Nat}{o:Oper}{S S':DS}{D:List (Tmp × Nat)}(h:JN P call ys ops D pc R j o S=some S'):
  ∃s' c,Ck P call ys ops pc (S.masked D R.testBit R (Bl ops o)) o=some s'∧S'=⟨DG S.tmps o.dst c,S.mem,s'.g,(Fo s' (FT R S.gls).length).map (fun e=>(j,e))++S.gls⟩∧
   (∀d,o.dst=some d→c=(s'.tmps.get d).getD .any)∧(BK o.op=true∨(∀id,S.mem.at id≠ .pad→s'.mem.at id=S.mem.at id)∧(AC.free c=true∨∀id,s'.mem.at id≠ .pad→S.mem.at id≠ .pad))∧
   ∀e∈Fo s' (FT R S.gls).length,e∈s'.gl∧R.testBit e.j=true:=by
 unfold JN at h
 simp only[Option.bind_eq_bind,Option.bind_eq_some_iff] at h
 obtain⟨s',hs,h⟩:=h
 split at h
 ·rename_i hc
  rw[Bool.and_eq_true,Bool.or_eq_true,Bool.and_eq_true,Bool.or_eq_true] at hc
  obtain⟨h1,h2⟩:=hc
  cases h
  refine⟨s',_,hs,rfl,fun d hd=>by rw[hd];rfl,?_,fun e he=>⟨List.mem_of_mem_take he,List.all_eq_true.1 h1 e he⟩⟩
  rcases h2 with h2|⟨h2,h3⟩
  ·exact .inl h2
  ·obtain⟨k1,k2⟩:=IV h2
   have hlt:∀id,S.mem.at id≠ .pad→id < S.mem.length:=fun id hp=>by
    rcases Nat.lt_or_ge id S.mem.length with h|h
    ·exact h
    ·exact absurd (Mem.at_ge h) hp
   refine .inr ⟨fun id hp=>k2 id (hlt id hp),?_⟩
   rcases h3 with h3|h3
   ·refine .inr fun id hp=>?_
    have hl:=Nat.eq_of_beq_eq_true h3
    rcases Nat.lt_or_ge id s'.mem.length with h|h
    ·rw[←k2 id (by omega)];exact hp
    ·exact absurd (Mem.at_ge h) hp
   ·exact .inl h3
 ·cases h
structure EL (P:Program) (T:Tab) (call:A8) (ys:Ys) (ops:Array Oper) (pc:PC) (h:Nat) (S:Nat→DS):Prop where
 le:h≤ops.size
 step:∀j o,j < h→ops[j]? =some o→∃R,(AU ops.toList [])[j]? =some R∧JN P call ys ops (Au 0 ops.toList) pc R j o (S j)=some (S (j+1))
 masks:FH (AU ops.toList []) 0=true
 nodup:Ed (ops.toList.filterMap (·.dst))=true
 tail:∀j r,(AU ops.toList [])[j]? =some r→h≤j→∀i,i < j→r.testBit i=true
 call:Ca P T call
 ys:CN P T.lp ys
 gl0:(S 0).gls=[]
theorem EL.op {h:Nat}{S:Nat→DS}(H:EL P T call ys ops pc h S){j:Nat}(hj:j < h):∃o,ops[j]? =some o:=
 ⟨_,Array.getElem?_eq_getElem (Nat.lt_of_lt_of_le hj H.le)⟩
structure jo (S S':DS):Prop where
 grow:AP S.g S'.g
 mem:S'.mem=S.mem
 len:S'.tmps.n=S.tmps.n
 gls:∀p∈S.gls,p∈S'.gls
theorem EL.later {h:Nat}{S:Nat→DS}(H:EL P T call ys ops pc h S)(i:Nat):∀k,i+k≤h→jo (S i) (S (i+k))∧
  ∀t,(∀j o,i≤j→j < i+k→ops[j]? =some o→o.dst≠some t)→(S (i+k)).tmps.get t=(S i).tmps.get t
 |0,_=>⟨⟨AP.refl _,rfl,rfl,fun _ h=>h⟩,fun _ _=>rfl⟩
 |k+1,hk=>by
  obtain⟨h1,h2⟩:=H.later i k (by omega)
  obtain⟨o,ho⟩:=H.op (j:=i+k) (by omega)
  obtain⟨R,hR,hs⟩:=H.step (i+k) o (by omega) ho
  obtain⟨s',c,a1,a2,a3,a45,a6⟩:=IK hs
  obtain⟨b1,_⟩:=JC (r:=none) (kk:=0) H.call H.ys a1
  have e:S (i+(k+1))=S (i+k+1):=rfl
  refine⟨⟨?_,?_,?_,?_⟩,fun t ht=>?_⟩
  ·rw[e,a2];exact h1.grow.trans b1
  ·rw[e,a2];exact h1.mem
  ·rw[e,a2]
   simp only
   rw[←h1.len,G8]
  ·intro p hp
   rw[e,a2]
   exact List.mem_append_right _ (h1.gls p hp)
  ·rw[e,a2]
   simp only
   rw[←h2 t (fun j o h1 h2=>ht j o h1 (by omega))]
   exact OX _ _ (ht (i+k) o (by omega) (by omega) ho)
theorem EL.gls {h:Nat}{S:Nat→DS}(H:EL P T call ys ops pc h S):∀k,k≤h→∀p∈(S k).gls,p.1 < k∧p∈(S (p.1+1)).gls
 |0,_,p,hp=>by rw[H.gl0] at hp;cases hp
 |k+1,hk,p,hp=>by
  obtain⟨o,ho⟩:=H.op (j:=k) (by omega)
  obtain⟨R,hR,hs⟩:=H.step k o (by omega) ho
  obtain⟨s',c,a1,a2,a3,a45,a6⟩:=IK hs
  have hp0:=hp
  rw[a2] at hp
  rcases List.mem_append.1 hp with h1|h1
  ·obtain⟨e,he,rfl⟩:=List.mem_map.1 h1
   exact⟨Nat.lt_succ_self _,hp0⟩
  ·obtain⟨q1,q2⟩:=H.gls k (by omega) p h1
   exact⟨by omega,q2⟩
structure JU (T:Tab) (ops:Array Oper) (h:Nat) (S:Nat→DS) (listed:Array Bool) (ρ :Nat→Option Nat) (a:Act) (w:World):Prop where
 size:listed.size=ops.size
 closed:K5 ops listed
 only:∀i,listed.getD i false=true→i < h
 defers:DU T.base ρ (S 0).mem w a.defers
 asize:a.tmps.size=(S 0).tmps.n
 mem:AH T (S 0).g.n ρ (S 0).mem w
 init:∀t c,(S 0).tmps.get t=some c→(∀i o,ops[i]? =some o→o.dst=some t→listed.getD i false=false)→AB T (S 0).g.n ρ (S 0).mem w c (a.tmps.getD t undef)
 facts:∀i o d c,listed.getD i false=true→ops[i]? =some o→o.dst=some d→(S (i+1)).tmps.get d=some c→AB T (S (i+1)).g.n ρ (S 0).mem w c (a.tmps.getD d undef)
 gfacts:∀p∈(S h).gls,listed.getD p.1 false=true→Eh T ops (S (p.1+1)).g.n a p.2∧listed.getD p.2.j false=true
variable {h:Nat}{S:Nat→DS}{listed:Array Bool}{ρ :Nat→Option Nat}{a:Act}{w:World}
theorem JU.val (H:EL P T call ys ops pc h S)(I:JU T ops h S listed ρ a w){k:Nat}(hk:k≤h){t:Nat}{c:AC}(hc:(S k).tmps.get t=some c)
  (hl:∀i o,ops[i]? =some o→o.dst=some t→listed.getD i false=true∧i < k∨listed.getD i false=false∧k≤i):AB T (S k).g.n ρ (S 0).mem w c (a.tmps.getD t undef):=by
 by_cases hex:∃i o,ops[i]? =some o∧o.dst=some t∧i < k
 ·obtain⟨i,o,ho,hd,hik⟩:=hex
  rcases hl i o ho hd with⟨h1,_⟩|⟨_,h2⟩
  ·obtain⟨l1,l2⟩:=H.later (i+1) (k - (i+1)) (by omega)
   rw[show i+1+(k - (i+1))=k by omega] at l1 l2
   have:=l2 t (fun j o' hj1 hj2 ho' hd'=>by
    have:=Ch H.nodup ho ho' hd hd'
    omega)
   rw[this] at hc
   exact (I.facts i o t c h1 ho hd hc).up0 l1.grow.n
  ·omega
 ·obtain⟨l1,l2⟩:=H.later 0 k (by omega)
  rw[Nat.zero_add] at l1 l2
  have:=l2 t (fun j o' hj1 hj2 ho' hd'=>hex ⟨j,o',ho',hd',by omega⟩)
  rw[this] at hc
  refine (I.init t c hc fun i o ho hd=>?_).up0 l1.grow.n
  rcases hl i o ho hd with⟨_,h2⟩|⟨h1,_⟩
  ·exact absurd ⟨i,o,ho,hd,h2⟩ hex
  ·exact h1
theorem JU.masked {CM:List Tmp}(H:EL P T call ys ops pc h S)(I:JU T ops h S listed ρ a w){j R:Nat}(hj:j < h)(hR:(AU ops.toList [])[j]? =some R)(hlR:∀i,R.testBit i=true→listed.getD i false=true):
  Bq T ρ ops ((S j).masked (Au 0 ops.toList) R.testBit R CM) a w:=by
 obtain⟨l1,_⟩:=H.later 0 j (by omega)
 rw[Nat.zero_add] at l1
 have hlt:=EF _ 0 H.masks j R hR
 refine⟨⟨(by simp only[DS.masked];rw[l1.mem];exact I.defers),?_,fun t c hc=>?_,?_⟩,fun e he=>?_⟩
 ·simp only[DS.masked]
  rw[I.asize,l1.len]
 ·obtain⟨h1,h2⟩:=Pt (R:=R) H.nodup hc
  simp only[DS.masked]
  rw[l1.mem]
  refine I.val H (by omega) h1 fun i o ho hd=> .inl ?_
  have hb:=h2 i o ho hd
  exact⟨hlR i hb,by have:=hlt i hb;omega⟩
 ·simp only[DS.masked]
  rw[l1.mem]
  exact I.mem.mono l1.grow.n
 ·simp only[DS.masked,FT,List.mem_map,List.mem_filter] at he
  obtain⟨p,⟨hp,hb⟩,rfl⟩:=he
  have hlp:=hlR p.1 hb
  have hpj:p.1 < j:=by have:=hlt p.1 hb;omega
  obtain⟨l2,_⟩:=H.later j (h - j) (by omega)
  rw[show j+(h - j)=h by omega] at l2
  obtain⟨l3,_⟩:=H.later (p.1+1) (j - (p.1+1)) (by omega)
  rw[show p.1+1+(j - (p.1+1))=j by omega] at l3
  exact (I.gfacts p (l2.gls p hp) hlp).1.up l3.grow.n
theorem At (listed:Array Bool)(i j:Nat)(hi:i < listed.size):(listed.setIfInBounds i true).getD j false=if j=i then true else listed.getD j false:=by
 by_cases hij:j=i
 ·subst hij
  simp[Array.getD_eq_getD_getElem?,Array.getElem?_setIfInBounds,hi]
 ·rw[if_neg hij]
  simp only[Array.getD_eq_getD_getElem?,Array.getElem?_setIfInBounds]
  rw[if_neg (fun e=>hij e.symm)]
theorem C3 {dst:Option Tmp}{t:Nat}(h:dst≠some t)(v:Value):(a.put dst v).tmps.getD t undef=a.tmps.getD t undef:=by
 cases dst with
 |none=>rfl
 |some d=>
  simp only[Act.put,Array.getD_eq_getD_getElem?,Array.getElem?_setIfInBounds]
  rw[if_neg (fun e=>h (by rw[e]))]
theorem JU.comes (H:EL P T call ys ops pc h S)(hA:Agr T (S h).g)(hob:An T (S h).g)(hpc:pcv T pc)(hpk:BJ T (S 0).g pc)(I:JU T ops h S listed ρ a w){i:Nat}{o:Oper}(hi:i < h)(ho:ops[i]? =some o)
  (hun:listed.getD i false=false) (hready:∀e∈o.after,Region.binds .any e=true→listed.getD e.on false=true) {K:Act→World→Prop} {Q:Exit→Act→World→Prop}
  (hK:∀v w',JU T ops h S (listed.setIfInBounds i true) ρ (a.put o.dst v) w'→AJ T (S 0).g.n ρ (S 0).mem w ρ (S 0).mem w'→K (a.put o.dst v) w'):Co P r kk ops o a w K Q:=by
 obtain⟨R,hR,hs⟩:=H.step i o hi ho
 obtain⟨s',c,a1,a2,a3,a45,a6⟩:=IK hs
 obtain⟨b1,b2⟩:=JC (r:=r) (kk:=kk) H.call H.ys a1
 have hlR:=CC I.closed hR ho hready
 have hlt:=EF _ 0 H.masks i R hR
 obtain⟨l1,_⟩:=H.later 0 i (by omega)
 rw[Nat.zero_add] at l1
 obtain⟨l2,_⟩:=H.later (i+1) (h - (i+1)) (by omega)
 rw[show i+1+(h - (i+1))=h by omega] at l2
 have hg:(S (i+1)).g=s'.g:=by rw[a2]
 have hA1:Agr T s'.g:=by rw[←hg];exact hA.of l2.grow
 have hob1:An T s'.g:=by rw[←hg];exact hob.of l2.grow
 have hm0:(S i).mem=(S 0).mem:=l1.mem
 have hisz:i < listed.size:=by rw[I.size];exact (Array.getElem?_eq_some_iff.1 ho).1
 have hmask:=I.masked (CM:=Bl ops o) H hi hR hlR
 have hmem2:s'.mem=(S i).mem∨¬BK o.op=true:=by
  by_cases hf:BK o.op=true
  ·exact .inl (MV a1 hf hA1 hob1 hpc (hpk.grow l1.grow) hmask)
  ·exact .inr hf
 have a4:∀id,(S i).mem.at id≠ .pad→s'.mem.at id=(S i).mem.at id:=by
  rcases a45 with hf|h
  ·rcases hmem2 with h|h
   ·intro id _;rw[h]
   ·exact absurd hf h
  ·exact h.1
 have a5:AC.free c=true∨∀id,s'.mem.at id≠ .pad→(S i).mem.at id≠ .pad:=by
  rcases a45 with hf|h
  ·rcases hmem2 with h|h
   ·exact .inr fun id hp=>by rw[←h];exact hp
   ·exact absurd hf h
  ·exact h.2
 refine b2 hA1 hob1 hpc (hpk.grow l1.grow) ρ a w K Q hmask fun ρ' v w' r1 r2=>?_
 have r2':AJ T (S i).g.n ρ (S i).mem w ρ' s'.mem w':=r2
 have hmi:AH T (S i).g.n ρ (S i).mem w:=by rw[hm0];exact I.mem.mono l1.grow.n
 obtain⟨f1,f2⟩:=r2'.forget hmi r1.rel.mem a4
 have hsm:=r2'.same hmi a4
 have st:AJ T (S 0).g.n ρ (S 0).mem w ρ (S 0).mem w':=by rw[←hm0];exact f1.down l1.grow.n
 have stn:∀n,AJ T n ρ (S 0).mem w ρ (S 0).mem w':=fun n=>⟨st.os,st.tape,st.output,st.size,st.mlen,st.rho,st.untr,st.fresh,st.old,fun id x ks e hx=>by
  rcases st.tok id x ks e hx with h1|⟨_,h2|⟨x',ks',e',h2,h3,_⟩⟩
  ·exact .inl h1
  ·rw[hx] at h2;cases h2
  ·rw[hx] at h2
   injection h2 with h4 h5
   have:=I.mem.tok_lt hx
   omega,fun id x y ks e hx=>by
  rcases st.row id x y ks e hx with h2|⟨x',y',ks',h2,_,⟨_,_,h5⟩|⟨h3,_⟩⟩
  ·rw[hx] at h2;cases h2
  ·exact .inr ⟨x,y,ks,hx,rfl,.inl ⟨rfl,rfl,h5⟩⟩
  ·rw[hx] at h2
   injection h2 with h4 h5
   have:=(I.mem.row_lt hx).2
   omega⟩
 have hmem':AH T (S 0).g.n ρ (S 0).mem w':=by
  exact (AJ.forget (m':=s'.mem) (n':=s'.g.n) (by rw[←hm0];exact r2'.down l1.grow.n) I.mem r1.rel.mem (by rw[←hm0];exact a4)).2
 refine hK v w' ⟨by simp[I.size],?_,?_,?_,?_,hmem',?_,?_,?_⟩ st
 ·
  intro j oj hoj hlj e he hb
  rw[At _ _ _ hisz] at hlj⊢
  split
  ·rfl
  ·split at hlj
   ·rename_i hji
    subst hji
    rw[ho] at hoj;cases hoj
    exact hready e he hb
   ·exact I.closed j oj hoj hlj e he hb
 ·intro j hj
  rw[At _ _ _ hisz] at hj
  split at hj
  ·rename_i hji;rw[hji];exact hi
  ·exact I.only j hj
 ·have:=I.defers.on st
  cases o.dst<;>exact this
 ·have:=r1.rel.size
  rw[←I.asize]
  cases o.dst<;>simp[Act.put]
 ·
  intro t c0 hc hno
  have hne:o.dst≠some t:=fun hd=>by
   have:=hno i o ho hd
   rw[At _ _ _ hisz,if_pos rfl] at this
   cases this
  rw[C3 hne]
  refine AB.mono0 (stn _) (Nat.le_refl _) _ _ (I.init t c0 hc fun j oj hoj hd=>?_)
  have:=hno j oj hoj hd
  rw[At _ _ _ hisz] at this
  split at this
  ·cases this
  ·exact this
 ·
  intro j oj d c0 hlj hoj hd hc
  rw[At _ _ _ hisz] at hlj
  split at hlj
  ·rename_i hji
   subst hji
   rw[ho] at hoj;cases hoj
   rw[a2] at hc
   simp only[hd,DG] at hc
   rcases AQ.get_set _ _ _ _ hc with⟨_,_,hcc⟩|⟨hdn,hold⟩
   ·have hval:=r1.rel.at d
    simp only at hval
    have hc2:c=(s'.tmps.get d).getD .any:=a3 d hd
    rw[←hc2] at hval
    rw[hg,hcc,←hm0]
    exact AB.backF hsm _ _ a5 hval
   ·
    have hn:=hdn rfl
    have hnn:¬d < a.tmps.size:=by rw[I.asize,←l1.len];exact hn
    have hv:=I.val H (by omega) hold fun i' o' ho' hd'=>by
     have:=Ch H.nodup ho ho' hd hd'
     subst this
     exact .inr ⟨hun,Nat.le_refl _⟩
    have hput:(a.put o.dst v).tmps.getD d undef=a.tmps.getD d undef:=by
     rw[hd]
     simp only[Act.put,Array.getD_eq_getD_getElem?,Array.getElem?_setIfInBounds,if_true,if_neg hnn]
     rw[Array.getElem?_eq_none (Nat.le_of_not_lt hnn)]
    rw[hput,hg]
    exact AB.mono0 (stn _) b1.n _ _ hv
  ·rename_i hji
   have hne:o.dst≠some d:=fun hd'=>hji (Ch H.nodup hoj ho hd hd')
   rw[C3 hne]
   exact AB.mono0 (stn _) (Nat.le_refl _) _ _ (I.facts j oj d c0 hlj hoj hd hc)
 ·
  intro p hp hlp
  rw[At _ _ _ hisz] at hlp
  split at hlp
  ·rename_i hpi
   obtain⟨_,q2⟩:=H.gls h (Nat.le_refl _) p hp
   rw[hpi,a2] at q2
   rcases List.mem_append.1 q2 with h1|h1
   ·obtain⟨e,he,rfl⟩:=List.mem_map.1 h1
    obtain⟨u1,u2⟩:=a6 e he
    refine⟨?_,?_⟩
    ·rw[hg]
     exact r1.ges e u1
    ·rw[At _ _ _ hisz]
     split
     ·rfl
     ·exact hlR e.j u2
   ·have:=(H.gls i (by omega) p h1).1
    omega
  ·rename_i hpi
   obtain⟨q1,q2⟩:=I.gfacts p hp hlp
   have hji:p.2.j≠i:=fun e=>by rw[e,hun] at q2;cases q2
   refine⟨⟨q1.lt,q1.bool,?_,q1.imp,q1.ne⟩,by rw[At _ _ _ hisz,if_neg hji];exact q2⟩
   have hy:yielded ops (a.put o.dst v).tmps p.2.j=yielded ops a.tmps p.2.j:=by
    cases hd:o.dst with
    |none=>rfl
    |some d=>
     refine He ?_ v
     intro he
     cases hop:ops[p.2.j]? with
     |none=>rw[hop] at he;cases he
     |some op=>
      rw[hop] at he
      exact hji (Ch H.nodup hop ho he hd)
   rw[hy]
   exact q1.iff
end
end Go.Eng
end
noncomputable section
namespace Go.Eng
open Go Go.RowKit
section
variable {P:Program}{T:Tab}{call:A8}{ys:Ys}{r:Option Nat}{kk:Nat}{ops:Array Oper}{pc:PC}
theorem Mb {acc:List Nat}:∀(es:List Edge),∀e∈es,Region.binds .any e=true→(D4 acc es).testBit e.on=true
 |[],e,he,_=>by cases he
 |e0::es,e,he,hb=>by
  simp only[D4]
  cases he with
  |head=>
   rw[if_pos hb]
   simp only[show∀x y,Nat.lor x y=x ||| y from fun _ _=>rfl,Nat.testBit_or,Nat.testBit_two_pow]
   simp
  |tail _ he=>
   have:=Mb (acc:=acc) es e he hb
   split
   ·simp only[show∀x y,Nat.lor x y=x ||| y from fun _ _=>rfl,Nat.testBit_or,this,Bool.or_true]
   ·exact this
theorem OR:∀(l:List Oper) (pre:List Oper) (acc:List Nat),acc.length=pre.length→
  (∀(j r:Nat) (o:Oper),acc[j]? =some r→(pre++l)[j]? =some o→∀e∈o.after,Region.binds .any e=true→r.testBit e.on=true)→
  ∀(j r:Nat) (o:Oper),(AU l acc)[j]? =some r→(pre++l)[j]? =some o→∀e∈o.after,Region.binds .any e=true→r.testBit e.on=true
 |[],pre,acc,_,h=>h
 |o::l,pre,acc,hlen,h=>by
  simp only[AU]
  have e:pre++o::l=(pre++[o])++l:=by simp
  rw[e]
  refine OR l (pre++[o]) _ (by simp[hlen]) ?_
  intro j r o' hr ho'
  rw[List.getElem?_append] at hr
  split at hr
  ·exact h j r o' hr (by rw[e];exact ho')
  ·rename_i hj
   have hj2:j=acc.length:=by
    rcases Nat.lt_or_ge (j - acc.length) 1 with h1|h1
    ·omega
    ·rw[List.getElem?_eq_none (by simpa using h1)] at hr;cases hr
   subst hj2
   simp at hr
   subst hr
   have hoo:o'=o:=by
    rw[hlen] at ho'
    simp at ho'
    exact ho'.symm
   subst hoo
   exact fun e he hb=>Mb _ e (by simpa using he) hb
theorem OA (hm:FH (AU ops.toList []) 0=true){k:Nat}{o:Oper}(ho:ops[k]? =some o){e:Edge}(he:e∈o.after)(hb:Region.binds .any e=true):e.on < k:=by
 have hk:k < (AU ops.toList []).length:=by rw[CH];exact (Array.getElem?_eq_some_iff.1 ho).1
 have h1:=OR ops.toList [] [] rfl (fun j r o hr=>by simp at hr) k _ o (List.getElem?_eq_getElem hk) (by simpa using ho) e he hb
 have:=EF _ 0 hm k _ (List.getElem?_eq_getElem hk) e.on h1
 omega
theorem Fd {i:Nat}{o:Oper}(ho:ops[i]? =some o){a:Act}{w:World}{K:Act→World→Prop}{Q:Exit→Act→World→Prop}(h:Co P r kk ops o a w K Q):wpOpIn (fen r) kk P ops Q i K a w:=by
 unfold Co at h
 unfold wpOpIn
 simp only[ho]
 split
 ·rename_i hw;rw[if_pos hw] at h;exact h
 ·rename_i hw;rw[if_neg hw] at h;exact⟨fun _ _=>trivial,h⟩
theorem XD (hcall:Ca P T call)(hys:CN P T.lp ys)(hm:FH (AU ops.toList []) 0=true){h:Nat}(htail:∀j r,(AU ops.toList [])[j]? =some r→h≤j→∀i,i < j→r.testBit i=true):
  ∀{l:List Oper} {s s':RS},C9 P call ys ops pc l s=some s'→Agr T s'.g→An T s'.g→pcv T pc→BJ T s.g pc→
   ∀(k:Nat) (listed:Array Bool) ρ a w Q,h≤k→k+l.length=ops.size→(∀j,l[j]? =ops[k+j]?)→listed.size=ops.size→(∀j,listed.getD j false=true↔j < k)→K5 ops listed→Bq T ρ ops s a w→
   (∀ ρ' a' w',Bq T ρ' ops s' a' w'→AJ T s.g.n ρ s.mem w ρ' s'.mem w'→Q .normal a' w')→wpAnyIn (fen r) kk P .any ops Q l.length listed a w
 |[],s,s',hs,_,_,_,_,k,listed, ρ,a,w,Q,hk,hlen,hl,hsz,hlist,_,hi,hK=>by
  simp only[C9] at hs
  cases hs
  refine wpAnyIn_done ?_ (hK ρ a w hi (AJ.refl _ _ _ _ _)) _
  refine List.eq_nil_iff_forall_not_mem.2 fun i hi=>?_
  obtain⟨h1,o,ho,_⟩:=mem_ready.1 hi
  have:i < ops.size:=(Array.getElem?_eq_some_iff.1 ho).1
  have h2:=(hlist i).2 (by simp at hlen;omega)
  rw[Array.getD_eq_getD_getElem?] at h1 h2
  have hlt:i < listed.size:=by omega
  rw[Array.getElem?_eq_getElem hlt] at h1 h2
  simp only[Option.getD_some] at h1 h2
  rw[h1] at h2;cases h2
 |o::l,s,s',hs,hA,hob,hpc,hpk,k,listed, ρ,a,w,Q,hk,hlen,hl,hsz,hlist,hcl,hi,hK=>by
  simp only[C9,Option.bind_eq_bind,Option.bind_eq_some_iff] at hs
  obtain⟨s1,h1,h2⟩:=hs
  obtain⟨g1,k1⟩:=JC (r:=r) (kk:=kk) hcall hys h1
  have g2:=(KT (r:=r) (kk:=kk) hcall hys h2).1
  have ho:ops[k]? =some o:=by simpa using (hl 0).symm
  have hksz:k < listed.size:=by simp at hlen;omega
  have toF:∀i,listed.getD i true=false→listed.getD i false=false:=fun i h=>by
   rw[Array.getD_eq_getD_getElem?] at h⊢
   cases hx:listed[i]? with
   |none=>rfl
   |some b=>rw[hx] at h;exact h
  have only:∀i,i∈Region.ready .any ops listed→i=k:=fun i hir=>by
   obtain⟨q1,oi,q2,q3⟩:=mem_ready.1 hir
   have hge:k≤i:=by
    rcases Nat.lt_or_ge i k with h|h
    ·have:=(hlist i).2 h;rw[toF i q1] at this;cases this
    ·exact h
   have hisz:i < (AU ops.toList []).length:=by rw[CH];exact (Array.getElem?_eq_some_iff.1 q2).1
   rcases Nat.lt_or_ge k i with h|h
   ·have hb:=htail i _ (List.getElem?_eq_getElem hisz) (by omega) k h
    have:=CC hcl (List.getElem?_eq_getElem hisz) q2 q3 k hb
    have:=(hlist k).1 this
    omega
   ·omega
  have kready:k∈Region.ready .any ops listed→wpOpIn (fen r) kk P ops Q k (wpAnyIn (fen r) kk P .any ops Q l.length (listed.setIfInBounds k true)) a w:=fun hkr=>by
   obtain⟨_,ok,q2,q3⟩:=mem_ready.1 hkr
   rw[ho] at q2;cases q2
   refine Fd ho ?_
   refine k1 (hA.of g2) (hob.of g2) hpc hpk ρ a w _ Q hi fun ρ' v w' r1 r2=>?_
   refine XD hcall hys hm htail h2 hA hob hpc (hpk.grow g1) (k+1) _ ρ' _ w' Q (by omega) (by simp at hlen;omega) (fun j=>by have:=hl (j+1);simpa [Nat.add_assoc,Nat.add_comm 1 j] using this) (by simpa using hsz) (fun j=>?_) ?_ r1 fun ρ2 a2 w2 hi2 hs2=>?_
   ·rw[At _ _ _ hksz]
    split
    ·rename_i e;subst e;simp
    ·rename_i e;rw[hlist j];omega
   ·intro j oj hoj hlj e he hb
    rw[At _ _ _ hksz] at hlj⊢
    split
    ·rfl
    ·split at hlj
     ·rename_i e2
      rw[e2,ho] at hoj;cases hoj
      exact q3 e he hb
     ·exact hcl j oj hoj hlj e he hb
   ·exact hK ρ2 a2 w2 hi2 (r2.trans hi.rel.mem g1.n hs2)
  refine⟨fun hnil=>?_,fun i hir=>by have:=only i hir;subst this;exact kready hir⟩
  exfalso
  have:k∈Region.ready .any ops listed:=by
   refine mem_ready.2 ⟨?_,o,ho,fun e he hb=>?_⟩
   ·have h0:¬listed.getD k false=true:=fun h=>by have:=(hlist k).1 h;omega
    rw[Array.getD_eq_getD_getElem?,Array.getElem?_eq_getElem hksz] at h0⊢
    simpa using h0
   ·exact (hlist e.on).2 (OA hm ho he hb)
  rw[hnil] at this;cases this
def CQ (listed:Array Bool):Nat:=listed.toList.countP (fun b=> !b)
theorem Qb:∀(l:List Bool) (i:Nat),l[i]? =some false→(l.set i true).countP (fun b=> !b)+1=l.countP (fun b=> !b)
 |[],i,h=>by simp at h
 |b::l,0,h=>by simp at h;subst h;simp
 |b::l,i+1,h=>by
  have:=Qb l i (by simpa using h)
  simp only[List.set_cons_succ,List.countP_cons]
  omega
theorem Dx {listed:Array Bool}{i:Nat}(hi:i < listed.size)(h:listed.getD i false=false):CQ (listed.setIfInBounds i true)+1=CQ listed:=by
 unfold CQ
 rw[Array.toList_setIfInBounds]
 refine Qb _ i ?_
 rw[Array.getD_eq_getD_getElem?,Array.getElem?_eq_getElem hi] at h
 simp at h
 simp[hi,h]
theorem JL:∀(l:List Bool) (h:Nat),h≤l.length→(∀j,(l[j]?).getD false=true↔j < h)→l.countP (fun b=> !b)=l.length - h
 |[],h,_,_=>by simp
 |b::l,0,_,hl=>by
  have hb:b=false:=by
   have:=hl 0
   simpa using this
  subst hb
  have:=JL l 0 (Nat.zero_le _) (fun j=>by simpa using hl (j+1))
  simp[this]
 |b::l,h+1,hle,hl=>by
  have hb:b=true:=by
   have:=(hl 0).2 (Nat.succ_pos _)
   simpa using this
  subst hb
  have:=JL l h (by simpa using hle) (fun j=>by have:=hl (j+1);simpa using this)
  simp[this]
theorem FQ {listed:Array Bool}{h:Nat}(hle:h≤listed.size)(hl:∀j,listed.getD j false=true↔j < h):CQ listed=listed.size - h:=by
 unfold CQ
 rw[JL listed.toList h (by simpa using hle) (fun j=>by rw[←hl j,Array.getD_eq_getD_getElem?];simp)]
 simp
theorem JU.full {h:Nat}{S:Nat→DS}(H:EL P T call ys ops pc h S){listed:Array Bool}{ρ :Nat→Option Nat}{a:Act}{w:World}(I:JU T ops h S listed ρ a w)(hl:∀j,j < h→listed.getD j false=true):
  Bq T ρ ops ⟨(S h).tmps,(S h).mem,(S h).g,(S h).gls.map (·.2)⟩ a w:=by
 obtain⟨l1,_⟩:=H.later 0 h (by omega)
 rw[Nat.zero_add] at l1
 refine⟨⟨(by simp only;rw[l1.mem];exact I.defers),by rw[I.asize,l1.len],fun t c hc=>?_,?_⟩,fun e he=>?_⟩
 ·simp only
  rw[l1.mem]
  refine I.val H (Nat.le_refl _) hc fun i o ho hd=>?_
  rcases Nat.lt_or_ge i h with hi|hi
  ·exact .inl ⟨hl i hi,hi⟩
  ·refine .inr ⟨?_,hi⟩
   cases hx:listed.getD i false with
   |false=>rfl
   |true=>have:=I.only i hx;omega
 ·simp only
  rw[l1.mem]
  exact I.mem.mono l1.grow.n
 ·obtain⟨p,hp,rfl⟩:=List.mem_map.1 he
  have hlt:=(H.gls h (Nat.le_refl _) p hp).1
  obtain⟨l3,_⟩:=H.later (p.1+1) (h - (p.1+1)) (by omega)
  rw[show p.1+1+(h - (p.1+1))=h by omega] at l3
  exact (I.gfacts p hp (hl p.1 hlt)).1.up l3.grow.n
theorem fy {h:Nat}{S:Nat→DS}(H:EL P T call ys ops pc h S)(hA:Agr T (S h).g)(hob:An T (S h).g)(hpc:pcv T pc)(hpk:BJ T (S 0).g pc){Q:Exit→Act→World→Prop}{ρ :Nat→Option Nat}{w0:World}(hm0:AH T (S 0).g.n ρ (S 0).mem w0)
  (hK:∀(listed:Array Bool) a w,listed.size=ops.size→(∀j,listed.getD j false=true↔j < h)→K5 ops listed→Bq T ρ ops ⟨(S h).tmps,(S h).mem,(S h).g,(S h).gls.map (·.2)⟩ a w→
   AJ T (S 0).g.n ρ (S 0).mem w0 ρ (S 0).mem w→wpAnyIn (fen r) kk P .any ops Q (ops.size - h) listed a w):
  ∀(fuel:Nat) (listed:Array Bool) (a:Act) (w:World),JU T ops h S listed ρ a w→AJ T (S 0).g.n ρ (S 0).mem w0 ρ (S 0).mem w→CQ listed=fuel→wpAnyIn (fen r) kk P .any ops Q fuel listed a w:=by
 intro fuel
 induction fuel with
 |zero=>
  intro listed a w I st hu
  by_cases hall:∀j,j < h→listed.getD j false=true
  ·have hiff:∀j,listed.getD j false=true↔j < h:=fun j=>⟨I.only j,hall j⟩
   have hc:=FQ (by rw[I.size];exact H.le) hiff
   rw[hu,I.size] at hc
   have:=hK listed a w I.size hiff I.closed (I.full H hall) st
   rw[←hc] at this
   exact this
  ·exfalso
   simp only[Classical.not_forall] at hall
   obtain⟨j,hj,hlj⟩:=hall
   have:=Dx (listed:=listed) (i:=j) (by rw[I.size];exact Nat.lt_of_lt_of_le hj H.le) (by simpa using hlj)
   omega
 |succ fuel ih=>
  intro listed a w I st hu
  by_cases hall:∀j,j < h→listed.getD j false=true
  ·have hiff:∀j,listed.getD j false=true↔j < h:=fun j=>⟨I.only j,hall j⟩
   have hc:=FQ (by rw[I.size];exact H.le) hiff
   rw[hu,I.size] at hc
   have:=hK listed a w I.size hiff I.closed (I.full H hall) st
   rw[←hc] at this
   exact this
  ·simp only[Classical.not_forall] at hall
   obtain⟨j,hj,hlj⟩:=hall
   have hmin:∃j,j < h∧listed.getD j false=false∧∀i,i < j→listed.getD i false=true:=by
    have key:∀n,(∃j,j < n∧j < h∧listed.getD j false=false)→∃j,j < h∧listed.getD j false=false∧∀i,i < j→listed.getD i false=true:=by
     intro n
     induction n with
     |zero=>rintro⟨j,h1,_⟩;omega
     |succ n ihn=>
      rintro⟨j,h1,h2,h3⟩
      by_cases hx:∃j,j < n∧j < h∧listed.getD j false=false
      ·exact ihn hx
      ·have hjn:j=n:=by
        rcases Nat.lt_or_ge j n with h|h
        ·exact absurd ⟨j,h,h2,h3⟩ hx
        ·omega
       subst hjn
       refine⟨j,h2,h3,fun i hi=>?_⟩
       cases hli:listed.getD i false with
       |true=>rfl
       |false=>exact absurd ⟨i,hi,by omega,hli⟩ hx
    exact key (j+1) ⟨j,Nat.lt_succ_self _,hj,by simpa using hlj⟩
   obtain⟨j0,h0,hl0,hbelow⟩:=hmin
   have toF:∀i,listed.getD i true=false→listed.getD i false=false:=fun i h=>by
    rw[Array.getD_eq_getD_getElem?] at h⊢
    cases hx:listed[i]? with
    |none=>rfl
    |some b=>rw[hx] at h;exact h
   have hr0:j0∈Region.ready .any ops listed:=by
    obtain⟨o,ho⟩:=H.op h0
    refine mem_ready.2 ⟨?_,o,ho,fun e he hb=>hbelow e.on (OA H.masks ho he hb)⟩
    have hlt:j0 < listed.size:=by rw[I.size];exact Nat.lt_of_lt_of_le h0 H.le
    rw[Array.getD_eq_getD_getElem?,Array.getElem?_eq_getElem hlt] at hl0⊢
    simpa using hl0
   refine⟨(fun hnil=>by rw[hnil] at hr0;cases hr0),fun i hir=>?_⟩
   obtain⟨q1,o,q2,q3⟩:=mem_ready.1 hir
   have hiN:i < ops.size:=(Array.getElem?_eq_some_iff.1 q2).1
   have hih:i < h:=by
    rcases Nat.lt_or_ge i h with hh|hh
    ·exact hh
    ·have hisz:i < (AU ops.toList []).length:=by rw[CH];exact hiN
     have hb:=H.tail i _ (List.getElem?_eq_getElem hisz) hh j0 (by omega)
     have:=CC I.closed (List.getElem?_eq_getElem hisz) q2 q3 j0 hb
     rw[hl0] at this;cases this
   refine Fd q2 (I.comes H hA hob hpc hpk hih q2 (toF i q1) q3 fun v w' I' st'=>?_)
   refine ih _ _ w' I' (st.trans hm0 (Nat.le_refl _) st') ?_
   have:=Dx (listed:=listed) (i:=i) (by rw[I.size];exact hiN) (toF i q1)
   omega
end
end Go.Eng
end
noncomputable section
namespace Go.Eng
open Go Go.RowKit
section
variable {P:Program}{T:Tab}{call:A8}{ys:Ys}{r:Option Nat}{kk:Nat}{ops:Array Oper}{pc:PC}
theorem SB {ops:Array Oper}{pc:PC}{s s':RS}{o:Oper}(h:Ck P call ys ops pc s o=some s'):s'.tmps.n=s.tmps.n:=by
 unfold Ck at h
 simp only[Option.bind_eq_bind,Option.bind_eq_some_iff] at h
 obtain⟨⟨run,s1⟩,hg,h⟩:=h
 obtain⟨_,gg2,_⟩:=Gh hg
 rw[←gg2]
 simp only at h
 split at h
 ·cases h
 split at h
 ·cases h;exact G8 ..
 ·split at h
  ·simp only[Option.bind_eq_some_iff] at h
   obtain⟨⟨c,m,g⟩,_,h⟩:=h
   simp only at h
   split at h
   ·cases h;exact G8 ..
   ·split at h
    ·cases h;exact G8 ..
    ·split at h
     ·cases h;exact G8 ..
     ·cases h
  ·simp only[Option.bind_eq_some_iff] at h
   obtain⟨r,_,h⟩:=h
   cases h;exact G8 ..
  ·simp only[Option.bind_eq_some_iff] at h
   obtain⟨r,_,h⟩:=h
   split at h
   ·cases h;exact G8 ..
   ·split at h
    ·cases h;exact G8 ..
    ·cases h
theorem OM {D:List (Tmp × Nat)}:∀{l:List Oper} {Rs:List Nat} {j0:Nat} {S0 Sh:DS},heads P call ys ops D pc Rs l j0 S0=some Sh→
  ∃S:Nat→DS,S j0=S0∧S (j0+l.length)=Sh∧∀i o,l[i]? =some o→∃R,Rs[i]? =some R∧JN P call ys ops D pc R (j0+i) o (S (j0+i))=some (S (j0+i+1))
 |[],Rs,j0,S0,Sh,h=>by
  have h':some S0=some Sh:=by cases Rs<;>exact h
  cases h'
  exact⟨fun _=>S0,rfl,rfl,fun i o ho=>by simp at ho⟩
 |o::l,[],j0,S0,Sh,h=>by simp[heads] at h
 |o::l,R::Rs,j0,S0,Sh,h=>by
  simp only[heads,Option.bind_eq_bind,Option.bind_eq_some_iff] at h
  obtain⟨S1,h1,h2⟩:=h
  obtain⟨S,q1,q2,q3⟩:=OM h2
  refine⟨fun k=>if k=j0 then S0 else S k,by simp,?_,fun i o' ho'=>?_⟩
  ·simp only[List.length_cons]
   rw[if_neg (by omega),←q2]
   congr 1;omega
  ·cases i with
   |zero=>
    simp at ho'
    subst ho'
    refine⟨R,rfl,?_⟩
    simp only[Nat.add_zero,if_true]
    rw[if_neg (by omega),q1]
    exact h1
   |succ i=>
    obtain⟨R',hR',this⟩:=q3 i o' (by simpa using ho')
    refine⟨R',by simpa using hR',?_⟩
    simp only
    rw[if_neg (by omega),if_neg (by omega),show j0+(i+1)=j0+1+i by omega]
    exact this
theorem AJ.drawn (T:Tab)(n:Nat)(ρ :Nat→Option Nat)(m:Mem)(w:World)(d:Nat):AJ T n ρ m w ρ m { w with drawn:=d } where
 os:=rfl
 tape:=rfl
 output:=rfl
 size:=Nat.le_refl _
 mlen:=fun _ h=>h
 rho:=fun _ h=>⟨rfl,h⟩
 untr:=fun _ _ h=>h
 fresh:=fun id b h ht _=>by rw[h] at ht;cases ht
 old:=fun _ _ _=>rfl
 tok:=fun _ _ _ _ h=> .inl ⟨h,rfl,fun _ _=>rfl⟩
 row:=fun _ x y ks _ h=> .inr ⟨x,y,ks,h,rfl,.inl ⟨rfl,rfl,fun _ vs _ hv=>⟨vs,hv,rfl⟩⟩⟩
theorem AH.drawn {n:Nat}{ρ :Nat→Option Nat}{m:Mem}{w:World}(hm:AH T n ρ m w)(d:Nat):AH T n ρ m { w with drawn:=d }:=
 ⟨fun id=>BU.step (AJ.drawn T n ρ m w d) hm (Nat.le_refl _) rfl rfl (fun _ _=>rfl),hm.inj,hm.fr⟩
theorem df (hm:P.follows .mixedOrders=true)(hcall:Ca P T call)(hys:CN P T.lp ys){l:Loc}{g:G}{s':RS}(h:S7 P call ys ops pc l g=some s'):
  AP g s'.g∧s'.tmps.n=l.tmps.n∧(Agr T s'.g→An T s'.g→pcv T pc→BJ T g pc→∀id ρ a w Q,Rel T g.n ρ l a w→
   (∀ ρ' a' w',Bq T ρ' ops s' a' w'→AJ T g.n ρ l.mem w ρ' s'.mem w'→Q .normal a' w')→(Code.region id ops true).wpIn (fen r) kk P Q a w):=by
 unfold S7 at h
 simp only at h
 split at h
 ·rename_i hc
  rw[Bool.and_eq_true] at hc
  obtain⟨hmask,hnod⟩:=hc
  simp only[Option.bind_eq_bind,Option.bind_eq_some_iff] at h
  obtain⟨Sh,hh,ht⟩:=h
  obtain⟨t1,_,t3⟩:=JO (AU ops.toList []) 0 0 (Nat.le_refl _)
  rw[Nat.zero_add,CH] at t1
  generalize hdef:D1 (AU ops.toList []) 0 0=hd at*
  obtain⟨S,q1,q2,q3⟩:=OM hh
  have hlen:(ops.toList.take hd).length=hd:=by simp;omega
  rw[Nat.zero_add,hlen] at q2
  have H:EL P T call ys ops pc hd S:=by
   refine⟨t1,fun j o hj ho=>?_,hmask,hnod,fun j r hr hj i hi=>t3 j r hr (by omega) i (by omega),hcall,hys,by rw[q1]⟩
   obtain⟨R,hR,this⟩:=q3 j o (by rw[List.getElem?_take,if_pos hj];simpa using ho)
   rw[Nat.zero_add] at this
   exact⟨R,hR,this⟩
  obtain⟨l1,_⟩:=H.later 0 hd (by omega)
  rw[Nat.zero_add] at l1
  have g0:(S 0).g=g:=by rw[q1]
  have m0:(S 0).mem=l.mem:=by rw[q1]
  have tm0:(S 0).tmps=l.tmps:=by rw[q1]
  subst q2
  obtain⟨g2,k2⟩:=KT (r:=r) (kk:=kk) hcall hys ht
  refine⟨?_,?_,fun hA hob hpc hpk id ρ a w Q hR hK=>?_⟩
  ·rw[←g0];exact l1.grow.trans g2
  ·have:=(show s'.tmps.n=(S hd).tmps.n from by
    have key:∀{l:List Oper} {s s':RS},C9 P call ys ops pc l s=some s'→s'.tmps.n=s.tmps.n:=by
     intro l
     induction l with
     |nil=>intro s s' h;simp only[C9] at h;cases h;rfl
     |cons o l ih=>
      intro s s' h
      simp only[C9,Option.bind_eq_bind,Option.bind_eq_some_iff] at h
      obtain⟨s1,h1,h2⟩:=h
      rw[ih h2]
      exact SB h1
    exact key ht)
   rw[this,l1.len,tm0]
  ·have hAh:Agr T (S hd).g:=hA.of g2
   have hobh:An T (S hd).g:=hob.of g2
   refine wpIn_region_any hm ?_
   have hst:=AJ.drawn T (S 0).g.n ρ (S 0).mem w (w.drawn+1)
   have hm0:AH T (S 0).g.n ρ (S 0).mem { w with drawn:=w.drawn+1 }:=by rw[g0,m0];exact hR.mem.drawn _
   have hun:∀j,(Array.replicate ops.size false).getD j false=false:=fun j=>by
    rw[Array.getD_eq_getD_getElem?,Array.getElem?_replicate]
    split<;>rfl
   have I0:JU T ops hd S (Array.replicate ops.size false) ρ a { w with drawn:=w.drawn+1 }:=by
    refine⟨by simp,fun j o _ hj=>?_,fun i hi=>?_,(by rw[m0];exact hR.defers.on (AJ.drawn T g.n ρ l.mem w (w.drawn+1))),by rw[tm0];exact hR.size,hm0,fun t c hc _=>?_,fun i o d c hi=>?_,fun p _ hp=>?_⟩
    ·rw[hun] at hj;cases hj
    ·rw[hun] at hi;cases hi
    ·rw[tm0] at hc
     have:=hR.tmps t c hc
     rw[g0,m0]
     exact AB.mono0 (by rw[←g0,←m0];exact hst) (Nat.le_refl _) _ _ this
    ·rw[hun] at hi;cases hi
    ·rw[hun] at hp;cases hp
   have hcount:CQ (Array.replicate ops.size false)=ops.size:=by simp[CQ,List.countP_replicate]
   refine fy H hAh hobh hpc (by rw[g0];exact hpk) hm0 (fun listed a' w' e1 e2 e3 e4 e5=>?_) ops.size _ a _ I0 (AJ.refl _ _ _ _ _) hcount
   have hdl:(ops.toList.drop hd).length=ops.size - hd:=by simp
   have:=XD (r:=r) (kk:=kk) hcall hys hmask (fun j r hr hj i hi=>t3 j r hr (by omega) i (by omega)) ht hA hob hpc ((by rw[g0];exact hpk:BJ T (S 0).g pc).grow l1.grow) hd listed ρ a' w' Q (Nat.le_refl _) (by rw[hdl];omega)
    (fun j=>by simp) e1 e2 e3 e4 (fun ρ2 a2 w2 hi2 hs2=>?_)
   ·rw[hdl] at this;exact this
   ·refine hK ρ2 a2 w2 hi2 ?_
    rw[←g0,←m0]
    have s1:AJ T (S 0).g.n ρ (S 0).mem w ρ (S 0).mem w':=hst.trans (by rw[g0,m0];exact hR.mem) (Nat.le_refl _) e5
    have s2:AJ T (S hd).g.n ρ (S 0).mem w' ρ2 s'.mem w2:=by rw[←l1.mem];exact hs2
    exact s1.trans (by rw[g0,m0];exact hR.mem) l1.grow.n s2
 ·cases h
end
end Go.Eng
end
noncomputable section
namespace Go.Eng
open Go Go.RowKit
structure HT (T1 T2:Tab) (ρ :Nat→Option Nat) (m1 m2:Mem) (w:World) (nh nm:Nat):Prop where
 eq:∀x,x < nh→T2 x=T1 x
 safe:∀b off,Ai T1 ρ m1 w b off→Ai T2 ρ m2 w b off
 ptr:∀id,id < nm→(m1.at id).ptrOk=true→(m2.at id).ptrOk=true
 vec:∀id,id < nm→m1.at id≠ .pad→m2.at id≠ .pad∧∀x ks e,m2.at id= .tok x ks e→x < nh→∃ks1,m1.at id= .tok x ks1 e∧ks1.length=ks.length
 row:∀id,id < nm→m1.at id≠ .pad→m2.at id≠ .pad∧∀x y ks e,m2.at id= .mrow x y ks e→∃x1 ks1,m1.at id= .mrow x1 y ks1 e∧ks1.length=ks.length
theorem Be {a b:Nat}(h:Nat.blt a b=true):a < b:=by rwa [Nat.blt_eq] at h
section
variable {T1 T2:Tab}{ρ :Nat→Option Nat}{m1 m2:Mem}{w:World}{nh nm n1 n2:Nat}
theorem HT.kd (M:HT T1 T2 ρ m1 m2 w nh nm){k:Kd}{u:U}{v:Value}(h:AR (Ai T1 ρ m1 w) w k u v):AR (Ai T2 ρ m2 w) w k u v:=
 AR.mono (fun b off hs=>⟨M.safe b off hs,rfl⟩) k u v h
mutual
theorem AB.move (M:HT T1 T2 ρ m1 m2 w nh nm)(hn:nh≤n2):∀(c:AC) (v:Value),AC.lt nh nm c=true→AB T1 n1 ρ m1 w c v→AB T2 n2 ρ m2 w c v
 | .any,_,_,_=>trivial
 | .anyc,_,_,h=>h
 | .on c a,v,hl,h=>by
  simp only[AC.lt,Bool.and_eq_true] at hl
  have hc:=Be hl.1
  refine⟨Nat.lt_of_lt_of_le hc hn,fun ht=>AB.move M hn a v hl.2 (h.2 ?_)⟩
  rw[M.eq c hc] at ht;exact ht
 | .gd c a,v,hl,h=>by
  simp only[AC.lt,Bool.and_eq_true] at hl
  have hc:=Be hl.1
  refine⟨Nat.lt_of_lt_of_le hc hn,fun ht=>AB.move M hn a v hl.2 (h.2.1 ?_),fun ht=>h.2.2 ?_⟩
  ·rw[M.eq c hc] at ht;exact ht
  ·rw[M.eq c hc] at ht;exact ht
 | .cb _,_,_,h=>h
 | .b x,v,hl,h=>by
  have hx:=Be hl
  obtain⟨_,b,h1,h2⟩:=h
  exact⟨Nat.lt_of_lt_of_le hx hn,b,by rw[M.eq x hx];exact h1,h2⟩
 | .nb x,v,hl,h=>by
  have hx:=Be hl
  obtain⟨_,b,h1,h2⟩:=h
  exact⟨Nat.lt_of_lt_of_le hx hn,b,by rw[M.eq x hx];exact h1,h2⟩
 | .ci _ _,_,_,h=>h
 | .i k lo hi x,v,hl,h=>by
  have hx:=Be hl
  obtain⟨_,b,h1,h2⟩:=h
  exact⟨Nat.lt_of_lt_of_le hx hn,b,by rw[M.eq x hx];exact h1,h2⟩
 | .cv _,_,_,h=>h
 | .v x,v,hl,h=>by
  have hx:=Be hl
  exact⟨Nat.lt_of_lt_of_le hx hn,by rw[M.eq x hx];exact h.2.1,h.2.2⟩
 | .s x,v,hl,h=>by
  have hx:=Be hl
  obtain⟨_,b,h1,h2⟩:=h
  exact⟨Nat.lt_of_lt_of_le hx hn,b,by rw[M.eq x hx];exact h1,h2⟩
 | .ptr id off,v,hl,h=>by
  obtain⟨b,h1,h2,h3⟩:=h
  exact⟨b,h1,h2,M.ptr id (Be hl) h3⟩
 | .pix id base stride cnt x plus,v,hl,h=>by
  simp only[AC.lt,Bool.and_eq_true] at hl
  have hx:=Be hl.2
  obtain⟨_,b,j,h1,h2,h3,h4,h5,h6⟩:=h
  exact⟨Nat.lt_of_lt_of_le hx hn,b,j,h1,by rw[M.eq x hx];exact h2,h3,h4,h5,M.ptr id (Be hl.1) h6⟩
 | .ro x ks,v,hl,h=>by
  have hx:=Be hl
  exact⟨Nat.lt_of_lt_of_le hx hn,by rw[M.eq x hx];exact M.kd h.2⟩
 | .rp x t off ks,v,hl,h=>by
  simp only[AC.lt,Bool.and_eq_true] at hl
  have hx:=Be hl.1
  have ht:=Be hl.2
  obtain⟨_,j,b,o,us,h1,h2,h3,h4,h5⟩:=h
  refine⟨⟨Nat.lt_of_lt_of_le hx hn,Nat.lt_of_lt_of_le ht hn⟩,j,b,o,us,by rw[M.eq t ht];exact h1,h2,by rw[M.eq x hx];exact h3,h4,?_⟩
  exact AW.mono (fun b off hs=>⟨M.safe b off hs,rfl⟩) _ _ _ _ h5
 | .vec id x ks,v,hl,h=>by
  simp only[AC.lt,Bool.and_eq_true] at hl
  have hx:=Be hl.2
  obtain⟨_,h2,h3,h4⟩:=h
  obtain⟨k1,k2⟩:=M.vec id (Be hl.1) h2
  refine⟨Nat.lt_of_lt_of_le hx hn,k1,by rw[M.eq x hx];exact M.kd h3,fun ks' e he=>?_⟩
  obtain⟨ks1,q1,q2⟩:=k2 x ks' e he hx
  rcases h4 ks1 e q1 with⟨l1,l2⟩|⟨b,cap,vs,l1,l2,l3,l4⟩
  ·exact .inl ⟨l1,by rw[M.eq x hx];exact l2⟩
  ·exact .inr ⟨b,cap,vs,l1,by rw[M.eq x hx];exact l2,l3,by rw[←q2];exact l4⟩
 | .fn f first cap,v,hl,h=>by
  simp only[AC.lt,Bool.and_eq_true] at hl
  obtain⟨vs,us,h1,h2,h3⟩:=h
  exact⟨vs,us,h1,AD.move M hn first vs hl.1 h2,AD.move M hn cap us hl.2 h3⟩
 | .sel x alts,v,hl,h=>by
  simp only[AC.lt,Bool.and_eq_true] at hl
  have hx:=Be hl.1
  obtain⟨_,j,h1,h2,h3⟩:=h
  exact⟨Nat.lt_of_lt_of_le hx hn,j,by rw[M.eq x hx];exact h1,h2,Ah.move M hn alts j.toNat v hl.2 h3⟩
 | .yl id,v,hl,h=>by
  obtain⟨b,h1,h2,h3⟩:=h
  exact⟨b,h1,h2,M.ptr id (Be hl) h3⟩
 | .asl id off len,v,hl,h=>by
  obtain⟨b,h1,h2,h3⟩:=h
  exact⟨b,h1,h2,M.ptr id (Be hl) h3⟩
 | .rsv id x ks,v,hl,h=>by
  simp only[AC.lt,Bool.and_eq_true] at hl
  have hx:=Be hl.2
  obtain⟨_,h2,h5,h3,h4⟩:=h
  obtain⟨k1,k2⟩:=M.vec id (Be hl.1) h2
  refine⟨Nat.lt_of_lt_of_le hx hn,k1,by rw[M.eq x hx];exact h5,h3,fun ks' e he=>?_⟩
  obtain⟨ks1,q1,q2⟩:=k2 x ks' e he hx
  rcases h4 ks1 e q1 with⟨l1,l2⟩|⟨b,len,cap,vs,l1,l2,l0,l3,l4⟩
  ·exact .inl ⟨l1,l2⟩
  ·exact .inr ⟨b,len,cap,vs,l1,l2,l0,l3,by rw[←q2];exact l4⟩
 | .mr id y,v,hl,h=>by
  simp only[AC.lt,Bool.and_eq_true] at hl
  have hy:=Be hl.2
  obtain⟨⟨_,h2⟩,j,a,cap,k1,k2,k3,k4,k5⟩:=h
  obtain⟨q1,q2⟩:=M.row id (Be hl.1) h2
  refine⟨⟨Nat.lt_of_lt_of_le hy hn,q1⟩,j,a,cap,by rw[M.eq y hy];exact k1,k2,k3,k4,fun x ks e he=>?_⟩
  obtain⟨x1,ks1,q3,q4⟩:=q2 x y ks e he
  rcases k5 x1 ks1 e q3 with l|⟨b,vs,l1,l2,l3,l4⟩
  ·exact .inl l
  ·exact .inr ⟨b,vs,l1,l2,l3,by rw[←q4];exact l4⟩
 | .mp id y t sz off,v,hl,h=>by
  simp only[AC.lt,Bool.and_eq_true] at hl
  have hy:=Be hl.1.2
  have ht:=Be hl.2
  obtain⟨⟨_,_,h2⟩,j,L,b,k1,k2,k3,k4,k5⟩:=h
  obtain⟨q1,q2⟩:=M.row id (Be hl.1.1) h2
  refine⟨⟨Nat.lt_of_lt_of_le hy hn,Nat.lt_of_lt_of_le ht hn,q1⟩,j,L,b,by rw[M.eq t ht];exact k1,by rw[M.eq y hy];exact k2,k3,k4,fun x ks e he=>?_⟩
  obtain⟨x1,ks1,q3,q4⟩:=q2 x y ks e he
  exact k5 x1 ks1 e q3
 | .mv id,v,hl,h=>by
  obtain⟨b,h1,h2,h3⟩:=h
  exact⟨b,h1,h2,M.ptr id (Be hl) h3⟩
 | .agg l,v,hl,h=>by
  obtain⟨vs,h1,h2⟩:=h
  exact⟨vs,h1,AD.move M hn l vs (by simpa [AC.lt] using hl) h2⟩
 | .tup l,v,hl,h=>by
  obtain⟨vs,h1,h2⟩:=h
  exact⟨vs,h1,AD.move M hn l vs (by simpa [AC.lt] using hl) h2⟩
theorem AD.move (M:HT T1 T2 ρ m1 m2 w nh nm)(hn:nh≤n2):∀(l:List AC) (vs:List Value),AC.ltL nh nm l=true→AD T1 n1 ρ m1 w l vs→AD T2 n2 ρ m2 w l vs
 |[],_,_,h=>h
 |c::l,vs,hl,h=>by
  simp only[AC.ltL,Bool.and_eq_true] at hl
  obtain⟨u,us,h1,h2,h3⟩:=h
  exact⟨u,us,h1,AB.move M hn c u hl.1 h2,AD.move M hn l us hl.2 h3⟩
theorem Ah.move (M:HT T1 T2 ρ m1 m2 w nh nm)(hn:nh≤n2):∀(l:List AC) (j:Nat) (v:Value),AC.ltL nh nm l=true→Ah T1 n1 ρ m1 w l j v→Ah T2 n2 ρ m2 w l j v
 |[],_,_,_,h=>h.elim
 |c::_,0,v,hl,h=>by
  simp only[AC.ltL,Bool.and_eq_true] at hl
  exact AB.move M hn c v hl.1 h
 |_::l,j+1,v,hl,h=>by
  simp only[AC.ltL,Bool.and_eq_true] at hl
  exact Ah.move M hn l j v hl.2 h
end
structure Ec (T1 T2:Tab) (n:Nat):Prop where
 eq:∀x,x < n→T2 x=T1 x
 fr:T2.fr=T1.fr
 lp:T2.lp=T1.lp
theorem Ec.safe {n:Nat}(S:Ec T1 T2 n)(hm:AH T1 n ρ m1 w){b off:Nat}(h:Ai T1 ρ m1 w b off):Ai T2 ρ m1 w b off:=by
 refine⟨h.1,by rw[S.fr];exact h.2.1,fun id=>?_⟩
 have:=h.2.2 id
 cases hx:m1.at id with
 |pad=>trivial
 |gone=>trivial
 |cells l e=>rw[hx] at this;exact this
 |lp s st=>rw[hx] at this;exact this
 |mrow x y ks e=>rw[hx] at this;exact this
 |mapb x kk ka vk va=>rw[hx] at this;exact this
 |tok x ks e=>
  rw[hx] at this
  intro hr
  have:=this hr
  unfold B4 at this⊢
  rw[S.eq x (hm.tok_lt hx)]
  exact this
section
variable {n:Nat}(S:Ec T1 T2 n)(hs:∀b off,Ai T1 ρ m1 w b off→Ai T2 ρ m1 w b off)
mutual
theorem AB.tab (S:Ec T1 T2 n)(hs:∀b off,Ai T1 ρ m1 w b off→Ai T2 ρ m1 w b off):∀(c:AC) (v:Value),AB T1 n ρ m1 w c v→AB T2 n ρ m1 w c v
 | .any,_,_=>trivial
 | .anyc,_,h=>h
 | .on c a,v,h=>⟨h.1,fun ht=>AB.tab S hs a v (h.2 (by rw[S.eq c h.1] at ht;exact ht))⟩
 | .gd c a,v,h=>⟨h.1,fun ht=>AB.tab S hs a v (h.2.1 (by rw[S.eq c h.1] at ht;exact ht)),fun ht=>h.2.2 (by rw[S.eq c h.1] at ht;exact ht)⟩
 | .cb _,_,h=>h
 | .b x,v,⟨h0,b,h1,h2⟩=>⟨h0,b,by rw[S.eq x h0];exact h1,h2⟩
 | .nb x,v,⟨h0,b,h1,h2⟩=>⟨h0,b,by rw[S.eq x h0];exact h1,h2⟩
 | .ci _ _,_,h=>h
 | .i k lo hi x,v,⟨h0,b,h1,h2⟩=>⟨h0,b,by rw[S.eq x h0];exact h1,h2⟩
 | .cv _,_,h=>h
 | .v x,v,⟨h0,h1,h2⟩=>⟨h0,by rw[S.eq x h0];exact h1,h2⟩
 | .s x,v,⟨h0,b,h1,h2⟩=>⟨h0,b,by rw[S.eq x h0];exact h1,h2⟩
 | .ptr _ _,_,h=>h
 | .pix id base stride cnt x plus,v,⟨h0,b,j,h1,h2,h3⟩=>⟨h0,b,j,h1,by rw[S.eq x h0];exact h2,h3⟩
 | .ro x ks,v,⟨h0,h1⟩=>⟨h0,by rw[S.eq x h0];exact AR.mono (fun b off h=>⟨hs b off h,rfl⟩) _ _ _ h1⟩
 | .rp x t off ks,v,⟨h0,j,b,o,us,h1,h2,h3,h4,h5⟩=>⟨h0,j,b,o,us,by rw[S.eq t h0.2];exact h1,h2,by rw[S.eq x h0.1];exact h3,h4,AW.mono (fun b off h=>⟨hs b off h,rfl⟩) _ _ _ _ h5⟩
 | .vec id x ks,v,⟨h0,h1,h2,h3⟩=>⟨h0,h1,by rw[S.eq x h0];exact AR.mono (fun b off h=>⟨hs b off h,rfl⟩) _ _ _ h2,fun ks' e he=>by
   have:=h3 ks' e he
   unfold Qr at this⊢
   rw[S.eq x h0]
   exact this⟩
 | .fn f first cap,v,⟨vs,us,h1,h2,h3⟩=>⟨vs,us,h1,AD.tab S hs first vs h2,AD.tab S hs cap us h3⟩
 | .sel x alts,v,⟨h0,j,h1,h2,h3⟩=>⟨h0,j,by rw[S.eq x h0];exact h1,h2,Ah.tab S hs alts j.toNat v h3⟩
 | .yl _,_,h=>h
 | .asl _ _ _,_,h=>h
 | .rsv id x ks,v,⟨h0,h1,h2,h3,h4⟩=>⟨h0,h1,by rw[S.eq x h0];exact h2,h3,h4⟩
 | .mr id y,v,⟨⟨h0,h1⟩,j,a,cap,k1,k2⟩=>⟨⟨h0,h1⟩,j,a,cap,by rw[S.eq y h0];exact k1,k2⟩
 | .mp id y t sz off,v,⟨⟨h0,h0',h1⟩,j,L,b,k1,k2,k3⟩=>⟨⟨h0,h0',h1⟩,j,L,b,by rw[S.eq t h0'];exact k1,by rw[S.eq y h0];exact k2,k3⟩
 | .mv _,_,h=>h
 | .agg l,v,⟨vs,h1,h2⟩=>⟨vs,h1,AD.tab S hs l vs h2⟩
 | .tup l,v,⟨vs,h1,h2⟩=>⟨vs,h1,AD.tab S hs l vs h2⟩
theorem AD.tab (S:Ec T1 T2 n)(hs:∀b off,Ai T1 ρ m1 w b off→Ai T2 ρ m1 w b off):∀(l:List AC) (vs:List Value),AD T1 n ρ m1 w l vs→AD T2 n ρ m1 w l vs
 |[],_,h=>h
 |c::l,vs,⟨u,us,h1,h2,h3⟩=>⟨u,us,h1,AB.tab S hs c u h2,AD.tab S hs l us h3⟩
theorem Ah.tab (S:Ec T1 T2 n)(hs:∀b off,Ai T1 ρ m1 w b off→Ai T2 ρ m1 w b off):∀(l:List AC) (j:Nat) (v:Value),Ah T1 n ρ m1 w l j v→Ah T2 n ρ m1 w l j v
 |[],_,_,h=>h.elim
 |c::_,0,v,h=>AB.tab S hs c v h
 |_::l,j+1,v,h=>Ah.tab S hs l j v h
end
end
theorem AH.tab {n:Nat}(S:Ec T1 T2 n)(hm:AH T1 n ρ m1 w):AH T2 n ρ m1 w:=by
 have hs:∀b off,Ai T1 ρ m1 w b off→Ai T2 ρ m1 w b off:=fun b off h=>S.safe hm h
 refine⟨fun id=>?_,hm.inj,fun b off h=>by rw[S.fr];exact hm.fr b off h⟩
 have:=hm.blk id
 cases hx:m1.at id with
 |pad=>trivial
 |gone=>trivial
 |cells l e=>
  rw[hx] at this
  obtain⟨b,vs,h1,h2,h3⟩:=this
  exact⟨b,vs,h1,h2,AD.tab S hs l vs h3⟩
 |tok x ks e=>
  rw[hx] at this
  obtain⟨h0,l,h1,h2⟩:=this
  refine⟨h0,l,by rw[S.eq x h0];exact h1,?_⟩
  rw[S.fr]
  exact h2
 |mrow x y ks e=>
  rw[hx] at this
  obtain⟨h0,l,h1,h1',h1'',h2⟩:=this
  refine⟨h0,l,by rw[S.eq x h0.1];exact h1,by rw[S.eq y h0.2];exact h1',h1'',?_⟩
  rw[S.fr]
  rcases h2 with h2|⟨b,vs,us,q1,q2,q3,q4⟩
  ·exact .inl h2
  ·exact .inr ⟨b,vs,us,q1,q2,BL.mono (fun b off h=>⟨hs b off h,rfl⟩) q3,q4⟩
 |mapb x kk ka vk va=>
  rw[hx] at this
  obtain⟨h0,l,b,es,cl,h1,h2,h3,h4,h5,h6,h7⟩:=this
  refine⟨h0,l,b,es,cl,by rw[S.eq x h0];exact h1,h2,h3,h4,h5,fun i us e hl he=>?_,h7⟩
  obtain⟨u1,u2,q1,q2,q3⟩:=h6 i us e hl he
  exact⟨u1,u2,q1,j8.mono (fun b off h=>⟨hs b off h,rfl⟩) q2,j8.mono (fun b off h=>⟨hs b off h,rfl⟩) q3⟩
 |lp s st=>
  rw[hx] at this
  obtain⟨b,q,h1,h2,h3,h4,h5,h6,h7,j,h8,h9⟩:=this
  refine⟨b,q,h1,h2,?_⟩
  rw[S.lp]
  exact⟨h3,h4,h5,h6,fun i c hc=>AB.tab S hs c _ (h7 i c hc),j,AB.tab S hs st _ h8,h9⟩
theorem Ec.symm {n:Nat}(S:Ec T1 T2 n):Ec T2 T1 n:=⟨fun x hx=>(S.eq x hx).symm,S.fr.symm,S.lp.symm⟩
theorem AJ.tab {n:Nat}{ρ':Nat→Option Nat}{m':Mem}{w':World}(S:Ec T1 T2 n)(hm:AH T1 n ρ m1 w)(hs:AJ T1 n ρ m1 w ρ' m' w')(hnew:∀id x' ks' e',m'.at id= .tok x' ks' e'→T2 x'=T1 x'):AJ T2 n ρ m1 w ρ' m' w':=
 {hs with
  tok:=fun id x ks e hx=>by
   have hxn:=hm.tok_lt hx
   rcases hs.tok id x ks e hx with h|⟨h1,h2⟩
   ·exact .inl h
   ·refine .inr ⟨fun b hb off ho=>h1 b hb off (by unfold B4 at ho⊢;rw[S.eq x hxn] at ho;exact ho),?_⟩
    rcases h2 with h2|⟨x',ks',e',h2,h3,h4⟩
    ·exact .inl h2
    ·refine .inr ⟨x',ks',e',h2,h3,fun b' hb'=>?_⟩
     rcases h4 b' hb' with⟨k1,k2⟩|k1
     ·refine .inl ⟨k1,?_⟩
      unfold B4 at k2⊢
      rw[S.eq x hxn,hnew id x' ks' e' h2]
      exact k2
     ·exact .inr k1 }
end
end Go.Eng
end
noncomputable section
namespace Go.Eng
open Go Go.RowKit
theorem Zq {T:Tab}{n:Nat}{ρ :Nat→Option Nat}{m:Mem}{w:World}{k:Kd}{c:AC}{v:Value}{r:Rf}{ps:List Pr}(h:fit k c=some (r,ps))(hc:AB T n ρ m w c v)(hp:∀p∈ps,p.holds T):
  AR (Ai T ρ m w) w k (r.eval T) v:=by
 unfold fit at h
 cases hs:EI c with
 |none=>rw[hs] at h;cases k<;>cases h
 |some kr=>
  obtain⟨k1,r1⟩:=kr
  rw[hs] at h
  have base:=GZ hs hc
  have join:(if Kd.beq (Kd.join k1 k) k&& !k.isAny then some (r1,([]:List Pr)) else none)=some (r,ps)→AR (Ai T ρ m w) w k (r.eval T) v:=by
   intro h
   split at h
   ·rename_i hb
    cases h
    rw[Bool.and_eq_true] at hb
    have:=Kd.join_l k1 k _ v base
    rw[Kd.beq_eq _ _ hb.1] at this
    exact this
   ·cases h
  cases k with
  |int k0 lo hi=>
   cases k1 with
   |int k' lo' hi'=>
    simp only at h
    split at h
    ·rename_i hk
     subst hk
     obtain⟨i,h1,h2,h3,h4⟩:=base
     injection h with h
     injection h with e1 e2
     subst e1;subst e2
     refine⟨i,h1,h2,?_⟩
     split at hp
     ·rename_i hb;exact⟨by omega,by omega⟩
     ·have:=hp _ (List.mem_singleton.2 rfl)
      simp only[Pr.holds,D8,List.map_cons,List.map_nil,u0,h1,U.toI] at this
      exact this
    ·cases h
   |_=>exact join h
  |_=>exact join h
theorem U.same_eq {u v:U}(h:U.same u v=true):u=v:=by
 unfold U.same at h
 split at h<;>first|rfl|(cases h;done)|(simp at h;rw[h])
theorem Rf.same_eq {r s:Rf}(h:Rf.same r s=true):r=s:=by
 cases r<;>cases s<;>simp only[Rf.same] at h<;>first|(cases h;done)|(rw[U.same_eq h])|(rw[Nat.eq_of_beq_eq_true h])
theorem Eo {a b:Option (List Pr)}{ps:List Pr}(h:L7 a b=some ps):∃x y,a=some x∧b=some y∧ps=x++y:=by
 cases a<;>cases b<;>simp only[L7] at h<;>first|(cases h;done)|(cases h;exact⟨_,_,rfl,rfl,rfl⟩)
inductive J9 (T1 T2:Tab) (nh:Nat):Blk→Blk→Prop where
 |pad (b:Blk):J9 T1 T2 nh .pad b
 |gone {b:Blk} (h:b≠ .pad):J9 T1 T2 nh .gone b
 |cells (l l':List AC) (e:TypeId):J9 T1 T2 nh (.cells l e) (.cells l' e)
 |same (x:Nat) (ks:List Kd) (e:TypeId) (h:x < nh):J9 T1 T2 nh (.tok x ks e) (.tok x ks e)
 |tok {x x':Nat} {ks ks':List Kd} {e:TypeId} (h1:nh≤x) (h2:T2 x=T1 x') (h3:ks.length=ks'.length):J9 T1 T2 nh (.tok x ks e) (.tok x' ks' e)
 |lp (s:Nat) (st st':AC):J9 T1 T2 nh (.lp s st) (.lp s st')
 |mrow {x x' y:Nat} {ks ks':List Kd} {e:TypeId} (h1:y < nh) (h3:ks.length=ks'.length):J9 T1 T2 nh (.mrow x y ks e) (.mrow x' y ks' e)
 |mapb {x x':Nat} {kk kk' vk vk':List Kd} {ka va:Bool}:J9 T1 T2 nh (.mapb x kk ka vk va) (.mapb x' kk' ka vk' va)
section
variable {T1 T2:Tab}{ρ :Nat→Option Nat}{w:World}{nh nm n1 n2:Nat}{rs:List Rf}{mh m:Mem}
theorem OL {x:Nat}{r:Rf}(h:LO nh rs x r=true):nh≤x∧rs[x - nh]? =some r:=by
 unfold LO at h
 rw[Bool.and_eq_true] at h
 refine⟨Nat.le_of_ble_eq_true h.1,?_⟩
 have h2:=h.2
 split at h2
 ·rename_i r' hr;rw[hr,Rf.same_eq h2]
 ·cases h2
def Eb (T1 T2:Tab)(nh n2:Nat)(rs:List Rf):Prop:=∀j r,rs[j]? =some r→nh+j < n2∧T2 (nh+j)=r.eval T1
theorem Eb.at {x:Nat}{r:Rf}(H:Eb T1 T2 nh n2 rs)(h:LO nh rs x r=true):x < n2∧T2 x=r.eval T1:=by
 obtain⟨h1,h2⟩:=OL h
 have:=H _ _ h2
 rw[show nh+(x - nh)=x by omega] at this
 exact this
theorem Mf {lps:List (Nat × Bf)}{nm:Nat}{mh0 m0:Mem}{b b':Blk}{ps:List Pr}(h:Eg lps nh nm rs mh0 m0 b b'=some ps)(H:Eb T1 T2 nh n2 rs):J9 T1 T2 nh b b'∧(b= .pad→b'= .pad):=by
 cases b with
 |pad=>cases b'<;>simp only[Eg] at h<;>first|(cases h;done)|exact⟨.pad _,fun _=>rfl⟩
 |gone=>cases b'<;>simp only[Eg] at h<;>first|(cases h;done)|exact⟨.gone (fun h=>by cases h),fun h=>by cases h⟩
 |cells l e=>
  cases b'<;>simp only[Eg] at h<;>try (cases h;done)
  split at h
  ·rename_i he
   rw[Nat.eq_of_beq_eq_true he]
   exact⟨.cells _ _ _,fun h=>by cases h⟩
  ·cases h
 |tok x ks e=>
  cases b'<;>simp only[Eg] at h<;>try (cases h;done)
  rename_i x' ks' e'
  split at h
  ·rename_i hc
   simp only[Bool.and_eq_true,Bool.or_eq_true] at hc
   obtain⟨⟨h1,h2⟩,h3⟩:=hc
   have e1:=Nat.eq_of_beq_eq_true h1
   have e2:=Nat.eq_of_beq_eq_true h2
   subst e1
   refine⟨?_,fun h=>by cases h⟩
   rcases h3 with⟨⟨h3,h4⟩,h5⟩|h3
   ·rw[←Nat.eq_of_beq_eq_true h4,←Kd.beqs_eq _ _ h5]
    exact .same _ _ _ (Be h3)
   ·obtain⟨_,q⟩:=H.at h3
    exact .tok (OL h3).1 (by rw[q];rfl) e2
  ·cases h
 |lp s st=>
  cases b'<;>simp only[Eg] at h<;>try (cases h;done)
  split at h
  ·rename_i hc
   simp only[Bool.and_eq_true] at hc
   rw[Nat.eq_of_beq_eq_true hc.1]
   exact⟨.lp _ _ _,fun h=>by cases h⟩
  ·cases h
 |mrow x y ks e=>
  cases b'<;>simp only[Eg] at h<;>try (cases h;done)
  split at h
  ·rename_i hc
   simp only[Bool.and_eq_true,Bool.or_eq_true] at hc
   obtain⟨⟨⟨h1,h2⟩,h3⟩,h4⟩:=hc
   rw[Nat.eq_of_beq_eq_true h1,←Nat.eq_of_beq_eq_true h2]
   refine⟨.mrow (Be h3) ?_,fun h=>by cases h⟩
   rcases h4 with⟨_,h4⟩|⟨_,h4⟩
   ·rw[Kd.beqs_eq _ _ h4]
   ·exact Nat.eq_of_beq_eq_true h4
  ·cases h
 |mapb x kk ka vk va=>
  cases b'<;>simp only[Eg] at h<;>try (cases h;done)
  split at h
  ·rename_i hc
   simp only[Bool.and_eq_true,beq_iff_eq] at hc
   rw[hc.1.1,hc.1.2]
   exact⟨.mapb,fun h=>by cases h⟩
  ·cases h
theorem NH {lps:List (Nat × Bf)}{nm:Nat}{mh0 m0:Mem}:∀{l l':Mem} {ps:List Pr},JQ lps nh nm rs mh0 m0 l l'=some ps→l.length≤l'.length∧∀id,id < l.length→∃qs,Eg lps nh nm rs mh0 m0 (l.at id) (l'.at id)=some qs∧∀q∈qs,q∈ps
 |[],_,ps,h=>⟨Nat.zero_le _,fun id hid=>by simp at hid⟩
 |_::_,[],ps,h=>by simp[JQ] at h
 |b::l,b'::l',ps,h=>by
  simp only[JQ] at h
  obtain⟨x,y,h1,h2,rfl⟩:=Eo h
  obtain⟨k1,k2⟩:=NH h2
  refine⟨by simp;omega,fun id hid=>?_⟩
  cases id with
  |zero=>exact⟨x,by simpa [Mem.at] using h1,fun q hq=>List.mem_append_left _ hq⟩
  |succ id=>
   obtain⟨qs,q1,q2⟩:=k2 id (by simpa using hid)
   exact⟨qs,by simpa [Mem.at] using q1,fun q hq=>List.mem_append_right _ (q2 q hq)⟩
def Db (T1 T2:Tab)(nh:Nat)(mh m:Mem):Prop:=∀id,J9 T1 T2 nh (mh.at id) (m.at id)
theorem MY {lps:List (Nat × Bf)}{nm:Nat}{mh0 m0:Mem}{ps:List Pr}(h:JQ lps nh nm rs mh0 m0 mh m=some ps)(H:Eb T1 T2 nh n2 rs):Db T1 T2 nh mh m∧∀id,id < mh.length→mh.at id= .pad→m.at id= .pad:=by
 obtain⟨h1,h2⟩:=NH h
 refine⟨fun id=>?_,fun id hid hp=>?_⟩
 ·rcases Nat.lt_or_ge id mh.length with hid|hid
  ·obtain⟨qs,q1,_⟩:=h2 id hid
   exact (Mf q1 H).1
  ·rw[Mem.at_ge hid];exact .pad _
 ·obtain⟨qs,q1,_⟩:=h2 id hid
  exact (Mf (T1:=T1) (T2:=T2) q1 H).2 hp
theorem Db.tracked (S:Db T1 T2 nh mh m){id:Nat}(h:(mh.at id).tracked=true):(m.at id).tracked=true:=by
 have:=S id
 generalize mh.at id=a at this h
 generalize m.at id=b at this
 cases this<;>first|rfl|(cases h;done)
theorem Db.safe (S:Db T1 T2 nh mh m)(heq:∀x,x < nh→T2 x=T1 x)(hfr:T2.fr=T1.fr){b off:Nat}(h:Ai T1 ρ m w b off):Ai T2 ρ mh w b off:=by
 refine⟨h.1,by rw[hfr];exact h.2.1,fun id=>?_⟩
 have h2:=h.2.2 id
 have:=S id
 generalize mh.at id=a at this⊢
 generalize m.at id=b at this h2
 cases this with
 |pad=>trivial
 |gone=>trivial
 |cells=>exact h2
 |lp=>exact h2
 |mrow=>exact h2
 |mapb=>exact h2
 |same x ks e hx=>
  intro hr
  have:=h2 hr
  unfold B4 at this⊢
  rw[heq x hx];exact this
 |tok h1 h3 h4=>
  intro hr
  have:=h2 hr
  unfold B4 at this⊢
  rw[h3,h4];exact this
theorem Db.move (S:Db T1 T2 nh mh m)(hp:∀id,id < mh.length→mh.at id= .pad→m.at id= .pad)(heq:∀x,x < nh→T2 x=T1 x)(hfr:T2.fr=T1.fr):HT T1 T2 ρ m mh w nh mh.length where
 eq:=heq
 safe:=fun b off h=>S.safe heq hfr h
 ptr:=fun id hid h=>by
  have hne:mh.at id≠ .pad:=fun e=>by rw[hp id hid e] at h;cases h
  have:=S id
  generalize mh.at id=a at this hne⊢
  generalize m.at id=b at this h
  cases this<;>first|rfl|(exact absurd rfl hne)|(cases h;done)
 vec:=fun id hid h=>by
  refine⟨fun e=>h (hp id hid e),fun x ks e hx hlt=>?_⟩
  have:=S id
  rw[hx] at this
  generalize m.at id=b at this
  cases this with
  |same=>exact⟨_,rfl,rfl⟩
  |tok h1=>omega
 row:=fun id hid h=>by
  refine⟨fun e=>h (hp id hid e),fun x y ks e hx=>?_⟩
  have:=S id
  rw[hx] at this
  generalize m.at id=b at this
  cases this with
  |mrow h1 h3=>exact⟨_,_,rfl,h3.symm⟩
theorem Je {h c:AC}{ps:List Pr}(hm:JI nh mh.length rs mh m h c=some ps)(M:HT T1 T2 ρ m mh w nh mh.length)(hn:nh≤n2)(H:Eb T1 T2 nh n2 rs)(S:Db T1 T2 nh mh m)(hps:∀p∈ps,p.holds T1){v:Value}
  (hv:AB T1 n1 ρ m w c v):AB T2 n2 ρ mh w h v:=by
 unfold JI at hm
 split at hm
 ·rename_i hc
  rw[Bool.and_eq_true] at hc
  have e:=AC.beq_eq _ _ hc.2
  subst e
  exact AB.move M hn h v hc.1 hv
 ·have put:∀{k:Kd} {x:Nat},HF nh rs x (fit k c)=some ps→x < n2∧AR (Ai T2 ρ mh w) w k (T2 x) v:=by
   intro k x hp
   unfold HF at hp
   split at hp
   ·rename_i r qs hf
    split at hp
    ·rename_i hh
     cases hp
     obtain⟨k1,k2⟩:=H.at hh
     exact⟨k1,by rw[k2];exact M.kd (Zq hf hv hps)⟩
    ·cases hp
   ·cases hp
  unfold Zs at hm
  cases h with
  |any=>trivial
  |i k lo hi x=>exact put hm
  |b x=>exact put hm
  |v x=>exact put hm
  |s x=>exact put hm
  |ro x ks=>exact put hm
  |vec id x ks=>
   cases c with
   |vec id' x' ks'=>
    simp only at hm
    split at hm
    ·rename_i hc
     simp only[Bool.and_eq_true] at hc
     obtain⟨⟨⟨⟨c1,c2⟩,c3⟩,c4⟩,c5⟩:=hc
     have e1:=Nat.eq_of_beq_eq_true c1
     subst e1
     obtain⟨k1,k2⟩:=H.at c3
     have k2':T2 x=T1 x':=by rw[k2];rfl
     obtain⟨_,h2,h3,h4⟩:=hv
     unfold bf at c5
     split at c5
     ·rename_i y ky e y' ky' e' hmh hmm
      simp only[Bool.and_eq_true] at c5
      obtain⟨⟨⟨d1,d2⟩,d3⟩,d4⟩:=c5
      have f1:=Nat.eq_of_beq_eq_true d1
      have f2:=Nat.eq_of_beq_eq_true d2
      have f3:=Nat.eq_of_beq_eq_true d3
      have f4:=Nat.eq_of_beq_eq_true d4
      subst f1;subst f2;subst f3
      refine⟨k1,by rw[hmh];exact (fun h=>by cases h),?_,fun ks'' e'' he=>?_⟩
      ·rw[k2']
       have:=Kd.join_l (.list ks') (.list ks) _ v (M.kd h3)
       rw[Kd.beq_eq _ _ c4] at this
       exact this
      ·rw[hmh] at he
       injection he with _ g1 g2
       subst g1;subst g2
       rcases h4 ky' e hmm with⟨l1,l2⟩|⟨b,cap,vs,l1,l2,l3,l4⟩
       ·exact .inl ⟨l1,by rw[k2'];exact l2⟩
       ·exact .inr ⟨b,cap,vs,l1,by rw[k2'];exact l2,l3,by rw[f4];exact l4⟩
     ·cases c5
    ·cases hm
   |_=>cases hm
  |_=>cases hm
theorem NP (M:HT T1 T2 ρ m mh w nh mh.length)(hn:nh≤n2)(H:Eb T1 T2 nh n2 rs)(S:Db T1 T2 nh mh m):∀{l l':List AC} {ps:List Pr},JW nh mh.length rs mh m l l'=some ps→(∀p∈ps,p.holds T1)→
  ∀vs,AD T1 n1 ρ m w l' vs→AD T2 n2 ρ mh w l vs
 |[],[],ps,_,_,vs,h=>h
 |[],_::_,ps,h,_,_,_=>by simp[JW] at h
 |_::_,[],ps,h,_,_,_=>by simp[JW] at h
 |a::l,c::l',ps,h,hps,vs,⟨u,us,h1,h2,h3⟩=>by
  simp only[JW] at h
  obtain⟨x,y,k1,k2,rfl⟩:=Eo h
  exact⟨u,us,h1,Je k1 M hn H S (fun p hp=>hps p (List.mem_append_left _ hp)) h2,NP M hn H S k2 (fun p hp=>hps p (List.mem_append_right _ hp)) us h3⟩
theorem Ke:∀{t t':Tr} {ps:List Pr},Iu nh nm rs mh m t t'=some ps→∀(i:Nat) (h:AC),t.get i=some h→h= .any∨∃c qs,t'.get i=some c∧JI nh nm rs mh m h c=some qs∧∀q∈qs,q∈ps
 | .nil,t',ps,_,i,h,hi=>by simp[Tr.get] at hi
 | .node v l r,t',ps,hm,i,h,hi=>by
  simp only[Iu] at hm
  obtain⟨x,y,h1,h2,rfl⟩:=Eo hm
  obtain⟨y1,y2,h3,h4,rfl⟩:=Eo h2
  rw[Tr.get_step] at hi
  rw[Tr.get_step t']
  by_cases h0:i=0
  ·rw[if_pos h0] at hi⊢
   simp only[Tr.val] at hi
   subst hi
   unfold Zm at h1
   split at h1
   ·rename_i heq;cases heq
   ·rename_i heq;cases heq;exact .inl rfl
   ·rename_i h' c _ heq hc
    cases heq
    exact .inr ⟨c,x,hc,h1,fun q hq=>List.mem_append_left _ hq⟩
   ·cases h1
  ·rw[if_neg h0] at hi⊢
   by_cases h5:i % 2=1
   ·rw[if_pos h5] at hi⊢
    rcases Ke h3 (i / 2) h hi with k|⟨c,qs,k1,k2,k3⟩
    ·exact .inl k
    ·exact .inr ⟨c,qs,k1,k2,fun q hq=>List.mem_append_right _ (List.mem_append_left _ (k3 q hq))⟩
   ·rw[if_neg h5] at hi⊢
    rcases Ke h4 (i / 2 - 1) h hi with k|⟨c,qs,k1,k2,k3⟩
    ·exact .inl k
    ·exact .inr ⟨c,qs,k1,k2,fun q hq=>List.mem_append_right _ (List.mem_append_right _ (k3 q hq))⟩
theorem O0:∀{t:Tr},T5 nh nm t=true→∀(i:Nat) (c:AC),t.get i=some c→AC.lt nh nm c=true
 | .nil,_,i,c,hi=>by simp[Tr.get] at hi
 | .node v l r,h,i,c,hi=>by
  simp only[T5,Bool.and_eq_true] at h
  rw[Tr.get_step] at hi
  by_cases h0:i=0
  ·rw[if_pos h0] at hi
   simp only[Tr.val] at hi
   subst hi
   exact h.1.1
  ·rw[if_neg h0] at hi
   by_cases h5:i % 2=1
   ·rw[if_pos h5] at hi;exact O0 h.1.2 _ _ hi
   ·rw[if_neg h5] at hi;exact O0 h.2 _ _ hi
theorem PS:∀{lps:List (Nat × Bf)} {s:Nat} {S:Bf},E7 lps s=some S→(s,S)∈lps
 |[],_,_,h=>by simp[E7] at h
 |(s',S')::r,s,S,h=>by
  simp only[E7] at h
  split at h
  ·rename_i hb
   cases h
   rw[Nat.eq_of_beq_eq_true hb]
   exact List.mem_cons_self ..
  ·exact List.mem_cons_of_mem _ (PS h)
theorem Hb {lps:List (Nat × Bf)}{hl l:Loc}{ps:List Pr}(h:Es lps nh rs hl l=some ps)(hlps:∀p∈lps,T1.lp p.1=p.2)(hfr:T2.fr=T1.fr)(hlp:T2.lp=T1.lp)(hbase:T2.base=T1.base)
  (heq:∀x,x < nh→T2 x=T1 x) (hn:nh≤n2) (H:Eb T1 T2 nh n2 rs) (hps:∀p∈ps,p.holds T1) {a:Act} (hR:Rel T1 n1 ρ l a w):
  Rel T2 n2 ρ hl a w∧Db T1 T2 nh hl.mem l.mem∧∀id,id < hl.mem.length→hl.mem.at id= .pad→l.mem.at id= .pad:=by
 unfold Es at h
 split at h
 ·rename_i hc
  simp only[Bool.and_eq_true] at hc
  obtain⟨⟨c1,c2⟩,c3⟩:=hc
  obtain⟨p1,p2,h1,h2,rfl⟩:=Eo h
  obtain⟨S,hpad⟩:=MY (T1:=T1) (T2:=T2) h1 H
  have M:HT T1 T2 ρ l.mem hl.mem w nh hl.mem.length:=S.move hpad heq hfr
  obtain⟨hlen,hat⟩:=NH h1
  have hp1:∀p∈p1,p.holds T1:=fun p hp=>hps p (List.mem_append_left _ hp)
  have hp2:∀p∈p2,p.holds T1:=fun p hp=>hps p (List.mem_append_right _ hp)
  refine⟨⟨?_,?_,fun i c hi=>?_,⟨fun id=>?_,fun id id' b t1 t2=>hR.mem.inj id id' b (S.tracked t1) (S.tracked t2),fun b off hb=>by rw[hfr];exact hR.mem.fr b off hb⟩⟩,S,hpad⟩
  ·obtain⟨d0,Ds,d1,d2,d3⟩:=hR.defers
   rw[hbase]
   refine⟨d0,Ds,d1,d2,fun D hD=>?_⟩
   obtain⟨e1,e2,e3⟩:=d3 D hD
   exact⟨e1,e2,fun id ht=>e3 id (S.tracked ht)⟩
  ·rw[hR.size]
   exact (Nat.eq_of_beq_eq_true c3).symm
  ·have g1:hl.tmps.t.get i=some c:=by
    have:hl.tmps.loc=[]:=List.isEmpty_iff.1 c1
    simpa [AQ.get,this,BR] using hi
   rcases Ke h2 i c g1 with rfl|⟨c',qs,k1,k2,k3⟩
   ·trivial
   ·have g2:l.tmps.get i=some c':=by
     have:l.tmps.loc=[]:=List.isEmpty_iff.1 c2
     simpa [AQ.get,this,BR] using k1
    exact Je k2 M hn H S (fun p hp=>hp2 p (k3 p hp)) (hR.tmps i c' g2)
  ·rcases Nat.lt_or_ge id hl.mem.length with hid|hid
   ·obtain⟨qs,q1,q2⟩:=hat id hid
    have hb:=hR.mem.blk id
    have hq:∀p∈qs,p.holds T1:=fun p hp=>hp1 p (q2 p hp)
    generalize hl.mem.at id=b at q1⊢
    generalize l.mem.at id=b' at q1 hb
    cases b with
    |pad=>trivial
    |gone=>trivial
    |cells x e=>
     cases b'<;>simp only[Eg] at q1<;>try (cases q1;done)
     split at q1
     ·rename_i he
      obtain⟨bb,vs,y1,y2,y3⟩:=hb
      rw[Nat.eq_of_beq_eq_true he]
      exact⟨bb,vs,y1,y2,NP M hn H S q1 hq vs y3⟩
     ·cases q1
    |tok x ks e=>
     cases b'<;>simp only[Eg] at q1<;>try (cases q1;done)
     rename_i x' ks' e'
     split at q1
     ·rename_i hc
      simp only[Bool.and_eq_true,Bool.or_eq_true] at hc
      obtain⟨⟨i1,i2⟩,i3⟩:=hc
      have e1:=Nat.eq_of_beq_eq_true i1
      have e2:=Nat.eq_of_beq_eq_true i2
      subst e1
      obtain⟨y0,ll,y1,y2⟩:=hb
      have key:x < n2∧T2 x=T1 x':=by
       rcases i3 with⟨⟨i3,i4⟩,_⟩|i3
       ·rw[←Nat.eq_of_beq_eq_true i4]
        exact⟨Nat.lt_of_lt_of_le (Be i3) hn,heq x (Be i3)⟩
       ·obtain⟨z1,z2⟩:=H.at i3
        exact⟨z1,by rw[z2];rfl⟩
      refine⟨key.1,ll,by rw[key.2];exact y1,?_⟩
      rw[hfr,e2]
      exact y2
     ·cases q1
    |mrow x y ks e=>
     cases b'<;>simp only[Eg] at q1<;>try (cases q1;done)
     rename_i x' y' ks' e'
     split at q1
     ·rename_i hc
      simp only[Bool.and_eq_true,Bool.or_eq_true] at hc
      obtain⟨⟨⟨i1,i2⟩,i3⟩,i4⟩:=hc
      have e1:=Nat.eq_of_beq_eq_true i1
      have e2:=Nat.eq_of_beq_eq_true i2
      subst e1;subst e2
      have hy:=Be i3
      obtain⟨y0,ll,y1,y1',⟨y5,y6⟩,y2⟩:=hb
      have key:x < n2∧T2 x=T1 x'∧ks.length=ks'.length∧∀ok us vs,B8 ok w ks' us vs→B8 ok w ks us vs:=by
       rcases i4 with⟨⟨i3,i4⟩,i5⟩|⟨⟨i3,i4⟩,i5⟩
       ·rw[←Nat.eq_of_beq_eq_true i4,←Kd.beqs_eq _ _ i5]
        exact⟨Nat.lt_of_lt_of_le (Be i3) hn,heq x (Be i3),rfl,fun _ _ _ h=>h⟩
       ·obtain⟨z1,z2⟩:=H.at i3
        have hl:=Nat.eq_of_beq_eq_true i5
        refine⟨z1,by rw[z2];rfl,hl,fun ok us vs h=>?_⟩
        have:=h.join_l hl.symm
        rw[Kd.beqs_eq _ _ i4] at this
        exact this
      obtain⟨k1,k2,k3,k4⟩:=key
      refine⟨⟨k1,Nat.lt_of_lt_of_le hy hn⟩,ll,by rw[k2];exact y1,by rw[heq y hy];exact y1',⟨y5,fun h=>y6 (List.length_eq_zero_iff.1 (by rw[←k3,h];rfl))⟩,?_⟩
      rw[hfr]
      rcases y2 with y2|⟨bb,vs,us,z1,z2,⟨vss,z3,z4⟩,z5⟩
      ·exact .inl y2
      ·exact .inr ⟨bb,vs,us,z1,z2,⟨vss,z3,FC.conv (k4 _) (FC.mono (fun b off h=>⟨M.safe b off h,rfl⟩) z4)⟩,z5⟩
     ·cases q1
    |mapb x kk ka vk va=>
     cases b'<;>simp only[Eg] at q1<;>try (cases q1;done)
     rename_i x' kk' ka' vk' va'
     split at q1
     ·rename_i hc
      simp only[Bool.and_eq_true,Bool.or_eq_true,beq_iff_eq] at hc
      obtain⟨⟨i1,i2⟩,i4⟩:=hc
      subst i1;subst i2
      obtain⟨y0,ll,bb,es,cl,y1,y2,y3,y4,y5,y6,y7⟩:=hb
      have key:x < n2∧T2 x=T1 x'∧(∀ok us vs,B8 ok w kk' us vs→B8 ok w kk us vs)∧∀ok us vs,B8 ok w vk' us vs→B8 ok w vk us vs:=by
       rcases i4 with⟨⟨⟨i3,i4⟩,i5⟩,i6⟩|⟨⟨⟨⟨i3,i4⟩,i5⟩,i6⟩,i7⟩
       ·rw[←Nat.eq_of_beq_eq_true i4,←Kd.beqs_eq _ _ i5,←Kd.beqs_eq _ _ i6]
        exact⟨Nat.lt_of_lt_of_le (Be i3) hn,heq x (Be i3),fun _ _ _ h=>h,fun _ _ _ h=>h⟩
       ·obtain⟨z1,z2⟩:=H.at i3
        refine⟨z1,by rw[z2];rfl,fun ok us vs h=>?_,fun ok us vs h=>?_⟩
        ·have:=h.join_l (Nat.eq_of_beq_eq_true i5).symm
         rw[Kd.beqs_eq _ _ i4] at this
         exact this
        ·have:=h.join_l (Nat.eq_of_beq_eq_true i7).symm
         rw[Kd.beqs_eq _ _ i6] at this
         exact this
      obtain⟨k1,k2,k3,k4⟩:=key
      refine⟨k1,ll,bb,es,cl,by rw[k2];exact y1,y2,y3,y4,y5,fun i us e hl he=>?_,y7⟩
      obtain⟨u1,u2,z1,⟨vs1,z2,z3⟩,⟨vs2,z4,z5⟩⟩:=y6 i us e hl he
      exact⟨u1,u2,z1,⟨vs1,k3 _ _ _ (B8.mono (fun b off h=>⟨M.safe b off h,rfl⟩) z2),z3⟩,⟨vs2,k4 _ _ _ (B8.mono (fun b off h=>⟨M.safe b off h,rfl⟩) z4),z5⟩⟩
     ·cases q1
    |lp s st=>
     cases b'<;>simp only[Eg] at q1<;>try (cases q1;done)
     rename_i s' st'
     split at q1
     ·rename_i hc
      simp only[Bool.and_eq_true] at hc
      have e1:=Nat.eq_of_beq_eq_true hc.1
      subst e1
      obtain⟨bb,q,y1,y2,y3,y4,y5,y6,y7,j,y8,y9⟩:=hb
      have hlt:=hc.2
      unfold lpLt at hlt
      split at hlt
      ·rename_i S0 hS
       have hT:=hlps _ (PS hS)
       simp only at hT
       rw[Bool.and_eq_true] at hlt
       have hloc:S0.tmps.loc=[]:=List.isEmpty_iff.1 hlt.1
       refine⟨bb,q,y1,y2,?_⟩
       rw[hlp]
       refine⟨y3,y4,y5,y6,fun i c hi=>?_,j,Je q1 M hn H S hq y8,y9⟩
       have hg:S0.tmps.t.get i=some c:=by
        rw[hT] at hi
        simpa [AQ.get,hloc,BR] using hi
       exact AB.move M hn c _ (O0 hlt.2 i c hg) (y7 i c hi)
      ·cases hlt
     ·cases q1
   ·rw[Mem.at_ge hid];trivial
 ·cases h
theorem AJ.matched {n:Nat}{ρ0:Nat→Option Nat}{m0:Mem}{w0:World}(S:Db T1 T2 nh mh m)(heq:∀x,x < nh→T2 x=T1 x)(hn:n≤nh)(hm0:AH T1 n ρ0 m0 w0)(hne:∀id,m0.at id≠ .pad→mh.at id≠ .pad)
  (h:AJ T1 n ρ0 m0 w0 ρ m w):AJ T2 n ρ0 m0 w0 ρ mh w where
 os:=h.os
 tape:=h.tape
 output:=h.output
 size:=h.size
 mlen:=hne
 rho:=fun id hp=>by
  obtain⟨h1,h2⟩:=h.rho id hp
  refine⟨h1,?_⟩
  have h3:=hne id (BV hp)
  have:=S id
  generalize mh.at id=a at this h3⊢
  generalize m.at id=b at this h2
  cases this<;>first|rfl|(exact absurd rfl h3)|(cases h2;done)
 untr:=fun id hp ht=>h.untr id hp (S.tracked ht)
 fresh:=fun id b hp ht hr=>h.fresh id b hp (S.tracked ht) hr
 old:=h.old
 tok:=fun id x ks e hx=>by
  have hxn:=hm0.tok_lt hx
  have h3:=hne id (by rw[hx];exact fun h=>by cases h)
  have hs:=S id
  rcases h.tok id x ks e hx with⟨k1,k2,k3⟩|⟨k1,k2⟩
  ·rw[k1] at hs
   generalize hmh:mh.at id=a at hs h3
   cases hs with
   |pad=>exact absurd rfl h3
   |gone=>exact .inr ⟨fun b hb off _=>Bg (k3 b hb) off,.inl rfl⟩
   |same=>exact .inl ⟨rfl,k2,k3⟩
   |tok g1 g2 g3=>
    refine .inr ⟨fun b hb off _=>Bg (k3 b hb) off,.inr ⟨_,_,_,rfl,Nat.le_trans hn g1,fun b' hb'=> .inl ⟨by rw[←k2];exact hb',?_⟩⟩⟩
    unfold B4
    rw[g2,g3,heq x (by omega)]
    exact Nat.le_refl _
  ·refine .inr ⟨fun b hb off ho=>k1 b hb off (by unfold B4 at ho⊢;rw[heq x (by omega)] at ho;exact ho),?_⟩
   rcases k2 with k2|⟨x',ks',e',k2,k3,k4⟩
   ·rw[k2] at hs
    generalize hmh:mh.at id=a at hs h3
    cases hs with
    |pad=>exact absurd rfl h3
    |gone=>exact .inl rfl
   ·rw[k2] at hs
    generalize hmh:mh.at id=a at hs h3
    cases hs with
    |pad=>exact absurd rfl h3
    |gone=>exact .inl rfl
    |same _ _ _ hlt=>
     refine .inr ⟨_,_,_,rfl,k3,fun b' hb'=>?_⟩
     rcases k4 b' hb' with⟨j1,j2⟩|j1
     ·refine .inl ⟨j1,?_⟩
      unfold B4 at j2⊢
      rw[heq x (by omega),heq x' hlt]
      exact j2
     ·exact .inr j1
    |tok g1 g2 g3=>
     refine .inr ⟨_,_,_,rfl,Nat.le_trans hn g1,fun b' hb'=>?_⟩
     rcases k4 b' hb' with⟨j1,j2⟩|j1
     ·refine .inl ⟨j1,?_⟩
      unfold B4 at j2⊢
      rw[g2,g3,heq x (by omega)]
      exact j2
     ·exact .inr j1
 row:=fun id x y ks e hx=>by
  have h3:=hne id (by rw[hx];exact fun h=>by cases h)
  have hs:=S id
  rcases h.row id x y ks e hx with k1|⟨x',y',ks',k1,k2,k3⟩
  ·rw[k1] at hs
   generalize hmh:mh.at id=a at hs h3
   cases hs with
   |pad=>exact absurd rfl h3
   |gone=>exact .inl rfl
  ·rw[k1] at hs
   generalize hmh:mh.at id=a at hs h3
   cases hs with
   |pad=>exact absurd rfl h3
   |gone=>exact .inl rfl
   |mrow g1 g2=>exact .inr ⟨_,_,_,rfl,g2.trans k2,k3⟩
end
end Go.Eng
end
noncomputable section
namespace Go.Eng
open Go Go.RowKit
def XK.ex:XK→Exit
 | .normal=> .normal
 | .exit id=> .exit id
 | .ret=> .ret
theorem It {T:Tab}(pc:PC):((EG pc).eval T).toB=true↔pcv T pc:=by
 cases pc with
 |none=>exact⟨fun _=>trivial,fun _=>rfl⟩
 |some c=>exact FY.symm
def ML (T:Tab)(a b:Ar):Prop:=¬(pcv T a.pc∧pcv T b.pc)
structure Ct (T:Tab) (g:G) (N:Nat) (outs:List Ar):Prop where
 each:∀o∈outs,B7 g o.pc∧o.l.tmps.n=N
 apart:outs.Pairwise (ML T)
def RV (T:Tab)(n0:Nat)(ρ :Nat→Option Nat)(m:Mem)(w:World)(n:Nat)(outs:List Ar)(Q:Exit→Act→World→Prop):Prop:=
 ∀o∈outs,pcv T o.pc→∀ ρ' a' w',AJ T n0 ρ m w ρ' o.l.mem w'→Rel T n ρ' o.l a' w'→Q o.k.ex a' w'
section
variable {T:Tab}{g g':G}{N n0 n:Nat}{ρ :Nat→Option Nat}{m:Mem}{w:World}{Q:Exit→Act→World→Prop}
theorem ML.symm {a b:Ar}(h:ML T a b):ML T b a:=fun⟨h1,h2⟩=>h ⟨h2,h1⟩
theorem Ct.grow {outs:List Ar}(h:Ct T g N outs)(k:AP g g'):Ct T g' N outs:=⟨fun o ho=>⟨(h.each o ho).1.grow k,(h.each o ho).2⟩,h.apart⟩
theorem Ct.perm {l l':List Ar}(h:Ct T g N l)(p:l.Perm l'):Ct T g N l':=
 ⟨fun o ho=>h.each o (p.mem_iff.2 ho),(p.pairwise_iff (fun h=>ML.symm h)).1 h.apart⟩
theorem Rel.up {l:Loc}{a:Act}{n':Nat}(h:Rel T n ρ l a w)(hn:n≤n'):Rel T n' ρ l a w:=
 ⟨h.defers,h.size,fun i c hc=>(h.tmps i c hc).up0 hn,h.mem.mono hn⟩
theorem H4 {k:XK}:∀{l:List Ar} {p:Ar} {r:List Ar},GC k l=some (p,r)→p.k=k∧l.Perm (p::r)
 |[],_,_,h=>by cases h
 |o::os,p,r,h=>by
  simp only[GC] at h
  split at h
  ·rename_i hk;cases h;exact⟨hk,List.Perm.refl _⟩
  ·cases hp:GC k os with
   |none=>rw[hp] at h;cases h
   |some q=>
    obtain⟨p',r'⟩:=q
    rw[hp] at h
    cases h
    obtain⟨h1,h2⟩:=H4 hp
    exact⟨h1,(h2.cons o).trans (List.Perm.swap _ _ _)⟩
theorem NE {k:XK}:∀{l:List Ar},GC k l=none→∀o∈l,o.k≠k
 |[],_,o,h=>by cases h
 |o::os,h,o',ho=>by
  simp only[GC] at h
  split at h
  ·cases h
  ·rename_i hk
   cases hp:GC k os with
   |none=>
    cases ho with
    |head=>exact hk
    |tail _ ho=>exact NE hp o' ho
   |some q=>rw[hp] at h;cases h
theorem UT {k:XK}{l:List Ar}(h:noK k l=true):∀o∈l,o.k≠k:=fun o ho he=>by
 have:=List.all_eq_true.1 h o ho
 simp[he] at this
theorem dU {s:Rf}{p:Option PC}{a b c:Ar}(h:TD g s p a b=(c,g')):AP g g'∧(Agr T g'→B7 g a.pc→B7 g b.pc→a.l.tmps.n=N→b.l.tmps.n=N→
  (∀q,p=some q→B7 g q∧(pcv T q↔pcv T a.pc∨pcv T b.pc))→
  c.k=a.k∧c.l.tmps.n=N∧B7 g' c.pc∧(pcv T c.pc↔pcv T a.pc∨pcv T b.pc)∧
  ∀bs,(s.eval T).toB=bs→∀ ρ act w,Rel T g.n ρ (sel bs a.l b.l) act w→∃ ρ',AJ T g.n ρ (sel bs a.l b.l).mem w ρ' c.l.mem w∧Rel T g'.n ρ' c.l act w):=by
 unfold TD at h
 simp only at h
 have g1:AP g (g.pushAll (Fi g.n s a.l b.l).2):=AP.push _ _
 split at h
 ·rename_i q
  cases h
  refine⟨g1,fun hA ha hb la lb hp=>?_⟩
  obtain⟨p1,p2⟩:=hp q rfl
  refine⟨rfl,la,p1.grow g1,p2,fun bs hbs ρ act w hr=>?_⟩
  exact SF hbs (by rw[la,lb]) (Nat.le_refl _) hA.new (by rw[BY];exact Nat.le_refl _) hr
 ·cases h
  have g2:AP (g.pushAll (Fi g.n s a.l b.l).2) ((g.pushAll (Fi g.n s a.l b.l).2).pushAll [⟨ "or",oOr,[EG a.pc,EG b.pc]⟩]):=AP.push _ _
  refine⟨g1.trans g2,fun hA ha hb la lb hp=>?_⟩
  have hA1:=hA.of g2
  have hnew:=hA.new.head
  refine⟨rfl,la,(by show _ < _;rw[BY (G.pushAll _ _) [_]];exact Nat.lt_succ_self _),?_,fun bs hbs ρ act w hr=>?_⟩
  ·rw[FY,hnew,←It (T:=T) a.pc,←It (T:=T) b.pc]
   simp[Ex.eval,oOr,u0,u1,U.toB]
  ·obtain⟨ρ',h1,h2⟩:=SF hbs (by rw[la,lb]) (Nat.le_refl _) hA1.new (n':=(g.pushAll (Fi g.n s a.l b.l).2).n) (by rw[BY];exact Nat.le_refl _) hr
   exact⟨ρ',h1,h2.up g2.n⟩
theorem G0 {s:Option Rf}{norm:Option PC}:∀{as bs r:List Ar} {g g':G},Du s norm as bs g=(r,g')→AP g g'∧(Agr T g'→Ct T g N (as++bs)→
  (∀q,s=some q→(∀a∈as,pcv T a.pc→(q.eval T).toB=true)∧(∀b∈bs,pcv T b.pc→(q.eval T).toB=false))→
  (∀q,norm=some q→B7 g q∧∀a∈as,∀b∈bs,a.k= .normal→b.k= .normal→(pcv T q↔pcv T a.pc∨pcv T b.pc))→
  Ct T g' N r∧(∀o∈r,pcv T o.pc→∃o0∈as++bs,pcv T o0.pc)∧
  ∀n0 ρ m w Q,n0≤g.n→AH T n0 ρ m w→RV T n0 ρ m w g'.n r Q→RV T n0 ρ m w g.n (as++bs) Q)
 |[],bs,r,g,g',h=>by
  simp only[Du] at h
  cases h
  exact⟨AP.refl _,fun _ hg _ _=>⟨hg,fun o ho hp=>⟨o,ho,hp⟩,fun _ _ _ _ _ _ _ h=>h⟩⟩
 |a::as,bs,r,g,g',h=>by
  simp only[Du] at h
  split at h
  ·rename_i hpop
   cases hj:Du s norm as bs g with
   |mk r1 g1=>
    rw[hj] at h
    cases h
    obtain⟨g1,k1⟩:=G0 (as:=as) hj
    refine⟨g1,fun hA hg hs hn=>?_⟩
    have hgt:Ct T g N (as++bs):=⟨fun o ho=>hg.each o (List.mem_cons_of_mem _ ho),(List.pairwise_cons.1 hg.apart).2⟩
    obtain⟨q1,q2,q3⟩:=k1 hA hgt (fun q hq=>⟨fun a ha=>(hs q hq).1 a (List.mem_cons_of_mem _ ha),(hs q hq).2⟩) (fun q hq=>⟨(hn q hq).1,fun a ha=>(hn q hq).2 a (List.mem_cons_of_mem _ ha)⟩)
    have hapart:=(List.pairwise_cons.1 hg.apart).1
    have ha:=hg.each a (List.mem_cons_self ..)
    refine⟨⟨?_,?_⟩,?_,?_⟩
    ·intro o ho
     cases ho with
     |head=>exact⟨ha.1.grow g1,ha.2⟩
     |tail _ ho=>exact q1.each o ho
    ·refine List.pairwise_cons.2 ⟨fun o ho hc=>?_,q1.apart⟩
     obtain⟨o0,h0,h1⟩:=q2 o ho hc.2
     exact hapart o0 h0 ⟨hc.1,h1⟩
    ·intro o ho hp
     cases ho with
     |head=>exact⟨a,List.mem_cons_self ..,hp⟩
     |tail _ ho=>
      obtain⟨o0,h0,h1⟩:=q2 o ho hp
      exact⟨o0,List.mem_cons_of_mem _ h0,h1⟩
    ·intro n0 ρ m w Q hn0 hm hO o ho hp
     cases ho with
     |head=>exact fun ρ' a' w' hst hr=>hO a (List.mem_cons_self ..) hp ρ' a' w' hst (hr.up g1.n)
     |tail _ ho=>exact q3 n0 ρ m w Q hn0 hm (fun o ho=>hO o (List.mem_cons_of_mem _ ho)) o ho hp
  ·rename_i b bs' hpop
   obtain⟨hbk,hperm⟩:=H4 hpop
   cases hj2:TD g (s.getD (EG a.pc)) (if a.k= .normal then norm else none) a b with
   |mk c gm=>
    rw[hj2] at h
    simp only at h
    cases hj:Du s norm as bs' gm with
    |mk r1 g1=>
     rw[hj] at h
     cases h
     obtain⟨gr1,k1⟩:=dU (T:=T) (N:=N) hj2
     obtain⟨gr2,k2⟩:=G0 (as:=as) hj
     refine⟨gr1.trans gr2,fun hA hg hs hn=>?_⟩
     have hp:(a::as++bs).Perm (a::b::(as++bs')):=by
      refine List.Perm.cons a ?_
      exact (List.Perm.append_left as hperm).trans List.perm_middle
     have hg2:=hg.perm hp
     have hA1:=hA.of gr2
     have hbm:b∈bs:=hperm.mem_iff.2 (List.mem_cons_self ..)
     have hbs:∀o∈bs',o∈bs:=fun o ho=>hperm.mem_iff.2 (List.mem_cons_of_mem _ ho)
     have ha:=hg2.each a (List.mem_cons_self ..)
     have hb:=hg2.each b (List.mem_cons_of_mem _ (List.mem_cons_self ..))
     have pw:=List.pairwise_cons.1 hg2.apart
     have pw2:=List.pairwise_cons.1 pw.2
     have hgt:Ct T gm N (as++bs'):=Ct.grow ⟨fun o ho=>hg2.each o (List.mem_cons_of_mem _ (List.mem_cons_of_mem _ ho)),pw2.2⟩ gr1
     obtain⟨c1,c2,c3,c4,c5⟩:=k1 hA1 ha.1 hb.1 ha.2 hb.2 (fun q hq=>by
      split at hq
      ·rename_i hk
       obtain⟨z1,z2⟩:=hn q hq
       exact⟨z1,z2 a (List.mem_cons_self ..) b hbm hk (by rw[hbk,hk])⟩
      ·cases hq)
     obtain⟨q1,q2,q3⟩:=k2 hA hgt (fun q hq=>⟨fun a ha=>(hs q hq).1 a (List.mem_cons_of_mem _ ha),fun b hb=>(hs q hq).2 b (hbs b hb)⟩)
      (fun q hq=>⟨(hn q hq).1.grow gr1,fun a ha b hb=>(hn q hq).2 a (List.mem_cons_of_mem _ ha) b (hbs b hb)⟩)
     have hmem:∀o,o∈(as++bs')→o∈(a::as++bs):=fun o ho=>hp.mem_iff.2 (List.mem_cons_of_mem _ (List.mem_cons_of_mem _ ho))
     have hsa:pcv T a.pc→((s.getD (EG a.pc)).eval T).toB=true:=fun hp=>by
      cases s with
      |none=>exact (It a.pc).2 hp
      |some q=>exact (hs q rfl).1 a (List.mem_cons_self ..) hp
     have hsb:pcv T b.pc→((s.getD (EG a.pc)).eval T).toB=false:=fun hp=>by
      cases s with
      |none=>
       simp only[Option.getD_none]
       cases hq:((EG a.pc).eval T).toB with
       |false=>rfl
       |true=>exact absurd ⟨(It a.pc).1 hq,hp⟩ (pw.1 b (List.mem_cons_self ..))
      |some q=>exact (hs q rfl).2 b hbm hp
     refine⟨⟨?_,?_⟩,?_,?_⟩
     ·intro o ho
      cases ho with
      |head=>exact⟨c3.grow gr2,c2⟩
      |tail _ ho=>exact q1.each o ho
     ·refine List.pairwise_cons.2 ⟨fun o ho hc=>?_,q1.apart⟩
      obtain⟨o0,h0,h1⟩:=q2 o ho hc.2
      rcases c4.1 hc.1 with h2|h2
      ·exact pw.1 o0 (List.mem_cons_of_mem _ h0) ⟨h2,h1⟩
      ·exact pw2.1 o0 h0 ⟨h2,h1⟩
     ·intro o ho hp
      cases ho with
      |head=>
       rcases c4.1 hp with h2|h2
       ·exact⟨a,List.mem_cons_self ..,h2⟩
       ·exact⟨b,List.mem_append_right _ hbm,h2⟩
      |tail _ ho=>
       obtain⟨o0,h0,h1⟩:=q2 o ho hp
       exact⟨o0,hmem o0 h0,h1⟩
     ·intro n0 ρ m w Q hn0 hm hO o ho hpo ρ' a' w' hst hr
      have ho2:=hp.mem_iff.1 ho
      have merged:sel ((s.getD (EG a.pc)).eval T).toB a.l b.l=o.l→pcv T c.pc→o.k=a.k→Q o.k.ex a' w':=fun e hc hk=>by
       obtain⟨ρ2,s1,s2⟩:=c5 _ rfl ρ' a' w' (by rw[e];exact hr)
       rw[e] at s1
       rw[hk,←c1]
       exact hO c (List.mem_cons_self ..) hc ρ2 a' w' (hst.trans hm hn0 s1) (s2.up gr2.n)
      cases ho2 with
      |head=>exact merged (by rw[hsa hpo];rfl) (c4.2 (.inl hpo)) rfl
      |tail _ ho2=>
       cases ho2 with
       |head=>exact merged (by rw[hsb hpo];rfl) (c4.2 (.inr hpo)) hbk
       |tail _ ho2=>exact q3 n0 ρ m w Q (Nat.le_trans hn0 gr1.n) hm (fun o ho=>hO o (List.mem_cons_of_mem _ ho)) o ho2 hpo ρ' a' w' hst (hr.up gr1.n)
end
end Go.Eng
end
noncomputable section
namespace Go.Eng
open Go Go.RowKit
def B9 (T:Tab)(K:(Exit→Act→World→Prop)→Act→World→Prop)(r:PC→Loc→G→Option (List Ar × G)):Prop:=
 ∀pc l g outs g',r pc l g=some (outs,g')→AP g g'∧(Agr T g'→B7 g pc→Ct T g' l.tmps.n outs∧(∀o∈outs,pcv T o.pc→pcv T pc)∧
  (An T g'→pcv T pc→∀ ρ a w Q,Rel T g.n ρ l a w→RV T g.n ρ l.mem w g'.n outs Q→K Q a w))
section
variable {P:Program}{T:Tab}{K1 K2:(Exit→Act→World→Prop)→Act→World→Prop}{r1 r2:PC→Loc→G→Option (List Ar × G)}
theorem B9.mono (h:B9 T K1 r1)(hk:∀Q a w,K1 Q a w→K2 Q a w):B9 T K2 r1:=by
 intro pc l g outs g' hr
 obtain⟨h1,h2⟩:=h pc l g outs g' hr
 refine⟨h1,fun hA hp=>?_⟩
 obtain⟨h3,h4,h5⟩:=h2 hA hp
 exact⟨h3,h4,fun ho hpc ρ a w Q hR hO=>hk Q a w (h5 ho hpc ρ a w Q hR hO)⟩
theorem Q1 {k:XK}(h:k≠ .normal){F:Act→World→Prop}{Q:Exit→Act→World→Prop}{a:Act}{w:World}(hq:Q k.ex a w):Exit.then F Q k.ex a w:=by
 cases k with
 |normal=>exact absurd rfl h
 |exit id=>exact hq
 |ret=>exact hq
theorem Ok (h1:B9 T K1 r1)(h2:B9 T K2 r2):B9 T (fun Q=>K1 (Exit.then (K2 Q) Q)) (fun pc l g=>do let (outs,g) ←r1 pc l g;P5 outs g r2):=by
 intro pc l g outs' g' hr
 simp only[Option.bind_eq_bind,Option.bind_eq_some_iff] at hr
 obtain⟨⟨outs,g1⟩,hr1,hr⟩:=hr
 obtain⟨gr1,k1⟩:=h1 pc l g outs g1 hr1
 simp only at hr
 unfold P5 at hr
 split at hr
 ·rename_i hpop
  cases hr
  refine⟨gr1,fun hA hp=>?_⟩
  obtain⟨q1,q2,q3⟩:=k1 hA hp
  refine⟨q1,q2,fun ho hpc ρ a w Q hR hO=>q3 ho hpc ρ a w _ hR fun o ho hp ρ' a' w' hs hr=>?_⟩
  exact Q1 (NE hpop o ho) (hO o ho hp ρ' a' w' hs hr)
 ·rename_i o rest hpop
  split at hr
  ·rename_i hno
   simp only[Option.bind_eq_bind,Option.bind_eq_some_iff] at hr
   obtain⟨⟨outs2,g2⟩,hr2,hr⟩:=hr
   simp only[Option.some.injEq] at hr
   obtain⟨hok,hperm⟩:=H4 hpop
   obtain⟨gr2,k2⟩:=h2 o.pc o.l g1 outs2 g2 hr2
   obtain⟨gr3,k3⟩:=G0 (T:=T) (N:=l.tmps.n) hr
   refine⟨(gr1.trans gr2).trans gr3,fun hA hp=>?_⟩
   have hA2:=hA.of gr3
   have hA1:=hA2.of gr2
   obtain⟨q1,q2,q3⟩:=k1 hA1 hp
   have q1':=q1.perm hperm
   have ho:=q1'.each o (List.mem_cons_self ..)
   obtain⟨s1,s2,s3⟩:=k2 hA2 ho.1
   rw[ho.2] at s1
   have pw:=List.pairwise_cons.1 q1'.apart
   have hgood:Ct T g2 l.tmps.n (rest++outs2):=by
    refine⟨fun x hx=>?_,List.pairwise_append.2 ⟨pw.2,s1.apart,fun x hx y hy hc=>pw.1 x hx ⟨s2 y hy hc.2,hc.1⟩⟩⟩
    rcases List.mem_append.1 hx with hx|hx
    ·have:=q1'.each x (List.mem_cons_of_mem _ hx)
     exact⟨this.1.grow gr2,this.2⟩
    ·exact s1.each x hx
   obtain⟨t1,t2,t3⟩:=k3 hA hgood (fun q hq=>by cases hq) (fun q hq=>by cases hq)
   refine⟨t1,fun x hx hpx=>?_,fun hob hpc ρ a w Q hR hO=>?_⟩
   ·obtain⟨x0,h0,h1⟩:=t2 x hx hpx
    rcases List.mem_append.1 h0 with h0|h0
    ·exact q2 x0 (hperm.mem_iff.2 (List.mem_cons_of_mem _ h0)) h1
    ·exact q2 o (hperm.mem_iff.2 (List.mem_cons_self ..)) (s2 x0 h0 h1)
   ·have hO2:=t3 g.n ρ l.mem w Q (gr1.trans gr2).n hR.mem hO
    refine q3 ((hob.of gr3).of gr2) hpc ρ a w _ hR fun x hx hpx ρ' a' w' hs hr=>?_
    have hx2:=hperm.mem_iff.1 hx
    cases hx2 with
    |head=>
     rw[hok]
     refine s3 (hob.of gr3) hpx ρ' a' w' Q hr fun y hy hpy ρ2 a2 w2 hs2 hr2=>?_
     exact hO2 y (List.mem_append_right _ hy) hpy ρ2 a2 w2 (hs.trans hR.mem gr1.n hs2) hr2
    |tail _ hx2=>
     exact Q1 (UT hno x hx2) (hO2 x (List.mem_append_left _ hx2) hpx ρ' a' w' hs (hr.up gr2.n))
  ·cases hr
theorem bQ:∀{a b:PC},QJ a b=true→a=b
 |none,none,_=>rfl
 |some a,some b,h=>by rw[Nat.eq_of_beq_eq_true h]
 |none,some _,h=>by cases h
 |some _,none,h=>by cases h
theorem cz {rec:Code→PC→Loc→G→Option (List Ar × G)}{x:Nat}{ca cb:Code}(ha:B9 T K1 (rec ca))(hb:B9 T K2 (rec cb)):
  B9 T (fun Q a w=>((T x).toB=true→K1 Q a w)∧((T x).toB=false→K2 Q a w)) (PP rec x ca cb):=by
 intro pc l g outs g' hr
 unfold PP at hr
 split at hr
 ·cases hr
 rename_i hx0
 have hx:x < g.n:=by rw[Bool.not_eq_false,Nat.blt_eq] at hx0;exact hx0
 cases hb1:CD g pc x true with
 |mk pa g1=>
  simp only[hb1,Option.bind_eq_bind,Option.bind_eq_some_iff] at hr
  obtain⟨⟨oa,g2⟩,hra,hr⟩:=hr
  simp only at hr
  cases hb2:CD g2 pc x false with
  |mk pb g3=>
   simp only[hb2,Option.bind_eq_some_iff] at hr
   obtain⟨⟨ob,g4⟩,hrb,hr⟩:=hr
   simp only[Option.some.injEq] at hr
   obtain⟨gr1,b1⟩:=D0 (T:=T) hb1
   obtain⟨gr2,b2⟩:=ha pa l g1 oa g2 hra
   obtain⟨gr3,b3⟩:=D0 (T:=T) hb2
   obtain⟨gr4,b4⟩:=hb pb l g3 ob g4 hrb
   obtain⟨gr5,b5⟩:=G0 (T:=T) (N:=l.tmps.n) hr
   have gr12:=gr1.trans gr2
   have gr123:=gr12.trans gr3
   refine⟨(gr123.trans gr4).trans gr5,fun hA hp=>?_⟩
   have hA4:=hA.of gr5
   have hA3:=hA4.of gr4
   have hA2:=hA3.of gr3
   have hA1:=hA2.of gr2
   obtain⟨p1,p2⟩:=b1 hA1 hp hx
   obtain⟨p3,p4⟩:=b3 hA3 (hp.grow gr12) (Nat.lt_of_lt_of_le hx gr12.n)
   obtain⟨q1,q2,q3⟩:=b2 hA2 p1
   obtain⟨q4,q5,q6⟩:=b4 hA4 p3
   have hgood:Ct T g4 l.tmps.n (oa++ob):=by
    refine⟨fun y hy=>?_,List.pairwise_append.2 ⟨q1.apart,q4.apart,fun y hy z hz hc=>?_⟩⟩
    ·rcases List.mem_append.1 hy with hy|hy
     ·exact⟨((q1.each y hy).1.grow gr3).grow gr4,(q1.each y hy).2⟩
     ·exact q4.each y hy
    ·have e1:=(p2.1 (q2 y hy hc.1)).2
     have e2:=(p4.1 (q5 z hz hc.2)).2
     rw[e1] at e2;cases e2
   obtain⟨t1,t2,t3⟩:=b5 hA hgood
    (fun q hq=>by
     cases hq
     exact⟨fun a ha hpa=>(p2.1 (q2 a ha hpa)).2,fun b hb hpb=>(p4.1 (q5 b hb hpb)).2⟩)
    (fun q hq=>by
     split at hq
     ·rename_i hwh
      cases hq
      refine⟨hp.grow (gr123.trans gr4),fun a ha b hb _ _=>?_⟩
      simp only[Bool.and_eq_true,decide_eq_true_eq] at hwh
      obtain⟨⟨⟨w1,w2⟩,w3⟩,w4⟩:=hwh
      have one:∀{o:Ar} {l:List Ar} {p:PC},l.length=1→(l.any fun o=>decide (o.k= .normal)&&QJ o.pc p)=true→o∈l→o.pc=p:=by
       intro o l p h1 h2 h3
       cases l with
       |nil=>cases h3
       |cons z l=>
        have:l=[]:=List.eq_nil_of_length_eq_zero (by simpa using h1)
        subst this
        simp at h2 h3
        subst h3
        exact bQ h2.2
      rw[one w3 w1 ha,one w4 w2 hb,p2,p4]
      cases (T x).toB<;>simp
     ·cases hq)
   refine⟨t1,fun y hy hpy=>?_,fun hob hpc ρ a w Q hR hO=>?_⟩
   ·obtain⟨y0,h0,h1⟩:=t2 y hy hpy
    rcases List.mem_append.1 h0 with h0|h0
    ·exact (p2.1 (q2 y0 h0 h1)).1
    ·exact (p4.1 (q5 y0 h0 h1)).1
   ·have hO2:=t3 g.n ρ l.mem w Q (gr123.trans gr4).n hR.mem hO
    have hob4:=hob.of gr5
    refine⟨fun hxt=>?_,fun hxf=>?_⟩
    ·refine q3 (hob4.of (gr3.trans gr4)) (p2.2 ⟨hpc,hxt⟩) ρ a w Q (hR.up gr1.n) fun y hy hpy ρ' a' w' hs hr=>?_
     exact hO2 y (List.mem_append_left _ hy) hpy ρ' a' w' (hs.down gr1.n) (hr.up (gr3.trans gr4).n)
    ·refine q6 hob4 (p4.2 ⟨hpc,hxf⟩) ρ a w Q (hR.up gr123.n) fun y hy hpy ρ' a' w' hs hr=>?_
     exact hO2 y (List.mem_append_right _ hy) hpy ρ' a' w' (hs.down gr123.n) hr
end
end Go.Eng
end
noncomputable section
namespace Go.Eng
open Go Go.RowKit
theorem Tab.ext' {T1 T2:Tab}(h1:∀x,T1 x=T2 x)(h2:T1.fr=T2.fr)(h3:T1.lp=T2.lp)(h4:T1.base=T2.base):T1=T2:=by
 obtain⟨g1,f1,l1,b1⟩:=T1
 obtain⟨g2,f2,l2,b2⟩:=T2
 have:g1=g2:=funext h1
 simp only at h2 h3 h4
 rw[this,h2,h3,h4]
theorem HL (T:Tab)(x:Nat)(u:U):(T.upd x u) x=u:=by
 show (bif Nat.beq x x then u else T x)=u
 rw[(DI x x).2 rfl];rfl
theorem DW (T:Tab){x y:Nat}(u:U)(h:y≠x):(T.upd x u) y=T y:=by
 show (bif Nat.beq y x then u else T y)=T y
 have:Nat.beq y x=false:=by
  cases hb:Nat.beq y x with
  |false=>rfl
  |true=>exact absurd ((DI _ _).1 hb) h
 rw[this];rfl
theorem GT:∀(us:List U) (T:Tab) (nh x:Nat),x < nh→(T.upds nh us) x=T x
 |[],_,_,_,_=>rfl
 |u::us,T,nh,x,h=>by
  simp only[Tab.upds]
  rw[GT us _ _ _ (by omega),DW _ _ (by omega)]
theorem Xd:∀(us:List U) (T:Tab) (nh x:Nat),nh+us.length≤x→(T.upds nh us) x=T x
 |[],_,_,_,_=>rfl
 |u::us,T,nh,x,h=>by
  simp only[List.length_cons] at h
  simp only[Tab.upds]
  rw[Xd us _ _ _ (by omega),DW _ _ (by omega)]
theorem GA:∀(us:List U) (T:Tab) (nh j:Nat) (u:U),us[j]? =some u→(T.upds nh us) (nh+j)=u
 |[],_,_,_,_,h=>by simp at h
 |v::us,T,nh,j,u,h=>by
  simp only[Tab.upds]
  cases j with
  |zero=>
   simp at h;subst h
   rw[GT us _ _ _ (by omega)]
   exact HL _ _ _
  |succ j=>
   rw[show nh+(j+1)=nh+1+j by omega]
   exact GA us _ _ j u (by simpa using h)
theorem NN:∀(us:List U) (T:Tab) (nh:Nat),(T.upds nh us).fr=T.fr∧(T.upds nh us).lp=T.lp∧(T.upds nh us).base=T.base
 |[],_,_=>⟨rfl,rfl,rfl⟩
 |u::us,T,nh=>by
  simp only[Tab.upds]
  exact NN us _ _
theorem IU:∀(eqs:List (Nat × Ex)) (T:Tab),(BW T eqs).fr=T.fr∧(BW T eqs).lp=T.lp∧(BW T eqs).base=T.base
 |[],_=>⟨rfl,rfl,rfl⟩
 |(x,e)::r,T=>by
  simp only[BW]
  exact IU r T
theorem KQ {T:Tab}:∀(fv:List Nat) (x:Nat),x∈fv→(KW fv (fv.map T.get)) x=T x
 |[],x,h=>by cases h
 |y::fv,x,h=>by
  simp only[List.map_cons,KW]
  by_cases hxy:x=y
  ·subst hxy;exact HL _ _ _
  ·rw[DW _ _ hxy]
   cases h with
   |head=>exact absurd rfl hxy
   |tail _ h=>exact KQ fv x h
theorem Ej {T1 T2:Tab}:∀(l:List Rf),(∀x∈EZ l,T1 x=T2 x)→l.map (Rf.eval T1)=l.map (Rf.eval T2)
 |[],_=>rfl
 | .c u::l,h=>by
  simp only[List.map_cons,Rf.eval]
  rw[Ej l (fun x hx=>h x hx)]
 | .e y::l,h=>by
  simp only[List.map_cons,Rf.eval]
  rw[Ej l (fun x hx=>h x (List.mem_cons_of_mem _ hx)),h y (List.mem_cons_self ..)]
 | .n y::l,h=>by
  simp only[List.map_cons,Rf.eval]
  rw[Ej l (fun x hx=>h x (List.mem_cons_of_mem _ hx)),h y (List.mem_cons_self ..)]
theorem UF {T1 T2:Tab}{e:Ex}(h:∀x∈EZ e.args,T1 x=T2 x):e.eval T1=e.eval T2:=by
 unfold Ex.eval
 rw[Ej e.args h]
theorem EO {fv:List Nat}{nh top:Nat}{l:List Nat}(h:FD fv nh top l=true):∀x∈l,x∈fv∨(nh≤x∧x < top):=fun x hx=>by
 have:=List.all_eq_true.1 h x hx
 simp only[Bool.or_eq_true,Bool.and_eq_true] at this
 rcases this with h1|⟨h1,h2⟩
 ·exact .inl (by simpa using h1)
 ·exact .inr ⟨Nat.le_of_ble_eq_true h1,Be h2⟩
section
variable {fv:List Nat}{nh lo:Nat}
theorem DR {T:Tab}:∀{eqs:List (Nat × Ex)} {top:Nat},DO fv nh lo top eqs=true→lo≤top∧(∀p∈eqs,lo≤p.1∧p.1 < top)∧∀y,(y < lo∨top≤y)→BW T eqs y=T y
 |[],top,h=>⟨by rw[Nat.eq_of_beq_eq_true h];exact Nat.le_refl _,(fun p hp=>by cases hp),fun _ _=>rfl⟩
 |(x,e)::r,top,h=>by
  simp only[DO,Bool.and_eq_true] at h
  have hx:=Nat.eq_of_beq_eq_true h.1.1
  obtain⟨h1,h2,h3⟩:=DR (T:=T) h.2
  refine⟨by omega,fun p hp=>?_,fun y hy=>?_⟩
  ·cases hp with
   |head=>exact⟨h1,by omega⟩
   |tail _ hp=>have:=h2 p hp;exact⟨this.1,by omega⟩
  ·simp only[BW]
   rw[DW _ _ (by omega)]
   exact h3 y (by omega)
theorem IE {T:Tab}(hfv:∀x∈fv,x < nh)(hlo:nh≤lo):∀{eqs:List (Nat × Ex)} {top:Nat},DO fv nh lo top eqs=true→∀p∈eqs,(BW T eqs) p.1=p.2.eval (BW T eqs)
 |[],_,_,p,hp=>by cases hp
 |(x,e)::r,top,h,p,hp=>by
  simp only[DO,Bool.and_eq_true] at h
  obtain⟨h1,h2,_⟩:=DR (T:=T) h.2
  have argsOk:∀{e':Ex} {y:Nat},y≤x→FD fv nh y (EZ e'.args)=true→e'.eval (BW T ((x,e)::r))=e'.eval (BW T r):=by
   intro e' y hy hs
   refine UF fun z hz=>?_
   simp only[BW]
   refine DW _ _ ?_
   rcases EO hs z hz with q|q
   ·have:=hfv z q;omega
   ·omega
  cases hp with
  |head=>
   have:=argsOk (e':=e) (Nat.le_refl x) h.1.2
   rw[this]
   simp only[BW]
   exact HL _ _ _
  |tail _ hp=>
   have ih:=IE (T:=T) hfv hlo h.2 p hp
   have hb:=h2 p hp
   have harg:FD fv nh p.1 (EZ p.2.args)=true:=by
    have key:∀{r:List (Nat × Ex)} {top:Nat},DO fv nh lo top r=true→p∈r→FD fv nh p.1 (EZ p.2.args)=true:=by
     intro r
     induction r with
     |nil=>intro top _ hp;cases hp
     |cons q r ih=>
      intro top h hp
      obtain⟨x,e⟩:=q
      simp only[DO,Bool.and_eq_true] at h
      cases hp with
      |head=>exact h.1.2
      |tail _ hp=>exact ih h.2 hp
    exact key h.2 hp
   rw[argsOk (e':=p.2) (y:=p.1) (by omega) harg]
   simp only[BW]
   rw[DW _ _ (by omega)]
   exact ih
theorem MP {T:Tab}:∀{eqs:List (Nat × Ex)},(∀p∈eqs,T p.1=p.2.eval T)→BW T eqs=T
 |[],_=>rfl
 |(x,e)::r,h=>by
  simp only[BW]
  rw[MP (fun p hp=>h p (List.mem_cons_of_mem _ hp))]
  refine Tab.ext' (fun y=>?_) rfl rfl rfl
  by_cases hy:y=x
  ·subst hy
   rw[HL]
   exact (h (y,e) (List.mem_cons_self ..)).symm
  ·exact DW _ _ hy
theorem Kj {T1 T2:Tab}(hfv:∀x∈fv,x < nh)(hlo:nh≤lo)(ha:∀x,x∈fv∨(nh≤x∧x < lo)→T1 x=T2 x):∀{eqs:List (Nat × Ex)} {top:Nat},DO fv nh lo top eqs=true→
  ∀x,x∈fv∨(nh≤x∧x < top)→(BW T1 eqs) x=(BW T2 eqs) x
 |[],top,h,x,hx=>by
  rw[Nat.eq_of_beq_eq_true h] at hx
  exact ha x hx
 |(y,e)::r,top,h,x,hx=>by
  simp only[DO,Bool.and_eq_true] at h
  have hy:=Nat.eq_of_beq_eq_true h.1.1
  obtain⟨h1,_,_⟩:=DR (T:=T1) h.2
  have ih:=Kj hfv hlo ha h.2
  simp only[BW]
  by_cases hxy:x=y
  ·subst hxy
   rw[HL,HL]
   exact UF fun z hz=>ih z (EO h.1.2 z hz)
  ·rw[DW _ _ hxy,DW _ _ hxy]
   refine ih x ?_
   rcases hx with hx|hx
   ·exact .inl hx
   ·exact .inr ⟨hx.1,by omega⟩
end
theorem De.trans {α:Type}{f:α→Option α}{s t u:α}(h:De f s t)(k:De f t u):De f s u:=by
 induction k with
 |zero=>exact h
 |succ _ e ih=>exact .succ ih e
theorem Lw {α:Type}{f:α→Option α}:∀(n:Nat) (s t:α),El f n s=some t→De f s t
 |0,s,t,h=>by simp only[El] at h;cases h;exact .zero
 |n+1,s,t,h=>by
  simp only[El,Option.bind_eq_some_iff] at h
  obtain⟨u,h1,h2⟩:=h
  exact (De.succ .zero h1).trans (Lw n u t h2)
theorem YJ {α:Type}{f:α→Option α}{s t u:α}{n:Nat}(hn:El f n s=some t)(ht:f t=none)(h:De f s u):∃m,El f m u=some t:=by
 induction h with
 |zero=>exact⟨n,hn⟩
 |succ _ e ih=>
  obtain⟨m,hm⟩:=ih
  cases m with
  |zero=>simp only[El] at hm;cases hm;rw[ht] at e;cases e
  |succ m=>
   simp only[El,e,Option.bind_some] at hm
   exact⟨m,hm⟩
theorem XE {α:Type}{f:α→Option α}{s t:α}{n:Nat}(hn:El f n s=some t)(ht:f t=none):ZT f s=t:=by
 have hex:∃t,De f s t∧f t=none:=⟨t,Lw n s t hn,ht⟩
 unfold ZT
 rw[dif_pos hex]
 obtain⟨h1,h2⟩:=Classical.choose_spec hex
 obtain⟨m,hm⟩:=YJ hn ht h1
 cases m with
 |zero=>simp only[El] at hm;injection hm
 |succ m=>simp only[El,h2,Option.bind_none] at hm;cases hm
theorem B7.n {g g':G}{pc:PC}(h:B7 g pc)(hn:g.n≤g'.n):B7 g' pc:=by
 cases pc with
 |none=>trivial
 |some c=>exact Nat.lt_of_lt_of_le h hn
theorem Io {T:Tab}{pc:PC}:pcB T pc=true↔pcv T pc:=by
 cases pc with
 |none=>exact⟨fun _=>trivial,fun _=>rfl⟩
 |some c=>exact FY.symm
theorem ZX {lps:List (Nat × Bf)}{nh:Nat}{rs:List Rf}{hl l:Loc}{ps:List Pr}(h:Es lps nh rs hl l=some ps):hl.tmps.n=l.tmps.n:=by
 unfold Es at h
 split at h
 ·rename_i hc
  simp only[Bool.and_eq_true] at hc
  exact Nat.eq_of_beq_eq_true hc.2
 ·cases h
section
variable {P:Program}{T:Tab}{r:Option Nat}{kk:Nat}
theorem Z0 {c:Code}{rec:PC→Loc→G→Option (List Ar × G)}(hrec:∀T':Tab,T'.lp=T.lp→B9 T' (fun Q a w=>c.wpIn (fen r) kk P Q a w) rec)(p:DH):
  B9 T (fun Q a w=>(Code.loop c).wpIn (fen r) kk P Q a w) (Ta rec p):=by
 intro pc l g outs g' h
 unfold Ta at h
 simp only[Option.bind_eq_bind,Option.bind_eq_some_iff] at h
 obtain⟨hl,hhl,⟨inits,psx⟩,hin,ps0,hm0,⟨outs2,g2⟩,hr,h⟩:=h
 simp only at h hm0 hr
 split at h
 ·cases h
 rename_i o rest hpop
 simp only[Option.bind_eq_some_iff] at h
 obtain⟨⟨nxt,psy⟩,hnx,ps1,hm1,h⟩:=h
 simp only at h hm1
 generalize hD:({ nh:=g.n,k:=inits.length,eqs:=g2.eqs,pcn:=o.pc,nxt,obs:=ps1.map (Ob.mk o.pc)++g2.obs,fv:=Pv g.n g2.eqs o.pc nxt (ps1.map (Ob.mk o.pc)++g2.obs) }:Ae)=D at h
 split at h
 ·rename_i hc
  simp only[Bool.and_eq_true] at hc
  obtain⟨⟨⟨hsc,hnl⟩,hml⟩,hno⟩:=hc
  have hnl:=Nat.eq_of_beq_eq_true hnl
  have hml:=Nat.eq_of_beq_eq_true hml
  have dnh:D.nh=g.n:=by rw[←hD]
  have dk:D.k=inits.length:=by rw[←hD]
  have dfv:D.fv=Pv g.n g2.eqs o.pc nxt (ps1.map (Ob.mk o.pc)++g2.obs):=by rw[←hD]
  have deqs:D.eqs=g2.eqs:=by rw[←hD]
  have dpcn:D.pcn=o.pc:=by rw[←hD]
  have dnxt:D.nxt=nxt:=by rw[←hD]
  have dobs:D.obs=ps1.map (Ob.mk o.pc)++g2.obs:=by rw[←hD]
  cases h
  obtain⟨gr,k0⟩:=hrec T rfl pc hl _ outs2 g2 hr
  have hgn:g.n+inits.length≤g2.n:=gr.n
  obtain⟨hok,hperm⟩:=H4 hpop
  have memEqs:∀p,p∈Gi g.n (D.heads inits) g.eqs→p∈g2.eqs++Gi g.n (D.heads inits) g.eqs:=fun p hp=>List.mem_append_right _ hp
  refine⟨⟨by show g.n≤g2.n;omega,fun p hp=>memEqs p ((Gn _ _ _ _).2 (.inl hp)),fun x hx=>List.mem_cons_of_mem _ (List.mem_append_right _ hx),gr.lps⟩,fun hA hp=>?_⟩
  have hlps:∀p∈g.lps,T.lp p.1=p.2:=fun p hp=>hA.lps p (gr.lps p hp)
  have hA2:Agr T g2:=⟨fun p hp=>hA.eqs p (List.mem_append_left _ hp),hA.lps⟩
  have hpH:B7 { n:=g.n+inits.length,eqs:=[],obs:=[],lps:=g.lps } pc:=hp.n (Nat.le_add_right _ _)
  obtain⟨q1,q2,_⟩:=k0 hA2 hpH
  have q1':=q1.perm hperm
  have pw:=List.pairwise_cons.1 q1'.apart
  have hln:hl.tmps.n=l.tmps.n:=ZX hm0
  refine⟨⟨fun x hx=>?_,pw.2⟩,fun x hx hpx=>q2 x (hperm.mem_iff.2 (List.mem_cons_of_mem _ hx)) hpx,fun hob hpc ρ a w Q hR hO=>?_⟩
  ·obtain⟨z1,z2⟩:=q1'.each x (List.mem_cons_of_mem _ hx)
   exact⟨z1.n (Nat.le_refl _),by rw[z2,hln]⟩
  simp only[Ae.inScope,Bool.and_eq_true] at hsc
  obtain⟨⟨⟨⟨sc1,sc2⟩,sc3⟩,sc4⟩,sc5⟩:=hsc
  rw[deqs,dnh,dk] at sc1
  rw[dnh,dpcn] at sc2
  rw[dnh,dnxt] at sc3
  rw[dobs,dnh] at sc4
  have hfv:∀x∈D.fv,x < g.n:=fun x hx=>by
   have:=List.all_eq_true.1 sc5 x hx
   rw[dnh] at this
   exact Be this
  have hlo:g.n≤g.n+inits.length:=Nat.le_add_right _ _
  let us:List U:=D.fv.map T.get
  let s0:List U:=inits.map (Rf.eval T)
  let TT:List U→Tab:=fun s=>BW (T.upds g.n s) g2.eqs
  have hTTr:∀s,(TT s).fr=T.fr∧(TT s).lp=T.lp∧(TT s).base=T.base:=fun s=>by
   obtain⟨a1,a2,a3⟩:=IU g2.eqs (T.upds g.n s)
   obtain⟨b1,b2,b3⟩:=NN s T g.n
   exact⟨a1.trans b1,a2.trans b2,a3.trans b3⟩
  have hTTlt:∀s x,x < g.n→TT s x=T x:=fun s x hx=>by
   rw[show TT s x=(T.upds g.n s) x from (DR sc1).2.2 x (.inl (by omega))]
   exact GT _ _ _ _ hx
  have hTTh:∀s j u,s.length=inits.length→s[j]? =some u→TT s (g.n+j)=u:=fun s j u hs hj=>by
   have hjl:j < s.length:=(List.getElem?_eq_some_iff.1 hj).1
   rw[show TT s (g.n+j)=(T.upds g.n s) (g.n+j) from (DR sc1).2.2 _ (.inl (by omega))]
   exact GA _ _ _ _ _ hj
  have hTTe:∀s,∀p∈g2.eqs,TT s p.1=p.2.eval (TT s):=fun s p hp=>IE hfv hlo sc1 p hp
  have hTTA:∀s,Agr (TT s) g2:=fun s=>⟨hTTe s,fun p hp=>by rw[(hTTr s).2.1];exact hA.lps p hp⟩
  have hagree:∀s,s.length=inits.length→∀x,x∈D.fv∨(g.n≤x∧x < g2.n)→(D.tab us s) x=TT s x:=fun s hs x hx=>by
   have e:D.tab us s=BW ((KW D.fv us).upds g.n s) g2.eqs:=by unfold Ae.tab;rw[dnh,deqs]
   rw[e]
   refine Kj hfv hlo (fun y hy=>?_) sc1 x hx
   rcases hy with hy|hy
   ·rw[GT _ _ _ _ (hfv y hy),GT _ _ _ _ (hfv y hy)]
    exact KQ D.fv y hy
   ·have hj:y - g.n < s.length:=by omega
    have h1:=GA s (KW D.fv us) g.n (y - g.n) s[y - g.n] (List.getElem?_eq_getElem hj)
    have h2:=GA s T g.n (y - g.n) s[y - g.n] (List.getElem?_eq_getElem hj)
    rw[show g.n+(y - g.n)=y by omega] at h1 h2
    rw[h1,h2]
  have hpcB:∀s,s.length=inits.length→pcB (D.tab us s) D.pcn=pcB (TT s) o.pc:=fun s hs=>by
   rw[dpcn]
   cases hop:o.pc with
   |none=>rfl
   |some x=>
    simp only[pcB]
    rw[hop] at sc2
    rw[hagree s hs x (EO sc2 x (by simp[pcL]))]
  have hnxt:∀s,s.length=inits.length→D.nxt.map (Rf.eval (D.tab us s))=nxt.map (Rf.eval (TT s)):=fun s hs=>by
   rw[dnxt]
   exact Ej nxt fun x hx=>hagree s hs x (EO sc3 x hx)
  have hobs:∀s,s.length=inits.length→D.ob us s→∀q∈ps1.map (Ob.mk o.pc)++g2.obs,q.holds (TT s):=fun s hs hD' q hq=>by
   have h1:=hD' q (by rw[dobs];exact hq)
   have h2:=List.all_eq_true.1 sc4 q hq
   have h3:=EO h2
   intro hpv
   have hpv2:pcv (D.tab us s) q.pc:=by
    cases hqp:q.pc with
    |none=>trivial
    |some x=>
     rw[hqp] at hpv
     have:=hagree s hs x (h3 x (by rw[hqp];exact List.mem_append_left _ (by simp[pcL])))
     show D.tab us s x= .bool true
     rw[this];exact hpv
   have:=h1 hpv2
   unfold Pr.holds at this⊢
   rw[Ej q.p.args (fun x hx=>hagree s hs x (h3 x (List.mem_append_right _ hx)))] at this
   exact this
  have howes:=hob ⟨pc,⟨D.tg 0,D.owes,(Pv g.n g2.eqs o.pc nxt (ps1.map (Ob.mk o.pc)++g2.obs)).map .e++inits⟩⟩ (List.mem_cons_self ..) hpc
  rw[←dfv] at howes
  have hargs:(D.fv.map Rf.e++inits).map (Rf.eval T)=us++s0:=by
   simp only[List.map_append,List.map_map]
   rfl
  have husl:us.length=D.fv.length:=by simp[us]
  have htake:(us++s0).take D.fv.length=us:=by rw[←husl];simp
  have hdrop:(us++s0).drop D.fv.length=s0:=by rw[←husl];simp
  simp only[Pr.holds,Ae.owes] at howes
  rw[hargs,htake,hdrop] at howes
  obtain⟨⟨N,t,hN,ht⟩,hall⟩:=howes
  have hs0:s0.length=inits.length:=by simp[s0]
  have hlen:∀s,De (D.step us) s0 s→s.length=inits.length:=fun s hs=>by
   induction hs with
   |zero=>exact hs0
   |succ _ e _=>
    simp only[Ae.step] at e
    cases hb:pcB (D.tab us _) D.pcn with
    |false=>rw[hb] at e;cases e
    |true=>rw[hb] at e;simp only[cond_true] at e;cases e;rw[dnxt];simp[hnl]
  have hlast:ZT (D.step us) s0=t:=XE hN ht
  have hheads:∀j,j < inits.length→T (g.n+j)=t.getD j default:=fun j hj=>by
   have hm:(g.n+j,(⟨D.tg j,D.res j,D.fv.map .e++inits⟩:Ex))∈Gi g.n (D.heads inits) g.eqs:=by
    refine (Gn _ _ _ _).2 (.inr ⟨j,_,?_,rfl⟩)
    unfold Ae.heads
    rw[dk]
    simp[hj]
   have:=hA.eqs _ (memEqs _ hm)
   simp only at this
   rw[this]
   unfold Ex.eval
   simp only
   rw[hargs]
   unfold Ae.res
   rw[htake,hdrop,hlast]
  have htl:t.length=inits.length:=hlen t (Lw N s0 t hN)
  have hTTt:TT t=T:=by
   have e:T.upds g.n t=T:=by
    obtain⟨b1,b2,b3⟩:=NN t T g.n
    refine Tab.ext' (fun x=>?_) b1 b2 b3
    by_cases h1:x < g.n
    ·exact GT _ _ _ _ h1
    ·by_cases h2:x < g.n+t.length
     ·have hj:x - g.n < t.length:=by omega
      have h3:=GA t T g.n (x - g.n) t[x - g.n] (List.getElem?_eq_getElem hj)
      rw[show g.n+(x - g.n)=x by omega] at h3
      have h4:=hheads (x - g.n) (by omega)
      rw[show g.n+(x - g.n)=x by omega] at h4
      rw[h3,h4]
      simp[hj]
     ·exact Xd _ _ _ _ (by omega)
   show BW (T.upds g.n t) g2.eqs=T
   rw[e]
   exact MP fun p hp=>hA.eqs p (List.mem_append_left _ hp)
  have hne:∀id,l.mem.at id≠ .pad→hl.mem.at id≠ .pad:=by
   have H0:Eb T (TT s0) g.n (g.n+inits.length) inits:=fun j rr hj=>by
    have hjl:j < inits.length:=(List.getElem?_eq_some_iff.1 hj).1
    exact⟨by omega,hTTh s0 j _ hs0 (by simp[s0,hj])⟩
   obtain⟨_,_,hpad⟩:=Hb (T2:=TT s0) hm0 hlps (hTTr s0).1 (hTTr s0).2.1 (hTTr s0).2.2 (hTTlt s0) hlo H0 (fun p hp=>hob ⟨pc,p⟩ (List.mem_cons_of_mem _ (List.mem_append_left _ (List.mem_map.2 ⟨p,hp,rfl⟩))) hpc) hR
   intro id h1 h2
   have hid:id < hl.mem.length:=by
    rw[hml]
    rcases Nat.lt_or_ge id l.mem.length with h|h
    ·exact h
    ·exact absurd (Mem.at_ge h) h1
   exact h1 (hpad id hid h2)
  have hsame:∀s,Ec T (TT s) g.n:=fun s=>⟨hTTlt s,(hTTr s).1,(hTTr s).2.1⟩
  have claim:∀n s,De (D.step us) s0 s→El (D.step us) n s=some t→∀ ρ1 a1 w1,Rel (TT s) (g.n+inits.length) ρ1 hl a1 w1→AJ (TT s) g.n ρ l.mem w ρ1 hl.mem w1→Code.roundsIn (fen r) kk P c Q (n+1) a1 w1:=by
   intro n
   induction n with
   |zero=>
    intro s hs hit ρ1 a1 w1 hrel hst
    simp only[El] at hit
    cases hit
    rw[roundsIn_succ]
    obtain⟨_,_,sem⟩:=(hrec (TT t) (hTTr t).2.1 pc hl _ outs2 g2 hr).2 (hTTA t) hpH
    refine sem (fun q hq=>hobs t htl (hall t hs) q (List.mem_append_right _ hq)) ?_ ρ1 a1 w1 _ hrel fun x hx hpx ρ' a' w' hst' hrel'=>?_
    ·rw[hTTt];exact hpc
    ·cases hperm.mem_iff.1 hx with
     |head=>
      exfalso
      have:=Io.2 hpx
      rw[←hpcB t htl] at this
      simp only[Ae.step,this,cond_true] at ht
      cases ht
     |tail _ hx2=>
      refine Q1 (UT hno x hx2) ?_
      have hst2:=hst.trans (hR.mem.tab (hsame t)) hlo hst'
      rw[hTTt] at hst2 hrel' hpx
      exact hO x hx2 hpx ρ' a' w' hst2 hrel'
   |succ n ih=>
    intro s hs hit ρ1 a1 w1 hrel hst
    simp only[El,Option.bind_eq_some_iff] at hit
    obtain⟨s',hs',hit⟩:=hit
    have hsl:=hlen s hs
    have hgo:pcB (D.tab us s) D.pcn=true∧s'=nxt.map (Rf.eval (TT s)):=by
     simp only[Ae.step] at hs'
     cases hb:pcB (D.tab us s) D.pcn with
     |false=>rw[hb] at hs';cases hs'
     |true=>
      rw[hb] at hs'
      simp only[cond_true] at hs'
      cases hs'
      exact⟨rfl,hnxt s hsl⟩
    have hpo:pcv (TT s) o.pc:=Io.1 (by rw[←hpcB s hsl];exact hgo.1)
    have hreach':De (D.step us) s0 s':= .succ hs hs'
    have hsl':=hlen s' hreach'
    rw[roundsIn_succ]
    obtain⟨good,_,sem⟩:=(hrec (TT s) (hTTr s).2.1 pc hl _ outs2 g2 hr).2 (hTTA s) hpH
    have obsS:=hobs s hsl (hall s hs)
    have hpcs:pcv (TT s) pc:=by
     cases pc with
     |none=>trivial
     |some x=>
      show TT s x= .bool true
      rw[hTTlt s x hp]
      exact hpc
    refine sem (fun q hq=>obsS q (List.mem_append_right _ hq)) hpcs ρ1 a1 w1 _ hrel fun x hx hpx ρ' a' w' hst' hrel'=>?_
    cases hperm.mem_iff.1 hx with
    |head=>
     rw[hok]
     show Code.roundsIn (fen r) kk P c Q (n+1) a' w'
     have H1:Eb (TT s) (TT s') g.n (g.n+inits.length) nxt:=fun j rr hj=>by
      have hjl:j < nxt.length:=(List.getElem?_eq_some_iff.1 hj).1
      exact⟨by omega,hTTh s' j _ hsl' (by rw[hgo.2];simp[hj])⟩
     have heq1:∀x,x < g.n→TT s' x=TT s x:=fun x hx=>by rw[hTTlt s' x hx,hTTlt s x hx]
     obtain⟨z1,z2,_⟩:=Hb (T2:=TT s') hm1 (fun p hp=>by rw[(hTTr s).2.1];exact hlps p hp) ((hTTr s').1.trans (hTTr s).1.symm) ((hTTr s').2.1.trans (hTTr s).2.1.symm) ((hTTr s').2.2.trans (hTTr s).2.2.symm) heq1 hlo H1
      (fun p hp=>obsS ⟨o.pc,p⟩ (List.mem_append_left _ (List.mem_map.2 ⟨p,hp,rfl⟩)) hpo) hrel'
     exact ih s' hreach' hit ρ' a' w' z1 (AJ.matched z2 heq1 (Nat.le_refl _) (hR.mem.tab (hsame s)) hne (hst.trans (hR.mem.tab (hsame s)) hlo hst'))
    |tail _ hx2=>
     exfalso
     have pw':=List.pairwise_cons.1 (good.perm hperm).apart
     exact pw'.1 x hx2 ⟨hpo,hpx⟩
  have H0:Eb T (TT s0) g.n (g.n+inits.length) inits:=fun j rr hj=>by
   have hjl:j < inits.length:=(List.getElem?_eq_some_iff.1 hj).1
   exact⟨by omega,hTTh s0 j _ hs0 (by simp[s0,hj])⟩
  obtain⟨z1,z2,_⟩:=Hb (T2:=TT s0) hm0 hlps (hTTr s0).1 (hTTr s0).2.1 (hTTr s0).2.2 (hTTlt s0) hlo H0 (fun p hp=>hob ⟨pc,p⟩ (List.mem_cons_of_mem _ (List.mem_append_left _ (List.mem_map.2 ⟨p,hp,rfl⟩))) hpc) hR
  exact wpIn_loop_rounds (N+1) (claim N s0 .zero hN ρ a w z1 (AJ.matched z2 (hTTlt s0) (Nat.le_refl _) hR.mem hne (AJ.refl _ _ _ _ _)))
 ·cases h
end
end Go.Eng
end
noncomputable section
namespace Go.Eng
open Go Go.RowKit
section
variable {T:Tab}{n n':Nat}{ρ :Nat→Option Nat}{m:Mem}{w:World}{a:Act}
theorem DE.refl (hn:n≤n')(b:Blk):DE T n n' w b b:=by
 cases b with
 |pad=>exact .pad
 |gone=>exact .gone _
 |cells l e=>exact .cells fun ρ m vs h=>AD.mono0 (AJ.refl _ _ _ _ _) hn _ _ h
 |tok x ks e=>exact .same _ _ _
 |lp s st=>exact .lp fun ρ m v h=>h.up0 hn
 |mrow x y ks e=>exact .mrow (.inl rfl) rfl rfl (fun _ _ _ h=>h)
 |mapb x kk ka vk va=>exact .mapb (.inl rfl) rfl (fun _ _ _ h=>h) (fun _ _ _ h=>h)
theorem Vg {b:Nat}{vs:Array Value}{e:TypeId}{fr:Nat × Nat}(h:w.heap[b]? =some (.cells vs e fr)):w.setRow b vs=w:=by
 have key:∀f:Obj→Obj,f (.cells vs e fr)= .cells vs e fr→w.heap.modify b f=w.heap:=by
  intro f hf
  refine Array.ext_getElem? fun i=>?_
  rw[Array.getElem?_modify]
  split
  ·rename_i hi
   subst hi
   rw[h]
   simp only[Option.map_some,hf]
  ·rfl
 unfold World.setRow
 rw[key _ rfl]
theorem cA {l l':Loc}{s:Sl}{e:TypeId}{ks:List Kd}(hloc:l.tmps.loc=[])(hT:T n= .list [])(hs:Ph l s=some (.cv .nilSlice))(hl:Gu { l with mem:=l.mem++[.tok n ks e] } l.mem.length n ks s=some l')(hR:Rel T n ρ l a w):
  l'.tmps.loc=[]∧l'.tmps.n=l.tmps.n∧∃ ρ',Rel T (n+1) ρ' l' a w∧AJ T n ρ l.mem w ρ' l'.mem w:=by
 have ht:∀id,DE T n (n+1) w (l.mem.at id) (Mem.at (l.mem++[.tok n ks e]) id):=fun id=>by
  rw[Aj]
  split
  ·rename_i he
   rw[he,Mem.at_ge (Nat.le_refl _)]
   exact .new (Nat.le_refl _) (Nat.lt_succ_self _) hT
  ·exact DE.refl (Nat.le_succ _) _
 have hst:=Fh hR.mem ht
 have hmem:=P7 hR.mem (Nat.le_succ _) ht
 have hR1:Rel T (n+1) (CW l.mem ρ) ⟨l.tmps,l.mem++[.tok n ks e]⟩ a w:=Rel.on (tmps:=l.tmps) (m:=l.mem) hR hst (Nat.le_succ _) hmem
 have hat:Mem.at (l.mem++[.tok n ks e]) l.mem.length= .tok n ks e:=by rw[Aj,if_pos rfl]
 have hnone:CW l.mem ρ l.mem.length=none:=Gd (Mem.at_ge (Nat.le_refl _))
 have hvec:∀v,v=CV.nilSlice.value→AB T (n+1) (CW l.mem ρ) (l.mem++[.tok n ks e]) w (.vec l.mem.length n ks) v:=fun v hv=>by
  refine⟨Nat.lt_succ_self _,by rw[hat];exact (fun h=>by cases h),?_,fun ks' e he=> .inl ⟨hnone,none,by rw[hT];exact hv⟩⟩
  rw[hT]
  exact⟨[],rfl,Nat.zero_le _,fun _=>rfl,none,0,hv,Nat.le_refl _,fun h=>absurd h (by simp)⟩
 cases s with
 |tmp t=>
  simp only[Gu] at hl
  cases hl
  simp only[Ph] at hs
  have hv0:AB T n ρ l.mem w (.cv .nilSlice) (a.tmps.getD t undef):=hR.tmps t _ hs
  refine⟨by rw[AQ.fix_loc];exact hloc,AQ.fix_n _ _ _,_,⟨hR1.defers,?_,fun i c hi=>?_,hmem⟩,hst⟩
  ·rw[hR1.size];exact (AQ.fix_n _ _ _).symm
  ·rcases AQ.get_fix l.tmps hloc t i _ hi with⟨h1,h2,h3⟩|⟨h1,h2⟩
   ·cases h3;subst h1
    exact hvec _ hv0
   ·exact hR1.tmps i c h2
 |cell i off=>
  simp only[Gu] at hl
  split at hl
  ·rename_i c e' hc
   split at hl
   ·rename_i hoff
    cases hl
    have hne:i≠l.mem.length:=fun h=>by rw[h,hat] at hc;cases hc
    have hc0:l.mem.at i= .cells c e':=by rw[Aj,if_neg hne] at hc;exact hc
    simp only[Ph,hc0] at hs
    have hb:=hmem.blk i
    rw[hc] at hb
    obtain⟨b,vs,h1,h2,h3⟩:=hb
    obtain⟨u,hu1,hu2⟩:=h3.get hs
    have hl2:AD T (n+1) (CW l.mem ρ) (l.mem++[.tok n ks e]) w (c.set off (.vec l.mem.length n ks)) vs:=by
     have:=h3.set off (hvec u hu2)
     have e:vs.set off u=vs:=by
      obtain⟨hlt,hu⟩:=List.getElem?_eq_some_iff.1 hu1
      rw[←hu]
      exact List.set_getElem_self hlt
     rw[e] at this
     exact this
    obtain⟨s1,s2⟩:=Ki hmem hc h1 h2 hl2 (Nat.le_refl _)
    rw[Vg h2] at s1 s2
    refine⟨hloc,rfl,_,Rel.on hR1 s1 (Nat.le_refl _) s2,hst.trans hR.mem (Nat.le_succ _) s1⟩
   ·cases hl
  ·cases hl
 |tok=>cases hl
 |st=>cases hl
 |row=>cases hl
theorem Pu:∀{ps:List (Sl × TypeId × List Kd)} {l l':Loc} {g g':G},FV l g ps=some (l',g')→l.tmps.loc=[]→AP g g'∧(Agr T g'→∀ ρ a w,Rel T g.n ρ l a w→l'.tmps.n=l.tmps.n∧∃ ρ',Rel T g'.n ρ' l' a w∧AJ T g.n ρ l.mem w ρ' l'.mem w)
 |[],l,l',g,g',h,_=>by
  simp only[FV] at h
  cases h
  exact⟨AP.refl _,fun _ ρ a w hR=>⟨rfl, ρ,hR,AJ.refl _ _ _ _ _⟩⟩
 |(s,e,ks)::r,l,l',g,g',h,hloc=>by
  simp only[FV] at h
  split at h
  ·rename_i hs
   split at h
   ·cases h
   simp only[Option.bind_eq_some_iff] at h
   obtain⟨l1,h1,h2⟩:=h
   have hloc1:l1.tmps.loc=[]:=by
    cases s with
    |tmp t=>simp only[Gu] at h1;cases h1;rw[AQ.fix_loc];exact hloc
    |cell i off=>
     simp only[Gu] at h1
     split at h1
     ·split at h1
      ·cases h1;exact hloc
      ·cases h1
     ·cases h1
    |tok=>cases h1
    |st=>cases h1
    |row=>cases h1
   obtain⟨gr,k⟩:=Pu h2 hloc1
   refine⟨(AP.push _ _).trans gr,fun hA ρ a w hR=>?_⟩
   have hT:T g.n= .list []:=by
    have:=(hA.of gr).new.head
    simpa [Ex.eval,oId,u0,Rf.eval] using this
   obtain⟨_,a2, ρ1,a3,a4⟩:=cA hloc hT hs h1 hR
   have hn:(g.pushAll [⟨ "id",oId,[.c (.list [])]⟩]).n=g.n+1:=by rw[BY];rfl
   obtain⟨b1, ρ2,b2,b3⟩:=k hA ρ1 a w (by rw[hn];exact a3)
   rw[hn] at b3
   exact⟨b1.trans a2, ρ2,b2,a4.trans hR.mem (Nat.le_succ _) b3⟩
  ·cases h
theorem SO:∀{ps:List (Sl × TypeId × List Kd)} {l l':Loc} {g g':G},FV l g ps=some (l',g')→l'.tmps.n=l.tmps.n
 |[],l,l',g,g',h=>by simp only[FV] at h;cases h;rfl
 |(s,e,ks)::r,l,l',g,g',h=>by
  simp only[FV] at h
  split at h
  ·split at h
   ·cases h
   simp only[Option.bind_eq_some_iff] at h
   obtain⟨l1,h1,h2⟩:=h
   rw[SO h2]
   cases s with
   |tmp t=>simp only[Gu] at h1;cases h1;rw[AQ.fix_n]
   |cell i off=>
    simp only[Gu] at h1
    split at h1
    ·split at h1
     ·cases h1;rfl
     ·cases h1
    ·cases h1
   |tok=>cases h1
   |st=>cases h1
   |row=>cases h1
  ·cases h
end
section
variable {P:Program}{T:Tab}{r:Option Nat}{kk:Nat}
theorem cY {c:Code}{rec:PC→Loc→G→Option (List Ar × G)}(hrec:∀T':Tab,T'.lp=T.lp→B9 T' (fun Q a w=>c.wpIn (fen r) kk P Q a w) rec)(p:DH):
  B9 T (fun Q a w=>(Code.loop c).wpIn (fen r) kk P Q a w) (ZF rec p):=by
 intro pc l g outs g' h
 unfold ZF at h
 split at h
 ·cases h
 rename_i hloc0
 have hloc:l.tmps.loc=[]:=by
  cases hx:l.tmps.loc with
  |nil=>rfl
  |cons=>rw[hx] at hloc0;exact absurd rfl hloc0
 simp only[Option.bind_eq_bind,Option.bind_eq_some_iff] at h
 obtain⟨⟨l1,g1⟩,h1,h2⟩:=h
 simp only at h2
 obtain⟨gr1,k1⟩:=Pu (T:=T) h1 hloc
 obtain⟨gr2,k2⟩:=Z0 hrec (p.full l.mem.length) pc l1 g1 outs g' h2
 refine⟨gr1.trans gr2,fun hA hp=>?_⟩
 obtain⟨q1,q2,q3⟩:=k2 hA (hp.grow gr1)
 rw[SO h1] at q1
 refine⟨q1,q2,fun hob hpc ρ a w Q hR hO=>?_⟩
 obtain⟨_, ρ1,b2,b3⟩:=k1 (hA.of gr2) ρ a w hR
 exact q3 hob hpc ρ1 a w Q b2 fun o ho hpo ρ' a' w' hst hrel=>hO o ho hpo ρ' a' w' (b3.trans hR.mem gr1.n hst) hrel
theorem bT {c:Code}{rec:PC→Loc→G→Option (List Ar × G)}(hrec:∀T':Tab,T'.lp=T.lp→B9 T' (fun Q a w=>c.wpIn (fen r) kk P Q a w) rec)(p:DH):
  B9 T (fun Q a w=>(Code.loop c).wpIn (fen r) kk P Q a w) (Zk rec p):=by
 intro pc l g outs g' h
 exact cY hrec _ pc l g outs g' h
end
end Go.Eng
end
noncomputable section
namespace Go.Eng
open Go Go.RowKit
section
variable {T:Tab}{n n':Nat}{ρ :Nat→Option Nat}{m:Mem}{w:World}{a:Act}
def ZJ (T:Tab)(s:Nat)(q:Loop)(j:Int):Prop:=
 (j=0∧q.state= .ready∧q.pending=none)∨(j= -1∧q.state= .busy)∨∃(k:Nat) (jp:Df),j=(k:Int)+1∧(T.lp s).jumps[k]? =some jp∧q.state= .done∧q.pending=some jp.code
theorem PE {id s b:Nat}{st:AC}{q:Loop}{o:Obj}{B:Blk}(hB:B.ptrOk=true)(hm:AH T n ρ m w)(hid:m.at id= .lp s st)(hr: ρ id=some b)(_hb:w.heap[b]? =some (.loop q)):
  AJ T n ρ m w ρ (m.set id B) (w.putObj b o):=by
 have hne:m.at id≠ .pad:=by rw[hid];exact fun h=>by cases h
 have hat:=fun j=>FZ m id B j hne
 have hBp:B≠ .pad:=fun e=>by rw[e] at hB;cases hB
 exact {
  os:=rfl
  tape:=rfl
  output:=rfl
  size:=by simp
  mlen:=fun j h=>by rw[hat j];split<;>first|exact hBp|exact h
  rho:=fun j h=>by rw[hat j];split<;>first|exact⟨rfl,hB⟩|exact⟨rfl,h⟩
  untr:=fun j h ht=>by
   rw[hat j] at ht
   split at ht
   ·rename_i he;subst he;rw[hid];rfl
   ·exact ht
  fresh:=fun j c h ht hr'=>by
   rw[hat j] at ht
   split at ht
   ·rename_i he;subst he;exact absurd h hne
   ·rw[h] at ht;cases ht
  old:=fun k hk hno=>World.putObj_heap_other (fun e=>hno id (by rw[hid];rfl) (by rw[e];exact hr))
  tok:=fun j x ks e h=>by
   have hj:j≠id:=fun e=>by rw[e,hid] at h;cases h
   refine .inl ⟨by rw[hat j,if_neg hj];exact h,rfl,fun b' hb'=>?_⟩
   exact World.putObj_heap_other (fun e=>hj (hm.inj j id b (by rw[h];rfl) (by rw[hid];rfl) (by rw[←e];exact hb') hr))
  row:=fun j x y ks e h=>by
   have hj:j≠id:=fun e=>by rw[e,hid] at h;cases h
   refine .inr ⟨x,y,ks,by rw[hat j,if_neg hj];exact h,rfl,.inl ⟨rfl,rfl,fun b' vs hb' hv=>⟨vs,?_,rfl⟩⟩⟩
   rw[World.putObj_heap_other (fun e=>hj (hm.inj j id b (by rw[h];rfl) (by rw[hid];rfl) (by rw[←e];exact hb') hr))]
   exact hv }
theorem XB {id s b:Nat}{st:AC}{q:Loop}{o:Obj}{B:Blk}(hB:B.ptrOk=true)(hm:AH T n ρ m w)(hid:m.at id= .lp s st)(hr: ρ id=some b)(hb:w.heap[b]? =some (.loop q))
  (hnew:BU T n ρ (m.set id B) (w.putObj b o) id B):AH T n ρ (m.set id B) (w.putObj b o):=by
 have hs:=PE (o:=o) hB hm hid hr hb
 have hne:m.at id≠ .pad:=by rw[hid];exact fun h=>by cases h
 have hat:=fun j=>FZ m id B j hne
 refine⟨fun j=>?_,fun j j' c t1 t2 h1 h2=>?_,fun c off h=>hm.fr c off (Nat.le_trans hs.size h)⟩
 ·by_cases hj:j=id
  ·subst hj
   rw[hat j,if_pos rfl]
   exact hnew
  ·by_cases ht:(m.at j).tracked=true
   ·exact BU.step hs hm (Nat.le_refl _) (by rw[hat j,if_neg hj]) rfl (fun b' hb'=>World.putObj_heap_other (fun e=>hj (hm.inj j id b ht (by rw[hid];rfl) (by rw[←e];exact hb') hr)))
   ·rw[hat j,if_neg hj]
    cases hx:m.at j with
    |pad=>trivial
    |gone=>trivial
    |cells=>rw[hx] at ht;exact absurd rfl ht
    |lp=>rw[hx] at ht;exact absurd rfl ht
    |tok=>rw[hx] at ht;exact absurd rfl ht
    |mrow=>rw[hx] at ht;exact absurd rfl ht
    |mapb=>rw[hx] at ht;exact absurd rfl ht
 ·have old:∀{j},(Mem.at (m.set id B) j).tracked=true→(m.at j).tracked=true:=fun {j} ht=>by
   rw[hat j] at ht
   split at ht
   ·rename_i he;subst he;rw[hid];rfl
   ·exact ht
  exact hm.inj j j' c (old t1) (old t2) h1 h2
theorem dK {id s b:Nat}{st:AC}{q:Loop}{o:Obj}(hm:AH T n ρ m w)(hid:m.at id= .lp s st)(hr: ρ id=some b)(hb:w.heap[b]? =some (.loop q)):
  AJ T n ρ m w ρ (m.set id .gone) (w.putObj b o)∧AH T n ρ (m.set id .gone) (w.putObj b o):=
 ⟨PE rfl hm hid hr hb,XB rfl hm hid hr hb trivial⟩
theorem bd {id s b:Nat}{st:AC}{q q':Loop}{k:Int}(hm:AH T n ρ m w)(hid:m.at id= .lp s st)(hr: ρ id=some b)(hb:w.heap[b]? =some (.loop q))
  (h1:q'.params=q.params) (h2:q'.assign=q.assign) (h3:q'.body=q.body) (h4:q'.tmps=q.tmps) (hst:ZJ T s q' k):
  AJ T n ρ m w ρ (m.set id (.lp s (.ci .i64 k))) (w.putObj b (.loop q'))∧AH T n ρ (m.set id (.lp s (.ci .i64 k))) (w.putObj b (.loop q')):=by
 have hs:=PE (o:= .loop q') (B:= .lp s (.ci .i64 k)) rfl hm hid hr hb
 refine⟨hs,XB rfl hm hid hr hb ?_⟩
 have hblk:=hm.blk id
 rw[hid] at hblk
 obtain⟨b',q0,a1,a2,a3,a4,a5,a6,a7,j,a8,a9⟩:=hblk
 rw[hr] at a1
 cases a1
 rw[hb] at a2
 cases a2
 have hlt:b < w.heap.size:=(Array.getElem?_eq_some_iff.1 hb).1
 refine⟨b,q',hr,World.putObj_heap_same hlt,by rw[h1];exact a3,by rw[h2];exact a4,by rw[h3];exact a5,by rw[h4];exact a6,fun i c hi=>?_,k,rfl,hst⟩
 rw[h4]
 exact AB.mono0 hs (Nat.le_refl _) _ _ (a7 i c hi)
theorem QU (hm:AH T n ρ m w){id s:Nat}{st:AC}(hid:m.at id= .lp s st):∃(b:Nat) (q:Loop) (j:Int), ρ id=some b∧w.heap[b]? =some (.loop q)∧q.params=(T.lp s).ps∧q.assign=(T.lp s).assign∧q.body=(T.lp s).body∧q.tmps.size=(T.lp s).tmps.n∧
  (∀i c,(T.lp s).tmps.get i=some c→AB T n ρ m w c (q.tmps.getD i undef))∧AB T n ρ m w st (.int .i64 j)∧ZJ T s q j:=by
 have:=hm.blk id
 rw[hid] at this
 obtain⟨b,q,a1,a2,a3,a4,a5,a6,a7,j,a8,a9⟩:=this
 exact⟨b,q,j,a1,a2,a3,a4,a5,a6,a7,a8,a9⟩
theorem VQ:∀(ps:List Tmp) (args:List AC) (vs:List Value) (tm:AQ) (tmps:Array Value),AD T n ρ m w args vs→tm.loc=[]→tmps.size=tm.n→(∀i c,tm.get i=some c→AB T n ρ m w c (tmps.getD i undef))→
  (Ie tm ps args).loc=[]∧((ps.zip vs).foldl (fun t (p,v)=>t.setIfInBounds p v) tmps).size=(Ie tm ps args).n∧
  ∀i c,(Ie tm ps args).get i=some c→AB T n ρ m w c (((ps.zip vs).foldl (fun t (p,v)=>t.setIfInBounds p v) tmps).getD i undef)
 |[],args,vs,tm,tmps,_,h1,h2,h3=>by
  simp only[Ie,List.zip_nil_left,List.foldl_nil]
  exact⟨h1,h2,h3⟩
 |p::ps,[],vs,tm,tmps,hv,h1,h2,h3=>by
  rw[show vs=[] from hv]
  simp only[Ie,List.zip_nil_right,List.foldl_nil]
  exact⟨h1,h2,h3⟩
 |p::ps,c::args,vs,tm,tmps,⟨u,us,e,hu,hus⟩,h1,h2,h3=>by
  subst e
  simp only[Ie,List.zip_cons_cons,List.foldl_cons]
  refine VQ ps args us (tm.fix p (some c)) (tmps.setIfInBounds p u) hus (by rw[AQ.fix_loc];exact h1) (by rw[AQ.fix_n];simp[h2]) fun i d hd=>?_
  rcases AQ.get_fix tm h1 p i _ hd with⟨k1,k2,k3⟩|⟨k1,k2⟩
  ·cases k3;subst k1
   simp only[Array.getD_eq_getD_getElem?,Array.getElem?_setIfInBounds,if_true]
   rw[if_pos (by omega)]
   exact hu
  ·have:=h3 i d k2
   simp only[Array.getD_eq_getD_getElem?,Array.getElem?_setIfInBounds] at this⊢
   by_cases hpi:p=i
   ·have hn:=k1 hpi
    subst hpi
    rw[if_pos rfl,if_neg (by omega)]
    rw[Array.getElem?_eq_none (by omega)] at this
    exact this
   ·rw[if_neg hpi]
    exact this
theorem Ey {fin:Ar→G→Option (AC × Mem)}:∀{outs:List Ar} {g g':G} {c:AC} {m':Mem},Cc fin outs g=some (c,m',g')→AP g g'
 |[],g,g',c,m',h=>by simp only[Cc] at h;cases h
 |[o],g,g',c,m',h=>by
  simp only[Cc,Option.bind_eq_bind,Option.bind_eq_some_iff] at h
  obtain⟨⟨c0,m0⟩,_,h⟩:=h
  cases h;exact AP.refl _
 |o::o2::os,g,g',c,m',h=>by
  simp only[Cc,Option.bind_eq_bind,Option.bind_eq_some_iff] at h
  obtain⟨⟨c2,m2,g1⟩,h1,⟨c0,m0⟩,_,h⟩:=h
  cases h
  exact (Ey (outs:=o2::os) h1).trans (AP.push _ _)
theorem L8 {fin:Ar→G→Option (AC × Mem)}{I:(Nat→Option Nat)→Prop}{E:XK→Act→World→Value→World→Prop}{N:Nat}
  (hfin:∀o g c m,fin o g=some (c,m)→Agr T g→∀ ρ a w,I ρ →Rel T g.n ρ o.l a w→∃v w' ρ',E o.k a w v w'∧AJ T g.n ρ o.l.mem w ρ' m w'∧AH T g.n ρ' m w'∧AB T g.n ρ' m w' c v):
  ∀{outs:List Ar} {g g':G} {c:AC} {m':Mem},Cc fin outs g=some (c,m',g')→Agr T g'→Ct T g N outs→
  ∀o∈outs,pcv T o.pc→∀ ρ a w,I ρ →Rel T g.n ρ o.l a w→∃v w' ρ',E o.k a w v w'∧AJ T g.n ρ o.l.mem w ρ' m' w'∧AH T g'.n ρ' m' w'∧AB T g'.n ρ' m' w' c v
 |[],g,g',c,m',h=>by simp only[Cc] at h;cases h
 |[o],g,g',c,m',h=>by
  simp only[Cc,Option.bind_eq_bind,Option.bind_eq_some_iff] at h
  obtain⟨⟨c0,m0⟩,hc,h⟩:=h
  cases h
  intro hA _ o' ho hp ρ a w hI hR
  simp at ho;subst ho
  exact hfin _ _ _ _ hc hA ρ a w hI hR
 |o::o2::os,g,g',c,m',h=>by
  simp only[Cc,Option.bind_eq_bind,Option.bind_eq_some_iff] at h
  obtain⟨⟨c2,m2,g1⟩,h1,⟨c0,m0⟩,hc,h⟩:=h
  simp only[Option.some.injEq,Prod.mk.injEq] at h
  obtain⟨e1,e2,e3⟩:=h
  subst e1;subst e2;subst e3
  have gr1:=Ey (outs:=o2::os) h1
  intro hA hg o' ho hp ρ a w hI hR
  have hA1:Agr T g1:=hA.of (AP.push _ _)
  have pw:=List.pairwise_cons.1 hg.apart
  have hnew:=hA.new
  have hlen:=BY g1 ((Ba (EG o.pc) g1.n m0 m2).2++(FA (g1.n+(Ba (EG o.pc) g1.n m0 m2).2.length) (EG o.pc) c0 c2).2)
  rw[List.length_append] at hlen
  cases ho with
  |head=>
   have hb:((EG o.pc).eval T).toB=true:=(It o.pc).2 hp
   have hR1:=hR.up gr1.n
   obtain⟨v,w', ρ1,q1,q2,q3,q4⟩:=hfin _ _ _ _ hc hA1 ρ a w hI hR1
   obtain⟨ρ',s1,s2,s3⟩:=Jt (n:=g1.n) (b:=true) (m1:=m0) (m2:=m2) (c:=c0) (d:=c2) (v:=v) hb q3 (Nat.le_refl _) hnew (Nat.le_of_eq hlen.symm) q4
   exact⟨v,w', ρ',q1,(q2.trans hR1.mem (Nat.le_refl _) s1).down gr1.n,s2,s3⟩
  |tail _ ho=>
   have hb:((EG o.pc).eval T).toB=false:=by
    cases hq:((EG o.pc).eval T).toB with
    |false=>rfl
    |true=>exact absurd ⟨(It o.pc).1 hq,hp⟩ (pw.1 o' ho)
   obtain⟨v,w', ρ1,q1,q2,q3,q4⟩:=L8 hfin (outs:=o2::os) h1 hA1 ⟨fun x hx=>hg.each x (List.mem_cons_of_mem _ hx),pw.2⟩ o' ho hp ρ a w hI hR
   obtain⟨ρ',s1,s2,s3⟩:=Jt (n:=g1.n) (b:=false) (m1:=m0) (m2:=m2) (c:=c0) (d:=c2) (v:=v) hb q3 (Nat.le_refl _) hnew (Nat.le_of_eq hlen.symm) q4
   exact⟨v,w', ρ',q1,q2.trans hR.mem gr1.n s1,s2,s3⟩
end
end Go.Eng
end
noncomputable section
namespace Go.Eng
open Go Go.RowKit
section
variable {P:Program}
def Tab.atBase (T:Tab)(B:Nat):Tab:={ T with base:=B }
theorem Bz (T:Tab)(B n:Nat):Ec T (T.atBase B) n:=⟨fun _ _=>rfl,rfl,rfl⟩
theorem cF (T:Tab)(B:Nat)(e:Ex):e.eval (T.atBase B)=e.eval T:=by
 unfold Ex.eval
 rw[Ej (T1:=T.atBase B) (T2:=T) e.args (fun _ _=>rfl)]
theorem Gk {T:Tab}{B:Nat}{g:G}(h:Agr T g):Agr (T.atBase B) g:=⟨fun p hp=>by rw[cF];exact h.eqs p hp,h.lps⟩
theorem MK {T:Tab}{B:Nat}{pc:PC}:pcv (T.atBase B) pc↔pcv T pc:=by cases pc<;>exact Iff.rfl
theorem Rz {T:Tab}{B:Nat}{p:Pr}:p.holds (T.atBase B)↔p.holds T:=by
 unfold Pr.holds
 rw[Ej (T1:=T.atBase B) (T2:=T) p.args (fun _ _=>rfl)]
theorem LY {T:Tab}{B:Nat}{g:G}(h:An T g):An (T.atBase B) g:=fun o ho hp=>Rz.2 (h o ho (MK.1 hp))
def pend:XK→Option Code
 | .normal=>none
 | .exit id=>some (.exit id)
 | .ret=>some .ret
def Ou (P:Program)(b:Nat)(k:XK)(_:Act)(w:World)(v:Value)(w':World):Prop:=(Instr.endRound b (pend k)).run P w= .ok v w'
theorem Ts {b:Nat}{R:Ending→World→Prop}{k:XK}{a:Act}{w:World}{v:Value}{w':World}(h:Ou P b k a w v w')(hR:R (.returned v) w'):roundPost P b R k.ex a w:=by
 cases k<;>exact⟨v,w',h,hR⟩
theorem Oc {js:List Df}{p:Df→Bool}:∀{i:Nat},js.findIdx? p=some i→∃j,js[i]? =some j∧p j=true:=by
 intro i h
 obtain⟨hl,hp,_⟩:=List.findIdx?_eq_some_iff_getElem.1 h
 exact⟨js[i],List.getElem?_eq_getElem hl,hp⟩
theorem R9 {js:List Df}{k:XK}{i:Nat}(h:Ms js k=some i):(k= .normal∧i=0)∨∃i' jp,i=i'+1∧js[i']? =some jp∧pend k=some jp.code:=by
 cases k with
 |normal=>simp only[Ms] at h;cases h;exact .inl ⟨rfl,rfl⟩
 |ret=>
  simp only[Ms,Option.map_eq_some_iff] at h
  obtain⟨i',h1,h2⟩:=h
  obtain⟨j,h3,h4⟩:=Oc h1
  refine .inr ⟨i',j,h2.symm,h3,?_⟩
  have:j= .ret:=by simpa using h4
  rw[this];rfl
 |exit id=>
  simp only[Ms,Option.map_eq_some_iff] at h
  obtain⟨i',h1,h2⟩:=h
  obtain⟨j,h3,h4⟩:=Oc h1
  refine .inr ⟨i',j,h2.symm,h3,?_⟩
  have:j= .exit id:=by simpa using h4
  rw[this];rfl
theorem Wf {T:Tab}{S:Bf}{stamp id b:Nat}(hS:T.lp stamp=S):∀o g c m,endRound S.jumps id stamp o g=some (c,m)→Agr T g→∀ ρ a w, ρ id=some b→Rel T g.n ρ o.l a w→
  ∃v w' ρ',Ou P b o.k a w v w'∧AJ T g.n ρ o.l.mem w ρ' m w'∧AH T g.n ρ' m w'∧AB T g.n ρ' m w' c v:=by
 intro o g c m h hA ρ a w hI hR
 unfold endRound at h
 simp only[Option.bind_eq_bind,Option.bind_eq_some_iff] at h
 obtain⟨k,hk,h⟩:=h
 split at h
 ·rename_i s hid
  split at h
  ·rename_i hs
   have hs:=Nat.eq_of_beq_eq_true hs
   subst hs
   cases h
   obtain⟨b',q,j,r1,r2,r3,r4,r5,r6,r7,r8,r9⟩:=QU hR.mem hid
   rw[hI] at r1
   cases r1
   have hrun:=run_endRound (P:=P) (pend o.k) r2
   have hst:ZJ T s { q with state:=if (pend o.k).isNone then .ready else .done,pending:=pend o.k } (k:Int):=by
    rcases R9 hk with⟨e1,e2⟩|⟨i',jp,e1,e2,e3⟩
    ·rw[e1,e2];exact .inl ⟨rfl,rfl,rfl⟩
    ·refine .inr (.inr ⟨i',jp,by rw[e1];rfl,by rw[hS];exact e2,?_,e3⟩)
     simp only[e3,Option.isNone_some,Bool.false_eq_true,if_false]
   obtain⟨s1,s2⟩:=bd hR.mem hid hI r2 (q':={ q with state:=if (pend o.k).isNone then .ready else .done,pending:=pend o.k }) rfl rfl rfl rfl hst
   refine⟨_,_, ρ,hrun,s1,s2,?_⟩
   show Value.bool _=Value.bool _
   congr 1
   rcases R9 hk with⟨e1,e2⟩|⟨i',jp,e1,e2,e3⟩
   ·rw[e1,e2];rfl
   ·rw[e1,e3];rfl
  ·cases h
 ·cases h
theorem dT (ps:Array Tmp)(vs:List Value)(tmps:Array Value):(ps.zip vs.toArray).foldl (fun t (p,v)=>t.setIfInBounds p v) tmps=(ps.toList.zip vs).foldl (fun t (p,v)=>t.setIfInBounds p v) tmps:=by
 rw[←Array.foldl_toList]
 congr 1
 simp
theorem bi {T:Tab}{rec:Code→PC→Loc→G→Option (List Ar × G)}{S:Bf}{stamp:Nat}(hS:T.lp stamp=S)
  (hrec:∀T':Tab,T'.lp=T.lp→∀b kk c,B9 T' (fun Q a w=>c.wpIn (fen (some b)) kk P Q a w) (rec c)):dR P T stamp (Kq rec S stamp):=by
 intro id args pc m g c m' g' h
 unfold Kq at h
 split at h
 ·rename_i s st hid
  split at h
  ·cases h
  rename_i hcond
  simp only[not_or,Bool.not_eq_false] at hcond
  obtain⟨hc1,hc2,hc3⟩:=hcond
  have hs:=Nat.eq_of_beq_eq_true hc1
  subst hs
  have hargs:args.length=S.ps.size:=Classical.not_not.1 hc2
  have hloc:S.tmps.loc=[]:=List.isEmpty_iff.1 hc3
  simp only[Option.bind_eq_bind,Option.bind_eq_some_iff] at h
  obtain⟨g1,hg1,⟨o1,g2⟩,hr1,h⟩:=h
  simp only at h
  split at h
  ·rename_i o
   split at h
   ·cases h
   rename_i hk
   have hok:o.k= .normal:=Classical.not_not.1 hk
   split at h
   ·rename_i hbe
    have hoid:o.l.mem.at id= .lp s st:=NY _ _ hbe
    simp only[Option.bind_eq_some_iff] at h
    obtain⟨⟨outs,g3⟩,hr2,h⟩:=h
    simp only at h
    have gr0:AP g g1∧g1.n=g.n∧(An T g1→pcv T pc→∀j:Int,(st= .ci .i64 0∨∃lo hi x,st= .i .i64 lo hi x)∧(∀n ρ m w,AB T n ρ m w st (.int .i64 j)→j=0)):=by
     split at hg1
     ·cases hg1
      refine⟨AP.refl _,rfl,fun _ _ j=>⟨.inl rfl,fun n ρ m w hh=>?_⟩⟩
      have:Value.int .i64 j= .int .i64 0:=hh
      injection this
     ·rename_i lo hi x
      cases hg1
      refine⟨AP.need _ _ _,(DT _ _ _).1,fun hob hpc j=>⟨.inr ⟨_,_,_,rfl⟩,fun n ρ m w hh=>?_⟩⟩
      have hz:=An.need hob hpc ⟨ "ready",TI,[.e x]⟩ (by simp)
      obtain⟨_,i,h1,h2,_⟩:=hh
      injection h2 with _ h2
      simp only[Pr.holds,TI,List.map_cons,List.map_nil,u0,Rf.eval,h1,U.toI] at hz
      omega
     ·cases hg1
    obtain⟨gr0,hn1,hready⟩:=gr0
    let T0:=T.atBase 0
    obtain⟨gr1,k1⟩:=hrec T0 rfl 0 0 S.assign pc _ g1 [o] g2 hr1
    obtain⟨gr2,k2⟩:=hrec T0 rfl 0 0 S.body o.pc _ g2 outs g3 hr2
    have gr3:=Ey h
    refine⟨((gr0.trans gr1).trans gr2).trans gr3,fun hA hob hpc hpk st' hst' ρ w vs hvs hm b hb=>?_⟩
    have hA3:=hA.of gr3
    have hA2:=hA3.of gr2
    have hA1:=hA2.of gr1
    have hob3:=hob.of gr3
    have hob2:=hob3.of gr2
    have hob1:=hob2.of gr1
    have hT0S:T0.lp s=S:=hS
    have hm0:AH T0 g.n ρ m w:=hm.tab (Bz T 0 g.n)
    have hvs0:AD T0 g.n ρ m w args vs:=AD.tab (Bz T 0 g.n) (fun b off h=>(Bz T 0 g.n).safe hm h) _ _ hvs
    obtain⟨b',q,j,r1,r2,r3,r4,r5,r6,r7,r8,r9⟩:=QU hm0 hid
    rw[hb] at r1
    cases r1
    rw[hT0S] at r3 r4 r5 r6 r7
    have hvl:vs.length=q.params.size:=by rw[r3,hvs.length,hargs]
    refine .inr ⟨b,q,rfl,r2,hvl,fun k=>?_⟩
    have e0:(vs.toArray:Array Value)=vs.toArray:=rfl
    rw[r3,dT,r4,r5]
    refine roundIn_of_wpIn (F:=Fence.wide) trivial ?_
    obtain⟨p1,p2,p3⟩:=VQ S.ps.toList args vs S.tmps q.tmps hvs0 hloc r6 r7
    obtain⟨good1,imp1,sem1⟩:=(hrec T0 rfl b k S.assign pc _ g1 [o] g2 hr1).2 (Gk hA2) ((hpk.lt.grow gr0))
    have hR0:Rel T0 g1.n ρ ⟨Ie S.tmps S.ps.toList args,m⟩ { tmps:=(S.ps.toList.zip vs).foldl (fun t (p,v)=>t.setIfInBounds p v) q.tmps,defers:=[] } w:=by
     rw[hn1]
     exact⟨DU.nil _ _ _ (Nat.zero_le _),p2,p3,hm0⟩
    refine sem1 (LY hob2) (MK.2 hpc) ρ _ w _ hR0 fun x hx hpx ρ1 a1 w1 hst1 hrel1=>?_
    simp at hx
    subst hx
    rw[hok]
    show∃w₂,_
    obtain⟨b1,q1,j1,t1,t2,t3,t4,t5,t6,t7,t8,t9⟩:=QU hrel1.mem hoid
    have hρ1: ρ1 id=some b:=by rw[(hst1.rho id (by show (Mem.at m id).ptrOk=true;rw[hid];rfl)).1];exact hb
    rw[hρ1] at t1
    cases t1
    have hj1:j1=0:=by
     refine ((hready hob1 hpc j1).2 g2.n ρ1 x.l.mem w1 ?_)
     exact AB.tab (Bz T 0 g2.n).symm (fun b off h=>(Bz T 0 g2.n).symm.safe hrel1.mem h) _ _ t8
    have hq1:q1.state= .ready∧q1.pending=none:=by
     rcases t9 with⟨_,z1,z2⟩|⟨z,_⟩|⟨k',jp,z,_⟩
     ·exact⟨z1,z2⟩
     ·omega
     ·omega
    refine⟨_,run_beginRound t2 hq1.1,?_⟩
    obtain⟨s1,s2⟩:=bd hrel1.mem hoid hρ1 t2 (q':={ q1 with state:= .busy }) (k:= -1) rfl rfl rfl rfl (.inr (.inl ⟨rfl,rfl⟩))
    have hR2:Rel T0 g2.n ρ1 { x.l with mem:=x.l.mem.set id (.lp s (.ci .i64 (-1))) } a1 (w1.putObj b (.loop { q1 with state:= .busy })):=Rel.on (tmps:=x.l.tmps) hrel1 s1 (Nat.le_refl _) s2
    have hxlt:B7 g2 x.pc:=(good1.each x (List.mem_cons_self ..)).1
    obtain⟨good2,imp2,sem2⟩:=(hrec T0 rfl b k S.body x.pc _ g2 outs g3 hr2).2 (Gk hA3) hxlt
    refine sem2 (LY hob3) hpx ρ1 a1 _ _ hR2 fun y hy hpy ρ2 a2 w2 hst2 hrel2=>?_
    have hρ2: ρ2 id=some b:=by
     have:(Mem.at (x.l.mem.set id (.lp s (.ci .i64 (-1)))) id).ptrOk=true:=by rw[FZ _ _ _ _ (by rw[hoid];exact fun h=>by cases h),if_pos rfl];rfl
     rw[(hst2.rho id this).1];exact hρ1
    obtain⟨v,w4, ρ3,u1,u2,u3,u4⟩:=L8 (T:=T0) (I:=fun ρ => ρ id=some b) (E:=Ou P b) (N:=x.l.tmps.n) (Wf (P:=P) hT0S) h (Gk hA) good2 y hy hpy ρ2 a2 w2 hρ2 hrel2
    refine Ts u1 ⟨v, ρ3,rfl,?_,u3.tab (Bz T 0 _).symm,AB.tab (Bz T 0 _).symm (fun b off h=>(Bz T 0 _).symm.safe u3 h) _ _ u4⟩
    have hst1':AJ T0 g.n ρ m w ρ1 x.l.mem w1:=by rw[←hn1];exact hst1
    have st12:=hst1'.trans hm0 (by have:=gr1.n;omega) s1
    have st13:=st12.trans hm0 (by have:=gr1.n;omega) hst2
    have st14:=st13.trans hm0 (by have:=gr1.n;have:=gr2.n;omega) u2
    exact AJ.tab (Bz T 0 _).symm hm0 st14 (fun _ _ _ _ _=>rfl)
   ·cases h
  ·cases h
 ·cases h
theorem WI {T0:Tab}{K:Code→(Exit→Act→World→Prop)→Act→World→Prop}{rec:Code→PC→Loc→G→Option (List Ar × G)}{S:Bf}{stamp:Nat}(hrec:∀c,B9 T0 (K c) (rec c)){id:Nat}{args:List AC}{pc:PC}{m m':Mem}{g g':G}{c:AC}(h:Kq rec S stamp id args pc m g=some (c,m',g')):AP g g':=by
 unfold Kq at h
 split at h
 ·split at h
  ·cases h
  simp only[Option.bind_eq_bind,Option.bind_eq_some_iff] at h
  obtain⟨g1,hg1,⟨o1,g2⟩,hr1,h⟩:=h
  simp only at h
  have gr0:AP g g1:=by
   split at hg1
   ·cases hg1;exact AP.refl _
   ·cases hg1;exact AP.need _ _ _
   ·cases hg1
  split at h
  ·split at h
   ·cases h
   split at h
   ·simp only[Option.bind_eq_some_iff] at h
    obtain⟨⟨outs,g3⟩,hr2,h⟩:=h
    exact ((gr0.trans (hrec _ _ _ _ _ _ hr1).1).trans (hrec _ _ _ _ _ _ hr2).1).trans (Ey h)
   ·cases h
  ·cases h
 ·cases h
end
end Go.Eng
end
noncomputable section
namespace Go.Eng
open Go Go.RowKit
section
variable {P:Program}{T:Tab}{call:A8}{ys:Ys}{r:Option Nat}{kk:Nat}
abbrev PQ (P:Program)(T:Tab)(r:Option Nat)(kk:Nat)(c:Code)(run:PC→Loc→G→Option (List Ar × G)):Prop:=B9 T (fun Q a w=>c.wpIn (fen r) kk P Q a w) run
def NS (P:Program)(r:Option Nat)(kk:Nat)(planned:Bool)(fuel:Nat)(c:Code)(Q:Exit→Act→World→Prop)(a:Act)(w:World):Prop:=
 match c,planned with
 | .loop b,false=>Code.roundsIn (fen r) kk P b Q fuel a w
 |c,_=>c.wpIn (fen r) kk P Q a w
theorem OK {planned:Bool}{fuel:Nat}{c:Code}{Q:Exit→Act→World→Prop}{a:Act}{w:World}(h:NS P r kk planned fuel c Q a w):c.wpIn (fen r) kk P Q a w:=by
 cases c<;>cases planned<;>first|exact h|exact wpIn_loop_rounds fuel h
theorem Xz {planned:Bool}{fuel:Nat}{c:Code}{Q:Exit→Act→World→Prop}{a:Act}{w:World}(hc:∀b,c= .loop b→planned=true)(h:c.wpIn (fen r) kk P Q a w):NS P r kk planned fuel c Q a w:=by
 cases c<;>cases planned<;>first|exact h|(have:=hc _ rfl;cases this)
theorem iL {ops:Array Oper}{pc:PC}{s s':RS}{o:Oper}(h:Ck P call ys ops pc s o=some s'):s'.tmps.n=s.tmps.n:=SB h
theorem Tf {ops:Array Oper}{pc:PC}:∀{l:List Oper} {s s':RS},C9 P call ys ops pc l s=some s'→s'.tmps.n=s.tmps.n
 |[],s,s',h=>by simp only[C9] at h;cases h;rfl
 |o::l,s,s',h=>by
  simp only[C9,Option.bind_eq_bind,Option.bind_eq_some_iff] at h
  obtain⟨s1,h1,h2⟩:=h
  rw[Tf h2,iL h1]
theorem Ct.one {g:G}{k:XK}{pc:PC}{l:Loc}{N:Nat}(hp:B7 g pc)(hl:l.tmps.n=N):Ct T g N [⟨k,pc,l⟩]∧∀o∈([⟨k,pc,l⟩]:List Ar),pcv T o.pc→pcv T pc:=by
 refine⟨⟨fun o ho=>?_,by simp⟩,fun o ho h=>?_⟩
 ·simp at ho;subst ho;exact⟨hp,hl⟩
 ·simp at ho;subst ho;exact h
theorem QS {K:(Exit→Act→World→Prop)→Act→World→Prop}(k:XK)(hK:∀Q a w,Q k.ex a w→K Q a w):B9 T K (fun pc l g=>some ([⟨k,pc,l⟩],g)):=by
 intro pc l g outs g' h
 cases h
 refine⟨AP.refl _,fun hA hp=>?_⟩
 obtain⟨h1,h2⟩:=Ct.one (T:=T) (k:=k) (l:=l) hp rfl
 exact⟨h1,h2,fun _ hpc ρ a w Q hR hO=>hK Q a w (hO _ (List.mem_singleton.2 rfl) hpc ρ a w (AJ.refl _ _ _ _ _) hR)⟩
theorem PX {k:XK}{id:Nat}(h:k≠ .exit id){Q:Exit→Act→World→Prop}{a:Act}{w:World}(hq:Q k.ex a w):Exit.inBlock id Q k.ex a w:=by
 cases k with
 |normal=>exact hq
 |ret=>exact hq
 |exit id'=>
  simp only[XK.ex,Exit.inBlock]
  rw[if_neg (fun e=>h (by rw[e]))]
  exact hq
theorem cH {id:Nat}{K:(Exit→Act→World→Prop)→Act→World→Prop}{run:PC→Loc→G→Option (List Ar × G)}(hr:B9 T K run):
  B9 T (fun Q=>K (Exit.inBlock id Q)) (fun pc l g=>do
   let (outs,g) ←run pc l g
   match GC (.exit id) outs with
   |none=>some (outs,g)
   |some (e,rest)=>if noK (.exit id) rest then some (Du none none [⟨.normal,e.pc,e.l⟩] rest g) else none):=by
 intro pc l g outs' g' h
 simp only[Option.bind_eq_bind,Option.bind_eq_some_iff] at h
 obtain⟨⟨outs,g1⟩,hr1,h⟩:=h
 obtain⟨gr1,k1⟩:=hr pc l g outs g1 hr1
 simp only at h
 split at h
 ·rename_i hpop
  cases h
  refine⟨gr1,fun hA hp=>?_⟩
  obtain⟨q1,q2,q3⟩:=k1 hA hp
  refine⟨q1,q2,fun ho hpc ρ a w Q hR hO=>q3 ho hpc ρ a w _ hR fun o ho hp ρ' a' w' hs hr=>?_⟩
  exact PX (NE hpop o ho) (hO o ho hp ρ' a' w' hs hr)
 ·rename_i e rest hpop
  split at h
  ·rename_i hno
   simp only[Option.some.injEq] at h
   obtain⟨hek,hperm⟩:=H4 hpop
   obtain⟨gr2,k2⟩:=G0 (T:=T) (N:=l.tmps.n) h
   refine⟨gr1.trans gr2,fun hA hp=>?_⟩
   obtain⟨q1,q2,q3⟩:=k1 (hA.of gr2) hp
   have q1':=q1.perm hperm
   have he:=q1'.each e (List.mem_cons_self ..)
   have pw:=List.pairwise_cons.1 q1'.apart
   have hgood:Ct T g1 l.tmps.n ([⟨.normal,e.pc,e.l⟩]++rest):=by
    refine⟨fun x hx=>?_,List.pairwise_cons.2 ⟨fun y hy hc=>pw.1 y hy hc,pw.2⟩⟩
    cases hx with
    |head=>exact he
    |tail _ hx=>exact q1'.each x (List.mem_cons_of_mem _ hx)
   obtain⟨t1,t2,t3⟩:=k2 hA hgood (fun q hq=>by cases hq) (fun q hq=>by cases hq)
   refine⟨t1,fun x hx hpx=>?_,fun hob hpc ρ a w Q hR hO=>?_⟩
   ·obtain⟨x0,h0,h1⟩:=t2 x hx hpx
    cases h0 with
    |head=>exact q2 e (hperm.mem_iff.2 (List.mem_cons_self ..)) h1
    |tail _ h0=>exact q2 x0 (hperm.mem_iff.2 (List.mem_cons_of_mem _ h0)) h1
   ·have hO2:=t3 g.n ρ l.mem w Q gr1.n hR.mem hO
    refine q3 (hob.of gr2) hpc ρ a w _ hR fun x hx hpx ρ' a' w' hs hr=>?_
    have hx2:=hperm.mem_iff.1 hx
    cases hx2 with
    |head=>
     rw[hek]
     simp only[XK.ex,Exit.inBlock,if_true]
     exact hO2 ⟨.normal,e.pc,e.l⟩ (List.mem_cons_self ..) hpx ρ' a' w' hs hr
    |tail _ hx2=>exact PX (UT hno x hx2) (hO2 x (List.mem_cons_of_mem _ hx2) hpx ρ' a' w' hs hr)
  ·cases h
theorem X3 {g g':G}{x:Nat}{i:Int}(hA:Agr T g')(gr:AP (g.pushAll [⟨ "eq",oEq,[.e x,.c (.int i)]⟩]) g'):(T g.n).toB=decide ((T x).toI=i):=by
 have:=(hA.of gr).new.head
 rw[this]
 rfl
theorem MZ {x:Nat}{pc:PC}{l:Loc}:∀{js:List Df} {k:Nat} {g g':G} {outs:List Ar},CF x pc l k js g=(outs,g')→AP g g'∧(Agr T g'→B7 g pc→
  (∀o∈outs,B7 g' o.pc∧o.l=l∧(pcv T o.pc→pcv T pc∧(k:Int)+1≤(T x).toI))∧outs.Pairwise (ML T)∧
  ∀(i:Nat) (jp:Df),js[i]? =some jp→pcv T pc→(T x).toI=(k:Int)+i+1→∃o∈outs,o.k=jp.xk∧pcv T o.pc)
 |[],k,g,g',outs,h=>by
  simp only[CF] at h
  cases h
  exact⟨AP.refl _,fun _ _=>⟨(fun o ho=>by cases ho),List.Pairwise.nil,fun i jp hi=>by simp at hi⟩⟩
 |j::js,k,g,g',outs,h=>by
  simp only[CF] at h
  generalize hb:CD (g.pushAll [⟨ "eq",oEq,[.e x,.c (.int (k+1))]⟩]) pc g.n true=br at h
  obtain⟨p,g2⟩:=br
  generalize har:CF x pc l (k+1) js g2=ar at h
  obtain⟨r,g3⟩:=ar
  cases h
  have gr0:AP g (g.pushAll [⟨ "eq",oEq,[.e x,.c (.int (k+1))]⟩]):=AP.push _ _
  obtain⟨gr1,k1⟩:=D0 (T:=T) hb
  obtain⟨gr2,k2⟩:=MZ har
  refine⟨(gr0.trans gr1).trans gr2,fun hA hp=>?_⟩
  have hA2:=hA.of gr2
  obtain⟨c1,c2⟩:=k1 hA2 (hp.grow gr0) (by rw[BY];simp)
  have ht:=X3 hA (gr1.trans gr2)
  obtain⟨d2,d3,d4⟩:=k2 hA (hp.grow (gr0.trans gr1))
  refine⟨fun o ho=>?_,List.pairwise_cons.2 ⟨fun o ho hc=>?_,d3⟩,fun i jp hi hpc hx=>?_⟩
  ·cases ho with
   |head=>
    refine⟨c1.grow gr2,rfl,fun hpo=>?_⟩
    have:=c2.1 hpo
    refine⟨this.1,?_⟩
    have h2:=this.2
    rw[ht] at h2
    have:=of_decide_eq_true h2
    omega
   |tail _ ho=>
    obtain⟨e1,e2,e3⟩:=d2 o ho
    refine⟨e1,e2,fun hpo=>⟨(e3 hpo).1,?_⟩⟩
    have:=(e3 hpo).2
    omega
  ·have h1:=(c2.1 hc.1).2
   rw[ht] at h1
   have h1:=of_decide_eq_true h1
   have h2:=((d2 o ho).2.2 hc.2).2
   omega
  ·cases i with
   |zero=>
    simp at hi
    subst hi
    refine⟨_,List.mem_cons_self ..,rfl,c2.2 ⟨hpc,?_⟩⟩
    rw[ht]
    exact decide_eq_true (by omega)
   |succ i=>
    obtain⟨o,ho,h1,h2⟩:=d4 i jp (by simpa using hi) hpc (by omega)
    exact⟨o,List.mem_cons_of_mem _ ho,h1,h2⟩
theorem iH {jp:Df}{Q:Exit→Act→World→Prop}{a:Act}{w:World}(h:Q jp.xk.ex a w):jp.code.wpIn (fen none) kk P Q a w:=by
 cases jp with
 |ret=>exact wpIn_ret h
 |exit id=>exact wpIn_exit h
def I7:Tab:=⟨fun _=>default,fun _ _=>True,fun _=>⟨⟨0,[(0,.sel 0 [])],.nil⟩, #[],.skip,.skip,[]⟩,0⟩
theorem cC {T:Tab}(hT:T.lp=I7.lp){n:Nat}{ρ :Nat→Option Nat}{m:Mem}{w:World}(hm:AH T n ρ m w){id s:Nat}{st:AC}(h:m.at id= .lp s st):False:=by
 obtain⟨b,q,j,_,_,_,_,_,_,h7,_⟩:=QU hm h
 rw[hT] at h7
 obtain⟨_,_,_,_,hh⟩:=h7 0 (.sel 0 []) rfl
 exact hh
theorem aj {T:Tab}(hT:T.lp=I7.lp){stamp:Nat}{y:YF}(hg:∀id args pc m g c m' g',y id args pc m g=some (c,m',g')→AP g g'):dR P T stamp y:=
 fun id args pc m g c m' g' h=>⟨hg _ _ _ _ _ _ _ _ h,fun _ _ _ _ _ hst _ _ _ _ hm=>(cC hT hm hst).elim⟩
theorem il {lp:Nat→Bf}{T:Tab}(hT:T.lp=lp)(h:CN P lp ys):CN P I7.lp ys:=fun T' hT' stamp y hy=>
 aj hT' fun id args pc m g c m' g' hh=>(h T hT stamp y hy id args pc m g c m' g' hh).1
end
end Go.Eng
end
noncomputable section
namespace Go.Eng
open Go Go.RowKit
section
variable {P:Program}{T:Tab}{call:A8}{ys:Ys}{r:Option Nat}{kk:Nat}{n:Nat}{ρ :Nat→Option Nat}{m:Mem}{w:World}
theorem Wv (hm:AH T n ρ m w)(o:Obj):AJ T n ρ m w ρ m (w.alloc o)∧AH T n ρ m (w.alloc o):=by
 have hs:AJ T n ρ m w ρ m (w.alloc o):={
  os:=rfl
  tape:=rfl
  output:=rfl
  size:=by simp
  mlen:=fun _ h=>h
  rho:=fun _ h=>⟨rfl,h⟩
  untr:=fun _ _ h=>h
  fresh:=fun id b h ht _=>by rw[h] at ht;cases ht
  old:=fun k hk _=>A9 w o k hk
  tok:=fun id x ks e h=> .inl ⟨h,rfl,fun b hb=>A9 w o b (hm.lt (by rw[h];rfl) hb)⟩,
  row:=fun id x y ks e h=> .inr ⟨x,y,ks,h,rfl,.inl ⟨rfl,rfl,fun b vs hb hv=>⟨vs,by rw[A9 w o b (hm.lt (by rw[h];rfl) hb)];exact hv,rfl⟩⟩⟩ }
 refine⟨hs,⟨fun id=>?_,hm.inj,fun b off h=>hm.fr b off (Nat.le_trans hs.size h)⟩⟩
 by_cases ht:(m.at id).tracked=true
 ·exact BU.step hs hm (Nat.le_refl _) rfl rfl (fun b hb=>A9 w o b (hm.lt ht hb))
 ·cases hx:m.at id with
  |pad=>trivial
  |gone=>trivial
  |cells=>rw[hx] at ht;exact absurd rfl ht
  |lp=>rw[hx] at ht;exact absurd rfl ht
  |tok=>rw[hx] at ht;exact absurd rfl ht
  |mrow=>rw[hx] at ht;exact absurd rfl ht
  |mapb=>rw[hx] at ht;exact absurd rfl ht
theorem eL (hm:AH T n ρ m w){q:Loop}{s:Nat}{st:AC}(hq:BU T n (Cy ρ m.length w.heap.size) (m++[.lp s st]) (w.alloc (.loop q)) m.length (.lp s st)):
  AJ T n ρ m w (Cy ρ m.length w.heap.size) (m++[.lp s st]) (w.alloc (.loop q))∧AH T n (Cy ρ m.length w.heap.size) (m++[.lp s st]) (w.alloc (.loop q)):=by
 have hs:=IL hm (.loop q) (.lp s st)
 refine⟨hs,⟨fun id=>?_,fun id id' b ht ht' hr hr'=>?_,fun b off h=>hm.fr b off (Nat.le_trans hs.size h)⟩⟩
 ·by_cases he:id=m.length
  ·subst he
   rw[Aj,if_pos rfl]
   exact hq
  ·by_cases ht:(m.at id).tracked=true
   ·exact BU.step hs hm (Nat.le_refl _) (by rw[Aj,if_neg he]) (BB _ _ _ he) (fun b hb=>A9 w _ b (hm.lt ht hb))
   ·rw[Aj,if_neg he]
    cases hx:m.at id with
    |pad=>trivial
    |gone=>trivial
    |cells=>rw[hx] at ht;exact absurd rfl ht
    |lp=>rw[hx] at ht;exact absurd rfl ht
    |tok=>rw[hx] at ht;exact absurd rfl ht
    |mrow=>rw[hx] at ht;exact absurd rfl ht
    |mapb=>rw[hx] at ht;exact absurd rfl ht
 ·rw[Aj] at ht ht'
  by_cases he:id=m.length
  ·by_cases he':id'=m.length
   ·omega
   ·rw[if_neg he'] at ht'
    subst he
    rw[A6] at hr;cases hr
    rw[BB _ _ _ he'] at hr'
    have:=hm.lt ht' hr'
    omega
  ·rw[if_neg he] at ht
   rw[BB _ _ _ he] at hr
   by_cases he':id'=m.length
   ·subst he'
    rw[A6] at hr';cases hr'
    have:=hm.lt ht hr
    omega
   ·rw[if_neg he'] at ht'
    rw[BB _ _ _ he'] at hr'
    exact hm.inj id id' b ht ht' hr hr'
theorem NU {x:Nat}{pc:PC}{l:Loc}:∀{js:List Df} {k:Nat} {g g':G} {outs:List Ar},CF x pc l k js g=(outs,g')→∀o∈outs,o.l=l
 |[],k,g,g',outs,h,o,ho=>by simp only[CF] at h;cases h;cases ho
 |j::js,k,g,g',outs,h,o,ho=>by
  simp only[CF] at h
  generalize hb:CD (g.pushAll [⟨ "eq",oEq,[.e x,.c (.int (k+1))]⟩]) pc g.n true=br at h
  obtain⟨p,g2⟩:=br
  generalize har:CF x pc l (k+1) js g2=ar at h
  obtain⟨r,g3⟩:=ar
  cases h
  cases ho with
  |head=>rfl
  |tail _ ho=>exact NU har o ho
theorem Zv (hcall:∀T,Ca P T call)(hys:CN P T.lp ys){rec:Code→PC→Loc→G→Option (List Ar × G)}
  (hrec:∀T':Tab,CN P T'.lp ys→∀b kk c,B9 T' (fun Q a w=>c.wpIn (fen (some b)) kk P Q a w) (rec c)) (f:Operand) (ps:Array Tmp) (assign body:Code):
  B9 T (fun Q a w=>(Code.rangeFunc f ps assign body).wpIn (fen none) kk P Q a w) (UB rec call ys f ps assign body):=by
 intro pc l g outs g' h
 unfold UB at h
 split at h
 ·cases h
 rename_i hloc0
 have hloc:l.tmps.loc=[]:=by
  cases hx:l.tmps.loc with
  |nil=>rfl
  |cons=>rw[hx] at hloc0;exact absurd rfl hloc0
 split at h
 ·rename_i k first cap hf
  simp only[Option.bind_eq_bind,Option.bind_eq_some_iff] at h
  obtain⟨⟨c,m2,g2⟩,hc,h⟩:=h
  simp only at h
  generalize hS:({ tmps:=l.tmps,ps,assign,body,jumps:=Lg (Ce body) }:Bf)=S at h hc
  have S1:S.tmps=l.tmps:=by rw[←hS]
  have S2:S.ps=ps:=by rw[←hS]
  have S3:S.assign=assign:=by rw[←hS]
  have S4:S.body=body:=by rw[←hS]
  have S5:S.jumps=Lg (Ce body):=by rw[←hS]
  generalize hg1:({ g.pushAll [⟨ "id",oId,[.c (.int 0)]⟩] with lps:=(g.n,S)::g.lps }:G)=g1 at hc
  have g1n:g1.n=g.n+1:=by rw[←hg1];show (G.pushAll g _).n=_;rw[BY];rfl
  have gr0:AP g g1:=by
   have:=AP.push g [⟨ "id",oId,[.c (.int 0)]⟩]
   rw[←hg1]
   exact⟨this.n,this.eqs,this.obs,fun p hp=>List.mem_cons_of_mem _ hp⟩
  have hmem1:(g.n,S)∈g1.lps:=by rw[←hg1];exact List.mem_cons_self ..
  have hysBad:CN P I7.lp ys:=il rfl hys
  have gr1:AP g1 g2:=by
   refine (hcall I7 _ k _ pc _ g1 c m2 g2 (fun T' hT' s y hy=>?_) hc).1
   unfold Ys.add at hy
   simp only at hy
   split at hy
   ·cases hy
    exact aj hT' fun id args pc m g c m' g' hh=>WI (T0:=I7) (K:=fun c Q a w=>c.wpIn (fen (some 0)) 0 P Q a w) (fun c=>hrec I7 hysBad 0 0 c) hh
   ·exact hysBad T' hT' s y hy
  have fin:∀{outs g'},AP g2 g'→(Agr T g'→B7 g pc→Ct T g' l.tmps.n outs∧(∀o∈outs,pcv T o.pc→pcv T pc))→
    (∀st,m2.at l.mem.length= .lp g.n st→∀Q:Exit→Act→World→Prop,T.lp g.n=S→Agr T g'→pcv T pc→B7 g pc→∀(q:Loop) (j:Int) m3 ρ3 w3 a',AB T g2.n ρ3 m3 w3 st (.int .i64 j)→ZJ T g.n q j→
     (∀k,(∃o∈outs,o.k=k∧pcv T o.pc)→Q k.ex a' w3)→
     q.state≠ .busy∧(match q.pending with|none=>Q .normal a' w3|some c=>c.wpIn (fen none) kk P Q a' w3))→
    (∃st,m2.at l.mem.length= .lp g.n st)→(∀o∈outs,o.l=⟨l.tmps,m2.set l.mem.length .gone⟩)→
    AP g g'∧(Agr T g'→B7 g pc→Ct T g' l.tmps.n outs∧(∀o∈outs,pcv T o.pc→pcv T pc)∧
     (An T g'→pcv T pc→∀ ρ a w Q,Rel T g.n ρ l a w→RV T g.n ρ l.mem w g'.n outs Q→(Code.rangeFunc f ps assign body).wpIn (fen none) kk P Q a w)):=by
   intro outs g' gr2 hgood hend hlp hol
   refine⟨(gr0.trans gr1).trans gr2,fun hA hp=>⟨(hgood hA hp).1,(hgood hA hp).2,fun hob hpc ρ a w Q hR hO=>?_⟩⟩
   have hA2:=hA.of gr2
   have hTS:T.lp g.n=S:=hA2.lps _ (gr1.lps _ hmem1)
   have hysT:CN P T.lp (ys.add g.n (Kq rec S g.n)):=fun T' hT' s y hy=>by
    unfold Ys.add at hy
    simp only at hy
    split at hy
    ·rename_i hb
     cases hy
     rw[Nat.eq_of_beq_eq_true hb]
     exact bi (by rw[hT'];exact hTS) fun T'' hT'' b kk c=>hrec T'' (by rw[hT'',hT'];exact hys) b kk c
    ·exact hys T' hT' s y hy
   obtain⟨_,hsound⟩:=hcall T _ k _ pc _ g1 c m2 g2 hysT hc
   have hev:=GK (imp:=[]) hR (fun c hc=>by cases hc) f
   rw[hf] at hev
   obtain⟨vs,us,e1,e2,e3⟩:=hev
   refine wpIn_rangeFunc fun fn _=>?_
   generalize hq:({ state:= .ready,pending:=none,fn:=fn,tmps:=a.tmps,params:=ps,assign:=assign,body:=body,defers:=w.heap.size }:Loop)=q
   have hm0:=hR.mem
   obtain⟨st1,hm1⟩:=Wv hm0 (.deferred (some []))
   have hsz:(w.alloc (.deferred (some []))).heap.size=w.heap.size+1:=by simp
   have hblk:BU T g.n (Cy ρ l.mem.length (w.alloc (.deferred (some []))).heap.size) (l.mem++[.lp g.n (.ci .i64 0)]) ((w.alloc (.deferred (some []))).alloc (.loop q)) l.mem.length (.lp g.n (.ci .i64 0)):=by
    have hs2:=IL hm1 (.loop q) (.lp g.n (.ci .i64 0))
    refine⟨_,q,A6 _ _ _,World.alloc_heap_new _ _,by rw[hTS,S2,←hq],by rw[hTS,S3,←hq],by rw[hTS,S4,←hq],?_,fun i c hi=>?_,0,rfl,.inl ⟨rfl,by rw[←hq],by rw[←hq]⟩⟩
    ·rw[hTS,S1,←hq];exact hR.size
    ·rw[hTS,S1] at hi
     have hqt:q.tmps=a.tmps:=by rw[←hq]
     rw[hqt]
     exact AB.mono0 (st1.trans hm0 (Nat.le_refl _) hs2) (Nat.le_refl _) _ _ (hR.tmps i c hi)
   obtain⟨st2,hm2⟩:=eL hm1 hblk
   have st12:=st1.trans hm0 (Nat.le_refl _) st2
   generalize hw1:(w.alloc (.deferred (some []))).alloc (.loop q)=w1 at hm2 st12 st2 hblk
   generalize hρ1:Cy ρ l.mem.length (w.alloc (.deferred (some []))).heap.size= ρ1 at hm2 st12 st2 hblk
   have hρ1id: ρ1 l.mem.length=some (w.heap.size+1):=by rw[←hρ1,A6,hsz]
   have hyl:AB T g1.n ρ1 (l.mem++[.lp g.n (.ci .i64 0)]) w1 (.yl l.mem.length) (.func (.yield (w.heap.size+1)) #[] #[]):=⟨_,hρ1id,rfl,by rw[Aj,if_pos rfl];rfl⟩
   have up:g.n≤g1.n:=gr0.n
   have hmid:AD T g1.n ρ1 (l.mem++[.lp g.n (.ci .i64 0)]) w1 [.yl l.mem.length] [.func (.yield (w.heap.size+1)) #[] #[]]:=⟨_,_,rfl,hyl,rfl⟩
   have hargs:AD T g1.n ρ1 (l.mem++[.lp g.n (.ci .i64 0)]) w1 (first++[.yl l.mem.length]++cap) (vs++[.func (.yield (w.heap.size+1)) #[] #[]]++us):=
    ((AD.mono0 st12 up _ _ e2).append hmid).append (AD.mono0 st12 up _ _ e3)
   obtain⟨⟨fn',q1,q2,q3⟩,hcalls⟩:=hsound hA2 (hob.of gr2) hpc ((hp.grow gr0).ok hpc) ρ1 w1 _ hargs (hm2.mono up)
   have hb':fn'.body.isNone=false:=by cases hx:fn'.body with|none=>rw[hx] at q2;cases q2|some=>rfl
   have hw1sz:w.heap.size < w1.heap.size:=by rw[←hw1];simp;omega
   refine⟨w.heap.size+1,[{ target:= .collected w.heap.size,args:= #[] }],w1,{ target:= .fn (.func k) us.toArray,args:=vs.toArray++ #[Value.func (.yield (w.heap.size+1)) #[] #[]] },w1,k,(vs++[Value.func (.yield (w.heap.size+1)) #[] #[]]++us).toArray,w1,?_,?_,fun _ _=>trivial,?_,fun h=>(by cases h),?_⟩
   ·rw[←hw1,←hq]
    exact run_enterLoop_outer fn a.tmps ps assign body
   ·simp only[resolve,rangeCall,e1,Deferred.ofValue]
    simp[Act.eval]
   ·simp only[invoke,callFunc,Sem.run_bind,run_program,Result.andThen_ok,q1,q3,hb',Bool.false_eq_true,if_false]
    simp
   ·refine Oa (hcalls.mono fun e w3 hh=>?_)
    obtain⟨v, ρ3,rfl,s1,s2,_⟩:=hh
    obtain⟨st,hst⟩:=hlp
    obtain⟨b3,qq,j,y1,y2,y3,y4,y5,y6,y7,y8,y9⟩:=QU s2 hst
    have hρ3: ρ3 l.mem.length=some (w.heap.size+1):=by
     rw[(s1.rho l.mem.length (by rw[Aj,if_pos rfl];rfl)).1];exact hρ1id
    rw[hρ3] at y1
    cases y1
    obtain⟨s3,s4⟩:=dK (o:= .loop { qq with state:= .exhausted }) s2 hst hρ3 y2
    have stAll:AJ T g.n ρ l.mem w ρ3 (m2.set l.mem.length .gone) (w3.putObj (w.heap.size+1) (.loop { qq with state:= .exhausted })):=(st12.trans hm0 up s1).trans hm0 (Nat.le_trans up gr1.n) s3
    have hdef1:DU T.base ρ1 (l.mem++[.lp g.n (.ci .i64 0)]) w1 ([{ target:= .collected w.heap.size,args:= #[] }]++a.defers):=by
     obtain⟨d0,Ds,d1,d2,d3⟩:=hR.defers.on st12
     obtain⟨_,Ds0,d1',_,d3'⟩:=hR.defers
     have hbase:=hR.defers.1
     have hDs:Ds=Ds0:=by
      rw[d1] at d1'
      have:Function.Injective (fun D:Nat=>({ target:= .collected D,args:= #[] }:Deferred)):=fun x y hxy=>by injection hxy with h1;injection h1
      exact (List.map_inj_right this).1 d1'
     refine⟨d0,w.heap.size::Ds,by rw[d1];rfl,List.nodup_cons.2 ⟨fun hmem=>?_,d2⟩,fun D hD=>?_⟩
     ·rw[hDs] at hmem
      have:=(d3' _ hmem).2.1
      have:=(Array.getElem?_eq_some_iff.1 this).1
      omega
     ·cases hD with
      |head=>
       refine⟨hbase,?_,fun id ht hr=>?_⟩
       ·rw[←hw1]
        rw[A9 _ _ _ (by simp)]
        exact World.alloc_heap_new _ _
       ·rw[←hρ1] at hr
        by_cases he:id=l.mem.length
        ·subst he
         rw[A6,hsz] at hr
         injection hr with hr
         omega
        ·rw[BB _ _ _ he] at hr
         rw[Aj,if_neg he] at ht
         have:=hm0.lt ht hr
         omega
      |tail _ hD=>exact d3 D hD
    have hrel:Rel T g2.n ρ3 ⟨l.tmps,m2.set l.mem.length .gone⟩ { a with defers:=[{ target:= .collected w.heap.size,args:= #[] }]++a.defers } (w3.putObj (w.heap.size+1) (.loop { qq with state:= .exhausted })):=
     ⟨(hdef1.on s1).on s3,hR.size,fun i c hi=>AB.mono0 stAll (Nat.le_trans up gr1.n) _ _ (hR.tmps i c hi),s4⟩
    obtain⟨z1,z2⟩:=hend st hst Q hTS hA hpc hp qq j _ ρ3 (w3.putObj (w.heap.size+1) (.loop { qq with state:= .exhausted })) { a with defers:=[{ target:= .collected w.heap.size,args:= #[] }]++a.defers } (AB.mono0 s3 (Nat.le_refl _) _ _ y8) y9
     (fun kx ⟨o,ho,hk,hpo⟩=>by
      rw[←hk]
      refine hO o ho hpo ρ3 _ _ ?_ ?_
      ·rw[hol o ho];exact stAll
      ·rw[hol o ho];exact hrel.up gr2.n)
    exact⟨_,_,run_endLoop y2 z1,z2⟩
  split at h
  ·rename_i s0 st hst
   split at h
   ·cases h
   rename_i hs0
   have hs0:=Nat.eq_of_beq_eq_true (by simpa using hs0:Nat.beq s0 g.n=true)
   subst hs0
   split at h
   ·
    cases h
    refine fin (AP.refl _) (fun hA hp=>Ct.one (hp.grow (gr0.trans gr1)) rfl) (fun st' hst' Q hTS hA hpc hp q j m3 ρ3 w3 a' hj hq hQ=>?_) ⟨_,hst⟩ (fun o ho=>by simp at ho;subst ho;rfl)
    rw[hst] at hst'
    injection hst' with _ e
    subst e
    have hj0:j=0:=by
     have:Value.int .i64 j= .int .i64 0:=hj
     injection this
    rcases hq with⟨_,z1,z2⟩|⟨z,_⟩|⟨k',jp,z,_⟩
    ·rw[z1,z2]
     exact⟨(fun h=>by cases h),hQ .normal ⟨_,List.mem_singleton.2 rfl,rfl,hpc⟩⟩
    ·omega
    ·omega
   ·rename_i hi x
    generalize hb:CD (g2.pushAll [⟨ "eq",oEq,[.e x,.c (.int 0)]⟩]) pc g2.n true=br at h
    obtain⟨p,g4⟩:=br
    generalize har:CF x pc ⟨l.tmps,m2.set l.mem.length .gone⟩ 0 (Lg (Ce body)) g4=ar at h
    obtain⟨rs,g5⟩:=ar
    have har':CF x pc ⟨l.tmps,m2.set l.mem.length .gone⟩ 0 (Lg (Ce body)) g4=(rs,g5):=har
    cases h
    have grp:AP g2 (g2.pushAll [⟨ "eq",oEq,[.e x,.c (.int 0)]⟩]):=AP.push _ _
    obtain⟨gra,ka⟩:=D0 (T:=T) hb
    obtain⟨grb,kb⟩:=MZ (T:=T) har'
    have facts:Agr T g5→B7 g pc→(B7 g4 p∧(pcv T p↔pcv T pc∧(T x).toI=0))∧(∀o∈rs,B7 g5 o.pc∧o.l=⟨l.tmps,m2.set l.mem.length .gone⟩∧(pcv T o.pc→pcv T pc∧((0:Nat):Int)+1≤(T x).toI))∧rs.Pairwise (ML T)∧
      ∀(i:Nat) (jp:Df),(Lg (Ce body))[i]? =some jp→pcv T pc→(T x).toI=((0:Nat):Int)+i+1→∃o∈rs,o.k=jp.xk∧pcv T o.pc:=fun hA hp=>by
     have hp2:B7 g2 pc:=hp.grow (gr0.trans gr1)
     obtain⟨c1,c2⟩:=ka (hA.of grb) (hp2.grow grp) (by rw[BY];simp)
     obtain⟨d2,d3,d4⟩:=kb hA (hp2.grow (grp.trans gra))
     have ht:=X3 hA (gra.trans grb)
     refine⟨⟨c1,?_⟩,d2,d3,d4⟩
     rw[c2,ht]
     simp
    refine fin ((grp.trans gra).trans grb) (fun hA hp=>?_) (fun st' hst' Q hTS hA hpc hp q j m3 ρ3 w3 a' hj hq hQ=>?_) ⟨_,hst⟩ (fun o ho=>?_)
    ·obtain⟨⟨c1,c2⟩,d2,d3,_⟩:=facts hA hp
     refine⟨⟨fun o ho=>?_,List.pairwise_cons.2 ⟨fun o ho hc=>?_,d3⟩⟩,fun o ho hpo=>?_⟩
     ·cases ho with
      |head=>exact⟨c1.grow grb,rfl⟩
      |tail _ ho=>exact⟨(d2 o ho).1,by rw[(d2 o ho).2.1]⟩
     ·have h1:=(c2.1 hc.1).2
      have h2:=((d2 o ho).2.2 hc.2).2
      omega
     ·cases ho with
      |head=>exact (c2.1 hpo).1
      |tail _ ho=>exact ((d2 o ho).2.2 hpo).1
    ·obtain⟨⟨c1,c2⟩,d2,d3,d4⟩:=facts hA hp
     rw[hst] at hst'
     injection hst' with _ e
     subst e
     obtain⟨_,i,h1,h2,h3,_⟩:=hj
     injection h2 with _ h2
     have hx:(T x).toI=j:=by rw[h1,h2];rfl
     rcases hq with⟨z0,z1,z2⟩|⟨z,_⟩|⟨k',jp,z,z0,z1,z2⟩
     ·rw[z1,z2]
      exact⟨(fun h=>by cases h),hQ .normal ⟨_,List.mem_cons_self ..,rfl,c2.2 ⟨hpc,by omega⟩⟩⟩
     ·omega
     ·rw[z1,z2]
      refine⟨(fun h=>by cases h),iH (hQ jp.xk ?_)⟩
      obtain⟨o,ho,o1,o2⟩:=d4 k' jp (by rw[hTS,S5] at z0;exact z0) hpc (by omega)
      exact⟨o,List.mem_cons_of_mem _ ho,o1,o2⟩
    ·cases ho with
     |head=>rfl
     |tail _ ho=>
      exact NU har' o ho
   ·cases h
  ·cases h
 ·cases h
end
end Go.Eng
end
noncomputable section
namespace Go.Eng
open Go Go.RowKit
def Tab.wf (T:Tab)(F:Nat→Nat→Prop):Tab:={ T with fr:=F }
structure Chg (T:Tab) (F F':Nat→Nat→Prop) (ρ ρ':Nat→Option Nat) (m m':Mem) (w:World):Prop where
 same:∀id,m.at id≠ .pad→m'.at id=m.at id∧ ρ' id= ρ id
 safe:∀b off,Ai (T.wf F) ρ m w b off→Ai (T.wf F') ρ' m' w b off
section
variable {T:Tab}{F F':Nat→Nat→Prop}{n:Nat}{ρ ρ':Nat→Option Nat}{m m':Mem}{w:World}
mutual
theorem AB.chg (h:Chg T F F' ρ ρ' m m' w):∀(c:AC) (v:Value),AB (T.wf F) n ρ m w c v→AB (T.wf F') n ρ' m' w c v
 | .any,_,_=>trivial
 | .anyc,_,hh=>hh
 | .on _ a,v,hh=>⟨hh.1,fun h1=>AB.chg h a v (hh.2 h1)⟩
 | .gd _ a,v,hh=>⟨hh.1,fun h1=>AB.chg h a v (hh.2.1 h1),hh.2.2⟩
 | .cb _,_,hh=>hh
 | .b _,_,hh=>hh
 | .nb _,_,hh=>hh
 | .ci _ _,_,hh=>hh
 | .i _ _ _ _,_,hh=>hh
 | .cv _,_,hh=>hh
 | .v _,_,hh=>hh
 | .s _,_,hh=>hh
 | .ptr id off,v,⟨b,h1,h2,h3⟩=>⟨b,by rw[(h.same id (BV h3)).2];exact h1,h2,by rw[(h.same id (BV h3)).1];exact h3⟩
 | .pix id base stride cnt x plus,v,⟨h0,b,j,h1,h2,h5,h6,h7,h3⟩=>⟨h0,b,j,by rw[(h.same id (BV h3)).2];exact h1,h2,h5,h6,h7,by rw[(h.same id (BV h3)).1];exact h3⟩
 | .ro x ks,v,⟨h0,h2⟩=>⟨h0,AR.mono (fun b off hs=>⟨h.safe b off hs,rfl⟩) _ _ v h2⟩
 | .rp x t off ks,v,⟨h0,j,b,o,us,h2,h3,h4,h5,h6⟩=>⟨h0,j,b,o,us,h2,h3,h4,h5,AW.mono (fun b off hs=>⟨h.safe b off hs,rfl⟩) _ _ _ _ h6⟩
 | .vec id x ks,v,⟨h0,hp,h2,h3⟩=>⟨h0,by rw[(h.same id hp).1];exact hp,AR.mono (fun b off hs=>⟨h.safe b off hs,rfl⟩) _ _ v h2,fun ks' e he=>by
   rw[(h.same id hp).1] at he
   rcases h3 ks' e he with⟨l1,l2⟩|⟨b,cap,vs,l1,l2,l3,l4⟩
   ·exact .inl ⟨by rw[(h.same id hp).2];exact l1,l2⟩
   ·exact .inr ⟨b,cap,vs,by rw[(h.same id hp).2];exact l1,l2,l3,l4⟩⟩
 | .fn f first cap,v,⟨vs,us,h1,h2,h3⟩=>⟨vs,us,h1,AD.chg h first vs h2,AD.chg h cap us h3⟩
 | .sel x alts,v,⟨h0,j,h1,h2,h3⟩=>⟨h0,j,h1,h2,Ah.chg h alts j.toNat v h3⟩
 | .yl id,v,⟨b,h1,h2,h3⟩=>⟨b,by rw[(h.same id (BV h3)).2];exact h1,h2,by rw[(h.same id (BV h3)).1];exact h3⟩
 | .asl id off len,v,⟨b,h1,h2,h3⟩=>⟨b,by rw[(h.same id (BV h3)).2];exact h1,h2,by rw[(h.same id (BV h3)).1];exact h3⟩
 | .rsv id x ks,v,⟨h0,hp,h2,h4,h3⟩=>⟨h0,by rw[(h.same id hp).1];exact hp,h2,h4,fun ks' e he=>by
   rw[(h.same id hp).1] at he
   rcases h3 ks' e he with⟨l1,l2⟩|⟨b,len,cap,vs,l1,l2,l0,l3,l4⟩
   ·exact .inl ⟨by rw[(h.same id hp).2];exact l1,l2⟩
   ·exact .inr ⟨b,len,cap,vs,by rw[(h.same id hp).2];exact l1,l2,l0,l3,l4⟩⟩
 | .mr id y,v,⟨⟨h1,hp⟩,j,a,cap,k1,k2,k3,k4,k5⟩=>⟨⟨h1,by rw[(h.same id hp).1];exact hp⟩,j,a,cap,k1,k2,k3,k4,fun x ks e he=>by
   rw[(h.same id hp).1] at he
   rcases k5 x ks e he with⟨l1,l2⟩|⟨b,vs,l1,l2,l3,l4⟩
   ·exact .inl ⟨by rw[(h.same id hp).2];exact l1,l2⟩
   ·exact .inr ⟨b,vs,by rw[(h.same id hp).2];exact l1,l2,l3,l4⟩⟩
 | .mp id y t sz off,v,⟨⟨h1,h1',hp⟩,j,L,b,k1,k2,k3,k4,k5⟩=>⟨⟨h1,h1',by rw[(h.same id hp).1];exact hp⟩,j,L,b,k1,k2,k3,k4,fun x ks e he=>by
   rw[(h.same id hp).1] at he
   rw[(h.same id hp).2]
   exact k5 x ks e he⟩
 | .mv id,v,⟨b,h1,h2,h3⟩=>⟨b,by rw[(h.same id (BV h3)).2];exact h1,h2,by rw[(h.same id (BV h3)).1];exact h3⟩
 | .agg l,v,⟨vs,h1,h2⟩=>⟨vs,h1,AD.chg h l vs h2⟩
 | .tup l,v,⟨vs,h1,h2⟩=>⟨vs,h1,AD.chg h l vs h2⟩
theorem AD.chg (h:Chg T F F' ρ ρ' m m' w):∀(l:List AC) (vs:List Value),AD (T.wf F) n ρ m w l vs→AD (T.wf F') n ρ' m' w l vs
 |[],_,hh=>hh
 |c::l,_,⟨u,us,h1,h2,h3⟩=>⟨u,us,h1,AB.chg h c u h2,AD.chg h l us h3⟩
theorem Ah.chg (h:Chg T F F' ρ ρ' m m' w):∀(l:List AC) (j:Nat) (v:Value),Ah (T.wf F) n ρ m w l j v→Ah (T.wf F') n ρ' m' w l j v
 |[],_,_,hh=>hh
 |c::_,0,v,hh=>AB.chg h c v hh
 |_::l,j+1,v,hh=>Ah.chg h l j v hh
end
theorem BU.chg (h:Chg T F F' ρ ρ' m m' w){id:Nat}(hp:m.at id≠ .pad)(hk:∀b,(m.at id).tracked=true→ ρ id=some b→(∀off,F b off)→∀off,F' b off)(hb:BU (T.wf F) n ρ m w id (m.at id)):BU (T.wf F') n ρ' m' w id (m'.at id):=by
 rw[(h.same id hp).1]
 have hr:=(h.same id hp).2
 cases hx:m.at id with
 |pad=>trivial
 |gone=>trivial
 |cells l e=>
  rw[hx] at hb
  obtain⟨b,vs,h1,h2,h3⟩:=hb
  exact⟨b,vs,by rw[hr];exact h1,h2,AD.chg h l vs h3⟩
 |tok x ks e=>
  rw[hx] at hb
  obtain⟨h0,l,h1,h2⟩:=hb
  refine⟨h0,l,h1,?_⟩
  rcases h2 with h2|⟨b,vs,h2,h3,h4,h5⟩
  ·exact .inl (by rw[hr];exact h2)
  ·exact .inr ⟨b,vs,by rw[hr];exact h2,h3,h4,hk b (by rw[hx];rfl) h2 h5⟩
 |mrow x y ks e=>
  rw[hx] at hb
  obtain⟨h0,l,h1,h1',h1'',h2⟩:=hb
  refine⟨h0,l,h1,h1',h1'',?_⟩
  rcases h2 with⟨h2,h3⟩|⟨b,vs,us,h2,h3,h4,h5⟩
  ·exact .inl ⟨by rw[hr];exact h2,h3⟩
  ·exact .inr ⟨b,vs,us,by rw[hr];exact h2,h3,BL.mono (fun b off hs=>⟨h.safe b off hs,rfl⟩) h4,hk b (by rw[hx];rfl) h2 h5⟩
 |mapb x kk ka vk va=>
  rw[hx] at hb
  obtain⟨h0,l,b,es,cl,h1,h2,h3,h4,h5,h6,h7⟩:=hb
  refine⟨h0,l,b,es,cl,h1,by rw[hr];exact h2,h3,h4,h5,fun i us e hl he=>?_,h7⟩
  obtain⟨u1,u2,q1,q2,q3⟩:=h6 i us e hl he
  exact⟨u1,u2,q1,j8.mono (fun b off hs=>⟨h.safe b off hs,rfl⟩) q2,j8.mono (fun b off hs=>⟨h.safe b off hs,rfl⟩) q3⟩
 |lp x st=>
  rw[hx] at hb
  obtain⟨b,q,h1,h2,h3,h4,h5,h6,h7,j,h8,h9⟩:=hb
  exact⟨b,q,by rw[hr];exact h1,h2,h3,h4,h5,h6,fun i c hc=>AB.chg h c _ (h7 i c hc),j,AB.chg h st _ h8,h9⟩
theorem AH.wf (hm:AH (T.wf F) n ρ m w)(h:Chg T F F' ρ ρ m m w)(hF:∀b off,w.heap.size≤b→F' b off)(hk:∀id b,(m.at id).tracked=true→ ρ id=some b→(∀off,F b off)→∀off,F' b off):AH (T.wf F') n ρ m w:=by
 refine⟨fun id=>?_,hm.inj,hF⟩
 by_cases hp:m.at id= .pad
 ·rw[hp];trivial
 ·exact BU.chg h hp (hk id) (hm.blk id)
theorem AH.more (hm:AH (T.wf F) n ρ m w){k b:Nat}(h:Chg T F F' ρ ρ' m m' w)(hpk:m.at k= .pad)(hpad:∀id,m.at id= .pad→id≠k→m'.at id= .pad)(hb: ρ' k=some b)(hno:∀id,(m.at id).tracked=true→ ρ id≠some b)
  (hbk:BU (T.wf F') n ρ' m' w k (m'.at k)) (hF:∀b off,w.heap.size≤b→F' b off) (hk:∀id b,(m.at id).tracked=true→ ρ id=some b→(∀off,F b off)→∀off,F' b off):AH (T.wf F') n ρ' m' w:=by
 have htr:∀id,(m'.at id).tracked=true→id=k∨((m.at id).tracked=true∧ ρ' id= ρ id):=fun id ht=>by
  by_cases e:id=k
  ·exact .inl e
  ·by_cases hp:m.at id= .pad
   ·rw[hpad id hp e] at ht;cases ht
   ·obtain⟨h1,h2⟩:=h.same id hp
    rw[h1] at ht
    exact .inr ⟨ht,h2⟩
 refine⟨fun id=>?_,fun id id' b' t1 t2 e1 e2=>?_,hF⟩
 ·by_cases e:id=k
  ·rw[e];exact hbk
  ·by_cases hp:m.at id= .pad
   ·rw[hpad id hp e];trivial
   ·exact BU.chg h hp (hk id) (hm.blk id)
 ·rcases htr id t1 with h1|⟨h1,h2⟩<;>rcases htr id' t2 with h3|⟨h3,h4⟩
  ·rw[h1,h3]
  ·rw[h1,hb] at e1
   rw[h4,←e1] at e2
   exact absurd e2 (hno id' h3)
  ·rw[h3,hb] at e2
   rw[h2,←e2] at e1
   exact absurd e1 (hno id h1)
  ·rw[h2] at e1
   rw[h4] at e2
   exact hm.inj id id' b' h1 h3 e1 e2
theorem AJ.wf {w':World}(h:AJ (T.wf F) n ρ m w ρ' m' w'):AJ (T.wf F') n ρ m w ρ' m' w':=⟨h.os,h.tape,h.output,h.size,h.mlen,h.rho,h.untr,h.fresh,h.old,h.tok,h.row⟩
theorem AJ.more {n0:Nat}{ρ0:Nat→Option Nat}{m0:Mem}{w0:World}{k b:Nat}(s:AJ T n0 ρ0 m0 w0 ρ m w)(hs:∀id,m.at id≠ .pad→m'.at id=m.at id∧ ρ' id= ρ id)(hpk:m.at k= .pad)(hpad:∀id,m.at id= .pad→id≠k→m'.at id= .pad)(hkp:(m'.at k).ptrOk=true)(hb: ρ' k=some b)(hw:w0.heap.size≤b):AJ T n0 ρ0 m0 w0 ρ' m' w:=by
 have ne:∀id,m0.at id≠ .pad→m.at id≠ .pad:=s.mlen
 refine⟨s.os,s.tape,s.output,s.size,fun id hp=>?_,fun id hp=>?_,fun id hp ht=>?_,fun id b' hp ht e=>?_,s.old,fun id x ks e hx=>?_,fun id x y ks e hx=>?_⟩
 ·rw[(hs id (ne id hp)).1];exact ne id hp
 ·have h1:=s.rho id hp
  obtain⟨h2,h3⟩:=hs id (BV h1.2)
  exact⟨h3.trans h1.1,by rw[h2];exact h1.2⟩
 ·rw[(hs id (ne id hp)).1] at ht
  exact s.untr id hp ht
 ·by_cases e2:id=k
  ·rw[e2,hb] at e
   cases e;exact hw
  ·by_cases hp2:m.at id= .pad
   ·rw[hpad id hp2 e2] at ht;cases ht
   ·obtain⟨h2,h3⟩:=hs id hp2
    rw[h2] at ht
    rw[h3] at e
    exact s.fresh id b' hp ht e
 ·have hp:m0.at id≠ .pad:=by rw[hx];exact fun h=>by cases h
  obtain⟨h2,h3⟩:=hs id (ne id hp)
  rw[h2]
  rcases s.tok id x ks e hx with⟨a1,a2,a3⟩|⟨a1,a2⟩
  ·exact .inl ⟨a1,h3.trans a2,a3⟩
  ·exact .inr ⟨a1,a2.imp (fun h=>h) fun⟨x',ks',e',q1,q2,q3⟩=>⟨x',ks',e',q1,q2,fun b' hb'=>q3 b' (by rw[←h3];exact hb')⟩⟩
 ·have hp:m0.at id≠ .pad:=by rw[hx];exact fun h=>by cases h
  obtain⟨h2,h3⟩:=hs id (ne id hp)
  rw[h2]
  rcases s.row id x y ks e hx with a1|⟨x',y',ks',a1,a2,⟨a3,a4,a5⟩|⟨a3,a4⟩⟩
  ·exact .inl a1
  ·exact .inr ⟨x',y',ks',a1,a2,.inl ⟨a3,h3.trans a4,a5⟩⟩
  ·exact .inr ⟨x',y',ks',a1,a2,.inr ⟨a3,fun b' hb'=>a4 b' (by rw[←h3];exact hb')⟩⟩
theorem BU.step0 {w':World}(h:AJ T n ρ m w ρ m w'){id:Nat}(hw:∀b,(m.at id).tracked=true→ ρ id=some b→w'.heap[b]? =w.heap[b]?)(hb:BU T n ρ m w id (m.at id)):BU T n ρ m w' id (m.at id):=by
 cases hx:m.at id with
 |pad=>trivial
 |gone=>trivial
 |cells l e=>
  rw[hx] at hb hw
  obtain⟨b,vs,h1,h2,h3⟩:=hb
  exact⟨b,vs,h1,by rw[hw b rfl h1];exact h2,AD.mono0 h (Nat.le_refl _) l vs h3⟩
 |lp x st=>
  rw[hx] at hb hw
  obtain⟨b,q,h1,h2,h3,h4,h5,h9,h6,j,h7,h8⟩:=hb
  exact⟨b,q,h1,by rw[hw b rfl h1];exact h2,h3,h4,h5,h9,fun i c hc=>AB.mono0 h (Nat.le_refl _) _ _ (h6 i c hc),j,AB.mono0 h (Nat.le_refl _) _ _ h7,h8⟩
 |tok x ks e=>
  rw[hx] at hb hw
  obtain⟨h0,r,h1,h2⟩:=hb
  refine⟨h0,r,h1,?_⟩
  rcases h2 with h2|⟨b,vs,h2,h3,h4,h5⟩
  ·exact .inl h2
  ·exact .inr ⟨b,vs,h2,by rw[hw b rfl h2];exact h3,h4,h5⟩
 |mrow x y ks e=>
  rw[hx] at hb hw
  obtain⟨h0,r,h1,h1',h1'',h2⟩:=hb
  refine⟨h0,r,h1,h1',h1'',?_⟩
  rcases h2 with⟨h2,h3⟩|⟨b,vs,us,h2,h3,h4,h5⟩
  ·exact .inl ⟨h2,h3⟩
  ·exact .inr ⟨b,vs,us,h2,by rw[hw b rfl h2];exact h3,BL.mono (fun _ _ hs=>h.safe0 hs) h4,h5⟩
 |mapb x kk ka vk va=>
  rw[hx] at hb hw
  obtain⟨h0,l,b,es,cl,h1,h2,h3,h4,h5,h6,h7⟩:=hb
  refine⟨h0,l,b,es,cl,h1,h2,by rw[hw b rfl h2];exact h3,h4,h5,fun i us e hl he=>?_,h7⟩
  obtain⟨u1,u2,q1,q2,q3⟩:=h6 i us e hl he
  exact⟨u1,u2,q1,j8.mono (fun _ _ hs=>h.safe0 hs) q2,j8.mono (fun _ _ hs=>h.safe0 hs) q3⟩
theorem LV (hm:AH T n ρ m w)(o:Obj)(n':Nat):AJ T n' ρ m w ρ m (w.alloc o):=
 ⟨rfl,rfl,rfl,by simp,fun _ h=>h,fun _ h=>⟨rfl,h⟩,fun _ _ h=>h,fun id b h ht _=>(by rw[h] at ht;cases ht),fun k hk _=>A9 w o k hk,
  fun id y ks e h=> .inl ⟨h,rfl,fun b hb=>A9 w o b (hm.lt (by rw[h];rfl) hb)⟩,
  fun id x y ks e h=> .inr ⟨x,y,ks,h,rfl,.inl ⟨rfl,rfl,fun b vs hb hv=>⟨vs,by rw[A9 w o b (hm.lt (by rw[h];rfl) hb)];exact hv,rfl⟩⟩⟩⟩
theorem am (hm:AH (T.wf F) n ρ m w)(o:Obj)(h:Chg T F F' ρ ρ m m w)(hF:∀b off,w.heap.size < b→F' b off)(hk:∀id b,(m.at id).tracked=true→ ρ id=some b→(∀off,F b off)→∀off,F' b off):AH (T.wf F') n ρ m (w.alloc o):=by
 have st:AJ (T.wf F') n ρ m w ρ m (w.alloc o):=(LV hm o n).wf
 refine⟨fun id=>?_,hm.inj,fun b off hb=>hF b off (by simp at hb;omega)⟩
 by_cases hp:m.at id= .pad
 ·rw[hp];trivial
 ·exact BU.step0 st (fun b ht hb=>A9 w o b (hm.lt ht hb)) (BU.chg h hp (hk id) (hm.blk id))
theorem bO {P:Program}{t:TypeId}{a:Act}{o:Oper}{l:List AC}(h:JG P t []=some (Nf l t []))(ho:o.op= .alloc t):
  ∃vs:List Value,(∀w:World,(execOp a.eval o).run P w= .ok (.value (.pointer (some ⟨w.heap.size,0,none⟩))) (w.alloc (.cells vs.toArray t)))∧∀(T:Tab) (n:Nat) (ρ :Nat→Option Nat) (m:Mem) (w:World),AD T n ρ m w l vs:=by
 unfold JG at h
 simp only[Option.bind_eq_bind,Option.bind_eq_some_iff] at h
 obtain⟨i,hi,z,hz,l',hl,h⟩:=h
 have el:l'=l:=by
  simp only[Nf,Option.some.injEq,R.mk.injEq,List.nil_append,List.cons.injEq,Blk.cells.injEq] at h
  exact h.2.1.1.1
 subst el
 have key:∀(T:Tab) (n:Nat) (ρ :Nat→Option Nat) (m:Mem) (w:World),∃vs,z.cells=(vs:List Value).toArray∧AD T n ρ m w l' vs:=fun T n ρ m w=>by
  obtain⟨vs,h1,h2,_,_⟩:=Cj hl (Ix (T:=T) (n:=n) (ρ := ρ) (m:=m) (w:=w) z)
  exact⟨vs,h1,h2⟩
 refine⟨z.cells.toList,fun w=>?_,fun T n ρ m w=>?_⟩
 ·simp[execOp,ho,Instr.alloc,MI hi hz,Ly]
 ·obtain⟨vs,h1,h2⟩:=key T n ρ m w
  rw[h1];exact h2
end
end Go.Eng
end
