/-
  A part of the proof: K_books.
-/
import Derived.Test.YtikbgnmcfncnaaaKbooks1
import Derived.Test.YtikbgnmcfncnaaaKordB
import Derived.Test.YtikbgnmcfncnaaaE4
import Derived.Test.YtikbgnmcfncnaaaE5
set_option linter.unusedVariables false
set_option linter.unusedSimpArgs false
noncomputable section
namespace Go.Eng
section
open Go Go.Eng Go.Proofs
set_option maxHeartbeats 4000000
set_option maxRecDepth 100000
def Me:List U->List (List U):=fun us=>Df (aL us 0)
def Nd:List U->Prop:=fun us=>(aL us 0).length<=20
def GI:AV:={ sh:=[.one (.list [k64,k64,k64,.bool,.str,.str,.bool,k64,k64])],blks:=[],outs:=[(.s "books.0",Eg Me)],c:= .ro 1 [k64,k64,k64,.bool,.str,.str,.bool,k64,k64],m':=[],pre:=[(.s "books.p0",Nd)] }
def ew:List En:=[⟨44,.and,[.e 6,.e 38]⟩,⟨45,.and,[.e 6,.n 38]⟩,⟨46,.row 1 9 [.i,.i,.i,.b,.s,.s,.b,.i,.i],[.e 35,.e 36,.e 37,.e 38,.e 39,.e 40,.e 41,.e 42,.e 43]⟩,⟨47,.app,[.e 34,.e 46]⟩,⟨48,.ite .l,[.e 38,.e 34,.e 47]⟩,⟨49,.ite .l,[.e 38,.c (.list []),.e 46]⟩]
def eT:List ObE:=[⟨some 45,.fits 88,[.e 34,.e 46]⟩]
def dW:List En:=[⟨35,.outL "ordB.0" Je,[.e 34]⟩]
def cR:List ObE:=[⟨some 6,.pre "ordB.p0" HA,[.e 34]⟩]
theorem gO:(TD Try.prog (EQ Try.prog (UJ Try.prog Kn [(100,LA)]) AW 3000 20) (AW 65) { Ys.none with mu:=(AW 65).mu } 3000 rgB Try.f65 GI.args GI.m GI.n).bind (Vb GI [.e 35])=
  some ((some 6,34,4,1),(some 6,48),((Gl++((BS Gu [.i,.l] Ib)++(Dh++(PY)))).map En.be,VQ.map ObE.be),(ew.map En.be,eT.map ObE.be),(dW.map En.be,cR.map ObE.be),[]):=by kernel_rfl
theorem bf (l:List (List U)):((List.range l.length).map fun j=>l.getD j [])=l:=by
 refine List.ext_getElem? fun i=>?_;rw[List.getElem?_map];rcases Nat.lt_or_ge i l.length with h|h
 .rw[List.getElem?_range h,List.getElem?_eq_getElem h];simp[h]
 .rw[List.getElem?_eq_none (by simpa using h),List.getElem?_eq_none h];rfl
theorem ct:Ae Try.prog 65 GI:=by
 refine WV (F:=C3) Ju Bh (l:=[(100,LA)]) (by simp only[List.forall_mem_cons];exact⟨fq,fun _ h=>absurd h (by simp)⟩) iB Try.func65 fB (by kernel_rfl) gO (by kernel_rfl) fun T us hpre hT hul hS hBd hE=>?_;obtain⟨h1,h2⟩:=cE T us (fun p hp=>absurd hp (by simp[Fz])) hT hul hS hBd hE;have hx:T.get 4= .list (Bv (aL us 0)):=(List.cons.inj h2).1;have hl:(T 4).toL=Bv (aL us 0):=congrArg U.toL hx;have h20:(aL us 0).length<=20:=hpre (.s "books.p0",Nd) (by simp[GI]);have ha0:aL us 0=L T 0:=inL hT hul (by decide);have hk0:∀u∈L T 0,AT AF KB u:=fun u hu=>by
  obtain⟨i,hi⟩:=List.mem_iff_getElem?.1 hu;exact hBd.1.2 i u hi
 have hll:=U0 (l:=aL us 0);refine⟨h1,fun hpc=>⟨fun is i r out k1 k2 k3 k4 k5 k6 k7 k8 hE2=>?_,fun is k1 k2 hE4=>?_⟩⟩
 .rw[hl] at k3 k5 k6;obtain⟨u,hu,hul2⟩:=(Rc (l:=aL us 0)).row r (List.mem_of_getElem? k5);rw[ha0] at hul2;have hku:=hk0 u hul2;obtain⟨e44,e45,e46,e47,e48,e49,_⟩:=hE2;have h34:T.get 34= .list out:=k7;have hrow:[T.get 35,T.get 36,T.get 37,T.get 38,T.get 39,T.get 40,T.get 41,T.get 42,T.get 43]=u:=by
   have hul9:=dt hku;have hd:r.drop 1=u:=by rw[hu];rfl
   have key:∀j,j < 9->T.get (35+j)=u.getD j default:=fun j hj=>by
    have hj2:j < u.length:=by omega
    have:=k8 j (u[j]) (by rw[hd];exact List.getElem?_eq_getElem hj2);rw[show 35+j=34+1+j by omega,this];simp[hj2]
   rw[key 0 (by omega),key 1 (by omega),key 2 (by omega),key 3 (by omega),key 4 (by omega),key 5 (by omega),key 6 (by omega),key 7 (by omega),key 8 (by omega)]
   match u,hul9 with
   |[a,b,c,d,e,f,g,h,i],_=>rfl
  have h46:T.get 46= .list [u]:=by
   rw[<-hrow];exact e46
  have hout:out.length<=20:=by
   rw[k6];have h3:=O8 (m:=is.map fun j=>(Bv (aL us 0)).getD j []);rw[List.length_map] at h3;have:=JS _ is k2 k3;omega
  have hlen46:lR T (.e 46)=[u]:=by show (T.get 46).toL=_;rw[h46];rfl
  have hlen34:lR T (.e 34)=out:=by show (T.get 34).toL=_;rw[h34];rfl
  refine⟨⟨fun _=>?_,trivial⟩,?_⟩
  .show ((lR T (.e 34)).length+(lR T (.e 46)).length)*88<=_;rw[hlen34,hlen46];show (out.length+1)*88<=_;omega
  .have hb:uB r 4=(T.get 38).toB:=by
    rw[hu,<-hrow];rfl
   have h47:T.get 47= .list (out++[u]):=by
    have:T.get 47=U.list ((T.get 34).toL++(T.get 46).toL):=e47;rw[this,h34,h46];rfl
   have h48:T.get 48=bif (T.get 38).toB then T.get 34 else T.get 47:=e48
   show T.get 48=_;rw[h48];unfold C3;rw[hb];cases (T.get 38).toB with
   |true=>simp only[cond_true,if_true];rw[h34,List.append_nil]
   |false=>
    simp only[cond_false,Bool.false_eq_true,if_false];rw[h47,hu];rfl
 .rw[hl] at k1 k2;have hys:T.get 34= .list ((is.map fun j=>(Bv (aL us 0)).getD j []).flatMap C3):=k2;have hperm:((is.map fun j=>(Bv (aL us 0)).getD j []).flatMap C3).Perm ((Bv (aL us 0)).flatMap C3):=by
   have h3:=k1.map fun j=>(Bv (aL us 0)).getD j [];rw[bf] at h3;exact h3.flatMap_right C3
  have h35:T.get 35=Eg Je [T.get 34]:=hE4.1;have ho:T.get 35= .list (Df (aL us 0)):=by
   rw[h35,hys];show U.list (C5 ltB _)=_;exact congrArg U.list (am hperm)
  refine⟨⟨fun _=>?_,trivial⟩,?_⟩
  .show HA [T.get 34];rw[hys];show ((is.map fun j=>(Bv (aL us 0)).getD j []).flatMap C3).length<=20;have:=hperm.length_eq;have:=O8 (m:=Bv (aL us 0));omega
  .show [T.get 35]=[Eg Me us];rw[ho];rfl
end
end Go.Eng
end
