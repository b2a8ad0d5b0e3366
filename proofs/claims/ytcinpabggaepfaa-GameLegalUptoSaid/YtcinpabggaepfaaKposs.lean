/-
  A part of the proof: K_possd K_poss.
-/
import Derived.Test.YtcinpabggaepfaaXQlLegal
import Derived.Test.YtcinpabggaepfaaE3
import Derived.Test.YtcinpabggaepfaaE4
set_option linter.unusedVariables false
set_option linter.unusedSimpArgs false
noncomputable section
open Go Go.Eng Go.Proofs
set_option maxHeartbeats 4000000
set_option maxRecDepth 100000
namespace Go.Eng
def nZ:List U→List (List U):=fun us=>(nU (gAt 0 us) (aL us 26))
def nL:Bc:={ sh:=[.agg [k64,k64,k64,k64,k64,k64,k64,k64,k64,.bool,.bool,.bool,.bool,.bool,.bool,.bool,.bool,k64,k64,.bool,.bool,.bool,k64,k64,k64,k64],.one (.list [.int .u8 (0) (255)])],blks:=[],outs:=[(.s "poss.0",jD nZ)],c:= .ro 27 [k64,k64],m':=[],pre:=[] }
def o5:List En:=[⟨27,.id .l,[.c (.list [])]⟩]
def oh:List En:=[⟨30,.len,[.e 26]⟩,
 ⟨31,.lt,[.e 28,.e 30]⟩,
 ⟨32,.id .b,[.e 31]⟩,
 ⟨33,.len,[.e 29]⟩,
 ⟨34,.lt,[.e 33,.c (.int 24)]⟩,
 ⟨35,.and,[.e 31,.e 34]⟩,
 ⟨36,.not,[.e 35]⟩,
 ⟨37,.get .i 0,[.e 26,.e 28]⟩,
 ⟨38,.o2 .div,[.e 37,.c (.int 4)]⟩,
 ⟨39,.o2 .mod,[.e 38,.c (.int 4)]⟩,
 ⟨40,.o2 .add,[.c (.int 1),.e 39]⟩,
 ⟨41,.get .i 0,[.e 26,.e 28]⟩,
 ⟨42,.o2 .mod,[.e 41,.c (.int 4)]⟩,
 ⟨43,.get .i 0,[.e 26,.e 28]⟩,
 ⟨44,.le,[.c (.int 250),.e 43]⟩,
 ⟨45,.and,[.e 35,.e 44]⟩]
def oz:List En:=[⟨46,.row 1 2 [.i,.i],[.c (.int 5),.c (.int 0)]⟩,
 ⟨47,.app,[.e 29,.e 46]⟩,
 ⟨48,.and,[.e 35,.n 44]⟩,
 ⟨49,.pick .b,[.e 42,.e 9,.e 10,.e 11,.e 12]⟩,
 ⟨50,.and,[.e 48,.e 49]⟩,
 ⟨51,.ne,[.e 40,.c (.int 1)]⟩,
 ⟨52,.and,[.e 50,.n 51]⟩,
 ⟨53,.ne,[.e 42,.e 3]⟩,
 ⟨54,.or,[.e 51,.e 53]⟩,
 ⟨55,.and,[.e 49,.e 54]⟩,
 ⟨56,.and,[.e 48,.e 55]⟩,
 ⟨57,.row 1 2 [.i,.i],[.e 40,.e 42]⟩,
 ⟨58,.app,[.e 29,.e 57]⟩,
 ⟨59,.and,[.e 48,.n 55]⟩,
 ⟨60,.ite .l,[.e 55,.e 58,.e 29]⟩,
 ⟨61,.ite .l,[.e 55,.e 57,.c (.list [])]⟩]
def ou:List En:=[⟨62,.w2 .i64 .add,[.e 28,.c (.int 1)]⟩]
def nV:List En:=o5
def mp:List En:=oh++(oz++(ou))
def n6:List ObE:=[⟨some 56,.fits 16,[.e 29,.e 57]⟩,⟨some 45,.fits 16,[.e 29,.e 46]⟩,⟨some 35,.inl,[.e 28,.e 26]⟩,⟨some 35,.inl,[.e 28,.e 26]⟩,⟨some 35,.inl,[.e 28,.e 26]⟩]
def nT:BW:=mkD 28 2 mp 48 [.e 62,.e 60] n6 [3,9,10,11,12,26]
def nl:List Rf:=[.e 3,.e 9,.e 10,.e 11,.e 12,.e 26,.c (.int 0),.e 27]
def ov:List En:=[⟨63,.ite .l,[.e 45,.e 47,.e 29]⟩,
 ⟨64,.ite .l,[.e 45,.e 46,.c (.list [])]⟩,
 ⟨65,.or,[.e 45,.e 36]⟩]
def nz:List En:=ov
def pY:List ObE:=[⟨none,.owes nT,[.e 3,.e 9,.e 10,.e 11,.e 12,.e 26,.c (.int 0),.e 27]⟩]
def pH:List Rf:=[.e 63]
theorem pX:nL.sees pH (nL.run Try.prog [] RN 3000 20 19)=some ((nV++((Ek nT [.i,.l] nl)++(mp++(nz)))).map En.be,pY.map ObE.be,[]):=by kernel_rfl
theorem pD {T:Tab}(hl26:(L T 26).length≤140737488355328)(g:Gm)(hg:g=gT T 0)(A0:AK T nV):
  ((L T 27)=([]:List (List U))):=by
 have F0:=A0;clear A0
 have h27:(L T 27)=([]:List (List U)):=by
  obtain⟨e27,-⟩:=F0
  simp only[AA,zR,zL] at e27
  exact e27
 exact h27
theorem pI {T:Tab}(hl26:(L T 26).length≤140737488355328)(g:Gm)(hg:g=gT T 0)(h27:(L T 27)=([]:List (List U)))(hS:Ay T (J7 (EE 0 nL.ks) nV))(hB:CJ T (mp.map En.be))(hH:CJ T ((Ek nT [.i,.l] nl).map En.be)):
  (nT).owes (nl.map (Rf.eval T))∧Ay T (hds 28 [.i,.l])∧(0≤I T 28∧I T 28≤((L T 26)).length∧((L T 29)).length≤24∧ml g [] (L T 26)=ml g (L T 29) ((L T 26).drop (I T 28).toNat))∧¬B T 48=true:=by
 refine Gx (nh:=28) (k:=2) (pcn:=48) (top:=63) (bes:=mp) (bos:=n6) (nxt:=[.e 62,.e 60]) (inits:=[.c (.int 0),.e 27]) (fv:=[3,9,10,11,12,26]) (tys:=[.i,.l]) (by kernel_rfl) rfl rfl rfl rfl hS (by kernel_rfl) (by kernel_rfl) hB (Ec hH) (fun s=>0≤(aI s 0)∧(aI s 0)≤((L T 26)).length∧((aL s 1)).length≤24∧ml g [] (L T 26)=ml g (aL s 1) ((L T 26).drop (aI s 0).toNat)) (fun s=>(((L T 26)).length - (aI s 0)).toNat) ?_ ?_
 ·show 0≤(0:Int)∧(0:Int)≤((L T 26)).length∧((L T 27)).length≤24∧ml g [] (L T 26)=ml g (L T 27) ((L T 26).drop (0:Int).toNat)
  clear hS hB hH
  refine⟨by omega,by omega,by rw[h27];decide,?_⟩
  rw[h27];rfl
 ·intro T2 hfv hF inv
  replace inv:0≤I T2 28∧I T2 28≤((L T 26)).length∧((L T2 29)).length≤24∧ml g [] (L T 26)=ml g (L T2 29) ((L T 26).drop (I T2 28).toNat):=inv
  clear hS hB hH
  replace hF:AK T2 mp:=hF
  obtain⟨F0,hF⟩:=hF.cut
  obtain⟨F1,hF⟩:=hF.cut
  have F2:=hF;clear hF
  have fv3:I T2 3=I T 3:=fvI (hfv 3 (by decide))
  have fv9:B T2 9=B T 9:=fvB (hfv 9 (by decide))
  have fv10:B T2 10=B T 10:=fvB (hfv 10 (by decide))
  have fv11:B T2 11=B T 11:=fvB (hfv 11 (by decide))
  have fv12:B T2 12=B T 12:=fvB (hfv 12 (by decide))
  have fv26:L T2 26=L T 26:=fvL (hfv 26 (by decide))
  clear hfv
  suffices hz:(B T2 56=true→(((L T2 29)).length+((L T2 57)).length)*16≤140737488355328)∧(B T2 45=true→(((L T2 29)).length+((L T2 46)).length)*16≤140737488355328)∧(B T2 35=true→0≤I T2 28∧I T2 28 < ((L T2 26)).length)∧(B T2 35=true→0≤I T2 28∧I T2 28 < ((L T2 26)).length)∧(B T2 35=true→0≤I T2 28∧I T2 28 < ((L T2 26)).length)∧(B T2 48=true→(0≤I T2 62∧I T2 62≤((L T 26)).length∧((L T2 60)).length≤24∧ml g [] (L T 26)=ml g (L T2 60) ((L T 26).drop (I T2 62).toNat)))∧(B T2 48=true→(((L T 26)).length - (I T2 62)).toNat < (((L T 26)).length - (I T2 28)).toNat) from
   let⟨r0,r1,r2,r3,r4,nx,mz⟩:=hz;⟨⟨r0,r1,r2,r3,r4,trivial⟩,fun hp=>⟨nx hp,mz hp⟩⟩
  refine⟨?_,?_,?_,?_,?_,?_,?_⟩
  ·obtain⟨-,-,-,-,-,-,-,-,-,-,-,e57,-⟩:=F1
   simp only[AA,AD,zR,zL,uR,Aj,zW] at e57
   intro _
   obtain⟨v1,v2,v3,v4⟩:=inv
   rw[e57]
   simp only[List.length_cons,List.length_nil]
   omega
  ·obtain⟨e46,-⟩:=F1
   simp only[AA,zR,zL,uR,Aj,zW] at e46
   intro _
   obtain⟨v1,v2,v3,v4⟩:=inv
   rw[e46]
   simp only[List.length_cons,List.length_nil]
   omega
  ·obtain⟨e30,e31,-,e33,e34,e35,-⟩:=F0
   simp only[AA,AD,zR,zL] at*
   obtain⟨v1,v2,v3,v4⟩:=inv
   clear v4 hg
   grind
  ·obtain⟨e30,e31,-,e33,e34,e35,-⟩:=F0
   simp only[AA,AD,zR,zL] at*
   obtain⟨v1,v2,v3,v4⟩:=inv
   clear v4 hg
   grind
  ·obtain⟨e30,e31,-,e33,e34,e35,-⟩:=F0
   simp only[AA,AD,zR,zL] at*
   obtain⟨v1,v2,v3,v4⟩:=inv
   clear v4 hg
   grind
  ·obtain⟨e30,e31,-,e33,e34,e35,-,e37,e38,e39,e40,e41,e42,e43,e44,-⟩:=F0
   obtain⟨-,-,e48,e49,-,e51,-,e53,e54,e55,-,e57,e58,-,e60,-⟩:=F1
   obtain⟨e62,-⟩:=F2
   simp only[AA,AD,zN,zR,AN,AM,and_false,or_false,Af,w2P,zL,uR,Aj,zW] at*
   intro hp
   obtain⟨v1,v2,v3,v4⟩:=inv
   have hlt:(I T2 28) < ((L T 26)).length:=by clear v4 hg;grind
   have h24:¬24≤((L T2 29)).length:=by clear v4 hg;grind
   have h250:¬250≤At (L T 26) (I T2 28).toNat 0:=by clear v4 hg;grind
   have e:(I T2 62)=I T2 28+1:=e62 (by omega) (by omega)
   have a1:(I T2 37)=At (L T 26) (I T2 28).toNat 0:=by rw[e37,fv26]
   have a2:(I T2 41)=At (L T 26) (I T2 28).toNat 0:=by rw[e41,fv26]
   have hx:(L T2 60)=L T2 29++evS g (At (L T 26) (I T2 28).toNat 0):=by
    rw[←a1]
    rw[←a1] at a2
    clear v4 v1 v2 v3 hlt h24 e e37 e41 e43 a1 h250 e62
    subst hg
    simp only[evS,inS,AY,zB]
    grind (splits:=40) [-List.append_assoc]
   refine⟨by omega,by omega,?_,?_⟩
   ·rw[hx,List.length_append]
    have:=oe (g:=g) (x:=At (L T 26) (I T2 28).toNat 0)
    omega
   ·rw[v4,pB (by omega) h24 h250,hx,e,show ((I T2 28)+1).toNat=(I T2 28).toNat+1 by omega]
  ·obtain⟨e30,e31,-,e33,e34,e35,-,-,-,-,-,-,-,e43,e44,-⟩:=F0
   obtain⟨-,-,e48,-⟩:=F1
   obtain⟨e62,-⟩:=F2
   simp only[AA,AD,zN,zR,w2P,zL] at*
   intro hp
   obtain⟨v1,v2,v3,v4⟩:=inv
   have hlt:(I T2 28) < ((L T 26)).length:=by clear v4 hg;grind
   have e:(I T2 62)=I T2 28+1:=e62 (by omega) (by omega)
   omega
theorem pf {T:Tab}(hl26:(L T 26).length≤140737488355328)(g:Gm)(hg:g=gT T 0)(h27:(L T 27)=([]:List (List U)))(inv0:0≤I T 28∧I T 28≤((L T 26)).length∧((L T 29)).length≤24∧ml g [] (L T 26)=ml g (L T 29) ((L T 26).drop (I T 28).toNat))(np0:¬B T 48=true)(A0:AK T nV)(B0:AK T mp)(A1:AK T nz):
  ((L T 63)=(nU g (L T 26))):=by
 have F0:=A0;clear A0
 obtain⟨F1,B0⟩:=B0.cut
 obtain⟨F2,B0⟩:=B0.cut
 have F3:=B0;clear B0
 have F4:=A1;clear A1
 ·obtain⟨e30,e31,-,e33,e34,e35,-,-,-,-,-,-,-,e43,e44,e45,-⟩:=F1
  obtain⟨e46,e47,e48,-⟩:=F2
  obtain⟨e63,-⟩:=F4
  simp only[AA,AD,zN,zR,zL,uR,Aj,zW] at*
  obtain⟨w1,w2,w3,w4⟩:=inv0
  unfold nU
  rw[w4]
  cases h35:(B T 35) with
  |false=>
   have e:(L T 63)=L T 29:=by clear w4 hg;grind
   rw[e]
   by_cases h:(I T 28) < ((L T 26)).length
   ·exact (oP (by clear w4 hg;grind)).symm
   ·exact (ol (by omega)).symm
  |true=>
   have hlt:(I T 28) < ((L T 26)).length:=by clear w4 hg;grind
   have h24:¬24≤((L T 29)).length:=by clear w4 hg;grind
   have h250:250≤At (L T 26) (I T 28).toNat 0:=by clear w4 hg;grind
   rw[oo (by omega) h24 h250]
   clear w4 hg
   grind [-List.append_assoc]
theorem pU:CA Try.prog 19 nL:=by
 refine Bu (l:=[]) C6 (by intro p h;exact absurd h (by simp)) pX (by kernel_rfl) fun T us hpre hT hul hS hBd hE=>?_
 change us.length=27 at hul
 obtain⟨-,-,-,-,-,-,-,-,-,-,-,-,-,-,-,⟨hl26,he26⟩,-⟩:=hBd
 replace hl26:(L T 26).length≤140737488355328:=hl26
 obtain⟨g,hg⟩:∃g:Gm,g=gT T 0:=⟨_,rfl⟩
 have hgu:gAt 0 us=g:=by rw[hg];exact DV hT hul (by decide)
 have ha26:aL us 26=L T 26:=inL hT hul (by decide)
 clear hpre
 rw[List.map_append,List.map_append,List.map_append] at hE
 have hA:=hE.left
 replace hE:=hE.right
 have hH:=hE.left
 replace hE:=hE.right
 have hB:=hE.left
 replace hE:=hE.right
 obtain⟨A0,hS1⟩:=Cp hS (by kernel_rfl) hA
 have h27:=pD hl26 g hg A0
 obtain⟨ow0,hS2,inv0,np0⟩:=pI hl26 g hg h27 hS1 hB hH
 have hF2:=(Cp (hS2.append hS1) (l:=mp) (by kernel_rfl) hB)
 obtain⟨B0,hS⟩:=hF2
 clear hA hB hH hS1 hS2
 obtain⟨A1,hO⟩:=CK (tys:=[.l]) (rs:=pH) hS (by kernel_rfl) hE
 have q0:=pf hl26 g hg h27 inv0 np0 A0 B0 A1
 refine⟨⟨(fun _=>ow0),trivial⟩,hO.trans ?_⟩
 exact (lc (by show U.list (L T 63)= .list (nZ us);unfold nZ;rw[hgu,ha26];exact congrArg U.list q0) rfl)
end Go.Eng
end
