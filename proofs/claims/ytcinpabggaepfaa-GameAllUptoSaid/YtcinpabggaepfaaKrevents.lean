/-
  A part of the proof: K_reventsd K_revents.
-/
import Derived.Test.YtcinpabggaepfaaE3
import Derived.Test.YtcinpabggaepfaaE4
set_option linter.unusedVariables false
set_option linter.unusedSimpArgs false
noncomputable section
open Go Go.Eng Go.Proofs
set_option maxHeartbeats 4000000
set_option maxRecDepth 100000
namespace Go.Eng
def I9:List U→Bool:=fun us=>(BX (gAt 0 us) (aL us 26))
def IF:Bc:={ sh:=[.agg [k64,k64,k64,k64,k64,k64,k64,k64,k64,.bool,.bool,.bool,.bool,.bool,.bool,.bool,.bool,k64,k64,.bool,.bool,.bool,k64,k64,k64,k64],.one (.list [k64,k64])],blks:=[],outs:=[(.s "revents.0",AQ I9)],c:= .b 27,m':=[],pre:=[] }
def Va:List En:=[⟨28,.len,[.e 26]⟩,
 ⟨29,.lt,[.e 27,.e 28]⟩,
 ⟨30,.not,[.e 29]⟩,
 ⟨31,.get .i 0,[.e 26,.e 27]⟩,
 ⟨32,.get .i 1,[.e 26,.e 27]⟩,
 ⟨33,.lt,[.e 31,.c (.int 1)]⟩,
 ⟨34,.and,[.e 29,.n 33]⟩,
 ⟨35,.lt,[.c (.int 5),.e 31]⟩,
 ⟨36,.or,[.e 33,.e 35]⟩,
 ⟨37,.and,[.e 29,.e 36]⟩,
 ⟨38,.and,[.e 29,.n 36]⟩,
 ⟨39,.eq,[.e 31,.c (.int 5)]⟩,
 ⟨40,.and,[.e 38,.e 39]⟩,
 ⟨41,.w2 .i64 .add,[.e 27,.c (.int 1)]⟩,
 ⟨42,.len,[.e 26]⟩,
 ⟨43,.lt,[.e 41,.e 42]⟩]
def Vq:List En:=[⟨44,.and,[.e 40,.e 43]⟩,
 ⟨45,.and,[.e 40,.n 43]⟩,
 ⟨46,.and,[.e 38,.n 39]⟩,
 ⟨47,.le,[.c (.int 0),.e 32]⟩,
 ⟨48,.and,[.e 46,.e 47]⟩,
 ⟨49,.lt,[.e 32,.c (.int 4)]⟩,
 ⟨50,.and,[.e 47,.e 49]⟩,
 ⟨51,.and,[.e 46,.e 50]⟩,
 ⟨52,.pick .b,[.e 32,.e 9,.e 10,.e 11,.e 12]⟩,
 ⟨53,.and,[.e 50,.e 52]⟩,
 ⟨54,.and,[.e 46,.e 53]⟩,
 ⟨55,.eq,[.e 31,.c (.int 1)]⟩,
 ⟨56,.and,[.e 54,.e 55]⟩,
 ⟨57,.eq,[.e 32,.e 3]⟩,
 ⟨58,.and,[.e 55,.e 57]⟩,
 ⟨59,.or,[.n 53,.e 58]⟩]
def Vf:List En:=[⟨60,.and,[.e 46,.e 59]⟩,
 ⟨61,.and,[.e 46,.n 59]⟩,
 ⟨62,.or,[.e 44,.e 60]⟩,
 ⟨63,.or,[.e 37,.e 62]⟩,
 ⟨64,.or,[.e 45,.e 61]⟩,
 ⟨65,.w2 .i64 .add,[.e 27,.c (.int 1)]⟩]
def O7:List En:=[]
def D6:List En:=Va++(Vq++(Vf))
def O8:List ObE:=[⟨some 51,.inr,[.e 32,.c (.int 4)]⟩,⟨some 29,.inl,[.e 27,.e 26]⟩]
def JF:BW:=mkD 27 1 D6 64 [.e 65] O8 [3,9,10,11,12,26]
def K0:List Rf:=[.e 3,.e 9,.e 10,.e 11,.e 12,.e 26,.c (.int 0)]
def Vd:List En:=[⟨66,.ite .b,[.e 63,.c (.bool false),.c (.bool true)]⟩,
 ⟨67,.or,[.e 63,.e 30]⟩]
def Po:List En:=Vd
def gO:List ObE:=[⟨none,.owes JF,[.e 3,.e 9,.e 10,.e 11,.e 12,.e 26,.c (.int 0)]⟩]
def Tf:List Rf:=[.e 66]
theorem ef:IF.sees Tf (IF.run Try.prog [] Ba 3000 20 38)=some ((O7++((Ek JF [.i] K0)++(D6++(Po)))).map En.be,gO.map ObE.be,[]):=by kernel_rfl
theorem ZJ {T:Tab}(hl26:(L T 26).length≤140737488355328)(hS:Ay T (J7 (EE 0 IF.ks) O7))(hB:CJ T (D6.map En.be))(hH:CJ T ((Ek JF [.i] K0).map En.be)):
  (JF).owes (K0.map (Rf.eval T))∧Ay T (hds 27 [.i])∧(0≤I T 27∧I T 27≤((L T 26)).length∧DF (gT T 0) (L T 26) (I T 27))∧¬B T 64=true:=by
 refine Gx (nh:=27) (k:=1) (pcn:=64) (top:=66) (bes:=D6) (bos:=O8) (nxt:=[.e 65]) (inits:=[.c (.int 0)]) (fv:=[3,9,10,11,12,26]) (tys:=[.i]) (by kernel_rfl) rfl rfl rfl rfl hS (by kernel_rfl) (by kernel_rfl) hB (Ec hH) (fun s=>0≤(aI s 0)∧(aI s 0)≤((L T 26)).length∧DF (gT T 0) (L T 26) (aI s 0)) (fun s=>(((L T 26)).length - (aI s 0)).toNat) ?_ ?_
 ·show 0≤(0:Int)∧(0:Int)≤((L T 26)).length∧DF (gT T 0) (L T 26) (0:Int)
  clear hS hB hH
  exact⟨by omega,by omega,fun j hj=>absurd hj (by omega)⟩
 ·intro T2 hfv hF inv
  replace inv:0≤I T2 27∧I T2 27≤((L T 26)).length∧DF (gT T 0) (L T 26) (I T2 27):=inv
  clear hS hB hH
  replace hF:AK T2 D6:=hF
  obtain⟨F0,hF⟩:=hF.cut
  obtain⟨F1,hF⟩:=hF.cut
  have F2:=hF;clear hF
  have fv3:I T2 3=I T 3:=fvI (hfv 3 (by decide))
  have fv9:B T2 9=B T 9:=fvB (hfv 9 (by decide))
  have fv10:B T2 10=B T 10:=fvB (hfv 10 (by decide))
  have fv11:B T2 11=B T 11:=fvB (hfv 11 (by decide))
  have fv12:B T2 12=B T 12:=fvB (hfv 12 (by decide))
  have fv26:L T2 26=L T 26:=fvL (hfv 26 (by decide))
  clear hfv
  suffices hz:(B T2 51=true→0≤I T2 32∧I T2 32 < 4)∧(B T2 29=true→0≤I T2 27∧I T2 27 < ((L T2 26)).length)∧(B T2 64=true→(0≤I T2 65∧I T2 65≤((L T 26)).length∧DF (gT T 0) (L T 26) (I T2 65)))∧(B T2 64=true→(((L T 26)).length - (I T2 65)).toNat < (((L T 26)).length - (I T2 27)).toNat) from
   let⟨r0,r1,nx,mz⟩:=hz;⟨⟨r0,r1,trivial⟩,fun hp=>⟨nx hp,mz hp⟩⟩
  refine⟨?_,?_,?_,?_⟩
  ·obtain⟨e28,e29,-,e31,e32,e33,-,e35,e36,-,e38,e39,-⟩:=F0
   obtain⟨-,-,e46,e47,-,e49,e50,e51,-⟩:=F1
   simp only[AA,AD,zN,zR,zL] at*
   grind (splits:=100)
  ·obtain⟨e28,e29,-⟩:=F0
   simp only[AA,zR,zL] at e28 e29
   grind (splits:=100)
  ·obtain⟨e28,e29,-,e31,e32,e33,-,e35,e36,-,e38,e39,e40,e41,e42,e43,-⟩:=F0
   obtain⟨-,e45,e46,e47,-,e49,e50,-,e52,e53,-,e55,-,e57,e58,e59,-⟩:=F1
   obtain⟨-,e61,-,-,e64,e65,-⟩:=F2
   simp only[AA,AD,zN,zR,AN,AM,and_false,or_false,w2P,zL] at*
   intro hp
   obtain⟨v1,v2,v3⟩:=inv
   have e:(I T2 65)=I T2 27+1:=by grind (splits:=60)
   refine⟨by omega,by grind (splits:=60),fun j hj=>?_⟩
   by_cases hj2:(j:Int) < I T2 27
   ·exact v3 j hj2
   ·obtain rfl:j=(I T2 27).toNat:=by omega
    simp only[Kw,inS,AY,Bool.and_eq_true,Bool.or_eq_true,decide_eq_true_eq]
    clear v3
    grind (splits:=100)
  ·obtain⟨e28,e29,-,e31,e32,e33,-,e35,e36,-,e38,e39,e40,e41,e42,e43,-⟩:=F0
   obtain⟨-,e45,e46,e47,-,e49,e50,-,e52,e53,-,e55,-,e57,e58,e59,-⟩:=F1
   obtain⟨-,e61,-,-,e64,e65,-⟩:=F2
   simp only[AA,AD,zN,zR,AN,AM,and_false,or_false,w2P,zL] at*
   grind (splits:=100)
theorem fP {T:Tab}(hl26:(L T 26).length≤140737488355328)(g:Gm)(hg:g=gT T 0)(inv0:0≤I T 27∧I T 27≤((L T 26)).length∧DF (gT T 0) (L T 26) (I T 27))(np0:¬B T 64=true)(B0:AK T D6)(A1:AK T Po):
  ((B T 66)=(BX g (L T 26))):=by
 obtain⟨F0,B0⟩:=B0.cut
 obtain⟨F1,B0⟩:=B0.cut
 have F2:=B0;clear B0
 have F3:=A1;clear A1
 ·obtain⟨e28,e29,-,e31,e32,e33,-,e35,e36,e37,e38,e39,e40,e41,e42,e43,-⟩:=F0
  obtain⟨e44,e45,e46,e47,-,e49,e50,-,e52,e53,-,e55,-,e57,e58,e59,-⟩:=F1
  obtain⟨e60,e61,e62,e63,e64,-⟩:=F2
  obtain⟨e66,-⟩:=F3
  simp only[AA,AD,zN,zC,zR,AN,AM,and_false,or_false,w2P,zL] at*
  subst hg
  refine Bool.eq_iff_iff.2 (Iff.trans ?_ HU.symm)
  obtain⟨v1,v2,v3⟩:=inv0
  constructor
  ·intro h
   have e:(I T 27)=(L T 26).length:=by grind (splits:=60)
   rw[←e];exact v3
  ·intro h
   have h2:=h (I T 27).toNat
   simp only[Kw,inS,AY,Bool.and_eq_true,Bool.or_eq_true,decide_eq_true_eq] at h2
   grind (splits:=60)
theorem da:CA Try.prog 38 IF:=by
 refine Bu (l:=[]) C6 (by intro p h;exact absurd h (by simp)) ef (by kernel_rfl) fun T us hpre hT hul hS hBd hE=>?_
 change us.length=27 at hul
 obtain⟨-,-,-,-,-,-,-,-,-,-,-,-,-,-,-,⟨hl26,he26⟩,-⟩:=hBd
 replace hl26:(L T 26).length≤140737488355328:=hl26
 obtain⟨g,hg⟩:∃g:Gm,g=gT T 0:=⟨_,rfl⟩
 have hgu:gAt 0 us=g:=by rw[hg];exact DV hT hul (by decide)
 have ha26:aL us 26=L T 26:=inL hT hul (by decide)
 clear hpre
 rw[List.map_append,List.map_append,List.map_append] at hE
 have hA:=hE.left
 replace hE:=hE.right
 have hH:=hE.left
 replace hE:=hE.right
 have hB:=hE.left
 replace hE:=hE.right
 obtain⟨A0,hS1⟩:=Cp hS (by kernel_rfl) hA
 obtain⟨ow0,hS2,inv0,np0⟩:=ZJ hl26 hS1 hB hH
 have hF2:=(Cp (hS2.append hS1) (l:=D6) (by kernel_rfl) hB)
 obtain⟨B0,hS⟩:=hF2
 clear hA hB hH hS1 hS2
 obtain⟨A1,hO⟩:=CK (tys:=[.b]) (rs:=Tf) hS (by kernel_rfl) hE
 have q0:=fP hl26 g hg inv0 np0 B0 A1
 refine⟨⟨(fun _=>ow0),trivial⟩,hO.trans ?_⟩
 exact (lc (by show U.bool (B T 66)= .bool (I9 us);unfold I9;rw[hgu,ha26];exact congrArg U.bool q0) rfl)
end Go.Eng
end
