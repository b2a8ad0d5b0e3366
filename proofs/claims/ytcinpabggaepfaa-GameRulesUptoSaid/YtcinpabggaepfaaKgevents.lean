/-
  A part of the proof: K_geventsd K_gevents.
-/
import Derived.Test.YtcinpabggaepfaaE3
import Derived.Test.YtcinpabggaepfaaE4
set_option linter.unusedVariables false
set_option linter.unusedSimpArgs false
noncomputable section
open Go Go.Eng Go.Proofs
set_option maxHeartbeats 4000000
set_option maxRecDepth 100000
namespace Go.Eng
def I6:List U→Bool:=fun us=>(BX (gAt 1 us) (aL us 0))
def ID:Bc:={ sh:=[.ptr 0 0,.one (.list [k64,k64])],blks:=[([k64,k64,k64,k64,k64,k64,k64,k64,k64,.bool,.bool,.bool,.bool,.bool,.bool,.bool,.bool,k64,k64,.bool,.bool,.bool,k64,k64,k64,k64,k64,k64,k64,.bool,.bool,.bool],73)],outs:=[(.s "gevents.0",AQ I6)],c:= .b 33,m':=[.cells [(AG 1),(AG 2),(AG 3),(AG 4),(AG 5),(AG 6),(AG 7),(AG 8),(AG 9),.b 10,.b 11,.b 12,.b 13,.b 14,.b 15,.b 16,.b 17,(AG 18),(AG 19),.b 20,.b 21,.b 22,(AG 23),(AG 24),(AG 25),(AG 26),(AG 27),(AG 28),(AG 29),.b 30,.b 31,.b 32] 73],pre:=[] }
def U8:List En:=[⟨33,.len,[.e 0]⟩]
def VU:List En:=[⟨35,.lt,[.e 34,.e 33]⟩,
 ⟨36,.not,[.e 35]⟩,
 ⟨37,.get .i 0,[.e 0,.e 34]⟩,
 ⟨38,.get .i 1,[.e 0,.e 34]⟩,
 ⟨39,.eq,[.e 37,.c (.int 5)]⟩,
 ⟨40,.and,[.e 35,.e 39]⟩,
 ⟨41,.len,[.e 0]⟩,
 ⟨42,.o2 .sub,[.e 41,.c (.int 1)]⟩,
 ⟨43,.lt,[.e 34,.e 42]⟩,
 ⟨44,.and,[.e 40,.e 43]⟩,
 ⟨45,.and,[.e 40,.n 43]⟩,
 ⟨46,.and,[.e 35,.n 39]⟩,
 ⟨47,.lt,[.e 37,.c (.int 1)]⟩,
 ⟨48,.and,[.e 46,.n 47]⟩,
 ⟨49,.lt,[.c (.int 4),.e 37]⟩,
 ⟨50,.or,[.e 47,.e 49]⟩]
def Vs:List En:=[⟨51,.and,[.e 46,.n 50]⟩,
 ⟨52,.and,[.e 46,.n 50]⟩,
 ⟨53,.le,[.c (.int 0),.e 38]⟩,
 ⟨54,.and,[.e 52,.e 53]⟩,
 ⟨55,.lt,[.e 38,.c (.int 4)]⟩,
 ⟨56,.and,[.e 53,.e 55]⟩,
 ⟨57,.and,[.e 52,.e 56]⟩,
 ⟨58,.pick .b,[.e 38,.e 10,.e 11,.e 12,.e 13]⟩,
 ⟨59,.and,[.e 56,.e 58]⟩,
 ⟨60,.or,[.e 50,.n 59]⟩,
 ⟨61,.and,[.e 46,.n 60]⟩,
 ⟨62,.eq,[.e 37,.c (.int 1)]⟩,
 ⟨63,.and,[.e 61,.e 62]⟩,
 ⟨64,.and,[.e 61,.e 62]⟩,
 ⟨65,.eq,[.e 38,.e 4]⟩,
 ⟨66,.and,[.e 62,.e 65]⟩]
def Vg:List En:=[⟨67,.or,[.e 60,.e 66]⟩,
 ⟨68,.and,[.e 46,.e 67]⟩,
 ⟨69,.and,[.e 46,.n 67]⟩,
 ⟨70,.or,[.e 44,.e 68]⟩,
 ⟨71,.or,[.e 45,.e 69]⟩,
 ⟨72,.w2 .i64 .add,[.e 34,.c (.int 1)]⟩]
def I8:List En:=U8
def D9:List En:=VU++(Vs++(Vg))
def PY:List ObE:=[⟨some 57,.inr,[.e 38,.c (.int 4)]⟩,⟨some 35,.inl,[.e 34,.e 0]⟩]
def JH:BW:=mkD 34 1 D9 71 [.e 72] PY [4,10,11,12,13,0,33]
def Kz:List Rf:=[.e 4,.e 10,.e 11,.e 12,.e 13,.e 0,.e 33,.c (.int 0)]
def Vr:List En:=[⟨73,.ite .b,[.e 70,.c (.bool false),.c (.bool true)]⟩,
 ⟨74,.or,[.e 70,.e 36]⟩]
def PQ:List En:=Vr
def gb:List ObE:=[⟨none,.owes JH,[.e 4,.e 10,.e 11,.e 12,.e 13,.e 0,.e 33,.c (.int 0)]⟩]
def TS:List Rf:=[.e 73]
theorem gX:ID.sees TS (ID.run Try.prog [] Ba 3000 20 50)=some ((I8++((Ek JH [.i] Kz)++(D9++(PQ)))).map En.be,gb.map ObE.be,[]):=by kernel_rfl
theorem W6 {T:Tab}(hl0:(L T 0).length≤140737488355328)(g:Gm)(hg:g=gT T 1)(A0:AK T I8):
  ((I T 33)=((L T 0)).length):=by
 have F0:=A0;clear A0
 have h33:(I T 33)=((L T 0)).length:=by
  obtain⟨e33,-⟩:=F0
  simp only[AA,zR,zL] at e33
  exact e33
 exact h33
theorem Y8 {T:Tab}(hl0:(L T 0).length≤140737488355328)(h33:(I T 33)=((L T 0)).length)(hS:Ay T (J7 (EE 0 ID.ks) I8))(hB:CJ T (D9.map En.be))(hH:CJ T ((Ek JH [.i] Kz).map En.be)):
  (JH).owes (Kz.map (Rf.eval T))∧Ay T (hds 34 [.i])∧(0≤I T 34∧I T 34≤((L T 0)).length∧DF (gT T 1) (L T 0) (I T 34))∧¬B T 71=true:=by
 refine Gx (nh:=34) (k:=1) (pcn:=71) (top:=73) (bes:=D9) (bos:=PY) (nxt:=[.e 72]) (inits:=[.c (.int 0)]) (fv:=[4,10,11,12,13,0,33]) (tys:=[.i]) (by kernel_rfl) rfl rfl rfl rfl hS (by kernel_rfl) (by kernel_rfl) hB (Ec hH) (fun s=>0≤(aI s 0)∧(aI s 0)≤((L T 0)).length∧DF (gT T 1) (L T 0) (aI s 0)) (fun s=>(((L T 0)).length - (aI s 0)).toNat) ?_ ?_
 ·show 0≤(0:Int)∧(0:Int)≤((L T 0)).length∧DF (gT T 1) (L T 0) (0:Int)
  clear hS hB hH
  exact⟨by omega,by omega,fun j hj=>absurd hj (by omega)⟩
 ·intro T2 hfv hF inv
  replace inv:0≤I T2 34∧I T2 34≤((L T 0)).length∧DF (gT T 1) (L T 0) (I T2 34):=inv
  clear hS hB hH
  replace hF:AK T2 D9:=hF
  obtain⟨F0,hF⟩:=hF.cut
  obtain⟨F1,hF⟩:=hF.cut
  have F2:=hF;clear hF
  have fv4:I T2 4=I T 4:=fvI (hfv 4 (by decide))
  have fv10:B T2 10=B T 10:=fvB (hfv 10 (by decide))
  have fv11:B T2 11=B T 11:=fvB (hfv 11 (by decide))
  have fv12:B T2 12=B T 12:=fvB (hfv 12 (by decide))
  have fv13:B T2 13=B T 13:=fvB (hfv 13 (by decide))
  have fv0:L T2 0=L T 0:=fvL (hfv 0 (by decide))
  have fv33:I T2 33=I T 33:=fvI (hfv 33 (by decide))
  clear hfv
  suffices hz:(B T2 57=true→0≤I T2 38∧I T2 38 < 4)∧(B T2 35=true→0≤I T2 34∧I T2 34 < ((L T2 0)).length)∧(B T2 71=true→(0≤I T2 72∧I T2 72≤((L T 0)).length∧DF (gT T 1) (L T 0) (I T2 72)))∧(B T2 71=true→(((L T 0)).length - (I T2 72)).toNat < (((L T 0)).length - (I T2 34)).toNat) from
   let⟨r0,r1,nx,mz⟩:=hz;⟨⟨r0,r1,trivial⟩,fun hp=>⟨nx hp,mz hp⟩⟩
  refine⟨?_,?_,?_,?_⟩
  ·obtain⟨e35,-,e37,e38,e39,-,-,-,-,-,-,e46,e47,-,e49,e50,-⟩:=F0
   obtain⟨-,e52,e53,-,e55,e56,e57,-⟩:=F1
   simp only[AA,AD,zN,zR,zL] at*
   grind (splits:=100)
  ·obtain⟨e35,-⟩:=F0
   simp only[AA,zR] at e35
   grind (splits:=100)
  ·obtain⟨e35,-,e37,e38,e39,e40,e41,e42,e43,-,e45,e46,e47,-,e49,e50,-⟩:=F0
   obtain⟨-,-,e53,-,e55,e56,-,e58,e59,e60,-,e62,-,-,e65,e66,-⟩:=F1
   obtain⟨e67,-,e69,-,e71,e72,-⟩:=F2
   simp only[AA,AD,zN,zR,AN,AM,and_false,or_false,Af,w2P,zL] at*
   intro hp
   obtain⟨v1,v2,v3⟩:=inv
   have e:(I T2 72)=I T2 34+1:=by grind (splits:=60)
   refine⟨by omega,by grind (splits:=60),fun j hj=>?_⟩
   by_cases hj2:(j:Int) < I T2 34
   ·exact v3 j hj2
   ·obtain rfl:j=(I T2 34).toNat:=by omega
    simp only[Kw,inS,AY,Bool.and_eq_true,Bool.or_eq_true,decide_eq_true_eq]
    clear v3
    grind (splits:=100)
  ·obtain⟨e35,-,e37,e38,e39,e40,e41,e42,e43,-,e45,e46,e47,-,e49,e50,-⟩:=F0
   obtain⟨-,-,e53,-,e55,e56,-,e58,e59,e60,-,e62,-,-,e65,e66,-⟩:=F1
   obtain⟨e67,-,e69,-,e71,e72,-⟩:=F2
   simp only[AA,AD,zN,zR,AN,AM,and_false,or_false,Af,w2P,zL] at*
   grind (splits:=100)
theorem fL {T:Tab}(hl0:(L T 0).length≤140737488355328)(g:Gm)(hg:g=gT T 1)(h33:(I T 33)=((L T 0)).length)(inv0:0≤I T 34∧I T 34≤((L T 0)).length∧DF (gT T 1) (L T 0) (I T 34))(np0:¬B T 71=true)(A0:AK T I8)(B0:AK T D9)(A1:AK T PQ):
  ((B T 73)=(BX g (L T 0))):=by
 have F0:=A0;clear A0
 obtain⟨F1,B0⟩:=B0.cut
 obtain⟨F2,B0⟩:=B0.cut
 have F3:=B0;clear B0
 have F4:=A1;clear A1
 ·obtain⟨e33,-⟩:=F0
  obtain⟨e35,-,e37,e38,e39,e40,e41,e42,e43,e44,e45,e46,e47,-,e49,e50,-⟩:=F1
  obtain⟨-,-,e53,-,e55,e56,-,e58,e59,e60,-,e62,-,-,e65,e66,-⟩:=F2
  obtain⟨e67,e68,e69,e70,e71,-⟩:=F3
  obtain⟨e73,-⟩:=F4
  simp only[AA,AD,zN,zC,zR,AN,AM,and_false,or_false,Af,zL] at*
  subst hg
  refine Bool.eq_iff_iff.2 (Iff.trans ?_ HU.symm)
  obtain⟨v1,v2,v3⟩:=inv0
  constructor
  ·intro h
   have e:(I T 34)=(L T 0).length:=by grind (splits:=60)
   rw[←e];exact v3
  ·intro h
   have h2:=h (I T 34).toNat
   simp only[Kw,inS,AY,Bool.and_eq_true,Bool.or_eq_true,decide_eq_true_eq] at h2
   grind (splits:=60)
theorem eJ:CA Try.prog 50 ID:=by
 refine Bu (l:=[]) C6 (by intro p h;exact absurd h (by simp)) gX (by kernel_rfl) fun T us hpre hT hul hS hBd hE=>?_
 change us.length=33 at hul
 obtain⟨⟨hl0,he0⟩,-⟩:=hBd
 replace hl0:(L T 0).length≤140737488355328:=hl0
 obtain⟨g,hg⟩:∃g:Gm,g=gT T 1:=⟨_,rfl⟩
 have hgu:gAt 1 us=g:=by rw[hg];exact DV hT hul (by decide)
 have ha0:aL us 0=L T 0:=inL hT hul (by decide)
 clear hpre
 rw[List.map_append,List.map_append,List.map_append] at hE
 have hA:=hE.left
 replace hE:=hE.right
 have hH:=hE.left
 replace hE:=hE.right
 have hB:=hE.left
 replace hE:=hE.right
 obtain⟨A0,hS1⟩:=Cp hS (by kernel_rfl) hA
 have h33:=W6 hl0 g hg A0
 obtain⟨ow0,hS2,inv0,np0⟩:=Y8 hl0 h33 hS1 hB hH
 have hF2:=(Cp (hS2.append hS1) (l:=D9) (by kernel_rfl) hB)
 obtain⟨B0,hS⟩:=hF2
 clear hA hB hH hS1 hS2
 obtain⟨A1,hO⟩:=CK (tys:=[.b]) (rs:=TS) hS (by kernel_rfl) hE
 have q0:=fL hl0 g hg h33 inv0 np0 A0 B0 A1
 refine⟨⟨(fun _=>ow0),trivial⟩,hO.trans ?_⟩
 exact (lc (by show U.bool (B T 73)= .bool (I6 us);unfold I6;rw[hgu,ha0];exact congrArg U.bool q0) rfl)
end Go.Eng
end
