/-
  A part of the proof: K_lMirroredd K_lMirrored.
-/
import Derived.Test.YtmlmcidljiibaaaXQlMirrored
import Derived.Test.YtmlmcidljiibaaaE4
import Derived.Test.YtmlmcidljiibaaaE5
import Derived.Test.YtmlmcidljiibaaaKgreat
import Derived.Test.YtmlmcidljiibaaaKworks
import Derived.Test.YtmlmcidljiibaaaKrcheck
import Derived.Test.YtmlmcidljiibaaaKway
import Derived.Test.YtmlmcidljiibaaaKhas
import Derived.Test.YtmlmcidljiibaaaKstand
set_option linter.unusedVariables false
set_option linter.unusedSimpArgs false
noncomputable section
open Go Go.Eng Go.Proofs
set_option maxHeartbeats 4000000
set_option maxRecDepth 100000
namespace Go.Eng
def j7:List Kd:=[.str,k64,k64,k64,.list [k64,k64,k64,k64,.bool],k64,k64,k64,k64,k64,.list [k64,k64,k64],k64,k64,k64,k64,k64,.list [k64,k64,k64]]
def lL:List AC:=((Fj Try.prog 9 Try.f4.params.toList 0).map (·.1)).getD []
def kR:List Rf:=[.e 0,.e 1,.e 2,.e 3,.e 4,.e 5,.e 6,.e 7,.e 8,.e 9,.e 10]
def kH:List Rf:=[.e 0,.e 1,.e 2,.e 3,.e 4,.e 5,.e 6,.e 7,.e 8,.e 9,.e 10,.e 11,.e 12,.e 13,.e 14,.e 15,.e 16]
def kL:List Rf:=[.e 0,.e 1,.e 2,.e 3,.e 41,.e 49,.e 6,.e 7,.e 8,.e 9,.e 39,.e 64,.e 12,.e 65,.e 14,.e 15,.e 52]
def j9:List Rf:=[.e 0,.e 1,.e 2,.e 3,.e 4,.e 5,.e 6,.e 7,.e 8,.e 9,.e 10,.e 101,.c (.bool true),.e 11,.e 12,.e 15]
def kA:List Rf:=[.e 0,.e 1,.e 2,.e 3,.e 41,.e 49,.e 6,.e 7,.e 8,.e 9,.e 39,.e 101,.c (.bool true),.e 64,.e 12,.e 15]
def l6:List En:=[⟨17,.outB "great.0" IF,kR⟩,
 ⟨18,.not,[.e 17]⟩,
 ⟨19,.len,[.e 16]⟩,
 ⟨20,.lt,[.c (.int 12),.e 19]⟩,
 ⟨21,.or,[.e 17,.e 20]⟩,
 ⟨22,.not,[.e 21]⟩,
 ⟨23,.outI "rcheck.0" EB,kR⟩,
 ⟨24,.ne,[.e 23,.c (.int 0)]⟩,
 ⟨25,.or,[.e 21,.e 24]⟩,
 ⟨26,.not,[.e 25]⟩,
 ⟨27,.lt,[.e 15,.c (.int 1)]⟩,
 ⟨28,.or,[.e 25,.e 27]⟩,
 ⟨29,.not,[.e 28]⟩,
 ⟨30,.lt,[.c (.int 16384),.e 15]⟩,
 ⟨31,.or,[.e 28,.e 30]⟩,
 ⟨32,.outB "works.0" Dz,[]⟩]
def lw:List En:=[⟨33,.not,[.e 31]⟩,
 ⟨34,.id .l,[.c (.list [])]⟩,
 ⟨35,.id .i,[.c (.int 0)]⟩,
 ⟨36,.app,[.e 34,.e 4]⟩,
 ⟨37,.len,[.e 36]⟩,
 ⟨38,.id .l,[.c (.list [])]⟩,
 ⟨39,.app,[.e 38,.e 10]⟩]
def ed:List En:=l6++(lw)
def l8:List En:=[⟨42,.lt,[.e 40,.e 37]⟩,
 ⟨43,.and,[.e 33,.e 42]⟩,
 ⟨44,.and,[.e 33,.n 42]⟩,
 ⟨45,.get .i 0,[.e 4,.e 40]⟩,
 ⟨46,.w2 .i64 .sub,[.e 1,.e 45]⟩,
 ⟨47,.rset 0 [.i],[.e 41,.e 40,.e 46]⟩,
 ⟨48,.w2 .i64 .add,[.e 40,.c (.int 1)]⟩]
def dx:List En:=l8
def lG:List ObE:=[⟨some 43,.inr,[.e 40,.e 37]⟩,⟨some 43,.inl,[.e 40,.e 4]⟩]
def kD:Ae:=mkD 40 2 dx 43 [.e 48,.e 47] lG [1,4,33,37]
def kJ:List Rf:=[.e 1,.e 4,.e 33,.e 37,.c (.int 0),.e 36]
def mE:List En:=[⟨49,.w2 .i64 .sub,[.e 1,.e 5]⟩,
 ⟨50,.id .l,[.c (.list [])]⟩]
def hM:List En:=mE
def mC:List En:=[⟨53,.len,[.e 16]⟩,
 ⟨54,.lt,[.e 51,.e 53]⟩,
 ⟨55,.and,[.e 44,.e 54]⟩,
 ⟨56,.and,[.e 44,.n 54]⟩,
 ⟨57,.get .i 0,[.e 16,.e 51]⟩,
 ⟨58,.get .i 1,[.e 16,.e 51]⟩,
 ⟨59,.get .i 2,[.e 16,.e 51]⟩,
 ⟨60,.w2 .i64 .sub,[.e 1,.e 57]⟩,
 ⟨61,.row 1 3 [.i,.i,.i],[.e 60,.e 58,.e 59]⟩,
 ⟨62,.app,[.e 52,.e 61]⟩,
 ⟨63,.w2 .i64 .add,[.e 51,.c (.int 1)]⟩]
def ec:List En:=mC
def lE:List ObE:=[⟨some 55,.fits 24,[.e 52,.e 61]⟩,⟨some 55,.inl,[.e 51,.e 16]⟩]
def kE:Ae:=mkD 51 2 ec 55 [.e 63,.e 62] lE [1,16,44]
def kI:List Rf:=[.e 1,.e 16,.e 44,.c (.int 0),.e 50]
def l7:List En:=[⟨64,.w2 .i64 .sub,[.e 1,.e 11]⟩,
 ⟨65,.w2 .i64 .sub,[.e 1,.e 13]⟩,
 ⟨66,.outL "way.0" FX,kH⟩,
 ⟨67,.outI "way.1" FO,kH⟩,
 ⟨68,.outL "way.0" FX,kL⟩,
 ⟨69,.outI "way.1" FO,kL⟩,
 ⟨70,.ne,[.e 67,.c (.int 0)]⟩,
 ⟨71,.and,[.e 56,.n 70]⟩,
 ⟨72,.ne,[.e 69,.c (.int 0)]⟩,
 ⟨73,.or,[.e 70,.e 72]⟩,
 ⟨74,.and,[.e 56,.e 73]⟩,
 ⟨75,.outB "works.0" Dz,[]⟩,
 ⟨76,.and,[.e 56,.n 73]⟩,
 ⟨77,.len,[.e 4]⟩,
 ⟨78,.o2 .mul,[.c (.int 2),.e 77]⟩]
def j6:List En:=l7
def lz:List En:=[⟨80,.o2 .add,[.e 78,.c (.int 1)]⟩,
 ⟨81,.len,[.e 16]⟩,
 ⟨82,.o2 .add,[.e 80,.e 81]⟩,
 ⟨83,.lt,[.e 79,.e 82]⟩,
 ⟨84,.and,[.e 76,.e 83]⟩,
 ⟨85,.and,[.e 76,.n 83]⟩,
 ⟨86,.lt,[.e 79,.e 78]⟩,
 ⟨87,.and,[.e 84,.e 86]⟩,
 ⟨88,.o2 .tdiv,[.e 79,.c (.int 2)]⟩,
 ⟨89,.get .b 4,[.e 4,.e 88]⟩,
 ⟨90,.and,[.e 86,.n 89]⟩,
 ⟨91,.and,[.e 84,.e 90]⟩,
 ⟨92,.bits .xor .i64,[.e 79,.c (.int 1)]⟩,
 ⟨93,.and,[.e 84,.n 90]⟩,
 ⟨94,.ite .i,[.e 90,.e 92,.e 79]⟩,
 ⟨95,.outB "has.0" LM,[.e 66,.e 79]⟩]
def mB:List En:=[⟨96,.outB "has.0" LM,[.e 68,.e 94]⟩,
 ⟨97,.neb,[.e 95,.e 96]⟩,
 ⟨98,.and,[.e 84,.e 97]⟩,
 ⟨99,.and,[.e 84,.n 97]⟩,
 ⟨100,.w2 .i64 .add,[.e 79,.c (.int 1)]⟩]
def hG:List En:=lz++(mB)
def lH:List ObE:=[⟨some 87,.inl,[.e 88,.e 4]⟩]
def kC:Ae:=mkD 79 1 hG 99 [.e 100] lH [68,66,4,78,76,16]
def kG:List Rf:=[.e 68,.e 66,.e 4,.e 78,.e 76,.e 16,.c (.int 0)]
def kT:List En:=[]
def lu:List En:=[⟨102,.len,[.e 4]⟩,
 ⟨103,.lt,[.e 101,.e 102]⟩,
 ⟨104,.and,[.e 85,.e 103]⟩,
 ⟨105,.and,[.e 85,.n 103]⟩,
 ⟨106,.outI "stand.0" J5,j9⟩,
 ⟨107,.outI "stand.1" KF,j9⟩,
 ⟨108,.outI "stand.0" J5,kA⟩,
 ⟨109,.outI "stand.1" KF,kA⟩,
 ⟨110,.ne,[.e 107,.c (.int 0)]⟩,
 ⟨111,.and,[.e 104,.n 110]⟩,
 ⟨112,.ne,[.e 109,.c (.int 0)]⟩,
 ⟨113,.or,[.e 110,.e 112]⟩,
 ⟨114,.and,[.e 104,.n 113]⟩,
 ⟨115,.get .b 4,[.e 4,.e 101]⟩,
 ⟨116,.and,[.e 114,.n 115]⟩,
 ⟨117,.ne,[.e 106,.e 108]⟩]
def l9:List En:=[⟨118,.and,[.n 115,.e 117]⟩,
 ⟨119,.or,[.e 113,.e 118]⟩,
 ⟨120,.and,[.e 104,.e 119]⟩,
 ⟨121,.and,[.e 104,.n 119]⟩,
 ⟨122,.w2 .i64 .add,[.e 101,.c (.int 1)]⟩]
def jz:List En:=lu++(l9)
def lF:List ObE:=[⟨some 114,.inl,[.e 101,.e 4]⟩]
def kB:Ae:=mkD 101 1 jz 121 [.e 122] lF [4,0,1,2,3,41,49,6,7,8,9,39,64,12,15,5,10,11,85]
def kK:List Rf:=[.e 4,.e 0,.e 1,.e 2,.e 3,.e 41,.e 49,.e 6,.e 7,.e 8,.e 9,.e 39,.e 64,.e 12,.e 15,.e 5,.e 10,.e 11,.e 85,.c (.int 0)]
def mD:List En:=[⟨123,.outB "works.0" Dz,[]⟩,
 ⟨124,.ite .b,[.e 120,.c (.bool false),.e 123]⟩,
 ⟨125,.or,[.e 120,.e 105]⟩,
 ⟨126,.ite .b,[.e 98,.c (.bool false),.e 124]⟩,
 ⟨127,.or,[.e 98,.e 125]⟩,
 ⟨128,.ite .b,[.e 74,.e 75,.e 126]⟩,
 ⟨129,.or,[.e 74,.e 127]⟩,
 ⟨130,.ite .l,[.e 31,.c (.list []),.e 39]⟩,
 ⟨131,.ite .l,[.e 31,.c (.list []),.e 52]⟩,
 ⟨132,.ite .b,[.e 31,.e 32,.e 128]⟩,
 ⟨133,.or,[.e 31,.e 129]⟩]
def kQ:List En:=mD
def lV:List ObE:=[⟨some 85,.owes kB,[.e 4,.e 0,.e 1,.e 2,.e 3,.e 41,.e 49,.e 6,.e 7,.e 8,.e 9,.e 39,.e 64,.e 12,.e 15,.e 5,.e 10,.e 11,.e 85,.c (.int 0)]⟩,
 ⟨some 76,.owes kC,[.e 68,.e 66,.e 4,.e 78,.e 76,.e 16,.c (.int 0)]⟩,
 ⟨some 44,.owes kE,[.e 1,.e 16,.e 44,.c (.int 0),.e 50]⟩,
 ⟨some 33,.owes kD,[.e 1,.e 4,.e 33,.e 37,.c (.int 0),.e 36]⟩,
 ⟨some 33,.fits 24,[.e 38,.e 10]⟩,
 ⟨some 33,.fits 40,[.e 34,.e 4]⟩]
def mm:List Rf:=[.e 132]
theorem nA:TC 17 (Tw Try.prog [(12,HP),(13,HN),(16,Ci),(17,Hj),(18,Jz),(19,LH)] Ag 3000 20 4 lL 17)=some (132,(ed++((Ax kD [.i,.l] kJ)++(dx++(hM++((Ax kE [.i,.l] kI)++(ec++(j6++((Ax kC [.i] kG)++(hG++(kT++((Ax kB [.i] kK)++(jz++(kQ))))))))))))).map En.be,lV.map ObE.be):=by kernel_rfl
theorem mK {T:Tab}(hz0:(S T 0).size≤140737488355328)(hl4:(L T 4).length≤140737488355328)(hl10:(L T 10).length≤140737488355328)(hl16:(L T 16).length≤140737488355328)(g:Ln)(hg:g=Ln.mk (S T 0) (I T 1) (I T 2) (I T 3) (L T 4) (I T 5) (I T 6) (I T 7) (I T 8) (I T 9) (L T 10))(hb4:(L T 4).length≤1048576)(hb10:(L T 10).length≤1048576)(hb16:(L T 16).length≤1048576)(g1:Ln)(z1:g1=Ln.mk (S T 0) (I T 1) (I T 2) (I T 3) (L T 4) (I T 5) (I T 6) (I T 7) (I T 8) (I T 9) (L T 10))(A0:AI T ed):
  (g1=g)∧((B T 33)=true→AO g=0∧((L T 16)).length≤12∧(1≤I T 15∧I T 15≤16384))∧(((L T 4))=g.hoops∧I T 1=g.wide∧I T 5=g.px∧((L T 10))=g.cells)∧((B T 33)=true→(65536≤I T 1∧I T 1≤4194304)∧((L T 4)).length≤12∧BN ((L T 4))=true∧(-4194304≤I T 5∧I T 5≤4194304)∧((L T 16)).length≤12∧((L T 10)).length≤256)∧((I T 37)=((L T 4)).length∧L T 36=L T 4∧L T 39=L T 10):=by
 obtain⟨F0,A0⟩:=A0.cut
 have F1:=A0;clear A0
 have hgA:g1=g:=by
  rw[z1,hg]
 have hc:(B T 33)=true→AO g=0∧((L T 16)).length≤12∧(1≤I T 15∧I T 15≤16384):=by
  obtain⟨-,-,e19,e20,e21,-,e23,e24,e25,-,e27,e28,-,e30,e31,-⟩:=F0
  obtain⟨e33,-⟩:=F1
  replace e23:I T 23=(AO g1):=by rw[←show gAt 0 (kR.map (Rf.eval T))=g1 from z1.symm];exact e23
  simp only[AE,AG,zR,zL] at e19 e20 e21 e24 e25 e27 e28 e30 e31 e33
  intro h
  have n31:¬B T 31=true:=e33.1 h
  have n28:¬B T 28=true:=fun a=>n31 (e31.2 (.inl a))
  have n30:¬B T 30=true:=fun a=>n31 (e31.2 (.inr a))
  have n25:¬B T 25=true:=fun a=>n28 (e28.2 (.inl a))
  have n27:¬B T 27=true:=fun a=>n28 (e28.2 (.inr a))
  have n21:¬B T 21=true:=fun a=>n25 (e25.2 (.inl a))
  have n24:¬B T 24=true:=fun a=>n25 (e25.2 (.inr a))
  have n20:¬B T 20=true:=fun a=>n21 (e21.2 (.inr a))
  rw[e20,e19] at n20
  rw[e27] at n27
  rw[e30] at n30
  rw[e24,e23,hgA] at n24
  exact⟨Decidable.of_not_not n24,by omega,by omega,by omega⟩
 have hf:((L T 4))=g.hoops∧I T 1=g.wide∧I T 5=g.px∧((L T 10))=g.cells:=by
  rw[hg]
  exact⟨rfl,rfl,rfl,rfl⟩
 have hd:(B T 33)=true→(65536≤I T 1∧I T 1≤4194304)∧((L T 4)).length≤12∧BN ((L T 4))=true∧(-4194304≤I T 5∧I T 5≤4194304)∧((L T 16)).length≤12∧((L T 10)).length≤256:=by
  intro h
  obtain⟨c1,c2,c3⟩:=hc h
  obtain⟨f1,f2,f3,f4⟩:=hf
  have d:=CI c1
  have d2:=nH c1
  have d3:=Cp (a:=g.nx) (b:=g.ny) (A:=16) (B:=16) (by omega) (by omega)
  rw[f1,f2,f3,f4]
  exact⟨d.2.1,d.2.2.2.1,d.2.2.2.2.2.1,nZ c1,c2,by omega⟩
 have h37:(I T 37)=((L T 4)).length∧L T 36=L T 4∧L T 39=L T 10:=by
  obtain⟨-,e34,-,e36,e37,e38,e39,-⟩:=F1
  simp only[AE,AG,zR,zL] at e34 e36 e37 e38 e39
  have x36:(L T 36)=L T 4:=by rw[e36,e34];rfl
  exact⟨by rw[e37,x36],x36,by rw[e39,e38];rfl⟩
 exact⟨hgA,hc,hf,hd,h37⟩
theorem mU {T:Tab}(g:Ln)(hg:g=Ln.mk (S T 0) (I T 1) (I T 2) (I T 3) (L T 4) (I T 5) (I T 6) (I T 7) (I T 8) (I T 9) (L T 10))(hd:(B T 33)=true→(65536≤I T 1∧I T 1≤4194304)∧((L T 4)).length≤12∧BN ((L T 4))=true∧(-4194304≤I T 5∧I T 5≤4194304)∧((L T 16)).length≤12∧((L T 10)).length≤256)(h37:(I T 37)=((L T 4)).length∧L T 36=L T 4∧L T 39=L T 10)(hS:AL T (Am (BG 0 j7) ed))(hB:AX T (dx.map En.be))(hH:AX T ((Ax kD [.i,.l] kJ).map En.be)):
  (kD).owes (kJ.map (Rf.eval T))∧AL T (hds 40 [.i,.l])∧((0≤I T 40∧I T 40≤((L T 4)).length)∧L T 41=jy (I T 1) ((L T 4)) (I T 40).toNat)∧¬B T 43=true:=by
 refine BS (nh:=40) (k:=2) (pcn:=43) (top:=49) (bes:=dx) (bos:=lG) (nxt:=[.e 48,.e 47]) (inits:=[.c (.int 0),.e 36]) (fv:=[1,4,33,37]) (tys:=[.i,.l]) (by kernel_rfl) rfl rfl rfl rfl hS (by kernel_rfl) (by kernel_rfl) hB (Ay hH) (fun s=>(0≤(aI s 0)∧(aI s 0)≤((L T 4)).length)∧(aL s 1)=jy (I T 1) ((L T 4)) (aI s 0).toNat) (fun s=>(((L T 4)).length - (aI s 0)).toNat) ?_ ?_
 ·show (0≤(0:Int)∧(0:Int)≤((L T 4)).length)∧L T 36=jy (I T 1) ((L T 4)) (0:Int).toNat
  clear hS hB hH
  rw[h37.2.1]
  exact⟨by omega,nc.symm⟩
 ·intro T2 hfv hF inv
  replace inv:(0≤I T2 40∧I T2 40≤((L T 4)).length)∧L T2 41=jy (I T 1) ((L T 4)) (I T2 40).toNat:=inv
  clear hS hB hH
  replace hF:AI T2 dx:=hF
  have F0:=hF;clear hF
  have fv1:I T2 1=I T 1:=fvI (hfv 1 (by decide))
  have fv4:L T2 4=L T 4:=fvL (hfv 4 (by decide))
  have fv33:B T2 33=B T 33:=fvB (hfv 33 (by decide))
  have fv37:I T2 37=I T 37:=fvI (hfv 37 (by decide))
  clear hfv
  suffices hz:(B T2 43=true→0≤I T2 40∧I T2 40 < I T2 37)∧(B T2 43=true→0≤I T2 40∧I T2 40 < ((L T2 4)).length)∧(B T2 43=true→((0≤I T2 48∧I T2 48≤((L T 4)).length)∧L T2 47=jy (I T 1) ((L T 4)) (I T2 48).toNat))∧(B T2 43=true→(((L T 4)).length - (I T2 48)).toNat < (((L T 4)).length - (I T2 40)).toNat) from
   let⟨r0,r1,nx,mz⟩:=hz;⟨⟨r0,r1,trivial⟩,fun hp=>⟨nx hp,mz hp⟩⟩
  refine⟨?_,?_,?_,?_⟩
  ·obtain⟨e42,e43,-⟩:=F0
   simp only[AE,AG,zR] at e42 e43
   obtain⟨⟨v1,v2⟩,v3⟩:=inv
   intro hp
   have h:=e42.1 (e43.1 hp).2
   exact⟨v1,h⟩
  ·obtain⟨e42,e43,-⟩:=F0
   simp only[AE,AG,zR] at e42 e43
   obtain⟨⟨v1,v2⟩,v3⟩:=inv
   intro hp
   have h:=e42.1 (e43.1 hp).2
   rw[fv37,h37.1] at h
   rw[fv4]
   exact⟨v1,h⟩
  ·obtain⟨e42,e43,-,e45,e46,e47,e48,-⟩:=F0
   simp only[AE,AG,zR,w2P,zL] at e42 e43 e45 e46 e47 e48
   obtain⟨⟨v1,v2⟩,v3⟩:=inv
   intro hp
   have hq:=e43.1 hp
   have h:=e42.1 hq.2
   rw[fv37,h37.1] at h
   rw[fv33] at hq
   obtain⟨d1,d2,d3,-⟩:=hd hq.1
   have e:(I T2 48)=I T2 40+1:=e48 (by omega) (by omega)
   have hx:=(JR.1 (Gc.1 d3 (I T2 40).toNat (by omega))).1
   rw[fv4] at e45
   rw[fv1,e45] at e46
   have x46:=e46 (by omega) (by omega)
   refine⟨⟨by omega,by omega⟩,?_⟩
   rw[e47,v3,show (I T2 48).toNat=(I T2 40).toNat+1 by omega]
   exact nO (by omega) x46
  ·obtain⟨e42,e43,-,-,-,-,e48,-⟩:=F0
   simp only[AE,AG,zR,w2P] at e42 e43 e48
   obtain⟨⟨v1,v2⟩,v3⟩:=inv
   intro hp
   have hq:=e43.1 hp
   have h:=e42.1 hq.2
   rw[fv37,h37.1] at h
   rw[fv33] at hq
   obtain⟨d1,d2,d3,-⟩:=hd hq.1
   have e:(I T2 48)=I T2 40+1:=e48 (by omega) (by omega)
   omega
theorem mL {T:Tab}(hz0:(S T 0).size≤140737488355328)(hl4:(L T 4).length≤140737488355328)(hl10:(L T 10).length≤140737488355328)(hl16:(L T 16).length≤140737488355328)(g:Ln)(hg:g=Ln.mk (S T 0) (I T 1) (I T 2) (I T 3) (L T 4) (I T 5) (I T 6) (I T 7) (I T 8) (I T 9) (L T 10))(hb4:(L T 4).length≤1048576)(hb10:(L T 10).length≤1048576)(hb16:(L T 16).length≤1048576)(g1:Ln)(z1:g1=Ln.mk (S T 0) (I T 1) (I T 2) (I T 3) (L T 4) (I T 5) (I T 6) (I T 7) (I T 8) (I T 9) (L T 10))(hgA:g1=g)(hc:(B T 33)=true→AO g=0∧((L T 16)).length≤12∧(1≤I T 15∧I T 15≤16384))(hf:((L T 4))=g.hoops∧I T 1=g.wide∧I T 5=g.px∧((L T 10))=g.cells)(hd:(B T 33)=true→(65536≤I T 1∧I T 1≤4194304)∧((L T 4)).length≤12∧BN ((L T 4))=true∧(-4194304≤I T 5∧I T 5≤4194304)∧((L T 16)).length≤12∧((L T 10)).length≤256)(h37:(I T 37)=((L T 4)).length∧L T 36=L T 4∧L T 39=L T 10)(inv0:(0≤I T 40∧I T 40≤((L T 4)).length)∧L T 41=jy (I T 1) ((L T 4)) (I T 40).toNat)(np0:¬B T 43=true)(A0:AI T ed)(B0:AI T dx)(A1:AI T hM):
  ((B T 44)=true→B T 33=true∧L T 41=jy (I T 1) ((L T 4)) ((L T 4)).length)∧((L T 50)=[]):=by
 obtain⟨F0,A0⟩:=A0.cut
 have F1:=A0;clear A0
 have F2:=B0;clear B0
 have F3:=A1;clear A1
 have h44:(B T 44)=true→B T 33=true∧L T 41=jy (I T 1) ((L T 4)) ((L T 4)).length:=by
  obtain⟨e42,-,e44,-⟩:=F2
  simp only[AE,AG,zN,zR] at e42 e44
  intro h
  obtain⟨⟨v1,v2⟩,v3⟩:=inv0
  have h1:=e44.1 h
  have h2:¬I T 40 < I T 37:=fun a=>by
   have:=e42.2 a
   rw[h1.2] at this
   exact Bool.false_ne_true this
  rw[h37.1] at h2
  exact⟨h1.1,by rw[v3,show (I T 40).toNat=((L T 4)).length by omega]⟩
 have x50:(L T 50)=[]:=by
  obtain⟨-,e50,-⟩:=F3
  simp only[AE,zR,zL] at e50
  exact e50
 exact⟨h44,x50⟩
theorem mP {T:Tab}(g:Ln)(hg:g=Ln.mk (S T 0) (I T 1) (I T 2) (I T 3) (L T 4) (I T 5) (I T 6) (I T 7) (I T 8) (I T 9) (L T 10))(hd:(B T 33)=true→(65536≤I T 1∧I T 1≤4194304)∧((L T 4)).length≤12∧BN ((L T 4))=true∧(-4194304≤I T 5∧I T 5≤4194304)∧((L T 16)).length≤12∧((L T 10)).length≤256)(h44:(B T 44)=true→B T 33=true∧L T 41=jy (I T 1) ((L T 4)) ((L T 4)).length)(x50:(L T 50)=[])(hS:AL T (Am (Am (hds 40 [.i,.l]++(Am (BG 0 j7) ed)) dx) hM))(hB:AX T (ec.map En.be))(hH:AX T ((Ax kE [.i,.l] kI).map En.be)):
  (kE).owes (kI.map (Rf.eval T))∧AL T (hds 51 [.i,.l])∧((0≤I T 51∧I T 51≤((L T 16)).length)∧((L T 52)).length=I T 51∧∀q:Nat,(q:Int) < I T 51→(-4194304≤AA ((L T 16)) q 0∧AA ((L T 16)) q 0≤4194304)→(AA ((L T 52)) q 0=I T 1 - AA ((L T 16)) q 0∧AA ((L T 52)) q 1=AA ((L T 16)) q 1∧AA ((L T 52)) q 2=AA ((L T 16)) q 2))∧¬B T 55=true:=by
 refine BS (nh:=51) (k:=2) (pcn:=55) (top:=64) (bes:=ec) (bos:=lE) (nxt:=[.e 63,.e 62]) (inits:=[.c (.int 0),.e 50]) (fv:=[1,16,44]) (tys:=[.i,.l]) (by kernel_rfl) rfl rfl rfl rfl hS (by kernel_rfl) (by kernel_rfl) hB (Ay hH) (fun s=>(0≤(aI s 0)∧(aI s 0)≤((L T 16)).length)∧((aL s 1)).length=(aI s 0)∧∀q:Nat,(q:Int) < (aI s 0)→(-4194304≤AA ((L T 16)) q 0∧AA ((L T 16)) q 0≤4194304)→(AA ((aL s 1)) q 0=I T 1 - AA ((L T 16)) q 0∧AA ((aL s 1)) q 1=AA ((L T 16)) q 1∧AA ((aL s 1)) q 2=AA ((L T 16)) q 2)) (fun s=>(((L T 16)).length - (aI s 0)).toNat) ?_ ?_
 ·show (0≤(0:Int)∧(0:Int)≤((L T 16)).length)∧((L T 50)).length=(0:Int)∧∀q:Nat,(q:Int) < (0:Int)→(-4194304≤AA ((L T 16)) q 0∧AA ((L T 16)) q 0≤4194304)→(AA ((L T 50)) q 0=I T 1 - AA ((L T 16)) q 0∧AA ((L T 50)) q 1=AA ((L T 16)) q 1∧AA ((L T 50)) q 2=AA ((L T 16)) q 2)
  clear hS hB hH
  rw[x50]
  exact⟨by omega,rfl,fun q h=>absurd h (by omega)⟩
 ·intro T2 hfv hF inv
  replace inv:(0≤I T2 51∧I T2 51≤((L T 16)).length)∧((L T2 52)).length=I T2 51∧∀q:Nat,(q:Int) < I T2 51→(-4194304≤AA ((L T 16)) q 0∧AA ((L T 16)) q 0≤4194304)→(AA ((L T2 52)) q 0=I T 1 - AA ((L T 16)) q 0∧AA ((L T2 52)) q 1=AA ((L T 16)) q 1∧AA ((L T2 52)) q 2=AA ((L T 16)) q 2):=inv
  clear hS hB hH
  replace hF:AI T2 ec:=hF
  have F0:=hF;clear hF
  have fv1:I T2 1=I T 1:=fvI (hfv 1 (by decide))
  have fv16:L T2 16=L T 16:=fvL (hfv 16 (by decide))
  have fv44:B T2 44=B T 44:=fvB (hfv 44 (by decide))
  clear hfv
  suffices hz:(B T2 55=true→(((L T2 52)).length+((L T2 61)).length)*24≤140737488355328)∧(B T2 55=true→0≤I T2 51∧I T2 51 < ((L T2 16)).length)∧(B T2 55=true→((0≤I T2 63∧I T2 63≤((L T 16)).length)∧((L T2 62)).length=I T2 63∧∀q:Nat,(q:Int) < I T2 63→(-4194304≤AA ((L T 16)) q 0∧AA ((L T 16)) q 0≤4194304)→(AA ((L T2 62)) q 0=I T 1 - AA ((L T 16)) q 0∧AA ((L T2 62)) q 1=AA ((L T 16)) q 1∧AA ((L T2 62)) q 2=AA ((L T 16)) q 2)))∧(B T2 55=true→(((L T 16)).length - (I T2 63)).toNat < (((L T 16)).length - (I T2 51)).toNat) from
   let⟨r0,r1,nx,mz⟩:=hz;⟨⟨r0,r1,trivial⟩,fun hp=>⟨nx hp,mz hp⟩⟩
  refine⟨?_,?_,?_,?_⟩
  ·obtain⟨-,-,e55,-,-,-,-,-,e61,-⟩:=F0
   simp only[AE,AG,zR,zL,zS,uR,AY,zW] at e55 e61
   obtain⟨⟨v1,v2⟩,v3,-⟩:=inv
   intro hp
   have h1:=(e55.1 hp).1
   rw[fv44] at h1
   have h:=hd (h44 h1).1
   rw[e61]
   show (((L T2 52)).length+1)*24≤_
   omega
  ·obtain⟨e53,e54,e55,-⟩:=F0
   simp only[AE,AG,zR,zL] at e53 e54 e55
   obtain⟨⟨v1,v2⟩,v3,-⟩:=inv
   intro hp
   have h:=e54.1 (e55.1 hp).2
   rw[e53,fv16] at h
   rw[fv16]
   exact⟨v1,h⟩
  ·obtain⟨e53,e54,e55,-,e57,e58,e59,e60,e61,e62,e63,-⟩:=F0
   simp only[AE,AG,zR,w2P,zL,zS,uR,AY,zW] at e53 e54 e55 e57 e58 e59 e60 e61 e62 e63
   obtain⟨⟨v1,v2⟩,v3,v4⟩:=inv
   intro hp
   have hq:=e55.1 hp
   have h:=e54.1 hq.2
   rw[e53,fv16] at h
   rw[fv44] at hq
   have hb:=hd (h44 hq.1).1
   have e:(I T2 63)=I T2 51+1:=e63 (by omega) (by omega)
   rw[e61] at e62
   rw[fv16] at e57 e58 e59
   rw[fv1] at e60
   have hl:((L T2 52)).length=(I T2 51).toNat:=by omega
   refine⟨⟨by omega,by omega⟩,?_,fun q hq' hb'=>?_⟩
   ·rw[e62,List.length_append,hl]
    show (((I T2 51).toNat+1:Nat):Int)=_
    omega
   ·rw[e62]
    by_cases hq2:(q:Int) < I T2 51
    ·rw[ly (by omega),ly (by omega),ly (by omega)]
     exact v4 q hq2 hb'
    ·obtain rfl:q=(I T2 51).toNat:=by omega
     have k:∀c,AA (((L T2 52))++[[.int (I T2 60),.int (I T2 58),.int (I T2 59)]]) (I T2 51).toNat c=AA [[.int (I T2 60),.int (I T2 58),.int (I T2 59)]] 0 c:=fun c=>lP (j:=0) hl
     rw[k,k,k]
     rw[←e57] at hb'⊢
     exact⟨e60 (by omega) (by omega),e58,e59⟩
  ·obtain⟨e53,e54,e55,-,-,-,-,-,-,-,e63,-⟩:=F0
   simp only[AE,AG,zR,w2P,zL] at e53 e54 e55 e63
   obtain⟨⟨v1,v2⟩,v3,v4⟩:=inv
   intro hp
   have hq:=e55.1 hp
   have h:=e54.1 hq.2
   rw[e53,fv16] at h
   rw[fv44] at hq
   have hb:=hd (h44 hq.1).1
   have e:(I T2 63)=I T2 51+1:=e63 (by omega) (by omega)
   omega
theorem mF {T:Tab}(hz0:(S T 0).size≤140737488355328)(hl4:(L T 4).length≤140737488355328)(hl10:(L T 10).length≤140737488355328)(hl16:(L T 16).length≤140737488355328)(g:Ln)(hg:g=Ln.mk (S T 0) (I T 1) (I T 2) (I T 3) (L T 4) (I T 5) (I T 6) (I T 7) (I T 8) (I T 9) (L T 10))(hb4:(L T 4).length≤1048576)(hb10:(L T 10).length≤1048576)(hb16:(L T 16).length≤1048576)(g1:Ln)(z1:g1=Ln.mk (S T 0) (I T 1) (I T 2) (I T 3) (L T 4) (I T 5) (I T 6) (I T 7) (I T 8) (I T 9) (L T 10))(hgA:g1=g)(hc:(B T 33)=true→AO g=0∧((L T 16)).length≤12∧(1≤I T 15∧I T 15≤16384))(hf:((L T 4))=g.hoops∧I T 1=g.wide∧I T 5=g.px∧((L T 10))=g.cells)(hd:(B T 33)=true→(65536≤I T 1∧I T 1≤4194304)∧((L T 4)).length≤12∧BN ((L T 4))=true∧(-4194304≤I T 5∧I T 5≤4194304)∧((L T 16)).length≤12∧((L T 10)).length≤256)(h37:(I T 37)=((L T 4)).length∧L T 36=L T 4∧L T 39=L T 10)(inv0:(0≤I T 40∧I T 40≤((L T 4)).length)∧L T 41=jy (I T 1) ((L T 4)) (I T 40).toNat)(np0:¬B T 43=true)(h44:(B T 44)=true→B T 33=true∧L T 41=jy (I T 1) ((L T 4)) ((L T 4)).length)(x50:(L T 50)=[])(inv1:(0≤I T 51∧I T 51≤((L T 16)).length)∧((L T 52)).length=I T 51∧∀q:Nat,(q:Int) < I T 51→(-4194304≤AA ((L T 16)) q 0∧AA ((L T 16)) q 0≤4194304)→(AA ((L T 52)) q 0=I T 1 - AA ((L T 16)) q 0∧AA ((L T 52)) q 1=AA ((L T 16)) q 1∧AA ((L T 52)) q 2=AA ((L T 16)) q 2))(np1:¬B T 55=true)(g2:Ln)(z2:g2=Ln.mk (S T 0) (I T 1) (I T 2) (I T 3) (L T 4) (I T 5) (I T 6) (I T 7) (I T 8) (I T 9) (L T 10))(g3:Ln)(z3:g3=Ln.mk (S T 0) (I T 1) (I T 2) (I T 3) (L T 41) (I T 49) (I T 6) (I T 7) (I T 8) (I T 9) (L T 39))(A0:AI T ed)(B0:AI T dx)(A1:AI T hM)(B1:AI T ec)(A2:AI T j6):
  ((B T 56)=true→B T 44=true∧((L T 52)).length=((L T 16)).length∧∀q:Nat,q < ((L T 16)).length→(-4194304≤AA ((L T 16)) q 0∧AA ((L T 16)) q 0≤4194304)→(AA ((L T 52)) q 0=I T 1 - AA ((L T 16)) q 0∧AA ((L T 52)) q 1=AA ((L T 16)) q 1∧AA ((L T 52)) q 2=AA ((L T 16)) q 2))∧((B T 56)=true→g3=dy g)∧(g2=g)∧((I T 78)=2*((L T 4)).length∧((B T 76)=true→((L T 4)).length≤12∧((L T 16)).length≤12))∧((B T 76)=true→((L T 4))=g.hoops∧Cf g (I T 11) (I T 12) (I T 13) (I T 14) (I T 15) ((L T 16))=0∧Cf (dy g) ((I T 1) - (I T 11)) (I T 12) ((I T 1) - (I T 13)) (I T 14) (I T 15) ((L T 52))=0∧((L T 52)).length=((L T 16)).length∧(∀q:Nat,q < ((L T 16)).length→(AA ((L T 52)) q 0=I T 1 - AA ((L T 16)) q 0∧AA ((L T 52)) q 1=AA ((L T 16)) q 1∧AA ((L T 52)) q 2=AA ((L T 16)) q 2))∧L T 66=E3 g (I T 11) (I T 12) (I T 13) (I T 14) (I T 15) ((L T 16))∧I T 78=2*((L T 4)).length∧L T 68=E3 (dy g) ((I T 1) - (I T 11)) (I T 12) ((I T 1) - (I T 13)) (I T 14) (I T 15) ((L T 52))∧g.wide=I T 1):=by
 obtain⟨F0,A0⟩:=A0.cut
 have F1:=A0;clear A0
 have F2:=B0;clear B0
 have F3:=A1;clear A1
 have F4:=B1;clear B1
 have F5:=A2;clear A2
 have h56:(B T 56)=true→B T 44=true∧((L T 52)).length=((L T 16)).length∧∀q:Nat,q < ((L T 16)).length→(-4194304≤AA ((L T 16)) q 0∧AA ((L T 16)) q 0≤4194304)→(AA ((L T 52)) q 0=I T 1 - AA ((L T 16)) q 0∧AA ((L T 52)) q 1=AA ((L T 16)) q 1∧AA ((L T 52)) q 2=AA ((L T 16)) q 2):=by
  obtain⟨e53,e54,-,e56,-⟩:=F4
  simp only[AE,AG,zN,zR,zL] at e53 e54 e56
  intro h
  obtain⟨⟨v1,v2⟩,v3,v4⟩:=inv1
  have h1:=e56.1 h
  have h2:¬I T 51 < ((L T 16)).length:=fun a=>by
   have:=e54.2 (by rw[e53];exact a)
   rw[h1.2] at this
   exact Bool.false_ne_true this
  exact⟨h1.1,by omega,fun q hq=>v4 q (by omega)⟩
 have hm:(B T 56)=true→g3=dy g:=by
  obtain⟨e49,-⟩:=F3
  simp only[AE,zR,w2P] at e49
  intro h
  obtain⟨f1,f2⟩:=h44 (h56 h).1
  have d:=hd f1
  rw[z3,hg]
  exact ng f2 (e49 (by omega) (by omega)) h37.2.2
 have hgB:g2=g:=by
  rw[z2,hg]
 have h77:(I T 78)=2*((L T 4)).length∧((B T 76)=true→((L T 4)).length≤12∧((L T 16)).length≤12):=by
  obtain⟨-,-,-,-,-,-,-,-,-,-,-,-,e76,e77,e78,-⟩:=F5
  simp only[AE,AG,zN,zR,AS,zL] at e76 e77 e78
  refine⟨by rw[e78,e77],fun h=>?_⟩
  have d:=hd (h44 (h56 (e76.1 h).1).1).1
  exact⟨d.2.1,d.2.2.2.2.1⟩
 have h76:(B T 76)=true→((L T 4))=g.hoops∧Cf g (I T 11) (I T 12) (I T 13) (I T 14) (I T 15) ((L T 16))=0∧Cf (dy g) ((I T 1) - (I T 11)) (I T 12) ((I T 1) - (I T 13)) (I T 14) (I T 15) ((L T 52))=0∧((L T 52)).length=((L T 16)).length∧(∀q:Nat,q < ((L T 16)).length→(AA ((L T 52)) q 0=I T 1 - AA ((L T 16)) q 0∧AA ((L T 52)) q 1=AA ((L T 16)) q 1∧AA ((L T 52)) q 2=AA ((L T 16)) q 2))∧L T 66=E3 g (I T 11) (I T 12) (I T 13) (I T 14) (I T 15) ((L T 16))∧I T 78=2*((L T 4)).length∧L T 68=E3 (dy g) ((I T 1) - (I T 11)) (I T 12) ((I T 1) - (I T 13)) (I T 14) (I T 15) ((L T 52))∧g.wide=I T 1:=by
  obtain⟨e64,e65,e66,e67,e68,e69,e70,-,e72,e73,-,-,e76,-⟩:=F5
  replace e66:L T 66=(E3 g2 (I T 11) (I T 12) (I T 13) (I T 14) (I T 15) (L T 16)):=by rw[←show gAt 0 (kH.map (Rf.eval T))=g2 from z2.symm];exact e66
  replace e67:I T 67=(Cf g2 (I T 11) (I T 12) (I T 13) (I T 14) (I T 15) (L T 16)):=by rw[←show gAt 0 (kH.map (Rf.eval T))=g2 from z2.symm];exact e67
  replace e68:L T 68=(E3 g3 (I T 64) (I T 12) (I T 65) (I T 14) (I T 15) (L T 52)):=by rw[←show gAt 0 (kL.map (Rf.eval T))=g3 from z3.symm];exact e68
  replace e69:I T 69=(Cf g3 (I T 64) (I T 12) (I T 65) (I T 14) (I T 15) (L T 52)):=by rw[←show gAt 0 (kL.map (Rf.eval T))=g3 from z3.symm];exact e69
  simp only[AE,AG,zN,zR,w2P] at e64 e65 e70 e72 e73 e76
  intro h
  have h1:=e76.1 h
  have h2:=h56 h1.1
  have d:=hd (h44 h2.1).1
  have n73:¬B T 73=true:=fun a=>by
   rw[h1.2] at a
   exact Bool.false_ne_true a
  have y67:(I T 67)=0:=Decidable.of_not_not fun a=>n73 (e73.2 (.inl (e70.2 a)))
  have y69:(I T 69)=0:=Decidable.of_not_not fun a=>n73 (e73.2 (.inr (e72.2 a)))
  have w1:Cf g (I T 11) (I T 12) (I T 13) (I T 14) (I T 15) ((L T 16))=0:=by rw[←y67,e67,hgB]
  obtain⟨a1,a2,a3,a4,a5,a6⟩:=iy w1
  obtain⟨⟨p1,p2⟩,-⟩:=Af.1 a2
  obtain⟨⟨p3,p4⟩,-⟩:=Af.1 a3
  have x64:=e64 (by omega) (by omega)
  have x65:=e65 (by omega) (by omega)
  rw[hm h1.1,x64,x65] at e68 e69
  refine⟨hf.1,w1,by rw[←y69,e69],h2.2.1,fun q hq=>h2.2.2 q hq ?_,by rw[e66,hgB],h77.1,e68,hf.2.1.symm⟩
  have hb:=(DB.1 (CX.1 a6 q hq)).1
  exact (Af.1 hb).1
 exact⟨h56,hm,hgB,h77,h76⟩
theorem mV {T:Tab}(g:Ln)(hg:g=Ln.mk (S T 0) (I T 1) (I T 2) (I T 3) (L T 4) (I T 5) (I T 6) (I T 7) (I T 8) (I T 9) (L T 10))(h77:(I T 78)=2*((L T 4)).length∧((B T 76)=true→((L T 4)).length≤12∧((L T 16)).length≤12))(h76:(B T 76)=true→((L T 4))=g.hoops∧Cf g (I T 11) (I T 12) (I T 13) (I T 14) (I T 15) ((L T 16))=0∧Cf (dy g) ((I T 1) - (I T 11)) (I T 12) ((I T 1) - (I T 13)) (I T 14) (I T 15) ((L T 52))=0∧((L T 52)).length=((L T 16)).length∧(∀q:Nat,q < ((L T 16)).length→(AA ((L T 52)) q 0=I T 1 - AA ((L T 16)) q 0∧AA ((L T 52)) q 1=AA ((L T 16)) q 1∧AA ((L T 52)) q 2=AA ((L T 16)) q 2))∧L T 66=E3 g (I T 11) (I T 12) (I T 13) (I T 14) (I T 15) ((L T 16))∧I T 78=2*((L T 4)).length∧L T 68=E3 (dy g) ((I T 1) - (I T 11)) (I T 12) ((I T 1) - (I T 13)) (I T 14) (I T 15) ((L T 52))∧g.wide=I T 1)(hS:AL T (Am (Am (hds 51 [.i,.l]++(Am (Am (hds 40 [.i,.l]++(Am (BG 0 j7) ed)) dx) hM)) ec) j6))(hB:AX T (hG.map En.be))(hH:AX T ((Ax kC [.i] kG).map En.be)):
  (kC).owes (kG.map (Rf.eval T))∧AL T (hds 79 [.i])∧(0≤I T 79)∧¬B T 99=true:=by
 refine BS (nh:=79) (k:=1) (pcn:=99) (top:=101) (bes:=hG) (bos:=lH) (nxt:=[.e 100]) (inits:=[.c (.int 0)]) (fv:=[68,66,4,78,76,16]) (tys:=[.i]) (by kernel_rfl) rfl rfl rfl rfl hS (by kernel_rfl) (by kernel_rfl) hB (Ay hH) (fun s=>0≤(aI s 0)) (fun s=>(2*((L T 4)).length+1+((L T 16)).length - (aI s 0)).toNat) ?_ ?_
 ·show 0≤(0:Int)
  clear hS hB hH
  exact Int.le_refl 0
 ·intro T2 hfv hF inv
  replace inv:0≤I T2 79:=inv
  clear hS hB hH
  replace hF:AI T2 hG:=hF
  obtain⟨F0,hF⟩:=hF.cut
  have F1:=hF;clear hF
  have fv68:L T2 68=L T 68:=fvL (hfv 68 (by decide))
  have fv66:L T2 66=L T 66:=fvL (hfv 66 (by decide))
  have fv4:L T2 4=L T 4:=fvL (hfv 4 (by decide))
  have fv78:I T2 78=I T 78:=fvI (hfv 78 (by decide))
  have fv76:B T2 76=B T 76:=fvB (hfv 76 (by decide))
  have fv16:L T2 16=L T 16:=fvL (hfv 16 (by decide))
  clear hfv
  have n97:(B T2 84)=true→0≤I T2 79→B T2 97=false:=by
   obtain⟨e80,e81,e82,e83,e84,-,e86,-,e88,e89,e90,-,e92,-,e94,e95,-⟩:=F0
   obtain⟨e96,e97,-⟩:=F1
   replace e95:B T2 95=(EJ (L T2 66) (I T2 79)):=e95
   replace e96:B T2 96=(EJ (L T2 68) (I T2 94)):=e96
   simp only[AE,AG,zN,zR,AS,w2P,zL] at e80 e81 e82 e83 e84 e86 e88 e89 e90 e92 e94 e97
   intro h v1
   have h1:=e84.1 h
   rw[fv76] at h1
   obtain⟨m0,m1,m2,m3,m4,m5,m6,m7,m8⟩:=h76 h1.1
   have h2:=e83.1 h1.2
   rw[e82,e81,e80,fv16,fv78,m6] at h2
   have h77':=h77.2 h1.1
   have x88:(I T2 88)=(I T2 79) / 2:=by rw[e88,if_pos v1]
   have x86:(B T2 86)=true↔I T2 79 < 2*g.hoops.length:=by rw[e86,fv78,m6,m0]
   have x90:(B T2 90)=true↔((I T2 79) < 2*g.hoops.length∧¬B T2 89=true):=by rw[e90,x86,Bool.not_eq_true]
   have x94:=nC (l:=g) v1 (by omega) x88 x90 (fun _=>by rw[e89,fv4,m0]) e92 e94
   have hw:=nD (l:=g) (i:=(I T2 79).toNat) m1 (by rw[m8];exact m2) m3 (by rw[m8];exact m4) (by rw[←m0];omega)
   rw[m8] at hw
   refine Bool.eq_false_iff.2 fun hb=>e97.1 hb ?_
   rw[e95,e96,x94,fv66,fv68,m5,m7,←hw,show (((I T2 79).toNat:Nat):Int)=(I T2 79) by omega]
  suffices hz:(B T2 87=true→0≤I T2 88∧I T2 88 < ((L T2 4)).length)∧(B T2 99=true→(0≤I T2 100))∧(B T2 99=true→(2*((L T 4)).length+1+((L T 16)).length - (I T2 100)).toNat < (2*((L T 4)).length+1+((L T 16)).length - (I T2 79)).toNat) from
   let⟨r0,nx,mz⟩:=hz;⟨⟨r0,trivial⟩,fun hp=>⟨nx hp,mz hp⟩⟩
  refine⟨?_,?_,?_⟩
  ·obtain⟨-,-,-,-,-,-,e86,e87,e88,-⟩:=F0
   simp only[AE,AG,zR,AS] at e86 e87 e88
   intro hp
   have h:=e86.1 (e87.1 hp).2
   rw[fv78,h77.1] at h
   rw[fv4,e88,if_pos inv]
   omega
  ·obtain⟨e80,e81,e82,e83,e84,-⟩:=F0
   obtain⟨-,-,-,e99,e100,-⟩:=F1
   simp only[AE,AG,zN,zR,AS,w2P,zL] at e80 e81 e82 e83 e84 e99 e100
   intro hp
   have h1:=e84.1 (e99.1 hp).1
   rw[fv76] at h1
   have h2:=e83.1 h1.2
   rw[e82,e81,e80,fv16,fv78,h77.1] at h2
   have:=h77.2 h1.1
   have e:(I T2 100)=I T2 79+1:=e100 (by omega) (by omega)
   omega
  ·obtain⟨e80,e81,e82,e83,e84,-⟩:=F0
   obtain⟨-,-,-,e99,e100,-⟩:=F1
   simp only[AE,AG,zN,zR,AS,w2P,zL] at e80 e81 e82 e83 e84 e99 e100
   intro hp
   have h1:=e84.1 (e99.1 hp).1
   rw[fv76] at h1
   have h2:=e83.1 h1.2
   rw[e82,e81,e80,fv16,fv78,h77.1] at h2
   have:=h77.2 h1.1
   have e:(I T2 100)=I T2 79+1:=e100 (by omega) (by omega)
   omega
theorem mJ {T:Tab}(hz0:(S T 0).size≤140737488355328)(hl4:(L T 4).length≤140737488355328)(hl10:(L T 10).length≤140737488355328)(hl16:(L T 16).length≤140737488355328)(g:Ln)(hg:g=Ln.mk (S T 0) (I T 1) (I T 2) (I T 3) (L T 4) (I T 5) (I T 6) (I T 7) (I T 8) (I T 9) (L T 10))(hb4:(L T 4).length≤1048576)(hb10:(L T 10).length≤1048576)(hb16:(L T 16).length≤1048576)(g1:Ln)(z1:g1=Ln.mk (S T 0) (I T 1) (I T 2) (I T 3) (L T 4) (I T 5) (I T 6) (I T 7) (I T 8) (I T 9) (L T 10))(hgA:g1=g)(hc:(B T 33)=true→AO g=0∧((L T 16)).length≤12∧(1≤I T 15∧I T 15≤16384))(hf:((L T 4))=g.hoops∧I T 1=g.wide∧I T 5=g.px∧((L T 10))=g.cells)(hd:(B T 33)=true→(65536≤I T 1∧I T 1≤4194304)∧((L T 4)).length≤12∧BN ((L T 4))=true∧(-4194304≤I T 5∧I T 5≤4194304)∧((L T 16)).length≤12∧((L T 10)).length≤256)(h37:(I T 37)=((L T 4)).length∧L T 36=L T 4∧L T 39=L T 10)(inv0:(0≤I T 40∧I T 40≤((L T 4)).length)∧L T 41=jy (I T 1) ((L T 4)) (I T 40).toNat)(np0:¬B T 43=true)(h44:(B T 44)=true→B T 33=true∧L T 41=jy (I T 1) ((L T 4)) ((L T 4)).length)(x50:(L T 50)=[])(inv1:(0≤I T 51∧I T 51≤((L T 16)).length)∧((L T 52)).length=I T 51∧∀q:Nat,(q:Int) < I T 51→(-4194304≤AA ((L T 16)) q 0∧AA ((L T 16)) q 0≤4194304)→(AA ((L T 52)) q 0=I T 1 - AA ((L T 16)) q 0∧AA ((L T 52)) q 1=AA ((L T 16)) q 1∧AA ((L T 52)) q 2=AA ((L T 16)) q 2))(np1:¬B T 55=true)(g2:Ln)(z2:g2=Ln.mk (S T 0) (I T 1) (I T 2) (I T 3) (L T 4) (I T 5) (I T 6) (I T 7) (I T 8) (I T 9) (L T 10))(g3:Ln)(z3:g3=Ln.mk (S T 0) (I T 1) (I T 2) (I T 3) (L T 41) (I T 49) (I T 6) (I T 7) (I T 8) (I T 9) (L T 39))(h56:(B T 56)=true→B T 44=true∧((L T 52)).length=((L T 16)).length∧∀q:Nat,q < ((L T 16)).length→(-4194304≤AA ((L T 16)) q 0∧AA ((L T 16)) q 0≤4194304)→(AA ((L T 52)) q 0=I T 1 - AA ((L T 16)) q 0∧AA ((L T 52)) q 1=AA ((L T 16)) q 1∧AA ((L T 52)) q 2=AA ((L T 16)) q 2))(hm:(B T 56)=true→g3=dy g)(hgB:g2=g)(h77:(I T 78)=2*((L T 4)).length∧((B T 76)=true→((L T 4)).length≤12∧((L T 16)).length≤12))(h76:(B T 76)=true→((L T 4))=g.hoops∧Cf g (I T 11) (I T 12) (I T 13) (I T 14) (I T 15) ((L T 16))=0∧Cf (dy g) ((I T 1) - (I T 11)) (I T 12) ((I T 1) - (I T 13)) (I T 14) (I T 15) ((L T 52))=0∧((L T 52)).length=((L T 16)).length∧(∀q:Nat,q < ((L T 16)).length→(AA ((L T 52)) q 0=I T 1 - AA ((L T 16)) q 0∧AA ((L T 52)) q 1=AA ((L T 16)) q 1∧AA ((L T 52)) q 2=AA ((L T 16)) q 2))∧L T 66=E3 g (I T 11) (I T 12) (I T 13) (I T 14) (I T 15) ((L T 16))∧I T 78=2*((L T 4)).length∧L T 68=E3 (dy g) ((I T 1) - (I T 11)) (I T 12) ((I T 1) - (I T 13)) (I T 14) (I T 15) ((L T 52))∧g.wide=I T 1)(inv2:0≤I T 79)(np2:¬B T 99=true)(A0:AI T ed)(B0:AI T dx)(A1:AI T hM)(B1:AI T ec)(A2:AI T j6)(B2:AI T hG):
  ((B T 84)=true→0≤I T 79→B T 97=false)∧((B T 98)=false)∧((B T 85)=true→((L T 4))=g.hoops∧Cf g (I T 11) (I T 12) (I T 13) (I T 14) (I T 15) ((L T 16))=0∧Cf (dy g) ((I T 1) - (I T 11)) (I T 12) ((I T 1) - (I T 13)) (I T 14) (I T 15) ((L T 52))=0∧g.wide=I T 1∧I T 64=I T 1 - (I T 11)∧Ln.mk ((S T 0)) (I T 1) (I T 2) (I T 3) ((L T 41)) (I T 49) (I T 6) (I T 7) (I T 8) (I T 9) ((L T 39))=dy g∧((L T 4)).length≤12):=by
 obtain⟨F0,A0⟩:=A0.cut
 have F1:=A0;clear A0
 have F2:=B0;clear B0
 have F3:=A1;clear A1
 have F4:=B1;clear B1
 have F5:=A2;clear A2
 obtain⟨F6,B2⟩:=B2.cut
 have F7:=B2;clear B2
 have n97:(B T 84)=true→0≤I T 79→B T 97=false:=by
  obtain⟨e80,e81,e82,e83,e84,-,e86,-,e88,e89,e90,-,e92,-,e94,e95,-⟩:=F6
  obtain⟨e96,e97,-⟩:=F7
  replace e95:B T 95=(EJ (L T 66) (I T 79)):=e95
  replace e96:B T 96=(EJ (L T 68) (I T 94)):=e96
  simp only[AE,AG,zN,zR,AS,w2P,zL] at e80 e81 e82 e83 e84 e86 e88 e89 e90 e92 e94 e97
  intro h v1
  have h1:=e84.1 h
  obtain⟨m0,m1,m2,m3,m4,m5,m6,m7,m8⟩:=h76 h1.1
  have h2:=e83.1 h1.2
  rw[e82,e81,e80,m6] at h2
  have h77':=h77.2 h1.1
  have x88:(I T 88)=(I T 79) / 2:=by rw[e88,if_pos v1]
  have x86:(B T 86)=true↔I T 79 < 2*g.hoops.length:=by rw[e86,m6,m0]
  have x90:(B T 90)=true↔((I T 79) < 2*g.hoops.length∧¬B T 89=true):=by rw[e90,x86,Bool.not_eq_true]
  have x94:=nC (l:=g) v1 (by omega) x88 x90 (fun _=>by rw[e89,m0]) e92 e94
  have hw:=nD (l:=g) (i:=(I T 79).toNat) m1 (by rw[m8];exact m2) m3 (by rw[m8];exact m4) (by rw[←m0];omega)
  rw[m8] at hw
  refine Bool.eq_false_iff.2 fun hb=>e97.1 hb ?_
  rw[e95,e96,x94,m5,m7,←hw,show (((I T 79).toNat:Nat):Int)=(I T 79) by omega]
 have n98:(B T 98)=false:=by
  obtain⟨-,-,e98,-⟩:=F7
  simp only[AE,AG,zR] at e98
  refine Bool.eq_false_iff.2 fun h=>?_
  have h1:=e98.1 h
  have:=n97 h1.1 inv2
  rw[this] at h1
  exact Bool.false_ne_true h1.2
 have h85:(B T 85)=true→((L T 4))=g.hoops∧Cf g (I T 11) (I T 12) (I T 13) (I T 14) (I T 15) ((L T 16))=0∧Cf (dy g) ((I T 1) - (I T 11)) (I T 12) ((I T 1) - (I T 13)) (I T 14) (I T 15) ((L T 52))=0∧g.wide=I T 1∧I T 64=I T 1 - (I T 11)∧Ln.mk ((S T 0)) (I T 1) (I T 2) (I T 3) ((L T 41)) (I T 49) (I T 6) (I T 7) (I T 8) (I T 9) ((L T 39))=dy g∧((L T 4)).length≤12:=by
  obtain⟨e64,-,-,-,-,-,-,-,-,-,-,-,e76,-⟩:=F5
  obtain⟨-,-,-,-,-,e85,-⟩:=F6
  simp only[AE,AG,zN,zR,w2P] at e64 e76 e85
  intro h
  have h1:=(e85.1 h).1
  obtain⟨m0,m1,m2,m3,m4,m5,m6,m7,m8⟩:=h76 h1
  have h2:=(e76.1 h1).1
  have d:=hd (h44 (h56 h2).1).1
  obtain⟨a1,a2,-⟩:=iy m1
  obtain⟨⟨p1,p2⟩,-⟩:=Af.1 a2
  exact⟨m0,m1,m2,m8,e64 (by omega) (by omega),(z3).symm.trans (hm h2),d.2.1⟩
 exact⟨n97,n98,h85⟩
theorem mQ {T:Tab}(g:Ln)(hg:g=Ln.mk (S T 0) (I T 1) (I T 2) (I T 3) (L T 4) (I T 5) (I T 6) (I T 7) (I T 8) (I T 9) (L T 10))(h85:(B T 85)=true→((L T 4))=g.hoops∧Cf g (I T 11) (I T 12) (I T 13) (I T 14) (I T 15) ((L T 16))=0∧Cf (dy g) ((I T 1) - (I T 11)) (I T 12) ((I T 1) - (I T 13)) (I T 14) (I T 15) ((L T 52))=0∧g.wide=I T 1∧I T 64=I T 1 - (I T 11)∧Ln.mk ((S T 0)) (I T 1) (I T 2) (I T 3) ((L T 41)) (I T 49) (I T 6) (I T 7) (I T 8) (I T 9) ((L T 39))=dy g∧((L T 4)).length≤12)(hS:AL T (Am (Am (hds 79 [.i]++(Am (Am (hds 51 [.i,.l]++(Am (Am (hds 40 [.i,.l]++(Am (BG 0 j7) ed)) dx) hM)) ec) j6)) hG) kT))(hB:AX T (jz.map En.be))(hH:AX T ((Ax kB [.i] kK).map En.be)):
  (kB).owes (kK.map (Rf.eval T))∧AL T (hds 101 [.i])∧(0≤I T 101∧I T 101≤((L T 4)).length)∧¬B T 121=true:=by
 refine BS (nh:=101) (k:=1) (pcn:=121) (top:=123) (bes:=jz) (bos:=lF) (nxt:=[.e 122]) (inits:=[.c (.int 0)]) (fv:=[4,0,1,2,3,41,49,6,7,8,9,39,64,12,15,5,10,11,85]) (tys:=[.i]) (by kernel_rfl) rfl rfl rfl rfl hS (by kernel_rfl) (by kernel_rfl) hB (Ay hH) (fun s=>0≤(aI s 0)∧(aI s 0)≤((L T 4)).length) (fun s=>(((L T 4)).length - (aI s 0)).toNat) ?_ ?_
 ·show 0≤(0:Int)∧(0:Int)≤((L T 4)).length
  clear hS hB hH
  exact⟨Int.le_refl 0,by omega⟩
 ·intro T2 hfv hF inv
  replace inv:0≤I T2 101∧I T2 101≤((L T 4)).length:=inv
  clear hS hB hH
  replace hF:AI T2 jz:=hF
  obtain⟨F0,hF⟩:=hF.cut
  have F1:=hF;clear hF
  have fv4:L T2 4=L T 4:=fvL (hfv 4 (by decide))
  have fv0:S T2 0=S T 0:=fvS (hfv 0 (by decide))
  have fv1:I T2 1=I T 1:=fvI (hfv 1 (by decide))
  have fv2:I T2 2=I T 2:=fvI (hfv 2 (by decide))
  have fv3:I T2 3=I T 3:=fvI (hfv 3 (by decide))
  have fv41:L T2 41=L T 41:=fvL (hfv 41 (by decide))
  have fv49:I T2 49=I T 49:=fvI (hfv 49 (by decide))
  have fv6:I T2 6=I T 6:=fvI (hfv 6 (by decide))
  have fv7:I T2 7=I T 7:=fvI (hfv 7 (by decide))
  have fv8:I T2 8=I T 8:=fvI (hfv 8 (by decide))
  have fv9:I T2 9=I T 9:=fvI (hfv 9 (by decide))
  have fv39:L T2 39=L T 39:=fvL (hfv 39 (by decide))
  have fv64:I T2 64=I T 64:=fvI (hfv 64 (by decide))
  have fv12:I T2 12=I T 12:=fvI (hfv 12 (by decide))
  have fv15:I T2 15=I T 15:=fvI (hfv 15 (by decide))
  have fv5:I T2 5=I T 5:=fvI (hfv 5 (by decide))
  have fv10:L T2 10=L T 10:=fvL (hfv 10 (by decide))
  have fv11:I T2 11=I T 11:=fvI (hfv 11 (by decide))
  have fv85:B T2 85=B T 85:=fvB (hfv 85 (by decide))
  clear hfv
  obtain⟨g4,z4⟩:∃g:Ln,g=Ln.mk (S T2 0) (I T2 1) (I T2 2) (I T2 3) (L T2 4) (I T2 5) (I T2 6) (I T2 7) (I T2 8) (I T2 9) (L T2 10):=⟨_,rfl⟩
  obtain⟨g5,z5⟩:∃g:Ln,g=Ln.mk (S T2 0) (I T2 1) (I T2 2) (I T2 3) (L T2 41) (I T2 49) (I T2 6) (I T2 7) (I T2 8) (I T2 9) (L T2 39):=⟨_,rfl⟩
  have n120:(B T2 104)=true→0≤I T2 101→B T2 119=false:=by
   obtain⟨e102,e103,e104,-,e106,e107,e108,e109,e110,-,e112,e113,-,e115,-,e117,-⟩:=F0
   obtain⟨e118,e119,-⟩:=F1
   replace e106:I T2 106=(JH g4 (I T2 101) true (I T2 11) (I T2 12) (I T2 15)):=by rw[←show gAt 0 (j9.map (Rf.eval T2))=g4 from z4.symm];exact e106
   replace e107:I T2 107=(Gr g4 (I T2 101) (I T2 11) (I T2 12) (I T2 15)):=by rw[←show gAt 0 (j9.map (Rf.eval T2))=g4 from z4.symm];exact e107
   replace e108:I T2 108=(JH g5 (I T2 101) true (I T2 64) (I T2 12) (I T2 15)):=by rw[←show gAt 0 (kA.map (Rf.eval T2))=g5 from z5.symm];exact e108
   replace e109:I T2 109=(Gr g5 (I T2 101) (I T2 64) (I T2 12) (I T2 15)):=by rw[←show gAt 0 (kA.map (Rf.eval T2))=g5 from z5.symm];exact e109
   simp only[AE,AG,zN,zR,zL] at e102 e103 e104 e110 e112 e113 e115 e117 e118 e119
   intro h v1
   have h1:=e104.1 h
   rw[fv85] at h1
   obtain⟨m0,m1,m2,m3,m4,m5,m6⟩:=h85 h1.1
   have h2:=e103.1 h1.2
   rw[e102,fv4,m0] at h2
   have ga:g4=g:=by rw[z4,hg,fv0,fv1,fv2,fv3,fv4,fv5,fv6,fv7,fv8,fv9,fv10]
   have gb:g5=dy g:=by rw[z5,fv0,fv1,fv2,fv3,fv41,fv49,fv6,fv7,fv8,fv9,fv39];exact m5
   have u1:=lA m1 v1 h2
   have u2:=lA (h:=I T2 101) m2 v1 (by rw[show (dy g).hoops.length=g.hoops.length from lZ _];exact h2)
   rw[ga,fv11,fv12,fv15] at e106 e107
   rw[gb,fv64,fv12,fv15,m4] at e108 e109
   have n113:¬B T2 113=true:=fun a=>by
    rcases e113.1 a with a|a
    ·exact e110.1 a (e107.trans u1)
    ·exact e112.1 a (e109.trans u2)
   refine Bool.eq_false_iff.2 fun hb=>?_
   have h3:=e118.1 ((e119.1 hb).resolve_left n113)
   rw[e115,fv4,m0] at h3
   rw[←m3] at u2 e108
   refine e117.1 h3.2 ?_
   rw[e106,e108]
   exact (mM u1 u2 (by simpa using h3.1)).symm
  suffices hz:(B T2 114=true→0≤I T2 101∧I T2 101 < ((L T2 4)).length)∧(B T2 121=true→(0≤I T2 122∧I T2 122≤((L T 4)).length))∧(B T2 121=true→(((L T 4)).length - (I T2 122)).toNat < (((L T 4)).length - (I T2 101)).toNat) from
   let⟨r0,nx,mz⟩:=hz;⟨⟨r0,trivial⟩,fun hp=>⟨nx hp,mz hp⟩⟩
  refine⟨?_,?_,?_⟩
  ·obtain⟨e102,e103,e104,-,-,-,-,-,-,-,-,-,e114,-⟩:=F0
   simp only[AE,AG,zN,zR,zL] at e102 e103 e104 e114
   intro hp
   have h:=e103.1 (e104.1 (e114.1 hp).1).2
   rw[e102,fv4] at h
   rw[fv4]
   exact⟨inv.1,h⟩
  ·obtain⟨e102,e103,e104,-⟩:=F0
   obtain⟨-,-,-,e121,e122,-⟩:=F1
   simp only[AE,AG,zN,zR,w2P,zL] at e102 e103 e104 e121 e122
   intro hp
   have h1:=e104.1 (e121.1 hp).1
   have h:=e103.1 h1.2
   rw[e102,fv4] at h
   rw[fv85] at h1
   have:=(h85 h1.1).2.2.2.2.2.2
   have e:(I T2 122)=I T2 101+1:=e122 (by omega) (by omega)
   omega
  ·obtain⟨e102,e103,e104,-⟩:=F0
   obtain⟨-,-,-,e121,e122,-⟩:=F1
   simp only[AE,AG,zN,zR,w2P,zL] at e102 e103 e104 e121 e122
   intro hp
   have h1:=e104.1 (e121.1 hp).1
   have h:=e103.1 h1.2
   rw[e102,fv4] at h
   rw[fv85] at h1
   have:=(h85 h1.1).2.2.2.2.2.2
   have e:(I T2 122)=I T2 101+1:=e122 (by omega) (by omega)
   omega
theorem my {T:Tab}(hz0:(S T 0).size≤140737488355328)(hl4:(L T 4).length≤140737488355328)(hl10:(L T 10).length≤140737488355328)(hl16:(L T 16).length≤140737488355328)(g:Ln)(hg:g=Ln.mk (S T 0) (I T 1) (I T 2) (I T 3) (L T 4) (I T 5) (I T 6) (I T 7) (I T 8) (I T 9) (L T 10))(hb4:(L T 4).length≤1048576)(hb10:(L T 10).length≤1048576)(hb16:(L T 16).length≤1048576)(g1:Ln)(z1:g1=Ln.mk (S T 0) (I T 1) (I T 2) (I T 3) (L T 4) (I T 5) (I T 6) (I T 7) (I T 8) (I T 9) (L T 10))(hgA:g1=g)(hc:(B T 33)=true→AO g=0∧((L T 16)).length≤12∧(1≤I T 15∧I T 15≤16384))(hf:((L T 4))=g.hoops∧I T 1=g.wide∧I T 5=g.px∧((L T 10))=g.cells)(hd:(B T 33)=true→(65536≤I T 1∧I T 1≤4194304)∧((L T 4)).length≤12∧BN ((L T 4))=true∧(-4194304≤I T 5∧I T 5≤4194304)∧((L T 16)).length≤12∧((L T 10)).length≤256)(h37:(I T 37)=((L T 4)).length∧L T 36=L T 4∧L T 39=L T 10)(inv0:(0≤I T 40∧I T 40≤((L T 4)).length)∧L T 41=jy (I T 1) ((L T 4)) (I T 40).toNat)(np0:¬B T 43=true)(h44:(B T 44)=true→B T 33=true∧L T 41=jy (I T 1) ((L T 4)) ((L T 4)).length)(x50:(L T 50)=[])(inv1:(0≤I T 51∧I T 51≤((L T 16)).length)∧((L T 52)).length=I T 51∧∀q:Nat,(q:Int) < I T 51→(-4194304≤AA ((L T 16)) q 0∧AA ((L T 16)) q 0≤4194304)→(AA ((L T 52)) q 0=I T 1 - AA ((L T 16)) q 0∧AA ((L T 52)) q 1=AA ((L T 16)) q 1∧AA ((L T 52)) q 2=AA ((L T 16)) q 2))(np1:¬B T 55=true)(g2:Ln)(z2:g2=Ln.mk (S T 0) (I T 1) (I T 2) (I T 3) (L T 4) (I T 5) (I T 6) (I T 7) (I T 8) (I T 9) (L T 10))(g3:Ln)(z3:g3=Ln.mk (S T 0) (I T 1) (I T 2) (I T 3) (L T 41) (I T 49) (I T 6) (I T 7) (I T 8) (I T 9) (L T 39))(h56:(B T 56)=true→B T 44=true∧((L T 52)).length=((L T 16)).length∧∀q:Nat,q < ((L T 16)).length→(-4194304≤AA ((L T 16)) q 0∧AA ((L T 16)) q 0≤4194304)→(AA ((L T 52)) q 0=I T 1 - AA ((L T 16)) q 0∧AA ((L T 52)) q 1=AA ((L T 16)) q 1∧AA ((L T 52)) q 2=AA ((L T 16)) q 2))(hm:(B T 56)=true→g3=dy g)(hgB:g2=g)(h77:(I T 78)=2*((L T 4)).length∧((B T 76)=true→((L T 4)).length≤12∧((L T 16)).length≤12))(h76:(B T 76)=true→((L T 4))=g.hoops∧Cf g (I T 11) (I T 12) (I T 13) (I T 14) (I T 15) ((L T 16))=0∧Cf (dy g) ((I T 1) - (I T 11)) (I T 12) ((I T 1) - (I T 13)) (I T 14) (I T 15) ((L T 52))=0∧((L T 52)).length=((L T 16)).length∧(∀q:Nat,q < ((L T 16)).length→(AA ((L T 52)) q 0=I T 1 - AA ((L T 16)) q 0∧AA ((L T 52)) q 1=AA ((L T 16)) q 1∧AA ((L T 52)) q 2=AA ((L T 16)) q 2))∧L T 66=E3 g (I T 11) (I T 12) (I T 13) (I T 14) (I T 15) ((L T 16))∧I T 78=2*((L T 4)).length∧L T 68=E3 (dy g) ((I T 1) - (I T 11)) (I T 12) ((I T 1) - (I T 13)) (I T 14) (I T 15) ((L T 52))∧g.wide=I T 1)(inv2:0≤I T 79)(np2:¬B T 99=true)(n97:(B T 84)=true→0≤I T 79→B T 97=false)(n98:(B T 98)=false)(h85:(B T 85)=true→((L T 4))=g.hoops∧Cf g (I T 11) (I T 12) (I T 13) (I T 14) (I T 15) ((L T 16))=0∧Cf (dy g) ((I T 1) - (I T 11)) (I T 12) ((I T 1) - (I T 13)) (I T 14) (I T 15) ((L T 52))=0∧g.wide=I T 1∧I T 64=I T 1 - (I T 11)∧Ln.mk ((S T 0)) (I T 1) (I T 2) (I T 3) ((L T 41)) (I T 49) (I T 6) (I T 7) (I T 8) (I T 9) ((L T 39))=dy g∧((L T 4)).length≤12)(inv3:0≤I T 101∧I T 101≤((L T 4)).length)(np3:¬B T 121=true)(g6:Ln)(z6:g6=Ln.mk (S T 0) (I T 1) (I T 2) (I T 3) (L T 4) (I T 5) (I T 6) (I T 7) (I T 8) (I T 9) (L T 10))(g7:Ln)(z7:g7=Ln.mk (S T 0) (I T 1) (I T 2) (I T 3) (L T 41) (I T 49) (I T 6) (I T 7) (I T 8) (I T 9) (L T 39))(A0:AI T ed)(B0:AI T dx)(A1:AI T hM)(B1:AI T ec)(A2:AI T j6)(B2:AI T hG)(B3:AI T jz)(A4:AI T kQ):
  ((B T 132)=(true))∧
  (B T 33=true→(((L T 38)).length+((L T 10)).length)*24≤140737488355328)∧
  (B T 33=true→(((L T 34)).length+((L T 4)).length)*40≤140737488355328):=by
 obtain⟨F0,A0⟩:=A0.cut
 have F1:=A0;clear A0
 have F2:=B0;clear B0
 have F3:=A1;clear A1
 have F4:=B1;clear B1
 have F5:=A2;clear A2
 obtain⟨F6,B2⟩:=B2.cut
 have F7:=B2;clear B2
 obtain⟨F8,B3⟩:=B3.cut
 have F9:=B3;clear B3
 have F10:=A4;clear A4
 have n120:(B T 104)=true→0≤I T 101→B T 119=false:=by
  obtain⟨e102,e103,e104,-,e106,e107,e108,e109,e110,-,e112,e113,-,e115,-,e117,-⟩:=F8
  obtain⟨e118,e119,-⟩:=F9
  replace e106:I T 106=(JH g6 (I T 101) true (I T 11) (I T 12) (I T 15)):=by rw[←show gAt 0 (j9.map (Rf.eval T))=g6 from z6.symm];exact e106
  replace e107:I T 107=(Gr g6 (I T 101) (I T 11) (I T 12) (I T 15)):=by rw[←show gAt 0 (j9.map (Rf.eval T))=g6 from z6.symm];exact e107
  replace e108:I T 108=(JH g7 (I T 101) true (I T 64) (I T 12) (I T 15)):=by rw[←show gAt 0 (kA.map (Rf.eval T))=g7 from z7.symm];exact e108
  replace e109:I T 109=(Gr g7 (I T 101) (I T 64) (I T 12) (I T 15)):=by rw[←show gAt 0 (kA.map (Rf.eval T))=g7 from z7.symm];exact e109
  simp only[AE,AG,zN,zR,zL] at e102 e103 e104 e110 e112 e113 e115 e117 e118 e119
  intro h v1
  have h1:=e104.1 h
  obtain⟨m0,m1,m2,m3,m4,m5,m6⟩:=h85 h1.1
  have h2:=e103.1 h1.2
  rw[e102,m0] at h2
  have ga:g6=g:=by rw[z6,hg]
  have gb:g7=dy g:=by rw[z7];exact m5
  have u1:=lA m1 v1 h2
  have u2:=lA (h:=I T 101) m2 v1 (by rw[show (dy g).hoops.length=g.hoops.length from lZ _];exact h2)
  rw[ga] at e106 e107
  rw[gb,m4] at e108 e109
  have n113:¬B T 113=true:=fun a=>by
   rcases e113.1 a with a|a
   ·exact e110.1 a (e107.trans u1)
   ·exact e112.1 a (e109.trans u2)
  refine Bool.eq_false_iff.2 fun hb=>?_
  have h3:=e118.1 ((e119.1 hb).resolve_left n113)
  rw[e115,m0] at h3
  rw[←m3] at u2 e108
  refine e117.1 h3.2 ?_
  rw[e106,e108]
  exact (mM u1 u2 (by simpa using h3.1)).symm
 have f120:(B T 120)=false:=by
  obtain⟨-,-,e120,-⟩:=F9
  simp only[AE,AG,zR] at e120
  refine Bool.eq_false_iff.2 fun h=>?_
  have h1:=e120.1 h
  have:=n120 h1.1 inv3.1
  rw[this] at h1
  exact Bool.false_ne_true h1.2
 have pf:(B T 132)=true:=by
  obtain⟨-,-,-,-,-,-,-,-,-,-,-,-,-,-,-,e32,-⟩:=F0
  obtain⟨-,-,-,-,-,-,-,-,-,-,-,e75,-⟩:=F5
  obtain⟨e123,e124,-,e126,-,e128,-,-,-,e132,-⟩:=F10
  replace e32:B T 32=(true):=e32
  replace e75:B T 75=(true):=e75
  replace e123:B T 123=(true):=e123
  simp only[AE,AG,zC,zR,zL] at e124 e126 e128 e132
  have x32:(B T 32)=true:=e32
  have x75:(B T 75)=true:=e75
  have x123:(B T 123)=true:=e123
  have h126:(B T 126)=true:=by
   exact e126.2 ⟨by rw[n98];simp,e124.2 ⟨by rw[f120];simp,x123⟩⟩
  have h128:(B T 128)=true:=by
   refine e128.2 ?_
   cases k:(B T 74) with
   |true=>exact .inl ⟨rfl,x75⟩
   |false=>exact .inr ⟨by simp,h126⟩
  refine e132.2 ?_
  cases k:(B T 31) with
  |true=>exact .inl ⟨rfl,x32⟩
  |false=>exact .inr ⟨by simp,h128⟩
 refine⟨?_,?_,?_⟩
 ·exact pf
 ·obtain⟨-,-,-,-,-,e38,-⟩:=F1
  simp only[AE,zR,zL] at e38
  intro h
  have:=(hd h).2.2.2.2.2
  rw[e38]
  show (0+((L T 10)).length)*24≤_
  omega
 ·obtain⟨-,e34,-⟩:=F1
  simp only[AE,zR,zL] at e34
  intro h
  have:=(hd h).2.1
  rw[e34]
  show (0+((L T 4)).length)*40≤_
  omega
theorem mG:Fj Try.prog 9 Try.f4.params.toList 0=some (lL,j7):=by kernel_rfl
theorem mT:∀p∈([(12,HP),(13,HN),(16,Ci),(17,Hj),(18,Jz),(19,LH)]:List (FuncId × Ak)),Ao Try.prog p.1 p.2:=by simp only[List.forall_mem_cons];exact⟨T3,Uq,Rv,Tu,bu,ef,fun _ h=>absurd h (by simp)⟩
theorem ml:∀T:Tab,AL T (BG 0 j7)→Bnd T 0 j7→Qn 1048576 T 0 j7→AX T ((ed++((Ax kD [.i,.l] kJ)++(dx++(hM++((Ax kE [.i,.l] kI)++(ec++(j6++((Ax kC [.i] kG)++(hG++(kT++((Ax kB [.i] kK)++(jz++(kQ))))))))))))).map En.be)→Ng T lV∧B T 132=true:=by
 intro T hS hBd hBl hE
 obtain⟨hz0,-,-,-,⟨hl4,he4⟩,-,-,-,-,-,⟨hl10,he10⟩,-,-,-,-,-,⟨hl16,he16⟩,-⟩:=hBd
 replace hz0:(S T 0).size≤140737488355328:=hz0
 replace hl4:(L T 4).length≤140737488355328:=hl4
 replace hl10:(L T 10).length≤140737488355328:=hl10
 replace hl16:(L T 16).length≤140737488355328:=hl16
 obtain⟨g,hg⟩:∃g:Ln,g=Ln.mk (S T 0) (I T 1) (I T 2) (I T 3) (L T 4) (I T 5) (I T 6) (I T 7) (I T 8) (I T 9) (L T 10):=⟨_,rfl⟩
 obtain⟨hb4,hb10,hb16,-⟩:=hBl
 replace hb4:(L T 4).length≤1048576:=hb4
 replace hb10:(L T 10).length≤1048576:=hb10
 replace hb16:(L T 16).length≤1048576:=hb16
 rw[List.map_append,List.map_append,List.map_append,List.map_append,List.map_append,List.map_append,List.map_append,List.map_append,List.map_append,List.map_append,List.map_append,List.map_append] at hE
 have hA:=hE.left
 replace hE:=hE.right
 have hH:=hE.left
 replace hE:=hE.right
 have hB:=hE.left
 replace hE:=hE.right
 obtain⟨A0,hS1⟩:=AV hS (by kernel_rfl) hA
 obtain⟨g1,z1⟩:∃g:Ln,g=Ln.mk (S T 0) (I T 1) (I T 2) (I T 3) (L T 4) (I T 5) (I T 6) (I T 7) (I T 8) (I T 9) (L T 10):=⟨_,rfl⟩
 obtain⟨hgA,hc,hf,hd,h37⟩:=mK hz0 hl4 hl10 hl16 g hg hb4 hb10 hb16 g1 z1 A0
 obtain⟨ow0,hS2,inv0,np0⟩:=mU g hg hd h37 hS1 hB hH
 have hF2:=(AV (hS2.append hS1) (l:=dx) (by kernel_rfl) hB)
 obtain⟨B0,hS⟩:=hF2
 clear hA hB hH hS1 hS2
 have hA:=hE.left
 replace hE:=hE.right
 have hH:=hE.left
 replace hE:=hE.right
 have hB:=hE.left
 replace hE:=hE.right
 obtain⟨A1,hS1⟩:=AV hS (by kernel_rfl) hA
 obtain⟨h44,x50⟩:=mL hz0 hl4 hl10 hl16 g hg hb4 hb10 hb16 g1 z1 hgA hc hf hd h37 inv0 np0 A0 B0 A1
 obtain⟨ow1,hS2,inv1,np1⟩:=mP g hg hd h44 x50 hS1 hB hH
 have hF2:=(AV (hS2.append hS1) (l:=ec) (by kernel_rfl) hB)
 obtain⟨B1,hS⟩:=hF2
 clear hA hB hH hS1 hS2
 have hA:=hE.left
 replace hE:=hE.right
 have hH:=hE.left
 replace hE:=hE.right
 have hB:=hE.left
 replace hE:=hE.right
 obtain⟨A2,hS1⟩:=AV hS (by kernel_rfl) hA
 obtain⟨g2,z2⟩:∃g:Ln,g=Ln.mk (S T 0) (I T 1) (I T 2) (I T 3) (L T 4) (I T 5) (I T 6) (I T 7) (I T 8) (I T 9) (L T 10):=⟨_,rfl⟩
 obtain⟨g3,z3⟩:∃g:Ln,g=Ln.mk (S T 0) (I T 1) (I T 2) (I T 3) (L T 41) (I T 49) (I T 6) (I T 7) (I T 8) (I T 9) (L T 39):=⟨_,rfl⟩
 obtain⟨h56,hm,hgB,h77,h76⟩:=mF hz0 hl4 hl10 hl16 g hg hb4 hb10 hb16 g1 z1 hgA hc hf hd h37 inv0 np0 h44 x50 inv1 np1 g2 z2 g3 z3 A0 B0 A1 B1 A2
 obtain⟨ow2,hS2,inv2,np2⟩:=mV g hg h77 h76 hS1 hB hH
 have hF2:=(AV (hS2.append hS1) (l:=hG) (by kernel_rfl) hB)
 obtain⟨B2,hS⟩:=hF2
 clear hA hB hH hS1 hS2
 have hA:=hE.left
 replace hE:=hE.right
 have hH:=hE.left
 replace hE:=hE.right
 have hB:=hE.left
 replace hE:=hE.right
 obtain⟨A3,hS1⟩:=AV hS (by kernel_rfl) hA
 obtain⟨n97,n98,h85⟩:=mJ hz0 hl4 hl10 hl16 g hg hb4 hb10 hb16 g1 z1 hgA hc hf hd h37 inv0 np0 h44 x50 inv1 np1 g2 z2 g3 z3 h56 hm hgB h77 h76 inv2 np2 A0 B0 A1 B1 A2 B2
 obtain⟨ow3,hS2,inv3,np3⟩:=mQ g hg h85 hS1 hB hH
 have hF2:=(AV (hS2.append hS1) (l:=jz) (by kernel_rfl) hB)
 obtain⟨B3,hS⟩:=hF2
 clear hA hB hH hS1 hS2
 obtain⟨g6,z6⟩:∃g:Ln,g=Ln.mk (S T 0) (I T 1) (I T 2) (I T 3) (L T 4) (I T 5) (I T 6) (I T 7) (I T 8) (I T 9) (L T 10):=⟨_,rfl⟩
 obtain⟨g7,z7⟩:∃g:Ln,g=Ln.mk (S T 0) (I T 1) (I T 2) (I T 3) (L T 41) (I T 49) (I T 6) (I T 7) (I T 8) (I T 9) (L T 39):=⟨_,rfl⟩
 obtain⟨A4,hO⟩:=Ap (tys:=[.b]) (rs:=mm) hS (by kernel_rfl) hE
 obtain⟨q0,r0,r1⟩:=my hz0 hl4 hl10 hl16 g hg hb4 hb10 hb16 g1 z1 hgA hc hf hd h37 inv0 np0 h44 x50 inv1 np1 g2 z2 g3 z3 h56 hm hgB h77 h76 inv2 np2 n97 n98 h85 inv3 np3 g6 z6 g7 z7 A0 B0 A1 B1 A2 B2 B3 A4
 exact⟨⟨(fun _=>ow3),(fun _=>ow2),(fun _=>ow1),(fun _=>ow0),r0,r1,trivial⟩,q0⟩
end Go.Eng
end
