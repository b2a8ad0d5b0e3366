/-
  A part of the proof: K_gposs.
-/
import Derived.Test.YtcinpabggaepfaaE3
import Derived.Test.YtcinpabggaepfaaE4
set_option linter.unusedVariables false
set_option linter.unusedSimpArgs false
noncomputable section
open Go Go.Eng Go.Proofs
set_option maxHeartbeats 4000000
set_option maxRecDepth 100000
namespace Go.Eng
def JU:List U→Bool:=fun us=>(BU (gAt 0 us))
def IG:List U→Prop:=fun us=>0≤(aI us 0)∧(aI us 0)≤3∧(aI us 26)=AX (aI us 0)∧(aI us 27)=Ac (aI us 0)∧(aI us 28)=Ab (aI us 0)∧(aB us 29)=Aw (aI us 0)∧(aB us 30)=Ao (aI us 0)∧(aB us 31)=BI (aI us 0)
def II:Bc:={ sh:=[.ptr 0 0],blks:=[([k64,k64,k64,k64,k64,k64,k64,k64,k64,.bool,.bool,.bool,.bool,.bool,.bool,.bool,.bool,k64,k64,.bool,.bool,.bool,k64,k64,k64,k64,k64,k64,k64,.bool,.bool,.bool],73)],outs:=[(.s "gposs.0",AQ JU)],c:= .b 32,m':=[.cells [(AG 0),(AG 1),(AG 2),(AG 3),(AG 4),(AG 5),(AG 6),(AG 7),(AG 8),.b 9,.b 10,.b 11,.b 12,.b 13,.b 14,.b 15,.b 16,(AG 17),(AG 18),.b 19,.b 20,.b 21,(AG 22),(AG 23),(AG 24),(AG 25),(AG 26),(AG 27),(AG 28),.b 29,.b 30,.b 31] 73],pre:=[(.s "gposs.p0",IG)] }
def O3:List En:=[⟨32,.lt,[.e 1,.c (.int 0)]⟩,
 ⟨33,.not,[.e 32]⟩,
 ⟨34,.lt,[.c (.int 4),.e 1]⟩,
 ⟨35,.or,[.e 32,.e 34]⟩,
 ⟨36,.not,[.e 35]⟩,
 ⟨37,.bits .andNot .i64,[.e 2,.c (.int 1)]⟩,
 ⟨38,.ne,[.e 37,.c (.int 0)]⟩,
 ⟨39,.or,[.e 35,.e 38]⟩,
 ⟨40,.not,[.e 39]⟩,
 ⟨41,.lt,[.e 22,.c (.int 0)]⟩,
 ⟨42,.or,[.e 39,.e 41]⟩,
 ⟨43,.not,[.e 42]⟩,
 ⟨44,.lt,[.c (.int 1073741824),.e 22]⟩,
 ⟨45,.or,[.e 42,.e 44]⟩,
 ⟨46,.not,[.e 45]⟩,
 ⟨47,.not,[.e 45]⟩]
def PT:List En:=[⟨48,.and,[.e 47,.e 30]⟩,
 ⟨49,.and,[.e 47,.n 30]⟩,
 ⟨50,.ite .i,[.e 30,.c (.int 40),.c (.int 0)]⟩,
 ⟨51,.o2 .min,[.e 17,.e 18]⟩,
 ⟨52,.le,[.c (.int 0),.e 51]⟩,
 ⟨53,.and,[.e 47,.e 52]⟩,
 ⟨54,.o2 .max,[.e 17,.e 18]⟩,
 ⟨55,.le,[.e 54,.e 50]⟩,
 ⟨56,.and,[.e 52,.e 55]⟩,
 ⟨57,.or,[.e 45,.n 56]⟩,
 ⟨58,.not,[.e 57]⟩,
 ⟨59,.eq,[.e 5,.c (.int 13)]⟩,
 ⟨60,.and,[.e 58,.e 59]⟩,
 ⟨61,.and,[.e 60,.n 9]⟩,
 ⟨62,.or,[.e 9,.e 13]⟩,
 ⟨63,.and,[.e 60,.e 62]⟩]
def PW:List En:=[⟨64,.and,[.e 60,.n 62]⟩,
 ⟨65,.and,[.e 58,.n 59]⟩,
 ⟨66,.lt,[.e 5,.c (.int 0)]⟩,
 ⟨67,.and,[.e 65,.n 66]⟩,
 ⟨68,.lt,[.e 26,.e 5]⟩,
 ⟨69,.or,[.e 66,.e 68]⟩,
 ⟨70,.and,[.e 65,.e 69]⟩,
 ⟨71,.and,[.e 65,.n 69]⟩,
 ⟨72,.and,[.e 71,.n 9]⟩,
 ⟨73,.lt,[.c (.int 0),.e 5]⟩,
 ⟨74,.and,[.e 72,.n 73]⟩,
 ⟨75,.or,[.e 73,.e 13]⟩,
 ⟨76,.and,[.n 9,.e 75]⟩,
 ⟨77,.and,[.e 71,.e 76]⟩,
 ⟨78,.and,[.e 71,.n 76]⟩,
 ⟨79,.or,[.e 70,.e 77]⟩]
def O9:List En:=[⟨80,.or,[.e 63,.e 79]⟩,
 ⟨81,.or,[.e 64,.e 78]⟩,
 ⟨82,.eq,[.e 6,.c (.int 13)]⟩,
 ⟨83,.and,[.e 81,.e 82]⟩,
 ⟨84,.and,[.e 83,.n 10]⟩,
 ⟨85,.or,[.e 10,.e 14]⟩,
 ⟨86,.and,[.e 83,.e 85]⟩,
 ⟨87,.and,[.e 83,.n 85]⟩,
 ⟨88,.and,[.e 81,.n 82]⟩,
 ⟨89,.lt,[.e 6,.c (.int 0)]⟩,
 ⟨90,.and,[.e 88,.n 89]⟩,
 ⟨91,.lt,[.e 26,.e 6]⟩,
 ⟨92,.or,[.e 89,.e 91]⟩,
 ⟨93,.and,[.e 88,.e 92]⟩,
 ⟨94,.and,[.e 88,.n 92]⟩,
 ⟨95,.and,[.e 94,.n 10]⟩]
def PK:List En:=[⟨96,.lt,[.c (.int 0),.e 6]⟩,
 ⟨97,.and,[.e 95,.n 96]⟩,
 ⟨98,.or,[.e 96,.e 14]⟩,
 ⟨99,.and,[.n 10,.e 98]⟩,
 ⟨100,.and,[.e 94,.e 99]⟩,
 ⟨101,.and,[.e 94,.n 99]⟩,
 ⟨102,.or,[.e 93,.e 100]⟩,
 ⟨103,.or,[.e 86,.e 102]⟩,
 ⟨104,.or,[.e 87,.e 101]⟩,
 ⟨105,.eq,[.e 7,.c (.int 13)]⟩,
 ⟨106,.and,[.e 104,.e 105]⟩,
 ⟨107,.and,[.e 106,.n 11]⟩,
 ⟨108,.or,[.e 11,.e 15]⟩,
 ⟨109,.and,[.e 106,.e 108]⟩,
 ⟨110,.and,[.e 106,.n 108]⟩,
 ⟨111,.and,[.e 104,.n 105]⟩]
def PI:List En:=[⟨112,.lt,[.e 7,.c (.int 0)]⟩,
 ⟨113,.and,[.e 111,.n 112]⟩,
 ⟨114,.lt,[.e 26,.e 7]⟩,
 ⟨115,.or,[.e 112,.e 114]⟩,
 ⟨116,.and,[.e 111,.e 115]⟩,
 ⟨117,.and,[.e 111,.n 115]⟩,
 ⟨118,.and,[.e 117,.n 11]⟩,
 ⟨119,.lt,[.c (.int 0),.e 7]⟩,
 ⟨120,.and,[.e 118,.n 119]⟩,
 ⟨121,.or,[.e 119,.e 15]⟩,
 ⟨122,.and,[.n 11,.e 121]⟩,
 ⟨123,.and,[.e 117,.e 122]⟩,
 ⟨124,.and,[.e 117,.n 122]⟩,
 ⟨125,.or,[.e 116,.e 123]⟩,
 ⟨126,.or,[.e 109,.e 125]⟩,
 ⟨127,.or,[.e 110,.e 124]⟩]
def O5:List En:=[⟨128,.eq,[.e 8,.c (.int 13)]⟩,
 ⟨129,.and,[.e 127,.e 128]⟩,
 ⟨130,.and,[.e 129,.n 12]⟩,
 ⟨131,.or,[.e 12,.e 16]⟩,
 ⟨132,.and,[.e 129,.e 131]⟩,
 ⟨133,.and,[.e 129,.n 131]⟩,
 ⟨134,.and,[.e 127,.n 128]⟩,
 ⟨135,.lt,[.e 8,.c (.int 0)]⟩,
 ⟨136,.and,[.e 134,.n 135]⟩,
 ⟨137,.lt,[.e 26,.e 8]⟩,
 ⟨138,.or,[.e 135,.e 137]⟩,
 ⟨139,.and,[.e 134,.e 138]⟩,
 ⟨140,.and,[.e 134,.n 138]⟩,
 ⟨141,.and,[.e 140,.n 12]⟩,
 ⟨142,.lt,[.c (.int 0),.e 8]⟩,
 ⟨143,.and,[.e 141,.n 142]⟩]
def PA:List En:=[⟨144,.or,[.e 142,.e 16]⟩,
 ⟨145,.and,[.n 12,.e 144]⟩,
 ⟨146,.and,[.e 140,.e 145]⟩,
 ⟨147,.and,[.e 140,.n 145]⟩,
 ⟨148,.or,[.e 139,.e 146]⟩,
 ⟨149,.or,[.e 132,.e 148]⟩,
 ⟨150,.or,[.e 133,.e 147]⟩,
 ⟨151,.ite .i,[.e 126,.c (.int 2),.c (.int 3)]⟩,
 ⟨152,.ite .i,[.e 126,.e 7,.e 8]⟩,
 ⟨153,.ite .b,[.e 126,.e 105,.e 128]⟩,
 ⟨154,.ite .i,[.e 126,.c (.int 2),.c (.int 3)]⟩,
 ⟨155,.or,[.e 126,.e 149]⟩,
 ⟨156,.ite .i,[.e 103,.c (.int 1),.e 151]⟩,
 ⟨157,.ite .i,[.e 103,.e 6,.e 152]⟩,
 ⟨158,.ite .b,[.e 103,.e 82,.e 153]⟩,
 ⟨159,.ite .i,[.e 103,.c (.int 1),.e 154]⟩]
def PD:List En:=[⟨160,.or,[.e 103,.e 155]⟩,
 ⟨161,.ite .i,[.e 80,.c (.int 0),.e 156]⟩,
 ⟨162,.ite .i,[.e 80,.e 5,.e 157]⟩,
 ⟨163,.ite .b,[.e 80,.e 59,.e 158]⟩,
 ⟨164,.ite .i,[.e 80,.c (.int 0),.e 159]⟩,
 ⟨165,.or,[.e 80,.e 160]⟩,
 ⟨166,.eqs [.b,.b],[.e 19,.c (.bool false),.e 20,.c (.bool false)]⟩,
 ⟨167,.and,[.e 150,.n 166]⟩,
 ⟨168,.nes [.i,.i],[.e 27,.c (.int 0),.e 28,.c (.int 0)]⟩,
 ⟨169,.or,[.e 166,.e 168]⟩,
 ⟨170,.ite .i,[.e 165,.e 161,.c (.int 3)]⟩,
 ⟨171,.ite .b,[.e 165,.c (.bool true),.c (.bool false)]⟩,
 ⟨172,.ite .b,[.e 165,.c (.bool false),.e 169]⟩,
 ⟨173,.ite .i,[.e 165,.e 162,.e 8]⟩,
 ⟨174,.ite .b,[.e 165,.e 163,.e 128]⟩,
 ⟨175,.ite .i,[.e 165,.e 164,.c (.int 4)]⟩]
def PZ:List En:=[⟨176,.or,[.e 165,.e 150]⟩,
 ⟨177,.ite .b,[.e 57,.c (.bool false),.e 172]⟩,
 ⟨178,.or,[.e 57,.e 176]⟩]
def fS:List En:=O3++(PT++(PW++(O9++(PK++(PI++(O5++(PA++(PD++(PZ)))))))))
def jO:List ObE:=[]
def bV:List Rf:=[.e 177]
theorem jc:II.sees bV (II.run Try.prog [] Ba 3000 20 45)=some ((fS).map En.be,jO.map ObE.be,[]):=by kernel_rfl
theorem Wj:CA Try.prog 45 II:=by
 refine Bu (l:=[]) C6 (by intro p h;exact absurd h (by simp)) jc (by kernel_rfl) fun T us hpre hT hul hS hBd hE=>?_
 change us.length=32 at hul
 obtain⟨⟨lo0,hi0⟩,⟨lo1,hi1⟩,⟨lo2,hi2⟩,⟨lo3,hi3⟩,⟨lo4,hi4⟩,⟨lo5,hi5⟩,⟨lo6,hi6⟩,⟨lo7,hi7⟩,⟨lo8,hi8⟩,⟨lo17,hi17⟩,⟨lo18,hi18⟩,⟨lo22,hi22⟩,⟨lo23,hi23⟩,⟨lo24,hi24⟩,⟨lo25,hi25⟩,⟨lo26,hi26⟩,⟨lo27,hi27⟩,⟨lo28,hi28⟩,-⟩:=hBd
 clear lo0 hi0
 clear lo1 hi1
 replace lo2: -9223372036854775808≤I T 2:=lo2
 replace hi2:I T 2≤9223372036854775807:=hi2
 clear lo3 hi3
 clear lo4 hi4
 clear lo5 hi5
 clear lo6 hi6
 clear lo7 hi7
 clear lo8 hi8
 clear lo17 hi17
 clear lo18 hi18
 clear lo22 hi22
 clear lo23 hi23
 clear lo24 hi24
 clear lo25 hi25
 clear lo26 hi26
 clear lo27 hi27
 clear lo28 hi28
 obtain⟨g,hg⟩:∃g:Gm,g=Gm.mk (I T 0) (I T 1) (I T 2) (I T 3) (I T 4) (I T 5) (I T 6) (I T 7) (I T 8) (B T 9) (B T 10) (B T 11) (B T 12) (B T 13) (B T 14) (B T 15) (B T 16) (I T 17) (I T 18) (B T 19) (B T 20) (B T 21) (I T 22) (I T 23) (I T 24) (I T 25):=⟨_,rfl⟩
 have hgu:gAt 0 us=g:=by rw[hg];exact R8 (inI hT hul (by decide)) (inI hT hul (by decide)) (inI hT hul (by decide)) (inI hT hul (by decide)) (inI hT hul (by decide)) (inI hT hul (by decide)) (inI hT hul (by decide)) (inI hT hul (by decide)) (inI hT hul (by decide)) (inB hT hul (by decide)) (inB hT hul (by decide)) (inB hT hul (by decide)) (inB hT hul (by decide)) (inB hT hul (by decide)) (inB hT hul (by decide)) (inB hT hul (by decide)) (inB hT hul (by decide)) (inI hT hul (by decide)) (inI hT hul (by decide)) (inB hT hul (by decide)) (inB hT hul (by decide)) (inB hT hul (by decide)) (inI hT hul (by decide)) (inI hT hul (by decide)) (inI hT hul (by decide)) (inI hT hul (by decide))
 have ha0:aI us 0=I T 0:=inI hT hul (by decide)
 have ha26:aI us 26=I T 26:=inI hT hul (by decide)
 have ha27:aI us 27=I T 27:=inI hT hul (by decide)
 have ha28:aI us 28=I T 28:=inI hT hul (by decide)
 have ha29:aB us 29=B T 29:=inB hT hul (by decide)
 have ha30:aB us 30=B T 30:=inB hT hul (by decide)
 have ha31:aB us 31=B T 31:=inB hT hul (by decide)
 have pre0:0≤(I T 0)∧(I T 0)≤3∧(I T 26)=AX (I T 0)∧(I T 27)=Ac (I T 0)∧(I T 28)=Ab (I T 0)∧(B T 29)=Aw (I T 0)∧(B T 30)=Ao (I T 0)∧(B T 31)=BI (I T 0):=by
  have h:=hpre (.s "gposs.p0",IG) (by simp[II])
  change IG us at h
  unfold IG at h
  simp only[ha0,ha26,ha27,ha28,ha29,ha30,ha31] at h
  exact h
 clear hpre
 skip
 obtain⟨hF,hO⟩:=CK (tys:=[.b]) (rs:=bV) hS (by kernel_rfl) hE
 clear hE hS
 have F0:AK T O3:=hF.left
 replace hF:=hF.right
 have F1:AK T PT:=hF.left
 replace hF:=hF.right
 have F2:AK T PW:=hF.left
 replace hF:=hF.right
 have F3:AK T O9:=hF.left
 replace hF:=hF.right
 have F4:AK T PK:=hF.left
 replace hF:=hF.right
 have F5:AK T PI:=hF.left
 replace hF:=hF.right
 have F6:AK T O5:=hF.left
 replace hF:=hF.right
 have F7:AK T PA:=hF.left
 replace hF:=hF.right
 have F8:AK T PD:=hF.left
 replace hF:=hF.right
 have F9:AK T PZ:=hF
 clear hF
 obtain⟨z0,z1,z2,z3,z4,z5,z6,z7⟩:=pre0
 have hs:=jZ lo2 hi2
 have c57:(B T 57)=true↔¬(0≤(I T 1)∧(I T 1)≤4∧0≤(I T 2)∧(I T 2)≤1∧0≤(I T 22)∧(I T 22)≤1073741824∧DD (I T 0) (I T 17) (I T 18)=true):=by
  obtain⟨e32,-,e34,e35,-,e37,e38,e39,-,e41,e42,-,e44,e45,-⟩:=F0
  obtain⟨-,-,e50,e51,e52,-,e54,e55,e56,e57,-⟩:=F1
  simp only[AA,BL,Af,w2P,AN,AM,AD,CW,BG,BD,Ax,Bt,Bn,uR,Aj,List.zipWith_cons_cons,List.zipWith_nil_left,List.take_succ_cons,List.take_zero,List.drop_succ_cons,List.drop_zero,Bool.not_eq_true',Bool.not_eq_true,Bool.false_eq_true,eq_self,and_true,true_and,and_false,false_and,or_false,false_or,if_true,if_false] at e32 e34 e35 e37 e38 e39 e41 e42 e44 e45 e50 e51 e52 e54 e55 e56 e57
  clear F2 F3 F4 F5 F6 F7 F8 F9
  subst hg
  (try simp only[DD,Bool.and_eq_true,Bool.or_eq_true,Bool.not_eq_true,Bool.not_eq_true',Bool.not_eq_eq_eq_not,Bool.not_true,Bool.not_false,decide_eq_true_eq,decide_eq_false_iff_not])<;>grind (splits:=100)
 have c80:(B T 80)=true↔((B T 58)=true∧¬CE (I T 26) (I T 5) (B T 9) (B T 13)=true):=by
  clear c57
  obtain⟨-,-,-,-,-,-,-,-,-,-,-,e59,e60,-,e62,e63,-⟩:=F1
  obtain⟨-,e65,e66,-,e68,e69,e70,e71,-,e73,-,e75,e76,e77,-,e79,-⟩:=F2
  obtain⟨e80,-⟩:=F3
  simp only[AA,BL,Af,w2P,AN,AM,AD,CW,BG,BD,Ax,Bt,Bn,uR,Aj,List.zipWith_cons_cons,List.zipWith_nil_left,List.take_succ_cons,List.take_zero,List.drop_succ_cons,List.drop_zero,Bool.not_eq_true',Bool.not_eq_true,Bool.false_eq_true,eq_self,and_true,true_and,and_false,false_and,or_false,false_or,if_true,if_false] at e59 e60 e62 e63 e65 e66 e68 e69 e70 e71 e73 e75 e76 e77 e79 e80
  clear F0 F4 F5 F6 F7 F8 F9
  subst hg
  (try simp only[CE,Bool.and_eq_true,Bool.or_eq_true,Bool.not_eq_true,Bool.not_eq_true',Bool.not_eq_eq_eq_not,Bool.not_true,Bool.not_false,decide_eq_true_eq,decide_eq_false_iff_not])<;>grind (splits:=100)
 have c81:(B T 81)=true↔((B T 58)=true∧CE (I T 26) (I T 5) (B T 9) (B T 13)=true):=by
  clear c57 c80
  obtain⟨-,-,-,-,-,-,-,-,-,-,-,e59,e60,-,e62,-⟩:=F1
  obtain⟨e64,e65,e66,-,e68,e69,-,e71,-,e73,-,e75,e76,-,e78,-⟩:=F2
  obtain⟨-,e81,-⟩:=F3
  simp only[AA,BL,Af,w2P,AN,AM,AD,CW,BG,BD,Ax,Bt,Bn,uR,Aj,List.zipWith_cons_cons,List.zipWith_nil_left,List.take_succ_cons,List.take_zero,List.drop_succ_cons,List.drop_zero,Bool.not_eq_true',Bool.not_eq_true,Bool.false_eq_true,eq_self,and_true,true_and,and_false,false_and,or_false,false_or,if_true,if_false] at e59 e60 e62 e64 e65 e66 e68 e69 e71 e73 e75 e76 e78 e81
  clear F0 F4 F5 F6 F7 F8 F9
  subst hg
  (try simp only[CE,Bool.and_eq_true,Bool.or_eq_true,Bool.not_eq_true,Bool.not_eq_true',Bool.not_eq_eq_eq_not,Bool.not_true,Bool.not_false,decide_eq_true_eq,decide_eq_false_iff_not])<;>grind (splits:=100)
 have c103:(B T 103)=true↔((B T 81)=true∧¬CE (I T 26) (I T 6) (B T 10) (B T 14)=true):=by
  clear c57 c80 c81
  obtain⟨-,-,e82,e83,-,e85,e86,-,e88,e89,-,e91,e92,e93,e94,-⟩:=F3
  obtain⟨e96,-,e98,e99,e100,-,e102,e103,-⟩:=F4
  simp only[AA,BL,Af,w2P,AN,AM,AD,CW,BG,BD,Ax,Bt,Bn,uR,Aj,List.zipWith_cons_cons,List.zipWith_nil_left,List.take_succ_cons,List.take_zero,List.drop_succ_cons,List.drop_zero,Bool.not_eq_true',Bool.not_eq_true,Bool.false_eq_true,eq_self,and_true,true_and,and_false,false_and,or_false,false_or,if_true,if_false] at e82 e83 e85 e86 e88 e89 e91 e92 e93 e94 e96 e98 e99 e100 e102 e103
  clear F0 F1 F2 F5 F6 F7 F8 F9
  subst hg
  (try simp only[CE,Bool.and_eq_true,Bool.or_eq_true,Bool.not_eq_true,Bool.not_eq_true',Bool.not_eq_eq_eq_not,Bool.not_true,Bool.not_false,decide_eq_true_eq,decide_eq_false_iff_not])<;>grind (splits:=100)
 have c104:(B T 104)=true↔((B T 81)=true∧CE (I T 26) (I T 6) (B T 10) (B T 14)=true):=by
  clear c57 c80 c81 c103
  obtain⟨-,-,e82,e83,-,e85,-,e87,e88,e89,-,e91,e92,-,e94,-⟩:=F3
  obtain⟨e96,-,e98,e99,-,e101,-,-,e104,-⟩:=F4
  simp only[AA,BL,Af,w2P,AN,AM,AD,CW,BG,BD,Ax,Bt,Bn,uR,Aj,List.zipWith_cons_cons,List.zipWith_nil_left,List.take_succ_cons,List.take_zero,List.drop_succ_cons,List.drop_zero,Bool.not_eq_true',Bool.not_eq_true,Bool.false_eq_true,eq_self,and_true,true_and,and_false,false_and,or_false,false_or,if_true,if_false] at e82 e83 e85 e87 e88 e89 e91 e92 e94 e96 e98 e99 e101 e104
  clear F0 F1 F2 F5 F6 F7 F8 F9
  subst hg
  (try simp only[CE,Bool.and_eq_true,Bool.or_eq_true,Bool.not_eq_true,Bool.not_eq_true',Bool.not_eq_eq_eq_not,Bool.not_true,Bool.not_false,decide_eq_true_eq,decide_eq_false_iff_not])<;>grind (splits:=100)
 have c126:(B T 126)=true↔((B T 104)=true∧¬CE (I T 26) (I T 7) (B T 11) (B T 15)=true):=by
  clear c57 c80 c81 c103 c104
  obtain⟨-,-,-,-,-,-,-,-,-,e105,e106,-,e108,e109,-,e111,-⟩:=F4
  obtain⟨e112,-,e114,e115,e116,e117,-,e119,-,e121,e122,e123,-,e125,e126,-⟩:=F5
  simp only[AA,BL,Af,w2P,AN,AM,AD,CW,BG,BD,Ax,Bt,Bn,uR,Aj,List.zipWith_cons_cons,List.zipWith_nil_left,List.take_succ_cons,List.take_zero,List.drop_succ_cons,List.drop_zero,Bool.not_eq_true',Bool.not_eq_true,Bool.false_eq_true,eq_self,and_true,true_and,and_false,false_and,or_false,false_or,if_true,if_false] at e105 e106 e108 e109 e111 e112 e114 e115 e116 e117 e119 e121 e122 e123 e125 e126
  clear F0 F1 F2 F3 F6 F7 F8 F9
  subst hg
  (try simp only[CE,Bool.and_eq_true,Bool.or_eq_true,Bool.not_eq_true,Bool.not_eq_true',Bool.not_eq_eq_eq_not,Bool.not_true,Bool.not_false,decide_eq_true_eq,decide_eq_false_iff_not])<;>grind (splits:=100)
 have c127:(B T 127)=true↔((B T 104)=true∧CE (I T 26) (I T 7) (B T 11) (B T 15)=true):=by
  clear c57 c80 c81 c103 c104 c126
  obtain⟨-,-,-,-,-,-,-,-,-,e105,e106,-,e108,-,e110,e111,-⟩:=F4
  obtain⟨e112,-,e114,e115,-,e117,-,e119,-,e121,e122,-,e124,-,-,e127,-⟩:=F5
  simp only[AA,BL,Af,w2P,AN,AM,AD,CW,BG,BD,Ax,Bt,Bn,uR,Aj,List.zipWith_cons_cons,List.zipWith_nil_left,List.take_succ_cons,List.take_zero,List.drop_succ_cons,List.drop_zero,Bool.not_eq_true',Bool.not_eq_true,Bool.false_eq_true,eq_self,and_true,true_and,and_false,false_and,or_false,false_or,if_true,if_false] at e105 e106 e108 e110 e111 e112 e114 e115 e117 e119 e121 e122 e124 e127
  clear F0 F1 F2 F3 F6 F7 F8 F9
  subst hg
  (try simp only[CE,Bool.and_eq_true,Bool.or_eq_true,Bool.not_eq_true,Bool.not_eq_true',Bool.not_eq_eq_eq_not,Bool.not_true,Bool.not_false,decide_eq_true_eq,decide_eq_false_iff_not])<;>grind (splits:=100)
 have c149:(B T 149)=true↔((B T 127)=true∧¬CE (I T 26) (I T 8) (B T 12) (B T 16)=true):=by
  clear c57 c80 c81 c103 c104 c126 c127
  obtain⟨e128,e129,-,e131,e132,-,e134,e135,-,e137,e138,e139,e140,-,e142,-⟩:=F6
  obtain⟨e144,e145,e146,-,e148,e149,-⟩:=F7
  simp only[AA,BL,Af,w2P,AN,AM,AD,CW,BG,BD,Ax,Bt,Bn,uR,Aj,List.zipWith_cons_cons,List.zipWith_nil_left,List.take_succ_cons,List.take_zero,List.drop_succ_cons,List.drop_zero,Bool.not_eq_true',Bool.not_eq_true,Bool.false_eq_true,eq_self,and_true,true_and,and_false,false_and,or_false,false_or,if_true,if_false] at e128 e129 e131 e132 e134 e135 e137 e138 e139 e140 e142 e144 e145 e146 e148 e149
  clear F0 F1 F2 F3 F4 F5 F8 F9
  subst hg
  (try simp only[CE,Bool.and_eq_true,Bool.or_eq_true,Bool.not_eq_true,Bool.not_eq_true',Bool.not_eq_eq_eq_not,Bool.not_true,Bool.not_false,decide_eq_true_eq,decide_eq_false_iff_not])<;>grind (splits:=100)
 have c169:(B T 169)=true↔((I T 0)=1∨((B T 19)=false∧(B T 20)=false)):=by
  clear c57 c80 c81 c103 c104 c126 c127 c149
  obtain⟨-,-,-,-,-,-,e166,-,e168,e169,-⟩:=F8
  simp only[AA,BL,Af,w2P,AN,AM,AD,CW,BG,BD,Ax,Bt,Bn,uR,Aj,List.zipWith_cons_cons,List.zipWith_nil_left,List.take_succ_cons,List.take_zero,List.drop_succ_cons,List.drop_zero,Bool.not_eq_true',Bool.not_eq_true,Bool.false_eq_true,eq_self,and_true,true_and,and_false,false_and,or_false,false_or,if_true,if_false] at e166 e168 e169
  clear F0 F1 F2 F3 F4 F5 F6 F7 F9
  subst hg
  grind (splits:=100) [Ac,Ab]
 have q0:(B T 177)=(BU g):=by
  obtain⟨-,-,-,-,-,-,-,-,-,-,e58,-⟩:=F1
  obtain⟨-,-,-,-,-,-,-,-,-,-,-,e155,-⟩:=F7
  obtain⟨e160,-,-,-,-,e165,-,-,-,-,-,-,e172,-⟩:=F8
  obtain⟨-,e177,-⟩:=F9
  simp only[AA,BL,Af,w2P,AN,AM,AD,CW,BG,BD,Ax,Bt,Bn,uR,Aj,List.zipWith_cons_cons,List.zipWith_nil_left,List.take_succ_cons,List.take_zero,List.drop_succ_cons,List.drop_zero,Bool.not_eq_true',Bool.not_eq_true,Bool.false_eq_true,eq_self,and_true,true_and,and_false,false_and,or_false,false_or,if_true,if_false] at e58 e155 e160 e165 e172 e177
  clear F0 F2 F3 F4 F5 F6
  subst hg
  refine AU ?_
  (try simp only[BU,Bool.and_eq_true,Bool.or_eq_true,Bool.not_eq_true,Bool.not_eq_true',Bool.not_eq_eq_eq_not,Bool.not_true,Bool.not_false,decide_eq_true_eq,decide_eq_false_iff_not])<;>(try constructor)<;>grind (splits:=100)
 refine⟨trivial,hO.trans ?_⟩
 exact (lc (by show U.bool (B T 177)= .bool (JU us);unfold JU;rw[hgu];exact congrArg U.bool q0) rfl)
end Go.Eng
end
