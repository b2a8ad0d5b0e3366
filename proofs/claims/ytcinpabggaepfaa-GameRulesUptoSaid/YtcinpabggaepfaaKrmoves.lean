/-
  A part of the proof: K_rmoves.
-/
import Derived.Test.YtcinpabggaepfaaE3
import Derived.Test.YtcinpabggaepfaaE4
set_option linter.unusedVariables false
set_option linter.unusedSimpArgs false
noncomputable section
open Go Go.Eng Go.Proofs
set_option maxHeartbeats 4000000
set_option maxRecDepth 100000
namespace Go.Eng
def Jj:List U→List (List U):=fun us=>(C2 (gAt 0 us))
def Ej:List U→Prop:=fun us=>AR (gAt 0 us)=true
def Is:Bc:={ sh:=[.agg [k64,k64,.int .i64 (0) (1),k64,k64,k64,k64,k64,k64,.bool,.bool,.bool,.bool,.bool,.bool,.bool,.bool,k64,k64,.bool,.bool,.bool,k64,k64,k64,k64]],blks:=[],outs:=[(.s "rmoves.0",jD Jj)],c:= .ro 26 [k64,k64,.bool,.list [k64,k64]],m':=[],pre:=[(.s "rmoves.p0",Ej)] }
def NE:List En:=[⟨26,.eq,[.e 1,.c (.int 1)]⟩,
 ⟨27,.not,[.e 26]⟩,
 ⟨28,.eq,[.e 1,.c (.int 2)]⟩,
 ⟨29,.or,[.e 26,.e 28]⟩,
 ⟨30,.not,[.e 29]⟩,
 ⟨31,.eq,[.e 1,.c (.int 3)]⟩,
 ⟨32,.or,[.e 29,.e 31]⟩,
 ⟨33,.row 2 4 [.i,.i,.b,.l,.i,.i,.b,.l],[.c (.int 2),.c (.int 0),.c (.bool false),.c (.list []),.c (.int 3),.c (.int 0),.c (.bool false),.c (.list [])]⟩,
 ⟨34,.not,[.e 32]⟩,
 ⟨35,.eq,[.e 1,.c (.int 4)]⟩,
 ⟨36,.and,[.e 34,.e 35]⟩,
 ⟨37,.and,[.e 34,.n 35]⟩,
 ⟨38,.lt,[.e 22,.c (.int 4)]⟩,
 ⟨39,.and,[.e 37,.e 38]⟩,
 ⟨40,.pick .b,[.e 2,.e 9,.e 10,.e 11,.e 12]⟩,
 ⟨41,.and,[.e 38,.n 40]⟩]
def NF:List En:=[⟨42,.and,[.e 37,.e 41]⟩,
 ⟨43,.pick .i,[.e 2,.e 5,.e 6,.e 7,.e 8]⟩,
 ⟨44,.eq,[.e 43,.c (.int 13)]⟩,
 ⟨45,.and,[.e 41,.n 44]⟩,
 ⟨46,.and,[.e 37,.n 45]⟩,
 ⟨47,.le,[.c (.int 4),.e 22]⟩,
 ⟨48,.and,[.e 46,.e 47]⟩,
 ⟨49,.pick .b,[.e 2,.e 9,.e 10,.e 11,.e 12]⟩,
 ⟨50,.and,[.e 47,.e 49]⟩,
 ⟨51,.or,[.e 45,.e 50]⟩,
 ⟨52,.and,[.e 37,.e 51]⟩,
 ⟨53,.row 1 4 [.i,.i,.b,.l],[.c (.int 1),.e 2,.c (.bool false),.c (.list [])]⟩,
 ⟨54,.app,[.c (.list []),.e 53]⟩,
 ⟨55,.pick .b,[.e 2,.e 9,.e 10,.e 11,.e 12]⟩,
 ⟨56,.and,[.e 52,.e 55]⟩,
 ⟨57,.pick .b,[.e 2,.e 19,.e 20]⟩]
def NR:List En:=[⟨58,.and,[.e 55,.e 57]⟩,
 ⟨59,.and,[.e 52,.e 58]⟩,
 ⟨60,.row 1 4 [.i,.i,.b,.l],[.c (.int 1),.e 2,.c (.bool true),.c (.list [])]⟩,
 ⟨61,.app,[.e 54,.e 60]⟩,
 ⟨62,.and,[.e 52,.n 58]⟩,
 ⟨63,.ite .l,[.e 58,.e 61,.e 54]⟩,
 ⟨64,.ite .l,[.e 58,.e 60,.c (.list [])]⟩,
 ⟨65,.and,[.e 37,.n 51]⟩,
 ⟨66,.ite .l,[.e 51,.e 53,.c (.list [])]⟩,
 ⟨67,.ite .l,[.e 51,.e 63,.c (.list [])]⟩,
 ⟨68,.ite .l,[.e 51,.e 64,.c (.list [])]⟩,
 ⟨69,.o2 .add,[.e 2,.c (.int 2)]⟩,
 ⟨70,.lt,[.e 22,.c (.int 4)]⟩,
 ⟨71,.and,[.e 37,.e 70]⟩,
 ⟨72,.pick .b,[.e 69,.e 9,.e 10,.e 11,.e 12]⟩,
 ⟨73,.and,[.e 70,.n 72]⟩]
def M5:List En:=[⟨74,.and,[.e 37,.e 73]⟩,
 ⟨75,.pick .i,[.e 69,.e 5,.e 6,.e 7,.e 8]⟩,
 ⟨76,.eq,[.e 75,.c (.int 13)]⟩,
 ⟨77,.and,[.e 73,.n 76]⟩,
 ⟨78,.and,[.e 37,.n 77]⟩,
 ⟨79,.le,[.c (.int 4),.e 22]⟩,
 ⟨80,.and,[.e 78,.e 79]⟩,
 ⟨81,.pick .b,[.e 69,.e 9,.e 10,.e 11,.e 12]⟩,
 ⟨82,.and,[.e 79,.e 81]⟩,
 ⟨83,.or,[.e 77,.e 82]⟩,
 ⟨84,.and,[.e 37,.e 83]⟩,
 ⟨85,.row 1 4 [.i,.i,.b,.l],[.c (.int 1),.e 69,.c (.bool false),.c (.list [])]⟩,
 ⟨86,.app,[.e 67,.e 85]⟩,
 ⟨87,.pick .b,[.e 69,.e 9,.e 10,.e 11,.e 12]⟩,
 ⟨88,.and,[.e 84,.e 87]⟩,
 ⟨89,.pick .b,[.e 2,.e 19,.e 20]⟩]
def Ng:List En:=[⟨90,.and,[.e 87,.e 89]⟩,
 ⟨91,.and,[.e 84,.e 90]⟩,
 ⟨92,.row 1 4 [.i,.i,.b,.l],[.c (.int 1),.e 69,.c (.bool true),.c (.list [])]⟩,
 ⟨93,.app,[.e 86,.e 92]⟩,
 ⟨94,.and,[.e 84,.n 90]⟩,
 ⟨95,.ite .l,[.e 90,.e 93,.e 86]⟩,
 ⟨96,.ite .l,[.e 90,.e 92,.c (.list [])]⟩,
 ⟨97,.and,[.e 37,.n 83]⟩,
 ⟨98,.ite .l,[.e 83,.e 95,.e 67]⟩,
 ⟨99,.ite .l,[.e 83,.e 85,.c (.list [])]⟩,
 ⟨100,.ite .l,[.e 83,.e 96,.c (.list [])]⟩,
 ⟨101,.o2 .add,[.e 69,.c (.int 2)]⟩,
 ⟨102,.le,[.c (.int 4),.e 22]⟩,
 ⟨103,.and,[.e 37,.e 102]⟩,
 ⟨104,.row 1 4 [.i,.i,.b,.l],[.c (.int 3),.c (.int 0),.c (.bool false),.c (.list [])]⟩,
 ⟨105,.app,[.e 98,.e 104]⟩]
def OK:List En:=[⟨106,.and,[.e 37,.n 102]⟩,
 ⟨107,.ite .l,[.e 102,.e 105,.e 98]⟩,
 ⟨108,.ite .l,[.e 102,.e 104,.c (.list [])]⟩,
 ⟨109,.ne,[.e 24,.c (.int (-1))]⟩,
 ⟨110,.and,[.e 37,.e 109]⟩,
 ⟨111,.o2 .tmod,[.e 24,.c (.int 2)]⟩,
 ⟨112,.pick .i,[.e 111,.e 17,.e 18]⟩,
 ⟨113,.le,[.c (.int 2),.e 112]⟩,
 ⟨114,.and,[.e 109,.e 113]⟩,
 ⟨115,.and,[.e 37,.e 114]⟩,
 ⟨116,.row 1 4 [.i,.i,.b,.l],[.c (.int 4),.e 24,.c (.bool false),.c (.list [])]⟩,
 ⟨117,.app,[.e 107,.e 116]⟩,
 ⟨118,.and,[.e 37,.n 114]⟩,
 ⟨119,.ite .l,[.e 114,.e 117,.e 107]⟩,
 ⟨120,.ite .l,[.e 114,.e 116,.c (.list [])]⟩,
 ⟨121,.ne,[.e 24,.c (.int (-1))]⟩]
def NZ:List En:=[⟨122,.and,[.e 37,.e 121]⟩,
 ⟨123,.o2 .tmod,[.e 24,.c (.int 2)]⟩,
 ⟨124,.pick .i,[.e 123,.e 17,.e 18]⟩,
 ⟨125,.le,[.c (.int 1),.e 124]⟩,
 ⟨126,.and,[.e 121,.e 125]⟩,
 ⟨127,.and,[.e 37,.e 126]⟩,
 ⟨128,.row 1 4 [.i,.i,.b,.l],[.c (.int 5),.e 24,.c (.bool false),.c (.list [])]⟩,
 ⟨129,.app,[.e 119,.e 128]⟩,
 ⟨130,.and,[.e 37,.n 126]⟩,
 ⟨131,.ite .l,[.e 126,.e 129,.e 119]⟩,
 ⟨132,.ite .l,[.e 126,.e 128,.c (.list [])]⟩,
 ⟨133,.ite .l,[.e 36,.c (.list []),.e 66]⟩,
 ⟨134,.ite .l,[.e 36,.c (.list []),.e 131]⟩,
 ⟨135,.ite .l,[.e 36,.c (.list []),.e 68]⟩,
 ⟨136,.ite .l,[.e 36,.c (.list []),.e 99]⟩,
 ⟨137,.ite .l,[.e 36,.c (.list []),.e 100]⟩]
def OG:List En:=[⟨138,.ite .l,[.e 36,.c (.list []),.e 108]⟩,
 ⟨139,.ite .l,[.e 36,.c (.list []),.e 120]⟩,
 ⟨140,.ite .l,[.e 36,.c (.list []),.e 132]⟩,
 ⟨141,.or,[.e 36,.e 37]⟩,
 ⟨142,.ite .l,[.e 32,.c (.list []),.e 133]⟩,
 ⟨143,.ite .l,[.e 32,.c (.list []),.e 134]⟩,
 ⟨144,.ite .l,[.e 32,.c (.list []),.e 135]⟩,
 ⟨145,.ite .l,[.e 32,.c (.list []),.e 136]⟩,
 ⟨146,.ite .l,[.e 32,.c (.list []),.e 137]⟩,
 ⟨147,.ite .l,[.e 32,.c (.list []),.e 138]⟩,
 ⟨148,.ite .l,[.e 32,.c (.list []),.e 139]⟩,
 ⟨149,.ite .l,[.e 32,.c (.list []),.e 140]⟩,
 ⟨150,.ite .l,[.e 32,.e 33,.e 134]⟩,
 ⟨151,.or,[.e 32,.e 141]⟩]
def dO:List En:=NE++(NF++(NR++(M5++(Ng++(OK++(NZ++(OG)))))))
def gy:List ObE:=[⟨some 127,.fits 48,[.e 119,.e 128]⟩,
 ⟨some 122,.inr,[.e 123,.c (.int 2)]⟩,
 ⟨some 115,.fits 48,[.e 107,.e 116]⟩,
 ⟨some 110,.inr,[.e 111,.c (.int 2)]⟩,
 ⟨some 103,.fits 48,[.e 98,.e 104]⟩,
 ⟨some 91,.fits 48,[.e 86,.e 92]⟩,
 ⟨some 84,.fits 48,[.e 67,.e 85]⟩,
 ⟨some 59,.fits 48,[.e 54,.e 60]⟩,
 ⟨some 52,.fits 48,[.c (.list []),.e 53]⟩]
def WT:List Rf:=[.e 150]
theorem i9:Is.sees WT (Is.run Try.prog [] Ba 3000 20 37)=some ((dO).map En.be,gy.map ObE.be,[]):=by kernel_rfl
theorem ej:CA Try.prog 37 Is:=by
 refine Bu (l:=[]) C6 (by intro p h;exact absurd h (by simp)) i9 (by kernel_rfl) fun T us hpre hT hul hS hBd hE=>?_
 change us.length=26 at hul
 obtain⟨⟨lo0,hi0⟩,⟨lo1,hi1⟩,⟨lo2,hi2⟩,⟨lo3,hi3⟩,⟨lo4,hi4⟩,⟨lo5,hi5⟩,⟨lo6,hi6⟩,⟨lo7,hi7⟩,⟨lo8,hi8⟩,⟨lo17,hi17⟩,⟨lo18,hi18⟩,⟨lo22,hi22⟩,⟨lo23,hi23⟩,⟨lo24,hi24⟩,⟨lo25,hi25⟩,-⟩:=hBd
 clear lo0 hi0
 clear lo1 hi1
 replace lo2:0≤I T 2:=lo2
 replace hi2:I T 2≤1:=hi2
 clear lo3 hi3
 clear lo4 hi4
 clear lo5 hi5
 clear lo6 hi6
 clear lo7 hi7
 clear lo8 hi8
 clear lo17 hi17
 clear lo18 hi18
 clear lo22 hi22
 clear lo23 hi23
 clear lo24 hi24
 clear lo25 hi25
 obtain⟨g,hg⟩:∃g:Gm,g=Gm.mk (I T 0) (I T 1) (I T 2) (I T 3) (I T 4) (I T 5) (I T 6) (I T 7) (I T 8) (B T 9) (B T 10) (B T 11) (B T 12) (B T 13) (B T 14) (B T 15) (B T 16) (I T 17) (I T 18) (B T 19) (B T 20) (B T 21) (I T 22) (I T 23) (I T 24) (I T 25):=⟨_,rfl⟩
 have hgu:gAt 0 us=g:=by rw[hg];exact R8 (inI hT hul (by decide)) (inI hT hul (by decide)) (inI hT hul (by decide)) (inI hT hul (by decide)) (inI hT hul (by decide)) (inI hT hul (by decide)) (inI hT hul (by decide)) (inI hT hul (by decide)) (inI hT hul (by decide)) (inB hT hul (by decide)) (inB hT hul (by decide)) (inB hT hul (by decide)) (inB hT hul (by decide)) (inB hT hul (by decide)) (inB hT hul (by decide)) (inB hT hul (by decide)) (inB hT hul (by decide)) (inI hT hul (by decide)) (inI hT hul (by decide)) (inB hT hul (by decide)) (inB hT hul (by decide)) (inB hT hul (by decide)) (inI hT hul (by decide)) (inI hT hul (by decide)) (inI hT hul (by decide)) (inI hT hul (by decide))
 have pre0:AR g=true:=by
  have h:=hpre (.s "rmoves.p0",Ej) (by simp[Is])
  change Ej us at h
  unfold Ej at h
  simp only[hgu] at h
  exact h
 clear hpre
 skip
 obtain⟨hF,hO⟩:=CK (tys:=[.l]) (rs:=WT) hS (by kernel_rfl) hE
 clear hE hS
 have F0:AK T NE:=hF.left
 replace hF:=hF.right
 have F1:AK T NF:=hF.left
 replace hF:=hF.right
 have F2:AK T NR:=hF.left
 replace hF:=hF.right
 have F3:AK T M5:=hF.left
 replace hF:=hF.right
 have F4:AK T Ng:=hF.left
 replace hF:=hF.right
 have F5:AK T OK:=hF.left
 replace hF:=hF.right
 have F6:AK T NZ:=hF.left
 replace hF:=hF.right
 have F7:AK T OG:=hF
 clear hF
 have n53:(L T 53).length≤1:=by
  obtain⟨-,-,-,-,-,-,-,-,-,-,-,e53,-⟩:=F1
  simp only[AA,AD,BG,Bool.false_eq_true,eq_self,and_true,and_false,or_false,false_or,true_and,false_and,BD,Ax,Bt,Bn,uR,Aj,List.zipWith_cons_cons,List.zipWith_nil_left,List.take_succ_cons,List.take_zero,List.drop_succ_cons,List.drop_zero] at e53
  clear F0 F2 F3 F4 F5 F6 F7
  rw[e53];exact Nat.le_refl _
 have n54:(L T 54).length≤1:=by
  obtain⟨-,-,-,-,-,-,-,-,-,-,-,-,e54,-⟩:=F1
  simp only[AA,BD,Ax,Bt,Bn] at e54
  clear F0 F2 F3 F4 F5 F6 F7
  rw[e54,List.length_append];(try simp only[List.length_nil]);omega
 have n60:(L T 60).length≤1:=by
  obtain⟨-,-,e60,-⟩:=F2
  simp only[AA,AD,BG,Bool.false_eq_true,eq_self,and_true,and_false,or_false,false_or,true_and,false_and,BD,Ax,Bt,Bn,uR,Aj,List.zipWith_cons_cons,List.zipWith_nil_left,List.take_succ_cons,List.take_zero,List.drop_succ_cons,List.drop_zero] at e60
  clear F0 F1 F3 F4 F5 F6 F7
  rw[e60];exact Nat.le_refl _
 have n61:(L T 61).length≤2:=by
  obtain⟨-,-,-,e61,-⟩:=F2
  simp only[AA,BD,Ax,Bt,Bn] at e61
  clear F0 F1 F3 F4 F5 F6 F7
  rw[e61,List.length_append];(try simp only[List.length_nil]);omega
 have n63:(L T 63).length≤2:=by
  obtain⟨-,-,-,-,-,e63,-⟩:=F2
  simp only[AA,AD,BD,Ax,Bt,Bn] at e63
  clear F0 F1 F3 F4 F5 F6 F7
  rw[e63];split<;>(try simp only[List.length_nil])<;>omega
 have n67:(L T 67).length≤2:=by
  obtain⟨-,-,-,-,-,-,-,-,-,e67,-⟩:=F2
  simp only[AA,AD,BD,Ax,Bt,Bn] at e67
  clear F0 F1 F3 F4 F5 F6 F7
  rw[e67];split<;>(try simp only[List.length_nil])<;>omega
 have n85:(L T 85).length≤1:=by
  obtain⟨-,-,-,-,-,-,-,-,-,-,-,e85,-⟩:=F3
  simp only[AA,AD,BG,Bool.false_eq_true,eq_self,and_true,and_false,or_false,false_or,true_and,false_and,BD,Ax,Bt,Bn,uR,Aj,List.zipWith_cons_cons,List.zipWith_nil_left,List.take_succ_cons,List.take_zero,List.drop_succ_cons,List.drop_zero] at e85
  clear F0 F1 F2 F4 F5 F6 F7
  rw[e85];exact Nat.le_refl _
 have n86:(L T 86).length≤3:=by
  obtain⟨-,-,-,-,-,-,-,-,-,-,-,-,e86,-⟩:=F3
  simp only[AA,BD,Ax,Bt,Bn] at e86
  clear F0 F1 F2 F4 F5 F6 F7
  rw[e86,List.length_append];(try simp only[List.length_nil]);omega
 have n92:(L T 92).length≤1:=by
  obtain⟨-,-,e92,-⟩:=F4
  simp only[AA,AD,BG,Bool.false_eq_true,eq_self,and_true,and_false,or_false,false_or,true_and,false_and,BD,Ax,Bt,Bn,uR,Aj,List.zipWith_cons_cons,List.zipWith_nil_left,List.take_succ_cons,List.take_zero,List.drop_succ_cons,List.drop_zero] at e92
  clear F0 F1 F2 F3 F5 F6 F7
  rw[e92];exact Nat.le_refl _
 have n93:(L T 93).length≤4:=by
  obtain⟨-,-,-,e93,-⟩:=F4
  simp only[AA,BD,Ax,Bt,Bn] at e93
  clear F0 F1 F2 F3 F5 F6 F7
  rw[e93,List.length_append];(try simp only[List.length_nil]);omega
 have n95:(L T 95).length≤4:=by
  obtain⟨-,-,-,-,-,e95,-⟩:=F4
  simp only[AA,AD,BD,Ax,Bt,Bn] at e95
  clear F0 F1 F2 F3 F5 F6 F7
  rw[e95];split<;>(try simp only[List.length_nil])<;>omega
 have n98:(L T 98).length≤4:=by
  obtain⟨-,-,-,-,-,-,-,-,e98,-⟩:=F4
  simp only[AA,AD,BD,Ax,Bt,Bn] at e98
  clear F0 F1 F2 F3 F5 F6 F7
  rw[e98];split<;>(try simp only[List.length_nil])<;>omega
 have n104:(L T 104).length≤1:=by
  obtain⟨-,-,-,-,-,-,-,-,-,-,-,-,-,-,e104,-⟩:=F4
  simp only[AA,BG,Bool.false_eq_true,eq_self,and_true,and_false,or_false,false_or,true_and,false_and,BD,Ax,Bt,Bn,uR,Aj,List.zipWith_cons_cons,List.zipWith_nil_left,List.take_succ_cons,List.take_zero,List.drop_succ_cons,List.drop_zero] at e104
  clear F0 F1 F2 F3 F5 F6 F7
  rw[e104];exact Nat.le_refl _
 have n105:(L T 105).length≤5:=by
  obtain⟨-,-,-,-,-,-,-,-,-,-,-,-,-,-,-,e105,-⟩:=F4
  simp only[AA,BD,Ax,Bt,Bn] at e105
  clear F0 F1 F2 F3 F5 F6 F7
  rw[e105,List.length_append];(try simp only[List.length_nil]);omega
 have n107:(L T 107).length≤5:=by
  obtain⟨-,e107,-⟩:=F5
  simp only[AA,AD,BD,Ax,Bt,Bn] at e107
  clear F0 F1 F2 F3 F4 F6 F7
  rw[e107];split<;>(try simp only[List.length_nil])<;>omega
 have n116:(L T 116).length≤1:=by
  obtain⟨-,-,-,-,-,-,-,-,-,-,e116,-⟩:=F5
  simp only[AA,AD,BG,Bool.false_eq_true,eq_self,and_true,and_false,or_false,false_or,true_and,false_and,BD,Ax,Bt,Bn,uR,Aj,List.zipWith_cons_cons,List.zipWith_nil_left,List.take_succ_cons,List.take_zero,List.drop_succ_cons,List.drop_zero] at e116
  clear F0 F1 F2 F3 F4 F6 F7
  rw[e116];exact Nat.le_refl _
 have n117:(L T 117).length≤6:=by
  obtain⟨-,-,-,-,-,-,-,-,-,-,-,e117,-⟩:=F5
  simp only[AA,BD,Ax,Bt,Bn] at e117
  clear F0 F1 F2 F3 F4 F6 F7
  rw[e117,List.length_append];(try simp only[List.length_nil]);omega
 have n119:(L T 119).length≤6:=by
  obtain⟨-,-,-,-,-,-,-,-,-,-,-,-,-,e119,-⟩:=F5
  simp only[AA,AD,BD,Ax,Bt,Bn] at e119
  clear F0 F1 F2 F3 F4 F6 F7
  rw[e119];split<;>(try simp only[List.length_nil])<;>omega
 have n128:(L T 128).length≤1:=by
  obtain⟨-,-,-,-,-,-,e128,-⟩:=F6
  simp only[AA,AD,BG,Bool.false_eq_true,eq_self,and_true,and_false,or_false,false_or,true_and,false_and,BD,Ax,Bt,Bn,uR,Aj,List.zipWith_cons_cons,List.zipWith_nil_left,List.take_succ_cons,List.take_zero,List.drop_succ_cons,List.drop_zero] at e128
  clear F0 F1 F2 F3 F4 F5 F7
  rw[e128];exact Nat.le_refl _
 obtain⟨y0,y1,_⟩:=Bs pre0
 rw[hg] at y1
 simp only at y1
 clear y0 pre0
 have c67:(L T 67)=Co g (I T 2):=by
  obtain⟨-,-,-,-,-,-,-,-,-,-,-,-,e38,-,e40,e41,-⟩:=F0
  obtain⟨-,e43,e44,e45,-,e47,-,e49,e50,e51,-,e53,e54,e55,-,e57,-⟩:=F1
  obtain⟨e58,-,e60,e61,-,e63,-,-,-,e67,-⟩:=F2
  simp only[AA,AD,CW,Bool.not_eq_true',Bool.not_eq_true,BG,Bool.false_eq_true,eq_self,and_true,and_false,or_false,false_or,true_and,false_and,BD,Ax,AN,AM,Bt,Bn,uR,Aj,List.zipWith_cons_cons,List.zipWith_nil_left,List.take_succ_cons,List.take_zero,List.drop_succ_cons,List.drop_zero] at e38 e40 e41 e43 e44 e45 e47 e49 e50 e51 e53 e54 e55 e57 e58 e60 e61 e63 e67
  clear F3 F4 F5 F6 F7
  subst hg
  (try simp only[Co,MK,inS,AJ,AY,AS,Ke,mvU,Bool.and_eq_true,Bool.or_eq_true,Bool.not_eq_true,Bool.not_eq_true',Bool.not_eq_eq_eq_not,Bool.not_true,Bool.not_false,decide_eq_true_eq,decide_eq_false_iff_not])<;>grind (splits:=100)
 have c98:(L T 98)=(L T 67)++Co g ((I T 2)+2):=by
  clear c67
  obtain⟨-,-,-,-,-,-,-,-,-,-,-,e69,e70,-,e72,e73,-⟩:=F2
  obtain⟨-,e75,e76,e77,-,e79,-,e81,e82,e83,-,e85,e86,e87,-,e89,-⟩:=F3
  obtain⟨e90,-,e92,e93,-,e95,-,-,e98,-⟩:=F4
  simp only[AA,AD,CW,Bool.not_eq_true',Bool.not_eq_true,BG,Bool.false_eq_true,eq_self,and_true,and_false,or_false,false_or,true_and,false_and,BD,Ax,AN,AM,Af,Bt,Bn,uR,Aj,List.zipWith_cons_cons,List.zipWith_nil_left,List.take_succ_cons,List.take_zero,List.drop_succ_cons,List.drop_zero] at e69 e70 e72 e73 e75 e76 e77 e79 e81 e82 e83 e85 e86 e87 e89 e90 e92 e93 e95 e98
  clear F0 F1 F5 F6 F7
  subst hg
  (try simp only[Co,MK,inS,AJ,AY,AS,Ke,mvU,Bool.and_eq_true,Bool.or_eq_true,Bool.not_eq_true,Bool.not_eq_true',Bool.not_eq_eq_eq_not,Bool.not_true,Bool.not_false,decide_eq_true_eq,decide_eq_false_iff_not])<;>grind (splits:=100)
 have c107:(L T 107)=(L T 98)++Ij g:=by
  clear c67 c98
  obtain⟨-,-,-,-,-,-,-,-,-,-,-,-,e102,-,e104,e105,-⟩:=F4
  obtain⟨-,e107,-⟩:=F5
  simp only[AA,AD,BG,Bool.false_eq_true,eq_self,and_true,and_false,or_false,false_or,true_and,false_and,BD,Ax,Bt,Bn,uR,Aj,List.zipWith_cons_cons,List.zipWith_nil_left,List.take_succ_cons,List.take_zero,List.drop_succ_cons,List.drop_zero] at e102 e104 e105 e107
  clear F0 F1 F2 F3 F6 F7
  subst hg
  (try simp only[Ij,mvU,Bool.and_eq_true,Bool.or_eq_true,Bool.not_eq_true,Bool.not_eq_true',Bool.not_eq_eq_eq_not,Bool.not_true,Bool.not_false,decide_eq_true_eq,decide_eq_false_iff_not])<;>grind (splits:=100)
 have c119:(L T 119)=(L T 107)++C1 g:=by
  clear c67 c98 c107
  obtain⟨-,-,-,e109,-,e111,e112,e113,e114,-,e116,e117,-,e119,-⟩:=F5
  simp only[AA,AD,BG,Bool.false_eq_true,eq_self,and_true,and_false,or_false,false_or,true_and,false_and,BD,Ax,AN,AM,Af,Bt,Bn,uR,Aj,List.zipWith_cons_cons,List.zipWith_nil_left,List.take_succ_cons,List.take_zero,List.drop_succ_cons,List.drop_zero] at e109 e111 e112 e113 e114 e116 e117 e119
  clear F0 F1 F2 F3 F4 F6 F7
  subst hg
  (try simp only[C1,mvU,HO,Bool.and_eq_true,Bool.or_eq_true,Bool.not_eq_true,Bool.not_eq_true',Bool.not_eq_eq_eq_not,Bool.not_true,Bool.not_false,decide_eq_true_eq,decide_eq_false_iff_not])<;>grind (splits:=100)
 have c131:(L T 131)=(L T 119)++C0 g:=by
  clear c67 c98 c107 c119
  obtain⟨-,-,-,-,-,-,-,-,-,-,-,-,-,-,-,e121,-⟩:=F5
  obtain⟨-,e123,e124,e125,e126,-,e128,e129,-,e131,-⟩:=F6
  simp only[AA,AD,BG,Bool.false_eq_true,eq_self,and_true,and_false,or_false,false_or,true_and,false_and,BD,Ax,AN,AM,Af,Bt,Bn,uR,Aj,List.zipWith_cons_cons,List.zipWith_nil_left,List.take_succ_cons,List.take_zero,List.drop_succ_cons,List.drop_zero] at e121 e123 e124 e125 e126 e128 e129 e131
  clear F0 F1 F2 F3 F4 F7
  subst hg
  (try simp only[C0,mvU,HO,Bool.and_eq_true,Bool.or_eq_true,Bool.not_eq_true,Bool.not_eq_true',Bool.not_eq_eq_eq_not,Bool.not_true,Bool.not_false,decide_eq_true_eq,decide_eq_false_iff_not])<;>grind (splits:=100)
 have q0:(L T 150)=(C2 g):=by
  obtain⟨e26,-,e28,e29,-,e31,e32,e33,e34,e35,e36,-⟩:=F0
  obtain⟨-,-,-,-,-,-,-,-,-,-,-,-,e134,-⟩:=F6
  obtain⟨-,-,-,-,-,-,-,-,-,-,-,-,e150,-⟩:=F7
  simp only[AA,AD,BG,Bool.false_eq_true,eq_self,and_true,and_false,or_false,false_or,true_and,false_and,BD,Ax,Bt,Bn,uR,Aj,List.zipWith_cons_cons,List.zipWith_nil_left,List.take_succ_cons,List.take_zero,List.drop_succ_cons,List.drop_zero] at e26 e28 e29 e31 e32 e33 e34 e35 e36 e134 e150
  clear F1 F2 F3 F4 F5
  subst hg
  (try simp only[C2,mvU,Ag,Bool.and_eq_true,Bool.or_eq_true,Bool.not_eq_true,Bool.not_eq_true',Bool.not_eq_eq_eq_not,Bool.not_true,Bool.not_false,decide_eq_true_eq,decide_eq_false_iff_not])<;>grind (splits:=100)
 have r0:B T 127=true→(((L T 119)).length+((L T 128)).length)*48≤140737488355328:=by
  clear c131
  obtain⟨e26,-,e28,e29,-,e31,e32,-,e34,e35,-,e37,-⟩:=F0
  obtain⟨-,-,-,-,-,-,-,-,-,-,-,-,-,-,-,e121,-⟩:=F5
  obtain⟨-,e123,e124,e125,e126,e127,e128,-⟩:=F6
  simp only[AA,AD,CW,Bool.not_eq_true',Bool.not_eq_true,BG,Bool.false_eq_true,eq_self,and_true,and_false,or_false,false_or,true_and,false_and,BD,Ax,AN,AM,Af,Bt,Bn,uR,Aj,List.zipWith_cons_cons,List.zipWith_nil_left,List.take_succ_cons,List.take_zero,List.drop_succ_cons,List.drop_zero] at e26 e28 e29 e31 e32 e34 e35 e37 e121 e123 e124 e125 e126 e127 e128
  clear F1 F2 F3 F4 F7
  intro _
  (try simp only[List.length_nil])
  omega
 have r1:B T 122=true→0≤(I T 123)∧(I T 123) < 2:=by
  clear c67 c98 c107 c119 c131
  obtain⟨e26,-,e28,e29,-,e31,e32,-,e34,e35,-,e37,-⟩:=F0
  obtain⟨-,-,-,-,-,-,-,-,-,-,-,-,-,-,-,e121,-⟩:=F5
  obtain⟨e122,e123,-⟩:=F6
  simp only[AA,AD,CW,Bool.not_eq_true',Bool.not_eq_true,BD,Ax,Af] at e26 e28 e29 e31 e32 e34 e35 e37 e121 e122 e123
  clear F1 F2 F3 F4 F7
  grind (splits:=100)
 have r2:B T 115=true→(((L T 107)).length+((L T 116)).length)*48≤140737488355328:=by
  clear c119 c131
  obtain⟨e26,-,e28,e29,-,e31,e32,-,e34,e35,-,e37,-⟩:=F0
  obtain⟨-,-,-,e109,-,e111,e112,e113,e114,e115,e116,-⟩:=F5
  simp only[AA,AD,CW,Bool.not_eq_true',Bool.not_eq_true,BG,Bool.false_eq_true,eq_self,and_true,and_false,or_false,false_or,true_and,false_and,BD,Ax,AN,AM,Af,Bt,Bn,uR,Aj,List.zipWith_cons_cons,List.zipWith_nil_left,List.take_succ_cons,List.take_zero,List.drop_succ_cons,List.drop_zero] at e26 e28 e29 e31 e32 e34 e35 e37 e109 e111 e112 e113 e114 e115 e116
  clear F1 F2 F3 F4 F6 F7
  intro _
  (try simp only[List.length_nil])
  omega
 have r3:B T 110=true→0≤(I T 111)∧(I T 111) < 2:=by
  clear c67 c98 c107 c119 c131
  obtain⟨e26,-,e28,e29,-,e31,e32,-,e34,e35,-,e37,-⟩:=F0
  obtain⟨-,-,-,e109,e110,e111,-⟩:=F5
  simp only[AA,AD,CW,Bool.not_eq_true',Bool.not_eq_true,BD,Ax,Af] at e26 e28 e29 e31 e32 e34 e35 e37 e109 e110 e111
  clear F1 F2 F3 F4 F6 F7
  grind (splits:=100)
 have r4:B T 103=true→(((L T 98)).length+((L T 104)).length)*48≤140737488355328:=by
  clear c107 c119 c131
  obtain⟨e26,-,e28,e29,-,e31,e32,-,e34,e35,-,e37,-⟩:=F0
  obtain⟨-,-,-,-,-,-,-,-,-,-,-,-,e102,e103,e104,-⟩:=F4
  simp only[AA,AD,CW,Bool.not_eq_true',Bool.not_eq_true,BG,Bool.false_eq_true,eq_self,and_true,and_false,or_false,false_or,true_and,false_and,BD,Ax,Bt,Bn,uR,Aj,List.zipWith_cons_cons,List.zipWith_nil_left,List.take_succ_cons,List.take_zero,List.drop_succ_cons,List.drop_zero] at e26 e28 e29 e31 e32 e34 e35 e37 e102 e103 e104
  clear F1 F2 F3 F5 F6 F7
  intro _
  (try simp only[List.length_nil])
  omega
 have r5:B T 91=true→(((L T 86)).length+((L T 92)).length)*48≤140737488355328:=by
  clear c98 c107 c119 c131
  obtain⟨e26,-,e28,e29,-,e31,e32,-,e34,e35,-,e37,-⟩:=F0
  obtain⟨-,-,-,-,-,-,-,-,-,-,-,e69,e70,-,e72,e73,-⟩:=F2
  obtain⟨-,e75,e76,e77,-,e79,-,e81,e82,e83,e84,e85,e86,e87,-,e89,-⟩:=F3
  obtain⟨e90,e91,e92,-⟩:=F4
  simp only[AA,AD,CW,Bool.not_eq_true',Bool.not_eq_true,BG,Bool.false_eq_true,eq_self,and_true,and_false,or_false,false_or,true_and,false_and,BD,Ax,AN,AM,Af,Bt,Bn,uR,Aj,List.zipWith_cons_cons,List.zipWith_nil_left,List.take_succ_cons,List.take_zero,List.drop_succ_cons,List.drop_zero] at e26 e28 e29 e31 e32 e34 e35 e37 e69 e70 e72 e73 e75 e76 e77 e79 e81 e82 e83 e84 e85 e86 e87 e89 e90 e91 e92
  clear F1 F5 F6 F7
  intro _
  (try simp only[List.length_nil])
  omega
 have r6:B T 84=true→(((L T 67)).length+((L T 85)).length)*48≤140737488355328:=by
  clear c98 c107 c119 c131
  obtain⟨e26,-,e28,e29,-,e31,e32,-,e34,e35,-,e37,-⟩:=F0
  obtain⟨-,-,-,-,-,-,-,-,-,-,-,e69,e70,-,e72,e73,-⟩:=F2
  obtain⟨-,e75,e76,e77,-,e79,-,e81,e82,e83,e84,e85,-⟩:=F3
  simp only[AA,AD,CW,Bool.not_eq_true',Bool.not_eq_true,BG,Bool.false_eq_true,eq_self,and_true,and_false,or_false,false_or,true_and,false_and,BD,Ax,AN,AM,Af,Bt,Bn,uR,Aj,List.zipWith_cons_cons,List.zipWith_nil_left,List.take_succ_cons,List.take_zero,List.drop_succ_cons,List.drop_zero] at e26 e28 e29 e31 e32 e34 e35 e37 e69 e70 e72 e73 e75 e76 e77 e79 e81 e82 e83 e84 e85
  clear F1 F4 F5 F6 F7
  intro _
  (try simp only[List.length_nil])
  omega
 have r7:B T 59=true→(((L T 54)).length+((L T 60)).length)*48≤140737488355328:=by
  clear c67 c98 c107 c119 c131
  obtain⟨e26,-,e28,e29,-,e31,e32,-,e34,e35,-,e37,e38,-,e40,e41,-⟩:=F0
  obtain⟨-,e43,e44,e45,-,e47,-,e49,e50,e51,e52,e53,e54,e55,-,e57,-⟩:=F1
  obtain⟨e58,e59,e60,-⟩:=F2
  simp only[AA,AD,CW,Bool.not_eq_true',Bool.not_eq_true,BG,Bool.false_eq_true,eq_self,and_true,and_false,or_false,false_or,true_and,false_and,BD,Ax,AN,AM,Bt,Bn,uR,Aj,List.zipWith_cons_cons,List.zipWith_nil_left,List.take_succ_cons,List.take_zero,List.drop_succ_cons,List.drop_zero] at e26 e28 e29 e31 e32 e34 e35 e37 e38 e40 e41 e43 e44 e45 e47 e49 e50 e51 e52 e53 e54 e55 e57 e58 e59 e60
  clear F3 F4 F5 F6 F7
  intro _
  (try simp only[List.length_nil])
  omega
 have r8:B T 52=true→((([]:List (List U))).length+((L T 53)).length)*48≤140737488355328:=by
  clear c67 c98 c107 c119 c131
  obtain⟨e26,-,e28,e29,-,e31,e32,-,e34,e35,-,e37,e38,-,e40,e41,-⟩:=F0
  obtain⟨-,e43,e44,e45,-,e47,-,e49,e50,e51,e52,e53,-⟩:=F1
  simp only[AA,AD,CW,Bool.not_eq_true',Bool.not_eq_true,BG,Bool.false_eq_true,eq_self,and_true,and_false,or_false,false_or,true_and,false_and,BD,Ax,AN,AM,Bt,Bn,uR,Aj,List.zipWith_cons_cons,List.zipWith_nil_left,List.take_succ_cons,List.take_zero,List.drop_succ_cons,List.drop_zero] at e26 e28 e29 e31 e32 e34 e35 e37 e38 e40 e41 e43 e44 e45 e47 e49 e50 e51 e52 e53
  clear F2 F3 F4 F5 F6 F7
  intro _
  (try simp only[List.length_nil])
  omega
 refine⟨⟨r0,r1,r2,r3,r4,r5,r6,r7,r8,trivial⟩,hO.trans ?_⟩
 exact (lc (by show U.list (L T 150)= .list (Jj us);unfold Jj;rw[hgu];exact congrArg U.list q0) rfl)
end Go.Eng
end
