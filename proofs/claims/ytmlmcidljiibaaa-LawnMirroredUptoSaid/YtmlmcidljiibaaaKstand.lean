/-
  A part of the proof: K_standd K_stand.
-/
import Derived.Test.YtmlmcidljiibaaaE4
import Derived.Test.YtmlmcidljiibaaaE5
import Derived.Test.YtmlmcidljiibaaaKcheck
import Derived.Test.YtmlmcidljiibaaaKtcheck
set_option linter.unusedVariables false
set_option linter.unusedSimpArgs false
noncomputable section
open Go Go.Eng Go.Proofs
set_option maxHeartbeats 4000000
set_option maxRecDepth 100000
namespace Go.Eng
def J5:List U→Int:=fun us=>(JH (gAt 0 us) (aI us 11) (aB us 12) (aI us 13) (aI us 14) (aI us 15))
def KF:List U→Int:=fun us=>(Gr (gAt 0 us) (aI us 11) (aI us 13) (aI us 14) (aI us 15))
def LH:Ak:={ sh:=[.agg [.str,k64,k64,k64,.list [k64,k64,k64,k64,.bool],k64,k64,k64,k64,k64,.list [k64,k64,k64]],.one (k64),.one (.bool),.agg [k64,k64],.one (k64)],blks:=[],outs:=[(.s "stand.0",Bi J5),(.s "stand.1",Bi KF)],c:= .tup [(CP 16),(CP 17)],m':=[],pre:=[] }
def Da:List Rf:=[.e 0,.e 1,.e 2,.e 3,.e 4,.e 5,.e 6,.e 7,.e 8,.e 9,.e 10]
def Wn:List En:=[⟨16,.outI "check.0" Hy,Da⟩,
 ⟨17,.ne,[.e 16,.c (.int 0)]⟩,
 ⟨18,.not,[.e 17]⟩,
 ⟨19,.lt,[.e 11,.c (.int 0)]⟩,
 ⟨20,.and,[.e 18,.n 19]⟩,
 ⟨21,.len,[.e 4]⟩,
 ⟨22,.le,[.e 21,.e 11]⟩,
 ⟨23,.or,[.e 19,.e 22]⟩,
 ⟨24,.and,[.e 18,.e 23]⟩,
 ⟨25,.and,[.e 18,.n 23]⟩,
 ⟨26,.get .i 0,[.e 4,.e 11]⟩,
 ⟨27,.get .i 1,[.e 4,.e 11]⟩,
 ⟨28,.get .i 2,[.e 4,.e 11]⟩,
 ⟨29,.get .i 3,[.e 4,.e 11]⟩,
 ⟨30,.get .b 4,[.e 4,.e 11]⟩,
 ⟨31,.ite .i,[.e 24,.c (.int 0),.e 26]⟩]
def WY:List En:=[⟨32,.ite .i,[.e 24,.c (.int 0),.e 27]⟩,
 ⟨33,.ite .i,[.e 24,.c (.int 0),.e 28]⟩,
 ⟨34,.ite .i,[.e 24,.c (.int 0),.e 29]⟩,
 ⟨35,.ite .b,[.e 24,.c (.bool false),.e 30]⟩,
 ⟨36,.ite .i,[.e 24,.c (.int 3),.c (.int 0)]⟩,
 ⟨37,.or,[.e 24,.e 25]⟩,
 ⟨38,.ite .i,[.e 17,.c (.int 0),.e 31]⟩,
 ⟨39,.ite .i,[.e 17,.c (.int 0),.e 32]⟩,
 ⟨40,.ite .i,[.e 17,.c (.int 0),.e 33]⟩,
 ⟨41,.ite .i,[.e 17,.c (.int 0),.e 34]⟩,
 ⟨42,.ite .b,[.e 17,.c (.bool false),.e 35]⟩,
 ⟨43,.ite .i,[.e 17,.e 16,.e 36]⟩,
 ⟨44,.or,[.e 17,.e 37]⟩,
 ⟨45,.ne,[.e 43,.c (.int 0)]⟩,
 ⟨46,.not,[.e 45]⟩,
 ⟨47,.outI "tcheck.0" FM,[.e 13,.e 14]⟩]
def Wm:List En:=[⟨48,.ne,[.e 47,.c (.int 0)]⟩,
 ⟨49,.and,[.e 46,.e 48]⟩,
 ⟨50,.and,[.e 46,.n 48]⟩,
 ⟨51,.le,[.c (.int 1),.e 15]⟩,
 ⟨52,.and,[.e 50,.e 51]⟩,
 ⟨53,.le,[.e 15,.c (.int 16384)]⟩,
 ⟨54,.and,[.e 51,.e 53]⟩,
 ⟨55,.and,[.e 50,.e 54]⟩,
 ⟨56,.and,[.e 50,.n 54]⟩,
 ⟨57,.ite .i,[.e 48,.c (.int 2),.c (.int 3)]⟩,
 ⟨58,.or,[.e 49,.e 56]⟩,
 ⟨59,.ite .i,[.e 45,.e 43,.e 57]⟩,
 ⟨60,.or,[.e 45,.e 58]⟩,
 ⟨61,.w2 .i64 .sub,[.e 13,.e 38]⟩,
 ⟨62,.w2 .i64 .sub,[.e 14,.e 39]⟩,
 ⟨63,.and,[.e 55,.e 42]⟩]
def Vy:List En:=[⟨64,.and,[.e 55,.n 42]⟩,
 ⟨65,.ite .i,[.e 42,.e 62,.e 61]⟩,
 ⟨66,.ite .i,[.e 42,.e 61,.e 62]⟩,
 ⟨67,.and,[.e 55,.e 12]⟩,
 ⟨68,.and,[.e 55,.n 12]⟩,
 ⟨69,.wneg .i64,[.e 66]⟩,
 ⟨70,.ite .i,[.e 12,.e 66,.e 69]⟩,
 ⟨71,.wneg .i64,[.e 65]⟩,
 ⟨72,.o2 .max,[.e 65,.e 71]⟩,
 ⟨73,.o2 .tdiv,[.e 40,.c (.int 2)]⟩,
 ⟨74,.le,[.e 73,.e 72]⟩,
 ⟨75,.and,[.e 55,.e 74]⟩,
 ⟨76,.and,[.e 55,.n 74]⟩,
 ⟨77,.w2 .i64 .sub,[.e 70,.e 15]⟩,
 ⟨78,.wneg .i64,[.e 41]⟩,
 ⟨79,.le,[.e 78,.e 77]⟩]
def Vs:List En:=[⟨80,.and,[.e 76,.e 79]⟩,
 ⟨81,.and,[.e 76,.n 79]⟩,
 ⟨82,.w2 .i64 .add,[.e 70,.e 15]⟩,
 ⟨83,.lt,[.e 41,.e 82]⟩,
 ⟨84,.and,[.e 81,.e 83]⟩,
 ⟨85,.and,[.e 81,.n 83]⟩,
 ⟨86,.w2 .i64 .add,[.e 70,.e 15]⟩,
 ⟨87,.wneg .i64,[.e 41]⟩,
 ⟨88,.lt,[.e 87,.e 86]⟩,
 ⟨89,.and,[.e 85,.e 88]⟩,
 ⟨90,.and,[.e 85,.n 88]⟩,
 ⟨91,.ite .i,[.e 83,.c (.int 2),.c (.int 1)]⟩,
 ⟨92,.or,[.e 84,.e 89]⟩,
 ⟨93,.ite .i,[.e 79,.c (.int 3),.e 91]⟩,
 ⟨94,.or,[.e 80,.e 92]⟩,
 ⟨95,.ite .i,[.e 74,.c (.int 0),.e 93]⟩]
def Vb:List En:=[⟨96,.or,[.e 75,.e 94]⟩,
 ⟨97,.ite .i,[.e 96,.e 95,.c (.int 0)]⟩,
 ⟨98,.or,[.e 96,.e 90]⟩,
 ⟨99,.ite .i,[.e 60,.e 59,.c (.int 0)]⟩,
 ⟨100,.ite .i,[.e 60,.c (.int 0),.e 97]⟩,
 ⟨101,.or,[.e 60,.e 98]⟩]
def SJ:List En:=Wn++(WY++(Wm++(Vy++(Vs++(Vb)))))
def fP:List ObE:=[⟨some 25,.inl,[.e 11,.e 4]⟩]
def XV:List Rf:=[.e 100,.e 99]
theorem iO:LH.sees XV (LH.run Try.prog [(86,FI),(76,EA)] Ag 3000 20 19)=some ((SJ).map En.be,fP.map ObE.be,[]):=by kernel_rfl
theorem gy {T:Tab}(hz0:(S T 0).size≤140737488355328)(hl4:(L T 4).length≤140737488355328)(hl10:(L T 10).length≤140737488355328)(g:Ln)(hg:g=Ln.mk (S T 0) (I T 1) (I T 2) (I T 3) (L T 4) (I T 5) (I T 6) (I T 7) (I T 8) (I T 9) (L T 10))(g1:Ln)(z1:g1=Ln.mk (S T 0) (I T 1) (I T 2) (I T 3) (L T 4) (I T 5) (I T 6) (I T 7) (I T 8) (I T 9) (L T 10))(A0:AI T SJ):
  ((I T 100)=(JH g (I T 11) (B T 12) (I T 13) (I T 14) (I T 15)))∧
  ((I T 99)=(Gr g (I T 11) (I T 13) (I T 14) (I T 15)))∧
  (B T 25=true→0≤I T 11∧I T 11 < ((L T 4)).length):=by
 obtain⟨F0,A0⟩:=A0.cut
 obtain⟨F1,A0⟩:=A0.cut
 obtain⟨F2,A0⟩:=A0.cut
 obtain⟨F3,A0⟩:=A0.cut
 obtain⟨F4,A0⟩:=A0.cut
 have F5:=A0;clear A0
 have hgg:g1=g:=by
  rw[z1,hg]
 have hh:(g).hoops=((L T 4)):=by
  rw[hg]
 have hc:(I T 16)=AO g:=by
  obtain⟨e16,-⟩:=F0
  replace e16:I T 16=(AO g1):=by rw[←show gAt 0 (Da.map (Rf.eval T))=g1 from z1.symm];exact e16
  rw[e16,hgg]
 have hE:(I T 99)=Gr g (I T 11) (I T 13) (I T 14) (I T 15):=by
  obtain⟨e16,e17,e18,e19,-,e21,e22,e23,e24,-⟩:=F0
  obtain⟨-,-,-,-,e36,-,-,-,-,-,-,e43,-,e45,e46,e47,-⟩:=F1
  obtain⟨e48,e49,e50,e51,-,e53,e54,-,e56,e57,e58,e59,e60,-⟩:=F2
  obtain⟨-,-,-,e99,-⟩:=F5
  replace e16:I T 16=(AO g1):=by rw[←show gAt 0 (Da.map (Rf.eval T))=g1 from z1.symm];exact e16
  replace e47:I T 47=(if AF (I T 13) (I T 14)=true then 0 else 2):=e47
  simp only[AE,AG,zN,zR,zL] at*
  unfold Gr
  rw[hh,←hc]
  have hr:=Bp (r:=I T 15)
  have e47:(I T 47)=if AF (I T 13) (I T 14)=true then 0 else 2:=e47
  clear hh hgg hg hc e16
  grind (splits:=60)
 have hs:(I T 99)=0→B T 17=false∧B T 24=false∧B T 25=true∧B T 42=B T 30∧I T 43=0∧B T 60=false∧B T 55=true∧AF (I T 13) (I T 14)=true∧(1≤I T 15∧I T 15≤16384):=by
  obtain⟨e16,e17,e18,e19,-,e21,e22,e23,e24,e25,-,-,-,-,e30,-⟩:=F0
  obtain⟨-,-,-,e35,e36,-,-,-,-,-,e42,e43,-,e45,e46,e47,-⟩:=F1
  obtain⟨e48,e49,e50,e51,-,e53,e54,e55,e56,e57,e58,e59,e60,-⟩:=F2
  obtain⟨-,-,-,e99,-⟩:=F5
  replace e16:I T 16=(AO g1):=by rw[←show gAt 0 (Da.map (Rf.eval T))=g1 from z1.symm];exact e16
  replace e47:I T 47=(if AF (I T 13) (I T 14)=true then 0 else 2):=e47
  simp only[AE,AG,zN,zC,zR,zL] at*
  intro h
  have e47:(I T 47)=if AF (I T 13) (I T 14)=true then 0 else 2:=e47
  have h42:(B T 17)=false→B T 24=false→B T 42=B T 30:=fun h1 h2=>by
   refine Bool.eq_iff_iff.2 ?_
   clear hE hh hgg hg hc
   grind
  clear hh hgg hg hc e16 hE
  grind (splits:=60)
 have hv:(I T 99)=0→I T 100=Pb (AA ((L T 4)) (I T 11).toNat 0) (AA ((L T 4)) (I T 11).toNat 1) (AA ((L T 4)) (I T 11).toNat 2) (AA ((L T 4)) (I T 11).toNat 3) (Ll ((L T 4)) (I T 11).toNat 4) (B T 12) (I T 13) (I T 14) (I T 15):=by
  obtain⟨e16,e17,e18,e19,-,e21,e22,e23,e24,e25,e26,e27,e28,e29,e30,e31,-⟩:=F0
  obtain⟨e32,e33,e34,e35,e36,-,e38,e39,e40,e41,e42,e43,-,e45,e46,e47,-⟩:=F1
  obtain⟨e48,e49,e50,e51,-,e53,e54,e55,e56,e57,e58,e59,e60,e61,e62,-⟩:=F2
  obtain⟨-,e65,e66,-,-,e69,e70,e71,e72,e73,e74,e75,e76,e77,e78,e79,-⟩:=F3
  obtain⟨e80,e81,e82,e83,e84,e85,e86,e87,e88,e89,-,e91,e92,e93,e94,e95,-⟩:=F4
  obtain⟨e96,e97,-,e99,e100,-⟩:=F5
  replace e16:I T 16=(AO g1):=by rw[←show gAt 0 (Da.map (Rf.eval T))=g1 from z1.symm];exact e16
  replace e47:I T 47=(if AF (I T 13) (I T 14)=true then 0 else 2):=e47
  simp only[AE,AG,zN,zC,zR,AS,w2P,wnP,zL] at*
  intro h0
  obtain⟨t17,t24,t25,t42,t43,t60,t55,t1,t2⟩:=hs h0
  have hr:0≤I T 11∧I T 11 < ((L T 4)).length:=by
   have:=(e25.1 t25).2
   clear hh hgg hg hc hE hs
   grind
  have hz:AO g=0:=by
   rw[←hc]
   cases Classical.em ((I T 16)=0) with
   |inl h=>exact h
   |inr h=>have:=e17.2 h;simp[t17] at this
  have hb:=aO hz hr.1 (by rw[hh];exact hr.2)
  rw[hh] at hb
  obtain⟨w1,w2,w3,w4⟩:=hb
  obtain⟨⟨p1,p2⟩,p3,p4⟩:=Af.1 t1
  have n17:¬B T 17=true:=by simp[t17]
  have n24:¬B T 24=true:=by simp[t24]
  have q38:(I T 38)=AA ((L T 4)) (I T 11).toNat 0:=by rw[e38,if_neg n17,e31,if_neg n24,e26]
  have q39:(I T 39)=AA ((L T 4)) (I T 11).toNat 1:=by rw[e39,if_neg n17,e32,if_neg n24,e27]
  have q40:(I T 40)=AA ((L T 4)) (I T 11).toNat 2:=by rw[e40,if_neg n17,e33,if_neg n24,e28]
  have q41:(I T 41)=AA ((L T 4)) (I T 11).toNat 3:=by rw[e41,if_neg n17,e34,if_neg n24,e29]
  have q42:(B T 42)=Ll ((L T 4)) (I T 11).toNat 4:=by rw[t42,e30]
  rw[←q38,←q39,←q40,←q41,←q42]
  rw[←q38] at w1
  rw[←q39] at w2
  rw[←q40] at w3
  rw[←q41] at w4
  have x61:=e61 (by omega) (by omega)
  have x62:=e62 (by omega) (by omega)
  have k65: -8388608≤I T 65∧I T 65≤8388608:=by rw[e65];split<;>omega
  have k66: -8388608≤I T 66∧I T 66≤8388608:=by rw[e66];split<;>omega
  have x69:=e69.1 (by omega) (by omega)
  have x71:=e71.1 (by omega) (by omega)
  have k70: -8388608≤I T 70∧I T 70≤8388608:=by rw[e70];split<;>omega
  have x77:=e77 (by omega) (by omega)
  have x82:=e82 (by omega) (by omega)
  have x86:=e86 (by omega) (by omega)
  have x78:=e78.1 (by omega) (by omega)
  have x87:=e87.1 (by omega) (by omega)
  have x73:(I T 73)=(I T 40) / 2:=by rw[e73,if_pos (by omega)]
  rw[eT (v:=I T 65) (w:=I T 66) (u:=I T 70) (m:=I T 72) (by rw[e65,x61,x62]) (by rw[e66,x61,x62]) (by rw[e70,x69]) (by rw[e72,x71])]
  rw[←x73]
  clear hh hgg hg hc hE hs w1 w2 w3 w4 p1 p2 p3 p4 e38 e39 e40 e41 e42 q38 q39 q40 q41 q42 e61 e62 e65 e66 e69 e70 e71 e72 e73 x61 x62 x69 x71 e77 e82 e86 e78 e87 k65 k66 k70 t42 x73
  grind (splits:=60)
 have hV:(I T 100)=JH g (I T 11) (B T 12) (I T 13) (I T 14) (I T 15):=by
  obtain⟨e16,e17,e18,e19,-,e21,e22,e23,e24,-,e26,e27,e28,e29,e30,e31,-⟩:=F0
  obtain⟨e32,e33,e34,e35,e36,-,e38,e39,e40,e41,e42,e43,-,e45,e46,e47,-⟩:=F1
  obtain⟨e48,e49,e50,e51,-,e53,e54,e55,e56,e57,e58,e59,e60,e61,e62,-⟩:=F2
  obtain⟨-,e65,e66,-,-,e69,e70,e71,e72,e73,e74,e75,e76,e77,e78,e79,-⟩:=F3
  obtain⟨e80,e81,e82,e83,e84,e85,e86,e87,e88,e89,-,e91,e92,e93,e94,e95,-⟩:=F4
  obtain⟨e96,e97,-,e99,e100,-⟩:=F5
  replace e16:I T 16=(AO g1):=by rw[←show gAt 0 (Da.map (Rf.eval T))=g1 from z1.symm];exact e16
  replace e47:I T 47=(if AF (I T 13) (I T 14)=true then 0 else 2):=e47
  simp only[AE,AG,zN,zC,zR,AS,w2P,wnP,zL] at*
  unfold JH
  rw[←hE,hh]
  by_cases h:(I T 99)=0
  ·rw[if_pos h];exact hv h
  ·rw[if_neg h,e100]
   cases k:(B T 60) with
   |true=>rfl
   |false=>rw[k,if_neg (by simp)] at e99;exact absurd e99 h
 refine⟨?_,?_,?_⟩
 ·obtain⟨e16,e17,e18,e19,-,e21,e22,e23,e24,-,e26,e27,e28,e29,e30,e31,-⟩:=F0
  obtain⟨e32,e33,e34,e35,e36,-,e38,e39,e40,e41,e42,e43,-,e45,e46,e47,-⟩:=F1
  obtain⟨e48,e49,e50,e51,-,e53,e54,e55,e56,-,e58,-,e60,e61,e62,-⟩:=F2
  obtain⟨-,e65,e66,-,-,e69,e70,e71,e72,e73,e74,e75,e76,e77,e78,e79,-⟩:=F3
  obtain⟨e80,e81,e82,e83,e84,e85,e86,e87,e88,e89,-,e91,e92,e93,e94,e95,-⟩:=F4
  obtain⟨e96,e97,-,-,e100,-⟩:=F5
  replace e16:I T 16=(AO g1):=by rw[←show gAt 0 (Da.map (Rf.eval T))=g1 from z1.symm];exact e16
  replace e47:I T 47=(if AF (I T 13) (I T 14)=true then 0 else 2):=e47
  simp only[AE,AG,zN,zC,zR,AS,w2P,wnP,zL] at*
  exact hV
 ·obtain⟨e16,e17,e18,e19,-,e21,e22,e23,e24,-⟩:=F0
  obtain⟨-,-,-,-,e36,-,-,-,-,-,-,e43,-,e45,e46,e47,-⟩:=F1
  obtain⟨e48,e49,e50,e51,-,e53,e54,-,e56,e57,e58,e59,e60,-⟩:=F2
  obtain⟨-,-,-,e99,-⟩:=F5
  replace e16:I T 16=(AO g1):=by rw[←show gAt 0 (Da.map (Rf.eval T))=g1 from z1.symm];exact e16
  replace e47:I T 47=(if AF (I T 13) (I T 14)=true then 0 else 2):=e47
  simp only[AE,AG,zN,zR,zL] at*
  exact hE
 ·obtain⟨e16,e17,e18,e19,-,e21,e22,e23,-,e25,-⟩:=F0
  replace e16:I T 16=(AO g1):=by rw[←show gAt 0 (Da.map (Rf.eval T))=g1 from z1.symm];exact e16
  simp only[AE,AG,zN,zR,zL] at*
  intro hp
  have h:=(e25.1 hp).2
  clear hE hh hgg hs hv hV hc
  grind
theorem ef:Ao Try.prog 19 LH:=by
 refine AZ (l:=[(86,FI),(76,EA)]) BH (by simp only[List.forall_mem_cons];exact⟨VF,Nj,fun _ h=>absurd h (by simp)⟩) iO (by kernel_rfl) fun T us hpre hT hul hS hBd hE=>?_
 change us.length=16 at hul
 obtain⟨hz0,-,-,-,⟨hl4,he4⟩,-,-,-,-,-,⟨hl10,he10⟩,-⟩:=hBd
 replace hz0:(S T 0).size≤140737488355328:=hz0
 replace hl4:(L T 4).length≤140737488355328:=hl4
 replace hl10:(L T 10).length≤140737488355328:=hl10
 obtain⟨g,hg⟩:∃g:Ln,g=Ln.mk (S T 0) (I T 1) (I T 2) (I T 3) (L T 4) (I T 5) (I T 6) (I T 7) (I T 8) (I T 9) (L T 10):=⟨_,rfl⟩
 have hgu:gAt 0 us=g:=by rw[hg];exact Cu hT hul (by decide)
 have ha11:aI us 11=I T 11:=inI hT hul (by decide)
 have ha12:aB us 12=B T 12:=inB hT hul (by decide)
 have ha13:aI us 13=I T 13:=inI hT hul (by decide)
 have ha14:aI us 14=I T 14:=inI hT hul (by decide)
 have ha15:aI us 15=I T 15:=inI hT hul (by decide)
 clear hpre
 skip
 obtain⟨A0,hO⟩:=Ap (tys:=[.i,.i]) (rs:=XV) hS (by kernel_rfl) hE
 obtain⟨g1,z1⟩:∃g:Ln,g=Ln.mk (S T 0) (I T 1) (I T 2) (I T 3) (L T 4) (I T 5) (I T 6) (I T 7) (I T 8) (I T 9) (L T 10):=⟨_,rfl⟩
 obtain⟨q0,q1,r0⟩:=gy hz0 hl4 hl10 g hg g1 z1 A0
 refine⟨⟨r0,trivial⟩,hO.trans ?_⟩
 exact (lc (by show U.int (I T 100)= .int (J5 us);unfold J5;rw[hgu,ha11,ha12,ha13,ha14,ha15];exact congrArg U.int q0) (lc (by show U.int (I T 99)= .int (KF us);unfold KF;rw[hgu,ha11,ha13,ha14,ha15];exact congrArg U.int q1) rfl))
end Go.Eng
end
