/-
  A part of the proof: K_liesd K_lies.
-/
import Derived.Test.YtmlmcidljiibaaaE4
import Derived.Test.YtmlmcidljiibaaaE5
import Derived.Test.YtmlmcidljiibaaaKmul64
import Derived.Test.YtmlmcidljiibaaaKcmpor
set_option linter.unusedVariables false
set_option linter.unusedSimpArgs false
noncomputable section
open Go Go.Eng Go.Proofs
set_option maxHeartbeats 4000000
set_option maxRecDepth 100000
namespace Go.Eng
def MD:List U→Int:=fun us=>(Hi (aI us 0) (aI us 1) (aI us 2) (aI us 3) (aI us 4) (aI us 5) (aI us 6))
def JM:List U→Prop:=fun us=>AF (aI us 0) (aI us 1)=true
def JK:List U→Prop:=fun us=>AF (aI us 2) (aI us 3)=true
def JP:List U→Prop:=fun us=>AF (aI us 4) (aI us 5)=true
def JE:List U→Prop:=fun us=>0≤(aI us 6)∧(aI us 6)≤8388608
def HA:Ak:={ sh:=[.agg [k64,k64],.agg [k64,k64],.agg [k64,k64],.one (k64)],blks:=[],outs:=[(.s "lies.0",Bi MD)],c:=(CP 7),m':=[],pre:=[(.s "lies.p0",JM),(.s "lies.p1",JK),(.s "lies.p2",JP),(.s "lies.p3",JE)] }
def Yc:List En:=[⟨7,.w2 .i64 .sub,[.e 2,.e 0]⟩,
 ⟨8,.w2 .i64 .sub,[.e 4,.e 0]⟩,
 ⟨9,.w2 .i64 .mul,[.e 7,.e 8]⟩,
 ⟨10,.w2 .i64 .sub,[.e 3,.e 1]⟩,
 ⟨11,.w2 .i64 .sub,[.e 5,.e 1]⟩,
 ⟨12,.w2 .i64 .mul,[.e 10,.e 11]⟩,
 ⟨13,.w2 .i64 .add,[.e 9,.e 12]⟩,
 ⟨14,.w2 .i64 .sub,[.e 2,.e 0]⟩,
 ⟨15,.w2 .i64 .sub,[.e 3,.e 1]⟩,
 ⟨16,.w2 .i64 .mul,[.e 14,.e 14]⟩,
 ⟨17,.w2 .i64 .mul,[.e 15,.e 15]⟩,
 ⟨18,.w2 .i64 .add,[.e 16,.e 17]⟩,
 ⟨19,.le,[.e 13,.c (.int 0)]⟩,
 ⟨20,.not,[.e 19]⟩,
 ⟨21,.le,[.e 18,.e 13]⟩,
 ⟨22,.or,[.e 19,.e 21]⟩]
def Yl:List En:=[⟨23,.w2 .i64 .sub,[.e 4,.e 0]⟩,
 ⟨24,.w2 .i64 .sub,[.e 5,.e 1]⟩,
 ⟨25,.w2 .i64 .mul,[.e 23,.e 23]⟩,
 ⟨26,.w2 .i64 .mul,[.e 24,.e 24]⟩,
 ⟨27,.w2 .i64 .add,[.e 25,.e 26]⟩,
 ⟨28,.w2 .i64 .sub,[.e 4,.e 2]⟩,
 ⟨29,.w2 .i64 .sub,[.e 5,.e 3]⟩,
 ⟨30,.w2 .i64 .mul,[.e 28,.e 28]⟩,
 ⟨31,.w2 .i64 .mul,[.e 29,.e 29]⟩,
 ⟨32,.w2 .i64 .add,[.e 30,.e 31]⟩,
 ⟨33,.o2 .min,[.e 27,.e 32]⟩,
 ⟨34,.w2 .i64 .mul,[.e 6,.e 6]⟩,
 ⟨35,.lt,[.e 33,.e 34]⟩,
 ⟨36,.and,[.e 22,.e 35]⟩,
 ⟨37,.and,[.e 22,.n 35]⟩,
 ⟨38,.lt,[.e 34,.e 33]⟩]
def ZQ:List En:=[⟨39,.and,[.e 37,.e 38]⟩,
 ⟨40,.and,[.e 37,.n 38]⟩,
 ⟨41,.ite .i,[.e 39,.c (.int 1),.c (.int 0)]⟩,
 ⟨42,.or,[.e 39,.e 40]⟩,
 ⟨43,.ite .i,[.e 36,.c (.int (-1)),.e 41]⟩,
 ⟨44,.or,[.e 36,.e 42]⟩,
 ⟨45,.not,[.e 22]⟩,
 ⟨46,.w2 .i64 .sub,[.e 2,.e 0]⟩,
 ⟨47,.w2 .i64 .sub,[.e 5,.e 1]⟩,
 ⟨48,.w2 .i64 .mul,[.e 46,.e 47]⟩,
 ⟨49,.w2 .i64 .sub,[.e 4,.e 0]⟩,
 ⟨50,.w2 .i64 .sub,[.e 3,.e 1]⟩,
 ⟨51,.w2 .i64 .mul,[.e 49,.e 50]⟩,
 ⟨52,.w2 .i64 .sub,[.e 48,.e 51]⟩,
 ⟨53,.wneg .i64,[.e 52]⟩,
 ⟨54,.o2 .max,[.e 52,.e 53]⟩]
def YN:List En:=[⟨55,.w1 .u64,[.e 54]⟩,
 ⟨56,.w1 .u64,[.e 54]⟩,
 ⟨57,.outI "mul64.0" H8,[.e 55,.e 56]⟩,
 ⟨58,.outI "mul64.1" Hu,[.e 55,.e 56]⟩,
 ⟨59,.w2 .i64 .mul,[.e 6,.e 6]⟩,
 ⟨60,.w1 .u64,[.e 59]⟩,
 ⟨61,.w1 .u64,[.e 18]⟩,
 ⟨62,.outI "mul64.0" H8,[.e 60,.e 61]⟩,
 ⟨63,.outI "mul64.1" Hu,[.e 60,.e 61]⟩,
 ⟨64,.eqs [.i,.i],[.e 57,.e 62,.e 58,.e 63]⟩,
 ⟨65,.and,[.e 45,.e 64]⟩,
 ⟨66,.and,[.e 45,.n 64]⟩,
 ⟨67,.lt,[.e 57,.e 62]⟩,
 ⟨68,.and,[.e 66,.e 67]⟩,
 ⟨69,.and,[.e 66,.n 67]⟩,
 ⟨70,.lt,[.e 62,.e 57]⟩]
def ZM:List En:=[⟨71,.and,[.e 69,.e 70]⟩,
 ⟨72,.and,[.e 69,.n 70]⟩,
 ⟨73,.ite .i,[.e 71,.c (.int 1),.c (.int 0)]⟩,
 ⟨74,.or,[.e 71,.e 72]⟩,
 ⟨75,.ite .i,[.e 68,.c (.int (-1)),.e 73]⟩,
 ⟨76,.or,[.e 68,.e 74]⟩,
 ⟨77,.lt,[.e 58,.e 63]⟩,
 ⟨78,.and,[.e 66,.e 77]⟩,
 ⟨79,.and,[.e 66,.n 77]⟩,
 ⟨80,.lt,[.e 63,.e 58]⟩,
 ⟨81,.and,[.e 79,.e 80]⟩,
 ⟨82,.and,[.e 79,.n 80]⟩,
 ⟨83,.ite .i,[.e 81,.c (.int 1),.c (.int 0)]⟩,
 ⟨84,.or,[.e 81,.e 82]⟩,
 ⟨85,.ite .i,[.e 78,.c (.int (-1)),.e 83]⟩,
 ⟨86,.or,[.e 78,.e 84]⟩]
def Zd:List En:=[⟨87,.row 2 1 [.i,.i],[.e 75,.e 85]⟩,
 ⟨88,.outI "cmpor.0" Jm,[.e 87]⟩,
 ⟨89,.ite .l,[.e 65,.c (.list []),.e 87]⟩,
 ⟨90,.ite .i,[.e 65,.c (.int 0),.e 88]⟩,
 ⟨91,.or,[.e 65,.e 66]⟩,
 ⟨92,.ite .l,[.e 22,.c (.list []),.e 89]⟩,
 ⟨93,.ite .i,[.e 22,.e 43,.e 90]⟩,
 ⟨94,.or,[.e 22,.e 45]⟩]
def Tb:List En:=Yc++(Yl++(ZQ++(YN++(ZM++(Zd)))))
def iu:List ObE:=[]
def Zx:List Rf:=[.e 93]
theorem jK:HA.sees Zx (HA.run Try.prog [(120,LI),(121,Iv)] Ag 3000 20 95)=some ((Tb).map En.be,iu.map ObE.be,[]):=by kernel_rfl
theorem jA {T:Tab}(pre0:AF (I T 0) (I T 1)=true)(pre1:AF (I T 2) (I T 3)=true)(pre2:AF (I T 4) (I T 5)=true)(pre3:0≤I T 6∧I T 6≤8388608)(A0:AI T Tb):
  ((I T 93)=(Hi (I T 0) (I T 1) (I T 2) (I T 3) (I T 4) (I T 5) (I T 6))):=by
 obtain⟨F0,A0⟩:=A0.cut
 obtain⟨F1,A0⟩:=A0.cut
 obtain⟨F2,A0⟩:=A0.cut
 obtain⟨F3,A0⟩:=A0.cut
 obtain⟨F4,A0⟩:=A0.cut
 have F5:=A0;clear A0
 ·obtain⟨e7,e8,e9,e10,e11,e12,e13,e14,e15,e16,e17,e18,e19,-,e21,e22,-⟩:=F0
  obtain⟨e23,e24,e25,e26,e27,e28,e29,e30,e31,e32,e33,e34,e35,e36,e37,e38,-⟩:=F1
  obtain⟨e39,-,e41,-,e43,-,e45,e46,e47,e48,e49,e50,e51,e52,e53,e54,-⟩:=F2
  obtain⟨e55,e56,e57,e58,e59,e60,e61,e62,e63,e64,e65,e66,e67,e68,e69,e70,-⟩:=F3
  obtain⟨e71,-,e73,-,e75,-,e77,e78,e79,e80,e81,-,e83,-,e85,-⟩:=F4
  obtain⟨e87,e88,-,e90,-,-,e93,-⟩:=F5
  replace e57:I T 57=((I T 55)*(I T 56) / 18446744073709551616):=e57
  replace e58:I T 58=((I T 55)*(I T 56) % 18446744073709551616):=e58
  replace e62:I T 62=((I T 60)*(I T 61) / 18446744073709551616):=e62
  replace e63:I T 63=((I T 60)*(I T 61) % 18446744073709551616):=e63
  replace e88:I T 88=(orS (L T 87)):=e88
  simp only[AE,AG,zN,zR,Bd,and_true,AS,w2P,wnP,zL,zS,uR,AY,zW] at*
  rw[Af] at pre0 pre1 pre2
  have d7:=e7 (by omega) (by omega)
  have d8:=e8 (by omega) (by omega)
  have d10:=e10 (by omega) (by omega)
  have d11:=e11 (by omega) (by omega)
  have d14:=e14 (by omega) (by omega)
  have d15:=e15 (by omega) (by omega)
  have d23:=e23 (by omega) (by omega)
  have d24:=e24 (by omega) (by omega)
  have d28:=e28 (by omega) (by omega)
  have d29:=e29 (by omega) (by omega)
  have d46:=e46 (by omega) (by omega)
  have d47:=e47 (by omega) (by omega)
  have d49:=e49 (by omega) (by omega)
  have d50:=e50 (by omega) (by omega)
  have m9:=Cp (a:=I T 7) (b:=I T 8) (A:=8388608) (B:=8388608) (by omega) (by omega)
  have d9:=e9 (by omega) (by omega)
  have m12:=Cp (a:=I T 10) (b:=I T 11) (A:=8388608) (B:=8388608) (by omega) (by omega)
  have d12:=e12 (by omega) (by omega)
  have d13:=e13 (by omega) (by omega)
  have p16:=sqB (a:=I T 14) (A:=8388608) (by omega)
  have d16:=e16 (by omega) (by omega)
  have p17:=sqB (a:=I T 15) (A:=8388608) (by omega)
  have d17:=e17 (by omega) (by omega)
  have d18:=e18 (by omega) (by omega)
  have p25:=sqB (a:=I T 23) (A:=8388608) (by omega)
  have d25:=e25 (by omega) (by omega)
  have p26:=sqB (a:=I T 24) (A:=8388608) (by omega)
  have d26:=e26 (by omega) (by omega)
  have d27:=e27 (by omega) (by omega)
  have p30:=sqB (a:=I T 28) (A:=8388608) (by omega)
  have d30:=e30 (by omega) (by omega)
  have p31:=sqB (a:=I T 29) (A:=8388608) (by omega)
  have d31:=e31 (by omega) (by omega)
  have d32:=e32 (by omega) (by omega)
  have p34:=sqB (a:=I T 6) (A:=8388608) (by omega)
  have d34:=e34 (by omega) (by omega)
  have d59:=e59 (by omega) (by omega)
  have m48:=Cp (a:=I T 46) (b:=I T 47) (A:=8388608) (B:=8388608) (by omega) (by omega)
  have d48:=e48 (by omega) (by omega)
  have m51:=Cp (a:=I T 49) (b:=I T 50) (A:=8388608) (B:=8388608) (by omega) (by omega)
  have d51:=e51 (by omega) (by omega)
  have d52:=e52 (by omega) (by omega)
  have d53:=e53.1 (by omega) (by omega)
  have a54:=iY (m:=I T 52) (n:=I T 54) (by rw[e54,d53])
  have u54:0≤I T 54∧I T 54≤140737488355328:=by rw[e54,d53];split<;>omega
  rw[fA] at e55 e56 e60 e61
  have d55:(I T 55)=I T 54:=by omega
  have d56:(I T 56)=I T 54:=by omega
  have d60:(I T 60)=I T 34:=by omega
  have d61:(I T 61)=I T 18:=by omega
  have hX:(I T 55)*I T 56=I T 52*I T 52:=by rw[d55,d56,a54]
  have hY:(I T 60)*I T 61=I T 34*I T 18:=by rw[d60,d61]
  have hW:=eB ((I T 52)*I T 52) ((I T 34)*I T 18)
  rw[hX] at e57 e58
  rw[hY] at e62 e63
  rw[←e57,←e58,←e62,←e63] at hW
  rw[Xj (dot:=I T 13) (long:=I T 18) (cross:=I T 52) (qa:=I T 27) (qb:=I T 32) (ss:=I T 34) (by rw[d13,d9,d12,d7,d8,d10,d11]) (by rw[d18,d16,d17,d14,d15]) (by rw[d52,d48,d51,d46,d47,d49,d50]) (by rw[d27,d25,d26,d23,d24]) (by rw[d32,d30,d31,d28,d29]) d34,←e33,←hW,e93]
  have h22:(B T 22)=true↔((I T 13)≤0∨I T 18≤I T 13):=e22.trans (or_congr e19 e21)
  cases k:(B T 22) with
  |true=>
   rw[k] at h22
   rw[if_pos rfl,if_pos (h22.1 rfl),e43,e41]
   unfold EY
   have z36:(B T 36)=true↔I T 33 < I T 34:=by rw[e36,k,e35];simp
   have z39:(B T 39)=true↔(¬I T 33 < I T 34∧I T 34 < I T 33):=by rw[e39,e37,e38,k,←e35];simp
   repeat' split
   all_goals first|rfl|(exfalso;grind)
  |false=>
   rw[k] at h22
   have z45:(B T 45)=true:=by rw[e45,k]
   rw[if_neg (by decide),if_neg (fun h=>absurd (h22.2 h) (by decide)),e90,e88,e87,or2]
   have z65:(B T 65)=true↔((I T 57)=I T 62∧I T 58=I T 63):=by rw[e65,z45,e64];simp
   have z66:(B T 66)=true↔¬((I T 57)=I T 62∧I T 58=I T 63):=by rw[e66,z45,←e64];simp
   by_cases c:(I T 57)=I T 62∧I T 58=I T 63
   ·rw[if_pos (z65.2 c),if_pos c]
   ·rw[if_neg (fun h=>c (z65.1 h)),if_neg c]
    have z66:=z66.2 c
    have e75:(I T 75)=EY (I T 57) (I T 62):=by
     rw[e75,e73]
     have z68:(B T 68)=true↔I T 57 < I T 62:=by rw[e68,z66,e67];simp
     have z71:(B T 71)=true↔(¬I T 57 < I T 62∧I T 62 < I T 57):=by rw[e71,e69,e70,z66,←e67];simp
     unfold EY
     repeat' split
     all_goals first|rfl|(exfalso;grind)
    have e85:(I T 85)=EY (I T 58) (I T 63):=by
     rw[e85,e83]
     have z78:(B T 78)=true↔I T 58 < I T 63:=by rw[e78,z66,e77];simp
     have z81:(B T 81)=true↔(¬I T 58 < I T 63∧I T 63 < I T 58):=by rw[e81,e79,e80,z66,←e77];simp
     unfold EY
     repeat' split
     all_goals first|rfl|(exfalso;grind)
    rw[e75,e85]
theorem gz:Ao Try.prog 95 HA:=by
 refine AZ (l:=[(120,LI),(121,Iv)]) BH (by simp only[List.forall_mem_cons];exact⟨eH,dC,fun _ h=>absurd h (by simp)⟩) jK (by kernel_rfl) fun T us hpre hT hul hS hBd hE=>?_
 change us.length=7 at hul
 clear hBd
 have ha0:aI us 0=I T 0:=inI hT hul (by decide)
 have ha1:aI us 1=I T 1:=inI hT hul (by decide)
 have ha2:aI us 2=I T 2:=inI hT hul (by decide)
 have ha3:aI us 3=I T 3:=inI hT hul (by decide)
 have ha4:aI us 4=I T 4:=inI hT hul (by decide)
 have ha5:aI us 5=I T 5:=inI hT hul (by decide)
 have ha6:aI us 6=I T 6:=inI hT hul (by decide)
 have pre0:AF (I T 0) (I T 1)=true:=by
  have h:=hpre (.s "lies.p0",JM) (by simp[HA])
  change JM us at h
  unfold JM at h
  simp only[ha0,ha1] at h
  exact h
 have pre1:AF (I T 2) (I T 3)=true:=by
  have h:=hpre (.s "lies.p1",JK) (by simp[HA])
  change JK us at h
  unfold JK at h
  simp only[ha2,ha3] at h
  exact h
 have pre2:AF (I T 4) (I T 5)=true:=by
  have h:=hpre (.s "lies.p2",JP) (by simp[HA])
  change JP us at h
  unfold JP at h
  simp only[ha4,ha5] at h
  exact h
 have pre3:0≤I T 6∧I T 6≤8388608:=by
  have h:=hpre (.s "lies.p3",JE) (by simp[HA])
  change JE us at h
  unfold JE at h
  simp only[ha6] at h
  exact h
 clear hpre
 skip
 obtain⟨A0,hO⟩:=Ap (tys:=[.i]) (rs:=Zx) hS (by kernel_rfl) hE
 have q0:=jA pre0 pre1 pre2 pre3 A0
 refine⟨trivial,hO.trans ?_⟩
 exact (lc (by show U.int (I T 93)= .int (MD us);unfold MD;rw[ha0,ha1,ha2,ha3,ha4,ha5,ha6];exact congrArg U.int q0) rfl)
end Go.Eng
end
