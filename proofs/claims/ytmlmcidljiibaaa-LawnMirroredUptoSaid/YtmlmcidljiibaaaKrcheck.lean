/-
  A part of the proof: K_rcheckd K_rcheck.
-/
import Derived.Test.YtmlmcidljiibaaaE4
import Derived.Test.YtmlmcidljiibaaaE5
import Derived.Test.YtmlmcidljiibaaaKnamed
import Derived.Test.YtmlmcidljiibaaaKrhoop
import Derived.Test.YtmlmcidljiibaaaKrcell
import Derived.Test.YtmlmcidljiibaaaKrposts
set_option linter.unusedVariables false
set_option linter.unusedSimpArgs false
noncomputable section
open Go Go.Eng Go.Proofs
set_option maxHeartbeats 4000000
set_option maxRecDepth 100000
namespace Go.Eng
def EB:List U→Int:=fun us=>(AO (gAt 0 us))
def Ci:Ak:={ sh:=[.agg [.str,k64,k64,k64,.list [k64,k64,k64,k64,.bool],k64,k64,k64,k64,k64,.list [k64,k64,k64]]],blks:=[],outs:=[(.s "rcheck.0",Bi EB)],c:=(CP 11),m':=[],pre:=[] }
def Cm:List Rf:=[.e 0,.e 1,.e 2,.e 3,.e 4,.e 5,.e 6,.e 7,.e 8,.e 9,.e 10]
def TZ:List En:=[⟨11,.len,[.e 4]⟩,
 ⟨12,.lt,[.e 11,.c (.int 1)]⟩,
 ⟨13,.not,[.e 12]⟩,
 ⟨14,.len,[.e 4]⟩,
 ⟨15,.lt,[.c (.int 12),.e 14]⟩,
 ⟨16,.or,[.e 12,.e 15]⟩,
 ⟨17,.not,[.e 16]⟩,
 ⟨18,.len,[.e 10]⟩,
 ⟨19,.lt,[.c (.int 256),.e 18]⟩,
 ⟨20,.or,[.e 16,.e 19]⟩,
 ⟨21,.not,[.e 20]⟩,
 ⟨22,.outB "named.0" Js,[.e 0]⟩,
 ⟨23,.and,[.e 21,.e 22]⟩,
 ⟨24,.le,[.c (.int 65536),.e 1]⟩,
 ⟨25,.and,[.e 23,.e 24]⟩,
 ⟨26,.le,[.e 1,.c (.int 4194304)]⟩]
def Th:List En:=[⟨27,.and,[.e 24,.e 26]⟩,
 ⟨28,.or,[.n 22,.n 27]⟩,
 ⟨29,.and,[.e 21,.n 28]⟩,
 ⟨30,.le,[.c (.int 65536),.e 2]⟩,
 ⟨31,.and,[.e 29,.e 30]⟩,
 ⟨32,.le,[.e 2,.c (.int 4194304)]⟩,
 ⟨33,.and,[.e 30,.e 32]⟩,
 ⟨34,.or,[.e 28,.n 33]⟩,
 ⟨35,.and,[.e 21,.n 34]⟩,
 ⟨36,.o2 .min,[.e 1,.e 2]⟩,
 ⟨37,.o2 .tdiv,[.e 36,.c (.int 4)]⟩,
 ⟨38,.le,[.c (.int 0),.e 3]⟩,
 ⟨39,.and,[.e 35,.e 38]⟩,
 ⟨40,.le,[.e 3,.e 37]⟩,
 ⟨41,.and,[.e 38,.e 40]⟩,
 ⟨42,.or,[.e 34,.n 41]⟩]
def VH:List En:=[⟨43,.and,[.e 21,.e 42]⟩,
 ⟨44,.and,[.e 21,.n 42]⟩]
def Cz:List En:=TZ++(Th++(VH))
def VL:List En:=[⟨46,.len,[.e 4]⟩,
 ⟨47,.lt,[.e 45,.e 46]⟩,
 ⟨48,.and,[.e 44,.e 47]⟩,
 ⟨49,.and,[.e 44,.n 47]⟩,
 ⟨50,.get .i 0,[.e 4,.e 45]⟩,
 ⟨51,.get .i 1,[.e 4,.e 45]⟩,
 ⟨52,.get .i 2,[.e 4,.e 45]⟩,
 ⟨53,.get .i 3,[.e 4,.e 45]⟩,
 ⟨54,.get .b 4,[.e 4,.e 45]⟩,
 ⟨55,.outB "rhoop.0" Ji,[.e 50,.e 51,.e 52,.e 53,.e 54]⟩,
 ⟨56,.and,[.e 48,.e 55]⟩,
 ⟨57,.and,[.e 48,.n 55]⟩,
 ⟨58,.w2 .i64 .add,[.e 45,.c (.int 1)]⟩]
def B5:List En:=VL
def Px:List ObE:=[⟨some 48,.inl,[.e 45,.e 4]⟩]
def Ib:Ae:=mkD 45 1 B5 56 [.e 58] Px [4,44]
def L1:List Rf:=[.e 4,.e 44,.c (.int 0)]
def Ul:List En:=[⟨59,.le,[.c (.int 1),.e 7]⟩,
 ⟨60,.and,[.e 49,.e 59]⟩,
 ⟨61,.le,[.e 7,.c (.int 8192)]⟩,
 ⟨62,.and,[.e 59,.e 61]⟩,
 ⟨63,.and,[.e 49,.e 62]⟩,
 ⟨64,.le,[.c (.int 0),.e 5]⟩,
 ⟨65,.and,[.e 63,.e 64]⟩,
 ⟨66,.le,[.e 5,.c (.int 4194304)]⟩,
 ⟨67,.and,[.e 64,.e 66]⟩,
 ⟨68,.or,[.n 62,.n 67]⟩,
 ⟨69,.and,[.e 49,.n 68]⟩,
 ⟨70,.le,[.c (.int 0),.e 6]⟩,
 ⟨71,.and,[.e 69,.e 70]⟩,
 ⟨72,.le,[.e 6,.c (.int 4194304)]⟩,
 ⟨73,.and,[.e 70,.e 72]⟩,
 ⟨74,.or,[.e 68,.n 73]⟩]
def UM:List En:=[⟨75,.and,[.e 49,.n 74]⟩,
 ⟨76,.lt,[.e 8,.c (.int 1)]⟩,
 ⟨77,.or,[.e 74,.e 76]⟩,
 ⟨78,.and,[.e 49,.n 77]⟩,
 ⟨79,.lt,[.c (.int 16),.e 8]⟩,
 ⟨80,.or,[.e 77,.e 79]⟩,
 ⟨81,.and,[.e 49,.n 80]⟩,
 ⟨82,.lt,[.e 9,.c (.int 1)]⟩,
 ⟨83,.or,[.e 80,.e 82]⟩,
 ⟨84,.and,[.e 49,.n 83]⟩,
 ⟨85,.lt,[.c (.int 16),.e 9]⟩,
 ⟨86,.or,[.e 83,.e 85]⟩,
 ⟨87,.and,[.e 49,.n 86]⟩,
 ⟨88,.len,[.e 10]⟩,
 ⟨89,.w2 .i64 .mul,[.e 8,.e 9]⟩,
 ⟨90,.ne,[.e 88,.e 89]⟩]
def Tp:List En:=[⟨91,.or,[.e 86,.e 90]⟩,
 ⟨92,.and,[.e 49,.e 91]⟩,
 ⟨93,.and,[.e 49,.n 91]⟩]
def DV:List En:=Ul++(UM++(Tp))
def Ue:List En:=[⟨95,.len,[.e 10]⟩,
 ⟨96,.lt,[.e 94,.e 95]⟩,
 ⟨97,.and,[.e 93,.e 96]⟩,
 ⟨98,.and,[.e 93,.n 96]⟩,
 ⟨99,.get .i 0,[.e 10,.e 94]⟩,
 ⟨100,.get .i 1,[.e 10,.e 94]⟩,
 ⟨101,.get .i 2,[.e 10,.e 94]⟩,
 ⟨102,.outB "rcell.0" KS,[.e 99,.e 100,.e 101]⟩,
 ⟨103,.and,[.e 97,.e 102]⟩,
 ⟨104,.and,[.e 97,.n 102]⟩,
 ⟨105,.w2 .i64 .add,[.e 94,.c (.int 1)]⟩]
def CE:List En:=Ue
def QR:List ObE:=[⟨some 97,.inl,[.e 94,.e 10]⟩]
def Ij:Ae:=mkD 94 1 CE 103 [.e 105] QR [10,93]
def L5:List Rf:=[.e 10,.e 93,.c (.int 0)]
def UC:List En:=[⟨106,.outL "rposts.0" Il,Cm⟩]
def EK:List En:=UC
def Q7:List En:=[⟨108,.len,[.e 106]⟩,
 ⟨109,.lt,[.e 107,.e 108]⟩,
 ⟨110,.and,[.e 98,.e 109]⟩,
 ⟨111,.and,[.e 98,.n 109]⟩,
 ⟨112,.get .i 0,[.e 106,.e 107]⟩,
 ⟨113,.get .i 2,[.e 106,.e 107]⟩,
 ⟨114,.get .i 2,[.e 106,.e 107]⟩,
 ⟨115,.w2 .i64 .sub,[.e 1,.e 114]⟩,
 ⟨116,.le,[.e 113,.e 112]⟩,
 ⟨117,.and,[.e 110,.e 116]⟩,
 ⟨118,.le,[.e 112,.e 115]⟩,
 ⟨119,.and,[.e 116,.e 118]⟩,
 ⟨120,.and,[.e 110,.e 119]⟩,
 ⟨121,.and,[.e 110,.e 119]⟩,
 ⟨122,.get .i 1,[.e 106,.e 107]⟩,
 ⟨123,.and,[.e 110,.e 119]⟩]
def RR:List En:=[⟨124,.and,[.e 110,.e 119]⟩,
 ⟨125,.get .i 2,[.e 106,.e 107]⟩,
 ⟨126,.and,[.e 110,.e 119]⟩,
 ⟨127,.and,[.e 110,.e 119]⟩,
 ⟨128,.and,[.e 110,.e 119]⟩,
 ⟨129,.get .i 2,[.e 106,.e 107]⟩,
 ⟨130,.w2 .i64 .sub,[.e 2,.e 129]⟩,
 ⟨131,.le,[.e 125,.e 122]⟩,
 ⟨132,.and,[.e 128,.e 131]⟩,
 ⟨133,.le,[.e 122,.e 130]⟩,
 ⟨134,.and,[.e 131,.e 133]⟩,
 ⟨135,.or,[.n 119,.n 134]⟩,
 ⟨136,.and,[.e 110,.e 135]⟩,
 ⟨137,.and,[.e 110,.n 135]⟩]
def Do:List En:=Q7++(RR)
def U7:List En:=[⟨139,.lt,[.e 138,.e 107]⟩,
 ⟨140,.and,[.e 137,.e 139]⟩,
 ⟨141,.and,[.e 137,.n 139]⟩,
 ⟨142,.get .i 0,[.e 106,.e 107]⟩,
 ⟨143,.get .i 1,[.e 106,.e 107]⟩,
 ⟨144,.get .i 0,[.e 106,.e 138]⟩,
 ⟨145,.get .i 1,[.e 106,.e 138]⟩,
 ⟨146,.w2 .i64 .sub,[.e 142,.e 144]⟩,
 ⟨147,.w2 .i64 .sub,[.e 142,.e 144]⟩,
 ⟨148,.w2 .i64 .mul,[.e 146,.e 147]⟩,
 ⟨149,.w2 .i64 .sub,[.e 143,.e 145]⟩,
 ⟨150,.w2 .i64 .sub,[.e 143,.e 145]⟩,
 ⟨151,.w2 .i64 .mul,[.e 149,.e 150]⟩,
 ⟨152,.w2 .i64 .add,[.e 148,.e 151]⟩,
 ⟨153,.get .i 2,[.e 106,.e 107]⟩,
 ⟨154,.get .i 2,[.e 106,.e 138]⟩]
def U8:List En:=[⟨155,.w2 .i64 .add,[.e 153,.e 154]⟩,
 ⟨156,.get .i 2,[.e 106,.e 107]⟩,
 ⟨157,.get .i 2,[.e 106,.e 138]⟩,
 ⟨158,.w2 .i64 .add,[.e 156,.e 157]⟩,
 ⟨159,.w2 .i64 .mul,[.e 155,.e 158]⟩,
 ⟨160,.lt,[.e 152,.e 159]⟩,
 ⟨161,.and,[.e 140,.e 160]⟩,
 ⟨162,.and,[.e 140,.n 160]⟩,
 ⟨163,.w2 .i64 .add,[.e 138,.c (.int 1)]⟩]
def C0:List En:=U7++(U8)
def Pk:List ObE:=[⟨some 140,.inl,[.e 138,.e 106]⟩,⟨some 140,.inl,[.e 107,.e 106]⟩,⟨some 140,.inl,[.e 138,.e 106]⟩,⟨some 140,.inl,[.e 107,.e 106]⟩,⟨some 140,.inl,[.e 138,.e 106]⟩,⟨some 140,.inl,[.e 107,.e 106]⟩]
def Gv:Ae:=mkD 138 1 C0 162 [.e 163] Pk [106,107,137]
def IZ:List Rf:=[.e 106,.e 107,.e 137,.c (.int 0)]
def Qy:List En:=[⟨164,.or,[.e 136,.e 161]⟩,
 ⟨165,.w2 .i64 .add,[.e 107,.c (.int 1)]⟩]
def Gl:List En:=Qy
def FG:List En:=Do++((Ax Gv [.i] IZ)++(C0++(Gl)))
def QX:List ObE:=[⟨some 137,.owes Gv,[.e 106,.e 107,.e 137,.c (.int 0)]⟩,⟨some 128,.inl,[.e 107,.e 106]⟩,⟨some 124,.inl,[.e 107,.e 106]⟩,⟨some 121,.inl,[.e 107,.e 106]⟩,⟨some 110,.inl,[.e 107,.e 106]⟩,⟨some 110,.inl,[.e 107,.e 106]⟩,⟨some 110,.inl,[.e 107,.e 106]⟩]
def Ig:Ae:=mkD 107 1 FG 141 [.e 165] QX [106,2,1,98]
def Lu:List Rf:=[.e 106,.e 2,.e 1,.e 98,.c (.int 0)]
def UG:List En:=[⟨166,.ite .i,[.e 164,.c (.int 2),.c (.int 0)]⟩,
 ⟨167,.or,[.e 164,.e 111]⟩,
 ⟨168,.ite .i,[.e 104,.c (.int 2),.e 166]⟩,
 ⟨169,.or,[.e 104,.e 167]⟩,
 ⟨170,.ite .i,[.e 92,.c (.int 2),.e 168]⟩,
 ⟨171,.or,[.e 92,.e 169]⟩,
 ⟨172,.ite .i,[.e 57,.c (.int 2),.e 170]⟩,
 ⟨173,.or,[.e 57,.e 171]⟩,
 ⟨174,.ite .i,[.e 43,.c (.int 2),.e 172]⟩,
 ⟨175,.or,[.e 43,.e 173]⟩,
 ⟨176,.ite .i,[.e 20,.c (.int 6),.e 174]⟩,
 ⟨177,.or,[.e 20,.e 175]⟩]
def Qc:List En:=UG
def eZ:List ObE:=[⟨some 98,.owes Ig,[.e 106,.e 2,.e 1,.e 98,.c (.int 0)]⟩,
 ⟨some 98,.pre "rposts.p0" Gz,Cm⟩,
 ⟨some 98,.pre "rposts.p1" G2,Cm⟩,
 ⟨some 93,.owes Ij,[.e 10,.e 93,.c (.int 0)]⟩,
 ⟨some 44,.owes Ib,[.e 4,.e 44,.c (.int 0)]⟩]
def Us:List Rf:=[.e 176]
theorem dp:Ci.sees Us (Ci.run Try.prog [(65,I5),(67,Kx),(68,Kp),(69,Ef)] Ag 3000 20 16)=some ((Cz++((Ax Ib [.i] L1)++(B5++(DV++((Ax Ij [.i] L5)++(CE++(EK++((Ax Ig [.i] Lu)++(FG++(Qc)))))))))).map En.be,eZ.map ObE.be,[]):=by kernel_rfl
theorem Yq {T:Tab}(hl4:(L T 4).length≤140737488355328)(hS:AL T (Am (BG 0 Ci.ks) Cz))(hB:AX T (B5.map En.be))(hH:AX T ((Ax Ib [.i] L1).map En.be)):
  (Ib).owes (L1.map (Rf.eval T))∧AL T (hds 45 [.i])∧(0≤I T 45∧I T 45≤((L T 4)).length∧∀q:Nat,(q:Int) < I T 45→BI (AA ((L T 4)) q 0) (AA ((L T 4)) q 1) (AA ((L T 4)) q 2) (AA ((L T 4)) q 3)=true)∧¬B T 56=true:=by
 refine BS (nh:=45) (k:=1) (pcn:=56) (top:=59) (bes:=B5) (bos:=Px) (nxt:=[.e 58]) (inits:=[.c (.int 0)]) (fv:=[4,44]) (tys:=[.i]) (by kernel_rfl) rfl rfl rfl rfl hS (by kernel_rfl) (by kernel_rfl) hB (Ay hH) (fun s=>0≤(aI s 0)∧(aI s 0)≤((L T 4)).length∧∀q:Nat,(q:Int) < (aI s 0)→BI (AA ((L T 4)) q 0) (AA ((L T 4)) q 1) (AA ((L T 4)) q 2) (AA ((L T 4)) q 3)=true) (fun s=>(((L T 4)).length - (aI s 0)).toNat) ?_ ?_
 ·show 0≤(0:Int)∧(0:Int)≤((L T 4)).length∧∀q:Nat,(q:Int) < (0:Int)→BI (AA ((L T 4)) q 0) (AA ((L T 4)) q 1) (AA ((L T 4)) q 2) (AA ((L T 4)) q 3)=true
  clear hS hB hH
  exact⟨by omega,by omega,fun q h=>absurd h (by omega)⟩
 ·intro T2 hfv hF inv
  replace inv:0≤I T2 45∧I T2 45≤((L T 4)).length∧∀q:Nat,(q:Int) < I T2 45→BI (AA ((L T 4)) q 0) (AA ((L T 4)) q 1) (AA ((L T 4)) q 2) (AA ((L T 4)) q 3)=true:=inv
  clear hS hB hH
  replace hF:AI T2 B5:=hF
  have F0:=hF;clear hF
  have fv4:L T2 4=L T 4:=fvL (hfv 4 (by decide))
  have fv44:B T2 44=B T 44:=fvB (hfv 44 (by decide))
  clear hfv
  suffices hz:(B T2 48=true→0≤I T2 45∧I T2 45 < ((L T2 4)).length)∧(B T2 56=true→(0≤I T2 58∧I T2 58≤((L T 4)).length∧∀q:Nat,(q:Int) < I T2 58→BI (AA ((L T 4)) q 0) (AA ((L T 4)) q 1) (AA ((L T 4)) q 2) (AA ((L T 4)) q 3)=true))∧(B T2 56=true→(((L T 4)).length - (I T2 58)).toNat < (((L T 4)).length - (I T2 45)).toNat) from
   let⟨r0,nx,mz⟩:=hz;⟨⟨r0,trivial⟩,fun hp=>⟨nx hp,mz hp⟩⟩
  refine⟨?_,?_,?_⟩
  ·obtain⟨e46,e47,e48,-⟩:=F0
   simp only[AE,AG,zR,zL] at e46 e47 e48
   obtain⟨v1,v2,v3⟩:=inv
   intro hp
   have h:=e47.1 (e48.1 hp).2
   rw[fv4]
   rw[e46,fv4] at h
   omega
  ·obtain⟨e46,e47,e48,-,e50,e51,e52,e53,e54,e55,e56,-,e58,-⟩:=F0
   replace e55:B T2 55=(BI (I T2 50) (I T2 51) (I T2 52) (I T2 53)):=e55
   simp only[AE,AG,zR,w2P,zL] at*
   obtain⟨v1,v2,v3⟩:=inv
   intro hp
   have hq:=e56.1 hp
   have h:=e47.1 (e48.1 hq.1).2
   rw[e46,fv4] at h
   have e:(I T2 58)=I T2 45+1:=e58 (by omega) (by omega)
   refine⟨by omega,by omega,fun q hq'=>?_⟩
   by_cases hq2:(q:Int) < I T2 45
   ·exact v3 q hq2
   obtain rfl:q=(I T2 45).toNat:=by omega
   rw[←fv4,←e50,←e51,←e52,←e53,←e55]
   exact hq.2
  ·obtain⟨e46,e47,e48,-,e50,e51,e52,e53,e54,e55,e56,-,e58,-⟩:=F0
   replace e55:B T2 55=(BI (I T2 50) (I T2 51) (I T2 52) (I T2 53)):=e55
   simp only[AE,AG,zR,w2P,zL] at*
   obtain⟨v1,v2,v3⟩:=inv
   intro hp
   have h:=e47.1 (e48.1 (e56.1 hp).1).2
   rw[e46,fv4] at h
   have e:(I T2 58)=I T2 45+1:=e58 (by omega) (by omega)
   omega
theorem ZD {T:Tab}(hl10:(L T 10).length≤140737488355328)(hS:AL T (Am (Am (hds 45 [.i]++Am (BG 0 Ci.ks) Cz) B5) DV))(hB:AX T (CE.map En.be))(hH:AX T ((Ax Ij [.i] L5).map En.be)):
  (Ij).owes (L5.map (Rf.eval T))∧AL T (hds 94 [.i])∧(0≤I T 94∧I T 94≤((L T 10)).length∧∀q:Nat,(q:Int) < I T 94→BT (AA ((L T 10)) q 0) (AA ((L T 10)) q 1) (AA ((L T 10)) q 2)=true)∧¬B T 103=true:=by
 refine BS (nh:=94) (k:=1) (pcn:=103) (top:=106) (bes:=CE) (bos:=QR) (nxt:=[.e 105]) (inits:=[.c (.int 0)]) (fv:=[10,93]) (tys:=[.i]) (by kernel_rfl) rfl rfl rfl rfl hS (by kernel_rfl) (by kernel_rfl) hB (Ay hH) (fun s=>0≤(aI s 0)∧(aI s 0)≤((L T 10)).length∧∀q:Nat,(q:Int) < (aI s 0)→BT (AA ((L T 10)) q 0) (AA ((L T 10)) q 1) (AA ((L T 10)) q 2)=true) (fun s=>(((L T 10)).length - (aI s 0)).toNat) ?_ ?_
 ·show 0≤(0:Int)∧(0:Int)≤((L T 10)).length∧∀q:Nat,(q:Int) < (0:Int)→BT (AA ((L T 10)) q 0) (AA ((L T 10)) q 1) (AA ((L T 10)) q 2)=true
  clear hS hB hH
  exact⟨by omega,by omega,fun q h=>absurd h (by omega)⟩
 ·intro T2 hfv hF inv
  replace inv:0≤I T2 94∧I T2 94≤((L T 10)).length∧∀q:Nat,(q:Int) < I T2 94→BT (AA ((L T 10)) q 0) (AA ((L T 10)) q 1) (AA ((L T 10)) q 2)=true:=inv
  clear hS hB hH
  replace hF:AI T2 CE:=hF
  have F0:=hF;clear hF
  have fv10:L T2 10=L T 10:=fvL (hfv 10 (by decide))
  have fv93:B T2 93=B T 93:=fvB (hfv 93 (by decide))
  clear hfv
  suffices hz:(B T2 97=true→0≤I T2 94∧I T2 94 < ((L T2 10)).length)∧(B T2 103=true→(0≤I T2 105∧I T2 105≤((L T 10)).length∧∀q:Nat,(q:Int) < I T2 105→BT (AA ((L T 10)) q 0) (AA ((L T 10)) q 1) (AA ((L T 10)) q 2)=true))∧(B T2 103=true→(((L T 10)).length - (I T2 105)).toNat < (((L T 10)).length - (I T2 94)).toNat) from
   let⟨r0,nx,mz⟩:=hz;⟨⟨r0,trivial⟩,fun hp=>⟨nx hp,mz hp⟩⟩
  refine⟨?_,?_,?_⟩
  ·obtain⟨e95,e96,e97,-⟩:=F0
   simp only[AE,AG,zR,zL] at e95 e96 e97
   obtain⟨v1,v2,v3⟩:=inv
   intro hp
   have h:=e96.1 (e97.1 hp).2
   rw[fv10]
   rw[e95,fv10] at h
   omega
  ·obtain⟨e95,e96,e97,-,e99,e100,e101,e102,e103,-,e105,-⟩:=F0
   replace e102:B T2 102=(BT (I T2 99) (I T2 100) (I T2 101)):=e102
   simp only[AE,AG,zR,w2P,zL] at*
   obtain⟨v1,v2,v3⟩:=inv
   intro hp
   have hq:=e103.1 hp
   have h:=e96.1 (e97.1 hq.1).2
   rw[e95,fv10] at h
   have e:(I T2 105)=I T2 94+1:=e105 (by omega) (by omega)
   refine⟨by omega,by omega,fun q hq'=>?_⟩
   by_cases hq2:(q:Int) < I T2 94
   ·exact v3 q hq2
   obtain rfl:q=(I T2 94).toNat:=by omega
   rw[←fv10,←e99,←e100,←e101,←e102]
   exact hq.2
  ·obtain⟨e95,e96,e97,-,e99,e100,e101,e102,e103,-,e105,-⟩:=F0
   replace e102:B T2 102=(BT (I T2 99) (I T2 100) (I T2 101)):=e102
   simp only[AE,AG,zR,w2P,zL] at*
   obtain⟨v1,v2,v3⟩:=inv
   intro hp
   have h:=e96.1 (e97.1 (e103.1 hp).1).2
   rw[e95,fv10] at h
   have e:(I T2 105)=I T2 94+1:=e105 (by omega) (by omega)
   omega
theorem Ve {T:Tab}(hz0:(S T 0).size≤140737488355328)(hl4:(L T 4).length≤140737488355328)(hl10:(L T 10).length≤140737488355328)(g:Ln)(hg:g=Ln.mk (S T 0) (I T 1) (I T 2) (I T 3) (L T 4) (I T 5) (I T 6) (I T 7) (I T 8) (I T 9) (L T 10))(inv0:0≤I T 45∧I T 45≤((L T 4)).length∧∀q:Nat,(q:Int) < I T 45→BI (AA ((L T 4)) q 0) (AA ((L T 4)) q 1) (AA ((L T 4)) q 2) (AA ((L T 4)) q 3)=true)(np0:¬B T 56=true)(inv1:0≤I T 94∧I T 94≤((L T 10)).length∧∀q:Nat,(q:Int) < I T 94→BT (AA ((L T 10)) q 0) (AA ((L T 10)) q 1) (AA ((L T 10)) q 2)=true)(np1:¬B T 103=true)(g1:Ln)(z1:g1=Ln.mk (S T 0) (I T 1) (I T 2) (I T 3) (L T 4) (I T 5) (I T 6) (I T 7) (I T 8) (I T 9) (L T 10))(A0:AI T Cz)(B0:AI T B5)(A1:AI T DV)(B1:AI T CE)(A2:AI T EK):
  ((B T 42)=true↔¬((BC ((S T 0))=true∧(65536≤I T 1∧I T 1≤4194304)∧(65536≤I T 2∧I T 2≤4194304))∧(0≤I T 3∧I T 3≤(if (I T 1)≤(I T 2) then (I T 1) else (I T 2)) / 4)))∧((B T 91)=true↔¬(((1≤I T 7∧I T 7≤8192)∧(0≤I T 5∧I T 5≤4194304)∧(0≤I T 6∧I T 6≤4194304))∧((1≤I T 8∧I T 8≤16)∧(1≤I T 9∧I T 9≤16)∧(((L T 10)).length:Int)=I T 8*I T 9)))∧((B T 44)=true→((B T 57)=false↔BN ((L T 4))=true))∧((B T 93)=true→((B T 104)=false↔((L T 10)).all G5=true))∧((B T 44)=true→((B T 49)=true↔BN ((L T 4))=true))∧((B T 93)=true→((B T 98)=true↔((L T 10)).all G5=true))∧((L T 106)=CS ((L T 4)) (I T 5) (I T 6) (I T 7))∧(((L T 106)).length≤1000000000000000)∧((B T 98)=true→((65536≤I T 1∧I T 1≤4194304)∧(65536≤I T 2∧I T 2≤4194304))∧(1≤I T 7∧I T 7≤8192)∧BN ((L T 4))=true∧((L T 4)).length≤12)∧((B T 98)=true→((65536≤I T 1∧I T 1≤4194304)∧(65536≤I T 2∧I T 2≤4194304))∧CJ ((L T 106))=true):=by
 obtain⟨F0,A0⟩:=A0.cut
 obtain⟨F1,A0⟩:=A0.cut
 have F2:=A0;clear A0
 have F3:=B0;clear B0
 obtain⟨F4,A1⟩:=A1.cut
 obtain⟨F5,A1⟩:=A1.cut
 have F6:=A1;clear A1
 have F7:=B1;clear B1
 have F8:=A2;clear A2
 have h42:(B T 42)=true↔¬((BC ((S T 0))=true∧(65536≤I T 1∧I T 1≤4194304)∧(65536≤I T 2∧I T 2≤4194304))∧(0≤I T 3∧I T 3≤(if (I T 1)≤(I T 2) then (I T 1) else (I T 2)) / 4)):=by
  obtain⟨-,-,-,-,-,-,-,-,-,-,-,e22,-,e24,-,e26,-⟩:=F0
  obtain⟨e27,e28,-,e30,-,e32,e33,e34,-,e36,e37,e38,-,e40,e41,e42,-⟩:=F1
  replace e22:B T 22=(BC (S T 0)):=e22
  simp only[AE,AG,zN,zR,AS] at*
  have e:(B T 34)=false→I T 37=(if (I T 1)≤(I T 2) then (I T 1) else (I T 2)) / 4:=fun h=>by
   have h1:(65536≤I T 1∧I T 1≤4194304)∧(65536≤I T 2∧I T 2≤4194304):=by clear e37 e36;grind
   rw[e37,e36,if_pos]
   split<;>omega
  rw[e42]
  cases k:(B T 34) with
  |true=>
   refine iff_of_true (.inl rfl) ?_
   have:=e34.1 k
   clear e37 e36 e
   grind
  |false=>
   have e:=e k
   rw[←e]
   clear e37 e36 e
   grind
 have h91:(B T 91)=true↔¬(((1≤I T 7∧I T 7≤8192)∧(0≤I T 5∧I T 5≤4194304)∧(0≤I T 6∧I T 6≤4194304))∧((1≤I T 8∧I T 8≤16)∧(1≤I T 9∧I T 9≤16)∧(((L T 10)).length:Int)=I T 8*I T 9)):=by
  obtain⟨e59,-,e61,e62,-,e64,-,e66,e67,e68,-,e70,-,e72,e73,e74,-⟩:=F4
  obtain⟨-,e76,e77,-,e79,e80,-,e82,e83,-,e85,e86,-,e88,e89,e90,-⟩:=F5
  obtain⟨e91,-⟩:=F6
  simp only[AE,AG,zN,zR,w2P,zL] at*
  have e:(1≤I T 8∧I T 8≤16)→(1≤I T 9∧I T 9≤16)→I T 89=I T 8*I T 9:=fun h1 h2=>by
   have:=Cp (a:=I T 8) (b:=I T 9) (A:=16) (B:=16) (by omega) (by omega)
   exact e89 (by omega) (by omega)
  clear e89
  grind
 have hHo:(B T 44)=true→((B T 57)=false↔BN ((L T 4))=true):=by
  obtain⟨e11,e12,-,e14,e15,e16,-,e18,e19,e20,e21,e22,-,e24,-,e26,-⟩:=F0
  obtain⟨e27,e28,-,e30,-,e32,e33,e34,-,e36,e37,e38,-,e40,e41,e42,-⟩:=F1
  obtain⟨-,e44,-⟩:=F2
  obtain⟨e46,e47,e48,-,e50,e51,e52,e53,e54,e55,e56,e57,-⟩:=F3
  replace e22:B T 22=(BC (S T 0)):=e22
  replace e55:B T 55=(BI (I T 50) (I T 51) (I T 52) (I T 53)):=e55
  simp only[AE,AG,zN,zR,AS,zL] at*
  intro hb
  obtain⟨v1,v2,v3⟩:=inv0
  rw[Gc]
  constructor
  ·intro h
   have h2:¬I T 45 < ((L T 4)).length:=fun h2=>by
    have hc:(B T 48)=true:=e48.2 ⟨hb,e47.2 (by omega)⟩
    cases k:(B T 55) with
    |true=>have z:=e56.2 ⟨hc,k⟩;simp[np0] at z
    |false=>have z:=e57.2 ⟨hc,k⟩;simp[h] at z
   exact fun j hj=>v3 j (by omega)
  ·intro hall
   cases k:(B T 57) with
   |false=>rfl
   |true=>
    have h1:=e57.1 k
    have h2:=e47.1 (e48.1 h1.1).2
    have h3:=hall (I T 45).toNat (by omega)
    rw[←e50,←e51,←e52,←e53,←e55] at h3
    simp[h3] at h1
 have hCe:(B T 93)=true→((B T 104)=false↔((L T 10)).all G5=true):=by
  obtain⟨e11,e12,-,e14,e15,e16,-,e18,e19,e20,e21,e22,-,e24,-,e26,-⟩:=F0
  obtain⟨e27,e28,-,e30,-,e32,e33,e34,-,e36,e37,e38,-,e40,e41,e42,-⟩:=F1
  obtain⟨-,e44,-⟩:=F2
  obtain⟨e46,e47,-,e49,-⟩:=F3
  obtain⟨e59,-,e61,e62,-,e64,-,e66,e67,e68,-,e70,-,e72,e73,e74,-⟩:=F4
  obtain⟨-,e76,e77,-,e79,e80,-,e82,e83,-,e85,e86,-,e88,e89,e90,-⟩:=F5
  obtain⟨e91,-,e93,-⟩:=F6
  obtain⟨e95,e96,e97,-,e99,e100,e101,e102,e103,e104,-⟩:=F7
  replace e22:B T 22=(BC (S T 0)):=e22
  replace e102:B T 102=(BT (I T 99) (I T 100) (I T 101)):=e102
  simp only[AE,AG,zN,zR,AS,w2P,zL] at*
  intro hb
  obtain⟨v1,v2,v3⟩:=inv1
  rw[SX]
  constructor
  ·intro h
   have h2:¬I T 94 < ((L T 10)).length:=fun h2=>by
    have hc:(B T 97)=true:=e97.2 ⟨hb,e96.2 (by omega)⟩
    cases k:(B T 102) with
    |true=>have z:=e103.2 ⟨hc,k⟩;simp[np1] at z
    |false=>have z:=e104.2 ⟨hc,k⟩;simp[h] at z
   exact fun j hj=>v3 j (by omega)
  ·intro hall
   cases k:(B T 104) with
   |false=>rfl
   |true=>
    have h1:=e104.1 k
    have h2:=e96.1 (e97.1 h1.1).2
    have h3:=hall (I T 94).toNat (by omega)
    rw[←e99,←e100,←e101,←e102] at h3
    simp[h3] at h1
 have hH2:(B T 44)=true→((B T 49)=true↔BN ((L T 4))=true):=by
  obtain⟨e11,e12,-,e14,e15,e16,-,e18,e19,e20,e21,e22,-,e24,-,e26,-⟩:=F0
  obtain⟨e27,e28,-,e30,-,e32,e33,e34,-,e36,e37,e38,-,e40,e41,e42,-⟩:=F1
  obtain⟨-,e44,-⟩:=F2
  obtain⟨e46,e47,e48,e49,e50,e51,e52,e53,e54,e55,e56,e57,-⟩:=F3
  replace e22:B T 22=(BC (S T 0)):=e22
  replace e55:B T 55=(BI (I T 50) (I T 51) (I T 52) (I T 53)):=e55
  simp only[AE,AG,zN,zR,AS,zL] at*
  intro hb
  rw[←hHo hb]
  have n0:(B T 56)=false:=by simpa using np0
  clear hHo
  grind
 have hC2:(B T 93)=true→((B T 98)=true↔((L T 10)).all G5=true):=by
  obtain⟨e11,e12,-,e14,e15,e16,-,e18,e19,e20,e21,e22,-,e24,-,e26,-⟩:=F0
  obtain⟨e27,e28,-,e30,-,e32,e33,e34,-,e36,e37,e38,-,e40,e41,e42,-⟩:=F1
  obtain⟨-,e44,-⟩:=F2
  obtain⟨e46,e47,-,e49,-⟩:=F3
  obtain⟨e59,-,e61,e62,-,e64,-,e66,e67,e68,-,e70,-,e72,e73,e74,-⟩:=F4
  obtain⟨-,e76,e77,-,e79,e80,-,e82,e83,-,e85,e86,-,e88,e89,e90,-⟩:=F5
  obtain⟨e91,-,e93,-⟩:=F6
  obtain⟨e95,e96,e97,e98,e99,e100,e101,e102,e103,e104,-⟩:=F7
  replace e22:B T 22=(BC (S T 0)):=e22
  replace e102:B T 102=(BT (I T 99) (I T 100) (I T 101)):=e102
  simp only[AE,AG,zN,zR,AS,w2P,zL] at*
  intro hb
  rw[←hCe hb]
  have n0:(B T 103)=false:=by simpa using np1
  clear hCe
  grind
 have hp106:(L T 106)=CS ((L T 4)) (I T 5) (I T 6) (I T 7):=by
  obtain⟨e106,-⟩:=F8
  replace e106:L T 106=(AN g1):=by rw[←show gAt 0 (Cm.map (Rf.eval T))=g1 from z1.symm];exact e106
  rw[e106,z1];rfl
 have h106:((L T 106)).length≤1000000000000000:=by
  obtain⟨e106,-⟩:=F8
  replace e106:L T 106=(AN g1):=by rw[←show gAt 0 (Cm.map (Rf.eval T))=g1 from z1.symm];exact e106
  rw[hp106,J7];omega
 have h98x:(B T 98)=true→((65536≤I T 1∧I T 1≤4194304)∧(65536≤I T 2∧I T 2≤4194304))∧(1≤I T 7∧I T 7≤8192)∧BN ((L T 4))=true∧((L T 4)).length≤12:=by
  obtain⟨e11,e12,-,e14,e15,e16,-,e18,e19,e20,e21,e22,-,e24,-,e26,-⟩:=F0
  obtain⟨e27,e28,-,e30,-,e32,e33,e34,-,e36,e37,e38,-,e40,e41,e42,-⟩:=F1
  obtain⟨-,e44,-⟩:=F2
  obtain⟨e46,e47,-,e49,-⟩:=F3
  obtain⟨e59,-,e61,e62,-,e64,-,e66,e67,e68,-,e70,-,e72,e73,e74,-⟩:=F4
  obtain⟨-,e76,e77,-,e79,e80,-,e82,e83,-,e85,e86,-,e88,e89,e90,-⟩:=F5
  obtain⟨e91,-,e93,-⟩:=F6
  obtain⟨e95,e96,-,e98,-⟩:=F7
  replace e22:B T 22=(BC (S T 0)):=e22
  simp only[AE,AG,zN,zR,AS,w2P,zL] at*
  intro h
  have h1:=e93.1 (e98.1 h).1
  have h2:=e44.1 (e49.1 h1.1).1
  have h3:=Classical.not_not.1 ((not_congr h91).1 (by simp[h1.2]))
  have h4:=Classical.not_not.1 ((not_congr h42).1 (by simp[h2.2]))
  have h6:¬12 < ((L T 4)).length:=fun hl=>by
   have:=e20.2 (.inl (e16.2 (.inr (e15.2 (by rw[e14];omega)))))
   have:=e21.1 h2.1
   grind
  exact⟨h4.1.2,h3.1.1,(hH2 (e49.1 h1.1).1).1 h1.1,by omega⟩
 have h98:(B T 98)=true→((65536≤I T 1∧I T 1≤4194304)∧(65536≤I T 2∧I T 2≤4194304))∧CJ ((L T 106))=true:=by
  obtain⟨e11,e12,-,e14,e15,e16,-,e18,e19,e20,e21,e22,-,e24,-,e26,-⟩:=F0
  obtain⟨e27,e28,-,e30,-,e32,e33,e34,-,e36,e37,e38,-,e40,e41,e42,-⟩:=F1
  obtain⟨-,e44,-⟩:=F2
  obtain⟨e46,e47,-,e49,-⟩:=F3
  obtain⟨e59,-,e61,e62,-,e64,-,e66,e67,e68,-,e70,-,e72,e73,e74,-⟩:=F4
  obtain⟨-,e76,e77,-,e79,e80,-,e82,e83,-,e85,e86,-,e88,e89,e90,-⟩:=F5
  obtain⟨e91,-,e93,-⟩:=F6
  obtain⟨e95,e96,-,e98,-⟩:=F7
  obtain⟨e106,-⟩:=F8
  replace e22:B T 22=(BC (S T 0)):=e22
  replace e106:L T 106=(AN g1):=by rw[←show gAt 0 (Cm.map (Rf.eval T))=g1 from z1.symm];exact e106
  simp only[AE,AG,zN,zR,AS,w2P,zL] at*
  intro h
  have h1:=h98x h
  rw[hp106]
  exact⟨h1.1,Kg h1.2.2.1 h1.2.1⟩
 exact⟨h42,h91,hHo,hCe,hH2,hC2,hp106,h106,h98x,h98⟩
theorem WX {T:Tab}(g98:(B T 98)=true→((65536≤I T 1∧I T 1≤4194304)∧(65536≤I T 2∧I T 2≤4194304))∧CJ ((L T 106))=true)(g106:((L T 106)).length≤1000000000000000)(gi:0≤I T 107∧I T 107≤((L T 106)).length∧∀q:Nat,(q:Int) < I T 107→By (I T 1) (I T 2) ((L T 106)) q)(C2_0:AI T Do):
  ((B T 137)=true→B T 98=true∧I T 107 < ((L T 106)).length∧((AA ((L T 106)) (I T 107).toNat 2≤AA ((L T 106)) (I T 107).toNat 0∧AA ((L T 106)) (I T 107).toNat 0≤I T 1 - AA ((L T 106)) (I T 107).toNat 2)∧(AA ((L T 106)) (I T 107).toNat 2≤AA ((L T 106)) (I T 107).toNat 1∧AA ((L T 106)) (I T 107).toNat 1≤I T 2 - AA ((L T 106)) (I T 107).toNat 2))):=by
 obtain⟨F0,C2_0⟩:=C2_0.cut
 have F1:=C2_0;clear C2_0
 have hin:(B T 137)=true→B T 98=true∧I T 107 < ((L T 106)).length∧((AA ((L T 106)) (I T 107).toNat 2≤AA ((L T 106)) (I T 107).toNat 0∧AA ((L T 106)) (I T 107).toNat 0≤I T 1 - AA ((L T 106)) (I T 107).toNat 2)∧(AA ((L T 106)) (I T 107).toNat 2≤AA ((L T 106)) (I T 107).toNat 1∧AA ((L T 106)) (I T 107).toNat 1≤I T 2 - AA ((L T 106)) (I T 107).toNat 2)):=by
  obtain⟨e108,e109,e110,-,e112,e113,e114,e115,e116,-,e118,e119,-,-,e122,-⟩:=F0
  obtain⟨-,e125,-,-,-,e129,e130,e131,-,e133,e134,e135,-,e137,-⟩:=F1
  simp only[AE,AG,zN,zR,w2P,zL] at*
  intro h
  obtain⟨v1,v2,v3⟩:=gi
  have h1:=e137.1 h
  have h2:=e110.1 h1.1
  have h3:=e109.1 h2.2
  rw[e108] at h3
  obtain⟨d1,d2⟩:=g98 h2.1
  have r:=DX.1 d2 (I T 107).toNat (by omega)
  rw[←e112,←e122]
  have q114:(I T 114)=AA ((L T 106)) (I T 107).toNat 2:=e114
  have q129:(I T 129)=AA ((L T 106)) (I T 107).toNat 2:=e129
  have q113:(I T 113)=AA ((L T 106)) (I T 107).toNat 2:=e113
  have q125:(I T 125)=AA ((L T 106)) (I T 107).toNat 2:=e125
  have d115:=e115 (by omega) (by omega)
  have d130:=e130 (by omega) (by omega)
  refine⟨h2.1,h3,?_⟩
  rw[←q114]
  have h135:=h1.2
  clear e115 e130 v3 g98 d2 e114 e129 e113 e125
  grind
 exact hin
theorem YT {T:Tab}(g98:(B T 98)=true→((65536≤I T 1∧I T 1≤4194304)∧(65536≤I T 2∧I T 2≤4194304))∧CJ ((L T 106))=true)(g106:((L T 106)).length≤1000000000000000)(gi:0≤I T 107∧I T 107≤((L T 106)).length∧∀q:Nat,(q:Int) < I T 107→By (I T 1) (I T 2) ((L T 106)) q)(hin:(B T 137)=true→B T 98=true∧I T 107 < ((L T 106)).length∧((AA ((L T 106)) (I T 107).toNat 2≤AA ((L T 106)) (I T 107).toNat 0∧AA ((L T 106)) (I T 107).toNat 0≤I T 1 - AA ((L T 106)) (I T 107).toNat 2)∧(AA ((L T 106)) (I T 107).toNat 2≤AA ((L T 106)) (I T 107).toNat 1∧AA ((L T 106)) (I T 107).toNat 1≤I T 2 - AA ((L T 106)) (I T 107).toNat 2)))(hS:AL T (Am (hds 107 [.i]++Gm [106,2,1,98] (Am (Am (hds 94 [.i]++Am (Am (hds 45 [.i]++Am (BG 0 Ci.ks) Cz) B5) DV) CE) EK)) Do))(hB:AX T (C0.map En.be))(hH:AX T ((Ax Gv [.i] IZ).map En.be)):
  (Gv).owes (IZ.map (Rf.eval T))∧AL T (hds 138 [.i])∧(0≤I T 138∧((I T 138)≤I T 107)∧∀q:Nat,(q:Int) < I T 138→¬sq (AA ((L T 106)) (I T 107).toNat 0) (AA ((L T 106)) (I T 107).toNat 1) (AA ((L T 106)) q 0) (AA ((L T 106)) q 1) < (AA ((L T 106)) (I T 107).toNat 2+AA ((L T 106)) q 2)*(AA ((L T 106)) (I T 107).toNat 2+AA ((L T 106)) q 2))∧¬B T 162=true:=by
 refine BS (nh:=138) (k:=1) (pcn:=162) (top:=164) (bes:=C0) (bos:=Pk) (nxt:=[.e 163]) (inits:=[.c (.int 0)]) (fv:=[106,107,137]) (tys:=[.i]) (by kernel_rfl) rfl rfl rfl rfl hS (by kernel_rfl) (by kernel_rfl) hB (Ay hH) (fun s=>0≤(aI s 0)∧((aI s 0)≤I T 107)∧∀q:Nat,(q:Int) < (aI s 0)→¬sq (AA ((L T 106)) (I T 107).toNat 0) (AA ((L T 106)) (I T 107).toNat 1) (AA ((L T 106)) q 0) (AA ((L T 106)) q 1) < (AA ((L T 106)) (I T 107).toNat 2+AA ((L T 106)) q 2)*(AA ((L T 106)) (I T 107).toNat 2+AA ((L T 106)) q 2)) (fun s=>((I T 107) - (aI s 0)).toNat) ?_ ?_
 ·show 0≤(0:Int)∧((0:Int)≤I T 107)∧∀q:Nat,(q:Int) < (0:Int)→¬sq (AA ((L T 106)) (I T 107).toNat 0) (AA ((L T 106)) (I T 107).toNat 1) (AA ((L T 106)) q 0) (AA ((L T 106)) q 1) < (AA ((L T 106)) (I T 107).toNat 2+AA ((L T 106)) q 2)*(AA ((L T 106)) (I T 107).toNat 2+AA ((L T 106)) q 2)
  clear hS hB hH
  exact⟨by omega,by omega,fun q h=>absurd h (by omega)⟩
 ·intro T2 hfv hF inv
  replace inv:0≤I T2 138∧((I T2 138)≤I T 107)∧∀q:Nat,(q:Int) < I T2 138→¬sq (AA ((L T 106)) (I T 107).toNat 0) (AA ((L T 106)) (I T 107).toNat 1) (AA ((L T 106)) q 0) (AA ((L T 106)) q 1) < (AA ((L T 106)) (I T 107).toNat 2+AA ((L T 106)) q 2)*(AA ((L T 106)) (I T 107).toNat 2+AA ((L T 106)) q 2):=inv
  clear hS hB hH
  replace hF:AI T2 C0:=hF
  obtain⟨F0,hF⟩:=hF.cut
  have F1:=hF;clear hF
  have fv106:L T2 106=L T 106:=fvL (hfv 106 (by decide))
  have fv107:I T2 107=I T 107:=fvI (hfv 107 (by decide))
  have fv137:B T2 137=B T 137:=fvB (hfv 137 (by decide))
  clear hfv
  have hx:(B T2 140)=true→I T2 138 < I T 107∧(0≤I T2 138→((B T2 160)=true↔sq (AA ((L T 106)) (I T 107).toNat 0) (AA ((L T 106)) (I T 107).toNat 1) (AA ((L T 106)) (I T2 138).toNat 0) (AA ((L T 106)) (I T2 138).toNat 1) < (AA ((L T 106)) (I T 107).toNat 2+AA ((L T 106)) (I T2 138).toNat 2)*(AA ((L T 106)) (I T 107).toNat 2+AA ((L T 106)) (I T2 138).toNat 2))):=by
   obtain⟨e139,e140,-,e142,e143,e144,e145,e146,e147,e148,e149,e150,e151,e152,e153,e154,-⟩:=F0
   obtain⟨e155,e156,e157,e158,e159,e160,-⟩:=F1
   simp only[AE,AG,zR,w2P,zL] at*
   intro hp
   have h1:=e140.1 hp
   have h2:=e139.1 h1.2
   obtain⟨k1,k2,k3⟩:=hin (fv137▸h1.1)
   obtain⟨w1,w2,w3⟩:=gi
   obtain⟨d1,d2⟩:=g98 k1
   refine⟨by omega,fun v1=>?_⟩
   have r1:=DX.1 d2 (I T 107).toNat (by omega)
   have r2:=DX.1 d2 (I T2 138).toNat (by omega)
   have p2:=w3 (I T2 138).toNat (by omega)
   obtain⟨p3,p4,-⟩:=p2
   rw[fv106,fv107] at*
   rw[←e142,←e143,←e153] at k3
   rw[←e153] at r1
   rw[←e142,←e143,←e153,←e144,←e145,←e154]
   rw[←e144,←e154] at p3
   rw[←e145,←e154] at p4
   rw[←e154] at r2
   have q154:(I T2 154)=AA ((L T 106)) (I T2 138).toNat 2:=e154
   have q156:(I T2 156)=I T2 153:=by rw[e156,e153]
   have q157:(I T2 157)=I T2 154:=by rw[e157,e154]
   have x146:=e146 (by omega) (by omega)
   have x147:=e147 (by omega) (by omega)
   have x149:=e149 (by omega) (by omega)
   have x150:=e150 (by omega) (by omega)
   have x155:=e155 (by omega) (by omega)
   have x158:=e158 (by omega) (by omega)
   have m1:=sqB (a:=I T2 146) (A:=4194304) (by omega)
   have m2:=sqB (a:=I T2 149) (A:=4194304) (by omega)
   have m3:=sqB (a:=I T2 155) (A:=16384) (by omega)
   have x148:=e148 (by rw[x147,←x146];omega) (by rw[x147,←x146];omega)
   have x151:=e151 (by rw[x150,←x149];omega) (by rw[x150,←x149];omega)
   have x159:=e159 (by rw[x158,q156,q157,←x155];omega) (by rw[x158,q156,q157,←x155];omega)
   rw[x147,←x146] at x148
   rw[x150,←x149] at x151
   rw[x158,q156,q157,←x155] at x159
   have x152:=e152 (by omega) (by omega)
   rw[e160,x152,x148,x151,x159,x155]
   unfold sq
   rw[←x146,←x149]
  suffices hz:(B T2 140=true→0≤I T2 138∧I T2 138 < ((L T2 106)).length)∧(B T2 140=true→0≤I T2 107∧I T2 107 < ((L T2 106)).length)∧(B T2 140=true→0≤I T2 138∧I T2 138 < ((L T2 106)).length)∧(B T2 140=true→0≤I T2 107∧I T2 107 < ((L T2 106)).length)∧(B T2 140=true→0≤I T2 138∧I T2 138 < ((L T2 106)).length)∧(B T2 140=true→0≤I T2 107∧I T2 107 < ((L T2 106)).length)∧(B T2 162=true→(0≤I T2 163∧((I T2 163)≤I T 107)∧∀q:Nat,(q:Int) < I T2 163→¬sq (AA ((L T 106)) (I T 107).toNat 0) (AA ((L T 106)) (I T 107).toNat 1) (AA ((L T 106)) q 0) (AA ((L T 106)) q 1) < (AA ((L T 106)) (I T 107).toNat 2+AA ((L T 106)) q 2)*(AA ((L T 106)) (I T 107).toNat 2+AA ((L T 106)) q 2)))∧(B T2 162=true→((I T 107) - (I T2 163)).toNat < ((I T 107) - (I T2 138)).toNat) from
   let⟨r0,r1,r2,r3,r4,r5,nx,mz⟩:=hz;⟨⟨r0,r1,r2,r3,r4,r5,trivial⟩,fun hp=>⟨nx hp,mz hp⟩⟩
  refine⟨?_,?_,?_,?_,?_,?_,?_,?_⟩
  ·obtain⟨e139,e140,-⟩:=F0
   simp only[AE,AG,zR] at e139 e140
   obtain⟨v1,v2,v3⟩:=inv
   intro hp
   have h1:=e140.1 hp
   have h2:=e139.1 h1.2
   have h3:=hin (fv137▸h1.1)
   obtain⟨w1,w2,w3⟩:=gi
   rw[fv106]
   omega
  ·obtain⟨e139,e140,-⟩:=F0
   simp only[AE,AG,zR] at e139 e140
   obtain⟨v1,v2,v3⟩:=inv
   intro hp
   have h1:=e140.1 hp
   have h2:=e139.1 h1.2
   have h3:=hin (fv137▸h1.1)
   obtain⟨w1,w2,w3⟩:=gi
   rw[fv106]
   omega
  ·obtain⟨e139,e140,-⟩:=F0
   simp only[AE,AG,zR] at e139 e140
   obtain⟨v1,v2,v3⟩:=inv
   intro hp
   have h1:=e140.1 hp
   have h2:=e139.1 h1.2
   have h3:=hin (fv137▸h1.1)
   obtain⟨w1,w2,w3⟩:=gi
   rw[fv106]
   omega
  ·obtain⟨e139,e140,-⟩:=F0
   simp only[AE,AG,zR] at e139 e140
   obtain⟨v1,v2,v3⟩:=inv
   intro hp
   have h1:=e140.1 hp
   have h2:=e139.1 h1.2
   have h3:=hin (fv137▸h1.1)
   obtain⟨w1,w2,w3⟩:=gi
   rw[fv106]
   omega
  ·obtain⟨e139,e140,-⟩:=F0
   simp only[AE,AG,zR] at e139 e140
   obtain⟨v1,v2,v3⟩:=inv
   intro hp
   have h1:=e140.1 hp
   have h2:=e139.1 h1.2
   have h3:=hin (fv137▸h1.1)
   obtain⟨w1,w2,w3⟩:=gi
   rw[fv106]
   omega
  ·obtain⟨e139,e140,-⟩:=F0
   simp only[AE,AG,zR] at e139 e140
   obtain⟨v1,v2,v3⟩:=inv
   intro hp
   have h1:=e140.1 hp
   have h2:=e139.1 h1.2
   have h3:=hin (fv137▸h1.1)
   obtain⟨w1,w2,w3⟩:=gi
   rw[fv106]
   omega
  ·obtain⟨e139,e140,-,e142,e143,e144,e145,e146,e147,e148,e149,e150,e151,e152,e153,e154,-⟩:=F0
   obtain⟨e155,e156,e157,e158,e159,e160,-,e162,e163,-⟩:=F1
   simp only[AE,AG,zN,zR,w2P,zL] at*
   obtain⟨v1,v2,v3⟩:=inv
   intro hp
   have h46:=e162.1 hp
   obtain⟨h1,h2⟩:=hx h46.1
   have h2:=h2 v1
   have e:(I T2 163)=I T2 138+1:=e163 (by omega) (by omega)
   refine⟨by omega,by omega,fun q hq=>?_⟩
   by_cases hq2:(q:Int) < I T2 138
   ·exact v3 q hq2
   obtain rfl:q=(I T2 138).toNat:=by omega
   intro hc
   have h44:=h2.2 hc
   have z:=h46.2
   simp[h44] at z
  ·obtain⟨e139,e140,-,e142,e143,e144,e145,e146,e147,e148,e149,e150,e151,e152,e153,e154,-⟩:=F0
   obtain⟨e155,e156,e157,e158,e159,e160,-,e162,e163,-⟩:=F1
   simp only[AE,AG,zN,zR,w2P,zL] at*
   obtain⟨v1,v2,v3⟩:=inv
   intro hp
   have h46:=e162.1 hp
   obtain⟨h1,h2⟩:=hx h46.1
   obtain⟨w1,w2,w3⟩:=gi
   have e:(I T2 163)=I T2 138+1:=e163 (by omega) (by omega)
   omega
theorem QK {T:Tab}(g98:(B T 98)=true→((65536≤I T 1∧I T 1≤4194304)∧(65536≤I T 2∧I T 2≤4194304))∧CJ ((L T 106))=true)(g106:((L T 106)).length≤1000000000000000)(gi:0≤I T 107∧I T 107≤((L T 106)).length∧∀q:Nat,(q:Int) < I T 107→By (I T 1) (I T 2) ((L T 106)) q)(hS:AL T (hds 107 [.i]++Gm [106,2,1,98] (Am (Am (hds 94 [.i]++Am (Am (hds 45 [.i]++Am (BG 0 Ci.ks) Cz) B5) DV) CE) EK)))(hE:AX T (FG.map En.be)):
  (AI T Do)∧((B T 137)=true→B T 98=true∧I T 107 < ((L T 106)).length∧((AA ((L T 106)) (I T 107).toNat 2≤AA ((L T 106)) (I T 107).toNat 0∧AA ((L T 106)) (I T 107).toNat 0≤I T 1 - AA ((L T 106)) (I T 107).toNat 2)∧(AA ((L T 106)) (I T 107).toNat 2≤AA ((L T 106)) (I T 107).toNat 1∧AA ((L T 106)) (I T 107).toNat 1≤I T 2 - AA ((L T 106)) (I T 107).toNat 2)))∧((Gv).owes (IZ.map (Rf.eval T)))∧(0≤I T 138∧((I T 138)≤I T 107)∧∀q:Nat,(q:Int) < I T 138→¬sq (AA ((L T 106)) (I T 107).toNat 0) (AA ((L T 106)) (I T 107).toNat 1) (AA ((L T 106)) q 0) (AA ((L T 106)) q 1) < (AA ((L T 106)) (I T 107).toNat 2+AA ((L T 106)) q 2)*(AA ((L T 106)) (I T 107).toNat 2+AA ((L T 106)) q 2))∧(¬B T 162=true)∧(AI T C0)∧(AI T Gl)∧AL T (Am (Am (hds 138 [.i]++Am (hds 107 [.i]++Gm [106,2,1,98] (Am (Am (hds 94 [.i]++Am (Am (hds 45 [.i]++Am (BG 0 Ci.ks) Cz) B5) DV) CE) EK)) Do) C0) Gl):=by
 unfold FG at hE
 rw[List.map_append,List.map_append,List.map_append] at hE
 have hA:=hE.left
 replace hE:=hE.right
 have hH:=hE.left
 replace hE:=hE.right
 have hB:=hE.left
 replace hE:=hE.right
 obtain⟨C2_0,hS1⟩:=AV hS (by kernel_rfl) hA
 have hin:=WX g98 g106 gi C2_0
 obtain⟨ow3,hS2,inv3,np3⟩:=YT g98 g106 gi hin hS1 hB hH
 have hF2:=(AV (hS2.append hS1) (l:=C0) (by kernel_rfl) hB)
 obtain⟨B3,hS⟩:=hF2
 clear hA hB hH hS1 hS2
 obtain⟨C2_1,hSe⟩:=AV hS (by kernel_rfl) hE
 exact⟨C2_0,hin,ow3,inv3,np3,B3,C2_1,hSe⟩
theorem ZP {T:Tab}(h106:((L T 106)).length≤1000000000000000)(h98:(B T 98)=true→((65536≤I T 1∧I T 1≤4194304)∧(65536≤I T 2∧I T 2≤4194304))∧CJ ((L T 106))=true)(hS:AL T (Am (Am (hds 94 [.i]++Am (Am (hds 45 [.i]++Am (BG 0 Ci.ks) Cz) B5) DV) CE) EK))(hB:AX T (FG.map En.be))(hH:AX T ((Ax Ig [.i] Lu).map En.be)):
  (Ig).owes (Lu.map (Rf.eval T))∧AL T (hds 107 [.i])∧(0≤I T 107∧I T 107≤((L T 106)).length∧∀q:Nat,(q:Int) < I T 107→By (I T 1) (I T 2) ((L T 106)) q)∧¬B T 141=true:=by
 refine O8 (nh:=107) (k:=1) (pcn:=141) (top:=166) (bes:=FG) (bos:=QX) (nxt:=[.e 165]) (inits:=[.c (.int 0)]) (fv:=[106,2,1,98]) (tys:=[.i]) (by kernel_rfl) rfl rfl rfl rfl hS (by kernel_rfl) hB (Ay hH) (fun s=>0≤(aI s 0)∧(aI s 0)≤((L T 106)).length∧∀q:Nat,(q:Int) < (aI s 0)→By (I T 1) (I T 2) ((L T 106)) q) (fun s=>(((L T 106)).length - (aI s 0)).toNat) ?_ ?_
 ·show 0≤(0:Int)∧(0:Int)≤((L T 106)).length∧∀q:Nat,(q:Int) < (0:Int)→By (I T 1) (I T 2) ((L T 106)) q
  clear hS hB hH
  exact⟨by omega,by omega,fun q h=>absurd h (by omega)⟩
 ·intro T2 hfv hS2 hE inv
  replace inv:0≤I T2 107∧I T2 107≤((L T 106)).length∧∀q:Nat,(q:Int) < I T2 107→By (I T 1) (I T 2) ((L T 106)) q:=inv
  have fv106:L T2 106=L T 106:=fvL (hfv 106 (by decide))
  have fv2:I T2 2=I T 2:=fvI (hfv 2 (by decide))
  have fv1:I T2 1=I T 1:=fvI (hfv 1 (by decide))
  have fv98:B T2 98=B T 98:=fvB (hfv 98 (by decide))
  clear hfv
  clear hS hB hH
  have g98:(B T2 98)=true→((65536≤I T2 1∧I T2 1≤4194304)∧(65536≤I T2 2∧I T2 2≤4194304))∧CJ ((L T2 106))=true:=by
   rw[fv98,fv1,fv2,fv106];exact h98
  have g106:((L T2 106)).length≤1000000000000000:=by
   rw[fv106];exact h106
  have gi:0≤I T2 107∧I T2 107≤((L T2 106)).length∧∀q:Nat,(q:Int) < I T2 107→By (I T2 1) (I T2 2) ((L T2 106)) q:=by
   rw[fv1,fv2,fv106];exact inv
  obtain⟨C2_0,hin,ow3,inv3,np3,B3,C2_1,hSe⟩:=QK g98 g106 gi hS2 hE
  clear hS2 hE
  have hN:=FU hSe (ts:=[.i]) (rs:=[.e 165]) (by kernel_rfl)
  clear hSe
  obtain⟨F0,C2_0⟩:=C2_0.cut
  have F1:=C2_0;clear C2_0
  obtain⟨F2,B3⟩:=B3.cut
  have F3:=B3;clear B3
  have F4:=C2_1;clear C2_1
  suffices hz:(B T2 128=true→0≤I T2 107∧I T2 107 < ((L T2 106)).length)∧(B T2 124=true→0≤I T2 107∧I T2 107 < ((L T2 106)).length)∧(B T2 121=true→0≤I T2 107∧I T2 107 < ((L T2 106)).length)∧(B T2 110=true→0≤I T2 107∧I T2 107 < ((L T2 106)).length)∧(B T2 110=true→0≤I T2 107∧I T2 107 < ((L T2 106)).length)∧(B T2 110=true→0≤I T2 107∧I T2 107 < ((L T2 106)).length)∧(B T2 141=true→(0≤I T2 165∧I T2 165≤((L T 106)).length∧∀q:Nat,(q:Int) < I T2 165→By (I T 1) (I T 2) ((L T 106)) q))∧(B T2 141=true→(((L T 106)).length - (I T2 165)).toNat < (((L T 106)).length - (I T2 107)).toNat) from
   let⟨r0,r1,r2,r3,r4,r5,nx,mz⟩:=hz;⟨hN,⟨(fun _=>ow3),r0,r1,r2,r3,r4,r5,trivial⟩,fun hp=>⟨nx hp,mz hp⟩⟩
  refine⟨?_,?_,?_,?_,?_,?_,?_,?_⟩
  ·obtain⟨e108,e109,e110,-,e112,e113,e114,e115,e116,-,e118,e119,-⟩:=F0
   obtain⟨-,-,-,-,e128,-⟩:=F1
   simp only[AE,AG,zR,w2P,zL] at*
   obtain⟨v1,v2,v3⟩:=inv
   intro hp
   have h110:(B T2 110)=true:=by clear v3;grind
   have h:=e109.1 (e110.1 h110).2
   rw[fv106]
   rw[e108,fv106] at h
   omega
  ·obtain⟨e108,e109,e110,-,e112,e113,e114,e115,e116,-,e118,e119,-⟩:=F0
   obtain⟨e124,-⟩:=F1
   simp only[AE,AG,zR,w2P,zL] at*
   obtain⟨v1,v2,v3⟩:=inv
   intro hp
   have h110:(B T2 110)=true:=by clear v3;grind
   have h:=e109.1 (e110.1 h110).2
   rw[fv106]
   rw[e108,fv106] at h
   omega
  ·obtain⟨e108,e109,e110,-,e112,e113,e114,e115,e116,-,e118,e119,-,e121,-⟩:=F0
   simp only[AE,AG,zR,w2P,zL] at*
   obtain⟨v1,v2,v3⟩:=inv
   intro hp
   have h110:(B T2 110)=true:=by clear v3;grind
   have h:=e109.1 (e110.1 h110).2
   rw[fv106]
   rw[e108,fv106] at h
   omega
  ·obtain⟨e108,e109,e110,-⟩:=F0
   simp only[AE,AG,zR,zL] at e108 e109 e110
   obtain⟨v1,v2,v3⟩:=inv
   intro hp
   have h110:(B T2 110)=true:=by clear v3;grind
   have h:=e109.1 (e110.1 h110).2
   rw[fv106]
   rw[e108,fv106] at h
   omega
  ·obtain⟨e108,e109,e110,-⟩:=F0
   simp only[AE,AG,zR,zL] at e108 e109 e110
   obtain⟨v1,v2,v3⟩:=inv
   intro hp
   have h110:(B T2 110)=true:=by clear v3;grind
   have h:=e109.1 (e110.1 h110).2
   rw[fv106]
   rw[e108,fv106] at h
   omega
  ·obtain⟨e108,e109,e110,-⟩:=F0
   simp only[AE,AG,zR,zL] at e108 e109 e110
   obtain⟨v1,v2,v3⟩:=inv
   intro hp
   have h110:(B T2 110)=true:=by clear v3;grind
   have h:=e109.1 (e110.1 h110).2
   rw[fv106]
   rw[e108,fv106] at h
   omega
  ·obtain⟨e108,e109,e110,-,e112,e113,e114,e115,e116,-,e118,e119,-,-,e122,-⟩:=F0
   obtain⟨-,e125,-,-,-,e129,e130,e131,-,e133,e134,e135,-,e137,-⟩:=F1
   obtain⟨e139,-,e141,-⟩:=F2
   obtain⟨-,e165,-⟩:=F4
   simp only[AE,AG,zN,zR,w2P,zL] at*
   obtain⟨v1,v2,v3⟩:=inv
   intro hp
   have h1:=e141.1 hp
   have h3:=hin h1.1
   rw[fv1,fv2,fv106] at h3
   have h139:¬I T2 138 < I T2 107:=fun h=>by
    have:=e139.2 h
    simp[this] at h1
   have e:(I T2 165)=I T2 107+1:=e165 (by omega) (by omega)
   refine⟨by omega,by omega,fun q hq=>?_⟩
   by_cases hq2:(q:Int) < I T2 107
   ·exact v3 q hq2
   obtain rfl:q=(I T2 107).toNat:=by omega
   refine⟨h3.2.2.1,h3.2.2.2,fun k hk=>?_⟩
   have:=inv3.2.2 k (by omega)
   rwa [fv106] at this
  ·obtain⟨e108,e109,e110,-,e112,e113,e114,e115,e116,-,e118,e119,-,-,e122,-⟩:=F0
   obtain⟨-,e125,-,-,-,e129,e130,e131,-,e133,e134,e135,-,e137,-⟩:=F1
   obtain⟨e139,-,e141,-⟩:=F2
   obtain⟨-,e165,-⟩:=F4
   simp only[AE,AG,zN,zR,w2P,zL] at*
   obtain⟨v1,v2,v3⟩:=inv
   intro hp
   have h3:=hin (e141.1 hp).1
   rw[fv1,fv2,fv106] at h3
   have e:(I T2 165)=I T2 107+1:=e165 (by omega) (by omega)
   omega
theorem dB {T:Tab}(hz0:(S T 0).size≤140737488355328)(hl4:(L T 4).length≤140737488355328)(hl10:(L T 10).length≤140737488355328)(g:Ln)(hg:g=Ln.mk (S T 0) (I T 1) (I T 2) (I T 3) (L T 4) (I T 5) (I T 6) (I T 7) (I T 8) (I T 9) (L T 10))(inv0:0≤I T 45∧I T 45≤((L T 4)).length∧∀q:Nat,(q:Int) < I T 45→BI (AA ((L T 4)) q 0) (AA ((L T 4)) q 1) (AA ((L T 4)) q 2) (AA ((L T 4)) q 3)=true)(np0:¬B T 56=true)(inv1:0≤I T 94∧I T 94≤((L T 10)).length∧∀q:Nat,(q:Int) < I T 94→BT (AA ((L T 10)) q 0) (AA ((L T 10)) q 1) (AA ((L T 10)) q 2)=true)(np1:¬B T 103=true)(g1:Ln)(z1:g1=Ln.mk (S T 0) (I T 1) (I T 2) (I T 3) (L T 4) (I T 5) (I T 6) (I T 7) (I T 8) (I T 9) (L T 10))(h42:(B T 42)=true↔¬((BC ((S T 0))=true∧(65536≤I T 1∧I T 1≤4194304)∧(65536≤I T 2∧I T 2≤4194304))∧(0≤I T 3∧I T 3≤(if (I T 1)≤(I T 2) then (I T 1) else (I T 2)) / 4)))(h91:(B T 91)=true↔¬(((1≤I T 7∧I T 7≤8192)∧(0≤I T 5∧I T 5≤4194304)∧(0≤I T 6∧I T 6≤4194304))∧((1≤I T 8∧I T 8≤16)∧(1≤I T 9∧I T 9≤16)∧(((L T 10)).length:Int)=I T 8*I T 9)))(hHo:(B T 44)=true→((B T 57)=false↔BN ((L T 4))=true))(hCe:(B T 93)=true→((B T 104)=false↔((L T 10)).all G5=true))(hH2:(B T 44)=true→((B T 49)=true↔BN ((L T 4))=true))(hC2:(B T 93)=true→((B T 98)=true↔((L T 10)).all G5=true))(hp106:(L T 106)=CS ((L T 4)) (I T 5) (I T 6) (I T 7))(h106:((L T 106)).length≤1000000000000000)(h98x:(B T 98)=true→((65536≤I T 1∧I T 1≤4194304)∧(65536≤I T 2∧I T 2≤4194304))∧(1≤I T 7∧I T 7≤8192)∧BN ((L T 4))=true∧((L T 4)).length≤12)(h98:(B T 98)=true→((65536≤I T 1∧I T 1≤4194304)∧(65536≤I T 2∧I T 2≤4194304))∧CJ ((L T 106))=true)(inv2:0≤I T 107∧I T 107≤((L T 106)).length∧∀q:Nat,(q:Int) < I T 107→By (I T 1) (I T 2) ((L T 106)) q)(np2:¬B T 141=true)(hin:(B T 137)=true→B T 98=true∧I T 107 < ((L T 106)).length∧((AA ((L T 106)) (I T 107).toNat 2≤AA ((L T 106)) (I T 107).toNat 0∧AA ((L T 106)) (I T 107).toNat 0≤I T 1 - AA ((L T 106)) (I T 107).toNat 2)∧(AA ((L T 106)) (I T 107).toNat 2≤AA ((L T 106)) (I T 107).toNat 1∧AA ((L T 106)) (I T 107).toNat 1≤I T 2 - AA ((L T 106)) (I T 107).toNat 2)))(inv3:0≤I T 138∧((I T 138)≤I T 107)∧∀q:Nat,(q:Int) < I T 138→¬sq (AA ((L T 106)) (I T 107).toNat 0) (AA ((L T 106)) (I T 107).toNat 1) (AA ((L T 106)) q 0) (AA ((L T 106)) q 1) < (AA ((L T 106)) (I T 107).toNat 2+AA ((L T 106)) q 2)*(AA ((L T 106)) (I T 107).toNat 2+AA ((L T 106)) q 2))(np3:¬B T 162=true)(g98:(B T 98)=true→((65536≤I T 1∧I T 1≤4194304)∧(65536≤I T 2∧I T 2≤4194304))∧CJ ((L T 106))=true)(g106:((L T 106)).length≤1000000000000000)(gi:0≤I T 107∧I T 107≤((L T 106)).length∧∀q:Nat,(q:Int) < I T 107→By (I T 1) (I T 2) ((L T 106)) q)(A0:AI T Cz)(B0:AI T B5)(A1:AI T DV)(B1:AI T CE)(A2:AI T EK)(C2_0:AI T Do)(B3:AI T C0)(C2_1:AI T Gl)(A4:AI T Qc):
  ((I T 176)=(AO g))∧
  (B T 98=true→BN (L T 4)=true)∧
  (B T 98=true→((L T 4)).length≤12):=by
 obtain⟨F0,A0⟩:=A0.cut
 obtain⟨F1,A0⟩:=A0.cut
 have F2:=A0;clear A0
 have F3:=B0;clear B0
 obtain⟨F4,A1⟩:=A1.cut
 obtain⟨F5,A1⟩:=A1.cut
 have F6:=A1;clear A1
 have F7:=B1;clear B1
 have F8:=A2;clear A2
 obtain⟨F9,C2_0⟩:=C2_0.cut
 have F10:=C2_0;clear C2_0
 obtain⟨F11,B3⟩:=B3.cut
 have F12:=B3;clear B3
 have F13:=C2_1;clear C2_1
 have F14:=A4;clear A4
 have hx:(B T 140)=true→I T 138 < I T 107∧(0≤I T 138→((B T 160)=true↔sq (AA ((L T 106)) (I T 107).toNat 0) (AA ((L T 106)) (I T 107).toNat 1) (AA ((L T 106)) (I T 138).toNat 0) (AA ((L T 106)) (I T 138).toNat 1) < (AA ((L T 106)) (I T 107).toNat 2+AA ((L T 106)) (I T 138).toNat 2)*(AA ((L T 106)) (I T 107).toNat 2+AA ((L T 106)) (I T 138).toNat 2))):=by
  obtain⟨e11,e12,-,e14,e15,e16,-,e18,e19,e20,e21,e22,-,e24,-,e26,-⟩:=F0
  obtain⟨e27,e28,-,e30,-,e32,e33,e34,-,e36,e37,e38,-,e40,e41,e42,-⟩:=F1
  obtain⟨-,e44,-⟩:=F2
  obtain⟨e46,e47,-,e49,-⟩:=F3
  obtain⟨e59,-,e61,e62,-,e64,-,e66,e67,e68,-,e70,-,e72,e73,e74,-⟩:=F4
  obtain⟨-,e76,e77,-,e79,e80,-,e82,e83,-,e85,e86,-,e88,e89,e90,-⟩:=F5
  obtain⟨e91,-,e93,-⟩:=F6
  obtain⟨e95,e96,-,e98,-⟩:=F7
  obtain⟨e106,-⟩:=F8
  obtain⟨e108,e109,e110,-,e112,e113,e114,e115,e116,-,e118,e119,-,-,e122,-⟩:=F9
  obtain⟨-,e125,-,-,-,e129,e130,e131,-,e133,e134,e135,-,e137,-⟩:=F10
  obtain⟨e139,e140,-,e142,e143,e144,e145,e146,e147,e148,e149,e150,e151,e152,e153,e154,-⟩:=F11
  obtain⟨e155,e156,e157,e158,e159,e160,-⟩:=F12
  replace e22:B T 22=(BC (S T 0)):=e22
  replace e106:L T 106=(AN g1):=by rw[←show gAt 0 (Cm.map (Rf.eval T))=g1 from z1.symm];exact e106
  simp only[AE,AG,zN,zR,AS,w2P,zL] at*
  intro hp
  have h1:=e140.1 hp
  have h2:=e139.1 h1.2
  obtain⟨k1,k2,k3⟩:=hin (h1.1)
  obtain⟨w1,w2,w3⟩:=gi
  obtain⟨d1,d2⟩:=g98 k1
  refine⟨by omega,fun v1=>?_⟩
  have r1:=DX.1 d2 (I T 107).toNat (by omega)
  have r2:=DX.1 d2 (I T 138).toNat (by omega)
  have p2:=w3 (I T 138).toNat (by omega)
  obtain⟨p3,p4,-⟩:=p2
  rw[←e142,←e143,←e153] at k3
  rw[←e153] at r1
  rw[←e142,←e143,←e153,←e144,←e145,←e154]
  rw[←e144,←e154] at p3
  rw[←e145,←e154] at p4
  rw[←e154] at r2
  have q154:(I T 154)=AA ((L T 106)) (I T 138).toNat 2:=e154
  have q156:(I T 156)=I T 153:=by rw[e156,e153]
  have q157:(I T 157)=I T 154:=by rw[e157,e154]
  have x146:=e146 (by omega) (by omega)
  have x147:=e147 (by omega) (by omega)
  have x149:=e149 (by omega) (by omega)
  have x150:=e150 (by omega) (by omega)
  have x155:=e155 (by omega) (by omega)
  have x158:=e158 (by omega) (by omega)
  have m1:=sqB (a:=I T 146) (A:=4194304) (by omega)
  have m2:=sqB (a:=I T 149) (A:=4194304) (by omega)
  have m3:=sqB (a:=I T 155) (A:=16384) (by omega)
  have x148:=e148 (by rw[x147,←x146];omega) (by rw[x147,←x146];omega)
  have x151:=e151 (by rw[x150,←x149];omega) (by rw[x150,←x149];omega)
  have x159:=e159 (by rw[x158,q156,q157,←x155];omega) (by rw[x158,q156,q157,←x155];omega)
  rw[x147,←x146] at x148
  rw[x150,←x149] at x151
  rw[x158,q156,q157,←x155] at x159
  have x152:=e152 (by omega) (by omega)
  rw[e160,x152,x148,x151,x159,x155]
  unfold sq
  rw[←x146,←x149]
 have h20:(B T 20)=true↔Jk g=true:=by
  obtain⟨e11,e12,-,e14,e15,e16,-,e18,e19,e20,-⟩:=F0
  simp only[AE,AG,zR,zL] at*
  rw[hg,VE,e20,e16,e12,e15,e19,e11,e14,e18]
  show _↔((((L T 4)).length < 1∨12 < ((L T 4)).length)∨256 < ((L T 10)).length)
  omega
 have hA:(B T 98)=true→((B T 164)=false↔Dm (I T 1) (I T 2) (CS ((L T 4)) (I T 5) (I T 6) (I T 7))=true):=by
  obtain⟨e11,e12,-,e14,e15,e16,-,e18,e19,e20,e21,e22,-,e24,-,e26,-⟩:=F0
  obtain⟨e27,e28,-,e30,-,e32,e33,e34,-,e36,e37,e38,-,e40,e41,e42,-⟩:=F1
  obtain⟨-,e44,-⟩:=F2
  obtain⟨e46,e47,-,e49,-⟩:=F3
  obtain⟨e59,-,e61,e62,-,e64,-,e66,e67,e68,-,e70,-,e72,e73,e74,-⟩:=F4
  obtain⟨-,e76,e77,-,e79,e80,-,e82,e83,-,e85,e86,-,e88,e89,e90,-⟩:=F5
  obtain⟨e91,-,e93,-⟩:=F6
  obtain⟨e95,e96,-,e98,-⟩:=F7
  obtain⟨e106,-⟩:=F8
  obtain⟨e108,e109,e110,-,e112,e113,e114,e115,e116,-,e118,e119,-,-,e122,-⟩:=F9
  obtain⟨-,e125,-,-,-,e129,e130,e131,-,e133,e134,e135,e136,e137,-⟩:=F10
  obtain⟨e139,e140,e141,e142,e143,e144,e145,e146,e147,e148,e149,e150,e151,e152,e153,e154,-⟩:=F11
  obtain⟨e155,e156,e157,e158,e159,e160,e161,e162,-⟩:=F12
  obtain⟨e164,-⟩:=F13
  replace e22:B T 22=(BC (S T 0)):=e22
  replace e106:L T 106=(AN g1):=by rw[←show gAt 0 (Cm.map (Rf.eval T))=g1 from z1.symm];exact e106
  simp only[AE,AG,zN,zR,AS,w2P,zL] at*
  intro hb
  obtain⟨v1,v2,v3⟩:=inv2
  obtain⟨w1,w2,w3⟩:=inv3
  obtain⟨d1,d2⟩:=h98 hb
  rw[←hp106,KU]
  constructor
  ·intro h
   have h2:¬I T 107 < ((L T 106)).length:=fun h2=>by
    have h109:(B T 109)=true:=e109.2 (by omega)
    have h110:(B T 110)=true:=e110.2 ⟨hb,h109⟩
    have h135:(B T 135)=false:=by
     cases k:(B T 135) with
     |false=>rfl
     |true=>have z:=e164.2 (.inl (e136.2 ⟨h110,k⟩));simp[h] at z
    have h137:(B T 137)=true:=e137.2 ⟨h110,h135⟩
    have h139:(B T 139)=true:=by
     cases k:(B T 139) with
     |true=>rfl
     |false=>have z:=e141.2 ⟨h137,k⟩;simp[np2] at z
    have h140:(B T 140)=true:=e140.2 ⟨h137,h139⟩
    cases k:(B T 160) with
    |true=>have z:=e164.2 (.inr (e161.2 ⟨h140,k⟩));simp[h] at z
    |false=>have z:=e162.2 ⟨h140,k⟩;simp[np3] at z
   exact fun j hj=>v3 j (by omega)
  ·intro hall
   cases k:(B T 164) with
   |false=>rfl
   |true=>
    exfalso
    rcases e164.1 k with h|h
    ·have h1:=e136.1 h
     have h2:=e109.1 (e110.1 h1.1).2
     have pk:=hall (I T 107).toNat (by omega)
     have r13:=DX.1 d2 (I T 107).toNat (by omega)
     obtain⟨p1,p2,-⟩:=pk
     rw[←e112] at p1
     rw[←e122] at p2
     have q114:(I T 114)=AA ((L T 106)) (I T 107).toNat 2:=e114
     have q129:(I T 129)=AA ((L T 106)) (I T 107).toNat 2:=e129
     have q113:(I T 113)=AA ((L T 106)) (I T 107).toNat 2:=e113
     have q125:(I T 125)=AA ((L T 106)) (I T 107).toNat 2:=e125
     rw[←q114] at p1 p2 r13 q129 q113 q125
     have d115:=e115 (by omega) (by omega)
     have d130:=e130 (by omega) (by omega)
     have h135:=h1.2
     clear e115 e130 v3 w3 hall d2 e114 e129 e113 e125 q114
     grind
    ·have h1:=e161.1 h
     obtain⟨h2,h3⟩:=hx h1.1
     have h4:=(h3 w1).1 h1.2
     have hin:=hin (e140.1 h1.1).1
     exact (hall (I T 107).toNat (by omega)).2.2 (I T 138).toNat (by omega) h4
 have hl:(B T 20)=false→(((B T 43)=false∧B T 57=false∧B T 92=false∧B T 104=false∧B T 164=false)↔IX ((S T 0)) (I T 1) (I T 2) (I T 3) ((L T 4)) (I T 5) (I T 6) (I T 7) (I T 8) (I T 9) ((L T 10))):=by
  obtain⟨e11,e12,-,e14,e15,e16,-,e18,e19,e20,e21,e22,-,e24,-,e26,-⟩:=F0
  obtain⟨e27,e28,-,e30,-,e32,e33,e34,-,e36,e37,e38,-,e40,e41,e42,-⟩:=F1
  obtain⟨e43,e44,-⟩:=F2
  obtain⟨e46,e47,e48,e49,e50,e51,e52,e53,e54,e55,-,e57,-⟩:=F3
  obtain⟨e59,-,e61,e62,-,e64,-,e66,e67,e68,-,e70,-,e72,e73,e74,-⟩:=F4
  obtain⟨-,e76,e77,-,e79,e80,-,e82,e83,-,e85,e86,-,e88,e89,e90,-⟩:=F5
  obtain⟨e91,e92,e93,-⟩:=F6
  obtain⟨e95,e96,e97,e98,e99,e100,e101,e102,-,e104,-⟩:=F7
  obtain⟨e106,-⟩:=F8
  obtain⟨e108,e109,e110,-,e112,e113,e114,e115,e116,-,e118,e119,-,-,e122,-⟩:=F9
  obtain⟨-,e125,-,-,-,e129,e130,e131,-,e133,e134,e135,e136,e137,-⟩:=F10
  obtain⟨e139,e140,-,e142,e143,e144,e145,e146,e147,e148,e149,e150,e151,e152,e153,e154,-⟩:=F11
  obtain⟨e155,e156,e157,e158,e159,e160,e161,-⟩:=F12
  obtain⟨e164,-⟩:=F13
  replace e22:B T 22=(BC (S T 0)):=e22
  replace e55:B T 55=(BI (I T 50) (I T 51) (I T 52) (I T 53)):=e55
  replace e102:B T 102=(BT (I T 99) (I T 100) (I T 101)):=e102
  replace e106:L T 106=(AN g1):=by rw[←show gAt 0 (Cm.map (Rf.eval T))=g1 from z1.symm];exact e106
  simp only[AE,AG,zN,zR,AS,w2P,zL] at*
  intro hb
  have q21:(B T 21)=true:=by clear h91 h42 hHo hCe hA hH2 hC2;grind
  unfold IX
  generalize hp2:(BC ((S T 0))=true∧(65536≤I T 1∧I T 1≤4194304)∧(65536≤I T 2∧I T 2≤4194304))=P1 at*
  generalize hp3:(0≤I T 3∧I T 3≤(if (I T 1)≤(I T 2) then (I T 1) else (I T 2)) / 4)=P2 at*
  generalize hp4:((1≤I T 8∧I T 8≤16)∧(1≤I T 9∧I T 9≤16)∧(((L T 10)).length:Int)=I T 8*I T 9)=P4 at*
  have hpeg:(1≤I T 7∧I T 7≤8192)→P1→Dm (I T 1) (I T 2) (CS ((L T 4)) (I T 5) (I T 6) (I T 7))=true→(0≤I T 5∧I T 5≤4194304)∧(0≤I T 6∧I T 6≤4194304):=fun h1 h2 h3=>by
   have:=aH h1.1 h3
   rw[←hp2] at h2
   omega
  clear hp2 hp3 hp4
  cases k42:(B T 42) with
  |true=>
   have:=e43.2 ⟨q21,k42⟩
   clear h91 hHo hCe hA hH2 hC2 hpeg
   grind
  |false=>
   have q44:=e44.2 ⟨q21,k42⟩
   have hHo:=hHo q44
   have hH2:=hH2 q44
   cases k57:(B T 57) with
   |true=>
    clear h91 hCe hA hC2 hpeg
    grind
   |false=>
    have h1:=hHo.1 k57
    have q49:=hH2.2 h1
    cases k91:(B T 91) with
    |true=>
     have:=e92.2 ⟨q49,k91⟩
     clear hCe hA hC2
     grind
    |false=>
     have q93:=e93.2 ⟨q49,k91⟩
     have hCe:=hCe q93
     have hC2:=hC2 q93
     cases k104:(B T 104) with
     |true=>
      clear hA hpeg
      grind
     |false=>
      have h2:=hCe.1 k104
      have hA:=hA (hC2.2 h2)
      grind
 refine⟨?_,?_,?_⟩
 ·obtain⟨e11,e12,-,e14,e15,e16,-,e18,e19,e20,e21,e22,-,e24,-,e26,-⟩:=F0
  obtain⟨e27,e28,-,e30,-,e32,e33,e34,-,e36,e37,e38,-,e40,e41,e42,-⟩:=F1
  obtain⟨e43,e44,-⟩:=F2
  obtain⟨e46,e47,e48,e49,e50,e51,e52,e53,e54,e55,e56,e57,-⟩:=F3
  obtain⟨e59,-,e61,e62,-,e64,-,e66,e67,e68,-,e70,-,e72,e73,e74,-⟩:=F4
  obtain⟨-,e76,e77,-,e79,e80,-,e82,e83,-,e85,e86,-,e88,e89,e90,-⟩:=F5
  obtain⟨e91,e92,e93,-⟩:=F6
  obtain⟨e95,e96,e97,e98,e99,e100,e101,e102,e103,e104,-⟩:=F7
  obtain⟨e106,-⟩:=F8
  obtain⟨e108,e109,e110,-,e112,e113,e114,e115,e116,-,e118,e119,-,-,e122,-⟩:=F9
  obtain⟨-,e125,-,-,-,e129,e130,e131,-,e133,e134,e135,e136,e137,-⟩:=F10
  obtain⟨e139,e140,e141,e142,e143,e144,e145,e146,e147,e148,e149,e150,e151,e152,e153,e154,-⟩:=F11
  obtain⟨e155,e156,e157,e158,e159,e160,e161,e162,-⟩:=F12
  obtain⟨e164,-⟩:=F13
  obtain⟨e166,-,e168,-,e170,-,e172,-,e174,-,e176,-⟩:=F14
  replace e22:B T 22=(BC (S T 0)):=e22
  replace e55:B T 55=(BI (I T 50) (I T 51) (I T 52) (I T 53)):=e55
  replace e102:B T 102=(BT (I T 99) (I T 100) (I T 101)):=e102
  replace e106:L T 106=(AN g1):=by rw[←show gAt 0 (Cm.map (Rf.eval T))=g1 from z1.symm];exact e106
  simp only[AE,AG,zN,zR,AS,w2P,zL] at*
  unfold AO
  rw[e176]
  cases k20:(B T 20) with
  |true=>
   rw[if_pos rfl,if_pos (h20.1 k20)]
  |false=>
   have hm:¬Jk g=true:=fun h=>by have:=h20.2 h;simp[k20] at this
   have hk:=hl k20
   rw[if_neg hm,if_neg (by simp)]
   have hl:MA g=true↔IX ((S T 0)) (I T 1) (I T 2) (I T 3) ((L T 4)) (I T 5) (I T 6) (I T 7) (I T 8) (I T 9) ((L T 10)):=by rw[hg];exact O5
   rw[←hl] at hk
   rw[e174,e172,e170,e168,e166]
   by_cases hn:MA g=true
   ·rw[if_pos hn]
    obtain⟨k1,k2,k3,k4,k5⟩:=hk.2 hn
    rw[k1,k2,k3,k4,k5]
    rfl
   ·rw[if_neg hn]
    have:=fun a b c d e=>hn (hk.1 ⟨a,b,c,d,e⟩)
    clear hk hl hn h42 h91 hHo hCe hH2 hC2 hA hx
    grind
 ·obtain⟨e11,e12,-,e14,e15,e16,-,e18,e19,e20,e21,e22,-,e24,-,e26,-⟩:=F0
  obtain⟨e27,e28,-,e30,-,e32,e33,e34,-,e36,e37,e38,-,e40,e41,e42,-⟩:=F1
  obtain⟨-,e44,-⟩:=F2
  obtain⟨e46,e47,-,e49,-⟩:=F3
  obtain⟨e59,-,e61,e62,-,e64,-,e66,e67,e68,-,e70,-,e72,e73,e74,-⟩:=F4
  obtain⟨-,e76,e77,-,e79,e80,-,e82,e83,-,e85,e86,-,e88,e89,e90,-⟩:=F5
  obtain⟨e91,-,e93,-⟩:=F6
  obtain⟨e95,e96,-,e98,-⟩:=F7
  replace e22:B T 22=(BC (S T 0)):=e22
  simp only[AE,AG,zN,zR,AS,w2P,zL] at*
  intro hp
  exact (h98x hp).2.2.1
 ·obtain⟨e11,e12,-,e14,e15,e16,-,e18,e19,e20,e21,e22,-,e24,-,e26,-⟩:=F0
  obtain⟨e27,e28,-,e30,-,e32,e33,e34,-,e36,e37,e38,-,e40,e41,e42,-⟩:=F1
  obtain⟨-,e44,-⟩:=F2
  obtain⟨e46,e47,-,e49,-⟩:=F3
  obtain⟨e59,-,e61,e62,-,e64,-,e66,e67,e68,-,e70,-,e72,e73,e74,-⟩:=F4
  obtain⟨-,e76,e77,-,e79,e80,-,e82,e83,-,e85,e86,-,e88,e89,e90,-⟩:=F5
  obtain⟨e91,-,e93,-⟩:=F6
  obtain⟨e95,e96,-,e98,-⟩:=F7
  replace e22:B T 22=(BC (S T 0)):=e22
  simp only[AE,AG,zN,zR,AS,w2P,zL] at*
  intro hp
  exact (h98x hp).2.2.2
theorem Rv:Ao Try.prog 16 Ci:=by
 refine AZ (l:=[(65,I5),(67,Kx),(68,Kp),(69,Ef)]) BH (by simp only[List.forall_mem_cons];exact⟨dV,eX,dO,an,fun _ h=>absurd h (by simp)⟩) dp (by kernel_rfl) fun T us hpre hT hul hS hBd hE=>?_
 change us.length=11 at hul
 obtain⟨hz0,-,-,-,⟨hl4,he4⟩,-,-,-,-,-,⟨hl10,he10⟩,-⟩:=hBd
 replace hz0:(S T 0).size≤140737488355328:=hz0
 replace hl4:(L T 4).length≤140737488355328:=hl4
 replace hl10:(L T 10).length≤140737488355328:=hl10
 obtain⟨g,hg⟩:∃g:Ln,g=Ln.mk (S T 0) (I T 1) (I T 2) (I T 3) (L T 4) (I T 5) (I T 6) (I T 7) (I T 8) (I T 9) (L T 10):=⟨_,rfl⟩
 have hgu:gAt 0 us=g:=by rw[hg];exact Cu hT hul (by decide)
 clear hpre
 rw[List.map_append,List.map_append,List.map_append,List.map_append,List.map_append,List.map_append,List.map_append,List.map_append,List.map_append] at hE
 have hA:=hE.left
 replace hE:=hE.right
 have hH:=hE.left
 replace hE:=hE.right
 have hB:=hE.left
 replace hE:=hE.right
 obtain⟨A0,hS1⟩:=AV hS (by kernel_rfl) hA
 obtain⟨ow0,hS2,inv0,np0⟩:=Yq hl4 hS1 hB hH
 have hF2:=(AV (hS2.append hS1) (l:=B5) (by kernel_rfl) hB)
 obtain⟨B0,hS⟩:=hF2
 clear hA hB hH hS1 hS2
 have hA:=hE.left
 replace hE:=hE.right
 have hH:=hE.left
 replace hE:=hE.right
 have hB:=hE.left
 replace hE:=hE.right
 obtain⟨A1,hS1⟩:=AV hS (by kernel_rfl) hA
 obtain⟨ow1,hS2,inv1,np1⟩:=ZD hl10 hS1 hB hH
 have hF2:=(AV (hS2.append hS1) (l:=CE) (by kernel_rfl) hB)
 obtain⟨B1,hS⟩:=hF2
 clear hA hB hH hS1 hS2
 have hA:=hE.left
 replace hE:=hE.right
 have hH:=hE.left
 replace hE:=hE.right
 have hB:=hE.left
 replace hE:=hE.right
 obtain⟨A2,hS1⟩:=AV hS (by kernel_rfl) hA
 obtain⟨g1,z1⟩:∃g:Ln,g=Ln.mk (S T 0) (I T 1) (I T 2) (I T 3) (L T 4) (I T 5) (I T 6) (I T 7) (I T 8) (I T 9) (L T 10):=⟨_,rfl⟩
 obtain⟨h42,h91,hHo,hCe,hH2,hC2,hp106,h106,h98x,h98⟩:=Ve hz0 hl4 hl10 g hg inv0 np0 inv1 np1 g1 z1 A0 B0 A1 B1 A2
 obtain⟨ow2,hS2,inv2,np2⟩:=ZP h106 h98 hS1 hB hH
 have g98:(B T 98)=true→((65536≤I T 1∧I T 1≤4194304)∧(65536≤I T 2∧I T 2≤4194304))∧CJ ((L T 106))=true:=by
  have fv106:L T 106=L T 106:=rfl
  have fv2:I T 2=I T 2:=rfl
  have fv1:I T 1=I T 1:=rfl
  have fv98:B T 98=B T 98:=rfl
  have inv:=inv2
  rw[fv98,fv1,fv2,fv106];exact h98
 have g106:((L T 106)).length≤1000000000000000:=by
  have fv106:L T 106=L T 106:=rfl
  have fv2:I T 2=I T 2:=rfl
  have fv1:I T 1=I T 1:=rfl
  have fv98:B T 98=B T 98:=rfl
  have inv:=inv2
  rw[fv106];exact h106
 have gi:0≤I T 107∧I T 107≤((L T 106)).length∧∀q:Nat,(q:Int) < I T 107→By (I T 1) (I T 2) ((L T 106)) q:=by
  have fv106:L T 106=L T 106:=rfl
  have fv2:I T 2=I T 2:=rfl
  have fv1:I T 1=I T 1:=rfl
  have fv98:B T 98=B T 98:=rfl
  have inv:=inv2
  rw[fv1,fv2,fv106];exact inv
 obtain⟨C2_0,hin,ow3,inv3,np3,B3,C2_1,hSe⟩:=QK g98 g106 gi (hS2.append (Dj (fun _ _=>rfl) hS1)) hB
 have hS:=hSe.append hS1
 clear hA hB hH hS1 hS2 hSe
 obtain⟨A4,hO⟩:=Ap (tys:=[.i]) (rs:=Us) hS (by kernel_rfl) hE
 obtain⟨q0,r0,r1⟩:=dB hz0 hl4 hl10 g hg inv0 np0 inv1 np1 g1 z1 h42 h91 hHo hCe hH2 hC2 hp106 h106 h98x h98 inv2 np2 hin inv3 np3 g98 g106 gi A0 B0 A1 B1 A2 C2_0 B3 C2_1 A4
 refine⟨⟨(fun _=>ow2),r0,r1,(fun _=>ow1),(fun _=>ow0),trivial⟩,hO.trans ?_⟩
 exact (lc (by show U.int (I T 176)= .int (EB us);unfold EB;rw[hgu];exact congrArg U.int q0) rfl)
end Go.Eng
end
