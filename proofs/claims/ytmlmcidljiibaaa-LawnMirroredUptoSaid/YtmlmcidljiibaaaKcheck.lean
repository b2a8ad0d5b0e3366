/-
  A part of the proof: K_checkd K_check.
-/
import Derived.Test.YtmlmcidljiibaaaE4
import Derived.Test.YtmlmcidljiibaaaE5
import Derived.Test.YtmlmcidljiibaaaKvname
import Derived.Test.YtmlmcidljiibaaaKvhoop
import Derived.Test.YtmlmcidljiibaaaKvcell
import Derived.Test.YtmlmcidljiibaaaKposts
import Derived.Test.YtmlmcidljiibaaaKapart
set_option linter.unusedVariables false
set_option linter.unusedSimpArgs false
noncomputable section
open Go Go.Eng Go.Proofs
set_option maxHeartbeats 4000000
set_option maxRecDepth 100000
namespace Go.Eng
def Hy:List U→Int:=fun us=>(AO (gAt 0 us))
def FI:Ak:={ sh:=[.agg [.str,k64,k64,k64,.list [k64,k64,k64,k64,.bool],k64,k64,k64,k64,k64,.list [k64,k64,k64]]],blks:=[],outs:=[(.s "check.0",Bi Hy)],c:=(CP 11),m':=[],pre:=[] }
def E9:List Rf:=[.e 0,.e 1,.e 2,.e 3,.e 4,.e 5,.e 6,.e 7,.e 8,.e 9,.e 10]
def Me:List Rf:=[.e 0,.e 1,.e 2,.e 3,.e 4,.e 5,.e 6,.e 7,.e 8,.e 9,.e 10,.e 104]
def Wt:List En:=[⟨11,.len,[.e 4]⟩,
 ⟨12,.lt,[.e 11,.c (.int 1)]⟩,
 ⟨13,.not,[.e 12]⟩,
 ⟨14,.len,[.e 4]⟩,
 ⟨15,.lt,[.c (.int 12),.e 14]⟩,
 ⟨16,.or,[.e 12,.e 15]⟩,
 ⟨17,.not,[.e 16]⟩,
 ⟨18,.len,[.e 10]⟩,
 ⟨19,.lt,[.c (.int 256),.e 18]⟩,
 ⟨20,.or,[.e 16,.e 19]⟩,
 ⟨21,.not,[.e 20]⟩,
 ⟨22,.outB "vname.0" Md,[.e 0]⟩,
 ⟨23,.and,[.e 21,.e 22]⟩,
 ⟨24,.le,[.c (.int 65536),.e 1]⟩,
 ⟨25,.and,[.e 23,.e 24]⟩,
 ⟨26,.le,[.e 1,.c (.int 4194304)]⟩]
def Vw:List En:=[⟨27,.and,[.e 24,.e 26]⟩,
 ⟨28,.or,[.n 22,.n 27]⟩,
 ⟨29,.and,[.e 21,.n 28]⟩,
 ⟨30,.le,[.c (.int 65536),.e 2]⟩,
 ⟨31,.and,[.e 29,.e 30]⟩,
 ⟨32,.le,[.e 2,.c (.int 4194304)]⟩,
 ⟨33,.and,[.e 30,.e 32]⟩,
 ⟨34,.or,[.e 28,.n 33]⟩,
 ⟨35,.and,[.e 21,.e 34]⟩,
 ⟨36,.and,[.e 21,.n 34]⟩,
 ⟨37,.o2 .min,[.e 1,.e 2]⟩,
 ⟨38,.o2 .tdiv,[.e 37,.c (.int 4)]⟩,
 ⟨39,.le,[.c (.int 0),.e 3]⟩,
 ⟨40,.and,[.e 36,.e 39]⟩,
 ⟨41,.le,[.e 3,.e 38]⟩,
 ⟨42,.and,[.e 39,.e 41]⟩]
def V3:List En:=[⟨43,.and,[.e 36,.e 42]⟩,
 ⟨44,.le,[.c (.int 1),.e 7]⟩,
 ⟨45,.and,[.e 43,.e 44]⟩,
 ⟨46,.le,[.e 7,.c (.int 8192)]⟩,
 ⟨47,.and,[.e 44,.e 46]⟩,
 ⟨48,.or,[.n 42,.n 47]⟩,
 ⟨49,.and,[.e 36,.e 48]⟩,
 ⟨50,.and,[.e 36,.n 48]⟩,
 ⟨51,.lt,[.e 8,.c (.int 1)]⟩,
 ⟨52,.and,[.e 50,.n 51]⟩,
 ⟨53,.lt,[.c (.int 16),.e 8]⟩,
 ⟨54,.or,[.e 51,.e 53]⟩,
 ⟨55,.and,[.e 50,.n 54]⟩,
 ⟨56,.lt,[.e 9,.c (.int 1)]⟩,
 ⟨57,.or,[.e 54,.e 56]⟩,
 ⟨58,.and,[.e 50,.n 57]⟩]
def WN:List En:=[⟨59,.lt,[.c (.int 16),.e 9]⟩,
 ⟨60,.or,[.e 57,.e 59]⟩,
 ⟨61,.and,[.e 50,.n 60]⟩,
 ⟨62,.len,[.e 10]⟩,
 ⟨63,.w2 .i64 .mul,[.e 8,.e 9]⟩,
 ⟨64,.ne,[.e 62,.e 63]⟩,
 ⟨65,.or,[.e 60,.e 64]⟩,
 ⟨66,.and,[.e 50,.e 65]⟩,
 ⟨67,.and,[.e 50,.n 65]⟩,
 ⟨68,.len,[.e 4]⟩]
def Gb:List En:=Wt++(Vw++(V3++(WN)))
def Wu:List En:=[⟨70,.lt,[.e 69,.e 68]⟩,
 ⟨71,.and,[.e 67,.e 70]⟩,
 ⟨72,.and,[.e 67,.n 70]⟩,
 ⟨73,.get .i 0,[.e 4,.e 69]⟩,
 ⟨74,.get .i 1,[.e 4,.e 69]⟩,
 ⟨75,.get .i 2,[.e 4,.e 69]⟩,
 ⟨76,.get .i 3,[.e 4,.e 69]⟩,
 ⟨77,.get .b 4,[.e 4,.e 69]⟩,
 ⟨78,.outB "vhoop.0" KC,[.e 73,.e 74,.e 75,.e 76,.e 77]⟩,
 ⟨79,.and,[.e 71,.e 78]⟩,
 ⟨80,.and,[.e 71,.n 78]⟩,
 ⟨81,.w2 .i64 .add,[.e 69,.c (.int 1)]⟩]
def Dc:List En:=Wu
def Se:List ObE:=[⟨some 71,.inl,[.e 69,.e 4]⟩]
def KP:Ae:=mkD 69 1 Dc 79 [.e 81] Se [4,67,68]
def Mu:List Rf:=[.e 4,.e 67,.e 68,.c (.int 0)]
def Vu:List En:=[⟨82,.ite .i,[.e 80,.e 69,.c (.int (-1))]⟩,
 ⟨83,.or,[.e 80,.e 72]⟩,
 ⟨84,.le,[.c (.int 0),.e 82]⟩,
 ⟨85,.and,[.e 67,.e 84]⟩,
 ⟨86,.and,[.e 67,.n 84]⟩,
 ⟨87,.len,[.e 10]⟩]
def Jx:List En:=Vu
def WK:List En:=[⟨89,.lt,[.e 88,.e 87]⟩,
 ⟨90,.and,[.e 86,.e 89]⟩,
 ⟨91,.and,[.e 86,.n 89]⟩,
 ⟨92,.get .i 0,[.e 10,.e 88]⟩,
 ⟨93,.get .i 1,[.e 10,.e 88]⟩,
 ⟨94,.get .i 2,[.e 10,.e 88]⟩,
 ⟨95,.outB "vcell.0" Jh,[.e 92,.e 93,.e 94]⟩,
 ⟨96,.and,[.e 90,.e 95]⟩,
 ⟨97,.and,[.e 90,.n 95]⟩,
 ⟨98,.w2 .i64 .add,[.e 88,.c (.int 1)]⟩]
def E1:List En:=WK
def Ra:List ObE:=[⟨some 90,.inl,[.e 88,.e 10]⟩]
def Jg:Ae:=mkD 88 1 E1 96 [.e 98] Ra [10,86,87]
def Mw:List Rf:=[.e 10,.e 86,.e 87,.c (.int 0)]
def WD:List En:=[⟨99,.ite .i,[.e 97,.e 88,.c (.int (-1))]⟩,
 ⟨100,.or,[.e 97,.e 91]⟩,
 ⟨101,.le,[.c (.int 0),.e 99]⟩,
 ⟨102,.and,[.e 86,.e 101]⟩,
 ⟨103,.and,[.e 86,.n 101]⟩,
 ⟨104,.outL "posts.0" Ht,E9⟩,
 ⟨105,.outB "apart.0" KN,Me⟩,
 ⟨106,.and,[.e 103,.e 105]⟩,
 ⟨107,.and,[.e 103,.n 105]⟩,
 ⟨108,.or,[.e 102,.e 107]⟩,
 ⟨109,.or,[.e 85,.e 108]⟩,
 ⟨110,.or,[.e 66,.e 109]⟩,
 ⟨111,.or,[.e 49,.e 110]⟩,
 ⟨112,.or,[.e 35,.e 111]⟩,
 ⟨113,.ite .i,[.e 20,.c (.int 6),.c (.int 2)]⟩,
 ⟨114,.or,[.e 20,.e 112]⟩]
def VW:List En:=[⟨115,.ite .i,[.e 114,.e 113,.c (.int 0)]⟩,
 ⟨116,.or,[.e 114,.e 106]⟩]
def Ri:List En:=WD++(VW)
def iP:List ObE:=[⟨some 103,.pre "apart.p0" Hl,Me⟩,
 ⟨some 103,.pre "apart.p1" Hk,Me⟩,
 ⟨some 103,.pre "posts.p0" GY,E9⟩,
 ⟨some 103,.pre "posts.p1" GW,E9⟩,
 ⟨some 86,.owes Jg,[.e 10,.e 86,.e 87,.c (.int 0)]⟩,
 ⟨some 67,.owes KP,[.e 4,.e 67,.e 68,.c (.int 0)]⟩]
def XO:List Rf:=[.e 115]
theorem fw:FI.sees XO (FI.run Try.prog [(100,RI),(103,LL),(106,LE),(74,EQ),(107,Dw)] Ag 3000 20 86)=some ((Gb++((Ax KP [.i] Mu)++(Dc++(Jx++((Ax Jg [.i] Mw)++(E1++(Ri))))))).map En.be,iP.map ObE.be,[]):=by kernel_rfl
theorem YI {T:Tab}(hz0:(S T 0).size≤140737488355328)(hl4:(L T 4).length≤140737488355328)(hl10:(L T 10).length≤140737488355328)(g:Ln)(hg:g=Ln.mk (S T 0) (I T 1) (I T 2) (I T 3) (L T 4) (I T 5) (I T 6) (I T 7) (I T 8) (I T 9) (L T 10))(A0:AI T Gb):
  ((I T 68)=((L T 4)).length):=by
 obtain⟨F0,A0⟩:=A0.cut
 obtain⟨F1,A0⟩:=A0.cut
 obtain⟨F2,A0⟩:=A0.cut
 have F3:=A0;clear A0
 have h68:(I T 68)=((L T 4)).length:=by
  obtain⟨-,-,-,-,-,-,-,-,-,e68,-⟩:=F3
  simp only[AE,zR,zL] at e68
  exact e68
 exact h68
theorem aA {T:Tab}(hl4:(L T 4).length≤140737488355328)(h68:(I T 68)=((L T 4)).length)(hS:AL T (Am (BG 0 FI.ks) Gb))(hB:AX T (Dc.map En.be))(hH:AX T ((Ax KP [.i] Mu).map En.be)):
  (KP).owes (Mu.map (Rf.eval T))∧AL T (hds 69 [.i])∧(0≤I T 69∧I T 69≤((L T 4)).length∧∀q:Nat,(q:Int) < I T 69→BI (AA ((L T 4)) q 0) (AA ((L T 4)) q 1) (AA ((L T 4)) q 2) (AA ((L T 4)) q 3)=true)∧¬B T 79=true:=by
 refine BS (nh:=69) (k:=1) (pcn:=79) (top:=82) (bes:=Dc) (bos:=Se) (nxt:=[.e 81]) (inits:=[.c (.int 0)]) (fv:=[4,67,68]) (tys:=[.i]) (by kernel_rfl) rfl rfl rfl rfl hS (by kernel_rfl) (by kernel_rfl) hB (Ay hH) (fun s=>0≤(aI s 0)∧(aI s 0)≤((L T 4)).length∧∀q:Nat,(q:Int) < (aI s 0)→BI (AA ((L T 4)) q 0) (AA ((L T 4)) q 1) (AA ((L T 4)) q 2) (AA ((L T 4)) q 3)=true) (fun s=>(((L T 4)).length - (aI s 0)).toNat) ?_ ?_
 ·show 0≤(0:Int)∧(0:Int)≤((L T 4)).length∧∀q:Nat,(q:Int) < (0:Int)→BI (AA ((L T 4)) q 0) (AA ((L T 4)) q 1) (AA ((L T 4)) q 2) (AA ((L T 4)) q 3)=true
  clear hS hB hH
  exact⟨by omega,by omega,fun q h=>absurd h (by omega)⟩
 ·intro T2 hfv hF inv
  replace inv:0≤I T2 69∧I T2 69≤((L T 4)).length∧∀q:Nat,(q:Int) < I T2 69→BI (AA ((L T 4)) q 0) (AA ((L T 4)) q 1) (AA ((L T 4)) q 2) (AA ((L T 4)) q 3)=true:=inv
  clear hS hB hH
  replace hF:AI T2 Dc:=hF
  have F0:=hF;clear hF
  have fv4:L T2 4=L T 4:=fvL (hfv 4 (by decide))
  have fv67:B T2 67=B T 67:=fvB (hfv 67 (by decide))
  have fv68:I T2 68=I T 68:=fvI (hfv 68 (by decide))
  clear hfv
  suffices hz:(B T2 71=true→0≤I T2 69∧I T2 69 < ((L T2 4)).length)∧(B T2 79=true→(0≤I T2 81∧I T2 81≤((L T 4)).length∧∀q:Nat,(q:Int) < I T2 81→BI (AA ((L T 4)) q 0) (AA ((L T 4)) q 1) (AA ((L T 4)) q 2) (AA ((L T 4)) q 3)=true))∧(B T2 79=true→(((L T 4)).length - (I T2 81)).toNat < (((L T 4)).length - (I T2 69)).toNat) from
   let⟨r0,nx,mz⟩:=hz;⟨⟨r0,trivial⟩,fun hp=>⟨nx hp,mz hp⟩⟩
  refine⟨?_,?_,?_⟩
  ·obtain⟨e70,e71,-⟩:=F0
   simp only[AE,AG,zR] at e70 e71
   obtain⟨v1,v2,v3⟩:=inv
   intro hp
   have h:=e70.1 (e71.1 hp).2
   rw[fv4]
   omega
  ·obtain⟨e70,e71,-,e73,e74,e75,e76,e77,e78,e79,-,e81,-⟩:=F0
   replace e78:B T2 78=(BI (I T2 73) (I T2 74) (I T2 75) (I T2 76)):=e78
   simp only[AE,AG,zR,w2P,zL] at*
   obtain⟨v1,v2,v3⟩:=inv
   intro hp
   have hq:=e79.1 hp
   have h:=e70.1 (e71.1 hq.1).2
   have e:(I T2 81)=I T2 69+1:=e81 (by omega) (by omega)
   refine⟨by omega,by omega,fun q hq'=>?_⟩
   by_cases hq2:(q:Int) < I T2 69
   ·exact v3 q hq2
   obtain rfl:q=(I T2 69).toNat:=by omega
   rw[←fv4,←e73,←e74,←e75,←e76,←e78]
   exact hq.2
  ·obtain⟨e70,e71,-,e73,e74,e75,e76,e77,e78,e79,-,e81,-⟩:=F0
   replace e78:B T2 78=(BI (I T2 73) (I T2 74) (I T2 75) (I T2 76)):=e78
   simp only[AE,AG,zR,w2P,zL] at*
   obtain⟨v1,v2,v3⟩:=inv
   intro hp
   have h:=e70.1 (e71.1 (e79.1 hp).1).2
   have e:(I T2 81)=I T2 69+1:=e81 (by omega) (by omega)
   omega
theorem Yj {T:Tab}(hz0:(S T 0).size≤140737488355328)(hl4:(L T 4).length≤140737488355328)(hl10:(L T 10).length≤140737488355328)(g:Ln)(hg:g=Ln.mk (S T 0) (I T 1) (I T 2) (I T 3) (L T 4) (I T 5) (I T 6) (I T 7) (I T 8) (I T 9) (L T 10))(h68:(I T 68)=((L T 4)).length)(inv0:0≤I T 69∧I T 69≤((L T 4)).length∧∀q:Nat,(q:Int) < I T 69→BI (AA ((L T 4)) q 0) (AA ((L T 4)) q 1) (AA ((L T 4)) q 2) (AA ((L T 4)) q 3)=true)(np0:¬B T 79=true)(A0:AI T Gb)(B0:AI T Dc)(A1:AI T Jx):
  ((I T 87)=((L T 10)).length):=by
 obtain⟨F0,A0⟩:=A0.cut
 obtain⟨F1,A0⟩:=A0.cut
 obtain⟨F2,A0⟩:=A0.cut
 have F3:=A0;clear A0
 have F4:=B0;clear B0
 have F5:=A1;clear A1
 have h87:(I T 87)=((L T 10)).length:=by
  obtain⟨-,-,-,-,-,e87,-⟩:=F5
  simp only[AE,zR,zL] at e87
  exact e87
 exact h87
theorem cG {T:Tab}(hl10:(L T 10).length≤140737488355328)(h87:(I T 87)=((L T 10)).length)(hS:AL T (Am (Am (hds 69 [.i]++Am (BG 0 FI.ks) Gb) Dc) Jx))(hB:AX T (E1.map En.be))(hH:AX T ((Ax Jg [.i] Mw).map En.be)):
  (Jg).owes (Mw.map (Rf.eval T))∧AL T (hds 88 [.i])∧(0≤I T 88∧I T 88≤((L T 10)).length∧∀q:Nat,(q:Int) < I T 88→BT (AA ((L T 10)) q 0) (AA ((L T 10)) q 1) (AA ((L T 10)) q 2)=true)∧¬B T 96=true:=by
 refine BS (nh:=88) (k:=1) (pcn:=96) (top:=99) (bes:=E1) (bos:=Ra) (nxt:=[.e 98]) (inits:=[.c (.int 0)]) (fv:=[10,86,87]) (tys:=[.i]) (by kernel_rfl) rfl rfl rfl rfl hS (by kernel_rfl) (by kernel_rfl) hB (Ay hH) (fun s=>0≤(aI s 0)∧(aI s 0)≤((L T 10)).length∧∀q:Nat,(q:Int) < (aI s 0)→BT (AA ((L T 10)) q 0) (AA ((L T 10)) q 1) (AA ((L T 10)) q 2)=true) (fun s=>(((L T 10)).length - (aI s 0)).toNat) ?_ ?_
 ·show 0≤(0:Int)∧(0:Int)≤((L T 10)).length∧∀q:Nat,(q:Int) < (0:Int)→BT (AA ((L T 10)) q 0) (AA ((L T 10)) q 1) (AA ((L T 10)) q 2)=true
  clear hS hB hH
  exact⟨by omega,by omega,fun q h=>absurd h (by omega)⟩
 ·intro T2 hfv hF inv
  replace inv:0≤I T2 88∧I T2 88≤((L T 10)).length∧∀q:Nat,(q:Int) < I T2 88→BT (AA ((L T 10)) q 0) (AA ((L T 10)) q 1) (AA ((L T 10)) q 2)=true:=inv
  clear hS hB hH
  replace hF:AI T2 E1:=hF
  have F0:=hF;clear hF
  have fv10:L T2 10=L T 10:=fvL (hfv 10 (by decide))
  have fv86:B T2 86=B T 86:=fvB (hfv 86 (by decide))
  have fv87:I T2 87=I T 87:=fvI (hfv 87 (by decide))
  clear hfv
  suffices hz:(B T2 90=true→0≤I T2 88∧I T2 88 < ((L T2 10)).length)∧(B T2 96=true→(0≤I T2 98∧I T2 98≤((L T 10)).length∧∀q:Nat,(q:Int) < I T2 98→BT (AA ((L T 10)) q 0) (AA ((L T 10)) q 1) (AA ((L T 10)) q 2)=true))∧(B T2 96=true→(((L T 10)).length - (I T2 98)).toNat < (((L T 10)).length - (I T2 88)).toNat) from
   let⟨r0,nx,mz⟩:=hz;⟨⟨r0,trivial⟩,fun hp=>⟨nx hp,mz hp⟩⟩
  refine⟨?_,?_,?_⟩
  ·obtain⟨e89,e90,-⟩:=F0
   simp only[AE,AG,zR] at e89 e90
   obtain⟨v1,v2,v3⟩:=inv
   intro hp
   have h:=e89.1 (e90.1 hp).2
   rw[fv10]
   omega
  ·obtain⟨e89,e90,-,e92,e93,e94,e95,e96,-,e98,-⟩:=F0
   replace e95:B T2 95=(BT (I T2 92) (I T2 93) (I T2 94)):=e95
   simp only[AE,AG,zR,w2P,zL] at*
   obtain⟨v1,v2,v3⟩:=inv
   intro hp
   have hq:=e96.1 hp
   have h:=e89.1 (e90.1 hq.1).2
   have e:(I T2 98)=I T2 88+1:=e98 (by omega) (by omega)
   refine⟨by omega,by omega,fun q hq'=>?_⟩
   by_cases hq2:(q:Int) < I T2 88
   ·exact v3 q hq2
   obtain rfl:q=(I T2 88).toNat:=by omega
   rw[←fv10,←e92,←e93,←e94,←e95]
   exact hq.2
  ·obtain⟨e89,e90,-,e92,e93,e94,e95,e96,-,e98,-⟩:=F0
   replace e95:B T2 95=(BT (I T2 92) (I T2 93) (I T2 94)):=e95
   simp only[AE,AG,zR,w2P,zL] at*
   obtain⟨v1,v2,v3⟩:=inv
   intro hp
   have h:=e89.1 (e90.1 (e96.1 hp).1).2
   have e:(I T2 98)=I T2 88+1:=e98 (by omega) (by omega)
   omega
theorem fp {T:Tab}(hz0:(S T 0).size≤140737488355328)(hl4:(L T 4).length≤140737488355328)(hl10:(L T 10).length≤140737488355328)(g:Ln)(hg:g=Ln.mk (S T 0) (I T 1) (I T 2) (I T 3) (L T 4) (I T 5) (I T 6) (I T 7) (I T 8) (I T 9) (L T 10))(h68:(I T 68)=((L T 4)).length)(inv0:0≤I T 69∧I T 69≤((L T 4)).length∧∀q:Nat,(q:Int) < I T 69→BI (AA ((L T 4)) q 0) (AA ((L T 4)) q 1) (AA ((L T 4)) q 2) (AA ((L T 4)) q 3)=true)(np0:¬B T 79=true)(h87:(I T 87)=((L T 10)).length)(inv1:0≤I T 88∧I T 88≤((L T 10)).length∧∀q:Nat,(q:Int) < I T 88→BT (AA ((L T 10)) q 0) (AA ((L T 10)) q 1) (AA ((L T 10)) q 2)=true)(np1:¬B T 96=true)(g1:Ln)(z1:g1=Ln.mk (S T 0) (I T 1) (I T 2) (I T 3) (L T 4) (I T 5) (I T 6) (I T 7) (I T 8) (I T 9) (L T 10))(A0:AI T Gb)(B0:AI T Dc)(A1:AI T Jx)(B1:AI T E1)(A2:AI T Ri):
  ((I T 115)=(AO g))∧
  (B T 103=true→CJ (L T 104)=true)∧
  (B T 103=true→(65536≤I T 1∧I T 1≤4194304)∧65536≤I T 2∧I T 2≤4194304)∧
  (B T 103=true→BN (L T 4)=true)∧
  (B T 103=true→((L T 4)).length≤12):=by
 obtain⟨F0,A0⟩:=A0.cut
 obtain⟨F1,A0⟩:=A0.cut
 obtain⟨F2,A0⟩:=A0.cut
 have F3:=A0;clear A0
 have F4:=B0;clear B0
 have F5:=A1;clear A1
 have F6:=B1;clear B1
 obtain⟨F7,A2⟩:=A2.cut
 have F8:=A2;clear A2
 have h20:(B T 20)=true↔Jk g=true:=by
  obtain⟨e11,e12,-,e14,e15,e16,-,e18,e19,e20,-⟩:=F0
  simp only[AE,AG,zR,zL] at*
  rw[hg,VE,e20,e16,e12,e15,e19,e11,e14,e18]
  show _↔((((L T 4)).length < 1∨12 < ((L T 4)).length)∨256 < ((L T 10)).length)
  omega
 have h34:(B T 34)=true↔¬(BC ((S T 0))=true∧(65536≤I T 1∧I T 1≤4194304)∧(65536≤I T 2∧I T 2≤4194304)):=by
  obtain⟨-,-,-,-,-,-,-,-,-,-,-,e22,-,e24,-,e26,-⟩:=F0
  obtain⟨e27,e28,-,e30,-,e32,e33,e34,-⟩:=F1
  replace e22:B T 22=(BC (S T 0)):=e22
  simp only[AE,AG,zN,zR] at*
  grind
 have h48:(B T 34)=false→((B T 48)=true↔¬((0≤I T 3∧I T 3≤(if (I T 1)≤(I T 2) then (I T 1) else (I T 2)) / 4)∧(1≤I T 7∧I T 7≤8192))):=by
  obtain⟨-,-,-,-,-,-,-,-,-,-,-,e22,-,e24,-,e26,-⟩:=F0
  obtain⟨e27,e28,-,e30,-,e32,e33,e34,-,-,e37,e38,e39,-,e41,e42,-⟩:=F1
  obtain⟨-,e44,-,e46,e47,e48,-⟩:=F2
  replace e22:B T 22=(BC (S T 0)):=e22
  simp only[AE,AG,zN,zR,AS] at*
  intro h
  have h1:=Classical.not_not.1 ((not_congr h34).1 (by simp[h]))
  have e:(I T 38)=(if (I T 1)≤(I T 2) then (I T 1) else (I T 2)) / 4:=by
   rw[e38,e37,if_pos]
   split<;>omega
  rw[←e]
  clear e38 e37 h1 h34 h
  grind
 have h65:(B T 65)=true↔¬((1≤I T 8∧I T 8≤16)∧(1≤I T 9∧I T 9≤16)∧(((L T 10)).length:Int)=I T 8*I T 9):=by
  obtain⟨-,-,-,-,-,-,-,-,e51,-,e53,e54,-,e56,e57,-⟩:=F2
  obtain⟨e59,e60,-,e62,e63,e64,e65,-⟩:=F3
  simp only[AE,AG,zR,w2P,zL] at*
  have e:(1≤I T 8∧I T 8≤16)→(1≤I T 9∧I T 9≤16)→I T 63=I T 8*I T 9:=fun h1 h2=>by
   have:=Cp (a:=I T 8) (b:=I T 9) (A:=16) (B:=16) (by omega) (by omega)
   exact e63 (by omega) (by omega)
  clear e63
  grind
 have hH:(B T 67)=true→((B T 80)=false↔BN ((L T 4))=true):=by
  obtain⟨e11,e12,-,e14,e15,e16,-,e18,e19,e20,e21,e22,-,e24,-,e26,-⟩:=F0
  obtain⟨e27,e28,-,e30,-,e32,e33,e34,-,e36,e37,e38,e39,-,e41,e42,-⟩:=F1
  obtain⟨-,e44,-,e46,e47,e48,-,e50,e51,-,e53,e54,-,e56,e57,-⟩:=F2
  obtain⟨e59,e60,-,e62,e63,e64,e65,-,e67,e68,-⟩:=F3
  obtain⟨e70,e71,-,e73,e74,e75,e76,e77,e78,e79,e80,-⟩:=F4
  replace e22:B T 22=(BC (S T 0)):=e22
  replace e78:B T 78=(BI (I T 73) (I T 74) (I T 75) (I T 76)):=e78
  simp only[AE,AG,zN,zR,AS,w2P,zL] at*
  intro hb
  obtain⟨v1,v2,v3⟩:=inv0
  rw[Gc]
  constructor
  ·intro h
   have h2:¬I T 69 < ((L T 4)).length:=fun h2=>by
    have hc:(B T 71)=true:=e71.2 ⟨hb,e70.2 (by omega)⟩
    cases k:(B T 78) with
    |true=>have z:=e79.2 ⟨hc,k⟩;simp[np0] at z
    |false=>have z:=e80.2 ⟨hc,k⟩;simp[h] at z
   exact fun j hj=>v3 j (by omega)
  ·intro hall
   cases k:(B T 80) with
   |false=>rfl
   |true=>
    have h1:=e80.1 k
    have h2:=e70.1 (e71.1 h1.1).2
    have h3:=hall (I T 69).toNat (by omega)
    rw[←e73,←e74,←e75,←e76,←e78] at h3
    simp[h3] at h1
 have hC:(B T 86)=true→((B T 97)=false↔((L T 10)).all G5=true):=by
  obtain⟨e11,e12,-,e14,e15,e16,-,e18,e19,e20,e21,e22,-,e24,-,e26,-⟩:=F0
  obtain⟨e27,e28,-,e30,-,e32,e33,e34,-,e36,e37,e38,e39,-,e41,e42,-⟩:=F1
  obtain⟨-,e44,-,e46,e47,e48,-,e50,e51,-,e53,e54,-,e56,e57,-⟩:=F2
  obtain⟨e59,e60,-,e62,e63,e64,e65,-,e67,e68,-⟩:=F3
  obtain⟨e70,e71,-,e73,e74,e75,e76,e77,e78,-,e80,-⟩:=F4
  obtain⟨e82,-,e84,-,e86,e87,-⟩:=F5
  obtain⟨e89,e90,-,e92,e93,e94,e95,e96,e97,-⟩:=F6
  replace e22:B T 22=(BC (S T 0)):=e22
  replace e78:B T 78=(BI (I T 73) (I T 74) (I T 75) (I T 76)):=e78
  replace e95:B T 95=(BT (I T 92) (I T 93) (I T 94)):=e95
  simp only[AE,AG,zN,zR,AS,w2P,zL] at*
  intro hb
  obtain⟨v1,v2,v3⟩:=inv1
  rw[SX]
  constructor
  ·intro h
   have h2:¬I T 88 < ((L T 10)).length:=fun h2=>by
    have hc:(B T 90)=true:=e90.2 ⟨hb,e89.2 (by omega)⟩
    cases k:(B T 95) with
    |true=>have z:=e96.2 ⟨hc,k⟩;simp[np1] at z
    |false=>have z:=e97.2 ⟨hc,k⟩;simp[h] at z
   exact fun j hj=>v3 j (by omega)
  ·intro hall
   cases k:(B T 97) with
   |false=>rfl
   |true=>
    have h1:=e97.1 k
    have h2:=e89.1 (e90.1 h1.1).2
    have h3:=hall (I T 88).toNat (by omega)
    rw[←e92,←e93,←e94,←e95] at h3
    simp[h3] at h1
 have h84:(B T 67)=true→((B T 84)=false↔BN ((L T 4))=true):=by
  obtain⟨e11,e12,-,e14,e15,e16,-,e18,e19,e20,e21,e22,-,e24,-,e26,-⟩:=F0
  obtain⟨e27,e28,-,e30,-,e32,e33,e34,-,e36,e37,e38,e39,-,e41,e42,-⟩:=F1
  obtain⟨-,e44,-,e46,e47,e48,-,e50,e51,-,e53,e54,-,e56,e57,-⟩:=F2
  obtain⟨e59,e60,-,e62,e63,e64,e65,-,e67,e68,-⟩:=F3
  obtain⟨e70,e71,-,e73,e74,e75,e76,e77,e78,-,e80,-⟩:=F4
  obtain⟨e82,-,e84,-⟩:=F5
  replace e22:B T 22=(BC (S T 0)):=e22
  replace e78:B T 78=(BI (I T 73) (I T 74) (I T 75) (I T 76)):=e78
  simp only[AE,AG,zN,zR,AS,w2P,zL] at*
  intro hb
  rw[←hH hb]
  obtain⟨v1,v2,v3⟩:=inv0
  cases k:(B T 80) with
  |true=>
   have z:=e84.2 (by rw[e82,if_pos k];exact v1)
   simp[z]
  |false=>
   cases k2:(B T 84) with
   |false=>simp
   |true=>have z:=e84.1 k2;rw[e82,if_neg (by simp[k])] at z;omega
 have h101:(B T 86)=true→((B T 101)=false↔((L T 10)).all G5=true):=by
  obtain⟨e11,e12,-,e14,e15,e16,-,e18,e19,e20,e21,e22,-,e24,-,e26,-⟩:=F0
  obtain⟨e27,e28,-,e30,-,e32,e33,e34,-,e36,e37,e38,e39,-,e41,e42,-⟩:=F1
  obtain⟨-,e44,-,e46,e47,e48,-,e50,e51,-,e53,e54,-,e56,e57,-⟩:=F2
  obtain⟨e59,e60,-,e62,e63,e64,e65,-,e67,e68,-⟩:=F3
  obtain⟨e70,e71,-,e73,e74,e75,e76,e77,e78,-,e80,-⟩:=F4
  obtain⟨e82,-,e84,-,e86,e87,-⟩:=F5
  obtain⟨e89,e90,-,e92,e93,e94,e95,-,e97,-⟩:=F6
  obtain⟨e99,-,e101,-⟩:=F7
  replace e22:B T 22=(BC (S T 0)):=e22
  replace e78:B T 78=(BI (I T 73) (I T 74) (I T 75) (I T 76)):=e78
  replace e95:B T 95=(BT (I T 92) (I T 93) (I T 94)):=e95
  simp only[AE,AG,zN,zR,AS,w2P,zL] at*
  intro hb
  rw[←hC hb]
  obtain⟨v1,v2,v3⟩:=inv1
  cases k:(B T 97) with
  |true=>
   have z:=e101.2 (by rw[e99,if_pos k];exact v1)
   simp[z]
  |false=>
   cases k2:(B T 101) with
   |false=>simp
   |true=>have z:=e101.1 k2;rw[e99,if_neg (by simp[k])] at z;omega
 have h105:(B T 105)=true↔Dm (I T 1) (I T 2) (CS ((L T 4)) (I T 5) (I T 6) (I T 7))=true:=by
  obtain⟨-,-,-,-,-,e104,e105,-⟩:=F7
  replace e104:L T 104=(AN g1):=by rw[←show gAt 0 (E9.map (Rf.eval T))=g1 from z1.symm];exact e104
  replace e105:B T 105=(Dm (I T 1) (I T 2) (L T 104)):=e105
  rw[e105,e104,z1]
  rfl
 have h67:(B T 67)=true→((65536≤I T 1∧I T 1≤4194304)∧(65536≤I T 2∧I T 2≤4194304))∧(1≤I T 7∧I T 7≤8192)∧((L T 4)).length≤12:=by
  obtain⟨e11,e12,-,e14,e15,e16,-,e18,e19,e20,e21,e22,-,e24,-,e26,-⟩:=F0
  obtain⟨e27,e28,-,e30,-,e32,e33,e34,-,e36,e37,e38,e39,-,e41,e42,-⟩:=F1
  obtain⟨-,e44,-,e46,e47,e48,-,e50,e51,-,e53,e54,-,e56,e57,-⟩:=F2
  obtain⟨e59,e60,-,e62,e63,e64,e65,-,e67,-⟩:=F3
  replace e22:B T 22=(BC (S T 0)):=e22
  simp only[AE,AG,zN,zR,AS,w2P,zL] at*
  intro h
  have h1:=e67.1 h
  have h2:=e50.1 h1.1
  have h3:=e36.1 h2.1
  have h4:=Classical.not_not.1 ((not_congr h34).1 (by simp[h3.2]))
  have h5:=Classical.not_not.1 ((not_congr (h48 h3.2)).1 (by simp[h2.2]))
  have h6:¬12 < ((L T 4)).length:=fun hl=>by
   have:=e20.2 (.inl (e16.2 (.inr (e15.2 (by rw[e14];omega)))))
   have:=e21.1 h3.1
   grind
  exact⟨h4.2,h5.2,by omega⟩
 have h103:(B T 103)=true→B T 67=true∧BN ((L T 4))=true:=by
  obtain⟨e11,e12,-,e14,e15,e16,-,e18,e19,e20,e21,e22,-,e24,-,e26,-⟩:=F0
  obtain⟨e27,e28,-,e30,-,e32,e33,e34,-,e36,e37,e38,e39,-,e41,e42,-⟩:=F1
  obtain⟨-,e44,-,e46,e47,e48,-,e50,e51,-,e53,e54,-,e56,e57,-⟩:=F2
  obtain⟨e59,e60,-,e62,e63,e64,e65,-,e67,e68,-⟩:=F3
  obtain⟨e70,e71,-,e73,e74,e75,e76,e77,e78,-,e80,-⟩:=F4
  obtain⟨e82,-,e84,-,e86,e87,-⟩:=F5
  obtain⟨e89,e90,-,e92,e93,e94,e95,-,e97,-⟩:=F6
  obtain⟨e99,-,e101,-,e103,-⟩:=F7
  replace e22:B T 22=(BC (S T 0)):=e22
  replace e78:B T 78=(BI (I T 73) (I T 74) (I T 75) (I T 76)):=e78
  replace e95:B T 95=(BT (I T 92) (I T 93) (I T 94)):=e95
  simp only[AE,AG,zN,zR,AS,w2P,zL] at*
  intro h
  have h1:=e86.1 (e103.1 h).1
  exact⟨h1.1,(h84 h1.1).1 h1.2⟩
 have h112:(B T 20)=false→((B T 112)=true↔¬IX ((S T 0)) (I T 1) (I T 2) (I T 3) ((L T 4)) (I T 5) (I T 6) (I T 7) (I T 8) (I T 9) ((L T 10))):=by
  obtain⟨e11,e12,-,e14,e15,e16,-,e18,e19,e20,e21,e22,-,e24,-,e26,-⟩:=F0
  obtain⟨e27,e28,-,e30,-,e32,e33,e34,e35,e36,e37,e38,e39,-,e41,e42,-⟩:=F1
  obtain⟨-,e44,-,e46,e47,e48,e49,e50,e51,-,e53,e54,-,e56,e57,-⟩:=F2
  obtain⟨e59,e60,-,e62,e63,e64,e65,e66,e67,e68,-⟩:=F3
  obtain⟨e70,e71,-,e73,e74,e75,e76,e77,e78,-,e80,-⟩:=F4
  obtain⟨e82,-,e84,e85,e86,e87,-⟩:=F5
  obtain⟨e89,e90,-,e92,e93,e94,e95,-,e97,-⟩:=F6
  obtain⟨e99,-,e101,e102,e103,e104,e105,-,e107,e108,e109,e110,e111,e112,-⟩:=F7
  replace e22:B T 22=(BC (S T 0)):=e22
  replace e78:B T 78=(BI (I T 73) (I T 74) (I T 75) (I T 76)):=e78
  replace e95:B T 95=(BT (I T 92) (I T 93) (I T 94)):=e95
  replace e104:L T 104=(AN g1):=by rw[←show gAt 0 (E9.map (Rf.eval T))=g1 from z1.symm];exact e104
  replace e105:B T 105=(Dm (I T 1) (I T 2) (L T 104)):=e105
  simp only[AE,AG,zN,zR,AS,w2P,zL] at*
  intro hb
  have q21:(B T 21)=true:=by clear h34 h48 h65 h84 h101 h105;grind
  unfold IX
  generalize hp1:(BC ((S T 0))=true∧(65536≤I T 1∧I T 1≤4194304)∧(65536≤I T 2∧I T 2≤4194304))=P1 at*
  generalize hp2:(0≤I T 3∧I T 3≤(if (I T 1)≤(I T 2) then (I T 1) else (I T 2)) / 4)=P2 at*
  generalize hp3:(1≤I T 7∧I T 7≤8192)=P3 at*
  generalize hp4:((1≤I T 8∧I T 8≤16)∧(1≤I T 9∧I T 9≤16)∧(((L T 10)).length:Int)=I T 8*I T 9)=P4 at*
  clear hp1 hp2 hp3 hp4
  cases k34:(B T 34) with
  |true=>
   have:=e35.2 ⟨q21,k34⟩
   clear h48 h65 h84 h101 h105
   grind
  |false=>
   have h48:=h48 k34
   have q36:=e36.2 ⟨q21,k34⟩
   cases k48:(B T 48) with
   |true=>
    have:=e49.2 ⟨q36,k48⟩
    clear h65 h84 h101 h105
    grind
   |false=>
    have q50:=e50.2 ⟨q36,k48⟩
    cases k65:(B T 65) with
    |true=>
     have:=e66.2 ⟨q50,k65⟩
     clear h84 h101 h105
     grind
    |false=>
     have q67:=e67.2 ⟨q50,k65⟩
     have h84:=h84 q67
     cases k84:(B T 84) with
     |true=>
      have:=e85.2 ⟨q67,k84⟩
      clear h101 h105
      grind
     |false=>
      have q86:=e86.2 ⟨q67,k84⟩
      have h101:=h101 q86
      cases k101:(B T 101) with
      |true=>
       have:=e102.2 ⟨q86,k101⟩
       clear h105
       grind
      |false=>
       have q103:=e103.2 ⟨q86,k101⟩
       grind
 refine⟨?_,?_,?_,?_,?_⟩
 ·obtain⟨e11,e12,-,e14,e15,e16,-,e18,e19,e20,e21,e22,-,e24,-,e26,-⟩:=F0
  obtain⟨e27,e28,-,e30,-,e32,e33,e34,e35,e36,e37,e38,e39,-,e41,e42,-⟩:=F1
  obtain⟨-,e44,-,e46,e47,e48,e49,e50,e51,-,e53,e54,-,e56,e57,-⟩:=F2
  obtain⟨e59,e60,-,e62,e63,e64,e65,e66,e67,e68,-⟩:=F3
  obtain⟨e70,e71,-,e73,e74,e75,e76,e77,e78,e79,e80,-⟩:=F4
  obtain⟨e82,-,e84,e85,e86,e87,-⟩:=F5
  obtain⟨e89,e90,-,e92,e93,e94,e95,e96,e97,-⟩:=F6
  obtain⟨e99,-,e101,e102,e103,e104,e105,-,e107,e108,e109,e110,e111,e112,e113,e114,-⟩:=F7
  obtain⟨e115,-⟩:=F8
  replace e22:B T 22=(BC (S T 0)):=e22
  replace e78:B T 78=(BI (I T 73) (I T 74) (I T 75) (I T 76)):=e78
  replace e95:B T 95=(BT (I T 92) (I T 93) (I T 94)):=e95
  replace e104:L T 104=(AN g1):=by rw[←show gAt 0 (E9.map (Rf.eval T))=g1 from z1.symm];exact e104
  replace e105:B T 105=(Dm (I T 1) (I T 2) (L T 104)):=e105
  simp only[AE,AG,zN,zR,AS,w2P,zL] at*
  unfold AO
  rw[e115]
  cases k20:(B T 20) with
  |true=>
   rw[if_pos (e114.2 (.inl k20)),if_pos (h20.1 k20),e113,if_pos k20]
  |false=>
   have hm:¬Jk g=true:=fun h=>by have:=h20.2 h;simp[k20] at this
   have h112:=h112 k20
   rw[if_neg hm,e113]
   have hl:MA g=true↔IX ((S T 0)) (I T 1) (I T 2) (I T 3) ((L T 4)) (I T 5) (I T 6) (I T 7) (I T 8) (I T 9) ((L T 10)):=by rw[hg];exact O5
   rw[←hl] at h112
   cases k112:(B T 112) with
   |true=>
    rw[if_pos (e114.2 (.inr k112)),if_neg (by simp[k20]),if_neg (h112.1 k112)]
   |false=>
    rw[if_neg (fun h=>by have:=e114.1 h;simp[k20,k112] at this),if_pos (Classical.not_not.1 ((not_congr h112).1 (by simp[k112])))]
 ·obtain⟨e11,e12,-,e14,e15,e16,-,e18,e19,e20,e21,e22,-,e24,-,e26,-⟩:=F0
  obtain⟨e27,e28,-,e30,-,e32,e33,e34,-,e36,e37,e38,e39,-,e41,e42,-⟩:=F1
  obtain⟨-,e44,-,e46,e47,e48,-,e50,e51,-,e53,e54,-,e56,e57,-⟩:=F2
  obtain⟨e59,e60,-,e62,e63,e64,e65,-,e67,e68,-⟩:=F3
  obtain⟨e70,e71,-,e73,e74,e75,e76,e77,e78,-,e80,-⟩:=F4
  obtain⟨e82,-,e84,-,e86,e87,-⟩:=F5
  obtain⟨e89,e90,-,e92,e93,e94,e95,-,e97,-⟩:=F6
  obtain⟨e99,-,e101,-,e103,e104,-⟩:=F7
  replace e22:B T 22=(BC (S T 0)):=e22
  replace e78:B T 78=(BI (I T 73) (I T 74) (I T 75) (I T 76)):=e78
  replace e95:B T 95=(BT (I T 92) (I T 93) (I T 94)):=e95
  replace e104:L T 104=(AN g1):=by rw[←show gAt 0 (E9.map (Rf.eval T))=g1 from z1.symm];exact e104
  simp only[AE,AG,zN,zR,AS,w2P,zL] at*
  intro hp
  have h:=h103 hp
  have h2:=h67 h.1
  rw[e104,z1]
  exact Kg h.2 h2.2.1
 ·obtain⟨e11,e12,-,e14,e15,e16,-,e18,e19,e20,e21,e22,-,e24,-,e26,-⟩:=F0
  obtain⟨e27,e28,-,e30,-,e32,e33,e34,-,e36,e37,e38,e39,-,e41,e42,-⟩:=F1
  obtain⟨-,e44,-,e46,e47,e48,-,e50,e51,-,e53,e54,-,e56,e57,-⟩:=F2
  obtain⟨e59,e60,-,e62,e63,e64,e65,-,e67,e68,-⟩:=F3
  obtain⟨e70,e71,-,e73,e74,e75,e76,e77,e78,-,e80,-⟩:=F4
  obtain⟨e82,-,e84,-,e86,e87,-⟩:=F5
  obtain⟨e89,e90,-,e92,e93,e94,e95,-,e97,-⟩:=F6
  obtain⟨e99,-,e101,-,e103,-⟩:=F7
  replace e22:B T 22=(BC (S T 0)):=e22
  replace e78:B T 78=(BI (I T 73) (I T 74) (I T 75) (I T 76)):=e78
  replace e95:B T 95=(BT (I T 92) (I T 93) (I T 94)):=e95
  simp only[AE,AG,zN,zR,AS,w2P,zL] at*
  intro hp
  have h:=h103 hp
  exact (h67 h.1).1
 ·obtain⟨e11,e12,-,e14,e15,e16,-,e18,e19,e20,e21,e22,-,e24,-,e26,-⟩:=F0
  obtain⟨e27,e28,-,e30,-,e32,e33,e34,-,e36,e37,e38,e39,-,e41,e42,-⟩:=F1
  obtain⟨-,e44,-,e46,e47,e48,-,e50,e51,-,e53,e54,-,e56,e57,-⟩:=F2
  obtain⟨e59,e60,-,e62,e63,e64,e65,-,e67,e68,-⟩:=F3
  obtain⟨e70,e71,-,e73,e74,e75,e76,e77,e78,-,e80,-⟩:=F4
  obtain⟨e82,-,e84,-,e86,e87,-⟩:=F5
  obtain⟨e89,e90,-,e92,e93,e94,e95,-,e97,-⟩:=F6
  obtain⟨e99,-,e101,-,e103,-⟩:=F7
  replace e22:B T 22=(BC (S T 0)):=e22
  replace e78:B T 78=(BI (I T 73) (I T 74) (I T 75) (I T 76)):=e78
  replace e95:B T 95=(BT (I T 92) (I T 93) (I T 94)):=e95
  simp only[AE,AG,zN,zR,AS,w2P,zL] at*
  intro hp
  exact (h103 hp).2
 ·obtain⟨e11,e12,-,e14,e15,e16,-,e18,e19,e20,e21,e22,-,e24,-,e26,-⟩:=F0
  obtain⟨e27,e28,-,e30,-,e32,e33,e34,-,e36,e37,e38,e39,-,e41,e42,-⟩:=F1
  obtain⟨-,e44,-,e46,e47,e48,-,e50,e51,-,e53,e54,-,e56,e57,-⟩:=F2
  obtain⟨e59,e60,-,e62,e63,e64,e65,-,e67,e68,-⟩:=F3
  obtain⟨e70,e71,-,e73,e74,e75,e76,e77,e78,-,e80,-⟩:=F4
  obtain⟨e82,-,e84,-,e86,e87,-⟩:=F5
  obtain⟨e89,e90,-,e92,e93,e94,e95,-,e97,-⟩:=F6
  obtain⟨e99,-,e101,-,e103,-⟩:=F7
  replace e22:B T 22=(BC (S T 0)):=e22
  replace e78:B T 78=(BI (I T 73) (I T 74) (I T 75) (I T 76)):=e78
  replace e95:B T 95=(BT (I T 92) (I T 93) (I T 94)):=e95
  simp only[AE,AG,zN,zR,AS,w2P,zL] at*
  intro hp
  exact (h67 (h103 hp).1).2.2
theorem VF:Ao Try.prog 86 FI:=by
 refine AZ (l:=[(100,RI),(103,LL),(106,LE),(74,EQ),(107,Dw)]) BH (by simp only[List.forall_mem_cons];exact⟨eA,cW,db,Td,eu,fun _ h=>absurd h (by simp)⟩) fw (by kernel_rfl) fun T us hpre hT hul hS hBd hE=>?_
 change us.length=11 at hul
 obtain⟨hz0,-,-,-,⟨hl4,he4⟩,-,-,-,-,-,⟨hl10,he10⟩,-⟩:=hBd
 replace hz0:(S T 0).size≤140737488355328:=hz0
 replace hl4:(L T 4).length≤140737488355328:=hl4
 replace hl10:(L T 10).length≤140737488355328:=hl10
 obtain⟨g,hg⟩:∃g:Ln,g=Ln.mk (S T 0) (I T 1) (I T 2) (I T 3) (L T 4) (I T 5) (I T 6) (I T 7) (I T 8) (I T 9) (L T 10):=⟨_,rfl⟩
 have hgu:gAt 0 us=g:=by rw[hg];exact Cu hT hul (by decide)
 clear hpre
 rw[List.map_append,List.map_append,List.map_append,List.map_append,List.map_append,List.map_append] at hE
 have hA:=hE.left
 replace hE:=hE.right
 have hH:=hE.left
 replace hE:=hE.right
 have hB:=hE.left
 replace hE:=hE.right
 obtain⟨A0,hS1⟩:=AV hS (by kernel_rfl) hA
 have h68:=YI hz0 hl4 hl10 g hg A0
 obtain⟨ow0,hS2,inv0,np0⟩:=aA hl4 h68 hS1 hB hH
 have hF2:=(AV (hS2.append hS1) (l:=Dc) (by kernel_rfl) hB)
 obtain⟨B0,hS⟩:=hF2
 clear hA hB hH hS1 hS2
 have hA:=hE.left
 replace hE:=hE.right
 have hH:=hE.left
 replace hE:=hE.right
 have hB:=hE.left
 replace hE:=hE.right
 obtain⟨A1,hS1⟩:=AV hS (by kernel_rfl) hA
 have h87:=Yj hz0 hl4 hl10 g hg h68 inv0 np0 A0 B0 A1
 obtain⟨ow1,hS2,inv1,np1⟩:=cG hl10 h87 hS1 hB hH
 have hF2:=(AV (hS2.append hS1) (l:=E1) (by kernel_rfl) hB)
 obtain⟨B1,hS⟩:=hF2
 clear hA hB hH hS1 hS2
 obtain⟨A2,hO⟩:=Ap (tys:=[.i]) (rs:=XO) hS (by kernel_rfl) hE
 obtain⟨g1,z1⟩:∃g:Ln,g=Ln.mk (S T 0) (I T 1) (I T 2) (I T 3) (L T 4) (I T 5) (I T 6) (I T 7) (I T 8) (I T 9) (L T 10):=⟨_,rfl⟩
 obtain⟨q0,r0,r1,r2,r3⟩:=fp hz0 hl4 hl10 g hg h68 inv0 np0 h87 inv1 np1 g1 z1 A0 B0 A1 B1 A2
 refine⟨⟨r0,r1,r2,r3,(fun _=>ow1),(fun _=>ow0),trivial⟩,hO.trans ?_⟩
 exact (lc (by show U.int (I T 115)= .int (Hy us);unfold Hy;rw[hgu];exact congrArg U.int q0) rfl)
end Go.Eng
end
