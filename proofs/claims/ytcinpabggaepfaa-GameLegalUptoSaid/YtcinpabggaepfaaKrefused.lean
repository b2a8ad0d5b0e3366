/-
  A part of the proof: K_refusedd K_refused.
-/
import Derived.Test.YtcinpabggaepfaaXQlLegal
import Derived.Test.YtcinpabggaepfaaE3
import Derived.Test.YtcinpabggaepfaaE4
import Derived.Test.YtcinpabggaepfaaKgMoves
import Derived.Test.YtcinpabggaepfaaKgPlay
set_option linter.unusedVariables false
set_option linter.unusedSimpArgs false
noncomputable section
open Go Go.Eng Go.Proofs
set_option maxHeartbeats 4000000
set_option maxRecDepth 100000
namespace Go.Eng
def pn:List U→Bool:=fun us=>(AR (gAt 0 us))
def pq:Bc:={ sh:=[.agg [k64,k64,k64,k64,k64,k64,k64,k64,k64,.bool,.bool,.bool,.bool,.bool,.bool,.bool,.bool,k64,k64,.bool,.bool,.bool,k64,k64,k64,k64],.agg [.int .u8 (0) (255),.list [.int .u8 (0) (255)],.int .u16 (0) (65535)]],blks:=[],outs:=[(.s "refused.0",AQ pn)],c:= .b 29,m':=[],pre:=[] }
def py:List Rf:=[.e 0,.e 1,.e 2,.e 3,.e 4,.e 5,.e 6,.e 7,.e 8,.e 9,.e 10,.e 11,.e 12,.e 13,.e 14,.e 15,.e 16,.e 17,.e 18,.e 19,.e 20,.e 21,.e 22,.e 23,.e 24,.e 25]
def pj:List Rf:=[.e 0,.e 1,.e 2,.e 3,.e 4,.e 5,.e 6,.e 7,.e 8,.e 9,.e 10,.e 11,.e 12,.e 13,.e 14,.e 15,.e 16,.e 17,.e 18,.e 19,.e 20,.e 21,.e 22,.e 23,.e 24,.e 25,.e 29,.e 32,.e 34,.c (.list [])]
def qS:List En:=[⟨29,.o2 .mod,[.e 28,.c (.int 7)]⟩,
 ⟨30,.o2 .div,[.e 28,.c (.int 7)]⟩,
 ⟨31,.o2 .mod,[.e 30,.c (.int 6)]⟩,
 ⟨32,.o2 .sub,[.e 31,.c (.int 1)]⟩,
 ⟨33,.o2 .mod,[.e 28,.c (.int 2)]⟩,
 ⟨34,.eq,[.e 33,.c (.int 1)]⟩,
 ⟨35,.outL "gMoves.0" mv,py⟩,
 ⟨36,.outI "gMoves.1" mw,py⟩,
 ⟨37,.ne,[.e 36,.c (.int 0)]⟩,
 ⟨38,.not,[.e 37]⟩]
def qT:List En:=[⟨41,.len,[.e 35]⟩,
 ⟨42,.lt,[.e 39,.e 41]⟩,
 ⟨43,.and,[.e 38,.e 42]⟩,
 ⟨44,.and,[.e 38,.n 42]⟩,
 ⟨45,.and,[.e 43,.n 40]⟩,
 ⟨46,.and,[.e 43,.n 40]⟩,
 ⟨47,.get .i 0,[.e 35,.e 39]⟩,
 ⟨48,.get .i 1,[.e 35,.e 39]⟩,
 ⟨49,.get .b 2,[.e 35,.e 39]⟩,
 ⟨50,.get .l 3,[.e 35,.e 39]⟩,
 ⟨51,.and,[.e 43,.n 40]⟩,
 ⟨52,.eq,[.e 47,.e 29]⟩,
 ⟨53,.and,[.e 51,.e 52]⟩,
 ⟨54,.eq,[.e 48,.e 32]⟩,
 ⟨55,.and,[.e 52,.e 54]⟩,
 ⟨56,.and,[.e 51,.e 55]⟩]
def qV:List En:=[⟨57,.eqb,[.e 49,.e 34]⟩,
 ⟨58,.and,[.e 55,.e 57]⟩,
 ⟨59,.or,[.e 40,.e 58]⟩,
 ⟨60,.w2 .i64 .add,[.e 39,.c (.int 1)]⟩]
def px:List En:=qS
def pl:List En:=qT++(qV)
def qL:List ObE:=[⟨some 46,.inl,[.e 39,.e 35]⟩]
def pv:BW:=mkD 39 2 pl 43 [.e 60,.e 59] qL [34,32,29,35,38]
def qC:List Rf:=[.e 34,.e 32,.e 29,.e 35,.e 38,.c (.int 0),.c (.bool false)]
def qR:List En:=[⟨61,.outI "gPlay.0" NX,pj⟩,
 ⟨62,.outI "gPlay.1" OB,pj⟩,
 ⟨63,.outI "gPlay.2" OS,pj⟩,
 ⟨64,.outI "gPlay.3" Nu,pj⟩,
 ⟨65,.outI "gPlay.4" NJ,pj⟩,
 ⟨66,.outI "gPlay.5" Oe,pj⟩,
 ⟨67,.outI "gPlay.6" N7,pj⟩,
 ⟨68,.outI "gPlay.7" NO,pj⟩,
 ⟨69,.outI "gPlay.8" OX,pj⟩,
 ⟨70,.outB "gPlay.9" Nm,pj⟩,
 ⟨71,.outB "gPlay.10" MI,pj⟩,
 ⟨72,.outB "gPlay.11" MQ,pj⟩,
 ⟨73,.outB "gPlay.12" Md,pj⟩,
 ⟨74,.outB "gPlay.13" MF,pj⟩,
 ⟨75,.outB "gPlay.14" MM,pj⟩,
 ⟨76,.outB "gPlay.15" L0,pj⟩]
def qW:List En:=[⟨77,.outB "gPlay.16" Lh,pj⟩,
 ⟨78,.outI "gPlay.17" MX,pj⟩,
 ⟨79,.outI "gPlay.18" L2,pj⟩,
 ⟨80,.outB "gPlay.19" Mh,pj⟩,
 ⟨81,.outB "gPlay.20" Lt,pj⟩,
 ⟨82,.outB "gPlay.21" Lo,pj⟩,
 ⟨83,.outI "gPlay.22" L8,pj⟩,
 ⟨84,.outI "gPlay.23" MA,pj⟩,
 ⟨85,.outI "gPlay.24" Mb,pj⟩,
 ⟨86,.outI "gPlay.25" ML,pj⟩,
 ⟨87,.outI "gPlay.26" Ih,pj⟩,
 ⟨88,.eq,[.e 87,.c (.int 0)]⟩,
 ⟨89,.eqb,[.e 88,.e 40]⟩,
 ⟨90,.and,[.e 44,.e 89]⟩,
 ⟨91,.and,[.e 90,.n 40]⟩,
 ⟨92,.eq,[.e 87,.c (.int 10)]⟩]
def qU:List En:=[⟨93,.or,[.e 40,.e 92]⟩,
 ⟨94,.and,[.e 89,.e 93]⟩,
 ⟨95,.ite .b,[.e 37,.c (.bool false),.e 94]⟩,
 ⟨96,.or,[.e 37,.e 44]⟩]
def qK:List En:=qR++(qW++(qU))
def rB:List ObE:=[⟨some 38,.owes pv,[.e 34,.e 32,.e 29,.e 35,.e 38,.c (.int 0),.c (.bool false)]⟩]
def qQ:List Rf:=[.e 95]
theorem rA:pq.sees qQ (pq.run Try.prog [(18,mx),(12,LU)] RN 3000 20 25)=some ((px++((Ek pv [.i,.b] qC)++(pl++(qK)))).map En.be,rB.map ObE.be,[]):=by kernel_rfl
theorem qk {T:Tab}(lo26:0≤I T 26)(hi26:I T 26≤255)(hl27:(L T 27).length≤140737488355328)(lo28:0≤I T 28)(hi28:I T 28≤65535)(g:Gm)(hg:g=gT T 0)(g1:Gm)(z1:g1=gT T 0)(A0:AK T px):
  (g1=g)∧((L T 35)=if AR g=true then C2 g else [])∧((I T 36)=if AR g=true then 0 else 2)∧(((L T 35)).length≤7)∧((B T 34)=decide ((I T 28) % 2=1)):=by
 have F0:=A0;clear A0
 have hgA:g1=g:=by rw[z1,hg]
 have h35:(L T 35)=if AR g=true then C2 g else []:=by
  obtain⟨-,-,-,-,-,-,e35,-⟩:=F0
  replace e35:L T 35=((if AR g1=true then C2 g1 else [])):=by rw[←show gAt 0 (py.map (Rf.eval T))=g1 from z1.symm];exact e35
  rw[e35,hgA]
 have h36:(I T 36)=if AR g=true then 0 else 2:=by
  obtain⟨-,-,-,-,-,-,-,e36,-⟩:=F0
  replace e36:I T 36=((if AR g1=true then 0 else 2)):=by rw[←show gAt 0 (py.map (Rf.eval T))=g1 from z1.symm];exact e36
  rw[e36,hgA]
 have hlen:((L T 35)).length≤7:=by rw[h35];split;exact Uo g;decide
 have h34:(B T 34)=decide ((I T 28) % 2=1):=by
  obtain⟨-,-,-,-,e33,e34,-⟩:=F0
  simp only[AA,zR,Af] at e33 e34
  refine AU ?_
  rw[e34,e33,decide_eq_true_eq]
 exact⟨hgA,h35,h36,hlen,h34⟩
theorem qp {T:Tab}(g:Gm)(hg:g=gT T 0)(hlen:((L T 35)).length≤7)(hS:Ay T (J7 (EE 0 pq.ks) px))(hB:CJ T (pl.map En.be))(hH:CJ T ((Ek pv [.i,.b] qC).map En.be)):
  (pv).owes (qC.map (Rf.eval T))∧Ay T (hds 39 [.i,.b])∧(0≤I T 39∧I T 39≤((L T 35)).length∧((B T 40)=true↔∃j:Nat,(j:Int) < I T 39∧(At (L T 35) j 0=I T 29∧At (L T 35) j 1=I T 32∧C8 (L T 35) j 2=B T 34)))∧¬B T 43=true:=by
 refine Gx (nh:=39) (k:=2) (pcn:=43) (top:=61) (bes:=pl) (bos:=qL) (nxt:=[.e 60,.e 59]) (inits:=[.c (.int 0),.c (.bool false)]) (fv:=[34,32,29,35,38]) (tys:=[.i,.b]) (by kernel_rfl) rfl rfl rfl rfl hS (by kernel_rfl) (by kernel_rfl) hB (Ec hH) (fun s=>0≤(aI s 0)∧(aI s 0)≤((L T 35)).length∧((aB s 1)=true↔∃j:Nat,(j:Int) < (aI s 0)∧(At (L T 35) j 0=I T 29∧At (L T 35) j 1=I T 32∧C8 (L T 35) j 2=B T 34))) (fun s=>(((L T 35)).length - (aI s 0)).toNat) ?_ ?_
 ·show 0≤(0:Int)∧(0:Int)≤((L T 35)).length∧((false:Bool)=true↔∃j:Nat,(j:Int) < (0:Int)∧(At (L T 35) j 0=I T 29∧At (L T 35) j 1=I T 32∧C8 (L T 35) j 2=B T 34))
  clear hS hB hH
  refine⟨by omega,by omega,?_⟩
  constructor
  ·intro h;cases h
  ·rintro⟨j,hj,_⟩;omega
 ·intro T2 hfv hF inv
  replace inv:0≤I T2 39∧I T2 39≤((L T 35)).length∧((B T2 40)=true↔∃j:Nat,(j:Int) < I T2 39∧(At (L T 35) j 0=I T 29∧At (L T 35) j 1=I T 32∧C8 (L T 35) j 2=B T 34)):=inv
  clear hS hB hH
  replace hF:AK T2 pl:=hF
  obtain⟨F0,hF⟩:=hF.cut
  have F1:=hF;clear hF
  have fv34:B T2 34=B T 34:=fvB (hfv 34 (by decide))
  have fv32:I T2 32=I T 32:=fvI (hfv 32 (by decide))
  have fv29:I T2 29=I T 29:=fvI (hfv 29 (by decide))
  have fv35:L T2 35=L T 35:=fvL (hfv 35 (by decide))
  have fv38:B T2 38=B T 38:=fvB (hfv 38 (by decide))
  clear hfv
  suffices hz:(B T2 46=true→0≤I T2 39∧I T2 39 < ((L T2 35)).length)∧(B T2 43=true→(0≤I T2 60∧I T2 60≤((L T 35)).length∧((B T2 59)=true↔∃j:Nat,(j:Int) < I T2 60∧(At (L T 35) j 0=I T 29∧At (L T 35) j 1=I T 32∧C8 (L T 35) j 2=B T 34))))∧(B T2 43=true→(((L T 35)).length - (I T2 60)).toNat < (((L T 35)).length - (I T2 39)).toNat) from
   let⟨r0,nx,mz⟩:=hz;⟨⟨r0,trivial⟩,fun hp=>⟨nx hp,mz hp⟩⟩
  refine⟨?_,?_,?_⟩
  ·obtain⟨e41,e42,e43,-,-,e46,-⟩:=F0
   simp only[AA,AD,zN,zR,zL] at*
   obtain⟨v1,v2,v3⟩:=inv
   clear v3
   grind
  ·obtain⟨e41,e42,e43,-,-,e46,e47,e48,e49,-,-,e52,-,e54,e55,-⟩:=F0
   obtain⟨e57,e58,e59,e60,-⟩:=F1
   simp only[AA,AD,zN,zR,w2P,zL] at*
   intro hp
   obtain⟨v1,v2,v3⟩:=inv
   have hlt:(I T2 39) < ((L T 35)).length:=by clear v3;grind
   have e:(I T2 60)=I T2 39+1:=e60 (by omega) (by omega)
   refine⟨by omega,by omega,?_⟩
   have hb:(B T2 58)=true↔(At (L T 35) (I T2 39).toNat 0=I T 29∧At (L T 35) (I T2 39).toNat 1=I T 32∧C8 (L T 35) (I T2 39).toNat 2=B T 34):=by clear v3;grind
   rw[e59,v3,hb]
   constructor
   ·rintro (⟨j,hj,h⟩|h)
    ·exact⟨j,by omega,h⟩
    ·exact⟨(I T2 39).toNat,by omega,h⟩
   ·rintro⟨j,hj,h⟩
    by_cases hj2:(j:Int) < I T2 39
    ·exact .inl ⟨j,hj2,h⟩
    ·right
     obtain rfl:j=(I T2 39).toNat:=by omega
     exact h
  ·obtain⟨e41,e42,e43,-⟩:=F0
   obtain⟨-,-,-,e60,-⟩:=F1
   simp only[AA,AD,zR,w2P,zL] at*
   intro hp
   obtain⟨v1,v2,v3⟩:=inv
   have hlt:(I T2 39) < ((L T 35)).length:=by clear v3;grind
   have e:(I T2 60)=I T2 39+1:=e60 (by omega) (by omega)
   omega
theorem qz {T:Tab}(lo26:0≤I T 26)(hi26:I T 26≤255)(hl27:(L T 27).length≤140737488355328)(lo28:0≤I T 28)(hi28:I T 28≤65535)(g:Gm)(hg:g=gT T 0)(g1:Gm)(z1:g1=gT T 0)(hgA:g1=g)(h35:(L T 35)=if AR g=true then C2 g else [])(h36:(I T 36)=if AR g=true then 0 else 2)(hlen:((L T 35)).length≤7)(h34:(B T 34)=decide ((I T 28) % 2=1))(inv0:0≤I T 39∧I T 39≤((L T 35)).length∧((B T 40)=true↔∃j:Nat,(j:Int) < I T 39∧(At (L T 35) j 0=I T 29∧At (L T 35) j 1=I T 32∧C8 (L T 35) j 2=B T 34)))(np0:¬B T 43=true)(g2:Gm)(z2:g2=gT T 0)(A0:AK T px)(B0:AK T pl)(A1:AK T qK):
  ((B T 95)=(AR g)):=by
 have F0:=A0;clear A0
 obtain⟨F1,B0⟩:=B0.cut
 have F2:=B0;clear B0
 obtain⟨F3,A1⟩:=A1.cut
 obtain⟨F4,A1⟩:=A1.cut
 have F5:=A1;clear A1
 obtain⟨w1,w2,w3⟩:=inv0
 have hgB:g2=g:=by rw[z2,hg]
 have h37:(B T 37)=true↔¬AR g=true:=by
  obtain⟨-,-,-,-,-,-,-,-,e37,-⟩:=F0
  simp only[AA,zR] at e37
  rw[e37,h36]
  clear w3 hg
  split<;>simp_all
 have hal:(B T 37)=false→((B T 40)=true↔C3 g (I T 29) (I T 32) (B T 34)=true):=by
  obtain⟨-,-,-,-,-,-,-,-,-,e38,-⟩:=F0
  obtain⟨e41,e42,e43,-⟩:=F1
  simp only[AA,AD,zR,zL] at*
  intro h
  have hl:AR g=true:=by refine Classical.byContradiction fun hn=>?_;rw[h37.2 hn] at h;cases h
  have hm:(L T 35)=C2 g:=by rw[h35,if_pos hl]
  have hle:(I T 39)=((L T 35)).length:=by clear w3 h35;grind
  rw[UA,w3,←hm,hle]
  constructor
  ·rintro⟨j,hj,h⟩;exact⟨j,by omega,h⟩
  ·rintro⟨j,hj,h⟩;exact⟨j,by omega,h⟩
 have h87:AR g=true→I T 87=if C3 g (I T 29) (I T 32) (B T 34)=true then 0 else 10:=by
  obtain⟨e29,e30,e31,e32,e33,e34,-⟩:=F0
  obtain⟨-,-,-,-,-,-,-,-,-,-,e87,-⟩:=F4
  replace e87:I T 87=(B9 g2 (I T 29) (I T 32) (B T 34) ([]:List (List U))):=by rw[←show gAt 0 (pj.map (Rf.eval T))=g2 from z2.symm];exact e87
  simp only[AA,zR,Af] at*
  intro h
  rw[e87,hgB]
  exact rH h
 clear w3
 ·obtain⟨-,-,-,-,-,-,-,-,-,-,-,e88,e89,-,-,e92,-⟩:=F4
  obtain⟨e93,e94,e95,-⟩:=F5
  simp only[AA,AD,zC,zR,zL] at*
  cases h37b:(B T 37) with
  |true=>
   have hn:=h37.1 h37b
   cases hl:AR g with
   |true=>exact absurd hl hn
   |false=>clear h37 h35 h36 hal h87;grind
  |false=>
   have hl:AR g=true:=by refine Classical.byContradiction fun hn=>?_;rw[h37.2 hn] at h37b;cases h37b
   rw[hl]
   have h1:=h87 hl
   have h2:=hal h37b
   clear h37 h35 h36 hal h87
   grind
theorem qv:CA Try.prog 25 pq:=by
 refine Bu (l:=[(18,mx),(12,LU)]) C6 (by simp only[List.forall_mem_cons];exact⟨pF,ip,fun _ h=>absurd h (by simp)⟩) rA (by kernel_rfl) fun T us hpre hT hul hS hBd hE=>?_
 change us.length=29 at hul
 obtain⟨-,-,-,-,-,-,-,-,-,-,-,-,-,-,-,⟨lo26,hi26⟩,⟨hl27,he27⟩,⟨lo28,hi28⟩,-⟩:=hBd
 replace lo26:0≤I T 26:=lo26
 replace hi26:I T 26≤255:=hi26
 replace hl27:(L T 27).length≤140737488355328:=hl27
 replace lo28:0≤I T 28:=lo28
 replace hi28:I T 28≤65535:=hi28
 obtain⟨g,hg⟩:∃g:Gm,g=gT T 0:=⟨_,rfl⟩
 have hgu:gAt 0 us=g:=by rw[hg];exact DV hT hul (by decide)
 clear hpre
 rw[List.map_append,List.map_append,List.map_append] at hE
 have hA:=hE.left
 replace hE:=hE.right
 have hH:=hE.left
 replace hE:=hE.right
 have hB:=hE.left
 replace hE:=hE.right
 obtain⟨A0,hS1⟩:=Cp hS (by kernel_rfl) hA
 obtain⟨g1,z1⟩:∃g:Gm,g=gT T 0:=⟨_,rfl⟩
 obtain⟨hgA,h35,h36,hlen,h34⟩:=qk lo26 hi26 hl27 lo28 hi28 g hg g1 z1 A0
 obtain⟨ow0,hS2,inv0,np0⟩:=qp g hg hlen hS1 hB hH
 have hF2:=(Cp (hS2.append hS1) (l:=pl) (by kernel_rfl) hB)
 obtain⟨B0,hS⟩:=hF2
 clear hA hB hH hS1 hS2
 obtain⟨A1,hO⟩:=CK (tys:=[.b]) (rs:=qQ) hS (by kernel_rfl) hE
 obtain⟨g2,z2⟩:∃g:Gm,g=gT T 0:=⟨_,rfl⟩
 have q0:=qz lo26 hi26 hl27 lo28 hi28 g hg g1 z1 hgA h35 h36 hlen h34 inv0 np0 g2 z2 A0 B0 A1
 refine⟨⟨(fun _=>ow0),trivial⟩,hO.trans ?_⟩
 exact (lc (by show U.bool (B T 95)= .bool (pn us);unfold pn;rw[hgu];exact congrArg U.bool q0) rfl)
end Go.Eng
end
