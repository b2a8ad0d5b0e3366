/-
  A part of the proof: K_rstrokec0.
-/
import Derived.Test.YtcinpabggaepfaaKrstroked
set_option linter.unusedVariables false
set_option linter.unusedSimpArgs false
noncomputable section
open Go Go.Eng Go.Proofs
set_option maxHeartbeats 4000000
set_option maxRecDepth 100000
namespace Go.Eng
theorem X5 {T:Tab}(hF:AK T BM)(k98:(B T 98)=true)(k69:(I T 69)=1)(k68:(I T 68)=0)(a118:(I T 118)=I T 69)(hH:B1 T):An T:=by
 obtain⟨ho,he⟩:=Be (K:=[(98,.b,.c (.bool true)),(69,.i,.c (.int 1)),(118,.i,.c (.int 1)),(68,.i,.c (.int 0))]) (outs:=Am) (os:=[.e 48,.e 49,.e 341,.e 52,.e 53,.e 54,.e 55,.e 56,.e 57,.e 58,.e 59,.e 60,.e 61,.e 62,.e 63,.e 64]) (es':=[⟨101,.eq,[.e 53,.c (.int 13)]⟩,⟨103,.eq,[.e 55,.c (.int 13)]⟩,⟨104,.and,[.e 101,.e 103]⟩,⟨105,.or,[.n 57,.e 104]⟩,⟨107,.eq,[.e 54,.c (.int 13)]⟩,⟨109,.eq,[.e 56,.c (.int 13)]⟩,⟨110,.and,[.e 107,.e 109]⟩,⟨111,.or,[.e 105,.e 110]⟩,⟨121,.eq,[.e 50,.c (.int (-1))]⟩,⟨123,.and,[.e 121,.n 52]⟩,⟨125,.pick .b,[.e 3,.e 57,.e 58,.e 59,.e 60]⟩,⟨126,.and,[.e 123,.e 125]⟩,⟨129,.and,[.e 126,.n 61]⟩,⟨132,.ite .i,[.e 129,.c (.int 0),.e 50]⟩,⟨341,.ite .i,[.e 111,.e 50,.e 132]⟩]) ⟨k98,k69,(a118.trans k69),k68,trivial⟩ hF (by kernel_rfl)
 clear hF
 obtain⟨h27,h30,h32,h47,hba,hp⟩:=hH
 simp only[AK,AA,BL,Af,w2P,AN,AM,AD,zN,zR,zL,zC,uR,Aj,zW,if_true,if_false] at he
 simp only[Am,CD,CZ,AD,zR,zL,zC] at ho
 simp only[An,k69,k68,ho]
 clear ho
 simp only[Br,CH,Bx,Bw,CT,Ce,CM,sIn,Bm,Bp,B5,Bz,Au,AY,AS,←h27,←h30,←h32,←h47,St.mk.injEq,zT,Int.reduceEq,Int.reduceMod,reduceIte]
 have hw:(B T 111)=false↔((B T 57)=true∧(decide ((I T 53)=13)&&decide ((I T 55)=13)||decide ((I T 54)=13)&&decide ((I T 56)=13))=false):=by
  obtain⟨e101,e103,e104,e105,e107,e109,e110,e111,-⟩:=he
  simp only[zB,Bool.or_eq_false_iff,Bool.and_eq_false_iff,decide_eq_false_iff_not]
  grind
 obtain⟨-,-,-,-,-,-,-,-,he⟩:=he
 (repeat' apply And.intro)<;>(first|rfl|(first|refine AU ?_|skip)<;>(try simp only[zB,←hw])<;>grind (splits:=60))
theorem WS {T:Tab}(hF:AK T BM)(k98:(B T 98)=true)(k69:(I T 69)=2)(k68:(I T 68)=0)(a118:(I T 118)=I T 69)(hH:B1 T):An T:=by
 obtain⟨ho,he⟩:=Be (K:=[(98,.b,.c (.bool true)),(69,.i,.c (.int 2)),(118,.i,.c (.int 2)),(68,.i,.c (.int 0))]) (outs:=Am) (os:=[.e 48,.e 340,.e 50,.e 52,.e 327,.e 54,.e 55,.e 56,.e 57,.e 58,.e 59,.e 60,.e 335,.e 336,.e 337,.e 338]) (es':=[⟨101,.eq,[.e 53,.c (.int 13)]⟩,⟨103,.eq,[.e 55,.c (.int 13)]⟩,⟨104,.and,[.e 101,.e 103]⟩,⟨105,.or,[.n 57,.e 104]⟩,⟨107,.eq,[.e 54,.c (.int 13)]⟩,⟨109,.eq,[.e 56,.c (.int 13)]⟩,⟨110,.and,[.e 107,.e 109]⟩,⟨111,.or,[.e 105,.e 110]⟩,⟨116,.eq,[.c (.int 0),.e 2]⟩,⟨117,.and,[.e 21,.e 116]⟩,⟨137,.eq,[.e 53,.e 27]⟩,⟨139,.or,[.e 137,.e 117]⟩,⟨140,.and,[.n 111,.e 139]⟩,⟨142,.eq,[.c (.int 0),.e 3]⟩,⟨144,.eq,[.e 50,.c (.int (-1))]⟩,⟨145,.and,[.e 142,.e 144]⟩,⟨148,.w2 .i64 .add,[.e 53,.c (.int 1)]⟩,⟨158,.ite .i,[.e 145,.e 148,.e 53]⟩,⟨162,.and,[.n 145,.e 61]⟩,⟨163,.and,[.n 145,.e 62]⟩,⟨164,.and,[.n 145,.e 63]⟩,⟨165,.and,[.n 145,.e 64]⟩,⟨166,.or,[.e 145,.e 49]⟩,⟨167,.ne,[.c (.int 0),.e 3]⟩,⟨169,.and,[.e 167,.e 30]⟩,⟨172,.w2 .i64 .add,[.e 158,.c (.int 1)]⟩,⟨182,.ite .i,[.e 169,.e 172,.e 158]⟩,⟨326,.or,[.e 111,.e 140]⟩,⟨327,.ite .i,[.e 326,.e 53,.e 182]⟩,⟨335,.ite .b,[.e 326,.e 61,.e 162]⟩,⟨336,.ite .b,[.e 326,.e 62,.e 163]⟩,⟨337,.ite .b,[.e 326,.e 63,.e 164]⟩,⟨338,.ite .b,[.e 326,.e 64,.e 165]⟩,⟨340,.ite .b,[.e 326,.e 49,.e 166]⟩]) ⟨k98,k69,(a118.trans k69),k68,trivial⟩ hF (by kernel_rfl)
 clear hF
 obtain⟨h27,h30,h32,h47,hba,hp⟩:=hH
 simp only[AK,AA,BL,Af,w2P,AN,AM,AD,zN,zR,zL,zC,uR,Aj,zW,if_true,if_false] at he
 simp only[Am,CD,CZ,AD,zR,zL,zC] at ho
 simp only[An,k69,k68,ho]
 clear ho
 simp only[Br,CH,Bx,Bw,CT,Ce,CM,sIn,Bm,Bp,B5,Bz,Au,AY,AS,←h27,←h30,←h32,←h47,St.mk.injEq,zT,Int.reduceEq,Int.reduceMod,reduceIte]
 have hw:(B T 111)=false↔((B T 57)=true∧(decide ((I T 53)=13)&&decide ((I T 55)=13)||decide ((I T 54)=13)&&decide ((I T 56)=13))=false):=by
  obtain⟨e101,e103,e104,e105,e107,e109,e110,e111,-⟩:=he
  simp only[zB,Bool.or_eq_false_iff,Bool.and_eq_false_iff,decide_eq_false_iff_not]
  grind
 obtain⟨-,-,-,-,-,-,-,-,he⟩:=he
 (repeat' apply And.intro)<;>(first|rfl|(first|refine AU ?_|skip)<;>(try simp only[zB,←hw])<;>grind (splits:=60))
theorem Xr {T:Tab}(hF:AK T BM)(k98:(B T 98)=true)(k69:(I T 69)=3)(k68:(I T 68)=0)(a118:(I T 118)=I T 69)(hH:B1 T):An T:=by
 obtain⟨ho,he⟩:=Be (K:=[(98,.b,.c (.bool true)),(69,.i,.c (.int 3)),(118,.i,.c (.int 3)),(68,.i,.c (.int 0))]) (outs:=Am) (os:=[.e 48,.e 340,.e 341,.e 342,.e 327,.e 54,.e 55,.e 56,.e 331,.e 58,.e 59,.e 60,.e 335,.e 62,.e 63,.e 64]) (es':=[⟨101,.eq,[.e 53,.c (.int 13)]⟩,⟨103,.eq,[.e 55,.c (.int 13)]⟩,⟨104,.and,[.e 101,.e 103]⟩,⟨105,.or,[.n 57,.e 104]⟩,⟨107,.eq,[.e 54,.c (.int 13)]⟩,⟨109,.eq,[.e 56,.c (.int 13)]⟩,⟨110,.and,[.e 107,.e 109]⟩,⟨111,.or,[.e 105,.e 110]⟩,⟨116,.eq,[.c (.int 0),.e 2]⟩,⟨117,.and,[.e 21,.e 116]⟩,⟨193,.ne,[.e 53,.e 27]⟩,⟨195,.or,[.e 193,.e 117]⟩,⟨199,.ne,[.e 55,.e 27]⟩,⟨200,.and,[.e 32,.e 199]⟩,⟨202,.ne,[.e 55,.c (.int 13)]⟩,⟨203,.and,[.e 200,.e 202]⟩,⟨204,.or,[.e 195,.e 203]⟩,⟨205,.and,[.n 111,.e 204]⟩,⟨206,.and,[.n 111,.n 204]⟩,⟨207,.eq,[.c (.int 0),.e 3]⟩,⟨209,.ne,[.e 50,.c (.int (-1))]⟩,⟨210,.and,[.e 207,.e 209]⟩,⟨213,.ne,[.c (.int 0),.e 3]⟩,⟨216,.pick .i,[.e 3,.e 53,.e 54,.e 55,.e 56]⟩,⟨218,.ne,[.e 216,.e 27]⟩,⟨219,.and,[.e 213,.e 218]⟩,⟨220,.or,[.e 210,.e 219]⟩,⟨221,.and,[.e 206,.e 220]⟩,⟨247,.eq,[.c (.int 0),.e 50]⟩,⟨250,.or,[.e 247,.e 49]⟩,⟨251,.ite .i,[.e 247,.c (.int (-1)),.e 50]⟩,⟨252,.or,[.e 247,.e 52]⟩,⟨253,.or,[.e 205,.e 221]⟩,⟨326,.or,[.e 111,.e 253]⟩,⟨327,.ite .i,[.e 326,.e 53,.c (.int 13)]⟩,⟨331,.and,[.e 326,.e 57]⟩,⟨335,.and,[.e 326,.e 61]⟩,⟨340,.ite .b,[.e 326,.e 49,.e 250]⟩,⟨341,.ite .i,[.e 326,.e 50,.e 251]⟩,⟨342,.ite .b,[.e 326,.e 52,.e 252]⟩]) ⟨k98,k69,(a118.trans k69),k68,trivial⟩ hF (by kernel_rfl)
 clear hF
 obtain⟨h27,h30,h32,h47,hba,hp⟩:=hH
 simp only[AK,AA,BL,Af,w2P,AN,AM,AD,zN,zR,zL,zC,uR,Aj,zW,if_true,if_false] at he
 simp only[Am,CD,CZ,AD,zR,zL,zC] at ho
 simp only[An,k69,k68,ho]
 clear ho
 simp only[Br,CH,Bx,Bw,CT,Ce,CM,sIn,Bm,Bp,B5,Bz,Au,AY,AS,←h27,←h30,←h32,←h47,St.mk.injEq,zT,Int.reduceEq,Int.reduceMod,reduceIte]
 have hw:(B T 111)=false↔((B T 57)=true∧(decide ((I T 53)=13)&&decide ((I T 55)=13)||decide ((I T 54)=13)&&decide ((I T 56)=13))=false):=by
  obtain⟨e101,e103,e104,e105,e107,e109,e110,e111,-⟩:=he
  simp only[zB,Bool.or_eq_false_iff,Bool.and_eq_false_iff,decide_eq_false_iff_not]
  grind
 obtain⟨-,-,-,-,-,-,-,-,he⟩:=he
 (repeat' apply And.intro)<;>(first|rfl|(first|refine AU ?_|skip)<;>(try simp only[zB,←hw])<;>grind (splits:=60))
theorem Vl {T:Tab}(hF:AK T BM)(k98:(B T 98)=true)(k69:(I T 69)=4)(k68:(I T 68)=0)(a118:(I T 118)=I T 69)(hH:B1 T):An T:=by
 obtain⟨ho,he⟩:=Be (K:=[(98,.b,.c (.bool true)),(69,.i,.c (.int 4)),(118,.i,.c (.int 4)),(68,.i,.c (.int 0))]) (outs:=Am) (os:=[.e 339,.e 49,.e 50,.e 52,.e 53,.e 54,.e 55,.e 56,.e 57,.e 58,.e 59,.e 60,.e 61,.e 62,.e 63,.e 64]) (es':=[⟨101,.eq,[.e 53,.c (.int 13)]⟩,⟨103,.eq,[.e 55,.c (.int 13)]⟩,⟨104,.and,[.e 101,.e 103]⟩,⟨105,.or,[.n 57,.e 104]⟩,⟨107,.eq,[.e 54,.c (.int 13)]⟩,⟨109,.eq,[.e 56,.c (.int 13)]⟩,⟨110,.and,[.e 107,.e 109]⟩,⟨111,.or,[.e 105,.e 110]⟩,⟨257,.ne,[.e 47,.c (.int (-1))]⟩,⟨259,.eq,[.c (.int 0),.e 47]⟩,⟨261,.eq,[.c (.int 0),.e 3]⟩,⟨263,.eq,[.e 50,.c (.int (-1))]⟩,⟨264,.and,[.e 261,.e 263]⟩,⟨266,.and,[.e 264,.n 49]⟩,⟨267,.or,[.e 259,.e 266]⟩,⟨268,.and,[.e 257,.e 267]⟩,⟨271,.or,[.e 268,.e 48]⟩,⟨339,.ite .b,[.e 111,.e 48,.e 271]⟩]) ⟨k98,k69,(a118.trans k69),k68,trivial⟩ hF (by kernel_rfl)
 clear hF
 obtain⟨h27,h30,h32,h47,hba,hp⟩:=hH
 simp only[AK,AA,BL,Af,w2P,AN,AM,AD,zN,zR,zL,zC,uR,Aj,zW,if_true,if_false] at he
 simp only[Am,CD,CZ,AD,zR,zL,zC] at ho
 simp only[An,k69,k68,ho]
 clear ho
 simp only[Br,CH,Bx,Bw,CT,Ce,CM,sIn,Bm,Bp,B5,Bz,Au,AY,AS,←h27,←h30,←h32,←h47,St.mk.injEq,zT,Int.reduceEq,Int.reduceMod,reduceIte]
 have hw:(B T 111)=false↔((B T 57)=true∧(decide ((I T 53)=13)&&decide ((I T 55)=13)||decide ((I T 54)=13)&&decide ((I T 56)=13))=false):=by
  obtain⟨e101,e103,e104,e105,e107,e109,e110,e111,-⟩:=he
  simp only[zB,Bool.or_eq_false_iff,Bool.and_eq_false_iff,decide_eq_false_iff_not]
  grind
 obtain⟨-,-,-,-,-,-,-,-,he⟩:=he
 (repeat' apply And.intro)<;>(first|rfl|(first|refine AU ?_|skip)<;>(try simp only[zB,←hw])<;>grind (splits:=60))
end Go.Eng
end
