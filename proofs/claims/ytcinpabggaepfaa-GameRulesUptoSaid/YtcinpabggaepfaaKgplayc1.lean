/-
  A part of the proof: K_gplayc1.
-/
import Derived.Test.YtcinpabggaepfaaKgplayd
set_option linter.unusedVariables false
set_option linter.unusedSimpArgs false
noncomputable section
open Go Go.Eng Go.Proofs
set_option maxHeartbeats 4000000
set_option maxRecDepth 100000
namespace Go.Eng
theorem cx {T:Tab}(hF:AK T Bo)(k102:(B T 102)=true)(k104:(I T 104)=1)(k105:(I T 105)=1)(g:Gm)(hH:CR T g):A5 T g:=by
 obtain⟨ho,he⟩:=Be (K:=[(102,.b,.c (.bool true)),(104,.i,.c (.int 1)),(105,.i,.c (.int 1))]) (outs:=A4) (os:=[.e 100,.e 98,.e 384,.e 99,.e 85,.e 86,.e 87,.e 88,.e 89,.e 90,.e 91,.e 92,.e 93,.e 94,.e 95,.e 96]) (es':=[⟨108,.eq,[.e 85,.c (.int 13)]⟩,⟨110,.eq,[.e 87,.c (.int 13)]⟩,⟨111,.and,[.e 108,.e 110]⟩,⟨112,.and,[.e 90,.e 111]⟩,⟨113,.and,[.e 90,.n 111]⟩,⟨114,.eq,[.e 86,.c (.int 13)]⟩,⟨116,.eq,[.e 88,.c (.int 13)]⟩,⟨117,.and,[.e 114,.e 116]⟩,⟨118,.and,[.e 113,.e 117]⟩,⟨122,.ite .i,[.e 112,.c (.int 0),.c (.int 1)]⟩,⟨124,.or,[.e 112,.e 118]⟩,⟨128,.ite .i,[.e 124,.e 122,.c (.int (-1))]⟩,⟨131,.lt,[.e 128,.c (.int 0)]⟩,⟨132,.and,[.e 90,.e 131]⟩,⟨136,.eq,[.e 97,.c (.int (-1))]⟩,⟨138,.and,[.e 136,.n 99]⟩,⟨141,.pick .b,[.e 4,.e 89,.e 90,.e 91,.e 92]⟩,⟨142,.and,[.e 138,.e 141]⟩,⟨146,.and,[.e 142,.n 94]⟩,⟨149,.ite .i,[.e 146,.c (.int 1),.e 97]⟩,⟨384,.ite .i,[.e 132,.e 149,.e 97]⟩]) ⟨k102,k104,k105,trivial⟩ hF (by kernel_rfl)
 clear hF
 obtain⟨h27,h30,h32,h82,h4,h3,h22,hba,hp⟩:=hH
 simp only[AK,AA,BL,Af,w2P,AN,AM,AD,zN,zR,zL,zC,uR,Aj,zW,if_true,if_false] at he
 simp only[A4,CD,CZ,AD,zR,zL,zC] at ho
 simp only[A5,k104,k105,ho]
 clear ho
 simp only[Br,CH,Bx,Bw,CT,Ce,CM,sIn,Bm,Bp,B5,Bz,Au,AY,AS,←h27,←h30,←h32,←h82,←h4,←h3,←h22,St.mk.injEq,zT,Int.reduceEq,Int.reduceMod,reduceIte]
 have hw:(B T 132)=true↔((B T 90)=true∧(decide ((I T 85)=13)&&decide ((I T 87)=13)||decide ((I T 86)=13)&&decide ((I T 88)=13))=false):=by
  obtain⟨e108,e110,e111,e112,e113,e114,e116,e117,e118,e122,e124,e128,e131,e132,-⟩:=he
  simp only[zB,Bool.or_eq_false_iff,Bool.and_eq_false_iff,decide_eq_false_iff_not]
  grind
 obtain⟨-,-,-,-,-,-,-,-,-,-,-,-,-,-,he⟩:=he
 (repeat' apply And.intro)<;>(first|rfl|(first|refine AU ?_|skip)<;>(try simp only[zB,←hw])<;>grind (splits:=60))
theorem dK {T:Tab}(hF:AK T Bo)(k102:(B T 102)=true)(k104:(I T 104)=2)(k105:(I T 105)=1)(g:Gm)(hH:CR T g):A5 T g:=by
 obtain⟨ho,he⟩:=Be (K:=[(102,.b,.c (.bool true)),(104,.i,.c (.int 2)),(105,.i,.c (.int 1))]) (outs:=A4) (os:=[.e 100,.e 385,.e 97,.e 99,.e 85,.e 373,.e 87,.e 88,.e 89,.e 90,.e 91,.e 92,.e 380,.e 381,.e 382,.e 383]) (es':=[⟨108,.eq,[.e 85,.c (.int 13)]⟩,⟨110,.eq,[.e 87,.c (.int 13)]⟩,⟨111,.and,[.e 108,.e 110]⟩,⟨112,.and,[.e 90,.e 111]⟩,⟨113,.and,[.e 90,.n 111]⟩,⟨114,.eq,[.e 86,.c (.int 13)]⟩,⟨116,.eq,[.e 88,.c (.int 13)]⟩,⟨117,.and,[.e 114,.e 116]⟩,⟨118,.and,[.e 113,.e 117]⟩,⟨122,.ite .i,[.e 112,.c (.int 0),.c (.int 1)]⟩,⟨124,.or,[.e 112,.e 118]⟩,⟨128,.ite .i,[.e 124,.e 122,.c (.int (-1))]⟩,⟨131,.lt,[.e 128,.c (.int 0)]⟩,⟨132,.and,[.e 90,.e 131]⟩,⟨154,.eq,[.e 86,.e 27]⟩,⟨159,.eq,[.c (.int 1),.e 3]⟩,⟨160,.and,[.e 22,.e 159]⟩,⟨161,.or,[.e 154,.e 160]⟩,⟨164,.ne,[.c (.int 1),.e 4]⟩,⟨168,.w2 .i64 .add,[.e 86,.c (.int 1)]⟩,⟨179,.ite .i,[.e 30,.e 168,.e 86]⟩,⟨183,.eq,[.e 97,.c (.int (-1))]⟩,⟨186,.w2 .i64 .add,[.e 86,.c (.int 1)]⟩,⟨197,.ite .i,[.e 183,.e 186,.e 86]⟩,⟨200,.and,[.n 183,.e 93]⟩,⟨201,.and,[.n 183,.e 94]⟩,⟨202,.and,[.n 183,.e 95]⟩,⟨203,.and,[.n 183,.e 96]⟩,⟨204,.or,[.e 183,.e 98]⟩,⟨206,.ite .i,[.e 164,.e 179,.e 197]⟩,⟨209,.ite .b,[.e 164,.e 93,.e 200]⟩,⟨210,.ite .b,[.e 164,.e 94,.e 201]⟩,⟨211,.ite .b,[.e 164,.e 95,.e 202]⟩,⟨212,.ite .b,[.e 164,.e 96,.e 203]⟩,⟨213,.ite .b,[.e 164,.e 98,.e 204]⟩,⟨215,.ite .i,[.e 161,.e 86,.e 206]⟩,⟨218,.ite .b,[.e 161,.e 93,.e 209]⟩,⟨219,.ite .b,[.e 161,.e 94,.e 210]⟩,⟨220,.ite .b,[.e 161,.e 95,.e 211]⟩,⟨221,.ite .b,[.e 161,.e 96,.e 212]⟩,⟨222,.ite .b,[.e 161,.e 98,.e 213]⟩,⟨373,.ite .i,[.e 132,.e 215,.e 86]⟩,⟨380,.ite .b,[.e 132,.e 218,.e 93]⟩,⟨381,.ite .b,[.e 132,.e 219,.e 94]⟩,⟨382,.ite .b,[.e 132,.e 220,.e 95]⟩,⟨383,.ite .b,[.e 132,.e 221,.e 96]⟩,⟨385,.ite .b,[.e 132,.e 222,.e 98]⟩]) ⟨k102,k104,k105,trivial⟩ hF (by kernel_rfl)
 clear hF
 obtain⟨h27,h30,h32,h82,h4,h3,h22,hba,hp⟩:=hH
 simp only[AK,AA,BL,Af,w2P,AN,AM,AD,zN,zR,zL,zC,uR,Aj,zW,if_true,if_false] at he
 simp only[A4,CD,CZ,AD,zR,zL,zC] at ho
 simp only[A5,k104,k105,ho]
 clear ho
 simp only[Br,CH,Bx,Bw,CT,Ce,CM,sIn,Bm,Bp,B5,Bz,Au,AY,AS,←h27,←h30,←h32,←h82,←h4,←h3,←h22,St.mk.injEq,zT,Int.reduceEq,Int.reduceMod,reduceIte]
 have hw:(B T 132)=true↔((B T 90)=true∧(decide ((I T 85)=13)&&decide ((I T 87)=13)||decide ((I T 86)=13)&&decide ((I T 88)=13))=false):=by
  obtain⟨e108,e110,e111,e112,e113,e114,e116,e117,e118,e122,e124,e128,e131,e132,-⟩:=he
  simp only[zB,Bool.or_eq_false_iff,Bool.and_eq_false_iff,decide_eq_false_iff_not]
  grind
 obtain⟨-,-,-,-,-,-,-,-,-,-,-,-,-,-,he⟩:=he
 (repeat' apply And.intro)<;>(first|rfl|(first|refine AU ?_|skip)<;>(try simp only[zB,←hw])<;>grind (splits:=60))
theorem cB {T:Tab}(hF:AK T Bo)(k102:(B T 102)=true)(k104:(I T 104)=3)(k105:(I T 105)=1)(g:Gm)(hH:CR T g):A5 T g:=by
 obtain⟨ho,he⟩:=Be (K:=[(102,.b,.c (.bool true)),(104,.i,.c (.int 3)),(105,.i,.c (.int 1))]) (outs:=A4) (os:=[.e 100,.e 385,.e 384,.e 386,.e 85,.e 373,.e 87,.e 88,.e 89,.e 377,.e 91,.e 92,.e 93,.e 381,.e 95,.e 96]) (es':=[⟨108,.eq,[.e 85,.c (.int 13)]⟩,⟨110,.eq,[.e 87,.c (.int 13)]⟩,⟨111,.and,[.e 108,.e 110]⟩,⟨112,.and,[.e 90,.e 111]⟩,⟨113,.and,[.e 90,.n 111]⟩,⟨114,.eq,[.e 86,.c (.int 13)]⟩,⟨116,.eq,[.e 88,.c (.int 13)]⟩,⟨117,.and,[.e 114,.e 116]⟩,⟨118,.and,[.e 113,.e 117]⟩,⟨122,.ite .i,[.e 112,.c (.int 0),.c (.int 1)]⟩,⟨124,.or,[.e 112,.e 118]⟩,⟨128,.ite .i,[.e 124,.e 122,.c (.int (-1))]⟩,⟨131,.lt,[.e 128,.c (.int 0)]⟩,⟨132,.and,[.e 90,.e 131]⟩,⟨229,.eq,[.e 86,.e 27]⟩,⟨233,.eq,[.c (.int 1),.e 3]⟩,⟨234,.and,[.e 22,.e 233]⟩,⟨235,.or,[.n 229,.e 234]⟩,⟨239,.eq,[.e 88,.e 27]⟩,⟨240,.and,[.e 32,.n 239]⟩,⟨243,.eq,[.e 88,.c (.int 13)]⟩,⟨244,.and,[.e 240,.n 243]⟩,⟨245,.or,[.e 235,.e 244]⟩,⟨246,.and,[.e 132,.e 245]⟩,⟨247,.and,[.e 132,.n 245]⟩,⟨248,.eq,[.c (.int 1),.e 4]⟩,⟨250,.ne,[.e 97,.c (.int (-1))]⟩,⟨251,.and,[.e 248,.e 250]⟩,⟨253,.ne,[.c (.int 1),.e 4]⟩,⟨255,.pick .i,[.e 4,.e 85,.e 86,.e 87,.e 88]⟩,⟨256,.eq,[.e 255,.e 27]⟩,⟨257,.and,[.e 253,.n 256]⟩,⟨258,.or,[.e 251,.e 257]⟩,⟨259,.and,[.e 247,.e 258]⟩,⟨285,.eq,[.c (.int 1),.e 97]⟩,⟨288,.ite .i,[.e 285,.c (.int (-1)),.e 97]⟩,⟨289,.or,[.e 285,.e 98]⟩,⟨290,.or,[.e 285,.e 99]⟩,⟨291,.or,[.e 246,.e 259]⟩,⟨293,.ite .i,[.e 291,.e 86,.c (.int 13)]⟩,⟨297,.and,[.e 291,.e 90]⟩,⟨301,.and,[.e 291,.e 94]⟩,⟨304,.ite .i,[.e 291,.e 97,.e 288]⟩,⟨305,.ite .b,[.e 291,.e 98,.e 289]⟩,⟨306,.ite .b,[.e 291,.e 99,.e 290]⟩,⟨373,.ite .i,[.e 132,.e 293,.e 86]⟩,⟨377,.ite .b,[.e 132,.e 297,.e 90]⟩,⟨381,.ite .b,[.e 132,.e 301,.e 94]⟩,⟨384,.ite .i,[.e 132,.e 304,.e 97]⟩,⟨385,.ite .b,[.e 132,.e 305,.e 98]⟩,⟨386,.ite .b,[.e 132,.e 306,.e 99]⟩]) ⟨k102,k104,k105,trivial⟩ hF (by kernel_rfl)
 clear hF
 obtain⟨h27,h30,h32,h82,h4,h3,h22,hba,hp⟩:=hH
 simp only[AK,AA,BL,Af,w2P,AN,AM,AD,zN,zR,zL,zC,uR,Aj,zW,if_true,if_false] at he
 simp only[A4,CD,CZ,AD,zR,zL,zC] at ho
 simp only[A5,k104,k105,ho]
 clear ho
 simp only[Br,CH,Bx,Bw,CT,Ce,CM,sIn,Bm,Bp,B5,Bz,Au,AY,AS,←h27,←h30,←h32,←h82,←h4,←h3,←h22,St.mk.injEq,zT,Int.reduceEq,Int.reduceMod,reduceIte]
 have hw:(B T 132)=true↔((B T 90)=true∧(decide ((I T 85)=13)&&decide ((I T 87)=13)||decide ((I T 86)=13)&&decide ((I T 88)=13))=false):=by
  obtain⟨e108,e110,e111,e112,e113,e114,e116,e117,e118,e122,e124,e128,e131,e132,-⟩:=he
  simp only[zB,Bool.or_eq_false_iff,Bool.and_eq_false_iff,decide_eq_false_iff_not]
  grind
 obtain⟨-,-,-,-,-,-,-,-,-,-,-,-,-,-,he⟩:=he
 (repeat' apply And.intro)<;>(first|rfl|(first|refine AU ?_|skip)<;>(try simp only[zB,←hw])<;>grind (splits:=60))
theorem aW {T:Tab}(hF:AK T Bo)(k102:(B T 102)=true)(k104:(I T 104)=4)(k105:(I T 105)=1)(g:Gm)(hH:CR T g):A5 T g:=by
 obtain⟨ho,he⟩:=Be (K:=[(102,.b,.c (.bool true)),(104,.i,.c (.int 4)),(105,.i,.c (.int 1))]) (outs:=A4) (os:=[.e 387,.e 98,.e 97,.e 99,.e 85,.e 86,.e 87,.e 88,.e 89,.e 90,.e 91,.e 92,.e 93,.e 94,.e 95,.e 96]) (es':=[⟨108,.eq,[.e 85,.c (.int 13)]⟩,⟨110,.eq,[.e 87,.c (.int 13)]⟩,⟨111,.and,[.e 108,.e 110]⟩,⟨112,.and,[.e 90,.e 111]⟩,⟨113,.and,[.e 90,.n 111]⟩,⟨114,.eq,[.e 86,.c (.int 13)]⟩,⟨116,.eq,[.e 88,.c (.int 13)]⟩,⟨117,.and,[.e 114,.e 116]⟩,⟨118,.and,[.e 113,.e 117]⟩,⟨122,.ite .i,[.e 112,.c (.int 0),.c (.int 1)]⟩,⟨124,.or,[.e 112,.e 118]⟩,⟨128,.ite .i,[.e 124,.e 122,.c (.int (-1))]⟩,⟨131,.lt,[.e 128,.c (.int 0)]⟩,⟨132,.and,[.e 90,.e 131]⟩,⟨308,.eq,[.e 82,.c (.int (-1))]⟩,⟨309,.and,[.e 132,.e 308]⟩,⟨312,.eq,[.c (.int 1),.e 82]⟩,⟨313,.or,[.e 100,.e 312]⟩,⟨315,.eq,[.c (.int 1),.e 4]⟩,⟨317,.eq,[.e 97,.c (.int (-1))]⟩,⟨318,.and,[.e 315,.e 317]⟩,⟨320,.and,[.e 318,.n 98]⟩,⟨321,.or,[.e 313,.e 320]⟩,⟨322,.ite .b,[.e 309,.e 100,.e 321]⟩,⟨387,.ite .b,[.e 132,.e 322,.e 100]⟩]) ⟨k102,k104,k105,trivial⟩ hF (by kernel_rfl)
 clear hF
 obtain⟨h27,h30,h32,h82,h4,h3,h22,hba,hp⟩:=hH
 simp only[AK,AA,BL,Af,w2P,AN,AM,AD,zN,zR,zL,zC,uR,Aj,zW,if_true,if_false] at he
 simp only[A4,CD,CZ,AD,zR,zL,zC] at ho
 simp only[A5,k104,k105,ho]
 clear ho
 simp only[Br,CH,Bx,Bw,CT,Ce,CM,sIn,Bm,Bp,B5,Bz,Au,AY,AS,←h27,←h30,←h32,←h82,←h4,←h3,←h22,St.mk.injEq,zT,Int.reduceEq,Int.reduceMod,reduceIte]
 have hw:(B T 132)=true↔((B T 90)=true∧(decide ((I T 85)=13)&&decide ((I T 87)=13)||decide ((I T 86)=13)&&decide ((I T 88)=13))=false):=by
  obtain⟨e108,e110,e111,e112,e113,e114,e116,e117,e118,e122,e124,e128,e131,e132,-⟩:=he
  simp only[zB,Bool.or_eq_false_iff,Bool.and_eq_false_iff,decide_eq_false_iff_not]
  grind
 obtain⟨-,-,-,-,-,-,-,-,-,-,-,-,-,-,he⟩:=he
 (repeat' apply And.intro)<;>(first|rfl|(first|refine AU ?_|skip)<;>(try simp only[zB,←hw])<;>grind (splits:=60))
end Go.Eng
end
