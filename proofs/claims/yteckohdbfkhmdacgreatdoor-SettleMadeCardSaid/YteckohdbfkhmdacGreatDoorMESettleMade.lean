/- The functions come to what their models come to. Conditions: none. -/
import Derived.Test.YteckohdbfkhmdacGreatDoorMDSettleMade
import Derived.KernelRfl
import Derived.WalkKit
import Derived.LaidEql
import Derived.Stop.Asserts
import Derived.RowKitTokens
import Derived.Test.YteckohdbfkhmdacGreatDoorChecked
set_option linter.unusedVariables false
set_option linter.unusedSimpArgs false
set_option maxRecDepth 100000
set_option maxHeartbeats 4000000
namespace Go.Cn
open Go Go.Sw Go.Mo Go.Proofs
abbrev ET:Nat:=28
theorem Y{α:Sort _}{a:α}:a=a:=rfl
abbrev Q0:=(Wr.int .i64)
abbrev Q1:=(Wr.sl (Wr.pr Q0 aM))
abbrev Q2:=(Wr.pr (Wr.sl aM) (Wr.pr Q1 Q0))
abbrev Q3:=(Int×Int×Int×Int×(List aR)×(Int×(List (Int×aR))×(List (Int×(List (Int×aR))))×Bool)×(List (Int×(List aR)))×Int×(Int×Int×(List (Int×(List Int)×(List aR))))×Int×Int×(List Int)×Int×Int×Int×Int×(Int×Int)×(List (Bool×Bool×(List Int)))×Int×((List aR)×(List (Int×aR))×Int)×Int×((List aR)×(List (Int×aR))×Int))
abbrev Q4:=(Wr.pr Q0 (Wr.pr Q0 (Wr.pr Q0 aM)))
abbrev Q5:=(Wr.sl aM)
abbrev Q6:=(List (Int×aR))
abbrev Q7:=(Wr.pr Q0 (Wr.pr aM (Wr.pr Q0 (Wr.pr Q0 (Wr.pr Q0 Q5)))))
abbrev Q8:=(Wr.pr Q0 (Wr.pr (Wr.sl Q0) Q5))
abbrev Q9:=(Wr.err ET)
abbrev gK:=(Wr.pr Q0 aM)
abbrev Lm:=(Wr.pr Q0 (Wr.pr Q1 (Wr.pr (Wr.sl (Wr.pr Q0 Q1)) Wr.bool)))
abbrev Ca:=((List aR)×Q6×Int)
abbrev iR:=(List aR)
abbrev kS:=(List Int)
abbrev pM:=(Wr.pr Q0 Q1)
abbrev mO:=(Wr.sl Q0)
abbrev Ov:=(Wr.pr Q0 (Wr.pr Q0 (Wr.sl Q8)))
abbrev Ln:=(List (Int×kS×iR))
abbrev Gh:=(List (Int×Q6))
abbrev Ul:=(List (Bool×Bool×kS))
abbrev Um:=(Option (Int×Ca))
abbrev UU:=Tryz.call10
abbrev OY:=Tryz.call101
abbrev OZ:=Tryz.call102
abbrev PA:=Tryz.call118
abbrev WK:=Tryz.call12
abbrev PB:=Tryz.call126
abbrev GF:=Tryz.call133
abbrev AJ:=Tryz.call138
abbrev PC:=Tryz.call139
abbrev UW:=Tryz.call14
abbrev WC:=Tryz.call15
abbrev PD:=Tryz.call160
abbrev LH:=Tryz.call163
abbrev UE:=Tryz.call167
abbrev SS:=Tryz.call17
abbrev GG:=Tryz.call185
abbrev PE:=Tryz.call207
abbrev PF:=Tryz.call210
abbrev PG:=Tryz.call212
abbrev LI:=Tryz.call213
abbrev LJ:=Tryz.call215
abbrev WD:=Tryz.call27
abbrev UX:=Tryz.call44
abbrev UF:=Tryz.call48
abbrev SU:=Tryz.call69
abbrev LK:=Tryz.isAgg107
abbrev vD:=Tryz.isAgg144
abbrev sI:=Tryz.isAgg186
abbrev Ow:=Tryz.isAgg197
abbrev Xu:=Tryz.isAgg210
abbrev AK:=Tryz.isAgg214
abbrev Uc:=Tryz.isAgg22
abbrev WL:=Tryz.isAgg28
abbrev G3:=Tryz.isAgg3
abbrev uW:=Tryz.isAgg30
abbrev Uo:=Tryz.isAgg31
abbrev DC:=Tryz.isAgg33
abbrev UG:=Tryz.isAgg35
abbrev DD:=Tryz.isAgg44
abbrev UH:=Tryz.isAgg47
abbrev G5:=Tryz.isAgg5
abbrev UI:=Tryz.isAgg61
abbrev Ox:=Tryz.isAgg74
abbrev GU:=Tryz.isAgg77
abbrev Fs:=Tryz.isAgg80
abbrev QD:=Tryz.isAgg81
abbrev SV:=Tryz.isAgg82
abbrev Yg:=Tryz.isAgg84
abbrev RQ:=Tryz.isAgg88
abbrev UJ:=Tryz.isAgg91
abbrev PH:=Tryz.typeInfo135
abbrev RR:=Tryz.typeInfo144
abbrev RS:=Tryz.typeInfo197
abbrev RT:=Tryz.typeInfo210
abbrev Lo:=Tryz.typeInfo214
abbrev I3:=Tryz.typeInfo3
abbrev An:=Tryz.typeInfo30
abbrev LL:=Tryz.typeInfo44
abbrev I5:=Tryz.typeInfo5
abbrev Xv:=Tryz.sizeOf107
abbrev wI:=Tryz.sizeOf135
abbrev lT:=Tryz.sizeOf144
abbrev lL:=Tryz.sizeOf186
abbrev vN:=Tryz.sizeOf197
abbrev Cp:=Tryz.sizeOf210
abbrev jZ:=Tryz.sizeOf214
abbrev zD:=Tryz.sizeOf22
abbrev WM:=Tryz.sizeOf28
abbrev S3:=Tryz.sizeOf3
abbrev kW:=Tryz.sizeOf30
abbrev yL:=Tryz.sizeOf31
abbrev Pq:=Tryz.sizeOf33
abbrev QE:=Tryz.sizeOf35
abbrev LM:=Tryz.sizeOf361
abbrev S4:=Tryz.sizeOf4
abbrev Df:=Tryz.sizeOf44
abbrev DF:=Tryz.sizeOf47
abbrev S5:=Tryz.sizeOf5
abbrev RU:=Tryz.sizeOf54
abbrev UK:=Tryz.sizeOf59
abbrev QF:=Tryz.sizeOf61
abbrev Iz:=Tryz.sizeOf74
abbrev Lp:=Tryz.sizeOf76
abbrev Ja:=Tryz.sizeOf77
abbrev UY:=Tryz.sizeOf78
abbrev zE:=Tryz.sizeOf80
abbrev AL:=Tryz.sizeOf81
abbrev GH:=Tryz.sizeOf82
abbrev Ke:=Tryz.sizeOf84
abbrev QG:=Tryz.sizeOf86
abbrev GW:=Tryz.sizeOf88
abbrev UL:=Tryz.sizeOf90
abbrev LN:=Tryz.sizeOf91
abbrev QH:=Tryz.sizeOf97
abbrev tU:=Tryz.runUnderlying107
abbrev LO:=Tryz.runUnderlying135
abbrev vE:=Tryz.runUnderlying144
abbrev RW:=Tryz.runUnderlying148
abbrev Lq:=Tryz.runUnderlying186
abbrev wR:=Tryz.runUnderlying188
abbrev AM:=Tryz.runUnderlying197
abbrev RX:=Tryz.runUnderlying210
abbrev Oy:=Tryz.runUnderlying214
abbrev xH:=Tryz.runUnderlying22
abbrev Qd:=Tryz.runUnderlying25
abbrev GI:=Tryz.runUnderlying254
abbrev RY:=Tryz.runUnderlying293
abbrev U3:=Tryz.runUnderlying3
abbrev vG:=Tryz.runUnderlying30
abbrev Kf:=Tryz.runUnderlying31
abbrev RZ:=Tryz.runUnderlying324
abbrev SA:=Tryz.runUnderlying326
abbrev SB:=Tryz.runUnderlying328
abbrev Xw:=Tryz.runUnderlying33
abbrev Oz:=Tryz.runUnderlying35
abbrev Xx:=Tryz.runUnderlying350
abbrev PI:=Tryz.runUnderlying363
abbrev GJ:=Tryz.runUnderlying44
abbrev SC:=Tryz.runUnderlying47
abbrev DG:=Tryz.runUnderlying49
abbrev U5:=Tryz.runUnderlying5
abbrev UZ:=Tryz.runUnderlying57
abbrev PJ:=Tryz.runUnderlying61
abbrev VU:=Tryz.runUnderlying65
abbrev Ft:=Tryz.runUnderlying76
abbrev yM:=Tryz.runUnderlying77
abbrev GL:=Tryz.runUnderlying78
abbrev SX:=Tryz.runUnderlying80
abbrev SD:=Tryz.runUnderlying81
abbrev ML:=Tryz.runUnderlying82
abbrev GM:=Tryz.runUnderlying84
abbrev wD:=Tryz.runUnderlying86
abbrev LP:=Tryz.runUnderlying90
abbrev Kg:=Tryz.runUnderlying91
abbrev Ud:=Tryz.runUnderlying93
abbrev GN:=Tryz.zeroValue135
abbrev Cq:=Tryz.zeroValue144
abbrev Ue:=Tryz.zeroValue186
abbrev Qe:=Tryz.zeroValue197
abbrev Pa:=Tryz.zeroValue210
abbrev Fu:=Tryz.zeroValue214
abbrev Z3:=Tryz.zeroValue3
abbrev Cb:=Tryz.zeroValue30
abbrev UM:=Tryz.zeroValue31
abbrev QI:=Tryz.zeroValue33
abbrev GO:=Tryz.zeroValue44
abbrev Z5:=Tryz.zeroValue5
abbrev VV:=Tryz.zeroValue59
abbrev VW:=Tryz.zeroValue61
abbrev SE:=Tryz.zeroValue80
abbrev VA:=Tryz.zeroValue84
abbrev UN:=Tryz.zeroValue97
abbrev kM(i:Nat)(ia:Option Nat)(p:Nat)(pa:Option Nat)(q:Nat)(qa:Option Nat)(x y z u:Nat)(b0 b1 b2 b3:Int)(b4:List aR)(b5:Int×List (Int×aR)×List (Int×List (Int×aR))×Bool)(b6:List (Int×List aR))(b7:Int)(b8:Int×Int×List (Int×List Int×List aR))(b9 bA:Int)(bB:List Int)(bC bD bE bF:Int)(bG:Int×Int)(bH:List (Bool×Bool×List Int))(bI:Int)(bJ:List aR×List (Int×aR)×Int)(bK:Int)(bL:List aR×List (Int×aR)×Int):List (Nat×XB):=
 [(i,.box 93 [.v Q0 b0,.ptr p 0,.v Q0 b1,.v Q0 b2,.v Q0 b3,.ref x,.v Lm b5,.ref y,.v Q0 b7,.v Ov b8,.v Q0 b9,.v Q0 bA,.ref z,.ptr q 0,.v Q0 bC,.v Q0 bD,.v Q0 bE,.v Q0 bF,.v (Wr.pr Q0 Q0) bG,.ref u] ia),(p,.box 188 [.v Q0 bI,.v Q2 bJ] pa),(q,.box 188 [.v Q0 bK,.v Q2 bL] qa),(x,.arr 30 aM b4),(y,.mp Q0 Q5 b6),(z,.arr 3 Q0 bB),(u,.arr 135 (Wr.pr Wr.bool (Wr.pr Wr.bool (Wr.sl (Wr.int .u8)))) bH)]
abbrev Uf(i:Nat)(ia:Option Nat)(p:Nat)(pa:Option Nat)(q:Nat)(qa:Option Nat)(x y z u:Nat)(t:Int×Int×Int×Int×List aR×(Int×List (Int×aR)×List (Int×List (Int×aR))×Bool)×List (Int×List aR)×Int×(Int×Int×List (Int×List Int×List aR))×Int×Int×List Int×Int×Int×Int×Int×(Int×Int)×List (Bool×Bool×List Int)×Int×(List aR×List (Int×aR)×Int)×Int×(List aR×List (Int×aR)×Int)):List (Nat×XB):=kM i ia p pa q qa x y z u t.1 t.2.1 t.2.2.1 t.2.2.2.1 t.2.2.2.2.1 t.2.2.2.2.2.1 t.2.2.2.2.2.2.1 t.2.2.2.2.2.2.2.1 t.2.2.2.2.2.2.2.2.1 t.2.2.2.2.2.2.2.2.2.1 t.2.2.2.2.2.2.2.2.2.2.1 t.2.2.2.2.2.2.2.2.2.2.2.1 t.2.2.2.2.2.2.2.2.2.2.2.2.1 t.2.2.2.2.2.2.2.2.2.2.2.2.2.1 t.2.2.2.2.2.2.2.2.2.2.2.2.2.2.1 t.2.2.2.2.2.2.2.2.2.2.2.2.2.2.2.1 t.2.2.2.2.2.2.2.2.2.2.2.2.2.2.2.2.1 t.2.2.2.2.2.2.2.2.2.2.2.2.2.2.2.2.2.1 t.2.2.2.2.2.2.2.2.2.2.2.2.2.2.2.2.2.2.1 t.2.2.2.2.2.2.2.2.2.2.2.2.2.2.2.2.2.2.2.1 t.2.2.2.2.2.2.2.2.2.2.2.2.2.2.2.2.2.2.2.2.1 t.2.2.2.2.2.2.2.2.2.2.2.2.2.2.2.2.2.2.2.2.2
instance:fT Tryz.prog:=⟨_,(.c LK (.c vD (.c sI (.c Ow (.c Xu (.c AK (.c Uc (.c Tryz.isAgg253 (.c WL (.c Tryz.isAgg293 (.c G3 (.c uW (.c Uo (.c Tryz.isAgg318 (.c DC (.c Tryz.isAgg330 (.c Tryz.isAgg361 (.c Tryz.isAgg4 (.c DD (.c UH (.c G5 (.c Tryz.isAgg54 (.c Tryz.isAgg57 (.c UI (.c Ox (.c GU (.c Tryz.isAgg78 (.c Fs (.c QD (.c SV (.c Yg (.c RQ (.c UJ (.c Tryz.isAgg97 .n)))))))))))))))))))))))))))))))))),_,(.c Xv (.c lT (.c lL (.c vN (.c Cp (.c jZ (.c zD (.c Tryz.sizeOf253 (.c WM (.c Tryz.sizeOf293 (.c S3 (.c kW (.c yL (.c Tryz.sizeOf318 (.c Pq (.c Tryz.sizeOf330 (.c QE (.c LM (.c S4 (.c Df (.c DF (.c S5 (.c RU (.c Tryz.sizeOf57 (.c UK (.c QF (.c Iz (.c Lp (.c Ja (.c UY (.c zE (.c AL (.c GH (.c Ke (.c QG (.c GW (.c UL (.c LN (.c QH .n))))))))))))))))))))))))))))))))))))))),_,(.c tU (.c LO (.c vE (.c RW (.c Lq (.c wR (.c AM (.c RX (.c Oy (.c xH (.c Tryz.runUnderlying238 (.c Tryz.runUnderlying247 (.c Qd (.c GI (.c Tryz.runUnderlying28 (.c Tryz.runUnderlying296 (.c U3 (.c Kf (.c RZ (.c SA (.c SB (.c Xw (.c Oz (.c Xx (.c PI (.c GJ (.c SC (.c DG (.c U5 (.c Tryz.runUnderlying54 (.c UZ (.c Tryz.runUnderlying59 (.c PJ (.c VU (.c Ft (.c yM (.c GL (.c SX (.c ML (.c GM (.c wD (.c Tryz.runUnderlying88 (.c LP (.c Kg (.c Ud .n))))))))))))))))))))))))))))))))))))))))))))),ET⟩
theorem mixed:Tryz.prog.follows .mixedOrders=true:=Tryz.checked.mixed
theorem Qf:ao 2 Tryz.prog 30 aM:=ao.arr vG S5 G5 (ao.int Tryz.underlying5)
theorem UO:ao 2 Tryz.prog 293 (Wr.arr 4 (Wr.int .u8)):=ao.arr RY S5 G5 (ao.int Tryz.underlying5)
theorem DH:B8 2 Tryz.prog 30 aM:=B8.arr vG S5 G5 (B8.int U5)
theorem Fp:∀parts,Tryz.prog.built 33 parts=Instr.fill (([(0,1),(1,8),(9,1),(10,1),(11,1),(12,1)]:List (Nat×Nat)).toArray[·]?) ([.int .i64 0,.int .u8 0,.int .u8 0,.int .u8 0,.int .u8 0,.int .u8 0,.int .u8 0,.int .u8 0,.int .u8 0,.int .i64 0,.int .i64 0,.int .i64 0,.slice none 0 0]:List aAd).toArray parts:=dE Tryz.typeInfo33 Xw rfl rfl (.cons rfl (by kernel_rfl) (by kernel_rfl) (.cons rfl (by kernel_rfl) (by kernel_rfl) (.cons rfl (by kernel_rfl) (by kernel_rfl) (.cons rfl (by kernel_rfl) (by kernel_rfl) (.cons rfl (by kernel_rfl) (by kernel_rfl) (.cons rfl (by kernel_rfl) (by kernel_rfl) .nil))))))
theorem PK:∀parts,Tryz.prog.built 44 parts=Instr.fill (([(0,1),(1,1),(2,1),(3,8)]:List (Nat×Nat)).toArray[·]?) ([.int .i64 0,.int .i64 0,.int .i64 0,.int .u8 0,.int .u8 0,.int .u8 0,.int .u8 0,.int .u8 0,.int .u8 0,.int .u8 0,.int .u8 0]:List aAd).toArray parts:=dE LL GJ rfl rfl (.cons rfl (by kernel_rfl) (by kernel_rfl) (.cons rfl (by kernel_rfl) (by kernel_rfl) (.cons rfl (by kernel_rfl) (by kernel_rfl) (.cons rfl (by kernel_rfl) (by kernel_rfl) .nil))))
theorem PL:∀parts,Tryz.prog.built 49 parts=Instr.fill (([(0,1),(1,1)]:List (Nat×Nat)).toArray[·]?) ([.slice none 0 0,.slice none 0 0]:List aAd).toArray parts:=dE Tryz.typeInfo49 DG rfl rfl (.cons rfl (by kernel_rfl) (by kernel_rfl) (.cons rfl (by kernel_rfl) (by kernel_rfl) .nil))
theorem DI:∀parts,Tryz.prog.built 59 parts=Instr.fill (([(0,1)]:List (Nat×Nat)).toArray[·]?) ([.slice none 0 0]:List aAd).toArray parts:=dE Tryz.typeInfo59 Tryz.runUnderlying59 rfl rfl (.cons rfl (by kernel_rfl) (by kernel_rfl) .nil)
theorem Mj:∀parts,Tryz.prog.built 76 parts=Instr.fill (([(0,1),(1,1),(2,1),(3,1)]:List (Nat×Nat)).toArray[·]?) ([.pointer none,.int .i64 0,.int .i64 0,.int .i64 0]:List aAd).toArray parts:=dE Tryz.typeInfo76 Ft rfl rfl (.cons rfl (by kernel_rfl) (by kernel_rfl) (.cons rfl (by kernel_rfl) (by kernel_rfl) (.cons rfl (by kernel_rfl) (by kernel_rfl) (.cons rfl (by kernel_rfl) (by kernel_rfl) .nil))))
theorem zF:∀parts,Tryz.prog.built 80 parts=Instr.fill (([(0,1),(1,1),(2,1),(3,1)]:List (Nat×Nat)).toArray[·]?) ([.int .i64 0,.slice none 0 0,.slice none 0 0,.bool false]:List aAd).toArray parts:=dE Tryz.typeInfo80 SX rfl rfl (.cons rfl (by kernel_rfl) (by kernel_rfl) (.cons rfl (by kernel_rfl) (by kernel_rfl) (.cons rfl (by kernel_rfl) (by kernel_rfl) (.cons rfl (by kernel_rfl) (by kernel_rfl) .nil))))
theorem Fq:∀parts,Tryz.prog.built 84 parts=Instr.fill (([(0,1),(1,1),(2,1)]:List (Nat×Nat)).toArray[·]?) ([.int .i64 0,.int .i64 0,.slice none 0 0]:List aAd).toArray parts:=dE Tryz.typeInfo84 GM rfl rfl (.cons rfl (by kernel_rfl) (by kernel_rfl) (.cons rfl (by kernel_rfl) (by kernel_rfl) (.cons rfl (by kernel_rfl) (by kernel_rfl) .nil)))
theorem DJ:∀parts,Tryz.prog.built 86 parts=Instr.fill (([(0,4),(4,1),(5,4),(9,1),(10,1),(11,3),(14,1),(15,1),(16,1)]:List (Nat×Nat)).toArray[·]?) ([.pointer none,.int .i64 0,.int .i64 0,.int .i64 0,.slice none 0 0,.int .i64 0,.slice none 0 0,.slice none 0 0,.bool false,.map none,.int .i64 0,.int .i64 0,.int .i64 0,.slice none 0 0,.int .i64 0,.int .i64 0,.slice none 0 0]:List aAd).toArray parts:=dE Tryz.typeInfo86 wD rfl rfl (.cons rfl (by kernel_rfl) (by kernel_rfl) (.cons rfl (by kernel_rfl) (by kernel_rfl) (.cons rfl (by kernel_rfl) (by kernel_rfl) (.cons rfl (by kernel_rfl) (by kernel_rfl) (.cons rfl (by kernel_rfl) (by kernel_rfl) (.cons rfl (by kernel_rfl) (by kernel_rfl) (.cons rfl (by kernel_rfl) (by kernel_rfl) (.cons rfl (by kernel_rfl) (by kernel_rfl) (.cons rfl (by kernel_rfl) (by kernel_rfl) .nil)))))))))
theorem Mk:∀parts,Tryz.prog.built 88 parts=Instr.fill (([(0,1),(1,1)]:List (Nat×Nat)).toArray[·]?) ([.int .i64 0,.int .i64 0]:List aAd).toArray parts:=dE Tryz.typeInfo88 Tryz.runUnderlying88 rfl rfl (.cons rfl (by kernel_rfl) (by kernel_rfl) (.cons rfl (by kernel_rfl) (by kernel_rfl) .nil))
theorem DK:∀parts,Tryz.prog.built 90 parts=Instr.fill (([(0,4),(4,1),(5,2)]:List (Nat×Nat)).toArray[·]?) ([.pointer none,.int .i64 0,.int .i64 0,.int .i64 0,.int .i64 0,.int .i64 0,.int .i64 0]:List aAd).toArray parts:=dE Tryz.typeInfo90 LP rfl rfl (.cons rfl (by kernel_rfl) (by kernel_rfl) (.cons rfl (by kernel_rfl) (by kernel_rfl) (.cons rfl (by kernel_rfl) (by kernel_rfl) .nil)))
theorem PM:∀parts,Tryz.prog.built 93 parts=Instr.fill (([(0,1),(1,17),(18,7),(25,1)]:List (Nat×Nat)).toArray[·]?) ([.int .i64 0,.pointer none,.int .i64 0,.int .i64 0,.int .i64 0,.slice none 0 0,.int .i64 0,.slice none 0 0,.slice none 0 0,.bool false,.map none,.int .i64 0,.int .i64 0,.int .i64 0,.slice none 0 0,.int .i64 0,.int .i64 0,.slice none 0 0,.pointer none,.int .i64 0,.int .i64 0,.int .i64 0,.int .i64 0,.int .i64 0,.int .i64 0,.slice none 0 0]:List aAd).toArray parts:=dE Tryz.typeInfo93 Ud rfl rfl (.cons rfl (by kernel_rfl) (by kernel_rfl) (.cons rfl (by kernel_rfl) (by kernel_rfl) (.cons rfl (by kernel_rfl) (by kernel_rfl) (.cons rfl (by kernel_rfl) (by kernel_rfl) .nil))))
theorem Xy:∀parts,Tryz.prog.built 135 parts=Instr.fill (([(0,1),(1,1),(2,1)]:List (Nat×Nat)).toArray[·]?) ([.bool false,.bool false,.slice none 0 0]:List aAd).toArray parts:=dE PH LO rfl rfl (.cons rfl (by kernel_rfl) (by kernel_rfl) (.cons rfl (by kernel_rfl) (by kernel_rfl) (.cons rfl (by kernel_rfl) (by kernel_rfl) .nil)))
theorem mJ:∀parts,Tryz.prog.built 144 parts=Instr.fill (([(0,1),(1,1),(2,1)]:List (Nat×Nat)).toArray[·]?) ([.int .i64 0,.slice none 0 0,.slice none 0 0]:List aAd).toArray parts:=dE RR vE rfl rfl (.cons rfl (by kernel_rfl) (by kernel_rfl) (.cons rfl (by kernel_rfl) (by kernel_rfl) (.cons rfl (by kernel_rfl) (by kernel_rfl) .nil)))
theorem rN:∀parts,Tryz.prog.built 186 parts=Instr.fill (([(0,1),(1,1),(2,1)]:List (Nat×Nat)).toArray[·]?) ([.slice none 0 0,.slice none 0 0,.int .i64 0]:List aAd).toArray parts:=dE Tryz.typeInfo186 Lq rfl rfl (.cons rfl (by kernel_rfl) (by kernel_rfl) (.cons rfl (by kernel_rfl) (by kernel_rfl) (.cons rfl (by kernel_rfl) (by kernel_rfl) .nil)))
theorem LR:∀parts,Tryz.prog.built 188 parts=Instr.fill (([(0,1),(1,3)]:List (Nat×Nat)).toArray[·]?) ([.int .i64 0,.slice none 0 0,.slice none 0 0,.int .i64 0]:List aAd).toArray parts:=dE Tryz.typeInfo188 wR rfl rfl (.cons rfl (by kernel_rfl) (by kernel_rfl) (.cons rfl (by kernel_rfl) (by kernel_rfl) .nil))
theorem Ea:∀parts,Tryz.prog.built 197 parts=Instr.fill (([(0,1),(1,1)]:List (Nat×Nat)).toArray[·]?) ([.int .i64 0,.slice none 0 0]:List aAd).toArray parts:=dE RS AM rfl rfl (.cons rfl (by kernel_rfl) (by kernel_rfl) (.cons rfl (by kernel_rfl) (by kernel_rfl) .nil))
theorem Eb:∀parts,Tryz.prog.built 210 parts=Instr.fill (([(0,1),(1,1),(2,1),(3,8)]:List (Nat×Nat)).toArray[·]?) ([.int .i64 0,.int .i64 0,.int .i64 0,.int .u8 0,.int .u8 0,.int .u8 0,.int .u8 0,.int .u8 0,.int .u8 0,.int .u8 0,.int .u8 0]:List aAd).toArray parts:=dE RT RX rfl rfl (.cons rfl (by kernel_rfl) (by kernel_rfl) (.cons rfl (by kernel_rfl) (by kernel_rfl) (.cons rfl (by kernel_rfl) (by kernel_rfl) (.cons rfl (by kernel_rfl) (by kernel_rfl) .nil))))
theorem wJ:∀parts,Tryz.prog.built 214 parts=Instr.fill (([(0,1),(1,8)]:List (Nat×Nat)).toArray[·]?) ([.int .i64 0,.int .u8 0,.int .u8 0,.int .u8 0,.int .u8 0,.int .u8 0,.int .u8 0,.int .u8 0,.int .u8 0]:List aAd).toArray parts:=dE Lo Oy rfl rfl (.cons rfl (by kernel_rfl) (by kernel_rfl) (.cons rfl (by kernel_rfl) (by kernel_rfl) .nil))
theorem LS:∀parts,Tryz.prog.built 296 parts=Instr.fill (([(0,1)]:List (Nat×Nat)).toArray[·]?) ([.slice none 0 0]:List aAd).toArray parts:=dE Tryz.typeInfo296 Tryz.runUnderlying296 rfl rfl (.cons rfl (by kernel_rfl) (by kernel_rfl) .nil)
theorem LU:∀parts,Tryz.prog.built 322 parts=Instr.fill (([]:List (Nat×Nat)).toArray[·]?) ([]:List aAd).toArray parts:=dE Tryz.typeInfo322 Tryz.runUnderlying322 rfl rfl .nil
theorem LW:∀parts,Tryz.prog.built 324 parts=Instr.fill (([(0,1)]:List (Nat×Nat)).toArray[·]?) ([.pointer none]:List aAd).toArray parts:=dE Tryz.typeInfo324 RZ rfl rfl (.cons rfl (by kernel_rfl) (by kernel_rfl) .nil)
theorem LX:∀parts,Tryz.prog.built 326 parts=Instr.fill (([(0,1)]:List (Nat×Nat)).toArray[·]?) ([.slice none 0 0]:List aAd).toArray parts:=dE Tryz.typeInfo326 SA rfl rfl (.cons rfl (by kernel_rfl) (by kernel_rfl) .nil)
theorem LY:∀parts,Tryz.prog.built 327 parts=Instr.fill (([]:List (Nat×Nat)).toArray[·]?) ([]:List aAd).toArray parts:=dE Tryz.typeInfo327 Tryz.runUnderlying327 rfl rfl .nil
theorem LZ:∀parts,Tryz.prog.built 363 parts=Instr.fill (([(0,1),(1,1)]:List (Nat×Nat)).toArray[·]?) ([.slice none 0 0,.map none]:List aAd).toArray parts:=dE Tryz.typeInfo363 PI rfl rfl (.cons rfl (by kernel_rfl) (by kernel_rfl) (.cons rfl (by kernel_rfl) (by kernel_rfl) .nil))
section aLv
open Go.RowKit Go.Extern.Stop Go.Stop Go.Extern
theorem SF(t:aAd)(w:aAa):Calls Tryz.prog 73 #[.nilIface,t] w fun e w'=>e= .returned (.bool false)/\w'=w:=by
 go_enter Tryz.func73,Tryz.ntmps73
 go_wp2
 go_ret
 exact⟨Y,Y⟩
theorem Xz(t:aAk)(w:aAa):(ReflectliteValue.unpack (.iface 183 (.pointer (some t)))).run Tryz.prog w
  = .ok (.agg #[.pointer (some ⟨9,183,none⟩),.pointer (some ⟨w.heap.size,0,none⟩),.int .u64 150]) (w.alloc (.cells #[.pointer (some t)] 183)):=by kernel_rfl
theorem MA(a:aAk)(w:aAa):(ReflectliteValue.methodAny (ReflectliteValue.valueError "reflectlite.Value.Type" 0) (fun t _ _ _=>ReflectliteType.toType t) #[.agg #[.pointer (some ⟨9,183,none⟩),.pointer (some a),.int .u64 150]]).run Tryz.prog w
  = .ok (.iface 281 (.agg #[.pointer (some ⟨9,183,none⟩)])) w:=by kernel_rfl
theorem Qg(h:aAd)(w:aAa):(Go.method 543 281 (.agg #[h]) "Kind").run Tryz.prog w= .ok (290,h) w:=by kernel_rfl
theorem MB(w:aAa):((ReflectliteType.abiMethod fun t=>(fun a:Nat=>Value.int IntKind.u8 (a:Int)) <$> Rtype.kind t) #[.pointer (some ⟨9,183,none⟩)]).run Tryz.prog w= .ok (.int .u8 22) w:=by kernel_rfl
theorem MC(w:aAa):((ReflectliteType.abiMethod fun t=>(fun a:Nat=>Value.int IntKind.u8 (a:Int)) <$> Rtype.kind t) #[.pointer (some ⟨9,28,none⟩)]).run Tryz.prog w= .ok (.int .u8 2) w:=by kernel_rfl
theorem MD(z:Sem aAd)(f:aAb->aAk->Nat->Nat->Sem aAd)(v:aAd):
  ReflectliteValue.method z f #[v]=(do match<-ReflectliteValue.parts v with | none=>z | some (t,a,fl)=>f t a fl (fl % 32)):=rfl
theorem Sc(a:aAk)(w:aAa):(ReflectliteValue.parts (.agg #[.pointer (some ⟨9,183,none⟩),.pointer (some a),.int .u64 150])).run Tryz.prog w= .ok (some (183,a,150)) w:=by kernel_rfl
theorem GP(a p:aAk)(W:aAa)(ha:W.cell? a=some (.pointer (some p))):
  (ReflectliteValue.method (ReflectliteValue.valueError "reflectlite.Value.IsNil" 0) ReflectliteValue.isNil #[.agg #[.pointer (some ⟨9,183,none⟩),.pointer (some a),.int .u64 150]]).run Tryz.prog W= .ok (.bool false) W:=by
 rw[MD];simp only[Sem.run_bind,Sc,Result.andThen];simp[ReflectliteValue.isNil,loadVar,isAgg,underlying,Tryz.underlying183,ha,Result.andThen]
theorem Qh(h:aAd)(w:aAa):(Go.method 543 281 (.agg #[h]) "Elem").run Tryz.prog w= .ok (301,.agg #[h]) w:=by kernel_rfl
theorem Fv(h:aAd)(w:aAa):(Go.method 543 281 (.agg #[h]) "Implements").run Tryz.prog w= .ok (302,.agg #[h]) w:=by kernel_rfl
theorem Cr(h:aAd)(w:aAa):(Go.method 543 281 (.agg #[h]) "AssignableTo").run Tryz.prog w= .ok (299,.agg #[h]) w:=by kernel_rfl
theorem ME(w:aAa):(ReflectliteType.method ReflectliteType.elem #[.agg #[.pointer (some ⟨9,183,none⟩)]]).run Tryz.prog w= .ok (.iface 281 (.agg #[.pointer (some ⟨9,28,none⟩)])) w:=by kernel_rfl
theorem Pb(w:aAa):(ReflectliteType.relation "Implements" ReflectliteType.implements_ #[.agg #[.pointer (some ⟨9,28,none⟩)],.iface 281 (.agg #[.pointer (some ⟨9,35,none⟩)])]).run Tryz.prog w= .ok (.bool true) w:=by kernel_rfl
theorem AN(v:aAd)(w:aAa):(ReflectliteType.typeOf #[.iface 28 v]).run Tryz.prog w= .ok (.iface 281 (.agg #[.pointer (some ⟨9,28,none⟩)])) w:=by kernel_rfl
theorem Pc(w:aAa):(ReflectliteType.relation "AssignableTo" ReflectliteType.assignableTo #[.agg #[.pointer (some ⟨9,28,none⟩)],.iface 281 (.agg #[.pointer (some ⟨9,28,none⟩)])]).run Tryz.prog w= .ok (.bool true) w:=by kernel_rfl
theorem Ya(n:Int)(w:aAa):(ReflectliteValue.unpack (.iface 28 (.int .i64 n))).run Tryz.prog w
  = .ok (.agg #[.pointer (some ⟨9,28,none⟩),.pointer (some ⟨w.heap.size,0,none⟩),.int .u64 130]) (w.alloc (.cells #[.int .i64 n] 28)):=by kernel_rfl
theorem AO(w:aAa):(Rtype.elem? 183).run Tryz.prog w= .ok (some 28) w:=by kernel_rfl
theorem SG(p:aAk)(w:aAa):(ReflectliteValue.mk 28 p ReflectliteValue.flagAddr).run Tryz.prog w= .ok (.agg #[.pointer (some ⟨9,28,none⟩),.pointer (some p),.int .u64 386]) w:=by kernel_rfl
theorem GQ(a p:aAk)(W:aAa)(ha:W.cell? a=some (.pointer (some p))):
  (ReflectliteValue.method (ReflectliteValue.valueError "reflectlite.Value.Elem" 0) ReflectliteValue.elem #[.agg #[.pointer (some ⟨9,183,none⟩),.pointer (some a),.int .u64 150]]).run Tryz.prog W
   = .ok (.agg #[.pointer (some ⟨9,28,none⟩),.pointer (some p),.int .u64 386]) W:=by
 rw[MD];simp only[Sem.run_bind,Sc,Result.andThen];simp[ReflectliteValue.elem,loadVar,isAgg,underlying,Tryz.underlying183,ha,Result.andThen,AO,SG]
theorem SH(v x:aAd):ReflectliteValue.set #[v,x]=(do
  let (some (dst,a,fl),some (src,b,_)):=(<-ReflectliteValue.parts v,<-ReflectliteValue.parts x)
   |unsupported (.noEntry "extern/(internal/reflectlite.Value).Set.zeroValue")
  if fl / ReflectliteValue.flagAddr % 2==0 then unsupported (.noEntry "extern/(internal/reflectlite.Value).Set.unaddressable")
  let val<-loadVar src b
  if<-Rtype.directlyAssignable dst src then storeVar dst a val
  else if<-Rtype.implements dst src then
   if (<-Rtype.kind src)==20 then
    match val with
    | .nilIface=>unsupported (.noEntry "extern/reflectlite: a nil value of one interface type handed on as a value of another")
    |_=>storeVar dst a val
   else storeVar dst a (.iface src val)
  else panicString ("reflectlite.Set: value of type "++(<-Rtype.spelt src)++ " is not assignable to type "++(<-Rtype.spelt dst))
  pure (.tuple #[])):=rfl
theorem AP(a:aAk)(w:aAa):(ReflectliteValue.parts (.agg #[.pointer (some ⟨9,28,none⟩),.pointer (some a),.int .u64 386])).run Tryz.prog w= .ok (some (28,a,386)) w:=by kernel_rfl
theorem GR(a:aAk)(w:aAa):(ReflectliteValue.parts (.agg #[.pointer (some ⟨9,28,none⟩),.pointer (some a),.int .u64 130])).run Tryz.prog w= .ok (some (28,a,130)) w:=by kernel_rfl
theorem AR(w:aAa):(Rtype.directlyAssignable 28 28).run Tryz.prog w= .ok true w:=by kernel_rfl
theorem PN(ta b:aAk)(n:Int)(gr:aAd)(W:aAa)(hb:W.cell? b=some (.int .i64 n))(ht:W.cell? ta=some gr)(hf:W.frozen? ta=false):
  (ReflectliteValue.set #[.agg #[.pointer (some ⟨9,28,none⟩),.pointer (some ta),.int .u64 386],.agg #[.pointer (some ⟨9,28,none⟩),.pointer (some b),.int .u64 130]]).run Tryz.prog W
   = .ok (.tuple #[]) (W.setCell ta (.int .i64 n)):=by
 rw[SH];simp only[Sem.run_bind,AP,GR,Result.andThen];simp[ReflectliteValue.flagAddr,loadVar,isAgg,underlying,Tryz.underlying28,hb,Result.andThen,AR,storeVar,Value.cells,storeCells,Addr.add];rw[run_store Tryz.prog W ta _ _ (by rfl)];simp[ht,hf]
set_option maxHeartbeats 4000000 in
theorem SI(n:Int)(t:aAk)(gr:aAd)(w:aAa)(hg:w.cell? ⟨0,0,none⟩=some (.iface 281 (.agg #[.pointer (some ⟨9,35,none⟩)])))(ht0:w.cell? t=some gr)(hf0:w.frozen? t=false):
  Calls Tryz.prog 73 #[.iface 28 (.int .i64 n),.iface 183 (.pointer (some t))] w fun ev w'=>ev= .returned (.bool true)/\w'=((((w.alloc (.cells #[.pointer (some t)] 183)).alloc (.cells #[.pointer (some ⟨9,183,none⟩),.pointer (some ⟨w.heap.size,0,none⟩),.int .u64 150] 225)).alloc (.cells #[.pointer (some ⟨9,183,none⟩),.pointer (some ⟨w.heap.size,0,none⟩),.int .u64 150] 225)).alloc (.cells #[.int .i64 n] 28)).setCell t (.int .i64 n):=by
 have C:= @run_callFunc_extern Tryz.prog 122 _ (fun A=>ReflectliteValue.unpack (A.getD 0 (.tuple #[]))) Tryz.func122 (by kernel_rfl) (by kernel_rfl) (by kernel_rfl) (by kernel_rfl);have D:= @run_callFunc_extern Tryz.prog 123 _ (ReflectliteValue.methodAny (ReflectliteValue.valueError "reflectlite.Value.Type" 0) (fun t _ _ _=>ReflectliteType.toType t)) Tryz.func123 (by kernel_rfl) (by kernel_rfl) (by kernel_rfl) (by kernel_rfl);have E:= @run_callFunc_extern Tryz.prog 124 _ (ReflectliteValue.method (ReflectliteValue.valueError "reflectlite.Value.IsNil" 0) ReflectliteValue.isNil) Tryz.func124 (by kernel_rfl) (by kernel_rfl) (by kernel_rfl) (by kernel_rfl);have F:= @run_callFunc_extern Tryz.prog 290 _ (ReflectliteType.abiMethod fun t=>do pure (.int .u8 (<-Rtype.kind t))) Tryz.func290 (by kernel_rfl) (by kernel_rfl) (by kernel_rfl) (by kernel_rfl);have G:= @run_callFunc_extern Tryz.prog 301 _ (ReflectliteType.method ReflectliteType.elem) Tryz.func301 (by kernel_rfl) (by kernel_rfl) (by kernel_rfl) (by kernel_rfl);have H:= @run_callFunc_extern Tryz.prog 302 _ (ReflectliteType.relation "Implements" ReflectliteType.implements_) Tryz.func302 (by kernel_rfl) (by kernel_rfl) (by kernel_rfl) (by kernel_rfl);have I:= @run_callFunc_extern Tryz.prog 169 _ ReflectliteType.typeOf Tryz.func169 (by kernel_rfl) (by kernel_rfl) (by kernel_rfl) (by kernel_rfl);have K:= @run_callFunc_extern Tryz.prog 299 _ (ReflectliteType.relation "AssignableTo" ReflectliteType.assignableTo) Tryz.func299 (by kernel_rfl) (by kernel_rfl) (by kernel_rfl) (by kernel_rfl);have L:= @run_callFunc_extern Tryz.prog 170 _ (ReflectliteValue.method (ReflectliteValue.valueError "reflectlite.Value.Elem" 0) ReflectliteValue.elem) Tryz.func170 (by kernel_rfl) (by kernel_rfl) (by kernel_rfl) (by kernel_rfl);have M:= @run_callFunc_extern Tryz.prog 171 _ ReflectliteValue.set Tryz.func171 (by kernel_rfl) (by kernel_rfl) (by kernel_rfl) (by kernel_rfl);have N:=AN;have O:=Cr;have P:=Pc;have Q:=Ya;have R:=Xz;have S:=MA;have T:=Qg;have U:=Qh;have V:=Fv;have X:=MB;have aa:=MC;have ab:=ME;have ac:=Pb;have n8:=GP ⟨w.heap.size,0,none⟩ t ((w.alloc (.cells #[.pointer (some t)] 183)).alloc (.cells #[.pointer (some ⟨9,183,none⟩),.pointer (some ⟨w.heap.size,0,none⟩),.int .u64 150] 225)) (by simp);have z:0<w.heap.size:=by
  rcases aEk w.heap.size with B | h
  ·simp[World.cell?,B] at hg
  ·exact h
 have ad:((w.alloc (.cells #[.pointer (some t)] 183)).alloc (.cells #[.pointer (some ⟨9,183,none⟩),.pointer (some ⟨w.heap.size,0,none⟩),.int .u64 150] 225)).cell? ⟨0,0,none⟩=some (.iface 281 (.agg #[.pointer (some ⟨9,35,none⟩)])):=by
  rw[World.cell?_alloc_lt _ _ ⟨0,0,none⟩ (by simp),World.cell?_alloc_lt _ _ ⟨0,0,none⟩ z];exact hg
 have u:t.block<w.heap.size:=by
  rcases R8 t.block w.heap.size with h | h
  ·exact h
  ·simp[World.cell?,aBv h] at ht0
 have el:=GQ ⟨w.heap.size,0,none⟩ t (((w.alloc (.cells #[.pointer (some t)] 183)).alloc (.cells #[.pointer (some ⟨9,183,none⟩),.pointer (some ⟨w.heap.size,0,none⟩),.int .u64 150] 225)).alloc (.cells #[.pointer (some ⟨9,183,none⟩),.pointer (some ⟨w.heap.size,0,none⟩),.int .u64 150] 225)) (by rw[World.cell?_alloc_lt _ _ ⟨w.heap.size,0,none⟩ (by simp;omega)];simp);have st:=PN t ⟨w.heap.size+1+1+1,0,none⟩ n gr ((((w.alloc (.cells #[.pointer (some t)] 183)).alloc (.cells #[.pointer (some ⟨9,183,none⟩),.pointer (some ⟨w.heap.size,0,none⟩),.int .u64 150] 225)).alloc (.cells #[.pointer (some ⟨9,183,none⟩),.pointer (some ⟨w.heap.size,0,none⟩),.int .u64 150] 225)).alloc (.cells #[.int .i64 n] 28))
  (by rw[World.cell?_alloc_at _ _ _ _ (by simp)];rfl)
  (by rw[World.cell?_alloc_lt _ _ t (by simp;omega),World.cell?_alloc_lt _ _ t (by simp;omega),World.cell?_alloc_lt _ _ t (by simp;omega),World.cell?_alloc_lt _ _ t u];exact ht0)
  (by rw[World.frozen?_alloc_old _ _ t (by simp;omega),World.frozen?_alloc_old _ _ t (by simp;omega),World.frozen?_alloc_old _ _ t (by simp;omega),World.frozen?_alloc_old _ _ t (Nat.ne_of_lt u)];exact hf0)
 go_enter Tryz.func73,Tryz.ntmps73
 go_wp2
 refine wp_loop_rounds 1 ?_;rw[rounds_succ]
 go_wp2
 go_ret
 exact⟨Y,Y⟩
end aLv
def GV:aAd:= .iface 281 (.agg #[.pointer (some ⟨9,35,none⟩)])
variable {gobj:Obj}
theorem PO(n:Int)(t:aAk)(gr:aAd)(w:aAa)(hg:w.cell? ⟨0,0,none⟩=some GV)(ht0:w.cell? t=some gr)(hf0:w.frozen? t=false):
  Calls Tryz.prog 73 #[.iface 28 (.int .i64 n),.iface 183 (.pointer (some t))] w fun ev w'=>ev= .returned (.bool true)/\∃o1 o2 o3 o4,w'=((((w.alloc o1).alloc o2).alloc o3).alloc o4).setCell t (.int .i64 n):=
 (SI n t gr w hg ht0 hf0).mono fun _ _ h=>⟨h.1,_,_,_,_,h.2⟩
theorem xI{A u r}(h:lX A u=some r):
 XL Tryz.prog 10 [.v Q0 A,.v Q0 u] (.v Q0 r) []:=by
 refine XL.of Tryz.func10 Y Tryz.ntmps10 Y ?_;intro S w C;unfold lX at h;refine aL [0,1] ?_;refine cU [0,1,6] ?_;obtain⟨D,E,h⟩:=fE h;refine sY (fun B:Int=>⟨[(0,.v Q0 B),(1,.v Q0 u)],[]⟩) (fun x=>D x=some r) Y ?_ ?_ ?_
 ·intro B h;rw[E] at h;obtain⟨G,F,h⟩:=aA h;refine aJ (.a 2 ?_);refine .k (kT (.inr Y) (Er F) Y Y) (.f [4] ?_);cases h;exact aH (aW C dU Y (RV.tmp Y) .nil Y)
 ·intro z;replace h:=iJ z h;refine eU (.a 2 ?_);refine .k (Yi Y) (.f [0,1] ?_);exact bY h (aC [])
 ·intro z;replace h:=iK z h;refine aE ?_;exact bY h (aC [])
theorem Ec{u z r}(h:uA u z=some r):
 XL Tryz.prog 25 [.v mO u,.v Q0 z] (.v Q0 r) []:=by
 refine XL.of Tryz.func25 Y Tryz.ntmps25 Y ?_;intro S w A;unfold uA at h;refine aL [0,1] ?_;refine cU [0,1,7] ?_;refine aU h Y (fun B h=>?_) (fun B h=>?_)
 ·refine aL [4] ?_;cases h;exact aH (aW A dU Y (RV.tmp Y) .nil Y)
 refine aE ?_;refine aF ?_;obtain⟨G,C,h⟩:=aA h;obtain⟨H,D,h⟩:=aA h;obtain⟨I,E,h⟩:=aA h;obtain⟨K,F,h⟩:=aA h;refine eD 15 mixed (by exact(.k (aD Y) (.k (aD Y) (.k (aD Y) (.k (tQ Y xH) (.k (kT (.inr Y) (Er C) Y Y) (.k (pO D Y Y xH S3) (.k (cG Y G3 S3) (.k (aN (xI E) UU (.cons (.dir Y) (.cons (.dir Y) .nil))) (.k (aD Y) (.k (aD Y) (.k (tQ Y xH) (.k (kT (.inl Y) (Er F) Y Y) (.k (cZ Y Y Y) (.k (cZ Y Y Y) (.k (bN Y) .nil)))))))))))))))) (by exact(J.kp [4] [])) ?_;cases h;exact aH (aW A dU Y (RV.tmp Y) .nil Y)
theorem zG{u z r}(h:kU u z=some r):
 XL Tryz.prog 26 [.v mO u,.v Q0 z] (.v aM r) []:=by
 refine XL.of Tryz.func26 Y Tryz.ntmps26 Y ?_;intro S w D;unfold kU at h;refine aJ (.k (aO 101 Cb Y (.cons (Z.arr 8 (Z.int .u8)) .nil) Y) (.f [0,1,4] ?_));refine aJ (.k (cV (e:=aM) (v:=aQ) An vG I5 Y Y (Z.arr 8 (Z.int .u8))) (.k (aO 102 Cb Y (.cons (Z.arr 8 (Z.int .u8)) .nil) Y) (.f [0,1,4,5] ?_)));obtain⟨T,L,h⟩:=aA h;refine aJ (.a 2 ?_);refine .k (aN (Ec L) Tryz.call25 (.cons (.dir Y) (.cons (.dir Y) .nil))) (.f [0,1,4,5,6] ?_);refine jQ (.a 1 ?_);refine .k (kT (.inr Y) (by decide) Y Y) (.f [0,1,4,5,6,14] ?_);refine aU h Y (fun I h=>?_) (fun I h=>?_)
 ·refine aL [4] ?_;refine aH ?_;obtain rfl:=pT h;exact cB (O':=⟨[(4,.ptr 90 0)],[(90,.box 30 [.v aM aQ])]⟩) (aC [(90,101)]) (aW D dU Y (cO Y Y Y uW kW) .nil Y)
 refine aE ?_;obtain⟨U,F,h⟩:=aA h;refine aJ (.a 1 ?_);refine .k (kT (.inl Y) (by decide) Y Y) (.k (kT (.inr Y) (by decide) Y Y) ?_);refine .a 2 ?_;refine .k (rR F Y Y Y Y vG S5) (.t (Dn (dL F).2.2 Y Y Y Y S5) (.f [0,1,4,5,6] ?_));refine jQ (.a 1 ?_);refine .k (kT (.inr Y) (by decide) Y Y) (.f [0,1,4,5,24] ?_);obtain⟨M,N,h⟩:=fE h;refine sY (fun A:aR=>⟨[(4,.ptr 101 0),(5,.ptr 102 0)],[(101,.box 30 [.v aM aQ]),(102,.box 30 [.v aM A])]⟩) (fun x=>M x=some r) Y ?_ ?_ ?_
 ·intro A h;rw[N] at h;refine aL [4] ?_;refine aH ?_;obtain rfl:=pT h;exact cB (O':=⟨[(4,.ptr 90 0)],[(90,.box 30 [.v aM A])]⟩) (aC [(90,101)]) (aW D dU Y (cO Y Y Y uW kW) .nil Y)
 ·intro B;replace h:=iJ B h;refine aL [0,1,4,5,7] ?_;obtain⟨V,O,P,X⟩:=cF h;refine jD (σs:=fun C:Int×aR=>⟨[(0,.v mO u),(1,.v Q0 z),(4,.ptr 101 0),(5,.ptr 102 0),(7,.v Q0 C.1)],[(101,.box 30 [.v aM aQ]),(102,.box 30 [.v aM C.2])]⟩) (fun E:aR=>⟨[(4,.ptr 101 0),(5,.ptr 102 0)],[(101,.box 30 [.v aM aQ]),(102,.box 30 [.v aM E])]⟩) O (aC []) ?_ ?_
  ·intro E H;have h:=P _ H;exact bY h (aC [])
  intro C R h;refine cU [0,1,4,5,7,26] ?_;refine aU h Y (fun K h=>?_) (fun K h=>?_)
  ·refine aE ?_;refine aF ?_;refine bR ?_;obtain⟨aa,Q,h⟩:=aA h;obtain⟨ab,G,h⟩:=aA h;refine eU (.a 5 ?_);refine .k (aN (Ec Q) Tryz.call25 (.cons (.dir Y) (.cons (.dir Y) .nil))) (.k (kT (.inl Y) (by decide) Y Y) ?_);refine .a 1 ?_;refine .k (rR G Y Y Y Y vG S5) (.t (Dn (dL G).2.2 Y Y Y Y S5) (.f [0,1,4,5,7] ?_));refine aZ ?_;refine dT [0,1,4,5,7] ?_;cases h;exact cE (aC [])
  cases h;exact cY (dK (aC []))
 ·intro B;replace h:=iK B h;refine aE ?_;exact bY h (aC [])
theorem He{B C D z r}(h:lP B C D z=some r):
 XL Tryz.prog 12 [.v mO B,.v Q0 C,.v Q0 D,.v Q0 z] (.v (Wr.sl Q4) r) []:=by
 refine XL.of Tryz.func12 Y Tryz.ntmps12 Y ?_;intro S w P;unfold lP at h;refine aJ (.k (aS 101 44 Q4) (.f [0,1,2,3] ?_));refine aJ (.k (aS 102 44 Q4) (.f [0,1,2,3,9] ?_));refine cU [0,1,2,3,9,10] ?_;obtain⟨bl,ap,au,bm⟩:=cF h;refine jD (σs:=fun A:Int×(List (Int×Int×Int×aR))=>⟨[(0,.v mO B),(1,.v Q0 C),(2,.v Q0 D),(3,.v Q0 z),(9,.ref 134),(10,.v Q0 A.1)],[(134,.arr 44 Q4 A.2)]⟩) (fun K:(List (Int×Int×Int×aR))=>⟨[(9,.ref 134)],[(134,.arr 44 Q4 K)]⟩) ap (aC [(134,102)]) ?_ ?_
 ·intro K Q;have h:=au _ Q;refine aL [8] ?_;cases h;exact aH (wF P dU Y (aC []))
 intro A E h;refine cU [0,1,2,3,9,10,15] ?_;refine aU h Y (fun R h=>?_) (fun R h=>?_)
 ·refine aE ?_;refine aF ?_;refine bR ?_;obtain⟨u,av,h⟩:=aA h;refine aJ (.a 4 ?_);refine .k (aN (Ec av) Tryz.call25 (.cons (.dir Y) (.cons (.dir Y) .nil))) (.f [0,1,2,3,9,10,11] ?_);obtain⟨bn,ay,h⟩:=aA h;refine aJ (.a 1 ?_);refine .k (kT (.inl Y) (by decide) Y Y) ?_;refine .a 1 ?_;refine .k (kT (.inr Y) (Er ay) Y Y) ?_;refine .a 1 ?_;refine .k (kT (.inl Y) (by decide) Y Y) (.k (kT (.inr Y) (by decide) Y Y) (.k (bQ PK (.cons zI (.cons zI (.cons zI (.cons (Z.arr 8 (Z.int .u8)) .nil)))) (.cons Y (.dir Y) Y Y Y Y (.cons Y (.dir Y) Y Y Y Y .nil))) (.k (aO 150 GO Y (.cons zI (.cons zI (.cons zI (.cons (Z.arr 8 (Z.int .u8)) .nil)))) Y) (.f [0,1,2,3,9,10,11,12] ?_))));refine jQ (.a 1 ?_);refine .k (kT (.inr Y) (by decide) Y Y) (.f [0,1,2,3,9,10,11,12,32] ?_);refine bR ?_;refine cU [0,1,2,3,9,10,11,12,32,38] ?_;obtain⟨ma,a4,h⟩:=fE h;refine sY (fun L:Bool=>⟨[(0,.v mO B),(1,.v Q0 C),(2,.v Q0 D),(3,.v Q0 z),(9,.ref 134),(10,.v Q0 A.1),(11,.v Q0 u),(12,.ptr 150 0),(32,.v Q0 (ar .rem .i64 u (20:Int))),(38,.v Wr.bool L)],[(134,.arr 44 Q4 A.2),(150,.box 44 [.v Q0 (0:Int),.v Q0 (ar .rem .i64 (ar .quo .i64 u (40:Int)) z),.v Q0 (ar .rem .i64 (ar .quo .i64 u (7:Int)) (90:Int)),.v aM aQ])]⟩) (fun x=>ma x=some E) Y ?_ ?_ ?_
  ·intro L h;rw[a4] at h;refine aU h Y (fun T h=>?_) (fun T h=>?_)
   ·refine aL [0,1,2,3,9,10,12] ?_;obtain⟨bo,a5,h⟩:=aA h;refine eU (.a 5 ?_);refine .k (aN (zG a5) Tryz.call26 (.cons (.dir Y) (.cons (.dir Y) .nil))) (.f [0,1,2,3,9,10,12] ?_);refine aZ ?_;obtain⟨bp,a6,h⟩:=aA h;refine eU (.a 1 ?_);refine .k (aT Y Y s4 DD Df) (.k (dN (e:=Q4) Qd Df GO Y Y Y Y (.cons (.dir Y) .nil)) (.t (bU 152 a6 Y Y (.sl Y) Qd LL Df Y Y Y Y Y) (.f [0,1,2,3,9,10] ?_)));refine aZ ?_;refine dT [0,1,2,3,9,10] ?_;cases h;exact cE (aC [(134,152)])
   refine aL [0,1,2,3,9,10,11,12,32,52] ?_;refine aU h Y (fun U h=>?_) (fun U h=>?_)
   ·refine dT [0,1,2,3,9,10,12] ?_;refine aZ ?_;obtain⟨bq,a7,h⟩:=aA h;refine eU (.a 1 ?_);refine .k (aT Y Y s4 DD Df) (.k (dN (e:=Q4) Qd Df GO Y Y Y Y (.cons (.dir Y) .nil)) (.t (bU 153 a7 Y Y (.sl Y) Qd LL Df Y Y Y Y Y) (.f [0,1,2,3,9,10] ?_)));refine aZ ?_;refine dT [0,1,2,3,9,10] ?_;cases h;exact cE (aC [(134,153)])
   refine aL [0,1,2,3,9,10,11,12,32,55] ?_;refine aU h Y (fun V h=>?_) (fun V h=>?_)
   ·refine dT [0,1,2,3,9,10,12] ?_;refine aZ ?_;obtain⟨br,a8,h⟩:=aA h;refine eU (.a 1 ?_);refine .k (aT Y Y s4 DD Df) (.k (dN (e:=Q4) Qd Df GO Y Y Y Y (.cons (.dir Y) .nil)) (.t (bU 154 a8 Y Y (.sl Y) Qd LL Df Y Y Y Y Y) (.f [0,1,2,3,9,10] ?_)));refine aZ ?_;refine dT [0,1,2,3,9,10] ?_;cases h;exact cE (aC [(134,154)])
   refine cU [0,1,2,3,9,10,11,12,32,58] ?_;obtain⟨uw,a9,h⟩:=fE h;refine sY (fun M:Bool=>⟨[(0,.v mO B),(1,.v Q0 C),(2,.v Q0 D),(3,.v Q0 z),(9,.ref 134),(10,.v Q0 A.1),(11,.v Q0 u),(12,.ptr 150 0),(32,.v Q0 (ar .rem .i64 u (20:Int))),(58,.v Wr.bool M)],[(134,.arr 44 Q4 A.2),(150,.box 44 [.v Q0 (0:Int),.v Q0 (ar .rem .i64 (ar .quo .i64 u (40:Int)) z),.v Q0 (ar .rem .i64 (ar .quo .i64 u (7:Int)) (90:Int)),.v aM aQ])]⟩) (fun x=>uw x=some E) Y ?_ ?_ ?_
   ·intro M h;rw[a9] at h;refine aU h Y (fun X h=>?_) (fun X h=>?_)
    ·refine dT [0,1,2,3,9,10,12] ?_;refine aZ ?_;obtain⟨bs,ba,h⟩:=aA h;refine eU (.a 1 ?_);refine .k (aT Y Y s4 DD Df) (.k (dN (e:=Q4) Qd Df GO Y Y Y Y (.cons (.dir Y) .nil)) (.t (bU 155 ba Y Y (.sl Y) Qd LL Df Y Y Y Y Y) (.f [0,1,2,3,9,10] ?_)));refine aZ ?_;refine dT [0,1,2,3,9,10] ?_;cases h;exact cE (aC [(134,155)])
    refine cU [0,1,2,3,9,10,11,12,32,63] ?_;obtain⟨uv,bb,h⟩:=fE h;refine sY (fun N:Bool=>⟨[(0,.v mO B),(1,.v Q0 C),(2,.v Q0 D),(3,.v Q0 z),(9,.ref 134),(10,.v Q0 A.1),(11,.v Q0 u),(12,.ptr 150 0),(32,.v Q0 (ar .rem .i64 u (20:Int))),(63,.v Wr.bool N)],[(134,.arr 44 Q4 A.2),(150,.box 44 [.v Q0 (0:Int),.v Q0 (ar .rem .i64 (ar .quo .i64 u (40:Int)) z),.v Q0 (ar .rem .i64 (ar .quo .i64 u (7:Int)) (90:Int)),.v aM aQ])]⟩) (fun x=>uv x=some E) Y ?_ ?_ ?_
    ·intro N h;rw[bb] at h;refine aU h Y (fun aa h=>?_) (fun aa h=>?_)
     ·refine dT [0,1,2,3,9,10,12] ?_;refine aZ ?_;obtain⟨bt,bc,h⟩:=aA h;refine eU (.a 1 ?_);refine .k (aT Y Y s4 DD Df) (.k (dN (e:=Q4) Qd Df GO Y Y Y Y (.cons (.dir Y) .nil)) (.t (bU 156 bc Y Y (.sl Y) Qd LL Df Y Y Y Y Y) (.f [0,1,2,3,9,10] ?_)));refine aZ ?_;refine dT [0,1,2,3,9,10] ?_;cases h;exact cE (aC [(134,156)])
     refine cU [0,1,2,3,9,10,11,12,32,68] ?_;obtain⟨uu,be,h⟩:=fE h;refine sY (fun O:Bool=>⟨[(0,.v mO B),(1,.v Q0 C),(2,.v Q0 D),(3,.v Q0 z),(9,.ref 134),(10,.v Q0 A.1),(11,.v Q0 u),(12,.ptr 150 0),(32,.v Q0 (ar .rem .i64 u (20:Int))),(68,.v Wr.bool O)],[(134,.arr 44 Q4 A.2),(150,.box 44 [.v Q0 (0:Int),.v Q0 (ar .rem .i64 (ar .quo .i64 u (40:Int)) z),.v Q0 (ar .rem .i64 (ar .quo .i64 u (7:Int)) (90:Int)),.v aM aQ])]⟩) (fun x=>uu x=some E) Y ?_ ?_ ?_
     ·intro O h;rw[be] at h;refine aU h Y (fun ab h=>?_) (fun ab h=>?_)
      ·refine aL [0,1,2,3,9,10,11,12] ?_;refine eU (.a 1 ?_);refine .k (kT (.inl Y) (by decide) Y Y) (.k (kT (.inr Y) (by decide) Y Y) (.f [0,1,2,3,9,10,12] ?_));refine aZ ?_;obtain⟨bu,bf,h⟩:=aA h;refine eU (.a 1 ?_);refine .k (aT Y Y s4 DD Df) (.k (dN (e:=Q4) Qd Df GO Y Y Y Y (.cons (.dir Y) .nil)) (.t (bU 157 bf Y Y (.sl Y) Qd LL Df Y Y Y Y Y) (.f [0,1,2,3,9,10] ?_)));refine aZ ?_;refine dT [0,1,2,3,9,10] ?_;cases h;exact cE (aC [(134,157)])
      refine aL [0,1,2,3,9,10,11,12,32,77] ?_;refine aU h Y (fun ac h=>?_) (fun ac h=>?_)
      ·refine aL [0,1,2,3,9,10,11,12] ?_;refine eU (.a 1 ?_);refine .k (kT (.inl Y) (by decide) Y Y) (.k (kT (.inr Y) (by decide) Y Y) (.f [0,1,2,3,9,10,12] ?_));refine aZ ?_;obtain⟨bv,bg,h⟩:=aA h;refine eU (.a 1 ?_);refine .k (aT Y Y s4 DD Df) (.k (dN (e:=Q4) Qd Df GO Y Y Y Y (.cons (.dir Y) .nil)) (.t (bU 158 bg Y Y (.sl Y) Qd LL Df Y Y Y Y Y) (.f [0,1,2,3,9,10] ?_)));refine aZ ?_;refine dT [0,1,2,3,9,10] ?_;cases h;exact cE (aC [(134,158)])
      refine aL [0,1,2,3,9,10,11,12,32,84] ?_;refine aU h Y (fun ad h=>?_) (fun ad h=>?_)
      ·refine aL [0,1,2,3,9,10,11,12] ?_;refine eU (.a 1 ?_);refine .k (kT (.inl Y) (by decide) Y Y) (.k (kT (.inr Y) (by decide) Y Y) (.f [0,1,2,3,9,10,12] ?_));refine aZ ?_;obtain⟨bw,bh,h⟩:=aA h;refine eU (.a 1 ?_);refine .k (aT Y Y s4 DD Df) (.k (dN (e:=Q4) Qd Df GO Y Y Y Y (.cons (.dir Y) .nil)) (.t (bU 159 bh Y Y (.sl Y) Qd LL Df Y Y Y Y Y) (.f [0,1,2,3,9,10] ?_)));refine aZ ?_;refine dT [0,1,2,3,9,10] ?_;cases h;exact cE (aC [(134,159)])
      refine aL [0,1,2,3,9,10,11,12,91] ?_;refine aU h Y (fun ae h=>?_) (fun ae h=>?_)
      ·refine aL [0,1,2,3,9,10,11,12] ?_;refine aJ (.a 1 ?_);refine .k (kT (.inl Y) (by decide) Y Y) (.k (kT (.inr Y) (by decide) Y Y) (.f [0,1,2,3,9,10,12] ?_));obtain⟨bx,bi,h⟩:=aA h;refine eU (.a 5 ?_);refine .k (aN (zG bi) Tryz.call26 (.cons (.dir Y) (.cons (.dir Y) .nil))) (.f [0,1,2,3,9,10,12] ?_);refine aZ ?_;obtain⟨bz,bj,h⟩:=aA h;refine eU (.a 1 ?_);refine .k (aT Y Y s4 DD Df) (.k (dN (e:=Q4) Qd Df GO Y Y Y Y (.cons (.dir Y) .nil)) (.t (bU 161 bj Y Y (.sl Y) Qd LL Df Y Y Y Y Y) (.f [0,1,2,3,9,10] ?_)));refine aZ ?_;refine dT [0,1,2,3,9,10] ?_;cases h;exact cE (aC [(134,161)])
      refine eU (.a 1 ?_);refine .k (kT (.inl Y) (by decide) Y Y) (.k (kT (.inr Y) (by decide) Y Y) (.f [0,1,2,3,9,10,12] ?_));refine aZ ?_;obtain⟨bA,bk,h⟩:=aA h;refine eU (.a 1 ?_);refine .k (aT Y Y s4 DD Df) (.k (dN (e:=Q4) Qd Df GO Y Y Y Y (.cons (.dir Y) .nil)) (.t (bU 162 bk Y Y (.sl Y) Qd LL Df Y Y Y Y Y) (.f [0,1,2,3,9,10] ?_)));refine aZ ?_;refine dT [0,1,2,3,9,10] ?_;cases h;exact cE (aC [(134,162)])
     ·intro F;replace h:=iJ F h;refine aE ?_;exact bY h (aC [])
     ·intro F;replace h:=iK F h;refine aL [0,1,2,3,9,10,11,12,32,68] ?_;refine aU h Y (fun af h=>?_) (fun af h=>?_)
      ·refine aE ?_;exact bY h (aC [])
      refine dT [0,1,2,3,9,10,11,12,32,68] ?_;exact bY h (aC [])
    ·intro G;replace h:=iJ G h;refine aE ?_;exact bY h (aC [])
    ·intro G;replace h:=iK G h;refine aL [0,1,2,3,9,10,11,12,32,63] ?_;refine aU h Y (fun ah h=>?_) (fun ah h=>?_)
     ·refine aE ?_;exact bY h (aC [])
     refine dT [0,1,2,3,9,10,11,12,32,63] ?_;exact bY h (aC [])
   ·intro H;replace h:=iJ H h;refine aE ?_;exact bY h (aC [])
   ·intro H;replace h:=iK H h;refine aL [0,1,2,3,9,10,11,12,32,58] ?_;refine aU h Y (fun ai h=>?_) (fun ai h=>?_)
    ·refine aE ?_;exact bY h (aC [])
    refine dT [0,1,2,3,9,10,11,12,32,58] ?_;exact bY h (aC [])
  ·intro I;replace h:=iJ I h;refine aE ?_;exact bY h (aC [])
  ·intro I;replace h:=iK I h;refine aL [0,1,2,3,9,10,11,12,32,38] ?_;refine aU h Y (fun aj h=>?_) (fun aj h=>?_)
   ·refine aE ?_;exact bY h (aC [])
   refine aL [0,1,2,3,9,10,11,12,32,38] ?_;refine aU h Y (fun am h=>?_) (fun am h=>?_)
   ·refine aE ?_;exact bY h (aC [])
   refine aL [0,1,2,3,9,10,11,12,32,38] ?_;refine aU h Y (fun an h=>?_) (fun an h=>?_)
   ·refine aE ?_;exact bY h (aC [])
   refine dT [0,1,2,3,9,10,11,12,32,38] ?_;exact bY h (aC [])
 cases h;exact cY (dK (aC []))
theorem Ed{z r}(h:rX z=some r):
 XL Tryz.prog 158 [.v Q0 z] (.XU [.v Q0 r.1,.v Q9 r.2]) []:=by
 refine XL.of Tryz.func158 Y Tryz.ntmps158 Y ?_;intro S w A;unfold rX at h;refine aL [0] ?_;refine aF ?_;refine aF ?_;obtain⟨D,u,h⟩:=aA h;refine eH (O':=⟨[(0,.v Q0 z),(9,.v Wr.bool D)],[]⟩) ?_ ?_
 ·refine cd u (fun B u=>?_) (fun B u=>?_)
  ·cases u;exact jy
  cases u;exact jy
 refine aU h Y (fun C h=>?_) (fun C h=>?_)
 ·refine aL [2,3] ?_;cases h;exact aH (bS A dU Y (RV.tmp Y) (RV.tmp Y) .nil Y)
 refine aE ?_;refine aL [2,3] ?_;cases h;exact aH (bS A dU Y (RV.tmp Y) (RV.tmp Y) .nil Y)
theorem Ug{z r}(h:xY z=some r):
 XL Tryz.prog 159 [.v Q0 z] (.XU [.v Q2 r.1,.v Q9 r.2]) []:=by
 refine XL.of Tryz.func159 Y Tryz.ntmps159 Y ?_;intro S w A;unfold xY at h;refine aJ (.k (aO 101 Ue Y (.cons (Z.sl aM) (.cons (Z.sl gK) (.cons zI .nil))) Y) (.f [0,2] ?_));refine aF ?_;refine aF ?_;obtain⟨D,u,h⟩:=aA h;refine eH (O':=⟨[(0,.v Q0 z),(2,.ptr 101 0),(9,.v Wr.bool D)],[(101,.box 186 [.v Q5 ([]:iR),.v Q1 ([]:Q6),.v Q0 (0:Int)])]⟩) ?_ ?_
 ·refine cd u (fun B u=>?_) (fun B u=>?_)
  ·cases u;exact jy
  cases u;exact jy
 refine aU h Y (fun C h=>?_) (fun C h=>?_)
 ·refine aJ (.k (bQ rN (.cons (Z.sl aM) (.cons (Z.sl gK) (.cons zI .nil))) .nil) (.f [2,3] ?_));refine aH ?_;obtain rfl:=pT h;exact cB (O':=⟨[(2,.ptr 90 0),(3,.v Q9 (some (1:Int)))],[(90,.box 186 [.v Q5 ([]:iR),.v Q1 ([]:Q6),.v Q0 (0:Int)])]⟩) (aC [(90,101)]) (bS A dU Y (aV Y Y s3 sI lL) (RV.tmp Y) .nil Y)
 refine aE ?_;obtain⟨E,F,h⟩:=aA h;refine aJ (.a 1 ?_);refine .k (Yk 102 F Y Y Kf An kW Y Y (Z.arr 8 (Z.int .u8))) (.k (bQ rN (.cons (Z.sl aM) (.cons (Z.sl gK) (.cons zI .nil))) (.cons Y (.dir Y) Y Y Y Y (.cons Y (.dir Y) Y Y Y Y .nil))) (.f [2,3] ?_));refine aH ?_;obtain rfl:=pT h;exact cB (O':=⟨[(2,.ptr 90 0),(3,.v Q9 (none:Option Int))],[(90,.box 186 [.v Q5 E,.v Q1 ([]:Q6),.v Q0 (-1:Int)])]⟩) (aC [(90,101)]) (bS A dU Y (aV Y Y s3 sI lL) (RV.tmp Y) .nil Y)
theorem Kh{z r}(h:rF z=some r):
 XL Tryz.prog 100 [.v Q0 z] (.XU [.v Q2 r.1,.v Q9 r.2]) []:=by
 refine XL.of Tryz.func100 Y Tryz.ntmps100 Y ?_;intro S w A;unfold rF at h;refine aJ (.k (aO 101 Ue Y (.cons (Z.sl aM) (.cons (Z.sl gK) (.cons zI .nil))) Y) (.f [0,2] ?_));obtain⟨C,D,h⟩:=aA h;refine aJ (.a 1 ?_);refine .k (aN (Ed D) Tryz.call158 (.cons (.dir Y) .nil)) (.f [2,4,5] ?_);refine cU [2,4,5,12] ?_;refine aU h Y (fun B h=>?_) (fun B h=>?_)
 ·refine aJ (.k (bQ rN (.cons (Z.sl aM) (.cons (Z.sl gK) (.cons zI .nil))) .nil) (.f [2,3] ?_));refine aH ?_;obtain rfl:=pT h;exact cB (O':=⟨[(2,.ptr 90 0),(3,.v Q9 C.2)],[(90,.box 186 [.v Q5 ([]:iR),.v Q1 ([]:Q6),.v Q0 (0:Int)])]⟩) (aC [(90,101)]) (bS A dU Y (aV Y Y s3 sI lL) (RV.tmp Y) .nil Y)
 refine aE ?_;obtain⟨u,E,h⟩:=aA h;refine aJ (.a 1 ?_);refine .k (aN (Ug E) Tryz.call159 (.cons (.dir Y) .nil)) ?_;refine .a 2 ?_;refine .t (bT Y Y Y Y s3 lL) (.f [2,3] ?_);refine aH ?_;obtain rfl:=pT h;exact cB (O':=⟨[(2,.ptr 90 0),(3,.v Q9 u.2)],[(90,.box 186 [.v Q5 u.1.1,.v Q1 u.1.2.1,.v Q0 u.1.2.2])]⟩) (aC [(90,101)]) (bS A dU Y (aV Y Y s3 sI lL) (RV.tmp Y) .nil Y)
theorem Ki{z A r}(h:lY z A=some r):
 XL Tryz.prog 204 [.v gK z,.ZH Q2 A] (.v Wr.bool r) []:=by
 refine XL.of Tryz.func204 Y Tryz.ntmps204 Y ?_;intro S w C;unfold lY at h;refine aJ (.k (cL 101 Y s2 Y) (.f [1,2] ?_));refine aF ?_;obtain⟨D,u,h⟩:=aA h;refine eH (O':=⟨[(3,.v Wr.bool D)],[]⟩) ?_ ?_
 ·refine cd u (fun B u=>?_) (fun B u=>?_)
  ·cases u;exact jy
  cases u;refine ja 6 ?_;exact(J.g B (fC Y Lq Y yL Y (.fst .here) Y) jy)
 cases h;exact aH (aW C dU Y (RV.tmp Y) .nil Y)
theorem mL{u YY r}(h:dO u YY=some r):
 XL Tryz.prog 247 [.v Q1 u,.o7 204 [.ZH Q2 YY]] (.v Q0 r) []:=by
 refine XL.of Tryz.func247 Y Tryz.ntmps247 Y ?_;intro S w z;unfold dO at h;refine aL [0,1] ?_;refine cU [0,1,7,8] ?_;obtain⟨M,G,H,I⟩:=cF h;refine jD (σs:=fun A:Int=>⟨[(0,.v Q1 u),(1,.o7 204 [.ZH Q2 YY]),(7,.v Q0 (u.length:Int)),(8,.v Q0 A)],[]⟩) (fun B:Unit=>⟨[],[]⟩) G (aC []) ?_ ?_
 ·intro B C;have h:=H _ C;refine aL [4] ?_;cases h;exact aH (aW z dU Y (RV.tmp Y) .nil Y)
 intro A L h;refine aL [0,1,7,8,9] ?_;refine aF ?_;refine aU h Y (fun D h=>?_) (fun D h=>?_)
 ·refine aE ?_;refine aF ?_;refine bR ?_;refine aL [0,1,5,7,8] ?_;obtain⟨N,O,h⟩:=aA h;obtain⟨P,K,h⟩:=aA h;refine aJ (.a 5 ?_);refine .k (tZ Y (Ki K) Tryz.call204 (.cons (.dir Y) .nil)) (.f [0,1,5,7,8,16] ?_);refine aU h Y (fun E h=>?_) (fun E h=>?_)
  ·refine aL [4] ?_;refine aH ?_;refine eK ?_;cases h;refine gD fun F=>?_;obtain rfl:=I _ F;exact aW z dU Y (RV.tmp Y) .nil Y
  refine aE ?_;refine aZ ?_;refine dT [0,1,7,8] ?_;cases h;exact cE (aC [])
 cases h;exact cY (dK (aC []))
theorem lB{u YY r}(h:cJ u YY=some r):
 XL Tryz.prog 203 [.v Q1 u,.o7 204 [.ZH Q2 YY]] (.v Wr.bool r) []:=by
 refine XL.of Tryz.func203 Y Tryz.ntmps203 Y ?_;intro S w z;unfold cJ at h;refine aL [0,1] ?_;obtain⟨B,A,h⟩:=aA h;refine aJ (.a 2 ?_);refine .k (aN (mL A) Tryz.call247 (.cons (.dir Y) (.cons (.dir Y) .nil))) (.f [4] ?_);cases h;exact aH (aW z dU Y (RV.tmp Y) .nil Y)
theorem uX{z r}(h:mY z=some r):
 XL Tryz.prog 160 [.v Q2 z] (.v Q9 r) []:=by
 refine XL.of Tryz.func160 Y Tryz.ntmps160 Y ?_;intro S w A;unfold mY at h;refine aJ (.k (cL 101 Y s3 Y) (.f [1] ?_));refine aF ?_;refine aF ?_;obtain⟨F,u,h⟩:=aA h;refine eH (O':=⟨[(1,.ptr 101 0),(18,.v Wr.bool F)],[(101,.box 186 [.v Q5 z.1,.v Q1 z.2.1,.v Q0 z.2.2])]⟩) ?_ ?_
 ·refine cd u (fun B u=>?_) (fun B u=>?_)
  ·cases u;exact jy
  refine cd u (fun C u=>?_) (fun C u=>?_)
  ·cases u;exact jy
  cases u;exact jy
 refine aU h Y (fun D h=>?_) (fun D h=>?_)
 ·refine aL [2] ?_;cases h;exact aH (aW A dU Y (RV.tmp Y) .nil Y)
 refine aE ?_;obtain⟨H,G,h⟩:=aA h;refine jQ (.a 2 ?_);refine .k (tY (.cons (.dir Y) .nil)) (.k (rU (lB G) Tryz.call203 (.cons (.dir Y) (.cons (.aOq Y (.ptr Y s3 .nil)) .nil)) YZ.v) (.f [23] ?_));refine aU h Y (fun E h=>?_) (fun E h=>?_)
 ·refine aL [2] ?_;cases h;exact aH (aW A dU Y (RV.tmp Y) .nil Y)
 refine aE ?_;refine aL [2] ?_;cases h;exact aH (aW A dU Y (RV.tmp Y) .nil Y)
theorem qP{u r}(h:kJ u=some r):
 XL Tryz.prog 138 [.v (Wr.M6 aM) u] (.ref 0) [(0,.arr 30 aM r)]:=by
 refine XL.of Tryz.func138 Y Tryz.ntmps138 Y ?_;intro S w z;unfold kJ at h;refine aJ (.k (aS 101 30 aM) (.f [0] ?_));refine jQ (.a 1 ?_);refine .k (xR Y Kf) (.f [0,4] ?_);refine aU h Y (fun A h=>?_) (fun A h=>?_)
 ·refine aJ (.k (aS 102 30 aM) (.f [2] ?_));cases h;exact aH (wF z dU Y (aC [(0,102)]))
 refine aE ?_;obtain⟨C,B,h⟩:=aA h;refine aJ (.k (rS (e:=aM) 103 Kf kW Cb Y Y Y Y .nil) ?_);refine .a 1 ?_;refine .t (bU 104 B Y Y (.M6 Y) Kf An kW Y Y Y Y Y) (.f [2] ?_);cases h;exact aH (wF z dU Y (aC [(0,104)]))
theorem cQ{u:iR}{r:iR}(h:aP u=some r):
  XL Tryz.prog 138 [.v Q5 u] (.ref 0) [(0,.arr 30 aM r)]:=
 rV fun b z=>qP (by cases b with | true=>rw[z rfl] at h ⊢;exact h | false=>exact Eu h)
theorem tG{u r}(h:fV u=some r):
 XL Tryz.prog 181 [.v Q1 u] (.o7 227 [.ZH Q1 r]) []:=by
 refine XL.of Tryz.func181 Y Tryz.ntmps181 Y ?_;intro S w z;unfold fV at h;refine aJ (.k (cL 101 Y sO Y) (.k (eP Y) (.f [1] ?_)));refine aJ (.k (tY (.cons (.dir Y) .nil)) (.f [2] ?_));refine aH ?_;obtain rfl:=pT h;exact cB (O':=⟨[(2,.o7 227 [.ZH Q1 u])],[]⟩) (Sw.Sub.mk id (.cons Y (.o7 (.cons (.C5 Y Y (.cons (.of_eq Y) .nil) sO) .nil)) .nil) .nil Y) (aW z dU Y (RV.tmp Y) .nil Y)
theorem SJ{xs:List (Int×aR)}(hlen:(xs.length:Int)<=4294967296):
 dm Tryz.prog 227 [.ZH Q1 xs] ((L3 xs).map fun c=>[.v Q0 c.1,.v gK c.2]):=by
  refine DU Tryz.func227 Y Tryz.ntmps227 Y ?_;intro S w ρ l Jp Jx b off I ya h1;have E:=DW hlen;refine aF ?_;refine eH (O':=⟨[(0,.v (Wr.n7 (.func (.yield l) #[] #[]) Y) ()),(1,.v (Wr.cp b off Q1) xs),(3,.v Q0 ((xs.length:Int) - 1 - (0:Nat)))],[]⟩) (J.k (mS Y GU Ja) (J.k (tQ Y yM) (J.k (cZ Y Y Y) (J.k (bN Y) (J.fin (kO (by rfl) (by exact(.cons Y (.cons Y (.cons (by rw[<-E];rfl) .nil)))))))))) ?_;refine bR ?_;refine Su I (fun k=>[(0,.v (Wr.n7 (.func (.yield l) #[] #[]) Y) ()),(1,.v (Wr.cp b off Q1) xs),(3,.v Q0 ((xs.length:Int) - 1 - (k:Nat)))]) (fun k=>(.cons (@C0.flat _ _ ⟨fun h=>h⟩ _ _ _ _) (.cons h1 (.cons .flat .nil)))) (fun _ _ h=>h) ya ?_;intro k V C D;have u:((L3 xs).map fun c=>([.v Q0 c.1,.v gK c.2]:List Slot)).length=xs.length:=by rw[oc,DV]
  rw[u] at D;have F:=HR hlen D;refine aF (aF ?_);refine eH (O':=⟨[(0,.v (Wr.n7 (.func (.yield l) #[] #[]) Y) ()),(1,.v (Wr.cp b off Q1) xs),(3,.v Q0 ((xs.length:Int) - 1 - (k:Nat))),(8,.v Wr.bool (cm .geq ((xs.length:Int) - 1 - (k:Nat)) 0))],[]⟩) (J.mv Y (J.k (jU Y Y Y) (J.fin (kO (by rfl) (by exact(.cons Y (.cons Y (.cons Y (.cons Y .nil))))))))) ?_;refine Gk Y (fun z=>?_) (fun z=>?_)
  ·refine aE ?_;have M:(xs.length:Int) - 1 - (k:Nat)>=0:=(by simpa[cm] using z);have B:k<xs.length:=(by omega);obtain⟨x,K,L⟩:=HQ B;refine aF ?_;refine bR ?_;refine aF ?_;refine Nb (σ1:=⟨[(11,.v (Wr.n7 (.func (.yield l) #[] #[]) Y) ()),(12,.v Q0 ((xs.length:Int) - 1 - (k:Nat))),(16,.v gK x),(0,.v (Wr.n7 (.func (.yield l) #[] #[]) Y) ()),(1,.v (Wr.cp b off Q1) xs),(3,.v Q0 ((xs.length:Int) - 1 - (k:Nat)))],[]⟩) (g2:=[(0,.v (Wr.n7 (.func (.yield l) #[] #[]) Y) ()),(1,.v (Wr.cp b off Q1) xs),(3,.v Q0 ((xs.length:Int) - 1 - (k:Nat)))]) (pre:=[_,_,_,_,_,_]) I C (item:=[.v Q0 ((xs.length:Int) - 1 - (k:Nat)),.v gK x]) (by rw[oe,K];rfl)
    (J.cons (.none rfl) (aD rfl) rfl rfl (J.cons (.none rfl) (aD rfl) rfl rfl (J.cons (.none rfl) (mS rfl GU Ja) rfl rfl (J.cons (.none rfl) (aD rfl) rfl rfl (J.cons (.none rfl) (pO L rfl rfl yM jZ) rfl rfl (J.cons (.none rfl) (cG rfl AK jZ) rfl rfl (J.fin (kO (by rfl) (by exact(.cons rfl (.cons rfl (.cons rfl (.cons rfl (.cons rfl (.cons rfl .nil)))))))))))))))
    rfl (.cons (.dir rfl) (.cons (.dir rfl) .nil)) rfl rfl rfl rfl (.cons (@C0.flat _ _ ⟨fun h=>h⟩ _ _ _ _) (.cons h1 (.cons .flat .nil))) (.cons rfl (.cons rfl (.cons rfl .nil))) (fun A G=>?_) (fun A H=>?_)
   ·refine Bg rfl rfl (aE (aZ ?_));refine eH (O':=⟨[(0,.v (Wr.n7 (.func (.yield l) #[] #[]) Y) ()),(1,.v (Wr.cp b off Q1) xs),(3,.v Q0 (ar .sub .i64 ((xs.length:Int) - 1 - (k:Nat)) 1))],[]⟩) (J.mv Y (J.k (cZ Y Y Y) (J.k (bN Y) (J.fin (kO (by rfl) (by exact(.cons Y (.cons Y (.cons Y .nil))))))))) ?_;exact Sv I G (by rw[u];exact B) (by rw[F];exact fun _ _ h=>h)
   ·refine vX rfl rfl (aH (Sx (fn:=Tryz.f227) I rfl H fun a A h=>h))
  ·refine cY (Ys (fn:=Tryz.f227) I rfl C ?_ (fun a A h=>?_))
   ·have N:¬(xs.length:Int) - 1 - (k:Nat)>=0:=(by simpa[cm] using z);rw[u];omega
   ·simp only[Exit.inBlock,r7];exact h
theorem qN{z B r}(h:iW z B=some r):
 XL Tryz.prog 133 [.v Q2 z,.v Q0 B] (.XU [.v aM r.1,.v Q9 r.2]) []:=by
 refine XL.of Tryz.func133 Y Tryz.ntmps133 Y ?_;intro S w A;unfold iW at h;refine aJ (.k (cL 101 Y s3 Y) (.k (cL 102 Y sO Y) (.k (aO 103 Cb Y (.cons (Z.arr 8 (Z.int .u8)) .nil) Y) (.k (aO 104 Tryz.zeroValue35 Y (.cons (Z.err ET) .nil) Y) (.f [2,3,4,5] ?_)))));obtain⟨T,U,h⟩:=aA h;refine jQ (.k (aT Y Y s3 sI lL) (.k (aN (uX U) PD (.cons (.dir Y) .nil)) (.f [2,3,4,5,6] ?_)));refine aL [2,3,4,5,6,12] ?_;refine aU h Y (fun M h=>?_) (fun M h=>?_)
 ·refine aJ (.k (cV (e:=aM) (v:=aQ) An vG I5 Y Y (Z.arr 8 (Z.int .u8))) (.f [4,5] ?_));refine aH ?_;obtain rfl:=pT h;exact cB (O':=⟨[(4,.ptr 90 0),(5,.ptr 91 0)],[(91,.box 35 [.v Q9 T]),(90,.box 30 [.v aM aQ])]⟩) (aC [(90,103),(91,104)]) (bS A dU Y (cO Y Y Y uW kW) (cO Y Y Y UG QE) .nil Y)
 refine aE ?_;refine aF ?_;refine aF ?_;obtain⟨V,D,h⟩:=aA h;refine eH (O':=⟨[(2,.ptr 101 0),(3,.ptr 102 0),(4,.ptr 103 0),(5,.ptr 104 0),(23,.v Wr.bool V)],[(101,.box 186 [.v Q5 z.1,.v Q1 z.2.1,.v Q0 z.2.2]),(102,.box 3 [.v Q0 B]),(103,.box 30 [.v aM aQ]),(104,.box 35 [.v Q9 (none:Option Int)])]⟩) ?_ ?_
 ·refine cd D (fun N D=>?_) (fun N D=>?_)
  ·cases D;exact jy
  cases D;exact jy
 refine aU h Y (fun O h=>?_) (fun O h=>?_)
 ·refine aJ (.k (cV (e:=aM) (v:=aQ) An vG I5 Y Y (Z.arr 8 (Z.int .u8))) (.f [4,5] ?_));refine aH ?_;obtain rfl:=pT h;exact cB (O':=⟨[(4,.ptr 90 0),(5,.ptr 91 0)],[(91,.box 35 [.v Q9 (some (1:Int))]),(90,.box 30 [.v aM aQ])]⟩) (aC [(90,103),(91,104)]) (bS A dU Y (cO Y Y Y uW kW) (cO Y Y Y UG QE) .nil Y)
 refine aE ?_;refine cU [2,3,4,5,28] ?_;refine aU h Y (fun P h=>?_) (fun P h=>?_)
 ·refine aJ (.k (cV (e:=aM) (v:=aQ) An vG I5 Y Y (Z.arr 8 (Z.int .u8))) (.f [4,5] ?_));refine aH ?_;obtain rfl:=pT h;exact cB (O':=⟨[(4,.ptr 90 0),(5,.ptr 91 0)],[(91,.box 35 [.v Q9 (some (4:Int))]),(90,.box 30 [.v aM aQ])]⟩) (aC [(90,103),(91,104)]) (bS A dU Y (cO Y Y Y uW kW) (cO Y Y Y UG QE) .nil Y)
 refine aE ?_;obtain⟨G,X,h⟩:=aA h;refine jQ (.a 2 ?_);refine .k (aN (tG X) Tryz.call181 (.cons (.dir Y) .nil)) (.f [2,3,4,5,33] ?_);refine bR ?_;obtain⟨af,aa,h⟩:=aA h;obtain⟨o9,ab,ac,ad⟩:=Sr h;refine Sq (g:=[(2,.ptr 101 0),(3,.ptr 102 0),(4,.ptr 103 0),(5,.ptr 104 0),(33,.o7 227 [.ZH Q1 G])]) (ds0:=[(101,.box 186 [.v Q5 z.1,.v Q1 z.2.1,.v Q0 z.2.2]),(102,.box 3 [.v Q0 B]),(103,.box 30 [.v aM aQ]),(104,.box 35 [.v Q9 (none:Option Int)])]) (L:=[101,102,103,104]) (fun C:(Int×(Int×aR))=>[.v Q0 C.1,.v gK C.2]) (fun u (E:Unit)=>[(101,.box 186 [.v Q5 z.1,.v Q1 z.2.1,.v Q0 z.2.2] (some (u 101))),(102,.box 3 [.v Q0 B] (some (u 102))),(103,.box 30 [.v aM aQ] (some (u 103))),(104,.box 35 [.v Q9 (none:Option Int)] (some (u 104)))]) (fun u (F:aR)=>[(101,.box 186 [.v Q5 z.1,.v Q1 z.2.1,.v Q0 z.2.2] (some (u 101))),(102,.box 3 [.v Q0 B] (some (u 102))),(103,.box 30 [.v aM F] (some (u 103))),(104,.box 35 [.v Q9 (none:Option Int)] (some (u 104)))]) (fun u C E=>⟨[(2,.ptr 101 0),(3,.ptr 102 0),(4,.ptr 103 0),(5,.ptr 104 0),(8,.ptr 108 0),(33,.o7 227 [.ZH Q1 G])],[(101,.box 186 [.v Q5 z.1,.v Q1 z.2.1,.v Q0 z.2.2] (some (u 101))),(102,.box 3 [.v Q0 B] (some (u 102))),(103,.box 30 [.v aM aQ] (some (u 103))),(104,.box 35 [.v Q9 (none:Option Int)] (some (u 104))),(108,.box 214 [.v Q0 C.2.1,.v aM C.2.2])]⟩) A Y ab (aC []) (fun _=>rfl) Y (SJ (Gp aa)) Tryz.call227 (fun _=>rfl) Y (fun _=>rfl) Y (fun _ _=>(.cons Y (.cons Y (.cons Y (.cons Y .nil))))) (fun _ _=>(.cons Y (.cons Y (.cons Y (.cons Y .nil))))) ?_ ?_ ?_ ?_
 ·intro u S w R l C E;refine eU (.k (aO 109 Fu Y (.cons zI (.cons (Z.arr 8 (Z.int .u8)) .nil)) Y) (.t (bT Y Y Y Y s2 jZ) (.f [2,3,4,5,8,33] ?_)));exact QP (aC [(108,109)])
 ·intro u S w R l C E r9 h;refine bR ?_;refine aL [2,3,4,5,8,33,39] ?_;refine aU h Y (fun Q h=>?_) (fun Q h=>?_)
  ·refine aJ (.a 3 ?_);refine .t (Jl Y Y Y (.aOm ET) Y Y Y QE) (.f [2,3,4,5,33] ?_);refine aH ?_;refine eK ?_;cases h;exact HP (aC [])
  refine aE ?_;cases h;exact aZ (Ss (aC []))
 ·intro u ae H S w R I A;have h:=ac _ H;refine aZ ?_;obtain⟨om,uy,h⟩:=aA h;refine aJ (.a 6 ?_);refine .t (Jl Y Y Y (.aOm ET) Y Y Y QE) (.f [4,5] ?_);refine aH ?_;obtain rfl:=pT h;exact cB (O':=⟨[(4,.ptr 90 0),(5,.ptr 91 0)],[(91,.box 35 [.v Q9 (none:Option Int)]),(90,.box 30 [.v aM om])]⟩) (aC [(90,103),(91,104)]) (bS A dU Y (cO Y Y Y uW kW) (cO Y Y Y UG QE) .nil Y)
 ·intro u F K S w R I A;have h:=ad _ K;refine eK ?_;obtain rfl:=pT h;exact cB (O':=⟨[(4,.ptr 90 0),(5,.ptr 91 0)],[(91,.box 35 [.v Q9 (none:Option Int)]),(90,.box 30 [.v aM F])]⟩) (aC [(90,103),(91,104)]) (bS A dU Y (cO Y Y Y uW kW) (cO Y Y Y UG QE) .nil Y)
theorem tM{u r}(h:gR u=some r):
 XL Tryz.prog 210 [.v aM u] (.v Q0 r) []:=by
 refine XL.of Tryz.func210 Y Tryz.ntmps210 Y ?_;intro S w D;unfold gR at h;refine aJ (.k (cL 101 Y sO Y) (.f [1] ?_));obtain⟨E,z,h⟩:=aA h;obtain⟨F,A,h⟩:=aA h;obtain⟨G,B,h⟩:=aA h;obtain⟨H,C,h⟩:=aA h;refine aJ (.k (rR z Y Y Y Y vG S5) (.k (vL (dL z).2.2 Y Y Y G5 S5) (.k (by exact mR U5 U3 Y Y) (.k (by exact fF (.inl Y) (by decide) Y Y) (.k (by exact rR A Y Y Y Y vG S5) (.k (by exact vL (dL A).2.2 Y Y Y G5 S5) (.k (by exact mR U5 U3 Y Y) (.k (by exact fF (.inl Y) (by decide) Y Y) ?_))))))));refine .a 1 ?_;refine .k (rR B Y Y Y Y vG S5) (.k (vL (dL B).2.2 Y Y Y G5 S5) (.k (by exact mR U5 U3 Y Y) (.k (by exact fF (.inl Y) (by decide) Y Y) ?_)));refine .a 1 ?_;refine .k (rR C Y Y Y Y vG S5) (.k (vL (dL C).2.2 Y Y Y G5 S5) (.k (by exact mR U5 U3 Y Y) (.f [2] ?_)));cases h;exact aH (aW D dU Y (RV.tmp Y) .nil Y)
theorem sU{u r}(h:lZ u=some r):
 XL Tryz.prog 213 [.v (Wr.M6 gK) u] (.ref 0) [(0,.arr 214 gK r)]:=by
 refine XL.of Tryz.func213 Y Tryz.ntmps213 Y ?_;intro S w z;unfold lZ at h;refine aJ (.k (aS 101 214 gK) (.f [0] ?_));refine jQ (.a 1 ?_);refine .k (xR Y yM) (.f [0,4] ?_);refine aU h Y (fun A h=>?_) (fun A h=>?_)
 ·refine aJ (.k (aS 102 214 gK) (.f [2] ?_));cases h;exact aH (wF z dU Y (aC [(0,102)]))
 refine aE ?_;obtain⟨C,B,h⟩:=aA h;refine aJ (.k (rS (e:=gK) 103 yM jZ Fu Y Y Y Y .nil) ?_);refine .a 1 ?_;refine .t (bU 104 B Y Y (.M6 Y) yM Lo jZ Y Y Y Y Y) (.f [2] ?_);cases h;exact aH (wF z dU Y (aC [(0,104)]))
theorem eZ{u:Q6}{r:Q6}(h:bV u=some r):
  XL Tryz.prog 213 [.v Q1 u] (.ref 0) [(0,.arr 214 gK r)]:=
 rV fun b z=>sU (by cases b with | true=>rw[z rfl] at h ⊢;exact h | false=>exact Eu h)
theorem Ee{u r}(h:rY u=some r):
 XL Tryz.prog 264 [.v Q2 u] (.agg [.ref 0,.ref 1,.v Q0 r.2.2]) [(0,.arr 30 aM r.1),(1,.arr 214 gK r.2.1)]:=by
 refine XL.of Tryz.func264 Y Tryz.ntmps264 Y ?_;intro S w z;unfold rY at h;refine aJ (.k (cL 101 Y s3 Y) (.k (aO 102 Ue Y (.cons (Z.sl aM) (.cons (Z.sl gK) (.cons zI .nil))) Y) (.f [1,2] ?_)));refine aF ?_;obtain⟨A,B,h⟩:=aA h;obtain⟨C,D,h⟩:=aA h;refine eD 10 mixed (by exact(.k (aB 0 Y Lq Y yL Y Y) (.k (aI Y Y Y Uo yL) (.k (fP 103000 (cQ B) AJ (.cons (.dir Y) .nil) Y) (.k (aB 1 Y Lq Y Ja Y Y) (.k (aI Y Y Y GU Ja) (.k (fP 104000 (eZ D) LI (.cons (.dir Y) .nil) Y) (.k (aB 0 Y Lq Y yL Y Y) (ZA.store (.none Y) Y Y Y Y Y Y Y yL (.k (aB 1 Y Lq Y Ja Y Y) (ZA.store (.none Y) Y Y Y Y Y Y Y Ja .nil))))))))))) (by exact(J.kp [1,2] [])) ?_;refine aJ (.k (iB Y Y Y sI lL) (.f [2] ?_));refine aH ?_;obtain rfl:=pT h;exact cB (O':=⟨[(2,.ptr 90 0)],[(90,.box 186 [.ref 0,.ref 1,.v Q0 u.2.2]),(1,.arr 214 gK C),(0,.arr 30 aM A)]⟩) (aC [(90,102),(1,104000),(0,103000)]) (aW z dU Y (Gm Y Y Y sI lL) (.cons Y (.cons Y .nil)) Y)
theorem vH(A:Nat->Nat){XG XP ku r}(h:jN XG XP ku=some r):
 XA Tryz.prog 265 [.ptr 9000 0] [(9000,.box 186 [.ref 8950,.ref 8951,.v Q0 ku] (some (A 9000))),(8950,.arr 30 aM XG),(8951,.arr 214 gK XP)] (.v Q9 r.1) [(9000,.box 186 [.ref 8910,.ref 8911,.v Q0 r.2.2.2] (some (A 9000))),(8910,.arr 30 aM r.2.1),(8911,.arr 214 gK r.2.2.1)]:=by
 refine XA.of Tryz.func265 Y Tryz.ntmps265 Y ?_;intro S w R z;unfold jN at h;refine aL [0] ?_;refine cU [0,7] ?_;refine aU h Y (fun C h=>?_) (fun C h=>?_)
 ·refine aL [0,2] ?_;cases h;exact aH (fA z Y (aC [(8911,8951),(8910,8950)]))
 refine aE ?_;refine cU [0,13] ?_;obtain⟨D,E,h⟩:=fE h;refine sY (fun B:Int=>⟨[(0,.ptr 9000 0)],[(9000,.box 186 [.ref 8950,.ref 8951,.v Q0 B] (some (A 9000))),(8950,.arr 30 aM XG),(8951,.arr 214 gK XP)]⟩) (fun x=>D x=some r) Y ?_ ?_ ?_
 ·intro B h;rw[E] at h;refine aL [0,2] ?_;cases h;exact aH (fA z Y (aC [(8911,8951),(8910,8950)]))
 ·intro u;replace h:=iJ u h;refine dT [0] ?_;exact bY h (aC [])
 ·intro u;replace h:=iK u h;refine aE ?_;exact bY h (aC [])
theorem Pd{u C D r}(h:rZ u C D=some r):
 XL Tryz.prog 250 [.v Q2 u,.v Q0 C,.v aM D] (.XU [.v Q2 r.1,.v Q9 r.2]) []:=by
 refine XL.of Tryz.func250 Y Tryz.ntmps250 Y ?_;intro S w z;unfold rZ at h;refine aJ (.k (cL 101 Y s3 Y) (.k (cL 102 Y sO Y) (.k (aO 103 Ue Y (.cons (Z.sl aM) (.cons (Z.sl gK) (.cons zI .nil))) Y) (.f [1,3,5,6] ?_))));obtain⟨L,M,h⟩:=aA h;refine jQ (.k (aT Y Y s3 sI lL) (.k (aN (uX M) PD (.cons (.dir Y) .nil)) (.f [1,3,5,6,8] ?_)));refine aL [1,3,5,6,8,13] ?_;refine aU h Y (fun F h=>?_) (fun F h=>?_)
 ·refine aJ (.k (fO (new:=[(105,.arr 214 gK ([]:Q6))]) rN (.cons (Z.sl aM) (.ref 105 Y (.cons zI .nil))) (.cons .nil) Y .nil) (.f [6,7] ?_));refine aH ?_;obtain rfl:=pT h;exact cB (O':=⟨[(6,.ptr 90 0),(7,.v Q9 L)],[(90,.box 186 [.v Q5 ([]:iR),.v Q1 ([]:Q6),.v Q0 (0:Int)])]⟩) (aC [(90,103)]) (bS z dU Y (aV Y Y s3 sI lL) (RV.tmp Y) .nil Y)
 refine aE ?_;refine aF ?_;refine aF ?_;obtain⟨N,B,h⟩:=aA h;refine eH (O':=⟨[(1,.v Q0 C),(3,.ptr 101 0),(5,.ptr 102 0),(6,.ptr 103 0),(24,.v Wr.bool N)],[(101,.box 186 [.v Q5 u.1,.v Q1 u.2.1,.v Q0 u.2.2]),(102,.box 30 [.v aM D]),(103,.box 186 [.v Q5 ([]:iR),.v Q1 ([]:Q6),.v Q0 (0:Int)])]⟩) ?_ ?_
 ·refine cd B (fun G B=>?_) (fun G B=>?_)
  ·cases B;exact jy
  cases B;exact jy
 refine aU h Y (fun H h=>?_) (fun H h=>?_)
 ·refine aJ (.k (fO (new:=[(106,.arr 214 gK ([]:Q6))]) rN (.cons (Z.sl aM) (.ref 106 Y (.cons zI .nil))) (.cons .nil) Y .nil) (.f [6,7] ?_));refine aH ?_;obtain rfl:=pT h;exact cB (O':=⟨[(6,.ptr 90 0),(7,.v Q9 (some (1:Int)))],[(90,.box 186 [.v Q5 ([]:iR),.v Q1 ([]:Q6),.v Q0 (0:Int)])]⟩) (aC [(90,103)]) (bS z dU Y (aV Y Y s3 sI lL) (RV.tmp Y) .nil Y)
 refine aE ?_;refine cU [1,3,5,6,30] ?_;refine aU h Y (fun I h=>?_) (fun I h=>?_)
 ·refine aJ (.k (fO (new:=[(107,.arr 214 gK ([]:Q6))]) rN (.cons (Z.sl aM) (.ref 107 Y (.cons zI .nil))) (.cons .nil) Y .nil) (.f [6,7] ?_));refine aH ?_;obtain rfl:=pT h;exact cB (O':=⟨[(6,.ptr 90 0),(7,.v Q9 (some (2:Int)))],[(90,.box 186 [.v Q5 ([]:iR),.v Q1 ([]:Q6),.v Q0 (0:Int)])]⟩) (aC [(90,103)]) (bS z dU Y (aV Y Y s3 sI lL) (RV.tmp Y) .nil Y)
 refine aE ?_;obtain⟨T,O,h⟩:=aA h;refine aJ (.k (aT Y Y s3 sI lL) (.k (fP 108000 (Ee O) Tryz.call264 (.cons (.dir Y) .nil) Y) (.f [1,3,5,6] ?_)));obtain⟨E,P,h⟩:=aA h;refine jQ (.t (eN [101,108000,108001] (Cf [(9000,101),(8950,108000),(8951,108001),(8910,109),(8911,110)]) (eW _) (fun A=>vH A P) Tryz.call265 (fun A=>(.box Y (.arr (.arr .nil Y) Y) Y))) (.f [1,3,5,6,9] ?_));refine aL [1,3,5,6,9,37] ?_;refine aU h Y (fun K h=>?_) (fun K h=>?_)
 ·refine aJ (.k (fO (new:=[(111,.arr 214 gK ([]:Q6))]) rN (.cons (Z.sl aM) (.ref 111 Y (.cons zI .nil))) (.cons .nil) Y .nil) (.f [6,7] ?_));refine aH ?_;obtain rfl:=pT h;exact cB (O':=⟨[(6,.ptr 90 0),(7,.v Q9 E.1)],[(90,.box 186 [.v Q5 ([]:iR),.v Q1 ([]:Q6),.v Q0 (0:Int)])]⟩) (aC [(90,103)]) (bS z dU Y (aV Y Y s3 sI lL) (RV.tmp Y) .nil Y)
 refine aE ?_;obtain⟨Q,R,h⟩:=aA h;refine aJ (.a 4 ?_);refine .k (bQ wJ (.cons zI (.cons (Z.arr 8 (Z.int .u8)) .nil)) (.cons Y (.dir Y) Y Y Y Y (.cons Y (.dir Y) Y Y Y Y .nil))) (.k (dN (e:=gK) yM jZ Fu Y Y Y Y (.cons (.agg Y (.same (.same .nil)) s2 Y) .nil)) (.t (bU 112 R Y Y (.sl Y) yM Lo jZ Y Y Y Y Y) (.f [3,6] ?_)));refine aJ (.k (iB Y Y Y sI lL) (.f [6,7] ?_));refine aH ?_;obtain rfl:=pT h;exact cB (O':=⟨[(6,.ptr 90 0),(7,.v Q9 (none:Option Int))],[(90,.box 186 [.v Q5 E.2.1,.v Q1 Q,.v Q0 E.2.2.2])]⟩) (aC [(90,103)]) (bS z dU Y (aV Y Y s3 sI lL) (RV.tmp Y) .nil Y)
theorem iP(A:Nat->Nat){XG XP z B r}(h:eF XG XP z B=some r):
 XA Tryz.prog 215 [.ptr 9000 0,.v Q0 z,.v aM B] [(9000,.box 188 [.v Q0 XG,.v Q2 XP] (some (A 9000)))] (.v Q9 r.1) [(9000,.box 188 [.v Q0 r.2.1,.v Q2 r.2.2] (some (A 9000)))]:=by
 refine XA.of Tryz.func215 Y Tryz.ntmps215 Y ?_;intro S w R D;unfold eF at h;refine aJ (.k (cL 101 Y sO Y) (.f [0,1,5] ?_));refine aF ?_;obtain⟨E,F,h⟩:=aA h;refine eD 13 mixed (by exact(.k (aD Y) (.k (aK Y) (.k (aB 1 Y wR Y lL Y Y) (.k (aI Y Y Y sI lL) (.k (aD Y) (.k (aI Y Y Y uW kW) (.k (aN (Pd F) Tryz.call250 (.cons (.dir Y) (.cons (.dir Y) (.cons (.dir Y) .nil)))) (.k (aD Y) (.k (bW Y Y) (.k (bW Y Y) (.k (aO 103 Ue Y (.cons (Z.sl aM) (.cons (Z.sl gK) (.cons zI .nil))) Y) (ZA.storeAll (.none Y) Y Y Y Y s3 lL (.k (bN Y) .nil)))))))))))))) (by exact(J.kp [0,7,8] [])) ?_;refine jQ (.a 1 ?_);refine .k (iI Oz Y) (.f [0,7,8,20] ?_);obtain⟨G,H,h⟩:=fE h;refine sY (fun C:Ca=>⟨[(0,.ptr 9000 0),(8,.v Q9 E.2)],[(9000,.box 188 [.v Q0 XG,.v Q2 C] (some (A 9000)))]⟩) (fun x=>G x=some r) Y ?_ ?_ ?_
 ·intro C h;rw[H] at h;refine aL [0,6] ?_;cases h;exact aH (eM D Y (RV.tmp Y) (.cons Y .nil))
 ·intro u;replace h:=iJ u h;refine eU (.a 1 ?_);refine .k (aT Y Y s3 sI lL) (.f [0,8] ?_);exact bY h (aC [])
 ·intro u;replace h:=iK u h;refine aE ?_;exact bY h (aC [])
theorem tH(A:Nat->Nat){XG XP r}(h:gU XG XP=some r):
 XA Tryz.prog 206 [.ptr 9000 0] [(9000,.box 188 [.v Q0 XG,.v Q2 XP] (some (A 9000))),(9100,.box 74 [.ptr 9000 0] (some (A 9100)))] (.v Q9 r.1) [(9000,.box 188 [.v Q0 r.2.1,.v Q2 r.2.2] (some (A 9000))),(9100,.box 74 [.ptr 9000 0] (some (A 9100)))]:=by
 refine XA.of Tryz.func206 Y Tryz.ntmps206 Y ?_;intro S w R G;unfold gU at h;refine aL [0] ?_;refine aF ?_;obtain⟨E,M,h⟩:=aA h;refine eD 16 mixed (by exact(.k (aD Y) (.k (aK Y) (.k (aB 1 Y wR Y lL Y Y) (.k (aI Y Y Y sI lL) (.k (aD Y) (.k (aK Y) (.k (aB 0 Y wR Y S3 Y Y) (.k (aI Y Y Y G3 S3) (.k (cZ Y Y Y) (.k (aN (qN M) GF (.cons (.dir Y) (.cons (.dir Y) .nil))) (.k (aD Y) (.k (bW Y Y) (.k (bW Y Y) (.k (aO 102 Cb Y (.cons (Z.arr 8 (Z.int .u8)) .nil) Y) (ZA.store (.none Y) Y Y Y Y Y Y Y kW (.k (bN Y) .nil))))))))))))))))) (by exact(J.kp [0,3,4] [])) ?_;refine cU [0,3,4,5] ?_;obtain⟨ad,N,O,ae⟩:=cF h;refine jD (σs:=fun u:(Option Int)×Int×Int×Ca=>⟨[(0,.ptr 9000 0),(3,.ptr 102 0),(4,.v Q9 u.1),(5,.v Q0 u.2.1)],[(9000,.box 188 [.v Q0 u.2.2.1,.v Q2 u.2.2.2] (some (A 9000))),(102,.box 30 [.v aM E.1]),(9100,.box 74 [.ptr 9000 0] (some (A 9100)))]⟩) (fun B:(Option Int)×Int×Ca=>⟨[(0,.ptr 9000 0),(4,.v Q9 B.1)],[(9000,.box 188 [.v Q0 B.2.1,.v Q2 B.2.2] (some (A 9000))),(9100,.box 74 [.ptr 9000 0] (some (A 9100)))]⟩) N (aC []) ?_ ?_
 ·intro B H;have h:=O _ H;refine aL [0,2] ?_;cases h;exact aH (eM G Y (RV.tmp Y) (.cons Y (.cons Y .nil)))
 intro u I h;refine aF ?_;refine aF ?_;obtain⟨P,z,h⟩:=aA h;refine eH (O':=⟨[(0,.ptr 9000 0),(3,.ptr 102 0),(4,.v Q9 u.1),(5,.v Q0 u.2.1),(28,.v Wr.bool P)],[(9000,.box 188 [.v Q0 u.2.2.1,.v Q2 u.2.2.2] (some (A 9000))),(102,.box 30 [.v aM E.1]),(9100,.box 74 [.ptr 9000 0] (some (A 9100)))]⟩) ?_ ?_
 ·refine cd z (fun F z=>?_) (fun F z=>?_)
  ·obtain⟨af,Q,z⟩:=aA z;cases z;refine ja 1 ?_;refine(J.k (iI Oz Y) ?_);refine ja 3 ?_;exact(J.g F (aN (tM Q) PF (.cons (.dir Y) .nil)) jy)
  cases z;refine ja 1 ?_;exact(J.k (iI Oz Y) jy)
 refine aU h Y (fun K h=>?_) (fun K h=>?_)
 ·refine aE ?_;refine aF ?_;refine bR ?_;refine aJ (.k (aO 129 Cb Y (.cons (Z.arr 8 (Z.int .u8)) .nil) Y) (.k (aO 130 Cb Y (.cons (Z.arr 8 (Z.int .u8)) .nil) Y) (.f [0,3,5,6,7] ?_)));refine aF ?_;refine aF ?_;obtain⟨T,U,h⟩:=aA h;refine eD 18 mixed (by exact(.k (aD Y) (.k (aK Y) (.k (aB 1 Y wR Y lL Y Y) (.k (aI Y Y Y sI lL) (.k (aD Y) (.k (aK Y) (.k (aB 0 Y wR Y S3 Y Y) (.k (aI Y Y Y G3 S3) (.k (cZ Y Y Y) (.k (aD Y) (.k (cZ Y Y Y) (.k (cZ Y Y Y) (.k (aN (qN U) GF (.cons (.dir Y) (.cons (.dir Y) .nil))) (.k (aD Y) (.k (bW Y Y) (.k (bW Y Y) (ZA.store (.none Y) Y Y Y Y Y Y Y kW (.k (bN Y) .nil))))))))))))))))))) (by exact(J.kp [0,3,4,5,6,7] [])) ?_;refine aJ (.a 1 ?_);refine .k (iI Oz Y) (.f [0,3,4,5,6,7,48] ?_);obtain⟨V,X,h⟩:=fE h;refine sY (fun C:(Option Int)×aR=>⟨[(0,.ptr 9000 0),(3,.ptr 102 0),(4,.v Q9 C.1),(5,.v Q0 u.2.1),(6,.ptr 129 0),(7,.ptr 130 0)],[(9000,.box 188 [.v Q0 u.2.2.1,.v Q2 u.2.2.2] (some (A 9000))),(102,.box 30 [.v aM E.1]),(129,.box 30 [.v aM T.1]),(130,.box 30 [.v aM C.2]),(9100,.box 74 [.ptr 9000 0] (some (A 9100)))]⟩) (fun x=>V x=some I) Y ?_ ?_ ?_
  ·intro C h;rw[X] at h;refine aJ (.a 1 ?_);refine .k (iI Oz Y) (.f [0,3,4,5,6,7,66] ?_);refine aU h Y (fun L h=>?_) (fun L h=>?_)
   ·obtain⟨ah,aa,h⟩:=aA h;obtain⟨ai,ab,h⟩:=aA h;refine eD 4 mixed (by exact(.k (aD Y) (.k (aI Y Y Y uW kW) (.k (aN (tM aa) PF (.cons (.dir Y) .nil)) (.k (aI Y Y Y uW kW) .nil))))) (by exact(J.t (eN [9000] (Cf [(9000,9000)]) (eW _) (fun A=>iP A ab) LJ (fun A=>(.box Y .nil Y))) (jz [0,3,4,5]))) ?_;refine aZ ?_;refine dT [0,3,4,5] ?_;cases h;exact cE (aC [])
   refine aE ?_;refine aZ ?_;refine dT [0,3,4,5] ?_;cases h;exact cE (aC [])
  ·intro D;replace h:=iJ D h;obtain⟨aj,ac,h⟩:=aA h;refine eD 18 mixed (by exact(.k (aD Y) (.k (aK Y) (.k (aB 1 Y wR Y lL Y Y) (.k (aI Y Y Y sI lL) (.k (aD Y) (.k (aK Y) (.k (aB 0 Y wR Y S3 Y Y) (.k (aI Y Y Y G3 S3) (.k (cZ Y Y Y) (.k (aD Y) (.k (cZ Y Y Y) (.k (cZ Y Y Y) (.k (aN (qN ac) GF (.cons (.dir Y) (.cons (.dir Y) .nil))) (.k (aD Y) (.k (bW Y Y) (.k (bW Y Y) (ZA.store (.none Y) Y Y Y Y Y Y Y kW (.k (bN Y) .nil))))))))))))))))))) (by exact(J.kp [0,3,4,5,6,7] [])) ?_;exact bY h (aC [])
  ·intro D;replace h:=iK D h;refine aE ?_;exact bY h (aC [])
 cases h;exact cY (dK (aC []))
theorem Pe{D r}(h:sA D=some r):
 XL Tryz.prog 248 [.v Q2 D] (.XU [.v Q2 r.1,.v Q9 r.2]) []:=by
 refine XL.of Tryz.func248 Y Tryz.ntmps248 Y ?_;intro S w z;unfold sA at h;refine aJ (.k (cL 101 Y s3 Y) (.k (aO 102 Ue Y (.cons (Z.sl aM) (.cons (Z.sl gK) (.cons zI .nil))) Y) (.f [1,2] ?_)));obtain⟨L,M,h⟩:=aA h;refine jQ (.k (aT Y Y s3 sI lL) (.k (aN (uX M) PD (.cons (.dir Y) .nil)) (.f [1,2,4] ?_)));refine aL [1,2,4,11] ?_;refine aU h Y (fun H h=>?_) (fun H h=>?_)
 ·refine aJ (.k (bQ rN (.cons (Z.sl aM) (.cons (Z.sl gK) (.cons zI .nil))) .nil) (.f [2,3] ?_));refine aH ?_;obtain rfl:=pT h;exact cB (O':=⟨[(2,.ptr 90 0),(3,.v Q9 L)],[(90,.box 186 [.v Q5 ([]:iR),.v Q1 ([]:Q6),.v Q0 (0:Int)])]⟩) (aC [(90,102)]) (bS z dU Y (aV Y Y s3 sI lL) (RV.tmp Y) .nil Y)
 refine aE ?_;obtain⟨T,N,h⟩:=aA h;refine aJ (.k (aT Y Y s3 sI lL) (.k (fP 104000 (Ee N) Tryz.call264 (.cons (.dir Y) .nil) Y) (.f [1,2] ?_)));obtain⟨u,O,h⟩:=aA h;refine jQ (.t (eN [101,104000,104001] (Cf [(9000,101),(8950,104000),(8951,104001),(8910,105),(8911,106)]) (eW _) (fun A=>vH A O) Tryz.call265 (fun A=>(.box Y (.arr (.arr .nil Y) Y) Y))) (.f [1,2,5] ?_));refine aL [1,2,5,18] ?_;refine aU h Y (fun I h=>?_) (fun I h=>?_)
 ·refine aJ (.k (bQ rN (.cons (Z.sl aM) (.cons (Z.sl gK) (.cons zI .nil))) .nil) (.f [2,3] ?_));refine aH ?_;obtain rfl:=pT h;exact cB (O':=⟨[(2,.ptr 90 0),(3,.v Q9 u.1)],[(90,.box 186 [.v Q5 ([]:iR),.v Q1 ([]:Q6),.v Q0 (0:Int)])]⟩) (aC [(90,102)]) (bS z dU Y (aV Y Y s3 sI lL) (RV.tmp Y) .nil Y)
 refine aE ?_;refine cU [1,2,22,23,24] ?_;obtain⟨U,P,Q,V⟩:=cF h;refine jD (σs:=fun C:Int×iR=>⟨[(1,.ptr 101 0),(2,.ptr 102 0),(22,.ref 106),(23,.v Q0 (u.2.2.1.length:Int)),(24,.v Q0 C.1)],[(101,.box 186 [.ref 105,.ref 106,.v Q0 u.2.2.2]),(102,.box 186 [.v Q5 ([]:iR),.v Q1 ([]:Q6),.v Q0 (0:Int)]),(106,.arr 214 gK u.2.2.1),(105,.arr 30 aM C.2)]⟩) (fun B:iR=>⟨[(1,.ptr 101 0),(2,.ptr 102 0)],[(101,.box 186 [.ref 105,.ref 106,.v Q0 u.2.2.2]),(102,.box 186 [.v Q5 ([]:iR),.v Q1 ([]:Q6),.v Q0 (0:Int)]),(105,.arr 30 aM B),(106,.arr 214 gK u.2.2.1)]⟩) P (aC []) ?_ ?_
 ·intro B G;have h:=Q _ G;refine aJ (.a 1 ?_);refine .t (uO 111 214 gK Y Y Y Y Ja Y) (.f [1,2] ?_);refine aJ (.k (iB Y Y Y sI lL) (.f [2,3] ?_));refine aH ?_;obtain rfl:=pT h;exact cB (O':=⟨[(2,.ptr 90 0),(3,.v Q9 (none:Option Int))],[(90,.box 186 [.v Q5 B,.v Q1 ([]:Q6),.v Q0 u.2.2.2])]⟩) (aC [(90,102)]) (bS z dU Y (aV Y Y s3 sI lL) (RV.tmp Y) .nil Y)
 intro C R h;refine aL [1,2,22,23,24,25] ?_;refine aF ?_;refine aU h Y (fun K h=>?_) (fun K h=>?_)
 ·refine aE ?_;refine aF ?_;refine bR ?_;obtain⟨X,E,h⟩:=aA h;refine aJ (.k (jE E Y Y Y yM jZ) (.k (jY (dL E).2.2 Y Y .here AK jZ) (.k (aO 110 Fu Y (.cons zI (.cons (Z.arr 8 (Z.int .u8)) .nil)) Y) (.t (bT Y Y Y Y s2 jZ) (.f [1,2,7,22,23,24] ?_)))));obtain⟨aa,F,h⟩:=aA h;refine eU (.a 6 ?_);refine .k (jE F Y Y Y Kf kW) (.t (rD (dL F).2.2 Y Y Y kW) (.f [1,2,22,23,24] ?_));refine aZ ?_;refine dT [1,2,22,23,24] ?_;cases h;exact cE (aC [])
 cases h;exact cY (dK (aC []))
theorem kG(A:Nat->Nat){XG XP r}(h:eX XG XP=some r):
 XA Tryz.prog 207 [.ptr 9000 0] [(9000,.box 188 [.v Q0 XG,.v Q2 XP] (some (A 9000))),(9100,.box 74 [.ptr 9000 0] (some (A 9100)))] (.v Q9 r.1) [(9000,.box 188 [.v Q0 r.2.1,.v Q2 r.2.2] (some (A 9000))),(9100,.box 74 [.ptr 9000 0] (some (A 9100)))]:=by
 refine XA.of Tryz.func207 Y Tryz.ntmps207 Y ?_;intro S w R B;unfold eX at h;refine aL [0] ?_;obtain⟨C,D,h⟩:=aA h;refine aJ (.a 4 ?_);refine .k (aN (Pe D) Tryz.call248 (.cons (.dir Y) .nil)) ?_;refine .a 3 ?_;refine .k (aO 102 Ue Y (.cons (Z.sl aM) (.cons (Z.sl gK) (.cons zI .nil))) Y) (.t (bT Y Y Y Y s3 lL) (.f [0,3,4] ?_));refine jQ (.a 1 ?_);refine .k (iI Oz Y) (.f [0,3,4,14] ?_);obtain⟨E,F,h⟩:=fE h;refine sY (fun z:Ca=>⟨[(0,.ptr 9000 0),(4,.v Q9 C.2)],[(9000,.box 188 [.v Q0 XG,.v Q2 z] (some (A 9000))),(9100,.box 74 [.ptr 9000 0] (some (A 9100)))]⟩) (fun x=>E x=some r) Y ?_ ?_ ?_
 ·intro z h;rw[F] at h;refine aL [0,2] ?_;cases h;exact aH (eM B Y (RV.tmp Y) (.cons Y (.cons Y .nil)))
 ·intro u;replace h:=iJ u h;refine eU (.a 1 ?_);refine .k (aT Y Y s3 sI lL) (.f [0,4] ?_);exact bY h (aC [])
 ·intro u;replace h:=iK u h;refine aE ?_;exact bY h (aC [])
theorem yN(A:Nat->Nat){u di iq r}(h:iX u di iq=some r):
 XA Tryz.prog 249 [.ptr 9100 0,.ZH (Wr.int .u8) u] [(9000,.box 188 [.v Q0 di,.v Q2 iq] (some (A 9000))),(9100,.box 74 [.ptr 9000 0] (some (A 9100)))] (.v Q9 r.1) [(9000,.box 188 [.v Q0 r.2.1,.v Q2 r.2.2] (some (A 9000))),(9100,.box 74 [.ptr 9000 0] (some (A 9100)))]:=by
 refine XA.of Tryz.func249 Y Tryz.ntmps249 Y ?_;intro S w R z;unfold iX at h;refine aL [0,1] ?_;refine aF ?_;obtain⟨C,B,h⟩:=aA h;refine eD 8 mixed (by exact(.k (aI Y Y Y Ox Iz) (.k (aI Y Y Y Ox Iz) (.k (aK Y) (.k (aB 0 Y wR Y S3 Y Y) (.k (aI Y Y Y G3 S3) (.k (cZ Y Y Y) (.k (cG Y G5 S5) (.k (Nh (e:=(Wr.int .u8)) (zv:=(0:Int)) An vG I5 Y Y (Z.arr 8 (Z.int .u8)) Y Y (.cons (.dir Y) .nil)) .nil))))))))) (by exact(J.t (eN [9000] (Cf [(9000,9000)]) (eW _) (fun A=>iP A B) LJ (fun A=>(.box Y .nil Y))) (jz [0,2]))) ?_;cases h;exact aH (eM z Y (RV.tmp Y) (.cons Y (.cons Y .nil)))
theorem zP(A:Nat->Nat){q n0 n1 r}(h:lJ q n0 n1=some r):
 XD Tryz.prog [(9000,A 9000),(9100,A 9100)] (iH (A 9000) (A 9100)) q [(9000,.box 188 [.v Q0 n0,.v Q2 n1] (some (A 9000))),(9100,.box 74 [.ptr 9000 0] (some (A 9100)))] (.v Q9 r.1) [(9000,.box 188 [.v Q0 r.2.1,.v Q2 r.2.2] (some (A 9000))),(9100,.box 74 [.ptr 9000 0] (some (A 9100)))]:=by
 unfold lJ at h;rcases q with z | z
 ·exact(XD.l (XD.R4 .nil (.pr (.B0 (i:=9100) (by simp)) .pt) Tryz.call249 (yN A h)))
 ·exact(XD.r (XD.R4 (.B0 (i:=9000) (by simp)) .nil PE (kG A h)))
theorem uI(A:Nat->Nat){u YY u3 r}(h:gL u YY u3=some r):
 XA Tryz.prog 205 [.v (Wr.sl (iH (A 9000) (A 9100))) u] [(9000,.box 188 [.v Q0 YY,.v Q2 u3] (some (A 9000))),(9100,.box 74 [.ptr 9000 0] (some (A 9100)))] (.v Q9 r.1) [(9000,.box 188 [.v Q0 r.2.1,.v Q2 r.2.2] (some (A 9000))),(9100,.box 74 [.ptr 9000 0] (some (A 9100)))]:=by
 refine XA.of Tryz.func205 Y Tryz.ntmps205 Y ?_;intro S w R C;unfold gL at h;refine aL [0] ?_;refine cU [6,7,8] ?_;obtain⟨Q,L,M,N⟩:=cF h;refine jD (σs:=fun z:Int×Int×Ca=>⟨[(6,.v (Wr.sl (iH (A 9000) (A 9100))) u),(7,.v Q0 (u.length:Int)),(8,.v Q0 z.1)],[(9000,.box 188 [.v Q0 z.2.1,.v Q2 z.2.2] (some (A 9000))),(9100,.box 74 [.ptr 9000 0] (some (A 9100)))]⟩) (fun B:Int×Ca=>⟨[],[(9000,.box 188 [.v Q0 B.1,.v Q2 B.2] (some (A 9000))),(9100,.box 74 [.ptr 9000 0] (some (A 9100)))]⟩) L (aC []) ?_ ?_
 ·intro B D;have h:=M _ D;refine aL [2] ?_;cases h;exact aH (eM C Y (RV.tmp Y) (.cons Y (.cons Y .nil)))
 intro z P h;refine aL [6,7,8,9] ?_;refine aF ?_;refine aU h Y (fun E h=>?_) (fun E h=>?_)
 ·refine aE ?_;refine aF ?_;refine bR ?_;obtain⟨T,U,h⟩:=aA h;refine aL [4,6,7,8] ?_;obtain⟨V,O,h⟩:=aA h;refine aJ (.a 1 ?_);refine .t (Nl (H:=[9000,9100]) (K:=[9000,9100]) [(9000,A 9000),(9100,A 9100)] (Cf [(9000,9000),(9100,9100)]) (eW _) Y ⟨⟨_,_,Y⟩,⟨_,_,Y⟩,trivial⟩ (XD.at2 (e:=iH) (A 9000) (A 9100) (fun F=>zP F O)) (fun _=> .box Y (.box Y .nil)) (fun _=> .box Y (.box Y .nil Y) Y) (fun _=>rfl) Y Y (fun _=>rfl) Y Y) (.f [5,6,7,8] ?_);refine aL [5,6,7,8,15] ?_;refine aU h Y (fun G h=>?_) (fun G h=>?_)
  ·refine aL [2] ?_;refine aH ?_;refine eK ?_;cases h;refine gD fun I=>?_;obtain rfl:=N _ I;exact eM C Y (RV.tmp Y) (.cons Y (.cons Y .nil))
  refine aE ?_;refine aZ ?_;refine dT [6,7,8] ?_;cases h;exact cE (aC [])
 cases h;exact cY (dK (aC []))
theorem pC(A:Nat->Nat){XG XP u r}(h:fZ XG XP u=some r):
 XA Tryz.prog 209 [.ptr 9000 0,.v (Wr.int .u8) u] [(9000,.box 188 [.v Q0 XG,.v Q2 XP] (some (A 9000)))] (.v Q9 r.1) [(9000,.box 188 [.v Q0 r.2.1,.v Q2 r.2.2] (some (A 9000)))]:=by
 refine XA.of Tryz.func209 Y Tryz.ntmps209 Y ?_;intro S w R B;unfold fZ at h;refine aJ (.k (Jq 101 Y Y) (.k (cL 102 Y sO Y) (.f [0,2,3] ?_)));refine BT (i:=101) Y fun z=>?_;refine wV (O':=⟨[(0,.ptr 9000 0),(2,.ptr 101 0),(3,.ptr 102 0)],[(9000,.box 188 [.v Q0 XG,.v Q2 XP] (some (A 9000))),(101,.box 74 [.ptr 9000 0] (some (z))),(102,.box 5 [.v (Wr.int .u8) u])]⟩) (aC []) ?_;obtain⟨G,F,h⟩:=aA h;refine aJ (.sub (O':=⟨[(0,.ptr 9000 0),(2,.ptr 101 0),(3,.ZH (Wr.int .u8) u)],[(9000,.box 188 [.v Q0 XG,.v Q2 XP] (some (A 9000))),(101,.box 74 [.ptr 9000 0] (some (z)))]⟩) (Sw.Sub.mk id (.cons Y (.of_eq Y) (.cons Y (.of_eq Y) (.cons Y (.C5 Y Y (.cons (.of_eq Y) .nil) sO) .nil))) (.box Y (.cons (.of_eq Y) (.cons (.of_eq Y) .nil)) (.box Y (.cons (.of_eq Y) .nil) .nil)) Y) (.k (oD .nil (.cons (.B0 Y Y) (.ZH Y)) (.l .self)) (.k (aI Y Y Y Ox Iz) (.k (oD (.B0 Y Y) .nil (.r .self)) (.k (dN (e:=(iH (A 9000) (z))) Xx QH UN Y Y Y Y (.cons (.dir Y) (.cons (.dir Y) .nil))) (.t (Jr (H:=[9000,101]) (K:=[9000,101]) [(9000,A 9000),(9100,z)] (Cf [(9000,9000),(9100,101)]) (eW _) ⟨⟨_,_,Y⟩,⟨_,_,Y⟩,trivial⟩ (XA.at2 (ss:=fun C D=>[.v (Wr.sl (iH C D)) ([(.inl ((),((),u)):dM),(.inr ((),()):dM)]:(List dM))]) (A 9000) z (fun E=>uI E F)) Tryz.call205 (.cons (.dir Y) .nil) (fun _=> .box Y (.box Y .nil)) (fun _=> .box Y (.box Y .nil Y) Y) (fun _=>rfl) Y Y (fun _=>rfl) Y Y) (.f [0,4] ?_)))))));cases h;exact aH (eM B Y (RV.tmp Y) (.cons Y .nil))
theorem xJ(A:Nat->Nat){YY u3 r}(h:mQ YY u3=some r):
 XA Tryz.prog 208 [.ptr 9100 0] [(9000,.box 188 [.v Q0 YY,.v Q2 u3] (some (A 9000))),(9100,.box 74 [.ptr 9000 0] (some (A 9100)))] (.v Q9 r.1) [(9000,.box 188 [.v Q0 r.2.1,.v Q2 r.2.2] (some (A 9000))),(9100,.box 74 [.ptr 9000 0] (some (A 9100)))]:=by
 refine XA.of Tryz.func208 Y Tryz.ntmps208 Y ?_;intro S w R u;unfold mQ at h;refine aL [0] ?_;obtain⟨B,z,h⟩:=aA h;refine aJ (.a 1 ?_);refine .t (eN [9000] (Cf [(9000,9000)]) (eW _) (fun A=>pC A z) Tryz.call209 (fun A=>(.box Y .nil Y))) (.f [0,1] ?_);cases h;exact aH (eM u Y (RV.tmp Y) (.cons Y (.cons Y .nil)))
theorem yA(A:Nat->Nat){q n0 n1 r}(h:nJ q n0 n1=some r):
 XD Tryz.prog [(9000,A 9000),(9100,A 9100)] (gH (A 9000) (A 9100)) q [(9000,.box 188 [.v Q0 n0,.v Q2 n1] (some (A 9000))),(9100,.box 74 [.ptr 9000 0] (some (A 9100)))] (.v Q9 r.1) [(9000,.box 188 [.v Q0 r.2.1,.v Q2 r.2.2] (some (A 9000))),(9100,.box 74 [.ptr 9000 0] (some (A 9100)))]:=by
 unfold nJ at h;rcases q with z | z | z
 ·exact(XD.l (XD.R4 (.B0 (i:=9000) (by simp)) .nil Tryz.call206 (tH A h)))
 ·exact(XD.r (XD.l (XD.R4 (.B0 (i:=9000) (by simp)) .nil PE (kG A h))))
 ·exact(XD.r (XD.r (XD.R4 .nil (.B0 (i:=9100) (by simp)) Tryz.call208 (xJ A h))))
theorem tI(A:Nat->Nat){u YY u3 r}(h:jB u YY u3=some r):
 XA Tryz.prog 205 [.v (Wr.sl (gH (A 9000) (A 9100))) u] [(9000,.box 188 [.v Q0 YY,.v Q2 u3] (some (A 9000))),(9100,.box 74 [.ptr 9000 0] (some (A 9100)))] (.v Q9 r.1) [(9000,.box 188 [.v Q0 r.2.1,.v Q2 r.2.2] (some (A 9000))),(9100,.box 74 [.ptr 9000 0] (some (A 9100)))]:=by
 refine XA.of Tryz.func205 Y Tryz.ntmps205 Y ?_;intro S w R C;unfold jB at h;refine aL [0] ?_;refine cU [6,7,8] ?_;obtain⟨Q,L,M,N⟩:=cF h;refine jD (σs:=fun z:Int×Int×Ca=>⟨[(6,.v (Wr.sl (gH (A 9000) (A 9100))) u),(7,.v Q0 (u.length:Int)),(8,.v Q0 z.1)],[(9000,.box 188 [.v Q0 z.2.1,.v Q2 z.2.2] (some (A 9000))),(9100,.box 74 [.ptr 9000 0] (some (A 9100)))]⟩) (fun B:Int×Ca=>⟨[],[(9000,.box 188 [.v Q0 B.1,.v Q2 B.2] (some (A 9000))),(9100,.box 74 [.ptr 9000 0] (some (A 9100)))]⟩) L (aC []) ?_ ?_
 ·intro B D;have h:=M _ D;refine aL [2] ?_;cases h;exact aH (eM C Y (RV.tmp Y) (.cons Y (.cons Y .nil)))
 intro z P h;refine aL [6,7,8,9] ?_;refine aF ?_;refine aU h Y (fun E h=>?_) (fun E h=>?_)
 ·refine aE ?_;refine aF ?_;refine bR ?_;obtain⟨T,U,h⟩:=aA h;refine aL [4,6,7,8] ?_;obtain⟨V,O,h⟩:=aA h;refine aJ (.a 1 ?_);refine .t (Nl (H:=[9000,9100]) (K:=[9000,9100]) [(9000,A 9000),(9100,A 9100)] (Cf [(9000,9000),(9100,9100)]) (eW _) Y ⟨⟨_,_,Y⟩,⟨_,_,Y⟩,trivial⟩ (XD.at2 (e:=gH) (A 9000) (A 9100) (fun F=>yA F O)) (fun _=> .box Y (.box Y .nil)) (fun _=> .box Y (.box Y .nil Y) Y) (fun _=>rfl) Y Y (fun _=>rfl) Y Y) (.f [5,6,7,8] ?_);refine aL [5,6,7,8,15] ?_;refine aU h Y (fun G h=>?_) (fun G h=>?_)
  ·refine aL [2] ?_;refine aH ?_;refine eK ?_;cases h;refine gD fun I=>?_;obtain rfl:=N _ I;exact eM C Y (RV.tmp Y) (.cons Y (.cons Y .nil))
  refine aE ?_;refine aZ ?_;refine dT [6,7,8] ?_;cases h;exact cE (aC [])
 cases h;exact cY (dK (aC []))
theorem yO(A:Nat->Nat){XG XP r}(h:iY XG XP=some r):
 XA Tryz.prog 161 [.ptr 9000 0] [(9000,.box 188 [.v Q0 XG,.v Q2 XP] (some (A 9000)))] (.v Q9 r.1) [(9000,.box 188 [.v Q0 r.2.1,.v Q2 r.2.2] (some (A 9000)))]:=by
 refine XA.of Tryz.func161 Y Tryz.ntmps161 Y ?_;intro S w R C;unfold iY at h;refine aJ (.k (Jq 101 Y Y) (.f [0,1] ?_));refine BT (i:=101) Y fun z=>?_;refine wV (O':=⟨[(0,.ptr 9000 0),(1,.ptr 101 0)],[(9000,.box 188 [.v Q0 XG,.v Q2 XP] (some (A 9000))),(101,.box 74 [.ptr 9000 0] (some (z)))]⟩) (aC []) ?_;refine aF ?_;obtain⟨L,M,h⟩:=aA h;refine eD 16 mixed (by exact(.k (aI Y Y Y Ox Iz) (.k (aK Y) (.k (aB 1 Y wR Y lL Y Y) (.k (aI Y Y Y sI lL) (.k (aI Y Y Y Ox Iz) (.k (aK Y) (.k (aB 0 Y wR Y S3 Y Y) (.k (aI Y Y Y G3 S3) (.k (cZ Y Y Y) (.k (aN (qN M) GF (.cons (.dir Y) (.cons (.dir Y) .nil))) (.k (aD Y) (.k (bW Y Y) (.k (bW Y Y) (.k (aO 103 Cb Y (.cons (Z.arr 8 (Z.int .u8)) .nil) Y) (ZA.store (.none Y) Y Y Y Y Y Y Y kW (.k (bN Y) .nil))))))))))))))))) (by exact(J.kp [0,1,3,4] [])) ?_;refine aF ?_;refine aF ?_;obtain⟨N,u,h⟩:=aA h;refine eH (O':=⟨[(0,.ptr 9000 0),(1,.ptr 101 0),(4,.v Q9 L.2),(24,.v Wr.bool N)],[(9000,.box 188 [.v Q0 XG,.v Q2 XP] (some (A 9000))),(101,.box 74 [.ptr 9000 0] (some (z)))]⟩) ?_ ?_
 ·refine cd u (fun B u=>?_) (fun B u=>?_)
  ·cases u;exact jy
  obtain⟨P,D,u⟩:=aA u;cases u;refine ja 3 ?_;exact(J.g B (rR D Y Y Y Y vG S5) (J.g B (vL (dL D).2.2 Y Y Y G5 S5) jy))
 refine aU h Y (fun E h=>?_) (fun E h=>?_)
 ·refine aL [0,2] ?_;cases h;exact aH (eM C Y (RV.tmp Y) (.cons Y .nil))
 refine aE ?_;obtain⟨Q,O,h⟩:=aA h;refine aJ (.a 1 ?_);refine .k (oD (.B0 Y Y) .nil (.l .self)) (.k (aI Y Y Y Ox Iz) (.k (oD (.B0 Y Y) .nil (.r (.l .self))) (.k (oD .nil (.B0 Y Y) (.r (.r .self))) (.k (dN (e:=(gH (A 9000) (z))) Xx QH UN Y Y Y Y (.cons (.dir Y) (.cons (.dir Y) (.cons (.dir Y) .nil)))) (.t (Jr (H:=[9000,101]) (K:=[9000,101]) [(9000,A 9000),(9100,z)] (Cf [(9000,9000),(9100,101)]) (eW _) ⟨⟨_,_,Y⟩,⟨_,_,Y⟩,trivial⟩ (XA.at2 (ss:=fun F G=>[.v (Wr.sl (gH F G)) ([(.inl ((),()):dJ),(.inr (.inl ((),())):dJ),(.inr (.inr ((),())):dJ)]:(List dJ))]) (A 9000) z (fun I=>tI I O)) Tryz.call205 (.cons (.dir Y) .nil) (fun _=> .box Y (.box Y .nil)) (fun _=> .box Y (.box Y .nil Y) Y) (fun _=>rfl) Y Y (fun _=>rfl) Y Y) (.f [0,2] ?_))))));cases h;exact aH (eM C Y (RV.tmp Y) (.cons Y .nil))
def yB(r:Um×(Option Int)):Slot:=match r.1 with | none=> .XU [.v (Wr.G1 (Wr.pr Q0 Q2)) (none:Um),.v Q9 r.2] | some z=> .XU [.ptr 0 0,.v Q9 r.2]
def yC(r:Um×(Option Int)):List (Nat×XB):=match r.1 with | none=>[] | some z=>[(0,.box 188 [.v Q0 z.1,.v Q2 z.2])]
theorem Ef{z C r}(h:mZ z C=some r):
 XL Tryz.prog 101 [.v Q2 z,.v Q0 C] (yB r) (yC r):=by
 refine XL.of Tryz.func101 Y Tryz.ntmps101 Y ?_;intro S w B;unfold mZ at h;refine aJ (.k (cL 101 Y s3 Y) (.k (kC (Wr.pr Q0 Q2)) (.f [1,2] ?_)));obtain⟨O,I,h⟩:=aA h;refine aJ (.a 1 ?_);refine .k (aN (Ed I) Tryz.call158 (.cons (.dir Y) .nil)) (.f [1,2,6,7] ?_);refine cU [1,2,6,7,17] ?_;refine aU h Y (fun D h=>?_) (fun D h=>?_)
 ·refine aJ (.a 1 ?_);refine .k (kC (Wr.pr Q0 Q2)) (.f [4,5] ?_);cases h;exact aH (bS B dU Y (RV.tmp Y) (RV.tmp Y) .nil Y)
 refine aE ?_;obtain⟨P,K,h⟩:=aA h;refine jQ (.k (aT Y Y s3 sI lL) (.k (aN (uX K) PD (.cons (.dir Y) .nil)) (.f [1,2,6,8] ?_)));refine aF ?_;obtain⟨L,u,h⟩:=aA h;refine eH (O':=⟨[(1,.v Q0 C),(2,.ptr 101 0),(35,.v Wr.bool L)],[(101,.box 186 [.v Q5 z.1,.v Q1 z.2.1,.v Q0 z.2.2])]⟩) ?_ ?_
 ·refine cd u (fun E u=>?_) (fun E u=>?_)
  ·cases u;exact jy
  refine cd u (fun F u=>?_) (fun F u=>?_)
  ·cases u;exact jy
  cases u;exact jy
 refine aU h Y (fun G h=>?_) (fun G h=>?_)
 ·refine aJ (.a 1 ?_);refine .k (kC (Wr.pr Q0 Q2)) (.f [4,5] ?_);cases h;exact aH (bS B dU Y (RV.tmp Y) (RV.tmp Y) .nil Y)
 refine aE ?_;refine aF ?_;obtain⟨Q,M,h⟩:=aA h;refine eD 10 mixed (by exact(.k (aD Y) (.k (aB 0 Y Lq Y yL Y Y) (.k (aI Y Y Y Uo yL) (.k (Qx (fP 105000 (cQ M) AJ (.cons (.dir Y) .nil) Y) (fun _=>(Sw.Sub.mk id (.cons Y (.N1 Y Y) .nil) .nil Y)) Y) (.k (aB 2 Y Lq Y S3 Y Y) (.k (aI Y Y Y G3 S3) (.k (bQ rN (.cons (Z.sl aM) (.cons (Z.sl gK) (.cons zI .nil))) (.cons Y (.dir Y) Y Y Y Y (.cons Y (.dir Y) Y Y Y Y .nil))) (.k (bQ LR (.cons zI (.cons (Z.pr (Z.sl aM) (Z.pr (Z.sl gK) zI)) .nil)) (.cons Y (.dir Y) Y Y Y Y (.cons Y (.agg Y (.same (.same (.same .nil))) s3 Y) Y Y Y Y .nil))) (.k (zY 106 Y Y) (.k (bN Y) .nil))))))))))) (by exact(J.kp [9] [])) ?_;obtain⟨R,N,h⟩:=aA h;refine jQ (.a 1 ?_);refine .t (eN [106] (Cf [(9000,106)]) (eW _) (fun A=>yO A N) Tryz.call161 (fun A=>(.box Y .nil Y))) (.f [9,10] ?_);refine aL [9,10,49] ?_;refine aU h Y (fun H h=>?_) (fun H h=>?_)
 ·refine aJ (.a 1 ?_);refine .k (kC (Wr.pr Q0 Q2)) (.f [4,5] ?_);cases h;exact aH (bS B dU Y (RV.tmp Y) (RV.tmp Y) .nil Y)
 refine aE ?_;refine aL [4,5] ?_;cases h;exact aH (wX B dU Y (aC [(0,106)]))
theorem Ao{u:Ca}{z:Int}{r:Um×(Option Int)}(hz:r.1=none)(h:mZ u z=some r):XL Tryz.prog 101 [.v Q2 u,.v Q0 z] (.XU [.v (Wr.G1 (Wr.pr Q0 Q2)) (none:Um),.v Q9 r.2]) []:=by
 have:=Ef h;unfold yB yC at this;rw[hz] at this;exact this
theorem Ap{u:Ca}{A:Int}{r:Um×(Option Int)}{z:(Int×Ca)}(hz:r.1=some z)(h:mZ u A=some r):XL Tryz.prog 101 [.v Q2 u,.v Q0 A] (.XU [.ptr 0 0,.v Q9 r.2]) [(0,.box 188 [.v Q0 z.1,.v Q2 z.2])]:=by
 have:=Ef h;unfold yB yC at this;rw[hz] at this;exact this
def vO(r:Um×(Option Int)):Slot:=match r.1 with | none=> .XU [.v (Wr.G1 (Wr.pr Q0 Q2)) (none:Um),.v Q9 r.2] | some z=> .XU [.ptr 0 0,.v Q9 r.2]
def vP(r:Um×(Option Int)):List (Nat×XB):=match r.1 with | none=>[] | some z=>[(0,.box 188 [.v Q0 z.1,.v Q2 z.2])]
theorem Aq{z r}(h:jG z=some r):
 XL Tryz.prog 69 [.v Q0 z] (vO r) (vP r):=by
 refine XL.of Tryz.func69 Y Tryz.ntmps69 Y ?_;intro S w u;unfold jG at h;refine aJ (.k (kC (Wr.pr Q0 Q2)) (.f [0] ?_));obtain⟨E,C,h⟩:=aA h;refine aJ (.a 1 ?_);refine .k (aN (Kh C) Tryz.call100 (.cons (.dir Y) .nil)) ?_;refine .a 3 ?_;refine .k (aO 102 Ue Y (.cons (Z.sl aM) (.cons (Z.sl gK) (.cons zI .nil))) Y) (.t (bT Y Y Y Y s3 lL) (.f [0,4,5] ?_));refine cU [0,4,5,12] ?_;refine aU h Y (fun B h=>?_) (fun B h=>?_)
 ·refine aJ (.a 1 ?_);refine .k (kC (Wr.pr Q0 Q2)) (.f [2,3] ?_);cases h;exact aH (bS u dU Y (RV.tmp Y) (RV.tmp Y) .nil Y)
 refine aE ?_;refine aF ?_;obtain⟨D,A,h⟩:=aA h;rcases ux:D.1 with _ | F
 ·replace h:=vZ ux h;refine eU (.k (aT Y Y s3 sI lL) ?_);refine .a 1 ?_;refine .k (aN (Ao ux A) OY (.cons (.dir Y) (.cons (.dir Y) .nil))) (.f [2,3] ?_);cases h;exact aH (bS u dU Y (RV.tmp Y) (RV.tmp Y) .nil Y)
 ·replace h:=wA ux h;refine eU (.k (aT Y Y s3 sI lL) ?_);refine .a 1 ?_;refine .k (fP 104000 (Ap ux A) OY (.cons (.dir Y) (.cons (.dir Y) .nil)) Y) (.f [2,3] ?_);cases h;exact aH (wX u dU Y (aC [(0,104000)]))
theorem tV{u:Int}{r:Um×(Option Int)}(hz:r.1=none)(h:jG u=some r):XL Tryz.prog 69 [.v Q0 u] (.XU [.v (Wr.G1 (Wr.pr Q0 Q2)) (none:Um),.v Q9 r.2]) []:=by
 have:=Aq h;unfold vO vP at this;rw[hz] at this;exact this
theorem tW{u:Int}{r:Um×(Option Int)}{z:(Int×Ca)}(hz:r.1=some z)(h:jG u=some r):XL Tryz.prog 69 [.v Q0 u] (.XU [.ptr 0 0,.v Q9 r.2]) [(0,.box 188 [.v Q0 z.1,.v Q2 z.2])]:=by
 have:=Aq h;unfold vO vP at this;rw[hz] at this;exact this
theorem pD{z r}(h:gA z=some r):
 XL Tryz.prog 162 [.ZH (Wr.pr Q0 Q2) z] (.XU [.v Q0 r.1,.v Q0 r.2.1,.v Q9 r.2.2]) []:=by
 refine XL.of Tryz.func162 Y Tryz.ntmps162 Y ?_;intro S w A;unfold gA at h;refine aL [0] ?_;refine aF ?_;obtain⟨u,D,h⟩:=aA h;refine eD 15 mixed (by exact(.k (aD Y) (.k (rT Y) (.k (fC Y wR Y lL Y (.snd .here) Y) (.k (cG Y sI lL) (.k (aD Y) (.k (rT Y) (.k (fC Y wR Y S3 Y (.fst .here) Y) (.k (cG Y G3 S3) (.k (aN (qN D) GF (.cons (.dir Y) (.cons (.dir Y) .nil))) (.k (aD Y) (.k (bW Y Y) (.k (bW Y Y) (.k (aO 102 Cb Y (.cons (Z.arr 8 (Z.int .u8)) .nil) Y) (ZA.store (.none Y) Y Y Y Y Y Y Y kW (.k (bN Y) .nil)))))))))))))))) (by exact(J.kp [4,5] [])) ?_;refine cU [4,5,19] ?_;refine aU h Y (fun C h=>?_) (fun C h=>?_)
 ·refine aL [2,3,4] ?_;cases h;exact aH (xA A dU Y (RV.tmp Y) (RV.tmp Y) (RV.tmp Y) .nil Y)
 refine aE ?_;refine aF ?_;refine wV (O':=⟨[(4,.v Q9 u.2),(5,.ZH aM u.1),(19,.v Wr.bool (Option.isSome u.2))],[]⟩) (Sw.Sub.mk id (.cons Y (.of_eq Y) (.cons Y (.C5 Y Y (.cons (.of_eq Y) .nil) sO) (.cons Y (.of_eq Y) .nil))) .nil Y) ?_;obtain⟨K,E,h⟩:=aA h;obtain⟨L,B,h⟩:=aA h;obtain⟨M,F,h⟩:=aA h;obtain⟨N,G,h⟩:=aA h;obtain⟨O,H,h⟩:=aA h;obtain⟨P,I,h⟩:=aA h;refine eD 11 mixed (by exact(.k (cG Y uW kW) (.k (aN (tM E) PF (.cons (.dir Y) .nil)) (.k (Za B Y Y Y vG S5) (.k (Ra F Y Y Y vG S5) (.k (Ly G (BU B) Y (.sl Y) tU I5 S5 Y Y Y) (.k (Es H Y vG) (.k (cG Y uW kW) (.k (aN (tM I) PF (.cons (.dir Y) .nil)) (.k (bN Y) (.k (bN Y) (.k (zM ET) .nil)))))))))))) (by exact(J.kp [2,3,4] [])) ?_;cases h;exact aH (xA A dU Y (RV.tmp Y) (RV.tmp Y) (RV.tmp Y) .nil Y)
theorem zQ{A B r}(h:jH A B=some r):
 XL Tryz.prog 211 [.v gK A,.ZH (Wr.G1 (Wr.pr Q0 Q2)) B] (.v Wr.bool r) []:=by
 refine XL.of Tryz.func211 Y Tryz.ntmps211 Y ?_;intro S w D;unfold jH at h;refine aJ (.k (cL 101 Y s2 Y) (.f [1,2] ?_));refine aF ?_;obtain⟨E,z,h⟩:=aA h;refine Jj (O':=⟨[(3,.v Wr.bool E)],[]⟩) ?_ ?_
 ·intro C;refine cd z (fun u z=>?_) (fun u z=>?_)
  ·cases z;exact sQ 13 mixed C
  obtain⟨G,F,z⟩:=aA z;cases z;exact eD 13 mixed (by exact(.k (aB 0 Y Oy Y S3 Y Y) (.k (aI Y Y Y G3 S3) (.k (jU Y Y Y) (.k (aD Y) (.g u (aB 0 Y Oy Y S3 Y Y) (.g u (aI Y Y Y G3 S3) (.g u (cG Y Ox Iz) (.g u (Jo F Y) (.g u (fC Y wR Y S3 Y (.fst .here) Y) (.g u (cG Y G3 S3) (.g u (jU Y Y Y) (.k (uN u Y Y) (.k (bN Y) .nil)))))))))))))) (by exact(J.fin (aC []))) C
 cases h;exact aH (aW D dU Y (RV.tmp Y) .nil Y)
theorem kA{u YY r}(h:cS u YY=some r):
 XL Tryz.prog 247 [.v Q1 u,.o7 211 [.ZH (Wr.G1 (Wr.pr Q0 Q2)) YY]] (.v Q0 r) []:=by
 refine XL.of Tryz.func247 Y Tryz.ntmps247 Y ?_;intro S w z;unfold cS at h;refine aL [0,1] ?_;refine cU [0,1,7,8] ?_;obtain⟨M,G,H,I⟩:=cF h;refine jD (σs:=fun A:Int=>⟨[(0,.v Q1 u),(1,.o7 211 [.ZH (Wr.G1 (Wr.pr Q0 Q2)) YY]),(7,.v Q0 (u.length:Int)),(8,.v Q0 A)],[]⟩) (fun B:Unit=>⟨[],[]⟩) G (aC []) ?_ ?_
 ·intro B C;have h:=H _ C;refine aL [4] ?_;cases h;exact aH (aW z dU Y (RV.tmp Y) .nil Y)
 intro A L h;refine aL [0,1,7,8,9] ?_;refine aF ?_;refine aU h Y (fun D h=>?_) (fun D h=>?_)
 ·refine aE ?_;refine aF ?_;refine bR ?_;refine aL [0,1,5,7,8] ?_;obtain⟨N,O,h⟩:=aA h;obtain⟨P,K,h⟩:=aA h;refine aJ (.a 5 ?_);refine .k (tZ Y (zQ K) Tryz.call211 (.cons (.dir Y) .nil)) (.f [0,1,5,7,8,16] ?_);refine aU h Y (fun E h=>?_) (fun E h=>?_)
  ·refine aL [4] ?_;refine aH ?_;refine eK ?_;cases h;refine gD fun F=>?_;obtain rfl:=I _ F;exact aW z dU Y (RV.tmp Y) .nil Y
  refine aE ?_;refine aZ ?_;refine dT [0,1,7,8] ?_;cases h;exact cE (aC [])
 cases h;exact cY (dK (aC []))
theorem jR{u YY r}(h:bZ u YY=some r):
 XL Tryz.prog 203 [.v Q1 u,.o7 211 [.ZH (Wr.G1 (Wr.pr Q0 Q2)) YY]] (.v Wr.bool r) []:=by
 refine XL.of Tryz.func203 Y Tryz.ntmps203 Y ?_;intro S w z;unfold bZ at h;refine aL [0,1] ?_;obtain⟨B,A,h⟩:=aA h;refine aJ (.a 2 ?_);refine .k (aN (kA A) Tryz.call247 (.cons (.dir Y) (.cons (.dir Y) .nil))) (.f [4] ?_);cases h;exact aH (aW z dU Y (RV.tmp Y) .nil Y)
theorem sJ{u r}(h:kK u=some r):
 XL Tryz.prog 212 [.v Q0 u] (.v aM r) []:=by
 refine XL.of Tryz.func212 Y Tryz.ntmps212 Y ?_;intro S w z;unfold kK at h;refine aJ (.k (aO 101 Cb Y (.cons (Z.arr 8 (Z.int .u8)) .nil) Y) (.f [0,2] ?_));refine aJ (.a 1 ?_);refine .k (fF (.inr Y) (by decide) Y Y) ?_;refine .a 2 ?_;refine .k (fF (.inr Y) (by decide) Y Y) ?_;refine .a 2 ?_;refine .k (fF (.inr Y) (by decide) Y Y) ?_;refine .a 3 ?_;refine .k (Nh (e:=(Wr.int .u8)) (zv:=(0:Int)) An vG I5 Y Y (Z.arr 8 (Z.int .u8)) Y Y (.cons (.dir Y) (.cons (.dir Y) (.cons (.dir Y) (.cons (.dir Y) .nil))))) (.f [2] ?_);refine aH ?_;obtain rfl:=pT h;exact cB (O':=⟨[(2,.ptr 90 0)],[(90,.box 30 [.v aM ([(IntKind.wrap .u8 (sh .shr .i64 u (24:Int))),(IntKind.wrap .u8 (sh .shr .i64 u (16:Int))),(IntKind.wrap .u8 (sh .shr .i64 u (8:Int))),(IntKind.wrap .u8 u)]++List.replicate 4 (0:Int):aR)])]⟩) (aC [(90,101)]) (aW z dU Y (cO Y Y Y uW kW) .nil Y)
theorem xK(A:Nat->Nat){u di iq r}(h:gX u di iq=some r):
 XA Tryz.prog 214 [.ptr 9100 0,.ZH Q1 u] [(9000,.box 188 [.v Q0 di,.v Q2 iq] (some (A 9000))),(9100,.box 74 [.ptr 9000 0] (some (A 9100)))] (.v Q9 r.1) [(9000,.box 188 [.v Q0 r.2.1,.v Q2 r.2.2] (some (A 9000))),(9100,.box 74 [.ptr 9000 0] (some (A 9100)))]:=by
 refine XA.of Tryz.func214 Y Tryz.ntmps214 Y ?_;intro S w R z;unfold gX at h;refine aL [0,1] ?_;refine aF ?_;obtain⟨D,B,h⟩:=aA h;obtain⟨E,C,h⟩:=aA h;refine eD 9 mixed (by exact(.k (aI Y Y Y Ox Iz) (.k (aI Y Y Y Ox Iz) (.k (aK Y) (.k (aB 0 Y wR Y S3 Y Y) (.k (aI Y Y Y G3 S3) (.k (cZ Y Y Y) (.k (cG Y GU Ja) (.k (tQ Y yM) (.k (aN (sJ B) PG (.cons (.dir Y) .nil)) .nil)))))))))) (by exact(J.t (eN [9000] (Cf [(9000,9000)]) (eW _) (fun A=>iP A C) LJ (fun A=>(.box Y .nil Y))) (jz [0,2]))) ?_;cases h;exact aH (eM z Y (RV.tmp Y) (.cons Y (.cons Y .nil)))
theorem xL(A:Nat->Nat){u z dh im r}(h:gY u z dh im=some r):
 XA Tryz.prog 216 [.ptr 9100 0,.ZH Q0 u,.ZH gK z] [(9000,.box 188 [.v Q0 dh,.v Q2 im] (some (A 9000))),(9100,.box 74 [.ptr 9000 0] (some (A 9100)))] (.v Q9 r.1) [(9000,.box 188 [.v Q0 r.2.1,.v Q2 r.2.2] (some (A 9000))),(9100,.box 74 [.ptr 9000 0] (some (A 9100)))]:=by
 refine XA.of Tryz.func216 Y Tryz.ntmps216 Y ?_;intro S w R B;unfold gY at h;refine aL [0,1,2] ?_;refine aF ?_;obtain⟨E,C,h⟩:=aA h;obtain⟨F,D,h⟩:=aA h;refine eD 12 mixed (by exact(.k (aI Y Y Y Ox Iz) (.k (aI Y Y Y Ox Iz) (.k (aK Y) (.k (aB 0 Y wR Y S3 Y Y) (.k (aI Y Y Y G3 S3) (.k (cZ Y Y Y) (.k (cG Y G3 S3) (.k (cZ Y Y Y) (.k (cZ Y Y Y) (.k (fC Y Oy Y S3 Y (.fst .here) Y) (.k (cG Y G3 S3) (.k (aN (sJ C) PG (.cons (.dir Y) .nil)) .nil))))))))))))) (by exact(J.t (eN [9000] (Cf [(9000,9000)]) (eW _) (fun A=>iP A D) LJ (fun A=>(.box Y .nil Y))) (jz [0,3]))) ?_;cases h;exact aH (eM B Y (RV.tmp Y) (.cons Y (.cons Y .nil)))
theorem xM(A:Nat->Nat){u z dh im r}(h:gZ u z dh im=some r):
 XA Tryz.prog 217 [.ptr 9100 0,.ZH Q0 u,.ZH gK z] [(9000,.box 188 [.v Q0 dh,.v Q2 im] (some (A 9000))),(9100,.box 74 [.ptr 9000 0] (some (A 9100)))] (.v Q9 r.1) [(9000,.box 188 [.v Q0 r.2.1,.v Q2 r.2.2] (some (A 9000))),(9100,.box 74 [.ptr 9000 0] (some (A 9100)))]:=by
 refine XA.of Tryz.func217 Y Tryz.ntmps217 Y ?_;intro S w R B;unfold gZ at h;refine aL [0,1,2] ?_;refine aF ?_;obtain⟨D,C,h⟩:=aA h;refine eD 11 mixed (by exact(.k (aI Y Y Y Ox Iz) (.k (aI Y Y Y Ox Iz) (.k (aK Y) (.k (aB 0 Y wR Y S3 Y Y) (.k (aI Y Y Y G3 S3) (.k (cZ Y Y Y) (.k (cG Y G3 S3) (.k (cZ Y Y Y) (.k (cZ Y Y Y) (.k (fC Y Oy Y kW Y (.snd .here) Y) (.k (cG Y uW kW) .nil)))))))))))) (by exact(J.t (eN [9000] (Cf [(9000,9000)]) (eW _) (fun A=>iP A C) LJ (fun A=>(.box Y .nil Y))) (jz [0,3]))) ?_;cases h;exact aH (eM B Y (RV.tmp Y) (.cons Y (.cons Y .nil)))
theorem xN(A:Nat->Nat){YY u3 r}(h:hC YY u3=some r):
 XA Tryz.prog 218 [.ptr 9100 0] [(9000,.box 188 [.v Q0 YY,.v Q2 u3] (some (A 9000))),(9100,.box 74 [.ptr 9000 0] (some (A 9100)))] (.v Q9 r.1) [(9000,.box 188 [.v Q0 r.2.1,.v Q2 r.2.2] (some (A 9000))),(9100,.box 74 [.ptr 9000 0] (some (A 9100)))]:=by
 refine XA.of Tryz.func218 Y Tryz.ntmps218 Y ?_;intro S w R u;unfold hC at h;refine aL [0] ?_;obtain⟨B,z,h⟩:=aA h;refine aJ (.a 1 ?_);refine .t (eN [9000] (Cf [(9000,9000)]) (eW _) (fun A=>pC A z) Tryz.call209 (fun A=>(.box Y .nil Y))) (.f [0,1] ?_);cases h;exact aH (eM u Y (RV.tmp Y) (.cons Y (.cons Y .nil)))
theorem xO(A:Nat->Nat){YY u3 r}(h:hO YY u3=some r):
 XA Tryz.prog 219 [.ptr 9100 0] [(9000,.box 188 [.v Q0 YY,.v Q2 u3] (some (A 9000))),(9100,.box 74 [.ptr 9000 0] (some (A 9100)))] (.v Q9 r.1) [(9000,.box 188 [.v Q0 r.2.1,.v Q2 r.2.2] (some (A 9000))),(9100,.box 74 [.ptr 9000 0] (some (A 9100)))]:=by
 refine XA.of Tryz.func219 Y Tryz.ntmps219 Y ?_;intro S w R u;unfold hO at h;refine aL [0] ?_;obtain⟨B,z,h⟩:=aA h;refine aJ (.a 1 ?_);refine .t (eN [9000] (Cf [(9000,9000)]) (eW _) (fun A=>pC A z) Tryz.call209 (fun A=>(.box Y .nil Y))) (.f [0,1] ?_);cases h;exact aH (eM u Y (RV.tmp Y) (.cons Y (.cons Y .nil)))
theorem yD(A:Nat->Nat){q n0 n1 r}(h:iM q n0 n1=some r):
 XD Tryz.prog [(9000,A 9000),(9100,A 9100)] (bP (A 9000) (A 9100)) q [(9000,.box 188 [.v Q0 n0,.v Q2 n1] (some (A 9000))),(9100,.box 74 [.ptr 9000 0] (some (A 9100)))] (.v Q9 r.1) [(9000,.box 188 [.v Q0 r.2.1,.v Q2 r.2.2] (some (A 9000))),(9100,.box 74 [.ptr 9000 0] (some (A 9100)))]:=by
 unfold iM at h;rcases q with z | z | z | z | z | z | z | z
 ·exact(XD.l (XD.R4 .nil (.pr (.B0 (i:=9100) (by simp)) .pt) Tryz.call214 (xK A h)))
 ·exact(XD.r (XD.l (XD.R4 .nil (.pr (.B0 (i:=9100) (by simp)) (.pr .pt .pt)) Tryz.call216 (xL A h))))
 ·exact(XD.r (XD.r (XD.l (XD.R4 .nil (.pr (.B0 (i:=9100) (by simp)) (.pr .pt .pt)) Tryz.call217 (xM A h)))))
 ·exact(XD.r (XD.r (XD.r (XD.l (XD.R4 (.B0 (i:=9000) (by simp)) .nil PE (kG A h))))))
 ·exact(XD.r (XD.r (XD.r (XD.r (XD.l (XD.R4 .nil (.B0 (i:=9100) (by simp)) Tryz.call218 (xN A h)))))))
 ·exact(XD.r (XD.r (XD.r (XD.r (XD.r (XD.l (XD.R4 (.B0 (i:=9000) (by simp)) .nil Tryz.call206 (tH A h))))))))
 ·exact(XD.r (XD.r (XD.r (XD.r (XD.r (XD.r (XD.l (XD.R4 (.B0 (i:=9000) (by simp)) .nil PE (kG A h)))))))))
 ·exact(XD.r (XD.r (XD.r (XD.r (XD.r (XD.r (XD.r (XD.R4 .nil (.B0 (i:=9100) (by simp)) Tryz.call219 (xO A h)))))))))
theorem tJ(A:Nat->Nat){u YY u3 r}(h:eV u YY u3=some r):
 XA Tryz.prog 205 [.v (Wr.sl (bP (A 9000) (A 9100))) u] [(9000,.box 188 [.v Q0 YY,.v Q2 u3] (some (A 9000))),(9100,.box 74 [.ptr 9000 0] (some (A 9100)))] (.v Q9 r.1) [(9000,.box 188 [.v Q0 r.2.1,.v Q2 r.2.2] (some (A 9000))),(9100,.box 74 [.ptr 9000 0] (some (A 9100)))]:=by
 refine XA.of Tryz.func205 Y Tryz.ntmps205 Y ?_;intro S w R C;unfold eV at h;refine aL [0] ?_;refine cU [6,7,8] ?_;obtain⟨Q,L,M,N⟩:=cF h;refine jD (σs:=fun z:Int×Int×Ca=>⟨[(6,.v (Wr.sl (bP (A 9000) (A 9100))) u),(7,.v Q0 (u.length:Int)),(8,.v Q0 z.1)],[(9000,.box 188 [.v Q0 z.2.1,.v Q2 z.2.2] (some (A 9000))),(9100,.box 74 [.ptr 9000 0] (some (A 9100)))]⟩) (fun B:Int×Ca=>⟨[],[(9000,.box 188 [.v Q0 B.1,.v Q2 B.2] (some (A 9000))),(9100,.box 74 [.ptr 9000 0] (some (A 9100)))]⟩) L (aC []) ?_ ?_
 ·intro B D;have h:=M _ D;refine aL [2] ?_;cases h;exact aH (eM C Y (RV.tmp Y) (.cons Y (.cons Y .nil)))
 intro z P h;refine aL [6,7,8,9] ?_;refine aF ?_;refine aU h Y (fun E h=>?_) (fun E h=>?_)
 ·refine aE ?_;refine aF ?_;refine bR ?_;obtain⟨T,U,h⟩:=aA h;refine aL [4,6,7,8] ?_;obtain⟨V,O,h⟩:=aA h;refine aJ (.a 1 ?_);refine .t (Nl (H:=[9000,9100]) (K:=[9000,9100]) [(9000,A 9000),(9100,A 9100)] (Cf [(9000,9000),(9100,9100)]) (eW _) Y ⟨⟨_,_,Y⟩,⟨_,_,Y⟩,trivial⟩ (XD.at2 (e:=bP) (A 9000) (A 9100) (fun F=>yD F O)) (fun _=> .box Y (.box Y .nil)) (fun _=> .box Y (.box Y .nil Y) Y) (fun _=>rfl) Y Y (fun _=>rfl) Y Y) (.f [5,6,7,8] ?_);refine aL [5,6,7,8,15] ?_;refine aU h Y (fun G h=>?_) (fun G h=>?_)
  ·refine aL [2] ?_;refine aH ?_;refine eK ?_;cases h;refine gD fun I=>?_;obtain rfl:=N _ I;exact eM C Y (RV.tmp Y) (.cons Y (.cons Y .nil))
  refine aE ?_;refine aZ ?_;refine dT [6,7,8] ?_;cases h;exact cE (aC [])
 cases h;exact cY (dK (aC []))
theorem iA(A:Nat->Nat){XG XP D E F r}(h:dA XG XP D E F=some r):
 XA Tryz.prog 163 [.ptr 9000 0,.v Q1 D,.v Q0 E,.v Q0 F] [(9000,.box 188 [.v Q0 XG,.v Q2 XP] (some (A 9000)))] (.v Q9 r.1) [(9000,.box 188 [.v Q0 r.2.1,.v Q2 r.2.2] (some (A 9000)))]:=by
 refine XA.of Tryz.func163 Y Tryz.ntmps163 Y ?_;intro S w R G;unfold dA at h;refine aJ (.k (Jq 101 Y Y) (.f [0,1,2,3,4] ?_));refine BT (i:=101) Y fun u=>?_;refine wV (O':=⟨[(0,.ptr 9000 0),(1,.v Q1 D),(2,.v Q0 E),(3,.v Q0 F),(4,.ptr 101 0)],[(9000,.box 188 [.v Q0 XG,.v Q2 XP] (some (A 9000))),(101,.box 74 [.ptr 9000 0] (some (u)))]⟩) (aC []) ?_;refine cU [0,1,2,3,4,21] ?_;refine aU h Y (fun V h=>?_) (fun V h=>?_)
 ·refine aL [0,8] ?_;cases h;exact aH (eM G Y (RV.tmp Y) (.cons Y .nil))
 refine aE ?_;refine aF ?_;refine aF ?_;obtain⟨x6,z,h⟩:=aA h;refine eH (O':=⟨[(0,.ptr 9000 0),(1,.v Q1 D),(2,.v Q0 E),(3,.v Q0 F),(4,.ptr 101 0),(37,.v Wr.bool x6)],[(9000,.box 188 [.v Q0 XG,.v Q2 XP] (some (A 9000))),(101,.box 74 [.ptr 9000 0] (some (u)))]⟩) ?_ ?_
 ·refine cd z (fun I z=>?_) (fun I z=>?_)
  ·cases z;refine ja 2 ?_;exact(J.k (yX Y Y) jy)
  refine cd z (fun L z=>?_) (fun L z=>?_)
  ·cases z;refine ja 2 ?_;refine(J.k (yX Y Y) ?_);refine ja 4 ?_;exact(J.g I (Bi Y Y) jy)
  obtain⟨v9,je,z⟩:=aA z;cases z;refine ja 2 ?_;refine(J.k (yX Y Y) ?_);refine ja 4 ?_;refine(J.g I (Bi Y Y) ?_);refine ja 4 ?_;exact(J.g L (tY (.cons (.dir Y) .nil)) (AV (GK.met 33 Y Y Y L) (IE (jR je) Tryz.call203 (.cons (.dir Y) (.fn1 Y Y Y s2 .nil)) YZ.v Y) jy))
 refine aU h Y (fun X h=>?_) (fun X h=>?_)
 ·refine aL [0,8] ?_;cases h;exact aH (eM G Y (RV.tmp Y) (.cons Y .nil))
 refine aE ?_;obtain⟨O,mi,h⟩:=aA h;obtain⟨P,bn,h⟩:=aA h;refine aJ (.a 1 ?_);refine .k (aN (sJ mi) PG (.cons (.dir Y) .nil)) ?_;refine .a 1 ?_;refine .k (aN (sJ bn) PG (.cons (.dir Y) .nil)) (.k (aO 106 Cb Y (.cons (Z.arr 8 (Z.int .u8)) .nil) Y) (.k (aO 107 Cb Y (.cons (Z.arr 8 (Z.int .u8)) .nil) Y) (.f [0,1,4,9,10] ?_)));refine aF ?_;refine wV (O':=⟨[(0,.ptr 9000 0),(1,.v Q1 D),(4,.ptr 101 0),(9,.ZH aM O),(10,.ptr 107 0)],[(9000,.box 188 [.v Q0 XG,.v Q2 XP] (some (A 9000))),(101,.box 74 [.ptr 9000 0] (some (u))),(107,.box 30 [.v aM P])]⟩) (Sw.Sub.mk id (.cons Y (.of_eq Y) (.cons Y (.of_eq Y) (.cons Y (.of_eq Y) (.cons Y (.C5 Y Y (.cons (.of_eq Y) .nil) sO) (.cons Y (.of_eq Y) .nil))))) (.box Y (.cons (.of_eq Y) (.cons (.of_eq Y) .nil)) (.box Y (.cons (.of_eq Y) .nil) (.box Y (.cons (.of_eq Y) .nil) .nil))) Y) ?_;refine wV (O':=⟨[(0,.ptr 9000 0),(1,.v Q1 D),(4,.ptr 101 0),(9,.ZH aM O),(10,.ZH aM P)],[(9000,.box 188 [.v Q0 XG,.v Q2 XP] (some (A 9000))),(101,.box 74 [.ptr 9000 0] (some (u)))]⟩) (Sw.Sub.mk id (.cons Y (.of_eq Y) (.cons Y (.of_eq Y) (.cons Y (.of_eq Y) (.cons Y (.of_eq Y) (.cons Y (.C5 Y Y (.cons (.of_eq Y) .nil) sO) .nil))))) (.box Y (.cons (.of_eq Y) (.cons (.of_eq Y) .nil)) (.box Y (.cons (.of_eq Y) .nil) .nil)) Y) ?_;obtain⟨xu,vh,h⟩:=aA h;obtain⟨ai,Q,h⟩:=aA h;obtain⟨aj,vg,h⟩:=aA h;obtain⟨gi,bm,h⟩:=aA h;obtain⟨am,ab,h⟩:=aA h;obtain⟨C,bk,h⟩:=aA h;refine eD 16 mixed (by exact(.k (aD Y) (.k (fP 113000 (eZ vh) LI (.cons (.dir Y) .nil) Y) (.k (aI Y Y Y Ox Iz) (.k (aK Y) (.k (aB 0 Y wR Y S3 Y Y) (.k (aI Y Y Y G3 S3) (.k (EB Q Y Y Y Y vG S5) (.k (Ra vg Y Y Y vG S5) (.k (Ly bm (BU Q) Y (.sl Y) tU I5 S5 Y Y Y) (.k (Es ab Y vG) (.k (cG Y uW kW) (.k (bQ wJ (.cons zI (.cons (Z.arr 8 (Z.int .u8)) .nil)) (.cons Y (.dir Y) Y Y Y Y (.cons Y (.dir Y) Y Y Y Y .nil))) (.k (dN (e:=gK) yM jZ Fu Y Y Y Y (.cons (.agg Y (.same (.same .nil)) s2 Y) .nil)) (ZA.append (.none Y) 114 bk Y Y (.sl Y) yM Lo jZ Y Y Y Y Y (.k (aO 115 Tryz.zeroValue77 Y (.cons (Z.sl gK) .nil) Y) (ZA.store (.none Y) Y Y Y Y Y Y Y Ja .nil))))))))))))))))) (by exact(J.kp [0,4,11] [])) ?_;refine aJ (.sub (O':=⟨[(0,.ptr 9000 0),(4,.ptr 101 0),(11,.ZH Q1 C)],[(9000,.box 188 [.v Q0 XG,.v Q2 XP] (some (A 9000))),(101,.box 74 [.ptr 9000 0] (some (u)))]⟩) (Sw.Sub.mk id (.cons Y (.of_eq Y) (.cons Y (.of_eq Y) (.cons Y (.C5 Y Y (.cons (.N1 Y Y) .nil) sO) .nil))) (.box Y (.cons (.of_eq Y) (.cons (.of_eq Y) .nil)) (.box Y (.cons (.of_eq Y) .nil) .nil)) Y) (.k (oD .nil (.cons (.B0 Y Y) (.ZH Y)) (.l .self)) (.k (rS (e:=(bP (A 9000) (u))) 116 Xx QH UN Y Y Y Y (.cons (.dir Y) .nil)) (.f [0,4,11,12] ?_))));refine cU [0,4,12,59,60,61] ?_;obtain⟨an,ac,ad,ap⟩:=cF h;refine jD (σs:=fun B:Int×(List aG)=>⟨[(0,.ptr 9000 0),(4,.ptr 101 0),(12,.ref 126),(59,.v Q1 C),(60,.v Q0 (C.length:Int)),(61,.v Q0 B.1)],[(9000,.box 188 [.v Q0 XG,.v Q2 XP] (some (A 9000))),(101,.box 74 [.ptr 9000 0] (some (u))),(126,.arr 97 (bP (A 9000) (u)) B.2)]⟩) (fun N:(List aG)=>⟨[(0,.ptr 9000 0),(4,.ptr 101 0),(12,.ref 126)],[(9000,.box 188 [.v Q0 XG,.v Q2 XP] (some (A 9000))),(101,.box 74 [.ptr 9000 0] (some (u))),(126,.arr 97 (bP (A 9000) (u)) N)]⟩) ac (aC [(126,116)]) ?_ ?_
 ·intro N U;have h:=ad _ U;obtain⟨T,ae,h⟩:=aA h;obtain⟨N5,vd,h⟩:=aA h;refine aJ (.a 2 ?_);refine .k (oD (.B0 Y Y) .nil (.r (.r (.r (.l .self))))) (.k (oD .nil (.B0 Y Y) (.r (.r (.r (.r (.l .self)))))) (.k (aI Y Y Y Ox Iz) (.k (oD (.B0 Y Y) .nil (.r (.r (.r (.r (.r (.l .self))))))) (.k (aI Y Y Y Ox Iz) (.k (oD (.B0 Y Y) .nil (.r (.r (.r (.r (.r (.r (.l .self)))))))) (.k (oD .nil (.B0 Y Y) (.r (.r (.r (.r (.r (.r (.r .self)))))))) (.k (dN (e:=(bP (A 9000) (u))) Xx QH UN Y Y Y Y (.cons (.dir Y) (.cons (.dir Y) (.cons (.dir Y) (.cons (.dir Y) (.cons (.dir Y) .nil)))))) (.t (bU 133 ae Y Y (.sl Y) Xx Tryz.typeInfo97 QH Y Y Y Y Y) (.sub (O':=⟨[(0,.ptr 9000 0),(4,.ptr 101 0),(73,.ptr 9000 0),(74,.v (bP (A 9000) (u)) (.inr (.inr (.inr (.inl ((),())))):aG)),(75,.v (bP (A 9000) (u)) (.inr (.inr (.inr (.inr (.inl ((),()))))):aG)),(76,.ptr 9000 0),(77,.v (bP (A 9000) (u)) (.inr (.inr (.inr (.inr (.inr (.inl ((),())))))):aG)),(78,.ptr 9000 0),(79,.v (bP (A 9000) (u)) (.inr (.inr (.inr (.inr (.inr (.inr (.inl ((),()))))))):aG)),(80,.v (bP (A 9000) (u)) (.inr (.inr (.inr (.inr (.inr (.inr (.inr ((),()))))))):aG)),(81,.v (Wr.sl (bP (A 9000) (u))) ([(.inr (.inr (.inr (.inl ((),())))):aG),(.inr (.inr (.inr (.inr (.inl ((),()))))):aG),(.inr (.inr (.inr (.inr (.inr (.inl ((),())))))):aG),(.inr (.inr (.inr (.inr (.inr (.inr (.inl ((),()))))))):aG),(.inr (.inr (.inr (.inr (.inr (.inr (.inr ((),()))))))):aG)]:(List aG))),(82,.v (Wr.sl (bP (A 9000) (u))) T)],[(9000,.box 188 [.v Q0 XG,.v Q2 XP] (some (A 9000))),(101,.box 74 [.ptr 9000 0] (some (u)))]⟩) (aC []) (.t (Jr (H:=[9000,101]) (K:=[9000,101]) [(9000,A 9000),(9100,u)] (Cf [(9000,9000),(9100,101)]) (eW _) ⟨⟨_,_,Y⟩,⟨_,_,Y⟩,trivial⟩ (XA.at2 (ss:=fun a9 p9=>[.v (Wr.sl (bP a9 p9)) T]) (A 9000) u (fun A9=>tJ A9 vd)) Tryz.call205 (.cons (.dir Y) .nil) (fun _=> .box Y (.box Y .nil)) (fun _=> .box Y (.box Y .nil Y) Y) (fun _=>rfl) Y Y (fun _=>rfl) Y Y) (.f [0,8] ?_)))))))))));cases h;exact aH (eM G Y (RV.tmp Y) (.cons Y .nil))
 intro B ah h;refine aL [0,4,12,59,60,61,62] ?_;refine aF ?_;refine aU h Y (fun aa h=>?_) (fun aa h=>?_)
 ·refine aE ?_;refine aF ?_;refine bR ?_;obtain⟨M,au,h⟩:=aA h;refine aJ (.a 3 ?_);refine .k (aO 130 Z3 Y (.cons zI .nil) Y) (.k (aO 131 Fu Y (.cons zI (.cons (Z.arr 8 (Z.int .u8)) .nil)) Y) ?_);refine .a 1 ?_;refine .t (bT Y Y Y Y s2 jZ) (.f [0,4,12,13,14,59,60,61] ?_);refine wV (O':=⟨[(0,.ptr 9000 0),(4,.ptr 101 0),(12,.ref 126),(13,.ZH Q0 B.1),(14,.ptr 131 0),(59,.v Q1 C),(60,.v Q0 (C.length:Int)),(61,.v Q0 B.1)],[(9000,.box 188 [.v Q0 XG,.v Q2 XP] (some (A 9000))),(101,.box 74 [.ptr 9000 0] (some (u))),(126,.arr 97 (bP (A 9000) (u)) B.2),(131,.box 214 [.v Q0 M.1,.v aM M.2])]⟩) (Sw.Sub.mk id (.cons Y (.of_eq Y) (.cons Y (.of_eq Y) (.cons Y (.of_eq Y) (.cons Y (.C5 Y Y (.cons (.of_eq Y) .nil) sO) (.cons Y (.of_eq Y) (.cons Y (.of_eq Y) (.cons Y (.of_eq Y) (.cons Y (.of_eq Y) .nil)))))))) (.box Y (.cons (.of_eq Y) (.cons (.of_eq Y) .nil)) (.box Y (.cons (.of_eq Y) .nil) (.arr Y (.box Y (.cons (.of_eq Y) (.cons (.of_eq Y) .nil)) .nil)))) Y) ?_;obtain⟨av,af,h⟩:=aA h;refine eU (.a 1 ?_);refine .sub (O':=⟨[(0,.ptr 9000 0),(4,.ptr 101 0),(12,.ref 126),(13,.ZH Q0 B.1),(14,.ZH gK M),(59,.v Q1 C),(60,.v Q0 (C.length:Int)),(61,.v Q0 B.1),(66,.ref 126)],[(9000,.box 188 [.v Q0 XG,.v Q2 XP] (some (A 9000))),(101,.box 74 [.ptr 9000 0] (some (u))),(126,.arr 97 (bP (A 9000) (u)) B.2)]⟩) (Sw.Sub.mk id (.cons Y (.of_eq Y) (.cons Y (.of_eq Y) (.cons Y (.of_eq Y) (.cons Y (.of_eq Y) (.cons Y (.C5 Y Y (.cons (.of_eq Y) (.cons (.of_eq Y) .nil)) s2) (.cons Y (.of_eq Y) (.cons Y (.of_eq Y) (.cons Y (.of_eq Y) (.cons Y (.of_eq Y) .nil))))))))) (.box Y (.cons (.of_eq Y) (.cons (.of_eq Y) .nil)) (.box Y (.cons (.of_eq Y) .nil) (.arr Y .nil))) Y) (.k (oD .nil (.cons (.B0 Y Y) (.cons (.ZH Y) (.ZH Y))) (.r (.l .self))) (.k (oD .nil (.cons (.B0 Y Y) (.cons (.ZH Y) (.ZH Y))) (.r (.r (.l .self)))) (.k (dN (e:=(bP (A 9000) (u))) Xx QH UN Y Y Y Y (.cons (.dir Y) (.cons (.dir Y) .nil))) (.t (bU 132 af Y Y (.sl Y) Xx Tryz.typeInfo97 QH Y Y Y Y Y) (.f [0,4,12,59,60,61] ?_)))));refine aZ ?_;refine dT [0,4,12,59,60,61] ?_;cases h;exact cE (aC [(126,132)])
 cases h;exact cY (dK (aC []))
theorem zR(A:Nat->Nat){b0 u T U z B C D E F G I L M N O P Q V X r}(h:jI b0 u T U z B C D E F G I L M N O P Q V X=some r):
 XA Tryz.prog 102 [.ptr 9000 1,.ptr 9100 0] [(9000,.box 93 [.v Q0 b0,.v (Wr.n7 (.pointer none) rfl) (),.v Q0 u,.v Q0 T,.v Q0 U,.ref 9050,.v Lm B,.ref 9051,.v Q0 D,.v Ov E,.v Q0 F,.v Q0 G,.ref 9052,.v (Wr.n7 (.pointer none) rfl) (),.v Q0 L,.v Q0 M,.v Q0 N,.v Q0 O,.v (Wr.pr Q0 Q0) P,.ref 9053] (some (A 9000))),(9100,.box 188 [.v Q0 V,.v Q2 X] (some (A 9100))),(9050,.arr 30 aM z),(9051,.mp Q0 Q5 C),(9052,.arr 3 Q0 I),(9053,.arr 135 (Wr.pr Wr.bool (Wr.pr Wr.bool (Wr.sl (Wr.int .u8)))) Q)] (.v Q9 r.1) [(9000,.box 93 [.v Q0 b0,.ptr 9100 0,.v Q0 u,.v Q0 r.2.1,.v Q0 r.2.2.1,.ref 400,.v Lm B,.ref 401,.v Q0 D,.v Ov E,.v Q0 F,.v Q0 G,.ref 402,.v (Wr.n7 (.pointer none) rfl) (),.v Q0 L,.v Q0 M,.v Q0 N,.v Q0 O,.v (Wr.pr Q0 Q0) P,.ref 403] (some (A 9000))),(9100,.box 188 [.v Q0 r.2.2.2.1,.v Q2 r.2.2.2.2] (some (A 9100))),(400,.arr 30 aM z),(401,.mp Q0 Q5 C),(402,.arr 3 Q0 I),(403,.arr 135 (Wr.pr Wr.bool (Wr.pr Wr.bool (Wr.sl (Wr.int .u8)))) Q)]:=by
 refine XA.of Tryz.func102 Y Tryz.ntmps102 Y ?_;intro S w R hF;unfold jI at h;refine aL [0,1] ?_;refine aL [0,1] ?_;obtain⟨v1,XO,h⟩:=aA h;refine aJ (.a 1 ?_);refine .k (rU (pD XO) Tryz.call162 (.cons (.N0 Y Y s2) .nil) (YZ.XU (.v (.v (.v .nil))))) (.f [0,1,5,6,7] ?_);refine cU [0,1,5,6,7,19] ?_;refine aU h Y (fun ZG h=>?_) (fun ZG h=>?_)
 ·refine aL [0,1,4] ?_;cases h;exact aH (fA hF Y (aC [(403,9053),(402,9052),(401,9051),(400,9050)]))
 refine aE ?_;refine aL [0,1] ?_;refine aF ?_;obtain⟨v3,G2,h⟩:=aA h;refine eD 9 mixed (by exact(.k (aD Y) (.k (aD Y) (.k (aK Y) (.k (aB 3 Y Ft Y S3 Y Y) (.k (aI Y Y Y G3 S3) (.k (aD Y) (.k (aK Y) (.k (aB 4 Y Ft Y S3 Y Y) (.k (aI Y Y Y G3 S3) .nil)))))))))) (by exact(J.t (tA (H:=[9100]) (K:=[9100]) (Cf [(9000,9100)]) (eW _) (fun A=>iA A G2) LH (.cons (.dir Y) (.cons (.ql _) (.cons (.dir Y) (.cons (.dir Y) .nil)))) (fun A=>(.box Y .nil)) (fun A=>(.box Y .nil Y)) (fun _=>rfl) Y Y (fun _=>rfl) Y Y) (jz [0,1,4]))) ?_;cases h;exact aH (fA hF Y (aC [(403,9053),(402,9052),(401,9051),(400,9050)]))
theorem Fw{z A r}(h:kQ z A=some r):
 XL Tryz.prog 76 [.ZH (Wr.pr Q0 Q2) z,.v Q0 A] (.XU [.v aM r.1,.v Q9 r.2]) []:=by
 refine XL.of Tryz.func76 Y Tryz.ntmps76 Y ?_;intro S w C;unfold kQ at h;refine aJ (.k (aO 101 Cb Y (.cons (Z.arr 8 (Z.int .u8)) .nil) Y) (.f [0,1,4] ?_));refine aF ?_;refine aF ?_;obtain⟨F,u,h⟩:=aA h;refine eH (O':=⟨[(0,.ZH (Wr.pr Q0 Q2) z),(1,.v Q0 A),(4,.ptr 101 0),(15,.v Wr.bool F)],[(101,.box 30 [.v aM aQ])]⟩) ?_ ?_
 ·refine cd u (fun B u=>?_) (fun B u=>?_)
  ·cases u;exact jy
  cases u;refine ja 5 ?_;exact(J.g B (rT Y) (J.g B (fC Y wR Y S3 Y (.fst .here) Y) jy))
 refine aU h Y (fun E h=>?_) (fun E h=>?_)
 ·refine aJ (.k (cV (e:=aM) (v:=aQ) An vG I5 Y Y (Z.arr 8 (Z.int .u8))) (.f [4,5] ?_));refine aH ?_;obtain rfl:=pT h;exact cB (O':=⟨[(4,.ptr 90 0),(5,.v Q9 (some (1:Int)))],[(90,.box 30 [.v aM aQ])]⟩) (aC [(90,101)]) (bS C dU Y (cO Y Y Y uW kW) (RV.tmp Y) .nil Y)
 refine aE ?_;obtain⟨D,G,h⟩:=aA h;refine aJ (.a 1 ?_);refine .k (rT Y) (.k (fC Y wR Y lL Y (.snd .here) Y) ?_);refine .a 2 ?_;refine .k (aN (qN G) GF (.cons (.dir Y) (.cons (.dir Y) .nil))) (.f [4,5] ?_);refine aH ?_;obtain rfl:=pT h;exact cB (O':=⟨[(4,.ptr 90 0),(5,.v Q9 D.2)],[(90,.box 30 [.v aM D.1])]⟩) (aC [(90,101)]) (bS C dU Y (cO Y Y Y uW kW) (RV.tmp Y) .nil Y)
theorem lC{u r}(h:gE u=some r):
 XL Tryz.prog 48 [.ZH (Wr.pr Q0 Q2) u] (.XU [.ref 0,.v Q9 r.2]) [(0,.arr 30 aM r.1)]:=by
 refine XL.of Tryz.func48 Y Tryz.ntmps48 Y ?_;intro S w A;unfold gE at h;refine aJ (.k (aS 101 30 aM) (.f [0] ?_));refine aJ (.k (aS 102 30 aM) (.f [0,4] ?_));refine jQ (.a 1 ?_);refine .k (rT Y) (.k (fC Y wR Y S3 Y (.fst .here) Y) (.f [0,4,11,12] ?_));obtain⟨N,G,H,I⟩:=cF h;refine jD (σs:=fun z:Int×iR=>⟨[(0,.ZH (Wr.pr Q0 Q2) u),(4,.ref 114),(11,.v Q0 u.1),(12,.v Q0 z.1)],[(114,.arr 30 aM z.2)]⟩) (fun B:iR=>⟨[(4,.ref 114)],[(114,.arr 30 aM B)]⟩) G (aC [(114,102)]) ?_ ?_
 ·intro B C;have h:=H _ C;refine aL [2,3] ?_;cases h;exact aH (wX A dU Y (aC [(0,114)]))
 intro z M h;refine aL [0,4,11,12,13] ?_;refine aF ?_;refine aU h Y (fun D h=>?_) (fun D h=>?_)
 ·refine aE ?_;refine aF ?_;refine bR ?_;refine aL [0,4,5,11,12] ?_;obtain⟨O,K,h⟩:=aA h;refine aJ (.a 2 ?_);refine .k (aN (Fw K) Tryz.call76 (.cons (.dir Y) (.cons (.dir Y) .nil))) ?_;refine .a 3 ?_;refine .k (aO 120 Cb Y (.cons (Z.arr 8 (Z.int .u8)) .nil) Y) (.f [0,4,6,7,11,12] ?_);refine cU [0,4,6,7,11,12,22] ?_;refine aU h Y (fun E h=>?_) (fun E h=>?_)
  ·refine aJ (.a 1 ?_);refine .k (aS 121 30 aM) (.f [2,3] ?_);refine aH ?_;refine eK ?_;cases h;refine gD fun F=>?_;obtain rfl:=I _ F;exact wX A dU Y (aC [(0,121)])
  refine aE ?_;obtain⟨P,L,h⟩:=aA h;refine eU (.a 2 ?_);refine .k (dN (e:=aM) Kf kW Cb Y Y Y Y (.cons (.dir Y) .nil)) (.t (bU 122 L Y Y (.sl Y) Kf An kW Y Y Y Y Y) (.f [0,4,11,12] ?_));refine aZ ?_;refine dT [0,4,11,12] ?_;cases h;exact cE (aC [(114,122)])
 cases h;exact cY (dK (aC []))
theorem vQ(A:Nat->Nat){b0 z u B C D U E F G H I K L M N O P Q T r}(h:fS b0 z u B C D U E F G H I K L M N O P Q T=some r):
 XA Tryz.prog 103 [.ptr 9000 1] [(9000,.box 93 [.v Q0 b0,.ptr 9100 0,.v Q0 z,.v Q0 u,.v Q0 B,.ref 9050,.v Lm D,.ref 9051,.v Q0 E,.v Ov F,.v Q0 G,.v Q0 H,.ref 9052,.v (Wr.n7 (.pointer none) rfl) (),.v Q0 K,.v Q0 L,.v Q0 M,.v Q0 N,.v (Wr.pr Q0 Q0) O,.ref 9053] (some (A 9000))),(9100,.box 188 [.v Q0 Q,.v Q2 T] (some (A 9100))),(9050,.arr 30 aM C),(9051,.mp Q0 Q5 U),(9052,.arr 3 Q0 I),(9053,.arr 135 (Wr.pr Wr.bool (Wr.pr Wr.bool (Wr.sl (Wr.int .u8)))) P)] (.XU []) [(9000,.box 93 [.v Q0 b0,.ptr 9100 0,.v Q0 z,.v Q0 u,.v Q0 B,.ref 400,.v Lm D,.ref 401,.v Q0 E,.v Ov F,.v Q0 G,.v Q0 H,.ref 402,.v (Wr.n7 (.pointer none) rfl) (),.v Q0 K,.v Q0 L,.v Q0 M,.v Q0 N,.v (Wr.pr Q0 Q0) O,.ref 403] (some (A 9000))),(9100,.box 188 [.v Q0 Q,.v Q2 T] (some (A 9100))),(400,.arr 30 aM C),(401,.mp Q0 Q5 r),(402,.arr 3 Q0 I),(403,.arr 135 (Wr.pr Wr.bool (Wr.pr Wr.bool (Wr.sl (Wr.int .u8)))) P)]:=by
 refine XA.of Tryz.func103 Y Tryz.ntmps103 Y ?_;intro S w R V;unfold fS at h;refine aF ?_;obtain⟨v2,X,h⟩:=aA h;obtain⟨v3,G2,h⟩:=aA h;refine eD 14 mixed (by exact(.k (aD Y) (.k (aK Y) (.k (aB 10 Y wD Y AL Y Y) (.k (aI Y Y Y QD AL) (.k (aD Y) (.k (aK Y) (.k (aB 1 Y wD Y Lp Y Y) (.k (aB 3 Y Ft Y S3 Y Y) (.k (aI Y Y Y G3 S3) (.k (aD Y) (.k (aK Y) (.k (aB 5 Y wD Y yL Y Y) (.k (aI Y Y Y Uo yL) (.k (Qx (rB 102000 (cQ X) AJ (.cons (.ref Y Y) .nil) Y YZ.ref (ZQ.arr ZQ.nil)) (fun _=>(Sw.Sub.mk id (.cons Y (.N1 Y Y) .nil) .nil Y)) Y) .nil))))))))))))))) (by exact(J.t (Np G2 Y Y Y Y SD U3 (B8.int U3) Y) (J.kp [0] []))) ?_;refine eD 11 mixed (by exact(.k (aD Y) (.k (aK Y) (.k (aB 10 Y wD Y AL Y Y) (.k (aI Y Y Y QD AL) (.k (aD Y) (.k (aK Y) (.k (aB 1 Y wD Y Lp Y Y) (.k (aB 3 Y Ft Y S3 Y Y) (.k (aI Y Y Y G3 S3) (.k (cZ Y Y Y) (.k (cZ Y Y Y) .nil)))))))))))) (by exact(J.t (Nq Y Y Y SD U3 (B8.int U3) Y) (J.kp [0] []))) ?_;refine AW ?_;obtain rfl:=pT h;exact cB (O':=⟨[(0,.ptr 9000 1)],[(9000,.box 93 [.v Q0 b0,.ptr 9100 0,.v Q0 z,.v Q0 u,.v Q0 B,.ref 400,.v Lm D,.ref 401,.v Q0 E,.v Ov F,.v Q0 G,.v Q0 H,.ref 402,.v (Wr.n7 (.pointer none) Y) (),.v Q0 K,.v Q0 L,.v Q0 M,.v Q0 N,.v (Wr.pr Q0 Q0) O,.ref 403] (some (A 9000))),(9100,.box 188 [.v Q0 Q,.v Q2 T] (some (A 9100))),(400,.arr 30 aM C),(401,.mp Q0 Q5 (Gt v3 (ar .sub .i64 (ar .sub .i64 u (4:Int)) (1:Int)))),(402,.arr 3 Q0 I),(403,.arr 135 (Wr.pr Wr.bool (Wr.pr Wr.bool (Wr.sl (Wr.int .u8)))) P)]⟩) (aC [(403,9053),(402,9052),(401,9051),(400,9050)]) (Ew V Y (.cons Y (.cons Y (.cons Y (.cons Y (.cons Y (.cons Y .nil)))))))
theorem qG(A:Nat->Nat){b0 G H I K L M N O P Q T z B C D E F U V r}(h:fG b0 G H I K L M N O P Q T z B C D E F U V=some r):
 XA Tryz.prog 70 [.ptr 9000 0,.ptr 9100 0] [(9000,.box 93 [.v Q0 b0,.v (Wr.n7 (.pointer none) rfl) (),.v Q0 G,.v Q0 H,.v Q0 I,.v Q5 K,.v Lm L,.v (Wr.bd Q0 Q5) M,.v Q0 N,.v Ov O,.v Q0 P,.v Q0 Q,.v mO T,.v (Wr.n7 (.pointer none) rfl) (),.v Q0 z,.v Q0 B,.v Q0 C,.v Q0 D,.v (Wr.pr Q0 Q0) E,.ref 9050] (some (A 9000))),(9100,.box 188 [.v Q0 U,.v Q2 V] (some (A 9100))),(9050,.arr 135 (Wr.pr Wr.bool (Wr.pr Wr.bool (Wr.sl (Wr.int .u8)))) F)] (.v Q9 r.1) [(9000,.box 93 [.v Q0 b0,.ptr 9100 0,.v Q0 r.2.1,.v Q0 r.2.2.1,.v Q0 r.2.2.2.1,.ref 400,.v Lm r.2.2.2.2.2.1,.ref 401,.v Q0 r.2.2.2.2.2.2.2.1,.v Ov r.2.2.2.2.2.2.2.2.1,.v Q0 r.2.2.2.2.2.2.2.2.2.1,.v Q0 r.2.2.2.2.2.2.2.2.2.2.1,.ref 402,.v (Wr.n7 (.pointer none) rfl) (),.v Q0 z,.v Q0 B,.v Q0 C,.v Q0 D,.v (Wr.pr Q0 Q0) E,.ref 403] (some (A 9000))),(9100,.box 188 [.v Q0 r.2.2.2.2.2.2.2.2.2.2.2.2.1,.v Q2 r.2.2.2.2.2.2.2.2.2.2.2.2.2] (some (A 9100))),(400,.arr 30 aM r.2.2.2.2.1),(401,.mp Q0 Q5 r.2.2.2.2.2.2.1),(402,.arr 3 Q0 r.2.2.2.2.2.2.2.2.2.2.2.1),(403,.arr 135 (Wr.pr Wr.bool (Wr.pr Wr.bool (Wr.sl (Wr.int .u8)))) F)]:=by
 refine XA.of Tryz.func70 Y Tryz.ntmps70 Y ?_;intro S w R X;unfold fG at h;refine aL [0,1] ?_;refine aJ (.a 5 ?_);refine .k (bQ Mj (.cons (Z.n7 (u:=(.pointer none)) Y) (.cons zI (.cons zI (.cons zI .nil)))) (.cons Y (.dir Y) Y Y Y Y .nil)) (.k (Gn 101 Q0 Q5) (.k (fO (new:=[(103,.arr 30 aM ([]:iR)),(102,.arr 3 Q0 ([]:kS))]) DJ (.cons (Z.n7 (u:=(.pointer none)) Y) (.cons zI (.cons zI (.cons zI (.ref 103 Y (.cons (Z.pr zI (Z.pr (Z.sl gK) (Z.pr (Z.sl pM) Z.bool))) (.cons (Z.bd Q0 Q5) (.cons zI (.cons (Z.pr zI (Z.pr zI (Z.sl Q8))) (.cons zI (.cons zI (.ref 102 Y .nil)))))))))))) (.cons (.cons .nil)) Y (.agg 0 4 Y Y Y Y Y Y (.cons Y (.dir Y) Y Y Y Y (.cons Y (.dir Y) Y Y Y Y .nil)))) ?_));refine .a 2 ?_;refine .t (wB 1 12 Y Y Y Y Y Y Y QG) (.f [0,1] ?_);obtain⟨v1,XO,h⟩:=aA h;refine jQ (.a 5 ?_);refine .t (eN [9000,9100,103,101,102,9050] (vC [(9000,9000),(9100,9100),(9050,103),(9051,101),(9052,102),(9053,9050),(400,104),(401,105),(402,106),(403,107)]) (dF Y) (fun A=>zR A XO) OZ (fun A=>(.box Y (.box Y (.arr (.mp (.arr (.arr .nil Y) Y) Y) Y) Y) Y))) (.f [0,1,5] ?_);refine aL [0,1,5,25] ?_;refine aU h Y (fun ZG h=>?_) (fun ZG h=>?_)
 ·refine aL [0,1,4] ?_;cases h;exact aH (fA X Y (aC [(403,107),(402,106),(401,105),(400,104)]))
 refine aE ?_;obtain⟨v3,G2,h⟩:=aA h;refine aJ (.a 1 ?_);refine .k (rB 108000 (lC G2) UF (.cons (.N0 Y Y s2) .nil) Y (YZ.XU (.ref (.v .nil))) (ZQ.arr ZQ.nil)) (.f [0,1,6,7] ?_);refine aL [0,1,7] ?_;refine aJ (.a 7 ?_);refine .k (Bm (bQ zF (.cons zI (.cons (Z.sl gK) (.cons (Z.sl pM) (.cons Z.bool .nil)))) (.cons Y (.dir Y) Y Y Y Y (.cons Y (.dir Y) Y Y Y Y .nil))) s4 Y) (.f [0,1,7] ?_);obtain⟨v4,dy,h⟩:=aA h;refine aJ (.a 3 ?_);refine .t (eN [9000,9100,108000,105,106,107] (vC [(9000,9000),(9100,9100),(9050,108000),(9051,105),(9052,106),(9053,107),(400,109),(401,110),(402,111),(403,112)]) (dF Y) (fun A=>vQ A dy) Tryz.call103 (fun A=>(.box Y (.box Y (.arr (.mp (.arr (.arr .nil Y) Y) Y) Y) Y) Y))) (.f [0,1,7] ?_);refine aL [0,1,4] ?_;cases h;exact aH (fA X Y (aC [(403,112),(402,111),(401,110),(400,109)]))
theorem sN(A:Nat->Nat){b0 u z B C D E F G I L M N V X O P Q T U bK bL r}(h:gI b0 u z B C D E F G I L M N V X O P Q T U bK bL=some r):
 XA Tryz.prog 102 [.ptr 9000 18,.ptr 9200 0] [(9000,.box 93 [.v Q0 b0,.ptr 9100 0,.v Q0 u,.v Q0 z,.v Q0 B,.ref 9050,.v Lm D,.ref 9051,.v Q0 F,.v Ov G,.v Q0 I,.v Q0 L,.ref 9052,.v (Wr.n7 (.pointer none) rfl) (),.v Q0 N,.v Q0 V,.v Q0 X,.v Q0 O,.v (Wr.pr Q0 Q0) P,.ref 9053] (some (A 9000))),(9100,.box 188 [.v Q0 T,.v Q2 U] (some (A 9100))),(9200,.box 188 [.v Q0 bK,.v Q2 bL] (some (A 9200))),(9050,.arr 30 aM C),(9051,.mp Q0 Q5 E),(9052,.arr 3 Q0 M),(9053,.arr 135 (Wr.pr Wr.bool (Wr.pr Wr.bool (Wr.sl (Wr.int .u8)))) Q)] (.v Q9 r.1) (kM 9000 (some (A 9000)) 9100 (some (A 9100)) 9200 (some (A 9200)) 400 401 402 403 b0 u z B C D E F G I L M N r.2.1 r.2.2.1 O P Q T U r.2.2.2.1 r.2.2.2.2):=by
 refine XA.of Tryz.func102 Y Tryz.ntmps102 Y ?_;intro S w R hF;unfold gI at h;refine aL [0,1] ?_;refine aL [0,1] ?_;obtain⟨v1,XO,h⟩:=aA h;refine aJ (.a 1 ?_);refine .k (rU (pD XO) Tryz.call162 (.cons (.N0 Y Y s2) .nil) (YZ.XU (.v (.v (.v .nil))))) (.f [0,1,5,6,7] ?_);refine cU [0,1,5,6,7,19] ?_;refine aU h Y (fun ZG h=>?_) (fun ZG h=>?_)
 ·refine aL [0,1,4] ?_;cases h;exact aH (fA hF Y (aC [(403,9053),(402,9052),(401,9051),(400,9050)]))
 refine aE ?_;refine aL [0,1] ?_;refine aF ?_;obtain⟨v3,G2,h⟩:=aA h;refine eD 9 mixed (by exact(.k (aD Y) (.k (aD Y) (.k (aK Y) (.k (aB 20 Y Ft Y S3 Y Y) (.k (aI Y Y Y G3 S3) (.k (aD Y) (.k (aK Y) (.k (aB 21 Y Ft Y S3 Y Y) (.k (aI Y Y Y G3 S3) .nil)))))))))) (by exact(J.t (tA (H:=[9200]) (K:=[9200]) (Cf [(9000,9200)]) (eW _) (fun A=>iA A G2) LH (.cons (.dir Y) (.cons (.ql _) (.cons (.dir Y) (.cons (.dir Y) .nil)))) (fun A=>(.box Y .nil)) (fun A=>(.box Y .nil Y)) (fun _=>rfl) Y Y (fun _=>rfl) Y Y) (jz [0,1,4]))) ?_;cases h;exact aH (fA hF Y (aC [(403,9053),(402,9052),(401,9051),(400,9050)]))
theorem wS(A:Nat->Nat){b0 z B C D E F G H I K L P Q T U V M N O X bL r}(h:gP b0 z B C D E F G H I K L P Q T U V M N O X bL=some r):
 XA Tryz.prog 71 [.ptr 9000 0,.ptr 9200 0] [(9000,.box 93 [.v Q0 b0,.ptr 9100 0,.v Q0 z,.v Q0 B,.v Q0 C,.ref 9050,.v Lm E,.ref 9051,.v Q0 G,.v Ov H,.v Q0 I,.v Q0 K,.ref 9052,.v (Wr.n7 (.pointer none) rfl) (),.v Q0 P,.v Q0 Q,.v Q0 T,.v Q0 U,.v (Wr.pr Q0 Q0) V,.ref 9053] (some (A 9000))),(9100,.box 188 [.v Q0 N,.v Q2 O] (some (A 9100))),(9200,.box 188 [.v Q0 X,.v Q2 bL] (some (A 9200))),(9050,.arr 30 aM D),(9051,.mp Q0 Q5 F),(9052,.arr 3 Q0 L),(9053,.arr 135 (Wr.pr Wr.bool (Wr.pr Wr.bool (Wr.sl (Wr.int .u8)))) M)] (.v Q9 r.1) (kM 9000 (some (A 9000)) 9100 (some (A 9100)) 9200 (some (A 9200)) 400 401 402 403 b0 z B C D E F G H I K L r.2.1 r.2.2.1 r.2.2.2.1 r.2.2.2.2.1 r.2.2.2.2.2.1 M N O r.2.2.2.2.2.2.1 r.2.2.2.2.2.2.2):=by
 refine XA.of Tryz.func71 Y Tryz.ntmps71 Y ?_;intro S w R hF;unfold gP at h;refine aL [0,1] ?_;refine aJ (.a 5 ?_);refine .k (bQ Mj (.cons (Z.n7 (u:=(.pointer none)) Y) (.cons zI (.cons zI (.cons zI .nil)))) (.cons Y (.dir Y) Y Y Y Y .nil)) (.k (bQ Mk (.cons zI (.cons zI .nil)) (.cons Y (.dir Y) Y Y Y Y .nil)) (.k (bQ DK (.cons (Z.n7 (u:=(.pointer none)) Y) (.cons zI (.cons zI (.cons zI (.cons zI (.cons (Z.pr zI zI) .nil)))))) (.agg 0 4 Y Y Y Y Y Y (.cons Y (.dir Y) Y Y Y Y (.cons Y (.agg Y (.same (.same .nil)) s2 Y) Y Y Y Y .nil)))) ?_));refine .a 2 ?_;refine .t (wB 13 6 Y Y Y Y Y Y Y UL) (.f [0,1] ?_);obtain⟨v1,XO,h⟩:=aA h;refine aJ (.a 5 ?_);refine .t (eN [9000,9100,9200,9050,9051,9052,9053] (vC [(9000,9000),(9100,9100),(9200,9200),(9050,9050),(9051,9051),(9052,9052),(9053,9053),(400,101),(401,102),(402,103),(403,104)]) (dF Y) (fun A=>sN A XO) OZ (fun A=>(.box Y (.box Y (.box Y (.arr (.mp (.arr (.arr .nil Y) Y) Y) Y) Y) Y) Y))) (.f [0,1,4] ?_);cases h;exact aH (fA hF Y (aC [(403,104),(402,103),(401,102),(400,101)]))
def vR(r:(Option Q3)×(Option Int)):Slot:=match r.1 with | none=> .XU [.v (Wr.n7 (.pointer none) rfl) (),.v Q9 r.2] | some z=> .XU [.ptr 300 0,.v Q9 r.2]
def vS(r:(Option Q3)×(Option Int)):List (Nat×XB):=match r.1 with | none=>[] | some z=>(Uf 300 none 301 none 302 none 400 401 402 403 z)
end Go.Cn
set_option maxRecDepth 100000
set_option maxHeartbeats 4000000
namespace Go.Cn
open Go Go.Sw Go.Mo Go.Proofs
variable {gobj:Obj}
theorem Ar{B r}(h:iN B=some r):
 XL Tryz.prog 42 [.v Q0 B] (vR r) (vS r):=by
 refine XL.of Tryz.func42 Y Tryz.ntmps42 Y ?_;intro S w z;unfold iN at h;refine aJ (.k (eP Y) (.f [0] ?_));refine aJ (.a 1 ?_);refine .k (fO (new:=[(101,.arr 135 (Wr.pr Wr.bool (Wr.pr Wr.bool (Wr.sl (Wr.int .u8)))) ([]:Ul))]) PM (.cons zI (.cons (Z.n7 (u:=(.pointer none)) Y) (.cons zI (.cons zI (.cons zI (.cons (Z.sl aM) (.cons (Z.pr zI (Z.pr (Z.sl gK) (Z.pr (Z.sl pM) Z.bool))) (.cons (Z.bd Q0 Q5) (.cons zI (.cons (Z.pr zI (Z.pr zI (Z.sl Q8))) (.cons zI (.cons zI (.cons (Z.sl Q0) (.cons (Z.n7 (u:=(.pointer none)) Y) (.cons zI (.cons zI (.cons zI (.cons zI (.cons (Z.pr zI zI) (.ref 101 Y .nil)))))))))))))))))))) (.cons .nil) Y (.cons Y (.dir Y) Y Y Y Y .nil)) (.k (zY 102 Y Y) (.f [0,4] ?_));refine aF ?_;obtain⟨O,C,h⟩:=aA h;rcases J6:O.1 with _ | z2
 ·replace h:=vZ J6 h;refine eU (.a 1 ?_);refine .k (aN (tV J6 C) SU (.cons (.dir Y) .nil)) (.f [0,4,5,6] ?_);refine cU [0,4,5,6,18] ?_;refine aU h Y (fun F h=>?_) (fun F h=>?_)
  ·refine aJ (.a 1 ?_);refine .k (eP Y) (.f [2,3] ?_);cases h;exact aH (bS z dU Y (RV.tmp Y) (RV.tmp Y) .nil Y)
  refine aE ?_;refine aF ?_;obtain⟨P,D,h⟩:=aA h;rcases td:P.1 with _ | z5
  ·replace h:=vZ td h;refine eU (.a 1 ?_);refine .k (aN (tV td D) SU (.cons (.dir Y) .nil)) (.f [0,4,5,6,7] ?_);refine cU [0,4,5,6,7,26] ?_;refine aU h Y (fun G h=>?_) (fun G h=>?_)
   ·refine aJ (.a 1 ?_);refine .k (eP Y) (.f [2,3] ?_);cases h;exact aH (bS z dU Y (RV.tmp Y) (RV.tmp Y) .nil Y)
   refine aE ?_;refine aL [4,5,7] ?_;refine aF ?_;refine aF ?_;cases h
  ·replace h:=wA td h;refine eU (.a 1 ?_);refine .k (fP 105000 (tW td D) SU (.cons (.dir Y) .nil) Y) (.f [0,4,5,6,7] ?_);refine cU [0,4,5,6,7,26] ?_;refine aU h Y (fun H h=>?_) (fun H h=>?_)
   ·refine aJ (.a 1 ?_);refine .k (eP Y) (.f [2,3] ?_);cases h;exact aH (bS z dU Y (RV.tmp Y) (RV.tmp Y) .nil Y)
   refine aE ?_;refine aL [4,5,7] ?_;refine aF ?_;refine aF ?_;cases h
 ·replace h:=wA J6 h;refine eU (.a 1 ?_);refine .k (fP 106000 (tW J6 C) SU (.cons (.dir Y) .nil) Y) (.f [0,4,5,6] ?_);refine cU [0,4,5,6,18] ?_;refine aU h Y (fun I h=>?_) (fun I h=>?_)
  ·refine aJ (.a 1 ?_);refine .k (eP Y) (.f [2,3] ?_);cases h;exact aH (bS z dU Y (RV.tmp Y) (RV.tmp Y) .nil Y)
  refine aE ?_;refine aF ?_;obtain⟨Q,E,h⟩:=aA h;rcases qq:Q.1 with _ | dt
  ·replace h:=vZ qq h;refine eU (.a 1 ?_);refine .k (aN (tV qq E) SU (.cons (.dir Y) .nil)) (.f [0,4,5,6,7] ?_);refine cU [0,4,5,6,7,26] ?_;refine aU h Y (fun K h=>?_) (fun K h=>?_)
   ·refine aJ (.a 1 ?_);refine .k (eP Y) (.f [2,3] ?_);cases h;exact aH (bS z dU Y (RV.tmp Y) (RV.tmp Y) .nil Y)
   refine aE ?_;refine aL [4,5,7] ?_;obtain⟨V,R,h⟩:=aA h;refine jQ (.a 2 ?_);refine .t (eN [102,106000,101] (vC [(9000,102),(9100,106000),(9050,101),(400,108),(401,109),(402,110),(403,111)]) (dF Y) (fun A=>qG A R) Tryz.call70 (fun A=>(.box Y (.box Y (.arr (.mp (.arr (.arr .nil Y) Y) Y) Y) Y) Y))) (.f [4,7,8] ?_);refine aL [4,7,8,44] ?_;refine aU h Y (fun L h=>?_) (fun L h=>?_)
   ·refine aJ (.a 1 ?_);refine .k (eP Y) (.f [2,3] ?_);cases h;exact aH (bS z dU Y (RV.tmp Y) (RV.tmp Y) .nil Y)
   refine aE ?_;refine aF ?_;cases h
  ·replace h:=wA qq h;refine eU (.a 1 ?_);refine .k (fP 112000 (tW qq E) SU (.cons (.dir Y) .nil) Y) (.f [0,4,5,6,7] ?_);refine cU [0,4,5,6,7,26] ?_;refine aU h Y (fun M h=>?_) (fun M h=>?_)
   ·refine aJ (.a 1 ?_);refine .k (eP Y) (.f [2,3] ?_);cases h;exact aH (bS z dU Y (RV.tmp Y) (RV.tmp Y) .nil Y)
   refine aE ?_;refine aL [4,5,7] ?_;obtain⟨X,T,h⟩:=aA h;refine jQ (.a 2 ?_);refine .t (eN [102,106000,101] (vC [(9000,102),(9100,106000),(9050,101),(400,113),(401,114),(402,115),(403,116)]) (dF Y) (fun A=>qG A T) Tryz.call70 (fun A=>(.box Y (.box Y (.arr (.mp (.arr (.arr .nil Y) Y) Y) Y) Y) Y))) (.f [4,7,8] ?_);refine aL [4,7,8,44] ?_;refine aU h Y (fun N h=>?_) (fun N h=>?_)
   ·refine aJ (.a 1 ?_);refine .k (eP Y) (.f [2,3] ?_);cases h;exact aH (bS z dU Y (RV.tmp Y) (RV.tmp Y) .nil Y)
   refine aE ?_;obtain⟨iz,U,h⟩:=aA h;refine aJ (.a 3 ?_);refine .t (eN [102,106000,112000,113,114,115,116] (vC [(9000,102),(9100,106000),(9200,112000),(9050,113),(9051,114),(9052,115),(9053,116),(400,117),(401,118),(402,119),(403,120)]) (dF Y) (fun A=>wS A U) Tryz.call71 (fun A=>(.box Y (.box Y (.box Y (.arr (.mp (.arr (.arr .nil Y) Y) Y) Y) Y) Y) Y))) (.f [2,3] ?_);cases h;exact aH (wX z dU Y (aC [(300,102),(403,120),(302,112000),(402,119),(401,118),(400,117),(301,106000)]))
theorem Hf{u:Int}{r:(Option Q3)×(Option Int)}(hz:r.1=none)(h:iN u=some r):XL Tryz.prog 42 [.v Q0 u] (.XU [.v (Wr.n7 (.pointer none) rfl) (),.v Q9 r.2]) []:=by
 have:=Ar h;unfold vR vS at this;rw[hz] at this;exact this
theorem Hg{u:Int}{r:(Option Q3)×(Option Int)}{z:Q3}(hz:r.1=some z)(h:iN u=some r):XL Tryz.prog 42 [.v Q0 u] (.XU [.ptr 300 0,.v Q9 r.2]) (Uf 300 none 301 none 302 none 400 401 402 403 z):=by
 have:=Ar h;unfold vR vS at this;rw[hz] at this;exact this
theorem Kj{z r}(h:uP z=some r):
 XL Tryz.prog 72 [.v Q0 z] (.v (Fc [104,106,107,109,111,112,113,115,117,119,120]) r) []:=by
 refine XL.of Tryz.func72 Y Tryz.ntmps72 Y ?_;intro S w u;unfold uP at h;refine aJ (.k (Ch [104,106,107,109,111,112,113,115,117,119,120] 11 Y) (.f [0] ?_));refine cU [3] ?_;refine bR ?_;refine aL [3,4] ?_;refine aU h Y (fun A h=>?_) (fun A h=>?_)
 ·refine aJ (.k (rE [104,106,107,109,111,112,113,115,117,119,120] 0 Y lV) (.f [2] ?_));refine aH ?_;refine eK ?_;cases h;exact aW u dU Y (RV.tmp Y) .nil Y
 refine aL [3,6] ?_;refine aU h Y (fun B h=>?_) (fun B h=>?_)
 ·refine aJ (.k (rE [104,106,107,109,111,112,113,115,117,119,120] 1 Y lV) (.f [2] ?_));refine aH ?_;refine eK ?_;cases h;exact aW u dU Y (RV.tmp Y) .nil Y
 refine aL [3,8] ?_;refine aU h Y (fun C h=>?_) (fun C h=>?_)
 ·refine aJ (.k (rE [104,106,107,109,111,112,113,115,117,119,120] 2 Y lV) (.f [2] ?_));refine aH ?_;refine eK ?_;cases h;exact aW u dU Y (RV.tmp Y) .nil Y
 refine aL [3,10] ?_;refine aU h Y (fun D h=>?_) (fun D h=>?_)
 ·refine aJ (.k (rE [104,106,107,109,111,112,113,115,117,119,120] 3 Y lV) (.f [2] ?_));refine aH ?_;refine eK ?_;cases h;exact aW u dU Y (RV.tmp Y) .nil Y
 refine aL [3,12] ?_;refine aU h Y (fun E h=>?_) (fun E h=>?_)
 ·refine aJ (.k (rE [104,106,107,109,111,112,113,115,117,119,120] 4 Y lV) (.f [2] ?_));refine aH ?_;refine eK ?_;cases h;exact aW u dU Y (RV.tmp Y) .nil Y
 refine aL [3,14] ?_;refine aU h Y (fun F h=>?_) (fun F h=>?_)
 ·refine aJ (.k (rE [104,106,107,109,111,112,113,115,117,119,120] 5 Y lV) (.f [2] ?_));refine aH ?_;refine eK ?_;cases h;exact aW u dU Y (RV.tmp Y) .nil Y
 refine aL [3,16] ?_;refine aU h Y (fun G h=>?_) (fun G h=>?_)
 ·refine aJ (.k (rE [104,106,107,109,111,112,113,115,117,119,120] 6 Y lV) (.f [2] ?_));refine aH ?_;refine eK ?_;cases h;exact aW u dU Y (RV.tmp Y) .nil Y
 refine aL [3,18] ?_;refine aU h Y (fun H h=>?_) (fun H h=>?_)
 ·refine aJ (.k (rE [104,106,107,109,111,112,113,115,117,119,120] 7 Y lV) (.f [2] ?_));refine aH ?_;refine eK ?_;cases h;exact aW u dU Y (RV.tmp Y) .nil Y
 refine aL [3,20] ?_;refine aU h Y (fun I h=>?_) (fun I h=>?_)
 ·refine aJ (.k (rE [104,106,107,109,111,112,113,115,117,119,120] 8 Y lV) (.f [2] ?_));refine aH ?_;refine eK ?_;cases h;exact aW u dU Y (RV.tmp Y) .nil Y
 refine aL [3,22] ?_;refine aU h Y (fun K h=>?_) (fun K h=>?_)
 ·refine aJ (.k (rE [104,106,107,109,111,112,113,115,117,119,120] 9 Y lV) (.f [2] ?_));refine aH ?_;refine eK ?_;cases h;exact aW u dU Y (RV.tmp Y) .nil Y
 refine aL [24] ?_;refine aU h Y (fun L h=>?_) (fun L h=>?_)
 ·refine aJ (.k (rE [104,106,107,109,111,112,113,115,117,119,120] 10 Y lV) (.f [2] ?_));refine aH ?_;refine eK ?_;cases h;exact aW u dU Y (RV.tmp Y) .nil Y
 refine aE ?_;refine aZ ?_;refine aJ (.k (Ch [104,106,107,109,111,112,113,115,117,119,120] 11 Y) (.f [2] ?_));cases h;exact aH (aW u dU Y (RV.tmp Y) .nil Y)
theorem lU{u A r}(h:mB u A=some r):
 XL Tryz.prog 185 [.v Q1 u,.v Q0 A] (.v Wr.bool r) []:=by
 refine XL.of Tryz.func185 Y Tryz.ntmps185 Y ?_;intro S w C;unfold mB at h;refine aL [0,1] ?_;refine aL [0,1,5] ?_;refine cU [1,5,8,9,10] ?_;obtain⟨Q,L,M,N⟩:=cF h;refine jD (σs:=fun B:Int×Int=>⟨[(1,.v Q0 A),(5,.v Q0 B.1),(8,.v Q1 u),(9,.v Q0 (u.length:Int)),(10,.v Q0 B.2)],[]⟩) (fun E:Unit=>⟨[],[]⟩) L (aC []) ?_ ?_
 ·intro E F;have h:=M _ F;refine aL [4] ?_;cases h;exact aH (aW C dU Y (RV.tmp Y) .nil Y)
 intro B P h;refine aL [1,5,8,9,10,11] ?_;refine aF ?_;refine aU h Y (fun G h=>?_) (fun G h=>?_)
 ·refine aE ?_;refine aF ?_;refine bR ?_;obtain⟨D,R,h⟩:=aA h;refine aJ (.a 2 ?_);refine .k (aO 104 Fu Y (.cons zI (.cons (Z.arr 8 (Z.int .u8)) .nil)) Y) (.t (bT Y Y Y Y s2 jZ) (.f [1,5,7,8,9,10] ?_));refine aF ?_;refine aF ?_;obtain⟨O,z,h⟩:=aA h;refine eH (O':=⟨[(1,.v Q0 A),(7,.ptr 104 0),(8,.v Q1 u),(9,.v Q0 (u.length:Int)),(10,.v Q0 B.2),(23,.v Wr.bool O)],[(104,.box 214 [.v Q0 D.1,.v aM D.2])]⟩) ?_ ?_
  ·refine cd z (fun H z=>?_) (fun H z=>?_)
   ·cases z;exact jy
   cases z;exact jy
  refine aU h Y (fun I h=>?_) (fun I h=>?_)
  ·refine aL [4] ?_;refine aH ?_;refine eK ?_;cases h;refine gD fun K=>?_;obtain rfl:=N _ K;exact aW C dU Y (RV.tmp Y) .nil Y
  refine aE ?_;refine dT [1,5,8,9,10] ?_;refine aZ ?_;refine dT [1,5,8,9,10] ?_;cases h;exact cE (aC [])
 cases h;exact cY (dK (aC []))
theorem tN{z A r}(h:lN z A=some r):
 XL Tryz.prog 139 [.v Lm z,.v Q0 A] (.v Q9 r) []:=by
 refine XL.of Tryz.func139 Y Tryz.ntmps139 Y ?_;intro S w C;unfold lN at h;refine aJ (.k (cL 101 Y s4 Y) (.f [1,2] ?_));refine aF ?_;refine aF ?_;obtain⟨X,u,h⟩:=aA h;refine eH (O':=⟨[(1,.v Q0 A),(2,.ptr 101 0),(22,.v Wr.bool X)],[(101,.box 80 [.v Q0 z.1,.v Q1 z.2.1,.v (Wr.sl pM) z.2.2.1,.v Wr.bool z.2.2.2])]⟩) ?_ ?_
 ·refine cd u (fun I u=>?_) (fun I u=>?_)
  ·cases u;exact jy
  refine cd u (fun K u=>?_) (fun K u=>?_)
  ·cases u;exact jy
  refine cd u (fun L u=>?_) (fun L u=>?_)
  ·cases u;exact jy
  cases u;exact jy
 refine aU h Y (fun M h=>?_) (fun M h=>?_)
 ·refine aL [4] ?_;cases h;exact aH (aW C dU Y (RV.tmp Y) .nil Y)
 refine aE ?_;refine cU [1,2,27] ?_;refine aU h Y (fun N h=>?_) (fun N h=>?_)
 ·refine aL [4] ?_;cases h;exact aH (aW C dU Y (RV.tmp Y) .nil Y)
 refine aE ?_;refine aF ?_;refine aF ?_;obtain⟨sx,u,h⟩:=aA h;refine eH (O':=⟨[(1,.v Q0 A),(2,.ptr 101 0),(43,.v Wr.bool sx)],[(101,.box 80 [.v Q0 z.1,.v Q1 z.2.1,.v (Wr.sl pM) z.2.2.1,.v Wr.bool z.2.2.2])]⟩) ?_ ?_
 ·obtain⟨af,E,u⟩:=aA u;refine cd u (fun B u=>?_) (fun B u=>?_)
  ·cases u;exact(J.cons (.none Y) (aB 1 Y SX Y Ja Y Y) Y Y (J.cons (.none Y) (aI Y Y Y GU Ja) Y Y (J.cons (.none Y) (aD Y) Y Y (J.cons (.none Y) (aN (lU E) GG (.cons (.dir Y) (.cons (.dir Y) .nil))) Y Y (J.cons (.none Y) (Ji Y) Y Y (J.cons (.none Y) (aD Y) Y Y (J.left (GK.M5 34 Y Y Y B) Y (J.left (GK.M5 34 Y Y Y B) Y (J.left (GK.M5 34 Y Y Y B) Y (J.left (uK 37 Y Y Y) Y (J.left (uK 37 Y Y Y) Y (J.left (uK 37 Y Y Y) Y (J.left (uK 37 Y Y Y) Y (J.left (GK.M5 34 Y Y Y B) Y (J.cons (.none Y) (xW B Y Y) Y Y (J.fin (aC [])))))))))))))))))
  refine cd u (fun O u=>?_) (fun O u=>?_)
  ·cases u;refine ja 3 ?_;exact(J.k (aN (lU E) GG (.cons (.dir Y) (.cons (.dir Y) .nil))) jy)
  cases u;refine ja 3 ?_;exact(J.k (aN (lU E) GG (.cons (.dir Y) (.cons (.dir Y) .nil))) jy)
 refine aU h Y (fun P h=>?_) (fun P h=>?_)
 ·refine aL [4] ?_;cases h;exact aH (aW C dU Y (RV.tmp Y) .nil Y)
 refine aE ?_;refine cU [1,2,46,47,48] ?_;obtain⟨ah,aa,ab,ac⟩:=cF h;refine jD (σs:=fun D:Int=>⟨[(1,.v Q0 A),(2,.ptr 101 0),(46,.v (Wr.sl pM) z.2.2.1),(47,.v Q0 (z.2.2.1.length:Int)),(48,.v Q0 D)],[(101,.box 80 [.v Q0 z.1,.v Q1 z.2.1,.v (Wr.sl pM) z.2.2.1,.v Wr.bool z.2.2.2])]⟩) (fun G:Unit=>⟨[],[]⟩) aa (aC []) ?_ ?_
 ·intro G H;have h:=ab _ H;refine aL [4] ?_;cases h;exact aH (aW C dU Y (RV.tmp Y) .nil Y)
 intro D ae h;refine aL [1,2,46,47,48,49] ?_;refine aF ?_;refine aU h Y (fun Q h=>?_) (fun Q h=>?_)
 ·refine aE ?_;refine aF ?_;refine bR ?_;obtain⟨tz,ai,h⟩:=aA h;refine aJ (.a 3 ?_);refine .k (aO 113 Qe Y (.cons zI (.cons (Z.sl gK) .nil)) Y) ?_;refine .a 1 ?_;refine .t (bT Y Y Y Y s2 vN) (.f [1,2,5,6,46,47,48] ?_);refine aF ?_;obtain⟨ad,u,h⟩:=aA h;refine eH (O':=⟨[(1,.v Q0 A),(2,.ptr 101 0),(46,.v (Wr.sl pM) z.2.2.1),(47,.v Q0 (z.2.2.1.length:Int)),(48,.v Q0 D),(76,.v Wr.bool ad)],[(101,.box 80 [.v Q0 z.1,.v Q1 z.2.1,.v (Wr.sl pM) z.2.2.1,.v Wr.bool z.2.2.2])]⟩) ?_ ?_
  ·obtain⟨aj,F,u⟩:=aA u;refine cd u (fun R u=>?_) (fun R u=>?_)
   ·cases u;refine ja 3 ?_;exact(J.k (aN (lU F) GG (.cons (.dir Y) (.cons (.dir Y) .nil))) jy)
   refine cd u (fun T u=>?_) (fun T u=>?_)
   ·cases u;refine ja 3 ?_;exact(J.k (aN (lU F) GG (.cons (.dir Y) (.cons (.dir Y) .nil))) jy)
   cases u;refine ja 3 ?_;exact(J.k (aN (lU F) GG (.cons (.dir Y) (.cons (.dir Y) .nil))) jy)
  refine aU h Y (fun U h=>?_) (fun U h=>?_)
  ·refine aL [4] ?_;refine aH ?_;refine eK ?_;cases h;refine gD fun V=>?_;obtain rfl:=ac _ V;exact aW C dU Y (RV.tmp Y) .nil Y
  refine aE ?_;refine aZ ?_;refine dT [1,2,46,47,48] ?_;cases h;exact cE (aC [])
 cases h;exact cY (dK (aC []))
theorem pE{u r}(h:jJ u=some r):
 XL Tryz.prog 225 [.v (Wr.M6 pM) u] (.ref 0) [(0,.arr 197 pM r)]:=by
 refine XL.of Tryz.func225 Y Tryz.ntmps225 Y ?_;intro S w z;unfold jJ at h;refine aJ (.k (aS 101 197 pM) (.f [0] ?_));refine jQ (.a 1 ?_);refine .k (xR Y GL) (.f [0,4] ?_);refine aU h Y (fun A h=>?_) (fun A h=>?_)
 ·refine aJ (.k (aS 102 197 pM) (.f [2] ?_));cases h;exact aH (wF z dU Y (aC [(0,102)]))
 refine aE ?_;obtain⟨C,B,h⟩:=aA h;refine aJ (.k (rS (e:=pM) 103 GL vN Qe Y Y Y Y .nil) ?_);refine .a 1 ?_;refine .t (bU 104 B Y Y (.M6 Y) GL RS vN Y Y Y Y Y) (.f [2] ?_);cases h;exact aH (wF z dU Y (aC [(0,104)]))
theorem qQ{u:Gh}{r:Gh}(h:gQ u=some r):
  XL Tryz.prog 225 [.v (Wr.sl pM) u] (.ref 0) [(0,.arr 197 pM r)]:=
 rV fun b z=>pE (by cases b with | true=>rw[z rfl] at h ⊢;exact h | false=>exact Eu h)
theorem wT{u r}(h:nK u=some r):
 XL Tryz.prog 178 [.v Lm u] (.agg [.v Q0 r.1,.ref 0,.ref 1,.v Wr.bool r.2.2.2]) [(0,.arr 214 gK r.2.1),(1,.arr 197 pM r.2.2.1)]:=by
 refine XL.of Tryz.func178 Y Tryz.ntmps178 Y ?_;intro S w E;unfold nK at h;refine aJ (.k (cL 101 Y s4 Y) (.k (aO 102 SE Y (.cons zI (.cons (Z.sl gK) (.cons (Z.sl pM) (.cons Z.bool .nil)))) Y) (.f [1,2] ?_)));obtain⟨B,H,h⟩:=aA h;refine aJ (.a 2 ?_);refine .k (fP 103000 (eZ H) LI (.cons (.dir Y) .nil) Y) (.f [1,2] ?_);obtain⟨I,K,h⟩:=aA h;refine aJ (.a 2 ?_);refine .k (fP 104000 (qQ K) Tryz.call225 (.cons (.dir Y) .nil) Y) (.f [1,2] ?_);refine cU [1,2,14,15,16] ?_;obtain⟨P,L,M,Q⟩:=cF h;refine jD (σs:=fun A:Int×Gh=>⟨[(1,.ptr 101 0),(2,.ptr 102 0),(14,.ref 104000),(15,.v Q0 (I.length:Int)),(16,.v Q0 A.1)],[(101,.box 80 [.v Q0 u.1,.ref 103000,.ref 104000,.v Wr.bool u.2.2.2]),(102,.box 80 [.v Q0 (0:Int),.v Q1 ([]:Q6),.v (Wr.sl pM) ([]:Gh),.v Wr.bool false]),(104000,.arr 197 pM A.2),(103000,.arr 214 gK B)]⟩) (fun z:Gh=>⟨[(1,.ptr 101 0),(2,.ptr 102 0)],[(101,.box 80 [.v Q0 u.1,.ref 103000,.ref 104000,.v Wr.bool u.2.2.2]),(102,.box 80 [.v Q0 (0:Int),.v Q1 ([]:Q6),.v (Wr.sl pM) ([]:Gh),.v Wr.bool false]),(103000,.arr 214 gK B),(104000,.arr 197 pM z)]⟩) L (aC []) ?_ ?_
 ·intro z F;have h:=M _ F;refine aJ (.k (iB Y Y Y Fs zE) (.f [2] ?_));refine aH ?_;obtain rfl:=pT h;exact cB (O':=⟨[(2,.ptr 90 0)],[(90,.box 80 [.v Q0 u.1,.ref 0,.ref 1,.v Wr.bool u.2.2.2]),(1,.arr 197 pM z),(0,.arr 214 gK B)]⟩) (aC [(90,102),(1,104000),(0,103000)]) (aW E dU Y (Gm Y Y Y Fs zE) (.cons Y (.cons Y .nil)) Y)
 intro A O h;refine aL [1,2,14,15,16,17] ?_;refine aF ?_;refine aU h Y (fun G h=>?_) (fun G h=>?_)
 ·refine aE ?_;refine aF ?_;refine bR ?_;obtain⟨R,C,h⟩:=aA h;refine aJ (.a 1 ?_);refine .k (jE C Y Y Y GL vN) (.k (jY (dL C).2.2 Y Y .here Ow vN) (.k (aO 112 Qe Y (.cons zI (.cons (Z.sl gK) .nil)) Y) ?_));refine .a 1 ?_;refine .t (bT Y Y Y Y s2 vN) (.f [1,2,3,4,14,15,16] ?_);obtain⟨T,N,h⟩:=aA h;obtain⟨U,D,h⟩:=aA h;refine eD 8 mixed (by exact(.k (aB 2 Y SX Y UY Y Y) (.k (aI Y Y Y Tryz.isAgg78 UY) (.k (aD Y) (.k (aB 1 Y AM Y Ja Y Y) (.k (aI Y Y Y GU Ja) (.k (Qx (fP 113000 (eZ N) LI (.cons (.dir Y) .nil) Y) (fun _=>(Sw.Sub.mk id (.cons Y (.N1 Y Y) .nil) .nil Y)) Y) (.k (jE D Y Y Y GL vN) (.k (Bf 1 Y AM Y Ja Y Y) .nil))))))))) (by exact(J.t (Va (dL D).2.2 Y Y Y (.snd .here) Ja) (J.kp [1,2,14,15,16] []))) ?_;refine aZ ?_;refine dT [1,2,14,15,16] ?_;cases h;exact cE (aC [])
 cases h;exact cY (dK (aC []))
theorem Ck{u z r}(h:tB u z=some r):
 XL Tryz.prog 221 [.v gK u,.v Q0 z] (.v Q0 r) []:=by
 refine XL.of Tryz.func221 Y Tryz.ntmps221 Y ?_;intro S w A;unfold tB at h;refine aJ (.k (cL 101 Y s2 Y) (.f [1,2] ?_));refine aL [4] ?_;cases h;exact aH (aW A dU Y (RV.tmp Y) .nil Y)
theorem jW{z A r}(h:cA z A=some r):
 XL Tryz.prog 220 [.v Q1 z,.v Q0 A,.o7 221 []] (.XU [.v Q0 r.1,.v Wr.bool r.2]) []:=by
 refine XL.of Tryz.func220 Y Tryz.ntmps220 Y ?_;intro S w E;unfold cA at h;refine aL [0,1,2] ?_;refine aL [0,1,2,8] ?_;refine aL [0,1,2,8,9,10] ?_;refine aF ?_;obtain⟨P,I,K,Q⟩:=cF h;refine jD (σs:=fun C:Int×Int=>⟨[(0,.v Q1 z),(1,.v Q0 A),(2,.o7 221 []),(8,.v Q0 (z.length:Int)),(9,.v Q0 C.1),(10,.v Q0 C.2)],[]⟩) (fun B:Int=>⟨[(0,.v Q1 z),(1,.v Q0 A),(2,.o7 221 []),(8,.v Q0 (z.length:Int)),(9,.v Q0 B)],[]⟩) I (aC []) ?_ ?_
 ·intro B F;have h:=K _ F;refine aF ?_;obtain⟨L,u,h⟩:=aA h;refine eH (O':=⟨[(6,.v Q0 B),(7,.v Wr.bool L)],[]⟩) ?_ ?_
  ·refine cd u (fun D u=>?_) (fun D u=>?_)
   ·obtain⟨R,T,u⟩:=aA u;obtain⟨U,M,u⟩:=aA u;cases u;refine ja 11 ?_;exact(J.g D (tZ Y (Ck M) Tryz.call221 (.cons (.dir Y) (.cons (.dir Y) .nil))) jy)
   cases u;exact jy
  cases h;exact aH (bS E dU Y (RV.tmp Y) (RV.tmp Y) .nil Y)
 intro C O h;refine cU [0,1,2,8,9,10,17] ?_;refine aU h Y (fun G h=>?_) (fun G h=>?_)
 ·refine aE ?_;refine bR ?_;refine aJ (.a 4 ?_);refine .k (fF (.inr Y) (by decide) Y Y) (.f [0,1,2,8,9,10,11] ?_);obtain⟨V,X,h⟩:=aA h;obtain⟨aa,N,h⟩:=aA h;refine aJ (.a 6 ?_);refine .k (tZ Y (Ck N) Tryz.call221 (.cons (.dir Y) (.cons (.dir Y) .nil))) (.f [0,1,2,8,9,10,11,31] ?_);refine aU h Y (fun H h=>?_) (fun H h=>?_)
  ·refine dT [0,1,2,8,9,10] ?_;cases h;exact aZ (cE (aC []))
  refine dT [0,1,2,8,9,10] ?_;cases h;exact aZ (cE (aC []))
 cases h;exact cY (dK (aC []))
theorem uJ(A0:Nat->Nat){C:Q6}{F:Int}{u:Q6}{r:Q6}(h:gM C F u=some r):
 XA Tryz.prog 222 [.ref 9000,.v Q0 F,.v Q1 u] [(9000,.arr 214 gK C)] (.ref 0) [(0,.arr 214 gK r)]:=by
  obtain⟨h0,h1,h2,rfl⟩:=HZ h;obtain⟨i,rfl⟩:∃i:Nat,F=(i:Int):=⟨F.toNat,by omega⟩;obtain⟨A,B,hA,rfl⟩:∃A B,A.length=i/\C=A++B:=⟨C.take i,C.drop i,by rw[I8];omega,(db _ _).symm⟩;subst hA;have L:(A++B).take ((A.length:Int)).toNat++(u++(A++B).drop ((A.length:Int)).toNat)=A++(u++B):=by simp
  rw[L];clear L h h0 h1;have M:(A++B).length=A.length+B.length:=sM;have Q:Sw.sub (A++B) (A.length:Int) ((A++B).length:Int)=some B:=by rw[Sw.sub,YC (by omega),A5,A5,aDd,tv]
  have G:ar .add .i64 ((A++B).length:Int) (u.length:Int)=((A.length+B.length+u.length:Nat):Int):=by simp only[ar,IntKind.wrap_i64];omega
  have T:ar .sub .i64 (ar .add .i64 ((A++B).length:Int) (u.length:Int)) (A.length:Int)=((B.length+u.length:Nat):Int):=by rw[G];simp only[ar,IntKind.wrap_i64];omega
  have D:ar .add .i64 (A.length:Int) (u.length:Int)=((A.length+u.length:Nat):Int):=by simp only[ar,IntKind.wrap_i64];omega
  refine XA.of Tryz.func222 Y Tryz.ntmps222 Y ?_;intro S w R I
  repeat refine aF ?_
  refine eU (.k (mX gK) (.f [0,1,2] ?_))
  repeat refine aF ?_
  refine eU (.a 2 ?_);refine .k (Lx Q Y Y Y yM jZ) (.f [0,1,2] ?_)
  repeat refine aF ?_
  refine dT [0,1,2,7] ?_
  repeat refine aF ?_
  refine dT [0,1,2,7,16] ?_
  repeat refine aF ?_
  rcases aC9 (cm .eql (u.length:Int) (0:Int)) with z | z
  ·have K:u=[]:=kt (by simp[cm] at z;simp[z]);have U:A++B=A++(u++B):=(by rw[K];rfl);refine vX Y z ?_
   repeat refine aF ?_
   refine dT [0,1,2,6,7,16,17] ?_;refine aH ?_;rw[U];exact fA I Y (aC [(0,9000)])
  have V:0<u.length:=by
   simp[cm] at z;exact sb.2 z
  have K:u≠ []:=sb.1 V;refine Bg Y z ?_;clear z
  repeat first | refine aE ?_ | refine aF ?_
  refine dT [0,1,2,7,8] ?_
  repeat refine aF ?_
  refine dT [0,1,2,7,8,22] ?_
  repeat refine aF ?_
  rcases aC9 (cm .eql (A.length:Int) ((A++B).length:Int)) with z | z
  ·have E:B=[]:=kt (by simp[cm] at z;omega);have X:Sw.app (A++B) u=some (A++(u++B)):=(by subst E;rw[Sw.app,YC h2];simp);refine vX Y z ?_
   repeat refine aF ?_
   refine eU (.a 2 ?_);refine .t (bU 1 X Y Y (.sl Y) yM Lo jZ Y Y Y Y Y) (.f [1,2,6,7,8,24,25] ?_);refine aH ?_;exact fA I Y (aC [(0,1)])
  have E:B≠ []:=by
   rintro rfl;simp[cm] at z
  have ad:=sb.2 E;refine Bg Y z ?_;clear z
  repeat first | refine aE ?_ | refine aF ?_
  refine Qy (t:=0) (g':=[(1,.v Q0 (A.length:Int)),(2,.v Q1 u),(7,.v Q0 (u.length:Int)),(8,.v Q0 ((A++B).length:Int))]) Y E Y (by exact(.cons Y (.cons Y (.cons Y (.cons Y .nil))))) Y fun b p q c m9 P u9=>?_;have H:(gK).n=9:=rfl;refine eU (.a 4 ?_);refine .k (DX Y yM) (.k (DY Y Y) (.f [0,1,2,7,8,31] ?_))
  repeat refine aF ?_
  rcases aC9 (cm .gtr (ar .add .i64 ((A++B).length:Int) (u.length:Int)) (c:Int)) with z | z
  ·have ae:c<A.length+(B.length+u.length):=by
    rw[G] at z;simp[cm] at z;omega
   refine vX Y z ?_;clear z
   repeat refine aF ?_
   refine eU (.a 2 ?_);refine .k (Fa (e:=gK) A.length Y (by omega) Y Y Y yM jZ) ?_;refine .a 5 ?_;refine .k (HY (z0:=_) (zv:=((0:Int),aQ)) 1 Y Y Y Y Y T (by omega) (by omega) (by omega) Y yM U3 Lo jZ Y (Z.pr zI (Z.arr 8 (Z.int .u8))) Y) (.f [0,1,2,7,8,9] ?_);have N:Sw.sub (A++List.replicate (B.length+u.length) ((0:Int),aQ)) (A.length:Int) (((A++List.replicate (B.length+u.length) ((0:Int),aQ))).length:Int)=some (List.replicate (B.length+u.length) ((0:Int),aQ)):=by
    rw[Sw.sub,YC (by simp only[sM,sc];omega),A5,A5,aDd,tv]
   have aa:u.length<=((A++List.replicate (B.length+u.length) ((0:Int),aQ))).length - Int.toNat (A.length:Int):=by
    simp only[sM,sc];omega
   repeat refine aF ?_
   refine eU (.a 2 ?_);refine .k (Lx N Y Y Y yM jZ) ?_;refine .a 1 ?_;refine .t (Nj N Y Y (.sl Y) aa yM jZ Y) (.f [0,1,2,7,8,9] ?_);have J6:List.take (Int.toNat (A.length:Int)) (A++List.replicate (B.length+u.length) ((0:Int),aQ))++u++List.drop (Int.toNat (A.length:Int)+u.length) (A++List.replicate (B.length+u.length) ((0:Int),aQ))=(A++(u++List.replicate B.length ((0:Int),aQ))):=by
    simp[aD6,List.drop_replicate]
   rw[J6];have O:Sw.sub (A++(u++List.replicate B.length ((0:Int),aQ))) (ar .add .i64 (A.length:Int) (u.length:Int)) (((A++(u++List.replicate B.length ((0:Int),aQ)))).length:Int)=some (List.replicate B.length ((0:Int),aQ)):=by
    rw[D,Sw.sub,YC (by simp only[sM,sc];omega),A5,A5,aDd,<-H7,List.drop_left' (by rw[sM])]
   have ab:B.length<=((A++(u++List.replicate B.length ((0:Int),aQ)))).length - Int.toNat (ar .add .i64 (A.length:Int) (u.length:Int)):=by
    rw[D];simp only[sM,sc];omega
   repeat refine aF ?_
   refine eD 8 mixed (by exact(.k (aD Y) (.k (aD Y) (.k (aD Y) (.k (cZ Y Y Y) (.k (Lx O Y Y Y yM jZ) (.k (aD Y) (.k (aD Y) (.k (Ae (e:=gK) (p+A.length*(gK).n) B.length (c - A.length) Y (by omega) (by omega) Y (by omega) Y Y Y yM jZ) .nil))))))))) (by exact(J.t (Nj O Y Y (.P6 Y Y Y Y (by omega)) ab yM jZ Y) (J.kp [0,1,2,7,8,9,53] []))) ?_;have dw:(List.take (Int.toNat (ar .add .i64 (A.length:Int) (u.length:Int))) (A++(u++List.replicate B.length ((0:Int),aQ)))++B++List.drop (Int.toNat (ar .add .i64 (A.length:Int) (u.length:Int))+B.length) (A++(u++List.replicate B.length ((0:Int),aQ))))=A++(u++B):=by
    rw[D,A5,<-H7 A u (List.replicate _ _),List.take_left' (by rw[sM]),aD0 (by simp only[sM,sc];omega)];simp
   rw[dw]
   repeat refine aF ?_
   refine dT [0,1,2,6,7,8,9,53,55] ?_;refine aH ?_;exact fA I Y (aC [(0,1)])
  ·have ac:A.length+B.length+u.length<=c:=by
    rw[G] at z;simp[cm] at z;omega
   have hq:u.length*(gK).n<=q:=by
    rw[H,M] at P;rw[H];omega
   refine Bg Y z ?_;clear z
   repeat first | refine aE ?_ | refine aF ?_
   refine eU (.a 4 ?_);refine .k (Fa (e:=gK) (A.length+B.length+u.length) G (by omega) Y Y Y yM jZ) (.f [0,1,2,7,8] ?_)
   repeat refine aF ?_
   refine eU (.a 5 ?_);refine .k (Ae (e:=gK) (p+(A.length+u.length)*(gK).n) B.length (c - (A.length+u.length)) D (by omega) (by omega) Y (by omega) Y Y Y yM jZ) (.k (Vf Tryz.func251 (by kernel_rfl) (by kernel_rfl) (by kernel_rfl) (R:=4) (by kernel_rfl) Y Y Y K E Y yM jZ) (.f [0,1,2,7,8,68] ?_))
   repeat refine aF ?_
   refine vX Y Y ?_
   repeat refine aF ?_
   refine eD 8 mixed (by exact(.k (aD Y) (.k (aD Y) (.k (aD Y) (.k (cZ Y Y Y) (.k (Ae (e:=gK) (p+(A.length+u.length)*(gK).n) B.length (c - (A.length+u.length)) D (by omega) (by omega) Y (by omega) Y Y Y yM jZ) (.k (aD Y) (.k (aD Y) (.k (Ae (e:=gK) (p+A.length*(gK).n) (B.length+u.length) (c - A.length) Y (by omega) (by omega) Y (by omega) Y Y Y yM jZ) .nil))))))))) (by exact(J.t (Ve (m:=u.length) Y Y Y Y Y Y Y hq (by omega) yM jZ Y) (J.kp [0,1,2,7,8] []))) ?_
   repeat refine aF ?_
   refine eU (.a 2 ?_);refine .k (Ae (e:=gK) (p+A.length*(gK).n) (B.length+u.length) (c - A.length) Y (by omega) (by omega) Y (by omega) Y Y Y yM jZ) ?_;refine .a 1 ?_;refine .t (Yv Y Y (.sl Y) Y Y Y (by omega) yM jZ Y) (.f [0] ?_);refine wV (Bq (t:=0) (by simp only[sM];omega) ac (by rw[H,M] at P;rw[H];omega) (by omega) Y) ?_
   repeat refine aF ?_
   refine dT [0,6,83] ?_;refine aH ?_;exact fA I Y (aC [(0,9000)])
theorem Qi{u G C r}(h:uB u G C=some r):
 XL Tryz.prog 164 [.v Lm u,.v Q0 G,.v gK C] (.XU [.v Lm r.1,.v Q9 r.2]) []:=by
 refine XL.of Tryz.func164 Y Tryz.ntmps164 Y ?_;intro S w D;unfold uB at h;refine aJ (.k (cL 101 Y s4 Y) (.k (cL 102 Y s2 Y) (.k (aO 103 SE Y (.cons zI (.cons (Z.sl gK) (.cons (Z.sl pM) (.cons Z.bool .nil)))) Y) (.f [1,3,5,6] ?_))));obtain⟨M,N,h⟩:=aA h;refine jQ (.k (aT Y Y s4 Fs zE) ?_);refine .a 1 ?_;refine .k (aN (tN N) PC (.cons (.dir Y) (.cons (.dir Y) .nil))) (.f [1,3,5,6,8] ?_);refine aL [1,3,5,6,8,15] ?_;refine aU h Y (fun I h=>?_) (fun I h=>?_)
 ·refine aJ (.k (bQ zF (.cons zI (.cons (Z.sl gK) (.cons (Z.sl pM) (.cons Z.bool .nil)))) .nil) (.f [6,7] ?_));refine aH ?_;obtain rfl:=pT h;exact cB (O':=⟨[(6,.ptr 90 0),(7,.v Q9 M)],[(90,.box 80 [.v Q0 (0:Int),.v Q1 ([]:Q6),.v (Wr.sl pM) ([]:Gh),.v Wr.bool false])]⟩) (aC [(90,103)]) (bS D dU Y (aV Y Y s4 Fs zE) (RV.tmp Y) .nil Y)
 refine aE ?_;refine aF ?_;refine aF ?_;obtain⟨O,B,h⟩:=aA h;refine eH (O':=⟨[(3,.ptr 101 0),(5,.ptr 102 0),(6,.ptr 103 0),(26,.v Wr.bool O)],[(101,.box 80 [.v Q0 u.1,.v Q1 u.2.1,.v (Wr.sl pM) u.2.2.1,.v Wr.bool u.2.2.2]),(102,.box 214 [.v Q0 C.1,.v aM C.2]),(103,.box 80 [.v Q0 (0:Int),.v Q1 ([]:Q6),.v (Wr.sl pM) ([]:Gh),.v Wr.bool false])]⟩) ?_ ?_
 ·refine cd B (fun K B=>?_) (fun K B=>?_)
  ·cases B;exact jy
  cases B;exact jy
 refine aU h Y (fun L h=>?_) (fun L h=>?_)
 ·refine aJ (.k (bQ zF (.cons zI (.cons (Z.sl gK) (.cons (Z.sl pM) (.cons Z.bool .nil)))) .nil) (.f [6,7] ?_));refine aH ?_;obtain rfl:=pT h;exact cB (O':=⟨[(6,.ptr 90 0),(7,.v Q9 (some (1:Int)))],[(90,.box 80 [.v Q0 (0:Int),.v Q1 ([]:Q6),.v (Wr.sl pM) ([]:Gh),.v Wr.bool false])]⟩) (aC [(90,103)]) (bS D dU Y (aV Y Y s4 Fs zE) (RV.tmp Y) .nil Y)
 refine aE ?_;obtain⟨z,P,h⟩:=aA h;refine aJ (.k (aT Y Y s4 Fs zE) (.k (fP 105000 (wT P) Tryz.call178 (.cons (.dir Y) .nil) Y) (.f [3,5,6] ?_)));obtain⟨V,Q,h⟩:=aA h;refine aJ (.a 4 ?_);refine .k (rU (jW Q) Tryz.call220 (.cons (.ref Y Y) (.cons (.dir Y) (.cons .fn .nil))) (YZ.XU (.v (.v .nil)))) (.f [3,5,6,9,10] ?_);refine cU [3,5,6,9,39] ?_;obtain⟨R,T,h⟩:=fE h;refine sY (fun E:Q6=>⟨[(3,.ptr 101 0),(6,.ptr 103 0)],[(101,.box 80 [.v Q0 z.1,.ref 108,.ref 105001,.v Wr.bool z.2.2.2]),(103,.box 80 [.v Q0 (0:Int),.v Q1 ([]:Q6),.v (Wr.sl pM) ([]:Gh),.v Wr.bool false]),(108,.arr 214 gK E),(105001,.arr 197 pM z.2.2.1)]⟩) (fun x=>R x=some r) Y ?_ ?_ ?_
 ·intro E h;rw[T] at h;refine aJ (.k (iB Y Y Y Fs zE) (.f [6,7] ?_));refine aH ?_;obtain rfl:=pT h;exact cB (O':=⟨[(6,.ptr 90 0),(7,.v Q9 (none:Option Int))],[(90,.box 80 [.v Q0 z.1,.v Q1 E,.v (Wr.sl pM) z.2.2.1,.v Wr.bool z.2.2.2])]⟩) (aC [(90,103)]) (bS D dU Y (aV Y Y s4 Fs zE) (RV.tmp Y) .nil Y)
 ·intro F;replace h:=iJ F h;obtain⟨X,H,h⟩:=aA h;refine eU (.a 3 ?_);refine .k (aT Y Y s2 AK jZ) (.k (jE H Y Y Y yM jZ) (.t (rD (dL H).2.2 Y Y Y jZ) (.f [3,6] ?_)));exact bY h (aC [(108,105000)])
 ·intro F;replace h:=iK F h;obtain⟨K3,U,h⟩:=aA h;refine eU (.a 3 ?_);refine .k (aT Y Y s2 AK jZ) (.k (dN (e:=gK) yM jZ Fu Y Y Y Y (.cons (.dir Y) .nil)) (.t (eN [105000] (Cf [(9000,105000),(0,109)]) (eW _) (fun A=>uJ A U) Tryz.call222 (fun A=>(.arr .nil Y))) (.f [3,6] ?_)));exact bY h (aC [(108,109)])
theorem uY(A:Nat->Nat){V X b0 u z B b4 b5 C D E F G H I K L M N O P Q T U r}(h:eY V X b0 u z B b4 b5 C D E F G H I K L M N O P Q T U=some r):
 XA Tryz.prog 105 [.ptr 9000 0,.v Q0 V,.v aM X] (kM 9000 (some (A 9000)) 9100 (some (A 9100)) 9200 (some (A 9200)) 9050 9051 9052 9053 b0 u z B b4 b5 C D E F G H I K L M N O P Q T U) (.v Q9 r.1) (kM 9000 (some (A 9000)) 9100 (some (A 9100)) 9200 (some (A 9200)) 400 401 402 403 b0 u z B r.2.1 r.2.2 C D E F G H I K L M N O P Q T U):=by
 refine XA.of Tryz.func105 Y Tryz.ntmps105 Y ?_;intro S w R hF;unfold eY at h;refine aJ (.k (cL 101 Y sO Y) (.f [0,1,5] ?_));refine aF ?_;obtain⟨v1,XO,h⟩:=aA h;refine eD 19 mixed (by exact(.k (aD Y) (.k (aK Y) (.k (aB 1 Y Ud Y QG Y Y) (.k (aB 6 Y wD Y zE Y Y) (.k (aI Y Y Y Fs zE) (.k (aD Y) (.k (aK Y) (.k (aB 0 Y Ud Y S3 Y Y) (.k (aI Y Y Y G3 S3) (.k (aD Y) (.k (aI Y Y Y uW kW) (.k (bQ wJ (.cons zI (.cons (Z.arr 8 (Z.int .u8)) .nil)) (.cons Y (.dir Y) Y Y Y Y (.cons Y (.dir Y) Y Y Y Y .nil))) (.k (aN (Qi XO) Tryz.call164 (.cons (.dir Y) (.cons (.dir Y) (.cons (.agg Y (.same (.same .nil)) s2 Y) .nil)))) (.k (aD Y) (.k (bW Y Y) (.k (bW Y Y) (.k (aO 103 SE Y (.cons zI (.cons (Z.sl gK) (.cons (Z.sl pM) (.cons Z.bool .nil)))) Y) (ZA.storeAll (.none Y) Y Y Y Y s4 zE (.k (bN Y) .nil)))))))))))))))))))) (by exact(J.kp [0,1,5,7,8] [])) ?_;refine cU [0,1,5,7,8,26] ?_;refine aU h Y (fun ZG h=>?_) (fun ZG h=>?_)
 ·refine aL [0,6] ?_;cases h;exact aH (fA hF Y (aC [(403,9053),(402,9052),(401,9051),(400,9050)]))
 refine aE ?_;refine aF ?_;obtain⟨z3,dw,h⟩:=aA h;refine eD 14 mixed (by exact(.k (aD Y) (.k (aD Y) (.k (aK Y) (.k (aB 1 Y Ud Y QG Y Y) (.k (aB 5 Y wD Y yL Y Y) (.k (aI Y Y Y Uo yL) (.k (aD Y) (.k (aT Y Y s4 Fs zE) (.k (aI Y Y Y uW kW) (.k (aK Y) (.k (aB 1 Y Ud Y QG Y Y) (.k (aB 6 Y wD Y zE Y Y) (ZA.store (.none Y) Y Y Y Y Y Y Y zE (.k (jE dw Y Y Y Kf kW) .nil))))))))))))))) (by exact(J.t (rD (dL dw).2.2 Y Y Y kW) (J.kp [0] []))) ?_;refine aL [0,6] ?_;cases h;exact aH (fA hF Y (aC [(403,9053),(402,9052),(401,9051),(400,9050)]))
theorem Cs(A:Nat->Nat){u b0 z B C D E F G H I K L M N O P Q T U V X bL r}(h:nT u b0 z B C D E F G H I K L M N O P Q T U V X bL=some r):
 XA Tryz.prog 104 [.ptr 9000 0,.v Q4 u] (kM 9000 (some (A 9000)) 9100 (some (A 9100)) 9200 (some (A 9200)) 9050 9051 9052 9053 b0 z B C D E F G H I K L M N O P Q T U V X bL) (.XU [.v aM r.1,.v Q9 r.2.1]) (Uf 9000 (some (A 9000)) 301 none 302 none 400 401 402 403 r.2.2):=by
 refine XA.of Tryz.func104 Y Tryz.ntmps104 Y ?_;intro S w R hF;unfold nT at h;refine aJ (.k (cL 101 Y s4 Y) (.k (aO 102 Cb Y (.cons (Z.arr 8 (Z.int .u8)) .nil) Y) (.f [0,3,4] ?_)));obtain⟨v1,XO,h⟩:=aA h;refine aJ (.k (cV (e:=aM) (v:=aQ) An vG I5 Y Y (Z.arr 8 (Z.int .u8))) ?_);refine .a 5 ?_;refine .t (eN [9000,9100,9200,9050,9051,9052,9053] (vC [(9000,9000),(9100,9100),(9200,9200),(9050,9050),(9051,9051),(9052,9052),(9053,9053),(400,103),(401,104),(402,105),(403,106)]) (dF Y) (fun A=>uY A XO) Tryz.call105 (fun A=>(.box Y (.box Y (.box Y (.arr (.mp (.arr (.arr .nil Y) Y) Y) Y) Y) Y) Y))) (.f [0,4,5] ?_);refine aH ?_;obtain rfl:=pT h;exact kX [(0,.ptr 9000 0),(4,.ptr 90 0),(5,.v Q9 v1.1)] [(90,.box 30 [.v aM aQ])] (aC [(90,102),(403,106),(302,9200),(402,105),(401,104),(400,103),(301,9100)]) (eA hF Y (cO Y Y Y uW kW) (RV.tmp Y) (.cons Y (.cons Y (.cons Y (.cons Y (.cons Y (.cons Y (.cons Y .nil))))))))
theorem Ct(A:Nat->Nat){u b0 z B C D E F G H I K L M N O P Q T U V X bL r}(h:nU u b0 z B C D E F G H I K L M N O P Q T U V X bL=some r):
 XA Tryz.prog 106 [.ptr 9000 0,.v Q4 u] (kM 9000 (some (A 9000)) 9100 (some (A 9100)) 9200 (some (A 9200)) 9050 9051 9052 9053 b0 z B C D E F G H I K L M N O P Q T U V X bL) (.XU [.v aM r.1,.v Q9 r.2.1]) (Uf 9000 (some (A 9000)) 301 none 302 none 400 401 402 403 r.2.2):=by
 refine XA.of Tryz.func106 Y Tryz.ntmps106 Y ?_;intro S w R hF;unfold nU at h;refine aJ (.k (cL 101 Y s4 Y) (.k (aO 102 Cb Y (.cons (Z.arr 8 (Z.int .u8)) .nil) Y) (.f [0,3,4] ?_)));obtain⟨v1,XO,h⟩:=aA h;refine aJ (.k (cV (e:=aM) (v:=aQ) An vG I5 Y Y (Z.arr 8 (Z.int .u8))) ?_);refine .a 3 ?_;refine .k (cV (e:=aM) (v:=aQ) An vG I5 Y Y (Z.arr 8 (Z.int .u8))) (.t (eN [9000,9100,9200,9050,9051,9052,9053] (vC [(9000,9000),(9100,9100),(9200,9200),(9050,9050),(9051,9051),(9052,9052),(9053,9053),(400,103),(401,104),(402,105),(403,106)]) (dF Y) (fun A=>uY A XO) Tryz.call105 (fun A=>(.box Y (.box Y (.box Y (.arr (.mp (.arr (.arr .nil Y) Y) Y) Y) Y) Y) Y))) (.f [0,4,5] ?_));refine aH ?_;obtain rfl:=pT h;exact kX [(0,.ptr 9000 0),(4,.ptr 90 0),(5,.v Q9 v1.1)] [(90,.box 30 [.v aM aQ])] (aC [(90,102),(403,106),(302,9200),(402,105),(401,104),(400,103),(301,9100)]) (eA hF Y (cO Y Y Y uW kW) (RV.tmp Y) (.cons Y (.cons Y (.cons Y (.cons Y (.cons Y (.cons Y (.cons Y .nil))))))))
theorem At(A:Nat->Nat){a1 b0 z B C D E F G H I K L M N O P Q T U V X bL r}(h:gB a1 b0 z B C D E F G H I K L M N O P Q T U V X bL=some r):
 XA Tryz.prog 108 [.ptr 9000 0,.v Q0 a1] (kM 9000 (some (A 9000)) 9100 (some (A 9100)) 9200 (some (A 9200)) 9050 9051 9052 9053 b0 z B C D E F G H I K L M N O P Q T U V X bL) (.XU [.v aM r.1,.v Q9 r.2]) (kM 9000 (some (A 9000)) 9100 (some (A 9100)) 9200 (some (A 9200)) 400 401 402 403 b0 z B C D E F G H I K L M N O P Q T U V X bL):=by
 refine XA.of Tryz.func108 Y Tryz.ntmps108 Y ?_;intro S w R hF;unfold gB at h;refine aJ (.k (aO 101 Cb Y (.cons (Z.arr 8 (Z.int .u8)) .nil) Y) (.f [0,1,4] ?_));refine aF ?_;refine aF ?_;obtain⟨x2,u,h⟩:=aA h;refine eH (O':=⟨[(0,.ptr 9000 0),(1,.v Q0 a1),(4,.ptr 101 0),(15,.v Wr.bool x2)],((101,.box 30 [.v aM aQ])::kM 9000 (some (A 9000)) 9100 (some (A 9100)) 9200 (some (A 9200)) 9050 9051 9052 9053 b0 z B C D E F G H I K L M N O P Q T U V X bL)⟩) ?_ ?_
 ·refine cd u (fun u9 u=>?_) (fun u9 u=>?_)
  ·cases u;exact jy
  cases u;exact jy
 refine aU h Y (fun u6 h=>?_) (fun u6 h=>?_)
 ·refine aJ (.k (cV (e:=aM) (v:=aQ) An vG I5 Y Y (Z.arr 8 (Z.int .u8))) (.f [0,4,5] ?_));refine aH ?_;obtain rfl:=pT h;exact kX [(0,.ptr 9000 0),(4,.ptr 90 0),(5,.v Q9 (some (1:Int)))] [(90,.box 30 [.v aM aQ])] (aC [(90,101),(403,9053),(402,9052),(401,9051),(400,9050)]) (eA hF Y (cO Y Y Y uW kW) (RV.tmp Y) (.cons Y (.cons Y (.cons Y (.cons Y (.cons Y (.cons Y (.cons Y .nil))))))))
 refine aE ?_;obtain⟨z5,td,h⟩:=aA h;refine aJ (.a 6 ?_);refine .k (jE td Y Y Y Kf kW) (.k (jY (dL td).2.2 Y Y .here uW kW) (.f [0,4,5] ?_));refine aH ?_;obtain rfl:=pT h;exact kX [(0,.ptr 9000 0),(4,.ptr 90 0),(5,.v Q9 (none:Option Int))] [(90,.box 30 [.v aM z5])] (aC [(90,101),(403,9053),(402,9052),(401,9051),(400,9050)]) (eA hF Y (cO Y Y Y uW kW) (RV.tmp Y) (.cons Y (.cons Y (.cons Y (.cons Y (.cons Y (.cons Y (.cons Y .nil))))))))
theorem Cu(A:Nat->Nat){u b0 z B C D E F G H I K L M N O P Q T U V X bL r}(h:nV u b0 z B C D E F G H I K L M N O P Q T U V X bL=some r):
 XA Tryz.prog 107 [.ptr 9000 0,.v Q4 u] (kM 9000 (some (A 9000)) 9100 (some (A 9100)) 9200 (some (A 9200)) 9050 9051 9052 9053 b0 z B C D E F G H I K L M N O P Q T U V X bL) (.XU [.v aM r.1,.v Q9 r.2.1]) (Uf 9000 (some (A 9000)) 301 none 302 none 400 401 402 403 r.2.2):=by
 refine XA.of Tryz.func107 Y Tryz.ntmps107 Y ?_;intro S w R hF;unfold nV at h;refine aJ (.k (cL 101 Y s4 Y) (.k (aO 102 Cb Y (.cons (Z.arr 8 (Z.int .u8)) .nil) Y) (.f [0,3,4] ?_)));obtain⟨v1,XO,h⟩:=aA h;refine aJ (.a 3 ?_);refine .t (eN [9000,9100,9200,9050,9051,9052,9053] (vC [(9000,9000),(9100,9100),(9200,9200),(9050,9050),(9051,9051),(9052,9052),(9053,9053),(400,103),(401,104),(402,105),(403,106)]) (dF Y) (fun A=>At A XO) Tryz.call108 (fun A=>(.box Y (.box Y (.box Y (.arr (.mp (.arr (.arr .nil Y) Y) Y) Y) Y) Y) Y))) (.f [0,4,5] ?_);refine aH ?_;obtain rfl:=pT h;exact kX [(0,.ptr 9000 0),(4,.ptr 90 0),(5,.v Q9 v1.2)] [(90,.box 30 [.v aM v1.1])] (aC [(90,102),(403,106),(302,9200),(402,105),(401,104),(400,103),(301,9100)]) (eA hF Y (cO Y Y Y uW kW) (RV.tmp Y) (.cons Y (.cons Y (.cons Y (.cons Y (.cons Y (.cons Y (.cons Y .nil))))))))
theorem Au(A:Nat->Nat){U V b0 u X z B C D E F G H I K L M N O P bI bJ Q T r}(h:jX U V b0 u X z B C D E F G H I K L M N O P bI bJ Q T=some r):
 XA Tryz.prog 165 [.ptr 9000 1,.v Q1 U,.v Q0 V] (kM 9000 (some (A 9000)) 9100 (some (A 9100)) 9200 (some (A 9200)) 9050 9051 9052 9053 b0 u X z B C D E F G H I K L M N O P bI bJ Q T) (.v Q9 r.1) (kM 9000 (some (A 9000)) 9100 (some (A 9100)) 9200 (some (A 9200)) 400 401 402 403 b0 u r.2.1 z B C D E F G H I K L M N O P r.2.2.1 r.2.2.2 Q T):=by
 refine XA.of Tryz.func165 Y Tryz.ntmps165 Y ?_;intro S w R hF;unfold jX at h;refine aL [0,1,2] ?_;refine aF ?_;refine aF ?_;obtain⟨v1,XO,h⟩:=aA h;refine eD 10 mixed (by exact(.k (aD Y) (.k (aK Y) (.k (aB 1 Y Ft Y Iz Y Y) (.k (aI Y Y Y Ox Iz) (.k (aD Y) (.k (aD Y) (.k (aD Y) (.k (aK Y) (.k (aB 4 Y Ft Y S3 Y Y) (.k (aI Y Y Y G3 S3) .nil))))))))))) (by exact(J.t (eN [9100] (Cf [(9000,9100)]) (eW _) (fun A=>iA A XO) LH (fun A=>(.box Y .nil Y))) (jz [0,2,7]))) ?_;refine aL [0,2,7,20] ?_;refine aU h Y (fun ZG h=>?_) (fun ZG h=>?_)
 ·refine aL [0,6] ?_;cases h;exact aH (fA hF Y (aC [(403,9053),(402,9052),(401,9051),(400,9050)]))
 refine aE ?_;refine aL [0] ?_;refine aL [0,6] ?_;cases h;exact aH (fA hF Y (aC [(403,9053),(402,9052),(401,9051),(400,9050)]))
theorem Pf{A B r}(h:sB A B=some r):
 XL Tryz.prog 166 [.v Lm A,.v Q0 B] (.XU [.v Lm r.1,.v Q9 r.2]) []:=by
 refine XL.of Tryz.func166 Y Tryz.ntmps166 Y ?_;intro S w z;unfold sB at h;refine aJ (.k (cL 101 Y s4 Y) (.k (aO 102 SE Y (.cons zI (.cons (Z.sl gK) (.cons (Z.sl pM) (.cons Z.bool .nil)))) Y) (.f [1,2,4] ?_)));obtain⟨G,H,h⟩:=aA h;refine jQ (.k (aT Y Y s4 Fs zE) ?_);refine .a 1 ?_;refine .k (aN (tN H) PC (.cons (.dir Y) (.cons (.dir Y) .nil))) (.f [2,4,6] ?_);refine aL [2,4,6,11] ?_;refine aU h Y (fun C h=>?_) (fun C h=>?_)
 ·refine aJ (.k (fO (new:=[(104,.arr 197 pM ([]:Gh))]) zF (.cons zI (.cons (Z.sl gK) (.ref 104 Y (.cons Z.bool .nil)))) (.cons .nil) Y .nil) (.f [4,5] ?_));refine aH ?_;obtain rfl:=pT h;exact cB (O':=⟨[(4,.ptr 90 0),(5,.v Q9 G)],[(90,.box 80 [.v Q0 (0:Int),.v Q1 ([]:Q6),.v (Wr.sl pM) ([]:Gh),.v Wr.bool false])]⟩) (aC [(90,102)]) (bS z dU Y (aV Y Y s4 Fs zE) (RV.tmp Y) .nil Y)
 refine aE ?_;refine cU [2,4,16] ?_;refine aU h Y (fun D h=>?_) (fun D h=>?_)
 ·refine aJ (.k (fO (new:=[(105,.arr 197 pM ([]:Gh))]) zF (.cons zI (.cons (Z.sl gK) (.ref 105 Y (.cons Z.bool .nil)))) (.cons .nil) Y .nil) (.f [4,5] ?_));refine aH ?_;obtain rfl:=pT h;exact cB (O':=⟨[(4,.ptr 90 0),(5,.v Q9 (some (2:Int)))],[(90,.box 80 [.v Q0 (0:Int),.v Q1 ([]:Q6),.v (Wr.sl pM) ([]:Gh),.v Wr.bool false])]⟩) (aC [(90,102)]) (bS z dU Y (aV Y Y s4 Fs zE) (RV.tmp Y) .nil Y)
 refine aE ?_;obtain⟨u,I,h⟩:=aA h;refine aJ (.k (aT Y Y s4 Fs zE) (.k (fP 106000 (wT I) Tryz.call178 (.cons (.dir Y) .nil) Y) (.f [2,4] ?_)));refine aL [2,4] ?_;refine aF ?_;refine bR ?_;refine aL [2,4,35] ?_;refine aU h Y (fun E h=>?_) (fun E h=>?_)
 ·refine aE ?_;refine aZ ?_;refine aJ (.a 1 ?_);refine .t (uO 107 214 gK Y Y Y Y Ja Y) (.f [2,4] ?_);refine aJ (.k (iB Y Y Y Fs zE) (.f [4,5] ?_));refine aH ?_;obtain rfl:=pT h;exact cB (O':=⟨[(4,.ptr 90 0),(5,.v Q9 (none:Option Int))],[(90,.box 80 [.v Q0 (ar .add .i64 u.1 (1:Int)),.v Q1 ([]:Q6),.v (Wr.sl pM) u.2.2.1,.v Wr.bool u.2.2.2])]⟩) (aC [(90,102)]) (bS z dU Y (aV Y Y s4 Fs zE) (RV.tmp Y) .nil Y)
 refine aL [2,4,38] ?_;refine aU h Y (fun F h=>?_) (fun F h=>?_)
 ·refine eU (.a 3 ?_);refine .t (uO 108 197 pM Y Y Y Y UY Y) (.f [2,4] ?_);refine aZ ?_;refine aJ (.a 1 ?_);refine .t (uO 109 214 gK Y Y Y Y Ja Y) (.f [2,4] ?_);refine aJ (.k (iB Y Y Y Fs zE) (.f [4,5] ?_));refine aH ?_;obtain rfl:=pT h;exact cB (O':=⟨[(4,.ptr 90 0),(5,.v Q9 (none:Option Int))],[(90,.box 80 [.v Q0 (ar .add .i64 u.1 (1:Int)),.v Q1 ([]:Q6),.v (Wr.sl pM) ([]:Gh),.v Wr.bool true])]⟩) (aC [(90,102)]) (bS z dU Y (aV Y Y s4 Fs zE) (RV.tmp Y) .nil Y)
 obtain⟨K,L,h⟩:=aA h;refine eU (.a 6 ?_);refine .k (bQ Ea (.cons zI (.cons (Z.sl gK) .nil)) (.cons Y (.dir Y) Y Y Y Y (.cons Y (.dir Y) Y Y Y Y .nil))) (.sub (O':=⟨[(2,.ptr 101 0),(4,.ptr 102 0),(25,.ptr 101 2),(26,.ref 106001),(27,.ptr 101 0),(28,.v Q0 (ar .add .i64 u.1 (1:Int))),(29,.ptr 101 1),(30,.v Q1 u.2.1),(31,.agg [.v Q0 (ar .add .i64 u.1 (1:Int)),.v Q1 u.2.1]),(38,.v Wr.bool (cm .eql (u.2.2.1.length:Int) (4:Int)))],[(101,.box 80 [.v Q0 (ar .add .i64 u.1 (1:Int)),.v Q1 u.2.1,.ref 106001,.v Wr.bool u.2.2.2]),(102,.box 80 [.v Q0 (0:Int),.v Q1 ([]:Q6),.v (Wr.sl pM) ([]:Gh),.v Wr.bool false]),(106001,.arr 197 pM u.2.2.1)]⟩) (Sw.Sub.mk id (.cons Y (.of_eq Y) (.cons Y (.of_eq Y) (.cons Y (.of_eq Y) (.cons Y (.of_eq Y) (.cons Y (.of_eq Y) (.cons Y (.of_eq Y) (.cons Y (.of_eq Y) (.cons Y (.N1 Y Y) (.cons Y (.agg (.cons (.of_eq Y) (.cons (.N1 Y Y) .nil))) (.cons Y (.of_eq Y) .nil)))))))))) (.box Y (.cons (.of_eq Y) (.cons (.N1 Y Y) (.cons (.of_eq Y) (.cons (.of_eq Y) .nil)))) (.box Y (.cons (.of_eq Y) (.cons (.of_eq Y) (.cons (.of_eq Y) (.cons (.of_eq Y) .nil)))) (.arr Y .nil))) Y) (.k (dN (e:=pM) GL vN Qe Y Y Y Y (.cons (.agg Y (.same (.same .nil)) s2 Y) .nil)) (.t (bU 110 L Y Y (.sl Y) GL RS vN Y Y Y Y Y) (.f [2,4] ?_))));refine aZ ?_;refine aJ (.a 1 ?_);refine .t (Jl Y Y Y (.ql gK) Y Y Y Ja) (.f [2,4] ?_);refine aJ (.k (iB Y Y Y Fs zE) (.f [4,5] ?_));refine aH ?_;obtain rfl:=pT h;exact cB (O':=⟨[(4,.ptr 90 0),(5,.v Q9 (none:Option Int))],[(90,.box 80 [.v Q0 (ar .add .i64 u.1 (1:Int)),.v Q1 ([]:Q6),.v (Wr.sl pM) K,.v Wr.bool u.2.2.2])]⟩) (aC [(90,102)]) (bS z dU Y (aV Y Y s4 Fs zE) (RV.tmp Y) .nil Y)
theorem nQ(A:Nat->Nat){b0 z u B C D X E F G H I K L M N O P Q T U V r}(h:eR b0 z u B C D X E F G H I K L M N O P Q T U V=some r):
 XA Tryz.prog 103 [.ptr 9000 1] (kM 9000 (some (A 9000)) 9100 (some (A 9100)) 9200 (some (A 9200)) 9050 9051 9052 9053 b0 z u B C D X E F G H I K L M N O P Q T U V) (.XU []) (kM 9000 (some (A 9000)) 9100 (some (A 9100)) 9200 (some (A 9200)) 400 401 402 403 b0 z u B C D r E F G H I K L M N O P Q T U V):=by
 refine XA.of Tryz.func103 Y Tryz.ntmps103 Y ?_;intro S w R hF;unfold eR at h;refine aF ?_;obtain⟨v2,n5,h⟩:=aA h;obtain⟨v3,G2,h⟩:=aA h;refine eD 14 mixed (by exact(.k (aD Y) (.k (aK Y) (.k (aB 10 Y wD Y AL Y Y) (.k (aI Y Y Y QD AL) (.k (aD Y) (.k (aK Y) (.k (aB 1 Y wD Y Lp Y Y) (.k (aB 3 Y Ft Y S3 Y Y) (.k (aI Y Y Y G3 S3) (.k (aD Y) (.k (aK Y) (.k (aB 5 Y wD Y yL Y Y) (.k (aI Y Y Y Uo yL) (.k (Qx (rB 102000 (cQ n5) AJ (.cons (.ref Y Y) .nil) Y YZ.ref (ZQ.arr ZQ.nil)) (fun _=>(Sw.Sub.mk id (.cons Y (.N1 Y Y) .nil) .nil Y)) Y) .nil))))))))))))))) (by exact(J.t (Np G2 Y Y Y Y SD U3 (B8.int U3) Y) (J.kp [0] []))) ?_;refine eD 11 mixed (by exact(.k (aD Y) (.k (aK Y) (.k (aB 10 Y wD Y AL Y Y) (.k (aI Y Y Y QD AL) (.k (aD Y) (.k (aK Y) (.k (aB 1 Y wD Y Lp Y Y) (.k (aB 3 Y Ft Y S3 Y Y) (.k (aI Y Y Y G3 S3) (.k (cZ Y Y Y) (.k (cZ Y Y Y) .nil)))))))))))) (by exact(J.t (Nq Y Y Y SD U3 (B8.int U3) Y) (J.kp [0] []))) ?_;refine AW ?_;obtain rfl:=pT h;exact cB (O':=⟨[(0,.ptr 9000 1)],(kM 9000 (some (A 9000)) 9100 (some (A 9100)) 9200 (some (A 9200)) 400 401 402 403 b0 z u B C D (Gt v3 (ar .sub .i64 (ar .sub .i64 u (4:Int)) (1:Int))) E F G H I K L M N O P Q T U V)⟩) (aC [(403,9053),(402,9052),(401,9051),(400,9050)]) (Ew hF Y (.cons Y (.cons Y (.cons Y (.cons Y (.cons Y (.cons Y (.cons Y .nil))))))))
theorem yE(A:Nat->Nat){b0 u Q z B T U C D E F G H I K L M N V X O P r}(h:fX b0 u Q z B T U C D E F G H I K L M N V X O P=some r):
 XA Tryz.prog 110 [.ptr 9000 0] (kM 9000 (some (A 9000)) 9100 (some (A 9100)) 9200 (some (A 9200)) 9050 9051 9052 9053 b0 u Q z B T U C D E F G H I K L M N V X O P) (.v Q9 r.1) (kM 9000 (some (A 9000)) 9100 (some (A 9100)) 9200 (some (A 9200)) 400 401 402 403 b0 u r.2.1 z B r.2.2.1 r.2.2.2.1 C D E F G H I K L M N r.2.2.2.2.1 r.2.2.2.2.2 O P):=by
 refine XA.of Tryz.func110 Y Tryz.ntmps110 Y ?_;intro S w R hF;unfold fX at h;refine aL [0] ?_;refine aL [0,3] ?_;refine aF ?_;refine aF ?_;obtain⟨v1,XO,h⟩:=aA h;refine eD 14 mixed (by exact(.k (aD Y) (.k (aK Y) (.k (aB 1 Y wD Y Lp Y Y) (.k (aD Y) (.k (aK Y) (.k (aB 6 Y wD Y zE Y Y) (.k (aB 7 Y SX Y Ja Y Y) (.k (yY (off:=6) (o1:=1) Y Y Y Y (.snd (.fst .here)) GU Ja) (.k (aD Y) (.k (aK Y) (.k (aB 1 Y wD Y Lp Y Y) (.k (aB 3 Y Ft Y S3 Y Y) (.k (aI Y Y Y G3 S3) (.k (cZ Y Y Y) .nil))))))))))))))) (by exact(J.t (eN [9000,9100,9200,9050,9051,9052,9053] (vC [(9000,9000),(9100,9100),(9200,9200),(9050,9050),(9051,9051),(9052,9052),(9053,9053),(400,101),(401,102),(402,103),(403,104)]) (dF Y) (fun A=>Au A XO) Tryz.call165 (fun A=>(.box Y (.box Y (.box Y (.arr (.mp (.arr (.arr .nil Y) Y) Y) Y) Y) Y) Y))) (jz [0,3,4]))) ?_;refine aL [0,3,4,26] ?_;refine aU h Y (fun ZG h=>?_) (fun ZG h=>?_)
 ·refine aL [0,2] ?_;cases h;exact aH (fA hF Y (aC [(403,104),(402,103),(401,102),(400,101)]))
 refine aE ?_;refine aF ?_;obtain⟨v3,G2,h⟩:=aA h;refine eD 16 mixed (by exact(.k (aD Y) (.k (aK Y) (.k (aB 6 Y wD Y zE Y Y) (.k (aI Y Y Y Fs zE) (.k (aD Y) (.k (aK Y) (.k (aB 1 Y wD Y Lp Y Y) (.k (aB 2 Y Ft Y S3 Y Y) (.k (aI Y Y Y G3 S3) (.k (aN (Pf G2) Tryz.call166 (.cons (.dir Y) (.cons (.dir Y) .nil))) (.k (aD Y) (.k (bW Y Y) (.k (bW Y Y) (.k (aO 106 SE Y (.cons zI (.cons (Z.sl gK) (.cons (Z.sl pM) (.cons Z.bool .nil)))) Y) (ZA.storeAll (.none Y) Y Y Y Y s4 zE (.k (bN Y) .nil))))))))))))))))) (by exact(J.kp [0,3,5,6] [])) ?_;refine aJ (.a 1 ?_);refine .k (aT Y Y s4 Fs zE) (.f [0,3,6] ?_);obtain⟨v4,dy,h⟩:=aA h;refine aJ (.a 1 ?_);refine .t (eN [9000,9100,9200,101,102,103,104] (vC [(9000,9000),(9100,9100),(9200,9200),(9050,101),(9051,102),(9052,103),(9053,104),(400,107),(401,108),(402,109),(403,110)]) (dF Y) (fun A=>nQ A dy) Tryz.call103 (fun A=>(.box Y (.box Y (.box Y (.arr (.mp (.arr (.arr .nil Y) Y) Y) Y) Y) Y) Y))) (.f [0,6] ?_);refine aL [0,2] ?_;cases h;exact aH (fA hF Y (aC [(403,110),(402,109),(401,108),(400,107)]))
theorem Cv(A:Nat->Nat){u b0 z B C D E F G H I K L M N O P Q T U V X bL r}(h:nW u b0 z B C D E F G H I K L M N O P Q T U V X bL=some r):
 XA Tryz.prog 109 [.ptr 9000 0,.v Q4 u] (kM 9000 (some (A 9000)) 9100 (some (A 9100)) 9200 (some (A 9200)) 9050 9051 9052 9053 b0 z B C D E F G H I K L M N O P Q T U V X bL) (.XU [.v aM r.1,.v Q9 r.2.1]) (Uf 9000 (some (A 9000)) 301 none 302 none 400 401 402 403 r.2.2):=by
 refine XA.of Tryz.func109 Y Tryz.ntmps109 Y ?_;intro S w R hF;unfold nW at h;refine aJ (.k (cL 101 Y s4 Y) (.k (aO 102 Cb Y (.cons (Z.arr 8 (Z.int .u8)) .nil) Y) (.f [0,4] ?_)));obtain⟨v1,XO,h⟩:=aA h;refine aJ (.k (cV (e:=aM) (v:=aQ) An vG I5 Y Y (Z.arr 8 (Z.int .u8))) ?_);refine .a 1 ?_;refine .t (eN [9000,9100,9200,9050,9051,9052,9053] (vC [(9000,9000),(9100,9100),(9200,9200),(9050,9050),(9051,9051),(9052,9052),(9053,9053),(400,103),(401,104),(402,105),(403,106)]) (dF Y) (fun A=>yE A XO) Tryz.call110 (fun A=>(.box Y (.box Y (.box Y (.arr (.mp (.arr (.arr .nil Y) Y) Y) Y) Y) Y) Y))) (.f [0,4,5] ?_);refine aH ?_;obtain rfl:=pT h;exact kX [(0,.ptr 9000 0),(4,.ptr 90 0),(5,.v Q9 v1.1)] [(90,.box 30 [.v aM aQ])] (aC [(90,102),(403,106),(302,9200),(402,105),(401,104),(400,103),(301,9100)]) (eA hF Y (cO Y Y Y uW kW) (RV.tmp Y) (.cons Y (.cons Y (.cons Y (.cons Y (.cons Y (.cons Y (.cons Y .nil))))))))
theorem Jb{z r}(h:qA z=some r):
 XL Tryz.prog 183 [.v Q0 z] (.v Wr.bool r) []:=by
 refine XL.of Tryz.func183 Y Tryz.ntmps183 Y ?_;intro S w A;unfold qA at h;refine aL [0] ?_;refine aF ?_;obtain⟨C,u,h⟩:=aA h;refine eH (O':=⟨[(2,.v Wr.bool C)],[]⟩) ?_ ?_
 ·refine cd u (fun B u=>?_) (fun B u=>?_)
  ·cases u;exact jy
  cases u;exact jy
 cases h;exact aH (aW A dU Y (RV.tmp Y) .nil Y)
theorem pJ{u r}(h:eI u=some r):
 XL Tryz.prog 228 [.v mO u,.o7 183 []] (.v Q0 r) []:=by
 refine XL.of Tryz.func228 Y Tryz.ntmps228 Y ?_;intro S w z;unfold eI at h;refine aL [0,1] ?_;refine cU [0,1,7,8] ?_;obtain⟨M,G,H,I⟩:=cF h;refine jD (σs:=fun A:Int=>⟨[(0,.v mO u),(1,.o7 183 []),(7,.v Q0 (u.length:Int)),(8,.v Q0 A)],[]⟩) (fun B:Unit=>⟨[],[]⟩) G (aC []) ?_ ?_
 ·intro B C;have h:=H _ C;refine aL [4] ?_;cases h;exact aH (aW z dU Y (RV.tmp Y) .nil Y)
 intro A L h;refine aL [0,1,7,8,9] ?_;refine aF ?_;refine aU h Y (fun D h=>?_) (fun D h=>?_)
 ·refine aE ?_;refine aF ?_;refine bR ?_;refine aL [0,1,5,7,8] ?_;obtain⟨N,O,h⟩:=aA h;obtain⟨P,K,h⟩:=aA h;refine aJ (.a 5 ?_);refine .k (tZ Y (Jb K) Tryz.call183 (.cons (.dir Y) .nil)) (.f [0,1,5,7,8,16] ?_);refine aU h Y (fun E h=>?_) (fun E h=>?_)
  ·refine aL [4] ?_;refine aH ?_;refine eK ?_;cases h;refine gD fun F=>?_;obtain rfl:=I _ F;exact aW z dU Y (RV.tmp Y) .nil Y
  refine aE ?_;refine aZ ?_;refine dT [0,1,7,8] ?_;cases h;exact cE (aC [])
 cases h;exact cY (dK (aC []))
theorem nN{u r}(h:dB u=some r):
 XL Tryz.prog 182 [.v mO u,.o7 183 []] (.v Wr.bool r) []:=by
 refine XL.of Tryz.func182 Y Tryz.ntmps182 Y ?_;intro S w z;unfold dB at h;refine aL [0,1] ?_;obtain⟨B,A,h⟩:=aA h;refine aJ (.a 2 ?_);refine .k (aN (pJ A) Tryz.call228 (.cons (.dir Y) (.cons (.dir Y) .nil))) (.f [4] ?_);cases h;exact aH (aW z dU Y (RV.tmp Y) .nil Y)
theorem Cl{z r}(h:qJ z=some r):
 XL Tryz.prog 134 [.v Q8 z] (.v Q9 r) []:=by
 refine XL.of Tryz.func134 Y Tryz.ntmps134 Y ?_;intro S w A;unfold qJ at h;refine aJ (.k (cL 101 Y s3 Y) (.f [1] ?_));refine aF ?_;refine aF ?_;obtain⟨G,u,h⟩:=aA h;refine eH (O':=⟨[(1,.ptr 101 0),(10,.v Wr.bool G)],[(101,.box 144 [.v Q0 z.1,.v mO z.2.1,.v Q5 z.2.2])]⟩) ?_ ?_
 ·refine cd u (fun B u=>?_) (fun B u=>?_)
  ·cases u;exact jy
  cases u;exact jy
 refine aU h Y (fun C h=>?_) (fun C h=>?_)
 ·refine aL [2] ?_;cases h;exact aH (aW A dU Y (RV.tmp Y) .nil Y)
 refine aE ?_;refine aF ?_;refine aF ?_;obtain⟨H,u,h⟩:=aA h;refine eH (O':=⟨[(1,.ptr 101 0),(21,.v Wr.bool H)],[(101,.box 144 [.v Q0 z.1,.v mO z.2.1,.v Q5 z.2.2])]⟩) ?_ ?_
 ·refine cd u (fun D u=>?_) (fun D u=>?_)
  ·cases u;exact jy
  cases u;exact jy
 refine aU h Y (fun E h=>?_) (fun E h=>?_)
 ·refine aL [2] ?_;cases h;exact aH (aW A dU Y (RV.tmp Y) .nil Y)
 refine aE ?_;obtain⟨K,I,h⟩:=aA h;refine jQ (.a 2 ?_);refine .k (aN (nN I) Tryz.call182 (.cons (.dir Y) (.cons .fn .nil))) (.f [25] ?_);refine aU h Y (fun F h=>?_) (fun F h=>?_)
 ·refine aL [2] ?_;cases h;exact aH (aW A dU Y (RV.tmp Y) .nil Y)
 refine aE ?_;refine aL [2] ?_;cases h;exact aH (aW A dU Y (RV.tmp Y) .nil Y)
theorem Gi{u r}(h:uC u=some r):
 XL Tryz.prog 135 [.v (Wr.sl (Wr.int .u8)) u] (.v (Wr.int .u32) r) []:=by
 refine XL.of Tryz.func135 Y Tryz.ntmps135 Y ?_;intro S w E;unfold uC at h;refine aL [0] ?_;refine aL [0,3] ?_;refine cU [3,6,7,8] ?_;obtain⟨O,H,I,P⟩:=cF h;refine jD (σs:=fun z:Int×Int=>⟨[(3,.v (Wr.int .u32) z.1),(6,.v (Wr.sl (Wr.int .u8)) u),(7,.v Q0 (u.length:Int)),(8,.v Q0 z.2)],[]⟩) (fun C:Int=>⟨[(3,.v (Wr.int .u32) C)],[]⟩) H (aC []) ?_ ?_
 ·intro C A;have h:=I _ A;refine aJ (.a 1 ?_);refine .k (QM Y) (.f [2] ?_);cases h;exact aH (aW E dU Y (RV.tmp Y) .nil Y)
 intro z M h;refine aL [3,6,7,8,9] ?_;refine aF ?_;refine aU h Y (fun F h=>?_) (fun F h=>?_)
 ·refine aE ?_;refine aF ?_;refine bR ?_;obtain⟨Q,R,h⟩:=aA h;refine aL [3,5,6,7,8] ?_;refine aJ (.a 2 ?_);refine .k (by exact mR U5 Tryz.runUnderlying247 Y Y) (.f [3,6,7,8] ?_);refine aL [3,6,7,8,16] ?_;obtain⟨T,K,L,U⟩:=cF h;refine jD (σs:=fun B:Int×Int=>⟨[(3,.v (Wr.int .u32) B.1),(6,.v (Wr.sl (Wr.int .u8)) u),(7,.v Q0 (u.length:Int)),(8,.v Q0 z.2),(16,.v Q0 B.2)],[]⟩) (fun D:Int=>⟨[(3,.v (Wr.int .u32) D),(6,.v (Wr.sl (Wr.int .u8)) u),(7,.v Q0 (u.length:Int)),(8,.v Q0 z.2)],[]⟩) K (aC []) ?_ ?_
  ·intro D A;have h:=L _ A;refine aZ ?_;refine dT [3,6,7,8] ?_;cases h;exact cE (aC [])
  intro B N h;refine aL [3,6,7,8,16,17] ?_;refine aF ?_;refine aU h Y (fun G h=>?_) (fun G h=>?_)
  ·refine aE ?_;refine aF ?_;refine bR ?_;refine eU (.a 1 ?_);refine .k (fF (.inr Y) (by decide) Y Y) (.f [3,6,7,8,16] ?_);refine aZ ?_;refine dT [3,6,7,8,16] ?_;cases h;exact cE (aC [])
  cases h;exact cY (dK (aC []))
 cases h;exact cY (dK (aC []))
theorem yF{u r}(h:nA u=some r):
 XL Tryz.prog 77 [.v Q8 u] (.XU [.v (Wr.sl (Wr.int .u8)) r.1,.v Q9 r.2]) []:=by
 refine XL.of Tryz.func77 Y Tryz.ntmps77 Y ?_;intro S w E;unfold nA at h;refine aJ (.k (cL 101 Y s3 Y) (.k (mX (Wr.int .u8)) (.f [1] ?_)));obtain⟨v1,M,h⟩:=aA h;refine jQ (.k (aT Y Y s3 vD lT) (.k (aN (Cl M) Tryz.call134 (.cons (.dir Y) .nil)) (.f [1,4] ?_)));refine aL [1,4,14] ?_;refine aU h Y (fun H h=>?_) (fun H h=>?_)
 ·refine aJ (.a 1 ?_);refine .k (mX (Wr.int .u8)) (.f [2,3] ?_);cases h;exact aH (bS E dU Y (RV.tmp Y) (RV.tmp Y) .nil Y)
 refine aE ?_;refine aJ (.a 3 ?_);refine .k (fF (.inl Y) (by decide) Y Y) ?_;refine .a 9 ?_;refine .k (rS (e:=(Wr.int .u8)) 103 tU S5 Z5 Y Y Y Y (.cons (.dir Y) (.cons (.dir Y) .nil))) (.f [1,5] ?_);refine cU [1,5,31,32,33] ?_;obtain⟨af,N,O,ah⟩:=cF h;refine jD (σs:=fun A:Int×kS=>⟨[(1,.ptr 101 0),(5,.ref 125),(31,.v mO u.2.1),(32,.v Q0 (u.2.1.length:Int)),(33,.v Q0 A.1)],[(101,.box 144 [.v Q0 u.1,.v mO u.2.1,.v Q5 u.2.2]),(125,.arr 5 (Wr.int .u8) A.2)]⟩) (fun F:kS=>⟨[(1,.ptr 101 0),(5,.ref 125)],[(101,.box 144 [.v Q0 u.1,.v mO u.2.1,.v Q5 u.2.2]),(125,.arr 5 (Wr.int .u8) F)]⟩) N (aC [(125,103)]) ?_ ?_
 ·intro F z;have h:=O _ z;refine cU [5,54,55,56] ?_;obtain⟨ai,P,Q,aj⟩:=cF h;refine jD (σs:=fun B:Int×kS=>⟨[(5,.ref 151),(54,.v Q5 u.2.2),(55,.v Q0 (u.2.2.length:Int)),(56,.v Q0 B.1)],[(151,.arr 5 (Wr.int .u8) B.2)]⟩) (fun G:kS=>⟨[(5,.ref 151)],[(151,.arr 5 (Wr.int .u8) G)]⟩) P (aC [(151,125)]) ?_ ?_
  ·intro G z;have h:=Q _ z;obtain⟨am,R,h⟩:=aA h;refine aJ (.a 1 ?_);refine .k (rU (Gi R) Tryz.call135 (.cons (.ref Y Y) .nil) YZ.v) (.f [5,10] ?_);obtain⟨an,T,h⟩:=aA h;refine aJ (.a 2 ?_);refine .k (fF (.inr Y) (by decide) Y Y) ?_;refine .a 2 ?_;refine .k (fF (.inr Y) (by decide) Y Y) ?_;refine .a 2 ?_;refine .k (fF (.inr Y) (by decide) Y Y) ?_;refine .a 3 ?_;refine .k (dN (e:=(Wr.int .u8)) tU S5 Z5 Y Y Y Y (.cons (.dir Y) (.cons (.dir Y) (.cons (.dir Y) (.cons (.dir Y) .nil))))) (.t (bU 157 T Y Y (.sl Y) tU I5 S5 Y Y Y Y Y) (.f [2,3] ?_));cases h;exact aH (wX E dU Y (aC []))
  intro B ac h;refine aL [5,54,55,56,57] ?_;refine aF ?_;refine aU h Y (fun I h=>?_) (fun I h=>?_)
  ·refine aE ?_;refine aF ?_;refine bR ?_;obtain⟨ap,au,h⟩:=aA h;refine aJ (.a 2 ?_);refine .k (aO 154 Cb Y (.cons (Z.arr 8 (Z.int .u8)) .nil) Y) (.f [5,9,54,55,56] ?_);obtain⟨av,U,h⟩:=aA h;refine eU (.a 1 ?_);refine .k (Qs Y Y Y vG S5) (.t (bU 155 U Y Y (.D4 Y Y Y Y) tU I5 S5 Y Y Y Y Y) (.f [5,54,55,56] ?_));refine aZ ?_;refine dT [5,54,55,56] ?_;cases h;exact cE (aC [(151,155)])
  cases h;exact cY (dK (aC []))
 intro A ad h;refine aL [1,5,31,32,33,34] ?_;refine aF ?_;refine aU h Y (fun K h=>?_) (fun K h=>?_)
 ·refine aE ?_;refine aF ?_;refine bR ?_;obtain⟨ay,a1,h⟩:=aA h;refine aL [1,5,7,31,32,33] ?_;refine aF ?_;obtain⟨a2,V,X,a3⟩:=cF h;refine jD (σs:=fun D:Int×kS=>⟨[(1,.ptr 101 0),(5,.ref 140),(7,.v Q0 D.1),(31,.v mO u.2.1),(32,.v Q0 (u.2.1.length:Int)),(33,.v Q0 A.1)],[(101,.box 144 [.v Q0 u.1,.v mO u.2.1,.v Q5 u.2.2]),(140,.arr 5 (Wr.int .u8) D.2)]⟩) (fun C:Int×kS=>⟨[(1,.ptr 101 0),(5,.ref 140),(7,.v Q0 C.1),(31,.v mO u.2.1),(32,.v Q0 (u.2.1.length:Int)),(33,.v Q0 A.1)],[(101,.box 144 [.v Q0 u.1,.v mO u.2.1,.v Q5 u.2.2]),(140,.arr 5 (Wr.int .u8) C.2)]⟩) V (aC [(140,125)]) ?_ ?_
  ·intro C z;have h:=X _ z;obtain⟨a4,aa,h⟩:=aA h;refine eU (.a 3 ?_);refine .k (dN (e:=(Wr.int .u8)) tU S5 Z5 Y Y Y Y (.cons (.dir Y) .nil)) (.t (bU 143 aa Y Y (.sl Y) tU I5 S5 Y Y Y Y Y) (.f [1,5,31,32,33] ?_));refine aZ ?_;refine dT [1,5,31,32,33] ?_;cases h;exact cE (aC [(125,143)])
  intro D ae h;refine cU [1,5,7,31,32,33,38] ?_;refine aU h Y (fun L h=>?_) (fun L h=>?_)
  ·refine aE ?_;refine aF ?_;refine bR ?_;obtain⟨a5,ab,h⟩:=aA h;refine eU (.a 4 ?_);refine .k (dN (e:=(Wr.int .u8)) tU S5 Z5 Y Y Y Y (.cons (.dir Y) .nil)) (.t (bU 142 ab Y Y (.sl Y) tU I5 S5 Y Y Y Y Y) (.f [1,5,7,31,32,33] ?_));refine aZ ?_;refine eU (.a 1 ?_);refine .k (fF (.inr Y) (by decide) Y Y) (.f [1,5,7,31,32,33] ?_);cases h;exact cE (aC [(140,142)])
  cases h;exact cY (dK (aC []))
 cases h;exact cY (dK (aC []))
theorem pG(A:Nat->Nat){X a2 b0 u z B C D E F G H I K L M N O P bH Q T U V r}(h:eQ X a2 b0 u z B C D E F G H I K L M N O P bH Q T U V=some r):
 XA Tryz.prog 53 [.ptr 9000 0,.v Wr.bool X,.v (Wr.M6 (Wr.int .u8)) a2] (kM 9000 (some (A 9000)) 9100 (some (A 9100)) 9200 (some (A 9200)) 9050 9051 9052 9053 b0 u z B C D E F G H I K L M N O P bH Q T U V) (.XU []) (kM 9000 (some (A 9000)) 9100 (some (A 9100)) 9200 (some (A 9200)) 400 401 402 403 b0 u z B C D E F G H I K L M N O P r Q T U V):=by
 refine XA.of Tryz.func53 Y Tryz.ntmps53 Y ?_;intro S w R hF;unfold eQ at h;refine aF ?_;obtain⟨x2,hx,h⟩:=aA h;refine eH (O':=⟨[(0,.ptr 9000 0),(1,.v Wr.bool X),(2,.v (Wr.M6 (Wr.int .u8)) a2),(15,.v Wr.bool x2)],(kM 9000 (some (A 9000)) 9100 (some (A 9100)) 9200 (some (A 9200)) 9050 9051 9052 9053 b0 u z B C D E F G H I K L M N O P bH Q T U V)⟩) ?_ ?_
 ·refine cd hx (fun u9 hx=>?_) (fun u9 hx=>?_)
  ·cases hx;refine ja 1 ?_;exact(J.k (Rb Y tU) jy)
  cases hx;refine ja 1 ?_;exact(J.k (Rb Y tU) jy)
 refine aU h Y (fun u6 h=>?_) (fun u6 h=>?_)
 ·obtain⟨v5,jg,h⟩:=aA h;refine eU (.a 7 ?_);refine .sub (O':=⟨[(0,.ptr 9000 0),(1,.v Wr.bool X),(2,.v (Wr.M6 (Wr.int .u8)) a2),(15,.v Wr.bool x2),(16,.ptr 9000 0),(17,.ptr 9000 0),(18,.ptr 9000 0),(19,.ptr 9000 25),(20,.ref 9053),(21,.v Wr.bool X),(22,.v (Wr.sl (Wr.int .u8)) a2.2)],[(9000,.box 93 [.v Q0 b0,.ptr 9100 0,.v Q0 u,.v Q0 z,.v Q0 B,.ref 9050,.v Lm D,.ref 9051,.v Q0 F,.v Ov G,.v Q0 H,.v Q0 I,.ref 9052,.ptr 9200 0,.v Q0 L,.v Q0 M,.v Q0 N,.v Q0 O,.v (Wr.pr Q0 Q0) P,.ref 9053] (some (A 9000))),(9053,.arr 135 (Wr.pr Wr.bool (Wr.pr Wr.bool (Wr.sl (Wr.int .u8)))) bH),(9100,.box 188 [.v Q0 Q,.v Q2 T] (some (A 9100))),(9050,.arr 30 aM C),(9051,.mp Q0 Q5 E),(9052,.arr 3 Q0 K),(9200,.box 188 [.v Q0 U,.v Q2 V] (some (A 9200)))]⟩) (Sw.Sub.mk id (.cons Y (.of_eq Y) (.cons Y (.of_eq Y) (.cons Y (.of_eq Y) (.cons Y (.of_eq Y) (.cons Y (.of_eq Y) (.cons Y (.of_eq Y) (.cons Y (.of_eq Y) (.cons Y (.of_eq Y) (.cons Y (.of_eq Y) (.cons Y (.of_eq Y) (.cons Y .unN .nil))))))))))) (.box Y (.cons (.of_eq Y) (.cons (.of_eq Y) (.cons (.of_eq Y) (.cons (.of_eq Y) (.cons (.of_eq Y) (.cons (.of_eq Y) (.cons (.of_eq Y) (.cons (.of_eq Y) (.cons (.of_eq Y) (.cons (.of_eq Y) (.cons (.of_eq Y) (.cons (.of_eq Y) (.cons (.of_eq Y) (.cons (.of_eq Y) (.cons (.of_eq Y) (.cons (.of_eq Y) (.cons (.of_eq Y) (.cons (.of_eq Y) (.cons (.of_eq Y) (.cons (.of_eq Y) .nil)))))))))))))))))))) (.arr Y (.box Y (.cons (.of_eq Y) (.cons (.of_eq Y) .nil)) (.arr Y (.mp Y (.arr Y (.box Y (.cons (.of_eq Y) (.cons (.of_eq Y) .nil)) .nil))))))) Y) (.k (bQ Xy (.cons Z.bool (.cons Z.bool (.cons (Z.sl (Wr.int .u8)) .nil))) (.cons Y (.dir Y) Y Y Y Y (.cons Y (.dir Y) Y Y Y Y .nil))) (.k (dN (e:=(Wr.pr Wr.bool (Wr.pr Wr.bool (Wr.sl (Wr.int .u8))))) Kg wI GN Y Y Y Y (.cons (.agg Y (.same (.same (.same .nil))) s3 Y) .nil)) (.t (bU 101 jg Y Y (.sl Y) Kg PH wI Y Y Y Y Y) (.f [0] ?_))));refine AW ?_;obtain rfl:=pT h;exact cB (O':=⟨[(0,.ptr 9000 0)],(kM 9000 (some (A 9000)) 9100 (some (A 9100)) 9200 (some (A 9200)) 400 401 402 403 b0 u z B C D E F G H I K L M N O P v5 Q T U V)⟩) (aC [(403,101),(402,9052),(401,9051),(400,9050)]) (Ew hF Y (.cons Y (.cons Y (.cons Y (.cons Y (.cons Y (.cons Y (.cons Y .nil))))))))
 refine aE ?_;refine AW ?_;obtain rfl:=pT h;exact cB (O':=⟨[(0,.ptr 9000 0)],(kM 9000 (some (A 9000)) 9100 (some (A 9100)) 9200 (some (A 9200)) 400 401 402 403 b0 u z B C D E F G H I K L M N O P bH Q T U V)⟩) (aC [(403,9053),(402,9052),(401,9051),(400,9050)]) (Ew hF Y (.cons Y (.cons Y (.cons Y (.cons Y (.cons Y (.cons Y (.cons Y .nil))))))))
theorem uZ(A:Nat->Nat){a1 a2 b0 u z B C D E F G I L M N O P Q T bH U V X bL r}(h:iZ a1 a2 b0 u z B C D E F G I L M N O P Q T bH U V X bL=some r):
 XA Tryz.prog 49 [.ptr 9000 0,.v Wr.bool a1,.v Q8 a2] (kM 9000 (some (A 9000)) 9100 (some (A 9100)) 9200 (some (A 9200)) 9050 9051 9052 9053 b0 u z B C D E F G I L M N O P Q T bH U V X bL) (.v Q9 r.1) (kM 9000 (some (A 9000)) 9100 (some (A 9100)) 9200 (some (A 9200)) 400 401 402 403 b0 u z B C D E F G I L M N O P Q T r.2 U V X bL):=by
 refine XA.of Tryz.func49 Y Tryz.ntmps49 Y ?_;intro S w R hF;unfold iZ at h;refine aJ (.k (cL 101 Y s3 Y) (.f [0,1,5] ?_));obtain⟨v1,XO,h⟩:=aA h;refine aJ (.k (aT Y Y s3 vD lT) (.k (aN (yF XO) Tryz.call77 (.cons (.dir Y) .nil)) (.f [0,1,7,8] ?_)));refine jQ (.a 1 ?_);refine .k (iI Oz Y) (.f [0,1,7,8,15] ?_);obtain⟨k5,aa,h⟩:=fE h;refine sY (fun x6:Ul=>⟨[(0,.ptr 9000 0),(8,.v Q9 v1.2)],(kM 9000 (some (A 9000)) 9100 (some (A 9100)) 9200 (some (A 9200)) 107 108 109 110 b0 u z B C D E F G I L M N O P Q T x6 U V X bL)⟩) (fun x=>k5 x=some r) Y ?_ ?_ ?_
 ·intro x6 h;rw[aa] at h;refine aL [0,6] ?_;cases h;exact aH (fA hF Y (aC [(403,110),(402,109),(401,108),(400,107)]))
 ·intro ZG;replace h:=iJ ZG h;obtain⟨u7,ab,h⟩:=aA h;obtain⟨v8,qt,h⟩:=aA h;refine eU (.a 3 ?_);refine .t (tA (H:=[9000,9100,9200,9050,9051,9052,9053]) (K:=[9000,9100,9200]) (vC [(9000,9000),(9100,9100),(9200,9200),(9050,9050),(9051,9051),(9052,9052),(9053,9053),(400,111),(401,112),(402,113),(403,114)]) (dF Y) (fun A=>pG A qt) Tryz.call53 (.cons (.dir Y) (.cons (.dir Y) (.cons (.toN (Nn ab) Y) .nil))) (fun A=>(.box Y (.box Y (.box Y (.arr Y (.mp Y (.arr Y (.arr Y .nil)))))))) (fun A=>(.box Y (.box Y (.box Y (.arr (.mp (.arr (.arr .nil Y) Y) Y) Y) Y) Y) Y)) (fun _=>rfl) Y Y (fun _=>rfl) Y Y) (.f [0,8] ?_);exact bY h (aC [(110,114),(109,113),(108,112),(107,111)])
 ·intro ZG;replace h:=iK ZG h;refine aE ?_;exact bY h (aC [(110,9053),(109,9052),(108,9051),(107,9050)])
theorem Lr{u K z r}(h:nL u K z=some r):
 XL Tryz.prog 82 [.v Lm u,.v Q0 K,.v Q0 z] (.XU [.v pM r.1,.v Wr.bool r.2.1,.v Q9 r.2.2]) []:=by
 refine XL.of Tryz.func82 Y Tryz.ntmps82 Y ?_;intro S w D;unfold nL at h;refine aJ (.k (cL 101 Y s4 Y) (.k (aO 102 Qe Y (.cons zI (.cons (Z.sl gK) .nil)) Y) (.f [1,2,3,6] ?_)));obtain⟨v1,XO,h⟩:=aA h;refine jQ (.k (aT Y Y s4 Fs zE) ?_);refine .a 1 ?_;refine .k (aN (tN XO) PC (.cons (.dir Y) (.cons (.dir Y) .nil))) (.f [2,3,6,9] ?_);refine aL [2,3,6,9,21] ?_;refine aU h Y (fun N h=>?_) (fun N h=>?_)
 ·refine aJ (.k (fO (new:=[(104,.arr 214 gK ([]:Q6))]) Ea (.cons zI (.ref 104 Y .nil)) (.cons .nil) Y .nil) (.f [6,7,8] ?_));refine aH ?_;obtain rfl:=pT h;exact cB (O':=⟨[(6,.ptr 90 0),(7,.v Wr.bool false),(8,.v Q9 v1)],[(90,.box 197 [.v Q0 (0:Int),.v Q1 ([]:Q6)])]⟩) (aC [(90,102)]) (xA D dU Y (aV Y Y s2 Ow vN) (RV.tmp Y) (RV.tmp Y) .nil Y)
 refine aE ?_;refine aF ?_;refine aF ?_;obtain⟨x4,C,h⟩:=aA h;refine eH (O':=⟨[(2,.v Q0 z),(3,.ptr 101 0),(6,.ptr 102 0),(31,.v Wr.bool x4)],[(101,.box 80 [.v Q0 u.1,.v Q1 u.2.1,.v (Wr.sl pM) u.2.2.1,.v Wr.bool u.2.2.2]),(102,.box 197 [.v Q0 (0:Int),.v Q1 ([]:Q6)])]⟩) ?_ ?_
 ·refine cd C (fun O C=>?_) (fun O C=>?_)
  ·cases C;exact jy
  cases C;exact jy
 refine aU h Y (fun P h=>?_) (fun P h=>?_)
 ·refine aJ (.k (fO (new:=[(105,.arr 214 gK ([]:Q6))]) Ea (.cons zI (.ref 105 Y .nil)) (.cons .nil) Y .nil) (.f [6,7,8] ?_));refine aH ?_;obtain rfl:=pT h;exact cB (O':=⟨[(6,.ptr 90 0),(7,.v Wr.bool false),(8,.v Q9 (some (1:Int)))],[(90,.box 197 [.v Q0 (0:Int),.v Q1 ([]:Q6)])]⟩) (aC [(90,102)]) (xA D dU Y (aV Y Y s2 Ow vN) (RV.tmp Y) (RV.tmp Y) .nil Y)
 refine aE ?_;refine cU [2,3,6,41] ?_;refine aU h Y (fun Q h=>?_) (fun Q h=>?_)
 ·refine aJ (.k (fO (new:=[(106,.arr 214 gK ([]:Q6))]) Ea (.cons zI (.ref 106 Y .nil)) (.cons .nil) Y .nil) (.f [6,7,8] ?_));refine aH ?_;obtain rfl:=pT h;exact cB (O':=⟨[(6,.ptr 90 0),(7,.v Wr.bool false),(8,.v Q9 (none:Option Int))],[(90,.box 197 [.v Q0 (0:Int),.v Q1 ([]:Q6)])]⟩) (aC [(90,102)]) (xA D dU Y (aV Y Y s2 Ow vN) (RV.tmp Y) (RV.tmp Y) .nil Y)
 refine aE ?_;refine aJ (.k (aO 107 Tryz.zeroValue253 Y (.cons (Z.arr 32 (Z.G1 gK)) .nil) Y) (.f [2,3,6,10] ?_));refine cU [2,3,6,10,44,45,46] ?_;obtain⟨a3,aa,ab,a4⟩:=cF h;refine jD (σs:=fun B:Int×(List (Option (Int×aR)))=>⟨[(2,.v Q0 z),(3,.ptr 101 0),(6,.ptr 102 0),(10,.ptr 107 0),(44,.v (Wr.sl pM) u.2.2.1),(45,.v Q0 (u.2.2.1.length:Int)),(46,.v Q0 B.1)],[(101,.box 80 [.v Q0 u.1,.v Q1 u.2.1,.v (Wr.sl pM) u.2.2.1,.v Wr.bool u.2.2.2]),(102,.box 197 [.v Q0 (0:Int),.v Q1 ([]:Q6)]),(107,.box 253 [.v (Wr.arr 32 (Wr.G1 gK)) B.2])]⟩) (fun E:(List (Option (Int×aR)))=>⟨[(3,.ptr 101 0),(6,.ptr 102 0),(10,.ptr 107 0)],[(101,.box 80 [.v Q0 u.1,.v Q1 u.2.1,.v (Wr.sl pM) u.2.2.1,.v Wr.bool u.2.2.2]),(102,.box 197 [.v Q0 (0:Int),.v Q1 ([]:Q6)]),(107,.box 253 [.v (Wr.arr 32 (Wr.G1 gK)) E])]⟩) aa (aC []) ?_ ?_
 ·intro E A;have h:=ab _ A;refine aJ (.a 2 ?_);refine .k (fO (new:=[(112,.arr 214 gK ([]:Q6))]) Ea (.cons zI (.ref 112 Y .nil)) (.cons .nil) Y (.cons Y (.dir Y) Y Y Y Y .nil)) (.k (Ad (new:=[(114,.arr 214 gK ([]:Q6))]) 113 Qe Y (.cons zI (.ref 114 Y .nil)) (.cons .nil) Y Y) (.f [6,10,14] ?_));refine cU [6,14,76,77] ?_;obtain⟨a5,ac,ad,a6⟩:=cF h;refine jD (σs:=fun G:Int×Q6=>⟨[(6,.ptr 102 0),(14,.ptr 113 0),(76,.v (Wr.arr 32 (Wr.G1 gK)) E),(77,.v Q0 G.1)],[(102,.box 197 [.v Q0 (0:Int),.v Q1 ([]:Q6)]),(113,.box 197 [.v Q0 u.1,.ref 120]),(120,.arr 214 gK G.2)]⟩) (fun F:Q6=>⟨[(6,.ptr 102 0),(14,.ptr 113 0)],[(102,.box 197 [.v Q0 (0:Int),.v Q1 ([]:Q6)]),(113,.box 197 [.v Q0 u.1,.ref 120]),(120,.arr 214 gK F)]⟩) ac (aC [(120,112)]) ?_ ?_
  ·intro F A;have h:=ad _ A;refine aJ (.k (iB Y Y Y Ow vN) (.f [6,7,8] ?_));refine aH ?_;obtain rfl:=pT h;exact cB (O':=⟨[(6,.ptr 90 0),(7,.v Wr.bool true),(8,.v Q9 (none:Option Int))],[(90,.box 197 [.v Q0 u.1,.v Q1 F])]⟩) (aC [(90,102)]) (xA D dU Y (aV Y Y s2 Ow vN) (RV.tmp Y) (RV.tmp Y) .nil Y)
  intro G ap h;refine aL [6,14,76,77,78] ?_;refine aF ?_;refine aU h Y (fun R h=>?_) (fun R h=>?_)
  ·refine aE ?_;refine aF ?_;refine bR ?_;obtain⟨a7,ae,h⟩:=aA h;refine aJ (.k (NA ae Y Y Tryz.runUnderlying253 Tryz.sizeOf252 Tryz.isAgg252) (.f [6,14,16,76,77] ?_));refine aJ (.a 1 ?_);refine .k (MZ Y Tryz.runUnderlying252) (.f [6,14,16,76,77,81] ?_);refine aU h Y (fun T h=>?_) (fun T h=>?_)
   ·obtain⟨a8,af,h⟩:=aA h;obtain⟨a9,ah,h⟩:=aA h;refine eD 6 mixed (by exact(.k (aB 1 Y AM Y Ja Y Y) (.k (aI Y Y Y GU Ja) (.k (aD Y) (.k (Jo af Y) (.k (cG Y AK jZ) (.k (dN (e:=gK) yM jZ Fu Y Y Y Y (.cons (.dir Y) .nil)) .nil))))))) (by exact(J.t (bU 122 ah Y Y (.sl Y) yM Lo jZ Y Y Y Y Y) (jz [6,14,76,77]))) ?_;refine aZ ?_;refine dT [6,14,76,77] ?_;cases h;exact cE (aC [(120,122)])
   refine aE ?_;refine aZ ?_;refine dT [6,14,76,77] ?_;cases h;exact cE (aC [])
  cases h;exact cY (dK (aC []))
 intro B au h;refine aL [2,3,6,10,44,45,46,47] ?_;refine aF ?_;refine aU h Y (fun U h=>?_) (fun U h=>?_)
 ·refine aE ?_;refine aF ?_;refine bR ?_;obtain⟨I,ba,h⟩:=aA h;refine aJ (.a 2 ?_);refine .k (aO 111 Qe Y (.cons zI (.cons (Z.sl gK) .nil)) Y) (.t (bT Y Y Y Y s2 vN) (.f [2,3,6,10,12,44,45,46] ?_));refine aL [2,3,6,10,12,44,45,46,52,53] ?_;obtain⟨bb,ai,aj,bc⟩:=cF h;refine jD (σs:=fun H:Int×(List (Option (Int×aR)))=>⟨[(2,.v Q0 z),(3,.ptr 101 0),(6,.ptr 102 0),(10,.ptr 107 0),(12,.ptr 111 0),(44,.v (Wr.sl pM) u.2.2.1),(45,.v Q0 (u.2.2.1.length:Int)),(46,.v Q0 B.1),(52,.v Q0 (I.2.length:Int)),(53,.v Q0 H.1)],[(101,.box 80 [.v Q0 u.1,.v Q1 u.2.1,.v (Wr.sl pM) u.2.2.1,.v Wr.bool u.2.2.2]),(102,.box 197 [.v Q0 (0:Int),.v Q1 ([]:Q6)]),(107,.box 253 [.v (Wr.arr 32 (Wr.G1 gK)) H.2]),(111,.box 197 [.v Q0 I.1,.v Q1 I.2])]⟩) (fun L:(List (Option (Int×aR)))=>⟨[(2,.v Q0 z),(3,.ptr 101 0),(6,.ptr 102 0),(10,.ptr 107 0),(44,.v (Wr.sl pM) u.2.2.1),(45,.v Q0 (u.2.2.1.length:Int)),(46,.v Q0 B.1)],[(101,.box 80 [.v Q0 u.1,.v Q1 u.2.1,.v (Wr.sl pM) u.2.2.1,.v Wr.bool u.2.2.2]),(102,.box 197 [.v Q0 (0:Int),.v Q1 ([]:Q6)]),(107,.box 253 [.v (Wr.arr 32 (Wr.G1 gK)) L])]⟩) ai (aC []) ?_ ?_
  ·intro L A;have h:=aj _ A;refine aZ ?_;refine dT [2,3,6,10,44,45,46] ?_;cases h;exact cE (aC [])
  intro H av h;refine aL [2,3,6,10,12,44,45,46,52,53,54] ?_;refine aF ?_;refine aU h Y (fun V h=>?_) (fun V h=>?_)
  ·refine aE ?_;refine aF ?_;refine bR ?_;refine aL [2,3,6,10,12,13,44,45,46,52,53] ?_;refine aL [2,3,6,10,12,13,44,45,46,52,53,59] ?_;refine aU h Y (fun X h=>?_) (fun X h=>?_)
   ·obtain⟨be,am,h⟩:=aA h;obtain⟨bf,an,h⟩:=aA h;obtain⟨bg,M,h⟩:=aA h;refine eD 11 mixed (by exact(.k (aB 1 Y AM Y Ja Y Y) (.k (aI Y Y Y GU Ja) (.k (aD Y) (.k (pO am Y Y yM jZ) (.k (fC Y Oy Y S3 Y (.fst .here) Y) (.k (cG Y G3 S3) (.k (aB 1 Y AM Y Ja Y Y) (.k (aI Y Y Y GU Ja) (.k (aD Y) (.k (BO (pO an Y Y yM jZ)) (.k (rR M Y Y Y Y Tryz.runUnderlying253 Tryz.sizeOf252) .nil)))))))))))) (by exact(J.t (Dn (dL M).2.2 Y Y Y Y Tryz.sizeOf252) (J.kp [2,3,6,10,12,44,45,46,52,53] []))) ?_;refine aZ ?_;refine dT [2,3,6,10,12,44,45,46,52,53] ?_;cases h;exact cE (aC [])
   refine aE ?_;refine aZ ?_;refine dT [2,3,6,10,12,44,45,46,52,53] ?_;cases h;exact cE (aC [])
  cases h;exact cY (dK (aC []))
 cases h;exact cY (dK (aC []))
theorem Ls{u r}(h:qK u=some r):
 XL Tryz.prog 229 [.v Q5 u] (.v Q9 r) []:=by
 refine XL.of Tryz.func229 Y Tryz.ntmps229 Y ?_;intro S w z;unfold qK at h;refine aL [0] ?_;refine cU [0,8] ?_;refine aU h Y (fun D h=>?_) (fun D h=>?_)
 ·refine aL [2] ?_;cases h;exact aH (aW z dU Y (RV.tmp Y) .nil Y)
 refine aE ?_;refine aJ (.k (Gn 101 aM Wr.bool) (.f [0,3] ?_));refine cU [3,11,12,13] ?_;obtain⟨N,H,I,K⟩:=cF h;refine jD (σs:=fun A:Int×(List (aR×Bool))=>⟨[(3,.ref 101),(11,.v Q5 u),(12,.v Q0 (u.length:Int)),(13,.v Q0 A.1)],[(101,.mp aM Wr.bool A.2)]⟩) (fun B:Unit=>⟨[],[]⟩) H (aC []) ?_ ?_
 ·intro B C;have h:=I _ C;refine aL [2] ?_;cases h;exact aH (aW z dU Y (RV.tmp Y) .nil Y)
 intro A M h;refine aL [3,11,12,13,14] ?_;refine aF ?_;refine aU h Y (fun E h=>?_) (fun E h=>?_)
 ·refine aE ?_;refine aF ?_;refine bR ?_;obtain⟨O,P,h⟩:=aA h;refine aJ (.a 2 ?_);refine .k (aO 105 Cb Y (.cons (Z.arr 8 (Z.int .u8)) .nil) Y) (.f [3,5,11,12,13] ?_);refine jQ (.a 2 ?_);refine .k (DP Y Y Y Tryz.runUnderlying388 vG Qf Y DH Y Tryz.zeroValue4 (fun _ _=>⟨_,Y,Y⟩)) (.f [3,5,11,12,13,19] ?_);refine aU h Y (fun F h=>?_) (fun F h=>?_)
  ·refine aL [2] ?_;refine aH ?_;refine eK ?_;cases h;refine gD fun G=>?_;obtain rfl:=K _ G;exact aW z dU Y (RV.tmp Y) .nil Y
  refine aE ?_;obtain⟨Q,L,h⟩:=aA h;refine eU (.a 2 ?_);refine .t (DQ L Y Y Y Y Tryz.runUnderlying388 vG Qf Y DH Y) (.f [3,11,12,13] ?_);refine aZ ?_;refine dT [3,11,12,13] ?_;cases h;exact cE (aC [])
 cases h;exact cY (dK (aC []))
theorem Av{A z r}(h:oG A z=some r):
 XL Tryz.prog 186 [.v Q5 A,.v Q5 z] (.v Q9 r) []:=by
 refine XL.of Tryz.func186 Y Tryz.ntmps186 Y ?_;intro S w B;unfold oG at h;refine aL [0,1] ?_;refine aF ?_;refine aF ?_;obtain⟨E,u,h⟩:=aA h;refine eH (O':=⟨[(1,.v Q5 z),(12,.v Wr.bool E)],[]⟩) ?_ ?_
 ·refine cd u (fun C u=>?_) (fun C u=>?_)
  ·cases u;exact jy
  cases u;exact jy
 refine aU h Y (fun D h=>?_) (fun D h=>?_)
 ·refine aL [4] ?_;cases h;exact aH (aW B dU Y (RV.tmp Y) .nil Y)
 refine aE ?_;obtain⟨G,F,h⟩:=aA h;refine aJ (.a 1 ?_);refine .k (aN (Ls F) Tryz.call229 (.cons (.dir Y) .nil)) (.f [4] ?_);cases h;exact aH (aW B dU Y (RV.tmp Y) .nil Y)
theorem Qj{u r}(h:wG u=some r):
 XL Tryz.prog 187 [.v Q5 u] (.XU [.v (Wr.G1 (Wr.pr Q5 (Wr.bd aM mO))) r.1,.v Q9 r.2]) []:=by
 refine XL.of Tryz.func187 Y Tryz.ntmps187 Y ?_;intro S w D;unfold wG at h;refine aJ (.k (kC (Wr.pr Q5 (Wr.bd aM mO))) (.f [0] ?_));refine aF ?_;refine aF ?_;obtain⟨K,z,h⟩:=aA h;refine eH (O':=⟨[(0,.v Q5 u),(14,.v Wr.bool K)],[]⟩) ?_ ?_
 ·refine cd z (fun G z=>?_) (fun G z=>?_)
  ·cases z;exact jy
  cases z;exact jy
 refine aU h Y (fun H h=>?_) (fun H h=>?_)
 ·refine aJ (.a 1 ?_);refine .k (kC (Wr.pr Q5 (Wr.bd aM mO))) (.f [2,3] ?_);cases h;exact aH (bS D dU Y (RV.tmp Y) (RV.tmp Y) .nil Y)
 refine aE ?_;obtain⟨B,L,h⟩:=aA h;refine aJ (.a 1 ?_);refine .k (fP 101000 (cQ L) AJ (.cons (.dir Y) .nil) Y) (.k (Vh 102 aM 3 Q0) (.k (bQ LZ (.cons (Z.sl aM) (.cons (Z.bd aM mO) .nil)) (.cons Y (.dir Y) Y Y Y Y (.cons Y (.dir Y) Y Y Y Y .nil))) (.k (zY 103 Y Y) (.f [0,4] ?_))));refine cU [4,21,22,23] ?_;obtain⟨Q,M,N,R⟩:=cF h;refine jD (σs:=fun C:Int×(List (aR×kS))=>⟨[(4,.ptr 103 0),(21,.v Q5 u),(22,.v Q0 (u.length:Int)),(23,.v Q0 C.1)],[(103,.box 363 [.ref 101000,.ref 102]),(101000,.arr 30 aM B),(102,.dp (DE.Z9 true aM 3 Q0) (C.2,none) [])]⟩) (fun A:(List (aR×kS))=>⟨[(4,.ptr 103 0)],[(103,.box 363 [.ref 101000,.ref 102]),(101000,.arr 30 aM B),(102,.dp (DE.Z9 true aM 3 Q0) (A,none) [])]⟩) M (aC []) ?_ ?_
 ·intro A F;have h:=N _ F;refine aJ (.a 1 ?_);refine .sub (O':=⟨[(4,.ZH (Wr.pr Q5 (Wr.bd aM mO)) (B,A)),(40,.ZH (Wr.pr Q5 (Wr.bd aM mO)) (B,A))],[]⟩) (Sw.Sub.mk id (.cons Y (.C5 Y Y (.cons (.N1 Y Y) (.cons (.aLb Y Y .Z9) .nil)) s2) (.cons Y (.C5 Y Y (.cons (.N1 Y Y) (.cons (.aLb Y Y .Z9) .nil)) s2) .nil)) .nil Y) (.k (by exact BO (bN Y)) (.f [2,3] ?_));cases h;exact aH (bS D dU Y (RV.tmp Y) (RV.tmp Y) .nil Y)
 intro C P h;refine aL [4,21,22,23,24] ?_;refine aF ?_;refine aU h Y (fun I h=>?_) (fun I h=>?_)
 ·refine aE ?_;refine aF ?_;refine bR ?_;obtain⟨T,U,h⟩:=aA h;refine aJ (.a 3 ?_);refine .k (aO 119 Cb Y (.cons (Z.arr 8 (Z.int .u8)) .nil) Y) (.f [4,5,6,21,22,23] ?_);obtain⟨V,E,h⟩:=aA h;obtain⟨X,O,h⟩:=aA h;refine eD 11 mixed (by exact(.k (aD Y) (.k (aK Y) (.k (aB 1 Y PI Y LM Y Y) (.k (aI Y Y Y Tryz.isAgg361 LM) (.k (aI Y Y Y uW kW) (.k (aD Y) (.k (dN (e:=Q0) xH S3 Z3 Y Y Y Y (.cons (.dir Y) .nil)) (ZA.mapEntry (.none Y) 122 E Y Y Y Tryz.runUnderlying361 vG Qf Y DH Y kv.arr Tryz.zeroValue22 Y Y (.pu (.none Y) Y (fun _ _=>bW Y Y) (ZA.append (.none Y) 123 O Y Y (.sl Y) xH I3 S3 Y Y Y Y Y (.pu (.none Y) Y (fun _ _=>bW Y Y) .nil)))))))))))) (by exact(J.t (Pv (NB E) Y Y Y Y Y Y) (J.kp [4,21,22,23] []))) ?_;refine aZ ?_;refine dT [4,21,22,23] ?_;cases h;exact cE (aC [])
 cases h;exact cY (dK (aC []))
theorem Hh{z u r}(h:vM z u=some r):
 XL Tryz.prog 310 [.v kP z,.v gK u] (.XU [.v Q4 r.1,.v Wr.bool r.2]) []:=by
 refine XL.of Tryz.func310 Y Tryz.ntmps310 Y ?_;intro S w A;unfold vM at h;refine aJ (.k (cL 101 Y sO Y) (.k (cL 102 Y s2 Y) (.k (aO 103 Pa Y (.cons zI (.cons zI (.cons zI (.cons (Z.arr 8 (Z.int .u8)) .nil)))) Y) (.f [3,4] ?_))));refine aF ?_;refine eD 9 mixed (by exact(.k (aB 0 Y Oy Y S3 Y Y) (.k (aI Y Y Y G3 S3) (.k (bQ Eb (.cons zI (.cons zI (.cons zI (.cons (Z.arr 8 (Z.int .u8)) .nil)))) (.cons Y (.dir Y) Y Y Y Y (.cons Y (.dir Y) Y Y Y Y .nil))) (.k (aB 1 Y Oy Y kW Y Y) (.k (aI Y Y Y uW kW) (.k (cV (e:=aM) (v:=aQ) An vG I5 Y Y (Z.arr 8 (Z.int .u8))) (.k (Ym Qf Y Y Tryz.eqGuardType30 Y Y) (ZA.G7 (.none Y) Y Y Y Y Y Y Cp (.k (bN Y) .nil)))))))))) (by exact(J.kp [4,5] [])) ?_;refine aH ?_;obtain rfl:=pT h;exact cB (O':=⟨[(4,.ptr 90 0),(5,.v Wr.bool (decide (u.2=aQ)))],[(90,.box 210 [.v Q0 u.1,.v Q0 (0:Int),.v Q0 (0:Int),.v aM aQ])]⟩) (aC [(90,103)]) (bS A dU Y (aV Y Y s4 Xu Cp) (RV.tmp Y) .nil Y)
theorem Eg{u z r}(h:mC u z=some r):
 XL Tryz.prog 309 [.v (Wr.G1 (Wr.pr Q5 (Wr.bd aM mO))) u,.v aM z] (.XU [.v Q0 r.1,.v Wr.bool r.2]) []:=by
 refine XL.of Tryz.func309 Y Tryz.ntmps309 Y ?_;intro S w A;unfold mC at h;refine aJ (.k (cL 101 Y sO Y) (.f [0,3] ?_));refine aF ?_;obtain⟨D,C,h⟩:=aA h;refine eD 7 mixed (by exact(.k (aD Y) (.k (Jo C Y) (.k (fC Y PI Y LM Y (.snd .here) Y) (.k (cG Y Tryz.isAgg361 LM) (.k (aI Y Y Y uW kW) (.k (Yx Y Y Tryz.runUnderlying361 vG Qf Y DH Y Tryz.zeroValue22 (fun S w=>⟨_,(Z.sl Q0) S w,Y⟩)) (.k (bN Y) .nil)))))))) (by exact(J.kp [6] [])) ?_;refine cU [6,15] ?_;refine aU h Y (fun B h=>?_) (fun B h=>?_)
 ·refine aL [4,5] ?_;cases h;exact aH (bS A dU Y (RV.tmp Y) (RV.tmp Y) .nil Y)
 refine aE ?_;obtain⟨E,F,h⟩:=aA h;refine aL [4,5] ?_;cases h;exact aH (bS A dU Y (RV.tmp Y) (RV.tmp Y) .nil Y)
theorem Hi{z u r}(h:oH z u=some r):
 XL Tryz.prog 311 [.v (Wr.N8 (Wr.G1 (Wr.pr Q5 (Wr.bd aM mO)))) z,.v gK u] (.XU [.v Q4 r.1,.v Wr.bool r.2]) []:=by
 refine XL.of Tryz.func311 Y Tryz.ntmps311 Y ?_;intro S w B;unfold oH at h;refine aJ (.k (cL 101 Y (.N8 sO) Y) (.k (cL 102 Y s2 Y) (.k (aO 103 Pa Y (.cons zI (.cons zI (.cons zI (.cons (Z.arr 8 (Z.int .u8)) .nil)))) Y) (.f [2,3,4] ?_))));obtain⟨A,C,h⟩:=aA h;refine aJ (.a 4 ?_);refine .k (aN (Eg C) Tryz.call309 (.cons (.dir Y) (.cons (.dir Y) .nil))) (.f [3,4,6,7] ?_);refine aJ (.a 3 ?_);refine .k (bQ Eb (.cons zI (.cons zI (.cons zI (.cons (Z.arr 8 (Z.int .u8)) .nil)))) (.cons Y (.dir Y) Y Y Y Y (.cons Y (.dir Y) Y Y Y Y (.cons Y (.dir Y) Y Y Y Y .nil)))) (.f [4,5] ?_);refine aH ?_;obtain rfl:=pT h;exact cB (O':=⟨[(4,.ptr 90 0),(5,.v Wr.bool A.2)],[(90,.box 210 [.v Q0 u.1,.v Q0 (1:Int),.v Q0 A.1,.v aM aQ])]⟩) (aC [(90,103)]) (bS B dU Y (aV Y Y s4 Xu Cp) (RV.tmp Y) .nil Y)
theorem sV{u z r}(h:eO u z=some r):
 XL Tryz.prog 314 [.v Q5 u,.v aM z] (.v Q0 r) []:=by
 refine XL.of Tryz.func314 Y Tryz.ntmps314 Y ?_;intro S w A;unfold eO at h;refine aJ (.k (cL 101 Y sO Y) (.f [0,3] ?_));refine cU [0,3,7,8] ?_;obtain⟨N,H,I,K⟩:=cF h;refine jD (σs:=fun B:Int=>⟨[(0,.v Q5 u),(3,.ptr 101 0),(7,.v Q0 (u.length:Int)),(8,.v Q0 B)],[(101,.box 30 [.v aM z])]⟩) (fun C:Unit=>⟨[],[]⟩) H (aC []) ?_ ?_
 ·intro C D;have h:=I _ D;refine aL [4] ?_;cases h;exact aH (aW A dU Y (RV.tmp Y) .nil Y)
 intro B M h;refine aL [0,3,7,8,9] ?_;refine aF ?_;refine aU h Y (fun E h=>?_) (fun E h=>?_)
 ·refine aE ?_;refine aF ?_;refine bR ?_;refine aL [0,3,5,7,8] ?_;refine aF ?_;obtain⟨O,L,h⟩:=aA h;refine eD 6 mixed (by exact(.k (aI Y Y Y uW kW) (.k (aD Y) (.k (aD Y) (.k (pO L Y Y Kf kW) (.k (cG Y uW kW) (.k (Ym Qf Y Y Tryz.eqGuardType30 Y Y) .nil))))))) (by exact(J.kp [0,3,5,7,8,16] [])) ?_;refine aU h Y (fun F h=>?_) (fun F h=>?_)
  ·refine aL [4] ?_;refine aH ?_;refine eK ?_;cases h;refine gD fun G=>?_;obtain rfl:=K _ G;exact aW A dU Y (RV.tmp Y) .nil Y
  refine aE ?_;refine aZ ?_;refine dT [0,3,7,8] ?_;cases h;exact cE (aC [])
 cases h;exact cY (dK (aC []))
theorem Pg{u z r}(h:uQ u z=some r):
 XL Tryz.prog 313 [.v Q5 u,.v aM z] (.XU [.v Q0 r.1,.v Wr.bool r.2]) []:=by
 refine XL.of Tryz.func313 Y Tryz.ntmps313 Y ?_;intro S w A;unfold uQ at h;refine aJ (.k (cL 101 Y sO Y) (.f [0,3] ?_));obtain⟨C,B,h⟩:=aA h;refine aJ (.a 2 ?_);refine .k (aN (sV B) Tryz.call314 (.cons (.dir Y) (.cons (.dir Y) .nil))) (.f [6] ?_);refine aJ (.a 1 ?_);refine .k (Bi Y Y) (.f [4,5] ?_);cases h;exact aH (bS A dU Y (RV.tmp Y) (RV.tmp Y) .nil Y)
theorem Eh{z u r}(h:mD z u=some r):
 XL Tryz.prog 312 [.v (Wr.N8 Q5) z,.v gK u] (.XU [.v Q4 r.1,.v Wr.bool r.2]) []:=by
 refine XL.of Tryz.func312 Y Tryz.ntmps312 Y ?_;intro S w B;unfold mD at h;refine aJ (.k (cL 101 Y (.N8 sO) Y) (.k (cL 102 Y s2 Y) (.k (aO 103 Pa Y (.cons zI (.cons zI (.cons zI (.cons (Z.arr 8 (Z.int .u8)) .nil)))) Y) (.f [2,3,4] ?_))));obtain⟨A,C,h⟩:=aA h;refine aJ (.a 4 ?_);refine .k (aN (Pg C) Tryz.call313 (.cons (.dir Y) (.cons (.dir Y) .nil))) (.f [3,4,6,7] ?_);refine aJ (.a 3 ?_);refine .k (bQ Eb (.cons zI (.cons zI (.cons zI (.cons (Z.arr 8 (Z.int .u8)) .nil)))) (.cons Y (.dir Y) Y Y Y Y (.cons Y (.dir Y) Y Y Y Y (.cons Y (.dir Y) Y Y Y Y .nil)))) (.f [4,5] ?_);refine aH ?_;obtain rfl:=pT h;exact cB (O':=⟨[(4,.ptr 90 0),(5,.v Wr.bool A.2)],[(90,.box 210 [.v Q0 u.1,.v Q0 (2:Int),.v Q0 A.1,.v aM aQ])]⟩) (aC [(90,103)]) (bS B dU Y (aV Y Y s4 Xu Cp) (RV.tmp Y) .nil Y)
theorem Cw{z u r}(h:sS z u=some r):
 XL Tryz.prog 315 [.v kP z,.v gK u] (.XU [.v Q4 r.1,.v Wr.bool r.2]) []:=by
 refine XL.of Tryz.func315 Y Tryz.ntmps315 Y ?_;intro S w A;unfold sS at h;refine aJ (.k (cL 101 Y sO Y) (.k (cL 102 Y s2 Y) (.k (aO 103 Pa Y (.cons zI (.cons zI (.cons zI (.cons (Z.arr 8 (Z.int .u8)) .nil)))) Y) (.f [3,4] ?_))));refine aJ (.a 4 ?_);refine .k (bQ Eb (.cons zI (.cons zI (.cons zI (.cons (Z.arr 8 (Z.int .u8)) .nil)))) (.cons Y (.dir Y) Y Y Y Y (.cons Y (.dir Y) Y Y Y Y (.cons Y (.dir Y) Y Y Y Y .nil)))) (.f [4,5] ?_);refine aH ?_;obtain rfl:=pT h;exact cB (O':=⟨[(4,.ptr 90 0),(5,.v Wr.bool true)],[(90,.box 210 [.v Q0 u.1,.v Q0 (3:Int),.v Q0 (0:Int),.v aM u.2])]⟩) (aC [(90,103)]) (bS A dU Y (aV Y Y s4 Xu Cp) (RV.tmp Y) .nil Y)
theorem Uh{w p0 r}(h:jK w p0=some r):
 D1 Tryz.prog "stillwater/plan.tell" BX w [.v gK p0] (.XU [.v Q4 r.1,.v Wr.bool r.2]) []:=by
 unfold jK at h;rcases w with z | z | z | z | z
 ·exact(D1.here (fun _ _=>by kernel_rfl) Tryz.call310 (Hh h))
 ·exact(.there (D1.here (fun _ _=>by kernel_rfl) Tryz.call311 (Hi h)))
 ·exact(.there (.there (D1.here (fun _ _=>by kernel_rfl) Tryz.call312 (Eh h))))
 ·exact(.there (.there (.there (D1.here (fun _ _=>by kernel_rfl) Tryz.call315 (Cw h)))))
 ·cases h
theorem Kk{u A z r}(h:rG u A z=some r):
 XL Tryz.prog 140 [.v Q1 u,.v Q5 A,.v Q5 z] (.XU [.ref 0,.v Q9 r.2]) [(0,.arr 210 Q4 r.1)]:=by
 refine XL.of Tryz.func140 Y Tryz.ntmps140 Y ?_;intro S w F;unfold rG at h;refine aJ (.k (aS 101 210 Q4) (.f [0,1,2] ?_));obtain⟨v1,XO,h⟩:=aA h;refine jQ (.a 2 ?_);refine .k (aN (Av XO) Tryz.call186 (.cons (.dir Y) (.cons (.dir Y) .nil))) (.f [0,1,2,8] ?_);refine aL [0,1,2,8,25] ?_;refine aU h Y (fun Q h=>?_) (fun Q h=>?_)
 ·refine aJ (.a 1 ?_);refine .k (aS 103 210 Q4) (.f [6,7] ?_);cases h;exact aH (wX F dU Y (aC [(0,103)]))
 refine aE ?_;refine aL [0,1,2,9] ?_;refine cU [0,1,2,9,27,28,29] ?_;obtain⟨ay,aa,ab,ac⟩:=cF h;refine jD (σs:=fun G:Int×Int=>⟨[(0,.v Q1 u),(1,.v Q5 A),(2,.v Q5 z),(9,.v Q0 G.1),(27,.v Q1 u),(28,.v Q0 (u.length:Int)),(29,.v Q0 G.2)],[]⟩) (fun O:Unit=>⟨[(0,.v Q1 u),(1,.v Q5 A),(2,.v Q5 z)],[]⟩) aa (aC []) ?_ ?_
 ·intro O D;have h:=ab _ D;obtain⟨C,ad,h⟩:=aA h;refine aJ (.a 1 ?_);refine .k (aN (Qj ad) Tryz.call187 (.cons (.dir Y) .nil)) (.f [0,1,2,12,13] ?_);refine cU [0,1,2,12,13,54] ?_;refine aU h Y (fun R h=>?_) (fun R h=>?_)
  ·refine aJ (.a 1 ?_);refine .k (aS 113 210 Q4) (.f [6,7] ?_);cases h;exact aH (wX F dU Y (aC [(0,113)]))
  refine aE ?_;refine aJ (.k (aS 114 210 Q4) (.f [0,1,2,12,14] ?_));refine cU [1,2,12,14,56,57,58] ?_;obtain⟨a3,ae,af,a4⟩:=cF h;refine jD (σs:=fun B:Int×(List (Int×Int×Int×aR))=>⟨[(1,.v Q5 A),(2,.v Q5 z),(12,.v (Wr.G1 (Wr.pr Q5 (Wr.bd aM mO))) C.1),(14,.ref 162),(56,.v Q1 u),(57,.v Q0 (u.length:Int)),(58,.v Q0 B.1)],[(162,.arr 210 Q4 B.2)]⟩) (fun I:(List (Int×Int×Int×aR))=>⟨[(14,.ref 162)],[(162,.arr 210 Q4 I)]⟩) ae (aC [(162,114)]) ?_ ?_
  ·intro I D;have h:=af _ D;refine aL [6,7] ?_;cases h;exact aH (wX F dU Y (aC [(0,162)]))
  intro B P h;refine aL [1,2,12,14,56,57,58,59] ?_;refine aF ?_;refine aU h Y (fun T h=>?_) (fun T h=>?_)
  ·refine aE ?_;refine aF ?_;obtain⟨zt,ah,h⟩:=fE h;refine VB (fun K:(List (Int×Int×Int×aR))=>⟨[(1,.v Q5 A),(2,.v Q5 z),(12,.v (Wr.G1 (Wr.pr Q5 (Wr.bd aM mO))) C.1),(14,.ref 196),(56,.v Q1 u),(57,.v Q0 (u.length:Int)),(58,.v Q0 B.1)],[(196,.arr 210 Q4 K)]⟩) (fun x=>zt x=some P) ?_ ?_
   ·intro K h;rw[ah] at h;refine dT [1,2,12,14,56,57,58] ?_;cases h;exact cE (aC [(162,196)])
   obtain⟨H,a5,h⟩:=aA h;refine aJ (.a 2 ?_);refine .k (aO 197 Fu Y (.cons zI (.cons (Z.arr 8 (Z.int .u8)) .nil)) Y) (.t (bT Y Y Y Y s2 jZ) (.f [1,2,12,14,16,56,57,58] ?_));refine aF ?_;refine aF ?_;obtain⟨a6,ai,h⟩:=aA h;refine eD 8 mixed (by exact(.k (aD Y) (.k (aB 0 Y Oy Y S3 Y Y) (.k (aI Y Y Y G3 S3) (.k (pO ai Y Y Kf kW) (.k (cG Y uW kW) (.k (aB 1 Y Oy Y kW Y Y) (.k (aI Y Y Y uW kW) (.k (Ym Qf Y Y Tryz.eqGuardType30 Y Y) .nil))))))))) (by exact(J.kp [1,2,12,14,16,56,57,58,69] [])) ?_;refine aU h Y (fun U h=>?_) (fun U h=>?_)
   ·refine cY ?_;exact MR h (aC [(196,162)])
   refine aE ?_;refine VF (O':=⟨[(1,.v Q5 A),(2,.v Q5 z),(12,.v (Wr.G1 (Wr.pr Q5 (Wr.bd aM mO))) C.1),(14,.ref 162),(16,.ptr 197 0),(56,.v Q1 u),(57,.v Q0 (u.length:Int)),(58,.v Q0 B.1),(80,.v (Wr.sl BX) ([(.inl ():lW),(.inr (.inl C.1):lW),(.inr (.inr (.inl z)):lW),(.inr (.inr (.inr (.inl ()))):lW)]:(List lW))),(81,.v Q0 (([(.inl ():lW),(.inr (.inl C.1):lW),(.inr (.inr (.inl z)):lW),(.inr (.inr (.inr (.inl ()))):lW)]:(List lW)).length:Int)),(82,.v Q0 (0:Int))],[(162,.arr 210 Q4 B.2),(197,.box 214 [.v Q0 H.1,.v aM H.2])]⟩) (J.cons (.none Y) (Nk (bQ LU .nil .nil)) Y Y (J.cons (.none Y) (Ic Y Tryz.runUnderlying322 .here) Y Y (J.cons (.none Y) (aD Y) Y Y (J.cons (.none Y) (Bm (bQ LW (.cons (Z.G1 (Wr.pr Q5 (Wr.bd aM mO))) .nil) (.cons Y (.dir Y) Y Y Y Y .nil)) (.N8 sO) Y) Y Y (J.cons (.none Y) (Ic Y RZ (.there .here)) Y Y (J.cons (.none Y) (aD Y) Y Y (J.cons (.none Y) (Bm (bQ LX (.cons (Z.sl aM) .nil) (.cons Y (.dir Y) Y Y Y Y .nil)) (.N8 sO) Y) Y Y (J.cons (.none Y) (Ic Y SA (.there (.there .here))) Y Y (J.cons (.none Y) (Nk (bQ LY .nil .nil)) Y Y (J.cons (.none Y) (Ic Y Tryz.runUnderlying327 (.there (.there (.there .here)))) Y Y (J.cons (.none Y) (dN (e:=BX) SB Tryz.sizeOf330 Tryz.zeroValue330 Y Y Y Y (.cons (.dir Y) (.cons (.dir Y) (.cons (.dir Y) (.cons (.dir Y) .nil))))) Y Y (J.cons (.none Y) (tQ Y SB) Y Y (J.cons (.none Y) (aD Y) Y Y (J.fin (aC []))))))))))))))) ?_;obtain⟨a7,aj,am,a8⟩:=cF h;refine jD (σs:=fun M:Int=>⟨[(1,.v Q5 A),(2,.v Q5 z),(12,.v (Wr.G1 (Wr.pr Q5 (Wr.bd aM mO))) C.1),(14,.ref 162),(16,.ptr 197 0),(56,.v Q1 u),(57,.v Q0 (u.length:Int)),(58,.v Q0 B.1),(80,.v (Wr.sl BX) ([(.inl ():lW),(.inr (.inl C.1):lW),(.inr (.inr (.inl z)):lW),(.inr (.inr (.inr (.inl ()))):lW)]:(List lW))),(81,.v Q0 (([(.inl ():lW),(.inr (.inl C.1):lW),(.inr (.inr (.inl z)):lW),(.inr (.inr (.inr (.inl ()))):lW)]:(List lW)).length:Int)),(82,.v Q0 M)],[(162,.arr 210 Q4 B.2),(197,.box 214 [.v Q0 H.1,.v aM H.2])]⟩) (fun L:(List (Int×Int×Int×aR))=>⟨[(1,.v Q5 A),(2,.v Q5 z),(12,.v (Wr.G1 (Wr.pr Q5 (Wr.bd aM mO))) C.1),(14,.ref 204),(56,.v Q1 u),(57,.v Q0 (u.length:Int)),(58,.v Q0 B.1)],[(204,.arr 210 Q4 L)]⟩) aj (aC []) ?_ ?_
   ·intro L D;have h:=am _ D;exact MQ h (aC [(196,204)])
   intro M au h;refine aL [1,2,12,14,16,56,57,58,80,81,82,83] ?_;refine aF ?_;refine aU h Y (fun V h=>?_) (fun V h=>?_)
   ·refine aE ?_;refine aF ?_;refine bR ?_;obtain⟨yj,a9,h⟩:=aA h;refine aL [1,2,12,14,16,18,56,57,58,80,81,82] ?_;obtain⟨qg,an,h⟩:=aA h;refine aJ (.a 1 ?_);refine .k (aT Y Y s2 AK jZ) (.k (DZ Y (Uh an) (.cons (.dir Y) .nil)) ?_);refine .a 3 ?_;refine .k (aO 205 Pa Y (.cons zI (.cons zI (.cons zI (.cons (Z.arr 8 (Z.int .u8)) .nil)))) Y) (.t (bT Y Y Y Y s4 Cp) (.f [1,2,12,14,16,19,20,56,57,58,80,81,82] ?_));refine aL [1,2,12,14,16,19,56,57,58,80,81,82,92] ?_;refine aU h Y (fun X h=>?_) (fun X h=>?_)
    ·obtain⟨zf,ap,h⟩:=aA h;refine aJ (.a 1 ?_);refine .k (aT Y Y s4 Xu Cp) (.k (dN (e:=Q4) GI Cp Pa Y Y Y Y (.cons (.dir Y) .nil)) (.t (bU 206 ap Y Y (.sl Y) GI RT Cp Y Y Y Y Y) (.f [1,2,12,14,56,57,58] ?_)));refine cY ?_;refine MN Y ?_;cases h;exact dK (aC [(204,206)])
    refine aE ?_;refine aZ ?_;refine dT [1,2,12,14,16,56,57,58,80,81,82] ?_;cases h;exact cE (aC [])
   cases h;exact cY (dK (aC [(204,162)]))
  cases h;exact cY (dK (aC []))
 intro G av h;refine aL [0,1,2,9,27,28,29,30] ?_;refine aF ?_;refine aU h Y (fun Y2 h=>?_) (fun Y2 h=>?_)
 ·refine aE ?_;refine aF ?_;refine bR ?_;obtain⟨N,zw,h⟩:=aA h;refine aJ (.a 2 ?_);refine .k (aO 110 Fu Y (.cons zI (.cons (Z.arr 8 (Z.int .u8)) .nil)) Y) (.t (bT Y Y Y Y s2 jZ) (.f [0,1,2,9,11,27,28,29] ?_));refine aF ?_;refine aF ?_;obtain⟨su,E,h⟩:=aA h;refine eH (O':=⟨[(0,.v Q1 u),(1,.v Q5 A),(2,.v Q5 z),(11,.ptr 110 0),(27,.v Q1 u),(28,.v Q0 (u.length:Int)),(29,.v Q0 G.2),(43,.v Wr.bool su)],[(110,.box 214 [.v Q0 N.1,.v aM N.2])]⟩) ?_ ?_
  ·refine cd E (fun ng E=>?_) (fun ng E=>?_)
   ·cases E;exact jy
   cases E;exact jy
  refine aU h Y (fun nf h=>?_) (fun nf h=>?_)
  ·refine aJ (.a 1 ?_);refine .k (aS 111 210 Q4) (.f [6,7] ?_);refine aH ?_;refine eK ?_;cases h;refine gD fun ho=>?_;obtain rfl:=ac _ ho;exact wX F dU Y (aC [(0,111)])
  refine aE ?_;refine dT [0,1,2,9,27,28,29] ?_;refine aZ ?_;refine dT [0,1,2,9,27,28,29] ?_;cases h;exact cE (aC [])
 cases h;exact cY (dK (aC []))
theorem Kl{A B C r}(h:rH A B C=some r):
 XL Tryz.prog 83 [.v pM A,.v Q5 B,.v Q0 C] (.XU [.v Q8 r.1,.v Wr.bool r.2]) []:=by
 refine XL.of Tryz.func83 Y Tryz.ntmps83 Y ?_;intro S w D;unfold rH at h;refine aJ (.k (cL 101 Y s2 Y) (.k (aO 102 Cq Y (.cons zI (.cons (Z.sl Q0) (.cons (Z.sl aM) .nil))) Y) (.f [1,2,3,6] ?_)));obtain⟨E,L,h⟩:=aA h;refine aJ (.a 3 ?_);refine .k (fP 103000 (Kk L) Tryz.call140 (.cons (.dir Y) (.cons (.dir Y) (.cons (.ql _) .nil))) Y) (.f [2,3,6,8,9] ?_);refine cU [2,3,6,8,21] ?_;refine aU h Y (fun H h=>?_) (fun H h=>?_)
 ·refine aJ (.k (fO (new:=[(105,.arr 3 Q0 ([]:kS)),(104,.arr 30 aM ([]:iR))]) mJ (.cons zI (.ref 105 Y (.ref 104 Y .nil))) (.cons (.cons .nil)) Y .nil) (.f [6,7] ?_));refine aH ?_;obtain rfl:=pT h;exact cB (O':=⟨[(6,.ptr 90 0),(7,.v Wr.bool false)],[(90,.box 144 [.v Q0 (0:Int),.v mO ([]:kS),.v Q5 ([]:iR)])]⟩) (aC [(90,102)]) (bS D dU Y (aV Y Y s3 vD lT) (RV.tmp Y) .nil Y)
 refine aE ?_;refine aJ (.a 3 ?_);refine .k (rS (e:=Q0) 106 xH S3 Z3 Y Y Y Y (.cons (.dir Y) (.cons (.dir Y) .nil))) (.k (fO (new:=[(107,.arr 30 aM ([]:iR))]) mJ (.cons zI (.cons (Z.sl Q0) (.ref 107 Y .nil))) (.cons .nil) Y (.cons Y (.dir Y) Y Y Y Y (.cons Y (.dir Y) Y Y Y Y .nil))) (.k (Ad (new:=[(110,.arr 3 Q0 ([]:kS)),(109,.arr 30 aM ([]:iR))]) 108 Cq Y (.cons zI (.ref 110 Y (.ref 109 Y .nil))) (.cons (.cons .nil)) Y Y) (.f [6,8,10] ?_)));refine cU [6,10,28,29,30] ?_;obtain⟨R,M,N,T⟩:=cF h;refine jD (σs:=fun z:Int×kS×iR=>⟨[(6,.ptr 102 0),(10,.ptr 108 0),(28,.ref 103000),(29,.v Q0 (E.1.length:Int)),(30,.v Q0 z.1)],[(102,.box 144 [.v Q0 (0:Int),.v mO ([]:kS),.v Q5 ([]:iR)]),(108,.box 144 [.v Q0 (4:Int),.ref 123,.ref 124]),(103000,.arr 210 Q4 E.1),(123,.arr 3 Q0 z.2.1),(124,.arr 30 aM z.2.2)]⟩) (fun u:kS×iR=>⟨[(6,.ptr 102 0),(10,.ptr 108 0)],[(102,.box 144 [.v Q0 (0:Int),.v mO ([]:kS),.v Q5 ([]:iR)]),(108,.box 144 [.v Q0 (4:Int),.ref 123,.ref 124]),(123,.arr 3 Q0 u.1),(124,.arr 30 aM u.2)]⟩) M (aC [(124,107),(123,106)]) ?_ ?_
 ·intro u G;have h:=N _ G;refine aF ?_;refine eD 7 mixed (by exact(.k (iB Y Y Y vD lT) (.k (aB 1 Y vE Y zD Y Y) (.k (aI Y Y Y Uc zD) (.k (Sh Y Y xH) (.k (jU Y Y Y) (ZA.G7 (.none Y) Y Y Y Y Y Y lT (.k (bN Y) .nil)))))))) (by exact(J.kp [6,7] [])) ?_;refine aH ?_;obtain rfl:=pT h;exact cB (O':=⟨[(6,.ptr 90 0),(7,.v Wr.bool (cm .leq (u.1.length:Int) (9:Int)))],[(90,.box 144 [.v Q0 (4:Int),.v mO u.1,.v Q5 u.2])]⟩) (aC [(90,102)]) (bS D dU Y (aV Y Y s3 vD lT) (RV.tmp Y) .nil Y)
 intro z Q h;refine aL [6,10,28,29,30,31] ?_;refine aF ?_;refine aU h Y (fun I h=>?_) (fun I h=>?_)
 ·refine aE ?_;refine aF ?_;refine bR ?_;obtain⟨U,F,h⟩:=aA h;refine aJ (.k (jE F Y Y Y GI Cp) (.k (jY (dL F).2.2 Y Y .here Xu Cp) (.k (aO 128 Pa Y (.cons zI (.cons zI (.cons zI (.cons (Z.arr 8 (Z.int .u8)) .nil)))) Y) (.t (bT Y Y Y Y s4 Cp) (.f [6,10,12,28,29,30] ?_)))));obtain⟨V,O,h⟩:=aA h;refine aJ (.a 4 ?_);refine .k (fF (.inl Y) (by decide) Y Y) ?_;refine .a 2 ?_;refine .k (fF (.inl Y) (by decide) Y Y) ?_;refine .a 4 ?_;refine .k (dN (e:=Q0) xH S3 Z3 Y Y Y Y (.cons (.dir Y) .nil)) (.t (bU 129 O Y Y (.sl Y) xH I3 S3 Y Y Y Y Y) (.f [6,10,12,28,29,30] ?_));refine aL [6,10,12,28,29,30,51] ?_;refine aU h Y (fun K h=>?_) (fun K h=>?_)
  ·obtain⟨X,P,h⟩:=aA h;refine eU (.a 4 ?_);refine .k (dN (e:=aM) Kf kW Cb Y Y Y Y (.cons (.dir Y) .nil)) (.t (bU 130 P Y Y (.sl Y) Kf An kW Y Y Y Y Y) (.f [6,10,28,29,30] ?_));refine aZ ?_;refine dT [6,10,28,29,30] ?_;cases h;exact cE (aC [(124,130),(123,129)])
  refine aE ?_;refine aZ ?_;refine dT [6,10,28,29,30] ?_;cases h;exact cE (aC [(123,129)])
 cases h;exact cY (dK (aC []))
theorem yG(A:Nat->Nat){b0 B u C D E z F G H I K L M N O P Q T U V X r}(h:dS b0 B u C D E z F G H I K L M N O P Q T U V X=some r):
 XA Tryz.prog 51 [.ptr 9000 1] (kM 9000 (some (A 9000)) 9100 (some (A 9100)) 9200 (some (A 9200)) 9050 9051 9052 9053 b0 B u C D E z F G H I K L M N O P Q T U V X) (.v Q8 r) (kM 9000 (some (A 9000)) 9100 (some (A 9100)) 9200 (some (A 9200)) 400 401 402 403 b0 B u C D E z F G H I K L M N O P Q T U V X):=by
 refine XA.of Tryz.func51 Y Tryz.ntmps51 Y ?_;intro S w R hF;unfold dS at h;refine aJ (.k (aO 101 Cq Y (.cons zI (.cons (Z.sl Q0) (.cons (Z.sl aM) .nil))) Y) (.f [0,2] ?_));refine aF ?_;refine aF ?_;obtain⟨v1,XO,h⟩:=aA h;refine eD 22 mixed (by exact(.k (aD Y) (.k (aK Y) (.k (aB 6 Y wD Y zE Y Y) (.k (aI Y Y Y Fs zE) (.k (aD Y) (.k (aK Y) (.k (aB 1 Y wD Y Lp Y Y) (.k (aB 2 Y Ft Y S3 Y Y) (.k (aI Y Y Y G3 S3) (.k (aD Y) (.k (aK Y) (.k (aB 15 Y wD Y S3 Y Y) (.k (aI Y Y Y G3 S3) (.k (aN (Lr XO) Tryz.call82 (.cons (.dir Y) (.cons (.dir Y) (.cons (.dir Y) .nil)))) (.k (aD Y) (.k (bW Y Y) (.k (bW Y Y) (.k (bW Y Y) (.k (aO 103 Qe Y (.cons zI (.cons (Z.sl gK) .nil)) Y) (ZA.storeAll (.none Y) Y Y Y Y s2 vN (.k (bN Y) (.k (bN Y) .nil))))))))))))))))))))))) (by exact(J.kp [0,2,3,4,5] [])) ?_;refine aF ?_;obtain⟨x3,hx,h⟩:=aA h;refine eH (O':=⟨[(0,.ptr 9000 1),(2,.ptr 101 0),(3,.ptr 103 0),(32,.v Wr.bool x3)],((101,.box 144 [.v Q0 (0:Int),.v mO ([]:kS),.v Q5 ([]:iR)])::(103,.box 197 [.v Q0 v1.1.1,.v Q1 v1.1.2])::kM 9000 (some (A 9000)) 9100 (some (A 9100)) 9200 (some (A 9200)) 9050 9051 9052 9053 b0 B u C D E z F G H I K L M N O P Q T U V X)⟩) ?_ ?_
 ·refine cd hx (fun u6 hx=>?_) (fun u6 hx=>?_)
  ·cases hx;refine ja 1 ?_;exact(J.k (iI Oz Y) jy)
  cases hx;refine ja 1 ?_;exact(J.k (iI Oz Y) jy)
 obtain⟨k9,aa,h⟩:=fE h;refine sY (fun yy:Unit=>⟨[(0,.ptr 9000 1),(2,.ptr 101 0)],((101,.box 144 [.v Q0 (0:Int),.v mO ([]:kS),.v Q5 ([]:iR)])::kM 9000 (some (A 9000)) 9100 (some (A 9100)) 9200 (some (A 9200)) 9050 9051 9052 9053 b0 B u C D E z F G H I K L M N O P Q T U V X)⟩) (fun x=>k9 x=some r) Y ?_ ?_ ?_
 ·intro yy h;rw[aa] at h;refine aF ?_;refine eD 18 mixed (by exact(.k (aD Y) (.k (aK Y) (.k (aB 1 Y wD Y Lp Y Y) (.k (aB 3 Y Ft Y S3 Y Y) (.k (aI Y Y Y G3 S3) (.k (dN (e:=Q0) xH S3 Z3 Y Y Y Y (.cons (.dir Y) .nil)) (.k (aD Y) (.k (aK Y) (.k (aB 10 Y wD Y AL Y Y) (.k (aI Y Y Y QD AL) (.k (aD Y) (.k (aK Y) (.k (aB 1 Y wD Y Lp Y Y) (.k (aB 3 Y Ft Y S3 Y Y) (.k (aI Y Y Y G3 S3) (.k (Vl Y Y Y SD U3 (B8.int U3) Y UM (fun S w=>⟨_,(Z.sl aM) S w,Y⟩)) (.k (bQ mJ (.cons zI (.cons (Z.sl Q0) (.cons (Z.sl aM) .nil))) (.cons Y (.dir Y) Y Y Y Y (.cons Y (.dir Y) Y Y Y Y (.cons Y (.dir Y) Y Y Y Y .nil)))) (ZA.G7 (.none Y) Y Y Y Y Y Y lT .nil))))))))))))))))))) (by exact(J.kp [0,2] [])) ?_;refine aH ?_;obtain rfl:=pT h;exact kX [(0,.ptr 9000 1),(2,.ptr 90 0)] [(90,.box 144 [.v Q0 (5:Int),.v mO ([u]:kS),.v Q5 ((fR z u).getD ([]:iR))])] (aC [(90,101),(403,9053),(402,9052),(401,9051),(400,9050)]) (eM hF Y (aV Y Y s3 vD lT) (.cons Y (.cons Y (.cons Y (.cons Y (.cons Y (.cons Y (.cons Y .nil))))))))
 ·intro G4;replace h:=iJ G4 h;refine aF ?_;refine eD 14 mixed (by exact(.k (aD Y) (.k (aK Y) (.k (aB 10 Y wD Y AL Y Y) (.k (aI Y Y Y QD AL) (.k (aD Y) (.k (aK Y) (.k (aB 15 Y wD Y S3 Y Y) (.k (aI Y Y Y G3 S3) (.k (No Y Y Y SD U3 (B8.int U3) Y UM (fun S w=>⟨_,(Z.sl aM) S w,Y⟩)) (.k (aD Y) (.k (bW Y Y) (.k (bW Y Y) (.k (bN Y) (.k (bN Y) .nil))))))))))))))) (by exact(J.kp [0,2,3,6,7] [])) ?_;refine aL [0,2,3,6,45] ?_;refine aU h Y (fun ch h=>?_) (fun ch h=>?_)
  ·refine aF ?_;obtain⟨T3,bn,h⟩:=aA h;refine eD 13 mixed (by exact(.k (aT Y Y s2 Ow vN) (.k (aD Y) (.k (aD Y) (.k (aK Y) (.k (aB 15 Y wD Y S3 Y Y) (.k (aI Y Y Y G3 S3) (.k (aN (Kl bn) Tryz.call83 (.cons (.dir Y) (.cons (.dir Y) (.cons (.dir Y) .nil)))) (.k (aD Y) (.k (bW Y Y) (.k (bW Y Y) (.k (aO 107 Cq Y (.cons zI (.cons (Z.sl Q0) (.cons (Z.sl aM) .nil))) Y) (ZA.storeAll (.none Y) Y Y Y Y s3 lT (.k (bN Y) .nil)))))))))))))) (by exact(J.kp [0,2,8,9] [])) ?_;refine aL [0,2,8,56] ?_;refine aU h Y (fun bz h=>?_) (fun bz h=>?_)
   ·refine aJ (.k (aT Y Y s3 vD lT) (.t (bT Y Y Y Y s3 lT) (.f [0,2] ?_)));refine aH ?_;refine Hq ?_;obtain rfl:=pT h;exact kX [(0,.ptr 9000 1),(2,.ptr 90 0)] [(90,.box 144 [.v Q0 T3.1.1,.v mO T3.1.2.1,.v Q5 T3.1.2.2])] (aC [(90,101),(403,9053),(402,9052),(401,9051),(400,9050)]) (eM hF Y (aV Y Y s3 vD lT) (.cons Y (.cons Y (.cons Y (.cons Y (.cons Y (.cons Y (.cons Y .nil))))))))
   refine aE ?_;exact bY h (aC [])
  refine aE ?_;exact bY h (aC [])
 ·intro G4;replace h:=iK G4 h;refine aE ?_;exact bY h (aC [])
theorem Jc{z r}(h:qB z=some r):
 XL Tryz.prog 184 [.v Q0 z] (.v Wr.bool r) []:=by
 refine XL.of Tryz.func184 Y Tryz.ntmps184 Y ?_;intro S w A;unfold qB at h;refine aL [0] ?_;refine aF ?_;obtain⟨C,u,h⟩:=aA h;refine eH (O':=⟨[(2,.v Wr.bool C)],[]⟩) ?_ ?_
 ·refine cd u (fun B u=>?_) (fun B u=>?_)
  ·cases u;exact jy
  cases u;exact jy
 cases h;exact aH (aW A dU Y (RV.tmp Y) .nil Y)
theorem pK{u r}(h:eJ u=some r):
 XL Tryz.prog 228 [.v mO u,.o7 184 []] (.v Q0 r) []:=by
 refine XL.of Tryz.func228 Y Tryz.ntmps228 Y ?_;intro S w z;unfold eJ at h;refine aL [0,1] ?_;refine cU [0,1,7,8] ?_;obtain⟨M,G,H,I⟩:=cF h;refine jD (σs:=fun A:Int=>⟨[(0,.v mO u),(1,.o7 184 []),(7,.v Q0 (u.length:Int)),(8,.v Q0 A)],[]⟩) (fun B:Unit=>⟨[],[]⟩) G (aC []) ?_ ?_
 ·intro B C;have h:=H _ C;refine aL [4] ?_;cases h;exact aH (aW z dU Y (RV.tmp Y) .nil Y)
 intro A L h;refine aL [0,1,7,8,9] ?_;refine aF ?_;refine aU h Y (fun D h=>?_) (fun D h=>?_)
 ·refine aE ?_;refine aF ?_;refine bR ?_;refine aL [0,1,5,7,8] ?_;obtain⟨N,O,h⟩:=aA h;obtain⟨P,K,h⟩:=aA h;refine aJ (.a 5 ?_);refine .k (tZ Y (Jc K) Tryz.call184 (.cons (.dir Y) .nil)) (.f [0,1,5,7,8,16] ?_);refine aU h Y (fun E h=>?_) (fun E h=>?_)
  ·refine aL [4] ?_;refine aH ?_;refine eK ?_;cases h;refine gD fun F=>?_;obtain rfl:=I _ F;exact aW z dU Y (RV.tmp Y) .nil Y
  refine aE ?_;refine aZ ?_;refine dT [0,1,7,8] ?_;cases h;exact cE (aC [])
 cases h;exact cY (dK (aC []))
theorem nO{u r}(h:dC u=some r):
 XL Tryz.prog 182 [.v mO u,.o7 184 []] (.v Wr.bool r) []:=by
 refine XL.of Tryz.func182 Y Tryz.ntmps182 Y ?_;intro S w z;unfold dC at h;refine aL [0,1] ?_;obtain⟨B,A,h⟩:=aA h;refine aJ (.a 2 ?_);refine .k (aN (pK A) Tryz.call228 (.cons (.dir Y) (.cons (.dir Y) .nil))) (.f [4] ?_);cases h;exact aH (aW z dU Y (RV.tmp Y) .nil Y)
theorem Cm{u r}(h:qL u=some r):
 XL Tryz.prog 136 [.v mO u] (.v Wr.bool r) []:=by
 refine XL.of Tryz.func136 Y Tryz.ntmps136 Y ?_;intro S w z;unfold qL at h;refine aL [0] ?_;obtain⟨B,A,h⟩:=aA h;refine aJ (.a 1 ?_);refine .k (aN (nO A) Tryz.call182 (.cons (.dir Y) (.cons .fn .nil))) (.f [2] ?_);cases h;exact aH (aW z dU Y (RV.tmp Y) .nil Y)
theorem Gj{z r}(h:uD z=some r):
 XL Tryz.prog 79 [.v Q8 z] (.v Q9 r) []:=by
 refine XL.of Tryz.func79 Y Tryz.ntmps79 Y ?_;intro S w u;unfold uD at h;refine aJ (.k (cL 101 Y s3 Y) (.f [1] ?_));obtain⟨D,C,h⟩:=aA h;refine jQ (.k (aT Y Y s3 vD lT) (.k (aN (Cl C) Tryz.call134 (.cons (.dir Y) .nil)) (.f [1,3] ?_)));refine aL [1,3,7] ?_;refine aU h Y (fun A h=>?_) (fun A h=>?_)
 ·refine aL [2] ?_;cases h;exact aH (aW u dU Y (RV.tmp Y) .nil Y)
 refine aE ?_;refine cU [12] ?_;refine aU h Y (fun B h=>?_) (fun B h=>?_)
 ·refine aL [2] ?_;cases h;exact aH (aW u dU Y (RV.tmp Y) .nil Y)
 refine aE ?_;refine aL [2] ?_;cases h;exact aH (aW u dU Y (RV.tmp Y) .nil Y)
theorem yH{u r}(h:pQ u=some r):
 XL Tryz.prog 78 [.v Ov u] (.v Q9 r) []:=by
 refine XL.of Tryz.func78 Y Tryz.ntmps78 Y ?_;intro S w z;unfold pQ at h;refine aJ (.k (cL 101 Y s3 Y) (.f [1] ?_));obtain⟨P,I,h⟩:=aA h;refine jQ (.a 4 ?_);refine .k (dN (e:=Q0) xH S3 Z3 Y Y Y Y (.cons (.dir Y) (.cons (.dir Y) .nil))) (.k (aN (Cm I) Tryz.call136 (.cons (.dir Y) .nil)) (.f [1,12] ?_));refine aU h Y (fun D h=>?_) (fun D h=>?_)
 ·refine aL [2] ?_;cases h;exact aH (aW z dU Y (RV.tmp Y) .nil Y)
 refine aE ?_;refine cU [1,17] ?_;refine aU h Y (fun E h=>?_) (fun E h=>?_)
 ·refine aL [2] ?_;cases h;exact aH (aW z dU Y (RV.tmp Y) .nil Y)
 refine aE ?_;refine cU [20,21,22] ?_;obtain⟨Q,K,L,M⟩:=cF h;refine jD (σs:=fun A:Int=>⟨[(20,.v (Wr.sl Q8) u.2.2),(21,.v Q0 (u.2.2.length:Int)),(22,.v Q0 A)],[]⟩) (fun B:Unit=>⟨[],[]⟩) K (aC []) ?_ ?_
 ·intro B C;have h:=L _ C;refine aL [2] ?_;cases h;exact aH (aW z dU Y (RV.tmp Y) .nil Y)
 intro A O h;refine aL [20,21,22,23] ?_;refine aF ?_;refine aU h Y (fun F h=>?_) (fun F h=>?_)
 ·refine aE ?_;refine aF ?_;refine bR ?_;obtain⟨R,T,h⟩:=aA h;refine aJ (.a 2 ?_);refine .k (aO 109 Cq Y (.cons zI (.cons (Z.sl Q0) (.cons (Z.sl aM) .nil))) Y) (.t (bT Y Y Y Y s3 lT) (.f [4,20,21,22] ?_));obtain⟨U,N,h⟩:=aA h;refine aJ (.k (aT Y Y s3 vD lT) (.k (aN (Gj N) Tryz.call79 (.cons (.dir Y) .nil)) (.f [5,20,21,22] ?_)));refine aL [5,20,21,22,29] ?_;refine aU h Y (fun G h=>?_) (fun G h=>?_)
  ·refine aL [2] ?_;refine aH ?_;refine eK ?_;cases h;refine gD fun H=>?_;obtain rfl:=M _ H;exact aW z dU Y (RV.tmp Y) .nil Y
  refine aE ?_;refine aZ ?_;refine dT [20,21,22] ?_;cases h;exact cE (aC [])
 cases h;exact cY (dK (aC []))
theorem wU{u r}(h:rI u=some r):
 XL Tryz.prog 137 [.v (Wr.M6 Q0) u] (.ref 0) [(0,.arr 3 Q0 r)]:=by
 refine XL.of Tryz.func137 Y Tryz.ntmps137 Y ?_;intro S w z;unfold rI at h;refine aJ (.k (aS 101 3 Q0) (.f [0] ?_));refine jQ (.a 1 ?_);refine .k (xR Y xH) (.f [0,4] ?_);refine aU h Y (fun A h=>?_) (fun A h=>?_)
 ·refine aJ (.k (aS 102 3 Q0) (.f [2] ?_));cases h;exact aH (wF z dU Y (aC [(0,102)]))
 refine aE ?_;obtain⟨C,B,h⟩:=aA h;refine aJ (.k (rS (e:=Q0) 103 xH S3 Z3 Y Y Y Y .nil) ?_);refine .a 1 ?_;refine .t (bU 104 B Y Y (.M6 Y) xH I3 S3 Y Y Y Y Y) (.f [2] ?_);cases h;exact aH (wF z dU Y (aC [(0,104)]))
theorem zS{u:kS}{r:kS}(h:lK u=some r):
  XL Tryz.prog 137 [.v mO u] (.ref 0) [(0,.arr 3 Q0 r)]:=
 rV fun b z=>wU (by cases b with | true=>rw[z rfl] at h ⊢;exact h | false=>exact Eu h)
theorem Ei{u r}(h:nB u=some r):
 XL Tryz.prog 81 [.v Q8 u] (.v Q8 r) []:=by
 refine XL.of Tryz.func81 Y Tryz.ntmps81 Y ?_;intro S w z;unfold nB at h;refine aJ (.k (cL 101 Y s3 Y) (.k (aO 102 Cq Y (.cons zI (.cons (Z.sl Q0) (.cons (Z.sl aM) .nil))) Y) (.f [1,2] ?_)));refine aF ?_;obtain⟨A,B,h⟩:=aA h;obtain⟨C,D,h⟩:=aA h;refine eD 10 mixed (by exact(.k (aB 1 Y vE Y zD Y Y) (.k (aI Y Y Y Uc zD) (.k (fP 103000 (zS B) Tryz.call137 (.cons (.dir Y) .nil) Y) (.k (aB 2 Y vE Y yL Y Y) (.k (aI Y Y Y Uo yL) (.k (fP 104000 (cQ D) AJ (.cons (.dir Y) .nil) Y) (.k (aB 1 Y vE Y zD Y Y) (ZA.store (.none Y) Y Y Y Y Y Y Y zD (.k (aB 2 Y vE Y yL Y Y) (ZA.store (.none Y) Y Y Y Y Y Y Y yL .nil))))))))))) (by exact(J.kp [1,2] [])) ?_;refine aJ (.k (iB Y Y Y vD lT) (.f [2] ?_));refine aH ?_;obtain rfl:=pT h;exact cB (O':=⟨[(2,.ptr 90 0)],[(90,.box 144 [.v Q0 u.1,.v mO A,.v Q5 C])]⟩) (aC [(90,102)]) (aW z dU Y (aV Y Y s3 vD lT) .nil Y)
theorem Ej{u r}(h:sC u=some r):
 XL Tryz.prog 80 [.v (Wr.sl Q8) u] (.ref 0) [(0,.arr 144 Q8 r)]:=by
 refine XL.of Tryz.func80 Y Tryz.ntmps80 Y ?_;intro S w B;unfold sC at h;refine aJ (.k (aS 101 144 Q8) (.f [0] ?_));refine aJ (.k (aS 102 144 Q8) (.f [0,3] ?_));refine cU [3,6,7,8] ?_;obtain⟨K,E,F,L⟩:=cF h;refine jD (σs:=fun z:Int×Ln=>⟨[(3,.ref 112),(6,.v (Wr.sl Q8) u),(7,.v Q0 (u.length:Int)),(8,.v Q0 z.1)],[(112,.arr 144 Q8 z.2)]⟩) (fun A:Ln=>⟨[(3,.ref 112)],[(112,.arr 144 Q8 A)]⟩) E (aC [(112,102)]) ?_ ?_
 ·intro A C;have h:=F _ C;refine aL [2] ?_;cases h;exact aH (wF B dU Y (aC [(0,112)]))
 intro z I h;refine aL [3,6,7,8,9] ?_;refine aF ?_;refine aU h Y (fun D h=>?_) (fun D h=>?_)
 ·refine aE ?_;refine aF ?_;refine bR ?_;obtain⟨M,N,h⟩:=aA h;refine aJ (.a 2 ?_);refine .k (aO 116 Cq Y (.cons zI (.cons (Z.sl Q0) (.cons (Z.sl aM) .nil))) Y) (.t (bT Y Y Y Y s3 lT) (.f [3,5,6,7,8] ?_));obtain⟨O,G,h⟩:=aA h;obtain⟨P,H,h⟩:=aA h;refine eU (.a 1 ?_);refine .k (aT Y Y s3 vD lT) (.k (aN (Ei G) Tryz.call81 (.cons (.dir Y) .nil)) (.k (dN (e:=Q8) ML lT Cq Y Y Y Y (.cons (.dir Y) .nil)) (.t (bU 118 H Y Y (.sl Y) ML RR lT Y Y Y Y Y) (.f [3,6,7,8] ?_))));refine aZ ?_;refine dT [3,6,7,8] ?_;cases h;exact cE (aC [(112,118)])
 cases h;exact cY (dK (aC []))
theorem Ph{u z r}(h:uR u z=some r):
 XL Tryz.prog 50 [.v Ov u,.v Q8 z] (.XU [.v Ov r.1,.v Q9 r.2]) []:=by
 refine XL.of Tryz.func50 Y Tryz.ntmps50 Y ?_;intro S w B;unfold uR at h;refine aJ (.k (cL 101 Y s3 Y) (.k (cL 102 Y s3 Y) (.k (aO 103 VA Y (.cons zI (.cons zI (.cons (Z.sl Q8) .nil))) Y) (.f [2,3,4] ?_))));obtain⟨G,H,h⟩:=aA h;refine jQ (.k (aT Y Y s3 Yg Ke) (.k (aN (yH H) Tryz.call78 (.cons (.dir Y) .nil)) (.f [2,3,4,6] ?_)));refine aL [2,3,4,6,11] ?_;refine aU h Y (fun C h=>?_) (fun C h=>?_)
 ·refine aJ (.k (bQ Fq (.cons zI (.cons zI (.cons (Z.sl Q8) .nil))) .nil) (.f [4,5] ?_));refine aH ?_;obtain rfl:=pT h;exact cB (O':=⟨[(4,.ptr 90 0),(5,.v Q9 G)],[(90,.box 84 [.v Q0 (0:Int),.v Q0 (0:Int),.v (Wr.sl Q8) ([]:Ln)])]⟩) (aC [(90,103)]) (bS B dU Y (aV Y Y s3 Yg Ke) (RV.tmp Y) .nil Y)
 refine aE ?_;obtain⟨I,K,h⟩:=aA h;refine jQ (.k (aT Y Y s3 vD lT) (.k (aN (Gj K) Tryz.call79 (.cons (.dir Y) .nil)) (.f [2,3,4,7] ?_)));refine aL [2,3,4,7,17] ?_;refine aU h Y (fun D h=>?_) (fun D h=>?_)
 ·refine aJ (.k (bQ Fq (.cons zI (.cons zI (.cons (Z.sl Q8) .nil))) .nil) (.f [4,5] ?_));refine aH ?_;obtain rfl:=pT h;exact cB (O':=⟨[(4,.ptr 90 0),(5,.v Q9 I)],[(90,.box 84 [.v Q0 (0:Int),.v Q0 (0:Int),.v (Wr.sl Q8) ([]:Ln)])]⟩) (aC [(90,103)]) (bS B dU Y (aV Y Y s3 Yg Ke) (RV.tmp Y) .nil Y)
 refine aE ?_;refine aF ?_;refine aF ?_;obtain⟨L,A,h⟩:=aA h;refine eH (O':=⟨[(2,.ptr 101 0),(3,.ptr 102 0),(4,.ptr 103 0),(32,.v Wr.bool L)],[(101,.box 84 [.v Q0 u.1,.v Q0 u.2.1,.v (Wr.sl Q8) u.2.2]),(102,.box 144 [.v Q0 z.1,.v mO z.2.1,.v Q5 z.2.2]),(103,.box 84 [.v Q0 (0:Int),.v Q0 (0:Int),.v (Wr.sl Q8) ([]:Ln)])]⟩) ?_ ?_
 ·refine cd A (fun E A=>?_) (fun E A=>?_)
  ·cases A;exact jy
  cases A;exact jy
 refine aU h Y (fun F h=>?_) (fun F h=>?_)
 ·refine aJ (.k (bQ Fq (.cons zI (.cons zI (.cons (Z.sl Q8) .nil))) .nil) (.f [4,5] ?_));refine aH ?_;obtain rfl:=pT h;exact cB (O':=⟨[(4,.ptr 90 0),(5,.v Q9 (some (2:Int)))],[(90,.box 84 [.v Q0 (0:Int),.v Q0 (0:Int),.v (Wr.sl Q8) ([]:Ln)])]⟩) (aC [(90,103)]) (bS B dU Y (aV Y Y s3 Yg Ke) (RV.tmp Y) .nil Y)
 refine aE ?_;refine aF ?_;obtain⟨Q,M,h⟩:=aA h;obtain⟨R,N,h⟩:=aA h;obtain⟨O,P,h⟩:=aA h;refine eD 14 mixed (by exact(.k (aB 0 Y GM Y S3 Y Y) (.k (aI Y Y Y G3 S3) (.k (aB 1 Y GM Y S3 Y Y) (.k (aI Y Y Y G3 S3) (.k (aB 2 Y GM Y GH Y Y) (.k (aI Y Y Y SV GH) (.k (fP 109000 (Ej M) Tryz.call80 (.cons (.dir Y) .nil) Y) (.k (aT Y Y s3 vD lT) (.k (aN (Ei N) Tryz.call81 (.cons (.dir Y) .nil)) (.k (dN (e:=Q8) ML lT Cq Y Y Y Y (.cons (.dir Y) .nil)) (ZA.append (.none Y) 111 P Y Y (.sl Y) ML RR lT Y Y Y Y Y (.k (bQ Fq (.cons zI (.cons zI (.cons (Z.sl Q8) .nil))) (.cons Y (.dir Y) Y Y Y Y (.cons Y (.dir Y) Y Y Y Y (.cons Y (.dir Y) Y Y Y Y .nil)))) (ZA.G7 (.none Y) Y Y Y Y Y Y Ke (.k (zM ET) .nil))))))))))))))) (by exact(J.kp [4,5] [])) ?_;refine aH ?_;obtain rfl:=pT h;exact cB (O':=⟨[(4,.ptr 90 0),(5,.v Q9 (none:Option Int))],[(90,.box 84 [.v Q0 u.1,.v Q0 u.2.1,.v (Wr.sl Q8) O])]⟩) (aC [(90,103)]) (bS B dU Y (aV Y Y s3 Yg Ke) (RV.tmp Y) .nil Y)
theorem Qk{u r}(h:pL u=some r):
 XL Tryz.prog 52 [.v Ov u] (.XU [.v (Wr.sl (Wr.sl (Wr.int .u8))) r.1,.v Q9 r.2]) []:=by
 refine XL.of Tryz.func52 Y Tryz.ntmps52 Y ?_;intro S w z;unfold pL at h;refine aJ (.k (cL 101 Y s3 Y) (.k (aS 102 107 (Wr.sl (Wr.int .u8))) (.f [1] ?_)));obtain⟨U,L,h⟩:=aA h;refine jQ (.k (aT Y Y s3 Yg Ke) (.k (aN (yH L) Tryz.call78 (.cons (.dir Y) .nil)) (.f [1,4] ?_)));refine aL [1,4,13] ?_;refine aU h Y (fun G h=>?_) (fun G h=>?_)
 ·refine aJ (.a 1 ?_);refine .k (aS 104 107 (Wr.sl (Wr.int .u8))) (.f [2,3] ?_);cases h;exact aH (wX z dU Y (aC []))
 refine aE ?_;refine aJ (.k (aS 105 107 (Wr.sl (Wr.int .u8))) (.f [1,5] ?_));obtain⟨D,M,h⟩:=aA h;refine jQ (.a 5 ?_);refine .k (yX Y Y) (.k (BH M Y Y ML lT) (.f [1,5,21,22,23] ?_));obtain⟨V,N,O,E⟩:=cF h;refine jD (σs:=fun A:Int×(List kS)=>⟨[(1,.ptr 101 0),(5,.ref 119),(21,.v (Wr.sl Q8) D),(22,.v Q0 (D.length:Int)),(23,.v Q0 A.1)],[(101,.box 84 [.v Q0 u.1,.v Q0 u.2.1,.v (Wr.sl Q8) u.2.2]),(119,.arr 107 (Wr.sl (Wr.int .u8)) A.2)]⟩) (fun C:(List kS)=>⟨[(5,.ref 119)],[(119,.arr 107 (Wr.sl (Wr.int .u8)) C)]⟩) N (aC [(119,105)]) ?_ ?_
 ·intro C F;have h:=O _ F;refine aL [2,3] ?_;cases h;exact aH (wX z dU Y (aC []))
 intro A T h;refine aL [1,5,21,22,23,24] ?_;refine aF ?_;refine aU h Y (fun H h=>?_) (fun H h=>?_)
 ·refine aE ?_;refine aF ?_;refine bR ?_;obtain⟨X,aa,h⟩:=aA h;refine aJ (.a 3 ?_);refine .k (aO 125 Cq Y (.cons zI (.cons (Z.sl Q0) (.cons (Z.sl aM) .nil))) Y) ?_;refine .a 1 ?_;refine .t (bT Y Y Y Y s3 lT) (.f [1,5,6,7,21,22,23] ?_);refine cU [1,5,6,7,21,22,23,32] ?_;refine aU h Y (fun I h=>?_) (fun I h=>?_)
  ·refine aJ (.a 1 ?_);refine .k (aS 126 107 (Wr.sl (Wr.int .u8))) (.f [2,3] ?_);refine aH ?_;refine eK ?_;cases h;refine gD fun B=>?_;obtain rfl:=E _ B;exact wX z dU Y (aC [])
  refine aE ?_;refine aF ?_;obtain⟨ue,P,h⟩:=aA h;obtain⟨ze,Q,h⟩:=aA h;refine eD 21 mixed (by exact(.k (aB 0 Y GM Y S3 Y Y) (.k (aI Y Y Y G3 S3) (.k (aB 1 Y GM Y S3 Y Y) (.k (aI Y Y Y G3 S3) (.k (aD Y) (.k (cZ Y Y Y) (.k (aB 0 Y vE Y S3 Y Y) (.k (aI Y Y Y G3 S3) (.k (BM (e:=Q0) xH S3 Z3 Y Y Y Y (.cons (.dir Y) (.cons (.dir Y) (.cons (.dir Y) .nil)))) (.k (aB 1 Y vE Y zD Y Y) (.k (aI Y Y Y Uc zD) (.k (Ly P (List.cons_ne_nil _ _) Y (.sl Y) xH I3 S3 Y Y Y) (.k (aB 2 Y vE Y yL Y Y) (.k (aI Y Y Y Uo yL) (.k (bQ mJ (.cons zI (.cons (Z.sl Q0) (.cons (Z.sl aM) .nil))) (.cons Y (.dir Y) Y Y Y Y (.cons Y (.dir Y) Y Y Y Y (.cons Y (.dir Y) Y Y Y Y .nil)))) (.k (aN (yF Q) Tryz.call77 (.cons (.agg Y (.same (.same (.same .nil))) s3 Y) .nil)) (.k (aD Y) (.k (bW Y Y) (.k (bW Y Y) (.k (bN Y) (.k (bN Y) .nil)))))))))))))))))))))) (by exact(J.kp [1,5,8,9,21,22,23] [])) ?_;refine cU [1,5,8,9,21,22,23,54] ?_;refine aU h Y (fun K h=>?_) (fun K h=>?_)
  ·refine aJ (.a 1 ?_);refine .k (aS 128 107 (Wr.sl (Wr.int .u8))) (.f [2,3] ?_);refine aH ?_;refine eK ?_;cases h;refine gD fun B=>?_;obtain rfl:=E _ B;exact wX z dU Y (aC [])
  refine aE ?_;obtain⟨D7,R,h⟩:=aA h;refine eU (.a 2 ?_);refine .k (dN (e:=(Wr.sl (Wr.int .u8))) RW Xv Tryz.zeroValue107 Y Y Y Y (.cons (.dir Y) .nil)) (.t (bU 129 R Y Y (.sl Y) RW Tryz.typeInfo107 Xv Y Y Y Y Y) (.f [1,5,21,22,23] ?_));refine aZ ?_;refine dT [1,5,21,22,23] ?_;cases h;exact cE (aC [(119,129)])
 cases h;exact cY (dK (aC []))
theorem uF(A:Nat->Nat){b0 C D E F G I L b8 b9 M bB N O P Q T bH U V X bL r}(h:dI b0 C D E F G I L b8 b9 M bB N O P Q T bH U V X bL=some r):
 XA Tryz.prog 30 [.ptr 9000 0] (kM 9000 (some (A 9000)) 9100 (some (A 9100)) 9200 (some (A 9200)) 9050 9051 9052 9053 b0 C D E F G I L b8 b9 M bB N O P Q T bH U V X bL) (.v Q9 r.1) (kM 9000 (some (A 9000)) 9100 (some (A 9100)) 9200 (some (A 9200)) 400 401 402 403 b0 C D E F G I L r.2.1 r.2.2.1 M r.2.2.2.1 N O P Q T r.2.2.2.2 U V X bL):=by
 refine XA.of Tryz.func30 Y Tryz.ntmps30 Y ?_;intro S w R hF;unfold dI at h;refine aL [0] ?_;refine aL [0,3] ?_;obtain⟨v1,XO,h⟩:=aA h;refine jQ (.a 6 ?_);refine .k (dN (e:=Q0) xH S3 Z3 Y Y Y Y (.cons (.dir Y) .nil)) (.k (bQ mJ (.cons zI (.cons (Z.sl Q0) (.cons (Z.sl aM) .nil))) (.cons Y (.dir Y) Y Y Y Y (.cons Y (.dir Y) Y Y Y Y .nil))) (.t (tA (H:=[9000,9100,9200,9050,9051,9052,9053]) (K:=[9000,9100,9200]) (vC [(9000,9000),(9100,9100),(9200,9200),(9050,9050),(9051,9051),(9052,9052),(9053,9053),(400,101),(401,102),(402,103),(403,104)]) (dF Y) (fun A=>uZ A XO) Tryz.call49 (.cons (.dir Y) (.cons (.dir Y) (.cons (.agg Y (.same (.same (.same .nil))) s3 Y) .nil))) (fun A=>(.box Y (.box Y (.box Y (.arr Y (.mp Y (.arr Y (.arr Y .nil)))))))) (fun A=>(.box Y (.box Y (.box Y (.arr (.mp (.arr (.arr .nil Y) Y) Y) Y) Y) Y) Y)) (fun _=>rfl) Y Y (fun _=>rfl) Y Y) (.f [0,3,4] ?_)));refine aF ?_;obtain⟨x3,u,h⟩:=aA h;refine eH (O':=⟨[(0,.ptr 9000 0),(3,.ptr 9000 1),(4,.v Q9 v1.1),(31,.v Wr.bool x3)],(kM 9000 (some (A 9000)) 9100 (some (A 9100)) 9200 (some (A 9200)) 101 102 103 104 b0 C D E F G I L b8 b9 M bB N O P Q T v1.2 U V X bL)⟩) ?_ ?_
 ·refine cd u (fun u6 u=>?_) (fun u6 u=>?_)
  ·cases u;exact jy
  cases u;exact jy
 refine aU h Y (fun G4 h=>?_) (fun G4 h=>?_)
 ·refine aL [0,2] ?_;cases h;exact aH (fA hF Y (aC [(403,104),(402,103),(401,102),(400,101)]))
 refine aE ?_;refine aF ?_;refine aF ?_;obtain⟨x7,u,h⟩:=aA h;refine Jj (O':=⟨[(0,.ptr 9000 0),(3,.ptr 9000 1),(51,.v Wr.bool x7)],(kM 9000 (some (A 9000)) 9100 (some (A 9100)) 9200 (some (A 9200)) 101 102 103 104 b0 C D E F G I L b8 b9 M bB N O P Q T v1.2 U V X bL)⟩) ?_ ?_
 ·intro hk;refine cd u (fun B u=>?_) (fun B u=>?_)
  ·cases u;exact eD 19 mixed (by exact(.k (aD Y) (.k (aK Y) (.k (aB 15 Y wD Y S3 Y Y) (.k (aI Y Y Y G3 S3) (.k (aD Y) (.k (aK Y) (.k (aB 1 Y wD Y Lp Y Y) (.k (aB 3 Y Ft Y S3 Y Y) (.k (aI Y Y Y G3 S3) (.k (jU Y Y Y) (.k (aD Y) (.g B (aD Y) (.g B (aK Y) (.g B (aB 12 Y wD Y Ke Y Y) (.g B (aB 14 Y GM Y GH Y Y) (.g B (yY (off:=12) (o1:=2) Y Y Y Y (.snd (.snd .here)) SV GH) (.g B (tQ Y ML) (.g B (jU Y Y Y) (.k (xW B Y Y) .nil)))))))))))))))))))) (by exact(J.fin (aC []))) hk
  cases u;exact sQ 19 mixed hk
 obtain⟨aa,ab,h⟩:=fE h;refine sY (fun z:(Int×Int×Ln)×Int×kS=>⟨[(0,.ptr 9000 0),(3,.ptr 9000 1)],(kM 9000 (some (A 9000)) 9100 (some (A 9100)) 9200 (some (A 9200)) 119 120 121 122 b0 C D E F G I L z.1 z.2.1 M z.2.2 N O P Q T v1.2 U V X bL)⟩) (fun x=>aa x=some r) Y ?_ ?_ ?_
 ·intro z h;rw[ab] at h;obtain⟨uf,ac,h⟩:=aA h;refine aJ (.a 4 ?_);refine .k (aN (Qk ac) Tryz.call52 (.cons (.dir Y) .nil)) (.f [0,7,8] ?_);refine cU [0,8,99,100,101] ?_;obtain⟨aj,ad,ae,am⟩:=cF h;refine jD (σs:=fun T9:Int×Ul=>⟨[(0,.ptr 9000 0),(8,.v Q9 uf.2),(99,.v (Wr.sl (Wr.sl (Wr.int .u8))) uf.1),(100,.v Q0 (uf.1.length:Int)),(101,.v Q0 T9.1)],(kM 9000 (some (A 9000)) 9100 (some (A 9100)) 9200 (some (A 9200)) 158 159 160 161 b0 C D E F G I L z.1 z.2.1 M z.2.2 N O P Q T T9.2 U V X bL)⟩) (fun lv:Ul=>⟨[(0,.ptr 9000 0),(8,.v Q9 uf.2)],(kM 9000 (some (A 9000)) 9100 (some (A 9100)) 9200 (some (A 9200)) 158 159 160 161 b0 C D E F G I L z.1 z.2.1 M z.2.2 N O P Q T lv U V X bL)⟩) ad (aC [(161,122),(160,121),(159,120),(158,119)]) ?_ ?_
  ·intro lv hy;have h:=ae _ hy;refine aL [0,2] ?_;cases h;exact aH (fA hF Y (aC [(403,161),(402,160),(401,159),(400,158)]))
  intro T9 ai h;refine aL [0,8,99,100,101,102] ?_;refine aF ?_;refine aU h Y (fun nb h=>?_) (fun nb h=>?_)
  ·refine aE ?_;refine aF ?_;refine bR ?_;obtain⟨an,ap,h⟩:=aA h;refine aL [0,8,10,99,100,101] ?_;obtain⟨au,af,h⟩:=aA h;obtain⟨zd,ah,h⟩:=aA h;refine eU (.a 2 ?_);refine .t (tA (H:=[9000,9100,9200,158,159,160,161]) (K:=[9000,9100,9200]) (vC [(9000,9000),(9100,9100),(9200,9200),(9050,158),(9051,159),(9052,160),(9053,161),(400,166),(401,167),(402,168),(403,169)]) (dF Y) (fun A=>pG A ah) Tryz.call53 (.cons (.dir Y) (.cons (.dir Y) (.cons (.toN (Nn af) Y) .nil))) (fun A=>(.box Y (.box Y (.box Y (.arr Y (.mp Y (.arr Y (.arr Y .nil)))))))) (fun A=>(.box Y (.box Y (.box Y (.arr (.mp (.arr (.arr .nil Y) Y) Y) Y) Y) Y) Y)) (fun _=>rfl) Y Y (fun _=>rfl) Y Y) (.f [0,8,99,100,101] ?_);refine aZ ?_;refine dT [0,8,99,100,101] ?_;cases h;exact cE (aC [(161,169),(160,168),(159,167),(158,166)])
  cases h;exact cY (dK (aC []))
 ·intro C4;replace h:=iJ C4 h;refine aF ?_;obtain⟨xv,vi,h⟩:=aA h;obtain⟨xu,vh,h⟩:=aA h;refine VE (OK:=(VC ([(9000,12,.v Ov b8)]:List (Nat×Nat×Slot)))) 13 mixed (by exact(.pu (.none Y) Y (fun _ _=>aD Y) (.pu (.none Y) Y (fun _ _=>aK Y) (.pu (.none Y) Y (fun _ _=>aB 12 Y wD Y Ke Y Y) (.pu (.none Y) Y (fun _ hd=>IJ _ 0 hd Y (fun _ _ _ he ho=>aI Y he ho Yg Ke)) (.k (aD Y) (ZA.N2 (.none Y) (H:=[9000,9100,9200,101,102,103,104]) (K:=[9000,9100,9200]) (vC [(9000,9000),(9100,9100),(9200,9200),(9050,101),(9051,102),(9052,103),(9053,104),(400,129),(401,130),(402,131),(403,132)]) (dF Y) (fun A=>yG A vi) Tryz.call51 (.cons (.dir Y) .nil) (fun A=>(.box Y (.box Y (.box Y (.arr Y (.mp Y (.arr Y (.arr Y .nil)))))))) (fun A=>(.box Y (.box Y (.box Y (.arr (.mp (.arr (.arr .nil Y) Y) Y) Y) Y) Y) Y)) (fun _=>rfl) Y Y (fun _=>rfl) Y Y (.k (aN (Ph vh) Tryz.call50 (.cons (.dir Y) (.cons (.dir Y) .nil))) (.k (aD Y) (.pu (.none Y) Y (fun _ _=>bW Y Y) (.pu (.none Y) Y (fun _ _=>bW Y Y) (.k (aO 134 VA Y (.cons zI (.cons zI (.cons (Z.sl Q8) .nil))) Y) (ZA.storeAll (.none Y) Y Y Y Y s3 Ke (.k (bN Y) .nil)))))))))))))) (by exact(J.kp [0,3,5,6] [])) (by exact BW Y (by repeat' (first | exact trivial | exact Y | refine And.intro ?_ ?_))) ?_;refine cU [0,3,5,6,63] ?_;refine aU h Y (fun V0 h=>?_) (fun V0 h=>?_)
  ·refine aL [0,2] ?_;refine aH ?_;refine Hq ?_;cases h;exact fA hF Y (aC [(403,132),(402,131),(401,130),(400,129)])
  refine aE ?_;refine aF ?_;refine eD 14 mixed (by exact(.k (aD Y) (.pu (.none Y) Y (fun _ _=>aD Y) (.k (aT Y Y s3 Yg Ke) (.k (aD Y) (.k (aK Y) (.k (aB 1 Y wD Y Lp Y Y) (.k (aB 3 Y Ft Y S3 Y Y) (.k (aI Y Y Y G3 S3) (.k (aK Y) (.k (aB 12 Y wD Y Ke Y Y) (ZA.store (.none Y) Y Y Y Y Y Y Y Ke (.k (aK Y) (.k (aB 15 Y wD Y S3 Y Y) (ZA.store (.none Y) Y Y Y Y Y Y Y S3 .nil))))))))))))))) (by exact(J.kp [0,3] [])) ?_;obtain⟨gi,bm,h⟩:=aA h;refine eD 15 mixed (by exact(.k (aD Y) (.k (aD Y) (.k (aK Y) (.k (aB 17 Y wD Y zD Y Y) (.k (aI Y Y Y Uc zD) (.k (aD Y) (.k (aK Y) (.k (aB 1 Y wD Y Lp Y Y) (.k (aB 3 Y Ft Y S3 Y Y) (.k (aI Y Y Y G3 S3) (.k (dN (e:=Q0) xH S3 Z3 Y Y Y Y (.cons (.dir Y) .nil)) (ZA.append (.none Y) 136 bm Y Y (.sl Y) xH I3 S3 Y Y Y Y Y (.k (aK Y) (.k (aB 17 Y wD Y zD Y Y) (ZA.store (.none Y) Y Y Y Y Y Y Y zD .nil)))))))))))))))) (by exact(J.kp [0,3] [])) ?_;exact bY h (aC [(122,132),(121,136),(120,130),(119,129)])
 ·intro C4;replace h:=iK C4 h;refine aE ?_;exact bY h (aC [(122,104),(121,103),(120,102),(119,101)])
theorem Cx(A:Nat->Nat){u b0 z B C D E F G H I K L M N O P Q T U V X bL r}(h:nX u b0 z B C D E F G H I K L M N O P Q T U V X bL=some r):
 XA Tryz.prog 111 [.ptr 9000 0,.v Q4 u] (kM 9000 (some (A 9000)) 9100 (some (A 9100)) 9200 (some (A 9200)) 9050 9051 9052 9053 b0 z B C D E F G H I K L M N O P Q T U V X bL) (.XU [.v aM r.1,.v Q9 r.2.1]) (Uf 9000 (some (A 9000)) 301 none 302 none 400 401 402 403 r.2.2):=by
 refine XA.of Tryz.func111 Y Tryz.ntmps111 Y ?_;intro S w R hF;unfold nX at h;refine aJ (.k (cL 101 Y s4 Y) (.k (aO 102 Cb Y (.cons (Z.arr 8 (Z.int .u8)) .nil) Y) (.f [0,4] ?_)));obtain⟨v1,XO,h⟩:=aA h;refine aJ (.k (cV (e:=aM) (v:=aQ) An vG I5 Y Y (Z.arr 8 (Z.int .u8))) ?_);refine .a 1 ?_;refine .t (eN [9000,9100,9200,9050,9051,9052,9053] (vC [(9000,9000),(9100,9100),(9200,9200),(9050,9050),(9051,9051),(9052,9052),(9053,9053),(400,103),(401,104),(402,105),(403,106)]) (dF Y) (fun A=>uF A XO) Tryz.call30 (fun A=>(.box Y (.box Y (.box Y (.arr (.mp (.arr (.arr .nil Y) Y) Y) Y) Y) Y) Y))) (.f [0,4,5] ?_);refine aH ?_;obtain rfl:=pT h;exact kX [(0,.ptr 9000 0),(4,.ptr 90 0),(5,.v Q9 v1.1)] [(90,.box 30 [.v aM aQ])] (aC [(90,102),(403,106),(302,9200),(402,105),(401,104),(400,103),(301,9100)]) (eA hF Y (cO Y Y Y uW kW) (RV.tmp Y) (.cons Y (.cons Y (.cons Y (.cons Y (.cons Y (.cons Y (.cons Y .nil))))))))
theorem kH(A:Nat->Nat){a1 b0 u z B C D E F G H I K L M N O P Q T U V X r}(h:cD a1 b0 u z B C D E F G H I K L M N O P Q T U V X=some r):
 XA Tryz.prog 44 [.ptr 9000 0,.v Q0 a1] (kM 9000 (some (A 9000)) 9100 (some (A 9100)) 9200 (some (A 9200)) 9050 9051 9052 9053 b0 u z B C D E F G H I K L M N O P Q T U V X) (.XU [.v Q0 r.1,.v Wr.bool r.2]) (kM 9000 (some (A 9000)) 9100 (some (A 9100)) 9200 (some (A 9200)) 400 401 402 403 b0 u z B C D E F G H I K L M N O P Q T U V X):=by
 refine XA.of Tryz.func44 Y Tryz.ntmps44 Y ?_;intro S w R hF;unfold cD at h;refine aL [0,1] ?_;refine cU [0,1,11] ?_;refine aU h Y (fun m9 h=>?_) (fun m9 h=>?_)
 ·refine aL [0,4,5] ?_;cases h;exact aH (IN hF Y (aC [(403,9053),(402,9052),(401,9051),(400,9050)]))
 refine aE ?_;obtain⟨u2,aa,h⟩:=aA h;refine aJ (.a 3 ?_);refine .k (Yi Y) (.k (Bi Y Y) ?_);refine .a 5 ?_;refine .k (kT (.inr Y) (Er aa) Y Y) (.f [0,4,5] ?_);cases h;exact aH (IN hF Y (aC [(403,9053),(402,9052),(401,9051),(400,9050)]))
theorem mM{u r}(h:hX u=some r):
 XL Tryz.prog 46 [.v (Wr.M6 (Wr.pr Wr.bool (Wr.pr Wr.bool (Wr.sl (Wr.int .u8))))) u] (.ref 0) [(0,.arr 135 (Wr.pr Wr.bool (Wr.pr Wr.bool (Wr.sl (Wr.int .u8)))) r)]:=by
 refine XL.of Tryz.func46 Y Tryz.ntmps46 Y ?_;intro S w z;unfold hX at h;refine aJ (.k (aS 101 135 (Wr.pr Wr.bool (Wr.pr Wr.bool (Wr.sl (Wr.int .u8))))) (.f [0] ?_));refine jQ (.a 1 ?_);refine .k (xR Y Kg) (.f [0,4] ?_);refine aU h Y (fun A h=>?_) (fun A h=>?_)
 ·refine aJ (.k (aS 102 135 (Wr.pr Wr.bool (Wr.pr Wr.bool (Wr.sl (Wr.int .u8))))) (.f [2] ?_));cases h;exact aH (wF z dU Y (aC [(0,102)]))
 refine aE ?_;obtain⟨C,B,h⟩:=aA h;refine aJ (.k (rS (e:=(Wr.pr Wr.bool (Wr.pr Wr.bool (Wr.sl (Wr.int .u8))))) 103 Kg wI GN Y Y Y Y .nil) ?_);refine .a 1 ?_;refine .t (bU 104 B Y Y (.M6 Y) Kg PH wI Y Y Y Y Y) (.f [2] ?_);cases h;exact aH (wF z dU Y (aC [(0,104)]))
theorem iQ{u:Ul}{r:Ul}(h:dD u=some r):
  XL Tryz.prog 46 [.v (Wr.sl (Wr.pr Wr.bool (Wr.pr Wr.bool (Wr.sl (Wr.int .u8))))) u] (.ref 0) [(0,.arr 135 (Wr.pr Wr.bool (Wr.pr Wr.bool (Wr.sl (Wr.int .u8)))) r)]:=
 rV fun b z=>mM (by cases b with | true=>rw[z rfl] at h ⊢;exact h | false=>exact Eu h)
end Go.Cn
