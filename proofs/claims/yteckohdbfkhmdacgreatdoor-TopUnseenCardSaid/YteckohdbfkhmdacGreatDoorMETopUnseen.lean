/- The functions come to what their models come to. Conditions: none. -/
import Derived.Test.YteckohdbfkhmdacGreatDoorMDTopUnseen
import Derived.KernelRfl
import Derived.WalkKit
import Derived.LaidEql
import Derived.Stop.Asserts
import Derived.RowKitTokens
import Derived.Test.YteckohdbfkhmdacGreatDoorChecked
set_option linter.unusedVariables false
set_option linter.unusedSimpArgs false
set_option maxRecDepth 100000
set_option maxHeartbeats 4000000
namespace Go.Cn
open Go Go.Sw Go.Mo Go.Proofs
abbrev ET:Nat:=28
theorem Y{α:Sort _}{a:α}:a=a:=rfl
abbrev Q0:=(Wr.int .i64)
abbrev Q1:=(Wr.sl (Wr.pr Q0 aQ))
abbrev Q2:=(Wr.pr (Wr.sl aQ) (Wr.pr Q1 Q0))
abbrev Q3:=(Int×Int×Int×Int×(List aR)×(Int×(List (Int×aR))×(List (Int×(List (Int×aR))))×Bool)×(List (Int×(List aR)))×Int×(Int×Int×(List (Int×(List Int)×(List aR))))×Int×Int×(List Int)×Int×Int×Int×Int×(Int×Int)×(List (Bool×Bool×(List Int)))×Int×((List aR)×(List (Int×aR))×Int)×Int×((List aR)×(List (Int×aR))×Int))
abbrev Q4:=(Wr.pr Q0 (Wr.pr Q0 (Wr.pr Q0 aQ)))
abbrev Q5:=(Wr.sl aQ)
abbrev Q6:=(List (Int×aR))
abbrev Q7:=(Wr.pr Q0 (Wr.pr aQ (Wr.pr Q0 (Wr.pr Q0 (Wr.pr Q0 Q5)))))
abbrev Q8:=(Wr.pr Q0 (Wr.pr (Wr.sl Q0) Q5))
abbrev Q9:=(Wr.err ET)
abbrev gF:=(Wr.pr Q0 aQ)
abbrev Ki:=(Wr.pr Q0 (Wr.pr Q1 (Wr.pr (Wr.sl (Wr.pr Q0 Q1)) Wr.bool)))
abbrev Cl:=((List aR)×Q6×Int)
abbrev lS:=(List aR)
abbrev kH:=(List Int)
abbrev pB:=(Wr.pr Q0 Q1)
abbrev lY:=(Wr.sl Q0)
abbrev Nk:=(Wr.pr Q0 (Wr.pr Q0 (Wr.sl Q8)))
abbrev Oe:=(List (Int×kH×lS))
abbrev Ht:=(List (Int×Q6))
abbrev Yn:=(List (Bool×Bool×kH))
abbrev Tc:=(Option (Int×Cl))
abbrev SN:=Tryz.call10
abbrev MW:=Tryz.call101
abbrev MX:=Tryz.call102
abbrev MY:=Tryz.call118
abbrev UD:=Tryz.call12
abbrev MZ:=Tryz.call126
abbrev DW:=Tryz.call133
abbrev Yo:=Tryz.call138
abbrev NA:=Tryz.call139
abbrev NB:=Tryz.call160
abbrev IW:=Tryz.call163
abbrev RZ:=Tryz.call167
abbrev DX:=Tryz.call185
abbrev NC:=Tryz.call207
abbrev ND:=Tryz.call210
abbrev NF:=Tryz.call212
abbrev IX:=Tryz.call213
abbrev IY:=Tryz.call215
abbrev TW:=Tryz.call23
abbrev TX:=Tryz.call27
abbrev SO:=Tryz.call44
abbrev SA:=Tryz.call48
abbrev QP:=Tryz.call69
abbrev IZ:=Tryz.isAgg107
abbrev uK:=Tryz.isAgg144
abbrev rU:=Tryz.isAgg186
abbrev Nl:=Tryz.isAgg197
abbrev Wg:=Tryz.isAgg210
abbrev Yp:=Tryz.isAgg214
abbrev Sq:=Tryz.isAgg22
abbrev PM:=Tryz.isAgg28
abbrev G3:=Tryz.isAgg3
abbrev vT:=Tryz.isAgg30
abbrev JB:=Tryz.isAgg31
abbrev NZ:=Tryz.isAgg33
abbrev SB:=Tryz.isAgg35
abbrev Wt:=Tryz.isAgg44
abbrev UE:=Tryz.isAgg47
abbrev G5:=Tryz.isAgg5
abbrev SC:=Tryz.isAgg61
abbrev Nn:=Tryz.isAgg74
abbrev EH:=Tryz.isAgg77
abbrev Em:=Tryz.isAgg80
abbrev OA:=Tryz.isAgg81
abbrev QQ:=Tryz.isAgg82
abbrev Wu:=Tryz.isAgg84
abbrev PN:=Tryz.isAgg88
abbrev SD:=Tryz.isAgg91
abbrev NG:=Tryz.typeInfo135
abbrev PO:=Tryz.typeInfo144
abbrev PQ:=Tryz.typeInfo197
abbrev PR:=Tryz.typeInfo210
abbrev Kj:=Tryz.typeInfo214
abbrev I3:=Tryz.typeInfo3
abbrev Hu:=Tryz.typeInfo30
abbrev EI:=Tryz.typeInfo44
abbrev I5:=Tryz.typeInfo5
abbrev Wh:=Tryz.sizeOf107
abbrev vO:=Tryz.sizeOf135
abbrev lE:=Tryz.sizeOf144
abbrev kX:=Tryz.sizeOf186
abbrev uT:=Tryz.sizeOf197
abbrev Bw:=Tryz.sizeOf210
abbrev jN:=Tryz.sizeOf214
abbrev yO:=Tryz.sizeOf22
abbrev Yq:=Tryz.sizeOf28
abbrev S3:=Tryz.sizeOf3
abbrev nG:=Tryz.sizeOf30
abbrev Kd:=Tryz.sizeOf31
abbrev Ig:=Tryz.sizeOf33
abbrev OB:=Tryz.sizeOf35
abbrev JC:=Tryz.sizeOf361
abbrev S4:=Tryz.sizeOf4
abbrev zD:=Tryz.sizeOf44
abbrev UF:=Tryz.sizeOf47
abbrev S5:=Tryz.sizeOf5
abbrev PU:=Tryz.sizeOf54
abbrev SE:=Tryz.sizeOf59
abbrev OC:=Tryz.sizeOf61
abbrev Hv:=Tryz.sizeOf74
abbrev Kk:=Tryz.sizeOf76
abbrev Hw:=Tryz.sizeOf77
abbrev SQ:=Tryz.sizeOf78
abbrev yP:=Tryz.sizeOf80
abbrev Yr:=Tryz.sizeOf81
abbrev DY:=Tryz.sizeOf82
abbrev Jc:=Tryz.sizeOf84
abbrev OD:=Tryz.sizeOf86
abbrev EJ:=Tryz.sizeOf88
abbrev SF:=Tryz.sizeOf90
abbrev JD:=Tryz.sizeOf91
abbrev OE:=Tryz.sizeOf97
abbrev tB:=Tryz.runUnderlying107
abbrev JE:=Tryz.runUnderlying135
abbrev uL:=Tryz.runUnderlying144
abbrev PV:=Tryz.runUnderlying148
abbrev Kl:=Tryz.runUnderlying186
abbrev vX:=Tryz.runUnderlying188
abbrev Ys:=Tryz.runUnderlying197
abbrev PW:=Tryz.runUnderlying210
abbrev No:=Tryz.runUnderlying214
abbrev wO:=Tryz.runUnderlying22
abbrev Ke:=Tryz.runUnderlying25
abbrev DZ:=Tryz.runUnderlying254
abbrev PX:=Tryz.runUnderlying293
abbrev U3:=Tryz.runUnderlying3
abbrev xJ:=Tryz.runUnderlying30
abbrev Td:=Tryz.runUnderlying31
abbrev PY:=Tryz.runUnderlying324
abbrev PZ:=Tryz.runUnderlying326
abbrev QA:=Tryz.runUnderlying328
abbrev Wi:=Tryz.runUnderlying33
abbrev Oq:=Tryz.runUnderlying35
abbrev Wj:=Tryz.runUnderlying350
abbrev NH:=Tryz.runUnderlying363
abbrev OF:=Tryz.runUnderlying44
abbrev UG:=Tryz.runUnderlying47
abbrev UH:=Tryz.runUnderlying49
abbrev U5:=Tryz.runUnderlying5
abbrev SR:=Tryz.runUnderlying57
abbrev NI:=Tryz.runUnderlying61
abbrev Te:=Tryz.runUnderlying65
abbrev En:=Tryz.runUnderlying76
abbrev xW:=Tryz.runUnderlying77
abbrev EA:=Tryz.runUnderlying78
abbrev QR:=Tryz.runUnderlying80
abbrev QB:=Tryz.runUnderlying81
abbrev KD:=Tryz.runUnderlying82
abbrev EB:=Tryz.runUnderlying84
abbrev vH:=Tryz.runUnderlying86
abbrev JF:=Tryz.runUnderlying90
abbrev Jd:=Tryz.runUnderlying91
abbrev Sr:=Tryz.runUnderlying93
abbrev EC:=Tryz.zeroValue135
abbrev Bx:=Tryz.zeroValue144
abbrev Ss:=Tryz.zeroValue186
abbrev Ot:=Tryz.zeroValue197
abbrev Np:=Tryz.zeroValue210
abbrev Eo:=Tryz.zeroValue214
abbrev Z3:=Tryz.zeroValue3
abbrev By:=Tryz.zeroValue30
abbrev TN:=Tryz.zeroValue31
abbrev SG:=Tryz.zeroValue33
abbrev BI:=Tryz.zeroValue44
abbrev Z5:=Tryz.zeroValue5
abbrev TO:=Tryz.zeroValue59
abbrev TP:=Tryz.zeroValue61
abbrev QC:=Tryz.zeroValue80
abbrev SS:=Tryz.zeroValue84
abbrev SH:=Tryz.zeroValue97
abbrev kE(i:Nat)(ia:Option Nat)(p:Nat)(pa:Option Nat)(q:Nat)(qa:Option Nat)(x y z u:Nat)(b0 b1 b2 b3:Int)(b4:List aR)(b5:Int×List (Int×aR)×List (Int×List (Int×aR))×Bool)(b6:List (Int×List aR))(b7:Int)(b8:Int×Int×List (Int×List Int×List aR))(b9 bA:Int)(bB:List Int)(bC bD bE bF:Int)(bG:Int×Int)(bH:List (Bool×Bool×List Int))(bI:Int)(bJ:List aR×List (Int×aR)×Int)(bK:Int)(bL:List aR×List (Int×aR)×Int):List (Nat×UU):=
 [(i,.box 93 [.v Q0 b0,.ptr p 0,.v Q0 b1,.v Q0 b2,.v Q0 b3,.ref x,.v Ki b5,.ref y,.v Q0 b7,.v Nk b8,.v Q0 b9,.v Q0 bA,.ref z,.ptr q 0,.v Q0 bC,.v Q0 bD,.v Q0 bE,.v Q0 bF,.v (Wr.pr Q0 Q0) bG,.ref u] ia),(p,.box 188 [.v Q0 bI,.v Q2 bJ] pa),(q,.box 188 [.v Q0 bK,.v Q2 bL] qa),(x,.arr 30 aQ b4),(y,.mp Q0 Q5 b6),(z,.arr 3 Q0 bB),(u,.arr 135 (Wr.pr Wr.bool (Wr.pr Wr.bool (Wr.sl (Wr.int .u8)))) bH)]
abbrev Su(i:Nat)(ia:Option Nat)(p:Nat)(pa:Option Nat)(q:Nat)(qa:Option Nat)(x y z u:Nat)(t:Int×Int×Int×Int×List aR×(Int×List (Int×aR)×List (Int×List (Int×aR))×Bool)×List (Int×List aR)×Int×(Int×Int×List (Int×List Int×List aR))×Int×Int×List Int×Int×Int×Int×Int×(Int×Int)×List (Bool×Bool×List Int)×Int×(List aR×List (Int×aR)×Int)×Int×(List aR×List (Int×aR)×Int)):List (Nat×UU):=kE i ia p pa q qa x y z u t.1 t.2.1 t.2.2.1 t.2.2.2.1 t.2.2.2.2.1 t.2.2.2.2.2.1 t.2.2.2.2.2.2.1 t.2.2.2.2.2.2.2.1 t.2.2.2.2.2.2.2.2.1 t.2.2.2.2.2.2.2.2.2.1 t.2.2.2.2.2.2.2.2.2.2.1 t.2.2.2.2.2.2.2.2.2.2.2.1 t.2.2.2.2.2.2.2.2.2.2.2.2.1 t.2.2.2.2.2.2.2.2.2.2.2.2.2.1 t.2.2.2.2.2.2.2.2.2.2.2.2.2.2.1 t.2.2.2.2.2.2.2.2.2.2.2.2.2.2.2.1 t.2.2.2.2.2.2.2.2.2.2.2.2.2.2.2.2.1 t.2.2.2.2.2.2.2.2.2.2.2.2.2.2.2.2.2.1 t.2.2.2.2.2.2.2.2.2.2.2.2.2.2.2.2.2.2.1 t.2.2.2.2.2.2.2.2.2.2.2.2.2.2.2.2.2.2.2.1 t.2.2.2.2.2.2.2.2.2.2.2.2.2.2.2.2.2.2.2.2.1 t.2.2.2.2.2.2.2.2.2.2.2.2.2.2.2.2.2.2.2.2.2
instance:fT Tryz.prog:=⟨_,(.c IZ (.c uK (.c rU (.c Nl (.c Wg (.c Yp (.c Sq (.c Tryz.isAgg253 (.c PM (.c Tryz.isAgg293 (.c G3 (.c vT (.c JB (.c Tryz.isAgg318 (.c NZ (.c Tryz.isAgg330 (.c Tryz.isAgg361 (.c Tryz.isAgg4 (.c Wt (.c UE (.c G5 (.c Tryz.isAgg54 (.c Tryz.isAgg57 (.c SC (.c Nn (.c EH (.c Tryz.isAgg78 (.c Em (.c OA (.c QQ (.c Wu (.c PN (.c SD (.c Tryz.isAgg97 .n)))))))))))))))))))))))))))))))))),_,(.c Wh (.c lE (.c kX (.c uT (.c Bw (.c jN (.c yO (.c Tryz.sizeOf253 (.c Yq (.c Tryz.sizeOf293 (.c S3 (.c nG (.c Kd (.c Tryz.sizeOf318 (.c Ig (.c Tryz.sizeOf330 (.c OB (.c JC (.c S4 (.c zD (.c UF (.c S5 (.c PU (.c Tryz.sizeOf57 (.c SE (.c OC (.c Hv (.c Kk (.c Hw (.c SQ (.c yP (.c Yr (.c DY (.c Jc (.c OD (.c EJ (.c SF (.c JD (.c OE .n))))))))))))))))))))))))))))))))))))))),_,(.c tB (.c JE (.c uL (.c PV (.c Kl (.c vX (.c Ys (.c PW (.c No (.c wO (.c Tryz.runUnderlying238 (.c Tryz.runUnderlying247 (.c Ke (.c DZ (.c Tryz.runUnderlying28 (.c Tryz.runUnderlying296 (.c U3 (.c Td (.c PY (.c PZ (.c QA (.c Wi (.c Oq (.c Wj (.c NH (.c OF (.c UG (.c UH (.c U5 (.c Tryz.runUnderlying54 (.c SR (.c Tryz.runUnderlying59 (.c NI (.c Te (.c En (.c xW (.c EA (.c QR (.c KD (.c EB (.c vH (.c Tryz.runUnderlying88 (.c JF (.c Jd (.c Sr .n))))))))))))))))))))))))))))))))))))))))))))),ET⟩
theorem mixed:Tryz.prog.follows .mixedOrders=true:=Tryz.checked.mixed
theorem Nq:A7 2 Tryz.prog 30 aQ:=A7.arr xJ S5 G5 (A7.int Tryz.underlying5)
theorem TQ:A7 3 Tryz.prog 44 Q4:=A7.struct OF Tryz.stoodInHeld44 rfl (Z0.cons (by decide) rfl (A7.up 2 (A7.int Tryz.underlying3) rfl) G3 S3 (Z0.cons (by decide) rfl (A7.up 2 (A7.int Tryz.underlying3) rfl) G3 S3 (Z0.cons (by decide) rfl (A7.up 2 (A7.int Tryz.underlying3) rfl) G3 S3 (Z0.last (by decide) rfl Nq vT nG))))
theorem SI:A7 2 Tryz.prog 293 (Wr.arr 4 (Wr.int .u8)):=A7.arr PX S5 G5 (A7.int Tryz.underlying5)
theorem BJ:l4 2 Tryz.prog 30 aQ:=l4.arr xJ S5 G5 (l4.int U5)
theorem NJ:∀parts,Tryz.prog.built 33 parts=Instr.fill (([(0,1),(1,8),(9,1),(10,1),(11,1),(12,1)]:List (Nat×Nat)).toArray[·]?) ([.int .i64 0,.int .u8 0,.int .u8 0,.int .u8 0,.int .u8 0,.int .u8 0,.int .u8 0,.int .u8 0,.int .u8 0,.int .i64 0,.int .i64 0,.int .i64 0,.slice none 0 0]:List Value).toArray parts:=dC Tryz.typeInfo33 Wi rfl rfl (.cons rfl (by kernel_rfl) (by kernel_rfl) (.cons rfl (by kernel_rfl) (by kernel_rfl) (.cons rfl (by kernel_rfl) (by kernel_rfl) (.cons rfl (by kernel_rfl) (by kernel_rfl) (.cons rfl (by kernel_rfl) (by kernel_rfl) (.cons rfl (by kernel_rfl) (by kernel_rfl) .nil))))))
theorem NK:∀parts,Tryz.prog.built 44 parts=Instr.fill (([(0,1),(1,1),(2,1),(3,8)]:List (Nat×Nat)).toArray[·]?) ([.int .i64 0,.int .i64 0,.int .i64 0,.int .u8 0,.int .u8 0,.int .u8 0,.int .u8 0,.int .u8 0,.int .u8 0,.int .u8 0,.int .u8 0]:List Value).toArray parts:=dC EI OF rfl rfl (.cons rfl (by kernel_rfl) (by kernel_rfl) (.cons rfl (by kernel_rfl) (by kernel_rfl) (.cons rfl (by kernel_rfl) (by kernel_rfl) (.cons rfl (by kernel_rfl) (by kernel_rfl) .nil))))
theorem BK:∀parts,Tryz.prog.built 59 parts=Instr.fill (([(0,1)]:List (Nat×Nat)).toArray[·]?) ([.slice none 0 0]:List Value).toArray parts:=dC Tryz.typeInfo59 Tryz.runUnderlying59 rfl rfl (.cons rfl (by kernel_rfl) (by kernel_rfl) .nil)
theorem Lf:∀parts,Tryz.prog.built 76 parts=Instr.fill (([(0,1),(1,1),(2,1),(3,1)]:List (Nat×Nat)).toArray[·]?) ([.pointer none,.int .i64 0,.int .i64 0,.int .i64 0]:List Value).toArray parts:=dC Tryz.typeInfo76 En rfl rfl (.cons rfl (by kernel_rfl) (by kernel_rfl) (.cons rfl (by kernel_rfl) (by kernel_rfl) (.cons rfl (by kernel_rfl) (by kernel_rfl) (.cons rfl (by kernel_rfl) (by kernel_rfl) .nil))))
theorem yQ:∀parts,Tryz.prog.built 80 parts=Instr.fill (([(0,1),(1,1),(2,1),(3,1)]:List (Nat×Nat)).toArray[·]?) ([.int .i64 0,.slice none 0 0,.slice none 0 0,.bool false]:List Value).toArray parts:=dC Tryz.typeInfo80 QR rfl rfl (.cons rfl (by kernel_rfl) (by kernel_rfl) (.cons rfl (by kernel_rfl) (by kernel_rfl) (.cons rfl (by kernel_rfl) (by kernel_rfl) (.cons rfl (by kernel_rfl) (by kernel_rfl) .nil))))
theorem El:∀parts,Tryz.prog.built 84 parts=Instr.fill (([(0,1),(1,1),(2,1)]:List (Nat×Nat)).toArray[·]?) ([.int .i64 0,.int .i64 0,.slice none 0 0]:List Value).toArray parts:=dC Tryz.typeInfo84 EB rfl rfl (.cons rfl (by kernel_rfl) (by kernel_rfl) (.cons rfl (by kernel_rfl) (by kernel_rfl) (.cons rfl (by kernel_rfl) (by kernel_rfl) .nil)))
theorem BL:∀parts,Tryz.prog.built 86 parts=Instr.fill (([(0,4),(4,1),(5,4),(9,1),(10,1),(11,3),(14,1),(15,1),(16,1)]:List (Nat×Nat)).toArray[·]?) ([.pointer none,.int .i64 0,.int .i64 0,.int .i64 0,.slice none 0 0,.int .i64 0,.slice none 0 0,.slice none 0 0,.bool false,.map none,.int .i64 0,.int .i64 0,.int .i64 0,.slice none 0 0,.int .i64 0,.int .i64 0,.slice none 0 0]:List Value).toArray parts:=dC Tryz.typeInfo86 vH rfl rfl (.cons rfl (by kernel_rfl) (by kernel_rfl) (.cons rfl (by kernel_rfl) (by kernel_rfl) (.cons rfl (by kernel_rfl) (by kernel_rfl) (.cons rfl (by kernel_rfl) (by kernel_rfl) (.cons rfl (by kernel_rfl) (by kernel_rfl) (.cons rfl (by kernel_rfl) (by kernel_rfl) (.cons rfl (by kernel_rfl) (by kernel_rfl) (.cons rfl (by kernel_rfl) (by kernel_rfl) (.cons rfl (by kernel_rfl) (by kernel_rfl) .nil)))))))))
theorem Lg:∀parts,Tryz.prog.built 88 parts=Instr.fill (([(0,1),(1,1)]:List (Nat×Nat)).toArray[·]?) ([.int .i64 0,.int .i64 0]:List Value).toArray parts:=dC Tryz.typeInfo88 Tryz.runUnderlying88 rfl rfl (.cons rfl (by kernel_rfl) (by kernel_rfl) (.cons rfl (by kernel_rfl) (by kernel_rfl) .nil))
theorem BM:∀parts,Tryz.prog.built 90 parts=Instr.fill (([(0,4),(4,1),(5,2)]:List (Nat×Nat)).toArray[·]?) ([.pointer none,.int .i64 0,.int .i64 0,.int .i64 0,.int .i64 0,.int .i64 0,.int .i64 0]:List Value).toArray parts:=dC Tryz.typeInfo90 JF rfl rfl (.cons rfl (by kernel_rfl) (by kernel_rfl) (.cons rfl (by kernel_rfl) (by kernel_rfl) (.cons rfl (by kernel_rfl) (by kernel_rfl) .nil)))
theorem NL:∀parts,Tryz.prog.built 93 parts=Instr.fill (([(0,1),(1,17),(18,7),(25,1)]:List (Nat×Nat)).toArray[·]?) ([.int .i64 0,.pointer none,.int .i64 0,.int .i64 0,.int .i64 0,.slice none 0 0,.int .i64 0,.slice none 0 0,.slice none 0 0,.bool false,.map none,.int .i64 0,.int .i64 0,.int .i64 0,.slice none 0 0,.int .i64 0,.int .i64 0,.slice none 0 0,.pointer none,.int .i64 0,.int .i64 0,.int .i64 0,.int .i64 0,.int .i64 0,.int .i64 0,.slice none 0 0]:List Value).toArray parts:=dC Tryz.typeInfo93 Sr rfl rfl (.cons rfl (by kernel_rfl) (by kernel_rfl) (.cons rfl (by kernel_rfl) (by kernel_rfl) (.cons rfl (by kernel_rfl) (by kernel_rfl) (.cons rfl (by kernel_rfl) (by kernel_rfl) .nil))))
theorem Wk:∀parts,Tryz.prog.built 135 parts=Instr.fill (([(0,1),(1,1),(2,1)]:List (Nat×Nat)).toArray[·]?) ([.bool false,.bool false,.slice none 0 0]:List Value).toArray parts:=dC NG JE rfl rfl (.cons rfl (by kernel_rfl) (by kernel_rfl) (.cons rfl (by kernel_rfl) (by kernel_rfl) (.cons rfl (by kernel_rfl) (by kernel_rfl) .nil)))
theorem lT:∀parts,Tryz.prog.built 144 parts=Instr.fill (([(0,1),(1,1),(2,1)]:List (Nat×Nat)).toArray[·]?) ([.int .i64 0,.slice none 0 0,.slice none 0 0]:List Value).toArray parts:=dC PO uL rfl rfl (.cons rfl (by kernel_rfl) (by kernel_rfl) (.cons rfl (by kernel_rfl) (by kernel_rfl) (.cons rfl (by kernel_rfl) (by kernel_rfl) .nil)))
theorem rA:∀parts,Tryz.prog.built 186 parts=Instr.fill (([(0,1),(1,1),(2,1)]:List (Nat×Nat)).toArray[·]?) ([.slice none 0 0,.slice none 0 0,.int .i64 0]:List Value).toArray parts:=dC Tryz.typeInfo186 Kl rfl rfl (.cons rfl (by kernel_rfl) (by kernel_rfl) (.cons rfl (by kernel_rfl) (by kernel_rfl) (.cons rfl (by kernel_rfl) (by kernel_rfl) .nil)))
theorem JG:∀parts,Tryz.prog.built 188 parts=Instr.fill (([(0,1),(1,3)]:List (Nat×Nat)).toArray[·]?) ([.int .i64 0,.slice none 0 0,.slice none 0 0,.int .i64 0]:List Value).toArray parts:=dC Tryz.typeInfo188 vX rfl rfl (.cons rfl (by kernel_rfl) (by kernel_rfl) (.cons rfl (by kernel_rfl) (by kernel_rfl) .nil))
theorem Dd:∀parts,Tryz.prog.built 197 parts=Instr.fill (([(0,1),(1,1)]:List (Nat×Nat)).toArray[·]?) ([.int .i64 0,.slice none 0 0]:List Value).toArray parts:=dC PQ Ys rfl rfl (.cons rfl (by kernel_rfl) (by kernel_rfl) (.cons rfl (by kernel_rfl) (by kernel_rfl) .nil))
theorem De:∀parts,Tryz.prog.built 210 parts=Instr.fill (([(0,1),(1,1),(2,1),(3,8)]:List (Nat×Nat)).toArray[·]?) ([.int .i64 0,.int .i64 0,.int .i64 0,.int .u8 0,.int .u8 0,.int .u8 0,.int .u8 0,.int .u8 0,.int .u8 0,.int .u8 0,.int .u8 0]:List Value).toArray parts:=dC PR PW rfl rfl (.cons rfl (by kernel_rfl) (by kernel_rfl) (.cons rfl (by kernel_rfl) (by kernel_rfl) (.cons rfl (by kernel_rfl) (by kernel_rfl) (.cons rfl (by kernel_rfl) (by kernel_rfl) .nil))))
theorem vP:∀parts,Tryz.prog.built 214 parts=Instr.fill (([(0,1),(1,8)]:List (Nat×Nat)).toArray[·]?) ([.int .i64 0,.int .u8 0,.int .u8 0,.int .u8 0,.int .u8 0,.int .u8 0,.int .u8 0,.int .u8 0,.int .u8 0]:List Value).toArray parts:=dC Kj No rfl rfl (.cons rfl (by kernel_rfl) (by kernel_rfl) (.cons rfl (by kernel_rfl) (by kernel_rfl) .nil))
theorem JH:∀parts,Tryz.prog.built 296 parts=Instr.fill (([(0,1)]:List (Nat×Nat)).toArray[·]?) ([.slice none 0 0]:List Value).toArray parts:=dC Tryz.typeInfo296 Tryz.runUnderlying296 rfl rfl (.cons rfl (by kernel_rfl) (by kernel_rfl) .nil)
theorem JI:∀parts,Tryz.prog.built 322 parts=Instr.fill (([]:List (Nat×Nat)).toArray[·]?) ([]:List Value).toArray parts:=dC Tryz.typeInfo322 Tryz.runUnderlying322 rfl rfl .nil
theorem JJ:∀parts,Tryz.prog.built 324 parts=Instr.fill (([(0,1)]:List (Nat×Nat)).toArray[·]?) ([.pointer none]:List Value).toArray parts:=dC Tryz.typeInfo324 PY rfl rfl (.cons rfl (by kernel_rfl) (by kernel_rfl) .nil)
theorem JK:∀parts,Tryz.prog.built 326 parts=Instr.fill (([(0,1)]:List (Nat×Nat)).toArray[·]?) ([.slice none 0 0]:List Value).toArray parts:=dC Tryz.typeInfo326 PZ rfl rfl (.cons rfl (by kernel_rfl) (by kernel_rfl) .nil)
theorem JL:∀parts,Tryz.prog.built 327 parts=Instr.fill (([]:List (Nat×Nat)).toArray[·]?) ([]:List Value).toArray parts:=dC Tryz.typeInfo327 Tryz.runUnderlying327 rfl rfl .nil
theorem JN:∀parts,Tryz.prog.built 363 parts=Instr.fill (([(0,1),(1,1)]:List (Nat×Nat)).toArray[·]?) ([.slice none 0 0,.map none]:List Value).toArray parts:=dC Tryz.typeInfo363 NH rfl rfl (.cons rfl (by kernel_rfl) (by kernel_rfl) (.cons rfl (by kernel_rfl) (by kernel_rfl) .nil))
section aJi
open Go.RowKit Go.Extern.Stop Go.Stop Go.Extern
theorem QD(t:Value)(w:World):Calls Tryz.prog 73 #[.nilIface,t] w fun e w'=>e= .returned (.bool false)/\w'=w:=by
 go_enter Tryz.func73,Tryz.ntmps73
 go_wp2
 go_ret
 exact⟨Y,Y⟩
theorem Wl(t:Addr)(w:World):(ReflectliteValue.unpack (.iface 183 (.pointer (some t)))).run Tryz.prog w
  = .ok (.agg #[.pointer (some ⟨9,183,none⟩),.pointer (some ⟨w.heap.size,0,none⟩),.int .u64 150]) (w.alloc (.cells #[.pointer (some t)] 183)):=by kernel_rfl
theorem JP(a:Addr)(w:World):(ReflectliteValue.methodAny (ReflectliteValue.valueError "reflectlite.Value.Type" 0) (fun t _ _ _=>ReflectliteType.toType t) #[.agg #[.pointer (some ⟨9,183,none⟩),.pointer (some a),.int .u64 150]]).run Tryz.prog w
  = .ok (.iface 281 (.agg #[.pointer (some ⟨9,183,none⟩)])) w:=by kernel_rfl
theorem Ou(h:Value)(w:World):(Go.method 543 281 (.agg #[h]) "Kind").run Tryz.prog w= .ok (290,h) w:=by kernel_rfl
theorem JR(w:World):((ReflectliteType.abiMethod fun t=>(fun a:Nat=>Value.int IntKind.u8 (a:Int)) <$> Rtype.kind t) #[.pointer (some ⟨9,183,none⟩)]).run Tryz.prog w= .ok (.int .u8 22) w:=by kernel_rfl
theorem JS(w:World):((ReflectliteType.abiMethod fun t=>(fun a:Nat=>Value.int IntKind.u8 (a:Int)) <$> Rtype.kind t) #[.pointer (some ⟨9,28,none⟩)]).run Tryz.prog w= .ok (.int .u8 2) w:=by kernel_rfl
theorem JT(z:Sem Value)(f:TypeId->Addr->Nat->Nat->Sem Value)(v:Value):
  ReflectliteValue.method z f #[v]=(do match<-ReflectliteValue.parts v with | none=>z | some (t,a,fl)=>f t a fl (fl % 32)):=rfl
theorem Qt(a:Addr)(w:World):(ReflectliteValue.parts (.agg #[.pointer (some ⟨9,183,none⟩),.pointer (some a),.int .u64 150])).run Tryz.prog w= .ok (some (183,a,150)) w:=by kernel_rfl
theorem ED(a p:Addr)(W:World)(ha:W.cell? a=some (.pointer (some p))):
  (ReflectliteValue.method (ReflectliteValue.valueError "reflectlite.Value.IsNil" 0) ReflectliteValue.isNil #[.agg #[.pointer (some ⟨9,183,none⟩),.pointer (some a),.int .u64 150]]).run Tryz.prog W= .ok (.bool false) W:=by
 rw[JT];simp only[Sem.run_bind,Qt,Result.andThen];simp[ReflectliteValue.isNil,loadVar,isAgg,underlying,Tryz.underlying183,ha,Result.andThen]
theorem Ov(h:Value)(w:World):(Go.method 543 281 (.agg #[h]) "Elem").run Tryz.prog w= .ok (301,.agg #[h]) w:=by kernel_rfl
theorem Er(h:Value)(w:World):(Go.method 543 281 (.agg #[h]) "Implements").run Tryz.prog w= .ok (302,.agg #[h]) w:=by kernel_rfl
theorem Bz(h:Value)(w:World):(Go.method 543 281 (.agg #[h]) "AssignableTo").run Tryz.prog w= .ok (299,.agg #[h]) w:=by kernel_rfl
theorem JU(w:World):(ReflectliteType.method ReflectliteType.elem #[.agg #[.pointer (some ⟨9,183,none⟩)]]).run Tryz.prog w= .ok (.iface 281 (.agg #[.pointer (some ⟨9,28,none⟩)])) w:=by kernel_rfl
theorem Nr(w:World):(ReflectliteType.relation "Implements" ReflectliteType.implements_ #[.agg #[.pointer (some ⟨9,28,none⟩)],.iface 281 (.agg #[.pointer (some ⟨9,35,none⟩)])]).run Tryz.prog w= .ok (.bool true) w:=by kernel_rfl
theorem Yt(v:Value)(w:World):(ReflectliteType.typeOf #[.iface 28 v]).run Tryz.prog w= .ok (.iface 281 (.agg #[.pointer (some ⟨9,28,none⟩)])) w:=by kernel_rfl
theorem Ns(w:World):(ReflectliteType.relation "AssignableTo" ReflectliteType.assignableTo #[.agg #[.pointer (some ⟨9,28,none⟩)],.iface 281 (.agg #[.pointer (some ⟨9,28,none⟩)])]).run Tryz.prog w= .ok (.bool true) w:=by kernel_rfl
theorem Wm(n:Int)(w:World):(ReflectliteValue.unpack (.iface 28 (.int .i64 n))).run Tryz.prog w
  = .ok (.agg #[.pointer (some ⟨9,28,none⟩),.pointer (some ⟨w.heap.size,0,none⟩),.int .u64 130]) (w.alloc (.cells #[.int .i64 n] 28)):=by kernel_rfl
theorem Yu(w:World):(Rtype.elem? 183).run Tryz.prog w= .ok (some 28) w:=by kernel_rfl
theorem QE(p:Addr)(w:World):(ReflectliteValue.mk 28 p ReflectliteValue.flagAddr).run Tryz.prog w= .ok (.agg #[.pointer (some ⟨9,28,none⟩),.pointer (some p),.int .u64 386]) w:=by kernel_rfl
theorem EE(a p:Addr)(W:World)(ha:W.cell? a=some (.pointer (some p))):
  (ReflectliteValue.method (ReflectliteValue.valueError "reflectlite.Value.Elem" 0) ReflectliteValue.elem #[.agg #[.pointer (some ⟨9,183,none⟩),.pointer (some a),.int .u64 150]]).run Tryz.prog W
   = .ok (.agg #[.pointer (some ⟨9,28,none⟩),.pointer (some p),.int .u64 386]) W:=by
 rw[JT];simp only[Sem.run_bind,Qt,Result.andThen];simp[ReflectliteValue.elem,loadVar,isAgg,underlying,Tryz.underlying183,ha,Result.andThen,Yu,QE]
theorem QF(v x:Value):ReflectliteValue.set #[v,x]=(do
  let (some (dst,a,fl),some (src,b,_)):=(<-ReflectliteValue.parts v,<-ReflectliteValue.parts x)
   |unsupported (.noEntry "extern/(internal/reflectlite.Value).Set.zeroValue")
  if fl / ReflectliteValue.flagAddr % 2==0 then unsupported (.noEntry "extern/(internal/reflectlite.Value).Set.unaddressable")
  let val<-loadVar src b
  if<-Rtype.directlyAssignable dst src then storeVar dst a val
  else if<-Rtype.implements dst src then
   if (<-Rtype.kind src)==20 then
    match val with
    | .nilIface=>unsupported (.noEntry "extern/reflectlite: a nil value of one interface type handed on as a value of another")
    |_=>storeVar dst a val
   else storeVar dst a (.iface src val)
  else panicString ("reflectlite.Set: value of type "++(<-Rtype.spelt src)++ " is not assignable to type "++(<-Rtype.spelt dst))
  pure (.tuple #[])):=rfl
theorem Yv(a:Addr)(w:World):(ReflectliteValue.parts (.agg #[.pointer (some ⟨9,28,none⟩),.pointer (some a),.int .u64 386])).run Tryz.prog w= .ok (some (28,a,386)) w:=by kernel_rfl
theorem EF(a:Addr)(w:World):(ReflectliteValue.parts (.agg #[.pointer (some ⟨9,28,none⟩),.pointer (some a),.int .u64 130])).run Tryz.prog w= .ok (some (28,a,130)) w:=by kernel_rfl
theorem Yw(w:World):(Rtype.directlyAssignable 28 28).run Tryz.prog w= .ok true w:=by kernel_rfl
theorem NM(ta b:Addr)(n:Int)(bc:Value)(W:World)(hb:W.cell? b=some (.int .i64 n))(ht:W.cell? ta=some bc)(hf:W.frozen? ta=false):
  (ReflectliteValue.set #[.agg #[.pointer (some ⟨9,28,none⟩),.pointer (some ta),.int .u64 386],.agg #[.pointer (some ⟨9,28,none⟩),.pointer (some b),.int .u64 130]]).run Tryz.prog W
   = .ok (.tuple #[]) (W.setCell ta (.int .i64 n)):=by
 rw[QF];simp only[Sem.run_bind,Yv,EF,Result.andThen];simp[ReflectliteValue.flagAddr,loadVar,isAgg,underlying,Tryz.underlying28,hb,Result.andThen,Yw,storeVar,Value.cells,storeCells,Addr.add];rw[run_store Tryz.prog W ta _ _ (by rfl)];simp[ht,hf]
set_option maxHeartbeats 4000000 in
theorem QG(n:Int)(t:Addr)(bc:Value)(w:World)(hg:w.cell? ⟨0,0,none⟩=some (.iface 281 (.agg #[.pointer (some ⟨9,35,none⟩)])))(ht0:w.cell? t=some bc)(hf0:w.frozen? t=false):
  Calls Tryz.prog 73 #[.iface 28 (.int .i64 n),.iface 183 (.pointer (some t))] w fun ev w'=>ev= .returned (.bool true)/\w'=((((w.alloc (.cells #[.pointer (some t)] 183)).alloc (.cells #[.pointer (some ⟨9,183,none⟩),.pointer (some ⟨w.heap.size,0,none⟩),.int .u64 150] 225)).alloc (.cells #[.pointer (some ⟨9,183,none⟩),.pointer (some ⟨w.heap.size,0,none⟩),.int .u64 150] 225)).alloc (.cells #[.int .i64 n] 28)).setCell t (.int .i64 n):=by
 have C:= @run_callFunc_extern Tryz.prog 122 _ (fun A=>ReflectliteValue.unpack (A.getD 0 (.tuple #[]))) Tryz.func122 (by kernel_rfl) (by kernel_rfl) (by kernel_rfl) (by kernel_rfl);have D:= @run_callFunc_extern Tryz.prog 123 _ (ReflectliteValue.methodAny (ReflectliteValue.valueError "reflectlite.Value.Type" 0) (fun t _ _ _=>ReflectliteType.toType t)) Tryz.func123 (by kernel_rfl) (by kernel_rfl) (by kernel_rfl) (by kernel_rfl);have E:= @run_callFunc_extern Tryz.prog 124 _ (ReflectliteValue.method (ReflectliteValue.valueError "reflectlite.Value.IsNil" 0) ReflectliteValue.isNil) Tryz.func124 (by kernel_rfl) (by kernel_rfl) (by kernel_rfl) (by kernel_rfl);have F:= @run_callFunc_extern Tryz.prog 290 _ (ReflectliteType.abiMethod fun t=>do pure (.int .u8 (<-Rtype.kind t))) Tryz.func290 (by kernel_rfl) (by kernel_rfl) (by kernel_rfl) (by kernel_rfl);have G:= @run_callFunc_extern Tryz.prog 301 _ (ReflectliteType.method ReflectliteType.elem) Tryz.func301 (by kernel_rfl) (by kernel_rfl) (by kernel_rfl) (by kernel_rfl);have H:= @run_callFunc_extern Tryz.prog 302 _ (ReflectliteType.relation "Implements" ReflectliteType.implements_) Tryz.func302 (by kernel_rfl) (by kernel_rfl) (by kernel_rfl) (by kernel_rfl);have I:= @run_callFunc_extern Tryz.prog 169 _ ReflectliteType.typeOf Tryz.func169 (by kernel_rfl) (by kernel_rfl) (by kernel_rfl) (by kernel_rfl);have K:= @run_callFunc_extern Tryz.prog 299 _ (ReflectliteType.relation "AssignableTo" ReflectliteType.assignableTo) Tryz.func299 (by kernel_rfl) (by kernel_rfl) (by kernel_rfl) (by kernel_rfl);have L:= @run_callFunc_extern Tryz.prog 170 _ (ReflectliteValue.method (ReflectliteValue.valueError "reflectlite.Value.Elem" 0) ReflectliteValue.elem) Tryz.func170 (by kernel_rfl) (by kernel_rfl) (by kernel_rfl) (by kernel_rfl);have M:= @run_callFunc_extern Tryz.prog 171 _ ReflectliteValue.set Tryz.func171 (by kernel_rfl) (by kernel_rfl) (by kernel_rfl) (by kernel_rfl);have N:=Yt;have O:=Bz;have P:=Ns;have Q:=Wm;have R:=Wl;have S:=JP;have T:=Ou;have U:=Ov;have V:=Er;have X:=JR;have aa:=JS;have ab:=JU;have ac:=Nr;have n8:=ED ⟨w.heap.size,0,none⟩ t ((w.alloc (.cells #[.pointer (some t)] 183)).alloc (.cells #[.pointer (some ⟨9,183,none⟩),.pointer (some ⟨w.heap.size,0,none⟩),.int .u64 150] 225)) (by simp);have z:0<w.heap.size:=by
  rcases aEg w.heap.size with B | h
  ·simp[World.cell?,B] at hg
  ·exact h
 have ad:((w.alloc (.cells #[.pointer (some t)] 183)).alloc (.cells #[.pointer (some ⟨9,183,none⟩),.pointer (some ⟨w.heap.size,0,none⟩),.int .u64 150] 225)).cell? ⟨0,0,none⟩=some (.iface 281 (.agg #[.pointer (some ⟨9,35,none⟩)])):=by
  rw[World.cell?_alloc_lt _ _ ⟨0,0,none⟩ (by simp),World.cell?_alloc_lt _ _ ⟨0,0,none⟩ z];exact hg
 have u:t.block<w.heap.size:=by
  rcases J0 t.block w.heap.size with h | h
  ·exact h
  ·simp[World.cell?,yo h] at ht0
 have el:=EE ⟨w.heap.size,0,none⟩ t (((w.alloc (.cells #[.pointer (some t)] 183)).alloc (.cells #[.pointer (some ⟨9,183,none⟩),.pointer (some ⟨w.heap.size,0,none⟩),.int .u64 150] 225)).alloc (.cells #[.pointer (some ⟨9,183,none⟩),.pointer (some ⟨w.heap.size,0,none⟩),.int .u64 150] 225)) (by rw[World.cell?_alloc_lt _ _ ⟨w.heap.size,0,none⟩ (by simp;omega)];simp);have st:=NM t ⟨w.heap.size+1+1+1,0,none⟩ n bc ((((w.alloc (.cells #[.pointer (some t)] 183)).alloc (.cells #[.pointer (some ⟨9,183,none⟩),.pointer (some ⟨w.heap.size,0,none⟩),.int .u64 150] 225)).alloc (.cells #[.pointer (some ⟨9,183,none⟩),.pointer (some ⟨w.heap.size,0,none⟩),.int .u64 150] 225)).alloc (.cells #[.int .i64 n] 28))
  (by rw[World.cell?_alloc_at _ _ _ _ (by simp)];rfl)
  (by rw[World.cell?_alloc_lt _ _ t (by simp;omega),World.cell?_alloc_lt _ _ t (by simp;omega),World.cell?_alloc_lt _ _ t (by simp;omega),World.cell?_alloc_lt _ _ t u];exact ht0)
  (by rw[World.frozen?_alloc_old _ _ t (by simp;omega),World.frozen?_alloc_old _ _ t (by simp;omega),World.frozen?_alloc_old _ _ t (by simp;omega),World.frozen?_alloc_old _ _ t (Nat.ne_of_lt u)];exact hf0)
 go_enter Tryz.func73,Tryz.ntmps73
 go_wp2
 refine wp_loop_rounds 1 ?_;rw[rounds_succ]
 go_wp2
 go_ret
 exact⟨Y,Y⟩
end aJi
def GV:Value:= .iface 281 (.agg #[.pointer (some ⟨9,35,none⟩)])
variable {gobj:Obj}
theorem NN(n:Int)(t:Addr)(bc:Value)(w:World)(hg:w.cell? ⟨0,0,none⟩=some GV)(ht0:w.cell? t=some bc)(hf0:w.frozen? t=false):
  Calls Tryz.prog 73 #[.iface 28 (.int .i64 n),.iface 183 (.pointer (some t))] w fun ev w'=>ev= .returned (.bool true)/\∃o1 o2 o3 o4,w'=((((w.alloc o1).alloc o2).alloc o3).alloc o4).setCell t (.int .i64 n):=
 (QG n t bc w hg ht0 hf0).mono fun _ _ h=>⟨h.1,_,_,_,_,h.2⟩
theorem wP{a0 a1 r}(h:lI a0 a1=some r):
 VG Tryz.prog 10 [.v Q0 a0,.v Q0 a1] (.v Q0 r) []:=by
 refine VG.of Tryz.func10 Y Tryz.ntmps10 Y ?_;intro S w A;unfold lI at h;refine aK [0,1] ?_;refine dB [0,1,6] ?_;obtain⟨B,C,h⟩:=fE h;refine sZ (fun z:Int=>⟨[(0,.v Q0 z),(1,.v Q0 a1)],[]⟩) (fun x=>B x=some r) Y ?_ ?_ ?_
 ·intro z h;rw[C] at h;obtain⟨E,D,h⟩:=aA h;refine aI (.a 2 ?_);refine .k (kB (.inr Y) (Dt D) Y Y) (.f [4] ?_);cases h;exact aH (aY A dP Y (RV.tmp Y) .nil Y)
 ·intro u;replace h:=iK u h;refine eN (.a 2 ?_);refine .k (Ww Y) (.f [0,1] ?_);exact cC h (aC [])
 ·intro u;replace h:=iL u h;refine aF ?_;exact cC h (aC [])
theorem Df{a0 a1 r}(h:tK a0 a1=some r):
 VG Tryz.prog 25 [.v lY a0,.v Q0 a1] (.v Q0 r) []:=by
 refine VG.of Tryz.func25 Y Tryz.ntmps25 Y ?_;intro S w u;unfold tK at h;refine aK [0,1] ?_;refine dB [0,1,7] ?_;refine aT h Y (fun z h=>?_) (fun z h=>?_)
 ·refine aK [4] ?_;cases h;exact aH (aY u dP Y (RV.tmp Y) .nil Y)
 refine aF ?_;refine aG ?_;obtain⟨E,A,h⟩:=aA h;obtain⟨F,B,h⟩:=aA h;obtain⟨G,C,h⟩:=aA h;obtain⟨H,D,h⟩:=aA h;refine eK 15 mixed (by exact(.k (aD Y) (.k (aD Y) (.k (aD Y) (.k (sA Y wO) (.k (kB (.inr Y) (Dt A) Y Y) (.k (gO B Y Y wO S3) (.k (bO Y G3 S3) (.k (aM (wP C) SN (.cons (.dir Y) (.cons (.dir Y) .nil))) (.k (aD Y) (.k (aD Y) (.k (sA Y wO) (.k (kB (.inl Y) (Dt D) Y Y) (.k (cT Y Y Y) (.k (cT Y Y Y) (.k (bP Y) .nil)))))))))))))))) (by exact(J.kp [4] [])) ?_;cases h;exact aH (aY u dP Y (RV.tmp Y) .nil Y)
theorem yR{a0 a1 r}(h:kC a0 a1=some r):
 VG Tryz.prog 26 [.v lY a0,.v Q0 a1] (.v aQ r) []:=by
 refine VG.of Tryz.func26 Y Tryz.ntmps26 Y ?_;intro S w B;unfold kC at h;refine aI (.k (aN 101 By Y (.cons (Z.arr 8 (Z.int .u8)) .nil) Y) (.f [0,1,4] ?_));refine aI (.k (eJ (e:=aQ) (v:=aU) Hu xJ I5 Y Y (Z.arr 8 (Z.int .u8))) (.k (aN 102 By Y (.cons (Z.arr 8 (Z.int .u8)) .nil) Y) (.f [0,1,4,5] ?_)));obtain⟨Q,I,h⟩:=aA h;refine aI (.a 2 ?_);refine .k (aM (Df I) Tryz.call25 (.cons (.dir Y) (.cons (.dir Y) .nil))) (.f [0,1,4,5,6] ?_);refine jJ (.a 1 ?_);refine .k (kB (.inr Y) (by decide) Y Y) (.f [0,1,4,5,6,14] ?_);refine aT h Y (fun G h=>?_) (fun G h=>?_)
 ·refine aK [4] ?_;refine aH ?_;obtain rfl:=sM h;exact cB (σ':=⟨[(4,.ptr 90 0)],[(90,.box 30 [.v aQ aU])]⟩) (aC [(90,101)]) (aY B dP Y (dG Y Y Y vT nG) .nil Y)
 refine aF ?_;obtain⟨R,D,h⟩:=aA h;refine aI (.a 1 ?_);refine .k (kB (.inl Y) (by decide) Y Y) (.k (kB (.inr Y) (by decide) Y Y) ?_);refine .a 2 ?_;refine .k (rD D Y Y Y Y xJ S5) (.t (Ct (dO D).2.2 Y Y Y Y S5) (.f [0,1,4,5,6] ?_));refine jJ (.a 1 ?_);refine .k (kB (.inr Y) (by decide) Y Y) (.f [0,1,4,5,24] ?_);obtain⟨K,L,h⟩:=fE h;refine sZ (fun u:aR=>⟨[(4,.ptr 101 0),(5,.ptr 102 0)],[(101,.box 30 [.v aQ aU]),(102,.box 30 [.v aQ u])]⟩) (fun x=>K x=some r) Y ?_ ?_ ?_
 ·intro u h;rw[L] at h;refine aK [4] ?_;refine aH ?_;obtain rfl:=sM h;exact cB (σ':=⟨[(4,.ptr 90 0)],[(90,.box 30 [.v aQ u])]⟩) (aC [(90,101)]) (aY B dP Y (dG Y Y Y vT nG) .nil Y)
 ·intro z;replace h:=iK z h;refine aK [0,1,4,5,7] ?_;obtain⟨T,M,N,U⟩:=cL h;refine jM (σs:=fun A:Int×aR=>⟨[(0,.v lY a0),(1,.v Q0 a1),(4,.ptr 101 0),(5,.ptr 102 0),(7,.v Q0 A.1)],[(101,.box 30 [.v aQ aU]),(102,.box 30 [.v aQ A.2])]⟩) (fun C:aR=>⟨[(4,.ptr 101 0),(5,.ptr 102 0)],[(101,.box 30 [.v aQ aU]),(102,.box 30 [.v aQ C])]⟩) M (aC []) ?_ ?_
  ·intro C F;have h:=N _ F;exact cC h (aC [])
  intro A P h;refine dB [0,1,4,5,7,26] ?_;refine aT h Y (fun H h=>?_) (fun H h=>?_)
  ·refine aF ?_;refine aG ?_;refine bT ?_;obtain⟨V,O,h⟩:=aA h;obtain⟨X,E,h⟩:=aA h;refine eN (.a 5 ?_);refine .k (aM (Df O) Tryz.call25 (.cons (.dir Y) (.cons (.dir Y) .nil))) (.k (kB (.inl Y) (by decide) Y Y) ?_);refine .a 1 ?_;refine .k (rD E Y Y Y Y xJ S5) (.t (Ct (dO E).2.2 Y Y Y Y S5) (.f [0,1,4,5,7] ?_));refine bN ?_;refine dN [0,1,4,5,7] ?_;cases h;exact cF (aC [])
  cases h;exact dA (dJ (aC []))
 ·intro z;replace h:=iL z h;refine aF ?_;exact cC h (aC [])
theorem Ga{a0 a1 a2 a3 r}(h:lB a0 a1 a2 a3=some r):
 VG Tryz.prog 12 [.v lY a0,.v Q0 a1,.v Q0 a2,.v Q0 a3] (.v (Wr.sl Q4) r) []:=by
 refine VG.of Tryz.func12 Y Tryz.ntmps12 Y ?_;intro S w L;unfold lB at h;refine aI (.k (aP 101 44 Q4) (.f [0,1,2,3] ?_));refine aI (.k (aP 102 44 Q4) (.f [0,1,2,3,9] ?_));refine dB [0,1,2,3,9,10] ?_;obtain⟨bd,af,am,be⟩:=cL h;refine jM (σs:=fun z:Int×(List (Int×Int×Int×aR))=>⟨[(0,.v lY a0),(1,.v Q0 a1),(2,.v Q0 a2),(3,.v Q0 a3),(9,.ref 134),(10,.v Q0 z.1)],[(134,.arr 44 Q4 z.2)]⟩) (fun F:(List (Int×Int×Int×aR))=>⟨[(9,.ref 134)],[(134,.arr 44 Q4 F)]⟩) af (aC [(134,102)]) ?_ ?_
 ·intro F M;have h:=am _ M;refine aK [8] ?_;cases h;exact aH (wD L dP Y (aC []))
 intro z A h;refine dB [0,1,2,3,9,10,15] ?_;refine aT h Y (fun N h=>?_) (fun N h=>?_)
 ·refine aF ?_;refine aG ?_;refine bT ?_;obtain⟨u,an,h⟩:=aA h;refine aI (.a 4 ?_);refine .k (aM (Df an) Tryz.call25 (.cons (.dir Y) (.cons (.dir Y) .nil))) (.f [0,1,2,3,9,10,11] ?_);obtain⟨bf,ao,h⟩:=aA h;refine aI (.a 1 ?_);refine .k (kB (.inl Y) (by decide) Y Y) ?_;refine .a 1 ?_;refine .k (kB (.inr Y) (Dt ao) Y Y) ?_;refine .a 1 ?_;refine .k (kB (.inl Y) (by decide) Y Y) (.k (kB (.inr Y) (by decide) Y Y) (.k (bR NK (.cons (Z.int .i64) (.cons (Z.int .i64) (.cons (Z.int .i64) (.cons (Z.arr 8 (Z.int .u8)) .nil)))) (.cons Y (.dir Y) Y Y Y Y (.cons Y (.dir Y) Y Y Y Y .nil))) (.k (aN 150 BI Y (.cons (Z.int .i64) (.cons (Z.int .i64) (.cons (Z.int .i64) (.cons (Z.arr 8 (Z.int .u8)) .nil)))) Y) (.f [0,1,2,3,9,10,11,12] ?_))));refine jJ (.a 1 ?_);refine .k (kB (.inr Y) (by decide) Y Y) (.f [0,1,2,3,9,10,11,12,32] ?_);refine bT ?_;refine dB [0,1,2,3,9,10,11,12,32,38] ?_;obtain⟨fw,ap,h⟩:=fE h;refine sZ (fun G:Bool=>⟨[(0,.v lY a0),(1,.v Q0 a1),(2,.v Q0 a2),(3,.v Q0 a3),(9,.ref 134),(10,.v Q0 z.1),(11,.v Q0 u),(12,.ptr 150 0),(32,.v Q0 (ar .rem .i64 u (20:Int))),(38,.v Wr.bool G)],[(134,.arr 44 Q4 z.2),(150,.box 44 [.v Q0 (0:Int),.v Q0 (ar .rem .i64 (ar .quo .i64 u (40:Int)) a3),.v Q0 (ar .rem .i64 (ar .quo .i64 u (7:Int)) (90:Int)),.v aQ aU])]⟩) (fun x=>fw x=some A) Y ?_ ?_ ?_
  ·intro G h;rw[ap] at h;refine aT h Y (fun O h=>?_) (fun O h=>?_)
   ·refine aK [0,1,2,3,9,10,12] ?_;obtain⟨bg,aq,h⟩:=aA h;refine eN (.a 5 ?_);refine .k (aM (yR aq) Tryz.call26 (.cons (.dir Y) (.cons (.dir Y) .nil))) (.f [0,1,2,3,9,10,12] ?_);refine bN ?_;obtain⟨bh,au,h⟩:=aA h;refine eN (.a 1 ?_);refine .k (aS Y Y (.UO sO (.UO sO (.UO sO sO))) Wt zD) (.k (dI (e:=Q4) Ke zD BI Y Y Y Y (.cons (.dir Y) .nil)) (.t (bU 152 au Y Y (.sl Y) Ke EI zD Y Y Y Y Y) (.f [0,1,2,3,9,10] ?_)));refine bN ?_;refine dN [0,1,2,3,9,10] ?_;cases h;exact cF (aC [(134,152)])
   refine aK [0,1,2,3,9,10,11,12,32,52] ?_;refine aT h Y (fun P h=>?_) (fun P h=>?_)
   ·refine dN [0,1,2,3,9,10,12] ?_;refine bN ?_;obtain⟨bi,av,h⟩:=aA h;refine eN (.a 1 ?_);refine .k (aS Y Y (.UO sO (.UO sO (.UO sO sO))) Wt zD) (.k (dI (e:=Q4) Ke zD BI Y Y Y Y (.cons (.dir Y) .nil)) (.t (bU 153 av Y Y (.sl Y) Ke EI zD Y Y Y Y Y) (.f [0,1,2,3,9,10] ?_)));refine bN ?_;refine dN [0,1,2,3,9,10] ?_;cases h;exact cF (aC [(134,153)])
   refine aK [0,1,2,3,9,10,11,12,32,55] ?_;refine aT h Y (fun Q h=>?_) (fun Q h=>?_)
   ·refine dN [0,1,2,3,9,10,12] ?_;refine bN ?_;obtain⟨bj,aw,h⟩:=aA h;refine eN (.a 1 ?_);refine .k (aS Y Y (.UO sO (.UO sO (.UO sO sO))) Wt zD) (.k (dI (e:=Q4) Ke zD BI Y Y Y Y (.cons (.dir Y) .nil)) (.t (bU 154 aw Y Y (.sl Y) Ke EI zD Y Y Y Y Y) (.f [0,1,2,3,9,10] ?_)));refine bN ?_;refine dN [0,1,2,3,9,10] ?_;cases h;exact cF (aC [(134,154)])
   refine dB [0,1,2,3,9,10,11,12,32,58] ?_;obtain⟨pq,ax,h⟩:=fE h;refine sZ (fun H:Bool=>⟨[(0,.v lY a0),(1,.v Q0 a1),(2,.v Q0 a2),(3,.v Q0 a3),(9,.ref 134),(10,.v Q0 z.1),(11,.v Q0 u),(12,.ptr 150 0),(32,.v Q0 (ar .rem .i64 u (20:Int))),(58,.v Wr.bool H)],[(134,.arr 44 Q4 z.2),(150,.box 44 [.v Q0 (0:Int),.v Q0 (ar .rem .i64 (ar .quo .i64 u (40:Int)) a3),.v Q0 (ar .rem .i64 (ar .quo .i64 u (7:Int)) (90:Int)),.v aQ aU])]⟩) (fun x=>pq x=some A) Y ?_ ?_ ?_
   ·intro H h;rw[ax] at h;refine aT h Y (fun R h=>?_) (fun R h=>?_)
    ·refine dN [0,1,2,3,9,10,12] ?_;refine bN ?_;obtain⟨bk,ay,h⟩:=aA h;refine eN (.a 1 ?_);refine .k (aS Y Y (.UO sO (.UO sO (.UO sO sO))) Wt zD) (.k (dI (e:=Q4) Ke zD BI Y Y Y Y (.cons (.dir Y) .nil)) (.t (bU 155 ay Y Y (.sl Y) Ke EI zD Y Y Y Y Y) (.f [0,1,2,3,9,10] ?_)));refine bN ?_;refine dN [0,1,2,3,9,10] ?_;cases h;exact cF (aC [(134,155)])
    refine dB [0,1,2,3,9,10,11,12,32,63] ?_;obtain⟨po,a4,h⟩:=fE h;refine sZ (fun I:Bool=>⟨[(0,.v lY a0),(1,.v Q0 a1),(2,.v Q0 a2),(3,.v Q0 a3),(9,.ref 134),(10,.v Q0 z.1),(11,.v Q0 u),(12,.ptr 150 0),(32,.v Q0 (ar .rem .i64 u (20:Int))),(63,.v Wr.bool I)],[(134,.arr 44 Q4 z.2),(150,.box 44 [.v Q0 (0:Int),.v Q0 (ar .rem .i64 (ar .quo .i64 u (40:Int)) a3),.v Q0 (ar .rem .i64 (ar .quo .i64 u (7:Int)) (90:Int)),.v aQ aU])]⟩) (fun x=>po x=some A) Y ?_ ?_ ?_
    ·intro I h;rw[a4] at h;refine aT h Y (fun T h=>?_) (fun T h=>?_)
     ·refine dN [0,1,2,3,9,10,12] ?_;refine bN ?_;obtain⟨bl,a5,h⟩:=aA h;refine eN (.a 1 ?_);refine .k (aS Y Y (.UO sO (.UO sO (.UO sO sO))) Wt zD) (.k (dI (e:=Q4) Ke zD BI Y Y Y Y (.cons (.dir Y) .nil)) (.t (bU 156 a5 Y Y (.sl Y) Ke EI zD Y Y Y Y Y) (.f [0,1,2,3,9,10] ?_)));refine bN ?_;refine dN [0,1,2,3,9,10] ?_;cases h;exact cF (aC [(134,156)])
     refine dB [0,1,2,3,9,10,11,12,32,68] ?_;obtain⟨pj,a6,h⟩:=fE h;refine sZ (fun K:Bool=>⟨[(0,.v lY a0),(1,.v Q0 a1),(2,.v Q0 a2),(3,.v Q0 a3),(9,.ref 134),(10,.v Q0 z.1),(11,.v Q0 u),(12,.ptr 150 0),(32,.v Q0 (ar .rem .i64 u (20:Int))),(68,.v Wr.bool K)],[(134,.arr 44 Q4 z.2),(150,.box 44 [.v Q0 (0:Int),.v Q0 (ar .rem .i64 (ar .quo .i64 u (40:Int)) a3),.v Q0 (ar .rem .i64 (ar .quo .i64 u (7:Int)) (90:Int)),.v aQ aU])]⟩) (fun x=>pj x=some A) Y ?_ ?_ ?_
     ·intro K h;rw[a6] at h;refine aT h Y (fun U h=>?_) (fun U h=>?_)
      ·refine aK [0,1,2,3,9,10,11,12] ?_;refine eN (.a 1 ?_);refine .k (kB (.inl Y) (by decide) Y Y) (.k (kB (.inr Y) (by decide) Y Y) (.f [0,1,2,3,9,10,12] ?_));refine bN ?_;obtain⟨bm,a7,h⟩:=aA h;refine eN (.a 1 ?_);refine .k (aS Y Y (.UO sO (.UO sO (.UO sO sO))) Wt zD) (.k (dI (e:=Q4) Ke zD BI Y Y Y Y (.cons (.dir Y) .nil)) (.t (bU 157 a7 Y Y (.sl Y) Ke EI zD Y Y Y Y Y) (.f [0,1,2,3,9,10] ?_)));refine bN ?_;refine dN [0,1,2,3,9,10] ?_;cases h;exact cF (aC [(134,157)])
      refine aK [0,1,2,3,9,10,11,12,32,77] ?_;refine aT h Y (fun V h=>?_) (fun V h=>?_)
      ·refine aK [0,1,2,3,9,10,11,12] ?_;refine eN (.a 1 ?_);refine .k (kB (.inl Y) (by decide) Y Y) (.k (kB (.inr Y) (by decide) Y Y) (.f [0,1,2,3,9,10,12] ?_));refine bN ?_;obtain⟨bn,a8,h⟩:=aA h;refine eN (.a 1 ?_);refine .k (aS Y Y (.UO sO (.UO sO (.UO sO sO))) Wt zD) (.k (dI (e:=Q4) Ke zD BI Y Y Y Y (.cons (.dir Y) .nil)) (.t (bU 158 a8 Y Y (.sl Y) Ke EI zD Y Y Y Y Y) (.f [0,1,2,3,9,10] ?_)));refine bN ?_;refine dN [0,1,2,3,9,10] ?_;cases h;exact cF (aC [(134,158)])
      refine aK [0,1,2,3,9,10,11,12,32,84] ?_;refine aT h Y (fun X h=>?_) (fun X h=>?_)
      ·refine aK [0,1,2,3,9,10,11,12] ?_;refine eN (.a 1 ?_);refine .k (kB (.inl Y) (by decide) Y Y) (.k (kB (.inr Y) (by decide) Y Y) (.f [0,1,2,3,9,10,12] ?_));refine bN ?_;obtain⟨bo,a9,h⟩:=aA h;refine eN (.a 1 ?_);refine .k (aS Y Y (.UO sO (.UO sO (.UO sO sO))) Wt zD) (.k (dI (e:=Q4) Ke zD BI Y Y Y Y (.cons (.dir Y) .nil)) (.t (bU 159 a9 Y Y (.sl Y) Ke EI zD Y Y Y Y Y) (.f [0,1,2,3,9,10] ?_)));refine bN ?_;refine dN [0,1,2,3,9,10] ?_;cases h;exact cF (aC [(134,159)])
      refine aK [0,1,2,3,9,10,11,12,91] ?_;refine aT h Y (fun aa h=>?_) (fun aa h=>?_)
      ·refine aK [0,1,2,3,9,10,11,12] ?_;refine aI (.a 1 ?_);refine .k (kB (.inl Y) (by decide) Y Y) (.k (kB (.inr Y) (by decide) Y Y) (.f [0,1,2,3,9,10,12] ?_));obtain⟨bp,ba,h⟩:=aA h;refine eN (.a 5 ?_);refine .k (aM (yR ba) Tryz.call26 (.cons (.dir Y) (.cons (.dir Y) .nil))) (.f [0,1,2,3,9,10,12] ?_);refine bN ?_;obtain⟨bq,bb,h⟩:=aA h;refine eN (.a 1 ?_);refine .k (aS Y Y (.UO sO (.UO sO (.UO sO sO))) Wt zD) (.k (dI (e:=Q4) Ke zD BI Y Y Y Y (.cons (.dir Y) .nil)) (.t (bU 161 bb Y Y (.sl Y) Ke EI zD Y Y Y Y Y) (.f [0,1,2,3,9,10] ?_)));refine bN ?_;refine dN [0,1,2,3,9,10] ?_;cases h;exact cF (aC [(134,161)])
      refine eN (.a 1 ?_);refine .k (kB (.inl Y) (by decide) Y Y) (.k (kB (.inr Y) (by decide) Y Y) (.f [0,1,2,3,9,10,12] ?_));refine bN ?_;obtain⟨bs,bc,h⟩:=aA h;refine eN (.a 1 ?_);refine .k (aS Y Y (.UO sO (.UO sO (.UO sO sO))) Wt zD) (.k (dI (e:=Q4) Ke zD BI Y Y Y Y (.cons (.dir Y) .nil)) (.t (bU 162 bc Y Y (.sl Y) Ke EI zD Y Y Y Y Y) (.f [0,1,2,3,9,10] ?_)));refine bN ?_;refine dN [0,1,2,3,9,10] ?_;cases h;exact cF (aC [(134,162)])
     ·intro B;replace h:=iK B h;refine aF ?_;exact cC h (aC [])
     ·intro B;replace h:=iL B h;refine aK [0,1,2,3,9,10,11,12,32,68] ?_;refine aT h Y (fun ab h=>?_) (fun ab h=>?_)
      ·refine aF ?_;exact cC h (aC [])
      refine dN [0,1,2,3,9,10,11,12,32,68] ?_;exact cC h (aC [])
    ·intro C;replace h:=iK C h;refine aF ?_;exact cC h (aC [])
    ·intro C;replace h:=iL C h;refine aK [0,1,2,3,9,10,11,12,32,63] ?_;refine aT h Y (fun ac h=>?_) (fun ac h=>?_)
     ·refine aF ?_;exact cC h (aC [])
     refine dN [0,1,2,3,9,10,11,12,32,63] ?_;exact cC h (aC [])
   ·intro D;replace h:=iK D h;refine aF ?_;exact cC h (aC [])
   ·intro D;replace h:=iL D h;refine aK [0,1,2,3,9,10,11,12,32,58] ?_;refine aT h Y (fun ad h=>?_) (fun ad h=>?_)
    ·refine aF ?_;exact cC h (aC [])
    refine dN [0,1,2,3,9,10,11,12,32,58] ?_;exact cC h (aC [])
  ·intro E;replace h:=iK E h;refine aF ?_;exact cC h (aC [])
  ·intro E;replace h:=iL E h;refine aK [0,1,2,3,9,10,11,12,32,38] ?_;refine aT h Y (fun U0 h=>?_) (fun U0 h=>?_)
   ·refine aF ?_;exact cC h (aC [])
   refine aK [0,1,2,3,9,10,11,12,32,38] ?_;refine aT h Y (fun ae h=>?_) (fun ae h=>?_)
   ·refine aF ?_;exact cC h (aC [])
   refine aK [0,1,2,3,9,10,11,12,32,38] ?_;refine aT h Y (fun sg h=>?_) (fun sg h=>?_)
   ·refine aF ?_;exact cC h (aC [])
   refine dN [0,1,2,3,9,10,11,12,32,38] ?_;exact cC h (aC [])
 cases h;exact dA (dJ (aC []))
theorem Dg{a0 r}(h:rI a0=some r):
 VG Tryz.prog 158 [.v Q0 a0] (.VO [.v Q0 r.1,.v Q9 r.2]) []:=by
 refine VG.of Tryz.func158 Y Tryz.ntmps158 Y ?_;intro S w z;unfold rI at h;refine aK [0] ?_;refine aG ?_;refine aG ?_;obtain⟨C,u,h⟩:=aA h;refine eG (σ':=⟨[(0,.v Q0 a0),(9,.v Wr.bool C)],[]⟩) ?_ ?_
 ·refine cd u (fun A u=>?_) (fun A u=>?_)
  ·cases u;exact jy
  cases u;exact jy
 refine aT h Y (fun B h=>?_) (fun B h=>?_)
 ·refine aK [2,3] ?_;cases h;exact aH (bS z dP Y (RV.tmp Y) (RV.tmp Y) .nil Y)
 refine aF ?_;refine aK [2,3] ?_;cases h;exact aH (bS z dP Y (RV.tmp Y) (RV.tmp Y) .nil Y)
theorem Sv{a0 r}(h:xF a0=some r):
 VG Tryz.prog 159 [.v Q0 a0] (.VO [.v Q2 r.1,.v Q9 r.2]) []:=by
 refine VG.of Tryz.func159 Y Tryz.ntmps159 Y ?_;intro S w z;unfold xF at h;refine aI (.k (aN 101 Ss Y (.cons (Z.sl aQ) (.cons (Z.sl gF) (.cons (Z.int .i64) .nil))) Y) (.f [0,2] ?_));refine aG ?_;refine aG ?_;obtain⟨C,u,h⟩:=aA h;refine eG (σ':=⟨[(0,.v Q0 a0),(2,.ptr 101 0),(9,.v Wr.bool C)],[(101,.box 186 [.v Q5 ([]:lS),.v Q1 ([]:Q6),.v Q0 (0:Int)])]⟩) ?_ ?_
 ·refine cd u (fun A u=>?_) (fun A u=>?_)
  ·cases u;exact jy
  cases u;exact jy
 refine aT h Y (fun B h=>?_) (fun B h=>?_)
 ·refine aI (.k (bR rA (.cons (Z.sl aQ) (.cons (Z.sl gF) (.cons (Z.int .i64) .nil))) .nil) (.f [2,3] ?_));refine aH ?_;obtain rfl:=sM h;exact cB (σ':=⟨[(2,.ptr 90 0),(3,.v Q9 (some (1:Int)))],[(90,.box 186 [.v Q5 ([]:lS),.v Q1 ([]:Q6),.v Q0 (0:Int)])]⟩) (aC [(90,101)]) (bS z dP Y (aV Y Y (.UO sO (.UO sO sO)) rU kX) (RV.tmp Y) .nil Y)
 refine aF ?_;obtain⟨D,E,h⟩:=aA h;refine aI (.a 1 ?_);refine .k (ON 102 E Y Y Td Hu nG Y Y (Z.arr 8 (Z.int .u8))) (.k (bR rA (.cons (Z.sl aQ) (.cons (Z.sl gF) (.cons (Z.int .i64) .nil))) (.cons Y (.dir Y) Y Y Y Y (.cons Y (.dir Y) Y Y Y Y .nil))) (.f [2,3] ?_));refine aH ?_;obtain rfl:=sM h;exact cB (σ':=⟨[(2,.ptr 90 0),(3,.v Q9 (none:Option Int))],[(90,.box 186 [.v Q5 D,.v Q1 ([]:Q6),.v Q0 (-1:Int)])]⟩) (aC [(90,101)]) (bS z dP Y (aV Y Y (.UO sO (.UO sO sO)) rU kX) (RV.tmp Y) .nil Y)
theorem Je{a0 r}(h:qT a0=some r):
 VG Tryz.prog 100 [.v Q0 a0] (.VO [.v Q2 r.1,.v Q9 r.2]) []:=by
 refine VG.of Tryz.func100 Y Tryz.ntmps100 Y ?_;intro S w z;unfold qT at h;refine aI (.k (aN 101 Ss Y (.cons (Z.sl aQ) (.cons (Z.sl gF) (.cons (Z.int .i64) .nil))) Y) (.f [0,2] ?_));obtain⟨B,C,h⟩:=aA h;refine aI (.a 1 ?_);refine .k (aM (Dg C) Tryz.call158 (.cons (.dir Y) .nil)) (.f [2,4,5] ?_);refine dB [2,4,5,12] ?_;refine aT h Y (fun A h=>?_) (fun A h=>?_)
 ·refine aI (.k (bR rA (.cons (Z.sl aQ) (.cons (Z.sl gF) (.cons (Z.int .i64) .nil))) .nil) (.f [2,3] ?_));refine aH ?_;obtain rfl:=sM h;exact cB (σ':=⟨[(2,.ptr 90 0),(3,.v Q9 B.2)],[(90,.box 186 [.v Q5 ([]:lS),.v Q1 ([]:Q6),.v Q0 (0:Int)])]⟩) (aC [(90,101)]) (bS z dP Y (aV Y Y (.UO sO (.UO sO sO)) rU kX) (RV.tmp Y) .nil Y)
 refine aF ?_;obtain⟨u,D,h⟩:=aA h;refine aI (.a 1 ?_);refine .k (aM (Sv D) Tryz.call159 (.cons (.dir Y) .nil)) ?_;refine .a 2 ?_;refine .t (bX Y Y Y Y (.UO sO (.UO sO sO)) kX) (.f [2,3] ?_);refine aH ?_;obtain rfl:=sM h;exact cB (σ':=⟨[(2,.ptr 90 0),(3,.v Q9 u.2)],[(90,.box 186 [.v Q5 u.1.1,.v Q1 u.1.2.1,.v Q0 u.1.2.2])]⟩) (aC [(90,101)]) (bS z dP Y (aV Y Y (.UO sO (.UO sO sO)) rU kX) (RV.tmp Y) .nil Y)
theorem Jf{a0 a1 r}(h:lJ a0 a1=some r):
 VG Tryz.prog 204 [.v gF a0,.XA Q2 a1] (.v Wr.bool r) []:=by
 refine VG.of Tryz.func204 Y Tryz.ntmps204 Y ?_;intro S w A;unfold lJ at h;refine aI (.k (cK 101 Y (.UO sO sO) Y) (.f [1,2] ?_));refine aG ?_;obtain⟨B,u,h⟩:=aA h;refine eG (σ':=⟨[(3,.v Wr.bool B)],[]⟩) ?_ ?_
 ·refine cd u (fun z u=>?_) (fun z u=>?_)
  ·cases u;exact jy
  cases u;refine ja 6 ?_;exact(J.g z (cG Y Kl Y Kd Y (.fst .here) Y) jy)
 cases h;exact aH (aY A dP Y (RV.tmp Y) .nil Y)
theorem lU{a0 WQ r}(h:dH a0 WQ=some r):
 VG Tryz.prog 247 [.v Q1 a0,.YV 204 [.XA Q2 WQ]] (.v Q0 r) []:=by
 refine VG.of Tryz.func247 Y Tryz.ntmps247 Y ?_;intro S w u;unfold dH at h;refine aK [0,1] ?_;refine dB [0,1,7,8] ?_;obtain⟨L,F,G,H⟩:=cL h;refine jM (σs:=fun z:Int=>⟨[(0,.v Q1 a0),(1,.YV 204 [.XA Q2 WQ]),(7,.v Q0 (a0.length:Int)),(8,.v Q0 z)],[]⟩) (fun A:Unit=>⟨[],[]⟩) F (aC []) ?_ ?_
 ·intro A B;have h:=G _ B;refine aK [4] ?_;cases h;exact aH (aY u dP Y (RV.tmp Y) .nil Y)
 intro z K h;refine aK [0,1,7,8,9] ?_;refine aG ?_;refine aT h Y (fun C h=>?_) (fun C h=>?_)
 ·refine aF ?_;refine aG ?_;refine bT ?_;refine aK [0,1,5,7,8] ?_;obtain⟨M,N,h⟩:=aA h;obtain⟨O,I,h⟩:=aA h;refine aI (.a 5 ?_);refine .k (tI Y (Jf I) Tryz.call204 (.cons (.dir Y) .nil)) (.f [0,1,5,7,8,16] ?_);refine aT h Y (fun D h=>?_) (fun D h=>?_)
  ·refine aK [4] ?_;refine aH ?_;refine eV ?_;cases h;refine hX fun E=>?_;obtain rfl:=H _ E;exact aY u dP Y (RV.tmp Y) .nil Y
  refine aF ?_;refine bN ?_;refine dN [0,1,7,8] ?_;cases h;exact cF (aC [])
 cases h;exact dA (dJ (aC []))
theorem kJ{a0 WQ r}(h:cH a0 WQ=some r):
 VG Tryz.prog 203 [.v Q1 a0,.YV 204 [.XA Q2 WQ]] (.v Wr.bool r) []:=by
 refine VG.of Tryz.func203 Y Tryz.ntmps203 Y ?_;intro S w u;unfold cH at h;refine aK [0,1] ?_;obtain⟨A,z,h⟩:=aA h;refine aI (.a 2 ?_);refine .k (aM (lU z) Tryz.call247 (.cons (.dir Y) (.cons (.dir Y) .nil))) (.f [4] ?_);cases h;exact aH (aY u dP Y (RV.tmp Y) .nil Y)
theorem uH{a0 r}(h:mP a0=some r):
 VG Tryz.prog 160 [.v Q2 a0] (.v Q9 r) []:=by
 refine VG.of Tryz.func160 Y Tryz.ntmps160 Y ?_;intro S w z;unfold mP at h;refine aI (.k (cK 101 Y (.UO sO (.UO sO sO)) Y) (.f [1] ?_));refine aG ?_;refine aG ?_;obtain⟨E,u,h⟩:=aA h;refine eG (σ':=⟨[(1,.ptr 101 0),(18,.v Wr.bool E)],[(101,.box 186 [.v Q5 a0.1,.v Q1 a0.2.1,.v Q0 a0.2.2])]⟩) ?_ ?_
 ·refine cd u (fun A u=>?_) (fun A u=>?_)
  ·cases u;exact jy
  refine cd u (fun B u=>?_) (fun B u=>?_)
  ·cases u;exact jy
  cases u;exact jy
 refine aT h Y (fun C h=>?_) (fun C h=>?_)
 ·refine aK [2] ?_;cases h;exact aH (aY z dP Y (RV.tmp Y) .nil Y)
 refine aF ?_;obtain⟨G,F,h⟩:=aA h;refine jJ (.a 2 ?_);refine .k (tG (.cons (.dir Y) .nil)) (.k (rE (kJ F) Tryz.call203 (.cons (.dir Y) (.cons (.aMk Y (.ptr Y (.UO sO (.UO sO sO)) .nil)) .nil)) XH.v) (.f [23] ?_));refine aT h Y (fun D h=>?_) (fun D h=>?_)
 ·refine aK [2] ?_;cases h;exact aH (aY z dP Y (RV.tmp Y) .nil Y)
 refine aF ?_;refine aK [2] ?_;cases h;exact aH (aY z dP Y (RV.tmp Y) .nil Y)
theorem qG{a0 r}(h:jU a0=some r):
 VG Tryz.prog 138 [.v (Wr.E6 aQ) a0] (.ref 0) [(0,.arr 30 aQ r)]:=by
 refine VG.of Tryz.func138 Y Tryz.ntmps138 Y ?_;intro S w u;unfold jU at h;refine aI (.k (aP 101 30 aQ) (.f [0] ?_));refine jJ (.a 1 ?_);refine .k (wY Y Td) (.f [0,4] ?_);refine aT h Y (fun z h=>?_) (fun z h=>?_)
 ·refine aI (.k (aP 102 30 aQ) (.f [2] ?_));cases h;exact aH (wD u dP Y (aC [(0,102)]))
 refine aF ?_;obtain⟨B,A,h⟩:=aA h;refine aI (.k (sU (e:=aQ) 103 Td nG By Y Y Y Y .nil) ?_);refine .a 1 ?_;refine .t (bU 104 A Y Y (.E6 Y) Td Hu nG Y Y Y Y Y) (.f [2] ?_);cases h;exact aH (wD u dP Y (aC [(0,104)]))
theorem cO{a0:lS}{r:lS}(h:aO a0=some r):
  VG Tryz.prog 138 [.v Q5 a0] (.ref 0) [(0,.arr 30 aQ r)]:=
 rF fun b u=>qG (by cases b with | true=>rw[u rfl] at h ⊢;exact h | false=>exact Dw h)
theorem sP{a0 r}(h:fM a0=some r):
 VG Tryz.prog 181 [.v Q1 a0] (.YV 227 [.XA Q1 r]) []:=by
 refine VG.of Tryz.func181 Y Tryz.ntmps181 Y ?_;intro S w u;unfold fM at h;refine aI (.k (cK 101 Y sO Y) (.k (dZ Y) (.f [1] ?_)));refine aI (.k (tG (.cons (.dir Y) .nil)) (.f [2] ?_));refine aH ?_;obtain rfl:=sM h;exact cB (σ':=⟨[(2,.YV 227 [.XA Q1 a0])],[]⟩) (Sw.Sub.mk id (.cons Y (.YV (.cons (.D3 Y Y (.cons (.of_eq Y) .nil) sO) .nil)) .nil) .nil Y) (aY u dP Y (RV.tmp Y) .nil Y)
theorem QH{xs:List (Int×aR)}(hlen:(xs.length:Int)<=4294967296):
 W4 Tryz.prog 227 [.XA Q1 xs] ((D4 xs).map fun c=>[.v Q0 c.1,.v gF c.2]):=by
  refine BX Tryz.func227 Y Tryz.ntmps227 Y ?_;intro S w ρ l Jp Jx b off I uc h1;have E:=BZ hlen;refine aG ?_;refine eG (σ':=⟨[(0,.v (Wr.YW (.func (.yield l) #[] #[]) Y) ()),(1,.v (Wr.cp b off Q1) xs),(3,.v Q0 ((xs.length:Int) - 1 - (0:Nat)))],[]⟩) (J.k (mD Y EH Hw) (J.k (sA Y xW) (J.k (cT Y Y Y) (J.k (bP Y) (J.fin (jX (by rfl) (by exact(.cons Y (.cons Y (.cons (by rw[<-E];rfl) .nil)))))))))) ?_;refine bT ?_;refine Rk I (fun k=>[(0,.v (Wr.YW (.func (.yield l) #[] #[]) Y) ()),(1,.v (Wr.cp b off Q1) xs),(3,.v Q0 ((xs.length:Int) - 1 - (k:Nat)))]) (fun k=>(.cons (@l7.flat _ _ ⟨fun h=>h⟩ _ _ _ _) (.cons h1 (.cons .flat .nil)))) (fun _ _ h=>h) uc ?_;intro k V C D;have u:((D4 xs).map fun c=>([.v Q0 c.1,.v gF c.2]:List Slot)).length=xs.length:=by rw[ix,BY]
  rw[u] at D;have F:=FH hlen D;refine aG (aG ?_);refine eG (σ':=⟨[(0,.v (Wr.YW (.func (.yield l) #[] #[]) Y) ()),(1,.v (Wr.cp b off Q1) xs),(3,.v Q0 ((xs.length:Int) - 1 - (k:Nat))),(8,.v Wr.bool (cm .geq ((xs.length:Int) - 1 - (k:Nat)) 0))],[]⟩) (J.mv Y (J.k (nB Y Y Y) (J.fin (jX (by rfl) (by exact(.cons Y (.cons Y (.cons Y (.cons Y .nil))))))))) ?_;refine Ff Y (fun z=>?_) (fun z=>?_)
  ·refine aF ?_;have M:(xs.length:Int) - 1 - (k:Nat)>=0:=by simpa[cm] using z
   have B:k<xs.length:=by omega
   obtain⟨x,K,L⟩:=FG B;refine aG ?_;refine bT ?_;refine aG ?_;refine Lx (σ1:=⟨[(11,.v (Wr.YW (.func (.yield l) #[] #[]) Y) ()),(12,.v Q0 ((xs.length:Int) - 1 - (k:Nat))),(16,.v gF x),(0,.v (Wr.YW (.func (.yield l) #[] #[]) Y) ()),(1,.v (Wr.cp b off Q1) xs),(3,.v Q0 ((xs.length:Int) - 1 - (k:Nat)))],[]⟩) (g2:=[(0,.v (Wr.YW (.func (.yield l) #[] #[]) Y) ()),(1,.v (Wr.cp b off Q1) xs),(3,.v Q0 ((xs.length:Int) - 1 - (k:Nat)))]) (pre:=[_,_,_,_,_,_]) I C (item:=[.v Q0 ((xs.length:Int) - 1 - (k:Nat)),.v gF x]) (by rw[iy,K];rfl)
    (J.cons (.none rfl) (aD rfl) rfl rfl (J.cons (.none rfl) (aD rfl) rfl rfl (J.cons (.none rfl) (mD rfl EH Hw) rfl rfl (J.cons (.none rfl) (aD rfl) rfl rfl (J.cons (.none rfl) (gO L rfl rfl xW jN) rfl rfl (J.cons (.none rfl) (bO rfl Yp jN) rfl rfl (J.fin (jX (by rfl) (by exact(.cons rfl (.cons rfl (.cons rfl (.cons rfl (.cons rfl (.cons rfl .nil)))))))))))))))
    rfl (.cons (.dir rfl) (.cons (.dir rfl) .nil)) rfl rfl rfl rfl (.cons (@l7.flat _ _ ⟨fun h=>h⟩ _ _ _ _) (.cons h1 (.cons .flat .nil))) (.cons rfl (.cons rfl (.cons rfl .nil))) (fun A G=>?_) (fun A H=>?_)
   ·refine Aq rfl rfl (aF (bN ?_));refine eG (σ':=⟨[(0,.v (Wr.YW (.func (.yield l) #[] #[]) Y) ()),(1,.v (Wr.cp b off Q1) xs),(3,.v Q0 (ar .sub .i64 ((xs.length:Int) - 1 - (k:Nat)) 1))],[]⟩) (J.mv Y (J.k (cT Y Y Y) (J.k (bP Y) (J.fin (jX (by rfl) (by exact(.cons Y (.cons Y (.cons Y .nil))))))))) ?_;exact Rl I G (by rw[u];exact B) (by rw[F];exact fun _ _ h=>h)
   ·refine vD rfl rfl (aH (Rm (fn:=Tryz.f227) I rfl H fun a A h=>h))
  ·refine dA (Xc (fn:=Tryz.f227) I rfl C ?_ (fun a A h=>?_))
   ·have N:¬(xs.length:Int) - 1 - (k:Nat)>=0:=by simpa[cm] using z
    rw[u];omega
   ·simp only[Exit.inBlock,ZH];exact h
theorem qD{a0 a1 r}(h:iN a0 a1=some r):
 VG Tryz.prog 133 [.v Q2 a0,.v Q0 a1] (.VO [.v aQ r.1,.v Q9 r.2]) []:=by
 refine VG.of Tryz.func133 Y Tryz.ntmps133 Y ?_;intro S w z;unfold iN at h;refine aI (.k (cK 101 Y (.UO sO (.UO sO sO)) Y) (.k (cK 102 Y sO Y) (.k (aN 103 By Y (.cons (Z.arr 8 (Z.int .u8)) .nil) Y) (.k (aN 104 Tryz.zeroValue35 Y (.cons (Z.err ET) .nil) Y) (.f [2,3,4,5] ?_)))));obtain⟨P,Q,h⟩:=aA h;refine jJ (.k (aS Y Y (.UO sO (.UO sO sO)) rU kX) (.k (aM (uH Q) NB (.cons (.dir Y) .nil)) (.f [2,3,4,5,6] ?_)));refine aK [2,3,4,5,6,12] ?_;refine aT h Y (fun I h=>?_) (fun I h=>?_)
 ·refine aI (.k (eJ (e:=aQ) (v:=aU) Hu xJ I5 Y Y (Z.arr 8 (Z.int .u8))) (.f [4,5] ?_));refine aH ?_;obtain rfl:=sM h;exact cB (σ':=⟨[(4,.ptr 90 0),(5,.ptr 91 0)],[(91,.box 35 [.v Q9 P]),(90,.box 30 [.v aQ aU])]⟩) (aC [(90,103),(91,104)]) (bS z dP Y (dG Y Y Y vT nG) (dG Y Y Y SB OB) .nil Y)
 refine aF ?_;refine aG ?_;refine aG ?_;obtain⟨T,B,h⟩:=aA h;refine eG (σ':=⟨[(2,.ptr 101 0),(3,.ptr 102 0),(4,.ptr 103 0),(5,.ptr 104 0),(23,.v Wr.bool T)],[(101,.box 186 [.v Q5 a0.1,.v Q1 a0.2.1,.v Q0 a0.2.2]),(102,.box 3 [.v Q0 a1]),(103,.box 30 [.v aQ aU]),(104,.box 35 [.v Q9 (none:Option Int)])]⟩) ?_ ?_
 ·refine cd B (fun K B=>?_) (fun K B=>?_)
  ·cases B;exact jy
  cases B;exact jy
 refine aT h Y (fun M h=>?_) (fun M h=>?_)
 ·refine aI (.k (eJ (e:=aQ) (v:=aU) Hu xJ I5 Y Y (Z.arr 8 (Z.int .u8))) (.f [4,5] ?_));refine aH ?_;obtain rfl:=sM h;exact cB (σ':=⟨[(4,.ptr 90 0),(5,.ptr 91 0)],[(91,.box 35 [.v Q9 (some (1:Int))]),(90,.box 30 [.v aQ aU])]⟩) (aC [(90,103),(91,104)]) (bS z dP Y (dG Y Y Y vT nG) (dG Y Y Y SB OB) .nil Y)
 refine aF ?_;refine dB [2,3,4,5,28] ?_;refine aT h Y (fun N h=>?_) (fun N h=>?_)
 ·refine aI (.k (eJ (e:=aQ) (v:=aU) Hu xJ I5 Y Y (Z.arr 8 (Z.int .u8))) (.f [4,5] ?_));refine aH ?_;obtain rfl:=sM h;exact cB (σ':=⟨[(4,.ptr 90 0),(5,.ptr 91 0)],[(91,.box 35 [.v Q9 (some (4:Int))]),(90,.box 30 [.v aQ aU])]⟩) (aC [(90,103),(91,104)]) (bS z dP Y (dG Y Y Y vT nG) (dG Y Y Y SB OB) .nil Y)
 refine aF ?_;obtain⟨E,U,h⟩:=aA h;refine jJ (.a 2 ?_);refine .k (aM (sP U) Tryz.call181 (.cons (.dir Y) .nil)) (.f [2,3,4,5,33] ?_);refine bT ?_;obtain⟨ad,V,h⟩:=aA h;obtain⟨o9,X,aa,ab⟩:=Ri h;refine Rh (g:=[(2,.ptr 101 0),(3,.ptr 102 0),(4,.ptr 103 0),(5,.ptr 104 0),(33,.YV 227 [.XA Q1 E])]) (ds0:=[(101,.box 186 [.v Q5 a0.1,.v Q1 a0.2.1,.v Q0 a0.2.2]),(102,.box 3 [.v Q0 a1]),(103,.box 30 [.v aQ aU]),(104,.box 35 [.v Q9 (none:Option Int)])]) (L:=[101,102,103,104]) (fun A:(Int×(Int×aR))=>[.v Q0 A.1,.v gF A.2]) (fun u (C:Unit)=>[(101,.box 186 [.v Q5 a0.1,.v Q1 a0.2.1,.v Q0 a0.2.2] (some (u 101))),(102,.box 3 [.v Q0 a1] (some (u 102))),(103,.box 30 [.v aQ aU] (some (u 103))),(104,.box 35 [.v Q9 (none:Option Int)] (some (u 104)))]) (fun u (D:aR)=>[(101,.box 186 [.v Q5 a0.1,.v Q1 a0.2.1,.v Q0 a0.2.2] (some (u 101))),(102,.box 3 [.v Q0 a1] (some (u 102))),(103,.box 30 [.v aQ D] (some (u 103))),(104,.box 35 [.v Q9 (none:Option Int)] (some (u 104)))]) (fun u A C=>⟨[(2,.ptr 101 0),(3,.ptr 102 0),(4,.ptr 103 0),(5,.ptr 104 0),(8,.ptr 108 0),(33,.YV 227 [.XA Q1 E])],[(101,.box 186 [.v Q5 a0.1,.v Q1 a0.2.1,.v Q0 a0.2.2] (some (u 101))),(102,.box 3 [.v Q0 a1] (some (u 102))),(103,.box 30 [.v aQ aU] (some (u 103))),(104,.box 35 [.v Q9 (none:Option Int)] (some (u 104))),(108,.box 214 [.v Q0 A.2.1,.v aQ A.2.2])]⟩) z Y X (aC []) (fun _=>rfl) Y (QH (Fk V)) Tryz.call227 (fun _=>rfl) Y (fun _=>rfl) Y (fun _ _=>(.cons Y (.cons Y (.cons Y (.cons Y .nil))))) (fun _ _=>(.cons Y (.cons Y (.cons Y (.cons Y .nil))))) ?_ ?_ ?_ ?_
 ·intro u S w R l A C;refine eN (.k (aN 109 Eo Y (.cons (Z.int .i64) (.cons (Z.arr 8 (Z.int .u8)) .nil)) Y) (.t (bX Y Y Y Y (.UO sO sO) jN) (.f [2,3,4,5,8,33] ?_)));exact OO (aC [(108,109)])
 ·intro u S w R l A C r9 h;refine bT ?_;refine aK [2,3,4,5,8,33,39] ?_;refine aT h Y (fun O h=>?_) (fun O h=>?_)
  ·refine aI (.a 3 ?_);refine .t (Ik Y Y Y (.aMh ET) Y Y Y OB) (.f [2,3,4,5,33] ?_);refine aH ?_;refine eV ?_;cases h;exact FE (aC [])
  refine aF ?_;cases h;exact bN (Rj (aC []))
 ·intro u ac F S w R G z;have h:=aa _ F;refine bN ?_;obtain⟨je,px,h⟩:=aA h;refine aI (.a 6 ?_);refine .t (Ik Y Y Y (.aMh ET) Y Y Y OB) (.f [4,5] ?_);refine aH ?_;obtain rfl:=sM h;exact cB (σ':=⟨[(4,.ptr 90 0),(5,.ptr 91 0)],[(91,.box 35 [.v Q9 (none:Option Int)]),(90,.box 30 [.v aQ je])]⟩) (aC [(90,103),(91,104)]) (bS z dP Y (dG Y Y Y vT nG) (dG Y Y Y SB OB) .nil Y)
 ·intro u D H S w R G z;have h:=ab _ H;refine eV ?_;obtain rfl:=sM h;exact cB (σ':=⟨[(4,.ptr 90 0),(5,.ptr 91 0)],[(91,.box 35 [.v Q9 (none:Option Int)]),(90,.box 30 [.v aQ D])]⟩) (aC [(90,103),(91,104)]) (bS z dP Y (dG Y Y Y vT nG) (dG Y Y Y SB OB) .nil Y)
theorem sW{a0 r}(h:gM a0=some r):
 VG Tryz.prog 210 [.v aQ a0] (.v Q0 r) []:=by
 refine VG.of Tryz.func210 Y Tryz.ntmps210 Y ?_;intro S w C;unfold gM at h;refine aI (.k (cK 101 Y sO Y) (.f [1] ?_));obtain⟨D,u,h⟩:=aA h;obtain⟨E,z,h⟩:=aA h;obtain⟨F,A,h⟩:=aA h;obtain⟨G,B,h⟩:=aA h;refine aI (.k (rD u Y Y Y Y xJ S5) (.k (uR (dO u).2.2 Y Y Y G5 S5) (.k (by exact mC U5 U3 Y Y) (.k (by exact eY (.inl Y) (by decide) Y Y) (.k (by exact rD z Y Y Y Y xJ S5) (.k (by exact uR (dO z).2.2 Y Y Y G5 S5) (.k (by exact mC U5 U3 Y Y) (.k (by exact eY (.inl Y) (by decide) Y Y) ?_))))))));refine .a 1 ?_;refine .k (rD A Y Y Y Y xJ S5) (.k (uR (dO A).2.2 Y Y Y G5 S5) (.k (by exact mC U5 U3 Y Y) (.k (by exact eY (.inl Y) (by decide) Y Y) ?_)));refine .a 1 ?_;refine .k (rD B Y Y Y Y xJ S5) (.k (uR (dO B).2.2 Y Y Y G5 S5) (.k (by exact mC U5 U3 Y Y) (.f [2] ?_)));cases h;exact aH (aY C dP Y (RV.tmp Y) .nil Y)
theorem sE{a0 r}(h:lK a0=some r):
 VG Tryz.prog 213 [.v (Wr.E6 gF) a0] (.ref 0) [(0,.arr 214 gF r)]:=by
 refine VG.of Tryz.func213 Y Tryz.ntmps213 Y ?_;intro S w u;unfold lK at h;refine aI (.k (aP 101 214 gF) (.f [0] ?_));refine jJ (.a 1 ?_);refine .k (wY Y xW) (.f [0,4] ?_);refine aT h Y (fun z h=>?_) (fun z h=>?_)
 ·refine aI (.k (aP 102 214 gF) (.f [2] ?_));cases h;exact aH (wD u dP Y (aC [(0,102)]))
 refine aF ?_;obtain⟨B,A,h⟩:=aA h;refine aI (.k (sU (e:=gF) 103 xW jN Eo Y Y Y Y .nil) ?_);refine .a 1 ?_;refine .t (bU 104 A Y Y (.E6 Y) xW Kj jN Y Y Y Y Y) (.f [2] ?_);cases h;exact aH (wD u dP Y (aC [(0,104)]))
theorem eT{a0:Q6}{r:Q6}(h:bV a0=some r):
  VG Tryz.prog 213 [.v Q1 a0] (.ref 0) [(0,.arr 214 gF r)]:=
 rF fun b u=>sE (by cases b with | true=>rw[u rfl] at h ⊢;exact h | false=>exact Dw h)
theorem Dh{a0 r}(h:rJ a0=some r):
 VG Tryz.prog 264 [.v Q2 a0] (.agg [.ref 0,.ref 1,.v Q0 r.2.2]) [(0,.arr 30 aQ r.1),(1,.arr 214 gF r.2.1)]:=by
 refine VG.of Tryz.func264 Y Tryz.ntmps264 Y ?_;intro S w u;unfold rJ at h;refine aI (.k (cK 101 Y (.UO sO (.UO sO sO)) Y) (.k (aN 102 Ss Y (.cons (Z.sl aQ) (.cons (Z.sl gF) (.cons (Z.int .i64) .nil))) Y) (.f [1,2] ?_)));refine aG ?_;obtain⟨z,A,h⟩:=aA h;obtain⟨B,C,h⟩:=aA h;refine eK 10 mixed (by exact(.k (aB 0 Y Kl Y Kd Y Y) (.k (aJ Y Y Y JB Kd) (.k (fY 103000 (cO A) Yo (.cons (.dir Y) .nil) Y) (.k (aB 1 Y Kl Y Hw Y Y) (.k (aJ Y Y Y EH Hw) (.k (fY 104000 (eT C) IX (.cons (.dir Y) .nil) Y) (.k (aB 0 Y Kl Y Kd Y Y) (WZ.store (.none Y) Y Y Y Y Y Y Y Kd (.k (aB 1 Y Kl Y Hw Y Y) (WZ.store (.none Y) Y Y Y Y Y Y Y Hw .nil))))))))))) (by exact(J.kp [1,2] [])) ?_;refine aI (.k (gZ Y Y Y rU kX) (.f [2] ?_));refine aH ?_;obtain rfl:=sM h;exact cB (σ':=⟨[(2,.ptr 90 0)],[(90,.box 186 [.ref 0,.ref 1,.v Q0 a0.2.2]),(1,.arr 214 gF B),(0,.arr 30 aQ z)]⟩) (aC [(90,102),(1,104000),(0,103000)]) (aY u dP Y (Fi Y Y Y rU kX) (.cons Y (.cons Y .nil)) Y)
theorem uM(A:Nat->Nat){VF VL ey r}(h:jE VF VL ey=some r):
 UT Tryz.prog 265 [.ptr 9000 0] [(9000,.box 186 [.ref 8950,.ref 8951,.v Q0 ey] (some (A 9000))),(8950,.arr 30 aQ VF),(8951,.arr 214 gF VL)] (.v Q9 r.1) [(9000,.box 186 [.ref 8910,.ref 8911,.v Q0 r.2.2.2] (some (A 9000))),(8910,.arr 30 aQ r.2.1),(8911,.arr 214 gF r.2.2.1)]:=by
 refine UT.of Tryz.func265 Y Tryz.ntmps265 Y ?_;intro S w R z;unfold jE at h;refine aK [0] ?_;refine dB [0,7] ?_;refine aT h Y (fun C h=>?_) (fun C h=>?_)
 ·refine aK [0,2] ?_;cases h;exact aH (eU z Y (aC [(8911,8951),(8910,8950)]))
 refine aF ?_;refine dB [0,13] ?_;obtain⟨D,E,h⟩:=fE h;refine sZ (fun B:Int=>⟨[(0,.ptr 9000 0)],[(9000,.box 186 [.ref 8950,.ref 8951,.v Q0 B] (some (A 9000))),(8950,.arr 30 aQ VF),(8951,.arr 214 gF VL)]⟩) (fun x=>D x=some r) Y ?_ ?_ ?_
 ·intro B h;rw[E] at h;refine aK [0,2] ?_;cases h;exact aH (eU z Y (aC [(8911,8951),(8910,8950)]))
 ·intro u;replace h:=iK u h;refine dN [0] ?_;exact cC h (aC [])
 ·intro u;replace h:=iL u h;refine aF ?_;exact cC h (aC [])
theorem Nt{a0 a1 a2 r}(h:rK a0 a1 a2=some r):
 VG Tryz.prog 250 [.v Q2 a0,.v Q0 a1,.v aQ a2] (.VO [.v Q2 r.1,.v Q9 r.2]) []:=by
 refine VG.of Tryz.func250 Y Tryz.ntmps250 Y ?_;intro S w u;unfold rK at h;refine aI (.k (cK 101 Y (.UO sO (.UO sO sO)) Y) (.k (cK 102 Y sO Y) (.k (aN 103 Ss Y (.cons (Z.sl aQ) (.cons (Z.sl gF) (.cons (Z.int .i64) .nil))) Y) (.f [1,3,5,6] ?_))));obtain⟨H,I,h⟩:=aA h;refine jJ (.k (aS Y Y (.UO sO (.UO sO sO)) rU kX) (.k (aM (uH I) NB (.cons (.dir Y) .nil)) (.f [1,3,5,6,8] ?_)));refine aK [1,3,5,6,8,13] ?_;refine aT h Y (fun C h=>?_) (fun C h=>?_)
 ·refine aI (.k (fO (new:=[(105,.arr 214 gF ([]:Q6))]) rA (.cons (Z.sl aQ) (.ref 105 Y (.cons (Z.int .i64) .nil))) (.cons .nil) Y .nil) (.f [6,7] ?_));refine aH ?_;obtain rfl:=sM h;exact cB (σ':=⟨[(6,.ptr 90 0),(7,.v Q9 H)],[(90,.box 186 [.v Q5 ([]:lS),.v Q1 ([]:Q6),.v Q0 (0:Int)])]⟩) (aC [(90,103)]) (bS u dP Y (aV Y Y (.UO sO (.UO sO sO)) rU kX) (RV.tmp Y) .nil Y)
 refine aF ?_;refine aG ?_;refine aG ?_;obtain⟨K,z,h⟩:=aA h;refine eG (σ':=⟨[(1,.v Q0 a1),(3,.ptr 101 0),(5,.ptr 102 0),(6,.ptr 103 0),(24,.v Wr.bool K)],[(101,.box 186 [.v Q5 a0.1,.v Q1 a0.2.1,.v Q0 a0.2.2]),(102,.box 30 [.v aQ a2]),(103,.box 186 [.v Q5 ([]:lS),.v Q1 ([]:Q6),.v Q0 (0:Int)])]⟩) ?_ ?_
 ·refine cd z (fun D z=>?_) (fun D z=>?_)
  ·cases z;exact jy
  cases z;exact jy
 refine aT h Y (fun E h=>?_) (fun E h=>?_)
 ·refine aI (.k (fO (new:=[(106,.arr 214 gF ([]:Q6))]) rA (.cons (Z.sl aQ) (.ref 106 Y (.cons (Z.int .i64) .nil))) (.cons .nil) Y .nil) (.f [6,7] ?_));refine aH ?_;obtain rfl:=sM h;exact cB (σ':=⟨[(6,.ptr 90 0),(7,.v Q9 (some (1:Int)))],[(90,.box 186 [.v Q5 ([]:lS),.v Q1 ([]:Q6),.v Q0 (0:Int)])]⟩) (aC [(90,103)]) (bS u dP Y (aV Y Y (.UO sO (.UO sO sO)) rU kX) (RV.tmp Y) .nil Y)
 refine aF ?_;refine dB [1,3,5,6,30] ?_;refine aT h Y (fun F h=>?_) (fun F h=>?_)
 ·refine aI (.k (fO (new:=[(107,.arr 214 gF ([]:Q6))]) rA (.cons (Z.sl aQ) (.ref 107 Y (.cons (Z.int .i64) .nil))) (.cons .nil) Y .nil) (.f [6,7] ?_));refine aH ?_;obtain rfl:=sM h;exact cB (σ':=⟨[(6,.ptr 90 0),(7,.v Q9 (some (2:Int)))],[(90,.box 186 [.v Q5 ([]:lS),.v Q1 ([]:Q6),.v Q0 (0:Int)])]⟩) (aC [(90,103)]) (bS u dP Y (aV Y Y (.UO sO (.UO sO sO)) rU kX) (RV.tmp Y) .nil Y)
 refine aF ?_;obtain⟨P,L,h⟩:=aA h;refine aI (.k (aS Y Y (.UO sO (.UO sO sO)) rU kX) (.k (fY 108000 (Dh L) Tryz.call264 (.cons (.dir Y) .nil) Y) (.f [1,3,5,6] ?_)));obtain⟨B,M,h⟩:=aA h;refine jJ (.t (eM [101,108000,108001] (Bv [(9000,101),(8950,108000),(8951,108001),(8910,109),(8911,110)]) (eO _) (fun A=>uM A M) Tryz.call265 (fun A=>(.box Y (.arr (.arr .nil Y) Y) Y))) (.f [1,3,5,6,9] ?_));refine aK [1,3,5,6,9,37] ?_;refine aT h Y (fun G h=>?_) (fun G h=>?_)
 ·refine aI (.k (fO (new:=[(111,.arr 214 gF ([]:Q6))]) rA (.cons (Z.sl aQ) (.ref 111 Y (.cons (Z.int .i64) .nil))) (.cons .nil) Y .nil) (.f [6,7] ?_));refine aH ?_;obtain rfl:=sM h;exact cB (σ':=⟨[(6,.ptr 90 0),(7,.v Q9 B.1)],[(90,.box 186 [.v Q5 ([]:lS),.v Q1 ([]:Q6),.v Q0 (0:Int)])]⟩) (aC [(90,103)]) (bS u dP Y (aV Y Y (.UO sO (.UO sO sO)) rU kX) (RV.tmp Y) .nil Y)
 refine aF ?_;obtain⟨N,O,h⟩:=aA h;refine aI (.a 4 ?_);refine .k (bR vP (.cons (Z.int .i64) (.cons (Z.arr 8 (Z.int .u8)) .nil)) (.cons Y (.dir Y) Y Y Y Y (.cons Y (.dir Y) Y Y Y Y .nil))) (.k (dI (e:=gF) xW jN Eo Y Y Y Y (.cons (.agg Y (.same (.same .nil)) (.UO sO sO) Y) .nil)) (.t (bU 112 O Y Y (.sl Y) xW Kj jN Y Y Y Y Y) (.f [3,6] ?_)));refine aI (.k (gZ Y Y Y rU kX) (.f [6,7] ?_));refine aH ?_;obtain rfl:=sM h;exact cB (σ':=⟨[(6,.ptr 90 0),(7,.v Q9 (none:Option Int))],[(90,.box 186 [.v Q5 B.2.1,.v Q1 N,.v Q0 B.2.2.2])]⟩) (aC [(90,103)]) (bS u dP Y (aV Y Y (.UO sO (.UO sO sO)) rU kX) (RV.tmp Y) .nil Y)
theorem iH(A:Nat->Nat){VF VL a1 a2 r}(h:dS VF VL a1 a2=some r):
 UT Tryz.prog 215 [.ptr 9000 0,.v Q0 a1,.v aQ a2] [(9000,.box 188 [.v Q0 VF,.v Q2 VL] (some (A 9000)))] (.v Q9 r.1) [(9000,.box 188 [.v Q0 r.2.1,.v Q2 r.2.2] (some (A 9000)))]:=by
 refine UT.of Tryz.func215 Y Tryz.ntmps215 Y ?_;intro S w R B;unfold dS at h;refine aI (.k (cK 101 Y sO Y) (.f [0,1,5] ?_));refine aG ?_;obtain⟨C,D,h⟩:=aA h;refine eK 13 mixed (by exact(.k (aD Y) (.k (aL Y) (.k (aB 1 Y vX Y kX Y Y) (.k (aJ Y Y Y rU kX) (.k (aD Y) (.k (aJ Y Y Y vT nG) (.k (aM (Nt D) Tryz.call250 (.cons (.dir Y) (.cons (.dir Y) (.cons (.dir Y) .nil)))) (.k (aD Y) (.k (bW Y Y) (.k (bW Y Y) (.k (aN 103 Ss Y (.cons (Z.sl aQ) (.cons (Z.sl gF) (.cons (Z.int .i64) .nil))) Y) (WZ.storeAll (.none Y) Y Y Y Y (.UO sO (.UO sO sO)) kX (.k (bP Y) .nil)))))))))))))) (by exact(J.kp [0,7,8] [])) ?_;refine jJ (.a 1 ?_);refine .k (iM Oq Y) (.f [0,7,8,20] ?_);obtain⟨E,F,h⟩:=fE h;refine sZ (fun z:Cl=>⟨[(0,.ptr 9000 0),(8,.v Q9 C.2)],[(9000,.box 188 [.v Q0 VF,.v Q2 z] (some (A 9000)))]⟩) (fun x=>E x=some r) Y ?_ ?_ ?_
 ·intro z h;rw[F] at h;refine aK [0,6] ?_;cases h;exact aH (eH B Y (RV.tmp Y) (.cons Y .nil))
 ·intro u;replace h:=iK u h;refine eN (.a 1 ?_);refine .k (aS Y Y (.UO sO (.UO sO sO)) rU kX) (.f [0,8] ?_);exact cC h (aC [])
 ·intro u;replace h:=iL u h;refine aF ?_;exact cC h (aC [])
theorem sQ(A:Nat->Nat){VF VL r}(h:gP VF VL=some r):
 UT Tryz.prog 206 [.ptr 9000 0] [(9000,.box 188 [.v Q0 VF,.v Q2 VL] (some (A 9000))),(9100,.box 74 [.ptr 9000 0] (some (A 9100)))] (.v Q9 r.1) [(9000,.box 188 [.v Q0 r.2.1,.v Q2 r.2.2] (some (A 9000))),(9100,.box 74 [.ptr 9000 0] (some (A 9100)))]:=by
 refine UT.of Tryz.func206 Y Tryz.ntmps206 Y ?_;intro S w R G;unfold gP at h;refine aK [0] ?_;refine aG ?_;obtain⟨E,M,h⟩:=aA h;refine eK 16 mixed (by exact(.k (aD Y) (.k (aL Y) (.k (aB 1 Y vX Y kX Y Y) (.k (aJ Y Y Y rU kX) (.k (aD Y) (.k (aL Y) (.k (aB 0 Y vX Y S3 Y Y) (.k (aJ Y Y Y G3 S3) (.k (cT Y Y Y) (.k (aM (qD M) DW (.cons (.dir Y) (.cons (.dir Y) .nil))) (.k (aD Y) (.k (bW Y Y) (.k (bW Y Y) (.k (aN 102 By Y (.cons (Z.arr 8 (Z.int .u8)) .nil) Y) (WZ.store (.none Y) Y Y Y Y Y Y Y nG (.k (bP Y) .nil))))))))))))))))) (by exact(J.kp [0,3,4] [])) ?_;refine dB [0,3,4,5] ?_;obtain⟨ad,N,O,ae⟩:=cL h;refine jM (σs:=fun u:(Option Int)×Int×Int×Cl=>⟨[(0,.ptr 9000 0),(3,.ptr 102 0),(4,.v Q9 u.1),(5,.v Q0 u.2.1)],[(9000,.box 188 [.v Q0 u.2.2.1,.v Q2 u.2.2.2] (some (A 9000))),(102,.box 30 [.v aQ E.1]),(9100,.box 74 [.ptr 9000 0] (some (A 9100)))]⟩) (fun B:(Option Int)×Int×Cl=>⟨[(0,.ptr 9000 0),(4,.v Q9 B.1)],[(9000,.box 188 [.v Q0 B.2.1,.v Q2 B.2.2] (some (A 9000))),(9100,.box 74 [.ptr 9000 0] (some (A 9100)))]⟩) N (aC []) ?_ ?_
 ·intro B H;have h:=O _ H;refine aK [0,2] ?_;cases h;exact aH (eH G Y (RV.tmp Y) (.cons Y (.cons Y .nil)))
 intro u I h;refine aG ?_;refine aG ?_;obtain⟨P,z,h⟩:=aA h;refine eG (σ':=⟨[(0,.ptr 9000 0),(3,.ptr 102 0),(4,.v Q9 u.1),(5,.v Q0 u.2.1),(28,.v Wr.bool P)],[(9000,.box 188 [.v Q0 u.2.2.1,.v Q2 u.2.2.2] (some (A 9000))),(102,.box 30 [.v aQ E.1]),(9100,.box 74 [.ptr 9000 0] (some (A 9100)))]⟩) ?_ ?_
 ·refine cd z (fun F z=>?_) (fun F z=>?_)
  ·obtain⟨af,Q,z⟩:=aA z;cases z;refine ja 1 ?_;refine(J.k (iM Oq Y) ?_);refine ja 3 ?_;exact(J.g F (aM (sW Q) ND (.cons (.dir Y) .nil)) jy)
  cases z;refine ja 1 ?_;exact(J.k (iM Oq Y) jy)
 refine aT h Y (fun K h=>?_) (fun K h=>?_)
 ·refine aF ?_;refine aG ?_;refine bT ?_;refine aI (.k (aN 129 By Y (.cons (Z.arr 8 (Z.int .u8)) .nil) Y) (.k (aN 130 By Y (.cons (Z.arr 8 (Z.int .u8)) .nil) Y) (.f [0,3,5,6,7] ?_)));refine aG ?_;refine aG ?_;obtain⟨T,U,h⟩:=aA h;refine eK 18 mixed (by exact(.k (aD Y) (.k (aL Y) (.k (aB 1 Y vX Y kX Y Y) (.k (aJ Y Y Y rU kX) (.k (aD Y) (.k (aL Y) (.k (aB 0 Y vX Y S3 Y Y) (.k (aJ Y Y Y G3 S3) (.k (cT Y Y Y) (.k (aD Y) (.k (cT Y Y Y) (.k (cT Y Y Y) (.k (aM (qD U) DW (.cons (.dir Y) (.cons (.dir Y) .nil))) (.k (aD Y) (.k (bW Y Y) (.k (bW Y Y) (WZ.store (.none Y) Y Y Y Y Y Y Y nG (.k (bP Y) .nil))))))))))))))))))) (by exact(J.kp [0,3,4,5,6,7] [])) ?_;refine aI (.a 1 ?_);refine .k (iM Oq Y) (.f [0,3,4,5,6,7,48] ?_);obtain⟨V,X,h⟩:=fE h;refine sZ (fun C:(Option Int)×aR=>⟨[(0,.ptr 9000 0),(3,.ptr 102 0),(4,.v Q9 C.1),(5,.v Q0 u.2.1),(6,.ptr 129 0),(7,.ptr 130 0)],[(9000,.box 188 [.v Q0 u.2.2.1,.v Q2 u.2.2.2] (some (A 9000))),(102,.box 30 [.v aQ E.1]),(129,.box 30 [.v aQ T.1]),(130,.box 30 [.v aQ C.2]),(9100,.box 74 [.ptr 9000 0] (some (A 9100)))]⟩) (fun x=>V x=some I) Y ?_ ?_ ?_
  ·intro C h;rw[X] at h;refine aI (.a 1 ?_);refine .k (iM Oq Y) (.f [0,3,4,5,6,7,66] ?_);refine aT h Y (fun L h=>?_) (fun L h=>?_)
   ·obtain⟨am,aa,h⟩:=aA h;obtain⟨an,ab,h⟩:=aA h;refine eK 4 mixed (by exact(.k (aD Y) (.k (aJ Y Y Y vT nG) (.k (aM (sW aa) ND (.cons (.dir Y) .nil)) (.k (aJ Y Y Y vT nG) .nil))))) (by exact(J.t (eM [9000] (Bv [(9000,9000)]) (eO _) (fun A=>iH A ab) IY (fun A=>(.box Y .nil Y))) (jz [0,3,4,5]))) ?_;refine bN ?_;refine dN [0,3,4,5] ?_;cases h;exact cF (aC [])
   refine aF ?_;refine bN ?_;refine dN [0,3,4,5] ?_;cases h;exact cF (aC [])
  ·intro D;replace h:=iK D h;obtain⟨ao,ac,h⟩:=aA h;refine eK 18 mixed (by exact(.k (aD Y) (.k (aL Y) (.k (aB 1 Y vX Y kX Y Y) (.k (aJ Y Y Y rU kX) (.k (aD Y) (.k (aL Y) (.k (aB 0 Y vX Y S3 Y Y) (.k (aJ Y Y Y G3 S3) (.k (cT Y Y Y) (.k (aD Y) (.k (cT Y Y Y) (.k (cT Y Y Y) (.k (aM (qD ac) DW (.cons (.dir Y) (.cons (.dir Y) .nil))) (.k (aD Y) (.k (bW Y Y) (.k (bW Y Y) (WZ.store (.none Y) Y Y Y Y Y Y Y nG (.k (bP Y) .nil))))))))))))))))))) (by exact(J.kp [0,3,4,5,6,7] [])) ?_;exact cC h (aC [])
  ·intro D;replace h:=iL D h;refine aF ?_;exact cC h (aC [])
 cases h;exact dA (dJ (aC []))
theorem Nu{a0 r}(h:rL a0=some r):
 VG Tryz.prog 248 [.v Q2 a0] (.VO [.v Q2 r.1,.v Q9 r.2]) []:=by
 refine VG.of Tryz.func248 Y Tryz.ntmps248 Y ?_;intro S w z;unfold rL at h;refine aI (.k (cK 101 Y (.UO sO (.UO sO sO)) Y) (.k (aN 102 Ss Y (.cons (Z.sl aQ) (.cons (Z.sl gF) (.cons (Z.int .i64) .nil))) Y) (.f [1,2] ?_)));obtain⟨K,L,h⟩:=aA h;refine jJ (.k (aS Y Y (.UO sO (.UO sO sO)) rU kX) (.k (aM (uH L) NB (.cons (.dir Y) .nil)) (.f [1,2,4] ?_)));refine aK [1,2,4,11] ?_;refine aT h Y (fun G h=>?_) (fun G h=>?_)
 ·refine aI (.k (bR rA (.cons (Z.sl aQ) (.cons (Z.sl gF) (.cons (Z.int .i64) .nil))) .nil) (.f [2,3] ?_));refine aH ?_;obtain rfl:=sM h;exact cB (σ':=⟨[(2,.ptr 90 0),(3,.v Q9 K)],[(90,.box 186 [.v Q5 ([]:lS),.v Q1 ([]:Q6),.v Q0 (0:Int)])]⟩) (aC [(90,102)]) (bS z dP Y (aV Y Y (.UO sO (.UO sO sO)) rU kX) (RV.tmp Y) .nil Y)
 refine aF ?_;obtain⟨R,M,h⟩:=aA h;refine aI (.k (aS Y Y (.UO sO (.UO sO sO)) rU kX) (.k (fY 104000 (Dh M) Tryz.call264 (.cons (.dir Y) .nil) Y) (.f [1,2] ?_)));obtain⟨u,N,h⟩:=aA h;refine jJ (.t (eM [101,104000,104001] (Bv [(9000,101),(8950,104000),(8951,104001),(8910,105),(8911,106)]) (eO _) (fun A=>uM A N) Tryz.call265 (fun A=>(.box Y (.arr (.arr .nil Y) Y) Y))) (.f [1,2,5] ?_));refine aK [1,2,5,18] ?_;refine aT h Y (fun H h=>?_) (fun H h=>?_)
 ·refine aI (.k (bR rA (.cons (Z.sl aQ) (.cons (Z.sl gF) (.cons (Z.int .i64) .nil))) .nil) (.f [2,3] ?_));refine aH ?_;obtain rfl:=sM h;exact cB (σ':=⟨[(2,.ptr 90 0),(3,.v Q9 u.1)],[(90,.box 186 [.v Q5 ([]:lS),.v Q1 ([]:Q6),.v Q0 (0:Int)])]⟩) (aC [(90,102)]) (bS z dP Y (aV Y Y (.UO sO (.UO sO sO)) rU kX) (RV.tmp Y) .nil Y)
 refine aF ?_;refine dB [1,2,22,23,24] ?_;obtain⟨T,O,P,U⟩:=cL h;refine jM (σs:=fun C:Int×lS=>⟨[(1,.ptr 101 0),(2,.ptr 102 0),(22,.ref 106),(23,.v Q0 (u.2.2.1.length:Int)),(24,.v Q0 C.1)],[(101,.box 186 [.ref 105,.ref 106,.v Q0 u.2.2.2]),(102,.box 186 [.v Q5 ([]:lS),.v Q1 ([]:Q6),.v Q0 (0:Int)]),(106,.arr 214 gF u.2.2.1),(105,.arr 30 aQ C.2)]⟩) (fun B:lS=>⟨[(1,.ptr 101 0),(2,.ptr 102 0)],[(101,.box 186 [.ref 105,.ref 106,.v Q0 u.2.2.2]),(102,.box 186 [.v Q5 ([]:lS),.v Q1 ([]:Q6),.v Q0 (0:Int)]),(105,.arr 30 aQ B),(106,.arr 214 gF u.2.2.1)]⟩) O (aC []) ?_ ?_
 ·intro B F;have h:=P _ F;refine aI (.a 1 ?_);refine .t (tX 111 214 gF Y Y Y Y Hw Y) (.f [1,2] ?_);refine aI (.k (gZ Y Y Y rU kX) (.f [2,3] ?_));refine aH ?_;obtain rfl:=sM h;exact cB (σ':=⟨[(2,.ptr 90 0),(3,.v Q9 (none:Option Int))],[(90,.box 186 [.v Q5 B,.v Q1 ([]:Q6),.v Q0 u.2.2.2])]⟩) (aC [(90,102)]) (bS z dP Y (aV Y Y (.UO sO (.UO sO sO)) rU kX) (RV.tmp Y) .nil Y)
 intro C Q h;refine aK [1,2,22,23,24,25] ?_;refine aG ?_;refine aT h Y (fun I h=>?_) (fun I h=>?_)
 ·refine aF ?_;refine aG ?_;refine bT ?_;obtain⟨V,D,h⟩:=aA h;refine aI (.k (lX D Y Y Y xW jN) (.k (mB (dO D).2.2 Y Y .here Yp jN) (.k (aN 110 Eo Y (.cons (Z.int .i64) (.cons (Z.arr 8 (Z.int .u8)) .nil)) Y) (.t (bX Y Y Y Y (.UO sO sO) jN) (.f [1,2,7,22,23,24] ?_)))));obtain⟨X,E,h⟩:=aA h;refine eN (.a 6 ?_);refine .k (lX E Y Y Y Td nG) (.t (uQ (dO E).2.2 Y Y Y nG) (.f [1,2,22,23,24] ?_));refine bN ?_;refine dN [1,2,22,23,24] ?_;cases h;exact cF (aC [])
 cases h;exact dA (dJ (aC []))
theorem jS(A:Nat->Nat){VF VL r}(h:eQ VF VL=some r):
 UT Tryz.prog 207 [.ptr 9000 0] [(9000,.box 188 [.v Q0 VF,.v Q2 VL] (some (A 9000))),(9100,.box 74 [.ptr 9000 0] (some (A 9100)))] (.v Q9 r.1) [(9000,.box 188 [.v Q0 r.2.1,.v Q2 r.2.2] (some (A 9000))),(9100,.box 74 [.ptr 9000 0] (some (A 9100)))]:=by
 refine UT.of Tryz.func207 Y Tryz.ntmps207 Y ?_;intro S w R B;unfold eQ at h;refine aK [0] ?_;obtain⟨C,D,h⟩:=aA h;refine aI (.a 4 ?_);refine .k (aM (Nu D) Tryz.call248 (.cons (.dir Y) .nil)) ?_;refine .a 3 ?_;refine .k (aN 102 Ss Y (.cons (Z.sl aQ) (.cons (Z.sl gF) (.cons (Z.int .i64) .nil))) Y) (.t (bX Y Y Y Y (.UO sO (.UO sO sO)) kX) (.f [0,3,4] ?_));refine jJ (.a 1 ?_);refine .k (iM Oq Y) (.f [0,3,4,14] ?_);obtain⟨E,F,h⟩:=fE h;refine sZ (fun z:Cl=>⟨[(0,.ptr 9000 0),(4,.v Q9 C.2)],[(9000,.box 188 [.v Q0 VF,.v Q2 z] (some (A 9000))),(9100,.box 74 [.ptr 9000 0] (some (A 9100)))]⟩) (fun x=>E x=some r) Y ?_ ?_ ?_
 ·intro z h;rw[F] at h;refine aK [0,2] ?_;cases h;exact aH (eH B Y (RV.tmp Y) (.cons Y (.cons Y .nil)))
 ·intro u;replace h:=iK u h;refine eN (.a 1 ?_);refine .k (aS Y Y (.UO sO (.UO sO sO)) rU kX) (.f [0,4] ?_);exact cC h (aC [])
 ·intro u;replace h:=iL u h;refine aF ?_;exact cC h (aC [])
theorem xX(A:Nat->Nat){a1 V6 bq r}(h:iO a1 V6 bq=some r):
 UT Tryz.prog 249 [.ptr 9100 0,.XA (Wr.int .u8) a1] [(9000,.box 188 [.v Q0 V6,.v Q2 bq] (some (A 9000))),(9100,.box 74 [.ptr 9000 0] (some (A 9100)))] (.v Q9 r.1) [(9000,.box 188 [.v Q0 r.2.1,.v Q2 r.2.2] (some (A 9000))),(9100,.box 74 [.ptr 9000 0] (some (A 9100)))]:=by
 refine UT.of Tryz.func249 Y Tryz.ntmps249 Y ?_;intro S w R u;unfold iO at h;refine aK [0,1] ?_;refine aG ?_;obtain⟨B,z,h⟩:=aA h;refine eK 8 mixed (by exact(.k (aJ Y Y Y Nn Hv) (.k (aJ Y Y Y Nn Hv) (.k (aL Y) (.k (aB 0 Y vX Y S3 Y Y) (.k (aJ Y Y Y G3 S3) (.k (cT Y Y Y) (.k (bO Y G5 S5) (.k (Mb (e:=(Wr.int .u8)) (zv:=(0:Int)) Hu xJ I5 Y Y (Z.arr 8 (Z.int .u8)) Y Y (.cons (.dir Y) .nil)) .nil))))))))) (by exact(J.t (eM [9000] (Bv [(9000,9000)]) (eO _) (fun A=>iH A z) IY (fun A=>(.box Y .nil Y))) (jz [0,2]))) ?_;cases h;exact aH (eH u Y (RV.tmp Y) (.cons Y (.cons Y .nil)))
theorem yY(A:Nat->Nat){q n0 n1 r}(h:kT q n0 n1=some r):
 UY Tryz.prog [(9000,A 9000),(9100,A 9100)] (iC (A 9000) (A 9100)) q [(9000,.box 188 [.v Q0 n0,.v Q2 n1] (some (A 9000))),(9100,.box 74 [.ptr 9000 0] (some (A 9100)))] (.v Q9 r.1) [(9000,.box 188 [.v Q0 r.2.1,.v Q2 r.2.2] (some (A 9000))),(9100,.box 74 [.ptr 9000 0] (some (A 9100)))]:=by
 unfold kT at h;rcases q with z | z
 ·exact(UY.l (UY.I8 .nil (.pr (.e9 (i:=9100) (by simp)) .pt) Tryz.call249 (xX A h)))
 ·exact(UY.r (UY.I8 (.e9 (i:=9000) (by simp)) .nil NC (jS A h)))
theorem tT(A:Nat->Nat){a0 WQ ZM r}(h:gG a0 WQ ZM=some r):
 UT Tryz.prog 205 [.v (Wr.sl (iC (A 9000) (A 9100))) a0] [(9000,.box 188 [.v Q0 WQ,.v Q2 ZM] (some (A 9000))),(9100,.box 74 [.ptr 9000 0] (some (A 9100)))] (.v Q9 r.1) [(9000,.box 188 [.v Q0 r.2.1,.v Q2 r.2.2] (some (A 9000))),(9100,.box 74 [.ptr 9000 0] (some (A 9100)))]:=by
 refine UT.of Tryz.func205 Y Tryz.ntmps205 Y ?_;intro S w R B;unfold gG at h;refine aK [0] ?_;refine dB [6,7,8] ?_;obtain⟨P,I,L,M⟩:=cL h;refine jM (σs:=fun u:Int×Int×Cl=>⟨[(6,.v (Wr.sl (iC (A 9000) (A 9100))) a0),(7,.v Q0 (a0.length:Int)),(8,.v Q0 u.1)],[(9000,.box 188 [.v Q0 u.2.1,.v Q2 u.2.2] (some (A 9000))),(9100,.box 74 [.ptr 9000 0] (some (A 9100)))]⟩) (fun z:Int×Cl=>⟨[],[(9000,.box 188 [.v Q0 z.1,.v Q2 z.2] (some (A 9000))),(9100,.box 74 [.ptr 9000 0] (some (A 9100)))]⟩) I (aC []) ?_ ?_
 ·intro z C;have h:=L _ C;refine aK [2] ?_;cases h;exact aH (eH B Y (RV.tmp Y) (.cons Y (.cons Y .nil)))
 intro u O h;refine aK [6,7,8,9] ?_;refine aG ?_;refine aT h Y (fun D h=>?_) (fun D h=>?_)
 ·refine aF ?_;refine aG ?_;refine bT ?_;obtain⟨Q,T,h⟩:=aA h;refine aK [4,6,7,8] ?_;obtain⟨U,N,h⟩:=aA h;refine aI (.a 1 ?_);refine .t (Mf (H:=[9000,9100]) (K:=[9000,9100]) [(9000,A 9000),(9100,A 9100)] (Bv [(9000,9000),(9100,9100)]) (eO _) Y ⟨⟨_,_,Y⟩,⟨_,_,Y⟩,trivial⟩ (UY.at2 (e:=iC) (A 9000) (A 9100) (fun E=>yY E N)) (fun _=> .box Y (.box Y .nil)) (fun _=> .box Y (.box Y .nil Y) Y) (fun _=>rfl) Y Y (fun _=>rfl) Y Y) (.f [5,6,7,8] ?_);refine aK [5,6,7,8,15] ?_;refine aT h Y (fun F h=>?_) (fun F h=>?_)
  ·refine aK [2] ?_;refine aH ?_;refine eV ?_;cases h;refine hX fun G=>?_;obtain rfl:=M _ G;exact eH B Y (RV.tmp Y) (.cons Y (.cons Y .nil))
  refine aF ?_;refine bN ?_;refine dN [6,7,8] ?_;cases h;exact cF (aC [])
 cases h;exact dA (dJ (aC []))
theorem oJ(A:Nat->Nat){VF VL a1 r}(h:fR VF VL a1=some r):
 UT Tryz.prog 209 [.ptr 9000 0,.v (Wr.int .u8) a1] [(9000,.box 188 [.v Q0 VF,.v Q2 VL] (some (A 9000)))] (.v Q9 r.1) [(9000,.box 188 [.v Q0 r.2.1,.v Q2 r.2.2] (some (A 9000)))]:=by
 refine UT.of Tryz.func209 Y Tryz.ntmps209 Y ?_;intro S w R z;unfold fR at h;refine aI (.k (Ip 101 Y Y) (.k (cK 102 Y sO Y) (.f [0,2,3] ?_)));refine Zx (i:=101) Y fun u=>?_;refine wB (σ':=⟨[(0,.ptr 9000 0),(2,.ptr 101 0),(3,.ptr 102 0)],[(9000,.box 188 [.v Q0 VF,.v Q2 VL] (some (A 9000))),(101,.box 74 [.ptr 9000 0] (some (u))),(102,.box 5 [.v (Wr.int .u8) a1])]⟩) (aC []) ?_;obtain⟨F,E,h⟩:=aA h;refine aI (.sub (σ':=⟨[(0,.ptr 9000 0),(2,.ptr 101 0),(3,.XA (Wr.int .u8) a1)],[(9000,.box 188 [.v Q0 VF,.v Q2 VL] (some (A 9000))),(101,.box 74 [.ptr 9000 0] (some (u)))]⟩) (Sw.Sub.mk id (.cons Y (.of_eq Y) (.cons Y (.of_eq Y) (.cons Y (.D3 Y Y (.cons (.of_eq Y) .nil) sO) .nil))) (.box Y (.cons (.of_eq Y) (.cons (.of_eq Y) .nil)) (.box Y (.cons (.of_eq Y) .nil) .nil)) Y) (.k (nW .nil (.cons (.e9 Y Y) (.XA Y)) (.l .self)) (.k (aJ Y Y Y Nn Hv) (.k (nW (.e9 Y Y) .nil (.r .self)) (.k (dI (e:=(iC (A 9000) (u))) Wj OE SH Y Y Y Y (.cons (.dir Y) (.cons (.dir Y) .nil))) (.t (Iq (H:=[9000,101]) (K:=[9000,101]) [(9000,A 9000),(9100,u)] (Bv [(9000,9000),(9100,101)]) (eO _) ⟨⟨_,_,Y⟩,⟨_,_,Y⟩,trivial⟩ (UT.at2 (ss:=fun B C=>[.v (Wr.sl (iC B C)) ([(.inl ((),((),a1)):dF),(.inr ((),()):dF)]:(List dF))]) (A 9000) u (fun D=>tT D E)) Tryz.call205 (.cons (.dir Y) .nil) (fun _=> .box Y (.box Y .nil)) (fun _=> .box Y (.box Y .nil Y) Y) (fun _=>rfl) Y Y (fun _=>rfl) Y Y) (.f [0,4] ?_)))))));cases h;exact aH (eH z Y (RV.tmp Y) (.cons Y .nil))
theorem wQ(A:Nat->Nat){WQ ZM r}(h:lZ WQ ZM=some r):
 UT Tryz.prog 208 [.ptr 9100 0] [(9000,.box 188 [.v Q0 WQ,.v Q2 ZM] (some (A 9000))),(9100,.box 74 [.ptr 9000 0] (some (A 9100)))] (.v Q9 r.1) [(9000,.box 188 [.v Q0 r.2.1,.v Q2 r.2.2] (some (A 9000))),(9100,.box 74 [.ptr 9000 0] (some (A 9100)))]:=by
 refine UT.of Tryz.func208 Y Tryz.ntmps208 Y ?_;intro S w R u;unfold lZ at h;refine aK [0] ?_;obtain⟨B,z,h⟩:=aA h;refine aI (.a 1 ?_);refine .t (eM [9000] (Bv [(9000,9000)]) (eO _) (fun A=>oJ A z) Tryz.call209 (fun A=>(.box Y .nil Y))) (.f [0,1] ?_);cases h;exact aH (eH u Y (RV.tmp Y) (.cons Y (.cons Y .nil)))
theorem xK(A:Nat->Nat){q n0 n1 r}(h:nC q n0 n1=some r):
 UY Tryz.prog [(9000,A 9000),(9100,A 9100)] (gC (A 9000) (A 9100)) q [(9000,.box 188 [.v Q0 n0,.v Q2 n1] (some (A 9000))),(9100,.box 74 [.ptr 9000 0] (some (A 9100)))] (.v Q9 r.1) [(9000,.box 188 [.v Q0 r.2.1,.v Q2 r.2.2] (some (A 9000))),(9100,.box 74 [.ptr 9000 0] (some (A 9100)))]:=by
 unfold nC at h;rcases q with z | z | z
 ·exact(UY.l (UY.I8 (.e9 (i:=9000) (by simp)) .nil Tryz.call206 (sQ A h)))
 ·exact(UY.r (UY.l (UY.I8 (.e9 (i:=9000) (by simp)) .nil NC (jS A h))))
 ·exact(UY.r (UY.r (UY.I8 .nil (.e9 (i:=9100) (by simp)) Tryz.call208 (wQ A h))))
theorem sR(A:Nat->Nat){a0 WQ ZM r}(h:iS a0 WQ ZM=some r):
 UT Tryz.prog 205 [.v (Wr.sl (gC (A 9000) (A 9100))) a0] [(9000,.box 188 [.v Q0 WQ,.v Q2 ZM] (some (A 9000))),(9100,.box 74 [.ptr 9000 0] (some (A 9100)))] (.v Q9 r.1) [(9000,.box 188 [.v Q0 r.2.1,.v Q2 r.2.2] (some (A 9000))),(9100,.box 74 [.ptr 9000 0] (some (A 9100)))]:=by
 refine UT.of Tryz.func205 Y Tryz.ntmps205 Y ?_;intro S w R B;unfold iS at h;refine aK [0] ?_;refine dB [6,7,8] ?_;obtain⟨P,I,L,M⟩:=cL h;refine jM (σs:=fun u:Int×Int×Cl=>⟨[(6,.v (Wr.sl (gC (A 9000) (A 9100))) a0),(7,.v Q0 (a0.length:Int)),(8,.v Q0 u.1)],[(9000,.box 188 [.v Q0 u.2.1,.v Q2 u.2.2] (some (A 9000))),(9100,.box 74 [.ptr 9000 0] (some (A 9100)))]⟩) (fun z:Int×Cl=>⟨[],[(9000,.box 188 [.v Q0 z.1,.v Q2 z.2] (some (A 9000))),(9100,.box 74 [.ptr 9000 0] (some (A 9100)))]⟩) I (aC []) ?_ ?_
 ·intro z C;have h:=L _ C;refine aK [2] ?_;cases h;exact aH (eH B Y (RV.tmp Y) (.cons Y (.cons Y .nil)))
 intro u O h;refine aK [6,7,8,9] ?_;refine aG ?_;refine aT h Y (fun D h=>?_) (fun D h=>?_)
 ·refine aF ?_;refine aG ?_;refine bT ?_;obtain⟨Q,T,h⟩:=aA h;refine aK [4,6,7,8] ?_;obtain⟨U,N,h⟩:=aA h;refine aI (.a 1 ?_);refine .t (Mf (H:=[9000,9100]) (K:=[9000,9100]) [(9000,A 9000),(9100,A 9100)] (Bv [(9000,9000),(9100,9100)]) (eO _) Y ⟨⟨_,_,Y⟩,⟨_,_,Y⟩,trivial⟩ (UY.at2 (e:=gC) (A 9000) (A 9100) (fun E=>xK E N)) (fun _=> .box Y (.box Y .nil)) (fun _=> .box Y (.box Y .nil Y) Y) (fun _=>rfl) Y Y (fun _=>rfl) Y Y) (.f [5,6,7,8] ?_);refine aK [5,6,7,8,15] ?_;refine aT h Y (fun F h=>?_) (fun F h=>?_)
  ·refine aK [2] ?_;refine aH ?_;refine eV ?_;cases h;refine hX fun G=>?_;obtain rfl:=M _ G;exact eH B Y (RV.tmp Y) (.cons Y (.cons Y .nil))
  refine aF ?_;refine bN ?_;refine dN [6,7,8] ?_;cases h;exact cF (aC [])
 cases h;exact dA (dJ (aC []))
theorem xY(A:Nat->Nat){VF VL r}(h:iP VF VL=some r):
 UT Tryz.prog 161 [.ptr 9000 0] [(9000,.box 188 [.v Q0 VF,.v Q2 VL] (some (A 9000)))] (.v Q9 r.1) [(9000,.box 188 [.v Q0 r.2.1,.v Q2 r.2.2] (some (A 9000)))]:=by
 refine UT.of Tryz.func161 Y Tryz.ntmps161 Y ?_;intro S w R C;unfold iP at h;refine aI (.k (Ip 101 Y Y) (.f [0,1] ?_));refine Zx (i:=101) Y fun z=>?_;refine wB (σ':=⟨[(0,.ptr 9000 0),(1,.ptr 101 0)],[(9000,.box 188 [.v Q0 VF,.v Q2 VL] (some (A 9000))),(101,.box 74 [.ptr 9000 0] (some (z)))]⟩) (aC []) ?_;refine aG ?_;obtain⟨L,M,h⟩:=aA h;refine eK 16 mixed (by exact(.k (aJ Y Y Y Nn Hv) (.k (aL Y) (.k (aB 1 Y vX Y kX Y Y) (.k (aJ Y Y Y rU kX) (.k (aJ Y Y Y Nn Hv) (.k (aL Y) (.k (aB 0 Y vX Y S3 Y Y) (.k (aJ Y Y Y G3 S3) (.k (cT Y Y Y) (.k (aM (qD M) DW (.cons (.dir Y) (.cons (.dir Y) .nil))) (.k (aD Y) (.k (bW Y Y) (.k (bW Y Y) (.k (aN 103 By Y (.cons (Z.arr 8 (Z.int .u8)) .nil) Y) (WZ.store (.none Y) Y Y Y Y Y Y Y nG (.k (bP Y) .nil))))))))))))))))) (by exact(J.kp [0,1,3,4] [])) ?_;refine aG ?_;refine aG ?_;obtain⟨N,u,h⟩:=aA h;refine eG (σ':=⟨[(0,.ptr 9000 0),(1,.ptr 101 0),(4,.v Q9 L.2),(24,.v Wr.bool N)],[(9000,.box 188 [.v Q0 VF,.v Q2 VL] (some (A 9000))),(101,.box 74 [.ptr 9000 0] (some (z)))]⟩) ?_ ?_
 ·refine cd u (fun B u=>?_) (fun B u=>?_)
  ·cases u;exact jy
  obtain⟨P,D,u⟩:=aA u;cases u;refine ja 3 ?_;exact(J.g B (rD D Y Y Y Y xJ S5) (J.g B (uR (dO D).2.2 Y Y Y G5 S5) jy))
 refine aT h Y (fun E h=>?_) (fun E h=>?_)
 ·refine aK [0,2] ?_;cases h;exact aH (eH C Y (RV.tmp Y) (.cons Y .nil))
 refine aF ?_;obtain⟨Q,O,h⟩:=aA h;refine aI (.a 1 ?_);refine .k (nW (.e9 Y Y) .nil (.l .self)) (.k (aJ Y Y Y Nn Hv) (.k (nW (.e9 Y Y) .nil (.r (.l .self))) (.k (nW .nil (.e9 Y Y) (.r (.r .self))) (.k (dI (e:=(gC (A 9000) (z))) Wj OE SH Y Y Y Y (.cons (.dir Y) (.cons (.dir Y) (.cons (.dir Y) .nil)))) (.t (Iq (H:=[9000,101]) (K:=[9000,101]) [(9000,A 9000),(9100,z)] (Bv [(9000,9000),(9100,101)]) (eO _) ⟨⟨_,_,Y⟩,⟨_,_,Y⟩,trivial⟩ (UT.at2 (ss:=fun F G=>[.v (Wr.sl (gC F G)) ([(.inl ((),()):dD),(.inr (.inl ((),())):dD),(.inr (.inr ((),())):dD)]:(List dD))]) (A 9000) z (fun I=>sR I O)) Tryz.call205 (.cons (.dir Y) .nil) (fun _=> .box Y (.box Y .nil)) (fun _=> .box Y (.box Y .nil Y) Y) (fun _=>rfl) Y Y (fun _=>rfl) Y Y) (.f [0,2] ?_))))));cases h;exact aH (eH C Y (RV.tmp Y) (.cons Y .nil))
def xL(r:Tc×(Option Int)):Slot:=match r.1 with | none=> .VO [.v (Wr.B3 (Wr.pr Q0 Q2)) (none:Tc),.v Q9 r.2] | some z=> .VO [.ptr 0 0,.v Q9 r.2]
def xM(r:Tc×(Option Int)):List (Nat×UU):=match r.1 with | none=>[] | some z=>[(0,.box 188 [.v Q0 z.1,.v Q2 z.2])]
theorem Di{a0 a1 r}(h:mQ a0 a1=some r):
 VG Tryz.prog 101 [.v Q2 a0,.v Q0 a1] (xL r) (xM r):=by
 refine VG.of Tryz.func101 Y Tryz.ntmps101 Y ?_;intro S w z;unfold mQ at h;refine aI (.k (cK 101 Y (.UO sO (.UO sO sO)) Y) (.k (kS (Wr.pr Q0 Q2)) (.f [1,2] ?_)));obtain⟨M,G,h⟩:=aA h;refine aI (.a 1 ?_);refine .k (aM (Dg G) Tryz.call158 (.cons (.dir Y) .nil)) (.f [1,2,6,7] ?_);refine dB [1,2,6,7,17] ?_;refine aT h Y (fun B h=>?_) (fun B h=>?_)
 ·refine aI (.a 1 ?_);refine .k (kS (Wr.pr Q0 Q2)) (.f [4,5] ?_);cases h;exact aH (bS z dP Y (RV.tmp Y) (RV.tmp Y) .nil Y)
 refine aF ?_;obtain⟨N,H,h⟩:=aA h;refine jJ (.k (aS Y Y (.UO sO (.UO sO sO)) rU kX) (.k (aM (uH H) NB (.cons (.dir Y) .nil)) (.f [1,2,6,8] ?_)));refine aG ?_;obtain⟨I,u,h⟩:=aA h;refine eG (σ':=⟨[(1,.v Q0 a1),(2,.ptr 101 0),(35,.v Wr.bool I)],[(101,.box 186 [.v Q5 a0.1,.v Q1 a0.2.1,.v Q0 a0.2.2])]⟩) ?_ ?_
 ·refine cd u (fun C u=>?_) (fun C u=>?_)
  ·cases u;exact jy
  refine cd u (fun D u=>?_) (fun D u=>?_)
  ·cases u;exact jy
  cases u;exact jy
 refine aT h Y (fun E h=>?_) (fun E h=>?_)
 ·refine aI (.a 1 ?_);refine .k (kS (Wr.pr Q0 Q2)) (.f [4,5] ?_);cases h;exact aH (bS z dP Y (RV.tmp Y) (RV.tmp Y) .nil Y)
 refine aF ?_;refine aG ?_;obtain⟨O,K,h⟩:=aA h;refine eK 10 mixed (by exact(.k (aD Y) (.k (aB 0 Y Kl Y Kd Y Y) (.k (aJ Y Y Y JB Kd) (.k (Zq (fY 105000 (cO K) Yo (.cons (.dir Y) .nil) Y) (fun _=>(Sw.Sub.mk id (.cons Y (.db Y Y) .nil) .nil Y)) Y) (.k (aB 2 Y Kl Y S3 Y Y) (.k (aJ Y Y Y G3 S3) (.k (bR rA (.cons (Z.sl aQ) (.cons (Z.sl gF) (.cons (Z.int .i64) .nil))) (.cons Y (.dir Y) Y Y Y Y (.cons Y (.dir Y) Y Y Y Y .nil))) (.k (bR JG (.cons (Z.int .i64) (.cons (Z.pr (Z.sl aQ) (Z.pr (Z.sl gF) (Z.int .i64))) .nil)) (.cons Y (.dir Y) Y Y Y Y (.cons Y (.agg Y (.same (.same (.same .nil))) (.UO sO (.UO sO sO)) Y) Y Y Y Y .nil))) (.k (Dr 106 Y Y) (.k (bP Y) .nil))))))))))) (by exact(J.kp [9] [])) ?_;obtain⟨P,L,h⟩:=aA h;refine jJ (.a 1 ?_);refine .t (eM [106] (Bv [(9000,106)]) (eO _) (fun A=>xY A L) Tryz.call161 (fun A=>(.box Y .nil Y))) (.f [9,10] ?_);refine aK [9,10,49] ?_;refine aT h Y (fun F h=>?_) (fun F h=>?_)
 ·refine aI (.a 1 ?_);refine .k (kS (Wr.pr Q0 Q2)) (.f [4,5] ?_);cases h;exact aH (bS z dP Y (RV.tmp Y) (RV.tmp Y) .nil Y)
 refine aF ?_;refine aK [4,5] ?_;cases h;exact aH (wE z dP Y (aC [(0,106)]))
theorem zY{a0:Cl}{a1:Int}{r:Tc×(Option Int)}(hz:r.1=none)(h:mQ a0 a1=some r):VG Tryz.prog 101 [.v Q2 a0,.v Q0 a1] (.VO [.v (Wr.B3 (Wr.pr Q0 Q2)) (none:Tc),.v Q9 r.2]) []:=by
 have:=Di h;unfold xL xM at this;rw[hz] at this;exact this
theorem zZ{a0:Cl}{a1:Int}{r:Tc×(Option Int)}{z:(Int×Cl)}(hz:r.1=some z)(h:mQ a0 a1=some r):VG Tryz.prog 101 [.v Q2 a0,.v Q0 a1] (.VO [.ptr 0 0,.v Q9 r.2]) [(0,.box 188 [.v Q0 z.1,.v Q2 z.2])]:=by
 have:=Di h;unfold xL xM at this;rw[hz] at this;exact this
def uU(r:Tc×(Option Int)):Slot:=match r.1 with | none=> .VO [.v (Wr.B3 (Wr.pr Q0 Q2)) (none:Tc),.v Q9 r.2] | some z=> .VO [.ptr 0 0,.v Q9 r.2]
def uV(r:Tc×(Option Int)):List (Nat×UU):=match r.1 with | none=>[] | some z=>[(0,.box 188 [.v Q0 z.1,.v Q2 z.2])]
theorem Aa{a0 r}(h:iX a0=some r):
 VG Tryz.prog 69 [.v Q0 a0] (uU r) (uV r):=by
 refine VG.of Tryz.func69 Y Tryz.ntmps69 Y ?_;intro S w u;unfold iX at h;refine aI (.k (kS (Wr.pr Q0 Q2)) (.f [0] ?_));obtain⟨D,B,h⟩:=aA h;refine aI (.a 1 ?_);refine .k (aM (Je B) Tryz.call100 (.cons (.dir Y) .nil)) ?_;refine .a 3 ?_;refine .k (aN 102 Ss Y (.cons (Z.sl aQ) (.cons (Z.sl gF) (.cons (Z.int .i64) .nil))) Y) (.t (bX Y Y Y Y (.UO sO (.UO sO sO)) kX) (.f [0,4,5] ?_));refine dB [0,4,5,12] ?_;refine aT h Y (fun A h=>?_) (fun A h=>?_)
 ·refine aI (.a 1 ?_);refine .k (kS (Wr.pr Q0 Q2)) (.f [2,3] ?_);cases h;exact aH (bS u dP Y (RV.tmp Y) (RV.tmp Y) .nil Y)
 refine aF ?_;refine aG ?_;obtain⟨C,z,h⟩:=aA h;rcases pv:C.1 with _ | E
 ·replace h:=wI pv h;refine eN (.k (aS Y Y (.UO sO (.UO sO sO)) rU kX) ?_);refine .a 1 ?_;refine .k (aM (zY pv z) MW (.cons (.dir Y) (.cons (.dir Y) .nil))) (.f [2,3] ?_);cases h;exact aH (bS u dP Y (RV.tmp Y) (RV.tmp Y) .nil Y)
 ·replace h:=wJ pv h;refine eN (.k (aS Y Y (.UO sO (.UO sO sO)) rU kX) ?_);refine .a 1 ?_;refine .k (fY 104000 (zZ pv z) MW (.cons (.dir Y) (.cons (.dir Y) .nil)) Y) (.f [2,3] ?_);cases h;exact aH (wE u dP Y (aC [(0,104000)]))
theorem tC{a0:Int}{r:Tc×(Option Int)}(hz:r.1=none)(h:iX a0=some r):VG Tryz.prog 69 [.v Q0 a0] (.VO [.v (Wr.B3 (Wr.pr Q0 Q2)) (none:Tc),.v Q9 r.2]) []:=by
 have:=Aa h;unfold uU uV at this;rw[hz] at this;exact this
theorem tD{a0:Int}{r:Tc×(Option Int)}{z:(Int×Cl)}(hz:r.1=some z)(h:iX a0=some r):VG Tryz.prog 69 [.v Q0 a0] (.VO [.ptr 0 0,.v Q9 r.2]) [(0,.box 188 [.v Q0 z.1,.v Q2 z.2])]:=by
 have:=Aa h;unfold uU uV at this;rw[hz] at this;exact this
theorem oM{a0 r}(h:fS a0=some r):
 VG Tryz.prog 162 [.XA (Wr.pr Q0 Q2) a0] (.VO [.v Q0 r.1,.v Q0 r.2.1,.v Q9 r.2.2]) []:=by
 refine VG.of Tryz.func162 Y Tryz.ntmps162 Y ?_;intro S w z;unfold fS at h;refine aK [0] ?_;refine aG ?_;obtain⟨u,C,h⟩:=aA h;refine eK 15 mixed (by exact(.k (aD Y) (.k (tH Y) (.k (cG Y vX Y kX Y (.snd .here) Y) (.k (bO Y rU kX) (.k (aD Y) (.k (tH Y) (.k (cG Y vX Y S3 Y (.fst .here) Y) (.k (bO Y G3 S3) (.k (aM (qD C) DW (.cons (.dir Y) (.cons (.dir Y) .nil))) (.k (aD Y) (.k (bW Y Y) (.k (bW Y Y) (.k (aN 102 By Y (.cons (Z.arr 8 (Z.int .u8)) .nil) Y) (WZ.store (.none Y) Y Y Y Y Y Y Y nG (.k (bP Y) .nil)))))))))))))))) (by exact(J.kp [4,5] [])) ?_;refine dB [4,5,19] ?_;refine aT h Y (fun B h=>?_) (fun B h=>?_)
 ·refine aK [2,3,4] ?_;cases h;exact aH (wG z dP Y (RV.tmp Y) (RV.tmp Y) (RV.tmp Y) .nil Y)
 refine aF ?_;refine aG ?_;refine wB (σ':=⟨[(4,.v Q9 u.2),(5,.XA aQ u.1),(19,.v Wr.bool (Option.isSome u.2))],[]⟩) (Sw.Sub.mk id (.cons Y (.of_eq Y) (.cons Y (.D3 Y Y (.cons (.of_eq Y) .nil) sO) (.cons Y (.of_eq Y) .nil))) .nil Y) ?_;obtain⟨I,D,h⟩:=aA h;obtain⟨K,A,h⟩:=aA h;obtain⟨L,E,h⟩:=aA h;obtain⟨M,F,h⟩:=aA h;obtain⟨N,G,h⟩:=aA h;obtain⟨O,H,h⟩:=aA h;refine eK 11 mixed (by exact(.k (bO Y vT nG) (.k (aM (sW D) ND (.cons (.dir Y) .nil)) (.k (Xk A Y Y Y xJ S5) (.k (Pq E Y Y Y xJ S5) (.k (Kv F (Zy A) Y (.sl Y) tB I5 S5 Y Y Y) (.k (Du G Y xJ) (.k (bO Y vT nG) (.k (aM (sW H) ND (.cons (.dir Y) .nil)) (.k (bP Y) (.k (bP Y) (.k (yV ET) .nil)))))))))))) (by exact(J.kp [2,3,4] [])) ?_;cases h;exact aH (wG z dP Y (RV.tmp Y) (RV.tmp Y) (RV.tmp Y) .nil Y)
theorem yZ{a0 a1 r}(h:iY a0 a1=some r):
 VG Tryz.prog 211 [.v gF a0,.XA (Wr.B3 (Wr.pr Q0 Q2)) a1] (.v Wr.bool r) []:=by
 refine VG.of Tryz.func211 Y Tryz.ntmps211 Y ?_;intro S w B;unfold iY at h;refine aI (.k (cK 101 Y (.UO sO sO) Y) (.f [1,2] ?_));refine aG ?_;obtain⟨C,z,h⟩:=aA h;refine Kf (σ':=⟨[(3,.v Wr.bool C)],[]⟩) ?_ ?_
 ·intro A;refine cd z (fun u z=>?_) (fun u z=>?_)
  ·cases z;exact vK 13 mixed A
  obtain⟨E,D,z⟩:=aA z;cases z;exact eK 13 mixed (by exact(.k (aB 0 Y No Y S3 Y Y) (.k (aJ Y Y Y G3 S3) (.k (nB Y Y Y) (.k (aD Y) (.g u (aB 0 Y No Y S3 Y Y) (.g u (aJ Y Y Y G3 S3) (.g u (bO Y Nn Hv) (.g u (Io D Y) (.g u (cG Y vX Y S3 Y (.fst .here) Y) (.g u (bO Y G3 S3) (.g u (nB Y Y Y) (.k (zL u Y Y) (.k (bP Y) .nil)))))))))))))) (by exact(J.fin (aC []))) A
 cases h;exact aH (aY B dP Y (RV.tmp Y) .nil Y)
theorem jO{a0 WQ r}(h:cQ a0 WQ=some r):
 VG Tryz.prog 247 [.v Q1 a0,.YV 211 [.XA (Wr.B3 (Wr.pr Q0 Q2)) WQ]] (.v Q0 r) []:=by
 refine VG.of Tryz.func247 Y Tryz.ntmps247 Y ?_;intro S w u;unfold cQ at h;refine aK [0,1] ?_;refine dB [0,1,7,8] ?_;obtain⟨L,F,G,H⟩:=cL h;refine jM (σs:=fun z:Int=>⟨[(0,.v Q1 a0),(1,.YV 211 [.XA (Wr.B3 (Wr.pr Q0 Q2)) WQ]),(7,.v Q0 (a0.length:Int)),(8,.v Q0 z)],[]⟩) (fun A:Unit=>⟨[],[]⟩) F (aC []) ?_ ?_
 ·intro A B;have h:=G _ B;refine aK [4] ?_;cases h;exact aH (aY u dP Y (RV.tmp Y) .nil Y)
 intro z K h;refine aK [0,1,7,8,9] ?_;refine aG ?_;refine aT h Y (fun C h=>?_) (fun C h=>?_)
 ·refine aF ?_;refine aG ?_;refine bT ?_;refine aK [0,1,5,7,8] ?_;obtain⟨M,N,h⟩:=aA h;obtain⟨O,I,h⟩:=aA h;refine aI (.a 5 ?_);refine .k (tI Y (yZ I) Tryz.call211 (.cons (.dir Y) .nil)) (.f [0,1,5,7,8,16] ?_);refine aT h Y (fun D h=>?_) (fun D h=>?_)
  ·refine aK [4] ?_;refine aH ?_;refine eV ?_;cases h;refine hX fun E=>?_;obtain rfl:=H _ E;exact aY u dP Y (RV.tmp Y) .nil Y
  refine aF ?_;refine bN ?_;refine dN [0,1,7,8] ?_;cases h;exact cF (aC [])
 cases h;exact dA (dJ (aC []))
theorem jG{a0 WQ r}(h:bZ a0 WQ=some r):
 VG Tryz.prog 203 [.v Q1 a0,.YV 211 [.XA (Wr.B3 (Wr.pr Q0 Q2)) WQ]] (.v Wr.bool r) []:=by
 refine VG.of Tryz.func203 Y Tryz.ntmps203 Y ?_;intro S w u;unfold bZ at h;refine aK [0,1] ?_;obtain⟨A,z,h⟩:=aA h;refine aI (.a 2 ?_);refine .k (aM (jO z) Tryz.call247 (.cons (.dir Y) (.cons (.dir Y) .nil))) (.f [4] ?_);cases h;exact aH (aY u dP Y (RV.tmp Y) .nil Y)
theorem rV{a0 r}(h:jV a0=some r):
 VG Tryz.prog 212 [.v Q0 a0] (.v aQ r) []:=by
 refine VG.of Tryz.func212 Y Tryz.ntmps212 Y ?_;intro S w u;unfold jV at h;refine aI (.k (aN 101 By Y (.cons (Z.arr 8 (Z.int .u8)) .nil) Y) (.f [0,2] ?_));refine aI (.a 1 ?_);refine .k (eY (.inr Y) (by decide) Y Y) ?_;refine .a 2 ?_;refine .k (eY (.inr Y) (by decide) Y Y) ?_;refine .a 2 ?_;refine .k (eY (.inr Y) (by decide) Y Y) ?_;refine .a 3 ?_;refine .k (Mb (e:=(Wr.int .u8)) (zv:=(0:Int)) Hu xJ I5 Y Y (Z.arr 8 (Z.int .u8)) Y Y (.cons (.dir Y) (.cons (.dir Y) (.cons (.dir Y) (.cons (.dir Y) .nil))))) (.f [2] ?_);refine aH ?_;obtain rfl:=sM h;exact cB (σ':=⟨[(2,.ptr 90 0)],[(90,.box 30 [.v aQ ([(IntKind.wrap .u8 (sh .shr .i64 a0 (24:Int))),(IntKind.wrap .u8 (sh .shr .i64 a0 (16:Int))),(IntKind.wrap .u8 (sh .shr .i64 a0 (8:Int))),(IntKind.wrap .u8 a0)]++List.replicate 4 (0:Int):aR)])]⟩) (aC [(90,101)]) (aY u dP Y (dG Y Y Y vT nG) .nil Y)
theorem wR(A:Nat->Nat){a1 V6 bq r}(h:gS a1 V6 bq=some r):
 UT Tryz.prog 214 [.ptr 9100 0,.XA Q1 a1] [(9000,.box 188 [.v Q0 V6,.v Q2 bq] (some (A 9000))),(9100,.box 74 [.ptr 9000 0] (some (A 9100)))] (.v Q9 r.1) [(9000,.box 188 [.v Q0 r.2.1,.v Q2 r.2.2] (some (A 9000))),(9100,.box 74 [.ptr 9000 0] (some (A 9100)))]:=by
 refine UT.of Tryz.func214 Y Tryz.ntmps214 Y ?_;intro S w R u;unfold gS at h;refine aK [0,1] ?_;refine aG ?_;obtain⟨C,z,h⟩:=aA h;obtain⟨D,B,h⟩:=aA h;refine eK 9 mixed (by exact(.k (aJ Y Y Y Nn Hv) (.k (aJ Y Y Y Nn Hv) (.k (aL Y) (.k (aB 0 Y vX Y S3 Y Y) (.k (aJ Y Y Y G3 S3) (.k (cT Y Y Y) (.k (bO Y EH Hw) (.k (sA Y xW) (.k (aM (rV z) NF (.cons (.dir Y) .nil)) .nil)))))))))) (by exact(J.t (eM [9000] (Bv [(9000,9000)]) (eO _) (fun A=>iH A B) IY (fun A=>(.box Y .nil Y))) (jz [0,2]))) ?_;cases h;exact aH (eH u Y (RV.tmp Y) (.cons Y (.cons Y .nil)))
theorem wS(A:Nat->Nat){a1 a2 V5 bp r}(h:gT a1 a2 V5 bp=some r):
 UT Tryz.prog 216 [.ptr 9100 0,.XA Q0 a1,.XA gF a2] [(9000,.box 188 [.v Q0 V5,.v Q2 bp] (some (A 9000))),(9100,.box 74 [.ptr 9000 0] (some (A 9100)))] (.v Q9 r.1) [(9000,.box 188 [.v Q0 r.2.1,.v Q2 r.2.2] (some (A 9000))),(9100,.box 74 [.ptr 9000 0] (some (A 9100)))]:=by
 refine UT.of Tryz.func216 Y Tryz.ntmps216 Y ?_;intro S w R u;unfold gT at h;refine aK [0,1,2] ?_;refine aG ?_;obtain⟨C,z,h⟩:=aA h;obtain⟨D,B,h⟩:=aA h;refine eK 12 mixed (by exact(.k (aJ Y Y Y Nn Hv) (.k (aJ Y Y Y Nn Hv) (.k (aL Y) (.k (aB 0 Y vX Y S3 Y Y) (.k (aJ Y Y Y G3 S3) (.k (cT Y Y Y) (.k (bO Y G3 S3) (.k (cT Y Y Y) (.k (cT Y Y Y) (.k (cG Y No Y S3 Y (.fst .here) Y) (.k (bO Y G3 S3) (.k (aM (rV z) NF (.cons (.dir Y) .nil)) .nil))))))))))))) (by exact(J.t (eM [9000] (Bv [(9000,9000)]) (eO _) (fun A=>iH A B) IY (fun A=>(.box Y .nil Y))) (jz [0,3]))) ?_;cases h;exact aH (eH u Y (RV.tmp Y) (.cons Y (.cons Y .nil)))
theorem wT(A:Nat->Nat){a1 a2 V5 bp r}(h:gU a1 a2 V5 bp=some r):
 UT Tryz.prog 217 [.ptr 9100 0,.XA Q0 a1,.XA gF a2] [(9000,.box 188 [.v Q0 V5,.v Q2 bp] (some (A 9000))),(9100,.box 74 [.ptr 9000 0] (some (A 9100)))] (.v Q9 r.1) [(9000,.box 188 [.v Q0 r.2.1,.v Q2 r.2.2] (some (A 9000))),(9100,.box 74 [.ptr 9000 0] (some (A 9100)))]:=by
 refine UT.of Tryz.func217 Y Tryz.ntmps217 Y ?_;intro S w R u;unfold gU at h;refine aK [0,1,2] ?_;refine aG ?_;obtain⟨B,z,h⟩:=aA h;refine eK 11 mixed (by exact(.k (aJ Y Y Y Nn Hv) (.k (aJ Y Y Y Nn Hv) (.k (aL Y) (.k (aB 0 Y vX Y S3 Y Y) (.k (aJ Y Y Y G3 S3) (.k (cT Y Y Y) (.k (bO Y G3 S3) (.k (cT Y Y Y) (.k (cT Y Y Y) (.k (cG Y No Y nG Y (.snd .here) Y) (.k (bO Y vT nG) .nil)))))))))))) (by exact(J.t (eM [9000] (Bv [(9000,9000)]) (eO _) (fun A=>iH A z) IY (fun A=>(.box Y .nil Y))) (jz [0,3]))) ?_;cases h;exact aH (eH u Y (RV.tmp Y) (.cons Y (.cons Y .nil)))
theorem wU(A:Nat->Nat){WQ ZM r}(h:gV WQ ZM=some r):
 UT Tryz.prog 218 [.ptr 9100 0] [(9000,.box 188 [.v Q0 WQ,.v Q2 ZM] (some (A 9000))),(9100,.box 74 [.ptr 9000 0] (some (A 9100)))] (.v Q9 r.1) [(9000,.box 188 [.v Q0 r.2.1,.v Q2 r.2.2] (some (A 9000))),(9100,.box 74 [.ptr 9000 0] (some (A 9100)))]:=by
 refine UT.of Tryz.func218 Y Tryz.ntmps218 Y ?_;intro S w R u;unfold gV at h;refine aK [0] ?_;obtain⟨B,z,h⟩:=aA h;refine aI (.a 1 ?_);refine .t (eM [9000] (Bv [(9000,9000)]) (eO _) (fun A=>oJ A z) Tryz.call209 (fun A=>(.box Y .nil Y))) (.f [0,1] ?_);cases h;exact aH (eH u Y (RV.tmp Y) (.cons Y (.cons Y .nil)))
theorem wV(A:Nat->Nat){WQ ZM r}(h:gW WQ ZM=some r):
 UT Tryz.prog 219 [.ptr 9100 0] [(9000,.box 188 [.v Q0 WQ,.v Q2 ZM] (some (A 9000))),(9100,.box 74 [.ptr 9000 0] (some (A 9100)))] (.v Q9 r.1) [(9000,.box 188 [.v Q0 r.2.1,.v Q2 r.2.2] (some (A 9000))),(9100,.box 74 [.ptr 9000 0] (some (A 9100)))]:=by
 refine UT.of Tryz.func219 Y Tryz.ntmps219 Y ?_;intro S w R u;unfold gW at h;refine aK [0] ?_;obtain⟨B,z,h⟩:=aA h;refine aI (.a 1 ?_);refine .t (eM [9000] (Bv [(9000,9000)]) (eO _) (fun A=>oJ A z) Tryz.call209 (fun A=>(.box Y .nil Y))) (.f [0,1] ?_);cases h;exact aH (eH u Y (RV.tmp Y) (.cons Y (.cons Y .nil)))
theorem xN(A:Nat->Nat){q n0 n1 r}(h:iF q n0 n1=some r):
 UY Tryz.prog [(9000,A 9000),(9100,A 9100)] (bM (A 9000) (A 9100)) q [(9000,.box 188 [.v Q0 n0,.v Q2 n1] (some (A 9000))),(9100,.box 74 [.ptr 9000 0] (some (A 9100)))] (.v Q9 r.1) [(9000,.box 188 [.v Q0 r.2.1,.v Q2 r.2.2] (some (A 9000))),(9100,.box 74 [.ptr 9000 0] (some (A 9100)))]:=by
 unfold iF at h;rcases q with z | z | z | z | z | z | z | z
 ·exact(UY.l (UY.I8 .nil (.pr (.e9 (i:=9100) (by simp)) .pt) Tryz.call214 (wR A h)))
 ·exact(UY.r (UY.l (UY.I8 .nil (.pr (.e9 (i:=9100) (by simp)) (.pr .pt .pt)) Tryz.call216 (wS A h))))
 ·exact(UY.r (UY.r (UY.l (UY.I8 .nil (.pr (.e9 (i:=9100) (by simp)) (.pr .pt .pt)) Tryz.call217 (wT A h)))))
 ·exact(UY.r (UY.r (UY.r (UY.l (UY.I8 (.e9 (i:=9000) (by simp)) .nil NC (jS A h))))))
 ·exact(UY.r (UY.r (UY.r (UY.r (UY.l (UY.I8 .nil (.e9 (i:=9100) (by simp)) Tryz.call218 (wU A h)))))))
 ·exact(UY.r (UY.r (UY.r (UY.r (UY.r (UY.l (UY.I8 (.e9 (i:=9000) (by simp)) .nil Tryz.call206 (sQ A h))))))))
 ·exact(UY.r (UY.r (UY.r (UY.r (UY.r (UY.r (UY.l (UY.I8 (.e9 (i:=9000) (by simp)) .nil NC (jS A h)))))))))
 ·exact(UY.r (UY.r (UY.r (UY.r (UY.r (UY.r (UY.r (UY.I8 .nil (.e9 (i:=9100) (by simp)) Tryz.call219 (wV A h)))))))))
theorem sS(A:Nat->Nat){a0 WQ ZM r}(h:eI a0 WQ ZM=some r):
 UT Tryz.prog 205 [.v (Wr.sl (bM (A 9000) (A 9100))) a0] [(9000,.box 188 [.v Q0 WQ,.v Q2 ZM] (some (A 9000))),(9100,.box 74 [.ptr 9000 0] (some (A 9100)))] (.v Q9 r.1) [(9000,.box 188 [.v Q0 r.2.1,.v Q2 r.2.2] (some (A 9000))),(9100,.box 74 [.ptr 9000 0] (some (A 9100)))]:=by
 refine UT.of Tryz.func205 Y Tryz.ntmps205 Y ?_;intro S w R B;unfold eI at h;refine aK [0] ?_;refine dB [6,7,8] ?_;obtain⟨P,I,L,M⟩:=cL h;refine jM (σs:=fun u:Int×Int×Cl=>⟨[(6,.v (Wr.sl (bM (A 9000) (A 9100))) a0),(7,.v Q0 (a0.length:Int)),(8,.v Q0 u.1)],[(9000,.box 188 [.v Q0 u.2.1,.v Q2 u.2.2] (some (A 9000))),(9100,.box 74 [.ptr 9000 0] (some (A 9100)))]⟩) (fun z:Int×Cl=>⟨[],[(9000,.box 188 [.v Q0 z.1,.v Q2 z.2] (some (A 9000))),(9100,.box 74 [.ptr 9000 0] (some (A 9100)))]⟩) I (aC []) ?_ ?_
 ·intro z C;have h:=L _ C;refine aK [2] ?_;cases h;exact aH (eH B Y (RV.tmp Y) (.cons Y (.cons Y .nil)))
 intro u O h;refine aK [6,7,8,9] ?_;refine aG ?_;refine aT h Y (fun D h=>?_) (fun D h=>?_)
 ·refine aF ?_;refine aG ?_;refine bT ?_;obtain⟨Q,T,h⟩:=aA h;refine aK [4,6,7,8] ?_;obtain⟨U,N,h⟩:=aA h;refine aI (.a 1 ?_);refine .t (Mf (H:=[9000,9100]) (K:=[9000,9100]) [(9000,A 9000),(9100,A 9100)] (Bv [(9000,9000),(9100,9100)]) (eO _) Y ⟨⟨_,_,Y⟩,⟨_,_,Y⟩,trivial⟩ (UY.at2 (e:=bM) (A 9000) (A 9100) (fun E=>xN E N)) (fun _=> .box Y (.box Y .nil)) (fun _=> .box Y (.box Y .nil Y) Y) (fun _=>rfl) Y Y (fun _=>rfl) Y Y) (.f [5,6,7,8] ?_);refine aK [5,6,7,8,15] ?_;refine aT h Y (fun F h=>?_) (fun F h=>?_)
  ·refine aK [2] ?_;refine aH ?_;refine eV ?_;cases h;refine hX fun G=>?_;obtain rfl:=M _ G;exact eH B Y (RV.tmp Y) (.cons Y (.cons Y .nil))
  refine aF ?_;refine bN ?_;refine dN [6,7,8] ?_;cases h;exact cF (aC [])
 cases h;exact dA (dJ (aC []))
theorem gY(A:Nat->Nat){VF VL a1 a2 a3 r}(h:cU VF VL a1 a2 a3=some r):
 UT Tryz.prog 163 [.ptr 9000 0,.v Q1 a1,.v Q0 a2,.v Q0 a3] [(9000,.box 188 [.v Q0 VF,.v Q2 VL] (some (A 9000)))] (.v Q9 r.1) [(9000,.box 188 [.v Q0 r.2.1,.v Q2 r.2.2] (some (A 9000)))]:=by
 refine UT.of Tryz.func163 Y Tryz.ntmps163 Y ?_;intro S w R D;unfold cU at h;refine aI (.k (Ip 101 Y Y) (.f [0,1,2,3,4] ?_));refine Zx (i:=101) Y fun u=>?_;refine wB (σ':=⟨[(0,.ptr 9000 0),(1,.v Q1 a1),(2,.v Q0 a2),(3,.v Q0 a3),(4,.ptr 101 0)],[(9000,.box 188 [.v Q0 VF,.v Q2 VL] (some (A 9000))),(101,.box 74 [.ptr 9000 0] (some (u)))]⟩) (aC []) ?_;refine dB [0,1,2,3,4,21] ?_;refine aT h Y (fun Q h=>?_) (fun Q h=>?_)
 ·refine aK [0,8] ?_;cases h;exact aH (eH D Y (RV.tmp Y) (.cons Y .nil))
 refine aF ?_;refine aG ?_;refine aG ?_;obtain⟨x6,z,h⟩:=aA h;refine eG (σ':=⟨[(0,.ptr 9000 0),(1,.v Q1 a1),(2,.v Q0 a2),(3,.v Q0 a3),(4,.ptr 101 0),(37,.v Wr.bool x6)],[(9000,.box 188 [.v Q0 VF,.v Q2 VL] (some (A 9000))),(101,.box 74 [.ptr 9000 0] (some (u)))]⟩) ?_ ?_
 ·refine cd z (fun E z=>?_) (fun E z=>?_)
  ·cases z;refine ja 2 ?_;exact(J.k (yH Y Y) jy)
  refine cd z (fun F z=>?_) (fun F z=>?_)
  ·cases z;refine ja 2 ?_;refine(J.k (yH Y Y) ?_);refine ja 4 ?_;exact(J.g E (At Y Y) jy)
  obtain⟨v9,fj,z⟩:=aA z;cases z;refine ja 2 ?_;refine(J.k (yH Y Y) ?_);refine ja 4 ?_;refine(J.g E (At Y Y) ?_);refine ja 4 ?_;exact(J.g F (tG (.cons (.dir Y) .nil)) (Yz (GK.met 33 Y Y Y F) (FY (jG fj) Tryz.call203 (.cons (.dir Y) (.fn1 Y Y Y (.UO sO sO) .nil)) XH.v Y) jy))
 refine aT h Y (fun T h=>?_) (fun T h=>?_)
 ·refine aK [0,8] ?_;cases h;exact aH (eH D Y (RV.tmp Y) (.cons Y .nil))
 refine aF ?_;obtain⟨L,gb,h⟩:=aA h;obtain⟨M,T4,h⟩:=aA h;refine aI (.a 1 ?_);refine .k (aM (rV gb) NF (.cons (.dir Y) .nil)) ?_;refine .a 1 ?_;refine .k (aM (rV T4) NF (.cons (.dir Y) .nil)) (.k (aN 106 By Y (.cons (Z.arr 8 (Z.int .u8)) .nil) Y) (.k (aN 107 By Y (.cons (Z.arr 8 (Z.int .u8)) .nil) Y) (.f [0,1,4,9,10] ?_)));refine aG ?_;refine wB (σ':=⟨[(0,.ptr 9000 0),(1,.v Q1 a1),(4,.ptr 101 0),(9,.XA aQ L),(10,.ptr 107 0)],[(9000,.box 188 [.v Q0 VF,.v Q2 VL] (some (A 9000))),(101,.box 74 [.ptr 9000 0] (some (u))),(107,.box 30 [.v aQ M])]⟩) (Sw.Sub.mk id (.cons Y (.of_eq Y) (.cons Y (.of_eq Y) (.cons Y (.of_eq Y) (.cons Y (.D3 Y Y (.cons (.of_eq Y) .nil) sO) (.cons Y (.of_eq Y) .nil))))) (.box Y (.cons (.of_eq Y) (.cons (.of_eq Y) .nil)) (.box Y (.cons (.of_eq Y) .nil) (.box Y (.cons (.of_eq Y) .nil) .nil))) Y) ?_;refine wB (σ':=⟨[(0,.ptr 9000 0),(1,.v Q1 a1),(4,.ptr 101 0),(9,.XA aQ L),(10,.XA aQ M)],[(9000,.box 188 [.v Q0 VF,.v Q2 VL] (some (A 9000))),(101,.box 74 [.ptr 9000 0] (some (u)))]⟩) (Sw.Sub.mk id (.cons Y (.of_eq Y) (.cons Y (.of_eq Y) (.cons Y (.of_eq Y) (.cons Y (.of_eq Y) (.cons Y (.D3 Y Y (.cons (.of_eq Y) .nil) sO) .nil))))) (.box Y (.cons (.of_eq Y) (.cons (.of_eq Y) .nil)) (.box Y (.cons (.of_eq Y) .nil) .nil)) Y) ?_;obtain⟨tu,qg,h⟩:=aA h;obtain⟨an,N,h⟩:=aA h;obtain⟨zf,qf,h⟩:=aA h;obtain⟨aq,T3,h⟩:=aA h;obtain⟨ao,ab,h⟩:=aA h;obtain⟨C,T1,h⟩:=aA h;refine eK 16 mixed (by exact(.k (aD Y) (.k (fY 113000 (eT qg) IX (.cons (.dir Y) .nil) Y) (.k (aJ Y Y Y Nn Hv) (.k (aL Y) (.k (aB 0 Y vX Y S3 Y Y) (.k (aJ Y Y Y G3 S3) (.k (CE N Y Y Y Y xJ S5) (.k (Pq qf Y Y Y xJ S5) (.k (Kv T3 (Zy N) Y (.sl Y) tB I5 S5 Y Y Y) (.k (Du ab Y xJ) (.k (bO Y vT nG) (.k (bR vP (.cons (Z.int .i64) (.cons (Z.arr 8 (Z.int .u8)) .nil)) (.cons Y (.dir Y) Y Y Y Y (.cons Y (.dir Y) Y Y Y Y .nil))) (.k (dI (e:=gF) xW jN Eo Y Y Y Y (.cons (.agg Y (.same (.same .nil)) (.UO sO sO) Y) .nil)) (WZ.append (.none Y) 114 T1 Y Y (.sl Y) xW Kj jN Y Y Y Y Y (.k (aN 115 Tryz.zeroValue77 Y (.cons (Z.sl gF) .nil) Y) (WZ.store (.none Y) Y Y Y Y Y Y Y Hw .nil))))))))))))))))) (by exact(J.kp [0,4,11] [])) ?_;refine aI (.sub (σ':=⟨[(0,.ptr 9000 0),(4,.ptr 101 0),(11,.XA Q1 C)],[(9000,.box 188 [.v Q0 VF,.v Q2 VL] (some (A 9000))),(101,.box 74 [.ptr 9000 0] (some (u)))]⟩) (Sw.Sub.mk id (.cons Y (.of_eq Y) (.cons Y (.of_eq Y) (.cons Y (.D3 Y Y (.cons (.db Y Y) .nil) sO) .nil))) (.box Y (.cons (.of_eq Y) (.cons (.of_eq Y) .nil)) (.box Y (.cons (.of_eq Y) .nil) .nil)) Y) (.k (nW .nil (.cons (.e9 Y Y) (.XA Y)) (.l .self)) (.k (sU (e:=(bM (A 9000) (u))) 116 Wj OE SH Y Y Y Y (.cons (.dir Y) .nil)) (.f [0,4,11,12] ?_))));refine dB [0,4,12,59,60,61] ?_;obtain⟨ap,ac,ad,au⟩:=cL h;refine jM (σs:=fun B:Int×(List aE)=>⟨[(0,.ptr 9000 0),(4,.ptr 101 0),(12,.ref 126),(59,.v Q1 C),(60,.v Q0 (C.length:Int)),(61,.v Q0 B.1)],[(9000,.box 188 [.v Q0 VF,.v Q2 VL] (some (A 9000))),(101,.box 74 [.ptr 9000 0] (some (u))),(126,.arr 97 (bM (A 9000) (u)) B.2)]⟩) (fun I:(List aE)=>⟨[(0,.ptr 9000 0),(4,.ptr 101 0),(12,.ref 126)],[(9000,.box 188 [.v Q0 VF,.v Q2 VL] (some (A 9000))),(101,.box 74 [.ptr 9000 0] (some (u))),(126,.arr 97 (bM (A 9000) (u)) I)]⟩) ac (aC [(126,116)]) ?_ ?_
 ·intro I P;have h:=ad _ P;obtain⟨O,ae,h⟩:=aA h;obtain⟨F4,qe,h⟩:=aA h;refine aI (.a 2 ?_);refine .k (nW (.e9 Y Y) .nil (.r (.r (.r (.l .self))))) (.k (nW .nil (.e9 Y Y) (.r (.r (.r (.r (.l .self)))))) (.k (aJ Y Y Y Nn Hv) (.k (nW (.e9 Y Y) .nil (.r (.r (.r (.r (.r (.l .self))))))) (.k (aJ Y Y Y Nn Hv) (.k (nW (.e9 Y Y) .nil (.r (.r (.r (.r (.r (.r (.l .self)))))))) (.k (nW .nil (.e9 Y Y) (.r (.r (.r (.r (.r (.r (.r .self)))))))) (.k (dI (e:=(bM (A 9000) (u))) Wj OE SH Y Y Y Y (.cons (.dir Y) (.cons (.dir Y) (.cons (.dir Y) (.cons (.dir Y) (.cons (.dir Y) .nil)))))) (.t (bU 133 ae Y Y (.sl Y) Wj Tryz.typeInfo97 OE Y Y Y Y Y) (.sub (σ':=⟨[(0,.ptr 9000 0),(4,.ptr 101 0),(73,.ptr 9000 0),(74,.v (bM (A 9000) (u)) (.inr (.inr (.inr (.inl ((),())))):aE)),(75,.v (bM (A 9000) (u)) (.inr (.inr (.inr (.inr (.inl ((),()))))):aE)),(76,.ptr 9000 0),(77,.v (bM (A 9000) (u)) (.inr (.inr (.inr (.inr (.inr (.inl ((),())))))):aE)),(78,.ptr 9000 0),(79,.v (bM (A 9000) (u)) (.inr (.inr (.inr (.inr (.inr (.inr (.inl ((),()))))))):aE)),(80,.v (bM (A 9000) (u)) (.inr (.inr (.inr (.inr (.inr (.inr (.inr ((),()))))))):aE)),(81,.v (Wr.sl (bM (A 9000) (u))) ([(.inr (.inr (.inr (.inl ((),())))):aE),(.inr (.inr (.inr (.inr (.inl ((),()))))):aE),(.inr (.inr (.inr (.inr (.inr (.inl ((),())))))):aE),(.inr (.inr (.inr (.inr (.inr (.inr (.inl ((),()))))))):aE),(.inr (.inr (.inr (.inr (.inr (.inr (.inr ((),()))))))):aE)]:(List aE))),(82,.v (Wr.sl (bM (A 9000) (u))) O)],[(9000,.box 188 [.v Q0 VF,.v Q2 VL] (some (A 9000))),(101,.box 74 [.ptr 9000 0] (some (u)))]⟩) (aC []) (.t (Iq (H:=[9000,101]) (K:=[9000,101]) [(9000,A 9000),(9100,u)] (Bv [(9000,9000),(9100,101)]) (eO _) ⟨⟨_,_,Y⟩,⟨_,_,Y⟩,trivial⟩ (UT.at2 (ss:=fun U V=>[.v (Wr.sl (bM U V)) O]) (A 9000) u (fun X=>sS X qe)) Tryz.call205 (.cons (.dir Y) .nil) (fun _=> .box Y (.box Y .nil)) (fun _=> .box Y (.box Y .nil Y) Y) (fun _=>rfl) Y Y (fun _=>rfl) Y Y) (.f [0,8] ?_)))))))))));cases h;exact aH (eH D Y (RV.tmp Y) (.cons Y .nil))
 intro B am h;refine aK [0,4,12,59,60,61,62] ?_;refine aG ?_;refine aT h Y (fun aa h=>?_) (fun aa h=>?_)
 ·refine aF ?_;refine aG ?_;refine bT ?_;obtain⟨G,av,h⟩:=aA h;refine aI (.a 3 ?_);refine .k (aN 130 Z3 Y (.cons (Z.int .i64) .nil) Y) (.k (aN 131 Eo Y (.cons (Z.int .i64) (.cons (Z.arr 8 (Z.int .u8)) .nil)) Y) ?_);refine .a 1 ?_;refine .t (bX Y Y Y Y (.UO sO sO) jN) (.f [0,4,12,13,14,59,60,61] ?_);refine wB (σ':=⟨[(0,.ptr 9000 0),(4,.ptr 101 0),(12,.ref 126),(13,.XA Q0 B.1),(14,.ptr 131 0),(59,.v Q1 C),(60,.v Q0 (C.length:Int)),(61,.v Q0 B.1)],[(9000,.box 188 [.v Q0 VF,.v Q2 VL] (some (A 9000))),(101,.box 74 [.ptr 9000 0] (some (u))),(126,.arr 97 (bM (A 9000) (u)) B.2),(131,.box 214 [.v Q0 G.1,.v aQ G.2])]⟩) (Sw.Sub.mk id (.cons Y (.of_eq Y) (.cons Y (.of_eq Y) (.cons Y (.of_eq Y) (.cons Y (.D3 Y Y (.cons (.of_eq Y) .nil) sO) (.cons Y (.of_eq Y) (.cons Y (.of_eq Y) (.cons Y (.of_eq Y) (.cons Y (.of_eq Y) .nil)))))))) (.box Y (.cons (.of_eq Y) (.cons (.of_eq Y) .nil)) (.box Y (.cons (.of_eq Y) .nil) (.arr Y (.box Y (.cons (.of_eq Y) (.cons (.of_eq Y) .nil)) .nil)))) Y) ?_;obtain⟨aw,af,h⟩:=aA h;refine eN (.a 1 ?_);refine .sub (σ':=⟨[(0,.ptr 9000 0),(4,.ptr 101 0),(12,.ref 126),(13,.XA Q0 B.1),(14,.XA gF G),(59,.v Q1 C),(60,.v Q0 (C.length:Int)),(61,.v Q0 B.1),(66,.ref 126)],[(9000,.box 188 [.v Q0 VF,.v Q2 VL] (some (A 9000))),(101,.box 74 [.ptr 9000 0] (some (u))),(126,.arr 97 (bM (A 9000) (u)) B.2)]⟩) (Sw.Sub.mk id (.cons Y (.of_eq Y) (.cons Y (.of_eq Y) (.cons Y (.of_eq Y) (.cons Y (.of_eq Y) (.cons Y (.D3 Y Y (.cons (.of_eq Y) (.cons (.of_eq Y) .nil)) (.UO sO sO)) (.cons Y (.of_eq Y) (.cons Y (.of_eq Y) (.cons Y (.of_eq Y) (.cons Y (.of_eq Y) .nil))))))))) (.box Y (.cons (.of_eq Y) (.cons (.of_eq Y) .nil)) (.box Y (.cons (.of_eq Y) .nil) (.arr Y .nil))) Y) (.k (nW .nil (.cons (.e9 Y Y) (.cons (.XA Y) (.XA Y))) (.r (.l .self))) (.k (nW .nil (.cons (.e9 Y Y) (.cons (.XA Y) (.XA Y))) (.r (.r (.l .self)))) (.k (dI (e:=(bM (A 9000) (u))) Wj OE SH Y Y Y Y (.cons (.dir Y) (.cons (.dir Y) .nil))) (.t (bU 132 af Y Y (.sl Y) Wj Tryz.typeInfo97 OE Y Y Y Y Y) (.f [0,4,12,59,60,61] ?_)))));refine bN ?_;refine dN [0,4,12,59,60,61] ?_;cases h;exact cF (aC [(126,132)])
 cases h;exact dA (dJ (aC []))
theorem zA(A:Nat->Nat){b0 b1 b2 b3 b4 b5 b6 b7 b8 b9 bA bB bC bD bE bF bG bH bI bJ r}(h:iZ b0 b1 b2 b3 b4 b5 b6 b7 b8 b9 bA bB bC bD bE bF bG bH bI bJ=some r):
 UT Tryz.prog 102 [.ptr 9000 1,.ptr 9100 0] [(9000,.box 93 [.v Q0 b0,.v (Wr.YW (.pointer none) rfl) (),.v Q0 b1,.v Q0 b2,.v Q0 b3,.ref 9050,.v Ki b5,.ref 9051,.v Q0 b7,.v Nk b8,.v Q0 b9,.v Q0 bA,.ref 9052,.v (Wr.YW (.pointer none) rfl) (),.v Q0 bC,.v Q0 bD,.v Q0 bE,.v Q0 bF,.v (Wr.pr Q0 Q0) bG,.ref 9053] (some (A 9000))),(9100,.box 188 [.v Q0 bI,.v Q2 bJ] (some (A 9100))),(9050,.arr 30 aQ b4),(9051,.mp Q0 Q5 b6),(9052,.arr 3 Q0 bB),(9053,.arr 135 (Wr.pr Wr.bool (Wr.pr Wr.bool (Wr.sl (Wr.int .u8)))) bH)] (.v Q9 r.1) [(9000,.box 93 [.v Q0 b0,.ptr 9100 0,.v Q0 b1,.v Q0 r.2.1,.v Q0 r.2.2.1,.ref 400,.v Ki b5,.ref 401,.v Q0 b7,.v Nk b8,.v Q0 b9,.v Q0 bA,.ref 402,.v (Wr.YW (.pointer none) rfl) (),.v Q0 bC,.v Q0 bD,.v Q0 bE,.v Q0 bF,.v (Wr.pr Q0 Q0) bG,.ref 403] (some (A 9000))),(9100,.box 188 [.v Q0 r.2.2.2.1,.v Q2 r.2.2.2.2] (some (A 9100))),(400,.arr 30 aQ b4),(401,.mp Q0 Q5 b6),(402,.arr 3 Q0 bB),(403,.arr 135 (Wr.pr Wr.bool (Wr.pr Wr.bool (Wr.sl (Wr.int .u8)))) bH)]:=by
 refine UT.of Tryz.func102 Y Tryz.ntmps102 Y ?_;intro S w R u;unfold iZ at h;refine aK [0,1] ?_;refine aK [0,1] ?_;obtain⟨D,B,h⟩:=aA h;refine aI (.a 1 ?_);refine .k (rE (oM B) Tryz.call162 (.cons (.E9 Y Y (.UO sO sO)) .nil) (XH.VO (.v (.v (.v .nil))))) (.f [0,1,5,6,7] ?_);refine dB [0,1,5,6,7,19] ?_;refine aT h Y (fun z h=>?_) (fun z h=>?_)
 ·refine aK [0,1,4] ?_;cases h;exact aH (eU u Y (aC [(403,9053),(402,9052),(401,9051),(400,9050)]))
 refine aF ?_;refine aK [0,1] ?_;refine aG ?_;obtain⟨E,C,h⟩:=aA h;refine eK 9 mixed (by exact(.k (aD Y) (.k (aD Y) (.k (aL Y) (.k (aB 3 Y En Y S3 Y Y) (.k (aJ Y Y Y G3 S3) (.k (aD Y) (.k (aL Y) (.k (aB 4 Y En Y S3 Y Y) (.k (aJ Y Y Y G3 S3) .nil)))))))))) (by exact(J.t (tW (H:=[9100]) (K:=[9100]) (Bv [(9000,9100)]) (eO _) (fun A=>gY A C) IW (.cons (.dir Y) (.cons (.ln _) (.cons (.dir Y) (.cons (.dir Y) .nil)))) (fun A=>(.box Y .nil)) (fun A=>(.box Y .nil Y)) (fun _=>rfl) Y Y (fun _=>rfl) Y Y) (jz [0,1,4]))) ?_;cases h;exact aH (eU u Y (aC [(403,9053),(402,9052),(401,9051),(400,9050)]))
theorem Es{a0 a1 r}(h:jZ a0 a1=some r):
 VG Tryz.prog 76 [.XA (Wr.pr Q0 Q2) a0,.v Q0 a1] (.VO [.v aQ r.1,.v Q9 r.2]) []:=by
 refine VG.of Tryz.func76 Y Tryz.ntmps76 Y ?_;intro S w A;unfold jZ at h;refine aI (.k (aN 101 By Y (.cons (Z.arr 8 (Z.int .u8)) .nil) Y) (.f [0,1,4] ?_));refine aG ?_;refine aG ?_;obtain⟨D,u,h⟩:=aA h;refine eG (σ':=⟨[(0,.XA (Wr.pr Q0 Q2) a0),(1,.v Q0 a1),(4,.ptr 101 0),(15,.v Wr.bool D)],[(101,.box 30 [.v aQ aU])]⟩) ?_ ?_
 ·refine cd u (fun z u=>?_) (fun z u=>?_)
  ·cases u;exact jy
  cases u;refine ja 5 ?_;exact(J.g z (tH Y) (J.g z (cG Y vX Y S3 Y (.fst .here) Y) jy))
 refine aT h Y (fun C h=>?_) (fun C h=>?_)
 ·refine aI (.k (eJ (e:=aQ) (v:=aU) Hu xJ I5 Y Y (Z.arr 8 (Z.int .u8))) (.f [4,5] ?_));refine aH ?_;obtain rfl:=sM h;exact cB (σ':=⟨[(4,.ptr 90 0),(5,.v Q9 (some (1:Int)))],[(90,.box 30 [.v aQ aU])]⟩) (aC [(90,101)]) (bS A dP Y (dG Y Y Y vT nG) (RV.tmp Y) .nil Y)
 refine aF ?_;obtain⟨B,E,h⟩:=aA h;refine aI (.a 1 ?_);refine .k (tH Y) (.k (cG Y vX Y kX Y (.snd .here) Y) ?_);refine .a 2 ?_;refine .k (aM (qD E) DW (.cons (.dir Y) (.cons (.dir Y) .nil))) (.f [4,5] ?_);refine aH ?_;obtain rfl:=sM h;exact cB (σ':=⟨[(4,.ptr 90 0),(5,.v Q9 B.2)],[(90,.box 30 [.v aQ B.1])]⟩) (aC [(90,101)]) (bS A dP Y (dG Y Y Y vT nG) (RV.tmp Y) .nil Y)
theorem kK{a0 r}(h:fZ a0=some r):
 VG Tryz.prog 48 [.XA (Wr.pr Q0 Q2) a0] (.VO [.ref 0,.v Q9 r.2]) [(0,.arr 30 aQ r.1)]:=by
 refine VG.of Tryz.func48 Y Tryz.ntmps48 Y ?_;intro S w z;unfold fZ at h;refine aI (.k (aP 101 30 aQ) (.f [0] ?_));refine aI (.k (aP 102 30 aQ) (.f [0,4] ?_));refine jJ (.a 1 ?_);refine .k (tH Y) (.k (cG Y vX Y S3 Y (.fst .here) Y) (.f [0,4,11,12] ?_));obtain⟨M,F,G,H⟩:=cL h;refine jM (σs:=fun u:Int×lS=>⟨[(0,.XA (Wr.pr Q0 Q2) a0),(4,.ref 114),(11,.v Q0 a0.1),(12,.v Q0 u.1)],[(114,.arr 30 aQ u.2)]⟩) (fun A:lS=>⟨[(4,.ref 114)],[(114,.arr 30 aQ A)]⟩) F (aC [(114,102)]) ?_ ?_
 ·intro A B;have h:=G _ B;refine aK [2,3] ?_;cases h;exact aH (wE z dP Y (aC [(0,114)]))
 intro u L h;refine aK [0,4,11,12,13] ?_;refine aG ?_;refine aT h Y (fun C h=>?_) (fun C h=>?_)
 ·refine aF ?_;refine aG ?_;refine bT ?_;refine aK [0,4,5,11,12] ?_;obtain⟨N,I,h⟩:=aA h;refine aI (.a 2 ?_);refine .k (aM (Es I) Tryz.call76 (.cons (.dir Y) (.cons (.dir Y) .nil))) ?_;refine .a 3 ?_;refine .k (aN 120 By Y (.cons (Z.arr 8 (Z.int .u8)) .nil) Y) (.f [0,4,6,7,11,12] ?_);refine dB [0,4,6,7,11,12,22] ?_;refine aT h Y (fun D h=>?_) (fun D h=>?_)
  ·refine aI (.a 1 ?_);refine .k (aP 121 30 aQ) (.f [2,3] ?_);refine aH ?_;refine eV ?_;cases h;refine hX fun E=>?_;obtain rfl:=H _ E;exact wE z dP Y (aC [(0,121)])
  refine aF ?_;obtain⟨O,K,h⟩:=aA h;refine eN (.a 2 ?_);refine .k (dI (e:=aQ) Td nG By Y Y Y Y (.cons (.dir Y) .nil)) (.t (bU 122 K Y Y (.sl Y) Td Hu nG Y Y Y Y Y) (.f [0,4,11,12] ?_));refine bN ?_;refine dN [0,4,11,12] ?_;cases h;exact cF (aC [(114,122)])
 cases h;exact dA (dJ (aC []))
theorem uW(A:Nat->Nat){b0 b1 b2 b3 b4 b5 b6 b7 b8 b9 bA bB bC bD bE bF bG bH bI bJ r}(h:fK b0 b1 b2 b3 b4 b5 b6 b7 b8 b9 bA bB bC bD bE bF bG bH bI bJ=some r):
 UT Tryz.prog 103 [.ptr 9000 1] [(9000,.box 93 [.v Q0 b0,.ptr 9100 0,.v Q0 b1,.v Q0 b2,.v Q0 b3,.ref 9050,.v Ki b5,.ref 9051,.v Q0 b7,.v Nk b8,.v Q0 b9,.v Q0 bA,.ref 9052,.v (Wr.YW (.pointer none) rfl) (),.v Q0 bC,.v Q0 bD,.v Q0 bE,.v Q0 bF,.v (Wr.pr Q0 Q0) bG,.ref 9053] (some (A 9000))),(9100,.box 188 [.v Q0 bI,.v Q2 bJ] (some (A 9100))),(9050,.arr 30 aQ b4),(9051,.mp Q0 Q5 b6),(9052,.arr 3 Q0 bB),(9053,.arr 135 (Wr.pr Wr.bool (Wr.pr Wr.bool (Wr.sl (Wr.int .u8)))) bH)] (.VO []) [(9000,.box 93 [.v Q0 b0,.ptr 9100 0,.v Q0 b1,.v Q0 b2,.v Q0 b3,.ref 400,.v Ki b5,.ref 401,.v Q0 b7,.v Nk b8,.v Q0 b9,.v Q0 bA,.ref 402,.v (Wr.YW (.pointer none) rfl) (),.v Q0 bC,.v Q0 bD,.v Q0 bE,.v Q0 bF,.v (Wr.pr Q0 Q0) bG,.ref 403] (some (A 9000))),(9100,.box 188 [.v Q0 bI,.v Q2 bJ] (some (A 9100))),(400,.arr 30 aQ b4),(401,.mp Q0 Q5 r),(402,.arr 3 Q0 bB),(403,.arr 135 (Wr.pr Wr.bool (Wr.pr Wr.bool (Wr.sl (Wr.int .u8)))) bH)]:=by
 refine UT.of Tryz.func103 Y Tryz.ntmps103 Y ?_;intro S w R u;unfold fK at h;refine aG ?_;obtain⟨D,z,h⟩:=aA h;obtain⟨B,C,h⟩:=aA h;refine eK 14 mixed (by exact(.k (aD Y) (.k (aL Y) (.k (aB 10 Y vH Y Yr Y Y) (.k (aJ Y Y Y OA Yr) (.k (aD Y) (.k (aL Y) (.k (aB 1 Y vH Y Kk Y Y) (.k (aB 3 Y En Y S3 Y Y) (.k (aJ Y Y Y G3 S3) (.k (aD Y) (.k (aL Y) (.k (aB 5 Y vH Y Kd Y Y) (.k (aJ Y Y Y JB Kd) (.k (Zq (sI 102000 (cO z) Yo (.cons (.ref Y Y) .nil) Y XH.ref (XT.arr XT.nil)) (fun _=>(Sw.Sub.mk id (.cons Y (.db Y Y) .nil) .nil Y)) Y) .nil))))))))))))))) (by exact(J.t (Mi C Y Y Y Y QB U3 (l4.int U3) Y) (J.kp [0] []))) ?_;refine eK 11 mixed (by exact(.k (aD Y) (.k (aL Y) (.k (aB 10 Y vH Y Yr Y Y) (.k (aJ Y Y Y OA Yr) (.k (aD Y) (.k (aL Y) (.k (aB 1 Y vH Y Kk Y Y) (.k (aB 3 Y En Y S3 Y Y) (.k (aJ Y Y Y G3 S3) (.k (cT Y Y Y) (.k (cT Y Y Y) .nil)))))))))))) (by exact(J.t (Mj Y Y Y QB U3 (l4.int U3) Y) (J.kp [0] []))) ?_;refine Za ?_;obtain rfl:=sM h;exact cB (σ':=⟨[(0,.ptr 9000 1)],[(9000,.box 93 [.v Q0 b0,.ptr 9100 0,.v Q0 b1,.v Q0 b2,.v Q0 b3,.ref 400,.v Ki b5,.ref 401,.v Q0 b7,.v Nk b8,.v Q0 b9,.v Q0 bA,.ref 402,.v (Wr.YW (.pointer none) Y) (),.v Q0 bC,.v Q0 bD,.v Q0 bE,.v Q0 bF,.v (Wr.pr Q0 Q0) bG,.ref 403] (some (A 9000))),(9100,.box 188 [.v Q0 bI,.v Q2 bJ] (some (A 9100))),(400,.arr 30 aQ b4),(401,.mp Q0 Q5 (Fq B (ar .sub .i64 (ar .sub .i64 b2 (4:Int)) (1:Int)))),(402,.arr 3 Q0 bB),(403,.arr 135 (Wr.pr Wr.bool (Wr.pr Wr.bool (Wr.sl (Wr.int .u8)))) bH)]⟩) (aC [(403,9053),(402,9052),(401,9051),(400,9050)]) (Dy u Y (.cons Y (.cons Y (.cons Y (.cons Y (.cons Y (.cons Y .nil)))))))
theorem pW(A:Nat->Nat){b0 b1 b2 b3 b4 b5 b6 b7 b8 b9 bA bB bC bD bE bF bG bH bI bJ r}(h:fA b0 b1 b2 b3 b4 b5 b6 b7 b8 b9 bA bB bC bD bE bF bG bH bI bJ=some r):
 UT Tryz.prog 70 [.ptr 9000 0,.ptr 9100 0] [(9000,.box 93 [.v Q0 b0,.v (Wr.YW (.pointer none) rfl) (),.v Q0 b1,.v Q0 b2,.v Q0 b3,.v Q5 b4,.v Ki b5,.v (Wr.S9 Q0 Q5) b6,.v Q0 b7,.v Nk b8,.v Q0 b9,.v Q0 bA,.v lY bB,.v (Wr.YW (.pointer none) rfl) (),.v Q0 bC,.v Q0 bD,.v Q0 bE,.v Q0 bF,.v (Wr.pr Q0 Q0) bG,.ref 9050] (some (A 9000))),(9100,.box 188 [.v Q0 bI,.v Q2 bJ] (some (A 9100))),(9050,.arr 135 (Wr.pr Wr.bool (Wr.pr Wr.bool (Wr.sl (Wr.int .u8)))) bH)] (.v Q9 r.1) [(9000,.box 93 [.v Q0 b0,.ptr 9100 0,.v Q0 r.2.1,.v Q0 r.2.2.1,.v Q0 r.2.2.2.1,.ref 400,.v Ki r.2.2.2.2.2.1,.ref 401,.v Q0 r.2.2.2.2.2.2.2.1,.v Nk r.2.2.2.2.2.2.2.2.1,.v Q0 r.2.2.2.2.2.2.2.2.2.1,.v Q0 r.2.2.2.2.2.2.2.2.2.2.1,.ref 402,.v (Wr.YW (.pointer none) rfl) (),.v Q0 bC,.v Q0 bD,.v Q0 bE,.v Q0 bF,.v (Wr.pr Q0 Q0) bG,.ref 403] (some (A 9000))),(9100,.box 188 [.v Q0 r.2.2.2.2.2.2.2.2.2.2.2.2.1,.v Q2 r.2.2.2.2.2.2.2.2.2.2.2.2.2] (some (A 9100))),(400,.arr 30 aQ r.2.2.2.2.1),(401,.mp Q0 Q5 r.2.2.2.2.2.2.1),(402,.arr 3 Q0 r.2.2.2.2.2.2.2.2.2.2.2.1),(403,.arr 135 (Wr.pr Wr.bool (Wr.pr Wr.bool (Wr.sl (Wr.int .u8)))) bH)]:=by
 refine UT.of Tryz.func70 Y Tryz.ntmps70 Y ?_;intro S w R z;unfold fA at h;refine aK [0,1] ?_;refine aI (.a 5 ?_);refine .k (bR Lf (.cons (Z.YW (u:=(.pointer none)) Y) (.cons (Z.int .i64) (.cons (Z.int .i64) (.cons (Z.int .i64) .nil)))) (.cons Y (.dir Y) Y Y Y Y .nil)) (.k (Fj 101 Q0 Q5) (.k (fO (new:=[(103,.arr 30 aQ ([]:lS)),(102,.arr 3 Q0 ([]:kH))]) BL (.cons (Z.YW (u:=(.pointer none)) Y) (.cons (Z.int .i64) (.cons (Z.int .i64) (.cons (Z.int .i64) (.ref 103 Y (.cons (Z.pr (Z.int .i64) (Z.pr (Z.sl gF) (Z.pr (Z.sl pB) Z.bool))) (.cons (Z.S9 Q0 Q5) (.cons (Z.int .i64) (.cons (Z.pr (Z.int .i64) (Z.pr (Z.int .i64) (Z.sl Q8))) (.cons (Z.int .i64) (.cons (Z.int .i64) (.ref 102 Y .nil)))))))))))) (.cons (.cons .nil)) Y (.agg 0 4 Y Y Y Y Y Y (.cons Y (.dir Y) Y Y Y Y (.cons Y (.dir Y) Y Y Y Y .nil)))) ?_));refine .a 2 ?_;refine .t (vF 1 12 Y Y Y Y Y Y Y OD) (.f [0,1] ?_);obtain⟨F,C,h⟩:=aA h;refine jJ (.a 5 ?_);refine .t (eM [9000,9100,103,101,102,9050] (vG [(9000,9000),(9100,9100),(9050,103),(9051,101),(9052,102),(9053,9050),(400,104),(401,105),(402,106),(403,107)]) (dE Y) (fun A=>zA A C) MX (fun A=>(.box Y (.box Y (.arr (.mp (.arr (.arr .nil Y) Y) Y) Y) Y) Y))) (.f [0,1,5] ?_);refine aK [0,1,5,25] ?_;refine aT h Y (fun B h=>?_) (fun B h=>?_)
 ·refine aK [0,1,4] ?_;cases h;exact aH (eU z Y (aC [(403,107),(402,106),(401,105),(400,104)]))
 refine aF ?_;obtain⟨G,D,h⟩:=aA h;refine aI (.a 1 ?_);refine .k (sI 108000 (kK D) SA (.cons (.E9 Y Y (.UO sO sO)) .nil) Y (XH.VO (.ref (.v .nil))) (XT.arr XT.nil)) (.f [0,1,6,7] ?_);refine aK [0,1,7] ?_;refine aI (.a 7 ?_);refine .k (Ax (bR yQ (.cons (Z.int .i64) (.cons (Z.sl gF) (.cons (Z.sl pB) (.cons Z.bool .nil)))) (.cons Y (.dir Y) Y Y Y Y (.cons Y (.dir Y) Y Y Y Y .nil))) (.UO sO (.UO sO (.UO sO sO))) Y) (.f [0,1,7] ?_);obtain⟨H,E,h⟩:=aA h;refine aI (.a 3 ?_);refine .t (eM [9000,9100,108000,105,106,107] (vG [(9000,9000),(9100,9100),(9050,108000),(9051,105),(9052,106),(9053,107),(400,109),(401,110),(402,111),(403,112)]) (dE Y) (fun A=>uW A E) Tryz.call103 (fun A=>(.box Y (.box Y (.arr (.mp (.arr (.arr .nil Y) Y) Y) Y) Y) Y))) (.f [0,1,7] ?_);refine aK [0,1,4] ?_;cases h;exact aH (eU z Y (aC [(403,112),(402,111),(401,110),(400,109)]))
theorem rY(A:Nat->Nat){b0 b1 b2 b3 b4 b5 b6 b7 b8 b9 bA bB bC bD bE bF bG bH bI bJ bK bL r}(h:gD b0 b1 b2 b3 b4 b5 b6 b7 b8 b9 bA bB bC bD bE bF bG bH bI bJ bK bL=some r):
 UT Tryz.prog 102 [.ptr 9000 18,.ptr 9200 0] [(9000,.box 93 [.v Q0 b0,.ptr 9100 0,.v Q0 b1,.v Q0 b2,.v Q0 b3,.ref 9050,.v Ki b5,.ref 9051,.v Q0 b7,.v Nk b8,.v Q0 b9,.v Q0 bA,.ref 9052,.v (Wr.YW (.pointer none) rfl) (),.v Q0 bC,.v Q0 bD,.v Q0 bE,.v Q0 bF,.v (Wr.pr Q0 Q0) bG,.ref 9053] (some (A 9000))),(9100,.box 188 [.v Q0 bI,.v Q2 bJ] (some (A 9100))),(9200,.box 188 [.v Q0 bK,.v Q2 bL] (some (A 9200))),(9050,.arr 30 aQ b4),(9051,.mp Q0 Q5 b6),(9052,.arr 3 Q0 bB),(9053,.arr 135 (Wr.pr Wr.bool (Wr.pr Wr.bool (Wr.sl (Wr.int .u8)))) bH)] (.v Q9 r.1) (kE 9000 (some (A 9000)) 9100 (some (A 9100)) 9200 (some (A 9200)) 400 401 402 403 b0 b1 b2 b3 b4 b5 b6 b7 b8 b9 bA bB bC r.2.1 r.2.2.1 bF bG bH bI bJ r.2.2.2.1 r.2.2.2.2):=by
 refine UT.of Tryz.func102 Y Tryz.ntmps102 Y ?_;intro S w R u;unfold gD at h;refine aK [0,1] ?_;refine aK [0,1] ?_;obtain⟨D,B,h⟩:=aA h;refine aI (.a 1 ?_);refine .k (rE (oM B) Tryz.call162 (.cons (.E9 Y Y (.UO sO sO)) .nil) (XH.VO (.v (.v (.v .nil))))) (.f [0,1,5,6,7] ?_);refine dB [0,1,5,6,7,19] ?_;refine aT h Y (fun z h=>?_) (fun z h=>?_)
 ·refine aK [0,1,4] ?_;cases h;exact aH (eU u Y (aC [(403,9053),(402,9052),(401,9051),(400,9050)]))
 refine aF ?_;refine aK [0,1] ?_;refine aG ?_;obtain⟨E,C,h⟩:=aA h;refine eK 9 mixed (by exact(.k (aD Y) (.k (aD Y) (.k (aL Y) (.k (aB 20 Y En Y S3 Y Y) (.k (aJ Y Y Y G3 S3) (.k (aD Y) (.k (aL Y) (.k (aB 21 Y En Y S3 Y Y) (.k (aJ Y Y Y G3 S3) .nil)))))))))) (by exact(J.t (tW (H:=[9200]) (K:=[9200]) (Bv [(9000,9200)]) (eO _) (fun A=>gY A C) IW (.cons (.dir Y) (.cons (.ln _) (.cons (.dir Y) (.cons (.dir Y) .nil)))) (fun A=>(.box Y .nil)) (fun A=>(.box Y .nil Y)) (fun _=>rfl) Y Y (fun _=>rfl) Y Y) (jz [0,1,4]))) ?_;cases h;exact aH (eU u Y (aC [(403,9053),(402,9052),(401,9051),(400,9050)]))
end Go.Cn
set_option maxRecDepth 100000
set_option maxHeartbeats 4000000
namespace Go.Cn
open Go Go.Sw Go.Mo Go.Proofs
variable {gobj:Obj}
theorem vY(A:Nat->Nat){b0 b1 b2 b3 b4 b5 b6 b7 b8 b9 bA bB bC bD bE bF bG bH bI bJ bK bL r}(h:gK b0 b1 b2 b3 b4 b5 b6 b7 b8 b9 bA bB bC bD bE bF bG bH bI bJ bK bL=some r):
 UT Tryz.prog 71 [.ptr 9000 0,.ptr 9200 0] [(9000,.box 93 [.v Q0 b0,.ptr 9100 0,.v Q0 b1,.v Q0 b2,.v Q0 b3,.ref 9050,.v Ki b5,.ref 9051,.v Q0 b7,.v Nk b8,.v Q0 b9,.v Q0 bA,.ref 9052,.v (Wr.YW (.pointer none) rfl) (),.v Q0 bC,.v Q0 bD,.v Q0 bE,.v Q0 bF,.v (Wr.pr Q0 Q0) bG,.ref 9053] (some (A 9000))),(9100,.box 188 [.v Q0 bI,.v Q2 bJ] (some (A 9100))),(9200,.box 188 [.v Q0 bK,.v Q2 bL] (some (A 9200))),(9050,.arr 30 aQ b4),(9051,.mp Q0 Q5 b6),(9052,.arr 3 Q0 bB),(9053,.arr 135 (Wr.pr Wr.bool (Wr.pr Wr.bool (Wr.sl (Wr.int .u8)))) bH)] (.v Q9 r.1) (kE 9000 (some (A 9000)) 9100 (some (A 9100)) 9200 (some (A 9200)) 400 401 402 403 b0 b1 b2 b3 b4 b5 b6 b7 b8 b9 bA bB r.2.1 r.2.2.1 r.2.2.2.1 r.2.2.2.2.1 r.2.2.2.2.2.1 bH bI bJ r.2.2.2.2.2.2.1 r.2.2.2.2.2.2.2):=by
 refine UT.of Tryz.func71 Y Tryz.ntmps71 Y ?_;intro S w R z;unfold gK at h;refine aK [0,1] ?_;refine aI (.a 5 ?_);refine .k (bR Lf (.cons (Z.YW (u:=(.pointer none)) Y) (.cons (Z.int .i64) (.cons (Z.int .i64) (.cons (Z.int .i64) .nil)))) (.cons Y (.dir Y) Y Y Y Y .nil)) (.k (bR Lg (.cons (Z.int .i64) (.cons (Z.int .i64) .nil)) (.cons Y (.dir Y) Y Y Y Y .nil)) (.k (bR BM (.cons (Z.YW (u:=(.pointer none)) Y) (.cons (Z.int .i64) (.cons (Z.int .i64) (.cons (Z.int .i64) (.cons (Z.int .i64) (.cons (Z.pr (Z.int .i64) (Z.int .i64)) .nil)))))) (.agg 0 4 Y Y Y Y Y Y (.cons Y (.dir Y) Y Y Y Y (.cons Y (.agg Y (.same (.same .nil)) (.UO sO sO) Y) Y Y Y Y .nil)))) ?_));refine .a 2 ?_;refine .t (vF 13 6 Y Y Y Y Y Y Y SF) (.f [0,1] ?_);obtain⟨C,B,h⟩:=aA h;refine aI (.a 5 ?_);refine .t (eM [9000,9100,9200,9050,9051,9052,9053] (vG [(9000,9000),(9100,9100),(9200,9200),(9050,9050),(9051,9051),(9052,9052),(9053,9053),(400,101),(401,102),(402,103),(403,104)]) (dE Y) (fun A=>rY A B) MX (fun A=>(.box Y (.box Y (.box Y (.arr (.mp (.arr (.arr .nil Y) Y) Y) Y) Y) Y) Y))) (.f [0,1,4] ?_);cases h;exact aH (eU z Y (aC [(403,104),(402,103),(401,102),(400,101)]))
def uX(r:(Option Q3)×(Option Int)):Slot:=match r.1 with | none=> .VO [.v (Wr.YW (.pointer none) rfl) (),.v Q9 r.2] | some z=> .VO [.ptr 300 0,.v Q9 r.2]
def uY(r:(Option Q3)×(Option Int)):List (Nat×UU):=match r.1 with | none=>[] | some z=>(Su 300 none 301 none 302 none 400 401 402 403 z)
theorem Ab{a0 r}(h:iG a0=some r):
 VG Tryz.prog 42 [.v Q0 a0] (uX r) (uY r):=by
 refine VG.of Tryz.func42 Y Tryz.ntmps42 Y ?_;intro S w z;unfold iG at h;refine aI (.k (dZ Y) (.f [0] ?_));refine aI (.a 1 ?_);refine .k (fO (new:=[(101,.arr 135 (Wr.pr Wr.bool (Wr.pr Wr.bool (Wr.sl (Wr.int .u8)))) ([]:Yn))]) NL (.cons (Z.int .i64) (.cons (Z.YW (u:=(.pointer none)) Y) (.cons (Z.int .i64) (.cons (Z.int .i64) (.cons (Z.int .i64) (.cons (Z.sl aQ) (.cons (Z.pr (Z.int .i64) (Z.pr (Z.sl gF) (Z.pr (Z.sl pB) Z.bool))) (.cons (Z.S9 Q0 Q5) (.cons (Z.int .i64) (.cons (Z.pr (Z.int .i64) (Z.pr (Z.int .i64) (Z.sl Q8))) (.cons (Z.int .i64) (.cons (Z.int .i64) (.cons (Z.sl Q0) (.cons (Z.YW (u:=(.pointer none)) Y) (.cons (Z.int .i64) (.cons (Z.int .i64) (.cons (Z.int .i64) (.cons (Z.int .i64) (.cons (Z.pr (Z.int .i64) (Z.int .i64)) (.ref 101 Y .nil)))))))))))))))))))) (.cons .nil) Y (.cons Y (.dir Y) Y Y Y Y .nil)) (.k (Dr 102 Y Y) (.f [0,4] ?_));refine aG ?_;obtain⟨N,B,h⟩:=aA h;rcases B4:N.1 with _ | z2
 ·replace h:=wI B4 h;refine eN (.a 1 ?_);refine .k (aM (tC B4 B) QP (.cons (.dir Y) .nil)) (.f [0,4,5,6] ?_);refine dB [0,4,5,6,18] ?_;refine aT h Y (fun E h=>?_) (fun E h=>?_)
  ·refine aI (.a 1 ?_);refine .k (dZ Y) (.f [2,3] ?_);cases h;exact aH (bS z dP Y (RV.tmp Y) (RV.tmp Y) .nil Y)
  refine aF ?_;refine aG ?_;obtain⟨O,C,h⟩:=aA h;rcases np:O.1 with _ | z5
  ·replace h:=wI np h;refine eN (.a 1 ?_);refine .k (aM (tC np C) QP (.cons (.dir Y) .nil)) (.f [0,4,5,6,7] ?_);refine dB [0,4,5,6,7,26] ?_;refine aT h Y (fun F h=>?_) (fun F h=>?_)
   ·refine aI (.a 1 ?_);refine .k (dZ Y) (.f [2,3] ?_);cases h;exact aH (bS z dP Y (RV.tmp Y) (RV.tmp Y) .nil Y)
   refine aF ?_;refine aK [4,5,7] ?_;refine aG ?_;refine aG ?_;cases h
  ·replace h:=wJ np h;refine eN (.a 1 ?_);refine .k (fY 105000 (tD np C) QP (.cons (.dir Y) .nil) Y) (.f [0,4,5,6,7] ?_);refine dB [0,4,5,6,7,26] ?_;refine aT h Y (fun G h=>?_) (fun G h=>?_)
   ·refine aI (.a 1 ?_);refine .k (dZ Y) (.f [2,3] ?_);cases h;exact aH (bS z dP Y (RV.tmp Y) (RV.tmp Y) .nil Y)
   refine aF ?_;refine aK [4,5,7] ?_;refine aG ?_;refine aG ?_;cases h
 ·replace h:=wJ B4 h;refine eN (.a 1 ?_);refine .k (fY 106000 (tD B4 B) QP (.cons (.dir Y) .nil) Y) (.f [0,4,5,6] ?_);refine dB [0,4,5,6,18] ?_;refine aT h Y (fun H h=>?_) (fun H h=>?_)
  ·refine aI (.a 1 ?_);refine .k (dZ Y) (.f [2,3] ?_);cases h;exact aH (bS z dP Y (RV.tmp Y) (RV.tmp Y) .nil Y)
  refine aF ?_;refine aG ?_;obtain⟨P,D,h⟩:=aA h;rcases lu:P.1 with _ | W6
  ·replace h:=wI lu h;refine eN (.a 1 ?_);refine .k (aM (tC lu D) QP (.cons (.dir Y) .nil)) (.f [0,4,5,6,7] ?_);refine dB [0,4,5,6,7,26] ?_;refine aT h Y (fun I h=>?_) (fun I h=>?_)
   ·refine aI (.a 1 ?_);refine .k (dZ Y) (.f [2,3] ?_);cases h;exact aH (bS z dP Y (RV.tmp Y) (RV.tmp Y) .nil Y)
   refine aF ?_;refine aK [4,5,7] ?_;obtain⟨U,Q,h⟩:=aA h;refine jJ (.a 2 ?_);refine .t (eM [102,106000,101] (vG [(9000,102),(9100,106000),(9050,101),(400,108),(401,109),(402,110),(403,111)]) (dE Y) (fun A=>pW A Q) Tryz.call70 (fun A=>(.box Y (.box Y (.arr (.mp (.arr (.arr .nil Y) Y) Y) Y) Y) Y))) (.f [4,7,8] ?_);refine aK [4,7,8,44] ?_;refine aT h Y (fun K h=>?_) (fun K h=>?_)
   ·refine aI (.a 1 ?_);refine .k (dZ Y) (.f [2,3] ?_);cases h;exact aH (bS z dP Y (RV.tmp Y) (RV.tmp Y) .nil Y)
   refine aF ?_;refine aG ?_;cases h
  ·replace h:=wJ lu h;refine eN (.a 1 ?_);refine .k (fY 112000 (tD lu D) QP (.cons (.dir Y) .nil) Y) (.f [0,4,5,6,7] ?_);refine dB [0,4,5,6,7,26] ?_;refine aT h Y (fun L h=>?_) (fun L h=>?_)
   ·refine aI (.a 1 ?_);refine .k (dZ Y) (.f [2,3] ?_);cases h;exact aH (bS z dP Y (RV.tmp Y) (RV.tmp Y) .nil Y)
   refine aF ?_;refine aK [4,5,7] ?_;obtain⟨V,R,h⟩:=aA h;refine jJ (.a 2 ?_);refine .t (eM [102,106000,101] (vG [(9000,102),(9100,106000),(9050,101),(400,113),(401,114),(402,115),(403,116)]) (dE Y) (fun A=>pW A R) Tryz.call70 (fun A=>(.box Y (.box Y (.arr (.mp (.arr (.arr .nil Y) Y) Y) Y) Y) Y))) (.f [4,7,8] ?_);refine aK [4,7,8,44] ?_;refine aT h Y (fun M h=>?_) (fun M h=>?_)
   ·refine aI (.a 1 ?_);refine .k (dZ Y) (.f [2,3] ?_);cases h;exact aH (bS z dP Y (RV.tmp Y) (RV.tmp Y) .nil Y)
   refine aF ?_;obtain⟨X,T,h⟩:=aA h;refine aI (.a 3 ?_);refine .t (eM [102,106000,112000,113,114,115,116] (vG [(9000,102),(9100,106000),(9200,112000),(9050,113),(9051,114),(9052,115),(9053,116),(400,117),(401,118),(402,119),(403,120)]) (dE Y) (fun A=>vY A T) Tryz.call71 (fun A=>(.box Y (.box Y (.box Y (.arr (.mp (.arr (.arr .nil Y) Y) Y) Y) Y) Y) Y))) (.f [2,3] ?_);cases h;exact aH (wE z dP Y (aC [(300,102),(403,120),(302,112000),(402,119),(401,118),(400,117),(301,106000)]))
theorem Gb{a0:Int}{r:(Option Q3)×(Option Int)}(hz:r.1=none)(h:iG a0=some r):VG Tryz.prog 42 [.v Q0 a0] (.VO [.v (Wr.YW (.pointer none) rfl) (),.v Q9 r.2]) []:=by
 have:=Ab h;unfold uX uY at this;rw[hz] at this;exact this
theorem Gc{a0:Int}{r:(Option Q3)×(Option Int)}{z:Q3}(hz:r.1=some z)(h:iG a0=some r):VG Tryz.prog 42 [.v Q0 a0] (.VO [.ptr 300 0,.v Q9 r.2]) (Su 300 none 301 none 302 none 400 401 402 403 z):=by
 have:=Ab h;unfold uX uY at this;rw[hz] at this;exact this
theorem Jg{a0 r}(h:tY a0=some r):
 VG Tryz.prog 72 [.v Q0 a0] (.v (Ed [104,106,107,109,111,112,113,115,117,119,120]) r) []:=by
 refine VG.of Tryz.func72 Y Tryz.ntmps72 Y ?_;intro S w u;unfold tY at h;refine aI (.k (Bo [104,106,107,109,111,112,113,115,117,119,120] 11 Y) (.f [0] ?_));refine dB [3] ?_;refine bT ?_;refine aK [3,4] ?_;refine aT h Y (fun z h=>?_) (fun z h=>?_)
 ·refine aI (.k (qS [104,106,107,109,111,112,113,115,117,119,120] 0 Y lG) (.f [2] ?_));refine aH ?_;refine eV ?_;cases h;exact aY u dP Y (RV.tmp Y) .nil Y
 refine aK [3,6] ?_;refine aT h Y (fun A h=>?_) (fun A h=>?_)
 ·refine aI (.k (qS [104,106,107,109,111,112,113,115,117,119,120] 1 Y lG) (.f [2] ?_));refine aH ?_;refine eV ?_;cases h;exact aY u dP Y (RV.tmp Y) .nil Y
 refine aK [3,8] ?_;refine aT h Y (fun B h=>?_) (fun B h=>?_)
 ·refine aI (.k (qS [104,106,107,109,111,112,113,115,117,119,120] 2 Y lG) (.f [2] ?_));refine aH ?_;refine eV ?_;cases h;exact aY u dP Y (RV.tmp Y) .nil Y
 refine aK [3,10] ?_;refine aT h Y (fun C h=>?_) (fun C h=>?_)
 ·refine aI (.k (qS [104,106,107,109,111,112,113,115,117,119,120] 3 Y lG) (.f [2] ?_));refine aH ?_;refine eV ?_;cases h;exact aY u dP Y (RV.tmp Y) .nil Y
 refine aK [3,12] ?_;refine aT h Y (fun D h=>?_) (fun D h=>?_)
 ·refine aI (.k (qS [104,106,107,109,111,112,113,115,117,119,120] 4 Y lG) (.f [2] ?_));refine aH ?_;refine eV ?_;cases h;exact aY u dP Y (RV.tmp Y) .nil Y
 refine aK [3,14] ?_;refine aT h Y (fun E h=>?_) (fun E h=>?_)
 ·refine aI (.k (qS [104,106,107,109,111,112,113,115,117,119,120] 5 Y lG) (.f [2] ?_));refine aH ?_;refine eV ?_;cases h;exact aY u dP Y (RV.tmp Y) .nil Y
 refine aK [3,16] ?_;refine aT h Y (fun F h=>?_) (fun F h=>?_)
 ·refine aI (.k (qS [104,106,107,109,111,112,113,115,117,119,120] 6 Y lG) (.f [2] ?_));refine aH ?_;refine eV ?_;cases h;exact aY u dP Y (RV.tmp Y) .nil Y
 refine aK [3,18] ?_;refine aT h Y (fun G h=>?_) (fun G h=>?_)
 ·refine aI (.k (qS [104,106,107,109,111,112,113,115,117,119,120] 7 Y lG) (.f [2] ?_));refine aH ?_;refine eV ?_;cases h;exact aY u dP Y (RV.tmp Y) .nil Y
 refine aK [3,20] ?_;refine aT h Y (fun H h=>?_) (fun H h=>?_)
 ·refine aI (.k (qS [104,106,107,109,111,112,113,115,117,119,120] 8 Y lG) (.f [2] ?_));refine aH ?_;refine eV ?_;cases h;exact aY u dP Y (RV.tmp Y) .nil Y
 refine aK [3,22] ?_;refine aT h Y (fun I h=>?_) (fun I h=>?_)
 ·refine aI (.k (qS [104,106,107,109,111,112,113,115,117,119,120] 9 Y lG) (.f [2] ?_));refine aH ?_;refine eV ?_;cases h;exact aY u dP Y (RV.tmp Y) .nil Y
 refine aK [24] ?_;refine aT h Y (fun K h=>?_) (fun K h=>?_)
 ·refine aI (.k (qS [104,106,107,109,111,112,113,115,117,119,120] 10 Y lG) (.f [2] ?_));refine aH ?_;refine eV ?_;cases h;exact aY u dP Y (RV.tmp Y) .nil Y
 refine aF ?_;refine bN ?_;refine aI (.k (Bo [104,106,107,109,111,112,113,115,117,119,120] 11 Y) (.f [2] ?_));cases h;exact aH (aY u dP Y (RV.tmp Y) .nil Y)
theorem lF{a0 a1 r}(h:lL a0 a1=some r):
 VG Tryz.prog 185 [.v Q1 a0,.v Q0 a1] (.v Wr.bool r) []:=by
 refine VG.of Tryz.func185 Y Tryz.ntmps185 Y ?_;intro S w A;unfold lL at h;refine aK [0,1] ?_;refine aK [0,1,5] ?_;refine dB [1,5,8,9,10] ?_;obtain⟨O,I,K,L⟩:=cL h;refine jM (σs:=fun z:Int×Int=>⟨[(1,.v Q0 a1),(5,.v Q0 z.1),(8,.v Q1 a0),(9,.v Q0 (a0.length:Int)),(10,.v Q0 z.2)],[]⟩) (fun C:Unit=>⟨[],[]⟩) I (aC []) ?_ ?_
 ·intro C D;have h:=K _ D;refine aK [4] ?_;cases h;exact aH (aY A dP Y (RV.tmp Y) .nil Y)
 intro z N h;refine aK [1,5,8,9,10,11] ?_;refine aG ?_;refine aT h Y (fun E h=>?_) (fun E h=>?_)
 ·refine aF ?_;refine aG ?_;refine bT ?_;obtain⟨B,P,h⟩:=aA h;refine aI (.a 2 ?_);refine .k (aN 104 Eo Y (.cons (Z.int .i64) (.cons (Z.arr 8 (Z.int .u8)) .nil)) Y) (.t (bX Y Y Y Y (.UO sO sO) jN) (.f [1,5,7,8,9,10] ?_));refine aG ?_;refine aG ?_;obtain⟨M,u,h⟩:=aA h;refine eG (σ':=⟨[(1,.v Q0 a1),(7,.ptr 104 0),(8,.v Q1 a0),(9,.v Q0 (a0.length:Int)),(10,.v Q0 z.2),(23,.v Wr.bool M)],[(104,.box 214 [.v Q0 B.1,.v aQ B.2])]⟩) ?_ ?_
  ·refine cd u (fun F u=>?_) (fun F u=>?_)
   ·cases u;exact jy
   cases u;exact jy
  refine aT h Y (fun G h=>?_) (fun G h=>?_)
  ·refine aK [4] ?_;refine aH ?_;refine eV ?_;cases h;refine hX fun H=>?_;obtain rfl:=L _ H;exact aY A dP Y (RV.tmp Y) .nil Y
  refine aF ?_;refine dN [1,5,8,9,10] ?_;refine bN ?_;refine dN [1,5,8,9,10] ?_;cases h;exact cF (aC [])
 cases h;exact dA (dJ (aC []))
theorem sX{a0 a1 r}(h:kZ a0 a1=some r):
 VG Tryz.prog 139 [.v Ki a0,.v Q0 a1] (.v Q9 r) []:=by
 refine VG.of Tryz.func139 Y Tryz.ntmps139 Y ?_;intro S w A;unfold kZ at h;refine aI (.k (cK 101 Y (.UO sO (.UO sO (.UO sO sO))) Y) (.f [1,2] ?_));refine aG ?_;refine aG ?_;obtain⟨U,u,h⟩:=aA h;refine eG (σ':=⟨[(1,.v Q0 a1),(2,.ptr 101 0),(22,.v Wr.bool U)],[(101,.box 80 [.v Q0 a0.1,.v Q1 a0.2.1,.v (Wr.sl pB) a0.2.2.1,.v Wr.bool a0.2.2.2])]⟩) ?_ ?_
 ·refine cd u (fun G u=>?_) (fun G u=>?_)
  ·cases u;exact jy
  refine cd u (fun H u=>?_) (fun H u=>?_)
  ·cases u;exact jy
  refine cd u (fun I u=>?_) (fun I u=>?_)
  ·cases u;exact jy
  cases u;exact jy
 refine aT h Y (fun K h=>?_) (fun K h=>?_)
 ·refine aK [4] ?_;cases h;exact aH (aY A dP Y (RV.tmp Y) .nil Y)
 refine aF ?_;refine dB [1,2,27] ?_;refine aT h Y (fun L h=>?_) (fun L h=>?_)
 ·refine aK [4] ?_;cases h;exact aH (aY A dP Y (RV.tmp Y) .nil Y)
 refine aF ?_;refine aG ?_;refine aG ?_;obtain⟨V,u,h⟩:=aA h;refine eG (σ':=⟨[(1,.v Q0 a1),(2,.ptr 101 0),(43,.v Wr.bool V)],[(101,.box 80 [.v Q0 a0.1,.v Q1 a0.2.1,.v (Wr.sl pB) a0.2.2.1,.v Wr.bool a0.2.2.2])]⟩) ?_ ?_
 ·obtain⟨ae,C,u⟩:=aA u;refine cd u (fun z u=>?_) (fun z u=>?_)
  ·cases u;exact(J.cons (.none Y) (aB 1 Y QR Y Hw Y Y) Y Y (J.cons (.none Y) (aJ Y Y Y EH Hw) Y Y (J.cons (.none Y) (aD Y) Y Y (J.cons (.none Y) (aM (lF C) DX (.cons (.dir Y) (.cons (.dir Y) .nil))) Y Y (J.cons (.none Y) (Ii Y) Y Y (J.cons (.none Y) (aD Y) Y Y (J.left (GK.E5 34 Y Y Y z) Y (J.left (GK.E5 34 Y Y Y z) Y (J.left (GK.E5 34 Y Y Y z) Y (J.left (Ih 37 Y Y Y) Y (J.left (Ih 37 Y Y Y) Y (J.left (Ih 37 Y Y Y) Y (J.left (Ih 37 Y Y Y) Y (J.left (GK.E5 34 Y Y Y z) Y (J.cons (.none Y) (zK z Y Y) Y Y (J.fin (aC [])))))))))))))))))
  refine cd u (fun M u=>?_) (fun M u=>?_)
  ·cases u;refine ja 3 ?_;exact(J.k (aM (lF C) DX (.cons (.dir Y) (.cons (.dir Y) .nil))) jy)
  cases u;refine ja 3 ?_;exact(J.k (aM (lF C) DX (.cons (.dir Y) (.cons (.dir Y) .nil))) jy)
 refine aT h Y (fun N h=>?_) (fun N h=>?_)
 ·refine aK [4] ?_;cases h;exact aH (aY A dP Y (RV.tmp Y) .nil Y)
 refine aF ?_;refine dB [1,2,46,47,48] ?_;obtain⟨af,X,aa,ab⟩:=cL h;refine jM (σs:=fun B:Int=>⟨[(1,.v Q0 a1),(2,.ptr 101 0),(46,.v (Wr.sl pB) a0.2.2.1),(47,.v Q0 (a0.2.2.1.length:Int)),(48,.v Q0 B)],[(101,.box 80 [.v Q0 a0.1,.v Q1 a0.2.1,.v (Wr.sl pB) a0.2.2.1,.v Wr.bool a0.2.2.2])]⟩) (fun E:Unit=>⟨[],[]⟩) X (aC []) ?_ ?_
 ·intro E F;have h:=aa _ F;refine aK [4] ?_;cases h;exact aH (aY A dP Y (RV.tmp Y) .nil Y)
 intro B ad h;refine aK [1,2,46,47,48,49] ?_;refine aG ?_;refine aT h Y (fun O h=>?_) (fun O h=>?_)
 ·refine aF ?_;refine aG ?_;refine bT ?_;obtain⟨om,am,h⟩:=aA h;refine aI (.a 3 ?_);refine .k (aN 113 Ot Y (.cons (Z.int .i64) (.cons (Z.sl gF) .nil)) Y) ?_;refine .a 1 ?_;refine .t (bX Y Y Y Y (.UO sO sO) uT) (.f [1,2,5,6,46,47,48] ?_);refine aG ?_;obtain⟨ac,u,h⟩:=aA h;refine eG (σ':=⟨[(1,.v Q0 a1),(2,.ptr 101 0),(46,.v (Wr.sl pB) a0.2.2.1),(47,.v Q0 (a0.2.2.1.length:Int)),(48,.v Q0 B),(76,.v Wr.bool ac)],[(101,.box 80 [.v Q0 a0.1,.v Q1 a0.2.1,.v (Wr.sl pB) a0.2.2.1,.v Wr.bool a0.2.2.2])]⟩) ?_ ?_
  ·obtain⟨an,D,u⟩:=aA u;refine cd u (fun P u=>?_) (fun P u=>?_)
   ·cases u;refine ja 3 ?_;exact(J.k (aM (lF D) DX (.cons (.dir Y) (.cons (.dir Y) .nil))) jy)
   refine cd u (fun Q u=>?_) (fun Q u=>?_)
   ·cases u;refine ja 3 ?_;exact(J.k (aM (lF D) DX (.cons (.dir Y) (.cons (.dir Y) .nil))) jy)
   cases u;refine ja 3 ?_;exact(J.k (aM (lF D) DX (.cons (.dir Y) (.cons (.dir Y) .nil))) jy)
  refine aT h Y (fun R h=>?_) (fun R h=>?_)
  ·refine aK [4] ?_;refine aH ?_;refine eV ?_;cases h;refine hX fun T=>?_;obtain rfl:=ab _ T;exact aY A dP Y (RV.tmp Y) .nil Y
  refine aF ?_;refine bN ?_;refine dN [1,2,46,47,48] ?_;cases h;exact cF (aC [])
 cases h;exact dA (dJ (aC []))
theorem oO{a0 r}(h:jA a0=some r):
 VG Tryz.prog 225 [.v (Wr.E6 pB) a0] (.ref 0) [(0,.arr 197 pB r)]:=by
 refine VG.of Tryz.func225 Y Tryz.ntmps225 Y ?_;intro S w u;unfold jA at h;refine aI (.k (aP 101 197 pB) (.f [0] ?_));refine jJ (.a 1 ?_);refine .k (wY Y EA) (.f [0,4] ?_);refine aT h Y (fun z h=>?_) (fun z h=>?_)
 ·refine aI (.k (aP 102 197 pB) (.f [2] ?_));cases h;exact aH (wD u dP Y (aC [(0,102)]))
 refine aF ?_;obtain⟨B,A,h⟩:=aA h;refine aI (.k (sU (e:=pB) 103 EA uT Ot Y Y Y Y .nil) ?_);refine .a 1 ?_;refine .t (bU 104 A Y Y (.E6 Y) EA PQ uT Y Y Y Y Y) (.f [2] ?_);cases h;exact aH (wD u dP Y (aC [(0,104)]))
theorem qH{a0:Ht}{r:Ht}(h:gL a0=some r):
  VG Tryz.prog 225 [.v (Wr.sl pB) a0] (.ref 0) [(0,.arr 197 pB r)]:=
 rF fun b u=>oO (by cases b with | true=>rw[u rfl] at h ⊢;exact h | false=>exact Dw h)
theorem vZ{a0 r}(h:nD a0=some r):
 VG Tryz.prog 178 [.v Ki a0] (.agg [.v Q0 r.1,.ref 0,.ref 1,.v Wr.bool r.2.2.2]) [(0,.arr 214 gF r.2.1),(1,.arr 197 pB r.2.2.1)]:=by
 refine VG.of Tryz.func178 Y Tryz.ntmps178 Y ?_;intro S w D;unfold nD at h;refine aI (.k (cK 101 Y (.UO sO (.UO sO (.UO sO sO))) Y) (.k (aN 102 QC Y (.cons (Z.int .i64) (.cons (Z.sl gF) (.cons (Z.sl pB) (.cons Z.bool .nil)))) Y) (.f [1,2] ?_)));obtain⟨A,G,h⟩:=aA h;refine aI (.a 2 ?_);refine .k (fY 103000 (eT G) IX (.cons (.dir Y) .nil) Y) (.f [1,2] ?_);obtain⟨H,I,h⟩:=aA h;refine aI (.a 2 ?_);refine .k (fY 104000 (qH I) Tryz.call225 (.cons (.dir Y) .nil) Y) (.f [1,2] ?_);refine dB [1,2,14,15,16] ?_;obtain⟨O,K,L,P⟩:=cL h;refine jM (σs:=fun z:Int×Ht=>⟨[(1,.ptr 101 0),(2,.ptr 102 0),(14,.ref 104000),(15,.v Q0 (H.length:Int)),(16,.v Q0 z.1)],[(101,.box 80 [.v Q0 a0.1,.ref 103000,.ref 104000,.v Wr.bool a0.2.2.2]),(102,.box 80 [.v Q0 (0:Int),.v Q1 ([]:Q6),.v (Wr.sl pB) ([]:Ht),.v Wr.bool false]),(104000,.arr 197 pB z.2),(103000,.arr 214 gF A)]⟩) (fun u:Ht=>⟨[(1,.ptr 101 0),(2,.ptr 102 0)],[(101,.box 80 [.v Q0 a0.1,.ref 103000,.ref 104000,.v Wr.bool a0.2.2.2]),(102,.box 80 [.v Q0 (0:Int),.v Q1 ([]:Q6),.v (Wr.sl pB) ([]:Ht),.v Wr.bool false]),(103000,.arr 214 gF A),(104000,.arr 197 pB u)]⟩) K (aC []) ?_ ?_
 ·intro u E;have h:=L _ E;refine aI (.k (gZ Y Y Y Em yP) (.f [2] ?_));refine aH ?_;obtain rfl:=sM h;exact cB (σ':=⟨[(2,.ptr 90 0)],[(90,.box 80 [.v Q0 a0.1,.ref 0,.ref 1,.v Wr.bool a0.2.2.2]),(1,.arr 197 pB u),(0,.arr 214 gF A)]⟩) (aC [(90,102),(1,104000),(0,103000)]) (aY D dP Y (Fi Y Y Y Em yP) (.cons Y (.cons Y .nil)) Y)
 intro z N h;refine aK [1,2,14,15,16,17] ?_;refine aG ?_;refine aT h Y (fun F h=>?_) (fun F h=>?_)
 ·refine aF ?_;refine aG ?_;refine bT ?_;obtain⟨Q,B,h⟩:=aA h;refine aI (.a 1 ?_);refine .k (lX B Y Y Y EA uT) (.k (mB (dO B).2.2 Y Y .here Nl uT) (.k (aN 112 Ot Y (.cons (Z.int .i64) (.cons (Z.sl gF) .nil)) Y) ?_));refine .a 1 ?_;refine .t (bX Y Y Y Y (.UO sO sO) uT) (.f [1,2,3,4,14,15,16] ?_);obtain⟨R,M,h⟩:=aA h;obtain⟨T,C,h⟩:=aA h;refine eK 8 mixed (by exact(.k (aB 2 Y QR Y SQ Y Y) (.k (aJ Y Y Y Tryz.isAgg78 SQ) (.k (aD Y) (.k (aB 1 Y Ys Y Hw Y Y) (.k (aJ Y Y Y EH Hw) (.k (Zq (fY 113000 (eT M) IX (.cons (.dir Y) .nil) Y) (fun _=>(Sw.Sub.mk id (.cons Y (.db Y Y) .nil) .nil Y)) Y) (.k (lX C Y Y Y EA uT) (.k (Ap 1 Y Ys Y Hw Y Y) .nil))))))))) (by exact(J.t (Tq (dO C).2.2 Y Y Y (.snd .here) Hw) (J.kp [1,2,14,15,16] []))) ?_;refine bN ?_;refine dN [1,2,14,15,16] ?_;cases h;exact cF (aC [])
 cases h;exact dA (dJ (aC []))
theorem Br{a0 a1 r}(h:sK a0 a1=some r):
 VG Tryz.prog 221 [.v gF a0,.v Q0 a1] (.v Q0 r) []:=by
 refine VG.of Tryz.func221 Y Tryz.ntmps221 Y ?_;intro S w u;unfold sK at h;refine aI (.k (cK 101 Y (.UO sO sO) Y) (.f [1,2] ?_));refine aK [4] ?_;cases h;exact aH (aY u dP Y (RV.tmp Y) .nil Y)
theorem jK{a0 a1 r}(h:cA a0 a1=some r):
 VG Tryz.prog 220 [.v Q1 a0,.v Q0 a1,.YV 221 []] (.VO [.v Q0 r.1,.v Wr.bool r.2]) []:=by
 refine VG.of Tryz.func220 Y Tryz.ntmps220 Y ?_;intro S w C;unfold cA at h;refine aK [0,1,2] ?_;refine aK [0,1,2,8] ?_;refine aK [0,1,2,8,9,10] ?_;refine aG ?_;obtain⟨N,G,H,O⟩:=cL h;refine jM (σs:=fun A:Int×Int=>⟨[(0,.v Q1 a0),(1,.v Q0 a1),(2,.YV 221 []),(8,.v Q0 (a0.length:Int)),(9,.v Q0 A.1),(10,.v Q0 A.2)],[]⟩) (fun z:Int=>⟨[(0,.v Q1 a0),(1,.v Q0 a1),(2,.YV 221 []),(8,.v Q0 (a0.length:Int)),(9,.v Q0 z)],[]⟩) G (aC []) ?_ ?_
 ·intro z D;have h:=H _ D;refine aG ?_;obtain⟨I,u,h⟩:=aA h;refine eG (σ':=⟨[(6,.v Q0 z),(7,.v Wr.bool I)],[]⟩) ?_ ?_
  ·refine cd u (fun B u=>?_) (fun B u=>?_)
   ·obtain⟨P,Q,u⟩:=aA u;obtain⟨R,K,u⟩:=aA u;cases u;refine ja 11 ?_;exact(J.g B (tI Y (Br K) Tryz.call221 (.cons (.dir Y) (.cons (.dir Y) .nil))) jy)
   cases u;exact jy
  cases h;exact aH (bS C dP Y (RV.tmp Y) (RV.tmp Y) .nil Y)
 intro A M h;refine dB [0,1,2,8,9,10,17] ?_;refine aT h Y (fun E h=>?_) (fun E h=>?_)
 ·refine aF ?_;refine bT ?_;refine aI (.a 4 ?_);refine .k (eY (.inr Y) (by decide) Y Y) (.f [0,1,2,8,9,10,11] ?_);obtain⟨T,U,h⟩:=aA h;obtain⟨V,L,h⟩:=aA h;refine aI (.a 6 ?_);refine .k (tI Y (Br L) Tryz.call221 (.cons (.dir Y) (.cons (.dir Y) .nil))) (.f [0,1,2,8,9,10,11,31] ?_);refine aT h Y (fun F h=>?_) (fun F h=>?_)
  ·refine dN [0,1,2,8,9,10] ?_;cases h;exact bN (cF (aC []))
  refine dN [0,1,2,8,9,10] ?_;cases h;exact bN (cF (aC []))
 cases h;exact dA (dJ (aC []))
theorem tU(A0:Nat->Nat){a0:Q6}{a1:Int}{a2:Q6}{r:Q6}(h:gH a0 a1 a2=some r):
 UT Tryz.prog 222 [.ref 9000,.v Q0 a1,.v Q1 a2] [(9000,.arr 214 gF a0)] (.ref 0) [(0,.arr 214 gF r)]:=by
  obtain⟨h0,h1,h2,rfl⟩:=FQ h;obtain⟨i,rfl⟩:∃i:Nat,a1=(i:Int):=⟨a1.toNat,by omega⟩;obtain⟨A,B,hA,rfl⟩:∃A B,A.length=i/\a0=A++B:=⟨a0.take i,a0.drop i,by rw[A6];omega,(V3 _ _).symm⟩;subst hA;have H:(A++B).take ((A.length:Int)).toNat++(a2++(A++B).drop ((A.length:Int)).toNat)=A++(a2++B):=by simp
  rw[H];clear H h h0 h1;have I:(A++B).length=A.length+B.length:=pT;have N:Sw.sub (A++B) (A.length:Int) ((A++B).length:Int)=some B:=by rw[Sw.sub,VX (by omega),j5,j5,aDb,og]
  have D:ar .add .i64 ((A++B).length:Int) (a2.length:Int)=((A.length+B.length+a2.length:Nat):Int):=by simp only[ar,IntKind.wrap_i64];omega
  have O:ar .sub .i64 (ar .add .i64 ((A++B).length:Int) (a2.length:Int)) (A.length:Int)=((B.length+a2.length:Nat):Int):=by rw[D];simp only[ar,IntKind.wrap_i64];omega
  have z:ar .add .i64 (A.length:Int) (a2.length:Int)=((A.length+a2.length:Nat):Int):=by simp only[ar,IntKind.wrap_i64];omega
  refine UT.of Tryz.func222 Y Tryz.ntmps222 Y ?_;intro S w R F
  repeat refine aG ?_
  refine eN (.k (kP gF) (.f [0,1,2] ?_))
  repeat refine aG ?_
  refine eN (.a 2 ?_);refine .k (Ku N Y Y Y xW jN) (.f [0,1,2] ?_)
  repeat refine aG ?_
  refine dN [0,1,2,7] ?_
  repeat refine aG ?_
  refine dN [0,1,2,7,16] ?_
  repeat refine aG ?_
  rcases aC7 (cm .eql (a2.length:Int) (0:Int)) with u | u
  ·have G:a2=[]:=eu (by simp[cm] at u;simp[u]);have P:A++B=A++(a2++B):=by rw[G];rfl
   refine vD Y u ?_
   repeat refine aG ?_
   refine dN [0,1,2,6,7,16,17] ?_;refine aH ?_;rw[P];exact eU F Y (aC [(0,9000)])
  have Q:0<a2.length:=by
   simp[cm] at u;exact sy.2 u
  have G:a2≠ []:=sy.1 Q;refine Aq Y u ?_;clear u
  repeat first | refine aF ?_ | refine aG ?_
  refine dN [0,1,2,7,8] ?_
  repeat refine aG ?_
  refine dN [0,1,2,7,8,22] ?_
  repeat refine aG ?_
  rcases aC7 (cm .eql (A.length:Int) ((A++B).length:Int)) with u | u
  ·have C:B=[]:=eu (by simp[cm] at u;omega);have T:Sw.app (A++B) a2=some (A++(a2++B)):=by subst C;rw[Sw.app,VX h2];simp
   refine vD Y u ?_
   repeat refine aG ?_
   refine eN (.a 2 ?_);refine .t (bU 1 T Y Y (.sl Y) xW Kj jN Y Y Y Y Y) (.f [1,2,6,7,8,24,25] ?_);refine aH ?_;exact eU F Y (aC [(0,1)])
  have C:B≠ []:=by
   rintro rfl;simp[cm] at u
  have ab:=sy.2 C;refine Aq Y u ?_;clear u
  repeat first | refine aF ?_ | refine aG ?_
  refine Po (t:=0) (g':=[(1,.v Q0 (A.length:Int)),(2,.v Q1 a2),(7,.v Q0 (a2.length:Int)),(8,.v Q0 ((A++B).length:Int))]) Y C Y (by exact(.cons Y (.cons Y (.cons Y (.cons Y .nil))))) Y fun b p q c ZB M c9=>?_;have E:(gF).n=9:=rfl;refine eN (.a 4 ?_);refine .k (CA Y xW) (.k (CB Y Y) (.f [0,1,2,7,8,31] ?_))
  repeat refine aG ?_
  rcases aC7 (cm .gtr (ar .add .i64 ((A++B).length:Int) (a2.length:Int)) (c:Int)) with u | u
  ·have ac:c<A.length+(B.length+a2.length):=by
    rw[D] at u;simp[cm] at u;omega
   refine vD Y u ?_;clear u
   repeat refine aG ?_
   refine eN (.a 2 ?_);refine .k (Eb (e:=gF) A.length Y (by omega) Y Y Y xW jN) ?_;refine .a 5 ?_;refine .k (FP (z0:=_) (zv:=((0:Int),aU)) 1 Y Y Y Y Y O (by omega) (by omega) (by omega) Y xW U3 Kj jN Y (Z.pr (Z.int .i64) (Z.arr 8 (Z.int .u8))) Y) (.f [0,1,2,7,8,9] ?_);have K:Sw.sub (A++List.replicate (B.length+a2.length) ((0:Int),aU)) (A.length:Int) (((A++List.replicate (B.length+a2.length) ((0:Int),aU))).length:Int)=some (List.replicate (B.length+a2.length) ((0:Int),aU)):=by
    rw[Sw.sub,VX (by simp only[pT,mw];omega),j5,j5,aDb,og]
   have U:a2.length<=((A++List.replicate (B.length+a2.length) ((0:Int),aU))).length - Int.toNat (A.length:Int):=by
    simp only[pT,mw];omega
   repeat refine aG ?_
   refine eN (.a 2 ?_);refine .k (Ku K Y Y Y xW jN) ?_;refine .a 1 ?_;refine .t (Md K Y Y (.sl Y) U xW jN Y) (.f [0,1,2,7,8,9] ?_);have V:List.take (Int.toNat (A.length:Int)) (A++List.replicate (B.length+a2.length) ((0:Int),aU))++a2++List.drop (Int.toNat (A.length:Int)+a2.length) (A++List.replicate (B.length+a2.length) ((0:Int),aU))=(A++(a2++List.replicate B.length ((0:Int),aU))):=by
    simp[aD4,List.drop_replicate]
   rw[V];have L:Sw.sub (A++(a2++List.replicate B.length ((0:Int),aU))) (ar .add .i64 (A.length:Int) (a2.length:Int)) (((A++(a2++List.replicate B.length ((0:Int),aU)))).length:Int)=some (List.replicate B.length ((0:Int),aU)):=by
    rw[z,Sw.sub,VX (by simp only[pT,mw];omega),j5,j5,aDb,<-u9,List.drop_left' (by rw[pT])]
   have X:B.length<=((A++(a2++List.replicate B.length ((0:Int),aU)))).length - Int.toNat (ar .add .i64 (A.length:Int) (a2.length:Int)):=by
    rw[z];simp only[pT,mw];omega
   repeat refine aG ?_
   refine eK 8 mixed (by exact(.k (aD Y) (.k (aD Y) (.k (aD Y) (.k (cT Y Y Y) (.k (Ku L Y Y Y xW jN) (.k (aD Y) (.k (aD Y) (.k (zO (e:=gF) (p+A.length*(gF).n) B.length (c - A.length) Y (by omega) (by omega) Y (by omega) Y Y Y xW jN) .nil))))))))) (by exact(J.t (Md L Y Y (.H9 Y Y Y Y (by omega)) X xW jN Y) (J.kp [0,1,2,7,8,9,53] []))) ?_;have X0:(List.take (Int.toNat (ar .add .i64 (A.length:Int) (a2.length:Int))) (A++(a2++List.replicate B.length ((0:Int),aU)))++B++List.drop (Int.toNat (ar .add .i64 (A.length:Int) (a2.length:Int))+B.length) (A++(a2++List.replicate B.length ((0:Int),aU))))=A++(a2++B):=by
    rw[z,j5,<-u9 A a2 (List.replicate _ _),List.take_left' (by rw[pT]),aDy (by simp only[pT,mw];omega)];simp
   rw[X0]
   repeat refine aG ?_
   refine dN [0,1,2,6,7,8,9,53,55] ?_;refine aH ?_;exact eU F Y (aC [(0,1)])
  ·have aa:A.length+B.length+a2.length<=c:=by
    rw[D] at u;simp[cm] at u;omega
   have hq:a2.length*(gF).n<=q:=by
    rw[E,I] at M;rw[E];omega
   refine Aq Y u ?_;clear u
   repeat first | refine aF ?_ | refine aG ?_
   refine eN (.a 4 ?_);refine .k (Eb (e:=gF) (A.length+B.length+a2.length) D (by omega) Y Y Y xW jN) (.f [0,1,2,7,8] ?_)
   repeat refine aG ?_
   refine eN (.a 5 ?_);refine .k (zO (e:=gF) (p+(A.length+a2.length)*(gF).n) B.length (c - (A.length+a2.length)) z (by omega) (by omega) Y (by omega) Y Y Y xW jN) (.k (Tv Tryz.func251 (by kernel_rfl) (by kernel_rfl) (by kernel_rfl) (R:=4) (by kernel_rfl) Y Y Y G C Y xW jN) (.f [0,1,2,7,8,68] ?_))
   repeat refine aG ?_
   refine vD Y Y ?_
   repeat refine aG ?_
   refine eK 8 mixed (by exact(.k (aD Y) (.k (aD Y) (.k (aD Y) (.k (cT Y Y Y) (.k (zO (e:=gF) (p+(A.length+a2.length)*(gF).n) B.length (c - (A.length+a2.length)) z (by omega) (by omega) Y (by omega) Y Y Y xW jN) (.k (aD Y) (.k (aD Y) (.k (zO (e:=gF) (p+A.length*(gF).n) (B.length+a2.length) (c - A.length) Y (by omega) (by omega) Y (by omega) Y Y Y xW jN) .nil))))))))) (by exact(J.t (Tu (m:=a2.length) Y Y Y Y Y Y Y hq (by omega) xW jN Y) (J.kp [0,1,2,7,8] []))) ?_
   repeat refine aG ?_
   refine eN (.a 2 ?_);refine .k (zO (e:=gF) (p+A.length*(gF).n) (B.length+a2.length) (c - A.length) Y (by omega) (by omega) Y (by omega) Y Y Y xW jN) ?_;refine .a 1 ?_;refine .t (Xf Y Y (.sl Y) Y Y Y (by omega) xW jN Y) (.f [0] ?_);refine wB (Bb (t:=0) (by simp only[pT];omega) aa (by rw[E,I] at M;rw[E];omega) (by omega) Y) ?_
   repeat refine aG ?_
   refine dN [0,6,83] ?_;refine aH ?_;exact eU F Y (aC [(0,9000)])
theorem Ow{a0 a1 a2 r}(h:tL a0 a1 a2=some r):
 VG Tryz.prog 164 [.v Ki a0,.v Q0 a1,.v gF a2] (.VO [.v Ki r.1,.v Q9 r.2]) []:=by
 refine VG.of Tryz.func164 Y Tryz.ntmps164 Y ?_;intro S w B;unfold tL at h;refine aI (.k (cK 101 Y (.UO sO (.UO sO (.UO sO sO))) Y) (.k (cK 102 Y (.UO sO sO) Y) (.k (aN 103 QC Y (.cons (Z.int .i64) (.cons (Z.sl gF) (.cons (Z.sl pB) (.cons Z.bool .nil)))) Y) (.f [1,3,5,6] ?_))));obtain⟨I,K,h⟩:=aA h;refine jJ (.k (aS Y Y (.UO sO (.UO sO (.UO sO sO))) Em yP) ?_);refine .a 1 ?_;refine .k (aM (sX K) NA (.cons (.dir Y) (.cons (.dir Y) .nil))) (.f [1,3,5,6,8] ?_);refine aK [1,3,5,6,8,15] ?_;refine aT h Y (fun F h=>?_) (fun F h=>?_)
 ·refine aI (.k (bR yQ (.cons (Z.int .i64) (.cons (Z.sl gF) (.cons (Z.sl pB) (.cons Z.bool .nil)))) .nil) (.f [6,7] ?_));refine aH ?_;obtain rfl:=sM h;exact cB (σ':=⟨[(6,.ptr 90 0),(7,.v Q9 I)],[(90,.box 80 [.v Q0 (0:Int),.v Q1 ([]:Q6),.v (Wr.sl pB) ([]:Ht),.v Wr.bool false])]⟩) (aC [(90,103)]) (bS B dP Y (aV Y Y (.UO sO (.UO sO (.UO sO sO))) Em yP) (RV.tmp Y) .nil Y)
 refine aF ?_;refine aG ?_;refine aG ?_;obtain⟨L,z,h⟩:=aA h;refine eG (σ':=⟨[(3,.ptr 101 0),(5,.ptr 102 0),(6,.ptr 103 0),(26,.v Wr.bool L)],[(101,.box 80 [.v Q0 a0.1,.v Q1 a0.2.1,.v (Wr.sl pB) a0.2.2.1,.v Wr.bool a0.2.2.2]),(102,.box 214 [.v Q0 a2.1,.v aQ a2.2]),(103,.box 80 [.v Q0 (0:Int),.v Q1 ([]:Q6),.v (Wr.sl pB) ([]:Ht),.v Wr.bool false])]⟩) ?_ ?_
 ·refine cd z (fun G z=>?_) (fun G z=>?_)
  ·cases z;exact jy
  cases z;exact jy
 refine aT h Y (fun H h=>?_) (fun H h=>?_)
 ·refine aI (.k (bR yQ (.cons (Z.int .i64) (.cons (Z.sl gF) (.cons (Z.sl pB) (.cons Z.bool .nil)))) .nil) (.f [6,7] ?_));refine aH ?_;obtain rfl:=sM h;exact cB (σ':=⟨[(6,.ptr 90 0),(7,.v Q9 (some (1:Int)))],[(90,.box 80 [.v Q0 (0:Int),.v Q1 ([]:Q6),.v (Wr.sl pB) ([]:Ht),.v Wr.bool false])]⟩) (aC [(90,103)]) (bS B dP Y (aV Y Y (.UO sO (.UO sO (.UO sO sO))) Em yP) (RV.tmp Y) .nil Y)
 refine aF ?_;obtain⟨u,M,h⟩:=aA h;refine aI (.k (aS Y Y (.UO sO (.UO sO (.UO sO sO))) Em yP) (.k (fY 105000 (vZ M) Tryz.call178 (.cons (.dir Y) .nil) Y) (.f [3,5,6] ?_)));obtain⟨R,N,h⟩:=aA h;refine aI (.a 4 ?_);refine .k (rE (jK N) Tryz.call220 (.cons (.ref Y Y) (.cons (.dir Y) (.cons .fn .nil))) (XH.VO (.v (.v .nil)))) (.f [3,5,6,9,10] ?_);refine dB [3,5,6,9,39] ?_;obtain⟨O,P,h⟩:=fE h;refine sZ (fun C:Q6=>⟨[(3,.ptr 101 0),(6,.ptr 103 0)],[(101,.box 80 [.v Q0 u.1,.ref 108,.ref 105001,.v Wr.bool u.2.2.2]),(103,.box 80 [.v Q0 (0:Int),.v Q1 ([]:Q6),.v (Wr.sl pB) ([]:Ht),.v Wr.bool false]),(108,.arr 214 gF C),(105001,.arr 197 pB u.2.2.1)]⟩) (fun x=>O x=some r) Y ?_ ?_ ?_
 ·intro C h;rw[P] at h;refine aI (.k (gZ Y Y Y Em yP) (.f [6,7] ?_));refine aH ?_;obtain rfl:=sM h;exact cB (σ':=⟨[(6,.ptr 90 0),(7,.v Q9 (none:Option Int))],[(90,.box 80 [.v Q0 u.1,.v Q1 C,.v (Wr.sl pB) u.2.2.1,.v Wr.bool u.2.2.2])]⟩) (aC [(90,103)]) (bS B dP Y (aV Y Y (.UO sO (.UO sO (.UO sO sO))) Em yP) (RV.tmp Y) .nil Y)
 ·intro D;replace h:=iK D h;obtain⟨T,E,h⟩:=aA h;refine eN (.a 3 ?_);refine .k (aS Y Y (.UO sO sO) Yp jN) (.k (lX E Y Y Y xW jN) (.t (uQ (dO E).2.2 Y Y Y jN) (.f [3,6] ?_)));exact cC h (aC [(108,105000)])
 ·intro D;replace h:=iL D h;obtain⟨U,Q,h⟩:=aA h;refine eN (.a 3 ?_);refine .k (aS Y Y (.UO sO sO) Yp jN) (.k (dI (e:=gF) xW jN Eo Y Y Y Y (.cons (.dir Y) .nil)) (.t (eM [105000] (Bv [(9000,105000),(0,109)]) (eO _) (fun A=>tU A Q) Tryz.call222 (fun A=>(.arr .nil Y))) (.f [3,6] ?_)));exact cC h (aC [(108,109)])
theorem uI(A:Nat->Nat){a1 a2 b0 b1 b2 b3 b4 b5 b6 b7 b8 b9 bA bB bC bD bE bF bG bH bI bJ bK bL r}(h:eR a1 a2 b0 b1 b2 b3 b4 b5 b6 b7 b8 b9 bA bB bC bD bE bF bG bH bI bJ bK bL=some r):
 UT Tryz.prog 105 [.ptr 9000 0,.v Q0 a1,.v aQ a2] (kE 9000 (some (A 9000)) 9100 (some (A 9100)) 9200 (some (A 9200)) 9050 9051 9052 9053 b0 b1 b2 b3 b4 b5 b6 b7 b8 b9 bA bB bC bD bE bF bG bH bI bJ bK bL) (.v Q9 r.1) (kE 9000 (some (A 9000)) 9100 (some (A 9100)) 9200 (some (A 9200)) 400 401 402 403 b0 b1 b2 b3 r.2.1 r.2.2 b6 b7 b8 b9 bA bB bC bD bE bF bG bH bI bJ bK bL):=by
 refine UT.of Tryz.func105 Y Tryz.ntmps105 Y ?_;intro S w R u;unfold eR at h;refine aI (.k (cK 101 Y sO Y) (.f [0,1,5] ?_));refine aG ?_;obtain⟨D,C,h⟩:=aA h;refine eK 19 mixed (by exact(.k (aD Y) (.k (aL Y) (.k (aB 1 Y Sr Y OD Y Y) (.k (aB 6 Y vH Y yP Y Y) (.k (aJ Y Y Y Em yP) (.k (aD Y) (.k (aL Y) (.k (aB 0 Y Sr Y S3 Y Y) (.k (aJ Y Y Y G3 S3) (.k (aD Y) (.k (aJ Y Y Y vT nG) (.k (bR vP (.cons (Z.int .i64) (.cons (Z.arr 8 (Z.int .u8)) .nil)) (.cons Y (.dir Y) Y Y Y Y (.cons Y (.dir Y) Y Y Y Y .nil))) (.k (aM (Ow C) Tryz.call164 (.cons (.dir Y) (.cons (.dir Y) (.cons (.agg Y (.same (.same .nil)) (.UO sO sO) Y) .nil)))) (.k (aD Y) (.k (bW Y Y) (.k (bW Y Y) (.k (aN 103 QC Y (.cons (Z.int .i64) (.cons (Z.sl gF) (.cons (Z.sl pB) (.cons Z.bool .nil)))) Y) (WZ.storeAll (.none Y) Y Y Y Y (.UO sO (.UO sO (.UO sO sO))) yP (.k (bP Y) .nil)))))))))))))))))))) (by exact(J.kp [0,1,5,7,8] [])) ?_;refine dB [0,1,5,7,8,26] ?_;refine aT h Y (fun B h=>?_) (fun B h=>?_)
 ·refine aK [0,6] ?_;cases h;exact aH (eU u Y (aC [(403,9053),(402,9052),(401,9051),(400,9050)]))
 refine aF ?_;refine aG ?_;obtain⟨E,z,h⟩:=aA h;refine eK 14 mixed (by exact(.k (aD Y) (.k (aD Y) (.k (aL Y) (.k (aB 1 Y Sr Y OD Y Y) (.k (aB 5 Y vH Y Kd Y Y) (.k (aJ Y Y Y JB Kd) (.k (aD Y) (.k (aS Y Y (.UO sO (.UO sO (.UO sO sO))) Em yP) (.k (aJ Y Y Y vT nG) (.k (aL Y) (.k (aB 1 Y Sr Y OD Y Y) (.k (aB 6 Y vH Y yP Y Y) (WZ.store (.none Y) Y Y Y Y Y Y Y yP (.k (lX z Y Y Y Td nG) .nil))))))))))))))) (by exact(J.t (uQ (dO z).2.2 Y Y Y nG) (J.kp [0] []))) ?_;refine aK [0,6] ?_;cases h;exact aH (eU u Y (aC [(403,9053),(402,9052),(401,9051),(400,9050)]))
theorem Ca(A:Nat->Nat){a1 b0 b1 b2 b3 b4 b5 b6 b7 b8 b9 bA bB bC bD bE bF bG bH bI bJ bK bL r}(h:nM a1 b0 b1 b2 b3 b4 b5 b6 b7 b8 b9 bA bB bC bD bE bF bG bH bI bJ bK bL=some r):
 UT Tryz.prog 104 [.ptr 9000 0,.v Q4 a1] (kE 9000 (some (A 9000)) 9100 (some (A 9100)) 9200 (some (A 9200)) 9050 9051 9052 9053 b0 b1 b2 b3 b4 b5 b6 b7 b8 b9 bA bB bC bD bE bF bG bH bI bJ bK bL) (.VO [.v aQ r.1,.v Q9 r.2.1]) (Su 9000 (some (A 9000)) 301 none 302 none 400 401 402 403 r.2.2):=by
 refine UT.of Tryz.func104 Y Tryz.ntmps104 Y ?_;intro S w R u;unfold nM at h;refine aI (.k (cK 101 Y (.UO sO (.UO sO (.UO sO sO))) Y) (.k (aN 102 By Y (.cons (Z.arr 8 (Z.int .u8)) .nil) Y) (.f [0,3,4] ?_)));obtain⟨z,B,h⟩:=aA h;refine aI (.k (eJ (e:=aQ) (v:=aU) Hu xJ I5 Y Y (Z.arr 8 (Z.int .u8))) ?_);refine .a 5 ?_;refine .t (eM [9000,9100,9200,9050,9051,9052,9053] (vG [(9000,9000),(9100,9100),(9200,9200),(9050,9050),(9051,9051),(9052,9052),(9053,9053),(400,103),(401,104),(402,105),(403,106)]) (dE Y) (fun A=>uI A B) Tryz.call105 (fun A=>(.box Y (.box Y (.box Y (.arr (.mp (.arr (.arr .nil Y) Y) Y) Y) Y) Y) Y))) (.f [0,4,5] ?_);refine aH ?_;obtain rfl:=sM h;exact tJ [(0,.ptr 9000 0),(4,.ptr 90 0),(5,.v Q9 z.1)] [(90,.box 30 [.v aQ aU])] (aC [(90,102),(403,106),(302,9200),(402,105),(401,104),(400,103),(301,9100)]) (eZ u Y (dG Y Y Y vT nG) (RV.tmp Y) (.cons Y (.cons Y (.cons Y (.cons Y (.cons Y (.cons Y (.cons Y .nil))))))))
theorem Cb(A:Nat->Nat){a1 b0 b1 b2 b3 b4 b5 b6 b7 b8 b9 bA bB bC bD bE bF bG bH bI bJ bK bL r}(h:nN a1 b0 b1 b2 b3 b4 b5 b6 b7 b8 b9 bA bB bC bD bE bF bG bH bI bJ bK bL=some r):
 UT Tryz.prog 106 [.ptr 9000 0,.v Q4 a1] (kE 9000 (some (A 9000)) 9100 (some (A 9100)) 9200 (some (A 9200)) 9050 9051 9052 9053 b0 b1 b2 b3 b4 b5 b6 b7 b8 b9 bA bB bC bD bE bF bG bH bI bJ bK bL) (.VO [.v aQ r.1,.v Q9 r.2.1]) (Su 9000 (some (A 9000)) 301 none 302 none 400 401 402 403 r.2.2):=by
 refine UT.of Tryz.func106 Y Tryz.ntmps106 Y ?_;intro S w R u;unfold nN at h;refine aI (.k (cK 101 Y (.UO sO (.UO sO (.UO sO sO))) Y) (.k (aN 102 By Y (.cons (Z.arr 8 (Z.int .u8)) .nil) Y) (.f [0,3,4] ?_)));obtain⟨z,B,h⟩:=aA h;refine aI (.k (eJ (e:=aQ) (v:=aU) Hu xJ I5 Y Y (Z.arr 8 (Z.int .u8))) ?_);refine .a 3 ?_;refine .k (eJ (e:=aQ) (v:=aU) Hu xJ I5 Y Y (Z.arr 8 (Z.int .u8))) (.t (eM [9000,9100,9200,9050,9051,9052,9053] (vG [(9000,9000),(9100,9100),(9200,9200),(9050,9050),(9051,9051),(9052,9052),(9053,9053),(400,103),(401,104),(402,105),(403,106)]) (dE Y) (fun A=>uI A B) Tryz.call105 (fun A=>(.box Y (.box Y (.box Y (.arr (.mp (.arr (.arr .nil Y) Y) Y) Y) Y) Y) Y))) (.f [0,4,5] ?_));refine aH ?_;obtain rfl:=sM h;exact tJ [(0,.ptr 9000 0),(4,.ptr 90 0),(5,.v Q9 z.1)] [(90,.box 30 [.v aQ aU])] (aC [(90,102),(403,106),(302,9200),(402,105),(401,104),(400,103),(301,9100)]) (eZ u Y (dG Y Y Y vT nG) (RV.tmp Y) (.cons Y (.cons Y (.cons Y (.cons Y (.cons Y (.cons Y (.cons Y .nil))))))))
theorem Ac(A:Nat->Nat){a1 b0 b1 b2 b3 b4 b5 b6 b7 b8 b9 bA bB bC bD bE bF bG bH bI bJ bK bL r}(h:fU a1 b0 b1 b2 b3 b4 b5 b6 b7 b8 b9 bA bB bC bD bE bF bG bH bI bJ bK bL=some r):
 UT Tryz.prog 108 [.ptr 9000 0,.v Q0 a1] (kE 9000 (some (A 9000)) 9100 (some (A 9100)) 9200 (some (A 9200)) 9050 9051 9052 9053 b0 b1 b2 b3 b4 b5 b6 b7 b8 b9 bA bB bC bD bE bF bG bH bI bJ bK bL) (.VO [.v aQ r.1,.v Q9 r.2]) (kE 9000 (some (A 9000)) 9100 (some (A 9100)) 9200 (some (A 9200)) 400 401 402 403 b0 b1 b2 b3 b4 b5 b6 b7 b8 b9 bA bB bC bD bE bF bG bH bI bJ bK bL):=by
 refine UT.of Tryz.func108 Y Tryz.ntmps108 Y ?_;intro S w R z;unfold fU at h;refine aI (.k (aN 101 By Y (.cons (Z.arr 8 (Z.int .u8)) .nil) Y) (.f [0,1,4] ?_));refine aG ?_;refine aG ?_;obtain⟨E,u,h⟩:=aA h;refine eG (σ':=⟨[(0,.ptr 9000 0),(1,.v Q0 a1),(4,.ptr 101 0),(15,.v Wr.bool E)],((101,.box 30 [.v aQ aU])::kE 9000 (some (A 9000)) 9100 (some (A 9100)) 9200 (some (A 9200)) 9050 9051 9052 9053 b0 b1 b2 b3 b4 b5 b6 b7 b8 b9 bA bB bC bD bE bF bG bH bI bJ bK bL)⟩) ?_ ?_
 ·refine cd u (fun C u=>?_) (fun C u=>?_)
  ·cases u;exact jy
  cases u;exact jy
 refine aT h Y (fun D h=>?_) (fun D h=>?_)
 ·refine aI (.k (eJ (e:=aQ) (v:=aU) Hu xJ I5 Y Y (Z.arr 8 (Z.int .u8))) (.f [0,4,5] ?_));refine aH ?_;obtain rfl:=sM h;exact tJ [(0,.ptr 9000 0),(4,.ptr 90 0),(5,.v Q9 (some (1:Int)))] [(90,.box 30 [.v aQ aU])] (aC [(90,101),(403,9053),(402,9052),(401,9051),(400,9050)]) (eZ z Y (dG Y Y Y vT nG) (RV.tmp Y) (.cons Y (.cons Y (.cons Y (.cons Y (.cons Y (.cons Y (.cons Y .nil))))))))
 refine aF ?_;obtain⟨F,B,h⟩:=aA h;refine aI (.a 6 ?_);refine .k (lX B Y Y Y Td nG) (.k (mB (dO B).2.2 Y Y .here vT nG) (.f [0,4,5] ?_));refine aH ?_;obtain rfl:=sM h;exact tJ [(0,.ptr 9000 0),(4,.ptr 90 0),(5,.v Q9 (none:Option Int))] [(90,.box 30 [.v aQ F])] (aC [(90,101),(403,9053),(402,9052),(401,9051),(400,9050)]) (eZ z Y (dG Y Y Y vT nG) (RV.tmp Y) (.cons Y (.cons Y (.cons Y (.cons Y (.cons Y (.cons Y (.cons Y .nil))))))))
theorem Cc(A:Nat->Nat){a1 b0 b1 b2 b3 b4 b5 b6 b7 b8 b9 bA bB bC bD bE bF bG bH bI bJ bK bL r}(h:nO a1 b0 b1 b2 b3 b4 b5 b6 b7 b8 b9 bA bB bC bD bE bF bG bH bI bJ bK bL=some r):
 UT Tryz.prog 107 [.ptr 9000 0,.v Q4 a1] (kE 9000 (some (A 9000)) 9100 (some (A 9100)) 9200 (some (A 9200)) 9050 9051 9052 9053 b0 b1 b2 b3 b4 b5 b6 b7 b8 b9 bA bB bC bD bE bF bG bH bI bJ bK bL) (.VO [.v aQ r.1,.v Q9 r.2.1]) (Su 9000 (some (A 9000)) 301 none 302 none 400 401 402 403 r.2.2):=by
 refine UT.of Tryz.func107 Y Tryz.ntmps107 Y ?_;intro S w R z;unfold nO at h;refine aI (.k (cK 101 Y (.UO sO (.UO sO (.UO sO sO))) Y) (.k (aN 102 By Y (.cons (Z.arr 8 (Z.int .u8)) .nil) Y) (.f [0,3,4] ?_)));obtain⟨u,B,h⟩:=aA h;refine aI (.a 3 ?_);refine .t (eM [9000,9100,9200,9050,9051,9052,9053] (vG [(9000,9000),(9100,9100),(9200,9200),(9050,9050),(9051,9051),(9052,9052),(9053,9053),(400,103),(401,104),(402,105),(403,106)]) (dE Y) (fun A=>Ac A B) Tryz.call108 (fun A=>(.box Y (.box Y (.box Y (.arr (.mp (.arr (.arr .nil Y) Y) Y) Y) Y) Y) Y))) (.f [0,4,5] ?_);refine aH ?_;obtain rfl:=sM h;exact tJ [(0,.ptr 9000 0),(4,.ptr 90 0),(5,.v Q9 u.2)] [(90,.box 30 [.v aQ u.1])] (aC [(90,102),(403,106),(302,9200),(402,105),(401,104),(400,103),(301,9100)]) (eZ z Y (dG Y Y Y vT nG) (RV.tmp Y) (.cons Y (.cons Y (.cons Y (.cons Y (.cons Y (.cons Y (.cons Y .nil))))))))
theorem Ad(A:Nat->Nat){a1 a2 b0 b1 b2 b3 b4 b5 b6 b7 b8 b9 bA bB bC bD bE bF bG bH bI bJ bK bL r}(h:jL a1 a2 b0 b1 b2 b3 b4 b5 b6 b7 b8 b9 bA bB bC bD bE bF bG bH bI bJ bK bL=some r):
 UT Tryz.prog 165 [.ptr 9000 1,.v Q1 a1,.v Q0 a2] (kE 9000 (some (A 9000)) 9100 (some (A 9100)) 9200 (some (A 9200)) 9050 9051 9052 9053 b0 b1 b2 b3 b4 b5 b6 b7 b8 b9 bA bB bC bD bE bF bG bH bI bJ bK bL) (.v Q9 r.1) (kE 9000 (some (A 9000)) 9100 (some (A 9100)) 9200 (some (A 9200)) 400 401 402 403 b0 b1 r.2.1 b3 b4 b5 b6 b7 b8 b9 bA bB bC bD bE bF bG bH r.2.2.1 r.2.2.2 bK bL):=by
 refine UT.of Tryz.func165 Y Tryz.ntmps165 Y ?_;intro S w R u;unfold jL at h;refine aK [0,1,2] ?_;refine aG ?_;refine aG ?_;obtain⟨C,B,h⟩:=aA h;refine eK 10 mixed (by exact(.k (aD Y) (.k (aL Y) (.k (aB 1 Y En Y Hv Y Y) (.k (aJ Y Y Y Nn Hv) (.k (aD Y) (.k (aD Y) (.k (aD Y) (.k (aL Y) (.k (aB 4 Y En Y S3 Y Y) (.k (aJ Y Y Y G3 S3) .nil))))))))))) (by exact(J.t (eM [9100] (Bv [(9000,9100)]) (eO _) (fun A=>gY A B) IW (fun A=>(.box Y .nil Y))) (jz [0,2,7]))) ?_;refine aK [0,2,7,20] ?_;refine aT h Y (fun z h=>?_) (fun z h=>?_)
 ·refine aK [0,6] ?_;cases h;exact aH (eU u Y (aC [(403,9053),(402,9052),(401,9051),(400,9050)]))
 refine aF ?_;refine aK [0] ?_;refine aK [0,6] ?_;cases h;exact aH (eU u Y (aC [(403,9053),(402,9052),(401,9051),(400,9050)]))
theorem Nv{a0 a1 r}(h:rM a0 a1=some r):
 VG Tryz.prog 166 [.v Ki a0,.v Q0 a1] (.VO [.v Ki r.1,.v Q9 r.2]) []:=by
 refine VG.of Tryz.func166 Y Tryz.ntmps166 Y ?_;intro S w z;unfold rM at h;refine aI (.k (cK 101 Y (.UO sO (.UO sO (.UO sO sO))) Y) (.k (aN 102 QC Y (.cons (Z.int .i64) (.cons (Z.sl gF) (.cons (Z.sl pB) (.cons Z.bool .nil)))) Y) (.f [1,2,4] ?_)));obtain⟨E,F,h⟩:=aA h;refine jJ (.k (aS Y Y (.UO sO (.UO sO (.UO sO sO))) Em yP) ?_);refine .a 1 ?_;refine .k (aM (sX F) NA (.cons (.dir Y) (.cons (.dir Y) .nil))) (.f [2,4,6] ?_);refine aK [2,4,6,11] ?_;refine aT h Y (fun A h=>?_) (fun A h=>?_)
 ·refine aI (.k (fO (new:=[(104,.arr 197 pB ([]:Ht))]) yQ (.cons (Z.int .i64) (.cons (Z.sl gF) (.ref 104 Y (.cons Z.bool .nil)))) (.cons .nil) Y .nil) (.f [4,5] ?_));refine aH ?_;obtain rfl:=sM h;exact cB (σ':=⟨[(4,.ptr 90 0),(5,.v Q9 E)],[(90,.box 80 [.v Q0 (0:Int),.v Q1 ([]:Q6),.v (Wr.sl pB) ([]:Ht),.v Wr.bool false])]⟩) (aC [(90,102)]) (bS z dP Y (aV Y Y (.UO sO (.UO sO (.UO sO sO))) Em yP) (RV.tmp Y) .nil Y)
 refine aF ?_;refine dB [2,4,16] ?_;refine aT h Y (fun B h=>?_) (fun B h=>?_)
 ·refine aI (.k (fO (new:=[(105,.arr 197 pB ([]:Ht))]) yQ (.cons (Z.int .i64) (.cons (Z.sl gF) (.ref 105 Y (.cons Z.bool .nil)))) (.cons .nil) Y .nil) (.f [4,5] ?_));refine aH ?_;obtain rfl:=sM h;exact cB (σ':=⟨[(4,.ptr 90 0),(5,.v Q9 (some (2:Int)))],[(90,.box 80 [.v Q0 (0:Int),.v Q1 ([]:Q6),.v (Wr.sl pB) ([]:Ht),.v Wr.bool false])]⟩) (aC [(90,102)]) (bS z dP Y (aV Y Y (.UO sO (.UO sO (.UO sO sO))) Em yP) (RV.tmp Y) .nil Y)
 refine aF ?_;obtain⟨u,G,h⟩:=aA h;refine aI (.k (aS Y Y (.UO sO (.UO sO (.UO sO sO))) Em yP) (.k (fY 106000 (vZ G) Tryz.call178 (.cons (.dir Y) .nil) Y) (.f [2,4] ?_)));refine aK [2,4] ?_;refine aG ?_;refine bT ?_;refine aK [2,4,35] ?_;refine aT h Y (fun C h=>?_) (fun C h=>?_)
 ·refine aF ?_;refine bN ?_;refine aI (.a 1 ?_);refine .t (tX 107 214 gF Y Y Y Y Hw Y) (.f [2,4] ?_);refine aI (.k (gZ Y Y Y Em yP) (.f [4,5] ?_));refine aH ?_;obtain rfl:=sM h;exact cB (σ':=⟨[(4,.ptr 90 0),(5,.v Q9 (none:Option Int))],[(90,.box 80 [.v Q0 (ar .add .i64 u.1 (1:Int)),.v Q1 ([]:Q6),.v (Wr.sl pB) u.2.2.1,.v Wr.bool u.2.2.2])]⟩) (aC [(90,102)]) (bS z dP Y (aV Y Y (.UO sO (.UO sO (.UO sO sO))) Em yP) (RV.tmp Y) .nil Y)
 refine aK [2,4,38] ?_;refine aT h Y (fun D h=>?_) (fun D h=>?_)
 ·refine eN (.a 3 ?_);refine .t (tX 108 197 pB Y Y Y Y SQ Y) (.f [2,4] ?_);refine bN ?_;refine aI (.a 1 ?_);refine .t (tX 109 214 gF Y Y Y Y Hw Y) (.f [2,4] ?_);refine aI (.k (gZ Y Y Y Em yP) (.f [4,5] ?_));refine aH ?_;obtain rfl:=sM h;exact cB (σ':=⟨[(4,.ptr 90 0),(5,.v Q9 (none:Option Int))],[(90,.box 80 [.v Q0 (ar .add .i64 u.1 (1:Int)),.v Q1 ([]:Q6),.v (Wr.sl pB) ([]:Ht),.v Wr.bool true])]⟩) (aC [(90,102)]) (bS z dP Y (aV Y Y (.UO sO (.UO sO (.UO sO sO))) Em yP) (RV.tmp Y) .nil Y)
 obtain⟨H,I,h⟩:=aA h;refine eN (.a 6 ?_);refine .k (bR Dd (.cons (Z.int .i64) (.cons (Z.sl gF) .nil)) (.cons Y (.dir Y) Y Y Y Y (.cons Y (.dir Y) Y Y Y Y .nil))) (.sub (σ':=⟨[(2,.ptr 101 0),(4,.ptr 102 0),(25,.ptr 101 2),(26,.ref 106001),(27,.ptr 101 0),(28,.v Q0 (ar .add .i64 u.1 (1:Int))),(29,.ptr 101 1),(30,.v Q1 u.2.1),(31,.agg [.v Q0 (ar .add .i64 u.1 (1:Int)),.v Q1 u.2.1]),(38,.v Wr.bool (cm .eql (u.2.2.1.length:Int) (4:Int)))],[(101,.box 80 [.v Q0 (ar .add .i64 u.1 (1:Int)),.v Q1 u.2.1,.ref 106001,.v Wr.bool u.2.2.2]),(102,.box 80 [.v Q0 (0:Int),.v Q1 ([]:Q6),.v (Wr.sl pB) ([]:Ht),.v Wr.bool false]),(106001,.arr 197 pB u.2.2.1)]⟩) (Sw.Sub.mk id (.cons Y (.of_eq Y) (.cons Y (.of_eq Y) (.cons Y (.of_eq Y) (.cons Y (.of_eq Y) (.cons Y (.of_eq Y) (.cons Y (.of_eq Y) (.cons Y (.of_eq Y) (.cons Y (.db Y Y) (.cons Y (.agg (.cons (.of_eq Y) (.cons (.db Y Y) .nil))) (.cons Y (.of_eq Y) .nil)))))))))) (.box Y (.cons (.of_eq Y) (.cons (.db Y Y) (.cons (.of_eq Y) (.cons (.of_eq Y) .nil)))) (.box Y (.cons (.of_eq Y) (.cons (.of_eq Y) (.cons (.of_eq Y) (.cons (.of_eq Y) .nil)))) (.arr Y .nil))) Y) (.k (dI (e:=pB) EA uT Ot Y Y Y Y (.cons (.agg Y (.same (.same .nil)) (.UO sO sO) Y) .nil)) (.t (bU 110 I Y Y (.sl Y) EA PQ uT Y Y Y Y Y) (.f [2,4] ?_))));refine bN ?_;refine aI (.a 1 ?_);refine .t (Ik Y Y Y (.ln gF) Y Y Y Hw) (.f [2,4] ?_);refine aI (.k (gZ Y Y Y Em yP) (.f [4,5] ?_));refine aH ?_;obtain rfl:=sM h;exact cB (σ':=⟨[(4,.ptr 90 0),(5,.v Q9 (none:Option Int))],[(90,.box 80 [.v Q0 (ar .add .i64 u.1 (1:Int)),.v Q1 ([]:Q6),.v (Wr.sl pB) H,.v Wr.bool u.2.2.2])]⟩) (aC [(90,102)]) (bS z dP Y (aV Y Y (.UO sO (.UO sO (.UO sO sO))) Em yP) (RV.tmp Y) .nil Y)
theorem nK(A:Nat->Nat){b0 b1 b2 b3 b4 b5 b6 b7 b8 b9 bA bB bC bD bE bF bG bH bI bJ bK bL r}(h:eD b0 b1 b2 b3 b4 b5 b6 b7 b8 b9 bA bB bC bD bE bF bG bH bI bJ bK bL=some r):
 UT Tryz.prog 103 [.ptr 9000 1] (kE 9000 (some (A 9000)) 9100 (some (A 9100)) 9200 (some (A 9200)) 9050 9051 9052 9053 b0 b1 b2 b3 b4 b5 b6 b7 b8 b9 bA bB bC bD bE bF bG bH bI bJ bK bL) (.VO []) (kE 9000 (some (A 9000)) 9100 (some (A 9100)) 9200 (some (A 9200)) 400 401 402 403 b0 b1 b2 b3 b4 b5 r b7 b8 b9 bA bB bC bD bE bF bG bH bI bJ bK bL):=by
 refine UT.of Tryz.func103 Y Tryz.ntmps103 Y ?_;intro S w R u;unfold eD at h;refine aG ?_;obtain⟨D,z,h⟩:=aA h;obtain⟨B,C,h⟩:=aA h;refine eK 14 mixed (by exact(.k (aD Y) (.k (aL Y) (.k (aB 10 Y vH Y Yr Y Y) (.k (aJ Y Y Y OA Yr) (.k (aD Y) (.k (aL Y) (.k (aB 1 Y vH Y Kk Y Y) (.k (aB 3 Y En Y S3 Y Y) (.k (aJ Y Y Y G3 S3) (.k (aD Y) (.k (aL Y) (.k (aB 5 Y vH Y Kd Y Y) (.k (aJ Y Y Y JB Kd) (.k (Zq (sI 102000 (cO z) Yo (.cons (.ref Y Y) .nil) Y XH.ref (XT.arr XT.nil)) (fun _=>(Sw.Sub.mk id (.cons Y (.db Y Y) .nil) .nil Y)) Y) .nil))))))))))))))) (by exact(J.t (Mi C Y Y Y Y QB U3 (l4.int U3) Y) (J.kp [0] []))) ?_;refine eK 11 mixed (by exact(.k (aD Y) (.k (aL Y) (.k (aB 10 Y vH Y Yr Y Y) (.k (aJ Y Y Y OA Yr) (.k (aD Y) (.k (aL Y) (.k (aB 1 Y vH Y Kk Y Y) (.k (aB 3 Y En Y S3 Y Y) (.k (aJ Y Y Y G3 S3) (.k (cT Y Y Y) (.k (cT Y Y Y) .nil)))))))))))) (by exact(J.t (Mj Y Y Y QB U3 (l4.int U3) Y) (J.kp [0] []))) ?_;refine Za ?_;obtain rfl:=sM h;exact cB (σ':=⟨[(0,.ptr 9000 1)],(kE 9000 (some (A 9000)) 9100 (some (A 9100)) 9200 (some (A 9200)) 400 401 402 403 b0 b1 b2 b3 b4 b5 (Fq B (ar .sub .i64 (ar .sub .i64 b2 (4:Int)) (1:Int))) b7 b8 b9 bA bB bC bD bE bF bG bH bI bJ bK bL)⟩) (aC [(403,9053),(402,9052),(401,9051),(400,9050)]) (Dy u Y (.cons Y (.cons Y (.cons Y (.cons Y (.cons Y (.cons Y (.cons Y .nil))))))))
theorem xO(A:Nat->Nat){b0 b1 b2 b3 b4 b5 b6 b7 b8 b9 bA bB bC bD bE bF bG bH bI bJ bK bL r}(h:fP b0 b1 b2 b3 b4 b5 b6 b7 b8 b9 bA bB bC bD bE bF bG bH bI bJ bK bL=some r):
 UT Tryz.prog 110 [.ptr 9000 0] (kE 9000 (some (A 9000)) 9100 (some (A 9100)) 9200 (some (A 9200)) 9050 9051 9052 9053 b0 b1 b2 b3 b4 b5 b6 b7 b8 b9 bA bB bC bD bE bF bG bH bI bJ bK bL) (.v Q9 r.1) (kE 9000 (some (A 9000)) 9100 (some (A 9100)) 9200 (some (A 9200)) 400 401 402 403 b0 b1 r.2.1 b3 b4 r.2.2.1 r.2.2.2.1 b7 b8 b9 bA bB bC bD bE bF bG bH r.2.2.2.2.1 r.2.2.2.2.2 bK bL):=by
 refine UT.of Tryz.func110 Y Tryz.ntmps110 Y ?_;intro S w R u;unfold fP at h;refine aK [0] ?_;refine aK [0,3] ?_;refine aG ?_;refine aG ?_;obtain⟨E,B,h⟩:=aA h;refine eK 14 mixed (by exact(.k (aD Y) (.k (aL Y) (.k (aB 1 Y vH Y Kk Y Y) (.k (aD Y) (.k (aL Y) (.k (aB 6 Y vH Y yP Y Y) (.k (aB 7 Y QR Y Hw Y Y) (.k (yI (off:=6) (o1:=1) Y Y Y Y (.snd (.fst .here)) EH Hw) (.k (aD Y) (.k (aL Y) (.k (aB 1 Y vH Y Kk Y Y) (.k (aB 3 Y En Y S3 Y Y) (.k (aJ Y Y Y G3 S3) (.k (cT Y Y Y) .nil))))))))))))))) (by exact(J.t (eM [9000,9100,9200,9050,9051,9052,9053] (vG [(9000,9000),(9100,9100),(9200,9200),(9050,9050),(9051,9051),(9052,9052),(9053,9053),(400,101),(401,102),(402,103),(403,104)]) (dE Y) (fun A=>Ad A B) Tryz.call165 (fun A=>(.box Y (.box Y (.box Y (.arr (.mp (.arr (.arr .nil Y) Y) Y) Y) Y) Y) Y))) (jz [0,3,4]))) ?_;refine aK [0,3,4,26] ?_;refine aT h Y (fun z h=>?_) (fun z h=>?_)
 ·refine aK [0,2] ?_;cases h;exact aH (eU u Y (aC [(403,104),(402,103),(401,102),(400,101)]))
 refine aF ?_;refine aG ?_;obtain⟨F,C,h⟩:=aA h;refine eK 16 mixed (by exact(.k (aD Y) (.k (aL Y) (.k (aB 6 Y vH Y yP Y Y) (.k (aJ Y Y Y Em yP) (.k (aD Y) (.k (aL Y) (.k (aB 1 Y vH Y Kk Y Y) (.k (aB 2 Y En Y S3 Y Y) (.k (aJ Y Y Y G3 S3) (.k (aM (Nv C) Tryz.call166 (.cons (.dir Y) (.cons (.dir Y) .nil))) (.k (aD Y) (.k (bW Y Y) (.k (bW Y Y) (.k (aN 106 QC Y (.cons (Z.int .i64) (.cons (Z.sl gF) (.cons (Z.sl pB) (.cons Z.bool .nil)))) Y) (WZ.storeAll (.none Y) Y Y Y Y (.UO sO (.UO sO (.UO sO sO))) yP (.k (bP Y) .nil))))))))))))))))) (by exact(J.kp [0,3,5,6] [])) ?_;refine aI (.a 1 ?_);refine .k (aS Y Y (.UO sO (.UO sO (.UO sO sO))) Em yP) (.f [0,3,6] ?_);obtain⟨G,D,h⟩:=aA h;refine aI (.a 1 ?_);refine .t (eM [9000,9100,9200,101,102,103,104] (vG [(9000,9000),(9100,9100),(9200,9200),(9050,101),(9051,102),(9052,103),(9053,104),(400,107),(401,108),(402,109),(403,110)]) (dE Y) (fun A=>nK A D) Tryz.call103 (fun A=>(.box Y (.box Y (.box Y (.arr (.mp (.arr (.arr .nil Y) Y) Y) Y) Y) Y) Y))) (.f [0,6] ?_);refine aK [0,2] ?_;cases h;exact aH (eU u Y (aC [(403,110),(402,109),(401,108),(400,107)]))
theorem Cd(A:Nat->Nat){a1 b0 b1 b2 b3 b4 b5 b6 b7 b8 b9 bA bB bC bD bE bF bG bH bI bJ bK bL r}(h:nP a1 b0 b1 b2 b3 b4 b5 b6 b7 b8 b9 bA bB bC bD bE bF bG bH bI bJ bK bL=some r):
 UT Tryz.prog 109 [.ptr 9000 0,.v Q4 a1] (kE 9000 (some (A 9000)) 9100 (some (A 9100)) 9200 (some (A 9200)) 9050 9051 9052 9053 b0 b1 b2 b3 b4 b5 b6 b7 b8 b9 bA bB bC bD bE bF bG bH bI bJ bK bL) (.VO [.v aQ r.1,.v Q9 r.2.1]) (Su 9000 (some (A 9000)) 301 none 302 none 400 401 402 403 r.2.2):=by
 refine UT.of Tryz.func109 Y Tryz.ntmps109 Y ?_;intro S w R u;unfold nP at h;refine aI (.k (cK 101 Y (.UO sO (.UO sO (.UO sO sO))) Y) (.k (aN 102 By Y (.cons (Z.arr 8 (Z.int .u8)) .nil) Y) (.f [0,4] ?_)));obtain⟨z,B,h⟩:=aA h;refine aI (.k (eJ (e:=aQ) (v:=aU) Hu xJ I5 Y Y (Z.arr 8 (Z.int .u8))) ?_);refine .a 1 ?_;refine .t (eM [9000,9100,9200,9050,9051,9052,9053] (vG [(9000,9000),(9100,9100),(9200,9200),(9050,9050),(9051,9051),(9052,9052),(9053,9053),(400,103),(401,104),(402,105),(403,106)]) (dE Y) (fun A=>xO A B) Tryz.call110 (fun A=>(.box Y (.box Y (.box Y (.arr (.mp (.arr (.arr .nil Y) Y) Y) Y) Y) Y) Y))) (.f [0,4,5] ?_);refine aH ?_;obtain rfl:=sM h;exact tJ [(0,.ptr 9000 0),(4,.ptr 90 0),(5,.v Q9 z.1)] [(90,.box 30 [.v aQ aU])] (aC [(90,102),(403,106),(302,9200),(402,105),(401,104),(400,103),(301,9100)]) (eZ u Y (dG Y Y Y vT nG) (RV.tmp Y) (.cons Y (.cons Y (.cons Y (.cons Y (.cons Y (.cons Y (.cons Y .nil))))))))
theorem Hx{a0 r}(h:pP a0=some r):
 VG Tryz.prog 183 [.v Q0 a0] (.v Wr.bool r) []:=by
 refine VG.of Tryz.func183 Y Tryz.ntmps183 Y ?_;intro S w z;unfold pP at h;refine aK [0] ?_;refine aG ?_;obtain⟨B,u,h⟩:=aA h;refine eG (σ':=⟨[(2,.v Wr.bool B)],[]⟩) ?_ ?_
 ·refine cd u (fun A u=>?_) (fun A u=>?_)
  ·cases u;exact jy
  cases u;exact jy
 cases h;exact aH (aY z dP Y (RV.tmp Y) .nil Y)
theorem oX{a0 r}(h:dV a0=some r):
 VG Tryz.prog 228 [.v lY a0,.YV 183 []] (.v Q0 r) []:=by
 refine VG.of Tryz.func228 Y Tryz.ntmps228 Y ?_;intro S w u;unfold dV at h;refine aK [0,1] ?_;refine dB [0,1,7,8] ?_;obtain⟨L,F,G,H⟩:=cL h;refine jM (σs:=fun z:Int=>⟨[(0,.v lY a0),(1,.YV 183 []),(7,.v Q0 (a0.length:Int)),(8,.v Q0 z)],[]⟩) (fun A:Unit=>⟨[],[]⟩) F (aC []) ?_ ?_
 ·intro A B;have h:=G _ B;refine aK [4] ?_;cases h;exact aH (aY u dP Y (RV.tmp Y) .nil Y)
 intro z K h;refine aK [0,1,7,8,9] ?_;refine aG ?_;refine aT h Y (fun C h=>?_) (fun C h=>?_)
 ·refine aF ?_;refine aG ?_;refine bT ?_;refine aK [0,1,5,7,8] ?_;obtain⟨M,N,h⟩:=aA h;obtain⟨O,I,h⟩:=aA h;refine aI (.a 5 ?_);refine .k (tI Y (Hx I) Tryz.call183 (.cons (.dir Y) .nil)) (.f [0,1,5,7,8,16] ?_);refine aT h Y (fun D h=>?_) (fun D h=>?_)
  ·refine aK [4] ?_;refine aH ?_;refine eV ?_;cases h;refine hX fun E=>?_;obtain rfl:=H _ E;exact aY u dP Y (RV.tmp Y) .nil Y
  refine aF ?_;refine bN ?_;refine dN [0,1,7,8] ?_;cases h;exact cF (aC [])
 cases h;exact dA (dJ (aC []))
theorem nH{a0 r}(h:cV a0=some r):
 VG Tryz.prog 182 [.v lY a0,.YV 183 []] (.v Wr.bool r) []:=by
 refine VG.of Tryz.func182 Y Tryz.ntmps182 Y ?_;intro S w u;unfold cV at h;refine aK [0,1] ?_;obtain⟨A,z,h⟩:=aA h;refine aI (.a 2 ?_);refine .k (aM (oX z) Tryz.call228 (.cons (.dir Y) (.cons (.dir Y) .nil))) (.f [4] ?_);cases h;exact aH (aY u dP Y (RV.tmp Y) .nil Y)
theorem Bs{a0 r}(h:pZ a0=some r):
 VG Tryz.prog 134 [.v Q8 a0] (.v Q9 r) []:=by
 refine VG.of Tryz.func134 Y Tryz.ntmps134 Y ?_;intro S w z;unfold pZ at h;refine aI (.k (cK 101 Y (.UO sO (.UO sO sO)) Y) (.f [1] ?_));refine aG ?_;refine aG ?_;obtain⟨F,u,h⟩:=aA h;refine eG (σ':=⟨[(1,.ptr 101 0),(10,.v Wr.bool F)],[(101,.box 144 [.v Q0 a0.1,.v lY a0.2.1,.v Q5 a0.2.2])]⟩) ?_ ?_
 ·refine cd u (fun A u=>?_) (fun A u=>?_)
  ·cases u;exact jy
  cases u;exact jy
 refine aT h Y (fun B h=>?_) (fun B h=>?_)
 ·refine aK [2] ?_;cases h;exact aH (aY z dP Y (RV.tmp Y) .nil Y)
 refine aF ?_;refine aG ?_;refine aG ?_;obtain⟨G,u,h⟩:=aA h;refine eG (σ':=⟨[(1,.ptr 101 0),(21,.v Wr.bool G)],[(101,.box 144 [.v Q0 a0.1,.v lY a0.2.1,.v Q5 a0.2.2])]⟩) ?_ ?_
 ·refine cd u (fun C u=>?_) (fun C u=>?_)
  ·cases u;exact jy
  cases u;exact jy
 refine aT h Y (fun D h=>?_) (fun D h=>?_)
 ·refine aK [2] ?_;cases h;exact aH (aY z dP Y (RV.tmp Y) .nil Y)
 refine aF ?_;obtain⟨I,H,h⟩:=aA h;refine jJ (.a 2 ?_);refine .k (aM (nH H) Tryz.call182 (.cons (.dir Y) (.cons .fn .nil))) (.f [25] ?_);refine aT h Y (fun E h=>?_) (fun E h=>?_)
 ·refine aK [2] ?_;cases h;exact aH (aY z dP Y (RV.tmp Y) .nil Y)
 refine aF ?_;refine aK [2] ?_;cases h;exact aH (aY z dP Y (RV.tmp Y) .nil Y)
theorem Fb{a0 r}(h:tM a0=some r):
 VG Tryz.prog 135 [.v (Wr.sl (Wr.int .u8)) a0] (.v (Wr.int .u32) r) []:=by
 refine VG.of Tryz.func135 Y Tryz.ntmps135 Y ?_;intro S w D;unfold tM at h;refine aK [0] ?_;refine aK [0,3] ?_;refine dB [3,6,7,8] ?_;obtain⟨N,G,H,O⟩:=cL h;refine jM (σs:=fun u:Int×Int=>⟨[(3,.v (Wr.int .u32) u.1),(6,.v (Wr.sl (Wr.int .u8)) a0),(7,.v Q0 (a0.length:Int)),(8,.v Q0 u.2)],[]⟩) (fun B:Int=>⟨[(3,.v (Wr.int .u32) B)],[]⟩) G (aC []) ?_ ?_
 ·intro B z;have h:=H _ z;refine aI (.a 1 ?_);refine .k (OJ Y) (.f [2] ?_);cases h;exact aH (aY D dP Y (RV.tmp Y) .nil Y)
 intro u L h;refine aK [3,6,7,8,9] ?_;refine aG ?_;refine aT h Y (fun E h=>?_) (fun E h=>?_)
 ·refine aF ?_;refine aG ?_;refine bT ?_;obtain⟨P,Q,h⟩:=aA h;refine aK [3,5,6,7,8] ?_;refine aI (.a 2 ?_);refine .k (by exact mC U5 Tryz.runUnderlying247 Y Y) (.f [3,6,7,8] ?_);refine aK [3,6,7,8,16] ?_;obtain⟨R,I,K,T⟩:=cL h;refine jM (σs:=fun A:Int×Int=>⟨[(3,.v (Wr.int .u32) A.1),(6,.v (Wr.sl (Wr.int .u8)) a0),(7,.v Q0 (a0.length:Int)),(8,.v Q0 u.2),(16,.v Q0 A.2)],[]⟩) (fun C:Int=>⟨[(3,.v (Wr.int .u32) C),(6,.v (Wr.sl (Wr.int .u8)) a0),(7,.v Q0 (a0.length:Int)),(8,.v Q0 u.2)],[]⟩) I (aC []) ?_ ?_
  ·intro C z;have h:=K _ z;refine bN ?_;refine dN [3,6,7,8] ?_;cases h;exact cF (aC [])
  intro A M h;refine aK [3,6,7,8,16,17] ?_;refine aG ?_;refine aT h Y (fun F h=>?_) (fun F h=>?_)
  ·refine aF ?_;refine aG ?_;refine bT ?_;refine eN (.a 1 ?_);refine .k (eY (.inr Y) (by decide) Y Y) (.f [3,6,7,8,16] ?_);refine bN ?_;refine dN [3,6,7,8,16] ?_;cases h;exact cF (aC [])
  cases h;exact dA (dJ (aC []))
 cases h;exact dA (dJ (aC []))
theorem xP{a0 r}(h:mR a0=some r):
 VG Tryz.prog 77 [.v Q8 a0] (.VO [.v (Wr.sl (Wr.int .u8)) r.1,.v Q9 r.2]) []:=by
 refine VG.of Tryz.func77 Y Tryz.ntmps77 Y ?_;intro S w D;unfold mR at h;refine aI (.k (cK 101 Y (.UO sO (.UO sO sO)) Y) (.k (kP (Wr.int .u8)) (.f [1] ?_)));obtain⟨v1,L,h⟩:=aA h;refine jJ (.k (aS Y Y (.UO sO (.UO sO sO)) uK lE) (.k (aM (Bs L) Tryz.call134 (.cons (.dir Y) .nil)) (.f [1,4] ?_)));refine aK [1,4,14] ?_;refine aT h Y (fun G h=>?_) (fun G h=>?_)
 ·refine aI (.a 1 ?_);refine .k (kP (Wr.int .u8)) (.f [2,3] ?_);cases h;exact aH (bS D dP Y (RV.tmp Y) (RV.tmp Y) .nil Y)
 refine aF ?_;refine aI (.a 3 ?_);refine .k (eY (.inl Y) (by decide) Y Y) ?_;refine .a 9 ?_;refine .k (sU (e:=(Wr.int .u8)) 103 tB S5 Z5 Y Y Y Y (.cons (.dir Y) (.cons (.dir Y) .nil))) (.f [1,5] ?_);refine dB [1,5,31,32,33] ?_;obtain⟨ae,M,N,af⟩:=cL h;refine jM (σs:=fun z:Int×kH=>⟨[(1,.ptr 101 0),(5,.ref 125),(31,.v lY a0.2.1),(32,.v Q0 (a0.2.1.length:Int)),(33,.v Q0 z.1)],[(101,.box 144 [.v Q0 a0.1,.v lY a0.2.1,.v Q5 a0.2.2]),(125,.arr 5 (Wr.int .u8) z.2)]⟩) (fun E:kH=>⟨[(1,.ptr 101 0),(5,.ref 125)],[(101,.box 144 [.v Q0 a0.1,.v lY a0.2.1,.v Q5 a0.2.2]),(125,.arr 5 (Wr.int .u8) E)]⟩) M (aC [(125,103)]) ?_ ?_
 ·intro E u;have h:=N _ u;refine dB [5,54,55,56] ?_;obtain⟨am,O,P,an⟩:=cL h;refine jM (σs:=fun A:Int×kH=>⟨[(5,.ref 151),(54,.v Q5 a0.2.2),(55,.v Q0 (a0.2.2.length:Int)),(56,.v Q0 A.1)],[(151,.arr 5 (Wr.int .u8) A.2)]⟩) (fun F:kH=>⟨[(5,.ref 151)],[(151,.arr 5 (Wr.int .u8) F)]⟩) O (aC [(151,125)]) ?_ ?_
  ·intro F u;have h:=P _ u;obtain⟨ao,Q,h⟩:=aA h;refine aI (.a 1 ?_);refine .k (rE (Fb Q) Tryz.call135 (.cons (.ref Y Y) .nil) XH.v) (.f [5,10] ?_);obtain⟨ap,R,h⟩:=aA h;refine aI (.a 2 ?_);refine .k (eY (.inr Y) (by decide) Y Y) ?_;refine .a 2 ?_;refine .k (eY (.inr Y) (by decide) Y Y) ?_;refine .a 2 ?_;refine .k (eY (.inr Y) (by decide) Y Y) ?_;refine .a 3 ?_;refine .k (dI (e:=(Wr.int .u8)) tB S5 Z5 Y Y Y Y (.cons (.dir Y) (.cons (.dir Y) (.cons (.dir Y) (.cons (.dir Y) .nil))))) (.t (bU 157 R Y Y (.sl Y) tB I5 S5 Y Y Y Y Y) (.f [2,3] ?_));cases h;exact aH (wE D dP Y (aC []))
  intro A ab h;refine aK [5,54,55,56,57] ?_;refine aG ?_;refine aT h Y (fun H h=>?_) (fun H h=>?_)
  ·refine aF ?_;refine aG ?_;refine bT ?_;obtain⟨aq,au,h⟩:=aA h;refine aI (.a 2 ?_);refine .k (aN 154 By Y (.cons (Z.arr 8 (Z.int .u8)) .nil) Y) (.f [5,9,54,55,56] ?_);obtain⟨av,T,h⟩:=aA h;refine eN (.a 1 ?_);refine .k (Ph Y Y Y xJ S5) (.t (bU 155 T Y Y (.n9 Y Y Y Y) tB I5 S5 Y Y Y Y Y) (.f [5,54,55,56] ?_));refine bN ?_;refine dN [5,54,55,56] ?_;cases h;exact cF (aC [(151,155)])
  cases h;exact dA (dJ (aC []))
 intro z ac h;refine aK [1,5,31,32,33,34] ?_;refine aG ?_;refine aT h Y (fun I h=>?_) (fun I h=>?_)
 ·refine aF ?_;refine aG ?_;refine bT ?_;obtain⟨aw,ax,h⟩:=aA h;refine aK [1,5,7,31,32,33] ?_;refine aG ?_;obtain⟨ay,U,V,a1⟩:=cL h;refine jM (σs:=fun C:Int×kH=>⟨[(1,.ptr 101 0),(5,.ref 140),(7,.v Q0 C.1),(31,.v lY a0.2.1),(32,.v Q0 (a0.2.1.length:Int)),(33,.v Q0 z.1)],[(101,.box 144 [.v Q0 a0.1,.v lY a0.2.1,.v Q5 a0.2.2]),(140,.arr 5 (Wr.int .u8) C.2)]⟩) (fun B:Int×kH=>⟨[(1,.ptr 101 0),(5,.ref 140),(7,.v Q0 B.1),(31,.v lY a0.2.1),(32,.v Q0 (a0.2.1.length:Int)),(33,.v Q0 z.1)],[(101,.box 144 [.v Q0 a0.1,.v lY a0.2.1,.v Q5 a0.2.2]),(140,.arr 5 (Wr.int .u8) B.2)]⟩) U (aC [(140,125)]) ?_ ?_
  ·intro B u;have h:=V _ u;obtain⟨a2,X,h⟩:=aA h;refine eN (.a 3 ?_);refine .k (dI (e:=(Wr.int .u8)) tB S5 Z5 Y Y Y Y (.cons (.dir Y) .nil)) (.t (bU 143 X Y Y (.sl Y) tB I5 S5 Y Y Y Y Y) (.f [1,5,31,32,33] ?_));refine bN ?_;refine dN [1,5,31,32,33] ?_;cases h;exact cF (aC [(125,143)])
  intro C ad h;refine dB [1,5,7,31,32,33,38] ?_;refine aT h Y (fun K h=>?_) (fun K h=>?_)
  ·refine aF ?_;refine aG ?_;refine bT ?_;obtain⟨a3,aa,h⟩:=aA h;refine eN (.a 4 ?_);refine .k (dI (e:=(Wr.int .u8)) tB S5 Z5 Y Y Y Y (.cons (.dir Y) .nil)) (.t (bU 142 aa Y Y (.sl Y) tB I5 S5 Y Y Y Y Y) (.f [1,5,7,31,32,33] ?_));refine bN ?_;refine eN (.a 1 ?_);refine .k (eY (.inr Y) (by decide) Y Y) (.f [1,5,7,31,32,33] ?_);cases h;exact cF (aC [(140,142)])
  cases h;exact dA (dJ (aC []))
 cases h;exact dA (dJ (aC []))
theorem oQ(A:Nat->Nat){a1 a2 b0 b1 b2 b3 b4 b5 b6 b7 b8 b9 bA bB bC bD bE bF bG bH bI bJ bK bL r}(h:eB a1 a2 b0 b1 b2 b3 b4 b5 b6 b7 b8 b9 bA bB bC bD bE bF bG bH bI bJ bK bL=some r):
 UT Tryz.prog 53 [.ptr 9000 0,.v Wr.bool a1,.v (Wr.E6 (Wr.int .u8)) a2] (kE 9000 (some (A 9000)) 9100 (some (A 9100)) 9200 (some (A 9200)) 9050 9051 9052 9053 b0 b1 b2 b3 b4 b5 b6 b7 b8 b9 bA bB bC bD bE bF bG bH bI bJ bK bL) (.VO []) (kE 9000 (some (A 9000)) 9100 (some (A 9100)) 9200 (some (A 9200)) 400 401 402 403 b0 b1 b2 b3 b4 b5 b6 b7 b8 b9 bA bB bC bD bE bF bG r bI bJ bK bL):=by
 refine UT.of Tryz.func53 Y Tryz.ntmps53 Y ?_;intro S w R z;unfold eB at h;refine aG ?_;obtain⟨B,u,h⟩:=aA h;refine eG (σ':=⟨[(0,.ptr 9000 0),(1,.v Wr.bool a1),(2,.v (Wr.E6 (Wr.int .u8)) a2),(15,.v Wr.bool B)],(kE 9000 (some (A 9000)) 9100 (some (A 9100)) 9200 (some (A 9200)) 9050 9051 9052 9053 b0 b1 b2 b3 b4 b5 b6 b7 b8 b9 bA bB bC bD bE bF bG bH bI bJ bK bL)⟩) ?_ ?_
 ·refine cd u (fun C u=>?_) (fun C u=>?_)
  ·cases u;refine ja 1 ?_;exact(J.k (Pr Y tB) jy)
  cases u;refine ja 1 ?_;exact(J.k (Pr Y tB) jy)
 refine aT h Y (fun D h=>?_) (fun D h=>?_)
 ·obtain⟨E,F,h⟩:=aA h;refine eN (.a 7 ?_);refine .sub (σ':=⟨[(0,.ptr 9000 0),(1,.v Wr.bool a1),(2,.v (Wr.E6 (Wr.int .u8)) a2),(15,.v Wr.bool B),(16,.ptr 9000 0),(17,.ptr 9000 0),(18,.ptr 9000 0),(19,.ptr 9000 25),(20,.ref 9053),(21,.v Wr.bool a1),(22,.v (Wr.sl (Wr.int .u8)) a2.2)],[(9000,.box 93 [.v Q0 b0,.ptr 9100 0,.v Q0 b1,.v Q0 b2,.v Q0 b3,.ref 9050,.v Ki b5,.ref 9051,.v Q0 b7,.v Nk b8,.v Q0 b9,.v Q0 bA,.ref 9052,.ptr 9200 0,.v Q0 bC,.v Q0 bD,.v Q0 bE,.v Q0 bF,.v (Wr.pr Q0 Q0) bG,.ref 9053] (some (A 9000))),(9053,.arr 135 (Wr.pr Wr.bool (Wr.pr Wr.bool (Wr.sl (Wr.int .u8)))) bH),(9100,.box 188 [.v Q0 bI,.v Q2 bJ] (some (A 9100))),(9050,.arr 30 aQ b4),(9051,.mp Q0 Q5 b6),(9052,.arr 3 Q0 bB),(9200,.box 188 [.v Q0 bK,.v Q2 bL] (some (A 9200)))]⟩) (Sw.Sub.mk id (.cons Y (.of_eq Y) (.cons Y (.of_eq Y) (.cons Y (.of_eq Y) (.cons Y (.of_eq Y) (.cons Y (.of_eq Y) (.cons Y (.of_eq Y) (.cons Y (.of_eq Y) (.cons Y (.of_eq Y) (.cons Y (.of_eq Y) (.cons Y (.of_eq Y) (.cons Y .unN .nil))))))))))) (.box Y (.cons (.of_eq Y) (.cons (.of_eq Y) (.cons (.of_eq Y) (.cons (.of_eq Y) (.cons (.of_eq Y) (.cons (.of_eq Y) (.cons (.of_eq Y) (.cons (.of_eq Y) (.cons (.of_eq Y) (.cons (.of_eq Y) (.cons (.of_eq Y) (.cons (.of_eq Y) (.cons (.of_eq Y) (.cons (.of_eq Y) (.cons (.of_eq Y) (.cons (.of_eq Y) (.cons (.of_eq Y) (.cons (.of_eq Y) (.cons (.of_eq Y) (.cons (.of_eq Y) .nil)))))))))))))))))))) (.arr Y (.box Y (.cons (.of_eq Y) (.cons (.of_eq Y) .nil)) (.arr Y (.mp Y (.arr Y (.box Y (.cons (.of_eq Y) (.cons (.of_eq Y) .nil)) .nil))))))) Y) (.k (bR Wk (.cons Z.bool (.cons Z.bool (.cons (Z.sl (Wr.int .u8)) .nil))) (.cons Y (.dir Y) Y Y Y Y (.cons Y (.dir Y) Y Y Y Y .nil))) (.k (dI (e:=(Wr.pr Wr.bool (Wr.pr Wr.bool (Wr.sl (Wr.int .u8))))) Jd vO EC Y Y Y Y (.cons (.agg Y (.same (.same (.same .nil))) (.UO sO (.UO sO sO)) Y) .nil)) (.t (bU 101 F Y Y (.sl Y) Jd NG vO Y Y Y Y Y) (.f [0] ?_))));refine Za ?_;obtain rfl:=sM h;exact cB (σ':=⟨[(0,.ptr 9000 0)],(kE 9000 (some (A 9000)) 9100 (some (A 9100)) 9200 (some (A 9200)) 400 401 402 403 b0 b1 b2 b3 b4 b5 b6 b7 b8 b9 bA bB bC bD bE bF bG E bI bJ bK bL)⟩) (aC [(403,101),(402,9052),(401,9051),(400,9050)]) (Dy z Y (.cons Y (.cons Y (.cons Y (.cons Y (.cons Y (.cons Y (.cons Y .nil))))))))
 refine aF ?_;refine Za ?_;obtain rfl:=sM h;exact cB (σ':=⟨[(0,.ptr 9000 0)],(kE 9000 (some (A 9000)) 9100 (some (A 9100)) 9200 (some (A 9200)) 400 401 402 403 b0 b1 b2 b3 b4 b5 b6 b7 b8 b9 bA bB bC bD bE bF bG bH bI bJ bK bL)⟩) (aC [(403,9053),(402,9052),(401,9051),(400,9050)]) (Dy z Y (.cons Y (.cons Y (.cons Y (.cons Y (.cons Y (.cons Y (.cons Y .nil))))))))
theorem uJ(A:Nat->Nat){a1 a2 b0 b1 b2 b3 b4 b5 b6 b7 b8 b9 bA bB bC bD bE bF bG bH bI bJ bK bL r}(h:iQ a1 a2 b0 b1 b2 b3 b4 b5 b6 b7 b8 b9 bA bB bC bD bE bF bG bH bI bJ bK bL=some r):
 UT Tryz.prog 49 [.ptr 9000 0,.v Wr.bool a1,.v Q8 a2] (kE 9000 (some (A 9000)) 9100 (some (A 9100)) 9200 (some (A 9200)) 9050 9051 9052 9053 b0 b1 b2 b3 b4 b5 b6 b7 b8 b9 bA bB bC bD bE bF bG bH bI bJ bK bL) (.v Q9 r.1) (kE 9000 (some (A 9000)) 9100 (some (A 9100)) 9200 (some (A 9200)) 400 401 402 403 b0 b1 b2 b3 b4 b5 b6 b7 b8 b9 bA bB bC bD bE bF bG r.2 bI bJ bK bL):=by
 refine UT.of Tryz.func49 Y Tryz.ntmps49 Y ?_;intro S w R B;unfold iQ at h;refine aI (.k (cK 101 Y (.UO sO (.UO sO sO)) Y) (.f [0,1,5] ?_));obtain⟨C,D,h⟩:=aA h;refine aI (.k (aS Y Y (.UO sO (.UO sO sO)) uK lE) (.k (aM (xP D) Tryz.call77 (.cons (.dir Y) .nil)) (.f [0,1,7,8] ?_)));refine jJ (.a 1 ?_);refine .k (iM Oq Y) (.f [0,1,7,8,15] ?_);obtain⟨E,F,h⟩:=fE h;refine sZ (fun z:Yn=>⟨[(0,.ptr 9000 0),(8,.v Q9 C.2)],(kE 9000 (some (A 9000)) 9100 (some (A 9100)) 9200 (some (A 9200)) 107 108 109 110 b0 b1 b2 b3 b4 b5 b6 b7 b8 b9 bA bB bC bD bE bF bG z bI bJ bK bL)⟩) (fun x=>E x=some r) Y ?_ ?_ ?_
 ·intro z h;rw[F] at h;refine aK [0,6] ?_;cases h;exact aH (eU B Y (aC [(403,110),(402,109),(401,108),(400,107)]))
 ·intro u;replace h:=iK u h;obtain⟨L,G,h⟩:=aA h;obtain⟨M,I,h⟩:=aA h;refine eN (.a 3 ?_);refine .t (tW (H:=[9000,9100,9200,9050,9051,9052,9053]) (K:=[9000,9100,9200]) (vG [(9000,9000),(9100,9100),(9200,9200),(9050,9050),(9051,9051),(9052,9052),(9053,9053),(400,111),(401,112),(402,113),(403,114)]) (dE Y) (fun A=>oQ A I) Tryz.call53 (.cons (.dir Y) (.cons (.dir Y) (.cons (.toN (Mg G) Y) .nil))) (fun A=>(.box Y (.box Y (.box Y (.arr Y (.mp Y (.arr Y (.arr Y .nil)))))))) (fun A=>(.box Y (.box Y (.box Y (.arr (.mp (.arr (.arr .nil Y) Y) Y) Y) Y) Y) Y)) (fun _=>rfl) Y Y (fun _=>rfl) Y Y) (.f [0,8] ?_);exact cC h (aC [(110,114),(109,113),(108,112),(107,111)])
 ·intro u;replace h:=iL u h;refine aF ?_;exact cC h (aC [(110,9053),(109,9052),(108,9051),(107,9050)])
theorem Km{a0 a1 a2 r}(h:nE a0 a1 a2=some r):
 VG Tryz.prog 82 [.v Ki a0,.v Q0 a1,.v Q0 a2] (.VO [.v pB r.1,.v Wr.bool r.2.1,.v Q9 r.2.2]) []:=by
 refine VG.of Tryz.func82 Y Tryz.ntmps82 Y ?_;intro S w B;unfold nE at h;refine aI (.k (cK 101 Y (.UO sO (.UO sO (.UO sO sO))) Y) (.k (aN 102 Ot Y (.cons (Z.int .i64) (.cons (Z.sl gF) .nil)) Y) (.f [1,2,3,6] ?_)));obtain⟨U,V,h⟩:=aA h;refine jJ (.k (aS Y Y (.UO sO (.UO sO (.UO sO sO))) Em yP) ?_);refine .a 1 ?_;refine .k (aM (sX V) NA (.cons (.dir Y) (.cons (.dir Y) .nil))) (.f [2,3,6,9] ?_);refine aK [2,3,6,9,21] ?_;refine aT h Y (fun K h=>?_) (fun K h=>?_)
 ·refine aI (.k (fO (new:=[(104,.arr 214 gF ([]:Q6))]) Dd (.cons (Z.int .i64) (.ref 104 Y .nil)) (.cons .nil) Y .nil) (.f [6,7,8] ?_));refine aH ?_;obtain rfl:=sM h;exact cB (σ':=⟨[(6,.ptr 90 0),(7,.v Wr.bool false),(8,.v Q9 U)],[(90,.box 197 [.v Q0 (0:Int),.v Q1 ([]:Q6)])]⟩) (aC [(90,102)]) (wG B dP Y (aV Y Y (.UO sO sO) Nl uT) (RV.tmp Y) (RV.tmp Y) .nil Y)
 refine aF ?_;refine aG ?_;refine aG ?_;obtain⟨X,A,h⟩:=aA h;refine eG (σ':=⟨[(2,.v Q0 a2),(3,.ptr 101 0),(6,.ptr 102 0),(31,.v Wr.bool X)],[(101,.box 80 [.v Q0 a0.1,.v Q1 a0.2.1,.v (Wr.sl pB) a0.2.2.1,.v Wr.bool a0.2.2.2]),(102,.box 197 [.v Q0 (0:Int),.v Q1 ([]:Q6)])]⟩) ?_ ?_
 ·refine cd A (fun L A=>?_) (fun L A=>?_)
  ·cases A;exact jy
  cases A;exact jy
 refine aT h Y (fun M h=>?_) (fun M h=>?_)
 ·refine aI (.k (fO (new:=[(105,.arr 214 gF ([]:Q6))]) Dd (.cons (Z.int .i64) (.ref 105 Y .nil)) (.cons .nil) Y .nil) (.f [6,7,8] ?_));refine aH ?_;obtain rfl:=sM h;exact cB (σ':=⟨[(6,.ptr 90 0),(7,.v Wr.bool false),(8,.v Q9 (some (1:Int)))],[(90,.box 197 [.v Q0 (0:Int),.v Q1 ([]:Q6)])]⟩) (aC [(90,102)]) (wG B dP Y (aV Y Y (.UO sO sO) Nl uT) (RV.tmp Y) (RV.tmp Y) .nil Y)
 refine aF ?_;refine dB [2,3,6,41] ?_;refine aT h Y (fun N h=>?_) (fun N h=>?_)
 ·refine aI (.k (fO (new:=[(106,.arr 214 gF ([]:Q6))]) Dd (.cons (Z.int .i64) (.ref 106 Y .nil)) (.cons .nil) Y .nil) (.f [6,7,8] ?_));refine aH ?_;obtain rfl:=sM h;exact cB (σ':=⟨[(6,.ptr 90 0),(7,.v Wr.bool false),(8,.v Q9 (none:Option Int))],[(90,.box 197 [.v Q0 (0:Int),.v Q1 ([]:Q6)])]⟩) (aC [(90,102)]) (wG B dP Y (aV Y Y (.UO sO sO) Nl uT) (RV.tmp Y) (RV.tmp Y) .nil Y)
 refine aF ?_;refine aI (.k (aN 107 Tryz.zeroValue253 Y (.cons (Z.arr 32 (Z.B3 gF)) .nil) Y) (.f [2,3,6,10] ?_));refine dB [2,3,6,10,44,45,46] ?_;obtain⟨aw,aa,ab,ax⟩:=cL h;refine jM (σs:=fun z:Int×(List (Option (Int×aR)))=>⟨[(2,.v Q0 a2),(3,.ptr 101 0),(6,.ptr 102 0),(10,.ptr 107 0),(44,.v (Wr.sl pB) a0.2.2.1),(45,.v Q0 (a0.2.2.1.length:Int)),(46,.v Q0 z.1)],[(101,.box 80 [.v Q0 a0.1,.v Q1 a0.2.1,.v (Wr.sl pB) a0.2.2.1,.v Wr.bool a0.2.2.2]),(102,.box 197 [.v Q0 (0:Int),.v Q1 ([]:Q6)]),(107,.box 253 [.v (Wr.arr 32 (Wr.B3 gF)) z.2])]⟩) (fun C:(List (Option (Int×aR)))=>⟨[(3,.ptr 101 0),(6,.ptr 102 0),(10,.ptr 107 0)],[(101,.box 80 [.v Q0 a0.1,.v Q1 a0.2.1,.v (Wr.sl pB) a0.2.2.1,.v Wr.bool a0.2.2.2]),(102,.box 197 [.v Q0 (0:Int),.v Q1 ([]:Q6)]),(107,.box 253 [.v (Wr.arr 32 (Wr.B3 gF)) C])]⟩) aa (aC []) ?_ ?_
 ·intro C u;have h:=ab _ u;refine aI (.a 2 ?_);refine .k (fO (new:=[(112,.arr 214 gF ([]:Q6))]) Dd (.cons (Z.int .i64) (.ref 112 Y .nil)) (.cons .nil) Y (.cons Y (.dir Y) Y Y Y Y .nil)) (.k (zN (new:=[(114,.arr 214 gF ([]:Q6))]) 113 Ot Y (.cons (Z.int .i64) (.ref 114 Y .nil)) (.cons .nil) Y Y) (.f [6,10,14] ?_));refine dB [6,14,76,77] ?_;obtain⟨ay,ac,ad,a3⟩:=cL h;refine jM (σs:=fun E:Int×Q6=>⟨[(6,.ptr 102 0),(14,.ptr 113 0),(76,.v (Wr.arr 32 (Wr.B3 gF)) C),(77,.v Q0 E.1)],[(102,.box 197 [.v Q0 (0:Int),.v Q1 ([]:Q6)]),(113,.box 197 [.v Q0 a0.1,.ref 120]),(120,.arr 214 gF E.2)]⟩) (fun D:Q6=>⟨[(6,.ptr 102 0),(14,.ptr 113 0)],[(102,.box 197 [.v Q0 (0:Int),.v Q1 ([]:Q6)]),(113,.box 197 [.v Q0 a0.1,.ref 120]),(120,.arr 214 gF D)]⟩) ac (aC [(120,112)]) ?_ ?_
  ·intro D u;have h:=ad _ u;refine aI (.k (gZ Y Y Y Nl uT) (.f [6,7,8] ?_));refine aH ?_;obtain rfl:=sM h;exact cB (σ':=⟨[(6,.ptr 90 0),(7,.v Wr.bool true),(8,.v Q9 (none:Option Int))],[(90,.box 197 [.v Q0 a0.1,.v Q1 D])]⟩) (aC [(90,102)]) (wG B dP Y (aV Y Y (.UO sO sO) Nl uT) (RV.tmp Y) (RV.tmp Y) .nil Y)
  intro E aq h;refine aK [6,14,76,77,78] ?_;refine aG ?_;refine aT h Y (fun O h=>?_) (fun O h=>?_)
  ·refine aF ?_;refine aG ?_;refine bT ?_;obtain⟨ku,du,h⟩:=aA h;refine aI (.k (KS du Y Y Tryz.runUnderlying253 Tryz.sizeOf252 Tryz.isAgg252) (.f [6,14,16,76,77] ?_));refine aI (.a 1 ?_);refine .k (KR Y Tryz.runUnderlying252) (.f [6,14,16,76,77,81] ?_);refine aT h Y (fun P h=>?_) (fun P h=>?_)
   ·obtain⟨a4,ae,h⟩:=aA h;obtain⟨a5,af,h⟩:=aA h;refine eK 6 mixed (by exact(.k (aB 1 Y Ys Y Hw Y Y) (.k (aJ Y Y Y EH Hw) (.k (aD Y) (.k (Io ae Y) (.k (bO Y Yp jN) (.k (dI (e:=gF) xW jN Eo Y Y Y Y (.cons (.dir Y) .nil)) .nil))))))) (by exact(J.t (bU 122 af Y Y (.sl Y) xW Kj jN Y Y Y Y Y) (jz [6,14,76,77]))) ?_;refine bN ?_;refine dN [6,14,76,77] ?_;cases h;exact cF (aC [(120,122)])
   refine aF ?_;refine bN ?_;refine dN [6,14,76,77] ?_;cases h;exact cF (aC [])
  cases h;exact dA (dJ (aC []))
 intro z au h;refine aK [2,3,6,10,44,45,46,47] ?_;refine aG ?_;refine aT h Y (fun Q h=>?_) (fun Q h=>?_)
 ·refine aF ?_;refine aG ?_;refine bT ?_;obtain⟨G,a6,h⟩:=aA h;refine aI (.a 2 ?_);refine .k (aN 111 Ot Y (.cons (Z.int .i64) (.cons (Z.sl gF) .nil)) Y) (.t (bX Y Y Y Y (.UO sO sO) uT) (.f [2,3,6,10,12,44,45,46] ?_));refine aK [2,3,6,10,12,44,45,46,52,53] ?_;obtain⟨a7,am,an,a8⟩:=cL h;refine jM (σs:=fun F:Int×(List (Option (Int×aR)))=>⟨[(2,.v Q0 a2),(3,.ptr 101 0),(6,.ptr 102 0),(10,.ptr 107 0),(12,.ptr 111 0),(44,.v (Wr.sl pB) a0.2.2.1),(45,.v Q0 (a0.2.2.1.length:Int)),(46,.v Q0 z.1),(52,.v Q0 (G.2.length:Int)),(53,.v Q0 F.1)],[(101,.box 80 [.v Q0 a0.1,.v Q1 a0.2.1,.v (Wr.sl pB) a0.2.2.1,.v Wr.bool a0.2.2.2]),(102,.box 197 [.v Q0 (0:Int),.v Q1 ([]:Q6)]),(107,.box 253 [.v (Wr.arr 32 (Wr.B3 gF)) F.2]),(111,.box 197 [.v Q0 G.1,.v Q1 G.2])]⟩) (fun H:(List (Option (Int×aR)))=>⟨[(2,.v Q0 a2),(3,.ptr 101 0),(6,.ptr 102 0),(10,.ptr 107 0),(44,.v (Wr.sl pB) a0.2.2.1),(45,.v Q0 (a0.2.2.1.length:Int)),(46,.v Q0 z.1)],[(101,.box 80 [.v Q0 a0.1,.v Q1 a0.2.1,.v (Wr.sl pB) a0.2.2.1,.v Wr.bool a0.2.2.2]),(102,.box 197 [.v Q0 (0:Int),.v Q1 ([]:Q6)]),(107,.box 253 [.v (Wr.arr 32 (Wr.B3 gF)) H])]⟩) am (aC []) ?_ ?_
  ·intro H u;have h:=an _ u;refine bN ?_;refine dN [2,3,6,10,44,45,46] ?_;cases h;exact cF (aC [])
  intro F av h;refine aK [2,3,6,10,12,44,45,46,52,53,54] ?_;refine aG ?_;refine aT h Y (fun R h=>?_) (fun R h=>?_)
  ·refine aF ?_;refine aG ?_;refine bT ?_;refine aK [2,3,6,10,12,13,44,45,46,52,53] ?_;refine aK [2,3,6,10,12,13,44,45,46,52,53,59] ?_;refine aT h Y (fun T h=>?_) (fun T h=>?_)
   ·obtain⟨a9,ao,h⟩:=aA h;obtain⟨ba,ap,h⟩:=aA h;obtain⟨bb,I,h⟩:=aA h;refine eK 11 mixed (by exact(.k (aB 1 Y Ys Y Hw Y Y) (.k (aJ Y Y Y EH Hw) (.k (aD Y) (.k (gO ao Y Y xW jN) (.k (cG Y No Y S3 Y (.fst .here) Y) (.k (bO Y G3 S3) (.k (aB 1 Y Ys Y Hw Y Y) (.k (aJ Y Y Y EH Hw) (.k (aD Y) (.k (Zt (gO ap Y Y xW jN)) (.k (rD I Y Y Y Y Tryz.runUnderlying253 Tryz.sizeOf252) .nil)))))))))))) (by exact(J.t (Ct (dO I).2.2 Y Y Y Y Tryz.sizeOf252) (J.kp [2,3,6,10,12,44,45,46,52,53] []))) ?_;refine bN ?_;refine dN [2,3,6,10,12,44,45,46,52,53] ?_;cases h;exact cF (aC [])
   refine aF ?_;refine bN ?_;refine dN [2,3,6,10,12,44,45,46,52,53] ?_;cases h;exact cF (aC [])
  cases h;exact dA (dJ (aC []))
 cases h;exact dA (dJ (aC []))
theorem Kn{a0 r}(h:qA a0=some r):
 VG Tryz.prog 229 [.v Q5 a0] (.v Q9 r) []:=by
 refine VG.of Tryz.func229 Y Tryz.ntmps229 Y ?_;intro S w u;unfold qA at h;refine aK [0] ?_;refine dB [0,8] ?_;refine aT h Y (fun C h=>?_) (fun C h=>?_)
 ·refine aK [2] ?_;cases h;exact aH (aY u dP Y (RV.tmp Y) .nil Y)
 refine aF ?_;refine aI (.k (Fj 101 aQ Wr.bool) (.f [0,3] ?_));refine dB [3,11,12,13] ?_;obtain⟨M,G,H,I⟩:=cL h;refine jM (σs:=fun z:Int×(List (aR×Bool))=>⟨[(3,.ref 101),(11,.v Q5 a0),(12,.v Q0 (a0.length:Int)),(13,.v Q0 z.1)],[(101,.mp aQ Wr.bool z.2)]⟩) (fun A:Unit=>⟨[],[]⟩) G (aC []) ?_ ?_
 ·intro A B;have h:=H _ B;refine aK [2] ?_;cases h;exact aH (aY u dP Y (RV.tmp Y) .nil Y)
 intro z L h;refine aK [3,11,12,13,14] ?_;refine aG ?_;refine aT h Y (fun D h=>?_) (fun D h=>?_)
 ·refine aF ?_;refine aG ?_;refine bT ?_;obtain⟨N,O,h⟩:=aA h;refine aI (.a 2 ?_);refine .k (aN 105 By Y (.cons (Z.arr 8 (Z.int .u8)) .nil) Y) (.f [3,5,11,12,13] ?_);refine jJ (.a 2 ?_);refine .k (BS Y Y Y Tryz.runUnderlying388 xJ Nq Y BJ Y Tryz.zeroValue4 (fun _ _=>⟨_,Y,Y⟩)) (.f [3,5,11,12,13,19] ?_);refine aT h Y (fun E h=>?_) (fun E h=>?_)
  ·refine aK [2] ?_;refine aH ?_;refine eV ?_;cases h;refine hX fun F=>?_;obtain rfl:=I _ F;exact aY u dP Y (RV.tmp Y) .nil Y
  refine aF ?_;obtain⟨P,K,h⟩:=aA h;refine eN (.a 2 ?_);refine .t (BT K Y Y Y Y Tryz.runUnderlying388 xJ Nq Y BJ Y) (.f [3,11,12,13] ?_);refine bN ?_;refine dN [3,11,12,13] ?_;cases h;exact cF (aC [])
 cases h;exact dA (dJ (aC []))
theorem Ae{a0 a1 r}(h:nX a0 a1=some r):
 VG Tryz.prog 186 [.v Q5 a0,.v Q5 a1] (.v Q9 r) []:=by
 refine VG.of Tryz.func186 Y Tryz.ntmps186 Y ?_;intro S w z;unfold nX at h;refine aK [0,1] ?_;refine aG ?_;refine aG ?_;obtain⟨C,u,h⟩:=aA h;refine eG (σ':=⟨[(1,.v Q5 a1),(12,.v Wr.bool C)],[]⟩) ?_ ?_
 ·refine cd u (fun A u=>?_) (fun A u=>?_)
  ·cases u;exact jy
  cases u;exact jy
 refine aT h Y (fun B h=>?_) (fun B h=>?_)
 ·refine aK [4] ?_;cases h;exact aH (aY z dP Y (RV.tmp Y) .nil Y)
 refine aF ?_;obtain⟨E,D,h⟩:=aA h;refine aI (.a 1 ?_);refine .k (aM (Kn D) Tryz.call229 (.cons (.dir Y) .nil)) (.f [4] ?_);cases h;exact aH (aY z dP Y (RV.tmp Y) .nil Y)
theorem Ox{a0 r}(h:vL a0=some r):
 VG Tryz.prog 187 [.v Q5 a0] (.VO [.v (Wr.B3 (Wr.pr Q5 (Wr.S9 aQ lY))) r.1,.v Q9 r.2]) []:=by
 refine VG.of Tryz.func187 Y Tryz.ntmps187 Y ?_;intro S w C;unfold vL at h;refine aI (.k (kS (Wr.pr Q5 (Wr.S9 aQ lY))) (.f [0] ?_));refine aG ?_;refine aG ?_;obtain⟨I,u,h⟩:=aA h;refine eG (σ':=⟨[(0,.v Q5 a0),(14,.v Wr.bool I)],[]⟩) ?_ ?_
 ·refine cd u (fun F u=>?_) (fun F u=>?_)
  ·cases u;exact jy
  cases u;exact jy
 refine aT h Y (fun G h=>?_) (fun G h=>?_)
 ·refine aI (.a 1 ?_);refine .k (kS (Wr.pr Q5 (Wr.S9 aQ lY))) (.f [2,3] ?_);cases h;exact aH (bS C dP Y (RV.tmp Y) (RV.tmp Y) .nil Y)
 refine aF ?_;obtain⟨A,K,h⟩:=aA h;refine aI (.a 1 ?_);refine .k (fY 101000 (cO K) Yo (.cons (.dir Y) .nil) Y) (.k (Tx 102 aQ 3 Q0) (.k (bR JN (.cons (Z.sl aQ) (.cons (Z.S9 aQ lY) .nil)) (.cons Y (.dir Y) Y Y Y Y (.cons Y (.dir Y) Y Y Y Y .nil))) (.k (Dr 103 Y Y) (.f [0,4] ?_))));refine dB [4,21,22,23] ?_;obtain⟨P,L,M,Q⟩:=cL h;refine jM (σs:=fun B:Int×(List (aR×kH))=>⟨[(4,.ptr 103 0),(21,.v Q5 a0),(22,.v Q0 (a0.length:Int)),(23,.v Q0 B.1)],[(103,.box 363 [.ref 101000,.ref 102]),(101000,.arr 30 aQ A),(102,.dp (DE.P3 true aQ 3 Q0) (B.2,none) [])]⟩) (fun z:(List (aR×kH))=>⟨[(4,.ptr 103 0)],[(103,.box 363 [.ref 101000,.ref 102]),(101000,.arr 30 aQ A),(102,.dp (DE.P3 true aQ 3 Q0) (z,none) [])]⟩) L (aC []) ?_ ?_
 ·intro z E;have h:=M _ E;refine aI (.a 1 ?_);refine .sub (σ':=⟨[(4,.XA (Wr.pr Q5 (Wr.S9 aQ lY)) (A,z)),(40,.XA (Wr.pr Q5 (Wr.S9 aQ lY)) (A,z))],[]⟩) (Sw.Sub.mk id (.cons Y (.D3 Y Y (.cons (.db Y Y) (.cons (.aIx Y Y .P3) .nil)) (.UO sO sO)) (.cons Y (.D3 Y Y (.cons (.db Y Y) (.cons (.aIx Y Y .P3) .nil)) (.UO sO sO)) .nil)) .nil Y) (.k (by exact Zt (bP Y)) (.f [2,3] ?_));cases h;exact aH (bS C dP Y (RV.tmp Y) (RV.tmp Y) .nil Y)
 intro B O h;refine aK [4,21,22,23,24] ?_;refine aG ?_;refine aT h Y (fun H h=>?_) (fun H h=>?_)
 ·refine aF ?_;refine aG ?_;refine bT ?_;obtain⟨R,T,h⟩:=aA h;refine aI (.a 3 ?_);refine .k (aN 119 By Y (.cons (Z.arr 8 (Z.int .u8)) .nil) Y) (.f [4,5,6,21,22,23] ?_);obtain⟨U,D,h⟩:=aA h;obtain⟨V,N,h⟩:=aA h;refine eK 11 mixed (by exact(.k (aD Y) (.k (aL Y) (.k (aB 1 Y NH Y JC Y Y) (.k (aJ Y Y Y Tryz.isAgg361 JC) (.k (aJ Y Y Y vT nG) (.k (aD Y) (.k (dI (e:=Q0) wO S3 Z3 Y Y Y Y (.cons (.dir Y) .nil)) (WZ.mapEntry (.none Y) 122 D Y Y Y Tryz.runUnderlying361 xJ Nq Y BJ Y ez.arr Tryz.zeroValue22 Y Y (.pu (.none Y) Y (fun _ _=>bW Y Y) (WZ.append (.none Y) 123 N Y Y (.sl Y) wO I3 S3 Y Y Y Y Y (.pu (.none Y) Y (fun _ _=>bW Y Y) .nil)))))))))))) (by exact(J.t (Oi (KU D) Y Y Y Y Y Y) (J.kp [4,21,22,23] []))) ?_;refine bN ?_;refine dN [4,21,22,23] ?_;cases h;exact cF (aC [])
 cases h;exact dA (dJ (aC []))
theorem Gd{a0 a1 r}(h:uS a0 a1=some r):
 VG Tryz.prog 310 [.v jY a0,.v gF a1] (.VO [.v Q4 r.1,.v Wr.bool r.2]) []:=by
 refine VG.of Tryz.func310 Y Tryz.ntmps310 Y ?_;intro S w u;unfold uS at h;refine aI (.k (cK 101 Y sO Y) (.k (cK 102 Y (.UO sO sO) Y) (.k (aN 103 Np Y (.cons (Z.int .i64) (.cons (Z.int .i64) (.cons (Z.int .i64) (.cons (Z.arr 8 (Z.int .u8)) .nil)))) Y) (.f [3,4] ?_))));refine aG ?_;refine eK 9 mixed (by exact(.k (aB 0 Y No Y S3 Y Y) (.k (aJ Y Y Y G3 S3) (.k (bR De (.cons (Z.int .i64) (.cons (Z.int .i64) (.cons (Z.int .i64) (.cons (Z.arr 8 (Z.int .u8)) .nil)))) (.cons Y (.dir Y) Y Y Y Y (.cons Y (.dir Y) Y Y Y Y .nil))) (.k (aB 1 Y No Y nG Y Y) (.k (aJ Y Y Y vT nG) (.k (eJ (e:=aQ) (v:=aU) Hu xJ I5 Y Y (Z.arr 8 (Z.int .u8))) (.k (Re Nq Y Y Tryz.eqGuardType30 Y Y) (WZ.w8 (.none Y) Y Y Y Y Y Y Bw (.k (bP Y) .nil)))))))))) (by exact(J.kp [4,5] [])) ?_;refine aH ?_;obtain rfl:=sM h;exact cB (σ':=⟨[(4,.ptr 90 0),(5,.v Wr.bool (decide (a1.2=aU)))],[(90,.box 210 [.v Q0 a1.1,.v Q0 (0:Int),.v Q0 (0:Int),.v aQ aU])]⟩) (aC [(90,103)]) (bS u dP Y (aV Y Y (.UO sO (.UO sO (.UO sO sO))) Wg Bw) (RV.tmp Y) .nil Y)
theorem Dj{a0 a1 r}(h:lM a0 a1=some r):
 VG Tryz.prog 309 [.v (Wr.B3 (Wr.pr Q5 (Wr.S9 aQ lY))) a0,.v aQ a1] (.VO [.v Q0 r.1,.v Wr.bool r.2]) []:=by
 refine VG.of Tryz.func309 Y Tryz.ntmps309 Y ?_;intro S w u;unfold lM at h;refine aI (.k (cK 101 Y sO Y) (.f [0,3] ?_));refine aG ?_;obtain⟨B,A,h⟩:=aA h;refine eK 7 mixed (by exact(.k (aD Y) (.k (Io A Y) (.k (cG Y NH Y JC Y (.snd .here) Y) (.k (bO Y Tryz.isAgg361 JC) (.k (aJ Y Y Y vT nG) (.k (Xh Y Y Tryz.runUnderlying361 xJ Nq Y BJ Y Tryz.zeroValue22 (fun S w=>⟨_,(Z.sl Q0) S w,Y⟩)) (.k (bP Y) .nil)))))))) (by exact(J.kp [6] [])) ?_;refine dB [6,15] ?_;refine aT h Y (fun z h=>?_) (fun z h=>?_)
 ·refine aK [4,5] ?_;cases h;exact aH (bS u dP Y (RV.tmp Y) (RV.tmp Y) .nil Y)
 refine aF ?_;obtain⟨C,D,h⟩:=aA h;refine aK [4,5] ?_;cases h;exact aH (bS u dP Y (RV.tmp Y) (RV.tmp Y) .nil Y)
theorem Ge{a0 a1 r}(h:nY a0 a1=some r):
 VG Tryz.prog 311 [.v (Wr.F6 (Wr.B3 (Wr.pr Q5 (Wr.S9 aQ lY)))) a0,.v gF a1] (.VO [.v Q4 r.1,.v Wr.bool r.2]) []:=by
 refine VG.of Tryz.func311 Y Tryz.ntmps311 Y ?_;intro S w z;unfold nY at h;refine aI (.k (cK 101 Y (.F6 sO) Y) (.k (cK 102 Y (.UO sO sO) Y) (.k (aN 103 Np Y (.cons (Z.int .i64) (.cons (Z.int .i64) (.cons (Z.int .i64) (.cons (Z.arr 8 (Z.int .u8)) .nil)))) Y) (.f [2,3,4] ?_))));obtain⟨u,A,h⟩:=aA h;refine aI (.a 4 ?_);refine .k (aM (Dj A) Tryz.call309 (.cons (.dir Y) (.cons (.dir Y) .nil))) (.f [3,4,6,7] ?_);refine aI (.a 3 ?_);refine .k (bR De (.cons (Z.int .i64) (.cons (Z.int .i64) (.cons (Z.int .i64) (.cons (Z.arr 8 (Z.int .u8)) .nil)))) (.cons Y (.dir Y) Y Y Y Y (.cons Y (.dir Y) Y Y Y Y (.cons Y (.dir Y) Y Y Y Y .nil)))) (.f [4,5] ?_);refine aH ?_;obtain rfl:=sM h;exact cB (σ':=⟨[(4,.ptr 90 0),(5,.v Wr.bool u.2)],[(90,.box 210 [.v Q0 a1.1,.v Q0 (1:Int),.v Q0 u.1,.v aQ aU])]⟩) (aC [(90,103)]) (bS z dP Y (aV Y Y (.UO sO (.UO sO (.UO sO sO))) Wg Bw) (RV.tmp Y) .nil Y)
theorem sF{a0 a1 r}(h:dX a0 a1=some r):
 VG Tryz.prog 314 [.v Q5 a0,.v aQ a1] (.v Q0 r) []:=by
 refine VG.of Tryz.func314 Y Tryz.ntmps314 Y ?_;intro S w u;unfold dX at h;refine aI (.k (cK 101 Y sO Y) (.f [0,3] ?_));refine dB [0,3,7,8] ?_;obtain⟨L,F,G,H⟩:=cL h;refine jM (σs:=fun z:Int=>⟨[(0,.v Q5 a0),(3,.ptr 101 0),(7,.v Q0 (a0.length:Int)),(8,.v Q0 z)],[(101,.box 30 [.v aQ a1])]⟩) (fun A:Unit=>⟨[],[]⟩) F (aC []) ?_ ?_
 ·intro A B;have h:=G _ B;refine aK [4] ?_;cases h;exact aH (aY u dP Y (RV.tmp Y) .nil Y)
 intro z K h;refine aK [0,3,7,8,9] ?_;refine aG ?_;refine aT h Y (fun C h=>?_) (fun C h=>?_)
 ·refine aF ?_;refine aG ?_;refine bT ?_;refine aK [0,3,5,7,8] ?_;refine aG ?_;obtain⟨M,I,h⟩:=aA h;refine eK 6 mixed (by exact(.k (aJ Y Y Y vT nG) (.k (aD Y) (.k (aD Y) (.k (gO I Y Y Td nG) (.k (bO Y vT nG) (.k (Re Nq Y Y Tryz.eqGuardType30 Y Y) .nil))))))) (by exact(J.kp [0,3,5,7,8,16] [])) ?_;refine aT h Y (fun D h=>?_) (fun D h=>?_)
  ·refine aK [4] ?_;refine aH ?_;refine eV ?_;cases h;refine hX fun E=>?_;obtain rfl:=H _ E;exact aY u dP Y (RV.tmp Y) .nil Y
  refine aF ?_;refine bN ?_;refine dN [0,3,7,8] ?_;cases h;exact cF (aC [])
 cases h;exact dA (dJ (aC []))
theorem Nw{a0 a1 r}(h:tZ a0 a1=some r):
 VG Tryz.prog 313 [.v Q5 a0,.v aQ a1] (.VO [.v Q0 r.1,.v Wr.bool r.2]) []:=by
 refine VG.of Tryz.func313 Y Tryz.ntmps313 Y ?_;intro S w u;unfold tZ at h;refine aI (.k (cK 101 Y sO Y) (.f [0,3] ?_));obtain⟨A,z,h⟩:=aA h;refine aI (.a 2 ?_);refine .k (aM (sF z) Tryz.call314 (.cons (.dir Y) (.cons (.dir Y) .nil))) (.f [6] ?_);refine aI (.a 1 ?_);refine .k (At Y Y) (.f [4,5] ?_);cases h;exact aH (bS u dP Y (RV.tmp Y) (RV.tmp Y) .nil Y)
theorem Dk{a0 a1 r}(h:lN a0 a1=some r):
 VG Tryz.prog 312 [.v (Wr.F6 Q5) a0,.v gF a1] (.VO [.v Q4 r.1,.v Wr.bool r.2]) []:=by
 refine VG.of Tryz.func312 Y Tryz.ntmps312 Y ?_;intro S w z;unfold lN at h;refine aI (.k (cK 101 Y (.F6 sO) Y) (.k (cK 102 Y (.UO sO sO) Y) (.k (aN 103 Np Y (.cons (Z.int .i64) (.cons (Z.int .i64) (.cons (Z.int .i64) (.cons (Z.arr 8 (Z.int .u8)) .nil)))) Y) (.f [2,3,4] ?_))));obtain⟨u,A,h⟩:=aA h;refine aI (.a 4 ?_);refine .k (aM (Nw A) Tryz.call313 (.cons (.dir Y) (.cons (.dir Y) .nil))) (.f [3,4,6,7] ?_);refine aI (.a 3 ?_);refine .k (bR De (.cons (Z.int .i64) (.cons (Z.int .i64) (.cons (Z.int .i64) (.cons (Z.arr 8 (Z.int .u8)) .nil)))) (.cons Y (.dir Y) Y Y Y Y (.cons Y (.dir Y) Y Y Y Y (.cons Y (.dir Y) Y Y Y Y .nil)))) (.f [4,5] ?_);refine aH ?_;obtain rfl:=sM h;exact cB (σ':=⟨[(4,.ptr 90 0),(5,.v Wr.bool u.2)],[(90,.box 210 [.v Q0 a1.1,.v Q0 (2:Int),.v Q0 u.1,.v aQ aU])]⟩) (aC [(90,103)]) (bS z dP Y (aV Y Y (.UO sO (.UO sO (.UO sO sO))) Wg Bw) (RV.tmp Y) .nil Y)
theorem Ce{a0 a1 r}(h:sC a0 a1=some r):
 VG Tryz.prog 315 [.v jY a0,.v gF a1] (.VO [.v Q4 r.1,.v Wr.bool r.2]) []:=by
 refine VG.of Tryz.func315 Y Tryz.ntmps315 Y ?_;intro S w u;unfold sC at h;refine aI (.k (cK 101 Y sO Y) (.k (cK 102 Y (.UO sO sO) Y) (.k (aN 103 Np Y (.cons (Z.int .i64) (.cons (Z.int .i64) (.cons (Z.int .i64) (.cons (Z.arr 8 (Z.int .u8)) .nil)))) Y) (.f [3,4] ?_))));refine aI (.a 4 ?_);refine .k (bR De (.cons (Z.int .i64) (.cons (Z.int .i64) (.cons (Z.int .i64) (.cons (Z.arr 8 (Z.int .u8)) .nil)))) (.cons Y (.dir Y) Y Y Y Y (.cons Y (.dir Y) Y Y Y Y (.cons Y (.dir Y) Y Y Y Y .nil)))) (.f [4,5] ?_);refine aH ?_;obtain rfl:=sM h;exact cB (σ':=⟨[(4,.ptr 90 0),(5,.v Wr.bool true)],[(90,.box 210 [.v Q0 a1.1,.v Q0 (3:Int),.v Q0 (0:Int),.v aQ a1.2])]⟩) (aC [(90,103)]) (bS u dP Y (aV Y Y (.UO sO (.UO sO (.UO sO sO))) Wg Bw) (RV.tmp Y) .nil Y)
theorem Sx{w p0 r}(h:jB w p0=some r):
 n5 Tryz.prog "stillwater/plan.tell" AB w [.v gF p0] (.VO [.v Q4 r.1,.v Wr.bool r.2]) []:=by
 unfold jB at h;rcases w with z | z | z | z | z
 ·exact(n5.here (fun _ _=>by kernel_rfl) Tryz.call310 (Gd h))
 ·exact(.there (n5.here (fun _ _=>by kernel_rfl) Tryz.call311 (Ge h)))
 ·exact(.there (.there (n5.here (fun _ _=>by kernel_rfl) Tryz.call312 (Dk h))))
 ·exact(.there (.there (.there (n5.here (fun _ _=>by kernel_rfl) Tryz.call315 (Ce h)))))
 ·cases h
theorem Jh{a0 a1 a2 r}(h:qU a0 a1 a2=some r):
 VG Tryz.prog 140 [.v Q1 a0,.v Q5 a1,.v Q5 a2] (.VO [.ref 0,.v Q9 r.2]) [(0,.arr 210 Q4 r.1)]:=by
 refine VG.of Tryz.func140 Y Tryz.ntmps140 Y ?_;intro S w C;unfold qU at h;refine aI (.k (aP 101 210 Q4) (.f [0,1,2] ?_));obtain⟨v1,VI,h⟩:=aA h;refine jJ (.a 2 ?_);refine .k (aM (Ae VI) Tryz.call186 (.cons (.dir Y) (.cons (.dir Y) .nil))) (.f [0,1,2,8] ?_);refine aK [0,1,2,8,25] ?_;refine aT h Y (fun N h=>?_) (fun N h=>?_)
 ·refine aI (.a 1 ?_);refine .k (aP 103 210 Q4) (.f [6,7] ?_);cases h;exact aH (wE C dP Y (aC [(0,103)]))
 refine aF ?_;refine aK [0,1,2,9] ?_;refine dB [0,1,2,9,27,28,29] ?_;obtain⟨ax,aa,ab,ac⟩:=cL h;refine jM (σs:=fun D:Int×Int=>⟨[(0,.v Q1 a0),(1,.v Q5 a1),(2,.v Q5 a2),(9,.v Q0 D.1),(27,.v Q1 a0),(28,.v Q0 (a0.length:Int)),(29,.v Q0 D.2)],[]⟩) (fun L:Unit=>⟨[(0,.v Q1 a0),(1,.v Q5 a1),(2,.v Q5 a2)],[]⟩) aa (aC []) ?_ ?_
 ·intro L A;have h:=ab _ A;obtain⟨z,ad,h⟩:=aA h;refine aI (.a 1 ?_);refine .k (aM (Ox ad) Tryz.call187 (.cons (.dir Y) .nil)) (.f [0,1,2,12,13] ?_);refine dB [0,1,2,12,13,54] ?_;refine aT h Y (fun O h=>?_) (fun O h=>?_)
  ·refine aI (.a 1 ?_);refine .k (aP 113 210 Q4) (.f [6,7] ?_);cases h;exact aH (wE C dP Y (aC [(0,113)]))
  refine aF ?_;refine aI (.k (aP 114 210 Q4) (.f [0,1,2,12,14] ?_));refine dB [1,2,12,14,56,57,58] ?_;obtain⟨ay,ae,af,a3⟩:=cL h;refine jM (σs:=fun u:Int×(List (Int×Int×Int×aR))=>⟨[(1,.v Q5 a1),(2,.v Q5 a2),(12,.v (Wr.B3 (Wr.pr Q5 (Wr.S9 aQ lY))) z.1),(14,.ref 162),(56,.v Q1 a0),(57,.v Q0 (a0.length:Int)),(58,.v Q0 u.1)],[(162,.arr 210 Q4 u.2)]⟩) (fun F:(List (Int×Int×Int×aR))=>⟨[(14,.ref 162)],[(162,.arr 210 Q4 F)]⟩) ae (aC [(162,114)]) ?_ ?_
  ·intro F A;have h:=af _ A;refine aK [6,7] ?_;cases h;exact aH (wE C dP Y (aC [(0,162)]))
  intro u M h;refine aK [1,2,12,14,56,57,58,59] ?_;refine aG ?_;refine aT h Y (fun P h=>?_) (fun P h=>?_)
  ·refine aF ?_;refine aG ?_;obtain⟨we,am,h⟩:=fE h;refine SU (fun G:(List (Int×Int×Int×aR))=>⟨[(1,.v Q5 a1),(2,.v Q5 a2),(12,.v (Wr.B3 (Wr.pr Q5 (Wr.S9 aQ lY))) z.1),(14,.ref 196),(56,.v Q1 a0),(57,.v Q0 (a0.length:Int)),(58,.v Q0 u.1)],[(196,.arr 210 Q4 G)]⟩) (fun x=>we x=some M) ?_ ?_
   ·intro G h;rw[am] at h;refine dN [1,2,12,14,56,57,58] ?_;cases h;exact cF (aC [(162,196)])
   obtain⟨E,a4,h⟩:=aA h;refine aI (.a 2 ?_);refine .k (aN 197 Eo Y (.cons (Z.int .i64) (.cons (Z.arr 8 (Z.int .u8)) .nil)) Y) (.t (bX Y Y Y Y (.UO sO sO) jN) (.f [1,2,12,14,16,56,57,58] ?_));refine aG ?_;refine aG ?_;obtain⟨a5,an,h⟩:=aA h;refine eK 8 mixed (by exact(.k (aD Y) (.k (aB 0 Y No Y S3 Y Y) (.k (aJ Y Y Y G3 S3) (.k (gO an Y Y Td nG) (.k (bO Y vT nG) (.k (aB 1 Y No Y nG Y Y) (.k (aJ Y Y Y vT nG) (.k (Re Nq Y Y Tryz.eqGuardType30 Y Y) .nil))))))))) (by exact(J.kp [1,2,12,14,16,56,57,58,69] [])) ?_;refine aT h Y (fun Q h=>?_) (fun Q h=>?_)
   ·refine dA ?_;exact KJ h (aC [(196,162)])
   refine aF ?_;refine SZ (σ':=⟨[(1,.v Q5 a1),(2,.v Q5 a2),(12,.v (Wr.B3 (Wr.pr Q5 (Wr.S9 aQ lY))) z.1),(14,.ref 162),(16,.ptr 197 0),(56,.v Q1 a0),(57,.v Q0 (a0.length:Int)),(58,.v Q0 u.1),(80,.v (Wr.sl AB) ([(.inl ():lH),(.inr (.inl z.1):lH),(.inr (.inr (.inl a2)):lH),(.inr (.inr (.inr (.inl ()))):lH)]:(List lH))),(81,.v Q0 (([(.inl ():lH),(.inr (.inl z.1):lH),(.inr (.inr (.inl a2)):lH),(.inr (.inr (.inr (.inl ()))):lH)]:(List lH)).length:Int)),(82,.v Q0 (0:Int))],[(162,.arr 210 Q4 u.2),(197,.box 214 [.v Q0 E.1,.v aQ E.2])]⟩) (J.cons (.none Y) (Me (bR JI .nil .nil)) Y Y (J.cons (.none Y) (Gy Y Tryz.runUnderlying322 .here) Y Y (J.cons (.none Y) (aD Y) Y Y (J.cons (.none Y) (Ax (bR JJ (.cons (Z.B3 (Wr.pr Q5 (Wr.S9 aQ lY))) .nil) (.cons Y (.dir Y) Y Y Y Y .nil)) (.F6 sO) Y) Y Y (J.cons (.none Y) (Gy Y PY (.there .here)) Y Y (J.cons (.none Y) (aD Y) Y Y (J.cons (.none Y) (Ax (bR JK (.cons (Z.sl aQ) .nil) (.cons Y (.dir Y) Y Y Y Y .nil)) (.F6 sO) Y) Y Y (J.cons (.none Y) (Gy Y PZ (.there (.there .here))) Y Y (J.cons (.none Y) (Me (bR JL .nil .nil)) Y Y (J.cons (.none Y) (Gy Y Tryz.runUnderlying327 (.there (.there (.there .here)))) Y Y (J.cons (.none Y) (dI (e:=AB) QA Tryz.sizeOf330 Tryz.zeroValue330 Y Y Y Y (.cons (.dir Y) (.cons (.dir Y) (.cons (.dir Y) (.cons (.dir Y) .nil))))) Y Y (J.cons (.none Y) (sA Y QA) Y Y (J.cons (.none Y) (aD Y) Y Y (J.fin (aC []))))))))))))))) ?_;obtain⟨a6,ao,ap,a7⟩:=cL h;refine jM (σs:=fun I:Int=>⟨[(1,.v Q5 a1),(2,.v Q5 a2),(12,.v (Wr.B3 (Wr.pr Q5 (Wr.S9 aQ lY))) z.1),(14,.ref 162),(16,.ptr 197 0),(56,.v Q1 a0),(57,.v Q0 (a0.length:Int)),(58,.v Q0 u.1),(80,.v (Wr.sl AB) ([(.inl ():lH),(.inr (.inl z.1):lH),(.inr (.inr (.inl a2)):lH),(.inr (.inr (.inr (.inl ()))):lH)]:(List lH))),(81,.v Q0 (([(.inl ():lH),(.inr (.inl z.1):lH),(.inr (.inr (.inl a2)):lH),(.inr (.inr (.inr (.inl ()))):lH)]:(List lH)).length:Int)),(82,.v Q0 I)],[(162,.arr 210 Q4 u.2),(197,.box 214 [.v Q0 E.1,.v aQ E.2])]⟩) (fun H:(List (Int×Int×Int×aR))=>⟨[(1,.v Q5 a1),(2,.v Q5 a2),(12,.v (Wr.B3 (Wr.pr Q5 (Wr.S9 aQ lY))) z.1),(14,.ref 204),(56,.v Q1 a0),(57,.v Q0 (a0.length:Int)),(58,.v Q0 u.1)],[(204,.arr 210 Q4 H)]⟩) ao (aC []) ?_ ?_
   ·intro H A;have h:=ap _ A;exact KI h (aC [(196,204)])
   intro I av h;refine aK [1,2,12,14,16,56,57,58,80,81,82,83] ?_;refine aG ?_;refine aT h Y (fun R h=>?_) (fun R h=>?_)
   ·refine aF ?_;refine aG ?_;refine bT ?_;obtain⟨um,a8,h⟩:=aA h;refine aK [1,2,12,14,16,18,56,57,58,80,81,82] ?_;obtain⟨kz,aq,h⟩:=aA h;refine aI (.a 1 ?_);refine .k (aS Y Y (.UO sO sO) Yp jN) (.k (CC Y (Sx aq) (.cons (.dir Y) .nil)) ?_);refine .a 3 ?_;refine .k (aN 205 Np Y (.cons (Z.int .i64) (.cons (Z.int .i64) (.cons (Z.int .i64) (.cons (Z.arr 8 (Z.int .u8)) .nil)))) Y) (.t (bX Y Y Y Y (.UO sO (.UO sO (.UO sO sO))) Bw) (.f [1,2,12,14,16,19,20,56,57,58,80,81,82] ?_));refine aK [1,2,12,14,16,19,56,57,58,80,81,82,92] ?_;refine aT h Y (fun T h=>?_) (fun T h=>?_)
    ·obtain⟨vl,au,h⟩:=aA h;refine aI (.a 1 ?_);refine .k (aS Y Y (.UO sO (.UO sO (.UO sO sO))) Wg Bw) (.k (dI (e:=Q4) DZ Bw Np Y Y Y Y (.cons (.dir Y) .nil)) (.t (bU 206 au Y Y (.sl Y) DZ PR Bw Y Y Y Y Y) (.f [1,2,12,14,56,57,58] ?_)));refine dA ?_;refine KF Y ?_;cases h;exact dJ (aC [(204,206)])
    refine aF ?_;refine bN ?_;refine dN [1,2,12,14,16,56,57,58,80,81,82] ?_;cases h;exact cF (aC [])
   cases h;exact dA (dJ (aC [(204,162)]))
  cases h;exact dA (dJ (aC []))
 intro D aw h;refine aK [0,1,2,9,27,28,29,30] ?_;refine aG ?_;refine aT h Y (fun U h=>?_) (fun U h=>?_)
 ·refine aF ?_;refine aG ?_;refine bT ?_;obtain⟨K,wi,h⟩:=aA h;refine aI (.a 2 ?_);refine .k (aN 110 Eo Y (.cons (Z.int .i64) (.cons (Z.arr 8 (Z.int .u8)) .nil)) Y) (.t (bX Y Y Y Y (.UO sO sO) jN) (.f [0,1,2,9,11,27,28,29] ?_));refine aG ?_;refine aG ?_;obtain⟨tn,B,h⟩:=aA h;refine eG (σ':=⟨[(0,.v Q1 a0),(1,.v Q5 a1),(2,.v Q5 a2),(11,.ptr 110 0),(27,.v Q1 a0),(28,.v Q0 (a0.length:Int)),(29,.v Q0 D.2),(43,.v Wr.bool tn)],[(110,.box 214 [.v Q0 K.1,.v aQ K.2])]⟩) ?_ ?_
  ·refine cd B (fun V B=>?_) (fun V B=>?_)
   ·cases B;exact jy
   cases B;exact jy
  refine aT h Y (fun X h=>?_) (fun X h=>?_)
  ·refine aI (.a 1 ?_);refine .k (aP 111 210 Q4) (.f [6,7] ?_);refine aH ?_;refine eV ?_;cases h;refine hX fun ho=>?_;obtain rfl:=ac _ ho;exact wE C dP Y (aC [(0,111)])
  refine aF ?_;refine dN [0,1,2,9,27,28,29] ?_;refine bN ?_;refine dN [0,1,2,9,27,28,29] ?_;cases h;exact cF (aC [])
 cases h;exact dA (dJ (aC []))
theorem Ji{a0 a1 a2 r}(h:qV a0 a1 a2=some r):
 VG Tryz.prog 83 [.v pB a0,.v Q5 a1,.v Q0 a2] (.VO [.v Q8 r.1,.v Wr.bool r.2]) []:=by
 refine VG.of Tryz.func83 Y Tryz.ntmps83 Y ?_;intro S w A;unfold qV at h;refine aI (.k (cK 101 Y (.UO sO sO) Y) (.k (aN 102 Bx Y (.cons (Z.int .i64) (.cons (Z.sl Q0) (.cons (Z.sl aQ) .nil))) Y) (.f [1,2,3,6] ?_)));obtain⟨B,H,h⟩:=aA h;refine aI (.a 3 ?_);refine .k (fY 103000 (Jh H) Tryz.call140 (.cons (.dir Y) (.cons (.dir Y) (.cons (.ln _) .nil))) Y) (.f [2,3,6,8,9] ?_);refine dB [2,3,6,8,21] ?_;refine aT h Y (fun E h=>?_) (fun E h=>?_)
 ·refine aI (.k (fO (new:=[(105,.arr 3 Q0 ([]:kH)),(104,.arr 30 aQ ([]:lS))]) lT (.cons (Z.int .i64) (.ref 105 Y (.ref 104 Y .nil))) (.cons (.cons .nil)) Y .nil) (.f [6,7] ?_));refine aH ?_;obtain rfl:=sM h;exact cB (σ':=⟨[(6,.ptr 90 0),(7,.v Wr.bool false)],[(90,.box 144 [.v Q0 (0:Int),.v lY ([]:kH),.v Q5 ([]:lS)])]⟩) (aC [(90,102)]) (bS A dP Y (aV Y Y (.UO sO (.UO sO sO)) uK lE) (RV.tmp Y) .nil Y)
 refine aF ?_;refine aI (.a 3 ?_);refine .k (sU (e:=Q0) 106 wO S3 Z3 Y Y Y Y (.cons (.dir Y) (.cons (.dir Y) .nil))) (.k (fO (new:=[(107,.arr 30 aQ ([]:lS))]) lT (.cons (Z.int .i64) (.cons (Z.sl Q0) (.ref 107 Y .nil))) (.cons .nil) Y (.cons Y (.dir Y) Y Y Y Y (.cons Y (.dir Y) Y Y Y Y .nil))) (.k (zN (new:=[(110,.arr 3 Q0 ([]:kH)),(109,.arr 30 aQ ([]:lS))]) 108 Bx Y (.cons (Z.int .i64) (.ref 110 Y (.ref 109 Y .nil))) (.cons (.cons .nil)) Y Y) (.f [6,8,10] ?_)));refine dB [6,10,28,29,30] ?_;obtain⟨O,I,K,P⟩:=cL h;refine jM (σs:=fun z:Int×kH×lS=>⟨[(6,.ptr 102 0),(10,.ptr 108 0),(28,.ref 103000),(29,.v Q0 (B.1.length:Int)),(30,.v Q0 z.1)],[(102,.box 144 [.v Q0 (0:Int),.v lY ([]:kH),.v Q5 ([]:lS)]),(108,.box 144 [.v Q0 (4:Int),.ref 123,.ref 124]),(103000,.arr 210 Q4 B.1),(123,.arr 3 Q0 z.2.1),(124,.arr 30 aQ z.2.2)]⟩) (fun u:kH×lS=>⟨[(6,.ptr 102 0),(10,.ptr 108 0)],[(102,.box 144 [.v Q0 (0:Int),.v lY ([]:kH),.v Q5 ([]:lS)]),(108,.box 144 [.v Q0 (4:Int),.ref 123,.ref 124]),(123,.arr 3 Q0 u.1),(124,.arr 30 aQ u.2)]⟩) I (aC [(124,107),(123,106)]) ?_ ?_
 ·intro u D;have h:=K _ D;refine aG ?_;refine eK 7 mixed (by exact(.k (gZ Y Y Y uK lE) (.k (aB 1 Y uL Y yO Y Y) (.k (aJ Y Y Y Sq yO) (.k (Qy Y Y wO) (.k (nB Y Y Y) (WZ.w8 (.none Y) Y Y Y Y Y Y lE (.k (bP Y) .nil)))))))) (by exact(J.kp [6,7] [])) ?_;refine aH ?_;obtain rfl:=sM h;exact cB (σ':=⟨[(6,.ptr 90 0),(7,.v Wr.bool (cm .leq (u.1.length:Int) (9:Int)))],[(90,.box 144 [.v Q0 (4:Int),.v lY u.1,.v Q5 u.2])]⟩) (aC [(90,102)]) (bS A dP Y (aV Y Y (.UO sO (.UO sO sO)) uK lE) (RV.tmp Y) .nil Y)
 intro z N h;refine aK [6,10,28,29,30,31] ?_;refine aG ?_;refine aT h Y (fun F h=>?_) (fun F h=>?_)
 ·refine aF ?_;refine aG ?_;refine bT ?_;obtain⟨Q,C,h⟩:=aA h;refine aI (.k (lX C Y Y Y DZ Bw) (.k (mB (dO C).2.2 Y Y .here Wg Bw) (.k (aN 128 Np Y (.cons (Z.int .i64) (.cons (Z.int .i64) (.cons (Z.int .i64) (.cons (Z.arr 8 (Z.int .u8)) .nil)))) Y) (.t (bX Y Y Y Y (.UO sO (.UO sO (.UO sO sO))) Bw) (.f [6,10,12,28,29,30] ?_)))));obtain⟨R,L,h⟩:=aA h;refine aI (.a 4 ?_);refine .k (eY (.inl Y) (by decide) Y Y) ?_;refine .a 2 ?_;refine .k (eY (.inl Y) (by decide) Y Y) ?_;refine .a 4 ?_;refine .k (dI (e:=Q0) wO S3 Z3 Y Y Y Y (.cons (.dir Y) .nil)) (.t (bU 129 L Y Y (.sl Y) wO I3 S3 Y Y Y Y Y) (.f [6,10,12,28,29,30] ?_));refine aK [6,10,12,28,29,30,51] ?_;refine aT h Y (fun G h=>?_) (fun G h=>?_)
  ·obtain⟨T,M,h⟩:=aA h;refine eN (.a 4 ?_);refine .k (dI (e:=aQ) Td nG By Y Y Y Y (.cons (.dir Y) .nil)) (.t (bU 130 M Y Y (.sl Y) Td Hu nG Y Y Y Y Y) (.f [6,10,28,29,30] ?_));refine bN ?_;refine dN [6,10,28,29,30] ?_;cases h;exact cF (aC [(124,130),(123,129)])
  refine aF ?_;refine bN ?_;refine dN [6,10,28,29,30] ?_;cases h;exact cF (aC [(123,129)])
 cases h;exact dA (dJ (aC []))
theorem xQ(A:Nat->Nat){b0 b1 b2 b3 b4 b5 b6 b7 b8 b9 bA bB bC bD bE bF bG bH bI bJ bK bL r}(h:dL b0 b1 b2 b3 b4 b5 b6 b7 b8 b9 bA bB bC bD bE bF bG bH bI bJ bK bL=some r):
 UT Tryz.prog 51 [.ptr 9000 1] (kE 9000 (some (A 9000)) 9100 (some (A 9100)) 9200 (some (A 9200)) 9050 9051 9052 9053 b0 b1 b2 b3 b4 b5 b6 b7 b8 b9 bA bB bC bD bE bF bG bH bI bJ bK bL) (.v Q8 r) (kE 9000 (some (A 9000)) 9100 (some (A 9100)) 9200 (some (A 9200)) 400 401 402 403 b0 b1 b2 b3 b4 b5 b6 b7 b8 b9 bA bB bC bD bE bF bG bH bI bJ bK bL):=by
 refine UT.of Tryz.func51 Y Tryz.ntmps51 Y ?_;intro S w R C;unfold dL at h;refine aI (.k (aN 101 Bx Y (.cons (Z.int .i64) (.cons (Z.sl Q0) (.cons (Z.sl aQ) .nil))) Y) (.f [0,2] ?_));refine aG ?_;refine aG ?_;obtain⟨D,I,h⟩:=aA h;refine eK 22 mixed (by exact(.k (aD Y) (.k (aL Y) (.k (aB 6 Y vH Y yP Y Y) (.k (aJ Y Y Y Em yP) (.k (aD Y) (.k (aL Y) (.k (aB 1 Y vH Y Kk Y Y) (.k (aB 2 Y En Y S3 Y Y) (.k (aJ Y Y Y G3 S3) (.k (aD Y) (.k (aL Y) (.k (aB 15 Y vH Y S3 Y Y) (.k (aJ Y Y Y G3 S3) (.k (aM (Km I) Tryz.call82 (.cons (.dir Y) (.cons (.dir Y) (.cons (.dir Y) .nil)))) (.k (aD Y) (.k (bW Y Y) (.k (bW Y Y) (.k (bW Y Y) (.k (aN 103 Ot Y (.cons (Z.int .i64) (.cons (Z.sl gF) .nil)) Y) (WZ.storeAll (.none Y) Y Y Y Y (.UO sO sO) uT (.k (bP Y) (.k (bP Y) .nil))))))))))))))))))))))) (by exact(J.kp [0,2,3,4,5] [])) ?_;refine aG ?_;obtain⟨K,u,h⟩:=aA h;refine eG (σ':=⟨[(0,.ptr 9000 1),(2,.ptr 101 0),(3,.ptr 103 0),(32,.v Wr.bool K)],((101,.box 144 [.v Q0 (0:Int),.v lY ([]:kH),.v Q5 ([]:lS)])::(103,.box 197 [.v Q0 D.1.1,.v Q1 D.1.2])::kE 9000 (some (A 9000)) 9100 (some (A 9100)) 9200 (some (A 9200)) 9050 9051 9052 9053 b0 b1 b2 b3 b4 b5 b6 b7 b8 b9 bA bB bC bD bE bF bG bH bI bJ bK bL)⟩) ?_ ?_
 ·refine cd u (fun F u=>?_) (fun F u=>?_)
  ·cases u;refine ja 1 ?_;exact(J.k (iM Oq Y) jy)
  cases u;refine ja 1 ?_;exact(J.k (iM Oq Y) jy)
 obtain⟨L,M,h⟩:=fE h;refine sZ (fun E:Unit=>⟨[(0,.ptr 9000 1),(2,.ptr 101 0)],((101,.box 144 [.v Q0 (0:Int),.v lY ([]:kH),.v Q5 ([]:lS)])::kE 9000 (some (A 9000)) 9100 (some (A 9100)) 9200 (some (A 9200)) 9050 9051 9052 9053 b0 b1 b2 b3 b4 b5 b6 b7 b8 b9 bA bB bC bD bE bF bG bH bI bJ bK bL)⟩) (fun x=>L x=some r) Y ?_ ?_ ?_
 ·intro E h;rw[M] at h;refine aG ?_;refine eK 18 mixed (by exact(.k (aD Y) (.k (aL Y) (.k (aB 1 Y vH Y Kk Y Y) (.k (aB 3 Y En Y S3 Y Y) (.k (aJ Y Y Y G3 S3) (.k (dI (e:=Q0) wO S3 Z3 Y Y Y Y (.cons (.dir Y) .nil)) (.k (aD Y) (.k (aL Y) (.k (aB 10 Y vH Y Yr Y Y) (.k (aJ Y Y Y OA Yr) (.k (aD Y) (.k (aL Y) (.k (aB 1 Y vH Y Kk Y Y) (.k (aB 3 Y En Y S3 Y Y) (.k (aJ Y Y Y G3 S3) (.k (Ub Y Y Y QB U3 (l4.int U3) Y TN (fun S w=>⟨_,(Z.sl aQ) S w,Y⟩)) (.k (bR lT (.cons (Z.int .i64) (.cons (Z.sl Q0) (.cons (Z.sl aQ) .nil))) (.cons Y (.dir Y) Y Y Y Y (.cons Y (.dir Y) Y Y Y Y (.cons Y (.dir Y) Y Y Y Y .nil)))) (WZ.w8 (.none Y) Y Y Y Y Y Y lE .nil))))))))))))))))))) (by exact(J.kp [0,2] [])) ?_;refine aH ?_;obtain rfl:=sM h;exact tJ [(0,.ptr 9000 1),(2,.ptr 90 0)] [(90,.box 144 [.v Q0 (5:Int),.v lY ([b2]:kH),.v Q5 ((fJ b6 b2).getD ([]:lS))])] (aC [(90,101),(403,9053),(402,9052),(401,9051),(400,9050)]) (eH C Y (aV Y Y (.UO sO (.UO sO sO)) uK lE) (.cons Y (.cons Y (.cons Y (.cons Y (.cons Y (.cons Y (.cons Y .nil))))))))
 ·intro z;replace h:=iK z h;refine aG ?_;refine eK 14 mixed (by exact(.k (aD Y) (.k (aL Y) (.k (aB 10 Y vH Y Yr Y Y) (.k (aJ Y Y Y OA Yr) (.k (aD Y) (.k (aL Y) (.k (aB 15 Y vH Y S3 Y Y) (.k (aJ Y Y Y G3 S3) (.k (Mh Y Y Y QB U3 (l4.int U3) Y TN (fun S w=>⟨_,(Z.sl aQ) S w,Y⟩)) (.k (aD Y) (.k (bW Y Y) (.k (bW Y Y) (.k (bP Y) (.k (bP Y) .nil))))))))))))))) (by exact(J.kp [0,2,3,6,7] [])) ?_;refine aK [0,2,3,6,45] ?_;refine aT h Y (fun G h=>?_) (fun G h=>?_)
  ·refine aG ?_;obtain⟨B,N,h⟩:=aA h;refine eK 13 mixed (by exact(.k (aS Y Y (.UO sO sO) Nl uT) (.k (aD Y) (.k (aD Y) (.k (aL Y) (.k (aB 15 Y vH Y S3 Y Y) (.k (aJ Y Y Y G3 S3) (.k (aM (Ji N) Tryz.call83 (.cons (.dir Y) (.cons (.dir Y) (.cons (.dir Y) .nil)))) (.k (aD Y) (.k (bW Y Y) (.k (bW Y Y) (.k (aN 107 Bx Y (.cons (Z.int .i64) (.cons (Z.sl Q0) (.cons (Z.sl aQ) .nil))) Y) (WZ.storeAll (.none Y) Y Y Y Y (.UO sO (.UO sO sO)) lE (.k (bP Y) .nil)))))))))))))) (by exact(J.kp [0,2,8,9] [])) ?_;refine aK [0,2,8,56] ?_;refine aT h Y (fun H h=>?_) (fun H h=>?_)
   ·refine aI (.k (aS Y Y (.UO sO (.UO sO sO)) uK lE) (.t (bX Y Y Y Y (.UO sO (.UO sO sO)) lE) (.f [0,2] ?_)));refine aH ?_;refine Gl ?_;obtain rfl:=sM h;exact tJ [(0,.ptr 9000 1),(2,.ptr 90 0)] [(90,.box 144 [.v Q0 B.1.1,.v lY B.1.2.1,.v Q5 B.1.2.2])] (aC [(90,101),(403,9053),(402,9052),(401,9051),(400,9050)]) (eH C Y (aV Y Y (.UO sO (.UO sO sO)) uK lE) (.cons Y (.cons Y (.cons Y (.cons Y (.cons Y (.cons Y (.cons Y .nil))))))))
   refine aF ?_;exact cC h (aC [])
  refine aF ?_;exact cC h (aC [])
 ·intro z;replace h:=iL z h;refine aF ?_;exact cC h (aC [])
theorem Hy{a0 r}(h:pQ a0=some r):
 VG Tryz.prog 184 [.v Q0 a0] (.v Wr.bool r) []:=by
 refine VG.of Tryz.func184 Y Tryz.ntmps184 Y ?_;intro S w z;unfold pQ at h;refine aK [0] ?_;refine aG ?_;obtain⟨B,u,h⟩:=aA h;refine eG (σ':=⟨[(2,.v Wr.bool B)],[]⟩) ?_ ?_
 ·refine cd u (fun A u=>?_) (fun A u=>?_)
  ·cases u;exact jy
  cases u;exact jy
 cases h;exact aH (aY z dP Y (RV.tmp Y) .nil Y)
theorem oY{a0 r}(h:dW a0=some r):
 VG Tryz.prog 228 [.v lY a0,.YV 184 []] (.v Q0 r) []:=by
 refine VG.of Tryz.func228 Y Tryz.ntmps228 Y ?_;intro S w u;unfold dW at h;refine aK [0,1] ?_;refine dB [0,1,7,8] ?_;obtain⟨L,F,G,H⟩:=cL h;refine jM (σs:=fun z:Int=>⟨[(0,.v lY a0),(1,.YV 184 []),(7,.v Q0 (a0.length:Int)),(8,.v Q0 z)],[]⟩) (fun A:Unit=>⟨[],[]⟩) F (aC []) ?_ ?_
 ·intro A B;have h:=G _ B;refine aK [4] ?_;cases h;exact aH (aY u dP Y (RV.tmp Y) .nil Y)
 intro z K h;refine aK [0,1,7,8,9] ?_;refine aG ?_;refine aT h Y (fun C h=>?_) (fun C h=>?_)
 ·refine aF ?_;refine aG ?_;refine bT ?_;refine aK [0,1,5,7,8] ?_;obtain⟨M,N,h⟩:=aA h;obtain⟨O,I,h⟩:=aA h;refine aI (.a 5 ?_);refine .k (tI Y (Hy I) Tryz.call184 (.cons (.dir Y) .nil)) (.f [0,1,5,7,8,16] ?_);refine aT h Y (fun D h=>?_) (fun D h=>?_)
  ·refine aK [4] ?_;refine aH ?_;refine eV ?_;cases h;refine hX fun E=>?_;obtain rfl:=H _ E;exact aY u dP Y (RV.tmp Y) .nil Y
  refine aF ?_;refine bN ?_;refine dN [0,1,7,8] ?_;cases h;exact cF (aC [])
 cases h;exact dA (dJ (aC []))
theorem nI{a0 r}(h:cW a0=some r):
 VG Tryz.prog 182 [.v lY a0,.YV 184 []] (.v Wr.bool r) []:=by
 refine VG.of Tryz.func182 Y Tryz.ntmps182 Y ?_;intro S w u;unfold cW at h;refine aK [0,1] ?_;obtain⟨A,z,h⟩:=aA h;refine aI (.a 2 ?_);refine .k (aM (oY z) Tryz.call228 (.cons (.dir Y) (.cons (.dir Y) .nil))) (.f [4] ?_);cases h;exact aH (aY u dP Y (RV.tmp Y) .nil Y)
theorem Bt{a0 r}(h:qB a0=some r):
 VG Tryz.prog 136 [.v lY a0] (.v Wr.bool r) []:=by
 refine VG.of Tryz.func136 Y Tryz.ntmps136 Y ?_;intro S w u;unfold qB at h;refine aK [0] ?_;obtain⟨A,z,h⟩:=aA h;refine aI (.a 1 ?_);refine .k (aM (nI z) Tryz.call182 (.cons (.dir Y) (.cons .fn .nil))) (.f [2] ?_);cases h;exact aH (aY u dP Y (RV.tmp Y) .nil Y)
theorem Fc{a0 r}(h:tN a0=some r):
 VG Tryz.prog 79 [.v Q8 a0] (.v Q9 r) []:=by
 refine VG.of Tryz.func79 Y Tryz.ntmps79 Y ?_;intro S w u;unfold tN at h;refine aI (.k (cK 101 Y (.UO sO (.UO sO sO)) Y) (.f [1] ?_));obtain⟨C,B,h⟩:=aA h;refine jJ (.k (aS Y Y (.UO sO (.UO sO sO)) uK lE) (.k (aM (Bs B) Tryz.call134 (.cons (.dir Y) .nil)) (.f [1,3] ?_)));refine aK [1,3,7] ?_;refine aT h Y (fun z h=>?_) (fun z h=>?_)
 ·refine aK [2] ?_;cases h;exact aH (aY u dP Y (RV.tmp Y) .nil Y)
 refine aF ?_;refine dB [12] ?_;refine aT h Y (fun A h=>?_) (fun A h=>?_)
 ·refine aK [2] ?_;cases h;exact aH (aY u dP Y (RV.tmp Y) .nil Y)
 refine aF ?_;refine aK [2] ?_;cases h;exact aH (aY u dP Y (RV.tmp Y) .nil Y)
theorem xR{a0 r}(h:pE a0=some r):
 VG Tryz.prog 78 [.v Nk a0] (.v Q9 r) []:=by
 refine VG.of Tryz.func78 Y Tryz.ntmps78 Y ?_;intro S w u;unfold pE at h;refine aI (.k (cK 101 Y (.UO sO (.UO sO sO)) Y) (.f [1] ?_));obtain⟨O,H,h⟩:=aA h;refine jJ (.a 4 ?_);refine .k (dI (e:=Q0) wO S3 Z3 Y Y Y Y (.cons (.dir Y) (.cons (.dir Y) .nil))) (.k (aM (Bt H) Tryz.call136 (.cons (.dir Y) .nil)) (.f [1,12] ?_));refine aT h Y (fun C h=>?_) (fun C h=>?_)
 ·refine aK [2] ?_;cases h;exact aH (aY u dP Y (RV.tmp Y) .nil Y)
 refine aF ?_;refine dB [1,17] ?_;refine aT h Y (fun D h=>?_) (fun D h=>?_)
 ·refine aK [2] ?_;cases h;exact aH (aY u dP Y (RV.tmp Y) .nil Y)
 refine aF ?_;refine dB [20,21,22] ?_;obtain⟨P,I,K,L⟩:=cL h;refine jM (σs:=fun z:Int=>⟨[(20,.v (Wr.sl Q8) a0.2.2),(21,.v Q0 (a0.2.2.length:Int)),(22,.v Q0 z)],[]⟩) (fun A:Unit=>⟨[],[]⟩) I (aC []) ?_ ?_
 ·intro A B;have h:=K _ B;refine aK [2] ?_;cases h;exact aH (aY u dP Y (RV.tmp Y) .nil Y)
 intro z N h;refine aK [20,21,22,23] ?_;refine aG ?_;refine aT h Y (fun E h=>?_) (fun E h=>?_)
 ·refine aF ?_;refine aG ?_;refine bT ?_;obtain⟨Q,R,h⟩:=aA h;refine aI (.a 2 ?_);refine .k (aN 109 Bx Y (.cons (Z.int .i64) (.cons (Z.sl Q0) (.cons (Z.sl aQ) .nil))) Y) (.t (bX Y Y Y Y (.UO sO (.UO sO sO)) lE) (.f [4,20,21,22] ?_));obtain⟨T,M,h⟩:=aA h;refine aI (.k (aS Y Y (.UO sO (.UO sO sO)) uK lE) (.k (aM (Fc M) Tryz.call79 (.cons (.dir Y) .nil)) (.f [5,20,21,22] ?_)));refine aK [5,20,21,22,29] ?_;refine aT h Y (fun F h=>?_) (fun F h=>?_)
  ·refine aK [2] ?_;refine aH ?_;refine eV ?_;cases h;refine hX fun G=>?_;obtain rfl:=L _ G;exact aY u dP Y (RV.tmp Y) .nil Y
  refine aF ?_;refine bN ?_;refine dN [20,21,22] ?_;cases h;exact cF (aC [])
 cases h;exact dA (dJ (aC []))
theorem wA{a0 r}(h:qW a0=some r):
 VG Tryz.prog 137 [.v (Wr.E6 Q0) a0] (.ref 0) [(0,.arr 3 Q0 r)]:=by
 refine VG.of Tryz.func137 Y Tryz.ntmps137 Y ?_;intro S w u;unfold qW at h;refine aI (.k (aP 101 3 Q0) (.f [0] ?_));refine jJ (.a 1 ?_);refine .k (wY Y wO) (.f [0,4] ?_);refine aT h Y (fun z h=>?_) (fun z h=>?_)
 ·refine aI (.k (aP 102 3 Q0) (.f [2] ?_));cases h;exact aH (wD u dP Y (aC [(0,102)]))
 refine aF ?_;obtain⟨B,A,h⟩:=aA h;refine aI (.k (sU (e:=Q0) 103 wO S3 Z3 Y Y Y Y .nil) ?_);refine .a 1 ?_;refine .t (bU 104 A Y Y (.E6 Y) wO I3 S3 Y Y Y Y Y) (.f [2] ?_);cases h;exact aH (wD u dP Y (aC [(0,104)]))
theorem zB{a0:kH}{r:kH}(h:kU a0=some r):
  VG Tryz.prog 137 [.v lY a0] (.ref 0) [(0,.arr 3 Q0 r)]:=
 rF fun b u=>wA (by cases b with | true=>rw[u rfl] at h ⊢;exact h | false=>exact Dw h)
theorem Dl{a0 r}(h:mS a0=some r):
 VG Tryz.prog 81 [.v Q8 a0] (.v Q8 r) []:=by
 refine VG.of Tryz.func81 Y Tryz.ntmps81 Y ?_;intro S w u;unfold mS at h;refine aI (.k (cK 101 Y (.UO sO (.UO sO sO)) Y) (.k (aN 102 Bx Y (.cons (Z.int .i64) (.cons (Z.sl Q0) (.cons (Z.sl aQ) .nil))) Y) (.f [1,2] ?_)));refine aG ?_;obtain⟨z,A,h⟩:=aA h;obtain⟨B,C,h⟩:=aA h;refine eK 10 mixed (by exact(.k (aB 1 Y uL Y yO Y Y) (.k (aJ Y Y Y Sq yO) (.k (fY 103000 (zB A) Tryz.call137 (.cons (.dir Y) .nil) Y) (.k (aB 2 Y uL Y Kd Y Y) (.k (aJ Y Y Y JB Kd) (.k (fY 104000 (cO C) Yo (.cons (.dir Y) .nil) Y) (.k (aB 1 Y uL Y yO Y Y) (WZ.store (.none Y) Y Y Y Y Y Y Y yO (.k (aB 2 Y uL Y Kd Y Y) (WZ.store (.none Y) Y Y Y Y Y Y Y Kd .nil))))))))))) (by exact(J.kp [1,2] [])) ?_;refine aI (.k (gZ Y Y Y uK lE) (.f [2] ?_));refine aH ?_;obtain rfl:=sM h;exact cB (σ':=⟨[(2,.ptr 90 0)],[(90,.box 144 [.v Q0 a0.1,.v lY z,.v Q5 B])]⟩) (aC [(90,102)]) (aY u dP Y (aV Y Y (.UO sO (.UO sO sO)) uK lE) .nil Y)
theorem Dm{a0 r}(h:rN a0=some r):
 VG Tryz.prog 80 [.v (Wr.sl Q8) a0] (.ref 0) [(0,.arr 144 Q8 r)]:=by
 refine VG.of Tryz.func80 Y Tryz.ntmps80 Y ?_;intro S w A;unfold rN at h;refine aI (.k (aP 101 144 Q8) (.f [0] ?_));refine aI (.k (aP 102 144 Q8) (.f [0,3] ?_));refine dB [3,6,7,8] ?_;obtain⟨I,D,E,K⟩:=cL h;refine jM (σs:=fun u:Int×Oe=>⟨[(3,.ref 112),(6,.v (Wr.sl Q8) a0),(7,.v Q0 (a0.length:Int)),(8,.v Q0 u.1)],[(112,.arr 144 Q8 u.2)]⟩) (fun z:Oe=>⟨[(3,.ref 112)],[(112,.arr 144 Q8 z)]⟩) D (aC [(112,102)]) ?_ ?_
 ·intro z B;have h:=E _ B;refine aK [2] ?_;cases h;exact aH (wD A dP Y (aC [(0,112)]))
 intro u H h;refine aK [3,6,7,8,9] ?_;refine aG ?_;refine aT h Y (fun C h=>?_) (fun C h=>?_)
 ·refine aF ?_;refine aG ?_;refine bT ?_;obtain⟨L,M,h⟩:=aA h;refine aI (.a 2 ?_);refine .k (aN 116 Bx Y (.cons (Z.int .i64) (.cons (Z.sl Q0) (.cons (Z.sl aQ) .nil))) Y) (.t (bX Y Y Y Y (.UO sO (.UO sO sO)) lE) (.f [3,5,6,7,8] ?_));obtain⟨N,F,h⟩:=aA h;obtain⟨O,G,h⟩:=aA h;refine eN (.a 1 ?_);refine .k (aS Y Y (.UO sO (.UO sO sO)) uK lE) (.k (aM (Dl F) Tryz.call81 (.cons (.dir Y) .nil)) (.k (dI (e:=Q8) KD lE Bx Y Y Y Y (.cons (.dir Y) .nil)) (.t (bU 118 G Y Y (.sl Y) KD PO lE Y Y Y Y Y) (.f [3,6,7,8] ?_))));refine bN ?_;refine dN [3,6,7,8] ?_;cases h;exact cF (aC [(112,118)])
 cases h;exact dA (dJ (aC []))
theorem Nx{a0 a1 r}(h:uA a0 a1=some r):
 VG Tryz.prog 50 [.v Nk a0,.v Q8 a1] (.VO [.v Nk r.1,.v Q9 r.2]) []:=by
 refine VG.of Tryz.func50 Y Tryz.ntmps50 Y ?_;intro S w z;unfold uA at h;refine aI (.k (cK 101 Y (.UO sO (.UO sO sO)) Y) (.k (cK 102 Y (.UO sO (.UO sO sO)) Y) (.k (aN 103 SS Y (.cons (Z.int .i64) (.cons (Z.int .i64) (.cons (Z.sl Q8) .nil))) Y) (.f [2,3,4] ?_))));obtain⟨E,F,h⟩:=aA h;refine jJ (.k (aS Y Y (.UO sO (.UO sO sO)) Wu Jc) (.k (aM (xR F) Tryz.call78 (.cons (.dir Y) .nil)) (.f [2,3,4,6] ?_)));refine aK [2,3,4,6,11] ?_;refine aT h Y (fun A h=>?_) (fun A h=>?_)
 ·refine aI (.k (bR El (.cons (Z.int .i64) (.cons (Z.int .i64) (.cons (Z.sl Q8) .nil))) .nil) (.f [4,5] ?_));refine aH ?_;obtain rfl:=sM h;exact cB (σ':=⟨[(4,.ptr 90 0),(5,.v Q9 E)],[(90,.box 84 [.v Q0 (0:Int),.v Q0 (0:Int),.v (Wr.sl Q8) ([]:Oe)])]⟩) (aC [(90,103)]) (bS z dP Y (aV Y Y (.UO sO (.UO sO sO)) Wu Jc) (RV.tmp Y) .nil Y)
 refine aF ?_;obtain⟨G,H,h⟩:=aA h;refine jJ (.k (aS Y Y (.UO sO (.UO sO sO)) uK lE) (.k (aM (Fc H) Tryz.call79 (.cons (.dir Y) .nil)) (.f [2,3,4,7] ?_)));refine aK [2,3,4,7,17] ?_;refine aT h Y (fun B h=>?_) (fun B h=>?_)
 ·refine aI (.k (bR El (.cons (Z.int .i64) (.cons (Z.int .i64) (.cons (Z.sl Q8) .nil))) .nil) (.f [4,5] ?_));refine aH ?_;obtain rfl:=sM h;exact cB (σ':=⟨[(4,.ptr 90 0),(5,.v Q9 G)],[(90,.box 84 [.v Q0 (0:Int),.v Q0 (0:Int),.v (Wr.sl Q8) ([]:Oe)])]⟩) (aC [(90,103)]) (bS z dP Y (aV Y Y (.UO sO (.UO sO sO)) Wu Jc) (RV.tmp Y) .nil Y)
 refine aF ?_;refine aG ?_;refine aG ?_;obtain⟨I,u,h⟩:=aA h;refine eG (σ':=⟨[(2,.ptr 101 0),(3,.ptr 102 0),(4,.ptr 103 0),(32,.v Wr.bool I)],[(101,.box 84 [.v Q0 a0.1,.v Q0 a0.2.1,.v (Wr.sl Q8) a0.2.2]),(102,.box 144 [.v Q0 a1.1,.v lY a1.2.1,.v Q5 a1.2.2]),(103,.box 84 [.v Q0 (0:Int),.v Q0 (0:Int),.v (Wr.sl Q8) ([]:Oe)])]⟩) ?_ ?_
 ·refine cd u (fun C u=>?_) (fun C u=>?_)
  ·cases u;exact jy
  cases u;exact jy
 refine aT h Y (fun D h=>?_) (fun D h=>?_)
 ·refine aI (.k (bR El (.cons (Z.int .i64) (.cons (Z.int .i64) (.cons (Z.sl Q8) .nil))) .nil) (.f [4,5] ?_));refine aH ?_;obtain rfl:=sM h;exact cB (σ':=⟨[(4,.ptr 90 0),(5,.v Q9 (some (2:Int)))],[(90,.box 84 [.v Q0 (0:Int),.v Q0 (0:Int),.v (Wr.sl Q8) ([]:Oe)])]⟩) (aC [(90,103)]) (bS z dP Y (aV Y Y (.UO sO (.UO sO sO)) Wu Jc) (RV.tmp Y) .nil Y)
 refine aF ?_;refine aG ?_;obtain⟨O,K,h⟩:=aA h;obtain⟨P,L,h⟩:=aA h;obtain⟨M,N,h⟩:=aA h;refine eK 14 mixed (by exact(.k (aB 0 Y EB Y S3 Y Y) (.k (aJ Y Y Y G3 S3) (.k (aB 1 Y EB Y S3 Y Y) (.k (aJ Y Y Y G3 S3) (.k (aB 2 Y EB Y DY Y Y) (.k (aJ Y Y Y QQ DY) (.k (fY 109000 (Dm K) Tryz.call80 (.cons (.dir Y) .nil) Y) (.k (aS Y Y (.UO sO (.UO sO sO)) uK lE) (.k (aM (Dl L) Tryz.call81 (.cons (.dir Y) .nil)) (.k (dI (e:=Q8) KD lE Bx Y Y Y Y (.cons (.dir Y) .nil)) (WZ.append (.none Y) 111 N Y Y (.sl Y) KD PO lE Y Y Y Y Y (.k (bR El (.cons (Z.int .i64) (.cons (Z.int .i64) (.cons (Z.sl Q8) .nil))) (.cons Y (.dir Y) Y Y Y Y (.cons Y (.dir Y) Y Y Y Y (.cons Y (.dir Y) Y Y Y Y .nil)))) (WZ.w8 (.none Y) Y Y Y Y Y Y Jc (.k (yV ET) .nil))))))))))))))) (by exact(J.kp [4,5] [])) ?_;refine aH ?_;obtain rfl:=sM h;exact cB (σ':=⟨[(4,.ptr 90 0),(5,.v Q9 (none:Option Int))],[(90,.box 84 [.v Q0 a0.1,.v Q0 a0.2.1,.v (Wr.sl Q8) M])]⟩) (aC [(90,103)]) (bS z dP Y (aV Y Y (.UO sO (.UO sO sO)) Wu Jc) (RV.tmp Y) .nil Y)
theorem Oy{a0 r}(h:pA a0=some r):
 VG Tryz.prog 52 [.v Nk a0] (.VO [.v (Wr.sl (Wr.sl (Wr.int .u8))) r.1,.v Q9 r.2]) []:=by
 refine VG.of Tryz.func52 Y Tryz.ntmps52 Y ?_;intro S w u;unfold pA at h;refine aI (.k (cK 101 Y (.UO sO (.UO sO sO)) Y) (.k (aP 102 107 (Wr.sl (Wr.int .u8))) (.f [1] ?_)));obtain⟨T,K,h⟩:=aA h;refine jJ (.k (aS Y Y (.UO sO (.UO sO sO)) Wu Jc) (.k (aM (xR K) Tryz.call78 (.cons (.dir Y) .nil)) (.f [1,4] ?_)));refine aK [1,4,13] ?_;refine aT h Y (fun F h=>?_) (fun F h=>?_)
 ·refine aI (.a 1 ?_);refine .k (aP 104 107 (Wr.sl (Wr.int .u8))) (.f [2,3] ?_);cases h;exact aH (wE u dP Y (aC []))
 refine aF ?_;refine aI (.k (aP 105 107 (Wr.sl (Wr.int .u8))) (.f [1,5] ?_));obtain⟨C,L,h⟩:=aA h;refine jJ (.a 5 ?_);refine .k (yH Y Y) (.k (Zk L Y Y KD lE) (.f [1,5,21,22,23] ?_));obtain⟨U,M,N,D⟩:=cL h;refine jM (σs:=fun z:Int×(List kH)=>⟨[(1,.ptr 101 0),(5,.ref 119),(21,.v (Wr.sl Q8) C),(22,.v Q0 (C.length:Int)),(23,.v Q0 z.1)],[(101,.box 84 [.v Q0 a0.1,.v Q0 a0.2.1,.v (Wr.sl Q8) a0.2.2]),(119,.arr 107 (Wr.sl (Wr.int .u8)) z.2)]⟩) (fun B:(List kH)=>⟨[(5,.ref 119)],[(119,.arr 107 (Wr.sl (Wr.int .u8)) B)]⟩) M (aC [(119,105)]) ?_ ?_
 ·intro B E;have h:=N _ E;refine aK [2,3] ?_;cases h;exact aH (wE u dP Y (aC []))
 intro z R h;refine aK [1,5,21,22,23,24] ?_;refine aG ?_;refine aT h Y (fun G h=>?_) (fun G h=>?_)
 ·refine aF ?_;refine aG ?_;refine bT ?_;obtain⟨V,X,h⟩:=aA h;refine aI (.a 3 ?_);refine .k (aN 125 Bx Y (.cons (Z.int .i64) (.cons (Z.sl Q0) (.cons (Z.sl aQ) .nil))) Y) ?_;refine .a 1 ?_;refine .t (bX Y Y Y Y (.UO sO (.UO sO sO)) lE) (.f [1,5,6,7,21,22,23] ?_);refine dB [1,5,6,7,21,22,23,32] ?_;refine aT h Y (fun H h=>?_) (fun H h=>?_)
  ·refine aI (.a 1 ?_);refine .k (aP 126 107 (Wr.sl (Wr.int .u8))) (.f [2,3] ?_);refine aH ?_;refine eV ?_;cases h;refine hX fun A=>?_;obtain rfl:=D _ A;exact wE u dP Y (aC [])
  refine aF ?_;refine aG ?_;obtain⟨ou,O,h⟩:=aA h;obtain⟨vk,P,h⟩:=aA h;refine eK 21 mixed (by exact(.k (aB 0 Y EB Y S3 Y Y) (.k (aJ Y Y Y G3 S3) (.k (aB 1 Y EB Y S3 Y Y) (.k (aJ Y Y Y G3 S3) (.k (aD Y) (.k (cT Y Y Y) (.k (aB 0 Y uL Y S3 Y Y) (.k (aJ Y Y Y G3 S3) (.k (Zp (e:=Q0) wO S3 Z3 Y Y Y Y (.cons (.dir Y) (.cons (.dir Y) (.cons (.dir Y) .nil)))) (.k (aB 1 Y uL Y yO Y Y) (.k (aJ Y Y Y Sq yO) (.k (Kv O (List.cons_ne_nil _ _) Y (.sl Y) wO I3 S3 Y Y Y) (.k (aB 2 Y uL Y Kd Y Y) (.k (aJ Y Y Y JB Kd) (.k (bR lT (.cons (Z.int .i64) (.cons (Z.sl Q0) (.cons (Z.sl aQ) .nil))) (.cons Y (.dir Y) Y Y Y Y (.cons Y (.dir Y) Y Y Y Y (.cons Y (.dir Y) Y Y Y Y .nil)))) (.k (aM (xP P) Tryz.call77 (.cons (.agg Y (.same (.same (.same .nil))) (.UO sO (.UO sO sO)) Y) .nil)) (.k (aD Y) (.k (bW Y Y) (.k (bW Y Y) (.k (bP Y) (.k (bP Y) .nil)))))))))))))))))))))) (by exact(J.kp [1,5,8,9,21,22,23] [])) ?_;refine dB [1,5,8,9,21,22,23,54] ?_;refine aT h Y (fun I h=>?_) (fun I h=>?_)
  ·refine aI (.a 1 ?_);refine .k (aP 128 107 (Wr.sl (Wr.int .u8))) (.f [2,3] ?_);refine aH ?_;refine eV ?_;cases h;refine hX fun A=>?_;obtain rfl:=D _ A;exact wE u dP Y (aC [])
  refine aF ?_;obtain⟨o6,Q,h⟩:=aA h;refine eN (.a 2 ?_);refine .k (dI (e:=(Wr.sl (Wr.int .u8))) PV Wh Tryz.zeroValue107 Y Y Y Y (.cons (.dir Y) .nil)) (.t (bU 129 Q Y Y (.sl Y) PV Tryz.typeInfo107 Wh Y Y Y Y Y) (.f [1,5,21,22,23] ?_));refine bN ?_;refine dN [1,5,21,22,23] ?_;cases h;exact cF (aC [(119,129)])
 cases h;exact dA (dJ (aC []))
theorem Af(A:Nat->Nat){b0 b1 b2 b3 b4 b5 b6 b7 b8 b9 bA bB bC bD bE bF bG bH bI bJ bK bL r}(h:eC b0 b1 b2 b3 b4 b5 b6 b7 b8 b9 bA bB bC bD bE bF bG bH bI bJ bK bL=some r):
 UT Tryz.prog 30 [.ptr 9000 0] (kE 9000 (some (A 9000)) 9100 (some (A 9100)) 9200 (some (A 9200)) 9050 9051 9052 9053 b0 b1 b2 b3 b4 b5 b6 b7 b8 b9 bA bB bC bD bE bF bG bH bI bJ bK bL) (.v Q9 r.1) (kE 9000 (some (A 9000)) 9100 (some (A 9100)) 9200 (some (A 9200)) 400 401 402 403 b0 b1 b2 b3 b4 b5 b6 b7 r.2.1 r.2.2.1 bA r.2.2.2.1 bC bD bE bF bG r.2.2.2.2 bI bJ bK bL):=by
 refine UT.of Tryz.func30 Y Tryz.ntmps30 Y ?_;intro S w R E;unfold eC at h;refine aK [0] ?_;refine aK [0,3] ?_;obtain⟨C,X,h⟩:=aA h;refine jJ (.a 6 ?_);refine .k (dI (e:=Q0) wO S3 Z3 Y Y Y Y (.cons (.dir Y) .nil)) (.k (bR lT (.cons (Z.int .i64) (.cons (Z.sl Q0) (.cons (Z.sl aQ) .nil))) (.cons Y (.dir Y) Y Y Y Y (.cons Y (.dir Y) Y Y Y Y .nil))) (.t (tW (H:=[9000,9100,9200,9050,9051,9052,9053]) (K:=[9000,9100,9200]) (vG [(9000,9000),(9100,9100),(9200,9200),(9050,9050),(9051,9051),(9052,9052),(9053,9053),(400,101),(401,102),(402,103),(403,104)]) (dE Y) (fun A=>uJ A X) Tryz.call49 (.cons (.dir Y) (.cons (.dir Y) (.cons (.agg Y (.same (.same (.same .nil))) (.UO sO (.UO sO sO)) Y) .nil))) (fun A=>(.box Y (.box Y (.box Y (.arr Y (.mp Y (.arr Y (.arr Y .nil)))))))) (fun A=>(.box Y (.box Y (.box Y (.arr (.mp (.arr (.arr .nil Y) Y) Y) Y) Y) Y) Y)) (fun _=>rfl) Y Y (fun _=>rfl) Y Y) (.f [0,3,4] ?_)));refine aG ?_;obtain⟨x3,u,h⟩:=aA h;refine eG (σ':=⟨[(0,.ptr 9000 0),(3,.ptr 9000 1),(4,.v Q9 C.1),(31,.v Wr.bool x3)],(kE 9000 (some (A 9000)) 9100 (some (A 9100)) 9200 (some (A 9200)) 101 102 103 104 b0 b1 b2 b3 b4 b5 b6 b7 b8 b9 bA bB bC bD bE bF bG C.2 bI bJ bK bL)⟩) ?_ ?_
 ·refine cd u (fun N u=>?_) (fun N u=>?_)
  ·cases u;exact jy
  cases u;exact jy
 refine aT h Y (fun O h=>?_) (fun O h=>?_)
 ·refine aK [0,2] ?_;cases h;exact aH (eU E Y (aC [(403,104),(402,103),(401,102),(400,101)]))
 refine aF ?_;refine aG ?_;refine aG ?_;obtain⟨x7,u,h⟩:=aA h;refine Kf (σ':=⟨[(0,.ptr 9000 0),(3,.ptr 9000 1),(51,.v Wr.bool x7)],(kE 9000 (some (A 9000)) 9100 (some (A 9100)) 9200 (some (A 9200)) 101 102 103 104 b0 b1 b2 b3 b4 b5 b6 b7 b8 b9 bA bB bC bD bE bF bG C.2 bI bJ bK bL)⟩) ?_ ?_
 ·intro I;refine cd u (fun B u=>?_) (fun B u=>?_)
  ·cases u;exact eK 19 mixed (by exact(.k (aD Y) (.k (aL Y) (.k (aB 15 Y vH Y S3 Y Y) (.k (aJ Y Y Y G3 S3) (.k (aD Y) (.k (aL Y) (.k (aB 1 Y vH Y Kk Y Y) (.k (aB 3 Y En Y S3 Y Y) (.k (aJ Y Y Y G3 S3) (.k (nB Y Y Y) (.k (aD Y) (.g B (aD Y) (.g B (aL Y) (.g B (aB 12 Y vH Y Jc Y Y) (.g B (aB 14 Y EB Y DY Y Y) (.g B (yI (off:=12) (o1:=2) Y Y Y Y (.snd (.snd .here)) QQ DY) (.g B (sA Y KD) (.g B (nB Y Y Y) (.k (zK B Y Y) .nil)))))))))))))))))))) (by exact(J.fin (aC []))) I
  cases u;exact vK 19 mixed I
 obtain⟨aa,ab,h⟩:=fE h;refine sZ (fun z:(Int×Int×Oe)×Int×kH=>⟨[(0,.ptr 9000 0),(3,.ptr 9000 1)],(kE 9000 (some (A 9000)) 9100 (some (A 9100)) 9200 (some (A 9200)) 119 120 121 122 b0 b1 b2 b3 b4 b5 b6 b7 z.1 z.2.1 bA z.2.2 bC bD bE bF bG C.2 bI bJ bK bL)⟩) (fun x=>aa x=some r) Y ?_ ?_ ?_
 ·intro z h;rw[ab] at h;obtain⟨D,ac,h⟩:=aA h;refine aI (.a 4 ?_);refine .k (aM (Oy ac) Tryz.call52 (.cons (.dir Y) .nil)) (.f [0,7,8] ?_);refine dB [0,8,99,100,101] ?_;obtain⟨ao,ad,ae,ap⟩:=cL h;refine jM (σs:=fun F:Int×Yn=>⟨[(0,.ptr 9000 0),(8,.v Q9 D.2),(99,.v (Wr.sl (Wr.sl (Wr.int .u8))) D.1),(100,.v Q0 (D.1.length:Int)),(101,.v Q0 F.1)],(kE 9000 (some (A 9000)) 9100 (some (A 9100)) 9200 (some (A 9200)) 158 159 160 161 b0 b1 b2 b3 b4 b5 b6 b7 z.1 z.2.1 bA z.2.2 bC bD bE bF bG F.2 bI bJ bK bL)⟩) (fun L:Yn=>⟨[(0,.ptr 9000 0),(8,.v Q9 D.2)],(kE 9000 (some (A 9000)) 9100 (some (A 9100)) 9200 (some (A 9200)) 158 159 160 161 b0 b1 b2 b3 b4 b5 b6 b7 z.1 z.2.1 bA z.2.2 bC bD bE bF bG L bI bJ bK bL)⟩) ad (aC [(161,122),(160,121),(159,120),(158,119)]) ?_ ?_
  ·intro L M;have h:=ae _ M;refine aK [0,2] ?_;cases h;exact aH (eU E Y (aC [(403,161),(402,160),(401,159),(400,158)]))
  intro F an h;refine aK [0,8,99,100,101,102] ?_;refine aG ?_;refine aT h Y (fun P h=>?_) (fun P h=>?_)
  ·refine aF ?_;refine aG ?_;refine bT ?_;obtain⟨au,av,h⟩:=aA h;refine aK [0,8,10,99,100,101] ?_;obtain⟨aw,af,h⟩:=aA h;obtain⟨vj,am,h⟩:=aA h;refine eN (.a 2 ?_);refine .t (tW (H:=[9000,9100,9200,158,159,160,161]) (K:=[9000,9100,9200]) (vG [(9000,9000),(9100,9100),(9200,9200),(9050,158),(9051,159),(9052,160),(9053,161),(400,166),(401,167),(402,168),(403,169)]) (dE Y) (fun A=>oQ A am) Tryz.call53 (.cons (.dir Y) (.cons (.dir Y) (.cons (.toN (Mg af) Y) .nil))) (fun A=>(.box Y (.box Y (.box Y (.arr Y (.mp Y (.arr Y (.arr Y .nil)))))))) (fun A=>(.box Y (.box Y (.box Y (.arr (.mp (.arr (.arr .nil Y) Y) Y) Y) Y) Y) Y)) (fun _=>rfl) Y Y (fun _=>rfl) Y Y) (.f [0,8,99,100,101] ?_);refine bN ?_;refine dN [0,8,99,100,101] ?_;cases h;exact cF (aC [(161,169),(160,168),(159,167),(158,166)])
  cases h;exact dA (dJ (aC []))
 ·intro G;replace h:=iK G h;refine aG ?_;obtain⟨tv,qh,h⟩:=aA h;obtain⟨tu,qg,h⟩:=aA h;refine SY (OK:=(SV ([(9000,12,.v Nk b8)]:List (Nat×Nat×Slot)))) 13 mixed (by exact(.pu (.none Y) Y (fun _ _=>aD Y) (.pu (.none Y) Y (fun _ _=>aL Y) (.pu (.none Y) Y (fun _ _=>aB 12 Y vH Y Jc Y Y) (.pu (.none Y) Y (fun _ Q=>GD _ 0 Q Y (fun _ _ _ T U=>aJ Y T U Wu Jc)) (.k (aD Y) (WZ.F1 (.none Y) (H:=[9000,9100,9200,101,102,103,104]) (K:=[9000,9100,9200]) (vG [(9000,9000),(9100,9100),(9200,9200),(9050,101),(9051,102),(9052,103),(9053,104),(400,129),(401,130),(402,131),(403,132)]) (dE Y) (fun A=>xQ A qh) Tryz.call51 (.cons (.dir Y) .nil) (fun A=>(.box Y (.box Y (.box Y (.arr Y (.mp Y (.arr Y (.arr Y .nil)))))))) (fun A=>(.box Y (.box Y (.box Y (.arr (.mp (.arr (.arr .nil Y) Y) Y) Y) Y) Y) Y)) (fun _=>rfl) Y Y (fun _=>rfl) Y Y (.k (aM (Nx qg) Tryz.call50 (.cons (.dir Y) (.cons (.dir Y) .nil))) (.k (aD Y) (.pu (.none Y) Y (fun _ _=>bW Y Y) (.pu (.none Y) Y (fun _ _=>bW Y Y) (.k (aN 134 SS Y (.cons (Z.int .i64) (.cons (Z.int .i64) (.cons (Z.sl Q8) .nil))) Y) (WZ.storeAll (.none Y) Y Y Y Y (.UO sO (.UO sO sO)) Jc (.k (bP Y) .nil)))))))))))))) (by exact(J.kp [0,3,5,6] [])) (by exact AA Y (by repeat' (first | exact trivial | exact Y | refine And.intro ?_ ?_))) ?_;refine dB [0,3,5,6,63] ?_;refine aT h Y (fun V h=>?_) (fun V h=>?_)
  ·refine aK [0,2] ?_;refine aH ?_;refine Gl ?_;cases h;exact eU E Y (aC [(403,132),(402,131),(401,130),(400,129)])
  refine aF ?_;refine aG ?_;refine eK 14 mixed (by exact(.k (aD Y) (.pu (.none Y) Y (fun _ _=>aD Y) (.k (aS Y Y (.UO sO (.UO sO sO)) Wu Jc) (.k (aD Y) (.k (aL Y) (.k (aB 1 Y vH Y Kk Y Y) (.k (aB 3 Y En Y S3 Y Y) (.k (aJ Y Y Y G3 S3) (.k (aL Y) (.k (aB 12 Y vH Y Jc Y Y) (WZ.store (.none Y) Y Y Y Y Y Y Y Jc (.k (aL Y) (.k (aB 15 Y vH Y S3 Y Y) (WZ.store (.none Y) Y Y Y Y Y Y Y S3 .nil))))))))))))))) (by exact(J.kp [0,3] [])) ?_;obtain⟨aq,T3,h⟩:=aA h;refine eK 15 mixed (by exact(.k (aD Y) (.k (aD Y) (.k (aL Y) (.k (aB 17 Y vH Y yO Y Y) (.k (aJ Y Y Y Sq yO) (.k (aD Y) (.k (aL Y) (.k (aB 1 Y vH Y Kk Y Y) (.k (aB 3 Y En Y S3 Y Y) (.k (aJ Y Y Y G3 S3) (.k (dI (e:=Q0) wO S3 Z3 Y Y Y Y (.cons (.dir Y) .nil)) (WZ.append (.none Y) 136 T3 Y Y (.sl Y) wO I3 S3 Y Y Y Y Y (.k (aL Y) (.k (aB 17 Y vH Y yO Y Y) (WZ.store (.none Y) Y Y Y Y Y Y Y yO .nil)))))))))))))))) (by exact(J.kp [0,3] [])) ?_;exact cC h (aC [(122,132),(121,136),(120,130),(119,129)])
 ·intro G;replace h:=iL G h;refine aF ?_;exact cC h (aC [(122,104),(121,103),(120,102),(119,101)])
theorem Cf(A:Nat->Nat){a1 b0 b1 b2 b3 b4 b5 b6 b7 b8 b9 bA bB bC bD bE bF bG bH bI bJ bK bL r}(h:nQ a1 b0 b1 b2 b3 b4 b5 b6 b7 b8 b9 bA bB bC bD bE bF bG bH bI bJ bK bL=some r):
 UT Tryz.prog 111 [.ptr 9000 0,.v Q4 a1] (kE 9000 (some (A 9000)) 9100 (some (A 9100)) 9200 (some (A 9200)) 9050 9051 9052 9053 b0 b1 b2 b3 b4 b5 b6 b7 b8 b9 bA bB bC bD bE bF bG bH bI bJ bK bL) (.VO [.v aQ r.1,.v Q9 r.2.1]) (Su 9000 (some (A 9000)) 301 none 302 none 400 401 402 403 r.2.2):=by
 refine UT.of Tryz.func111 Y Tryz.ntmps111 Y ?_;intro S w R u;unfold nQ at h;refine aI (.k (cK 101 Y (.UO sO (.UO sO (.UO sO sO))) Y) (.k (aN 102 By Y (.cons (Z.arr 8 (Z.int .u8)) .nil) Y) (.f [0,4] ?_)));obtain⟨z,B,h⟩:=aA h;refine aI (.k (eJ (e:=aQ) (v:=aU) Hu xJ I5 Y Y (Z.arr 8 (Z.int .u8))) ?_);refine .a 1 ?_;refine .t (eM [9000,9100,9200,9050,9051,9052,9053] (vG [(9000,9000),(9100,9100),(9200,9200),(9050,9050),(9051,9051),(9052,9052),(9053,9053),(400,103),(401,104),(402,105),(403,106)]) (dE Y) (fun A=>Af A B) Tryz.call30 (fun A=>(.box Y (.box Y (.box Y (.arr (.mp (.arr (.arr .nil Y) Y) Y) Y) Y) Y) Y))) (.f [0,4,5] ?_);refine aH ?_;obtain rfl:=sM h;exact tJ [(0,.ptr 9000 0),(4,.ptr 90 0),(5,.v Q9 z.1)] [(90,.box 30 [.v aQ aU])] (aC [(90,102),(403,106),(302,9200),(402,105),(401,104),(400,103),(301,9100)]) (eZ u Y (dG Y Y Y vT nG) (RV.tmp Y) (.cons Y (.cons Y (.cons Y (.cons Y (.cons Y (.cons Y (.cons Y .nil))))))))
theorem jT(A:Nat->Nat){a1 b0 b1 b2 b3 b4 b5 b6 b7 b8 b9 bA bB bC bD bE bF bG bH bI bJ bK bL r}(h:cE a1 b0 b1 b2 b3 b4 b5 b6 b7 b8 b9 bA bB bC bD bE bF bG bH bI bJ bK bL=some r):
 UT Tryz.prog 44 [.ptr 9000 0,.v Q0 a1] (kE 9000 (some (A 9000)) 9100 (some (A 9100)) 9200 (some (A 9200)) 9050 9051 9052 9053 b0 b1 b2 b3 b4 b5 b6 b7 b8 b9 bA bB bC bD bE bF bG bH bI bJ bK bL) (.VO [.v Q0 r.1,.v Wr.bool r.2]) (kE 9000 (some (A 9000)) 9100 (some (A 9100)) 9200 (some (A 9200)) 400 401 402 403 b0 b1 b2 b3 b4 b5 b6 b7 b8 b9 bA bB bC bD bE bF bG bH bI bJ bK bL):=by
 refine UT.of Tryz.func44 Y Tryz.ntmps44 Y ?_;intro S w R u;unfold cE at h;refine aK [0,1] ?_;refine dB [0,1,11] ?_;refine aT h Y (fun z h=>?_) (fun z h=>?_)
 ·refine aK [0,4,5] ?_;cases h;exact aH (GI u Y (aC [(403,9053),(402,9052),(401,9051),(400,9050)]))
 refine aF ?_;obtain⟨C,B,h⟩:=aA h;refine aI (.a 3 ?_);refine .k (Ww Y) (.k (At Y Y) ?_);refine .a 5 ?_;refine .k (kB (.inr Y) (Dt B) Y Y) (.f [0,4,5] ?_);cases h;exact aH (GI u Y (aC [(403,9053),(402,9052),(401,9051),(400,9050)]))
end Go.Cn
