/- The functions come to what their models come to. Conditions: none. -/
import Derived.Test.YteckohdbfkhmdacGreatDoorMDSettleSays
import Derived.KernelRfl
import Derived.WalkKit
import Derived.LaidEql
import Derived.Stop.Asserts
import Derived.RowKitTokens
import Derived.Test.YteckohdbfkhmdacGreatDoorChecked
set_option linter.unusedVariables false
set_option linter.unusedSimpArgs false
set_option maxRecDepth 100000
set_option maxHeartbeats 4000000
namespace Go.Cn
open Go Go.Sw Go.Mo Go.Proofs
abbrev ET:Nat:=28
theorem Y{α:Sort _}{a:α}:a=a:=rfl
abbrev Q0:=(Wr.int .i64)
abbrev Q1:=(Wr.sl (Wr.pr Q0 aM))
abbrev Q2:=(Wr.pr (Wr.sl aM) (Wr.pr Q1 Q0))
abbrev Q3:=(Int×Int×Int×Int×(List aQ)×(Int×(List (Int×aQ))×(List (Int×(List (Int×aQ))))×Bool)×(List (Int×(List aQ)))×Int×(Int×Int×(List (Int×(List Int)×(List aQ))))×Int×Int×(List Int)×Int×Int×Int×Int×(Int×Int)×(List (Bool×Bool×(List Int)))×Int×((List aQ)×(List (Int×aQ))×Int)×Int×((List aQ)×(List (Int×aQ))×Int))
abbrev Q4:=(Wr.pr Q0 (Wr.pr Q0 (Wr.pr Q0 aM)))
abbrev Q5:=(Wr.sl aM)
abbrev Q6:=(List (Int×aQ))
abbrev Q7:=(Wr.pr Q0 (Wr.pr aM (Wr.pr Q0 (Wr.pr Q0 (Wr.pr Q0 Q5)))))
abbrev Q8:=(Wr.pr Q0 (Wr.pr (Wr.sl Q0) Q5))
abbrev Q9:=(Wr.err ET)
abbrev gJ:=(Wr.pr Q0 aM)
abbrev Kv:=(Wr.pr Q0 (Wr.pr Q1 (Wr.pr (Wr.sl (Wr.pr Q0 Q1)) Wr.bool)))
abbrev Br:=((List aQ)×Q6×Int)
abbrev iO:=(List aQ)
abbrev kS:=(List Int)
abbrev pG:=(Wr.pr Q0 Q1)
abbrev nV:=(Wr.sl Q0)
abbrev Nz:=(Wr.pr Q0 (Wr.pr Q0 (Wr.sl Q8)))
abbrev Kw:=(List (Int×kS×iO))
abbrev Ft:=(List (Int×Q6))
abbrev Ts:=(List (Bool×Bool×kS))
abbrev Tt:=(Option (Int×Br))
abbrev NW:=Tryz.call101
abbrev NX:=Tryz.call102
abbrev NY:=Tryz.call118
abbrev NZ:=Tryz.call126
abbrev FC:=Tryz.call133
abbrev Zm:=Tryz.call138
abbrev OA:=Tryz.call139
abbrev TM:=Tryz.call14
abbrev UR:=Tryz.call15
abbrev OB:=Tryz.call160
abbrev KD:=Tryz.call163
abbrev SX:=Tryz.call167
abbrev RL:=Tryz.call17
abbrev FD:=Tryz.call185
abbrev OC:=Tryz.call207
abbrev OD:=Tryz.call210
abbrev OE:=Tryz.call212
abbrev KE:=Tryz.call213
abbrev KF:=Tryz.call215
abbrev US:=Tryz.call27
abbrev TN:=Tryz.call44
abbrev SY:=Tryz.call48
abbrev RM:=Tryz.call69
abbrev KG:=Tryz.isAgg107
abbrev uQ:=Tryz.isAgg144
abbrev rZ:=Tryz.isAgg186
abbrev Oa:=Tryz.isAgg197
abbrev Xc:=Tryz.isAgg210
abbrev Zn:=Tryz.isAgg214
abbrev Ti:=Tryz.isAgg22
abbrev VA:=Tryz.isAgg28
abbrev G3:=Tryz.isAgg3
abbrev uR:=Tryz.isAgg30
abbrev Tu:=Tryz.isAgg31
abbrev CF:=Tryz.isAgg33
abbrev SZ:=Tryz.isAgg35
abbrev TO:=Tryz.isAgg44
abbrev TA:=Tryz.isAgg47
abbrev G5:=Tryz.isAgg5
abbrev TB:=Tryz.isAgg61
abbrev Ob:=Tryz.isAgg74
abbrev FP:=Tryz.isAgg77
abbrev Ez:=Tryz.isAgg80
abbrev OW:=Tryz.isAgg81
abbrev RN:=Tryz.isAgg82
abbrev Xn:=Tryz.isAgg84
abbrev QK:=Tryz.isAgg88
abbrev TC:=Tryz.isAgg91
abbrev OF:=Tryz.typeInfo135
abbrev QL:=Tryz.typeInfo144
abbrev QM:=Tryz.typeInfo197
abbrev QN:=Tryz.typeInfo210
abbrev Kx:=Tryz.typeInfo214
abbrev I3:=Tryz.typeInfo3
abbrev An:=Tryz.typeInfo30
abbrev I5:=Tryz.typeInfo5
abbrev Xd:=Tryz.sizeOf107
abbrev vX:=Tryz.sizeOf135
abbrev lP:=Tryz.sizeOf144
abbrev lJ:=Tryz.sizeOf186
abbrev vD:=Tryz.sizeOf197
abbrev Ce:=Tryz.sizeOf210
abbrev jX:=Tryz.sizeOf214
abbrev yV:=Tryz.sizeOf22
abbrev VB:=Tryz.sizeOf28
abbrev S3:=Tryz.sizeOf3
abbrev lA:=Tryz.sizeOf30
abbrev yA:=Tryz.sizeOf31
abbrev Ow:=Tryz.sizeOf33
abbrev OX:=Tryz.sizeOf35
abbrev KH:=Tryz.sizeOf361
abbrev S4:=Tryz.sizeOf4
abbrev RO:=Tryz.sizeOf44
abbrev CG:=Tryz.sizeOf47
abbrev S5:=Tryz.sizeOf5
abbrev QO:=Tryz.sizeOf54
abbrev TD:=Tryz.sizeOf59
abbrev OY:=Tryz.sizeOf61
abbrev Ii:=Tryz.sizeOf74
abbrev Ky:=Tryz.sizeOf76
abbrev Ij:=Tryz.sizeOf77
abbrev TP:=Tryz.sizeOf78
abbrev yW:=Tryz.sizeOf80
abbrev Zo:=Tryz.sizeOf81
abbrev FE:=Tryz.sizeOf82
abbrev Jl:=Tryz.sizeOf84
abbrev OZ:=Tryz.sizeOf86
abbrev FQ:=Tryz.sizeOf88
abbrev TE:=Tryz.sizeOf90
abbrev KI:=Tryz.sizeOf91
abbrev PA:=Tryz.sizeOf97
abbrev tH:=Tryz.runUnderlying107
abbrev KJ:=Tryz.runUnderlying135
abbrev uS:=Tryz.runUnderlying144
abbrev QP:=Tryz.runUnderlying148
abbrev Kz:=Tryz.runUnderlying186
abbrev wG:=Tryz.runUnderlying188
abbrev Zp:=Tryz.runUnderlying197
abbrev QQ:=Tryz.runUnderlying210
abbrev Oc:=Tryz.runUnderlying214
abbrev yB:=Tryz.runUnderlying22
abbrev VC:=Tryz.runUnderlying25
abbrev FG:=Tryz.runUnderlying254
abbrev QR:=Tryz.runUnderlying293
abbrev U3:=Tryz.runUnderlying3
abbrev vY:=Tryz.runUnderlying30
abbrev Jm:=Tryz.runUnderlying31
abbrev QS:=Tryz.runUnderlying324
abbrev QT:=Tryz.runUnderlying326
abbrev QU:=Tryz.runUnderlying328
abbrev Xe:=Tryz.runUnderlying33
abbrev Od:=Tryz.runUnderlying35
abbrev Xf:=Tryz.runUnderlying350
abbrev OG:=Tryz.runUnderlying363
abbrev FR:=Tryz.runUnderlying44
abbrev QV:=Tryz.runUnderlying47
abbrev CH:=Tryz.runUnderlying49
abbrev U5:=Tryz.runUnderlying5
abbrev TQ:=Tryz.runUnderlying57
abbrev OH:=Tryz.runUnderlying61
abbrev UK:=Tryz.runUnderlying65
abbrev Fa:=Tryz.runUnderlying76
abbrev yC:=Tryz.runUnderlying77
abbrev FH:=Tryz.runUnderlying78
abbrev RP:=Tryz.runUnderlying80
abbrev QW:=Tryz.runUnderlying81
abbrev LH:=Tryz.runUnderlying82
abbrev FI:=Tryz.runUnderlying84
abbrev vS:=Tryz.runUnderlying86
abbrev KK:=Tryz.runUnderlying90
abbrev Jn:=Tryz.runUnderlying91
abbrev Tj:=Tryz.runUnderlying93
abbrev FJ:=Tryz.zeroValue135
abbrev Cf:=Tryz.zeroValue144
abbrev Tk:=Tryz.zeroValue186
abbrev Pg:=Tryz.zeroValue197
abbrev Oe:=Tryz.zeroValue210
abbrev Fb:=Tryz.zeroValue214
abbrev Z3:=Tryz.zeroValue3
abbrev Cg:=Tryz.zeroValue30
abbrev TF:=Tryz.zeroValue31
abbrev PB:=Tryz.zeroValue33
abbrev UT:=Tryz.zeroValue44
abbrev Z5:=Tryz.zeroValue5
abbrev UL:=Tryz.zeroValue59
abbrev UM:=Tryz.zeroValue61
abbrev QX:=Tryz.zeroValue80
abbrev TR:=Tryz.zeroValue84
abbrev TG:=Tryz.zeroValue97
abbrev kM(i:Nat)(ia:Option Nat)(p:Nat)(pa:Option Nat)(q:Nat)(qa:Option Nat)(x y z u:Nat)(b0 b1 b2 b3:Int)(b4:List aQ)(b5:Int×List (Int×aQ)×List (Int×List (Int×aQ))×Bool)(b6:List (Int×List aQ))(b7:Int)(b8:Int×Int×List (Int×List Int×List aQ))(b9 bA:Int)(bB:List Int)(bC bD bE bF:Int)(bG:Int×Int)(bH:List (Bool×Bool×List Int))(bI:Int)(bJ:List aQ×List (Int×aQ)×Int)(bK:Int)(bL:List aQ×List (Int×aQ)×Int):List (Nat×VS):=
 [(i,.box 93 [.v Q0 b0,.ptr p 0,.v Q0 b1,.v Q0 b2,.v Q0 b3,.ref x,.v Kv b5,.ref y,.v Q0 b7,.v Nz b8,.v Q0 b9,.v Q0 bA,.ref z,.ptr q 0,.v Q0 bC,.v Q0 bD,.v Q0 bE,.v Q0 bF,.v (Wr.pr Q0 Q0) bG,.ref u] ia),(p,.box 188 [.v Q0 bI,.v Q2 bJ] pa),(q,.box 188 [.v Q0 bK,.v Q2 bL] qa),(x,.arr 30 aM b4),(y,.mp Q0 Q5 b6),(z,.arr 3 Q0 bB),(u,.arr 135 (Wr.pr Wr.bool (Wr.pr Wr.bool (Wr.sl (Wr.int .u8)))) bH)]
abbrev Tl(i:Nat)(ia:Option Nat)(p:Nat)(pa:Option Nat)(q:Nat)(qa:Option Nat)(x y z u:Nat)(t:Int×Int×Int×Int×List aQ×(Int×List (Int×aQ)×List (Int×List (Int×aQ))×Bool)×List (Int×List aQ)×Int×(Int×Int×List (Int×List Int×List aQ))×Int×Int×List Int×Int×Int×Int×Int×(Int×Int)×List (Bool×Bool×List Int)×Int×(List aQ×List (Int×aQ)×Int)×Int×(List aQ×List (Int×aQ)×Int)):List (Nat×VS):=kM i ia p pa q qa x y z u t.1 t.2.1 t.2.2.1 t.2.2.2.1 t.2.2.2.2.1 t.2.2.2.2.2.1 t.2.2.2.2.2.2.1 t.2.2.2.2.2.2.2.1 t.2.2.2.2.2.2.2.2.1 t.2.2.2.2.2.2.2.2.2.1 t.2.2.2.2.2.2.2.2.2.2.1 t.2.2.2.2.2.2.2.2.2.2.2.1 t.2.2.2.2.2.2.2.2.2.2.2.2.1 t.2.2.2.2.2.2.2.2.2.2.2.2.2.1 t.2.2.2.2.2.2.2.2.2.2.2.2.2.2.1 t.2.2.2.2.2.2.2.2.2.2.2.2.2.2.2.1 t.2.2.2.2.2.2.2.2.2.2.2.2.2.2.2.2.1 t.2.2.2.2.2.2.2.2.2.2.2.2.2.2.2.2.2.1 t.2.2.2.2.2.2.2.2.2.2.2.2.2.2.2.2.2.2.1 t.2.2.2.2.2.2.2.2.2.2.2.2.2.2.2.2.2.2.2.1 t.2.2.2.2.2.2.2.2.2.2.2.2.2.2.2.2.2.2.2.2.1 t.2.2.2.2.2.2.2.2.2.2.2.2.2.2.2.2.2.2.2.2.2
instance:fT Tryz.prog:=⟨_,(.c KG (.c uQ (.c rZ (.c Oa (.c Xc (.c Zn (.c Ti (.c Tryz.isAgg253 (.c VA (.c Tryz.isAgg293 (.c G3 (.c uR (.c Tu (.c Tryz.isAgg318 (.c CF (.c Tryz.isAgg330 (.c Tryz.isAgg361 (.c Tryz.isAgg4 (.c TO (.c TA (.c G5 (.c Tryz.isAgg54 (.c Tryz.isAgg57 (.c TB (.c Ob (.c FP (.c Tryz.isAgg78 (.c Ez (.c OW (.c RN (.c Xn (.c QK (.c TC (.c Tryz.isAgg97 .n)))))))))))))))))))))))))))))))))),_,(.c Xd (.c lP (.c lJ (.c vD (.c Ce (.c jX (.c yV (.c Tryz.sizeOf253 (.c VB (.c Tryz.sizeOf293 (.c S3 (.c lA (.c yA (.c Tryz.sizeOf318 (.c Ow (.c Tryz.sizeOf330 (.c OX (.c KH (.c S4 (.c RO (.c CG (.c S5 (.c QO (.c Tryz.sizeOf57 (.c TD (.c OY (.c Ii (.c Ky (.c Ij (.c TP (.c yW (.c Zo (.c FE (.c Jl (.c OZ (.c FQ (.c TE (.c KI (.c PA .n))))))))))))))))))))))))))))))))))))))),_,(.c tH (.c KJ (.c uS (.c QP (.c Kz (.c wG (.c Zp (.c QQ (.c Oc (.c yB (.c Tryz.runUnderlying238 (.c Tryz.runUnderlying247 (.c VC (.c FG (.c Tryz.runUnderlying28 (.c Tryz.runUnderlying296 (.c U3 (.c Jm (.c QS (.c QT (.c QU (.c Xe (.c Od (.c Xf (.c OG (.c FR (.c QV (.c CH (.c U5 (.c Tryz.runUnderlying54 (.c TQ (.c Tryz.runUnderlying59 (.c OH (.c UK (.c Fa (.c yC (.c FH (.c RP (.c LH (.c FI (.c vS (.c Tryz.runUnderlying88 (.c KK (.c Jn (.c Tj .n))))))))))))))))))))))))))))))))))))))))))))),ET⟩
theorem mixed:Tryz.prog.follows .mixedOrders=true:=Tryz.checked.mixed
theorem Ph:W4 2 Tryz.prog 30 aM:=W4.arr vY S5 G5 (W4.int Tryz.underlying5)
theorem TH:W4 2 Tryz.prog 293 (Wr.arr 4 (Wr.int .u8)):=W4.arr QR S5 G5 (W4.int Tryz.underlying5)
theorem CI:p8 2 Tryz.prog 30 aM:=p8.arr vY S5 G5 (p8.int U5)
theorem Ew:∀parts,Tryz.prog.built 33 parts=Instr.fill (([(0,1),(1,8),(9,1),(10,1),(11,1),(12,1)]:List (Nat×Nat)).toArray[·]?) ([.int .i64 0,.int .u8 0,.int .u8 0,.int .u8 0,.int .u8 0,.int .u8 0,.int .u8 0,.int .u8 0,.int .u8 0,.int .i64 0,.int .i64 0,.int .i64 0,.slice none 0 0]:List Value).toArray parts:=dG Tryz.typeInfo33 Xe rfl rfl (.cons rfl (by kernel_rfl) (by kernel_rfl) (.cons rfl (by kernel_rfl) (by kernel_rfl) (.cons rfl (by kernel_rfl) (by kernel_rfl) (.cons rfl (by kernel_rfl) (by kernel_rfl) (.cons rfl (by kernel_rfl) (by kernel_rfl) (.cons rfl (by kernel_rfl) (by kernel_rfl) .nil))))))
theorem OI:∀parts,Tryz.prog.built 49 parts=Instr.fill (([(0,1),(1,1)]:List (Nat×Nat)).toArray[·]?) ([.slice none 0 0,.slice none 0 0]:List Value).toArray parts:=dG Tryz.typeInfo49 CH rfl rfl (.cons rfl (by kernel_rfl) (by kernel_rfl) (.cons rfl (by kernel_rfl) (by kernel_rfl) .nil))
theorem CJ:∀parts,Tryz.prog.built 59 parts=Instr.fill (([(0,1)]:List (Nat×Nat)).toArray[·]?) ([.slice none 0 0]:List Value).toArray parts:=dG Tryz.typeInfo59 Tryz.runUnderlying59 rfl rfl (.cons rfl (by kernel_rfl) (by kernel_rfl) .nil)
theorem Lq:∀parts,Tryz.prog.built 76 parts=Instr.fill (([(0,1),(1,1),(2,1),(3,1)]:List (Nat×Nat)).toArray[·]?) ([.pointer none,.int .i64 0,.int .i64 0,.int .i64 0]:List Value).toArray parts:=dG Tryz.typeInfo76 Fa rfl rfl (.cons rfl (by kernel_rfl) (by kernel_rfl) (.cons rfl (by kernel_rfl) (by kernel_rfl) (.cons rfl (by kernel_rfl) (by kernel_rfl) (.cons rfl (by kernel_rfl) (by kernel_rfl) .nil))))
theorem yX:∀parts,Tryz.prog.built 80 parts=Instr.fill (([(0,1),(1,1),(2,1),(3,1)]:List (Nat×Nat)).toArray[·]?) ([.int .i64 0,.slice none 0 0,.slice none 0 0,.bool false]:List Value).toArray parts:=dG Tryz.typeInfo80 RP rfl rfl (.cons rfl (by kernel_rfl) (by kernel_rfl) (.cons rfl (by kernel_rfl) (by kernel_rfl) (.cons rfl (by kernel_rfl) (by kernel_rfl) (.cons rfl (by kernel_rfl) (by kernel_rfl) .nil))))
theorem Ey:∀parts,Tryz.prog.built 84 parts=Instr.fill (([(0,1),(1,1),(2,1)]:List (Nat×Nat)).toArray[·]?) ([.int .i64 0,.int .i64 0,.slice none 0 0]:List Value).toArray parts:=dG Tryz.typeInfo84 FI rfl rfl (.cons rfl (by kernel_rfl) (by kernel_rfl) (.cons rfl (by kernel_rfl) (by kernel_rfl) (.cons rfl (by kernel_rfl) (by kernel_rfl) .nil)))
theorem CK:∀parts,Tryz.prog.built 86 parts=Instr.fill (([(0,4),(4,1),(5,4),(9,1),(10,1),(11,3),(14,1),(15,1),(16,1)]:List (Nat×Nat)).toArray[·]?) ([.pointer none,.int .i64 0,.int .i64 0,.int .i64 0,.slice none 0 0,.int .i64 0,.slice none 0 0,.slice none 0 0,.bool false,.map none,.int .i64 0,.int .i64 0,.int .i64 0,.slice none 0 0,.int .i64 0,.int .i64 0,.slice none 0 0]:List Value).toArray parts:=dG Tryz.typeInfo86 vS rfl rfl (.cons rfl (by kernel_rfl) (by kernel_rfl) (.cons rfl (by kernel_rfl) (by kernel_rfl) (.cons rfl (by kernel_rfl) (by kernel_rfl) (.cons rfl (by kernel_rfl) (by kernel_rfl) (.cons rfl (by kernel_rfl) (by kernel_rfl) (.cons rfl (by kernel_rfl) (by kernel_rfl) (.cons rfl (by kernel_rfl) (by kernel_rfl) (.cons rfl (by kernel_rfl) (by kernel_rfl) (.cons rfl (by kernel_rfl) (by kernel_rfl) .nil)))))))))
theorem Lr:∀parts,Tryz.prog.built 88 parts=Instr.fill (([(0,1),(1,1)]:List (Nat×Nat)).toArray[·]?) ([.int .i64 0,.int .i64 0]:List Value).toArray parts:=dG Tryz.typeInfo88 Tryz.runUnderlying88 rfl rfl (.cons rfl (by kernel_rfl) (by kernel_rfl) (.cons rfl (by kernel_rfl) (by kernel_rfl) .nil))
theorem CL:∀parts,Tryz.prog.built 90 parts=Instr.fill (([(0,4),(4,1),(5,2)]:List (Nat×Nat)).toArray[·]?) ([.pointer none,.int .i64 0,.int .i64 0,.int .i64 0,.int .i64 0,.int .i64 0,.int .i64 0]:List Value).toArray parts:=dG Tryz.typeInfo90 KK rfl rfl (.cons rfl (by kernel_rfl) (by kernel_rfl) (.cons rfl (by kernel_rfl) (by kernel_rfl) (.cons rfl (by kernel_rfl) (by kernel_rfl) .nil)))
theorem OJ:∀parts,Tryz.prog.built 93 parts=Instr.fill (([(0,1),(1,17),(18,7),(25,1)]:List (Nat×Nat)).toArray[·]?) ([.int .i64 0,.pointer none,.int .i64 0,.int .i64 0,.int .i64 0,.slice none 0 0,.int .i64 0,.slice none 0 0,.slice none 0 0,.bool false,.map none,.int .i64 0,.int .i64 0,.int .i64 0,.slice none 0 0,.int .i64 0,.int .i64 0,.slice none 0 0,.pointer none,.int .i64 0,.int .i64 0,.int .i64 0,.int .i64 0,.int .i64 0,.int .i64 0,.slice none 0 0]:List Value).toArray parts:=dG Tryz.typeInfo93 Tj rfl rfl (.cons rfl (by kernel_rfl) (by kernel_rfl) (.cons rfl (by kernel_rfl) (by kernel_rfl) (.cons rfl (by kernel_rfl) (by kernel_rfl) (.cons rfl (by kernel_rfl) (by kernel_rfl) .nil))))
theorem Xg:∀parts,Tryz.prog.built 135 parts=Instr.fill (([(0,1),(1,1),(2,1)]:List (Nat×Nat)).toArray[·]?) ([.bool false,.bool false,.slice none 0 0]:List Value).toArray parts:=dG OF KJ rfl rfl (.cons rfl (by kernel_rfl) (by kernel_rfl) (.cons rfl (by kernel_rfl) (by kernel_rfl) (.cons rfl (by kernel_rfl) (by kernel_rfl) .nil)))
theorem mC:∀parts,Tryz.prog.built 144 parts=Instr.fill (([(0,1),(1,1),(2,1)]:List (Nat×Nat)).toArray[·]?) ([.int .i64 0,.slice none 0 0,.slice none 0 0]:List Value).toArray parts:=dG QL uS rfl rfl (.cons rfl (by kernel_rfl) (by kernel_rfl) (.cons rfl (by kernel_rfl) (by kernel_rfl) (.cons rfl (by kernel_rfl) (by kernel_rfl) .nil)))
theorem rG:∀parts,Tryz.prog.built 186 parts=Instr.fill (([(0,1),(1,1),(2,1)]:List (Nat×Nat)).toArray[·]?) ([.slice none 0 0,.slice none 0 0,.int .i64 0]:List Value).toArray parts:=dG Tryz.typeInfo186 Kz rfl rfl (.cons rfl (by kernel_rfl) (by kernel_rfl) (.cons rfl (by kernel_rfl) (by kernel_rfl) (.cons rfl (by kernel_rfl) (by kernel_rfl) .nil)))
theorem KL:∀parts,Tryz.prog.built 188 parts=Instr.fill (([(0,1),(1,3)]:List (Nat×Nat)).toArray[·]?) ([.int .i64 0,.slice none 0 0,.slice none 0 0,.int .i64 0]:List Value).toArray parts:=dG Tryz.typeInfo188 wG rfl rfl (.cons rfl (by kernel_rfl) (by kernel_rfl) (.cons rfl (by kernel_rfl) (by kernel_rfl) .nil))
theorem Dm:∀parts,Tryz.prog.built 197 parts=Instr.fill (([(0,1),(1,1)]:List (Nat×Nat)).toArray[·]?) ([.int .i64 0,.slice none 0 0]:List Value).toArray parts:=dG QM Zp rfl rfl (.cons rfl (by kernel_rfl) (by kernel_rfl) (.cons rfl (by kernel_rfl) (by kernel_rfl) .nil))
theorem Dn:∀parts,Tryz.prog.built 210 parts=Instr.fill (([(0,1),(1,1),(2,1),(3,8)]:List (Nat×Nat)).toArray[·]?) ([.int .i64 0,.int .i64 0,.int .i64 0,.int .u8 0,.int .u8 0,.int .u8 0,.int .u8 0,.int .u8 0,.int .u8 0,.int .u8 0,.int .u8 0]:List Value).toArray parts:=dG QN QQ rfl rfl (.cons rfl (by kernel_rfl) (by kernel_rfl) (.cons rfl (by kernel_rfl) (by kernel_rfl) (.cons rfl (by kernel_rfl) (by kernel_rfl) (.cons rfl (by kernel_rfl) (by kernel_rfl) .nil))))
theorem vZ:∀parts,Tryz.prog.built 214 parts=Instr.fill (([(0,1),(1,8)]:List (Nat×Nat)).toArray[·]?) ([.int .i64 0,.int .u8 0,.int .u8 0,.int .u8 0,.int .u8 0,.int .u8 0,.int .u8 0,.int .u8 0,.int .u8 0]:List Value).toArray parts:=dG Kx Oc rfl rfl (.cons rfl (by kernel_rfl) (by kernel_rfl) (.cons rfl (by kernel_rfl) (by kernel_rfl) .nil))
theorem KM:∀parts,Tryz.prog.built 296 parts=Instr.fill (([(0,1)]:List (Nat×Nat)).toArray[·]?) ([.slice none 0 0]:List Value).toArray parts:=dG Tryz.typeInfo296 Tryz.runUnderlying296 rfl rfl (.cons rfl (by kernel_rfl) (by kernel_rfl) .nil)
theorem KN:∀parts,Tryz.prog.built 322 parts=Instr.fill (([]:List (Nat×Nat)).toArray[·]?) ([]:List Value).toArray parts:=dG Tryz.typeInfo322 Tryz.runUnderlying322 rfl rfl .nil
theorem KO:∀parts,Tryz.prog.built 324 parts=Instr.fill (([(0,1)]:List (Nat×Nat)).toArray[·]?) ([.pointer none]:List Value).toArray parts:=dG Tryz.typeInfo324 QS rfl rfl (.cons rfl (by kernel_rfl) (by kernel_rfl) .nil)
theorem KP:∀parts,Tryz.prog.built 326 parts=Instr.fill (([(0,1)]:List (Nat×Nat)).toArray[·]?) ([.slice none 0 0]:List Value).toArray parts:=dG Tryz.typeInfo326 QT rfl rfl (.cons rfl (by kernel_rfl) (by kernel_rfl) .nil)
theorem KQ:∀parts,Tryz.prog.built 327 parts=Instr.fill (([]:List (Nat×Nat)).toArray[·]?) ([]:List Value).toArray parts:=dG Tryz.typeInfo327 Tryz.runUnderlying327 rfl rfl .nil
theorem KR:∀parts,Tryz.prog.built 363 parts=Instr.fill (([(0,1),(1,1)]:List (Nat×Nat)).toArray[·]?) ([.slice none 0 0,.map none]:List Value).toArray parts:=dG Tryz.typeInfo363 OG rfl rfl (.cons rfl (by kernel_rfl) (by kernel_rfl) (.cons rfl (by kernel_rfl) (by kernel_rfl) .nil))
section aJ4
open Go.RowKit Go.Extern.Stop Go.Stop Go.Extern
theorem QY(t:Value)(w:World):Calls Tryz.prog 73 #[.nilIface,t] w fun e w'=>e= .returned (.bool false)/\w'=w:=by
 go_enter Tryz.func73,Tryz.ntmps73
 go_wp2
 go_ret
 exact⟨Y,Y⟩
theorem Xh(t:Addr)(w:World):(ReflectliteValue.unpack (.iface 183 (.pointer (some t)))).run Tryz.prog w
  = .ok (.agg #[.pointer (some ⟨9,183,none⟩),.pointer (some ⟨w.heap.size,0,none⟩),.int .u64 150]) (w.alloc (.cells #[.pointer (some t)] 183)):=by kernel_rfl
theorem KS(a:Addr)(w:World):(ReflectliteValue.methodAny (ReflectliteValue.valueError "reflectlite.Value.Type" 0) (fun t _ _ _=>ReflectliteType.toType t) #[.agg #[.pointer (some ⟨9,183,none⟩),.pointer (some a),.int .u64 150]]).run Tryz.prog w
  = .ok (.iface 281 (.agg #[.pointer (some ⟨9,183,none⟩)])) w:=by kernel_rfl
theorem Pj(h:Value)(w:World):(Go.method 543 281 (.agg #[h]) "Kind").run Tryz.prog w= .ok (290,h) w:=by kernel_rfl
theorem KU(w:World):((ReflectliteType.abiMethod fun t=>(fun a:Nat=>Value.int IntKind.u8 (a:Int)) <$> Rtype.kind t) #[.pointer (some ⟨9,183,none⟩)]).run Tryz.prog w= .ok (.int .u8 22) w:=by kernel_rfl
theorem KV(w:World):((ReflectliteType.abiMethod fun t=>(fun a:Nat=>Value.int IntKind.u8 (a:Int)) <$> Rtype.kind t) #[.pointer (some ⟨9,28,none⟩)]).run Tryz.prog w= .ok (.int .u8 2) w:=by kernel_rfl
theorem KW(z:Sem Value)(f:TypeId->Addr->Nat->Nat->Sem Value)(v:Value):
  ReflectliteValue.method z f #[v]=(do match<-ReflectliteValue.parts v with | none=>z | some (t,a,fl)=>f t a fl (fl % 32)):=rfl
theorem Ri(a:Addr)(w:World):(ReflectliteValue.parts (.agg #[.pointer (some ⟨9,183,none⟩),.pointer (some a),.int .u64 150])).run Tryz.prog w= .ok (some (183,a,150)) w:=by kernel_rfl
theorem FK(a p:Addr)(W:World)(ha:W.cell? a=some (.pointer (some p))):
  (ReflectliteValue.method (ReflectliteValue.valueError "reflectlite.Value.IsNil" 0) ReflectliteValue.isNil #[.agg #[.pointer (some ⟨9,183,none⟩),.pointer (some a),.int .u64 150]]).run Tryz.prog W= .ok (.bool false) W:=by
 rw[KW];simp only[Sem.run_bind,Ri,Result.andThen];simp[ReflectliteValue.isNil,loadVar,isAgg,underlying,Tryz.underlying183,ha,Result.andThen]
theorem Pk(h:Value)(w:World):(Go.method 543 281 (.agg #[h]) "Elem").run Tryz.prog w= .ok (301,.agg #[h]) w:=by kernel_rfl
theorem Fc(h:Value)(w:World):(Go.method 543 281 (.agg #[h]) "Implements").run Tryz.prog w= .ok (302,.agg #[h]) w:=by kernel_rfl
theorem Ch(h:Value)(w:World):(Go.method 543 281 (.agg #[h]) "AssignableTo").run Tryz.prog w= .ok (299,.agg #[h]) w:=by kernel_rfl
theorem KX(w:World):(ReflectliteType.method ReflectliteType.elem #[.agg #[.pointer (some ⟨9,183,none⟩)]]).run Tryz.prog w= .ok (.iface 281 (.agg #[.pointer (some ⟨9,28,none⟩)])) w:=by kernel_rfl
theorem Of(w:World):(ReflectliteType.relation "Implements" ReflectliteType.implements_ #[.agg #[.pointer (some ⟨9,28,none⟩)],.iface 281 (.agg #[.pointer (some ⟨9,35,none⟩)])]).run Tryz.prog w= .ok (.bool true) w:=by kernel_rfl
theorem Zq(v:Value)(w:World):(ReflectliteType.typeOf #[.iface 28 v]).run Tryz.prog w= .ok (.iface 281 (.agg #[.pointer (some ⟨9,28,none⟩)])) w:=by kernel_rfl
theorem Og(w:World):(ReflectliteType.relation "AssignableTo" ReflectliteType.assignableTo #[.agg #[.pointer (some ⟨9,28,none⟩)],.iface 281 (.agg #[.pointer (some ⟨9,28,none⟩)])]).run Tryz.prog w= .ok (.bool true) w:=by kernel_rfl
theorem Xi(n:Int)(w:World):(ReflectliteValue.unpack (.iface 28 (.int .i64 n))).run Tryz.prog w
  = .ok (.agg #[.pointer (some ⟨9,28,none⟩),.pointer (some ⟨w.heap.size,0,none⟩),.int .u64 130]) (w.alloc (.cells #[.int .i64 n] 28)):=by kernel_rfl
theorem Zs(w:World):(Rtype.elem? 183).run Tryz.prog w= .ok (some 28) w:=by kernel_rfl
theorem QZ(p:Addr)(w:World):(ReflectliteValue.mk 28 p ReflectliteValue.flagAddr).run Tryz.prog w= .ok (.agg #[.pointer (some ⟨9,28,none⟩),.pointer (some p),.int .u64 386]) w:=by kernel_rfl
theorem FM(a p:Addr)(W:World)(ha:W.cell? a=some (.pointer (some p))):
  (ReflectliteValue.method (ReflectliteValue.valueError "reflectlite.Value.Elem" 0) ReflectliteValue.elem #[.agg #[.pointer (some ⟨9,183,none⟩),.pointer (some a),.int .u64 150]]).run Tryz.prog W
   = .ok (.agg #[.pointer (some ⟨9,28,none⟩),.pointer (some p),.int .u64 386]) W:=by
 rw[KW];simp only[Sem.run_bind,Ri,Result.andThen];simp[ReflectliteValue.elem,loadVar,isAgg,underlying,Tryz.underlying183,ha,Result.andThen,Zs,QZ]
theorem RA(v x:Value):ReflectliteValue.set #[v,x]=(do
  let (some (dst,a,fl),some (src,b,_)):=(<-ReflectliteValue.parts v,<-ReflectliteValue.parts x)
   |unsupported (.noEntry "extern/(internal/reflectlite.Value).Set.zeroValue")
  if fl / ReflectliteValue.flagAddr % 2==0 then unsupported (.noEntry "extern/(internal/reflectlite.Value).Set.unaddressable")
  let val<-loadVar src b
  if<-Rtype.directlyAssignable dst src then storeVar dst a val
  else if<-Rtype.implements dst src then
   if (<-Rtype.kind src)==20 then
    match val with
    | .nilIface=>unsupported (.noEntry "extern/reflectlite: a nil value of one interface type handed on as a value of another")
    |_=>storeVar dst a val
   else storeVar dst a (.iface src val)
  else panicString ("reflectlite.Set: value of type "++(<-Rtype.spelt src)++ " is not assignable to type "++(<-Rtype.spelt dst))
  pure (.tuple #[])):=rfl
theorem Zt(a:Addr)(w:World):(ReflectliteValue.parts (.agg #[.pointer (some ⟨9,28,none⟩),.pointer (some a),.int .u64 386])).run Tryz.prog w= .ok (some (28,a,386)) w:=by kernel_rfl
theorem FN(a:Addr)(w:World):(ReflectliteValue.parts (.agg #[.pointer (some ⟨9,28,none⟩),.pointer (some a),.int .u64 130])).run Tryz.prog w= .ok (some (28,a,130)) w:=by kernel_rfl
theorem Zu(w:World):(Rtype.directlyAssignable 28 28).run Tryz.prog w= .ok true w:=by kernel_rfl
theorem OL(ta b:Addr)(n:Int)(dq:Value)(W:World)(hb:W.cell? b=some (.int .i64 n))(ht:W.cell? ta=some dq)(hf:W.frozen? ta=false):
  (ReflectliteValue.set #[.agg #[.pointer (some ⟨9,28,none⟩),.pointer (some ta),.int .u64 386],.agg #[.pointer (some ⟨9,28,none⟩),.pointer (some b),.int .u64 130]]).run Tryz.prog W
   = .ok (.tuple #[]) (W.setCell ta (.int .i64 n)):=by
 rw[RA];simp only[Sem.run_bind,Zt,FN,Result.andThen];simp[ReflectliteValue.flagAddr,loadVar,isAgg,underlying,Tryz.underlying28,hb,Result.andThen,Zu,storeVar,Value.cells,storeCells,Addr.add];rw[run_store Tryz.prog W ta _ _ (by rfl)];simp[ht,hf]
set_option maxHeartbeats 4000000 in
theorem RC(n:Int)(t:Addr)(dq:Value)(w:World)(hg:w.cell? ⟨0,0,none⟩=some (.iface 281 (.agg #[.pointer (some ⟨9,35,none⟩)])))(ht0:w.cell? t=some dq)(hf0:w.frozen? t=false):
  Calls Tryz.prog 73 #[.iface 28 (.int .i64 n),.iface 183 (.pointer (some t))] w fun ev w'=>ev= .returned (.bool true)/\w'=((((w.alloc (.cells #[.pointer (some t)] 183)).alloc (.cells #[.pointer (some ⟨9,183,none⟩),.pointer (some ⟨w.heap.size,0,none⟩),.int .u64 150] 225)).alloc (.cells #[.pointer (some ⟨9,183,none⟩),.pointer (some ⟨w.heap.size,0,none⟩),.int .u64 150] 225)).alloc (.cells #[.int .i64 n] 28)).setCell t (.int .i64 n):=by
 have C:= @run_callFunc_extern Tryz.prog 122 _ (fun A=>ReflectliteValue.unpack (A.getD 0 (.tuple #[]))) Tryz.func122 (by kernel_rfl) (by kernel_rfl) (by kernel_rfl) (by kernel_rfl);have D:= @run_callFunc_extern Tryz.prog 123 _ (ReflectliteValue.methodAny (ReflectliteValue.valueError "reflectlite.Value.Type" 0) (fun t _ _ _=>ReflectliteType.toType t)) Tryz.func123 (by kernel_rfl) (by kernel_rfl) (by kernel_rfl) (by kernel_rfl);have E:= @run_callFunc_extern Tryz.prog 124 _ (ReflectliteValue.method (ReflectliteValue.valueError "reflectlite.Value.IsNil" 0) ReflectliteValue.isNil) Tryz.func124 (by kernel_rfl) (by kernel_rfl) (by kernel_rfl) (by kernel_rfl);have F:= @run_callFunc_extern Tryz.prog 290 _ (ReflectliteType.abiMethod fun t=>do pure (.int .u8 (<-Rtype.kind t))) Tryz.func290 (by kernel_rfl) (by kernel_rfl) (by kernel_rfl) (by kernel_rfl);have G:= @run_callFunc_extern Tryz.prog 301 _ (ReflectliteType.method ReflectliteType.elem) Tryz.func301 (by kernel_rfl) (by kernel_rfl) (by kernel_rfl) (by kernel_rfl);have H:= @run_callFunc_extern Tryz.prog 302 _ (ReflectliteType.relation "Implements" ReflectliteType.implements_) Tryz.func302 (by kernel_rfl) (by kernel_rfl) (by kernel_rfl) (by kernel_rfl);have I:= @run_callFunc_extern Tryz.prog 169 _ ReflectliteType.typeOf Tryz.func169 (by kernel_rfl) (by kernel_rfl) (by kernel_rfl) (by kernel_rfl);have K:= @run_callFunc_extern Tryz.prog 299 _ (ReflectliteType.relation "AssignableTo" ReflectliteType.assignableTo) Tryz.func299 (by kernel_rfl) (by kernel_rfl) (by kernel_rfl) (by kernel_rfl);have L:= @run_callFunc_extern Tryz.prog 170 _ (ReflectliteValue.method (ReflectliteValue.valueError "reflectlite.Value.Elem" 0) ReflectliteValue.elem) Tryz.func170 (by kernel_rfl) (by kernel_rfl) (by kernel_rfl) (by kernel_rfl);have M:= @run_callFunc_extern Tryz.prog 171 _ ReflectliteValue.set Tryz.func171 (by kernel_rfl) (by kernel_rfl) (by kernel_rfl) (by kernel_rfl);have N:=Zq;have O:=Ch;have P:=Og;have Q:=Xi;have R:=Xh;have S:=KS;have T:=Pj;have U:=Pk;have V:=Fc;have X:=KU;have aa:=KV;have ab:=KX;have ac:=Of;have n8:=FK ⟨w.heap.size,0,none⟩ t ((w.alloc (.cells #[.pointer (some t)] 183)).alloc (.cells #[.pointer (some ⟨9,183,none⟩),.pointer (some ⟨w.heap.size,0,none⟩),.int .u64 150] 225)) (by simp);have z:0<w.heap.size:=by
  rcases aEk w.heap.size with B | h
  ·simp[World.cell?,B] at hg
  ·exact h
 have ad:((w.alloc (.cells #[.pointer (some t)] 183)).alloc (.cells #[.pointer (some ⟨9,183,none⟩),.pointer (some ⟨w.heap.size,0,none⟩),.int .u64 150] 225)).cell? ⟨0,0,none⟩=some (.iface 281 (.agg #[.pointer (some ⟨9,35,none⟩)])):=by
  rw[World.cell?_alloc_lt _ _ ⟨0,0,none⟩ (by simp),World.cell?_alloc_lt _ _ ⟨0,0,none⟩ z];exact hg
 have u:t.block<w.heap.size:=by
  rcases M3 t.block w.heap.size with h | h
  ·exact h
  ·simp[World.cell?,zn h] at ht0
 have el:=FM ⟨w.heap.size,0,none⟩ t (((w.alloc (.cells #[.pointer (some t)] 183)).alloc (.cells #[.pointer (some ⟨9,183,none⟩),.pointer (some ⟨w.heap.size,0,none⟩),.int .u64 150] 225)).alloc (.cells #[.pointer (some ⟨9,183,none⟩),.pointer (some ⟨w.heap.size,0,none⟩),.int .u64 150] 225)) (by rw[World.cell?_alloc_lt _ _ ⟨w.heap.size,0,none⟩ (by simp;omega)];simp);have st:=OL t ⟨w.heap.size+1+1+1,0,none⟩ n dq ((((w.alloc (.cells #[.pointer (some t)] 183)).alloc (.cells #[.pointer (some ⟨9,183,none⟩),.pointer (some ⟨w.heap.size,0,none⟩),.int .u64 150] 225)).alloc (.cells #[.pointer (some ⟨9,183,none⟩),.pointer (some ⟨w.heap.size,0,none⟩),.int .u64 150] 225)).alloc (.cells #[.int .i64 n] 28))
  (by rw[World.cell?_alloc_at _ _ _ _ (by simp)];rfl)
  (by rw[World.cell?_alloc_lt _ _ t (by simp;omega),World.cell?_alloc_lt _ _ t (by simp;omega),World.cell?_alloc_lt _ _ t (by simp;omega),World.cell?_alloc_lt _ _ t u];exact ht0)
  (by rw[World.frozen?_alloc_old _ _ t (by simp;omega),World.frozen?_alloc_old _ _ t (by simp;omega),World.frozen?_alloc_old _ _ t (by simp;omega),World.frozen?_alloc_old _ _ t (Nat.ne_of_lt u)];exact hf0)
 go_enter Tryz.func73,Tryz.ntmps73
 go_wp2
 refine wp_loop_rounds 1 ?_;rw[rounds_succ]
 go_wp2
 go_ret
 exact⟨Y,Y⟩
end aJ4
def GV:Value:= .iface 281 (.agg #[.pointer (some ⟨9,35,none⟩)])
variable {gobj:Obj}
theorem OM(n:Int)(t:Addr)(dq:Value)(w:World)(hg:w.cell? ⟨0,0,none⟩=some GV)(ht0:w.cell? t=some dq)(hf0:w.frozen? t=false):
  Calls Tryz.prog 73 #[.iface 28 (.int .i64 n),.iface 183 (.pointer (some t))] w fun ev w'=>ev= .returned (.bool true)/\∃o1 o2 o3 o4,w'=((((w.alloc o1).alloc o2).alloc o3).alloc o4).setCell t (.int .i64 n):=
 (RC n t dq w hg ht0 hf0).mono fun _ _ h=>⟨h.1,_,_,_,_,h.2⟩
theorem Dp{a0 r}(h:rP a0=some r):
 WE Tryz.prog 158 [.v Q0 a0] (.WL [.v Q0 r.1,.v Q9 r.2]) []:=by
 refine WE.of Tryz.func158 Y Tryz.ntmps158 Y ?_;intro S w z;unfold rP at h;refine aL [0] ?_;refine aF ?_;refine aF ?_;obtain⟨C,u,h⟩:=aB h;refine eF (σ':=⟨[(0,.v Q0 a0),(9,.v Wr.bool C)],[]⟩) ?_ ?_
 ·refine cd u (fun A u=>?_) (fun A u=>?_)
  ·cases u;exact jy
  cases u;exact jy
 refine aU h Y (fun B h=>?_) (fun B h=>?_)
 ·refine aL [2,3] ?_;cases h;exact aH (bR z dX Y (RV.tmp Y) (RV.tmp Y) .nil Y)
 refine aG ?_;refine aL [2,3] ?_;cases h;exact aH (bR z dX Y (RV.tmp Y) (RV.tmp Y) .nil Y)
theorem Tm{a0 r}(h:xM a0=some r):
 WE Tryz.prog 159 [.v Q0 a0] (.WL [.v Q2 r.1,.v Q9 r.2]) []:=by
 refine WE.of Tryz.func159 Y Tryz.ntmps159 Y ?_;intro S w z;unfold xM at h;refine aJ (.k (aN 101 Tk Y (.cons (Z.sl aM) (.cons (Z.sl gJ) (.cons (Z.int .i64) .nil))) Y) (.f [0,2] ?_));refine aF ?_;refine aF ?_;obtain⟨C,u,h⟩:=aB h;refine eF (σ':=⟨[(0,.v Q0 a0),(2,.ptr 101 0),(9,.v Wr.bool C)],[(101,.box 186 [.v Q5 ([]:iO),.v Q1 ([]:Q6),.v Q0 (0:Int)])]⟩) ?_ ?_
 ·refine cd u (fun A u=>?_) (fun A u=>?_)
  ·cases u;exact jy
  cases u;exact jy
 refine aU h Y (fun B h=>?_) (fun B h=>?_)
 ·refine aJ (.k (bP rG (.cons (Z.sl aM) (.cons (Z.sl gJ) (.cons (Z.int .i64) .nil))) .nil) (.f [2,3] ?_));refine aH ?_;obtain rfl:=pT h;exact bZ (σ':=⟨[(2,.ptr 90 0),(3,.v Q9 (some (1:Int)))],[(90,.box 186 [.v Q5 ([]:iO),.v Q1 ([]:Q6),.v Q0 (0:Int)])]⟩) (aC [(90,101)]) (bR z dX Y (aT Y Y (.VL sO (.VL sO sO)) rZ lJ) (RV.tmp Y) .nil Y)
 refine aG ?_;obtain⟨D,E,h⟩:=aB h;refine aJ (.a 1 ?_);refine .k (Xq 102 E Y Y Jm An lA Y Y (Z.arr 8 (Z.int .u8))) (.k (bP rG (.cons (Z.sl aM) (.cons (Z.sl gJ) (.cons (Z.int .i64) .nil))) (.cons Y (.dir Y) Y Y Y Y (.cons Y (.dir Y) Y Y Y Y .nil))) (.f [2,3] ?_));refine aH ?_;obtain rfl:=pT h;exact bZ (σ':=⟨[(2,.ptr 90 0),(3,.v Q9 (none:Option Int))],[(90,.box 186 [.v Q5 D,.v Q1 ([]:Q6),.v Q0 (-1:Int)])]⟩) (aC [(90,101)]) (bR z dX Y (aT Y Y (.VL sO (.VL sO sO)) rZ lJ) (RV.tmp Y) .nil Y)
theorem Jo{a0 r}(h:qY a0=some r):
 WE Tryz.prog 100 [.v Q0 a0] (.WL [.v Q2 r.1,.v Q9 r.2]) []:=by
 refine WE.of Tryz.func100 Y Tryz.ntmps100 Y ?_;intro S w z;unfold qY at h;refine aJ (.k (aN 101 Tk Y (.cons (Z.sl aM) (.cons (Z.sl gJ) (.cons (Z.int .i64) .nil))) Y) (.f [0,2] ?_));obtain⟨B,C,h⟩:=aB h;refine aJ (.a 1 ?_);refine .k (aO (Dp C) Tryz.call158 (.cons (.dir Y) .nil)) (.f [2,4,5] ?_);refine dI [2,4,5,12] ?_;refine aU h Y (fun A h=>?_) (fun A h=>?_)
 ·refine aJ (.k (bP rG (.cons (Z.sl aM) (.cons (Z.sl gJ) (.cons (Z.int .i64) .nil))) .nil) (.f [2,3] ?_));refine aH ?_;obtain rfl:=pT h;exact bZ (σ':=⟨[(2,.ptr 90 0),(3,.v Q9 B.2)],[(90,.box 186 [.v Q5 ([]:iO),.v Q1 ([]:Q6),.v Q0 (0:Int)])]⟩) (aC [(90,101)]) (bR z dX Y (aT Y Y (.VL sO (.VL sO sO)) rZ lJ) (RV.tmp Y) .nil Y)
 refine aG ?_;obtain⟨u,D,h⟩:=aB h;refine aJ (.a 1 ?_);refine .k (aO (Tm D) Tryz.call159 (.cons (.dir Y) .nil)) ?_;refine .a 2 ?_;refine .t (bS Y Y Y Y (.VL sO (.VL sO sO)) lJ) (.f [2,3] ?_);refine aH ?_;obtain rfl:=pT h;exact bZ (σ':=⟨[(2,.ptr 90 0),(3,.v Q9 u.2)],[(90,.box 186 [.v Q5 u.1.1,.v Q1 u.1.2.1,.v Q0 u.1.2.2])]⟩) (aC [(90,101)]) (bR z dX Y (aT Y Y (.VL sO (.VL sO sO)) rZ lJ) (RV.tmp Y) .nil Y)
theorem Jq{a0 a1 r}(h:lT a0 a1=some r):
 WE Tryz.prog 204 [.v gJ a0,.YA Q2 a1] (.v Wr.bool r) []:=by
 refine WE.of Tryz.func204 Y Tryz.ntmps204 Y ?_;intro S w A;unfold lT at h;refine aJ (.k (cJ 101 Y (.VL sO sO) Y) (.f [1,2] ?_));refine aF ?_;obtain⟨B,u,h⟩:=aB h;refine eF (σ':=⟨[(3,.v Wr.bool B)],[]⟩) ?_ ?_
 ·refine cd u (fun z u=>?_) (fun z u=>?_)
  ·cases u;exact jy
  cases u;refine ja 6 ?_;exact(J.g z (fB Y Kz Y yA Y (.fst .here) Y) jy)
 cases h;exact aH (aY A dX Y (RV.tmp Y) .nil Y)
theorem mD{a0 XN r}(h:dL a0 XN=some r):
 WE Tryz.prog 247 [.v Q1 a0,.ZT 204 [.YA Q2 XN]] (.v Q0 r) []:=by
 refine WE.of Tryz.func247 Y Tryz.ntmps247 Y ?_;intro S w u;unfold dL at h;refine aL [0,1] ?_;refine dI [0,1,7,8] ?_;obtain⟨L,F,G,H⟩:=cF h;refine jN (σs:=fun z:Int=>⟨[(0,.v Q1 a0),(1,.ZT 204 [.YA Q2 XN]),(7,.v Q0 (a0.length:Int)),(8,.v Q0 z)],[]⟩) (fun A:Unit=>⟨[],[]⟩) F (aC []) ?_ ?_
 ·intro A B;have h:=G _ B;refine aL [4] ?_;cases h;exact aH (aY u dX Y (RV.tmp Y) .nil Y)
 intro z K h;refine aL [0,1,7,8,9] ?_;refine aF ?_;refine aU h Y (fun C h=>?_) (fun C h=>?_)
 ·refine aG ?_;refine aF ?_;refine bQ ?_;refine aL [0,1,5,7,8] ?_;obtain⟨M,N,h⟩:=aB h;obtain⟨O,I,h⟩:=aB h;refine aJ (.a 5 ?_);refine .k (tM Y (Jq I) Tryz.call204 (.cons (.dir Y) .nil)) (.f [0,1,5,7,8,16] ?_);refine aU h Y (fun D h=>?_) (fun D h=>?_)
  ·refine aL [4] ?_;refine aH ?_;refine eI ?_;cases h;refine gB fun E=>?_;obtain rfl:=H _ E;exact aY u dX Y (RV.tmp Y) .nil Y
  refine aG ?_;refine bV ?_;refine eV [0,1,7,8] ?_;cases h;exact cR (aC [])
 cases h;exact dE (dM (aC []))
theorem kY{a0 XN r}(h:cH a0 XN=some r):
 WE Tryz.prog 203 [.v Q1 a0,.ZT 204 [.YA Q2 XN]] (.v Wr.bool r) []:=by
 refine WE.of Tryz.func203 Y Tryz.ntmps203 Y ?_;intro S w u;unfold cH at h;refine aL [0,1] ?_;obtain⟨A,z,h⟩:=aB h;refine aJ (.a 2 ?_);refine .k (aO (mD z) Tryz.call247 (.cons (.dir Y) (.cons (.dir Y) .nil))) (.f [4] ?_);cases h;exact aH (aY u dX Y (RV.tmp Y) .nil Y)
theorem uL{a0 r}(h:mS a0=some r):
 WE Tryz.prog 160 [.v Q2 a0] (.v Q9 r) []:=by
 refine WE.of Tryz.func160 Y Tryz.ntmps160 Y ?_;intro S w z;unfold mS at h;refine aJ (.k (cJ 101 Y (.VL sO (.VL sO sO)) Y) (.f [1] ?_));refine aF ?_;refine aF ?_;obtain⟨E,u,h⟩:=aB h;refine eF (σ':=⟨[(1,.ptr 101 0),(18,.v Wr.bool E)],[(101,.box 186 [.v Q5 a0.1,.v Q1 a0.2.1,.v Q0 a0.2.2])]⟩) ?_ ?_
 ·refine cd u (fun A u=>?_) (fun A u=>?_)
  ·cases u;exact jy
  refine cd u (fun B u=>?_) (fun B u=>?_)
  ·cases u;exact jy
  cases u;exact jy
 refine aU h Y (fun C h=>?_) (fun C h=>?_)
 ·refine aL [2] ?_;cases h;exact aH (aY z dX Y (RV.tmp Y) .nil Y)
 refine aG ?_;obtain⟨G,F,h⟩:=aB h;refine jW (.a 2 ?_);refine .k (tL (.cons (.dir Y) .nil)) (.k (rM (kY F) Tryz.call203 (.cons (.dir Y) (.cons (.aMn Y (.ptr Y (.VL sO (.VL sO sO)) .nil)) .nil)) XO.v) (.f [23] ?_));refine aU h Y (fun D h=>?_) (fun D h=>?_)
 ·refine aL [2] ?_;cases h;exact aH (aY z dX Y (RV.tmp Y) .nil Y)
 refine aG ?_;refine aL [2] ?_;cases h;exact aH (aY z dX Y (RV.tmp Y) .nil Y)
theorem qI{a0 r}(h:kJ a0=some r):
 WE Tryz.prog 138 [.v (Wr.H8 aM) a0] (.ref 0) [(0,.arr 30 aM r)]:=by
 refine WE.of Tryz.func138 Y Tryz.ntmps138 Y ?_;intro S w u;unfold kJ at h;refine aJ (.k (aR 101 30 aM) (.f [0] ?_));refine jW (.a 1 ?_);refine .k (xE Y Jm) (.f [0,4] ?_);refine aU h Y (fun z h=>?_) (fun z h=>?_)
 ·refine aJ (.k (aR 102 30 aM) (.f [2] ?_));cases h;exact aH (wM u dX Y (aC [(0,102)]))
 refine aG ?_;obtain⟨B,A,h⟩:=aB h;refine aJ (.k (rK (e:=aM) 103 Jm lA Cg Y Y Y Y .nil) ?_);refine .a 1 ?_;refine .t (cG 104 A Y Y (.H8 Y) Jm An lA Y Y Y Y Y) (.f [2] ?_);cases h;exact aH (wM u dX Y (aC [(0,104)]))
theorem cO{a0:iO}{r:iO}(h:aP a0=some r):
  WE Tryz.prog 138 [.v Q5 a0] (.ref 0) [(0,.arr 30 aM r)]:=
 rN fun b u=>qI (by cases b with | true=>rw[u rfl] at h ⊢;exact h | false=>exact Ef h)
theorem sV{a0 r}(h:fS a0=some r):
 WE Tryz.prog 181 [.v Q1 a0] (.ZT 227 [.YA Q1 r]) []:=by
 refine WE.of Tryz.func181 Y Tryz.ntmps181 Y ?_;intro S w u;unfold fS at h;refine aJ (.k (cJ 101 Y sO Y) (.k (eM Y) (.f [1] ?_)));refine aJ (.k (tL (.cons (.dir Y) .nil)) (.f [2] ?_));refine aH ?_;obtain rfl:=pT h;exact bZ (σ':=⟨[(2,.ZT 227 [.YA Q1 a0])],[]⟩) (Sw.Sub.mk id (.cons Y (.ZT (.cons (.s8 Y Y (.cons (.of_eq Y) .nil) sO) .nil)) .nil) .nil Y) (aY u dX Y (RV.tmp Y) .nil Y)
theorem RD{xs:List (Int×aQ)}(hlen:(xs.length:Int)<=4294967296):
 ai Tryz.prog 227 [.YA Q1 xs] ((G6 xs).map fun c=>[.v Q0 c.1,.v gJ c.2]):=by
  refine CV Tryz.func227 Y Tryz.ntmps227 Y ?_;intro S w ρ l Jp Jx b off I vl h1;have E:=CX hlen;refine aF ?_;refine eF (σ':=⟨[(0,.v (Wr.ZQ (.func (.yield l) #[] #[]) Y) ()),(1,.v (Wr.cp b off Q1) xs),(3,.v Q0 ((xs.length:Int) - 1 - (0:Nat)))],[]⟩) (J.k (mM Y FP Ij) (J.k (uZ Y yC) (J.k (dF Y Y Y) (J.k (bM Y) (J.fin (kO (by rfl) (by exact(.cons Y (.cons Y (.cons (by rw[<-E];rfl) .nil)))))))))) ?_;refine bQ ?_;refine Ry I (fun k=>[(0,.v (Wr.ZQ (.func (.yield l) #[] #[]) Y) ()),(1,.v (Wr.cp b off Q1) xs),(3,.v Q0 ((xs.length:Int) - 1 - (k:Nat)))]) (fun k=>(.cons (@q9.flat _ _ ⟨fun h=>h⟩ _ _ _ _) (.cons h1 (.cons .flat .nil)))) (fun _ _ h=>h) vl ?_;intro k V C D;have u:((G6 xs).map fun c=>([.v Q0 c.1,.v gJ c.2]:List Slot)).length=xs.length:=by rw[ld,CW]
  rw[u] at D;have F:=GU hlen D;refine aF (aF ?_);refine eF (σ':=⟨[(0,.v (Wr.ZQ (.func (.yield l) #[] #[]) Y) ()),(1,.v (Wr.cp b off Q1) xs),(3,.v Q0 ((xs.length:Int) - 1 - (k:Nat))),(8,.v Wr.bool (cm .geq ((xs.length:Int) - 1 - (k:Nat)) 0))],[]⟩) (J.mv Y (J.k (jR Y Y Y) (J.fin (kO (by rfl) (by exact(.cons Y (.cons Y (.cons Y (.cons Y .nil))))))))) ?_;refine Fw Y (fun z=>?_) (fun z=>?_)
  ·refine aG ?_;have M:(xs.length:Int) - 1 - (k:Nat)>=0:=by simpa[cm] using z
   have B:k<xs.length:=by omega
   obtain⟨x,K,L⟩:=GS B;refine aF ?_;refine bQ ?_;refine aF ?_;refine Mh (σ1:=⟨[(11,.v (Wr.ZQ (.func (.yield l) #[] #[]) Y) ()),(12,.v Q0 ((xs.length:Int) - 1 - (k:Nat))),(16,.v gJ x),(0,.v (Wr.ZQ (.func (.yield l) #[] #[]) Y) ()),(1,.v (Wr.cp b off Q1) xs),(3,.v Q0 ((xs.length:Int) - 1 - (k:Nat)))],[]⟩) (g2:=[(0,.v (Wr.ZQ (.func (.yield l) #[] #[]) Y) ()),(1,.v (Wr.cp b off Q1) xs),(3,.v Q0 ((xs.length:Int) - 1 - (k:Nat)))]) (pre:=[_,_,_,_,_,_]) I C (item:=[.v Q0 ((xs.length:Int) - 1 - (k:Nat)),.v gJ x]) (by rw[lf,K];rfl)
    (J.cons (.none rfl) (aD rfl) rfl rfl (J.cons (.none rfl) (aD rfl) rfl rfl (J.cons (.none rfl) (mM rfl FP Ij) rfl rfl (J.cons (.none rfl) (aD rfl) rfl rfl (J.cons (.none rfl) (qG L rfl rfl yC jX) rfl rfl (J.cons (.none rfl) (cE rfl Zn jX) rfl rfl (J.fin (kO (by rfl) (by exact(.cons rfl (.cons rfl (.cons rfl (.cons rfl (.cons rfl (.cons rfl .nil)))))))))))))))
    rfl (.cons (.dir rfl) (.cons (.dir rfl) .nil)) rfl rfl rfl rfl (.cons (@q9.flat _ _ ⟨fun h=>h⟩ _ _ _ _) (.cons h1 (.cons .flat .nil))) (.cons rfl (.cons rfl (.cons rfl .nil))) (fun A G=>?_) (fun A H=>?_)
   ·refine Av rfl rfl (aG (bV ?_));refine eF (σ':=⟨[(0,.v (Wr.ZQ (.func (.yield l) #[] #[]) Y) ()),(1,.v (Wr.cp b off Q1) xs),(3,.v Q0 (ar .sub .i64 ((xs.length:Int) - 1 - (k:Nat)) 1))],[]⟩) (J.mv Y (J.k (dF Y Y Y) (J.k (bM Y) (J.fin (kO (by rfl) (by exact(.cons Y (.cons Y (.cons Y .nil))))))))) ?_;exact Rz I G (by rw[u];exact B) (by rw[F];exact fun _ _ h=>h)
   ·refine vM rfl rfl (aH (Sa (fn:=Tryz.f227) I rfl H fun a A h=>h))
  ·refine dE (Xy (fn:=Tryz.f227) I rfl C ?_ (fun a A h=>?_))
   ·have N:¬(xs.length:Int) - 1 - (k:Nat)>=0:=by simpa[cm] using z
    rw[u];omega
   ·simp only[Exit.inBlock,l3];exact h
theorem qF{a0 a1 r}(h:iT a0 a1=some r):
 WE Tryz.prog 133 [.v Q2 a0,.v Q0 a1] (.WL [.v aM r.1,.v Q9 r.2]) []:=by
 refine WE.of Tryz.func133 Y Tryz.ntmps133 Y ?_;intro S w z;unfold iT at h;refine aJ (.k (cJ 101 Y (.VL sO (.VL sO sO)) Y) (.k (cJ 102 Y sO Y) (.k (aN 103 Cg Y (.cons (Z.arr 8 (Z.int .u8)) .nil) Y) (.k (aN 104 Tryz.zeroValue35 Y (.cons (Z.err ET) .nil) Y) (.f [2,3,4,5] ?_)))));obtain⟨P,Q,h⟩:=aB h;refine jW (.k (aX Y Y (.VL sO (.VL sO sO)) rZ lJ) (.k (aO (uL Q) OB (.cons (.dir Y) .nil)) (.f [2,3,4,5,6] ?_)));refine aL [2,3,4,5,6,12] ?_;refine aU h Y (fun I h=>?_) (fun I h=>?_)
 ·refine aJ (.k (dA (e:=aM) (v:=aS) An vY I5 Y Y (Z.arr 8 (Z.int .u8))) (.f [4,5] ?_));refine aH ?_;obtain rfl:=pT h;exact bZ (σ':=⟨[(4,.ptr 90 0),(5,.ptr 91 0)],[(91,.box 35 [.v Q9 P]),(90,.box 30 [.v aM aS])]⟩) (aC [(90,103),(91,104)]) (bR z dX Y (cN Y Y Y uR lA) (cN Y Y Y SZ OX) .nil Y)
 refine aG ?_;refine aF ?_;refine aF ?_;obtain⟨T,B,h⟩:=aB h;refine eF (σ':=⟨[(2,.ptr 101 0),(3,.ptr 102 0),(4,.ptr 103 0),(5,.ptr 104 0),(23,.v Wr.bool T)],[(101,.box 186 [.v Q5 a0.1,.v Q1 a0.2.1,.v Q0 a0.2.2]),(102,.box 3 [.v Q0 a1]),(103,.box 30 [.v aM aS]),(104,.box 35 [.v Q9 (none:Option Int)])]⟩) ?_ ?_
 ·refine cd B (fun K B=>?_) (fun K B=>?_)
  ·cases B;exact jy
  cases B;exact jy
 refine aU h Y (fun M h=>?_) (fun M h=>?_)
 ·refine aJ (.k (dA (e:=aM) (v:=aS) An vY I5 Y Y (Z.arr 8 (Z.int .u8))) (.f [4,5] ?_));refine aH ?_;obtain rfl:=pT h;exact bZ (σ':=⟨[(4,.ptr 90 0),(5,.ptr 91 0)],[(91,.box 35 [.v Q9 (some (1:Int))]),(90,.box 30 [.v aM aS])]⟩) (aC [(90,103),(91,104)]) (bR z dX Y (cN Y Y Y uR lA) (cN Y Y Y SZ OX) .nil Y)
 refine aG ?_;refine dI [2,3,4,5,28] ?_;refine aU h Y (fun N h=>?_) (fun N h=>?_)
 ·refine aJ (.k (dA (e:=aM) (v:=aS) An vY I5 Y Y (Z.arr 8 (Z.int .u8))) (.f [4,5] ?_));refine aH ?_;obtain rfl:=pT h;exact bZ (σ':=⟨[(4,.ptr 90 0),(5,.ptr 91 0)],[(91,.box 35 [.v Q9 (some (4:Int))]),(90,.box 30 [.v aM aS])]⟩) (aC [(90,103),(91,104)]) (bR z dX Y (cN Y Y Y uR lA) (cN Y Y Y SZ OX) .nil Y)
 refine aG ?_;obtain⟨E,U,h⟩:=aB h;refine jW (.a 2 ?_);refine .k (aO (sV U) Tryz.call181 (.cons (.dir Y) .nil)) (.f [2,3,4,5,33] ?_);refine bQ ?_;obtain⟨ad,V,h⟩:=aB h;obtain⟨o9,X,aa,ab⟩:=Rw h;refine Rv (g:=[(2,.ptr 101 0),(3,.ptr 102 0),(4,.ptr 103 0),(5,.ptr 104 0),(33,.ZT 227 [.YA Q1 E])]) (ds0:=[(101,.box 186 [.v Q5 a0.1,.v Q1 a0.2.1,.v Q0 a0.2.2]),(102,.box 3 [.v Q0 a1]),(103,.box 30 [.v aM aS]),(104,.box 35 [.v Q9 (none:Option Int)])]) (L:=[101,102,103,104]) (fun A:(Int×(Int×aQ))=>[.v Q0 A.1,.v gJ A.2]) (fun u (C:Unit)=>[(101,.box 186 [.v Q5 a0.1,.v Q1 a0.2.1,.v Q0 a0.2.2] (some (u 101))),(102,.box 3 [.v Q0 a1] (some (u 102))),(103,.box 30 [.v aM aS] (some (u 103))),(104,.box 35 [.v Q9 (none:Option Int)] (some (u 104)))]) (fun u (D:aQ)=>[(101,.box 186 [.v Q5 a0.1,.v Q1 a0.2.1,.v Q0 a0.2.2] (some (u 101))),(102,.box 3 [.v Q0 a1] (some (u 102))),(103,.box 30 [.v aM D] (some (u 103))),(104,.box 35 [.v Q9 (none:Option Int)] (some (u 104)))]) (fun u A C=>⟨[(2,.ptr 101 0),(3,.ptr 102 0),(4,.ptr 103 0),(5,.ptr 104 0),(8,.ptr 108 0),(33,.ZT 227 [.YA Q1 E])],[(101,.box 186 [.v Q5 a0.1,.v Q1 a0.2.1,.v Q0 a0.2.2] (some (u 101))),(102,.box 3 [.v Q0 a1] (some (u 102))),(103,.box 30 [.v aM aS] (some (u 103))),(104,.box 35 [.v Q9 (none:Option Int)] (some (u 104))),(108,.box 214 [.v Q0 A.2.1,.v aM A.2.2])]⟩) z Y X (aC []) (fun _=>rfl) Y (RD (Ga V)) Tryz.call227 (fun _=>rfl) Y (fun _=>rfl) Y (fun _ _=>(.cons Y (.cons Y (.cons Y (.cons Y .nil))))) (fun _ _=>(.cons Y (.cons Y (.cons Y (.cons Y .nil))))) ?_ ?_ ?_ ?_
 ·intro u S w R l A C;refine gC (.k (aN 109 Fb Y (.cons (Z.int .i64) (.cons (Z.arr 8 (Z.int .u8)) .nil)) Y) (.t (bS Y Y Y Y (.VL sO sO) jX) (.f [2,3,4,5,8,33] ?_)));exact PI (aC [(108,109)])
 ·intro u S w R l A C r9 h;refine bQ ?_;refine aL [2,3,4,5,8,33,39] ?_;refine aU h Y (fun O h=>?_) (fun O h=>?_)
  ·refine aJ (.a 3 ?_);refine .t (Iu Y Y Y (.aMj ET) Y Y Y OX) (.f [2,3,4,5,33] ?_);refine aH ?_;refine eI ?_;cases h;exact GR (aC [])
  refine aG ?_;cases h;exact bV (Rx (aC []))
 ·intro u ac F S w R G z;have h:=aa _ F;refine bV ?_;obtain⟨ln,sc,h⟩:=aB h;refine aJ (.a 6 ?_);refine .t (Iu Y Y Y (.aMj ET) Y Y Y OX) (.f [4,5] ?_);refine aH ?_;obtain rfl:=pT h;exact bZ (σ':=⟨[(4,.ptr 90 0),(5,.ptr 91 0)],[(91,.box 35 [.v Q9 (none:Option Int)]),(90,.box 30 [.v aM ln])]⟩) (aC [(90,103),(91,104)]) (bR z dX Y (cN Y Y Y uR lA) (cN Y Y Y SZ OX) .nil Y)
 ·intro u D H S w R G z;have h:=ab _ H;refine eI ?_;obtain rfl:=pT h;exact bZ (σ':=⟨[(4,.ptr 90 0),(5,.ptr 91 0)],[(91,.box 35 [.v Q9 (none:Option Int)]),(90,.box 30 [.v aM D])]⟩) (aC [(90,103),(91,104)]) (bR z dX Y (cN Y Y Y uR lA) (cN Y Y Y SZ OX) .nil Y)
theorem tC{a0 r}(h:gQ a0=some r):
 WE Tryz.prog 210 [.v aM a0] (.v Q0 r) []:=by
 refine WE.of Tryz.func210 Y Tryz.ntmps210 Y ?_;intro S w C;unfold gQ at h;refine aJ (.k (cJ 101 Y sO Y) (.f [1] ?_));obtain⟨D,u,h⟩:=aB h;obtain⟨E,z,h⟩:=aB h;obtain⟨F,A,h⟩:=aB h;obtain⟨G,B,h⟩:=aB h;refine aJ (.k (vA u Y Y Y Y vY S5) (.k (vB (dQ u).2.2 Y Y Y G5 S5) (.k (by exact mL U5 U3 Y Y) (.k (by exact fD (.inl Y) (by decide) Y Y) (.k (by exact vA z Y Y Y Y vY S5) (.k (by exact vB (dQ z).2.2 Y Y Y G5 S5) (.k (by exact mL U5 U3 Y Y) (.k (by exact fD (.inl Y) (by decide) Y Y) ?_))))))));refine .a 1 ?_;refine .k (vA A Y Y Y Y vY S5) (.k (vB (dQ A).2.2 Y Y Y G5 S5) (.k (by exact mL U5 U3 Y Y) (.k (by exact fD (.inl Y) (by decide) Y Y) ?_)));refine .a 1 ?_;refine .k (vA B Y Y Y Y vY S5) (.k (vB (dQ B).2.2 Y Y Y G5 S5) (.k (by exact mL U5 U3 Y Y) (.f [2] ?_)));cases h;exact aH (aY C dX Y (RV.tmp Y) .nil Y)
theorem sJ{a0 r}(h:lU a0=some r):
 WE Tryz.prog 213 [.v (Wr.H8 gJ) a0] (.ref 0) [(0,.arr 214 gJ r)]:=by
 refine WE.of Tryz.func213 Y Tryz.ntmps213 Y ?_;intro S w u;unfold lU at h;refine aJ (.k (aR 101 214 gJ) (.f [0] ?_));refine jW (.a 1 ?_);refine .k (xE Y yC) (.f [0,4] ?_);refine aU h Y (fun z h=>?_) (fun z h=>?_)
 ·refine aJ (.k (aR 102 214 gJ) (.f [2] ?_));cases h;exact aH (wM u dX Y (aC [(0,102)]))
 refine aG ?_;obtain⟨B,A,h⟩:=aB h;refine aJ (.k (rK (e:=gJ) 103 yC jX Fb Y Y Y Y .nil) ?_);refine .a 1 ?_;refine .t (cG 104 A Y Y (.H8 Y) yC Kx jX Y Y Y Y Y) (.f [2] ?_);cases h;exact aH (wM u dX Y (aC [(0,104)]))
theorem eY{a0:Q6}{r:Q6}(h:bT a0=some r):
  WE Tryz.prog 213 [.v Q1 a0] (.ref 0) [(0,.arr 214 gJ r)]:=
 rN fun b u=>sJ (by cases b with | true=>rw[u rfl] at h ⊢;exact h | false=>exact Ef h)
theorem Dq{a0 r}(h:rQ a0=some r):
 WE Tryz.prog 264 [.v Q2 a0] (.agg [.ref 0,.ref 1,.v Q0 r.2.2]) [(0,.arr 30 aM r.1),(1,.arr 214 gJ r.2.1)]:=by
 refine WE.of Tryz.func264 Y Tryz.ntmps264 Y ?_;intro S w u;unfold rQ at h;refine aJ (.k (cJ 101 Y (.VL sO (.VL sO sO)) Y) (.k (aN 102 Tk Y (.cons (Z.sl aM) (.cons (Z.sl gJ) (.cons (Z.int .i64) .nil))) Y) (.f [1,2] ?_)));refine aF ?_;obtain⟨z,A,h⟩:=aB h;obtain⟨B,C,h⟩:=aB h;refine eD 10 mixed (by exact(.k (aA 0 Y Kz Y yA Y Y) (.k (aI Y Y Y Tu yA) (.k (fM 103000 (cO A) Zm (.cons (.dir Y) .nil) Y) (.k (aA 1 Y Kz Y Ij Y Y) (.k (aI Y Y Y FP Ij) (.k (fM 104000 (eY C) KE (.cons (.dir Y) .nil) Y) (.k (aA 0 Y Kz Y yA Y Y) (XS.store (.none Y) Y Y Y Y Y Y Y yA (.k (aA 1 Y Kz Y Ij Y Y) (XS.store (.none Y) Y Y Y Y Y Y Y Ij .nil))))))))))) (by exact(J.kp [1,2] [])) ?_;refine aJ (.k (iB Y Y Y rZ lJ) (.f [2] ?_));refine aH ?_;obtain rfl:=pT h;exact bZ (σ':=⟨[(2,.ptr 90 0)],[(90,.box 186 [.ref 0,.ref 1,.v Q0 a0.2.2]),(1,.arr 214 gJ B),(0,.arr 30 aM z)]⟩) (aC [(90,102),(1,104000),(0,103000)]) (aY u dX Y (Fy Y Y Y rZ lJ) (.cons Y (.cons Y .nil)) Y)
theorem uV(A:Nat->Nat){VY WI ij r}(h:jJ VY WI ij=some r):
 VR Tryz.prog 265 [.ptr 9000 0] [(9000,.box 186 [.ref 8950,.ref 8951,.v Q0 ij] (some (A 9000))),(8950,.arr 30 aM VY),(8951,.arr 214 gJ WI)] (.v Q9 r.1) [(9000,.box 186 [.ref 8910,.ref 8911,.v Q0 r.2.2.2] (some (A 9000))),(8910,.arr 30 aM r.2.1),(8911,.arr 214 gJ r.2.2.1)]:=by
 refine VR.of Tryz.func265 Y Tryz.ntmps265 Y ?_;intro S w R z;unfold jJ at h;refine aL [0] ?_;refine dI [0,7] ?_;refine aU h Y (fun C h=>?_) (fun C h=>?_)
 ·refine aL [0,2] ?_;cases h;exact aH (eZ z Y (aC [(8911,8951),(8910,8950)]))
 refine aG ?_;refine dI [0,13] ?_;obtain⟨D,E,h⟩:=gT h;refine vT (fun B:Int=>⟨[(0,.ptr 9000 0)],[(9000,.box 186 [.ref 8950,.ref 8951,.v Q0 B] (some (A 9000))),(8950,.arr 30 aM VY),(8951,.arr 214 gJ WI)]⟩) (fun x=>D x=some r) Y ?_ ?_ ?_
 ·intro B h;rw[E] at h;refine aL [0,2] ?_;cases h;exact aH (eZ z Y (aC [(8911,8951),(8910,8950)]))
 ·intro u;replace h:=kG u h;refine eV [0] ?_;exact cT h (aC [])
 ·intro u;replace h:=kH u h;refine aG ?_;exact cT h (aC [])
theorem Oh{a0 a1 a2 r}(h:rR a0 a1 a2=some r):
 WE Tryz.prog 250 [.v Q2 a0,.v Q0 a1,.v aM a2] (.WL [.v Q2 r.1,.v Q9 r.2]) []:=by
 refine WE.of Tryz.func250 Y Tryz.ntmps250 Y ?_;intro S w u;unfold rR at h;refine aJ (.k (cJ 101 Y (.VL sO (.VL sO sO)) Y) (.k (cJ 102 Y sO Y) (.k (aN 103 Tk Y (.cons (Z.sl aM) (.cons (Z.sl gJ) (.cons (Z.int .i64) .nil))) Y) (.f [1,3,5,6] ?_))));obtain⟨H,I,h⟩:=aB h;refine jW (.k (aX Y Y (.VL sO (.VL sO sO)) rZ lJ) (.k (aO (uL I) OB (.cons (.dir Y) .nil)) (.f [1,3,5,6,8] ?_)));refine aL [1,3,5,6,8,13] ?_;refine aU h Y (fun C h=>?_) (fun C h=>?_)
 ·refine aJ (.k (fL (new:=[(105,.arr 214 gJ ([]:Q6))]) rG (.cons (Z.sl aM) (.ref 105 Y (.cons (Z.int .i64) .nil))) (.cons .nil) Y .nil) (.f [6,7] ?_));refine aH ?_;obtain rfl:=pT h;exact bZ (σ':=⟨[(6,.ptr 90 0),(7,.v Q9 H)],[(90,.box 186 [.v Q5 ([]:iO),.v Q1 ([]:Q6),.v Q0 (0:Int)])]⟩) (aC [(90,103)]) (bR u dX Y (aT Y Y (.VL sO (.VL sO sO)) rZ lJ) (RV.tmp Y) .nil Y)
 refine aG ?_;refine aF ?_;refine aF ?_;obtain⟨K,z,h⟩:=aB h;refine eF (σ':=⟨[(1,.v Q0 a1),(3,.ptr 101 0),(5,.ptr 102 0),(6,.ptr 103 0),(24,.v Wr.bool K)],[(101,.box 186 [.v Q5 a0.1,.v Q1 a0.2.1,.v Q0 a0.2.2]),(102,.box 30 [.v aM a2]),(103,.box 186 [.v Q5 ([]:iO),.v Q1 ([]:Q6),.v Q0 (0:Int)])]⟩) ?_ ?_
 ·refine cd z (fun D z=>?_) (fun D z=>?_)
  ·cases z;exact jy
  cases z;exact jy
 refine aU h Y (fun E h=>?_) (fun E h=>?_)
 ·refine aJ (.k (fL (new:=[(106,.arr 214 gJ ([]:Q6))]) rG (.cons (Z.sl aM) (.ref 106 Y (.cons (Z.int .i64) .nil))) (.cons .nil) Y .nil) (.f [6,7] ?_));refine aH ?_;obtain rfl:=pT h;exact bZ (σ':=⟨[(6,.ptr 90 0),(7,.v Q9 (some (1:Int)))],[(90,.box 186 [.v Q5 ([]:iO),.v Q1 ([]:Q6),.v Q0 (0:Int)])]⟩) (aC [(90,103)]) (bR u dX Y (aT Y Y (.VL sO (.VL sO sO)) rZ lJ) (RV.tmp Y) .nil Y)
 refine aG ?_;refine dI [1,3,5,6,30] ?_;refine aU h Y (fun F h=>?_) (fun F h=>?_)
 ·refine aJ (.k (fL (new:=[(107,.arr 214 gJ ([]:Q6))]) rG (.cons (Z.sl aM) (.ref 107 Y (.cons (Z.int .i64) .nil))) (.cons .nil) Y .nil) (.f [6,7] ?_));refine aH ?_;obtain rfl:=pT h;exact bZ (σ':=⟨[(6,.ptr 90 0),(7,.v Q9 (some (2:Int)))],[(90,.box 186 [.v Q5 ([]:iO),.v Q1 ([]:Q6),.v Q0 (0:Int)])]⟩) (aC [(90,103)]) (bR u dX Y (aT Y Y (.VL sO (.VL sO sO)) rZ lJ) (RV.tmp Y) .nil Y)
 refine aG ?_;obtain⟨P,L,h⟩:=aB h;refine aJ (.k (aX Y Y (.VL sO (.VL sO sO)) rZ lJ) (.k (fM 108000 (Dq L) Tryz.call264 (.cons (.dir Y) .nil) Y) (.f [1,3,5,6] ?_)));obtain⟨B,M,h⟩:=aB h;refine jW (.t (eO [101,108000,108001] (Bv [(9000,101),(8950,108000),(8951,108001),(8910,109),(8911,110)]) (eT _) (fun A=>uV A M) Tryz.call265 (fun A=>(.box Y (.arr (.arr .nil Y) Y) Y))) (.f [1,3,5,6,9] ?_));refine aL [1,3,5,6,9,37] ?_;refine aU h Y (fun G h=>?_) (fun G h=>?_)
 ·refine aJ (.k (fL (new:=[(111,.arr 214 gJ ([]:Q6))]) rG (.cons (Z.sl aM) (.ref 111 Y (.cons (Z.int .i64) .nil))) (.cons .nil) Y .nil) (.f [6,7] ?_));refine aH ?_;obtain rfl:=pT h;exact bZ (σ':=⟨[(6,.ptr 90 0),(7,.v Q9 B.1)],[(90,.box 186 [.v Q5 ([]:iO),.v Q1 ([]:Q6),.v Q0 (0:Int)])]⟩) (aC [(90,103)]) (bR u dX Y (aT Y Y (.VL sO (.VL sO sO)) rZ lJ) (RV.tmp Y) .nil Y)
 refine aG ?_;obtain⟨N,O,h⟩:=aB h;refine aJ (.a 4 ?_);refine .k (bP vZ (.cons (Z.int .i64) (.cons (Z.arr 8 (Z.int .u8)) .nil)) (.cons Y (.dir Y) Y Y Y Y (.cons Y (.dir Y) Y Y Y Y .nil))) (.k (eJ (e:=gJ) yC jX Fb Y Y Y Y (.cons (.agg Y (.same (.same .nil)) (.VL sO sO) Y) .nil)) (.t (cG 112 O Y Y (.sl Y) yC Kx jX Y Y Y Y Y) (.f [3,6] ?_)));refine aJ (.k (iB Y Y Y rZ lJ) (.f [6,7] ?_));refine aH ?_;obtain rfl:=pT h;exact bZ (σ':=⟨[(6,.ptr 90 0),(7,.v Q9 (none:Option Int))],[(90,.box 186 [.v Q5 B.2.1,.v Q1 N,.v Q0 B.2.2.2])]⟩) (aC [(90,103)]) (bR u dX Y (aT Y Y (.VL sO (.VL sO sO)) rZ lJ) (RV.tmp Y) .nil Y)
theorem iM(A:Nat->Nat){VY WI a1 a2 r}(h:eC VY WI a1 a2=some r):
 VR Tryz.prog 215 [.ptr 9000 0,.v Q0 a1,.v aM a2] [(9000,.box 188 [.v Q0 VY,.v Q2 WI] (some (A 9000)))] (.v Q9 r.1) [(9000,.box 188 [.v Q0 r.2.1,.v Q2 r.2.2] (some (A 9000)))]:=by
 refine VR.of Tryz.func215 Y Tryz.ntmps215 Y ?_;intro S w R B;unfold eC at h;refine aJ (.k (cJ 101 Y sO Y) (.f [0,1,5] ?_));refine aF ?_;obtain⟨C,D,h⟩:=aB h;refine eD 13 mixed (by exact(.k (aD Y) (.k (aK Y) (.k (aA 1 Y wG Y lJ Y Y) (.k (aI Y Y Y rZ lJ) (.k (aD Y) (.k (aI Y Y Y uR lA) (.k (aO (Oh D) Tryz.call250 (.cons (.dir Y) (.cons (.dir Y) (.cons (.dir Y) .nil)))) (.k (aD Y) (.k (bU Y Y) (.k (bU Y Y) (.k (aN 103 Tk Y (.cons (Z.sl aM) (.cons (Z.sl gJ) (.cons (Z.int .i64) .nil))) Y) (XS.storeAll (.none Y) Y Y Y Y (.VL sO (.VL sO sO)) lJ (.k (bM Y) .nil)))))))))))))) (by exact(J.kp [0,7,8] [])) ?_;refine jW (.a 1 ?_);refine .k (iH Od Y) (.f [0,7,8,20] ?_);obtain⟨E,F,h⟩:=gT h;refine vT (fun z:Br=>⟨[(0,.ptr 9000 0),(8,.v Q9 C.2)],[(9000,.box 188 [.v Q0 VY,.v Q2 z] (some (A 9000)))]⟩) (fun x=>E x=some r) Y ?_ ?_ ?_
 ·intro z h;rw[F] at h;refine aL [0,6] ?_;cases h;exact aH (eU B Y (RV.tmp Y) (.cons Y .nil))
 ·intro u;replace h:=kG u h;refine gC (.a 1 ?_);refine .k (aX Y Y (.VL sO (.VL sO sO)) rZ lJ) (.f [0,8] ?_);exact cT h (aC [])
 ·intro u;replace h:=kH u h;refine aG ?_;exact cT h (aC [])
theorem sW(A:Nat->Nat){VY WI r}(h:gU VY WI=some r):
 VR Tryz.prog 206 [.ptr 9000 0] [(9000,.box 188 [.v Q0 VY,.v Q2 WI] (some (A 9000))),(9100,.box 74 [.ptr 9000 0] (some (A 9100)))] (.v Q9 r.1) [(9000,.box 188 [.v Q0 r.2.1,.v Q2 r.2.2] (some (A 9000))),(9100,.box 74 [.ptr 9000 0] (some (A 9100)))]:=by
 refine VR.of Tryz.func206 Y Tryz.ntmps206 Y ?_;intro S w R G;unfold gU at h;refine aL [0] ?_;refine aF ?_;obtain⟨E,M,h⟩:=aB h;refine eD 16 mixed (by exact(.k (aD Y) (.k (aK Y) (.k (aA 1 Y wG Y lJ Y Y) (.k (aI Y Y Y rZ lJ) (.k (aD Y) (.k (aK Y) (.k (aA 0 Y wG Y S3 Y Y) (.k (aI Y Y Y G3 S3) (.k (dF Y Y Y) (.k (aO (qF M) FC (.cons (.dir Y) (.cons (.dir Y) .nil))) (.k (aD Y) (.k (bU Y Y) (.k (bU Y Y) (.k (aN 102 Cg Y (.cons (Z.arr 8 (Z.int .u8)) .nil) Y) (XS.store (.none Y) Y Y Y Y Y Y Y lA (.k (bM Y) .nil))))))))))))))))) (by exact(J.kp [0,3,4] [])) ?_;refine dI [0,3,4,5] ?_;obtain⟨ad,N,O,af⟩:=cF h;refine jN (σs:=fun u:(Option Int)×Int×Int×Br=>⟨[(0,.ptr 9000 0),(3,.ptr 102 0),(4,.v Q9 u.1),(5,.v Q0 u.2.1)],[(9000,.box 188 [.v Q0 u.2.2.1,.v Q2 u.2.2.2] (some (A 9000))),(102,.box 30 [.v aM E.1]),(9100,.box 74 [.ptr 9000 0] (some (A 9100)))]⟩) (fun B:(Option Int)×Int×Br=>⟨[(0,.ptr 9000 0),(4,.v Q9 B.1)],[(9000,.box 188 [.v Q0 B.2.1,.v Q2 B.2.2] (some (A 9000))),(9100,.box 74 [.ptr 9000 0] (some (A 9100)))]⟩) N (aC []) ?_ ?_
 ·intro B H;have h:=O _ H;refine aL [0,2] ?_;cases h;exact aH (eU G Y (RV.tmp Y) (.cons Y (.cons Y .nil)))
 intro u I h;refine aF ?_;refine aF ?_;obtain⟨P,z,h⟩:=aB h;refine eF (σ':=⟨[(0,.ptr 9000 0),(3,.ptr 102 0),(4,.v Q9 u.1),(5,.v Q0 u.2.1),(28,.v Wr.bool P)],[(9000,.box 188 [.v Q0 u.2.2.1,.v Q2 u.2.2.2] (some (A 9000))),(102,.box 30 [.v aM E.1]),(9100,.box 74 [.ptr 9000 0] (some (A 9100)))]⟩) ?_ ?_
 ·refine cd z (fun F z=>?_) (fun F z=>?_)
  ·obtain⟨al,Q,z⟩:=aB z;cases z;refine ja 1 ?_;refine(J.k (iH Od Y) ?_);refine ja 3 ?_;exact(J.g F (aO (tC Q) OD (.cons (.dir Y) .nil)) jy)
  cases z;refine ja 1 ?_;exact(J.k (iH Od Y) jy)
 refine aU h Y (fun K h=>?_) (fun K h=>?_)
 ·refine aG ?_;refine aF ?_;refine bQ ?_;refine aJ (.k (aN 129 Cg Y (.cons (Z.arr 8 (Z.int .u8)) .nil) Y) (.k (aN 130 Cg Y (.cons (Z.arr 8 (Z.int .u8)) .nil) Y) (.f [0,3,5,6,7] ?_)));refine aF ?_;refine aF ?_;obtain⟨T,U,h⟩:=aB h;refine eD 18 mixed (by exact(.k (aD Y) (.k (aK Y) (.k (aA 1 Y wG Y lJ Y Y) (.k (aI Y Y Y rZ lJ) (.k (aD Y) (.k (aK Y) (.k (aA 0 Y wG Y S3 Y Y) (.k (aI Y Y Y G3 S3) (.k (dF Y Y Y) (.k (aD Y) (.k (dF Y Y Y) (.k (dF Y Y Y) (.k (aO (qF U) FC (.cons (.dir Y) (.cons (.dir Y) .nil))) (.k (aD Y) (.k (bU Y Y) (.k (bU Y Y) (XS.store (.none Y) Y Y Y Y Y Y Y lA (.k (bM Y) .nil))))))))))))))))))) (by exact(J.kp [0,3,4,5,6,7] [])) ?_;refine aJ (.a 1 ?_);refine .k (iH Od Y) (.f [0,3,4,5,6,7,48] ?_);obtain⟨V,X,h⟩:=gT h;refine vT (fun C:(Option Int)×aQ=>⟨[(0,.ptr 9000 0),(3,.ptr 102 0),(4,.v Q9 C.1),(5,.v Q0 u.2.1),(6,.ptr 129 0),(7,.ptr 130 0)],[(9000,.box 188 [.v Q0 u.2.2.1,.v Q2 u.2.2.2] (some (A 9000))),(102,.box 30 [.v aM E.1]),(129,.box 30 [.v aM T.1]),(130,.box 30 [.v aM C.2]),(9100,.box 74 [.ptr 9000 0] (some (A 9100)))]⟩) (fun x=>V x=some I) Y ?_ ?_ ?_
  ·intro C h;rw[X] at h;refine aJ (.a 1 ?_);refine .k (iH Od Y) (.f [0,3,4,5,6,7,66] ?_);refine aU h Y (fun L h=>?_) (fun L h=>?_)
   ·obtain⟨am,aa,h⟩:=aB h;obtain⟨an,ab,h⟩:=aB h;refine eD 4 mixed (by exact(.k (aD Y) (.k (aI Y Y Y uR lA) (.k (aO (tC aa) OD (.cons (.dir Y) .nil)) (.k (aI Y Y Y uR lA) .nil))))) (by exact(J.t (eO [9000] (Bv [(9000,9000)]) (eT _) (fun A=>iM A ab) KF (fun A=>(.box Y .nil Y))) (jz [0,3,4,5]))) ?_;refine bV ?_;refine eV [0,3,4,5] ?_;cases h;exact cR (aC [])
   refine aG ?_;refine bV ?_;refine eV [0,3,4,5] ?_;cases h;exact cR (aC [])
  ·intro D;replace h:=kG D h;obtain⟨ao,ac,h⟩:=aB h;refine eD 18 mixed (by exact(.k (aD Y) (.k (aK Y) (.k (aA 1 Y wG Y lJ Y Y) (.k (aI Y Y Y rZ lJ) (.k (aD Y) (.k (aK Y) (.k (aA 0 Y wG Y S3 Y Y) (.k (aI Y Y Y G3 S3) (.k (dF Y Y Y) (.k (aD Y) (.k (dF Y Y Y) (.k (dF Y Y Y) (.k (aO (qF ac) FC (.cons (.dir Y) (.cons (.dir Y) .nil))) (.k (aD Y) (.k (bU Y Y) (.k (bU Y Y) (XS.store (.none Y) Y Y Y Y Y Y Y lA (.k (bM Y) .nil))))))))))))))))))) (by exact(J.kp [0,3,4,5,6,7] [])) ?_;exact cT h (aC [])
  ·intro D;replace h:=kH D h;refine aG ?_;exact cT h (aC [])
 cases h;exact dE (dM (aC []))
theorem Oi{a0 r}(h:rS a0=some r):
 WE Tryz.prog 248 [.v Q2 a0] (.WL [.v Q2 r.1,.v Q9 r.2]) []:=by
 refine WE.of Tryz.func248 Y Tryz.ntmps248 Y ?_;intro S w z;unfold rS at h;refine aJ (.k (cJ 101 Y (.VL sO (.VL sO sO)) Y) (.k (aN 102 Tk Y (.cons (Z.sl aM) (.cons (Z.sl gJ) (.cons (Z.int .i64) .nil))) Y) (.f [1,2] ?_)));obtain⟨K,L,h⟩:=aB h;refine jW (.k (aX Y Y (.VL sO (.VL sO sO)) rZ lJ) (.k (aO (uL L) OB (.cons (.dir Y) .nil)) (.f [1,2,4] ?_)));refine aL [1,2,4,11] ?_;refine aU h Y (fun G h=>?_) (fun G h=>?_)
 ·refine aJ (.k (bP rG (.cons (Z.sl aM) (.cons (Z.sl gJ) (.cons (Z.int .i64) .nil))) .nil) (.f [2,3] ?_));refine aH ?_;obtain rfl:=pT h;exact bZ (σ':=⟨[(2,.ptr 90 0),(3,.v Q9 K)],[(90,.box 186 [.v Q5 ([]:iO),.v Q1 ([]:Q6),.v Q0 (0:Int)])]⟩) (aC [(90,102)]) (bR z dX Y (aT Y Y (.VL sO (.VL sO sO)) rZ lJ) (RV.tmp Y) .nil Y)
 refine aG ?_;obtain⟨R,M,h⟩:=aB h;refine aJ (.k (aX Y Y (.VL sO (.VL sO sO)) rZ lJ) (.k (fM 104000 (Dq M) Tryz.call264 (.cons (.dir Y) .nil) Y) (.f [1,2] ?_)));obtain⟨u,N,h⟩:=aB h;refine jW (.t (eO [101,104000,104001] (Bv [(9000,101),(8950,104000),(8951,104001),(8910,105),(8911,106)]) (eT _) (fun A=>uV A N) Tryz.call265 (fun A=>(.box Y (.arr (.arr .nil Y) Y) Y))) (.f [1,2,5] ?_));refine aL [1,2,5,18] ?_;refine aU h Y (fun H h=>?_) (fun H h=>?_)
 ·refine aJ (.k (bP rG (.cons (Z.sl aM) (.cons (Z.sl gJ) (.cons (Z.int .i64) .nil))) .nil) (.f [2,3] ?_));refine aH ?_;obtain rfl:=pT h;exact bZ (σ':=⟨[(2,.ptr 90 0),(3,.v Q9 u.1)],[(90,.box 186 [.v Q5 ([]:iO),.v Q1 ([]:Q6),.v Q0 (0:Int)])]⟩) (aC [(90,102)]) (bR z dX Y (aT Y Y (.VL sO (.VL sO sO)) rZ lJ) (RV.tmp Y) .nil Y)
 refine aG ?_;refine dI [1,2,22,23,24] ?_;obtain⟨T,O,P,U⟩:=cF h;refine jN (σs:=fun C:Int×iO=>⟨[(1,.ptr 101 0),(2,.ptr 102 0),(22,.ref 106),(23,.v Q0 (u.2.2.1.length:Int)),(24,.v Q0 C.1)],[(101,.box 186 [.ref 105,.ref 106,.v Q0 u.2.2.2]),(102,.box 186 [.v Q5 ([]:iO),.v Q1 ([]:Q6),.v Q0 (0:Int)]),(106,.arr 214 gJ u.2.2.1),(105,.arr 30 aM C.2)]⟩) (fun B:iO=>⟨[(1,.ptr 101 0),(2,.ptr 102 0)],[(101,.box 186 [.ref 105,.ref 106,.v Q0 u.2.2.2]),(102,.box 186 [.v Q5 ([]:iO),.v Q1 ([]:Q6),.v Q0 (0:Int)]),(105,.arr 30 aM B),(106,.arr 214 gJ u.2.2.1)]⟩) O (aC []) ?_ ?_
 ·intro B F;have h:=P _ F;refine aJ (.a 1 ?_);refine .t (uD 111 214 gJ Y Y Y Y Ij Y) (.f [1,2] ?_);refine aJ (.k (iB Y Y Y rZ lJ) (.f [2,3] ?_));refine aH ?_;obtain rfl:=pT h;exact bZ (σ':=⟨[(2,.ptr 90 0),(3,.v Q9 (none:Option Int))],[(90,.box 186 [.v Q5 B,.v Q1 ([]:Q6),.v Q0 u.2.2.2])]⟩) (aC [(90,102)]) (bR z dX Y (aT Y Y (.VL sO (.VL sO sO)) rZ lJ) (RV.tmp Y) .nil Y)
 intro C Q h;refine aL [1,2,22,23,24,25] ?_;refine aF ?_;refine aU h Y (fun I h=>?_) (fun I h=>?_)
 ·refine aG ?_;refine aF ?_;refine bQ ?_;obtain⟨V,D,h⟩:=aB h;refine aJ (.k (jA D Y Y Y yC jX) (.k (jV (dQ D).2.2 Y Y .here Zn jX) (.k (aN 110 Fb Y (.cons (Z.int .i64) (.cons (Z.arr 8 (Z.int .u8)) .nil)) Y) (.t (bS Y Y Y Y (.VL sO sO) jX) (.f [1,2,7,22,23,24] ?_)))));obtain⟨X,E,h⟩:=aB h;refine gC (.a 6 ?_);refine .k (jA E Y Y Y Jm lA) (.t (qW (dQ E).2.2 Y Y Y lA) (.f [1,2,22,23,24] ?_));refine bV ?_;refine eV [1,2,22,23,24] ?_;cases h;exact cR (aC [])
 cases h;exact dE (dM (aC []))
theorem kE(A:Nat->Nat){VY WI r}(h:eW VY WI=some r):
 VR Tryz.prog 207 [.ptr 9000 0] [(9000,.box 188 [.v Q0 VY,.v Q2 WI] (some (A 9000))),(9100,.box 74 [.ptr 9000 0] (some (A 9100)))] (.v Q9 r.1) [(9000,.box 188 [.v Q0 r.2.1,.v Q2 r.2.2] (some (A 9000))),(9100,.box 74 [.ptr 9000 0] (some (A 9100)))]:=by
 refine VR.of Tryz.func207 Y Tryz.ntmps207 Y ?_;intro S w R B;unfold eW at h;refine aL [0] ?_;obtain⟨C,D,h⟩:=aB h;refine aJ (.a 4 ?_);refine .k (aO (Oi D) Tryz.call248 (.cons (.dir Y) .nil)) ?_;refine .a 3 ?_;refine .k (aN 102 Tk Y (.cons (Z.sl aM) (.cons (Z.sl gJ) (.cons (Z.int .i64) .nil))) Y) (.t (bS Y Y Y Y (.VL sO (.VL sO sO)) lJ) (.f [0,3,4] ?_));refine jW (.a 1 ?_);refine .k (iH Od Y) (.f [0,3,4,14] ?_);obtain⟨E,F,h⟩:=gT h;refine vT (fun z:Br=>⟨[(0,.ptr 9000 0),(4,.v Q9 C.2)],[(9000,.box 188 [.v Q0 VY,.v Q2 z] (some (A 9000))),(9100,.box 74 [.ptr 9000 0] (some (A 9100)))]⟩) (fun x=>E x=some r) Y ?_ ?_ ?_
 ·intro z h;rw[F] at h;refine aL [0,2] ?_;cases h;exact aH (eU B Y (RV.tmp Y) (.cons Y (.cons Y .nil)))
 ·intro u;replace h:=kG u h;refine gC (.a 1 ?_);refine .k (aX Y Y (.VL sO (.VL sO sO)) rZ lJ) (.f [0,4] ?_);exact cT h (aC [])
 ·intro u;replace h:=kH u h;refine aG ?_;exact cT h (aC [])
theorem yD(A:Nat->Nat){a1 aa ek r}(h:iU a1 aa ek=some r):
 VR Tryz.prog 249 [.ptr 9100 0,.YA (Wr.int .u8) a1] [(9000,.box 188 [.v Q0 aa,.v Q2 ek] (some (A 9000))),(9100,.box 74 [.ptr 9000 0] (some (A 9100)))] (.v Q9 r.1) [(9000,.box 188 [.v Q0 r.2.1,.v Q2 r.2.2] (some (A 9000))),(9100,.box 74 [.ptr 9000 0] (some (A 9100)))]:=by
 refine VR.of Tryz.func249 Y Tryz.ntmps249 Y ?_;intro S w R u;unfold iU at h;refine aL [0,1] ?_;refine aF ?_;obtain⟨B,z,h⟩:=aB h;refine eD 8 mixed (by exact(.k (aI Y Y Y Ob Ii) (.k (aI Y Y Y Ob Ii) (.k (aK Y) (.k (aA 0 Y wG Y S3 Y Y) (.k (aI Y Y Y G3 S3) (.k (dF Y Y Y) (.k (cE Y G5 S5) (.k (Ml (e:=(Wr.int .u8)) (zv:=(0:Int)) An vY I5 Y Y (Z.arr 8 (Z.int .u8)) Y Y (.cons (.dir Y) .nil)) .nil))))))))) (by exact(J.t (eO [9000] (Bv [(9000,9000)]) (eT _) (fun A=>iM A z) KF (fun A=>(.box Y .nil Y))) (jz [0,2]))) ?_;cases h;exact aH (eU u Y (RV.tmp Y) (.cons Y (.cons Y .nil)))
theorem zF(A:Nat->Nat){q n0 n1 r}(h:lH q n0 n1=some r):
 VV Tryz.prog [(9000,A 9000),(9100,A 9100)] (iG (A 9000) (A 9100)) q [(9000,.box 188 [.v Q0 n0,.v Q2 n1] (some (A 9000))),(9100,.box 74 [.ptr 9000 0] (some (A 9100)))] (.v Q9 r.1) [(9000,.box 188 [.v Q0 r.2.1,.v Q2 r.2.2] (some (A 9000))),(9100,.box 74 [.ptr 9000 0] (some (A 9100)))]:=by
 unfold lH at h;rcases q with z | z
 ·exact(VV.l (VV.L8 .nil (.pr (.o5 (i:=9100) (by simp)) .pt) Tryz.call249 (yD A h)))
 ·exact(VV.r (VV.L8 (.o5 (i:=9000) (by simp)) .nil OC (kE A h)))
theorem tX(A:Nat->Nat){a0 XN l4 r}(h:gK a0 XN l4=some r):
 VR Tryz.prog 205 [.v (Wr.sl (iG (A 9000) (A 9100))) a0] [(9000,.box 188 [.v Q0 XN,.v Q2 l4] (some (A 9000))),(9100,.box 74 [.ptr 9000 0] (some (A 9100)))] (.v Q9 r.1) [(9000,.box 188 [.v Q0 r.2.1,.v Q2 r.2.2] (some (A 9000))),(9100,.box 74 [.ptr 9000 0] (some (A 9100)))]:=by
 refine VR.of Tryz.func205 Y Tryz.ntmps205 Y ?_;intro S w R B;unfold gK at h;refine aL [0] ?_;refine dI [6,7,8] ?_;obtain⟨P,I,L,M⟩:=cF h;refine jN (σs:=fun u:Int×Int×Br=>⟨[(6,.v (Wr.sl (iG (A 9000) (A 9100))) a0),(7,.v Q0 (a0.length:Int)),(8,.v Q0 u.1)],[(9000,.box 188 [.v Q0 u.2.1,.v Q2 u.2.2] (some (A 9000))),(9100,.box 74 [.ptr 9000 0] (some (A 9100)))]⟩) (fun z:Int×Br=>⟨[],[(9000,.box 188 [.v Q0 z.1,.v Q2 z.2] (some (A 9000))),(9100,.box 74 [.ptr 9000 0] (some (A 9100)))]⟩) I (aC []) ?_ ?_
 ·intro z C;have h:=L _ C;refine aL [2] ?_;cases h;exact aH (eU B Y (RV.tmp Y) (.cons Y (.cons Y .nil)))
 intro u O h;refine aL [6,7,8,9] ?_;refine aF ?_;refine aU h Y (fun D h=>?_) (fun D h=>?_)
 ·refine aG ?_;refine aF ?_;refine bQ ?_;obtain⟨Q,T,h⟩:=aB h;refine aL [4,6,7,8] ?_;obtain⟨U,N,h⟩:=aB h;refine aJ (.a 1 ?_);refine .t (Mq (H:=[9000,9100]) (K:=[9000,9100]) [(9000,A 9000),(9100,A 9100)] (Bv [(9000,9000),(9100,9100)]) (eT _) Y ⟨⟨_,_,Y⟩,⟨_,_,Y⟩,trivial⟩ (VV.at2 (e:=iG) (A 9000) (A 9100) (fun E=>zF E N)) (fun _=> .box Y (.box Y .nil)) (fun _=> .box Y (.box Y .nil Y) Y) (fun _=>rfl) Y Y (fun _=>rfl) Y Y) (.f [5,6,7,8] ?_);refine aL [5,6,7,8,15] ?_;refine aU h Y (fun F h=>?_) (fun F h=>?_)
  ·refine aL [2] ?_;refine aH ?_;refine eI ?_;cases h;refine gB fun G=>?_;obtain rfl:=M _ G;exact eU B Y (RV.tmp Y) (.cons Y (.cons Y .nil))
  refine aG ?_;refine bV ?_;refine eV [6,7,8] ?_;cases h;exact cR (aC [])
 cases h;exact dE (dM (aC []))
theorem oQ(A:Nat->Nat){VY WI a1 r}(h:fX VY WI a1=some r):
 VR Tryz.prog 209 [.ptr 9000 0,.v (Wr.int .u8) a1] [(9000,.box 188 [.v Q0 VY,.v Q2 WI] (some (A 9000)))] (.v Q9 r.1) [(9000,.box 188 [.v Q0 r.2.1,.v Q2 r.2.2] (some (A 9000)))]:=by
 refine VR.of Tryz.func209 Y Tryz.ntmps209 Y ?_;intro S w R z;unfold fX at h;refine aJ (.k (Iy 101 Y Y) (.k (cJ 102 Y sO Y) (.f [0,2,3] ?_)));refine AY (i:=101) Y fun u=>?_;refine wK (σ':=⟨[(0,.ptr 9000 0),(2,.ptr 101 0),(3,.ptr 102 0)],[(9000,.box 188 [.v Q0 VY,.v Q2 WI] (some (A 9000))),(101,.box 74 [.ptr 9000 0] (some (u))),(102,.box 5 [.v (Wr.int .u8) a1])]⟩) (aC []) ?_;obtain⟨F,E,h⟩:=aB h;refine aJ (.sub (σ':=⟨[(0,.ptr 9000 0),(2,.ptr 101 0),(3,.YA (Wr.int .u8) a1)],[(9000,.box 188 [.v Q0 VY,.v Q2 WI] (some (A 9000))),(101,.box 74 [.ptr 9000 0] (some (u)))]⟩) (Sw.Sub.mk id (.cons Y (.of_eq Y) (.cons Y (.of_eq Y) (.cons Y (.s8 Y Y (.cons (.of_eq Y) .nil) sO) .nil))) (.box Y (.cons (.of_eq Y) (.cons (.of_eq Y) .nil)) (.box Y (.cons (.of_eq Y) .nil) .nil)) Y) (.k (nX .nil (.cons (.o5 Y Y) (.YA Y)) (.l .self)) (.k (aI Y Y Y Ob Ii) (.k (nX (.o5 Y Y) .nil (.r .self)) (.k (eJ (e:=(iG (A 9000) (u))) Xf PA TG Y Y Y Y (.cons (.dir Y) (.cons (.dir Y) .nil))) (.t (Iz (H:=[9000,101]) (K:=[9000,101]) [(9000,A 9000),(9100,u)] (Bv [(9000,9000),(9100,101)]) (eT _) ⟨⟨_,_,Y⟩,⟨_,_,Y⟩,trivial⟩ (VR.at2 (ss:=fun B C=>[.v (Wr.sl (iG B C)) ([(.inl ((),((),a1)):dK),(.inr ((),()):dK)]:(List dK))]) (A 9000) u (fun D=>tX D E)) Tryz.call205 (.cons (.dir Y) .nil) (fun _=> .box Y (.box Y .nil)) (fun _=> .box Y (.box Y .nil Y) Y) (fun _=>rfl) Y Y (fun _=>rfl) Y Y) (.f [0,4] ?_)))))));cases h;exact aH (eU z Y (RV.tmp Y) (.cons Y .nil))
theorem wW(A:Nat->Nat){XN l4 r}(h:mJ XN l4=some r):
 VR Tryz.prog 208 [.ptr 9100 0] [(9000,.box 188 [.v Q0 XN,.v Q2 l4] (some (A 9000))),(9100,.box 74 [.ptr 9000 0] (some (A 9100)))] (.v Q9 r.1) [(9000,.box 188 [.v Q0 r.2.1,.v Q2 r.2.2] (some (A 9000))),(9100,.box 74 [.ptr 9000 0] (some (A 9100)))]:=by
 refine VR.of Tryz.func208 Y Tryz.ntmps208 Y ?_;intro S w R u;unfold mJ at h;refine aL [0] ?_;obtain⟨B,z,h⟩:=aB h;refine aJ (.a 1 ?_);refine .t (eO [9000] (Bv [(9000,9000)]) (eT _) (fun A=>oQ A z) Tryz.call209 (fun A=>(.box Y .nil Y))) (.f [0,1] ?_);cases h;exact aH (eU u Y (RV.tmp Y) (.cons Y (.cons Y .nil)))
theorem xO(A:Nat->Nat){q n0 n1 r}(h:nD q n0 n1=some r):
 VV Tryz.prog [(9000,A 9000),(9100,A 9100)] (gG (A 9000) (A 9100)) q [(9000,.box 188 [.v Q0 n0,.v Q2 n1] (some (A 9000))),(9100,.box 74 [.ptr 9000 0] (some (A 9100)))] (.v Q9 r.1) [(9000,.box 188 [.v Q0 r.2.1,.v Q2 r.2.2] (some (A 9000))),(9100,.box 74 [.ptr 9000 0] (some (A 9100)))]:=by
 unfold nD at h;rcases q with z | z | z
 ·exact(VV.l (VV.L8 (.o5 (i:=9000) (by simp)) .nil Tryz.call206 (sW A h)))
 ·exact(VV.r (VV.l (VV.L8 (.o5 (i:=9000) (by simp)) .nil OC (kE A h))))
 ·exact(VV.r (VV.r (VV.L8 .nil (.o5 (i:=9100) (by simp)) Tryz.call208 (wW A h))))
theorem sX(A:Nat->Nat){a0 XN l4 r}(h:iY a0 XN l4=some r):
 VR Tryz.prog 205 [.v (Wr.sl (gG (A 9000) (A 9100))) a0] [(9000,.box 188 [.v Q0 XN,.v Q2 l4] (some (A 9000))),(9100,.box 74 [.ptr 9000 0] (some (A 9100)))] (.v Q9 r.1) [(9000,.box 188 [.v Q0 r.2.1,.v Q2 r.2.2] (some (A 9000))),(9100,.box 74 [.ptr 9000 0] (some (A 9100)))]:=by
 refine VR.of Tryz.func205 Y Tryz.ntmps205 Y ?_;intro S w R B;unfold iY at h;refine aL [0] ?_;refine dI [6,7,8] ?_;obtain⟨P,I,L,M⟩:=cF h;refine jN (σs:=fun u:Int×Int×Br=>⟨[(6,.v (Wr.sl (gG (A 9000) (A 9100))) a0),(7,.v Q0 (a0.length:Int)),(8,.v Q0 u.1)],[(9000,.box 188 [.v Q0 u.2.1,.v Q2 u.2.2] (some (A 9000))),(9100,.box 74 [.ptr 9000 0] (some (A 9100)))]⟩) (fun z:Int×Br=>⟨[],[(9000,.box 188 [.v Q0 z.1,.v Q2 z.2] (some (A 9000))),(9100,.box 74 [.ptr 9000 0] (some (A 9100)))]⟩) I (aC []) ?_ ?_
 ·intro z C;have h:=L _ C;refine aL [2] ?_;cases h;exact aH (eU B Y (RV.tmp Y) (.cons Y (.cons Y .nil)))
 intro u O h;refine aL [6,7,8,9] ?_;refine aF ?_;refine aU h Y (fun D h=>?_) (fun D h=>?_)
 ·refine aG ?_;refine aF ?_;refine bQ ?_;obtain⟨Q,T,h⟩:=aB h;refine aL [4,6,7,8] ?_;obtain⟨U,N,h⟩:=aB h;refine aJ (.a 1 ?_);refine .t (Mq (H:=[9000,9100]) (K:=[9000,9100]) [(9000,A 9000),(9100,A 9100)] (Bv [(9000,9000),(9100,9100)]) (eT _) Y ⟨⟨_,_,Y⟩,⟨_,_,Y⟩,trivial⟩ (VV.at2 (e:=gG) (A 9000) (A 9100) (fun E=>xO E N)) (fun _=> .box Y (.box Y .nil)) (fun _=> .box Y (.box Y .nil Y) Y) (fun _=>rfl) Y Y (fun _=>rfl) Y Y) (.f [5,6,7,8] ?_);refine aL [5,6,7,8,15] ?_;refine aU h Y (fun F h=>?_) (fun F h=>?_)
  ·refine aL [2] ?_;refine aH ?_;refine eI ?_;cases h;refine gB fun G=>?_;obtain rfl:=M _ G;exact eU B Y (RV.tmp Y) (.cons Y (.cons Y .nil))
  refine aG ?_;refine bV ?_;refine eV [6,7,8] ?_;cases h;exact cR (aC [])
 cases h;exact dE (dM (aC []))
theorem yE(A:Nat->Nat){VY WI r}(h:iV VY WI=some r):
 VR Tryz.prog 161 [.ptr 9000 0] [(9000,.box 188 [.v Q0 VY,.v Q2 WI] (some (A 9000)))] (.v Q9 r.1) [(9000,.box 188 [.v Q0 r.2.1,.v Q2 r.2.2] (some (A 9000)))]:=by
 refine VR.of Tryz.func161 Y Tryz.ntmps161 Y ?_;intro S w R C;unfold iV at h;refine aJ (.k (Iy 101 Y Y) (.f [0,1] ?_));refine AY (i:=101) Y fun z=>?_;refine wK (σ':=⟨[(0,.ptr 9000 0),(1,.ptr 101 0)],[(9000,.box 188 [.v Q0 VY,.v Q2 WI] (some (A 9000))),(101,.box 74 [.ptr 9000 0] (some (z)))]⟩) (aC []) ?_;refine aF ?_;obtain⟨L,M,h⟩:=aB h;refine eD 16 mixed (by exact(.k (aI Y Y Y Ob Ii) (.k (aK Y) (.k (aA 1 Y wG Y lJ Y Y) (.k (aI Y Y Y rZ lJ) (.k (aI Y Y Y Ob Ii) (.k (aK Y) (.k (aA 0 Y wG Y S3 Y Y) (.k (aI Y Y Y G3 S3) (.k (dF Y Y Y) (.k (aO (qF M) FC (.cons (.dir Y) (.cons (.dir Y) .nil))) (.k (aD Y) (.k (bU Y Y) (.k (bU Y Y) (.k (aN 103 Cg Y (.cons (Z.arr 8 (Z.int .u8)) .nil) Y) (XS.store (.none Y) Y Y Y Y Y Y Y lA (.k (bM Y) .nil))))))))))))))))) (by exact(J.kp [0,1,3,4] [])) ?_;refine aF ?_;refine aF ?_;obtain⟨N,u,h⟩:=aB h;refine eF (σ':=⟨[(0,.ptr 9000 0),(1,.ptr 101 0),(4,.v Q9 L.2),(24,.v Wr.bool N)],[(9000,.box 188 [.v Q0 VY,.v Q2 WI] (some (A 9000))),(101,.box 74 [.ptr 9000 0] (some (z)))]⟩) ?_ ?_
 ·refine cd u (fun B u=>?_) (fun B u=>?_)
  ·cases u;exact jy
  obtain⟨P,D,u⟩:=aB u;cases u;refine ja 3 ?_;exact(J.g B (vA D Y Y Y Y vY S5) (J.g B (vB (dQ D).2.2 Y Y Y G5 S5) jy))
 refine aU h Y (fun E h=>?_) (fun E h=>?_)
 ·refine aL [0,2] ?_;cases h;exact aH (eU C Y (RV.tmp Y) (.cons Y .nil))
 refine aG ?_;obtain⟨Q,O,h⟩:=aB h;refine aJ (.a 1 ?_);refine .k (nX (.o5 Y Y) .nil (.l .self)) (.k (aI Y Y Y Ob Ii) (.k (nX (.o5 Y Y) .nil (.r (.l .self))) (.k (nX .nil (.o5 Y Y) (.r (.r .self))) (.k (eJ (e:=(gG (A 9000) (z))) Xf PA TG Y Y Y Y (.cons (.dir Y) (.cons (.dir Y) (.cons (.dir Y) .nil)))) (.t (Iz (H:=[9000,101]) (K:=[9000,101]) [(9000,A 9000),(9100,z)] (Bv [(9000,9000),(9100,101)]) (eT _) ⟨⟨_,_,Y⟩,⟨_,_,Y⟩,trivial⟩ (VR.at2 (ss:=fun F G=>[.v (Wr.sl (gG F G)) ([(.inl ((),()):dJ),(.inr (.inl ((),())):dJ),(.inr (.inr ((),())):dJ)]:(List dJ))]) (A 9000) z (fun I=>sX I O)) Tryz.call205 (.cons (.dir Y) .nil) (fun _=> .box Y (.box Y .nil)) (fun _=> .box Y (.box Y .nil Y) Y) (fun _=>rfl) Y Y (fun _=>rfl) Y Y) (.f [0,2] ?_))))));cases h;exact aH (eU C Y (RV.tmp Y) (.cons Y .nil))
def xP(r:Tt×(Option Int)):Slot:=match r.1 with | none=> .WL [.v (Wr.B7 (Wr.pr Q0 Q2)) (none:Tt),.v Q9 r.2] | some z=> .WL [.ptr 0 0,.v Q9 r.2]
def xQ(r:Tt×(Option Int)):List (Nat×VS):=match r.1 with | none=>[] | some z=>[(0,.box 188 [.v Q0 z.1,.v Q2 z.2])]
theorem Dr{a0 a1 r}(h:mT a0 a1=some r):
 WE Tryz.prog 101 [.v Q2 a0,.v Q0 a1] (xP r) (xQ r):=by
 refine WE.of Tryz.func101 Y Tryz.ntmps101 Y ?_;intro S w z;unfold mT at h;refine aJ (.k (cJ 101 Y (.VL sO (.VL sO sO)) Y) (.k (kA (Wr.pr Q0 Q2)) (.f [1,2] ?_)));obtain⟨M,G,h⟩:=aB h;refine aJ (.a 1 ?_);refine .k (aO (Dp G) Tryz.call158 (.cons (.dir Y) .nil)) (.f [1,2,6,7] ?_);refine dI [1,2,6,7,17] ?_;refine aU h Y (fun B h=>?_) (fun B h=>?_)
 ·refine aJ (.a 1 ?_);refine .k (kA (Wr.pr Q0 Q2)) (.f [4,5] ?_);cases h;exact aH (bR z dX Y (RV.tmp Y) (RV.tmp Y) .nil Y)
 refine aG ?_;obtain⟨N,H,h⟩:=aB h;refine jW (.k (aX Y Y (.VL sO (.VL sO sO)) rZ lJ) (.k (aO (uL H) OB (.cons (.dir Y) .nil)) (.f [1,2,6,8] ?_)));refine aF ?_;obtain⟨I,u,h⟩:=aB h;refine eF (σ':=⟨[(1,.v Q0 a1),(2,.ptr 101 0),(35,.v Wr.bool I)],[(101,.box 186 [.v Q5 a0.1,.v Q1 a0.2.1,.v Q0 a0.2.2])]⟩) ?_ ?_
 ·refine cd u (fun C u=>?_) (fun C u=>?_)
  ·cases u;exact jy
  refine cd u (fun D u=>?_) (fun D u=>?_)
  ·cases u;exact jy
  cases u;exact jy
 refine aU h Y (fun E h=>?_) (fun E h=>?_)
 ·refine aJ (.a 1 ?_);refine .k (kA (Wr.pr Q0 Q2)) (.f [4,5] ?_);cases h;exact aH (bR z dX Y (RV.tmp Y) (RV.tmp Y) .nil Y)
 refine aG ?_;refine aF ?_;obtain⟨O,K,h⟩:=aB h;refine eD 10 mixed (by exact(.k (aD Y) (.k (aA 0 Y Kz Y yA Y Y) (.k (aI Y Y Y Tu yA) (.k (Qc (fM 105000 (cO K) Zm (.cons (.dir Y) .nil) Y) (fun _=>(Sw.Sub.mk id (.cons Y (.I4 Y Y) .nil) .nil Y)) Y) (.k (aA 2 Y Kz Y S3 Y Y) (.k (aI Y Y Y G3 S3) (.k (bP rG (.cons (Z.sl aM) (.cons (Z.sl gJ) (.cons (Z.int .i64) .nil))) (.cons Y (.dir Y) Y Y Y Y (.cons Y (.dir Y) Y Y Y Y .nil))) (.k (bP KL (.cons (Z.int .i64) (.cons (Z.pr (Z.sl aM) (Z.pr (Z.sl gJ) (Z.int .i64))) .nil)) (.cons Y (.dir Y) Y Y Y Y (.cons Y (.agg Y (.same (.same (.same .nil))) (.VL sO (.VL sO sO)) Y) Y Y Y Y .nil))) (.k (zO 106 Y Y) (.k (bM Y) .nil))))))))))) (by exact(J.kp [9] [])) ?_;obtain⟨P,L,h⟩:=aB h;refine jW (.a 1 ?_);refine .t (eO [106] (Bv [(9000,106)]) (eT _) (fun A=>yE A L) Tryz.call161 (fun A=>(.box Y .nil Y))) (.f [9,10] ?_);refine aL [9,10,49] ?_;refine aU h Y (fun F h=>?_) (fun F h=>?_)
 ·refine aJ (.a 1 ?_);refine .k (kA (Wr.pr Q0 Q2)) (.f [4,5] ?_);cases h;exact aH (bR z dX Y (RV.tmp Y) (RV.tmp Y) .nil Y)
 refine aG ?_;refine aL [4,5] ?_;cases h;exact aH (wN z dX Y (aC [(0,106)]))
theorem Ad{a0:Br}{a1:Int}{r:Tt×(Option Int)}(hz:r.1=none)(h:mT a0 a1=some r):WE Tryz.prog 101 [.v Q2 a0,.v Q0 a1] (.WL [.v (Wr.B7 (Wr.pr Q0 Q2)) (none:Tt),.v Q9 r.2]) []:=by
 have:=Dr h;unfold xP xQ at this;rw[hz] at this;exact this
theorem Ae{a0:Br}{a1:Int}{r:Tt×(Option Int)}{z:(Int×Br)}(hz:r.1=some z)(h:mT a0 a1=some r):WE Tryz.prog 101 [.v Q2 a0,.v Q0 a1] (.WL [.ptr 0 0,.v Q9 r.2]) [(0,.box 188 [.v Q0 z.1,.v Q2 z.2])]:=by
 have:=Dr h;unfold xP xQ at this;rw[hz] at this;exact this
def vE(r:Tt×(Option Int)):Slot:=match r.1 with | none=> .WL [.v (Wr.B7 (Wr.pr Q0 Q2)) (none:Tt),.v Q9 r.2] | some z=> .WL [.ptr 0 0,.v Q9 r.2]
def vF(r:Tt×(Option Int)):List (Nat×VS):=match r.1 with | none=>[] | some z=>[(0,.box 188 [.v Q0 z.1,.v Q2 z.2])]
theorem Af{a0 r}(h:jC a0=some r):
 WE Tryz.prog 69 [.v Q0 a0] (vE r) (vF r):=by
 refine WE.of Tryz.func69 Y Tryz.ntmps69 Y ?_;intro S w u;unfold jC at h;refine aJ (.k (kA (Wr.pr Q0 Q2)) (.f [0] ?_));obtain⟨D,B,h⟩:=aB h;refine aJ (.a 1 ?_);refine .k (aO (Jo B) Tryz.call100 (.cons (.dir Y) .nil)) ?_;refine .a 3 ?_;refine .k (aN 102 Tk Y (.cons (Z.sl aM) (.cons (Z.sl gJ) (.cons (Z.int .i64) .nil))) Y) (.t (bS Y Y Y Y (.VL sO (.VL sO sO)) lJ) (.f [0,4,5] ?_));refine dI [0,4,5,12] ?_;refine aU h Y (fun A h=>?_) (fun A h=>?_)
 ·refine aJ (.a 1 ?_);refine .k (kA (Wr.pr Q0 Q2)) (.f [2,3] ?_);cases h;exact aH (bR u dX Y (RV.tmp Y) (RV.tmp Y) .nil Y)
 refine aG ?_;refine aF ?_;obtain⟨C,z,h⟩:=aB h;rcases sb:C.1 with _ | E
 ·replace h:=vO sb h;refine gC (.k (aX Y Y (.VL sO (.VL sO sO)) rZ lJ) ?_);refine .a 1 ?_;refine .k (aO (Ad sb z) NW (.cons (.dir Y) (.cons (.dir Y) .nil))) (.f [2,3] ?_);cases h;exact aH (bR u dX Y (RV.tmp Y) (RV.tmp Y) .nil Y)
 ·replace h:=vP sb h;refine gC (.k (aX Y Y (.VL sO (.VL sO sO)) rZ lJ) ?_);refine .a 1 ?_;refine .k (fM 104000 (Ae sb z) NW (.cons (.dir Y) (.cons (.dir Y) .nil)) Y) (.f [2,3] ?_);cases h;exact aH (wN u dX Y (aC [(0,104000)]))
theorem tI{a0:Int}{r:Tt×(Option Int)}(hz:r.1=none)(h:jC a0=some r):WE Tryz.prog 69 [.v Q0 a0] (.WL [.v (Wr.B7 (Wr.pr Q0 Q2)) (none:Tt),.v Q9 r.2]) []:=by
 have:=Af h;unfold vE vF at this;rw[hz] at this;exact this
theorem tJ{a0:Int}{r:Tt×(Option Int)}{z:(Int×Br)}(hz:r.1=some z)(h:jC a0=some r):WE Tryz.prog 69 [.v Q0 a0] (.WL [.ptr 0 0,.v Q9 r.2]) [(0,.box 188 [.v Q0 z.1,.v Q2 z.2])]:=by
 have:=Af h;unfold vE vF at this;rw[hz] at this;exact this
theorem oR{a0 r}(h:fY a0=some r):
 WE Tryz.prog 162 [.YA (Wr.pr Q0 Q2) a0] (.WL [.v Q0 r.1,.v Q0 r.2.1,.v Q9 r.2.2]) []:=by
 refine WE.of Tryz.func162 Y Tryz.ntmps162 Y ?_;intro S w z;unfold fY at h;refine aL [0] ?_;refine aF ?_;obtain⟨u,C,h⟩:=aB h;refine eD 15 mixed (by exact(.k (aD Y) (.k (rL Y) (.k (fB Y wG Y lJ Y (.snd .here) Y) (.k (cE Y rZ lJ) (.k (aD Y) (.k (rL Y) (.k (fB Y wG Y S3 Y (.fst .here) Y) (.k (cE Y G3 S3) (.k (aO (qF C) FC (.cons (.dir Y) (.cons (.dir Y) .nil))) (.k (aD Y) (.k (bU Y Y) (.k (bU Y Y) (.k (aN 102 Cg Y (.cons (Z.arr 8 (Z.int .u8)) .nil) Y) (XS.store (.none Y) Y Y Y Y Y Y Y lA (.k (bM Y) .nil)))))))))))))))) (by exact(J.kp [4,5] [])) ?_;refine dI [4,5,19] ?_;refine aU h Y (fun B h=>?_) (fun B h=>?_)
 ·refine aL [2,3,4] ?_;cases h;exact aH (wQ z dX Y (RV.tmp Y) (RV.tmp Y) (RV.tmp Y) .nil Y)
 refine aG ?_;refine aF ?_;refine wK (σ':=⟨[(4,.v Q9 u.2),(5,.YA aM u.1),(19,.v Wr.bool (Option.isSome u.2))],[]⟩) (Sw.Sub.mk id (.cons Y (.of_eq Y) (.cons Y (.s8 Y Y (.cons (.of_eq Y) .nil) sO) (.cons Y (.of_eq Y) .nil))) .nil Y) ?_;obtain⟨I,D,h⟩:=aB h;obtain⟨K,A,h⟩:=aB h;obtain⟨L,E,h⟩:=aB h;obtain⟨M,F,h⟩:=aB h;obtain⟨N,G,h⟩:=aB h;obtain⟨O,H,h⟩:=aB h;refine eD 11 mixed (by exact(.k (cE Y uR lA) (.k (aO (tC D) OD (.cons (.dir Y) .nil)) (.k (Yg A Y Y Y vY S5) (.k (Qf E Y Y Y vY S5) (.k (Lh F (AZ A) Y (.sl Y) tH I5 S5 Y Y Y) (.k (Ed G Y vY) (.k (cE Y uR lA) (.k (aO (tC H) OD (.cons (.dir Y) .nil)) (.k (bM Y) (.k (bM Y) (.k (zC ET) .nil)))))))))))) (by exact(J.kp [2,3,4] [])) ?_;cases h;exact aH (wQ z dX Y (RV.tmp Y) (RV.tmp Y) (RV.tmp Y) .nil Y)
theorem zG{a0 a1 r}(h:jD a0 a1=some r):
 WE Tryz.prog 211 [.v gJ a0,.YA (Wr.B7 (Wr.pr Q0 Q2)) a1] (.v Wr.bool r) []:=by
 refine WE.of Tryz.func211 Y Tryz.ntmps211 Y ?_;intro S w B;unfold jD at h;refine aJ (.k (cJ 101 Y (.VL sO sO) Y) (.f [1,2] ?_));refine aF ?_;obtain⟨C,z,h⟩:=aB h;refine Is (σ':=⟨[(3,.v Wr.bool C)],[]⟩) ?_ ?_
 ·intro A;refine cd z (fun u z=>?_) (fun u z=>?_)
  ·cases z;exact sF 13 mixed A
  obtain⟨E,D,z⟩:=aB z;cases z;exact eD 13 mixed (by exact(.k (aA 0 Y Oc Y S3 Y Y) (.k (aI Y Y Y G3 S3) (.k (jR Y Y Y) (.k (aD Y) (.g u (aA 0 Y Oc Y S3 Y Y) (.g u (aI Y Y Y G3 S3) (.g u (cE Y Ob Ii) (.g u (Ix D Y) (.g u (fB Y wG Y S3 Y (.fst .here) Y) (.g u (cE Y G3 S3) (.g u (jR Y Y Y) (.k (uC u Y Y) (.k (bM Y) .nil)))))))))))))) (by exact(J.fin (aC []))) A
 cases h;exact aH (aY B dX Y (RV.tmp Y) .nil Y)
theorem jY{a0 XN r}(h:cQ a0 XN=some r):
 WE Tryz.prog 247 [.v Q1 a0,.ZT 211 [.YA (Wr.B7 (Wr.pr Q0 Q2)) XN]] (.v Q0 r) []:=by
 refine WE.of Tryz.func247 Y Tryz.ntmps247 Y ?_;intro S w u;unfold cQ at h;refine aL [0,1] ?_;refine dI [0,1,7,8] ?_;obtain⟨L,F,G,H⟩:=cF h;refine jN (σs:=fun z:Int=>⟨[(0,.v Q1 a0),(1,.ZT 211 [.YA (Wr.B7 (Wr.pr Q0 Q2)) XN]),(7,.v Q0 (a0.length:Int)),(8,.v Q0 z)],[]⟩) (fun A:Unit=>⟨[],[]⟩) F (aC []) ?_ ?_
 ·intro A B;have h:=G _ B;refine aL [4] ?_;cases h;exact aH (aY u dX Y (RV.tmp Y) .nil Y)
 intro z K h;refine aL [0,1,7,8,9] ?_;refine aF ?_;refine aU h Y (fun C h=>?_) (fun C h=>?_)
 ·refine aG ?_;refine aF ?_;refine bQ ?_;refine aL [0,1,5,7,8] ?_;obtain⟨M,N,h⟩:=aB h;obtain⟨O,I,h⟩:=aB h;refine aJ (.a 5 ?_);refine .k (tM Y (zG I) Tryz.call211 (.cons (.dir Y) .nil)) (.f [0,1,5,7,8,16] ?_);refine aU h Y (fun D h=>?_) (fun D h=>?_)
  ·refine aL [4] ?_;refine aH ?_;refine eI ?_;cases h;refine gB fun E=>?_;obtain rfl:=H _ E;exact aY u dX Y (RV.tmp Y) .nil Y
  refine aG ?_;refine bV ?_;refine eV [0,1,7,8] ?_;cases h;exact cR (aC [])
 cases h;exact dE (dM (aC []))
theorem jO{a0 XN r}(h:bX a0 XN=some r):
 WE Tryz.prog 203 [.v Q1 a0,.ZT 211 [.YA (Wr.B7 (Wr.pr Q0 Q2)) XN]] (.v Wr.bool r) []:=by
 refine WE.of Tryz.func203 Y Tryz.ntmps203 Y ?_;intro S w u;unfold bX at h;refine aL [0,1] ?_;obtain⟨A,z,h⟩:=aB h;refine aJ (.a 2 ?_);refine .k (aO (jY z) Tryz.call247 (.cons (.dir Y) (.cons (.dir Y) .nil))) (.f [4] ?_);cases h;exact aH (aY u dX Y (RV.tmp Y) .nil Y)
theorem sA{a0 r}(h:kK a0=some r):
 WE Tryz.prog 212 [.v Q0 a0] (.v aM r) []:=by
 refine WE.of Tryz.func212 Y Tryz.ntmps212 Y ?_;intro S w u;unfold kK at h;refine aJ (.k (aN 101 Cg Y (.cons (Z.arr 8 (Z.int .u8)) .nil) Y) (.f [0,2] ?_));refine aJ (.a 1 ?_);refine .k (fD (.inr Y) (by decide) Y Y) ?_;refine .a 2 ?_;refine .k (fD (.inr Y) (by decide) Y Y) ?_;refine .a 2 ?_;refine .k (fD (.inr Y) (by decide) Y Y) ?_;refine .a 3 ?_;refine .k (Ml (e:=(Wr.int .u8)) (zv:=(0:Int)) An vY I5 Y Y (Z.arr 8 (Z.int .u8)) Y Y (.cons (.dir Y) (.cons (.dir Y) (.cons (.dir Y) (.cons (.dir Y) .nil))))) (.f [2] ?_);refine aH ?_;obtain rfl:=pT h;exact bZ (σ':=⟨[(2,.ptr 90 0)],[(90,.box 30 [.v aM ([(IntKind.wrap .u8 (sh .shr .i64 a0 (24:Int))),(IntKind.wrap .u8 (sh .shr .i64 a0 (16:Int))),(IntKind.wrap .u8 (sh .shr .i64 a0 (8:Int))),(IntKind.wrap .u8 a0)]++List.replicate 4 (0:Int):aQ)])]⟩) (aC [(90,101)]) (aY u dX Y (cN Y Y Y uR lA) .nil Y)
theorem wX(A:Nat->Nat){a1 aa ek r}(h:gX a1 aa ek=some r):
 VR Tryz.prog 214 [.ptr 9100 0,.YA Q1 a1] [(9000,.box 188 [.v Q0 aa,.v Q2 ek] (some (A 9000))),(9100,.box 74 [.ptr 9000 0] (some (A 9100)))] (.v Q9 r.1) [(9000,.box 188 [.v Q0 r.2.1,.v Q2 r.2.2] (some (A 9000))),(9100,.box 74 [.ptr 9000 0] (some (A 9100)))]:=by
 refine VR.of Tryz.func214 Y Tryz.ntmps214 Y ?_;intro S w R u;unfold gX at h;refine aL [0,1] ?_;refine aF ?_;obtain⟨C,z,h⟩:=aB h;obtain⟨D,B,h⟩:=aB h;refine eD 9 mixed (by exact(.k (aI Y Y Y Ob Ii) (.k (aI Y Y Y Ob Ii) (.k (aK Y) (.k (aA 0 Y wG Y S3 Y Y) (.k (aI Y Y Y G3 S3) (.k (dF Y Y Y) (.k (cE Y FP Ij) (.k (uZ Y yC) (.k (aO (sA z) OE (.cons (.dir Y) .nil)) .nil)))))))))) (by exact(J.t (eO [9000] (Bv [(9000,9000)]) (eT _) (fun A=>iM A B) KF (fun A=>(.box Y .nil Y))) (jz [0,2]))) ?_;cases h;exact aH (eU u Y (RV.tmp Y) (.cons Y (.cons Y .nil)))
theorem wY(A:Nat->Nat){a1 a2 Z9 ei r}(h:gY a1 a2 Z9 ei=some r):
 VR Tryz.prog 216 [.ptr 9100 0,.YA Q0 a1,.YA gJ a2] [(9000,.box 188 [.v Q0 Z9,.v Q2 ei] (some (A 9000))),(9100,.box 74 [.ptr 9000 0] (some (A 9100)))] (.v Q9 r.1) [(9000,.box 188 [.v Q0 r.2.1,.v Q2 r.2.2] (some (A 9000))),(9100,.box 74 [.ptr 9000 0] (some (A 9100)))]:=by
 refine VR.of Tryz.func216 Y Tryz.ntmps216 Y ?_;intro S w R u;unfold gY at h;refine aL [0,1,2] ?_;refine aF ?_;obtain⟨C,z,h⟩:=aB h;obtain⟨D,B,h⟩:=aB h;refine eD 12 mixed (by exact(.k (aI Y Y Y Ob Ii) (.k (aI Y Y Y Ob Ii) (.k (aK Y) (.k (aA 0 Y wG Y S3 Y Y) (.k (aI Y Y Y G3 S3) (.k (dF Y Y Y) (.k (cE Y G3 S3) (.k (dF Y Y Y) (.k (dF Y Y Y) (.k (fB Y Oc Y S3 Y (.fst .here) Y) (.k (cE Y G3 S3) (.k (aO (sA z) OE (.cons (.dir Y) .nil)) .nil))))))))))))) (by exact(J.t (eO [9000] (Bv [(9000,9000)]) (eT _) (fun A=>iM A B) KF (fun A=>(.box Y .nil Y))) (jz [0,3]))) ?_;cases h;exact aH (eU u Y (RV.tmp Y) (.cons Y (.cons Y .nil)))
theorem wZ(A:Nat->Nat){a1 a2 Z9 ei r}(h:gZ a1 a2 Z9 ei=some r):
 VR Tryz.prog 217 [.ptr 9100 0,.YA Q0 a1,.YA gJ a2] [(9000,.box 188 [.v Q0 Z9,.v Q2 ei] (some (A 9000))),(9100,.box 74 [.ptr 9000 0] (some (A 9100)))] (.v Q9 r.1) [(9000,.box 188 [.v Q0 r.2.1,.v Q2 r.2.2] (some (A 9000))),(9100,.box 74 [.ptr 9000 0] (some (A 9100)))]:=by
 refine VR.of Tryz.func217 Y Tryz.ntmps217 Y ?_;intro S w R u;unfold gZ at h;refine aL [0,1,2] ?_;refine aF ?_;obtain⟨B,z,h⟩:=aB h;refine eD 11 mixed (by exact(.k (aI Y Y Y Ob Ii) (.k (aI Y Y Y Ob Ii) (.k (aK Y) (.k (aA 0 Y wG Y S3 Y Y) (.k (aI Y Y Y G3 S3) (.k (dF Y Y Y) (.k (cE Y G3 S3) (.k (dF Y Y Y) (.k (dF Y Y Y) (.k (fB Y Oc Y lA Y (.snd .here) Y) (.k (cE Y uR lA) .nil)))))))))))) (by exact(J.t (eO [9000] (Bv [(9000,9000)]) (eT _) (fun A=>iM A z) KF (fun A=>(.box Y .nil Y))) (jz [0,3]))) ?_;cases h;exact aH (eU u Y (RV.tmp Y) (.cons Y (.cons Y .nil)))
theorem xA(A:Nat->Nat){XN l4 r}(h:hC XN l4=some r):
 VR Tryz.prog 218 [.ptr 9100 0] [(9000,.box 188 [.v Q0 XN,.v Q2 l4] (some (A 9000))),(9100,.box 74 [.ptr 9000 0] (some (A 9100)))] (.v Q9 r.1) [(9000,.box 188 [.v Q0 r.2.1,.v Q2 r.2.2] (some (A 9000))),(9100,.box 74 [.ptr 9000 0] (some (A 9100)))]:=by
 refine VR.of Tryz.func218 Y Tryz.ntmps218 Y ?_;intro S w R u;unfold hC at h;refine aL [0] ?_;obtain⟨B,z,h⟩:=aB h;refine aJ (.a 1 ?_);refine .t (eO [9000] (Bv [(9000,9000)]) (eT _) (fun A=>oQ A z) Tryz.call209 (fun A=>(.box Y .nil Y))) (.f [0,1] ?_);cases h;exact aH (eU u Y (RV.tmp Y) (.cons Y (.cons Y .nil)))
theorem xB(A:Nat->Nat){XN l4 r}(h:hO XN l4=some r):
 VR Tryz.prog 219 [.ptr 9100 0] [(9000,.box 188 [.v Q0 XN,.v Q2 l4] (some (A 9000))),(9100,.box 74 [.ptr 9000 0] (some (A 9100)))] (.v Q9 r.1) [(9000,.box 188 [.v Q0 r.2.1,.v Q2 r.2.2] (some (A 9000))),(9100,.box 74 [.ptr 9000 0] (some (A 9100)))]:=by
 refine VR.of Tryz.func219 Y Tryz.ntmps219 Y ?_;intro S w R u;unfold hO at h;refine aL [0] ?_;obtain⟨B,z,h⟩:=aB h;refine aJ (.a 1 ?_);refine .t (eO [9000] (Bv [(9000,9000)]) (eT _) (fun A=>oQ A z) Tryz.call209 (fun A=>(.box Y .nil Y))) (.f [0,1] ?_);cases h;exact aH (eU u Y (RV.tmp Y) (.cons Y (.cons Y .nil)))
theorem xR(A:Nat->Nat){q n0 n1 r}(h:iJ q n0 n1=some r):
 VV Tryz.prog [(9000,A 9000),(9100,A 9100)] (bO (A 9000) (A 9100)) q [(9000,.box 188 [.v Q0 n0,.v Q2 n1] (some (A 9000))),(9100,.box 74 [.ptr 9000 0] (some (A 9100)))] (.v Q9 r.1) [(9000,.box 188 [.v Q0 r.2.1,.v Q2 r.2.2] (some (A 9000))),(9100,.box 74 [.ptr 9000 0] (some (A 9100)))]:=by
 unfold iJ at h;rcases q with z | z | z | z | z | z | z | z
 ·exact(VV.l (VV.L8 .nil (.pr (.o5 (i:=9100) (by simp)) .pt) Tryz.call214 (wX A h)))
 ·exact(VV.r (VV.l (VV.L8 .nil (.pr (.o5 (i:=9100) (by simp)) (.pr .pt .pt)) Tryz.call216 (wY A h))))
 ·exact(VV.r (VV.r (VV.l (VV.L8 .nil (.pr (.o5 (i:=9100) (by simp)) (.pr .pt .pt)) Tryz.call217 (wZ A h)))))
 ·exact(VV.r (VV.r (VV.r (VV.l (VV.L8 (.o5 (i:=9000) (by simp)) .nil OC (kE A h))))))
 ·exact(VV.r (VV.r (VV.r (VV.r (VV.l (VV.L8 .nil (.o5 (i:=9100) (by simp)) Tryz.call218 (xA A h)))))))
 ·exact(VV.r (VV.r (VV.r (VV.r (VV.r (VV.l (VV.L8 (.o5 (i:=9000) (by simp)) .nil Tryz.call206 (sW A h))))))))
 ·exact(VV.r (VV.r (VV.r (VV.r (VV.r (VV.r (VV.l (VV.L8 (.o5 (i:=9000) (by simp)) .nil OC (kE A h)))))))))
 ·exact(VV.r (VV.r (VV.r (VV.r (VV.r (VV.r (VV.r (VV.L8 .nil (.o5 (i:=9100) (by simp)) Tryz.call219 (xB A h)))))))))
theorem sY(A:Nat->Nat){a0 XN l4 r}(h:eS a0 XN l4=some r):
 VR Tryz.prog 205 [.v (Wr.sl (bO (A 9000) (A 9100))) a0] [(9000,.box 188 [.v Q0 XN,.v Q2 l4] (some (A 9000))),(9100,.box 74 [.ptr 9000 0] (some (A 9100)))] (.v Q9 r.1) [(9000,.box 188 [.v Q0 r.2.1,.v Q2 r.2.2] (some (A 9000))),(9100,.box 74 [.ptr 9000 0] (some (A 9100)))]:=by
 refine VR.of Tryz.func205 Y Tryz.ntmps205 Y ?_;intro S w R B;unfold eS at h;refine aL [0] ?_;refine dI [6,7,8] ?_;obtain⟨P,I,L,M⟩:=cF h;refine jN (σs:=fun u:Int×Int×Br=>⟨[(6,.v (Wr.sl (bO (A 9000) (A 9100))) a0),(7,.v Q0 (a0.length:Int)),(8,.v Q0 u.1)],[(9000,.box 188 [.v Q0 u.2.1,.v Q2 u.2.2] (some (A 9000))),(9100,.box 74 [.ptr 9000 0] (some (A 9100)))]⟩) (fun z:Int×Br=>⟨[],[(9000,.box 188 [.v Q0 z.1,.v Q2 z.2] (some (A 9000))),(9100,.box 74 [.ptr 9000 0] (some (A 9100)))]⟩) I (aC []) ?_ ?_
 ·intro z C;have h:=L _ C;refine aL [2] ?_;cases h;exact aH (eU B Y (RV.tmp Y) (.cons Y (.cons Y .nil)))
 intro u O h;refine aL [6,7,8,9] ?_;refine aF ?_;refine aU h Y (fun D h=>?_) (fun D h=>?_)
 ·refine aG ?_;refine aF ?_;refine bQ ?_;obtain⟨Q,T,h⟩:=aB h;refine aL [4,6,7,8] ?_;obtain⟨U,N,h⟩:=aB h;refine aJ (.a 1 ?_);refine .t (Mq (H:=[9000,9100]) (K:=[9000,9100]) [(9000,A 9000),(9100,A 9100)] (Bv [(9000,9000),(9100,9100)]) (eT _) Y ⟨⟨_,_,Y⟩,⟨_,_,Y⟩,trivial⟩ (VV.at2 (e:=bO) (A 9000) (A 9100) (fun E=>xR E N)) (fun _=> .box Y (.box Y .nil)) (fun _=> .box Y (.box Y .nil Y) Y) (fun _=>rfl) Y Y (fun _=>rfl) Y Y) (.f [5,6,7,8] ?_);refine aL [5,6,7,8,15] ?_;refine aU h Y (fun F h=>?_) (fun F h=>?_)
  ·refine aL [2] ?_;refine aH ?_;refine eI ?_;cases h;refine gB fun G=>?_;obtain rfl:=M _ G;exact eU B Y (RV.tmp Y) (.cons Y (.cons Y .nil))
  refine aG ?_;refine bV ?_;refine eV [6,7,8] ?_;cases h;exact cR (aC [])
 cases h;exact dE (dM (aC []))
theorem iA(A:Nat->Nat){VY WI a1 a2 a3 r}(h:cV VY WI a1 a2 a3=some r):
 VR Tryz.prog 163 [.ptr 9000 0,.v Q1 a1,.v Q0 a2,.v Q0 a3] [(9000,.box 188 [.v Q0 VY,.v Q2 WI] (some (A 9000)))] (.v Q9 r.1) [(9000,.box 188 [.v Q0 r.2.1,.v Q2 r.2.2] (some (A 9000)))]:=by
 refine VR.of Tryz.func163 Y Tryz.ntmps163 Y ?_;intro S w R D;unfold cV at h;refine aJ (.k (Iy 101 Y Y) (.f [0,1,2,3,4] ?_));refine AY (i:=101) Y fun u=>?_;refine wK (σ':=⟨[(0,.ptr 9000 0),(1,.v Q1 a1),(2,.v Q0 a2),(3,.v Q0 a3),(4,.ptr 101 0)],[(9000,.box 188 [.v Q0 VY,.v Q2 WI] (some (A 9000))),(101,.box 74 [.ptr 9000 0] (some (u)))]⟩) (aC []) ?_;refine dI [0,1,2,3,4,21] ?_;refine aU h Y (fun Q h=>?_) (fun Q h=>?_)
 ·refine aL [0,8] ?_;cases h;exact aH (eU D Y (RV.tmp Y) (.cons Y .nil))
 refine aG ?_;refine aF ?_;refine aF ?_;obtain⟨x6,z,h⟩:=aB h;refine eF (σ':=⟨[(0,.ptr 9000 0),(1,.v Q1 a1),(2,.v Q0 a2),(3,.v Q0 a3),(4,.ptr 101 0),(37,.v Wr.bool x6)],[(9000,.box 188 [.v Q0 VY,.v Q2 WI] (some (A 9000))),(101,.box 74 [.ptr 9000 0] (some (u)))]⟩) ?_ ?_
 ·refine cd z (fun E z=>?_) (fun E z=>?_)
  ·cases z;refine ja 2 ?_;exact(J.k (yN Y Y) jy)
  refine cd z (fun F z=>?_) (fun F z=>?_)
  ·cases z;refine ja 2 ?_;refine(J.k (yN Y Y) ?_);refine ja 4 ?_;exact(J.g E (Ax Y Y) jy)
  obtain⟨v9,fj,z⟩:=aB z;cases z;refine ja 2 ?_;refine(J.k (yN Y Y) ?_);refine ja 4 ?_;refine(J.g E (Ax Y Y) ?_);refine ja 4 ?_;exact(J.g F (tL (.cons (.dir Y) .nil)) (Zx (GK.met 33 Y Y Y F) (HI (jO fj) Tryz.call203 (.cons (.dir Y) (.fn1 Y Y Y (.VL sO sO) .nil)) XO.v Y) jy))
 refine aU h Y (fun T h=>?_) (fun T h=>?_)
 ·refine aL [0,8] ?_;cases h;exact aH (eU D Y (RV.tmp Y) (.cons Y .nil))
 refine aG ?_;obtain⟨L,jl,h⟩:=aB h;obtain⟨M,X7,h⟩:=aB h;refine aJ (.a 1 ?_);refine .k (aO (sA jl) OE (.cons (.dir Y) .nil)) ?_;refine .a 1 ?_;refine .k (aO (sA X7) OE (.cons (.dir Y) .nil)) (.k (aN 106 Cg Y (.cons (Z.arr 8 (Z.int .u8)) .nil) Y) (.k (aN 107 Cg Y (.cons (Z.arr 8 (Z.int .u8)) .nil) Y) (.f [0,1,4,9,10] ?_)));refine aF ?_;refine wK (σ':=⟨[(0,.ptr 9000 0),(1,.v Q1 a1),(4,.ptr 101 0),(9,.YA aM L),(10,.ptr 107 0)],[(9000,.box 188 [.v Q0 VY,.v Q2 WI] (some (A 9000))),(101,.box 74 [.ptr 9000 0] (some (u))),(107,.box 30 [.v aM M])]⟩) (Sw.Sub.mk id (.cons Y (.of_eq Y) (.cons Y (.of_eq Y) (.cons Y (.of_eq Y) (.cons Y (.s8 Y Y (.cons (.of_eq Y) .nil) sO) (.cons Y (.of_eq Y) .nil))))) (.box Y (.cons (.of_eq Y) (.cons (.of_eq Y) .nil)) (.box Y (.cons (.of_eq Y) .nil) (.box Y (.cons (.of_eq Y) .nil) .nil))) Y) ?_;refine wK (σ':=⟨[(0,.ptr 9000 0),(1,.v Q1 a1),(4,.ptr 101 0),(9,.YA aM L),(10,.YA aM M)],[(9000,.box 188 [.v Q0 VY,.v Q2 WI] (some (A 9000))),(101,.box 74 [.ptr 9000 0] (some (u)))]⟩) (Sw.Sub.mk id (.cons Y (.of_eq Y) (.cons Y (.of_eq Y) (.cons Y (.of_eq Y) (.cons Y (.of_eq Y) (.cons Y (.s8 Y Y (.cons (.of_eq Y) .nil) sO) .nil))))) (.box Y (.cons (.of_eq Y) (.cons (.of_eq Y) .nil)) (.box Y (.cons (.of_eq Y) .nil) .nil)) Y) ?_;obtain⟨ve,su,h⟩:=aB h;obtain⟨an,N,h⟩:=aB h;obtain⟨zz,sr,h⟩:=aB h;obtain⟨di,X6,h⟩:=aB h;obtain⟨ao,ab,h⟩:=aB h;obtain⟨C,X5,h⟩:=aB h;refine eD 16 mixed (by exact(.k (aD Y) (.k (fM 113000 (eY su) KE (.cons (.dir Y) .nil) Y) (.k (aI Y Y Y Ob Ii) (.k (aK Y) (.k (aA 0 Y wG Y S3 Y Y) (.k (aI Y Y Y G3 S3) (.k (DF N Y Y Y Y vY S5) (.k (Qf sr Y Y Y vY S5) (.k (Lh X6 (AZ N) Y (.sl Y) tH I5 S5 Y Y Y) (.k (Ed ab Y vY) (.k (cE Y uR lA) (.k (bP vZ (.cons (Z.int .i64) (.cons (Z.arr 8 (Z.int .u8)) .nil)) (.cons Y (.dir Y) Y Y Y Y (.cons Y (.dir Y) Y Y Y Y .nil))) (.k (eJ (e:=gJ) yC jX Fb Y Y Y Y (.cons (.agg Y (.same (.same .nil)) (.VL sO sO) Y) .nil)) (XS.append (.none Y) 114 X5 Y Y (.sl Y) yC Kx jX Y Y Y Y Y (.k (aN 115 Tryz.zeroValue77 Y (.cons (Z.sl gJ) .nil) Y) (XS.store (.none Y) Y Y Y Y Y Y Y Ij .nil))))))))))))))))) (by exact(J.kp [0,4,11] [])) ?_;refine aJ (.sub (σ':=⟨[(0,.ptr 9000 0),(4,.ptr 101 0),(11,.YA Q1 C)],[(9000,.box 188 [.v Q0 VY,.v Q2 WI] (some (A 9000))),(101,.box 74 [.ptr 9000 0] (some (u)))]⟩) (Sw.Sub.mk id (.cons Y (.of_eq Y) (.cons Y (.of_eq Y) (.cons Y (.s8 Y Y (.cons (.I4 Y Y) .nil) sO) .nil))) (.box Y (.cons (.of_eq Y) (.cons (.of_eq Y) .nil)) (.box Y (.cons (.of_eq Y) .nil) .nil)) Y) (.k (nX .nil (.cons (.o5 Y Y) (.YA Y)) (.l .self)) (.k (rK (e:=(bO (A 9000) (u))) 116 Xf PA TG Y Y Y Y (.cons (.dir Y) .nil)) (.f [0,4,11,12] ?_))));refine dI [0,4,12,59,60,61] ?_;obtain⟨ap,ac,ad,aq⟩:=cF h;refine jN (σs:=fun B:Int×(List aE)=>⟨[(0,.ptr 9000 0),(4,.ptr 101 0),(12,.ref 126),(59,.v Q1 C),(60,.v Q0 (C.length:Int)),(61,.v Q0 B.1)],[(9000,.box 188 [.v Q0 VY,.v Q2 WI] (some (A 9000))),(101,.box 74 [.ptr 9000 0] (some (u))),(126,.arr 97 (bO (A 9000) (u)) B.2)]⟩) (fun I:(List aE)=>⟨[(0,.ptr 9000 0),(4,.ptr 101 0),(12,.ref 126)],[(9000,.box 188 [.v Q0 VY,.v Q2 WI] (some (A 9000))),(101,.box 74 [.ptr 9000 0] (some (u))),(126,.arr 97 (bO (A 9000) (u)) I)]⟩) ac (aC [(126,116)]) ?_ ?_
 ·intro I P;have h:=ad _ P;obtain⟨O,af,h⟩:=aB h;obtain⟨I8,sm,h⟩:=aB h;refine aJ (.a 2 ?_);refine .k (nX (.o5 Y Y) .nil (.r (.r (.r (.l .self))))) (.k (nX .nil (.o5 Y Y) (.r (.r (.r (.r (.l .self)))))) (.k (aI Y Y Y Ob Ii) (.k (nX (.o5 Y Y) .nil (.r (.r (.r (.r (.r (.l .self))))))) (.k (aI Y Y Y Ob Ii) (.k (nX (.o5 Y Y) .nil (.r (.r (.r (.r (.r (.r (.l .self)))))))) (.k (nX .nil (.o5 Y Y) (.r (.r (.r (.r (.r (.r (.r .self)))))))) (.k (eJ (e:=(bO (A 9000) (u))) Xf PA TG Y Y Y Y (.cons (.dir Y) (.cons (.dir Y) (.cons (.dir Y) (.cons (.dir Y) (.cons (.dir Y) .nil)))))) (.t (cG 133 af Y Y (.sl Y) Xf Tryz.typeInfo97 PA Y Y Y Y Y) (.sub (σ':=⟨[(0,.ptr 9000 0),(4,.ptr 101 0),(73,.ptr 9000 0),(74,.v (bO (A 9000) (u)) (.inr (.inr (.inr (.inl ((),())))):aE)),(75,.v (bO (A 9000) (u)) (.inr (.inr (.inr (.inr (.inl ((),()))))):aE)),(76,.ptr 9000 0),(77,.v (bO (A 9000) (u)) (.inr (.inr (.inr (.inr (.inr (.inl ((),())))))):aE)),(78,.ptr 9000 0),(79,.v (bO (A 9000) (u)) (.inr (.inr (.inr (.inr (.inr (.inr (.inl ((),()))))))):aE)),(80,.v (bO (A 9000) (u)) (.inr (.inr (.inr (.inr (.inr (.inr (.inr ((),()))))))):aE)),(81,.v (Wr.sl (bO (A 9000) (u))) ([(.inr (.inr (.inr (.inl ((),())))):aE),(.inr (.inr (.inr (.inr (.inl ((),()))))):aE),(.inr (.inr (.inr (.inr (.inr (.inl ((),())))))):aE),(.inr (.inr (.inr (.inr (.inr (.inr (.inl ((),()))))))):aE),(.inr (.inr (.inr (.inr (.inr (.inr (.inr ((),()))))))):aE)]:(List aE))),(82,.v (Wr.sl (bO (A 9000) (u))) O)],[(9000,.box 188 [.v Q0 VY,.v Q2 WI] (some (A 9000))),(101,.box 74 [.ptr 9000 0] (some (u)))]⟩) (aC []) (.t (Iz (H:=[9000,101]) (K:=[9000,101]) [(9000,A 9000),(9100,u)] (Bv [(9000,9000),(9100,101)]) (eT _) ⟨⟨_,_,Y⟩,⟨_,_,Y⟩,trivial⟩ (VR.at2 (ss:=fun U V=>[.v (Wr.sl (bO U V)) O]) (A 9000) u (fun X=>sY X sm)) Tryz.call205 (.cons (.dir Y) .nil) (fun _=> .box Y (.box Y .nil)) (fun _=> .box Y (.box Y .nil Y) Y) (fun _=>rfl) Y Y (fun _=>rfl) Y Y) (.f [0,8] ?_)))))))))));cases h;exact aH (eU D Y (RV.tmp Y) (.cons Y .nil))
 intro B am h;refine aL [0,4,12,59,60,61,62] ?_;refine aF ?_;refine aU h Y (fun aa h=>?_) (fun aa h=>?_)
 ·refine aG ?_;refine aF ?_;refine bQ ?_;obtain⟨G,au,h⟩:=aB h;refine aJ (.a 3 ?_);refine .k (aN 130 Z3 Y (.cons (Z.int .i64) .nil) Y) (.k (aN 131 Fb Y (.cons (Z.int .i64) (.cons (Z.arr 8 (Z.int .u8)) .nil)) Y) ?_);refine .a 1 ?_;refine .t (bS Y Y Y Y (.VL sO sO) jX) (.f [0,4,12,13,14,59,60,61] ?_);refine wK (σ':=⟨[(0,.ptr 9000 0),(4,.ptr 101 0),(12,.ref 126),(13,.YA Q0 B.1),(14,.ptr 131 0),(59,.v Q1 C),(60,.v Q0 (C.length:Int)),(61,.v Q0 B.1)],[(9000,.box 188 [.v Q0 VY,.v Q2 WI] (some (A 9000))),(101,.box 74 [.ptr 9000 0] (some (u))),(126,.arr 97 (bO (A 9000) (u)) B.2),(131,.box 214 [.v Q0 G.1,.v aM G.2])]⟩) (Sw.Sub.mk id (.cons Y (.of_eq Y) (.cons Y (.of_eq Y) (.cons Y (.of_eq Y) (.cons Y (.s8 Y Y (.cons (.of_eq Y) .nil) sO) (.cons Y (.of_eq Y) (.cons Y (.of_eq Y) (.cons Y (.of_eq Y) (.cons Y (.of_eq Y) .nil)))))))) (.box Y (.cons (.of_eq Y) (.cons (.of_eq Y) .nil)) (.box Y (.cons (.of_eq Y) .nil) (.arr Y (.box Y (.cons (.of_eq Y) (.cons (.of_eq Y) .nil)) .nil)))) Y) ?_;obtain⟨av,al,h⟩:=aB h;refine gC (.a 1 ?_);refine .sub (σ':=⟨[(0,.ptr 9000 0),(4,.ptr 101 0),(12,.ref 126),(13,.YA Q0 B.1),(14,.YA gJ G),(59,.v Q1 C),(60,.v Q0 (C.length:Int)),(61,.v Q0 B.1),(66,.ref 126)],[(9000,.box 188 [.v Q0 VY,.v Q2 WI] (some (A 9000))),(101,.box 74 [.ptr 9000 0] (some (u))),(126,.arr 97 (bO (A 9000) (u)) B.2)]⟩) (Sw.Sub.mk id (.cons Y (.of_eq Y) (.cons Y (.of_eq Y) (.cons Y (.of_eq Y) (.cons Y (.of_eq Y) (.cons Y (.s8 Y Y (.cons (.of_eq Y) (.cons (.of_eq Y) .nil)) (.VL sO sO)) (.cons Y (.of_eq Y) (.cons Y (.of_eq Y) (.cons Y (.of_eq Y) (.cons Y (.of_eq Y) .nil))))))))) (.box Y (.cons (.of_eq Y) (.cons (.of_eq Y) .nil)) (.box Y (.cons (.of_eq Y) .nil) (.arr Y .nil))) Y) (.k (nX .nil (.cons (.o5 Y Y) (.cons (.YA Y) (.YA Y))) (.r (.l .self))) (.k (nX .nil (.cons (.o5 Y Y) (.cons (.YA Y) (.YA Y))) (.r (.r (.l .self)))) (.k (eJ (e:=(bO (A 9000) (u))) Xf PA TG Y Y Y Y (.cons (.dir Y) (.cons (.dir Y) .nil))) (.t (cG 132 al Y Y (.sl Y) Xf Tryz.typeInfo97 PA Y Y Y Y Y) (.f [0,4,12,59,60,61] ?_)))));refine bV ?_;refine eV [0,4,12,59,60,61] ?_;cases h;exact cR (aC [(126,132)])
 cases h;exact dE (dM (aC []))
theorem zH(A:Nat->Nat){b0 b1 b2 b3 b4 b5 b6 b7 b8 b9 bA bB bC bD bE bF bG bH bI bJ r}(h:jE b0 b1 b2 b3 b4 b5 b6 b7 b8 b9 bA bB bC bD bE bF bG bH bI bJ=some r):
 VR Tryz.prog 102 [.ptr 9000 1,.ptr 9100 0] [(9000,.box 93 [.v Q0 b0,.v (Wr.ZQ (.pointer none) rfl) (),.v Q0 b1,.v Q0 b2,.v Q0 b3,.ref 9050,.v Kv b5,.ref 9051,.v Q0 b7,.v Nz b8,.v Q0 b9,.v Q0 bA,.ref 9052,.v (Wr.ZQ (.pointer none) rfl) (),.v Q0 bC,.v Q0 bD,.v Q0 bE,.v Q0 bF,.v (Wr.pr Q0 Q0) bG,.ref 9053] (some (A 9000))),(9100,.box 188 [.v Q0 bI,.v Q2 bJ] (some (A 9100))),(9050,.arr 30 aM b4),(9051,.mp Q0 Q5 b6),(9052,.arr 3 Q0 bB),(9053,.arr 135 (Wr.pr Wr.bool (Wr.pr Wr.bool (Wr.sl (Wr.int .u8)))) bH)] (.v Q9 r.1) [(9000,.box 93 [.v Q0 b0,.ptr 9100 0,.v Q0 b1,.v Q0 r.2.1,.v Q0 r.2.2.1,.ref 400,.v Kv b5,.ref 401,.v Q0 b7,.v Nz b8,.v Q0 b9,.v Q0 bA,.ref 402,.v (Wr.ZQ (.pointer none) rfl) (),.v Q0 bC,.v Q0 bD,.v Q0 bE,.v Q0 bF,.v (Wr.pr Q0 Q0) bG,.ref 403] (some (A 9000))),(9100,.box 188 [.v Q0 r.2.2.2.1,.v Q2 r.2.2.2.2] (some (A 9100))),(400,.arr 30 aM b4),(401,.mp Q0 Q5 b6),(402,.arr 3 Q0 bB),(403,.arr 135 (Wr.pr Wr.bool (Wr.pr Wr.bool (Wr.sl (Wr.int .u8)))) bH)]:=by
 refine VR.of Tryz.func102 Y Tryz.ntmps102 Y ?_;intro S w R u;unfold jE at h;refine aL [0,1] ?_;refine aL [0,1] ?_;obtain⟨D,B,h⟩:=aB h;refine aJ (.a 1 ?_);refine .k (rM (oR B) Tryz.call162 (.cons (.I2 Y Y (.VL sO sO)) .nil) (XO.WL (.v (.v (.v .nil))))) (.f [0,1,5,6,7] ?_);refine dI [0,1,5,6,7,19] ?_;refine aU h Y (fun z h=>?_) (fun z h=>?_)
 ·refine aL [0,1,4] ?_;cases h;exact aH (eZ u Y (aC [(403,9053),(402,9052),(401,9051),(400,9050)]))
 refine aG ?_;refine aL [0,1] ?_;refine aF ?_;obtain⟨E,C,h⟩:=aB h;refine eD 9 mixed (by exact(.k (aD Y) (.k (aD Y) (.k (aK Y) (.k (aA 3 Y Fa Y S3 Y Y) (.k (aI Y Y Y G3 S3) (.k (aD Y) (.k (aK Y) (.k (aA 4 Y Fa Y S3 Y Y) (.k (aI Y Y Y G3 S3) .nil)))))))))) (by exact(J.t (sQ (H:=[9100]) (K:=[9100]) (Bv [(9000,9100)]) (eT _) (fun A=>iA A C) KD (.cons (.dir Y) (.cons (.nq _) (.cons (.dir Y) (.cons (.dir Y) .nil)))) (fun A=>(.box Y .nil)) (fun A=>(.box Y .nil Y)) (fun _=>rfl) Y Y (fun _=>rfl) Y Y) (jz [0,1,4]))) ?_;cases h;exact aH (eZ u Y (aC [(403,9053),(402,9052),(401,9051),(400,9050)]))
theorem Ff{a0 a1 r}(h:kQ a0 a1=some r):
 WE Tryz.prog 76 [.YA (Wr.pr Q0 Q2) a0,.v Q0 a1] (.WL [.v aM r.1,.v Q9 r.2]) []:=by
 refine WE.of Tryz.func76 Y Tryz.ntmps76 Y ?_;intro S w A;unfold kQ at h;refine aJ (.k (aN 101 Cg Y (.cons (Z.arr 8 (Z.int .u8)) .nil) Y) (.f [0,1,4] ?_));refine aF ?_;refine aF ?_;obtain⟨D,u,h⟩:=aB h;refine eF (σ':=⟨[(0,.YA (Wr.pr Q0 Q2) a0),(1,.v Q0 a1),(4,.ptr 101 0),(15,.v Wr.bool D)],[(101,.box 30 [.v aM aS])]⟩) ?_ ?_
 ·refine cd u (fun z u=>?_) (fun z u=>?_)
  ·cases u;exact jy
  cases u;refine ja 5 ?_;exact(J.g z (rL Y) (J.g z (fB Y wG Y S3 Y (.fst .here) Y) jy))
 refine aU h Y (fun C h=>?_) (fun C h=>?_)
 ·refine aJ (.k (dA (e:=aM) (v:=aS) An vY I5 Y Y (Z.arr 8 (Z.int .u8))) (.f [4,5] ?_));refine aH ?_;obtain rfl:=pT h;exact bZ (σ':=⟨[(4,.ptr 90 0),(5,.v Q9 (some (1:Int)))],[(90,.box 30 [.v aM aS])]⟩) (aC [(90,101)]) (bR A dX Y (cN Y Y Y uR lA) (RV.tmp Y) .nil Y)
 refine aG ?_;obtain⟨B,E,h⟩:=aB h;refine aJ (.a 1 ?_);refine .k (rL Y) (.k (fB Y wG Y lJ Y (.snd .here) Y) ?_);refine .a 2 ?_;refine .k (aO (qF E) FC (.cons (.dir Y) (.cons (.dir Y) .nil))) (.f [4,5] ?_);refine aH ?_;obtain rfl:=pT h;exact bZ (σ':=⟨[(4,.ptr 90 0),(5,.v Q9 B.2)],[(90,.box 30 [.v aM B.1])]⟩) (aC [(90,101)]) (bR A dX Y (cN Y Y Y uR lA) (RV.tmp Y) .nil Y)
theorem kZ{a0 r}(h:gD a0=some r):
 WE Tryz.prog 48 [.YA (Wr.pr Q0 Q2) a0] (.WL [.ref 0,.v Q9 r.2]) [(0,.arr 30 aM r.1)]:=by
 refine WE.of Tryz.func48 Y Tryz.ntmps48 Y ?_;intro S w z;unfold gD at h;refine aJ (.k (aR 101 30 aM) (.f [0] ?_));refine aJ (.k (aR 102 30 aM) (.f [0,4] ?_));refine jW (.a 1 ?_);refine .k (rL Y) (.k (fB Y wG Y S3 Y (.fst .here) Y) (.f [0,4,11,12] ?_));obtain⟨M,F,G,H⟩:=cF h;refine jN (σs:=fun u:Int×iO=>⟨[(0,.YA (Wr.pr Q0 Q2) a0),(4,.ref 114),(11,.v Q0 a0.1),(12,.v Q0 u.1)],[(114,.arr 30 aM u.2)]⟩) (fun A:iO=>⟨[(4,.ref 114)],[(114,.arr 30 aM A)]⟩) F (aC [(114,102)]) ?_ ?_
 ·intro A B;have h:=G _ B;refine aL [2,3] ?_;cases h;exact aH (wN z dX Y (aC [(0,114)]))
 intro u L h;refine aL [0,4,11,12,13] ?_;refine aF ?_;refine aU h Y (fun C h=>?_) (fun C h=>?_)
 ·refine aG ?_;refine aF ?_;refine bQ ?_;refine aL [0,4,5,11,12] ?_;obtain⟨N,I,h⟩:=aB h;refine aJ (.a 2 ?_);refine .k (aO (Ff I) Tryz.call76 (.cons (.dir Y) (.cons (.dir Y) .nil))) ?_;refine .a 3 ?_;refine .k (aN 120 Cg Y (.cons (Z.arr 8 (Z.int .u8)) .nil) Y) (.f [0,4,6,7,11,12] ?_);refine dI [0,4,6,7,11,12,22] ?_;refine aU h Y (fun D h=>?_) (fun D h=>?_)
  ·refine aJ (.a 1 ?_);refine .k (aR 121 30 aM) (.f [2,3] ?_);refine aH ?_;refine eI ?_;cases h;refine gB fun E=>?_;obtain rfl:=H _ E;exact wN z dX Y (aC [(0,121)])
  refine aG ?_;obtain⟨O,K,h⟩:=aB h;refine gC (.a 2 ?_);refine .k (eJ (e:=aM) Jm lA Cg Y Y Y Y (.cons (.dir Y) .nil)) (.t (cG 122 K Y Y (.sl Y) Jm An lA Y Y Y Y Y) (.f [0,4,11,12] ?_));refine bV ?_;refine eV [0,4,11,12] ?_;cases h;exact cR (aC [(114,122)])
 cases h;exact dE (dM (aC []))
theorem vG(A:Nat->Nat){b0 b1 b2 b3 b4 b5 b6 b7 b8 b9 bA bB bC bD bE bF bG bH bI bJ r}(h:fQ b0 b1 b2 b3 b4 b5 b6 b7 b8 b9 bA bB bC bD bE bF bG bH bI bJ=some r):
 VR Tryz.prog 103 [.ptr 9000 1] [(9000,.box 93 [.v Q0 b0,.ptr 9100 0,.v Q0 b1,.v Q0 b2,.v Q0 b3,.ref 9050,.v Kv b5,.ref 9051,.v Q0 b7,.v Nz b8,.v Q0 b9,.v Q0 bA,.ref 9052,.v (Wr.ZQ (.pointer none) rfl) (),.v Q0 bC,.v Q0 bD,.v Q0 bE,.v Q0 bF,.v (Wr.pr Q0 Q0) bG,.ref 9053] (some (A 9000))),(9100,.box 188 [.v Q0 bI,.v Q2 bJ] (some (A 9100))),(9050,.arr 30 aM b4),(9051,.mp Q0 Q5 b6),(9052,.arr 3 Q0 bB),(9053,.arr 135 (Wr.pr Wr.bool (Wr.pr Wr.bool (Wr.sl (Wr.int .u8)))) bH)] (.WL []) [(9000,.box 93 [.v Q0 b0,.ptr 9100 0,.v Q0 b1,.v Q0 b2,.v Q0 b3,.ref 400,.v Kv b5,.ref 401,.v Q0 b7,.v Nz b8,.v Q0 b9,.v Q0 bA,.ref 402,.v (Wr.ZQ (.pointer none) rfl) (),.v Q0 bC,.v Q0 bD,.v Q0 bE,.v Q0 bF,.v (Wr.pr Q0 Q0) bG,.ref 403] (some (A 9000))),(9100,.box 188 [.v Q0 bI,.v Q2 bJ] (some (A 9100))),(400,.arr 30 aM b4),(401,.mp Q0 Q5 r),(402,.arr 3 Q0 bB),(403,.arr 135 (Wr.pr Wr.bool (Wr.pr Wr.bool (Wr.sl (Wr.int .u8)))) bH)]:=by
 refine VR.of Tryz.func103 Y Tryz.ntmps103 Y ?_;intro S w R u;unfold fQ at h;refine aF ?_;obtain⟨D,z,h⟩:=aB h;obtain⟨B,C,h⟩:=aB h;refine eD 14 mixed (by exact(.k (aD Y) (.k (aK Y) (.k (aA 10 Y vS Y Zo Y Y) (.k (aI Y Y Y OW Zo) (.k (aD Y) (.k (aK Y) (.k (aA 1 Y vS Y Ky Y Y) (.k (aA 3 Y Fa Y S3 Y Y) (.k (aI Y Y Y G3 S3) (.k (aD Y) (.k (aK Y) (.k (aA 5 Y vS Y yA Y Y) (.k (aI Y Y Y Tu yA) (.k (Qc (qU 102000 (cO z) Zm (.cons (.ref Y Y) .nil) Y XO.ref (YI.arr YI.nil)) (fun _=>(Sw.Sub.mk id (.cons Y (.I4 Y Y) .nil) .nil Y)) Y) .nil))))))))))))))) (by exact(J.t (Mt C Y Y Y Y QW U3 (p8.int U3) Y) (J.kp [0] []))) ?_;refine eD 11 mixed (by exact(.k (aD Y) (.k (aK Y) (.k (aA 10 Y vS Y Zo Y Y) (.k (aI Y Y Y OW Zo) (.k (aD Y) (.k (aK Y) (.k (aA 1 Y vS Y Ky Y Y) (.k (aA 3 Y Fa Y S3 Y Y) (.k (aI Y Y Y G3 S3) (.k (dF Y Y Y) (.k (dF Y Y Y) .nil)))))))))))) (by exact(J.t (Mu Y Y Y QW U3 (p8.int U3) Y) (J.kp [0] []))) ?_;refine Zy ?_;obtain rfl:=pT h;exact bZ (σ':=⟨[(0,.ptr 9000 1)],[(9000,.box 93 [.v Q0 b0,.ptr 9100 0,.v Q0 b1,.v Q0 b2,.v Q0 b3,.ref 400,.v Kv b5,.ref 401,.v Q0 b7,.v Nz b8,.v Q0 b9,.v Q0 bA,.ref 402,.v (Wr.ZQ (.pointer none) Y) (),.v Q0 bC,.v Q0 bD,.v Q0 bE,.v Q0 bF,.v (Wr.pr Q0 Q0) bG,.ref 403] (some (A 9000))),(9100,.box 188 [.v Q0 bI,.v Q2 bJ] (some (A 9100))),(400,.arr 30 aM b4),(401,.mp Q0 Q5 (Ge B (ar .sub .i64 (ar .sub .i64 b2 (4:Int)) (1:Int)))),(402,.arr 3 Q0 bB),(403,.arr 135 (Wr.pr Wr.bool (Wr.pr Wr.bool (Wr.sl (Wr.int .u8)))) bH)]⟩) (aC [(403,9053),(402,9052),(401,9051),(400,9050)]) (Eh u Y (.cons Y (.cons Y (.cons Y (.cons Y (.cons Y (.cons Y .nil)))))))
theorem pY(A:Nat->Nat){b0 b1 b2 b3 b4 b5 b6 b7 b8 b9 bA bB bC bD bE bF bG bH bI bJ r}(h:fE b0 b1 b2 b3 b4 b5 b6 b7 b8 b9 bA bB bC bD bE bF bG bH bI bJ=some r):
 VR Tryz.prog 70 [.ptr 9000 0,.ptr 9100 0] [(9000,.box 93 [.v Q0 b0,.v (Wr.ZQ (.pointer none) rfl) (),.v Q0 b1,.v Q0 b2,.v Q0 b3,.v Q5 b4,.v Kv b5,.v (Wr.X2 Q0 Q5) b6,.v Q0 b7,.v Nz b8,.v Q0 b9,.v Q0 bA,.v nV bB,.v (Wr.ZQ (.pointer none) rfl) (),.v Q0 bC,.v Q0 bD,.v Q0 bE,.v Q0 bF,.v (Wr.pr Q0 Q0) bG,.ref 9050] (some (A 9000))),(9100,.box 188 [.v Q0 bI,.v Q2 bJ] (some (A 9100))),(9050,.arr 135 (Wr.pr Wr.bool (Wr.pr Wr.bool (Wr.sl (Wr.int .u8)))) bH)] (.v Q9 r.1) [(9000,.box 93 [.v Q0 b0,.ptr 9100 0,.v Q0 r.2.1,.v Q0 r.2.2.1,.v Q0 r.2.2.2.1,.ref 400,.v Kv r.2.2.2.2.2.1,.ref 401,.v Q0 r.2.2.2.2.2.2.2.1,.v Nz r.2.2.2.2.2.2.2.2.1,.v Q0 r.2.2.2.2.2.2.2.2.2.1,.v Q0 r.2.2.2.2.2.2.2.2.2.2.1,.ref 402,.v (Wr.ZQ (.pointer none) rfl) (),.v Q0 bC,.v Q0 bD,.v Q0 bE,.v Q0 bF,.v (Wr.pr Q0 Q0) bG,.ref 403] (some (A 9000))),(9100,.box 188 [.v Q0 r.2.2.2.2.2.2.2.2.2.2.2.2.1,.v Q2 r.2.2.2.2.2.2.2.2.2.2.2.2.2] (some (A 9100))),(400,.arr 30 aM r.2.2.2.2.1),(401,.mp Q0 Q5 r.2.2.2.2.2.2.1),(402,.arr 3 Q0 r.2.2.2.2.2.2.2.2.2.2.2.1),(403,.arr 135 (Wr.pr Wr.bool (Wr.pr Wr.bool (Wr.sl (Wr.int .u8)))) bH)]:=by
 refine VR.of Tryz.func70 Y Tryz.ntmps70 Y ?_;intro S w R z;unfold fE at h;refine aL [0,1] ?_;refine aJ (.a 5 ?_);refine .k (bP Lq (.cons (Z.ZQ (u:=(.pointer none)) Y) (.cons (Z.int .i64) (.cons (Z.int .i64) (.cons (Z.int .i64) .nil)))) (.cons Y (.dir Y) Y Y Y Y .nil)) (.k (Fz 101 Q0 Q5) (.k (fL (new:=[(103,.arr 30 aM ([]:iO)),(102,.arr 3 Q0 ([]:kS))]) CK (.cons (Z.ZQ (u:=(.pointer none)) Y) (.cons (Z.int .i64) (.cons (Z.int .i64) (.cons (Z.int .i64) (.ref 103 Y (.cons (Z.pr (Z.int .i64) (Z.pr (Z.sl gJ) (Z.pr (Z.sl pG) Z.bool))) (.cons (Z.X2 Q0 Q5) (.cons (Z.int .i64) (.cons (Z.pr (Z.int .i64) (Z.pr (Z.int .i64) (Z.sl Q8))) (.cons (Z.int .i64) (.cons (Z.int .i64) (.ref 102 Y .nil)))))))))))) (.cons (.cons .nil)) Y (.agg 0 4 Y Y Y Y Y Y (.cons Y (.dir Y) Y Y Y Y (.cons Y (.dir Y) Y Y Y Y .nil)))) ?_));refine .a 2 ?_;refine .t (vQ 1 12 Y Y Y Y Y Y Y OZ) (.f [0,1] ?_);obtain⟨F,C,h⟩:=aB h;refine jW (.a 5 ?_);refine .t (eO [9000,9100,103,101,102,9050] (uU [(9000,9000),(9100,9100),(9050,103),(9051,101),(9052,102),(9053,9050),(400,104),(401,105),(402,106),(403,107)]) (dD Y) (fun A=>zH A C) NX (fun A=>(.box Y (.box Y (.arr (.mp (.arr (.arr .nil Y) Y) Y) Y) Y) Y))) (.f [0,1,5] ?_);refine aL [0,1,5,25] ?_;refine aU h Y (fun B h=>?_) (fun B h=>?_)
 ·refine aL [0,1,4] ?_;cases h;exact aH (eZ z Y (aC [(403,107),(402,106),(401,105),(400,104)]))
 refine aG ?_;obtain⟨G,D,h⟩:=aB h;refine aJ (.a 1 ?_);refine .k (qU 108000 (kZ D) SY (.cons (.I2 Y Y (.VL sO sO)) .nil) Y (XO.WL (.ref (.v .nil))) (YI.arr YI.nil)) (.f [0,1,6,7] ?_);refine aL [0,1,7] ?_;refine aJ (.a 7 ?_);refine .k (Bb (bP yX (.cons (Z.int .i64) (.cons (Z.sl gJ) (.cons (Z.sl pG) (.cons Z.bool .nil)))) (.cons Y (.dir Y) Y Y Y Y (.cons Y (.dir Y) Y Y Y Y .nil))) (.VL sO (.VL sO (.VL sO sO))) Y) (.f [0,1,7] ?_);obtain⟨H,E,h⟩:=aB h;refine aJ (.a 3 ?_);refine .t (eO [9000,9100,108000,105,106,107] (uU [(9000,9000),(9100,9100),(9050,108000),(9051,105),(9052,106),(9053,107),(400,109),(401,110),(402,111),(403,112)]) (dD Y) (fun A=>vG A E) Tryz.call103 (fun A=>(.box Y (.box Y (.arr (.mp (.arr (.arr .nil Y) Y) Y) Y) Y) Y))) (.f [0,1,7] ?_);refine aL [0,1,4] ?_;cases h;exact aH (eZ z Y (aC [(403,112),(402,111),(401,110),(400,109)]))
theorem sD(A:Nat->Nat){b0 b1 b2 b3 b4 b5 b6 b7 b8 b9 bA bB bC bD bE bF bG bH bI bJ bK bL r}(h:gH b0 b1 b2 b3 b4 b5 b6 b7 b8 b9 bA bB bC bD bE bF bG bH bI bJ bK bL=some r):
 VR Tryz.prog 102 [.ptr 9000 18,.ptr 9200 0] [(9000,.box 93 [.v Q0 b0,.ptr 9100 0,.v Q0 b1,.v Q0 b2,.v Q0 b3,.ref 9050,.v Kv b5,.ref 9051,.v Q0 b7,.v Nz b8,.v Q0 b9,.v Q0 bA,.ref 9052,.v (Wr.ZQ (.pointer none) rfl) (),.v Q0 bC,.v Q0 bD,.v Q0 bE,.v Q0 bF,.v (Wr.pr Q0 Q0) bG,.ref 9053] (some (A 9000))),(9100,.box 188 [.v Q0 bI,.v Q2 bJ] (some (A 9100))),(9200,.box 188 [.v Q0 bK,.v Q2 bL] (some (A 9200))),(9050,.arr 30 aM b4),(9051,.mp Q0 Q5 b6),(9052,.arr 3 Q0 bB),(9053,.arr 135 (Wr.pr Wr.bool (Wr.pr Wr.bool (Wr.sl (Wr.int .u8)))) bH)] (.v Q9 r.1) (kM 9000 (some (A 9000)) 9100 (some (A 9100)) 9200 (some (A 9200)) 400 401 402 403 b0 b1 b2 b3 b4 b5 b6 b7 b8 b9 bA bB bC r.2.1 r.2.2.1 bF bG bH bI bJ r.2.2.2.1 r.2.2.2.2):=by
 refine VR.of Tryz.func102 Y Tryz.ntmps102 Y ?_;intro S w R u;unfold gH at h;refine aL [0,1] ?_;refine aL [0,1] ?_;obtain⟨D,B,h⟩:=aB h;refine aJ (.a 1 ?_);refine .k (rM (oR B) Tryz.call162 (.cons (.I2 Y Y (.VL sO sO)) .nil) (XO.WL (.v (.v (.v .nil))))) (.f [0,1,5,6,7] ?_);refine dI [0,1,5,6,7,19] ?_;refine aU h Y (fun z h=>?_) (fun z h=>?_)
 ·refine aL [0,1,4] ?_;cases h;exact aH (eZ u Y (aC [(403,9053),(402,9052),(401,9051),(400,9050)]))
 refine aG ?_;refine aL [0,1] ?_;refine aF ?_;obtain⟨E,C,h⟩:=aB h;refine eD 9 mixed (by exact(.k (aD Y) (.k (aD Y) (.k (aK Y) (.k (aA 20 Y Fa Y S3 Y Y) (.k (aI Y Y Y G3 S3) (.k (aD Y) (.k (aK Y) (.k (aA 21 Y Fa Y S3 Y Y) (.k (aI Y Y Y G3 S3) .nil)))))))))) (by exact(J.t (sQ (H:=[9200]) (K:=[9200]) (Bv [(9000,9200)]) (eT _) (fun A=>iA A C) KD (.cons (.dir Y) (.cons (.nq _) (.cons (.dir Y) (.cons (.dir Y) .nil)))) (fun A=>(.box Y .nil)) (fun A=>(.box Y .nil Y)) (fun _=>rfl) Y Y (fun _=>rfl) Y Y) (jz [0,1,4]))) ?_;cases h;exact aH (eZ u Y (aC [(403,9053),(402,9052),(401,9051),(400,9050)]))
end Go.Cn
set_option maxRecDepth 100000
set_option maxHeartbeats 4000000
namespace Go.Cn
open Go Go.Sw Go.Mo Go.Proofs
variable {gobj:Obj}
theorem wH(A:Nat->Nat){b0 b1 b2 b3 b4 b5 b6 b7 b8 b9 bA bB bC bD bE bF bG bH bI bJ bK bL r}(h:gO b0 b1 b2 b3 b4 b5 b6 b7 b8 b9 bA bB bC bD bE bF bG bH bI bJ bK bL=some r):
 VR Tryz.prog 71 [.ptr 9000 0,.ptr 9200 0] [(9000,.box 93 [.v Q0 b0,.ptr 9100 0,.v Q0 b1,.v Q0 b2,.v Q0 b3,.ref 9050,.v Kv b5,.ref 9051,.v Q0 b7,.v Nz b8,.v Q0 b9,.v Q0 bA,.ref 9052,.v (Wr.ZQ (.pointer none) rfl) (),.v Q0 bC,.v Q0 bD,.v Q0 bE,.v Q0 bF,.v (Wr.pr Q0 Q0) bG,.ref 9053] (some (A 9000))),(9100,.box 188 [.v Q0 bI,.v Q2 bJ] (some (A 9100))),(9200,.box 188 [.v Q0 bK,.v Q2 bL] (some (A 9200))),(9050,.arr 30 aM b4),(9051,.mp Q0 Q5 b6),(9052,.arr 3 Q0 bB),(9053,.arr 135 (Wr.pr Wr.bool (Wr.pr Wr.bool (Wr.sl (Wr.int .u8)))) bH)] (.v Q9 r.1) (kM 9000 (some (A 9000)) 9100 (some (A 9100)) 9200 (some (A 9200)) 400 401 402 403 b0 b1 b2 b3 b4 b5 b6 b7 b8 b9 bA bB r.2.1 r.2.2.1 r.2.2.2.1 r.2.2.2.2.1 r.2.2.2.2.2.1 bH bI bJ r.2.2.2.2.2.2.1 r.2.2.2.2.2.2.2):=by
 refine VR.of Tryz.func71 Y Tryz.ntmps71 Y ?_;intro S w R z;unfold gO at h;refine aL [0,1] ?_;refine aJ (.a 5 ?_);refine .k (bP Lq (.cons (Z.ZQ (u:=(.pointer none)) Y) (.cons (Z.int .i64) (.cons (Z.int .i64) (.cons (Z.int .i64) .nil)))) (.cons Y (.dir Y) Y Y Y Y .nil)) (.k (bP Lr (.cons (Z.int .i64) (.cons (Z.int .i64) .nil)) (.cons Y (.dir Y) Y Y Y Y .nil)) (.k (bP CL (.cons (Z.ZQ (u:=(.pointer none)) Y) (.cons (Z.int .i64) (.cons (Z.int .i64) (.cons (Z.int .i64) (.cons (Z.int .i64) (.cons (Z.pr (Z.int .i64) (Z.int .i64)) .nil)))))) (.agg 0 4 Y Y Y Y Y Y (.cons Y (.dir Y) Y Y Y Y (.cons Y (.agg Y (.same (.same .nil)) (.VL sO sO) Y) Y Y Y Y .nil)))) ?_));refine .a 2 ?_;refine .t (vQ 13 6 Y Y Y Y Y Y Y TE) (.f [0,1] ?_);obtain⟨C,B,h⟩:=aB h;refine aJ (.a 5 ?_);refine .t (eO [9000,9100,9200,9050,9051,9052,9053] (uU [(9000,9000),(9100,9100),(9200,9200),(9050,9050),(9051,9051),(9052,9052),(9053,9053),(400,101),(401,102),(402,103),(403,104)]) (dD Y) (fun A=>sD A B) NX (fun A=>(.box Y (.box Y (.box Y (.arr (.mp (.arr (.arr .nil Y) Y) Y) Y) Y) Y) Y))) (.f [0,1,4] ?_);cases h;exact aH (eZ z Y (aC [(403,104),(402,103),(401,102),(400,101)]))
def vH(r:(Option Q3)×(Option Int)):Slot:=match r.1 with | none=> .WL [.v (Wr.ZQ (.pointer none) rfl) (),.v Q9 r.2] | some z=> .WL [.ptr 300 0,.v Q9 r.2]
def vI(r:(Option Q3)×(Option Int)):List (Nat×VS):=match r.1 with | none=>[] | some z=>(Tl 300 none 301 none 302 none 400 401 402 403 z)
theorem Ag{a0 r}(h:iK a0=some r):
 WE Tryz.prog 42 [.v Q0 a0] (vH r) (vI r):=by
 refine WE.of Tryz.func42 Y Tryz.ntmps42 Y ?_;intro S w z;unfold iK at h;refine aJ (.k (eM Y) (.f [0] ?_));refine aJ (.a 1 ?_);refine .k (fL (new:=[(101,.arr 135 (Wr.pr Wr.bool (Wr.pr Wr.bool (Wr.sl (Wr.int .u8)))) ([]:Ts))]) OJ (.cons (Z.int .i64) (.cons (Z.ZQ (u:=(.pointer none)) Y) (.cons (Z.int .i64) (.cons (Z.int .i64) (.cons (Z.int .i64) (.cons (Z.sl aM) (.cons (Z.pr (Z.int .i64) (Z.pr (Z.sl gJ) (Z.pr (Z.sl pG) Z.bool))) (.cons (Z.X2 Q0 Q5) (.cons (Z.int .i64) (.cons (Z.pr (Z.int .i64) (Z.pr (Z.int .i64) (Z.sl Q8))) (.cons (Z.int .i64) (.cons (Z.int .i64) (.cons (Z.sl Q0) (.cons (Z.ZQ (u:=(.pointer none)) Y) (.cons (Z.int .i64) (.cons (Z.int .i64) (.cons (Z.int .i64) (.cons (Z.int .i64) (.cons (Z.pr (Z.int .i64) (Z.int .i64)) (.ref 101 Y .nil)))))))))))))))))))) (.cons .nil) Y (.cons Y (.dir Y) Y Y Y Y .nil)) (.k (zO 102 Y Y) (.f [0,4] ?_));refine aF ?_;obtain⟨N,B,h⟩:=aB h;rcases E3:N.1 with _ | z2
 ·replace h:=vO E3 h;refine gC (.a 1 ?_);refine .k (aO (tI E3 B) RM (.cons (.dir Y) .nil)) (.f [0,4,5,6] ?_);refine dI [0,4,5,6,18] ?_;refine aU h Y (fun E h=>?_) (fun E h=>?_)
  ·refine aJ (.a 1 ?_);refine .k (eM Y) (.f [2,3] ?_);cases h;exact aH (bR z dX Y (RV.tmp Y) (RV.tmp Y) .nil Y)
  refine aG ?_;refine aF ?_;obtain⟨O,C,h⟩:=aB h;rcases qg:O.1 with _ | z5
  ·replace h:=vO qg h;refine gC (.a 1 ?_);refine .k (aO (tI qg C) RM (.cons (.dir Y) .nil)) (.f [0,4,5,6,7] ?_);refine dI [0,4,5,6,7,26] ?_;refine aU h Y (fun F h=>?_) (fun F h=>?_)
   ·refine aJ (.a 1 ?_);refine .k (eM Y) (.f [2,3] ?_);cases h;exact aH (bR z dX Y (RV.tmp Y) (RV.tmp Y) .nil Y)
   refine aG ?_;refine aL [4,5,7] ?_;refine aF ?_;refine aF ?_;cases h
  ·replace h:=vP qg h;refine gC (.a 1 ?_);refine .k (fM 105000 (tJ qg C) RM (.cons (.dir Y) .nil) Y) (.f [0,4,5,6,7] ?_);refine dI [0,4,5,6,7,26] ?_;refine aU h Y (fun G h=>?_) (fun G h=>?_)
   ·refine aJ (.a 1 ?_);refine .k (eM Y) (.f [2,3] ?_);cases h;exact aH (bR z dX Y (RV.tmp Y) (RV.tmp Y) .nil Y)
   refine aG ?_;refine aL [4,5,7] ?_;refine aF ?_;refine aF ?_;cases h
 ·replace h:=vP E3 h;refine gC (.a 1 ?_);refine .k (fM 106000 (tJ E3 B) RM (.cons (.dir Y) .nil) Y) (.f [0,4,5,6] ?_);refine dI [0,4,5,6,18] ?_;refine aU h Y (fun H h=>?_) (fun H h=>?_)
  ·refine aJ (.a 1 ?_);refine .k (eM Y) (.f [2,3] ?_);cases h;exact aH (bR z dX Y (RV.tmp Y) (RV.tmp Y) .nil Y)
  refine aG ?_;refine aF ?_;obtain⟨P,D,h⟩:=aB h;rcases nv:P.1 with _ | al
  ·replace h:=vO nv h;refine gC (.a 1 ?_);refine .k (aO (tI nv D) RM (.cons (.dir Y) .nil)) (.f [0,4,5,6,7] ?_);refine dI [0,4,5,6,7,26] ?_;refine aU h Y (fun I h=>?_) (fun I h=>?_)
   ·refine aJ (.a 1 ?_);refine .k (eM Y) (.f [2,3] ?_);cases h;exact aH (bR z dX Y (RV.tmp Y) (RV.tmp Y) .nil Y)
   refine aG ?_;refine aL [4,5,7] ?_;obtain⟨U,Q,h⟩:=aB h;refine jW (.a 2 ?_);refine .t (eO [102,106000,101] (uU [(9000,102),(9100,106000),(9050,101),(400,108),(401,109),(402,110),(403,111)]) (dD Y) (fun A=>pY A Q) Tryz.call70 (fun A=>(.box Y (.box Y (.arr (.mp (.arr (.arr .nil Y) Y) Y) Y) Y) Y))) (.f [4,7,8] ?_);refine aL [4,7,8,44] ?_;refine aU h Y (fun K h=>?_) (fun K h=>?_)
   ·refine aJ (.a 1 ?_);refine .k (eM Y) (.f [2,3] ?_);cases h;exact aH (bR z dX Y (RV.tmp Y) (RV.tmp Y) .nil Y)
   refine aG ?_;refine aF ?_;cases h
  ·replace h:=vP nv h;refine gC (.a 1 ?_);refine .k (fM 112000 (tJ nv D) RM (.cons (.dir Y) .nil) Y) (.f [0,4,5,6,7] ?_);refine dI [0,4,5,6,7,26] ?_;refine aU h Y (fun L h=>?_) (fun L h=>?_)
   ·refine aJ (.a 1 ?_);refine .k (eM Y) (.f [2,3] ?_);cases h;exact aH (bR z dX Y (RV.tmp Y) (RV.tmp Y) .nil Y)
   refine aG ?_;refine aL [4,5,7] ?_;obtain⟨V,R,h⟩:=aB h;refine jW (.a 2 ?_);refine .t (eO [102,106000,101] (uU [(9000,102),(9100,106000),(9050,101),(400,113),(401,114),(402,115),(403,116)]) (dD Y) (fun A=>pY A R) Tryz.call70 (fun A=>(.box Y (.box Y (.arr (.mp (.arr (.arr .nil Y) Y) Y) Y) Y) Y))) (.f [4,7,8] ?_);refine aL [4,7,8,44] ?_;refine aU h Y (fun M h=>?_) (fun M h=>?_)
   ·refine aJ (.a 1 ?_);refine .k (eM Y) (.f [2,3] ?_);cases h;exact aH (bR z dX Y (RV.tmp Y) (RV.tmp Y) .nil Y)
   refine aG ?_;obtain⟨X,T,h⟩:=aB h;refine aJ (.a 3 ?_);refine .t (eO [102,106000,112000,113,114,115,116] (uU [(9000,102),(9100,106000),(9200,112000),(9050,113),(9051,114),(9052,115),(9053,116),(400,117),(401,118),(402,119),(403,120)]) (dD Y) (fun A=>wH A T) Tryz.call71 (fun A=>(.box Y (.box Y (.box Y (.arr (.mp (.arr (.arr .nil Y) Y) Y) Y) Y) Y) Y))) (.f [2,3] ?_);cases h;exact aH (wN z dX Y (aC [(300,102),(403,120),(302,112000),(402,119),(401,118),(400,117),(301,106000)]))
theorem Gr{a0:Int}{r:(Option Q3)×(Option Int)}(hz:r.1=none)(h:iK a0=some r):WE Tryz.prog 42 [.v Q0 a0] (.WL [.v (Wr.ZQ (.pointer none) rfl) (),.v Q9 r.2]) []:=by
 have:=Ag h;unfold vH vI at this;rw[hz] at this;exact this
theorem Gs{a0:Int}{r:(Option Q3)×(Option Int)}{z:Q3}(hz:r.1=some z)(h:iK a0=some r):WE Tryz.prog 42 [.v Q0 a0] (.WL [.ptr 300 0,.v Q9 r.2]) (Tl 300 none 301 none 302 none 400 401 402 403 z):=by
 have:=Ag h;unfold vH vI at this;rw[hz] at this;exact this
theorem Jr{a0 r}(h:uE a0=some r):
 WE Tryz.prog 72 [.v Q0 a0] (.v (Em [104,106,107,109,111,112,113,115,117,119,120]) r) []:=by
 refine WE.of Tryz.func72 Y Tryz.ntmps72 Y ?_;intro S w u;unfold uE at h;refine aJ (.k (Bx [104,106,107,109,111,112,113,115,117,119,120] 11 Y) (.f [0] ?_));refine dI [3] ?_;refine bQ ?_;refine aL [3,4] ?_;refine aU h Y (fun z h=>?_) (fun z h=>?_)
 ·refine aJ (.k (qX [104,106,107,109,111,112,113,115,117,119,120] 0 Y lR) (.f [2] ?_));refine aH ?_;refine eI ?_;cases h;exact aY u dX Y (RV.tmp Y) .nil Y
 refine aL [3,6] ?_;refine aU h Y (fun A h=>?_) (fun A h=>?_)
 ·refine aJ (.k (qX [104,106,107,109,111,112,113,115,117,119,120] 1 Y lR) (.f [2] ?_));refine aH ?_;refine eI ?_;cases h;exact aY u dX Y (RV.tmp Y) .nil Y
 refine aL [3,8] ?_;refine aU h Y (fun B h=>?_) (fun B h=>?_)
 ·refine aJ (.k (qX [104,106,107,109,111,112,113,115,117,119,120] 2 Y lR) (.f [2] ?_));refine aH ?_;refine eI ?_;cases h;exact aY u dX Y (RV.tmp Y) .nil Y
 refine aL [3,10] ?_;refine aU h Y (fun C h=>?_) (fun C h=>?_)
 ·refine aJ (.k (qX [104,106,107,109,111,112,113,115,117,119,120] 3 Y lR) (.f [2] ?_));refine aH ?_;refine eI ?_;cases h;exact aY u dX Y (RV.tmp Y) .nil Y
 refine aL [3,12] ?_;refine aU h Y (fun D h=>?_) (fun D h=>?_)
 ·refine aJ (.k (qX [104,106,107,109,111,112,113,115,117,119,120] 4 Y lR) (.f [2] ?_));refine aH ?_;refine eI ?_;cases h;exact aY u dX Y (RV.tmp Y) .nil Y
 refine aL [3,14] ?_;refine aU h Y (fun E h=>?_) (fun E h=>?_)
 ·refine aJ (.k (qX [104,106,107,109,111,112,113,115,117,119,120] 5 Y lR) (.f [2] ?_));refine aH ?_;refine eI ?_;cases h;exact aY u dX Y (RV.tmp Y) .nil Y
 refine aL [3,16] ?_;refine aU h Y (fun F h=>?_) (fun F h=>?_)
 ·refine aJ (.k (qX [104,106,107,109,111,112,113,115,117,119,120] 6 Y lR) (.f [2] ?_));refine aH ?_;refine eI ?_;cases h;exact aY u dX Y (RV.tmp Y) .nil Y
 refine aL [3,18] ?_;refine aU h Y (fun G h=>?_) (fun G h=>?_)
 ·refine aJ (.k (qX [104,106,107,109,111,112,113,115,117,119,120] 7 Y lR) (.f [2] ?_));refine aH ?_;refine eI ?_;cases h;exact aY u dX Y (RV.tmp Y) .nil Y
 refine aL [3,20] ?_;refine aU h Y (fun H h=>?_) (fun H h=>?_)
 ·refine aJ (.k (qX [104,106,107,109,111,112,113,115,117,119,120] 8 Y lR) (.f [2] ?_));refine aH ?_;refine eI ?_;cases h;exact aY u dX Y (RV.tmp Y) .nil Y
 refine aL [3,22] ?_;refine aU h Y (fun I h=>?_) (fun I h=>?_)
 ·refine aJ (.k (qX [104,106,107,109,111,112,113,115,117,119,120] 9 Y lR) (.f [2] ?_));refine aH ?_;refine eI ?_;cases h;exact aY u dX Y (RV.tmp Y) .nil Y
 refine aL [24] ?_;refine aU h Y (fun K h=>?_) (fun K h=>?_)
 ·refine aJ (.k (qX [104,106,107,109,111,112,113,115,117,119,120] 10 Y lR) (.f [2] ?_));refine aH ?_;refine eI ?_;cases h;exact aY u dX Y (RV.tmp Y) .nil Y
 refine aG ?_;refine bV ?_;refine aJ (.k (Bx [104,106,107,109,111,112,113,115,117,119,120] 11 Y) (.f [2] ?_));cases h;exact aH (aY u dX Y (RV.tmp Y) .nil Y)
theorem lQ{a0 a1 r}(h:lV a0 a1=some r):
 WE Tryz.prog 185 [.v Q1 a0,.v Q0 a1] (.v Wr.bool r) []:=by
 refine WE.of Tryz.func185 Y Tryz.ntmps185 Y ?_;intro S w A;unfold lV at h;refine aL [0,1] ?_;refine aL [0,1,5] ?_;refine dI [1,5,8,9,10] ?_;obtain⟨O,I,K,L⟩:=cF h;refine jN (σs:=fun z:Int×Int=>⟨[(1,.v Q0 a1),(5,.v Q0 z.1),(8,.v Q1 a0),(9,.v Q0 (a0.length:Int)),(10,.v Q0 z.2)],[]⟩) (fun C:Unit=>⟨[],[]⟩) I (aC []) ?_ ?_
 ·intro C D;have h:=K _ D;refine aL [4] ?_;cases h;exact aH (aY A dX Y (RV.tmp Y) .nil Y)
 intro z N h;refine aL [1,5,8,9,10,11] ?_;refine aF ?_;refine aU h Y (fun E h=>?_) (fun E h=>?_)
 ·refine aG ?_;refine aF ?_;refine bQ ?_;obtain⟨B,P,h⟩:=aB h;refine aJ (.a 2 ?_);refine .k (aN 104 Fb Y (.cons (Z.int .i64) (.cons (Z.arr 8 (Z.int .u8)) .nil)) Y) (.t (bS Y Y Y Y (.VL sO sO) jX) (.f [1,5,7,8,9,10] ?_));refine aF ?_;refine aF ?_;obtain⟨M,u,h⟩:=aB h;refine eF (σ':=⟨[(1,.v Q0 a1),(7,.ptr 104 0),(8,.v Q1 a0),(9,.v Q0 (a0.length:Int)),(10,.v Q0 z.2),(23,.v Wr.bool M)],[(104,.box 214 [.v Q0 B.1,.v aM B.2])]⟩) ?_ ?_
  ·refine cd u (fun F u=>?_) (fun F u=>?_)
   ·cases u;exact jy
   cases u;exact jy
  refine aU h Y (fun G h=>?_) (fun G h=>?_)
  ·refine aL [4] ?_;refine aH ?_;refine eI ?_;cases h;refine gB fun H=>?_;obtain rfl:=L _ H;exact aY A dX Y (RV.tmp Y) .nil Y
  refine aG ?_;refine eV [1,5,8,9,10] ?_;refine bV ?_;refine eV [1,5,8,9,10] ?_;cases h;exact cR (aC [])
 cases h;exact dE (dM (aC []))
theorem tD{a0 a1 r}(h:lL a0 a1=some r):
 WE Tryz.prog 139 [.v Kv a0,.v Q0 a1] (.v Q9 r) []:=by
 refine WE.of Tryz.func139 Y Tryz.ntmps139 Y ?_;intro S w A;unfold lL at h;refine aJ (.k (cJ 101 Y (.VL sO (.VL sO (.VL sO sO))) Y) (.f [1,2] ?_));refine aF ?_;refine aF ?_;obtain⟨U,u,h⟩:=aB h;refine eF (σ':=⟨[(1,.v Q0 a1),(2,.ptr 101 0),(22,.v Wr.bool U)],[(101,.box 80 [.v Q0 a0.1,.v Q1 a0.2.1,.v (Wr.sl pG) a0.2.2.1,.v Wr.bool a0.2.2.2])]⟩) ?_ ?_
 ·refine cd u (fun G u=>?_) (fun G u=>?_)
  ·cases u;exact jy
  refine cd u (fun H u=>?_) (fun H u=>?_)
  ·cases u;exact jy
  refine cd u (fun I u=>?_) (fun I u=>?_)
  ·cases u;exact jy
  cases u;exact jy
 refine aU h Y (fun K h=>?_) (fun K h=>?_)
 ·refine aL [4] ?_;cases h;exact aH (aY A dX Y (RV.tmp Y) .nil Y)
 refine aG ?_;refine dI [1,2,27] ?_;refine aU h Y (fun L h=>?_) (fun L h=>?_)
 ·refine aL [4] ?_;cases h;exact aH (aY A dX Y (RV.tmp Y) .nil Y)
 refine aG ?_;refine aF ?_;refine aF ?_;obtain⟨V,u,h⟩:=aB h;refine eF (σ':=⟨[(1,.v Q0 a1),(2,.ptr 101 0),(43,.v Wr.bool V)],[(101,.box 80 [.v Q0 a0.1,.v Q1 a0.2.1,.v (Wr.sl pG) a0.2.2.1,.v Wr.bool a0.2.2.2])]⟩) ?_ ?_
 ·obtain⟨af,C,u⟩:=aB u;refine cd u (fun z u=>?_) (fun z u=>?_)
  ·cases u;exact(J.cons (.none Y) (aA 1 Y RP Y Ij Y Y) Y Y (J.cons (.none Y) (aI Y Y Y FP Ij) Y Y (J.cons (.none Y) (aD Y) Y Y (J.cons (.none Y) (aO (lQ C) FD (.cons (.dir Y) (.cons (.dir Y) .nil))) Y Y (J.cons (.none Y) (Ir Y) Y Y (J.cons (.none Y) (aD Y) Y Y (J.left (GK.H7 34 Y Y Y z) Y (J.left (GK.H7 34 Y Y Y z) Y (J.left (GK.H7 34 Y Y Y z) Y (J.left (tZ 37 Y Y Y) Y (J.left (tZ 37 Y Y Y) Y (J.left (tZ 37 Y Y Y) Y (J.left (tZ 37 Y Y Y) Y (J.left (GK.H7 34 Y Y Y z) Y (J.cons (.none Y) (xJ z Y Y) Y Y (J.fin (aC [])))))))))))))))))
  refine cd u (fun M u=>?_) (fun M u=>?_)
  ·cases u;refine ja 3 ?_;exact(J.k (aO (lQ C) FD (.cons (.dir Y) (.cons (.dir Y) .nil))) jy)
  cases u;refine ja 3 ?_;exact(J.k (aO (lQ C) FD (.cons (.dir Y) (.cons (.dir Y) .nil))) jy)
 refine aU h Y (fun N h=>?_) (fun N h=>?_)
 ·refine aL [4] ?_;cases h;exact aH (aY A dX Y (RV.tmp Y) .nil Y)
 refine aG ?_;refine dI [1,2,46,47,48] ?_;obtain⟨al,X,aa,ab⟩:=cF h;refine jN (σs:=fun B:Int=>⟨[(1,.v Q0 a1),(2,.ptr 101 0),(46,.v (Wr.sl pG) a0.2.2.1),(47,.v Q0 (a0.2.2.1.length:Int)),(48,.v Q0 B)],[(101,.box 80 [.v Q0 a0.1,.v Q1 a0.2.1,.v (Wr.sl pG) a0.2.2.1,.v Wr.bool a0.2.2.2])]⟩) (fun E:Unit=>⟨[],[]⟩) X (aC []) ?_ ?_
 ·intro E F;have h:=aa _ F;refine aL [4] ?_;cases h;exact aH (aY A dX Y (RV.tmp Y) .nil Y)
 intro B ad h;refine aL [1,2,46,47,48,49] ?_;refine aF ?_;refine aU h Y (fun O h=>?_) (fun O h=>?_)
 ·refine aG ?_;refine aF ?_;refine bQ ?_;obtain⟨qw,am,h⟩:=aB h;refine aJ (.a 3 ?_);refine .k (aN 113 Pg Y (.cons (Z.int .i64) (.cons (Z.sl gJ) .nil)) Y) ?_;refine .a 1 ?_;refine .t (bS Y Y Y Y (.VL sO sO) vD) (.f [1,2,5,6,46,47,48] ?_);refine aF ?_;obtain⟨ac,u,h⟩:=aB h;refine eF (σ':=⟨[(1,.v Q0 a1),(2,.ptr 101 0),(46,.v (Wr.sl pG) a0.2.2.1),(47,.v Q0 (a0.2.2.1.length:Int)),(48,.v Q0 B),(76,.v Wr.bool ac)],[(101,.box 80 [.v Q0 a0.1,.v Q1 a0.2.1,.v (Wr.sl pG) a0.2.2.1,.v Wr.bool a0.2.2.2])]⟩) ?_ ?_
  ·obtain⟨an,D,u⟩:=aB u;refine cd u (fun P u=>?_) (fun P u=>?_)
   ·cases u;refine ja 3 ?_;exact(J.k (aO (lQ D) FD (.cons (.dir Y) (.cons (.dir Y) .nil))) jy)
   refine cd u (fun Q u=>?_) (fun Q u=>?_)
   ·cases u;refine ja 3 ?_;exact(J.k (aO (lQ D) FD (.cons (.dir Y) (.cons (.dir Y) .nil))) jy)
   cases u;refine ja 3 ?_;exact(J.k (aO (lQ D) FD (.cons (.dir Y) (.cons (.dir Y) .nil))) jy)
  refine aU h Y (fun R h=>?_) (fun R h=>?_)
  ·refine aL [4] ?_;refine aH ?_;refine eI ?_;cases h;refine gB fun T=>?_;obtain rfl:=ab _ T;exact aY A dX Y (RV.tmp Y) .nil Y
  refine aG ?_;refine bV ?_;refine eV [1,2,46,47,48] ?_;cases h;exact cR (aC [])
 cases h;exact dE (dM (aC []))
theorem oX{a0 r}(h:jF a0=some r):
 WE Tryz.prog 225 [.v (Wr.H8 pG) a0] (.ref 0) [(0,.arr 197 pG r)]:=by
 refine WE.of Tryz.func225 Y Tryz.ntmps225 Y ?_;intro S w u;unfold jF at h;refine aJ (.k (aR 101 197 pG) (.f [0] ?_));refine jW (.a 1 ?_);refine .k (xE Y FH) (.f [0,4] ?_);refine aU h Y (fun z h=>?_) (fun z h=>?_)
 ·refine aJ (.k (aR 102 197 pG) (.f [2] ?_));cases h;exact aH (wM u dX Y (aC [(0,102)]))
 refine aG ?_;obtain⟨B,A,h⟩:=aB h;refine aJ (.k (rK (e:=pG) 103 FH vD Pg Y Y Y Y .nil) ?_);refine .a 1 ?_;refine .t (cG 104 A Y Y (.H8 Y) FH QM vD Y Y Y Y Y) (.f [2] ?_);cases h;exact aH (wM u dX Y (aC [(0,104)]))
theorem qJ{a0:Ft}{r:Ft}(h:gP a0=some r):
  WE Tryz.prog 225 [.v (Wr.sl pG) a0] (.ref 0) [(0,.arr 197 pG r)]:=
 rN fun b u=>oX (by cases b with | true=>rw[u rfl] at h ⊢;exact h | false=>exact Ef h)
theorem wI{a0 r}(h:nE a0=some r):
 WE Tryz.prog 178 [.v Kv a0] (.agg [.v Q0 r.1,.ref 0,.ref 1,.v Wr.bool r.2.2.2]) [(0,.arr 214 gJ r.2.1),(1,.arr 197 pG r.2.2.1)]:=by
 refine WE.of Tryz.func178 Y Tryz.ntmps178 Y ?_;intro S w D;unfold nE at h;refine aJ (.k (cJ 101 Y (.VL sO (.VL sO (.VL sO sO))) Y) (.k (aN 102 QX Y (.cons (Z.int .i64) (.cons (Z.sl gJ) (.cons (Z.sl pG) (.cons Z.bool .nil)))) Y) (.f [1,2] ?_)));obtain⟨A,G,h⟩:=aB h;refine aJ (.a 2 ?_);refine .k (fM 103000 (eY G) KE (.cons (.dir Y) .nil) Y) (.f [1,2] ?_);obtain⟨H,I,h⟩:=aB h;refine aJ (.a 2 ?_);refine .k (fM 104000 (qJ I) Tryz.call225 (.cons (.dir Y) .nil) Y) (.f [1,2] ?_);refine dI [1,2,14,15,16] ?_;obtain⟨O,K,L,P⟩:=cF h;refine jN (σs:=fun z:Int×Ft=>⟨[(1,.ptr 101 0),(2,.ptr 102 0),(14,.ref 104000),(15,.v Q0 (H.length:Int)),(16,.v Q0 z.1)],[(101,.box 80 [.v Q0 a0.1,.ref 103000,.ref 104000,.v Wr.bool a0.2.2.2]),(102,.box 80 [.v Q0 (0:Int),.v Q1 ([]:Q6),.v (Wr.sl pG) ([]:Ft),.v Wr.bool false]),(104000,.arr 197 pG z.2),(103000,.arr 214 gJ A)]⟩) (fun u:Ft=>⟨[(1,.ptr 101 0),(2,.ptr 102 0)],[(101,.box 80 [.v Q0 a0.1,.ref 103000,.ref 104000,.v Wr.bool a0.2.2.2]),(102,.box 80 [.v Q0 (0:Int),.v Q1 ([]:Q6),.v (Wr.sl pG) ([]:Ft),.v Wr.bool false]),(103000,.arr 214 gJ A),(104000,.arr 197 pG u)]⟩) K (aC []) ?_ ?_
 ·intro u E;have h:=L _ E;refine aJ (.k (iB Y Y Y Ez yW) (.f [2] ?_));refine aH ?_;obtain rfl:=pT h;exact bZ (σ':=⟨[(2,.ptr 90 0)],[(90,.box 80 [.v Q0 a0.1,.ref 0,.ref 1,.v Wr.bool a0.2.2.2]),(1,.arr 197 pG u),(0,.arr 214 gJ A)]⟩) (aC [(90,102),(1,104000),(0,103000)]) (aY D dX Y (Fy Y Y Y Ez yW) (.cons Y (.cons Y .nil)) Y)
 intro z N h;refine aL [1,2,14,15,16,17] ?_;refine aF ?_;refine aU h Y (fun F h=>?_) (fun F h=>?_)
 ·refine aG ?_;refine aF ?_;refine bQ ?_;obtain⟨Q,B,h⟩:=aB h;refine aJ (.a 1 ?_);refine .k (jA B Y Y Y FH vD) (.k (jV (dQ B).2.2 Y Y .here Oa vD) (.k (aN 112 Pg Y (.cons (Z.int .i64) (.cons (Z.sl gJ) .nil)) Y) ?_));refine .a 1 ?_;refine .t (bS Y Y Y Y (.VL sO sO) vD) (.f [1,2,3,4,14,15,16] ?_);obtain⟨R,M,h⟩:=aB h;obtain⟨T,C,h⟩:=aB h;refine eD 8 mixed (by exact(.k (aA 2 Y RP Y TP Y Y) (.k (aI Y Y Y Tryz.isAgg78 TP) (.k (aD Y) (.k (aA 1 Y Zp Y Ij Y Y) (.k (aI Y Y Y FP Ij) (.k (Qc (fM 113000 (eY M) KE (.cons (.dir Y) .nil) Y) (fun _=>(Sw.Sub.mk id (.cons Y (.I4 Y Y) .nil) .nil Y)) Y) (.k (jA C Y Y Y FH vD) (.k (Au 1 Y Zp Y Ij Y Y) .nil))))))))) (by exact(J.t (Uh (dQ C).2.2 Y Y Y (.snd .here) Ij) (J.kp [1,2,14,15,16] []))) ?_;refine bV ?_;refine eV [1,2,14,15,16] ?_;cases h;exact cR (aC [])
 cases h;exact dE (dM (aC []))
theorem Ca{a0 a1 r}(h:sR a0 a1=some r):
 WE Tryz.prog 221 [.v gJ a0,.v Q0 a1] (.v Q0 r) []:=by
 refine WE.of Tryz.func221 Y Tryz.ntmps221 Y ?_;intro S w u;unfold sR at h;refine aJ (.k (cJ 101 Y (.VL sO sO) Y) (.f [1,2] ?_));refine aL [4] ?_;cases h;exact aH (aY u dX Y (RV.tmp Y) .nil Y)
theorem jT{a0 a1 r}(h:bY a0 a1=some r):
 WE Tryz.prog 220 [.v Q1 a0,.v Q0 a1,.ZT 221 []] (.WL [.v Q0 r.1,.v Wr.bool r.2]) []:=by
 refine WE.of Tryz.func220 Y Tryz.ntmps220 Y ?_;intro S w C;unfold bY at h;refine aL [0,1,2] ?_;refine aL [0,1,2,8] ?_;refine aL [0,1,2,8,9,10] ?_;refine aF ?_;obtain⟨N,G,H,O⟩:=cF h;refine jN (σs:=fun A:Int×Int=>⟨[(0,.v Q1 a0),(1,.v Q0 a1),(2,.ZT 221 []),(8,.v Q0 (a0.length:Int)),(9,.v Q0 A.1),(10,.v Q0 A.2)],[]⟩) (fun z:Int=>⟨[(0,.v Q1 a0),(1,.v Q0 a1),(2,.ZT 221 []),(8,.v Q0 (a0.length:Int)),(9,.v Q0 z)],[]⟩) G (aC []) ?_ ?_
 ·intro z D;have h:=H _ D;refine aF ?_;obtain⟨I,u,h⟩:=aB h;refine eF (σ':=⟨[(6,.v Q0 z),(7,.v Wr.bool I)],[]⟩) ?_ ?_
  ·refine cd u (fun B u=>?_) (fun B u=>?_)
   ·obtain⟨P,Q,u⟩:=aB u;obtain⟨R,K,u⟩:=aB u;cases u;refine ja 11 ?_;exact(J.g B (tM Y (Ca K) Tryz.call221 (.cons (.dir Y) (.cons (.dir Y) .nil))) jy)
   cases u;exact jy
  cases h;exact aH (bR C dX Y (RV.tmp Y) (RV.tmp Y) .nil Y)
 intro A M h;refine dI [0,1,2,8,9,10,17] ?_;refine aU h Y (fun E h=>?_) (fun E h=>?_)
 ·refine aG ?_;refine bQ ?_;refine aJ (.a 4 ?_);refine .k (fD (.inr Y) (by decide) Y Y) (.f [0,1,2,8,9,10,11] ?_);obtain⟨T,U,h⟩:=aB h;obtain⟨V,L,h⟩:=aB h;refine aJ (.a 6 ?_);refine .k (tM Y (Ca L) Tryz.call221 (.cons (.dir Y) (.cons (.dir Y) .nil))) (.f [0,1,2,8,9,10,11,31] ?_);refine aU h Y (fun F h=>?_) (fun F h=>?_)
  ·refine eV [0,1,2,8,9,10] ?_;cases h;exact bV (cR (aC []))
  refine eV [0,1,2,8,9,10] ?_;cases h;exact bV (cR (aC []))
 cases h;exact dE (dM (aC []))
theorem tY(A0:Nat->Nat){a0:Q6}{a1:Int}{a2:Q6}{r:Q6}(h:gL a0 a1 a2=some r):
 VR Tryz.prog 222 [.ref 9000,.v Q0 a1,.v Q1 a2] [(9000,.arr 214 gJ a0)] (.ref 0) [(0,.arr 214 gJ r)]:=by
  obtain⟨h0,h1,h2,rfl⟩:=HD h;obtain⟨i,rfl⟩:∃i:Nat,a1=(i:Int):=⟨a1.toNat,by omega⟩
  obtain⟨A,B,hA,rfl⟩:∃A B,A.length=i/\a0=A++B:=⟨a0.take i,a0.drop i,by rw[D7];omega,(U4 _ _).symm⟩
  subst hA;have H:(A++B).take ((A.length:Int)).toNat++(a2++(A++B).drop ((A.length:Int)).toNat)=A++(a2++B):=by simp
  rw[H];clear H h h0 h1;have I:(A++B).length=A.length+B.length:=sM;have N:Sw.sub (A++B) (A.length:Int) ((A++B).length:Int)=some B:=by rw[Sw.sub,WV (by omega),m9,m9,aDe,qu]
  have D:ar .add .i64 ((A++B).length:Int) (a2.length:Int)=((A.length+B.length+a2.length:Nat):Int):=by simp only[ar,IntKind.wrap_i64];omega
  have O:ar .sub .i64 (ar .add .i64 ((A++B).length:Int) (a2.length:Int)) (A.length:Int)=((B.length+a2.length:Nat):Int):=by rw[D];simp only[ar,IntKind.wrap_i64];omega
  have z:ar .add .i64 (A.length:Int) (a2.length:Int)=((A.length+a2.length:Nat):Int):=by simp only[ar,IntKind.wrap_i64];omega
  refine VR.of Tryz.func222 Y Tryz.ntmps222 Y ?_;intro S w R F
  repeat refine aF ?_
  refine gC (.k (mR gJ) (.f [0,1,2] ?_))
  repeat refine aF ?_
  refine gC (.a 2 ?_);refine .k (Lg N Y Y Y yC jX) (.f [0,1,2] ?_)
  repeat refine aF ?_
  refine eV [0,1,2,7] ?_
  repeat refine aF ?_
  refine eV [0,1,2,7,16] ?_
  repeat refine aF ?_
  rcases aC9 (cm .eql (a2.length:Int) (0:Int)) with u | u
  ·have G:a2=[]:=ig (by simp[cm] at u;simp[u]);have P:A++B=A++(a2++B):=by rw[G];rfl
   refine vM Y u ?_
   repeat refine aF ?_
   refine eV [0,1,2,6,7,16,17] ?_;refine aH ?_;rw[P];exact eZ F Y (aC [(0,9000)])
  have Q:0<a2.length:=by
   simp[cm] at u;exact pf.2 u
  have G:a2≠ []:=pf.1 Q;refine Av Y u ?_;clear u
  repeat first | refine aG ?_ | refine aF ?_
  refine eV [0,1,2,7,8] ?_
  repeat refine aF ?_
  refine eV [0,1,2,7,8,22] ?_
  repeat refine aF ?_
  rcases aC9 (cm .eql (A.length:Int) ((A++B).length:Int)) with u | u
  ·have C:B=[]:=ig (by simp[cm] at u;omega);have T:Sw.app (A++B) a2=some (A++(a2++B)):=by subst C;rw[Sw.app,WV h2];simp
   refine vM Y u ?_
   repeat refine aF ?_
   refine gC (.a 2 ?_);refine .t (cG 1 T Y Y (.sl Y) yC Kx jX Y Y Y Y Y) (.f [1,2,6,7,8,24,25] ?_);refine aH ?_;exact eZ F Y (aC [(0,1)])
  have C:B≠ []:=by
   rintro rfl;simp[cm] at u
  have ab:=pf.2 C;refine Av Y u ?_;clear u
  repeat first | refine aG ?_ | refine aF ?_
  refine Qd (t:=0) (g':=[(1,.v Q0 (A.length:Int)),(2,.v Q1 a2),(7,.v Q0 (a2.length:Int)),(8,.v Q0 ((A++B).length:Int))]) Y C Y (by exact(.cons Y (.cons Y (.cons Y (.cons Y .nil))))) Y fun b p q c j4 M l5=>?_;have E:(gJ).n=9:=rfl;refine gC (.a 4 ?_);refine .k (CY Y yC) (.k (CZ Y Y) (.f [0,1,2,7,8,31] ?_))
  repeat refine aF ?_
  rcases aC9 (cm .gtr (ar .add .i64 ((A++B).length:Int) (a2.length:Int)) (c:Int)) with u | u
  ·have ac:c<A.length+(B.length+a2.length):=by
    rw[D] at u;simp[cm] at u;omega
   refine vM Y u ?_;clear u
   repeat refine aF ?_
   refine gC (.a 2 ?_);refine .k (Ek (e:=gJ) A.length Y (by omega) Y Y Y yC jX) ?_;refine .a 5 ?_;refine .k (HC (z0:=_) (zv:=((0:Int),aS)) 1 Y Y Y Y Y O (by omega) (by omega) (by omega) Y yC U3 Kx jX Y (Z.pr (Z.int .i64) (Z.arr 8 (Z.int .u8))) Y) (.f [0,1,2,7,8,9] ?_);have K:Sw.sub (A++List.replicate (B.length+a2.length) ((0:Int),aS)) (A.length:Int) (((A++List.replicate (B.length+a2.length) ((0:Int),aS))).length:Int)=some (List.replicate (B.length+a2.length) ((0:Int),aS)):=by
    rw[Sw.sub,WV (by simp only[sM,pg];omega),m9,m9,aDe,qu]
   have U:a2.length<=((A++List.replicate (B.length+a2.length) ((0:Int),aS))).length - Int.toNat (A.length:Int):=by
    simp only[sM,pg];omega
   repeat refine aF ?_
   refine gC (.a 2 ?_);refine .k (Lg K Y Y Y yC jX) ?_;refine .a 1 ?_;refine .t (Mn K Y Y (.sl Y) U yC jX Y) (.f [0,1,2,7,8,9] ?_);have V:List.take (Int.toNat (A.length:Int)) (A++List.replicate (B.length+a2.length) ((0:Int),aS))++a2++List.drop (Int.toNat (A.length:Int)+a2.length) (A++List.replicate (B.length+a2.length) ((0:Int),aS))=(A++(a2++List.replicate B.length ((0:Int),aS))):=by
    simp[aD5,List.drop_replicate]
   rw[V];have L:Sw.sub (A++(a2++List.replicate B.length ((0:Int),aS))) (ar .add .i64 (A.length:Int) (a2.length:Int)) (((A++(a2++List.replicate B.length ((0:Int),aS)))).length:Int)=some (List.replicate B.length ((0:Int),aS)):=by
    rw[z,Sw.sub,WV (by simp only[sM,pg];omega),m9,m9,aDe,<-C9,List.drop_left' (by rw[sM])]
   have X:B.length<=((A++(a2++List.replicate B.length ((0:Int),aS)))).length - Int.toNat (ar .add .i64 (A.length:Int) (a2.length:Int)):=by
    rw[z];simp only[sM,pg];omega
   repeat refine aF ?_
   refine eD 8 mixed (by exact(.k (aD Y) (.k (aD Y) (.k (aD Y) (.k (dF Y Y Y) (.k (Lg L Y Y Y yC jX) (.k (aD Y) (.k (aD Y) (.k (zU (e:=gJ) (p+A.length*(gJ).n) B.length (c - A.length) Y (by omega) (by omega) Y (by omega) Y Y Y yC jX) .nil))))))))) (by exact(J.t (Mn L Y Y (.L0 Y Y Y Y (by omega)) X yC jX Y) (J.kp [0,1,2,7,8,9,53] []))) ?_;have gh:(List.take (Int.toNat (ar .add .i64 (A.length:Int) (a2.length:Int))) (A++(a2++List.replicate B.length ((0:Int),aS)))++B++List.drop (Int.toNat (ar .add .i64 (A.length:Int) (a2.length:Int))+B.length) (A++(a2++List.replicate B.length ((0:Int),aS))))=A++(a2++B):=by
    rw[z,m9,<-C9 A a2 (List.replicate _ _),List.take_left' (by rw[sM]),aDz (by simp only[sM,pg];omega)];simp
   rw[gh]
   repeat refine aF ?_
   refine eV [0,1,2,6,7,8,9,53,55] ?_;refine aH ?_;exact eZ F Y (aC [(0,1)])
  ·have aa:A.length+B.length+a2.length<=c:=by
    rw[D] at u;simp[cm] at u;omega
   have hq:a2.length*(gJ).n<=q:=by
    rw[E,I] at M;rw[E];omega
   refine Av Y u ?_;clear u
   repeat first | refine aG ?_ | refine aF ?_
   refine gC (.a 4 ?_);refine .k (Ek (e:=gJ) (A.length+B.length+a2.length) D (by omega) Y Y Y yC jX) (.f [0,1,2,7,8] ?_)
   repeat refine aF ?_
   refine gC (.a 5 ?_);refine .k (zU (e:=gJ) (p+(A.length+a2.length)*(gJ).n) B.length (c - (A.length+a2.length)) z (by omega) (by omega) Y (by omega) Y Y Y yC jX) (.k (Um Tryz.func251 (by kernel_rfl) (by kernel_rfl) (by kernel_rfl) (R:=4) (by kernel_rfl) Y Y Y G C Y yC jX) (.f [0,1,2,7,8,68] ?_))
   repeat refine aF ?_
   refine vM Y Y ?_
   repeat refine aF ?_
   refine eD 8 mixed (by exact(.k (aD Y) (.k (aD Y) (.k (aD Y) (.k (dF Y Y Y) (.k (zU (e:=gJ) (p+(A.length+a2.length)*(gJ).n) B.length (c - (A.length+a2.length)) z (by omega) (by omega) Y (by omega) Y Y Y yC jX) (.k (aD Y) (.k (aD Y) (.k (zU (e:=gJ) (p+A.length*(gJ).n) (B.length+a2.length) (c - A.length) Y (by omega) (by omega) Y (by omega) Y Y Y yC jX) .nil))))))))) (by exact(J.t (Ul (m:=a2.length) Y Y Y Y Y Y Y hq (by omega) yC jX Y) (J.kp [0,1,2,7,8] []))) ?_
   repeat refine aF ?_
   refine gC (.a 2 ?_);refine .k (zU (e:=gJ) (p+A.length*(gJ).n) (B.length+a2.length) (c - A.length) Y (by omega) (by omega) Y (by omega) Y Y Y yC jX) ?_;refine .a 1 ?_;refine .t (Yb Y Y (.sl Y) Y Y Y (by omega) yC jX Y) (.f [0] ?_);refine wK (Bg (t:=0) (by simp only[sM];omega) aa (by rw[E,I] at M;rw[E];omega) (by omega) Y) ?_
   repeat refine aF ?_
   refine eV [0,6,83] ?_;refine aH ?_;exact eZ F Y (aC [(0,9000)])
theorem Pm{a0 a1 a2 r}(h:tN a0 a1 a2=some r):
 WE Tryz.prog 164 [.v Kv a0,.v Q0 a1,.v gJ a2] (.WL [.v Kv r.1,.v Q9 r.2]) []:=by
 refine WE.of Tryz.func164 Y Tryz.ntmps164 Y ?_;intro S w B;unfold tN at h;refine aJ (.k (cJ 101 Y (.VL sO (.VL sO (.VL sO sO))) Y) (.k (cJ 102 Y (.VL sO sO) Y) (.k (aN 103 QX Y (.cons (Z.int .i64) (.cons (Z.sl gJ) (.cons (Z.sl pG) (.cons Z.bool .nil)))) Y) (.f [1,3,5,6] ?_))));obtain⟨I,K,h⟩:=aB h;refine jW (.k (aX Y Y (.VL sO (.VL sO (.VL sO sO))) Ez yW) ?_);refine .a 1 ?_;refine .k (aO (tD K) OA (.cons (.dir Y) (.cons (.dir Y) .nil))) (.f [1,3,5,6,8] ?_);refine aL [1,3,5,6,8,15] ?_;refine aU h Y (fun F h=>?_) (fun F h=>?_)
 ·refine aJ (.k (bP yX (.cons (Z.int .i64) (.cons (Z.sl gJ) (.cons (Z.sl pG) (.cons Z.bool .nil)))) .nil) (.f [6,7] ?_));refine aH ?_;obtain rfl:=pT h;exact bZ (σ':=⟨[(6,.ptr 90 0),(7,.v Q9 I)],[(90,.box 80 [.v Q0 (0:Int),.v Q1 ([]:Q6),.v (Wr.sl pG) ([]:Ft),.v Wr.bool false])]⟩) (aC [(90,103)]) (bR B dX Y (aT Y Y (.VL sO (.VL sO (.VL sO sO))) Ez yW) (RV.tmp Y) .nil Y)
 refine aG ?_;refine aF ?_;refine aF ?_;obtain⟨L,z,h⟩:=aB h;refine eF (σ':=⟨[(3,.ptr 101 0),(5,.ptr 102 0),(6,.ptr 103 0),(26,.v Wr.bool L)],[(101,.box 80 [.v Q0 a0.1,.v Q1 a0.2.1,.v (Wr.sl pG) a0.2.2.1,.v Wr.bool a0.2.2.2]),(102,.box 214 [.v Q0 a2.1,.v aM a2.2]),(103,.box 80 [.v Q0 (0:Int),.v Q1 ([]:Q6),.v (Wr.sl pG) ([]:Ft),.v Wr.bool false])]⟩) ?_ ?_
 ·refine cd z (fun G z=>?_) (fun G z=>?_)
  ·cases z;exact jy
  cases z;exact jy
 refine aU h Y (fun H h=>?_) (fun H h=>?_)
 ·refine aJ (.k (bP yX (.cons (Z.int .i64) (.cons (Z.sl gJ) (.cons (Z.sl pG) (.cons Z.bool .nil)))) .nil) (.f [6,7] ?_));refine aH ?_;obtain rfl:=pT h;exact bZ (σ':=⟨[(6,.ptr 90 0),(7,.v Q9 (some (1:Int)))],[(90,.box 80 [.v Q0 (0:Int),.v Q1 ([]:Q6),.v (Wr.sl pG) ([]:Ft),.v Wr.bool false])]⟩) (aC [(90,103)]) (bR B dX Y (aT Y Y (.VL sO (.VL sO (.VL sO sO))) Ez yW) (RV.tmp Y) .nil Y)
 refine aG ?_;obtain⟨u,M,h⟩:=aB h;refine aJ (.k (aX Y Y (.VL sO (.VL sO (.VL sO sO))) Ez yW) (.k (fM 105000 (wI M) Tryz.call178 (.cons (.dir Y) .nil) Y) (.f [3,5,6] ?_)));obtain⟨R,N,h⟩:=aB h;refine aJ (.a 4 ?_);refine .k (rM (jT N) Tryz.call220 (.cons (.ref Y Y) (.cons (.dir Y) (.cons .fn .nil))) (XO.WL (.v (.v .nil)))) (.f [3,5,6,9,10] ?_);refine dI [3,5,6,9,39] ?_;obtain⟨O,P,h⟩:=gT h;refine vT (fun C:Q6=>⟨[(3,.ptr 101 0),(6,.ptr 103 0)],[(101,.box 80 [.v Q0 u.1,.ref 108,.ref 105001,.v Wr.bool u.2.2.2]),(103,.box 80 [.v Q0 (0:Int),.v Q1 ([]:Q6),.v (Wr.sl pG) ([]:Ft),.v Wr.bool false]),(108,.arr 214 gJ C),(105001,.arr 197 pG u.2.2.1)]⟩) (fun x=>O x=some r) Y ?_ ?_ ?_
 ·intro C h;rw[P] at h;refine aJ (.k (iB Y Y Y Ez yW) (.f [6,7] ?_));refine aH ?_;obtain rfl:=pT h;exact bZ (σ':=⟨[(6,.ptr 90 0),(7,.v Q9 (none:Option Int))],[(90,.box 80 [.v Q0 u.1,.v Q1 C,.v (Wr.sl pG) u.2.2.1,.v Wr.bool u.2.2.2])]⟩) (aC [(90,103)]) (bR B dX Y (aT Y Y (.VL sO (.VL sO (.VL sO sO))) Ez yW) (RV.tmp Y) .nil Y)
 ·intro D;replace h:=kG D h;obtain⟨T,E,h⟩:=aB h;refine gC (.a 3 ?_);refine .k (aX Y Y (.VL sO sO) Zn jX) (.k (jA E Y Y Y yC jX) (.t (qW (dQ E).2.2 Y Y Y jX) (.f [3,6] ?_)));exact cT h (aC [(108,105000)])
 ·intro D;replace h:=kH D h;obtain⟨U,Q,h⟩:=aB h;refine gC (.a 3 ?_);refine .k (aX Y Y (.VL sO sO) Zn jX) (.k (eJ (e:=gJ) yC jX Fb Y Y Y Y (.cons (.dir Y) .nil)) (.t (eO [105000] (Bv [(9000,105000),(0,109)]) (eT _) (fun A=>tY A Q) Tryz.call222 (fun A=>(.arr .nil Y))) (.f [3,6] ?_)));exact cT h (aC [(108,109)])
theorem uM(A:Nat->Nat){a1 a2 b0 b1 b2 b3 b4 b5 b6 b7 b8 b9 bA bB bC bD bE bF bG bH bI bJ bK bL r}(h:eX a1 a2 b0 b1 b2 b3 b4 b5 b6 b7 b8 b9 bA bB bC bD bE bF bG bH bI bJ bK bL=some r):
 VR Tryz.prog 105 [.ptr 9000 0,.v Q0 a1,.v aM a2] (kM 9000 (some (A 9000)) 9100 (some (A 9100)) 9200 (some (A 9200)) 9050 9051 9052 9053 b0 b1 b2 b3 b4 b5 b6 b7 b8 b9 bA bB bC bD bE bF bG bH bI bJ bK bL) (.v Q9 r.1) (kM 9000 (some (A 9000)) 9100 (some (A 9100)) 9200 (some (A 9200)) 400 401 402 403 b0 b1 b2 b3 r.2.1 r.2.2 b6 b7 b8 b9 bA bB bC bD bE bF bG bH bI bJ bK bL):=by
 refine VR.of Tryz.func105 Y Tryz.ntmps105 Y ?_;intro S w R u;unfold eX at h;refine aJ (.k (cJ 101 Y sO Y) (.f [0,1,5] ?_));refine aF ?_;obtain⟨D,C,h⟩:=aB h;refine eD 19 mixed (by exact(.k (aD Y) (.k (aK Y) (.k (aA 1 Y Tj Y OZ Y Y) (.k (aA 6 Y vS Y yW Y Y) (.k (aI Y Y Y Ez yW) (.k (aD Y) (.k (aK Y) (.k (aA 0 Y Tj Y S3 Y Y) (.k (aI Y Y Y G3 S3) (.k (aD Y) (.k (aI Y Y Y uR lA) (.k (bP vZ (.cons (Z.int .i64) (.cons (Z.arr 8 (Z.int .u8)) .nil)) (.cons Y (.dir Y) Y Y Y Y (.cons Y (.dir Y) Y Y Y Y .nil))) (.k (aO (Pm C) Tryz.call164 (.cons (.dir Y) (.cons (.dir Y) (.cons (.agg Y (.same (.same .nil)) (.VL sO sO) Y) .nil)))) (.k (aD Y) (.k (bU Y Y) (.k (bU Y Y) (.k (aN 103 QX Y (.cons (Z.int .i64) (.cons (Z.sl gJ) (.cons (Z.sl pG) (.cons Z.bool .nil)))) Y) (XS.storeAll (.none Y) Y Y Y Y (.VL sO (.VL sO (.VL sO sO))) yW (.k (bM Y) .nil)))))))))))))))))))) (by exact(J.kp [0,1,5,7,8] [])) ?_;refine dI [0,1,5,7,8,26] ?_;refine aU h Y (fun B h=>?_) (fun B h=>?_)
 ·refine aL [0,6] ?_;cases h;exact aH (eZ u Y (aC [(403,9053),(402,9052),(401,9051),(400,9050)]))
 refine aG ?_;refine aF ?_;obtain⟨E,z,h⟩:=aB h;refine eD 14 mixed (by exact(.k (aD Y) (.k (aD Y) (.k (aK Y) (.k (aA 1 Y Tj Y OZ Y Y) (.k (aA 5 Y vS Y yA Y Y) (.k (aI Y Y Y Tu yA) (.k (aD Y) (.k (aX Y Y (.VL sO (.VL sO (.VL sO sO))) Ez yW) (.k (aI Y Y Y uR lA) (.k (aK Y) (.k (aA 1 Y Tj Y OZ Y Y) (.k (aA 6 Y vS Y yW Y Y) (XS.store (.none Y) Y Y Y Y Y Y Y yW (.k (jA z Y Y Y Jm lA) .nil))))))))))))))) (by exact(J.t (qW (dQ z).2.2 Y Y Y lA) (J.kp [0] []))) ?_;refine aL [0,6] ?_;cases h;exact aH (eZ u Y (aC [(403,9053),(402,9052),(401,9051),(400,9050)]))
theorem Ci(A:Nat->Nat){a1 b0 b1 b2 b3 b4 b5 b6 b7 b8 b9 bA bB bC bD bE bF bG bH bI bJ bK bL r}(h:nN a1 b0 b1 b2 b3 b4 b5 b6 b7 b8 b9 bA bB bC bD bE bF bG bH bI bJ bK bL=some r):
 VR Tryz.prog 104 [.ptr 9000 0,.v Q4 a1] (kM 9000 (some (A 9000)) 9100 (some (A 9100)) 9200 (some (A 9200)) 9050 9051 9052 9053 b0 b1 b2 b3 b4 b5 b6 b7 b8 b9 bA bB bC bD bE bF bG bH bI bJ bK bL) (.WL [.v aM r.1,.v Q9 r.2.1]) (Tl 9000 (some (A 9000)) 301 none 302 none 400 401 402 403 r.2.2):=by
 refine VR.of Tryz.func104 Y Tryz.ntmps104 Y ?_;intro S w R u;unfold nN at h;refine aJ (.k (cJ 101 Y (.VL sO (.VL sO (.VL sO sO))) Y) (.k (aN 102 Cg Y (.cons (Z.arr 8 (Z.int .u8)) .nil) Y) (.f [0,3,4] ?_)));obtain⟨z,B,h⟩:=aB h;refine aJ (.k (dA (e:=aM) (v:=aS) An vY I5 Y Y (Z.arr 8 (Z.int .u8))) ?_);refine .a 5 ?_;refine .t (eO [9000,9100,9200,9050,9051,9052,9053] (uU [(9000,9000),(9100,9100),(9200,9200),(9050,9050),(9051,9051),(9052,9052),(9053,9053),(400,103),(401,104),(402,105),(403,106)]) (dD Y) (fun A=>uM A B) Tryz.call105 (fun A=>(.box Y (.box Y (.box Y (.arr (.mp (.arr (.arr .nil Y) Y) Y) Y) Y) Y) Y))) (.f [0,4,5] ?_);refine aH ?_;obtain rfl:=pT h;exact kU [(0,.ptr 9000 0),(4,.ptr 90 0),(5,.v Q9 z.1)] [(90,.box 30 [.v aM aS])] (aC [(90,102),(403,106),(302,9200),(402,105),(401,104),(400,103),(301,9100)]) (dY u Y (cN Y Y Y uR lA) (RV.tmp Y) (.cons Y (.cons Y (.cons Y (.cons Y (.cons Y (.cons Y (.cons Y .nil))))))))
theorem Cj(A:Nat->Nat){a1 b0 b1 b2 b3 b4 b5 b6 b7 b8 b9 bA bB bC bD bE bF bG bH bI bJ bK bL r}(h:nO a1 b0 b1 b2 b3 b4 b5 b6 b7 b8 b9 bA bB bC bD bE bF bG bH bI bJ bK bL=some r):
 VR Tryz.prog 106 [.ptr 9000 0,.v Q4 a1] (kM 9000 (some (A 9000)) 9100 (some (A 9100)) 9200 (some (A 9200)) 9050 9051 9052 9053 b0 b1 b2 b3 b4 b5 b6 b7 b8 b9 bA bB bC bD bE bF bG bH bI bJ bK bL) (.WL [.v aM r.1,.v Q9 r.2.1]) (Tl 9000 (some (A 9000)) 301 none 302 none 400 401 402 403 r.2.2):=by
 refine VR.of Tryz.func106 Y Tryz.ntmps106 Y ?_;intro S w R u;unfold nO at h;refine aJ (.k (cJ 101 Y (.VL sO (.VL sO (.VL sO sO))) Y) (.k (aN 102 Cg Y (.cons (Z.arr 8 (Z.int .u8)) .nil) Y) (.f [0,3,4] ?_)));obtain⟨z,B,h⟩:=aB h;refine aJ (.k (dA (e:=aM) (v:=aS) An vY I5 Y Y (Z.arr 8 (Z.int .u8))) ?_);refine .a 3 ?_;refine .k (dA (e:=aM) (v:=aS) An vY I5 Y Y (Z.arr 8 (Z.int .u8))) (.t (eO [9000,9100,9200,9050,9051,9052,9053] (uU [(9000,9000),(9100,9100),(9200,9200),(9050,9050),(9051,9051),(9052,9052),(9053,9053),(400,103),(401,104),(402,105),(403,106)]) (dD Y) (fun A=>uM A B) Tryz.call105 (fun A=>(.box Y (.box Y (.box Y (.arr (.mp (.arr (.arr .nil Y) Y) Y) Y) Y) Y) Y))) (.f [0,4,5] ?_));refine aH ?_;obtain rfl:=pT h;exact kU [(0,.ptr 9000 0),(4,.ptr 90 0),(5,.v Q9 z.1)] [(90,.box 30 [.v aM aS])] (aC [(90,102),(403,106),(302,9200),(402,105),(401,104),(400,103),(301,9100)]) (dY u Y (cN Y Y Y uR lA) (RV.tmp Y) (.cons Y (.cons Y (.cons Y (.cons Y (.cons Y (.cons Y (.cons Y .nil))))))))
theorem Ah(A:Nat->Nat){a1 b0 b1 b2 b3 b4 b5 b6 b7 b8 b9 bA bB bC bD bE bF bG bH bI bJ bK bL r}(h:fZ a1 b0 b1 b2 b3 b4 b5 b6 b7 b8 b9 bA bB bC bD bE bF bG bH bI bJ bK bL=some r):
 VR Tryz.prog 108 [.ptr 9000 0,.v Q0 a1] (kM 9000 (some (A 9000)) 9100 (some (A 9100)) 9200 (some (A 9200)) 9050 9051 9052 9053 b0 b1 b2 b3 b4 b5 b6 b7 b8 b9 bA bB bC bD bE bF bG bH bI bJ bK bL) (.WL [.v aM r.1,.v Q9 r.2]) (kM 9000 (some (A 9000)) 9100 (some (A 9100)) 9200 (some (A 9200)) 400 401 402 403 b0 b1 b2 b3 b4 b5 b6 b7 b8 b9 bA bB bC bD bE bF bG bH bI bJ bK bL):=by
 refine VR.of Tryz.func108 Y Tryz.ntmps108 Y ?_;intro S w R z;unfold fZ at h;refine aJ (.k (aN 101 Cg Y (.cons (Z.arr 8 (Z.int .u8)) .nil) Y) (.f [0,1,4] ?_));refine aF ?_;refine aF ?_;obtain⟨E,u,h⟩:=aB h;refine eF (σ':=⟨[(0,.ptr 9000 0),(1,.v Q0 a1),(4,.ptr 101 0),(15,.v Wr.bool E)],((101,.box 30 [.v aM aS])::kM 9000 (some (A 9000)) 9100 (some (A 9100)) 9200 (some (A 9200)) 9050 9051 9052 9053 b0 b1 b2 b3 b4 b5 b6 b7 b8 b9 bA bB bC bD bE bF bG bH bI bJ bK bL)⟩) ?_ ?_
 ·refine cd u (fun C u=>?_) (fun C u=>?_)
  ·cases u;exact jy
  cases u;exact jy
 refine aU h Y (fun D h=>?_) (fun D h=>?_)
 ·refine aJ (.k (dA (e:=aM) (v:=aS) An vY I5 Y Y (Z.arr 8 (Z.int .u8))) (.f [0,4,5] ?_));refine aH ?_;obtain rfl:=pT h;exact kU [(0,.ptr 9000 0),(4,.ptr 90 0),(5,.v Q9 (some (1:Int)))] [(90,.box 30 [.v aM aS])] (aC [(90,101),(403,9053),(402,9052),(401,9051),(400,9050)]) (dY z Y (cN Y Y Y uR lA) (RV.tmp Y) (.cons Y (.cons Y (.cons Y (.cons Y (.cons Y (.cons Y (.cons Y .nil))))))))
 refine aG ?_;obtain⟨F,B,h⟩:=aB h;refine aJ (.a 6 ?_);refine .k (jA B Y Y Y Jm lA) (.k (jV (dQ B).2.2 Y Y .here uR lA) (.f [0,4,5] ?_));refine aH ?_;obtain rfl:=pT h;exact kU [(0,.ptr 9000 0),(4,.ptr 90 0),(5,.v Q9 (none:Option Int))] [(90,.box 30 [.v aM F])] (aC [(90,101),(403,9053),(402,9052),(401,9051),(400,9050)]) (dY z Y (cN Y Y Y uR lA) (RV.tmp Y) (.cons Y (.cons Y (.cons Y (.cons Y (.cons Y (.cons Y (.cons Y .nil))))))))
theorem Ck(A:Nat->Nat){a1 b0 b1 b2 b3 b4 b5 b6 b7 b8 b9 bA bB bC bD bE bF bG bH bI bJ bK bL r}(h:nP a1 b0 b1 b2 b3 b4 b5 b6 b7 b8 b9 bA bB bC bD bE bF bG bH bI bJ bK bL=some r):
 VR Tryz.prog 107 [.ptr 9000 0,.v Q4 a1] (kM 9000 (some (A 9000)) 9100 (some (A 9100)) 9200 (some (A 9200)) 9050 9051 9052 9053 b0 b1 b2 b3 b4 b5 b6 b7 b8 b9 bA bB bC bD bE bF bG bH bI bJ bK bL) (.WL [.v aM r.1,.v Q9 r.2.1]) (Tl 9000 (some (A 9000)) 301 none 302 none 400 401 402 403 r.2.2):=by
 refine VR.of Tryz.func107 Y Tryz.ntmps107 Y ?_;intro S w R z;unfold nP at h;refine aJ (.k (cJ 101 Y (.VL sO (.VL sO (.VL sO sO))) Y) (.k (aN 102 Cg Y (.cons (Z.arr 8 (Z.int .u8)) .nil) Y) (.f [0,3,4] ?_)));obtain⟨u,B,h⟩:=aB h;refine aJ (.a 3 ?_);refine .t (eO [9000,9100,9200,9050,9051,9052,9053] (uU [(9000,9000),(9100,9100),(9200,9200),(9050,9050),(9051,9051),(9052,9052),(9053,9053),(400,103),(401,104),(402,105),(403,106)]) (dD Y) (fun A=>Ah A B) Tryz.call108 (fun A=>(.box Y (.box Y (.box Y (.arr (.mp (.arr (.arr .nil Y) Y) Y) Y) Y) Y) Y))) (.f [0,4,5] ?_);refine aH ?_;obtain rfl:=pT h;exact kU [(0,.ptr 9000 0),(4,.ptr 90 0),(5,.v Q9 u.2)] [(90,.box 30 [.v aM u.1])] (aC [(90,102),(403,106),(302,9200),(402,105),(401,104),(400,103),(301,9100)]) (dY z Y (cN Y Y Y uR lA) (RV.tmp Y) (.cons Y (.cons Y (.cons Y (.cons Y (.cons Y (.cons Y (.cons Y .nil))))))))
theorem Ai(A:Nat->Nat){a1 a2 b0 b1 b2 b3 b4 b5 b6 b7 b8 b9 bA bB bC bD bE bF bG bH bI bJ bK bL r}(h:jU a1 a2 b0 b1 b2 b3 b4 b5 b6 b7 b8 b9 bA bB bC bD bE bF bG bH bI bJ bK bL=some r):
 VR Tryz.prog 165 [.ptr 9000 1,.v Q1 a1,.v Q0 a2] (kM 9000 (some (A 9000)) 9100 (some (A 9100)) 9200 (some (A 9200)) 9050 9051 9052 9053 b0 b1 b2 b3 b4 b5 b6 b7 b8 b9 bA bB bC bD bE bF bG bH bI bJ bK bL) (.v Q9 r.1) (kM 9000 (some (A 9000)) 9100 (some (A 9100)) 9200 (some (A 9200)) 400 401 402 403 b0 b1 r.2.1 b3 b4 b5 b6 b7 b8 b9 bA bB bC bD bE bF bG bH r.2.2.1 r.2.2.2 bK bL):=by
 refine VR.of Tryz.func165 Y Tryz.ntmps165 Y ?_;intro S w R u;unfold jU at h;refine aL [0,1,2] ?_;refine aF ?_;refine aF ?_;obtain⟨C,B,h⟩:=aB h;refine eD 10 mixed (by exact(.k (aD Y) (.k (aK Y) (.k (aA 1 Y Fa Y Ii Y Y) (.k (aI Y Y Y Ob Ii) (.k (aD Y) (.k (aD Y) (.k (aD Y) (.k (aK Y) (.k (aA 4 Y Fa Y S3 Y Y) (.k (aI Y Y Y G3 S3) .nil))))))))))) (by exact(J.t (eO [9100] (Bv [(9000,9100)]) (eT _) (fun A=>iA A B) KD (fun A=>(.box Y .nil Y))) (jz [0,2,7]))) ?_;refine aL [0,2,7,20] ?_;refine aU h Y (fun z h=>?_) (fun z h=>?_)
 ·refine aL [0,6] ?_;cases h;exact aH (eZ u Y (aC [(403,9053),(402,9052),(401,9051),(400,9050)]))
 refine aG ?_;refine aL [0] ?_;refine aL [0,6] ?_;cases h;exact aH (eZ u Y (aC [(403,9053),(402,9052),(401,9051),(400,9050)]))
theorem Oj{a0 a1 r}(h:rT a0 a1=some r):
 WE Tryz.prog 166 [.v Kv a0,.v Q0 a1] (.WL [.v Kv r.1,.v Q9 r.2]) []:=by
 refine WE.of Tryz.func166 Y Tryz.ntmps166 Y ?_;intro S w z;unfold rT at h;refine aJ (.k (cJ 101 Y (.VL sO (.VL sO (.VL sO sO))) Y) (.k (aN 102 QX Y (.cons (Z.int .i64) (.cons (Z.sl gJ) (.cons (Z.sl pG) (.cons Z.bool .nil)))) Y) (.f [1,2,4] ?_)));obtain⟨E,F,h⟩:=aB h;refine jW (.k (aX Y Y (.VL sO (.VL sO (.VL sO sO))) Ez yW) ?_);refine .a 1 ?_;refine .k (aO (tD F) OA (.cons (.dir Y) (.cons (.dir Y) .nil))) (.f [2,4,6] ?_);refine aL [2,4,6,11] ?_;refine aU h Y (fun A h=>?_) (fun A h=>?_)
 ·refine aJ (.k (fL (new:=[(104,.arr 197 pG ([]:Ft))]) yX (.cons (Z.int .i64) (.cons (Z.sl gJ) (.ref 104 Y (.cons Z.bool .nil)))) (.cons .nil) Y .nil) (.f [4,5] ?_));refine aH ?_;obtain rfl:=pT h;exact bZ (σ':=⟨[(4,.ptr 90 0),(5,.v Q9 E)],[(90,.box 80 [.v Q0 (0:Int),.v Q1 ([]:Q6),.v (Wr.sl pG) ([]:Ft),.v Wr.bool false])]⟩) (aC [(90,102)]) (bR z dX Y (aT Y Y (.VL sO (.VL sO (.VL sO sO))) Ez yW) (RV.tmp Y) .nil Y)
 refine aG ?_;refine dI [2,4,16] ?_;refine aU h Y (fun B h=>?_) (fun B h=>?_)
 ·refine aJ (.k (fL (new:=[(105,.arr 197 pG ([]:Ft))]) yX (.cons (Z.int .i64) (.cons (Z.sl gJ) (.ref 105 Y (.cons Z.bool .nil)))) (.cons .nil) Y .nil) (.f [4,5] ?_));refine aH ?_;obtain rfl:=pT h;exact bZ (σ':=⟨[(4,.ptr 90 0),(5,.v Q9 (some (2:Int)))],[(90,.box 80 [.v Q0 (0:Int),.v Q1 ([]:Q6),.v (Wr.sl pG) ([]:Ft),.v Wr.bool false])]⟩) (aC [(90,102)]) (bR z dX Y (aT Y Y (.VL sO (.VL sO (.VL sO sO))) Ez yW) (RV.tmp Y) .nil Y)
 refine aG ?_;obtain⟨u,G,h⟩:=aB h;refine aJ (.k (aX Y Y (.VL sO (.VL sO (.VL sO sO))) Ez yW) (.k (fM 106000 (wI G) Tryz.call178 (.cons (.dir Y) .nil) Y) (.f [2,4] ?_)));refine aL [2,4] ?_;refine aF ?_;refine bQ ?_;refine aL [2,4,35] ?_;refine aU h Y (fun C h=>?_) (fun C h=>?_)
 ·refine aG ?_;refine bV ?_;refine aJ (.a 1 ?_);refine .t (uD 107 214 gJ Y Y Y Y Ij Y) (.f [2,4] ?_);refine aJ (.k (iB Y Y Y Ez yW) (.f [4,5] ?_));refine aH ?_;obtain rfl:=pT h;exact bZ (σ':=⟨[(4,.ptr 90 0),(5,.v Q9 (none:Option Int))],[(90,.box 80 [.v Q0 (ar .add .i64 u.1 (1:Int)),.v Q1 ([]:Q6),.v (Wr.sl pG) u.2.2.1,.v Wr.bool u.2.2.2])]⟩) (aC [(90,102)]) (bR z dX Y (aT Y Y (.VL sO (.VL sO (.VL sO sO))) Ez yW) (RV.tmp Y) .nil Y)
 refine aL [2,4,38] ?_;refine aU h Y (fun D h=>?_) (fun D h=>?_)
 ·refine gC (.a 3 ?_);refine .t (uD 108 197 pG Y Y Y Y TP Y) (.f [2,4] ?_);refine bV ?_;refine aJ (.a 1 ?_);refine .t (uD 109 214 gJ Y Y Y Y Ij Y) (.f [2,4] ?_);refine aJ (.k (iB Y Y Y Ez yW) (.f [4,5] ?_));refine aH ?_;obtain rfl:=pT h;exact bZ (σ':=⟨[(4,.ptr 90 0),(5,.v Q9 (none:Option Int))],[(90,.box 80 [.v Q0 (ar .add .i64 u.1 (1:Int)),.v Q1 ([]:Q6),.v (Wr.sl pG) ([]:Ft),.v Wr.bool true])]⟩) (aC [(90,102)]) (bR z dX Y (aT Y Y (.VL sO (.VL sO (.VL sO sO))) Ez yW) (RV.tmp Y) .nil Y)
 obtain⟨H,I,h⟩:=aB h;refine gC (.a 6 ?_);refine .k (bP Dm (.cons (Z.int .i64) (.cons (Z.sl gJ) .nil)) (.cons Y (.dir Y) Y Y Y Y (.cons Y (.dir Y) Y Y Y Y .nil))) (.sub (σ':=⟨[(2,.ptr 101 0),(4,.ptr 102 0),(25,.ptr 101 2),(26,.ref 106001),(27,.ptr 101 0),(28,.v Q0 (ar .add .i64 u.1 (1:Int))),(29,.ptr 101 1),(30,.v Q1 u.2.1),(31,.agg [.v Q0 (ar .add .i64 u.1 (1:Int)),.v Q1 u.2.1]),(38,.v Wr.bool (cm .eql (u.2.2.1.length:Int) (4:Int)))],[(101,.box 80 [.v Q0 (ar .add .i64 u.1 (1:Int)),.v Q1 u.2.1,.ref 106001,.v Wr.bool u.2.2.2]),(102,.box 80 [.v Q0 (0:Int),.v Q1 ([]:Q6),.v (Wr.sl pG) ([]:Ft),.v Wr.bool false]),(106001,.arr 197 pG u.2.2.1)]⟩) (Sw.Sub.mk id (.cons Y (.of_eq Y) (.cons Y (.of_eq Y) (.cons Y (.of_eq Y) (.cons Y (.of_eq Y) (.cons Y (.of_eq Y) (.cons Y (.of_eq Y) (.cons Y (.of_eq Y) (.cons Y (.I4 Y Y) (.cons Y (.agg (.cons (.of_eq Y) (.cons (.I4 Y Y) .nil))) (.cons Y (.of_eq Y) .nil)))))))))) (.box Y (.cons (.of_eq Y) (.cons (.I4 Y Y) (.cons (.of_eq Y) (.cons (.of_eq Y) .nil)))) (.box Y (.cons (.of_eq Y) (.cons (.of_eq Y) (.cons (.of_eq Y) (.cons (.of_eq Y) .nil)))) (.arr Y .nil))) Y) (.k (eJ (e:=pG) FH vD Pg Y Y Y Y (.cons (.agg Y (.same (.same .nil)) (.VL sO sO) Y) .nil)) (.t (cG 110 I Y Y (.sl Y) FH QM vD Y Y Y Y Y) (.f [2,4] ?_))));refine bV ?_;refine aJ (.a 1 ?_);refine .t (Iu Y Y Y (.nq gJ) Y Y Y Ij) (.f [2,4] ?_);refine aJ (.k (iB Y Y Y Ez yW) (.f [4,5] ?_));refine aH ?_;obtain rfl:=pT h;exact bZ (σ':=⟨[(4,.ptr 90 0),(5,.v Q9 (none:Option Int))],[(90,.box 80 [.v Q0 (ar .add .i64 u.1 (1:Int)),.v Q1 ([]:Q6),.v (Wr.sl pG) H,.v Wr.bool u.2.2.2])]⟩) (aC [(90,102)]) (bR z dX Y (aT Y Y (.VL sO (.VL sO (.VL sO sO))) Ez yW) (RV.tmp Y) .nil Y)
theorem nK(A:Nat->Nat){b0 b1 b2 b3 b4 b5 b6 b7 b8 b9 bA bB bC bD bE bF bG bH bI bJ bK bL r}(h:eP b0 b1 b2 b3 b4 b5 b6 b7 b8 b9 bA bB bC bD bE bF bG bH bI bJ bK bL=some r):
 VR Tryz.prog 103 [.ptr 9000 1] (kM 9000 (some (A 9000)) 9100 (some (A 9100)) 9200 (some (A 9200)) 9050 9051 9052 9053 b0 b1 b2 b3 b4 b5 b6 b7 b8 b9 bA bB bC bD bE bF bG bH bI bJ bK bL) (.WL []) (kM 9000 (some (A 9000)) 9100 (some (A 9100)) 9200 (some (A 9200)) 400 401 402 403 b0 b1 b2 b3 b4 b5 r b7 b8 b9 bA bB bC bD bE bF bG bH bI bJ bK bL):=by
 refine VR.of Tryz.func103 Y Tryz.ntmps103 Y ?_;intro S w R u;unfold eP at h;refine aF ?_;obtain⟨D,z,h⟩:=aB h;obtain⟨B,C,h⟩:=aB h;refine eD 14 mixed (by exact(.k (aD Y) (.k (aK Y) (.k (aA 10 Y vS Y Zo Y Y) (.k (aI Y Y Y OW Zo) (.k (aD Y) (.k (aK Y) (.k (aA 1 Y vS Y Ky Y Y) (.k (aA 3 Y Fa Y S3 Y Y) (.k (aI Y Y Y G3 S3) (.k (aD Y) (.k (aK Y) (.k (aA 5 Y vS Y yA Y Y) (.k (aI Y Y Y Tu yA) (.k (Qc (qU 102000 (cO z) Zm (.cons (.ref Y Y) .nil) Y XO.ref (YI.arr YI.nil)) (fun _=>(Sw.Sub.mk id (.cons Y (.I4 Y Y) .nil) .nil Y)) Y) .nil))))))))))))))) (by exact(J.t (Mt C Y Y Y Y QW U3 (p8.int U3) Y) (J.kp [0] []))) ?_;refine eD 11 mixed (by exact(.k (aD Y) (.k (aK Y) (.k (aA 10 Y vS Y Zo Y Y) (.k (aI Y Y Y OW Zo) (.k (aD Y) (.k (aK Y) (.k (aA 1 Y vS Y Ky Y Y) (.k (aA 3 Y Fa Y S3 Y Y) (.k (aI Y Y Y G3 S3) (.k (dF Y Y Y) (.k (dF Y Y Y) .nil)))))))))))) (by exact(J.t (Mu Y Y Y QW U3 (p8.int U3) Y) (J.kp [0] []))) ?_;refine Zy ?_;obtain rfl:=pT h;exact bZ (σ':=⟨[(0,.ptr 9000 1)],(kM 9000 (some (A 9000)) 9100 (some (A 9100)) 9200 (some (A 9200)) 400 401 402 403 b0 b1 b2 b3 b4 b5 (Ge B (ar .sub .i64 (ar .sub .i64 b2 (4:Int)) (1:Int))) b7 b8 b9 bA bB bC bD bE bF bG bH bI bJ bK bL)⟩) (aC [(403,9053),(402,9052),(401,9051),(400,9050)]) (Eh u Y (.cons Y (.cons Y (.cons Y (.cons Y (.cons Y (.cons Y (.cons Y .nil))))))))
theorem xS(A:Nat->Nat){b0 b1 b2 b3 b4 b5 b6 b7 b8 b9 bA bB bC bD bE bF bG bH bI bJ bK bL r}(h:fV b0 b1 b2 b3 b4 b5 b6 b7 b8 b9 bA bB bC bD bE bF bG bH bI bJ bK bL=some r):
 VR Tryz.prog 110 [.ptr 9000 0] (kM 9000 (some (A 9000)) 9100 (some (A 9100)) 9200 (some (A 9200)) 9050 9051 9052 9053 b0 b1 b2 b3 b4 b5 b6 b7 b8 b9 bA bB bC bD bE bF bG bH bI bJ bK bL) (.v Q9 r.1) (kM 9000 (some (A 9000)) 9100 (some (A 9100)) 9200 (some (A 9200)) 400 401 402 403 b0 b1 r.2.1 b3 b4 r.2.2.1 r.2.2.2.1 b7 b8 b9 bA bB bC bD bE bF bG bH r.2.2.2.2.1 r.2.2.2.2.2 bK bL):=by
 refine VR.of Tryz.func110 Y Tryz.ntmps110 Y ?_;intro S w R u;unfold fV at h;refine aL [0] ?_;refine aL [0,3] ?_;refine aF ?_;refine aF ?_;obtain⟨E,B,h⟩:=aB h;refine eD 14 mixed (by exact(.k (aD Y) (.k (aK Y) (.k (aA 1 Y vS Y Ky Y Y) (.k (aD Y) (.k (aK Y) (.k (aA 6 Y vS Y yW Y Y) (.k (aA 7 Y RP Y Ij Y Y) (.k (yO (off:=6) (o1:=1) Y Y Y Y (.snd (.fst .here)) FP Ij) (.k (aD Y) (.k (aK Y) (.k (aA 1 Y vS Y Ky Y Y) (.k (aA 3 Y Fa Y S3 Y Y) (.k (aI Y Y Y G3 S3) (.k (dF Y Y Y) .nil))))))))))))))) (by exact(J.t (eO [9000,9100,9200,9050,9051,9052,9053] (uU [(9000,9000),(9100,9100),(9200,9200),(9050,9050),(9051,9051),(9052,9052),(9053,9053),(400,101),(401,102),(402,103),(403,104)]) (dD Y) (fun A=>Ai A B) Tryz.call165 (fun A=>(.box Y (.box Y (.box Y (.arr (.mp (.arr (.arr .nil Y) Y) Y) Y) Y) Y) Y))) (jz [0,3,4]))) ?_;refine aL [0,3,4,26] ?_;refine aU h Y (fun z h=>?_) (fun z h=>?_)
 ·refine aL [0,2] ?_;cases h;exact aH (eZ u Y (aC [(403,104),(402,103),(401,102),(400,101)]))
 refine aG ?_;refine aF ?_;obtain⟨F,C,h⟩:=aB h;refine eD 16 mixed (by exact(.k (aD Y) (.k (aK Y) (.k (aA 6 Y vS Y yW Y Y) (.k (aI Y Y Y Ez yW) (.k (aD Y) (.k (aK Y) (.k (aA 1 Y vS Y Ky Y Y) (.k (aA 2 Y Fa Y S3 Y Y) (.k (aI Y Y Y G3 S3) (.k (aO (Oj C) Tryz.call166 (.cons (.dir Y) (.cons (.dir Y) .nil))) (.k (aD Y) (.k (bU Y Y) (.k (bU Y Y) (.k (aN 106 QX Y (.cons (Z.int .i64) (.cons (Z.sl gJ) (.cons (Z.sl pG) (.cons Z.bool .nil)))) Y) (XS.storeAll (.none Y) Y Y Y Y (.VL sO (.VL sO (.VL sO sO))) yW (.k (bM Y) .nil))))))))))))))))) (by exact(J.kp [0,3,5,6] [])) ?_;refine aJ (.a 1 ?_);refine .k (aX Y Y (.VL sO (.VL sO (.VL sO sO))) Ez yW) (.f [0,3,6] ?_);obtain⟨G,D,h⟩:=aB h;refine aJ (.a 1 ?_);refine .t (eO [9000,9100,9200,101,102,103,104] (uU [(9000,9000),(9100,9100),(9200,9200),(9050,101),(9051,102),(9052,103),(9053,104),(400,107),(401,108),(402,109),(403,110)]) (dD Y) (fun A=>nK A D) Tryz.call103 (fun A=>(.box Y (.box Y (.box Y (.arr (.mp (.arr (.arr .nil Y) Y) Y) Y) Y) Y) Y))) (.f [0,6] ?_);refine aL [0,2] ?_;cases h;exact aH (eZ u Y (aC [(403,110),(402,109),(401,108),(400,107)]))
theorem Cl(A:Nat->Nat){a1 b0 b1 b2 b3 b4 b5 b6 b7 b8 b9 bA bB bC bD bE bF bG bH bI bJ bK bL r}(h:nQ a1 b0 b1 b2 b3 b4 b5 b6 b7 b8 b9 bA bB bC bD bE bF bG bH bI bJ bK bL=some r):
 VR Tryz.prog 109 [.ptr 9000 0,.v Q4 a1] (kM 9000 (some (A 9000)) 9100 (some (A 9100)) 9200 (some (A 9200)) 9050 9051 9052 9053 b0 b1 b2 b3 b4 b5 b6 b7 b8 b9 bA bB bC bD bE bF bG bH bI bJ bK bL) (.WL [.v aM r.1,.v Q9 r.2.1]) (Tl 9000 (some (A 9000)) 301 none 302 none 400 401 402 403 r.2.2):=by
 refine VR.of Tryz.func109 Y Tryz.ntmps109 Y ?_;intro S w R u;unfold nQ at h;refine aJ (.k (cJ 101 Y (.VL sO (.VL sO (.VL sO sO))) Y) (.k (aN 102 Cg Y (.cons (Z.arr 8 (Z.int .u8)) .nil) Y) (.f [0,4] ?_)));obtain⟨z,B,h⟩:=aB h;refine aJ (.k (dA (e:=aM) (v:=aS) An vY I5 Y Y (Z.arr 8 (Z.int .u8))) ?_);refine .a 1 ?_;refine .t (eO [9000,9100,9200,9050,9051,9052,9053] (uU [(9000,9000),(9100,9100),(9200,9200),(9050,9050),(9051,9051),(9052,9052),(9053,9053),(400,103),(401,104),(402,105),(403,106)]) (dD Y) (fun A=>xS A B) Tryz.call110 (fun A=>(.box Y (.box Y (.box Y (.arr (.mp (.arr (.arr .nil Y) Y) Y) Y) Y) Y) Y))) (.f [0,4,5] ?_);refine aH ?_;obtain rfl:=pT h;exact kU [(0,.ptr 9000 0),(4,.ptr 90 0),(5,.v Q9 z.1)] [(90,.box 30 [.v aM aS])] (aC [(90,102),(403,106),(302,9200),(402,105),(401,104),(400,103),(301,9100)]) (dY u Y (cN Y Y Y uR lA) (RV.tmp Y) (.cons Y (.cons Y (.cons Y (.cons Y (.cons Y (.cons Y (.cons Y .nil))))))))
theorem Ik{a0 r}(h:pR a0=some r):
 WE Tryz.prog 183 [.v Q0 a0] (.v Wr.bool r) []:=by
 refine WE.of Tryz.func183 Y Tryz.ntmps183 Y ?_;intro S w z;unfold pR at h;refine aL [0] ?_;refine aF ?_;obtain⟨B,u,h⟩:=aB h;refine eF (σ':=⟨[(2,.v Wr.bool B)],[]⟩) ?_ ?_
 ·refine cd u (fun A u=>?_) (fun A u=>?_)
  ·cases u;exact jy
  cases u;exact jy
 cases h;exact aH (aY z dX Y (RV.tmp Y) .nil Y)
theorem pC{a0 r}(h:eG a0=some r):
 WE Tryz.prog 228 [.v nV a0,.ZT 183 []] (.v Q0 r) []:=by
 refine WE.of Tryz.func228 Y Tryz.ntmps228 Y ?_;intro S w u;unfold eG at h;refine aL [0,1] ?_;refine dI [0,1,7,8] ?_;obtain⟨L,F,G,H⟩:=cF h;refine jN (σs:=fun z:Int=>⟨[(0,.v nV a0),(1,.ZT 183 []),(7,.v Q0 (a0.length:Int)),(8,.v Q0 z)],[]⟩) (fun A:Unit=>⟨[],[]⟩) F (aC []) ?_ ?_
 ·intro A B;have h:=G _ B;refine aL [4] ?_;cases h;exact aH (aY u dX Y (RV.tmp Y) .nil Y)
 intro z K h;refine aL [0,1,7,8,9] ?_;refine aF ?_;refine aU h Y (fun C h=>?_) (fun C h=>?_)
 ·refine aG ?_;refine aF ?_;refine bQ ?_;refine aL [0,1,5,7,8] ?_;obtain⟨M,N,h⟩:=aB h;obtain⟨O,I,h⟩:=aB h;refine aJ (.a 5 ?_);refine .k (tM Y (Ik I) Tryz.call183 (.cons (.dir Y) .nil)) (.f [0,1,5,7,8,16] ?_);refine aU h Y (fun D h=>?_) (fun D h=>?_)
  ·refine aL [4] ?_;refine aH ?_;refine eI ?_;cases h;refine gB fun E=>?_;obtain rfl:=H _ E;exact aY u dX Y (RV.tmp Y) .nil Y
  refine aG ?_;refine bV ?_;refine eV [0,1,7,8] ?_;cases h;exact cR (aC [])
 cases h;exact dE (dM (aC []))
theorem nH{a0 r}(h:cW a0=some r):
 WE Tryz.prog 182 [.v nV a0,.ZT 183 []] (.v Wr.bool r) []:=by
 refine WE.of Tryz.func182 Y Tryz.ntmps182 Y ?_;intro S w u;unfold cW at h;refine aL [0,1] ?_;obtain⟨A,z,h⟩:=aB h;refine aJ (.a 2 ?_);refine .k (aO (pC z) Tryz.call228 (.cons (.dir Y) (.cons (.dir Y) .nil))) (.f [4] ?_);cases h;exact aH (aY u dX Y (RV.tmp Y) .nil Y)
theorem Cb{a0 r}(h:qB a0=some r):
 WE Tryz.prog 134 [.v Q8 a0] (.v Q9 r) []:=by
 refine WE.of Tryz.func134 Y Tryz.ntmps134 Y ?_;intro S w z;unfold qB at h;refine aJ (.k (cJ 101 Y (.VL sO (.VL sO sO)) Y) (.f [1] ?_));refine aF ?_;refine aF ?_;obtain⟨F,u,h⟩:=aB h;refine eF (σ':=⟨[(1,.ptr 101 0),(10,.v Wr.bool F)],[(101,.box 144 [.v Q0 a0.1,.v nV a0.2.1,.v Q5 a0.2.2])]⟩) ?_ ?_
 ·refine cd u (fun A u=>?_) (fun A u=>?_)
  ·cases u;exact jy
  cases u;exact jy
 refine aU h Y (fun B h=>?_) (fun B h=>?_)
 ·refine aL [2] ?_;cases h;exact aH (aY z dX Y (RV.tmp Y) .nil Y)
 refine aG ?_;refine aF ?_;refine aF ?_;obtain⟨G,u,h⟩:=aB h;refine eF (σ':=⟨[(1,.ptr 101 0),(21,.v Wr.bool G)],[(101,.box 144 [.v Q0 a0.1,.v nV a0.2.1,.v Q5 a0.2.2])]⟩) ?_ ?_
 ·refine cd u (fun C u=>?_) (fun C u=>?_)
  ·cases u;exact jy
  cases u;exact jy
 refine aU h Y (fun D h=>?_) (fun D h=>?_)
 ·refine aL [2] ?_;cases h;exact aH (aY z dX Y (RV.tmp Y) .nil Y)
 refine aG ?_;obtain⟨I,H,h⟩:=aB h;refine jW (.a 2 ?_);refine .k (aO (nH H) Tryz.call182 (.cons (.dir Y) (.cons .fn .nil))) (.f [25] ?_);refine aU h Y (fun E h=>?_) (fun E h=>?_)
 ·refine aL [2] ?_;cases h;exact aH (aY z dX Y (RV.tmp Y) .nil Y)
 refine aG ?_;refine aL [2] ?_;cases h;exact aH (aY z dX Y (RV.tmp Y) .nil Y)
theorem Fu{a0 r}(h:tP a0=some r):
 WE Tryz.prog 135 [.v (Wr.sl (Wr.int .u8)) a0] (.v (Wr.int .u32) r) []:=by
 refine WE.of Tryz.func135 Y Tryz.ntmps135 Y ?_;intro S w D;unfold tP at h;refine aL [0] ?_;refine aL [0,3] ?_;refine dI [3,6,7,8] ?_;obtain⟨N,G,H,O⟩:=cF h;refine jN (σs:=fun u:Int×Int=>⟨[(3,.v (Wr.int .u32) u.1),(6,.v (Wr.sl (Wr.int .u8)) a0),(7,.v Q0 (a0.length:Int)),(8,.v Q0 u.2)],[]⟩) (fun B:Int=>⟨[(3,.v (Wr.int .u32) B)],[]⟩) G (aC []) ?_ ?_
 ·intro B z;have h:=H _ z;refine aJ (.a 1 ?_);refine .k (PF Y) (.f [2] ?_);cases h;exact aH (aY D dX Y (RV.tmp Y) .nil Y)
 intro u L h;refine aL [3,6,7,8,9] ?_;refine aF ?_;refine aU h Y (fun E h=>?_) (fun E h=>?_)
 ·refine aG ?_;refine aF ?_;refine bQ ?_;obtain⟨P,Q,h⟩:=aB h;refine aL [3,5,6,7,8] ?_;refine aJ (.a 2 ?_);refine .k (by exact mL U5 Tryz.runUnderlying247 Y Y) (.f [3,6,7,8] ?_);refine aL [3,6,7,8,16] ?_;obtain⟨R,I,K,T⟩:=cF h;refine jN (σs:=fun A:Int×Int=>⟨[(3,.v (Wr.int .u32) A.1),(6,.v (Wr.sl (Wr.int .u8)) a0),(7,.v Q0 (a0.length:Int)),(8,.v Q0 u.2),(16,.v Q0 A.2)],[]⟩) (fun C:Int=>⟨[(3,.v (Wr.int .u32) C),(6,.v (Wr.sl (Wr.int .u8)) a0),(7,.v Q0 (a0.length:Int)),(8,.v Q0 u.2)],[]⟩) I (aC []) ?_ ?_
  ·intro C z;have h:=K _ z;refine bV ?_;refine eV [3,6,7,8] ?_;cases h;exact cR (aC [])
  intro A M h;refine aL [3,6,7,8,16,17] ?_;refine aF ?_;refine aU h Y (fun F h=>?_) (fun F h=>?_)
  ·refine aG ?_;refine aF ?_;refine bQ ?_;refine gC (.a 1 ?_);refine .k (fD (.inr Y) (by decide) Y Y) (.f [3,6,7,8,16] ?_);refine bV ?_;refine eV [3,6,7,8,16] ?_;cases h;exact cR (aC [])
  cases h;exact dE (dM (aC []))
 cases h;exact dE (dM (aC []))
theorem xT{a0 r}(h:mU a0=some r):
 WE Tryz.prog 77 [.v Q8 a0] (.WL [.v (Wr.sl (Wr.int .u8)) r.1,.v Q9 r.2]) []:=by
 refine WE.of Tryz.func77 Y Tryz.ntmps77 Y ?_;intro S w D;unfold mU at h;refine aJ (.k (cJ 101 Y (.VL sO (.VL sO sO)) Y) (.k (mR (Wr.int .u8)) (.f [1] ?_)));obtain⟨v1,L,h⟩:=aB h;refine jW (.k (aX Y Y (.VL sO (.VL sO sO)) uQ lP) (.k (aO (Cb L) Tryz.call134 (.cons (.dir Y) .nil)) (.f [1,4] ?_)));refine aL [1,4,14] ?_;refine aU h Y (fun G h=>?_) (fun G h=>?_)
 ·refine aJ (.a 1 ?_);refine .k (mR (Wr.int .u8)) (.f [2,3] ?_);cases h;exact aH (bR D dX Y (RV.tmp Y) (RV.tmp Y) .nil Y)
 refine aG ?_;refine aJ (.a 3 ?_);refine .k (fD (.inl Y) (by decide) Y Y) ?_;refine .a 9 ?_;refine .k (rK (e:=(Wr.int .u8)) 103 tH S5 Z5 Y Y Y Y (.cons (.dir Y) (.cons (.dir Y) .nil))) (.f [1,5] ?_);refine dI [1,5,31,32,33] ?_;obtain⟨af,M,N,al⟩:=cF h;refine jN (σs:=fun z:Int×kS=>⟨[(1,.ptr 101 0),(5,.ref 125),(31,.v nV a0.2.1),(32,.v Q0 (a0.2.1.length:Int)),(33,.v Q0 z.1)],[(101,.box 144 [.v Q0 a0.1,.v nV a0.2.1,.v Q5 a0.2.2]),(125,.arr 5 (Wr.int .u8) z.2)]⟩) (fun E:kS=>⟨[(1,.ptr 101 0),(5,.ref 125)],[(101,.box 144 [.v Q0 a0.1,.v nV a0.2.1,.v Q5 a0.2.2]),(125,.arr 5 (Wr.int .u8) E)]⟩) M (aC [(125,103)]) ?_ ?_
 ·intro E u;have h:=N _ u;refine dI [5,54,55,56] ?_;obtain⟨am,O,P,an⟩:=cF h;refine jN (σs:=fun A:Int×kS=>⟨[(5,.ref 151),(54,.v Q5 a0.2.2),(55,.v Q0 (a0.2.2.length:Int)),(56,.v Q0 A.1)],[(151,.arr 5 (Wr.int .u8) A.2)]⟩) (fun F:kS=>⟨[(5,.ref 151)],[(151,.arr 5 (Wr.int .u8) F)]⟩) O (aC [(151,125)]) ?_ ?_
  ·intro F u;have h:=P _ u;obtain⟨ao,Q,h⟩:=aB h;refine aJ (.a 1 ?_);refine .k (rM (Fu Q) Tryz.call135 (.cons (.ref Y Y) .nil) XO.v) (.f [5,10] ?_);obtain⟨ap,R,h⟩:=aB h;refine aJ (.a 2 ?_);refine .k (fD (.inr Y) (by decide) Y Y) ?_;refine .a 2 ?_;refine .k (fD (.inr Y) (by decide) Y Y) ?_;refine .a 2 ?_;refine .k (fD (.inr Y) (by decide) Y Y) ?_;refine .a 3 ?_;refine .k (eJ (e:=(Wr.int .u8)) tH S5 Z5 Y Y Y Y (.cons (.dir Y) (.cons (.dir Y) (.cons (.dir Y) (.cons (.dir Y) .nil))))) (.t (cG 157 R Y Y (.sl Y) tH I5 S5 Y Y Y Y Y) (.f [2,3] ?_));cases h;exact aH (wN D dX Y (aC []))
  intro A ab h;refine aL [5,54,55,56,57] ?_;refine aF ?_;refine aU h Y (fun H h=>?_) (fun H h=>?_)
  ·refine aG ?_;refine aF ?_;refine bQ ?_;obtain⟨aq,au,h⟩:=aB h;refine aJ (.a 2 ?_);refine .k (aN 154 Cg Y (.cons (Z.arr 8 (Z.int .u8)) .nil) Y) (.f [5,9,54,55,56] ?_);obtain⟨av,T,h⟩:=aB h;refine gC (.a 1 ?_);refine .k (Px Y Y Y vY S5) (.t (cG 155 T Y Y (.w8 Y Y Y Y) tH I5 S5 Y Y Y Y Y) (.f [5,54,55,56] ?_));refine bV ?_;refine eV [5,54,55,56] ?_;cases h;exact cR (aC [(151,155)])
  cases h;exact dE (dM (aC []))
 intro z ac h;refine aL [1,5,31,32,33,34] ?_;refine aF ?_;refine aU h Y (fun I h=>?_) (fun I h=>?_)
 ·refine aG ?_;refine aF ?_;refine bQ ?_;obtain⟨a1,a2,h⟩:=aB h;refine aL [1,5,7,31,32,33] ?_;refine aF ?_;obtain⟨a3,U,V,a4⟩:=cF h;refine jN (σs:=fun C:Int×kS=>⟨[(1,.ptr 101 0),(5,.ref 140),(7,.v Q0 C.1),(31,.v nV a0.2.1),(32,.v Q0 (a0.2.1.length:Int)),(33,.v Q0 z.1)],[(101,.box 144 [.v Q0 a0.1,.v nV a0.2.1,.v Q5 a0.2.2]),(140,.arr 5 (Wr.int .u8) C.2)]⟩) (fun B:Int×kS=>⟨[(1,.ptr 101 0),(5,.ref 140),(7,.v Q0 B.1),(31,.v nV a0.2.1),(32,.v Q0 (a0.2.1.length:Int)),(33,.v Q0 z.1)],[(101,.box 144 [.v Q0 a0.1,.v nV a0.2.1,.v Q5 a0.2.2]),(140,.arr 5 (Wr.int .u8) B.2)]⟩) U (aC [(140,125)]) ?_ ?_
  ·intro B u;have h:=V _ u;obtain⟨a5,X,h⟩:=aB h;refine gC (.a 3 ?_);refine .k (eJ (e:=(Wr.int .u8)) tH S5 Z5 Y Y Y Y (.cons (.dir Y) .nil)) (.t (cG 143 X Y Y (.sl Y) tH I5 S5 Y Y Y Y Y) (.f [1,5,31,32,33] ?_));refine bV ?_;refine eV [1,5,31,32,33] ?_;cases h;exact cR (aC [(125,143)])
  intro C ad h;refine dI [1,5,7,31,32,33,38] ?_;refine aU h Y (fun K h=>?_) (fun K h=>?_)
  ·refine aG ?_;refine aF ?_;refine bQ ?_;obtain⟨a6,aa,h⟩:=aB h;refine gC (.a 4 ?_);refine .k (eJ (e:=(Wr.int .u8)) tH S5 Z5 Y Y Y Y (.cons (.dir Y) .nil)) (.t (cG 142 aa Y Y (.sl Y) tH I5 S5 Y Y Y Y Y) (.f [1,5,7,31,32,33] ?_));refine bV ?_;refine gC (.a 1 ?_);refine .k (fD (.inr Y) (by decide) Y Y) (.f [1,5,7,31,32,33] ?_);cases h;exact cR (aC [(140,142)])
  cases h;exact dE (dM (aC []))
 cases h;exact dE (dM (aC []))
theorem oY(A:Nat->Nat){a1 a2 b0 b1 b2 b3 b4 b5 b6 b7 b8 b9 bA bB bC bD bE bF bG bH bI bJ bK bL r}(h:eN a1 a2 b0 b1 b2 b3 b4 b5 b6 b7 b8 b9 bA bB bC bD bE bF bG bH bI bJ bK bL=some r):
 VR Tryz.prog 53 [.ptr 9000 0,.v Wr.bool a1,.v (Wr.H8 (Wr.int .u8)) a2] (kM 9000 (some (A 9000)) 9100 (some (A 9100)) 9200 (some (A 9200)) 9050 9051 9052 9053 b0 b1 b2 b3 b4 b5 b6 b7 b8 b9 bA bB bC bD bE bF bG bH bI bJ bK bL) (.WL []) (kM 9000 (some (A 9000)) 9100 (some (A 9100)) 9200 (some (A 9200)) 400 401 402 403 b0 b1 b2 b3 b4 b5 b6 b7 b8 b9 bA bB bC bD bE bF bG r bI bJ bK bL):=by
 refine VR.of Tryz.func53 Y Tryz.ntmps53 Y ?_;intro S w R z;unfold eN at h;refine aF ?_;obtain⟨B,u,h⟩:=aB h;refine eF (σ':=⟨[(0,.ptr 9000 0),(1,.v Wr.bool a1),(2,.v (Wr.H8 (Wr.int .u8)) a2),(15,.v Wr.bool B)],(kM 9000 (some (A 9000)) 9100 (some (A 9100)) 9200 (some (A 9200)) 9050 9051 9052 9053 b0 b1 b2 b3 b4 b5 b6 b7 b8 b9 bA bB bC bD bE bF bG bH bI bJ bK bL)⟩) ?_ ?_
 ·refine cd u (fun C u=>?_) (fun C u=>?_)
  ·cases u;refine ja 1 ?_;exact(J.k (Qg Y tH) jy)
  cases u;refine ja 1 ?_;exact(J.k (Qg Y tH) jy)
 refine aU h Y (fun D h=>?_) (fun D h=>?_)
 ·obtain⟨E,F,h⟩:=aB h;refine gC (.a 7 ?_);refine .sub (σ':=⟨[(0,.ptr 9000 0),(1,.v Wr.bool a1),(2,.v (Wr.H8 (Wr.int .u8)) a2),(15,.v Wr.bool B),(16,.ptr 9000 0),(17,.ptr 9000 0),(18,.ptr 9000 0),(19,.ptr 9000 25),(20,.ref 9053),(21,.v Wr.bool a1),(22,.v (Wr.sl (Wr.int .u8)) a2.2)],[(9000,.box 93 [.v Q0 b0,.ptr 9100 0,.v Q0 b1,.v Q0 b2,.v Q0 b3,.ref 9050,.v Kv b5,.ref 9051,.v Q0 b7,.v Nz b8,.v Q0 b9,.v Q0 bA,.ref 9052,.ptr 9200 0,.v Q0 bC,.v Q0 bD,.v Q0 bE,.v Q0 bF,.v (Wr.pr Q0 Q0) bG,.ref 9053] (some (A 9000))),(9053,.arr 135 (Wr.pr Wr.bool (Wr.pr Wr.bool (Wr.sl (Wr.int .u8)))) bH),(9100,.box 188 [.v Q0 bI,.v Q2 bJ] (some (A 9100))),(9050,.arr 30 aM b4),(9051,.mp Q0 Q5 b6),(9052,.arr 3 Q0 bB),(9200,.box 188 [.v Q0 bK,.v Q2 bL] (some (A 9200)))]⟩) (Sw.Sub.mk id (.cons Y (.of_eq Y) (.cons Y (.of_eq Y) (.cons Y (.of_eq Y) (.cons Y (.of_eq Y) (.cons Y (.of_eq Y) (.cons Y (.of_eq Y) (.cons Y (.of_eq Y) (.cons Y (.of_eq Y) (.cons Y (.of_eq Y) (.cons Y (.of_eq Y) (.cons Y .unN .nil))))))))))) (.box Y (.cons (.of_eq Y) (.cons (.of_eq Y) (.cons (.of_eq Y) (.cons (.of_eq Y) (.cons (.of_eq Y) (.cons (.of_eq Y) (.cons (.of_eq Y) (.cons (.of_eq Y) (.cons (.of_eq Y) (.cons (.of_eq Y) (.cons (.of_eq Y) (.cons (.of_eq Y) (.cons (.of_eq Y) (.cons (.of_eq Y) (.cons (.of_eq Y) (.cons (.of_eq Y) (.cons (.of_eq Y) (.cons (.of_eq Y) (.cons (.of_eq Y) (.cons (.of_eq Y) .nil)))))))))))))))))))) (.arr Y (.box Y (.cons (.of_eq Y) (.cons (.of_eq Y) .nil)) (.arr Y (.mp Y (.arr Y (.box Y (.cons (.of_eq Y) (.cons (.of_eq Y) .nil)) .nil))))))) Y) (.k (bP Xg (.cons Z.bool (.cons Z.bool (.cons (Z.sl (Wr.int .u8)) .nil))) (.cons Y (.dir Y) Y Y Y Y (.cons Y (.dir Y) Y Y Y Y .nil))) (.k (eJ (e:=(Wr.pr Wr.bool (Wr.pr Wr.bool (Wr.sl (Wr.int .u8))))) Jn vX FJ Y Y Y Y (.cons (.agg Y (.same (.same (.same .nil))) (.VL sO (.VL sO sO)) Y) .nil)) (.t (cG 101 F Y Y (.sl Y) Jn OF vX Y Y Y Y Y) (.f [0] ?_))));refine Zy ?_;obtain rfl:=pT h;exact bZ (σ':=⟨[(0,.ptr 9000 0)],(kM 9000 (some (A 9000)) 9100 (some (A 9100)) 9200 (some (A 9200)) 400 401 402 403 b0 b1 b2 b3 b4 b5 b6 b7 b8 b9 bA bB bC bD bE bF bG E bI bJ bK bL)⟩) (aC [(403,101),(402,9052),(401,9051),(400,9050)]) (Eh z Y (.cons Y (.cons Y (.cons Y (.cons Y (.cons Y (.cons Y (.cons Y .nil))))))))
 refine aG ?_;refine Zy ?_;obtain rfl:=pT h;exact bZ (σ':=⟨[(0,.ptr 9000 0)],(kM 9000 (some (A 9000)) 9100 (some (A 9100)) 9200 (some (A 9200)) 400 401 402 403 b0 b1 b2 b3 b4 b5 b6 b7 b8 b9 bA bB bC bD bE bF bG bH bI bJ bK bL)⟩) (aC [(403,9053),(402,9052),(401,9051),(400,9050)]) (Eh z Y (.cons Y (.cons Y (.cons Y (.cons Y (.cons Y (.cons Y (.cons Y .nil))))))))
theorem uN(A:Nat->Nat){a1 a2 b0 b1 b2 b3 b4 b5 b6 b7 b8 b9 bA bB bC bD bE bF bG bH bI bJ bK bL r}(h:iW a1 a2 b0 b1 b2 b3 b4 b5 b6 b7 b8 b9 bA bB bC bD bE bF bG bH bI bJ bK bL=some r):
 VR Tryz.prog 49 [.ptr 9000 0,.v Wr.bool a1,.v Q8 a2] (kM 9000 (some (A 9000)) 9100 (some (A 9100)) 9200 (some (A 9200)) 9050 9051 9052 9053 b0 b1 b2 b3 b4 b5 b6 b7 b8 b9 bA bB bC bD bE bF bG bH bI bJ bK bL) (.v Q9 r.1) (kM 9000 (some (A 9000)) 9100 (some (A 9100)) 9200 (some (A 9200)) 400 401 402 403 b0 b1 b2 b3 b4 b5 b6 b7 b8 b9 bA bB bC bD bE bF bG r.2 bI bJ bK bL):=by
 refine VR.of Tryz.func49 Y Tryz.ntmps49 Y ?_;intro S w R B;unfold iW at h;refine aJ (.k (cJ 101 Y (.VL sO (.VL sO sO)) Y) (.f [0,1,5] ?_));obtain⟨C,D,h⟩:=aB h;refine aJ (.k (aX Y Y (.VL sO (.VL sO sO)) uQ lP) (.k (aO (xT D) Tryz.call77 (.cons (.dir Y) .nil)) (.f [0,1,7,8] ?_)));refine jW (.a 1 ?_);refine .k (iH Od Y) (.f [0,1,7,8,15] ?_);obtain⟨E,F,h⟩:=gT h;refine vT (fun z:Ts=>⟨[(0,.ptr 9000 0),(8,.v Q9 C.2)],(kM 9000 (some (A 9000)) 9100 (some (A 9100)) 9200 (some (A 9200)) 107 108 109 110 b0 b1 b2 b3 b4 b5 b6 b7 b8 b9 bA bB bC bD bE bF bG z bI bJ bK bL)⟩) (fun x=>E x=some r) Y ?_ ?_ ?_
 ·intro z h;rw[F] at h;refine aL [0,6] ?_;cases h;exact aH (eZ B Y (aC [(403,110),(402,109),(401,108),(400,107)]))
 ·intro u;replace h:=kG u h;obtain⟨L,G,h⟩:=aB h;obtain⟨M,I,h⟩:=aB h;refine gC (.a 3 ?_);refine .t (sQ (H:=[9000,9100,9200,9050,9051,9052,9053]) (K:=[9000,9100,9200]) (uU [(9000,9000),(9100,9100),(9200,9200),(9050,9050),(9051,9051),(9052,9052),(9053,9053),(400,111),(401,112),(402,113),(403,114)]) (dD Y) (fun A=>oY A I) Tryz.call53 (.cons (.dir Y) (.cons (.dir Y) (.cons (.toN (Mr G) Y) .nil))) (fun A=>(.box Y (.box Y (.box Y (.arr Y (.mp Y (.arr Y (.arr Y .nil)))))))) (fun A=>(.box Y (.box Y (.box Y (.arr (.mp (.arr (.arr .nil Y) Y) Y) Y) Y) Y) Y)) (fun _=>rfl) Y Y (fun _=>rfl) Y Y) (.f [0,8] ?_);exact cT h (aC [(110,114),(109,113),(108,112),(107,111)])
 ·intro u;replace h:=kH u h;refine aG ?_;exact cT h (aC [(110,9053),(109,9052),(108,9051),(107,9050)])
theorem La{a0 a1 a2 r}(h:nF a0 a1 a2=some r):
 WE Tryz.prog 82 [.v Kv a0,.v Q0 a1,.v Q0 a2] (.WL [.v pG r.1,.v Wr.bool r.2.1,.v Q9 r.2.2]) []:=by
 refine WE.of Tryz.func82 Y Tryz.ntmps82 Y ?_;intro S w B;unfold nF at h;refine aJ (.k (cJ 101 Y (.VL sO (.VL sO (.VL sO sO))) Y) (.k (aN 102 Pg Y (.cons (Z.int .i64) (.cons (Z.sl gJ) .nil)) Y) (.f [1,2,3,6] ?_)));obtain⟨U,V,h⟩:=aB h;refine jW (.k (aX Y Y (.VL sO (.VL sO (.VL sO sO))) Ez yW) ?_);refine .a 1 ?_;refine .k (aO (tD V) OA (.cons (.dir Y) (.cons (.dir Y) .nil))) (.f [2,3,6,9] ?_);refine aL [2,3,6,9,21] ?_;refine aU h Y (fun K h=>?_) (fun K h=>?_)
 ·refine aJ (.k (fL (new:=[(104,.arr 214 gJ ([]:Q6))]) Dm (.cons (Z.int .i64) (.ref 104 Y .nil)) (.cons .nil) Y .nil) (.f [6,7,8] ?_));refine aH ?_;obtain rfl:=pT h;exact bZ (σ':=⟨[(6,.ptr 90 0),(7,.v Wr.bool false),(8,.v Q9 U)],[(90,.box 197 [.v Q0 (0:Int),.v Q1 ([]:Q6)])]⟩) (aC [(90,102)]) (wQ B dX Y (aT Y Y (.VL sO sO) Oa vD) (RV.tmp Y) (RV.tmp Y) .nil Y)
 refine aG ?_;refine aF ?_;refine aF ?_;obtain⟨X,A,h⟩:=aB h;refine eF (σ':=⟨[(2,.v Q0 a2),(3,.ptr 101 0),(6,.ptr 102 0),(31,.v Wr.bool X)],[(101,.box 80 [.v Q0 a0.1,.v Q1 a0.2.1,.v (Wr.sl pG) a0.2.2.1,.v Wr.bool a0.2.2.2]),(102,.box 197 [.v Q0 (0:Int),.v Q1 ([]:Q6)])]⟩) ?_ ?_
 ·refine cd A (fun L A=>?_) (fun L A=>?_)
  ·cases A;exact jy
  cases A;exact jy
 refine aU h Y (fun M h=>?_) (fun M h=>?_)
 ·refine aJ (.k (fL (new:=[(105,.arr 214 gJ ([]:Q6))]) Dm (.cons (Z.int .i64) (.ref 105 Y .nil)) (.cons .nil) Y .nil) (.f [6,7,8] ?_));refine aH ?_;obtain rfl:=pT h;exact bZ (σ':=⟨[(6,.ptr 90 0),(7,.v Wr.bool false),(8,.v Q9 (some (1:Int)))],[(90,.box 197 [.v Q0 (0:Int),.v Q1 ([]:Q6)])]⟩) (aC [(90,102)]) (wQ B dX Y (aT Y Y (.VL sO sO) Oa vD) (RV.tmp Y) (RV.tmp Y) .nil Y)
 refine aG ?_;refine dI [2,3,6,41] ?_;refine aU h Y (fun N h=>?_) (fun N h=>?_)
 ·refine aJ (.k (fL (new:=[(106,.arr 214 gJ ([]:Q6))]) Dm (.cons (Z.int .i64) (.ref 106 Y .nil)) (.cons .nil) Y .nil) (.f [6,7,8] ?_));refine aH ?_;obtain rfl:=pT h;exact bZ (σ':=⟨[(6,.ptr 90 0),(7,.v Wr.bool false),(8,.v Q9 (none:Option Int))],[(90,.box 197 [.v Q0 (0:Int),.v Q1 ([]:Q6)])]⟩) (aC [(90,102)]) (wQ B dX Y (aT Y Y (.VL sO sO) Oa vD) (RV.tmp Y) (RV.tmp Y) .nil Y)
 refine aG ?_;refine aJ (.k (aN 107 Tryz.zeroValue253 Y (.cons (Z.arr 32 (Z.B7 gJ)) .nil) Y) (.f [2,3,6,10] ?_));refine dI [2,3,6,10,44,45,46] ?_;obtain⟨a4,aa,ab,a5⟩:=cF h;refine jN (σs:=fun z:Int×(List (Option (Int×aQ)))=>⟨[(2,.v Q0 a2),(3,.ptr 101 0),(6,.ptr 102 0),(10,.ptr 107 0),(44,.v (Wr.sl pG) a0.2.2.1),(45,.v Q0 (a0.2.2.1.length:Int)),(46,.v Q0 z.1)],[(101,.box 80 [.v Q0 a0.1,.v Q1 a0.2.1,.v (Wr.sl pG) a0.2.2.1,.v Wr.bool a0.2.2.2]),(102,.box 197 [.v Q0 (0:Int),.v Q1 ([]:Q6)]),(107,.box 253 [.v (Wr.arr 32 (Wr.B7 gJ)) z.2])]⟩) (fun C:(List (Option (Int×aQ)))=>⟨[(3,.ptr 101 0),(6,.ptr 102 0),(10,.ptr 107 0)],[(101,.box 80 [.v Q0 a0.1,.v Q1 a0.2.1,.v (Wr.sl pG) a0.2.2.1,.v Wr.bool a0.2.2.2]),(102,.box 197 [.v Q0 (0:Int),.v Q1 ([]:Q6)]),(107,.box 253 [.v (Wr.arr 32 (Wr.B7 gJ)) C])]⟩) aa (aC []) ?_ ?_
 ·intro C u;have h:=ab _ u;refine aJ (.a 2 ?_);refine .k (fL (new:=[(112,.arr 214 gJ ([]:Q6))]) Dm (.cons (Z.int .i64) (.ref 112 Y .nil)) (.cons .nil) Y (.cons Y (.dir Y) Y Y Y Y .nil)) (.k (zT (new:=[(114,.arr 214 gJ ([]:Q6))]) 113 Pg Y (.cons (Z.int .i64) (.ref 114 Y .nil)) (.cons .nil) Y Y) (.f [6,10,14] ?_));refine dI [6,14,76,77] ?_;obtain⟨a6,ac,ad,a7⟩:=cF h;refine jN (σs:=fun E:Int×Q6=>⟨[(6,.ptr 102 0),(14,.ptr 113 0),(76,.v (Wr.arr 32 (Wr.B7 gJ)) C),(77,.v Q0 E.1)],[(102,.box 197 [.v Q0 (0:Int),.v Q1 ([]:Q6)]),(113,.box 197 [.v Q0 a0.1,.ref 120]),(120,.arr 214 gJ E.2)]⟩) (fun D:Q6=>⟨[(6,.ptr 102 0),(14,.ptr 113 0)],[(102,.box 197 [.v Q0 (0:Int),.v Q1 ([]:Q6)]),(113,.box 197 [.v Q0 a0.1,.ref 120]),(120,.arr 214 gJ D)]⟩) ac (aC [(120,112)]) ?_ ?_
  ·intro D u;have h:=ad _ u;refine aJ (.k (iB Y Y Y Oa vD) (.f [6,7,8] ?_));refine aH ?_;obtain rfl:=pT h;exact bZ (σ':=⟨[(6,.ptr 90 0),(7,.v Wr.bool true),(8,.v Q9 (none:Option Int))],[(90,.box 197 [.v Q0 a0.1,.v Q1 D])]⟩) (aC [(90,102)]) (wQ B dX Y (aT Y Y (.VL sO sO) Oa vD) (RV.tmp Y) (RV.tmp Y) .nil Y)
  intro E au h;refine aL [6,14,76,77,78] ?_;refine aF ?_;refine aU h Y (fun O h=>?_) (fun O h=>?_)
  ·refine aG ?_;refine aF ?_;refine bQ ?_;obtain⟨a8,af,h⟩:=aB h;refine aJ (.k (LZ af Y Y Tryz.runUnderlying253 Tryz.sizeOf252 Tryz.isAgg252) (.f [6,14,16,76,77] ?_));refine aJ (.a 1 ?_);refine .k (LY Y Tryz.runUnderlying252) (.f [6,14,16,76,77,81] ?_);refine aU h Y (fun P h=>?_) (fun P h=>?_)
   ·obtain⟨a9,al,h⟩:=aB h;obtain⟨ba,am,h⟩:=aB h;refine eD 6 mixed (by exact(.k (aA 1 Y Zp Y Ij Y Y) (.k (aI Y Y Y FP Ij) (.k (aD Y) (.k (Ix al Y) (.k (cE Y Zn jX) (.k (eJ (e:=gJ) yC jX Fb Y Y Y Y (.cons (.dir Y) .nil)) .nil))))))) (by exact(J.t (cG 122 am Y Y (.sl Y) yC Kx jX Y Y Y Y Y) (jz [6,14,76,77]))) ?_;refine bV ?_;refine eV [6,14,76,77] ?_;cases h;exact cR (aC [(120,122)])
   refine aG ?_;refine bV ?_;refine eV [6,14,76,77] ?_;cases h;exact cR (aC [])
  cases h;exact dE (dM (aC []))
 intro z av h;refine aL [2,3,6,10,44,45,46,47] ?_;refine aF ?_;refine aU h Y (fun Q h=>?_) (fun Q h=>?_)
 ·refine aG ?_;refine aF ?_;refine bQ ?_;obtain⟨G,bb,h⟩:=aB h;refine aJ (.a 2 ?_);refine .k (aN 111 Pg Y (.cons (Z.int .i64) (.cons (Z.sl gJ) .nil)) Y) (.t (bS Y Y Y Y (.VL sO sO) vD) (.f [2,3,6,10,12,44,45,46] ?_));refine aL [2,3,6,10,12,44,45,46,52,53] ?_;obtain⟨bd,an,ao,be⟩:=cF h;refine jN (σs:=fun F:Int×(List (Option (Int×aQ)))=>⟨[(2,.v Q0 a2),(3,.ptr 101 0),(6,.ptr 102 0),(10,.ptr 107 0),(12,.ptr 111 0),(44,.v (Wr.sl pG) a0.2.2.1),(45,.v Q0 (a0.2.2.1.length:Int)),(46,.v Q0 z.1),(52,.v Q0 (G.2.length:Int)),(53,.v Q0 F.1)],[(101,.box 80 [.v Q0 a0.1,.v Q1 a0.2.1,.v (Wr.sl pG) a0.2.2.1,.v Wr.bool a0.2.2.2]),(102,.box 197 [.v Q0 (0:Int),.v Q1 ([]:Q6)]),(107,.box 253 [.v (Wr.arr 32 (Wr.B7 gJ)) F.2]),(111,.box 197 [.v Q0 G.1,.v Q1 G.2])]⟩) (fun H:(List (Option (Int×aQ)))=>⟨[(2,.v Q0 a2),(3,.ptr 101 0),(6,.ptr 102 0),(10,.ptr 107 0),(44,.v (Wr.sl pG) a0.2.2.1),(45,.v Q0 (a0.2.2.1.length:Int)),(46,.v Q0 z.1)],[(101,.box 80 [.v Q0 a0.1,.v Q1 a0.2.1,.v (Wr.sl pG) a0.2.2.1,.v Wr.bool a0.2.2.2]),(102,.box 197 [.v Q0 (0:Int),.v Q1 ([]:Q6)]),(107,.box 253 [.v (Wr.arr 32 (Wr.B7 gJ)) H])]⟩) an (aC []) ?_ ?_
  ·intro H u;have h:=ao _ u;refine bV ?_;refine eV [2,3,6,10,44,45,46] ?_;cases h;exact cR (aC [])
  intro F a3 h;refine aL [2,3,6,10,12,44,45,46,52,53,54] ?_;refine aF ?_;refine aU h Y (fun R h=>?_) (fun R h=>?_)
  ·refine aG ?_;refine aF ?_;refine bQ ?_;refine aL [2,3,6,10,12,13,44,45,46,52,53] ?_;refine aL [2,3,6,10,12,13,44,45,46,52,53,59] ?_;refine aU h Y (fun T h=>?_) (fun T h=>?_)
   ·obtain⟨bf,ap,h⟩:=aB h;obtain⟨bg,aq,h⟩:=aB h;obtain⟨bh,I,h⟩:=aB h;refine eD 11 mixed (by exact(.k (aA 1 Y Zp Y Ij Y Y) (.k (aI Y Y Y FP Ij) (.k (aD Y) (.k (qG ap Y Y yC jX) (.k (fB Y Oc Y S3 Y (.fst .here) Y) (.k (cE Y G3 S3) (.k (aA 1 Y Zp Y Ij Y Y) (.k (aI Y Y Y FP Ij) (.k (aD Y) (.k (AU (qG aq Y Y yC jX)) (.k (vA I Y Y Y Y Tryz.runUnderlying253 Tryz.sizeOf252) .nil)))))))))))) (by exact(J.t (Ud (dQ I).2.2 Y Y Y Y Tryz.sizeOf252) (J.kp [2,3,6,10,12,44,45,46,52,53] []))) ?_;refine bV ?_;refine eV [2,3,6,10,12,44,45,46,52,53] ?_;cases h;exact cR (aC [])
   refine aG ?_;refine bV ?_;refine eV [2,3,6,10,12,44,45,46,52,53] ?_;cases h;exact cR (aC [])
  cases h;exact dE (dM (aC []))
 cases h;exact dE (dM (aC []))
theorem Lb{a0 r}(h:qC a0=some r):
 WE Tryz.prog 229 [.v Q5 a0] (.v Q9 r) []:=by
 refine WE.of Tryz.func229 Y Tryz.ntmps229 Y ?_;intro S w u;unfold qC at h;refine aL [0] ?_;refine dI [0,8] ?_;refine aU h Y (fun C h=>?_) (fun C h=>?_)
 ·refine aL [2] ?_;cases h;exact aH (aY u dX Y (RV.tmp Y) .nil Y)
 refine aG ?_;refine aJ (.k (Fz 101 aM Wr.bool) (.f [0,3] ?_));refine dI [3,11,12,13] ?_;obtain⟨M,G,H,I⟩:=cF h;refine jN (σs:=fun z:Int×(List (aQ×Bool))=>⟨[(3,.ref 101),(11,.v Q5 a0),(12,.v Q0 (a0.length:Int)),(13,.v Q0 z.1)],[(101,.mp aM Wr.bool z.2)]⟩) (fun A:Unit=>⟨[],[]⟩) G (aC []) ?_ ?_
 ·intro A B;have h:=H _ B;refine aL [2] ?_;cases h;exact aH (aY u dX Y (RV.tmp Y) .nil Y)
 intro z L h;refine aL [3,11,12,13,14] ?_;refine aF ?_;refine aU h Y (fun D h=>?_) (fun D h=>?_)
 ·refine aG ?_;refine aF ?_;refine bQ ?_;obtain⟨N,O,h⟩:=aB h;refine aJ (.a 2 ?_);refine .k (aN 105 Cg Y (.cons (Z.arr 8 (Z.int .u8)) .nil) Y) (.f [3,5,11,12,13] ?_);refine jW (.a 2 ?_);refine .k (CQ Y Y Y Tryz.runUnderlying388 vY Ph Y CI Y Tryz.zeroValue4 (fun _ _=>⟨_,Y,Y⟩)) (.f [3,5,11,12,13,19] ?_);refine aU h Y (fun E h=>?_) (fun E h=>?_)
  ·refine aL [2] ?_;refine aH ?_;refine eI ?_;cases h;refine gB fun F=>?_;obtain rfl:=I _ F;exact aY u dX Y (RV.tmp Y) .nil Y
  refine aG ?_;obtain⟨P,K,h⟩:=aB h;refine gC (.a 2 ?_);refine .t (CR K Y Y Y Y Tryz.runUnderlying388 vY Ph Y CI Y) (.f [3,11,12,13] ?_);refine bV ?_;refine eV [3,11,12,13] ?_;cases h;exact cR (aC [])
 cases h;exact dE (dM (aC []))
theorem Aj{a0 a1 r}(h:nY a0 a1=some r):
 WE Tryz.prog 186 [.v Q5 a0,.v Q5 a1] (.v Q9 r) []:=by
 refine WE.of Tryz.func186 Y Tryz.ntmps186 Y ?_;intro S w z;unfold nY at h;refine aL [0,1] ?_;refine aF ?_;refine aF ?_;obtain⟨C,u,h⟩:=aB h;refine eF (σ':=⟨[(1,.v Q5 a1),(12,.v Wr.bool C)],[]⟩) ?_ ?_
 ·refine cd u (fun A u=>?_) (fun A u=>?_)
  ·cases u;exact jy
  cases u;exact jy
 refine aU h Y (fun B h=>?_) (fun B h=>?_)
 ·refine aL [4] ?_;cases h;exact aH (aY z dX Y (RV.tmp Y) .nil Y)
 refine aG ?_;obtain⟨E,D,h⟩:=aB h;refine aJ (.a 1 ?_);refine .k (aO (Lb D) Tryz.call229 (.cons (.dir Y) .nil)) (.f [4] ?_);cases h;exact aH (aY z dX Y (RV.tmp Y) .nil Y)
theorem Pn{a0 r}(h:vV a0=some r):
 WE Tryz.prog 187 [.v Q5 a0] (.WL [.v (Wr.B7 (Wr.pr Q5 (Wr.X2 aM nV))) r.1,.v Q9 r.2]) []:=by
 refine WE.of Tryz.func187 Y Tryz.ntmps187 Y ?_;intro S w C;unfold vV at h;refine aJ (.k (kA (Wr.pr Q5 (Wr.X2 aM nV))) (.f [0] ?_));refine aF ?_;refine aF ?_;obtain⟨I,u,h⟩:=aB h;refine eF (σ':=⟨[(0,.v Q5 a0),(14,.v Wr.bool I)],[]⟩) ?_ ?_
 ·refine cd u (fun F u=>?_) (fun F u=>?_)
  ·cases u;exact jy
  cases u;exact jy
 refine aU h Y (fun G h=>?_) (fun G h=>?_)
 ·refine aJ (.a 1 ?_);refine .k (kA (Wr.pr Q5 (Wr.X2 aM nV))) (.f [2,3] ?_);cases h;exact aH (bR C dX Y (RV.tmp Y) (RV.tmp Y) .nil Y)
 refine aG ?_;obtain⟨A,K,h⟩:=aB h;refine aJ (.a 1 ?_);refine .k (fM 101000 (cO K) Zm (.cons (.dir Y) .nil) Y) (.k (Up 102 aM 3 Q0) (.k (bP KR (.cons (Z.sl aM) (.cons (Z.X2 aM nV) .nil)) (.cons Y (.dir Y) Y Y Y Y (.cons Y (.dir Y) Y Y Y Y .nil))) (.k (zO 103 Y Y) (.f [0,4] ?_))));refine dI [4,21,22,23] ?_;obtain⟨P,L,M,Q⟩:=cF h;refine jN (σs:=fun B:Int×(List (aQ×kS))=>⟨[(4,.ptr 103 0),(21,.v Q5 a0),(22,.v Q0 (a0.length:Int)),(23,.v Q0 B.1)],[(103,.box 363 [.ref 101000,.ref 102]),(101000,.arr 30 aM A),(102,.dp (DE.V2 true aM 3 Q0) (B.2,none) [])]⟩) (fun z:(List (aQ×kS))=>⟨[(4,.ptr 103 0)],[(103,.box 363 [.ref 101000,.ref 102]),(101000,.arr 30 aM A),(102,.dp (DE.V2 true aM 3 Q0) (z,none) [])]⟩) L (aC []) ?_ ?_
 ·intro z E;have h:=M _ E;refine aJ (.a 1 ?_);refine .sub (σ':=⟨[(4,.YA (Wr.pr Q5 (Wr.X2 aM nV)) (A,z)),(40,.YA (Wr.pr Q5 (Wr.X2 aM nV)) (A,z))],[]⟩) (Sw.Sub.mk id (.cons Y (.s8 Y Y (.cons (.I4 Y Y) (.cons (.aJm Y Y .V2) .nil)) (.VL sO sO)) (.cons Y (.s8 Y Y (.cons (.I4 Y Y) (.cons (.aJm Y Y .V2) .nil)) (.VL sO sO)) .nil)) .nil Y) (.k (by exact AU (bM Y)) (.f [2,3] ?_));cases h;exact aH (bR C dX Y (RV.tmp Y) (RV.tmp Y) .nil Y)
 intro B O h;refine aL [4,21,22,23,24] ?_;refine aF ?_;refine aU h Y (fun H h=>?_) (fun H h=>?_)
 ·refine aG ?_;refine aF ?_;refine bQ ?_;obtain⟨R,T,h⟩:=aB h;refine aJ (.a 3 ?_);refine .k (aN 119 Cg Y (.cons (Z.arr 8 (Z.int .u8)) .nil) Y) (.f [4,5,6,21,22,23] ?_);obtain⟨U,D,h⟩:=aB h;obtain⟨V,N,h⟩:=aB h;refine eD 11 mixed (by exact(.k (aD Y) (.k (aK Y) (.k (aA 1 Y OG Y KH Y Y) (.k (aI Y Y Y Tryz.isAgg361 KH) (.k (aI Y Y Y uR lA) (.k (aD Y) (.k (eJ (e:=Q0) yB S3 Z3 Y Y Y Y (.cons (.dir Y) .nil)) (XS.mapEntry (.none Y) 122 D Y Y Y Tryz.runUnderlying361 vY Ph Y CI Y ik.arr Tryz.zeroValue22 Y Y (.pu (.none Y) Y (fun _ _=>bU Y Y) (XS.append (.none Y) 123 N Y Y (.sl Y) yB I3 S3 Y Y Y Y Y (.pu (.none Y) Y (fun _ _=>bU Y Y) .nil)))))))))))) (by exact(J.t (Pa (MA D) Y Y Y Y Y Y) (J.kp [4,21,22,23] []))) ?_;refine bV ?_;refine eV [4,21,22,23] ?_;cases h;exact cR (aC [])
 cases h;exact dE (dM (aC []))
theorem Gt{a0 a1 r}(h:vC a0 a1=some r):
 WE Tryz.prog 310 [.v kP a0,.v gJ a1] (.WL [.v Q4 r.1,.v Wr.bool r.2]) []:=by
 refine WE.of Tryz.func310 Y Tryz.ntmps310 Y ?_;intro S w u;unfold vC at h;refine aJ (.k (cJ 101 Y sO Y) (.k (cJ 102 Y (.VL sO sO) Y) (.k (aN 103 Oe Y (.cons (Z.int .i64) (.cons (Z.int .i64) (.cons (Z.int .i64) (.cons (Z.arr 8 (Z.int .u8)) .nil)))) Y) (.f [3,4] ?_))));refine aF ?_;refine eD 9 mixed (by exact(.k (aA 0 Y Oc Y S3 Y Y) (.k (aI Y Y Y G3 S3) (.k (bP Dn (.cons (Z.int .i64) (.cons (Z.int .i64) (.cons (Z.int .i64) (.cons (Z.arr 8 (Z.int .u8)) .nil)))) (.cons Y (.dir Y) Y Y Y Y (.cons Y (.dir Y) Y Y Y Y .nil))) (.k (aA 1 Y Oc Y lA Y Y) (.k (aI Y Y Y uR lA) (.k (dA (e:=aM) (v:=aS) An vY I5 Y Y (Z.arr 8 (Z.int .u8))) (.k (Xs Ph Y Y Tryz.eqGuardType30 Y Y) (XS.C0 (.none Y) Y Y Y Y Y Y Ce (.k (bM Y) .nil)))))))))) (by exact(J.kp [4,5] [])) ?_;refine aH ?_;obtain rfl:=pT h;exact bZ (σ':=⟨[(4,.ptr 90 0),(5,.v Wr.bool (decide (a1.2=aS)))],[(90,.box 210 [.v Q0 a1.1,.v Q0 (0:Int),.v Q0 (0:Int),.v aM aS])]⟩) (aC [(90,103)]) (bR u dX Y (aT Y Y (.VL sO (.VL sO (.VL sO sO))) Xc Ce) (RV.tmp Y) .nil Y)
theorem Ds{a0 a1 r}(h:lW a0 a1=some r):
 WE Tryz.prog 309 [.v (Wr.B7 (Wr.pr Q5 (Wr.X2 aM nV))) a0,.v aM a1] (.WL [.v Q0 r.1,.v Wr.bool r.2]) []:=by
 refine WE.of Tryz.func309 Y Tryz.ntmps309 Y ?_;intro S w u;unfold lW at h;refine aJ (.k (cJ 101 Y sO Y) (.f [0,3] ?_));refine aF ?_;obtain⟨B,A,h⟩:=aB h;refine eD 7 mixed (by exact(.k (aD Y) (.k (Ix A Y) (.k (fB Y OG Y KH Y (.snd .here) Y) (.k (cE Y Tryz.isAgg361 KH) (.k (aI Y Y Y uR lA) (.k (Yd Y Y Tryz.runUnderlying361 vY Ph Y CI Y Tryz.zeroValue22 (fun S w=>⟨_,(Z.sl Q0) S w,Y⟩)) (.k (bM Y) .nil)))))))) (by exact(J.kp [6] [])) ?_;refine dI [6,15] ?_;refine aU h Y (fun z h=>?_) (fun z h=>?_)
 ·refine aL [4,5] ?_;cases h;exact aH (bR u dX Y (RV.tmp Y) (RV.tmp Y) .nil Y)
 refine aG ?_;obtain⟨C,D,h⟩:=aB h;refine aL [4,5] ?_;cases h;exact aH (bR u dX Y (RV.tmp Y) (RV.tmp Y) .nil Y)
theorem Gu{a0 a1 r}(h:nZ a0 a1=some r):
 WE Tryz.prog 311 [.v (Wr.J2 (Wr.B7 (Wr.pr Q5 (Wr.X2 aM nV)))) a0,.v gJ a1] (.WL [.v Q4 r.1,.v Wr.bool r.2]) []:=by
 refine WE.of Tryz.func311 Y Tryz.ntmps311 Y ?_;intro S w z;unfold nZ at h;refine aJ (.k (cJ 101 Y (.J2 sO) Y) (.k (cJ 102 Y (.VL sO sO) Y) (.k (aN 103 Oe Y (.cons (Z.int .i64) (.cons (Z.int .i64) (.cons (Z.int .i64) (.cons (Z.arr 8 (Z.int .u8)) .nil)))) Y) (.f [2,3,4] ?_))));obtain⟨u,A,h⟩:=aB h;refine aJ (.a 4 ?_);refine .k (aO (Ds A) Tryz.call309 (.cons (.dir Y) (.cons (.dir Y) .nil))) (.f [3,4,6,7] ?_);refine aJ (.a 3 ?_);refine .k (bP Dn (.cons (Z.int .i64) (.cons (Z.int .i64) (.cons (Z.int .i64) (.cons (Z.arr 8 (Z.int .u8)) .nil)))) (.cons Y (.dir Y) Y Y Y Y (.cons Y (.dir Y) Y Y Y Y (.cons Y (.dir Y) Y Y Y Y .nil)))) (.f [4,5] ?_);refine aH ?_;obtain rfl:=pT h;exact bZ (σ':=⟨[(4,.ptr 90 0),(5,.v Wr.bool u.2)],[(90,.box 210 [.v Q0 a1.1,.v Q0 (1:Int),.v Q0 u.1,.v aM aS])]⟩) (aC [(90,103)]) (bR z dX Y (aT Y Y (.VL sO (.VL sO (.VL sO sO))) Xc Ce) (RV.tmp Y) .nil Y)
theorem sK{a0 a1 r}(h:eK a0 a1=some r):
 WE Tryz.prog 314 [.v Q5 a0,.v aM a1] (.v Q0 r) []:=by
 refine WE.of Tryz.func314 Y Tryz.ntmps314 Y ?_;intro S w u;unfold eK at h;refine aJ (.k (cJ 101 Y sO Y) (.f [0,3] ?_));refine dI [0,3,7,8] ?_;obtain⟨L,F,G,H⟩:=cF h;refine jN (σs:=fun z:Int=>⟨[(0,.v Q5 a0),(3,.ptr 101 0),(7,.v Q0 (a0.length:Int)),(8,.v Q0 z)],[(101,.box 30 [.v aM a1])]⟩) (fun A:Unit=>⟨[],[]⟩) F (aC []) ?_ ?_
 ·intro A B;have h:=G _ B;refine aL [4] ?_;cases h;exact aH (aY u dX Y (RV.tmp Y) .nil Y)
 intro z K h;refine aL [0,3,7,8,9] ?_;refine aF ?_;refine aU h Y (fun C h=>?_) (fun C h=>?_)
 ·refine aG ?_;refine aF ?_;refine bQ ?_;refine aL [0,3,5,7,8] ?_;refine aF ?_;obtain⟨M,I,h⟩:=aB h;refine eD 6 mixed (by exact(.k (aI Y Y Y uR lA) (.k (aD Y) (.k (aD Y) (.k (qG I Y Y Jm lA) (.k (cE Y uR lA) (.k (Xs Ph Y Y Tryz.eqGuardType30 Y Y) .nil))))))) (by exact(J.kp [0,3,5,7,8,16] [])) ?_;refine aU h Y (fun D h=>?_) (fun D h=>?_)
  ·refine aL [4] ?_;refine aH ?_;refine eI ?_;cases h;refine gB fun E=>?_;obtain rfl:=H _ E;exact aY u dX Y (RV.tmp Y) .nil Y
  refine aG ?_;refine bV ?_;refine eV [0,3,7,8] ?_;cases h;exact cR (aC [])
 cases h;exact dE (dM (aC []))
theorem Ok{a0 a1 r}(h:uF a0 a1=some r):
 WE Tryz.prog 313 [.v Q5 a0,.v aM a1] (.WL [.v Q0 r.1,.v Wr.bool r.2]) []:=by
 refine WE.of Tryz.func313 Y Tryz.ntmps313 Y ?_;intro S w u;unfold uF at h;refine aJ (.k (cJ 101 Y sO Y) (.f [0,3] ?_));obtain⟨A,z,h⟩:=aB h;refine aJ (.a 2 ?_);refine .k (aO (sK z) Tryz.call314 (.cons (.dir Y) (.cons (.dir Y) .nil))) (.f [6] ?_);refine aJ (.a 1 ?_);refine .k (Ax Y Y) (.f [4,5] ?_);cases h;exact aH (bR u dX Y (RV.tmp Y) (RV.tmp Y) .nil Y)
theorem Dt{a0 a1 r}(h:lX a0 a1=some r):
 WE Tryz.prog 312 [.v (Wr.J2 Q5) a0,.v gJ a1] (.WL [.v Q4 r.1,.v Wr.bool r.2]) []:=by
 refine WE.of Tryz.func312 Y Tryz.ntmps312 Y ?_;intro S w z;unfold lX at h;refine aJ (.k (cJ 101 Y (.J2 sO) Y) (.k (cJ 102 Y (.VL sO sO) Y) (.k (aN 103 Oe Y (.cons (Z.int .i64) (.cons (Z.int .i64) (.cons (Z.int .i64) (.cons (Z.arr 8 (Z.int .u8)) .nil)))) Y) (.f [2,3,4] ?_))));obtain⟨u,A,h⟩:=aB h;refine aJ (.a 4 ?_);refine .k (aO (Ok A) Tryz.call313 (.cons (.dir Y) (.cons (.dir Y) .nil))) (.f [3,4,6,7] ?_);refine aJ (.a 3 ?_);refine .k (bP Dn (.cons (Z.int .i64) (.cons (Z.int .i64) (.cons (Z.int .i64) (.cons (Z.arr 8 (Z.int .u8)) .nil)))) (.cons Y (.dir Y) Y Y Y Y (.cons Y (.dir Y) Y Y Y Y (.cons Y (.dir Y) Y Y Y Y .nil)))) (.f [4,5] ?_);refine aH ?_;obtain rfl:=pT h;exact bZ (σ':=⟨[(4,.ptr 90 0),(5,.v Wr.bool u.2)],[(90,.box 210 [.v Q0 a1.1,.v Q0 (2:Int),.v Q0 u.1,.v aM aS])]⟩) (aC [(90,103)]) (bR z dX Y (aT Y Y (.VL sO (.VL sO (.VL sO sO))) Xc Ce) (RV.tmp Y) .nil Y)
theorem Cm{a0 a1 r}(h:sH a0 a1=some r):
 WE Tryz.prog 315 [.v kP a0,.v gJ a1] (.WL [.v Q4 r.1,.v Wr.bool r.2]) []:=by
 refine WE.of Tryz.func315 Y Tryz.ntmps315 Y ?_;intro S w u;unfold sH at h;refine aJ (.k (cJ 101 Y sO Y) (.k (cJ 102 Y (.VL sO sO) Y) (.k (aN 103 Oe Y (.cons (Z.int .i64) (.cons (Z.int .i64) (.cons (Z.int .i64) (.cons (Z.arr 8 (Z.int .u8)) .nil)))) Y) (.f [3,4] ?_))));refine aJ (.a 4 ?_);refine .k (bP Dn (.cons (Z.int .i64) (.cons (Z.int .i64) (.cons (Z.int .i64) (.cons (Z.arr 8 (Z.int .u8)) .nil)))) (.cons Y (.dir Y) Y Y Y Y (.cons Y (.dir Y) Y Y Y Y (.cons Y (.dir Y) Y Y Y Y .nil)))) (.f [4,5] ?_);refine aH ?_;obtain rfl:=pT h;exact bZ (σ':=⟨[(4,.ptr 90 0),(5,.v Wr.bool true)],[(90,.box 210 [.v Q0 a1.1,.v Q0 (3:Int),.v Q0 (0:Int),.v aM a1.2])]⟩) (aC [(90,103)]) (bR u dX Y (aT Y Y (.VL sO (.VL sO (.VL sO sO))) Xc Ce) (RV.tmp Y) .nil Y)
theorem Tn{w p0 r}(h:jG w p0=some r):
 u6 Tryz.prog "stillwater/plan.tell" BC w [.v gJ p0] (.WL [.v Q4 r.1,.v Wr.bool r.2]) []:=by
 unfold jG at h;rcases w with z | z | z | z | z
 ·exact(u6.here (fun _ _=>by kernel_rfl) Tryz.call310 (Gt h))
 ·exact(.there (u6.here (fun _ _=>by kernel_rfl) Tryz.call311 (Gu h)))
 ·exact(.there (.there (u6.here (fun _ _=>by kernel_rfl) Tryz.call312 (Dt h))))
 ·exact(.there (.there (.there (u6.here (fun _ _=>by kernel_rfl) Tryz.call315 (Cm h)))))
 ·cases h
theorem Js{a0 a1 a2 r}(h:qZ a0 a1 a2=some r):
 WE Tryz.prog 140 [.v Q1 a0,.v Q5 a1,.v Q5 a2] (.WL [.ref 0,.v Q9 r.2]) [(0,.arr 210 Q4 r.1)]:=by
 refine WE.of Tryz.func140 Y Tryz.ntmps140 Y ?_;intro S w C;unfold qZ at h;refine aJ (.k (aR 101 210 Q4) (.f [0,1,2] ?_));obtain⟨v1,WH,h⟩:=aB h;refine jW (.a 2 ?_);refine .k (aO (Aj WH) Tryz.call186 (.cons (.dir Y) (.cons (.dir Y) .nil))) (.f [0,1,2,8] ?_);refine aL [0,1,2,8,25] ?_;refine aU h Y (fun N h=>?_) (fun N h=>?_)
 ·refine aJ (.a 1 ?_);refine .k (aR 103 210 Q4) (.f [6,7] ?_);cases h;exact aH (wN C dX Y (aC [(0,103)]))
 refine aG ?_;refine aL [0,1,2,9] ?_;refine dI [0,1,2,9,27,28,29] ?_;obtain⟨a5,aa,ab,ac⟩:=cF h;refine jN (σs:=fun D:Int×Int=>⟨[(0,.v Q1 a0),(1,.v Q5 a1),(2,.v Q5 a2),(9,.v Q0 D.1),(27,.v Q1 a0),(28,.v Q0 (a0.length:Int)),(29,.v Q0 D.2)],[]⟩) (fun L:Unit=>⟨[(0,.v Q1 a0),(1,.v Q5 a1),(2,.v Q5 a2)],[]⟩) aa (aC []) ?_ ?_
 ·intro L A;have h:=ab _ A;obtain⟨z,ad,h⟩:=aB h;refine aJ (.a 1 ?_);refine .k (aO (Pn ad) Tryz.call187 (.cons (.dir Y) .nil)) (.f [0,1,2,12,13] ?_);refine dI [0,1,2,12,13,54] ?_;refine aU h Y (fun O h=>?_) (fun O h=>?_)
  ·refine aJ (.a 1 ?_);refine .k (aR 113 210 Q4) (.f [6,7] ?_);cases h;exact aH (wN C dX Y (aC [(0,113)]))
  refine aG ?_;refine aJ (.k (aR 114 210 Q4) (.f [0,1,2,12,14] ?_));refine dI [1,2,12,14,56,57,58] ?_;obtain⟨a6,af,al,a7⟩:=cF h;refine jN (σs:=fun u:Int×(List (Int×Int×Int×aQ))=>⟨[(1,.v Q5 a1),(2,.v Q5 a2),(12,.v (Wr.B7 (Wr.pr Q5 (Wr.X2 aM nV))) z.1),(14,.ref 162),(56,.v Q1 a0),(57,.v Q0 (a0.length:Int)),(58,.v Q0 u.1)],[(162,.arr 210 Q4 u.2)]⟩) (fun F:(List (Int×Int×Int×aQ))=>⟨[(14,.ref 162)],[(162,.arr 210 Q4 F)]⟩) af (aC [(162,114)]) ?_ ?_
  ·intro F A;have h:=al _ A;refine aL [6,7] ?_;cases h;exact aH (wN C dX Y (aC [(0,162)]))
  intro u M h;refine aL [1,2,12,14,56,57,58,59] ?_;refine aF ?_;refine aU h Y (fun P h=>?_) (fun P h=>?_)
  ·refine aG ?_;refine aF ?_;obtain⟨xh,am,h⟩:=gT h;refine TS (fun G:(List (Int×Int×Int×aQ))=>⟨[(1,.v Q5 a1),(2,.v Q5 a2),(12,.v (Wr.B7 (Wr.pr Q5 (Wr.X2 aM nV))) z.1),(14,.ref 196),(56,.v Q1 a0),(57,.v Q0 (a0.length:Int)),(58,.v Q0 u.1)],[(196,.arr 210 Q4 G)]⟩) (fun x=>xh x=some M) ?_ ?_
   ·intro G h;rw[am] at h;refine eV [1,2,12,14,56,57,58] ?_;cases h;exact cR (aC [(162,196)])
   obtain⟨E,a8,h⟩:=aB h;refine aJ (.a 2 ?_);refine .k (aN 197 Fb Y (.cons (Z.int .i64) (.cons (Z.arr 8 (Z.int .u8)) .nil)) Y) (.t (bS Y Y Y Y (.VL sO sO) jX) (.f [1,2,12,14,16,56,57,58] ?_));refine aF ?_;refine aF ?_;obtain⟨a9,an,h⟩:=aB h;refine eD 8 mixed (by exact(.k (aD Y) (.k (aA 0 Y Oc Y S3 Y Y) (.k (aI Y Y Y G3 S3) (.k (qG an Y Y Jm lA) (.k (cE Y uR lA) (.k (aA 1 Y Oc Y lA Y Y) (.k (aI Y Y Y uR lA) (.k (Xs Ph Y Y Tryz.eqGuardType30 Y Y) .nil))))))))) (by exact(J.kp [1,2,12,14,16,56,57,58,69] [])) ?_;refine aU h Y (fun Q h=>?_) (fun Q h=>?_)
   ·refine dE ?_;exact LN h (aC [(196,162)])
   refine aG ?_;refine TW (σ':=⟨[(1,.v Q5 a1),(2,.v Q5 a2),(12,.v (Wr.B7 (Wr.pr Q5 (Wr.X2 aM nV))) z.1),(14,.ref 162),(16,.ptr 197 0),(56,.v Q1 a0),(57,.v Q0 (a0.length:Int)),(58,.v Q0 u.1),(80,.v (Wr.sl BC) ([(.inl ():lS),(.inr (.inl z.1):lS),(.inr (.inr (.inl a2)):lS),(.inr (.inr (.inr (.inl ()))):lS)]:(List lS))),(81,.v Q0 (([(.inl ():lS),(.inr (.inl z.1):lS),(.inr (.inr (.inl a2)):lS),(.inr (.inr (.inr (.inl ()))):lS)]:(List lS)).length:Int)),(82,.v Q0 (0:Int))],[(162,.arr 210 Q4 u.2),(197,.box 214 [.v Q0 E.1,.v aM E.2])]⟩) (J.cons (.none Y) (Mp (bP KN .nil .nil)) Y Y (J.cons (.none Y) (Hn Y Tryz.runUnderlying322 .here) Y Y (J.cons (.none Y) (aD Y) Y Y (J.cons (.none Y) (Bb (bP KO (.cons (Z.B7 (Wr.pr Q5 (Wr.X2 aM nV))) .nil) (.cons Y (.dir Y) Y Y Y Y .nil)) (.J2 sO) Y) Y Y (J.cons (.none Y) (Hn Y QS (.there .here)) Y Y (J.cons (.none Y) (aD Y) Y Y (J.cons (.none Y) (Bb (bP KP (.cons (Z.sl aM) .nil) (.cons Y (.dir Y) Y Y Y Y .nil)) (.J2 sO) Y) Y Y (J.cons (.none Y) (Hn Y QT (.there (.there .here))) Y Y (J.cons (.none Y) (Mp (bP KQ .nil .nil)) Y Y (J.cons (.none Y) (Hn Y Tryz.runUnderlying327 (.there (.there (.there .here)))) Y Y (J.cons (.none Y) (eJ (e:=BC) QU Tryz.sizeOf330 Tryz.zeroValue330 Y Y Y Y (.cons (.dir Y) (.cons (.dir Y) (.cons (.dir Y) (.cons (.dir Y) .nil))))) Y Y (J.cons (.none Y) (uZ Y QU) Y Y (J.cons (.none Y) (aD Y) Y Y (J.fin (aC []))))))))))))))) ?_;obtain⟨ba,ap,aq,bb⟩:=cF h;refine jN (σs:=fun I:Int=>⟨[(1,.v Q5 a1),(2,.v Q5 a2),(12,.v (Wr.B7 (Wr.pr Q5 (Wr.X2 aM nV))) z.1),(14,.ref 162),(16,.ptr 197 0),(56,.v Q1 a0),(57,.v Q0 (a0.length:Int)),(58,.v Q0 u.1),(80,.v (Wr.sl BC) ([(.inl ():lS),(.inr (.inl z.1):lS),(.inr (.inr (.inl a2)):lS),(.inr (.inr (.inr (.inl ()))):lS)]:(List lS))),(81,.v Q0 (([(.inl ():lS),(.inr (.inl z.1):lS),(.inr (.inr (.inl a2)):lS),(.inr (.inr (.inr (.inl ()))):lS)]:(List lS)).length:Int)),(82,.v Q0 I)],[(162,.arr 210 Q4 u.2),(197,.box 214 [.v Q0 E.1,.v aM E.2])]⟩) (fun H:(List (Int×Int×Int×aQ))=>⟨[(1,.v Q5 a1),(2,.v Q5 a2),(12,.v (Wr.B7 (Wr.pr Q5 (Wr.X2 aM nV))) z.1),(14,.ref 204),(56,.v Q1 a0),(57,.v Q0 (a0.length:Int)),(58,.v Q0 u.1)],[(204,.arr 210 Q4 H)]⟩) ap (aC []) ?_ ?_
   ·intro H A;have h:=aq _ A;exact LM h (aC [(196,204)])
   intro I a3 h;refine aL [1,2,12,14,16,56,57,58,80,81,82,83] ?_;refine aF ?_;refine aU h Y (fun R h=>?_) (fun R h=>?_)
   ·refine aG ?_;refine aF ?_;refine bQ ?_;obtain⟨vx,bd,h⟩:=aB h;refine aL [1,2,12,14,16,18,56,57,58,80,81,82] ?_;obtain⟨nh,au,h⟩:=aB h;refine aJ (.a 1 ?_);refine .k (aX Y Y (.VL sO sO) Zn jX) (.k (DC Y (Tn au) (.cons (.dir Y) .nil)) ?_);refine .a 3 ?_;refine .k (aN 205 Oe Y (.cons (Z.int .i64) (.cons (Z.int .i64) (.cons (Z.int .i64) (.cons (Z.arr 8 (Z.int .u8)) .nil)))) Y) (.t (bS Y Y Y Y (.VL sO (.VL sO (.VL sO sO))) Ce) (.f [1,2,12,14,16,19,20,56,57,58,80,81,82] ?_));refine aL [1,2,12,14,16,19,56,57,58,80,81,82,92] ?_;refine aU h Y (fun T h=>?_) (fun T h=>?_)
    ·obtain⟨wu,av,h⟩:=aB h;refine aJ (.a 1 ?_);refine .k (aX Y Y (.VL sO (.VL sO (.VL sO sO))) Xc Ce) (.k (eJ (e:=Q4) FG Ce Oe Y Y Y Y (.cons (.dir Y) .nil)) (.t (cG 206 av Y Y (.sl Y) FG QN Ce Y Y Y Y Y) (.f [1,2,12,14,56,57,58] ?_)));refine dE ?_;refine LJ Y ?_;cases h;exact dM (aC [(204,206)])
    refine aG ?_;refine bV ?_;refine eV [1,2,12,14,16,56,57,58,80,81,82] ?_;cases h;exact cR (aC [])
   cases h;exact dE (dM (aC [(204,162)]))
  cases h;exact dE (dM (aC []))
 intro D a4 h;refine aL [0,1,2,9,27,28,29,30] ?_;refine aF ?_;refine aU h Y (fun U h=>?_) (fun U h=>?_)
 ·refine aG ?_;refine aF ?_;refine bQ ?_;obtain⟨K,xj,h⟩:=aB h;refine aJ (.a 2 ?_);refine .k (aN 110 Fb Y (.cons (Z.int .i64) (.cons (Z.arr 8 (Z.int .u8)) .nil)) Y) (.t (bS Y Y Y Y (.VL sO sO) jX) (.f [0,1,2,9,11,27,28,29] ?_));refine aF ?_;refine aF ?_;obtain⟨pz,B,h⟩:=aB h;refine eF (σ':=⟨[(0,.v Q1 a0),(1,.v Q5 a1),(2,.v Q5 a2),(11,.ptr 110 0),(27,.v Q1 a0),(28,.v Q0 (a0.length:Int)),(29,.v Q0 D.2),(43,.v Wr.bool pz)],[(110,.box 214 [.v Q0 K.1,.v aM K.2])]⟩) ?_ ?_
  ·refine cd B (fun V B=>?_) (fun V B=>?_)
   ·cases B;exact jy
   cases B;exact jy
  refine aU h Y (fun X h=>?_) (fun X h=>?_)
  ·refine aJ (.a 1 ?_);refine .k (aR 111 210 Q4) (.f [6,7] ?_);refine aH ?_;refine eI ?_;cases h;refine gB fun ho=>?_;obtain rfl:=ac _ ho;exact wN C dX Y (aC [(0,111)])
  refine aG ?_;refine eV [0,1,2,9,27,28,29] ?_;refine bV ?_;refine eV [0,1,2,9,27,28,29] ?_;cases h;exact cR (aC [])
 cases h;exact dE (dM (aC []))
theorem Jt{a0 a1 a2 r}(h:rA a0 a1 a2=some r):
 WE Tryz.prog 83 [.v pG a0,.v Q5 a1,.v Q0 a2] (.WL [.v Q8 r.1,.v Wr.bool r.2]) []:=by
 refine WE.of Tryz.func83 Y Tryz.ntmps83 Y ?_;intro S w A;unfold rA at h;refine aJ (.k (cJ 101 Y (.VL sO sO) Y) (.k (aN 102 Cf Y (.cons (Z.int .i64) (.cons (Z.sl Q0) (.cons (Z.sl aM) .nil))) Y) (.f [1,2,3,6] ?_)));obtain⟨B,H,h⟩:=aB h;refine aJ (.a 3 ?_);refine .k (fM 103000 (Js H) Tryz.call140 (.cons (.dir Y) (.cons (.dir Y) (.cons (.nq _) .nil))) Y) (.f [2,3,6,8,9] ?_);refine dI [2,3,6,8,21] ?_;refine aU h Y (fun E h=>?_) (fun E h=>?_)
 ·refine aJ (.k (fL (new:=[(105,.arr 3 Q0 ([]:kS)),(104,.arr 30 aM ([]:iO))]) mC (.cons (Z.int .i64) (.ref 105 Y (.ref 104 Y .nil))) (.cons (.cons .nil)) Y .nil) (.f [6,7] ?_));refine aH ?_;obtain rfl:=pT h;exact bZ (σ':=⟨[(6,.ptr 90 0),(7,.v Wr.bool false)],[(90,.box 144 [.v Q0 (0:Int),.v nV ([]:kS),.v Q5 ([]:iO)])]⟩) (aC [(90,102)]) (bR A dX Y (aT Y Y (.VL sO (.VL sO sO)) uQ lP) (RV.tmp Y) .nil Y)
 refine aG ?_;refine aJ (.a 3 ?_);refine .k (rK (e:=Q0) 106 yB S3 Z3 Y Y Y Y (.cons (.dir Y) (.cons (.dir Y) .nil))) (.k (fL (new:=[(107,.arr 30 aM ([]:iO))]) mC (.cons (Z.int .i64) (.cons (Z.sl Q0) (.ref 107 Y .nil))) (.cons .nil) Y (.cons Y (.dir Y) Y Y Y Y (.cons Y (.dir Y) Y Y Y Y .nil))) (.k (zT (new:=[(110,.arr 3 Q0 ([]:kS)),(109,.arr 30 aM ([]:iO))]) 108 Cf Y (.cons (Z.int .i64) (.ref 110 Y (.ref 109 Y .nil))) (.cons (.cons .nil)) Y Y) (.f [6,8,10] ?_)));refine dI [6,10,28,29,30] ?_;obtain⟨O,I,K,P⟩:=cF h;refine jN (σs:=fun z:Int×kS×iO=>⟨[(6,.ptr 102 0),(10,.ptr 108 0),(28,.ref 103000),(29,.v Q0 (B.1.length:Int)),(30,.v Q0 z.1)],[(102,.box 144 [.v Q0 (0:Int),.v nV ([]:kS),.v Q5 ([]:iO)]),(108,.box 144 [.v Q0 (4:Int),.ref 123,.ref 124]),(103000,.arr 210 Q4 B.1),(123,.arr 3 Q0 z.2.1),(124,.arr 30 aM z.2.2)]⟩) (fun u:kS×iO=>⟨[(6,.ptr 102 0),(10,.ptr 108 0)],[(102,.box 144 [.v Q0 (0:Int),.v nV ([]:kS),.v Q5 ([]:iO)]),(108,.box 144 [.v Q0 (4:Int),.ref 123,.ref 124]),(123,.arr 3 Q0 u.1),(124,.arr 30 aM u.2)]⟩) I (aC [(124,107),(123,106)]) ?_ ?_
 ·intro u D;have h:=K _ D;refine aF ?_;refine eD 7 mixed (by exact(.k (iB Y Y Y uQ lP) (.k (aA 1 Y uS Y yV Y Y) (.k (aI Y Y Y Ti yV) (.k (Rn Y Y yB) (.k (jR Y Y Y) (XS.C0 (.none Y) Y Y Y Y Y Y lP (.k (bM Y) .nil)))))))) (by exact(J.kp [6,7] [])) ?_;refine aH ?_;obtain rfl:=pT h;exact bZ (σ':=⟨[(6,.ptr 90 0),(7,.v Wr.bool (cm .leq (u.1.length:Int) (9:Int)))],[(90,.box 144 [.v Q0 (4:Int),.v nV u.1,.v Q5 u.2])]⟩) (aC [(90,102)]) (bR A dX Y (aT Y Y (.VL sO (.VL sO sO)) uQ lP) (RV.tmp Y) .nil Y)
 intro z N h;refine aL [6,10,28,29,30,31] ?_;refine aF ?_;refine aU h Y (fun F h=>?_) (fun F h=>?_)
 ·refine aG ?_;refine aF ?_;refine bQ ?_;obtain⟨Q,C,h⟩:=aB h;refine aJ (.k (jA C Y Y Y FG Ce) (.k (jV (dQ C).2.2 Y Y .here Xc Ce) (.k (aN 128 Oe Y (.cons (Z.int .i64) (.cons (Z.int .i64) (.cons (Z.int .i64) (.cons (Z.arr 8 (Z.int .u8)) .nil)))) Y) (.t (bS Y Y Y Y (.VL sO (.VL sO (.VL sO sO))) Ce) (.f [6,10,12,28,29,30] ?_)))));obtain⟨R,L,h⟩:=aB h;refine aJ (.a 4 ?_);refine .k (fD (.inl Y) (by decide) Y Y) ?_;refine .a 2 ?_;refine .k (fD (.inl Y) (by decide) Y Y) ?_;refine .a 4 ?_;refine .k (eJ (e:=Q0) yB S3 Z3 Y Y Y Y (.cons (.dir Y) .nil)) (.t (cG 129 L Y Y (.sl Y) yB I3 S3 Y Y Y Y Y) (.f [6,10,12,28,29,30] ?_));refine aL [6,10,12,28,29,30,51] ?_;refine aU h Y (fun G h=>?_) (fun G h=>?_)
  ·obtain⟨T,M,h⟩:=aB h;refine gC (.a 4 ?_);refine .k (eJ (e:=aM) Jm lA Cg Y Y Y Y (.cons (.dir Y) .nil)) (.t (cG 130 M Y Y (.sl Y) Jm An lA Y Y Y Y Y) (.f [6,10,28,29,30] ?_));refine bV ?_;refine eV [6,10,28,29,30] ?_;cases h;exact cR (aC [(124,130),(123,129)])
  refine aG ?_;refine bV ?_;refine eV [6,10,28,29,30] ?_;cases h;exact cR (aC [(123,129)])
 cases h;exact dE (dM (aC []))
theorem xU(A:Nat->Nat){b0 b1 b2 b3 b4 b5 b6 b7 b8 b9 bA bB bC bD bE bF bG bH bI bJ bK bL r}(h:dR b0 b1 b2 b3 b4 b5 b6 b7 b8 b9 bA bB bC bD bE bF bG bH bI bJ bK bL=some r):
 VR Tryz.prog 51 [.ptr 9000 1] (kM 9000 (some (A 9000)) 9100 (some (A 9100)) 9200 (some (A 9200)) 9050 9051 9052 9053 b0 b1 b2 b3 b4 b5 b6 b7 b8 b9 bA bB bC bD bE bF bG bH bI bJ bK bL) (.v Q8 r) (kM 9000 (some (A 9000)) 9100 (some (A 9100)) 9200 (some (A 9200)) 400 401 402 403 b0 b1 b2 b3 b4 b5 b6 b7 b8 b9 bA bB bC bD bE bF bG bH bI bJ bK bL):=by
 refine VR.of Tryz.func51 Y Tryz.ntmps51 Y ?_;intro S w R C;unfold dR at h;refine aJ (.k (aN 101 Cf Y (.cons (Z.int .i64) (.cons (Z.sl Q0) (.cons (Z.sl aM) .nil))) Y) (.f [0,2] ?_));refine aF ?_;refine aF ?_;obtain⟨D,I,h⟩:=aB h;refine eD 22 mixed (by exact(.k (aD Y) (.k (aK Y) (.k (aA 6 Y vS Y yW Y Y) (.k (aI Y Y Y Ez yW) (.k (aD Y) (.k (aK Y) (.k (aA 1 Y vS Y Ky Y Y) (.k (aA 2 Y Fa Y S3 Y Y) (.k (aI Y Y Y G3 S3) (.k (aD Y) (.k (aK Y) (.k (aA 15 Y vS Y S3 Y Y) (.k (aI Y Y Y G3 S3) (.k (aO (La I) Tryz.call82 (.cons (.dir Y) (.cons (.dir Y) (.cons (.dir Y) .nil)))) (.k (aD Y) (.k (bU Y Y) (.k (bU Y Y) (.k (bU Y Y) (.k (aN 103 Pg Y (.cons (Z.int .i64) (.cons (Z.sl gJ) .nil)) Y) (XS.storeAll (.none Y) Y Y Y Y (.VL sO sO) vD (.k (bM Y) (.k (bM Y) .nil))))))))))))))))))))))) (by exact(J.kp [0,2,3,4,5] [])) ?_;refine aF ?_;obtain⟨K,u,h⟩:=aB h;refine eF (σ':=⟨[(0,.ptr 9000 1),(2,.ptr 101 0),(3,.ptr 103 0),(32,.v Wr.bool K)],((101,.box 144 [.v Q0 (0:Int),.v nV ([]:kS),.v Q5 ([]:iO)])::(103,.box 197 [.v Q0 D.1.1,.v Q1 D.1.2])::kM 9000 (some (A 9000)) 9100 (some (A 9100)) 9200 (some (A 9200)) 9050 9051 9052 9053 b0 b1 b2 b3 b4 b5 b6 b7 b8 b9 bA bB bC bD bE bF bG bH bI bJ bK bL)⟩) ?_ ?_
 ·refine cd u (fun F u=>?_) (fun F u=>?_)
  ·cases u;refine ja 1 ?_;exact(J.k (iH Od Y) jy)
  cases u;refine ja 1 ?_;exact(J.k (iH Od Y) jy)
 obtain⟨L,M,h⟩:=gT h;refine vT (fun E:Unit=>⟨[(0,.ptr 9000 1),(2,.ptr 101 0)],((101,.box 144 [.v Q0 (0:Int),.v nV ([]:kS),.v Q5 ([]:iO)])::kM 9000 (some (A 9000)) 9100 (some (A 9100)) 9200 (some (A 9200)) 9050 9051 9052 9053 b0 b1 b2 b3 b4 b5 b6 b7 b8 b9 bA bB bC bD bE bF bG bH bI bJ bK bL)⟩) (fun x=>L x=some r) Y ?_ ?_ ?_
 ·intro E h;rw[M] at h;refine aF ?_;refine eD 18 mixed (by exact(.k (aD Y) (.k (aK Y) (.k (aA 1 Y vS Y Ky Y Y) (.k (aA 3 Y Fa Y S3 Y Y) (.k (aI Y Y Y G3 S3) (.k (eJ (e:=Q0) yB S3 Z3 Y Y Y Y (.cons (.dir Y) .nil)) (.k (aD Y) (.k (aK Y) (.k (aA 10 Y vS Y Zo Y Y) (.k (aI Y Y Y OW Zo) (.k (aD Y) (.k (aK Y) (.k (aA 1 Y vS Y Ky Y Y) (.k (aA 3 Y Fa Y S3 Y Y) (.k (aI Y Y Y G3 S3) (.k (Ut Y Y Y QW U3 (p8.int U3) Y TF (fun S w=>⟨_,(Z.sl aM) S w,Y⟩)) (.k (bP mC (.cons (Z.int .i64) (.cons (Z.sl Q0) (.cons (Z.sl aM) .nil))) (.cons Y (.dir Y) Y Y Y Y (.cons Y (.dir Y) Y Y Y Y (.cons Y (.dir Y) Y Y Y Y .nil)))) (XS.C0 (.none Y) Y Y Y Y Y Y lP .nil))))))))))))))))))) (by exact(J.kp [0,2] [])) ?_;refine aH ?_;obtain rfl:=pT h;exact kU [(0,.ptr 9000 1),(2,.ptr 90 0)] [(90,.box 144 [.v Q0 (5:Int),.v nV ([b2]:kS),.v Q5 ((fP b6 b2).getD ([]:iO))])] (aC [(90,101),(403,9053),(402,9052),(401,9051),(400,9050)]) (eU C Y (aT Y Y (.VL sO (.VL sO sO)) uQ lP) (.cons Y (.cons Y (.cons Y (.cons Y (.cons Y (.cons Y (.cons Y .nil))))))))
 ·intro z;replace h:=kG z h;refine aF ?_;refine eD 14 mixed (by exact(.k (aD Y) (.k (aK Y) (.k (aA 10 Y vS Y Zo Y Y) (.k (aI Y Y Y OW Zo) (.k (aD Y) (.k (aK Y) (.k (aA 15 Y vS Y S3 Y Y) (.k (aI Y Y Y G3 S3) (.k (Ms Y Y Y QW U3 (p8.int U3) Y TF (fun S w=>⟨_,(Z.sl aM) S w,Y⟩)) (.k (aD Y) (.k (bU Y Y) (.k (bU Y Y) (.k (bM Y) (.k (bM Y) .nil))))))))))))))) (by exact(J.kp [0,2,3,6,7] [])) ?_;refine aL [0,2,3,6,45] ?_;refine aU h Y (fun G h=>?_) (fun G h=>?_)
  ·refine aF ?_;obtain⟨B,N,h⟩:=aB h;refine eD 13 mixed (by exact(.k (aX Y Y (.VL sO sO) Oa vD) (.k (aD Y) (.k (aD Y) (.k (aK Y) (.k (aA 15 Y vS Y S3 Y Y) (.k (aI Y Y Y G3 S3) (.k (aO (Jt N) Tryz.call83 (.cons (.dir Y) (.cons (.dir Y) (.cons (.dir Y) .nil)))) (.k (aD Y) (.k (bU Y Y) (.k (bU Y Y) (.k (aN 107 Cf Y (.cons (Z.int .i64) (.cons (Z.sl Q0) (.cons (Z.sl aM) .nil))) Y) (XS.storeAll (.none Y) Y Y Y Y (.VL sO (.VL sO sO)) lP (.k (bM Y) .nil)))))))))))))) (by exact(J.kp [0,2,8,9] [])) ?_;refine aL [0,2,8,56] ?_;refine aU h Y (fun H h=>?_) (fun H h=>?_)
   ·refine aJ (.k (aX Y Y (.VL sO (.VL sO sO)) uQ lP) (.t (bS Y Y Y Y (.VL sO (.VL sO sO)) lP) (.f [0,2] ?_)));refine aH ?_;refine Hb ?_;obtain rfl:=pT h;exact kU [(0,.ptr 9000 1),(2,.ptr 90 0)] [(90,.box 144 [.v Q0 B.1.1,.v nV B.1.2.1,.v Q5 B.1.2.2])] (aC [(90,101),(403,9053),(402,9052),(401,9051),(400,9050)]) (eU C Y (aT Y Y (.VL sO (.VL sO sO)) uQ lP) (.cons Y (.cons Y (.cons Y (.cons Y (.cons Y (.cons Y (.cons Y .nil))))))))
   refine aG ?_;exact cT h (aC [])
  refine aG ?_;exact cT h (aC [])
 ·intro z;replace h:=kH z h;refine aG ?_;exact cT h (aC [])
theorem Il{a0 r}(h:pS a0=some r):
 WE Tryz.prog 184 [.v Q0 a0] (.v Wr.bool r) []:=by
 refine WE.of Tryz.func184 Y Tryz.ntmps184 Y ?_;intro S w z;unfold pS at h;refine aL [0] ?_;refine aF ?_;obtain⟨B,u,h⟩:=aB h;refine eF (σ':=⟨[(2,.v Wr.bool B)],[]⟩) ?_ ?_
 ·refine cd u (fun A u=>?_) (fun A u=>?_)
  ·cases u;exact jy
  cases u;exact jy
 cases h;exact aH (aY z dX Y (RV.tmp Y) .nil Y)
theorem pD{a0 r}(h:eH a0=some r):
 WE Tryz.prog 228 [.v nV a0,.ZT 184 []] (.v Q0 r) []:=by
 refine WE.of Tryz.func228 Y Tryz.ntmps228 Y ?_;intro S w u;unfold eH at h;refine aL [0,1] ?_;refine dI [0,1,7,8] ?_;obtain⟨L,F,G,H⟩:=cF h;refine jN (σs:=fun z:Int=>⟨[(0,.v nV a0),(1,.ZT 184 []),(7,.v Q0 (a0.length:Int)),(8,.v Q0 z)],[]⟩) (fun A:Unit=>⟨[],[]⟩) F (aC []) ?_ ?_
 ·intro A B;have h:=G _ B;refine aL [4] ?_;cases h;exact aH (aY u dX Y (RV.tmp Y) .nil Y)
 intro z K h;refine aL [0,1,7,8,9] ?_;refine aF ?_;refine aU h Y (fun C h=>?_) (fun C h=>?_)
 ·refine aG ?_;refine aF ?_;refine bQ ?_;refine aL [0,1,5,7,8] ?_;obtain⟨M,N,h⟩:=aB h;obtain⟨O,I,h⟩:=aB h;refine aJ (.a 5 ?_);refine .k (tM Y (Il I) Tryz.call184 (.cons (.dir Y) .nil)) (.f [0,1,5,7,8,16] ?_);refine aU h Y (fun D h=>?_) (fun D h=>?_)
  ·refine aL [4] ?_;refine aH ?_;refine eI ?_;cases h;refine gB fun E=>?_;obtain rfl:=H _ E;exact aY u dX Y (RV.tmp Y) .nil Y
  refine aG ?_;refine bV ?_;refine eV [0,1,7,8] ?_;cases h;exact cR (aC [])
 cases h;exact dE (dM (aC []))
theorem nI{a0 r}(h:cX a0=some r):
 WE Tryz.prog 182 [.v nV a0,.ZT 184 []] (.v Wr.bool r) []:=by
 refine WE.of Tryz.func182 Y Tryz.ntmps182 Y ?_;intro S w u;unfold cX at h;refine aL [0,1] ?_;obtain⟨A,z,h⟩:=aB h;refine aJ (.a 2 ?_);refine .k (aO (pD z) Tryz.call228 (.cons (.dir Y) (.cons (.dir Y) .nil))) (.f [4] ?_);cases h;exact aH (aY u dX Y (RV.tmp Y) .nil Y)
theorem Cc{a0 r}(h:qD a0=some r):
 WE Tryz.prog 136 [.v nV a0] (.v Wr.bool r) []:=by
 refine WE.of Tryz.func136 Y Tryz.ntmps136 Y ?_;intro S w u;unfold qD at h;refine aL [0] ?_;obtain⟨A,z,h⟩:=aB h;refine aJ (.a 1 ?_);refine .k (aO (nI z) Tryz.call182 (.cons (.dir Y) (.cons .fn .nil))) (.f [2] ?_);cases h;exact aH (aY u dX Y (RV.tmp Y) .nil Y)
theorem Fv{a0 r}(h:tQ a0=some r):
 WE Tryz.prog 79 [.v Q8 a0] (.v Q9 r) []:=by
 refine WE.of Tryz.func79 Y Tryz.ntmps79 Y ?_;intro S w u;unfold tQ at h;refine aJ (.k (cJ 101 Y (.VL sO (.VL sO sO)) Y) (.f [1] ?_));obtain⟨C,B,h⟩:=aB h;refine jW (.k (aX Y Y (.VL sO (.VL sO sO)) uQ lP) (.k (aO (Cb B) Tryz.call134 (.cons (.dir Y) .nil)) (.f [1,3] ?_)));refine aL [1,3,7] ?_;refine aU h Y (fun z h=>?_) (fun z h=>?_)
 ·refine aL [2] ?_;cases h;exact aH (aY u dX Y (RV.tmp Y) .nil Y)
 refine aG ?_;refine dI [12] ?_;refine aU h Y (fun A h=>?_) (fun A h=>?_)
 ·refine aL [2] ?_;cases h;exact aH (aY u dX Y (RV.tmp Y) .nil Y)
 refine aG ?_;refine aL [2] ?_;cases h;exact aH (aY u dX Y (RV.tmp Y) .nil Y)
theorem xV{a0 r}(h:pJ a0=some r):
 WE Tryz.prog 78 [.v Nz a0] (.v Q9 r) []:=by
 refine WE.of Tryz.func78 Y Tryz.ntmps78 Y ?_;intro S w u;unfold pJ at h;refine aJ (.k (cJ 101 Y (.VL sO (.VL sO sO)) Y) (.f [1] ?_));obtain⟨O,H,h⟩:=aB h;refine jW (.a 4 ?_);refine .k (eJ (e:=Q0) yB S3 Z3 Y Y Y Y (.cons (.dir Y) (.cons (.dir Y) .nil))) (.k (aO (Cc H) Tryz.call136 (.cons (.dir Y) .nil)) (.f [1,12] ?_));refine aU h Y (fun C h=>?_) (fun C h=>?_)
 ·refine aL [2] ?_;cases h;exact aH (aY u dX Y (RV.tmp Y) .nil Y)
 refine aG ?_;refine dI [1,17] ?_;refine aU h Y (fun D h=>?_) (fun D h=>?_)
 ·refine aL [2] ?_;cases h;exact aH (aY u dX Y (RV.tmp Y) .nil Y)
 refine aG ?_;refine dI [20,21,22] ?_;obtain⟨P,I,K,L⟩:=cF h;refine jN (σs:=fun z:Int=>⟨[(20,.v (Wr.sl Q8) a0.2.2),(21,.v Q0 (a0.2.2.length:Int)),(22,.v Q0 z)],[]⟩) (fun A:Unit=>⟨[],[]⟩) I (aC []) ?_ ?_
 ·intro A B;have h:=K _ B;refine aL [2] ?_;cases h;exact aH (aY u dX Y (RV.tmp Y) .nil Y)
 intro z N h;refine aL [20,21,22,23] ?_;refine aF ?_;refine aU h Y (fun E h=>?_) (fun E h=>?_)
 ·refine aG ?_;refine aF ?_;refine bQ ?_;obtain⟨Q,R,h⟩:=aB h;refine aJ (.a 2 ?_);refine .k (aN 109 Cf Y (.cons (Z.int .i64) (.cons (Z.sl Q0) (.cons (Z.sl aM) .nil))) Y) (.t (bS Y Y Y Y (.VL sO (.VL sO sO)) lP) (.f [4,20,21,22] ?_));obtain⟨T,M,h⟩:=aB h;refine aJ (.k (aX Y Y (.VL sO (.VL sO sO)) uQ lP) (.k (aO (Fv M) Tryz.call79 (.cons (.dir Y) .nil)) (.f [5,20,21,22] ?_)));refine aL [5,20,21,22,29] ?_;refine aU h Y (fun F h=>?_) (fun F h=>?_)
  ·refine aL [2] ?_;refine aH ?_;refine eI ?_;cases h;refine gB fun G=>?_;obtain rfl:=L _ G;exact aY u dX Y (RV.tmp Y) .nil Y
  refine aG ?_;refine bV ?_;refine eV [20,21,22] ?_;cases h;exact cR (aC [])
 cases h;exact dE (dM (aC []))
theorem wJ{a0 r}(h:rB a0=some r):
 WE Tryz.prog 137 [.v (Wr.H8 Q0) a0] (.ref 0) [(0,.arr 3 Q0 r)]:=by
 refine WE.of Tryz.func137 Y Tryz.ntmps137 Y ?_;intro S w u;unfold rB at h;refine aJ (.k (aR 101 3 Q0) (.f [0] ?_));refine jW (.a 1 ?_);refine .k (xE Y yB) (.f [0,4] ?_);refine aU h Y (fun z h=>?_) (fun z h=>?_)
 ·refine aJ (.k (aR 102 3 Q0) (.f [2] ?_));cases h;exact aH (wM u dX Y (aC [(0,102)]))
 refine aG ?_;obtain⟨B,A,h⟩:=aB h;refine aJ (.k (rK (e:=Q0) 103 yB S3 Z3 Y Y Y Y .nil) ?_);refine .a 1 ?_;refine .t (cG 104 A Y Y (.H8 Y) yB I3 S3 Y Y Y Y Y) (.f [2] ?_);cases h;exact aH (wM u dX Y (aC [(0,104)]))
theorem zI{a0:kS}{r:kS}(h:lI a0=some r):
  WE Tryz.prog 137 [.v nV a0] (.ref 0) [(0,.arr 3 Q0 r)]:=
 rN fun b u=>wJ (by cases b with | true=>rw[u rfl] at h ⊢;exact h | false=>exact Ef h)
theorem Du{a0 r}(h:mV a0=some r):
 WE Tryz.prog 81 [.v Q8 a0] (.v Q8 r) []:=by
 refine WE.of Tryz.func81 Y Tryz.ntmps81 Y ?_;intro S w u;unfold mV at h;refine aJ (.k (cJ 101 Y (.VL sO (.VL sO sO)) Y) (.k (aN 102 Cf Y (.cons (Z.int .i64) (.cons (Z.sl Q0) (.cons (Z.sl aM) .nil))) Y) (.f [1,2] ?_)));refine aF ?_;obtain⟨z,A,h⟩:=aB h;obtain⟨B,C,h⟩:=aB h;refine eD 10 mixed (by exact(.k (aA 1 Y uS Y yV Y Y) (.k (aI Y Y Y Ti yV) (.k (fM 103000 (zI A) Tryz.call137 (.cons (.dir Y) .nil) Y) (.k (aA 2 Y uS Y yA Y Y) (.k (aI Y Y Y Tu yA) (.k (fM 104000 (cO C) Zm (.cons (.dir Y) .nil) Y) (.k (aA 1 Y uS Y yV Y Y) (XS.store (.none Y) Y Y Y Y Y Y Y yV (.k (aA 2 Y uS Y yA Y Y) (XS.store (.none Y) Y Y Y Y Y Y Y yA .nil))))))))))) (by exact(J.kp [1,2] [])) ?_;refine aJ (.k (iB Y Y Y uQ lP) (.f [2] ?_));refine aH ?_;obtain rfl:=pT h;exact bZ (σ':=⟨[(2,.ptr 90 0)],[(90,.box 144 [.v Q0 a0.1,.v nV z,.v Q5 B])]⟩) (aC [(90,102)]) (aY u dX Y (aT Y Y (.VL sO (.VL sO sO)) uQ lP) .nil Y)
theorem Dv{a0 r}(h:rU a0=some r):
 WE Tryz.prog 80 [.v (Wr.sl Q8) a0] (.ref 0) [(0,.arr 144 Q8 r)]:=by
 refine WE.of Tryz.func80 Y Tryz.ntmps80 Y ?_;intro S w A;unfold rU at h;refine aJ (.k (aR 101 144 Q8) (.f [0] ?_));refine aJ (.k (aR 102 144 Q8) (.f [0,3] ?_));refine dI [3,6,7,8] ?_;obtain⟨I,D,E,K⟩:=cF h;refine jN (σs:=fun u:Int×Kw=>⟨[(3,.ref 112),(6,.v (Wr.sl Q8) a0),(7,.v Q0 (a0.length:Int)),(8,.v Q0 u.1)],[(112,.arr 144 Q8 u.2)]⟩) (fun z:Kw=>⟨[(3,.ref 112)],[(112,.arr 144 Q8 z)]⟩) D (aC [(112,102)]) ?_ ?_
 ·intro z B;have h:=E _ B;refine aL [2] ?_;cases h;exact aH (wM A dX Y (aC [(0,112)]))
 intro u H h;refine aL [3,6,7,8,9] ?_;refine aF ?_;refine aU h Y (fun C h=>?_) (fun C h=>?_)
 ·refine aG ?_;refine aF ?_;refine bQ ?_;obtain⟨L,M,h⟩:=aB h;refine aJ (.a 2 ?_);refine .k (aN 116 Cf Y (.cons (Z.int .i64) (.cons (Z.sl Q0) (.cons (Z.sl aM) .nil))) Y) (.t (bS Y Y Y Y (.VL sO (.VL sO sO)) lP) (.f [3,5,6,7,8] ?_));obtain⟨N,F,h⟩:=aB h;obtain⟨O,G,h⟩:=aB h;refine gC (.a 1 ?_);refine .k (aX Y Y (.VL sO (.VL sO sO)) uQ lP) (.k (aO (Du F) Tryz.call81 (.cons (.dir Y) .nil)) (.k (eJ (e:=Q8) LH lP Cf Y Y Y Y (.cons (.dir Y) .nil)) (.t (cG 118 G Y Y (.sl Y) LH QL lP Y Y Y Y Y) (.f [3,6,7,8] ?_))));refine bV ?_;refine eV [3,6,7,8] ?_;cases h;exact cR (aC [(112,118)])
 cases h;exact dE (dM (aC []))
theorem Ol{a0 a1 r}(h:uG a0 a1=some r):
 WE Tryz.prog 50 [.v Nz a0,.v Q8 a1] (.WL [.v Nz r.1,.v Q9 r.2]) []:=by
 refine WE.of Tryz.func50 Y Tryz.ntmps50 Y ?_;intro S w z;unfold uG at h;refine aJ (.k (cJ 101 Y (.VL sO (.VL sO sO)) Y) (.k (cJ 102 Y (.VL sO (.VL sO sO)) Y) (.k (aN 103 TR Y (.cons (Z.int .i64) (.cons (Z.int .i64) (.cons (Z.sl Q8) .nil))) Y) (.f [2,3,4] ?_))));obtain⟨E,F,h⟩:=aB h;refine jW (.k (aX Y Y (.VL sO (.VL sO sO)) Xn Jl) (.k (aO (xV F) Tryz.call78 (.cons (.dir Y) .nil)) (.f [2,3,4,6] ?_)));refine aL [2,3,4,6,11] ?_;refine aU h Y (fun A h=>?_) (fun A h=>?_)
 ·refine aJ (.k (bP Ey (.cons (Z.int .i64) (.cons (Z.int .i64) (.cons (Z.sl Q8) .nil))) .nil) (.f [4,5] ?_));refine aH ?_;obtain rfl:=pT h;exact bZ (σ':=⟨[(4,.ptr 90 0),(5,.v Q9 E)],[(90,.box 84 [.v Q0 (0:Int),.v Q0 (0:Int),.v (Wr.sl Q8) ([]:Kw)])]⟩) (aC [(90,103)]) (bR z dX Y (aT Y Y (.VL sO (.VL sO sO)) Xn Jl) (RV.tmp Y) .nil Y)
 refine aG ?_;obtain⟨G,H,h⟩:=aB h;refine jW (.k (aX Y Y (.VL sO (.VL sO sO)) uQ lP) (.k (aO (Fv H) Tryz.call79 (.cons (.dir Y) .nil)) (.f [2,3,4,7] ?_)));refine aL [2,3,4,7,17] ?_;refine aU h Y (fun B h=>?_) (fun B h=>?_)
 ·refine aJ (.k (bP Ey (.cons (Z.int .i64) (.cons (Z.int .i64) (.cons (Z.sl Q8) .nil))) .nil) (.f [4,5] ?_));refine aH ?_;obtain rfl:=pT h;exact bZ (σ':=⟨[(4,.ptr 90 0),(5,.v Q9 G)],[(90,.box 84 [.v Q0 (0:Int),.v Q0 (0:Int),.v (Wr.sl Q8) ([]:Kw)])]⟩) (aC [(90,103)]) (bR z dX Y (aT Y Y (.VL sO (.VL sO sO)) Xn Jl) (RV.tmp Y) .nil Y)
 refine aG ?_;refine aF ?_;refine aF ?_;obtain⟨I,u,h⟩:=aB h;refine eF (σ':=⟨[(2,.ptr 101 0),(3,.ptr 102 0),(4,.ptr 103 0),(32,.v Wr.bool I)],[(101,.box 84 [.v Q0 a0.1,.v Q0 a0.2.1,.v (Wr.sl Q8) a0.2.2]),(102,.box 144 [.v Q0 a1.1,.v nV a1.2.1,.v Q5 a1.2.2]),(103,.box 84 [.v Q0 (0:Int),.v Q0 (0:Int),.v (Wr.sl Q8) ([]:Kw)])]⟩) ?_ ?_
 ·refine cd u (fun C u=>?_) (fun C u=>?_)
  ·cases u;exact jy
  cases u;exact jy
 refine aU h Y (fun D h=>?_) (fun D h=>?_)
 ·refine aJ (.k (bP Ey (.cons (Z.int .i64) (.cons (Z.int .i64) (.cons (Z.sl Q8) .nil))) .nil) (.f [4,5] ?_));refine aH ?_;obtain rfl:=pT h;exact bZ (σ':=⟨[(4,.ptr 90 0),(5,.v Q9 (some (2:Int)))],[(90,.box 84 [.v Q0 (0:Int),.v Q0 (0:Int),.v (Wr.sl Q8) ([]:Kw)])]⟩) (aC [(90,103)]) (bR z dX Y (aT Y Y (.VL sO (.VL sO sO)) Xn Jl) (RV.tmp Y) .nil Y)
 refine aG ?_;refine aF ?_;obtain⟨O,K,h⟩:=aB h;obtain⟨P,L,h⟩:=aB h;obtain⟨M,N,h⟩:=aB h;refine eD 14 mixed (by exact(.k (aA 0 Y FI Y S3 Y Y) (.k (aI Y Y Y G3 S3) (.k (aA 1 Y FI Y S3 Y Y) (.k (aI Y Y Y G3 S3) (.k (aA 2 Y FI Y FE Y Y) (.k (aI Y Y Y RN FE) (.k (fM 109000 (Dv K) Tryz.call80 (.cons (.dir Y) .nil) Y) (.k (aX Y Y (.VL sO (.VL sO sO)) uQ lP) (.k (aO (Du L) Tryz.call81 (.cons (.dir Y) .nil)) (.k (eJ (e:=Q8) LH lP Cf Y Y Y Y (.cons (.dir Y) .nil)) (XS.append (.none Y) 111 N Y Y (.sl Y) LH QL lP Y Y Y Y Y (.k (bP Ey (.cons (Z.int .i64) (.cons (Z.int .i64) (.cons (Z.sl Q8) .nil))) (.cons Y (.dir Y) Y Y Y Y (.cons Y (.dir Y) Y Y Y Y (.cons Y (.dir Y) Y Y Y Y .nil)))) (XS.C0 (.none Y) Y Y Y Y Y Y Jl (.k (zC ET) .nil))))))))))))))) (by exact(J.kp [4,5] [])) ?_;refine aH ?_;obtain rfl:=pT h;exact bZ (σ':=⟨[(4,.ptr 90 0),(5,.v Q9 (none:Option Int))],[(90,.box 84 [.v Q0 a0.1,.v Q0 a0.2.1,.v (Wr.sl Q8) M])]⟩) (aC [(90,103)]) (bR z dX Y (aT Y Y (.VL sO (.VL sO sO)) Xn Jl) (RV.tmp Y) .nil Y)
theorem Po{a0 r}(h:pE a0=some r):
 WE Tryz.prog 52 [.v Nz a0] (.WL [.v (Wr.sl (Wr.sl (Wr.int .u8))) r.1,.v Q9 r.2]) []:=by
 refine WE.of Tryz.func52 Y Tryz.ntmps52 Y ?_;intro S w u;unfold pE at h;refine aJ (.k (cJ 101 Y (.VL sO (.VL sO sO)) Y) (.k (aR 102 107 (Wr.sl (Wr.int .u8))) (.f [1] ?_)));obtain⟨T,K,h⟩:=aB h;refine jW (.k (aX Y Y (.VL sO (.VL sO sO)) Xn Jl) (.k (aO (xV K) Tryz.call78 (.cons (.dir Y) .nil)) (.f [1,4] ?_)));refine aL [1,4,13] ?_;refine aU h Y (fun F h=>?_) (fun F h=>?_)
 ·refine aJ (.a 1 ?_);refine .k (aR 104 107 (Wr.sl (Wr.int .u8))) (.f [2,3] ?_);cases h;exact aH (wN u dX Y (aC []))
 refine aG ?_;refine aJ (.k (aR 105 107 (Wr.sl (Wr.int .u8))) (.f [1,5] ?_));obtain⟨C,L,h⟩:=aB h;refine jW (.a 5 ?_);refine .k (yN Y Y) (.k (AL L Y Y LH lP) (.f [1,5,21,22,23] ?_));obtain⟨U,M,N,D⟩:=cF h;refine jN (σs:=fun z:Int×(List kS)=>⟨[(1,.ptr 101 0),(5,.ref 119),(21,.v (Wr.sl Q8) C),(22,.v Q0 (C.length:Int)),(23,.v Q0 z.1)],[(101,.box 84 [.v Q0 a0.1,.v Q0 a0.2.1,.v (Wr.sl Q8) a0.2.2]),(119,.arr 107 (Wr.sl (Wr.int .u8)) z.2)]⟩) (fun B:(List kS)=>⟨[(5,.ref 119)],[(119,.arr 107 (Wr.sl (Wr.int .u8)) B)]⟩) M (aC [(119,105)]) ?_ ?_
 ·intro B E;have h:=N _ E;refine aL [2,3] ?_;cases h;exact aH (wN u dX Y (aC []))
 intro z R h;refine aL [1,5,21,22,23,24] ?_;refine aF ?_;refine aU h Y (fun G h=>?_) (fun G h=>?_)
 ·refine aG ?_;refine aF ?_;refine bQ ?_;obtain⟨V,X,h⟩:=aB h;refine aJ (.a 3 ?_);refine .k (aN 125 Cf Y (.cons (Z.int .i64) (.cons (Z.sl Q0) (.cons (Z.sl aM) .nil))) Y) ?_;refine .a 1 ?_;refine .t (bS Y Y Y Y (.VL sO (.VL sO sO)) lP) (.f [1,5,6,7,21,22,23] ?_);refine dI [1,5,6,7,21,22,23,32] ?_;refine aU h Y (fun H h=>?_) (fun H h=>?_)
  ·refine aJ (.a 1 ?_);refine .k (aR 126 107 (Wr.sl (Wr.int .u8))) (.f [2,3] ?_);refine aH ?_;refine eI ?_;cases h;refine gB fun A=>?_;obtain rfl:=D _ A;exact wN u dX Y (aC [])
  refine aG ?_;refine aF ?_;obtain⟨rf,O,h⟩:=aB h;obtain⟨wq,P,h⟩:=aB h;refine eD 21 mixed (by exact(.k (aA 0 Y FI Y S3 Y Y) (.k (aI Y Y Y G3 S3) (.k (aA 1 Y FI Y S3 Y Y) (.k (aI Y Y Y G3 S3) (.k (aD Y) (.k (dF Y Y Y) (.k (aA 0 Y uS Y S3 Y Y) (.k (aI Y Y Y G3 S3) (.k (AR (e:=Q0) yB S3 Z3 Y Y Y Y (.cons (.dir Y) (.cons (.dir Y) (.cons (.dir Y) .nil)))) (.k (aA 1 Y uS Y yV Y Y) (.k (aI Y Y Y Ti yV) (.k (Lh O (List.cons_ne_nil _ _) Y (.sl Y) yB I3 S3 Y Y Y) (.k (aA 2 Y uS Y yA Y Y) (.k (aI Y Y Y Tu yA) (.k (bP mC (.cons (Z.int .i64) (.cons (Z.sl Q0) (.cons (Z.sl aM) .nil))) (.cons Y (.dir Y) Y Y Y Y (.cons Y (.dir Y) Y Y Y Y (.cons Y (.dir Y) Y Y Y Y .nil)))) (.k (aO (xT P) Tryz.call77 (.cons (.agg Y (.same (.same (.same .nil))) (.VL sO (.VL sO sO)) Y) .nil)) (.k (aD Y) (.k (bU Y Y) (.k (bU Y Y) (.k (bM Y) (.k (bM Y) .nil)))))))))))))))))))))) (by exact(J.kp [1,5,8,9,21,22,23] [])) ?_;refine dI [1,5,8,9,21,22,23,54] ?_;refine aU h Y (fun I h=>?_) (fun I h=>?_)
  ·refine aJ (.a 1 ?_);refine .k (aR 128 107 (Wr.sl (Wr.int .u8))) (.f [2,3] ?_);refine aH ?_;refine eI ?_;cases h;refine gB fun A=>?_;obtain rfl:=D _ A;exact wN u dX Y (aC [])
  refine aG ?_;obtain⟨y0,Q,h⟩:=aB h;refine gC (.a 2 ?_);refine .k (eJ (e:=(Wr.sl (Wr.int .u8))) QP Xd Tryz.zeroValue107 Y Y Y Y (.cons (.dir Y) .nil)) (.t (cG 129 Q Y Y (.sl Y) QP Tryz.typeInfo107 Xd Y Y Y Y Y) (.f [1,5,21,22,23] ?_));refine bV ?_;refine eV [1,5,21,22,23] ?_;cases h;exact cR (aC [(119,129)])
 cases h;exact dE (dM (aC []))
theorem tU(A:Nat->Nat){b0 b1 b2 b3 b4 b5 b6 b7 b8 b9 bA bB bC bD bE bF bG bH bI bJ bK bL r}(h:dC b0 b1 b2 b3 b4 b5 b6 b7 b8 b9 bA bB bC bD bE bF bG bH bI bJ bK bL=some r):
 VR Tryz.prog 30 [.ptr 9000 0] (kM 9000 (some (A 9000)) 9100 (some (A 9100)) 9200 (some (A 9200)) 9050 9051 9052 9053 b0 b1 b2 b3 b4 b5 b6 b7 b8 b9 bA bB bC bD bE bF bG bH bI bJ bK bL) (.v Q9 r.1) (kM 9000 (some (A 9000)) 9100 (some (A 9100)) 9200 (some (A 9200)) 400 401 402 403 b0 b1 b2 b3 b4 b5 b6 b7 r.2.1 r.2.2.1 bA r.2.2.2.1 bC bD bE bF bG r.2.2.2.2 bI bJ bK bL):=by
 refine VR.of Tryz.func30 Y Tryz.ntmps30 Y ?_;intro S w R E;unfold dC at h;refine aL [0] ?_;refine aL [0,3] ?_;obtain⟨C,X,h⟩:=aB h;refine jW (.a 6 ?_);refine .k (eJ (e:=Q0) yB S3 Z3 Y Y Y Y (.cons (.dir Y) .nil)) (.k (bP mC (.cons (Z.int .i64) (.cons (Z.sl Q0) (.cons (Z.sl aM) .nil))) (.cons Y (.dir Y) Y Y Y Y (.cons Y (.dir Y) Y Y Y Y .nil))) (.t (sQ (H:=[9000,9100,9200,9050,9051,9052,9053]) (K:=[9000,9100,9200]) (uU [(9000,9000),(9100,9100),(9200,9200),(9050,9050),(9051,9051),(9052,9052),(9053,9053),(400,101),(401,102),(402,103),(403,104)]) (dD Y) (fun A=>uN A X) Tryz.call49 (.cons (.dir Y) (.cons (.dir Y) (.cons (.agg Y (.same (.same (.same .nil))) (.VL sO (.VL sO sO)) Y) .nil))) (fun A=>(.box Y (.box Y (.box Y (.arr Y (.mp Y (.arr Y (.arr Y .nil)))))))) (fun A=>(.box Y (.box Y (.box Y (.arr (.mp (.arr (.arr .nil Y) Y) Y) Y) Y) Y) Y)) (fun _=>rfl) Y Y (fun _=>rfl) Y Y) (.f [0,3,4] ?_)));refine aF ?_;obtain⟨x3,u,h⟩:=aB h;refine eF (σ':=⟨[(0,.ptr 9000 0),(3,.ptr 9000 1),(4,.v Q9 C.1),(31,.v Wr.bool x3)],(kM 9000 (some (A 9000)) 9100 (some (A 9100)) 9200 (some (A 9200)) 101 102 103 104 b0 b1 b2 b3 b4 b5 b6 b7 b8 b9 bA bB bC bD bE bF bG C.2 bI bJ bK bL)⟩) ?_ ?_
 ·refine cd u (fun N u=>?_) (fun N u=>?_)
  ·cases u;exact jy
  cases u;exact jy
 refine aU h Y (fun O h=>?_) (fun O h=>?_)
 ·refine aL [0,2] ?_;cases h;exact aH (eZ E Y (aC [(403,104),(402,103),(401,102),(400,101)]))
 refine aG ?_;refine aF ?_;refine aF ?_;obtain⟨x7,u,h⟩:=aB h;refine Is (σ':=⟨[(0,.ptr 9000 0),(3,.ptr 9000 1),(51,.v Wr.bool x7)],(kM 9000 (some (A 9000)) 9100 (some (A 9100)) 9200 (some (A 9200)) 101 102 103 104 b0 b1 b2 b3 b4 b5 b6 b7 b8 b9 bA bB bC bD bE bF bG C.2 bI bJ bK bL)⟩) ?_ ?_
 ·intro I;refine cd u (fun B u=>?_) (fun B u=>?_)
  ·cases u;exact eD 19 mixed (by exact(.k (aD Y) (.k (aK Y) (.k (aA 15 Y vS Y S3 Y Y) (.k (aI Y Y Y G3 S3) (.k (aD Y) (.k (aK Y) (.k (aA 1 Y vS Y Ky Y Y) (.k (aA 3 Y Fa Y S3 Y Y) (.k (aI Y Y Y G3 S3) (.k (jR Y Y Y) (.k (aD Y) (.g B (aD Y) (.g B (aK Y) (.g B (aA 12 Y vS Y Jl Y Y) (.g B (aA 14 Y FI Y FE Y Y) (.g B (yO (off:=12) (o1:=2) Y Y Y Y (.snd (.snd .here)) RN FE) (.g B (uZ Y LH) (.g B (jR Y Y Y) (.k (xJ B Y Y) .nil)))))))))))))))))))) (by exact(J.fin (aC []))) I
  cases u;exact sF 19 mixed I
 obtain⟨aa,ab,h⟩:=gT h;refine vT (fun z:(Int×Int×Kw)×Int×kS=>⟨[(0,.ptr 9000 0),(3,.ptr 9000 1)],(kM 9000 (some (A 9000)) 9100 (some (A 9100)) 9200 (some (A 9200)) 119 120 121 122 b0 b1 b2 b3 b4 b5 b6 b7 z.1 z.2.1 bA z.2.2 bC bD bE bF bG C.2 bI bJ bK bL)⟩) (fun x=>aa x=some r) Y ?_ ?_ ?_
 ·intro z h;rw[ab] at h;obtain⟨D,ac,h⟩:=aB h;refine aJ (.a 4 ?_);refine .k (aO (Po ac) Tryz.call52 (.cons (.dir Y) .nil)) (.f [0,7,8] ?_);refine dI [0,8,99,100,101] ?_;obtain⟨ao,ad,af,ap⟩:=cF h;refine jN (σs:=fun F:Int×Ts=>⟨[(0,.ptr 9000 0),(8,.v Q9 D.2),(99,.v (Wr.sl (Wr.sl (Wr.int .u8))) D.1),(100,.v Q0 (D.1.length:Int)),(101,.v Q0 F.1)],(kM 9000 (some (A 9000)) 9100 (some (A 9100)) 9200 (some (A 9200)) 158 159 160 161 b0 b1 b2 b3 b4 b5 b6 b7 z.1 z.2.1 bA z.2.2 bC bD bE bF bG F.2 bI bJ bK bL)⟩) (fun L:Ts=>⟨[(0,.ptr 9000 0),(8,.v Q9 D.2)],(kM 9000 (some (A 9000)) 9100 (some (A 9100)) 9200 (some (A 9200)) 158 159 160 161 b0 b1 b2 b3 b4 b5 b6 b7 z.1 z.2.1 bA z.2.2 bC bD bE bF bG L bI bJ bK bL)⟩) ad (aC [(161,122),(160,121),(159,120),(158,119)]) ?_ ?_
  ·intro L M;have h:=af _ M;refine aL [0,2] ?_;cases h;exact aH (eZ E Y (aC [(403,161),(402,160),(401,159),(400,158)]))
  intro F an h;refine aL [0,8,99,100,101,102] ?_;refine aF ?_;refine aU h Y (fun P h=>?_) (fun P h=>?_)
  ·refine aG ?_;refine aF ?_;refine bQ ?_;obtain⟨aq,au,h⟩:=aB h;refine aL [0,8,10,99,100,101] ?_;obtain⟨av,al,h⟩:=aB h;obtain⟨wo,am,h⟩:=aB h;refine gC (.a 2 ?_);refine .t (sQ (H:=[9000,9100,9200,158,159,160,161]) (K:=[9000,9100,9200]) (uU [(9000,9000),(9100,9100),(9200,9200),(9050,158),(9051,159),(9052,160),(9053,161),(400,166),(401,167),(402,168),(403,169)]) (dD Y) (fun A=>oY A am) Tryz.call53 (.cons (.dir Y) (.cons (.dir Y) (.cons (.toN (Mr al) Y) .nil))) (fun A=>(.box Y (.box Y (.box Y (.arr Y (.mp Y (.arr Y (.arr Y .nil)))))))) (fun A=>(.box Y (.box Y (.box Y (.arr (.mp (.arr (.arr .nil Y) Y) Y) Y) Y) Y) Y)) (fun _=>rfl) Y Y (fun _=>rfl) Y Y) (.f [0,8,99,100,101] ?_);refine bV ?_;refine eV [0,8,99,100,101] ?_;cases h;exact cR (aC [(161,169),(160,168),(159,167),(158,166)])
  cases h;exact dE (dM (aC []))
 ·intro G;replace h:=kG G h;refine aF ?_;obtain⟨vg,sv,h⟩:=aB h;obtain⟨ve,su,h⟩:=aB h;refine TV (OK:=(TT ([(9000,12,.v Nz b8)]:List (Nat×Nat×Slot)))) 13 mixed (by exact(.pu (.none Y) Y (fun _ _=>aD Y) (.pu (.none Y) Y (fun _ _=>aK Y) (.pu (.none Y) Y (fun _ _=>aA 12 Y vS Y Jl Y Y) (.pu (.none Y) Y (fun _ Q=>HN _ 0 Q Y (fun _ _ _ T U=>aI Y T U Xn Jl)) (.k (aD Y) (XS.I6 (.none Y) (H:=[9000,9100,9200,101,102,103,104]) (K:=[9000,9100,9200]) (uU [(9000,9000),(9100,9100),(9200,9200),(9050,101),(9051,102),(9052,103),(9053,104),(400,129),(401,130),(402,131),(403,132)]) (dD Y) (fun A=>xU A sv) Tryz.call51 (.cons (.dir Y) .nil) (fun A=>(.box Y (.box Y (.box Y (.arr Y (.mp Y (.arr Y (.arr Y .nil)))))))) (fun A=>(.box Y (.box Y (.box Y (.arr (.mp (.arr (.arr .nil Y) Y) Y) Y) Y) Y) Y)) (fun _=>rfl) Y Y (fun _=>rfl) Y Y (.k (aO (Ol su) Tryz.call50 (.cons (.dir Y) (.cons (.dir Y) .nil))) (.k (aD Y) (.pu (.none Y) Y (fun _ _=>bU Y Y) (.pu (.none Y) Y (fun _ _=>bU Y Y) (.k (aN 134 TR Y (.cons (Z.int .i64) (.cons (Z.int .i64) (.cons (Z.sl Q8) .nil))) Y) (XS.storeAll (.none Y) Y Y Y Y (.VL sO (.VL sO sO)) Jl (.k (bM Y) .nil)))))))))))))) (by exact(J.kp [0,3,5,6] [])) (by exact BB Y (by repeat' (first | exact trivial | exact Y | refine And.intro ?_ ?_))) ?_;refine dI [0,3,5,6,63] ?_;refine aU h Y (fun V h=>?_) (fun V h=>?_)
  ·refine aL [0,2] ?_;refine aH ?_;refine Hb ?_;cases h;exact eZ E Y (aC [(403,132),(402,131),(401,130),(400,129)])
  refine aG ?_;refine aF ?_;refine eD 14 mixed (by exact(.k (aD Y) (.pu (.none Y) Y (fun _ _=>aD Y) (.k (aX Y Y (.VL sO (.VL sO sO)) Xn Jl) (.k (aD Y) (.k (aK Y) (.k (aA 1 Y vS Y Ky Y Y) (.k (aA 3 Y Fa Y S3 Y Y) (.k (aI Y Y Y G3 S3) (.k (aK Y) (.k (aA 12 Y vS Y Jl Y Y) (XS.store (.none Y) Y Y Y Y Y Y Y Jl (.k (aK Y) (.k (aA 15 Y vS Y S3 Y Y) (XS.store (.none Y) Y Y Y Y Y Y Y S3 .nil))))))))))))))) (by exact(J.kp [0,3] [])) ?_;obtain⟨di,X6,h⟩:=aB h;refine eD 15 mixed (by exact(.k (aD Y) (.k (aD Y) (.k (aK Y) (.k (aA 17 Y vS Y yV Y Y) (.k (aI Y Y Y Ti yV) (.k (aD Y) (.k (aK Y) (.k (aA 1 Y vS Y Ky Y Y) (.k (aA 3 Y Fa Y S3 Y Y) (.k (aI Y Y Y G3 S3) (.k (eJ (e:=Q0) yB S3 Z3 Y Y Y Y (.cons (.dir Y) .nil)) (XS.append (.none Y) 136 X6 Y Y (.sl Y) yB I3 S3 Y Y Y Y Y (.k (aK Y) (.k (aA 17 Y vS Y yV Y Y) (XS.store (.none Y) Y Y Y Y Y Y Y yV .nil)))))))))))))))) (by exact(J.kp [0,3] [])) ?_;exact cT h (aC [(122,132),(121,136),(120,130),(119,129)])
 ·intro G;replace h:=kH G h;refine aG ?_;exact cT h (aC [(122,104),(121,103),(120,102),(119,101)])
theorem Co(A:Nat->Nat){a1 b0 b1 b2 b3 b4 b5 b6 b7 b8 b9 bA bB bC bD bE bF bG bH bI bJ bK bL r}(h:nR a1 b0 b1 b2 b3 b4 b5 b6 b7 b8 b9 bA bB bC bD bE bF bG bH bI bJ bK bL=some r):
 VR Tryz.prog 111 [.ptr 9000 0,.v Q4 a1] (kM 9000 (some (A 9000)) 9100 (some (A 9100)) 9200 (some (A 9200)) 9050 9051 9052 9053 b0 b1 b2 b3 b4 b5 b6 b7 b8 b9 bA bB bC bD bE bF bG bH bI bJ bK bL) (.WL [.v aM r.1,.v Q9 r.2.1]) (Tl 9000 (some (A 9000)) 301 none 302 none 400 401 402 403 r.2.2):=by
 refine VR.of Tryz.func111 Y Tryz.ntmps111 Y ?_;intro S w R u;unfold nR at h;refine aJ (.k (cJ 101 Y (.VL sO (.VL sO (.VL sO sO))) Y) (.k (aN 102 Cg Y (.cons (Z.arr 8 (Z.int .u8)) .nil) Y) (.f [0,4] ?_)));obtain⟨z,B,h⟩:=aB h;refine aJ (.k (dA (e:=aM) (v:=aS) An vY I5 Y Y (Z.arr 8 (Z.int .u8))) ?_);refine .a 1 ?_;refine .t (eO [9000,9100,9200,9050,9051,9052,9053] (uU [(9000,9000),(9100,9100),(9200,9200),(9050,9050),(9051,9051),(9052,9052),(9053,9053),(400,103),(401,104),(402,105),(403,106)]) (dD Y) (fun A=>tU A B) Tryz.call30 (fun A=>(.box Y (.box Y (.box Y (.arr (.mp (.arr (.arr .nil Y) Y) Y) Y) Y) Y) Y))) (.f [0,4,5] ?_);refine aH ?_;obtain rfl:=pT h;exact kU [(0,.ptr 9000 0),(4,.ptr 90 0),(5,.v Q9 z.1)] [(90,.box 30 [.v aM aS])] (aC [(90,102),(403,106),(302,9200),(402,105),(401,104),(400,103),(301,9100)]) (dY u Y (cN Y Y Y uR lA) (RV.tmp Y) (.cons Y (.cons Y (.cons Y (.cons Y (.cons Y (.cons Y (.cons Y .nil))))))))
theorem kF(A:Nat->Nat){a1 b0 b1 b2 b3 b4 b5 b6 b7 b8 b9 bA bB bC bD bE bF bG bH bI bJ bK bL r}(h:cB a1 b0 b1 b2 b3 b4 b5 b6 b7 b8 b9 bA bB bC bD bE bF bG bH bI bJ bK bL=some r):
 VR Tryz.prog 44 [.ptr 9000 0,.v Q0 a1] (kM 9000 (some (A 9000)) 9100 (some (A 9100)) 9200 (some (A 9200)) 9050 9051 9052 9053 b0 b1 b2 b3 b4 b5 b6 b7 b8 b9 bA bB bC bD bE bF bG bH bI bJ bK bL) (.WL [.v Q0 r.1,.v Wr.bool r.2]) (kM 9000 (some (A 9000)) 9100 (some (A 9100)) 9200 (some (A 9200)) 400 401 402 403 b0 b1 b2 b3 b4 b5 b6 b7 b8 b9 bA bB bC bD bE bF bG bH bI bJ bK bL):=by
 refine VR.of Tryz.func44 Y Tryz.ntmps44 Y ?_;intro S w R u;unfold cB at h;refine aL [0,1] ?_;refine dI [0,1,11] ?_;refine aU h Y (fun z h=>?_) (fun z h=>?_)
 ·refine aL [0,4,5] ?_;cases h;exact aH (HR u Y (aC [(403,9053),(402,9052),(401,9051),(400,9050)]))
 refine aG ?_;obtain⟨C,B,h⟩:=aB h;refine aJ (.a 3 ?_);refine .k (GB Y) (.k (Ax Y Y) ?_);refine .a 5 ?_;refine .k (GA (.inr Y) (AI B) Y Y) (.f [0,4,5] ?_);cases h;exact aH (HR u Y (aC [(403,9053),(402,9052),(401,9051),(400,9050)]))
end Go.Cn
