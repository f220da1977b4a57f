/- The functions come to what their models come to. Conditions: none. -/
import Derived.Test.YteckohdbfkhmdacGreatDoorMDTopMirror
import Derived.KernelRfl
import Derived.WalkKit
import Derived.LaidEql
import Derived.Stop.Asserts
import Derived.RowKitTokens
import Derived.Test.YteckohdbfkhmdacGreatDoorChecked
set_option linter.unusedVariables false
set_option linter.unusedSimpArgs false
set_option maxRecDepth 100000
set_option maxHeartbeats 4000000
namespace Go.Cn
open Go Go.Sw Go.Mo Go.Proofs
abbrev ET:Nat:=28
theorem Y{α:Sort _}{a:α}:a=a:=rfl
abbrev Q0:=(Wr.int .i64)
abbrev Q1:=(Wr.sl (Wr.pr Q0 aO))
abbrev Q2:=(Wr.pr (Wr.sl aO) (Wr.pr Q1 Q0))
abbrev Q3:=(Int×Int×Int×Int×(List aQ)×(Int×(List (Int×aQ))×(List (Int×(List (Int×aQ))))×Bool)×(List (Int×(List aQ)))×Int×(Int×Int×(List (Int×(List Int)×(List aQ))))×Int×Int×(List Int)×Int×Int×Int×Int×(Int×Int)×(List (Bool×Bool×(List Int)))×Int×((List aQ)×(List (Int×aQ))×Int)×Int×((List aQ)×(List (Int×aQ))×Int))
abbrev Q4:=(Wr.pr Q0 (Wr.pr Q0 (Wr.pr Q0 aO)))
abbrev Q5:=(Wr.sl aO)
abbrev Q6:=(List (Int×aQ))
abbrev Q7:=(Wr.pr Q0 (Wr.pr aO (Wr.pr Q0 (Wr.pr Q0 (Wr.pr Q0 Q5)))))
abbrev Q8:=(Wr.pr Q0 (Wr.pr (Wr.sl Q0) Q5))
abbrev Q9:=(Wr.err ET)
abbrev gF:=(Wr.pr Q0 aO)
abbrev Kt:=(Wr.pr Q0 (Wr.pr Q1 (Wr.pr (Wr.sl (Wr.pr Q0 Q1)) Wr.bool)))
abbrev Cu:=((List aQ)×Q6×Int)
abbrev jO:=(List aQ)
abbrev kS:=(List Int)
abbrev pC:=(Wr.pr Q0 Q1)
abbrev mD:=(Wr.sl Q0)
abbrev Ns:=(Wr.pr Q0 (Wr.pr Q0 (Wr.sl Q8)))
abbrev Ok:=(List (Int×kS×jO))
abbrev Ig:=(List (Int×Q6))
abbrev Yv:=(List (Bool×Bool×kS))
abbrev Th:=(Option (Int×Cu))
abbrev TE:=Tryz.call10
abbrev NI:=Tryz.call101
abbrev NJ:=Tryz.call102
abbrev NK:=Tryz.call118
abbrev UQ:=Tryz.call12
abbrev NL:=Tryz.call126
abbrev EG:=Tryz.call133
abbrev Yw:=Tryz.call138
abbrev NM:=Tryz.call139
abbrev UJ:=Tryz.call15
abbrev NN:=Tryz.call160
abbrev JI:=Tryz.call163
abbrev SL:=Tryz.call167
abbrev TF:=Tryz.call17
abbrev EH:=Tryz.call185
abbrev NO:=Tryz.call207
abbrev NP:=Tryz.call210
abbrev NQ:=Tryz.call212
abbrev JJ:=Tryz.call213
abbrev JK:=Tryz.call215
abbrev UR:=Tryz.call23
abbrev UK:=Tryz.call27
abbrev TG:=Tryz.call44
abbrev SM:=Tryz.call48
abbrev RC:=Tryz.call69
abbrev JL:=Tryz.isAgg107
abbrev uU:=Tryz.isAgg144
abbrev sB:=Tryz.isAgg186
abbrev Nt:=Tryz.isAgg197
abbrev Wj:=Tryz.isAgg210
abbrev Yx:=Tryz.isAgg214
abbrev Sx:=Tryz.isAgg22
abbrev US:=Tryz.isAgg28
abbrev G3:=Tryz.isAgg3
abbrev uO:=Tryz.isAgg30
abbrev Ti:=Tryz.isAgg31
abbrev OM:=Tryz.isAgg33
abbrev SN:=Tryz.isAgg35
abbrev BO:=Tryz.isAgg44
abbrev SO:=Tryz.isAgg47
abbrev G5:=Tryz.isAgg5
abbrev SQ:=Tryz.isAgg61
abbrev Nu:=Tryz.isAgg74
abbrev EV:=Tryz.isAgg77
abbrev Ew:=Tryz.isAgg80
abbrev ON:=Tryz.isAgg81
abbrev RD:=Tryz.isAgg82
abbrev Wx:=Tryz.isAgg84
abbrev QB:=Tryz.isAgg88
abbrev SR:=Tryz.isAgg91
abbrev NR:=Tryz.typeInfo135
abbrev QC:=Tryz.typeInfo144
abbrev QD:=Tryz.typeInfo197
abbrev QE:=Tryz.typeInfo210
abbrev Ku:=Tryz.typeInfo214
abbrev I3:=Tryz.typeInfo3
abbrev Bq:=Tryz.typeInfo30
abbrev JN:=Tryz.typeInfo44
abbrev I5:=Tryz.typeInfo5
abbrev Wk:=Tryz.sizeOf107
abbrev vZ:=Tryz.sizeOf135
abbrev lL:=Tryz.sizeOf144
abbrev lE:=Tryz.sizeOf186
abbrev vC:=Tryz.sizeOf197
abbrev Ce:=Tryz.sizeOf210
abbrev jS:=Tryz.sizeOf214
abbrev yV:=Tryz.sizeOf22
abbrev UT:=Tryz.sizeOf28
abbrev S3:=Tryz.sizeOf3
abbrev kP:=Tryz.sizeOf30
abbrev yD:=Tryz.sizeOf31
abbrev Jk:=Tryz.sizeOf33
abbrev OO:=Tryz.sizeOf35
abbrev JP:=Tryz.sizeOf361
abbrev S4:=Tryz.sizeOf4
abbrev Cf:=Tryz.sizeOf44
abbrev BP:=Tryz.sizeOf47
abbrev S5:=Tryz.sizeOf5
abbrev QF:=Tryz.sizeOf54
abbrev SS:=Tryz.sizeOf59
abbrev OP:=Tryz.sizeOf61
abbrev Ih:=Tryz.sizeOf74
abbrev Kv:=Tryz.sizeOf76
abbrev Ii:=Tryz.sizeOf77
abbrev TH:=Tryz.sizeOf78
abbrev yW:=Tryz.sizeOf80
abbrev Yy:=Tryz.sizeOf81
abbrev EI:=Tryz.sizeOf82
abbrev Jl:=Tryz.sizeOf84
abbrev OQ:=Tryz.sizeOf86
abbrev EW:=Tryz.sizeOf88
abbrev SU:=Tryz.sizeOf90
abbrev JR:=Tryz.sizeOf91
abbrev OR:=Tryz.sizeOf97
abbrev tI:=Tryz.runUnderlying107
abbrev JS:=Tryz.runUnderlying135
abbrev uV:=Tryz.runUnderlying144
abbrev QG:=Tryz.runUnderlying148
abbrev Kw:=Tryz.runUnderlying186
abbrev wH:=Tryz.runUnderlying188
abbrev Yz:=Tryz.runUnderlying197
abbrev QH:=Tryz.runUnderlying210
abbrev Nv:=Tryz.runUnderlying214
abbrev wX:=Tryz.runUnderlying22
abbrev Ol:=Tryz.runUnderlying25
abbrev EJ:=Tryz.runUnderlying254
abbrev QI:=Tryz.runUnderlying293
abbrev U3:=Tryz.runUnderlying3
abbrev vR:=Tryz.runUnderlying30
abbrev Jm:=Tryz.runUnderlying31
abbrev QJ:=Tryz.runUnderlying324
abbrev QK:=Tryz.runUnderlying326
abbrev QL:=Tryz.runUnderlying328
abbrev Wy:=Tryz.runUnderlying33
abbrev Oz:=Tryz.runUnderlying35
abbrev Wl:=Tryz.runUnderlying350
abbrev NS:=Tryz.runUnderlying363
abbrev EK:=Tryz.runUnderlying44
abbrev QM:=Tryz.runUnderlying47
abbrev BR:=Tryz.runUnderlying49
abbrev U5:=Tryz.runUnderlying5
abbrev TI:=Tryz.runUnderlying57
abbrev NT:=Tryz.runUnderlying61
abbrev Wm:=Tryz.runUnderlying65
abbrev Ey:=Tryz.runUnderlying76
abbrev yE:=Tryz.runUnderlying77
abbrev EL:=Tryz.runUnderlying78
abbrev RE:=Tryz.runUnderlying80
abbrev QN:=Tryz.runUnderlying81
abbrev KO:=Tryz.runUnderlying82
abbrev EM:=Tryz.runUnderlying84
abbrev vS:=Tryz.runUnderlying86
abbrev JT:=Tryz.runUnderlying90
abbrev Jn:=Tryz.runUnderlying91
abbrev Sy:=Tryz.runUnderlying93
abbrev EN:=Tryz.zeroValue135
abbrev Cg:=Tryz.zeroValue144
abbrev Sz:=Tryz.zeroValue186
abbrev Pa:=Tryz.zeroValue197
abbrev Nw:=Tryz.zeroValue210
abbrev Ez:=Tryz.zeroValue214
abbrev Z3:=Tryz.zeroValue3
abbrev Br:=Tryz.zeroValue30
abbrev SV:=Tryz.zeroValue31
abbrev SX:=Tryz.zeroValue33
abbrev EO:=Tryz.zeroValue44
abbrev Z5:=Tryz.zeroValue5
abbrev UC:=Tryz.zeroValue59
abbrev UD:=Tryz.zeroValue61
abbrev QO:=Tryz.zeroValue80
abbrev TJ:=Tryz.zeroValue84
abbrev SY:=Tryz.zeroValue97
abbrev kO(i:Nat)(ia:Option Nat)(p:Nat)(pa:Option Nat)(q:Nat)(qa:Option Nat)(x y z u:Nat)(b0 b1 b2 b3:Int)(b4:List aQ)(b5:Int×List (Int×aQ)×List (Int×List (Int×aQ))×Bool)(b6:List (Int×List aQ))(b7:Int)(b8:Int×Int×List (Int×List Int×List aQ))(b9 bA:Int)(bB:List Int)(bC bD bE bF:Int)(bG:Int×Int)(bH:List (Bool×Bool×List Int))(bI:Int)(bJ:List aQ×List (Int×aQ)×Int)(bK:Int)(bL:List aQ×List (Int×aQ)×Int):List (Nat×VH):=
 [(i,.box 93 [.v Q0 b0,.ptr p 0,.v Q0 b1,.v Q0 b2,.v Q0 b3,.ref x,.v Kt b5,.ref y,.v Q0 b7,.v Ns b8,.v Q0 b9,.v Q0 bA,.ref z,.ptr q 0,.v Q0 bC,.v Q0 bD,.v Q0 bE,.v Q0 bF,.v (Wr.pr Q0 Q0) bG,.ref u] ia),(p,.box 188 [.v Q0 bI,.v Q2 bJ] pa),(q,.box 188 [.v Q0 bK,.v Q2 bL] qa),(x,.arr 30 aO b4),(y,.mp Q0 Q5 b6),(z,.arr 3 Q0 bB),(u,.arr 135 (Wr.pr Wr.bool (Wr.pr Wr.bool (Wr.sl (Wr.int .u8)))) bH)]
abbrev Ta(i:Nat)(ia:Option Nat)(p:Nat)(pa:Option Nat)(q:Nat)(qa:Option Nat)(x y z u:Nat)(t:Int×Int×Int×Int×List aQ×(Int×List (Int×aQ)×List (Int×List (Int×aQ))×Bool)×List (Int×List aQ)×Int×(Int×Int×List (Int×List Int×List aQ))×Int×Int×List Int×Int×Int×Int×Int×(Int×Int)×List (Bool×Bool×List Int)×Int×(List aQ×List (Int×aQ)×Int)×Int×(List aQ×List (Int×aQ)×Int)):List (Nat×VH):=kO i ia p pa q qa x y z u t.1 t.2.1 t.2.2.1 t.2.2.2.1 t.2.2.2.2.1 t.2.2.2.2.2.1 t.2.2.2.2.2.2.1 t.2.2.2.2.2.2.2.1 t.2.2.2.2.2.2.2.2.1 t.2.2.2.2.2.2.2.2.2.1 t.2.2.2.2.2.2.2.2.2.2.1 t.2.2.2.2.2.2.2.2.2.2.2.1 t.2.2.2.2.2.2.2.2.2.2.2.2.1 t.2.2.2.2.2.2.2.2.2.2.2.2.2.1 t.2.2.2.2.2.2.2.2.2.2.2.2.2.2.1 t.2.2.2.2.2.2.2.2.2.2.2.2.2.2.2.1 t.2.2.2.2.2.2.2.2.2.2.2.2.2.2.2.2.1 t.2.2.2.2.2.2.2.2.2.2.2.2.2.2.2.2.2.1 t.2.2.2.2.2.2.2.2.2.2.2.2.2.2.2.2.2.2.1 t.2.2.2.2.2.2.2.2.2.2.2.2.2.2.2.2.2.2.2.1 t.2.2.2.2.2.2.2.2.2.2.2.2.2.2.2.2.2.2.2.2.1 t.2.2.2.2.2.2.2.2.2.2.2.2.2.2.2.2.2.2.2.2.2
instance:fT Tryz.prog:=⟨_,(.c JL (.c uU (.c sB (.c Nt (.c Wj (.c Yx (.c Sx (.c Tryz.isAgg253 (.c US (.c Tryz.isAgg293 (.c G3 (.c uO (.c Ti (.c Tryz.isAgg318 (.c OM (.c Tryz.isAgg330 (.c Tryz.isAgg361 (.c Tryz.isAgg4 (.c BO (.c SO (.c G5 (.c Tryz.isAgg54 (.c Tryz.isAgg57 (.c SQ (.c Nu (.c EV (.c Tryz.isAgg78 (.c Ew (.c ON (.c RD (.c Wx (.c QB (.c SR (.c Tryz.isAgg97 .n)))))))))))))))))))))))))))))))))),_,(.c Wk (.c lL (.c lE (.c vC (.c Ce (.c jS (.c yV (.c Tryz.sizeOf253 (.c UT (.c Tryz.sizeOf293 (.c S3 (.c kP (.c yD (.c Tryz.sizeOf318 (.c Jk (.c Tryz.sizeOf330 (.c OO (.c JP (.c S4 (.c Cf (.c BP (.c S5 (.c QF (.c Tryz.sizeOf57 (.c SS (.c OP (.c Ih (.c Kv (.c Ii (.c TH (.c yW (.c Yy (.c EI (.c Jl (.c OQ (.c EW (.c SU (.c JR (.c OR .n))))))))))))))))))))))))))))))))))))))),_,(.c tI (.c JS (.c uV (.c QG (.c Kw (.c wH (.c Yz (.c QH (.c Nv (.c wX (.c Tryz.runUnderlying238 (.c Tryz.runUnderlying247 (.c Ol (.c EJ (.c Tryz.runUnderlying28 (.c Tryz.runUnderlying296 (.c U3 (.c Jm (.c QJ (.c QK (.c QL (.c Wy (.c Oz (.c Wl (.c NS (.c EK (.c QM (.c BR (.c U5 (.c Tryz.runUnderlying54 (.c TI (.c Tryz.runUnderlying59 (.c NT (.c Wm (.c Ey (.c yE (.c EL (.c RE (.c KO (.c EM (.c vS (.c Tryz.runUnderlying88 (.c JT (.c Jn (.c Sy .n))))))))))))))))))))))))))))))))))))))))))))),ET⟩
theorem mixed:Tryz.prog.follows .mixedOrders=true:=Tryz.checked.mixed
theorem Wn:T8 2 Tryz.prog 30 aO:=T8.arr vR S5 G5 (T8.int Tryz.underlying5)
theorem SZ:T8 2 Tryz.prog 293 (Wr.arr 4 (Wr.int .u8)):=T8.arr QI S5 G5 (T8.int Tryz.underlying5)
theorem BS:n5 2 Tryz.prog 30 aO:=n5.arr vR S5 G5 (n5.int U5)
theorem NU:∀parts,Tryz.prog.built 33 parts=Instr.fill (([(0,1),(1,8),(9,1),(10,1),(11,1),(12,1)]:List (Nat×Nat)).toArray[·]?) ([.int .i64 0,.int .u8 0,.int .u8 0,.int .u8 0,.int .u8 0,.int .u8 0,.int .u8 0,.int .u8 0,.int .u8 0,.int .i64 0,.int .i64 0,.int .i64 0,.slice none 0 0]:List Value).toArray parts:=dA Tryz.typeInfo33 Wy rfl rfl (.cons rfl (by kernel_rfl) (by kernel_rfl) (.cons rfl (by kernel_rfl) (by kernel_rfl) (.cons rfl (by kernel_rfl) (by kernel_rfl) (.cons rfl (by kernel_rfl) (by kernel_rfl) (.cons rfl (by kernel_rfl) (by kernel_rfl) (.cons rfl (by kernel_rfl) (by kernel_rfl) .nil))))))
theorem NV:∀parts,Tryz.prog.built 44 parts=Instr.fill (([(0,1),(1,1),(2,1),(3,8)]:List (Nat×Nat)).toArray[·]?) ([.int .i64 0,.int .i64 0,.int .i64 0,.int .u8 0,.int .u8 0,.int .u8 0,.int .u8 0,.int .u8 0,.int .u8 0,.int .u8 0,.int .u8 0]:List Value).toArray parts:=dA JN EK rfl rfl (.cons rfl (by kernel_rfl) (by kernel_rfl) (.cons rfl (by kernel_rfl) (by kernel_rfl) (.cons rfl (by kernel_rfl) (by kernel_rfl) (.cons rfl (by kernel_rfl) (by kernel_rfl) .nil))))
theorem NW:∀parts,Tryz.prog.built 49 parts=Instr.fill (([(0,1),(1,1)]:List (Nat×Nat)).toArray[·]?) ([.slice none 0 0,.slice none 0 0]:List Value).toArray parts:=dA Tryz.typeInfo49 BR rfl rfl (.cons rfl (by kernel_rfl) (by kernel_rfl) (.cons rfl (by kernel_rfl) (by kernel_rfl) .nil))
theorem BT:∀parts,Tryz.prog.built 59 parts=Instr.fill (([(0,1)]:List (Nat×Nat)).toArray[·]?) ([.slice none 0 0]:List Value).toArray parts:=dA Tryz.typeInfo59 Tryz.runUnderlying59 rfl rfl (.cons rfl (by kernel_rfl) (by kernel_rfl) .nil)
theorem Lo:∀parts,Tryz.prog.built 76 parts=Instr.fill (([(0,1),(1,1),(2,1),(3,1)]:List (Nat×Nat)).toArray[·]?) ([.pointer none,.int .i64 0,.int .i64 0,.int .i64 0]:List Value).toArray parts:=dA Tryz.typeInfo76 Ey rfl rfl (.cons rfl (by kernel_rfl) (by kernel_rfl) (.cons rfl (by kernel_rfl) (by kernel_rfl) (.cons rfl (by kernel_rfl) (by kernel_rfl) (.cons rfl (by kernel_rfl) (by kernel_rfl) .nil))))
theorem yX:∀parts,Tryz.prog.built 80 parts=Instr.fill (([(0,1),(1,1),(2,1),(3,1)]:List (Nat×Nat)).toArray[·]?) ([.int .i64 0,.slice none 0 0,.slice none 0 0,.bool false]:List Value).toArray parts:=dA Tryz.typeInfo80 RE rfl rfl (.cons rfl (by kernel_rfl) (by kernel_rfl) (.cons rfl (by kernel_rfl) (by kernel_rfl) (.cons rfl (by kernel_rfl) (by kernel_rfl) (.cons rfl (by kernel_rfl) (by kernel_rfl) .nil))))
theorem Ev:∀parts,Tryz.prog.built 84 parts=Instr.fill (([(0,1),(1,1),(2,1)]:List (Nat×Nat)).toArray[·]?) ([.int .i64 0,.int .i64 0,.slice none 0 0]:List Value).toArray parts:=dA Tryz.typeInfo84 EM rfl rfl (.cons rfl (by kernel_rfl) (by kernel_rfl) (.cons rfl (by kernel_rfl) (by kernel_rfl) (.cons rfl (by kernel_rfl) (by kernel_rfl) .nil)))
theorem BU:∀parts,Tryz.prog.built 86 parts=Instr.fill (([(0,4),(4,1),(5,4),(9,1),(10,1),(11,3),(14,1),(15,1),(16,1)]:List (Nat×Nat)).toArray[·]?) ([.pointer none,.int .i64 0,.int .i64 0,.int .i64 0,.slice none 0 0,.int .i64 0,.slice none 0 0,.slice none 0 0,.bool false,.map none,.int .i64 0,.int .i64 0,.int .i64 0,.slice none 0 0,.int .i64 0,.int .i64 0,.slice none 0 0]:List Value).toArray parts:=dA Tryz.typeInfo86 vS rfl rfl (.cons rfl (by kernel_rfl) (by kernel_rfl) (.cons rfl (by kernel_rfl) (by kernel_rfl) (.cons rfl (by kernel_rfl) (by kernel_rfl) (.cons rfl (by kernel_rfl) (by kernel_rfl) (.cons rfl (by kernel_rfl) (by kernel_rfl) (.cons rfl (by kernel_rfl) (by kernel_rfl) (.cons rfl (by kernel_rfl) (by kernel_rfl) (.cons rfl (by kernel_rfl) (by kernel_rfl) (.cons rfl (by kernel_rfl) (by kernel_rfl) .nil)))))))))
theorem Lp:∀parts,Tryz.prog.built 88 parts=Instr.fill (([(0,1),(1,1)]:List (Nat×Nat)).toArray[·]?) ([.int .i64 0,.int .i64 0]:List Value).toArray parts:=dA Tryz.typeInfo88 Tryz.runUnderlying88 rfl rfl (.cons rfl (by kernel_rfl) (by kernel_rfl) (.cons rfl (by kernel_rfl) (by kernel_rfl) .nil))
theorem BV:∀parts,Tryz.prog.built 90 parts=Instr.fill (([(0,4),(4,1),(5,2)]:List (Nat×Nat)).toArray[·]?) ([.pointer none,.int .i64 0,.int .i64 0,.int .i64 0,.int .i64 0,.int .i64 0,.int .i64 0]:List Value).toArray parts:=dA Tryz.typeInfo90 JT rfl rfl (.cons rfl (by kernel_rfl) (by kernel_rfl) (.cons rfl (by kernel_rfl) (by kernel_rfl) (.cons rfl (by kernel_rfl) (by kernel_rfl) .nil)))
theorem NX:∀parts,Tryz.prog.built 93 parts=Instr.fill (([(0,1),(1,17),(18,7),(25,1)]:List (Nat×Nat)).toArray[·]?) ([.int .i64 0,.pointer none,.int .i64 0,.int .i64 0,.int .i64 0,.slice none 0 0,.int .i64 0,.slice none 0 0,.slice none 0 0,.bool false,.map none,.int .i64 0,.int .i64 0,.int .i64 0,.slice none 0 0,.int .i64 0,.int .i64 0,.slice none 0 0,.pointer none,.int .i64 0,.int .i64 0,.int .i64 0,.int .i64 0,.int .i64 0,.int .i64 0,.slice none 0 0]:List Value).toArray parts:=dA Tryz.typeInfo93 Sy rfl rfl (.cons rfl (by kernel_rfl) (by kernel_rfl) (.cons rfl (by kernel_rfl) (by kernel_rfl) (.cons rfl (by kernel_rfl) (by kernel_rfl) (.cons rfl (by kernel_rfl) (by kernel_rfl) .nil))))
theorem Wo:∀parts,Tryz.prog.built 135 parts=Instr.fill (([(0,1),(1,1),(2,1)]:List (Nat×Nat)).toArray[·]?) ([.bool false,.bool false,.slice none 0 0]:List Value).toArray parts:=dA NR JS rfl rfl (.cons rfl (by kernel_rfl) (by kernel_rfl) (.cons rfl (by kernel_rfl) (by kernel_rfl) (.cons rfl (by kernel_rfl) (by kernel_rfl) .nil)))
theorem lY:∀parts,Tryz.prog.built 144 parts=Instr.fill (([(0,1),(1,1),(2,1)]:List (Nat×Nat)).toArray[·]?) ([.int .i64 0,.slice none 0 0,.slice none 0 0]:List Value).toArray parts:=dA QC uV rfl rfl (.cons rfl (by kernel_rfl) (by kernel_rfl) (.cons rfl (by kernel_rfl) (by kernel_rfl) (.cons rfl (by kernel_rfl) (by kernel_rfl) .nil)))
theorem rH:∀parts,Tryz.prog.built 186 parts=Instr.fill (([(0,1),(1,1),(2,1)]:List (Nat×Nat)).toArray[·]?) ([.slice none 0 0,.slice none 0 0,.int .i64 0]:List Value).toArray parts:=dA Tryz.typeInfo186 Kw rfl rfl (.cons rfl (by kernel_rfl) (by kernel_rfl) (.cons rfl (by kernel_rfl) (by kernel_rfl) (.cons rfl (by kernel_rfl) (by kernel_rfl) .nil)))
theorem JU:∀parts,Tryz.prog.built 188 parts=Instr.fill (([(0,1),(1,3)]:List (Nat×Nat)).toArray[·]?) ([.int .i64 0,.slice none 0 0,.slice none 0 0,.int .i64 0]:List Value).toArray parts:=dA Tryz.typeInfo188 wH rfl rfl (.cons rfl (by kernel_rfl) (by kernel_rfl) (.cons rfl (by kernel_rfl) (by kernel_rfl) .nil))
theorem Dl:∀parts,Tryz.prog.built 197 parts=Instr.fill (([(0,1),(1,1)]:List (Nat×Nat)).toArray[·]?) ([.int .i64 0,.slice none 0 0]:List Value).toArray parts:=dA QD Yz rfl rfl (.cons rfl (by kernel_rfl) (by kernel_rfl) (.cons rfl (by kernel_rfl) (by kernel_rfl) .nil))
theorem Dm:∀parts,Tryz.prog.built 210 parts=Instr.fill (([(0,1),(1,1),(2,1),(3,8)]:List (Nat×Nat)).toArray[·]?) ([.int .i64 0,.int .i64 0,.int .i64 0,.int .u8 0,.int .u8 0,.int .u8 0,.int .u8 0,.int .u8 0,.int .u8 0,.int .u8 0,.int .u8 0]:List Value).toArray parts:=dA QE QH rfl rfl (.cons rfl (by kernel_rfl) (by kernel_rfl) (.cons rfl (by kernel_rfl) (by kernel_rfl) (.cons rfl (by kernel_rfl) (by kernel_rfl) (.cons rfl (by kernel_rfl) (by kernel_rfl) .nil))))
theorem wA:∀parts,Tryz.prog.built 214 parts=Instr.fill (([(0,1),(1,8)]:List (Nat×Nat)).toArray[·]?) ([.int .i64 0,.int .u8 0,.int .u8 0,.int .u8 0,.int .u8 0,.int .u8 0,.int .u8 0,.int .u8 0,.int .u8 0]:List Value).toArray parts:=dA Ku Nv rfl rfl (.cons rfl (by kernel_rfl) (by kernel_rfl) (.cons rfl (by kernel_rfl) (by kernel_rfl) .nil))
theorem JV:∀parts,Tryz.prog.built 296 parts=Instr.fill (([(0,1)]:List (Nat×Nat)).toArray[·]?) ([.slice none 0 0]:List Value).toArray parts:=dA Tryz.typeInfo296 Tryz.runUnderlying296 rfl rfl (.cons rfl (by kernel_rfl) (by kernel_rfl) .nil)
theorem JX:∀parts,Tryz.prog.built 322 parts=Instr.fill (([]:List (Nat×Nat)).toArray[·]?) ([]:List Value).toArray parts:=dA Tryz.typeInfo322 Tryz.runUnderlying322 rfl rfl .nil
theorem JY:∀parts,Tryz.prog.built 324 parts=Instr.fill (([(0,1)]:List (Nat×Nat)).toArray[·]?) ([.pointer none]:List Value).toArray parts:=dA Tryz.typeInfo324 QJ rfl rfl (.cons rfl (by kernel_rfl) (by kernel_rfl) .nil)
theorem KA:∀parts,Tryz.prog.built 326 parts=Instr.fill (([(0,1)]:List (Nat×Nat)).toArray[·]?) ([.slice none 0 0]:List Value).toArray parts:=dA Tryz.typeInfo326 QK rfl rfl (.cons rfl (by kernel_rfl) (by kernel_rfl) .nil)
theorem KB:∀parts,Tryz.prog.built 327 parts=Instr.fill (([]:List (Nat×Nat)).toArray[·]?) ([]:List Value).toArray parts:=dA Tryz.typeInfo327 Tryz.runUnderlying327 rfl rfl .nil
theorem KC:∀parts,Tryz.prog.built 363 parts=Instr.fill (([(0,1),(1,1)]:List (Nat×Nat)).toArray[·]?) ([.slice none 0 0,.map none]:List Value).toArray parts:=dA Tryz.typeInfo363 NS rfl rfl (.cons rfl (by kernel_rfl) (by kernel_rfl) (.cons rfl (by kernel_rfl) (by kernel_rfl) .nil))
section aJp
open Go.RowKit Go.Extern.Stop Go.Stop Go.Extern
theorem QP(t:Value)(w:World):Calls Tryz.prog 73 #[.nilIface,t] w fun e w'=>e= .returned (.bool false)/\w'=w:=by
 go_enter Tryz.func73,Tryz.ntmps73
 go_wp2
 go_ret
 exact⟨Y,Y⟩
theorem Wp(t:Addr)(w:World):(ReflectliteValue.unpack (.iface 183 (.pointer (some t)))).run Tryz.prog w
  = .ok (.agg #[.pointer (some ⟨9,183,none⟩),.pointer (some ⟨w.heap.size,0,none⟩),.int .u64 150]) (w.alloc (.cells #[.pointer (some t)] 183)):=by kernel_rfl
theorem KD(a:Addr)(w:World):(ReflectliteValue.methodAny (ReflectliteValue.valueError "reflectlite.Value.Type" 0) (fun t _ _ _=>ReflectliteType.toType t) #[.agg #[.pointer (some ⟨9,183,none⟩),.pointer (some a),.int .u64 150]]).run Tryz.prog w
  = .ok (.iface 281 (.agg #[.pointer (some ⟨9,183,none⟩)])) w:=by kernel_rfl
theorem Pb(h:Value)(w:World):(Go.method 543 281 (.agg #[h]) "Kind").run Tryz.prog w= .ok (290,h) w:=by kernel_rfl
theorem KE(w:World):((ReflectliteType.abiMethod fun t=>(fun a:Nat=>Value.int IntKind.u8 (a:Int)) <$> Rtype.kind t) #[.pointer (some ⟨9,183,none⟩)]).run Tryz.prog w= .ok (.int .u8 22) w:=by kernel_rfl
theorem KF(w:World):((ReflectliteType.abiMethod fun t=>(fun a:Nat=>Value.int IntKind.u8 (a:Int)) <$> Rtype.kind t) #[.pointer (some ⟨9,28,none⟩)]).run Tryz.prog w= .ok (.int .u8 2) w:=by kernel_rfl
theorem KG(z:Sem Value)(f:TypeId->Addr->Nat->Nat->Sem Value)(v:Value):
  ReflectliteValue.method z f #[v]=(do match<-ReflectliteValue.parts v with | none=>z | some (t,a,fl)=>f t a fl (fl % 32)):=rfl
theorem Ra(a:Addr)(w:World):(ReflectliteValue.parts (.agg #[.pointer (some ⟨9,183,none⟩),.pointer (some a),.int .u64 150])).run Tryz.prog w= .ok (some (183,a,150)) w:=by kernel_rfl
theorem EP(a p:Addr)(W:World)(ha:W.cell? a=some (.pointer (some p))):
  (ReflectliteValue.method (ReflectliteValue.valueError "reflectlite.Value.IsNil" 0) ReflectliteValue.isNil #[.agg #[.pointer (some ⟨9,183,none⟩),.pointer (some a),.int .u64 150]]).run Tryz.prog W= .ok (.bool false) W:=by
 rw[KG];simp only[Sem.run_bind,Ra,Result.andThen];simp[ReflectliteValue.isNil,loadVar,isAgg,underlying,Tryz.underlying183,ha,Result.andThen]
theorem Pc(h:Value)(w:World):(Go.method 543 281 (.agg #[h]) "Elem").run Tryz.prog w= .ok (301,.agg #[h]) w:=by kernel_rfl
theorem Fa(h:Value)(w:World):(Go.method 543 281 (.agg #[h]) "Implements").run Tryz.prog w= .ok (302,.agg #[h]) w:=by kernel_rfl
theorem Ch(h:Value)(w:World):(Go.method 543 281 (.agg #[h]) "AssignableTo").run Tryz.prog w= .ok (299,.agg #[h]) w:=by kernel_rfl
theorem KH(w:World):(ReflectliteType.method ReflectliteType.elem #[.agg #[.pointer (some ⟨9,183,none⟩)]]).run Tryz.prog w= .ok (.iface 281 (.agg #[.pointer (some ⟨9,28,none⟩)])) w:=by kernel_rfl
theorem Nx(w:World):(ReflectliteType.relation "Implements" ReflectliteType.implements_ #[.agg #[.pointer (some ⟨9,28,none⟩)],.iface 281 (.agg #[.pointer (some ⟨9,35,none⟩)])]).run Tryz.prog w= .ok (.bool true) w:=by kernel_rfl
theorem Za(v:Value)(w:World):(ReflectliteType.typeOf #[.iface 28 v]).run Tryz.prog w= .ok (.iface 281 (.agg #[.pointer (some ⟨9,28,none⟩)])) w:=by kernel_rfl
theorem Ny(w:World):(ReflectliteType.relation "AssignableTo" ReflectliteType.assignableTo #[.agg #[.pointer (some ⟨9,28,none⟩)],.iface 281 (.agg #[.pointer (some ⟨9,28,none⟩)])]).run Tryz.prog w= .ok (.bool true) w:=by kernel_rfl
theorem Wq(n:Int)(w:World):(ReflectliteValue.unpack (.iface 28 (.int .i64 n))).run Tryz.prog w
  = .ok (.agg #[.pointer (some ⟨9,28,none⟩),.pointer (some ⟨w.heap.size,0,none⟩),.int .u64 130]) (w.alloc (.cells #[.int .i64 n] 28)):=by kernel_rfl
theorem Zb(w:World):(Rtype.elem? 183).run Tryz.prog w= .ok (some 28) w:=by kernel_rfl
theorem QQ(p:Addr)(w:World):(ReflectliteValue.mk 28 p ReflectliteValue.flagAddr).run Tryz.prog w= .ok (.agg #[.pointer (some ⟨9,28,none⟩),.pointer (some p),.int .u64 386]) w:=by kernel_rfl
theorem ER(a p:Addr)(W:World)(ha:W.cell? a=some (.pointer (some p))):
  (ReflectliteValue.method (ReflectliteValue.valueError "reflectlite.Value.Elem" 0) ReflectliteValue.elem #[.agg #[.pointer (some ⟨9,183,none⟩),.pointer (some a),.int .u64 150]]).run Tryz.prog W
   = .ok (.agg #[.pointer (some ⟨9,28,none⟩),.pointer (some p),.int .u64 386]) W:=by
 rw[KG];simp only[Sem.run_bind,Ra,Result.andThen];simp[ReflectliteValue.elem,loadVar,isAgg,underlying,Tryz.underlying183,ha,Result.andThen,Zb,QQ]
theorem QR(v x:Value):ReflectliteValue.set #[v,x]=(do
  let (some (dst,a,fl),some (src,b,_)):=(<-ReflectliteValue.parts v,<-ReflectliteValue.parts x)
   |unsupported (.noEntry "extern/(internal/reflectlite.Value).Set.zeroValue")
  if fl / ReflectliteValue.flagAddr % 2==0 then unsupported (.noEntry "extern/(internal/reflectlite.Value).Set.unaddressable")
  let val<-loadVar src b
  if<-Rtype.directlyAssignable dst src then storeVar dst a val
  else if<-Rtype.implements dst src then
   if (<-Rtype.kind src)==20 then
    match val with
    | .nilIface=>unsupported (.noEntry "extern/reflectlite: a nil value of one interface type handed on as a value of another")
    |_=>storeVar dst a val
   else storeVar dst a (.iface src val)
  else panicString ("reflectlite.Set: value of type "++(<-Rtype.spelt src)++ " is not assignable to type "++(<-Rtype.spelt dst))
  pure (.tuple #[])):=rfl
theorem Zc(a:Addr)(w:World):(ReflectliteValue.parts (.agg #[.pointer (some ⟨9,28,none⟩),.pointer (some a),.int .u64 386])).run Tryz.prog w= .ok (some (28,a,386)) w:=by kernel_rfl
theorem ES(a:Addr)(w:World):(ReflectliteValue.parts (.agg #[.pointer (some ⟨9,28,none⟩),.pointer (some a),.int .u64 130])).run Tryz.prog w= .ok (some (28,a,130)) w:=by kernel_rfl
theorem Zd(w:World):(Rtype.directlyAssignable 28 28).run Tryz.prog w= .ok true w:=by kernel_rfl
theorem NY(ta b:Addr)(n:Int)(bu:Value)(W:World)(hb:W.cell? b=some (.int .i64 n))(ht:W.cell? ta=some bu)(hf:W.frozen? ta=false):
  (ReflectliteValue.set #[.agg #[.pointer (some ⟨9,28,none⟩),.pointer (some ta),.int .u64 386],.agg #[.pointer (some ⟨9,28,none⟩),.pointer (some b),.int .u64 130]]).run Tryz.prog W
   = .ok (.tuple #[]) (W.setCell ta (.int .i64 n)):=by
 rw[QR];simp only[Sem.run_bind,Zc,ES,Result.andThen];simp[ReflectliteValue.flagAddr,loadVar,isAgg,underlying,Tryz.underlying28,hb,Result.andThen,Zd,storeVar,Value.cells,storeCells,Addr.add];rw[run_store Tryz.prog W ta _ _ (by rfl)];simp[ht,hf]
set_option maxHeartbeats 4000000 in
theorem QS(n:Int)(t:Addr)(bu:Value)(w:World)(hg:w.cell? ⟨0,0,none⟩=some (.iface 281 (.agg #[.pointer (some ⟨9,35,none⟩)])))(ht0:w.cell? t=some bu)(hf0:w.frozen? t=false):
  Calls Tryz.prog 73 #[.iface 28 (.int .i64 n),.iface 183 (.pointer (some t))] w fun ev w'=>ev= .returned (.bool true)/\w'=((((w.alloc (.cells #[.pointer (some t)] 183)).alloc (.cells #[.pointer (some ⟨9,183,none⟩),.pointer (some ⟨w.heap.size,0,none⟩),.int .u64 150] 225)).alloc (.cells #[.pointer (some ⟨9,183,none⟩),.pointer (some ⟨w.heap.size,0,none⟩),.int .u64 150] 225)).alloc (.cells #[.int .i64 n] 28)).setCell t (.int .i64 n):=by
 have C:= @run_callFunc_extern Tryz.prog 122 _ (fun A=>ReflectliteValue.unpack (A.getD 0 (.tuple #[]))) Tryz.func122 (by kernel_rfl) (by kernel_rfl) (by kernel_rfl) (by kernel_rfl);have D:= @run_callFunc_extern Tryz.prog 123 _ (ReflectliteValue.methodAny (ReflectliteValue.valueError "reflectlite.Value.Type" 0) (fun t _ _ _=>ReflectliteType.toType t)) Tryz.func123 (by kernel_rfl) (by kernel_rfl) (by kernel_rfl) (by kernel_rfl);have E:= @run_callFunc_extern Tryz.prog 124 _ (ReflectliteValue.method (ReflectliteValue.valueError "reflectlite.Value.IsNil" 0) ReflectliteValue.isNil) Tryz.func124 (by kernel_rfl) (by kernel_rfl) (by kernel_rfl) (by kernel_rfl);have F:= @run_callFunc_extern Tryz.prog 290 _ (ReflectliteType.abiMethod fun t=>do pure (.int .u8 (<-Rtype.kind t))) Tryz.func290 (by kernel_rfl) (by kernel_rfl) (by kernel_rfl) (by kernel_rfl);have G:= @run_callFunc_extern Tryz.prog 301 _ (ReflectliteType.method ReflectliteType.elem) Tryz.func301 (by kernel_rfl) (by kernel_rfl) (by kernel_rfl) (by kernel_rfl);have H:= @run_callFunc_extern Tryz.prog 302 _ (ReflectliteType.relation "Implements" ReflectliteType.implements_) Tryz.func302 (by kernel_rfl) (by kernel_rfl) (by kernel_rfl) (by kernel_rfl);have I:= @run_callFunc_extern Tryz.prog 169 _ ReflectliteType.typeOf Tryz.func169 (by kernel_rfl) (by kernel_rfl) (by kernel_rfl) (by kernel_rfl);have K:= @run_callFunc_extern Tryz.prog 299 _ (ReflectliteType.relation "AssignableTo" ReflectliteType.assignableTo) Tryz.func299 (by kernel_rfl) (by kernel_rfl) (by kernel_rfl) (by kernel_rfl);have L:= @run_callFunc_extern Tryz.prog 170 _ (ReflectliteValue.method (ReflectliteValue.valueError "reflectlite.Value.Elem" 0) ReflectliteValue.elem) Tryz.func170 (by kernel_rfl) (by kernel_rfl) (by kernel_rfl) (by kernel_rfl);have M:= @run_callFunc_extern Tryz.prog 171 _ ReflectliteValue.set Tryz.func171 (by kernel_rfl) (by kernel_rfl) (by kernel_rfl) (by kernel_rfl);have N:=Za;have O:=Ch;have P:=Ny;have Q:=Wq;have R:=Wp;have S:=KD;have T:=Pb;have U:=Pc;have V:=Fa;have X:=KE;have aa:=KF;have ab:=KH;have ac:=Nx;have n8:=EP ⟨w.heap.size,0,none⟩ t ((w.alloc (.cells #[.pointer (some t)] 183)).alloc (.cells #[.pointer (some ⟨9,183,none⟩),.pointer (some ⟨w.heap.size,0,none⟩),.int .u64 150] 225)) (by simp);have z:0<w.heap.size:=by
  rcases aEh w.heap.size with B | h
  ·simp[World.cell?,B] at hg
  ·exact h
 have ad:((w.alloc (.cells #[.pointer (some t)] 183)).alloc (.cells #[.pointer (some ⟨9,183,none⟩),.pointer (some ⟨w.heap.size,0,none⟩),.int .u64 150] 225)).cell? ⟨0,0,none⟩=some (.iface 281 (.agg #[.pointer (some ⟨9,35,none⟩)])):=by
  rw[World.cell?_alloc_lt _ _ ⟨0,0,none⟩ (by simp),World.cell?_alloc_lt _ _ ⟨0,0,none⟩ z];exact hg
 have u:t.block<w.heap.size:=by
  rcases K3 t.block w.heap.size with h | h
  ·exact h
  ·simp[World.cell?,zd h] at ht0
 have el:=ER ⟨w.heap.size,0,none⟩ t (((w.alloc (.cells #[.pointer (some t)] 183)).alloc (.cells #[.pointer (some ⟨9,183,none⟩),.pointer (some ⟨w.heap.size,0,none⟩),.int .u64 150] 225)).alloc (.cells #[.pointer (some ⟨9,183,none⟩),.pointer (some ⟨w.heap.size,0,none⟩),.int .u64 150] 225)) (by rw[World.cell?_alloc_lt _ _ ⟨w.heap.size,0,none⟩ (by simp;omega)];simp);have st:=NY t ⟨w.heap.size+1+1+1,0,none⟩ n bu ((((w.alloc (.cells #[.pointer (some t)] 183)).alloc (.cells #[.pointer (some ⟨9,183,none⟩),.pointer (some ⟨w.heap.size,0,none⟩),.int .u64 150] 225)).alloc (.cells #[.pointer (some ⟨9,183,none⟩),.pointer (some ⟨w.heap.size,0,none⟩),.int .u64 150] 225)).alloc (.cells #[.int .i64 n] 28))
  (by rw[World.cell?_alloc_at _ _ _ _ (by simp)];rfl)
  (by rw[World.cell?_alloc_lt _ _ t (by simp;omega),World.cell?_alloc_lt _ _ t (by simp;omega),World.cell?_alloc_lt _ _ t (by simp;omega),World.cell?_alloc_lt _ _ t u];exact ht0)
  (by rw[World.frozen?_alloc_old _ _ t (by simp;omega),World.frozen?_alloc_old _ _ t (by simp;omega),World.frozen?_alloc_old _ _ t (by simp;omega),World.frozen?_alloc_old _ _ t (Nat.ne_of_lt u)];exact hf0)
 go_enter Tryz.func73,Tryz.ntmps73
 go_wp2
 refine wp_loop_rounds 1 ?_;rw[rounds_succ]
 go_wp2
 go_ret
 exact⟨Y,Y⟩
end aJp
def GV:Value:= .iface 281 (.agg #[.pointer (some ⟨9,35,none⟩)])
variable {gobj:Obj}
theorem NZ(n:Int)(t:Addr)(bu:Value)(w:World)(hg:w.cell? ⟨0,0,none⟩=some GV)(ht0:w.cell? t=some bu)(hf0:w.frozen? t=false):
  Calls Tryz.prog 73 #[.iface 28 (.int .i64 n),.iface 183 (.pointer (some t))] w fun ev w'=>ev= .returned (.bool true)/\∃o1 o2 o3 o4,w'=((((w.alloc o1).alloc o2).alloc o3).alloc o4).setCell t (.int .i64 n):=
 (QS n t bu w hg ht0 hf0).mono fun _ _ h=>⟨h.1,_,_,_,_,h.2⟩
theorem wY{a0 a1 r}(h:lP a0 a1=some r):
 VS Tryz.prog 10 [.v Q0 a0,.v Q0 a1] (.v Q0 r) []:=by
 refine VS.of Tryz.func10 Y Tryz.ntmps10 Y ?_;intro S w A;unfold lP at h;refine aL [0,1] ?_;refine cV [0,1,6] ?_;obtain⟨B,C,h⟩:=fE h;refine tF (fun z:Int=>⟨[(0,.v Q0 z),(1,.v Q0 a1)],[]⟩) (fun x=>B x=some r) Y ?_ ?_ ?_
 ·intro z h;rw[C] at h;obtain⟨E,D,h⟩:=aA h;refine aI (.a 2 ?_);refine .k (kK (.inr Y) (Eb D) Y Y) (.f [4] ?_);cases h;exact aH (aY A dS Y (RV.tmp Y) .nil Y)
 ·intro u;replace h:=iK u h;refine eM (.a 2 ?_);refine .k (Xa Y) (.f [0,1] ?_);exact cC h (aC [])
 ·intro u;replace h:=iL u h;refine aF ?_;exact cC h (aC [])
theorem Dn{a0 a1 r}(h:tP a0 a1=some r):
 VS Tryz.prog 25 [.v mD a0,.v Q0 a1] (.v Q0 r) []:=by
 refine VS.of Tryz.func25 Y Tryz.ntmps25 Y ?_;intro S w u;unfold tP at h;refine aL [0,1] ?_;refine cV [0,1,7] ?_;refine aU h Y (fun z h=>?_) (fun z h=>?_)
 ·refine aL [4] ?_;cases h;exact aH (aY u dS Y (RV.tmp Y) .nil Y)
 refine aF ?_;refine aG ?_;obtain⟨E,A,h⟩:=aA h;obtain⟨F,B,h⟩:=aA h;obtain⟨G,C,h⟩:=aA h;obtain⟨H,D,h⟩:=aA h;refine dV 15 mixed (by exact(.k (aD Y) (.k (aD Y) (.k (aD Y) (.k (tD Y wX) (.k (kK (.inr Y) (Eb A) Y Y) (.k (gP B Y Y wX S3) (.k (bO Y G3 S3) (.k (aM (wY C) TE (.cons (.dir Y) (.cons (.dir Y) .nil))) (.k (aD Y) (.k (aD Y) (.k (tD Y wX) (.k (kK (.inl Y) (Eb D) Y Y) (.k (cU Y Y Y) (.k (cU Y Y Y) (.k (bP Y) .nil)))))))))))))))) (by exact(J.kp [4] [])) ?_;cases h;exact aH (aY u dS Y (RV.tmp Y) .nil Y)
theorem yY{a0 a1 r}(h:kL a0 a1=some r):
 VS Tryz.prog 26 [.v mD a0,.v Q0 a1] (.v aO r) []:=by
 refine VS.of Tryz.func26 Y Tryz.ntmps26 Y ?_;intro S w B;unfold kL at h;refine aI (.k (aN 101 Br Y (.cons (Z.arr 8 (Z.int .u8)) .nil) Y) (.f [0,1,4] ?_));refine aI (.k (dE (e:=aO) (v:=aS) Bq vR I5 Y Y (Z.arr 8 (Z.int .u8))) (.k (aN 102 Br Y (.cons (Z.arr 8 (Z.int .u8)) .nil) Y) (.f [0,1,4,5] ?_)));obtain⟨Q,I,h⟩:=aA h;refine aI (.a 2 ?_);refine .k (aM (Dn I) Tryz.call25 (.cons (.dir Y) (.cons (.dir Y) .nil))) (.f [0,1,4,5,6] ?_);refine jM (.a 1 ?_);refine .k (kK (.inr Y) (by decide) Y Y) (.f [0,1,4,5,6,14] ?_);refine aU h Y (fun G h=>?_) (fun G h=>?_)
 ·refine aL [4] ?_;refine aH ?_;obtain rfl:=pT h;exact cB (σ':=⟨[(4,.ptr 90 0)],[(90,.box 30 [.v aO aS])]⟩) (aC [(90,101)]) (aY B dS Y (cL Y Y Y uO kP) .nil Y)
 refine aF ?_;obtain⟨R,D,h⟩:=aA h;refine aI (.a 1 ?_);refine .k (kK (.inl Y) (by decide) Y Y) (.k (kK (.inr Y) (by decide) Y Y) ?_);refine .a 2 ?_;refine .k (rK D Y Y Y Y vR S5) (.t (Db (dG D).2.2 Y Y Y Y S5) (.f [0,1,4,5,6] ?_));refine jM (.a 1 ?_);refine .k (kK (.inr Y) (by decide) Y Y) (.f [0,1,4,5,24] ?_);obtain⟨K,L,h⟩:=fE h;refine tF (fun u:aQ=>⟨[(4,.ptr 101 0),(5,.ptr 102 0)],[(101,.box 30 [.v aO aS]),(102,.box 30 [.v aO u])]⟩) (fun x=>K x=some r) Y ?_ ?_ ?_
 ·intro u h;rw[L] at h;refine aL [4] ?_;refine aH ?_;obtain rfl:=pT h;exact cB (σ':=⟨[(4,.ptr 90 0)],[(90,.box 30 [.v aO u])]⟩) (aC [(90,101)]) (aY B dS Y (cL Y Y Y uO kP) .nil Y)
 ·intro z;replace h:=iK z h;refine aL [0,1,4,5,7] ?_;obtain⟨T,M,N,U⟩:=cN h;refine jP (σs:=fun A:Int×aQ=>⟨[(0,.v mD a0),(1,.v Q0 a1),(4,.ptr 101 0),(5,.ptr 102 0),(7,.v Q0 A.1)],[(101,.box 30 [.v aO aS]),(102,.box 30 [.v aO A.2])]⟩) (fun C:aQ=>⟨[(4,.ptr 101 0),(5,.ptr 102 0)],[(101,.box 30 [.v aO aS]),(102,.box 30 [.v aO C])]⟩) M (aC []) ?_ ?_
  ·intro C F;have h:=N _ F;exact cC h (aC [])
  intro A P h;refine cV [0,1,4,5,7,26] ?_;refine aU h Y (fun H h=>?_) (fun H h=>?_)
  ·refine aF ?_;refine aG ?_;refine bS ?_;obtain⟨V,O,h⟩:=aA h;obtain⟨X,E,h⟩:=aA h;refine eM (.a 5 ?_);refine .k (aM (Dn O) Tryz.call25 (.cons (.dir Y) (.cons (.dir Y) .nil))) (.k (kK (.inl Y) (by decide) Y Y) ?_);refine .a 1 ?_;refine .k (rK E Y Y Y Y vR S5) (.t (Db (dG E).2.2 Y Y Y Y S5) (.f [0,1,4,5,7] ?_));refine aZ ?_;refine dQ [0,1,4,5,7] ?_;cases h;exact cF (aC [])
  cases h;exact dC (dJ (aC []))
 ·intro z;replace h:=iL z h;refine aF ?_;exact cC h (aC [])
theorem Gl{a0 a1 a2 a3 r}(h:lI a0 a1 a2 a3=some r):
 VS Tryz.prog 12 [.v mD a0,.v Q0 a1,.v Q0 a2,.v Q0 a3] (.v (Wr.sl Q4) r) []:=by
 refine VS.of Tryz.func12 Y Tryz.ntmps12 Y ?_;intro S w L;unfold lI at h;refine aI (.k (aR 101 44 Q4) (.f [0,1,2,3] ?_));refine aI (.k (aR 102 44 Q4) (.f [0,1,2,3,9] ?_));refine cV [0,1,2,3,9,10] ?_;obtain⟨bc,ai,aj,bd⟩:=cN h;refine jP (σs:=fun z:Int×(List (Int×Int×Int×aQ))=>⟨[(0,.v mD a0),(1,.v Q0 a1),(2,.v Q0 a2),(3,.v Q0 a3),(9,.ref 134),(10,.v Q0 z.1)],[(134,.arr 44 Q4 z.2)]⟩) (fun F:(List (Int×Int×Int×aQ))=>⟨[(9,.ref 134)],[(134,.arr 44 Q4 F)]⟩) ai (aC [(134,102)]) ?_ ?_
 ·intro F M;have h:=aj _ M;refine aL [8] ?_;cases h;exact aH (vW L dS Y (aC []))
 intro z A h;refine cV [0,1,2,3,9,10,15] ?_;refine aU h Y (fun N h=>?_) (fun N h=>?_)
 ·refine aF ?_;refine aG ?_;refine bS ?_;obtain⟨u,am,h⟩:=aA h;refine aI (.a 4 ?_);refine .k (aM (Dn am) Tryz.call25 (.cons (.dir Y) (.cons (.dir Y) .nil))) (.f [0,1,2,3,9,10,11] ?_);obtain⟨be,an,h⟩:=aA h;refine aI (.a 1 ?_);refine .k (kK (.inl Y) (by decide) Y Y) ?_;refine .a 1 ?_;refine .k (kK (.inr Y) (Eb an) Y Y) ?_;refine .a 1 ?_;refine .k (kK (.inl Y) (by decide) Y Y) (.k (kK (.inr Y) (by decide) Y Y) (.k (bR NV (.cons (Z.int .i64) (.cons (Z.int .i64) (.cons (Z.int .i64) (.cons (Z.arr 8 (Z.int .u8)) .nil)))) (.cons Y (.dir Y) Y Y Y Y (.cons Y (.dir Y) Y Y Y Y .nil))) (.k (aN 150 EO Y (.cons (Z.int .i64) (.cons (Z.int .i64) (.cons (Z.int .i64) (.cons (Z.arr 8 (Z.int .u8)) .nil)))) Y) (.f [0,1,2,3,9,10,11,12] ?_))));refine jM (.a 1 ?_);refine .k (kK (.inr Y) (by decide) Y Y) (.f [0,1,2,3,9,10,11,12,32] ?_);refine bS ?_;refine cV [0,1,2,3,9,10,11,12,32,38] ?_;obtain⟨ic,ap,h⟩:=fE h;refine tF (fun G:Bool=>⟨[(0,.v mD a0),(1,.v Q0 a1),(2,.v Q0 a2),(3,.v Q0 a3),(9,.ref 134),(10,.v Q0 z.1),(11,.v Q0 u),(12,.ptr 150 0),(32,.v Q0 (ar .rem .i64 u (20:Int))),(38,.v Wr.bool G)],[(134,.arr 44 Q4 z.2),(150,.box 44 [.v Q0 (0:Int),.v Q0 (ar .rem .i64 (ar .quo .i64 u (40:Int)) a3),.v Q0 (ar .rem .i64 (ar .quo .i64 u (7:Int)) (90:Int)),.v aO aS])]⟩) (fun x=>ic x=some A) Y ?_ ?_ ?_
  ·intro G h;rw[ap] at h;refine aU h Y (fun O h=>?_) (fun O h=>?_)
   ·refine aL [0,1,2,3,9,10,12] ?_;obtain⟨bf,aq,h⟩:=aA h;refine eM (.a 5 ?_);refine .k (aM (yY aq) Tryz.call26 (.cons (.dir Y) (.cons (.dir Y) .nil))) (.f [0,1,2,3,9,10,12] ?_);refine aZ ?_;obtain⟨bg,au,h⟩:=aA h;refine eM (.a 1 ?_);refine .k (aT Y Y (.VB sO (.VB sO (.VB sO sO))) BO Cf) (.k (dI (e:=Q4) Ol Cf EO Y Y Y Y (.cons (.dir Y) .nil)) (.t (bU 152 au Y Y (.sl Y) Ol JN Cf Y Y Y Y Y) (.f [0,1,2,3,9,10] ?_)));refine aZ ?_;refine dQ [0,1,2,3,9,10] ?_;cases h;exact cF (aC [(134,152)])
   refine aL [0,1,2,3,9,10,11,12,32,52] ?_;refine aU h Y (fun P h=>?_) (fun P h=>?_)
   ·refine dQ [0,1,2,3,9,10,12] ?_;refine aZ ?_;obtain⟨bi,av,h⟩:=aA h;refine eM (.a 1 ?_);refine .k (aT Y Y (.VB sO (.VB sO (.VB sO sO))) BO Cf) (.k (dI (e:=Q4) Ol Cf EO Y Y Y Y (.cons (.dir Y) .nil)) (.t (bU 153 av Y Y (.sl Y) Ol JN Cf Y Y Y Y Y) (.f [0,1,2,3,9,10] ?_)));refine aZ ?_;refine dQ [0,1,2,3,9,10] ?_;cases h;exact cF (aC [(134,153)])
   refine aL [0,1,2,3,9,10,11,12,32,55] ?_;refine aU h Y (fun Q h=>?_) (fun Q h=>?_)
   ·refine dQ [0,1,2,3,9,10,12] ?_;refine aZ ?_;obtain⟨bj,aw,h⟩:=aA h;refine eM (.a 1 ?_);refine .k (aT Y Y (.VB sO (.VB sO (.VB sO sO))) BO Cf) (.k (dI (e:=Q4) Ol Cf EO Y Y Y Y (.cons (.dir Y) .nil)) (.t (bU 154 aw Y Y (.sl Y) Ol JN Cf Y Y Y Y Y) (.f [0,1,2,3,9,10] ?_)));refine aZ ?_;refine dQ [0,1,2,3,9,10] ?_;cases h;exact cF (aC [(134,154)])
   refine cV [0,1,2,3,9,10,11,12,32,58] ?_;obtain⟨qu,ax,h⟩:=fE h;refine tF (fun H:Bool=>⟨[(0,.v mD a0),(1,.v Q0 a1),(2,.v Q0 a2),(3,.v Q0 a3),(9,.ref 134),(10,.v Q0 z.1),(11,.v Q0 u),(12,.ptr 150 0),(32,.v Q0 (ar .rem .i64 u (20:Int))),(58,.v Wr.bool H)],[(134,.arr 44 Q4 z.2),(150,.box 44 [.v Q0 (0:Int),.v Q0 (ar .rem .i64 (ar .quo .i64 u (40:Int)) a3),.v Q0 (ar .rem .i64 (ar .quo .i64 u (7:Int)) (90:Int)),.v aO aS])]⟩) (fun x=>qu x=some A) Y ?_ ?_ ?_
   ·intro H h;rw[ax] at h;refine aU h Y (fun R h=>?_) (fun R h=>?_)
    ·refine dQ [0,1,2,3,9,10,12] ?_;refine aZ ?_;obtain⟨bl,ay,h⟩:=aA h;refine eM (.a 1 ?_);refine .k (aT Y Y (.VB sO (.VB sO (.VB sO sO))) BO Cf) (.k (dI (e:=Q4) Ol Cf EO Y Y Y Y (.cons (.dir Y) .nil)) (.t (bU 155 ay Y Y (.sl Y) Ol JN Cf Y Y Y Y Y) (.f [0,1,2,3,9,10] ?_)));refine aZ ?_;refine dQ [0,1,2,3,9,10] ?_;cases h;exact cF (aC [(134,155)])
    refine cV [0,1,2,3,9,10,11,12,32,63] ?_;obtain⟨qt,az,h⟩:=fE h;refine tF (fun I:Bool=>⟨[(0,.v mD a0),(1,.v Q0 a1),(2,.v Q0 a2),(3,.v Q0 a3),(9,.ref 134),(10,.v Q0 z.1),(11,.v Q0 u),(12,.ptr 150 0),(32,.v Q0 (ar .rem .i64 u (20:Int))),(63,.v Wr.bool I)],[(134,.arr 44 Q4 z.2),(150,.box 44 [.v Q0 (0:Int),.v Q0 (ar .rem .i64 (ar .quo .i64 u (40:Int)) a3),.v Q0 (ar .rem .i64 (ar .quo .i64 u (7:Int)) (90:Int)),.v aO aS])]⟩) (fun x=>qt x=some A) Y ?_ ?_ ?_
    ·intro I h;rw[az] at h;refine aU h Y (fun T h=>?_) (fun T h=>?_)
     ·refine dQ [0,1,2,3,9,10,12] ?_;refine aZ ?_;obtain⟨bn,a4,h⟩:=aA h;refine eM (.a 1 ?_);refine .k (aT Y Y (.VB sO (.VB sO (.VB sO sO))) BO Cf) (.k (dI (e:=Q4) Ol Cf EO Y Y Y Y (.cons (.dir Y) .nil)) (.t (bU 156 a4 Y Y (.sl Y) Ol JN Cf Y Y Y Y Y) (.f [0,1,2,3,9,10] ?_)));refine aZ ?_;refine dQ [0,1,2,3,9,10] ?_;cases h;exact cF (aC [(134,156)])
     refine cV [0,1,2,3,9,10,11,12,32,68] ?_;obtain⟨qq,a5,h⟩:=fE h;refine tF (fun K:Bool=>⟨[(0,.v mD a0),(1,.v Q0 a1),(2,.v Q0 a2),(3,.v Q0 a3),(9,.ref 134),(10,.v Q0 z.1),(11,.v Q0 u),(12,.ptr 150 0),(32,.v Q0 (ar .rem .i64 u (20:Int))),(68,.v Wr.bool K)],[(134,.arr 44 Q4 z.2),(150,.box 44 [.v Q0 (0:Int),.v Q0 (ar .rem .i64 (ar .quo .i64 u (40:Int)) a3),.v Q0 (ar .rem .i64 (ar .quo .i64 u (7:Int)) (90:Int)),.v aO aS])]⟩) (fun x=>qq x=some A) Y ?_ ?_ ?_
     ·intro K h;rw[a5] at h;refine aU h Y (fun U h=>?_) (fun U h=>?_)
      ·refine aL [0,1,2,3,9,10,11,12] ?_;refine eM (.a 1 ?_);refine .k (kK (.inl Y) (by decide) Y Y) (.k (kK (.inr Y) (by decide) Y Y) (.f [0,1,2,3,9,10,12] ?_));refine aZ ?_;obtain⟨bo,a6,h⟩:=aA h;refine eM (.a 1 ?_);refine .k (aT Y Y (.VB sO (.VB sO (.VB sO sO))) BO Cf) (.k (dI (e:=Q4) Ol Cf EO Y Y Y Y (.cons (.dir Y) .nil)) (.t (bU 157 a6 Y Y (.sl Y) Ol JN Cf Y Y Y Y Y) (.f [0,1,2,3,9,10] ?_)));refine aZ ?_;refine dQ [0,1,2,3,9,10] ?_;cases h;exact cF (aC [(134,157)])
      refine aL [0,1,2,3,9,10,11,12,32,77] ?_;refine aU h Y (fun V h=>?_) (fun V h=>?_)
      ·refine aL [0,1,2,3,9,10,11,12] ?_;refine eM (.a 1 ?_);refine .k (kK (.inl Y) (by decide) Y Y) (.k (kK (.inr Y) (by decide) Y Y) (.f [0,1,2,3,9,10,12] ?_));refine aZ ?_;obtain⟨bp,a7,h⟩:=aA h;refine eM (.a 1 ?_);refine .k (aT Y Y (.VB sO (.VB sO (.VB sO sO))) BO Cf) (.k (dI (e:=Q4) Ol Cf EO Y Y Y Y (.cons (.dir Y) .nil)) (.t (bU 158 a7 Y Y (.sl Y) Ol JN Cf Y Y Y Y Y) (.f [0,1,2,3,9,10] ?_)));refine aZ ?_;refine dQ [0,1,2,3,9,10] ?_;cases h;exact cF (aC [(134,158)])
      refine aL [0,1,2,3,9,10,11,12,32,84] ?_;refine aU h Y (fun X h=>?_) (fun X h=>?_)
      ·refine aL [0,1,2,3,9,10,11,12] ?_;refine eM (.a 1 ?_);refine .k (kK (.inl Y) (by decide) Y Y) (.k (kK (.inr Y) (by decide) Y Y) (.f [0,1,2,3,9,10,12] ?_));refine aZ ?_;obtain⟨bq,a8,h⟩:=aA h;refine eM (.a 1 ?_);refine .k (aT Y Y (.VB sO (.VB sO (.VB sO sO))) BO Cf) (.k (dI (e:=Q4) Ol Cf EO Y Y Y Y (.cons (.dir Y) .nil)) (.t (bU 159 a8 Y Y (.sl Y) Ol JN Cf Y Y Y Y Y) (.f [0,1,2,3,9,10] ?_)));refine aZ ?_;refine dQ [0,1,2,3,9,10] ?_;cases h;exact cF (aC [(134,159)])
      refine aL [0,1,2,3,9,10,11,12,91] ?_;refine aU h Y (fun aa h=>?_) (fun aa h=>?_)
      ·refine aL [0,1,2,3,9,10,11,12] ?_;refine aI (.a 1 ?_);refine .k (kK (.inl Y) (by decide) Y Y) (.k (kK (.inr Y) (by decide) Y Y) (.f [0,1,2,3,9,10,12] ?_));obtain⟨br,a9,h⟩:=aA h;refine eM (.a 5 ?_);refine .k (aM (yY a9) Tryz.call26 (.cons (.dir Y) (.cons (.dir Y) .nil))) (.f [0,1,2,3,9,10,12] ?_);refine aZ ?_;obtain⟨bs,ba,h⟩:=aA h;refine eM (.a 1 ?_);refine .k (aT Y Y (.VB sO (.VB sO (.VB sO sO))) BO Cf) (.k (dI (e:=Q4) Ol Cf EO Y Y Y Y (.cons (.dir Y) .nil)) (.t (bU 161 ba Y Y (.sl Y) Ol JN Cf Y Y Y Y Y) (.f [0,1,2,3,9,10] ?_)));refine aZ ?_;refine dQ [0,1,2,3,9,10] ?_;cases h;exact cF (aC [(134,161)])
      refine eM (.a 1 ?_);refine .k (kK (.inl Y) (by decide) Y Y) (.k (kK (.inr Y) (by decide) Y Y) (.f [0,1,2,3,9,10,12] ?_));refine aZ ?_;obtain⟨bu,bb,h⟩:=aA h;refine eM (.a 1 ?_);refine .k (aT Y Y (.VB sO (.VB sO (.VB sO sO))) BO Cf) (.k (dI (e:=Q4) Ol Cf EO Y Y Y Y (.cons (.dir Y) .nil)) (.t (bU 162 bb Y Y (.sl Y) Ol JN Cf Y Y Y Y Y) (.f [0,1,2,3,9,10] ?_)));refine aZ ?_;refine dQ [0,1,2,3,9,10] ?_;cases h;exact cF (aC [(134,162)])
     ·intro B;replace h:=iK B h;refine aF ?_;exact cC h (aC [])
     ·intro B;replace h:=iL B h;refine aL [0,1,2,3,9,10,11,12,32,68] ?_;refine aU h Y (fun ab h=>?_) (fun ab h=>?_)
      ·refine aF ?_;exact cC h (aC [])
      refine dQ [0,1,2,3,9,10,11,12,32,68] ?_;exact cC h (aC [])
    ·intro C;replace h:=iK C h;refine aF ?_;exact cC h (aC [])
    ·intro C;replace h:=iL C h;refine aL [0,1,2,3,9,10,11,12,32,63] ?_;refine aU h Y (fun ac h=>?_) (fun ac h=>?_)
     ·refine aF ?_;exact cC h (aC [])
     refine dQ [0,1,2,3,9,10,11,12,32,63] ?_;exact cC h (aC [])
   ·intro D;replace h:=iK D h;refine aF ?_;exact cC h (aC [])
   ·intro D;replace h:=iL D h;refine aL [0,1,2,3,9,10,11,12,32,58] ?_;refine aU h Y (fun ad h=>?_) (fun ad h=>?_)
    ·refine aF ?_;exact cC h (aC [])
    refine dQ [0,1,2,3,9,10,11,12,32,58] ?_;exact cC h (aC [])
  ·intro E;replace h:=iK E h;refine aF ?_;exact cC h (aC [])
  ·intro E;replace h:=iL E h;refine aL [0,1,2,3,9,10,11,12,32,38] ?_;refine aU h Y (fun ae h=>?_) (fun ae h=>?_)
   ·refine aF ?_;exact cC h (aC [])
   refine aL [0,1,2,3,9,10,11,12,32,38] ?_;refine aU h Y (fun af h=>?_) (fun af h=>?_)
   ·refine aF ?_;exact cC h (aC [])
   refine aL [0,1,2,3,9,10,11,12,32,38] ?_;refine aU h Y (fun ah h=>?_) (fun ah h=>?_)
   ·refine aF ?_;exact cC h (aC [])
   refine dQ [0,1,2,3,9,10,11,12,32,38] ?_;exact cC h (aC [])
 cases h;exact dC (dJ (aC []))
theorem Dp{a0 r}(h:rR a0=some r):
 VS Tryz.prog 158 [.v Q0 a0] (.WC [.v Q0 r.1,.v Q9 r.2]) []:=by
 refine VS.of Tryz.func158 Y Tryz.ntmps158 Y ?_;intro S w z;unfold rR at h;refine aL [0] ?_;refine aG ?_;refine aG ?_;obtain⟨C,u,h⟩:=aA h;refine eP (σ':=⟨[(0,.v Q0 a0),(9,.v Wr.bool C)],[]⟩) ?_ ?_
 ·refine cd u (fun A u=>?_) (fun A u=>?_)
  ·cases u;exact jy
  cases u;exact jy
 refine aU h Y (fun B h=>?_) (fun B h=>?_)
 ·refine aL [2,3] ?_;cases h;exact aH (bT z dS Y (RV.tmp Y) (RV.tmp Y) .nil Y)
 refine aF ?_;refine aL [2,3] ?_;cases h;exact aH (bT z dS Y (RV.tmp Y) (RV.tmp Y) .nil Y)
theorem Tc{a0 r}(h:xO a0=some r):
 VS Tryz.prog 159 [.v Q0 a0] (.WC [.v Q2 r.1,.v Q9 r.2]) []:=by
 refine VS.of Tryz.func159 Y Tryz.ntmps159 Y ?_;intro S w z;unfold xO at h;refine aI (.k (aN 101 Sz Y (.cons (Z.sl aO) (.cons (Z.sl gF) (.cons (Z.int .i64) .nil))) Y) (.f [0,2] ?_));refine aG ?_;refine aG ?_;obtain⟨C,u,h⟩:=aA h;refine eP (σ':=⟨[(0,.v Q0 a0),(2,.ptr 101 0),(9,.v Wr.bool C)],[(101,.box 186 [.v Q5 ([]:jO),.v Q1 ([]:Q6),.v Q0 (0:Int)])]⟩) ?_ ?_
 ·refine cd u (fun A u=>?_) (fun A u=>?_)
  ·cases u;exact jy
  cases u;exact jy
 refine aU h Y (fun B h=>?_) (fun B h=>?_)
 ·refine aI (.k (bR rH (.cons (Z.sl aO) (.cons (Z.sl gF) (.cons (Z.int .i64) .nil))) .nil) (.f [2,3] ?_));refine aH ?_;obtain rfl:=pT h;exact cB (σ':=⟨[(2,.ptr 90 0),(3,.v Q9 (some (1:Int)))],[(90,.box 186 [.v Q5 ([]:jO),.v Q1 ([]:Q6),.v Q0 (0:Int)])]⟩) (aC [(90,101)]) (bT z dS Y (aV Y Y (.VB sO (.VB sO sO)) sB lE) (RV.tmp Y) .nil Y)
 refine aF ?_;obtain⟨D,E,h⟩:=aA h;refine aI (.a 1 ?_);refine .k (Xb 102 E Y Y Jm Bq kP Y Y (Z.arr 8 (Z.int .u8))) (.k (bR rH (.cons (Z.sl aO) (.cons (Z.sl gF) (.cons (Z.int .i64) .nil))) (.cons Y (.dir Y) Y Y Y Y (.cons Y (.dir Y) Y Y Y Y .nil))) (.f [2,3] ?_));refine aH ?_;obtain rfl:=pT h;exact cB (σ':=⟨[(2,.ptr 90 0),(3,.v Q9 (none:Option Int))],[(90,.box 186 [.v Q5 D,.v Q1 ([]:Q6),.v Q0 (-1:Int)])]⟩) (aC [(90,101)]) (bT z dS Y (aV Y Y (.VB sO (.VB sO sO)) sB lE) (RV.tmp Y) .nil Y)
theorem Jo{a0 r}(h:rA a0=some r):
 VS Tryz.prog 100 [.v Q0 a0] (.WC [.v Q2 r.1,.v Q9 r.2]) []:=by
 refine VS.of Tryz.func100 Y Tryz.ntmps100 Y ?_;intro S w z;unfold rA at h;refine aI (.k (aN 101 Sz Y (.cons (Z.sl aO) (.cons (Z.sl gF) (.cons (Z.int .i64) .nil))) Y) (.f [0,2] ?_));obtain⟨B,C,h⟩:=aA h;refine aI (.a 1 ?_);refine .k (aM (Dp C) Tryz.call158 (.cons (.dir Y) .nil)) (.f [2,4,5] ?_);refine cV [2,4,5,12] ?_;refine aU h Y (fun A h=>?_) (fun A h=>?_)
 ·refine aI (.k (bR rH (.cons (Z.sl aO) (.cons (Z.sl gF) (.cons (Z.int .i64) .nil))) .nil) (.f [2,3] ?_));refine aH ?_;obtain rfl:=pT h;exact cB (σ':=⟨[(2,.ptr 90 0),(3,.v Q9 B.2)],[(90,.box 186 [.v Q5 ([]:jO),.v Q1 ([]:Q6),.v Q0 (0:Int)])]⟩) (aC [(90,101)]) (bT z dS Y (aV Y Y (.VB sO (.VB sO sO)) sB lE) (RV.tmp Y) .nil Y)
 refine aF ?_;obtain⟨u,D,h⟩:=aA h;refine aI (.a 1 ?_);refine .k (aM (Tc D) Tryz.call159 (.cons (.dir Y) .nil)) ?_;refine .a 2 ?_;refine .t (bX Y Y Y Y (.VB sO (.VB sO sO)) lE) (.f [2,3] ?_);refine aH ?_;obtain rfl:=pT h;exact cB (σ':=⟨[(2,.ptr 90 0),(3,.v Q9 u.2)],[(90,.box 186 [.v Q5 u.1.1,.v Q1 u.1.2.1,.v Q0 u.1.2.2])]⟩) (aC [(90,101)]) (bT z dS Y (aV Y Y (.VB sO (.VB sO sO)) sB lE) (RV.tmp Y) .nil Y)
theorem Jq{a0 a1 r}(h:lQ a0 a1=some r):
 VS Tryz.prog 204 [.v gF a0,.XR Q2 a1] (.v Wr.bool r) []:=by
 refine VS.of Tryz.func204 Y Tryz.ntmps204 Y ?_;intro S w A;unfold lQ at h;refine aI (.k (cJ 101 Y (.VB sO sO) Y) (.f [1,2] ?_));refine aG ?_;obtain⟨B,u,h⟩:=aA h;refine eP (σ':=⟨[(3,.v Wr.bool B)],[]⟩) ?_ ?_
 ·refine cd u (fun z u=>?_) (fun z u=>?_)
  ·cases u;exact jy
  cases u;refine ja 6 ?_;exact(J.g z (cG Y Kw Y yD Y (.fst .here) Y) jy)
 cases h;exact aH (aY A dS Y (RV.tmp Y) .nil Y)
theorem lZ{a0 XE r}(h:dL a0 XE=some r):
 VS Tryz.prog 247 [.v Q1 a0,.ZJ 204 [.XR Q2 XE]] (.v Q0 r) []:=by
 refine VS.of Tryz.func247 Y Tryz.ntmps247 Y ?_;intro S w u;unfold dL at h;refine aL [0,1] ?_;refine cV [0,1,7,8] ?_;obtain⟨L,F,G,H⟩:=cN h;refine jP (σs:=fun z:Int=>⟨[(0,.v Q1 a0),(1,.ZJ 204 [.XR Q2 XE]),(7,.v Q0 (a0.length:Int)),(8,.v Q0 z)],[]⟩) (fun A:Unit=>⟨[],[]⟩) F (aC []) ?_ ?_
 ·intro A B;have h:=G _ B;refine aL [4] ?_;cases h;exact aH (aY u dS Y (RV.tmp Y) .nil Y)
 intro z K h;refine aL [0,1,7,8,9] ?_;refine aG ?_;refine aU h Y (fun C h=>?_) (fun C h=>?_)
 ·refine aF ?_;refine aG ?_;refine bS ?_;refine aL [0,1,5,7,8] ?_;obtain⟨M,N,h⟩:=aA h;obtain⟨O,I,h⟩:=aA h;refine aI (.a 5 ?_);refine .k (tN Y (Jq I) Tryz.call204 (.cons (.dir Y) .nil)) (.f [0,1,5,7,8,16] ?_);refine aU h Y (fun D h=>?_) (fun D h=>?_)
  ·refine aL [4] ?_;refine aH ?_;refine eR ?_;cases h;refine hX fun E=>?_;obtain rfl:=H _ E;exact aY u dS Y (RV.tmp Y) .nil Y
  refine aF ?_;refine aZ ?_;refine dQ [0,1,7,8] ?_;cases h;exact cF (aC [])
 cases h;exact dC (dJ (aC []))
theorem kT{a0 XE r}(h:cH a0 XE=some r):
 VS Tryz.prog 203 [.v Q1 a0,.ZJ 204 [.XR Q2 XE]] (.v Wr.bool r) []:=by
 refine VS.of Tryz.func203 Y Tryz.ntmps203 Y ?_;intro S w u;unfold cH at h;refine aL [0,1] ?_;obtain⟨A,z,h⟩:=aA h;refine aI (.a 2 ?_);refine .k (aM (lZ z) Tryz.call247 (.cons (.dir Y) (.cons (.dir Y) .nil))) (.f [4] ?_);cases h;exact aH (aY u dS Y (RV.tmp Y) .nil Y)
theorem uP{a0 r}(h:mQ a0=some r):
 VS Tryz.prog 160 [.v Q2 a0] (.v Q9 r) []:=by
 refine VS.of Tryz.func160 Y Tryz.ntmps160 Y ?_;intro S w z;unfold mQ at h;refine aI (.k (cJ 101 Y (.VB sO (.VB sO sO)) Y) (.f [1] ?_));refine aG ?_;refine aG ?_;obtain⟨E,u,h⟩:=aA h;refine eP (σ':=⟨[(1,.ptr 101 0),(18,.v Wr.bool E)],[(101,.box 186 [.v Q5 a0.1,.v Q1 a0.2.1,.v Q0 a0.2.2])]⟩) ?_ ?_
 ·refine cd u (fun A u=>?_) (fun A u=>?_)
  ·cases u;exact jy
  refine cd u (fun B u=>?_) (fun B u=>?_)
  ·cases u;exact jy
  cases u;exact jy
 refine aU h Y (fun C h=>?_) (fun C h=>?_)
 ·refine aL [2] ?_;cases h;exact aH (aY z dS Y (RV.tmp Y) .nil Y)
 refine aF ?_;obtain⟨G,F,h⟩:=aA h;refine jM (.a 2 ?_);refine .k (tM (.cons (.dir Y) .nil)) (.k (rN (kT F) Tryz.call203 (.cons (.dir Y) (.cons (.aMu Y (.ptr Y (.VB sO (.VB sO sO)) .nil)) .nil)) XH.v) (.f [23] ?_));refine aU h Y (fun D h=>?_) (fun D h=>?_)
 ·refine aL [2] ?_;cases h;exact aH (aY z dS Y (RV.tmp Y) .nil Y)
 refine aF ?_;refine aL [2] ?_;cases h;exact aH (aY z dS Y (RV.tmp Y) .nil Y)
theorem qK{a0 r}(h:kB a0=some r):
 VS Tryz.prog 138 [.v (Wr.F8 aO) a0] (.ref 0) [(0,.arr 30 aO r)]:=by
 refine VS.of Tryz.func138 Y Tryz.ntmps138 Y ?_;intro S w u;unfold kB at h;refine aI (.k (aR 101 30 aO) (.f [0] ?_));refine jM (.a 1 ?_);refine .k (xH Y Jm) (.f [0,4] ?_);refine aU h Y (fun z h=>?_) (fun z h=>?_)
 ·refine aI (.k (aR 102 30 aO) (.f [2] ?_));cases h;exact aH (vW u dS Y (aC [(0,102)]))
 refine aF ?_;obtain⟨B,A,h⟩:=aA h;refine aI (.k (rL (e:=aO) 103 Jm kP Br Y Y Y Y .nil) ?_);refine .a 1 ?_;refine .t (bU 104 A Y Y (.F8 Y) Jm Bq kP Y Y Y Y Y) (.f [2] ?_);cases h;exact aH (vW u dS Y (aC [(0,104)]))
theorem cP{a0:jO}{r:jO}(h:aP a0=some r):
  VS Tryz.prog 138 [.v Q5 a0] (.ref 0) [(0,.arr 30 aO r)]:=
 rO fun b u=>qK (by cases b with | true=>rw[u rfl] at h ⊢;exact h | false=>exact Ee h)
theorem sU{a0 r}(h:fN a0=some r):
 VS Tryz.prog 181 [.v Q1 a0] (.ZJ 227 [.XR Q1 r]) []:=by
 refine VS.of Tryz.func181 Y Tryz.ntmps181 Y ?_;intro S w u;unfold fN at h;refine aI (.k (cJ 101 Y sO Y) (.k (eC Y) (.f [1] ?_)));refine aI (.k (tM (.cons (.dir Y) .nil)) (.f [2] ?_));refine aH ?_;obtain rfl:=pT h;exact cB (σ':=⟨[(2,.ZJ 227 [.XR Q1 a0])],[]⟩) (Sw.Sub.mk id (.cons Y (.ZJ (.cons (.y6 Y Y (.cons (.of_eq Y) .nil) sO) .nil)) .nil) .nil Y) (aY u dS Y (RV.tmp Y) .nil Y)
theorem QT{xs:List (Int×aQ)}(hlen:(xs.length:Int)<=4294967296):
 X8 Tryz.prog 227 [.XR Q1 xs] ((E4 xs).map fun c=>[.v Q0 c.1,.v gF c.2]):=by
  refine CF Tryz.func227 Y Tryz.ntmps227 Y ?_;intro S w ρ l Jp Jx b off I vb h1;have E:=CH hlen;refine aG ?_;refine eP (σ':=⟨[(0,.v (Wr.ZK (.func (.yield l) #[] #[]) Y) ()),(1,.v (Wr.cp b off Q1) xs),(3,.v Q0 ((xs.length:Int) - 1 - (0:Nat)))],[]⟩) (J.k (mJ Y EV Ii) (J.k (tD Y yE) (J.k (cU Y Y Y) (J.k (bP Y) (J.fin (kF (by rfl) (by exact(.cons Y (.cons Y (.cons (by rw[<-E];rfl) .nil)))))))))) ?_;refine bS ?_;refine Rp I (fun k=>[(0,.v (Wr.ZK (.func (.yield l) #[] #[]) Y) ()),(1,.v (Wr.cp b off Q1) xs),(3,.v Q0 ((xs.length:Int) - 1 - (k:Nat)))]) (fun k=>(.cons (@n7.flat _ _ ⟨fun h=>h⟩ _ _ _ _) (.cons h1 (.cons .flat .nil)))) (fun _ _ h=>h) vb ?_;intro k V C D;have u:((E4 xs).map fun c=>([.v Q0 c.1,.v gF c.2]:List Slot)).length=xs.length:=by rw[jx,CG]
  rw[u] at D;have F:=FV hlen D;refine aG (aG ?_);refine eP (σ':=⟨[(0,.v (Wr.ZK (.func (.yield l) #[] #[]) Y) ()),(1,.v (Wr.cp b off Q1) xs),(3,.v Q0 ((xs.length:Int) - 1 - (k:Nat))),(8,.v Wr.bool (cm .geq ((xs.length:Int) - 1 - (k:Nat)) 0))],[]⟩) (J.mv Y (J.k (jL Y Y Y) (J.fin (kF (by rfl) (by exact(.cons Y (.cons Y (.cons Y (.cons Y .nil))))))))) ?_;refine Fs Y (fun z=>?_) (fun z=>?_)
  ·refine aF ?_;have M:(xs.length:Int) - 1 - (k:Nat)>=0:=by simpa[cm] using z
   have B:k<xs.length:=by omega
   obtain⟨x,K,L⟩:=FU B;refine aG ?_;refine bS ?_;refine aG ?_;refine Mf (σ1:=⟨[(11,.v (Wr.ZK (.func (.yield l) #[] #[]) Y) ()),(12,.v Q0 ((xs.length:Int) - 1 - (k:Nat))),(16,.v gF x),(0,.v (Wr.ZK (.func (.yield l) #[] #[]) Y) ()),(1,.v (Wr.cp b off Q1) xs),(3,.v Q0 ((xs.length:Int) - 1 - (k:Nat)))],[]⟩) (g2:=[(0,.v (Wr.ZK (.func (.yield l) #[] #[]) Y) ()),(1,.v (Wr.cp b off Q1) xs),(3,.v Q0 ((xs.length:Int) - 1 - (k:Nat)))]) (pre:=[_,_,_,_,_,_]) I C (item:=[.v Q0 ((xs.length:Int) - 1 - (k:Nat)),.v gF x]) (by rw[ka,K];rfl)
    (J.cons (.none rfl) (aD rfl) rfl rfl (J.cons (.none rfl) (aD rfl) rfl rfl (J.cons (.none rfl) (mJ rfl EV Ii) rfl rfl (J.cons (.none rfl) (aD rfl) rfl rfl (J.cons (.none rfl) (gP L rfl rfl yE jS) rfl rfl (J.cons (.none rfl) (bO rfl Yx jS) rfl rfl (J.fin (kF (by rfl) (by exact(.cons rfl (.cons rfl (.cons rfl (.cons rfl (.cons rfl (.cons rfl .nil)))))))))))))))
    rfl (.cons (.dir rfl) (.cons (.dir rfl) .nil)) rfl rfl rfl rfl (.cons (@n7.flat _ _ ⟨fun h=>h⟩ _ _ _ _) (.cons h1 (.cons .flat .nil))) (.cons rfl (.cons rfl (.cons rfl .nil))) (fun A G=>?_) (fun A H=>?_)
   ·refine Ax rfl rfl (aF (aZ ?_));refine eP (σ':=⟨[(0,.v (Wr.ZK (.func (.yield l) #[] #[]) Y) ()),(1,.v (Wr.cp b off Q1) xs),(3,.v Q0 (ar .sub .i64 ((xs.length:Int) - 1 - (k:Nat)) 1))],[]⟩) (J.mv Y (J.k (cU Y Y Y) (J.k (bP Y) (J.fin (kF (by rfl) (by exact(.cons Y (.cons Y (.cons Y .nil))))))))) ?_;exact Rq I G (by rw[u];exact B) (by rw[F];exact fun _ _ h=>h)
   ·refine vM rfl rfl (aH (Rr (fn:=Tryz.f227) I rfl H fun a A h=>h))
  ·refine dC (Xj (fn:=Tryz.f227) I rfl C ?_ (fun a A h=>?_))
   ·have N:¬(xs.length:Int) - 1 - (k:Nat)>=0:=by simpa[cm] using z
    rw[u];omega
   ·simp only[Exit.inBlock,ZU];exact h
theorem qG{a0 a1 r}(h:iP a0 a1=some r):
 VS Tryz.prog 133 [.v Q2 a0,.v Q0 a1] (.WC [.v aO r.1,.v Q9 r.2]) []:=by
 refine VS.of Tryz.func133 Y Tryz.ntmps133 Y ?_;intro S w z;unfold iP at h;refine aI (.k (cJ 101 Y (.VB sO (.VB sO sO)) Y) (.k (cJ 102 Y sO Y) (.k (aN 103 Br Y (.cons (Z.arr 8 (Z.int .u8)) .nil) Y) (.k (aN 104 Tryz.zeroValue35 Y (.cons (Z.err ET) .nil) Y) (.f [2,3,4,5] ?_)))));obtain⟨P,Q,h⟩:=aA h;refine jM (.k (aT Y Y (.VB sO (.VB sO sO)) sB lE) (.k (aM (uP Q) NN (.cons (.dir Y) .nil)) (.f [2,3,4,5,6] ?_)));refine aL [2,3,4,5,6,12] ?_;refine aU h Y (fun I h=>?_) (fun I h=>?_)
 ·refine aI (.k (dE (e:=aO) (v:=aS) Bq vR I5 Y Y (Z.arr 8 (Z.int .u8))) (.f [4,5] ?_));refine aH ?_;obtain rfl:=pT h;exact cB (σ':=⟨[(4,.ptr 90 0),(5,.ptr 91 0)],[(91,.box 35 [.v Q9 P]),(90,.box 30 [.v aO aS])]⟩) (aC [(90,103),(91,104)]) (bT z dS Y (cL Y Y Y uO kP) (cL Y Y Y SN OO) .nil Y)
 refine aF ?_;refine aG ?_;refine aG ?_;obtain⟨T,B,h⟩:=aA h;refine eP (σ':=⟨[(2,.ptr 101 0),(3,.ptr 102 0),(4,.ptr 103 0),(5,.ptr 104 0),(23,.v Wr.bool T)],[(101,.box 186 [.v Q5 a0.1,.v Q1 a0.2.1,.v Q0 a0.2.2]),(102,.box 3 [.v Q0 a1]),(103,.box 30 [.v aO aS]),(104,.box 35 [.v Q9 (none:Option Int)])]⟩) ?_ ?_
 ·refine cd B (fun K B=>?_) (fun K B=>?_)
  ·cases B;exact jy
  cases B;exact jy
 refine aU h Y (fun M h=>?_) (fun M h=>?_)
 ·refine aI (.k (dE (e:=aO) (v:=aS) Bq vR I5 Y Y (Z.arr 8 (Z.int .u8))) (.f [4,5] ?_));refine aH ?_;obtain rfl:=pT h;exact cB (σ':=⟨[(4,.ptr 90 0),(5,.ptr 91 0)],[(91,.box 35 [.v Q9 (some (1:Int))]),(90,.box 30 [.v aO aS])]⟩) (aC [(90,103),(91,104)]) (bT z dS Y (cL Y Y Y uO kP) (cL Y Y Y SN OO) .nil Y)
 refine aF ?_;refine cV [2,3,4,5,28] ?_;refine aU h Y (fun N h=>?_) (fun N h=>?_)
 ·refine aI (.k (dE (e:=aO) (v:=aS) Bq vR I5 Y Y (Z.arr 8 (Z.int .u8))) (.f [4,5] ?_));refine aH ?_;obtain rfl:=pT h;exact cB (σ':=⟨[(4,.ptr 90 0),(5,.ptr 91 0)],[(91,.box 35 [.v Q9 (some (4:Int))]),(90,.box 30 [.v aO aS])]⟩) (aC [(90,103),(91,104)]) (bT z dS Y (cL Y Y Y uO kP) (cL Y Y Y SN OO) .nil Y)
 refine aF ?_;obtain⟨E,U,h⟩:=aA h;refine jM (.a 2 ?_);refine .k (aM (sU U) Tryz.call181 (.cons (.dir Y) .nil)) (.f [2,3,4,5,33] ?_);refine bS ?_;obtain⟨ad,V,h⟩:=aA h;obtain⟨o9,X,aa,ab⟩:=Rn h;refine Rm (g:=[(2,.ptr 101 0),(3,.ptr 102 0),(4,.ptr 103 0),(5,.ptr 104 0),(33,.ZJ 227 [.XR Q1 E])]) (ds0:=[(101,.box 186 [.v Q5 a0.1,.v Q1 a0.2.1,.v Q0 a0.2.2]),(102,.box 3 [.v Q0 a1]),(103,.box 30 [.v aO aS]),(104,.box 35 [.v Q9 (none:Option Int)])]) (L:=[101,102,103,104]) (fun A:(Int×(Int×aQ))=>[.v Q0 A.1,.v gF A.2]) (fun u (C:Unit)=>[(101,.box 186 [.v Q5 a0.1,.v Q1 a0.2.1,.v Q0 a0.2.2] (some (u 101))),(102,.box 3 [.v Q0 a1] (some (u 102))),(103,.box 30 [.v aO aS] (some (u 103))),(104,.box 35 [.v Q9 (none:Option Int)] (some (u 104)))]) (fun u (D:aQ)=>[(101,.box 186 [.v Q5 a0.1,.v Q1 a0.2.1,.v Q0 a0.2.2] (some (u 101))),(102,.box 3 [.v Q0 a1] (some (u 102))),(103,.box 30 [.v aO D] (some (u 103))),(104,.box 35 [.v Q9 (none:Option Int)] (some (u 104)))]) (fun u A C=>⟨[(2,.ptr 101 0),(3,.ptr 102 0),(4,.ptr 103 0),(5,.ptr 104 0),(8,.ptr 108 0),(33,.ZJ 227 [.XR Q1 E])],[(101,.box 186 [.v Q5 a0.1,.v Q1 a0.2.1,.v Q0 a0.2.2] (some (u 101))),(102,.box 3 [.v Q0 a1] (some (u 102))),(103,.box 30 [.v aO aS] (some (u 103))),(104,.box 35 [.v Q9 (none:Option Int)] (some (u 104))),(108,.box 214 [.v Q0 A.2.1,.v aO A.2.2])]⟩) z Y X (aC []) (fun _=>rfl) Y (QT (Fx V)) Tryz.call227 (fun _=>rfl) Y (fun _=>rfl) Y (fun _ _=>(.cons Y (.cons Y (.cons Y (.cons Y .nil))))) (fun _ _=>(.cons Y (.cons Y (.cons Y (.cons Y .nil))))) ?_ ?_ ?_ ?_
 ·intro u S w R l A C;refine eM (.k (aN 109 Ez Y (.cons (Z.int .i64) (.cons (Z.arr 8 (Z.int .u8)) .nil)) Y) (.t (bX Y Y Y Y (.VB sO sO) jS) (.f [2,3,4,5,8,33] ?_)));exact OY (aC [(108,109)])
 ·intro u S w R l A C r9 h;refine bS ?_;refine aL [2,3,4,5,8,33,39] ?_;refine aU h Y (fun O h=>?_) (fun O h=>?_)
  ·refine aI (.a 3 ?_);refine .t (It Y Y Y (.aMq ET) Y Y Y OO) (.f [2,3,4,5,33] ?_);refine aH ?_;refine eR ?_;cases h;exact FT (aC [])
  refine aF ?_;cases h;exact aZ (Ro (aC []))
 ·intro u ac F S w R G z;have h:=aa _ F;refine aZ ?_;obtain⟨kg,qw,h⟩:=aA h;refine aI (.a 6 ?_);refine .t (It Y Y Y (.aMq ET) Y Y Y OO) (.f [4,5] ?_);refine aH ?_;obtain rfl:=pT h;exact cB (σ':=⟨[(4,.ptr 90 0),(5,.ptr 91 0)],[(91,.box 35 [.v Q9 (none:Option Int)]),(90,.box 30 [.v aO kg])]⟩) (aC [(90,103),(91,104)]) (bT z dS Y (cL Y Y Y uO kP) (cL Y Y Y SN OO) .nil Y)
 ·intro u D H S w R G z;have h:=ab _ H;refine eR ?_;obtain rfl:=pT h;exact cB (σ':=⟨[(4,.ptr 90 0),(5,.ptr 91 0)],[(91,.box 35 [.v Q9 (none:Option Int)]),(90,.box 30 [.v aO D])]⟩) (aC [(90,103),(91,104)]) (bT z dS Y (cL Y Y Y uO kP) (cL Y Y Y SN OO) .nil Y)
theorem tA{a0 r}(h:gM a0=some r):
 VS Tryz.prog 210 [.v aO a0] (.v Q0 r) []:=by
 refine VS.of Tryz.func210 Y Tryz.ntmps210 Y ?_;intro S w C;unfold gM at h;refine aI (.k (cJ 101 Y sO Y) (.f [1] ?_));obtain⟨D,u,h⟩:=aA h;obtain⟨E,z,h⟩:=aA h;obtain⟨F,A,h⟩:=aA h;obtain⟨G,B,h⟩:=aA h;refine aI (.k (rK u Y Y Y Y vR S5) (.k (vA (dG u).2.2 Y Y Y G5 S5) (.k (by exact mH U5 U3 Y Y) (.k (by exact fA (.inl Y) (by decide) Y Y) (.k (by exact rK z Y Y Y Y vR S5) (.k (by exact vA (dG z).2.2 Y Y Y G5 S5) (.k (by exact mH U5 U3 Y Y) (.k (by exact fA (.inl Y) (by decide) Y Y) ?_))))))));refine .a 1 ?_;refine .k (rK A Y Y Y Y vR S5) (.k (vA (dG A).2.2 Y Y Y G5 S5) (.k (by exact mH U5 U3 Y Y) (.k (by exact fA (.inl Y) (by decide) Y Y) ?_)));refine .a 1 ?_;refine .k (rK B Y Y Y Y vR S5) (.k (vA (dG B).2.2 Y Y Y G5 S5) (.k (by exact mH U5 U3 Y Y) (.f [2] ?_)));cases h;exact aH (aY C dS Y (RV.tmp Y) .nil Y)
theorem sK{a0 r}(h:lR a0=some r):
 VS Tryz.prog 213 [.v (Wr.F8 gF) a0] (.ref 0) [(0,.arr 214 gF r)]:=by
 refine VS.of Tryz.func213 Y Tryz.ntmps213 Y ?_;intro S w u;unfold lR at h;refine aI (.k (aR 101 214 gF) (.f [0] ?_));refine jM (.a 1 ?_);refine .k (xH Y yE) (.f [0,4] ?_);refine aU h Y (fun z h=>?_) (fun z h=>?_)
 ·refine aI (.k (aR 102 214 gF) (.f [2] ?_));cases h;exact aH (vW u dS Y (aC [(0,102)]))
 refine aF ?_;obtain⟨B,A,h⟩:=aA h;refine aI (.k (rL (e:=gF) 103 yE jS Ez Y Y Y Y .nil) ?_);refine .a 1 ?_;refine .t (bU 104 A Y Y (.F8 Y) yE Ku jS Y Y Y Y Y) (.f [2] ?_);cases h;exact aH (vW u dS Y (aC [(0,104)]))
theorem eV{a0:Q6}{r:Q6}(h:bV a0=some r):
  VS Tryz.prog 213 [.v Q1 a0] (.ref 0) [(0,.arr 214 gF r)]:=
 rO fun b u=>sK (by cases b with | true=>rw[u rfl] at h ⊢;exact h | false=>exact Ee h)
theorem Dq{a0 r}(h:rS a0=some r):
 VS Tryz.prog 264 [.v Q2 a0] (.agg [.ref 0,.ref 1,.v Q0 r.2.2]) [(0,.arr 30 aO r.1),(1,.arr 214 gF r.2.1)]:=by
 refine VS.of Tryz.func264 Y Tryz.ntmps264 Y ?_;intro S w u;unfold rS at h;refine aI (.k (cJ 101 Y (.VB sO (.VB sO sO)) Y) (.k (aN 102 Sz Y (.cons (Z.sl aO) (.cons (Z.sl gF) (.cons (Z.int .i64) .nil))) Y) (.f [1,2] ?_)));refine aG ?_;obtain⟨z,A,h⟩:=aA h;obtain⟨B,C,h⟩:=aA h;refine dV 10 mixed (by exact(.k (aB 0 Y Kw Y yD Y Y) (.k (aJ Y Y Y Ti yD) (.k (fI 103000 (cP A) Yw (.cons (.dir Y) .nil) Y) (.k (aB 1 Y Kw Y Ii Y Y) (.k (aJ Y Y Y EV Ii) (.k (fI 104000 (eV C) JJ (.cons (.dir Y) .nil) Y) (.k (aB 0 Y Kw Y yD Y Y) (XF.store (.none Y) Y Y Y Y Y Y Y yD (.k (aB 1 Y Kw Y Ii Y Y) (XF.store (.none Y) Y Y Y Y Y Y Y Ii .nil))))))))))) (by exact(J.kp [1,2] [])) ?_;refine aI (.k (hC Y Y Y sB lE) (.f [2] ?_));refine aH ?_;obtain rfl:=pT h;exact cB (σ':=⟨[(2,.ptr 90 0)],[(90,.box 186 [.ref 0,.ref 1,.v Q0 a0.2.2]),(1,.arr 214 gF B),(0,.arr 30 aO z)]⟩) (aC [(90,102),(1,104000),(0,103000)]) (aY u dS Y (Fv Y Y Y sB lE) (.cons Y (.cons Y .nil)) Y)
theorem uW(A:Nat->Nat){VO VX fz r}(h:jF VO VX fz=some r):
 VG Tryz.prog 265 [.ptr 9000 0] [(9000,.box 186 [.ref 8950,.ref 8951,.v Q0 fz] (some (A 9000))),(8950,.arr 30 aO VO),(8951,.arr 214 gF VX)] (.v Q9 r.1) [(9000,.box 186 [.ref 8910,.ref 8911,.v Q0 r.2.2.2] (some (A 9000))),(8910,.arr 30 aO r.2.1),(8911,.arr 214 gF r.2.2.1)]:=by
 refine VG.of Tryz.func265 Y Tryz.ntmps265 Y ?_;intro S w R z;unfold jF at h;refine aL [0] ?_;refine cV [0,7] ?_;refine aU h Y (fun C h=>?_) (fun C h=>?_)
 ·refine aL [0,2] ?_;cases h;exact aH (eW z Y (aC [(8911,8951),(8910,8950)]))
 refine aF ?_;refine cV [0,13] ?_;obtain⟨D,E,h⟩:=fE h;refine tF (fun B:Int=>⟨[(0,.ptr 9000 0)],[(9000,.box 186 [.ref 8950,.ref 8951,.v Q0 B] (some (A 9000))),(8950,.arr 30 aO VO),(8951,.arr 214 gF VX)]⟩) (fun x=>D x=some r) Y ?_ ?_ ?_
 ·intro B h;rw[E] at h;refine aL [0,2] ?_;cases h;exact aH (eW z Y (aC [(8911,8951),(8910,8950)]))
 ·intro u;replace h:=iK u h;refine dQ [0] ?_;exact cC h (aC [])
 ·intro u;replace h:=iL u h;refine aF ?_;exact cC h (aC [])
theorem Nz{a0 a1 a2 r}(h:rT a0 a1 a2=some r):
 VS Tryz.prog 250 [.v Q2 a0,.v Q0 a1,.v aO a2] (.WC [.v Q2 r.1,.v Q9 r.2]) []:=by
 refine VS.of Tryz.func250 Y Tryz.ntmps250 Y ?_;intro S w u;unfold rT at h;refine aI (.k (cJ 101 Y (.VB sO (.VB sO sO)) Y) (.k (cJ 102 Y sO Y) (.k (aN 103 Sz Y (.cons (Z.sl aO) (.cons (Z.sl gF) (.cons (Z.int .i64) .nil))) Y) (.f [1,3,5,6] ?_))));obtain⟨H,I,h⟩:=aA h;refine jM (.k (aT Y Y (.VB sO (.VB sO sO)) sB lE) (.k (aM (uP I) NN (.cons (.dir Y) .nil)) (.f [1,3,5,6,8] ?_)));refine aL [1,3,5,6,8,13] ?_;refine aU h Y (fun C h=>?_) (fun C h=>?_)
 ·refine aI (.k (fH (new:=[(105,.arr 214 gF ([]:Q6))]) rH (.cons (Z.sl aO) (.ref 105 Y (.cons (Z.int .i64) .nil))) (.cons .nil) Y .nil) (.f [6,7] ?_));refine aH ?_;obtain rfl:=pT h;exact cB (σ':=⟨[(6,.ptr 90 0),(7,.v Q9 H)],[(90,.box 186 [.v Q5 ([]:jO),.v Q1 ([]:Q6),.v Q0 (0:Int)])]⟩) (aC [(90,103)]) (bT u dS Y (aV Y Y (.VB sO (.VB sO sO)) sB lE) (RV.tmp Y) .nil Y)
 refine aF ?_;refine aG ?_;refine aG ?_;obtain⟨K,z,h⟩:=aA h;refine eP (σ':=⟨[(1,.v Q0 a1),(3,.ptr 101 0),(5,.ptr 102 0),(6,.ptr 103 0),(24,.v Wr.bool K)],[(101,.box 186 [.v Q5 a0.1,.v Q1 a0.2.1,.v Q0 a0.2.2]),(102,.box 30 [.v aO a2]),(103,.box 186 [.v Q5 ([]:jO),.v Q1 ([]:Q6),.v Q0 (0:Int)])]⟩) ?_ ?_
 ·refine cd z (fun D z=>?_) (fun D z=>?_)
  ·cases z;exact jy
  cases z;exact jy
 refine aU h Y (fun E h=>?_) (fun E h=>?_)
 ·refine aI (.k (fH (new:=[(106,.arr 214 gF ([]:Q6))]) rH (.cons (Z.sl aO) (.ref 106 Y (.cons (Z.int .i64) .nil))) (.cons .nil) Y .nil) (.f [6,7] ?_));refine aH ?_;obtain rfl:=pT h;exact cB (σ':=⟨[(6,.ptr 90 0),(7,.v Q9 (some (1:Int)))],[(90,.box 186 [.v Q5 ([]:jO),.v Q1 ([]:Q6),.v Q0 (0:Int)])]⟩) (aC [(90,103)]) (bT u dS Y (aV Y Y (.VB sO (.VB sO sO)) sB lE) (RV.tmp Y) .nil Y)
 refine aF ?_;refine cV [1,3,5,6,30] ?_;refine aU h Y (fun F h=>?_) (fun F h=>?_)
 ·refine aI (.k (fH (new:=[(107,.arr 214 gF ([]:Q6))]) rH (.cons (Z.sl aO) (.ref 107 Y (.cons (Z.int .i64) .nil))) (.cons .nil) Y .nil) (.f [6,7] ?_));refine aH ?_;obtain rfl:=pT h;exact cB (σ':=⟨[(6,.ptr 90 0),(7,.v Q9 (some (2:Int)))],[(90,.box 186 [.v Q5 ([]:jO),.v Q1 ([]:Q6),.v Q0 (0:Int)])]⟩) (aC [(90,103)]) (bT u dS Y (aV Y Y (.VB sO (.VB sO sO)) sB lE) (RV.tmp Y) .nil Y)
 refine aF ?_;obtain⟨P,L,h⟩:=aA h;refine aI (.k (aT Y Y (.VB sO (.VB sO sO)) sB lE) (.k (fI 108000 (Dq L) Tryz.call264 (.cons (.dir Y) .nil) Y) (.f [1,3,5,6] ?_)));obtain⟨B,M,h⟩:=aA h;refine jM (.t (eQ [101,108000,108001] (Bu [(9000,101),(8950,108000),(8951,108001),(8910,109),(8911,110)]) (eO _) (fun A=>uW A M) Tryz.call265 (fun A=>(.box Y (.arr (.arr .nil Y) Y) Y))) (.f [1,3,5,6,9] ?_));refine aL [1,3,5,6,9,37] ?_;refine aU h Y (fun G h=>?_) (fun G h=>?_)
 ·refine aI (.k (fH (new:=[(111,.arr 214 gF ([]:Q6))]) rH (.cons (Z.sl aO) (.ref 111 Y (.cons (Z.int .i64) .nil))) (.cons .nil) Y .nil) (.f [6,7] ?_));refine aH ?_;obtain rfl:=pT h;exact cB (σ':=⟨[(6,.ptr 90 0),(7,.v Q9 B.1)],[(90,.box 186 [.v Q5 ([]:jO),.v Q1 ([]:Q6),.v Q0 (0:Int)])]⟩) (aC [(90,103)]) (bT u dS Y (aV Y Y (.VB sO (.VB sO sO)) sB lE) (RV.tmp Y) .nil Y)
 refine aF ?_;obtain⟨N,O,h⟩:=aA h;refine aI (.a 4 ?_);refine .k (bR wA (.cons (Z.int .i64) (.cons (Z.arr 8 (Z.int .u8)) .nil)) (.cons Y (.dir Y) Y Y Y Y (.cons Y (.dir Y) Y Y Y Y .nil))) (.k (dI (e:=gF) yE jS Ez Y Y Y Y (.cons (.agg Y (.same (.same .nil)) (.VB sO sO) Y) .nil)) (.t (bU 112 O Y Y (.sl Y) yE Ku jS Y Y Y Y Y) (.f [3,6] ?_)));refine aI (.k (hC Y Y Y sB lE) (.f [6,7] ?_));refine aH ?_;obtain rfl:=pT h;exact cB (σ':=⟨[(6,.ptr 90 0),(7,.v Q9 (none:Option Int))],[(90,.box 186 [.v Q5 B.2.1,.v Q1 N,.v Q0 B.2.2.2])]⟩) (aC [(90,103)]) (bT u dS Y (aV Y Y (.VB sO (.VB sO sO)) sB lE) (RV.tmp Y) .nil Y)
theorem iH(A:Nat->Nat){VO VX a1 a2 r}(h:dW VO VX a1 a2=some r):
 VG Tryz.prog 215 [.ptr 9000 0,.v Q0 a1,.v aO a2] [(9000,.box 188 [.v Q0 VO,.v Q2 VX] (some (A 9000)))] (.v Q9 r.1) [(9000,.box 188 [.v Q0 r.2.1,.v Q2 r.2.2] (some (A 9000)))]:=by
 refine VG.of Tryz.func215 Y Tryz.ntmps215 Y ?_;intro S w R B;unfold dW at h;refine aI (.k (cJ 101 Y sO Y) (.f [0,1,5] ?_));refine aG ?_;obtain⟨C,D,h⟩:=aA h;refine dV 13 mixed (by exact(.k (aD Y) (.k (aK Y) (.k (aB 1 Y wH Y lE Y Y) (.k (aJ Y Y Y sB lE) (.k (aD Y) (.k (aJ Y Y Y uO kP) (.k (aM (Nz D) Tryz.call250 (.cons (.dir Y) (.cons (.dir Y) (.cons (.dir Y) .nil)))) (.k (aD Y) (.k (bW Y Y) (.k (bW Y Y) (.k (aN 103 Sz Y (.cons (Z.sl aO) (.cons (Z.sl gF) (.cons (Z.int .i64) .nil))) Y) (XF.storeAll (.none Y) Y Y Y Y (.VB sO (.VB sO sO)) lE (.k (bP Y) .nil)))))))))))))) (by exact(J.kp [0,7,8] [])) ?_;refine jM (.a 1 ?_);refine .k (iN Oz Y) (.f [0,7,8,20] ?_);obtain⟨E,F,h⟩:=fE h;refine tF (fun z:Cu=>⟨[(0,.ptr 9000 0),(8,.v Q9 C.2)],[(9000,.box 188 [.v Q0 VO,.v Q2 z] (some (A 9000)))]⟩) (fun x=>E x=some r) Y ?_ ?_ ?_
 ·intro z h;rw[F] at h;refine aL [0,6] ?_;cases h;exact aH (eK B Y (RV.tmp Y) (.cons Y .nil))
 ·intro u;replace h:=iK u h;refine eM (.a 1 ?_);refine .k (aT Y Y (.VB sO (.VB sO sO)) sB lE) (.f [0,8] ?_);exact cC h (aC [])
 ·intro u;replace h:=iL u h;refine aF ?_;exact cC h (aC [])
theorem sV(A:Nat->Nat){VO VX r}(h:gQ VO VX=some r):
 VG Tryz.prog 206 [.ptr 9000 0] [(9000,.box 188 [.v Q0 VO,.v Q2 VX] (some (A 9000))),(9100,.box 74 [.ptr 9000 0] (some (A 9100)))] (.v Q9 r.1) [(9000,.box 188 [.v Q0 r.2.1,.v Q2 r.2.2] (some (A 9000))),(9100,.box 74 [.ptr 9000 0] (some (A 9100)))]:=by
 refine VG.of Tryz.func206 Y Tryz.ntmps206 Y ?_;intro S w R G;unfold gQ at h;refine aL [0] ?_;refine aG ?_;obtain⟨E,M,h⟩:=aA h;refine dV 16 mixed (by exact(.k (aD Y) (.k (aK Y) (.k (aB 1 Y wH Y lE Y Y) (.k (aJ Y Y Y sB lE) (.k (aD Y) (.k (aK Y) (.k (aB 0 Y wH Y S3 Y Y) (.k (aJ Y Y Y G3 S3) (.k (cU Y Y Y) (.k (aM (qG M) EG (.cons (.dir Y) (.cons (.dir Y) .nil))) (.k (aD Y) (.k (bW Y Y) (.k (bW Y Y) (.k (aN 102 Br Y (.cons (Z.arr 8 (Z.int .u8)) .nil) Y) (XF.store (.none Y) Y Y Y Y Y Y Y kP (.k (bP Y) .nil))))))))))))))))) (by exact(J.kp [0,3,4] [])) ?_;refine cV [0,3,4,5] ?_;obtain⟨ad,N,O,ae⟩:=cN h;refine jP (σs:=fun u:(Option Int)×Int×Int×Cu=>⟨[(0,.ptr 9000 0),(3,.ptr 102 0),(4,.v Q9 u.1),(5,.v Q0 u.2.1)],[(9000,.box 188 [.v Q0 u.2.2.1,.v Q2 u.2.2.2] (some (A 9000))),(102,.box 30 [.v aO E.1]),(9100,.box 74 [.ptr 9000 0] (some (A 9100)))]⟩) (fun B:(Option Int)×Int×Cu=>⟨[(0,.ptr 9000 0),(4,.v Q9 B.1)],[(9000,.box 188 [.v Q0 B.2.1,.v Q2 B.2.2] (some (A 9000))),(9100,.box 74 [.ptr 9000 0] (some (A 9100)))]⟩) N (aC []) ?_ ?_
 ·intro B H;have h:=O _ H;refine aL [0,2] ?_;cases h;exact aH (eK G Y (RV.tmp Y) (.cons Y (.cons Y .nil)))
 intro u I h;refine aG ?_;refine aG ?_;obtain⟨P,z,h⟩:=aA h;refine eP (σ':=⟨[(0,.ptr 9000 0),(3,.ptr 102 0),(4,.v Q9 u.1),(5,.v Q0 u.2.1),(28,.v Wr.bool P)],[(9000,.box 188 [.v Q0 u.2.2.1,.v Q2 u.2.2.2] (some (A 9000))),(102,.box 30 [.v aO E.1]),(9100,.box 74 [.ptr 9000 0] (some (A 9100)))]⟩) ?_ ?_
 ·refine cd z (fun F z=>?_) (fun F z=>?_)
  ·obtain⟨af,Q,z⟩:=aA z;cases z;refine ja 1 ?_;refine(J.k (iN Oz Y) ?_);refine ja 3 ?_;exact(J.g F (aM (tA Q) NP (.cons (.dir Y) .nil)) jy)
  cases z;refine ja 1 ?_;exact(J.k (iN Oz Y) jy)
 refine aU h Y (fun K h=>?_) (fun K h=>?_)
 ·refine aF ?_;refine aG ?_;refine bS ?_;refine aI (.k (aN 129 Br Y (.cons (Z.arr 8 (Z.int .u8)) .nil) Y) (.k (aN 130 Br Y (.cons (Z.arr 8 (Z.int .u8)) .nil) Y) (.f [0,3,5,6,7] ?_)));refine aG ?_;refine aG ?_;obtain⟨T,U,h⟩:=aA h;refine dV 18 mixed (by exact(.k (aD Y) (.k (aK Y) (.k (aB 1 Y wH Y lE Y Y) (.k (aJ Y Y Y sB lE) (.k (aD Y) (.k (aK Y) (.k (aB 0 Y wH Y S3 Y Y) (.k (aJ Y Y Y G3 S3) (.k (cU Y Y Y) (.k (aD Y) (.k (cU Y Y Y) (.k (cU Y Y Y) (.k (aM (qG U) EG (.cons (.dir Y) (.cons (.dir Y) .nil))) (.k (aD Y) (.k (bW Y Y) (.k (bW Y Y) (XF.store (.none Y) Y Y Y Y Y Y Y kP (.k (bP Y) .nil))))))))))))))))))) (by exact(J.kp [0,3,4,5,6,7] [])) ?_;refine aI (.a 1 ?_);refine .k (iN Oz Y) (.f [0,3,4,5,6,7,48] ?_);obtain⟨V,X,h⟩:=fE h;refine tF (fun C:(Option Int)×aQ=>⟨[(0,.ptr 9000 0),(3,.ptr 102 0),(4,.v Q9 C.1),(5,.v Q0 u.2.1),(6,.ptr 129 0),(7,.ptr 130 0)],[(9000,.box 188 [.v Q0 u.2.2.1,.v Q2 u.2.2.2] (some (A 9000))),(102,.box 30 [.v aO E.1]),(129,.box 30 [.v aO T.1]),(130,.box 30 [.v aO C.2]),(9100,.box 74 [.ptr 9000 0] (some (A 9100)))]⟩) (fun x=>V x=some I) Y ?_ ?_ ?_
  ·intro C h;rw[X] at h;refine aI (.a 1 ?_);refine .k (iN Oz Y) (.f [0,3,4,5,6,7,66] ?_);refine aU h Y (fun L h=>?_) (fun L h=>?_)
   ·obtain⟨ah,aa,h⟩:=aA h;obtain⟨ai,ab,h⟩:=aA h;refine dV 4 mixed (by exact(.k (aD Y) (.k (aJ Y Y Y uO kP) (.k (aM (tA aa) NP (.cons (.dir Y) .nil)) (.k (aJ Y Y Y uO kP) .nil))))) (by exact(J.t (eQ [9000] (Bu [(9000,9000)]) (eO _) (fun A=>iH A ab) JK (fun A=>(.box Y .nil Y))) (jz [0,3,4,5]))) ?_;refine aZ ?_;refine dQ [0,3,4,5] ?_;cases h;exact cF (aC [])
   refine aF ?_;refine aZ ?_;refine dQ [0,3,4,5] ?_;cases h;exact cF (aC [])
  ·intro D;replace h:=iK D h;obtain⟨aj,ac,h⟩:=aA h;refine dV 18 mixed (by exact(.k (aD Y) (.k (aK Y) (.k (aB 1 Y wH Y lE Y Y) (.k (aJ Y Y Y sB lE) (.k (aD Y) (.k (aK Y) (.k (aB 0 Y wH Y S3 Y Y) (.k (aJ Y Y Y G3 S3) (.k (cU Y Y Y) (.k (aD Y) (.k (cU Y Y Y) (.k (cU Y Y Y) (.k (aM (qG ac) EG (.cons (.dir Y) (.cons (.dir Y) .nil))) (.k (aD Y) (.k (bW Y Y) (.k (bW Y Y) (XF.store (.none Y) Y Y Y Y Y Y Y kP (.k (bP Y) .nil))))))))))))))))))) (by exact(J.kp [0,3,4,5,6,7] [])) ?_;exact cC h (aC [])
  ·intro D;replace h:=iL D h;refine aF ?_;exact cC h (aC [])
 cases h;exact dC (dJ (aC []))
theorem Oa{a0 r}(h:rU a0=some r):
 VS Tryz.prog 248 [.v Q2 a0] (.WC [.v Q2 r.1,.v Q9 r.2]) []:=by
 refine VS.of Tryz.func248 Y Tryz.ntmps248 Y ?_;intro S w z;unfold rU at h;refine aI (.k (cJ 101 Y (.VB sO (.VB sO sO)) Y) (.k (aN 102 Sz Y (.cons (Z.sl aO) (.cons (Z.sl gF) (.cons (Z.int .i64) .nil))) Y) (.f [1,2] ?_)));obtain⟨K,L,h⟩:=aA h;refine jM (.k (aT Y Y (.VB sO (.VB sO sO)) sB lE) (.k (aM (uP L) NN (.cons (.dir Y) .nil)) (.f [1,2,4] ?_)));refine aL [1,2,4,11] ?_;refine aU h Y (fun G h=>?_) (fun G h=>?_)
 ·refine aI (.k (bR rH (.cons (Z.sl aO) (.cons (Z.sl gF) (.cons (Z.int .i64) .nil))) .nil) (.f [2,3] ?_));refine aH ?_;obtain rfl:=pT h;exact cB (σ':=⟨[(2,.ptr 90 0),(3,.v Q9 K)],[(90,.box 186 [.v Q5 ([]:jO),.v Q1 ([]:Q6),.v Q0 (0:Int)])]⟩) (aC [(90,102)]) (bT z dS Y (aV Y Y (.VB sO (.VB sO sO)) sB lE) (RV.tmp Y) .nil Y)
 refine aF ?_;obtain⟨R,M,h⟩:=aA h;refine aI (.k (aT Y Y (.VB sO (.VB sO sO)) sB lE) (.k (fI 104000 (Dq M) Tryz.call264 (.cons (.dir Y) .nil) Y) (.f [1,2] ?_)));obtain⟨u,N,h⟩:=aA h;refine jM (.t (eQ [101,104000,104001] (Bu [(9000,101),(8950,104000),(8951,104001),(8910,105),(8911,106)]) (eO _) (fun A=>uW A N) Tryz.call265 (fun A=>(.box Y (.arr (.arr .nil Y) Y) Y))) (.f [1,2,5] ?_));refine aL [1,2,5,18] ?_;refine aU h Y (fun H h=>?_) (fun H h=>?_)
 ·refine aI (.k (bR rH (.cons (Z.sl aO) (.cons (Z.sl gF) (.cons (Z.int .i64) .nil))) .nil) (.f [2,3] ?_));refine aH ?_;obtain rfl:=pT h;exact cB (σ':=⟨[(2,.ptr 90 0),(3,.v Q9 u.1)],[(90,.box 186 [.v Q5 ([]:jO),.v Q1 ([]:Q6),.v Q0 (0:Int)])]⟩) (aC [(90,102)]) (bT z dS Y (aV Y Y (.VB sO (.VB sO sO)) sB lE) (RV.tmp Y) .nil Y)
 refine aF ?_;refine cV [1,2,22,23,24] ?_;obtain⟨T,O,P,U⟩:=cN h;refine jP (σs:=fun C:Int×jO=>⟨[(1,.ptr 101 0),(2,.ptr 102 0),(22,.ref 106),(23,.v Q0 (u.2.2.1.length:Int)),(24,.v Q0 C.1)],[(101,.box 186 [.ref 105,.ref 106,.v Q0 u.2.2.2]),(102,.box 186 [.v Q5 ([]:jO),.v Q1 ([]:Q6),.v Q0 (0:Int)]),(106,.arr 214 gF u.2.2.1),(105,.arr 30 aO C.2)]⟩) (fun B:jO=>⟨[(1,.ptr 101 0),(2,.ptr 102 0)],[(101,.box 186 [.ref 105,.ref 106,.v Q0 u.2.2.2]),(102,.box 186 [.v Q5 ([]:jO),.v Q1 ([]:Q6),.v Q0 (0:Int)]),(105,.arr 30 aO B),(106,.arr 214 gF u.2.2.1)]⟩) O (aC []) ?_ ?_
 ·intro B F;have h:=P _ F;refine aI (.a 1 ?_);refine .t (uE 111 214 gF Y Y Y Y Ii Y) (.f [1,2] ?_);refine aI (.k (hC Y Y Y sB lE) (.f [2,3] ?_));refine aH ?_;obtain rfl:=pT h;exact cB (σ':=⟨[(2,.ptr 90 0),(3,.v Q9 (none:Option Int))],[(90,.box 186 [.v Q5 B,.v Q1 ([]:Q6),.v Q0 u.2.2.2])]⟩) (aC [(90,102)]) (bT z dS Y (aV Y Y (.VB sO (.VB sO sO)) sB lE) (RV.tmp Y) .nil Y)
 intro C Q h;refine aL [1,2,22,23,24,25] ?_;refine aG ?_;refine aU h Y (fun I h=>?_) (fun I h=>?_)
 ·refine aF ?_;refine aG ?_;refine bS ?_;obtain⟨V,D,h⟩:=aA h;refine aI (.k (iW D Y Y Y yE jS) (.k (jR (dG D).2.2 Y Y .here Yx jS) (.k (aN 110 Ez Y (.cons (Z.int .i64) (.cons (Z.arr 8 (Z.int .u8)) .nil)) Y) (.t (bX Y Y Y Y (.VB sO sO) jS) (.f [1,2,7,22,23,24] ?_)))));obtain⟨X,E,h⟩:=aA h;refine eM (.a 6 ?_);refine .k (iW E Y Y Y Jm kP) (.t (qY (dG E).2.2 Y Y Y kP) (.f [1,2,22,23,24] ?_));refine aZ ?_;refine dQ [1,2,22,23,24] ?_;cases h;exact cF (aC [])
 cases h;exact dC (dJ (aC []))
theorem jZ(A:Nat->Nat){VO VX r}(h:eS VO VX=some r):
 VG Tryz.prog 207 [.ptr 9000 0] [(9000,.box 188 [.v Q0 VO,.v Q2 VX] (some (A 9000))),(9100,.box 74 [.ptr 9000 0] (some (A 9100)))] (.v Q9 r.1) [(9000,.box 188 [.v Q0 r.2.1,.v Q2 r.2.2] (some (A 9000))),(9100,.box 74 [.ptr 9000 0] (some (A 9100)))]:=by
 refine VG.of Tryz.func207 Y Tryz.ntmps207 Y ?_;intro S w R B;unfold eS at h;refine aL [0] ?_;obtain⟨C,D,h⟩:=aA h;refine aI (.a 4 ?_);refine .k (aM (Oa D) Tryz.call248 (.cons (.dir Y) .nil)) ?_;refine .a 3 ?_;refine .k (aN 102 Sz Y (.cons (Z.sl aO) (.cons (Z.sl gF) (.cons (Z.int .i64) .nil))) Y) (.t (bX Y Y Y Y (.VB sO (.VB sO sO)) lE) (.f [0,3,4] ?_));refine jM (.a 1 ?_);refine .k (iN Oz Y) (.f [0,3,4,14] ?_);obtain⟨E,F,h⟩:=fE h;refine tF (fun z:Cu=>⟨[(0,.ptr 9000 0),(4,.v Q9 C.2)],[(9000,.box 188 [.v Q0 VO,.v Q2 z] (some (A 9000))),(9100,.box 74 [.ptr 9000 0] (some (A 9100)))]⟩) (fun x=>E x=some r) Y ?_ ?_ ?_
 ·intro z h;rw[F] at h;refine aL [0,2] ?_;cases h;exact aH (eK B Y (RV.tmp Y) (.cons Y (.cons Y .nil)))
 ·intro u;replace h:=iK u h;refine eM (.a 1 ?_);refine .k (aT Y Y (.VB sO (.VB sO sO)) sB lE) (.f [0,4] ?_);exact cC h (aC [])
 ·intro u;replace h:=iL u h;refine aF ?_;exact cC h (aC [])
theorem yF(A:Nat->Nat){a1 X5 dg r}(h:iQ a1 X5 dg=some r):
 VG Tryz.prog 249 [.ptr 9100 0,.XR (Wr.int .u8) a1] [(9000,.box 188 [.v Q0 X5,.v Q2 dg] (some (A 9000))),(9100,.box 74 [.ptr 9000 0] (some (A 9100)))] (.v Q9 r.1) [(9000,.box 188 [.v Q0 r.2.1,.v Q2 r.2.2] (some (A 9000))),(9100,.box 74 [.ptr 9000 0] (some (A 9100)))]:=by
 refine VG.of Tryz.func249 Y Tryz.ntmps249 Y ?_;intro S w R u;unfold iQ at h;refine aL [0,1] ?_;refine aG ?_;obtain⟨B,z,h⟩:=aA h;refine dV 8 mixed (by exact(.k (aJ Y Y Y Nu Ih) (.k (aJ Y Y Y Nu Ih) (.k (aK Y) (.k (aB 0 Y wH Y S3 Y Y) (.k (aJ Y Y Y G3 S3) (.k (cU Y Y Y) (.k (bO Y G5 S5) (.k (Mj (e:=(Wr.int .u8)) (zv:=(0:Int)) Bq vR I5 Y Y (Z.arr 8 (Z.int .u8)) Y Y (.cons (.dir Y) .nil)) .nil))))))))) (by exact(J.t (eQ [9000] (Bu [(9000,9000)]) (eO _) (fun A=>iH A z) JK (fun A=>(.box Y .nil Y))) (jz [0,2]))) ?_;cases h;exact aH (eK u Y (RV.tmp Y) (.cons Y (.cons Y .nil)))
theorem zG(A:Nat->Nat){q n0 n1 r}(h:lC q n0 n1=some r):
 VK Tryz.prog [(9000,A 9000),(9100,A 9100)] (iC (A 9000) (A 9100)) q [(9000,.box 188 [.v Q0 n0,.v Q2 n1] (some (A 9000))),(9100,.box 74 [.ptr 9000 0] (some (A 9100)))] (.v Q9 r.1) [(9000,.box 188 [.v Q0 r.2.1,.v Q2 r.2.2] (some (A 9000))),(9100,.box 74 [.ptr 9000 0] (some (A 9100)))]:=by
 unfold lC at h;rcases q with z | z
 ·exact(VK.l (VK.K1 .nil (.pr (.l7 (i:=9100) (by simp)) .pt) Tryz.call249 (yF A h)))
 ·exact(VK.r (VK.K1 (.l7 (i:=9000) (by simp)) .nil NO (jZ A h)))
theorem tX(A:Nat->Nat){a0 XE c9 r}(h:gG a0 XE c9=some r):
 VG Tryz.prog 205 [.v (Wr.sl (iC (A 9000) (A 9100))) a0] [(9000,.box 188 [.v Q0 XE,.v Q2 c9] (some (A 9000))),(9100,.box 74 [.ptr 9000 0] (some (A 9100)))] (.v Q9 r.1) [(9000,.box 188 [.v Q0 r.2.1,.v Q2 r.2.2] (some (A 9000))),(9100,.box 74 [.ptr 9000 0] (some (A 9100)))]:=by
 refine VG.of Tryz.func205 Y Tryz.ntmps205 Y ?_;intro S w R B;unfold gG at h;refine aL [0] ?_;refine cV [6,7,8] ?_;obtain⟨P,I,L,M⟩:=cN h;refine jP (σs:=fun u:Int×Int×Cu=>⟨[(6,.v (Wr.sl (iC (A 9000) (A 9100))) a0),(7,.v Q0 (a0.length:Int)),(8,.v Q0 u.1)],[(9000,.box 188 [.v Q0 u.2.1,.v Q2 u.2.2] (some (A 9000))),(9100,.box 74 [.ptr 9000 0] (some (A 9100)))]⟩) (fun z:Int×Cu=>⟨[],[(9000,.box 188 [.v Q0 z.1,.v Q2 z.2] (some (A 9000))),(9100,.box 74 [.ptr 9000 0] (some (A 9100)))]⟩) I (aC []) ?_ ?_
 ·intro z C;have h:=L _ C;refine aL [2] ?_;cases h;exact aH (eK B Y (RV.tmp Y) (.cons Y (.cons Y .nil)))
 intro u O h;refine aL [6,7,8,9] ?_;refine aG ?_;refine aU h Y (fun D h=>?_) (fun D h=>?_)
 ·refine aF ?_;refine aG ?_;refine bS ?_;obtain⟨Q,T,h⟩:=aA h;refine aL [4,6,7,8] ?_;obtain⟨U,N,h⟩:=aA h;refine aI (.a 1 ?_);refine .t (Mn (H:=[9000,9100]) (K:=[9000,9100]) [(9000,A 9000),(9100,A 9100)] (Bu [(9000,9000),(9100,9100)]) (eO _) Y ⟨⟨_,_,Y⟩,⟨_,_,Y⟩,trivial⟩ (VK.at2 (e:=iC) (A 9000) (A 9100) (fun E=>zG E N)) (fun _=> .box Y (.box Y .nil)) (fun _=> .box Y (.box Y .nil Y) Y) (fun _=>rfl) Y Y (fun _=>rfl) Y Y) (.f [5,6,7,8] ?_);refine aL [5,6,7,8,15] ?_;refine aU h Y (fun F h=>?_) (fun F h=>?_)
  ·refine aL [2] ?_;refine aH ?_;refine eR ?_;cases h;refine hX fun G=>?_;obtain rfl:=M _ G;exact eK B Y (RV.tmp Y) (.cons Y (.cons Y .nil))
  refine aF ?_;refine aZ ?_;refine dQ [6,7,8] ?_;cases h;exact cF (aC [])
 cases h;exact dC (dJ (aC []))
theorem oM(A:Nat->Nat){VO VX a1 r}(h:fR VO VX a1=some r):
 VG Tryz.prog 209 [.ptr 9000 0,.v (Wr.int .u8) a1] [(9000,.box 188 [.v Q0 VO,.v Q2 VX] (some (A 9000)))] (.v Q9 r.1) [(9000,.box 188 [.v Q0 r.2.1,.v Q2 r.2.2] (some (A 9000)))]:=by
 refine VG.of Tryz.func209 Y Tryz.ntmps209 Y ?_;intro S w R z;unfold fR at h;refine aI (.k (Ix 101 Y Y) (.k (cJ 102 Y sO Y) (.f [0,2,3] ?_)));refine AE (i:=101) Y fun u=>?_;refine wL (σ':=⟨[(0,.ptr 9000 0),(2,.ptr 101 0),(3,.ptr 102 0)],[(9000,.box 188 [.v Q0 VO,.v Q2 VX] (some (A 9000))),(101,.box 74 [.ptr 9000 0] (some (u))),(102,.box 5 [.v (Wr.int .u8) a1])]⟩) (aC []) ?_;obtain⟨F,E,h⟩:=aA h;refine aI (.sub (σ':=⟨[(0,.ptr 9000 0),(2,.ptr 101 0),(3,.XR (Wr.int .u8) a1)],[(9000,.box 188 [.v Q0 VO,.v Q2 VX] (some (A 9000))),(101,.box 74 [.ptr 9000 0] (some (u)))]⟩) (Sw.Sub.mk id (.cons Y (.of_eq Y) (.cons Y (.of_eq Y) (.cons Y (.y6 Y Y (.cons (.of_eq Y) .nil) sO) .nil))) (.box Y (.cons (.of_eq Y) (.cons (.of_eq Y) .nil)) (.box Y (.cons (.of_eq Y) .nil) .nil)) Y) (.k (nW .nil (.cons (.l7 Y Y) (.XR Y)) (.l .self)) (.k (aJ Y Y Y Nu Ih) (.k (nW (.l7 Y Y) .nil (.r .self)) (.k (dI (e:=(iC (A 9000) (u))) Wl OR SY Y Y Y Y (.cons (.dir Y) (.cons (.dir Y) .nil))) (.t (Iy (H:=[9000,101]) (K:=[9000,101]) [(9000,A 9000),(9100,u)] (Bu [(9000,9000),(9100,101)]) (eO _) ⟨⟨_,_,Y⟩,⟨_,_,Y⟩,trivial⟩ (VG.at2 (ss:=fun B C=>[.v (Wr.sl (iC B C)) ([(.inl ((),((),a1)):dH),(.inr ((),()):dH)]:(List dH))]) (A 9000) u (fun D=>tX D E)) Tryz.call205 (.cons (.dir Y) .nil) (fun _=> .box Y (.box Y .nil)) (fun _=> .box Y (.box Y .nil Y) Y) (fun _=>rfl) Y Y (fun _=>rfl) Y Y) (.f [0,4] ?_)))))));cases h;exact aH (eK z Y (RV.tmp Y) (.cons Y .nil))
theorem wZ(A:Nat->Nat){XE c9 r}(h:mF XE c9=some r):
 VG Tryz.prog 208 [.ptr 9100 0] [(9000,.box 188 [.v Q0 XE,.v Q2 c9] (some (A 9000))),(9100,.box 74 [.ptr 9000 0] (some (A 9100)))] (.v Q9 r.1) [(9000,.box 188 [.v Q0 r.2.1,.v Q2 r.2.2] (some (A 9000))),(9100,.box 74 [.ptr 9000 0] (some (A 9100)))]:=by
 refine VG.of Tryz.func208 Y Tryz.ntmps208 Y ?_;intro S w R u;unfold mF at h;refine aL [0] ?_;obtain⟨B,z,h⟩:=aA h;refine aI (.a 1 ?_);refine .t (eQ [9000] (Bu [(9000,9000)]) (eO _) (fun A=>oM A z) Tryz.call209 (fun A=>(.box Y .nil Y))) (.f [0,1] ?_);cases h;exact aH (eK u Y (RV.tmp Y) (.cons Y (.cons Y .nil)))
theorem xR(A:Nat->Nat){q n0 n1 r}(h:nC q n0 n1=some r):
 VK Tryz.prog [(9000,A 9000),(9100,A 9100)] (gC (A 9000) (A 9100)) q [(9000,.box 188 [.v Q0 n0,.v Q2 n1] (some (A 9000))),(9100,.box 74 [.ptr 9000 0] (some (A 9100)))] (.v Q9 r.1) [(9000,.box 188 [.v Q0 r.2.1,.v Q2 r.2.2] (some (A 9000))),(9100,.box 74 [.ptr 9000 0] (some (A 9100)))]:=by
 unfold nC at h;rcases q with z | z | z
 ·exact(VK.l (VK.K1 (.l7 (i:=9000) (by simp)) .nil Tryz.call206 (sV A h)))
 ·exact(VK.r (VK.l (VK.K1 (.l7 (i:=9000) (by simp)) .nil NO (jZ A h))))
 ·exact(VK.r (VK.r (VK.K1 .nil (.l7 (i:=9100) (by simp)) Tryz.call208 (wZ A h))))
theorem sW(A:Nat->Nat){a0 XE c9 r}(h:iU a0 XE c9=some r):
 VG Tryz.prog 205 [.v (Wr.sl (gC (A 9000) (A 9100))) a0] [(9000,.box 188 [.v Q0 XE,.v Q2 c9] (some (A 9000))),(9100,.box 74 [.ptr 9000 0] (some (A 9100)))] (.v Q9 r.1) [(9000,.box 188 [.v Q0 r.2.1,.v Q2 r.2.2] (some (A 9000))),(9100,.box 74 [.ptr 9000 0] (some (A 9100)))]:=by
 refine VG.of Tryz.func205 Y Tryz.ntmps205 Y ?_;intro S w R B;unfold iU at h;refine aL [0] ?_;refine cV [6,7,8] ?_;obtain⟨P,I,L,M⟩:=cN h;refine jP (σs:=fun u:Int×Int×Cu=>⟨[(6,.v (Wr.sl (gC (A 9000) (A 9100))) a0),(7,.v Q0 (a0.length:Int)),(8,.v Q0 u.1)],[(9000,.box 188 [.v Q0 u.2.1,.v Q2 u.2.2] (some (A 9000))),(9100,.box 74 [.ptr 9000 0] (some (A 9100)))]⟩) (fun z:Int×Cu=>⟨[],[(9000,.box 188 [.v Q0 z.1,.v Q2 z.2] (some (A 9000))),(9100,.box 74 [.ptr 9000 0] (some (A 9100)))]⟩) I (aC []) ?_ ?_
 ·intro z C;have h:=L _ C;refine aL [2] ?_;cases h;exact aH (eK B Y (RV.tmp Y) (.cons Y (.cons Y .nil)))
 intro u O h;refine aL [6,7,8,9] ?_;refine aG ?_;refine aU h Y (fun D h=>?_) (fun D h=>?_)
 ·refine aF ?_;refine aG ?_;refine bS ?_;obtain⟨Q,T,h⟩:=aA h;refine aL [4,6,7,8] ?_;obtain⟨U,N,h⟩:=aA h;refine aI (.a 1 ?_);refine .t (Mn (H:=[9000,9100]) (K:=[9000,9100]) [(9000,A 9000),(9100,A 9100)] (Bu [(9000,9000),(9100,9100)]) (eO _) Y ⟨⟨_,_,Y⟩,⟨_,_,Y⟩,trivial⟩ (VK.at2 (e:=gC) (A 9000) (A 9100) (fun E=>xR E N)) (fun _=> .box Y (.box Y .nil)) (fun _=> .box Y (.box Y .nil Y) Y) (fun _=>rfl) Y Y (fun _=>rfl) Y Y) (.f [5,6,7,8] ?_);refine aL [5,6,7,8,15] ?_;refine aU h Y (fun F h=>?_) (fun F h=>?_)
  ·refine aL [2] ?_;refine aH ?_;refine eR ?_;cases h;refine hX fun G=>?_;obtain rfl:=M _ G;exact eK B Y (RV.tmp Y) (.cons Y (.cons Y .nil))
  refine aF ?_;refine aZ ?_;refine dQ [6,7,8] ?_;cases h;exact cF (aC [])
 cases h;exact dC (dJ (aC []))
theorem yG(A:Nat->Nat){VO VX r}(h:iR VO VX=some r):
 VG Tryz.prog 161 [.ptr 9000 0] [(9000,.box 188 [.v Q0 VO,.v Q2 VX] (some (A 9000)))] (.v Q9 r.1) [(9000,.box 188 [.v Q0 r.2.1,.v Q2 r.2.2] (some (A 9000)))]:=by
 refine VG.of Tryz.func161 Y Tryz.ntmps161 Y ?_;intro S w R C;unfold iR at h;refine aI (.k (Ix 101 Y Y) (.f [0,1] ?_));refine AE (i:=101) Y fun z=>?_;refine wL (σ':=⟨[(0,.ptr 9000 0),(1,.ptr 101 0)],[(9000,.box 188 [.v Q0 VO,.v Q2 VX] (some (A 9000))),(101,.box 74 [.ptr 9000 0] (some (z)))]⟩) (aC []) ?_;refine aG ?_;obtain⟨L,M,h⟩:=aA h;refine dV 16 mixed (by exact(.k (aJ Y Y Y Nu Ih) (.k (aK Y) (.k (aB 1 Y wH Y lE Y Y) (.k (aJ Y Y Y sB lE) (.k (aJ Y Y Y Nu Ih) (.k (aK Y) (.k (aB 0 Y wH Y S3 Y Y) (.k (aJ Y Y Y G3 S3) (.k (cU Y Y Y) (.k (aM (qG M) EG (.cons (.dir Y) (.cons (.dir Y) .nil))) (.k (aD Y) (.k (bW Y Y) (.k (bW Y Y) (.k (aN 103 Br Y (.cons (Z.arr 8 (Z.int .u8)) .nil) Y) (XF.store (.none Y) Y Y Y Y Y Y Y kP (.k (bP Y) .nil))))))))))))))))) (by exact(J.kp [0,1,3,4] [])) ?_;refine aG ?_;refine aG ?_;obtain⟨N,u,h⟩:=aA h;refine eP (σ':=⟨[(0,.ptr 9000 0),(1,.ptr 101 0),(4,.v Q9 L.2),(24,.v Wr.bool N)],[(9000,.box 188 [.v Q0 VO,.v Q2 VX] (some (A 9000))),(101,.box 74 [.ptr 9000 0] (some (z)))]⟩) ?_ ?_
 ·refine cd u (fun B u=>?_) (fun B u=>?_)
  ·cases u;exact jy
  obtain⟨P,D,u⟩:=aA u;cases u;refine ja 3 ?_;exact(J.g B (rK D Y Y Y Y vR S5) (J.g B (vA (dG D).2.2 Y Y Y G5 S5) jy))
 refine aU h Y (fun E h=>?_) (fun E h=>?_)
 ·refine aL [0,2] ?_;cases h;exact aH (eK C Y (RV.tmp Y) (.cons Y .nil))
 refine aF ?_;obtain⟨Q,O,h⟩:=aA h;refine aI (.a 1 ?_);refine .k (nW (.l7 Y Y) .nil (.l .self)) (.k (aJ Y Y Y Nu Ih) (.k (nW (.l7 Y Y) .nil (.r (.l .self))) (.k (nW .nil (.l7 Y Y) (.r (.r .self))) (.k (dI (e:=(gC (A 9000) (z))) Wl OR SY Y Y Y Y (.cons (.dir Y) (.cons (.dir Y) (.cons (.dir Y) .nil)))) (.t (Iy (H:=[9000,101]) (K:=[9000,101]) [(9000,A 9000),(9100,z)] (Bu [(9000,9000),(9100,101)]) (eO _) ⟨⟨_,_,Y⟩,⟨_,_,Y⟩,trivial⟩ (VG.at2 (ss:=fun F G=>[.v (Wr.sl (gC F G)) ([(.inl ((),()):dF),(.inr (.inl ((),())):dF),(.inr (.inr ((),())):dF)]:(List dF))]) (A 9000) z (fun I=>sW I O)) Tryz.call205 (.cons (.dir Y) .nil) (fun _=> .box Y (.box Y .nil)) (fun _=> .box Y (.box Y .nil Y) Y) (fun _=>rfl) Y Y (fun _=>rfl) Y Y) (.f [0,2] ?_))))));cases h;exact aH (eK C Y (RV.tmp Y) (.cons Y .nil))
def xS(r:Th×(Option Int)):Slot:=match r.1 with | none=> .WC [.v (Wr.B2 (Wr.pr Q0 Q2)) (none:Th),.v Q9 r.2] | some z=> .WC [.ptr 0 0,.v Q9 r.2]
def xT(r:Th×(Option Int)):List (Nat×VH):=match r.1 with | none=>[] | some z=>[(0,.box 188 [.v Q0 z.1,.v Q2 z.2])]
theorem Dr{a0 a1 r}(h:mR a0 a1=some r):
 VS Tryz.prog 101 [.v Q2 a0,.v Q0 a1] (xS r) (xT r):=by
 refine VS.of Tryz.func101 Y Tryz.ntmps101 Y ?_;intro S w z;unfold mR at h;refine aI (.k (cJ 101 Y (.VB sO (.VB sO sO)) Y) (.k (jV (Wr.pr Q0 Q2)) (.f [1,2] ?_)));obtain⟨M,G,h⟩:=aA h;refine aI (.a 1 ?_);refine .k (aM (Dp G) Tryz.call158 (.cons (.dir Y) .nil)) (.f [1,2,6,7] ?_);refine cV [1,2,6,7,17] ?_;refine aU h Y (fun B h=>?_) (fun B h=>?_)
 ·refine aI (.a 1 ?_);refine .k (jV (Wr.pr Q0 Q2)) (.f [4,5] ?_);cases h;exact aH (bT z dS Y (RV.tmp Y) (RV.tmp Y) .nil Y)
 refine aF ?_;obtain⟨N,H,h⟩:=aA h;refine jM (.k (aT Y Y (.VB sO (.VB sO sO)) sB lE) (.k (aM (uP H) NN (.cons (.dir Y) .nil)) (.f [1,2,6,8] ?_)));refine aG ?_;obtain⟨I,u,h⟩:=aA h;refine eP (σ':=⟨[(1,.v Q0 a1),(2,.ptr 101 0),(35,.v Wr.bool I)],[(101,.box 186 [.v Q5 a0.1,.v Q1 a0.2.1,.v Q0 a0.2.2])]⟩) ?_ ?_
 ·refine cd u (fun C u=>?_) (fun C u=>?_)
  ·cases u;exact jy
  refine cd u (fun D u=>?_) (fun D u=>?_)
  ·cases u;exact jy
  cases u;exact jy
 refine aU h Y (fun E h=>?_) (fun E h=>?_)
 ·refine aI (.a 1 ?_);refine .k (jV (Wr.pr Q0 Q2)) (.f [4,5] ?_);cases h;exact aH (bT z dS Y (RV.tmp Y) (RV.tmp Y) .nil Y)
 refine aF ?_;refine aG ?_;obtain⟨O,K,h⟩:=aA h;refine dV 10 mixed (by exact(.k (aD Y) (.k (aB 0 Y Kw Y yD Y Y) (.k (aJ Y Y Y Ti yD) (.k (Pv (fI 105000 (cP K) Yw (.cons (.dir Y) .nil) Y) (fun _=>(Sw.Sub.mk id (.cons Y (.K8 Y Y) .nil) .nil Y)) Y) (.k (aB 2 Y Kw Y S3 Y Y) (.k (aJ Y Y Y G3 S3) (.k (bR rH (.cons (Z.sl aO) (.cons (Z.sl gF) (.cons (Z.int .i64) .nil))) (.cons Y (.dir Y) Y Y Y Y (.cons Y (.dir Y) Y Y Y Y .nil))) (.k (bR JU (.cons (Z.int .i64) (.cons (Z.pr (Z.sl aO) (Z.pr (Z.sl gF) (Z.int .i64))) .nil)) (.cons Y (.dir Y) Y Y Y Y (.cons Y (.agg Y (.same (.same (.same .nil))) (.VB sO (.VB sO sO)) Y) Y Y Y Y .nil))) (.k (zP 106 Y Y) (.k (bP Y) .nil))))))))))) (by exact(J.kp [9] [])) ?_;obtain⟨P,L,h⟩:=aA h;refine jM (.a 1 ?_);refine .t (eQ [106] (Bu [(9000,106)]) (eO _) (fun A=>yG A L) Tryz.call161 (fun A=>(.box Y .nil Y))) (.f [9,10] ?_);refine aL [9,10,49] ?_;refine aU h Y (fun F h=>?_) (fun F h=>?_)
 ·refine aI (.a 1 ?_);refine .k (jV (Wr.pr Q0 Q2)) (.f [4,5] ?_);cases h;exact aH (bT z dS Y (RV.tmp Y) (RV.tmp Y) .nil Y)
 refine aF ?_;refine aL [4,5] ?_;cases h;exact aH (wN z dS Y (aC [(0,106)]))
theorem Ae{a0:Cu}{a1:Int}{r:Th×(Option Int)}(hz:r.1=none)(h:mR a0 a1=some r):VS Tryz.prog 101 [.v Q2 a0,.v Q0 a1] (.WC [.v (Wr.B2 (Wr.pr Q0 Q2)) (none:Th),.v Q9 r.2]) []:=by
 have:=Dr h;unfold xS xT at this;rw[hz] at this;exact this
theorem Af{a0:Cu}{a1:Int}{r:Th×(Option Int)}{z:(Int×Cu)}(hz:r.1=some z)(h:mR a0 a1=some r):VS Tryz.prog 101 [.v Q2 a0,.v Q0 a1] (.WC [.ptr 0 0,.v Q9 r.2]) [(0,.box 188 [.v Q0 z.1,.v Q2 z.2])]:=by
 have:=Dr h;unfold xS xT at this;rw[hz] at this;exact this
def vD(r:Th×(Option Int)):Slot:=match r.1 with | none=> .WC [.v (Wr.B2 (Wr.pr Q0 Q2)) (none:Th),.v Q9 r.2] | some z=> .WC [.ptr 0 0,.v Q9 r.2]
def vE(r:Th×(Option Int)):List (Nat×VH):=match r.1 with | none=>[] | some z=>[(0,.box 188 [.v Q0 z.1,.v Q2 z.2])]
theorem Ag{a0 r}(h:iY a0=some r):
 VS Tryz.prog 69 [.v Q0 a0] (vD r) (vE r):=by
 refine VS.of Tryz.func69 Y Tryz.ntmps69 Y ?_;intro S w u;unfold iY at h;refine aI (.k (jV (Wr.pr Q0 Q2)) (.f [0] ?_));obtain⟨D,B,h⟩:=aA h;refine aI (.a 1 ?_);refine .k (aM (Jo B) Tryz.call100 (.cons (.dir Y) .nil)) ?_;refine .a 3 ?_;refine .k (aN 102 Sz Y (.cons (Z.sl aO) (.cons (Z.sl gF) (.cons (Z.int .i64) .nil))) Y) (.t (bX Y Y Y Y (.VB sO (.VB sO sO)) lE) (.f [0,4,5] ?_));refine cV [0,4,5,12] ?_;refine aU h Y (fun A h=>?_) (fun A h=>?_)
 ·refine aI (.a 1 ?_);refine .k (jV (Wr.pr Q0 Q2)) (.f [2,3] ?_);cases h;exact aH (bT u dS Y (RV.tmp Y) (RV.tmp Y) .nil Y)
 refine aF ?_;refine aG ?_;obtain⟨C,z,h⟩:=aA h;rcases qv:C.1 with _ | E
 ·replace h:=vO qv h;refine eM (.k (aT Y Y (.VB sO (.VB sO sO)) sB lE) ?_);refine .a 1 ?_;refine .k (aM (Ae qv z) NI (.cons (.dir Y) (.cons (.dir Y) .nil))) (.f [2,3] ?_);cases h;exact aH (bT u dS Y (RV.tmp Y) (RV.tmp Y) .nil Y)
 ·replace h:=vP qv h;refine eM (.k (aT Y Y (.VB sO (.VB sO sO)) sB lE) ?_);refine .a 1 ?_;refine .k (fI 104000 (Af qv z) NI (.cons (.dir Y) (.cons (.dir Y) .nil)) Y) (.f [2,3] ?_);cases h;exact aH (wN u dS Y (aC [(0,104000)]))
theorem tJ{a0:Int}{r:Th×(Option Int)}(hz:r.1=none)(h:iY a0=some r):VS Tryz.prog 69 [.v Q0 a0] (.WC [.v (Wr.B2 (Wr.pr Q0 Q2)) (none:Th),.v Q9 r.2]) []:=by
 have:=Ag h;unfold vD vE at this;rw[hz] at this;exact this
theorem tK{a0:Int}{r:Th×(Option Int)}{z:(Int×Cu)}(hz:r.1=some z)(h:iY a0=some r):VS Tryz.prog 69 [.v Q0 a0] (.WC [.ptr 0 0,.v Q9 r.2]) [(0,.box 188 [.v Q0 z.1,.v Q2 z.2])]:=by
 have:=Ag h;unfold vD vE at this;rw[hz] at this;exact this
theorem oO{a0 r}(h:fS a0=some r):
 VS Tryz.prog 162 [.XR (Wr.pr Q0 Q2) a0] (.WC [.v Q0 r.1,.v Q0 r.2.1,.v Q9 r.2.2]) []:=by
 refine VS.of Tryz.func162 Y Tryz.ntmps162 Y ?_;intro S w z;unfold fS at h;refine aL [0] ?_;refine aG ?_;obtain⟨u,C,h⟩:=aA h;refine dV 15 mixed (by exact(.k (aD Y) (.k (rM Y) (.k (cG Y wH Y lE Y (.snd .here) Y) (.k (bO Y sB lE) (.k (aD Y) (.k (rM Y) (.k (cG Y wH Y S3 Y (.fst .here) Y) (.k (bO Y G3 S3) (.k (aM (qG C) EG (.cons (.dir Y) (.cons (.dir Y) .nil))) (.k (aD Y) (.k (bW Y Y) (.k (bW Y Y) (.k (aN 102 Br Y (.cons (Z.arr 8 (Z.int .u8)) .nil) Y) (XF.store (.none Y) Y Y Y Y Y Y Y kP (.k (bP Y) .nil)))))))))))))))) (by exact(J.kp [4,5] [])) ?_;refine cV [4,5,19] ?_;refine aU h Y (fun B h=>?_) (fun B h=>?_)
 ·refine aL [2,3,4] ?_;cases h;exact aH (wQ z dS Y (RV.tmp Y) (RV.tmp Y) (RV.tmp Y) .nil Y)
 refine aF ?_;refine aG ?_;refine wL (σ':=⟨[(4,.v Q9 u.2),(5,.XR aO u.1),(19,.v Wr.bool (Option.isSome u.2))],[]⟩) (Sw.Sub.mk id (.cons Y (.of_eq Y) (.cons Y (.y6 Y Y (.cons (.of_eq Y) .nil) sO) (.cons Y (.of_eq Y) .nil))) .nil Y) ?_;obtain⟨I,D,h⟩:=aA h;obtain⟨K,A,h⟩:=aA h;obtain⟨L,E,h⟩:=aA h;obtain⟨M,F,h⟩:=aA h;obtain⟨N,G,h⟩:=aA h;obtain⟨O,H,h⟩:=aA h;refine dV 11 mixed (by exact(.k (bO Y uO kP) (.k (aM (tA D) NP (.cons (.dir Y) .nil)) (.k (Xr A Y Y Y vR S5) (.k (Py E Y Y Y vR S5) (.k (Le F (AF A) Y (.sl Y) tI I5 S5 Y Y Y) (.k (Ec G Y vR) (.k (bO Y uO kP) (.k (aM (tA H) NP (.cons (.dir Y) .nil)) (.k (bP Y) (.k (bP Y) (.k (zD ET) .nil)))))))))))) (by exact(J.kp [2,3,4] [])) ?_;cases h;exact aH (wQ z dS Y (RV.tmp Y) (RV.tmp Y) (RV.tmp Y) .nil Y)
theorem zH{a0 a1 r}(h:iZ a0 a1=some r):
 VS Tryz.prog 211 [.v gF a0,.XR (Wr.B2 (Wr.pr Q0 Q2)) a1] (.v Wr.bool r) []:=by
 refine VS.of Tryz.func211 Y Tryz.ntmps211 Y ?_;intro S w B;unfold iZ at h;refine aI (.k (cJ 101 Y (.VB sO sO) Y) (.f [1,2] ?_));refine aG ?_;obtain⟨C,z,h⟩:=aA h;refine Ko (σ':=⟨[(3,.v Wr.bool C)],[]⟩) ?_ ?_
 ·intro A;refine cd z (fun u z=>?_) (fun u z=>?_)
  ·cases z;exact tG 13 mixed A
  obtain⟨E,D,z⟩:=aA z;cases z;exact dV 13 mixed (by exact(.k (aB 0 Y Nv Y S3 Y Y) (.k (aJ Y Y Y G3 S3) (.k (jL Y Y Y) (.k (aD Y) (.g u (aB 0 Y Nv Y S3 Y Y) (.g u (aJ Y Y Y G3 S3) (.g u (bO Y Nu Ih) (.g u (Iw D Y) (.g u (cG Y wH Y S3 Y (.fst .here) Y) (.g u (bO Y G3 S3) (.g u (jL Y Y Y) (.k (uC u Y Y) (.k (bP Y) .nil)))))))))))))) (by exact(J.fin (aC []))) A
 cases h;exact aH (aY B dS Y (RV.tmp Y) .nil Y)
theorem jT{a0 XE r}(h:cR a0 XE=some r):
 VS Tryz.prog 247 [.v Q1 a0,.ZJ 211 [.XR (Wr.B2 (Wr.pr Q0 Q2)) XE]] (.v Q0 r) []:=by
 refine VS.of Tryz.func247 Y Tryz.ntmps247 Y ?_;intro S w u;unfold cR at h;refine aL [0,1] ?_;refine cV [0,1,7,8] ?_;obtain⟨L,F,G,H⟩:=cN h;refine jP (σs:=fun z:Int=>⟨[(0,.v Q1 a0),(1,.ZJ 211 [.XR (Wr.B2 (Wr.pr Q0 Q2)) XE]),(7,.v Q0 (a0.length:Int)),(8,.v Q0 z)],[]⟩) (fun A:Unit=>⟨[],[]⟩) F (aC []) ?_ ?_
 ·intro A B;have h:=G _ B;refine aL [4] ?_;cases h;exact aH (aY u dS Y (RV.tmp Y) .nil Y)
 intro z K h;refine aL [0,1,7,8,9] ?_;refine aG ?_;refine aU h Y (fun C h=>?_) (fun C h=>?_)
 ·refine aF ?_;refine aG ?_;refine bS ?_;refine aL [0,1,5,7,8] ?_;obtain⟨M,N,h⟩:=aA h;obtain⟨O,I,h⟩:=aA h;refine aI (.a 5 ?_);refine .k (tN Y (zH I) Tryz.call211 (.cons (.dir Y) .nil)) (.f [0,1,5,7,8,16] ?_);refine aU h Y (fun D h=>?_) (fun D h=>?_)
  ·refine aL [4] ?_;refine aH ?_;refine eR ?_;cases h;refine hX fun E=>?_;obtain rfl:=H _ E;exact aY u dS Y (RV.tmp Y) .nil Y
  refine aF ?_;refine aZ ?_;refine dQ [0,1,7,8] ?_;cases h;exact cF (aC [])
 cases h;exact dC (dJ (aC []))
theorem jH{a0 XE r}(h:bZ a0 XE=some r):
 VS Tryz.prog 203 [.v Q1 a0,.ZJ 211 [.XR (Wr.B2 (Wr.pr Q0 Q2)) XE]] (.v Wr.bool r) []:=by
 refine VS.of Tryz.func203 Y Tryz.ntmps203 Y ?_;intro S w u;unfold bZ at h;refine aL [0,1] ?_;obtain⟨A,z,h⟩:=aA h;refine aI (.a 2 ?_);refine .k (aM (jT z) Tryz.call247 (.cons (.dir Y) (.cons (.dir Y) .nil))) (.f [4] ?_);cases h;exact aH (aY u dS Y (RV.tmp Y) .nil Y)
theorem sC{a0 r}(h:kC a0=some r):
 VS Tryz.prog 212 [.v Q0 a0] (.v aO r) []:=by
 refine VS.of Tryz.func212 Y Tryz.ntmps212 Y ?_;intro S w u;unfold kC at h;refine aI (.k (aN 101 Br Y (.cons (Z.arr 8 (Z.int .u8)) .nil) Y) (.f [0,2] ?_));refine aI (.a 1 ?_);refine .k (fA (.inr Y) (by decide) Y Y) ?_;refine .a 2 ?_;refine .k (fA (.inr Y) (by decide) Y Y) ?_;refine .a 2 ?_;refine .k (fA (.inr Y) (by decide) Y Y) ?_;refine .a 3 ?_;refine .k (Mj (e:=(Wr.int .u8)) (zv:=(0:Int)) Bq vR I5 Y Y (Z.arr 8 (Z.int .u8)) Y Y (.cons (.dir Y) (.cons (.dir Y) (.cons (.dir Y) (.cons (.dir Y) .nil))))) (.f [2] ?_);refine aH ?_;obtain rfl:=pT h;exact cB (σ':=⟨[(2,.ptr 90 0)],[(90,.box 30 [.v aO ([(IntKind.wrap .u8 (sh .shr .i64 a0 (24:Int))),(IntKind.wrap .u8 (sh .shr .i64 a0 (16:Int))),(IntKind.wrap .u8 (sh .shr .i64 a0 (8:Int))),(IntKind.wrap .u8 a0)]++List.replicate 4 (0:Int):aQ)])]⟩) (aC [(90,101)]) (aY u dS Y (cL Y Y Y uO kP) .nil Y)
theorem xA(A:Nat->Nat){a1 X5 dg r}(h:gT a1 X5 dg=some r):
 VG Tryz.prog 214 [.ptr 9100 0,.XR Q1 a1] [(9000,.box 188 [.v Q0 X5,.v Q2 dg] (some (A 9000))),(9100,.box 74 [.ptr 9000 0] (some (A 9100)))] (.v Q9 r.1) [(9000,.box 188 [.v Q0 r.2.1,.v Q2 r.2.2] (some (A 9000))),(9100,.box 74 [.ptr 9000 0] (some (A 9100)))]:=by
 refine VG.of Tryz.func214 Y Tryz.ntmps214 Y ?_;intro S w R u;unfold gT at h;refine aL [0,1] ?_;refine aG ?_;obtain⟨C,z,h⟩:=aA h;obtain⟨D,B,h⟩:=aA h;refine dV 9 mixed (by exact(.k (aJ Y Y Y Nu Ih) (.k (aJ Y Y Y Nu Ih) (.k (aK Y) (.k (aB 0 Y wH Y S3 Y Y) (.k (aJ Y Y Y G3 S3) (.k (cU Y Y Y) (.k (bO Y EV Ii) (.k (tD Y yE) (.k (aM (sC z) NQ (.cons (.dir Y) .nil)) .nil)))))))))) (by exact(J.t (eQ [9000] (Bu [(9000,9000)]) (eO _) (fun A=>iH A B) JK (fun A=>(.box Y .nil Y))) (jz [0,2]))) ?_;cases h;exact aH (eK u Y (RV.tmp Y) (.cons Y (.cons Y .nil)))
theorem xB(A:Nat->Nat){a1 a2 X4 dc r}(h:gU a1 a2 X4 dc=some r):
 VG Tryz.prog 216 [.ptr 9100 0,.XR Q0 a1,.XR gF a2] [(9000,.box 188 [.v Q0 X4,.v Q2 dc] (some (A 9000))),(9100,.box 74 [.ptr 9000 0] (some (A 9100)))] (.v Q9 r.1) [(9000,.box 188 [.v Q0 r.2.1,.v Q2 r.2.2] (some (A 9000))),(9100,.box 74 [.ptr 9000 0] (some (A 9100)))]:=by
 refine VG.of Tryz.func216 Y Tryz.ntmps216 Y ?_;intro S w R u;unfold gU at h;refine aL [0,1,2] ?_;refine aG ?_;obtain⟨C,z,h⟩:=aA h;obtain⟨D,B,h⟩:=aA h;refine dV 12 mixed (by exact(.k (aJ Y Y Y Nu Ih) (.k (aJ Y Y Y Nu Ih) (.k (aK Y) (.k (aB 0 Y wH Y S3 Y Y) (.k (aJ Y Y Y G3 S3) (.k (cU Y Y Y) (.k (bO Y G3 S3) (.k (cU Y Y Y) (.k (cU Y Y Y) (.k (cG Y Nv Y S3 Y (.fst .here) Y) (.k (bO Y G3 S3) (.k (aM (sC z) NQ (.cons (.dir Y) .nil)) .nil))))))))))))) (by exact(J.t (eQ [9000] (Bu [(9000,9000)]) (eO _) (fun A=>iH A B) JK (fun A=>(.box Y .nil Y))) (jz [0,3]))) ?_;cases h;exact aH (eK u Y (RV.tmp Y) (.cons Y (.cons Y .nil)))
theorem xC(A:Nat->Nat){a1 a2 X4 dc r}(h:gV a1 a2 X4 dc=some r):
 VG Tryz.prog 217 [.ptr 9100 0,.XR Q0 a1,.XR gF a2] [(9000,.box 188 [.v Q0 X4,.v Q2 dc] (some (A 9000))),(9100,.box 74 [.ptr 9000 0] (some (A 9100)))] (.v Q9 r.1) [(9000,.box 188 [.v Q0 r.2.1,.v Q2 r.2.2] (some (A 9000))),(9100,.box 74 [.ptr 9000 0] (some (A 9100)))]:=by
 refine VG.of Tryz.func217 Y Tryz.ntmps217 Y ?_;intro S w R u;unfold gV at h;refine aL [0,1,2] ?_;refine aG ?_;obtain⟨B,z,h⟩:=aA h;refine dV 11 mixed (by exact(.k (aJ Y Y Y Nu Ih) (.k (aJ Y Y Y Nu Ih) (.k (aK Y) (.k (aB 0 Y wH Y S3 Y Y) (.k (aJ Y Y Y G3 S3) (.k (cU Y Y Y) (.k (bO Y G3 S3) (.k (cU Y Y Y) (.k (cU Y Y Y) (.k (cG Y Nv Y kP Y (.snd .here) Y) (.k (bO Y uO kP) .nil)))))))))))) (by exact(J.t (eQ [9000] (Bu [(9000,9000)]) (eO _) (fun A=>iH A z) JK (fun A=>(.box Y .nil Y))) (jz [0,3]))) ?_;cases h;exact aH (eK u Y (RV.tmp Y) (.cons Y (.cons Y .nil)))
theorem xD(A:Nat->Nat){XE c9 r}(h:gW XE c9=some r):
 VG Tryz.prog 218 [.ptr 9100 0] [(9000,.box 188 [.v Q0 XE,.v Q2 c9] (some (A 9000))),(9100,.box 74 [.ptr 9000 0] (some (A 9100)))] (.v Q9 r.1) [(9000,.box 188 [.v Q0 r.2.1,.v Q2 r.2.2] (some (A 9000))),(9100,.box 74 [.ptr 9000 0] (some (A 9100)))]:=by
 refine VG.of Tryz.func218 Y Tryz.ntmps218 Y ?_;intro S w R u;unfold gW at h;refine aL [0] ?_;obtain⟨B,z,h⟩:=aA h;refine aI (.a 1 ?_);refine .t (eQ [9000] (Bu [(9000,9000)]) (eO _) (fun A=>oM A z) Tryz.call209 (fun A=>(.box Y .nil Y))) (.f [0,1] ?_);cases h;exact aH (eK u Y (RV.tmp Y) (.cons Y (.cons Y .nil)))
theorem xE(A:Nat->Nat){XE c9 r}(h:gX XE c9=some r):
 VG Tryz.prog 219 [.ptr 9100 0] [(9000,.box 188 [.v Q0 XE,.v Q2 c9] (some (A 9000))),(9100,.box 74 [.ptr 9000 0] (some (A 9100)))] (.v Q9 r.1) [(9000,.box 188 [.v Q0 r.2.1,.v Q2 r.2.2] (some (A 9000))),(9100,.box 74 [.ptr 9000 0] (some (A 9100)))]:=by
 refine VG.of Tryz.func219 Y Tryz.ntmps219 Y ?_;intro S w R u;unfold gX at h;refine aL [0] ?_;obtain⟨B,z,h⟩:=aA h;refine aI (.a 1 ?_);refine .t (eQ [9000] (Bu [(9000,9000)]) (eO _) (fun A=>oM A z) Tryz.call209 (fun A=>(.box Y .nil Y))) (.f [0,1] ?_);cases h;exact aH (eK u Y (RV.tmp Y) (.cons Y (.cons Y .nil)))
theorem xU(A:Nat->Nat){q n0 n1 r}(h:iF q n0 n1=some r):
 VK Tryz.prog [(9000,A 9000),(9100,A 9100)] (bN (A 9000) (A 9100)) q [(9000,.box 188 [.v Q0 n0,.v Q2 n1] (some (A 9000))),(9100,.box 74 [.ptr 9000 0] (some (A 9100)))] (.v Q9 r.1) [(9000,.box 188 [.v Q0 r.2.1,.v Q2 r.2.2] (some (A 9000))),(9100,.box 74 [.ptr 9000 0] (some (A 9100)))]:=by
 unfold iF at h;rcases q with z | z | z | z | z | z | z | z
 ·exact(VK.l (VK.K1 .nil (.pr (.l7 (i:=9100) (by simp)) .pt) Tryz.call214 (xA A h)))
 ·exact(VK.r (VK.l (VK.K1 .nil (.pr (.l7 (i:=9100) (by simp)) (.pr .pt .pt)) Tryz.call216 (xB A h))))
 ·exact(VK.r (VK.r (VK.l (VK.K1 .nil (.pr (.l7 (i:=9100) (by simp)) (.pr .pt .pt)) Tryz.call217 (xC A h)))))
 ·exact(VK.r (VK.r (VK.r (VK.l (VK.K1 (.l7 (i:=9000) (by simp)) .nil NO (jZ A h))))))
 ·exact(VK.r (VK.r (VK.r (VK.r (VK.l (VK.K1 .nil (.l7 (i:=9100) (by simp)) Tryz.call218 (xD A h)))))))
 ·exact(VK.r (VK.r (VK.r (VK.r (VK.r (VK.l (VK.K1 (.l7 (i:=9000) (by simp)) .nil Tryz.call206 (sV A h))))))))
 ·exact(VK.r (VK.r (VK.r (VK.r (VK.r (VK.r (VK.l (VK.K1 (.l7 (i:=9000) (by simp)) .nil NO (jZ A h)))))))))
 ·exact(VK.r (VK.r (VK.r (VK.r (VK.r (VK.r (VK.r (VK.K1 .nil (.l7 (i:=9100) (by simp)) Tryz.call219 (xE A h)))))))))
theorem sX(A:Nat->Nat){a0 XE c9 r}(h:eN a0 XE c9=some r):
 VG Tryz.prog 205 [.v (Wr.sl (bN (A 9000) (A 9100))) a0] [(9000,.box 188 [.v Q0 XE,.v Q2 c9] (some (A 9000))),(9100,.box 74 [.ptr 9000 0] (some (A 9100)))] (.v Q9 r.1) [(9000,.box 188 [.v Q0 r.2.1,.v Q2 r.2.2] (some (A 9000))),(9100,.box 74 [.ptr 9000 0] (some (A 9100)))]:=by
 refine VG.of Tryz.func205 Y Tryz.ntmps205 Y ?_;intro S w R B;unfold eN at h;refine aL [0] ?_;refine cV [6,7,8] ?_;obtain⟨P,I,L,M⟩:=cN h;refine jP (σs:=fun u:Int×Int×Cu=>⟨[(6,.v (Wr.sl (bN (A 9000) (A 9100))) a0),(7,.v Q0 (a0.length:Int)),(8,.v Q0 u.1)],[(9000,.box 188 [.v Q0 u.2.1,.v Q2 u.2.2] (some (A 9000))),(9100,.box 74 [.ptr 9000 0] (some (A 9100)))]⟩) (fun z:Int×Cu=>⟨[],[(9000,.box 188 [.v Q0 z.1,.v Q2 z.2] (some (A 9000))),(9100,.box 74 [.ptr 9000 0] (some (A 9100)))]⟩) I (aC []) ?_ ?_
 ·intro z C;have h:=L _ C;refine aL [2] ?_;cases h;exact aH (eK B Y (RV.tmp Y) (.cons Y (.cons Y .nil)))
 intro u O h;refine aL [6,7,8,9] ?_;refine aG ?_;refine aU h Y (fun D h=>?_) (fun D h=>?_)
 ·refine aF ?_;refine aG ?_;refine bS ?_;obtain⟨Q,T,h⟩:=aA h;refine aL [4,6,7,8] ?_;obtain⟨U,N,h⟩:=aA h;refine aI (.a 1 ?_);refine .t (Mn (H:=[9000,9100]) (K:=[9000,9100]) [(9000,A 9000),(9100,A 9100)] (Bu [(9000,9000),(9100,9100)]) (eO _) Y ⟨⟨_,_,Y⟩,⟨_,_,Y⟩,trivial⟩ (VK.at2 (e:=bN) (A 9000) (A 9100) (fun E=>xU E N)) (fun _=> .box Y (.box Y .nil)) (fun _=> .box Y (.box Y .nil Y) Y) (fun _=>rfl) Y Y (fun _=>rfl) Y Y) (.f [5,6,7,8] ?_);refine aL [5,6,7,8,15] ?_;refine aU h Y (fun F h=>?_) (fun F h=>?_)
  ·refine aL [2] ?_;refine aH ?_;refine eR ?_;cases h;refine hX fun G=>?_;obtain rfl:=M _ G;exact eK B Y (RV.tmp Y) (.cons Y (.cons Y .nil))
  refine aF ?_;refine aZ ?_;refine dQ [6,7,8] ?_;cases h;exact cF (aC [])
 cases h;exact dC (dJ (aC []))
theorem gZ(A:Nat->Nat){VO VX a1 a2 a3 r}(h:cW VO VX a1 a2 a3=some r):
 VG Tryz.prog 163 [.ptr 9000 0,.v Q1 a1,.v Q0 a2,.v Q0 a3] [(9000,.box 188 [.v Q0 VO,.v Q2 VX] (some (A 9000)))] (.v Q9 r.1) [(9000,.box 188 [.v Q0 r.2.1,.v Q2 r.2.2] (some (A 9000)))]:=by
 refine VG.of Tryz.func163 Y Tryz.ntmps163 Y ?_;intro S w R D;unfold cW at h;refine aI (.k (Ix 101 Y Y) (.f [0,1,2,3,4] ?_));refine AE (i:=101) Y fun u=>?_;refine wL (σ':=⟨[(0,.ptr 9000 0),(1,.v Q1 a1),(2,.v Q0 a2),(3,.v Q0 a3),(4,.ptr 101 0)],[(9000,.box 188 [.v Q0 VO,.v Q2 VX] (some (A 9000))),(101,.box 74 [.ptr 9000 0] (some (u)))]⟩) (aC []) ?_;refine cV [0,1,2,3,4,21] ?_;refine aU h Y (fun Q h=>?_) (fun Q h=>?_)
 ·refine aL [0,8] ?_;cases h;exact aH (eK D Y (RV.tmp Y) (.cons Y .nil))
 refine aF ?_;refine aG ?_;refine aG ?_;obtain⟨x6,z,h⟩:=aA h;refine eP (σ':=⟨[(0,.ptr 9000 0),(1,.v Q1 a1),(2,.v Q0 a2),(3,.v Q0 a3),(4,.ptr 101 0),(37,.v Wr.bool x6)],[(9000,.box 188 [.v Q0 VO,.v Q2 VX] (some (A 9000))),(101,.box 74 [.ptr 9000 0] (some (u)))]⟩) ?_ ?_
 ·refine cd z (fun E z=>?_) (fun E z=>?_)
  ·cases z;refine ja 2 ?_;exact(J.k (yP Y Y) jy)
  refine cd z (fun F z=>?_) (fun F z=>?_)
  ·cases z;refine ja 2 ?_;refine(J.k (yP Y Y) ?_);refine ja 4 ?_;exact(J.g E (Az Y Y) jy)
  obtain⟨v9,dz,z⟩:=aA z;cases z;refine ja 2 ?_;refine(J.k (yP Y Y) ?_);refine ja 4 ?_;refine(J.g E (Az Y Y) ?_);refine ja 4 ?_;exact(J.g F (tM (.cons (.dir Y) .nil)) (Zg (GK.met 33 Y Y Y F) (GM (jH dz) Tryz.call203 (.cons (.dir Y) (.fn1 Y Y Y (.VB sO sO) .nil)) XH.v Y) jy))
 refine aU h Y (fun T h=>?_) (fun T h=>?_)
 ·refine aL [0,8] ?_;cases h;exact aH (eK D Y (RV.tmp Y) (.cons Y .nil))
 refine aF ?_;obtain⟨L,aa,h⟩:=aA h;obtain⟨M,V3,h⟩:=aA h;refine aI (.a 1 ?_);refine .k (aM (sC aa) NQ (.cons (.dir Y) .nil)) ?_;refine .a 1 ?_;refine .k (aM (sC V3) NQ (.cons (.dir Y) .nil)) (.k (aN 106 Br Y (.cons (Z.arr 8 (Z.int .u8)) .nil) Y) (.k (aN 107 Br Y (.cons (Z.arr 8 (Z.int .u8)) .nil) Y) (.f [0,1,4,9,10] ?_)));refine aG ?_;refine wL (σ':=⟨[(0,.ptr 9000 0),(1,.v Q1 a1),(4,.ptr 101 0),(9,.XR aO L),(10,.ptr 107 0)],[(9000,.box 188 [.v Q0 VO,.v Q2 VX] (some (A 9000))),(101,.box 74 [.ptr 9000 0] (some (u))),(107,.box 30 [.v aO M])]⟩) (Sw.Sub.mk id (.cons Y (.of_eq Y) (.cons Y (.of_eq Y) (.cons Y (.of_eq Y) (.cons Y (.y6 Y Y (.cons (.of_eq Y) .nil) sO) (.cons Y (.of_eq Y) .nil))))) (.box Y (.cons (.of_eq Y) (.cons (.of_eq Y) .nil)) (.box Y (.cons (.of_eq Y) .nil) (.box Y (.cons (.of_eq Y) .nil) .nil))) Y) ?_;refine wL (σ':=⟨[(0,.ptr 9000 0),(1,.v Q1 a1),(4,.ptr 101 0),(9,.XR aO L),(10,.XR aO M)],[(9000,.box 188 [.v Q0 VO,.v Q2 VX] (some (A 9000))),(101,.box 74 [.ptr 9000 0] (some (u)))]⟩) (Sw.Sub.mk id (.cons Y (.of_eq Y) (.cons Y (.of_eq Y) (.cons Y (.of_eq Y) (.cons Y (.of_eq Y) (.cons Y (.y6 Y Y (.cons (.of_eq Y) .nil) sO) .nil))))) (.box Y (.cons (.of_eq Y) (.cons (.of_eq Y) .nil)) (.box Y (.cons (.of_eq Y) .nil) .nil)) Y) ?_;obtain⟨uv,rq,h⟩:=aA h;obtain⟨aj,N,h⟩:=aA h;obtain⟨zq,rp,h⟩:=aA h;obtain⟨bo,V2,h⟩:=aA h;obtain⟨am,ac,h⟩:=aA h;obtain⟨C,V1,h⟩:=aA h;refine dV 16 mixed (by exact(.k (aD Y) (.k (fI 113000 (eV rq) JJ (.cons (.dir Y) .nil) Y) (.k (aJ Y Y Y Nu Ih) (.k (aK Y) (.k (aB 0 Y wH Y S3 Y Y) (.k (aJ Y Y Y G3 S3) (.k (CM N Y Y Y Y vR S5) (.k (Py rp Y Y Y vR S5) (.k (Le V2 (AF N) Y (.sl Y) tI I5 S5 Y Y Y) (.k (Ec ac Y vR) (.k (bO Y uO kP) (.k (bR wA (.cons (Z.int .i64) (.cons (Z.arr 8 (Z.int .u8)) .nil)) (.cons Y (.dir Y) Y Y Y Y (.cons Y (.dir Y) Y Y Y Y .nil))) (.k (dI (e:=gF) yE jS Ez Y Y Y Y (.cons (.agg Y (.same (.same .nil)) (.VB sO sO) Y) .nil)) (XF.append (.none Y) 114 V1 Y Y (.sl Y) yE Ku jS Y Y Y Y Y (.k (aN 115 Tryz.zeroValue77 Y (.cons (Z.sl gF) .nil) Y) (XF.store (.none Y) Y Y Y Y Y Y Y Ii .nil))))))))))))))))) (by exact(J.kp [0,4,11] [])) ?_;refine aI (.sub (σ':=⟨[(0,.ptr 9000 0),(4,.ptr 101 0),(11,.XR Q1 C)],[(9000,.box 188 [.v Q0 VO,.v Q2 VX] (some (A 9000))),(101,.box 74 [.ptr 9000 0] (some (u)))]⟩) (Sw.Sub.mk id (.cons Y (.of_eq Y) (.cons Y (.of_eq Y) (.cons Y (.y6 Y Y (.cons (.K8 Y Y) .nil) sO) .nil))) (.box Y (.cons (.of_eq Y) (.cons (.of_eq Y) .nil)) (.box Y (.cons (.of_eq Y) .nil) .nil)) Y) (.k (nW .nil (.cons (.l7 Y Y) (.XR Y)) (.l .self)) (.k (rL (e:=(bN (A 9000) (u))) 116 Wl OR SY Y Y Y Y (.cons (.dir Y) .nil)) (.f [0,4,11,12] ?_))));refine cV [0,4,12,59,60,61] ?_;obtain⟨an,ad,ae,ap⟩:=cN h;refine jP (σs:=fun B:Int×(List aE)=>⟨[(0,.ptr 9000 0),(4,.ptr 101 0),(12,.ref 126),(59,.v Q1 C),(60,.v Q0 (C.length:Int)),(61,.v Q0 B.1)],[(9000,.box 188 [.v Q0 VO,.v Q2 VX] (some (A 9000))),(101,.box 74 [.ptr 9000 0] (some (u))),(126,.arr 97 (bN (A 9000) (u)) B.2)]⟩) (fun I:(List aE)=>⟨[(0,.ptr 9000 0),(4,.ptr 101 0),(12,.ref 126)],[(9000,.box 188 [.v Q0 VO,.v Q2 VX] (some (A 9000))),(101,.box 74 [.ptr 9000 0] (some (u))),(126,.arr 97 (bN (A 9000) (u)) I)]⟩) ad (aC [(126,116)]) ?_ ?_
 ·intro I P;have h:=ae _ P;obtain⟨O,af,h⟩:=aA h;obtain⟨G7,rk,h⟩:=aA h;refine aI (.a 2 ?_);refine .k (nW (.l7 Y Y) .nil (.r (.r (.r (.l .self))))) (.k (nW .nil (.l7 Y Y) (.r (.r (.r (.r (.l .self)))))) (.k (aJ Y Y Y Nu Ih) (.k (nW (.l7 Y Y) .nil (.r (.r (.r (.r (.r (.l .self))))))) (.k (aJ Y Y Y Nu Ih) (.k (nW (.l7 Y Y) .nil (.r (.r (.r (.r (.r (.r (.l .self)))))))) (.k (nW .nil (.l7 Y Y) (.r (.r (.r (.r (.r (.r (.r .self)))))))) (.k (dI (e:=(bN (A 9000) (u))) Wl OR SY Y Y Y Y (.cons (.dir Y) (.cons (.dir Y) (.cons (.dir Y) (.cons (.dir Y) (.cons (.dir Y) .nil)))))) (.t (bU 133 af Y Y (.sl Y) Wl Tryz.typeInfo97 OR Y Y Y Y Y) (.sub (σ':=⟨[(0,.ptr 9000 0),(4,.ptr 101 0),(73,.ptr 9000 0),(74,.v (bN (A 9000) (u)) (.inr (.inr (.inr (.inl ((),())))):aE)),(75,.v (bN (A 9000) (u)) (.inr (.inr (.inr (.inr (.inl ((),()))))):aE)),(76,.ptr 9000 0),(77,.v (bN (A 9000) (u)) (.inr (.inr (.inr (.inr (.inr (.inl ((),())))))):aE)),(78,.ptr 9000 0),(79,.v (bN (A 9000) (u)) (.inr (.inr (.inr (.inr (.inr (.inr (.inl ((),()))))))):aE)),(80,.v (bN (A 9000) (u)) (.inr (.inr (.inr (.inr (.inr (.inr (.inr ((),()))))))):aE)),(81,.v (Wr.sl (bN (A 9000) (u))) ([(.inr (.inr (.inr (.inl ((),())))):aE),(.inr (.inr (.inr (.inr (.inl ((),()))))):aE),(.inr (.inr (.inr (.inr (.inr (.inl ((),())))))):aE),(.inr (.inr (.inr (.inr (.inr (.inr (.inl ((),()))))))):aE),(.inr (.inr (.inr (.inr (.inr (.inr (.inr ((),()))))))):aE)]:(List aE))),(82,.v (Wr.sl (bN (A 9000) (u))) O)],[(9000,.box 188 [.v Q0 VO,.v Q2 VX] (some (A 9000))),(101,.box 74 [.ptr 9000 0] (some (u)))]⟩) (aC []) (.t (Iy (H:=[9000,101]) (K:=[9000,101]) [(9000,A 9000),(9100,u)] (Bu [(9000,9000),(9100,101)]) (eO _) ⟨⟨_,_,Y⟩,⟨_,_,Y⟩,trivial⟩ (VG.at2 (ss:=fun U V=>[.v (Wr.sl (bN U V)) O]) (A 9000) u (fun X=>sX X rk)) Tryz.call205 (.cons (.dir Y) .nil) (fun _=> .box Y (.box Y .nil)) (fun _=> .box Y (.box Y .nil Y) Y) (fun _=>rfl) Y Y (fun _=>rfl) Y Y) (.f [0,8] ?_)))))))))));cases h;exact aH (eK D Y (RV.tmp Y) (.cons Y .nil))
 intro B ai h;refine aL [0,4,12,59,60,61,62] ?_;refine aG ?_;refine aU h Y (fun ab h=>?_) (fun ab h=>?_)
 ·refine aF ?_;refine aG ?_;refine bS ?_;obtain⟨G,aq,h⟩:=aA h;refine aI (.a 3 ?_);refine .k (aN 130 Z3 Y (.cons (Z.int .i64) .nil) Y) (.k (aN 131 Ez Y (.cons (Z.int .i64) (.cons (Z.arr 8 (Z.int .u8)) .nil)) Y) ?_);refine .a 1 ?_;refine .t (bX Y Y Y Y (.VB sO sO) jS) (.f [0,4,12,13,14,59,60,61] ?_);refine wL (σ':=⟨[(0,.ptr 9000 0),(4,.ptr 101 0),(12,.ref 126),(13,.XR Q0 B.1),(14,.ptr 131 0),(59,.v Q1 C),(60,.v Q0 (C.length:Int)),(61,.v Q0 B.1)],[(9000,.box 188 [.v Q0 VO,.v Q2 VX] (some (A 9000))),(101,.box 74 [.ptr 9000 0] (some (u))),(126,.arr 97 (bN (A 9000) (u)) B.2),(131,.box 214 [.v Q0 G.1,.v aO G.2])]⟩) (Sw.Sub.mk id (.cons Y (.of_eq Y) (.cons Y (.of_eq Y) (.cons Y (.of_eq Y) (.cons Y (.y6 Y Y (.cons (.of_eq Y) .nil) sO) (.cons Y (.of_eq Y) (.cons Y (.of_eq Y) (.cons Y (.of_eq Y) (.cons Y (.of_eq Y) .nil)))))))) (.box Y (.cons (.of_eq Y) (.cons (.of_eq Y) .nil)) (.box Y (.cons (.of_eq Y) .nil) (.arr Y (.box Y (.cons (.of_eq Y) (.cons (.of_eq Y) .nil)) .nil)))) Y) ?_;obtain⟨au,ah,h⟩:=aA h;refine eM (.a 1 ?_);refine .sub (σ':=⟨[(0,.ptr 9000 0),(4,.ptr 101 0),(12,.ref 126),(13,.XR Q0 B.1),(14,.XR gF G),(59,.v Q1 C),(60,.v Q0 (C.length:Int)),(61,.v Q0 B.1),(66,.ref 126)],[(9000,.box 188 [.v Q0 VO,.v Q2 VX] (some (A 9000))),(101,.box 74 [.ptr 9000 0] (some (u))),(126,.arr 97 (bN (A 9000) (u)) B.2)]⟩) (Sw.Sub.mk id (.cons Y (.of_eq Y) (.cons Y (.of_eq Y) (.cons Y (.of_eq Y) (.cons Y (.of_eq Y) (.cons Y (.y6 Y Y (.cons (.of_eq Y) (.cons (.of_eq Y) .nil)) (.VB sO sO)) (.cons Y (.of_eq Y) (.cons Y (.of_eq Y) (.cons Y (.of_eq Y) (.cons Y (.of_eq Y) .nil))))))))) (.box Y (.cons (.of_eq Y) (.cons (.of_eq Y) .nil)) (.box Y (.cons (.of_eq Y) .nil) (.arr Y .nil))) Y) (.k (nW .nil (.cons (.l7 Y Y) (.cons (.XR Y) (.XR Y))) (.r (.l .self))) (.k (nW .nil (.cons (.l7 Y Y) (.cons (.XR Y) (.XR Y))) (.r (.r (.l .self)))) (.k (dI (e:=(bN (A 9000) (u))) Wl OR SY Y Y Y Y (.cons (.dir Y) (.cons (.dir Y) .nil))) (.t (bU 132 ah Y Y (.sl Y) Wl Tryz.typeInfo97 OR Y Y Y Y Y) (.f [0,4,12,59,60,61] ?_)))));refine aZ ?_;refine dQ [0,4,12,59,60,61] ?_;cases h;exact cF (aC [(126,132)])
 cases h;exact dC (dJ (aC []))
theorem zI(A:Nat->Nat){b0 b1 b2 b3 b4 b5 b6 b7 b8 b9 bA bB bC bD bE bF bG bH bI bJ r}(h:jA b0 b1 b2 b3 b4 b5 b6 b7 b8 b9 bA bB bC bD bE bF bG bH bI bJ=some r):
 VG Tryz.prog 102 [.ptr 9000 1,.ptr 9100 0] [(9000,.box 93 [.v Q0 b0,.v (Wr.ZK (.pointer none) rfl) (),.v Q0 b1,.v Q0 b2,.v Q0 b3,.ref 9050,.v Kt b5,.ref 9051,.v Q0 b7,.v Ns b8,.v Q0 b9,.v Q0 bA,.ref 9052,.v (Wr.ZK (.pointer none) rfl) (),.v Q0 bC,.v Q0 bD,.v Q0 bE,.v Q0 bF,.v (Wr.pr Q0 Q0) bG,.ref 9053] (some (A 9000))),(9100,.box 188 [.v Q0 bI,.v Q2 bJ] (some (A 9100))),(9050,.arr 30 aO b4),(9051,.mp Q0 Q5 b6),(9052,.arr 3 Q0 bB),(9053,.arr 135 (Wr.pr Wr.bool (Wr.pr Wr.bool (Wr.sl (Wr.int .u8)))) bH)] (.v Q9 r.1) [(9000,.box 93 [.v Q0 b0,.ptr 9100 0,.v Q0 b1,.v Q0 r.2.1,.v Q0 r.2.2.1,.ref 400,.v Kt b5,.ref 401,.v Q0 b7,.v Ns b8,.v Q0 b9,.v Q0 bA,.ref 402,.v (Wr.ZK (.pointer none) rfl) (),.v Q0 bC,.v Q0 bD,.v Q0 bE,.v Q0 bF,.v (Wr.pr Q0 Q0) bG,.ref 403] (some (A 9000))),(9100,.box 188 [.v Q0 r.2.2.2.1,.v Q2 r.2.2.2.2] (some (A 9100))),(400,.arr 30 aO b4),(401,.mp Q0 Q5 b6),(402,.arr 3 Q0 bB),(403,.arr 135 (Wr.pr Wr.bool (Wr.pr Wr.bool (Wr.sl (Wr.int .u8)))) bH)]:=by
 refine VG.of Tryz.func102 Y Tryz.ntmps102 Y ?_;intro S w R u;unfold jA at h;refine aL [0,1] ?_;refine aL [0,1] ?_;obtain⟨D,B,h⟩:=aA h;refine aI (.a 1 ?_);refine .k (rN (oO B) Tryz.call162 (.cons (.G2 Y Y (.VB sO sO)) .nil) (XH.WC (.v (.v (.v .nil))))) (.f [0,1,5,6,7] ?_);refine cV [0,1,5,6,7,19] ?_;refine aU h Y (fun z h=>?_) (fun z h=>?_)
 ·refine aL [0,1,4] ?_;cases h;exact aH (eW u Y (aC [(403,9053),(402,9052),(401,9051),(400,9050)]))
 refine aF ?_;refine aL [0,1] ?_;refine aG ?_;obtain⟨E,C,h⟩:=aA h;refine dV 9 mixed (by exact(.k (aD Y) (.k (aD Y) (.k (aK Y) (.k (aB 3 Y Ey Y S3 Y Y) (.k (aJ Y Y Y G3 S3) (.k (aD Y) (.k (aK Y) (.k (aB 4 Y Ey Y S3 Y Y) (.k (aJ Y Y Y G3 S3) .nil)))))))))) (by exact(J.t (uD (H:=[9100]) (K:=[9100]) (Bu [(9000,9100)]) (eO _) (fun A=>gZ A C) JI (.cons (.dir Y) (.cons (.mo _) (.cons (.dir Y) (.cons (.dir Y) .nil)))) (fun A=>(.box Y .nil)) (fun A=>(.box Y .nil Y)) (fun _=>rfl) Y Y (fun _=>rfl) Y Y) (jz [0,1,4]))) ?_;cases h;exact aH (eW u Y (aC [(403,9053),(402,9052),(401,9051),(400,9050)]))
theorem Fb{a0 a1 r}(h:kH a0 a1=some r):
 VS Tryz.prog 76 [.XR (Wr.pr Q0 Q2) a0,.v Q0 a1] (.WC [.v aO r.1,.v Q9 r.2]) []:=by
 refine VS.of Tryz.func76 Y Tryz.ntmps76 Y ?_;intro S w A;unfold kH at h;refine aI (.k (aN 101 Br Y (.cons (Z.arr 8 (Z.int .u8)) .nil) Y) (.f [0,1,4] ?_));refine aG ?_;refine aG ?_;obtain⟨D,u,h⟩:=aA h;refine eP (σ':=⟨[(0,.XR (Wr.pr Q0 Q2) a0),(1,.v Q0 a1),(4,.ptr 101 0),(15,.v Wr.bool D)],[(101,.box 30 [.v aO aS])]⟩) ?_ ?_
 ·refine cd u (fun z u=>?_) (fun z u=>?_)
  ·cases u;exact jy
  cases u;refine ja 5 ?_;exact(J.g z (rM Y) (J.g z (cG Y wH Y S3 Y (.fst .here) Y) jy))
 refine aU h Y (fun C h=>?_) (fun C h=>?_)
 ·refine aI (.k (dE (e:=aO) (v:=aS) Bq vR I5 Y Y (Z.arr 8 (Z.int .u8))) (.f [4,5] ?_));refine aH ?_;obtain rfl:=pT h;exact cB (σ':=⟨[(4,.ptr 90 0),(5,.v Q9 (some (1:Int)))],[(90,.box 30 [.v aO aS])]⟩) (aC [(90,101)]) (bT A dS Y (cL Y Y Y uO kP) (RV.tmp Y) .nil Y)
 refine aF ?_;obtain⟨B,E,h⟩:=aA h;refine aI (.a 1 ?_);refine .k (rM Y) (.k (cG Y wH Y lE Y (.snd .here) Y) ?_);refine .a 2 ?_;refine .k (aM (qG E) EG (.cons (.dir Y) (.cons (.dir Y) .nil))) (.f [4,5] ?_);refine aH ?_;obtain rfl:=pT h;exact cB (σ':=⟨[(4,.ptr 90 0),(5,.v Q9 B.2)],[(90,.box 30 [.v aO B.1])]⟩) (aC [(90,101)]) (bT A dS Y (cL Y Y Y uO kP) (RV.tmp Y) .nil Y)
theorem kU{a0 r}(h:fY a0=some r):
 VS Tryz.prog 48 [.XR (Wr.pr Q0 Q2) a0] (.WC [.ref 0,.v Q9 r.2]) [(0,.arr 30 aO r.1)]:=by
 refine VS.of Tryz.func48 Y Tryz.ntmps48 Y ?_;intro S w z;unfold fY at h;refine aI (.k (aR 101 30 aO) (.f [0] ?_));refine aI (.k (aR 102 30 aO) (.f [0,4] ?_));refine jM (.a 1 ?_);refine .k (rM Y) (.k (cG Y wH Y S3 Y (.fst .here) Y) (.f [0,4,11,12] ?_));obtain⟨M,F,G,H⟩:=cN h;refine jP (σs:=fun u:Int×jO=>⟨[(0,.XR (Wr.pr Q0 Q2) a0),(4,.ref 114),(11,.v Q0 a0.1),(12,.v Q0 u.1)],[(114,.arr 30 aO u.2)]⟩) (fun A:jO=>⟨[(4,.ref 114)],[(114,.arr 30 aO A)]⟩) F (aC [(114,102)]) ?_ ?_
 ·intro A B;have h:=G _ B;refine aL [2,3] ?_;cases h;exact aH (wN z dS Y (aC [(0,114)]))
 intro u L h;refine aL [0,4,11,12,13] ?_;refine aG ?_;refine aU h Y (fun C h=>?_) (fun C h=>?_)
 ·refine aF ?_;refine aG ?_;refine bS ?_;refine aL [0,4,5,11,12] ?_;obtain⟨N,I,h⟩:=aA h;refine aI (.a 2 ?_);refine .k (aM (Fb I) Tryz.call76 (.cons (.dir Y) (.cons (.dir Y) .nil))) ?_;refine .a 3 ?_;refine .k (aN 120 Br Y (.cons (Z.arr 8 (Z.int .u8)) .nil) Y) (.f [0,4,6,7,11,12] ?_);refine cV [0,4,6,7,11,12,22] ?_;refine aU h Y (fun D h=>?_) (fun D h=>?_)
  ·refine aI (.a 1 ?_);refine .k (aR 121 30 aO) (.f [2,3] ?_);refine aH ?_;refine eR ?_;cases h;refine hX fun E=>?_;obtain rfl:=H _ E;exact wN z dS Y (aC [(0,121)])
  refine aF ?_;obtain⟨O,K,h⟩:=aA h;refine eM (.a 2 ?_);refine .k (dI (e:=aO) Jm kP Br Y Y Y Y (.cons (.dir Y) .nil)) (.t (bU 122 K Y Y (.sl Y) Jm Bq kP Y Y Y Y Y) (.f [0,4,11,12] ?_));refine aZ ?_;refine dQ [0,4,11,12] ?_;cases h;exact cF (aC [(114,122)])
 cases h;exact dC (dJ (aC []))
theorem vF(A:Nat->Nat){b0 b1 b2 b3 b4 b5 b6 b7 b8 b9 bA bB bC bD bE bF bG bH bI bJ r}(h:fL b0 b1 b2 b3 b4 b5 b6 b7 b8 b9 bA bB bC bD bE bF bG bH bI bJ=some r):
 VG Tryz.prog 103 [.ptr 9000 1] [(9000,.box 93 [.v Q0 b0,.ptr 9100 0,.v Q0 b1,.v Q0 b2,.v Q0 b3,.ref 9050,.v Kt b5,.ref 9051,.v Q0 b7,.v Ns b8,.v Q0 b9,.v Q0 bA,.ref 9052,.v (Wr.ZK (.pointer none) rfl) (),.v Q0 bC,.v Q0 bD,.v Q0 bE,.v Q0 bF,.v (Wr.pr Q0 Q0) bG,.ref 9053] (some (A 9000))),(9100,.box 188 [.v Q0 bI,.v Q2 bJ] (some (A 9100))),(9050,.arr 30 aO b4),(9051,.mp Q0 Q5 b6),(9052,.arr 3 Q0 bB),(9053,.arr 135 (Wr.pr Wr.bool (Wr.pr Wr.bool (Wr.sl (Wr.int .u8)))) bH)] (.WC []) [(9000,.box 93 [.v Q0 b0,.ptr 9100 0,.v Q0 b1,.v Q0 b2,.v Q0 b3,.ref 400,.v Kt b5,.ref 401,.v Q0 b7,.v Ns b8,.v Q0 b9,.v Q0 bA,.ref 402,.v (Wr.ZK (.pointer none) rfl) (),.v Q0 bC,.v Q0 bD,.v Q0 bE,.v Q0 bF,.v (Wr.pr Q0 Q0) bG,.ref 403] (some (A 9000))),(9100,.box 188 [.v Q0 bI,.v Q2 bJ] (some (A 9100))),(400,.arr 30 aO b4),(401,.mp Q0 Q5 r),(402,.arr 3 Q0 bB),(403,.arr 135 (Wr.pr Wr.bool (Wr.pr Wr.bool (Wr.sl (Wr.int .u8)))) bH)]:=by
 refine VG.of Tryz.func103 Y Tryz.ntmps103 Y ?_;intro S w R u;unfold fL at h;refine aG ?_;obtain⟨D,z,h⟩:=aA h;obtain⟨B,C,h⟩:=aA h;refine dV 14 mixed (by exact(.k (aD Y) (.k (aK Y) (.k (aB 10 Y vS Y Yy Y Y) (.k (aJ Y Y Y ON Yy) (.k (aD Y) (.k (aK Y) (.k (aB 1 Y vS Y Kv Y Y) (.k (aB 3 Y Ey Y S3 Y Y) (.k (aJ Y Y Y G3 S3) (.k (aD Y) (.k (aK Y) (.k (aB 5 Y vS Y yD Y Y) (.k (aJ Y Y Y Ti yD) (.k (Pv (qW 102000 (cP z) Yw (.cons (.ref Y Y) .nil) Y XH.ref (YE.arr YE.nil)) (fun _=>(Sw.Sub.mk id (.cons Y (.K8 Y Y) .nil) .nil Y)) Y) .nil))))))))))))))) (by exact(J.t (Mr C Y Y Y Y QN U3 (n5.int U3) Y) (J.kp [0] []))) ?_;refine dV 11 mixed (by exact(.k (aD Y) (.k (aK Y) (.k (aB 10 Y vS Y Yy Y Y) (.k (aJ Y Y Y ON Yy) (.k (aD Y) (.k (aK Y) (.k (aB 1 Y vS Y Kv Y Y) (.k (aB 3 Y Ey Y S3 Y Y) (.k (aJ Y Y Y G3 S3) (.k (cU Y Y Y) (.k (cU Y Y Y) .nil)))))))))))) (by exact(J.t (Ms Y Y Y QN U3 (n5.int U3) Y) (J.kp [0] []))) ?_;refine Zh ?_;obtain rfl:=pT h;exact cB (σ':=⟨[(0,.ptr 9000 1)],[(9000,.box 93 [.v Q0 b0,.ptr 9100 0,.v Q0 b1,.v Q0 b2,.v Q0 b3,.ref 400,.v Kt b5,.ref 401,.v Q0 b7,.v Ns b8,.v Q0 b9,.v Q0 bA,.ref 402,.v (Wr.ZK (.pointer none) Y) (),.v Q0 bC,.v Q0 bD,.v Q0 bE,.v Q0 bF,.v (Wr.pr Q0 Q0) bG,.ref 403] (some (A 9000))),(9100,.box 188 [.v Q0 bI,.v Q2 bJ] (some (A 9100))),(400,.arr 30 aO b4),(401,.mp Q0 Q5 (Gb B (ar .sub .i64 (ar .sub .i64 b2 (4:Int)) (1:Int)))),(402,.arr 3 Q0 bB),(403,.arr 135 (Wr.pr Wr.bool (Wr.pr Wr.bool (Wr.sl (Wr.int .u8)))) bH)]⟩) (aC [(403,9053),(402,9052),(401,9051),(400,9050)]) (Eg u Y (.cons Y (.cons Y (.cons Y (.cons Y (.cons Y (.cons Y .nil)))))))
theorem pY(A:Nat->Nat){b0 b1 b2 b3 b4 b5 b6 b7 b8 b9 bA bB bC bD bE bF bG bH bI bJ r}(h:fB b0 b1 b2 b3 b4 b5 b6 b7 b8 b9 bA bB bC bD bE bF bG bH bI bJ=some r):
 VG Tryz.prog 70 [.ptr 9000 0,.ptr 9100 0] [(9000,.box 93 [.v Q0 b0,.v (Wr.ZK (.pointer none) rfl) (),.v Q0 b1,.v Q0 b2,.v Q0 b3,.v Q5 b4,.v Kt b5,.v (Wr.U9 Q0 Q5) b6,.v Q0 b7,.v Ns b8,.v Q0 b9,.v Q0 bA,.v mD bB,.v (Wr.ZK (.pointer none) rfl) (),.v Q0 bC,.v Q0 bD,.v Q0 bE,.v Q0 bF,.v (Wr.pr Q0 Q0) bG,.ref 9050] (some (A 9000))),(9100,.box 188 [.v Q0 bI,.v Q2 bJ] (some (A 9100))),(9050,.arr 135 (Wr.pr Wr.bool (Wr.pr Wr.bool (Wr.sl (Wr.int .u8)))) bH)] (.v Q9 r.1) [(9000,.box 93 [.v Q0 b0,.ptr 9100 0,.v Q0 r.2.1,.v Q0 r.2.2.1,.v Q0 r.2.2.2.1,.ref 400,.v Kt r.2.2.2.2.2.1,.ref 401,.v Q0 r.2.2.2.2.2.2.2.1,.v Ns r.2.2.2.2.2.2.2.2.1,.v Q0 r.2.2.2.2.2.2.2.2.2.1,.v Q0 r.2.2.2.2.2.2.2.2.2.2.1,.ref 402,.v (Wr.ZK (.pointer none) rfl) (),.v Q0 bC,.v Q0 bD,.v Q0 bE,.v Q0 bF,.v (Wr.pr Q0 Q0) bG,.ref 403] (some (A 9000))),(9100,.box 188 [.v Q0 r.2.2.2.2.2.2.2.2.2.2.2.2.1,.v Q2 r.2.2.2.2.2.2.2.2.2.2.2.2.2] (some (A 9100))),(400,.arr 30 aO r.2.2.2.2.1),(401,.mp Q0 Q5 r.2.2.2.2.2.2.1),(402,.arr 3 Q0 r.2.2.2.2.2.2.2.2.2.2.2.1),(403,.arr 135 (Wr.pr Wr.bool (Wr.pr Wr.bool (Wr.sl (Wr.int .u8)))) bH)]:=by
 refine VG.of Tryz.func70 Y Tryz.ntmps70 Y ?_;intro S w R z;unfold fB at h;refine aL [0,1] ?_;refine aI (.a 5 ?_);refine .k (bR Lo (.cons (Z.ZK (u:=(.pointer none)) Y) (.cons (Z.int .i64) (.cons (Z.int .i64) (.cons (Z.int .i64) .nil)))) (.cons Y (.dir Y) Y Y Y Y .nil)) (.k (Fw 101 Q0 Q5) (.k (fH (new:=[(103,.arr 30 aO ([]:jO)),(102,.arr 3 Q0 ([]:kS))]) BU (.cons (Z.ZK (u:=(.pointer none)) Y) (.cons (Z.int .i64) (.cons (Z.int .i64) (.cons (Z.int .i64) (.ref 103 Y (.cons (Z.pr (Z.int .i64) (Z.pr (Z.sl gF) (Z.pr (Z.sl pC) Z.bool))) (.cons (Z.U9 Q0 Q5) (.cons (Z.int .i64) (.cons (Z.pr (Z.int .i64) (Z.pr (Z.int .i64) (Z.sl Q8))) (.cons (Z.int .i64) (.cons (Z.int .i64) (.ref 102 Y .nil)))))))))))) (.cons (.cons .nil)) Y (.agg 0 4 Y Y Y Y Y Y (.cons Y (.dir Y) Y Y Y Y (.cons Y (.dir Y) Y Y Y Y .nil)))) ?_));refine .a 2 ?_;refine .t (vQ 1 12 Y Y Y Y Y Y Y OQ) (.f [0,1] ?_);obtain⟨F,C,h⟩:=aA h;refine jM (.a 5 ?_);refine .t (eQ [9000,9100,103,101,102,9050] (vV [(9000,9000),(9100,9100),(9050,103),(9051,101),(9052,102),(9053,9050),(400,104),(401,105),(402,106),(403,107)]) (dK Y) (fun A=>zI A C) NJ (fun A=>(.box Y (.box Y (.arr (.mp (.arr (.arr .nil Y) Y) Y) Y) Y) Y))) (.f [0,1,5] ?_);refine aL [0,1,5,25] ?_;refine aU h Y (fun B h=>?_) (fun B h=>?_)
 ·refine aL [0,1,4] ?_;cases h;exact aH (eW z Y (aC [(403,107),(402,106),(401,105),(400,104)]))
 refine aF ?_;obtain⟨G,D,h⟩:=aA h;refine aI (.a 1 ?_);refine .k (qW 108000 (kU D) SM (.cons (.G2 Y Y (.VB sO sO)) .nil) Y (XH.WC (.ref (.v .nil))) (YE.arr YE.nil)) (.f [0,1,6,7] ?_);refine aL [0,1,7] ?_;refine aI (.a 7 ?_);refine .k (Be (bR yX (.cons (Z.int .i64) (.cons (Z.sl gF) (.cons (Z.sl pC) (.cons Z.bool .nil)))) (.cons Y (.dir Y) Y Y Y Y (.cons Y (.dir Y) Y Y Y Y .nil))) (.VB sO (.VB sO (.VB sO sO))) Y) (.f [0,1,7] ?_);obtain⟨H,E,h⟩:=aA h;refine aI (.a 3 ?_);refine .t (eQ [9000,9100,108000,105,106,107] (vV [(9000,9000),(9100,9100),(9050,108000),(9051,105),(9052,106),(9053,107),(400,109),(401,110),(402,111),(403,112)]) (dK Y) (fun A=>vF A E) Tryz.call103 (fun A=>(.box Y (.box Y (.arr (.mp (.arr (.arr .nil Y) Y) Y) Y) Y) Y))) (.f [0,1,7] ?_);refine aL [0,1,4] ?_;cases h;exact aH (eW z Y (aC [(403,112),(402,111),(401,110),(400,109)]))
theorem sF(A:Nat->Nat){b0 b1 b2 b3 b4 b5 b6 b7 b8 b9 bA bB bC bD bE bF bG bH bI bJ bK bL r}(h:gD b0 b1 b2 b3 b4 b5 b6 b7 b8 b9 bA bB bC bD bE bF bG bH bI bJ bK bL=some r):
 VG Tryz.prog 102 [.ptr 9000 18,.ptr 9200 0] [(9000,.box 93 [.v Q0 b0,.ptr 9100 0,.v Q0 b1,.v Q0 b2,.v Q0 b3,.ref 9050,.v Kt b5,.ref 9051,.v Q0 b7,.v Ns b8,.v Q0 b9,.v Q0 bA,.ref 9052,.v (Wr.ZK (.pointer none) rfl) (),.v Q0 bC,.v Q0 bD,.v Q0 bE,.v Q0 bF,.v (Wr.pr Q0 Q0) bG,.ref 9053] (some (A 9000))),(9100,.box 188 [.v Q0 bI,.v Q2 bJ] (some (A 9100))),(9200,.box 188 [.v Q0 bK,.v Q2 bL] (some (A 9200))),(9050,.arr 30 aO b4),(9051,.mp Q0 Q5 b6),(9052,.arr 3 Q0 bB),(9053,.arr 135 (Wr.pr Wr.bool (Wr.pr Wr.bool (Wr.sl (Wr.int .u8)))) bH)] (.v Q9 r.1) (kO 9000 (some (A 9000)) 9100 (some (A 9100)) 9200 (some (A 9200)) 400 401 402 403 b0 b1 b2 b3 b4 b5 b6 b7 b8 b9 bA bB bC r.2.1 r.2.2.1 bF bG bH bI bJ r.2.2.2.1 r.2.2.2.2):=by
 refine VG.of Tryz.func102 Y Tryz.ntmps102 Y ?_;intro S w R u;unfold gD at h;refine aL [0,1] ?_;refine aL [0,1] ?_;obtain⟨D,B,h⟩:=aA h;refine aI (.a 1 ?_);refine .k (rN (oO B) Tryz.call162 (.cons (.G2 Y Y (.VB sO sO)) .nil) (XH.WC (.v (.v (.v .nil))))) (.f [0,1,5,6,7] ?_);refine cV [0,1,5,6,7,19] ?_;refine aU h Y (fun z h=>?_) (fun z h=>?_)
 ·refine aL [0,1,4] ?_;cases h;exact aH (eW u Y (aC [(403,9053),(402,9052),(401,9051),(400,9050)]))
 refine aF ?_;refine aL [0,1] ?_;refine aG ?_;obtain⟨E,C,h⟩:=aA h;refine dV 9 mixed (by exact(.k (aD Y) (.k (aD Y) (.k (aK Y) (.k (aB 20 Y Ey Y S3 Y Y) (.k (aJ Y Y Y G3 S3) (.k (aD Y) (.k (aK Y) (.k (aB 21 Y Ey Y S3 Y Y) (.k (aJ Y Y Y G3 S3) .nil)))))))))) (by exact(J.t (uD (H:=[9200]) (K:=[9200]) (Bu [(9000,9200)]) (eO _) (fun A=>gZ A C) JI (.cons (.dir Y) (.cons (.mo _) (.cons (.dir Y) (.cons (.dir Y) .nil)))) (fun A=>(.box Y .nil)) (fun A=>(.box Y .nil Y)) (fun _=>rfl) Y Y (fun _=>rfl) Y Y) (jz [0,1,4]))) ?_;cases h;exact aH (eW u Y (aC [(403,9053),(402,9052),(401,9051),(400,9050)]))
end Go.Cn
set_option maxRecDepth 100000
set_option maxHeartbeats 4000000
namespace Go.Cn
open Go Go.Sw Go.Mo Go.Proofs
variable {gobj:Obj}
theorem wI(A:Nat->Nat){b0 b1 b2 b3 b4 b5 b6 b7 b8 b9 bA bB bC bD bE bF bG bH bI bJ bK bL r}(h:gK b0 b1 b2 b3 b4 b5 b6 b7 b8 b9 bA bB bC bD bE bF bG bH bI bJ bK bL=some r):
 VG Tryz.prog 71 [.ptr 9000 0,.ptr 9200 0] [(9000,.box 93 [.v Q0 b0,.ptr 9100 0,.v Q0 b1,.v Q0 b2,.v Q0 b3,.ref 9050,.v Kt b5,.ref 9051,.v Q0 b7,.v Ns b8,.v Q0 b9,.v Q0 bA,.ref 9052,.v (Wr.ZK (.pointer none) rfl) (),.v Q0 bC,.v Q0 bD,.v Q0 bE,.v Q0 bF,.v (Wr.pr Q0 Q0) bG,.ref 9053] (some (A 9000))),(9100,.box 188 [.v Q0 bI,.v Q2 bJ] (some (A 9100))),(9200,.box 188 [.v Q0 bK,.v Q2 bL] (some (A 9200))),(9050,.arr 30 aO b4),(9051,.mp Q0 Q5 b6),(9052,.arr 3 Q0 bB),(9053,.arr 135 (Wr.pr Wr.bool (Wr.pr Wr.bool (Wr.sl (Wr.int .u8)))) bH)] (.v Q9 r.1) (kO 9000 (some (A 9000)) 9100 (some (A 9100)) 9200 (some (A 9200)) 400 401 402 403 b0 b1 b2 b3 b4 b5 b6 b7 b8 b9 bA bB r.2.1 r.2.2.1 r.2.2.2.1 r.2.2.2.2.1 r.2.2.2.2.2.1 bH bI bJ r.2.2.2.2.2.2.1 r.2.2.2.2.2.2.2):=by
 refine VG.of Tryz.func71 Y Tryz.ntmps71 Y ?_;intro S w R z;unfold gK at h;refine aL [0,1] ?_;refine aI (.a 5 ?_);refine .k (bR Lo (.cons (Z.ZK (u:=(.pointer none)) Y) (.cons (Z.int .i64) (.cons (Z.int .i64) (.cons (Z.int .i64) .nil)))) (.cons Y (.dir Y) Y Y Y Y .nil)) (.k (bR Lp (.cons (Z.int .i64) (.cons (Z.int .i64) .nil)) (.cons Y (.dir Y) Y Y Y Y .nil)) (.k (bR BV (.cons (Z.ZK (u:=(.pointer none)) Y) (.cons (Z.int .i64) (.cons (Z.int .i64) (.cons (Z.int .i64) (.cons (Z.int .i64) (.cons (Z.pr (Z.int .i64) (Z.int .i64)) .nil)))))) (.agg 0 4 Y Y Y Y Y Y (.cons Y (.dir Y) Y Y Y Y (.cons Y (.agg Y (.same (.same .nil)) (.VB sO sO) Y) Y Y Y Y .nil)))) ?_));refine .a 2 ?_;refine .t (vQ 13 6 Y Y Y Y Y Y Y SU) (.f [0,1] ?_);obtain⟨C,B,h⟩:=aA h;refine aI (.a 5 ?_);refine .t (eQ [9000,9100,9200,9050,9051,9052,9053] (vV [(9000,9000),(9100,9100),(9200,9200),(9050,9050),(9051,9051),(9052,9052),(9053,9053),(400,101),(401,102),(402,103),(403,104)]) (dK Y) (fun A=>sF A B) NJ (fun A=>(.box Y (.box Y (.box Y (.arr (.mp (.arr (.arr .nil Y) Y) Y) Y) Y) Y) Y))) (.f [0,1,4] ?_);cases h;exact aH (eW z Y (aC [(403,104),(402,103),(401,102),(400,101)]))
def vG(r:(Option Q3)×(Option Int)):Slot:=match r.1 with | none=> .WC [.v (Wr.ZK (.pointer none) rfl) (),.v Q9 r.2] | some z=> .WC [.ptr 300 0,.v Q9 r.2]
def vH(r:(Option Q3)×(Option Int)):List (Nat×VH):=match r.1 with | none=>[] | some z=>(Ta 300 none 301 none 302 none 400 401 402 403 z)
theorem Ah{a0 r}(h:iG a0=some r):
 VS Tryz.prog 42 [.v Q0 a0] (vG r) (vH r):=by
 refine VS.of Tryz.func42 Y Tryz.ntmps42 Y ?_;intro S w z;unfold iG at h;refine aI (.k (eC Y) (.f [0] ?_));refine aI (.a 1 ?_);refine .k (fH (new:=[(101,.arr 135 (Wr.pr Wr.bool (Wr.pr Wr.bool (Wr.sl (Wr.int .u8)))) ([]:Yv))]) NX (.cons (Z.int .i64) (.cons (Z.ZK (u:=(.pointer none)) Y) (.cons (Z.int .i64) (.cons (Z.int .i64) (.cons (Z.int .i64) (.cons (Z.sl aO) (.cons (Z.pr (Z.int .i64) (Z.pr (Z.sl gF) (Z.pr (Z.sl pC) Z.bool))) (.cons (Z.U9 Q0 Q5) (.cons (Z.int .i64) (.cons (Z.pr (Z.int .i64) (Z.pr (Z.int .i64) (Z.sl Q8))) (.cons (Z.int .i64) (.cons (Z.int .i64) (.cons (Z.sl Q0) (.cons (Z.ZK (u:=(.pointer none)) Y) (.cons (Z.int .i64) (.cons (Z.int .i64) (.cons (Z.int .i64) (.cons (Z.int .i64) (.cons (Z.pr (Z.int .i64) (Z.int .i64)) (.ref 101 Y .nil)))))))))))))))))))) (.cons .nil) Y (.cons Y (.dir Y) Y Y Y Y .nil)) (.k (zP 102 Y Y) (.f [0,4] ?_));refine aG ?_;obtain⟨N,B,h⟩:=aA h;rcases C5:N.1 with _ | z2
 ·replace h:=vO C5 h;refine eM (.a 1 ?_);refine .k (aM (tJ C5 B) RC (.cons (.dir Y) .nil)) (.f [0,4,5,6] ?_);refine cV [0,4,5,6,18] ?_;refine aU h Y (fun E h=>?_) (fun E h=>?_)
  ·refine aI (.a 1 ?_);refine .k (eC Y) (.f [2,3] ?_);cases h;exact aH (bT z dS Y (RV.tmp Y) (RV.tmp Y) .nil Y)
  refine aF ?_;refine aG ?_;obtain⟨O,C,h⟩:=aA h;rcases ox:O.1 with _ | z5
  ·replace h:=vO ox h;refine eM (.a 1 ?_);refine .k (aM (tJ ox C) RC (.cons (.dir Y) .nil)) (.f [0,4,5,6,7] ?_);refine cV [0,4,5,6,7,26] ?_;refine aU h Y (fun F h=>?_) (fun F h=>?_)
   ·refine aI (.a 1 ?_);refine .k (eC Y) (.f [2,3] ?_);cases h;exact aH (bT z dS Y (RV.tmp Y) (RV.tmp Y) .nil Y)
   refine aF ?_;refine aL [4,5,7] ?_;refine aG ?_;refine aG ?_;cases h
  ·replace h:=vP ox h;refine eM (.a 1 ?_);refine .k (fI 105000 (tK ox C) RC (.cons (.dir Y) .nil) Y) (.f [0,4,5,6,7] ?_);refine cV [0,4,5,6,7,26] ?_;refine aU h Y (fun G h=>?_) (fun G h=>?_)
   ·refine aI (.a 1 ?_);refine .k (eC Y) (.f [2,3] ?_);cases h;exact aH (bT z dS Y (RV.tmp Y) (RV.tmp Y) .nil Y)
   refine aF ?_;refine aL [4,5,7] ?_;refine aG ?_;refine aG ?_;cases h
 ·replace h:=vP C5 h;refine eM (.a 1 ?_);refine .k (fI 106000 (tK C5 B) RC (.cons (.dir Y) .nil) Y) (.f [0,4,5,6] ?_);refine cV [0,4,5,6,18] ?_;refine aU h Y (fun H h=>?_) (fun H h=>?_)
  ·refine aI (.a 1 ?_);refine .k (eC Y) (.f [2,3] ?_);cases h;exact aH (bT z dS Y (RV.tmp Y) (RV.tmp Y) .nil Y)
  refine aF ?_;refine aG ?_;obtain⟨P,D,h⟩:=aA h;rcases my:P.1 with _ | Y1
  ·replace h:=vO my h;refine eM (.a 1 ?_);refine .k (aM (tJ my D) RC (.cons (.dir Y) .nil)) (.f [0,4,5,6,7] ?_);refine cV [0,4,5,6,7,26] ?_;refine aU h Y (fun I h=>?_) (fun I h=>?_)
   ·refine aI (.a 1 ?_);refine .k (eC Y) (.f [2,3] ?_);cases h;exact aH (bT z dS Y (RV.tmp Y) (RV.tmp Y) .nil Y)
   refine aF ?_;refine aL [4,5,7] ?_;obtain⟨U,Q,h⟩:=aA h;refine jM (.a 2 ?_);refine .t (eQ [102,106000,101] (vV [(9000,102),(9100,106000),(9050,101),(400,108),(401,109),(402,110),(403,111)]) (dK Y) (fun A=>pY A Q) Tryz.call70 (fun A=>(.box Y (.box Y (.arr (.mp (.arr (.arr .nil Y) Y) Y) Y) Y) Y))) (.f [4,7,8] ?_);refine aL [4,7,8,44] ?_;refine aU h Y (fun K h=>?_) (fun K h=>?_)
   ·refine aI (.a 1 ?_);refine .k (eC Y) (.f [2,3] ?_);cases h;exact aH (bT z dS Y (RV.tmp Y) (RV.tmp Y) .nil Y)
   refine aF ?_;refine aG ?_;cases h
  ·replace h:=vP my h;refine eM (.a 1 ?_);refine .k (fI 112000 (tK my D) RC (.cons (.dir Y) .nil) Y) (.f [0,4,5,6,7] ?_);refine cV [0,4,5,6,7,26] ?_;refine aU h Y (fun L h=>?_) (fun L h=>?_)
   ·refine aI (.a 1 ?_);refine .k (eC Y) (.f [2,3] ?_);cases h;exact aH (bT z dS Y (RV.tmp Y) (RV.tmp Y) .nil Y)
   refine aF ?_;refine aL [4,5,7] ?_;obtain⟨V,R,h⟩:=aA h;refine jM (.a 2 ?_);refine .t (eQ [102,106000,101] (vV [(9000,102),(9100,106000),(9050,101),(400,113),(401,114),(402,115),(403,116)]) (dK Y) (fun A=>pY A R) Tryz.call70 (fun A=>(.box Y (.box Y (.arr (.mp (.arr (.arr .nil Y) Y) Y) Y) Y) Y))) (.f [4,7,8] ?_);refine aL [4,7,8,44] ?_;refine aU h Y (fun M h=>?_) (fun M h=>?_)
   ·refine aI (.a 1 ?_);refine .k (eC Y) (.f [2,3] ?_);cases h;exact aH (bT z dS Y (RV.tmp Y) (RV.tmp Y) .nil Y)
   refine aF ?_;obtain⟨X,T,h⟩:=aA h;refine aI (.a 3 ?_);refine .t (eQ [102,106000,112000,113,114,115,116] (vV [(9000,102),(9100,106000),(9200,112000),(9050,113),(9051,114),(9052,115),(9053,116),(400,117),(401,118),(402,119),(403,120)]) (dK Y) (fun A=>wI A T) Tryz.call71 (fun A=>(.box Y (.box Y (.box Y (.arr (.mp (.arr (.arr .nil Y) Y) Y) Y) Y) Y) Y))) (.f [2,3] ?_);cases h;exact aH (wN z dS Y (aC [(300,102),(403,120),(302,112000),(402,119),(401,118),(400,117),(301,106000)]))
theorem Gm{a0:Int}{r:(Option Q3)×(Option Int)}(hz:r.1=none)(h:iG a0=some r):VS Tryz.prog 42 [.v Q0 a0] (.WC [.v (Wr.ZK (.pointer none) rfl) (),.v Q9 r.2]) []:=by
 have:=Ah h;unfold vG vH at this;rw[hz] at this;exact this
theorem Gn{a0:Int}{r:(Option Q3)×(Option Int)}{z:Q3}(hz:r.1=some z)(h:iG a0=some r):VS Tryz.prog 42 [.v Q0 a0] (.WC [.ptr 300 0,.v Q9 r.2]) (Ta 300 none 301 none 302 none 400 401 402 403 z):=by
 have:=Ah h;unfold vG vH at this;rw[hz] at this;exact this
theorem Jr{a0 r}(h:uF a0=some r):
 VS Tryz.prog 72 [.v Q0 a0] (.v (El [104,106,107,109,111,112,113,115,117,119,120]) r) []:=by
 refine VS.of Tryz.func72 Y Tryz.ntmps72 Y ?_;intro S w u;unfold uF at h;refine aI (.k (Bw [104,106,107,109,111,112,113,115,117,119,120] 11 Y) (.f [0] ?_));refine cV [3] ?_;refine bS ?_;refine aL [3,4] ?_;refine aU h Y (fun z h=>?_) (fun z h=>?_)
 ·refine aI (.k (qZ [104,106,107,109,111,112,113,115,117,119,120] 0 Y lN) (.f [2] ?_));refine aH ?_;refine eR ?_;cases h;exact aY u dS Y (RV.tmp Y) .nil Y
 refine aL [3,6] ?_;refine aU h Y (fun A h=>?_) (fun A h=>?_)
 ·refine aI (.k (qZ [104,106,107,109,111,112,113,115,117,119,120] 1 Y lN) (.f [2] ?_));refine aH ?_;refine eR ?_;cases h;exact aY u dS Y (RV.tmp Y) .nil Y
 refine aL [3,8] ?_;refine aU h Y (fun B h=>?_) (fun B h=>?_)
 ·refine aI (.k (qZ [104,106,107,109,111,112,113,115,117,119,120] 2 Y lN) (.f [2] ?_));refine aH ?_;refine eR ?_;cases h;exact aY u dS Y (RV.tmp Y) .nil Y
 refine aL [3,10] ?_;refine aU h Y (fun C h=>?_) (fun C h=>?_)
 ·refine aI (.k (qZ [104,106,107,109,111,112,113,115,117,119,120] 3 Y lN) (.f [2] ?_));refine aH ?_;refine eR ?_;cases h;exact aY u dS Y (RV.tmp Y) .nil Y
 refine aL [3,12] ?_;refine aU h Y (fun D h=>?_) (fun D h=>?_)
 ·refine aI (.k (qZ [104,106,107,109,111,112,113,115,117,119,120] 4 Y lN) (.f [2] ?_));refine aH ?_;refine eR ?_;cases h;exact aY u dS Y (RV.tmp Y) .nil Y
 refine aL [3,14] ?_;refine aU h Y (fun E h=>?_) (fun E h=>?_)
 ·refine aI (.k (qZ [104,106,107,109,111,112,113,115,117,119,120] 5 Y lN) (.f [2] ?_));refine aH ?_;refine eR ?_;cases h;exact aY u dS Y (RV.tmp Y) .nil Y
 refine aL [3,16] ?_;refine aU h Y (fun F h=>?_) (fun F h=>?_)
 ·refine aI (.k (qZ [104,106,107,109,111,112,113,115,117,119,120] 6 Y lN) (.f [2] ?_));refine aH ?_;refine eR ?_;cases h;exact aY u dS Y (RV.tmp Y) .nil Y
 refine aL [3,18] ?_;refine aU h Y (fun G h=>?_) (fun G h=>?_)
 ·refine aI (.k (qZ [104,106,107,109,111,112,113,115,117,119,120] 7 Y lN) (.f [2] ?_));refine aH ?_;refine eR ?_;cases h;exact aY u dS Y (RV.tmp Y) .nil Y
 refine aL [3,20] ?_;refine aU h Y (fun H h=>?_) (fun H h=>?_)
 ·refine aI (.k (qZ [104,106,107,109,111,112,113,115,117,119,120] 8 Y lN) (.f [2] ?_));refine aH ?_;refine eR ?_;cases h;exact aY u dS Y (RV.tmp Y) .nil Y
 refine aL [3,22] ?_;refine aU h Y (fun I h=>?_) (fun I h=>?_)
 ·refine aI (.k (qZ [104,106,107,109,111,112,113,115,117,119,120] 9 Y lN) (.f [2] ?_));refine aH ?_;refine eR ?_;cases h;exact aY u dS Y (RV.tmp Y) .nil Y
 refine aL [24] ?_;refine aU h Y (fun K h=>?_) (fun K h=>?_)
 ·refine aI (.k (qZ [104,106,107,109,111,112,113,115,117,119,120] 10 Y lN) (.f [2] ?_));refine aH ?_;refine eR ?_;cases h;exact aY u dS Y (RV.tmp Y) .nil Y
 refine aF ?_;refine aZ ?_;refine aI (.k (Bw [104,106,107,109,111,112,113,115,117,119,120] 11 Y) (.f [2] ?_));cases h;exact aH (aY u dS Y (RV.tmp Y) .nil Y)
theorem lM{a0 a1 r}(h:lS a0 a1=some r):
 VS Tryz.prog 185 [.v Q1 a0,.v Q0 a1] (.v Wr.bool r) []:=by
 refine VS.of Tryz.func185 Y Tryz.ntmps185 Y ?_;intro S w A;unfold lS at h;refine aL [0,1] ?_;refine aL [0,1,5] ?_;refine cV [1,5,8,9,10] ?_;obtain⟨O,I,K,L⟩:=cN h;refine jP (σs:=fun z:Int×Int=>⟨[(1,.v Q0 a1),(5,.v Q0 z.1),(8,.v Q1 a0),(9,.v Q0 (a0.length:Int)),(10,.v Q0 z.2)],[]⟩) (fun C:Unit=>⟨[],[]⟩) I (aC []) ?_ ?_
 ·intro C D;have h:=K _ D;refine aL [4] ?_;cases h;exact aH (aY A dS Y (RV.tmp Y) .nil Y)
 intro z N h;refine aL [1,5,8,9,10,11] ?_;refine aG ?_;refine aU h Y (fun E h=>?_) (fun E h=>?_)
 ·refine aF ?_;refine aG ?_;refine bS ?_;obtain⟨B,P,h⟩:=aA h;refine aI (.a 2 ?_);refine .k (aN 104 Ez Y (.cons (Z.int .i64) (.cons (Z.arr 8 (Z.int .u8)) .nil)) Y) (.t (bX Y Y Y Y (.VB sO sO) jS) (.f [1,5,7,8,9,10] ?_));refine aG ?_;refine aG ?_;obtain⟨M,u,h⟩:=aA h;refine eP (σ':=⟨[(1,.v Q0 a1),(7,.ptr 104 0),(8,.v Q1 a0),(9,.v Q0 (a0.length:Int)),(10,.v Q0 z.2),(23,.v Wr.bool M)],[(104,.box 214 [.v Q0 B.1,.v aO B.2])]⟩) ?_ ?_
  ·refine cd u (fun F u=>?_) (fun F u=>?_)
   ·cases u;exact jy
   cases u;exact jy
  refine aU h Y (fun G h=>?_) (fun G h=>?_)
  ·refine aL [4] ?_;refine aH ?_;refine eR ?_;cases h;refine hX fun H=>?_;obtain rfl:=L _ H;exact aY A dS Y (RV.tmp Y) .nil Y
  refine aF ?_;refine dQ [1,5,8,9,10] ?_;refine aZ ?_;refine dQ [1,5,8,9,10] ?_;cases h;exact cF (aC [])
 cases h;exact dC (dJ (aC []))
theorem tB{a0 a1 r}(h:lG a0 a1=some r):
 VS Tryz.prog 139 [.v Kt a0,.v Q0 a1] (.v Q9 r) []:=by
 refine VS.of Tryz.func139 Y Tryz.ntmps139 Y ?_;intro S w A;unfold lG at h;refine aI (.k (cJ 101 Y (.VB sO (.VB sO (.VB sO sO))) Y) (.f [1,2] ?_));refine aG ?_;refine aG ?_;obtain⟨U,u,h⟩:=aA h;refine eP (σ':=⟨[(1,.v Q0 a1),(2,.ptr 101 0),(22,.v Wr.bool U)],[(101,.box 80 [.v Q0 a0.1,.v Q1 a0.2.1,.v (Wr.sl pC) a0.2.2.1,.v Wr.bool a0.2.2.2])]⟩) ?_ ?_
 ·refine cd u (fun G u=>?_) (fun G u=>?_)
  ·cases u;exact jy
  refine cd u (fun H u=>?_) (fun H u=>?_)
  ·cases u;exact jy
  refine cd u (fun I u=>?_) (fun I u=>?_)
  ·cases u;exact jy
  cases u;exact jy
 refine aU h Y (fun K h=>?_) (fun K h=>?_)
 ·refine aL [4] ?_;cases h;exact aH (aY A dS Y (RV.tmp Y) .nil Y)
 refine aF ?_;refine cV [1,2,27] ?_;refine aU h Y (fun L h=>?_) (fun L h=>?_)
 ·refine aL [4] ?_;cases h;exact aH (aY A dS Y (RV.tmp Y) .nil Y)
 refine aF ?_;refine aG ?_;refine aG ?_;obtain⟨V,u,h⟩:=aA h;refine eP (σ':=⟨[(1,.v Q0 a1),(2,.ptr 101 0),(43,.v Wr.bool V)],[(101,.box 80 [.v Q0 a0.1,.v Q1 a0.2.1,.v (Wr.sl pC) a0.2.2.1,.v Wr.bool a0.2.2.2])]⟩) ?_ ?_
 ·obtain⟨ae,C,u⟩:=aA u;refine cd u (fun z u=>?_) (fun z u=>?_)
  ·cases u;exact(J.cons (.none Y) (aB 1 Y RE Y Ii Y Y) Y Y (J.cons (.none Y) (aJ Y Y Y EV Ii) Y Y (J.cons (.none Y) (aD Y) Y Y (J.cons (.none Y) (aM (lM C) EH (.cons (.dir Y) (.cons (.dir Y) .nil))) Y Y (J.cons (.none Y) (Ft Y) Y Y (J.cons (.none Y) (aD Y) Y Y (J.left (GK.F7 34 Y Y Y z) Y (J.left (GK.F7 34 Y Y Y z) Y (J.left (GK.F7 34 Y Y Y z) Y (J.left (tZ 37 Y Y Y) Y (J.left (tZ 37 Y Y Y) Y (J.left (tZ 37 Y Y Y) Y (J.left (tZ 37 Y Y Y) Y (J.left (GK.F7 34 Y Y Y z) Y (J.cons (.none Y) (xM z Y Y) Y Y (J.fin (aC [])))))))))))))))))
  refine cd u (fun M u=>?_) (fun M u=>?_)
  ·cases u;refine ja 3 ?_;exact(J.k (aM (lM C) EH (.cons (.dir Y) (.cons (.dir Y) .nil))) jy)
  cases u;refine ja 3 ?_;exact(J.k (aM (lM C) EH (.cons (.dir Y) (.cons (.dir Y) .nil))) jy)
 refine aU h Y (fun N h=>?_) (fun N h=>?_)
 ·refine aL [4] ?_;cases h;exact aH (aY A dS Y (RV.tmp Y) .nil Y)
 refine aF ?_;refine cV [1,2,46,47,48] ?_;obtain⟨af,X,aa,ab⟩:=cN h;refine jP (σs:=fun B:Int=>⟨[(1,.v Q0 a1),(2,.ptr 101 0),(46,.v (Wr.sl pC) a0.2.2.1),(47,.v Q0 (a0.2.2.1.length:Int)),(48,.v Q0 B)],[(101,.box 80 [.v Q0 a0.1,.v Q1 a0.2.1,.v (Wr.sl pC) a0.2.2.1,.v Wr.bool a0.2.2.2])]⟩) (fun E:Unit=>⟨[],[]⟩) X (aC []) ?_ ?_
 ·intro E F;have h:=aa _ F;refine aL [4] ?_;cases h;exact aH (aY A dS Y (RV.tmp Y) .nil Y)
 intro B ad h;refine aL [1,2,46,47,48,49] ?_;refine aG ?_;refine aU h Y (fun O h=>?_) (fun O h=>?_)
 ·refine aF ?_;refine aG ?_;refine bS ?_;obtain⟨py,ah,h⟩:=aA h;refine aI (.a 3 ?_);refine .k (aN 113 Pa Y (.cons (Z.int .i64) (.cons (Z.sl gF) .nil)) Y) ?_;refine .a 1 ?_;refine .t (bX Y Y Y Y (.VB sO sO) vC) (.f [1,2,5,6,46,47,48] ?_);refine aG ?_;obtain⟨ac,u,h⟩:=aA h;refine eP (σ':=⟨[(1,.v Q0 a1),(2,.ptr 101 0),(46,.v (Wr.sl pC) a0.2.2.1),(47,.v Q0 (a0.2.2.1.length:Int)),(48,.v Q0 B),(76,.v Wr.bool ac)],[(101,.box 80 [.v Q0 a0.1,.v Q1 a0.2.1,.v (Wr.sl pC) a0.2.2.1,.v Wr.bool a0.2.2.2])]⟩) ?_ ?_
  ·obtain⟨ai,D,u⟩:=aA u;refine cd u (fun P u=>?_) (fun P u=>?_)
   ·cases u;refine ja 3 ?_;exact(J.k (aM (lM D) EH (.cons (.dir Y) (.cons (.dir Y) .nil))) jy)
   refine cd u (fun Q u=>?_) (fun Q u=>?_)
   ·cases u;refine ja 3 ?_;exact(J.k (aM (lM D) EH (.cons (.dir Y) (.cons (.dir Y) .nil))) jy)
   cases u;refine ja 3 ?_;exact(J.k (aM (lM D) EH (.cons (.dir Y) (.cons (.dir Y) .nil))) jy)
  refine aU h Y (fun R h=>?_) (fun R h=>?_)
  ·refine aL [4] ?_;refine aH ?_;refine eR ?_;cases h;refine hX fun T=>?_;obtain rfl:=ab _ T;exact aY A dS Y (RV.tmp Y) .nil Y
  refine aF ?_;refine aZ ?_;refine dQ [1,2,46,47,48] ?_;cases h;exact cF (aC [])
 cases h;exact dC (dJ (aC []))
theorem oQ{a0 r}(h:jB a0=some r):
 VS Tryz.prog 225 [.v (Wr.F8 pC) a0] (.ref 0) [(0,.arr 197 pC r)]:=by
 refine VS.of Tryz.func225 Y Tryz.ntmps225 Y ?_;intro S w u;unfold jB at h;refine aI (.k (aR 101 197 pC) (.f [0] ?_));refine jM (.a 1 ?_);refine .k (xH Y EL) (.f [0,4] ?_);refine aU h Y (fun z h=>?_) (fun z h=>?_)
 ·refine aI (.k (aR 102 197 pC) (.f [2] ?_));cases h;exact aH (vW u dS Y (aC [(0,102)]))
 refine aF ?_;obtain⟨B,A,h⟩:=aA h;refine aI (.k (rL (e:=pC) 103 EL vC Pa Y Y Y Y .nil) ?_);refine .a 1 ?_;refine .t (bU 104 A Y Y (.F8 Y) EL QD vC Y Y Y Y Y) (.f [2] ?_);cases h;exact aH (vW u dS Y (aC [(0,104)]))
theorem qL{a0:Ig}{r:Ig}(h:gL a0=some r):
  VS Tryz.prog 225 [.v (Wr.sl pC) a0] (.ref 0) [(0,.arr 197 pC r)]:=
 rO fun b u=>oQ (by cases b with | true=>rw[u rfl] at h ⊢;exact h | false=>exact Ee h)
theorem wJ{a0 r}(h:nD a0=some r):
 VS Tryz.prog 178 [.v Kt a0] (.agg [.v Q0 r.1,.ref 0,.ref 1,.v Wr.bool r.2.2.2]) [(0,.arr 214 gF r.2.1),(1,.arr 197 pC r.2.2.1)]:=by
 refine VS.of Tryz.func178 Y Tryz.ntmps178 Y ?_;intro S w D;unfold nD at h;refine aI (.k (cJ 101 Y (.VB sO (.VB sO (.VB sO sO))) Y) (.k (aN 102 QO Y (.cons (Z.int .i64) (.cons (Z.sl gF) (.cons (Z.sl pC) (.cons Z.bool .nil)))) Y) (.f [1,2] ?_)));obtain⟨A,G,h⟩:=aA h;refine aI (.a 2 ?_);refine .k (fI 103000 (eV G) JJ (.cons (.dir Y) .nil) Y) (.f [1,2] ?_);obtain⟨H,I,h⟩:=aA h;refine aI (.a 2 ?_);refine .k (fI 104000 (qL I) Tryz.call225 (.cons (.dir Y) .nil) Y) (.f [1,2] ?_);refine cV [1,2,14,15,16] ?_;obtain⟨O,K,L,P⟩:=cN h;refine jP (σs:=fun z:Int×Ig=>⟨[(1,.ptr 101 0),(2,.ptr 102 0),(14,.ref 104000),(15,.v Q0 (H.length:Int)),(16,.v Q0 z.1)],[(101,.box 80 [.v Q0 a0.1,.ref 103000,.ref 104000,.v Wr.bool a0.2.2.2]),(102,.box 80 [.v Q0 (0:Int),.v Q1 ([]:Q6),.v (Wr.sl pC) ([]:Ig),.v Wr.bool false]),(104000,.arr 197 pC z.2),(103000,.arr 214 gF A)]⟩) (fun u:Ig=>⟨[(1,.ptr 101 0),(2,.ptr 102 0)],[(101,.box 80 [.v Q0 a0.1,.ref 103000,.ref 104000,.v Wr.bool a0.2.2.2]),(102,.box 80 [.v Q0 (0:Int),.v Q1 ([]:Q6),.v (Wr.sl pC) ([]:Ig),.v Wr.bool false]),(103000,.arr 214 gF A),(104000,.arr 197 pC u)]⟩) K (aC []) ?_ ?_
 ·intro u E;have h:=L _ E;refine aI (.k (hC Y Y Y Ew yW) (.f [2] ?_));refine aH ?_;obtain rfl:=pT h;exact cB (σ':=⟨[(2,.ptr 90 0)],[(90,.box 80 [.v Q0 a0.1,.ref 0,.ref 1,.v Wr.bool a0.2.2.2]),(1,.arr 197 pC u),(0,.arr 214 gF A)]⟩) (aC [(90,102),(1,104000),(0,103000)]) (aY D dS Y (Fv Y Y Y Ew yW) (.cons Y (.cons Y .nil)) Y)
 intro z N h;refine aL [1,2,14,15,16,17] ?_;refine aG ?_;refine aU h Y (fun F h=>?_) (fun F h=>?_)
 ·refine aF ?_;refine aG ?_;refine bS ?_;obtain⟨Q,B,h⟩:=aA h;refine aI (.a 1 ?_);refine .k (iW B Y Y Y EL vC) (.k (jR (dG B).2.2 Y Y .here Nt vC) (.k (aN 112 Pa Y (.cons (Z.int .i64) (.cons (Z.sl gF) .nil)) Y) ?_));refine .a 1 ?_;refine .t (bX Y Y Y Y (.VB sO sO) vC) (.f [1,2,3,4,14,15,16] ?_);obtain⟨R,M,h⟩:=aA h;obtain⟨T,C,h⟩:=aA h;refine dV 8 mixed (by exact(.k (aB 2 Y RE Y TH Y Y) (.k (aJ Y Y Y Tryz.isAgg78 TH) (.k (aD Y) (.k (aB 1 Y Yz Y Ii Y Y) (.k (aJ Y Y Y EV Ii) (.k (Pv (fI 113000 (eV M) JJ (.cons (.dir Y) .nil) Y) (fun _=>(Sw.Sub.mk id (.cons Y (.K8 Y Y) .nil) .nil Y)) Y) (.k (iW C Y Y Y EL vC) (.k (Aw 1 Y Yz Y Ii Y Y) .nil))))))))) (by exact(J.t (Tu (dG C).2.2 Y Y Y (.snd .here) Ii) (J.kp [1,2,14,15,16] []))) ?_;refine aZ ?_;refine dQ [1,2,14,15,16] ?_;cases h;exact cF (aC [])
 cases h;exact dC (dJ (aC []))
theorem Ca{a0 a1 r}(h:sR a0 a1=some r):
 VS Tryz.prog 221 [.v gF a0,.v Q0 a1] (.v Q0 r) []:=by
 refine VS.of Tryz.func221 Y Tryz.ntmps221 Y ?_;intro S w u;unfold sR at h;refine aI (.k (cJ 101 Y (.VB sO sO) Y) (.f [1,2] ?_));refine aL [4] ?_;cases h;exact aH (aY u dS Y (RV.tmp Y) .nil Y)
theorem jN{a0 a1 r}(h:cA a0 a1=some r):
 VS Tryz.prog 220 [.v Q1 a0,.v Q0 a1,.ZJ 221 []] (.WC [.v Q0 r.1,.v Wr.bool r.2]) []:=by
 refine VS.of Tryz.func220 Y Tryz.ntmps220 Y ?_;intro S w C;unfold cA at h;refine aL [0,1,2] ?_;refine aL [0,1,2,8] ?_;refine aL [0,1,2,8,9,10] ?_;refine aG ?_;obtain⟨N,G,H,O⟩:=cN h;refine jP (σs:=fun A:Int×Int=>⟨[(0,.v Q1 a0),(1,.v Q0 a1),(2,.ZJ 221 []),(8,.v Q0 (a0.length:Int)),(9,.v Q0 A.1),(10,.v Q0 A.2)],[]⟩) (fun z:Int=>⟨[(0,.v Q1 a0),(1,.v Q0 a1),(2,.ZJ 221 []),(8,.v Q0 (a0.length:Int)),(9,.v Q0 z)],[]⟩) G (aC []) ?_ ?_
 ·intro z D;have h:=H _ D;refine aG ?_;obtain⟨I,u,h⟩:=aA h;refine eP (σ':=⟨[(6,.v Q0 z),(7,.v Wr.bool I)],[]⟩) ?_ ?_
  ·refine cd u (fun B u=>?_) (fun B u=>?_)
   ·obtain⟨P,Q,u⟩:=aA u;obtain⟨R,K,u⟩:=aA u;cases u;refine ja 11 ?_;exact(J.g B (tN Y (Ca K) Tryz.call221 (.cons (.dir Y) (.cons (.dir Y) .nil))) jy)
   cases u;exact jy
  cases h;exact aH (bT C dS Y (RV.tmp Y) (RV.tmp Y) .nil Y)
 intro A M h;refine cV [0,1,2,8,9,10,17] ?_;refine aU h Y (fun E h=>?_) (fun E h=>?_)
 ·refine aF ?_;refine bS ?_;refine aI (.a 4 ?_);refine .k (fA (.inr Y) (by decide) Y Y) (.f [0,1,2,8,9,10,11] ?_);obtain⟨T,U,h⟩:=aA h;obtain⟨V,L,h⟩:=aA h;refine aI (.a 6 ?_);refine .k (tN Y (Ca L) Tryz.call221 (.cons (.dir Y) (.cons (.dir Y) .nil))) (.f [0,1,2,8,9,10,11,31] ?_);refine aU h Y (fun F h=>?_) (fun F h=>?_)
  ·refine dQ [0,1,2,8,9,10] ?_;cases h;exact aZ (cF (aC []))
  refine dQ [0,1,2,8,9,10] ?_;cases h;exact aZ (cF (aC []))
 cases h;exact dC (dJ (aC []))
theorem tY(A0:Nat->Nat){a0:Q6}{a1:Int}{a2:Q6}{r:Q6}(h:gH a0 a1 a2=some r):
 VG Tryz.prog 222 [.ref 9000,.v Q0 a1,.v Q1 a2] [(9000,.arr 214 gF a0)] (.ref 0) [(0,.arr 214 gF r)]:=by
  obtain⟨h0,h1,h2,rfl⟩:=GG h;obtain⟨i,rfl⟩:∃i:Nat,a1=(i:Int):=⟨a1.toNat,by omega⟩;obtain⟨A,B,hA,rfl⟩:∃A B,A.length=i/\a0=A++B:=⟨a0.take i,a0.drop i,by rw[C0];omega,(X2 _ _).symm⟩;subst hA;have H:(A++B).take ((A.length:Int)).toNat++(a2++(A++B).drop ((A.length:Int)).toNat)=A++(a2++B):=by simp
  rw[H];clear H h h0 h1;have I:(A++B).length=A.length+B.length:=sM;have N:Sw.sub (A++B) (A.length:Int) ((A++B).length:Int)=some B:=by rw[Sw.sub,WJ (by omega),m6,m6,aDb,pv]
  have D:ar .add .i64 ((A++B).length:Int) (a2.length:Int)=((A.length+B.length+a2.length:Nat):Int):=by simp only[ar,IntKind.wrap_i64];omega
  have O:ar .sub .i64 (ar .add .i64 ((A++B).length:Int) (a2.length:Int)) (A.length:Int)=((B.length+a2.length:Nat):Int):=by rw[D];simp only[ar,IntKind.wrap_i64];omega
  have z:ar .add .i64 (A.length:Int) (a2.length:Int)=((A.length+a2.length:Nat):Int):=by simp only[ar,IntKind.wrap_i64];omega
  refine VG.of Tryz.func222 Y Tryz.ntmps222 Y ?_;intro S w R F
  repeat refine aG ?_
  refine eM (.k (kZ gF) (.f [0,1,2] ?_))
  repeat refine aG ?_
  refine eM (.a 2 ?_);refine .k (Ld N Y Y Y yE jS) (.f [0,1,2] ?_)
  repeat refine aG ?_
  refine dQ [0,1,2,7] ?_
  repeat refine aG ?_
  refine dQ [0,1,2,7,16] ?_
  repeat refine aG ?_
  rcases aC7 (cm .eql (a2.length:Int) (0:Int)) with u | u
  ·have G:a2=[]:=fy (by simp[cm] at u;simp[u]);have P:A++B=A++(a2++B):=by rw[G];rfl
   refine vM Y u ?_
   repeat refine aG ?_
   refine dQ [0,1,2,6,7,16,17] ?_;refine aH ?_;rw[P];exact eW F Y (aC [(0,9000)])
  have Q:0<a2.length:=by
   simp[cm] at u;exact ue.2 u
  have G:a2≠ []:=ue.1 Q;refine Ax Y u ?_;clear u
  repeat first | refine aF ?_ | refine aG ?_
  refine dQ [0,1,2,7,8] ?_
  repeat refine aG ?_
  refine dQ [0,1,2,7,8,22] ?_
  repeat refine aG ?_
  rcases aC7 (cm .eql (A.length:Int) ((A++B).length:Int)) with u | u
  ·have C:B=[]:=fy (by simp[cm] at u;omega);have T:Sw.app (A++B) a2=some (A++(a2++B)):=by subst C;rw[Sw.app,WJ h2];simp
   refine vM Y u ?_
   repeat refine aG ?_
   refine eM (.a 2 ?_);refine .t (bU 1 T Y Y (.sl Y) yE Ku jS Y Y Y Y Y) (.f [1,2,6,7,8,24,25] ?_);refine aH ?_;exact eW F Y (aC [(0,1)])
  have C:B≠ []:=by
   rintro rfl;simp[cm] at u
  have ab:=ue.2 C;refine Ax Y u ?_;clear u
  repeat first | refine aF ?_ | refine aG ?_
  refine Pw (t:=0) (g':=[(1,.v Q0 (A.length:Int)),(2,.v Q1 a2),(7,.v Q0 (a2.length:Int)),(8,.v Q0 ((A++B).length:Int))]) Y C Y (by exact(.cons Y (.cons Y (.cons Y (.cons Y .nil))))) Y fun b p q c ZI M j2=>?_;have E:(gF).n=9:=rfl;refine eM (.a 4 ?_);refine .k (CI Y yE) (.k (CJ Y Y) (.f [0,1,2,7,8,31] ?_))
  repeat refine aG ?_
  rcases aC7 (cm .gtr (ar .add .i64 ((A++B).length:Int) (a2.length:Int)) (c:Int)) with u | u
  ·have ac:c<A.length+(B.length+a2.length):=by
    rw[D] at u;simp[cm] at u;omega
   refine vM Y u ?_;clear u
   repeat refine aG ?_
   refine eM (.a 2 ?_);refine .k (Ej (e:=gF) A.length Y (by omega) Y Y Y yE jS) ?_;refine .a 5 ?_;refine .k (GF (z0:=_) (zv:=((0:Int),aS)) 1 Y Y Y Y Y O (by omega) (by omega) (by omega) Y yE U3 Ku jS Y (Z.pr (Z.int .i64) (Z.arr 8 (Z.int .u8))) Y) (.f [0,1,2,7,8,9] ?_);have K:Sw.sub (A++List.replicate (B.length+a2.length) ((0:Int),aS)) (A.length:Int) (((A++List.replicate (B.length+a2.length) ((0:Int),aS))).length:Int)=some (List.replicate (B.length+a2.length) ((0:Int),aS)):=by
    rw[Sw.sub,WJ (by simp only[sM,oc];omega),m6,m6,aDb,pv]
   have U:a2.length<=((A++List.replicate (B.length+a2.length) ((0:Int),aS))).length - Int.toNat (A.length:Int):=by
    simp only[sM,oc];omega
   repeat refine aG ?_
   refine eM (.a 2 ?_);refine .k (Ld K Y Y Y yE jS) ?_;refine .a 1 ?_;refine .t (Ml K Y Y (.sl Y) U yE jS Y) (.f [0,1,2,7,8,9] ?_);have V:List.take (Int.toNat (A.length:Int)) (A++List.replicate (B.length+a2.length) ((0:Int),aS))++a2++List.drop (Int.toNat (A.length:Int)+a2.length) (A++List.replicate (B.length+a2.length) ((0:Int),aS))=(A++(a2++List.replicate B.length ((0:Int),aS))):=by
    simp[aD5,List.drop_replicate]
   rw[V];have L:Sw.sub (A++(a2++List.replicate B.length ((0:Int),aS))) (ar .add .i64 (A.length:Int) (a2.length:Int)) (((A++(a2++List.replicate B.length ((0:Int),aS)))).length:Int)=some (List.replicate B.length ((0:Int),aS)):=by
    rw[z,Sw.sub,WJ (by simp only[sM,oc];omega),m6,m6,aDb,<-A8,List.drop_left' (by rw[sM])]
   have X:B.length<=((A++(a2++List.replicate B.length ((0:Int),aS)))).length - Int.toNat (ar .add .i64 (A.length:Int) (a2.length:Int)):=by
    rw[z];simp only[sM,oc];omega
   repeat refine aG ?_
   refine dV 8 mixed (by exact(.k (aD Y) (.k (aD Y) (.k (aD Y) (.k (cU Y Y Y) (.k (Ld L Y Y Y yE jS) (.k (aD Y) (.k (aD Y) (.k (zU (e:=gF) (p+A.length*(gF).n) B.length (c - A.length) Y (by omega) (by omega) Y (by omega) Y Y Y yE jS) .nil))))))))) (by exact(J.t (Ml L Y Y (.J4 Y Y Y Y (by omega)) X yE jS Y) (J.kp [0,1,2,7,8,9,53] []))) ?_;have Y4:(List.take (Int.toNat (ar .add .i64 (A.length:Int) (a2.length:Int))) (A++(a2++List.replicate B.length ((0:Int),aS)))++B++List.drop (Int.toNat (ar .add .i64 (A.length:Int) (a2.length:Int))+B.length) (A++(a2++List.replicate B.length ((0:Int),aS))))=A++(a2++B):=by
    rw[z,m6,<-A8 A a2 (List.replicate _ _),List.take_left' (by rw[sM]),aDy (by simp only[sM,oc];omega)];simp
   rw[Y4]
   repeat refine aG ?_
   refine dQ [0,1,2,6,7,8,9,53,55] ?_;refine aH ?_;exact eW F Y (aC [(0,1)])
  ·have aa:A.length+B.length+a2.length<=c:=by
    rw[D] at u;simp[cm] at u;omega
   have hq:a2.length*(gF).n<=q:=by
    rw[E,I] at M;rw[E];omega
   refine Ax Y u ?_;clear u
   repeat first | refine aF ?_ | refine aG ?_
   refine eM (.a 4 ?_);refine .k (Ej (e:=gF) (A.length+B.length+a2.length) D (by omega) Y Y Y yE jS) (.f [0,1,2,7,8] ?_)
   repeat refine aG ?_
   refine eM (.a 5 ?_);refine .k (zU (e:=gF) (p+(A.length+a2.length)*(gF).n) B.length (c - (A.length+a2.length)) z (by omega) (by omega) Y (by omega) Y Y Y yE jS) (.k (Tz Tryz.func251 (by kernel_rfl) (by kernel_rfl) (by kernel_rfl) (R:=4) (by kernel_rfl) Y Y Y G C Y yE jS) (.f [0,1,2,7,8,68] ?_))
   repeat refine aG ?_
   refine vM Y Y ?_
   repeat refine aG ?_
   refine dV 8 mixed (by exact(.k (aD Y) (.k (aD Y) (.k (aD Y) (.k (cU Y Y Y) (.k (zU (e:=gF) (p+(A.length+a2.length)*(gF).n) B.length (c - (A.length+a2.length)) z (by omega) (by omega) Y (by omega) Y Y Y yE jS) (.k (aD Y) (.k (aD Y) (.k (zU (e:=gF) (p+A.length*(gF).n) (B.length+a2.length) (c - A.length) Y (by omega) (by omega) Y (by omega) Y Y Y yE jS) .nil))))))))) (by exact(J.t (Ty (m:=a2.length) Y Y Y Y Y Y Y hq (by omega) yE jS Y) (J.kp [0,1,2,7,8] []))) ?_
   repeat refine aG ?_
   refine eM (.a 2 ?_);refine .k (zU (e:=gF) (p+A.length*(gF).n) (B.length+a2.length) (c - A.length) Y (by omega) (by omega) Y (by omega) Y Y Y yE jS) ?_;refine .a 1 ?_;refine .t (Xm Y Y (.sl Y) Y Y Y (by omega) yE jS Y) (.f [0] ?_);refine wL (Bi (t:=0) (by simp only[sM];omega) aa (by rw[E,I] at M;rw[E];omega) (by omega) Y) ?_
   repeat refine aG ?_
   refine dQ [0,6,83] ?_;refine aH ?_;exact eW F Y (aC [(0,9000)])
theorem Pd{a0 a1 a2 r}(h:tQ a0 a1 a2=some r):
 VS Tryz.prog 164 [.v Kt a0,.v Q0 a1,.v gF a2] (.WC [.v Kt r.1,.v Q9 r.2]) []:=by
 refine VS.of Tryz.func164 Y Tryz.ntmps164 Y ?_;intro S w B;unfold tQ at h;refine aI (.k (cJ 101 Y (.VB sO (.VB sO (.VB sO sO))) Y) (.k (cJ 102 Y (.VB sO sO) Y) (.k (aN 103 QO Y (.cons (Z.int .i64) (.cons (Z.sl gF) (.cons (Z.sl pC) (.cons Z.bool .nil)))) Y) (.f [1,3,5,6] ?_))));obtain⟨I,K,h⟩:=aA h;refine jM (.k (aT Y Y (.VB sO (.VB sO (.VB sO sO))) Ew yW) ?_);refine .a 1 ?_;refine .k (aM (tB K) NM (.cons (.dir Y) (.cons (.dir Y) .nil))) (.f [1,3,5,6,8] ?_);refine aL [1,3,5,6,8,15] ?_;refine aU h Y (fun F h=>?_) (fun F h=>?_)
 ·refine aI (.k (bR yX (.cons (Z.int .i64) (.cons (Z.sl gF) (.cons (Z.sl pC) (.cons Z.bool .nil)))) .nil) (.f [6,7] ?_));refine aH ?_;obtain rfl:=pT h;exact cB (σ':=⟨[(6,.ptr 90 0),(7,.v Q9 I)],[(90,.box 80 [.v Q0 (0:Int),.v Q1 ([]:Q6),.v (Wr.sl pC) ([]:Ig),.v Wr.bool false])]⟩) (aC [(90,103)]) (bT B dS Y (aV Y Y (.VB sO (.VB sO (.VB sO sO))) Ew yW) (RV.tmp Y) .nil Y)
 refine aF ?_;refine aG ?_;refine aG ?_;obtain⟨L,z,h⟩:=aA h;refine eP (σ':=⟨[(3,.ptr 101 0),(5,.ptr 102 0),(6,.ptr 103 0),(26,.v Wr.bool L)],[(101,.box 80 [.v Q0 a0.1,.v Q1 a0.2.1,.v (Wr.sl pC) a0.2.2.1,.v Wr.bool a0.2.2.2]),(102,.box 214 [.v Q0 a2.1,.v aO a2.2]),(103,.box 80 [.v Q0 (0:Int),.v Q1 ([]:Q6),.v (Wr.sl pC) ([]:Ig),.v Wr.bool false])]⟩) ?_ ?_
 ·refine cd z (fun G z=>?_) (fun G z=>?_)
  ·cases z;exact jy
  cases z;exact jy
 refine aU h Y (fun H h=>?_) (fun H h=>?_)
 ·refine aI (.k (bR yX (.cons (Z.int .i64) (.cons (Z.sl gF) (.cons (Z.sl pC) (.cons Z.bool .nil)))) .nil) (.f [6,7] ?_));refine aH ?_;obtain rfl:=pT h;exact cB (σ':=⟨[(6,.ptr 90 0),(7,.v Q9 (some (1:Int)))],[(90,.box 80 [.v Q0 (0:Int),.v Q1 ([]:Q6),.v (Wr.sl pC) ([]:Ig),.v Wr.bool false])]⟩) (aC [(90,103)]) (bT B dS Y (aV Y Y (.VB sO (.VB sO (.VB sO sO))) Ew yW) (RV.tmp Y) .nil Y)
 refine aF ?_;obtain⟨u,M,h⟩:=aA h;refine aI (.k (aT Y Y (.VB sO (.VB sO (.VB sO sO))) Ew yW) (.k (fI 105000 (wJ M) Tryz.call178 (.cons (.dir Y) .nil) Y) (.f [3,5,6] ?_)));obtain⟨R,N,h⟩:=aA h;refine aI (.a 4 ?_);refine .k (rN (jN N) Tryz.call220 (.cons (.ref Y Y) (.cons (.dir Y) (.cons .fn .nil))) (XH.WC (.v (.v .nil)))) (.f [3,5,6,9,10] ?_);refine cV [3,5,6,9,39] ?_;obtain⟨O,P,h⟩:=fE h;refine tF (fun C:Q6=>⟨[(3,.ptr 101 0),(6,.ptr 103 0)],[(101,.box 80 [.v Q0 u.1,.ref 108,.ref 105001,.v Wr.bool u.2.2.2]),(103,.box 80 [.v Q0 (0:Int),.v Q1 ([]:Q6),.v (Wr.sl pC) ([]:Ig),.v Wr.bool false]),(108,.arr 214 gF C),(105001,.arr 197 pC u.2.2.1)]⟩) (fun x=>O x=some r) Y ?_ ?_ ?_
 ·intro C h;rw[P] at h;refine aI (.k (hC Y Y Y Ew yW) (.f [6,7] ?_));refine aH ?_;obtain rfl:=pT h;exact cB (σ':=⟨[(6,.ptr 90 0),(7,.v Q9 (none:Option Int))],[(90,.box 80 [.v Q0 u.1,.v Q1 C,.v (Wr.sl pC) u.2.2.1,.v Wr.bool u.2.2.2])]⟩) (aC [(90,103)]) (bT B dS Y (aV Y Y (.VB sO (.VB sO (.VB sO sO))) Ew yW) (RV.tmp Y) .nil Y)
 ·intro D;replace h:=iK D h;obtain⟨T,E,h⟩:=aA h;refine eM (.a 3 ?_);refine .k (aT Y Y (.VB sO sO) Yx jS) (.k (iW E Y Y Y yE jS) (.t (qY (dG E).2.2 Y Y Y jS) (.f [3,6] ?_)));exact cC h (aC [(108,105000)])
 ·intro D;replace h:=iL D h;obtain⟨U,Q,h⟩:=aA h;refine eM (.a 3 ?_);refine .k (aT Y Y (.VB sO sO) Yx jS) (.k (dI (e:=gF) yE jS Ez Y Y Y Y (.cons (.dir Y) .nil)) (.t (eQ [105000] (Bu [(9000,105000),(0,109)]) (eO _) (fun A=>tY A Q) Tryz.call222 (fun A=>(.arr .nil Y))) (.f [3,6] ?_)));exact cC h (aC [(108,109)])
theorem uQ(A:Nat->Nat){a1 a2 b0 b1 b2 b3 b4 b5 b6 b7 b8 b9 bA bB bC bD bE bF bG bH bI bJ bK bL r}(h:eT a1 a2 b0 b1 b2 b3 b4 b5 b6 b7 b8 b9 bA bB bC bD bE bF bG bH bI bJ bK bL=some r):
 VG Tryz.prog 105 [.ptr 9000 0,.v Q0 a1,.v aO a2] (kO 9000 (some (A 9000)) 9100 (some (A 9100)) 9200 (some (A 9200)) 9050 9051 9052 9053 b0 b1 b2 b3 b4 b5 b6 b7 b8 b9 bA bB bC bD bE bF bG bH bI bJ bK bL) (.v Q9 r.1) (kO 9000 (some (A 9000)) 9100 (some (A 9100)) 9200 (some (A 9200)) 400 401 402 403 b0 b1 b2 b3 r.2.1 r.2.2 b6 b7 b8 b9 bA bB bC bD bE bF bG bH bI bJ bK bL):=by
 refine VG.of Tryz.func105 Y Tryz.ntmps105 Y ?_;intro S w R u;unfold eT at h;refine aI (.k (cJ 101 Y sO Y) (.f [0,1,5] ?_));refine aG ?_;obtain⟨D,C,h⟩:=aA h;refine dV 19 mixed (by exact(.k (aD Y) (.k (aK Y) (.k (aB 1 Y Sy Y OQ Y Y) (.k (aB 6 Y vS Y yW Y Y) (.k (aJ Y Y Y Ew yW) (.k (aD Y) (.k (aK Y) (.k (aB 0 Y Sy Y S3 Y Y) (.k (aJ Y Y Y G3 S3) (.k (aD Y) (.k (aJ Y Y Y uO kP) (.k (bR wA (.cons (Z.int .i64) (.cons (Z.arr 8 (Z.int .u8)) .nil)) (.cons Y (.dir Y) Y Y Y Y (.cons Y (.dir Y) Y Y Y Y .nil))) (.k (aM (Pd C) Tryz.call164 (.cons (.dir Y) (.cons (.dir Y) (.cons (.agg Y (.same (.same .nil)) (.VB sO sO) Y) .nil)))) (.k (aD Y) (.k (bW Y Y) (.k (bW Y Y) (.k (aN 103 QO Y (.cons (Z.int .i64) (.cons (Z.sl gF) (.cons (Z.sl pC) (.cons Z.bool .nil)))) Y) (XF.storeAll (.none Y) Y Y Y Y (.VB sO (.VB sO (.VB sO sO))) yW (.k (bP Y) .nil)))))))))))))))))))) (by exact(J.kp [0,1,5,7,8] [])) ?_;refine cV [0,1,5,7,8,26] ?_;refine aU h Y (fun B h=>?_) (fun B h=>?_)
 ·refine aL [0,6] ?_;cases h;exact aH (eW u Y (aC [(403,9053),(402,9052),(401,9051),(400,9050)]))
 refine aF ?_;refine aG ?_;obtain⟨E,z,h⟩:=aA h;refine dV 14 mixed (by exact(.k (aD Y) (.k (aD Y) (.k (aK Y) (.k (aB 1 Y Sy Y OQ Y Y) (.k (aB 5 Y vS Y yD Y Y) (.k (aJ Y Y Y Ti yD) (.k (aD Y) (.k (aT Y Y (.VB sO (.VB sO (.VB sO sO))) Ew yW) (.k (aJ Y Y Y uO kP) (.k (aK Y) (.k (aB 1 Y Sy Y OQ Y Y) (.k (aB 6 Y vS Y yW Y Y) (XF.store (.none Y) Y Y Y Y Y Y Y yW (.k (iW z Y Y Y Jm kP) .nil))))))))))))))) (by exact(J.t (qY (dG z).2.2 Y Y Y kP) (J.kp [0] []))) ?_;refine aL [0,6] ?_;cases h;exact aH (eW u Y (aC [(403,9053),(402,9052),(401,9051),(400,9050)]))
theorem Ci(A:Nat->Nat){a1 b0 b1 b2 b3 b4 b5 b6 b7 b8 b9 bA bB bC bD bE bF bG bH bI bJ bK bL r}(h:nM a1 b0 b1 b2 b3 b4 b5 b6 b7 b8 b9 bA bB bC bD bE bF bG bH bI bJ bK bL=some r):
 VG Tryz.prog 104 [.ptr 9000 0,.v Q4 a1] (kO 9000 (some (A 9000)) 9100 (some (A 9100)) 9200 (some (A 9200)) 9050 9051 9052 9053 b0 b1 b2 b3 b4 b5 b6 b7 b8 b9 bA bB bC bD bE bF bG bH bI bJ bK bL) (.WC [.v aO r.1,.v Q9 r.2.1]) (Ta 9000 (some (A 9000)) 301 none 302 none 400 401 402 403 r.2.2):=by
 refine VG.of Tryz.func104 Y Tryz.ntmps104 Y ?_;intro S w R u;unfold nM at h;refine aI (.k (cJ 101 Y (.VB sO (.VB sO (.VB sO sO))) Y) (.k (aN 102 Br Y (.cons (Z.arr 8 (Z.int .u8)) .nil) Y) (.f [0,3,4] ?_)));obtain⟨z,B,h⟩:=aA h;refine aI (.k (dE (e:=aO) (v:=aS) Bq vR I5 Y Y (Z.arr 8 (Z.int .u8))) ?_);refine .a 5 ?_;refine .t (eQ [9000,9100,9200,9050,9051,9052,9053] (vV [(9000,9000),(9100,9100),(9200,9200),(9050,9050),(9051,9051),(9052,9052),(9053,9053),(400,103),(401,104),(402,105),(403,106)]) (dK Y) (fun A=>uQ A B) Tryz.call105 (fun A=>(.box Y (.box Y (.box Y (.arr (.mp (.arr (.arr .nil Y) Y) Y) Y) Y) Y) Y))) (.f [0,4,5] ?_);refine aH ?_;obtain rfl:=pT h;exact nJ [(0,.ptr 9000 0),(4,.ptr 90 0),(5,.v Q9 z.1)] [(90,.box 30 [.v aO aS])] (aC [(90,102),(403,106),(302,9200),(402,105),(401,104),(400,103),(301,9100)]) (dP u Y (cL Y Y Y uO kP) (RV.tmp Y) (.cons Y (.cons Y (.cons Y (.cons Y (.cons Y (.cons Y (.cons Y .nil))))))))
theorem Cj(A:Nat->Nat){a1 b0 b1 b2 b3 b4 b5 b6 b7 b8 b9 bA bB bC bD bE bF bG bH bI bJ bK bL r}(h:nN a1 b0 b1 b2 b3 b4 b5 b6 b7 b8 b9 bA bB bC bD bE bF bG bH bI bJ bK bL=some r):
 VG Tryz.prog 106 [.ptr 9000 0,.v Q4 a1] (kO 9000 (some (A 9000)) 9100 (some (A 9100)) 9200 (some (A 9200)) 9050 9051 9052 9053 b0 b1 b2 b3 b4 b5 b6 b7 b8 b9 bA bB bC bD bE bF bG bH bI bJ bK bL) (.WC [.v aO r.1,.v Q9 r.2.1]) (Ta 9000 (some (A 9000)) 301 none 302 none 400 401 402 403 r.2.2):=by
 refine VG.of Tryz.func106 Y Tryz.ntmps106 Y ?_;intro S w R u;unfold nN at h;refine aI (.k (cJ 101 Y (.VB sO (.VB sO (.VB sO sO))) Y) (.k (aN 102 Br Y (.cons (Z.arr 8 (Z.int .u8)) .nil) Y) (.f [0,3,4] ?_)));obtain⟨z,B,h⟩:=aA h;refine aI (.k (dE (e:=aO) (v:=aS) Bq vR I5 Y Y (Z.arr 8 (Z.int .u8))) ?_);refine .a 3 ?_;refine .k (dE (e:=aO) (v:=aS) Bq vR I5 Y Y (Z.arr 8 (Z.int .u8))) (.t (eQ [9000,9100,9200,9050,9051,9052,9053] (vV [(9000,9000),(9100,9100),(9200,9200),(9050,9050),(9051,9051),(9052,9052),(9053,9053),(400,103),(401,104),(402,105),(403,106)]) (dK Y) (fun A=>uQ A B) Tryz.call105 (fun A=>(.box Y (.box Y (.box Y (.arr (.mp (.arr (.arr .nil Y) Y) Y) Y) Y) Y) Y))) (.f [0,4,5] ?_));refine aH ?_;obtain rfl:=pT h;exact nJ [(0,.ptr 9000 0),(4,.ptr 90 0),(5,.v Q9 z.1)] [(90,.box 30 [.v aO aS])] (aC [(90,102),(403,106),(302,9200),(402,105),(401,104),(400,103),(301,9100)]) (dP u Y (cL Y Y Y uO kP) (RV.tmp Y) (.cons Y (.cons Y (.cons Y (.cons Y (.cons Y (.cons Y (.cons Y .nil))))))))
theorem Ai(A:Nat->Nat){a1 b0 b1 b2 b3 b4 b5 b6 b7 b8 b9 bA bB bC bD bE bF bG bH bI bJ bK bL r}(h:fU a1 b0 b1 b2 b3 b4 b5 b6 b7 b8 b9 bA bB bC bD bE bF bG bH bI bJ bK bL=some r):
 VG Tryz.prog 108 [.ptr 9000 0,.v Q0 a1] (kO 9000 (some (A 9000)) 9100 (some (A 9100)) 9200 (some (A 9200)) 9050 9051 9052 9053 b0 b1 b2 b3 b4 b5 b6 b7 b8 b9 bA bB bC bD bE bF bG bH bI bJ bK bL) (.WC [.v aO r.1,.v Q9 r.2]) (kO 9000 (some (A 9000)) 9100 (some (A 9100)) 9200 (some (A 9200)) 400 401 402 403 b0 b1 b2 b3 b4 b5 b6 b7 b8 b9 bA bB bC bD bE bF bG bH bI bJ bK bL):=by
 refine VG.of Tryz.func108 Y Tryz.ntmps108 Y ?_;intro S w R z;unfold fU at h;refine aI (.k (aN 101 Br Y (.cons (Z.arr 8 (Z.int .u8)) .nil) Y) (.f [0,1,4] ?_));refine aG ?_;refine aG ?_;obtain⟨E,u,h⟩:=aA h;refine eP (σ':=⟨[(0,.ptr 9000 0),(1,.v Q0 a1),(4,.ptr 101 0),(15,.v Wr.bool E)],((101,.box 30 [.v aO aS])::kO 9000 (some (A 9000)) 9100 (some (A 9100)) 9200 (some (A 9200)) 9050 9051 9052 9053 b0 b1 b2 b3 b4 b5 b6 b7 b8 b9 bA bB bC bD bE bF bG bH bI bJ bK bL)⟩) ?_ ?_
 ·refine cd u (fun C u=>?_) (fun C u=>?_)
  ·cases u;exact jy
  cases u;exact jy
 refine aU h Y (fun D h=>?_) (fun D h=>?_)
 ·refine aI (.k (dE (e:=aO) (v:=aS) Bq vR I5 Y Y (Z.arr 8 (Z.int .u8))) (.f [0,4,5] ?_));refine aH ?_;obtain rfl:=pT h;exact nJ [(0,.ptr 9000 0),(4,.ptr 90 0),(5,.v Q9 (some (1:Int)))] [(90,.box 30 [.v aO aS])] (aC [(90,101),(403,9053),(402,9052),(401,9051),(400,9050)]) (dP z Y (cL Y Y Y uO kP) (RV.tmp Y) (.cons Y (.cons Y (.cons Y (.cons Y (.cons Y (.cons Y (.cons Y .nil))))))))
 refine aF ?_;obtain⟨F,B,h⟩:=aA h;refine aI (.a 6 ?_);refine .k (iW B Y Y Y Jm kP) (.k (jR (dG B).2.2 Y Y .here uO kP) (.f [0,4,5] ?_));refine aH ?_;obtain rfl:=pT h;exact nJ [(0,.ptr 9000 0),(4,.ptr 90 0),(5,.v Q9 (none:Option Int))] [(90,.box 30 [.v aO F])] (aC [(90,101),(403,9053),(402,9052),(401,9051),(400,9050)]) (dP z Y (cL Y Y Y uO kP) (RV.tmp Y) (.cons Y (.cons Y (.cons Y (.cons Y (.cons Y (.cons Y (.cons Y .nil))))))))
theorem Ck(A:Nat->Nat){a1 b0 b1 b2 b3 b4 b5 b6 b7 b8 b9 bA bB bC bD bE bF bG bH bI bJ bK bL r}(h:nO a1 b0 b1 b2 b3 b4 b5 b6 b7 b8 b9 bA bB bC bD bE bF bG bH bI bJ bK bL=some r):
 VG Tryz.prog 107 [.ptr 9000 0,.v Q4 a1] (kO 9000 (some (A 9000)) 9100 (some (A 9100)) 9200 (some (A 9200)) 9050 9051 9052 9053 b0 b1 b2 b3 b4 b5 b6 b7 b8 b9 bA bB bC bD bE bF bG bH bI bJ bK bL) (.WC [.v aO r.1,.v Q9 r.2.1]) (Ta 9000 (some (A 9000)) 301 none 302 none 400 401 402 403 r.2.2):=by
 refine VG.of Tryz.func107 Y Tryz.ntmps107 Y ?_;intro S w R z;unfold nO at h;refine aI (.k (cJ 101 Y (.VB sO (.VB sO (.VB sO sO))) Y) (.k (aN 102 Br Y (.cons (Z.arr 8 (Z.int .u8)) .nil) Y) (.f [0,3,4] ?_)));obtain⟨u,B,h⟩:=aA h;refine aI (.a 3 ?_);refine .t (eQ [9000,9100,9200,9050,9051,9052,9053] (vV [(9000,9000),(9100,9100),(9200,9200),(9050,9050),(9051,9051),(9052,9052),(9053,9053),(400,103),(401,104),(402,105),(403,106)]) (dK Y) (fun A=>Ai A B) Tryz.call108 (fun A=>(.box Y (.box Y (.box Y (.arr (.mp (.arr (.arr .nil Y) Y) Y) Y) Y) Y) Y))) (.f [0,4,5] ?_);refine aH ?_;obtain rfl:=pT h;exact nJ [(0,.ptr 9000 0),(4,.ptr 90 0),(5,.v Q9 u.2)] [(90,.box 30 [.v aO u.1])] (aC [(90,102),(403,106),(302,9200),(402,105),(401,104),(400,103),(301,9100)]) (dP z Y (cL Y Y Y uO kP) (RV.tmp Y) (.cons Y (.cons Y (.cons Y (.cons Y (.cons Y (.cons Y (.cons Y .nil))))))))
theorem Aj(A:Nat->Nat){a1 a2 b0 b1 b2 b3 b4 b5 b6 b7 b8 b9 bA bB bC bD bE bF bG bH bI bJ bK bL r}(h:jQ a1 a2 b0 b1 b2 b3 b4 b5 b6 b7 b8 b9 bA bB bC bD bE bF bG bH bI bJ bK bL=some r):
 VG Tryz.prog 165 [.ptr 9000 1,.v Q1 a1,.v Q0 a2] (kO 9000 (some (A 9000)) 9100 (some (A 9100)) 9200 (some (A 9200)) 9050 9051 9052 9053 b0 b1 b2 b3 b4 b5 b6 b7 b8 b9 bA bB bC bD bE bF bG bH bI bJ bK bL) (.v Q9 r.1) (kO 9000 (some (A 9000)) 9100 (some (A 9100)) 9200 (some (A 9200)) 400 401 402 403 b0 b1 r.2.1 b3 b4 b5 b6 b7 b8 b9 bA bB bC bD bE bF bG bH r.2.2.1 r.2.2.2 bK bL):=by
 refine VG.of Tryz.func165 Y Tryz.ntmps165 Y ?_;intro S w R u;unfold jQ at h;refine aL [0,1,2] ?_;refine aG ?_;refine aG ?_;obtain⟨C,B,h⟩:=aA h;refine dV 10 mixed (by exact(.k (aD Y) (.k (aK Y) (.k (aB 1 Y Ey Y Ih Y Y) (.k (aJ Y Y Y Nu Ih) (.k (aD Y) (.k (aD Y) (.k (aD Y) (.k (aK Y) (.k (aB 4 Y Ey Y S3 Y Y) (.k (aJ Y Y Y G3 S3) .nil))))))))))) (by exact(J.t (eQ [9100] (Bu [(9000,9100)]) (eO _) (fun A=>gZ A B) JI (fun A=>(.box Y .nil Y))) (jz [0,2,7]))) ?_;refine aL [0,2,7,20] ?_;refine aU h Y (fun z h=>?_) (fun z h=>?_)
 ·refine aL [0,6] ?_;cases h;exact aH (eW u Y (aC [(403,9053),(402,9052),(401,9051),(400,9050)]))
 refine aF ?_;refine aL [0] ?_;refine aL [0,6] ?_;cases h;exact aH (eW u Y (aC [(403,9053),(402,9052),(401,9051),(400,9050)]))
theorem Ob{a0 a1 r}(h:rV a0 a1=some r):
 VS Tryz.prog 166 [.v Kt a0,.v Q0 a1] (.WC [.v Kt r.1,.v Q9 r.2]) []:=by
 refine VS.of Tryz.func166 Y Tryz.ntmps166 Y ?_;intro S w z;unfold rV at h;refine aI (.k (cJ 101 Y (.VB sO (.VB sO (.VB sO sO))) Y) (.k (aN 102 QO Y (.cons (Z.int .i64) (.cons (Z.sl gF) (.cons (Z.sl pC) (.cons Z.bool .nil)))) Y) (.f [1,2,4] ?_)));obtain⟨E,F,h⟩:=aA h;refine jM (.k (aT Y Y (.VB sO (.VB sO (.VB sO sO))) Ew yW) ?_);refine .a 1 ?_;refine .k (aM (tB F) NM (.cons (.dir Y) (.cons (.dir Y) .nil))) (.f [2,4,6] ?_);refine aL [2,4,6,11] ?_;refine aU h Y (fun A h=>?_) (fun A h=>?_)
 ·refine aI (.k (fH (new:=[(104,.arr 197 pC ([]:Ig))]) yX (.cons (Z.int .i64) (.cons (Z.sl gF) (.ref 104 Y (.cons Z.bool .nil)))) (.cons .nil) Y .nil) (.f [4,5] ?_));refine aH ?_;obtain rfl:=pT h;exact cB (σ':=⟨[(4,.ptr 90 0),(5,.v Q9 E)],[(90,.box 80 [.v Q0 (0:Int),.v Q1 ([]:Q6),.v (Wr.sl pC) ([]:Ig),.v Wr.bool false])]⟩) (aC [(90,102)]) (bT z dS Y (aV Y Y (.VB sO (.VB sO (.VB sO sO))) Ew yW) (RV.tmp Y) .nil Y)
 refine aF ?_;refine cV [2,4,16] ?_;refine aU h Y (fun B h=>?_) (fun B h=>?_)
 ·refine aI (.k (fH (new:=[(105,.arr 197 pC ([]:Ig))]) yX (.cons (Z.int .i64) (.cons (Z.sl gF) (.ref 105 Y (.cons Z.bool .nil)))) (.cons .nil) Y .nil) (.f [4,5] ?_));refine aH ?_;obtain rfl:=pT h;exact cB (σ':=⟨[(4,.ptr 90 0),(5,.v Q9 (some (2:Int)))],[(90,.box 80 [.v Q0 (0:Int),.v Q1 ([]:Q6),.v (Wr.sl pC) ([]:Ig),.v Wr.bool false])]⟩) (aC [(90,102)]) (bT z dS Y (aV Y Y (.VB sO (.VB sO (.VB sO sO))) Ew yW) (RV.tmp Y) .nil Y)
 refine aF ?_;obtain⟨u,G,h⟩:=aA h;refine aI (.k (aT Y Y (.VB sO (.VB sO (.VB sO sO))) Ew yW) (.k (fI 106000 (wJ G) Tryz.call178 (.cons (.dir Y) .nil) Y) (.f [2,4] ?_)));refine aL [2,4] ?_;refine aG ?_;refine bS ?_;refine aL [2,4,35] ?_;refine aU h Y (fun C h=>?_) (fun C h=>?_)
 ·refine aF ?_;refine aZ ?_;refine aI (.a 1 ?_);refine .t (uE 107 214 gF Y Y Y Y Ii Y) (.f [2,4] ?_);refine aI (.k (hC Y Y Y Ew yW) (.f [4,5] ?_));refine aH ?_;obtain rfl:=pT h;exact cB (σ':=⟨[(4,.ptr 90 0),(5,.v Q9 (none:Option Int))],[(90,.box 80 [.v Q0 (ar .add .i64 u.1 (1:Int)),.v Q1 ([]:Q6),.v (Wr.sl pC) u.2.2.1,.v Wr.bool u.2.2.2])]⟩) (aC [(90,102)]) (bT z dS Y (aV Y Y (.VB sO (.VB sO (.VB sO sO))) Ew yW) (RV.tmp Y) .nil Y)
 refine aL [2,4,38] ?_;refine aU h Y (fun D h=>?_) (fun D h=>?_)
 ·refine eM (.a 3 ?_);refine .t (uE 108 197 pC Y Y Y Y TH Y) (.f [2,4] ?_);refine aZ ?_;refine aI (.a 1 ?_);refine .t (uE 109 214 gF Y Y Y Y Ii Y) (.f [2,4] ?_);refine aI (.k (hC Y Y Y Ew yW) (.f [4,5] ?_));refine aH ?_;obtain rfl:=pT h;exact cB (σ':=⟨[(4,.ptr 90 0),(5,.v Q9 (none:Option Int))],[(90,.box 80 [.v Q0 (ar .add .i64 u.1 (1:Int)),.v Q1 ([]:Q6),.v (Wr.sl pC) ([]:Ig),.v Wr.bool true])]⟩) (aC [(90,102)]) (bT z dS Y (aV Y Y (.VB sO (.VB sO (.VB sO sO))) Ew yW) (RV.tmp Y) .nil Y)
 obtain⟨H,I,h⟩:=aA h;refine eM (.a 6 ?_);refine .k (bR Dl (.cons (Z.int .i64) (.cons (Z.sl gF) .nil)) (.cons Y (.dir Y) Y Y Y Y (.cons Y (.dir Y) Y Y Y Y .nil))) (.sub (σ':=⟨[(2,.ptr 101 0),(4,.ptr 102 0),(25,.ptr 101 2),(26,.ref 106001),(27,.ptr 101 0),(28,.v Q0 (ar .add .i64 u.1 (1:Int))),(29,.ptr 101 1),(30,.v Q1 u.2.1),(31,.agg [.v Q0 (ar .add .i64 u.1 (1:Int)),.v Q1 u.2.1]),(38,.v Wr.bool (cm .eql (u.2.2.1.length:Int) (4:Int)))],[(101,.box 80 [.v Q0 (ar .add .i64 u.1 (1:Int)),.v Q1 u.2.1,.ref 106001,.v Wr.bool u.2.2.2]),(102,.box 80 [.v Q0 (0:Int),.v Q1 ([]:Q6),.v (Wr.sl pC) ([]:Ig),.v Wr.bool false]),(106001,.arr 197 pC u.2.2.1)]⟩) (Sw.Sub.mk id (.cons Y (.of_eq Y) (.cons Y (.of_eq Y) (.cons Y (.of_eq Y) (.cons Y (.of_eq Y) (.cons Y (.of_eq Y) (.cons Y (.of_eq Y) (.cons Y (.of_eq Y) (.cons Y (.K8 Y Y) (.cons Y (.agg (.cons (.of_eq Y) (.cons (.K8 Y Y) .nil))) (.cons Y (.of_eq Y) .nil)))))))))) (.box Y (.cons (.of_eq Y) (.cons (.K8 Y Y) (.cons (.of_eq Y) (.cons (.of_eq Y) .nil)))) (.box Y (.cons (.of_eq Y) (.cons (.of_eq Y) (.cons (.of_eq Y) (.cons (.of_eq Y) .nil)))) (.arr Y .nil))) Y) (.k (dI (e:=pC) EL vC Pa Y Y Y Y (.cons (.agg Y (.same (.same .nil)) (.VB sO sO) Y) .nil)) (.t (bU 110 I Y Y (.sl Y) EL QD vC Y Y Y Y Y) (.f [2,4] ?_))));refine aZ ?_;refine aI (.a 1 ?_);refine .t (It Y Y Y (.mo gF) Y Y Y Ii) (.f [2,4] ?_);refine aI (.k (hC Y Y Y Ew yW) (.f [4,5] ?_));refine aH ?_;obtain rfl:=pT h;exact cB (σ':=⟨[(4,.ptr 90 0),(5,.v Q9 (none:Option Int))],[(90,.box 80 [.v Q0 (ar .add .i64 u.1 (1:Int)),.v Q1 ([]:Q6),.v (Wr.sl pC) H,.v Wr.bool u.2.2.2])]⟩) (aC [(90,102)]) (bT z dS Y (aV Y Y (.VB sO (.VB sO (.VB sO sO))) Ew yW) (RV.tmp Y) .nil Y)
theorem nK(A:Nat->Nat){b0 b1 b2 b3 b4 b5 b6 b7 b8 b9 bA bB bC bD bE bF bG bH bI bJ bK bL r}(h:eG b0 b1 b2 b3 b4 b5 b6 b7 b8 b9 bA bB bC bD bE bF bG bH bI bJ bK bL=some r):
 VG Tryz.prog 103 [.ptr 9000 1] (kO 9000 (some (A 9000)) 9100 (some (A 9100)) 9200 (some (A 9200)) 9050 9051 9052 9053 b0 b1 b2 b3 b4 b5 b6 b7 b8 b9 bA bB bC bD bE bF bG bH bI bJ bK bL) (.WC []) (kO 9000 (some (A 9000)) 9100 (some (A 9100)) 9200 (some (A 9200)) 400 401 402 403 b0 b1 b2 b3 b4 b5 r b7 b8 b9 bA bB bC bD bE bF bG bH bI bJ bK bL):=by
 refine VG.of Tryz.func103 Y Tryz.ntmps103 Y ?_;intro S w R u;unfold eG at h;refine aG ?_;obtain⟨D,z,h⟩:=aA h;obtain⟨B,C,h⟩:=aA h;refine dV 14 mixed (by exact(.k (aD Y) (.k (aK Y) (.k (aB 10 Y vS Y Yy Y Y) (.k (aJ Y Y Y ON Yy) (.k (aD Y) (.k (aK Y) (.k (aB 1 Y vS Y Kv Y Y) (.k (aB 3 Y Ey Y S3 Y Y) (.k (aJ Y Y Y G3 S3) (.k (aD Y) (.k (aK Y) (.k (aB 5 Y vS Y yD Y Y) (.k (aJ Y Y Y Ti yD) (.k (Pv (qW 102000 (cP z) Yw (.cons (.ref Y Y) .nil) Y XH.ref (YE.arr YE.nil)) (fun _=>(Sw.Sub.mk id (.cons Y (.K8 Y Y) .nil) .nil Y)) Y) .nil))))))))))))))) (by exact(J.t (Mr C Y Y Y Y QN U3 (n5.int U3) Y) (J.kp [0] []))) ?_;refine dV 11 mixed (by exact(.k (aD Y) (.k (aK Y) (.k (aB 10 Y vS Y Yy Y Y) (.k (aJ Y Y Y ON Yy) (.k (aD Y) (.k (aK Y) (.k (aB 1 Y vS Y Kv Y Y) (.k (aB 3 Y Ey Y S3 Y Y) (.k (aJ Y Y Y G3 S3) (.k (cU Y Y Y) (.k (cU Y Y Y) .nil)))))))))))) (by exact(J.t (Ms Y Y Y QN U3 (n5.int U3) Y) (J.kp [0] []))) ?_;refine Zh ?_;obtain rfl:=pT h;exact cB (σ':=⟨[(0,.ptr 9000 1)],(kO 9000 (some (A 9000)) 9100 (some (A 9100)) 9200 (some (A 9200)) 400 401 402 403 b0 b1 b2 b3 b4 b5 (Gb B (ar .sub .i64 (ar .sub .i64 b2 (4:Int)) (1:Int))) b7 b8 b9 bA bB bC bD bE bF bG bH bI bJ bK bL)⟩) (aC [(403,9053),(402,9052),(401,9051),(400,9050)]) (Eg u Y (.cons Y (.cons Y (.cons Y (.cons Y (.cons Y (.cons Y (.cons Y .nil))))))))
theorem xV(A:Nat->Nat){b0 b1 b2 b3 b4 b5 b6 b7 b8 b9 bA bB bC bD bE bF bG bH bI bJ bK bL r}(h:fP b0 b1 b2 b3 b4 b5 b6 b7 b8 b9 bA bB bC bD bE bF bG bH bI bJ bK bL=some r):
 VG Tryz.prog 110 [.ptr 9000 0] (kO 9000 (some (A 9000)) 9100 (some (A 9100)) 9200 (some (A 9200)) 9050 9051 9052 9053 b0 b1 b2 b3 b4 b5 b6 b7 b8 b9 bA bB bC bD bE bF bG bH bI bJ bK bL) (.v Q9 r.1) (kO 9000 (some (A 9000)) 9100 (some (A 9100)) 9200 (some (A 9200)) 400 401 402 403 b0 b1 r.2.1 b3 b4 r.2.2.1 r.2.2.2.1 b7 b8 b9 bA bB bC bD bE bF bG bH r.2.2.2.2.1 r.2.2.2.2.2 bK bL):=by
 refine VG.of Tryz.func110 Y Tryz.ntmps110 Y ?_;intro S w R u;unfold fP at h;refine aL [0] ?_;refine aL [0,3] ?_;refine aG ?_;refine aG ?_;obtain⟨E,B,h⟩:=aA h;refine dV 14 mixed (by exact(.k (aD Y) (.k (aK Y) (.k (aB 1 Y vS Y Kv Y Y) (.k (aD Y) (.k (aK Y) (.k (aB 6 Y vS Y yW Y Y) (.k (aB 7 Y RE Y Ii Y Y) (.k (yQ (off:=6) (o1:=1) Y Y Y Y (.snd (.fst .here)) EV Ii) (.k (aD Y) (.k (aK Y) (.k (aB 1 Y vS Y Kv Y Y) (.k (aB 3 Y Ey Y S3 Y Y) (.k (aJ Y Y Y G3 S3) (.k (cU Y Y Y) .nil))))))))))))))) (by exact(J.t (eQ [9000,9100,9200,9050,9051,9052,9053] (vV [(9000,9000),(9100,9100),(9200,9200),(9050,9050),(9051,9051),(9052,9052),(9053,9053),(400,101),(401,102),(402,103),(403,104)]) (dK Y) (fun A=>Aj A B) Tryz.call165 (fun A=>(.box Y (.box Y (.box Y (.arr (.mp (.arr (.arr .nil Y) Y) Y) Y) Y) Y) Y))) (jz [0,3,4]))) ?_;refine aL [0,3,4,26] ?_;refine aU h Y (fun z h=>?_) (fun z h=>?_)
 ·refine aL [0,2] ?_;cases h;exact aH (eW u Y (aC [(403,104),(402,103),(401,102),(400,101)]))
 refine aF ?_;refine aG ?_;obtain⟨F,C,h⟩:=aA h;refine dV 16 mixed (by exact(.k (aD Y) (.k (aK Y) (.k (aB 6 Y vS Y yW Y Y) (.k (aJ Y Y Y Ew yW) (.k (aD Y) (.k (aK Y) (.k (aB 1 Y vS Y Kv Y Y) (.k (aB 2 Y Ey Y S3 Y Y) (.k (aJ Y Y Y G3 S3) (.k (aM (Ob C) Tryz.call166 (.cons (.dir Y) (.cons (.dir Y) .nil))) (.k (aD Y) (.k (bW Y Y) (.k (bW Y Y) (.k (aN 106 QO Y (.cons (Z.int .i64) (.cons (Z.sl gF) (.cons (Z.sl pC) (.cons Z.bool .nil)))) Y) (XF.storeAll (.none Y) Y Y Y Y (.VB sO (.VB sO (.VB sO sO))) yW (.k (bP Y) .nil))))))))))))))))) (by exact(J.kp [0,3,5,6] [])) ?_;refine aI (.a 1 ?_);refine .k (aT Y Y (.VB sO (.VB sO (.VB sO sO))) Ew yW) (.f [0,3,6] ?_);obtain⟨G,D,h⟩:=aA h;refine aI (.a 1 ?_);refine .t (eQ [9000,9100,9200,101,102,103,104] (vV [(9000,9000),(9100,9100),(9200,9200),(9050,101),(9051,102),(9052,103),(9053,104),(400,107),(401,108),(402,109),(403,110)]) (dK Y) (fun A=>nK A D) Tryz.call103 (fun A=>(.box Y (.box Y (.box Y (.arr (.mp (.arr (.arr .nil Y) Y) Y) Y) Y) Y) Y))) (.f [0,6] ?_);refine aL [0,2] ?_;cases h;exact aH (eW u Y (aC [(403,110),(402,109),(401,108),(400,107)]))
theorem Cl(A:Nat->Nat){a1 b0 b1 b2 b3 b4 b5 b6 b7 b8 b9 bA bB bC bD bE bF bG bH bI bJ bK bL r}(h:nP a1 b0 b1 b2 b3 b4 b5 b6 b7 b8 b9 bA bB bC bD bE bF bG bH bI bJ bK bL=some r):
 VG Tryz.prog 109 [.ptr 9000 0,.v Q4 a1] (kO 9000 (some (A 9000)) 9100 (some (A 9100)) 9200 (some (A 9200)) 9050 9051 9052 9053 b0 b1 b2 b3 b4 b5 b6 b7 b8 b9 bA bB bC bD bE bF bG bH bI bJ bK bL) (.WC [.v aO r.1,.v Q9 r.2.1]) (Ta 9000 (some (A 9000)) 301 none 302 none 400 401 402 403 r.2.2):=by
 refine VG.of Tryz.func109 Y Tryz.ntmps109 Y ?_;intro S w R u;unfold nP at h;refine aI (.k (cJ 101 Y (.VB sO (.VB sO (.VB sO sO))) Y) (.k (aN 102 Br Y (.cons (Z.arr 8 (Z.int .u8)) .nil) Y) (.f [0,4] ?_)));obtain⟨z,B,h⟩:=aA h;refine aI (.k (dE (e:=aO) (v:=aS) Bq vR I5 Y Y (Z.arr 8 (Z.int .u8))) ?_);refine .a 1 ?_;refine .t (eQ [9000,9100,9200,9050,9051,9052,9053] (vV [(9000,9000),(9100,9100),(9200,9200),(9050,9050),(9051,9051),(9052,9052),(9053,9053),(400,103),(401,104),(402,105),(403,106)]) (dK Y) (fun A=>xV A B) Tryz.call110 (fun A=>(.box Y (.box Y (.box Y (.arr (.mp (.arr (.arr .nil Y) Y) Y) Y) Y) Y) Y))) (.f [0,4,5] ?_);refine aH ?_;obtain rfl:=pT h;exact nJ [(0,.ptr 9000 0),(4,.ptr 90 0),(5,.v Q9 z.1)] [(90,.box 30 [.v aO aS])] (aC [(90,102),(403,106),(302,9200),(402,105),(401,104),(400,103),(301,9100)]) (dP u Y (cL Y Y Y uO kP) (RV.tmp Y) (.cons Y (.cons Y (.cons Y (.cons Y (.cons Y (.cons Y (.cons Y .nil))))))))
theorem Ij{a0 r}(h:pQ a0=some r):
 VS Tryz.prog 183 [.v Q0 a0] (.v Wr.bool r) []:=by
 refine VS.of Tryz.func183 Y Tryz.ntmps183 Y ?_;intro S w z;unfold pQ at h;refine aL [0] ?_;refine aG ?_;obtain⟨B,u,h⟩:=aA h;refine eP (σ':=⟨[(2,.v Wr.bool B)],[]⟩) ?_ ?_
 ·refine cd u (fun A u=>?_) (fun A u=>?_)
  ·cases u;exact jy
  cases u;exact jy
 cases h;exact aH (aY z dS Y (RV.tmp Y) .nil Y)
theorem oY{a0 r}(h:dY a0=some r):
 VS Tryz.prog 228 [.v mD a0,.ZJ 183 []] (.v Q0 r) []:=by
 refine VS.of Tryz.func228 Y Tryz.ntmps228 Y ?_;intro S w u;unfold dY at h;refine aL [0,1] ?_;refine cV [0,1,7,8] ?_;obtain⟨L,F,G,H⟩:=cN h;refine jP (σs:=fun z:Int=>⟨[(0,.v mD a0),(1,.ZJ 183 []),(7,.v Q0 (a0.length:Int)),(8,.v Q0 z)],[]⟩) (fun A:Unit=>⟨[],[]⟩) F (aC []) ?_ ?_
 ·intro A B;have h:=G _ B;refine aL [4] ?_;cases h;exact aH (aY u dS Y (RV.tmp Y) .nil Y)
 intro z K h;refine aL [0,1,7,8,9] ?_;refine aG ?_;refine aU h Y (fun C h=>?_) (fun C h=>?_)
 ·refine aF ?_;refine aG ?_;refine bS ?_;refine aL [0,1,5,7,8] ?_;obtain⟨M,N,h⟩:=aA h;obtain⟨O,I,h⟩:=aA h;refine aI (.a 5 ?_);refine .k (tN Y (Ij I) Tryz.call183 (.cons (.dir Y) .nil)) (.f [0,1,5,7,8,16] ?_);refine aU h Y (fun D h=>?_) (fun D h=>?_)
  ·refine aL [4] ?_;refine aH ?_;refine eR ?_;cases h;refine hX fun E=>?_;obtain rfl:=H _ E;exact aY u dS Y (RV.tmp Y) .nil Y
  refine aF ?_;refine aZ ?_;refine dQ [0,1,7,8] ?_;cases h;exact cF (aC [])
 cases h;exact dC (dJ (aC []))
theorem nG{a0 r}(h:cX a0=some r):
 VS Tryz.prog 182 [.v mD a0,.ZJ 183 []] (.v Wr.bool r) []:=by
 refine VS.of Tryz.func182 Y Tryz.ntmps182 Y ?_;intro S w u;unfold cX at h;refine aL [0,1] ?_;obtain⟨A,z,h⟩:=aA h;refine aI (.a 2 ?_);refine .k (aM (oY z) Tryz.call228 (.cons (.dir Y) (.cons (.dir Y) .nil))) (.f [4] ?_);cases h;exact aH (aY u dS Y (RV.tmp Y) .nil Y)
theorem Cb{a0 r}(h:qB a0=some r):
 VS Tryz.prog 134 [.v Q8 a0] (.v Q9 r) []:=by
 refine VS.of Tryz.func134 Y Tryz.ntmps134 Y ?_;intro S w z;unfold qB at h;refine aI (.k (cJ 101 Y (.VB sO (.VB sO sO)) Y) (.f [1] ?_));refine aG ?_;refine aG ?_;obtain⟨F,u,h⟩:=aA h;refine eP (σ':=⟨[(1,.ptr 101 0),(10,.v Wr.bool F)],[(101,.box 144 [.v Q0 a0.1,.v mD a0.2.1,.v Q5 a0.2.2])]⟩) ?_ ?_
 ·refine cd u (fun A u=>?_) (fun A u=>?_)
  ·cases u;exact jy
  cases u;exact jy
 refine aU h Y (fun B h=>?_) (fun B h=>?_)
 ·refine aL [2] ?_;cases h;exact aH (aY z dS Y (RV.tmp Y) .nil Y)
 refine aF ?_;refine aG ?_;refine aG ?_;obtain⟨G,u,h⟩:=aA h;refine eP (σ':=⟨[(1,.ptr 101 0),(21,.v Wr.bool G)],[(101,.box 144 [.v Q0 a0.1,.v mD a0.2.1,.v Q5 a0.2.2])]⟩) ?_ ?_
 ·refine cd u (fun C u=>?_) (fun C u=>?_)
  ·cases u;exact jy
  cases u;exact jy
 refine aU h Y (fun D h=>?_) (fun D h=>?_)
 ·refine aL [2] ?_;cases h;exact aH (aY z dS Y (RV.tmp Y) .nil Y)
 refine aF ?_;obtain⟨I,H,h⟩:=aA h;refine jM (.a 2 ?_);refine .k (aM (nG H) Tryz.call182 (.cons (.dir Y) (.cons .fn .nil))) (.f [25] ?_);refine aU h Y (fun E h=>?_) (fun E h=>?_)
 ·refine aL [2] ?_;cases h;exact aH (aY z dS Y (RV.tmp Y) .nil Y)
 refine aF ?_;refine aL [2] ?_;cases h;exact aH (aY z dS Y (RV.tmp Y) .nil Y)
theorem Fp{a0 r}(h:tT a0=some r):
 VS Tryz.prog 135 [.v (Wr.sl (Wr.int .u8)) a0] (.v (Wr.int .u32) r) []:=by
 refine VS.of Tryz.func135 Y Tryz.ntmps135 Y ?_;intro S w D;unfold tT at h;refine aL [0] ?_;refine aL [0,3] ?_;refine cV [3,6,7,8] ?_;obtain⟨N,G,H,O⟩:=cN h;refine jP (σs:=fun u:Int×Int=>⟨[(3,.v (Wr.int .u32) u.1),(6,.v (Wr.sl (Wr.int .u8)) a0),(7,.v Q0 (a0.length:Int)),(8,.v Q0 u.2)],[]⟩) (fun B:Int=>⟨[(3,.v (Wr.int .u32) B)],[]⟩) G (aC []) ?_ ?_
 ·intro B z;have h:=H _ z;refine aI (.a 1 ?_);refine .k (OV Y) (.f [2] ?_);cases h;exact aH (aY D dS Y (RV.tmp Y) .nil Y)
 intro u L h;refine aL [3,6,7,8,9] ?_;refine aG ?_;refine aU h Y (fun E h=>?_) (fun E h=>?_)
 ·refine aF ?_;refine aG ?_;refine bS ?_;obtain⟨P,Q,h⟩:=aA h;refine aL [3,5,6,7,8] ?_;refine aI (.a 2 ?_);refine .k (by exact mH U5 Tryz.runUnderlying247 Y Y) (.f [3,6,7,8] ?_);refine aL [3,6,7,8,16] ?_;obtain⟨R,I,K,T⟩:=cN h;refine jP (σs:=fun A:Int×Int=>⟨[(3,.v (Wr.int .u32) A.1),(6,.v (Wr.sl (Wr.int .u8)) a0),(7,.v Q0 (a0.length:Int)),(8,.v Q0 u.2),(16,.v Q0 A.2)],[]⟩) (fun C:Int=>⟨[(3,.v (Wr.int .u32) C),(6,.v (Wr.sl (Wr.int .u8)) a0),(7,.v Q0 (a0.length:Int)),(8,.v Q0 u.2)],[]⟩) I (aC []) ?_ ?_
  ·intro C z;have h:=K _ z;refine aZ ?_;refine dQ [3,6,7,8] ?_;cases h;exact cF (aC [])
  intro A M h;refine aL [3,6,7,8,16,17] ?_;refine aG ?_;refine aU h Y (fun F h=>?_) (fun F h=>?_)
  ·refine aF ?_;refine aG ?_;refine bS ?_;refine eM (.a 1 ?_);refine .k (fA (.inr Y) (by decide) Y Y) (.f [3,6,7,8,16] ?_);refine aZ ?_;refine dQ [3,6,7,8,16] ?_;cases h;exact cF (aC [])
  cases h;exact dC (dJ (aC []))
 cases h;exact dC (dJ (aC []))
theorem xW{a0 r}(h:mS a0=some r):
 VS Tryz.prog 77 [.v Q8 a0] (.WC [.v (Wr.sl (Wr.int .u8)) r.1,.v Q9 r.2]) []:=by
 refine VS.of Tryz.func77 Y Tryz.ntmps77 Y ?_;intro S w D;unfold mS at h;refine aI (.k (cJ 101 Y (.VB sO (.VB sO sO)) Y) (.k (kZ (Wr.int .u8)) (.f [1] ?_)));obtain⟨v1,L,h⟩:=aA h;refine jM (.k (aT Y Y (.VB sO (.VB sO sO)) uU lL) (.k (aM (Cb L) Tryz.call134 (.cons (.dir Y) .nil)) (.f [1,4] ?_)));refine aL [1,4,14] ?_;refine aU h Y (fun G h=>?_) (fun G h=>?_)
 ·refine aI (.a 1 ?_);refine .k (kZ (Wr.int .u8)) (.f [2,3] ?_);cases h;exact aH (bT D dS Y (RV.tmp Y) (RV.tmp Y) .nil Y)
 refine aF ?_;refine aI (.a 3 ?_);refine .k (fA (.inl Y) (by decide) Y Y) ?_;refine .a 9 ?_;refine .k (rL (e:=(Wr.int .u8)) 103 tI S5 Z5 Y Y Y Y (.cons (.dir Y) (.cons (.dir Y) .nil))) (.f [1,5] ?_);refine cV [1,5,31,32,33] ?_;obtain⟨ae,M,N,af⟩:=cN h;refine jP (σs:=fun z:Int×kS=>⟨[(1,.ptr 101 0),(5,.ref 125),(31,.v mD a0.2.1),(32,.v Q0 (a0.2.1.length:Int)),(33,.v Q0 z.1)],[(101,.box 144 [.v Q0 a0.1,.v mD a0.2.1,.v Q5 a0.2.2]),(125,.arr 5 (Wr.int .u8) z.2)]⟩) (fun E:kS=>⟨[(1,.ptr 101 0),(5,.ref 125)],[(101,.box 144 [.v Q0 a0.1,.v mD a0.2.1,.v Q5 a0.2.2]),(125,.arr 5 (Wr.int .u8) E)]⟩) M (aC [(125,103)]) ?_ ?_
 ·intro E u;have h:=N _ u;refine cV [5,54,55,56] ?_;obtain⟨ah,O,P,ai⟩:=cN h;refine jP (σs:=fun A:Int×kS=>⟨[(5,.ref 151),(54,.v Q5 a0.2.2),(55,.v Q0 (a0.2.2.length:Int)),(56,.v Q0 A.1)],[(151,.arr 5 (Wr.int .u8) A.2)]⟩) (fun F:kS=>⟨[(5,.ref 151)],[(151,.arr 5 (Wr.int .u8) F)]⟩) O (aC [(151,125)]) ?_ ?_
  ·intro F u;have h:=P _ u;obtain⟨aj,Q,h⟩:=aA h;refine aI (.a 1 ?_);refine .k (rN (Fp Q) Tryz.call135 (.cons (.ref Y Y) .nil) XH.v) (.f [5,10] ?_);obtain⟨am,R,h⟩:=aA h;refine aI (.a 2 ?_);refine .k (fA (.inr Y) (by decide) Y Y) ?_;refine .a 2 ?_;refine .k (fA (.inr Y) (by decide) Y Y) ?_;refine .a 2 ?_;refine .k (fA (.inr Y) (by decide) Y Y) ?_;refine .a 3 ?_;refine .k (dI (e:=(Wr.int .u8)) tI S5 Z5 Y Y Y Y (.cons (.dir Y) (.cons (.dir Y) (.cons (.dir Y) (.cons (.dir Y) .nil))))) (.t (bU 157 R Y Y (.sl Y) tI I5 S5 Y Y Y Y Y) (.f [2,3] ?_));cases h;exact aH (wN D dS Y (aC []))
  intro A ab h;refine aL [5,54,55,56,57] ?_;refine aG ?_;refine aU h Y (fun H h=>?_) (fun H h=>?_)
  ·refine aF ?_;refine aG ?_;refine bS ?_;obtain⟨an,ap,h⟩:=aA h;refine aI (.a 2 ?_);refine .k (aN 154 Br Y (.cons (Z.arr 8 (Z.int .u8)) .nil) Y) (.f [5,9,54,55,56] ?_);obtain⟨aq,T,h⟩:=aA h;refine eM (.a 1 ?_);refine .k (Pp Y Y Y vR S5) (.t (bU 155 T Y Y (.r8 Y Y Y Y) tI I5 S5 Y Y Y Y Y) (.f [5,54,55,56] ?_));refine aZ ?_;refine dQ [5,54,55,56] ?_;cases h;exact cF (aC [(151,155)])
  cases h;exact dC (dJ (aC []))
 intro z ac h;refine aL [1,5,31,32,33,34] ?_;refine aG ?_;refine aU h Y (fun I h=>?_) (fun I h=>?_)
 ·refine aF ?_;refine aG ?_;refine bS ?_;obtain⟨au,av,h⟩:=aA h;refine aL [1,5,7,31,32,33] ?_;refine aG ?_;obtain⟨aw,U,V,ax⟩:=cN h;refine jP (σs:=fun C:Int×kS=>⟨[(1,.ptr 101 0),(5,.ref 140),(7,.v Q0 C.1),(31,.v mD a0.2.1),(32,.v Q0 (a0.2.1.length:Int)),(33,.v Q0 z.1)],[(101,.box 144 [.v Q0 a0.1,.v mD a0.2.1,.v Q5 a0.2.2]),(140,.arr 5 (Wr.int .u8) C.2)]⟩) (fun B:Int×kS=>⟨[(1,.ptr 101 0),(5,.ref 140),(7,.v Q0 B.1),(31,.v mD a0.2.1),(32,.v Q0 (a0.2.1.length:Int)),(33,.v Q0 z.1)],[(101,.box 144 [.v Q0 a0.1,.v mD a0.2.1,.v Q5 a0.2.2]),(140,.arr 5 (Wr.int .u8) B.2)]⟩) U (aC [(140,125)]) ?_ ?_
  ·intro B u;have h:=V _ u;obtain⟨ay,X,h⟩:=aA h;refine eM (.a 3 ?_);refine .k (dI (e:=(Wr.int .u8)) tI S5 Z5 Y Y Y Y (.cons (.dir Y) .nil)) (.t (bU 143 X Y Y (.sl Y) tI I5 S5 Y Y Y Y Y) (.f [1,5,31,32,33] ?_));refine aZ ?_;refine dQ [1,5,31,32,33] ?_;cases h;exact cF (aC [(125,143)])
  intro C ad h;refine cV [1,5,7,31,32,33,38] ?_;refine aU h Y (fun K h=>?_) (fun K h=>?_)
  ·refine aF ?_;refine aG ?_;refine bS ?_;obtain⟨az,aa,h⟩:=aA h;refine eM (.a 4 ?_);refine .k (dI (e:=(Wr.int .u8)) tI S5 Z5 Y Y Y Y (.cons (.dir Y) .nil)) (.t (bU 142 aa Y Y (.sl Y) tI I5 S5 Y Y Y Y Y) (.f [1,5,7,31,32,33] ?_));refine aZ ?_;refine eM (.a 1 ?_);refine .k (fA (.inr Y) (by decide) Y Y) (.f [1,5,7,31,32,33] ?_);cases h;exact cF (aC [(140,142)])
  cases h;exact dC (dJ (aC []))
 cases h;exact dC (dJ (aC []))
theorem oR(A:Nat->Nat){a1 a2 b0 b1 b2 b3 b4 b5 b6 b7 b8 b9 bA bB bC bD bE bF bG bH bI bJ bK bL r}(h:eE a1 a2 b0 b1 b2 b3 b4 b5 b6 b7 b8 b9 bA bB bC bD bE bF bG bH bI bJ bK bL=some r):
 VG Tryz.prog 53 [.ptr 9000 0,.v Wr.bool a1,.v (Wr.F8 (Wr.int .u8)) a2] (kO 9000 (some (A 9000)) 9100 (some (A 9100)) 9200 (some (A 9200)) 9050 9051 9052 9053 b0 b1 b2 b3 b4 b5 b6 b7 b8 b9 bA bB bC bD bE bF bG bH bI bJ bK bL) (.WC []) (kO 9000 (some (A 9000)) 9100 (some (A 9100)) 9200 (some (A 9200)) 400 401 402 403 b0 b1 b2 b3 b4 b5 b6 b7 b8 b9 bA bB bC bD bE bF bG r bI bJ bK bL):=by
 refine VG.of Tryz.func53 Y Tryz.ntmps53 Y ?_;intro S w R z;unfold eE at h;refine aG ?_;obtain⟨B,u,h⟩:=aA h;refine eP (σ':=⟨[(0,.ptr 9000 0),(1,.v Wr.bool a1),(2,.v (Wr.F8 (Wr.int .u8)) a2),(15,.v Wr.bool B)],(kO 9000 (some (A 9000)) 9100 (some (A 9100)) 9200 (some (A 9200)) 9050 9051 9052 9053 b0 b1 b2 b3 b4 b5 b6 b7 b8 b9 bA bB bC bD bE bF bG bH bI bJ bK bL)⟩) ?_ ?_
 ·refine cd u (fun C u=>?_) (fun C u=>?_)
  ·cases u;refine ja 1 ?_;exact(J.k (Pz Y tI) jy)
  cases u;refine ja 1 ?_;exact(J.k (Pz Y tI) jy)
 refine aU h Y (fun D h=>?_) (fun D h=>?_)
 ·obtain⟨E,F,h⟩:=aA h;refine eM (.a 7 ?_);refine .sub (σ':=⟨[(0,.ptr 9000 0),(1,.v Wr.bool a1),(2,.v (Wr.F8 (Wr.int .u8)) a2),(15,.v Wr.bool B),(16,.ptr 9000 0),(17,.ptr 9000 0),(18,.ptr 9000 0),(19,.ptr 9000 25),(20,.ref 9053),(21,.v Wr.bool a1),(22,.v (Wr.sl (Wr.int .u8)) a2.2)],[(9000,.box 93 [.v Q0 b0,.ptr 9100 0,.v Q0 b1,.v Q0 b2,.v Q0 b3,.ref 9050,.v Kt b5,.ref 9051,.v Q0 b7,.v Ns b8,.v Q0 b9,.v Q0 bA,.ref 9052,.ptr 9200 0,.v Q0 bC,.v Q0 bD,.v Q0 bE,.v Q0 bF,.v (Wr.pr Q0 Q0) bG,.ref 9053] (some (A 9000))),(9053,.arr 135 (Wr.pr Wr.bool (Wr.pr Wr.bool (Wr.sl (Wr.int .u8)))) bH),(9100,.box 188 [.v Q0 bI,.v Q2 bJ] (some (A 9100))),(9050,.arr 30 aO b4),(9051,.mp Q0 Q5 b6),(9052,.arr 3 Q0 bB),(9200,.box 188 [.v Q0 bK,.v Q2 bL] (some (A 9200)))]⟩) (Sw.Sub.mk id (.cons Y (.of_eq Y) (.cons Y (.of_eq Y) (.cons Y (.of_eq Y) (.cons Y (.of_eq Y) (.cons Y (.of_eq Y) (.cons Y (.of_eq Y) (.cons Y (.of_eq Y) (.cons Y (.of_eq Y) (.cons Y (.of_eq Y) (.cons Y (.of_eq Y) (.cons Y .unN .nil))))))))))) (.box Y (.cons (.of_eq Y) (.cons (.of_eq Y) (.cons (.of_eq Y) (.cons (.of_eq Y) (.cons (.of_eq Y) (.cons (.of_eq Y) (.cons (.of_eq Y) (.cons (.of_eq Y) (.cons (.of_eq Y) (.cons (.of_eq Y) (.cons (.of_eq Y) (.cons (.of_eq Y) (.cons (.of_eq Y) (.cons (.of_eq Y) (.cons (.of_eq Y) (.cons (.of_eq Y) (.cons (.of_eq Y) (.cons (.of_eq Y) (.cons (.of_eq Y) (.cons (.of_eq Y) .nil)))))))))))))))))))) (.arr Y (.box Y (.cons (.of_eq Y) (.cons (.of_eq Y) .nil)) (.arr Y (.mp Y (.arr Y (.box Y (.cons (.of_eq Y) (.cons (.of_eq Y) .nil)) .nil))))))) Y) (.k (bR Wo (.cons Z.bool (.cons Z.bool (.cons (Z.sl (Wr.int .u8)) .nil))) (.cons Y (.dir Y) Y Y Y Y (.cons Y (.dir Y) Y Y Y Y .nil))) (.k (dI (e:=(Wr.pr Wr.bool (Wr.pr Wr.bool (Wr.sl (Wr.int .u8))))) Jn vZ EN Y Y Y Y (.cons (.agg Y (.same (.same (.same .nil))) (.VB sO (.VB sO sO)) Y) .nil)) (.t (bU 101 F Y Y (.sl Y) Jn NR vZ Y Y Y Y Y) (.f [0] ?_))));refine Zh ?_;obtain rfl:=pT h;exact cB (σ':=⟨[(0,.ptr 9000 0)],(kO 9000 (some (A 9000)) 9100 (some (A 9100)) 9200 (some (A 9200)) 400 401 402 403 b0 b1 b2 b3 b4 b5 b6 b7 b8 b9 bA bB bC bD bE bF bG E bI bJ bK bL)⟩) (aC [(403,101),(402,9052),(401,9051),(400,9050)]) (Eg z Y (.cons Y (.cons Y (.cons Y (.cons Y (.cons Y (.cons Y (.cons Y .nil))))))))
 refine aF ?_;refine Zh ?_;obtain rfl:=pT h;exact cB (σ':=⟨[(0,.ptr 9000 0)],(kO 9000 (some (A 9000)) 9100 (some (A 9100)) 9200 (some (A 9200)) 400 401 402 403 b0 b1 b2 b3 b4 b5 b6 b7 b8 b9 bA bB bC bD bE bF bG bH bI bJ bK bL)⟩) (aC [(403,9053),(402,9052),(401,9051),(400,9050)]) (Eg z Y (.cons Y (.cons Y (.cons Y (.cons Y (.cons Y (.cons Y (.cons Y .nil))))))))
theorem uR(A:Nat->Nat){a1 a2 b0 b1 b2 b3 b4 b5 b6 b7 b8 b9 bA bB bC bD bE bF bG bH bI bJ bK bL r}(h:iS a1 a2 b0 b1 b2 b3 b4 b5 b6 b7 b8 b9 bA bB bC bD bE bF bG bH bI bJ bK bL=some r):
 VG Tryz.prog 49 [.ptr 9000 0,.v Wr.bool a1,.v Q8 a2] (kO 9000 (some (A 9000)) 9100 (some (A 9100)) 9200 (some (A 9200)) 9050 9051 9052 9053 b0 b1 b2 b3 b4 b5 b6 b7 b8 b9 bA bB bC bD bE bF bG bH bI bJ bK bL) (.v Q9 r.1) (kO 9000 (some (A 9000)) 9100 (some (A 9100)) 9200 (some (A 9200)) 400 401 402 403 b0 b1 b2 b3 b4 b5 b6 b7 b8 b9 bA bB bC bD bE bF bG r.2 bI bJ bK bL):=by
 refine VG.of Tryz.func49 Y Tryz.ntmps49 Y ?_;intro S w R B;unfold iS at h;refine aI (.k (cJ 101 Y (.VB sO (.VB sO sO)) Y) (.f [0,1,5] ?_));obtain⟨C,D,h⟩:=aA h;refine aI (.k (aT Y Y (.VB sO (.VB sO sO)) uU lL) (.k (aM (xW D) Tryz.call77 (.cons (.dir Y) .nil)) (.f [0,1,7,8] ?_)));refine jM (.a 1 ?_);refine .k (iN Oz Y) (.f [0,1,7,8,15] ?_);obtain⟨E,F,h⟩:=fE h;refine tF (fun z:Yv=>⟨[(0,.ptr 9000 0),(8,.v Q9 C.2)],(kO 9000 (some (A 9000)) 9100 (some (A 9100)) 9200 (some (A 9200)) 107 108 109 110 b0 b1 b2 b3 b4 b5 b6 b7 b8 b9 bA bB bC bD bE bF bG z bI bJ bK bL)⟩) (fun x=>E x=some r) Y ?_ ?_ ?_
 ·intro z h;rw[F] at h;refine aL [0,6] ?_;cases h;exact aH (eW B Y (aC [(403,110),(402,109),(401,108),(400,107)]))
 ·intro u;replace h:=iK u h;obtain⟨L,G,h⟩:=aA h;obtain⟨M,I,h⟩:=aA h;refine eM (.a 3 ?_);refine .t (uD (H:=[9000,9100,9200,9050,9051,9052,9053]) (K:=[9000,9100,9200]) (vV [(9000,9000),(9100,9100),(9200,9200),(9050,9050),(9051,9051),(9052,9052),(9053,9053),(400,111),(401,112),(402,113),(403,114)]) (dK Y) (fun A=>oR A I) Tryz.call53 (.cons (.dir Y) (.cons (.dir Y) (.cons (.toN (Mp G) Y) .nil))) (fun A=>(.box Y (.box Y (.box Y (.arr Y (.mp Y (.arr Y (.arr Y .nil)))))))) (fun A=>(.box Y (.box Y (.box Y (.arr (.mp (.arr (.arr .nil Y) Y) Y) Y) Y) Y) Y)) (fun _=>rfl) Y Y (fun _=>rfl) Y Y) (.f [0,8] ?_);exact cC h (aC [(110,114),(109,113),(108,112),(107,111)])
 ·intro u;replace h:=iL u h;refine aF ?_;exact cC h (aC [(110,9053),(109,9052),(108,9051),(107,9050)])
theorem Kx{a0 a1 a2 r}(h:nE a0 a1 a2=some r):
 VS Tryz.prog 82 [.v Kt a0,.v Q0 a1,.v Q0 a2] (.WC [.v pC r.1,.v Wr.bool r.2.1,.v Q9 r.2.2]) []:=by
 refine VS.of Tryz.func82 Y Tryz.ntmps82 Y ?_;intro S w B;unfold nE at h;refine aI (.k (cJ 101 Y (.VB sO (.VB sO (.VB sO sO))) Y) (.k (aN 102 Pa Y (.cons (Z.int .i64) (.cons (Z.sl gF) .nil)) Y) (.f [1,2,3,6] ?_)));obtain⟨U,V,h⟩:=aA h;refine jM (.k (aT Y Y (.VB sO (.VB sO (.VB sO sO))) Ew yW) ?_);refine .a 1 ?_;refine .k (aM (tB V) NM (.cons (.dir Y) (.cons (.dir Y) .nil))) (.f [2,3,6,9] ?_);refine aL [2,3,6,9,21] ?_;refine aU h Y (fun K h=>?_) (fun K h=>?_)
 ·refine aI (.k (fH (new:=[(104,.arr 214 gF ([]:Q6))]) Dl (.cons (Z.int .i64) (.ref 104 Y .nil)) (.cons .nil) Y .nil) (.f [6,7,8] ?_));refine aH ?_;obtain rfl:=pT h;exact cB (σ':=⟨[(6,.ptr 90 0),(7,.v Wr.bool false),(8,.v Q9 U)],[(90,.box 197 [.v Q0 (0:Int),.v Q1 ([]:Q6)])]⟩) (aC [(90,102)]) (wQ B dS Y (aV Y Y (.VB sO sO) Nt vC) (RV.tmp Y) (RV.tmp Y) .nil Y)
 refine aF ?_;refine aG ?_;refine aG ?_;obtain⟨X,A,h⟩:=aA h;refine eP (σ':=⟨[(2,.v Q0 a2),(3,.ptr 101 0),(6,.ptr 102 0),(31,.v Wr.bool X)],[(101,.box 80 [.v Q0 a0.1,.v Q1 a0.2.1,.v (Wr.sl pC) a0.2.2.1,.v Wr.bool a0.2.2.2]),(102,.box 197 [.v Q0 (0:Int),.v Q1 ([]:Q6)])]⟩) ?_ ?_
 ·refine cd A (fun L A=>?_) (fun L A=>?_)
  ·cases A;exact jy
  cases A;exact jy
 refine aU h Y (fun M h=>?_) (fun M h=>?_)
 ·refine aI (.k (fH (new:=[(105,.arr 214 gF ([]:Q6))]) Dl (.cons (Z.int .i64) (.ref 105 Y .nil)) (.cons .nil) Y .nil) (.f [6,7,8] ?_));refine aH ?_;obtain rfl:=pT h;exact cB (σ':=⟨[(6,.ptr 90 0),(7,.v Wr.bool false),(8,.v Q9 (some (1:Int)))],[(90,.box 197 [.v Q0 (0:Int),.v Q1 ([]:Q6)])]⟩) (aC [(90,102)]) (wQ B dS Y (aV Y Y (.VB sO sO) Nt vC) (RV.tmp Y) (RV.tmp Y) .nil Y)
 refine aF ?_;refine cV [2,3,6,41] ?_;refine aU h Y (fun N h=>?_) (fun N h=>?_)
 ·refine aI (.k (fH (new:=[(106,.arr 214 gF ([]:Q6))]) Dl (.cons (Z.int .i64) (.ref 106 Y .nil)) (.cons .nil) Y .nil) (.f [6,7,8] ?_));refine aH ?_;obtain rfl:=pT h;exact cB (σ':=⟨[(6,.ptr 90 0),(7,.v Wr.bool false),(8,.v Q9 (none:Option Int))],[(90,.box 197 [.v Q0 (0:Int),.v Q1 ([]:Q6)])]⟩) (aC [(90,102)]) (wQ B dS Y (aV Y Y (.VB sO sO) Nt vC) (RV.tmp Y) (RV.tmp Y) .nil Y)
 refine aF ?_;refine aI (.k (aN 107 Tryz.zeroValue253 Y (.cons (Z.arr 32 (Z.B2 gF)) .nil) Y) (.f [2,3,6,10] ?_));refine cV [2,3,6,10,44,45,46] ?_;obtain⟨au,aa,ab,av⟩:=cN h;refine jP (σs:=fun z:Int×(List (Option (Int×aQ)))=>⟨[(2,.v Q0 a2),(3,.ptr 101 0),(6,.ptr 102 0),(10,.ptr 107 0),(44,.v (Wr.sl pC) a0.2.2.1),(45,.v Q0 (a0.2.2.1.length:Int)),(46,.v Q0 z.1)],[(101,.box 80 [.v Q0 a0.1,.v Q1 a0.2.1,.v (Wr.sl pC) a0.2.2.1,.v Wr.bool a0.2.2.2]),(102,.box 197 [.v Q0 (0:Int),.v Q1 ([]:Q6)]),(107,.box 253 [.v (Wr.arr 32 (Wr.B2 gF)) z.2])]⟩) (fun C:(List (Option (Int×aQ)))=>⟨[(3,.ptr 101 0),(6,.ptr 102 0),(10,.ptr 107 0)],[(101,.box 80 [.v Q0 a0.1,.v Q1 a0.2.1,.v (Wr.sl pC) a0.2.2.1,.v Wr.bool a0.2.2.2]),(102,.box 197 [.v Q0 (0:Int),.v Q1 ([]:Q6)]),(107,.box 253 [.v (Wr.arr 32 (Wr.B2 gF)) C])]⟩) aa (aC []) ?_ ?_
 ·intro C u;have h:=ab _ u;refine aI (.a 2 ?_);refine .k (fH (new:=[(112,.arr 214 gF ([]:Q6))]) Dl (.cons (Z.int .i64) (.ref 112 Y .nil)) (.cons .nil) Y (.cons Y (.dir Y) Y Y Y Y .nil)) (.k (zT (new:=[(114,.arr 214 gF ([]:Q6))]) 113 Pa Y (.cons (Z.int .i64) (.ref 114 Y .nil)) (.cons .nil) Y Y) (.f [6,10,14] ?_));refine cV [6,14,76,77] ?_;obtain⟨aw,ac,ad,ax⟩:=cN h;refine jP (σs:=fun E:Int×Q6=>⟨[(6,.ptr 102 0),(14,.ptr 113 0),(76,.v (Wr.arr 32 (Wr.B2 gF)) C),(77,.v Q0 E.1)],[(102,.box 197 [.v Q0 (0:Int),.v Q1 ([]:Q6)]),(113,.box 197 [.v Q0 a0.1,.ref 120]),(120,.arr 214 gF E.2)]⟩) (fun D:Q6=>⟨[(6,.ptr 102 0),(14,.ptr 113 0)],[(102,.box 197 [.v Q0 (0:Int),.v Q1 ([]:Q6)]),(113,.box 197 [.v Q0 a0.1,.ref 120]),(120,.arr 214 gF D)]⟩) ac (aC [(120,112)]) ?_ ?_
  ·intro D u;have h:=ad _ u;refine aI (.k (hC Y Y Y Nt vC) (.f [6,7,8] ?_));refine aH ?_;obtain rfl:=pT h;exact cB (σ':=⟨[(6,.ptr 90 0),(7,.v Wr.bool true),(8,.v Q9 (none:Option Int))],[(90,.box 197 [.v Q0 a0.1,.v Q1 D])]⟩) (aC [(90,102)]) (wQ B dS Y (aV Y Y (.VB sO sO) Nt vC) (RV.tmp Y) (RV.tmp Y) .nil Y)
  intro E an h;refine aL [6,14,76,77,78] ?_;refine aG ?_;refine aU h Y (fun O h=>?_) (fun O h=>?_)
  ·refine aF ?_;refine aG ?_;refine bS ?_;obtain⟨ay,ae,h⟩:=aA h;refine aI (.k (LG ae Y Y Tryz.runUnderlying253 Tryz.sizeOf252 Tryz.isAgg252) (.f [6,14,16,76,77] ?_));refine aI (.a 1 ?_);refine .k (LF Y Tryz.runUnderlying252) (.f [6,14,16,76,77,81] ?_);refine aU h Y (fun P h=>?_) (fun P h=>?_)
   ·obtain⟨qb,qx,h⟩:=aA h;obtain⟨az,af,h⟩:=aA h;refine dV 6 mixed (by exact(.k (aB 1 Y Yz Y Ii Y Y) (.k (aJ Y Y Y EV Ii) (.k (aD Y) (.k (Iw qx Y) (.k (bO Y Yx jS) (.k (dI (e:=gF) yE jS Ez Y Y Y Y (.cons (.dir Y) .nil)) .nil))))))) (by exact(J.t (bU 122 af Y Y (.sl Y) yE Ku jS Y Y Y Y Y) (jz [6,14,76,77]))) ?_;refine aZ ?_;refine dQ [6,14,76,77] ?_;cases h;exact cF (aC [(120,122)])
   refine aF ?_;refine aZ ?_;refine dQ [6,14,76,77] ?_;cases h;exact cF (aC [])
  cases h;exact dC (dJ (aC []))
 intro z ap h;refine aL [2,3,6,10,44,45,46,47] ?_;refine aG ?_;refine aU h Y (fun Q h=>?_) (fun Q h=>?_)
 ·refine aF ?_;refine aG ?_;refine bS ?_;obtain⟨G,a3,h⟩:=aA h;refine aI (.a 2 ?_);refine .k (aN 111 Pa Y (.cons (Z.int .i64) (.cons (Z.sl gF) .nil)) Y) (.t (bX Y Y Y Y (.VB sO sO) vC) (.f [2,3,6,10,12,44,45,46] ?_));refine aL [2,3,6,10,12,44,45,46,52,53] ?_;obtain⟨a4,ah,ai,a5⟩:=cN h;refine jP (σs:=fun F:Int×(List (Option (Int×aQ)))=>⟨[(2,.v Q0 a2),(3,.ptr 101 0),(6,.ptr 102 0),(10,.ptr 107 0),(12,.ptr 111 0),(44,.v (Wr.sl pC) a0.2.2.1),(45,.v Q0 (a0.2.2.1.length:Int)),(46,.v Q0 z.1),(52,.v Q0 (G.2.length:Int)),(53,.v Q0 F.1)],[(101,.box 80 [.v Q0 a0.1,.v Q1 a0.2.1,.v (Wr.sl pC) a0.2.2.1,.v Wr.bool a0.2.2.2]),(102,.box 197 [.v Q0 (0:Int),.v Q1 ([]:Q6)]),(107,.box 253 [.v (Wr.arr 32 (Wr.B2 gF)) F.2]),(111,.box 197 [.v Q0 G.1,.v Q1 G.2])]⟩) (fun H:(List (Option (Int×aQ)))=>⟨[(2,.v Q0 a2),(3,.ptr 101 0),(6,.ptr 102 0),(10,.ptr 107 0),(44,.v (Wr.sl pC) a0.2.2.1),(45,.v Q0 (a0.2.2.1.length:Int)),(46,.v Q0 z.1)],[(101,.box 80 [.v Q0 a0.1,.v Q1 a0.2.1,.v (Wr.sl pC) a0.2.2.1,.v Wr.bool a0.2.2.2]),(102,.box 197 [.v Q0 (0:Int),.v Q1 ([]:Q6)]),(107,.box 253 [.v (Wr.arr 32 (Wr.B2 gF)) H])]⟩) ah (aC []) ?_ ?_
  ·intro H u;have h:=ai _ u;refine aZ ?_;refine dQ [2,3,6,10,44,45,46] ?_;cases h;exact cF (aC [])
  intro F aq h;refine aL [2,3,6,10,12,44,45,46,52,53,54] ?_;refine aG ?_;refine aU h Y (fun R h=>?_) (fun R h=>?_)
  ·refine aF ?_;refine aG ?_;refine bS ?_;refine aL [2,3,6,10,12,13,44,45,46,52,53] ?_;refine aL [2,3,6,10,12,13,44,45,46,52,53,59] ?_;refine aU h Y (fun T h=>?_) (fun T h=>?_)
   ·obtain⟨a6,aj,h⟩:=aA h;obtain⟨a7,am,h⟩:=aA h;obtain⟨a8,I,h⟩:=aA h;refine dV 11 mixed (by exact(.k (aB 1 Y Yz Y Ii Y Y) (.k (aJ Y Y Y EV Ii) (.k (aD Y) (.k (gP aj Y Y yE jS) (.k (cG Y Nv Y S3 Y (.fst .here) Y) (.k (bO Y G3 S3) (.k (aB 1 Y Yz Y Ii Y Y) (.k (aJ Y Y Y EV Ii) (.k (aD Y) (.k (Zz (gP am Y Y yE jS)) (.k (rK I Y Y Y Y Tryz.runUnderlying253 Tryz.sizeOf252) .nil)))))))))))) (by exact(J.t (Db (dG I).2.2 Y Y Y Y Tryz.sizeOf252) (J.kp [2,3,6,10,12,44,45,46,52,53] []))) ?_;refine aZ ?_;refine dQ [2,3,6,10,12,44,45,46,52,53] ?_;cases h;exact cF (aC [])
   refine aF ?_;refine aZ ?_;refine dQ [2,3,6,10,12,44,45,46,52,53] ?_;cases h;exact cF (aC [])
  cases h;exact dC (dJ (aC []))
 cases h;exact dC (dJ (aC []))
theorem Ky{a0 r}(h:qC a0=some r):
 VS Tryz.prog 229 [.v Q5 a0] (.v Q9 r) []:=by
 refine VS.of Tryz.func229 Y Tryz.ntmps229 Y ?_;intro S w u;unfold qC at h;refine aL [0] ?_;refine cV [0,8] ?_;refine aU h Y (fun C h=>?_) (fun C h=>?_)
 ·refine aL [2] ?_;cases h;exact aH (aY u dS Y (RV.tmp Y) .nil Y)
 refine aF ?_;refine aI (.k (Fw 101 aO Wr.bool) (.f [0,3] ?_));refine cV [3,11,12,13] ?_;obtain⟨M,G,H,I⟩:=cN h;refine jP (σs:=fun z:Int×(List (aQ×Bool))=>⟨[(3,.ref 101),(11,.v Q5 a0),(12,.v Q0 (a0.length:Int)),(13,.v Q0 z.1)],[(101,.mp aO Wr.bool z.2)]⟩) (fun A:Unit=>⟨[],[]⟩) G (aC []) ?_ ?_
 ·intro A B;have h:=H _ B;refine aL [2] ?_;cases h;exact aH (aY u dS Y (RV.tmp Y) .nil Y)
 intro z L h;refine aL [3,11,12,13,14] ?_;refine aG ?_;refine aU h Y (fun D h=>?_) (fun D h=>?_)
 ·refine aF ?_;refine aG ?_;refine bS ?_;obtain⟨N,O,h⟩:=aA h;refine aI (.a 2 ?_);refine .k (aN 105 Br Y (.cons (Z.arr 8 (Z.int .u8)) .nil) Y) (.f [3,5,11,12,13] ?_);refine jM (.a 2 ?_);refine .k (CA Y Y Y Tryz.runUnderlying388 vR Wn Y BS Y Tryz.zeroValue4 (fun _ _=>⟨_,Y,Y⟩)) (.f [3,5,11,12,13,19] ?_);refine aU h Y (fun E h=>?_) (fun E h=>?_)
  ·refine aL [2] ?_;refine aH ?_;refine eR ?_;cases h;refine hX fun F=>?_;obtain rfl:=I _ F;exact aY u dS Y (RV.tmp Y) .nil Y
  refine aF ?_;obtain⟨P,K,h⟩:=aA h;refine eM (.a 2 ?_);refine .t (CB K Y Y Y Y Tryz.runUnderlying388 vR Wn Y BS Y) (.f [3,11,12,13] ?_);refine aZ ?_;refine dQ [3,11,12,13] ?_;cases h;exact cF (aC [])
 cases h;exact dC (dJ (aC []))
theorem Ak{a0 a1 r}(h:nX a0 a1=some r):
 VS Tryz.prog 186 [.v Q5 a0,.v Q5 a1] (.v Q9 r) []:=by
 refine VS.of Tryz.func186 Y Tryz.ntmps186 Y ?_;intro S w z;unfold nX at h;refine aL [0,1] ?_;refine aG ?_;refine aG ?_;obtain⟨C,u,h⟩:=aA h;refine eP (σ':=⟨[(1,.v Q5 a1),(12,.v Wr.bool C)],[]⟩) ?_ ?_
 ·refine cd u (fun A u=>?_) (fun A u=>?_)
  ·cases u;exact jy
  cases u;exact jy
 refine aU h Y (fun B h=>?_) (fun B h=>?_)
 ·refine aL [4] ?_;cases h;exact aH (aY z dS Y (RV.tmp Y) .nil Y)
 refine aF ?_;obtain⟨E,D,h⟩:=aA h;refine aI (.a 1 ?_);refine .k (aM (Ky D) Tryz.call229 (.cons (.dir Y) .nil)) (.f [4] ?_);cases h;exact aH (aY z dS Y (RV.tmp Y) .nil Y)
theorem Pe{a0 r}(h:vX a0=some r):
 VS Tryz.prog 187 [.v Q5 a0] (.WC [.v (Wr.B2 (Wr.pr Q5 (Wr.U9 aO mD))) r.1,.v Q9 r.2]) []:=by
 refine VS.of Tryz.func187 Y Tryz.ntmps187 Y ?_;intro S w C;unfold vX at h;refine aI (.k (jV (Wr.pr Q5 (Wr.U9 aO mD))) (.f [0] ?_));refine aG ?_;refine aG ?_;obtain⟨I,u,h⟩:=aA h;refine eP (σ':=⟨[(0,.v Q5 a0),(14,.v Wr.bool I)],[]⟩) ?_ ?_
 ·refine cd u (fun F u=>?_) (fun F u=>?_)
  ·cases u;exact jy
  cases u;exact jy
 refine aU h Y (fun G h=>?_) (fun G h=>?_)
 ·refine aI (.a 1 ?_);refine .k (jV (Wr.pr Q5 (Wr.U9 aO mD))) (.f [2,3] ?_);cases h;exact aH (bT C dS Y (RV.tmp Y) (RV.tmp Y) .nil Y)
 refine aF ?_;obtain⟨A,K,h⟩:=aA h;refine aI (.a 1 ?_);refine .k (fI 101000 (cP K) Yw (.cons (.dir Y) .nil) Y) (.k (Ub 102 aO 3 Q0) (.k (bR KC (.cons (Z.sl aO) (.cons (Z.U9 aO mD) .nil)) (.cons Y (.dir Y) Y Y Y Y (.cons Y (.dir Y) Y Y Y Y .nil))) (.k (zP 103 Y Y) (.f [0,4] ?_))));refine cV [4,21,22,23] ?_;obtain⟨P,L,M,Q⟩:=cN h;refine jP (σs:=fun B:Int×(List (aQ×kS))=>⟨[(4,.ptr 103 0),(21,.v Q5 a0),(22,.v Q0 (a0.length:Int)),(23,.v Q0 B.1)],[(103,.box 363 [.ref 101000,.ref 102]),(101000,.arr 30 aO A),(102,.dp (DE.S7 true aO 3 Q0) (B.2,none) [])]⟩) (fun z:(List (aQ×kS))=>⟨[(4,.ptr 103 0)],[(103,.box 363 [.ref 101000,.ref 102]),(101000,.arr 30 aO A),(102,.dp (DE.S7 true aO 3 Q0) (z,none) [])]⟩) L (aC []) ?_ ?_
 ·intro z E;have h:=M _ E;refine aI (.a 1 ?_);refine .sub (σ':=⟨[(4,.XR (Wr.pr Q5 (Wr.U9 aO mD)) (A,z)),(40,.XR (Wr.pr Q5 (Wr.U9 aO mD)) (A,z))],[]⟩) (Sw.Sub.mk id (.cons Y (.y6 Y Y (.cons (.K8 Y Y) (.cons (.aI5 Y Y .S7) .nil)) (.VB sO sO)) (.cons Y (.y6 Y Y (.cons (.K8 Y Y) (.cons (.aI5 Y Y .S7) .nil)) (.VB sO sO)) .nil)) .nil Y) (.k (by exact Zz (bP Y)) (.f [2,3] ?_));cases h;exact aH (bT C dS Y (RV.tmp Y) (RV.tmp Y) .nil Y)
 intro B O h;refine aL [4,21,22,23,24] ?_;refine aG ?_;refine aU h Y (fun H h=>?_) (fun H h=>?_)
 ·refine aF ?_;refine aG ?_;refine bS ?_;obtain⟨R,T,h⟩:=aA h;refine aI (.a 3 ?_);refine .k (aN 119 Br Y (.cons (Z.arr 8 (Z.int .u8)) .nil) Y) (.f [4,5,6,21,22,23] ?_);obtain⟨U,D,h⟩:=aA h;obtain⟨V,N,h⟩:=aA h;refine dV 11 mixed (by exact(.k (aD Y) (.k (aK Y) (.k (aB 1 Y NS Y JP Y Y) (.k (aJ Y Y Y Tryz.isAgg361 JP) (.k (aJ Y Y Y uO kP) (.k (aD Y) (.k (dI (e:=Q0) wX S3 Z3 Y Y Y Y (.cons (.dir Y) .nil)) (XF.mapEntry (.none Y) 122 D Y Y Y Tryz.runUnderlying361 vR Wn Y BS Y ga.arr Tryz.zeroValue22 Y Y (.pu (.none Y) Y (fun _ _=>bW Y Y) (XF.append (.none Y) 123 N Y Y (.sl Y) wX I3 S3 Y Y Y Y Y (.pu (.none Y) Y (fun _ _=>bW Y Y) .nil)))))))))))) (by exact(J.t (Oq (LH D) Y Y Y Y Y Y) (J.kp [4,21,22,23] []))) ?_;refine aZ ?_;refine dQ [4,21,22,23] ?_;cases h;exact cF (aC [])
 cases h;exact dC (dJ (aC []))
theorem Gp{a0 a1 r}(h:vB a0 a1=some r):
 VS Tryz.prog 310 [.v kG a0,.v gF a1] (.WC [.v Q4 r.1,.v Wr.bool r.2]) []:=by
 refine VS.of Tryz.func310 Y Tryz.ntmps310 Y ?_;intro S w u;unfold vB at h;refine aI (.k (cJ 101 Y sO Y) (.k (cJ 102 Y (.VB sO sO) Y) (.k (aN 103 Nw Y (.cons (Z.int .i64) (.cons (Z.int .i64) (.cons (Z.int .i64) (.cons (Z.arr 8 (Z.int .u8)) .nil)))) Y) (.f [3,4] ?_))));refine aG ?_;refine dV 9 mixed (by exact(.k (aB 0 Y Nv Y S3 Y Y) (.k (aJ Y Y Y G3 S3) (.k (bR Dm (.cons (Z.int .i64) (.cons (Z.int .i64) (.cons (Z.int .i64) (.cons (Z.arr 8 (Z.int .u8)) .nil)))) (.cons Y (.dir Y) Y Y Y Y (.cons Y (.dir Y) Y Y Y Y .nil))) (.k (aB 1 Y Nv Y kP Y Y) (.k (aJ Y Y Y uO kP) (.k (dE (e:=aO) (v:=aS) Bq vR I5 Y Y (Z.arr 8 (Z.int .u8))) (.k (Xd Wn Y Y Tryz.eqGuardType30 Y Y) (XF.A1 (.none Y) Y Y Y Y Y Y Ce (.k (bP Y) .nil)))))))))) (by exact(J.kp [4,5] [])) ?_;refine aH ?_;obtain rfl:=pT h;exact cB (σ':=⟨[(4,.ptr 90 0),(5,.v Wr.bool (decide (a1.2=aS)))],[(90,.box 210 [.v Q0 a1.1,.v Q0 (0:Int),.v Q0 (0:Int),.v aO aS])]⟩) (aC [(90,103)]) (bT u dS Y (aV Y Y (.VB sO (.VB sO (.VB sO sO))) Wj Ce) (RV.tmp Y) .nil Y)
theorem Ds{a0 a1 r}(h:lT a0 a1=some r):
 VS Tryz.prog 309 [.v (Wr.B2 (Wr.pr Q5 (Wr.U9 aO mD))) a0,.v aO a1] (.WC [.v Q0 r.1,.v Wr.bool r.2]) []:=by
 refine VS.of Tryz.func309 Y Tryz.ntmps309 Y ?_;intro S w u;unfold lT at h;refine aI (.k (cJ 101 Y sO Y) (.f [0,3] ?_));refine aG ?_;obtain⟨B,A,h⟩:=aA h;refine dV 7 mixed (by exact(.k (aD Y) (.k (Iw A Y) (.k (cG Y NS Y JP Y (.snd .here) Y) (.k (bO Y Tryz.isAgg361 JP) (.k (aJ Y Y Y uO kP) (.k (Xo Y Y Tryz.runUnderlying361 vR Wn Y BS Y Tryz.zeroValue22 (fun S w=>⟨_,(Z.sl Q0) S w,Y⟩)) (.k (bP Y) .nil)))))))) (by exact(J.kp [6] [])) ?_;refine cV [6,15] ?_;refine aU h Y (fun z h=>?_) (fun z h=>?_)
 ·refine aL [4,5] ?_;cases h;exact aH (bT u dS Y (RV.tmp Y) (RV.tmp Y) .nil Y)
 refine aF ?_;obtain⟨C,D,h⟩:=aA h;refine aL [4,5] ?_;cases h;exact aH (bT u dS Y (RV.tmp Y) (RV.tmp Y) .nil Y)
theorem Gq{a0 a1 r}(h:nY a0 a1=some r):
 VS Tryz.prog 311 [.v (Wr.H0 (Wr.B2 (Wr.pr Q5 (Wr.U9 aO mD)))) a0,.v gF a1] (.WC [.v Q4 r.1,.v Wr.bool r.2]) []:=by
 refine VS.of Tryz.func311 Y Tryz.ntmps311 Y ?_;intro S w z;unfold nY at h;refine aI (.k (cJ 101 Y (.H0 sO) Y) (.k (cJ 102 Y (.VB sO sO) Y) (.k (aN 103 Nw Y (.cons (Z.int .i64) (.cons (Z.int .i64) (.cons (Z.int .i64) (.cons (Z.arr 8 (Z.int .u8)) .nil)))) Y) (.f [2,3,4] ?_))));obtain⟨u,A,h⟩:=aA h;refine aI (.a 4 ?_);refine .k (aM (Ds A) Tryz.call309 (.cons (.dir Y) (.cons (.dir Y) .nil))) (.f [3,4,6,7] ?_);refine aI (.a 3 ?_);refine .k (bR Dm (.cons (Z.int .i64) (.cons (Z.int .i64) (.cons (Z.int .i64) (.cons (Z.arr 8 (Z.int .u8)) .nil)))) (.cons Y (.dir Y) Y Y Y Y (.cons Y (.dir Y) Y Y Y Y (.cons Y (.dir Y) Y Y Y Y .nil)))) (.f [4,5] ?_);refine aH ?_;obtain rfl:=pT h;exact cB (σ':=⟨[(4,.ptr 90 0),(5,.v Wr.bool u.2)],[(90,.box 210 [.v Q0 a1.1,.v Q0 (1:Int),.v Q0 u.1,.v aO aS])]⟩) (aC [(90,103)]) (bT z dS Y (aV Y Y (.VB sO (.VB sO (.VB sO sO))) Wj Ce) (RV.tmp Y) .nil Y)
theorem sL{a0 a1 r}(h:eA a0 a1=some r):
 VS Tryz.prog 314 [.v Q5 a0,.v aO a1] (.v Q0 r) []:=by
 refine VS.of Tryz.func314 Y Tryz.ntmps314 Y ?_;intro S w u;unfold eA at h;refine aI (.k (cJ 101 Y sO Y) (.f [0,3] ?_));refine cV [0,3,7,8] ?_;obtain⟨L,F,G,H⟩:=cN h;refine jP (σs:=fun z:Int=>⟨[(0,.v Q5 a0),(3,.ptr 101 0),(7,.v Q0 (a0.length:Int)),(8,.v Q0 z)],[(101,.box 30 [.v aO a1])]⟩) (fun A:Unit=>⟨[],[]⟩) F (aC []) ?_ ?_
 ·intro A B;have h:=G _ B;refine aL [4] ?_;cases h;exact aH (aY u dS Y (RV.tmp Y) .nil Y)
 intro z K h;refine aL [0,3,7,8,9] ?_;refine aG ?_;refine aU h Y (fun C h=>?_) (fun C h=>?_)
 ·refine aF ?_;refine aG ?_;refine bS ?_;refine aL [0,3,5,7,8] ?_;refine aG ?_;obtain⟨M,I,h⟩:=aA h;refine dV 6 mixed (by exact(.k (aJ Y Y Y uO kP) (.k (aD Y) (.k (aD Y) (.k (gP I Y Y Jm kP) (.k (bO Y uO kP) (.k (Xd Wn Y Y Tryz.eqGuardType30 Y Y) .nil))))))) (by exact(J.kp [0,3,5,7,8,16] [])) ?_;refine aU h Y (fun D h=>?_) (fun D h=>?_)
  ·refine aL [4] ?_;refine aH ?_;refine eR ?_;cases h;refine hX fun E=>?_;obtain rfl:=H _ E;exact aY u dS Y (RV.tmp Y) .nil Y
  refine aF ?_;refine aZ ?_;refine dQ [0,3,7,8] ?_;cases h;exact cF (aC [])
 cases h;exact dC (dJ (aC []))
theorem Oc{a0 a1 r}(h:uG a0 a1=some r):
 VS Tryz.prog 313 [.v Q5 a0,.v aO a1] (.WC [.v Q0 r.1,.v Wr.bool r.2]) []:=by
 refine VS.of Tryz.func313 Y Tryz.ntmps313 Y ?_;intro S w u;unfold uG at h;refine aI (.k (cJ 101 Y sO Y) (.f [0,3] ?_));obtain⟨A,z,h⟩:=aA h;refine aI (.a 2 ?_);refine .k (aM (sL z) Tryz.call314 (.cons (.dir Y) (.cons (.dir Y) .nil))) (.f [6] ?_);refine aI (.a 1 ?_);refine .k (Az Y Y) (.f [4,5] ?_);cases h;exact aH (bT u dS Y (RV.tmp Y) (RV.tmp Y) .nil Y)
theorem Dt{a0 a1 r}(h:lU a0 a1=some r):
 VS Tryz.prog 312 [.v (Wr.H0 Q5) a0,.v gF a1] (.WC [.v Q4 r.1,.v Wr.bool r.2]) []:=by
 refine VS.of Tryz.func312 Y Tryz.ntmps312 Y ?_;intro S w z;unfold lU at h;refine aI (.k (cJ 101 Y (.H0 sO) Y) (.k (cJ 102 Y (.VB sO sO) Y) (.k (aN 103 Nw Y (.cons (Z.int .i64) (.cons (Z.int .i64) (.cons (Z.int .i64) (.cons (Z.arr 8 (Z.int .u8)) .nil)))) Y) (.f [2,3,4] ?_))));obtain⟨u,A,h⟩:=aA h;refine aI (.a 4 ?_);refine .k (aM (Oc A) Tryz.call313 (.cons (.dir Y) (.cons (.dir Y) .nil))) (.f [3,4,6,7] ?_);refine aI (.a 3 ?_);refine .k (bR Dm (.cons (Z.int .i64) (.cons (Z.int .i64) (.cons (Z.int .i64) (.cons (Z.arr 8 (Z.int .u8)) .nil)))) (.cons Y (.dir Y) Y Y Y Y (.cons Y (.dir Y) Y Y Y Y (.cons Y (.dir Y) Y Y Y Y .nil)))) (.f [4,5] ?_);refine aH ?_;obtain rfl:=pT h;exact cB (σ':=⟨[(4,.ptr 90 0),(5,.v Wr.bool u.2)],[(90,.box 210 [.v Q0 a1.1,.v Q0 (2:Int),.v Q0 u.1,.v aO aS])]⟩) (aC [(90,103)]) (bT z dS Y (aV Y Y (.VB sO (.VB sO (.VB sO sO))) Wj Ce) (RV.tmp Y) .nil Y)
theorem Cm{a0 a1 r}(h:sI a0 a1=some r):
 VS Tryz.prog 315 [.v kG a0,.v gF a1] (.WC [.v Q4 r.1,.v Wr.bool r.2]) []:=by
 refine VS.of Tryz.func315 Y Tryz.ntmps315 Y ?_;intro S w u;unfold sI at h;refine aI (.k (cJ 101 Y sO Y) (.k (cJ 102 Y (.VB sO sO) Y) (.k (aN 103 Nw Y (.cons (Z.int .i64) (.cons (Z.int .i64) (.cons (Z.int .i64) (.cons (Z.arr 8 (Z.int .u8)) .nil)))) Y) (.f [3,4] ?_))));refine aI (.a 4 ?_);refine .k (bR Dm (.cons (Z.int .i64) (.cons (Z.int .i64) (.cons (Z.int .i64) (.cons (Z.arr 8 (Z.int .u8)) .nil)))) (.cons Y (.dir Y) Y Y Y Y (.cons Y (.dir Y) Y Y Y Y (.cons Y (.dir Y) Y Y Y Y .nil)))) (.f [4,5] ?_);refine aH ?_;obtain rfl:=pT h;exact cB (σ':=⟨[(4,.ptr 90 0),(5,.v Wr.bool true)],[(90,.box 210 [.v Q0 a1.1,.v Q0 (3:Int),.v Q0 (0:Int),.v aO a1.2])]⟩) (aC [(90,103)]) (bT u dS Y (aV Y Y (.VB sO (.VB sO (.VB sO sO))) Wj Ce) (RV.tmp Y) .nil Y)
theorem Td{w p0 r}(h:jC w p0=some r):
 r5 Tryz.prog "stillwater/plan.tell" AI w [.v gF p0] (.WC [.v Q4 r.1,.v Wr.bool r.2]) []:=by
 unfold jC at h;rcases w with z | z | z | z | z
 ·exact(r5.here (fun _ _=>by kernel_rfl) Tryz.call310 (Gp h))
 ·exact(.there (r5.here (fun _ _=>by kernel_rfl) Tryz.call311 (Gq h)))
 ·exact(.there (.there (r5.here (fun _ _=>by kernel_rfl) Tryz.call312 (Dt h))))
 ·exact(.there (.there (.there (r5.here (fun _ _=>by kernel_rfl) Tryz.call315 (Cm h)))))
 ·cases h
theorem Js{a0 a1 a2 r}(h:rB a0 a1 a2=some r):
 VS Tryz.prog 140 [.v Q1 a0,.v Q5 a1,.v Q5 a2] (.WC [.ref 0,.v Q9 r.2]) [(0,.arr 210 Q4 r.1)]:=by
 refine VS.of Tryz.func140 Y Tryz.ntmps140 Y ?_;intro S w C;unfold rB at h;refine aI (.k (aR 101 210 Q4) (.f [0,1,2] ?_));obtain⟨v1,VV,h⟩:=aA h;refine jM (.a 2 ?_);refine .k (aM (Ak VV) Tryz.call186 (.cons (.dir Y) (.cons (.dir Y) .nil))) (.f [0,1,2,8] ?_);refine aL [0,1,2,8,25] ?_;refine aU h Y (fun N h=>?_) (fun N h=>?_)
 ·refine aI (.a 1 ?_);refine .k (aR 103 210 Q4) (.f [6,7] ?_);cases h;exact aH (wN C dS Y (aC [(0,103)]))
 refine aF ?_;refine aL [0,1,2,9] ?_;refine cV [0,1,2,9,27,28,29] ?_;obtain⟨av,aa,ab,ac⟩:=cN h;refine jP (σs:=fun D:Int×Int=>⟨[(0,.v Q1 a0),(1,.v Q5 a1),(2,.v Q5 a2),(9,.v Q0 D.1),(27,.v Q1 a0),(28,.v Q0 (a0.length:Int)),(29,.v Q0 D.2)],[]⟩) (fun L:Unit=>⟨[(0,.v Q1 a0),(1,.v Q5 a1),(2,.v Q5 a2)],[]⟩) aa (aC []) ?_ ?_
 ·intro L A;have h:=ab _ A;obtain⟨z,ad,h⟩:=aA h;refine aI (.a 1 ?_);refine .k (aM (Pe ad) Tryz.call187 (.cons (.dir Y) .nil)) (.f [0,1,2,12,13] ?_);refine cV [0,1,2,12,13,54] ?_;refine aU h Y (fun O h=>?_) (fun O h=>?_)
  ·refine aI (.a 1 ?_);refine .k (aR 113 210 Q4) (.f [6,7] ?_);cases h;exact aH (wN C dS Y (aC [(0,113)]))
  refine aF ?_;refine aI (.k (aR 114 210 Q4) (.f [0,1,2,12,14] ?_));refine cV [1,2,12,14,56,57,58] ?_;obtain⟨aw,ae,af,ax⟩:=cN h;refine jP (σs:=fun u:Int×(List (Int×Int×Int×aQ))=>⟨[(1,.v Q5 a1),(2,.v Q5 a2),(12,.v (Wr.B2 (Wr.pr Q5 (Wr.U9 aO mD))) z.1),(14,.ref 162),(56,.v Q1 a0),(57,.v Q0 (a0.length:Int)),(58,.v Q0 u.1)],[(162,.arr 210 Q4 u.2)]⟩) (fun F:(List (Int×Int×Int×aQ))=>⟨[(14,.ref 162)],[(162,.arr 210 Q4 F)]⟩) ae (aC [(162,114)]) ?_ ?_
  ·intro F A;have h:=af _ A;refine aL [6,7] ?_;cases h;exact aH (wN C dS Y (aC [(0,162)]))
  intro u M h;refine aL [1,2,12,14,56,57,58,59] ?_;refine aG ?_;refine aU h Y (fun P h=>?_) (fun P h=>?_)
  ·refine aF ?_;refine aG ?_;obtain⟨xc,ah,h⟩:=fE h;refine TK (fun G:(List (Int×Int×Int×aQ))=>⟨[(1,.v Q5 a1),(2,.v Q5 a2),(12,.v (Wr.B2 (Wr.pr Q5 (Wr.U9 aO mD))) z.1),(14,.ref 196),(56,.v Q1 a0),(57,.v Q0 (a0.length:Int)),(58,.v Q0 u.1)],[(196,.arr 210 Q4 G)]⟩) (fun x=>xc x=some M) ?_ ?_
   ·intro G h;rw[ah] at h;refine dQ [1,2,12,14,56,57,58] ?_;cases h;exact cF (aC [(162,196)])
   obtain⟨E,ay,h⟩:=aA h;refine aI (.a 2 ?_);refine .k (aN 197 Ez Y (.cons (Z.int .i64) (.cons (Z.arr 8 (Z.int .u8)) .nil)) Y) (.t (bX Y Y Y Y (.VB sO sO) jS) (.f [1,2,12,14,16,56,57,58] ?_));refine aG ?_;refine aG ?_;obtain⟨az,ai,h⟩:=aA h;refine dV 8 mixed (by exact(.k (aD Y) (.k (aB 0 Y Nv Y S3 Y Y) (.k (aJ Y Y Y G3 S3) (.k (gP ai Y Y Jm kP) (.k (bO Y uO kP) (.k (aB 1 Y Nv Y kP Y Y) (.k (aJ Y Y Y uO kP) (.k (Xd Wn Y Y Tryz.eqGuardType30 Y Y) .nil))))))))) (by exact(J.kp [1,2,12,14,16,56,57,58,69] [])) ?_;refine aU h Y (fun Q h=>?_) (fun Q h=>?_)
   ·refine dC ?_;exact KV h (aC [(196,162)])
   refine aF ?_;refine TO (σ':=⟨[(1,.v Q5 a1),(2,.v Q5 a2),(12,.v (Wr.B2 (Wr.pr Q5 (Wr.U9 aO mD))) z.1),(14,.ref 162),(16,.ptr 197 0),(56,.v Q1 a0),(57,.v Q0 (a0.length:Int)),(58,.v Q0 u.1),(80,.v (Wr.sl AI) ([(.inl ():lO),(.inr (.inl z.1):lO),(.inr (.inr (.inl a2)):lO),(.inr (.inr (.inr (.inl ()))):lO)]:(List lO))),(81,.v Q0 (([(.inl ():lO),(.inr (.inl z.1):lO),(.inr (.inr (.inl a2)):lO),(.inr (.inr (.inr (.inl ()))):lO)]:(List lO)).length:Int)),(82,.v Q0 (0:Int))],[(162,.arr 210 Q4 u.2),(197,.box 214 [.v Q0 E.1,.v aO E.2])]⟩) (J.cons (.none Y) (Mm (bR JX .nil .nil)) Y Y (J.cons (.none Y) (Hk Y Tryz.runUnderlying322 .here) Y Y (J.cons (.none Y) (aD Y) Y Y (J.cons (.none Y) (Be (bR JY (.cons (Z.B2 (Wr.pr Q5 (Wr.U9 aO mD))) .nil) (.cons Y (.dir Y) Y Y Y Y .nil)) (.H0 sO) Y) Y Y (J.cons (.none Y) (Hk Y QJ (.there .here)) Y Y (J.cons (.none Y) (aD Y) Y Y (J.cons (.none Y) (Be (bR KA (.cons (Z.sl aO) .nil) (.cons Y (.dir Y) Y Y Y Y .nil)) (.H0 sO) Y) Y Y (J.cons (.none Y) (Hk Y QK (.there (.there .here))) Y Y (J.cons (.none Y) (Mm (bR KB .nil .nil)) Y Y (J.cons (.none Y) (Hk Y Tryz.runUnderlying327 (.there (.there (.there .here)))) Y Y (J.cons (.none Y) (dI (e:=AI) QL Tryz.sizeOf330 Tryz.zeroValue330 Y Y Y Y (.cons (.dir Y) (.cons (.dir Y) (.cons (.dir Y) (.cons (.dir Y) .nil))))) Y Y (J.cons (.none Y) (tD Y QL) Y Y (J.cons (.none Y) (aD Y) Y Y (J.fin (aC []))))))))))))))) ?_;obtain⟨a3,aj,am,a4⟩:=cN h;refine jP (σs:=fun I:Int=>⟨[(1,.v Q5 a1),(2,.v Q5 a2),(12,.v (Wr.B2 (Wr.pr Q5 (Wr.U9 aO mD))) z.1),(14,.ref 162),(16,.ptr 197 0),(56,.v Q1 a0),(57,.v Q0 (a0.length:Int)),(58,.v Q0 u.1),(80,.v (Wr.sl AI) ([(.inl ():lO),(.inr (.inl z.1):lO),(.inr (.inr (.inl a2)):lO),(.inr (.inr (.inr (.inl ()))):lO)]:(List lO))),(81,.v Q0 (([(.inl ():lO),(.inr (.inl z.1):lO),(.inr (.inr (.inl a2)):lO),(.inr (.inr (.inr (.inl ()))):lO)]:(List lO)).length:Int)),(82,.v Q0 I)],[(162,.arr 210 Q4 u.2),(197,.box 214 [.v Q0 E.1,.v aO E.2])]⟩) (fun H:(List (Int×Int×Int×aQ))=>⟨[(1,.v Q5 a1),(2,.v Q5 a2),(12,.v (Wr.B2 (Wr.pr Q5 (Wr.U9 aO mD))) z.1),(14,.ref 204),(56,.v Q1 a0),(57,.v Q0 (a0.length:Int)),(58,.v Q0 u.1)],[(204,.arr 210 Q4 H)]⟩) aj (aC []) ?_ ?_
   ·intro H A;have h:=am _ A;exact KU h (aC [(196,204)])
   intro I aq h;refine aL [1,2,12,14,16,56,57,58,80,81,82,83] ?_;refine aG ?_;refine aU h Y (fun R h=>?_) (fun R h=>?_)
   ·refine aF ?_;refine aG ?_;refine bS ?_;obtain⟨vl,a5,h⟩:=aA h;refine aL [1,2,12,14,16,18,56,57,58,80,81,82] ?_;obtain⟨mg,an,h⟩:=aA h;refine aI (.a 1 ?_);refine .k (aT Y Y (.VB sO sO) Yx jS) (.k (CK Y (Td an) (.cons (.dir Y) .nil)) ?_);refine .a 3 ?_;refine .k (aN 205 Nw Y (.cons (Z.int .i64) (.cons (Z.int .i64) (.cons (Z.int .i64) (.cons (Z.arr 8 (Z.int .u8)) .nil)))) Y) (.t (bX Y Y Y Y (.VB sO (.VB sO (.VB sO sO))) Ce) (.f [1,2,12,14,16,19,20,56,57,58,80,81,82] ?_));refine aL [1,2,12,14,16,19,56,57,58,80,81,82,92] ?_;refine aU h Y (fun T h=>?_) (fun T h=>?_)
    ·obtain⟨wj,ap,h⟩:=aA h;refine aI (.a 1 ?_);refine .k (aT Y Y (.VB sO (.VB sO (.VB sO sO))) Wj Ce) (.k (dI (e:=Q4) EJ Ce Nw Y Y Y Y (.cons (.dir Y) .nil)) (.t (bU 206 ap Y Y (.sl Y) EJ QE Ce Y Y Y Y Y) (.f [1,2,12,14,56,57,58] ?_)));refine dC ?_;refine KQ Y ?_;cases h;exact dJ (aC [(204,206)])
    refine aF ?_;refine aZ ?_;refine dQ [1,2,12,14,16,56,57,58,80,81,82] ?_;cases h;exact cF (aC [])
   cases h;exact dC (dJ (aC [(204,162)]))
  cases h;exact dC (dJ (aC []))
 intro D au h;refine aL [0,1,2,9,27,28,29,30] ?_;refine aG ?_;refine aU h Y (fun U h=>?_) (fun U h=>?_)
 ·refine aF ?_;refine aG ?_;refine bS ?_;obtain⟨K,xe,h⟩:=aA h;refine aI (.a 2 ?_);refine .k (aN 110 Ez Y (.cons (Z.int .i64) (.cons (Z.arr 8 (Z.int .u8)) .nil)) Y) (.t (bX Y Y Y Y (.VB sO sO) jS) (.f [0,1,2,9,11,27,28,29] ?_));refine aG ?_;refine aG ?_;obtain⟨uq,B,h⟩:=aA h;refine eP (σ':=⟨[(0,.v Q1 a0),(1,.v Q5 a1),(2,.v Q5 a2),(11,.ptr 110 0),(27,.v Q1 a0),(28,.v Q0 (a0.length:Int)),(29,.v Q0 D.2),(43,.v Wr.bool uq)],[(110,.box 214 [.v Q0 K.1,.v aO K.2])]⟩) ?_ ?_
  ·refine cd B (fun V B=>?_) (fun V B=>?_)
   ·cases B;exact jy
   cases B;exact jy
  refine aU h Y (fun X h=>?_) (fun X h=>?_)
  ·refine aI (.a 1 ?_);refine .k (aR 111 210 Q4) (.f [6,7] ?_);refine aH ?_;refine eR ?_;cases h;refine hX fun ho=>?_;obtain rfl:=ac _ ho;exact wN C dS Y (aC [(0,111)])
  refine aF ?_;refine dQ [0,1,2,9,27,28,29] ?_;refine aZ ?_;refine dQ [0,1,2,9,27,28,29] ?_;cases h;exact cF (aC [])
 cases h;exact dC (dJ (aC []))
theorem Jt{a0 a1 a2 r}(h:rC a0 a1 a2=some r):
 VS Tryz.prog 83 [.v pC a0,.v Q5 a1,.v Q0 a2] (.WC [.v Q8 r.1,.v Wr.bool r.2]) []:=by
 refine VS.of Tryz.func83 Y Tryz.ntmps83 Y ?_;intro S w A;unfold rC at h;refine aI (.k (cJ 101 Y (.VB sO sO) Y) (.k (aN 102 Cg Y (.cons (Z.int .i64) (.cons (Z.sl Q0) (.cons (Z.sl aO) .nil))) Y) (.f [1,2,3,6] ?_)));obtain⟨B,H,h⟩:=aA h;refine aI (.a 3 ?_);refine .k (fI 103000 (Js H) Tryz.call140 (.cons (.dir Y) (.cons (.dir Y) (.cons (.mo _) .nil))) Y) (.f [2,3,6,8,9] ?_);refine cV [2,3,6,8,21] ?_;refine aU h Y (fun E h=>?_) (fun E h=>?_)
 ·refine aI (.k (fH (new:=[(105,.arr 3 Q0 ([]:kS)),(104,.arr 30 aO ([]:jO))]) lY (.cons (Z.int .i64) (.ref 105 Y (.ref 104 Y .nil))) (.cons (.cons .nil)) Y .nil) (.f [6,7] ?_));refine aH ?_;obtain rfl:=pT h;exact cB (σ':=⟨[(6,.ptr 90 0),(7,.v Wr.bool false)],[(90,.box 144 [.v Q0 (0:Int),.v mD ([]:kS),.v Q5 ([]:jO)])]⟩) (aC [(90,102)]) (bT A dS Y (aV Y Y (.VB sO (.VB sO sO)) uU lL) (RV.tmp Y) .nil Y)
 refine aF ?_;refine aI (.a 3 ?_);refine .k (rL (e:=Q0) 106 wX S3 Z3 Y Y Y Y (.cons (.dir Y) (.cons (.dir Y) .nil))) (.k (fH (new:=[(107,.arr 30 aO ([]:jO))]) lY (.cons (Z.int .i64) (.cons (Z.sl Q0) (.ref 107 Y .nil))) (.cons .nil) Y (.cons Y (.dir Y) Y Y Y Y (.cons Y (.dir Y) Y Y Y Y .nil))) (.k (zT (new:=[(110,.arr 3 Q0 ([]:kS)),(109,.arr 30 aO ([]:jO))]) 108 Cg Y (.cons (Z.int .i64) (.ref 110 Y (.ref 109 Y .nil))) (.cons (.cons .nil)) Y Y) (.f [6,8,10] ?_)));refine cV [6,10,28,29,30] ?_;obtain⟨O,I,K,P⟩:=cN h;refine jP (σs:=fun z:Int×kS×jO=>⟨[(6,.ptr 102 0),(10,.ptr 108 0),(28,.ref 103000),(29,.v Q0 (B.1.length:Int)),(30,.v Q0 z.1)],[(102,.box 144 [.v Q0 (0:Int),.v mD ([]:kS),.v Q5 ([]:jO)]),(108,.box 144 [.v Q0 (4:Int),.ref 123,.ref 124]),(103000,.arr 210 Q4 B.1),(123,.arr 3 Q0 z.2.1),(124,.arr 30 aO z.2.2)]⟩) (fun u:kS×jO=>⟨[(6,.ptr 102 0),(10,.ptr 108 0)],[(102,.box 144 [.v Q0 (0:Int),.v mD ([]:kS),.v Q5 ([]:jO)]),(108,.box 144 [.v Q0 (4:Int),.ref 123,.ref 124]),(123,.arr 3 Q0 u.1),(124,.arr 30 aO u.2)]⟩) I (aC [(124,107),(123,106)]) ?_ ?_
 ·intro u D;have h:=K _ D;refine aG ?_;refine dV 7 mixed (by exact(.k (hC Y Y Y uU lL) (.k (aB 1 Y uV Y yV Y Y) (.k (aJ Y Y Y Sx yV) (.k (Rf Y Y wX) (.k (jL Y Y Y) (XF.A1 (.none Y) Y Y Y Y Y Y lL (.k (bP Y) .nil)))))))) (by exact(J.kp [6,7] [])) ?_;refine aH ?_;obtain rfl:=pT h;exact cB (σ':=⟨[(6,.ptr 90 0),(7,.v Wr.bool (cm .leq (u.1.length:Int) (9:Int)))],[(90,.box 144 [.v Q0 (4:Int),.v mD u.1,.v Q5 u.2])]⟩) (aC [(90,102)]) (bT A dS Y (aV Y Y (.VB sO (.VB sO sO)) uU lL) (RV.tmp Y) .nil Y)
 intro z N h;refine aL [6,10,28,29,30,31] ?_;refine aG ?_;refine aU h Y (fun F h=>?_) (fun F h=>?_)
 ·refine aF ?_;refine aG ?_;refine bS ?_;obtain⟨Q,C,h⟩:=aA h;refine aI (.k (iW C Y Y Y EJ Ce) (.k (jR (dG C).2.2 Y Y .here Wj Ce) (.k (aN 128 Nw Y (.cons (Z.int .i64) (.cons (Z.int .i64) (.cons (Z.int .i64) (.cons (Z.arr 8 (Z.int .u8)) .nil)))) Y) (.t (bX Y Y Y Y (.VB sO (.VB sO (.VB sO sO))) Ce) (.f [6,10,12,28,29,30] ?_)))));obtain⟨R,L,h⟩:=aA h;refine aI (.a 4 ?_);refine .k (fA (.inl Y) (by decide) Y Y) ?_;refine .a 2 ?_;refine .k (fA (.inl Y) (by decide) Y Y) ?_;refine .a 4 ?_;refine .k (dI (e:=Q0) wX S3 Z3 Y Y Y Y (.cons (.dir Y) .nil)) (.t (bU 129 L Y Y (.sl Y) wX I3 S3 Y Y Y Y Y) (.f [6,10,12,28,29,30] ?_));refine aL [6,10,12,28,29,30,51] ?_;refine aU h Y (fun G h=>?_) (fun G h=>?_)
  ·obtain⟨T,M,h⟩:=aA h;refine eM (.a 4 ?_);refine .k (dI (e:=aO) Jm kP Br Y Y Y Y (.cons (.dir Y) .nil)) (.t (bU 130 M Y Y (.sl Y) Jm Bq kP Y Y Y Y Y) (.f [6,10,28,29,30] ?_));refine aZ ?_;refine dQ [6,10,28,29,30] ?_;cases h;exact cF (aC [(124,130),(123,129)])
  refine aF ?_;refine aZ ?_;refine dQ [6,10,28,29,30] ?_;cases h;exact cF (aC [(123,129)])
 cases h;exact dC (dJ (aC []))
theorem xX(A:Nat->Nat){b0 b1 b2 b3 b4 b5 b6 b7 b8 b9 bA bB bC bD bE bF bG bH bI bJ bK bL r}(h:dO b0 b1 b2 b3 b4 b5 b6 b7 b8 b9 bA bB bC bD bE bF bG bH bI bJ bK bL=some r):
 VG Tryz.prog 51 [.ptr 9000 1] (kO 9000 (some (A 9000)) 9100 (some (A 9100)) 9200 (some (A 9200)) 9050 9051 9052 9053 b0 b1 b2 b3 b4 b5 b6 b7 b8 b9 bA bB bC bD bE bF bG bH bI bJ bK bL) (.v Q8 r) (kO 9000 (some (A 9000)) 9100 (some (A 9100)) 9200 (some (A 9200)) 400 401 402 403 b0 b1 b2 b3 b4 b5 b6 b7 b8 b9 bA bB bC bD bE bF bG bH bI bJ bK bL):=by
 refine VG.of Tryz.func51 Y Tryz.ntmps51 Y ?_;intro S w R C;unfold dO at h;refine aI (.k (aN 101 Cg Y (.cons (Z.int .i64) (.cons (Z.sl Q0) (.cons (Z.sl aO) .nil))) Y) (.f [0,2] ?_));refine aG ?_;refine aG ?_;obtain⟨D,I,h⟩:=aA h;refine dV 22 mixed (by exact(.k (aD Y) (.k (aK Y) (.k (aB 6 Y vS Y yW Y Y) (.k (aJ Y Y Y Ew yW) (.k (aD Y) (.k (aK Y) (.k (aB 1 Y vS Y Kv Y Y) (.k (aB 2 Y Ey Y S3 Y Y) (.k (aJ Y Y Y G3 S3) (.k (aD Y) (.k (aK Y) (.k (aB 15 Y vS Y S3 Y Y) (.k (aJ Y Y Y G3 S3) (.k (aM (Kx I) Tryz.call82 (.cons (.dir Y) (.cons (.dir Y) (.cons (.dir Y) .nil)))) (.k (aD Y) (.k (bW Y Y) (.k (bW Y Y) (.k (bW Y Y) (.k (aN 103 Pa Y (.cons (Z.int .i64) (.cons (Z.sl gF) .nil)) Y) (XF.storeAll (.none Y) Y Y Y Y (.VB sO sO) vC (.k (bP Y) (.k (bP Y) .nil))))))))))))))))))))))) (by exact(J.kp [0,2,3,4,5] [])) ?_;refine aG ?_;obtain⟨K,u,h⟩:=aA h;refine eP (σ':=⟨[(0,.ptr 9000 1),(2,.ptr 101 0),(3,.ptr 103 0),(32,.v Wr.bool K)],((101,.box 144 [.v Q0 (0:Int),.v mD ([]:kS),.v Q5 ([]:jO)])::(103,.box 197 [.v Q0 D.1.1,.v Q1 D.1.2])::kO 9000 (some (A 9000)) 9100 (some (A 9100)) 9200 (some (A 9200)) 9050 9051 9052 9053 b0 b1 b2 b3 b4 b5 b6 b7 b8 b9 bA bB bC bD bE bF bG bH bI bJ bK bL)⟩) ?_ ?_
 ·refine cd u (fun F u=>?_) (fun F u=>?_)
  ·cases u;refine ja 1 ?_;exact(J.k (iN Oz Y) jy)
  cases u;refine ja 1 ?_;exact(J.k (iN Oz Y) jy)
 obtain⟨L,M,h⟩:=fE h;refine tF (fun E:Unit=>⟨[(0,.ptr 9000 1),(2,.ptr 101 0)],((101,.box 144 [.v Q0 (0:Int),.v mD ([]:kS),.v Q5 ([]:jO)])::kO 9000 (some (A 9000)) 9100 (some (A 9100)) 9200 (some (A 9200)) 9050 9051 9052 9053 b0 b1 b2 b3 b4 b5 b6 b7 b8 b9 bA bB bC bD bE bF bG bH bI bJ bK bL)⟩) (fun x=>L x=some r) Y ?_ ?_ ?_
 ·intro E h;rw[M] at h;refine aG ?_;refine dV 18 mixed (by exact(.k (aD Y) (.k (aK Y) (.k (aB 1 Y vS Y Kv Y Y) (.k (aB 3 Y Ey Y S3 Y Y) (.k (aJ Y Y Y G3 S3) (.k (dI (e:=Q0) wX S3 Z3 Y Y Y Y (.cons (.dir Y) .nil)) (.k (aD Y) (.k (aK Y) (.k (aB 10 Y vS Y Yy Y Y) (.k (aJ Y Y Y ON Yy) (.k (aD Y) (.k (aK Y) (.k (aB 1 Y vS Y Kv Y Y) (.k (aB 3 Y Ey Y S3 Y Y) (.k (aJ Y Y Y G3 S3) (.k (Uf Y Y Y QN U3 (n5.int U3) Y SV (fun S w=>⟨_,(Z.sl aO) S w,Y⟩)) (.k (bR lY (.cons (Z.int .i64) (.cons (Z.sl Q0) (.cons (Z.sl aO) .nil))) (.cons Y (.dir Y) Y Y Y Y (.cons Y (.dir Y) Y Y Y Y (.cons Y (.dir Y) Y Y Y Y .nil)))) (XF.A1 (.none Y) Y Y Y Y Y Y lL .nil))))))))))))))))))) (by exact(J.kp [0,2] [])) ?_;refine aH ?_;obtain rfl:=pT h;exact nJ [(0,.ptr 9000 1),(2,.ptr 90 0)] [(90,.box 144 [.v Q0 (5:Int),.v mD ([b2]:kS),.v Q5 ((fK b6 b2).getD ([]:jO))])] (aC [(90,101),(403,9053),(402,9052),(401,9051),(400,9050)]) (eK C Y (aV Y Y (.VB sO (.VB sO sO)) uU lL) (.cons Y (.cons Y (.cons Y (.cons Y (.cons Y (.cons Y (.cons Y .nil))))))))
 ·intro z;replace h:=iK z h;refine aG ?_;refine dV 14 mixed (by exact(.k (aD Y) (.k (aK Y) (.k (aB 10 Y vS Y Yy Y Y) (.k (aJ Y Y Y ON Yy) (.k (aD Y) (.k (aK Y) (.k (aB 15 Y vS Y S3 Y Y) (.k (aJ Y Y Y G3 S3) (.k (Mq Y Y Y QN U3 (n5.int U3) Y SV (fun S w=>⟨_,(Z.sl aO) S w,Y⟩)) (.k (aD Y) (.k (bW Y Y) (.k (bW Y Y) (.k (bP Y) (.k (bP Y) .nil))))))))))))))) (by exact(J.kp [0,2,3,6,7] [])) ?_;refine aL [0,2,3,6,45] ?_;refine aU h Y (fun G h=>?_) (fun G h=>?_)
  ·refine aG ?_;obtain⟨B,N,h⟩:=aA h;refine dV 13 mixed (by exact(.k (aT Y Y (.VB sO sO) Nt vC) (.k (aD Y) (.k (aD Y) (.k (aK Y) (.k (aB 15 Y vS Y S3 Y Y) (.k (aJ Y Y Y G3 S3) (.k (aM (Jt N) Tryz.call83 (.cons (.dir Y) (.cons (.dir Y) (.cons (.dir Y) .nil)))) (.k (aD Y) (.k (bW Y Y) (.k (bW Y Y) (.k (aN 107 Cg Y (.cons (Z.int .i64) (.cons (Z.sl Q0) (.cons (Z.sl aO) .nil))) Y) (XF.storeAll (.none Y) Y Y Y Y (.VB sO (.VB sO sO)) lL (.k (bP Y) .nil)))))))))))))) (by exact(J.kp [0,2,8,9] [])) ?_;refine aL [0,2,8,56] ?_;refine aU h Y (fun H h=>?_) (fun H h=>?_)
   ·refine aI (.k (aT Y Y (.VB sO (.VB sO sO)) uU lL) (.t (bX Y Y Y Y (.VB sO (.VB sO sO)) lL) (.f [0,2] ?_)));refine aH ?_;refine Gy ?_;obtain rfl:=pT h;exact nJ [(0,.ptr 9000 1),(2,.ptr 90 0)] [(90,.box 144 [.v Q0 B.1.1,.v mD B.1.2.1,.v Q5 B.1.2.2])] (aC [(90,101),(403,9053),(402,9052),(401,9051),(400,9050)]) (eK C Y (aV Y Y (.VB sO (.VB sO sO)) uU lL) (.cons Y (.cons Y (.cons Y (.cons Y (.cons Y (.cons Y (.cons Y .nil))))))))
   refine aF ?_;exact cC h (aC [])
  refine aF ?_;exact cC h (aC [])
 ·intro z;replace h:=iL z h;refine aF ?_;exact cC h (aC [])
theorem Ik{a0 r}(h:pR a0=some r):
 VS Tryz.prog 184 [.v Q0 a0] (.v Wr.bool r) []:=by
 refine VS.of Tryz.func184 Y Tryz.ntmps184 Y ?_;intro S w z;unfold pR at h;refine aL [0] ?_;refine aG ?_;obtain⟨B,u,h⟩:=aA h;refine eP (σ':=⟨[(2,.v Wr.bool B)],[]⟩) ?_ ?_
 ·refine cd u (fun A u=>?_) (fun A u=>?_)
  ·cases u;exact jy
  cases u;exact jy
 cases h;exact aH (aY z dS Y (RV.tmp Y) .nil Y)
theorem pA{a0 r}(h:dZ a0=some r):
 VS Tryz.prog 228 [.v mD a0,.ZJ 184 []] (.v Q0 r) []:=by
 refine VS.of Tryz.func228 Y Tryz.ntmps228 Y ?_;intro S w u;unfold dZ at h;refine aL [0,1] ?_;refine cV [0,1,7,8] ?_;obtain⟨L,F,G,H⟩:=cN h;refine jP (σs:=fun z:Int=>⟨[(0,.v mD a0),(1,.ZJ 184 []),(7,.v Q0 (a0.length:Int)),(8,.v Q0 z)],[]⟩) (fun A:Unit=>⟨[],[]⟩) F (aC []) ?_ ?_
 ·intro A B;have h:=G _ B;refine aL [4] ?_;cases h;exact aH (aY u dS Y (RV.tmp Y) .nil Y)
 intro z K h;refine aL [0,1,7,8,9] ?_;refine aG ?_;refine aU h Y (fun C h=>?_) (fun C h=>?_)
 ·refine aF ?_;refine aG ?_;refine bS ?_;refine aL [0,1,5,7,8] ?_;obtain⟨M,N,h⟩:=aA h;obtain⟨O,I,h⟩:=aA h;refine aI (.a 5 ?_);refine .k (tN Y (Ik I) Tryz.call184 (.cons (.dir Y) .nil)) (.f [0,1,5,7,8,16] ?_);refine aU h Y (fun D h=>?_) (fun D h=>?_)
  ·refine aL [4] ?_;refine aH ?_;refine eR ?_;cases h;refine hX fun E=>?_;obtain rfl:=H _ E;exact aY u dS Y (RV.tmp Y) .nil Y
  refine aF ?_;refine aZ ?_;refine dQ [0,1,7,8] ?_;cases h;exact cF (aC [])
 cases h;exact dC (dJ (aC []))
theorem nH{a0 r}(h:cY a0=some r):
 VS Tryz.prog 182 [.v mD a0,.ZJ 184 []] (.v Wr.bool r) []:=by
 refine VS.of Tryz.func182 Y Tryz.ntmps182 Y ?_;intro S w u;unfold cY at h;refine aL [0,1] ?_;obtain⟨A,z,h⟩:=aA h;refine aI (.a 2 ?_);refine .k (aM (pA z) Tryz.call228 (.cons (.dir Y) (.cons (.dir Y) .nil))) (.f [4] ?_);cases h;exact aH (aY u dS Y (RV.tmp Y) .nil Y)
theorem Cc{a0 r}(h:qD a0=some r):
 VS Tryz.prog 136 [.v mD a0] (.v Wr.bool r) []:=by
 refine VS.of Tryz.func136 Y Tryz.ntmps136 Y ?_;intro S w u;unfold qD at h;refine aL [0] ?_;obtain⟨A,z,h⟩:=aA h;refine aI (.a 1 ?_);refine .k (aM (nH z) Tryz.call182 (.cons (.dir Y) (.cons .fn .nil))) (.f [2] ?_);cases h;exact aH (aY u dS Y (RV.tmp Y) .nil Y)
theorem Fq{a0 r}(h:tU a0=some r):
 VS Tryz.prog 79 [.v Q8 a0] (.v Q9 r) []:=by
 refine VS.of Tryz.func79 Y Tryz.ntmps79 Y ?_;intro S w u;unfold tU at h;refine aI (.k (cJ 101 Y (.VB sO (.VB sO sO)) Y) (.f [1] ?_));obtain⟨C,B,h⟩:=aA h;refine jM (.k (aT Y Y (.VB sO (.VB sO sO)) uU lL) (.k (aM (Cb B) Tryz.call134 (.cons (.dir Y) .nil)) (.f [1,3] ?_)));refine aL [1,3,7] ?_;refine aU h Y (fun z h=>?_) (fun z h=>?_)
 ·refine aL [2] ?_;cases h;exact aH (aY u dS Y (RV.tmp Y) .nil Y)
 refine aF ?_;refine cV [12] ?_;refine aU h Y (fun A h=>?_) (fun A h=>?_)
 ·refine aL [2] ?_;cases h;exact aH (aY u dS Y (RV.tmp Y) .nil Y)
 refine aF ?_;refine aL [2] ?_;cases h;exact aH (aY u dS Y (RV.tmp Y) .nil Y)
theorem xY{a0 r}(h:pG a0=some r):
 VS Tryz.prog 78 [.v Ns a0] (.v Q9 r) []:=by
 refine VS.of Tryz.func78 Y Tryz.ntmps78 Y ?_;intro S w u;unfold pG at h;refine aI (.k (cJ 101 Y (.VB sO (.VB sO sO)) Y) (.f [1] ?_));obtain⟨O,H,h⟩:=aA h;refine jM (.a 4 ?_);refine .k (dI (e:=Q0) wX S3 Z3 Y Y Y Y (.cons (.dir Y) (.cons (.dir Y) .nil))) (.k (aM (Cc H) Tryz.call136 (.cons (.dir Y) .nil)) (.f [1,12] ?_));refine aU h Y (fun C h=>?_) (fun C h=>?_)
 ·refine aL [2] ?_;cases h;exact aH (aY u dS Y (RV.tmp Y) .nil Y)
 refine aF ?_;refine cV [1,17] ?_;refine aU h Y (fun D h=>?_) (fun D h=>?_)
 ·refine aL [2] ?_;cases h;exact aH (aY u dS Y (RV.tmp Y) .nil Y)
 refine aF ?_;refine cV [20,21,22] ?_;obtain⟨P,I,K,L⟩:=cN h;refine jP (σs:=fun z:Int=>⟨[(20,.v (Wr.sl Q8) a0.2.2),(21,.v Q0 (a0.2.2.length:Int)),(22,.v Q0 z)],[]⟩) (fun A:Unit=>⟨[],[]⟩) I (aC []) ?_ ?_
 ·intro A B;have h:=K _ B;refine aL [2] ?_;cases h;exact aH (aY u dS Y (RV.tmp Y) .nil Y)
 intro z N h;refine aL [20,21,22,23] ?_;refine aG ?_;refine aU h Y (fun E h=>?_) (fun E h=>?_)
 ·refine aF ?_;refine aG ?_;refine bS ?_;obtain⟨Q,R,h⟩:=aA h;refine aI (.a 2 ?_);refine .k (aN 109 Cg Y (.cons (Z.int .i64) (.cons (Z.sl Q0) (.cons (Z.sl aO) .nil))) Y) (.t (bX Y Y Y Y (.VB sO (.VB sO sO)) lL) (.f [4,20,21,22] ?_));obtain⟨T,M,h⟩:=aA h;refine aI (.k (aT Y Y (.VB sO (.VB sO sO)) uU lL) (.k (aM (Fq M) Tryz.call79 (.cons (.dir Y) .nil)) (.f [5,20,21,22] ?_)));refine aL [5,20,21,22,29] ?_;refine aU h Y (fun F h=>?_) (fun F h=>?_)
  ·refine aL [2] ?_;refine aH ?_;refine eR ?_;cases h;refine hX fun G=>?_;obtain rfl:=L _ G;exact aY u dS Y (RV.tmp Y) .nil Y
  refine aF ?_;refine aZ ?_;refine dQ [20,21,22] ?_;cases h;exact cF (aC [])
 cases h;exact dC (dJ (aC []))
theorem wK{a0 r}(h:rD a0=some r):
 VS Tryz.prog 137 [.v (Wr.F8 Q0) a0] (.ref 0) [(0,.arr 3 Q0 r)]:=by
 refine VS.of Tryz.func137 Y Tryz.ntmps137 Y ?_;intro S w u;unfold rD at h;refine aI (.k (aR 101 3 Q0) (.f [0] ?_));refine jM (.a 1 ?_);refine .k (xH Y wX) (.f [0,4] ?_);refine aU h Y (fun z h=>?_) (fun z h=>?_)
 ·refine aI (.k (aR 102 3 Q0) (.f [2] ?_));cases h;exact aH (vW u dS Y (aC [(0,102)]))
 refine aF ?_;obtain⟨B,A,h⟩:=aA h;refine aI (.k (rL (e:=Q0) 103 wX S3 Z3 Y Y Y Y .nil) ?_);refine .a 1 ?_;refine .t (bU 104 A Y Y (.F8 Y) wX I3 S3 Y Y Y Y Y) (.f [2] ?_);cases h;exact aH (vW u dS Y (aC [(0,104)]))
theorem zJ{a0:kS}{r:kS}(h:lD a0=some r):
  VS Tryz.prog 137 [.v mD a0] (.ref 0) [(0,.arr 3 Q0 r)]:=
 rO fun b u=>wK (by cases b with | true=>rw[u rfl] at h ⊢;exact h | false=>exact Ee h)
theorem Du{a0 r}(h:mT a0=some r):
 VS Tryz.prog 81 [.v Q8 a0] (.v Q8 r) []:=by
 refine VS.of Tryz.func81 Y Tryz.ntmps81 Y ?_;intro S w u;unfold mT at h;refine aI (.k (cJ 101 Y (.VB sO (.VB sO sO)) Y) (.k (aN 102 Cg Y (.cons (Z.int .i64) (.cons (Z.sl Q0) (.cons (Z.sl aO) .nil))) Y) (.f [1,2] ?_)));refine aG ?_;obtain⟨z,A,h⟩:=aA h;obtain⟨B,C,h⟩:=aA h;refine dV 10 mixed (by exact(.k (aB 1 Y uV Y yV Y Y) (.k (aJ Y Y Y Sx yV) (.k (fI 103000 (zJ A) Tryz.call137 (.cons (.dir Y) .nil) Y) (.k (aB 2 Y uV Y yD Y Y) (.k (aJ Y Y Y Ti yD) (.k (fI 104000 (cP C) Yw (.cons (.dir Y) .nil) Y) (.k (aB 1 Y uV Y yV Y Y) (XF.store (.none Y) Y Y Y Y Y Y Y yV (.k (aB 2 Y uV Y yD Y Y) (XF.store (.none Y) Y Y Y Y Y Y Y yD .nil))))))))))) (by exact(J.kp [1,2] [])) ?_;refine aI (.k (hC Y Y Y uU lL) (.f [2] ?_));refine aH ?_;obtain rfl:=pT h;exact cB (σ':=⟨[(2,.ptr 90 0)],[(90,.box 144 [.v Q0 a0.1,.v mD z,.v Q5 B])]⟩) (aC [(90,102)]) (aY u dS Y (aV Y Y (.VB sO (.VB sO sO)) uU lL) .nil Y)
theorem Dv{a0 r}(h:rW a0=some r):
 VS Tryz.prog 80 [.v (Wr.sl Q8) a0] (.ref 0) [(0,.arr 144 Q8 r)]:=by
 refine VS.of Tryz.func80 Y Tryz.ntmps80 Y ?_;intro S w A;unfold rW at h;refine aI (.k (aR 101 144 Q8) (.f [0] ?_));refine aI (.k (aR 102 144 Q8) (.f [0,3] ?_));refine cV [3,6,7,8] ?_;obtain⟨I,D,E,K⟩:=cN h;refine jP (σs:=fun u:Int×Ok=>⟨[(3,.ref 112),(6,.v (Wr.sl Q8) a0),(7,.v Q0 (a0.length:Int)),(8,.v Q0 u.1)],[(112,.arr 144 Q8 u.2)]⟩) (fun z:Ok=>⟨[(3,.ref 112)],[(112,.arr 144 Q8 z)]⟩) D (aC [(112,102)]) ?_ ?_
 ·intro z B;have h:=E _ B;refine aL [2] ?_;cases h;exact aH (vW A dS Y (aC [(0,112)]))
 intro u H h;refine aL [3,6,7,8,9] ?_;refine aG ?_;refine aU h Y (fun C h=>?_) (fun C h=>?_)
 ·refine aF ?_;refine aG ?_;refine bS ?_;obtain⟨L,M,h⟩:=aA h;refine aI (.a 2 ?_);refine .k (aN 116 Cg Y (.cons (Z.int .i64) (.cons (Z.sl Q0) (.cons (Z.sl aO) .nil))) Y) (.t (bX Y Y Y Y (.VB sO (.VB sO sO)) lL) (.f [3,5,6,7,8] ?_));obtain⟨N,F,h⟩:=aA h;obtain⟨O,G,h⟩:=aA h;refine eM (.a 1 ?_);refine .k (aT Y Y (.VB sO (.VB sO sO)) uU lL) (.k (aM (Du F) Tryz.call81 (.cons (.dir Y) .nil)) (.k (dI (e:=Q8) KO lL Cg Y Y Y Y (.cons (.dir Y) .nil)) (.t (bU 118 G Y Y (.sl Y) KO QC lL Y Y Y Y Y) (.f [3,6,7,8] ?_))));refine aZ ?_;refine dQ [3,6,7,8] ?_;cases h;exact cF (aC [(112,118)])
 cases h;exact dC (dJ (aC []))
theorem Od{a0 a1 r}(h:uH a0 a1=some r):
 VS Tryz.prog 50 [.v Ns a0,.v Q8 a1] (.WC [.v Ns r.1,.v Q9 r.2]) []:=by
 refine VS.of Tryz.func50 Y Tryz.ntmps50 Y ?_;intro S w z;unfold uH at h;refine aI (.k (cJ 101 Y (.VB sO (.VB sO sO)) Y) (.k (cJ 102 Y (.VB sO (.VB sO sO)) Y) (.k (aN 103 TJ Y (.cons (Z.int .i64) (.cons (Z.int .i64) (.cons (Z.sl Q8) .nil))) Y) (.f [2,3,4] ?_))));obtain⟨E,F,h⟩:=aA h;refine jM (.k (aT Y Y (.VB sO (.VB sO sO)) Wx Jl) (.k (aM (xY F) Tryz.call78 (.cons (.dir Y) .nil)) (.f [2,3,4,6] ?_)));refine aL [2,3,4,6,11] ?_;refine aU h Y (fun A h=>?_) (fun A h=>?_)
 ·refine aI (.k (bR Ev (.cons (Z.int .i64) (.cons (Z.int .i64) (.cons (Z.sl Q8) .nil))) .nil) (.f [4,5] ?_));refine aH ?_;obtain rfl:=pT h;exact cB (σ':=⟨[(4,.ptr 90 0),(5,.v Q9 E)],[(90,.box 84 [.v Q0 (0:Int),.v Q0 (0:Int),.v (Wr.sl Q8) ([]:Ok)])]⟩) (aC [(90,103)]) (bT z dS Y (aV Y Y (.VB sO (.VB sO sO)) Wx Jl) (RV.tmp Y) .nil Y)
 refine aF ?_;obtain⟨G,H,h⟩:=aA h;refine jM (.k (aT Y Y (.VB sO (.VB sO sO)) uU lL) (.k (aM (Fq H) Tryz.call79 (.cons (.dir Y) .nil)) (.f [2,3,4,7] ?_)));refine aL [2,3,4,7,17] ?_;refine aU h Y (fun B h=>?_) (fun B h=>?_)
 ·refine aI (.k (bR Ev (.cons (Z.int .i64) (.cons (Z.int .i64) (.cons (Z.sl Q8) .nil))) .nil) (.f [4,5] ?_));refine aH ?_;obtain rfl:=pT h;exact cB (σ':=⟨[(4,.ptr 90 0),(5,.v Q9 G)],[(90,.box 84 [.v Q0 (0:Int),.v Q0 (0:Int),.v (Wr.sl Q8) ([]:Ok)])]⟩) (aC [(90,103)]) (bT z dS Y (aV Y Y (.VB sO (.VB sO sO)) Wx Jl) (RV.tmp Y) .nil Y)
 refine aF ?_;refine aG ?_;refine aG ?_;obtain⟨I,u,h⟩:=aA h;refine eP (σ':=⟨[(2,.ptr 101 0),(3,.ptr 102 0),(4,.ptr 103 0),(32,.v Wr.bool I)],[(101,.box 84 [.v Q0 a0.1,.v Q0 a0.2.1,.v (Wr.sl Q8) a0.2.2]),(102,.box 144 [.v Q0 a1.1,.v mD a1.2.1,.v Q5 a1.2.2]),(103,.box 84 [.v Q0 (0:Int),.v Q0 (0:Int),.v (Wr.sl Q8) ([]:Ok)])]⟩) ?_ ?_
 ·refine cd u (fun C u=>?_) (fun C u=>?_)
  ·cases u;exact jy
  cases u;exact jy
 refine aU h Y (fun D h=>?_) (fun D h=>?_)
 ·refine aI (.k (bR Ev (.cons (Z.int .i64) (.cons (Z.int .i64) (.cons (Z.sl Q8) .nil))) .nil) (.f [4,5] ?_));refine aH ?_;obtain rfl:=pT h;exact cB (σ':=⟨[(4,.ptr 90 0),(5,.v Q9 (some (2:Int)))],[(90,.box 84 [.v Q0 (0:Int),.v Q0 (0:Int),.v (Wr.sl Q8) ([]:Ok)])]⟩) (aC [(90,103)]) (bT z dS Y (aV Y Y (.VB sO (.VB sO sO)) Wx Jl) (RV.tmp Y) .nil Y)
 refine aF ?_;refine aG ?_;obtain⟨O,K,h⟩:=aA h;obtain⟨P,L,h⟩:=aA h;obtain⟨M,N,h⟩:=aA h;refine dV 14 mixed (by exact(.k (aB 0 Y EM Y S3 Y Y) (.k (aJ Y Y Y G3 S3) (.k (aB 1 Y EM Y S3 Y Y) (.k (aJ Y Y Y G3 S3) (.k (aB 2 Y EM Y EI Y Y) (.k (aJ Y Y Y RD EI) (.k (fI 109000 (Dv K) Tryz.call80 (.cons (.dir Y) .nil) Y) (.k (aT Y Y (.VB sO (.VB sO sO)) uU lL) (.k (aM (Du L) Tryz.call81 (.cons (.dir Y) .nil)) (.k (dI (e:=Q8) KO lL Cg Y Y Y Y (.cons (.dir Y) .nil)) (XF.append (.none Y) 111 N Y Y (.sl Y) KO QC lL Y Y Y Y Y (.k (bR Ev (.cons (Z.int .i64) (.cons (Z.int .i64) (.cons (Z.sl Q8) .nil))) (.cons Y (.dir Y) Y Y Y Y (.cons Y (.dir Y) Y Y Y Y (.cons Y (.dir Y) Y Y Y Y .nil)))) (XF.A1 (.none Y) Y Y Y Y Y Y Jl (.k (zD ET) .nil))))))))))))))) (by exact(J.kp [4,5] [])) ?_;refine aH ?_;obtain rfl:=pT h;exact cB (σ':=⟨[(4,.ptr 90 0),(5,.v Q9 (none:Option Int))],[(90,.box 84 [.v Q0 a0.1,.v Q0 a0.2.1,.v (Wr.sl Q8) M])]⟩) (aC [(90,103)]) (bT z dS Y (aV Y Y (.VB sO (.VB sO sO)) Wx Jl) (RV.tmp Y) .nil Y)
theorem Pf{a0 r}(h:pB a0=some r):
 VS Tryz.prog 52 [.v Ns a0] (.WC [.v (Wr.sl (Wr.sl (Wr.int .u8))) r.1,.v Q9 r.2]) []:=by
 refine VS.of Tryz.func52 Y Tryz.ntmps52 Y ?_;intro S w u;unfold pB at h;refine aI (.k (cJ 101 Y (.VB sO (.VB sO sO)) Y) (.k (aR 102 107 (Wr.sl (Wr.int .u8))) (.f [1] ?_)));obtain⟨T,K,h⟩:=aA h;refine jM (.k (aT Y Y (.VB sO (.VB sO sO)) Wx Jl) (.k (aM (xY K) Tryz.call78 (.cons (.dir Y) .nil)) (.f [1,4] ?_)));refine aL [1,4,13] ?_;refine aU h Y (fun F h=>?_) (fun F h=>?_)
 ·refine aI (.a 1 ?_);refine .k (aR 104 107 (Wr.sl (Wr.int .u8))) (.f [2,3] ?_);cases h;exact aH (wN u dS Y (aC []))
 refine aF ?_;refine aI (.k (aR 105 107 (Wr.sl (Wr.int .u8))) (.f [1,5] ?_));obtain⟨C,L,h⟩:=aA h;refine jM (.a 5 ?_);refine .k (yP Y Y) (.k (Zs L Y Y KO lL) (.f [1,5,21,22,23] ?_));obtain⟨U,M,N,D⟩:=cN h;refine jP (σs:=fun z:Int×(List kS)=>⟨[(1,.ptr 101 0),(5,.ref 119),(21,.v (Wr.sl Q8) C),(22,.v Q0 (C.length:Int)),(23,.v Q0 z.1)],[(101,.box 84 [.v Q0 a0.1,.v Q0 a0.2.1,.v (Wr.sl Q8) a0.2.2]),(119,.arr 107 (Wr.sl (Wr.int .u8)) z.2)]⟩) (fun B:(List kS)=>⟨[(5,.ref 119)],[(119,.arr 107 (Wr.sl (Wr.int .u8)) B)]⟩) M (aC [(119,105)]) ?_ ?_
 ·intro B E;have h:=N _ E;refine aL [2,3] ?_;cases h;exact aH (wN u dS Y (aC []))
 intro z R h;refine aL [1,5,21,22,23,24] ?_;refine aG ?_;refine aU h Y (fun G h=>?_) (fun G h=>?_)
 ·refine aF ?_;refine aG ?_;refine bS ?_;obtain⟨V,X,h⟩:=aA h;refine aI (.a 3 ?_);refine .k (aN 125 Cg Y (.cons (Z.int .i64) (.cons (Z.sl Q0) (.cons (Z.sl aO) .nil))) Y) ?_;refine .a 1 ?_;refine .t (bX Y Y Y Y (.VB sO (.VB sO sO)) lL) (.f [1,5,6,7,21,22,23] ?_);refine cV [1,5,6,7,21,22,23,32] ?_;refine aU h Y (fun H h=>?_) (fun H h=>?_)
  ·refine aI (.a 1 ?_);refine .k (aR 126 107 (Wr.sl (Wr.int .u8))) (.f [2,3] ?_);refine aH ?_;refine eR ?_;cases h;refine hX fun A=>?_;obtain rfl:=D _ A;exact wN u dS Y (aC [])
  refine aF ?_;refine aG ?_;obtain⟨qe,O,h⟩:=aA h;obtain⟨wi,P,h⟩:=aA h;refine dV 21 mixed (by exact(.k (aB 0 Y EM Y S3 Y Y) (.k (aJ Y Y Y G3 S3) (.k (aB 1 Y EM Y S3 Y Y) (.k (aJ Y Y Y G3 S3) (.k (aD Y) (.k (cU Y Y Y) (.k (aB 0 Y uV Y S3 Y Y) (.k (aJ Y Y Y G3 S3) (.k (Zx (e:=Q0) wX S3 Z3 Y Y Y Y (.cons (.dir Y) (.cons (.dir Y) (.cons (.dir Y) .nil)))) (.k (aB 1 Y uV Y yV Y Y) (.k (aJ Y Y Y Sx yV) (.k (Le O (List.cons_ne_nil _ _) Y (.sl Y) wX I3 S3 Y Y Y) (.k (aB 2 Y uV Y yD Y Y) (.k (aJ Y Y Y Ti yD) (.k (bR lY (.cons (Z.int .i64) (.cons (Z.sl Q0) (.cons (Z.sl aO) .nil))) (.cons Y (.dir Y) Y Y Y Y (.cons Y (.dir Y) Y Y Y Y (.cons Y (.dir Y) Y Y Y Y .nil)))) (.k (aM (xW P) Tryz.call77 (.cons (.agg Y (.same (.same (.same .nil))) (.VB sO (.VB sO sO)) Y) .nil)) (.k (aD Y) (.k (bW Y Y) (.k (bW Y Y) (.k (bP Y) (.k (bP Y) .nil)))))))))))))))))))))) (by exact(J.kp [1,5,8,9,21,22,23] [])) ?_;refine cV [1,5,8,9,21,22,23,54] ?_;refine aU h Y (fun I h=>?_) (fun I h=>?_)
  ·refine aI (.a 1 ?_);refine .k (aR 128 107 (Wr.sl (Wr.int .u8))) (.f [2,3] ?_);refine aH ?_;refine eR ?_;cases h;refine hX fun A=>?_;obtain rfl:=D _ A;exact wN u dS Y (aC [])
  refine aF ?_;obtain⟨u0,Q,h⟩:=aA h;refine eM (.a 2 ?_);refine .k (dI (e:=(Wr.sl (Wr.int .u8))) QG Wk Tryz.zeroValue107 Y Y Y Y (.cons (.dir Y) .nil)) (.t (bU 129 Q Y Y (.sl Y) QG Tryz.typeInfo107 Wk Y Y Y Y Y) (.f [1,5,21,22,23] ?_));refine aZ ?_;refine dQ [1,5,21,22,23] ?_;cases h;exact cF (aC [(119,129)])
 cases h;exact dC (dJ (aC []))
theorem Al(A:Nat->Nat){b0 b1 b2 b3 b4 b5 b6 b7 b8 b9 bA bB bC bD bE bF bG bH bI bJ bK bL r}(h:eF b0 b1 b2 b3 b4 b5 b6 b7 b8 b9 bA bB bC bD bE bF bG bH bI bJ bK bL=some r):
 VG Tryz.prog 30 [.ptr 9000 0] (kO 9000 (some (A 9000)) 9100 (some (A 9100)) 9200 (some (A 9200)) 9050 9051 9052 9053 b0 b1 b2 b3 b4 b5 b6 b7 b8 b9 bA bB bC bD bE bF bG bH bI bJ bK bL) (.v Q9 r.1) (kO 9000 (some (A 9000)) 9100 (some (A 9100)) 9200 (some (A 9200)) 400 401 402 403 b0 b1 b2 b3 b4 b5 b6 b7 r.2.1 r.2.2.1 bA r.2.2.2.1 bC bD bE bF bG r.2.2.2.2 bI bJ bK bL):=by
 refine VG.of Tryz.func30 Y Tryz.ntmps30 Y ?_;intro S w R E;unfold eF at h;refine aL [0] ?_;refine aL [0,3] ?_;obtain⟨C,X,h⟩:=aA h;refine jM (.a 6 ?_);refine .k (dI (e:=Q0) wX S3 Z3 Y Y Y Y (.cons (.dir Y) .nil)) (.k (bR lY (.cons (Z.int .i64) (.cons (Z.sl Q0) (.cons (Z.sl aO) .nil))) (.cons Y (.dir Y) Y Y Y Y (.cons Y (.dir Y) Y Y Y Y .nil))) (.t (uD (H:=[9000,9100,9200,9050,9051,9052,9053]) (K:=[9000,9100,9200]) (vV [(9000,9000),(9100,9100),(9200,9200),(9050,9050),(9051,9051),(9052,9052),(9053,9053),(400,101),(401,102),(402,103),(403,104)]) (dK Y) (fun A=>uR A X) Tryz.call49 (.cons (.dir Y) (.cons (.dir Y) (.cons (.agg Y (.same (.same (.same .nil))) (.VB sO (.VB sO sO)) Y) .nil))) (fun A=>(.box Y (.box Y (.box Y (.arr Y (.mp Y (.arr Y (.arr Y .nil)))))))) (fun A=>(.box Y (.box Y (.box Y (.arr (.mp (.arr (.arr .nil Y) Y) Y) Y) Y) Y) Y)) (fun _=>rfl) Y Y (fun _=>rfl) Y Y) (.f [0,3,4] ?_)));refine aG ?_;obtain⟨x3,u,h⟩:=aA h;refine eP (σ':=⟨[(0,.ptr 9000 0),(3,.ptr 9000 1),(4,.v Q9 C.1),(31,.v Wr.bool x3)],(kO 9000 (some (A 9000)) 9100 (some (A 9100)) 9200 (some (A 9200)) 101 102 103 104 b0 b1 b2 b3 b4 b5 b6 b7 b8 b9 bA bB bC bD bE bF bG C.2 bI bJ bK bL)⟩) ?_ ?_
 ·refine cd u (fun N u=>?_) (fun N u=>?_)
  ·cases u;exact jy
  cases u;exact jy
 refine aU h Y (fun O h=>?_) (fun O h=>?_)
 ·refine aL [0,2] ?_;cases h;exact aH (eW E Y (aC [(403,104),(402,103),(401,102),(400,101)]))
 refine aF ?_;refine aG ?_;refine aG ?_;obtain⟨x7,u,h⟩:=aA h;refine Ko (σ':=⟨[(0,.ptr 9000 0),(3,.ptr 9000 1),(51,.v Wr.bool x7)],(kO 9000 (some (A 9000)) 9100 (some (A 9100)) 9200 (some (A 9200)) 101 102 103 104 b0 b1 b2 b3 b4 b5 b6 b7 b8 b9 bA bB bC bD bE bF bG C.2 bI bJ bK bL)⟩) ?_ ?_
 ·intro I;refine cd u (fun B u=>?_) (fun B u=>?_)
  ·cases u;exact dV 19 mixed (by exact(.k (aD Y) (.k (aK Y) (.k (aB 15 Y vS Y S3 Y Y) (.k (aJ Y Y Y G3 S3) (.k (aD Y) (.k (aK Y) (.k (aB 1 Y vS Y Kv Y Y) (.k (aB 3 Y Ey Y S3 Y Y) (.k (aJ Y Y Y G3 S3) (.k (jL Y Y Y) (.k (aD Y) (.g B (aD Y) (.g B (aK Y) (.g B (aB 12 Y vS Y Jl Y Y) (.g B (aB 14 Y EM Y EI Y Y) (.g B (yQ (off:=12) (o1:=2) Y Y Y Y (.snd (.snd .here)) RD EI) (.g B (tD Y KO) (.g B (jL Y Y Y) (.k (xM B Y Y) .nil)))))))))))))))))))) (by exact(J.fin (aC []))) I
  cases u;exact tG 19 mixed I
 obtain⟨aa,ab,h⟩:=fE h;refine tF (fun z:(Int×Int×Ok)×Int×kS=>⟨[(0,.ptr 9000 0),(3,.ptr 9000 1)],(kO 9000 (some (A 9000)) 9100 (some (A 9100)) 9200 (some (A 9200)) 119 120 121 122 b0 b1 b2 b3 b4 b5 b6 b7 z.1 z.2.1 bA z.2.2 bC bD bE bF bG C.2 bI bJ bK bL)⟩) (fun x=>aa x=some r) Y ?_ ?_ ?_
 ·intro z h;rw[ab] at h;obtain⟨D,ac,h⟩:=aA h;refine aI (.a 4 ?_);refine .k (aM (Pf ac) Tryz.call52 (.cons (.dir Y) .nil)) (.f [0,7,8] ?_);refine cV [0,8,99,100,101] ?_;obtain⟨aj,ad,ae,am⟩:=cN h;refine jP (σs:=fun F:Int×Yv=>⟨[(0,.ptr 9000 0),(8,.v Q9 D.2),(99,.v (Wr.sl (Wr.sl (Wr.int .u8))) D.1),(100,.v Q0 (D.1.length:Int)),(101,.v Q0 F.1)],(kO 9000 (some (A 9000)) 9100 (some (A 9100)) 9200 (some (A 9200)) 158 159 160 161 b0 b1 b2 b3 b4 b5 b6 b7 z.1 z.2.1 bA z.2.2 bC bD bE bF bG F.2 bI bJ bK bL)⟩) (fun L:Yv=>⟨[(0,.ptr 9000 0),(8,.v Q9 D.2)],(kO 9000 (some (A 9000)) 9100 (some (A 9100)) 9200 (some (A 9200)) 158 159 160 161 b0 b1 b2 b3 b4 b5 b6 b7 z.1 z.2.1 bA z.2.2 bC bD bE bF bG L bI bJ bK bL)⟩) ad (aC [(161,122),(160,121),(159,120),(158,119)]) ?_ ?_
  ·intro L M;have h:=ae _ M;refine aL [0,2] ?_;cases h;exact aH (eW E Y (aC [(403,161),(402,160),(401,159),(400,158)]))
  intro F ai h;refine aL [0,8,99,100,101,102] ?_;refine aG ?_;refine aU h Y (fun P h=>?_) (fun P h=>?_)
  ·refine aF ?_;refine aG ?_;refine bS ?_;obtain⟨an,ap,h⟩:=aA h;refine aL [0,8,10,99,100,101] ?_;obtain⟨aq,af,h⟩:=aA h;obtain⟨wh,ah,h⟩:=aA h;refine eM (.a 2 ?_);refine .t (uD (H:=[9000,9100,9200,158,159,160,161]) (K:=[9000,9100,9200]) (vV [(9000,9000),(9100,9100),(9200,9200),(9050,158),(9051,159),(9052,160),(9053,161),(400,166),(401,167),(402,168),(403,169)]) (dK Y) (fun A=>oR A ah) Tryz.call53 (.cons (.dir Y) (.cons (.dir Y) (.cons (.toN (Mp af) Y) .nil))) (fun A=>(.box Y (.box Y (.box Y (.arr Y (.mp Y (.arr Y (.arr Y .nil)))))))) (fun A=>(.box Y (.box Y (.box Y (.arr (.mp (.arr (.arr .nil Y) Y) Y) Y) Y) Y) Y)) (fun _=>rfl) Y Y (fun _=>rfl) Y Y) (.f [0,8,99,100,101] ?_);refine aZ ?_;refine dQ [0,8,99,100,101] ?_;cases h;exact cF (aC [(161,169),(160,168),(159,167),(158,166)])
  cases h;exact dC (dJ (aC []))
 ·intro G;replace h:=iK G h;refine aG ?_;obtain⟨uw,rr,h⟩:=aA h;obtain⟨uv,rq,h⟩:=aA h;refine TN (OK:=(TL ([(9000,12,.v Ns b8)]:List (Nat×Nat×Slot)))) 13 mixed (by exact(.pu (.none Y) Y (fun _ _=>aD Y) (.pu (.none Y) Y (fun _ _=>aK Y) (.pu (.none Y) Y (fun _ _=>aB 12 Y vS Y Jl Y Y) (.pu (.none Y) Y (fun _ Q=>GR _ 0 Q Y (fun _ _ _ T U=>aJ Y T U Wx Jl)) (.k (aD Y) (XF.G4 (.none Y) (H:=[9000,9100,9200,101,102,103,104]) (K:=[9000,9100,9200]) (vV [(9000,9000),(9100,9100),(9200,9200),(9050,101),(9051,102),(9052,103),(9053,104),(400,129),(401,130),(402,131),(403,132)]) (dK Y) (fun A=>xX A rr) Tryz.call51 (.cons (.dir Y) .nil) (fun A=>(.box Y (.box Y (.box Y (.arr Y (.mp Y (.arr Y (.arr Y .nil)))))))) (fun A=>(.box Y (.box Y (.box Y (.arr (.mp (.arr (.arr .nil Y) Y) Y) Y) Y) Y) Y)) (fun _=>rfl) Y Y (fun _=>rfl) Y Y (.k (aM (Od rq) Tryz.call50 (.cons (.dir Y) (.cons (.dir Y) .nil))) (.k (aD Y) (.pu (.none Y) Y (fun _ _=>bW Y Y) (.pu (.none Y) Y (fun _ _=>bW Y Y) (.k (aN 134 TJ Y (.cons (Z.int .i64) (.cons (Z.int .i64) (.cons (Z.sl Q8) .nil))) Y) (XF.storeAll (.none Y) Y Y Y Y (.VB sO (.VB sO sO)) Jl (.k (bP Y) .nil)))))))))))))) (by exact(J.kp [0,3,5,6] [])) (by exact AH Y (by repeat' (first | exact trivial | exact Y | refine And.intro ?_ ?_))) ?_;refine cV [0,3,5,6,63] ?_;refine aU h Y (fun V h=>?_) (fun V h=>?_)
  ·refine aL [0,2] ?_;refine aH ?_;refine Gy ?_;cases h;exact eW E Y (aC [(403,132),(402,131),(401,130),(400,129)])
  refine aF ?_;refine aG ?_;refine dV 14 mixed (by exact(.k (aD Y) (.pu (.none Y) Y (fun _ _=>aD Y) (.k (aT Y Y (.VB sO (.VB sO sO)) Wx Jl) (.k (aD Y) (.k (aK Y) (.k (aB 1 Y vS Y Kv Y Y) (.k (aB 3 Y Ey Y S3 Y Y) (.k (aJ Y Y Y G3 S3) (.k (aK Y) (.k (aB 12 Y vS Y Jl Y Y) (XF.store (.none Y) Y Y Y Y Y Y Y Jl (.k (aK Y) (.k (aB 15 Y vS Y S3 Y Y) (XF.store (.none Y) Y Y Y Y Y Y Y S3 .nil))))))))))))))) (by exact(J.kp [0,3] [])) ?_;obtain⟨bo,V2,h⟩:=aA h;refine dV 15 mixed (by exact(.k (aD Y) (.k (aD Y) (.k (aK Y) (.k (aB 17 Y vS Y yV Y Y) (.k (aJ Y Y Y Sx yV) (.k (aD Y) (.k (aK Y) (.k (aB 1 Y vS Y Kv Y Y) (.k (aB 3 Y Ey Y S3 Y Y) (.k (aJ Y Y Y G3 S3) (.k (dI (e:=Q0) wX S3 Z3 Y Y Y Y (.cons (.dir Y) .nil)) (XF.append (.none Y) 136 V2 Y Y (.sl Y) wX I3 S3 Y Y Y Y Y (.k (aK Y) (.k (aB 17 Y vS Y yV Y Y) (XF.store (.none Y) Y Y Y Y Y Y Y yV .nil)))))))))))))))) (by exact(J.kp [0,3] [])) ?_;exact cC h (aC [(122,132),(121,136),(120,130),(119,129)])
 ·intro G;replace h:=iL G h;refine aF ?_;exact cC h (aC [(122,104),(121,103),(120,102),(119,101)])
theorem Co(A:Nat->Nat){a1 b0 b1 b2 b3 b4 b5 b6 b7 b8 b9 bA bB bC bD bE bF bG bH bI bJ bK bL r}(h:nQ a1 b0 b1 b2 b3 b4 b5 b6 b7 b8 b9 bA bB bC bD bE bF bG bH bI bJ bK bL=some r):
 VG Tryz.prog 111 [.ptr 9000 0,.v Q4 a1] (kO 9000 (some (A 9000)) 9100 (some (A 9100)) 9200 (some (A 9200)) 9050 9051 9052 9053 b0 b1 b2 b3 b4 b5 b6 b7 b8 b9 bA bB bC bD bE bF bG bH bI bJ bK bL) (.WC [.v aO r.1,.v Q9 r.2.1]) (Ta 9000 (some (A 9000)) 301 none 302 none 400 401 402 403 r.2.2):=by
 refine VG.of Tryz.func111 Y Tryz.ntmps111 Y ?_;intro S w R u;unfold nQ at h;refine aI (.k (cJ 101 Y (.VB sO (.VB sO (.VB sO sO))) Y) (.k (aN 102 Br Y (.cons (Z.arr 8 (Z.int .u8)) .nil) Y) (.f [0,4] ?_)));obtain⟨z,B,h⟩:=aA h;refine aI (.k (dE (e:=aO) (v:=aS) Bq vR I5 Y Y (Z.arr 8 (Z.int .u8))) ?_);refine .a 1 ?_;refine .t (eQ [9000,9100,9200,9050,9051,9052,9053] (vV [(9000,9000),(9100,9100),(9200,9200),(9050,9050),(9051,9051),(9052,9052),(9053,9053),(400,103),(401,104),(402,105),(403,106)]) (dK Y) (fun A=>Al A B) Tryz.call30 (fun A=>(.box Y (.box Y (.box Y (.arr (.mp (.arr (.arr .nil Y) Y) Y) Y) Y) Y) Y))) (.f [0,4,5] ?_);refine aH ?_;obtain rfl:=pT h;exact nJ [(0,.ptr 9000 0),(4,.ptr 90 0),(5,.v Q9 z.1)] [(90,.box 30 [.v aO aS])] (aC [(90,102),(403,106),(302,9200),(402,105),(401,104),(400,103),(301,9100)]) (dP u Y (cL Y Y Y uO kP) (RV.tmp Y) (.cons Y (.cons Y (.cons Y (.cons Y (.cons Y (.cons Y (.cons Y .nil))))))))
theorem kA(A:Nat->Nat){a1 b0 b1 b2 b3 b4 b5 b6 b7 b8 b9 bA bB bC bD bE bF bG bH bI bJ bK bL r}(h:cE a1 b0 b1 b2 b3 b4 b5 b6 b7 b8 b9 bA bB bC bD bE bF bG bH bI bJ bK bL=some r):
 VG Tryz.prog 44 [.ptr 9000 0,.v Q0 a1] (kO 9000 (some (A 9000)) 9100 (some (A 9100)) 9200 (some (A 9200)) 9050 9051 9052 9053 b0 b1 b2 b3 b4 b5 b6 b7 b8 b9 bA bB bC bD bE bF bG bH bI bJ bK bL) (.WC [.v Q0 r.1,.v Wr.bool r.2]) (kO 9000 (some (A 9000)) 9100 (some (A 9100)) 9200 (some (A 9200)) 400 401 402 403 b0 b1 b2 b3 b4 b5 b6 b7 b8 b9 bA bB bC bD bE bF bG bH bI bJ bK bL):=by
 refine VG.of Tryz.func44 Y Tryz.ntmps44 Y ?_;intro S w R u;unfold cE at h;refine aL [0,1] ?_;refine cV [0,1,11] ?_;refine aU h Y (fun z h=>?_) (fun z h=>?_)
 ·refine aL [0,4,5] ?_;cases h;exact aH (GX u Y (aC [(403,9053),(402,9052),(401,9051),(400,9050)]))
 refine aF ?_;obtain⟨C,B,h⟩:=aA h;refine aI (.a 3 ?_);refine .k (Xa Y) (.k (Az Y Y) ?_);refine .a 5 ?_;refine .k (kK (.inr Y) (Eb B) Y Y) (.f [0,4,5] ?_);cases h;exact aH (GX u Y (aC [(403,9053),(402,9052),(401,9051),(400,9050)]))
end Go.Cn
