/- The functions come to what their models come to. Conditions: none. -/
import Derived.Test.YteckohdbfkhmdadGreatDoorMDTopNaive
import Derived.KernelRfl
import Derived.WalkKit
import Derived.LaidEql
import Derived.Stop.Asserts
import Derived.RowKitTokens
import Derived.Test.YteckohdbfkhmdadGreatDoorChecked
set_option linter.unusedVariables false
set_option linter.unusedSimpArgs false
set_option maxRecDepth 100000
set_option maxHeartbeats 4000000
namespace Go.Cn
open Go Go.Sw Go.Mo Go.Proofs
abbrev ET:Nat:=26
theorem Y{α:Sort _}{a:α}:a=a:=rfl
abbrev Q0:=(Wr.int .i64)
abbrev Q1:=(Wr.sl (Wr.pr Q0 aM))
abbrev Q2:=(Wr.pr (Wr.sl aM) (Wr.pr Q1 Q0))
abbrev Q3:=(Int×Int×Int×Int×(List aQ)×(Int×(List (Int×aQ))×(List (Int×(List (Int×aQ))))×Bool)×(List (Int×(List aQ)))×Int×(Int×Int×(List (Int×(List Int)×(List aQ))))×Int×Int×(List Int)×Int×Int×Int×Int×(Int×Int)×(List (Bool×Bool×(List Int)))×Int×((List aQ)×(List (Int×aQ))×Int)×Int×((List aQ)×(List (Int×aQ))×Int))
abbrev Q4:=(Wr.pr Q0 (Wr.pr (Wr.sl Q0) (Wr.sl aM)))
abbrev Q5:=(Wr.pr Q0 aM)
abbrev Q6:=(List (Int×aQ))
abbrev Q7:=(Wr.sl aM)
abbrev Q8:=(Wr.err ET)
abbrev Q9:=(Wr.pr Q0 (Wr.pr Q0 Q5))
abbrev Lh:=(Wr.pr Q0 (Wr.pr Q1 (Wr.pr (Wr.sl (Wr.pr Q0 Q1)) Wr.bool)))
abbrev Bw:=((List aQ)×Q6×Int)
abbrev Pw:=(Wr.pr Q0 (Wr.pr aM (Wr.pr Q0 (Wr.pr Q0 (Wr.pr Q0 Q7)))))
abbrev kM:=(List Int)
abbrev iM:=(List aQ)
abbrev pH:=(Wr.pr Q0 Q1)
abbrev mH:=(Wr.sl Q0)
abbrev On:=(Wr.pr Q0 (Wr.pr Q0 (Wr.sl Q4)))
abbrev Li:=(List (Int×kM×iM))
abbrev Gb:=(List (Int×Q6))
abbrev Ud:=(List (Bool×Bool×kM))
abbrev Ue:=(Option (Int×Bw))
abbrev KQ:=Tryz.call102
abbrev TK:=Tryz.call106
abbrev FO:=Tryz.call124
abbrev OJ:=Tryz.call131
abbrev OL:=Tryz.call134
abbrev OM:=Tryz.call136
abbrev KR:=Tryz.call137
abbrev KS:=Tryz.call139
abbrev TZ:=Tryz.call26
abbrev TL:=Tryz.call30
abbrev RX:=Tryz.call40
abbrev C5:=Tryz.call5
abbrev UA:=Tryz.call57
abbrev UB:=Tryz.call58
abbrev UC:=Tryz.call74
abbrev UD:=Tryz.call82
abbrev RY:=Tryz.call89
abbrev QV:=Tryz.call94
abbrev UE:=Tryz.call95
abbrev UF:=Tryz.call99
abbrev KU:=Tryz.isAgg108
abbrev uZ:=Tryz.isAgg119
abbrev sF:=Tryz.isAgg146
abbrev Oo:=Tryz.isAgg157
abbrev Zy:=Tryz.isAgg204
abbrev Xm:=Tryz.isAgg209
abbrev Tu:=Tryz.isAgg22
abbrev uS:=Tryz.isAgg28
abbrev Uf:=Tryz.isAgg29
abbrev G3:=Tryz.isAgg3
abbrev FP:=Tryz.isAgg31
abbrev TM:=Tryz.isAgg33
abbrev CO:=Tryz.isAgg41
abbrev TN:=Tryz.isAgg44
abbrev G5:=Tryz.isAgg5
abbrev TO:=Tryz.isAgg61
abbrev Oq:=Tryz.isAgg68
abbrev GF:=Tryz.isAgg71
abbrev Fi:=Tryz.isAgg74
abbrev PG:=Tryz.isAgg75
abbrev RZ:=Tryz.isAgg76
abbrev Xy:=Tryz.isAgg78
abbrev QW:=Tryz.isAgg82
abbrev TP:=Tryz.isAgg85
abbrev ON:=Tryz.typeInfo110
abbrev QX:=Tryz.typeInfo119
abbrev QY:=Tryz.typeInfo157
abbrev Lj:=Tryz.typeInfo204
abbrev QZ:=Tryz.typeInfo209
abbrev Bx:=Tryz.typeInfo28
abbrev I3:=Tryz.typeInfo3
abbrev KV:=Tryz.typeInfo41
abbrev I5:=Tryz.typeInfo5
abbrev Xn:=Tryz.sizeOf108
abbrev wF:=Tryz.sizeOf110
abbrev lN:=Tryz.sizeOf119
abbrev lG:=Tryz.sizeOf146
abbrev vJ:=Tryz.sizeOf157
abbrev jT:=Tryz.sizeOf204
abbrev Ck:=Tryz.sizeOf209
abbrev zA:=Tryz.sizeOf22
abbrev kR:=Tryz.sizeOf28
abbrev yI:=Tryz.sizeOf29
abbrev KW:=Tryz.sizeOf294
abbrev S3:=Tryz.sizeOf3
abbrev Pj:=Tryz.sizeOf31
abbrev PH:=Tryz.sizeOf33
abbrev S4:=Tryz.sizeOf4
abbrev Cz:=Tryz.sizeOf41
abbrev CP:=Tryz.sizeOf44
abbrev S5:=Tryz.sizeOf5
abbrev TQ:=Tryz.sizeOf55
abbrev RA:=Tryz.sizeOf58
abbrev PI:=Tryz.sizeOf61
abbrev Iv:=Tryz.sizeOf68
abbrev Lk:=Tryz.sizeOf70
abbrev Iw:=Tryz.sizeOf71
abbrev UG:=Tryz.sizeOf72
abbrev zB:=Tryz.sizeOf74
abbrev Zz:=Tryz.sizeOf75
abbrev FQ:=Tryz.sizeOf76
abbrev Jz:=Tryz.sizeOf78
abbrev PJ:=Tryz.sizeOf80
abbrev GG:=Tryz.sizeOf82
abbrev TR:=Tryz.sizeOf84
abbrev KX:=Tryz.sizeOf85
abbrev PK:=Tryz.sizeOf91
abbrev tP:=Tryz.runUnderlying108
abbrev KY:=Tryz.runUnderlying110
abbrev vA:=Tryz.runUnderlying119
abbrev RC:=Tryz.runUnderlying123
abbrev Ll:=Tryz.runUnderlying146
abbrev wN:=Tryz.runUnderlying148
abbrev AA:=Tryz.runUnderlying157
abbrev Ot:=Tryz.runUnderlying204
abbrev FR:=Tryz.runUnderlying205
abbrev RD:=Tryz.runUnderlying209
abbrev xD:=Tryz.runUnderlying22
abbrev RE:=Tryz.runUnderlying235
abbrev Px:=Tryz.runUnderlying24
abbrev RF:=Tryz.runUnderlying266
abbrev RG:=Tryz.runUnderlying268
abbrev RH:=Tryz.runUnderlying270
abbrev vZ:=Tryz.runUnderlying28
abbrev Xo:=Tryz.runUnderlying282
abbrev Ka:=Tryz.runUnderlying29
abbrev OO:=Tryz.runUnderlying296
abbrev U3:=Tryz.runUnderlying3
abbrev UH:=Tryz.runUnderlying31
abbrev Pk:=Tryz.runUnderlying33
abbrev FT:=Tryz.runUnderlying41
abbrev RI:=Tryz.runUnderlying44
abbrev CQ:=Tryz.runUnderlying46
abbrev U5:=Tryz.runUnderlying5
abbrev UI:=Tryz.runUnderlying53
abbrev OP:=Tryz.runUnderlying61
abbrev Fj:=Tryz.runUnderlying70
abbrev yJ:=Tryz.runUnderlying71
abbrev FU:=Tryz.runUnderlying72
abbrev SA:=Tryz.runUnderlying74
abbrev RJ:=Tryz.runUnderlying75
abbrev LX:=Tryz.runUnderlying76
abbrev FV:=Tryz.runUnderlying78
abbrev wA:=Tryz.runUnderlying80
abbrev KZ:=Tryz.runUnderlying84
abbrev Kb:=Tryz.runUnderlying85
abbrev Tv:=Tryz.runUnderlying87
abbrev FY:=Tryz.zeroValue110
abbrev Cl:=Tryz.zeroValue119
abbrev Tw:=Tryz.zeroValue146
abbrev Py:=Tryz.zeroValue157
abbrev Fk:=Tryz.zeroValue204
abbrev Ou:=Tryz.zeroValue209
abbrev By:=Tryz.zeroValue28
abbrev TS:=Tryz.zeroValue29
abbrev Z3:=Tryz.zeroValue3
abbrev PL:=Tryz.zeroValue31
abbrev FZ:=Tryz.zeroValue41
abbrev Z5:=Tryz.zeroValue5
abbrev VD:=Tryz.zeroValue55
abbrev VE:=Tryz.zeroValue61
abbrev RK:=Tryz.zeroValue74
abbrev UJ:=Tryz.zeroValue78
abbrev TT:=Tryz.zeroValue91
abbrev kF(i:Nat)(ia:Option Nat)(p:Nat)(pa:Option Nat)(q:Nat)(qa:Option Nat)(x y z u:Nat)(b0 b1 b2 b3:Int)(b4:List aQ)(b5:Int×List (Int×aQ)×List (Int×List (Int×aQ))×Bool)(b6:List (Int×List aQ))(b7:Int)(b8:Int×Int×List (Int×List Int×List aQ))(b9 bA:Int)(bB:List Int)(bC bD bE bF:Int)(bG:Int×Int)(bH:List (Bool×Bool×List Int))(bI:Int)(bJ:List aQ×List (Int×aQ)×Int)(bK:Int)(bL:List aQ×List (Int×aQ)×Int):List (Nat×WA):=
 [(i,.box 87 [.v Q0 b0,.ptr p 0,.v Q0 b1,.v Q0 b2,.v Q0 b3,.ref x,.v Lh b5,.ref y,.v Q0 b7,.v On b8,.v Q0 b9,.v Q0 bA,.ref z,.ptr q 0,.v Q0 bC,.v Q0 bD,.v Q0 bE,.v Q0 bF,.v (Wr.pr Q0 Q0) bG,.ref u] ia),(p,.box 148 [.v Q0 bI,.v Q2 bJ] pa),(q,.box 148 [.v Q0 bK,.v Q2 bL] qa),(x,.arr 28 aM b4),(y,.mp Q0 Q7 b6),(z,.arr 3 Q0 bB),(u,.arr 110 (Wr.pr Wr.bool (Wr.pr Wr.bool (Wr.sl (Wr.int .u8)))) bH)]
abbrev Tx(i:Nat)(ia:Option Nat)(p:Nat)(pa:Option Nat)(q:Nat)(qa:Option Nat)(x y z u:Nat)(t:Int×Int×Int×Int×List aQ×(Int×List (Int×aQ)×List (Int×List (Int×aQ))×Bool)×List (Int×List aQ)×Int×(Int×Int×List (Int×List Int×List aQ))×Int×Int×List Int×Int×Int×Int×Int×(Int×Int)×List (Bool×Bool×List Int)×Int×(List aQ×List (Int×aQ)×Int)×Int×(List aQ×List (Int×aQ)×Int)):List (Nat×WA):=kF i ia p pa q qa x y z u t.1 t.2.1 t.2.2.1 t.2.2.2.1 t.2.2.2.2.1 t.2.2.2.2.2.1 t.2.2.2.2.2.2.1 t.2.2.2.2.2.2.2.1 t.2.2.2.2.2.2.2.2.1 t.2.2.2.2.2.2.2.2.2.1 t.2.2.2.2.2.2.2.2.2.2.1 t.2.2.2.2.2.2.2.2.2.2.2.1 t.2.2.2.2.2.2.2.2.2.2.2.2.1 t.2.2.2.2.2.2.2.2.2.2.2.2.2.1 t.2.2.2.2.2.2.2.2.2.2.2.2.2.2.1 t.2.2.2.2.2.2.2.2.2.2.2.2.2.2.2.1 t.2.2.2.2.2.2.2.2.2.2.2.2.2.2.2.2.1 t.2.2.2.2.2.2.2.2.2.2.2.2.2.2.2.2.2.1 t.2.2.2.2.2.2.2.2.2.2.2.2.2.2.2.2.2.2.1 t.2.2.2.2.2.2.2.2.2.2.2.2.2.2.2.2.2.2.2.1 t.2.2.2.2.2.2.2.2.2.2.2.2.2.2.2.2.2.2.2.2.1 t.2.2.2.2.2.2.2.2.2.2.2.2.2.2.2.2.2.2.2.2.2
instance:fT Tryz.prog:=⟨_,(.c KU (.c uZ (.c sF (.c Oo (.c Tryz.isAgg202 (.c Zy (.c Xm (.c Tu (.c Tryz.isAgg235 (.c Tryz.isAgg260 (.c Tryz.isAgg272 (.c uS (.c Uf (.c Tryz.isAgg294 (.c G3 (.c Tryz.isAgg4 (.c CO (.c TN (.c G5 (.c Tryz.isAgg53 (.c Tryz.isAgg58 (.c TO (.c Oq (.c GF (.c Tryz.isAgg72 (.c Fi (.c PG (.c RZ (.c Xy (.c QW (.c TP (.c Tryz.isAgg91 .n)))))))))))))))))))))))))))))))),_,(.c Xn (.c lN (.c lG (.c vJ (.c Tryz.sizeOf202 (.c jT (.c Ck (.c zA (.c Tryz.sizeOf235 (.c Tryz.sizeOf26 (.c Tryz.sizeOf260 (.c Tryz.sizeOf272 (.c kR (.c yI (.c KW (.c S3 (.c Pj (.c PH (.c S4 (.c Cz (.c CP (.c S5 (.c Tryz.sizeOf53 (.c TQ (.c RA (.c PI (.c Iv (.c Lk (.c Iw (.c UG (.c zB (.c Zz (.c FQ (.c Jz (.c PJ (.c GG (.c TR (.c KX (.c PK .n))))))))))))))))))))))))))))))))))))))),_,(.c tP (.c KY (.c vA (.c RC (.c Ll (.c wN (.c AA (.c Tryz.runUnderlying187 (.c Tryz.runUnderlying196 (.c Ot (.c FR (.c RD (.c xD (.c Tryz.runUnderlying238 (.c Px (.c Tryz.runUnderlying26 (.c RF (.c RG (.c RH (.c Xo (.c Ka (.c OO (.c U3 (.c UH (.c Pk (.c FT (.c RI (.c CQ (.c U5 (.c UI (.c Tryz.runUnderlying55 (.c Tryz.runUnderlying58 (.c OP (.c Fj (.c yJ (.c FU (.c SA (.c LX (.c FV (.c wA (.c Tryz.runUnderlying82 (.c KZ (.c Kb (.c Tv .n)))))))))))))))))))))))))))))))))))))))))))),ET⟩
theorem mixed:Tryz.prog.follows .mixedOrders=true:=Tryz.checked.mixed
theorem Xp:X5 2 Tryz.prog 28 aM:=X5.arr vZ S5 G5 (X5.int Tryz.underlying5)
theorem TU:X5 2 Tryz.prog 235 (Wr.arr 4 (Wr.int .u8)):=X5.arr RE S5 G5 (X5.int Tryz.underlying5)
theorem CR:s8 2 Tryz.prog 28 aM:=s8.arr vZ S5 G5 (s8.int U5)
theorem Fg:∀parts,Tryz.prog.built 31 parts=Instr.fill (([(0,1),(1,8),(9,1),(10,1),(11,1),(12,1)]:List (Nat×Nat)).toArray[·]?) ([.int .i64 0,.int .u8 0,.int .u8 0,.int .u8 0,.int .u8 0,.int .u8 0,.int .u8 0,.int .u8 0,.int .u8 0,.int .i64 0,.int .i64 0,.int .i64 0,.slice none 0 0]:List Value).toArray parts:=dD Tryz.typeInfo31 UH rfl rfl (.cons rfl (by kernel_rfl) (by kernel_rfl) (.cons rfl (by kernel_rfl) (by kernel_rfl) (.cons rfl (by kernel_rfl) (by kernel_rfl) (.cons rfl (by kernel_rfl) (by kernel_rfl) (.cons rfl (by kernel_rfl) (by kernel_rfl) (.cons rfl (by kernel_rfl) (by kernel_rfl) .nil))))))
theorem OQ:∀parts,Tryz.prog.built 41 parts=Instr.fill (([(0,1),(1,1),(2,1),(3,8)]:List (Nat×Nat)).toArray[·]?) ([.int .i64 0,.int .i64 0,.int .i64 0,.int .u8 0,.int .u8 0,.int .u8 0,.int .u8 0,.int .u8 0,.int .u8 0,.int .u8 0,.int .u8 0]:List Value).toArray parts:=dD KV FT rfl rfl (.cons rfl (by kernel_rfl) (by kernel_rfl) (.cons rfl (by kernel_rfl) (by kernel_rfl) (.cons rfl (by kernel_rfl) (by kernel_rfl) (.cons rfl (by kernel_rfl) (by kernel_rfl) .nil))))
theorem OR:∀parts,Tryz.prog.built 46 parts=Instr.fill (([(0,1),(1,1)]:List (Nat×Nat)).toArray[·]?) ([.slice none 0 0,.slice none 0 0]:List Value).toArray parts:=dD Tryz.typeInfo46 CQ rfl rfl (.cons rfl (by kernel_rfl) (by kernel_rfl) (.cons rfl (by kernel_rfl) (by kernel_rfl) .nil))
theorem CS:∀parts,Tryz.prog.built 55 parts=Instr.fill (([(0,1)]:List (Nat×Nat)).toArray[·]?) ([.slice none 0 0]:List Value).toArray parts:=dD Tryz.typeInfo55 Tryz.runUnderlying55 rfl rfl (.cons rfl (by kernel_rfl) (by kernel_rfl) .nil)
theorem Me:∀parts,Tryz.prog.built 70 parts=Instr.fill (([(0,1),(1,1),(2,1),(3,1)]:List (Nat×Nat)).toArray[·]?) ([.pointer none,.int .i64 0,.int .i64 0,.int .i64 0]:List Value).toArray parts:=dD Tryz.typeInfo70 Fj rfl rfl (.cons rfl (by kernel_rfl) (by kernel_rfl) (.cons rfl (by kernel_rfl) (by kernel_rfl) (.cons rfl (by kernel_rfl) (by kernel_rfl) (.cons rfl (by kernel_rfl) (by kernel_rfl) .nil))))
theorem zC:∀parts,Tryz.prog.built 74 parts=Instr.fill (([(0,1),(1,1),(2,1),(3,1)]:List (Nat×Nat)).toArray[·]?) ([.int .i64 0,.slice none 0 0,.slice none 0 0,.bool false]:List Value).toArray parts:=dD Tryz.typeInfo74 SA rfl rfl (.cons rfl (by kernel_rfl) (by kernel_rfl) (.cons rfl (by kernel_rfl) (by kernel_rfl) (.cons rfl (by kernel_rfl) (by kernel_rfl) (.cons rfl (by kernel_rfl) (by kernel_rfl) .nil))))
theorem Fh:∀parts,Tryz.prog.built 78 parts=Instr.fill (([(0,1),(1,1),(2,1)]:List (Nat×Nat)).toArray[·]?) ([.int .i64 0,.int .i64 0,.slice none 0 0]:List Value).toArray parts:=dD Tryz.typeInfo78 FV rfl rfl (.cons rfl (by kernel_rfl) (by kernel_rfl) (.cons rfl (by kernel_rfl) (by kernel_rfl) (.cons rfl (by kernel_rfl) (by kernel_rfl) .nil)))
theorem CT:∀parts,Tryz.prog.built 80 parts=Instr.fill (([(0,4),(4,1),(5,4),(9,1),(10,1),(11,3),(14,1),(15,1),(16,1)]:List (Nat×Nat)).toArray[·]?) ([.pointer none,.int .i64 0,.int .i64 0,.int .i64 0,.slice none 0 0,.int .i64 0,.slice none 0 0,.slice none 0 0,.bool false,.map none,.int .i64 0,.int .i64 0,.int .i64 0,.slice none 0 0,.int .i64 0,.int .i64 0,.slice none 0 0]:List Value).toArray parts:=dD Tryz.typeInfo80 wA rfl rfl (.cons rfl (by kernel_rfl) (by kernel_rfl) (.cons rfl (by kernel_rfl) (by kernel_rfl) (.cons rfl (by kernel_rfl) (by kernel_rfl) (.cons rfl (by kernel_rfl) (by kernel_rfl) (.cons rfl (by kernel_rfl) (by kernel_rfl) (.cons rfl (by kernel_rfl) (by kernel_rfl) (.cons rfl (by kernel_rfl) (by kernel_rfl) (.cons rfl (by kernel_rfl) (by kernel_rfl) (.cons rfl (by kernel_rfl) (by kernel_rfl) .nil)))))))))
theorem Mf:∀parts,Tryz.prog.built 82 parts=Instr.fill (([(0,1),(1,1)]:List (Nat×Nat)).toArray[·]?) ([.int .i64 0,.int .i64 0]:List Value).toArray parts:=dD Tryz.typeInfo82 Tryz.runUnderlying82 rfl rfl (.cons rfl (by kernel_rfl) (by kernel_rfl) (.cons rfl (by kernel_rfl) (by kernel_rfl) .nil))
theorem CU:∀parts,Tryz.prog.built 84 parts=Instr.fill (([(0,4),(4,1),(5,2)]:List (Nat×Nat)).toArray[·]?) ([.pointer none,.int .i64 0,.int .i64 0,.int .i64 0,.int .i64 0,.int .i64 0,.int .i64 0]:List Value).toArray parts:=dD Tryz.typeInfo84 KZ rfl rfl (.cons rfl (by kernel_rfl) (by kernel_rfl) (.cons rfl (by kernel_rfl) (by kernel_rfl) (.cons rfl (by kernel_rfl) (by kernel_rfl) .nil)))
theorem OS:∀parts,Tryz.prog.built 87 parts=Instr.fill (([(0,1),(1,17),(18,7),(25,1)]:List (Nat×Nat)).toArray[·]?) ([.int .i64 0,.pointer none,.int .i64 0,.int .i64 0,.int .i64 0,.slice none 0 0,.int .i64 0,.slice none 0 0,.slice none 0 0,.bool false,.map none,.int .i64 0,.int .i64 0,.int .i64 0,.slice none 0 0,.int .i64 0,.int .i64 0,.slice none 0 0,.pointer none,.int .i64 0,.int .i64 0,.int .i64 0,.int .i64 0,.int .i64 0,.int .i64 0,.slice none 0 0]:List Value).toArray parts:=dD Tryz.typeInfo87 Tv rfl rfl (.cons rfl (by kernel_rfl) (by kernel_rfl) (.cons rfl (by kernel_rfl) (by kernel_rfl) (.cons rfl (by kernel_rfl) (by kernel_rfl) (.cons rfl (by kernel_rfl) (by kernel_rfl) .nil))))
theorem Xq:∀parts,Tryz.prog.built 110 parts=Instr.fill (([(0,1),(1,1),(2,1)]:List (Nat×Nat)).toArray[·]?) ([.bool false,.bool false,.slice none 0 0]:List Value).toArray parts:=dD ON KY rfl rfl (.cons rfl (by kernel_rfl) (by kernel_rfl) (.cons rfl (by kernel_rfl) (by kernel_rfl) (.cons rfl (by kernel_rfl) (by kernel_rfl) .nil)))
theorem mC:∀parts,Tryz.prog.built 119 parts=Instr.fill (([(0,1),(1,1),(2,1)]:List (Nat×Nat)).toArray[·]?) ([.int .i64 0,.slice none 0 0,.slice none 0 0]:List Value).toArray parts:=dD QX vA rfl rfl (.cons rfl (by kernel_rfl) (by kernel_rfl) (.cons rfl (by kernel_rfl) (by kernel_rfl) (.cons rfl (by kernel_rfl) (by kernel_rfl) .nil)))
theorem rK:∀parts,Tryz.prog.built 146 parts=Instr.fill (([(0,1),(1,1),(2,1)]:List (Nat×Nat)).toArray[·]?) ([.slice none 0 0,.slice none 0 0,.int .i64 0]:List Value).toArray parts:=dD Tryz.typeInfo146 Ll rfl rfl (.cons rfl (by kernel_rfl) (by kernel_rfl) (.cons rfl (by kernel_rfl) (by kernel_rfl) (.cons rfl (by kernel_rfl) (by kernel_rfl) .nil)))
theorem LA:∀parts,Tryz.prog.built 148 parts=Instr.fill (([(0,1),(1,3)]:List (Nat×Nat)).toArray[·]?) ([.int .i64 0,.slice none 0 0,.slice none 0 0,.int .i64 0]:List Value).toArray parts:=dD Tryz.typeInfo148 wN rfl rfl (.cons rfl (by kernel_rfl) (by kernel_rfl) (.cons rfl (by kernel_rfl) (by kernel_rfl) .nil))
theorem Dt:∀parts,Tryz.prog.built 157 parts=Instr.fill (([(0,1),(1,1)]:List (Nat×Nat)).toArray[·]?) ([.int .i64 0,.slice none 0 0]:List Value).toArray parts:=dD QY AA rfl rfl (.cons rfl (by kernel_rfl) (by kernel_rfl) (.cons rfl (by kernel_rfl) (by kernel_rfl) .nil))
theorem wG:∀parts,Tryz.prog.built 204 parts=Instr.fill (([(0,1),(1,8)]:List (Nat×Nat)).toArray[·]?) ([.int .i64 0,.int .u8 0,.int .u8 0,.int .u8 0,.int .u8 0,.int .u8 0,.int .u8 0,.int .u8 0,.int .u8 0]:List Value).toArray parts:=dD Lj Ot rfl rfl (.cons rfl (by kernel_rfl) (by kernel_rfl) (.cons rfl (by kernel_rfl) (by kernel_rfl) .nil))
theorem Du:∀parts,Tryz.prog.built 209 parts=Instr.fill (([(0,1),(1,1),(2,1),(3,8)]:List (Nat×Nat)).toArray[·]?) ([.int .i64 0,.int .i64 0,.int .i64 0,.int .u8 0,.int .u8 0,.int .u8 0,.int .u8 0,.int .u8 0,.int .u8 0,.int .u8 0,.int .u8 0]:List Value).toArray parts:=dD QZ RD rfl rfl (.cons rfl (by kernel_rfl) (by kernel_rfl) (.cons rfl (by kernel_rfl) (by kernel_rfl) (.cons rfl (by kernel_rfl) (by kernel_rfl) (.cons rfl (by kernel_rfl) (by kernel_rfl) .nil))))
theorem LC:∀parts,Tryz.prog.built 238 parts=Instr.fill (([(0,1)]:List (Nat×Nat)).toArray[·]?) ([.slice none 0 0]:List Value).toArray parts:=dD Tryz.typeInfo238 Tryz.runUnderlying238 rfl rfl (.cons rfl (by kernel_rfl) (by kernel_rfl) .nil)
theorem LD:∀parts,Tryz.prog.built 264 parts=Instr.fill (([]:List (Nat×Nat)).toArray[·]?) ([]:List Value).toArray parts:=dD Tryz.typeInfo264 Tryz.runUnderlying264 rfl rfl .nil
theorem LF:∀parts,Tryz.prog.built 266 parts=Instr.fill (([(0,1)]:List (Nat×Nat)).toArray[·]?) ([.pointer none]:List Value).toArray parts:=dD Tryz.typeInfo266 RF rfl rfl (.cons rfl (by kernel_rfl) (by kernel_rfl) .nil)
theorem LG:∀parts,Tryz.prog.built 268 parts=Instr.fill (([(0,1)]:List (Nat×Nat)).toArray[·]?) ([.slice none 0 0]:List Value).toArray parts:=dD Tryz.typeInfo268 RG rfl rfl (.cons rfl (by kernel_rfl) (by kernel_rfl) .nil)
theorem LH:∀parts,Tryz.prog.built 269 parts=Instr.fill (([]:List (Nat×Nat)).toArray[·]?) ([]:List Value).toArray parts:=dD Tryz.typeInfo269 Tryz.runUnderlying269 rfl rfl .nil
theorem LI:∀parts,Tryz.prog.built 296 parts=Instr.fill (([(0,1),(1,1)]:List (Nat×Nat)).toArray[·]?) ([.slice none 0 0,.map none]:List Value).toArray parts:=dD Tryz.typeInfo296 OO rfl rfl (.cons rfl (by kernel_rfl) (by kernel_rfl) (.cons rfl (by kernel_rfl) (by kernel_rfl) .nil))
section aKs
open Go.RowKit Go.Extern.Stop Go.Stop Go.Extern
theorem RL(t:Value)(w:World):Calls Tryz.prog 44 #[.nilIface,t] w fun e w'=>e= .returned (.bool false)/\w'=w:=by
 go_enter Tryz.func44,Tryz.ntmps44
 go_wp2
 go_ret
 exact⟨Y,Y⟩
theorem Xr(t:Addr)(w:World):(ReflectliteValue.unpack (.iface 143 (.pointer (some t)))).run Tryz.prog w
  = .ok (.agg #[.pointer (some ⟨1,143,none⟩),.pointer (some ⟨w.heap.size,0,none⟩),.int .u64 150]) (w.alloc (.cells #[.pointer (some t)] 143)):=by kernel_rfl
theorem LJ(a:Addr)(w:World):(ReflectliteValue.methodAny (ReflectliteValue.valueError "reflectlite.Value.Type" 0) (fun t _ _ _=>ReflectliteType.toType t) #[.agg #[.pointer (some ⟨1,143,none⟩),.pointer (some a),.int .u64 150]]).run Tryz.prog w
  = .ok (.iface 223 (.agg #[.pointer (some ⟨1,143,none⟩)])) w:=by kernel_rfl
theorem Pz(h:Value)(w:World):(Go.method 437 223 (.agg #[h]) "Kind").run Tryz.prog w= .ok (178,h) w:=by kernel_rfl
theorem LK(w:World):((ReflectliteType.abiMethod fun t=>(fun a:Nat=>Value.int IntKind.u8 (a:Int)) <$> Rtype.kind t) #[.pointer (some ⟨1,143,none⟩)]).run Tryz.prog w= .ok (.int .u8 22) w:=by kernel_rfl
theorem LL(w:World):((ReflectliteType.abiMethod fun t=>(fun a:Nat=>Value.int IntKind.u8 (a:Int)) <$> Rtype.kind t) #[.pointer (some ⟨1,26,none⟩)]).run Tryz.prog w= .ok (.int .u8 2) w:=by kernel_rfl
theorem LM(z:Sem Value)(f:TypeId->Addr->Nat->Nat->Sem Value)(v:Value):
  ReflectliteValue.method z f #[v]=(do match<-ReflectliteValue.parts v with | none=>z | some (t,a,fl)=>f t a fl (fl % 32)):=rfl
theorem Rv(a:Addr)(w:World):(ReflectliteValue.parts (.agg #[.pointer (some ⟨1,143,none⟩),.pointer (some a),.int .u64 150])).run Tryz.prog w= .ok (some (143,a,150)) w:=by kernel_rfl
theorem GA(a p:Addr)(W:World)(ha:W.cell? a=some (.pointer (some p))):
  (ReflectliteValue.method (ReflectliteValue.valueError "reflectlite.Value.IsNil" 0) ReflectliteValue.isNil #[.agg #[.pointer (some ⟨1,143,none⟩),.pointer (some a),.int .u64 150]]).run Tryz.prog W= .ok (.bool false) W:=by
 rw[LM];simp only[Sem.run_bind,Rv,Result.andThen];simp[ReflectliteValue.isNil,loadVar,isAgg,underlying,Tryz.underlying143,ha,Result.andThen]
theorem Qa(h:Value)(w:World):(Go.method 437 223 (.agg #[h]) "Elem").run Tryz.prog w= .ok (188,.agg #[h]) w:=by kernel_rfl
theorem Fl(h:Value)(w:World):(Go.method 437 223 (.agg #[h]) "Implements").run Tryz.prog w= .ok (189,.agg #[h]) w:=by kernel_rfl
theorem Cm(h:Value)(w:World):(Go.method 437 223 (.agg #[h]) "AssignableTo").run Tryz.prog w= .ok (186,.agg #[h]) w:=by kernel_rfl
theorem LN(w:World):(ReflectliteType.method ReflectliteType.elem #[.agg #[.pointer (some ⟨1,143,none⟩)]]).run Tryz.prog w= .ok (.iface 223 (.agg #[.pointer (some ⟨1,26,none⟩)])) w:=by kernel_rfl
theorem Ov(w:World):(ReflectliteType.relation "Implements" ReflectliteType.implements_ #[.agg #[.pointer (some ⟨1,26,none⟩)],.iface 223 (.agg #[.pointer (some ⟨1,33,none⟩)])]).run Tryz.prog w= .ok (.bool true) w:=by kernel_rfl
theorem AB(v:Value)(w:World):(ReflectliteType.typeOf #[.iface 26 v]).run Tryz.prog w= .ok (.iface 223 (.agg #[.pointer (some ⟨1,26,none⟩)])) w:=by kernel_rfl
theorem Ow(w:World):(ReflectliteType.relation "AssignableTo" ReflectliteType.assignableTo #[.agg #[.pointer (some ⟨1,26,none⟩)],.iface 223 (.agg #[.pointer (some ⟨1,26,none⟩)])]).run Tryz.prog w= .ok (.bool true) w:=by kernel_rfl
theorem Xs(n:Int)(w:World):(ReflectliteValue.unpack (.iface 26 (.int .i64 n))).run Tryz.prog w
  = .ok (.agg #[.pointer (some ⟨1,26,none⟩),.pointer (some ⟨w.heap.size,0,none⟩),.int .u64 130]) (w.alloc (.cells #[.int .i64 n] 26)):=by kernel_rfl
theorem AD(w:World):(Rtype.elem? 143).run Tryz.prog w= .ok (some 26) w:=by kernel_rfl
theorem RM(p:Addr)(w:World):(ReflectliteValue.mk 26 p ReflectliteValue.flagAddr).run Tryz.prog w= .ok (.agg #[.pointer (some ⟨1,26,none⟩),.pointer (some p),.int .u64 386]) w:=by kernel_rfl
theorem GB(a p:Addr)(W:World)(ha:W.cell? a=some (.pointer (some p))):
  (ReflectliteValue.method (ReflectliteValue.valueError "reflectlite.Value.Elem" 0) ReflectliteValue.elem #[.agg #[.pointer (some ⟨1,143,none⟩),.pointer (some a),.int .u64 150]]).run Tryz.prog W
   = .ok (.agg #[.pointer (some ⟨1,26,none⟩),.pointer (some p),.int .u64 386]) W:=by
 rw[LM];simp only[Sem.run_bind,Rv,Result.andThen];simp[ReflectliteValue.elem,loadVar,isAgg,underlying,Tryz.underlying143,ha,Result.andThen,AD,RM]
theorem RN(v x:Value):ReflectliteValue.set #[v,x]=(do
  let (some (dst,a,fl),some (src,b,_)):=(<-ReflectliteValue.parts v,<-ReflectliteValue.parts x)
   |unsupported (.noEntry "extern/(internal/reflectlite.Value).Set.zeroValue")
  if fl / ReflectliteValue.flagAddr % 2==0 then unsupported (.noEntry "extern/(internal/reflectlite.Value).Set.unaddressable")
  let val<-loadVar src b
  if<-Rtype.directlyAssignable dst src then storeVar dst a val
  else if<-Rtype.implements dst src then
   if (<-Rtype.kind src)==20 then
    match val with
    | .nilIface=>unsupported (.noEntry "extern/reflectlite: a nil value of one interface type handed on as a value of another")
    |_=>storeVar dst a val
   else storeVar dst a (.iface src val)
  else panicString ("reflectlite.Set: value of type "++(<-Rtype.spelt src)++ " is not assignable to type "++(<-Rtype.spelt dst))
  pure (.tuple #[])):=rfl
theorem AE(a:Addr)(w:World):(ReflectliteValue.parts (.agg #[.pointer (some ⟨1,26,none⟩),.pointer (some a),.int .u64 386])).run Tryz.prog w= .ok (some (26,a,386)) w:=by kernel_rfl
theorem GC(a:Addr)(w:World):(ReflectliteValue.parts (.agg #[.pointer (some ⟨1,26,none⟩),.pointer (some a),.int .u64 130])).run Tryz.prog w= .ok (some (26,a,130)) w:=by kernel_rfl
theorem AF(w:World):(Rtype.directlyAssignable 26 26).run Tryz.prog w= .ok true w:=by kernel_rfl
theorem OT(ta b:Addr)(n:Int)(dz:Value)(W:World)(hb:W.cell? b=some (.int .i64 n))(ht:W.cell? ta=some dz)(hf:W.frozen? ta=false):
  (ReflectliteValue.set #[.agg #[.pointer (some ⟨1,26,none⟩),.pointer (some ta),.int .u64 386],.agg #[.pointer (some ⟨1,26,none⟩),.pointer (some b),.int .u64 130]]).run Tryz.prog W
   = .ok (.tuple #[]) (W.setCell ta (.int .i64 n)):=by
 rw[RN];simp only[Sem.run_bind,AE,GC,Result.andThen];simp[ReflectliteValue.flagAddr,loadVar,isAgg,underlying,Tryz.underlying26,hb,Result.andThen,AF,storeVar,Value.cells,storeCells,Addr.add];rw[run_store Tryz.prog W ta _ _ (by rfl)];simp[ht,hf]
set_option maxHeartbeats 4000000 in
theorem RO(n:Int)(t:Addr)(dz:Value)(w:World)(hg:w.cell? ⟨0,0,none⟩=some (.iface 223 (.agg #[.pointer (some ⟨1,33,none⟩)])))(ht0:w.cell? t=some dz)(hf0:w.frozen? t=false):
  Calls Tryz.prog 44 #[.iface 26 (.int .i64 n),.iface 143 (.pointer (some t))] w fun ev w'=>ev= .returned (.bool true)/\w'=((((w.alloc (.cells #[.pointer (some t)] 143)).alloc (.cells #[.pointer (some ⟨1,143,none⟩),.pointer (some ⟨w.heap.size,0,none⟩),.int .u64 150] 174)).alloc (.cells #[.pointer (some ⟨1,143,none⟩),.pointer (some ⟨w.heap.size,0,none⟩),.int .u64 150] 174)).alloc (.cells #[.int .i64 n] 26)).setCell t (.int .i64 n):=by
 have C:= @run_callFunc_extern Tryz.prog 78 _ (fun A=>ReflectliteValue.unpack (A.getD 0 (.tuple #[]))) Tryz.func78 (by kernel_rfl) (by kernel_rfl) (by kernel_rfl) (by kernel_rfl);have D:= @run_callFunc_extern Tryz.prog 79 _ (ReflectliteValue.methodAny (ReflectliteValue.valueError "reflectlite.Value.Type" 0) (fun t _ _ _=>ReflectliteType.toType t)) Tryz.func79 (by kernel_rfl) (by kernel_rfl) (by kernel_rfl) (by kernel_rfl);have E:= @run_callFunc_extern Tryz.prog 80 _ (ReflectliteValue.method (ReflectliteValue.valueError "reflectlite.Value.IsNil" 0) ReflectliteValue.isNil) Tryz.func80 (by kernel_rfl) (by kernel_rfl) (by kernel_rfl) (by kernel_rfl);have F:= @run_callFunc_extern Tryz.prog 178 _ (ReflectliteType.abiMethod fun t=>do pure (.int .u8 (<-Rtype.kind t))) Tryz.func178 (by kernel_rfl) (by kernel_rfl) (by kernel_rfl) (by kernel_rfl);have G:= @run_callFunc_extern Tryz.prog 188 _ (ReflectliteType.method ReflectliteType.elem) Tryz.func188 (by kernel_rfl) (by kernel_rfl) (by kernel_rfl) (by kernel_rfl);have H:= @run_callFunc_extern Tryz.prog 189 _ (ReflectliteType.relation "Implements" ReflectliteType.implements_) Tryz.func189 (by kernel_rfl) (by kernel_rfl) (by kernel_rfl) (by kernel_rfl);have I:= @run_callFunc_extern Tryz.prog 108 _ ReflectliteType.typeOf Tryz.func108 (by kernel_rfl) (by kernel_rfl) (by kernel_rfl) (by kernel_rfl);have K:= @run_callFunc_extern Tryz.prog 186 _ (ReflectliteType.relation "AssignableTo" ReflectliteType.assignableTo) Tryz.func186 (by kernel_rfl) (by kernel_rfl) (by kernel_rfl) (by kernel_rfl);have L:= @run_callFunc_extern Tryz.prog 109 _ (ReflectliteValue.method (ReflectliteValue.valueError "reflectlite.Value.Elem" 0) ReflectliteValue.elem) Tryz.func109 (by kernel_rfl) (by kernel_rfl) (by kernel_rfl) (by kernel_rfl);have M:= @run_callFunc_extern Tryz.prog 110 _ ReflectliteValue.set Tryz.func110 (by kernel_rfl) (by kernel_rfl) (by kernel_rfl) (by kernel_rfl);have N:=AB;have O:=Cm;have P:=Ow;have Q:=Xs;have R:=Xr;have S:=LJ;have T:=Pz;have U:=Qa;have V:=Fl;have X:=LK;have aa:=LL;have ab:=LN;have ac:=Ov;have n8:=GA ⟨w.heap.size,0,none⟩ t ((w.alloc (.cells #[.pointer (some t)] 143)).alloc (.cells #[.pointer (some ⟨1,143,none⟩),.pointer (some ⟨w.heap.size,0,none⟩),.int .u64 150] 174)) (by simp);have z:0<w.heap.size:=by
  rcases aEk w.heap.size with B | h
  ·simp[World.cell?,B] at hg
  ·exact h
 have ad:((w.alloc (.cells #[.pointer (some t)] 143)).alloc (.cells #[.pointer (some ⟨1,143,none⟩),.pointer (some ⟨w.heap.size,0,none⟩),.int .u64 150] 174)).cell? ⟨0,0,none⟩=some (.iface 223 (.agg #[.pointer (some ⟨1,33,none⟩)])):=by
  rw[World.cell?_alloc_lt _ _ ⟨0,0,none⟩ (by simp),World.cell?_alloc_lt _ _ ⟨0,0,none⟩ z];exact hg
 have u:t.block<w.heap.size:=by
  rcases N4 t.block w.heap.size with h | h
  ·exact h
  ·simp[World.cell?,aBv h] at ht0
 have el:=GB ⟨w.heap.size,0,none⟩ t (((w.alloc (.cells #[.pointer (some t)] 143)).alloc (.cells #[.pointer (some ⟨1,143,none⟩),.pointer (some ⟨w.heap.size,0,none⟩),.int .u64 150] 174)).alloc (.cells #[.pointer (some ⟨1,143,none⟩),.pointer (some ⟨w.heap.size,0,none⟩),.int .u64 150] 174)) (by rw[World.cell?_alloc_lt _ _ ⟨w.heap.size,0,none⟩ (by simp;omega)];simp);have st:=OT t ⟨w.heap.size+1+1+1,0,none⟩ n dz ((((w.alloc (.cells #[.pointer (some t)] 143)).alloc (.cells #[.pointer (some ⟨1,143,none⟩),.pointer (some ⟨w.heap.size,0,none⟩),.int .u64 150] 174)).alloc (.cells #[.pointer (some ⟨1,143,none⟩),.pointer (some ⟨w.heap.size,0,none⟩),.int .u64 150] 174)).alloc (.cells #[.int .i64 n] 26))
  (by rw[World.cell?_alloc_at _ _ _ _ (by simp)];rfl)
  (by rw[World.cell?_alloc_lt _ _ t (by simp;omega),World.cell?_alloc_lt _ _ t (by simp;omega),World.cell?_alloc_lt _ _ t (by simp;omega),World.cell?_alloc_lt _ _ t u];exact ht0)
  (by rw[World.frozen?_alloc_old _ _ t (by simp;omega),World.frozen?_alloc_old _ _ t (by simp;omega),World.frozen?_alloc_old _ _ t (by simp;omega),World.frozen?_alloc_old _ _ t (Nat.ne_of_lt u)];exact hf0)
 go_enter Tryz.func44,Tryz.ntmps44
 go_wp2
 refine wp_loop_rounds 1 ?_;rw[rounds_succ]
 go_wp2
 go_ret
 exact⟨Y,Y⟩
end aKs
def GV:Value:= .iface 223 (.agg #[.pointer (some ⟨1,33,none⟩)])
variable {gobj:Obj}
theorem OU(n:Int)(t:Addr)(dz:Value)(w:World)(hg:w.cell? ⟨0,0,none⟩=some GV)(ht0:w.cell? t=some dz)(hf0:w.frozen? t=false):
  Calls Tryz.prog 44 #[.iface 26 (.int .i64 n),.iface 143 (.pointer (some t))] w fun ev w'=>ev= .returned (.bool true)/\∃o1 o2 o3 o4,w'=((((w.alloc o1).alloc o2).alloc o3).alloc o4).setCell t (.int .i64 n):=
 (RO n t dz w hg ht0 hf0).mono fun _ _ h=>⟨h.1,_,_,_,_,h.2⟩
theorem xE{a0 a1 r}(h:lR a0 a1=some r):
 WL Tryz.prog 5 [.v Q0 a0,.v Q0 a1] (.v Q0 r) []:=by
 refine WL.of Tryz.func5 Y Tryz.ntmps5 Y ?_;intro S w A;unfold lR at h;refine aL [0,1] ?_;refine cU [0,1,6] ?_;obtain⟨B,C,h⟩:=fI h;refine tM (fun z:Int=>⟨[(0,.v Q0 z),(1,.v Q0 a1)],[]⟩) (fun x=>B x=some r) Y ?_ ?_ ?_
 ·intro z h;rw[C] at h;obtain⟨E,D,h⟩:=aA h;refine aI (.a 2 ?_);refine .k (kN (.inr Y) (Ei D) Y Y) (.f [4] ?_);cases h;exact aH (aY A dW Y (RV.tmp Y) .nil Y)
 ·intro u;replace h:=iN u h;refine eR (.a 2 ?_);refine .k (Ya Y) (.f [0,1] ?_);exact cB h (aC [])
 ·intro u;replace h:=iO u h;refine aE ?_;exact cB h (aC [])
theorem Dv{a0 a1 r}(h:tX a0 a1=some r):
 WL Tryz.prog 12 [.v mH a0,.v Q0 a1] (.v Q0 r) []:=by
 refine WL.of Tryz.func12 Y Tryz.ntmps12 Y ?_;intro S w u;unfold tX at h;refine aL [0,1] ?_;refine cU [0,1,7] ?_;refine aU h Y (fun z h=>?_) (fun z h=>?_)
 ·refine aL [4] ?_;cases h;exact aH (aY u dW Y (RV.tmp Y) .nil Y)
 refine aE ?_;refine aG ?_;obtain⟨E,A,h⟩:=aA h;obtain⟨F,B,h⟩:=aA h;obtain⟨G,C,h⟩:=aA h;obtain⟨H,D,h⟩:=aA h;refine eF 15 mixed (by exact(.k (aD Y) (.k (aD Y) (.k (aD Y) (.k (tL Y xD) (.k (kN (.inr Y) (Ei A) Y Y) (.k (pK B Y Y xD S3) (.k (cG Y G3 S3) (.k (aN (xE C) C5 (.cons (.dir Y) (.cons (.dir Y) .nil))) (.k (aD Y) (.k (aD Y) (.k (tL Y xD) (.k (kN (.inl Y) (Ei D) Y Y) (.k (cY Y Y Y) (.k (cY Y Y Y) (.k (bQ Y) .nil)))))))))))))))) (by exact(J.kp [4] [])) ?_;cases h;exact aH (aY u dW Y (RV.tmp Y) .nil Y)
theorem zD{a0 a1 r}(h:kO a0 a1=some r):
 WL Tryz.prog 15 [.v mH a0,.v Q0 a1] (.v aM r) []:=by
 refine WL.of Tryz.func15 Y Tryz.ntmps15 Y ?_;intro S w B;unfold kO at h;refine aI (.k (aO 101 By Y (.cons (Z.arr 8 (Z.int .u8)) .nil) Y) (.f [0,1,4] ?_));refine aI (.k (dH (e:=aM) (v:=aR) Bx vZ I5 Y Y (Z.arr 8 (Z.int .u8))) (.k (aO 102 By Y (.cons (Z.arr 8 (Z.int .u8)) .nil) Y) (.f [0,1,4,5] ?_)));obtain⟨Q,I,h⟩:=aA h;refine aI (.a 2 ?_);refine .k (aN (Dv I) Tryz.call12 (.cons (.dir Y) (.cons (.dir Y) .nil))) (.f [0,1,4,5,6] ?_);refine jO (.a 1 ?_);refine .k (kN (.inr Y) (by decide) Y Y) (.f [0,1,4,5,6,14] ?_);refine aU h Y (fun G h=>?_) (fun G h=>?_)
 ·refine aL [4] ?_;refine aH ?_;obtain rfl:=pT h;exact cA (σ':=⟨[(4,.ptr 90 0)],[(90,.box 28 [.v aM aR])]⟩) (aC [(90,101)]) (aY B dW Y (cO Y Y Y uS kR) .nil Y)
 refine aE ?_;obtain⟨R,D,h⟩:=aA h;refine aI (.a 1 ?_);refine .k (kN (.inl Y) (by decide) Y Y) (.k (kN (.inr Y) (by decide) Y Y) ?_);refine .a 2 ?_;refine .k (rO D Y Y Y Y vZ S5) (.t (Dg (dK D).2.2 Y Y Y Y S5) (.f [0,1,4,5,6] ?_));refine jO (.a 1 ?_);refine .k (kN (.inr Y) (by decide) Y Y) (.f [0,1,4,5,24] ?_);obtain⟨K,L,h⟩:=fI h;refine tM (fun u:aQ=>⟨[(4,.ptr 101 0),(5,.ptr 102 0)],[(101,.box 28 [.v aM aR]),(102,.box 28 [.v aM u])]⟩) (fun x=>K x=some r) Y ?_ ?_ ?_
 ·intro u h;rw[L] at h;refine aL [4] ?_;refine aH ?_;obtain rfl:=pT h;exact cA (σ':=⟨[(4,.ptr 90 0)],[(90,.box 28 [.v aM u])]⟩) (aC [(90,101)]) (aY B dW Y (cO Y Y Y uS kR) .nil Y)
 ·intro z;replace h:=iN z h;refine aL [0,1,4,5,7] ?_;obtain⟨T,M,N,U⟩:=cF h;refine iZ (σs:=fun A:Int×aQ=>⟨[(0,.v mH a0),(1,.v Q0 a1),(4,.ptr 101 0),(5,.ptr 102 0),(7,.v Q0 A.1)],[(101,.box 28 [.v aM aR]),(102,.box 28 [.v aM A.2])]⟩) (fun C:aQ=>⟨[(4,.ptr 101 0),(5,.ptr 102 0)],[(101,.box 28 [.v aM aR]),(102,.box 28 [.v aM C])]⟩) M (aC []) ?_ ?_
  ·intro C F;have h:=N _ F;exact cB h (aC [])
  intro A P h;refine cU [0,1,4,5,7,26] ?_;refine aU h Y (fun H h=>?_) (fun H h=>?_)
  ·refine aE ?_;refine aG ?_;refine bR ?_;obtain⟨V,O,h⟩:=aA h;obtain⟨X,E,h⟩:=aA h;refine eR (.a 5 ?_);refine .k (aN (Dv O) Tryz.call12 (.cons (.dir Y) (.cons (.dir Y) .nil))) (.k (kN (.inl Y) (by decide) Y Y) ?_);refine .a 1 ?_;refine .k (rO E Y Y Y Y vZ S5) (.t (Dg (dK E).2.2 Y Y Y Y S5) (.f [0,1,4,5,7] ?_));refine aZ ?_;refine dS [0,1,4,5,7] ?_;cases h;exact cE (aC [])
  cases h;exact cX (dJ (aC []))
 ·intro z;replace h:=iO z h;refine aE ?_;exact cB h (aC [])
theorem Gz{a0 a1 a2 a3 r}(h:lK a0 a1 a2 a3=some r):
 WL Tryz.prog 6 [.v mH a0,.v Q0 a1,.v Q0 a2,.v Q0 a3] (.v (Wr.sl Q9) r) []:=by
 refine WL.of Tryz.func6 Y Tryz.ntmps6 Y ?_;intro S w L;unfold lK at h;refine aI (.k (aS 101 41 Q9) (.f [0,1,2,3] ?_));refine aI (.k (aS 102 41 Q9) (.f [0,1,2,3,9] ?_));refine cU [0,1,2,3,9,10] ?_;obtain⟨bk,an,ap,bl⟩:=cF h;refine iZ (σs:=fun z:Int×(List (Int×Int×Int×aQ))=>⟨[(0,.v mH a0),(1,.v Q0 a1),(2,.v Q0 a2),(3,.v Q0 a3),(9,.ref 134),(10,.v Q0 z.1)],[(134,.arr 41 Q9 z.2)]⟩) (fun F:(List (Int×Int×Int×aQ))=>⟨[(9,.ref 134)],[(134,.arr 41 Q9 F)]⟩) an (aC [(134,102)]) ?_ ?_
 ·intro F M;have h:=ap _ M;refine aL [8] ?_;cases h;exact aH (wC L dW Y (aC []))
 intro z A h;refine cU [0,1,2,3,9,10,15] ?_;refine aU h Y (fun N h=>?_) (fun N h=>?_)
 ·refine aE ?_;refine aG ?_;refine bR ?_;obtain⟨u,aq,h⟩:=aA h;refine aI (.a 4 ?_);refine .k (aN (Dv aq) Tryz.call12 (.cons (.dir Y) (.cons (.dir Y) .nil))) (.f [0,1,2,3,9,10,11] ?_);obtain⟨bm,au,h⟩:=aA h;refine aI (.a 1 ?_);refine .k (kN (.inl Y) (by decide) Y Y) ?_;refine .a 1 ?_;refine .k (kN (.inr Y) (Ei au) Y Y) ?_;refine .a 1 ?_;refine .k (kN (.inl Y) (by decide) Y Y) (.k (kN (.inr Y) (by decide) Y Y) (.k (bP OQ (.cons (Z.int .i64) (.cons (Z.int .i64) (.cons (Z.int .i64) (.cons (Z.arr 8 (Z.int .u8)) .nil)))) (.cons Y (.dir Y) Y Y Y Y (.cons Y (.dir Y) Y Y Y Y .nil))) (.k (aO 150 FZ Y (.cons (Z.int .i64) (.cons (Z.int .i64) (.cons (Z.int .i64) (.cons (Z.arr 8 (Z.int .u8)) .nil)))) Y) (.f [0,1,2,3,9,10,11,12] ?_))));refine jO (.a 1 ?_);refine .k (kN (.inr Y) (by decide) Y Y) (.f [0,1,2,3,9,10,11,12,32] ?_);refine bR ?_;refine cU [0,1,2,3,9,10,11,12,32,38] ?_;obtain⟨jv,av,h⟩:=fI h;refine tM (fun G:Bool=>⟨[(0,.v mH a0),(1,.v Q0 a1),(2,.v Q0 a2),(3,.v Q0 a3),(9,.ref 134),(10,.v Q0 z.1),(11,.v Q0 u),(12,.ptr 150 0),(32,.v Q0 (ar .rem .i64 u (20:Int))),(38,.v Wr.bool G)],[(134,.arr 41 Q9 z.2),(150,.box 41 [.v Q0 (0:Int),.v Q0 (ar .rem .i64 (ar .quo .i64 u (40:Int)) a3),.v Q0 (ar .rem .i64 (ar .quo .i64 u (7:Int)) (90:Int)),.v aM aR])]⟩) (fun x=>jv x=some A) Y ?_ ?_ ?_
  ·intro G h;rw[av] at h;refine aU h Y (fun O h=>?_) (fun O h=>?_)
   ·refine aL [0,1,2,3,9,10,12] ?_;obtain⟨bn,a4,h⟩:=aA h;refine eR (.a 5 ?_);refine .k (aN (zD a4) Tryz.call15 (.cons (.dir Y) (.cons (.dir Y) .nil))) (.f [0,1,2,3,9,10,12] ?_);refine aZ ?_;obtain⟨bs,a5,h⟩:=aA h;refine eR (.a 1 ?_);refine .k (aT Y Y (.VS sO (.VS sO (.VS sO sO))) CO Cz) (.k (dM (e:=Q9) Px Cz FZ Y Y Y Y (.cons (.dir Y) .nil)) (.t (bU 152 a5 Y Y (.sl Y) Px KV Cz Y Y Y Y Y) (.f [0,1,2,3,9,10] ?_)));refine aZ ?_;refine dS [0,1,2,3,9,10] ?_;cases h;exact cE (aC [(134,152)])
   refine aL [0,1,2,3,9,10,11,12,32,52] ?_;refine aU h Y (fun P h=>?_) (fun P h=>?_)
   ·refine dS [0,1,2,3,9,10,12] ?_;refine aZ ?_;obtain⟨bt,a6,h⟩:=aA h;refine eR (.a 1 ?_);refine .k (aT Y Y (.VS sO (.VS sO (.VS sO sO))) CO Cz) (.k (dM (e:=Q9) Px Cz FZ Y Y Y Y (.cons (.dir Y) .nil)) (.t (bU 153 a6 Y Y (.sl Y) Px KV Cz Y Y Y Y Y) (.f [0,1,2,3,9,10] ?_)));refine aZ ?_;refine dS [0,1,2,3,9,10] ?_;cases h;exact cE (aC [(134,153)])
   refine aL [0,1,2,3,9,10,11,12,32,55] ?_;refine aU h Y (fun Q h=>?_) (fun Q h=>?_)
   ·refine dS [0,1,2,3,9,10,12] ?_;refine aZ ?_;obtain⟨bu,a7,h⟩:=aA h;refine eR (.a 1 ?_);refine .k (aT Y Y (.VS sO (.VS sO (.VS sO sO))) CO Cz) (.k (dM (e:=Q9) Px Cz FZ Y Y Y Y (.cons (.dir Y) .nil)) (.t (bU 154 a7 Y Y (.sl Y) Px KV Cz Y Y Y Y Y) (.f [0,1,2,3,9,10] ?_)));refine aZ ?_;refine dS [0,1,2,3,9,10] ?_;cases h;exact cE (aC [(134,154)])
   refine cU [0,1,2,3,9,10,11,12,32,58] ?_;obtain⟨sr,a8,h⟩:=fI h;refine tM (fun H:Bool=>⟨[(0,.v mH a0),(1,.v Q0 a1),(2,.v Q0 a2),(3,.v Q0 a3),(9,.ref 134),(10,.v Q0 z.1),(11,.v Q0 u),(12,.ptr 150 0),(32,.v Q0 (ar .rem .i64 u (20:Int))),(58,.v Wr.bool H)],[(134,.arr 41 Q9 z.2),(150,.box 41 [.v Q0 (0:Int),.v Q0 (ar .rem .i64 (ar .quo .i64 u (40:Int)) a3),.v Q0 (ar .rem .i64 (ar .quo .i64 u (7:Int)) (90:Int)),.v aM aR])]⟩) (fun x=>sr x=some A) Y ?_ ?_ ?_
   ·intro H h;rw[a8] at h;refine aU h Y (fun R h=>?_) (fun R h=>?_)
    ·refine dS [0,1,2,3,9,10,12] ?_;refine aZ ?_;obtain⟨bv,a9,h⟩:=aA h;refine eR (.a 1 ?_);refine .k (aT Y Y (.VS sO (.VS sO (.VS sO sO))) CO Cz) (.k (dM (e:=Q9) Px Cz FZ Y Y Y Y (.cons (.dir Y) .nil)) (.t (bU 155 a9 Y Y (.sl Y) Px KV Cz Y Y Y Y Y) (.f [0,1,2,3,9,10] ?_)));refine aZ ?_;refine dS [0,1,2,3,9,10] ?_;cases h;exact cE (aC [(134,155)])
    refine cU [0,1,2,3,9,10,11,12,32,63] ?_;obtain⟨sq,ba,h⟩:=fI h;refine tM (fun I:Bool=>⟨[(0,.v mH a0),(1,.v Q0 a1),(2,.v Q0 a2),(3,.v Q0 a3),(9,.ref 134),(10,.v Q0 z.1),(11,.v Q0 u),(12,.ptr 150 0),(32,.v Q0 (ar .rem .i64 u (20:Int))),(63,.v Wr.bool I)],[(134,.arr 41 Q9 z.2),(150,.box 41 [.v Q0 (0:Int),.v Q0 (ar .rem .i64 (ar .quo .i64 u (40:Int)) a3),.v Q0 (ar .rem .i64 (ar .quo .i64 u (7:Int)) (90:Int)),.v aM aR])]⟩) (fun x=>sq x=some A) Y ?_ ?_ ?_
    ·intro I h;rw[ba] at h;refine aU h Y (fun T h=>?_) (fun T h=>?_)
     ·refine dS [0,1,2,3,9,10,12] ?_;refine aZ ?_;obtain⟨bw,bb,h⟩:=aA h;refine eR (.a 1 ?_);refine .k (aT Y Y (.VS sO (.VS sO (.VS sO sO))) CO Cz) (.k (dM (e:=Q9) Px Cz FZ Y Y Y Y (.cons (.dir Y) .nil)) (.t (bU 156 bb Y Y (.sl Y) Px KV Cz Y Y Y Y Y) (.f [0,1,2,3,9,10] ?_)));refine aZ ?_;refine dS [0,1,2,3,9,10] ?_;cases h;exact cE (aC [(134,156)])
     refine cU [0,1,2,3,9,10,11,12,32,68] ?_;obtain⟨sm,bd,h⟩:=fI h;refine tM (fun K:Bool=>⟨[(0,.v mH a0),(1,.v Q0 a1),(2,.v Q0 a2),(3,.v Q0 a3),(9,.ref 134),(10,.v Q0 z.1),(11,.v Q0 u),(12,.ptr 150 0),(32,.v Q0 (ar .rem .i64 u (20:Int))),(68,.v Wr.bool K)],[(134,.arr 41 Q9 z.2),(150,.box 41 [.v Q0 (0:Int),.v Q0 (ar .rem .i64 (ar .quo .i64 u (40:Int)) a3),.v Q0 (ar .rem .i64 (ar .quo .i64 u (7:Int)) (90:Int)),.v aM aR])]⟩) (fun x=>sm x=some A) Y ?_ ?_ ?_
     ·intro K h;rw[bd] at h;refine aU h Y (fun U h=>?_) (fun U h=>?_)
      ·refine aL [0,1,2,3,9,10,11,12] ?_;refine eR (.a 1 ?_);refine .k (kN (.inl Y) (by decide) Y Y) (.k (kN (.inr Y) (by decide) Y Y) (.f [0,1,2,3,9,10,12] ?_));refine aZ ?_;obtain⟨bx,be,h⟩:=aA h;refine eR (.a 1 ?_);refine .k (aT Y Y (.VS sO (.VS sO (.VS sO sO))) CO Cz) (.k (dM (e:=Q9) Px Cz FZ Y Y Y Y (.cons (.dir Y) .nil)) (.t (bU 157 be Y Y (.sl Y) Px KV Cz Y Y Y Y Y) (.f [0,1,2,3,9,10] ?_)));refine aZ ?_;refine dS [0,1,2,3,9,10] ?_;cases h;exact cE (aC [(134,157)])
      refine aL [0,1,2,3,9,10,11,12,32,77] ?_;refine aU h Y (fun V h=>?_) (fun V h=>?_)
      ·refine aL [0,1,2,3,9,10,11,12] ?_;refine eR (.a 1 ?_);refine .k (kN (.inl Y) (by decide) Y Y) (.k (kN (.inr Y) (by decide) Y Y) (.f [0,1,2,3,9,10,12] ?_));refine aZ ?_;obtain⟨bA,bf,h⟩:=aA h;refine eR (.a 1 ?_);refine .k (aT Y Y (.VS sO (.VS sO (.VS sO sO))) CO Cz) (.k (dM (e:=Q9) Px Cz FZ Y Y Y Y (.cons (.dir Y) .nil)) (.t (bU 158 bf Y Y (.sl Y) Px KV Cz Y Y Y Y Y) (.f [0,1,2,3,9,10] ?_)));refine aZ ?_;refine dS [0,1,2,3,9,10] ?_;cases h;exact cE (aC [(134,158)])
      refine aL [0,1,2,3,9,10,11,12,32,84] ?_;refine aU h Y (fun X h=>?_) (fun X h=>?_)
      ·refine aL [0,1,2,3,9,10,11,12] ?_;refine eR (.a 1 ?_);refine .k (kN (.inl Y) (by decide) Y Y) (.k (kN (.inr Y) (by decide) Y Y) (.f [0,1,2,3,9,10,12] ?_));refine aZ ?_;obtain⟨bB,bg,h⟩:=aA h;refine eR (.a 1 ?_);refine .k (aT Y Y (.VS sO (.VS sO (.VS sO sO))) CO Cz) (.k (dM (e:=Q9) Px Cz FZ Y Y Y Y (.cons (.dir Y) .nil)) (.t (bU 159 bg Y Y (.sl Y) Px KV Cz Y Y Y Y Y) (.f [0,1,2,3,9,10] ?_)));refine aZ ?_;refine dS [0,1,2,3,9,10] ?_;cases h;exact cE (aC [(134,159)])
      refine aL [0,1,2,3,9,10,11,12,91] ?_;refine aU h Y (fun aa h=>?_) (fun aa h=>?_)
      ·refine aL [0,1,2,3,9,10,11,12] ?_;refine aI (.a 1 ?_);refine .k (kN (.inl Y) (by decide) Y Y) (.k (kN (.inr Y) (by decide) Y Y) (.f [0,1,2,3,9,10,12] ?_));obtain⟨bC,bh,h⟩:=aA h;refine eR (.a 5 ?_);refine .k (aN (zD bh) Tryz.call15 (.cons (.dir Y) (.cons (.dir Y) .nil))) (.f [0,1,2,3,9,10,12] ?_);refine aZ ?_;obtain⟨bD,bi,h⟩:=aA h;refine eR (.a 1 ?_);refine .k (aT Y Y (.VS sO (.VS sO (.VS sO sO))) CO Cz) (.k (dM (e:=Q9) Px Cz FZ Y Y Y Y (.cons (.dir Y) .nil)) (.t (bU 161 bi Y Y (.sl Y) Px KV Cz Y Y Y Y Y) (.f [0,1,2,3,9,10] ?_)));refine aZ ?_;refine dS [0,1,2,3,9,10] ?_;cases h;exact cE (aC [(134,161)])
      refine eR (.a 1 ?_);refine .k (kN (.inl Y) (by decide) Y Y) (.k (kN (.inr Y) (by decide) Y Y) (.f [0,1,2,3,9,10,12] ?_));refine aZ ?_;obtain⟨bE,bj,h⟩:=aA h;refine eR (.a 1 ?_);refine .k (aT Y Y (.VS sO (.VS sO (.VS sO sO))) CO Cz) (.k (dM (e:=Q9) Px Cz FZ Y Y Y Y (.cons (.dir Y) .nil)) (.t (bU 162 bj Y Y (.sl Y) Px KV Cz Y Y Y Y Y) (.f [0,1,2,3,9,10] ?_)));refine aZ ?_;refine dS [0,1,2,3,9,10] ?_;cases h;exact cE (aC [(134,162)])
     ·intro B;replace h:=iN B h;refine aE ?_;exact cB h (aC [])
     ·intro B;replace h:=iO B h;refine aL [0,1,2,3,9,10,11,12,32,68] ?_;refine aU h Y (fun ab h=>?_) (fun ab h=>?_)
      ·refine aE ?_;exact cB h (aC [])
      refine dS [0,1,2,3,9,10,11,12,32,68] ?_;exact cB h (aC [])
    ·intro C;replace h:=iN C h;refine aE ?_;exact cB h (aC [])
    ·intro C;replace h:=iO C h;refine aL [0,1,2,3,9,10,11,12,32,63] ?_;refine aU h Y (fun ac h=>?_) (fun ac h=>?_)
     ·refine aE ?_;exact cB h (aC [])
     refine dS [0,1,2,3,9,10,11,12,32,63] ?_;exact cB h (aC [])
   ·intro D;replace h:=iN D h;refine aE ?_;exact cB h (aC [])
   ·intro D;replace h:=iO D h;refine aL [0,1,2,3,9,10,11,12,32,58] ?_;refine aU h Y (fun ad h=>?_) (fun ad h=>?_)
    ·refine aE ?_;exact cB h (aC [])
    refine dS [0,1,2,3,9,10,11,12,32,58] ?_;exact cB h (aC [])
  ·intro E;replace h:=iN E h;refine aE ?_;exact cB h (aC [])
  ·intro E;replace h:=iO E h;refine aL [0,1,2,3,9,10,11,12,32,38] ?_;refine aU h Y (fun af h=>?_) (fun af h=>?_)
   ·refine aE ?_;exact cB h (aC [])
   refine aL [0,1,2,3,9,10,11,12,32,38] ?_;refine aU h Y (fun ah h=>?_) (fun ah h=>?_)
   ·refine aE ?_;exact cB h (aC [])
   refine aL [0,1,2,3,9,10,11,12,32,38] ?_;refine aU h Y (fun am h=>?_) (fun am h=>?_)
   ·refine aE ?_;exact cB h (aC [])
   refine dS [0,1,2,3,9,10,11,12,32,38] ?_;exact cB h (aC [])
 cases h;exact cX (dJ (aC []))
theorem Dw{a0 r}(h:rU a0=some r):
 WL Tryz.prog 97 [.v Q0 a0] (.WU [.v Q0 r.1,.v Q8 r.2]) []:=by
 refine WL.of Tryz.func97 Y Tryz.ntmps97 Y ?_;intro S w z;unfold rU at h;refine aL [0] ?_;refine aG ?_;refine aG ?_;obtain⟨C,u,h⟩:=aA h;refine eU (σ':=⟨[(0,.v Q0 a0),(9,.v Wr.bool C)],[]⟩) ?_ ?_
 ·refine cd u (fun A u=>?_) (fun A u=>?_)
  ·cases u;exact jy
  cases u;exact jy
 refine aU h Y (fun B h=>?_) (fun B h=>?_)
 ·refine aL [2,3] ?_;cases h;exact aH (bS z dW Y (RV.tmp Y) (RV.tmp Y) .nil Y)
 refine aE ?_;refine aL [2,3] ?_;cases h;exact aH (bS z dW Y (RV.tmp Y) (RV.tmp Y) .nil Y)
theorem Ty{a0 r}(h:xU a0=some r):
 WL Tryz.prog 98 [.v Q0 a0] (.WU [.v Q2 r.1,.v Q8 r.2]) []:=by
 refine WL.of Tryz.func98 Y Tryz.ntmps98 Y ?_;intro S w z;unfold xU at h;refine aI (.k (aO 101 Tw Y (.cons (Z.sl aM) (.cons (Z.sl Q5) (.cons (Z.int .i64) .nil))) Y) (.f [0,2] ?_));refine aG ?_;refine aG ?_;obtain⟨C,u,h⟩:=aA h;refine eU (σ':=⟨[(0,.v Q0 a0),(2,.ptr 101 0),(9,.v Wr.bool C)],[(101,.box 146 [.v Q7 ([]:iM),.v Q1 ([]:Q6),.v Q0 (0:Int)])]⟩) ?_ ?_
 ·refine cd u (fun A u=>?_) (fun A u=>?_)
  ·cases u;exact jy
  cases u;exact jy
 refine aU h Y (fun B h=>?_) (fun B h=>?_)
 ·refine aI (.k (bP rK (.cons (Z.sl aM) (.cons (Z.sl Q5) (.cons (Z.int .i64) .nil))) .nil) (.f [2,3] ?_));refine aH ?_;obtain rfl:=pT h;exact cA (σ':=⟨[(2,.ptr 90 0),(3,.v Q8 (some (1:Int)))],[(90,.box 146 [.v Q7 ([]:iM),.v Q1 ([]:Q6),.v Q0 (0:Int)])]⟩) (aC [(90,101)]) (bS z dW Y (aV Y Y (.VS sO (.VS sO sO)) sF lG) (RV.tmp Y) .nil Y)
 refine aE ?_;obtain⟨D,E,h⟩:=aA h;refine aI (.a 1 ?_);refine .k (Yb 102 E Y Y Ka Bx kR Y Y (Z.arr 8 (Z.int .u8))) (.k (bP rK (.cons (Z.sl aM) (.cons (Z.sl Q5) (.cons (Z.int .i64) .nil))) (.cons Y (.dir Y) Y Y Y Y (.cons Y (.dir Y) Y Y Y Y .nil))) (.f [2,3] ?_));refine aH ?_;obtain rfl:=pT h;exact cA (σ':=⟨[(2,.ptr 90 0),(3,.v Q8 (none:Option Int))],[(90,.box 146 [.v Q7 D,.v Q1 ([]:Q6),.v Q0 (-1:Int)])]⟩) (aC [(90,101)]) (bS z dW Y (aV Y Y (.VS sO (.VS sO sO)) sF lG) (RV.tmp Y) .nil Y)
theorem Kc{a0 r}(h:rC a0=some r):
 WL Tryz.prog 56 [.v Q0 a0] (.WU [.v Q2 r.1,.v Q8 r.2]) []:=by
 refine WL.of Tryz.func56 Y Tryz.ntmps56 Y ?_;intro S w z;unfold rC at h;refine aI (.k (aO 101 Tw Y (.cons (Z.sl aM) (.cons (Z.sl Q5) (.cons (Z.int .i64) .nil))) Y) (.f [0,2] ?_));obtain⟨B,C,h⟩:=aA h;refine aI (.a 1 ?_);refine .k (aN (Dw C) Tryz.call97 (.cons (.dir Y) .nil)) (.f [2,4,5] ?_);refine cU [2,4,5,12] ?_;refine aU h Y (fun A h=>?_) (fun A h=>?_)
 ·refine aI (.k (bP rK (.cons (Z.sl aM) (.cons (Z.sl Q5) (.cons (Z.int .i64) .nil))) .nil) (.f [2,3] ?_));refine aH ?_;obtain rfl:=pT h;exact cA (σ':=⟨[(2,.ptr 90 0),(3,.v Q8 B.2)],[(90,.box 146 [.v Q7 ([]:iM),.v Q1 ([]:Q6),.v Q0 (0:Int)])]⟩) (aC [(90,101)]) (bS z dW Y (aV Y Y (.VS sO (.VS sO sO)) sF lG) (RV.tmp Y) .nil Y)
 refine aE ?_;obtain⟨u,D,h⟩:=aA h;refine aI (.a 1 ?_);refine .k (aN (Ty D) Tryz.call98 (.cons (.dir Y) .nil)) ?_;refine .a 2 ?_;refine .t (bT Y Y Y Y (.VS sO (.VS sO sO)) lG) (.f [2,3] ?_);refine aH ?_;obtain rfl:=pT h;exact cA (σ':=⟨[(2,.ptr 90 0),(3,.v Q8 u.2)],[(90,.box 146 [.v Q7 u.1.1,.v Q1 u.1.2.1,.v Q0 u.1.2.2])]⟩) (aC [(90,101)]) (bS z dW Y (aV Y Y (.VS sO (.VS sO sO)) sF lG) (RV.tmp Y) .nil Y)
theorem Kd{a0 a1 r}(h:lS a0 a1=some r):
 WL Tryz.prog 128 [.v Q5 a0,.YI Q2 a1] (.v Wr.bool r) []:=by
 refine WL.of Tryz.func128 Y Tryz.ntmps128 Y ?_;intro S w A;unfold lS at h;refine aI (.k (cL 101 Y (.VS sO sO) Y) (.f [1,2] ?_));refine aG ?_;obtain⟨B,u,h⟩:=aA h;refine eU (σ':=⟨[(3,.v Wr.bool B)],[]⟩) ?_ ?_
 ·refine cd u (fun z u=>?_) (fun z u=>?_)
  ·cases u;exact jy
  cases u;refine ja 6 ?_;exact(J.g z (fB Y Ll Y yI Y (.fst .here) Y) jy)
 cases h;exact aH (aY A dW Y (RV.tmp Y) .nil Y)
theorem mD{a0 XW r}(h:dN a0 XW=some r):
 WL Tryz.prog 154 [.v Q1 a0,.j2 128 [.YI Q2 XW]] (.v Q0 r) []:=by
 refine WL.of Tryz.func154 Y Tryz.ntmps154 Y ?_;intro S w u;unfold dN at h;refine aL [0,1] ?_;refine cU [0,1,7,8] ?_;obtain⟨L,F,G,H⟩:=cF h;refine iZ (σs:=fun z:Int=>⟨[(0,.v Q1 a0),(1,.j2 128 [.YI Q2 XW]),(7,.v Q0 (a0.length:Int)),(8,.v Q0 z)],[]⟩) (fun A:Unit=>⟨[],[]⟩) F (aC []) ?_ ?_
 ·intro A B;have h:=G _ B;refine aL [4] ?_;cases h;exact aH (aY u dW Y (RV.tmp Y) .nil Y)
 intro z K h;refine aL [0,1,7,8,9] ?_;refine aG ?_;refine aU h Y (fun C h=>?_) (fun C h=>?_)
 ·refine aE ?_;refine aG ?_;refine bR ?_;refine aL [0,1,5,7,8] ?_;obtain⟨M,N,h⟩:=aA h;obtain⟨O,I,h⟩:=aA h;refine aI (.a 5 ?_);refine .k (tW Y (Kd I) Tryz.call128 (.cons (.dir Y) .nil)) (.f [0,1,5,7,8,16] ?_);refine aU h Y (fun D h=>?_) (fun D h=>?_)
  ·refine aL [4] ?_;refine aH ?_;refine eI ?_;cases h;refine gC fun E=>?_;obtain rfl:=H _ E;exact aY u dW Y (RV.tmp Y) .nil Y
  refine aE ?_;refine aZ ?_;refine dS [0,1,7,8] ?_;cases h;exact cE (aC [])
 cases h;exact cX (dJ (aC []))
theorem kW{a0 XW r}(h:cJ a0 XW=some r):
 WL Tryz.prog 127 [.v Q1 a0,.j2 128 [.YI Q2 XW]] (.v Wr.bool r) []:=by
 refine WL.of Tryz.func127 Y Tryz.ntmps127 Y ?_;intro S w u;unfold cJ at h;refine aL [0,1] ?_;obtain⟨A,z,h⟩:=aA h;refine aI (.a 2 ?_);refine .k (aN (mD z) Tryz.call154 (.cons (.dir Y) (.cons (.dir Y) .nil))) (.f [4] ?_);cases h;exact aH (aY u dW Y (RV.tmp Y) .nil Y)
theorem uT{a0 r}(h:mU a0=some r):
 WL Tryz.prog 99 [.v Q2 a0] (.v Q8 r) []:=by
 refine WL.of Tryz.func99 Y Tryz.ntmps99 Y ?_;intro S w z;unfold mU at h;refine aI (.k (cL 101 Y (.VS sO (.VS sO sO)) Y) (.f [1] ?_));refine aG ?_;refine aG ?_;obtain⟨E,u,h⟩:=aA h;refine eU (σ':=⟨[(1,.ptr 101 0),(18,.v Wr.bool E)],[(101,.box 146 [.v Q7 a0.1,.v Q1 a0.2.1,.v Q0 a0.2.2])]⟩) ?_ ?_
 ·refine cd u (fun A u=>?_) (fun A u=>?_)
  ·cases u;exact jy
  refine cd u (fun B u=>?_) (fun B u=>?_)
  ·cases u;exact jy
  cases u;exact jy
 refine aU h Y (fun C h=>?_) (fun C h=>?_)
 ·refine aL [2] ?_;cases h;exact aH (aY z dW Y (RV.tmp Y) .nil Y)
 refine aE ?_;obtain⟨G,F,h⟩:=aA h;refine jO (.a 2 ?_);refine .k (tV (.cons (.dir Y) .nil)) (.k (rR (kW F) Tryz.call127 (.cons (.dir Y) (.cons (.aNi Y (.ptr Y (.VS sO (.VS sO sO)) .nil)) .nil)) YF.v) (.f [23] ?_));refine aU h Y (fun D h=>?_) (fun D h=>?_)
 ·refine aL [2] ?_;cases h;exact aH (aY z dW Y (RV.tmp Y) .nil Y)
 refine aE ?_;refine aL [2] ?_;cases h;exact aH (aY z dW Y (RV.tmp Y) .nil Y)
theorem qK{a0 r}(h:kC a0=some r):
 WL Tryz.prog 94 [.v (Wr.J4 aM) a0] (.ref 0) [(0,.arr 28 aM r)]:=by
 refine WL.of Tryz.func94 Y Tryz.ntmps94 Y ?_;intro S w u;unfold kC at h;refine aI (.k (aS 101 28 aM) (.f [0] ?_));refine jO (.a 1 ?_);refine .k (xN Y Ka) (.f [0,4] ?_);refine aU h Y (fun z h=>?_) (fun z h=>?_)
 ·refine aI (.k (aS 102 28 aM) (.f [2] ?_));cases h;exact aH (wC u dW Y (aC [(0,102)]))
 refine aE ?_;obtain⟨B,A,h⟩:=aA h;refine aI (.k (rP (e:=aM) 103 Ka kR By Y Y Y Y .nil) ?_);refine .a 1 ?_;refine .t (bU 104 A Y Y (.J4 Y) Ka Bx kR Y Y Y Y Y) (.f [2] ?_);cases h;exact aH (wC u dW Y (aC [(0,104)]))
theorem cQ{a0:iM}{r:iM}(h:aP a0=some r):
  WL Tryz.prog 94 [.v Q7 a0] (.ref 0) [(0,.arr 28 aM r)]:=
 rS fun b u=>qK (by cases b with | true=>rw[u rfl] at h ⊢;exact h | false=>exact El h)
theorem tB{a0 r}(h:fU a0=some r):
 WL Tryz.prog 120 [.v Q1 a0] (.j2 151 [.YI Q1 r]) []:=by
 refine WL.of Tryz.func120 Y Tryz.ntmps120 Y ?_;intro S w u;unfold fU at h;refine aI (.k (cL 101 Y sO Y) (.k (eK Y) (.f [1] ?_)));refine aI (.k (tV (.cons (.dir Y) .nil)) (.f [2] ?_));refine aH ?_;obtain rfl:=pT h;exact cA (σ':=⟨[(2,.j2 151 [.YI Q1 a0])],[]⟩) (Sw.Sub.mk id (.cons Y (.j2 (.cons (.D3 Y Y (.cons (.of_eq Y) .nil) sO) .nil)) .nil) .nil Y) (aY u dW Y (RV.tmp Y) .nil Y)
theorem RP{xs:List (Int×aQ)}(hlen:(xs.length:Int)<=4294967296):
 ay Tryz.prog 151 [.YI Q1 xs] ((H8 xs).map fun c=>[.v Q0 c.1,.v Q5 c.2]):=by
  refine DH Tryz.func151 Y Tryz.ntmps151 Y ?_;intro S w ρ l Jp Jx b off I wj h1;have E:=DJ hlen;refine aG ?_;refine eU (σ':=⟨[(0,.v (Wr.c9 (.func (.yield l) #[] #[]) Y) ()),(1,.v (Wr.cp b off Q1) xs),(3,.v Q0 ((xs.length:Int) - 1 - (0:Nat)))],[]⟩) (J.k (mO Y GF Iw) (J.k (tL Y yJ) (J.k (cY Y Y Y) (J.k (bQ Y) (J.fin (kH (by rfl) (by exact(.cons Y (.cons Y (.cons (by rw[<-E];rfl) .nil)))))))))) ?_;refine bR ?_;refine Sk I (fun k=>[(0,.v (Wr.c9 (.func (.yield l) #[] #[]) Y) ()),(1,.v (Wr.cp b off Q1) xs),(3,.v Q0 ((xs.length:Int) - 1 - (k:Nat)))]) (fun k=>(.cons (@u1.flat _ _ ⟨fun h=>h⟩ _ _ _ _) (.cons h1 (.cons .flat .nil)))) (fun _ _ h=>h) wj ?_;intro k V C D;have u:((H8 xs).map fun c=>([.v Q0 c.1,.v Q5 c.2]:List Slot)).length=xs.length:=by rw[lx,DI]
  rw[u] at D;have F:=HD hlen D;refine aG (aG ?_);refine eU (σ':=⟨[(0,.v (Wr.c9 (.func (.yield l) #[] #[]) Y) ()),(1,.v (Wr.cp b off Q1) xs),(3,.v Q0 ((xs.length:Int) - 1 - (k:Nat))),(8,.v Wr.bool (cm .geq ((xs.length:Int) - 1 - (k:Nat)) 0))],[]⟩) (J.mv Y (J.k (nF Y Y Y) (J.fin (kH (by rfl) (by exact(.cons Y (.cons Y (.cons Y (.cons Y .nil))))))))) ?_;refine Ge Y (fun z=>?_) (fun z=>?_)
  ·refine aE ?_;have M:(xs.length:Int) - 1 - (k:Nat)>=0:=by simpa[cm] using z
   have B:k<xs.length:=by omega
   obtain⟨x,K,L⟩:=HC B;refine aG ?_;refine bR ?_;refine aG ?_;refine Mx (σ1:=⟨[(11,.v (Wr.c9 (.func (.yield l) #[] #[]) Y) ()),(12,.v Q0 ((xs.length:Int) - 1 - (k:Nat))),(16,.v Q5 x),(0,.v (Wr.c9 (.func (.yield l) #[] #[]) Y) ()),(1,.v (Wr.cp b off Q1) xs),(3,.v Q0 ((xs.length:Int) - 1 - (k:Nat)))],[]⟩) (g2:=[(0,.v (Wr.c9 (.func (.yield l) #[] #[]) Y) ()),(1,.v (Wr.cp b off Q1) xs),(3,.v Q0 ((xs.length:Int) - 1 - (k:Nat)))]) (pre:=[_,_,_,_,_,_]) I C (item:=[.v Q0 ((xs.length:Int) - 1 - (k:Nat)),.v Q5 x]) (by rw[ly,K];rfl)
    (J.cons (.none rfl) (aD rfl) rfl rfl (J.cons (.none rfl) (aD rfl) rfl rfl (J.cons (.none rfl) (mO rfl GF Iw) rfl rfl (J.cons (.none rfl) (aD rfl) rfl rfl (J.cons (.none rfl) (pK L rfl rfl yJ jT) rfl rfl (J.cons (.none rfl) (cG rfl Zy jT) rfl rfl (J.fin (kH (by rfl) (by exact(.cons rfl (.cons rfl (.cons rfl (.cons rfl (.cons rfl (.cons rfl .nil)))))))))))))))
    rfl (.cons (.dir rfl) (.cons (.dir rfl) .nil)) rfl rfl rfl rfl (.cons (@u1.flat _ _ ⟨fun h=>h⟩ _ _ _ _) (.cons h1 (.cons .flat .nil))) (.cons rfl (.cons rfl (.cons rfl .nil))) (fun A G=>?_) (fun A H=>?_)
   ·refine Ba rfl rfl (aE (aZ ?_));refine eU (σ':=⟨[(0,.v (Wr.c9 (.func (.yield l) #[] #[]) Y) ()),(1,.v (Wr.cp b off Q1) xs),(3,.v Q0 (ar .sub .i64 ((xs.length:Int) - 1 - (k:Nat)) 1))],[]⟩) (J.mv Y (J.k (cY Y Y Y) (J.k (bQ Y) (J.fin (kH (by rfl) (by exact(.cons Y (.cons Y (.cons Y .nil))))))))) ?_;exact Sl I G (by rw[u];exact B) (by rw[F];exact fun _ _ h=>h)
   ·refine vT rfl rfl (aH (Sn (fn:=Tryz.f151) I rfl H fun a A h=>h))
  ·refine cX (Yj (fn:=Tryz.f151) I rfl C ?_ (fun a A h=>?_))
   ·have N:¬(xs.length:Int) - 1 - (k:Nat)>=0:=by simpa[cm] using z
    rw[u];omega
   ·simp only[Exit.inBlock,l6];exact h
theorem qI{a0 a1 r}(h:iS a0 a1=some r):
 WL Tryz.prog 89 [.v Q2 a0,.v Q0 a1] (.WU [.v aM r.1,.v Q8 r.2]) []:=by
 refine WL.of Tryz.func89 Y Tryz.ntmps89 Y ?_;intro S w z;unfold iS at h;refine aI (.k (cL 101 Y (.VS sO (.VS sO sO)) Y) (.k (cL 102 Y sO Y) (.k (aO 103 By Y (.cons (Z.arr 8 (Z.int .u8)) .nil) Y) (.k (aO 104 Tryz.zeroValue33 Y (.cons (Z.err ET) .nil) Y) (.f [2,3,4,5] ?_)))));obtain⟨P,Q,h⟩:=aA h;refine jO (.k (aT Y Y (.VS sO (.VS sO sO)) sF lG) (.k (aN (uT Q) UF (.cons (.dir Y) .nil)) (.f [2,3,4,5,6] ?_)));refine aL [2,3,4,5,6,12] ?_;refine aU h Y (fun I h=>?_) (fun I h=>?_)
 ·refine aI (.k (dH (e:=aM) (v:=aR) Bx vZ I5 Y Y (Z.arr 8 (Z.int .u8))) (.f [4,5] ?_));refine aH ?_;obtain rfl:=pT h;exact cA (σ':=⟨[(4,.ptr 90 0),(5,.ptr 91 0)],[(91,.box 33 [.v Q8 P]),(90,.box 28 [.v aM aR])]⟩) (aC [(90,103),(91,104)]) (bS z dW Y (cO Y Y Y uS kR) (cO Y Y Y TM PH) .nil Y)
 refine aE ?_;refine aG ?_;refine aG ?_;obtain⟨T,B,h⟩:=aA h;refine eU (σ':=⟨[(2,.ptr 101 0),(3,.ptr 102 0),(4,.ptr 103 0),(5,.ptr 104 0),(23,.v Wr.bool T)],[(101,.box 146 [.v Q7 a0.1,.v Q1 a0.2.1,.v Q0 a0.2.2]),(102,.box 3 [.v Q0 a1]),(103,.box 28 [.v aM aR]),(104,.box 33 [.v Q8 (none:Option Int)])]⟩) ?_ ?_
 ·refine cd B (fun K B=>?_) (fun K B=>?_)
  ·cases B;exact jy
  cases B;exact jy
 refine aU h Y (fun M h=>?_) (fun M h=>?_)
 ·refine aI (.k (dH (e:=aM) (v:=aR) Bx vZ I5 Y Y (Z.arr 8 (Z.int .u8))) (.f [4,5] ?_));refine aH ?_;obtain rfl:=pT h;exact cA (σ':=⟨[(4,.ptr 90 0),(5,.ptr 91 0)],[(91,.box 33 [.v Q8 (some (1:Int))]),(90,.box 28 [.v aM aR])]⟩) (aC [(90,103),(91,104)]) (bS z dW Y (cO Y Y Y uS kR) (cO Y Y Y TM PH) .nil Y)
 refine aE ?_;refine cU [2,3,4,5,28] ?_;refine aU h Y (fun N h=>?_) (fun N h=>?_)
 ·refine aI (.k (dH (e:=aM) (v:=aR) Bx vZ I5 Y Y (Z.arr 8 (Z.int .u8))) (.f [4,5] ?_));refine aH ?_;obtain rfl:=pT h;exact cA (σ':=⟨[(4,.ptr 90 0),(5,.ptr 91 0)],[(91,.box 33 [.v Q8 (some (4:Int))]),(90,.box 28 [.v aM aR])]⟩) (aC [(90,103),(91,104)]) (bS z dW Y (cO Y Y Y uS kR) (cO Y Y Y TM PH) .nil Y)
 refine aE ?_;obtain⟨E,U,h⟩:=aA h;refine jO (.a 2 ?_);refine .k (aN (tB U) Tryz.call120 (.cons (.dir Y) .nil)) (.f [2,3,4,5,33] ?_);refine bR ?_;obtain⟨ad,V,h⟩:=aA h;obtain⟨o9,X,aa,ab⟩:=Si h;refine Sh (g:=[(2,.ptr 101 0),(3,.ptr 102 0),(4,.ptr 103 0),(5,.ptr 104 0),(33,.j2 151 [.YI Q1 E])]) (ds0:=[(101,.box 146 [.v Q7 a0.1,.v Q1 a0.2.1,.v Q0 a0.2.2]),(102,.box 3 [.v Q0 a1]),(103,.box 28 [.v aM aR]),(104,.box 33 [.v Q8 (none:Option Int)])]) (L:=[101,102,103,104]) (fun A:(Int×(Int×aQ))=>[.v Q0 A.1,.v Q5 A.2]) (fun u (C:Unit)=>[(101,.box 146 [.v Q7 a0.1,.v Q1 a0.2.1,.v Q0 a0.2.2] (some (u 101))),(102,.box 3 [.v Q0 a1] (some (u 102))),(103,.box 28 [.v aM aR] (some (u 103))),(104,.box 33 [.v Q8 (none:Option Int)] (some (u 104)))]) (fun u (D:aQ)=>[(101,.box 146 [.v Q7 a0.1,.v Q1 a0.2.1,.v Q0 a0.2.2] (some (u 101))),(102,.box 3 [.v Q0 a1] (some (u 102))),(103,.box 28 [.v aM D] (some (u 103))),(104,.box 33 [.v Q8 (none:Option Int)] (some (u 104)))]) (fun u A C=>⟨[(2,.ptr 101 0),(3,.ptr 102 0),(4,.ptr 103 0),(5,.ptr 104 0),(8,.ptr 108 0),(33,.j2 151 [.YI Q1 E])],[(101,.box 146 [.v Q7 a0.1,.v Q1 a0.2.1,.v Q0 a0.2.2] (some (u 101))),(102,.box 3 [.v Q0 a1] (some (u 102))),(103,.box 28 [.v aM aR] (some (u 103))),(104,.box 33 [.v Q8 (none:Option Int)] (some (u 104))),(108,.box 204 [.v Q0 A.2.1,.v aM A.2.2])]⟩) z Y X (aC []) (fun _=>rfl) Y (RP (Gi V)) Tryz.call151 (fun _=>rfl) Y (fun _=>rfl) Y (fun _ _=>(.cons Y (.cons Y (.cons Y (.cons Y .nil))))) (fun _ _=>(.cons Y (.cons Y (.cons Y (.cons Y .nil))))) ?_ ?_ ?_ ?_
 ·intro u S w R l A C;refine eR (.k (aO 109 Fk Y (.cons (Z.int .i64) (.cons (Z.arr 8 (Z.int .u8)) .nil)) Y) (.t (bT Y Y Y Y (.VS sO sO) jT) (.f [2,3,4,5,8,33] ?_)));exact PV (aC [(108,109)])
 ·intro u S w R l A C r9 h;refine bR ?_;refine aL [2,3,4,5,8,33,39] ?_;refine aU h Y (fun O h=>?_) (fun O h=>?_)
  ·refine aI (.a 3 ?_);refine .t (Jg Y Y Y (.aNe ET) Y Y Y PH) (.f [2,3,4,5,33] ?_);refine aH ?_;refine eI ?_;cases h;exact HB (aC [])
  refine aE ?_;cases h;exact aZ (Sj (aC []))
 ·intro u ac F S w R G z;have h:=aa _ F;refine aZ ?_;obtain⟨mf,sv,h⟩:=aA h;refine aI (.a 6 ?_);refine .t (Jg Y Y Y (.aNe ET) Y Y Y PH) (.f [4,5] ?_);refine aH ?_;obtain rfl:=pT h;exact cA (σ':=⟨[(4,.ptr 90 0),(5,.ptr 91 0)],[(91,.box 33 [.v Q8 (none:Option Int)]),(90,.box 28 [.v aM mf])]⟩) (aC [(90,103),(91,104)]) (bS z dW Y (cO Y Y Y uS kR) (cO Y Y Y TM PH) .nil Y)
 ·intro u D H S w R G z;have h:=ab _ H;refine eI ?_;obtain rfl:=pT h;exact cA (σ':=⟨[(4,.ptr 90 0),(5,.ptr 91 0)],[(91,.box 33 [.v Q8 (none:Option Int)]),(90,.box 28 [.v aM D])]⟩) (aC [(90,103),(91,104)]) (bS z dW Y (cO Y Y Y uS kR) (cO Y Y Y TM PH) .nil Y)
theorem tI{a0 r}(h:gP a0=some r):
 WL Tryz.prog 134 [.v aM a0] (.v Q0 r) []:=by
 refine WL.of Tryz.func134 Y Tryz.ntmps134 Y ?_;intro S w C;unfold gP at h;refine aI (.k (cL 101 Y sO Y) (.f [1] ?_));obtain⟨D,u,h⟩:=aA h;obtain⟨E,z,h⟩:=aA h;obtain⟨F,A,h⟩:=aA h;obtain⟨G,B,h⟩:=aA h;refine aI (.k (rO u Y Y Y Y vZ S5) (.k (vH (dK u).2.2 Y Y Y G5 S5) (.k (by exact mN U5 U3 Y Y) (.k (by exact fD (.inl Y) (by decide) Y Y) (.k (by exact rO z Y Y Y Y vZ S5) (.k (by exact vH (dK z).2.2 Y Y Y G5 S5) (.k (by exact mN U5 U3 Y Y) (.k (by exact fD (.inl Y) (by decide) Y Y) ?_))))))));refine .a 1 ?_;refine .k (rO A Y Y Y Y vZ S5) (.k (vH (dK A).2.2 Y Y Y G5 S5) (.k (by exact mN U5 U3 Y Y) (.k (by exact fD (.inl Y) (by decide) Y Y) ?_)));refine .a 1 ?_;refine .k (rO B Y Y Y Y vZ S5) (.k (vH (dK B).2.2 Y Y Y G5 S5) (.k (by exact mN U5 U3 Y Y) (.f [2] ?_)));cases h;exact aH (aY C dW Y (RV.tmp Y) .nil Y)
theorem sQ{a0 r}(h:lT a0=some r):
 WL Tryz.prog 137 [.v (Wr.J4 Q5) a0] (.ref 0) [(0,.arr 204 Q5 r)]:=by
 refine WL.of Tryz.func137 Y Tryz.ntmps137 Y ?_;intro S w u;unfold lT at h;refine aI (.k (aS 101 204 Q5) (.f [0] ?_));refine jO (.a 1 ?_);refine .k (xN Y yJ) (.f [0,4] ?_);refine aU h Y (fun z h=>?_) (fun z h=>?_)
 ·refine aI (.k (aS 102 204 Q5) (.f [2] ?_));cases h;exact aH (wC u dW Y (aC [(0,102)]))
 refine aE ?_;obtain⟨B,A,h⟩:=aA h;refine aI (.k (rP (e:=Q5) 103 yJ jT Fk Y Y Y Y .nil) ?_);refine .a 1 ?_;refine .t (bU 104 A Y Y (.J4 Y) yJ Lj jT Y Y Y Y Y) (.f [2] ?_);cases h;exact aH (wC u dW Y (aC [(0,104)]))
theorem eX{a0:Q6}{r:Q6}(h:bV a0=some r):
  WL Tryz.prog 137 [.v Q1 a0] (.ref 0) [(0,.arr 204 Q5 r)]:=
 rS fun b u=>sQ (by cases b with | true=>rw[u rfl] at h ⊢;exact h | false=>exact El h)
theorem Dx{a0 r}(h:rV a0=some r):
 WL Tryz.prog 160 [.v Q2 a0] (.agg [.ref 0,.ref 1,.v Q0 r.2.2]) [(0,.arr 28 aM r.1),(1,.arr 204 Q5 r.2.1)]:=by
 refine WL.of Tryz.func160 Y Tryz.ntmps160 Y ?_;intro S w u;unfold rV at h;refine aI (.k (cL 101 Y (.VS sO (.VS sO sO)) Y) (.k (aO 102 Tw Y (.cons (Z.sl aM) (.cons (Z.sl Q5) (.cons (Z.int .i64) .nil))) Y) (.f [1,2] ?_)));refine aG ?_;obtain⟨z,A,h⟩:=aA h;obtain⟨B,C,h⟩:=aA h;refine eF 10 mixed (by exact(.k (aB 0 Y Ll Y yI Y Y) (.k (aJ Y Y Y Uf yI) (.k (fO 103000 (cQ A) QV (.cons (.dir Y) .nil) Y) (.k (aB 1 Y Ll Y Iw Y Y) (.k (aJ Y Y Y GF Iw) (.k (fO 104000 (eX C) KR (.cons (.dir Y) .nil) Y) (.k (aB 0 Y Ll Y yI Y Y) (XZ.store (.none Y) Y Y Y Y Y Y Y yI (.k (aB 1 Y Ll Y Iw Y Y) (XZ.store (.none Y) Y Y Y Y Y Y Y Iw .nil))))))))))) (by exact(J.kp [1,2] [])) ?_;refine aI (.k (hX Y Y Y sF lG) (.f [2] ?_));refine aH ?_;obtain rfl:=pT h;exact cA (σ':=⟨[(2,.ptr 90 0)],[(90,.box 146 [.ref 0,.ref 1,.v Q0 a0.2.2]),(1,.arr 204 Q5 B),(0,.arr 28 aM z)]⟩) (aC [(90,102),(1,104000),(0,103000)]) (aY u dW Y (Gg Y Y Y sF lG) (.cons Y (.cons Y .nil)) Y)
theorem vD(A:Nat->Nat){WG WQ ix r}(h:jJ WG WQ ix=some r):
 VZ Tryz.prog 161 [.ptr 9000 0] [(9000,.box 146 [.ref 8950,.ref 8951,.v Q0 ix] (some (A 9000))),(8950,.arr 28 aM WG),(8951,.arr 204 Q5 WQ)] (.v Q8 r.1) [(9000,.box 146 [.ref 8910,.ref 8911,.v Q0 r.2.2.2] (some (A 9000))),(8910,.arr 28 aM r.2.1),(8911,.arr 204 Q5 r.2.2.1)]:=by
 refine VZ.of Tryz.func161 Y Tryz.ntmps161 Y ?_;intro S w R z;unfold jJ at h;refine aL [0] ?_;refine cU [0,7] ?_;refine aU h Y (fun C h=>?_) (fun C h=>?_)
 ·refine aL [0,2] ?_;cases h;exact aH (eY z Y (aC [(8911,8951),(8910,8950)]))
 refine aE ?_;refine cU [0,13] ?_;obtain⟨D,E,h⟩:=fI h;refine tM (fun B:Int=>⟨[(0,.ptr 9000 0)],[(9000,.box 146 [.ref 8950,.ref 8951,.v Q0 B] (some (A 9000))),(8950,.arr 28 aM WG),(8951,.arr 204 Q5 WQ)]⟩) (fun x=>D x=some r) Y ?_ ?_ ?_
 ·intro B h;rw[E] at h;refine aL [0,2] ?_;cases h;exact aH (eY z Y (aC [(8911,8951),(8910,8950)]))
 ·intro u;replace h:=iN u h;refine dS [0] ?_;exact cB h (aC [])
 ·intro u;replace h:=iO u h;refine aE ?_;exact cB h (aC [])
theorem Ox{a0 a1 a2 r}(h:rW a0 a1 a2=some r):
 WL Tryz.prog 157 [.v Q2 a0,.v Q0 a1,.v aM a2] (.WU [.v Q2 r.1,.v Q8 r.2]) []:=by
 refine WL.of Tryz.func157 Y Tryz.ntmps157 Y ?_;intro S w u;unfold rW at h;refine aI (.k (cL 101 Y (.VS sO (.VS sO sO)) Y) (.k (cL 102 Y sO Y) (.k (aO 103 Tw Y (.cons (Z.sl aM) (.cons (Z.sl Q5) (.cons (Z.int .i64) .nil))) Y) (.f [1,3,5,6] ?_))));obtain⟨H,I,h⟩:=aA h;refine jO (.k (aT Y Y (.VS sO (.VS sO sO)) sF lG) (.k (aN (uT I) UF (.cons (.dir Y) .nil)) (.f [1,3,5,6,8] ?_)));refine aL [1,3,5,6,8,13] ?_;refine aU h Y (fun C h=>?_) (fun C h=>?_)
 ·refine aI (.k (fN (new:=[(105,.arr 204 Q5 ([]:Q6))]) rK (.cons (Z.sl aM) (.ref 105 Y (.cons (Z.int .i64) .nil))) (.cons .nil) Y .nil) (.f [6,7] ?_));refine aH ?_;obtain rfl:=pT h;exact cA (σ':=⟨[(6,.ptr 90 0),(7,.v Q8 H)],[(90,.box 146 [.v Q7 ([]:iM),.v Q1 ([]:Q6),.v Q0 (0:Int)])]⟩) (aC [(90,103)]) (bS u dW Y (aV Y Y (.VS sO (.VS sO sO)) sF lG) (RV.tmp Y) .nil Y)
 refine aE ?_;refine aG ?_;refine aG ?_;obtain⟨K,z,h⟩:=aA h;refine eU (σ':=⟨[(1,.v Q0 a1),(3,.ptr 101 0),(5,.ptr 102 0),(6,.ptr 103 0),(24,.v Wr.bool K)],[(101,.box 146 [.v Q7 a0.1,.v Q1 a0.2.1,.v Q0 a0.2.2]),(102,.box 28 [.v aM a2]),(103,.box 146 [.v Q7 ([]:iM),.v Q1 ([]:Q6),.v Q0 (0:Int)])]⟩) ?_ ?_
 ·refine cd z (fun D z=>?_) (fun D z=>?_)
  ·cases z;exact jy
  cases z;exact jy
 refine aU h Y (fun E h=>?_) (fun E h=>?_)
 ·refine aI (.k (fN (new:=[(106,.arr 204 Q5 ([]:Q6))]) rK (.cons (Z.sl aM) (.ref 106 Y (.cons (Z.int .i64) .nil))) (.cons .nil) Y .nil) (.f [6,7] ?_));refine aH ?_;obtain rfl:=pT h;exact cA (σ':=⟨[(6,.ptr 90 0),(7,.v Q8 (some (1:Int)))],[(90,.box 146 [.v Q7 ([]:iM),.v Q1 ([]:Q6),.v Q0 (0:Int)])]⟩) (aC [(90,103)]) (bS u dW Y (aV Y Y (.VS sO (.VS sO sO)) sF lG) (RV.tmp Y) .nil Y)
 refine aE ?_;refine cU [1,3,5,6,30] ?_;refine aU h Y (fun F h=>?_) (fun F h=>?_)
 ·refine aI (.k (fN (new:=[(107,.arr 204 Q5 ([]:Q6))]) rK (.cons (Z.sl aM) (.ref 107 Y (.cons (Z.int .i64) .nil))) (.cons .nil) Y .nil) (.f [6,7] ?_));refine aH ?_;obtain rfl:=pT h;exact cA (σ':=⟨[(6,.ptr 90 0),(7,.v Q8 (some (2:Int)))],[(90,.box 146 [.v Q7 ([]:iM),.v Q1 ([]:Q6),.v Q0 (0:Int)])]⟩) (aC [(90,103)]) (bS u dW Y (aV Y Y (.VS sO (.VS sO sO)) sF lG) (RV.tmp Y) .nil Y)
 refine aE ?_;obtain⟨P,L,h⟩:=aA h;refine aI (.k (aT Y Y (.VS sO (.VS sO sO)) sF lG) (.k (fO 108000 (Dx L) Tryz.call160 (.cons (.dir Y) .nil) Y) (.f [1,3,5,6] ?_)));obtain⟨B,M,h⟩:=aA h;refine jO (.t (eN [101,108000,108001] (Cb [(9000,101),(8950,108000),(8951,108001),(8910,109),(8911,110)]) (eT _) (fun A=>vD A M) Tryz.call161 (fun A=>(.box Y (.arr (.arr .nil Y) Y) Y))) (.f [1,3,5,6,9] ?_));refine aL [1,3,5,6,9,37] ?_;refine aU h Y (fun G h=>?_) (fun G h=>?_)
 ·refine aI (.k (fN (new:=[(111,.arr 204 Q5 ([]:Q6))]) rK (.cons (Z.sl aM) (.ref 111 Y (.cons (Z.int .i64) .nil))) (.cons .nil) Y .nil) (.f [6,7] ?_));refine aH ?_;obtain rfl:=pT h;exact cA (σ':=⟨[(6,.ptr 90 0),(7,.v Q8 B.1)],[(90,.box 146 [.v Q7 ([]:iM),.v Q1 ([]:Q6),.v Q0 (0:Int)])]⟩) (aC [(90,103)]) (bS u dW Y (aV Y Y (.VS sO (.VS sO sO)) sF lG) (RV.tmp Y) .nil Y)
 refine aE ?_;obtain⟨N,O,h⟩:=aA h;refine aI (.a 4 ?_);refine .k (bP wG (.cons (Z.int .i64) (.cons (Z.arr 8 (Z.int .u8)) .nil)) (.cons Y (.dir Y) Y Y Y Y (.cons Y (.dir Y) Y Y Y Y .nil))) (.k (dM (e:=Q5) yJ jT Fk Y Y Y Y (.cons (.agg Y (.same (.same .nil)) (.VS sO sO) Y) .nil)) (.t (bU 112 O Y Y (.sl Y) yJ Lj jT Y Y Y Y Y) (.f [3,6] ?_)));refine aI (.k (hX Y Y Y sF lG) (.f [6,7] ?_));refine aH ?_;obtain rfl:=pT h;exact cA (σ':=⟨[(6,.ptr 90 0),(7,.v Q8 (none:Option Int))],[(90,.box 146 [.v Q7 B.2.1,.v Q1 N,.v Q0 B.2.2.2])]⟩) (aC [(90,103)]) (bS u dW Y (aV Y Y (.VS sO (.VS sO sO)) sF lG) (RV.tmp Y) .nil Y)
theorem iJ(A:Nat->Nat){WG WQ a1 a2 r}(h:eD WG WQ a1 a2=some r):
 VZ Tryz.prog 139 [.ptr 9000 0,.v Q0 a1,.v aM a2] [(9000,.box 148 [.v Q0 WG,.v Q2 WQ] (some (A 9000)))] (.v Q8 r.1) [(9000,.box 148 [.v Q0 r.2.1,.v Q2 r.2.2] (some (A 9000)))]:=by
 refine VZ.of Tryz.func139 Y Tryz.ntmps139 Y ?_;intro S w R B;unfold eD at h;refine aI (.k (cL 101 Y sO Y) (.f [0,1,5] ?_));refine aG ?_;obtain⟨C,D,h⟩:=aA h;refine eF 13 mixed (by exact(.k (aD Y) (.k (aK Y) (.k (aB 1 Y wN Y lG Y Y) (.k (aJ Y Y Y sF lG) (.k (aD Y) (.k (aJ Y Y Y uS kR) (.k (aN (Ox D) Tryz.call157 (.cons (.dir Y) (.cons (.dir Y) (.cons (.dir Y) .nil)))) (.k (aD Y) (.k (bW Y Y) (.k (bW Y Y) (.k (aO 103 Tw Y (.cons (Z.sl aM) (.cons (Z.sl Q5) (.cons (Z.int .i64) .nil))) Y) (XZ.storeAll (.none Y) Y Y Y Y (.VS sO (.VS sO sO)) lG (.k (bQ Y) .nil)))))))))))))) (by exact(J.kp [0,7,8] [])) ?_;refine jO (.a 1 ?_);refine .k (iQ Pk Y) (.f [0,7,8,20] ?_);obtain⟨E,F,h⟩:=fI h;refine tM (fun z:Bw=>⟨[(0,.ptr 9000 0),(8,.v Q8 C.2)],[(9000,.box 148 [.v Q0 WG,.v Q2 z] (some (A 9000)))]⟩) (fun x=>E x=some r) Y ?_ ?_ ?_
 ·intro z h;rw[F] at h;refine aL [0,6] ?_;cases h;exact aH (fA B Y (RV.tmp Y) (.cons Y .nil))
 ·intro u;replace h:=iN u h;refine eR (.a 1 ?_);refine .k (aT Y Y (.VS sO (.VS sO sO)) sF lG) (.f [0,8] ?_);exact cB h (aC [])
 ·intro u;replace h:=iO u h;refine aE ?_;exact cB h (aC [])
theorem tC(A:Nat->Nat){WG WQ r}(h:gS WG WQ=some r):
 VZ Tryz.prog 130 [.ptr 9000 0] [(9000,.box 148 [.v Q0 WG,.v Q2 WQ] (some (A 9000))),(9100,.box 68 [.ptr 9000 0] (some (A 9100)))] (.v Q8 r.1) [(9000,.box 148 [.v Q0 r.2.1,.v Q2 r.2.2] (some (A 9000))),(9100,.box 68 [.ptr 9000 0] (some (A 9100)))]:=by
 refine VZ.of Tryz.func130 Y Tryz.ntmps130 Y ?_;intro S w R G;unfold gS at h;refine aL [0] ?_;refine aG ?_;obtain⟨E,M,h⟩:=aA h;refine eF 16 mixed (by exact(.k (aD Y) (.k (aK Y) (.k (aB 1 Y wN Y lG Y Y) (.k (aJ Y Y Y sF lG) (.k (aD Y) (.k (aK Y) (.k (aB 0 Y wN Y S3 Y Y) (.k (aJ Y Y Y G3 S3) (.k (cY Y Y Y) (.k (aN (qI M) RY (.cons (.dir Y) (.cons (.dir Y) .nil))) (.k (aD Y) (.k (bW Y Y) (.k (bW Y Y) (.k (aO 102 By Y (.cons (Z.arr 8 (Z.int .u8)) .nil) Y) (XZ.store (.none Y) Y Y Y Y Y Y Y kR (.k (bQ Y) .nil))))))))))))))))) (by exact(J.kp [0,3,4] [])) ?_;refine cU [0,3,4,5] ?_;obtain⟨ad,N,O,af⟩:=cF h;refine iZ (σs:=fun u:(Option Int)×Int×Int×Bw=>⟨[(0,.ptr 9000 0),(3,.ptr 102 0),(4,.v Q8 u.1),(5,.v Q0 u.2.1)],[(9000,.box 148 [.v Q0 u.2.2.1,.v Q2 u.2.2.2] (some (A 9000))),(102,.box 28 [.v aM E.1]),(9100,.box 68 [.ptr 9000 0] (some (A 9100)))]⟩) (fun B:(Option Int)×Int×Bw=>⟨[(0,.ptr 9000 0),(4,.v Q8 B.1)],[(9000,.box 148 [.v Q0 B.2.1,.v Q2 B.2.2] (some (A 9000))),(9100,.box 68 [.ptr 9000 0] (some (A 9100)))]⟩) N (aC []) ?_ ?_
 ·intro B H;have h:=O _ H;refine aL [0,2] ?_;cases h;exact aH (fA G Y (RV.tmp Y) (.cons Y (.cons Y .nil)))
 intro u I h;refine aG ?_;refine aG ?_;obtain⟨P,z,h⟩:=aA h;refine eU (σ':=⟨[(0,.ptr 9000 0),(3,.ptr 102 0),(4,.v Q8 u.1),(5,.v Q0 u.2.1),(28,.v Wr.bool P)],[(9000,.box 148 [.v Q0 u.2.2.1,.v Q2 u.2.2.2] (some (A 9000))),(102,.box 28 [.v aM E.1]),(9100,.box 68 [.ptr 9000 0] (some (A 9100)))]⟩) ?_ ?_
 ·refine cd z (fun F z=>?_) (fun F z=>?_)
  ·obtain⟨ah,Q,z⟩:=aA z;cases z;refine ja 1 ?_;refine(J.k (iQ Pk Y) ?_);refine ja 3 ?_;exact(J.g F (aN (tI Q) OL (.cons (.dir Y) .nil)) jy)
  cases z;refine ja 1 ?_;exact(J.k (iQ Pk Y) jy)
 refine aU h Y (fun K h=>?_) (fun K h=>?_)
 ·refine aE ?_;refine aG ?_;refine bR ?_;refine aI (.k (aO 129 By Y (.cons (Z.arr 8 (Z.int .u8)) .nil) Y) (.k (aO 130 By Y (.cons (Z.arr 8 (Z.int .u8)) .nil) Y) (.f [0,3,5,6,7] ?_)));refine aG ?_;refine aG ?_;obtain⟨T,U,h⟩:=aA h;refine eF 18 mixed (by exact(.k (aD Y) (.k (aK Y) (.k (aB 1 Y wN Y lG Y Y) (.k (aJ Y Y Y sF lG) (.k (aD Y) (.k (aK Y) (.k (aB 0 Y wN Y S3 Y Y) (.k (aJ Y Y Y G3 S3) (.k (cY Y Y Y) (.k (aD Y) (.k (cY Y Y Y) (.k (cY Y Y Y) (.k (aN (qI U) RY (.cons (.dir Y) (.cons (.dir Y) .nil))) (.k (aD Y) (.k (bW Y Y) (.k (bW Y Y) (XZ.store (.none Y) Y Y Y Y Y Y Y kR (.k (bQ Y) .nil))))))))))))))))))) (by exact(J.kp [0,3,4,5,6,7] [])) ?_;refine aI (.a 1 ?_);refine .k (iQ Pk Y) (.f [0,3,4,5,6,7,48] ?_);obtain⟨V,X,h⟩:=fI h;refine tM (fun C:(Option Int)×aQ=>⟨[(0,.ptr 9000 0),(3,.ptr 102 0),(4,.v Q8 C.1),(5,.v Q0 u.2.1),(6,.ptr 129 0),(7,.ptr 130 0)],[(9000,.box 148 [.v Q0 u.2.2.1,.v Q2 u.2.2.2] (some (A 9000))),(102,.box 28 [.v aM E.1]),(129,.box 28 [.v aM T.1]),(130,.box 28 [.v aM C.2]),(9100,.box 68 [.ptr 9000 0] (some (A 9100)))]⟩) (fun x=>V x=some I) Y ?_ ?_ ?_
  ·intro C h;rw[X] at h;refine aI (.a 1 ?_);refine .k (iQ Pk Y) (.f [0,3,4,5,6,7,66] ?_);refine aU h Y (fun L h=>?_) (fun L h=>?_)
   ·obtain⟨am,aa,h⟩:=aA h;obtain⟨an,ab,h⟩:=aA h;refine eF 4 mixed (by exact(.k (aD Y) (.k (aJ Y Y Y uS kR) (.k (aN (tI aa) OL (.cons (.dir Y) .nil)) (.k (aJ Y Y Y uS kR) .nil))))) (by exact(J.t (eN [9000] (Cb [(9000,9000)]) (eT _) (fun A=>iJ A ab) KS (fun A=>(.box Y .nil Y))) (jz [0,3,4,5]))) ?_;refine aZ ?_;refine dS [0,3,4,5] ?_;cases h;exact cE (aC [])
   refine aE ?_;refine aZ ?_;refine dS [0,3,4,5] ?_;cases h;exact cE (aC [])
  ·intro D;replace h:=iN D h;obtain⟨ap,ac,h⟩:=aA h;refine eF 18 mixed (by exact(.k (aD Y) (.k (aK Y) (.k (aB 1 Y wN Y lG Y Y) (.k (aJ Y Y Y sF lG) (.k (aD Y) (.k (aK Y) (.k (aB 0 Y wN Y S3 Y Y) (.k (aJ Y Y Y G3 S3) (.k (cY Y Y Y) (.k (aD Y) (.k (cY Y Y Y) (.k (cY Y Y Y) (.k (aN (qI ac) RY (.cons (.dir Y) (.cons (.dir Y) .nil))) (.k (aD Y) (.k (bW Y Y) (.k (bW Y Y) (XZ.store (.none Y) Y Y Y Y Y Y Y kR (.k (bQ Y) .nil))))))))))))))))))) (by exact(J.kp [0,3,4,5,6,7] [])) ?_;exact cB h (aC [])
  ·intro D;replace h:=iO D h;refine aE ?_;exact cB h (aC [])
 cases h;exact cX (dJ (aC []))
theorem Oy{a0 r}(h:rX a0=some r):
 WL Tryz.prog 155 [.v Q2 a0] (.WU [.v Q2 r.1,.v Q8 r.2]) []:=by
 refine WL.of Tryz.func155 Y Tryz.ntmps155 Y ?_;intro S w z;unfold rX at h;refine aI (.k (cL 101 Y (.VS sO (.VS sO sO)) Y) (.k (aO 102 Tw Y (.cons (Z.sl aM) (.cons (Z.sl Q5) (.cons (Z.int .i64) .nil))) Y) (.f [1,2] ?_)));obtain⟨K,L,h⟩:=aA h;refine jO (.k (aT Y Y (.VS sO (.VS sO sO)) sF lG) (.k (aN (uT L) UF (.cons (.dir Y) .nil)) (.f [1,2,4] ?_)));refine aL [1,2,4,11] ?_;refine aU h Y (fun G h=>?_) (fun G h=>?_)
 ·refine aI (.k (bP rK (.cons (Z.sl aM) (.cons (Z.sl Q5) (.cons (Z.int .i64) .nil))) .nil) (.f [2,3] ?_));refine aH ?_;obtain rfl:=pT h;exact cA (σ':=⟨[(2,.ptr 90 0),(3,.v Q8 K)],[(90,.box 146 [.v Q7 ([]:iM),.v Q1 ([]:Q6),.v Q0 (0:Int)])]⟩) (aC [(90,102)]) (bS z dW Y (aV Y Y (.VS sO (.VS sO sO)) sF lG) (RV.tmp Y) .nil Y)
 refine aE ?_;obtain⟨R,M,h⟩:=aA h;refine aI (.k (aT Y Y (.VS sO (.VS sO sO)) sF lG) (.k (fO 104000 (Dx M) Tryz.call160 (.cons (.dir Y) .nil) Y) (.f [1,2] ?_)));obtain⟨u,N,h⟩:=aA h;refine jO (.t (eN [101,104000,104001] (Cb [(9000,101),(8950,104000),(8951,104001),(8910,105),(8911,106)]) (eT _) (fun A=>vD A N) Tryz.call161 (fun A=>(.box Y (.arr (.arr .nil Y) Y) Y))) (.f [1,2,5] ?_));refine aL [1,2,5,18] ?_;refine aU h Y (fun H h=>?_) (fun H h=>?_)
 ·refine aI (.k (bP rK (.cons (Z.sl aM) (.cons (Z.sl Q5) (.cons (Z.int .i64) .nil))) .nil) (.f [2,3] ?_));refine aH ?_;obtain rfl:=pT h;exact cA (σ':=⟨[(2,.ptr 90 0),(3,.v Q8 u.1)],[(90,.box 146 [.v Q7 ([]:iM),.v Q1 ([]:Q6),.v Q0 (0:Int)])]⟩) (aC [(90,102)]) (bS z dW Y (aV Y Y (.VS sO (.VS sO sO)) sF lG) (RV.tmp Y) .nil Y)
 refine aE ?_;refine cU [1,2,22,23,24] ?_;obtain⟨T,O,P,U⟩:=cF h;refine iZ (σs:=fun C:Int×iM=>⟨[(1,.ptr 101 0),(2,.ptr 102 0),(22,.ref 106),(23,.v Q0 (u.2.2.1.length:Int)),(24,.v Q0 C.1)],[(101,.box 146 [.ref 105,.ref 106,.v Q0 u.2.2.2]),(102,.box 146 [.v Q7 ([]:iM),.v Q1 ([]:Q6),.v Q0 (0:Int)]),(106,.arr 204 Q5 u.2.2.1),(105,.arr 28 aM C.2)]⟩) (fun B:iM=>⟨[(1,.ptr 101 0),(2,.ptr 102 0)],[(101,.box 146 [.ref 105,.ref 106,.v Q0 u.2.2.2]),(102,.box 146 [.v Q7 ([]:iM),.v Q1 ([]:Q6),.v Q0 (0:Int)]),(105,.arr 28 aM B),(106,.arr 204 Q5 u.2.2.1)]⟩) O (aC []) ?_ ?_
 ·intro B F;have h:=P _ F;refine aI (.a 1 ?_);refine .t (uK 111 204 Q5 Y Y Y Y Iw Y) (.f [1,2] ?_);refine aI (.k (hX Y Y Y sF lG) (.f [2,3] ?_));refine aH ?_;obtain rfl:=pT h;exact cA (σ':=⟨[(2,.ptr 90 0),(3,.v Q8 (none:Option Int))],[(90,.box 146 [.v Q7 B,.v Q1 ([]:Q6),.v Q0 u.2.2.2])]⟩) (aC [(90,102)]) (bS z dW Y (aV Y Y (.VS sO (.VS sO sO)) sF lG) (RV.tmp Y) .nil Y)
 intro C Q h;refine aL [1,2,22,23,24,25] ?_;refine aG ?_;refine aU h Y (fun I h=>?_) (fun I h=>?_)
 ·refine aE ?_;refine aG ?_;refine bR ?_;obtain⟨V,D,h⟩:=aA h;refine aI (.k (jA D Y Y Y yJ jT) (.k (jS (dK D).2.2 Y Y .here Zy jT) (.k (aO 110 Fk Y (.cons (Z.int .i64) (.cons (Z.arr 8 (Z.int .u8)) .nil)) Y) (.t (bT Y Y Y Y (.VS sO sO) jT) (.f [1,2,7,22,23,24] ?_)))));obtain⟨X,E,h⟩:=aA h;refine eR (.a 6 ?_);refine .k (jA E Y Y Y Ka kR) (.t (qZ (dK E).2.2 Y Y Y kR) (.f [1,2,22,23,24] ?_));refine aZ ?_;refine dS [1,2,22,23,24] ?_;cases h;exact cE (aC [])
 cases h;exact cX (dJ (aC []))
theorem kA(A:Nat->Nat){WG WQ r}(h:eV WG WQ=some r):
 VZ Tryz.prog 131 [.ptr 9000 0] [(9000,.box 148 [.v Q0 WG,.v Q2 WQ] (some (A 9000))),(9100,.box 68 [.ptr 9000 0] (some (A 9100)))] (.v Q8 r.1) [(9000,.box 148 [.v Q0 r.2.1,.v Q2 r.2.2] (some (A 9000))),(9100,.box 68 [.ptr 9000 0] (some (A 9100)))]:=by
 refine VZ.of Tryz.func131 Y Tryz.ntmps131 Y ?_;intro S w R B;unfold eV at h;refine aL [0] ?_;obtain⟨C,D,h⟩:=aA h;refine aI (.a 4 ?_);refine .k (aN (Oy D) Tryz.call155 (.cons (.dir Y) .nil)) ?_;refine .a 3 ?_;refine .k (aO 102 Tw Y (.cons (Z.sl aM) (.cons (Z.sl Q5) (.cons (Z.int .i64) .nil))) Y) (.t (bT Y Y Y Y (.VS sO (.VS sO sO)) lG) (.f [0,3,4] ?_));refine jO (.a 1 ?_);refine .k (iQ Pk Y) (.f [0,3,4,14] ?_);obtain⟨E,F,h⟩:=fI h;refine tM (fun z:Bw=>⟨[(0,.ptr 9000 0),(4,.v Q8 C.2)],[(9000,.box 148 [.v Q0 WG,.v Q2 z] (some (A 9000))),(9100,.box 68 [.ptr 9000 0] (some (A 9100)))]⟩) (fun x=>E x=some r) Y ?_ ?_ ?_
 ·intro z h;rw[F] at h;refine aL [0,2] ?_;cases h;exact aH (fA B Y (RV.tmp Y) (.cons Y (.cons Y .nil)))
 ·intro u;replace h:=iN u h;refine eR (.a 1 ?_);refine .k (aT Y Y (.VS sO (.VS sO sO)) sF lG) (.f [0,4] ?_);exact cB h (aC [])
 ·intro u;replace h:=iO u h;refine aE ?_;exact cB h (aC [])
theorem yK(A:Nat->Nat){a1 au fh r}(h:iT a1 au fh=some r):
 VZ Tryz.prog 156 [.ptr 9100 0,.YI (Wr.int .u8) a1] [(9000,.box 148 [.v Q0 au,.v Q2 fh] (some (A 9000))),(9100,.box 68 [.ptr 9000 0] (some (A 9100)))] (.v Q8 r.1) [(9000,.box 148 [.v Q0 r.2.1,.v Q2 r.2.2] (some (A 9000))),(9100,.box 68 [.ptr 9000 0] (some (A 9100)))]:=by
 refine VZ.of Tryz.func156 Y Tryz.ntmps156 Y ?_;intro S w R u;unfold iT at h;refine aL [0,1] ?_;refine aG ?_;obtain⟨B,z,h⟩:=aA h;refine eF 8 mixed (by exact(.k (aJ Y Y Y Oq Iv) (.k (aJ Y Y Y Oq Iv) (.k (aK Y) (.k (aB 0 Y wN Y S3 Y Y) (.k (aJ Y Y Y G3 S3) (.k (cY Y Y Y) (.k (cG Y G5 S5) (.k (Nb (e:=(Wr.int .u8)) (zv:=(0:Int)) Bx vZ I5 Y Y (Z.arr 8 (Z.int .u8)) Y Y (.cons (.dir Y) .nil)) .nil))))))))) (by exact(J.t (eN [9000] (Cb [(9000,9000)]) (eT _) (fun A=>iJ A z) KS (fun A=>(.box Y .nil Y))) (jz [0,2]))) ?_;cases h;exact aH (fA u Y (RV.tmp Y) (.cons Y (.cons Y .nil)))
theorem zL(A:Nat->Nat){q n0 n1 r}(h:lE q n0 n1=some r):
 WC Tryz.prog [(9000,A 9000),(9100,A 9100)] (iD (A 9000) (A 9100)) q [(9000,.box 148 [.v Q0 n0,.v Q2 n1] (some (A 9000))),(9100,.box 68 [.ptr 9000 0] (some (A 9100)))] (.v Q8 r.1) [(9000,.box 148 [.v Q0 r.2.1,.v Q2 r.2.2] (some (A 9000))),(9100,.box 68 [.ptr 9000 0] (some (A 9100)))]:=by
 unfold lE at h;rcases q with z | z
 ·exact(WC.l (WC.N0 .nil (.pr (.q8 (i:=9100) (by simp)) .pt) Tryz.call156 (yK A h)))
 ·exact(WC.r (WC.N0 (.q8 (i:=9000) (by simp)) .nil OJ (kA A h)))
theorem uF(A:Nat->Nat){a0 XW m7 r}(h:gJ a0 XW m7=some r):
 VZ Tryz.prog 129 [.v (Wr.sl (iD (A 9000) (A 9100))) a0] [(9000,.box 148 [.v Q0 XW,.v Q2 m7] (some (A 9000))),(9100,.box 68 [.ptr 9000 0] (some (A 9100)))] (.v Q8 r.1) [(9000,.box 148 [.v Q0 r.2.1,.v Q2 r.2.2] (some (A 9000))),(9100,.box 68 [.ptr 9000 0] (some (A 9100)))]:=by
 refine VZ.of Tryz.func129 Y Tryz.ntmps129 Y ?_;intro S w R B;unfold gJ at h;refine aL [0] ?_;refine cU [6,7,8] ?_;obtain⟨P,I,L,M⟩:=cF h;refine iZ (σs:=fun u:Int×Int×Bw=>⟨[(6,.v (Wr.sl (iD (A 9000) (A 9100))) a0),(7,.v Q0 (a0.length:Int)),(8,.v Q0 u.1)],[(9000,.box 148 [.v Q0 u.2.1,.v Q2 u.2.2] (some (A 9000))),(9100,.box 68 [.ptr 9000 0] (some (A 9100)))]⟩) (fun z:Int×Bw=>⟨[],[(9000,.box 148 [.v Q0 z.1,.v Q2 z.2] (some (A 9000))),(9100,.box 68 [.ptr 9000 0] (some (A 9100)))]⟩) I (aC []) ?_ ?_
 ·intro z C;have h:=L _ C;refine aL [2] ?_;cases h;exact aH (fA B Y (RV.tmp Y) (.cons Y (.cons Y .nil)))
 intro u O h;refine aL [6,7,8,9] ?_;refine aG ?_;refine aU h Y (fun D h=>?_) (fun D h=>?_)
 ·refine aE ?_;refine aG ?_;refine bR ?_;obtain⟨Q,T,h⟩:=aA h;refine aL [4,6,7,8] ?_;obtain⟨U,N,h⟩:=aA h;refine aI (.a 1 ?_);refine .t (Nh (H:=[9000,9100]) (K:=[9000,9100]) [(9000,A 9000),(9100,A 9100)] (Cb [(9000,9000),(9100,9100)]) (eT _) Y ⟨⟨_,_,Y⟩,⟨_,_,Y⟩,trivial⟩ (WC.at2 (e:=iD) (A 9000) (A 9100) (fun E=>zL E N)) (fun _=> .box Y (.box Y .nil)) (fun _=> .box Y (.box Y .nil Y) Y) (fun _=>rfl) Y Y (fun _=>rfl) Y Y) (.f [5,6,7,8] ?_);refine aL [5,6,7,8,15] ?_;refine aU h Y (fun F h=>?_) (fun F h=>?_)
  ·refine aL [2] ?_;refine aH ?_;refine eI ?_;cases h;refine gC fun G=>?_;obtain rfl:=M _ G;exact fA B Y (RV.tmp Y) (.cons Y (.cons Y .nil))
  refine aE ?_;refine aZ ?_;refine dS [6,7,8] ?_;cases h;exact cE (aC [])
 cases h;exact cX (dJ (aC []))
theorem oR(A:Nat->Nat){WG WQ a1 r}(h:fY WG WQ a1=some r):
 VZ Tryz.prog 133 [.ptr 9000 0,.v (Wr.int .u8) a1] [(9000,.box 148 [.v Q0 WG,.v Q2 WQ] (some (A 9000)))] (.v Q8 r.1) [(9000,.box 148 [.v Q0 r.2.1,.v Q2 r.2.2] (some (A 9000)))]:=by
 refine VZ.of Tryz.func133 Y Tryz.ntmps133 Y ?_;intro S w R z;unfold fY at h;refine aI (.k (Jk 101 Y Y) (.k (cL 102 Y sO Y) (.f [0,2,3] ?_)));refine BG (i:=101) Y fun u=>?_;refine wR (σ':=⟨[(0,.ptr 9000 0),(2,.ptr 101 0),(3,.ptr 102 0)],[(9000,.box 148 [.v Q0 WG,.v Q2 WQ] (some (A 9000))),(101,.box 68 [.ptr 9000 0] (some (u))),(102,.box 5 [.v (Wr.int .u8) a1])]⟩) (aC []) ?_;obtain⟨F,E,h⟩:=aA h;refine aI (.sub (σ':=⟨[(0,.ptr 9000 0),(2,.ptr 101 0),(3,.YI (Wr.int .u8) a1)],[(9000,.box 148 [.v Q0 WG,.v Q2 WQ] (some (A 9000))),(101,.box 68 [.ptr 9000 0] (some (u)))]⟩) (Sw.Sub.mk id (.cons Y (.of_eq Y) (.cons Y (.of_eq Y) (.cons Y (.D3 Y Y (.cons (.of_eq Y) .nil) sO) .nil))) (.box Y (.cons (.of_eq Y) (.cons (.of_eq Y) .nil)) (.box Y (.cons (.of_eq Y) .nil) .nil)) Y) (.k (nY .nil (.cons (.q8 Y Y) (.YI Y)) (.l .self)) (.k (aJ Y Y Y Oq Iv) (.k (nY (.q8 Y Y) .nil (.r .self)) (.k (dM (e:=(iD (A 9000) (u))) Xo PK TT Y Y Y Y (.cons (.dir Y) (.cons (.dir Y) .nil))) (.t (Jl (H:=[9000,101]) (K:=[9000,101]) [(9000,A 9000),(9100,u)] (Cb [(9000,9000),(9100,101)]) (eT _) ⟨⟨_,_,Y⟩,⟨_,_,Y⟩,trivial⟩ (VZ.at2 (ss:=fun B C=>[.v (Wr.sl (iD B C)) ([(.inl ((),((),a1)):dL),(.inr ((),()):dL)]:(List dL))]) (A 9000) u (fun D=>uF D E)) Tryz.call129 (.cons (.dir Y) .nil) (fun _=> .box Y (.box Y .nil)) (fun _=> .box Y (.box Y .nil Y) Y) (fun _=>rfl) Y Y (fun _=>rfl) Y Y) (.f [0,4] ?_)))))));cases h;exact aH (fA z Y (RV.tmp Y) (.cons Y .nil))
theorem xF(A:Nat->Nat){XW m7 r}(h:mL XW m7=some r):
 VZ Tryz.prog 132 [.ptr 9100 0] [(9000,.box 148 [.v Q0 XW,.v Q2 m7] (some (A 9000))),(9100,.box 68 [.ptr 9000 0] (some (A 9100)))] (.v Q8 r.1) [(9000,.box 148 [.v Q0 r.2.1,.v Q2 r.2.2] (some (A 9000))),(9100,.box 68 [.ptr 9000 0] (some (A 9100)))]:=by
 refine VZ.of Tryz.func132 Y Tryz.ntmps132 Y ?_;intro S w R u;unfold mL at h;refine aL [0] ?_;obtain⟨B,z,h⟩:=aA h;refine aI (.a 1 ?_);refine .t (eN [9000] (Cb [(9000,9000)]) (eT _) (fun A=>oR A z) Tryz.call133 (fun A=>(.box Y .nil Y))) (.f [0,1] ?_);cases h;exact aH (fA u Y (RV.tmp Y) (.cons Y (.cons Y .nil)))
theorem xX(A:Nat->Nat){q n0 n1 r}(h:nG q n0 n1=some r):
 WC Tryz.prog [(9000,A 9000),(9100,A 9100)] (gG (A 9000) (A 9100)) q [(9000,.box 148 [.v Q0 n0,.v Q2 n1] (some (A 9000))),(9100,.box 68 [.ptr 9000 0] (some (A 9100)))] (.v Q8 r.1) [(9000,.box 148 [.v Q0 r.2.1,.v Q2 r.2.2] (some (A 9000))),(9100,.box 68 [.ptr 9000 0] (some (A 9100)))]:=by
 unfold nG at h;rcases q with z | z | z
 ·exact(WC.l (WC.N0 (.q8 (i:=9000) (by simp)) .nil Tryz.call130 (tC A h)))
 ·exact(WC.r (WC.l (WC.N0 (.q8 (i:=9000) (by simp)) .nil OJ (kA A h))))
 ·exact(WC.r (WC.r (WC.N0 .nil (.q8 (i:=9100) (by simp)) Tryz.call132 (xF A h))))
theorem tD(A:Nat->Nat){a0 XW m7 r}(h:iX a0 XW m7=some r):
 VZ Tryz.prog 129 [.v (Wr.sl (gG (A 9000) (A 9100))) a0] [(9000,.box 148 [.v Q0 XW,.v Q2 m7] (some (A 9000))),(9100,.box 68 [.ptr 9000 0] (some (A 9100)))] (.v Q8 r.1) [(9000,.box 148 [.v Q0 r.2.1,.v Q2 r.2.2] (some (A 9000))),(9100,.box 68 [.ptr 9000 0] (some (A 9100)))]:=by
 refine VZ.of Tryz.func129 Y Tryz.ntmps129 Y ?_;intro S w R B;unfold iX at h;refine aL [0] ?_;refine cU [6,7,8] ?_;obtain⟨P,I,L,M⟩:=cF h;refine iZ (σs:=fun u:Int×Int×Bw=>⟨[(6,.v (Wr.sl (gG (A 9000) (A 9100))) a0),(7,.v Q0 (a0.length:Int)),(8,.v Q0 u.1)],[(9000,.box 148 [.v Q0 u.2.1,.v Q2 u.2.2] (some (A 9000))),(9100,.box 68 [.ptr 9000 0] (some (A 9100)))]⟩) (fun z:Int×Bw=>⟨[],[(9000,.box 148 [.v Q0 z.1,.v Q2 z.2] (some (A 9000))),(9100,.box 68 [.ptr 9000 0] (some (A 9100)))]⟩) I (aC []) ?_ ?_
 ·intro z C;have h:=L _ C;refine aL [2] ?_;cases h;exact aH (fA B Y (RV.tmp Y) (.cons Y (.cons Y .nil)))
 intro u O h;refine aL [6,7,8,9] ?_;refine aG ?_;refine aU h Y (fun D h=>?_) (fun D h=>?_)
 ·refine aE ?_;refine aG ?_;refine bR ?_;obtain⟨Q,T,h⟩:=aA h;refine aL [4,6,7,8] ?_;obtain⟨U,N,h⟩:=aA h;refine aI (.a 1 ?_);refine .t (Nh (H:=[9000,9100]) (K:=[9000,9100]) [(9000,A 9000),(9100,A 9100)] (Cb [(9000,9000),(9100,9100)]) (eT _) Y ⟨⟨_,_,Y⟩,⟨_,_,Y⟩,trivial⟩ (WC.at2 (e:=gG) (A 9000) (A 9100) (fun E=>xX E N)) (fun _=> .box Y (.box Y .nil)) (fun _=> .box Y (.box Y .nil Y) Y) (fun _=>rfl) Y Y (fun _=>rfl) Y Y) (.f [5,6,7,8] ?_);refine aL [5,6,7,8,15] ?_;refine aU h Y (fun F h=>?_) (fun F h=>?_)
  ·refine aL [2] ?_;refine aH ?_;refine eI ?_;cases h;refine gC fun G=>?_;obtain rfl:=M _ G;exact fA B Y (RV.tmp Y) (.cons Y (.cons Y .nil))
  refine aE ?_;refine aZ ?_;refine dS [6,7,8] ?_;cases h;exact cE (aC [])
 cases h;exact cX (dJ (aC []))
theorem yL(A:Nat->Nat){WG WQ r}(h:iU WG WQ=some r):
 VZ Tryz.prog 100 [.ptr 9000 0] [(9000,.box 148 [.v Q0 WG,.v Q2 WQ] (some (A 9000)))] (.v Q8 r.1) [(9000,.box 148 [.v Q0 r.2.1,.v Q2 r.2.2] (some (A 9000)))]:=by
 refine VZ.of Tryz.func100 Y Tryz.ntmps100 Y ?_;intro S w R C;unfold iU at h;refine aI (.k (Jk 101 Y Y) (.f [0,1] ?_));refine BG (i:=101) Y fun z=>?_;refine wR (σ':=⟨[(0,.ptr 9000 0),(1,.ptr 101 0)],[(9000,.box 148 [.v Q0 WG,.v Q2 WQ] (some (A 9000))),(101,.box 68 [.ptr 9000 0] (some (z)))]⟩) (aC []) ?_;refine aG ?_;obtain⟨L,M,h⟩:=aA h;refine eF 16 mixed (by exact(.k (aJ Y Y Y Oq Iv) (.k (aK Y) (.k (aB 1 Y wN Y lG Y Y) (.k (aJ Y Y Y sF lG) (.k (aJ Y Y Y Oq Iv) (.k (aK Y) (.k (aB 0 Y wN Y S3 Y Y) (.k (aJ Y Y Y G3 S3) (.k (cY Y Y Y) (.k (aN (qI M) RY (.cons (.dir Y) (.cons (.dir Y) .nil))) (.k (aD Y) (.k (bW Y Y) (.k (bW Y Y) (.k (aO 103 By Y (.cons (Z.arr 8 (Z.int .u8)) .nil) Y) (XZ.store (.none Y) Y Y Y Y Y Y Y kR (.k (bQ Y) .nil))))))))))))))))) (by exact(J.kp [0,1,3,4] [])) ?_;refine aG ?_;refine aG ?_;obtain⟨N,u,h⟩:=aA h;refine eU (σ':=⟨[(0,.ptr 9000 0),(1,.ptr 101 0),(4,.v Q8 L.2),(24,.v Wr.bool N)],[(9000,.box 148 [.v Q0 WG,.v Q2 WQ] (some (A 9000))),(101,.box 68 [.ptr 9000 0] (some (z)))]⟩) ?_ ?_
 ·refine cd u (fun B u=>?_) (fun B u=>?_)
  ·cases u;exact jy
  obtain⟨P,D,u⟩:=aA u;cases u;refine ja 3 ?_;exact(J.g B (rO D Y Y Y Y vZ S5) (J.g B (vH (dK D).2.2 Y Y Y G5 S5) jy))
 refine aU h Y (fun E h=>?_) (fun E h=>?_)
 ·refine aL [0,2] ?_;cases h;exact aH (fA C Y (RV.tmp Y) (.cons Y .nil))
 refine aE ?_;obtain⟨Q,O,h⟩:=aA h;refine aI (.a 1 ?_);refine .k (nY (.q8 Y Y) .nil (.l .self)) (.k (aJ Y Y Y Oq Iv) (.k (nY (.q8 Y Y) .nil (.r (.l .self))) (.k (nY .nil (.q8 Y Y) (.r (.r .self))) (.k (dM (e:=(gG (A 9000) (z))) Xo PK TT Y Y Y Y (.cons (.dir Y) (.cons (.dir Y) (.cons (.dir Y) .nil)))) (.t (Jl (H:=[9000,101]) (K:=[9000,101]) [(9000,A 9000),(9100,z)] (Cb [(9000,9000),(9100,101)]) (eT _) ⟨⟨_,_,Y⟩,⟨_,_,Y⟩,trivial⟩ (VZ.at2 (ss:=fun F G=>[.v (Wr.sl (gG F G)) ([(.inl ((),()):dI),(.inr (.inl ((),())):dI),(.inr (.inr ((),())):dI)]:(List dI))]) (A 9000) z (fun I=>tD I O)) Tryz.call129 (.cons (.dir Y) .nil) (fun _=> .box Y (.box Y .nil)) (fun _=> .box Y (.box Y .nil Y) Y) (fun _=>rfl) Y Y (fun _=>rfl) Y Y) (.f [0,2] ?_))))));cases h;exact aH (fA C Y (RV.tmp Y) (.cons Y .nil))
def xY(r:Ue×(Option Int)):Slot:=match r.1 with | none=> .WU [.v (Wr.C8 (Wr.pr Q0 Q2)) (none:Ue),.v Q8 r.2] | some z=> .WU [.ptr 0 0,.v Q8 r.2]
def xZ(r:Ue×(Option Int)):List (Nat×WA):=match r.1 with | none=>[] | some z=>[(0,.box 148 [.v Q0 z.1,.v Q2 z.2])]
theorem Dy{a0 a1 r}(h:mV a0 a1=some r):
 WL Tryz.prog 57 [.v Q2 a0,.v Q0 a1] (xY r) (xZ r):=by
 refine WL.of Tryz.func57 Y Tryz.ntmps57 Y ?_;intro S w z;unfold mV at h;refine aI (.k (cL 101 Y (.VS sO (.VS sO sO)) Y) (.k (jW (Wr.pr Q0 Q2)) (.f [1,2] ?_)));obtain⟨M,G,h⟩:=aA h;refine aI (.a 1 ?_);refine .k (aN (Dw G) Tryz.call97 (.cons (.dir Y) .nil)) (.f [1,2,6,7] ?_);refine cU [1,2,6,7,17] ?_;refine aU h Y (fun B h=>?_) (fun B h=>?_)
 ·refine aI (.a 1 ?_);refine .k (jW (Wr.pr Q0 Q2)) (.f [4,5] ?_);cases h;exact aH (bS z dW Y (RV.tmp Y) (RV.tmp Y) .nil Y)
 refine aE ?_;obtain⟨N,H,h⟩:=aA h;refine jO (.k (aT Y Y (.VS sO (.VS sO sO)) sF lG) (.k (aN (uT H) UF (.cons (.dir Y) .nil)) (.f [1,2,6,8] ?_)));refine aG ?_;obtain⟨I,u,h⟩:=aA h;refine eU (σ':=⟨[(1,.v Q0 a1),(2,.ptr 101 0),(35,.v Wr.bool I)],[(101,.box 146 [.v Q7 a0.1,.v Q1 a0.2.1,.v Q0 a0.2.2])]⟩) ?_ ?_
 ·refine cd u (fun C u=>?_) (fun C u=>?_)
  ·cases u;exact jy
  refine cd u (fun D u=>?_) (fun D u=>?_)
  ·cases u;exact jy
  cases u;exact jy
 refine aU h Y (fun E h=>?_) (fun E h=>?_)
 ·refine aI (.a 1 ?_);refine .k (jW (Wr.pr Q0 Q2)) (.f [4,5] ?_);cases h;exact aH (bS z dW Y (RV.tmp Y) (RV.tmp Y) .nil Y)
 refine aE ?_;refine aG ?_;obtain⟨O,K,h⟩:=aA h;refine eF 10 mixed (by exact(.k (aD Y) (.k (aB 0 Y Ll Y yI Y Y) (.k (aJ Y Y Y Uf yI) (.k (Qq (fO 105000 (cQ K) QV (.cons (.dir Y) .nil) Y) (fun _=>(Sw.Sub.mk id (.cons Y (.S8 Y Y) .nil) .nil Y)) Y) (.k (aB 2 Y Ll Y S3 Y Y) (.k (aJ Y Y Y G3 S3) (.k (bP rK (.cons (Z.sl aM) (.cons (Z.sl Q5) (.cons (Z.int .i64) .nil))) (.cons Y (.dir Y) Y Y Y Y (.cons Y (.dir Y) Y Y Y Y .nil))) (.k (bP LA (.cons (Z.int .i64) (.cons (Z.pr (Z.sl aM) (Z.pr (Z.sl Q5) (Z.int .i64))) .nil)) (.cons Y (.dir Y) Y Y Y Y (.cons Y (.agg Y (.same (.same (.same .nil))) (.VS sO (.VS sO sO)) Y) Y Y Y Y .nil))) (.k (zU 106 Y Y) (.k (bQ Y) .nil))))))))))) (by exact(J.kp [9] [])) ?_;obtain⟨P,L,h⟩:=aA h;refine jO (.a 1 ?_);refine .t (eN [106] (Cb [(9000,106)]) (eT _) (fun A=>yL A L) Tryz.call100 (fun A=>(.box Y .nil Y))) (.f [9,10] ?_);refine aL [9,10,49] ?_;refine aU h Y (fun F h=>?_) (fun F h=>?_)
 ·refine aI (.a 1 ?_);refine .k (jW (Wr.pr Q0 Q2)) (.f [4,5] ?_);cases h;exact aH (bS z dW Y (RV.tmp Y) (RV.tmp Y) .nil Y)
 refine aE ?_;refine aL [4,5] ?_;cases h;exact aH (wT z dW Y (aC [(0,106)]))
theorem Aj{a0:Bw}{a1:Int}{r:Ue×(Option Int)}(hz:r.1=none)(h:mV a0 a1=some r):WL Tryz.prog 57 [.v Q2 a0,.v Q0 a1] (.WU [.v (Wr.C8 (Wr.pr Q0 Q2)) (none:Ue),.v Q8 r.2]) []:=by
 have:=Dy h;unfold xY xZ at this;rw[hz] at this;exact this
theorem Ak{a0:Bw}{a1:Int}{r:Ue×(Option Int)}{z:(Int×Bw)}(hz:r.1=some z)(h:mV a0 a1=some r):WL Tryz.prog 57 [.v Q2 a0,.v Q0 a1] (.WU [.ptr 0 0,.v Q8 r.2]) [(0,.box 148 [.v Q0 z.1,.v Q2 z.2])]:=by
 have:=Dy h;unfold xY xZ at this;rw[hz] at this;exact this
def vK(r:Ue×(Option Int)):Slot:=match r.1 with | none=> .WU [.v (Wr.C8 (Wr.pr Q0 Q2)) (none:Ue),.v Q8 r.2] | some z=> .WU [.ptr 0 0,.v Q8 r.2]
def vL(r:Ue×(Option Int)):List (Nat×WA):=match r.1 with | none=>[] | some z=>[(0,.box 148 [.v Q0 z.1,.v Q2 z.2])]
theorem Al{a0 r}(h:jC a0=some r):
 WL Tryz.prog 40 [.v Q0 a0] (vK r) (vL r):=by
 refine WL.of Tryz.func40 Y Tryz.ntmps40 Y ?_;intro S w u;unfold jC at h;refine aI (.k (jW (Wr.pr Q0 Q2)) (.f [0] ?_));obtain⟨D,B,h⟩:=aA h;refine aI (.a 1 ?_);refine .k (aN (Kc B) Tryz.call56 (.cons (.dir Y) .nil)) ?_;refine .a 3 ?_;refine .k (aO 102 Tw Y (.cons (Z.sl aM) (.cons (Z.sl Q5) (.cons (Z.int .i64) .nil))) Y) (.t (bT Y Y Y Y (.VS sO (.VS sO sO)) lG) (.f [0,4,5] ?_));refine cU [0,4,5,12] ?_;refine aU h Y (fun A h=>?_) (fun A h=>?_)
 ·refine aI (.a 1 ?_);refine .k (jW (Wr.pr Q0 Q2)) (.f [2,3] ?_);cases h;exact aH (bS u dW Y (RV.tmp Y) (RV.tmp Y) .nil Y)
 refine aE ?_;refine aG ?_;obtain⟨C,z,h⟩:=aA h;rcases su:C.1 with _ | E
 ·replace h:=vV su h;refine eR (.k (aT Y Y (.VS sO (.VS sO sO)) sF lG) ?_);refine .a 1 ?_;refine .k (aN (Aj su z) UA (.cons (.dir Y) (.cons (.dir Y) .nil))) (.f [2,3] ?_);cases h;exact aH (bS u dW Y (RV.tmp Y) (RV.tmp Y) .nil Y)
 ·replace h:=vW su h;refine eR (.k (aT Y Y (.VS sO (.VS sO sO)) sF lG) ?_);refine .a 1 ?_;refine .k (fO 104000 (Ak su z) UA (.cons (.dir Y) (.cons (.dir Y) .nil)) Y) (.f [2,3] ?_);cases h;exact aH (wT u dW Y (aC [(0,104000)]))
theorem tQ{a0:Int}{r:Ue×(Option Int)}(hz:r.1=none)(h:jC a0=some r):WL Tryz.prog 40 [.v Q0 a0] (.WU [.v (Wr.C8 (Wr.pr Q0 Q2)) (none:Ue),.v Q8 r.2]) []:=by
 have:=Al h;unfold vK vL at this;rw[hz] at this;exact this
theorem tT{a0:Int}{r:Ue×(Option Int)}{z:(Int×Bw)}(hz:r.1=some z)(h:jC a0=some r):WL Tryz.prog 40 [.v Q0 a0] (.WU [.ptr 0 0,.v Q8 r.2]) [(0,.box 148 [.v Q0 z.1,.v Q2 z.2])]:=by
 have:=Al h;unfold vK vL at this;rw[hz] at this;exact this
theorem oX{a0 r}(h:fZ a0=some r):
 WL Tryz.prog 101 [.YI (Wr.pr Q0 Q2) a0] (.WU [.v Q0 r.1,.v Q0 r.2.1,.v Q8 r.2.2]) []:=by
 refine WL.of Tryz.func101 Y Tryz.ntmps101 Y ?_;intro S w z;unfold fZ at h;refine aL [0] ?_;refine aG ?_;obtain⟨u,C,h⟩:=aA h;refine eF 15 mixed (by exact(.k (aD Y) (.k (rQ Y) (.k (fB Y wN Y lG Y (.snd .here) Y) (.k (cG Y sF lG) (.k (aD Y) (.k (rQ Y) (.k (fB Y wN Y S3 Y (.fst .here) Y) (.k (cG Y G3 S3) (.k (aN (qI C) RY (.cons (.dir Y) (.cons (.dir Y) .nil))) (.k (aD Y) (.k (bW Y Y) (.k (bW Y Y) (.k (aO 102 By Y (.cons (Z.arr 8 (Z.int .u8)) .nil) Y) (XZ.store (.none Y) Y Y Y Y Y Y Y kR (.k (bQ Y) .nil)))))))))))))))) (by exact(J.kp [4,5] [])) ?_;refine cU [4,5,19] ?_;refine aU h Y (fun B h=>?_) (fun B h=>?_)
 ·refine aL [2,3,4] ?_;cases h;exact aH (wW z dW Y (RV.tmp Y) (RV.tmp Y) (RV.tmp Y) .nil Y)
 refine aE ?_;refine aG ?_;refine wR (σ':=⟨[(4,.v Q8 u.2),(5,.YI aM u.1),(19,.v Wr.bool (Option.isSome u.2))],[]⟩) (Sw.Sub.mk id (.cons Y (.of_eq Y) (.cons Y (.D3 Y Y (.cons (.of_eq Y) .nil) sO) (.cons Y (.of_eq Y) .nil))) .nil Y) ?_;obtain⟨I,D,h⟩:=aA h;obtain⟨K,A,h⟩:=aA h;obtain⟨L,E,h⟩:=aA h;obtain⟨M,F,h⟩:=aA h;obtain⟨N,G,h⟩:=aA h;obtain⟨O,H,h⟩:=aA h;refine eF 11 mixed (by exact(.k (cG Y uS kR) (.k (aN (tI D) OL (.cons (.dir Y) .nil)) (.k (Yr A Y Y Y vZ S5) (.k (Qt E Y Y Y vZ S5) (.k (Lt F (BH A) Y (.sl Y) tP I5 S5 Y Y Y) (.k (Ej G Y vZ) (.k (cG Y uS kR) (.k (aN (tI H) OL (.cons (.dir Y) .nil)) (.k (bQ Y) (.k (bQ Y) (.k (zI ET) .nil)))))))))))) (by exact(J.kp [2,3,4] [])) ?_;cases h;exact aH (wW z dW Y (RV.tmp Y) (RV.tmp Y) (RV.tmp Y) .nil Y)
theorem zM{a0 a1 r}(h:jD a0 a1=some r):
 WL Tryz.prog 135 [.v Q5 a0,.YI (Wr.C8 (Wr.pr Q0 Q2)) a1] (.v Wr.bool r) []:=by
 refine WL.of Tryz.func135 Y Tryz.ntmps135 Y ?_;intro S w B;unfold jD at h;refine aI (.k (cL 101 Y (.VS sO sO) Y) (.f [1,2] ?_));refine aG ?_;obtain⟨C,z,h⟩:=aA h;refine Je (σ':=⟨[(3,.v Wr.bool C)],[]⟩) ?_ ?_
 ·intro A;refine cd z (fun u z=>?_) (fun u z=>?_)
  ·cases z;exact rB 13 mixed A
  obtain⟨E,D,z⟩:=aA z;cases z;exact eF 13 mixed (by exact(.k (aB 0 Y Ot Y S3 Y Y) (.k (aJ Y Y Y G3 S3) (.k (nF Y Y Y) (.k (aD Y) (.g u (aB 0 Y Ot Y S3 Y Y) (.g u (aJ Y Y Y G3 S3) (.g u (cG Y Oq Iv) (.g u (Jj D Y) (.g u (fB Y wN Y S3 Y (.fst .here) Y) (.g u (cG Y G3 S3) (.g u (nF Y Y Y) (.k (xS u Y Y) (.k (bQ Y) .nil)))))))))))))) (by exact(J.fin (aC []))) A
 cases h;exact aH (aY B dW Y (RV.tmp Y) .nil Y)
theorem jU{a0 XW r}(h:cS a0 XW=some r):
 WL Tryz.prog 154 [.v Q1 a0,.j2 135 [.YI (Wr.C8 (Wr.pr Q0 Q2)) XW]] (.v Q0 r) []:=by
 refine WL.of Tryz.func154 Y Tryz.ntmps154 Y ?_;intro S w u;unfold cS at h;refine aL [0,1] ?_;refine cU [0,1,7,8] ?_;obtain⟨L,F,G,H⟩:=cF h;refine iZ (σs:=fun z:Int=>⟨[(0,.v Q1 a0),(1,.j2 135 [.YI (Wr.C8 (Wr.pr Q0 Q2)) XW]),(7,.v Q0 (a0.length:Int)),(8,.v Q0 z)],[]⟩) (fun A:Unit=>⟨[],[]⟩) F (aC []) ?_ ?_
 ·intro A B;have h:=G _ B;refine aL [4] ?_;cases h;exact aH (aY u dW Y (RV.tmp Y) .nil Y)
 intro z K h;refine aL [0,1,7,8,9] ?_;refine aG ?_;refine aU h Y (fun C h=>?_) (fun C h=>?_)
 ·refine aE ?_;refine aG ?_;refine bR ?_;refine aL [0,1,5,7,8] ?_;obtain⟨M,N,h⟩:=aA h;obtain⟨O,I,h⟩:=aA h;refine aI (.a 5 ?_);refine .k (tW Y (zM I) Tryz.call135 (.cons (.dir Y) .nil)) (.f [0,1,5,7,8,16] ?_);refine aU h Y (fun D h=>?_) (fun D h=>?_)
  ·refine aL [4] ?_;refine aH ?_;refine eI ?_;cases h;refine gC fun E=>?_;obtain rfl:=H _ E;exact aY u dW Y (RV.tmp Y) .nil Y
  refine aE ?_;refine aZ ?_;refine dS [0,1,7,8] ?_;cases h;exact cE (aC [])
 cases h;exact cX (dJ (aC []))
theorem jL{a0 XW r}(h:bY a0 XW=some r):
 WL Tryz.prog 127 [.v Q1 a0,.j2 135 [.YI (Wr.C8 (Wr.pr Q0 Q2)) XW]] (.v Wr.bool r) []:=by
 refine WL.of Tryz.func127 Y Tryz.ntmps127 Y ?_;intro S w u;unfold bY at h;refine aL [0,1] ?_;obtain⟨A,z,h⟩:=aA h;refine aI (.a 2 ?_);refine .k (aN (jU z) Tryz.call154 (.cons (.dir Y) (.cons (.dir Y) .nil))) (.f [4] ?_);cases h;exact aH (aY u dW Y (RV.tmp Y) .nil Y)
theorem sG{a0 r}(h:kD a0=some r):
 WL Tryz.prog 136 [.v Q0 a0] (.v aM r) []:=by
 refine WL.of Tryz.func136 Y Tryz.ntmps136 Y ?_;intro S w u;unfold kD at h;refine aI (.k (aO 101 By Y (.cons (Z.arr 8 (Z.int .u8)) .nil) Y) (.f [0,2] ?_));refine aI (.a 1 ?_);refine .k (fD (.inr Y) (by decide) Y Y) ?_;refine .a 2 ?_;refine .k (fD (.inr Y) (by decide) Y Y) ?_;refine .a 2 ?_;refine .k (fD (.inr Y) (by decide) Y Y) ?_;refine .a 3 ?_;refine .k (Nb (e:=(Wr.int .u8)) (zv:=(0:Int)) Bx vZ I5 Y Y (Z.arr 8 (Z.int .u8)) Y Y (.cons (.dir Y) (.cons (.dir Y) (.cons (.dir Y) (.cons (.dir Y) .nil))))) (.f [2] ?_);refine aH ?_;obtain rfl:=pT h;exact cA (σ':=⟨[(2,.ptr 90 0)],[(90,.box 28 [.v aM ([(IntKind.wrap .u8 (sh .shr .i64 a0 (24:Int))),(IntKind.wrap .u8 (sh .shr .i64 a0 (16:Int))),(IntKind.wrap .u8 (sh .shr .i64 a0 (8:Int))),(IntKind.wrap .u8 a0)]++List.replicate 4 (0:Int):aQ)])]⟩) (aC [(90,101)]) (aY u dW Y (cO Y Y Y uS kR) .nil Y)
theorem xG(A:Nat->Nat){a1 au fh r}(h:gV a1 au fh=some r):
 VZ Tryz.prog 138 [.ptr 9100 0,.YI Q1 a1] [(9000,.box 148 [.v Q0 au,.v Q2 fh] (some (A 9000))),(9100,.box 68 [.ptr 9000 0] (some (A 9100)))] (.v Q8 r.1) [(9000,.box 148 [.v Q0 r.2.1,.v Q2 r.2.2] (some (A 9000))),(9100,.box 68 [.ptr 9000 0] (some (A 9100)))]:=by
 refine VZ.of Tryz.func138 Y Tryz.ntmps138 Y ?_;intro S w R u;unfold gV at h;refine aL [0,1] ?_;refine aG ?_;obtain⟨C,z,h⟩:=aA h;obtain⟨D,B,h⟩:=aA h;refine eF 9 mixed (by exact(.k (aJ Y Y Y Oq Iv) (.k (aJ Y Y Y Oq Iv) (.k (aK Y) (.k (aB 0 Y wN Y S3 Y Y) (.k (aJ Y Y Y G3 S3) (.k (cY Y Y Y) (.k (cG Y GF Iw) (.k (tL Y yJ) (.k (aN (sG z) OM (.cons (.dir Y) .nil)) .nil)))))))))) (by exact(J.t (eN [9000] (Cb [(9000,9000)]) (eT _) (fun A=>iJ A B) KS (fun A=>(.box Y .nil Y))) (jz [0,2]))) ?_;cases h;exact aH (fA u Y (RV.tmp Y) (.cons Y (.cons Y .nil)))
theorem xH(A:Nat->Nat){a1 a2 aq fg r}(h:gW a1 a2 aq fg=some r):
 VZ Tryz.prog 140 [.ptr 9100 0,.YI Q0 a1,.YI Q5 a2] [(9000,.box 148 [.v Q0 aq,.v Q2 fg] (some (A 9000))),(9100,.box 68 [.ptr 9000 0] (some (A 9100)))] (.v Q8 r.1) [(9000,.box 148 [.v Q0 r.2.1,.v Q2 r.2.2] (some (A 9000))),(9100,.box 68 [.ptr 9000 0] (some (A 9100)))]:=by
 refine VZ.of Tryz.func140 Y Tryz.ntmps140 Y ?_;intro S w R u;unfold gW at h;refine aL [0,1,2] ?_;refine aG ?_;obtain⟨C,z,h⟩:=aA h;obtain⟨D,B,h⟩:=aA h;refine eF 12 mixed (by exact(.k (aJ Y Y Y Oq Iv) (.k (aJ Y Y Y Oq Iv) (.k (aK Y) (.k (aB 0 Y wN Y S3 Y Y) (.k (aJ Y Y Y G3 S3) (.k (cY Y Y Y) (.k (cG Y G3 S3) (.k (cY Y Y Y) (.k (cY Y Y Y) (.k (fB Y Ot Y S3 Y (.fst .here) Y) (.k (cG Y G3 S3) (.k (aN (sG z) OM (.cons (.dir Y) .nil)) .nil))))))))))))) (by exact(J.t (eN [9000] (Cb [(9000,9000)]) (eT _) (fun A=>iJ A B) KS (fun A=>(.box Y .nil Y))) (jz [0,3]))) ?_;cases h;exact aH (fA u Y (RV.tmp Y) (.cons Y (.cons Y .nil)))
theorem xI(A:Nat->Nat){a1 a2 aq fg r}(h:gX a1 a2 aq fg=some r):
 VZ Tryz.prog 141 [.ptr 9100 0,.YI Q0 a1,.YI Q5 a2] [(9000,.box 148 [.v Q0 aq,.v Q2 fg] (some (A 9000))),(9100,.box 68 [.ptr 9000 0] (some (A 9100)))] (.v Q8 r.1) [(9000,.box 148 [.v Q0 r.2.1,.v Q2 r.2.2] (some (A 9000))),(9100,.box 68 [.ptr 9000 0] (some (A 9100)))]:=by
 refine VZ.of Tryz.func141 Y Tryz.ntmps141 Y ?_;intro S w R u;unfold gX at h;refine aL [0,1,2] ?_;refine aG ?_;obtain⟨B,z,h⟩:=aA h;refine eF 11 mixed (by exact(.k (aJ Y Y Y Oq Iv) (.k (aJ Y Y Y Oq Iv) (.k (aK Y) (.k (aB 0 Y wN Y S3 Y Y) (.k (aJ Y Y Y G3 S3) (.k (cY Y Y Y) (.k (cG Y G3 S3) (.k (cY Y Y Y) (.k (cY Y Y Y) (.k (fB Y Ot Y kR Y (.snd .here) Y) (.k (cG Y uS kR) .nil)))))))))))) (by exact(J.t (eN [9000] (Cb [(9000,9000)]) (eT _) (fun A=>iJ A z) KS (fun A=>(.box Y .nil Y))) (jz [0,3]))) ?_;cases h;exact aH (fA u Y (RV.tmp Y) (.cons Y (.cons Y .nil)))
theorem xJ(A:Nat->Nat){XW m7 r}(h:gY XW m7=some r):
 VZ Tryz.prog 142 [.ptr 9100 0] [(9000,.box 148 [.v Q0 XW,.v Q2 m7] (some (A 9000))),(9100,.box 68 [.ptr 9000 0] (some (A 9100)))] (.v Q8 r.1) [(9000,.box 148 [.v Q0 r.2.1,.v Q2 r.2.2] (some (A 9000))),(9100,.box 68 [.ptr 9000 0] (some (A 9100)))]:=by
 refine VZ.of Tryz.func142 Y Tryz.ntmps142 Y ?_;intro S w R u;unfold gY at h;refine aL [0] ?_;obtain⟨B,z,h⟩:=aA h;refine aI (.a 1 ?_);refine .t (eN [9000] (Cb [(9000,9000)]) (eT _) (fun A=>oR A z) Tryz.call133 (fun A=>(.box Y .nil Y))) (.f [0,1] ?_);cases h;exact aH (fA u Y (RV.tmp Y) (.cons Y (.cons Y .nil)))
theorem xK(A:Nat->Nat){XW m7 r}(h:gZ XW m7=some r):
 VZ Tryz.prog 143 [.ptr 9100 0] [(9000,.box 148 [.v Q0 XW,.v Q2 m7] (some (A 9000))),(9100,.box 68 [.ptr 9000 0] (some (A 9100)))] (.v Q8 r.1) [(9000,.box 148 [.v Q0 r.2.1,.v Q2 r.2.2] (some (A 9000))),(9100,.box 68 [.ptr 9000 0] (some (A 9100)))]:=by
 refine VZ.of Tryz.func143 Y Tryz.ntmps143 Y ?_;intro S w R u;unfold gZ at h;refine aL [0] ?_;obtain⟨B,z,h⟩:=aA h;refine aI (.a 1 ?_);refine .t (eN [9000] (Cb [(9000,9000)]) (eT _) (fun A=>oR A z) Tryz.call133 (fun A=>(.box Y .nil Y))) (.f [0,1] ?_);cases h;exact aH (fA u Y (RV.tmp Y) (.cons Y (.cons Y .nil)))
theorem yA(A:Nat->Nat){q n0 n1 r}(h:iG q n0 n1=some r):
 WC Tryz.prog [(9000,A 9000),(9100,A 9100)] (bO (A 9000) (A 9100)) q [(9000,.box 148 [.v Q0 n0,.v Q2 n1] (some (A 9000))),(9100,.box 68 [.ptr 9000 0] (some (A 9100)))] (.v Q8 r.1) [(9000,.box 148 [.v Q0 r.2.1,.v Q2 r.2.2] (some (A 9000))),(9100,.box 68 [.ptr 9000 0] (some (A 9100)))]:=by
 unfold iG at h;rcases q with z | z | z | z | z | z | z | z
 ·exact(WC.l (WC.N0 .nil (.pr (.q8 (i:=9100) (by simp)) .pt) Tryz.call138 (xG A h)))
 ·exact(WC.r (WC.l (WC.N0 .nil (.pr (.q8 (i:=9100) (by simp)) (.pr .pt .pt)) Tryz.call140 (xH A h))))
 ·exact(WC.r (WC.r (WC.l (WC.N0 .nil (.pr (.q8 (i:=9100) (by simp)) (.pr .pt .pt)) Tryz.call141 (xI A h)))))
 ·exact(WC.r (WC.r (WC.r (WC.l (WC.N0 (.q8 (i:=9000) (by simp)) .nil OJ (kA A h))))))
 ·exact(WC.r (WC.r (WC.r (WC.r (WC.l (WC.N0 .nil (.q8 (i:=9100) (by simp)) Tryz.call142 (xJ A h)))))))
 ·exact(WC.r (WC.r (WC.r (WC.r (WC.r (WC.l (WC.N0 (.q8 (i:=9000) (by simp)) .nil Tryz.call130 (tC A h))))))))
 ·exact(WC.r (WC.r (WC.r (WC.r (WC.r (WC.r (WC.l (WC.N0 (.q8 (i:=9000) (by simp)) .nil OJ (kA A h)))))))))
 ·exact(WC.r (WC.r (WC.r (WC.r (WC.r (WC.r (WC.r (WC.N0 .nil (.q8 (i:=9100) (by simp)) Tryz.call143 (xK A h)))))))))
theorem tF(A:Nat->Nat){a0 XW m7 r}(h:eS a0 XW m7=some r):
 VZ Tryz.prog 129 [.v (Wr.sl (bO (A 9000) (A 9100))) a0] [(9000,.box 148 [.v Q0 XW,.v Q2 m7] (some (A 9000))),(9100,.box 68 [.ptr 9000 0] (some (A 9100)))] (.v Q8 r.1) [(9000,.box 148 [.v Q0 r.2.1,.v Q2 r.2.2] (some (A 9000))),(9100,.box 68 [.ptr 9000 0] (some (A 9100)))]:=by
 refine VZ.of Tryz.func129 Y Tryz.ntmps129 Y ?_;intro S w R B;unfold eS at h;refine aL [0] ?_;refine cU [6,7,8] ?_;obtain⟨P,I,L,M⟩:=cF h;refine iZ (σs:=fun u:Int×Int×Bw=>⟨[(6,.v (Wr.sl (bO (A 9000) (A 9100))) a0),(7,.v Q0 (a0.length:Int)),(8,.v Q0 u.1)],[(9000,.box 148 [.v Q0 u.2.1,.v Q2 u.2.2] (some (A 9000))),(9100,.box 68 [.ptr 9000 0] (some (A 9100)))]⟩) (fun z:Int×Bw=>⟨[],[(9000,.box 148 [.v Q0 z.1,.v Q2 z.2] (some (A 9000))),(9100,.box 68 [.ptr 9000 0] (some (A 9100)))]⟩) I (aC []) ?_ ?_
 ·intro z C;have h:=L _ C;refine aL [2] ?_;cases h;exact aH (fA B Y (RV.tmp Y) (.cons Y (.cons Y .nil)))
 intro u O h;refine aL [6,7,8,9] ?_;refine aG ?_;refine aU h Y (fun D h=>?_) (fun D h=>?_)
 ·refine aE ?_;refine aG ?_;refine bR ?_;obtain⟨Q,T,h⟩:=aA h;refine aL [4,6,7,8] ?_;obtain⟨U,N,h⟩:=aA h;refine aI (.a 1 ?_);refine .t (Nh (H:=[9000,9100]) (K:=[9000,9100]) [(9000,A 9000),(9100,A 9100)] (Cb [(9000,9000),(9100,9100)]) (eT _) Y ⟨⟨_,_,Y⟩,⟨_,_,Y⟩,trivial⟩ (WC.at2 (e:=bO) (A 9000) (A 9100) (fun E=>yA E N)) (fun _=> .box Y (.box Y .nil)) (fun _=> .box Y (.box Y .nil Y) Y) (fun _=>rfl) Y Y (fun _=>rfl) Y Y) (.f [5,6,7,8] ?_);refine aL [5,6,7,8,15] ?_;refine aU h Y (fun F h=>?_) (fun F h=>?_)
  ·refine aL [2] ?_;refine aH ?_;refine eI ?_;cases h;refine gC fun G=>?_;obtain rfl:=M _ G;exact fA B Y (RV.tmp Y) (.cons Y (.cons Y .nil))
  refine aE ?_;refine aZ ?_;refine dS [6,7,8] ?_;cases h;exact cE (aC [])
 cases h;exact cX (dJ (aC []))
theorem hO(A:Nat->Nat){WG WQ a1 a2 a3 r}(h:cZ WG WQ a1 a2 a3=some r):
 VZ Tryz.prog 102 [.ptr 9000 0,.v Q1 a1,.v Q0 a2,.v Q0 a3] [(9000,.box 148 [.v Q0 WG,.v Q2 WQ] (some (A 9000)))] (.v Q8 r.1) [(9000,.box 148 [.v Q0 r.2.1,.v Q2 r.2.2] (some (A 9000)))]:=by
 refine VZ.of Tryz.func102 Y Tryz.ntmps102 Y ?_;intro S w R D;unfold cZ at h;refine aI (.k (Jk 101 Y Y) (.f [0,1,2,3,4] ?_));refine BG (i:=101) Y fun u=>?_;refine wR (σ':=⟨[(0,.ptr 9000 0),(1,.v Q1 a1),(2,.v Q0 a2),(3,.v Q0 a3),(4,.ptr 101 0)],[(9000,.box 148 [.v Q0 WG,.v Q2 WQ] (some (A 9000))),(101,.box 68 [.ptr 9000 0] (some (u)))]⟩) (aC []) ?_;refine cU [0,1,2,3,4,21] ?_;refine aU h Y (fun Q h=>?_) (fun Q h=>?_)
 ·refine aL [0,8] ?_;cases h;exact aH (fA D Y (RV.tmp Y) (.cons Y .nil))
 refine aE ?_;refine aG ?_;refine aG ?_;obtain⟨x6,z,h⟩:=aA h;refine eU (σ':=⟨[(0,.ptr 9000 0),(1,.v Q1 a1),(2,.v Q0 a2),(3,.v Q0 a3),(4,.ptr 101 0),(37,.v Wr.bool x6)],[(9000,.box 148 [.v Q0 WG,.v Q2 WQ] (some (A 9000))),(101,.box 68 [.ptr 9000 0] (some (u)))]⟩) ?_ ?_
 ·refine cd z (fun E z=>?_) (fun E z=>?_)
  ·cases z;refine ja 2 ?_;exact(J.k (yU Y Y) jy)
  refine cd z (fun F z=>?_) (fun F z=>?_)
  ·cases z;refine ja 2 ?_;refine(J.k (yU Y Y) ?_);refine ja 4 ?_;exact(J.g E (Bc Y Y) jy)
  obtain⟨v9,fy,z⟩:=aA z;cases z;refine ja 2 ?_;refine(J.k (yU Y Y) ?_);refine ja 4 ?_;refine(J.g E (Bc Y Y) ?_);refine ja 4 ?_;exact(J.g F (tV (.cons (.dir Y) .nil)) (AI (GK.met 33 Y Y Y F) (HQ (jL fy) Tryz.call127 (.cons (.dir Y) (.fn1 Y Y Y (.VS sO sO) .nil)) YF.v Y) jy))
 refine aU h Y (fun T h=>?_) (fun T h=>?_)
 ·refine aL [0,8] ?_;cases h;exact aH (fA D Y (RV.tmp Y) (.cons Y .nil))
 refine aE ?_;obtain⟨L,kd,h⟩:=aA h;obtain⟨M,Y7,h⟩:=aA h;refine aI (.a 1 ?_);refine .k (aN (sG kd) OM (.cons (.dir Y) .nil)) ?_;refine .a 1 ?_;refine .k (aN (sG Y7) OM (.cons (.dir Y) .nil)) (.k (aO 106 By Y (.cons (Z.arr 8 (Z.int .u8)) .nil) Y) (.k (aO 107 By Y (.cons (Z.arr 8 (Z.int .u8)) .nil) Y) (.f [0,1,4,9,10] ?_)));refine aG ?_;refine wR (σ':=⟨[(0,.ptr 9000 0),(1,.v Q1 a1),(4,.ptr 101 0),(9,.YI aM L),(10,.ptr 107 0)],[(9000,.box 148 [.v Q0 WG,.v Q2 WQ] (some (A 9000))),(101,.box 68 [.ptr 9000 0] (some (u))),(107,.box 28 [.v aM M])]⟩) (Sw.Sub.mk id (.cons Y (.of_eq Y) (.cons Y (.of_eq Y) (.cons Y (.of_eq Y) (.cons Y (.D3 Y Y (.cons (.of_eq Y) .nil) sO) (.cons Y (.of_eq Y) .nil))))) (.box Y (.cons (.of_eq Y) (.cons (.of_eq Y) .nil)) (.box Y (.cons (.of_eq Y) .nil) (.box Y (.cons (.of_eq Y) .nil) .nil))) Y) ?_;refine wR (σ':=⟨[(0,.ptr 9000 0),(1,.v Q1 a1),(4,.ptr 101 0),(9,.YI aM L),(10,.YI aM M)],[(9000,.box 148 [.v Q0 WG,.v Q2 WQ] (some (A 9000))),(101,.box 68 [.ptr 9000 0] (some (u)))]⟩) (Sw.Sub.mk id (.cons Y (.of_eq Y) (.cons Y (.of_eq Y) (.cons Y (.of_eq Y) (.cons Y (.of_eq Y) (.cons Y (.D3 Y Y (.cons (.of_eq Y) .nil) sO) .nil))))) (.box Y (.cons (.of_eq Y) (.cons (.of_eq Y) .nil)) (.box Y (.cons (.of_eq Y) .nil) .nil)) Y) ?_;obtain⟨vy,th,h⟩:=aA h;obtain⟨ah,N,h⟩:=aA h;obtain⟨am,tg,h⟩:=aA h;obtain⟨dt,Y6,h⟩:=aA h;obtain⟨an,aa,h⟩:=aA h;obtain⟨C,Y5,h⟩:=aA h;refine eF 16 mixed (by exact(.k (aD Y) (.k (fO 113000 (eX th) KR (.cons (.dir Y) .nil) Y) (.k (aJ Y Y Y Oq Iv) (.k (aK Y) (.k (aB 0 Y wN Y S3 Y Y) (.k (aJ Y Y Y G3 S3) (.k (DO N Y Y Y Y vZ S5) (.k (Qt tg Y Y Y vZ S5) (.k (Lt Y6 (BH N) Y (.sl Y) tP I5 S5 Y Y Y) (.k (Ej aa Y vZ) (.k (cG Y uS kR) (.k (bP wG (.cons (Z.int .i64) (.cons (Z.arr 8 (Z.int .u8)) .nil)) (.cons Y (.dir Y) Y Y Y Y (.cons Y (.dir Y) Y Y Y Y .nil))) (.k (dM (e:=Q5) yJ jT Fk Y Y Y Y (.cons (.agg Y (.same (.same .nil)) (.VS sO sO) Y) .nil)) (XZ.append (.none Y) 114 Y5 Y Y (.sl Y) yJ Lj jT Y Y Y Y Y (.k (aO 115 Tryz.zeroValue71 Y (.cons (Z.sl Q5) .nil) Y) (XZ.store (.none Y) Y Y Y Y Y Y Y Iw .nil))))))))))))))))) (by exact(J.kp [0,4,11] [])) ?_;refine aI (.sub (σ':=⟨[(0,.ptr 9000 0),(4,.ptr 101 0),(11,.YI Q1 C)],[(9000,.box 148 [.v Q0 WG,.v Q2 WQ] (some (A 9000))),(101,.box 68 [.ptr 9000 0] (some (u)))]⟩) (Sw.Sub.mk id (.cons Y (.of_eq Y) (.cons Y (.of_eq Y) (.cons Y (.D3 Y Y (.cons (.S8 Y Y) .nil) sO) .nil))) (.box Y (.cons (.of_eq Y) (.cons (.of_eq Y) .nil)) (.box Y (.cons (.of_eq Y) .nil) .nil)) Y) (.k (nY .nil (.cons (.q8 Y Y) (.YI Y)) (.l .self)) (.k (rP (e:=(bO (A 9000) (u))) 116 Xo PK TT Y Y Y Y (.cons (.dir Y) .nil)) (.f [0,4,11,12] ?_))));refine cU [0,4,12,59,60,61] ?_;obtain⟨ap,ab,ac,aq⟩:=cF h;refine iZ (σs:=fun B:Int×(List aF)=>⟨[(0,.ptr 9000 0),(4,.ptr 101 0),(12,.ref 126),(59,.v Q1 C),(60,.v Q0 (C.length:Int)),(61,.v Q0 B.1)],[(9000,.box 148 [.v Q0 WG,.v Q2 WQ] (some (A 9000))),(101,.box 68 [.ptr 9000 0] (some (u))),(126,.arr 91 (bO (A 9000) (u)) B.2)]⟩) (fun I:(List aF)=>⟨[(0,.ptr 9000 0),(4,.ptr 101 0),(12,.ref 126)],[(9000,.box 148 [.v Q0 WG,.v Q2 WQ] (some (A 9000))),(101,.box 68 [.ptr 9000 0] (some (u))),(126,.arr 91 (bO (A 9000) (u)) I)]⟩) ab (aC [(126,116)]) ?_ ?_
 ·intro I P;have h:=ac _ P;obtain⟨O,ad,h⟩:=aA h;obtain⟨K0,td,h⟩:=aA h;refine aI (.a 2 ?_);refine .k (nY (.q8 Y Y) .nil (.r (.r (.r (.l .self))))) (.k (nY .nil (.q8 Y Y) (.r (.r (.r (.r (.l .self)))))) (.k (aJ Y Y Y Oq Iv) (.k (nY (.q8 Y Y) .nil (.r (.r (.r (.r (.r (.l .self))))))) (.k (aJ Y Y Y Oq Iv) (.k (nY (.q8 Y Y) .nil (.r (.r (.r (.r (.r (.r (.l .self)))))))) (.k (nY .nil (.q8 Y Y) (.r (.r (.r (.r (.r (.r (.r .self)))))))) (.k (dM (e:=(bO (A 9000) (u))) Xo PK TT Y Y Y Y (.cons (.dir Y) (.cons (.dir Y) (.cons (.dir Y) (.cons (.dir Y) (.cons (.dir Y) .nil)))))) (.t (bU 133 ad Y Y (.sl Y) Xo Tryz.typeInfo91 PK Y Y Y Y Y) (.sub (σ':=⟨[(0,.ptr 9000 0),(4,.ptr 101 0),(73,.ptr 9000 0),(74,.v (bO (A 9000) (u)) (.inr (.inr (.inr (.inl ((),())))):aF)),(75,.v (bO (A 9000) (u)) (.inr (.inr (.inr (.inr (.inl ((),()))))):aF)),(76,.ptr 9000 0),(77,.v (bO (A 9000) (u)) (.inr (.inr (.inr (.inr (.inr (.inl ((),())))))):aF)),(78,.ptr 9000 0),(79,.v (bO (A 9000) (u)) (.inr (.inr (.inr (.inr (.inr (.inr (.inl ((),()))))))):aF)),(80,.v (bO (A 9000) (u)) (.inr (.inr (.inr (.inr (.inr (.inr (.inr ((),()))))))):aF)),(81,.v (Wr.sl (bO (A 9000) (u))) ([(.inr (.inr (.inr (.inl ((),())))):aF),(.inr (.inr (.inr (.inr (.inl ((),()))))):aF),(.inr (.inr (.inr (.inr (.inr (.inl ((),())))))):aF),(.inr (.inr (.inr (.inr (.inr (.inr (.inl ((),()))))))):aF),(.inr (.inr (.inr (.inr (.inr (.inr (.inr ((),()))))))):aF)]:(List aF))),(82,.v (Wr.sl (bO (A 9000) (u))) O)],[(9000,.box 148 [.v Q0 WG,.v Q2 WQ] (some (A 9000))),(101,.box 68 [.ptr 9000 0] (some (u)))]⟩) (aC []) (.t (Jl (H:=[9000,101]) (K:=[9000,101]) [(9000,A 9000),(9100,u)] (Cb [(9000,9000),(9100,101)]) (eT _) ⟨⟨_,_,Y⟩,⟨_,_,Y⟩,trivial⟩ (VZ.at2 (ss:=fun U V=>[.v (Wr.sl (bO U V)) O]) (A 9000) u (fun X=>tF X td)) Tryz.call129 (.cons (.dir Y) .nil) (fun _=> .box Y (.box Y .nil)) (fun _=> .box Y (.box Y .nil Y) Y) (fun _=>rfl) Y Y (fun _=>rfl) Y Y) (.f [0,8] ?_)))))))))));cases h;exact aH (fA D Y (RV.tmp Y) (.cons Y .nil))
 intro B af h;refine aL [0,4,12,59,60,61,62] ?_;refine aG ?_;refine aU h Y (fun ij h=>?_) (fun ij h=>?_)
 ·refine aE ?_;refine aG ?_;refine bR ?_;obtain⟨G,au,h⟩:=aA h;refine aI (.a 3 ?_);refine .k (aO 130 Z3 Y (.cons (Z.int .i64) .nil) Y) (.k (aO 131 Fk Y (.cons (Z.int .i64) (.cons (Z.arr 8 (Z.int .u8)) .nil)) Y) ?_);refine .a 1 ?_;refine .t (bT Y Y Y Y (.VS sO sO) jT) (.f [0,4,12,13,14,59,60,61] ?_);refine wR (σ':=⟨[(0,.ptr 9000 0),(4,.ptr 101 0),(12,.ref 126),(13,.YI Q0 B.1),(14,.ptr 131 0),(59,.v Q1 C),(60,.v Q0 (C.length:Int)),(61,.v Q0 B.1)],[(9000,.box 148 [.v Q0 WG,.v Q2 WQ] (some (A 9000))),(101,.box 68 [.ptr 9000 0] (some (u))),(126,.arr 91 (bO (A 9000) (u)) B.2),(131,.box 204 [.v Q0 G.1,.v aM G.2])]⟩) (Sw.Sub.mk id (.cons Y (.of_eq Y) (.cons Y (.of_eq Y) (.cons Y (.of_eq Y) (.cons Y (.D3 Y Y (.cons (.of_eq Y) .nil) sO) (.cons Y (.of_eq Y) (.cons Y (.of_eq Y) (.cons Y (.of_eq Y) (.cons Y (.of_eq Y) .nil)))))))) (.box Y (.cons (.of_eq Y) (.cons (.of_eq Y) .nil)) (.box Y (.cons (.of_eq Y) .nil) (.arr Y (.box Y (.cons (.of_eq Y) (.cons (.of_eq Y) .nil)) .nil)))) Y) ?_;obtain⟨vx,te,h⟩:=aA h;refine eR (.a 1 ?_);refine .sub (σ':=⟨[(0,.ptr 9000 0),(4,.ptr 101 0),(12,.ref 126),(13,.YI Q0 B.1),(14,.YI Q5 G),(59,.v Q1 C),(60,.v Q0 (C.length:Int)),(61,.v Q0 B.1),(66,.ref 126)],[(9000,.box 148 [.v Q0 WG,.v Q2 WQ] (some (A 9000))),(101,.box 68 [.ptr 9000 0] (some (u))),(126,.arr 91 (bO (A 9000) (u)) B.2)]⟩) (Sw.Sub.mk id (.cons Y (.of_eq Y) (.cons Y (.of_eq Y) (.cons Y (.of_eq Y) (.cons Y (.of_eq Y) (.cons Y (.D3 Y Y (.cons (.of_eq Y) (.cons (.of_eq Y) .nil)) (.VS sO sO)) (.cons Y (.of_eq Y) (.cons Y (.of_eq Y) (.cons Y (.of_eq Y) (.cons Y (.of_eq Y) .nil))))))))) (.box Y (.cons (.of_eq Y) (.cons (.of_eq Y) .nil)) (.box Y (.cons (.of_eq Y) .nil) (.arr Y .nil))) Y) (.k (nY .nil (.cons (.q8 Y Y) (.cons (.YI Y) (.YI Y))) (.r (.l .self))) (.k (nY .nil (.cons (.q8 Y Y) (.cons (.YI Y) (.YI Y))) (.r (.r (.l .self)))) (.k (dM (e:=(bO (A 9000) (u))) Xo PK TT Y Y Y Y (.cons (.dir Y) (.cons (.dir Y) .nil))) (.t (bU 132 te Y Y (.sl Y) Xo Tryz.typeInfo91 PK Y Y Y Y Y) (.f [0,4,12,59,60,61] ?_)))));refine aZ ?_;refine dS [0,4,12,59,60,61] ?_;cases h;exact cE (aC [(126,132)])
 cases h;exact cX (dJ (aC []))
theorem zN(A:Nat->Nat){b0 b1 b2 b3 b4 b5 b6 b7 b8 b9 bA bB bC bD bE bF bG bH bI bJ r}(h:jE b0 b1 b2 b3 b4 b5 b6 b7 b8 b9 bA bB bC bD bE bF bG bH bI bJ=some r):
 VZ Tryz.prog 58 [.ptr 9000 1,.ptr 9100 0] [(9000,.box 87 [.v Q0 b0,.v (Wr.c9 (.pointer none) rfl) (),.v Q0 b1,.v Q0 b2,.v Q0 b3,.ref 9050,.v Lh b5,.ref 9051,.v Q0 b7,.v On b8,.v Q0 b9,.v Q0 bA,.ref 9052,.v (Wr.c9 (.pointer none) rfl) (),.v Q0 bC,.v Q0 bD,.v Q0 bE,.v Q0 bF,.v (Wr.pr Q0 Q0) bG,.ref 9053] (some (A 9000))),(9100,.box 148 [.v Q0 bI,.v Q2 bJ] (some (A 9100))),(9050,.arr 28 aM b4),(9051,.mp Q0 Q7 b6),(9052,.arr 3 Q0 bB),(9053,.arr 110 (Wr.pr Wr.bool (Wr.pr Wr.bool (Wr.sl (Wr.int .u8)))) bH)] (.v Q8 r.1) [(9000,.box 87 [.v Q0 b0,.ptr 9100 0,.v Q0 b1,.v Q0 r.2.1,.v Q0 r.2.2.1,.ref 400,.v Lh b5,.ref 401,.v Q0 b7,.v On b8,.v Q0 b9,.v Q0 bA,.ref 402,.v (Wr.c9 (.pointer none) rfl) (),.v Q0 bC,.v Q0 bD,.v Q0 bE,.v Q0 bF,.v (Wr.pr Q0 Q0) bG,.ref 403] (some (A 9000))),(9100,.box 148 [.v Q0 r.2.2.2.1,.v Q2 r.2.2.2.2] (some (A 9100))),(400,.arr 28 aM b4),(401,.mp Q0 Q7 b6),(402,.arr 3 Q0 bB),(403,.arr 110 (Wr.pr Wr.bool (Wr.pr Wr.bool (Wr.sl (Wr.int .u8)))) bH)]:=by
 refine VZ.of Tryz.func58 Y Tryz.ntmps58 Y ?_;intro S w R u;unfold jE at h;refine aL [0,1] ?_;refine aL [0,1] ?_;obtain⟨D,B,h⟩:=aA h;refine aI (.a 1 ?_);refine .k (rR (oX B) Tryz.call101 (.cons (.J7 Y Y (.VS sO sO)) .nil) (YF.WU (.v (.v (.v .nil))))) (.f [0,1,5,6,7] ?_);refine cU [0,1,5,6,7,19] ?_;refine aU h Y (fun z h=>?_) (fun z h=>?_)
 ·refine aL [0,1,4] ?_;cases h;exact aH (eY u Y (aC [(403,9053),(402,9052),(401,9051),(400,9050)]))
 refine aE ?_;refine aL [0,1] ?_;refine aG ?_;obtain⟨E,C,h⟩:=aA h;refine eF 9 mixed (by exact(.k (aD Y) (.k (aD Y) (.k (aK Y) (.k (aB 3 Y Fj Y S3 Y Y) (.k (aJ Y Y Y G3 S3) (.k (aD Y) (.k (aK Y) (.k (aB 4 Y Fj Y S3 Y Y) (.k (aJ Y Y Y G3 S3) .nil)))))))))) (by exact(J.t (sW (H:=[9100]) (K:=[9100]) (Cb [(9000,9100)]) (eT _) (fun A=>hO A C) KQ (.cons (.dir Y) (.cons (.og _) (.cons (.dir Y) (.cons (.dir Y) .nil)))) (fun A=>(.box Y .nil)) (fun A=>(.box Y .nil Y)) (fun _=>rfl) Y Y (fun _=>rfl) Y Y) (jz [0,1,4]))) ?_;cases h;exact aH (eY u Y (aC [(403,9053),(402,9052),(401,9051),(400,9050)]))
theorem Fo{a0 a1 r}(h:kK a0 a1=some r):
 WL Tryz.prog 47 [.YI (Wr.pr Q0 Q2) a0,.v Q0 a1] (.WU [.v aM r.1,.v Q8 r.2]) []:=by
 refine WL.of Tryz.func47 Y Tryz.ntmps47 Y ?_;intro S w A;unfold kK at h;refine aI (.k (aO 101 By Y (.cons (Z.arr 8 (Z.int .u8)) .nil) Y) (.f [0,1,4] ?_));refine aG ?_;refine aG ?_;obtain⟨D,u,h⟩:=aA h;refine eU (σ':=⟨[(0,.YI (Wr.pr Q0 Q2) a0),(1,.v Q0 a1),(4,.ptr 101 0),(15,.v Wr.bool D)],[(101,.box 28 [.v aM aR])]⟩) ?_ ?_
 ·refine cd u (fun z u=>?_) (fun z u=>?_)
  ·cases u;exact jy
  cases u;refine ja 5 ?_;exact(J.g z (rQ Y) (J.g z (fB Y wN Y S3 Y (.fst .here) Y) jy))
 refine aU h Y (fun C h=>?_) (fun C h=>?_)
 ·refine aI (.k (dH (e:=aM) (v:=aR) Bx vZ I5 Y Y (Z.arr 8 (Z.int .u8))) (.f [4,5] ?_));refine aH ?_;obtain rfl:=pT h;exact cA (σ':=⟨[(4,.ptr 90 0),(5,.v Q8 (some (1:Int)))],[(90,.box 28 [.v aM aR])]⟩) (aC [(90,101)]) (bS A dW Y (cO Y Y Y uS kR) (RV.tmp Y) .nil Y)
 refine aE ?_;obtain⟨B,E,h⟩:=aA h;refine aI (.a 1 ?_);refine .k (rQ Y) (.k (fB Y wN Y lG Y (.snd .here) Y) ?_);refine .a 2 ?_;refine .k (aN (qI E) RY (.cons (.dir Y) (.cons (.dir Y) .nil))) (.f [4,5] ?_);refine aH ?_;obtain rfl:=pT h;exact cA (σ':=⟨[(4,.ptr 90 0),(5,.v Q8 B.2)],[(90,.box 28 [.v aM B.1])]⟩) (aC [(90,101)]) (bS A dW Y (cO Y Y Y uS kR) (RV.tmp Y) .nil Y)
theorem kX{a0 r}(h:gD a0=some r):
 WL Tryz.prog 30 [.YI (Wr.pr Q0 Q2) a0] (.WU [.ref 0,.v Q8 r.2]) [(0,.arr 28 aM r.1)]:=by
 refine WL.of Tryz.func30 Y Tryz.ntmps30 Y ?_;intro S w z;unfold gD at h;refine aI (.k (aS 101 28 aM) (.f [0] ?_));refine aI (.k (aS 102 28 aM) (.f [0,4] ?_));refine jO (.a 1 ?_);refine .k (rQ Y) (.k (fB Y wN Y S3 Y (.fst .here) Y) (.f [0,4,11,12] ?_));obtain⟨M,F,G,H⟩:=cF h;refine iZ (σs:=fun u:Int×iM=>⟨[(0,.YI (Wr.pr Q0 Q2) a0),(4,.ref 114),(11,.v Q0 a0.1),(12,.v Q0 u.1)],[(114,.arr 28 aM u.2)]⟩) (fun A:iM=>⟨[(4,.ref 114)],[(114,.arr 28 aM A)]⟩) F (aC [(114,102)]) ?_ ?_
 ·intro A B;have h:=G _ B;refine aL [2,3] ?_;cases h;exact aH (wT z dW Y (aC [(0,114)]))
 intro u L h;refine aL [0,4,11,12,13] ?_;refine aG ?_;refine aU h Y (fun C h=>?_) (fun C h=>?_)
 ·refine aE ?_;refine aG ?_;refine bR ?_;refine aL [0,4,5,11,12] ?_;obtain⟨N,I,h⟩:=aA h;refine aI (.a 2 ?_);refine .k (aN (Fo I) Tryz.call47 (.cons (.dir Y) (.cons (.dir Y) .nil))) ?_;refine .a 3 ?_;refine .k (aO 120 By Y (.cons (Z.arr 8 (Z.int .u8)) .nil) Y) (.f [0,4,6,7,11,12] ?_);refine cU [0,4,6,7,11,12,22] ?_;refine aU h Y (fun D h=>?_) (fun D h=>?_)
  ·refine aI (.a 1 ?_);refine .k (aS 121 28 aM) (.f [2,3] ?_);refine aH ?_;refine eI ?_;cases h;refine gC fun E=>?_;obtain rfl:=H _ E;exact wT z dW Y (aC [(0,121)])
  refine aE ?_;obtain⟨O,K,h⟩:=aA h;refine eR (.a 2 ?_);refine .k (dM (e:=aM) Ka kR By Y Y Y Y (.cons (.dir Y) .nil)) (.t (bU 122 K Y Y (.sl Y) Ka Bx kR Y Y Y Y Y) (.f [0,4,11,12] ?_));refine aZ ?_;refine dS [0,4,11,12] ?_;cases h;exact cE (aC [(114,122)])
 cases h;exact cX (dJ (aC []))
theorem vM(A:Nat->Nat){b0 b1 b2 b3 b4 b5 b6 b7 b8 b9 bA bB bC bD bE bF bG bH bI bJ r}(h:fR b0 b1 b2 b3 b4 b5 b6 b7 b8 b9 bA bB bC bD bE bF bG bH bI bJ=some r):
 VZ Tryz.prog 59 [.ptr 9000 1] [(9000,.box 87 [.v Q0 b0,.ptr 9100 0,.v Q0 b1,.v Q0 b2,.v Q0 b3,.ref 9050,.v Lh b5,.ref 9051,.v Q0 b7,.v On b8,.v Q0 b9,.v Q0 bA,.ref 9052,.v (Wr.c9 (.pointer none) rfl) (),.v Q0 bC,.v Q0 bD,.v Q0 bE,.v Q0 bF,.v (Wr.pr Q0 Q0) bG,.ref 9053] (some (A 9000))),(9100,.box 148 [.v Q0 bI,.v Q2 bJ] (some (A 9100))),(9050,.arr 28 aM b4),(9051,.mp Q0 Q7 b6),(9052,.arr 3 Q0 bB),(9053,.arr 110 (Wr.pr Wr.bool (Wr.pr Wr.bool (Wr.sl (Wr.int .u8)))) bH)] (.WU []) [(9000,.box 87 [.v Q0 b0,.ptr 9100 0,.v Q0 b1,.v Q0 b2,.v Q0 b3,.ref 400,.v Lh b5,.ref 401,.v Q0 b7,.v On b8,.v Q0 b9,.v Q0 bA,.ref 402,.v (Wr.c9 (.pointer none) rfl) (),.v Q0 bC,.v Q0 bD,.v Q0 bE,.v Q0 bF,.v (Wr.pr Q0 Q0) bG,.ref 403] (some (A 9000))),(9100,.box 148 [.v Q0 bI,.v Q2 bJ] (some (A 9100))),(400,.arr 28 aM b4),(401,.mp Q0 Q7 r),(402,.arr 3 Q0 bB),(403,.arr 110 (Wr.pr Wr.bool (Wr.pr Wr.bool (Wr.sl (Wr.int .u8)))) bH)]:=by
 refine VZ.of Tryz.func59 Y Tryz.ntmps59 Y ?_;intro S w R u;unfold fR at h;refine aG ?_;obtain⟨D,z,h⟩:=aA h;obtain⟨B,C,h⟩:=aA h;refine eF 14 mixed (by exact(.k (aD Y) (.k (aK Y) (.k (aB 10 Y wA Y Zz Y Y) (.k (aJ Y Y Y PG Zz) (.k (aD Y) (.k (aK Y) (.k (aB 1 Y wA Y Lk Y Y) (.k (aB 3 Y Fj Y S3 Y Y) (.k (aJ Y Y Y G3 S3) (.k (aD Y) (.k (aK Y) (.k (aB 5 Y wA Y yI Y Y) (.k (aJ Y Y Y Uf yI) (.k (Qq (qX 102000 (cQ z) QV (.cons (.ref Y Y) .nil) Y YF.ref (YR.arr YR.nil)) (fun _=>(Sw.Sub.mk id (.cons Y (.S8 Y Y) .nil) .nil Y)) Y) .nil))))))))))))))) (by exact(J.t (Nk C Y Y Y Y RJ U3 (s8.int U3) Y) (J.kp [0] []))) ?_;refine eF 11 mixed (by exact(.k (aD Y) (.k (aK Y) (.k (aB 10 Y wA Y Zz Y Y) (.k (aJ Y Y Y PG Zz) (.k (aD Y) (.k (aK Y) (.k (aB 1 Y wA Y Lk Y Y) (.k (aB 3 Y Fj Y S3 Y Y) (.k (aJ Y Y Y G3 S3) (.k (cY Y Y Y) (.k (cY Y Y Y) .nil)))))))))))) (by exact(J.t (Nl Y Y Y RJ U3 (s8.int U3) Y) (J.kp [0] []))) ?_;refine AJ ?_;obtain rfl:=pT h;exact cA (σ':=⟨[(0,.ptr 9000 1)],[(9000,.box 87 [.v Q0 b0,.ptr 9100 0,.v Q0 b1,.v Q0 b2,.v Q0 b3,.ref 400,.v Lh b5,.ref 401,.v Q0 b7,.v On b8,.v Q0 b9,.v Q0 bA,.ref 402,.v (Wr.c9 (.pointer none) Y) (),.v Q0 bC,.v Q0 bD,.v Q0 bE,.v Q0 bF,.v (Wr.pr Q0 Q0) bG,.ref 403] (some (A 9000))),(9100,.box 148 [.v Q0 bI,.v Q2 bJ] (some (A 9100))),(400,.arr 28 aM b4),(401,.mp Q0 Q7 (Gm B (ar .sub .i64 (ar .sub .i64 b2 (4:Int)) (1:Int)))),(402,.arr 3 Q0 bB),(403,.arr 110 (Wr.pr Wr.bool (Wr.pr Wr.bool (Wr.sl (Wr.int .u8)))) bH)]⟩) (aC [(403,9053),(402,9052),(401,9051),(400,9050)]) (En u Y (.cons Y (.cons Y (.cons Y (.cons Y (.cons Y (.cons Y .nil)))))))
theorem qB(A:Nat->Nat){b0 b1 b2 b3 b4 b5 b6 b7 b8 b9 bA bB bC bD bE bF bG bH bI bJ r}(h:fE b0 b1 b2 b3 b4 b5 b6 b7 b8 b9 bA bB bC bD bE bF bG bH bI bJ=some r):
 VZ Tryz.prog 41 [.ptr 9000 0,.ptr 9100 0] [(9000,.box 87 [.v Q0 b0,.v (Wr.c9 (.pointer none) rfl) (),.v Q0 b1,.v Q0 b2,.v Q0 b3,.v Q7 b4,.v Lh b5,.v (Wr.Y3 Q0 Q7) b6,.v Q0 b7,.v On b8,.v Q0 b9,.v Q0 bA,.v mH bB,.v (Wr.c9 (.pointer none) rfl) (),.v Q0 bC,.v Q0 bD,.v Q0 bE,.v Q0 bF,.v (Wr.pr Q0 Q0) bG,.ref 9050] (some (A 9000))),(9100,.box 148 [.v Q0 bI,.v Q2 bJ] (some (A 9100))),(9050,.arr 110 (Wr.pr Wr.bool (Wr.pr Wr.bool (Wr.sl (Wr.int .u8)))) bH)] (.v Q8 r.1) [(9000,.box 87 [.v Q0 b0,.ptr 9100 0,.v Q0 r.2.1,.v Q0 r.2.2.1,.v Q0 r.2.2.2.1,.ref 400,.v Lh r.2.2.2.2.2.1,.ref 401,.v Q0 r.2.2.2.2.2.2.2.1,.v On r.2.2.2.2.2.2.2.2.1,.v Q0 r.2.2.2.2.2.2.2.2.2.1,.v Q0 r.2.2.2.2.2.2.2.2.2.2.1,.ref 402,.v (Wr.c9 (.pointer none) rfl) (),.v Q0 bC,.v Q0 bD,.v Q0 bE,.v Q0 bF,.v (Wr.pr Q0 Q0) bG,.ref 403] (some (A 9000))),(9100,.box 148 [.v Q0 r.2.2.2.2.2.2.2.2.2.2.2.2.1,.v Q2 r.2.2.2.2.2.2.2.2.2.2.2.2.2] (some (A 9100))),(400,.arr 28 aM r.2.2.2.2.1),(401,.mp Q0 Q7 r.2.2.2.2.2.2.1),(402,.arr 3 Q0 r.2.2.2.2.2.2.2.2.2.2.2.1),(403,.arr 110 (Wr.pr Wr.bool (Wr.pr Wr.bool (Wr.sl (Wr.int .u8)))) bH)]:=by
 refine VZ.of Tryz.func41 Y Tryz.ntmps41 Y ?_;intro S w R z;unfold fE at h;refine aL [0,1] ?_;refine aI (.a 5 ?_);refine .k (bP Me (.cons (Z.c9 (u:=(.pointer none)) Y) (.cons (Z.int .i64) (.cons (Z.int .i64) (.cons (Z.int .i64) .nil)))) (.cons Y (.dir Y) Y Y Y Y .nil)) (.k (Gh 101 Q0 Q7) (.k (fN (new:=[(103,.arr 28 aM ([]:iM)),(102,.arr 3 Q0 ([]:kM))]) CT (.cons (Z.c9 (u:=(.pointer none)) Y) (.cons (Z.int .i64) (.cons (Z.int .i64) (.cons (Z.int .i64) (.ref 103 Y (.cons (Z.pr (Z.int .i64) (Z.pr (Z.sl Q5) (Z.pr (Z.sl pH) Z.bool))) (.cons (Z.Y3 Q0 Q7) (.cons (Z.int .i64) (.cons (Z.pr (Z.int .i64) (Z.pr (Z.int .i64) (Z.sl Q4))) (.cons (Z.int .i64) (.cons (Z.int .i64) (.ref 102 Y .nil)))))))))))) (.cons (.cons .nil)) Y (.agg 0 4 Y Y Y Y Y Y (.cons Y (.dir Y) Y Y Y Y (.cons Y (.dir Y) Y Y Y Y .nil)))) ?_));refine .a 2 ?_;refine .t (vX 1 12 Y Y Y Y Y Y Y PJ) (.f [0,1] ?_);obtain⟨F,C,h⟩:=aA h;refine jO (.a 5 ?_);refine .t (eN [9000,9100,103,101,102,9050] (vC [(9000,9000),(9100,9100),(9050,103),(9051,101),(9052,102),(9053,9050),(400,104),(401,105),(402,106),(403,107)]) (dG Y) (fun A=>zN A C) UB (fun A=>(.box Y (.box Y (.arr (.mp (.arr (.arr .nil Y) Y) Y) Y) Y) Y))) (.f [0,1,5] ?_);refine aL [0,1,5,25] ?_;refine aU h Y (fun B h=>?_) (fun B h=>?_)
 ·refine aL [0,1,4] ?_;cases h;exact aH (eY z Y (aC [(403,107),(402,106),(401,105),(400,104)]))
 refine aE ?_;obtain⟨G,D,h⟩:=aA h;refine aI (.a 1 ?_);refine .k (qX 108000 (kX D) TL (.cons (.J7 Y Y (.VS sO sO)) .nil) Y (YF.WU (.ref (.v .nil))) (YR.arr YR.nil)) (.f [0,1,6,7] ?_);refine aL [0,1,7] ?_;refine aI (.a 7 ?_);refine .k (Bh (bP zC (.cons (Z.int .i64) (.cons (Z.sl Q5) (.cons (Z.sl pH) (.cons Z.bool .nil)))) (.cons Y (.dir Y) Y Y Y Y (.cons Y (.dir Y) Y Y Y Y .nil))) (.VS sO (.VS sO (.VS sO sO))) Y) (.f [0,1,7] ?_);obtain⟨H,E,h⟩:=aA h;refine aI (.a 3 ?_);refine .t (eN [9000,9100,108000,105,106,107] (vC [(9000,9000),(9100,9100),(9050,108000),(9051,105),(9052,106),(9053,107),(400,109),(401,110),(402,111),(403,112)]) (dG Y) (fun A=>vM A E) Tryz.call59 (fun A=>(.box Y (.box Y (.arr (.mp (.arr (.arr .nil Y) Y) Y) Y) Y) Y))) (.f [0,1,7] ?_);refine aL [0,1,4] ?_;cases h;exact aH (eY z Y (aC [(403,112),(402,111),(401,110),(400,109)]))
theorem sJ(A:Nat->Nat){b0 b1 b2 b3 b4 b5 b6 b7 b8 b9 bA bB bC bD bE bF bG bH bI bJ bK bL r}(h:gH b0 b1 b2 b3 b4 b5 b6 b7 b8 b9 bA bB bC bD bE bF bG bH bI bJ bK bL=some r):
 VZ Tryz.prog 58 [.ptr 9000 18,.ptr 9200 0] [(9000,.box 87 [.v Q0 b0,.ptr 9100 0,.v Q0 b1,.v Q0 b2,.v Q0 b3,.ref 9050,.v Lh b5,.ref 9051,.v Q0 b7,.v On b8,.v Q0 b9,.v Q0 bA,.ref 9052,.v (Wr.c9 (.pointer none) rfl) (),.v Q0 bC,.v Q0 bD,.v Q0 bE,.v Q0 bF,.v (Wr.pr Q0 Q0) bG,.ref 9053] (some (A 9000))),(9100,.box 148 [.v Q0 bI,.v Q2 bJ] (some (A 9100))),(9200,.box 148 [.v Q0 bK,.v Q2 bL] (some (A 9200))),(9050,.arr 28 aM b4),(9051,.mp Q0 Q7 b6),(9052,.arr 3 Q0 bB),(9053,.arr 110 (Wr.pr Wr.bool (Wr.pr Wr.bool (Wr.sl (Wr.int .u8)))) bH)] (.v Q8 r.1) (kF 9000 (some (A 9000)) 9100 (some (A 9100)) 9200 (some (A 9200)) 400 401 402 403 b0 b1 b2 b3 b4 b5 b6 b7 b8 b9 bA bB bC r.2.1 r.2.2.1 bF bG bH bI bJ r.2.2.2.1 r.2.2.2.2):=by
 refine VZ.of Tryz.func58 Y Tryz.ntmps58 Y ?_;intro S w R u;unfold gH at h;refine aL [0,1] ?_;refine aL [0,1] ?_;obtain⟨D,B,h⟩:=aA h;refine aI (.a 1 ?_);refine .k (rR (oX B) Tryz.call101 (.cons (.J7 Y Y (.VS sO sO)) .nil) (YF.WU (.v (.v (.v .nil))))) (.f [0,1,5,6,7] ?_);refine cU [0,1,5,6,7,19] ?_;refine aU h Y (fun z h=>?_) (fun z h=>?_)
 ·refine aL [0,1,4] ?_;cases h;exact aH (eY u Y (aC [(403,9053),(402,9052),(401,9051),(400,9050)]))
 refine aE ?_;refine aL [0,1] ?_;refine aG ?_;obtain⟨E,C,h⟩:=aA h;refine eF 9 mixed (by exact(.k (aD Y) (.k (aD Y) (.k (aK Y) (.k (aB 20 Y Fj Y S3 Y Y) (.k (aJ Y Y Y G3 S3) (.k (aD Y) (.k (aK Y) (.k (aB 21 Y Fj Y S3 Y Y) (.k (aJ Y Y Y G3 S3) .nil)))))))))) (by exact(J.t (sW (H:=[9200]) (K:=[9200]) (Cb [(9000,9200)]) (eT _) (fun A=>hO A C) KQ (.cons (.dir Y) (.cons (.og _) (.cons (.dir Y) (.cons (.dir Y) .nil)))) (fun A=>(.box Y .nil)) (fun A=>(.box Y .nil Y)) (fun _=>rfl) Y Y (fun _=>rfl) Y Y) (jz [0,1,4]))) ?_;cases h;exact aH (eY u Y (aC [(403,9053),(402,9052),(401,9051),(400,9050)]))
end Go.Cn
set_option maxRecDepth 100000
set_option maxHeartbeats 4000000
namespace Go.Cn
open Go Go.Sw Go.Mo Go.Proofs
variable {gobj:Obj}
theorem wO(A:Nat->Nat){b0 b1 b2 b3 b4 b5 b6 b7 b8 b9 bA bB bC bD bE bF bG bH bI bJ bK bL r}(h:gN b0 b1 b2 b3 b4 b5 b6 b7 b8 b9 bA bB bC bD bE bF bG bH bI bJ bK bL=some r):
 VZ Tryz.prog 42 [.ptr 9000 0,.ptr 9200 0] [(9000,.box 87 [.v Q0 b0,.ptr 9100 0,.v Q0 b1,.v Q0 b2,.v Q0 b3,.ref 9050,.v Lh b5,.ref 9051,.v Q0 b7,.v On b8,.v Q0 b9,.v Q0 bA,.ref 9052,.v (Wr.c9 (.pointer none) rfl) (),.v Q0 bC,.v Q0 bD,.v Q0 bE,.v Q0 bF,.v (Wr.pr Q0 Q0) bG,.ref 9053] (some (A 9000))),(9100,.box 148 [.v Q0 bI,.v Q2 bJ] (some (A 9100))),(9200,.box 148 [.v Q0 bK,.v Q2 bL] (some (A 9200))),(9050,.arr 28 aM b4),(9051,.mp Q0 Q7 b6),(9052,.arr 3 Q0 bB),(9053,.arr 110 (Wr.pr Wr.bool (Wr.pr Wr.bool (Wr.sl (Wr.int .u8)))) bH)] (.v Q8 r.1) (kF 9000 (some (A 9000)) 9100 (some (A 9100)) 9200 (some (A 9200)) 400 401 402 403 b0 b1 b2 b3 b4 b5 b6 b7 b8 b9 bA bB r.2.1 r.2.2.1 r.2.2.2.1 r.2.2.2.2.1 r.2.2.2.2.2.1 bH bI bJ r.2.2.2.2.2.2.1 r.2.2.2.2.2.2.2):=by
 refine VZ.of Tryz.func42 Y Tryz.ntmps42 Y ?_;intro S w R z;unfold gN at h;refine aL [0,1] ?_;refine aI (.a 5 ?_);refine .k (bP Me (.cons (Z.c9 (u:=(.pointer none)) Y) (.cons (Z.int .i64) (.cons (Z.int .i64) (.cons (Z.int .i64) .nil)))) (.cons Y (.dir Y) Y Y Y Y .nil)) (.k (bP Mf (.cons (Z.int .i64) (.cons (Z.int .i64) .nil)) (.cons Y (.dir Y) Y Y Y Y .nil)) (.k (bP CU (.cons (Z.c9 (u:=(.pointer none)) Y) (.cons (Z.int .i64) (.cons (Z.int .i64) (.cons (Z.int .i64) (.cons (Z.int .i64) (.cons (Z.pr (Z.int .i64) (Z.int .i64)) .nil)))))) (.agg 0 4 Y Y Y Y Y Y (.cons Y (.dir Y) Y Y Y Y (.cons Y (.agg Y (.same (.same .nil)) (.VS sO sO) Y) Y Y Y Y .nil)))) ?_));refine .a 2 ?_;refine .t (vX 13 6 Y Y Y Y Y Y Y TR) (.f [0,1] ?_);obtain⟨C,B,h⟩:=aA h;refine aI (.a 5 ?_);refine .t (eN [9000,9100,9200,9050,9051,9052,9053] (vC [(9000,9000),(9100,9100),(9200,9200),(9050,9050),(9051,9051),(9052,9052),(9053,9053),(400,101),(401,102),(402,103),(403,104)]) (dG Y) (fun A=>sJ A B) UB (fun A=>(.box Y (.box Y (.box Y (.arr (.mp (.arr (.arr .nil Y) Y) Y) Y) Y) Y) Y))) (.f [0,1,4] ?_);cases h;exact aH (eY z Y (aC [(403,104),(402,103),(401,102),(400,101)]))
def vN(r:(Option Q3)×(Option Int)):Slot:=match r.1 with | none=> .WU [.v (Wr.c9 (.pointer none) rfl) (),.v Q8 r.2] | some z=> .WU [.ptr 300 0,.v Q8 r.2]
def vO(r:(Option Q3)×(Option Int)):List (Nat×WA):=match r.1 with | none=>[] | some z=>(Tx 300 none 301 none 302 none 400 401 402 403 z)
theorem Am{a0 r}(h:iH a0=some r):
 WL Tryz.prog 24 [.v Q0 a0] (vN r) (vO r):=by
 refine WL.of Tryz.func24 Y Tryz.ntmps24 Y ?_;intro S w z;unfold iH at h;refine aI (.k (eK Y) (.f [0] ?_));refine aI (.a 1 ?_);refine .k (fN (new:=[(101,.arr 110 (Wr.pr Wr.bool (Wr.pr Wr.bool (Wr.sl (Wr.int .u8)))) ([]:Ud))]) OS (.cons (Z.int .i64) (.cons (Z.c9 (u:=(.pointer none)) Y) (.cons (Z.int .i64) (.cons (Z.int .i64) (.cons (Z.int .i64) (.cons (Z.sl aM) (.cons (Z.pr (Z.int .i64) (Z.pr (Z.sl Q5) (Z.pr (Z.sl pH) Z.bool))) (.cons (Z.Y3 Q0 Q7) (.cons (Z.int .i64) (.cons (Z.pr (Z.int .i64) (Z.pr (Z.int .i64) (Z.sl Q4))) (.cons (Z.int .i64) (.cons (Z.int .i64) (.cons (Z.sl Q0) (.cons (Z.c9 (u:=(.pointer none)) Y) (.cons (Z.int .i64) (.cons (Z.int .i64) (.cons (Z.int .i64) (.cons (Z.int .i64) (.cons (Z.pr (Z.int .i64) (Z.int .i64)) (.ref 101 Y .nil)))))))))))))))))))) (.cons .nil) Y (.cons Y (.dir Y) Y Y Y Y .nil)) (.k (zU 102 Y Y) (.f [0,4] ?_));refine aG ?_;obtain⟨N,B,h⟩:=aA h;rcases G0:N.1 with _ | z2
 ·replace h:=vV G0 h;refine eR (.a 1 ?_);refine .k (aN (tQ G0 B) RX (.cons (.dir Y) .nil)) (.f [0,4,5,6] ?_);refine cU [0,4,5,6,18] ?_;refine aU h Y (fun E h=>?_) (fun E h=>?_)
  ·refine aI (.a 1 ?_);refine .k (eK Y) (.f [2,3] ?_);cases h;exact aH (bS z dW Y (RV.tmp Y) (RV.tmp Y) .nil Y)
  refine aE ?_;refine aG ?_;obtain⟨O,C,h⟩:=aA h;rcases qo:O.1 with _ | z5
  ·replace h:=vV qo h;refine eR (.a 1 ?_);refine .k (aN (tQ qo C) RX (.cons (.dir Y) .nil)) (.f [0,4,5,6,7] ?_);refine cU [0,4,5,6,7,26] ?_;refine aU h Y (fun F h=>?_) (fun F h=>?_)
   ·refine aI (.a 1 ?_);refine .k (eK Y) (.f [2,3] ?_);cases h;exact aH (bS z dW Y (RV.tmp Y) (RV.tmp Y) .nil Y)
   refine aE ?_;refine aL [4,5,7] ?_;refine aG ?_;refine aG ?_;cases h
  ·replace h:=vW qo h;refine eR (.a 1 ?_);refine .k (fO 105000 (tT qo C) RX (.cons (.dir Y) .nil) Y) (.f [0,4,5,6,7] ?_);refine cU [0,4,5,6,7,26] ?_;refine aU h Y (fun G h=>?_) (fun G h=>?_)
   ·refine aI (.a 1 ?_);refine .k (eK Y) (.f [2,3] ?_);cases h;exact aH (bS z dW Y (RV.tmp Y) (RV.tmp Y) .nil Y)
   refine aE ?_;refine aL [4,5,7] ?_;refine aG ?_;refine aG ?_;cases h
 ·replace h:=vW G0 h;refine eR (.a 1 ?_);refine .k (fO 106000 (tT G0 B) RX (.cons (.dir Y) .nil) Y) (.f [0,4,5,6] ?_);refine cU [0,4,5,6,18] ?_;refine aU h Y (fun H h=>?_) (fun H h=>?_)
  ·refine aI (.a 1 ?_);refine .k (eK Y) (.f [2,3] ?_);cases h;exact aH (bS z dW Y (RV.tmp Y) (RV.tmp Y) .nil Y)
  refine aE ?_;refine aG ?_;obtain⟨P,D,h⟩:=aA h;rcases oq:P.1 with _ | bd
  ·replace h:=vV oq h;refine eR (.a 1 ?_);refine .k (aN (tQ oq D) RX (.cons (.dir Y) .nil)) (.f [0,4,5,6,7] ?_);refine cU [0,4,5,6,7,26] ?_;refine aU h Y (fun I h=>?_) (fun I h=>?_)
   ·refine aI (.a 1 ?_);refine .k (eK Y) (.f [2,3] ?_);cases h;exact aH (bS z dW Y (RV.tmp Y) (RV.tmp Y) .nil Y)
   refine aE ?_;refine aL [4,5,7] ?_;obtain⟨U,Q,h⟩:=aA h;refine jO (.a 2 ?_);refine .t (eN [102,106000,101] (vC [(9000,102),(9100,106000),(9050,101),(400,108),(401,109),(402,110),(403,111)]) (dG Y) (fun A=>qB A Q) Tryz.call41 (fun A=>(.box Y (.box Y (.arr (.mp (.arr (.arr .nil Y) Y) Y) Y) Y) Y))) (.f [4,7,8] ?_);refine aL [4,7,8,44] ?_;refine aU h Y (fun K h=>?_) (fun K h=>?_)
   ·refine aI (.a 1 ?_);refine .k (eK Y) (.f [2,3] ?_);cases h;exact aH (bS z dW Y (RV.tmp Y) (RV.tmp Y) .nil Y)
   refine aE ?_;refine aG ?_;cases h
  ·replace h:=vW oq h;refine eR (.a 1 ?_);refine .k (fO 112000 (tT oq D) RX (.cons (.dir Y) .nil) Y) (.f [0,4,5,6,7] ?_);refine cU [0,4,5,6,7,26] ?_;refine aU h Y (fun L h=>?_) (fun L h=>?_)
   ·refine aI (.a 1 ?_);refine .k (eK Y) (.f [2,3] ?_);cases h;exact aH (bS z dW Y (RV.tmp Y) (RV.tmp Y) .nil Y)
   refine aE ?_;refine aL [4,5,7] ?_;obtain⟨V,R,h⟩:=aA h;refine jO (.a 2 ?_);refine .t (eN [102,106000,101] (vC [(9000,102),(9100,106000),(9050,101),(400,113),(401,114),(402,115),(403,116)]) (dG Y) (fun A=>qB A R) Tryz.call41 (fun A=>(.box Y (.box Y (.arr (.mp (.arr (.arr .nil Y) Y) Y) Y) Y) Y))) (.f [4,7,8] ?_);refine aL [4,7,8,44] ?_;refine aU h Y (fun M h=>?_) (fun M h=>?_)
   ·refine aI (.a 1 ?_);refine .k (eK Y) (.f [2,3] ?_);cases h;exact aH (bS z dW Y (RV.tmp Y) (RV.tmp Y) .nil Y)
   refine aE ?_;obtain⟨X,T,h⟩:=aA h;refine aI (.a 3 ?_);refine .t (eN [102,106000,112000,113,114,115,116] (vC [(9000,102),(9100,106000),(9200,112000),(9050,113),(9051,114),(9052,115),(9053,116),(400,117),(401,118),(402,119),(403,120)]) (dG Y) (fun A=>wO A T) Tryz.call42 (fun A=>(.box Y (.box Y (.box Y (.arr (.mp (.arr (.arr .nil Y) Y) Y) Y) Y) Y) Y))) (.f [2,3] ?_);cases h;exact aH (wT z dW Y (aC [(300,102),(403,120),(302,112000),(402,119),(401,118),(400,117),(301,106000)]))
theorem Ha{a0:Int}{r:(Option Q3)×(Option Int)}(hz:r.1=none)(h:iH a0=some r):WL Tryz.prog 24 [.v Q0 a0] (.WU [.v (Wr.c9 (.pointer none) rfl) (),.v Q8 r.2]) []:=by
 have:=Am h;unfold vN vO at this;rw[hz] at this;exact this
theorem Hb{a0:Int}{r:(Option Q3)×(Option Int)}{z:Q3}(hz:r.1=some z)(h:iH a0=some r):WL Tryz.prog 24 [.v Q0 a0] (.WU [.ptr 300 0,.v Q8 r.2]) (Tx 300 none 301 none 302 none 400 401 402 403 z):=by
 have:=Am h;unfold vN vO at this;rw[hz] at this;exact this
theorem Ke{a0 r}(h:uL a0=some r):
 WL Tryz.prog 43 [.v Q0 a0] (.v (Eu [60,62,63,65,67,68,69,71,73,75,76]) r) []:=by
 refine WL.of Tryz.func43 Y Tryz.ntmps43 Y ?_;intro S w u;unfold uL at h;refine aI (.k (Cd [60,62,63,65,67,68,69,71,73,75,76] 11 Y) (.f [0] ?_));refine cU [3] ?_;refine bR ?_;refine aL [3,4] ?_;refine aU h Y (fun z h=>?_) (fun z h=>?_)
 ·refine aI (.k (rA [60,62,63,65,67,68,69,71,73,75,76] 0 Y lP) (.f [2] ?_));refine aH ?_;refine eI ?_;cases h;exact aY u dW Y (RV.tmp Y) .nil Y
 refine aL [3,6] ?_;refine aU h Y (fun A h=>?_) (fun A h=>?_)
 ·refine aI (.k (rA [60,62,63,65,67,68,69,71,73,75,76] 1 Y lP) (.f [2] ?_));refine aH ?_;refine eI ?_;cases h;exact aY u dW Y (RV.tmp Y) .nil Y
 refine aL [3,8] ?_;refine aU h Y (fun B h=>?_) (fun B h=>?_)
 ·refine aI (.k (rA [60,62,63,65,67,68,69,71,73,75,76] 2 Y lP) (.f [2] ?_));refine aH ?_;refine eI ?_;cases h;exact aY u dW Y (RV.tmp Y) .nil Y
 refine aL [3,10] ?_;refine aU h Y (fun C h=>?_) (fun C h=>?_)
 ·refine aI (.k (rA [60,62,63,65,67,68,69,71,73,75,76] 3 Y lP) (.f [2] ?_));refine aH ?_;refine eI ?_;cases h;exact aY u dW Y (RV.tmp Y) .nil Y
 refine aL [3,12] ?_;refine aU h Y (fun D h=>?_) (fun D h=>?_)
 ·refine aI (.k (rA [60,62,63,65,67,68,69,71,73,75,76] 4 Y lP) (.f [2] ?_));refine aH ?_;refine eI ?_;cases h;exact aY u dW Y (RV.tmp Y) .nil Y
 refine aL [3,14] ?_;refine aU h Y (fun E h=>?_) (fun E h=>?_)
 ·refine aI (.k (rA [60,62,63,65,67,68,69,71,73,75,76] 5 Y lP) (.f [2] ?_));refine aH ?_;refine eI ?_;cases h;exact aY u dW Y (RV.tmp Y) .nil Y
 refine aL [3,16] ?_;refine aU h Y (fun F h=>?_) (fun F h=>?_)
 ·refine aI (.k (rA [60,62,63,65,67,68,69,71,73,75,76] 6 Y lP) (.f [2] ?_));refine aH ?_;refine eI ?_;cases h;exact aY u dW Y (RV.tmp Y) .nil Y
 refine aL [3,18] ?_;refine aU h Y (fun G h=>?_) (fun G h=>?_)
 ·refine aI (.k (rA [60,62,63,65,67,68,69,71,73,75,76] 7 Y lP) (.f [2] ?_));refine aH ?_;refine eI ?_;cases h;exact aY u dW Y (RV.tmp Y) .nil Y
 refine aL [3,20] ?_;refine aU h Y (fun H h=>?_) (fun H h=>?_)
 ·refine aI (.k (rA [60,62,63,65,67,68,69,71,73,75,76] 8 Y lP) (.f [2] ?_));refine aH ?_;refine eI ?_;cases h;exact aY u dW Y (RV.tmp Y) .nil Y
 refine aL [3,22] ?_;refine aU h Y (fun I h=>?_) (fun I h=>?_)
 ·refine aI (.k (rA [60,62,63,65,67,68,69,71,73,75,76] 9 Y lP) (.f [2] ?_));refine aH ?_;refine eI ?_;cases h;exact aY u dW Y (RV.tmp Y) .nil Y
 refine aL [24] ?_;refine aU h Y (fun K h=>?_) (fun K h=>?_)
 ·refine aI (.k (rA [60,62,63,65,67,68,69,71,73,75,76] 10 Y lP) (.f [2] ?_));refine aH ?_;refine eI ?_;cases h;exact aY u dW Y (RV.tmp Y) .nil Y
 refine aE ?_;refine aZ ?_;refine aI (.k (Cd [60,62,63,65,67,68,69,71,73,75,76] 11 Y) (.f [2] ?_));cases h;exact aH (aY u dW Y (RV.tmp Y) .nil Y)
theorem lO{a0 a1 r}(h:lU a0 a1=some r):
 WL Tryz.prog 124 [.v Q1 a0,.v Q0 a1] (.v Wr.bool r) []:=by
 refine WL.of Tryz.func124 Y Tryz.ntmps124 Y ?_;intro S w A;unfold lU at h;refine aL [0,1] ?_;refine aL [0,1,5] ?_;refine cU [1,5,8,9,10] ?_;obtain⟨O,I,K,L⟩:=cF h;refine iZ (σs:=fun z:Int×Int=>⟨[(1,.v Q0 a1),(5,.v Q0 z.1),(8,.v Q1 a0),(9,.v Q0 (a0.length:Int)),(10,.v Q0 z.2)],[]⟩) (fun C:Unit=>⟨[],[]⟩) I (aC []) ?_ ?_
 ·intro C D;have h:=K _ D;refine aL [4] ?_;cases h;exact aH (aY A dW Y (RV.tmp Y) .nil Y)
 intro z N h;refine aL [1,5,8,9,10,11] ?_;refine aG ?_;refine aU h Y (fun E h=>?_) (fun E h=>?_)
 ·refine aE ?_;refine aG ?_;refine bR ?_;obtain⟨B,P,h⟩:=aA h;refine aI (.a 2 ?_);refine .k (aO 104 Fk Y (.cons (Z.int .i64) (.cons (Z.arr 8 (Z.int .u8)) .nil)) Y) (.t (bT Y Y Y Y (.VS sO sO) jT) (.f [1,5,7,8,9,10] ?_));refine aG ?_;refine aG ?_;obtain⟨M,u,h⟩:=aA h;refine eU (σ':=⟨[(1,.v Q0 a1),(7,.ptr 104 0),(8,.v Q1 a0),(9,.v Q0 (a0.length:Int)),(10,.v Q0 z.2),(23,.v Wr.bool M)],[(104,.box 204 [.v Q0 B.1,.v aM B.2])]⟩) ?_ ?_
  ·refine cd u (fun F u=>?_) (fun F u=>?_)
   ·cases u;exact jy
   cases u;exact jy
  refine aU h Y (fun G h=>?_) (fun G h=>?_)
  ·refine aL [4] ?_;refine aH ?_;refine eI ?_;cases h;refine gC fun H=>?_;obtain rfl:=L _ H;exact aY A dW Y (RV.tmp Y) .nil Y
  refine aE ?_;refine dS [1,5,8,9,10] ?_;refine aZ ?_;refine dS [1,5,8,9,10] ?_;cases h;exact cE (aC [])
 cases h;exact cX (dJ (aC []))
theorem tJ{a0 a1 r}(h:lI a0 a1=some r):
 WL Tryz.prog 95 [.v Lh a0,.v Q0 a1] (.v Q8 r) []:=by
 refine WL.of Tryz.func95 Y Tryz.ntmps95 Y ?_;intro S w A;unfold lI at h;refine aI (.k (cL 101 Y (.VS sO (.VS sO (.VS sO sO))) Y) (.f [1,2] ?_));refine aG ?_;refine aG ?_;obtain⟨U,u,h⟩:=aA h;refine eU (σ':=⟨[(1,.v Q0 a1),(2,.ptr 101 0),(22,.v Wr.bool U)],[(101,.box 74 [.v Q0 a0.1,.v Q1 a0.2.1,.v (Wr.sl pH) a0.2.2.1,.v Wr.bool a0.2.2.2])]⟩) ?_ ?_
 ·refine cd u (fun G u=>?_) (fun G u=>?_)
  ·cases u;exact jy
  refine cd u (fun H u=>?_) (fun H u=>?_)
  ·cases u;exact jy
  refine cd u (fun I u=>?_) (fun I u=>?_)
  ·cases u;exact jy
  cases u;exact jy
 refine aU h Y (fun K h=>?_) (fun K h=>?_)
 ·refine aL [4] ?_;cases h;exact aH (aY A dW Y (RV.tmp Y) .nil Y)
 refine aE ?_;refine cU [1,2,27] ?_;refine aU h Y (fun L h=>?_) (fun L h=>?_)
 ·refine aL [4] ?_;cases h;exact aH (aY A dW Y (RV.tmp Y) .nil Y)
 refine aE ?_;refine aG ?_;refine aG ?_;obtain⟨V,u,h⟩:=aA h;refine eU (σ':=⟨[(1,.v Q0 a1),(2,.ptr 101 0),(43,.v Wr.bool V)],[(101,.box 74 [.v Q0 a0.1,.v Q1 a0.2.1,.v (Wr.sl pH) a0.2.2.1,.v Wr.bool a0.2.2.2])]⟩) ?_ ?_
 ·obtain⟨af,C,u⟩:=aA u;refine cd u (fun z u=>?_) (fun z u=>?_)
  ·cases u;exact(J.cons (.none Y) (aB 1 Y SA Y Iw Y Y) Y Y (J.cons (.none Y) (aJ Y Y Y GF Iw) Y Y (J.cons (.none Y) (aD Y) Y Y (J.cons (.none Y) (aN (lO C) FO (.cons (.dir Y) (.cons (.dir Y) .nil))) Y Y (J.cons (.none Y) (Jd Y) Y Y (J.cons (.none Y) (aD Y) Y Y (J.left (GK.J3 34 Y Y Y z) Y (J.left (GK.J3 34 Y Y Y z) Y (J.left (GK.J3 34 Y Y Y z) Y (J.left (uH 37 Y Y Y) Y (J.left (uH 37 Y Y Y) Y (J.left (uH 37 Y Y Y) Y (J.left (uH 37 Y Y Y) Y (J.left (GK.J3 34 Y Y Y z) Y (J.cons (.none Y) (Hm z Y Y) Y Y (J.fin (aC [])))))))))))))))))
  refine cd u (fun M u=>?_) (fun M u=>?_)
  ·cases u;refine ja 3 ?_;exact(J.k (aN (lO C) FO (.cons (.dir Y) (.cons (.dir Y) .nil))) jy)
  cases u;refine ja 3 ?_;exact(J.k (aN (lO C) FO (.cons (.dir Y) (.cons (.dir Y) .nil))) jy)
 refine aU h Y (fun N h=>?_) (fun N h=>?_)
 ·refine aL [4] ?_;cases h;exact aH (aY A dW Y (RV.tmp Y) .nil Y)
 refine aE ?_;refine cU [1,2,46,47,48] ?_;obtain⟨ah,X,aa,ab⟩:=cF h;refine iZ (σs:=fun B:Int=>⟨[(1,.v Q0 a1),(2,.ptr 101 0),(46,.v (Wr.sl pH) a0.2.2.1),(47,.v Q0 (a0.2.2.1.length:Int)),(48,.v Q0 B)],[(101,.box 74 [.v Q0 a0.1,.v Q1 a0.2.1,.v (Wr.sl pH) a0.2.2.1,.v Wr.bool a0.2.2.2])]⟩) (fun E:Unit=>⟨[],[]⟩) X (aC []) ?_ ?_
 ·intro E F;have h:=aa _ F;refine aL [4] ?_;cases h;exact aH (aY A dW Y (RV.tmp Y) .nil Y)
 intro B ad h;refine aL [1,2,46,47,48,49] ?_;refine aG ?_;refine aU h Y (fun O h=>?_) (fun O h=>?_)
 ·refine aE ?_;refine aG ?_;refine bR ?_;obtain⟨rm,am,h⟩:=aA h;refine aI (.a 3 ?_);refine .k (aO 113 Py Y (.cons (Z.int .i64) (.cons (Z.sl Q5) .nil)) Y) ?_;refine .a 1 ?_;refine .t (bT Y Y Y Y (.VS sO sO) vJ) (.f [1,2,5,6,46,47,48] ?_);refine aG ?_;obtain⟨ac,u,h⟩:=aA h;refine eU (σ':=⟨[(1,.v Q0 a1),(2,.ptr 101 0),(46,.v (Wr.sl pH) a0.2.2.1),(47,.v Q0 (a0.2.2.1.length:Int)),(48,.v Q0 B),(76,.v Wr.bool ac)],[(101,.box 74 [.v Q0 a0.1,.v Q1 a0.2.1,.v (Wr.sl pH) a0.2.2.1,.v Wr.bool a0.2.2.2])]⟩) ?_ ?_
  ·obtain⟨an,D,u⟩:=aA u;refine cd u (fun P u=>?_) (fun P u=>?_)
   ·cases u;refine ja 3 ?_;exact(J.k (aN (lO D) FO (.cons (.dir Y) (.cons (.dir Y) .nil))) jy)
   refine cd u (fun Q u=>?_) (fun Q u=>?_)
   ·cases u;refine ja 3 ?_;exact(J.k (aN (lO D) FO (.cons (.dir Y) (.cons (.dir Y) .nil))) jy)
   cases u;refine ja 3 ?_;exact(J.k (aN (lO D) FO (.cons (.dir Y) (.cons (.dir Y) .nil))) jy)
  refine aU h Y (fun R h=>?_) (fun R h=>?_)
  ·refine aL [4] ?_;refine aH ?_;refine eI ?_;cases h;refine gC fun T=>?_;obtain rfl:=ab _ T;exact aY A dW Y (RV.tmp Y) .nil Y
  refine aE ?_;refine aZ ?_;refine dS [1,2,46,47,48] ?_;cases h;exact cE (aC [])
 cases h;exact cX (dJ (aC []))
theorem oY{a0 r}(h:jF a0=some r):
 WL Tryz.prog 149 [.v (Wr.J4 pH) a0] (.ref 0) [(0,.arr 157 pH r)]:=by
 refine WL.of Tryz.func149 Y Tryz.ntmps149 Y ?_;intro S w u;unfold jF at h;refine aI (.k (aS 101 157 pH) (.f [0] ?_));refine jO (.a 1 ?_);refine .k (xN Y FU) (.f [0,4] ?_);refine aU h Y (fun z h=>?_) (fun z h=>?_)
 ·refine aI (.k (aS 102 157 pH) (.f [2] ?_));cases h;exact aH (wC u dW Y (aC [(0,102)]))
 refine aE ?_;obtain⟨B,A,h⟩:=aA h;refine aI (.k (rP (e:=pH) 103 FU vJ Py Y Y Y Y .nil) ?_);refine .a 1 ?_;refine .t (bU 104 A Y Y (.J4 Y) FU QY vJ Y Y Y Y Y) (.f [2] ?_);cases h;exact aH (wC u dW Y (aC [(0,104)]))
theorem qL{a0:Gb}{r:Gb}(h:gO a0=some r):
  WL Tryz.prog 149 [.v (Wr.sl pH) a0] (.ref 0) [(0,.arr 157 pH r)]:=
 rS fun b u=>oY (by cases b with | true=>rw[u rfl] at h ⊢;exact h | false=>exact El h)
theorem wP{a0 r}(h:nH a0=some r):
 WL Tryz.prog 117 [.v Lh a0] (.agg [.v Q0 r.1,.ref 0,.ref 1,.v Wr.bool r.2.2.2]) [(0,.arr 204 Q5 r.2.1),(1,.arr 157 pH r.2.2.1)]:=by
 refine WL.of Tryz.func117 Y Tryz.ntmps117 Y ?_;intro S w D;unfold nH at h;refine aI (.k (cL 101 Y (.VS sO (.VS sO (.VS sO sO))) Y) (.k (aO 102 RK Y (.cons (Z.int .i64) (.cons (Z.sl Q5) (.cons (Z.sl pH) (.cons Z.bool .nil)))) Y) (.f [1,2] ?_)));obtain⟨A,G,h⟩:=aA h;refine aI (.a 2 ?_);refine .k (fO 103000 (eX G) KR (.cons (.dir Y) .nil) Y) (.f [1,2] ?_);obtain⟨H,I,h⟩:=aA h;refine aI (.a 2 ?_);refine .k (fO 104000 (qL I) Tryz.call149 (.cons (.dir Y) .nil) Y) (.f [1,2] ?_);refine cU [1,2,14,15,16] ?_;obtain⟨O,K,L,P⟩:=cF h;refine iZ (σs:=fun z:Int×Gb=>⟨[(1,.ptr 101 0),(2,.ptr 102 0),(14,.ref 104000),(15,.v Q0 (H.length:Int)),(16,.v Q0 z.1)],[(101,.box 74 [.v Q0 a0.1,.ref 103000,.ref 104000,.v Wr.bool a0.2.2.2]),(102,.box 74 [.v Q0 (0:Int),.v Q1 ([]:Q6),.v (Wr.sl pH) ([]:Gb),.v Wr.bool false]),(104000,.arr 157 pH z.2),(103000,.arr 204 Q5 A)]⟩) (fun u:Gb=>⟨[(1,.ptr 101 0),(2,.ptr 102 0)],[(101,.box 74 [.v Q0 a0.1,.ref 103000,.ref 104000,.v Wr.bool a0.2.2.2]),(102,.box 74 [.v Q0 (0:Int),.v Q1 ([]:Q6),.v (Wr.sl pH) ([]:Gb),.v Wr.bool false]),(103000,.arr 204 Q5 A),(104000,.arr 157 pH u)]⟩) K (aC []) ?_ ?_
 ·intro u E;have h:=L _ E;refine aI (.k (hX Y Y Y Fi zB) (.f [2] ?_));refine aH ?_;obtain rfl:=pT h;exact cA (σ':=⟨[(2,.ptr 90 0)],[(90,.box 74 [.v Q0 a0.1,.ref 0,.ref 1,.v Wr.bool a0.2.2.2]),(1,.arr 157 pH u),(0,.arr 204 Q5 A)]⟩) (aC [(90,102),(1,104000),(0,103000)]) (aY D dW Y (Gg Y Y Y Fi zB) (.cons Y (.cons Y .nil)) Y)
 intro z N h;refine aL [1,2,14,15,16,17] ?_;refine aG ?_;refine aU h Y (fun F h=>?_) (fun F h=>?_)
 ·refine aE ?_;refine aG ?_;refine bR ?_;obtain⟨Q,B,h⟩:=aA h;refine aI (.a 1 ?_);refine .k (jA B Y Y Y FU vJ) (.k (jS (dK B).2.2 Y Y .here Oo vJ) (.k (aO 112 Py Y (.cons (Z.int .i64) (.cons (Z.sl Q5) .nil)) Y) ?_));refine .a 1 ?_;refine .t (bT Y Y Y Y (.VS sO sO) vJ) (.f [1,2,3,4,14,15,16] ?_);obtain⟨R,M,h⟩:=aA h;obtain⟨T,C,h⟩:=aA h;refine eF 8 mixed (by exact(.k (aB 2 Y SA Y UG Y Y) (.k (aJ Y Y Y Tryz.isAgg72 UG) (.k (aD Y) (.k (aB 1 Y AA Y Iw Y Y) (.k (aJ Y Y Y GF Iw) (.k (Qq (fO 113000 (eX M) KR (.cons (.dir Y) .nil) Y) (fun _=>(Sw.Sub.mk id (.cons Y (.S8 Y Y) .nil) .nil Y)) Y) (.k (jA C Y Y Y FU vJ) (.k (Az 1 Y AA Y Iw Y Y) .nil))))))))) (by exact(J.t (Ut (dK C).2.2 Y Y Y (.snd .here) Iw) (J.kp [1,2,14,15,16] []))) ?_;refine aZ ?_;refine dS [1,2,14,15,16] ?_;cases h;exact cE (aC [])
 cases h;exact cX (dJ (aC []))
theorem Cg{a0 a1 r}(h:sX a0 a1=some r):
 WL Tryz.prog 145 [.v Q5 a0,.v Q0 a1] (.v Q0 r) []:=by
 refine WL.of Tryz.func145 Y Tryz.ntmps145 Y ?_;intro S w u;unfold sX at h;refine aI (.k (cL 101 Y (.VS sO sO) Y) (.f [1,2] ?_));refine aL [4] ?_;cases h;exact aH (aY u dW Y (RV.tmp Y) .nil Y)
theorem jQ{a0 a1 r}(h:bZ a0 a1=some r):
 WL Tryz.prog 144 [.v Q1 a0,.v Q0 a1,.j2 145 []] (.WU [.v Q0 r.1,.v Wr.bool r.2]) []:=by
 refine WL.of Tryz.func144 Y Tryz.ntmps144 Y ?_;intro S w C;unfold bZ at h;refine aL [0,1,2] ?_;refine aL [0,1,2,8] ?_;refine aL [0,1,2,8,9,10] ?_;refine aG ?_;obtain⟨N,G,H,O⟩:=cF h;refine iZ (σs:=fun A:Int×Int=>⟨[(0,.v Q1 a0),(1,.v Q0 a1),(2,.j2 145 []),(8,.v Q0 (a0.length:Int)),(9,.v Q0 A.1),(10,.v Q0 A.2)],[]⟩) (fun z:Int=>⟨[(0,.v Q1 a0),(1,.v Q0 a1),(2,.j2 145 []),(8,.v Q0 (a0.length:Int)),(9,.v Q0 z)],[]⟩) G (aC []) ?_ ?_
 ·intro z D;have h:=H _ D;refine aG ?_;obtain⟨I,u,h⟩:=aA h;refine eU (σ':=⟨[(6,.v Q0 z),(7,.v Wr.bool I)],[]⟩) ?_ ?_
  ·refine cd u (fun B u=>?_) (fun B u=>?_)
   ·obtain⟨P,Q,u⟩:=aA u;obtain⟨R,K,u⟩:=aA u;cases u;refine ja 11 ?_;exact(J.g B (tW Y (Cg K) Tryz.call145 (.cons (.dir Y) (.cons (.dir Y) .nil))) jy)
   cases u;exact jy
  cases h;exact aH (bS C dW Y (RV.tmp Y) (RV.tmp Y) .nil Y)
 intro A M h;refine cU [0,1,2,8,9,10,17] ?_;refine aU h Y (fun E h=>?_) (fun E h=>?_)
 ·refine aE ?_;refine bR ?_;refine aI (.a 4 ?_);refine .k (fD (.inr Y) (by decide) Y Y) (.f [0,1,2,8,9,10,11] ?_);obtain⟨T,U,h⟩:=aA h;obtain⟨V,L,h⟩:=aA h;refine aI (.a 6 ?_);refine .k (tW Y (Cg L) Tryz.call145 (.cons (.dir Y) (.cons (.dir Y) .nil))) (.f [0,1,2,8,9,10,11,31] ?_);refine aU h Y (fun F h=>?_) (fun F h=>?_)
  ·refine dS [0,1,2,8,9,10] ?_;cases h;exact aZ (cE (aC []))
  refine dS [0,1,2,8,9,10] ?_;cases h;exact aZ (cE (aC []))
 cases h;exact cX (dJ (aC []))
theorem uG(A0:Nat->Nat){a0:Q6}{a1:Int}{a2:Q6}{r:Q6}(h:gK a0 a1 a2=some r):
 VZ Tryz.prog 146 [.ref 9000,.v Q0 a1,.v Q1 a2] [(9000,.arr 204 Q5 a0)] (.ref 0) [(0,.arr 204 Q5 r)]:=by
  obtain⟨h0,h1,h2,rfl⟩:=HL h;obtain⟨i,rfl⟩:∃i:Nat,a1=(i:Int):=⟨a1.toNat,by omega⟩
  obtain⟨A,B,hA,rfl⟩:∃A B,A.length=i/\a0=A++B:=⟨a0.take i,a0.drop i,by rw[E9];omega,(ak _ _).symm⟩
  subst hA;have H:(A++B).take ((A.length:Int)).toNat++(a2++(A++B).drop ((A.length:Int)).toNat)=A++(a2++B):=by simp
  rw[H];clear H h h0 h1;have I:(A++B).length=A.length+B.length:=sM;have N:Sw.sub (A++B) (A.length:Int) ((A++B).length:Int)=some B:=by rw[Sw.sub,XC (by omega),p6,p6,aDc,rf]
  have D:ar .add .i64 ((A++B).length:Int) (a2.length:Int)=((A.length+B.length+a2.length:Nat):Int):=by simp only[ar,IntKind.wrap_i64];omega
  have O:ar .sub .i64 (ar .add .i64 ((A++B).length:Int) (a2.length:Int)) (A.length:Int)=((B.length+a2.length:Nat):Int):=by rw[D];simp only[ar,IntKind.wrap_i64];omega
  have z:ar .add .i64 (A.length:Int) (a2.length:Int)=((A.length+a2.length:Nat):Int):=by simp only[ar,IntKind.wrap_i64];omega
  refine VZ.of Tryz.func146 Y Tryz.ntmps146 Y ?_;intro S w R F
  repeat refine aG ?_
  refine eR (.k (mT Q5) (.f [0,1,2] ?_))
  repeat refine aG ?_
  refine eR (.a 2 ?_);refine .k (Ls N Y Y Y yJ jT) (.f [0,1,2] ?_)
  repeat refine aG ?_
  refine dS [0,1,2,7] ?_
  repeat refine aG ?_
  refine dS [0,1,2,7,16] ?_
  repeat refine aG ?_
  rcases aC8 (cm .eql (a2.length:Int) (0:Int)) with u | u
  ·have G:a2=[]:=iw (by simp[cm] at u;simp[u]);have P:A++B=A++(a2++B):=by rw[G];rfl
   refine vT Y u ?_
   repeat refine aG ?_
   refine dS [0,1,2,6,7,16,17] ?_;refine aH ?_;rw[P];exact eY F Y (aC [(0,9000)])
  have Q:0<a2.length:=by
   simp[cm] at u;exact pw.2 u
  have G:a2≠ []:=pw.1 Q;refine Ba Y u ?_;clear u
  repeat first | refine aE ?_ | refine aG ?_
  refine dS [0,1,2,7,8] ?_
  repeat refine aG ?_
  refine dS [0,1,2,7,8,22] ?_
  repeat refine aG ?_
  rcases aC8 (cm .eql (A.length:Int) ((A++B).length:Int)) with u | u
  ·have C:B=[]:=iw (by simp[cm] at u;omega);have T:Sw.app (A++B) a2=some (A++(a2++B)):=by subst C;rw[Sw.app,XC h2];simp
   refine vT Y u ?_
   repeat refine aG ?_
   refine eR (.a 2 ?_);refine .t (bU 1 T Y Y (.sl Y) yJ Lj jT Y Y Y Y Y) (.f [1,2,6,7,8,24,25] ?_);refine aH ?_;exact eY F Y (aC [(0,1)])
  have C:B≠ []:=by
   rintro rfl;simp[cm] at u
  have ab:=pw.2 C;refine Ba Y u ?_;clear u
  repeat first | refine aE ?_ | refine aG ?_
  refine Qr (t:=0) (g':=[(1,.v Q0 (A.length:Int)),(2,.v Q1 a2),(7,.v Q0 (a2.length:Int)),(8,.v Q0 ((A++B).length:Int))]) Y C Y (by exact(.cons Y (.cons Y (.cons Y (.cons Y .nil))))) Y fun b p q c j0 M m8=>?_;have E:(Q5).n=9:=rfl;refine eR (.a 4 ?_);refine .k (DK Y yJ) (.k (DL Y Y) (.f [0,1,2,7,8,31] ?_))
  repeat refine aG ?_
  rcases aC8 (cm .gtr (ar .add .i64 ((A++B).length:Int) (a2.length:Int)) (c:Int)) with u | u
  ·have ac:c<A.length+(B.length+a2.length):=by
    rw[D] at u;simp[cm] at u;omega
   refine vT Y u ?_;clear u
   repeat refine aG ?_
   refine eR (.a 2 ?_);refine .k (Es (e:=Q5) A.length Y (by omega) Y Y Y yJ jT) ?_;refine .a 5 ?_;refine .k (HK (z0:=_) (zv:=((0:Int),aR)) 1 Y Y Y Y Y O (by omega) (by omega) (by omega) Y yJ U3 Lj jT Y (Z.pr (Z.int .i64) (Z.arr 8 (Z.int .u8))) Y) (.f [0,1,2,7,8,9] ?_);have K:Sw.sub (A++List.replicate (B.length+a2.length) ((0:Int),aR)) (A.length:Int) (((A++List.replicate (B.length+a2.length) ((0:Int),aR))).length:Int)=some (List.replicate (B.length+a2.length) ((0:Int),aR)):=by
    rw[Sw.sub,XC (by simp only[sM,px];omega),p6,p6,aDc,rf]
   have U:a2.length<=((A++List.replicate (B.length+a2.length) ((0:Int),aR))).length - Int.toNat (A.length:Int):=by
    simp only[sM,px];omega
   repeat refine aG ?_
   refine eR (.a 2 ?_);refine .k (Ls K Y Y Y yJ jT) ?_;refine .a 1 ?_;refine .t (Nf K Y Y (.sl Y) U yJ jT Y) (.f [0,1,2,7,8,9] ?_);have V:List.take (Int.toNat (A.length:Int)) (A++List.replicate (B.length+a2.length) ((0:Int),aR))++a2++List.drop (Int.toNat (A.length:Int)+a2.length) (A++List.replicate (B.length+a2.length) ((0:Int),aR))=(A++(a2++List.replicate B.length ((0:Int),aR))):=by
    simp[aD6,List.drop_replicate]
   rw[V];have L:Sw.sub (A++(a2++List.replicate B.length ((0:Int),aR))) (ar .add .i64 (A.length:Int) (a2.length:Int)) (((A++(a2++List.replicate B.length ((0:Int),aR)))).length:Int)=some (List.replicate B.length ((0:Int),aR)):=by
    rw[z,Sw.sub,XC (by simp only[sM,px];omega),p6,p6,aDc,<-E0,List.drop_left' (by rw[sM])]
   have X:B.length<=((A++(a2++List.replicate B.length ((0:Int),aR)))).length - Int.toNat (ar .add .i64 (A.length:Int) (a2.length:Int)):=by
    rw[z];simp only[sM,px];omega
   repeat refine aG ?_
   refine eF 8 mixed (by exact(.k (aD Y) (.k (aD Y) (.k (aD Y) (.k (cY Y Y Y) (.k (Ls L Y Y Y yJ jT) (.k (aD Y) (.k (aD Y) (.k (Aa (e:=Q5) (p+A.length*(Q5).n) B.length (c - A.length) Y (by omega) (by omega) Y (by omega) Y Y Y yJ jT) .nil))))))))) (by exact(J.t (Nf L Y Y (.M4 Y Y Y Y (by omega)) X yJ jT Y) (J.kp [0,1,2,7,8,9,53] []))) ?_;have bk:(List.take (Int.toNat (ar .add .i64 (A.length:Int) (a2.length:Int))) (A++(a2++List.replicate B.length ((0:Int),aR)))++B++List.drop (Int.toNat (ar .add .i64 (A.length:Int) (a2.length:Int))+B.length) (A++(a2++List.replicate B.length ((0:Int),aR))))=A++(a2++B):=by
    rw[z,p6,<-E0 A a2 (List.replicate _ _),List.take_left' (by rw[sM]),aD0 (by simp only[sM,px];omega)];simp
   rw[bk]
   repeat refine aG ?_
   refine dS [0,1,2,6,7,8,9,53,55] ?_;refine aH ?_;exact eY F Y (aC [(0,1)])
  ·have aa:A.length+B.length+a2.length<=c:=by
    rw[D] at u;simp[cm] at u;omega
   have hq:a2.length*(Q5).n<=q:=by
    rw[E,I] at M;rw[E];omega
   refine Ba Y u ?_;clear u
   repeat first | refine aE ?_ | refine aG ?_
   refine eR (.a 4 ?_);refine .k (Es (e:=Q5) (A.length+B.length+a2.length) D (by omega) Y Y Y yJ jT) (.f [0,1,2,7,8] ?_)
   repeat refine aG ?_
   refine eR (.a 5 ?_);refine .k (Aa (e:=Q5) (p+(A.length+a2.length)*(Q5).n) B.length (c - (A.length+a2.length)) z (by omega) (by omega) Y (by omega) Y Y Y yJ jT) (.k (Uy Tryz.func158 (by kernel_rfl) (by kernel_rfl) (by kernel_rfl) (R:=4) (by kernel_rfl) Y Y Y G C Y yJ jT) (.f [0,1,2,7,8,68] ?_))
   repeat refine aG ?_
   refine vT Y Y ?_
   repeat refine aG ?_
   refine eF 8 mixed (by exact(.k (aD Y) (.k (aD Y) (.k (aD Y) (.k (cY Y Y Y) (.k (Aa (e:=Q5) (p+(A.length+a2.length)*(Q5).n) B.length (c - (A.length+a2.length)) z (by omega) (by omega) Y (by omega) Y Y Y yJ jT) (.k (aD Y) (.k (aD Y) (.k (Aa (e:=Q5) (p+A.length*(Q5).n) (B.length+a2.length) (c - A.length) Y (by omega) (by omega) Y (by omega) Y Y Y yJ jT) .nil))))))))) (by exact(J.t (Ux (m:=a2.length) Y Y Y Y Y Y Y hq (by omega) yJ jT Y) (J.kp [0,1,2,7,8] []))) ?_
   repeat refine aG ?_
   refine eR (.a 2 ?_);refine .k (Aa (e:=Q5) (p+A.length*(Q5).n) (B.length+a2.length) (c - A.length) Y (by omega) (by omega) Y (by omega) Y Y Y yJ jT) ?_;refine .a 1 ?_;refine .t (Ym Y Y (.sl Y) Y Y Y (by omega) yJ jT Y) (.f [0] ?_);refine wR (Bl (t:=0) (by simp only[sM];omega) aa (by rw[E,I] at M;rw[E];omega) (by omega) Y) ?_
   repeat refine aG ?_
   refine dS [0,6,83] ?_;refine aH ?_;exact eY F Y (aC [(0,9000)])
theorem Qb{a0 a1 a2 r}(h:tY a0 a1 a2=some r):
 WL Tryz.prog 103 [.v Lh a0,.v Q0 a1,.v Q5 a2] (.WU [.v Lh r.1,.v Q8 r.2]) []:=by
 refine WL.of Tryz.func103 Y Tryz.ntmps103 Y ?_;intro S w B;unfold tY at h;refine aI (.k (cL 101 Y (.VS sO (.VS sO (.VS sO sO))) Y) (.k (cL 102 Y (.VS sO sO) Y) (.k (aO 103 RK Y (.cons (Z.int .i64) (.cons (Z.sl Q5) (.cons (Z.sl pH) (.cons Z.bool .nil)))) Y) (.f [1,3,5,6] ?_))));obtain⟨I,K,h⟩:=aA h;refine jO (.k (aT Y Y (.VS sO (.VS sO (.VS sO sO))) Fi zB) ?_);refine .a 1 ?_;refine .k (aN (tJ K) UE (.cons (.dir Y) (.cons (.dir Y) .nil))) (.f [1,3,5,6,8] ?_);refine aL [1,3,5,6,8,15] ?_;refine aU h Y (fun F h=>?_) (fun F h=>?_)
 ·refine aI (.k (bP zC (.cons (Z.int .i64) (.cons (Z.sl Q5) (.cons (Z.sl pH) (.cons Z.bool .nil)))) .nil) (.f [6,7] ?_));refine aH ?_;obtain rfl:=pT h;exact cA (σ':=⟨[(6,.ptr 90 0),(7,.v Q8 I)],[(90,.box 74 [.v Q0 (0:Int),.v Q1 ([]:Q6),.v (Wr.sl pH) ([]:Gb),.v Wr.bool false])]⟩) (aC [(90,103)]) (bS B dW Y (aV Y Y (.VS sO (.VS sO (.VS sO sO))) Fi zB) (RV.tmp Y) .nil Y)
 refine aE ?_;refine aG ?_;refine aG ?_;obtain⟨L,z,h⟩:=aA h;refine eU (σ':=⟨[(3,.ptr 101 0),(5,.ptr 102 0),(6,.ptr 103 0),(26,.v Wr.bool L)],[(101,.box 74 [.v Q0 a0.1,.v Q1 a0.2.1,.v (Wr.sl pH) a0.2.2.1,.v Wr.bool a0.2.2.2]),(102,.box 204 [.v Q0 a2.1,.v aM a2.2]),(103,.box 74 [.v Q0 (0:Int),.v Q1 ([]:Q6),.v (Wr.sl pH) ([]:Gb),.v Wr.bool false])]⟩) ?_ ?_
 ·refine cd z (fun G z=>?_) (fun G z=>?_)
  ·cases z;exact jy
  cases z;exact jy
 refine aU h Y (fun H h=>?_) (fun H h=>?_)
 ·refine aI (.k (bP zC (.cons (Z.int .i64) (.cons (Z.sl Q5) (.cons (Z.sl pH) (.cons Z.bool .nil)))) .nil) (.f [6,7] ?_));refine aH ?_;obtain rfl:=pT h;exact cA (σ':=⟨[(6,.ptr 90 0),(7,.v Q8 (some (1:Int)))],[(90,.box 74 [.v Q0 (0:Int),.v Q1 ([]:Q6),.v (Wr.sl pH) ([]:Gb),.v Wr.bool false])]⟩) (aC [(90,103)]) (bS B dW Y (aV Y Y (.VS sO (.VS sO (.VS sO sO))) Fi zB) (RV.tmp Y) .nil Y)
 refine aE ?_;obtain⟨u,M,h⟩:=aA h;refine aI (.k (aT Y Y (.VS sO (.VS sO (.VS sO sO))) Fi zB) (.k (fO 105000 (wP M) Tryz.call117 (.cons (.dir Y) .nil) Y) (.f [3,5,6] ?_)));obtain⟨R,N,h⟩:=aA h;refine aI (.a 4 ?_);refine .k (rR (jQ N) Tryz.call144 (.cons (.ref Y Y) (.cons (.dir Y) (.cons .fn .nil))) (YF.WU (.v (.v .nil)))) (.f [3,5,6,9,10] ?_);refine cU [3,5,6,9,39] ?_;obtain⟨O,P,h⟩:=fI h;refine tM (fun C:Q6=>⟨[(3,.ptr 101 0),(6,.ptr 103 0)],[(101,.box 74 [.v Q0 u.1,.ref 108,.ref 105001,.v Wr.bool u.2.2.2]),(103,.box 74 [.v Q0 (0:Int),.v Q1 ([]:Q6),.v (Wr.sl pH) ([]:Gb),.v Wr.bool false]),(108,.arr 204 Q5 C),(105001,.arr 157 pH u.2.2.1)]⟩) (fun x=>O x=some r) Y ?_ ?_ ?_
 ·intro C h;rw[P] at h;refine aI (.k (hX Y Y Y Fi zB) (.f [6,7] ?_));refine aH ?_;obtain rfl:=pT h;exact cA (σ':=⟨[(6,.ptr 90 0),(7,.v Q8 (none:Option Int))],[(90,.box 74 [.v Q0 u.1,.v Q1 C,.v (Wr.sl pH) u.2.2.1,.v Wr.bool u.2.2.2])]⟩) (aC [(90,103)]) (bS B dW Y (aV Y Y (.VS sO (.VS sO (.VS sO sO))) Fi zB) (RV.tmp Y) .nil Y)
 ·intro D;replace h:=iN D h;obtain⟨T,E,h⟩:=aA h;refine eR (.a 3 ?_);refine .k (aT Y Y (.VS sO sO) Zy jT) (.k (jA E Y Y Y yJ jT) (.t (qZ (dK E).2.2 Y Y Y jT) (.f [3,6] ?_)));exact cB h (aC [(108,105000)])
 ·intro D;replace h:=iO D h;obtain⟨U,Q,h⟩:=aA h;refine eR (.a 3 ?_);refine .k (aT Y Y (.VS sO sO) Zy jT) (.k (dM (e:=Q5) yJ jT Fk Y Y Y Y (.cons (.dir Y) .nil)) (.t (eN [105000] (Cb [(9000,105000),(0,109)]) (eT _) (fun A=>uG A Q) Tryz.call146 (fun A=>(.arr .nil Y))) (.f [3,6] ?_)));exact cB h (aC [(108,109)])
theorem uU(A:Nat->Nat){a1 a2 b0 b1 b2 b3 b4 b5 b6 b7 b8 b9 bA bB bC bD bE bF bG bH bI bJ bK bL r}(h:eW a1 a2 b0 b1 b2 b3 b4 b5 b6 b7 b8 b9 bA bB bC bD bE bF bG bH bI bJ bK bL=some r):
 VZ Tryz.prog 61 [.ptr 9000 0,.v Q0 a1,.v aM a2] (kF 9000 (some (A 9000)) 9100 (some (A 9100)) 9200 (some (A 9200)) 9050 9051 9052 9053 b0 b1 b2 b3 b4 b5 b6 b7 b8 b9 bA bB bC bD bE bF bG bH bI bJ bK bL) (.v Q8 r.1) (kF 9000 (some (A 9000)) 9100 (some (A 9100)) 9200 (some (A 9200)) 400 401 402 403 b0 b1 b2 b3 r.2.1 r.2.2 b6 b7 b8 b9 bA bB bC bD bE bF bG bH bI bJ bK bL):=by
 refine VZ.of Tryz.func61 Y Tryz.ntmps61 Y ?_;intro S w R u;unfold eW at h;refine aI (.k (cL 101 Y sO Y) (.f [0,1,5] ?_));refine aG ?_;obtain⟨D,C,h⟩:=aA h;refine eF 19 mixed (by exact(.k (aD Y) (.k (aK Y) (.k (aB 1 Y Tv Y PJ Y Y) (.k (aB 6 Y wA Y zB Y Y) (.k (aJ Y Y Y Fi zB) (.k (aD Y) (.k (aK Y) (.k (aB 0 Y Tv Y S3 Y Y) (.k (aJ Y Y Y G3 S3) (.k (aD Y) (.k (aJ Y Y Y uS kR) (.k (bP wG (.cons (Z.int .i64) (.cons (Z.arr 8 (Z.int .u8)) .nil)) (.cons Y (.dir Y) Y Y Y Y (.cons Y (.dir Y) Y Y Y Y .nil))) (.k (aN (Qb C) Tryz.call103 (.cons (.dir Y) (.cons (.dir Y) (.cons (.agg Y (.same (.same .nil)) (.VS sO sO) Y) .nil)))) (.k (aD Y) (.k (bW Y Y) (.k (bW Y Y) (.k (aO 103 RK Y (.cons (Z.int .i64) (.cons (Z.sl Q5) (.cons (Z.sl pH) (.cons Z.bool .nil)))) Y) (XZ.storeAll (.none Y) Y Y Y Y (.VS sO (.VS sO (.VS sO sO))) zB (.k (bQ Y) .nil)))))))))))))))))))) (by exact(J.kp [0,1,5,7,8] [])) ?_;refine cU [0,1,5,7,8,26] ?_;refine aU h Y (fun B h=>?_) (fun B h=>?_)
 ·refine aL [0,6] ?_;cases h;exact aH (eY u Y (aC [(403,9053),(402,9052),(401,9051),(400,9050)]))
 refine aE ?_;refine aG ?_;obtain⟨E,z,h⟩:=aA h;refine eF 14 mixed (by exact(.k (aD Y) (.k (aD Y) (.k (aK Y) (.k (aB 1 Y Tv Y PJ Y Y) (.k (aB 5 Y wA Y yI Y Y) (.k (aJ Y Y Y Uf yI) (.k (aD Y) (.k (aT Y Y (.VS sO (.VS sO (.VS sO sO))) Fi zB) (.k (aJ Y Y Y uS kR) (.k (aK Y) (.k (aB 1 Y Tv Y PJ Y Y) (.k (aB 6 Y wA Y zB Y Y) (XZ.store (.none Y) Y Y Y Y Y Y Y zB (.k (jA z Y Y Y Ka kR) .nil))))))))))))))) (by exact(J.t (qZ (dK z).2.2 Y Y Y kR) (J.kp [0] []))) ?_;refine aL [0,6] ?_;cases h;exact aH (eY u Y (aC [(403,9053),(402,9052),(401,9051),(400,9050)]))
theorem Co(A:Nat->Nat){a1 b0 b1 b2 b3 b4 b5 b6 b7 b8 b9 bA bB bC bD bE bF bG bH bI bJ bK bL r}(h:nP a1 b0 b1 b2 b3 b4 b5 b6 b7 b8 b9 bA bB bC bD bE bF bG bH bI bJ bK bL=some r):
 VZ Tryz.prog 60 [.ptr 9000 0,.v Q9 a1] (kF 9000 (some (A 9000)) 9100 (some (A 9100)) 9200 (some (A 9200)) 9050 9051 9052 9053 b0 b1 b2 b3 b4 b5 b6 b7 b8 b9 bA bB bC bD bE bF bG bH bI bJ bK bL) (.WU [.v aM r.1,.v Q8 r.2.1]) (Tx 9000 (some (A 9000)) 301 none 302 none 400 401 402 403 r.2.2):=by
 refine VZ.of Tryz.func60 Y Tryz.ntmps60 Y ?_;intro S w R u;unfold nP at h;refine aI (.k (cL 101 Y (.VS sO (.VS sO (.VS sO sO))) Y) (.k (aO 102 By Y (.cons (Z.arr 8 (Z.int .u8)) .nil) Y) (.f [0,3,4] ?_)));obtain⟨z,B,h⟩:=aA h;refine aI (.k (dH (e:=aM) (v:=aR) Bx vZ I5 Y Y (Z.arr 8 (Z.int .u8))) ?_);refine .a 5 ?_;refine .t (eN [9000,9100,9200,9050,9051,9052,9053] (vC [(9000,9000),(9100,9100),(9200,9200),(9050,9050),(9051,9051),(9052,9052),(9053,9053),(400,103),(401,104),(402,105),(403,106)]) (dG Y) (fun A=>uU A B) Tryz.call61 (fun A=>(.box Y (.box Y (.box Y (.arr (.mp (.arr (.arr .nil Y) Y) Y) Y) Y) Y) Y))) (.f [0,4,5] ?_);refine aH ?_;obtain rfl:=pT h;exact kS [(0,.ptr 9000 0),(4,.ptr 90 0),(5,.v Q8 z.1)] [(90,.box 28 [.v aM aR])] (aC [(90,102),(403,106),(302,9200),(402,105),(401,104),(400,103),(301,9100)]) (eA u Y (cO Y Y Y uS kR) (RV.tmp Y) (.cons Y (.cons Y (.cons Y (.cons Y (.cons Y (.cons Y (.cons Y .nil))))))))
theorem Cp(A:Nat->Nat){a1 b0 b1 b2 b3 b4 b5 b6 b7 b8 b9 bA bB bC bD bE bF bG bH bI bJ bK bL r}(h:nQ a1 b0 b1 b2 b3 b4 b5 b6 b7 b8 b9 bA bB bC bD bE bF bG bH bI bJ bK bL=some r):
 VZ Tryz.prog 62 [.ptr 9000 0,.v Q9 a1] (kF 9000 (some (A 9000)) 9100 (some (A 9100)) 9200 (some (A 9200)) 9050 9051 9052 9053 b0 b1 b2 b3 b4 b5 b6 b7 b8 b9 bA bB bC bD bE bF bG bH bI bJ bK bL) (.WU [.v aM r.1,.v Q8 r.2.1]) (Tx 9000 (some (A 9000)) 301 none 302 none 400 401 402 403 r.2.2):=by
 refine VZ.of Tryz.func62 Y Tryz.ntmps62 Y ?_;intro S w R u;unfold nQ at h;refine aI (.k (cL 101 Y (.VS sO (.VS sO (.VS sO sO))) Y) (.k (aO 102 By Y (.cons (Z.arr 8 (Z.int .u8)) .nil) Y) (.f [0,3,4] ?_)));obtain⟨z,B,h⟩:=aA h;refine aI (.k (dH (e:=aM) (v:=aR) Bx vZ I5 Y Y (Z.arr 8 (Z.int .u8))) ?_);refine .a 3 ?_;refine .k (dH (e:=aM) (v:=aR) Bx vZ I5 Y Y (Z.arr 8 (Z.int .u8))) (.t (eN [9000,9100,9200,9050,9051,9052,9053] (vC [(9000,9000),(9100,9100),(9200,9200),(9050,9050),(9051,9051),(9052,9052),(9053,9053),(400,103),(401,104),(402,105),(403,106)]) (dG Y) (fun A=>uU A B) Tryz.call61 (fun A=>(.box Y (.box Y (.box Y (.arr (.mp (.arr (.arr .nil Y) Y) Y) Y) Y) Y) Y))) (.f [0,4,5] ?_));refine aH ?_;obtain rfl:=pT h;exact kS [(0,.ptr 9000 0),(4,.ptr 90 0),(5,.v Q8 z.1)] [(90,.box 28 [.v aM aR])] (aC [(90,102),(403,106),(302,9200),(402,105),(401,104),(400,103),(301,9100)]) (eA u Y (cO Y Y Y uS kR) (RV.tmp Y) (.cons Y (.cons Y (.cons Y (.cons Y (.cons Y (.cons Y (.cons Y .nil))))))))
theorem An(A:Nat->Nat){a1 b0 b1 b2 b3 b4 b5 b6 b7 b8 b9 bA bB bC bD bE bF bG bH bI bJ bK bL r}(h:gA a1 b0 b1 b2 b3 b4 b5 b6 b7 b8 b9 bA bB bC bD bE bF bG bH bI bJ bK bL=some r):
 VZ Tryz.prog 64 [.ptr 9000 0,.v Q0 a1] (kF 9000 (some (A 9000)) 9100 (some (A 9100)) 9200 (some (A 9200)) 9050 9051 9052 9053 b0 b1 b2 b3 b4 b5 b6 b7 b8 b9 bA bB bC bD bE bF bG bH bI bJ bK bL) (.WU [.v aM r.1,.v Q8 r.2]) (kF 9000 (some (A 9000)) 9100 (some (A 9100)) 9200 (some (A 9200)) 400 401 402 403 b0 b1 b2 b3 b4 b5 b6 b7 b8 b9 bA bB bC bD bE bF bG bH bI bJ bK bL):=by
 refine VZ.of Tryz.func64 Y Tryz.ntmps64 Y ?_;intro S w R z;unfold gA at h;refine aI (.k (aO 101 By Y (.cons (Z.arr 8 (Z.int .u8)) .nil) Y) (.f [0,1,4] ?_));refine aG ?_;refine aG ?_;obtain⟨E,u,h⟩:=aA h;refine eU (σ':=⟨[(0,.ptr 9000 0),(1,.v Q0 a1),(4,.ptr 101 0),(15,.v Wr.bool E)],((101,.box 28 [.v aM aR])::kF 9000 (some (A 9000)) 9100 (some (A 9100)) 9200 (some (A 9200)) 9050 9051 9052 9053 b0 b1 b2 b3 b4 b5 b6 b7 b8 b9 bA bB bC bD bE bF bG bH bI bJ bK bL)⟩) ?_ ?_
 ·refine cd u (fun C u=>?_) (fun C u=>?_)
  ·cases u;exact jy
  cases u;exact jy
 refine aU h Y (fun D h=>?_) (fun D h=>?_)
 ·refine aI (.k (dH (e:=aM) (v:=aR) Bx vZ I5 Y Y (Z.arr 8 (Z.int .u8))) (.f [0,4,5] ?_));refine aH ?_;obtain rfl:=pT h;exact kS [(0,.ptr 9000 0),(4,.ptr 90 0),(5,.v Q8 (some (1:Int)))] [(90,.box 28 [.v aM aR])] (aC [(90,101),(403,9053),(402,9052),(401,9051),(400,9050)]) (eA z Y (cO Y Y Y uS kR) (RV.tmp Y) (.cons Y (.cons Y (.cons Y (.cons Y (.cons Y (.cons Y (.cons Y .nil))))))))
 refine aE ?_;obtain⟨F,B,h⟩:=aA h;refine aI (.a 6 ?_);refine .k (jA B Y Y Y Ka kR) (.k (jS (dK B).2.2 Y Y .here uS kR) (.f [0,4,5] ?_));refine aH ?_;obtain rfl:=pT h;exact kS [(0,.ptr 9000 0),(4,.ptr 90 0),(5,.v Q8 (none:Option Int))] [(90,.box 28 [.v aM F])] (aC [(90,101),(403,9053),(402,9052),(401,9051),(400,9050)]) (eA z Y (cO Y Y Y uS kR) (RV.tmp Y) (.cons Y (.cons Y (.cons Y (.cons Y (.cons Y (.cons Y (.cons Y .nil))))))))
theorem Cq(A:Nat->Nat){a1 b0 b1 b2 b3 b4 b5 b6 b7 b8 b9 bA bB bC bD bE bF bG bH bI bJ bK bL r}(h:nR a1 b0 b1 b2 b3 b4 b5 b6 b7 b8 b9 bA bB bC bD bE bF bG bH bI bJ bK bL=some r):
 VZ Tryz.prog 63 [.ptr 9000 0,.v Q9 a1] (kF 9000 (some (A 9000)) 9100 (some (A 9100)) 9200 (some (A 9200)) 9050 9051 9052 9053 b0 b1 b2 b3 b4 b5 b6 b7 b8 b9 bA bB bC bD bE bF bG bH bI bJ bK bL) (.WU [.v aM r.1,.v Q8 r.2.1]) (Tx 9000 (some (A 9000)) 301 none 302 none 400 401 402 403 r.2.2):=by
 refine VZ.of Tryz.func63 Y Tryz.ntmps63 Y ?_;intro S w R z;unfold nR at h;refine aI (.k (cL 101 Y (.VS sO (.VS sO (.VS sO sO))) Y) (.k (aO 102 By Y (.cons (Z.arr 8 (Z.int .u8)) .nil) Y) (.f [0,3,4] ?_)));obtain⟨u,B,h⟩:=aA h;refine aI (.a 3 ?_);refine .t (eN [9000,9100,9200,9050,9051,9052,9053] (vC [(9000,9000),(9100,9100),(9200,9200),(9050,9050),(9051,9051),(9052,9052),(9053,9053),(400,103),(401,104),(402,105),(403,106)]) (dG Y) (fun A=>An A B) Tryz.call64 (fun A=>(.box Y (.box Y (.box Y (.arr (.mp (.arr (.arr .nil Y) Y) Y) Y) Y) Y) Y))) (.f [0,4,5] ?_);refine aH ?_;obtain rfl:=pT h;exact kS [(0,.ptr 9000 0),(4,.ptr 90 0),(5,.v Q8 u.2)] [(90,.box 28 [.v aM u.1])] (aC [(90,102),(403,106),(302,9200),(402,105),(401,104),(400,103),(301,9100)]) (eA z Y (cO Y Y Y uS kR) (RV.tmp Y) (.cons Y (.cons Y (.cons Y (.cons Y (.cons Y (.cons Y (.cons Y .nil))))))))
theorem Ao(A:Nat->Nat){a1 a2 b0 b1 b2 b3 b4 b5 b6 b7 b8 b9 bA bB bC bD bE bF bG bH bI bJ bK bL r}(h:jR a1 a2 b0 b1 b2 b3 b4 b5 b6 b7 b8 b9 bA bB bC bD bE bF bG bH bI bJ bK bL=some r):
 VZ Tryz.prog 104 [.ptr 9000 1,.v Q1 a1,.v Q0 a2] (kF 9000 (some (A 9000)) 9100 (some (A 9100)) 9200 (some (A 9200)) 9050 9051 9052 9053 b0 b1 b2 b3 b4 b5 b6 b7 b8 b9 bA bB bC bD bE bF bG bH bI bJ bK bL) (.v Q8 r.1) (kF 9000 (some (A 9000)) 9100 (some (A 9100)) 9200 (some (A 9200)) 400 401 402 403 b0 b1 r.2.1 b3 b4 b5 b6 b7 b8 b9 bA bB bC bD bE bF bG bH r.2.2.1 r.2.2.2 bK bL):=by
 refine VZ.of Tryz.func104 Y Tryz.ntmps104 Y ?_;intro S w R u;unfold jR at h;refine aL [0,1,2] ?_;refine aG ?_;refine aG ?_;obtain⟨C,B,h⟩:=aA h;refine eF 10 mixed (by exact(.k (aD Y) (.k (aK Y) (.k (aB 1 Y Fj Y Iv Y Y) (.k (aJ Y Y Y Oq Iv) (.k (aD Y) (.k (aD Y) (.k (aD Y) (.k (aK Y) (.k (aB 4 Y Fj Y S3 Y Y) (.k (aJ Y Y Y G3 S3) .nil))))))))))) (by exact(J.t (eN [9100] (Cb [(9000,9100)]) (eT _) (fun A=>hO A B) KQ (fun A=>(.box Y .nil Y))) (jz [0,2,7]))) ?_;refine aL [0,2,7,20] ?_;refine aU h Y (fun z h=>?_) (fun z h=>?_)
 ·refine aL [0,6] ?_;cases h;exact aH (eY u Y (aC [(403,9053),(402,9052),(401,9051),(400,9050)]))
 refine aE ?_;refine aL [0] ?_;refine aL [0,6] ?_;cases h;exact aH (eY u Y (aC [(403,9053),(402,9052),(401,9051),(400,9050)]))
theorem Oz{a0 a1 r}(h:rY a0 a1=some r):
 WL Tryz.prog 105 [.v Lh a0,.v Q0 a1] (.WU [.v Lh r.1,.v Q8 r.2]) []:=by
 refine WL.of Tryz.func105 Y Tryz.ntmps105 Y ?_;intro S w z;unfold rY at h;refine aI (.k (cL 101 Y (.VS sO (.VS sO (.VS sO sO))) Y) (.k (aO 102 RK Y (.cons (Z.int .i64) (.cons (Z.sl Q5) (.cons (Z.sl pH) (.cons Z.bool .nil)))) Y) (.f [1,2,4] ?_)));obtain⟨E,F,h⟩:=aA h;refine jO (.k (aT Y Y (.VS sO (.VS sO (.VS sO sO))) Fi zB) ?_);refine .a 1 ?_;refine .k (aN (tJ F) UE (.cons (.dir Y) (.cons (.dir Y) .nil))) (.f [2,4,6] ?_);refine aL [2,4,6,11] ?_;refine aU h Y (fun A h=>?_) (fun A h=>?_)
 ·refine aI (.k (fN (new:=[(104,.arr 157 pH ([]:Gb))]) zC (.cons (Z.int .i64) (.cons (Z.sl Q5) (.ref 104 Y (.cons Z.bool .nil)))) (.cons .nil) Y .nil) (.f [4,5] ?_));refine aH ?_;obtain rfl:=pT h;exact cA (σ':=⟨[(4,.ptr 90 0),(5,.v Q8 E)],[(90,.box 74 [.v Q0 (0:Int),.v Q1 ([]:Q6),.v (Wr.sl pH) ([]:Gb),.v Wr.bool false])]⟩) (aC [(90,102)]) (bS z dW Y (aV Y Y (.VS sO (.VS sO (.VS sO sO))) Fi zB) (RV.tmp Y) .nil Y)
 refine aE ?_;refine cU [2,4,16] ?_;refine aU h Y (fun B h=>?_) (fun B h=>?_)
 ·refine aI (.k (fN (new:=[(105,.arr 157 pH ([]:Gb))]) zC (.cons (Z.int .i64) (.cons (Z.sl Q5) (.ref 105 Y (.cons Z.bool .nil)))) (.cons .nil) Y .nil) (.f [4,5] ?_));refine aH ?_;obtain rfl:=pT h;exact cA (σ':=⟨[(4,.ptr 90 0),(5,.v Q8 (some (2:Int)))],[(90,.box 74 [.v Q0 (0:Int),.v Q1 ([]:Q6),.v (Wr.sl pH) ([]:Gb),.v Wr.bool false])]⟩) (aC [(90,102)]) (bS z dW Y (aV Y Y (.VS sO (.VS sO (.VS sO sO))) Fi zB) (RV.tmp Y) .nil Y)
 refine aE ?_;obtain⟨u,G,h⟩:=aA h;refine aI (.k (aT Y Y (.VS sO (.VS sO (.VS sO sO))) Fi zB) (.k (fO 106000 (wP G) Tryz.call117 (.cons (.dir Y) .nil) Y) (.f [2,4] ?_)));refine aL [2,4] ?_;refine aG ?_;refine bR ?_;refine aL [2,4,35] ?_;refine aU h Y (fun C h=>?_) (fun C h=>?_)
 ·refine aE ?_;refine aZ ?_;refine aI (.a 1 ?_);refine .t (uK 107 204 Q5 Y Y Y Y Iw Y) (.f [2,4] ?_);refine aI (.k (hX Y Y Y Fi zB) (.f [4,5] ?_));refine aH ?_;obtain rfl:=pT h;exact cA (σ':=⟨[(4,.ptr 90 0),(5,.v Q8 (none:Option Int))],[(90,.box 74 [.v Q0 (ar .add .i64 u.1 (1:Int)),.v Q1 ([]:Q6),.v (Wr.sl pH) u.2.2.1,.v Wr.bool u.2.2.2])]⟩) (aC [(90,102)]) (bS z dW Y (aV Y Y (.VS sO (.VS sO (.VS sO sO))) Fi zB) (RV.tmp Y) .nil Y)
 refine aL [2,4,38] ?_;refine aU h Y (fun D h=>?_) (fun D h=>?_)
 ·refine eR (.a 3 ?_);refine .t (uK 108 157 pH Y Y Y Y UG Y) (.f [2,4] ?_);refine aZ ?_;refine aI (.a 1 ?_);refine .t (uK 109 204 Q5 Y Y Y Y Iw Y) (.f [2,4] ?_);refine aI (.k (hX Y Y Y Fi zB) (.f [4,5] ?_));refine aH ?_;obtain rfl:=pT h;exact cA (σ':=⟨[(4,.ptr 90 0),(5,.v Q8 (none:Option Int))],[(90,.box 74 [.v Q0 (ar .add .i64 u.1 (1:Int)),.v Q1 ([]:Q6),.v (Wr.sl pH) ([]:Gb),.v Wr.bool true])]⟩) (aC [(90,102)]) (bS z dW Y (aV Y Y (.VS sO (.VS sO (.VS sO sO))) Fi zB) (RV.tmp Y) .nil Y)
 obtain⟨H,I,h⟩:=aA h;refine eR (.a 6 ?_);refine .k (bP Dt (.cons (Z.int .i64) (.cons (Z.sl Q5) .nil)) (.cons Y (.dir Y) Y Y Y Y (.cons Y (.dir Y) Y Y Y Y .nil))) (.sub (σ':=⟨[(2,.ptr 101 0),(4,.ptr 102 0),(25,.ptr 101 2),(26,.ref 106001),(27,.ptr 101 0),(28,.v Q0 (ar .add .i64 u.1 (1:Int))),(29,.ptr 101 1),(30,.v Q1 u.2.1),(31,.agg [.v Q0 (ar .add .i64 u.1 (1:Int)),.v Q1 u.2.1]),(38,.v Wr.bool (cm .eql (u.2.2.1.length:Int) (4:Int)))],[(101,.box 74 [.v Q0 (ar .add .i64 u.1 (1:Int)),.v Q1 u.2.1,.ref 106001,.v Wr.bool u.2.2.2]),(102,.box 74 [.v Q0 (0:Int),.v Q1 ([]:Q6),.v (Wr.sl pH) ([]:Gb),.v Wr.bool false]),(106001,.arr 157 pH u.2.2.1)]⟩) (Sw.Sub.mk id (.cons Y (.of_eq Y) (.cons Y (.of_eq Y) (.cons Y (.of_eq Y) (.cons Y (.of_eq Y) (.cons Y (.of_eq Y) (.cons Y (.of_eq Y) (.cons Y (.of_eq Y) (.cons Y (.S8 Y Y) (.cons Y (.agg (.cons (.of_eq Y) (.cons (.S8 Y Y) .nil))) (.cons Y (.of_eq Y) .nil)))))))))) (.box Y (.cons (.of_eq Y) (.cons (.S8 Y Y) (.cons (.of_eq Y) (.cons (.of_eq Y) .nil)))) (.box Y (.cons (.of_eq Y) (.cons (.of_eq Y) (.cons (.of_eq Y) (.cons (.of_eq Y) .nil)))) (.arr Y .nil))) Y) (.k (dM (e:=pH) FU vJ Py Y Y Y Y (.cons (.agg Y (.same (.same .nil)) (.VS sO sO) Y) .nil)) (.t (bU 110 I Y Y (.sl Y) FU QY vJ Y Y Y Y Y) (.f [2,4] ?_))));refine aZ ?_;refine aI (.a 1 ?_);refine .t (Jg Y Y Y (.og Q5) Y Y Y Iw) (.f [2,4] ?_);refine aI (.k (hX Y Y Y Fi zB) (.f [4,5] ?_));refine aH ?_;obtain rfl:=pT h;exact cA (σ':=⟨[(4,.ptr 90 0),(5,.v Q8 (none:Option Int))],[(90,.box 74 [.v Q0 (ar .add .i64 u.1 (1:Int)),.v Q1 ([]:Q6),.v (Wr.sl pH) H,.v Wr.bool u.2.2.2])]⟩) (aC [(90,102)]) (bS z dW Y (aV Y Y (.VS sO (.VS sO (.VS sO sO))) Fi zB) (RV.tmp Y) .nil Y)
theorem nN(A:Nat->Nat){b0 b1 b2 b3 b4 b5 b6 b7 b8 b9 bA bB bC bD bE bF bG bH bI bJ bK bL r}(h:eO b0 b1 b2 b3 b4 b5 b6 b7 b8 b9 bA bB bC bD bE bF bG bH bI bJ bK bL=some r):
 VZ Tryz.prog 59 [.ptr 9000 1] (kF 9000 (some (A 9000)) 9100 (some (A 9100)) 9200 (some (A 9200)) 9050 9051 9052 9053 b0 b1 b2 b3 b4 b5 b6 b7 b8 b9 bA bB bC bD bE bF bG bH bI bJ bK bL) (.WU []) (kF 9000 (some (A 9000)) 9100 (some (A 9100)) 9200 (some (A 9200)) 400 401 402 403 b0 b1 b2 b3 b4 b5 r b7 b8 b9 bA bB bC bD bE bF bG bH bI bJ bK bL):=by
 refine VZ.of Tryz.func59 Y Tryz.ntmps59 Y ?_;intro S w R u;unfold eO at h;refine aG ?_;obtain⟨D,z,h⟩:=aA h;obtain⟨B,C,h⟩:=aA h;refine eF 14 mixed (by exact(.k (aD Y) (.k (aK Y) (.k (aB 10 Y wA Y Zz Y Y) (.k (aJ Y Y Y PG Zz) (.k (aD Y) (.k (aK Y) (.k (aB 1 Y wA Y Lk Y Y) (.k (aB 3 Y Fj Y S3 Y Y) (.k (aJ Y Y Y G3 S3) (.k (aD Y) (.k (aK Y) (.k (aB 5 Y wA Y yI Y Y) (.k (aJ Y Y Y Uf yI) (.k (Qq (qX 102000 (cQ z) QV (.cons (.ref Y Y) .nil) Y YF.ref (YR.arr YR.nil)) (fun _=>(Sw.Sub.mk id (.cons Y (.S8 Y Y) .nil) .nil Y)) Y) .nil))))))))))))))) (by exact(J.t (Nk C Y Y Y Y RJ U3 (s8.int U3) Y) (J.kp [0] []))) ?_;refine eF 11 mixed (by exact(.k (aD Y) (.k (aK Y) (.k (aB 10 Y wA Y Zz Y Y) (.k (aJ Y Y Y PG Zz) (.k (aD Y) (.k (aK Y) (.k (aB 1 Y wA Y Lk Y Y) (.k (aB 3 Y Fj Y S3 Y Y) (.k (aJ Y Y Y G3 S3) (.k (cY Y Y Y) (.k (cY Y Y Y) .nil)))))))))))) (by exact(J.t (Nl Y Y Y RJ U3 (s8.int U3) Y) (J.kp [0] []))) ?_;refine AJ ?_;obtain rfl:=pT h;exact cA (σ':=⟨[(0,.ptr 9000 1)],(kF 9000 (some (A 9000)) 9100 (some (A 9100)) 9200 (some (A 9200)) 400 401 402 403 b0 b1 b2 b3 b4 b5 (Gm B (ar .sub .i64 (ar .sub .i64 b2 (4:Int)) (1:Int))) b7 b8 b9 bA bB bC bD bE bF bG bH bI bJ bK bL)⟩) (aC [(403,9053),(402,9052),(401,9051),(400,9050)]) (En u Y (.cons Y (.cons Y (.cons Y (.cons Y (.cons Y (.cons Y (.cons Y .nil))))))))
theorem yB(A:Nat->Nat){b0 b1 b2 b3 b4 b5 b6 b7 b8 b9 bA bB bC bD bE bF bG bH bI bJ bK bL r}(h:fW b0 b1 b2 b3 b4 b5 b6 b7 b8 b9 bA bB bC bD bE bF bG bH bI bJ bK bL=some r):
 VZ Tryz.prog 66 [.ptr 9000 0] (kF 9000 (some (A 9000)) 9100 (some (A 9100)) 9200 (some (A 9200)) 9050 9051 9052 9053 b0 b1 b2 b3 b4 b5 b6 b7 b8 b9 bA bB bC bD bE bF bG bH bI bJ bK bL) (.v Q8 r.1) (kF 9000 (some (A 9000)) 9100 (some (A 9100)) 9200 (some (A 9200)) 400 401 402 403 b0 b1 r.2.1 b3 b4 r.2.2.1 r.2.2.2.1 b7 b8 b9 bA bB bC bD bE bF bG bH r.2.2.2.2.1 r.2.2.2.2.2 bK bL):=by
 refine VZ.of Tryz.func66 Y Tryz.ntmps66 Y ?_;intro S w R u;unfold fW at h;refine aL [0] ?_;refine aL [0,3] ?_;refine aG ?_;refine aG ?_;obtain⟨E,B,h⟩:=aA h;refine eF 14 mixed (by exact(.k (aD Y) (.k (aK Y) (.k (aB 1 Y wA Y Lk Y Y) (.k (aD Y) (.k (aK Y) (.k (aB 6 Y wA Y zB Y Y) (.k (aB 7 Y SA Y Iw Y Y) (.k (yV (off:=6) (o1:=1) Y Y Y Y (.snd (.fst .here)) GF Iw) (.k (aD Y) (.k (aK Y) (.k (aB 1 Y wA Y Lk Y Y) (.k (aB 3 Y Fj Y S3 Y Y) (.k (aJ Y Y Y G3 S3) (.k (cY Y Y Y) .nil))))))))))))))) (by exact(J.t (eN [9000,9100,9200,9050,9051,9052,9053] (vC [(9000,9000),(9100,9100),(9200,9200),(9050,9050),(9051,9051),(9052,9052),(9053,9053),(400,101),(401,102),(402,103),(403,104)]) (dG Y) (fun A=>Ao A B) Tryz.call104 (fun A=>(.box Y (.box Y (.box Y (.arr (.mp (.arr (.arr .nil Y) Y) Y) Y) Y) Y) Y))) (jz [0,3,4]))) ?_;refine aL [0,3,4,26] ?_;refine aU h Y (fun z h=>?_) (fun z h=>?_)
 ·refine aL [0,2] ?_;cases h;exact aH (eY u Y (aC [(403,104),(402,103),(401,102),(400,101)]))
 refine aE ?_;refine aG ?_;obtain⟨F,C,h⟩:=aA h;refine eF 16 mixed (by exact(.k (aD Y) (.k (aK Y) (.k (aB 6 Y wA Y zB Y Y) (.k (aJ Y Y Y Fi zB) (.k (aD Y) (.k (aK Y) (.k (aB 1 Y wA Y Lk Y Y) (.k (aB 2 Y Fj Y S3 Y Y) (.k (aJ Y Y Y G3 S3) (.k (aN (Oz C) Tryz.call105 (.cons (.dir Y) (.cons (.dir Y) .nil))) (.k (aD Y) (.k (bW Y Y) (.k (bW Y Y) (.k (aO 106 RK Y (.cons (Z.int .i64) (.cons (Z.sl Q5) (.cons (Z.sl pH) (.cons Z.bool .nil)))) Y) (XZ.storeAll (.none Y) Y Y Y Y (.VS sO (.VS sO (.VS sO sO))) zB (.k (bQ Y) .nil))))))))))))))))) (by exact(J.kp [0,3,5,6] [])) ?_;refine aI (.a 1 ?_);refine .k (aT Y Y (.VS sO (.VS sO (.VS sO sO))) Fi zB) (.f [0,3,6] ?_);obtain⟨G,D,h⟩:=aA h;refine aI (.a 1 ?_);refine .t (eN [9000,9100,9200,101,102,103,104] (vC [(9000,9000),(9100,9100),(9200,9200),(9050,101),(9051,102),(9052,103),(9053,104),(400,107),(401,108),(402,109),(403,110)]) (dG Y) (fun A=>nN A D) Tryz.call59 (fun A=>(.box Y (.box Y (.box Y (.arr (.mp (.arr (.arr .nil Y) Y) Y) Y) Y) Y) Y))) (.f [0,6] ?_);refine aL [0,2] ?_;cases h;exact aH (eY u Y (aC [(403,110),(402,109),(401,108),(400,107)]))
theorem Cr(A:Nat->Nat){a1 b0 b1 b2 b3 b4 b5 b6 b7 b8 b9 bA bB bC bD bE bF bG bH bI bJ bK bL r}(h:nS a1 b0 b1 b2 b3 b4 b5 b6 b7 b8 b9 bA bB bC bD bE bF bG bH bI bJ bK bL=some r):
 VZ Tryz.prog 65 [.ptr 9000 0,.v Q9 a1] (kF 9000 (some (A 9000)) 9100 (some (A 9100)) 9200 (some (A 9200)) 9050 9051 9052 9053 b0 b1 b2 b3 b4 b5 b6 b7 b8 b9 bA bB bC bD bE bF bG bH bI bJ bK bL) (.WU [.v aM r.1,.v Q8 r.2.1]) (Tx 9000 (some (A 9000)) 301 none 302 none 400 401 402 403 r.2.2):=by
 refine VZ.of Tryz.func65 Y Tryz.ntmps65 Y ?_;intro S w R u;unfold nS at h;refine aI (.k (cL 101 Y (.VS sO (.VS sO (.VS sO sO))) Y) (.k (aO 102 By Y (.cons (Z.arr 8 (Z.int .u8)) .nil) Y) (.f [0,4] ?_)));obtain⟨z,B,h⟩:=aA h;refine aI (.k (dH (e:=aM) (v:=aR) Bx vZ I5 Y Y (Z.arr 8 (Z.int .u8))) ?_);refine .a 1 ?_;refine .t (eN [9000,9100,9200,9050,9051,9052,9053] (vC [(9000,9000),(9100,9100),(9200,9200),(9050,9050),(9051,9051),(9052,9052),(9053,9053),(400,103),(401,104),(402,105),(403,106)]) (dG Y) (fun A=>yB A B) Tryz.call66 (fun A=>(.box Y (.box Y (.box Y (.arr (.mp (.arr (.arr .nil Y) Y) Y) Y) Y) Y) Y))) (.f [0,4,5] ?_);refine aH ?_;obtain rfl:=pT h;exact kS [(0,.ptr 9000 0),(4,.ptr 90 0),(5,.v Q8 z.1)] [(90,.box 28 [.v aM aR])] (aC [(90,102),(403,106),(302,9200),(402,105),(401,104),(400,103),(301,9100)]) (eA u Y (cO Y Y Y uS kR) (RV.tmp Y) (.cons Y (.cons Y (.cons Y (.cons Y (.cons Y (.cons Y (.cons Y .nil))))))))
theorem Ix{a0 r}(h:pV a0=some r):
 WL Tryz.prog 122 [.v Q0 a0] (.v Wr.bool r) []:=by
 refine WL.of Tryz.func122 Y Tryz.ntmps122 Y ?_;intro S w z;unfold pV at h;refine aL [0] ?_;refine aG ?_;obtain⟨B,u,h⟩:=aA h;refine eU (σ':=⟨[(2,.v Wr.bool B)],[]⟩) ?_ ?_
 ·refine cd u (fun A u=>?_) (fun A u=>?_)
  ·cases u;exact jy
  cases u;exact jy
 cases h;exact aH (aY z dW Y (RV.tmp Y) .nil Y)
theorem pD{a0 r}(h:eG a0=some r):
 WL Tryz.prog 152 [.v mH a0,.j2 122 []] (.v Q0 r) []:=by
 refine WL.of Tryz.func152 Y Tryz.ntmps152 Y ?_;intro S w u;unfold eG at h;refine aL [0,1] ?_;refine cU [0,1,7,8] ?_;obtain⟨L,F,G,H⟩:=cF h;refine iZ (σs:=fun z:Int=>⟨[(0,.v mH a0),(1,.j2 122 []),(7,.v Q0 (a0.length:Int)),(8,.v Q0 z)],[]⟩) (fun A:Unit=>⟨[],[]⟩) F (aC []) ?_ ?_
 ·intro A B;have h:=G _ B;refine aL [4] ?_;cases h;exact aH (aY u dW Y (RV.tmp Y) .nil Y)
 intro z K h;refine aL [0,1,7,8,9] ?_;refine aG ?_;refine aU h Y (fun C h=>?_) (fun C h=>?_)
 ·refine aE ?_;refine aG ?_;refine bR ?_;refine aL [0,1,5,7,8] ?_;obtain⟨M,N,h⟩:=aA h;obtain⟨O,I,h⟩:=aA h;refine aI (.a 5 ?_);refine .k (tW Y (Ix I) Tryz.call122 (.cons (.dir Y) .nil)) (.f [0,1,5,7,8,16] ?_);refine aU h Y (fun D h=>?_) (fun D h=>?_)
  ·refine aL [4] ?_;refine aH ?_;refine eI ?_;cases h;refine gC fun E=>?_;obtain rfl:=H _ E;exact aY u dW Y (RV.tmp Y) .nil Y
  refine aE ?_;refine aZ ?_;refine dS [0,1,7,8] ?_;cases h;exact cE (aC [])
 cases h;exact cX (dJ (aC []))
theorem nK{a0 r}(h:dA a0=some r):
 WL Tryz.prog 121 [.v mH a0,.j2 122 []] (.v Wr.bool r) []:=by
 refine WL.of Tryz.func121 Y Tryz.ntmps121 Y ?_;intro S w u;unfold dA at h;refine aL [0,1] ?_;obtain⟨A,z,h⟩:=aA h;refine aI (.a 2 ?_);refine .k (aN (pD z) Tryz.call152 (.cons (.dir Y) (.cons (.dir Y) .nil))) (.f [4] ?_);cases h;exact aH (aY u dW Y (RV.tmp Y) .nil Y)
theorem Ch{a0 r}(h:qE a0=some r):
 WL Tryz.prog 90 [.v Q4 a0] (.v Q8 r) []:=by
 refine WL.of Tryz.func90 Y Tryz.ntmps90 Y ?_;intro S w z;unfold qE at h;refine aI (.k (cL 101 Y (.VS sO (.VS sO sO)) Y) (.f [1] ?_));refine aG ?_;refine aG ?_;obtain⟨F,u,h⟩:=aA h;refine eU (σ':=⟨[(1,.ptr 101 0),(10,.v Wr.bool F)],[(101,.box 119 [.v Q0 a0.1,.v mH a0.2.1,.v Q7 a0.2.2])]⟩) ?_ ?_
 ·refine cd u (fun A u=>?_) (fun A u=>?_)
  ·cases u;exact jy
  cases u;exact jy
 refine aU h Y (fun B h=>?_) (fun B h=>?_)
 ·refine aL [2] ?_;cases h;exact aH (aY z dW Y (RV.tmp Y) .nil Y)
 refine aE ?_;refine aG ?_;refine aG ?_;obtain⟨G,u,h⟩:=aA h;refine eU (σ':=⟨[(1,.ptr 101 0),(21,.v Wr.bool G)],[(101,.box 119 [.v Q0 a0.1,.v mH a0.2.1,.v Q7 a0.2.2])]⟩) ?_ ?_
 ·refine cd u (fun C u=>?_) (fun C u=>?_)
  ·cases u;exact jy
  cases u;exact jy
 refine aU h Y (fun D h=>?_) (fun D h=>?_)
 ·refine aL [2] ?_;cases h;exact aH (aY z dW Y (RV.tmp Y) .nil Y)
 refine aE ?_;obtain⟨I,H,h⟩:=aA h;refine jO (.a 2 ?_);refine .k (aN (nK H) Tryz.call121 (.cons (.dir Y) (.cons .fn .nil))) (.f [25] ?_);refine aU h Y (fun E h=>?_) (fun E h=>?_)
 ·refine aL [2] ?_;cases h;exact aH (aY z dW Y (RV.tmp Y) .nil Y)
 refine aE ?_;refine aL [2] ?_;cases h;exact aH (aY z dW Y (RV.tmp Y) .nil Y)
theorem Gc{a0 r}(h:tZ a0=some r):
 WL Tryz.prog 91 [.v (Wr.sl (Wr.int .u8)) a0] (.v (Wr.int .u32) r) []:=by
 refine WL.of Tryz.func91 Y Tryz.ntmps91 Y ?_;intro S w D;unfold tZ at h;refine aL [0] ?_;refine aL [0,3] ?_;refine cU [3,6,7,8] ?_;obtain⟨N,G,H,O⟩:=cF h;refine iZ (σs:=fun u:Int×Int=>⟨[(3,.v (Wr.int .u32) u.1),(6,.v (Wr.sl (Wr.int .u8)) a0),(7,.v Q0 (a0.length:Int)),(8,.v Q0 u.2)],[]⟩) (fun B:Int=>⟨[(3,.v (Wr.int .u32) B)],[]⟩) G (aC []) ?_ ?_
 ·intro B z;have h:=H _ z;refine aI (.a 1 ?_);refine .k (PQ Y) (.f [2] ?_);cases h;exact aH (aY D dW Y (RV.tmp Y) .nil Y)
 intro u L h;refine aL [3,6,7,8,9] ?_;refine aG ?_;refine aU h Y (fun E h=>?_) (fun E h=>?_)
 ·refine aE ?_;refine aG ?_;refine bR ?_;obtain⟨P,Q,h⟩:=aA h;refine aL [3,5,6,7,8] ?_;refine aI (.a 2 ?_);refine .k (by exact mN U5 Tryz.runUnderlying196 Y Y) (.f [3,6,7,8] ?_);refine aL [3,6,7,8,16] ?_;obtain⟨R,I,K,T⟩:=cF h;refine iZ (σs:=fun A:Int×Int=>⟨[(3,.v (Wr.int .u32) A.1),(6,.v (Wr.sl (Wr.int .u8)) a0),(7,.v Q0 (a0.length:Int)),(8,.v Q0 u.2),(16,.v Q0 A.2)],[]⟩) (fun C:Int=>⟨[(3,.v (Wr.int .u32) C),(6,.v (Wr.sl (Wr.int .u8)) a0),(7,.v Q0 (a0.length:Int)),(8,.v Q0 u.2)],[]⟩) I (aC []) ?_ ?_
  ·intro C z;have h:=K _ z;refine aZ ?_;refine dS [3,6,7,8] ?_;cases h;exact cE (aC [])
  intro A M h;refine aL [3,6,7,8,16,17] ?_;refine aG ?_;refine aU h Y (fun F h=>?_) (fun F h=>?_)
  ·refine aE ?_;refine aG ?_;refine bR ?_;refine eR (.a 1 ?_);refine .k (fD (.inr Y) (by decide) Y Y) (.f [3,6,7,8,16] ?_);refine aZ ?_;refine dS [3,6,7,8,16] ?_;cases h;exact cE (aC [])
  cases h;exact cX (dJ (aC []))
 cases h;exact cX (dJ (aC []))
theorem yC{a0 r}(h:mW a0=some r):
 WL Tryz.prog 48 [.v Q4 a0] (.WU [.v (Wr.sl (Wr.int .u8)) r.1,.v Q8 r.2]) []:=by
 refine WL.of Tryz.func48 Y Tryz.ntmps48 Y ?_;intro S w D;unfold mW at h;refine aI (.k (cL 101 Y (.VS sO (.VS sO sO)) Y) (.k (mT (Wr.int .u8)) (.f [1] ?_)));obtain⟨v1,L,h⟩:=aA h;refine jO (.k (aT Y Y (.VS sO (.VS sO sO)) uZ lN) (.k (aN (Ch L) Tryz.call90 (.cons (.dir Y) .nil)) (.f [1,4] ?_)));refine aL [1,4,14] ?_;refine aU h Y (fun G h=>?_) (fun G h=>?_)
 ·refine aI (.a 1 ?_);refine .k (mT (Wr.int .u8)) (.f [2,3] ?_);cases h;exact aH (bS D dW Y (RV.tmp Y) (RV.tmp Y) .nil Y)
 refine aE ?_;refine aI (.a 3 ?_);refine .k (fD (.inl Y) (by decide) Y Y) ?_;refine .a 9 ?_;refine .k (rP (e:=(Wr.int .u8)) 103 tP S5 Z5 Y Y Y Y (.cons (.dir Y) (.cons (.dir Y) .nil))) (.f [1,5] ?_);refine cU [1,5,31,32,33] ?_;obtain⟨af,M,N,ah⟩:=cF h;refine iZ (σs:=fun z:Int×kM=>⟨[(1,.ptr 101 0),(5,.ref 125),(31,.v mH a0.2.1),(32,.v Q0 (a0.2.1.length:Int)),(33,.v Q0 z.1)],[(101,.box 119 [.v Q0 a0.1,.v mH a0.2.1,.v Q7 a0.2.2]),(125,.arr 5 (Wr.int .u8) z.2)]⟩) (fun E:kM=>⟨[(1,.ptr 101 0),(5,.ref 125)],[(101,.box 119 [.v Q0 a0.1,.v mH a0.2.1,.v Q7 a0.2.2]),(125,.arr 5 (Wr.int .u8) E)]⟩) M (aC [(125,103)]) ?_ ?_
 ·intro E u;have h:=N _ u;refine cU [5,54,55,56] ?_;obtain⟨am,O,P,an⟩:=cF h;refine iZ (σs:=fun A:Int×kM=>⟨[(5,.ref 151),(54,.v Q7 a0.2.2),(55,.v Q0 (a0.2.2.length:Int)),(56,.v Q0 A.1)],[(151,.arr 5 (Wr.int .u8) A.2)]⟩) (fun F:kM=>⟨[(5,.ref 151)],[(151,.arr 5 (Wr.int .u8) F)]⟩) O (aC [(151,125)]) ?_ ?_
  ·intro F u;have h:=P _ u;obtain⟨ap,Q,h⟩:=aA h;refine aI (.a 1 ?_);refine .k (rR (Gc Q) Tryz.call91 (.cons (.ref Y Y) .nil) YF.v) (.f [5,10] ?_);obtain⟨aq,R,h⟩:=aA h;refine aI (.a 2 ?_);refine .k (fD (.inr Y) (by decide) Y Y) ?_;refine .a 2 ?_;refine .k (fD (.inr Y) (by decide) Y Y) ?_;refine .a 2 ?_;refine .k (fD (.inr Y) (by decide) Y Y) ?_;refine .a 3 ?_;refine .k (dM (e:=(Wr.int .u8)) tP S5 Z5 Y Y Y Y (.cons (.dir Y) (.cons (.dir Y) (.cons (.dir Y) (.cons (.dir Y) .nil))))) (.t (bU 157 R Y Y (.sl Y) tP I5 S5 Y Y Y Y Y) (.f [2,3] ?_));cases h;exact aH (wT D dW Y (aC []))
  intro A ab h;refine aL [5,54,55,56,57] ?_;refine aG ?_;refine aU h Y (fun H h=>?_) (fun H h=>?_)
  ·refine aE ?_;refine aG ?_;refine bR ?_;obtain⟨au,av,h⟩:=aA h;refine aI (.a 2 ?_);refine .k (aO 154 By Y (.cons (Z.arr 8 (Z.int .u8)) .nil) Y) (.f [5,9,54,55,56] ?_);obtain⟨a1,T,h⟩:=aA h;refine eR (.a 1 ?_);refine .k (Ql Y Y Y vZ S5) (.t (bU 155 T Y Y (.y9 Y Y Y Y) tP I5 S5 Y Y Y Y Y) (.f [5,54,55,56] ?_));refine aZ ?_;refine dS [5,54,55,56] ?_;cases h;exact cE (aC [(151,155)])
  cases h;exact cX (dJ (aC []))
 intro z ac h;refine aL [1,5,31,32,33,34] ?_;refine aG ?_;refine aU h Y (fun I h=>?_) (fun I h=>?_)
 ·refine aE ?_;refine aG ?_;refine bR ?_;obtain⟨a2,a3,h⟩:=aA h;refine aL [1,5,7,31,32,33] ?_;refine aG ?_;obtain⟨a4,U,V,a5⟩:=cF h;refine iZ (σs:=fun C:Int×kM=>⟨[(1,.ptr 101 0),(5,.ref 140),(7,.v Q0 C.1),(31,.v mH a0.2.1),(32,.v Q0 (a0.2.1.length:Int)),(33,.v Q0 z.1)],[(101,.box 119 [.v Q0 a0.1,.v mH a0.2.1,.v Q7 a0.2.2]),(140,.arr 5 (Wr.int .u8) C.2)]⟩) (fun B:Int×kM=>⟨[(1,.ptr 101 0),(5,.ref 140),(7,.v Q0 B.1),(31,.v mH a0.2.1),(32,.v Q0 (a0.2.1.length:Int)),(33,.v Q0 z.1)],[(101,.box 119 [.v Q0 a0.1,.v mH a0.2.1,.v Q7 a0.2.2]),(140,.arr 5 (Wr.int .u8) B.2)]⟩) U (aC [(140,125)]) ?_ ?_
  ·intro B u;have h:=V _ u;obtain⟨a6,X,h⟩:=aA h;refine eR (.a 3 ?_);refine .k (dM (e:=(Wr.int .u8)) tP S5 Z5 Y Y Y Y (.cons (.dir Y) .nil)) (.t (bU 143 X Y Y (.sl Y) tP I5 S5 Y Y Y Y Y) (.f [1,5,31,32,33] ?_));refine aZ ?_;refine dS [1,5,31,32,33] ?_;cases h;exact cE (aC [(125,143)])
  intro C ad h;refine cU [1,5,7,31,32,33,38] ?_;refine aU h Y (fun K h=>?_) (fun K h=>?_)
  ·refine aE ?_;refine aG ?_;refine bR ?_;obtain⟨a7,aa,h⟩:=aA h;refine eR (.a 4 ?_);refine .k (dM (e:=(Wr.int .u8)) tP S5 Z5 Y Y Y Y (.cons (.dir Y) .nil)) (.t (bU 142 aa Y Y (.sl Y) tP I5 S5 Y Y Y Y Y) (.f [1,5,7,31,32,33] ?_));refine aZ ?_;refine eR (.a 1 ?_);refine .k (fD (.inr Y) (by decide) Y Y) (.f [1,5,7,31,32,33] ?_);cases h;exact cE (aC [(140,142)])
  cases h;exact cX (dJ (aC []))
 cases h;exact cX (dJ (aC []))
theorem pA(A:Nat->Nat){a1 a2 b0 b1 b2 b3 b4 b5 b6 b7 b8 b9 bA bB bC bD bE bF bG bH bI bJ bK bL r}(h:eM a1 a2 b0 b1 b2 b3 b4 b5 b6 b7 b8 b9 bA bB bC bD bE bF bG bH bI bJ bK bL=some r):
 VZ Tryz.prog 35 [.ptr 9000 0,.v Wr.bool a1,.v (Wr.J4 (Wr.int .u8)) a2] (kF 9000 (some (A 9000)) 9100 (some (A 9100)) 9200 (some (A 9200)) 9050 9051 9052 9053 b0 b1 b2 b3 b4 b5 b6 b7 b8 b9 bA bB bC bD bE bF bG bH bI bJ bK bL) (.WU []) (kF 9000 (some (A 9000)) 9100 (some (A 9100)) 9200 (some (A 9200)) 400 401 402 403 b0 b1 b2 b3 b4 b5 b6 b7 b8 b9 bA bB bC bD bE bF bG r bI bJ bK bL):=by
 refine VZ.of Tryz.func35 Y Tryz.ntmps35 Y ?_;intro S w R z;unfold eM at h;refine aG ?_;obtain⟨B,u,h⟩:=aA h;refine eU (σ':=⟨[(0,.ptr 9000 0),(1,.v Wr.bool a1),(2,.v (Wr.J4 (Wr.int .u8)) a2),(15,.v Wr.bool B)],(kF 9000 (some (A 9000)) 9100 (some (A 9100)) 9200 (some (A 9200)) 9050 9051 9052 9053 b0 b1 b2 b3 b4 b5 b6 b7 b8 b9 bA bB bC bD bE bF bG bH bI bJ bK bL)⟩) ?_ ?_
 ·refine cd u (fun C u=>?_) (fun C u=>?_)
  ·cases u;refine ja 1 ?_;exact(J.k (Qu Y tP) jy)
  cases u;refine ja 1 ?_;exact(J.k (Qu Y tP) jy)
 refine aU h Y (fun D h=>?_) (fun D h=>?_)
 ·obtain⟨E,F,h⟩:=aA h;refine eR (.a 7 ?_);refine .sub (σ':=⟨[(0,.ptr 9000 0),(1,.v Wr.bool a1),(2,.v (Wr.J4 (Wr.int .u8)) a2),(15,.v Wr.bool B),(16,.ptr 9000 0),(17,.ptr 9000 0),(18,.ptr 9000 0),(19,.ptr 9000 25),(20,.ref 9053),(21,.v Wr.bool a1),(22,.v (Wr.sl (Wr.int .u8)) a2.2)],[(9000,.box 87 [.v Q0 b0,.ptr 9100 0,.v Q0 b1,.v Q0 b2,.v Q0 b3,.ref 9050,.v Lh b5,.ref 9051,.v Q0 b7,.v On b8,.v Q0 b9,.v Q0 bA,.ref 9052,.ptr 9200 0,.v Q0 bC,.v Q0 bD,.v Q0 bE,.v Q0 bF,.v (Wr.pr Q0 Q0) bG,.ref 9053] (some (A 9000))),(9053,.arr 110 (Wr.pr Wr.bool (Wr.pr Wr.bool (Wr.sl (Wr.int .u8)))) bH),(9100,.box 148 [.v Q0 bI,.v Q2 bJ] (some (A 9100))),(9050,.arr 28 aM b4),(9051,.mp Q0 Q7 b6),(9052,.arr 3 Q0 bB),(9200,.box 148 [.v Q0 bK,.v Q2 bL] (some (A 9200)))]⟩) (Sw.Sub.mk id (.cons Y (.of_eq Y) (.cons Y (.of_eq Y) (.cons Y (.of_eq Y) (.cons Y (.of_eq Y) (.cons Y (.of_eq Y) (.cons Y (.of_eq Y) (.cons Y (.of_eq Y) (.cons Y (.of_eq Y) (.cons Y (.of_eq Y) (.cons Y (.of_eq Y) (.cons Y .unN .nil))))))))))) (.box Y (.cons (.of_eq Y) (.cons (.of_eq Y) (.cons (.of_eq Y) (.cons (.of_eq Y) (.cons (.of_eq Y) (.cons (.of_eq Y) (.cons (.of_eq Y) (.cons (.of_eq Y) (.cons (.of_eq Y) (.cons (.of_eq Y) (.cons (.of_eq Y) (.cons (.of_eq Y) (.cons (.of_eq Y) (.cons (.of_eq Y) (.cons (.of_eq Y) (.cons (.of_eq Y) (.cons (.of_eq Y) (.cons (.of_eq Y) (.cons (.of_eq Y) (.cons (.of_eq Y) .nil)))))))))))))))))))) (.arr Y (.box Y (.cons (.of_eq Y) (.cons (.of_eq Y) .nil)) (.arr Y (.mp Y (.arr Y (.box Y (.cons (.of_eq Y) (.cons (.of_eq Y) .nil)) .nil))))))) Y) (.k (bP Xq (.cons Z.bool (.cons Z.bool (.cons (Z.sl (Wr.int .u8)) .nil))) (.cons Y (.dir Y) Y Y Y Y (.cons Y (.dir Y) Y Y Y Y .nil))) (.k (dM (e:=(Wr.pr Wr.bool (Wr.pr Wr.bool (Wr.sl (Wr.int .u8))))) Kb wF FY Y Y Y Y (.cons (.agg Y (.same (.same (.same .nil))) (.VS sO (.VS sO sO)) Y) .nil)) (.t (bU 101 F Y Y (.sl Y) Kb ON wF Y Y Y Y Y) (.f [0] ?_))));refine AJ ?_;obtain rfl:=pT h;exact cA (σ':=⟨[(0,.ptr 9000 0)],(kF 9000 (some (A 9000)) 9100 (some (A 9100)) 9200 (some (A 9200)) 400 401 402 403 b0 b1 b2 b3 b4 b5 b6 b7 b8 b9 bA bB bC bD bE bF bG E bI bJ bK bL)⟩) (aC [(403,101),(402,9052),(401,9051),(400,9050)]) (En z Y (.cons Y (.cons Y (.cons Y (.cons Y (.cons Y (.cons Y (.cons Y .nil))))))))
 refine aE ?_;refine AJ ?_;obtain rfl:=pT h;exact cA (σ':=⟨[(0,.ptr 9000 0)],(kF 9000 (some (A 9000)) 9100 (some (A 9100)) 9200 (some (A 9200)) 400 401 402 403 b0 b1 b2 b3 b4 b5 b6 b7 b8 b9 bA bB bC bD bE bF bG bH bI bJ bK bL)⟩) (aC [(403,9053),(402,9052),(401,9051),(400,9050)]) (En z Y (.cons Y (.cons Y (.cons Y (.cons Y (.cons Y (.cons Y (.cons Y .nil))))))))
theorem uV(A:Nat->Nat){a1 a2 b0 b1 b2 b3 b4 b5 b6 b7 b8 b9 bA bB bC bD bE bF bG bH bI bJ bK bL r}(h:iV a1 a2 b0 b1 b2 b3 b4 b5 b6 b7 b8 b9 bA bB bC bD bE bF bG bH bI bJ bK bL=some r):
 VZ Tryz.prog 31 [.ptr 9000 0,.v Wr.bool a1,.v Q4 a2] (kF 9000 (some (A 9000)) 9100 (some (A 9100)) 9200 (some (A 9200)) 9050 9051 9052 9053 b0 b1 b2 b3 b4 b5 b6 b7 b8 b9 bA bB bC bD bE bF bG bH bI bJ bK bL) (.v Q8 r.1) (kF 9000 (some (A 9000)) 9100 (some (A 9100)) 9200 (some (A 9200)) 400 401 402 403 b0 b1 b2 b3 b4 b5 b6 b7 b8 b9 bA bB bC bD bE bF bG r.2 bI bJ bK bL):=by
 refine VZ.of Tryz.func31 Y Tryz.ntmps31 Y ?_;intro S w R B;unfold iV at h;refine aI (.k (cL 101 Y (.VS sO (.VS sO sO)) Y) (.f [0,1,5] ?_));obtain⟨C,D,h⟩:=aA h;refine aI (.k (aT Y Y (.VS sO (.VS sO sO)) uZ lN) (.k (aN (yC D) Tryz.call48 (.cons (.dir Y) .nil)) (.f [0,1,7,8] ?_)));refine jO (.a 1 ?_);refine .k (iQ Pk Y) (.f [0,1,7,8,15] ?_);obtain⟨E,F,h⟩:=fI h;refine tM (fun z:Ud=>⟨[(0,.ptr 9000 0),(8,.v Q8 C.2)],(kF 9000 (some (A 9000)) 9100 (some (A 9100)) 9200 (some (A 9200)) 107 108 109 110 b0 b1 b2 b3 b4 b5 b6 b7 b8 b9 bA bB bC bD bE bF bG z bI bJ bK bL)⟩) (fun x=>E x=some r) Y ?_ ?_ ?_
 ·intro z h;rw[F] at h;refine aL [0,6] ?_;cases h;exact aH (eY B Y (aC [(403,110),(402,109),(401,108),(400,107)]))
 ·intro u;replace h:=iN u h;obtain⟨L,G,h⟩:=aA h;obtain⟨M,I,h⟩:=aA h;refine eR (.a 3 ?_);refine .t (sW (H:=[9000,9100,9200,9050,9051,9052,9053]) (K:=[9000,9100,9200]) (vC [(9000,9000),(9100,9100),(9200,9200),(9050,9050),(9051,9051),(9052,9052),(9053,9053),(400,111),(401,112),(402,113),(403,114)]) (dG Y) (fun A=>pA A I) Tryz.call35 (.cons (.dir Y) (.cons (.dir Y) (.cons (.toN (Ni G) Y) .nil))) (fun A=>(.box Y (.box Y (.box Y (.arr Y (.mp Y (.arr Y (.arr Y .nil)))))))) (fun A=>(.box Y (.box Y (.box Y (.arr (.mp (.arr (.arr .nil Y) Y) Y) Y) Y) Y) Y)) (fun _=>rfl) Y Y (fun _=>rfl) Y Y) (.f [0,8] ?_);exact cB h (aC [(110,114),(109,113),(108,112),(107,111)])
 ·intro u;replace h:=iO u h;refine aE ?_;exact cB h (aC [(110,9053),(109,9052),(108,9051),(107,9050)])
theorem Lm{a0 a1 a2 r}(h:nI a0 a1 a2=some r):
 WL Tryz.prog 53 [.v Lh a0,.v Q0 a1,.v Q0 a2] (.WU [.v pH r.1,.v Wr.bool r.2.1,.v Q8 r.2.2]) []:=by
 refine WL.of Tryz.func53 Y Tryz.ntmps53 Y ?_;intro S w B;unfold nI at h;refine aI (.k (cL 101 Y (.VS sO (.VS sO (.VS sO sO))) Y) (.k (aO 102 Py Y (.cons (Z.int .i64) (.cons (Z.sl Q5) .nil)) Y) (.f [1,2,3,6] ?_)));obtain⟨U,V,h⟩:=aA h;refine jO (.k (aT Y Y (.VS sO (.VS sO (.VS sO sO))) Fi zB) ?_);refine .a 1 ?_;refine .k (aN (tJ V) UE (.cons (.dir Y) (.cons (.dir Y) .nil))) (.f [2,3,6,9] ?_);refine aL [2,3,6,9,21] ?_;refine aU h Y (fun K h=>?_) (fun K h=>?_)
 ·refine aI (.k (fN (new:=[(104,.arr 204 Q5 ([]:Q6))]) Dt (.cons (Z.int .i64) (.ref 104 Y .nil)) (.cons .nil) Y .nil) (.f [6,7,8] ?_));refine aH ?_;obtain rfl:=pT h;exact cA (σ':=⟨[(6,.ptr 90 0),(7,.v Wr.bool false),(8,.v Q8 U)],[(90,.box 157 [.v Q0 (0:Int),.v Q1 ([]:Q6)])]⟩) (aC [(90,102)]) (wW B dW Y (aV Y Y (.VS sO sO) Oo vJ) (RV.tmp Y) (RV.tmp Y) .nil Y)
 refine aE ?_;refine aG ?_;refine aG ?_;obtain⟨X,A,h⟩:=aA h;refine eU (σ':=⟨[(2,.v Q0 a2),(3,.ptr 101 0),(6,.ptr 102 0),(31,.v Wr.bool X)],[(101,.box 74 [.v Q0 a0.1,.v Q1 a0.2.1,.v (Wr.sl pH) a0.2.2.1,.v Wr.bool a0.2.2.2]),(102,.box 157 [.v Q0 (0:Int),.v Q1 ([]:Q6)])]⟩) ?_ ?_
 ·refine cd A (fun L A=>?_) (fun L A=>?_)
  ·cases A;exact jy
  cases A;exact jy
 refine aU h Y (fun M h=>?_) (fun M h=>?_)
 ·refine aI (.k (fN (new:=[(105,.arr 204 Q5 ([]:Q6))]) Dt (.cons (Z.int .i64) (.ref 105 Y .nil)) (.cons .nil) Y .nil) (.f [6,7,8] ?_));refine aH ?_;obtain rfl:=pT h;exact cA (σ':=⟨[(6,.ptr 90 0),(7,.v Wr.bool false),(8,.v Q8 (some (1:Int)))],[(90,.box 157 [.v Q0 (0:Int),.v Q1 ([]:Q6)])]⟩) (aC [(90,102)]) (wW B dW Y (aV Y Y (.VS sO sO) Oo vJ) (RV.tmp Y) (RV.tmp Y) .nil Y)
 refine aE ?_;refine cU [2,3,6,41] ?_;refine aU h Y (fun N h=>?_) (fun N h=>?_)
 ·refine aI (.k (fN (new:=[(106,.arr 204 Q5 ([]:Q6))]) Dt (.cons (Z.int .i64) (.ref 106 Y .nil)) (.cons .nil) Y .nil) (.f [6,7,8] ?_));refine aH ?_;obtain rfl:=pT h;exact cA (σ':=⟨[(6,.ptr 90 0),(7,.v Wr.bool false),(8,.v Q8 (none:Option Int))],[(90,.box 157 [.v Q0 (0:Int),.v Q1 ([]:Q6)])]⟩) (aC [(90,102)]) (wW B dW Y (aV Y Y (.VS sO sO) Oo vJ) (RV.tmp Y) (RV.tmp Y) .nil Y)
 refine aE ?_;refine aI (.k (aO 107 Tryz.zeroValue202 Y (.cons (Z.arr 32 (Z.C8 Q5)) .nil) Y) (.f [2,3,6,10] ?_));refine cU [2,3,6,10,44,45,46] ?_;obtain⟨a5,aa,ab,a6⟩:=cF h;refine iZ (σs:=fun z:Int×(List (Option (Int×aQ)))=>⟨[(2,.v Q0 a2),(3,.ptr 101 0),(6,.ptr 102 0),(10,.ptr 107 0),(44,.v (Wr.sl pH) a0.2.2.1),(45,.v Q0 (a0.2.2.1.length:Int)),(46,.v Q0 z.1)],[(101,.box 74 [.v Q0 a0.1,.v Q1 a0.2.1,.v (Wr.sl pH) a0.2.2.1,.v Wr.bool a0.2.2.2]),(102,.box 157 [.v Q0 (0:Int),.v Q1 ([]:Q6)]),(107,.box 202 [.v (Wr.arr 32 (Wr.C8 Q5)) z.2])]⟩) (fun C:(List (Option (Int×aQ)))=>⟨[(3,.ptr 101 0),(6,.ptr 102 0),(10,.ptr 107 0)],[(101,.box 74 [.v Q0 a0.1,.v Q1 a0.2.1,.v (Wr.sl pH) a0.2.2.1,.v Wr.bool a0.2.2.2]),(102,.box 157 [.v Q0 (0:Int),.v Q1 ([]:Q6)]),(107,.box 202 [.v (Wr.arr 32 (Wr.C8 Q5)) C])]⟩) aa (aC []) ?_ ?_
 ·intro C u;have h:=ab _ u;refine aI (.a 2 ?_);refine .k (fN (new:=[(112,.arr 204 Q5 ([]:Q6))]) Dt (.cons (Z.int .i64) (.ref 112 Y .nil)) (.cons .nil) Y (.cons Y (.dir Y) Y Y Y Y .nil)) (.k (zZ (new:=[(114,.arr 204 Q5 ([]:Q6))]) 113 Py Y (.cons (Z.int .i64) (.ref 114 Y .nil)) (.cons .nil) Y Y) (.f [6,10,14] ?_));refine cU [6,14,76,77] ?_;obtain⟨a7,ac,ad,a8⟩:=cF h;refine iZ (σs:=fun E:Int×Q6=>⟨[(6,.ptr 102 0),(14,.ptr 113 0),(76,.v (Wr.arr 32 (Wr.C8 Q5)) C),(77,.v Q0 E.1)],[(102,.box 157 [.v Q0 (0:Int),.v Q1 ([]:Q6)]),(113,.box 157 [.v Q0 a0.1,.ref 120]),(120,.arr 204 Q5 E.2)]⟩) (fun D:Q6=>⟨[(6,.ptr 102 0),(14,.ptr 113 0)],[(102,.box 157 [.v Q0 (0:Int),.v Q1 ([]:Q6)]),(113,.box 157 [.v Q0 a0.1,.ref 120]),(120,.arr 204 Q5 D)]⟩) ac (aC [(120,112)]) ?_ ?_
  ·intro D u;have h:=ad _ u;refine aI (.k (hX Y Y Y Oo vJ) (.f [6,7,8] ?_));refine aH ?_;obtain rfl:=pT h;exact cA (σ':=⟨[(6,.ptr 90 0),(7,.v Wr.bool true),(8,.v Q8 (none:Option Int))],[(90,.box 157 [.v Q0 a0.1,.v Q1 D])]⟩) (aC [(90,102)]) (wW B dW Y (aV Y Y (.VS sO sO) Oo vJ) (RV.tmp Y) (RV.tmp Y) .nil Y)
  intro E av h;refine aL [6,14,76,77,78] ?_;refine aG ?_;refine aU h Y (fun O h=>?_) (fun O h=>?_)
  ·refine aE ?_;refine aG ?_;refine bR ?_;obtain⟨a9,af,h⟩:=aA h;refine aI (.k (MM af Y Y Tryz.runUnderlying202 Tryz.sizeOf201 Tryz.isAgg201) (.f [6,14,16,76,77] ?_));refine aI (.a 1 ?_);refine .k (ML Y Tryz.runUnderlying201) (.f [6,14,16,76,77,81] ?_);refine aU h Y (fun P h=>?_) (fun P h=>?_)
   ·obtain⟨ba,ah,h⟩:=aA h;obtain⟨bb,am,h⟩:=aA h;refine eF 6 mixed (by exact(.k (aB 1 Y AA Y Iw Y Y) (.k (aJ Y Y Y GF Iw) (.k (aD Y) (.k (Jj ah Y) (.k (cG Y Zy jT) (.k (dM (e:=Q5) yJ jT Fk Y Y Y Y (.cons (.dir Y) .nil)) .nil))))))) (by exact(J.t (bU 122 am Y Y (.sl Y) yJ Lj jT Y Y Y Y Y) (jz [6,14,76,77]))) ?_;refine aZ ?_;refine dS [6,14,76,77] ?_;cases h;exact cE (aC [(120,122)])
   refine aE ?_;refine aZ ?_;refine dS [6,14,76,77] ?_;cases h;exact cE (aC [])
  cases h;exact cX (dJ (aC []))
 intro z a3 h;refine aL [2,3,6,10,44,45,46,47] ?_;refine aG ?_;refine aU h Y (fun Q h=>?_) (fun Q h=>?_)
 ·refine aE ?_;refine aG ?_;refine bR ?_;obtain⟨G,bd,h⟩:=aA h;refine aI (.a 2 ?_);refine .k (aO 111 Py Y (.cons (Z.int .i64) (.cons (Z.sl Q5) .nil)) Y) (.t (bT Y Y Y Y (.VS sO sO) vJ) (.f [2,3,6,10,12,44,45,46] ?_));refine aL [2,3,6,10,12,44,45,46,52,53] ?_;obtain⟨be,an,ap,bf⟩:=cF h;refine iZ (σs:=fun F:Int×(List (Option (Int×aQ)))=>⟨[(2,.v Q0 a2),(3,.ptr 101 0),(6,.ptr 102 0),(10,.ptr 107 0),(12,.ptr 111 0),(44,.v (Wr.sl pH) a0.2.2.1),(45,.v Q0 (a0.2.2.1.length:Int)),(46,.v Q0 z.1),(52,.v Q0 (G.2.length:Int)),(53,.v Q0 F.1)],[(101,.box 74 [.v Q0 a0.1,.v Q1 a0.2.1,.v (Wr.sl pH) a0.2.2.1,.v Wr.bool a0.2.2.2]),(102,.box 157 [.v Q0 (0:Int),.v Q1 ([]:Q6)]),(107,.box 202 [.v (Wr.arr 32 (Wr.C8 Q5)) F.2]),(111,.box 157 [.v Q0 G.1,.v Q1 G.2])]⟩) (fun H:(List (Option (Int×aQ)))=>⟨[(2,.v Q0 a2),(3,.ptr 101 0),(6,.ptr 102 0),(10,.ptr 107 0),(44,.v (Wr.sl pH) a0.2.2.1),(45,.v Q0 (a0.2.2.1.length:Int)),(46,.v Q0 z.1)],[(101,.box 74 [.v Q0 a0.1,.v Q1 a0.2.1,.v (Wr.sl pH) a0.2.2.1,.v Wr.bool a0.2.2.2]),(102,.box 157 [.v Q0 (0:Int),.v Q1 ([]:Q6)]),(107,.box 202 [.v (Wr.arr 32 (Wr.C8 Q5)) H])]⟩) an (aC []) ?_ ?_
  ·intro H u;have h:=ap _ u;refine aZ ?_;refine dS [2,3,6,10,44,45,46] ?_;cases h;exact cE (aC [])
  intro F a4 h;refine aL [2,3,6,10,12,44,45,46,52,53,54] ?_;refine aG ?_;refine aU h Y (fun R h=>?_) (fun R h=>?_)
  ·refine aE ?_;refine aG ?_;refine bR ?_;refine aL [2,3,6,10,12,13,44,45,46,52,53] ?_;refine aL [2,3,6,10,12,13,44,45,46,52,53,59] ?_;refine aU h Y (fun T h=>?_) (fun T h=>?_)
   ·obtain⟨bg,aq,h⟩:=aA h;obtain⟨bh,au,h⟩:=aA h;obtain⟨bi,I,h⟩:=aA h;refine eF 11 mixed (by exact(.k (aB 1 Y AA Y Iw Y Y) (.k (aJ Y Y Y GF Iw) (.k (aD Y) (.k (pK aq Y Y yJ jT) (.k (fB Y Ot Y S3 Y (.fst .here) Y) (.k (cG Y G3 S3) (.k (aB 1 Y AA Y Iw Y Y) (.k (aJ Y Y Y GF Iw) (.k (aD Y) (.k (BC (pK au Y Y yJ jT)) (.k (rO I Y Y Y Y Tryz.runUnderlying202 Tryz.sizeOf201) .nil)))))))))))) (by exact(J.t (Dg (dK I).2.2 Y Y Y Y Tryz.sizeOf201) (J.kp [2,3,6,10,12,44,45,46,52,53] []))) ?_;refine aZ ?_;refine dS [2,3,6,10,12,44,45,46,52,53] ?_;cases h;exact cE (aC [])
   refine aE ?_;refine aZ ?_;refine dS [2,3,6,10,12,44,45,46,52,53] ?_;cases h;exact cE (aC [])
  cases h;exact cX (dJ (aC []))
 cases h;exact cX (dJ (aC []))
theorem Ln{a0 r}(h:qF a0=some r):
 WL Tryz.prog 153 [.v Q7 a0] (.v Q8 r) []:=by
 refine WL.of Tryz.func153 Y Tryz.ntmps153 Y ?_;intro S w u;unfold qF at h;refine aL [0] ?_;refine cU [0,8] ?_;refine aU h Y (fun C h=>?_) (fun C h=>?_)
 ·refine aL [2] ?_;cases h;exact aH (aY u dW Y (RV.tmp Y) .nil Y)
 refine aE ?_;refine aI (.k (Gh 101 aM Wr.bool) (.f [0,3] ?_));refine cU [3,11,12,13] ?_;obtain⟨M,G,H,I⟩:=cF h;refine iZ (σs:=fun z:Int×(List (aQ×Bool))=>⟨[(3,.ref 101),(11,.v Q7 a0),(12,.v Q0 (a0.length:Int)),(13,.v Q0 z.1)],[(101,.mp aM Wr.bool z.2)]⟩) (fun A:Unit=>⟨[],[]⟩) G (aC []) ?_ ?_
 ·intro A B;have h:=H _ B;refine aL [2] ?_;cases h;exact aH (aY u dW Y (RV.tmp Y) .nil Y)
 intro z L h;refine aL [3,11,12,13,14] ?_;refine aG ?_;refine aU h Y (fun D h=>?_) (fun D h=>?_)
 ·refine aE ?_;refine aG ?_;refine bR ?_;obtain⟨N,O,h⟩:=aA h;refine aI (.a 2 ?_);refine .k (aO 105 By Y (.cons (Z.arr 8 (Z.int .u8)) .nil) Y) (.f [3,5,11,12,13] ?_);refine jO (.a 2 ?_);refine .k (CZ Y Y Y Tryz.runUnderlying302 vZ Xp Y CR Y Tryz.zeroValue4 (fun _ _=>⟨_,Y,Y⟩)) (.f [3,5,11,12,13,19] ?_);refine aU h Y (fun E h=>?_) (fun E h=>?_)
  ·refine aL [2] ?_;refine aH ?_;refine eI ?_;cases h;refine gC fun F=>?_;obtain rfl:=I _ F;exact aY u dW Y (RV.tmp Y) .nil Y
  refine aE ?_;obtain⟨P,K,h⟩:=aA h;refine eR (.a 2 ?_);refine .t (DC K Y Y Y Y Tryz.runUnderlying302 vZ Xp Y CR Y) (.f [3,11,12,13] ?_);refine aZ ?_;refine dS [3,11,12,13] ?_;cases h;exact cE (aC [])
 cases h;exact cX (dJ (aC []))
theorem Ap{a0 a1 r}(h:nZ a0 a1=some r):
 WL Tryz.prog 125 [.v Q7 a0,.v Q7 a1] (.v Q8 r) []:=by
 refine WL.of Tryz.func125 Y Tryz.ntmps125 Y ?_;intro S w z;unfold nZ at h;refine aL [0,1] ?_;refine aG ?_;refine aG ?_;obtain⟨C,u,h⟩:=aA h;refine eU (σ':=⟨[(1,.v Q7 a1),(12,.v Wr.bool C)],[]⟩) ?_ ?_
 ·refine cd u (fun A u=>?_) (fun A u=>?_)
  ·cases u;exact jy
  cases u;exact jy
 refine aU h Y (fun B h=>?_) (fun B h=>?_)
 ·refine aL [4] ?_;cases h;exact aH (aY z dW Y (RV.tmp Y) .nil Y)
 refine aE ?_;obtain⟨E,D,h⟩:=aA h;refine aI (.a 1 ?_);refine .k (aN (Ln D) Tryz.call153 (.cons (.dir Y) .nil)) (.f [4] ?_);cases h;exact aH (aY z dW Y (RV.tmp Y) .nil Y)
theorem Qc{a0 r}(h:wD a0=some r):
 WL Tryz.prog 126 [.v Q7 a0] (.WU [.v (Wr.C8 (Wr.pr Q7 (Wr.Y3 aM mH))) r.1,.v Q8 r.2]) []:=by
 refine WL.of Tryz.func126 Y Tryz.ntmps126 Y ?_;intro S w C;unfold wD at h;refine aI (.k (jW (Wr.pr Q7 (Wr.Y3 aM mH))) (.f [0] ?_));refine aG ?_;refine aG ?_;obtain⟨I,u,h⟩:=aA h;refine eU (σ':=⟨[(0,.v Q7 a0),(14,.v Wr.bool I)],[]⟩) ?_ ?_
 ·refine cd u (fun F u=>?_) (fun F u=>?_)
  ·cases u;exact jy
  cases u;exact jy
 refine aU h Y (fun G h=>?_) (fun G h=>?_)
 ·refine aI (.a 1 ?_);refine .k (jW (Wr.pr Q7 (Wr.Y3 aM mH))) (.f [2,3] ?_);cases h;exact aH (bS C dW Y (RV.tmp Y) (RV.tmp Y) .nil Y)
 refine aE ?_;obtain⟨A,K,h⟩:=aA h;refine aI (.a 1 ?_);refine .k (fO 101000 (cQ K) QV (.cons (.dir Y) .nil) Y) (.k (Va 102 aM 3 Q0) (.k (bP LI (.cons (Z.sl aM) (.cons (Z.Y3 aM mH) .nil)) (.cons Y (.dir Y) Y Y Y Y (.cons Y (.dir Y) Y Y Y Y .nil))) (.k (zU 103 Y Y) (.f [0,4] ?_))));refine cU [4,21,22,23] ?_;obtain⟨P,L,M,Q⟩:=cF h;refine iZ (σs:=fun B:Int×(List (aQ×kM))=>⟨[(4,.ptr 103 0),(21,.v Q7 a0),(22,.v Q0 (a0.length:Int)),(23,.v Q0 B.1)],[(103,.box 296 [.ref 101000,.ref 102]),(101000,.arr 28 aM A),(102,.dp (DE.W7 true aM 3 Q0) (B.2,none) [])]⟩) (fun z:(List (aQ×kM))=>⟨[(4,.ptr 103 0)],[(103,.box 296 [.ref 101000,.ref 102]),(101000,.arr 28 aM A),(102,.dp (DE.W7 true aM 3 Q0) (z,none) [])]⟩) L (aC []) ?_ ?_
 ·intro z E;have h:=M _ E;refine aI (.a 1 ?_);refine .sub (σ':=⟨[(4,.YI (Wr.pr Q7 (Wr.Y3 aM mH)) (A,z)),(40,.YI (Wr.pr Q7 (Wr.Y3 aM mH)) (A,z))],[]⟩) (Sw.Sub.mk id (.cons Y (.D3 Y Y (.cons (.S8 Y Y) (.cons (.aKb Y Y .W7) .nil)) (.VS sO sO)) (.cons Y (.D3 Y Y (.cons (.S8 Y Y) (.cons (.aKb Y Y .W7) .nil)) (.VS sO sO)) .nil)) .nil Y) (.k (by exact BC (bQ Y)) (.f [2,3] ?_));cases h;exact aH (bS C dW Y (RV.tmp Y) (RV.tmp Y) .nil Y)
 intro B O h;refine aL [4,21,22,23,24] ?_;refine aG ?_;refine aU h Y (fun H h=>?_) (fun H h=>?_)
 ·refine aE ?_;refine aG ?_;refine bR ?_;obtain⟨R,T,h⟩:=aA h;refine aI (.a 3 ?_);refine .k (aO 119 By Y (.cons (Z.arr 8 (Z.int .u8)) .nil) Y) (.f [4,5,6,21,22,23] ?_);obtain⟨U,D,h⟩:=aA h;obtain⟨V,N,h⟩:=aA h;refine eF 11 mixed (by exact(.k (aD Y) (.k (aK Y) (.k (aB 1 Y OO Y KW Y Y) (.k (aJ Y Y Y Tryz.isAgg294 KW) (.k (aJ Y Y Y uS kR) (.k (aD Y) (.k (dM (e:=Q0) xD S3 Z3 Y Y Y Y (.cons (.dir Y) .nil)) (XZ.mapEntry (.none Y) 122 D Y Y Y Tryz.runUnderlying294 vZ Xp Y CR Y iz.arr Tryz.zeroValue22 Y Y (.pu (.none Y) Y (fun _ _=>bW Y Y) (XZ.append (.none Y) 123 N Y Y (.sl Y) xD I3 S3 Y Y Y Y Y (.pu (.none Y) Y (fun _ _=>bW Y Y) .nil)))))))))))) (by exact(J.t (Pp (MN D) Y Y Y Y Y Y) (J.kp [4,21,22,23] []))) ?_;refine aZ ?_;refine dS [4,21,22,23] ?_;cases h;exact cE (aC [])
 cases h;exact cX (dJ (aC []))
theorem Hc{a0 a1 r}(h:vI a0 a1=some r):
 WL Tryz.prog 197 [.v kJ a0,.v Q5 a1] (.WU [.v Q9 r.1,.v Wr.bool r.2]) []:=by
 refine WL.of Tryz.func197 Y Tryz.ntmps197 Y ?_;intro S w u;unfold vI at h;refine aI (.k (cL 101 Y sO Y) (.k (cL 102 Y (.VS sO sO) Y) (.k (aO 103 Ou Y (.cons (Z.int .i64) (.cons (Z.int .i64) (.cons (Z.int .i64) (.cons (Z.arr 8 (Z.int .u8)) .nil)))) Y) (.f [3,4] ?_))));refine aG ?_;refine eF 9 mixed (by exact(.k (aB 0 Y Ot Y S3 Y Y) (.k (aJ Y Y Y G3 S3) (.k (bP Du (.cons (Z.int .i64) (.cons (Z.int .i64) (.cons (Z.int .i64) (.cons (Z.arr 8 (Z.int .u8)) .nil)))) (.cons Y (.dir Y) Y Y Y Y (.cons Y (.dir Y) Y Y Y Y .nil))) (.k (aB 1 Y Ot Y kR Y Y) (.k (aJ Y Y Y uS kR) (.k (dH (e:=aM) (v:=aR) Bx vZ I5 Y Y (Z.arr 8 (Z.int .u8))) (.k (Yd Xp Y Y Tryz.eqGuardType28 Y Y) (XZ.C7 (.none Y) Y Y Y Y Y Y Ck (.k (bQ Y) .nil)))))))))) (by exact(J.kp [4,5] [])) ?_;refine aH ?_;obtain rfl:=pT h;exact cA (σ':=⟨[(4,.ptr 90 0),(5,.v Wr.bool (decide (a1.2=aR)))],[(90,.box 209 [.v Q0 a1.1,.v Q0 (0:Int),.v Q0 (0:Int),.v aM aR])]⟩) (aC [(90,103)]) (bS u dW Y (aV Y Y (.VS sO (.VS sO (.VS sO sO))) Xm Ck) (RV.tmp Y) .nil Y)
theorem Dz{a0 a1 r}(h:lV a0 a1=some r):
 WL Tryz.prog 196 [.v (Wr.C8 (Wr.pr Q7 (Wr.Y3 aM mH))) a0,.v aM a1] (.WU [.v Q0 r.1,.v Wr.bool r.2]) []:=by
 refine WL.of Tryz.func196 Y Tryz.ntmps196 Y ?_;intro S w u;unfold lV at h;refine aI (.k (cL 101 Y sO Y) (.f [0,3] ?_));refine aG ?_;obtain⟨B,A,h⟩:=aA h;refine eF 7 mixed (by exact(.k (aD Y) (.k (Jj A Y) (.k (fB Y OO Y KW Y (.snd .here) Y) (.k (cG Y Tryz.isAgg294 KW) (.k (aJ Y Y Y uS kR) (.k (Yo Y Y Tryz.runUnderlying294 vZ Xp Y CR Y Tryz.zeroValue22 (fun S w=>⟨_,(Z.sl Q0) S w,Y⟩)) (.k (bQ Y) .nil)))))))) (by exact(J.kp [6] [])) ?_;refine cU [6,15] ?_;refine aU h Y (fun z h=>?_) (fun z h=>?_)
 ·refine aL [4,5] ?_;cases h;exact aH (bS u dW Y (RV.tmp Y) (RV.tmp Y) .nil Y)
 refine aE ?_;obtain⟨C,D,h⟩:=aA h;refine aL [4,5] ?_;cases h;exact aH (bS u dW Y (RV.tmp Y) (RV.tmp Y) .nil Y)
theorem Hd{a0 a1 r}(h:oA a0 a1=some r):
 WL Tryz.prog 198 [.v (Wr.K3 (Wr.C8 (Wr.pr Q7 (Wr.Y3 aM mH)))) a0,.v Q5 a1] (.WU [.v Q9 r.1,.v Wr.bool r.2]) []:=by
 refine WL.of Tryz.func198 Y Tryz.ntmps198 Y ?_;intro S w z;unfold oA at h;refine aI (.k (cL 101 Y (.K3 sO) Y) (.k (cL 102 Y (.VS sO sO) Y) (.k (aO 103 Ou Y (.cons (Z.int .i64) (.cons (Z.int .i64) (.cons (Z.int .i64) (.cons (Z.arr 8 (Z.int .u8)) .nil)))) Y) (.f [2,3,4] ?_))));obtain⟨u,A,h⟩:=aA h;refine aI (.a 4 ?_);refine .k (aN (Dz A) Tryz.call196 (.cons (.dir Y) (.cons (.dir Y) .nil))) (.f [3,4,6,7] ?_);refine aI (.a 3 ?_);refine .k (bP Du (.cons (Z.int .i64) (.cons (Z.int .i64) (.cons (Z.int .i64) (.cons (Z.arr 8 (Z.int .u8)) .nil)))) (.cons Y (.dir Y) Y Y Y Y (.cons Y (.dir Y) Y Y Y Y (.cons Y (.dir Y) Y Y Y Y .nil)))) (.f [4,5] ?_);refine aH ?_;obtain rfl:=pT h;exact cA (σ':=⟨[(4,.ptr 90 0),(5,.v Wr.bool u.2)],[(90,.box 209 [.v Q0 a1.1,.v Q0 (1:Int),.v Q0 u.1,.v aM aR])]⟩) (aC [(90,103)]) (bS z dW Y (aV Y Y (.VS sO (.VS sO (.VS sO sO))) Xm Ck) (RV.tmp Y) .nil Y)
theorem sR{a0 a1 r}(h:eJ a0 a1=some r):
 WL Tryz.prog 201 [.v Q7 a0,.v aM a1] (.v Q0 r) []:=by
 refine WL.of Tryz.func201 Y Tryz.ntmps201 Y ?_;intro S w u;unfold eJ at h;refine aI (.k (cL 101 Y sO Y) (.f [0,3] ?_));refine cU [0,3,7,8] ?_;obtain⟨L,F,G,H⟩:=cF h;refine iZ (σs:=fun z:Int=>⟨[(0,.v Q7 a0),(3,.ptr 101 0),(7,.v Q0 (a0.length:Int)),(8,.v Q0 z)],[(101,.box 28 [.v aM a1])]⟩) (fun A:Unit=>⟨[],[]⟩) F (aC []) ?_ ?_
 ·intro A B;have h:=G _ B;refine aL [4] ?_;cases h;exact aH (aY u dW Y (RV.tmp Y) .nil Y)
 intro z K h;refine aL [0,3,7,8,9] ?_;refine aG ?_;refine aU h Y (fun C h=>?_) (fun C h=>?_)
 ·refine aE ?_;refine aG ?_;refine bR ?_;refine aL [0,3,5,7,8] ?_;refine aG ?_;obtain⟨M,I,h⟩:=aA h;refine eF 6 mixed (by exact(.k (aJ Y Y Y uS kR) (.k (aD Y) (.k (aD Y) (.k (pK I Y Y Ka kR) (.k (cG Y uS kR) (.k (Yd Xp Y Y Tryz.eqGuardType28 Y Y) .nil))))))) (by exact(J.kp [0,3,5,7,8,16] [])) ?_;refine aU h Y (fun D h=>?_) (fun D h=>?_)
  ·refine aL [4] ?_;refine aH ?_;refine eI ?_;cases h;refine gC fun E=>?_;obtain rfl:=H _ E;exact aY u dW Y (RV.tmp Y) .nil Y
  refine aE ?_;refine aZ ?_;refine dS [0,3,7,8] ?_;cases h;exact cE (aC [])
 cases h;exact cX (dJ (aC []))
theorem Pa{a0 a1 r}(h:uM a0 a1=some r):
 WL Tryz.prog 200 [.v Q7 a0,.v aM a1] (.WU [.v Q0 r.1,.v Wr.bool r.2]) []:=by
 refine WL.of Tryz.func200 Y Tryz.ntmps200 Y ?_;intro S w u;unfold uM at h;refine aI (.k (cL 101 Y sO Y) (.f [0,3] ?_));obtain⟨A,z,h⟩:=aA h;refine aI (.a 2 ?_);refine .k (aN (sR z) Tryz.call201 (.cons (.dir Y) (.cons (.dir Y) .nil))) (.f [6] ?_);refine aI (.a 1 ?_);refine .k (Bc Y Y) (.f [4,5] ?_);cases h;exact aH (bS u dW Y (RV.tmp Y) (RV.tmp Y) .nil Y)
theorem Ea{a0 a1 r}(h:lW a0 a1=some r):
 WL Tryz.prog 199 [.v (Wr.K3 Q7) a0,.v Q5 a1] (.WU [.v Q9 r.1,.v Wr.bool r.2]) []:=by
 refine WL.of Tryz.func199 Y Tryz.ntmps199 Y ?_;intro S w z;unfold lW at h;refine aI (.k (cL 101 Y (.K3 sO) Y) (.k (cL 102 Y (.VS sO sO) Y) (.k (aO 103 Ou Y (.cons (Z.int .i64) (.cons (Z.int .i64) (.cons (Z.int .i64) (.cons (Z.arr 8 (Z.int .u8)) .nil)))) Y) (.f [2,3,4] ?_))));obtain⟨u,A,h⟩:=aA h;refine aI (.a 4 ?_);refine .k (aN (Pa A) Tryz.call200 (.cons (.dir Y) (.cons (.dir Y) .nil))) (.f [3,4,6,7] ?_);refine aI (.a 3 ?_);refine .k (bP Du (.cons (Z.int .i64) (.cons (Z.int .i64) (.cons (Z.int .i64) (.cons (Z.arr 8 (Z.int .u8)) .nil)))) (.cons Y (.dir Y) Y Y Y Y (.cons Y (.dir Y) Y Y Y Y (.cons Y (.dir Y) Y Y Y Y .nil)))) (.f [4,5] ?_);refine aH ?_;obtain rfl:=pT h;exact cA (σ':=⟨[(4,.ptr 90 0),(5,.v Wr.bool u.2)],[(90,.box 209 [.v Q0 a1.1,.v Q0 (2:Int),.v Q0 u.1,.v aM aR])]⟩) (aC [(90,103)]) (bS z dW Y (aV Y Y (.VS sO (.VS sO (.VS sO sO))) Xm Ck) (RV.tmp Y) .nil Y)
theorem Cs{a0 a1 r}(h:sN a0 a1=some r):
 WL Tryz.prog 202 [.v kJ a0,.v Q5 a1] (.WU [.v Q9 r.1,.v Wr.bool r.2]) []:=by
 refine WL.of Tryz.func202 Y Tryz.ntmps202 Y ?_;intro S w u;unfold sN at h;refine aI (.k (cL 101 Y sO Y) (.k (cL 102 Y (.VS sO sO) Y) (.k (aO 103 Ou Y (.cons (Z.int .i64) (.cons (Z.int .i64) (.cons (Z.int .i64) (.cons (Z.arr 8 (Z.int .u8)) .nil)))) Y) (.f [3,4] ?_))));refine aI (.a 4 ?_);refine .k (bP Du (.cons (Z.int .i64) (.cons (Z.int .i64) (.cons (Z.int .i64) (.cons (Z.arr 8 (Z.int .u8)) .nil)))) (.cons Y (.dir Y) Y Y Y Y (.cons Y (.dir Y) Y Y Y Y (.cons Y (.dir Y) Y Y Y Y .nil)))) (.f [4,5] ?_);refine aH ?_;obtain rfl:=pT h;exact cA (σ':=⟨[(4,.ptr 90 0),(5,.v Wr.bool true)],[(90,.box 209 [.v Q0 a1.1,.v Q0 (3:Int),.v Q0 (0:Int),.v aM a1.2])]⟩) (aC [(90,103)]) (bS u dW Y (aV Y Y (.VS sO (.VS sO (.VS sO sO))) Xm Ck) (RV.tmp Y) .nil Y)
theorem Tz{w p0 r}(h:jG w p0=some r):
 y6 Tryz.prog "stillwater/plan.tell" BK w [.v Q5 p0] (.WU [.v Q9 r.1,.v Wr.bool r.2]) []:=by
 unfold jG at h;rcases w with z | z | z | z | z
 ·exact(y6.here (fun _ _=>by kernel_rfl) Tryz.call197 (Hc h))
 ·exact(.there (y6.here (fun _ _=>by kernel_rfl) Tryz.call198 (Hd h)))
 ·exact(.there (.there (y6.here (fun _ _=>by kernel_rfl) Tryz.call199 (Ea h))))
 ·exact(.there (.there (.there (y6.here (fun _ _=>by kernel_rfl) Tryz.call202 (Cs h)))))
 ·cases h
theorem Kf{a0 a1 a2 r}(h:rD a0 a1 a2=some r):
 WL Tryz.prog 96 [.v Q1 a0,.v Q7 a1,.v Q7 a2] (.WU [.ref 0,.v Q8 r.2]) [(0,.arr 209 Q9 r.1)]:=by
 refine WL.of Tryz.func96 Y Tryz.ntmps96 Y ?_;intro S w C;unfold rD at h;refine aI (.k (aS 101 209 Q9) (.f [0,1,2] ?_));obtain⟨v1,WO,h⟩:=aA h;refine jO (.a 2 ?_);refine .k (aN (Ap WO) Tryz.call125 (.cons (.dir Y) (.cons (.dir Y) .nil))) (.f [0,1,2,8] ?_);refine aL [0,1,2,8,25] ?_;refine aU h Y (fun N h=>?_) (fun N h=>?_)
 ·refine aI (.a 1 ?_);refine .k (aS 103 209 Q9) (.f [6,7] ?_);cases h;exact aH (wT C dW Y (aC [(0,103)]))
 refine aE ?_;refine aL [0,1,2,9] ?_;refine cU [0,1,2,9,27,28,29] ?_;obtain⟨a5,aa,ab,ac⟩:=cF h;refine iZ (σs:=fun D:Int×Int=>⟨[(0,.v Q1 a0),(1,.v Q7 a1),(2,.v Q7 a2),(9,.v Q0 D.1),(27,.v Q1 a0),(28,.v Q0 (a0.length:Int)),(29,.v Q0 D.2)],[]⟩) (fun L:Unit=>⟨[(0,.v Q1 a0),(1,.v Q7 a1),(2,.v Q7 a2)],[]⟩) aa (aC []) ?_ ?_
 ·intro L A;have h:=ab _ A;obtain⟨z,ad,h⟩:=aA h;refine aI (.a 1 ?_);refine .k (aN (Qc ad) Tryz.call126 (.cons (.dir Y) .nil)) (.f [0,1,2,12,13] ?_);refine cU [0,1,2,12,13,54] ?_;refine aU h Y (fun O h=>?_) (fun O h=>?_)
  ·refine aI (.a 1 ?_);refine .k (aS 113 209 Q9) (.f [6,7] ?_);cases h;exact aH (wT C dW Y (aC [(0,113)]))
  refine aE ?_;refine aI (.k (aS 114 209 Q9) (.f [0,1,2,12,14] ?_));refine cU [1,2,12,14,56,57,58] ?_;obtain⟨a6,af,ah,a7⟩:=cF h;refine iZ (σs:=fun u:Int×(List (Int×Int×Int×aQ))=>⟨[(1,.v Q7 a1),(2,.v Q7 a2),(12,.v (Wr.C8 (Wr.pr Q7 (Wr.Y3 aM mH))) z.1),(14,.ref 162),(56,.v Q1 a0),(57,.v Q0 (a0.length:Int)),(58,.v Q0 u.1)],[(162,.arr 209 Q9 u.2)]⟩) (fun F:(List (Int×Int×Int×aQ))=>⟨[(14,.ref 162)],[(162,.arr 209 Q9 F)]⟩) af (aC [(162,114)]) ?_ ?_
  ·intro F A;have h:=ah _ A;refine aL [6,7] ?_;cases h;exact aH (wT C dW Y (aC [(0,162)]))
  intro u M h;refine aL [1,2,12,14,56,57,58,59] ?_;refine aG ?_;refine aU h Y (fun P h=>?_) (fun P h=>?_)
  ·refine aE ?_;refine aG ?_;obtain⟨yg,am,h⟩:=fI h;refine UK (fun G:(List (Int×Int×Int×aQ))=>⟨[(1,.v Q7 a1),(2,.v Q7 a2),(12,.v (Wr.C8 (Wr.pr Q7 (Wr.Y3 aM mH))) z.1),(14,.ref 196),(56,.v Q1 a0),(57,.v Q0 (a0.length:Int)),(58,.v Q0 u.1)],[(196,.arr 209 Q9 G)]⟩) (fun x=>yg x=some M) ?_ ?_
   ·intro G h;rw[am] at h;refine dS [1,2,12,14,56,57,58] ?_;cases h;exact cE (aC [(162,196)])
   obtain⟨E,a8,h⟩:=aA h;refine aI (.a 2 ?_);refine .k (aO 197 Fk Y (.cons (Z.int .i64) (.cons (Z.arr 8 (Z.int .u8)) .nil)) Y) (.t (bT Y Y Y Y (.VS sO sO) jT) (.f [1,2,12,14,16,56,57,58] ?_));refine aG ?_;refine aG ?_;obtain⟨a9,an,h⟩:=aA h;refine eF 8 mixed (by exact(.k (aD Y) (.k (aB 0 Y Ot Y S3 Y Y) (.k (aJ Y Y Y G3 S3) (.k (pK an Y Y Ka kR) (.k (cG Y uS kR) (.k (aB 1 Y Ot Y kR Y Y) (.k (aJ Y Y Y uS kR) (.k (Yd Xp Y Y Tryz.eqGuardType28 Y Y) .nil))))))))) (by exact(J.kp [1,2,12,14,16,56,57,58,69] [])) ?_;refine aU h Y (fun Q h=>?_) (fun Q h=>?_)
   ·refine cX ?_;exact MD h (aC [(196,162)])
   refine aE ?_;refine UO (σ':=⟨[(1,.v Q7 a1),(2,.v Q7 a2),(12,.v (Wr.C8 (Wr.pr Q7 (Wr.Y3 aM mH))) z.1),(14,.ref 162),(16,.ptr 197 0),(56,.v Q1 a0),(57,.v Q0 (a0.length:Int)),(58,.v Q0 u.1),(80,.v (Wr.sl BK) ([(.inl ():lQ),(.inr (.inl z.1):lQ),(.inr (.inr (.inl a2)):lQ),(.inr (.inr (.inr (.inl ()))):lQ)]:(List lQ))),(81,.v Q0 (([(.inl ():lQ),(.inr (.inl z.1):lQ),(.inr (.inr (.inl a2)):lQ),(.inr (.inr (.inr (.inl ()))):lQ)]:(List lQ)).length:Int)),(82,.v Q0 (0:Int))],[(162,.arr 209 Q9 u.2),(197,.box 204 [.v Q0 E.1,.v aM E.2])]⟩) (J.cons (.none Y) (Ng (bP LD .nil .nil)) Y Y (J.cons (.none Y) (Hy Y Tryz.runUnderlying264 .here) Y Y (J.cons (.none Y) (aD Y) Y Y (J.cons (.none Y) (Bh (bP LF (.cons (Z.C8 (Wr.pr Q7 (Wr.Y3 aM mH))) .nil) (.cons Y (.dir Y) Y Y Y Y .nil)) (.K3 sO) Y) Y Y (J.cons (.none Y) (Hy Y RF (.there .here)) Y Y (J.cons (.none Y) (aD Y) Y Y (J.cons (.none Y) (Bh (bP LG (.cons (Z.sl aM) .nil) (.cons Y (.dir Y) Y Y Y Y .nil)) (.K3 sO) Y) Y Y (J.cons (.none Y) (Hy Y RG (.there (.there .here))) Y Y (J.cons (.none Y) (Ng (bP LH .nil .nil)) Y Y (J.cons (.none Y) (Hy Y Tryz.runUnderlying269 (.there (.there (.there .here)))) Y Y (J.cons (.none Y) (dM (e:=BK) RH Tryz.sizeOf272 Tryz.zeroValue272 Y Y Y Y (.cons (.dir Y) (.cons (.dir Y) (.cons (.dir Y) (.cons (.dir Y) .nil))))) Y Y (J.cons (.none Y) (tL Y RH) Y Y (J.cons (.none Y) (aD Y) Y Y (J.fin (aC []))))))))))))))) ?_;obtain⟨ba,ap,aq,bb⟩:=cF h;refine iZ (σs:=fun I:Int=>⟨[(1,.v Q7 a1),(2,.v Q7 a2),(12,.v (Wr.C8 (Wr.pr Q7 (Wr.Y3 aM mH))) z.1),(14,.ref 162),(16,.ptr 197 0),(56,.v Q1 a0),(57,.v Q0 (a0.length:Int)),(58,.v Q0 u.1),(80,.v (Wr.sl BK) ([(.inl ():lQ),(.inr (.inl z.1):lQ),(.inr (.inr (.inl a2)):lQ),(.inr (.inr (.inr (.inl ()))):lQ)]:(List lQ))),(81,.v Q0 (([(.inl ():lQ),(.inr (.inl z.1):lQ),(.inr (.inr (.inl a2)):lQ),(.inr (.inr (.inr (.inl ()))):lQ)]:(List lQ)).length:Int)),(82,.v Q0 I)],[(162,.arr 209 Q9 u.2),(197,.box 204 [.v Q0 E.1,.v aM E.2])]⟩) (fun H:(List (Int×Int×Int×aQ))=>⟨[(1,.v Q7 a1),(2,.v Q7 a2),(12,.v (Wr.C8 (Wr.pr Q7 (Wr.Y3 aM mH))) z.1),(14,.ref 204),(56,.v Q1 a0),(57,.v Q0 (a0.length:Int)),(58,.v Q0 u.1)],[(204,.arr 209 Q9 H)]⟩) ap (aC []) ?_ ?_
   ·intro H A;have h:=aq _ A;exact MC h (aC [(196,204)])
   intro I a3 h;refine aL [1,2,12,14,16,56,57,58,80,81,82,83] ?_;refine aG ?_;refine aU h Y (fun R h=>?_) (fun R h=>?_)
   ·refine aE ?_;refine aG ?_;refine bR ?_;obtain⟨wz,bd,h⟩:=aA h;refine aL [1,2,12,14,16,18,56,57,58,80,81,82] ?_;obtain⟨nu,au,h⟩:=aA h;refine aI (.a 1 ?_);refine .k (aT Y Y (.VS sO sO) Zy jT) (.k (DM Y (Tz au) (.cons (.dir Y) .nil)) ?_);refine .a 3 ?_;refine .k (aO 205 Ou Y (.cons (Z.int .i64) (.cons (Z.int .i64) (.cons (Z.int .i64) (.cons (Z.arr 8 (Z.int .u8)) .nil)))) Y) (.t (bT Y Y Y Y (.VS sO (.VS sO (.VS sO sO))) Ck) (.f [1,2,12,14,16,19,20,56,57,58,80,81,82] ?_));refine aL [1,2,12,14,16,19,56,57,58,80,81,82,92] ?_;refine aU h Y (fun T h=>?_) (fun T h=>?_)
    ·obtain⟨xr,av,h⟩:=aA h;refine aI (.a 1 ?_);refine .k (aT Y Y (.VS sO (.VS sO (.VS sO sO))) Xm Ck) (.k (dM (e:=Q9) FR Ck Ou Y Y Y Y (.cons (.dir Y) .nil)) (.t (bU 206 av Y Y (.sl Y) FR QZ Ck Y Y Y Y Y) (.f [1,2,12,14,56,57,58] ?_)));refine cX ?_;refine LZ Y ?_;cases h;exact dJ (aC [(204,206)])
    refine aE ?_;refine aZ ?_;refine dS [1,2,12,14,16,56,57,58,80,81,82] ?_;cases h;exact cE (aC [])
   cases h;exact cX (dJ (aC [(204,162)]))
  cases h;exact cX (dJ (aC []))
 intro D a4 h;refine aL [0,1,2,9,27,28,29,30] ?_;refine aG ?_;refine aU h Y (fun U h=>?_) (fun U h=>?_)
 ·refine aE ?_;refine aG ?_;refine bR ?_;obtain⟨K,yi,h⟩:=aA h;refine aI (.a 2 ?_);refine .k (aO 110 Fk Y (.cons (Z.int .i64) (.cons (Z.arr 8 (Z.int .u8)) .nil)) Y) (.t (bT Y Y Y Y (.VS sO sO) jT) (.f [0,1,2,9,11,27,28,29] ?_));refine aG ?_;refine aG ?_;obtain⟨vu,B,h⟩:=aA h;refine eU (σ':=⟨[(0,.v Q1 a0),(1,.v Q7 a1),(2,.v Q7 a2),(11,.ptr 110 0),(27,.v Q1 a0),(28,.v Q0 (a0.length:Int)),(29,.v Q0 D.2),(43,.v Wr.bool vu)],[(110,.box 204 [.v Q0 K.1,.v aM K.2])]⟩) ?_ ?_
  ·refine cd B (fun V B=>?_) (fun V B=>?_)
   ·cases B;exact jy
   cases B;exact jy
  refine aU h Y (fun X h=>?_) (fun X h=>?_)
  ·refine aI (.a 1 ?_);refine .k (aS 111 209 Q9) (.f [6,7] ?_);refine aH ?_;refine eI ?_;cases h;refine gC fun ho=>?_;obtain rfl:=ac _ ho;exact wT C dW Y (aC [(0,111)])
  refine aE ?_;refine dS [0,1,2,9,27,28,29] ?_;refine aZ ?_;refine dS [0,1,2,9,27,28,29] ?_;cases h;exact cE (aC [])
 cases h;exact cX (dJ (aC []))
theorem Kg{a0 a1 a2 r}(h:rE a0 a1 a2=some r):
 WL Tryz.prog 54 [.v pH a0,.v Q7 a1,.v Q0 a2] (.WU [.v Q4 r.1,.v Wr.bool r.2]) []:=by
 refine WL.of Tryz.func54 Y Tryz.ntmps54 Y ?_;intro S w A;unfold rE at h;refine aI (.k (cL 101 Y (.VS sO sO) Y) (.k (aO 102 Cl Y (.cons (Z.int .i64) (.cons (Z.sl Q0) (.cons (Z.sl aM) .nil))) Y) (.f [1,2,3,6] ?_)));obtain⟨B,H,h⟩:=aA h;refine aI (.a 3 ?_);refine .k (fO 103000 (Kf H) Tryz.call96 (.cons (.dir Y) (.cons (.dir Y) (.cons (.og _) .nil))) Y) (.f [2,3,6,8,9] ?_);refine cU [2,3,6,8,21] ?_;refine aU h Y (fun E h=>?_) (fun E h=>?_)
 ·refine aI (.k (fN (new:=[(105,.arr 3 Q0 ([]:kM)),(104,.arr 28 aM ([]:iM))]) mC (.cons (Z.int .i64) (.ref 105 Y (.ref 104 Y .nil))) (.cons (.cons .nil)) Y .nil) (.f [6,7] ?_));refine aH ?_;obtain rfl:=pT h;exact cA (σ':=⟨[(6,.ptr 90 0),(7,.v Wr.bool false)],[(90,.box 119 [.v Q0 (0:Int),.v mH ([]:kM),.v Q7 ([]:iM)])]⟩) (aC [(90,102)]) (bS A dW Y (aV Y Y (.VS sO (.VS sO sO)) uZ lN) (RV.tmp Y) .nil Y)
 refine aE ?_;refine aI (.a 3 ?_);refine .k (rP (e:=Q0) 106 xD S3 Z3 Y Y Y Y (.cons (.dir Y) (.cons (.dir Y) .nil))) (.k (fN (new:=[(107,.arr 28 aM ([]:iM))]) mC (.cons (Z.int .i64) (.cons (Z.sl Q0) (.ref 107 Y .nil))) (.cons .nil) Y (.cons Y (.dir Y) Y Y Y Y (.cons Y (.dir Y) Y Y Y Y .nil))) (.k (zZ (new:=[(110,.arr 3 Q0 ([]:kM)),(109,.arr 28 aM ([]:iM))]) 108 Cl Y (.cons (Z.int .i64) (.ref 110 Y (.ref 109 Y .nil))) (.cons (.cons .nil)) Y Y) (.f [6,8,10] ?_)));refine cU [6,10,28,29,30] ?_;obtain⟨O,I,K,P⟩:=cF h;refine iZ (σs:=fun z:Int×kM×iM=>⟨[(6,.ptr 102 0),(10,.ptr 108 0),(28,.ref 103000),(29,.v Q0 (B.1.length:Int)),(30,.v Q0 z.1)],[(102,.box 119 [.v Q0 (0:Int),.v mH ([]:kM),.v Q7 ([]:iM)]),(108,.box 119 [.v Q0 (4:Int),.ref 123,.ref 124]),(103000,.arr 209 Q9 B.1),(123,.arr 3 Q0 z.2.1),(124,.arr 28 aM z.2.2)]⟩) (fun u:kM×iM=>⟨[(6,.ptr 102 0),(10,.ptr 108 0)],[(102,.box 119 [.v Q0 (0:Int),.v mH ([]:kM),.v Q7 ([]:iM)]),(108,.box 119 [.v Q0 (4:Int),.ref 123,.ref 124]),(123,.arr 3 Q0 u.1),(124,.arr 28 aM u.2)]⟩) I (aC [(124,107),(123,106)]) ?_ ?_
 ·intro u D;have h:=K _ D;refine aG ?_;refine eF 7 mixed (by exact(.k (hX Y Y Y uZ lN) (.k (aB 1 Y vA Y zA Y Y) (.k (aJ Y Y Y Tu zA) (.k (Sa Y Y xD) (.k (nF Y Y Y) (XZ.C7 (.none Y) Y Y Y Y Y Y lN (.k (bQ Y) .nil)))))))) (by exact(J.kp [6,7] [])) ?_;refine aH ?_;obtain rfl:=pT h;exact cA (σ':=⟨[(6,.ptr 90 0),(7,.v Wr.bool (cm .leq (u.1.length:Int) (9:Int)))],[(90,.box 119 [.v Q0 (4:Int),.v mH u.1,.v Q7 u.2])]⟩) (aC [(90,102)]) (bS A dW Y (aV Y Y (.VS sO (.VS sO sO)) uZ lN) (RV.tmp Y) .nil Y)
 intro z N h;refine aL [6,10,28,29,30,31] ?_;refine aG ?_;refine aU h Y (fun F h=>?_) (fun F h=>?_)
 ·refine aE ?_;refine aG ?_;refine bR ?_;obtain⟨Q,C,h⟩:=aA h;refine aI (.k (jA C Y Y Y FR Ck) (.k (jS (dK C).2.2 Y Y .here Xm Ck) (.k (aO 128 Ou Y (.cons (Z.int .i64) (.cons (Z.int .i64) (.cons (Z.int .i64) (.cons (Z.arr 8 (Z.int .u8)) .nil)))) Y) (.t (bT Y Y Y Y (.VS sO (.VS sO (.VS sO sO))) Ck) (.f [6,10,12,28,29,30] ?_)))));obtain⟨R,L,h⟩:=aA h;refine aI (.a 4 ?_);refine .k (fD (.inl Y) (by decide) Y Y) ?_;refine .a 2 ?_;refine .k (fD (.inl Y) (by decide) Y Y) ?_;refine .a 4 ?_;refine .k (dM (e:=Q0) xD S3 Z3 Y Y Y Y (.cons (.dir Y) .nil)) (.t (bU 129 L Y Y (.sl Y) xD I3 S3 Y Y Y Y Y) (.f [6,10,12,28,29,30] ?_));refine aL [6,10,12,28,29,30,51] ?_;refine aU h Y (fun G h=>?_) (fun G h=>?_)
  ·obtain⟨T,M,h⟩:=aA h;refine eR (.a 4 ?_);refine .k (dM (e:=aM) Ka kR By Y Y Y Y (.cons (.dir Y) .nil)) (.t (bU 130 M Y Y (.sl Y) Ka Bx kR Y Y Y Y Y) (.f [6,10,28,29,30] ?_));refine aZ ?_;refine dS [6,10,28,29,30] ?_;cases h;exact cE (aC [(124,130),(123,129)])
  refine aE ?_;refine aZ ?_;refine dS [6,10,28,29,30] ?_;cases h;exact cE (aC [(123,129)])
 cases h;exact cX (dJ (aC []))
theorem yD(A:Nat->Nat){b0 b1 b2 b3 b4 b5 b6 b7 b8 b9 bA bB bC bD bE bF bG bH bI bJ bK bL r}(h:dQ b0 b1 b2 b3 b4 b5 b6 b7 b8 b9 bA bB bC bD bE bF bG bH bI bJ bK bL=some r):
 VZ Tryz.prog 33 [.ptr 9000 1] (kF 9000 (some (A 9000)) 9100 (some (A 9100)) 9200 (some (A 9200)) 9050 9051 9052 9053 b0 b1 b2 b3 b4 b5 b6 b7 b8 b9 bA bB bC bD bE bF bG bH bI bJ bK bL) (.v Q4 r) (kF 9000 (some (A 9000)) 9100 (some (A 9100)) 9200 (some (A 9200)) 400 401 402 403 b0 b1 b2 b3 b4 b5 b6 b7 b8 b9 bA bB bC bD bE bF bG bH bI bJ bK bL):=by
 refine VZ.of Tryz.func33 Y Tryz.ntmps33 Y ?_;intro S w R C;unfold dQ at h;refine aI (.k (aO 101 Cl Y (.cons (Z.int .i64) (.cons (Z.sl Q0) (.cons (Z.sl aM) .nil))) Y) (.f [0,2] ?_));refine aG ?_;refine aG ?_;obtain⟨D,I,h⟩:=aA h;refine eF 22 mixed (by exact(.k (aD Y) (.k (aK Y) (.k (aB 6 Y wA Y zB Y Y) (.k (aJ Y Y Y Fi zB) (.k (aD Y) (.k (aK Y) (.k (aB 1 Y wA Y Lk Y Y) (.k (aB 2 Y Fj Y S3 Y Y) (.k (aJ Y Y Y G3 S3) (.k (aD Y) (.k (aK Y) (.k (aB 15 Y wA Y S3 Y Y) (.k (aJ Y Y Y G3 S3) (.k (aN (Lm I) Tryz.call53 (.cons (.dir Y) (.cons (.dir Y) (.cons (.dir Y) .nil)))) (.k (aD Y) (.k (bW Y Y) (.k (bW Y Y) (.k (bW Y Y) (.k (aO 103 Py Y (.cons (Z.int .i64) (.cons (Z.sl Q5) .nil)) Y) (XZ.storeAll (.none Y) Y Y Y Y (.VS sO sO) vJ (.k (bQ Y) (.k (bQ Y) .nil))))))))))))))))))))))) (by exact(J.kp [0,2,3,4,5] [])) ?_;refine aG ?_;obtain⟨K,u,h⟩:=aA h;refine eU (σ':=⟨[(0,.ptr 9000 1),(2,.ptr 101 0),(3,.ptr 103 0),(32,.v Wr.bool K)],((101,.box 119 [.v Q0 (0:Int),.v mH ([]:kM),.v Q7 ([]:iM)])::(103,.box 157 [.v Q0 D.1.1,.v Q1 D.1.2])::kF 9000 (some (A 9000)) 9100 (some (A 9100)) 9200 (some (A 9200)) 9050 9051 9052 9053 b0 b1 b2 b3 b4 b5 b6 b7 b8 b9 bA bB bC bD bE bF bG bH bI bJ bK bL)⟩) ?_ ?_
 ·refine cd u (fun F u=>?_) (fun F u=>?_)
  ·cases u;refine ja 1 ?_;exact(J.k (iQ Pk Y) jy)
  cases u;refine ja 1 ?_;exact(J.k (iQ Pk Y) jy)
 obtain⟨L,M,h⟩:=fI h;refine tM (fun E:Unit=>⟨[(0,.ptr 9000 1),(2,.ptr 101 0)],((101,.box 119 [.v Q0 (0:Int),.v mH ([]:kM),.v Q7 ([]:iM)])::kF 9000 (some (A 9000)) 9100 (some (A 9100)) 9200 (some (A 9200)) 9050 9051 9052 9053 b0 b1 b2 b3 b4 b5 b6 b7 b8 b9 bA bB bC bD bE bF bG bH bI bJ bK bL)⟩) (fun x=>L x=some r) Y ?_ ?_ ?_
 ·intro E h;rw[M] at h;refine aG ?_;refine eF 18 mixed (by exact(.k (aD Y) (.k (aK Y) (.k (aB 1 Y wA Y Lk Y Y) (.k (aB 3 Y Fj Y S3 Y Y) (.k (aJ Y Y Y G3 S3) (.k (dM (e:=Q0) xD S3 Z3 Y Y Y Y (.cons (.dir Y) .nil)) (.k (aD Y) (.k (aK Y) (.k (aB 10 Y wA Y Zz Y Y) (.k (aJ Y Y Y PG Zz) (.k (aD Y) (.k (aK Y) (.k (aB 1 Y wA Y Lk Y Y) (.k (aB 3 Y Fj Y S3 Y Y) (.k (aJ Y Y Y G3 S3) (.k (Ve Y Y Y RJ U3 (s8.int U3) Y TS (fun S w=>⟨_,(Z.sl aM) S w,Y⟩)) (.k (bP mC (.cons (Z.int .i64) (.cons (Z.sl Q0) (.cons (Z.sl aM) .nil))) (.cons Y (.dir Y) Y Y Y Y (.cons Y (.dir Y) Y Y Y Y (.cons Y (.dir Y) Y Y Y Y .nil)))) (XZ.C7 (.none Y) Y Y Y Y Y Y lN .nil))))))))))))))))))) (by exact(J.kp [0,2] [])) ?_;refine aH ?_;obtain rfl:=pT h;exact kS [(0,.ptr 9000 1),(2,.ptr 90 0)] [(90,.box 119 [.v Q0 (5:Int),.v mH ([b2]:kM),.v Q7 ((fQ b6 b2).getD ([]:iM))])] (aC [(90,101),(403,9053),(402,9052),(401,9051),(400,9050)]) (fA C Y (aV Y Y (.VS sO (.VS sO sO)) uZ lN) (.cons Y (.cons Y (.cons Y (.cons Y (.cons Y (.cons Y (.cons Y .nil))))))))
 ·intro z;replace h:=iN z h;refine aG ?_;refine eF 14 mixed (by exact(.k (aD Y) (.k (aK Y) (.k (aB 10 Y wA Y Zz Y Y) (.k (aJ Y Y Y PG Zz) (.k (aD Y) (.k (aK Y) (.k (aB 15 Y wA Y S3 Y Y) (.k (aJ Y Y Y G3 S3) (.k (Nj Y Y Y RJ U3 (s8.int U3) Y TS (fun S w=>⟨_,(Z.sl aM) S w,Y⟩)) (.k (aD Y) (.k (bW Y Y) (.k (bW Y Y) (.k (bQ Y) (.k (bQ Y) .nil))))))))))))))) (by exact(J.kp [0,2,3,6,7] [])) ?_;refine aL [0,2,3,6,45] ?_;refine aU h Y (fun G h=>?_) (fun G h=>?_)
  ·refine aG ?_;obtain⟨B,N,h⟩:=aA h;refine eF 13 mixed (by exact(.k (aT Y Y (.VS sO sO) Oo vJ) (.k (aD Y) (.k (aD Y) (.k (aK Y) (.k (aB 15 Y wA Y S3 Y Y) (.k (aJ Y Y Y G3 S3) (.k (aN (Kg N) Tryz.call54 (.cons (.dir Y) (.cons (.dir Y) (.cons (.dir Y) .nil)))) (.k (aD Y) (.k (bW Y Y) (.k (bW Y Y) (.k (aO 107 Cl Y (.cons (Z.int .i64) (.cons (Z.sl Q0) (.cons (Z.sl aM) .nil))) Y) (XZ.storeAll (.none Y) Y Y Y Y (.VS sO (.VS sO sO)) lN (.k (bQ Y) .nil)))))))))))))) (by exact(J.kp [0,2,8,9] [])) ?_;refine aL [0,2,8,56] ?_;refine aU h Y (fun H h=>?_) (fun H h=>?_)
   ·refine aI (.k (aT Y Y (.VS sO (.VS sO sO)) uZ lN) (.t (bT Y Y Y Y (.VS sO (.VS sO sO)) lN) (.f [0,2] ?_)));refine aH ?_;refine Hl ?_;obtain rfl:=pT h;exact kS [(0,.ptr 9000 1),(2,.ptr 90 0)] [(90,.box 119 [.v Q0 B.1.1,.v mH B.1.2.1,.v Q7 B.1.2.2])] (aC [(90,101),(403,9053),(402,9052),(401,9051),(400,9050)]) (fA C Y (aV Y Y (.VS sO (.VS sO sO)) uZ lN) (.cons Y (.cons Y (.cons Y (.cons Y (.cons Y (.cons Y (.cons Y .nil))))))))
   refine aE ?_;exact cB h (aC [])
  refine aE ?_;exact cB h (aC [])
 ·intro z;replace h:=iO z h;refine aE ?_;exact cB h (aC [])
theorem Iy{a0 r}(h:pW a0=some r):
 WL Tryz.prog 123 [.v Q0 a0] (.v Wr.bool r) []:=by
 refine WL.of Tryz.func123 Y Tryz.ntmps123 Y ?_;intro S w z;unfold pW at h;refine aL [0] ?_;refine aG ?_;obtain⟨B,u,h⟩:=aA h;refine eU (σ':=⟨[(2,.v Wr.bool B)],[]⟩) ?_ ?_
 ·refine cd u (fun A u=>?_) (fun A u=>?_)
  ·cases u;exact jy
  cases u;exact jy
 cases h;exact aH (aY z dW Y (RV.tmp Y) .nil Y)
theorem pE{a0 r}(h:eH a0=some r):
 WL Tryz.prog 152 [.v mH a0,.j2 123 []] (.v Q0 r) []:=by
 refine WL.of Tryz.func152 Y Tryz.ntmps152 Y ?_;intro S w u;unfold eH at h;refine aL [0,1] ?_;refine cU [0,1,7,8] ?_;obtain⟨L,F,G,H⟩:=cF h;refine iZ (σs:=fun z:Int=>⟨[(0,.v mH a0),(1,.j2 123 []),(7,.v Q0 (a0.length:Int)),(8,.v Q0 z)],[]⟩) (fun A:Unit=>⟨[],[]⟩) F (aC []) ?_ ?_
 ·intro A B;have h:=G _ B;refine aL [4] ?_;cases h;exact aH (aY u dW Y (RV.tmp Y) .nil Y)
 intro z K h;refine aL [0,1,7,8,9] ?_;refine aG ?_;refine aU h Y (fun C h=>?_) (fun C h=>?_)
 ·refine aE ?_;refine aG ?_;refine bR ?_;refine aL [0,1,5,7,8] ?_;obtain⟨M,N,h⟩:=aA h;obtain⟨O,I,h⟩:=aA h;refine aI (.a 5 ?_);refine .k (tW Y (Iy I) Tryz.call123 (.cons (.dir Y) .nil)) (.f [0,1,5,7,8,16] ?_);refine aU h Y (fun D h=>?_) (fun D h=>?_)
  ·refine aL [4] ?_;refine aH ?_;refine eI ?_;cases h;refine gC fun E=>?_;obtain rfl:=H _ E;exact aY u dW Y (RV.tmp Y) .nil Y
  refine aE ?_;refine aZ ?_;refine dS [0,1,7,8] ?_;cases h;exact cE (aC [])
 cases h;exact cX (dJ (aC []))
theorem nL{a0 r}(h:dB a0=some r):
 WL Tryz.prog 121 [.v mH a0,.j2 123 []] (.v Wr.bool r) []:=by
 refine WL.of Tryz.func121 Y Tryz.ntmps121 Y ?_;intro S w u;unfold dB at h;refine aL [0,1] ?_;obtain⟨A,z,h⟩:=aA h;refine aI (.a 2 ?_);refine .k (aN (pE z) Tryz.call152 (.cons (.dir Y) (.cons (.dir Y) .nil))) (.f [4] ?_);cases h;exact aH (aY u dW Y (RV.tmp Y) .nil Y)
theorem Ci{a0 r}(h:qG a0=some r):
 WL Tryz.prog 92 [.v mH a0] (.v Wr.bool r) []:=by
 refine WL.of Tryz.func92 Y Tryz.ntmps92 Y ?_;intro S w u;unfold qG at h;refine aL [0] ?_;obtain⟨A,z,h⟩:=aA h;refine aI (.a 1 ?_);refine .k (aN (nL z) Tryz.call121 (.cons (.dir Y) (.cons .fn .nil))) (.f [2] ?_);cases h;exact aH (aY u dW Y (RV.tmp Y) .nil Y)
theorem Gd{a0 r}(h:uA a0=some r):
 WL Tryz.prog 50 [.v Q4 a0] (.v Q8 r) []:=by
 refine WL.of Tryz.func50 Y Tryz.ntmps50 Y ?_;intro S w u;unfold uA at h;refine aI (.k (cL 101 Y (.VS sO (.VS sO sO)) Y) (.f [1] ?_));obtain⟨C,B,h⟩:=aA h;refine jO (.k (aT Y Y (.VS sO (.VS sO sO)) uZ lN) (.k (aN (Ch B) Tryz.call90 (.cons (.dir Y) .nil)) (.f [1,3] ?_)));refine aL [1,3,7] ?_;refine aU h Y (fun z h=>?_) (fun z h=>?_)
 ·refine aL [2] ?_;cases h;exact aH (aY u dW Y (RV.tmp Y) .nil Y)
 refine aE ?_;refine cU [12] ?_;refine aU h Y (fun A h=>?_) (fun A h=>?_)
 ·refine aL [2] ?_;cases h;exact aH (aY u dW Y (RV.tmp Y) .nil Y)
 refine aE ?_;refine aL [2] ?_;cases h;exact aH (aY u dW Y (RV.tmp Y) .nil Y)
theorem yE{a0 r}(h:pM a0=some r):
 WL Tryz.prog 49 [.v On a0] (.v Q8 r) []:=by
 refine WL.of Tryz.func49 Y Tryz.ntmps49 Y ?_;intro S w u;unfold pM at h;refine aI (.k (cL 101 Y (.VS sO (.VS sO sO)) Y) (.f [1] ?_));obtain⟨O,H,h⟩:=aA h;refine jO (.a 4 ?_);refine .k (dM (e:=Q0) xD S3 Z3 Y Y Y Y (.cons (.dir Y) (.cons (.dir Y) .nil))) (.k (aN (Ci H) Tryz.call92 (.cons (.dir Y) .nil)) (.f [1,12] ?_));refine aU h Y (fun C h=>?_) (fun C h=>?_)
 ·refine aL [2] ?_;cases h;exact aH (aY u dW Y (RV.tmp Y) .nil Y)
 refine aE ?_;refine cU [1,17] ?_;refine aU h Y (fun D h=>?_) (fun D h=>?_)
 ·refine aL [2] ?_;cases h;exact aH (aY u dW Y (RV.tmp Y) .nil Y)
 refine aE ?_;refine cU [20,21,22] ?_;obtain⟨P,I,K,L⟩:=cF h;refine iZ (σs:=fun z:Int=>⟨[(20,.v (Wr.sl Q4) a0.2.2),(21,.v Q0 (a0.2.2.length:Int)),(22,.v Q0 z)],[]⟩) (fun A:Unit=>⟨[],[]⟩) I (aC []) ?_ ?_
 ·intro A B;have h:=K _ B;refine aL [2] ?_;cases h;exact aH (aY u dW Y (RV.tmp Y) .nil Y)
 intro z N h;refine aL [20,21,22,23] ?_;refine aG ?_;refine aU h Y (fun E h=>?_) (fun E h=>?_)
 ·refine aE ?_;refine aG ?_;refine bR ?_;obtain⟨Q,R,h⟩:=aA h;refine aI (.a 2 ?_);refine .k (aO 109 Cl Y (.cons (Z.int .i64) (.cons (Z.sl Q0) (.cons (Z.sl aM) .nil))) Y) (.t (bT Y Y Y Y (.VS sO (.VS sO sO)) lN) (.f [4,20,21,22] ?_));obtain⟨T,M,h⟩:=aA h;refine aI (.k (aT Y Y (.VS sO (.VS sO sO)) uZ lN) (.k (aN (Gd M) Tryz.call50 (.cons (.dir Y) .nil)) (.f [5,20,21,22] ?_)));refine aL [5,20,21,22,29] ?_;refine aU h Y (fun F h=>?_) (fun F h=>?_)
  ·refine aL [2] ?_;refine aH ?_;refine eI ?_;cases h;refine gC fun G=>?_;obtain rfl:=L _ G;exact aY u dW Y (RV.tmp Y) .nil Y
  refine aE ?_;refine aZ ?_;refine dS [20,21,22] ?_;cases h;exact cE (aC [])
 cases h;exact cX (dJ (aC []))
theorem wQ{a0 r}(h:rF a0=some r):
 WL Tryz.prog 93 [.v (Wr.J4 Q0) a0] (.ref 0) [(0,.arr 3 Q0 r)]:=by
 refine WL.of Tryz.func93 Y Tryz.ntmps93 Y ?_;intro S w u;unfold rF at h;refine aI (.k (aS 101 3 Q0) (.f [0] ?_));refine jO (.a 1 ?_);refine .k (xN Y xD) (.f [0,4] ?_);refine aU h Y (fun z h=>?_) (fun z h=>?_)
 ·refine aI (.k (aS 102 3 Q0) (.f [2] ?_));cases h;exact aH (wC u dW Y (aC [(0,102)]))
 refine aE ?_;obtain⟨B,A,h⟩:=aA h;refine aI (.k (rP (e:=Q0) 103 xD S3 Z3 Y Y Y Y .nil) ?_);refine .a 1 ?_;refine .t (bU 104 A Y Y (.J4 Y) xD I3 S3 Y Y Y Y Y) (.f [2] ?_);cases h;exact aH (wC u dW Y (aC [(0,104)]))
theorem zO{a0:kM}{r:kM}(h:lF a0=some r):
  WL Tryz.prog 93 [.v mH a0] (.ref 0) [(0,.arr 3 Q0 r)]:=
 rS fun b u=>wQ (by cases b with | true=>rw[u rfl] at h ⊢;exact h | false=>exact El h)
theorem Eb{a0 r}(h:mX a0=some r):
 WL Tryz.prog 52 [.v Q4 a0] (.v Q4 r) []:=by
 refine WL.of Tryz.func52 Y Tryz.ntmps52 Y ?_;intro S w u;unfold mX at h;refine aI (.k (cL 101 Y (.VS sO (.VS sO sO)) Y) (.k (aO 102 Cl Y (.cons (Z.int .i64) (.cons (Z.sl Q0) (.cons (Z.sl aM) .nil))) Y) (.f [1,2] ?_)));refine aG ?_;obtain⟨z,A,h⟩:=aA h;obtain⟨B,C,h⟩:=aA h;refine eF 10 mixed (by exact(.k (aB 1 Y vA Y zA Y Y) (.k (aJ Y Y Y Tu zA) (.k (fO 103000 (zO A) Tryz.call93 (.cons (.dir Y) .nil) Y) (.k (aB 2 Y vA Y yI Y Y) (.k (aJ Y Y Y Uf yI) (.k (fO 104000 (cQ C) QV (.cons (.dir Y) .nil) Y) (.k (aB 1 Y vA Y zA Y Y) (XZ.store (.none Y) Y Y Y Y Y Y Y zA (.k (aB 2 Y vA Y yI Y Y) (XZ.store (.none Y) Y Y Y Y Y Y Y yI .nil))))))))))) (by exact(J.kp [1,2] [])) ?_;refine aI (.k (hX Y Y Y uZ lN) (.f [2] ?_));refine aH ?_;obtain rfl:=pT h;exact cA (σ':=⟨[(2,.ptr 90 0)],[(90,.box 119 [.v Q0 a0.1,.v mH z,.v Q7 B])]⟩) (aC [(90,102)]) (aY u dW Y (aV Y Y (.VS sO (.VS sO sO)) uZ lN) .nil Y)
theorem Ec{a0 r}(h:rZ a0=some r):
 WL Tryz.prog 51 [.v (Wr.sl Q4) a0] (.ref 0) [(0,.arr 119 Q4 r)]:=by
 refine WL.of Tryz.func51 Y Tryz.ntmps51 Y ?_;intro S w A;unfold rZ at h;refine aI (.k (aS 101 119 Q4) (.f [0] ?_));refine aI (.k (aS 102 119 Q4) (.f [0,3] ?_));refine cU [3,6,7,8] ?_;obtain⟨I,D,E,K⟩:=cF h;refine iZ (σs:=fun u:Int×Li=>⟨[(3,.ref 112),(6,.v (Wr.sl Q4) a0),(7,.v Q0 (a0.length:Int)),(8,.v Q0 u.1)],[(112,.arr 119 Q4 u.2)]⟩) (fun z:Li=>⟨[(3,.ref 112)],[(112,.arr 119 Q4 z)]⟩) D (aC [(112,102)]) ?_ ?_
 ·intro z B;have h:=E _ B;refine aL [2] ?_;cases h;exact aH (wC A dW Y (aC [(0,112)]))
 intro u H h;refine aL [3,6,7,8,9] ?_;refine aG ?_;refine aU h Y (fun C h=>?_) (fun C h=>?_)
 ·refine aE ?_;refine aG ?_;refine bR ?_;obtain⟨L,M,h⟩:=aA h;refine aI (.a 2 ?_);refine .k (aO 116 Cl Y (.cons (Z.int .i64) (.cons (Z.sl Q0) (.cons (Z.sl aM) .nil))) Y) (.t (bT Y Y Y Y (.VS sO (.VS sO sO)) lN) (.f [3,5,6,7,8] ?_));obtain⟨N,F,h⟩:=aA h;obtain⟨O,G,h⟩:=aA h;refine eR (.a 1 ?_);refine .k (aT Y Y (.VS sO (.VS sO sO)) uZ lN) (.k (aN (Eb F) Tryz.call52 (.cons (.dir Y) .nil)) (.k (dM (e:=Q4) LX lN Cl Y Y Y Y (.cons (.dir Y) .nil)) (.t (bU 118 G Y Y (.sl Y) LX QX lN Y Y Y Y Y) (.f [3,6,7,8] ?_))));refine aZ ?_;refine dS [3,6,7,8] ?_;cases h;exact cE (aC [(112,118)])
 cases h;exact cX (dJ (aC []))
theorem Pb{a0 a1 r}(h:uN a0 a1=some r):
 WL Tryz.prog 32 [.v On a0,.v Q4 a1] (.WU [.v On r.1,.v Q8 r.2]) []:=by
 refine WL.of Tryz.func32 Y Tryz.ntmps32 Y ?_;intro S w z;unfold uN at h;refine aI (.k (cL 101 Y (.VS sO (.VS sO sO)) Y) (.k (cL 102 Y (.VS sO (.VS sO sO)) Y) (.k (aO 103 UJ Y (.cons (Z.int .i64) (.cons (Z.int .i64) (.cons (Z.sl Q4) .nil))) Y) (.f [2,3,4] ?_))));obtain⟨E,F,h⟩:=aA h;refine jO (.k (aT Y Y (.VS sO (.VS sO sO)) Xy Jz) (.k (aN (yE F) Tryz.call49 (.cons (.dir Y) .nil)) (.f [2,3,4,6] ?_)));refine aL [2,3,4,6,11] ?_;refine aU h Y (fun A h=>?_) (fun A h=>?_)
 ·refine aI (.k (bP Fh (.cons (Z.int .i64) (.cons (Z.int .i64) (.cons (Z.sl Q4) .nil))) .nil) (.f [4,5] ?_));refine aH ?_;obtain rfl:=pT h;exact cA (σ':=⟨[(4,.ptr 90 0),(5,.v Q8 E)],[(90,.box 78 [.v Q0 (0:Int),.v Q0 (0:Int),.v (Wr.sl Q4) ([]:Li)])]⟩) (aC [(90,103)]) (bS z dW Y (aV Y Y (.VS sO (.VS sO sO)) Xy Jz) (RV.tmp Y) .nil Y)
 refine aE ?_;obtain⟨G,H,h⟩:=aA h;refine jO (.k (aT Y Y (.VS sO (.VS sO sO)) uZ lN) (.k (aN (Gd H) Tryz.call50 (.cons (.dir Y) .nil)) (.f [2,3,4,7] ?_)));refine aL [2,3,4,7,17] ?_;refine aU h Y (fun B h=>?_) (fun B h=>?_)
 ·refine aI (.k (bP Fh (.cons (Z.int .i64) (.cons (Z.int .i64) (.cons (Z.sl Q4) .nil))) .nil) (.f [4,5] ?_));refine aH ?_;obtain rfl:=pT h;exact cA (σ':=⟨[(4,.ptr 90 0),(5,.v Q8 G)],[(90,.box 78 [.v Q0 (0:Int),.v Q0 (0:Int),.v (Wr.sl Q4) ([]:Li)])]⟩) (aC [(90,103)]) (bS z dW Y (aV Y Y (.VS sO (.VS sO sO)) Xy Jz) (RV.tmp Y) .nil Y)
 refine aE ?_;refine aG ?_;refine aG ?_;obtain⟨I,u,h⟩:=aA h;refine eU (σ':=⟨[(2,.ptr 101 0),(3,.ptr 102 0),(4,.ptr 103 0),(32,.v Wr.bool I)],[(101,.box 78 [.v Q0 a0.1,.v Q0 a0.2.1,.v (Wr.sl Q4) a0.2.2]),(102,.box 119 [.v Q0 a1.1,.v mH a1.2.1,.v Q7 a1.2.2]),(103,.box 78 [.v Q0 (0:Int),.v Q0 (0:Int),.v (Wr.sl Q4) ([]:Li)])]⟩) ?_ ?_
 ·refine cd u (fun C u=>?_) (fun C u=>?_)
  ·cases u;exact jy
  cases u;exact jy
 refine aU h Y (fun D h=>?_) (fun D h=>?_)
 ·refine aI (.k (bP Fh (.cons (Z.int .i64) (.cons (Z.int .i64) (.cons (Z.sl Q4) .nil))) .nil) (.f [4,5] ?_));refine aH ?_;obtain rfl:=pT h;exact cA (σ':=⟨[(4,.ptr 90 0),(5,.v Q8 (some (2:Int)))],[(90,.box 78 [.v Q0 (0:Int),.v Q0 (0:Int),.v (Wr.sl Q4) ([]:Li)])]⟩) (aC [(90,103)]) (bS z dW Y (aV Y Y (.VS sO (.VS sO sO)) Xy Jz) (RV.tmp Y) .nil Y)
 refine aE ?_;refine aG ?_;obtain⟨O,K,h⟩:=aA h;obtain⟨P,L,h⟩:=aA h;obtain⟨M,N,h⟩:=aA h;refine eF 14 mixed (by exact(.k (aB 0 Y FV Y S3 Y Y) (.k (aJ Y Y Y G3 S3) (.k (aB 1 Y FV Y S3 Y Y) (.k (aJ Y Y Y G3 S3) (.k (aB 2 Y FV Y FQ Y Y) (.k (aJ Y Y Y RZ FQ) (.k (fO 109000 (Ec K) Tryz.call51 (.cons (.dir Y) .nil) Y) (.k (aT Y Y (.VS sO (.VS sO sO)) uZ lN) (.k (aN (Eb L) Tryz.call52 (.cons (.dir Y) .nil)) (.k (dM (e:=Q4) LX lN Cl Y Y Y Y (.cons (.dir Y) .nil)) (XZ.append (.none Y) 111 N Y Y (.sl Y) LX QX lN Y Y Y Y Y (.k (bP Fh (.cons (Z.int .i64) (.cons (Z.int .i64) (.cons (Z.sl Q4) .nil))) (.cons Y (.dir Y) Y Y Y Y (.cons Y (.dir Y) Y Y Y Y (.cons Y (.dir Y) Y Y Y Y .nil)))) (XZ.C7 (.none Y) Y Y Y Y Y Y Jz (.k (zI ET) .nil))))))))))))))) (by exact(J.kp [4,5] [])) ?_;refine aH ?_;obtain rfl:=pT h;exact cA (σ':=⟨[(4,.ptr 90 0),(5,.v Q8 (none:Option Int))],[(90,.box 78 [.v Q0 a0.1,.v Q0 a0.2.1,.v (Wr.sl Q4) M])]⟩) (aC [(90,103)]) (bS z dW Y (aV Y Y (.VS sO (.VS sO sO)) Xy Jz) (RV.tmp Y) .nil Y)
theorem Qd{a0 r}(h:pG a0=some r):
 WL Tryz.prog 34 [.v On a0] (.WU [.v (Wr.sl (Wr.sl (Wr.int .u8))) r.1,.v Q8 r.2]) []:=by
 refine WL.of Tryz.func34 Y Tryz.ntmps34 Y ?_;intro S w u;unfold pG at h;refine aI (.k (cL 101 Y (.VS sO (.VS sO sO)) Y) (.k (aS 102 108 (Wr.sl (Wr.int .u8))) (.f [1] ?_)));obtain⟨T,K,h⟩:=aA h;refine jO (.k (aT Y Y (.VS sO (.VS sO sO)) Xy Jz) (.k (aN (yE K) Tryz.call49 (.cons (.dir Y) .nil)) (.f [1,4] ?_)));refine aL [1,4,13] ?_;refine aU h Y (fun F h=>?_) (fun F h=>?_)
 ·refine aI (.a 1 ?_);refine .k (aS 104 108 (Wr.sl (Wr.int .u8))) (.f [2,3] ?_);cases h;exact aH (wT u dW Y (aC []))
 refine aE ?_;refine aI (.k (aS 105 108 (Wr.sl (Wr.int .u8))) (.f [1,5] ?_));obtain⟨C,L,h⟩:=aA h;refine jO (.a 5 ?_);refine .k (yU Y Y) (.k (AV L Y Y LX lN) (.f [1,5,21,22,23] ?_));obtain⟨U,M,N,D⟩:=cF h;refine iZ (σs:=fun z:Int×(List kM)=>⟨[(1,.ptr 101 0),(5,.ref 119),(21,.v (Wr.sl Q4) C),(22,.v Q0 (C.length:Int)),(23,.v Q0 z.1)],[(101,.box 78 [.v Q0 a0.1,.v Q0 a0.2.1,.v (Wr.sl Q4) a0.2.2]),(119,.arr 108 (Wr.sl (Wr.int .u8)) z.2)]⟩) (fun B:(List kM)=>⟨[(5,.ref 119)],[(119,.arr 108 (Wr.sl (Wr.int .u8)) B)]⟩) M (aC [(119,105)]) ?_ ?_
 ·intro B E;have h:=N _ E;refine aL [2,3] ?_;cases h;exact aH (wT u dW Y (aC []))
 intro z R h;refine aL [1,5,21,22,23,24] ?_;refine aG ?_;refine aU h Y (fun G h=>?_) (fun G h=>?_)
 ·refine aE ?_;refine aG ?_;refine bR ?_;obtain⟨V,X,h⟩:=aA h;refine aI (.a 3 ?_);refine .k (aO 125 Cl Y (.cons (Z.int .i64) (.cons (Z.sl Q0) (.cons (Z.sl aM) .nil))) Y) ?_;refine .a 1 ?_;refine .t (bT Y Y Y Y (.VS sO (.VS sO sO)) lN) (.f [1,5,6,7,21,22,23] ?_);refine cU [1,5,6,7,21,22,23,32] ?_;refine aU h Y (fun H h=>?_) (fun H h=>?_)
  ·refine aI (.a 1 ?_);refine .k (aS 126 108 (Wr.sl (Wr.int .u8))) (.f [2,3] ?_);refine aH ?_;refine eI ?_;cases h;refine gC fun A=>?_;obtain rfl:=D _ A;exact wT u dW Y (aC [])
  refine aE ?_;refine aG ?_;obtain⟨ru,O,h⟩:=aA h;obtain⟨xp,P,h⟩:=aA h;refine eF 21 mixed (by exact(.k (aB 0 Y FV Y S3 Y Y) (.k (aJ Y Y Y G3 S3) (.k (aB 1 Y FV Y S3 Y Y) (.k (aJ Y Y Y G3 S3) (.k (aD Y) (.k (cY Y Y Y) (.k (aB 0 Y vA Y S3 Y Y) (.k (aJ Y Y Y G3 S3) (.k (BA (e:=Q0) xD S3 Z3 Y Y Y Y (.cons (.dir Y) (.cons (.dir Y) (.cons (.dir Y) .nil)))) (.k (aB 1 Y vA Y zA Y Y) (.k (aJ Y Y Y Tu zA) (.k (Lt O (List.cons_ne_nil _ _) Y (.sl Y) xD I3 S3 Y Y Y) (.k (aB 2 Y vA Y yI Y Y) (.k (aJ Y Y Y Uf yI) (.k (bP mC (.cons (Z.int .i64) (.cons (Z.sl Q0) (.cons (Z.sl aM) .nil))) (.cons Y (.dir Y) Y Y Y Y (.cons Y (.dir Y) Y Y Y Y (.cons Y (.dir Y) Y Y Y Y .nil)))) (.k (aN (yC P) Tryz.call48 (.cons (.agg Y (.same (.same (.same .nil))) (.VS sO (.VS sO sO)) Y) .nil)) (.k (aD Y) (.k (bW Y Y) (.k (bW Y Y) (.k (bQ Y) (.k (bQ Y) .nil)))))))))))))))))))))) (by exact(J.kp [1,5,8,9,21,22,23] [])) ?_;refine cU [1,5,8,9,21,22,23,54] ?_;refine aU h Y (fun I h=>?_) (fun I h=>?_)
  ·refine aI (.a 1 ?_);refine .k (aS 128 108 (Wr.sl (Wr.int .u8))) (.f [2,3] ?_);refine aH ?_;refine eI ?_;cases h;refine gC fun A=>?_;obtain rfl:=D _ A;exact wT u dW Y (aC [])
  refine aE ?_;obtain⟨A3,Q,h⟩:=aA h;refine eR (.a 2 ?_);refine .k (dM (e:=(Wr.sl (Wr.int .u8))) RC Xn Tryz.zeroValue108 Y Y Y Y (.cons (.dir Y) .nil)) (.t (bU 129 Q Y Y (.sl Y) RC Tryz.typeInfo108 Xn Y Y Y Y Y) (.f [1,5,21,22,23] ?_));refine aZ ?_;refine dS [1,5,21,22,23] ?_;cases h;exact cE (aC [(119,129)])
 cases h;exact cX (dJ (aC []))
theorem uC(A:Nat->Nat){b0 b1 b2 b3 b4 b5 b6 b7 b8 b9 bA bB bC bD bE bF bG bH bI bJ bK bL r}(h:dE b0 b1 b2 b3 b4 b5 b6 b7 b8 b9 bA bB bC bD bE bF bG bH bI bJ bK bL=some r):
 VZ Tryz.prog 19 [.ptr 9000 0] (kF 9000 (some (A 9000)) 9100 (some (A 9100)) 9200 (some (A 9200)) 9050 9051 9052 9053 b0 b1 b2 b3 b4 b5 b6 b7 b8 b9 bA bB bC bD bE bF bG bH bI bJ bK bL) (.v Q8 r.1) (kF 9000 (some (A 9000)) 9100 (some (A 9100)) 9200 (some (A 9200)) 400 401 402 403 b0 b1 b2 b3 b4 b5 b6 b7 r.2.1 r.2.2.1 bA r.2.2.2.1 bC bD bE bF bG r.2.2.2.2 bI bJ bK bL):=by
 refine VZ.of Tryz.func19 Y Tryz.ntmps19 Y ?_;intro S w R E;unfold dE at h;refine aL [0] ?_;refine aL [0,3] ?_;obtain⟨C,X,h⟩:=aA h;refine jO (.a 6 ?_);refine .k (dM (e:=Q0) xD S3 Z3 Y Y Y Y (.cons (.dir Y) .nil)) (.k (bP mC (.cons (Z.int .i64) (.cons (Z.sl Q0) (.cons (Z.sl aM) .nil))) (.cons Y (.dir Y) Y Y Y Y (.cons Y (.dir Y) Y Y Y Y .nil))) (.t (sW (H:=[9000,9100,9200,9050,9051,9052,9053]) (K:=[9000,9100,9200]) (vC [(9000,9000),(9100,9100),(9200,9200),(9050,9050),(9051,9051),(9052,9052),(9053,9053),(400,101),(401,102),(402,103),(403,104)]) (dG Y) (fun A=>uV A X) Tryz.call31 (.cons (.dir Y) (.cons (.dir Y) (.cons (.agg Y (.same (.same (.same .nil))) (.VS sO (.VS sO sO)) Y) .nil))) (fun A=>(.box Y (.box Y (.box Y (.arr Y (.mp Y (.arr Y (.arr Y .nil)))))))) (fun A=>(.box Y (.box Y (.box Y (.arr (.mp (.arr (.arr .nil Y) Y) Y) Y) Y) Y) Y)) (fun _=>rfl) Y Y (fun _=>rfl) Y Y) (.f [0,3,4] ?_)));refine aG ?_;obtain⟨x3,u,h⟩:=aA h;refine eU (σ':=⟨[(0,.ptr 9000 0),(3,.ptr 9000 1),(4,.v Q8 C.1),(31,.v Wr.bool x3)],(kF 9000 (some (A 9000)) 9100 (some (A 9100)) 9200 (some (A 9200)) 101 102 103 104 b0 b1 b2 b3 b4 b5 b6 b7 b8 b9 bA bB bC bD bE bF bG C.2 bI bJ bK bL)⟩) ?_ ?_
 ·refine cd u (fun N u=>?_) (fun N u=>?_)
  ·cases u;exact jy
  cases u;exact jy
 refine aU h Y (fun O h=>?_) (fun O h=>?_)
 ·refine aL [0,2] ?_;cases h;exact aH (eY E Y (aC [(403,104),(402,103),(401,102),(400,101)]))
 refine aE ?_;refine aG ?_;refine aG ?_;obtain⟨x7,u,h⟩:=aA h;refine Je (σ':=⟨[(0,.ptr 9000 0),(3,.ptr 9000 1),(51,.v Wr.bool x7)],(kF 9000 (some (A 9000)) 9100 (some (A 9100)) 9200 (some (A 9200)) 101 102 103 104 b0 b1 b2 b3 b4 b5 b6 b7 b8 b9 bA bB bC bD bE bF bG C.2 bI bJ bK bL)⟩) ?_ ?_
 ·intro I;refine cd u (fun B u=>?_) (fun B u=>?_)
  ·cases u;exact eF 19 mixed (by exact(.k (aD Y) (.k (aK Y) (.k (aB 15 Y wA Y S3 Y Y) (.k (aJ Y Y Y G3 S3) (.k (aD Y) (.k (aK Y) (.k (aB 1 Y wA Y Lk Y Y) (.k (aB 3 Y Fj Y S3 Y Y) (.k (aJ Y Y Y G3 S3) (.k (nF Y Y Y) (.k (aD Y) (.g B (aD Y) (.g B (aK Y) (.g B (aB 12 Y wA Y Jz Y Y) (.g B (aB 14 Y FV Y FQ Y Y) (.g B (yV (off:=12) (o1:=2) Y Y Y Y (.snd (.snd .here)) RZ FQ) (.g B (tL Y LX) (.g B (nF Y Y Y) (.k (Hm B Y Y) .nil)))))))))))))))))))) (by exact(J.fin (aC []))) I
  cases u;exact rB 19 mixed I
 obtain⟨aa,ab,h⟩:=fI h;refine tM (fun z:(Int×Int×Li)×Int×kM=>⟨[(0,.ptr 9000 0),(3,.ptr 9000 1)],(kF 9000 (some (A 9000)) 9100 (some (A 9100)) 9200 (some (A 9200)) 119 120 121 122 b0 b1 b2 b3 b4 b5 b6 b7 z.1 z.2.1 bA z.2.2 bC bD bE bF bG C.2 bI bJ bK bL)⟩) (fun x=>aa x=some r) Y ?_ ?_ ?_
 ·intro z h;rw[ab] at h;obtain⟨D,ac,h⟩:=aA h;refine aI (.a 4 ?_);refine .k (aN (Qd ac) Tryz.call34 (.cons (.dir Y) .nil)) (.f [0,7,8] ?_);refine cU [0,8,99,100,101] ?_;obtain⟨ap,ad,af,aq⟩:=cF h;refine iZ (σs:=fun F:Int×Ud=>⟨[(0,.ptr 9000 0),(8,.v Q8 D.2),(99,.v (Wr.sl (Wr.sl (Wr.int .u8))) D.1),(100,.v Q0 (D.1.length:Int)),(101,.v Q0 F.1)],(kF 9000 (some (A 9000)) 9100 (some (A 9100)) 9200 (some (A 9200)) 158 159 160 161 b0 b1 b2 b3 b4 b5 b6 b7 z.1 z.2.1 bA z.2.2 bC bD bE bF bG F.2 bI bJ bK bL)⟩) (fun L:Ud=>⟨[(0,.ptr 9000 0),(8,.v Q8 D.2)],(kF 9000 (some (A 9000)) 9100 (some (A 9100)) 9200 (some (A 9200)) 158 159 160 161 b0 b1 b2 b3 b4 b5 b6 b7 z.1 z.2.1 bA z.2.2 bC bD bE bF bG L bI bJ bK bL)⟩) ad (aC [(161,122),(160,121),(159,120),(158,119)]) ?_ ?_
  ·intro L M;have h:=af _ M;refine aL [0,2] ?_;cases h;exact aH (eY E Y (aC [(403,161),(402,160),(401,159),(400,158)]))
  intro F an h;refine aL [0,8,99,100,101,102] ?_;refine aG ?_;refine aU h Y (fun P h=>?_) (fun P h=>?_)
  ·refine aE ?_;refine aG ?_;refine bR ?_;obtain⟨au,av,h⟩:=aA h;refine aL [0,8,10,99,100,101] ?_;obtain⟨a0,ah,h⟩:=aA h;obtain⟨xo,am,h⟩:=aA h;refine eR (.a 2 ?_);refine .t (sW (H:=[9000,9100,9200,158,159,160,161]) (K:=[9000,9100,9200]) (vC [(9000,9000),(9100,9100),(9200,9200),(9050,158),(9051,159),(9052,160),(9053,161),(400,166),(401,167),(402,168),(403,169)]) (dG Y) (fun A=>pA A am) Tryz.call35 (.cons (.dir Y) (.cons (.dir Y) (.cons (.toN (Ni ah) Y) .nil))) (fun A=>(.box Y (.box Y (.box Y (.arr Y (.mp Y (.arr Y (.arr Y .nil)))))))) (fun A=>(.box Y (.box Y (.box Y (.arr (.mp (.arr (.arr .nil Y) Y) Y) Y) Y) Y) Y)) (fun _=>rfl) Y Y (fun _=>rfl) Y Y) (.f [0,8,99,100,101] ?_);refine aZ ?_;refine dS [0,8,99,100,101] ?_;cases h;exact cE (aC [(161,169),(160,168),(159,167),(158,166)])
  cases h;exact cX (dJ (aC []))
 ·intro G;replace h:=iN G h;refine aG ?_;obtain⟨vz,tj,h⟩:=aA h;obtain⟨vy,th,h⟩:=aA h;refine UN (OK:=(UL ([(9000,12,.v On b8)]:List (Nat×Nat×Slot)))) 13 mixed (by exact(.pu (.none Y) Y (fun _ _=>aD Y) (.pu (.none Y) Y (fun _ _=>aK Y) (.pu (.none Y) Y (fun _ _=>aB 12 Y wA Y Jz Y Y) (.pu (.none Y) Y (fun _ Q=>HV _ 0 Q Y (fun _ _ _ T U=>aJ Y T U Xy Jz)) (.k (aD Y) (XZ.J8 (.none Y) (H:=[9000,9100,9200,101,102,103,104]) (K:=[9000,9100,9200]) (vC [(9000,9000),(9100,9100),(9200,9200),(9050,101),(9051,102),(9052,103),(9053,104),(400,129),(401,130),(402,131),(403,132)]) (dG Y) (fun A=>yD A tj) Tryz.call33 (.cons (.dir Y) .nil) (fun A=>(.box Y (.box Y (.box Y (.arr Y (.mp Y (.arr Y (.arr Y .nil)))))))) (fun A=>(.box Y (.box Y (.box Y (.arr (.mp (.arr (.arr .nil Y) Y) Y) Y) Y) Y) Y)) (fun _=>rfl) Y Y (fun _=>rfl) Y Y (.k (aN (Pb th) Tryz.call32 (.cons (.dir Y) (.cons (.dir Y) .nil))) (.k (aD Y) (.pu (.none Y) Y (fun _ _=>bW Y Y) (.pu (.none Y) Y (fun _ _=>bW Y Y) (.k (aO 134 UJ Y (.cons (Z.int .i64) (.cons (Z.int .i64) (.cons (Z.sl Q4) .nil))) Y) (XZ.storeAll (.none Y) Y Y Y Y (.VS sO (.VS sO sO)) Jz (.k (bQ Y) .nil)))))))))))))) (by exact(J.kp [0,3,5,6] [])) (by exact BJ Y (by repeat' (first | exact trivial | exact Y | refine And.intro ?_ ?_))) ?_;refine cU [0,3,5,6,63] ?_;refine aU h Y (fun V h=>?_) (fun V h=>?_)
  ·refine aL [0,2] ?_;refine aH ?_;refine Hl ?_;cases h;exact eY E Y (aC [(403,132),(402,131),(401,130),(400,129)])
  refine aE ?_;refine aG ?_;refine eF 14 mixed (by exact(.k (aD Y) (.pu (.none Y) Y (fun _ _=>aD Y) (.k (aT Y Y (.VS sO (.VS sO sO)) Xy Jz) (.k (aD Y) (.k (aK Y) (.k (aB 1 Y wA Y Lk Y Y) (.k (aB 3 Y Fj Y S3 Y Y) (.k (aJ Y Y Y G3 S3) (.k (aK Y) (.k (aB 12 Y wA Y Jz Y Y) (XZ.store (.none Y) Y Y Y Y Y Y Y Jz (.k (aK Y) (.k (aB 15 Y wA Y S3 Y Y) (XZ.store (.none Y) Y Y Y Y Y Y Y S3 .nil))))))))))))))) (by exact(J.kp [0,3] [])) ?_;obtain⟨dt,Y6,h⟩:=aA h;refine eF 15 mixed (by exact(.k (aD Y) (.k (aD Y) (.k (aK Y) (.k (aB 17 Y wA Y zA Y Y) (.k (aJ Y Y Y Tu zA) (.k (aD Y) (.k (aK Y) (.k (aB 1 Y wA Y Lk Y Y) (.k (aB 3 Y Fj Y S3 Y Y) (.k (aJ Y Y Y G3 S3) (.k (dM (e:=Q0) xD S3 Z3 Y Y Y Y (.cons (.dir Y) .nil)) (XZ.append (.none Y) 136 Y6 Y Y (.sl Y) xD I3 S3 Y Y Y Y Y (.k (aK Y) (.k (aB 17 Y wA Y zA Y Y) (XZ.store (.none Y) Y Y Y Y Y Y Y zA .nil)))))))))))))))) (by exact(J.kp [0,3] [])) ?_;exact cB h (aC [(122,132),(121,136),(120,130),(119,129)])
 ·intro G;replace h:=iO G h;refine aE ?_;exact cB h (aC [(122,104),(121,103),(120,102),(119,101)])
theorem Ct(A:Nat->Nat){a1 b0 b1 b2 b3 b4 b5 b6 b7 b8 b9 bA bB bC bD bE bF bG bH bI bJ bK bL r}(h:nT a1 b0 b1 b2 b3 b4 b5 b6 b7 b8 b9 bA bB bC bD bE bF bG bH bI bJ bK bL=some r):
 VZ Tryz.prog 67 [.ptr 9000 0,.v Q9 a1] (kF 9000 (some (A 9000)) 9100 (some (A 9100)) 9200 (some (A 9200)) 9050 9051 9052 9053 b0 b1 b2 b3 b4 b5 b6 b7 b8 b9 bA bB bC bD bE bF bG bH bI bJ bK bL) (.WU [.v aM r.1,.v Q8 r.2.1]) (Tx 9000 (some (A 9000)) 301 none 302 none 400 401 402 403 r.2.2):=by
 refine VZ.of Tryz.func67 Y Tryz.ntmps67 Y ?_;intro S w R u;unfold nT at h;refine aI (.k (cL 101 Y (.VS sO (.VS sO (.VS sO sO))) Y) (.k (aO 102 By Y (.cons (Z.arr 8 (Z.int .u8)) .nil) Y) (.f [0,4] ?_)));obtain⟨z,B,h⟩:=aA h;refine aI (.k (dH (e:=aM) (v:=aR) Bx vZ I5 Y Y (Z.arr 8 (Z.int .u8))) ?_);refine .a 1 ?_;refine .t (eN [9000,9100,9200,9050,9051,9052,9053] (vC [(9000,9000),(9100,9100),(9200,9200),(9050,9050),(9051,9051),(9052,9052),(9053,9053),(400,103),(401,104),(402,105),(403,106)]) (dG Y) (fun A=>uC A B) Tryz.call19 (fun A=>(.box Y (.box Y (.box Y (.arr (.mp (.arr (.arr .nil Y) Y) Y) Y) Y) Y) Y))) (.f [0,4,5] ?_);refine aH ?_;obtain rfl:=pT h;exact kS [(0,.ptr 9000 0),(4,.ptr 90 0),(5,.v Q8 z.1)] [(90,.box 28 [.v aM aR])] (aC [(90,102),(403,106),(302,9200),(402,105),(401,104),(400,103),(301,9100)]) (eA u Y (cO Y Y Y uS kR) (RV.tmp Y) (.cons Y (.cons Y (.cons Y (.cons Y (.cons Y (.cons Y (.cons Y .nil))))))))
theorem kB(A:Nat->Nat){a1 b0 b1 b2 b3 b4 b5 b6 b7 b8 b9 bA bB bC bD bE bF bG bH bI bJ bK bL r}(h:cD a1 b0 b1 b2 b3 b4 b5 b6 b7 b8 b9 bA bB bC bD bE bF bG bH bI bJ bK bL=some r):
 VZ Tryz.prog 26 [.ptr 9000 0,.v Q0 a1] (kF 9000 (some (A 9000)) 9100 (some (A 9100)) 9200 (some (A 9200)) 9050 9051 9052 9053 b0 b1 b2 b3 b4 b5 b6 b7 b8 b9 bA bB bC bD bE bF bG bH bI bJ bK bL) (.WU [.v Q0 r.1,.v Wr.bool r.2]) (kF 9000 (some (A 9000)) 9100 (some (A 9100)) 9200 (some (A 9200)) 400 401 402 403 b0 b1 b2 b3 b4 b5 b6 b7 b8 b9 bA bB bC bD bE bF bG bH bI bJ bK bL):=by
 refine VZ.of Tryz.func26 Y Tryz.ntmps26 Y ?_;intro S w R u;unfold cD at h;refine aL [0,1] ?_;refine cU [0,1,11] ?_;refine aU h Y (fun z h=>?_) (fun z h=>?_)
 ·refine aL [0,4,5] ?_;cases h;exact aH (HZ u Y (aC [(403,9053),(402,9052),(401,9051),(400,9050)]))
 refine aE ?_;obtain⟨C,B,h⟩:=aA h;refine aI (.a 3 ?_);refine .k (Ya Y) (.k (Bc Y Y) ?_);refine .a 5 ?_;refine .k (kN (.inr Y) (Ei B) Y Y) (.f [0,4,5] ?_);cases h;exact aH (HZ u Y (aC [(403,9053),(402,9052),(401,9051),(400,9050)]))
end Go.Cn
