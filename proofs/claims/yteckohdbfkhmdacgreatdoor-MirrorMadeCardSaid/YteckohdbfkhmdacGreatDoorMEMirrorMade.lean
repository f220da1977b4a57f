/- The functions come to what their models come to. Conditions: none. -/
import Derived.Test.YteckohdbfkhmdacGreatDoorMDMirrorMade
import Derived.KernelRfl
import Derived.WalkKit
import Derived.LaidEql
import Derived.Stop.Asserts
import Derived.RowKitTokens
import Derived.Test.YteckohdbfkhmdacGreatDoorChecked
set_option linter.unusedVariables false
set_option linter.unusedSimpArgs false
set_option maxRecDepth 100000
set_option maxHeartbeats 4000000
namespace Go.Cn
open Go Go.Sw Go.Mo Go.Proofs
abbrev ET:Nat:=28
theorem Y{α:Sort _}{a:α}:a=a:=rfl
abbrev Q0:=(Wr.int .i64)
abbrev Q1:=(Wr.sl (Wr.pr Q0 aO))
abbrev Q2:=(Wr.pr (Wr.sl aO) (Wr.pr Q1 Q0))
abbrev Q3:=(Int×Int×Int×Int×(List aQ)×(Int×(List (Int×aQ))×(List (Int×(List (Int×aQ))))×Bool)×(List (Int×(List aQ)))×Int×(Int×Int×(List (Int×(List Int)×(List aQ))))×Int×Int×(List Int)×Int×Int×Int×Int×(Int×Int)×(List (Bool×Bool×(List Int)))×Int×((List aQ)×(List (Int×aQ))×Int)×Int×((List aQ)×(List (Int×aQ))×Int))
abbrev Q4:=(Wr.pr Q0 (Wr.pr Q0 (Wr.pr Q0 aO)))
abbrev Q5:=(Wr.sl aO)
abbrev Q6:=(List (Int×aQ))
abbrev Q7:=(Wr.pr Q0 (Wr.pr aO (Wr.pr Q0 (Wr.pr Q0 (Wr.pr Q0 Q5)))))
abbrev Q8:=(Wr.pr Q0 (Wr.pr (Wr.sl Q0) Q5))
abbrev Q9:=(Wr.err ET)
abbrev gF:=(Wr.pr Q0 aO)
abbrev Ku:=(Wr.pr Q0 (Wr.pr Q1 (Wr.pr (Wr.sl (Wr.pr Q0 Q1)) Wr.bool)))
abbrev Cv:=((List aQ)×Q6×Int)
abbrev jO:=(List aQ)
abbrev kT:=(List Int)
abbrev pE:=(Wr.pr Q0 Q1)
abbrev mG:=(Wr.sl Q0)
abbrev Nu:=(Wr.pr Q0 (Wr.pr Q0 (Wr.sl Q8)))
abbrev Oo:=(List (Int×kT×jO))
abbrev Ii:=(List (Int×Q6))
abbrev Yz:=(List (Bool×Bool×kT))
abbrev Tn:=(Option (Int×Cv))
abbrev TN:=Tryz.call10
abbrev NR:=Tryz.call101
abbrev NS:=Tryz.call102
abbrev NT:=Tryz.call118
abbrev VD:=Tryz.call12
abbrev NU:=Tryz.call126
abbrev EN:=Tryz.call133
abbrev Za:=Tryz.call138
abbrev NV:=Tryz.call139
abbrev UT:=Tryz.call14
abbrev UU:=Tryz.call15
abbrev NW:=Tryz.call160
abbrev JT:=Tryz.call163
abbrev SX:=Tryz.call167
abbrev UW:=Tryz.call17
abbrev EO:=Tryz.call185
abbrev NX:=Tryz.call207
abbrev NY:=Tryz.call210
abbrev NZ:=Tryz.call212
abbrev JU:=Tryz.call213
abbrev JV:=Tryz.call215
abbrev VE:=Tryz.call23
abbrev UX:=Tryz.call27
abbrev TO:=Tryz.call44
abbrev SY:=Tryz.call48
abbrev RK:=Tryz.call69
abbrev JX:=Tryz.isAgg107
abbrev uU:=Tryz.isAgg144
abbrev sC:=Tryz.isAgg186
abbrev Nv:=Tryz.isAgg197
abbrev Wp:=Tryz.isAgg210
abbrev Zb:=Tryz.isAgg214
abbrev Te:=Tryz.isAgg22
abbrev UK:=Tryz.isAgg28
abbrev G3:=Tryz.isAgg3
abbrev tI:=Tryz.isAgg30
abbrev To:=Tryz.isAgg31
abbrev OU:=Tryz.isAgg33
abbrev SZ:=Tryz.isAgg35
abbrev BV:=Tryz.isAgg44
abbrev TA:=Tryz.isAgg47
abbrev G5:=Tryz.isAgg5
abbrev TB:=Tryz.isAgg61
abbrev Nw:=Tryz.isAgg74
abbrev FC:=Tryz.isAgg77
abbrev Ez:=Tryz.isAgg80
abbrev OV:=Tryz.isAgg81
abbrev RL:=Tryz.isAgg82
abbrev Xb:=Tryz.isAgg84
abbrev QJ:=Tryz.isAgg88
abbrev TC:=Tryz.isAgg91
abbrev OA:=Tryz.typeInfo135
abbrev QK:=Tryz.typeInfo144
abbrev QL:=Tryz.typeInfo197
abbrev QM:=Tryz.typeInfo210
abbrev Kv:=Tryz.typeInfo214
abbrev I3:=Tryz.typeInfo3
abbrev Br:=Tryz.typeInfo30
abbrev JY:=Tryz.typeInfo44
abbrev I5:=Tryz.typeInfo5
abbrev Wq:=Tryz.sizeOf107
abbrev vZ:=Tryz.sizeOf135
abbrev lN:=Tryz.sizeOf144
abbrev lF:=Tryz.sizeOf186
abbrev vC:=Tryz.sizeOf197
abbrev Ce:=Tryz.sizeOf210
abbrev jS:=Tryz.sizeOf214
abbrev yV:=Tryz.sizeOf22
abbrev TD:=Tryz.sizeOf28
abbrev S3:=Tryz.sizeOf3
abbrev kB:=Tryz.sizeOf30
abbrev yD:=Tryz.sizeOf31
abbrev BW:=Tryz.sizeOf33
abbrev OW:=Tryz.sizeOf35
abbrev KA:=Tryz.sizeOf361
abbrev S4:=Tryz.sizeOf4
abbrev Cw:=Tryz.sizeOf44
abbrev BX:=Tryz.sizeOf47
abbrev S5:=Tryz.sizeOf5
abbrev QN:=Tryz.sizeOf54
abbrev TE:=Tryz.sizeOf59
abbrev OX:=Tryz.sizeOf61
abbrev Ij:=Tryz.sizeOf74
abbrev Kw:=Tryz.sizeOf76
abbrev Ik:=Tryz.sizeOf77
abbrev TP:=Tryz.sizeOf78
abbrev yW:=Tryz.sizeOf80
abbrev Zc:=Tryz.sizeOf81
abbrev EP:=Tryz.sizeOf82
abbrev Jn:=Tryz.sizeOf84
abbrev OY:=Tryz.sizeOf86
abbrev FD:=Tryz.sizeOf88
abbrev TF:=Tryz.sizeOf90
abbrev KB:=Tryz.sizeOf91
abbrev OZ:=Tryz.sizeOf97
abbrev tJ:=Tryz.runUnderlying107
abbrev KC:=Tryz.runUnderlying135
abbrev uV:=Tryz.runUnderlying144
abbrev QO:=Tryz.runUnderlying148
abbrev Kx:=Tryz.runUnderlying186
abbrev wI:=Tryz.runUnderlying188
abbrev Zd:=Tryz.runUnderlying197
abbrev QP:=Tryz.runUnderlying210
abbrev Nx:=Tryz.runUnderlying214
abbrev wZ:=Tryz.runUnderlying22
abbrev Pd:=Tryz.runUnderlying25
abbrev ER:=Tryz.runUnderlying254
abbrev QQ:=Tryz.runUnderlying293
abbrev U3:=Tryz.runUnderlying3
abbrev vS:=Tryz.runUnderlying30
abbrev Jo:=Tryz.runUnderlying31
abbrev QR:=Tryz.runUnderlying324
abbrev QS:=Tryz.runUnderlying326
abbrev QT:=Tryz.runUnderlying328
abbrev Ze:=Tryz.runUnderlying33
abbrev Ny:=Tryz.runUnderlying35
abbrev Ws:=Tryz.runUnderlying350
abbrev OB:=Tryz.runUnderlying363
abbrev ES:=Tryz.runUnderlying44
abbrev QU:=Tryz.runUnderlying47
abbrev BY:=Tryz.runUnderlying49
abbrev U5:=Tryz.runUnderlying5
abbrev TQ:=Tryz.runUnderlying57
abbrev OC:=Tryz.runUnderlying61
abbrev UL:=Tryz.runUnderlying65
abbrev Fa:=Tryz.runUnderlying76
abbrev yE:=Tryz.runUnderlying77
abbrev EU:=Tryz.runUnderlying78
abbrev RM:=Tryz.runUnderlying80
abbrev QV:=Tryz.runUnderlying81
abbrev KX:=Tryz.runUnderlying82
abbrev EV:=Tryz.runUnderlying84
abbrev vT:=Tryz.runUnderlying86
abbrev KD:=Tryz.runUnderlying90
abbrev Jq:=Tryz.runUnderlying91
abbrev Tf:=Tryz.runUnderlying93
abbrev EW:=Tryz.zeroValue135
abbrev Cf:=Tryz.zeroValue144
abbrev Tg:=Tryz.zeroValue186
abbrev Pe:=Tryz.zeroValue197
abbrev Nz:=Tryz.zeroValue210
abbrev Fb:=Tryz.zeroValue214
abbrev Z3:=Tryz.zeroValue3
abbrev Aq:=Tryz.zeroValue30
abbrev TG:=Tryz.zeroValue31
abbrev RN:=Tryz.zeroValue33
abbrev EX:=Tryz.zeroValue44
abbrev Z5:=Tryz.zeroValue5
abbrev UM:=Tryz.zeroValue59
abbrev UN:=Tryz.zeroValue61
abbrev QW:=Tryz.zeroValue80
abbrev TR:=Tryz.zeroValue84
abbrev TH:=Tryz.zeroValue97
abbrev kQ(i:Nat)(ia:Option Nat)(p:Nat)(pa:Option Nat)(q:Nat)(qa:Option Nat)(x y z u:Nat)(b0 b1 b2 b3:Int)(b4:List aQ)(b5:Int×List (Int×aQ)×List (Int×List (Int×aQ))×Bool)(b6:List (Int×List aQ))(b7:Int)(b8:Int×Int×List (Int×List Int×List aQ))(b9 bA:Int)(bB:List Int)(bC bD bE bF:Int)(bG:Int×Int)(bH:List (Bool×Bool×List Int))(bI:Int)(bJ:List aQ×List (Int×aQ)×Int)(bK:Int)(bL:List aQ×List (Int×aQ)×Int):List (Nat×VR):=
 [(i,.box 93 [.v Q0 b0,.ptr p 0,.v Q0 b1,.v Q0 b2,.v Q0 b3,.ref x,.v Ku b5,.ref y,.v Q0 b7,.v Nu b8,.v Q0 b9,.v Q0 bA,.ref z,.ptr q 0,.v Q0 bC,.v Q0 bD,.v Q0 bE,.v Q0 bF,.v (Wr.pr Q0 Q0) bG,.ref u] ia),(p,.box 188 [.v Q0 bI,.v Q2 bJ] pa),(q,.box 188 [.v Q0 bK,.v Q2 bL] qa),(x,.arr 30 aO b4),(y,.mp Q0 Q5 b6),(z,.arr 3 Q0 bB),(u,.arr 135 (Wr.pr Wr.bool (Wr.pr Wr.bool (Wr.sl (Wr.int .u8)))) bH)]
abbrev Th(i:Nat)(ia:Option Nat)(p:Nat)(pa:Option Nat)(q:Nat)(qa:Option Nat)(x y z u:Nat)(t:Int×Int×Int×Int×List aQ×(Int×List (Int×aQ)×List (Int×List (Int×aQ))×Bool)×List (Int×List aQ)×Int×(Int×Int×List (Int×List Int×List aQ))×Int×Int×List Int×Int×Int×Int×Int×(Int×Int)×List (Bool×Bool×List Int)×Int×(List aQ×List (Int×aQ)×Int)×Int×(List aQ×List (Int×aQ)×Int)):List (Nat×VR):=kQ i ia p pa q qa x y z u t.1 t.2.1 t.2.2.1 t.2.2.2.1 t.2.2.2.2.1 t.2.2.2.2.2.1 t.2.2.2.2.2.2.1 t.2.2.2.2.2.2.2.1 t.2.2.2.2.2.2.2.2.1 t.2.2.2.2.2.2.2.2.2.1 t.2.2.2.2.2.2.2.2.2.2.1 t.2.2.2.2.2.2.2.2.2.2.2.1 t.2.2.2.2.2.2.2.2.2.2.2.2.1 t.2.2.2.2.2.2.2.2.2.2.2.2.2.1 t.2.2.2.2.2.2.2.2.2.2.2.2.2.2.1 t.2.2.2.2.2.2.2.2.2.2.2.2.2.2.2.1 t.2.2.2.2.2.2.2.2.2.2.2.2.2.2.2.2.1 t.2.2.2.2.2.2.2.2.2.2.2.2.2.2.2.2.2.1 t.2.2.2.2.2.2.2.2.2.2.2.2.2.2.2.2.2.2.1 t.2.2.2.2.2.2.2.2.2.2.2.2.2.2.2.2.2.2.2.1 t.2.2.2.2.2.2.2.2.2.2.2.2.2.2.2.2.2.2.2.2.1 t.2.2.2.2.2.2.2.2.2.2.2.2.2.2.2.2.2.2.2.2.2
instance:fT Tryz.prog:=⟨_,(.c JX (.c uU (.c sC (.c Nv (.c Wp (.c Zb (.c Te (.c Tryz.isAgg253 (.c UK (.c Tryz.isAgg293 (.c G3 (.c tI (.c To (.c Tryz.isAgg318 (.c OU (.c Tryz.isAgg330 (.c Tryz.isAgg361 (.c Tryz.isAgg4 (.c BV (.c TA (.c G5 (.c Tryz.isAgg54 (.c Tryz.isAgg57 (.c TB (.c Nw (.c FC (.c Tryz.isAgg78 (.c Ez (.c OV (.c RL (.c Xb (.c QJ (.c TC (.c Tryz.isAgg97 .n)))))))))))))))))))))))))))))))))),_,(.c Wq (.c lN (.c lF (.c vC (.c Ce (.c jS (.c yV (.c Tryz.sizeOf253 (.c TD (.c Tryz.sizeOf293 (.c S3 (.c kB (.c yD (.c Tryz.sizeOf318 (.c BW (.c Tryz.sizeOf330 (.c OW (.c KA (.c S4 (.c Cw (.c BX (.c S5 (.c QN (.c Tryz.sizeOf57 (.c TE (.c OX (.c Ij (.c Kw (.c Ik (.c TP (.c yW (.c Zc (.c EP (.c Jn (.c OY (.c FD (.c TF (.c KB (.c OZ .n))))))))))))))))))))))))))))))))))))))),_,(.c tJ (.c KC (.c uV (.c QO (.c Kx (.c wI (.c Zd (.c QP (.c Nx (.c wZ (.c Tryz.runUnderlying238 (.c Tryz.runUnderlying247 (.c Pd (.c ER (.c Tryz.runUnderlying28 (.c Tryz.runUnderlying296 (.c U3 (.c Jo (.c QR (.c QS (.c QT (.c Ze (.c Ny (.c Ws (.c OB (.c ES (.c QU (.c BY (.c U5 (.c Tryz.runUnderlying54 (.c TQ (.c Tryz.runUnderlying59 (.c OC (.c UL (.c Fa (.c yE (.c EU (.c RM (.c KX (.c EV (.c vT (.c Tryz.runUnderlying88 (.c KD (.c Jq (.c Tf .n))))))))))))))))))))))))))))))))))))))))))))),ET⟩
theorem mixed:Tryz.prog.follows .mixedOrders=true:=Tryz.checked.mixed
theorem Pf:V0 2 Tryz.prog 30 aO:=V0.arr vS S5 G5 (V0.int Tryz.underlying5)
theorem TI:V0 2 Tryz.prog 293 (Wr.arr 4 (Wr.int .u8)):=V0.arr QQ S5 G5 (V0.int Tryz.underlying5)
theorem BZ:p5 2 Tryz.prog 30 aO:=p5.arr vS S5 G5 (p5.int U5)
theorem OD:∀parts,Tryz.prog.built 33 parts=Instr.fill (([(0,1),(1,8),(9,1),(10,1),(11,1),(12,1)]:List (Nat×Nat)).toArray[·]?) ([.int .i64 0,.int .u8 0,.int .u8 0,.int .u8 0,.int .u8 0,.int .u8 0,.int .u8 0,.int .u8 0,.int .u8 0,.int .i64 0,.int .i64 0,.int .i64 0,.slice none 0 0]:List Value).toArray parts:=cZ Tryz.typeInfo33 Ze rfl rfl (.cons rfl (by kernel_rfl) (by kernel_rfl) (.cons rfl (by kernel_rfl) (by kernel_rfl) (.cons rfl (by kernel_rfl) (by kernel_rfl) (.cons rfl (by kernel_rfl) (by kernel_rfl) (.cons rfl (by kernel_rfl) (by kernel_rfl) (.cons rfl (by kernel_rfl) (by kernel_rfl) .nil))))))
theorem OE:∀parts,Tryz.prog.built 44 parts=Instr.fill (([(0,1),(1,1),(2,1),(3,8)]:List (Nat×Nat)).toArray[·]?) ([.int .i64 0,.int .i64 0,.int .i64 0,.int .u8 0,.int .u8 0,.int .u8 0,.int .u8 0,.int .u8 0,.int .u8 0,.int .u8 0,.int .u8 0]:List Value).toArray parts:=cZ JY ES rfl rfl (.cons rfl (by kernel_rfl) (by kernel_rfl) (.cons rfl (by kernel_rfl) (by kernel_rfl) (.cons rfl (by kernel_rfl) (by kernel_rfl) (.cons rfl (by kernel_rfl) (by kernel_rfl) .nil))))
theorem OF:∀parts,Tryz.prog.built 49 parts=Instr.fill (([(0,1),(1,1)]:List (Nat×Nat)).toArray[·]?) ([.slice none 0 0,.slice none 0 0]:List Value).toArray parts:=cZ Tryz.typeInfo49 BY rfl rfl (.cons rfl (by kernel_rfl) (by kernel_rfl) (.cons rfl (by kernel_rfl) (by kernel_rfl) .nil))
theorem CA:∀parts,Tryz.prog.built 59 parts=Instr.fill (([(0,1)]:List (Nat×Nat)).toArray[·]?) ([.slice none 0 0]:List Value).toArray parts:=cZ Tryz.typeInfo59 Tryz.runUnderlying59 rfl rfl (.cons rfl (by kernel_rfl) (by kernel_rfl) .nil)
theorem Lp:∀parts,Tryz.prog.built 76 parts=Instr.fill (([(0,1),(1,1),(2,1),(3,1)]:List (Nat×Nat)).toArray[·]?) ([.pointer none,.int .i64 0,.int .i64 0,.int .i64 0]:List Value).toArray parts:=cZ Tryz.typeInfo76 Fa rfl rfl (.cons rfl (by kernel_rfl) (by kernel_rfl) (.cons rfl (by kernel_rfl) (by kernel_rfl) (.cons rfl (by kernel_rfl) (by kernel_rfl) (.cons rfl (by kernel_rfl) (by kernel_rfl) .nil))))
theorem yX:∀parts,Tryz.prog.built 80 parts=Instr.fill (([(0,1),(1,1),(2,1),(3,1)]:List (Nat×Nat)).toArray[·]?) ([.int .i64 0,.slice none 0 0,.slice none 0 0,.bool false]:List Value).toArray parts:=cZ Tryz.typeInfo80 RM rfl rfl (.cons rfl (by kernel_rfl) (by kernel_rfl) (.cons rfl (by kernel_rfl) (by kernel_rfl) (.cons rfl (by kernel_rfl) (by kernel_rfl) (.cons rfl (by kernel_rfl) (by kernel_rfl) .nil))))
theorem Ey:∀parts,Tryz.prog.built 84 parts=Instr.fill (([(0,1),(1,1),(2,1)]:List (Nat×Nat)).toArray[·]?) ([.int .i64 0,.int .i64 0,.slice none 0 0]:List Value).toArray parts:=cZ Tryz.typeInfo84 EV rfl rfl (.cons rfl (by kernel_rfl) (by kernel_rfl) (.cons rfl (by kernel_rfl) (by kernel_rfl) (.cons rfl (by kernel_rfl) (by kernel_rfl) .nil)))
theorem CB:∀parts,Tryz.prog.built 86 parts=Instr.fill (([(0,4),(4,1),(5,4),(9,1),(10,1),(11,3),(14,1),(15,1),(16,1)]:List (Nat×Nat)).toArray[·]?) ([.pointer none,.int .i64 0,.int .i64 0,.int .i64 0,.slice none 0 0,.int .i64 0,.slice none 0 0,.slice none 0 0,.bool false,.map none,.int .i64 0,.int .i64 0,.int .i64 0,.slice none 0 0,.int .i64 0,.int .i64 0,.slice none 0 0]:List Value).toArray parts:=cZ Tryz.typeInfo86 vT rfl rfl (.cons rfl (by kernel_rfl) (by kernel_rfl) (.cons rfl (by kernel_rfl) (by kernel_rfl) (.cons rfl (by kernel_rfl) (by kernel_rfl) (.cons rfl (by kernel_rfl) (by kernel_rfl) (.cons rfl (by kernel_rfl) (by kernel_rfl) (.cons rfl (by kernel_rfl) (by kernel_rfl) (.cons rfl (by kernel_rfl) (by kernel_rfl) (.cons rfl (by kernel_rfl) (by kernel_rfl) (.cons rfl (by kernel_rfl) (by kernel_rfl) .nil)))))))))
theorem Lq:∀parts,Tryz.prog.built 88 parts=Instr.fill (([(0,1),(1,1)]:List (Nat×Nat)).toArray[·]?) ([.int .i64 0,.int .i64 0]:List Value).toArray parts:=cZ Tryz.typeInfo88 Tryz.runUnderlying88 rfl rfl (.cons rfl (by kernel_rfl) (by kernel_rfl) (.cons rfl (by kernel_rfl) (by kernel_rfl) .nil))
theorem CC:∀parts,Tryz.prog.built 90 parts=Instr.fill (([(0,4),(4,1),(5,2)]:List (Nat×Nat)).toArray[·]?) ([.pointer none,.int .i64 0,.int .i64 0,.int .i64 0,.int .i64 0,.int .i64 0,.int .i64 0]:List Value).toArray parts:=cZ Tryz.typeInfo90 KD rfl rfl (.cons rfl (by kernel_rfl) (by kernel_rfl) (.cons rfl (by kernel_rfl) (by kernel_rfl) (.cons rfl (by kernel_rfl) (by kernel_rfl) .nil)))
theorem OG:∀parts,Tryz.prog.built 93 parts=Instr.fill (([(0,1),(1,17),(18,7),(25,1)]:List (Nat×Nat)).toArray[·]?) ([.int .i64 0,.pointer none,.int .i64 0,.int .i64 0,.int .i64 0,.slice none 0 0,.int .i64 0,.slice none 0 0,.slice none 0 0,.bool false,.map none,.int .i64 0,.int .i64 0,.int .i64 0,.slice none 0 0,.int .i64 0,.int .i64 0,.slice none 0 0,.pointer none,.int .i64 0,.int .i64 0,.int .i64 0,.int .i64 0,.int .i64 0,.int .i64 0,.slice none 0 0]:List Value).toArray parts:=cZ Tryz.typeInfo93 Tf rfl rfl (.cons rfl (by kernel_rfl) (by kernel_rfl) (.cons rfl (by kernel_rfl) (by kernel_rfl) (.cons rfl (by kernel_rfl) (by kernel_rfl) (.cons rfl (by kernel_rfl) (by kernel_rfl) .nil))))
theorem Wt:∀parts,Tryz.prog.built 135 parts=Instr.fill (([(0,1),(1,1),(2,1)]:List (Nat×Nat)).toArray[·]?) ([.bool false,.bool false,.slice none 0 0]:List Value).toArray parts:=cZ OA KC rfl rfl (.cons rfl (by kernel_rfl) (by kernel_rfl) (.cons rfl (by kernel_rfl) (by kernel_rfl) (.cons rfl (by kernel_rfl) (by kernel_rfl) .nil)))
theorem mB:∀parts,Tryz.prog.built 144 parts=Instr.fill (([(0,1),(1,1),(2,1)]:List (Nat×Nat)).toArray[·]?) ([.int .i64 0,.slice none 0 0,.slice none 0 0]:List Value).toArray parts:=cZ QK uV rfl rfl (.cons rfl (by kernel_rfl) (by kernel_rfl) (.cons rfl (by kernel_rfl) (by kernel_rfl) (.cons rfl (by kernel_rfl) (by kernel_rfl) .nil)))
theorem rI:∀parts,Tryz.prog.built 186 parts=Instr.fill (([(0,1),(1,1),(2,1)]:List (Nat×Nat)).toArray[·]?) ([.slice none 0 0,.slice none 0 0,.int .i64 0]:List Value).toArray parts:=cZ Tryz.typeInfo186 Kx rfl rfl (.cons rfl (by kernel_rfl) (by kernel_rfl) (.cons rfl (by kernel_rfl) (by kernel_rfl) (.cons rfl (by kernel_rfl) (by kernel_rfl) .nil)))
theorem KE:∀parts,Tryz.prog.built 188 parts=Instr.fill (([(0,1),(1,3)]:List (Nat×Nat)).toArray[·]?) ([.int .i64 0,.slice none 0 0,.slice none 0 0,.int .i64 0]:List Value).toArray parts:=cZ Tryz.typeInfo188 wI rfl rfl (.cons rfl (by kernel_rfl) (by kernel_rfl) (.cons rfl (by kernel_rfl) (by kernel_rfl) .nil))
theorem Dp:∀parts,Tryz.prog.built 197 parts=Instr.fill (([(0,1),(1,1)]:List (Nat×Nat)).toArray[·]?) ([.int .i64 0,.slice none 0 0]:List Value).toArray parts:=cZ QL Zd rfl rfl (.cons rfl (by kernel_rfl) (by kernel_rfl) (.cons rfl (by kernel_rfl) (by kernel_rfl) .nil))
theorem Dq:∀parts,Tryz.prog.built 210 parts=Instr.fill (([(0,1),(1,1),(2,1),(3,8)]:List (Nat×Nat)).toArray[·]?) ([.int .i64 0,.int .i64 0,.int .i64 0,.int .u8 0,.int .u8 0,.int .u8 0,.int .u8 0,.int .u8 0,.int .u8 0,.int .u8 0,.int .u8 0]:List Value).toArray parts:=cZ QM QP rfl rfl (.cons rfl (by kernel_rfl) (by kernel_rfl) (.cons rfl (by kernel_rfl) (by kernel_rfl) (.cons rfl (by kernel_rfl) (by kernel_rfl) (.cons rfl (by kernel_rfl) (by kernel_rfl) .nil))))
theorem wA:∀parts,Tryz.prog.built 214 parts=Instr.fill (([(0,1),(1,8)]:List (Nat×Nat)).toArray[·]?) ([.int .i64 0,.int .u8 0,.int .u8 0,.int .u8 0,.int .u8 0,.int .u8 0,.int .u8 0,.int .u8 0,.int .u8 0]:List Value).toArray parts:=cZ Kv Nx rfl rfl (.cons rfl (by kernel_rfl) (by kernel_rfl) (.cons rfl (by kernel_rfl) (by kernel_rfl) .nil))
theorem KF:∀parts,Tryz.prog.built 296 parts=Instr.fill (([(0,1)]:List (Nat×Nat)).toArray[·]?) ([.slice none 0 0]:List Value).toArray parts:=cZ Tryz.typeInfo296 Tryz.runUnderlying296 rfl rfl (.cons rfl (by kernel_rfl) (by kernel_rfl) .nil)
theorem KG:∀parts,Tryz.prog.built 322 parts=Instr.fill (([]:List (Nat×Nat)).toArray[·]?) ([]:List Value).toArray parts:=cZ Tryz.typeInfo322 Tryz.runUnderlying322 rfl rfl .nil
theorem KH:∀parts,Tryz.prog.built 324 parts=Instr.fill (([(0,1)]:List (Nat×Nat)).toArray[·]?) ([.pointer none]:List Value).toArray parts:=cZ Tryz.typeInfo324 QR rfl rfl (.cons rfl (by kernel_rfl) (by kernel_rfl) .nil)
theorem KI:∀parts,Tryz.prog.built 326 parts=Instr.fill (([(0,1)]:List (Nat×Nat)).toArray[·]?) ([.slice none 0 0]:List Value).toArray parts:=cZ Tryz.typeInfo326 QS rfl rfl (.cons rfl (by kernel_rfl) (by kernel_rfl) .nil)
theorem KJ:∀parts,Tryz.prog.built 327 parts=Instr.fill (([]:List (Nat×Nat)).toArray[·]?) ([]:List Value).toArray parts:=cZ Tryz.typeInfo327 Tryz.runUnderlying327 rfl rfl .nil
theorem KK:∀parts,Tryz.prog.built 363 parts=Instr.fill (([(0,1),(1,1)]:List (Nat×Nat)).toArray[·]?) ([.slice none 0 0,.map none]:List Value).toArray parts:=cZ Tryz.typeInfo363 OB rfl rfl (.cons rfl (by kernel_rfl) (by kernel_rfl) (.cons rfl (by kernel_rfl) (by kernel_rfl) .nil))
section aJ2
open Go.RowKit Go.Extern.Stop Go.Stop Go.Extern
theorem QX(t:Value)(w:World):Calls Tryz.prog 73 #[.nilIface,t] w fun e w'=>e= .returned (.bool false)/\w'=w:=by
 go_enter Tryz.func73,Tryz.ntmps73
 go_wp2
 go_ret
 exact⟨Y,Y⟩
theorem Wu(t:Addr)(w:World):(ReflectliteValue.unpack (.iface 183 (.pointer (some t)))).run Tryz.prog w
  = .ok (.agg #[.pointer (some ⟨9,183,none⟩),.pointer (some ⟨w.heap.size,0,none⟩),.int .u64 150]) (w.alloc (.cells #[.pointer (some t)] 183)):=by kernel_rfl
theorem KL(a:Addr)(w:World):(ReflectliteValue.methodAny (ReflectliteValue.valueError "reflectlite.Value.Type" 0) (fun t _ _ _=>ReflectliteType.toType t) #[.agg #[.pointer (some ⟨9,183,none⟩),.pointer (some a),.int .u64 150]]).run Tryz.prog w
  = .ok (.iface 281 (.agg #[.pointer (some ⟨9,183,none⟩)])) w:=by kernel_rfl
theorem Pg(h:Value)(w:World):(Go.method 543 281 (.agg #[h]) "Kind").run Tryz.prog w= .ok (290,h) w:=by kernel_rfl
theorem KM(w:World):((ReflectliteType.abiMethod fun t=>(fun a:Nat=>Value.int IntKind.u8 (a:Int)) <$> Rtype.kind t) #[.pointer (some ⟨9,183,none⟩)]).run Tryz.prog w= .ok (.int .u8 22) w:=by kernel_rfl
theorem KN(w:World):((ReflectliteType.abiMethod fun t=>(fun a:Nat=>Value.int IntKind.u8 (a:Int)) <$> Rtype.kind t) #[.pointer (some ⟨9,28,none⟩)]).run Tryz.prog w= .ok (.int .u8 2) w:=by kernel_rfl
theorem KO(z:Sem Value)(f:TypeId->Addr->Nat->Nat->Sem Value)(v:Value):
  ReflectliteValue.method z f #[v]=(do match<-ReflectliteValue.parts v with | none=>z | some (t,a,fl)=>f t a fl (fl % 32)):=rfl
theorem Rf(a:Addr)(w:World):(ReflectliteValue.parts (.agg #[.pointer (some ⟨9,183,none⟩),.pointer (some a),.int .u64 150])).run Tryz.prog w= .ok (some (183,a,150)) w:=by kernel_rfl
theorem EY(a p:Addr)(W:World)(ha:W.cell? a=some (.pointer (some p))):
  (ReflectliteValue.method (ReflectliteValue.valueError "reflectlite.Value.IsNil" 0) ReflectliteValue.isNil #[.agg #[.pointer (some ⟨9,183,none⟩),.pointer (some a),.int .u64 150]]).run Tryz.prog W= .ok (.bool false) W:=by
 rw[KO];simp only[Sem.run_bind,Rf,Result.andThen];simp[ReflectliteValue.isNil,loadVar,isAgg,underlying,Tryz.underlying183,ha,Result.andThen]
theorem Ph(h:Value)(w:World):(Go.method 543 281 (.agg #[h]) "Elem").run Tryz.prog w= .ok (301,.agg #[h]) w:=by kernel_rfl
theorem Fc(h:Value)(w:World):(Go.method 543 281 (.agg #[h]) "Implements").run Tryz.prog w= .ok (302,.agg #[h]) w:=by kernel_rfl
theorem Cg(h:Value)(w:World):(Go.method 543 281 (.agg #[h]) "AssignableTo").run Tryz.prog w= .ok (299,.agg #[h]) w:=by kernel_rfl
theorem KP(w:World):(ReflectliteType.method ReflectliteType.elem #[.agg #[.pointer (some ⟨9,183,none⟩)]]).run Tryz.prog w= .ok (.iface 281 (.agg #[.pointer (some ⟨9,28,none⟩)])) w:=by kernel_rfl
theorem Oa(w:World):(ReflectliteType.relation "Implements" ReflectliteType.implements_ #[.agg #[.pointer (some ⟨9,28,none⟩)],.iface 281 (.agg #[.pointer (some ⟨9,35,none⟩)])]).run Tryz.prog w= .ok (.bool true) w:=by kernel_rfl
theorem Zf(v:Value)(w:World):(ReflectliteType.typeOf #[.iface 28 v]).run Tryz.prog w= .ok (.iface 281 (.agg #[.pointer (some ⟨9,28,none⟩)])) w:=by kernel_rfl
theorem Ob(w:World):(ReflectliteType.relation "AssignableTo" ReflectliteType.assignableTo #[.agg #[.pointer (some ⟨9,28,none⟩)],.iface 281 (.agg #[.pointer (some ⟨9,28,none⟩)])]).run Tryz.prog w= .ok (.bool true) w:=by kernel_rfl
theorem Wv(n:Int)(w:World):(ReflectliteValue.unpack (.iface 28 (.int .i64 n))).run Tryz.prog w
  = .ok (.agg #[.pointer (some ⟨9,28,none⟩),.pointer (some ⟨w.heap.size,0,none⟩),.int .u64 130]) (w.alloc (.cells #[.int .i64 n] 28)):=by kernel_rfl
theorem Zg(w:World):(Rtype.elem? 183).run Tryz.prog w= .ok (some 28) w:=by kernel_rfl
theorem QY(p:Addr)(w:World):(ReflectliteValue.mk 28 p ReflectliteValue.flagAddr).run Tryz.prog w= .ok (.agg #[.pointer (some ⟨9,28,none⟩),.pointer (some p),.int .u64 386]) w:=by kernel_rfl
theorem EZ(a p:Addr)(W:World)(ha:W.cell? a=some (.pointer (some p))):
  (ReflectliteValue.method (ReflectliteValue.valueError "reflectlite.Value.Elem" 0) ReflectliteValue.elem #[.agg #[.pointer (some ⟨9,183,none⟩),.pointer (some a),.int .u64 150]]).run Tryz.prog W
   = .ok (.agg #[.pointer (some ⟨9,28,none⟩),.pointer (some p),.int .u64 386]) W:=by
 rw[KO];simp only[Sem.run_bind,Rf,Result.andThen];simp[ReflectliteValue.elem,loadVar,isAgg,underlying,Tryz.underlying183,ha,Result.andThen,Zg,QY]
theorem QZ(v x:Value):ReflectliteValue.set #[v,x]=(do
  let (some (dst,a,fl),some (src,b,_)):=(<-ReflectliteValue.parts v,<-ReflectliteValue.parts x)
   |unsupported (.noEntry "extern/(internal/reflectlite.Value).Set.zeroValue")
  if fl / ReflectliteValue.flagAddr % 2==0 then unsupported (.noEntry "extern/(internal/reflectlite.Value).Set.unaddressable")
  let val<-loadVar src b
  if<-Rtype.directlyAssignable dst src then storeVar dst a val
  else if<-Rtype.implements dst src then
   if (<-Rtype.kind src)==20 then
    match val with
    | .nilIface=>unsupported (.noEntry "extern/reflectlite: a nil value of one interface type handed on as a value of another")
    |_=>storeVar dst a val
   else storeVar dst a (.iface src val)
  else panicString ("reflectlite.Set: value of type "++(<-Rtype.spelt src)++ " is not assignable to type "++(<-Rtype.spelt dst))
  pure (.tuple #[])):=rfl
theorem Zh(a:Addr)(w:World):(ReflectliteValue.parts (.agg #[.pointer (some ⟨9,28,none⟩),.pointer (some a),.int .u64 386])).run Tryz.prog w= .ok (some (28,a,386)) w:=by kernel_rfl
theorem FA(a:Addr)(w:World):(ReflectliteValue.parts (.agg #[.pointer (some ⟨9,28,none⟩),.pointer (some a),.int .u64 130])).run Tryz.prog w= .ok (some (28,a,130)) w:=by kernel_rfl
theorem Zi(w:World):(Rtype.directlyAssignable 28 28).run Tryz.prog w= .ok true w:=by kernel_rfl
theorem OH(ta b:Addr)(n:Int)(di:Value)(W:World)(hb:W.cell? b=some (.int .i64 n))(ht:W.cell? ta=some di)(hf:W.frozen? ta=false):
  (ReflectliteValue.set #[.agg #[.pointer (some ⟨9,28,none⟩),.pointer (some ta),.int .u64 386],.agg #[.pointer (some ⟨9,28,none⟩),.pointer (some b),.int .u64 130]]).run Tryz.prog W
   = .ok (.tuple #[]) (W.setCell ta (.int .i64 n)):=by
 rw[QZ];simp only[Sem.run_bind,Zh,FA,Result.andThen];simp[ReflectliteValue.flagAddr,loadVar,isAgg,underlying,Tryz.underlying28,hb,Result.andThen,Zi,storeVar,Value.cells,storeCells,Addr.add];rw[run_store Tryz.prog W ta _ _ (by rfl)];simp[ht,hf]
set_option maxHeartbeats 4000000 in
theorem RA(n:Int)(t:Addr)(di:Value)(w:World)(hg:w.cell? ⟨0,0,none⟩=some (.iface 281 (.agg #[.pointer (some ⟨9,35,none⟩)])))(ht0:w.cell? t=some di)(hf0:w.frozen? t=false):
  Calls Tryz.prog 73 #[.iface 28 (.int .i64 n),.iface 183 (.pointer (some t))] w fun ev w'=>ev= .returned (.bool true)/\w'=((((w.alloc (.cells #[.pointer (some t)] 183)).alloc (.cells #[.pointer (some ⟨9,183,none⟩),.pointer (some ⟨w.heap.size,0,none⟩),.int .u64 150] 225)).alloc (.cells #[.pointer (some ⟨9,183,none⟩),.pointer (some ⟨w.heap.size,0,none⟩),.int .u64 150] 225)).alloc (.cells #[.int .i64 n] 28)).setCell t (.int .i64 n):=by
 have C:= @run_callFunc_extern Tryz.prog 122 _ (fun A=>ReflectliteValue.unpack (A.getD 0 (.tuple #[]))) Tryz.func122 (by kernel_rfl) (by kernel_rfl) (by kernel_rfl) (by kernel_rfl);have D:= @run_callFunc_extern Tryz.prog 123 _ (ReflectliteValue.methodAny (ReflectliteValue.valueError "reflectlite.Value.Type" 0) (fun t _ _ _=>ReflectliteType.toType t)) Tryz.func123 (by kernel_rfl) (by kernel_rfl) (by kernel_rfl) (by kernel_rfl);have E:= @run_callFunc_extern Tryz.prog 124 _ (ReflectliteValue.method (ReflectliteValue.valueError "reflectlite.Value.IsNil" 0) ReflectliteValue.isNil) Tryz.func124 (by kernel_rfl) (by kernel_rfl) (by kernel_rfl) (by kernel_rfl);have F:= @run_callFunc_extern Tryz.prog 290 _ (ReflectliteType.abiMethod fun t=>do pure (.int .u8 (<-Rtype.kind t))) Tryz.func290 (by kernel_rfl) (by kernel_rfl) (by kernel_rfl) (by kernel_rfl);have G:= @run_callFunc_extern Tryz.prog 301 _ (ReflectliteType.method ReflectliteType.elem) Tryz.func301 (by kernel_rfl) (by kernel_rfl) (by kernel_rfl) (by kernel_rfl);have H:= @run_callFunc_extern Tryz.prog 302 _ (ReflectliteType.relation "Implements" ReflectliteType.implements_) Tryz.func302 (by kernel_rfl) (by kernel_rfl) (by kernel_rfl) (by kernel_rfl);have I:= @run_callFunc_extern Tryz.prog 169 _ ReflectliteType.typeOf Tryz.func169 (by kernel_rfl) (by kernel_rfl) (by kernel_rfl) (by kernel_rfl);have K:= @run_callFunc_extern Tryz.prog 299 _ (ReflectliteType.relation "AssignableTo" ReflectliteType.assignableTo) Tryz.func299 (by kernel_rfl) (by kernel_rfl) (by kernel_rfl) (by kernel_rfl);have L:= @run_callFunc_extern Tryz.prog 170 _ (ReflectliteValue.method (ReflectliteValue.valueError "reflectlite.Value.Elem" 0) ReflectliteValue.elem) Tryz.func170 (by kernel_rfl) (by kernel_rfl) (by kernel_rfl) (by kernel_rfl);have M:= @run_callFunc_extern Tryz.prog 171 _ ReflectliteValue.set Tryz.func171 (by kernel_rfl) (by kernel_rfl) (by kernel_rfl) (by kernel_rfl);have N:=Zf;have O:=Cg;have P:=Ob;have Q:=Wv;have R:=Wu;have S:=KL;have T:=Pg;have U:=Ph;have V:=Fc;have X:=KM;have aa:=KN;have ab:=KP;have ac:=Oa;have n8:=EY ⟨w.heap.size,0,none⟩ t ((w.alloc (.cells #[.pointer (some t)] 183)).alloc (.cells #[.pointer (some ⟨9,183,none⟩),.pointer (some ⟨w.heap.size,0,none⟩),.int .u64 150] 225)) (by simp);have z:0<w.heap.size:=by
  rcases aEh w.heap.size with B | h
  ·simp[World.cell?,B] at hg
  ·exact h
 have ad:((w.alloc (.cells #[.pointer (some t)] 183)).alloc (.cells #[.pointer (some ⟨9,183,none⟩),.pointer (some ⟨w.heap.size,0,none⟩),.int .u64 150] 225)).cell? ⟨0,0,none⟩=some (.iface 281 (.agg #[.pointer (some ⟨9,35,none⟩)])):=by
  rw[World.cell?_alloc_lt _ _ ⟨0,0,none⟩ (by simp),World.cell?_alloc_lt _ _ ⟨0,0,none⟩ z];exact hg
 have u:t.block<w.heap.size:=by
  rcases L7 t.block w.heap.size with h | h
  ·exact h
  ·simp[World.cell?,zn h] at ht0
 have el:=EZ ⟨w.heap.size,0,none⟩ t (((w.alloc (.cells #[.pointer (some t)] 183)).alloc (.cells #[.pointer (some ⟨9,183,none⟩),.pointer (some ⟨w.heap.size,0,none⟩),.int .u64 150] 225)).alloc (.cells #[.pointer (some ⟨9,183,none⟩),.pointer (some ⟨w.heap.size,0,none⟩),.int .u64 150] 225)) (by rw[World.cell?_alloc_lt _ _ ⟨w.heap.size,0,none⟩ (by simp;omega)];simp);have st:=OH t ⟨w.heap.size+1+1+1,0,none⟩ n di ((((w.alloc (.cells #[.pointer (some t)] 183)).alloc (.cells #[.pointer (some ⟨9,183,none⟩),.pointer (some ⟨w.heap.size,0,none⟩),.int .u64 150] 225)).alloc (.cells #[.pointer (some ⟨9,183,none⟩),.pointer (some ⟨w.heap.size,0,none⟩),.int .u64 150] 225)).alloc (.cells #[.int .i64 n] 28))
  (by rw[World.cell?_alloc_at _ _ _ _ (by simp)];rfl)
  (by rw[World.cell?_alloc_lt _ _ t (by simp;omega),World.cell?_alloc_lt _ _ t (by simp;omega),World.cell?_alloc_lt _ _ t (by simp;omega),World.cell?_alloc_lt _ _ t u];exact ht0)
  (by rw[World.frozen?_alloc_old _ _ t (by simp;omega),World.frozen?_alloc_old _ _ t (by simp;omega),World.frozen?_alloc_old _ _ t (by simp;omega),World.frozen?_alloc_old _ _ t (Nat.ne_of_lt u)];exact hf0)
 go_enter Tryz.func73,Tryz.ntmps73
 go_wp2
 refine wp_loop_rounds 1 ?_;rw[rounds_succ]
 go_wp2
 go_ret
 exact⟨Y,Y⟩
end aJ2
def GV:Value:= .iface 281 (.agg #[.pointer (some ⟨9,35,none⟩)])
variable {gobj:Obj}
theorem OI(n:Int)(t:Addr)(di:Value)(w:World)(hg:w.cell? ⟨0,0,none⟩=some GV)(ht0:w.cell? t=some di)(hf0:w.frozen? t=false):
  Calls Tryz.prog 73 #[.iface 28 (.int .i64 n),.iface 183 (.pointer (some t))] w fun ev w'=>ev= .returned (.bool true)/\∃o1 o2 o3 o4,w'=((((w.alloc o1).alloc o2).alloc o3).alloc o4).setCell t (.int .i64 n):=
 (RA n t di w hg ht0 hf0).mono fun _ _ h=>⟨h.1,_,_,_,_,h.2⟩
theorem xA{a0 a1 r}(h:lR a0 a1=some r):
 WC Tryz.prog 10 [.v Q0 a0,.v Q0 a1] (.v Q0 r) []:=by
 refine WC.of Tryz.func10 Y Tryz.ntmps10 Y ?_;intro S w A;unfold lR at h;refine aL [0,1] ?_;refine cT [0,1,6] ?_;obtain⟨B,C,h⟩:=eZ h;refine sR (fun z:Int=>⟨[(0,.v Q0 z),(1,.v Q0 a1)],[]⟩) (fun x=>B x=some r) Y ?_ ?_ ?_
 ·intro z h;rw[C] at h;obtain⟨E,D,h⟩:=aA h;refine aJ (.a 2 ?_);refine .k (kM (.inr Y) (Ed D) Y Y) (.f [4] ?_);cases h;exact aH (aW A dR Y (RV.tmp Y) .nil Y)
 ·intro u;replace h:=iG u h;refine eQ (.a 2 ?_);refine .k (Xd Y) (.f [0,1] ?_);exact bY h (aC [])
 ·intro u;replace h:=iH u h;refine aF ?_;exact bY h (aC [])
theorem Dr{a0 a1 r}(h:tT a0 a1=some r):
 WC Tryz.prog 25 [.v mG a0,.v Q0 a1] (.v Q0 r) []:=by
 refine WC.of Tryz.func25 Y Tryz.ntmps25 Y ?_;intro S w u;unfold tT at h;refine aL [0,1] ?_;refine cT [0,1,7] ?_;refine aU h Y (fun z h=>?_) (fun z h=>?_)
 ·refine aL [4] ?_;cases h;exact aH (aW u dR Y (RV.tmp Y) .nil Y)
 refine aF ?_;refine aG ?_;obtain⟨E,A,h⟩:=aA h;obtain⟨F,B,h⟩:=aA h;obtain⟨G,C,h⟩:=aA h;obtain⟨H,D,h⟩:=aA h;refine dY 15 mixed (by exact(.k (aD Y) (.k (aD Y) (.k (aD Y) (.k (tG Y wZ) (.k (kM (.inr Y) (Ed A) Y Y) (.k (pH B Y Y wZ S3) (.k (cE Y G3 S3) (.k (aM (xA C) TN (.cons (.dir Y) (.cons (.dir Y) .nil))) (.k (aD Y) (.k (aD Y) (.k (tG Y wZ) (.k (kM (.inl Y) (Ed D) Y Y) (.k (cU Y Y Y) (.k (cU Y Y Y) (.k (bO Y) .nil)))))))))))))))) (by exact(J.kp [4] [])) ?_;cases h;exact aH (aW u dR Y (RV.tmp Y) .nil Y)
theorem yY{a0 a1 r}(h:kN a0 a1=some r):
 WC Tryz.prog 26 [.v mG a0,.v Q0 a1] (.v aO r) []:=by
 refine WC.of Tryz.func26 Y Tryz.ntmps26 Y ?_;intro S w B;unfold kN at h;refine aJ (.k (aN 101 Aq Y (.cons (Z.arr 8 (Z.int .u8)) .nil) Y) (.f [0,1,4] ?_));refine aJ (.k (dD (e:=aO) (v:=aS) Br vS I5 Y Y (Z.arr 8 (Z.int .u8))) (.k (aN 102 Aq Y (.cons (Z.arr 8 (Z.int .u8)) .nil) Y) (.f [0,1,4,5] ?_)));obtain⟨Q,I,h⟩:=aA h;refine aJ (.a 2 ?_);refine .k (aM (Dr I) Tryz.call25 (.cons (.dir Y) (.cons (.dir Y) .nil))) (.f [0,1,4,5,6] ?_);refine jJ (.a 1 ?_);refine .k (kM (.inr Y) (by decide) Y Y) (.f [0,1,4,5,6,14] ?_);refine aU h Y (fun G h=>?_) (fun G h=>?_)
 ·refine aL [4] ?_;refine aH ?_;obtain rfl:=pT h;exact cB (σ':=⟨[(4,.ptr 90 0)],[(90,.box 30 [.v aO aS])]⟩) (aC [(90,101)]) (aW B dR Y (cK Y Y Y tI kB) .nil Y)
 refine aF ?_;obtain⟨R,D,h⟩:=aA h;refine aJ (.a 1 ?_);refine .k (kM (.inl Y) (by decide) Y Y) (.k (kM (.inr Y) (by decide) Y Y) ?_);refine .a 2 ?_;refine .k (rL D Y Y Y Y vS S5) (.t (De (dG D).2.2 Y Y Y Y S5) (.f [0,1,4,5,6] ?_));refine jJ (.a 1 ?_);refine .k (kM (.inr Y) (by decide) Y Y) (.f [0,1,4,5,24] ?_);obtain⟨K,L,h⟩:=eZ h;refine sR (fun u:aQ=>⟨[(4,.ptr 101 0),(5,.ptr 102 0)],[(101,.box 30 [.v aO aS]),(102,.box 30 [.v aO u])]⟩) (fun x=>K x=some r) Y ?_ ?_ ?_
 ·intro u h;rw[L] at h;refine aL [4] ?_;refine aH ?_;obtain rfl:=pT h;exact cB (σ':=⟨[(4,.ptr 90 0)],[(90,.box 30 [.v aO u])]⟩) (aC [(90,101)]) (aW B dR Y (cK Y Y Y tI kB) .nil Y)
 ·intro z;replace h:=iG z h;refine aL [0,1,4,5,7] ?_;obtain⟨T,M,N,U⟩:=cL h;refine jP (σs:=fun A:Int×aQ=>⟨[(0,.v mG a0),(1,.v Q0 a1),(4,.ptr 101 0),(5,.ptr 102 0),(7,.v Q0 A.1)],[(101,.box 30 [.v aO aS]),(102,.box 30 [.v aO A.2])]⟩) (fun C:aQ=>⟨[(4,.ptr 101 0),(5,.ptr 102 0)],[(101,.box 30 [.v aO aS]),(102,.box 30 [.v aO C])]⟩) M (aC []) ?_ ?_
  ·intro C F;have h:=N _ F;exact bY h (aC [])
  intro A P h;refine cT [0,1,4,5,7,26] ?_;refine aU h Y (fun H h=>?_) (fun H h=>?_)
  ·refine aF ?_;refine aG ?_;refine bR ?_;obtain⟨V,O,h⟩:=aA h;obtain⟨X,E,h⟩:=aA h;refine eQ (.a 5 ?_);refine .k (aM (Dr O) Tryz.call25 (.cons (.dir Y) (.cons (.dir Y) .nil))) (.k (kM (.inl Y) (by decide) Y Y) ?_);refine .a 1 ?_;refine .k (rL E Y Y Y Y vS S5) (.t (De (dG E).2.2 Y Y Y Y S5) (.f [0,1,4,5,7] ?_));refine aZ ?_;refine dP [0,1,4,5,7] ?_;cases h;exact cF (aC [])
  cases h;exact dB (dJ (aC []))
 ·intro z;replace h:=iH z h;refine aF ?_;exact bY h (aC [])
theorem Gp{a0 a1 a2 a3 r}(h:lJ a0 a1 a2 a3=some r):
 WC Tryz.prog 12 [.v mG a0,.v Q0 a1,.v Q0 a2,.v Q0 a3] (.v (Wr.sl Q4) r) []:=by
 refine WC.of Tryz.func12 Y Tryz.ntmps12 Y ?_;intro S w L;unfold lJ at h;refine aJ (.k (aR 101 44 Q4) (.f [0,1,2,3] ?_));refine aJ (.k (aR 102 44 Q4) (.f [0,1,2,3,9] ?_));refine cT [0,1,2,3,9,10] ?_;obtain⟨bh,ai,am,bi⟩:=cL h;refine jP (σs:=fun z:Int×(List (Int×Int×Int×aQ))=>⟨[(0,.v mG a0),(1,.v Q0 a1),(2,.v Q0 a2),(3,.v Q0 a3),(9,.ref 134),(10,.v Q0 z.1)],[(134,.arr 44 Q4 z.2)]⟩) (fun F:(List (Int×Int×Int×aQ))=>⟨[(9,.ref 134)],[(134,.arr 44 Q4 F)]⟩) ai (aC [(134,102)]) ?_ ?_
 ·intro F M;have h:=am _ M;refine aL [8] ?_;cases h;exact aH (vW L dR Y (aC []))
 intro z A h;refine cT [0,1,2,3,9,10,15] ?_;refine aU h Y (fun N h=>?_) (fun N h=>?_)
 ·refine aF ?_;refine aG ?_;refine bR ?_;obtain⟨u,an,h⟩:=aA h;refine aJ (.a 4 ?_);refine .k (aM (Dr an) Tryz.call25 (.cons (.dir Y) (.cons (.dir Y) .nil))) (.f [0,1,2,3,9,10,11] ?_);obtain⟨bj,ap,h⟩:=aA h;refine aJ (.a 1 ?_);refine .k (kM (.inl Y) (by decide) Y Y) ?_;refine .a 1 ?_;refine .k (kM (.inr Y) (Ed ap) Y Y) ?_;refine .a 1 ?_;refine .k (kM (.inl Y) (by decide) Y Y) (.k (kM (.inr Y) (by decide) Y Y) (.k (bQ OE (.cons (Z.int .i64) (.cons (Z.int .i64) (.cons (Z.int .i64) (.cons (Z.arr 8 (Z.int .u8)) .nil)))) (.cons Y (.dir Y) Y Y Y Y (.cons Y (.dir Y) Y Y Y Y .nil))) (.k (aN 150 EX Y (.cons (Z.int .i64) (.cons (Z.int .i64) (.cons (Z.int .i64) (.cons (Z.arr 8 (Z.int .u8)) .nil)))) Y) (.f [0,1,2,3,9,10,11,12] ?_))));refine jJ (.a 1 ?_);refine .k (kM (.inr Y) (by decide) Y Y) (.f [0,1,2,3,9,10,11,12,32] ?_);refine bR ?_;refine cT [0,1,2,3,9,10,11,12,32,38] ?_;obtain⟨iy,av,h⟩:=eZ h;refine sR (fun G:Bool=>⟨[(0,.v mG a0),(1,.v Q0 a1),(2,.v Q0 a2),(3,.v Q0 a3),(9,.ref 134),(10,.v Q0 z.1),(11,.v Q0 u),(12,.ptr 150 0),(32,.v Q0 (ar .rem .i64 u (20:Int))),(38,.v Wr.bool G)],[(134,.arr 44 Q4 z.2),(150,.box 44 [.v Q0 (0:Int),.v Q0 (ar .rem .i64 (ar .quo .i64 u (40:Int)) a3),.v Q0 (ar .rem .i64 (ar .quo .i64 u (7:Int)) (90:Int)),.v aO aS])]⟩) (fun x=>iy x=some A) Y ?_ ?_ ?_
  ·intro G h;rw[av] at h;refine aU h Y (fun O h=>?_) (fun O h=>?_)
   ·refine aL [0,1,2,3,9,10,12] ?_;obtain⟨bk,ax,h⟩:=aA h;refine eQ (.a 5 ?_);refine .k (aM (yY ax) Tryz.call26 (.cons (.dir Y) (.cons (.dir Y) .nil))) (.f [0,1,2,3,9,10,12] ?_);refine aZ ?_;obtain⟨bl,ay,h⟩:=aA h;refine eQ (.a 1 ?_);refine .k (aT Y Y (.VL sO (.VL sO (.VL sO sO))) BV Cw) (.k (dI (e:=Q4) Pd Cw EX Y Y Y Y (.cons (.dir Y) .nil)) (.t (bT 152 ay Y Y (.sl Y) Pd JY Cw Y Y Y Y Y) (.f [0,1,2,3,9,10] ?_)));refine aZ ?_;refine dP [0,1,2,3,9,10] ?_;cases h;exact cF (aC [(134,152)])
   refine aL [0,1,2,3,9,10,11,12,32,52] ?_;refine aU h Y (fun P h=>?_) (fun P h=>?_)
   ·refine dP [0,1,2,3,9,10,12] ?_;refine aZ ?_;obtain⟨bq,a4,h⟩:=aA h;refine eQ (.a 1 ?_);refine .k (aT Y Y (.VL sO (.VL sO (.VL sO sO))) BV Cw) (.k (dI (e:=Q4) Pd Cw EX Y Y Y Y (.cons (.dir Y) .nil)) (.t (bT 153 a4 Y Y (.sl Y) Pd JY Cw Y Y Y Y Y) (.f [0,1,2,3,9,10] ?_)));refine aZ ?_;refine dP [0,1,2,3,9,10] ?_;cases h;exact cF (aC [(134,153)])
   refine aL [0,1,2,3,9,10,11,12,32,55] ?_;refine aU h Y (fun Q h=>?_) (fun Q h=>?_)
   ·refine dP [0,1,2,3,9,10,12] ?_;refine aZ ?_;obtain⟨br,a5,h⟩:=aA h;refine eQ (.a 1 ?_);refine .k (aT Y Y (.VL sO (.VL sO (.VL sO sO))) BV Cw) (.k (dI (e:=Q4) Pd Cw EX Y Y Y Y (.cons (.dir Y) .nil)) (.t (bT 154 a5 Y Y (.sl Y) Pd JY Cw Y Y Y Y Y) (.f [0,1,2,3,9,10] ?_)));refine aZ ?_;refine dP [0,1,2,3,9,10] ?_;cases h;exact cF (aC [(134,154)])
   refine cT [0,1,2,3,9,10,11,12,32,58] ?_;obtain⟨rr,a6,h⟩:=eZ h;refine sR (fun H:Bool=>⟨[(0,.v mG a0),(1,.v Q0 a1),(2,.v Q0 a2),(3,.v Q0 a3),(9,.ref 134),(10,.v Q0 z.1),(11,.v Q0 u),(12,.ptr 150 0),(32,.v Q0 (ar .rem .i64 u (20:Int))),(58,.v Wr.bool H)],[(134,.arr 44 Q4 z.2),(150,.box 44 [.v Q0 (0:Int),.v Q0 (ar .rem .i64 (ar .quo .i64 u (40:Int)) a3),.v Q0 (ar .rem .i64 (ar .quo .i64 u (7:Int)) (90:Int)),.v aO aS])]⟩) (fun x=>rr x=some A) Y ?_ ?_ ?_
   ·intro H h;rw[a6] at h;refine aU h Y (fun R h=>?_) (fun R h=>?_)
    ·refine dP [0,1,2,3,9,10,12] ?_;refine aZ ?_;obtain⟨bs,a7,h⟩:=aA h;refine eQ (.a 1 ?_);refine .k (aT Y Y (.VL sO (.VL sO (.VL sO sO))) BV Cw) (.k (dI (e:=Q4) Pd Cw EX Y Y Y Y (.cons (.dir Y) .nil)) (.t (bT 155 a7 Y Y (.sl Y) Pd JY Cw Y Y Y Y Y) (.f [0,1,2,3,9,10] ?_)));refine aZ ?_;refine dP [0,1,2,3,9,10] ?_;cases h;exact cF (aC [(134,155)])
    refine cT [0,1,2,3,9,10,11,12,32,63] ?_;obtain⟨rq,a8,h⟩:=eZ h;refine sR (fun I:Bool=>⟨[(0,.v mG a0),(1,.v Q0 a1),(2,.v Q0 a2),(3,.v Q0 a3),(9,.ref 134),(10,.v Q0 z.1),(11,.v Q0 u),(12,.ptr 150 0),(32,.v Q0 (ar .rem .i64 u (20:Int))),(63,.v Wr.bool I)],[(134,.arr 44 Q4 z.2),(150,.box 44 [.v Q0 (0:Int),.v Q0 (ar .rem .i64 (ar .quo .i64 u (40:Int)) a3),.v Q0 (ar .rem .i64 (ar .quo .i64 u (7:Int)) (90:Int)),.v aO aS])]⟩) (fun x=>rq x=some A) Y ?_ ?_ ?_
    ·intro I h;rw[a8] at h;refine aU h Y (fun T h=>?_) (fun T h=>?_)
     ·refine dP [0,1,2,3,9,10,12] ?_;refine aZ ?_;obtain⟨bt,a9,h⟩:=aA h;refine eQ (.a 1 ?_);refine .k (aT Y Y (.VL sO (.VL sO (.VL sO sO))) BV Cw) (.k (dI (e:=Q4) Pd Cw EX Y Y Y Y (.cons (.dir Y) .nil)) (.t (bT 156 a9 Y Y (.sl Y) Pd JY Cw Y Y Y Y Y) (.f [0,1,2,3,9,10] ?_)));refine aZ ?_;refine dP [0,1,2,3,9,10] ?_;cases h;exact cF (aC [(134,156)])
     refine cT [0,1,2,3,9,10,11,12,32,68] ?_;obtain⟨rp,ba,h⟩:=eZ h;refine sR (fun K:Bool=>⟨[(0,.v mG a0),(1,.v Q0 a1),(2,.v Q0 a2),(3,.v Q0 a3),(9,.ref 134),(10,.v Q0 z.1),(11,.v Q0 u),(12,.ptr 150 0),(32,.v Q0 (ar .rem .i64 u (20:Int))),(68,.v Wr.bool K)],[(134,.arr 44 Q4 z.2),(150,.box 44 [.v Q0 (0:Int),.v Q0 (ar .rem .i64 (ar .quo .i64 u (40:Int)) a3),.v Q0 (ar .rem .i64 (ar .quo .i64 u (7:Int)) (90:Int)),.v aO aS])]⟩) (fun x=>rp x=some A) Y ?_ ?_ ?_
     ·intro K h;rw[ba] at h;refine aU h Y (fun U h=>?_) (fun U h=>?_)
      ·refine aL [0,1,2,3,9,10,11,12] ?_;refine eQ (.a 1 ?_);refine .k (kM (.inl Y) (by decide) Y Y) (.k (kM (.inr Y) (by decide) Y Y) (.f [0,1,2,3,9,10,12] ?_));refine aZ ?_;obtain⟨bu,bb,h⟩:=aA h;refine eQ (.a 1 ?_);refine .k (aT Y Y (.VL sO (.VL sO (.VL sO sO))) BV Cw) (.k (dI (e:=Q4) Pd Cw EX Y Y Y Y (.cons (.dir Y) .nil)) (.t (bT 157 bb Y Y (.sl Y) Pd JY Cw Y Y Y Y Y) (.f [0,1,2,3,9,10] ?_)));refine aZ ?_;refine dP [0,1,2,3,9,10] ?_;cases h;exact cF (aC [(134,157)])
      refine aL [0,1,2,3,9,10,11,12,32,77] ?_;refine aU h Y (fun V h=>?_) (fun V h=>?_)
      ·refine aL [0,1,2,3,9,10,11,12] ?_;refine eQ (.a 1 ?_);refine .k (kM (.inl Y) (by decide) Y Y) (.k (kM (.inr Y) (by decide) Y Y) (.f [0,1,2,3,9,10,12] ?_));refine aZ ?_;obtain⟨bv,bc,h⟩:=aA h;refine eQ (.a 1 ?_);refine .k (aT Y Y (.VL sO (.VL sO (.VL sO sO))) BV Cw) (.k (dI (e:=Q4) Pd Cw EX Y Y Y Y (.cons (.dir Y) .nil)) (.t (bT 158 bc Y Y (.sl Y) Pd JY Cw Y Y Y Y Y) (.f [0,1,2,3,9,10] ?_)));refine aZ ?_;refine dP [0,1,2,3,9,10] ?_;cases h;exact cF (aC [(134,158)])
      refine aL [0,1,2,3,9,10,11,12,32,84] ?_;refine aU h Y (fun X h=>?_) (fun X h=>?_)
      ·refine aL [0,1,2,3,9,10,11,12] ?_;refine eQ (.a 1 ?_);refine .k (kM (.inl Y) (by decide) Y Y) (.k (kM (.inr Y) (by decide) Y Y) (.f [0,1,2,3,9,10,12] ?_));refine aZ ?_;obtain⟨bw,bd,h⟩:=aA h;refine eQ (.a 1 ?_);refine .k (aT Y Y (.VL sO (.VL sO (.VL sO sO))) BV Cw) (.k (dI (e:=Q4) Pd Cw EX Y Y Y Y (.cons (.dir Y) .nil)) (.t (bT 159 bd Y Y (.sl Y) Pd JY Cw Y Y Y Y Y) (.f [0,1,2,3,9,10] ?_)));refine aZ ?_;refine dP [0,1,2,3,9,10] ?_;cases h;exact cF (aC [(134,159)])
      refine aL [0,1,2,3,9,10,11,12,91] ?_;refine aU h Y (fun aa h=>?_) (fun aa h=>?_)
      ·refine aL [0,1,2,3,9,10,11,12] ?_;refine aJ (.a 1 ?_);refine .k (kM (.inl Y) (by decide) Y Y) (.k (kM (.inr Y) (by decide) Y Y) (.f [0,1,2,3,9,10,12] ?_));obtain⟨bx,be,h⟩:=aA h;refine eQ (.a 5 ?_);refine .k (aM (yY be) Tryz.call26 (.cons (.dir Y) (.cons (.dir Y) .nil))) (.f [0,1,2,3,9,10,12] ?_);refine aZ ?_;obtain⟨bz,bf,h⟩:=aA h;refine eQ (.a 1 ?_);refine .k (aT Y Y (.VL sO (.VL sO (.VL sO sO))) BV Cw) (.k (dI (e:=Q4) Pd Cw EX Y Y Y Y (.cons (.dir Y) .nil)) (.t (bT 161 bf Y Y (.sl Y) Pd JY Cw Y Y Y Y Y) (.f [0,1,2,3,9,10] ?_)));refine aZ ?_;refine dP [0,1,2,3,9,10] ?_;cases h;exact cF (aC [(134,161)])
      refine eQ (.a 1 ?_);refine .k (kM (.inl Y) (by decide) Y Y) (.k (kM (.inr Y) (by decide) Y Y) (.f [0,1,2,3,9,10,12] ?_));refine aZ ?_;obtain⟨bA,bg,h⟩:=aA h;refine eQ (.a 1 ?_);refine .k (aT Y Y (.VL sO (.VL sO (.VL sO sO))) BV Cw) (.k (dI (e:=Q4) Pd Cw EX Y Y Y Y (.cons (.dir Y) .nil)) (.t (bT 162 bg Y Y (.sl Y) Pd JY Cw Y Y Y Y Y) (.f [0,1,2,3,9,10] ?_)));refine aZ ?_;refine dP [0,1,2,3,9,10] ?_;cases h;exact cF (aC [(134,162)])
     ·intro B;replace h:=iG B h;refine aF ?_;exact bY h (aC [])
     ·intro B;replace h:=iH B h;refine aL [0,1,2,3,9,10,11,12,32,68] ?_;refine aU h Y (fun ab h=>?_) (fun ab h=>?_)
      ·refine aF ?_;exact bY h (aC [])
      refine dP [0,1,2,3,9,10,11,12,32,68] ?_;exact bY h (aC [])
    ·intro C;replace h:=iG C h;refine aF ?_;exact bY h (aC [])
    ·intro C;replace h:=iH C h;refine aL [0,1,2,3,9,10,11,12,32,63] ?_;refine aU h Y (fun ac h=>?_) (fun ac h=>?_)
     ·refine aF ?_;exact bY h (aC [])
     refine dP [0,1,2,3,9,10,11,12,32,63] ?_;exact bY h (aC [])
   ·intro D;replace h:=iG D h;refine aF ?_;exact bY h (aC [])
   ·intro D;replace h:=iH D h;refine aL [0,1,2,3,9,10,11,12,32,58] ?_;refine aU h Y (fun ad h=>?_) (fun ad h=>?_)
    ·refine aF ?_;exact bY h (aC [])
    refine dP [0,1,2,3,9,10,11,12,32,58] ?_;exact bY h (aC [])
  ·intro E;replace h:=iG E h;refine aF ?_;exact bY h (aC [])
  ·intro E;replace h:=iH E h;refine aL [0,1,2,3,9,10,11,12,32,38] ?_;refine aU h Y (fun ae h=>?_) (fun ae h=>?_)
   ·refine aF ?_;exact bY h (aC [])
   refine aL [0,1,2,3,9,10,11,12,32,38] ?_;refine aU h Y (fun af h=>?_) (fun af h=>?_)
   ·refine aF ?_;exact bY h (aC [])
   refine aL [0,1,2,3,9,10,11,12,32,38] ?_;refine aU h Y (fun ah h=>?_) (fun ah h=>?_)
   ·refine aF ?_;exact bY h (aC [])
   refine dP [0,1,2,3,9,10,11,12,32,38] ?_;exact bY h (aC [])
 cases h;exact dB (dJ (aC []))
theorem Ds{a0 r}(h:rS a0=some r):
 WC Tryz.prog 158 [.v Q0 a0] (.WN [.v Q0 r.1,.v Q9 r.2]) []:=by
 refine WC.of Tryz.func158 Y Tryz.ntmps158 Y ?_;intro S w z;unfold rS at h;refine aL [0] ?_;refine aG ?_;refine aG ?_;obtain⟨C,u,h⟩:=aA h;refine eB (σ':=⟨[(0,.v Q0 a0),(9,.v Wr.bool C)],[]⟩) ?_ ?_
 ·refine cd u (fun A u=>?_) (fun A u=>?_)
  ·cases u;exact jy
  cases u;exact jy
 refine aU h Y (fun B h=>?_) (fun B h=>?_)
 ·refine aL [2,3] ?_;cases h;exact aH (bS z dR Y (RV.tmp Y) (RV.tmp Y) .nil Y)
 refine aF ?_;refine aL [2,3] ?_;cases h;exact aH (bS z dR Y (RV.tmp Y) (RV.tmp Y) .nil Y)
theorem Ti{a0 r}(h:xP a0=some r):
 WC Tryz.prog 159 [.v Q0 a0] (.WN [.v Q2 r.1,.v Q9 r.2]) []:=by
 refine WC.of Tryz.func159 Y Tryz.ntmps159 Y ?_;intro S w z;unfold xP at h;refine aJ (.k (aN 101 Tg Y (.cons (Z.sl aO) (.cons (Z.sl gF) (.cons (Z.int .i64) .nil))) Y) (.f [0,2] ?_));refine aG ?_;refine aG ?_;obtain⟨C,u,h⟩:=aA h;refine eB (σ':=⟨[(0,.v Q0 a0),(2,.ptr 101 0),(9,.v Wr.bool C)],[(101,.box 186 [.v Q5 ([]:jO),.v Q1 ([]:Q6),.v Q0 (0:Int)])]⟩) ?_ ?_
 ·refine cd u (fun A u=>?_) (fun A u=>?_)
  ·cases u;exact jy
  cases u;exact jy
 refine aU h Y (fun B h=>?_) (fun B h=>?_)
 ·refine aJ (.k (bQ rI (.cons (Z.sl aO) (.cons (Z.sl gF) (.cons (Z.int .i64) .nil))) .nil) (.f [2,3] ?_));refine aH ?_;obtain rfl:=pT h;exact cB (σ':=⟨[(2,.ptr 90 0),(3,.v Q9 (some (1:Int)))],[(90,.box 186 [.v Q5 ([]:jO),.v Q1 ([]:Q6),.v Q0 (0:Int)])]⟩) (aC [(90,101)]) (bS z dR Y (aV Y Y (.VL sO (.VL sO sO)) sC lF) (RV.tmp Y) .nil Y)
 refine aF ?_;obtain⟨D,E,h⟩:=aA h;refine aJ (.a 1 ?_);refine .k (Xf 102 E Y Y Jo Br kB Y Y (Z.arr 8 (Z.int .u8))) (.k (bQ rI (.cons (Z.sl aO) (.cons (Z.sl gF) (.cons (Z.int .i64) .nil))) (.cons Y (.dir Y) Y Y Y Y (.cons Y (.dir Y) Y Y Y Y .nil))) (.f [2,3] ?_));refine aH ?_;obtain rfl:=pT h;exact cB (σ':=⟨[(2,.ptr 90 0),(3,.v Q9 (none:Option Int))],[(90,.box 186 [.v Q5 D,.v Q1 ([]:Q6),.v Q0 (-1:Int)])]⟩) (aC [(90,101)]) (bS z dR Y (aV Y Y (.VL sO (.VL sO sO)) sC lF) (RV.tmp Y) .nil Y)
theorem Jr{a0 r}(h:rB a0=some r):
 WC Tryz.prog 100 [.v Q0 a0] (.WN [.v Q2 r.1,.v Q9 r.2]) []:=by
 refine WC.of Tryz.func100 Y Tryz.ntmps100 Y ?_;intro S w z;unfold rB at h;refine aJ (.k (aN 101 Tg Y (.cons (Z.sl aO) (.cons (Z.sl gF) (.cons (Z.int .i64) .nil))) Y) (.f [0,2] ?_));obtain⟨B,C,h⟩:=aA h;refine aJ (.a 1 ?_);refine .k (aM (Ds C) Tryz.call158 (.cons (.dir Y) .nil)) (.f [2,4,5] ?_);refine cT [2,4,5,12] ?_;refine aU h Y (fun A h=>?_) (fun A h=>?_)
 ·refine aJ (.k (bQ rI (.cons (Z.sl aO) (.cons (Z.sl gF) (.cons (Z.int .i64) .nil))) .nil) (.f [2,3] ?_));refine aH ?_;obtain rfl:=pT h;exact cB (σ':=⟨[(2,.ptr 90 0),(3,.v Q9 B.2)],[(90,.box 186 [.v Q5 ([]:jO),.v Q1 ([]:Q6),.v Q0 (0:Int)])]⟩) (aC [(90,101)]) (bS z dR Y (aV Y Y (.VL sO (.VL sO sO)) sC lF) (RV.tmp Y) .nil Y)
 refine aF ?_;obtain⟨u,D,h⟩:=aA h;refine aJ (.a 1 ?_);refine .k (aM (Ti D) Tryz.call159 (.cons (.dir Y) .nil)) ?_;refine .a 2 ?_;refine .t (bW Y Y Y Y (.VL sO (.VL sO sO)) lF) (.f [2,3] ?_);refine aH ?_;obtain rfl:=pT h;exact cB (σ':=⟨[(2,.ptr 90 0),(3,.v Q9 u.2)],[(90,.box 186 [.v Q5 u.1.1,.v Q1 u.1.2.1,.v Q0 u.1.2.2])]⟩) (aC [(90,101)]) (bS z dR Y (aV Y Y (.VL sO (.VL sO sO)) sC lF) (RV.tmp Y) .nil Y)
theorem Js{a0 a1 r}(h:lS a0 a1=some r):
 WC Tryz.prog 204 [.v gF a0,.XY Q2 a1] (.v Wr.bool r) []:=by
 refine WC.of Tryz.func204 Y Tryz.ntmps204 Y ?_;intro S w A;unfold lS at h;refine aJ (.k (cI 101 Y (.VL sO sO) Y) (.f [1,2] ?_));refine aG ?_;obtain⟨B,u,h⟩:=aA h;refine eB (σ':=⟨[(3,.v Wr.bool B)],[]⟩) ?_ ?_
 ·refine cd u (fun z u=>?_) (fun z u=>?_)
  ·cases u;exact jy
  cases u;refine ja 6 ?_;exact(J.g z (eX Y Kx Y yD Y (.fst .here) Y) jy)
 cases h;exact aH (aW A dR Y (RV.tmp Y) .nil Y)
theorem mC{a0 XO r}(h:dK a0 XO=some r):
 WC Tryz.prog 247 [.v Q1 a0,.ZR 204 [.XY Q2 XO]] (.v Q0 r) []:=by
 refine WC.of Tryz.func247 Y Tryz.ntmps247 Y ?_;intro S w u;unfold dK at h;refine aL [0,1] ?_;refine cT [0,1,7,8] ?_;obtain⟨L,F,G,H⟩:=cL h;refine jP (σs:=fun z:Int=>⟨[(0,.v Q1 a0),(1,.ZR 204 [.XY Q2 XO]),(7,.v Q0 (a0.length:Int)),(8,.v Q0 z)],[]⟩) (fun A:Unit=>⟨[],[]⟩) F (aC []) ?_ ?_
 ·intro A B;have h:=G _ B;refine aL [4] ?_;cases h;exact aH (aW u dR Y (RV.tmp Y) .nil Y)
 intro z K h;refine aL [0,1,7,8,9] ?_;refine aG ?_;refine aU h Y (fun C h=>?_) (fun C h=>?_)
 ·refine aF ?_;refine aG ?_;refine bR ?_;refine aL [0,1,5,7,8] ?_;obtain⟨M,N,h⟩:=aA h;obtain⟨O,I,h⟩:=aA h;refine aJ (.a 5 ?_);refine .k (tQ Y (Js I) Tryz.call204 (.cons (.dir Y) .nil)) (.f [0,1,5,7,8,16] ?_);refine aU h Y (fun D h=>?_) (fun D h=>?_)
  ·refine aL [4] ?_;refine aH ?_;refine eP ?_;cases h;refine gQ fun E=>?_;obtain rfl:=H _ E;exact aW u dR Y (RV.tmp Y) .nil Y
  refine aF ?_;refine aZ ?_;refine dP [0,1,7,8] ?_;cases h;exact cF (aC [])
 cases h;exact dB (dJ (aC []))
theorem kU{a0 XO r}(h:cG a0 XO=some r):
 WC Tryz.prog 203 [.v Q1 a0,.ZR 204 [.XY Q2 XO]] (.v Wr.bool r) []:=by
 refine WC.of Tryz.func203 Y Tryz.ntmps203 Y ?_;intro S w u;unfold cG at h;refine aL [0,1] ?_;obtain⟨A,z,h⟩:=aA h;refine aJ (.a 2 ?_);refine .k (aM (mC z) Tryz.call247 (.cons (.dir Y) (.cons (.dir Y) .nil))) (.f [4] ?_);cases h;exact aH (aW u dR Y (RV.tmp Y) .nil Y)
theorem uP{a0 r}(h:mR a0=some r):
 WC Tryz.prog 160 [.v Q2 a0] (.v Q9 r) []:=by
 refine WC.of Tryz.func160 Y Tryz.ntmps160 Y ?_;intro S w z;unfold mR at h;refine aJ (.k (cI 101 Y (.VL sO (.VL sO sO)) Y) (.f [1] ?_));refine aG ?_;refine aG ?_;obtain⟨E,u,h⟩:=aA h;refine eB (σ':=⟨[(1,.ptr 101 0),(18,.v Wr.bool E)],[(101,.box 186 [.v Q5 a0.1,.v Q1 a0.2.1,.v Q0 a0.2.2])]⟩) ?_ ?_
 ·refine cd u (fun A u=>?_) (fun A u=>?_)
  ·cases u;exact jy
  refine cd u (fun B u=>?_) (fun B u=>?_)
  ·cases u;exact jy
  cases u;exact jy
 refine aU h Y (fun C h=>?_) (fun C h=>?_)
 ·refine aL [2] ?_;cases h;exact aH (aW z dR Y (RV.tmp Y) .nil Y)
 refine aF ?_;obtain⟨G,F,h⟩:=aA h;refine jJ (.a 2 ?_);refine .k (tP (.cons (.dir Y) .nil)) (.k (rO (kU F) Tryz.call203 (.cons (.dir Y) (.cons (.aM1 Y (.ptr Y (.VL sO (.VL sO sO)) .nil)) .nil)) XW.v) (.f [23] ?_));refine aU h Y (fun D h=>?_) (fun D h=>?_)
 ·refine aL [2] ?_;cases h;exact aH (aW z dR Y (RV.tmp Y) .nil Y)
 refine aF ?_;refine aL [2] ?_;cases h;exact aH (aW z dR Y (RV.tmp Y) .nil Y)
theorem qK{a0 r}(h:kD a0=some r):
 WC Tryz.prog 138 [.v (Wr.H3 aO) a0] (.ref 0) [(0,.arr 30 aO r)]:=by
 refine WC.of Tryz.func138 Y Tryz.ntmps138 Y ?_;intro S w u;unfold kD at h;refine aJ (.k (aR 101 30 aO) (.f [0] ?_));refine jJ (.a 1 ?_);refine .k (xJ Y Jo) (.f [0,4] ?_);refine aU h Y (fun z h=>?_) (fun z h=>?_)
 ·refine aJ (.k (aR 102 30 aO) (.f [2] ?_));cases h;exact aH (vW u dR Y (aC [(0,102)]))
 refine aF ?_;obtain⟨B,A,h⟩:=aA h;refine aJ (.k (rM (e:=aO) 103 Jo kB Aq Y Y Y Y .nil) ?_);refine .a 1 ?_;refine .t (bT 104 A Y Y (.H3 Y) Jo Br kB Y Y Y Y Y) (.f [2] ?_);cases h;exact aH (vW u dR Y (aC [(0,104)]))
theorem cO{a0:jO}{r:jO}(h:aP a0=some r):
  WC Tryz.prog 138 [.v Q5 a0] (.ref 0) [(0,.arr 30 aO r)]:=
 rP fun b u=>qK (by cases b with | true=>rw[u rfl] at h ⊢;exact h | false=>exact Eg h)
theorem sW{a0 r}(h:fN a0=some r):
 WC Tryz.prog 181 [.v Q1 a0] (.ZR 227 [.XY Q1 r]) []:=by
 refine WC.of Tryz.func181 Y Tryz.ntmps181 Y ?_;intro S w u;unfold fN at h;refine aJ (.k (cI 101 Y sO Y) (.k (eE Y) (.f [1] ?_)));refine aJ (.k (tP (.cons (.dir Y) .nil)) (.f [2] ?_));refine aH ?_;obtain rfl:=pT h;exact cB (σ':=⟨[(2,.ZR 227 [.XY Q1 a0])],[]⟩) (Sw.Sub.mk id (.cons Y (.ZR (.cons (.D2 Y Y (.cons (.of_eq Y) .nil) sO) .nil)) .nil) .nil Y) (aW u dR Y (RV.tmp Y) .nil Y)
theorem RC{xs:List (Int×aQ)}(hlen:(xs.length:Int)<=4294967296):
 Z4 Tryz.prog 227 [.XY Q1 xs] ((F9 xs).map fun c=>[.v Q0 c.1,.v gF c.2]):=by
  refine CM Tryz.func227 Y Tryz.ntmps227 Y ?_;intro S w ρ l Jp Jx b off I vj h1;have E:=CO hlen;refine aG ?_;refine eB (σ':=⟨[(0,.v (Wr.ZS (.func (.yield l) #[] #[]) Y) ()),(1,.v (Wr.cp b off Q1) xs),(3,.v Q0 ((xs.length:Int) - 1 - (0:Nat)))],[]⟩) (J.k (mL Y FC Ik) (J.k (tG Y yE) (J.k (cU Y Y Y) (J.k (bO Y) (J.fin (kH (by rfl) (by exact(.cons Y (.cons Y (.cons (by rw[<-E];rfl) .nil)))))))))) ?_;refine bR ?_;refine Rv I (fun k=>[(0,.v (Wr.ZS (.func (.yield l) #[] #[]) Y) ()),(1,.v (Wr.cp b off Q1) xs),(3,.v Q0 ((xs.length:Int) - 1 - (k:Nat)))]) (fun k=>(.cons (@p7.flat _ _ ⟨fun h=>h⟩ _ _ _ _) (.cons h1 (.cons .flat .nil)))) (fun _ _ h=>h) vj ?_;intro k V C D;have u:((F9 xs).map fun c=>([.v Q0 c.1,.v gF c.2]:List Slot)).length=xs.length:=by rw[kv,CN]
  rw[u] at D;have F:=GF hlen D;refine aG (aG ?_);refine eB (σ':=⟨[(0,.v (Wr.ZS (.func (.yield l) #[] #[]) Y) ()),(1,.v (Wr.cp b off Q1) xs),(3,.v Q0 ((xs.length:Int) - 1 - (k:Nat))),(8,.v Wr.bool (cm .geq ((xs.length:Int) - 1 - (k:Nat)) 0))],[]⟩) (J.mv Y (J.k (kC Y Y Y) (J.fin (kH (by rfl) (by exact(.cons Y (.cons Y (.cons Y (.cons Y .nil))))))))) ?_;refine Fv Y (fun z=>?_) (fun z=>?_)
  ·refine aF ?_;have M:(xs.length:Int) - 1 - (k:Nat)>=0:=by simpa[cm] using z
   have B:k<xs.length:=by omega
   obtain⟨x,K,L⟩:=GD B;refine aG ?_;refine bR ?_;refine aG ?_;refine Mg (σ1:=⟨[(11,.v (Wr.ZS (.func (.yield l) #[] #[]) Y) ()),(12,.v Q0 ((xs.length:Int) - 1 - (k:Nat))),(16,.v gF x),(0,.v (Wr.ZS (.func (.yield l) #[] #[]) Y) ()),(1,.v (Wr.cp b off Q1) xs),(3,.v Q0 ((xs.length:Int) - 1 - (k:Nat)))],[]⟩) (g2:=[(0,.v (Wr.ZS (.func (.yield l) #[] #[]) Y) ()),(1,.v (Wr.cp b off Q1) xs),(3,.v Q0 ((xs.length:Int) - 1 - (k:Nat)))]) (pre:=[_,_,_,_,_,_]) I C (item:=[.v Q0 ((xs.length:Int) - 1 - (k:Nat)),.v gF x]) (by rw[kz,K];rfl)
    (J.cons (.none rfl) (aD rfl) rfl rfl (J.cons (.none rfl) (aD rfl) rfl rfl (J.cons (.none rfl) (mL rfl FC Ik) rfl rfl (J.cons (.none rfl) (aD rfl) rfl rfl (J.cons (.none rfl) (pH L rfl rfl yE jS) rfl rfl (J.cons (.none rfl) (cE rfl Zb jS) rfl rfl (J.fin (kH (by rfl) (by exact(.cons rfl (.cons rfl (.cons rfl (.cons rfl (.cons rfl (.cons rfl .nil)))))))))))))))
    rfl (.cons (.dir rfl) (.cons (.dir rfl) .nil)) rfl rfl rfl rfl (.cons (@p7.flat _ _ ⟨fun h=>h⟩ _ _ _ _) (.cons h1 (.cons .flat .nil))) (.cons rfl (.cons rfl (.cons rfl .nil))) (fun A G=>?_) (fun A H=>?_)
   ·refine Ay rfl rfl (aF (aZ ?_));refine eB (σ':=⟨[(0,.v (Wr.ZS (.func (.yield l) #[] #[]) Y) ()),(1,.v (Wr.cp b off Q1) xs),(3,.v Q0 (ar .sub .i64 ((xs.length:Int) - 1 - (k:Nat)) 1))],[]⟩) (J.mv Y (J.k (cU Y Y Y) (J.k (bO Y) (J.fin (kH (by rfl) (by exact(.cons Y (.cons Y (.cons Y .nil))))))))) ?_;exact Rw I G (by rw[u];exact B) (by rw[F];exact fun _ _ h=>h)
   ·refine vM rfl rfl (aH (Rx (fn:=Tryz.f227) I rfl H fun a A h=>h))
  ·refine dB (Xn (fn:=Tryz.f227) I rfl C ?_ (fun a A h=>?_))
   ·have N:¬(xs.length:Int) - 1 - (k:Nat)>=0:=by simpa[cm] using z
    rw[u];omega
   ·simp only[Exit.inBlock,j0];exact h
theorem qH{a0 a1 r}(h:iR a0 a1=some r):
 WC Tryz.prog 133 [.v Q2 a0,.v Q0 a1] (.WN [.v aO r.1,.v Q9 r.2]) []:=by
 refine WC.of Tryz.func133 Y Tryz.ntmps133 Y ?_;intro S w z;unfold iR at h;refine aJ (.k (cI 101 Y (.VL sO (.VL sO sO)) Y) (.k (cI 102 Y sO Y) (.k (aN 103 Aq Y (.cons (Z.arr 8 (Z.int .u8)) .nil) Y) (.k (aN 104 Tryz.zeroValue35 Y (.cons (Z.err ET) .nil) Y) (.f [2,3,4,5] ?_)))));obtain⟨P,Q,h⟩:=aA h;refine jJ (.k (aT Y Y (.VL sO (.VL sO sO)) sC lF) (.k (aM (uP Q) NW (.cons (.dir Y) .nil)) (.f [2,3,4,5,6] ?_)));refine aL [2,3,4,5,6,12] ?_;refine aU h Y (fun I h=>?_) (fun I h=>?_)
 ·refine aJ (.k (dD (e:=aO) (v:=aS) Br vS I5 Y Y (Z.arr 8 (Z.int .u8))) (.f [4,5] ?_));refine aH ?_;obtain rfl:=pT h;exact cB (σ':=⟨[(4,.ptr 90 0),(5,.ptr 91 0)],[(91,.box 35 [.v Q9 P]),(90,.box 30 [.v aO aS])]⟩) (aC [(90,103),(91,104)]) (bS z dR Y (cK Y Y Y tI kB) (cK Y Y Y SZ OW) .nil Y)
 refine aF ?_;refine aG ?_;refine aG ?_;obtain⟨T,B,h⟩:=aA h;refine eB (σ':=⟨[(2,.ptr 101 0),(3,.ptr 102 0),(4,.ptr 103 0),(5,.ptr 104 0),(23,.v Wr.bool T)],[(101,.box 186 [.v Q5 a0.1,.v Q1 a0.2.1,.v Q0 a0.2.2]),(102,.box 3 [.v Q0 a1]),(103,.box 30 [.v aO aS]),(104,.box 35 [.v Q9 (none:Option Int)])]⟩) ?_ ?_
 ·refine cd B (fun K B=>?_) (fun K B=>?_)
  ·cases B;exact jy
  cases B;exact jy
 refine aU h Y (fun M h=>?_) (fun M h=>?_)
 ·refine aJ (.k (dD (e:=aO) (v:=aS) Br vS I5 Y Y (Z.arr 8 (Z.int .u8))) (.f [4,5] ?_));refine aH ?_;obtain rfl:=pT h;exact cB (σ':=⟨[(4,.ptr 90 0),(5,.ptr 91 0)],[(91,.box 35 [.v Q9 (some (1:Int))]),(90,.box 30 [.v aO aS])]⟩) (aC [(90,103),(91,104)]) (bS z dR Y (cK Y Y Y tI kB) (cK Y Y Y SZ OW) .nil Y)
 refine aF ?_;refine cT [2,3,4,5,28] ?_;refine aU h Y (fun N h=>?_) (fun N h=>?_)
 ·refine aJ (.k (dD (e:=aO) (v:=aS) Br vS I5 Y Y (Z.arr 8 (Z.int .u8))) (.f [4,5] ?_));refine aH ?_;obtain rfl:=pT h;exact cB (σ':=⟨[(4,.ptr 90 0),(5,.ptr 91 0)],[(91,.box 35 [.v Q9 (some (4:Int))]),(90,.box 30 [.v aO aS])]⟩) (aC [(90,103),(91,104)]) (bS z dR Y (cK Y Y Y tI kB) (cK Y Y Y SZ OW) .nil Y)
 refine aF ?_;obtain⟨E,U,h⟩:=aA h;refine jJ (.a 2 ?_);refine .k (aM (sW U) Tryz.call181 (.cons (.dir Y) .nil)) (.f [2,3,4,5,33] ?_);refine bR ?_;obtain⟨ad,V,h⟩:=aA h;obtain⟨o9,X,aa,ab⟩:=Rt h;refine Rs (g:=[(2,.ptr 101 0),(3,.ptr 102 0),(4,.ptr 103 0),(5,.ptr 104 0),(33,.ZR 227 [.XY Q1 E])]) (ds0:=[(101,.box 186 [.v Q5 a0.1,.v Q1 a0.2.1,.v Q0 a0.2.2]),(102,.box 3 [.v Q0 a1]),(103,.box 30 [.v aO aS]),(104,.box 35 [.v Q9 (none:Option Int)])]) (L:=[101,102,103,104]) (fun A:(Int×(Int×aQ))=>[.v Q0 A.1,.v gF A.2]) (fun u (C:Unit)=>[(101,.box 186 [.v Q5 a0.1,.v Q1 a0.2.1,.v Q0 a0.2.2] (some (u 101))),(102,.box 3 [.v Q0 a1] (some (u 102))),(103,.box 30 [.v aO aS] (some (u 103))),(104,.box 35 [.v Q9 (none:Option Int)] (some (u 104)))]) (fun u (D:aQ)=>[(101,.box 186 [.v Q5 a0.1,.v Q1 a0.2.1,.v Q0 a0.2.2] (some (u 101))),(102,.box 3 [.v Q0 a1] (some (u 102))),(103,.box 30 [.v aO D] (some (u 103))),(104,.box 35 [.v Q9 (none:Option Int)] (some (u 104)))]) (fun u A C=>⟨[(2,.ptr 101 0),(3,.ptr 102 0),(4,.ptr 103 0),(5,.ptr 104 0),(8,.ptr 108 0),(33,.ZR 227 [.XY Q1 E])],[(101,.box 186 [.v Q5 a0.1,.v Q1 a0.2.1,.v Q0 a0.2.2] (some (u 101))),(102,.box 3 [.v Q0 a1] (some (u 102))),(103,.box 30 [.v aO aS] (some (u 103))),(104,.box 35 [.v Q9 (none:Option Int)] (some (u 104))),(108,.box 214 [.v Q0 A.2.1,.v aO A.2.2])]⟩) z Y X (aC []) (fun _=>rfl) Y (RC (Ga V)) Tryz.call227 (fun _=>rfl) Y (fun _=>rfl) Y (fun _ _=>(.cons Y (.cons Y (.cons Y (.cons Y .nil))))) (fun _ _=>(.cons Y (.cons Y (.cons Y (.cons Y .nil))))) ?_ ?_ ?_ ?_
 ·intro u S w R l A C;refine eQ (.k (aN 109 Fb Y (.cons (Z.int .i64) (.cons (Z.arr 8 (Z.int .u8)) .nil)) Y) (.t (bW Y Y Y Y (.VL sO sO) jS) (.f [2,3,4,5,8,33] ?_)));exact PG (aC [(108,109)])
 ·intro u S w R l A C r9 h;refine bR ?_;refine aL [2,3,4,5,8,33,39] ?_;refine aU h Y (fun O h=>?_) (fun O h=>?_)
  ·refine aJ (.a 3 ?_);refine .t (Iw Y Y Y (.aMx ET) Y Y Y OW) (.f [2,3,4,5,33] ?_);refine aH ?_;refine eP ?_;cases h;exact GC (aC [])
  refine aF ?_;cases h;exact aZ (Ru (aC []))
 ·intro u ac F S w R G z;have h:=aa _ F;refine aZ ?_;obtain⟨lj,ry,h⟩:=aA h;refine aJ (.a 6 ?_);refine .t (Iw Y Y Y (.aMx ET) Y Y Y OW) (.f [4,5] ?_);refine aH ?_;obtain rfl:=pT h;exact cB (σ':=⟨[(4,.ptr 90 0),(5,.ptr 91 0)],[(91,.box 35 [.v Q9 (none:Option Int)]),(90,.box 30 [.v aO lj])]⟩) (aC [(90,103),(91,104)]) (bS z dR Y (cK Y Y Y tI kB) (cK Y Y Y SZ OW) .nil Y)
 ·intro u D H S w R G z;have h:=ab _ H;refine eP ?_;obtain rfl:=pT h;exact cB (σ':=⟨[(4,.ptr 90 0),(5,.ptr 91 0)],[(91,.box 35 [.v Q9 (none:Option Int)]),(90,.box 30 [.v aO D])]⟩) (aC [(90,103),(91,104)]) (bS z dR Y (cK Y Y Y tI kB) (cK Y Y Y SZ OW) .nil Y)
theorem tC{a0 r}(h:gM a0=some r):
 WC Tryz.prog 210 [.v aO a0] (.v Q0 r) []:=by
 refine WC.of Tryz.func210 Y Tryz.ntmps210 Y ?_;intro S w C;unfold gM at h;refine aJ (.k (cI 101 Y sO Y) (.f [1] ?_));obtain⟨D,u,h⟩:=aA h;obtain⟨E,z,h⟩:=aA h;obtain⟨F,A,h⟩:=aA h;obtain⟨G,B,h⟩:=aA h;refine aJ (.k (rL u Y Y Y Y vS S5) (.k (vA (dG u).2.2 Y Y Y G5 S5) (.k (by exact mJ U5 U3 Y Y) (.k (by exact fB (.inl Y) (by decide) Y Y) (.k (by exact rL z Y Y Y Y vS S5) (.k (by exact vA (dG z).2.2 Y Y Y G5 S5) (.k (by exact mJ U5 U3 Y Y) (.k (by exact fB (.inl Y) (by decide) Y Y) ?_))))))));refine .a 1 ?_;refine .k (rL A Y Y Y Y vS S5) (.k (vA (dG A).2.2 Y Y Y G5 S5) (.k (by exact mJ U5 U3 Y Y) (.k (by exact fB (.inl Y) (by decide) Y Y) ?_)));refine .a 1 ?_;refine .k (rL B Y Y Y Y vS S5) (.k (vA (dG B).2.2 Y Y Y G5 S5) (.k (by exact mJ U5 U3 Y Y) (.f [2] ?_)));cases h;exact aH (aW C dR Y (RV.tmp Y) .nil Y)
theorem sL{a0 r}(h:lT a0=some r):
 WC Tryz.prog 213 [.v (Wr.H3 gF) a0] (.ref 0) [(0,.arr 214 gF r)]:=by
 refine WC.of Tryz.func213 Y Tryz.ntmps213 Y ?_;intro S w u;unfold lT at h;refine aJ (.k (aR 101 214 gF) (.f [0] ?_));refine jJ (.a 1 ?_);refine .k (xJ Y yE) (.f [0,4] ?_);refine aU h Y (fun z h=>?_) (fun z h=>?_)
 ·refine aJ (.k (aR 102 214 gF) (.f [2] ?_));cases h;exact aH (vW u dR Y (aC [(0,102)]))
 refine aF ?_;obtain⟨B,A,h⟩:=aA h;refine aJ (.k (rM (e:=gF) 103 yE jS Fb Y Y Y Y .nil) ?_);refine .a 1 ?_;refine .t (bT 104 A Y Y (.H3 Y) yE Kv jS Y Y Y Y Y) (.f [2] ?_);cases h;exact aH (vW u dR Y (aC [(0,104)]))
theorem eU{a0:Q6}{r:Q6}(h:bU a0=some r):
  WC Tryz.prog 213 [.v Q1 a0] (.ref 0) [(0,.arr 214 gF r)]:=
 rP fun b u=>sL (by cases b with | true=>rw[u rfl] at h ⊢;exact h | false=>exact Eg h)
theorem Dt{a0 r}(h:rT a0=some r):
 WC Tryz.prog 264 [.v Q2 a0] (.agg [.ref 0,.ref 1,.v Q0 r.2.2]) [(0,.arr 30 aO r.1),(1,.arr 214 gF r.2.1)]:=by
 refine WC.of Tryz.func264 Y Tryz.ntmps264 Y ?_;intro S w u;unfold rT at h;refine aJ (.k (cI 101 Y (.VL sO (.VL sO sO)) Y) (.k (aN 102 Tg Y (.cons (Z.sl aO) (.cons (Z.sl gF) (.cons (Z.int .i64) .nil))) Y) (.f [1,2] ?_)));refine aG ?_;obtain⟨z,A,h⟩:=aA h;obtain⟨B,C,h⟩:=aA h;refine dY 10 mixed (by exact(.k (aB 0 Y Kx Y yD Y Y) (.k (aI Y Y Y To yD) (.k (fI 103000 (cO A) Za (.cons (.dir Y) .nil) Y) (.k (aB 1 Y Kx Y Ik Y Y) (.k (aI Y Y Y FC Ik) (.k (fI 104000 (eU C) JU (.cons (.dir Y) .nil) Y) (.k (aB 0 Y Kx Y yD Y Y) (XR.store (.none Y) Y Y Y Y Y Y Y yD (.k (aB 1 Y Kx Y Ik Y Y) (XR.store (.none Y) Y Y Y Y Y Y Y Ik .nil))))))))))) (by exact(J.kp [1,2] [])) ?_;refine aJ (.k (hO Y Y Y sC lF) (.f [2] ?_));refine aH ?_;obtain rfl:=pT h;exact cB (σ':=⟨[(2,.ptr 90 0)],[(90,.box 186 [.ref 0,.ref 1,.v Q0 a0.2.2]),(1,.arr 214 gF B),(0,.arr 30 aO z)]⟩) (aC [(90,102),(1,104000),(0,103000)]) (aW u dR Y (Fy Y Y Y sC lF) (.cons Y (.cons Y .nil)) Y)
theorem uW(A:Nat->Nat){VZ WI gy r}(h:jH VZ WI gy=some r):
 VQ Tryz.prog 265 [.ptr 9000 0] [(9000,.box 186 [.ref 8950,.ref 8951,.v Q0 gy] (some (A 9000))),(8950,.arr 30 aO VZ),(8951,.arr 214 gF WI)] (.v Q9 r.1) [(9000,.box 186 [.ref 8910,.ref 8911,.v Q0 r.2.2.2] (some (A 9000))),(8910,.arr 30 aO r.2.1),(8911,.arr 214 gF r.2.2.1)]:=by
 refine VQ.of Tryz.func265 Y Tryz.ntmps265 Y ?_;intro S w R z;unfold jH at h;refine aL [0] ?_;refine cT [0,7] ?_;refine aU h Y (fun C h=>?_) (fun C h=>?_)
 ·refine aL [0,2] ?_;cases h;exact aH (eV z Y (aC [(8911,8951),(8910,8950)]))
 refine aF ?_;refine cT [0,13] ?_;obtain⟨D,E,h⟩:=eZ h;refine sR (fun B:Int=>⟨[(0,.ptr 9000 0)],[(9000,.box 186 [.ref 8950,.ref 8951,.v Q0 B] (some (A 9000))),(8950,.arr 30 aO VZ),(8951,.arr 214 gF WI)]⟩) (fun x=>D x=some r) Y ?_ ?_ ?_
 ·intro B h;rw[E] at h;refine aL [0,2] ?_;cases h;exact aH (eV z Y (aC [(8911,8951),(8910,8950)]))
 ·intro u;replace h:=iG u h;refine dP [0] ?_;exact bY h (aC [])
 ·intro u;replace h:=iH u h;refine aF ?_;exact bY h (aC [])
theorem Oc{a0 a1 a2 r}(h:rU a0 a1 a2=some r):
 WC Tryz.prog 250 [.v Q2 a0,.v Q0 a1,.v aO a2] (.WN [.v Q2 r.1,.v Q9 r.2]) []:=by
 refine WC.of Tryz.func250 Y Tryz.ntmps250 Y ?_;intro S w u;unfold rU at h;refine aJ (.k (cI 101 Y (.VL sO (.VL sO sO)) Y) (.k (cI 102 Y sO Y) (.k (aN 103 Tg Y (.cons (Z.sl aO) (.cons (Z.sl gF) (.cons (Z.int .i64) .nil))) Y) (.f [1,3,5,6] ?_))));obtain⟨H,I,h⟩:=aA h;refine jJ (.k (aT Y Y (.VL sO (.VL sO sO)) sC lF) (.k (aM (uP I) NW (.cons (.dir Y) .nil)) (.f [1,3,5,6,8] ?_)));refine aL [1,3,5,6,8,13] ?_;refine aU h Y (fun C h=>?_) (fun C h=>?_)
 ·refine aJ (.k (fH (new:=[(105,.arr 214 gF ([]:Q6))]) rI (.cons (Z.sl aO) (.ref 105 Y (.cons (Z.int .i64) .nil))) (.cons .nil) Y .nil) (.f [6,7] ?_));refine aH ?_;obtain rfl:=pT h;exact cB (σ':=⟨[(6,.ptr 90 0),(7,.v Q9 H)],[(90,.box 186 [.v Q5 ([]:jO),.v Q1 ([]:Q6),.v Q0 (0:Int)])]⟩) (aC [(90,103)]) (bS u dR Y (aV Y Y (.VL sO (.VL sO sO)) sC lF) (RV.tmp Y) .nil Y)
 refine aF ?_;refine aG ?_;refine aG ?_;obtain⟨K,z,h⟩:=aA h;refine eB (σ':=⟨[(1,.v Q0 a1),(3,.ptr 101 0),(5,.ptr 102 0),(6,.ptr 103 0),(24,.v Wr.bool K)],[(101,.box 186 [.v Q5 a0.1,.v Q1 a0.2.1,.v Q0 a0.2.2]),(102,.box 30 [.v aO a2]),(103,.box 186 [.v Q5 ([]:jO),.v Q1 ([]:Q6),.v Q0 (0:Int)])]⟩) ?_ ?_
 ·refine cd z (fun D z=>?_) (fun D z=>?_)
  ·cases z;exact jy
  cases z;exact jy
 refine aU h Y (fun E h=>?_) (fun E h=>?_)
 ·refine aJ (.k (fH (new:=[(106,.arr 214 gF ([]:Q6))]) rI (.cons (Z.sl aO) (.ref 106 Y (.cons (Z.int .i64) .nil))) (.cons .nil) Y .nil) (.f [6,7] ?_));refine aH ?_;obtain rfl:=pT h;exact cB (σ':=⟨[(6,.ptr 90 0),(7,.v Q9 (some (1:Int)))],[(90,.box 186 [.v Q5 ([]:jO),.v Q1 ([]:Q6),.v Q0 (0:Int)])]⟩) (aC [(90,103)]) (bS u dR Y (aV Y Y (.VL sO (.VL sO sO)) sC lF) (RV.tmp Y) .nil Y)
 refine aF ?_;refine cT [1,3,5,6,30] ?_;refine aU h Y (fun F h=>?_) (fun F h=>?_)
 ·refine aJ (.k (fH (new:=[(107,.arr 214 gF ([]:Q6))]) rI (.cons (Z.sl aO) (.ref 107 Y (.cons (Z.int .i64) .nil))) (.cons .nil) Y .nil) (.f [6,7] ?_));refine aH ?_;obtain rfl:=pT h;exact cB (σ':=⟨[(6,.ptr 90 0),(7,.v Q9 (some (2:Int)))],[(90,.box 186 [.v Q5 ([]:jO),.v Q1 ([]:Q6),.v Q0 (0:Int)])]⟩) (aC [(90,103)]) (bS u dR Y (aV Y Y (.VL sO (.VL sO sO)) sC lF) (RV.tmp Y) .nil Y)
 refine aF ?_;obtain⟨P,L,h⟩:=aA h;refine aJ (.k (aT Y Y (.VL sO (.VL sO sO)) sC lF) (.k (fI 108000 (Dt L) Tryz.call264 (.cons (.dir Y) .nil) Y) (.f [1,3,5,6] ?_)));obtain⟨B,M,h⟩:=aA h;refine jJ (.t (eM [101,108000,108001] (Bu [(9000,101),(8950,108000),(8951,108001),(8910,109),(8911,110)]) (eO _) (fun A=>uW A M) Tryz.call265 (fun A=>(.box Y (.arr (.arr .nil Y) Y) Y))) (.f [1,3,5,6,9] ?_));refine aL [1,3,5,6,9,37] ?_;refine aU h Y (fun G h=>?_) (fun G h=>?_)
 ·refine aJ (.k (fH (new:=[(111,.arr 214 gF ([]:Q6))]) rI (.cons (Z.sl aO) (.ref 111 Y (.cons (Z.int .i64) .nil))) (.cons .nil) Y .nil) (.f [6,7] ?_));refine aH ?_;obtain rfl:=pT h;exact cB (σ':=⟨[(6,.ptr 90 0),(7,.v Q9 B.1)],[(90,.box 186 [.v Q5 ([]:jO),.v Q1 ([]:Q6),.v Q0 (0:Int)])]⟩) (aC [(90,103)]) (bS u dR Y (aV Y Y (.VL sO (.VL sO sO)) sC lF) (RV.tmp Y) .nil Y)
 refine aF ?_;obtain⟨N,O,h⟩:=aA h;refine aJ (.a 4 ?_);refine .k (bQ wA (.cons (Z.int .i64) (.cons (Z.arr 8 (Z.int .u8)) .nil)) (.cons Y (.dir Y) Y Y Y Y (.cons Y (.dir Y) Y Y Y Y .nil))) (.k (dI (e:=gF) yE jS Fb Y Y Y Y (.cons (.agg Y (.same (.same .nil)) (.VL sO sO) Y) .nil)) (.t (bT 112 O Y Y (.sl Y) yE Kv jS Y Y Y Y Y) (.f [3,6] ?_)));refine aJ (.k (hO Y Y Y sC lF) (.f [6,7] ?_));refine aH ?_;obtain rfl:=pT h;exact cB (σ':=⟨[(6,.ptr 90 0),(7,.v Q9 (none:Option Int))],[(90,.box 186 [.v Q5 B.2.1,.v Q1 N,.v Q0 B.2.2.2])]⟩) (aC [(90,103)]) (bS u dR Y (aV Y Y (.VL sO (.VL sO sO)) sC lF) (RV.tmp Y) .nil Y)
theorem iL(A:Nat->Nat){VZ WI a1 a2 r}(h:dX VZ WI a1 a2=some r):
 VQ Tryz.prog 215 [.ptr 9000 0,.v Q0 a1,.v aO a2] [(9000,.box 188 [.v Q0 VZ,.v Q2 WI] (some (A 9000)))] (.v Q9 r.1) [(9000,.box 188 [.v Q0 r.2.1,.v Q2 r.2.2] (some (A 9000)))]:=by
 refine VQ.of Tryz.func215 Y Tryz.ntmps215 Y ?_;intro S w R B;unfold dX at h;refine aJ (.k (cI 101 Y sO Y) (.f [0,1,5] ?_));refine aG ?_;obtain⟨C,D,h⟩:=aA h;refine dY 13 mixed (by exact(.k (aD Y) (.k (aK Y) (.k (aB 1 Y wI Y lF Y Y) (.k (aI Y Y Y sC lF) (.k (aD Y) (.k (aI Y Y Y tI kB) (.k (aM (Oc D) Tryz.call250 (.cons (.dir Y) (.cons (.dir Y) (.cons (.dir Y) .nil)))) (.k (aD Y) (.k (bV Y Y) (.k (bV Y Y) (.k (aN 103 Tg Y (.cons (Z.sl aO) (.cons (Z.sl gF) (.cons (Z.int .i64) .nil))) Y) (XR.storeAll (.none Y) Y Y Y Y (.VL sO (.VL sO sO)) lF (.k (bO Y) .nil)))))))))))))) (by exact(J.kp [0,7,8] [])) ?_;refine jJ (.a 1 ?_);refine .k (iF Ny Y) (.f [0,7,8,20] ?_);obtain⟨E,F,h⟩:=eZ h;refine sR (fun z:Cv=>⟨[(0,.ptr 9000 0),(8,.v Q9 C.2)],[(9000,.box 188 [.v Q0 VZ,.v Q2 z] (some (A 9000)))]⟩) (fun x=>E x=some r) Y ?_ ?_ ?_
 ·intro z h;rw[F] at h;refine aL [0,6] ?_;cases h;exact aH (dT B Y (RV.tmp Y) (.cons Y .nil))
 ·intro u;replace h:=iG u h;refine eQ (.a 1 ?_);refine .k (aT Y Y (.VL sO (.VL sO sO)) sC lF) (.f [0,8] ?_);exact bY h (aC [])
 ·intro u;replace h:=iH u h;refine aF ?_;exact bY h (aC [])
theorem sX(A:Nat->Nat){VZ WI r}(h:gR VZ WI=some r):
 VQ Tryz.prog 206 [.ptr 9000 0] [(9000,.box 188 [.v Q0 VZ,.v Q2 WI] (some (A 9000))),(9100,.box 74 [.ptr 9000 0] (some (A 9100)))] (.v Q9 r.1) [(9000,.box 188 [.v Q0 r.2.1,.v Q2 r.2.2] (some (A 9000))),(9100,.box 74 [.ptr 9000 0] (some (A 9100)))]:=by
 refine VQ.of Tryz.func206 Y Tryz.ntmps206 Y ?_;intro S w R G;unfold gR at h;refine aL [0] ?_;refine aG ?_;obtain⟨E,M,h⟩:=aA h;refine dY 16 mixed (by exact(.k (aD Y) (.k (aK Y) (.k (aB 1 Y wI Y lF Y Y) (.k (aI Y Y Y sC lF) (.k (aD Y) (.k (aK Y) (.k (aB 0 Y wI Y S3 Y Y) (.k (aI Y Y Y G3 S3) (.k (cU Y Y Y) (.k (aM (qH M) EN (.cons (.dir Y) (.cons (.dir Y) .nil))) (.k (aD Y) (.k (bV Y Y) (.k (bV Y Y) (.k (aN 102 Aq Y (.cons (Z.arr 8 (Z.int .u8)) .nil) Y) (XR.store (.none Y) Y Y Y Y Y Y Y kB (.k (bO Y) .nil))))))))))))))))) (by exact(J.kp [0,3,4] [])) ?_;refine cT [0,3,4,5] ?_;obtain⟨ad,N,O,ae⟩:=cL h;refine jP (σs:=fun u:(Option Int)×Int×Int×Cv=>⟨[(0,.ptr 9000 0),(3,.ptr 102 0),(4,.v Q9 u.1),(5,.v Q0 u.2.1)],[(9000,.box 188 [.v Q0 u.2.2.1,.v Q2 u.2.2.2] (some (A 9000))),(102,.box 30 [.v aO E.1]),(9100,.box 74 [.ptr 9000 0] (some (A 9100)))]⟩) (fun B:(Option Int)×Int×Cv=>⟨[(0,.ptr 9000 0),(4,.v Q9 B.1)],[(9000,.box 188 [.v Q0 B.2.1,.v Q2 B.2.2] (some (A 9000))),(9100,.box 74 [.ptr 9000 0] (some (A 9100)))]⟩) N (aC []) ?_ ?_
 ·intro B H;have h:=O _ H;refine aL [0,2] ?_;cases h;exact aH (dT G Y (RV.tmp Y) (.cons Y (.cons Y .nil)))
 intro u I h;refine aG ?_;refine aG ?_;obtain⟨P,z,h⟩:=aA h;refine eB (σ':=⟨[(0,.ptr 9000 0),(3,.ptr 102 0),(4,.v Q9 u.1),(5,.v Q0 u.2.1),(28,.v Wr.bool P)],[(9000,.box 188 [.v Q0 u.2.2.1,.v Q2 u.2.2.2] (some (A 9000))),(102,.box 30 [.v aO E.1]),(9100,.box 74 [.ptr 9000 0] (some (A 9100)))]⟩) ?_ ?_
 ·refine cd z (fun F z=>?_) (fun F z=>?_)
  ·obtain⟨af,Q,z⟩:=aA z;cases z;refine ja 1 ?_;refine(J.k (iF Ny Y) ?_);refine ja 3 ?_;exact(J.g F (aM (tC Q) NY (.cons (.dir Y) .nil)) jy)
  cases z;refine ja 1 ?_;exact(J.k (iF Ny Y) jy)
 refine aU h Y (fun K h=>?_) (fun K h=>?_)
 ·refine aF ?_;refine aG ?_;refine bR ?_;refine aJ (.k (aN 129 Aq Y (.cons (Z.arr 8 (Z.int .u8)) .nil) Y) (.k (aN 130 Aq Y (.cons (Z.arr 8 (Z.int .u8)) .nil) Y) (.f [0,3,5,6,7] ?_)));refine aG ?_;refine aG ?_;obtain⟨T,U,h⟩:=aA h;refine dY 18 mixed (by exact(.k (aD Y) (.k (aK Y) (.k (aB 1 Y wI Y lF Y Y) (.k (aI Y Y Y sC lF) (.k (aD Y) (.k (aK Y) (.k (aB 0 Y wI Y S3 Y Y) (.k (aI Y Y Y G3 S3) (.k (cU Y Y Y) (.k (aD Y) (.k (cU Y Y Y) (.k (cU Y Y Y) (.k (aM (qH U) EN (.cons (.dir Y) (.cons (.dir Y) .nil))) (.k (aD Y) (.k (bV Y Y) (.k (bV Y Y) (XR.store (.none Y) Y Y Y Y Y Y Y kB (.k (bO Y) .nil))))))))))))))))))) (by exact(J.kp [0,3,4,5,6,7] [])) ?_;refine aJ (.a 1 ?_);refine .k (iF Ny Y) (.f [0,3,4,5,6,7,48] ?_);obtain⟨V,X,h⟩:=eZ h;refine sR (fun C:(Option Int)×aQ=>⟨[(0,.ptr 9000 0),(3,.ptr 102 0),(4,.v Q9 C.1),(5,.v Q0 u.2.1),(6,.ptr 129 0),(7,.ptr 130 0)],[(9000,.box 188 [.v Q0 u.2.2.1,.v Q2 u.2.2.2] (some (A 9000))),(102,.box 30 [.v aO E.1]),(129,.box 30 [.v aO T.1]),(130,.box 30 [.v aO C.2]),(9100,.box 74 [.ptr 9000 0] (some (A 9100)))]⟩) (fun x=>V x=some I) Y ?_ ?_ ?_
  ·intro C h;rw[X] at h;refine aJ (.a 1 ?_);refine .k (iF Ny Y) (.f [0,3,4,5,6,7,66] ?_);refine aU h Y (fun L h=>?_) (fun L h=>?_)
   ·obtain⟨ah,aa,h⟩:=aA h;obtain⟨ai,ab,h⟩:=aA h;refine dY 4 mixed (by exact(.k (aD Y) (.k (aI Y Y Y tI kB) (.k (aM (tC aa) NY (.cons (.dir Y) .nil)) (.k (aI Y Y Y tI kB) .nil))))) (by exact(J.t (eM [9000] (Bu [(9000,9000)]) (eO _) (fun A=>iL A ab) JV (fun A=>(.box Y .nil Y))) (jz [0,3,4,5]))) ?_;refine aZ ?_;refine dP [0,3,4,5] ?_;cases h;exact cF (aC [])
   refine aF ?_;refine aZ ?_;refine dP [0,3,4,5] ?_;cases h;exact cF (aC [])
  ·intro D;replace h:=iG D h;obtain⟨am,ac,h⟩:=aA h;refine dY 18 mixed (by exact(.k (aD Y) (.k (aK Y) (.k (aB 1 Y wI Y lF Y Y) (.k (aI Y Y Y sC lF) (.k (aD Y) (.k (aK Y) (.k (aB 0 Y wI Y S3 Y Y) (.k (aI Y Y Y G3 S3) (.k (cU Y Y Y) (.k (aD Y) (.k (cU Y Y Y) (.k (cU Y Y Y) (.k (aM (qH ac) EN (.cons (.dir Y) (.cons (.dir Y) .nil))) (.k (aD Y) (.k (bV Y Y) (.k (bV Y Y) (XR.store (.none Y) Y Y Y Y Y Y Y kB (.k (bO Y) .nil))))))))))))))))))) (by exact(J.kp [0,3,4,5,6,7] [])) ?_;exact bY h (aC [])
  ·intro D;replace h:=iH D h;refine aF ?_;exact bY h (aC [])
 cases h;exact dB (dJ (aC []))
theorem Od{a0 r}(h:rV a0=some r):
 WC Tryz.prog 248 [.v Q2 a0] (.WN [.v Q2 r.1,.v Q9 r.2]) []:=by
 refine WC.of Tryz.func248 Y Tryz.ntmps248 Y ?_;intro S w z;unfold rV at h;refine aJ (.k (cI 101 Y (.VL sO (.VL sO sO)) Y) (.k (aN 102 Tg Y (.cons (Z.sl aO) (.cons (Z.sl gF) (.cons (Z.int .i64) .nil))) Y) (.f [1,2] ?_)));obtain⟨K,L,h⟩:=aA h;refine jJ (.k (aT Y Y (.VL sO (.VL sO sO)) sC lF) (.k (aM (uP L) NW (.cons (.dir Y) .nil)) (.f [1,2,4] ?_)));refine aL [1,2,4,11] ?_;refine aU h Y (fun G h=>?_) (fun G h=>?_)
 ·refine aJ (.k (bQ rI (.cons (Z.sl aO) (.cons (Z.sl gF) (.cons (Z.int .i64) .nil))) .nil) (.f [2,3] ?_));refine aH ?_;obtain rfl:=pT h;exact cB (σ':=⟨[(2,.ptr 90 0),(3,.v Q9 K)],[(90,.box 186 [.v Q5 ([]:jO),.v Q1 ([]:Q6),.v Q0 (0:Int)])]⟩) (aC [(90,102)]) (bS z dR Y (aV Y Y (.VL sO (.VL sO sO)) sC lF) (RV.tmp Y) .nil Y)
 refine aF ?_;obtain⟨R,M,h⟩:=aA h;refine aJ (.k (aT Y Y (.VL sO (.VL sO sO)) sC lF) (.k (fI 104000 (Dt M) Tryz.call264 (.cons (.dir Y) .nil) Y) (.f [1,2] ?_)));obtain⟨u,N,h⟩:=aA h;refine jJ (.t (eM [101,104000,104001] (Bu [(9000,101),(8950,104000),(8951,104001),(8910,105),(8911,106)]) (eO _) (fun A=>uW A N) Tryz.call265 (fun A=>(.box Y (.arr (.arr .nil Y) Y) Y))) (.f [1,2,5] ?_));refine aL [1,2,5,18] ?_;refine aU h Y (fun H h=>?_) (fun H h=>?_)
 ·refine aJ (.k (bQ rI (.cons (Z.sl aO) (.cons (Z.sl gF) (.cons (Z.int .i64) .nil))) .nil) (.f [2,3] ?_));refine aH ?_;obtain rfl:=pT h;exact cB (σ':=⟨[(2,.ptr 90 0),(3,.v Q9 u.1)],[(90,.box 186 [.v Q5 ([]:jO),.v Q1 ([]:Q6),.v Q0 (0:Int)])]⟩) (aC [(90,102)]) (bS z dR Y (aV Y Y (.VL sO (.VL sO sO)) sC lF) (RV.tmp Y) .nil Y)
 refine aF ?_;refine cT [1,2,22,23,24] ?_;obtain⟨T,O,P,U⟩:=cL h;refine jP (σs:=fun C:Int×jO=>⟨[(1,.ptr 101 0),(2,.ptr 102 0),(22,.ref 106),(23,.v Q0 (u.2.2.1.length:Int)),(24,.v Q0 C.1)],[(101,.box 186 [.ref 105,.ref 106,.v Q0 u.2.2.2]),(102,.box 186 [.v Q5 ([]:jO),.v Q1 ([]:Q6),.v Q0 (0:Int)]),(106,.arr 214 gF u.2.2.1),(105,.arr 30 aO C.2)]⟩) (fun B:jO=>⟨[(1,.ptr 101 0),(2,.ptr 102 0)],[(101,.box 186 [.ref 105,.ref 106,.v Q0 u.2.2.2]),(102,.box 186 [.v Q5 ([]:jO),.v Q1 ([]:Q6),.v Q0 (0:Int)]),(105,.arr 30 aO B),(106,.arr 214 gF u.2.2.1)]⟩) O (aC []) ?_ ?_
 ·intro B F;have h:=P _ F;refine aJ (.a 1 ?_);refine .t (uF 111 214 gF Y Y Y Y Ik Y) (.f [1,2] ?_);refine aJ (.k (hO Y Y Y sC lF) (.f [2,3] ?_));refine aH ?_;obtain rfl:=pT h;exact cB (σ':=⟨[(2,.ptr 90 0),(3,.v Q9 (none:Option Int))],[(90,.box 186 [.v Q5 B,.v Q1 ([]:Q6),.v Q0 u.2.2.2])]⟩) (aC [(90,102)]) (bS z dR Y (aV Y Y (.VL sO (.VL sO sO)) sC lF) (RV.tmp Y) .nil Y)
 intro C Q h;refine aL [1,2,22,23,24,25] ?_;refine aG ?_;refine aU h Y (fun I h=>?_) (fun I h=>?_)
 ·refine aF ?_;refine aG ?_;refine bR ?_;obtain⟨V,D,h⟩:=aA h;refine aJ (.k (iY D Y Y Y yE jS) (.k (jR (dG D).2.2 Y Y .here Zb jS) (.k (aN 110 Fb Y (.cons (Z.int .i64) (.cons (Z.arr 8 (Z.int .u8)) .nil)) Y) (.t (bW Y Y Y Y (.VL sO sO) jS) (.f [1,2,7,22,23,24] ?_)))));obtain⟨X,E,h⟩:=aA h;refine eQ (.a 6 ?_);refine .k (iY E Y Y Y Jo kB) (.t (qZ (dG E).2.2 Y Y Y kB) (.f [1,2,22,23,24] ?_));refine aZ ?_;refine dP [1,2,22,23,24] ?_;cases h;exact cF (aC [])
 cases h;exact dB (dJ (aC []))
theorem jZ(A:Nat->Nat){VZ WI r}(h:eR VZ WI=some r):
 VQ Tryz.prog 207 [.ptr 9000 0] [(9000,.box 188 [.v Q0 VZ,.v Q2 WI] (some (A 9000))),(9100,.box 74 [.ptr 9000 0] (some (A 9100)))] (.v Q9 r.1) [(9000,.box 188 [.v Q0 r.2.1,.v Q2 r.2.2] (some (A 9000))),(9100,.box 74 [.ptr 9000 0] (some (A 9100)))]:=by
 refine VQ.of Tryz.func207 Y Tryz.ntmps207 Y ?_;intro S w R B;unfold eR at h;refine aL [0] ?_;obtain⟨C,D,h⟩:=aA h;refine aJ (.a 4 ?_);refine .k (aM (Od D) Tryz.call248 (.cons (.dir Y) .nil)) ?_;refine .a 3 ?_;refine .k (aN 102 Tg Y (.cons (Z.sl aO) (.cons (Z.sl gF) (.cons (Z.int .i64) .nil))) Y) (.t (bW Y Y Y Y (.VL sO (.VL sO sO)) lF) (.f [0,3,4] ?_));refine jJ (.a 1 ?_);refine .k (iF Ny Y) (.f [0,3,4,14] ?_);obtain⟨E,F,h⟩:=eZ h;refine sR (fun z:Cv=>⟨[(0,.ptr 9000 0),(4,.v Q9 C.2)],[(9000,.box 188 [.v Q0 VZ,.v Q2 z] (some (A 9000))),(9100,.box 74 [.ptr 9000 0] (some (A 9100)))]⟩) (fun x=>E x=some r) Y ?_ ?_ ?_
 ·intro z h;rw[F] at h;refine aL [0,2] ?_;cases h;exact aH (dT B Y (RV.tmp Y) (.cons Y (.cons Y .nil)))
 ·intro u;replace h:=iG u h;refine eQ (.a 1 ?_);refine .k (aT Y Y (.VL sO (.VL sO sO)) sC lF) (.f [0,4] ?_);exact bY h (aC [])
 ·intro u;replace h:=iH u h;refine aF ?_;exact bY h (aC [])
theorem yF(A:Nat->Nat){a1 Z0 dy r}(h:iS a1 Z0 dy=some r):
 VQ Tryz.prog 249 [.ptr 9100 0,.XY (Wr.int .u8) a1] [(9000,.box 188 [.v Q0 Z0,.v Q2 dy] (some (A 9000))),(9100,.box 74 [.ptr 9000 0] (some (A 9100)))] (.v Q9 r.1) [(9000,.box 188 [.v Q0 r.2.1,.v Q2 r.2.2] (some (A 9000))),(9100,.box 74 [.ptr 9000 0] (some (A 9100)))]:=by
 refine VQ.of Tryz.func249 Y Tryz.ntmps249 Y ?_;intro S w R u;unfold iS at h;refine aL [0,1] ?_;refine aG ?_;obtain⟨B,z,h⟩:=aA h;refine dY 8 mixed (by exact(.k (aI Y Y Y Nw Ij) (.k (aI Y Y Y Nw Ij) (.k (aK Y) (.k (aB 0 Y wI Y S3 Y Y) (.k (aI Y Y Y G3 S3) (.k (cU Y Y Y) (.k (cE Y G5 S5) (.k (Mk (e:=(Wr.int .u8)) (zv:=(0:Int)) Br vS I5 Y Y (Z.arr 8 (Z.int .u8)) Y Y (.cons (.dir Y) .nil)) .nil))))))))) (by exact(J.t (eM [9000] (Bu [(9000,9000)]) (eO _) (fun A=>iL A z) JV (fun A=>(.box Y .nil Y))) (jz [0,2]))) ?_;cases h;exact aH (dT u Y (RV.tmp Y) (.cons Y (.cons Y .nil)))
theorem zG(A:Nat->Nat){q n0 n1 r}(h:lD q n0 n1=some r):
 VV Tryz.prog [(9000,A 9000),(9100,A 9100)] (iD (A 9000) (A 9100)) q [(9000,.box 188 [.v Q0 n0,.v Q2 n1] (some (A 9000))),(9100,.box 74 [.ptr 9000 0] (some (A 9100)))] (.v Q9 r.1) [(9000,.box 188 [.v Q0 r.2.1,.v Q2 r.2.2] (some (A 9000))),(9100,.box 74 [.ptr 9000 0] (some (A 9100)))]:=by
 unfold lD at h;rcases q with z | z
 ·exact(VV.l (VV.L5 .nil (.pr (.m9 (i:=9100) (by simp)) .pt) Tryz.call249 (yF A h)))
 ·exact(VV.r (VV.L5 (.m9 (i:=9000) (by simp)) .nil NX (jZ A h)))
theorem tZ(A:Nat->Nat){a0 XO j7 r}(h:gG a0 XO j7=some r):
 VQ Tryz.prog 205 [.v (Wr.sl (iD (A 9000) (A 9100))) a0] [(9000,.box 188 [.v Q0 XO,.v Q2 j7] (some (A 9000))),(9100,.box 74 [.ptr 9000 0] (some (A 9100)))] (.v Q9 r.1) [(9000,.box 188 [.v Q0 r.2.1,.v Q2 r.2.2] (some (A 9000))),(9100,.box 74 [.ptr 9000 0] (some (A 9100)))]:=by
 refine VQ.of Tryz.func205 Y Tryz.ntmps205 Y ?_;intro S w R B;unfold gG at h;refine aL [0] ?_;refine cT [6,7,8] ?_;obtain⟨P,I,L,M⟩:=cL h;refine jP (σs:=fun u:Int×Int×Cv=>⟨[(6,.v (Wr.sl (iD (A 9000) (A 9100))) a0),(7,.v Q0 (a0.length:Int)),(8,.v Q0 u.1)],[(9000,.box 188 [.v Q0 u.2.1,.v Q2 u.2.2] (some (A 9000))),(9100,.box 74 [.ptr 9000 0] (some (A 9100)))]⟩) (fun z:Int×Cv=>⟨[],[(9000,.box 188 [.v Q0 z.1,.v Q2 z.2] (some (A 9000))),(9100,.box 74 [.ptr 9000 0] (some (A 9100)))]⟩) I (aC []) ?_ ?_
 ·intro z C;have h:=L _ C;refine aL [2] ?_;cases h;exact aH (dT B Y (RV.tmp Y) (.cons Y (.cons Y .nil)))
 intro u O h;refine aL [6,7,8,9] ?_;refine aG ?_;refine aU h Y (fun D h=>?_) (fun D h=>?_)
 ·refine aF ?_;refine aG ?_;refine bR ?_;obtain⟨Q,T,h⟩:=aA h;refine aL [4,6,7,8] ?_;obtain⟨U,N,h⟩:=aA h;refine aJ (.a 1 ?_);refine .t (Mp (H:=[9000,9100]) (K:=[9000,9100]) [(9000,A 9000),(9100,A 9100)] (Bu [(9000,9000),(9100,9100)]) (eO _) Y ⟨⟨_,_,Y⟩,⟨_,_,Y⟩,trivial⟩ (VV.at2 (e:=iD) (A 9000) (A 9100) (fun E=>zG E N)) (fun _=> .box Y (.box Y .nil)) (fun _=> .box Y (.box Y .nil Y) Y) (fun _=>rfl) Y Y (fun _=>rfl) Y Y) (.f [5,6,7,8] ?_);refine aL [5,6,7,8,15] ?_;refine aU h Y (fun F h=>?_) (fun F h=>?_)
  ·refine aL [2] ?_;refine aH ?_;refine eP ?_;cases h;refine gQ fun G=>?_;obtain rfl:=M _ G;exact dT B Y (RV.tmp Y) (.cons Y (.cons Y .nil))
  refine aF ?_;refine aZ ?_;refine dP [6,7,8] ?_;cases h;exact cF (aC [])
 cases h;exact dB (dJ (aC []))
theorem oQ(A:Nat->Nat){VZ WI a1 r}(h:fR VZ WI a1=some r):
 VQ Tryz.prog 209 [.ptr 9000 0,.v (Wr.int .u8) a1] [(9000,.box 188 [.v Q0 VZ,.v Q2 WI] (some (A 9000)))] (.v Q9 r.1) [(9000,.box 188 [.v Q0 r.2.1,.v Q2 r.2.2] (some (A 9000)))]:=by
 refine VQ.of Tryz.func209 Y Tryz.ntmps209 Y ?_;intro S w R z;unfold fR at h;refine aJ (.k (Ja 101 Y Y) (.k (cI 102 Y sO Y) (.f [0,2,3] ?_)));refine AK (i:=101) Y fun u=>?_;refine wM (σ':=⟨[(0,.ptr 9000 0),(2,.ptr 101 0),(3,.ptr 102 0)],[(9000,.box 188 [.v Q0 VZ,.v Q2 WI] (some (A 9000))),(101,.box 74 [.ptr 9000 0] (some (u))),(102,.box 5 [.v (Wr.int .u8) a1])]⟩) (aC []) ?_;obtain⟨F,E,h⟩:=aA h;refine aJ (.sub (σ':=⟨[(0,.ptr 9000 0),(2,.ptr 101 0),(3,.XY (Wr.int .u8) a1)],[(9000,.box 188 [.v Q0 VZ,.v Q2 WI] (some (A 9000))),(101,.box 74 [.ptr 9000 0] (some (u)))]⟩) (Sw.Sub.mk id (.cons Y (.of_eq Y) (.cons Y (.of_eq Y) (.cons Y (.D2 Y Y (.cons (.of_eq Y) .nil) sO) .nil))) (.box Y (.cons (.of_eq Y) (.cons (.of_eq Y) .nil)) (.box Y (.cons (.of_eq Y) .nil) .nil)) Y) (.k (nY .nil (.cons (.m9 Y Y) (.XY Y)) (.l .self)) (.k (aI Y Y Y Nw Ij) (.k (nY (.m9 Y Y) .nil (.r .self)) (.k (dI (e:=(iD (A 9000) (u))) Ws OZ TH Y Y Y Y (.cons (.dir Y) (.cons (.dir Y) .nil))) (.t (Jb (H:=[9000,101]) (K:=[9000,101]) [(9000,A 9000),(9100,u)] (Bu [(9000,9000),(9100,101)]) (eO _) ⟨⟨_,_,Y⟩,⟨_,_,Y⟩,trivial⟩ (VQ.at2 (ss:=fun B C=>[.v (Wr.sl (iD B C)) ([(.inl ((),((),a1)):dH),(.inr ((),()):dH)]:(List dH))]) (A 9000) u (fun D=>tZ D E)) Tryz.call205 (.cons (.dir Y) .nil) (fun _=> .box Y (.box Y .nil)) (fun _=> .box Y (.box Y .nil Y) Y) (fun _=>rfl) Y Y (fun _=>rfl) Y Y) (.f [0,4] ?_)))))));cases h;exact aH (dT z Y (RV.tmp Y) (.cons Y .nil))
theorem xB(A:Nat->Nat){XO j7 r}(h:mH XO j7=some r):
 VQ Tryz.prog 208 [.ptr 9100 0] [(9000,.box 188 [.v Q0 XO,.v Q2 j7] (some (A 9000))),(9100,.box 74 [.ptr 9000 0] (some (A 9100)))] (.v Q9 r.1) [(9000,.box 188 [.v Q0 r.2.1,.v Q2 r.2.2] (some (A 9000))),(9100,.box 74 [.ptr 9000 0] (some (A 9100)))]:=by
 refine VQ.of Tryz.func208 Y Tryz.ntmps208 Y ?_;intro S w R u;unfold mH at h;refine aL [0] ?_;obtain⟨B,z,h⟩:=aA h;refine aJ (.a 1 ?_);refine .t (eM [9000] (Bu [(9000,9000)]) (eO _) (fun A=>oQ A z) Tryz.call209 (fun A=>(.box Y .nil Y))) (.f [0,1] ?_);cases h;exact aH (dT u Y (RV.tmp Y) (.cons Y (.cons Y .nil)))
theorem xR(A:Nat->Nat){q n0 n1 r}(h:nD q n0 n1=some r):
 VV Tryz.prog [(9000,A 9000),(9100,A 9100)] (gC (A 9000) (A 9100)) q [(9000,.box 188 [.v Q0 n0,.v Q2 n1] (some (A 9000))),(9100,.box 74 [.ptr 9000 0] (some (A 9100)))] (.v Q9 r.1) [(9000,.box 188 [.v Q0 r.2.1,.v Q2 r.2.2] (some (A 9000))),(9100,.box 74 [.ptr 9000 0] (some (A 9100)))]:=by
 unfold nD at h;rcases q with z | z | z
 ·exact(VV.l (VV.L5 (.m9 (i:=9000) (by simp)) .nil Tryz.call206 (sX A h)))
 ·exact(VV.r (VV.l (VV.L5 (.m9 (i:=9000) (by simp)) .nil NX (jZ A h))))
 ·exact(VV.r (VV.r (VV.L5 .nil (.m9 (i:=9100) (by simp)) Tryz.call208 (xB A h))))
theorem sY(A:Nat->Nat){a0 XO j7 r}(h:iW a0 XO j7=some r):
 VQ Tryz.prog 205 [.v (Wr.sl (gC (A 9000) (A 9100))) a0] [(9000,.box 188 [.v Q0 XO,.v Q2 j7] (some (A 9000))),(9100,.box 74 [.ptr 9000 0] (some (A 9100)))] (.v Q9 r.1) [(9000,.box 188 [.v Q0 r.2.1,.v Q2 r.2.2] (some (A 9000))),(9100,.box 74 [.ptr 9000 0] (some (A 9100)))]:=by
 refine VQ.of Tryz.func205 Y Tryz.ntmps205 Y ?_;intro S w R B;unfold iW at h;refine aL [0] ?_;refine cT [6,7,8] ?_;obtain⟨P,I,L,M⟩:=cL h;refine jP (σs:=fun u:Int×Int×Cv=>⟨[(6,.v (Wr.sl (gC (A 9000) (A 9100))) a0),(7,.v Q0 (a0.length:Int)),(8,.v Q0 u.1)],[(9000,.box 188 [.v Q0 u.2.1,.v Q2 u.2.2] (some (A 9000))),(9100,.box 74 [.ptr 9000 0] (some (A 9100)))]⟩) (fun z:Int×Cv=>⟨[],[(9000,.box 188 [.v Q0 z.1,.v Q2 z.2] (some (A 9000))),(9100,.box 74 [.ptr 9000 0] (some (A 9100)))]⟩) I (aC []) ?_ ?_
 ·intro z C;have h:=L _ C;refine aL [2] ?_;cases h;exact aH (dT B Y (RV.tmp Y) (.cons Y (.cons Y .nil)))
 intro u O h;refine aL [6,7,8,9] ?_;refine aG ?_;refine aU h Y (fun D h=>?_) (fun D h=>?_)
 ·refine aF ?_;refine aG ?_;refine bR ?_;obtain⟨Q,T,h⟩:=aA h;refine aL [4,6,7,8] ?_;obtain⟨U,N,h⟩:=aA h;refine aJ (.a 1 ?_);refine .t (Mp (H:=[9000,9100]) (K:=[9000,9100]) [(9000,A 9000),(9100,A 9100)] (Bu [(9000,9000),(9100,9100)]) (eO _) Y ⟨⟨_,_,Y⟩,⟨_,_,Y⟩,trivial⟩ (VV.at2 (e:=gC) (A 9000) (A 9100) (fun E=>xR E N)) (fun _=> .box Y (.box Y .nil)) (fun _=> .box Y (.box Y .nil Y) Y) (fun _=>rfl) Y Y (fun _=>rfl) Y Y) (.f [5,6,7,8] ?_);refine aL [5,6,7,8,15] ?_;refine aU h Y (fun F h=>?_) (fun F h=>?_)
  ·refine aL [2] ?_;refine aH ?_;refine eP ?_;cases h;refine gQ fun G=>?_;obtain rfl:=M _ G;exact dT B Y (RV.tmp Y) (.cons Y (.cons Y .nil))
  refine aF ?_;refine aZ ?_;refine dP [6,7,8] ?_;cases h;exact cF (aC [])
 cases h;exact dB (dJ (aC []))
theorem yG(A:Nat->Nat){VZ WI r}(h:iT VZ WI=some r):
 VQ Tryz.prog 161 [.ptr 9000 0] [(9000,.box 188 [.v Q0 VZ,.v Q2 WI] (some (A 9000)))] (.v Q9 r.1) [(9000,.box 188 [.v Q0 r.2.1,.v Q2 r.2.2] (some (A 9000)))]:=by
 refine VQ.of Tryz.func161 Y Tryz.ntmps161 Y ?_;intro S w R C;unfold iT at h;refine aJ (.k (Ja 101 Y Y) (.f [0,1] ?_));refine AK (i:=101) Y fun z=>?_;refine wM (σ':=⟨[(0,.ptr 9000 0),(1,.ptr 101 0)],[(9000,.box 188 [.v Q0 VZ,.v Q2 WI] (some (A 9000))),(101,.box 74 [.ptr 9000 0] (some (z)))]⟩) (aC []) ?_;refine aG ?_;obtain⟨L,M,h⟩:=aA h;refine dY 16 mixed (by exact(.k (aI Y Y Y Nw Ij) (.k (aK Y) (.k (aB 1 Y wI Y lF Y Y) (.k (aI Y Y Y sC lF) (.k (aI Y Y Y Nw Ij) (.k (aK Y) (.k (aB 0 Y wI Y S3 Y Y) (.k (aI Y Y Y G3 S3) (.k (cU Y Y Y) (.k (aM (qH M) EN (.cons (.dir Y) (.cons (.dir Y) .nil))) (.k (aD Y) (.k (bV Y Y) (.k (bV Y Y) (.k (aN 103 Aq Y (.cons (Z.arr 8 (Z.int .u8)) .nil) Y) (XR.store (.none Y) Y Y Y Y Y Y Y kB (.k (bO Y) .nil))))))))))))))))) (by exact(J.kp [0,1,3,4] [])) ?_;refine aG ?_;refine aG ?_;obtain⟨N,u,h⟩:=aA h;refine eB (σ':=⟨[(0,.ptr 9000 0),(1,.ptr 101 0),(4,.v Q9 L.2),(24,.v Wr.bool N)],[(9000,.box 188 [.v Q0 VZ,.v Q2 WI] (some (A 9000))),(101,.box 74 [.ptr 9000 0] (some (z)))]⟩) ?_ ?_
 ·refine cd u (fun B u=>?_) (fun B u=>?_)
  ·cases u;exact jy
  obtain⟨P,D,u⟩:=aA u;cases u;refine ja 3 ?_;exact(J.g B (rL D Y Y Y Y vS S5) (J.g B (vA (dG D).2.2 Y Y Y G5 S5) jy))
 refine aU h Y (fun E h=>?_) (fun E h=>?_)
 ·refine aL [0,2] ?_;cases h;exact aH (dT C Y (RV.tmp Y) (.cons Y .nil))
 refine aF ?_;obtain⟨Q,O,h⟩:=aA h;refine aJ (.a 1 ?_);refine .k (nY (.m9 Y Y) .nil (.l .self)) (.k (aI Y Y Y Nw Ij) (.k (nY (.m9 Y Y) .nil (.r (.l .self))) (.k (nY .nil (.m9 Y Y) (.r (.r .self))) (.k (dI (e:=(gC (A 9000) (z))) Ws OZ TH Y Y Y Y (.cons (.dir Y) (.cons (.dir Y) (.cons (.dir Y) .nil)))) (.t (Jb (H:=[9000,101]) (K:=[9000,101]) [(9000,A 9000),(9100,z)] (Bu [(9000,9000),(9100,101)]) (eO _) ⟨⟨_,_,Y⟩,⟨_,_,Y⟩,trivial⟩ (VQ.at2 (ss:=fun F G=>[.v (Wr.sl (gC F G)) ([(.inl ((),()):dE),(.inr (.inl ((),())):dE),(.inr (.inr ((),())):dE)]:(List dE))]) (A 9000) z (fun I=>sY I O)) Tryz.call205 (.cons (.dir Y) .nil) (fun _=> .box Y (.box Y .nil)) (fun _=> .box Y (.box Y .nil Y) Y) (fun _=>rfl) Y Y (fun _=>rfl) Y Y) (.f [0,2] ?_))))));cases h;exact aH (dT C Y (RV.tmp Y) (.cons Y .nil))
def xS(r:Tn×(Option Int)):Slot:=match r.1 with | none=> .WN [.v (Wr.C3 (Wr.pr Q0 Q2)) (none:Tn),.v Q9 r.2] | some z=> .WN [.ptr 0 0,.v Q9 r.2]
def xT(r:Tn×(Option Int)):List (Nat×VR):=match r.1 with | none=>[] | some z=>[(0,.box 188 [.v Q0 z.1,.v Q2 z.2])]
theorem Du{a0 a1 r}(h:mS a0 a1=some r):
 WC Tryz.prog 101 [.v Q2 a0,.v Q0 a1] (xS r) (xT r):=by
 refine WC.of Tryz.func101 Y Tryz.ntmps101 Y ?_;intro S w z;unfold mS at h;refine aJ (.k (cI 101 Y (.VL sO (.VL sO sO)) Y) (.k (jV (Wr.pr Q0 Q2)) (.f [1,2] ?_)));obtain⟨M,G,h⟩:=aA h;refine aJ (.a 1 ?_);refine .k (aM (Ds G) Tryz.call158 (.cons (.dir Y) .nil)) (.f [1,2,6,7] ?_);refine cT [1,2,6,7,17] ?_;refine aU h Y (fun B h=>?_) (fun B h=>?_)
 ·refine aJ (.a 1 ?_);refine .k (jV (Wr.pr Q0 Q2)) (.f [4,5] ?_);cases h;exact aH (bS z dR Y (RV.tmp Y) (RV.tmp Y) .nil Y)
 refine aF ?_;obtain⟨N,H,h⟩:=aA h;refine jJ (.k (aT Y Y (.VL sO (.VL sO sO)) sC lF) (.k (aM (uP H) NW (.cons (.dir Y) .nil)) (.f [1,2,6,8] ?_)));refine aG ?_;obtain⟨I,u,h⟩:=aA h;refine eB (σ':=⟨[(1,.v Q0 a1),(2,.ptr 101 0),(35,.v Wr.bool I)],[(101,.box 186 [.v Q5 a0.1,.v Q1 a0.2.1,.v Q0 a0.2.2])]⟩) ?_ ?_
 ·refine cd u (fun C u=>?_) (fun C u=>?_)
  ·cases u;exact jy
  refine cd u (fun D u=>?_) (fun D u=>?_)
  ·cases u;exact jy
  cases u;exact jy
 refine aU h Y (fun E h=>?_) (fun E h=>?_)
 ·refine aJ (.a 1 ?_);refine .k (jV (Wr.pr Q0 Q2)) (.f [4,5] ?_);cases h;exact aH (bS z dR Y (RV.tmp Y) (RV.tmp Y) .nil Y)
 refine aF ?_;refine aG ?_;obtain⟨O,K,h⟩:=aA h;refine dY 10 mixed (by exact(.k (aD Y) (.k (aB 0 Y Kx Y yD Y Y) (.k (aI Y Y Y To yD) (.k (Qa (fI 105000 (cO K) Za (.cons (.dir Y) .nil) Y) (fun _=>(Sw.Sub.mk id (.cons Y (.U4 Y Y) .nil) .nil Y)) Y) (.k (aB 2 Y Kx Y S3 Y Y) (.k (aI Y Y Y G3 S3) (.k (bQ rI (.cons (Z.sl aO) (.cons (Z.sl gF) (.cons (Z.int .i64) .nil))) (.cons Y (.dir Y) Y Y Y Y (.cons Y (.dir Y) Y Y Y Y .nil))) (.k (bQ KE (.cons (Z.int .i64) (.cons (Z.pr (Z.sl aO) (Z.pr (Z.sl gF) (Z.int .i64))) .nil)) (.cons Y (.dir Y) Y Y Y Y (.cons Y (.agg Y (.same (.same (.same .nil))) (.VL sO (.VL sO sO)) Y) Y Y Y Y .nil))) (.k (zP 106 Y Y) (.k (bO Y) .nil))))))))))) (by exact(J.kp [9] [])) ?_;obtain⟨P,L,h⟩:=aA h;refine jJ (.a 1 ?_);refine .t (eM [106] (Bu [(9000,106)]) (eO _) (fun A=>yG A L) Tryz.call161 (fun A=>(.box Y .nil Y))) (.f [9,10] ?_);refine aL [9,10,49] ?_;refine aU h Y (fun F h=>?_) (fun F h=>?_)
 ·refine aJ (.a 1 ?_);refine .k (jV (Wr.pr Q0 Q2)) (.f [4,5] ?_);cases h;exact aH (bS z dR Y (RV.tmp Y) (RV.tmp Y) .nil Y)
 refine aF ?_;refine aL [4,5] ?_;cases h;exact aH (wO z dR Y (aC [(0,106)]))
theorem Ae{a0:Cv}{a1:Int}{r:Tn×(Option Int)}(hz:r.1=none)(h:mS a0 a1=some r):WC Tryz.prog 101 [.v Q2 a0,.v Q0 a1] (.WN [.v (Wr.C3 (Wr.pr Q0 Q2)) (none:Tn),.v Q9 r.2]) []:=by
 have:=Du h;unfold xS xT at this;rw[hz] at this;exact this
theorem Af{a0:Cv}{a1:Int}{r:Tn×(Option Int)}{z:(Int×Cv)}(hz:r.1=some z)(h:mS a0 a1=some r):WC Tryz.prog 101 [.v Q2 a0,.v Q0 a1] (.WN [.ptr 0 0,.v Q9 r.2]) [(0,.box 188 [.v Q0 z.1,.v Q2 z.2])]:=by
 have:=Du h;unfold xS xT at this;rw[hz] at this;exact this
def vD(r:Tn×(Option Int)):Slot:=match r.1 with | none=> .WN [.v (Wr.C3 (Wr.pr Q0 Q2)) (none:Tn),.v Q9 r.2] | some z=> .WN [.ptr 0 0,.v Q9 r.2]
def vE(r:Tn×(Option Int)):List (Nat×VR):=match r.1 with | none=>[] | some z=>[(0,.box 188 [.v Q0 z.1,.v Q2 z.2])]
theorem Ag{a0 r}(h:jA a0=some r):
 WC Tryz.prog 69 [.v Q0 a0] (vD r) (vE r):=by
 refine WC.of Tryz.func69 Y Tryz.ntmps69 Y ?_;intro S w u;unfold jA at h;refine aJ (.k (jV (Wr.pr Q0 Q2)) (.f [0] ?_));obtain⟨D,B,h⟩:=aA h;refine aJ (.a 1 ?_);refine .k (aM (Jr B) Tryz.call100 (.cons (.dir Y) .nil)) ?_;refine .a 3 ?_;refine .k (aN 102 Tg Y (.cons (Z.sl aO) (.cons (Z.sl gF) (.cons (Z.int .i64) .nil))) Y) (.t (bW Y Y Y Y (.VL sO (.VL sO sO)) lF) (.f [0,4,5] ?_));refine cT [0,4,5,12] ?_;refine aU h Y (fun A h=>?_) (fun A h=>?_)
 ·refine aJ (.a 1 ?_);refine .k (jV (Wr.pr Q0 Q2)) (.f [2,3] ?_);cases h;exact aH (bS u dR Y (RV.tmp Y) (RV.tmp Y) .nil Y)
 refine aF ?_;refine aG ?_;obtain⟨C,z,h⟩:=aA h;rcases ru:C.1 with _ | E
 ·replace h:=vO ru h;refine eQ (.k (aT Y Y (.VL sO (.VL sO sO)) sC lF) ?_);refine .a 1 ?_;refine .k (aM (Ae ru z) NR (.cons (.dir Y) (.cons (.dir Y) .nil))) (.f [2,3] ?_);cases h;exact aH (bS u dR Y (RV.tmp Y) (RV.tmp Y) .nil Y)
 ·replace h:=vP ru h;refine eQ (.k (aT Y Y (.VL sO (.VL sO sO)) sC lF) ?_);refine .a 1 ?_;refine .k (fI 104000 (Af ru z) NR (.cons (.dir Y) (.cons (.dir Y) .nil)) Y) (.f [2,3] ?_);cases h;exact aH (wO u dR Y (aC [(0,104000)]))
theorem tK{a0:Int}{r:Tn×(Option Int)}(hz:r.1=none)(h:jA a0=some r):WC Tryz.prog 69 [.v Q0 a0] (.WN [.v (Wr.C3 (Wr.pr Q0 Q2)) (none:Tn),.v Q9 r.2]) []:=by
 have:=Ag h;unfold vD vE at this;rw[hz] at this;exact this
theorem tL{a0:Int}{r:Tn×(Option Int)}{z:(Int×Cv)}(hz:r.1=some z)(h:jA a0=some r):WC Tryz.prog 69 [.v Q0 a0] (.WN [.ptr 0 0,.v Q9 r.2]) [(0,.box 188 [.v Q0 z.1,.v Q2 z.2])]:=by
 have:=Ag h;unfold vD vE at this;rw[hz] at this;exact this
theorem oR{a0 r}(h:fS a0=some r):
 WC Tryz.prog 162 [.XY (Wr.pr Q0 Q2) a0] (.WN [.v Q0 r.1,.v Q0 r.2.1,.v Q9 r.2.2]) []:=by
 refine WC.of Tryz.func162 Y Tryz.ntmps162 Y ?_;intro S w z;unfold fS at h;refine aL [0] ?_;refine aG ?_;obtain⟨u,C,h⟩:=aA h;refine dY 15 mixed (by exact(.k (aD Y) (.k (rN Y) (.k (eX Y wI Y lF Y (.snd .here) Y) (.k (cE Y sC lF) (.k (aD Y) (.k (rN Y) (.k (eX Y wI Y S3 Y (.fst .here) Y) (.k (cE Y G3 S3) (.k (aM (qH C) EN (.cons (.dir Y) (.cons (.dir Y) .nil))) (.k (aD Y) (.k (bV Y Y) (.k (bV Y Y) (.k (aN 102 Aq Y (.cons (Z.arr 8 (Z.int .u8)) .nil) Y) (XR.store (.none Y) Y Y Y Y Y Y Y kB (.k (bO Y) .nil)))))))))))))))) (by exact(J.kp [4,5] [])) ?_;refine cT [4,5,19] ?_;refine aU h Y (fun B h=>?_) (fun B h=>?_)
 ·refine aL [2,3,4] ?_;cases h;exact aH (wS z dR Y (RV.tmp Y) (RV.tmp Y) (RV.tmp Y) .nil Y)
 refine aF ?_;refine aG ?_;refine wM (σ':=⟨[(4,.v Q9 u.2),(5,.XY aO u.1),(19,.v Wr.bool (Option.isSome u.2))],[]⟩) (Sw.Sub.mk id (.cons Y (.of_eq Y) (.cons Y (.D2 Y Y (.cons (.of_eq Y) .nil) sO) (.cons Y (.of_eq Y) .nil))) .nil Y) ?_;obtain⟨I,D,h⟩:=aA h;obtain⟨K,A,h⟩:=aA h;obtain⟨L,E,h⟩:=aA h;obtain⟨M,F,h⟩:=aA h;obtain⟨N,G,h⟩:=aA h;obtain⟨O,H,h⟩:=aA h;refine dY 11 mixed (by exact(.k (cE Y tI kB) (.k (aM (tC D) NY (.cons (.dir Y) .nil)) (.k (Xv A Y Y Y vS S5) (.k (Qd E Y Y Y vS S5) (.k (Lf F (AL A) Y (.sl Y) tJ I5 S5 Y Y Y) (.k (Ee G Y vS) (.k (cE Y tI kB) (.k (aM (tC H) NY (.cons (.dir Y) .nil)) (.k (bO Y) (.k (bO Y) (.k (zD ET) .nil)))))))))))) (by exact(J.kp [2,3,4] [])) ?_;cases h;exact aH (wS z dR Y (RV.tmp Y) (RV.tmp Y) (RV.tmp Y) .nil Y)
theorem zH{a0 a1 r}(h:jB a0 a1=some r):
 WC Tryz.prog 211 [.v gF a0,.XY (Wr.C3 (Wr.pr Q0 Q2)) a1] (.v Wr.bool r) []:=by
 refine WC.of Tryz.func211 Y Tryz.ntmps211 Y ?_;intro S w B;unfold jB at h;refine aJ (.k (cI 101 Y (.VL sO sO) Y) (.f [1,2] ?_));refine aG ?_;obtain⟨C,z,h⟩:=aA h;refine Iu (σ':=⟨[(3,.v Wr.bool C)],[]⟩) ?_ ?_
 ·intro A;refine cd z (fun u z=>?_) (fun u z=>?_)
  ·cases z;exact qS 13 mixed A
  obtain⟨E,D,z⟩:=aA z;cases z;exact dY 13 mixed (by exact(.k (aB 0 Y Nx Y S3 Y Y) (.k (aI Y Y Y G3 S3) (.k (kC Y Y Y) (.k (aD Y) (.g u (aB 0 Y Nx Y S3 Y Y) (.g u (aI Y Y Y G3 S3) (.g u (cE Y Nw Ij) (.g u (Iz D Y) (.g u (eX Y wI Y S3 Y (.fst .here) Y) (.g u (cE Y G3 S3) (.g u (kC Y Y Y) (.k (tN u Y Y) (.k (bO Y) .nil)))))))))))))) (by exact(J.fin (aC []))) A
 cases h;exact aH (aW B dR Y (RV.tmp Y) .nil Y)
theorem jT{a0 XO r}(h:cQ a0 XO=some r):
 WC Tryz.prog 247 [.v Q1 a0,.ZR 211 [.XY (Wr.C3 (Wr.pr Q0 Q2)) XO]] (.v Q0 r) []:=by
 refine WC.of Tryz.func247 Y Tryz.ntmps247 Y ?_;intro S w u;unfold cQ at h;refine aL [0,1] ?_;refine cT [0,1,7,8] ?_;obtain⟨L,F,G,H⟩:=cL h;refine jP (σs:=fun z:Int=>⟨[(0,.v Q1 a0),(1,.ZR 211 [.XY (Wr.C3 (Wr.pr Q0 Q2)) XO]),(7,.v Q0 (a0.length:Int)),(8,.v Q0 z)],[]⟩) (fun A:Unit=>⟨[],[]⟩) F (aC []) ?_ ?_
 ·intro A B;have h:=G _ B;refine aL [4] ?_;cases h;exact aH (aW u dR Y (RV.tmp Y) .nil Y)
 intro z K h;refine aL [0,1,7,8,9] ?_;refine aG ?_;refine aU h Y (fun C h=>?_) (fun C h=>?_)
 ·refine aF ?_;refine aG ?_;refine bR ?_;refine aL [0,1,5,7,8] ?_;obtain⟨M,N,h⟩:=aA h;obtain⟨O,I,h⟩:=aA h;refine aJ (.a 5 ?_);refine .k (tQ Y (zH I) Tryz.call211 (.cons (.dir Y) .nil)) (.f [0,1,5,7,8,16] ?_);refine aU h Y (fun D h=>?_) (fun D h=>?_)
  ·refine aL [4] ?_;refine aH ?_;refine eP ?_;cases h;refine gQ fun E=>?_;obtain rfl:=H _ E;exact aW u dR Y (RV.tmp Y) .nil Y
  refine aF ?_;refine aZ ?_;refine dP [0,1,7,8] ?_;cases h;exact cF (aC [])
 cases h;exact dB (dJ (aC []))
theorem jK{a0 XO r}(h:bZ a0 XO=some r):
 WC Tryz.prog 203 [.v Q1 a0,.ZR 211 [.XY (Wr.C3 (Wr.pr Q0 Q2)) XO]] (.v Wr.bool r) []:=by
 refine WC.of Tryz.func203 Y Tryz.ntmps203 Y ?_;intro S w u;unfold bZ at h;refine aL [0,1] ?_;obtain⟨A,z,h⟩:=aA h;refine aJ (.a 2 ?_);refine .k (aM (jT z) Tryz.call247 (.cons (.dir Y) (.cons (.dir Y) .nil))) (.f [4] ?_);cases h;exact aH (aW u dR Y (RV.tmp Y) .nil Y)
theorem sD{a0 r}(h:kE a0=some r):
 WC Tryz.prog 212 [.v Q0 a0] (.v aO r) []:=by
 refine WC.of Tryz.func212 Y Tryz.ntmps212 Y ?_;intro S w u;unfold kE at h;refine aJ (.k (aN 101 Aq Y (.cons (Z.arr 8 (Z.int .u8)) .nil) Y) (.f [0,2] ?_));refine aJ (.a 1 ?_);refine .k (fB (.inr Y) (by decide) Y Y) ?_;refine .a 2 ?_;refine .k (fB (.inr Y) (by decide) Y Y) ?_;refine .a 2 ?_;refine .k (fB (.inr Y) (by decide) Y Y) ?_;refine .a 3 ?_;refine .k (Mk (e:=(Wr.int .u8)) (zv:=(0:Int)) Br vS I5 Y Y (Z.arr 8 (Z.int .u8)) Y Y (.cons (.dir Y) (.cons (.dir Y) (.cons (.dir Y) (.cons (.dir Y) .nil))))) (.f [2] ?_);refine aH ?_;obtain rfl:=pT h;exact cB (σ':=⟨[(2,.ptr 90 0)],[(90,.box 30 [.v aO ([(IntKind.wrap .u8 (sh .shr .i64 a0 (24:Int))),(IntKind.wrap .u8 (sh .shr .i64 a0 (16:Int))),(IntKind.wrap .u8 (sh .shr .i64 a0 (8:Int))),(IntKind.wrap .u8 a0)]++List.replicate 4 (0:Int):aQ)])]⟩) (aC [(90,101)]) (aW u dR Y (cK Y Y Y tI kB) .nil Y)
theorem xC(A:Nat->Nat){a1 Z0 dy r}(h:gU a1 Z0 dy=some r):
 VQ Tryz.prog 214 [.ptr 9100 0,.XY Q1 a1] [(9000,.box 188 [.v Q0 Z0,.v Q2 dy] (some (A 9000))),(9100,.box 74 [.ptr 9000 0] (some (A 9100)))] (.v Q9 r.1) [(9000,.box 188 [.v Q0 r.2.1,.v Q2 r.2.2] (some (A 9000))),(9100,.box 74 [.ptr 9000 0] (some (A 9100)))]:=by
 refine VQ.of Tryz.func214 Y Tryz.ntmps214 Y ?_;intro S w R u;unfold gU at h;refine aL [0,1] ?_;refine aG ?_;obtain⟨C,z,h⟩:=aA h;obtain⟨D,B,h⟩:=aA h;refine dY 9 mixed (by exact(.k (aI Y Y Y Nw Ij) (.k (aI Y Y Y Nw Ij) (.k (aK Y) (.k (aB 0 Y wI Y S3 Y Y) (.k (aI Y Y Y G3 S3) (.k (cU Y Y Y) (.k (cE Y FC Ik) (.k (tG Y yE) (.k (aM (sD z) NZ (.cons (.dir Y) .nil)) .nil)))))))))) (by exact(J.t (eM [9000] (Bu [(9000,9000)]) (eO _) (fun A=>iL A B) JV (fun A=>(.box Y .nil Y))) (jz [0,2]))) ?_;cases h;exact aH (dT u Y (RV.tmp Y) (.cons Y (.cons Y .nil)))
theorem xD(A:Nat->Nat){a1 a2 Y9 dw r}(h:gV a1 a2 Y9 dw=some r):
 VQ Tryz.prog 216 [.ptr 9100 0,.XY Q0 a1,.XY gF a2] [(9000,.box 188 [.v Q0 Y9,.v Q2 dw] (some (A 9000))),(9100,.box 74 [.ptr 9000 0] (some (A 9100)))] (.v Q9 r.1) [(9000,.box 188 [.v Q0 r.2.1,.v Q2 r.2.2] (some (A 9000))),(9100,.box 74 [.ptr 9000 0] (some (A 9100)))]:=by
 refine VQ.of Tryz.func216 Y Tryz.ntmps216 Y ?_;intro S w R u;unfold gV at h;refine aL [0,1,2] ?_;refine aG ?_;obtain⟨C,z,h⟩:=aA h;obtain⟨D,B,h⟩:=aA h;refine dY 12 mixed (by exact(.k (aI Y Y Y Nw Ij) (.k (aI Y Y Y Nw Ij) (.k (aK Y) (.k (aB 0 Y wI Y S3 Y Y) (.k (aI Y Y Y G3 S3) (.k (cU Y Y Y) (.k (cE Y G3 S3) (.k (cU Y Y Y) (.k (cU Y Y Y) (.k (eX Y Nx Y S3 Y (.fst .here) Y) (.k (cE Y G3 S3) (.k (aM (sD z) NZ (.cons (.dir Y) .nil)) .nil))))))))))))) (by exact(J.t (eM [9000] (Bu [(9000,9000)]) (eO _) (fun A=>iL A B) JV (fun A=>(.box Y .nil Y))) (jz [0,3]))) ?_;cases h;exact aH (dT u Y (RV.tmp Y) (.cons Y (.cons Y .nil)))
theorem xE(A:Nat->Nat){a1 a2 Y9 dw r}(h:gW a1 a2 Y9 dw=some r):
 VQ Tryz.prog 217 [.ptr 9100 0,.XY Q0 a1,.XY gF a2] [(9000,.box 188 [.v Q0 Y9,.v Q2 dw] (some (A 9000))),(9100,.box 74 [.ptr 9000 0] (some (A 9100)))] (.v Q9 r.1) [(9000,.box 188 [.v Q0 r.2.1,.v Q2 r.2.2] (some (A 9000))),(9100,.box 74 [.ptr 9000 0] (some (A 9100)))]:=by
 refine VQ.of Tryz.func217 Y Tryz.ntmps217 Y ?_;intro S w R u;unfold gW at h;refine aL [0,1,2] ?_;refine aG ?_;obtain⟨B,z,h⟩:=aA h;refine dY 11 mixed (by exact(.k (aI Y Y Y Nw Ij) (.k (aI Y Y Y Nw Ij) (.k (aK Y) (.k (aB 0 Y wI Y S3 Y Y) (.k (aI Y Y Y G3 S3) (.k (cU Y Y Y) (.k (cE Y G3 S3) (.k (cU Y Y Y) (.k (cU Y Y Y) (.k (eX Y Nx Y kB Y (.snd .here) Y) (.k (cE Y tI kB) .nil)))))))))))) (by exact(J.t (eM [9000] (Bu [(9000,9000)]) (eO _) (fun A=>iL A z) JV (fun A=>(.box Y .nil Y))) (jz [0,3]))) ?_;cases h;exact aH (dT u Y (RV.tmp Y) (.cons Y (.cons Y .nil)))
theorem xF(A:Nat->Nat){XO j7 r}(h:gX XO j7=some r):
 VQ Tryz.prog 218 [.ptr 9100 0] [(9000,.box 188 [.v Q0 XO,.v Q2 j7] (some (A 9000))),(9100,.box 74 [.ptr 9000 0] (some (A 9100)))] (.v Q9 r.1) [(9000,.box 188 [.v Q0 r.2.1,.v Q2 r.2.2] (some (A 9000))),(9100,.box 74 [.ptr 9000 0] (some (A 9100)))]:=by
 refine VQ.of Tryz.func218 Y Tryz.ntmps218 Y ?_;intro S w R u;unfold gX at h;refine aL [0] ?_;obtain⟨B,z,h⟩:=aA h;refine aJ (.a 1 ?_);refine .t (eM [9000] (Bu [(9000,9000)]) (eO _) (fun A=>oQ A z) Tryz.call209 (fun A=>(.box Y .nil Y))) (.f [0,1] ?_);cases h;exact aH (dT u Y (RV.tmp Y) (.cons Y (.cons Y .nil)))
theorem xG(A:Nat->Nat){XO j7 r}(h:gY XO j7=some r):
 VQ Tryz.prog 219 [.ptr 9100 0] [(9000,.box 188 [.v Q0 XO,.v Q2 j7] (some (A 9000))),(9100,.box 74 [.ptr 9000 0] (some (A 9100)))] (.v Q9 r.1) [(9000,.box 188 [.v Q0 r.2.1,.v Q2 r.2.2] (some (A 9000))),(9100,.box 74 [.ptr 9000 0] (some (A 9100)))]:=by
 refine VQ.of Tryz.func219 Y Tryz.ntmps219 Y ?_;intro S w R u;unfold gY at h;refine aL [0] ?_;obtain⟨B,z,h⟩:=aA h;refine aJ (.a 1 ?_);refine .t (eM [9000] (Bu [(9000,9000)]) (eO _) (fun A=>oQ A z) Tryz.call209 (fun A=>(.box Y .nil Y))) (.f [0,1] ?_);cases h;exact aH (dT u Y (RV.tmp Y) (.cons Y (.cons Y .nil)))
theorem xU(A:Nat->Nat){q n0 n1 r}(h:iJ q n0 n1=some r):
 VV Tryz.prog [(9000,A 9000),(9100,A 9100)] (bN (A 9000) (A 9100)) q [(9000,.box 188 [.v Q0 n0,.v Q2 n1] (some (A 9000))),(9100,.box 74 [.ptr 9000 0] (some (A 9100)))] (.v Q9 r.1) [(9000,.box 188 [.v Q0 r.2.1,.v Q2 r.2.2] (some (A 9000))),(9100,.box 74 [.ptr 9000 0] (some (A 9100)))]:=by
 unfold iJ at h;rcases q with z | z | z | z | z | z | z | z
 ·exact(VV.l (VV.L5 .nil (.pr (.m9 (i:=9100) (by simp)) .pt) Tryz.call214 (xC A h)))
 ·exact(VV.r (VV.l (VV.L5 .nil (.pr (.m9 (i:=9100) (by simp)) (.pr .pt .pt)) Tryz.call216 (xD A h))))
 ·exact(VV.r (VV.r (VV.l (VV.L5 .nil (.pr (.m9 (i:=9100) (by simp)) (.pr .pt .pt)) Tryz.call217 (xE A h)))))
 ·exact(VV.r (VV.r (VV.r (VV.l (VV.L5 (.m9 (i:=9000) (by simp)) .nil NX (jZ A h))))))
 ·exact(VV.r (VV.r (VV.r (VV.r (VV.l (VV.L5 .nil (.m9 (i:=9100) (by simp)) Tryz.call218 (xF A h)))))))
 ·exact(VV.r (VV.r (VV.r (VV.r (VV.r (VV.l (VV.L5 (.m9 (i:=9000) (by simp)) .nil Tryz.call206 (sX A h))))))))
 ·exact(VV.r (VV.r (VV.r (VV.r (VV.r (VV.r (VV.l (VV.L5 (.m9 (i:=9000) (by simp)) .nil NX (jZ A h)))))))))
 ·exact(VV.r (VV.r (VV.r (VV.r (VV.r (VV.r (VV.r (VV.L5 .nil (.m9 (i:=9100) (by simp)) Tryz.call219 (xG A h)))))))))
theorem sZ(A:Nat->Nat){a0 XO j7 r}(h:eN a0 XO j7=some r):
 VQ Tryz.prog 205 [.v (Wr.sl (bN (A 9000) (A 9100))) a0] [(9000,.box 188 [.v Q0 XO,.v Q2 j7] (some (A 9000))),(9100,.box 74 [.ptr 9000 0] (some (A 9100)))] (.v Q9 r.1) [(9000,.box 188 [.v Q0 r.2.1,.v Q2 r.2.2] (some (A 9000))),(9100,.box 74 [.ptr 9000 0] (some (A 9100)))]:=by
 refine VQ.of Tryz.func205 Y Tryz.ntmps205 Y ?_;intro S w R B;unfold eN at h;refine aL [0] ?_;refine cT [6,7,8] ?_;obtain⟨P,I,L,M⟩:=cL h;refine jP (σs:=fun u:Int×Int×Cv=>⟨[(6,.v (Wr.sl (bN (A 9000) (A 9100))) a0),(7,.v Q0 (a0.length:Int)),(8,.v Q0 u.1)],[(9000,.box 188 [.v Q0 u.2.1,.v Q2 u.2.2] (some (A 9000))),(9100,.box 74 [.ptr 9000 0] (some (A 9100)))]⟩) (fun z:Int×Cv=>⟨[],[(9000,.box 188 [.v Q0 z.1,.v Q2 z.2] (some (A 9000))),(9100,.box 74 [.ptr 9000 0] (some (A 9100)))]⟩) I (aC []) ?_ ?_
 ·intro z C;have h:=L _ C;refine aL [2] ?_;cases h;exact aH (dT B Y (RV.tmp Y) (.cons Y (.cons Y .nil)))
 intro u O h;refine aL [6,7,8,9] ?_;refine aG ?_;refine aU h Y (fun D h=>?_) (fun D h=>?_)
 ·refine aF ?_;refine aG ?_;refine bR ?_;obtain⟨Q,T,h⟩:=aA h;refine aL [4,6,7,8] ?_;obtain⟨U,N,h⟩:=aA h;refine aJ (.a 1 ?_);refine .t (Mp (H:=[9000,9100]) (K:=[9000,9100]) [(9000,A 9000),(9100,A 9100)] (Bu [(9000,9000),(9100,9100)]) (eO _) Y ⟨⟨_,_,Y⟩,⟨_,_,Y⟩,trivial⟩ (VV.at2 (e:=bN) (A 9000) (A 9100) (fun E=>xU E N)) (fun _=> .box Y (.box Y .nil)) (fun _=> .box Y (.box Y .nil Y) Y) (fun _=>rfl) Y Y (fun _=>rfl) Y Y) (.f [5,6,7,8] ?_);refine aL [5,6,7,8,15] ?_;refine aU h Y (fun F h=>?_) (fun F h=>?_)
  ·refine aL [2] ?_;refine aH ?_;refine eP ?_;cases h;refine gQ fun G=>?_;obtain rfl:=M _ G;exact dT B Y (RV.tmp Y) (.cons Y (.cons Y .nil))
  refine aF ?_;refine aZ ?_;refine dP [6,7,8] ?_;cases h;exact cF (aC [])
 cases h;exact dB (dJ (aC []))
theorem hC(A:Nat->Nat){VZ WI a1 a2 a3 r}(h:cV VZ WI a1 a2 a3=some r):
 VQ Tryz.prog 163 [.ptr 9000 0,.v Q1 a1,.v Q0 a2,.v Q0 a3] [(9000,.box 188 [.v Q0 VZ,.v Q2 WI] (some (A 9000)))] (.v Q9 r.1) [(9000,.box 188 [.v Q0 r.2.1,.v Q2 r.2.2] (some (A 9000)))]:=by
 refine VQ.of Tryz.func163 Y Tryz.ntmps163 Y ?_;intro S w R D;unfold cV at h;refine aJ (.k (Ja 101 Y Y) (.f [0,1,2,3,4] ?_));refine AK (i:=101) Y fun u=>?_;refine wM (σ':=⟨[(0,.ptr 9000 0),(1,.v Q1 a1),(2,.v Q0 a2),(3,.v Q0 a3),(4,.ptr 101 0)],[(9000,.box 188 [.v Q0 VZ,.v Q2 WI] (some (A 9000))),(101,.box 74 [.ptr 9000 0] (some (u)))]⟩) (aC []) ?_;refine cT [0,1,2,3,4,21] ?_;refine aU h Y (fun Q h=>?_) (fun Q h=>?_)
 ·refine aL [0,8] ?_;cases h;exact aH (dT D Y (RV.tmp Y) (.cons Y .nil))
 refine aF ?_;refine aG ?_;refine aG ?_;obtain⟨x6,z,h⟩:=aA h;refine eB (σ':=⟨[(0,.ptr 9000 0),(1,.v Q1 a1),(2,.v Q0 a2),(3,.v Q0 a3),(4,.ptr 101 0),(37,.v Wr.bool x6)],[(9000,.box 188 [.v Q0 VZ,.v Q2 WI] (some (A 9000))),(101,.box 74 [.ptr 9000 0] (some (u)))]⟩) ?_ ?_
 ·refine cd z (fun E z=>?_) (fun E z=>?_)
  ·cases z;refine ja 2 ?_;exact(J.k (yP Y Y) jy)
  refine cd z (fun F z=>?_) (fun F z=>?_)
  ·cases z;refine ja 2 ?_;refine(J.k (yP Y Y) ?_);refine ja 4 ?_;exact(J.g E (Ba Y Y) jy)
  obtain⟨v9,ez,z⟩:=aA z;cases z;refine ja 2 ?_;refine(J.k (yP Y Y) ?_);refine ja 4 ?_;refine(J.g E (Ba Y Y) ?_);refine ja 4 ?_;exact(J.g F (tP (.cons (.dir Y) .nil)) (Zl (GK.met 33 Y Y Y F) (GU (jK ez) Tryz.call203 (.cons (.dir Y) (.fn1 Y Y Y (.VL sO sO) .nil)) XW.v Y) jy))
 refine aU h Y (fun T h=>?_) (fun T h=>?_)
 ·refine aL [0,8] ?_;cases h;exact aH (dT D Y (RV.tmp Y) (.cons Y .nil))
 refine aF ?_;obtain⟨L,je,h⟩:=aA h;obtain⟨M,W9,h⟩:=aA h;refine aJ (.a 1 ?_);refine .k (aM (sD je) NZ (.cons (.dir Y) .nil)) ?_;refine .a 1 ?_;refine .k (aM (sD W9) NZ (.cons (.dir Y) .nil)) (.k (aN 106 Aq Y (.cons (Z.arr 8 (Z.int .u8)) .nil) Y) (.k (aN 107 Aq Y (.cons (Z.arr 8 (Z.int .u8)) .nil) Y) (.f [0,1,4,9,10] ?_)));refine aG ?_;refine wM (σ':=⟨[(0,.ptr 9000 0),(1,.v Q1 a1),(4,.ptr 101 0),(9,.XY aO L),(10,.ptr 107 0)],[(9000,.box 188 [.v Q0 VZ,.v Q2 WI] (some (A 9000))),(101,.box 74 [.ptr 9000 0] (some (u))),(107,.box 30 [.v aO M])]⟩) (Sw.Sub.mk id (.cons Y (.of_eq Y) (.cons Y (.of_eq Y) (.cons Y (.of_eq Y) (.cons Y (.D2 Y Y (.cons (.of_eq Y) .nil) sO) (.cons Y (.of_eq Y) .nil))))) (.box Y (.cons (.of_eq Y) (.cons (.of_eq Y) .nil)) (.box Y (.cons (.of_eq Y) .nil) (.box Y (.cons (.of_eq Y) .nil) .nil))) Y) ?_;refine wM (σ':=⟨[(0,.ptr 9000 0),(1,.v Q1 a1),(4,.ptr 101 0),(9,.XY aO L),(10,.XY aO M)],[(9000,.box 188 [.v Q0 VZ,.v Q2 WI] (some (A 9000))),(101,.box 74 [.ptr 9000 0] (some (u)))]⟩) (Sw.Sub.mk id (.cons Y (.of_eq Y) (.cons Y (.of_eq Y) (.cons Y (.of_eq Y) (.cons Y (.of_eq Y) (.cons Y (.D2 Y Y (.cons (.of_eq Y) .nil) sO) .nil))))) (.box Y (.cons (.of_eq Y) (.cons (.of_eq Y) .nil)) (.box Y (.cons (.of_eq Y) .nil) .nil)) Y) ?_;obtain⟨vc,sj,h⟩:=aA h;obtain⟨ai,N,h⟩:=aA h;obtain⟨am,si,h⟩:=aA h;obtain⟨cz,W8,h⟩:=aA h;obtain⟨an,ab,h⟩:=aA h;obtain⟨C,W7,h⟩:=aA h;refine dY 16 mixed (by exact(.k (aD Y) (.k (fI 113000 (eU sj) JU (.cons (.dir Y) .nil) Y) (.k (aI Y Y Y Nw Ij) (.k (aK Y) (.k (aB 0 Y wI Y S3 Y Y) (.k (aI Y Y Y G3 S3) (.k (CT N Y Y Y Y vS S5) (.k (Qd si Y Y Y vS S5) (.k (Lf W8 (AL N) Y (.sl Y) tJ I5 S5 Y Y Y) (.k (Ee ab Y vS) (.k (cE Y tI kB) (.k (bQ wA (.cons (Z.int .i64) (.cons (Z.arr 8 (Z.int .u8)) .nil)) (.cons Y (.dir Y) Y Y Y Y (.cons Y (.dir Y) Y Y Y Y .nil))) (.k (dI (e:=gF) yE jS Fb Y Y Y Y (.cons (.agg Y (.same (.same .nil)) (.VL sO sO) Y) .nil)) (XR.append (.none Y) 114 W7 Y Y (.sl Y) yE Kv jS Y Y Y Y Y (.k (aN 115 Tryz.zeroValue77 Y (.cons (Z.sl gF) .nil) Y) (XR.store (.none Y) Y Y Y Y Y Y Y Ik .nil))))))))))))))))) (by exact(J.kp [0,4,11] [])) ?_;refine aJ (.sub (σ':=⟨[(0,.ptr 9000 0),(4,.ptr 101 0),(11,.XY Q1 C)],[(9000,.box 188 [.v Q0 VZ,.v Q2 WI] (some (A 9000))),(101,.box 74 [.ptr 9000 0] (some (u)))]⟩) (Sw.Sub.mk id (.cons Y (.of_eq Y) (.cons Y (.of_eq Y) (.cons Y (.D2 Y Y (.cons (.U4 Y Y) .nil) sO) .nil))) (.box Y (.cons (.of_eq Y) (.cons (.of_eq Y) .nil)) (.box Y (.cons (.of_eq Y) .nil) .nil)) Y) (.k (nY .nil (.cons (.m9 Y Y) (.XY Y)) (.l .self)) (.k (rM (e:=(bN (A 9000) (u))) 116 Ws OZ TH Y Y Y Y (.cons (.dir Y) .nil)) (.f [0,4,11,12] ?_))));refine cT [0,4,12,59,60,61] ?_;obtain⟨ap,ac,ad,av⟩:=cL h;refine jP (σs:=fun B:Int×(List aE)=>⟨[(0,.ptr 9000 0),(4,.ptr 101 0),(12,.ref 126),(59,.v Q1 C),(60,.v Q0 (C.length:Int)),(61,.v Q0 B.1)],[(9000,.box 188 [.v Q0 VZ,.v Q2 WI] (some (A 9000))),(101,.box 74 [.ptr 9000 0] (some (u))),(126,.arr 97 (bN (A 9000) (u)) B.2)]⟩) (fun I:(List aE)=>⟨[(0,.ptr 9000 0),(4,.ptr 101 0),(12,.ref 126)],[(9000,.box 188 [.v Q0 VZ,.v Q2 WI] (some (A 9000))),(101,.box 74 [.ptr 9000 0] (some (u))),(126,.arr 97 (bN (A 9000) (u)) I)]⟩) ac (aC [(126,116)]) ?_ ?_
 ·intro I P;have h:=ad _ P;obtain⟨O,ae,h⟩:=aA h;obtain⟨I0,sf,h⟩:=aA h;refine aJ (.a 2 ?_);refine .k (nY (.m9 Y Y) .nil (.r (.r (.r (.l .self))))) (.k (nY .nil (.m9 Y Y) (.r (.r (.r (.r (.l .self)))))) (.k (aI Y Y Y Nw Ij) (.k (nY (.m9 Y Y) .nil (.r (.r (.r (.r (.r (.l .self))))))) (.k (aI Y Y Y Nw Ij) (.k (nY (.m9 Y Y) .nil (.r (.r (.r (.r (.r (.r (.l .self)))))))) (.k (nY .nil (.m9 Y Y) (.r (.r (.r (.r (.r (.r (.r .self)))))))) (.k (dI (e:=(bN (A 9000) (u))) Ws OZ TH Y Y Y Y (.cons (.dir Y) (.cons (.dir Y) (.cons (.dir Y) (.cons (.dir Y) (.cons (.dir Y) .nil)))))) (.t (bT 133 ae Y Y (.sl Y) Ws Tryz.typeInfo97 OZ Y Y Y Y Y) (.sub (σ':=⟨[(0,.ptr 9000 0),(4,.ptr 101 0),(73,.ptr 9000 0),(74,.v (bN (A 9000) (u)) (.inr (.inr (.inr (.inl ((),())))):aE)),(75,.v (bN (A 9000) (u)) (.inr (.inr (.inr (.inr (.inl ((),()))))):aE)),(76,.ptr 9000 0),(77,.v (bN (A 9000) (u)) (.inr (.inr (.inr (.inr (.inr (.inl ((),())))))):aE)),(78,.ptr 9000 0),(79,.v (bN (A 9000) (u)) (.inr (.inr (.inr (.inr (.inr (.inr (.inl ((),()))))))):aE)),(80,.v (bN (A 9000) (u)) (.inr (.inr (.inr (.inr (.inr (.inr (.inr ((),()))))))):aE)),(81,.v (Wr.sl (bN (A 9000) (u))) ([(.inr (.inr (.inr (.inl ((),())))):aE),(.inr (.inr (.inr (.inr (.inl ((),()))))):aE),(.inr (.inr (.inr (.inr (.inr (.inl ((),())))))):aE),(.inr (.inr (.inr (.inr (.inr (.inr (.inl ((),()))))))):aE),(.inr (.inr (.inr (.inr (.inr (.inr (.inr ((),()))))))):aE)]:(List aE))),(82,.v (Wr.sl (bN (A 9000) (u))) O)],[(9000,.box 188 [.v Q0 VZ,.v Q2 WI] (some (A 9000))),(101,.box 74 [.ptr 9000 0] (some (u)))]⟩) (aC []) (.t (Jb (H:=[9000,101]) (K:=[9000,101]) [(9000,A 9000),(9100,u)] (Bu [(9000,9000),(9100,101)]) (eO _) ⟨⟨_,_,Y⟩,⟨_,_,Y⟩,trivial⟩ (VQ.at2 (ss:=fun U V=>[.v (Wr.sl (bN U V)) O]) (A 9000) u (fun X=>sZ X sf)) Tryz.call205 (.cons (.dir Y) .nil) (fun _=> .box Y (.box Y .nil)) (fun _=> .box Y (.box Y .nil Y) Y) (fun _=>rfl) Y Y (fun _=>rfl) Y Y) (.f [0,8] ?_)))))))))));cases h;exact aH (dT D Y (RV.tmp Y) (.cons Y .nil))
 intro B ah h;refine aL [0,4,12,59,60,61,62] ?_;refine aG ?_;refine aU h Y (fun aa h=>?_) (fun aa h=>?_)
 ·refine aF ?_;refine aG ?_;refine bR ?_;obtain⟨G,ax,h⟩:=aA h;refine aJ (.a 3 ?_);refine .k (aN 130 Z3 Y (.cons (Z.int .i64) .nil) Y) (.k (aN 131 Fb Y (.cons (Z.int .i64) (.cons (Z.arr 8 (Z.int .u8)) .nil)) Y) ?_);refine .a 1 ?_;refine .t (bW Y Y Y Y (.VL sO sO) jS) (.f [0,4,12,13,14,59,60,61] ?_);refine wM (σ':=⟨[(0,.ptr 9000 0),(4,.ptr 101 0),(12,.ref 126),(13,.XY Q0 B.1),(14,.ptr 131 0),(59,.v Q1 C),(60,.v Q0 (C.length:Int)),(61,.v Q0 B.1)],[(9000,.box 188 [.v Q0 VZ,.v Q2 WI] (some (A 9000))),(101,.box 74 [.ptr 9000 0] (some (u))),(126,.arr 97 (bN (A 9000) (u)) B.2),(131,.box 214 [.v Q0 G.1,.v aO G.2])]⟩) (Sw.Sub.mk id (.cons Y (.of_eq Y) (.cons Y (.of_eq Y) (.cons Y (.of_eq Y) (.cons Y (.D2 Y Y (.cons (.of_eq Y) .nil) sO) (.cons Y (.of_eq Y) (.cons Y (.of_eq Y) (.cons Y (.of_eq Y) (.cons Y (.of_eq Y) .nil)))))))) (.box Y (.cons (.of_eq Y) (.cons (.of_eq Y) .nil)) (.box Y (.cons (.of_eq Y) .nil) (.arr Y (.box Y (.cons (.of_eq Y) (.cons (.of_eq Y) .nil)) .nil)))) Y) ?_;obtain⟨ay,af,h⟩:=aA h;refine eQ (.a 1 ?_);refine .sub (σ':=⟨[(0,.ptr 9000 0),(4,.ptr 101 0),(12,.ref 126),(13,.XY Q0 B.1),(14,.XY gF G),(59,.v Q1 C),(60,.v Q0 (C.length:Int)),(61,.v Q0 B.1),(66,.ref 126)],[(9000,.box 188 [.v Q0 VZ,.v Q2 WI] (some (A 9000))),(101,.box 74 [.ptr 9000 0] (some (u))),(126,.arr 97 (bN (A 9000) (u)) B.2)]⟩) (Sw.Sub.mk id (.cons Y (.of_eq Y) (.cons Y (.of_eq Y) (.cons Y (.of_eq Y) (.cons Y (.of_eq Y) (.cons Y (.D2 Y Y (.cons (.of_eq Y) (.cons (.of_eq Y) .nil)) (.VL sO sO)) (.cons Y (.of_eq Y) (.cons Y (.of_eq Y) (.cons Y (.of_eq Y) (.cons Y (.of_eq Y) .nil))))))))) (.box Y (.cons (.of_eq Y) (.cons (.of_eq Y) .nil)) (.box Y (.cons (.of_eq Y) .nil) (.arr Y .nil))) Y) (.k (nY .nil (.cons (.m9 Y Y) (.cons (.XY Y) (.XY Y))) (.r (.l .self))) (.k (nY .nil (.cons (.m9 Y Y) (.cons (.XY Y) (.XY Y))) (.r (.r (.l .self)))) (.k (dI (e:=(bN (A 9000) (u))) Ws OZ TH Y Y Y Y (.cons (.dir Y) (.cons (.dir Y) .nil))) (.t (bT 132 af Y Y (.sl Y) Ws Tryz.typeInfo97 OZ Y Y Y Y Y) (.f [0,4,12,59,60,61] ?_)))));refine aZ ?_;refine dP [0,4,12,59,60,61] ?_;cases h;exact cF (aC [(126,132)])
 cases h;exact dB (dJ (aC []))
theorem zI(A:Nat->Nat){b0 b1 b2 b3 b4 b5 b6 b7 b8 b9 bA bB bC bD bE bF bG bH bI bJ r}(h:jC b0 b1 b2 b3 b4 b5 b6 b7 b8 b9 bA bB bC bD bE bF bG bH bI bJ=some r):
 VQ Tryz.prog 102 [.ptr 9000 1,.ptr 9100 0] [(9000,.box 93 [.v Q0 b0,.v (Wr.ZS (.pointer none) rfl) (),.v Q0 b1,.v Q0 b2,.v Q0 b3,.ref 9050,.v Ku b5,.ref 9051,.v Q0 b7,.v Nu b8,.v Q0 b9,.v Q0 bA,.ref 9052,.v (Wr.ZS (.pointer none) rfl) (),.v Q0 bC,.v Q0 bD,.v Q0 bE,.v Q0 bF,.v (Wr.pr Q0 Q0) bG,.ref 9053] (some (A 9000))),(9100,.box 188 [.v Q0 bI,.v Q2 bJ] (some (A 9100))),(9050,.arr 30 aO b4),(9051,.mp Q0 Q5 b6),(9052,.arr 3 Q0 bB),(9053,.arr 135 (Wr.pr Wr.bool (Wr.pr Wr.bool (Wr.sl (Wr.int .u8)))) bH)] (.v Q9 r.1) [(9000,.box 93 [.v Q0 b0,.ptr 9100 0,.v Q0 b1,.v Q0 r.2.1,.v Q0 r.2.2.1,.ref 400,.v Ku b5,.ref 401,.v Q0 b7,.v Nu b8,.v Q0 b9,.v Q0 bA,.ref 402,.v (Wr.ZS (.pointer none) rfl) (),.v Q0 bC,.v Q0 bD,.v Q0 bE,.v Q0 bF,.v (Wr.pr Q0 Q0) bG,.ref 403] (some (A 9000))),(9100,.box 188 [.v Q0 r.2.2.2.1,.v Q2 r.2.2.2.2] (some (A 9100))),(400,.arr 30 aO b4),(401,.mp Q0 Q5 b6),(402,.arr 3 Q0 bB),(403,.arr 135 (Wr.pr Wr.bool (Wr.pr Wr.bool (Wr.sl (Wr.int .u8)))) bH)]:=by
 refine VQ.of Tryz.func102 Y Tryz.ntmps102 Y ?_;intro S w R u;unfold jC at h;refine aL [0,1] ?_;refine aL [0,1] ?_;obtain⟨D,B,h⟩:=aA h;refine aJ (.a 1 ?_);refine .k (rO (oR B) Tryz.call162 (.cons (.H7 Y Y (.VL sO sO)) .nil) (XW.WN (.v (.v (.v .nil))))) (.f [0,1,5,6,7] ?_);refine cT [0,1,5,6,7,19] ?_;refine aU h Y (fun z h=>?_) (fun z h=>?_)
 ·refine aL [0,1,4] ?_;cases h;exact aH (eV u Y (aC [(403,9053),(402,9052),(401,9051),(400,9050)]))
 refine aF ?_;refine aL [0,1] ?_;refine aG ?_;obtain⟨E,C,h⟩:=aA h;refine dY 9 mixed (by exact(.k (aD Y) (.k (aD Y) (.k (aK Y) (.k (aB 3 Y Fa Y S3 Y Y) (.k (aI Y Y Y G3 S3) (.k (aD Y) (.k (aK Y) (.k (aB 4 Y Fa Y S3 Y Y) (.k (aI Y Y Y G3 S3) .nil)))))))))) (by exact(J.t (uE (H:=[9100]) (K:=[9100]) (Bu [(9000,9100)]) (eO _) (fun A=>hC A C) JT (.cons (.dir Y) (.cons (.nj _) (.cons (.dir Y) (.cons (.dir Y) .nil)))) (fun A=>(.box Y .nil)) (fun A=>(.box Y .nil Y)) (fun _=>rfl) Y Y (fun _=>rfl) Y Y) (jz [0,1,4]))) ?_;cases h;exact aH (eV u Y (aC [(403,9053),(402,9052),(401,9051),(400,9050)]))
theorem Ff{a0 a1 r}(h:kK a0 a1=some r):
 WC Tryz.prog 76 [.XY (Wr.pr Q0 Q2) a0,.v Q0 a1] (.WN [.v aO r.1,.v Q9 r.2]) []:=by
 refine WC.of Tryz.func76 Y Tryz.ntmps76 Y ?_;intro S w A;unfold kK at h;refine aJ (.k (aN 101 Aq Y (.cons (Z.arr 8 (Z.int .u8)) .nil) Y) (.f [0,1,4] ?_));refine aG ?_;refine aG ?_;obtain⟨D,u,h⟩:=aA h;refine eB (σ':=⟨[(0,.XY (Wr.pr Q0 Q2) a0),(1,.v Q0 a1),(4,.ptr 101 0),(15,.v Wr.bool D)],[(101,.box 30 [.v aO aS])]⟩) ?_ ?_
 ·refine cd u (fun z u=>?_) (fun z u=>?_)
  ·cases u;exact jy
  cases u;refine ja 5 ?_;exact(J.g z (rN Y) (J.g z (eX Y wI Y S3 Y (.fst .here) Y) jy))
 refine aU h Y (fun C h=>?_) (fun C h=>?_)
 ·refine aJ (.k (dD (e:=aO) (v:=aS) Br vS I5 Y Y (Z.arr 8 (Z.int .u8))) (.f [4,5] ?_));refine aH ?_;obtain rfl:=pT h;exact cB (σ':=⟨[(4,.ptr 90 0),(5,.v Q9 (some (1:Int)))],[(90,.box 30 [.v aO aS])]⟩) (aC [(90,101)]) (bS A dR Y (cK Y Y Y tI kB) (RV.tmp Y) .nil Y)
 refine aF ?_;obtain⟨B,E,h⟩:=aA h;refine aJ (.a 1 ?_);refine .k (rN Y) (.k (eX Y wI Y lF Y (.snd .here) Y) ?_);refine .a 2 ?_;refine .k (aM (qH E) EN (.cons (.dir Y) (.cons (.dir Y) .nil))) (.f [4,5] ?_);refine aH ?_;obtain rfl:=pT h;exact cB (σ':=⟨[(4,.ptr 90 0),(5,.v Q9 B.2)],[(90,.box 30 [.v aO B.1])]⟩) (aC [(90,101)]) (bS A dR Y (cK Y Y Y tI kB) (RV.tmp Y) .nil Y)
theorem kV{a0 r}(h:fY a0=some r):
 WC Tryz.prog 48 [.XY (Wr.pr Q0 Q2) a0] (.WN [.ref 0,.v Q9 r.2]) [(0,.arr 30 aO r.1)]:=by
 refine WC.of Tryz.func48 Y Tryz.ntmps48 Y ?_;intro S w z;unfold fY at h;refine aJ (.k (aR 101 30 aO) (.f [0] ?_));refine aJ (.k (aR 102 30 aO) (.f [0,4] ?_));refine jJ (.a 1 ?_);refine .k (rN Y) (.k (eX Y wI Y S3 Y (.fst .here) Y) (.f [0,4,11,12] ?_));obtain⟨M,F,G,H⟩:=cL h;refine jP (σs:=fun u:Int×jO=>⟨[(0,.XY (Wr.pr Q0 Q2) a0),(4,.ref 114),(11,.v Q0 a0.1),(12,.v Q0 u.1)],[(114,.arr 30 aO u.2)]⟩) (fun A:jO=>⟨[(4,.ref 114)],[(114,.arr 30 aO A)]⟩) F (aC [(114,102)]) ?_ ?_
 ·intro A B;have h:=G _ B;refine aL [2,3] ?_;cases h;exact aH (wO z dR Y (aC [(0,114)]))
 intro u L h;refine aL [0,4,11,12,13] ?_;refine aG ?_;refine aU h Y (fun C h=>?_) (fun C h=>?_)
 ·refine aF ?_;refine aG ?_;refine bR ?_;refine aL [0,4,5,11,12] ?_;obtain⟨N,I,h⟩:=aA h;refine aJ (.a 2 ?_);refine .k (aM (Ff I) Tryz.call76 (.cons (.dir Y) (.cons (.dir Y) .nil))) ?_;refine .a 3 ?_;refine .k (aN 120 Aq Y (.cons (Z.arr 8 (Z.int .u8)) .nil) Y) (.f [0,4,6,7,11,12] ?_);refine cT [0,4,6,7,11,12,22] ?_;refine aU h Y (fun D h=>?_) (fun D h=>?_)
  ·refine aJ (.a 1 ?_);refine .k (aR 121 30 aO) (.f [2,3] ?_);refine aH ?_;refine eP ?_;cases h;refine gQ fun E=>?_;obtain rfl:=H _ E;exact wO z dR Y (aC [(0,121)])
  refine aF ?_;obtain⟨O,K,h⟩:=aA h;refine eQ (.a 2 ?_);refine .k (dI (e:=aO) Jo kB Aq Y Y Y Y (.cons (.dir Y) .nil)) (.t (bT 122 K Y Y (.sl Y) Jo Br kB Y Y Y Y Y) (.f [0,4,11,12] ?_));refine aZ ?_;refine dP [0,4,11,12] ?_;cases h;exact cF (aC [(114,122)])
 cases h;exact dB (dJ (aC []))
theorem vF(A:Nat->Nat){b0 b1 b2 b3 b4 b5 b6 b7 b8 b9 bA bB bC bD bE bF bG bH bI bJ r}(h:fL b0 b1 b2 b3 b4 b5 b6 b7 b8 b9 bA bB bC bD bE bF bG bH bI bJ=some r):
 VQ Tryz.prog 103 [.ptr 9000 1] [(9000,.box 93 [.v Q0 b0,.ptr 9100 0,.v Q0 b1,.v Q0 b2,.v Q0 b3,.ref 9050,.v Ku b5,.ref 9051,.v Q0 b7,.v Nu b8,.v Q0 b9,.v Q0 bA,.ref 9052,.v (Wr.ZS (.pointer none) rfl) (),.v Q0 bC,.v Q0 bD,.v Q0 bE,.v Q0 bF,.v (Wr.pr Q0 Q0) bG,.ref 9053] (some (A 9000))),(9100,.box 188 [.v Q0 bI,.v Q2 bJ] (some (A 9100))),(9050,.arr 30 aO b4),(9051,.mp Q0 Q5 b6),(9052,.arr 3 Q0 bB),(9053,.arr 135 (Wr.pr Wr.bool (Wr.pr Wr.bool (Wr.sl (Wr.int .u8)))) bH)] (.WN []) [(9000,.box 93 [.v Q0 b0,.ptr 9100 0,.v Q0 b1,.v Q0 b2,.v Q0 b3,.ref 400,.v Ku b5,.ref 401,.v Q0 b7,.v Nu b8,.v Q0 b9,.v Q0 bA,.ref 402,.v (Wr.ZS (.pointer none) rfl) (),.v Q0 bC,.v Q0 bD,.v Q0 bE,.v Q0 bF,.v (Wr.pr Q0 Q0) bG,.ref 403] (some (A 9000))),(9100,.box 188 [.v Q0 bI,.v Q2 bJ] (some (A 9100))),(400,.arr 30 aO b4),(401,.mp Q0 Q5 r),(402,.arr 3 Q0 bB),(403,.arr 135 (Wr.pr Wr.bool (Wr.pr Wr.bool (Wr.sl (Wr.int .u8)))) bH)]:=by
 refine VQ.of Tryz.func103 Y Tryz.ntmps103 Y ?_;intro S w R u;unfold fL at h;refine aG ?_;obtain⟨D,z,h⟩:=aA h;obtain⟨B,C,h⟩:=aA h;refine dY 14 mixed (by exact(.k (aD Y) (.k (aK Y) (.k (aB 10 Y vT Y Zc Y Y) (.k (aI Y Y Y OV Zc) (.k (aD Y) (.k (aK Y) (.k (aB 1 Y vT Y Kw Y Y) (.k (aB 3 Y Fa Y S3 Y Y) (.k (aI Y Y Y G3 S3) (.k (aD Y) (.k (aK Y) (.k (aB 5 Y vT Y yD Y Y) (.k (aI Y Y Y To yD) (.k (Qa (qX 102000 (cO z) Za (.cons (.ref Y Y) .nil) Y XW.ref (YL.arr YL.nil)) (fun _=>(Sw.Sub.mk id (.cons Y (.U4 Y Y) .nil) .nil Y)) Y) .nil))))))))))))))) (by exact(J.t (Ms C Y Y Y Y QV U3 (p5.int U3) Y) (J.kp [0] []))) ?_;refine dY 11 mixed (by exact(.k (aD Y) (.k (aK Y) (.k (aB 10 Y vT Y Zc Y Y) (.k (aI Y Y Y OV Zc) (.k (aD Y) (.k (aK Y) (.k (aB 1 Y vT Y Kw Y Y) (.k (aB 3 Y Fa Y S3 Y Y) (.k (aI Y Y Y G3 S3) (.k (cU Y Y Y) (.k (cU Y Y Y) .nil)))))))))))) (by exact(J.t (Mt Y Y Y QV U3 (p5.int U3) Y) (J.kp [0] []))) ?_;refine Zm ?_;obtain rfl:=pT h;exact cB (σ':=⟨[(0,.ptr 9000 1)],[(9000,.box 93 [.v Q0 b0,.ptr 9100 0,.v Q0 b1,.v Q0 b2,.v Q0 b3,.ref 400,.v Ku b5,.ref 401,.v Q0 b7,.v Nu b8,.v Q0 b9,.v Q0 bA,.ref 402,.v (Wr.ZS (.pointer none) Y) (),.v Q0 bC,.v Q0 bD,.v Q0 bE,.v Q0 bF,.v (Wr.pr Q0 Q0) bG,.ref 403] (some (A 9000))),(9100,.box 188 [.v Q0 bI,.v Q2 bJ] (some (A 9100))),(400,.arr 30 aO b4),(401,.mp Q0 Q5 (Ge B (ar .sub .i64 (ar .sub .i64 b2 (4:Int)) (1:Int)))),(402,.arr 3 Q0 bB),(403,.arr 135 (Wr.pr Wr.bool (Wr.pr Wr.bool (Wr.sl (Wr.int .u8)))) bH)]⟩) (aC [(403,9053),(402,9052),(401,9051),(400,9050)]) (Ei u Y (.cons Y (.cons Y (.cons Y (.cons Y (.cons Y (.cons Y .nil)))))))
theorem pZ(A:Nat->Nat){b0 b1 b2 b3 b4 b5 b6 b7 b8 b9 bA bB bC bD bE bF bG bH bI bJ r}(h:fC b0 b1 b2 b3 b4 b5 b6 b7 b8 b9 bA bB bC bD bE bF bG bH bI bJ=some r):
 VQ Tryz.prog 70 [.ptr 9000 0,.ptr 9100 0] [(9000,.box 93 [.v Q0 b0,.v (Wr.ZS (.pointer none) rfl) (),.v Q0 b1,.v Q0 b2,.v Q0 b3,.v Q5 b4,.v Ku b5,.v (Wr.W4 Q0 Q5) b6,.v Q0 b7,.v Nu b8,.v Q0 b9,.v Q0 bA,.v mG bB,.v (Wr.ZS (.pointer none) rfl) (),.v Q0 bC,.v Q0 bD,.v Q0 bE,.v Q0 bF,.v (Wr.pr Q0 Q0) bG,.ref 9050] (some (A 9000))),(9100,.box 188 [.v Q0 bI,.v Q2 bJ] (some (A 9100))),(9050,.arr 135 (Wr.pr Wr.bool (Wr.pr Wr.bool (Wr.sl (Wr.int .u8)))) bH)] (.v Q9 r.1) [(9000,.box 93 [.v Q0 b0,.ptr 9100 0,.v Q0 r.2.1,.v Q0 r.2.2.1,.v Q0 r.2.2.2.1,.ref 400,.v Ku r.2.2.2.2.2.1,.ref 401,.v Q0 r.2.2.2.2.2.2.2.1,.v Nu r.2.2.2.2.2.2.2.2.1,.v Q0 r.2.2.2.2.2.2.2.2.2.1,.v Q0 r.2.2.2.2.2.2.2.2.2.2.1,.ref 402,.v (Wr.ZS (.pointer none) rfl) (),.v Q0 bC,.v Q0 bD,.v Q0 bE,.v Q0 bF,.v (Wr.pr Q0 Q0) bG,.ref 403] (some (A 9000))),(9100,.box 188 [.v Q0 r.2.2.2.2.2.2.2.2.2.2.2.2.1,.v Q2 r.2.2.2.2.2.2.2.2.2.2.2.2.2] (some (A 9100))),(400,.arr 30 aO r.2.2.2.2.1),(401,.mp Q0 Q5 r.2.2.2.2.2.2.1),(402,.arr 3 Q0 r.2.2.2.2.2.2.2.2.2.2.2.1),(403,.arr 135 (Wr.pr Wr.bool (Wr.pr Wr.bool (Wr.sl (Wr.int .u8)))) bH)]:=by
 refine VQ.of Tryz.func70 Y Tryz.ntmps70 Y ?_;intro S w R z;unfold fC at h;refine aL [0,1] ?_;refine aJ (.a 5 ?_);refine .k (bQ Lp (.cons (Z.ZS (u:=(.pointer none)) Y) (.cons (Z.int .i64) (.cons (Z.int .i64) (.cons (Z.int .i64) .nil)))) (.cons Y (.dir Y) Y Y Y Y .nil)) (.k (Fz 101 Q0 Q5) (.k (fH (new:=[(103,.arr 30 aO ([]:jO)),(102,.arr 3 Q0 ([]:kT))]) CB (.cons (Z.ZS (u:=(.pointer none)) Y) (.cons (Z.int .i64) (.cons (Z.int .i64) (.cons (Z.int .i64) (.ref 103 Y (.cons (Z.pr (Z.int .i64) (Z.pr (Z.sl gF) (Z.pr (Z.sl pE) Z.bool))) (.cons (Z.W4 Q0 Q5) (.cons (Z.int .i64) (.cons (Z.pr (Z.int .i64) (Z.pr (Z.int .i64) (Z.sl Q8))) (.cons (Z.int .i64) (.cons (Z.int .i64) (.ref 102 Y .nil)))))))))))) (.cons (.cons .nil)) Y (.agg 0 4 Y Y Y Y Y Y (.cons Y (.dir Y) Y Y Y Y (.cons Y (.dir Y) Y Y Y Y .nil)))) ?_));refine .a 2 ?_;refine .t (vQ 1 12 Y Y Y Y Y Y Y OY) (.f [0,1] ?_);obtain⟨F,C,h⟩:=aA h;refine jJ (.a 5 ?_);refine .t (eM [9000,9100,103,101,102,9050] (vR [(9000,9000),(9100,9100),(9050,103),(9051,101),(9052,102),(9053,9050),(400,104),(401,105),(402,106),(403,107)]) (dF Y) (fun A=>zI A C) NS (fun A=>(.box Y (.box Y (.arr (.mp (.arr (.arr .nil Y) Y) Y) Y) Y) Y))) (.f [0,1,5] ?_);refine aL [0,1,5,25] ?_;refine aU h Y (fun B h=>?_) (fun B h=>?_)
 ·refine aL [0,1,4] ?_;cases h;exact aH (eV z Y (aC [(403,107),(402,106),(401,105),(400,104)]))
 refine aF ?_;obtain⟨G,D,h⟩:=aA h;refine aJ (.a 1 ?_);refine .k (qX 108000 (kV D) SY (.cons (.H7 Y Y (.VL sO sO)) .nil) Y (XW.WN (.ref (.v .nil))) (YL.arr YL.nil)) (.f [0,1,6,7] ?_);refine aL [0,1,7] ?_;refine aJ (.a 7 ?_);refine .k (Bf (bQ yX (.cons (Z.int .i64) (.cons (Z.sl gF) (.cons (Z.sl pE) (.cons Z.bool .nil)))) (.cons Y (.dir Y) Y Y Y Y (.cons Y (.dir Y) Y Y Y Y .nil))) (.VL sO (.VL sO (.VL sO sO))) Y) (.f [0,1,7] ?_);obtain⟨H,E,h⟩:=aA h;refine aJ (.a 3 ?_);refine .t (eM [9000,9100,108000,105,106,107] (vR [(9000,9000),(9100,9100),(9050,108000),(9051,105),(9052,106),(9053,107),(400,109),(401,110),(402,111),(403,112)]) (dF Y) (fun A=>vF A E) Tryz.call103 (fun A=>(.box Y (.box Y (.arr (.mp (.arr (.arr .nil Y) Y) Y) Y) Y) Y))) (.f [0,1,7] ?_);refine aL [0,1,4] ?_;cases h;exact aH (eV z Y (aC [(403,112),(402,111),(401,110),(400,109)]))
theorem sG(A:Nat->Nat){b0 b1 b2 b3 b4 b5 b6 b7 b8 b9 bA bB bC bD bE bF bG bH bI bJ bK bL r}(h:gD b0 b1 b2 b3 b4 b5 b6 b7 b8 b9 bA bB bC bD bE bF bG bH bI bJ bK bL=some r):
 VQ Tryz.prog 102 [.ptr 9000 18,.ptr 9200 0] [(9000,.box 93 [.v Q0 b0,.ptr 9100 0,.v Q0 b1,.v Q0 b2,.v Q0 b3,.ref 9050,.v Ku b5,.ref 9051,.v Q0 b7,.v Nu b8,.v Q0 b9,.v Q0 bA,.ref 9052,.v (Wr.ZS (.pointer none) rfl) (),.v Q0 bC,.v Q0 bD,.v Q0 bE,.v Q0 bF,.v (Wr.pr Q0 Q0) bG,.ref 9053] (some (A 9000))),(9100,.box 188 [.v Q0 bI,.v Q2 bJ] (some (A 9100))),(9200,.box 188 [.v Q0 bK,.v Q2 bL] (some (A 9200))),(9050,.arr 30 aO b4),(9051,.mp Q0 Q5 b6),(9052,.arr 3 Q0 bB),(9053,.arr 135 (Wr.pr Wr.bool (Wr.pr Wr.bool (Wr.sl (Wr.int .u8)))) bH)] (.v Q9 r.1) (kQ 9000 (some (A 9000)) 9100 (some (A 9100)) 9200 (some (A 9200)) 400 401 402 403 b0 b1 b2 b3 b4 b5 b6 b7 b8 b9 bA bB bC r.2.1 r.2.2.1 bF bG bH bI bJ r.2.2.2.1 r.2.2.2.2):=by
 refine VQ.of Tryz.func102 Y Tryz.ntmps102 Y ?_;intro S w R u;unfold gD at h;refine aL [0,1] ?_;refine aL [0,1] ?_;obtain⟨D,B,h⟩:=aA h;refine aJ (.a 1 ?_);refine .k (rO (oR B) Tryz.call162 (.cons (.H7 Y Y (.VL sO sO)) .nil) (XW.WN (.v (.v (.v .nil))))) (.f [0,1,5,6,7] ?_);refine cT [0,1,5,6,7,19] ?_;refine aU h Y (fun z h=>?_) (fun z h=>?_)
 ·refine aL [0,1,4] ?_;cases h;exact aH (eV u Y (aC [(403,9053),(402,9052),(401,9051),(400,9050)]))
 refine aF ?_;refine aL [0,1] ?_;refine aG ?_;obtain⟨E,C,h⟩:=aA h;refine dY 9 mixed (by exact(.k (aD Y) (.k (aD Y) (.k (aK Y) (.k (aB 20 Y Fa Y S3 Y Y) (.k (aI Y Y Y G3 S3) (.k (aD Y) (.k (aK Y) (.k (aB 21 Y Fa Y S3 Y Y) (.k (aI Y Y Y G3 S3) .nil)))))))))) (by exact(J.t (uE (H:=[9200]) (K:=[9200]) (Bu [(9000,9200)]) (eO _) (fun A=>hC A C) JT (.cons (.dir Y) (.cons (.nj _) (.cons (.dir Y) (.cons (.dir Y) .nil)))) (fun A=>(.box Y .nil)) (fun A=>(.box Y .nil Y)) (fun _=>rfl) Y Y (fun _=>rfl) Y Y) (jz [0,1,4]))) ?_;cases h;exact aH (eV u Y (aC [(403,9053),(402,9052),(401,9051),(400,9050)]))
end Go.Cn
set_option maxRecDepth 100000
set_option maxHeartbeats 4000000
namespace Go.Cn
open Go Go.Sw Go.Mo Go.Proofs
variable {gobj:Obj}
theorem wJ(A:Nat->Nat){b0 b1 b2 b3 b4 b5 b6 b7 b8 b9 bA bB bC bD bE bF bG bH bI bJ bK bL r}(h:gK b0 b1 b2 b3 b4 b5 b6 b7 b8 b9 bA bB bC bD bE bF bG bH bI bJ bK bL=some r):
 VQ Tryz.prog 71 [.ptr 9000 0,.ptr 9200 0] [(9000,.box 93 [.v Q0 b0,.ptr 9100 0,.v Q0 b1,.v Q0 b2,.v Q0 b3,.ref 9050,.v Ku b5,.ref 9051,.v Q0 b7,.v Nu b8,.v Q0 b9,.v Q0 bA,.ref 9052,.v (Wr.ZS (.pointer none) rfl) (),.v Q0 bC,.v Q0 bD,.v Q0 bE,.v Q0 bF,.v (Wr.pr Q0 Q0) bG,.ref 9053] (some (A 9000))),(9100,.box 188 [.v Q0 bI,.v Q2 bJ] (some (A 9100))),(9200,.box 188 [.v Q0 bK,.v Q2 bL] (some (A 9200))),(9050,.arr 30 aO b4),(9051,.mp Q0 Q5 b6),(9052,.arr 3 Q0 bB),(9053,.arr 135 (Wr.pr Wr.bool (Wr.pr Wr.bool (Wr.sl (Wr.int .u8)))) bH)] (.v Q9 r.1) (kQ 9000 (some (A 9000)) 9100 (some (A 9100)) 9200 (some (A 9200)) 400 401 402 403 b0 b1 b2 b3 b4 b5 b6 b7 b8 b9 bA bB r.2.1 r.2.2.1 r.2.2.2.1 r.2.2.2.2.1 r.2.2.2.2.2.1 bH bI bJ r.2.2.2.2.2.2.1 r.2.2.2.2.2.2.2):=by
 refine VQ.of Tryz.func71 Y Tryz.ntmps71 Y ?_;intro S w R z;unfold gK at h;refine aL [0,1] ?_;refine aJ (.a 5 ?_);refine .k (bQ Lp (.cons (Z.ZS (u:=(.pointer none)) Y) (.cons (Z.int .i64) (.cons (Z.int .i64) (.cons (Z.int .i64) .nil)))) (.cons Y (.dir Y) Y Y Y Y .nil)) (.k (bQ Lq (.cons (Z.int .i64) (.cons (Z.int .i64) .nil)) (.cons Y (.dir Y) Y Y Y Y .nil)) (.k (bQ CC (.cons (Z.ZS (u:=(.pointer none)) Y) (.cons (Z.int .i64) (.cons (Z.int .i64) (.cons (Z.int .i64) (.cons (Z.int .i64) (.cons (Z.pr (Z.int .i64) (Z.int .i64)) .nil)))))) (.agg 0 4 Y Y Y Y Y Y (.cons Y (.dir Y) Y Y Y Y (.cons Y (.agg Y (.same (.same .nil)) (.VL sO sO) Y) Y Y Y Y .nil)))) ?_));refine .a 2 ?_;refine .t (vQ 13 6 Y Y Y Y Y Y Y TF) (.f [0,1] ?_);obtain⟨C,B,h⟩:=aA h;refine aJ (.a 5 ?_);refine .t (eM [9000,9100,9200,9050,9051,9052,9053] (vR [(9000,9000),(9100,9100),(9200,9200),(9050,9050),(9051,9051),(9052,9052),(9053,9053),(400,101),(401,102),(402,103),(403,104)]) (dF Y) (fun A=>sG A B) NS (fun A=>(.box Y (.box Y (.box Y (.arr (.mp (.arr (.arr .nil Y) Y) Y) Y) Y) Y) Y))) (.f [0,1,4] ?_);cases h;exact aH (eV z Y (aC [(403,104),(402,103),(401,102),(400,101)]))
def vG(r:(Option Q3)×(Option Int)):Slot:=match r.1 with | none=> .WN [.v (Wr.ZS (.pointer none) rfl) (),.v Q9 r.2] | some z=> .WN [.ptr 300 0,.v Q9 r.2]
def vH(r:(Option Q3)×(Option Int)):List (Nat×VR):=match r.1 with | none=>[] | some z=>(Th 300 none 301 none 302 none 400 401 402 403 z)
theorem Ah{a0 r}(h:iK a0=some r):
 WC Tryz.prog 42 [.v Q0 a0] (vG r) (vH r):=by
 refine WC.of Tryz.func42 Y Tryz.ntmps42 Y ?_;intro S w z;unfold iK at h;refine aJ (.k (eE Y) (.f [0] ?_));refine aJ (.a 1 ?_);refine .k (fH (new:=[(101,.arr 135 (Wr.pr Wr.bool (Wr.pr Wr.bool (Wr.sl (Wr.int .u8)))) ([]:Yz))]) OG (.cons (Z.int .i64) (.cons (Z.ZS (u:=(.pointer none)) Y) (.cons (Z.int .i64) (.cons (Z.int .i64) (.cons (Z.int .i64) (.cons (Z.sl aO) (.cons (Z.pr (Z.int .i64) (Z.pr (Z.sl gF) (Z.pr (Z.sl pE) Z.bool))) (.cons (Z.W4 Q0 Q5) (.cons (Z.int .i64) (.cons (Z.pr (Z.int .i64) (Z.pr (Z.int .i64) (Z.sl Q8))) (.cons (Z.int .i64) (.cons (Z.int .i64) (.cons (Z.sl Q0) (.cons (Z.ZS (u:=(.pointer none)) Y) (.cons (Z.int .i64) (.cons (Z.int .i64) (.cons (Z.int .i64) (.cons (Z.int .i64) (.cons (Z.pr (Z.int .i64) (Z.int .i64)) (.ref 101 Y .nil)))))))))))))))))))) (.cons .nil) Y (.cons Y (.dir Y) Y Y Y Y .nil)) (.k (zP 102 Y Y) (.f [0,4] ?_));refine aG ?_;obtain⟨N,B,h⟩:=aA h;rcases D7:N.1 with _ | z2
 ·replace h:=vO D7 h;refine eQ (.a 1 ?_);refine .k (aM (tK D7 B) RK (.cons (.dir Y) .nil)) (.f [0,4,5,6] ?_);refine cT [0,4,5,6,18] ?_;refine aU h Y (fun E h=>?_) (fun E h=>?_)
  ·refine aJ (.a 1 ?_);refine .k (eE Y) (.f [2,3] ?_);cases h;exact aH (bS z dR Y (RV.tmp Y) (RV.tmp Y) .nil Y)
  refine aF ?_;refine aG ?_;obtain⟨O,C,h⟩:=aA h;rcases py:O.1 with _ | z5
  ·replace h:=vO py h;refine eQ (.a 1 ?_);refine .k (aM (tK py C) RK (.cons (.dir Y) .nil)) (.f [0,4,5,6,7] ?_);refine cT [0,4,5,6,7,26] ?_;refine aU h Y (fun F h=>?_) (fun F h=>?_)
   ·refine aJ (.a 1 ?_);refine .k (eE Y) (.f [2,3] ?_);cases h;exact aH (bS z dR Y (RV.tmp Y) (RV.tmp Y) .nil Y)
   refine aF ?_;refine aL [4,5,7] ?_;refine aG ?_;refine aG ?_;cases h
  ·replace h:=vP py h;refine eQ (.a 1 ?_);refine .k (fI 105000 (tL py C) RK (.cons (.dir Y) .nil) Y) (.f [0,4,5,6,7] ?_);refine cT [0,4,5,6,7,26] ?_;refine aU h Y (fun G h=>?_) (fun G h=>?_)
   ·refine aJ (.a 1 ?_);refine .k (eE Y) (.f [2,3] ?_);cases h;exact aH (bS z dR Y (RV.tmp Y) (RV.tmp Y) .nil Y)
   refine aF ?_;refine aL [4,5,7] ?_;refine aG ?_;refine aG ?_;cases h
 ·replace h:=vP D7 h;refine eQ (.a 1 ?_);refine .k (fI 106000 (tL D7 B) RK (.cons (.dir Y) .nil) Y) (.f [0,4,5,6] ?_);refine cT [0,4,5,6,18] ?_;refine aU h Y (fun H h=>?_) (fun H h=>?_)
  ·refine aJ (.a 1 ?_);refine .k (eE Y) (.f [2,3] ?_);cases h;exact aH (bS z dR Y (RV.tmp Y) (RV.tmp Y) .nil Y)
  refine aF ?_;refine aG ?_;obtain⟨P,D,h⟩:=aA h;rcases nr:P.1 with _ | Z8
  ·replace h:=vO nr h;refine eQ (.a 1 ?_);refine .k (aM (tK nr D) RK (.cons (.dir Y) .nil)) (.f [0,4,5,6,7] ?_);refine cT [0,4,5,6,7,26] ?_;refine aU h Y (fun I h=>?_) (fun I h=>?_)
   ·refine aJ (.a 1 ?_);refine .k (eE Y) (.f [2,3] ?_);cases h;exact aH (bS z dR Y (RV.tmp Y) (RV.tmp Y) .nil Y)
   refine aF ?_;refine aL [4,5,7] ?_;obtain⟨U,Q,h⟩:=aA h;refine jJ (.a 2 ?_);refine .t (eM [102,106000,101] (vR [(9000,102),(9100,106000),(9050,101),(400,108),(401,109),(402,110),(403,111)]) (dF Y) (fun A=>pZ A Q) Tryz.call70 (fun A=>(.box Y (.box Y (.arr (.mp (.arr (.arr .nil Y) Y) Y) Y) Y) Y))) (.f [4,7,8] ?_);refine aL [4,7,8,44] ?_;refine aU h Y (fun K h=>?_) (fun K h=>?_)
   ·refine aJ (.a 1 ?_);refine .k (eE Y) (.f [2,3] ?_);cases h;exact aH (bS z dR Y (RV.tmp Y) (RV.tmp Y) .nil Y)
   refine aF ?_;refine aG ?_;cases h
  ·replace h:=vP nr h;refine eQ (.a 1 ?_);refine .k (fI 112000 (tL nr D) RK (.cons (.dir Y) .nil) Y) (.f [0,4,5,6,7] ?_);refine cT [0,4,5,6,7,26] ?_;refine aU h Y (fun L h=>?_) (fun L h=>?_)
   ·refine aJ (.a 1 ?_);refine .k (eE Y) (.f [2,3] ?_);cases h;exact aH (bS z dR Y (RV.tmp Y) (RV.tmp Y) .nil Y)
   refine aF ?_;refine aL [4,5,7] ?_;obtain⟨V,R,h⟩:=aA h;refine jJ (.a 2 ?_);refine .t (eM [102,106000,101] (vR [(9000,102),(9100,106000),(9050,101),(400,113),(401,114),(402,115),(403,116)]) (dF Y) (fun A=>pZ A R) Tryz.call70 (fun A=>(.box Y (.box Y (.arr (.mp (.arr (.arr .nil Y) Y) Y) Y) Y) Y))) (.f [4,7,8] ?_);refine aL [4,7,8,44] ?_;refine aU h Y (fun M h=>?_) (fun M h=>?_)
   ·refine aJ (.a 1 ?_);refine .k (eE Y) (.f [2,3] ?_);cases h;exact aH (bS z dR Y (RV.tmp Y) (RV.tmp Y) .nil Y)
   refine aF ?_;obtain⟨X,T,h⟩:=aA h;refine aJ (.a 3 ?_);refine .t (eM [102,106000,112000,113,114,115,116] (vR [(9000,102),(9100,106000),(9200,112000),(9050,113),(9051,114),(9052,115),(9053,116),(400,117),(401,118),(402,119),(403,120)]) (dF Y) (fun A=>wJ A T) Tryz.call71 (fun A=>(.box Y (.box Y (.box Y (.arr (.mp (.arr (.arr .nil Y) Y) Y) Y) Y) Y) Y))) (.f [2,3] ?_);cases h;exact aH (wO z dR Y (aC [(300,102),(403,120),(302,112000),(402,119),(401,118),(400,117),(301,106000)]))
theorem Gq{a0:Int}{r:(Option Q3)×(Option Int)}(hz:r.1=none)(h:iK a0=some r):WC Tryz.prog 42 [.v Q0 a0] (.WN [.v (Wr.ZS (.pointer none) rfl) (),.v Q9 r.2]) []:=by
 have:=Ah h;unfold vG vH at this;rw[hz] at this;exact this
theorem Gr{a0:Int}{r:(Option Q3)×(Option Int)}{z:Q3}(hz:r.1=some z)(h:iK a0=some r):WC Tryz.prog 42 [.v Q0 a0] (.WN [.ptr 300 0,.v Q9 r.2]) (Th 300 none 301 none 302 none 400 401 402 403 z):=by
 have:=Ah h;unfold vG vH at this;rw[hz] at this;exact this
theorem Jt{a0 r}(h:uG a0=some r):
 WC Tryz.prog 72 [.v Q0 a0] (.v (En [104,106,107,109,111,112,113,115,117,119,120]) r) []:=by
 refine WC.of Tryz.func72 Y Tryz.ntmps72 Y ?_;intro S w u;unfold uG at h;refine aJ (.k (Bw [104,106,107,109,111,112,113,115,117,119,120] 11 Y) (.f [0] ?_));refine cT [3] ?_;refine bR ?_;refine aL [3,4] ?_;refine aU h Y (fun z h=>?_) (fun z h=>?_)
 ·refine aJ (.k (rA [104,106,107,109,111,112,113,115,117,119,120] 0 Y lP) (.f [2] ?_));refine aH ?_;refine eP ?_;cases h;exact aW u dR Y (RV.tmp Y) .nil Y
 refine aL [3,6] ?_;refine aU h Y (fun A h=>?_) (fun A h=>?_)
 ·refine aJ (.k (rA [104,106,107,109,111,112,113,115,117,119,120] 1 Y lP) (.f [2] ?_));refine aH ?_;refine eP ?_;cases h;exact aW u dR Y (RV.tmp Y) .nil Y
 refine aL [3,8] ?_;refine aU h Y (fun B h=>?_) (fun B h=>?_)
 ·refine aJ (.k (rA [104,106,107,109,111,112,113,115,117,119,120] 2 Y lP) (.f [2] ?_));refine aH ?_;refine eP ?_;cases h;exact aW u dR Y (RV.tmp Y) .nil Y
 refine aL [3,10] ?_;refine aU h Y (fun C h=>?_) (fun C h=>?_)
 ·refine aJ (.k (rA [104,106,107,109,111,112,113,115,117,119,120] 3 Y lP) (.f [2] ?_));refine aH ?_;refine eP ?_;cases h;exact aW u dR Y (RV.tmp Y) .nil Y
 refine aL [3,12] ?_;refine aU h Y (fun D h=>?_) (fun D h=>?_)
 ·refine aJ (.k (rA [104,106,107,109,111,112,113,115,117,119,120] 4 Y lP) (.f [2] ?_));refine aH ?_;refine eP ?_;cases h;exact aW u dR Y (RV.tmp Y) .nil Y
 refine aL [3,14] ?_;refine aU h Y (fun E h=>?_) (fun E h=>?_)
 ·refine aJ (.k (rA [104,106,107,109,111,112,113,115,117,119,120] 5 Y lP) (.f [2] ?_));refine aH ?_;refine eP ?_;cases h;exact aW u dR Y (RV.tmp Y) .nil Y
 refine aL [3,16] ?_;refine aU h Y (fun F h=>?_) (fun F h=>?_)
 ·refine aJ (.k (rA [104,106,107,109,111,112,113,115,117,119,120] 6 Y lP) (.f [2] ?_));refine aH ?_;refine eP ?_;cases h;exact aW u dR Y (RV.tmp Y) .nil Y
 refine aL [3,18] ?_;refine aU h Y (fun G h=>?_) (fun G h=>?_)
 ·refine aJ (.k (rA [104,106,107,109,111,112,113,115,117,119,120] 7 Y lP) (.f [2] ?_));refine aH ?_;refine eP ?_;cases h;exact aW u dR Y (RV.tmp Y) .nil Y
 refine aL [3,20] ?_;refine aU h Y (fun H h=>?_) (fun H h=>?_)
 ·refine aJ (.k (rA [104,106,107,109,111,112,113,115,117,119,120] 8 Y lP) (.f [2] ?_));refine aH ?_;refine eP ?_;cases h;exact aW u dR Y (RV.tmp Y) .nil Y
 refine aL [3,22] ?_;refine aU h Y (fun I h=>?_) (fun I h=>?_)
 ·refine aJ (.k (rA [104,106,107,109,111,112,113,115,117,119,120] 9 Y lP) (.f [2] ?_));refine aH ?_;refine eP ?_;cases h;exact aW u dR Y (RV.tmp Y) .nil Y
 refine aL [24] ?_;refine aU h Y (fun K h=>?_) (fun K h=>?_)
 ·refine aJ (.k (rA [104,106,107,109,111,112,113,115,117,119,120] 10 Y lP) (.f [2] ?_));refine aH ?_;refine eP ?_;cases h;exact aW u dR Y (RV.tmp Y) .nil Y
 refine aF ?_;refine aZ ?_;refine aJ (.k (Bw [104,106,107,109,111,112,113,115,117,119,120] 11 Y) (.f [2] ?_));cases h;exact aH (aW u dR Y (RV.tmp Y) .nil Y)
theorem lO{a0 a1 r}(h:lU a0 a1=some r):
 WC Tryz.prog 185 [.v Q1 a0,.v Q0 a1] (.v Wr.bool r) []:=by
 refine WC.of Tryz.func185 Y Tryz.ntmps185 Y ?_;intro S w A;unfold lU at h;refine aL [0,1] ?_;refine aL [0,1,5] ?_;refine cT [1,5,8,9,10] ?_;obtain⟨O,I,K,L⟩:=cL h;refine jP (σs:=fun z:Int×Int=>⟨[(1,.v Q0 a1),(5,.v Q0 z.1),(8,.v Q1 a0),(9,.v Q0 (a0.length:Int)),(10,.v Q0 z.2)],[]⟩) (fun C:Unit=>⟨[],[]⟩) I (aC []) ?_ ?_
 ·intro C D;have h:=K _ D;refine aL [4] ?_;cases h;exact aH (aW A dR Y (RV.tmp Y) .nil Y)
 intro z N h;refine aL [1,5,8,9,10,11] ?_;refine aG ?_;refine aU h Y (fun E h=>?_) (fun E h=>?_)
 ·refine aF ?_;refine aG ?_;refine bR ?_;obtain⟨B,P,h⟩:=aA h;refine aJ (.a 2 ?_);refine .k (aN 104 Fb Y (.cons (Z.int .i64) (.cons (Z.arr 8 (Z.int .u8)) .nil)) Y) (.t (bW Y Y Y Y (.VL sO sO) jS) (.f [1,5,7,8,9,10] ?_));refine aG ?_;refine aG ?_;obtain⟨M,u,h⟩:=aA h;refine eB (σ':=⟨[(1,.v Q0 a1),(7,.ptr 104 0),(8,.v Q1 a0),(9,.v Q0 (a0.length:Int)),(10,.v Q0 z.2),(23,.v Wr.bool M)],[(104,.box 214 [.v Q0 B.1,.v aO B.2])]⟩) ?_ ?_
  ·refine cd u (fun F u=>?_) (fun F u=>?_)
   ·cases u;exact jy
   cases u;exact jy
  refine aU h Y (fun G h=>?_) (fun G h=>?_)
  ·refine aL [4] ?_;refine aH ?_;refine eP ?_;cases h;refine gQ fun H=>?_;obtain rfl:=L _ H;exact aW A dR Y (RV.tmp Y) .nil Y
  refine aF ?_;refine dP [1,5,8,9,10] ?_;refine aZ ?_;refine dP [1,5,8,9,10] ?_;cases h;exact cF (aC [])
 cases h;exact dB (dJ (aC []))
theorem tD{a0 a1 r}(h:lH a0 a1=some r):
 WC Tryz.prog 139 [.v Ku a0,.v Q0 a1] (.v Q9 r) []:=by
 refine WC.of Tryz.func139 Y Tryz.ntmps139 Y ?_;intro S w A;unfold lH at h;refine aJ (.k (cI 101 Y (.VL sO (.VL sO (.VL sO sO))) Y) (.f [1,2] ?_));refine aG ?_;refine aG ?_;obtain⟨U,u,h⟩:=aA h;refine eB (σ':=⟨[(1,.v Q0 a1),(2,.ptr 101 0),(22,.v Wr.bool U)],[(101,.box 80 [.v Q0 a0.1,.v Q1 a0.2.1,.v (Wr.sl pE) a0.2.2.1,.v Wr.bool a0.2.2.2])]⟩) ?_ ?_
 ·refine cd u (fun G u=>?_) (fun G u=>?_)
  ·cases u;exact jy
  refine cd u (fun H u=>?_) (fun H u=>?_)
  ·cases u;exact jy
  refine cd u (fun I u=>?_) (fun I u=>?_)
  ·cases u;exact jy
  cases u;exact jy
 refine aU h Y (fun K h=>?_) (fun K h=>?_)
 ·refine aL [4] ?_;cases h;exact aH (aW A dR Y (RV.tmp Y) .nil Y)
 refine aF ?_;refine cT [1,2,27] ?_;refine aU h Y (fun L h=>?_) (fun L h=>?_)
 ·refine aL [4] ?_;cases h;exact aH (aW A dR Y (RV.tmp Y) .nil Y)
 refine aF ?_;refine aG ?_;refine aG ?_;obtain⟨V,u,h⟩:=aA h;refine eB (σ':=⟨[(1,.v Q0 a1),(2,.ptr 101 0),(43,.v Wr.bool V)],[(101,.box 80 [.v Q0 a0.1,.v Q1 a0.2.1,.v (Wr.sl pE) a0.2.2.1,.v Wr.bool a0.2.2.2])]⟩) ?_ ?_
 ·obtain⟨wy,C,u⟩:=aA u;refine cd u (fun z u=>?_) (fun z u=>?_)
  ·cases u;exact(J.cons (.none Y) (aB 1 Y RM Y Ik Y Y) Y Y (J.cons (.none Y) (aI Y Y Y FC Ik) Y Y (J.cons (.none Y) (aD Y) Y Y (J.cons (.none Y) (aM (lO C) EO (.cons (.dir Y) (.cons (.dir Y) .nil))) Y Y (J.cons (.none Y) (Fw Y) Y Y (J.cons (.none Y) (aD Y) Y Y (J.left (GK.H2 34 Y Y Y z) Y (J.left (GK.H2 34 Y Y Y z) Y (J.left (GK.H2 34 Y Y Y z) Y (J.left (uB 37 Y Y Y) Y (J.left (uB 37 Y Y Y) Y (J.left (uB 37 Y Y Y) Y (J.left (uB 37 Y Y Y) Y (J.left (GK.H2 34 Y Y Y z) Y (J.cons (.none Y) (Fl z Y Y) Y Y (J.fin (aC [])))))))))))))))))
  refine cd u (fun M u=>?_) (fun M u=>?_)
  ·cases u;refine ja 3 ?_;exact(J.k (aM (lO C) EO (.cons (.dir Y) (.cons (.dir Y) .nil))) jy)
  cases u;refine ja 3 ?_;exact(J.k (aM (lO C) EO (.cons (.dir Y) (.cons (.dir Y) .nil))) jy)
 refine aU h Y (fun N h=>?_) (fun N h=>?_)
 ·refine aL [4] ?_;cases h;exact aH (aW A dR Y (RV.tmp Y) .nil Y)
 refine aF ?_;refine cT [1,2,46,47,48] ?_;obtain⟨ae,X,aa,ab⟩:=cL h;refine jP (σs:=fun B:Int=>⟨[(1,.v Q0 a1),(2,.ptr 101 0),(46,.v (Wr.sl pE) a0.2.2.1),(47,.v Q0 (a0.2.2.1.length:Int)),(48,.v Q0 B)],[(101,.box 80 [.v Q0 a0.1,.v Q1 a0.2.1,.v (Wr.sl pE) a0.2.2.1,.v Wr.bool a0.2.2.2])]⟩) (fun E:Unit=>⟨[],[]⟩) X (aC []) ?_ ?_
 ·intro E F;have h:=aa _ F;refine aL [4] ?_;cases h;exact aH (aW A dR Y (RV.tmp Y) .nil Y)
 intro B ad h;refine aL [1,2,46,47,48,49] ?_;refine aG ?_;refine aU h Y (fun O h=>?_) (fun O h=>?_)
 ·refine aF ?_;refine aG ?_;refine bR ?_;obtain⟨qo,af,h⟩:=aA h;refine aJ (.a 3 ?_);refine .k (aN 113 Pe Y (.cons (Z.int .i64) (.cons (Z.sl gF) .nil)) Y) ?_;refine .a 1 ?_;refine .t (bW Y Y Y Y (.VL sO sO) vC) (.f [1,2,5,6,46,47,48] ?_);refine aG ?_;obtain⟨ac,u,h⟩:=aA h;refine eB (σ':=⟨[(1,.v Q0 a1),(2,.ptr 101 0),(46,.v (Wr.sl pE) a0.2.2.1),(47,.v Q0 (a0.2.2.1.length:Int)),(48,.v Q0 B),(76,.v Wr.bool ac)],[(101,.box 80 [.v Q0 a0.1,.v Q1 a0.2.1,.v (Wr.sl pE) a0.2.2.1,.v Wr.bool a0.2.2.2])]⟩) ?_ ?_
  ·obtain⟨ah,D,u⟩:=aA u;refine cd u (fun P u=>?_) (fun P u=>?_)
   ·cases u;refine ja 3 ?_;exact(J.k (aM (lO D) EO (.cons (.dir Y) (.cons (.dir Y) .nil))) jy)
   refine cd u (fun Q u=>?_) (fun Q u=>?_)
   ·cases u;refine ja 3 ?_;exact(J.k (aM (lO D) EO (.cons (.dir Y) (.cons (.dir Y) .nil))) jy)
   cases u;refine ja 3 ?_;exact(J.k (aM (lO D) EO (.cons (.dir Y) (.cons (.dir Y) .nil))) jy)
  refine aU h Y (fun R h=>?_) (fun R h=>?_)
  ·refine aL [4] ?_;refine aH ?_;refine eP ?_;cases h;refine gQ fun T=>?_;obtain rfl:=ab _ T;exact aW A dR Y (RV.tmp Y) .nil Y
  refine aF ?_;refine aZ ?_;refine dP [1,2,46,47,48] ?_;cases h;exact cF (aC [])
 cases h;exact dB (dJ (aC []))
theorem oX{a0 r}(h:jD a0=some r):
 WC Tryz.prog 225 [.v (Wr.H3 pE) a0] (.ref 0) [(0,.arr 197 pE r)]:=by
 refine WC.of Tryz.func225 Y Tryz.ntmps225 Y ?_;intro S w u;unfold jD at h;refine aJ (.k (aR 101 197 pE) (.f [0] ?_));refine jJ (.a 1 ?_);refine .k (xJ Y EU) (.f [0,4] ?_);refine aU h Y (fun z h=>?_) (fun z h=>?_)
 ·refine aJ (.k (aR 102 197 pE) (.f [2] ?_));cases h;exact aH (vW u dR Y (aC [(0,102)]))
 refine aF ?_;obtain⟨B,A,h⟩:=aA h;refine aJ (.k (rM (e:=pE) 103 EU vC Pe Y Y Y Y .nil) ?_);refine .a 1 ?_;refine .t (bT 104 A Y Y (.H3 Y) EU QL vC Y Y Y Y Y) (.f [2] ?_);cases h;exact aH (vW u dR Y (aC [(0,104)]))
theorem qL{a0:Ii}{r:Ii}(h:gL a0=some r):
  WC Tryz.prog 225 [.v (Wr.sl pE) a0] (.ref 0) [(0,.arr 197 pE r)]:=
 rP fun b u=>oX (by cases b with | true=>rw[u rfl] at h ⊢;exact h | false=>exact Eg h)
theorem wK{a0 r}(h:nE a0=some r):
 WC Tryz.prog 178 [.v Ku a0] (.agg [.v Q0 r.1,.ref 0,.ref 1,.v Wr.bool r.2.2.2]) [(0,.arr 214 gF r.2.1),(1,.arr 197 pE r.2.2.1)]:=by
 refine WC.of Tryz.func178 Y Tryz.ntmps178 Y ?_;intro S w D;unfold nE at h;refine aJ (.k (cI 101 Y (.VL sO (.VL sO (.VL sO sO))) Y) (.k (aN 102 QW Y (.cons (Z.int .i64) (.cons (Z.sl gF) (.cons (Z.sl pE) (.cons Z.bool .nil)))) Y) (.f [1,2] ?_)));obtain⟨A,G,h⟩:=aA h;refine aJ (.a 2 ?_);refine .k (fI 103000 (eU G) JU (.cons (.dir Y) .nil) Y) (.f [1,2] ?_);obtain⟨H,I,h⟩:=aA h;refine aJ (.a 2 ?_);refine .k (fI 104000 (qL I) Tryz.call225 (.cons (.dir Y) .nil) Y) (.f [1,2] ?_);refine cT [1,2,14,15,16] ?_;obtain⟨O,K,L,P⟩:=cL h;refine jP (σs:=fun z:Int×Ii=>⟨[(1,.ptr 101 0),(2,.ptr 102 0),(14,.ref 104000),(15,.v Q0 (H.length:Int)),(16,.v Q0 z.1)],[(101,.box 80 [.v Q0 a0.1,.ref 103000,.ref 104000,.v Wr.bool a0.2.2.2]),(102,.box 80 [.v Q0 (0:Int),.v Q1 ([]:Q6),.v (Wr.sl pE) ([]:Ii),.v Wr.bool false]),(104000,.arr 197 pE z.2),(103000,.arr 214 gF A)]⟩) (fun u:Ii=>⟨[(1,.ptr 101 0),(2,.ptr 102 0)],[(101,.box 80 [.v Q0 a0.1,.ref 103000,.ref 104000,.v Wr.bool a0.2.2.2]),(102,.box 80 [.v Q0 (0:Int),.v Q1 ([]:Q6),.v (Wr.sl pE) ([]:Ii),.v Wr.bool false]),(103000,.arr 214 gF A),(104000,.arr 197 pE u)]⟩) K (aC []) ?_ ?_
 ·intro u E;have h:=L _ E;refine aJ (.k (hO Y Y Y Ez yW) (.f [2] ?_));refine aH ?_;obtain rfl:=pT h;exact cB (σ':=⟨[(2,.ptr 90 0)],[(90,.box 80 [.v Q0 a0.1,.ref 0,.ref 1,.v Wr.bool a0.2.2.2]),(1,.arr 197 pE u),(0,.arr 214 gF A)]⟩) (aC [(90,102),(1,104000),(0,103000)]) (aW D dR Y (Fy Y Y Y Ez yW) (.cons Y (.cons Y .nil)) Y)
 intro z N h;refine aL [1,2,14,15,16,17] ?_;refine aG ?_;refine aU h Y (fun F h=>?_) (fun F h=>?_)
 ·refine aF ?_;refine aG ?_;refine bR ?_;obtain⟨Q,B,h⟩:=aA h;refine aJ (.a 1 ?_);refine .k (iY B Y Y Y EU vC) (.k (jR (dG B).2.2 Y Y .here Nv vC) (.k (aN 112 Pe Y (.cons (Z.int .i64) (.cons (Z.sl gF) .nil)) Y) ?_));refine .a 1 ?_;refine .t (bW Y Y Y Y (.VL sO sO) vC) (.f [1,2,3,4,14,15,16] ?_);obtain⟨R,M,h⟩:=aA h;obtain⟨T,C,h⟩:=aA h;refine dY 8 mixed (by exact(.k (aB 2 Y RM Y TP Y Y) (.k (aI Y Y Y Tryz.isAgg78 TP) (.k (aD Y) (.k (aB 1 Y Zd Y Ik Y Y) (.k (aI Y Y Y FC Ik) (.k (Qa (fI 113000 (eU M) JU (.cons (.dir Y) .nil) Y) (fun _=>(Sw.Sub.mk id (.cons Y (.U4 Y Y) .nil) .nil Y)) Y) (.k (iY C Y Y Y EU vC) (.k (Ax 1 Y Zd Y Ik Y Y) .nil))))))))) (by exact(J.t (Ua (dG C).2.2 Y Y Y (.snd .here) Ik) (J.kp [1,2,14,15,16] []))) ?_;refine aZ ?_;refine dP [1,2,14,15,16] ?_;cases h;exact cF (aC [])
 cases h;exact dB (dJ (aC []))
theorem Ca{a0 a1 r}(h:sT a0 a1=some r):
 WC Tryz.prog 221 [.v gF a0,.v Q0 a1] (.v Q0 r) []:=by
 refine WC.of Tryz.func221 Y Tryz.ntmps221 Y ?_;intro S w u;unfold sT at h;refine aJ (.k (cI 101 Y (.VL sO sO) Y) (.f [1,2] ?_));refine aL [4] ?_;cases h;exact aH (aW u dR Y (RV.tmp Y) .nil Y)
theorem jN{a0 a1 r}(h:cA a0 a1=some r):
 WC Tryz.prog 220 [.v Q1 a0,.v Q0 a1,.ZR 221 []] (.WN [.v Q0 r.1,.v Wr.bool r.2]) []:=by
 refine WC.of Tryz.func220 Y Tryz.ntmps220 Y ?_;intro S w C;unfold cA at h;refine aL [0,1,2] ?_;refine aL [0,1,2,8] ?_;refine aL [0,1,2,8,9,10] ?_;refine aG ?_;obtain⟨N,G,H,O⟩:=cL h;refine jP (σs:=fun A:Int×Int=>⟨[(0,.v Q1 a0),(1,.v Q0 a1),(2,.ZR 221 []),(8,.v Q0 (a0.length:Int)),(9,.v Q0 A.1),(10,.v Q0 A.2)],[]⟩) (fun z:Int=>⟨[(0,.v Q1 a0),(1,.v Q0 a1),(2,.ZR 221 []),(8,.v Q0 (a0.length:Int)),(9,.v Q0 z)],[]⟩) G (aC []) ?_ ?_
 ·intro z D;have h:=H _ D;refine aG ?_;obtain⟨I,u,h⟩:=aA h;refine eB (σ':=⟨[(6,.v Q0 z),(7,.v Wr.bool I)],[]⟩) ?_ ?_
  ·refine cd u (fun B u=>?_) (fun B u=>?_)
   ·obtain⟨P,Q,u⟩:=aA u;obtain⟨R,K,u⟩:=aA u;cases u;refine ja 11 ?_;exact(J.g B (tQ Y (Ca K) Tryz.call221 (.cons (.dir Y) (.cons (.dir Y) .nil))) jy)
   cases u;exact jy
  cases h;exact aH (bS C dR Y (RV.tmp Y) (RV.tmp Y) .nil Y)
 intro A M h;refine cT [0,1,2,8,9,10,17] ?_;refine aU h Y (fun E h=>?_) (fun E h=>?_)
 ·refine aF ?_;refine bR ?_;refine aJ (.a 4 ?_);refine .k (fB (.inr Y) (by decide) Y Y) (.f [0,1,2,8,9,10,11] ?_);obtain⟨T,U,h⟩:=aA h;obtain⟨V,L,h⟩:=aA h;refine aJ (.a 6 ?_);refine .k (tQ Y (Ca L) Tryz.call221 (.cons (.dir Y) (.cons (.dir Y) .nil))) (.f [0,1,2,8,9,10,11,31] ?_);refine aU h Y (fun F h=>?_) (fun F h=>?_)
  ·refine dP [0,1,2,8,9,10] ?_;cases h;exact aZ (cF (aC []))
  refine dP [0,1,2,8,9,10] ?_;cases h;exact aZ (cF (aC []))
 cases h;exact dB (dJ (aC []))
theorem uA(A0:Nat->Nat){a0:Q6}{a1:Int}{a2:Q6}{r:Q6}(h:gH a0 a1 a2=some r):
 VQ Tryz.prog 222 [.ref 9000,.v Q0 a1,.v Q1 a2] [(9000,.arr 214 gF a0)] (.ref 0) [(0,.arr 214 gF r)]:=by
  obtain⟨h0,h1,h2,rfl⟩:=GO h;obtain⟨i,rfl⟩:∃i:Nat,a1=(i:Int):=⟨a1.toNat,by omega⟩;obtain⟨A,B,hA,rfl⟩:∃A B,A.length=i/\a0=A++B:=⟨a0.take i,a0.drop i,by rw[D3];omega,(Y7 _ _).symm⟩;subst hA;have H:(A++B).take ((A.length:Int)).toNat++(a2++(A++B).drop ((A.length:Int)).toNat)=A++(a2++B):=by simp
  rw[H];clear H h h0 h1;have I:(A++B).length=A.length+B.length:=sM;have N:Sw.sub (A++B) (A.length:Int) ((A++B).length:Int)=some B:=by rw[Sw.sub,WU (by omega),n9,n9,aDc,qk]
  have D:ar .add .i64 ((A++B).length:Int) (a2.length:Int)=((A.length+B.length+a2.length:Nat):Int):=by simp only[ar,IntKind.wrap_i64];omega
  have O:ar .sub .i64 (ar .add .i64 ((A++B).length:Int) (a2.length:Int)) (A.length:Int)=((B.length+a2.length:Nat):Int):=by rw[D];simp only[ar,IntKind.wrap_i64];omega
  have z:ar .add .i64 (A.length:Int) (a2.length:Int)=((A.length+a2.length:Nat):Int):=by simp only[ar,IntKind.wrap_i64];omega
  refine VQ.of Tryz.func222 Y Tryz.ntmps222 Y ?_;intro S w R F
  repeat refine aG ?_
  refine eQ (.k (lA gF) (.f [0,1,2] ?_))
  repeat refine aG ?_
  refine eQ (.a 2 ?_);refine .k (Le N Y Y Y yE jS) (.f [0,1,2] ?_)
  repeat refine aG ?_
  refine dP [0,1,2,7] ?_
  repeat refine aG ?_
  refine dP [0,1,2,7,16] ?_
  repeat refine aG ?_
  rcases aC8 (cm .eql (a2.length:Int) (0:Int)) with u | u
  ·have G:a2=[]:=gw (by simp[cm] at u;simp[u]);have P:A++B=A++(a2++B):=by rw[G];rfl
   refine vM Y u ?_
   repeat refine aG ?_
   refine dP [0,1,2,6,7,16,17] ?_;refine aH ?_;rw[P];exact eV F Y (aC [(0,9000)])
  have Q:0<a2.length:=by
   simp[cm] at u;exact um.2 u
  have G:a2≠ []:=um.1 Q;refine Ay Y u ?_;clear u
  repeat first | refine aF ?_ | refine aG ?_
  refine dP [0,1,2,7,8] ?_
  repeat refine aG ?_
  refine dP [0,1,2,7,8,22] ?_
  repeat refine aG ?_
  rcases aC8 (cm .eql (A.length:Int) ((A++B).length:Int)) with u | u
  ·have C:B=[]:=gw (by simp[cm] at u;omega);have T:Sw.app (A++B) a2=some (A++(a2++B)):=by subst C;rw[Sw.app,WU h2];simp
   refine vM Y u ?_
   repeat refine aG ?_
   refine eQ (.a 2 ?_);refine .t (bT 1 T Y Y (.sl Y) yE Kv jS Y Y Y Y Y) (.f [1,2,6,7,8,24,25] ?_);refine aH ?_;exact eV F Y (aC [(0,1)])
  have C:B≠ []:=by
   rintro rfl;simp[cm] at u
  have ab:=um.2 C;refine Ay Y u ?_;clear u
  repeat first | refine aF ?_ | refine aG ?_
  refine Qb (t:=0) (g':=[(1,.v Q0 (A.length:Int)),(2,.v Q1 a2),(7,.v Q0 (a2.length:Int)),(8,.v Q0 ((A++B).length:Int))]) Y C Y (by exact(.cons Y (.cons Y (.cons Y (.cons Y .nil))))) Y fun b p q c ZN M l4=>?_;have E:(gF).n=9:=rfl;refine eQ (.a 4 ?_);refine .k (CP Y yE) (.k (CQ Y Y) (.f [0,1,2,7,8,31] ?_))
  repeat refine aG ?_
  rcases aC8 (cm .gtr (ar .add .i64 ((A++B).length:Int) (a2.length:Int)) (c:Int)) with u | u
  ·have ac:c<A.length+(B.length+a2.length):=by
    rw[D] at u;simp[cm] at u;omega
   refine vM Y u ?_;clear u
   repeat refine aG ?_
   refine eQ (.a 2 ?_);refine .k (El (e:=gF) A.length Y (by omega) Y Y Y yE jS) ?_;refine .a 5 ?_;refine .k (GN (z0:=_) (zv:=((0:Int),aS)) 1 Y Y Y Y Y O (by omega) (by omega) (by omega) Y yE U3 Kv jS Y (Z.pr (Z.int .i64) (Z.arr 8 (Z.int .u8))) Y) (.f [0,1,2,7,8,9] ?_);have K:Sw.sub (A++List.replicate (B.length+a2.length) ((0:Int),aS)) (A.length:Int) (((A++List.replicate (B.length+a2.length) ((0:Int),aS))).length:Int)=some (List.replicate (B.length+a2.length) ((0:Int),aS)):=by
    rw[Sw.sub,WU (by simp only[sM,oz];omega),n9,n9,aDc,qk]
   have U:a2.length<=((A++List.replicate (B.length+a2.length) ((0:Int),aS))).length - Int.toNat (A.length:Int):=by
    simp only[sM,oz];omega
   repeat refine aG ?_
   refine eQ (.a 2 ?_);refine .k (Le K Y Y Y yE jS) ?_;refine .a 1 ?_;refine .t (Mm K Y Y (.sl Y) U yE jS Y) (.f [0,1,2,7,8,9] ?_);have V:List.take (Int.toNat (A.length:Int)) (A++List.replicate (B.length+a2.length) ((0:Int),aS))++a2++List.drop (Int.toNat (A.length:Int)+a2.length) (A++List.replicate (B.length+a2.length) ((0:Int),aS))=(A++(a2++List.replicate B.length ((0:Int),aS))):=by
    simp[aD5,List.drop_replicate]
   rw[V];have L:Sw.sub (A++(a2++List.replicate B.length ((0:Int),aS))) (ar .add .i64 (A.length:Int) (a2.length:Int)) (((A++(a2++List.replicate B.length ((0:Int),aS)))).length:Int)=some (List.replicate B.length ((0:Int),aS)):=by
    rw[z,Sw.sub,WU (by simp only[sM,oz];omega),n9,n9,aDc,<-C0,List.drop_left' (by rw[sM])]
   have X:B.length<=((A++(a2++List.replicate B.length ((0:Int),aS)))).length - Int.toNat (ar .add .i64 (A.length:Int) (a2.length:Int)):=by
    rw[z];simp only[sM,oz];omega
   repeat refine aG ?_
   refine dY 8 mixed (by exact(.k (aD Y) (.k (aD Y) (.k (aD Y) (.k (cU Y Y Y) (.k (Le L Y Y Y yE jS) (.k (aD Y) (.k (aD Y) (.k (zU (e:=gF) (p+A.length*(gF).n) B.length (c - A.length) Y (by omega) (by omega) Y (by omega) Y Y Y yE jS) .nil))))))))) (by exact(J.t (Mm L Y Y (.K5 Y Y Y Y (by omega)) X yE jS Y) (J.kp [0,1,2,7,8,9,53] []))) ?_;have ae:(List.take (Int.toNat (ar .add .i64 (A.length:Int) (a2.length:Int))) (A++(a2++List.replicate B.length ((0:Int),aS)))++B++List.drop (Int.toNat (ar .add .i64 (A.length:Int) (a2.length:Int))+B.length) (A++(a2++List.replicate B.length ((0:Int),aS))))=A++(a2++B):=by
    rw[z,n9,<-C0 A a2 (List.replicate _ _),List.take_left' (by rw[sM]),aDy (by simp only[sM,oz];omega)];simp
   rw[ae]
   repeat refine aG ?_
   refine dP [0,1,2,6,7,8,9,53,55] ?_;refine aH ?_;exact eV F Y (aC [(0,1)])
  ·have aa:A.length+B.length+a2.length<=c:=by
    rw[D] at u;simp[cm] at u;omega
   have hq:a2.length*(gF).n<=q:=by
    rw[E,I] at M;rw[E];omega
   refine Ay Y u ?_;clear u
   repeat first | refine aF ?_ | refine aG ?_
   refine eQ (.a 4 ?_);refine .k (El (e:=gF) (A.length+B.length+a2.length) D (by omega) Y Y Y yE jS) (.f [0,1,2,7,8] ?_)
   repeat refine aG ?_
   refine eQ (.a 5 ?_);refine .k (zU (e:=gF) (p+(A.length+a2.length)*(gF).n) B.length (c - (A.length+a2.length)) z (by omega) (by omega) Y (by omega) Y Y Y yE jS) (.k (Uf Tryz.func251 (by kernel_rfl) (by kernel_rfl) (by kernel_rfl) (R:=4) (by kernel_rfl) Y Y Y G C Y yE jS) (.f [0,1,2,7,8,68] ?_))
   repeat refine aG ?_
   refine vM Y Y ?_
   repeat refine aG ?_
   refine dY 8 mixed (by exact(.k (aD Y) (.k (aD Y) (.k (aD Y) (.k (cU Y Y Y) (.k (zU (e:=gF) (p+(A.length+a2.length)*(gF).n) B.length (c - (A.length+a2.length)) z (by omega) (by omega) Y (by omega) Y Y Y yE jS) (.k (aD Y) (.k (aD Y) (.k (zU (e:=gF) (p+A.length*(gF).n) (B.length+a2.length) (c - A.length) Y (by omega) (by omega) Y (by omega) Y Y Y yE jS) .nil))))))))) (by exact(J.t (Ue (m:=a2.length) Y Y Y Y Y Y Y hq (by omega) yE jS Y) (J.kp [0,1,2,7,8] []))) ?_
   repeat refine aG ?_
   refine eQ (.a 2 ?_);refine .k (zU (e:=gF) (p+A.length*(gF).n) (B.length+a2.length) (c - A.length) Y (by omega) (by omega) Y (by omega) Y Y Y yE jS) ?_;refine .a 1 ?_;refine .t (Xq Y Y (.sl Y) Y Y Y (by omega) yE jS Y) (.f [0] ?_);refine wM (Bj (t:=0) (by simp only[sM];omega) aa (by rw[E,I] at M;rw[E];omega) (by omega) Y) ?_
   repeat refine aG ?_
   refine dP [0,6,83] ?_;refine aH ?_;exact eV F Y (aC [(0,9000)])
theorem Pj{a0 a1 a2 r}(h:tU a0 a1 a2=some r):
 WC Tryz.prog 164 [.v Ku a0,.v Q0 a1,.v gF a2] (.WN [.v Ku r.1,.v Q9 r.2]) []:=by
 refine WC.of Tryz.func164 Y Tryz.ntmps164 Y ?_;intro S w B;unfold tU at h;refine aJ (.k (cI 101 Y (.VL sO (.VL sO (.VL sO sO))) Y) (.k (cI 102 Y (.VL sO sO) Y) (.k (aN 103 QW Y (.cons (Z.int .i64) (.cons (Z.sl gF) (.cons (Z.sl pE) (.cons Z.bool .nil)))) Y) (.f [1,3,5,6] ?_))));obtain⟨I,K,h⟩:=aA h;refine jJ (.k (aT Y Y (.VL sO (.VL sO (.VL sO sO))) Ez yW) ?_);refine .a 1 ?_;refine .k (aM (tD K) NV (.cons (.dir Y) (.cons (.dir Y) .nil))) (.f [1,3,5,6,8] ?_);refine aL [1,3,5,6,8,15] ?_;refine aU h Y (fun F h=>?_) (fun F h=>?_)
 ·refine aJ (.k (bQ yX (.cons (Z.int .i64) (.cons (Z.sl gF) (.cons (Z.sl pE) (.cons Z.bool .nil)))) .nil) (.f [6,7] ?_));refine aH ?_;obtain rfl:=pT h;exact cB (σ':=⟨[(6,.ptr 90 0),(7,.v Q9 I)],[(90,.box 80 [.v Q0 (0:Int),.v Q1 ([]:Q6),.v (Wr.sl pE) ([]:Ii),.v Wr.bool false])]⟩) (aC [(90,103)]) (bS B dR Y (aV Y Y (.VL sO (.VL sO (.VL sO sO))) Ez yW) (RV.tmp Y) .nil Y)
 refine aF ?_;refine aG ?_;refine aG ?_;obtain⟨L,z,h⟩:=aA h;refine eB (σ':=⟨[(3,.ptr 101 0),(5,.ptr 102 0),(6,.ptr 103 0),(26,.v Wr.bool L)],[(101,.box 80 [.v Q0 a0.1,.v Q1 a0.2.1,.v (Wr.sl pE) a0.2.2.1,.v Wr.bool a0.2.2.2]),(102,.box 214 [.v Q0 a2.1,.v aO a2.2]),(103,.box 80 [.v Q0 (0:Int),.v Q1 ([]:Q6),.v (Wr.sl pE) ([]:Ii),.v Wr.bool false])]⟩) ?_ ?_
 ·refine cd z (fun G z=>?_) (fun G z=>?_)
  ·cases z;exact jy
  cases z;exact jy
 refine aU h Y (fun H h=>?_) (fun H h=>?_)
 ·refine aJ (.k (bQ yX (.cons (Z.int .i64) (.cons (Z.sl gF) (.cons (Z.sl pE) (.cons Z.bool .nil)))) .nil) (.f [6,7] ?_));refine aH ?_;obtain rfl:=pT h;exact cB (σ':=⟨[(6,.ptr 90 0),(7,.v Q9 (some (1:Int)))],[(90,.box 80 [.v Q0 (0:Int),.v Q1 ([]:Q6),.v (Wr.sl pE) ([]:Ii),.v Wr.bool false])]⟩) (aC [(90,103)]) (bS B dR Y (aV Y Y (.VL sO (.VL sO (.VL sO sO))) Ez yW) (RV.tmp Y) .nil Y)
 refine aF ?_;obtain⟨u,M,h⟩:=aA h;refine aJ (.k (aT Y Y (.VL sO (.VL sO (.VL sO sO))) Ez yW) (.k (fI 105000 (wK M) Tryz.call178 (.cons (.dir Y) .nil) Y) (.f [3,5,6] ?_)));obtain⟨R,N,h⟩:=aA h;refine aJ (.a 4 ?_);refine .k (rO (jN N) Tryz.call220 (.cons (.ref Y Y) (.cons (.dir Y) (.cons .fn .nil))) (XW.WN (.v (.v .nil)))) (.f [3,5,6,9,10] ?_);refine cT [3,5,6,9,39] ?_;obtain⟨O,P,h⟩:=eZ h;refine sR (fun C:Q6=>⟨[(3,.ptr 101 0),(6,.ptr 103 0)],[(101,.box 80 [.v Q0 u.1,.ref 108,.ref 105001,.v Wr.bool u.2.2.2]),(103,.box 80 [.v Q0 (0:Int),.v Q1 ([]:Q6),.v (Wr.sl pE) ([]:Ii),.v Wr.bool false]),(108,.arr 214 gF C),(105001,.arr 197 pE u.2.2.1)]⟩) (fun x=>O x=some r) Y ?_ ?_ ?_
 ·intro C h;rw[P] at h;refine aJ (.k (hO Y Y Y Ez yW) (.f [6,7] ?_));refine aH ?_;obtain rfl:=pT h;exact cB (σ':=⟨[(6,.ptr 90 0),(7,.v Q9 (none:Option Int))],[(90,.box 80 [.v Q0 u.1,.v Q1 C,.v (Wr.sl pE) u.2.2.1,.v Wr.bool u.2.2.2])]⟩) (aC [(90,103)]) (bS B dR Y (aV Y Y (.VL sO (.VL sO (.VL sO sO))) Ez yW) (RV.tmp Y) .nil Y)
 ·intro D;replace h:=iG D h;obtain⟨T,E,h⟩:=aA h;refine eQ (.a 3 ?_);refine .k (aT Y Y (.VL sO sO) Zb jS) (.k (iY E Y Y Y yE jS) (.t (qZ (dG E).2.2 Y Y Y jS) (.f [3,6] ?_)));exact bY h (aC [(108,105000)])
 ·intro D;replace h:=iH D h;obtain⟨U,Q,h⟩:=aA h;refine eQ (.a 3 ?_);refine .k (aT Y Y (.VL sO sO) Zb jS) (.k (dI (e:=gF) yE jS Fb Y Y Y Y (.cons (.dir Y) .nil)) (.t (eM [105000] (Bu [(9000,105000),(0,109)]) (eO _) (fun A=>uA A Q) Tryz.call222 (fun A=>(.arr .nil Y))) (.f [3,6] ?_)));exact bY h (aC [(108,109)])
theorem uQ(A:Nat->Nat){a1 a2 b0 b1 b2 b3 b4 b5 b6 b7 b8 b9 bA bB bC bD bE bF bG bH bI bJ bK bL r}(h:eS a1 a2 b0 b1 b2 b3 b4 b5 b6 b7 b8 b9 bA bB bC bD bE bF bG bH bI bJ bK bL=some r):
 VQ Tryz.prog 105 [.ptr 9000 0,.v Q0 a1,.v aO a2] (kQ 9000 (some (A 9000)) 9100 (some (A 9100)) 9200 (some (A 9200)) 9050 9051 9052 9053 b0 b1 b2 b3 b4 b5 b6 b7 b8 b9 bA bB bC bD bE bF bG bH bI bJ bK bL) (.v Q9 r.1) (kQ 9000 (some (A 9000)) 9100 (some (A 9100)) 9200 (some (A 9200)) 400 401 402 403 b0 b1 b2 b3 r.2.1 r.2.2 b6 b7 b8 b9 bA bB bC bD bE bF bG bH bI bJ bK bL):=by
 refine VQ.of Tryz.func105 Y Tryz.ntmps105 Y ?_;intro S w R u;unfold eS at h;refine aJ (.k (cI 101 Y sO Y) (.f [0,1,5] ?_));refine aG ?_;obtain⟨D,C,h⟩:=aA h;refine dY 19 mixed (by exact(.k (aD Y) (.k (aK Y) (.k (aB 1 Y Tf Y OY Y Y) (.k (aB 6 Y vT Y yW Y Y) (.k (aI Y Y Y Ez yW) (.k (aD Y) (.k (aK Y) (.k (aB 0 Y Tf Y S3 Y Y) (.k (aI Y Y Y G3 S3) (.k (aD Y) (.k (aI Y Y Y tI kB) (.k (bQ wA (.cons (Z.int .i64) (.cons (Z.arr 8 (Z.int .u8)) .nil)) (.cons Y (.dir Y) Y Y Y Y (.cons Y (.dir Y) Y Y Y Y .nil))) (.k (aM (Pj C) Tryz.call164 (.cons (.dir Y) (.cons (.dir Y) (.cons (.agg Y (.same (.same .nil)) (.VL sO sO) Y) .nil)))) (.k (aD Y) (.k (bV Y Y) (.k (bV Y Y) (.k (aN 103 QW Y (.cons (Z.int .i64) (.cons (Z.sl gF) (.cons (Z.sl pE) (.cons Z.bool .nil)))) Y) (XR.storeAll (.none Y) Y Y Y Y (.VL sO (.VL sO (.VL sO sO))) yW (.k (bO Y) .nil)))))))))))))))))))) (by exact(J.kp [0,1,5,7,8] [])) ?_;refine cT [0,1,5,7,8,26] ?_;refine aU h Y (fun B h=>?_) (fun B h=>?_)
 ·refine aL [0,6] ?_;cases h;exact aH (eV u Y (aC [(403,9053),(402,9052),(401,9051),(400,9050)]))
 refine aF ?_;refine aG ?_;obtain⟨E,z,h⟩:=aA h;refine dY 14 mixed (by exact(.k (aD Y) (.k (aD Y) (.k (aK Y) (.k (aB 1 Y Tf Y OY Y Y) (.k (aB 5 Y vT Y yD Y Y) (.k (aI Y Y Y To yD) (.k (aD Y) (.k (aT Y Y (.VL sO (.VL sO (.VL sO sO))) Ez yW) (.k (aI Y Y Y tI kB) (.k (aK Y) (.k (aB 1 Y Tf Y OY Y Y) (.k (aB 6 Y vT Y yW Y Y) (XR.store (.none Y) Y Y Y Y Y Y Y yW (.k (iY z Y Y Y Jo kB) .nil))))))))))))))) (by exact(J.t (qZ (dG z).2.2 Y Y Y kB) (J.kp [0] []))) ?_;refine aL [0,6] ?_;cases h;exact aH (eV u Y (aC [(403,9053),(402,9052),(401,9051),(400,9050)]))
theorem Ch(A:Nat->Nat){a1 b0 b1 b2 b3 b4 b5 b6 b7 b8 b9 bA bB bC bD bE bF bG bH bI bJ bK bL r}(h:nO a1 b0 b1 b2 b3 b4 b5 b6 b7 b8 b9 bA bB bC bD bE bF bG bH bI bJ bK bL=some r):
 VQ Tryz.prog 104 [.ptr 9000 0,.v Q4 a1] (kQ 9000 (some (A 9000)) 9100 (some (A 9100)) 9200 (some (A 9200)) 9050 9051 9052 9053 b0 b1 b2 b3 b4 b5 b6 b7 b8 b9 bA bB bC bD bE bF bG bH bI bJ bK bL) (.WN [.v aO r.1,.v Q9 r.2.1]) (Th 9000 (some (A 9000)) 301 none 302 none 400 401 402 403 r.2.2):=by
 refine VQ.of Tryz.func104 Y Tryz.ntmps104 Y ?_;intro S w R u;unfold nO at h;refine aJ (.k (cI 101 Y (.VL sO (.VL sO (.VL sO sO))) Y) (.k (aN 102 Aq Y (.cons (Z.arr 8 (Z.int .u8)) .nil) Y) (.f [0,3,4] ?_)));obtain⟨z,B,h⟩:=aA h;refine aJ (.k (dD (e:=aO) (v:=aS) Br vS I5 Y Y (Z.arr 8 (Z.int .u8))) ?_);refine .a 5 ?_;refine .t (eM [9000,9100,9200,9050,9051,9052,9053] (vR [(9000,9000),(9100,9100),(9200,9200),(9050,9050),(9051,9051),(9052,9052),(9053,9053),(400,103),(401,104),(402,105),(403,106)]) (dF Y) (fun A=>uQ A B) Tryz.call105 (fun A=>(.box Y (.box Y (.box Y (.arr (.mp (.arr (.arr .nil Y) Y) Y) Y) Y) Y) Y))) (.f [0,4,5] ?_);refine aH ?_;obtain rfl:=pT h;exact nK [(0,.ptr 9000 0),(4,.ptr 90 0),(5,.v Q9 z.1)] [(90,.box 30 [.v aO aS])] (aC [(90,102),(403,106),(302,9200),(402,105),(401,104),(400,103),(301,9100)]) (dQ u Y (cK Y Y Y tI kB) (RV.tmp Y) (.cons Y (.cons Y (.cons Y (.cons Y (.cons Y (.cons Y (.cons Y .nil))))))))
theorem Ci(A:Nat->Nat){a1 b0 b1 b2 b3 b4 b5 b6 b7 b8 b9 bA bB bC bD bE bF bG bH bI bJ bK bL r}(h:nP a1 b0 b1 b2 b3 b4 b5 b6 b7 b8 b9 bA bB bC bD bE bF bG bH bI bJ bK bL=some r):
 VQ Tryz.prog 106 [.ptr 9000 0,.v Q4 a1] (kQ 9000 (some (A 9000)) 9100 (some (A 9100)) 9200 (some (A 9200)) 9050 9051 9052 9053 b0 b1 b2 b3 b4 b5 b6 b7 b8 b9 bA bB bC bD bE bF bG bH bI bJ bK bL) (.WN [.v aO r.1,.v Q9 r.2.1]) (Th 9000 (some (A 9000)) 301 none 302 none 400 401 402 403 r.2.2):=by
 refine VQ.of Tryz.func106 Y Tryz.ntmps106 Y ?_;intro S w R u;unfold nP at h;refine aJ (.k (cI 101 Y (.VL sO (.VL sO (.VL sO sO))) Y) (.k (aN 102 Aq Y (.cons (Z.arr 8 (Z.int .u8)) .nil) Y) (.f [0,3,4] ?_)));obtain⟨z,B,h⟩:=aA h;refine aJ (.k (dD (e:=aO) (v:=aS) Br vS I5 Y Y (Z.arr 8 (Z.int .u8))) ?_);refine .a 3 ?_;refine .k (dD (e:=aO) (v:=aS) Br vS I5 Y Y (Z.arr 8 (Z.int .u8))) (.t (eM [9000,9100,9200,9050,9051,9052,9053] (vR [(9000,9000),(9100,9100),(9200,9200),(9050,9050),(9051,9051),(9052,9052),(9053,9053),(400,103),(401,104),(402,105),(403,106)]) (dF Y) (fun A=>uQ A B) Tryz.call105 (fun A=>(.box Y (.box Y (.box Y (.arr (.mp (.arr (.arr .nil Y) Y) Y) Y) Y) Y) Y))) (.f [0,4,5] ?_));refine aH ?_;obtain rfl:=pT h;exact nK [(0,.ptr 9000 0),(4,.ptr 90 0),(5,.v Q9 z.1)] [(90,.box 30 [.v aO aS])] (aC [(90,102),(403,106),(302,9200),(402,105),(401,104),(400,103),(301,9100)]) (dQ u Y (cK Y Y Y tI kB) (RV.tmp Y) (.cons Y (.cons Y (.cons Y (.cons Y (.cons Y (.cons Y (.cons Y .nil))))))))
theorem Ai(A:Nat->Nat){a1 b0 b1 b2 b3 b4 b5 b6 b7 b8 b9 bA bB bC bD bE bF bG bH bI bJ bK bL r}(h:fU a1 b0 b1 b2 b3 b4 b5 b6 b7 b8 b9 bA bB bC bD bE bF bG bH bI bJ bK bL=some r):
 VQ Tryz.prog 108 [.ptr 9000 0,.v Q0 a1] (kQ 9000 (some (A 9000)) 9100 (some (A 9100)) 9200 (some (A 9200)) 9050 9051 9052 9053 b0 b1 b2 b3 b4 b5 b6 b7 b8 b9 bA bB bC bD bE bF bG bH bI bJ bK bL) (.WN [.v aO r.1,.v Q9 r.2]) (kQ 9000 (some (A 9000)) 9100 (some (A 9100)) 9200 (some (A 9200)) 400 401 402 403 b0 b1 b2 b3 b4 b5 b6 b7 b8 b9 bA bB bC bD bE bF bG bH bI bJ bK bL):=by
 refine VQ.of Tryz.func108 Y Tryz.ntmps108 Y ?_;intro S w R z;unfold fU at h;refine aJ (.k (aN 101 Aq Y (.cons (Z.arr 8 (Z.int .u8)) .nil) Y) (.f [0,1,4] ?_));refine aG ?_;refine aG ?_;obtain⟨E,u,h⟩:=aA h;refine eB (σ':=⟨[(0,.ptr 9000 0),(1,.v Q0 a1),(4,.ptr 101 0),(15,.v Wr.bool E)],((101,.box 30 [.v aO aS])::kQ 9000 (some (A 9000)) 9100 (some (A 9100)) 9200 (some (A 9200)) 9050 9051 9052 9053 b0 b1 b2 b3 b4 b5 b6 b7 b8 b9 bA bB bC bD bE bF bG bH bI bJ bK bL)⟩) ?_ ?_
 ·refine cd u (fun C u=>?_) (fun C u=>?_)
  ·cases u;exact jy
  cases u;exact jy
 refine aU h Y (fun D h=>?_) (fun D h=>?_)
 ·refine aJ (.k (dD (e:=aO) (v:=aS) Br vS I5 Y Y (Z.arr 8 (Z.int .u8))) (.f [0,4,5] ?_));refine aH ?_;obtain rfl:=pT h;exact nK [(0,.ptr 9000 0),(4,.ptr 90 0),(5,.v Q9 (some (1:Int)))] [(90,.box 30 [.v aO aS])] (aC [(90,101),(403,9053),(402,9052),(401,9051),(400,9050)]) (dQ z Y (cK Y Y Y tI kB) (RV.tmp Y) (.cons Y (.cons Y (.cons Y (.cons Y (.cons Y (.cons Y (.cons Y .nil))))))))
 refine aF ?_;obtain⟨F,B,h⟩:=aA h;refine aJ (.a 6 ?_);refine .k (iY B Y Y Y Jo kB) (.k (jR (dG B).2.2 Y Y .here tI kB) (.f [0,4,5] ?_));refine aH ?_;obtain rfl:=pT h;exact nK [(0,.ptr 9000 0),(4,.ptr 90 0),(5,.v Q9 (none:Option Int))] [(90,.box 30 [.v aO F])] (aC [(90,101),(403,9053),(402,9052),(401,9051),(400,9050)]) (dQ z Y (cK Y Y Y tI kB) (RV.tmp Y) (.cons Y (.cons Y (.cons Y (.cons Y (.cons Y (.cons Y (.cons Y .nil))))))))
theorem Cj(A:Nat->Nat){a1 b0 b1 b2 b3 b4 b5 b6 b7 b8 b9 bA bB bC bD bE bF bG bH bI bJ bK bL r}(h:nQ a1 b0 b1 b2 b3 b4 b5 b6 b7 b8 b9 bA bB bC bD bE bF bG bH bI bJ bK bL=some r):
 VQ Tryz.prog 107 [.ptr 9000 0,.v Q4 a1] (kQ 9000 (some (A 9000)) 9100 (some (A 9100)) 9200 (some (A 9200)) 9050 9051 9052 9053 b0 b1 b2 b3 b4 b5 b6 b7 b8 b9 bA bB bC bD bE bF bG bH bI bJ bK bL) (.WN [.v aO r.1,.v Q9 r.2.1]) (Th 9000 (some (A 9000)) 301 none 302 none 400 401 402 403 r.2.2):=by
 refine VQ.of Tryz.func107 Y Tryz.ntmps107 Y ?_;intro S w R z;unfold nQ at h;refine aJ (.k (cI 101 Y (.VL sO (.VL sO (.VL sO sO))) Y) (.k (aN 102 Aq Y (.cons (Z.arr 8 (Z.int .u8)) .nil) Y) (.f [0,3,4] ?_)));obtain⟨u,B,h⟩:=aA h;refine aJ (.a 3 ?_);refine .t (eM [9000,9100,9200,9050,9051,9052,9053] (vR [(9000,9000),(9100,9100),(9200,9200),(9050,9050),(9051,9051),(9052,9052),(9053,9053),(400,103),(401,104),(402,105),(403,106)]) (dF Y) (fun A=>Ai A B) Tryz.call108 (fun A=>(.box Y (.box Y (.box Y (.arr (.mp (.arr (.arr .nil Y) Y) Y) Y) Y) Y) Y))) (.f [0,4,5] ?_);refine aH ?_;obtain rfl:=pT h;exact nK [(0,.ptr 9000 0),(4,.ptr 90 0),(5,.v Q9 u.2)] [(90,.box 30 [.v aO u.1])] (aC [(90,102),(403,106),(302,9200),(402,105),(401,104),(400,103),(301,9100)]) (dQ z Y (cK Y Y Y tI kB) (RV.tmp Y) (.cons Y (.cons Y (.cons Y (.cons Y (.cons Y (.cons Y (.cons Y .nil))))))))
theorem Aj(A:Nat->Nat){a1 a2 b0 b1 b2 b3 b4 b5 b6 b7 b8 b9 bA bB bC bD bE bF bG bH bI bJ bK bL r}(h:jQ a1 a2 b0 b1 b2 b3 b4 b5 b6 b7 b8 b9 bA bB bC bD bE bF bG bH bI bJ bK bL=some r):
 VQ Tryz.prog 165 [.ptr 9000 1,.v Q1 a1,.v Q0 a2] (kQ 9000 (some (A 9000)) 9100 (some (A 9100)) 9200 (some (A 9200)) 9050 9051 9052 9053 b0 b1 b2 b3 b4 b5 b6 b7 b8 b9 bA bB bC bD bE bF bG bH bI bJ bK bL) (.v Q9 r.1) (kQ 9000 (some (A 9000)) 9100 (some (A 9100)) 9200 (some (A 9200)) 400 401 402 403 b0 b1 r.2.1 b3 b4 b5 b6 b7 b8 b9 bA bB bC bD bE bF bG bH r.2.2.1 r.2.2.2 bK bL):=by
 refine VQ.of Tryz.func165 Y Tryz.ntmps165 Y ?_;intro S w R u;unfold jQ at h;refine aL [0,1,2] ?_;refine aG ?_;refine aG ?_;obtain⟨C,B,h⟩:=aA h;refine dY 10 mixed (by exact(.k (aD Y) (.k (aK Y) (.k (aB 1 Y Fa Y Ij Y Y) (.k (aI Y Y Y Nw Ij) (.k (aD Y) (.k (aD Y) (.k (aD Y) (.k (aK Y) (.k (aB 4 Y Fa Y S3 Y Y) (.k (aI Y Y Y G3 S3) .nil))))))))))) (by exact(J.t (eM [9100] (Bu [(9000,9100)]) (eO _) (fun A=>hC A B) JT (fun A=>(.box Y .nil Y))) (jz [0,2,7]))) ?_;refine aL [0,2,7,20] ?_;refine aU h Y (fun z h=>?_) (fun z h=>?_)
 ·refine aL [0,6] ?_;cases h;exact aH (eV u Y (aC [(403,9053),(402,9052),(401,9051),(400,9050)]))
 refine aF ?_;refine aL [0] ?_;refine aL [0,6] ?_;cases h;exact aH (eV u Y (aC [(403,9053),(402,9052),(401,9051),(400,9050)]))
theorem Oe{a0 a1 r}(h:rW a0 a1=some r):
 WC Tryz.prog 166 [.v Ku a0,.v Q0 a1] (.WN [.v Ku r.1,.v Q9 r.2]) []:=by
 refine WC.of Tryz.func166 Y Tryz.ntmps166 Y ?_;intro S w z;unfold rW at h;refine aJ (.k (cI 101 Y (.VL sO (.VL sO (.VL sO sO))) Y) (.k (aN 102 QW Y (.cons (Z.int .i64) (.cons (Z.sl gF) (.cons (Z.sl pE) (.cons Z.bool .nil)))) Y) (.f [1,2,4] ?_)));obtain⟨E,F,h⟩:=aA h;refine jJ (.k (aT Y Y (.VL sO (.VL sO (.VL sO sO))) Ez yW) ?_);refine .a 1 ?_;refine .k (aM (tD F) NV (.cons (.dir Y) (.cons (.dir Y) .nil))) (.f [2,4,6] ?_);refine aL [2,4,6,11] ?_;refine aU h Y (fun A h=>?_) (fun A h=>?_)
 ·refine aJ (.k (fH (new:=[(104,.arr 197 pE ([]:Ii))]) yX (.cons (Z.int .i64) (.cons (Z.sl gF) (.ref 104 Y (.cons Z.bool .nil)))) (.cons .nil) Y .nil) (.f [4,5] ?_));refine aH ?_;obtain rfl:=pT h;exact cB (σ':=⟨[(4,.ptr 90 0),(5,.v Q9 E)],[(90,.box 80 [.v Q0 (0:Int),.v Q1 ([]:Q6),.v (Wr.sl pE) ([]:Ii),.v Wr.bool false])]⟩) (aC [(90,102)]) (bS z dR Y (aV Y Y (.VL sO (.VL sO (.VL sO sO))) Ez yW) (RV.tmp Y) .nil Y)
 refine aF ?_;refine cT [2,4,16] ?_;refine aU h Y (fun B h=>?_) (fun B h=>?_)
 ·refine aJ (.k (fH (new:=[(105,.arr 197 pE ([]:Ii))]) yX (.cons (Z.int .i64) (.cons (Z.sl gF) (.ref 105 Y (.cons Z.bool .nil)))) (.cons .nil) Y .nil) (.f [4,5] ?_));refine aH ?_;obtain rfl:=pT h;exact cB (σ':=⟨[(4,.ptr 90 0),(5,.v Q9 (some (2:Int)))],[(90,.box 80 [.v Q0 (0:Int),.v Q1 ([]:Q6),.v (Wr.sl pE) ([]:Ii),.v Wr.bool false])]⟩) (aC [(90,102)]) (bS z dR Y (aV Y Y (.VL sO (.VL sO (.VL sO sO))) Ez yW) (RV.tmp Y) .nil Y)
 refine aF ?_;obtain⟨u,G,h⟩:=aA h;refine aJ (.k (aT Y Y (.VL sO (.VL sO (.VL sO sO))) Ez yW) (.k (fI 106000 (wK G) Tryz.call178 (.cons (.dir Y) .nil) Y) (.f [2,4] ?_)));refine aL [2,4] ?_;refine aG ?_;refine bR ?_;refine aL [2,4,35] ?_;refine aU h Y (fun C h=>?_) (fun C h=>?_)
 ·refine aF ?_;refine aZ ?_;refine aJ (.a 1 ?_);refine .t (uF 107 214 gF Y Y Y Y Ik Y) (.f [2,4] ?_);refine aJ (.k (hO Y Y Y Ez yW) (.f [4,5] ?_));refine aH ?_;obtain rfl:=pT h;exact cB (σ':=⟨[(4,.ptr 90 0),(5,.v Q9 (none:Option Int))],[(90,.box 80 [.v Q0 (ar .add .i64 u.1 (1:Int)),.v Q1 ([]:Q6),.v (Wr.sl pE) u.2.2.1,.v Wr.bool u.2.2.2])]⟩) (aC [(90,102)]) (bS z dR Y (aV Y Y (.VL sO (.VL sO (.VL sO sO))) Ez yW) (RV.tmp Y) .nil Y)
 refine aL [2,4,38] ?_;refine aU h Y (fun D h=>?_) (fun D h=>?_)
 ·refine eQ (.a 3 ?_);refine .t (uF 108 197 pE Y Y Y Y TP Y) (.f [2,4] ?_);refine aZ ?_;refine aJ (.a 1 ?_);refine .t (uF 109 214 gF Y Y Y Y Ik Y) (.f [2,4] ?_);refine aJ (.k (hO Y Y Y Ez yW) (.f [4,5] ?_));refine aH ?_;obtain rfl:=pT h;exact cB (σ':=⟨[(4,.ptr 90 0),(5,.v Q9 (none:Option Int))],[(90,.box 80 [.v Q0 (ar .add .i64 u.1 (1:Int)),.v Q1 ([]:Q6),.v (Wr.sl pE) ([]:Ii),.v Wr.bool true])]⟩) (aC [(90,102)]) (bS z dR Y (aV Y Y (.VL sO (.VL sO (.VL sO sO))) Ez yW) (RV.tmp Y) .nil Y)
 obtain⟨H,I,h⟩:=aA h;refine eQ (.a 6 ?_);refine .k (bQ Dp (.cons (Z.int .i64) (.cons (Z.sl gF) .nil)) (.cons Y (.dir Y) Y Y Y Y (.cons Y (.dir Y) Y Y Y Y .nil))) (.sub (σ':=⟨[(2,.ptr 101 0),(4,.ptr 102 0),(25,.ptr 101 2),(26,.ref 106001),(27,.ptr 101 0),(28,.v Q0 (ar .add .i64 u.1 (1:Int))),(29,.ptr 101 1),(30,.v Q1 u.2.1),(31,.agg [.v Q0 (ar .add .i64 u.1 (1:Int)),.v Q1 u.2.1]),(38,.v Wr.bool (cm .eql (u.2.2.1.length:Int) (4:Int)))],[(101,.box 80 [.v Q0 (ar .add .i64 u.1 (1:Int)),.v Q1 u.2.1,.ref 106001,.v Wr.bool u.2.2.2]),(102,.box 80 [.v Q0 (0:Int),.v Q1 ([]:Q6),.v (Wr.sl pE) ([]:Ii),.v Wr.bool false]),(106001,.arr 197 pE u.2.2.1)]⟩) (Sw.Sub.mk id (.cons Y (.of_eq Y) (.cons Y (.of_eq Y) (.cons Y (.of_eq Y) (.cons Y (.of_eq Y) (.cons Y (.of_eq Y) (.cons Y (.of_eq Y) (.cons Y (.of_eq Y) (.cons Y (.U4 Y Y) (.cons Y (.agg (.cons (.of_eq Y) (.cons (.U4 Y Y) .nil))) (.cons Y (.of_eq Y) .nil)))))))))) (.box Y (.cons (.of_eq Y) (.cons (.U4 Y Y) (.cons (.of_eq Y) (.cons (.of_eq Y) .nil)))) (.box Y (.cons (.of_eq Y) (.cons (.of_eq Y) (.cons (.of_eq Y) (.cons (.of_eq Y) .nil)))) (.arr Y .nil))) Y) (.k (dI (e:=pE) EU vC Pe Y Y Y Y (.cons (.agg Y (.same (.same .nil)) (.VL sO sO) Y) .nil)) (.t (bT 110 I Y Y (.sl Y) EU QL vC Y Y Y Y Y) (.f [2,4] ?_))));refine aZ ?_;refine aJ (.a 1 ?_);refine .t (Iw Y Y Y (.nj gF) Y Y Y Ik) (.f [2,4] ?_);refine aJ (.k (hO Y Y Y Ez yW) (.f [4,5] ?_));refine aH ?_;obtain rfl:=pT h;exact cB (σ':=⟨[(4,.ptr 90 0),(5,.v Q9 (none:Option Int))],[(90,.box 80 [.v Q0 (ar .add .i64 u.1 (1:Int)),.v Q1 ([]:Q6),.v (Wr.sl pE) H,.v Wr.bool u.2.2.2])]⟩) (aC [(90,102)]) (bS z dR Y (aV Y Y (.VL sO (.VL sO (.VL sO sO))) Ez yW) (RV.tmp Y) .nil Y)
theorem nL(A:Nat->Nat){b0 b1 b2 b3 b4 b5 b6 b7 b8 b9 bA bB bC bD bE bF bG bH bI bJ bK bL r}(h:eH b0 b1 b2 b3 b4 b5 b6 b7 b8 b9 bA bB bC bD bE bF bG bH bI bJ bK bL=some r):
 VQ Tryz.prog 103 [.ptr 9000 1] (kQ 9000 (some (A 9000)) 9100 (some (A 9100)) 9200 (some (A 9200)) 9050 9051 9052 9053 b0 b1 b2 b3 b4 b5 b6 b7 b8 b9 bA bB bC bD bE bF bG bH bI bJ bK bL) (.WN []) (kQ 9000 (some (A 9000)) 9100 (some (A 9100)) 9200 (some (A 9200)) 400 401 402 403 b0 b1 b2 b3 b4 b5 r b7 b8 b9 bA bB bC bD bE bF bG bH bI bJ bK bL):=by
 refine VQ.of Tryz.func103 Y Tryz.ntmps103 Y ?_;intro S w R u;unfold eH at h;refine aG ?_;obtain⟨D,z,h⟩:=aA h;obtain⟨B,C,h⟩:=aA h;refine dY 14 mixed (by exact(.k (aD Y) (.k (aK Y) (.k (aB 10 Y vT Y Zc Y Y) (.k (aI Y Y Y OV Zc) (.k (aD Y) (.k (aK Y) (.k (aB 1 Y vT Y Kw Y Y) (.k (aB 3 Y Fa Y S3 Y Y) (.k (aI Y Y Y G3 S3) (.k (aD Y) (.k (aK Y) (.k (aB 5 Y vT Y yD Y Y) (.k (aI Y Y Y To yD) (.k (Qa (qX 102000 (cO z) Za (.cons (.ref Y Y) .nil) Y XW.ref (YL.arr YL.nil)) (fun _=>(Sw.Sub.mk id (.cons Y (.U4 Y Y) .nil) .nil Y)) Y) .nil))))))))))))))) (by exact(J.t (Ms C Y Y Y Y QV U3 (p5.int U3) Y) (J.kp [0] []))) ?_;refine dY 11 mixed (by exact(.k (aD Y) (.k (aK Y) (.k (aB 10 Y vT Y Zc Y Y) (.k (aI Y Y Y OV Zc) (.k (aD Y) (.k (aK Y) (.k (aB 1 Y vT Y Kw Y Y) (.k (aB 3 Y Fa Y S3 Y Y) (.k (aI Y Y Y G3 S3) (.k (cU Y Y Y) (.k (cU Y Y Y) .nil)))))))))))) (by exact(J.t (Mt Y Y Y QV U3 (p5.int U3) Y) (J.kp [0] []))) ?_;refine Zm ?_;obtain rfl:=pT h;exact cB (σ':=⟨[(0,.ptr 9000 1)],(kQ 9000 (some (A 9000)) 9100 (some (A 9100)) 9200 (some (A 9200)) 400 401 402 403 b0 b1 b2 b3 b4 b5 (Ge B (ar .sub .i64 (ar .sub .i64 b2 (4:Int)) (1:Int))) b7 b8 b9 bA bB bC bD bE bF bG bH bI bJ bK bL)⟩) (aC [(403,9053),(402,9052),(401,9051),(400,9050)]) (Ei u Y (.cons Y (.cons Y (.cons Y (.cons Y (.cons Y (.cons Y (.cons Y .nil))))))))
theorem xV(A:Nat->Nat){b0 b1 b2 b3 b4 b5 b6 b7 b8 b9 bA bB bC bD bE bF bG bH bI bJ bK bL r}(h:fP b0 b1 b2 b3 b4 b5 b6 b7 b8 b9 bA bB bC bD bE bF bG bH bI bJ bK bL=some r):
 VQ Tryz.prog 110 [.ptr 9000 0] (kQ 9000 (some (A 9000)) 9100 (some (A 9100)) 9200 (some (A 9200)) 9050 9051 9052 9053 b0 b1 b2 b3 b4 b5 b6 b7 b8 b9 bA bB bC bD bE bF bG bH bI bJ bK bL) (.v Q9 r.1) (kQ 9000 (some (A 9000)) 9100 (some (A 9100)) 9200 (some (A 9200)) 400 401 402 403 b0 b1 r.2.1 b3 b4 r.2.2.1 r.2.2.2.1 b7 b8 b9 bA bB bC bD bE bF bG bH r.2.2.2.2.1 r.2.2.2.2.2 bK bL):=by
 refine VQ.of Tryz.func110 Y Tryz.ntmps110 Y ?_;intro S w R u;unfold fP at h;refine aL [0] ?_;refine aL [0,3] ?_;refine aG ?_;refine aG ?_;obtain⟨E,B,h⟩:=aA h;refine dY 14 mixed (by exact(.k (aD Y) (.k (aK Y) (.k (aB 1 Y vT Y Kw Y Y) (.k (aD Y) (.k (aK Y) (.k (aB 6 Y vT Y yW Y Y) (.k (aB 7 Y RM Y Ik Y Y) (.k (yQ (off:=6) (o1:=1) Y Y Y Y (.snd (.fst .here)) FC Ik) (.k (aD Y) (.k (aK Y) (.k (aB 1 Y vT Y Kw Y Y) (.k (aB 3 Y Fa Y S3 Y Y) (.k (aI Y Y Y G3 S3) (.k (cU Y Y Y) .nil))))))))))))))) (by exact(J.t (eM [9000,9100,9200,9050,9051,9052,9053] (vR [(9000,9000),(9100,9100),(9200,9200),(9050,9050),(9051,9051),(9052,9052),(9053,9053),(400,101),(401,102),(402,103),(403,104)]) (dF Y) (fun A=>Aj A B) Tryz.call165 (fun A=>(.box Y (.box Y (.box Y (.arr (.mp (.arr (.arr .nil Y) Y) Y) Y) Y) Y) Y))) (jz [0,3,4]))) ?_;refine aL [0,3,4,26] ?_;refine aU h Y (fun z h=>?_) (fun z h=>?_)
 ·refine aL [0,2] ?_;cases h;exact aH (eV u Y (aC [(403,104),(402,103),(401,102),(400,101)]))
 refine aF ?_;refine aG ?_;obtain⟨F,C,h⟩:=aA h;refine dY 16 mixed (by exact(.k (aD Y) (.k (aK Y) (.k (aB 6 Y vT Y yW Y Y) (.k (aI Y Y Y Ez yW) (.k (aD Y) (.k (aK Y) (.k (aB 1 Y vT Y Kw Y Y) (.k (aB 2 Y Fa Y S3 Y Y) (.k (aI Y Y Y G3 S3) (.k (aM (Oe C) Tryz.call166 (.cons (.dir Y) (.cons (.dir Y) .nil))) (.k (aD Y) (.k (bV Y Y) (.k (bV Y Y) (.k (aN 106 QW Y (.cons (Z.int .i64) (.cons (Z.sl gF) (.cons (Z.sl pE) (.cons Z.bool .nil)))) Y) (XR.storeAll (.none Y) Y Y Y Y (.VL sO (.VL sO (.VL sO sO))) yW (.k (bO Y) .nil))))))))))))))))) (by exact(J.kp [0,3,5,6] [])) ?_;refine aJ (.a 1 ?_);refine .k (aT Y Y (.VL sO (.VL sO (.VL sO sO))) Ez yW) (.f [0,3,6] ?_);obtain⟨G,D,h⟩:=aA h;refine aJ (.a 1 ?_);refine .t (eM [9000,9100,9200,101,102,103,104] (vR [(9000,9000),(9100,9100),(9200,9200),(9050,101),(9051,102),(9052,103),(9053,104),(400,107),(401,108),(402,109),(403,110)]) (dF Y) (fun A=>nL A D) Tryz.call103 (fun A=>(.box Y (.box Y (.box Y (.arr (.mp (.arr (.arr .nil Y) Y) Y) Y) Y) Y) Y))) (.f [0,6] ?_);refine aL [0,2] ?_;cases h;exact aH (eV u Y (aC [(403,110),(402,109),(401,108),(400,107)]))
theorem Ck(A:Nat->Nat){a1 b0 b1 b2 b3 b4 b5 b6 b7 b8 b9 bA bB bC bD bE bF bG bH bI bJ bK bL r}(h:nR a1 b0 b1 b2 b3 b4 b5 b6 b7 b8 b9 bA bB bC bD bE bF bG bH bI bJ bK bL=some r):
 VQ Tryz.prog 109 [.ptr 9000 0,.v Q4 a1] (kQ 9000 (some (A 9000)) 9100 (some (A 9100)) 9200 (some (A 9200)) 9050 9051 9052 9053 b0 b1 b2 b3 b4 b5 b6 b7 b8 b9 bA bB bC bD bE bF bG bH bI bJ bK bL) (.WN [.v aO r.1,.v Q9 r.2.1]) (Th 9000 (some (A 9000)) 301 none 302 none 400 401 402 403 r.2.2):=by
 refine VQ.of Tryz.func109 Y Tryz.ntmps109 Y ?_;intro S w R u;unfold nR at h;refine aJ (.k (cI 101 Y (.VL sO (.VL sO (.VL sO sO))) Y) (.k (aN 102 Aq Y (.cons (Z.arr 8 (Z.int .u8)) .nil) Y) (.f [0,4] ?_)));obtain⟨z,B,h⟩:=aA h;refine aJ (.k (dD (e:=aO) (v:=aS) Br vS I5 Y Y (Z.arr 8 (Z.int .u8))) ?_);refine .a 1 ?_;refine .t (eM [9000,9100,9200,9050,9051,9052,9053] (vR [(9000,9000),(9100,9100),(9200,9200),(9050,9050),(9051,9051),(9052,9052),(9053,9053),(400,103),(401,104),(402,105),(403,106)]) (dF Y) (fun A=>xV A B) Tryz.call110 (fun A=>(.box Y (.box Y (.box Y (.arr (.mp (.arr (.arr .nil Y) Y) Y) Y) Y) Y) Y))) (.f [0,4,5] ?_);refine aH ?_;obtain rfl:=pT h;exact nK [(0,.ptr 9000 0),(4,.ptr 90 0),(5,.v Q9 z.1)] [(90,.box 30 [.v aO aS])] (aC [(90,102),(403,106),(302,9200),(402,105),(401,104),(400,103),(301,9100)]) (dQ u Y (cK Y Y Y tI kB) (RV.tmp Y) (.cons Y (.cons Y (.cons Y (.cons Y (.cons Y (.cons Y (.cons Y .nil))))))))
theorem Il{a0 r}(h:pS a0=some r):
 WC Tryz.prog 183 [.v Q0 a0] (.v Wr.bool r) []:=by
 refine WC.of Tryz.func183 Y Tryz.ntmps183 Y ?_;intro S w z;unfold pS at h;refine aL [0] ?_;refine aG ?_;obtain⟨B,u,h⟩:=aA h;refine eB (σ':=⟨[(2,.v Wr.bool B)],[]⟩) ?_ ?_
 ·refine cd u (fun A u=>?_) (fun A u=>?_)
  ·cases u;exact jy
  cases u;exact jy
 cases h;exact aH (aW z dR Y (RV.tmp Y) .nil Y)
theorem pB{a0 r}(h:dZ a0=some r):
 WC Tryz.prog 228 [.v mG a0,.ZR 183 []] (.v Q0 r) []:=by
 refine WC.of Tryz.func228 Y Tryz.ntmps228 Y ?_;intro S w u;unfold dZ at h;refine aL [0,1] ?_;refine cT [0,1,7,8] ?_;obtain⟨L,F,G,H⟩:=cL h;refine jP (σs:=fun z:Int=>⟨[(0,.v mG a0),(1,.ZR 183 []),(7,.v Q0 (a0.length:Int)),(8,.v Q0 z)],[]⟩) (fun A:Unit=>⟨[],[]⟩) F (aC []) ?_ ?_
 ·intro A B;have h:=G _ B;refine aL [4] ?_;cases h;exact aH (aW u dR Y (RV.tmp Y) .nil Y)
 intro z K h;refine aL [0,1,7,8,9] ?_;refine aG ?_;refine aU h Y (fun C h=>?_) (fun C h=>?_)
 ·refine aF ?_;refine aG ?_;refine bR ?_;refine aL [0,1,5,7,8] ?_;obtain⟨M,N,h⟩:=aA h;obtain⟨O,I,h⟩:=aA h;refine aJ (.a 5 ?_);refine .k (tQ Y (Il I) Tryz.call183 (.cons (.dir Y) .nil)) (.f [0,1,5,7,8,16] ?_);refine aU h Y (fun D h=>?_) (fun D h=>?_)
  ·refine aL [4] ?_;refine aH ?_;refine eP ?_;cases h;refine gQ fun E=>?_;obtain rfl:=H _ E;exact aW u dR Y (RV.tmp Y) .nil Y
  refine aF ?_;refine aZ ?_;refine dP [0,1,7,8] ?_;cases h;exact cF (aC [])
 cases h;exact dB (dJ (aC []))
theorem nH{a0 r}(h:cW a0=some r):
 WC Tryz.prog 182 [.v mG a0,.ZR 183 []] (.v Wr.bool r) []:=by
 refine WC.of Tryz.func182 Y Tryz.ntmps182 Y ?_;intro S w u;unfold cW at h;refine aL [0,1] ?_;obtain⟨A,z,h⟩:=aA h;refine aJ (.a 2 ?_);refine .k (aM (pB z) Tryz.call228 (.cons (.dir Y) (.cons (.dir Y) .nil))) (.f [4] ?_);cases h;exact aH (aW u dR Y (RV.tmp Y) .nil Y)
theorem Cb{a0 r}(h:qC a0=some r):
 WC Tryz.prog 134 [.v Q8 a0] (.v Q9 r) []:=by
 refine WC.of Tryz.func134 Y Tryz.ntmps134 Y ?_;intro S w z;unfold qC at h;refine aJ (.k (cI 101 Y (.VL sO (.VL sO sO)) Y) (.f [1] ?_));refine aG ?_;refine aG ?_;obtain⟨F,u,h⟩:=aA h;refine eB (σ':=⟨[(1,.ptr 101 0),(10,.v Wr.bool F)],[(101,.box 144 [.v Q0 a0.1,.v mG a0.2.1,.v Q5 a0.2.2])]⟩) ?_ ?_
 ·refine cd u (fun A u=>?_) (fun A u=>?_)
  ·cases u;exact jy
  cases u;exact jy
 refine aU h Y (fun B h=>?_) (fun B h=>?_)
 ·refine aL [2] ?_;cases h;exact aH (aW z dR Y (RV.tmp Y) .nil Y)
 refine aF ?_;refine aG ?_;refine aG ?_;obtain⟨G,u,h⟩:=aA h;refine eB (σ':=⟨[(1,.ptr 101 0),(21,.v Wr.bool G)],[(101,.box 144 [.v Q0 a0.1,.v mG a0.2.1,.v Q5 a0.2.2])]⟩) ?_ ?_
 ·refine cd u (fun C u=>?_) (fun C u=>?_)
  ·cases u;exact jy
  cases u;exact jy
 refine aU h Y (fun D h=>?_) (fun D h=>?_)
 ·refine aL [2] ?_;cases h;exact aH (aW z dR Y (RV.tmp Y) .nil Y)
 refine aF ?_;obtain⟨I,H,h⟩:=aA h;refine jJ (.a 2 ?_);refine .k (aM (nH H) Tryz.call182 (.cons (.dir Y) (.cons .fn .nil))) (.f [25] ?_);refine aU h Y (fun E h=>?_) (fun E h=>?_)
 ·refine aL [2] ?_;cases h;exact aH (aW z dR Y (RV.tmp Y) .nil Y)
 refine aF ?_;refine aL [2] ?_;cases h;exact aH (aW z dR Y (RV.tmp Y) .nil Y)
theorem Ft{a0 r}(h:tV a0=some r):
 WC Tryz.prog 135 [.v (Wr.sl (Wr.int .u8)) a0] (.v (Wr.int .u32) r) []:=by
 refine WC.of Tryz.func135 Y Tryz.ntmps135 Y ?_;intro S w D;unfold tV at h;refine aL [0] ?_;refine aL [0,3] ?_;refine cT [3,6,7,8] ?_;obtain⟨N,G,H,O⟩:=cL h;refine jP (σs:=fun u:Int×Int=>⟨[(3,.v (Wr.int .u32) u.1),(6,.v (Wr.sl (Wr.int .u8)) a0),(7,.v Q0 (a0.length:Int)),(8,.v Q0 u.2)],[]⟩) (fun B:Int=>⟨[(3,.v (Wr.int .u32) B)],[]⟩) G (aC []) ?_ ?_
 ·intro B z;have h:=H _ z;refine aJ (.a 1 ?_);refine .k (PD Y) (.f [2] ?_);cases h;exact aH (aW D dR Y (RV.tmp Y) .nil Y)
 intro u L h;refine aL [3,6,7,8,9] ?_;refine aG ?_;refine aU h Y (fun E h=>?_) (fun E h=>?_)
 ·refine aF ?_;refine aG ?_;refine bR ?_;obtain⟨P,Q,h⟩:=aA h;refine aL [3,5,6,7,8] ?_;refine aJ (.a 2 ?_);refine .k (by exact mJ U5 Tryz.runUnderlying247 Y Y) (.f [3,6,7,8] ?_);refine aL [3,6,7,8,16] ?_;obtain⟨R,I,K,T⟩:=cL h;refine jP (σs:=fun A:Int×Int=>⟨[(3,.v (Wr.int .u32) A.1),(6,.v (Wr.sl (Wr.int .u8)) a0),(7,.v Q0 (a0.length:Int)),(8,.v Q0 u.2),(16,.v Q0 A.2)],[]⟩) (fun C:Int=>⟨[(3,.v (Wr.int .u32) C),(6,.v (Wr.sl (Wr.int .u8)) a0),(7,.v Q0 (a0.length:Int)),(8,.v Q0 u.2)],[]⟩) I (aC []) ?_ ?_
  ·intro C z;have h:=K _ z;refine aZ ?_;refine dP [3,6,7,8] ?_;cases h;exact cF (aC [])
  intro A M h;refine aL [3,6,7,8,16,17] ?_;refine aG ?_;refine aU h Y (fun F h=>?_) (fun F h=>?_)
  ·refine aF ?_;refine aG ?_;refine bR ?_;refine eQ (.a 1 ?_);refine .k (fB (.inr Y) (by decide) Y Y) (.f [3,6,7,8,16] ?_);refine aZ ?_;refine dP [3,6,7,8,16] ?_;cases h;exact cF (aC [])
  cases h;exact dB (dJ (aC []))
 cases h;exact dB (dJ (aC []))
theorem xW{a0 r}(h:mT a0=some r):
 WC Tryz.prog 77 [.v Q8 a0] (.WN [.v (Wr.sl (Wr.int .u8)) r.1,.v Q9 r.2]) []:=by
 refine WC.of Tryz.func77 Y Tryz.ntmps77 Y ?_;intro S w D;unfold mT at h;refine aJ (.k (cI 101 Y (.VL sO (.VL sO sO)) Y) (.k (lA (Wr.int .u8)) (.f [1] ?_)));obtain⟨v1,L,h⟩:=aA h;refine jJ (.k (aT Y Y (.VL sO (.VL sO sO)) uU lN) (.k (aM (Cb L) Tryz.call134 (.cons (.dir Y) .nil)) (.f [1,4] ?_)));refine aL [1,4,14] ?_;refine aU h Y (fun G h=>?_) (fun G h=>?_)
 ·refine aJ (.a 1 ?_);refine .k (lA (Wr.int .u8)) (.f [2,3] ?_);cases h;exact aH (bS D dR Y (RV.tmp Y) (RV.tmp Y) .nil Y)
 refine aF ?_;refine aJ (.a 3 ?_);refine .k (fB (.inl Y) (by decide) Y Y) ?_;refine .a 9 ?_;refine .k (rM (e:=(Wr.int .u8)) 103 tJ S5 Z5 Y Y Y Y (.cons (.dir Y) (.cons (.dir Y) .nil))) (.f [1,5] ?_);refine cT [1,5,31,32,33] ?_;obtain⟨ae,M,N,af⟩:=cL h;refine jP (σs:=fun z:Int×kT=>⟨[(1,.ptr 101 0),(5,.ref 125),(31,.v mG a0.2.1),(32,.v Q0 (a0.2.1.length:Int)),(33,.v Q0 z.1)],[(101,.box 144 [.v Q0 a0.1,.v mG a0.2.1,.v Q5 a0.2.2]),(125,.arr 5 (Wr.int .u8) z.2)]⟩) (fun E:kT=>⟨[(1,.ptr 101 0),(5,.ref 125)],[(101,.box 144 [.v Q0 a0.1,.v mG a0.2.1,.v Q5 a0.2.2]),(125,.arr 5 (Wr.int .u8) E)]⟩) M (aC [(125,103)]) ?_ ?_
 ·intro E u;have h:=N _ u;refine cT [5,54,55,56] ?_;obtain⟨ah,O,P,ai⟩:=cL h;refine jP (σs:=fun A:Int×kT=>⟨[(5,.ref 151),(54,.v Q5 a0.2.2),(55,.v Q0 (a0.2.2.length:Int)),(56,.v Q0 A.1)],[(151,.arr 5 (Wr.int .u8) A.2)]⟩) (fun F:kT=>⟨[(5,.ref 151)],[(151,.arr 5 (Wr.int .u8) F)]⟩) O (aC [(151,125)]) ?_ ?_
  ·intro F u;have h:=P _ u;obtain⟨am,Q,h⟩:=aA h;refine aJ (.a 1 ?_);refine .k (rO (Ft Q) Tryz.call135 (.cons (.ref Y Y) .nil) XW.v) (.f [5,10] ?_);obtain⟨an,R,h⟩:=aA h;refine aJ (.a 2 ?_);refine .k (fB (.inr Y) (by decide) Y Y) ?_;refine .a 2 ?_;refine .k (fB (.inr Y) (by decide) Y Y) ?_;refine .a 2 ?_;refine .k (fB (.inr Y) (by decide) Y Y) ?_;refine .a 3 ?_;refine .k (dI (e:=(Wr.int .u8)) tJ S5 Z5 Y Y Y Y (.cons (.dir Y) (.cons (.dir Y) (.cons (.dir Y) (.cons (.dir Y) .nil))))) (.t (bT 157 R Y Y (.sl Y) tJ I5 S5 Y Y Y Y Y) (.f [2,3] ?_));cases h;exact aH (wO D dR Y (aC []))
  intro A ab h;refine aL [5,54,55,56,57] ?_;refine aG ?_;refine aU h Y (fun H h=>?_) (fun H h=>?_)
  ·refine aF ?_;refine aG ?_;refine bR ?_;obtain⟨ap,av,h⟩:=aA h;refine aJ (.a 2 ?_);refine .k (aN 154 Aq Y (.cons (Z.arr 8 (Z.int .u8)) .nil) Y) (.f [5,9,54,55,56] ?_);obtain⟨ax,T,h⟩:=aA h;refine eQ (.a 1 ?_);refine .k (Pv Y Y Y vS S5) (.t (bT 155 T Y Y (.w6 Y Y Y Y) tJ I5 S5 Y Y Y Y Y) (.f [5,54,55,56] ?_));refine aZ ?_;refine dP [5,54,55,56] ?_;cases h;exact cF (aC [(151,155)])
  cases h;exact dB (dJ (aC []))
 intro z ac h;refine aL [1,5,31,32,33,34] ?_;refine aG ?_;refine aU h Y (fun I h=>?_) (fun I h=>?_)
 ·refine aF ?_;refine aG ?_;refine bR ?_;obtain⟨ay,a1,h⟩:=aA h;refine aL [1,5,7,31,32,33] ?_;refine aG ?_;obtain⟨a2,U,V,a3⟩:=cL h;refine jP (σs:=fun C:Int×kT=>⟨[(1,.ptr 101 0),(5,.ref 140),(7,.v Q0 C.1),(31,.v mG a0.2.1),(32,.v Q0 (a0.2.1.length:Int)),(33,.v Q0 z.1)],[(101,.box 144 [.v Q0 a0.1,.v mG a0.2.1,.v Q5 a0.2.2]),(140,.arr 5 (Wr.int .u8) C.2)]⟩) (fun B:Int×kT=>⟨[(1,.ptr 101 0),(5,.ref 140),(7,.v Q0 B.1),(31,.v mG a0.2.1),(32,.v Q0 (a0.2.1.length:Int)),(33,.v Q0 z.1)],[(101,.box 144 [.v Q0 a0.1,.v mG a0.2.1,.v Q5 a0.2.2]),(140,.arr 5 (Wr.int .u8) B.2)]⟩) U (aC [(140,125)]) ?_ ?_
  ·intro B u;have h:=V _ u;obtain⟨a4,X,h⟩:=aA h;refine eQ (.a 3 ?_);refine .k (dI (e:=(Wr.int .u8)) tJ S5 Z5 Y Y Y Y (.cons (.dir Y) .nil)) (.t (bT 143 X Y Y (.sl Y) tJ I5 S5 Y Y Y Y Y) (.f [1,5,31,32,33] ?_));refine aZ ?_;refine dP [1,5,31,32,33] ?_;cases h;exact cF (aC [(125,143)])
  intro C ad h;refine cT [1,5,7,31,32,33,38] ?_;refine aU h Y (fun K h=>?_) (fun K h=>?_)
  ·refine aF ?_;refine aG ?_;refine bR ?_;obtain⟨a5,aa,h⟩:=aA h;refine eQ (.a 4 ?_);refine .k (dI (e:=(Wr.int .u8)) tJ S5 Z5 Y Y Y Y (.cons (.dir Y) .nil)) (.t (bT 142 aa Y Y (.sl Y) tJ I5 S5 Y Y Y Y Y) (.f [1,5,7,31,32,33] ?_));refine aZ ?_;refine eQ (.a 1 ?_);refine .k (fB (.inr Y) (by decide) Y Y) (.f [1,5,7,31,32,33] ?_);cases h;exact cF (aC [(140,142)])
  cases h;exact dB (dJ (aC []))
 cases h;exact dB (dJ (aC []))
theorem oY(A:Nat->Nat){a1 a2 b0 b1 b2 b3 b4 b5 b6 b7 b8 b9 bA bB bC bD bE bF bG bH bI bJ bK bL r}(h:eF a1 a2 b0 b1 b2 b3 b4 b5 b6 b7 b8 b9 bA bB bC bD bE bF bG bH bI bJ bK bL=some r):
 VQ Tryz.prog 53 [.ptr 9000 0,.v Wr.bool a1,.v (Wr.H3 (Wr.int .u8)) a2] (kQ 9000 (some (A 9000)) 9100 (some (A 9100)) 9200 (some (A 9200)) 9050 9051 9052 9053 b0 b1 b2 b3 b4 b5 b6 b7 b8 b9 bA bB bC bD bE bF bG bH bI bJ bK bL) (.WN []) (kQ 9000 (some (A 9000)) 9100 (some (A 9100)) 9200 (some (A 9200)) 400 401 402 403 b0 b1 b2 b3 b4 b5 b6 b7 b8 b9 bA bB bC bD bE bF bG r bI bJ bK bL):=by
 refine VQ.of Tryz.func53 Y Tryz.ntmps53 Y ?_;intro S w R z;unfold eF at h;refine aG ?_;obtain⟨B,u,h⟩:=aA h;refine eB (σ':=⟨[(0,.ptr 9000 0),(1,.v Wr.bool a1),(2,.v (Wr.H3 (Wr.int .u8)) a2),(15,.v Wr.bool B)],(kQ 9000 (some (A 9000)) 9100 (some (A 9100)) 9200 (some (A 9200)) 9050 9051 9052 9053 b0 b1 b2 b3 b4 b5 b6 b7 b8 b9 bA bB bC bD bE bF bG bH bI bJ bK bL)⟩) ?_ ?_
 ·refine cd u (fun C u=>?_) (fun C u=>?_)
  ·cases u;refine ja 1 ?_;exact(J.k (Qe Y tJ) jy)
  cases u;refine ja 1 ?_;exact(J.k (Qe Y tJ) jy)
 refine aU h Y (fun D h=>?_) (fun D h=>?_)
 ·obtain⟨E,F,h⟩:=aA h;refine eQ (.a 7 ?_);refine .sub (σ':=⟨[(0,.ptr 9000 0),(1,.v Wr.bool a1),(2,.v (Wr.H3 (Wr.int .u8)) a2),(15,.v Wr.bool B),(16,.ptr 9000 0),(17,.ptr 9000 0),(18,.ptr 9000 0),(19,.ptr 9000 25),(20,.ref 9053),(21,.v Wr.bool a1),(22,.v (Wr.sl (Wr.int .u8)) a2.2)],[(9000,.box 93 [.v Q0 b0,.ptr 9100 0,.v Q0 b1,.v Q0 b2,.v Q0 b3,.ref 9050,.v Ku b5,.ref 9051,.v Q0 b7,.v Nu b8,.v Q0 b9,.v Q0 bA,.ref 9052,.ptr 9200 0,.v Q0 bC,.v Q0 bD,.v Q0 bE,.v Q0 bF,.v (Wr.pr Q0 Q0) bG,.ref 9053] (some (A 9000))),(9053,.arr 135 (Wr.pr Wr.bool (Wr.pr Wr.bool (Wr.sl (Wr.int .u8)))) bH),(9100,.box 188 [.v Q0 bI,.v Q2 bJ] (some (A 9100))),(9050,.arr 30 aO b4),(9051,.mp Q0 Q5 b6),(9052,.arr 3 Q0 bB),(9200,.box 188 [.v Q0 bK,.v Q2 bL] (some (A 9200)))]⟩) (Sw.Sub.mk id (.cons Y (.of_eq Y) (.cons Y (.of_eq Y) (.cons Y (.of_eq Y) (.cons Y (.of_eq Y) (.cons Y (.of_eq Y) (.cons Y (.of_eq Y) (.cons Y (.of_eq Y) (.cons Y (.of_eq Y) (.cons Y (.of_eq Y) (.cons Y (.of_eq Y) (.cons Y .unN .nil))))))))))) (.box Y (.cons (.of_eq Y) (.cons (.of_eq Y) (.cons (.of_eq Y) (.cons (.of_eq Y) (.cons (.of_eq Y) (.cons (.of_eq Y) (.cons (.of_eq Y) (.cons (.of_eq Y) (.cons (.of_eq Y) (.cons (.of_eq Y) (.cons (.of_eq Y) (.cons (.of_eq Y) (.cons (.of_eq Y) (.cons (.of_eq Y) (.cons (.of_eq Y) (.cons (.of_eq Y) (.cons (.of_eq Y) (.cons (.of_eq Y) (.cons (.of_eq Y) (.cons (.of_eq Y) .nil)))))))))))))))))))) (.arr Y (.box Y (.cons (.of_eq Y) (.cons (.of_eq Y) .nil)) (.arr Y (.mp Y (.arr Y (.box Y (.cons (.of_eq Y) (.cons (.of_eq Y) .nil)) .nil))))))) Y) (.k (bQ Wt (.cons Z.bool (.cons Z.bool (.cons (Z.sl (Wr.int .u8)) .nil))) (.cons Y (.dir Y) Y Y Y Y (.cons Y (.dir Y) Y Y Y Y .nil))) (.k (dI (e:=(Wr.pr Wr.bool (Wr.pr Wr.bool (Wr.sl (Wr.int .u8))))) Jq vZ EW Y Y Y Y (.cons (.agg Y (.same (.same (.same .nil))) (.VL sO (.VL sO sO)) Y) .nil)) (.t (bT 101 F Y Y (.sl Y) Jq OA vZ Y Y Y Y Y) (.f [0] ?_))));refine Zm ?_;obtain rfl:=pT h;exact cB (σ':=⟨[(0,.ptr 9000 0)],(kQ 9000 (some (A 9000)) 9100 (some (A 9100)) 9200 (some (A 9200)) 400 401 402 403 b0 b1 b2 b3 b4 b5 b6 b7 b8 b9 bA bB bC bD bE bF bG E bI bJ bK bL)⟩) (aC [(403,101),(402,9052),(401,9051),(400,9050)]) (Ei z Y (.cons Y (.cons Y (.cons Y (.cons Y (.cons Y (.cons Y (.cons Y .nil))))))))
 refine aF ?_;refine Zm ?_;obtain rfl:=pT h;exact cB (σ':=⟨[(0,.ptr 9000 0)],(kQ 9000 (some (A 9000)) 9100 (some (A 9100)) 9200 (some (A 9200)) 400 401 402 403 b0 b1 b2 b3 b4 b5 b6 b7 b8 b9 bA bB bC bD bE bF bG bH bI bJ bK bL)⟩) (aC [(403,9053),(402,9052),(401,9051),(400,9050)]) (Ei z Y (.cons Y (.cons Y (.cons Y (.cons Y (.cons Y (.cons Y (.cons Y .nil))))))))
theorem uR(A:Nat->Nat){a1 a2 b0 b1 b2 b3 b4 b5 b6 b7 b8 b9 bA bB bC bD bE bF bG bH bI bJ bK bL r}(h:iU a1 a2 b0 b1 b2 b3 b4 b5 b6 b7 b8 b9 bA bB bC bD bE bF bG bH bI bJ bK bL=some r):
 VQ Tryz.prog 49 [.ptr 9000 0,.v Wr.bool a1,.v Q8 a2] (kQ 9000 (some (A 9000)) 9100 (some (A 9100)) 9200 (some (A 9200)) 9050 9051 9052 9053 b0 b1 b2 b3 b4 b5 b6 b7 b8 b9 bA bB bC bD bE bF bG bH bI bJ bK bL) (.v Q9 r.1) (kQ 9000 (some (A 9000)) 9100 (some (A 9100)) 9200 (some (A 9200)) 400 401 402 403 b0 b1 b2 b3 b4 b5 b6 b7 b8 b9 bA bB bC bD bE bF bG r.2 bI bJ bK bL):=by
 refine VQ.of Tryz.func49 Y Tryz.ntmps49 Y ?_;intro S w R B;unfold iU at h;refine aJ (.k (cI 101 Y (.VL sO (.VL sO sO)) Y) (.f [0,1,5] ?_));obtain⟨C,D,h⟩:=aA h;refine aJ (.k (aT Y Y (.VL sO (.VL sO sO)) uU lN) (.k (aM (xW D) Tryz.call77 (.cons (.dir Y) .nil)) (.f [0,1,7,8] ?_)));refine jJ (.a 1 ?_);refine .k (iF Ny Y) (.f [0,1,7,8,15] ?_);obtain⟨E,F,h⟩:=eZ h;refine sR (fun z:Yz=>⟨[(0,.ptr 9000 0),(8,.v Q9 C.2)],(kQ 9000 (some (A 9000)) 9100 (some (A 9100)) 9200 (some (A 9200)) 107 108 109 110 b0 b1 b2 b3 b4 b5 b6 b7 b8 b9 bA bB bC bD bE bF bG z bI bJ bK bL)⟩) (fun x=>E x=some r) Y ?_ ?_ ?_
 ·intro z h;rw[F] at h;refine aL [0,6] ?_;cases h;exact aH (eV B Y (aC [(403,110),(402,109),(401,108),(400,107)]))
 ·intro u;replace h:=iG u h;obtain⟨L,G,h⟩:=aA h;obtain⟨M,I,h⟩:=aA h;refine eQ (.a 3 ?_);refine .t (uE (H:=[9000,9100,9200,9050,9051,9052,9053]) (K:=[9000,9100,9200]) (vR [(9000,9000),(9100,9100),(9200,9200),(9050,9050),(9051,9051),(9052,9052),(9053,9053),(400,111),(401,112),(402,113),(403,114)]) (dF Y) (fun A=>oY A I) Tryz.call53 (.cons (.dir Y) (.cons (.dir Y) (.cons (.toN (Mq G) Y) .nil))) (fun A=>(.box Y (.box Y (.box Y (.arr Y (.mp Y (.arr Y (.arr Y .nil)))))))) (fun A=>(.box Y (.box Y (.box Y (.arr (.mp (.arr (.arr .nil Y) Y) Y) Y) Y) Y) Y)) (fun _=>rfl) Y Y (fun _=>rfl) Y Y) (.f [0,8] ?_);exact bY h (aC [(110,114),(109,113),(108,112),(107,111)])
 ·intro u;replace h:=iH u h;refine aF ?_;exact bY h (aC [(110,9053),(109,9052),(108,9051),(107,9050)])
theorem Ky{a0 a1 a2 r}(h:nF a0 a1 a2=some r):
 WC Tryz.prog 82 [.v Ku a0,.v Q0 a1,.v Q0 a2] (.WN [.v pE r.1,.v Wr.bool r.2.1,.v Q9 r.2.2]) []:=by
 refine WC.of Tryz.func82 Y Tryz.ntmps82 Y ?_;intro S w B;unfold nF at h;refine aJ (.k (cI 101 Y (.VL sO (.VL sO (.VL sO sO))) Y) (.k (aN 102 Pe Y (.cons (Z.int .i64) (.cons (Z.sl gF) .nil)) Y) (.f [1,2,3,6] ?_)));obtain⟨U,V,h⟩:=aA h;refine jJ (.k (aT Y Y (.VL sO (.VL sO (.VL sO sO))) Ez yW) ?_);refine .a 1 ?_;refine .k (aM (tD V) NV (.cons (.dir Y) (.cons (.dir Y) .nil))) (.f [2,3,6,9] ?_);refine aL [2,3,6,9,21] ?_;refine aU h Y (fun K h=>?_) (fun K h=>?_)
 ·refine aJ (.k (fH (new:=[(104,.arr 214 gF ([]:Q6))]) Dp (.cons (Z.int .i64) (.ref 104 Y .nil)) (.cons .nil) Y .nil) (.f [6,7,8] ?_));refine aH ?_;obtain rfl:=pT h;exact cB (σ':=⟨[(6,.ptr 90 0),(7,.v Wr.bool false),(8,.v Q9 U)],[(90,.box 197 [.v Q0 (0:Int),.v Q1 ([]:Q6)])]⟩) (aC [(90,102)]) (wS B dR Y (aV Y Y (.VL sO sO) Nv vC) (RV.tmp Y) (RV.tmp Y) .nil Y)
 refine aF ?_;refine aG ?_;refine aG ?_;obtain⟨X,A,h⟩:=aA h;refine eB (σ':=⟨[(2,.v Q0 a2),(3,.ptr 101 0),(6,.ptr 102 0),(31,.v Wr.bool X)],[(101,.box 80 [.v Q0 a0.1,.v Q1 a0.2.1,.v (Wr.sl pE) a0.2.2.1,.v Wr.bool a0.2.2.2]),(102,.box 197 [.v Q0 (0:Int),.v Q1 ([]:Q6)])]⟩) ?_ ?_
 ·refine cd A (fun L A=>?_) (fun L A=>?_)
  ·cases A;exact jy
  cases A;exact jy
 refine aU h Y (fun M h=>?_) (fun M h=>?_)
 ·refine aJ (.k (fH (new:=[(105,.arr 214 gF ([]:Q6))]) Dp (.cons (Z.int .i64) (.ref 105 Y .nil)) (.cons .nil) Y .nil) (.f [6,7,8] ?_));refine aH ?_;obtain rfl:=pT h;exact cB (σ':=⟨[(6,.ptr 90 0),(7,.v Wr.bool false),(8,.v Q9 (some (1:Int)))],[(90,.box 197 [.v Q0 (0:Int),.v Q1 ([]:Q6)])]⟩) (aC [(90,102)]) (wS B dR Y (aV Y Y (.VL sO sO) Nv vC) (RV.tmp Y) (RV.tmp Y) .nil Y)
 refine aF ?_;refine cT [2,3,6,41] ?_;refine aU h Y (fun N h=>?_) (fun N h=>?_)
 ·refine aJ (.k (fH (new:=[(106,.arr 214 gF ([]:Q6))]) Dp (.cons (Z.int .i64) (.ref 106 Y .nil)) (.cons .nil) Y .nil) (.f [6,7,8] ?_));refine aH ?_;obtain rfl:=pT h;exact cB (σ':=⟨[(6,.ptr 90 0),(7,.v Wr.bool false),(8,.v Q9 (none:Option Int))],[(90,.box 197 [.v Q0 (0:Int),.v Q1 ([]:Q6)])]⟩) (aC [(90,102)]) (wS B dR Y (aV Y Y (.VL sO sO) Nv vC) (RV.tmp Y) (RV.tmp Y) .nil Y)
 refine aF ?_;refine aJ (.k (aN 107 Tryz.zeroValue253 Y (.cons (Z.arr 32 (Z.C3 gF)) .nil) Y) (.f [2,3,6,10] ?_));refine cT [2,3,6,10,44,45,46] ?_;obtain⟨a3,aa,ab,a4⟩:=cL h;refine jP (σs:=fun z:Int×(List (Option (Int×aQ)))=>⟨[(2,.v Q0 a2),(3,.ptr 101 0),(6,.ptr 102 0),(10,.ptr 107 0),(44,.v (Wr.sl pE) a0.2.2.1),(45,.v Q0 (a0.2.2.1.length:Int)),(46,.v Q0 z.1)],[(101,.box 80 [.v Q0 a0.1,.v Q1 a0.2.1,.v (Wr.sl pE) a0.2.2.1,.v Wr.bool a0.2.2.2]),(102,.box 197 [.v Q0 (0:Int),.v Q1 ([]:Q6)]),(107,.box 253 [.v (Wr.arr 32 (Wr.C3 gF)) z.2])]⟩) (fun C:(List (Option (Int×aQ)))=>⟨[(3,.ptr 101 0),(6,.ptr 102 0),(10,.ptr 107 0)],[(101,.box 80 [.v Q0 a0.1,.v Q1 a0.2.1,.v (Wr.sl pE) a0.2.2.1,.v Wr.bool a0.2.2.2]),(102,.box 197 [.v Q0 (0:Int),.v Q1 ([]:Q6)]),(107,.box 253 [.v (Wr.arr 32 (Wr.C3 gF)) C])]⟩) aa (aC []) ?_ ?_
 ·intro C u;have h:=ab _ u;refine aJ (.a 2 ?_);refine .k (fH (new:=[(112,.arr 214 gF ([]:Q6))]) Dp (.cons (Z.int .i64) (.ref 112 Y .nil)) (.cons .nil) Y (.cons Y (.dir Y) Y Y Y Y .nil)) (.k (zT (new:=[(114,.arr 214 gF ([]:Q6))]) 113 Pe Y (.cons (Z.int .i64) (.ref 114 Y .nil)) (.cons .nil) Y Y) (.f [6,10,14] ?_));refine cT [6,14,76,77] ?_;obtain⟨a5,ac,ad,a6⟩:=cL h;refine jP (σs:=fun E:Int×Q6=>⟨[(6,.ptr 102 0),(14,.ptr 113 0),(76,.v (Wr.arr 32 (Wr.C3 gF)) C),(77,.v Q0 E.1)],[(102,.box 197 [.v Q0 (0:Int),.v Q1 ([]:Q6)]),(113,.box 197 [.v Q0 a0.1,.ref 120]),(120,.arr 214 gF E.2)]⟩) (fun D:Q6=>⟨[(6,.ptr 102 0),(14,.ptr 113 0)],[(102,.box 197 [.v Q0 (0:Int),.v Q1 ([]:Q6)]),(113,.box 197 [.v Q0 a0.1,.ref 120]),(120,.arr 214 gF D)]⟩) ac (aC [(120,112)]) ?_ ?_
  ·intro D u;have h:=ad _ u;refine aJ (.k (hO Y Y Y Nv vC) (.f [6,7,8] ?_));refine aH ?_;obtain rfl:=pT h;exact cB (σ':=⟨[(6,.ptr 90 0),(7,.v Wr.bool true),(8,.v Q9 (none:Option Int))],[(90,.box 197 [.v Q0 a0.1,.v Q1 D])]⟩) (aC [(90,102)]) (wS B dR Y (aV Y Y (.VL sO sO) Nv vC) (RV.tmp Y) (RV.tmp Y) .nil Y)
  intro E av h;refine aL [6,14,76,77,78] ?_;refine aG ?_;refine aU h Y (fun O h=>?_) (fun O h=>?_)
  ·refine aF ?_;refine aG ?_;refine bR ?_;obtain⟨a7,ae,h⟩:=aA h;refine aJ (.k (LO ae Y Y Tryz.runUnderlying253 Tryz.sizeOf252 Tryz.isAgg252) (.f [6,14,16,76,77] ?_));refine aJ (.a 1 ?_);refine .k (LN Y Tryz.runUnderlying252) (.f [6,14,16,76,77,81] ?_);refine aU h Y (fun P h=>?_) (fun P h=>?_)
   ·obtain⟨a8,af,h⟩:=aA h;obtain⟨a9,ah,h⟩:=aA h;refine dY 6 mixed (by exact(.k (aB 1 Y Zd Y Ik Y Y) (.k (aI Y Y Y FC Ik) (.k (aD Y) (.k (Iz af Y) (.k (cE Y Zb jS) (.k (dI (e:=gF) yE jS Fb Y Y Y Y (.cons (.dir Y) .nil)) .nil))))))) (by exact(J.t (bT 122 ah Y Y (.sl Y) yE Kv jS Y Y Y Y Y) (jz [6,14,76,77]))) ?_;refine aZ ?_;refine dP [6,14,76,77] ?_;cases h;exact cF (aC [(120,122)])
   refine aF ?_;refine aZ ?_;refine dP [6,14,76,77] ?_;cases h;exact cF (aC [])
  cases h;exact dB (dJ (aC []))
 intro z ax h;refine aL [2,3,6,10,44,45,46,47] ?_;refine aG ?_;refine aU h Y (fun Q h=>?_) (fun Q h=>?_)
 ·refine aF ?_;refine aG ?_;refine bR ?_;obtain⟨G,ba,h⟩:=aA h;refine aJ (.a 2 ?_);refine .k (aN 111 Pe Y (.cons (Z.int .i64) (.cons (Z.sl gF) .nil)) Y) (.t (bW Y Y Y Y (.VL sO sO) vC) (.f [2,3,6,10,12,44,45,46] ?_));refine aL [2,3,6,10,12,44,45,46,52,53] ?_;obtain⟨bb,ai,am,bc⟩:=cL h;refine jP (σs:=fun F:Int×(List (Option (Int×aQ)))=>⟨[(2,.v Q0 a2),(3,.ptr 101 0),(6,.ptr 102 0),(10,.ptr 107 0),(12,.ptr 111 0),(44,.v (Wr.sl pE) a0.2.2.1),(45,.v Q0 (a0.2.2.1.length:Int)),(46,.v Q0 z.1),(52,.v Q0 (G.2.length:Int)),(53,.v Q0 F.1)],[(101,.box 80 [.v Q0 a0.1,.v Q1 a0.2.1,.v (Wr.sl pE) a0.2.2.1,.v Wr.bool a0.2.2.2]),(102,.box 197 [.v Q0 (0:Int),.v Q1 ([]:Q6)]),(107,.box 253 [.v (Wr.arr 32 (Wr.C3 gF)) F.2]),(111,.box 197 [.v Q0 G.1,.v Q1 G.2])]⟩) (fun H:(List (Option (Int×aQ)))=>⟨[(2,.v Q0 a2),(3,.ptr 101 0),(6,.ptr 102 0),(10,.ptr 107 0),(44,.v (Wr.sl pE) a0.2.2.1),(45,.v Q0 (a0.2.2.1.length:Int)),(46,.v Q0 z.1)],[(101,.box 80 [.v Q0 a0.1,.v Q1 a0.2.1,.v (Wr.sl pE) a0.2.2.1,.v Wr.bool a0.2.2.2]),(102,.box 197 [.v Q0 (0:Int),.v Q1 ([]:Q6)]),(107,.box 253 [.v (Wr.arr 32 (Wr.C3 gF)) H])]⟩) ai (aC []) ?_ ?_
  ·intro H u;have h:=am _ u;refine aZ ?_;refine dP [2,3,6,10,44,45,46] ?_;cases h;exact cF (aC [])
  intro F ay h;refine aL [2,3,6,10,12,44,45,46,52,53,54] ?_;refine aG ?_;refine aU h Y (fun R h=>?_) (fun R h=>?_)
  ·refine aF ?_;refine aG ?_;refine bR ?_;refine aL [2,3,6,10,12,13,44,45,46,52,53] ?_;refine aL [2,3,6,10,12,13,44,45,46,52,53,59] ?_;refine aU h Y (fun T h=>?_) (fun T h=>?_)
   ·obtain⟨bd,an,h⟩:=aA h;obtain⟨be,ap,h⟩:=aA h;obtain⟨bf,I,h⟩:=aA h;refine dY 11 mixed (by exact(.k (aB 1 Y Zd Y Ik Y Y) (.k (aI Y Y Y FC Ik) (.k (aD Y) (.k (pH an Y Y yE jS) (.k (eX Y Nx Y S3 Y (.fst .here) Y) (.k (cE Y G3 S3) (.k (aB 1 Y Zd Y Ik Y Y) (.k (aI Y Y Y FC Ik) (.k (aD Y) (.k (AG (pH ap Y Y yE jS)) (.k (rL I Y Y Y Y Tryz.runUnderlying253 Tryz.sizeOf252) .nil)))))))))))) (by exact(J.t (De (dG I).2.2 Y Y Y Y Tryz.sizeOf252) (J.kp [2,3,6,10,12,44,45,46,52,53] []))) ?_;refine aZ ?_;refine dP [2,3,6,10,12,44,45,46,52,53] ?_;cases h;exact cF (aC [])
   refine aF ?_;refine aZ ?_;refine dP [2,3,6,10,12,44,45,46,52,53] ?_;cases h;exact cF (aC [])
  cases h;exact dB (dJ (aC []))
 cases h;exact dB (dJ (aC []))
theorem Kz{a0 r}(h:qD a0=some r):
 WC Tryz.prog 229 [.v Q5 a0] (.v Q9 r) []:=by
 refine WC.of Tryz.func229 Y Tryz.ntmps229 Y ?_;intro S w u;unfold qD at h;refine aL [0] ?_;refine cT [0,8] ?_;refine aU h Y (fun C h=>?_) (fun C h=>?_)
 ·refine aL [2] ?_;cases h;exact aH (aW u dR Y (RV.tmp Y) .nil Y)
 refine aF ?_;refine aJ (.k (Fz 101 aO Wr.bool) (.f [0,3] ?_));refine cT [3,11,12,13] ?_;obtain⟨M,G,H,I⟩:=cL h;refine jP (σs:=fun z:Int×(List (aQ×Bool))=>⟨[(3,.ref 101),(11,.v Q5 a0),(12,.v Q0 (a0.length:Int)),(13,.v Q0 z.1)],[(101,.mp aO Wr.bool z.2)]⟩) (fun A:Unit=>⟨[],[]⟩) G (aC []) ?_ ?_
 ·intro A B;have h:=H _ B;refine aL [2] ?_;cases h;exact aH (aW u dR Y (RV.tmp Y) .nil Y)
 intro z L h;refine aL [3,11,12,13,14] ?_;refine aG ?_;refine aU h Y (fun D h=>?_) (fun D h=>?_)
 ·refine aF ?_;refine aG ?_;refine bR ?_;obtain⟨N,O,h⟩:=aA h;refine aJ (.a 2 ?_);refine .k (aN 105 Aq Y (.cons (Z.arr 8 (Z.int .u8)) .nil) Y) (.f [3,5,11,12,13] ?_);refine jJ (.a 2 ?_);refine .k (CH Y Y Y Tryz.runUnderlying388 vS Pf Y BZ Y Tryz.zeroValue4 (fun _ _=>⟨_,Y,Y⟩)) (.f [3,5,11,12,13,19] ?_);refine aU h Y (fun E h=>?_) (fun E h=>?_)
  ·refine aL [2] ?_;refine aH ?_;refine eP ?_;cases h;refine gQ fun F=>?_;obtain rfl:=I _ F;exact aW u dR Y (RV.tmp Y) .nil Y
  refine aF ?_;obtain⟨P,K,h⟩:=aA h;refine eQ (.a 2 ?_);refine .t (CI K Y Y Y Y Tryz.runUnderlying388 vS Pf Y BZ Y) (.f [3,11,12,13] ?_);refine aZ ?_;refine dP [3,11,12,13] ?_;cases h;exact cF (aC [])
 cases h;exact dB (dJ (aC []))
theorem Ak{a0 a1 r}(h:nZ a0 a1=some r):
 WC Tryz.prog 186 [.v Q5 a0,.v Q5 a1] (.v Q9 r) []:=by
 refine WC.of Tryz.func186 Y Tryz.ntmps186 Y ?_;intro S w z;unfold nZ at h;refine aL [0,1] ?_;refine aG ?_;refine aG ?_;obtain⟨C,u,h⟩:=aA h;refine eB (σ':=⟨[(1,.v Q5 a1),(12,.v Wr.bool C)],[]⟩) ?_ ?_
 ·refine cd u (fun A u=>?_) (fun A u=>?_)
  ·cases u;exact jy
  cases u;exact jy
 refine aU h Y (fun B h=>?_) (fun B h=>?_)
 ·refine aL [4] ?_;cases h;exact aH (aW z dR Y (RV.tmp Y) .nil Y)
 refine aF ?_;obtain⟨E,D,h⟩:=aA h;refine aJ (.a 1 ?_);refine .k (aM (Kz D) Tryz.call229 (.cons (.dir Y) .nil)) (.f [4] ?_);cases h;exact aH (aW z dR Y (RV.tmp Y) .nil Y)
theorem Pk{a0 r}(h:vX a0=some r):
 WC Tryz.prog 187 [.v Q5 a0] (.WN [.v (Wr.C3 (Wr.pr Q5 (Wr.W4 aO mG))) r.1,.v Q9 r.2]) []:=by
 refine WC.of Tryz.func187 Y Tryz.ntmps187 Y ?_;intro S w C;unfold vX at h;refine aJ (.k (jV (Wr.pr Q5 (Wr.W4 aO mG))) (.f [0] ?_));refine aG ?_;refine aG ?_;obtain⟨I,u,h⟩:=aA h;refine eB (σ':=⟨[(0,.v Q5 a0),(14,.v Wr.bool I)],[]⟩) ?_ ?_
 ·refine cd u (fun F u=>?_) (fun F u=>?_)
  ·cases u;exact jy
  cases u;exact jy
 refine aU h Y (fun G h=>?_) (fun G h=>?_)
 ·refine aJ (.a 1 ?_);refine .k (jV (Wr.pr Q5 (Wr.W4 aO mG))) (.f [2,3] ?_);cases h;exact aH (bS C dR Y (RV.tmp Y) (RV.tmp Y) .nil Y)
 refine aF ?_;obtain⟨A,K,h⟩:=aA h;refine aJ (.a 1 ?_);refine .k (fI 101000 (cO K) Za (.cons (.dir Y) .nil) Y) (.k (Uh 102 aO 3 Q0) (.k (bQ KK (.cons (Z.sl aO) (.cons (Z.W4 aO mG) .nil)) (.cons Y (.dir Y) Y Y Y Y (.cons Y (.dir Y) Y Y Y Y .nil))) (.k (zP 103 Y Y) (.f [0,4] ?_))));refine cT [4,21,22,23] ?_;obtain⟨P,L,M,Q⟩:=cL h;refine jP (σs:=fun B:Int×(List (aQ×kT))=>⟨[(4,.ptr 103 0),(21,.v Q5 a0),(22,.v Q0 (a0.length:Int)),(23,.v Q0 B.1)],[(103,.box 363 [.ref 101000,.ref 102]),(101000,.arr 30 aO A),(102,.dp (DE.T8 true aO 3 Q0) (B.2,none) [])]⟩) (fun z:(List (aQ×kT))=>⟨[(4,.ptr 103 0)],[(103,.box 363 [.ref 101000,.ref 102]),(101000,.arr 30 aO A),(102,.dp (DE.T8 true aO 3 Q0) (z,none) [])]⟩) L (aC []) ?_ ?_
 ·intro z E;have h:=M _ E;refine aJ (.a 1 ?_);refine .sub (σ':=⟨[(4,.XY (Wr.pr Q5 (Wr.W4 aO mG)) (A,z)),(40,.XY (Wr.pr Q5 (Wr.W4 aO mG)) (A,z))],[]⟩) (Sw.Sub.mk id (.cons Y (.D2 Y Y (.cons (.U4 Y Y) (.cons (.aJh Y Y .T8) .nil)) (.VL sO sO)) (.cons Y (.D2 Y Y (.cons (.U4 Y Y) (.cons (.aJh Y Y .T8) .nil)) (.VL sO sO)) .nil)) .nil Y) (.k (by exact AG (bO Y)) (.f [2,3] ?_));cases h;exact aH (bS C dR Y (RV.tmp Y) (RV.tmp Y) .nil Y)
 intro B O h;refine aL [4,21,22,23,24] ?_;refine aG ?_;refine aU h Y (fun H h=>?_) (fun H h=>?_)
 ·refine aF ?_;refine aG ?_;refine bR ?_;obtain⟨R,T,h⟩:=aA h;refine aJ (.a 3 ?_);refine .k (aN 119 Aq Y (.cons (Z.arr 8 (Z.int .u8)) .nil) Y) (.f [4,5,6,21,22,23] ?_);obtain⟨U,D,h⟩:=aA h;obtain⟨V,N,h⟩:=aA h;refine dY 11 mixed (by exact(.k (aD Y) (.k (aK Y) (.k (aB 1 Y OB Y KA Y Y) (.k (aI Y Y Y Tryz.isAgg361 KA) (.k (aI Y Y Y tI kB) (.k (aD Y) (.k (dI (e:=Q0) wZ S3 Z3 Y Y Y Y (.cons (.dir Y) .nil)) (XR.mapEntry (.none Y) 122 D Y Y Y Tryz.runUnderlying361 vS Pf Y BZ Y gz.arr Tryz.zeroValue22 Y Y (.pu (.none Y) Y (fun _ _=>bV Y Y) (XR.append (.none Y) 123 N Y Y (.sl Y) wZ I3 S3 Y Y Y Y Y (.pu (.none Y) Y (fun _ _=>bV Y Y) .nil)))))))))))) (by exact(J.t (Ov (LP D) Y Y Y Y Y Y) (J.kp [4,21,22,23] []))) ?_;refine aZ ?_;refine dP [4,21,22,23] ?_;cases h;exact cF (aC [])
 cases h;exact dB (dJ (aC []))
theorem Gs{a0 a1 r}(h:vB a0 a1=some r):
 WC Tryz.prog 310 [.v kJ a0,.v gF a1] (.WN [.v Q4 r.1,.v Wr.bool r.2]) []:=by
 refine WC.of Tryz.func310 Y Tryz.ntmps310 Y ?_;intro S w u;unfold vB at h;refine aJ (.k (cI 101 Y sO Y) (.k (cI 102 Y (.VL sO sO) Y) (.k (aN 103 Nz Y (.cons (Z.int .i64) (.cons (Z.int .i64) (.cons (Z.int .i64) (.cons (Z.arr 8 (Z.int .u8)) .nil)))) Y) (.f [3,4] ?_))));refine aG ?_;refine dY 9 mixed (by exact(.k (aB 0 Y Nx Y S3 Y Y) (.k (aI Y Y Y G3 S3) (.k (bQ Dq (.cons (Z.int .i64) (.cons (Z.int .i64) (.cons (Z.int .i64) (.cons (Z.arr 8 (Z.int .u8)) .nil)))) (.cons Y (.dir Y) Y Y Y Y (.cons Y (.dir Y) Y Y Y Y .nil))) (.k (aB 1 Y Nx Y kB Y Y) (.k (aI Y Y Y tI kB) (.k (dD (e:=aO) (v:=aS) Br vS I5 Y Y (Z.arr 8 (Z.int .u8))) (.k (Xh Pf Y Y Tryz.eqGuardType30 Y Y) (XR.B3 (.none Y) Y Y Y Y Y Y Ce (.k (bO Y) .nil)))))))))) (by exact(J.kp [4,5] [])) ?_;refine aH ?_;obtain rfl:=pT h;exact cB (σ':=⟨[(4,.ptr 90 0),(5,.v Wr.bool (decide (a1.2=aS)))],[(90,.box 210 [.v Q0 a1.1,.v Q0 (0:Int),.v Q0 (0:Int),.v aO aS])]⟩) (aC [(90,103)]) (bS u dR Y (aV Y Y (.VL sO (.VL sO (.VL sO sO))) Wp Ce) (RV.tmp Y) .nil Y)
theorem Dv{a0 a1 r}(h:lV a0 a1=some r):
 WC Tryz.prog 309 [.v (Wr.C3 (Wr.pr Q5 (Wr.W4 aO mG))) a0,.v aO a1] (.WN [.v Q0 r.1,.v Wr.bool r.2]) []:=by
 refine WC.of Tryz.func309 Y Tryz.ntmps309 Y ?_;intro S w u;unfold lV at h;refine aJ (.k (cI 101 Y sO Y) (.f [0,3] ?_));refine aG ?_;obtain⟨B,A,h⟩:=aA h;refine dY 7 mixed (by exact(.k (aD Y) (.k (Iz A Y) (.k (eX Y OB Y KA Y (.snd .here) Y) (.k (cE Y Tryz.isAgg361 KA) (.k (aI Y Y Y tI kB) (.k (Xs Y Y Tryz.runUnderlying361 vS Pf Y BZ Y Tryz.zeroValue22 (fun S w=>⟨_,(Z.sl Q0) S w,Y⟩)) (.k (bO Y) .nil)))))))) (by exact(J.kp [6] [])) ?_;refine cT [6,15] ?_;refine aU h Y (fun z h=>?_) (fun z h=>?_)
 ·refine aL [4,5] ?_;cases h;exact aH (bS u dR Y (RV.tmp Y) (RV.tmp Y) .nil Y)
 refine aF ?_;obtain⟨C,D,h⟩:=aA h;refine aL [4,5] ?_;cases h;exact aH (bS u dR Y (RV.tmp Y) (RV.tmp Y) .nil Y)
theorem Gt{a0 a1 r}(h:oA a0 a1=some r):
 WC Tryz.prog 311 [.v (Wr.I4 (Wr.C3 (Wr.pr Q5 (Wr.W4 aO mG)))) a0,.v gF a1] (.WN [.v Q4 r.1,.v Wr.bool r.2]) []:=by
 refine WC.of Tryz.func311 Y Tryz.ntmps311 Y ?_;intro S w z;unfold oA at h;refine aJ (.k (cI 101 Y (.I4 sO) Y) (.k (cI 102 Y (.VL sO sO) Y) (.k (aN 103 Nz Y (.cons (Z.int .i64) (.cons (Z.int .i64) (.cons (Z.int .i64) (.cons (Z.arr 8 (Z.int .u8)) .nil)))) Y) (.f [2,3,4] ?_))));obtain⟨u,A,h⟩:=aA h;refine aJ (.a 4 ?_);refine .k (aM (Dv A) Tryz.call309 (.cons (.dir Y) (.cons (.dir Y) .nil))) (.f [3,4,6,7] ?_);refine aJ (.a 3 ?_);refine .k (bQ Dq (.cons (Z.int .i64) (.cons (Z.int .i64) (.cons (Z.int .i64) (.cons (Z.arr 8 (Z.int .u8)) .nil)))) (.cons Y (.dir Y) Y Y Y Y (.cons Y (.dir Y) Y Y Y Y (.cons Y (.dir Y) Y Y Y Y .nil)))) (.f [4,5] ?_);refine aH ?_;obtain rfl:=pT h;exact cB (σ':=⟨[(4,.ptr 90 0),(5,.v Wr.bool u.2)],[(90,.box 210 [.v Q0 a1.1,.v Q0 (1:Int),.v Q0 u.1,.v aO aS])]⟩) (aC [(90,103)]) (bS z dR Y (aV Y Y (.VL sO (.VL sO (.VL sO sO))) Wp Ce) (RV.tmp Y) .nil Y)
theorem sN{a0 a1 r}(h:eC a0 a1=some r):
 WC Tryz.prog 314 [.v Q5 a0,.v aO a1] (.v Q0 r) []:=by
 refine WC.of Tryz.func314 Y Tryz.ntmps314 Y ?_;intro S w u;unfold eC at h;refine aJ (.k (cI 101 Y sO Y) (.f [0,3] ?_));refine cT [0,3,7,8] ?_;obtain⟨L,F,G,H⟩:=cL h;refine jP (σs:=fun z:Int=>⟨[(0,.v Q5 a0),(3,.ptr 101 0),(7,.v Q0 (a0.length:Int)),(8,.v Q0 z)],[(101,.box 30 [.v aO a1])]⟩) (fun A:Unit=>⟨[],[]⟩) F (aC []) ?_ ?_
 ·intro A B;have h:=G _ B;refine aL [4] ?_;cases h;exact aH (aW u dR Y (RV.tmp Y) .nil Y)
 intro z K h;refine aL [0,3,7,8,9] ?_;refine aG ?_;refine aU h Y (fun C h=>?_) (fun C h=>?_)
 ·refine aF ?_;refine aG ?_;refine bR ?_;refine aL [0,3,5,7,8] ?_;refine aG ?_;obtain⟨M,I,h⟩:=aA h;refine dY 6 mixed (by exact(.k (aI Y Y Y tI kB) (.k (aD Y) (.k (aD Y) (.k (pH I Y Y Jo kB) (.k (cE Y tI kB) (.k (Xh Pf Y Y Tryz.eqGuardType30 Y Y) .nil))))))) (by exact(J.kp [0,3,5,7,8,16] [])) ?_;refine aU h Y (fun D h=>?_) (fun D h=>?_)
  ·refine aL [4] ?_;refine aH ?_;refine eP ?_;cases h;refine gQ fun E=>?_;obtain rfl:=H _ E;exact aW u dR Y (RV.tmp Y) .nil Y
  refine aF ?_;refine aZ ?_;refine dP [0,3,7,8] ?_;cases h;exact cF (aC [])
 cases h;exact dB (dJ (aC []))
theorem Of{a0 a1 r}(h:uH a0 a1=some r):
 WC Tryz.prog 313 [.v Q5 a0,.v aO a1] (.WN [.v Q0 r.1,.v Wr.bool r.2]) []:=by
 refine WC.of Tryz.func313 Y Tryz.ntmps313 Y ?_;intro S w u;unfold uH at h;refine aJ (.k (cI 101 Y sO Y) (.f [0,3] ?_));obtain⟨A,z,h⟩:=aA h;refine aJ (.a 2 ?_);refine .k (aM (sN z) Tryz.call314 (.cons (.dir Y) (.cons (.dir Y) .nil))) (.f [6] ?_);refine aJ (.a 1 ?_);refine .k (Ba Y Y) (.f [4,5] ?_);cases h;exact aH (bS u dR Y (RV.tmp Y) (RV.tmp Y) .nil Y)
theorem Dw{a0 a1 r}(h:lW a0 a1=some r):
 WC Tryz.prog 312 [.v (Wr.I4 Q5) a0,.v gF a1] (.WN [.v Q4 r.1,.v Wr.bool r.2]) []:=by
 refine WC.of Tryz.func312 Y Tryz.ntmps312 Y ?_;intro S w z;unfold lW at h;refine aJ (.k (cI 101 Y (.I4 sO) Y) (.k (cI 102 Y (.VL sO sO) Y) (.k (aN 103 Nz Y (.cons (Z.int .i64) (.cons (Z.int .i64) (.cons (Z.int .i64) (.cons (Z.arr 8 (Z.int .u8)) .nil)))) Y) (.f [2,3,4] ?_))));obtain⟨u,A,h⟩:=aA h;refine aJ (.a 4 ?_);refine .k (aM (Of A) Tryz.call313 (.cons (.dir Y) (.cons (.dir Y) .nil))) (.f [3,4,6,7] ?_);refine aJ (.a 3 ?_);refine .k (bQ Dq (.cons (Z.int .i64) (.cons (Z.int .i64) (.cons (Z.int .i64) (.cons (Z.arr 8 (Z.int .u8)) .nil)))) (.cons Y (.dir Y) Y Y Y Y (.cons Y (.dir Y) Y Y Y Y (.cons Y (.dir Y) Y Y Y Y .nil)))) (.f [4,5] ?_);refine aH ?_;obtain rfl:=pT h;exact cB (σ':=⟨[(4,.ptr 90 0),(5,.v Wr.bool u.2)],[(90,.box 210 [.v Q0 a1.1,.v Q0 (2:Int),.v Q0 u.1,.v aO aS])]⟩) (aC [(90,103)]) (bS z dR Y (aV Y Y (.VL sO (.VL sO (.VL sO sO))) Wp Ce) (RV.tmp Y) .nil Y)
theorem Cl{a0 a1 r}(h:sJ a0 a1=some r):
 WC Tryz.prog 315 [.v kJ a0,.v gF a1] (.WN [.v Q4 r.1,.v Wr.bool r.2]) []:=by
 refine WC.of Tryz.func315 Y Tryz.ntmps315 Y ?_;intro S w u;unfold sJ at h;refine aJ (.k (cI 101 Y sO Y) (.k (cI 102 Y (.VL sO sO) Y) (.k (aN 103 Nz Y (.cons (Z.int .i64) (.cons (Z.int .i64) (.cons (Z.int .i64) (.cons (Z.arr 8 (Z.int .u8)) .nil)))) Y) (.f [3,4] ?_))));refine aJ (.a 4 ?_);refine .k (bQ Dq (.cons (Z.int .i64) (.cons (Z.int .i64) (.cons (Z.int .i64) (.cons (Z.arr 8 (Z.int .u8)) .nil)))) (.cons Y (.dir Y) Y Y Y Y (.cons Y (.dir Y) Y Y Y Y (.cons Y (.dir Y) Y Y Y Y .nil)))) (.f [4,5] ?_);refine aH ?_;obtain rfl:=pT h;exact cB (σ':=⟨[(4,.ptr 90 0),(5,.v Wr.bool true)],[(90,.box 210 [.v Q0 a1.1,.v Q0 (3:Int),.v Q0 (0:Int),.v aO a1.2])]⟩) (aC [(90,103)]) (bS u dR Y (aV Y Y (.VL sO (.VL sO (.VL sO sO))) Wp Ce) (RV.tmp Y) .nil Y)
theorem Tj{w p0 r}(h:jE w p0=some r):
 u6 Tryz.prog "stillwater/plan.tell" AO w [.v gF p0] (.WN [.v Q4 r.1,.v Wr.bool r.2]) []:=by
 unfold jE at h;rcases w with z | z | z | z | z
 ·exact(u6.here (fun _ _=>by kernel_rfl) Tryz.call310 (Gs h))
 ·exact(.there (u6.here (fun _ _=>by kernel_rfl) Tryz.call311 (Gt h)))
 ·exact(.there (.there (u6.here (fun _ _=>by kernel_rfl) Tryz.call312 (Dw h))))
 ·exact(.there (.there (.there (u6.here (fun _ _=>by kernel_rfl) Tryz.call315 (Cl h)))))
 ·cases h
theorem Ju{a0 a1 a2 r}(h:rC a0 a1 a2=some r):
 WC Tryz.prog 140 [.v Q1 a0,.v Q5 a1,.v Q5 a2] (.WN [.ref 0,.v Q9 r.2]) [(0,.arr 210 Q4 r.1)]:=by
 refine WC.of Tryz.func140 Y Tryz.ntmps140 Y ?_;intro S w C;unfold rC at h;refine aJ (.k (aR 101 210 Q4) (.f [0,1,2] ?_));obtain⟨v1,WG,h⟩:=aA h;refine jJ (.a 2 ?_);refine .k (aM (Ak WG) Tryz.call186 (.cons (.dir Y) (.cons (.dir Y) .nil))) (.f [0,1,2,8] ?_);refine aL [0,1,2,8,25] ?_;refine aU h Y (fun N h=>?_) (fun N h=>?_)
 ·refine aJ (.a 1 ?_);refine .k (aR 103 210 Q4) (.f [6,7] ?_);cases h;exact aH (wO C dR Y (aC [(0,103)]))
 refine aF ?_;refine aL [0,1,2,9] ?_;refine cT [0,1,2,9,27,28,29] ?_;obtain⟨a4,aa,ab,ac⟩:=cL h;refine jP (σs:=fun D:Int×Int=>⟨[(0,.v Q1 a0),(1,.v Q5 a1),(2,.v Q5 a2),(9,.v Q0 D.1),(27,.v Q1 a0),(28,.v Q0 (a0.length:Int)),(29,.v Q0 D.2)],[]⟩) (fun L:Unit=>⟨[(0,.v Q1 a0),(1,.v Q5 a1),(2,.v Q5 a2)],[]⟩) aa (aC []) ?_ ?_
 ·intro L A;have h:=ab _ A;obtain⟨z,ad,h⟩:=aA h;refine aJ (.a 1 ?_);refine .k (aM (Pk ad) Tryz.call187 (.cons (.dir Y) .nil)) (.f [0,1,2,12,13] ?_);refine cT [0,1,2,12,13,54] ?_;refine aU h Y (fun O h=>?_) (fun O h=>?_)
  ·refine aJ (.a 1 ?_);refine .k (aR 113 210 Q4) (.f [6,7] ?_);cases h;exact aH (wO C dR Y (aC [(0,113)]))
  refine aF ?_;refine aJ (.k (aR 114 210 Q4) (.f [0,1,2,12,14] ?_));refine cT [1,2,12,14,56,57,58] ?_;obtain⟨a5,ae,af,a6⟩:=cL h;refine jP (σs:=fun u:Int×(List (Int×Int×Int×aQ))=>⟨[(1,.v Q5 a1),(2,.v Q5 a2),(12,.v (Wr.C3 (Wr.pr Q5 (Wr.W4 aO mG))) z.1),(14,.ref 162),(56,.v Q1 a0),(57,.v Q0 (a0.length:Int)),(58,.v Q0 u.1)],[(162,.arr 210 Q4 u.2)]⟩) (fun F:(List (Int×Int×Int×aQ))=>⟨[(14,.ref 162)],[(162,.arr 210 Q4 F)]⟩) ae (aC [(162,114)]) ?_ ?_
  ·intro F A;have h:=af _ A;refine aL [6,7] ?_;cases h;exact aH (wO C dR Y (aC [(0,162)]))
  intro u M h;refine aL [1,2,12,14,56,57,58,59] ?_;refine aG ?_;refine aU h Y (fun P h=>?_) (fun P h=>?_)
  ·refine aF ?_;refine aG ?_;obtain⟨xl,ah,h⟩:=eZ h;refine TS (fun G:(List (Int×Int×Int×aQ))=>⟨[(1,.v Q5 a1),(2,.v Q5 a2),(12,.v (Wr.C3 (Wr.pr Q5 (Wr.W4 aO mG))) z.1),(14,.ref 196),(56,.v Q1 a0),(57,.v Q0 (a0.length:Int)),(58,.v Q0 u.1)],[(196,.arr 210 Q4 G)]⟩) (fun x=>xl x=some M) ?_ ?_
   ·intro G h;rw[ah] at h;refine dP [1,2,12,14,56,57,58] ?_;cases h;exact cF (aC [(162,196)])
   obtain⟨E,a7,h⟩:=aA h;refine aJ (.a 2 ?_);refine .k (aN 197 Fb Y (.cons (Z.int .i64) (.cons (Z.arr 8 (Z.int .u8)) .nil)) Y) (.t (bW Y Y Y Y (.VL sO sO) jS) (.f [1,2,12,14,16,56,57,58] ?_));refine aG ?_;refine aG ?_;obtain⟨a8,ai,h⟩:=aA h;refine dY 8 mixed (by exact(.k (aD Y) (.k (aB 0 Y Nx Y S3 Y Y) (.k (aI Y Y Y G3 S3) (.k (pH ai Y Y Jo kB) (.k (cE Y tI kB) (.k (aB 1 Y Nx Y kB Y Y) (.k (aI Y Y Y tI kB) (.k (Xh Pf Y Y Tryz.eqGuardType30 Y Y) .nil))))))))) (by exact(J.kp [1,2,12,14,16,56,57,58,69] [])) ?_;refine aU h Y (fun Q h=>?_) (fun Q h=>?_)
   ·refine dB ?_;exact LF h (aC [(196,162)])
   refine aF ?_;refine TW (σ':=⟨[(1,.v Q5 a1),(2,.v Q5 a2),(12,.v (Wr.C3 (Wr.pr Q5 (Wr.W4 aO mG))) z.1),(14,.ref 162),(16,.ptr 197 0),(56,.v Q1 a0),(57,.v Q0 (a0.length:Int)),(58,.v Q0 u.1),(80,.v (Wr.sl AO) ([(.inl ():lQ),(.inr (.inl z.1):lQ),(.inr (.inr (.inl a2)):lQ),(.inr (.inr (.inr (.inl ()))):lQ)]:(List lQ))),(81,.v Q0 (([(.inl ():lQ),(.inr (.inl z.1):lQ),(.inr (.inr (.inl a2)):lQ),(.inr (.inr (.inr (.inl ()))):lQ)]:(List lQ)).length:Int)),(82,.v Q0 (0:Int))],[(162,.arr 210 Q4 u.2),(197,.box 214 [.v Q0 E.1,.v aO E.2])]⟩) (J.cons (.none Y) (Mn (bQ KG .nil .nil)) Y Y (J.cons (.none Y) (Hm Y Tryz.runUnderlying322 .here) Y Y (J.cons (.none Y) (aD Y) Y Y (J.cons (.none Y) (Bf (bQ KH (.cons (Z.C3 (Wr.pr Q5 (Wr.W4 aO mG))) .nil) (.cons Y (.dir Y) Y Y Y Y .nil)) (.I4 sO) Y) Y Y (J.cons (.none Y) (Hm Y QR (.there .here)) Y Y (J.cons (.none Y) (aD Y) Y Y (J.cons (.none Y) (Bf (bQ KI (.cons (Z.sl aO) .nil) (.cons Y (.dir Y) Y Y Y Y .nil)) (.I4 sO) Y) Y Y (J.cons (.none Y) (Hm Y QS (.there (.there .here))) Y Y (J.cons (.none Y) (Mn (bQ KJ .nil .nil)) Y Y (J.cons (.none Y) (Hm Y Tryz.runUnderlying327 (.there (.there (.there .here)))) Y Y (J.cons (.none Y) (dI (e:=AO) QT Tryz.sizeOf330 Tryz.zeroValue330 Y Y Y Y (.cons (.dir Y) (.cons (.dir Y) (.cons (.dir Y) (.cons (.dir Y) .nil))))) Y Y (J.cons (.none Y) (tG Y QT) Y Y (J.cons (.none Y) (aD Y) Y Y (J.fin (aC []))))))))))))))) ?_;obtain⟨a9,am,an,ba⟩:=cL h;refine jP (σs:=fun I:Int=>⟨[(1,.v Q5 a1),(2,.v Q5 a2),(12,.v (Wr.C3 (Wr.pr Q5 (Wr.W4 aO mG))) z.1),(14,.ref 162),(16,.ptr 197 0),(56,.v Q1 a0),(57,.v Q0 (a0.length:Int)),(58,.v Q0 u.1),(80,.v (Wr.sl AO) ([(.inl ():lQ),(.inr (.inl z.1):lQ),(.inr (.inr (.inl a2)):lQ),(.inr (.inr (.inr (.inl ()))):lQ)]:(List lQ))),(81,.v Q0 (([(.inl ():lQ),(.inr (.inl z.1):lQ),(.inr (.inr (.inl a2)):lQ),(.inr (.inr (.inr (.inl ()))):lQ)]:(List lQ)).length:Int)),(82,.v Q0 I)],[(162,.arr 210 Q4 u.2),(197,.box 214 [.v Q0 E.1,.v aO E.2])]⟩) (fun H:(List (Int×Int×Int×aQ))=>⟨[(1,.v Q5 a1),(2,.v Q5 a2),(12,.v (Wr.C3 (Wr.pr Q5 (Wr.W4 aO mG))) z.1),(14,.ref 204),(56,.v Q1 a0),(57,.v Q0 (a0.length:Int)),(58,.v Q0 u.1)],[(204,.arr 210 Q4 H)]⟩) am (aC []) ?_ ?_
   ·intro H A;have h:=an _ A;exact LD h (aC [(196,204)])
   intro I ax h;refine aL [1,2,12,14,16,56,57,58,80,81,82,83] ?_;refine aG ?_;refine aU h Y (fun R h=>?_) (fun R h=>?_)
   ·refine aF ?_;refine aG ?_;refine bR ?_;obtain⟨vv,bb,h⟩:=aA h;refine aL [1,2,12,14,16,18,56,57,58,80,81,82] ?_;obtain⟨nb,ap,h⟩:=aA h;refine aJ (.a 1 ?_);refine .k (aT Y Y (.VL sO sO) Zb jS) (.k (CR Y (Tj ap) (.cons (.dir Y) .nil)) ?_);refine .a 3 ?_;refine .k (aN 205 Nz Y (.cons (Z.int .i64) (.cons (Z.int .i64) (.cons (Z.int .i64) (.cons (Z.arr 8 (Z.int .u8)) .nil)))) Y) (.t (bW Y Y Y Y (.VL sO (.VL sO (.VL sO sO))) Ce) (.f [1,2,12,14,16,19,20,56,57,58,80,81,82] ?_));refine aL [1,2,12,14,16,19,56,57,58,80,81,82,92] ?_;refine aU h Y (fun T h=>?_) (fun T h=>?_)
    ·obtain⟨wx,av,h⟩:=aA h;refine aJ (.a 1 ?_);refine .k (aT Y Y (.VL sO (.VL sO (.VL sO sO))) Wp Ce) (.k (dI (e:=Q4) ER Ce Nz Y Y Y Y (.cons (.dir Y) .nil)) (.t (bT 206 av Y Y (.sl Y) ER QM Ce Y Y Y Y Y) (.f [1,2,12,14,56,57,58] ?_)));refine dB ?_;refine KZ Y ?_;cases h;exact dJ (aC [(204,206)])
    refine aF ?_;refine aZ ?_;refine dP [1,2,12,14,16,56,57,58,80,81,82] ?_;cases h;exact cF (aC [])
   cases h;exact dB (dJ (aC [(204,162)]))
  cases h;exact dB (dJ (aC []))
 intro D a3 h;refine aL [0,1,2,9,27,28,29,30] ?_;refine aG ?_;refine aU h Y (fun U h=>?_) (fun U h=>?_)
 ·refine aF ?_;refine aG ?_;refine bR ?_;obtain⟨K,xn,h⟩:=aA h;refine aJ (.a 2 ?_);refine .k (aN 110 Fb Y (.cons (Z.int .i64) (.cons (Z.arr 8 (Z.int .u8)) .nil)) Y) (.t (bW Y Y Y Y (.VL sO sO) jS) (.f [0,1,2,9,11,27,28,29] ?_));refine aG ?_;refine aG ?_;obtain⟨pv,B,h⟩:=aA h;refine eB (σ':=⟨[(0,.v Q1 a0),(1,.v Q5 a1),(2,.v Q5 a2),(11,.ptr 110 0),(27,.v Q1 a0),(28,.v Q0 (a0.length:Int)),(29,.v Q0 D.2),(43,.v Wr.bool pv)],[(110,.box 214 [.v Q0 K.1,.v aO K.2])]⟩) ?_ ?_
  ·refine cd B (fun V B=>?_) (fun V B=>?_)
   ·cases B;exact jy
   cases B;exact jy
  refine aU h Y (fun X h=>?_) (fun X h=>?_)
  ·refine aJ (.a 1 ?_);refine .k (aR 111 210 Q4) (.f [6,7] ?_);refine aH ?_;refine eP ?_;cases h;refine gQ fun ho=>?_;obtain rfl:=ac _ ho;exact wO C dR Y (aC [(0,111)])
  refine aF ?_;refine dP [0,1,2,9,27,28,29] ?_;refine aZ ?_;refine dP [0,1,2,9,27,28,29] ?_;cases h;exact cF (aC [])
 cases h;exact dB (dJ (aC []))
theorem Jv{a0 a1 a2 r}(h:rD a0 a1 a2=some r):
 WC Tryz.prog 83 [.v pE a0,.v Q5 a1,.v Q0 a2] (.WN [.v Q8 r.1,.v Wr.bool r.2]) []:=by
 refine WC.of Tryz.func83 Y Tryz.ntmps83 Y ?_;intro S w A;unfold rD at h;refine aJ (.k (cI 101 Y (.VL sO sO) Y) (.k (aN 102 Cf Y (.cons (Z.int .i64) (.cons (Z.sl Q0) (.cons (Z.sl aO) .nil))) Y) (.f [1,2,3,6] ?_)));obtain⟨B,H,h⟩:=aA h;refine aJ (.a 3 ?_);refine .k (fI 103000 (Ju H) Tryz.call140 (.cons (.dir Y) (.cons (.dir Y) (.cons (.nj _) .nil))) Y) (.f [2,3,6,8,9] ?_);refine cT [2,3,6,8,21] ?_;refine aU h Y (fun E h=>?_) (fun E h=>?_)
 ·refine aJ (.k (fH (new:=[(105,.arr 3 Q0 ([]:kT)),(104,.arr 30 aO ([]:jO))]) mB (.cons (Z.int .i64) (.ref 105 Y (.ref 104 Y .nil))) (.cons (.cons .nil)) Y .nil) (.f [6,7] ?_));refine aH ?_;obtain rfl:=pT h;exact cB (σ':=⟨[(6,.ptr 90 0),(7,.v Wr.bool false)],[(90,.box 144 [.v Q0 (0:Int),.v mG ([]:kT),.v Q5 ([]:jO)])]⟩) (aC [(90,102)]) (bS A dR Y (aV Y Y (.VL sO (.VL sO sO)) uU lN) (RV.tmp Y) .nil Y)
 refine aF ?_;refine aJ (.a 3 ?_);refine .k (rM (e:=Q0) 106 wZ S3 Z3 Y Y Y Y (.cons (.dir Y) (.cons (.dir Y) .nil))) (.k (fH (new:=[(107,.arr 30 aO ([]:jO))]) mB (.cons (Z.int .i64) (.cons (Z.sl Q0) (.ref 107 Y .nil))) (.cons .nil) Y (.cons Y (.dir Y) Y Y Y Y (.cons Y (.dir Y) Y Y Y Y .nil))) (.k (zT (new:=[(110,.arr 3 Q0 ([]:kT)),(109,.arr 30 aO ([]:jO))]) 108 Cf Y (.cons (Z.int .i64) (.ref 110 Y (.ref 109 Y .nil))) (.cons (.cons .nil)) Y Y) (.f [6,8,10] ?_)));refine cT [6,10,28,29,30] ?_;obtain⟨O,I,K,P⟩:=cL h;refine jP (σs:=fun z:Int×kT×jO=>⟨[(6,.ptr 102 0),(10,.ptr 108 0),(28,.ref 103000),(29,.v Q0 (B.1.length:Int)),(30,.v Q0 z.1)],[(102,.box 144 [.v Q0 (0:Int),.v mG ([]:kT),.v Q5 ([]:jO)]),(108,.box 144 [.v Q0 (4:Int),.ref 123,.ref 124]),(103000,.arr 210 Q4 B.1),(123,.arr 3 Q0 z.2.1),(124,.arr 30 aO z.2.2)]⟩) (fun u:kT×jO=>⟨[(6,.ptr 102 0),(10,.ptr 108 0)],[(102,.box 144 [.v Q0 (0:Int),.v mG ([]:kT),.v Q5 ([]:jO)]),(108,.box 144 [.v Q0 (4:Int),.ref 123,.ref 124]),(123,.arr 3 Q0 u.1),(124,.arr 30 aO u.2)]⟩) I (aC [(124,107),(123,106)]) ?_ ?_
 ·intro u D;have h:=K _ D;refine aG ?_;refine dY 7 mixed (by exact(.k (hO Y Y Y uU lN) (.k (aB 1 Y uV Y yV Y Y) (.k (aI Y Y Y Te yV) (.k (Rk Y Y wZ) (.k (kC Y Y Y) (XR.B3 (.none Y) Y Y Y Y Y Y lN (.k (bO Y) .nil)))))))) (by exact(J.kp [6,7] [])) ?_;refine aH ?_;obtain rfl:=pT h;exact cB (σ':=⟨[(6,.ptr 90 0),(7,.v Wr.bool (cm .leq (u.1.length:Int) (9:Int)))],[(90,.box 144 [.v Q0 (4:Int),.v mG u.1,.v Q5 u.2])]⟩) (aC [(90,102)]) (bS A dR Y (aV Y Y (.VL sO (.VL sO sO)) uU lN) (RV.tmp Y) .nil Y)
 intro z N h;refine aL [6,10,28,29,30,31] ?_;refine aG ?_;refine aU h Y (fun F h=>?_) (fun F h=>?_)
 ·refine aF ?_;refine aG ?_;refine bR ?_;obtain⟨Q,C,h⟩:=aA h;refine aJ (.k (iY C Y Y Y ER Ce) (.k (jR (dG C).2.2 Y Y .here Wp Ce) (.k (aN 128 Nz Y (.cons (Z.int .i64) (.cons (Z.int .i64) (.cons (Z.int .i64) (.cons (Z.arr 8 (Z.int .u8)) .nil)))) Y) (.t (bW Y Y Y Y (.VL sO (.VL sO (.VL sO sO))) Ce) (.f [6,10,12,28,29,30] ?_)))));obtain⟨R,L,h⟩:=aA h;refine aJ (.a 4 ?_);refine .k (fB (.inl Y) (by decide) Y Y) ?_;refine .a 2 ?_;refine .k (fB (.inl Y) (by decide) Y Y) ?_;refine .a 4 ?_;refine .k (dI (e:=Q0) wZ S3 Z3 Y Y Y Y (.cons (.dir Y) .nil)) (.t (bT 129 L Y Y (.sl Y) wZ I3 S3 Y Y Y Y Y) (.f [6,10,12,28,29,30] ?_));refine aL [6,10,12,28,29,30,51] ?_;refine aU h Y (fun G h=>?_) (fun G h=>?_)
  ·obtain⟨T,M,h⟩:=aA h;refine eQ (.a 4 ?_);refine .k (dI (e:=aO) Jo kB Aq Y Y Y Y (.cons (.dir Y) .nil)) (.t (bT 130 M Y Y (.sl Y) Jo Br kB Y Y Y Y Y) (.f [6,10,28,29,30] ?_));refine aZ ?_;refine dP [6,10,28,29,30] ?_;cases h;exact cF (aC [(124,130),(123,129)])
  refine aF ?_;refine aZ ?_;refine dP [6,10,28,29,30] ?_;cases h;exact cF (aC [(123,129)])
 cases h;exact dB (dJ (aC []))
theorem xX(A:Nat->Nat){b0 b1 b2 b3 b4 b5 b6 b7 b8 b9 bA bB bC bD bE bF bG bH bI bJ bK bL r}(h:dO b0 b1 b2 b3 b4 b5 b6 b7 b8 b9 bA bB bC bD bE bF bG bH bI bJ bK bL=some r):
 VQ Tryz.prog 51 [.ptr 9000 1] (kQ 9000 (some (A 9000)) 9100 (some (A 9100)) 9200 (some (A 9200)) 9050 9051 9052 9053 b0 b1 b2 b3 b4 b5 b6 b7 b8 b9 bA bB bC bD bE bF bG bH bI bJ bK bL) (.v Q8 r) (kQ 9000 (some (A 9000)) 9100 (some (A 9100)) 9200 (some (A 9200)) 400 401 402 403 b0 b1 b2 b3 b4 b5 b6 b7 b8 b9 bA bB bC bD bE bF bG bH bI bJ bK bL):=by
 refine VQ.of Tryz.func51 Y Tryz.ntmps51 Y ?_;intro S w R C;unfold dO at h;refine aJ (.k (aN 101 Cf Y (.cons (Z.int .i64) (.cons (Z.sl Q0) (.cons (Z.sl aO) .nil))) Y) (.f [0,2] ?_));refine aG ?_;refine aG ?_;obtain⟨D,I,h⟩:=aA h;refine dY 22 mixed (by exact(.k (aD Y) (.k (aK Y) (.k (aB 6 Y vT Y yW Y Y) (.k (aI Y Y Y Ez yW) (.k (aD Y) (.k (aK Y) (.k (aB 1 Y vT Y Kw Y Y) (.k (aB 2 Y Fa Y S3 Y Y) (.k (aI Y Y Y G3 S3) (.k (aD Y) (.k (aK Y) (.k (aB 15 Y vT Y S3 Y Y) (.k (aI Y Y Y G3 S3) (.k (aM (Ky I) Tryz.call82 (.cons (.dir Y) (.cons (.dir Y) (.cons (.dir Y) .nil)))) (.k (aD Y) (.k (bV Y Y) (.k (bV Y Y) (.k (bV Y Y) (.k (aN 103 Pe Y (.cons (Z.int .i64) (.cons (Z.sl gF) .nil)) Y) (XR.storeAll (.none Y) Y Y Y Y (.VL sO sO) vC (.k (bO Y) (.k (bO Y) .nil))))))))))))))))))))))) (by exact(J.kp [0,2,3,4,5] [])) ?_;refine aG ?_;obtain⟨K,u,h⟩:=aA h;refine eB (σ':=⟨[(0,.ptr 9000 1),(2,.ptr 101 0),(3,.ptr 103 0),(32,.v Wr.bool K)],((101,.box 144 [.v Q0 (0:Int),.v mG ([]:kT),.v Q5 ([]:jO)])::(103,.box 197 [.v Q0 D.1.1,.v Q1 D.1.2])::kQ 9000 (some (A 9000)) 9100 (some (A 9100)) 9200 (some (A 9200)) 9050 9051 9052 9053 b0 b1 b2 b3 b4 b5 b6 b7 b8 b9 bA bB bC bD bE bF bG bH bI bJ bK bL)⟩) ?_ ?_
 ·refine cd u (fun F u=>?_) (fun F u=>?_)
  ·cases u;refine ja 1 ?_;exact(J.k (iF Ny Y) jy)
  cases u;refine ja 1 ?_;exact(J.k (iF Ny Y) jy)
 obtain⟨L,M,h⟩:=eZ h;refine sR (fun E:Unit=>⟨[(0,.ptr 9000 1),(2,.ptr 101 0)],((101,.box 144 [.v Q0 (0:Int),.v mG ([]:kT),.v Q5 ([]:jO)])::kQ 9000 (some (A 9000)) 9100 (some (A 9100)) 9200 (some (A 9200)) 9050 9051 9052 9053 b0 b1 b2 b3 b4 b5 b6 b7 b8 b9 bA bB bC bD bE bF bG bH bI bJ bK bL)⟩) (fun x=>L x=some r) Y ?_ ?_ ?_
 ·intro E h;rw[M] at h;refine aG ?_;refine dY 18 mixed (by exact(.k (aD Y) (.k (aK Y) (.k (aB 1 Y vT Y Kw Y Y) (.k (aB 3 Y Fa Y S3 Y Y) (.k (aI Y Y Y G3 S3) (.k (dI (e:=Q0) wZ S3 Z3 Y Y Y Y (.cons (.dir Y) .nil)) (.k (aD Y) (.k (aK Y) (.k (aB 10 Y vT Y Zc Y Y) (.k (aI Y Y Y OV Zc) (.k (aD Y) (.k (aK Y) (.k (aB 1 Y vT Y Kw Y Y) (.k (aB 3 Y Fa Y S3 Y Y) (.k (aI Y Y Y G3 S3) (.k (Ul Y Y Y QV U3 (p5.int U3) Y TG (fun S w=>⟨_,(Z.sl aO) S w,Y⟩)) (.k (bQ mB (.cons (Z.int .i64) (.cons (Z.sl Q0) (.cons (Z.sl aO) .nil))) (.cons Y (.dir Y) Y Y Y Y (.cons Y (.dir Y) Y Y Y Y (.cons Y (.dir Y) Y Y Y Y .nil)))) (XR.B3 (.none Y) Y Y Y Y Y Y lN .nil))))))))))))))))))) (by exact(J.kp [0,2] [])) ?_;refine aH ?_;obtain rfl:=pT h;exact nK [(0,.ptr 9000 1),(2,.ptr 90 0)] [(90,.box 144 [.v Q0 (5:Int),.v mG ([b2]:kT),.v Q5 ((fK b6 b2).getD ([]:jO))])] (aC [(90,101),(403,9053),(402,9052),(401,9051),(400,9050)]) (dT C Y (aV Y Y (.VL sO (.VL sO sO)) uU lN) (.cons Y (.cons Y (.cons Y (.cons Y (.cons Y (.cons Y (.cons Y .nil))))))))
 ·intro z;replace h:=iG z h;refine aG ?_;refine dY 14 mixed (by exact(.k (aD Y) (.k (aK Y) (.k (aB 10 Y vT Y Zc Y Y) (.k (aI Y Y Y OV Zc) (.k (aD Y) (.k (aK Y) (.k (aB 15 Y vT Y S3 Y Y) (.k (aI Y Y Y G3 S3) (.k (Mr Y Y Y QV U3 (p5.int U3) Y TG (fun S w=>⟨_,(Z.sl aO) S w,Y⟩)) (.k (aD Y) (.k (bV Y Y) (.k (bV Y Y) (.k (bO Y) (.k (bO Y) .nil))))))))))))))) (by exact(J.kp [0,2,3,6,7] [])) ?_;refine aL [0,2,3,6,45] ?_;refine aU h Y (fun G h=>?_) (fun G h=>?_)
  ·refine aG ?_;obtain⟨B,N,h⟩:=aA h;refine dY 13 mixed (by exact(.k (aT Y Y (.VL sO sO) Nv vC) (.k (aD Y) (.k (aD Y) (.k (aK Y) (.k (aB 15 Y vT Y S3 Y Y) (.k (aI Y Y Y G3 S3) (.k (aM (Jv N) Tryz.call83 (.cons (.dir Y) (.cons (.dir Y) (.cons (.dir Y) .nil)))) (.k (aD Y) (.k (bV Y Y) (.k (bV Y Y) (.k (aN 107 Cf Y (.cons (Z.int .i64) (.cons (Z.sl Q0) (.cons (Z.sl aO) .nil))) Y) (XR.storeAll (.none Y) Y Y Y Y (.VL sO (.VL sO sO)) lN (.k (bO Y) .nil)))))))))))))) (by exact(J.kp [0,2,8,9] [])) ?_;refine aL [0,2,8,56] ?_;refine aU h Y (fun H h=>?_) (fun H h=>?_)
   ·refine aJ (.k (aT Y Y (.VL sO (.VL sO sO)) uU lN) (.t (bW Y Y Y Y (.VL sO (.VL sO sO)) lN) (.f [0,2] ?_)));refine aH ?_;refine Ha ?_;obtain rfl:=pT h;exact nK [(0,.ptr 9000 1),(2,.ptr 90 0)] [(90,.box 144 [.v Q0 B.1.1,.v mG B.1.2.1,.v Q5 B.1.2.2])] (aC [(90,101),(403,9053),(402,9052),(401,9051),(400,9050)]) (dT C Y (aV Y Y (.VL sO (.VL sO sO)) uU lN) (.cons Y (.cons Y (.cons Y (.cons Y (.cons Y (.cons Y (.cons Y .nil))))))))
   refine aF ?_;exact bY h (aC [])
  refine aF ?_;exact bY h (aC [])
 ·intro z;replace h:=iH z h;refine aF ?_;exact bY h (aC [])
theorem Im{a0 r}(h:pU a0=some r):
 WC Tryz.prog 184 [.v Q0 a0] (.v Wr.bool r) []:=by
 refine WC.of Tryz.func184 Y Tryz.ntmps184 Y ?_;intro S w z;unfold pU at h;refine aL [0] ?_;refine aG ?_;obtain⟨B,u,h⟩:=aA h;refine eB (σ':=⟨[(2,.v Wr.bool B)],[]⟩) ?_ ?_
 ·refine cd u (fun A u=>?_) (fun A u=>?_)
  ·cases u;exact jy
  cases u;exact jy
 cases h;exact aH (aW z dR Y (RV.tmp Y) .nil Y)
theorem pC{a0 r}(h:eA a0=some r):
 WC Tryz.prog 228 [.v mG a0,.ZR 184 []] (.v Q0 r) []:=by
 refine WC.of Tryz.func228 Y Tryz.ntmps228 Y ?_;intro S w u;unfold eA at h;refine aL [0,1] ?_;refine cT [0,1,7,8] ?_;obtain⟨L,F,G,H⟩:=cL h;refine jP (σs:=fun z:Int=>⟨[(0,.v mG a0),(1,.ZR 184 []),(7,.v Q0 (a0.length:Int)),(8,.v Q0 z)],[]⟩) (fun A:Unit=>⟨[],[]⟩) F (aC []) ?_ ?_
 ·intro A B;have h:=G _ B;refine aL [4] ?_;cases h;exact aH (aW u dR Y (RV.tmp Y) .nil Y)
 intro z K h;refine aL [0,1,7,8,9] ?_;refine aG ?_;refine aU h Y (fun C h=>?_) (fun C h=>?_)
 ·refine aF ?_;refine aG ?_;refine bR ?_;refine aL [0,1,5,7,8] ?_;obtain⟨M,N,h⟩:=aA h;obtain⟨O,I,h⟩:=aA h;refine aJ (.a 5 ?_);refine .k (tQ Y (Im I) Tryz.call184 (.cons (.dir Y) .nil)) (.f [0,1,5,7,8,16] ?_);refine aU h Y (fun D h=>?_) (fun D h=>?_)
  ·refine aL [4] ?_;refine aH ?_;refine eP ?_;cases h;refine gQ fun E=>?_;obtain rfl:=H _ E;exact aW u dR Y (RV.tmp Y) .nil Y
  refine aF ?_;refine aZ ?_;refine dP [0,1,7,8] ?_;cases h;exact cF (aC [])
 cases h;exact dB (dJ (aC []))
theorem nI{a0 r}(h:cX a0=some r):
 WC Tryz.prog 182 [.v mG a0,.ZR 184 []] (.v Wr.bool r) []:=by
 refine WC.of Tryz.func182 Y Tryz.ntmps182 Y ?_;intro S w u;unfold cX at h;refine aL [0,1] ?_;obtain⟨A,z,h⟩:=aA h;refine aJ (.a 2 ?_);refine .k (aM (pC z) Tryz.call228 (.cons (.dir Y) (.cons (.dir Y) .nil))) (.f [4] ?_);cases h;exact aH (aW u dR Y (RV.tmp Y) .nil Y)
theorem Cc{a0 r}(h:qE a0=some r):
 WC Tryz.prog 136 [.v mG a0] (.v Wr.bool r) []:=by
 refine WC.of Tryz.func136 Y Tryz.ntmps136 Y ?_;intro S w u;unfold qE at h;refine aL [0] ?_;obtain⟨A,z,h⟩:=aA h;refine aJ (.a 1 ?_);refine .k (aM (nI z) Tryz.call182 (.cons (.dir Y) (.cons .fn .nil))) (.f [2] ?_);cases h;exact aH (aW u dR Y (RV.tmp Y) .nil Y)
theorem Fu{a0 r}(h:tW a0=some r):
 WC Tryz.prog 79 [.v Q8 a0] (.v Q9 r) []:=by
 refine WC.of Tryz.func79 Y Tryz.ntmps79 Y ?_;intro S w u;unfold tW at h;refine aJ (.k (cI 101 Y (.VL sO (.VL sO sO)) Y) (.f [1] ?_));obtain⟨C,B,h⟩:=aA h;refine jJ (.k (aT Y Y (.VL sO (.VL sO sO)) uU lN) (.k (aM (Cb B) Tryz.call134 (.cons (.dir Y) .nil)) (.f [1,3] ?_)));refine aL [1,3,7] ?_;refine aU h Y (fun z h=>?_) (fun z h=>?_)
 ·refine aL [2] ?_;cases h;exact aH (aW u dR Y (RV.tmp Y) .nil Y)
 refine aF ?_;refine cT [12] ?_;refine aU h Y (fun A h=>?_) (fun A h=>?_)
 ·refine aL [2] ?_;cases h;exact aH (aW u dR Y (RV.tmp Y) .nil Y)
 refine aF ?_;refine aL [2] ?_;cases h;exact aH (aW u dR Y (RV.tmp Y) .nil Y)
theorem xY{a0 r}(h:pI a0=some r):
 WC Tryz.prog 78 [.v Nu a0] (.v Q9 r) []:=by
 refine WC.of Tryz.func78 Y Tryz.ntmps78 Y ?_;intro S w u;unfold pI at h;refine aJ (.k (cI 101 Y (.VL sO (.VL sO sO)) Y) (.f [1] ?_));obtain⟨O,H,h⟩:=aA h;refine jJ (.a 4 ?_);refine .k (dI (e:=Q0) wZ S3 Z3 Y Y Y Y (.cons (.dir Y) (.cons (.dir Y) .nil))) (.k (aM (Cc H) Tryz.call136 (.cons (.dir Y) .nil)) (.f [1,12] ?_));refine aU h Y (fun C h=>?_) (fun C h=>?_)
 ·refine aL [2] ?_;cases h;exact aH (aW u dR Y (RV.tmp Y) .nil Y)
 refine aF ?_;refine cT [1,17] ?_;refine aU h Y (fun D h=>?_) (fun D h=>?_)
 ·refine aL [2] ?_;cases h;exact aH (aW u dR Y (RV.tmp Y) .nil Y)
 refine aF ?_;refine cT [20,21,22] ?_;obtain⟨P,I,K,L⟩:=cL h;refine jP (σs:=fun z:Int=>⟨[(20,.v (Wr.sl Q8) a0.2.2),(21,.v Q0 (a0.2.2.length:Int)),(22,.v Q0 z)],[]⟩) (fun A:Unit=>⟨[],[]⟩) I (aC []) ?_ ?_
 ·intro A B;have h:=K _ B;refine aL [2] ?_;cases h;exact aH (aW u dR Y (RV.tmp Y) .nil Y)
 intro z N h;refine aL [20,21,22,23] ?_;refine aG ?_;refine aU h Y (fun E h=>?_) (fun E h=>?_)
 ·refine aF ?_;refine aG ?_;refine bR ?_;obtain⟨Q,R,h⟩:=aA h;refine aJ (.a 2 ?_);refine .k (aN 109 Cf Y (.cons (Z.int .i64) (.cons (Z.sl Q0) (.cons (Z.sl aO) .nil))) Y) (.t (bW Y Y Y Y (.VL sO (.VL sO sO)) lN) (.f [4,20,21,22] ?_));obtain⟨T,M,h⟩:=aA h;refine aJ (.k (aT Y Y (.VL sO (.VL sO sO)) uU lN) (.k (aM (Fu M) Tryz.call79 (.cons (.dir Y) .nil)) (.f [5,20,21,22] ?_)));refine aL [5,20,21,22,29] ?_;refine aU h Y (fun F h=>?_) (fun F h=>?_)
  ·refine aL [2] ?_;refine aH ?_;refine eP ?_;cases h;refine gQ fun G=>?_;obtain rfl:=L _ G;exact aW u dR Y (RV.tmp Y) .nil Y
  refine aF ?_;refine aZ ?_;refine dP [20,21,22] ?_;cases h;exact cF (aC [])
 cases h;exact dB (dJ (aC []))
theorem wL{a0 r}(h:rE a0=some r):
 WC Tryz.prog 137 [.v (Wr.H3 Q0) a0] (.ref 0) [(0,.arr 3 Q0 r)]:=by
 refine WC.of Tryz.func137 Y Tryz.ntmps137 Y ?_;intro S w u;unfold rE at h;refine aJ (.k (aR 101 3 Q0) (.f [0] ?_));refine jJ (.a 1 ?_);refine .k (xJ Y wZ) (.f [0,4] ?_);refine aU h Y (fun z h=>?_) (fun z h=>?_)
 ·refine aJ (.k (aR 102 3 Q0) (.f [2] ?_));cases h;exact aH (vW u dR Y (aC [(0,102)]))
 refine aF ?_;obtain⟨B,A,h⟩:=aA h;refine aJ (.k (rM (e:=Q0) 103 wZ S3 Z3 Y Y Y Y .nil) ?_);refine .a 1 ?_;refine .t (bT 104 A Y Y (.H3 Y) wZ I3 S3 Y Y Y Y Y) (.f [2] ?_);cases h;exact aH (vW u dR Y (aC [(0,104)]))
theorem zJ{a0:kT}{r:kT}(h:lE a0=some r):
  WC Tryz.prog 137 [.v mG a0] (.ref 0) [(0,.arr 3 Q0 r)]:=
 rP fun b u=>wL (by cases b with | true=>rw[u rfl] at h ⊢;exact h | false=>exact Eg h)
theorem Dx{a0 r}(h:mU a0=some r):
 WC Tryz.prog 81 [.v Q8 a0] (.v Q8 r) []:=by
 refine WC.of Tryz.func81 Y Tryz.ntmps81 Y ?_;intro S w u;unfold mU at h;refine aJ (.k (cI 101 Y (.VL sO (.VL sO sO)) Y) (.k (aN 102 Cf Y (.cons (Z.int .i64) (.cons (Z.sl Q0) (.cons (Z.sl aO) .nil))) Y) (.f [1,2] ?_)));refine aG ?_;obtain⟨z,A,h⟩:=aA h;obtain⟨B,C,h⟩:=aA h;refine dY 10 mixed (by exact(.k (aB 1 Y uV Y yV Y Y) (.k (aI Y Y Y Te yV) (.k (fI 103000 (zJ A) Tryz.call137 (.cons (.dir Y) .nil) Y) (.k (aB 2 Y uV Y yD Y Y) (.k (aI Y Y Y To yD) (.k (fI 104000 (cO C) Za (.cons (.dir Y) .nil) Y) (.k (aB 1 Y uV Y yV Y Y) (XR.store (.none Y) Y Y Y Y Y Y Y yV (.k (aB 2 Y uV Y yD Y Y) (XR.store (.none Y) Y Y Y Y Y Y Y yD .nil))))))))))) (by exact(J.kp [1,2] [])) ?_;refine aJ (.k (hO Y Y Y uU lN) (.f [2] ?_));refine aH ?_;obtain rfl:=pT h;exact cB (σ':=⟨[(2,.ptr 90 0)],[(90,.box 144 [.v Q0 a0.1,.v mG z,.v Q5 B])]⟩) (aC [(90,102)]) (aW u dR Y (aV Y Y (.VL sO (.VL sO sO)) uU lN) .nil Y)
theorem Dy{a0 r}(h:rX a0=some r):
 WC Tryz.prog 80 [.v (Wr.sl Q8) a0] (.ref 0) [(0,.arr 144 Q8 r)]:=by
 refine WC.of Tryz.func80 Y Tryz.ntmps80 Y ?_;intro S w A;unfold rX at h;refine aJ (.k (aR 101 144 Q8) (.f [0] ?_));refine aJ (.k (aR 102 144 Q8) (.f [0,3] ?_));refine cT [3,6,7,8] ?_;obtain⟨I,D,E,K⟩:=cL h;refine jP (σs:=fun u:Int×Oo=>⟨[(3,.ref 112),(6,.v (Wr.sl Q8) a0),(7,.v Q0 (a0.length:Int)),(8,.v Q0 u.1)],[(112,.arr 144 Q8 u.2)]⟩) (fun z:Oo=>⟨[(3,.ref 112)],[(112,.arr 144 Q8 z)]⟩) D (aC [(112,102)]) ?_ ?_
 ·intro z B;have h:=E _ B;refine aL [2] ?_;cases h;exact aH (vW A dR Y (aC [(0,112)]))
 intro u H h;refine aL [3,6,7,8,9] ?_;refine aG ?_;refine aU h Y (fun C h=>?_) (fun C h=>?_)
 ·refine aF ?_;refine aG ?_;refine bR ?_;obtain⟨L,M,h⟩:=aA h;refine aJ (.a 2 ?_);refine .k (aN 116 Cf Y (.cons (Z.int .i64) (.cons (Z.sl Q0) (.cons (Z.sl aO) .nil))) Y) (.t (bW Y Y Y Y (.VL sO (.VL sO sO)) lN) (.f [3,5,6,7,8] ?_));obtain⟨N,F,h⟩:=aA h;obtain⟨O,G,h⟩:=aA h;refine eQ (.a 1 ?_);refine .k (aT Y Y (.VL sO (.VL sO sO)) uU lN) (.k (aM (Dx F) Tryz.call81 (.cons (.dir Y) .nil)) (.k (dI (e:=Q8) KX lN Cf Y Y Y Y (.cons (.dir Y) .nil)) (.t (bT 118 G Y Y (.sl Y) KX QK lN Y Y Y Y Y) (.f [3,6,7,8] ?_))));refine aZ ?_;refine dP [3,6,7,8] ?_;cases h;exact cF (aC [(112,118)])
 cases h;exact dB (dJ (aC []))
theorem Og{a0 a1 r}(h:uI a0 a1=some r):
 WC Tryz.prog 50 [.v Nu a0,.v Q8 a1] (.WN [.v Nu r.1,.v Q9 r.2]) []:=by
 refine WC.of Tryz.func50 Y Tryz.ntmps50 Y ?_;intro S w z;unfold uI at h;refine aJ (.k (cI 101 Y (.VL sO (.VL sO sO)) Y) (.k (cI 102 Y (.VL sO (.VL sO sO)) Y) (.k (aN 103 TR Y (.cons (Z.int .i64) (.cons (Z.int .i64) (.cons (Z.sl Q8) .nil))) Y) (.f [2,3,4] ?_))));obtain⟨E,F,h⟩:=aA h;refine jJ (.k (aT Y Y (.VL sO (.VL sO sO)) Xb Jn) (.k (aM (xY F) Tryz.call78 (.cons (.dir Y) .nil)) (.f [2,3,4,6] ?_)));refine aL [2,3,4,6,11] ?_;refine aU h Y (fun A h=>?_) (fun A h=>?_)
 ·refine aJ (.k (bQ Ey (.cons (Z.int .i64) (.cons (Z.int .i64) (.cons (Z.sl Q8) .nil))) .nil) (.f [4,5] ?_));refine aH ?_;obtain rfl:=pT h;exact cB (σ':=⟨[(4,.ptr 90 0),(5,.v Q9 E)],[(90,.box 84 [.v Q0 (0:Int),.v Q0 (0:Int),.v (Wr.sl Q8) ([]:Oo)])]⟩) (aC [(90,103)]) (bS z dR Y (aV Y Y (.VL sO (.VL sO sO)) Xb Jn) (RV.tmp Y) .nil Y)
 refine aF ?_;obtain⟨G,H,h⟩:=aA h;refine jJ (.k (aT Y Y (.VL sO (.VL sO sO)) uU lN) (.k (aM (Fu H) Tryz.call79 (.cons (.dir Y) .nil)) (.f [2,3,4,7] ?_)));refine aL [2,3,4,7,17] ?_;refine aU h Y (fun B h=>?_) (fun B h=>?_)
 ·refine aJ (.k (bQ Ey (.cons (Z.int .i64) (.cons (Z.int .i64) (.cons (Z.sl Q8) .nil))) .nil) (.f [4,5] ?_));refine aH ?_;obtain rfl:=pT h;exact cB (σ':=⟨[(4,.ptr 90 0),(5,.v Q9 G)],[(90,.box 84 [.v Q0 (0:Int),.v Q0 (0:Int),.v (Wr.sl Q8) ([]:Oo)])]⟩) (aC [(90,103)]) (bS z dR Y (aV Y Y (.VL sO (.VL sO sO)) Xb Jn) (RV.tmp Y) .nil Y)
 refine aF ?_;refine aG ?_;refine aG ?_;obtain⟨I,u,h⟩:=aA h;refine eB (σ':=⟨[(2,.ptr 101 0),(3,.ptr 102 0),(4,.ptr 103 0),(32,.v Wr.bool I)],[(101,.box 84 [.v Q0 a0.1,.v Q0 a0.2.1,.v (Wr.sl Q8) a0.2.2]),(102,.box 144 [.v Q0 a1.1,.v mG a1.2.1,.v Q5 a1.2.2]),(103,.box 84 [.v Q0 (0:Int),.v Q0 (0:Int),.v (Wr.sl Q8) ([]:Oo)])]⟩) ?_ ?_
 ·refine cd u (fun C u=>?_) (fun C u=>?_)
  ·cases u;exact jy
  cases u;exact jy
 refine aU h Y (fun D h=>?_) (fun D h=>?_)
 ·refine aJ (.k (bQ Ey (.cons (Z.int .i64) (.cons (Z.int .i64) (.cons (Z.sl Q8) .nil))) .nil) (.f [4,5] ?_));refine aH ?_;obtain rfl:=pT h;exact cB (σ':=⟨[(4,.ptr 90 0),(5,.v Q9 (some (2:Int)))],[(90,.box 84 [.v Q0 (0:Int),.v Q0 (0:Int),.v (Wr.sl Q8) ([]:Oo)])]⟩) (aC [(90,103)]) (bS z dR Y (aV Y Y (.VL sO (.VL sO sO)) Xb Jn) (RV.tmp Y) .nil Y)
 refine aF ?_;refine aG ?_;obtain⟨O,K,h⟩:=aA h;obtain⟨P,L,h⟩:=aA h;obtain⟨M,N,h⟩:=aA h;refine dY 14 mixed (by exact(.k (aB 0 Y EV Y S3 Y Y) (.k (aI Y Y Y G3 S3) (.k (aB 1 Y EV Y S3 Y Y) (.k (aI Y Y Y G3 S3) (.k (aB 2 Y EV Y EP Y Y) (.k (aI Y Y Y RL EP) (.k (fI 109000 (Dy K) Tryz.call80 (.cons (.dir Y) .nil) Y) (.k (aT Y Y (.VL sO (.VL sO sO)) uU lN) (.k (aM (Dx L) Tryz.call81 (.cons (.dir Y) .nil)) (.k (dI (e:=Q8) KX lN Cf Y Y Y Y (.cons (.dir Y) .nil)) (XR.append (.none Y) 111 N Y Y (.sl Y) KX QK lN Y Y Y Y Y (.k (bQ Ey (.cons (Z.int .i64) (.cons (Z.int .i64) (.cons (Z.sl Q8) .nil))) (.cons Y (.dir Y) Y Y Y Y (.cons Y (.dir Y) Y Y Y Y (.cons Y (.dir Y) Y Y Y Y .nil)))) (XR.B3 (.none Y) Y Y Y Y Y Y Jn (.k (zD ET) .nil))))))))))))))) (by exact(J.kp [4,5] [])) ?_;refine aH ?_;obtain rfl:=pT h;exact cB (σ':=⟨[(4,.ptr 90 0),(5,.v Q9 (none:Option Int))],[(90,.box 84 [.v Q0 a0.1,.v Q0 a0.2.1,.v (Wr.sl Q8) M])]⟩) (aC [(90,103)]) (bS z dR Y (aV Y Y (.VL sO (.VL sO sO)) Xb Jn) (RV.tmp Y) .nil Y)
theorem Pm{a0 r}(h:pD a0=some r):
 WC Tryz.prog 52 [.v Nu a0] (.WN [.v (Wr.sl (Wr.sl (Wr.int .u8))) r.1,.v Q9 r.2]) []:=by
 refine WC.of Tryz.func52 Y Tryz.ntmps52 Y ?_;intro S w u;unfold pD at h;refine aJ (.k (cI 101 Y (.VL sO (.VL sO sO)) Y) (.k (aR 102 107 (Wr.sl (Wr.int .u8))) (.f [1] ?_)));obtain⟨T,K,h⟩:=aA h;refine jJ (.k (aT Y Y (.VL sO (.VL sO sO)) Xb Jn) (.k (aM (xY K) Tryz.call78 (.cons (.dir Y) .nil)) (.f [1,4] ?_)));refine aL [1,4,13] ?_;refine aU h Y (fun F h=>?_) (fun F h=>?_)
 ·refine aJ (.a 1 ?_);refine .k (aR 104 107 (Wr.sl (Wr.int .u8))) (.f [2,3] ?_);cases h;exact aH (wO u dR Y (aC []))
 refine aF ?_;refine aJ (.k (aR 105 107 (Wr.sl (Wr.int .u8))) (.f [1,5] ?_));obtain⟨C,L,h⟩:=aA h;refine jJ (.a 5 ?_);refine .k (yP Y Y) (.k (Zy L Y Y KX lN) (.f [1,5,21,22,23] ?_));obtain⟨U,M,N,D⟩:=cL h;refine jP (σs:=fun z:Int×(List kT)=>⟨[(1,.ptr 101 0),(5,.ref 119),(21,.v (Wr.sl Q8) C),(22,.v Q0 (C.length:Int)),(23,.v Q0 z.1)],[(101,.box 84 [.v Q0 a0.1,.v Q0 a0.2.1,.v (Wr.sl Q8) a0.2.2]),(119,.arr 107 (Wr.sl (Wr.int .u8)) z.2)]⟩) (fun B:(List kT)=>⟨[(5,.ref 119)],[(119,.arr 107 (Wr.sl (Wr.int .u8)) B)]⟩) M (aC [(119,105)]) ?_ ?_
 ·intro B E;have h:=N _ E;refine aL [2,3] ?_;cases h;exact aH (wO u dR Y (aC []))
 intro z R h;refine aL [1,5,21,22,23,24] ?_;refine aG ?_;refine aU h Y (fun G h=>?_) (fun G h=>?_)
 ·refine aF ?_;refine aG ?_;refine bR ?_;obtain⟨V,X,h⟩:=aA h;refine aJ (.a 3 ?_);refine .k (aN 125 Cf Y (.cons (Z.int .i64) (.cons (Z.sl Q0) (.cons (Z.sl aO) .nil))) Y) ?_;refine .a 1 ?_;refine .t (bW Y Y Y Y (.VL sO (.VL sO sO)) lN) (.f [1,5,6,7,21,22,23] ?_);refine cT [1,5,6,7,21,22,23,32] ?_;refine aU h Y (fun H h=>?_) (fun H h=>?_)
  ·refine aJ (.a 1 ?_);refine .k (aR 126 107 (Wr.sl (Wr.int .u8))) (.f [2,3] ?_);refine aH ?_;refine eP ?_;cases h;refine gQ fun A=>?_;obtain rfl:=D _ A;exact wO u dR Y (aC [])
  refine aF ?_;refine aG ?_;obtain⟨qu,O,h⟩:=aA h;obtain⟨wv,P,h⟩:=aA h;refine dY 21 mixed (by exact(.k (aB 0 Y EV Y S3 Y Y) (.k (aI Y Y Y G3 S3) (.k (aB 1 Y EV Y S3 Y Y) (.k (aI Y Y Y G3 S3) (.k (aD Y) (.k (cU Y Y Y) (.k (aB 0 Y uV Y S3 Y Y) (.k (aI Y Y Y G3 S3) (.k (AE (e:=Q0) wZ S3 Z3 Y Y Y Y (.cons (.dir Y) (.cons (.dir Y) (.cons (.dir Y) .nil)))) (.k (aB 1 Y uV Y yV Y Y) (.k (aI Y Y Y Te yV) (.k (Lf O (List.cons_ne_nil _ _) Y (.sl Y) wZ I3 S3 Y Y Y) (.k (aB 2 Y uV Y yD Y Y) (.k (aI Y Y Y To yD) (.k (bQ mB (.cons (Z.int .i64) (.cons (Z.sl Q0) (.cons (Z.sl aO) .nil))) (.cons Y (.dir Y) Y Y Y Y (.cons Y (.dir Y) Y Y Y Y (.cons Y (.dir Y) Y Y Y Y .nil)))) (.k (aM (xW P) Tryz.call77 (.cons (.agg Y (.same (.same (.same .nil))) (.VL sO (.VL sO sO)) Y) .nil)) (.k (aD Y) (.k (bV Y Y) (.k (bV Y Y) (.k (bO Y) (.k (bO Y) .nil)))))))))))))))))))))) (by exact(J.kp [1,5,8,9,21,22,23] [])) ?_;refine cT [1,5,8,9,21,22,23,54] ?_;refine aU h Y (fun I h=>?_) (fun I h=>?_)
  ·refine aJ (.a 1 ?_);refine .k (aR 128 107 (Wr.sl (Wr.int .u8))) (.f [2,3] ?_);refine aH ?_;refine eP ?_;cases h;refine gQ fun A=>?_;obtain rfl:=D _ A;exact wO u dR Y (aC [])
  refine aF ?_;obtain⟨w8,Q,h⟩:=aA h;refine eQ (.a 2 ?_);refine .k (dI (e:=(Wr.sl (Wr.int .u8))) QO Wq Tryz.zeroValue107 Y Y Y Y (.cons (.dir Y) .nil)) (.t (bT 129 Q Y Y (.sl Y) QO Tryz.typeInfo107 Wq Y Y Y Y Y) (.f [1,5,21,22,23] ?_));refine aZ ?_;refine dP [1,5,21,22,23] ?_;cases h;exact cF (aC [(119,129)])
 cases h;exact dB (dJ (aC []))
theorem Al(A:Nat->Nat){b0 b1 b2 b3 b4 b5 b6 b7 b8 b9 bA bB bC bD bE bF bG bH bI bJ bK bL r}(h:eG b0 b1 b2 b3 b4 b5 b6 b7 b8 b9 bA bB bC bD bE bF bG bH bI bJ bK bL=some r):
 VQ Tryz.prog 30 [.ptr 9000 0] (kQ 9000 (some (A 9000)) 9100 (some (A 9100)) 9200 (some (A 9200)) 9050 9051 9052 9053 b0 b1 b2 b3 b4 b5 b6 b7 b8 b9 bA bB bC bD bE bF bG bH bI bJ bK bL) (.v Q9 r.1) (kQ 9000 (some (A 9000)) 9100 (some (A 9100)) 9200 (some (A 9200)) 400 401 402 403 b0 b1 b2 b3 b4 b5 b6 b7 r.2.1 r.2.2.1 bA r.2.2.2.1 bC bD bE bF bG r.2.2.2.2 bI bJ bK bL):=by
 refine VQ.of Tryz.func30 Y Tryz.ntmps30 Y ?_;intro S w R E;unfold eG at h;refine aL [0] ?_;refine aL [0,3] ?_;obtain⟨C,X,h⟩:=aA h;refine jJ (.a 6 ?_);refine .k (dI (e:=Q0) wZ S3 Z3 Y Y Y Y (.cons (.dir Y) .nil)) (.k (bQ mB (.cons (Z.int .i64) (.cons (Z.sl Q0) (.cons (Z.sl aO) .nil))) (.cons Y (.dir Y) Y Y Y Y (.cons Y (.dir Y) Y Y Y Y .nil))) (.t (uE (H:=[9000,9100,9200,9050,9051,9052,9053]) (K:=[9000,9100,9200]) (vR [(9000,9000),(9100,9100),(9200,9200),(9050,9050),(9051,9051),(9052,9052),(9053,9053),(400,101),(401,102),(402,103),(403,104)]) (dF Y) (fun A=>uR A X) Tryz.call49 (.cons (.dir Y) (.cons (.dir Y) (.cons (.agg Y (.same (.same (.same .nil))) (.VL sO (.VL sO sO)) Y) .nil))) (fun A=>(.box Y (.box Y (.box Y (.arr Y (.mp Y (.arr Y (.arr Y .nil)))))))) (fun A=>(.box Y (.box Y (.box Y (.arr (.mp (.arr (.arr .nil Y) Y) Y) Y) Y) Y) Y)) (fun _=>rfl) Y Y (fun _=>rfl) Y Y) (.f [0,3,4] ?_)));refine aG ?_;obtain⟨x3,u,h⟩:=aA h;refine eB (σ':=⟨[(0,.ptr 9000 0),(3,.ptr 9000 1),(4,.v Q9 C.1),(31,.v Wr.bool x3)],(kQ 9000 (some (A 9000)) 9100 (some (A 9100)) 9200 (some (A 9200)) 101 102 103 104 b0 b1 b2 b3 b4 b5 b6 b7 b8 b9 bA bB bC bD bE bF bG C.2 bI bJ bK bL)⟩) ?_ ?_
 ·refine cd u (fun N u=>?_) (fun N u=>?_)
  ·cases u;exact jy
  cases u;exact jy
 refine aU h Y (fun O h=>?_) (fun O h=>?_)
 ·refine aL [0,2] ?_;cases h;exact aH (eV E Y (aC [(403,104),(402,103),(401,102),(400,101)]))
 refine aF ?_;refine aG ?_;refine aG ?_;obtain⟨x7,u,h⟩:=aA h;refine Iu (σ':=⟨[(0,.ptr 9000 0),(3,.ptr 9000 1),(51,.v Wr.bool x7)],(kQ 9000 (some (A 9000)) 9100 (some (A 9100)) 9200 (some (A 9200)) 101 102 103 104 b0 b1 b2 b3 b4 b5 b6 b7 b8 b9 bA bB bC bD bE bF bG C.2 bI bJ bK bL)⟩) ?_ ?_
 ·intro I;refine cd u (fun B u=>?_) (fun B u=>?_)
  ·cases u;exact dY 19 mixed (by exact(.k (aD Y) (.k (aK Y) (.k (aB 15 Y vT Y S3 Y Y) (.k (aI Y Y Y G3 S3) (.k (aD Y) (.k (aK Y) (.k (aB 1 Y vT Y Kw Y Y) (.k (aB 3 Y Fa Y S3 Y Y) (.k (aI Y Y Y G3 S3) (.k (kC Y Y Y) (.k (aD Y) (.g B (aD Y) (.g B (aK Y) (.g B (aB 12 Y vT Y Jn Y Y) (.g B (aB 14 Y EV Y EP Y Y) (.g B (yQ (off:=12) (o1:=2) Y Y Y Y (.snd (.snd .here)) RL EP) (.g B (tG Y KX) (.g B (kC Y Y Y) (.k (Fl B Y Y) .nil)))))))))))))))))))) (by exact(J.fin (aC []))) I
  cases u;exact qS 19 mixed I
 obtain⟨aa,ab,h⟩:=eZ h;refine sR (fun z:(Int×Int×Oo)×Int×kT=>⟨[(0,.ptr 9000 0),(3,.ptr 9000 1)],(kQ 9000 (some (A 9000)) 9100 (some (A 9100)) 9200 (some (A 9200)) 119 120 121 122 b0 b1 b2 b3 b4 b5 b6 b7 z.1 z.2.1 bA z.2.2 bC bD bE bF bG C.2 bI bJ bK bL)⟩) (fun x=>aa x=some r) Y ?_ ?_ ?_
 ·intro z h;rw[ab] at h;obtain⟨D,ac,h⟩:=aA h;refine aJ (.a 4 ?_);refine .k (aM (Pm ac) Tryz.call52 (.cons (.dir Y) .nil)) (.f [0,7,8] ?_);refine cT [0,8,99,100,101] ?_;obtain⟨am,ad,ae,an⟩:=cL h;refine jP (σs:=fun F:Int×Yz=>⟨[(0,.ptr 9000 0),(8,.v Q9 D.2),(99,.v (Wr.sl (Wr.sl (Wr.int .u8))) D.1),(100,.v Q0 (D.1.length:Int)),(101,.v Q0 F.1)],(kQ 9000 (some (A 9000)) 9100 (some (A 9100)) 9200 (some (A 9200)) 158 159 160 161 b0 b1 b2 b3 b4 b5 b6 b7 z.1 z.2.1 bA z.2.2 bC bD bE bF bG F.2 bI bJ bK bL)⟩) (fun L:Yz=>⟨[(0,.ptr 9000 0),(8,.v Q9 D.2)],(kQ 9000 (some (A 9000)) 9100 (some (A 9100)) 9200 (some (A 9200)) 158 159 160 161 b0 b1 b2 b3 b4 b5 b6 b7 z.1 z.2.1 bA z.2.2 bC bD bE bF bG L bI bJ bK bL)⟩) ad (aC [(161,122),(160,121),(159,120),(158,119)]) ?_ ?_
  ·intro L M;have h:=ae _ M;refine aL [0,2] ?_;cases h;exact aH (eV E Y (aC [(403,161),(402,160),(401,159),(400,158)]))
  intro F ai h;refine aL [0,8,99,100,101,102] ?_;refine aG ?_;refine aU h Y (fun P h=>?_) (fun P h=>?_)
  ·refine aF ?_;refine aG ?_;refine bR ?_;obtain⟨ap,av,h⟩:=aA h;refine aL [0,8,10,99,100,101] ?_;obtain⟨ax,af,h⟩:=aA h;obtain⟨wu,ah,h⟩:=aA h;refine eQ (.a 2 ?_);refine .t (uE (H:=[9000,9100,9200,158,159,160,161]) (K:=[9000,9100,9200]) (vR [(9000,9000),(9100,9100),(9200,9200),(9050,158),(9051,159),(9052,160),(9053,161),(400,166),(401,167),(402,168),(403,169)]) (dF Y) (fun A=>oY A ah) Tryz.call53 (.cons (.dir Y) (.cons (.dir Y) (.cons (.toN (Mq af) Y) .nil))) (fun A=>(.box Y (.box Y (.box Y (.arr Y (.mp Y (.arr Y (.arr Y .nil)))))))) (fun A=>(.box Y (.box Y (.box Y (.arr (.mp (.arr (.arr .nil Y) Y) Y) Y) Y) Y) Y)) (fun _=>rfl) Y Y (fun _=>rfl) Y Y) (.f [0,8,99,100,101] ?_);refine aZ ?_;refine dP [0,8,99,100,101] ?_;cases h;exact cF (aC [(161,169),(160,168),(159,167),(158,166)])
  cases h;exact dB (dJ (aC []))
 ·intro G;replace h:=iG G h;refine aG ?_;obtain⟨vd,sk,h⟩:=aA h;obtain⟨vc,sj,h⟩:=aA h;refine TV (OK:=(TT ([(9000,12,.v Nu b8)]:List (Nat×Nat×Slot)))) 13 mixed (by exact(.pu (.none Y) Y (fun _ _=>aD Y) (.pu (.none Y) Y (fun _ _=>aK Y) (.pu (.none Y) Y (fun _ _=>aB 12 Y vT Y Jn Y Y) (.pu (.none Y) Y (fun _ Q=>HA _ 0 Q Y (fun _ _ _ T U=>aI Y T U Xb Jn)) (.k (aD Y) (XR.H8 (.none Y) (H:=[9000,9100,9200,101,102,103,104]) (K:=[9000,9100,9200]) (vR [(9000,9000),(9100,9100),(9200,9200),(9050,101),(9051,102),(9052,103),(9053,104),(400,129),(401,130),(402,131),(403,132)]) (dF Y) (fun A=>xX A sk) Tryz.call51 (.cons (.dir Y) .nil) (fun A=>(.box Y (.box Y (.box Y (.arr Y (.mp Y (.arr Y (.arr Y .nil)))))))) (fun A=>(.box Y (.box Y (.box Y (.arr (.mp (.arr (.arr .nil Y) Y) Y) Y) Y) Y) Y)) (fun _=>rfl) Y Y (fun _=>rfl) Y Y (.k (aM (Og sj) Tryz.call50 (.cons (.dir Y) (.cons (.dir Y) .nil))) (.k (aD Y) (.pu (.none Y) Y (fun _ _=>bV Y Y) (.pu (.none Y) Y (fun _ _=>bV Y Y) (.k (aN 134 TR Y (.cons (Z.int .i64) (.cons (Z.int .i64) (.cons (Z.sl Q8) .nil))) Y) (XR.storeAll (.none Y) Y Y Y Y (.VL sO (.VL sO sO)) Jn (.k (bO Y) .nil)))))))))))))) (by exact(J.kp [0,3,5,6] [])) (by exact AN Y (by repeat' (first | exact trivial | exact Y | refine And.intro ?_ ?_))) ?_;refine cT [0,3,5,6,63] ?_;refine aU h Y (fun V h=>?_) (fun V h=>?_)
  ·refine aL [0,2] ?_;refine aH ?_;refine Ha ?_;cases h;exact eV E Y (aC [(403,132),(402,131),(401,130),(400,129)])
  refine aF ?_;refine aG ?_;refine dY 14 mixed (by exact(.k (aD Y) (.pu (.none Y) Y (fun _ _=>aD Y) (.k (aT Y Y (.VL sO (.VL sO sO)) Xb Jn) (.k (aD Y) (.k (aK Y) (.k (aB 1 Y vT Y Kw Y Y) (.k (aB 3 Y Fa Y S3 Y Y) (.k (aI Y Y Y G3 S3) (.k (aK Y) (.k (aB 12 Y vT Y Jn Y Y) (XR.store (.none Y) Y Y Y Y Y Y Y Jn (.k (aK Y) (.k (aB 15 Y vT Y S3 Y Y) (XR.store (.none Y) Y Y Y Y Y Y Y S3 .nil))))))))))))))) (by exact(J.kp [0,3] [])) ?_;obtain⟨cz,W8,h⟩:=aA h;refine dY 15 mixed (by exact(.k (aD Y) (.k (aD Y) (.k (aK Y) (.k (aB 17 Y vT Y yV Y Y) (.k (aI Y Y Y Te yV) (.k (aD Y) (.k (aK Y) (.k (aB 1 Y vT Y Kw Y Y) (.k (aB 3 Y Fa Y S3 Y Y) (.k (aI Y Y Y G3 S3) (.k (dI (e:=Q0) wZ S3 Z3 Y Y Y Y (.cons (.dir Y) .nil)) (XR.append (.none Y) 136 W8 Y Y (.sl Y) wZ I3 S3 Y Y Y Y Y (.k (aK Y) (.k (aB 17 Y vT Y yV Y Y) (XR.store (.none Y) Y Y Y Y Y Y Y yV .nil)))))))))))))))) (by exact(J.kp [0,3] [])) ?_;exact bY h (aC [(122,132),(121,136),(120,130),(119,129)])
 ·intro G;replace h:=iH G h;refine aF ?_;exact bY h (aC [(122,104),(121,103),(120,102),(119,101)])
theorem Cm(A:Nat->Nat){a1 b0 b1 b2 b3 b4 b5 b6 b7 b8 b9 bA bB bC bD bE bF bG bH bI bJ bK bL r}(h:nS a1 b0 b1 b2 b3 b4 b5 b6 b7 b8 b9 bA bB bC bD bE bF bG bH bI bJ bK bL=some r):
 VQ Tryz.prog 111 [.ptr 9000 0,.v Q4 a1] (kQ 9000 (some (A 9000)) 9100 (some (A 9100)) 9200 (some (A 9200)) 9050 9051 9052 9053 b0 b1 b2 b3 b4 b5 b6 b7 b8 b9 bA bB bC bD bE bF bG bH bI bJ bK bL) (.WN [.v aO r.1,.v Q9 r.2.1]) (Th 9000 (some (A 9000)) 301 none 302 none 400 401 402 403 r.2.2):=by
 refine VQ.of Tryz.func111 Y Tryz.ntmps111 Y ?_;intro S w R u;unfold nS at h;refine aJ (.k (cI 101 Y (.VL sO (.VL sO (.VL sO sO))) Y) (.k (aN 102 Aq Y (.cons (Z.arr 8 (Z.int .u8)) .nil) Y) (.f [0,4] ?_)));obtain⟨z,B,h⟩:=aA h;refine aJ (.k (dD (e:=aO) (v:=aS) Br vS I5 Y Y (Z.arr 8 (Z.int .u8))) ?_);refine .a 1 ?_;refine .t (eM [9000,9100,9200,9050,9051,9052,9053] (vR [(9000,9000),(9100,9100),(9200,9200),(9050,9050),(9051,9051),(9052,9052),(9053,9053),(400,103),(401,104),(402,105),(403,106)]) (dF Y) (fun A=>Al A B) Tryz.call30 (fun A=>(.box Y (.box Y (.box Y (.arr (.mp (.arr (.arr .nil Y) Y) Y) Y) Y) Y) Y))) (.f [0,4,5] ?_);refine aH ?_;obtain rfl:=pT h;exact nK [(0,.ptr 9000 0),(4,.ptr 90 0),(5,.v Q9 z.1)] [(90,.box 30 [.v aO aS])] (aC [(90,102),(403,106),(302,9200),(402,105),(401,104),(400,103),(301,9100)]) (dQ u Y (cK Y Y Y tI kB) (RV.tmp Y) (.cons Y (.cons Y (.cons Y (.cons Y (.cons Y (.cons Y (.cons Y .nil))))))))
theorem kA(A:Nat->Nat){a1 b0 b1 b2 b3 b4 b5 b6 b7 b8 b9 bA bB bC bD bE bF bG bH bI bJ bK bL r}(h:cD a1 b0 b1 b2 b3 b4 b5 b6 b7 b8 b9 bA bB bC bD bE bF bG bH bI bJ bK bL=some r):
 VQ Tryz.prog 44 [.ptr 9000 0,.v Q0 a1] (kQ 9000 (some (A 9000)) 9100 (some (A 9100)) 9200 (some (A 9200)) 9050 9051 9052 9053 b0 b1 b2 b3 b4 b5 b6 b7 b8 b9 bA bB bC bD bE bF bG bH bI bJ bK bL) (.WN [.v Q0 r.1,.v Wr.bool r.2]) (kQ 9000 (some (A 9000)) 9100 (some (A 9100)) 9200 (some (A 9200)) 400 401 402 403 b0 b1 b2 b3 b4 b5 b6 b7 b8 b9 bA bB bC bD bE bF bG bH bI bJ bK bL):=by
 refine VQ.of Tryz.func44 Y Tryz.ntmps44 Y ?_;intro S w R u;unfold cD at h;refine aL [0,1] ?_;refine cT [0,1,11] ?_;refine aU h Y (fun z h=>?_) (fun z h=>?_)
 ·refine aL [0,4,5] ?_;cases h;exact aH (HE u Y (aC [(403,9053),(402,9052),(401,9051),(400,9050)]))
 refine aF ?_;obtain⟨C,B,h⟩:=aA h;refine aJ (.a 3 ?_);refine .k (Xd Y) (.k (Ba Y Y) ?_);refine .a 5 ?_;refine .k (kM (.inr Y) (Ed B) Y Y) (.f [0,4,5] ?_);cases h;exact aH (HE u Y (aC [(403,9053),(402,9052),(401,9051),(400,9050)]))
end Go.Cn
