/- The functions come to what their models come to. Conditions: none. -/
import Derived.Test.YteckohdbfkhmdabGreatDoorMDMirrorSays
import Derived.KernelRfl
import Derived.WalkKit
import Derived.LaidEql
import Derived.Stop.Asserts
import Derived.RowKitTokens
import Derived.Test.YteckohdbfkhmdabGreatDoorChecked
set_option linter.unusedVariables false
set_option linter.unusedSimpArgs false
set_option maxRecDepth 100000
set_option maxHeartbeats 4000000
namespace Go.Cn
open Go Go.Sw Go.Mo Go.Proofs
abbrev ET:Nat:=28
theorem Y{α:Sort _}{a:α}:a=a:=rfl
abbrev Q0:=(Enc.int .i64)
abbrev Q1:=(Enc.sl (Enc.pr Q0 aN))
abbrev Q2:=(Enc.pr (Enc.sl aN) (Enc.pr Q1 Q0))
abbrev Q3:=(Int×Int×Int×Int×(List aQ)×(Int×(List (Int×aQ))×(List (Int×(List (Int×aQ))))×Bool)×(List (Int×(List aQ)))×Int×(Int×Int×(List (Int×(List Int)×(List aQ))))×Int×Int×(List Int)×Int×Int×Int×Int×(Int×Int)×(List (Bool×Bool×(List Int)))×Int×((List aQ)×(List (Int×aQ))×Int)×Int×((List aQ)×(List (Int×aQ))×Int))
abbrev Q4:=(Enc.pr Q0 (Enc.pr (Enc.sl Q0) (Enc.sl aN)))
abbrev Q5:=(Enc.pr Q0 aN)
abbrev Q6:=(List (Int×aQ))
abbrev Q7:=(Enc.sl aN)
abbrev Q8:=(Enc.err ET)
abbrev Q9:=(Enc.pr Q0 (Enc.pr aN (Enc.pr Q0 (Enc.pr Q0 (Enc.pr Q0 Q7)))))
abbrev Jq:=(Enc.pr Q0 (Enc.pr Q1 (Enc.pr (Enc.sl (Enc.pr Q0 Q1)) Enc.bool)))
abbrev sB:=(Enc.pr Q0 (Enc.pr Q0 Q5))
abbrev By:=((List aQ)×Q6×Int)
abbrev iY:=(List Int)
abbrev jA:=(List aQ)
abbrev nX:=(Enc.pr Q0 Q1)
abbrev Ml:=(Enc.pr Q0 (Enc.pr Q0 (Enc.sl Q4)))
abbrev nC:=(Enc.sl Q0)
abbrev Nj:=(List (Int×iY×jA))
abbrev Hg:=(List (Int×Q6))
abbrev Sc:=(Option (Int×By))
abbrev DF:=Tryz.call111
abbrev MC:=Tryz.call120
abbrev PI:=Tryz.call14
abbrev RK:=Tryz.call21
abbrev RL:=Tryz.call22
abbrev QU:=Tryz.call23
abbrev RM:=Tryz.call41
abbrev RN:=Tryz.call51
abbrev OF:=Tryz.call52
abbrev QV:=Tryz.call55
abbrev RO:=Tryz.call65
abbrev SV:=Tryz.call69
abbrev PJ:=Tryz.call76
abbrev RP:=Tryz.call79
abbrev RQ:=Tryz.call82
abbrev RR:=Tryz.call84
abbrev QW:=Tryz.call85
abbrev QX:=Tryz.call87
abbrev RS:=Tryz.call92
abbrev Xt:=Tryz.isAgg124
abbrev tU:=Tryz.isAgg129
abbrev IA:=Tryz.isAgg136
abbrev Mm:=Tryz.isAgg175
abbrev Vi:=Tryz.isAgg209
abbrev QY:=Tryz.isAgg25
abbrev IB:=Tryz.isAgg256
abbrev G3:=Tryz.isAgg3
abbrev sT:=Tryz.isAgg33
abbrev RT:=Tryz.isAgg37
abbrev Sd:=Tryz.isAgg38
abbrev MV:=Tryz.isAgg40
abbrev QZ:=Tryz.isAgg43
abbrev G5:=Tryz.isAgg5
abbrev Mn:=Tryz.isAgg55
abbrev DP:=Tryz.isAgg58
abbrev Dx:=Tryz.isAgg61
abbrev MW:=Tryz.isAgg62
abbrev PK:=Tryz.isAgg63
abbrev Vu:=Tryz.isAgg65
abbrev Ru:=Tryz.isAgg66
abbrev OG:=Tryz.isAgg70
abbrev RA:=Tryz.isAgg73
abbrev Dv:=Tryz.isAgg86
abbrev Jr:=Tryz.typeInfo124
abbrev OH:=Tryz.typeInfo129
abbrev MD:=Tryz.typeInfo141
abbrev OI:=Tryz.typeInfo175
abbrev OJ:=Tryz.typeInfo209
abbrev I3:=Tryz.typeInfo3
abbrev Bb:=Tryz.typeInfo33
abbrev I5:=Tryz.typeInfo5
abbrev jE:=Tryz.sizeOf124
abbrev kU:=Tryz.sizeOf129
abbrev Vj:=Tryz.sizeOf136
abbrev uZ:=Tryz.sizeOf141
abbrev uE:=Tryz.sizeOf175
abbrev Bj:=Tryz.sizeOf209
abbrev MX:=Tryz.sizeOf25
abbrev IC:=Tryz.sizeOf251
abbrev Xu:=Tryz.sizeOf255
abbrev Vk:=Tryz.sizeOf256
abbrev ID:=Tryz.sizeOf267
abbrev RC:=Tryz.sizeOf28
abbrev S3:=Tryz.sizeOf3
abbrev jU:=Tryz.sizeOf33
abbrev PL:=Tryz.sizeOf37
abbrev xC:=Tryz.sizeOf38
abbrev S4:=Tryz.sizeOf4
abbrev AL:=Tryz.sizeOf40
abbrev AM:=Tryz.sizeOf43
abbrev S5:=Tryz.sizeOf5
abbrev Hh:=Tryz.sizeOf55
abbrev Js:=Tryz.sizeOf57
abbrev Hi:=Tryz.sizeOf58
abbrev RU:=Tryz.sizeOf59
abbrev xX:=Tryz.sizeOf61
abbrev Xv:=Tryz.sizeOf62
abbrev DG:=Tryz.sizeOf63
abbrev Ik:=Tryz.sizeOf65
abbrev xY:=Tryz.sizeOf66
abbrev MY:=Tryz.sizeOf68
abbrev DQ:=Tryz.sizeOf70
abbrev RD:=Tryz.sizeOf72
abbrev IE:=Tryz.sizeOf73
abbrev vY:=Tryz.sizeOf86
abbrev MZ:=Tryz.sizeOf94
abbrev vH:=Tryz.runUnderlying115
abbrev Mp:=Tryz.runUnderlying124
abbrev tV:=Tryz.runUnderlying129
abbrev OL:=Tryz.runUnderlying133
abbrev sG:=Tryz.runUnderlying136
abbrev IF:=Tryz.runUnderlying141
abbrev Vl:=Tryz.runUnderlying168
abbrev Xw:=Tryz.runUnderlying175
abbrev DH:=Tryz.runUnderlying205
abbrev OM:=Tryz.runUnderlying209
abbrev SP:=Tryz.runUnderlying23
abbrev ON:=Tryz.runUnderlying230
abbrev OO:=Tryz.runUnderlying232
abbrev OP:=Tryz.runUnderlying234
abbrev OQ:=Tryz.runUnderlying239
abbrev ME:=Tryz.runUnderlying249
abbrev Mq:=Tryz.runUnderlying25
abbrev Rv:=Tryz.runUnderlying256
abbrev MF:=Tryz.runUnderlying269
abbrev U3:=Tryz.runUnderlying3
abbrev vI:=Tryz.runUnderlying33
abbrev DR:=Tryz.runUnderlying37
abbrev Il:=Tryz.runUnderlying38
abbrev Xx:=Tryz.runUnderlying40
abbrev OR:=Tryz.runUnderlying43
abbrev AN:=Tryz.runUnderlying45
abbrev U5:=Tryz.runUnderlying5
abbrev Dy:=Tryz.runUnderlying57
abbrev xD:=Tryz.runUnderlying58
abbrev DI:=Tryz.runUnderlying59
abbrev PM:=Tryz.runUnderlying61
abbrev OS:=Tryz.runUnderlying62
abbrev JD:=Tryz.runUnderlying63
abbrev DJ:=Tryz.runUnderlying65
abbrev xE:=Tryz.runUnderlying66
abbrev uS:=Tryz.runUnderlying68
abbrev IG:=Tryz.runUnderlying72
abbrev Im:=Tryz.runUnderlying73
abbrev Rw:=Tryz.runUnderlying75
abbrev DS:=Tryz.runUnderlying86
abbrev Dz:=Tryz.zeroValue124
abbrev Bk:=Tryz.zeroValue129
abbrev DK:=Tryz.zeroValue141
abbrev Nu:=Tryz.zeroValue175
abbrev Mr:=Tryz.zeroValue209
abbrev OT:=Tryz.zeroValue251
abbrev OU:=Tryz.zeroValue256
abbrev Z3:=Tryz.zeroValue3
abbrev Bc:=Tryz.zeroValue33
abbrev RE:=Tryz.zeroValue38
abbrev PN:=Tryz.zeroValue40
abbrev Z5:=Tryz.zeroValue5
abbrev OV:=Tryz.zeroValue61
abbrev RW:=Tryz.zeroValue65
abbrev MG:=Tryz.zeroValue86
abbrev RF:=Tryz.zeroValue94
abbrev iI(i:Nat)(ia:Option Nat)(p:Nat)(pa:Option Nat)(q:Nat)(qa:Option Nat)(x y z u:Nat)(b0 b1 b2 b3:Int)(b4:List aQ)(b5:Int×List (Int×aQ)×List (Int×List (Int×aQ))×Bool)(b6:List (Int×List aQ))(b7:Int)(b8:Int×Int×List (Int×List Int×List aQ))(b9 b10:Int)(b11:List Int)(b12 b13 b14 b15:Int)(b16:Int×Int)(b17:List (Bool×Bool×List Int))(b18:Int)(b19:List aQ×List (Int×aQ)×Int)(b20:Int)(b21:List aQ×List (Int×aQ)×Int):List (Nat×Ent):=
 [(i,.box 75 [.v Q0 b0,.ptr p 0,.v Q0 b1,.v Q0 b2,.v Q0 b3,.ref x,.v Jq b5,.ref y,.v Q0 b7,.v Ml b8,.v Q0 b9,.v Q0 b10,.ref z,.ptr q 0,.v Q0 b12,.v Q0 b13,.v Q0 b14,.v Q0 b15,.v (Enc.pr Q0 Q0) b16,.ref u] ia),(p,.box 115 [.v Q0 b18,.v Q2 b19] pa),(q,.box 115 [.v Q0 b20,.v Q2 b21] qa),(x,.arr 33 aN b4),(y,.mp Q0 Q7 b6),(z,.arr 3 Q0 b11),(u,.arr 141 (Enc.pr Enc.bool (Enc.pr Enc.bool (Enc.sl (Enc.int .u8)))) b17)]
instance:fT Tryz.prog:=⟨_,(.c Xt (.c tU (.c IA (.c Mm (.c Tryz.isAgg204 (.c Vi (.c Tryz.isAgg224 (.c Tryz.isAgg236 (.c Tryz.isAgg239 (.c Tryz.isAgg249 (.c Tryz.isAgg255 (.c IB (.c Tryz.isAgg267 (.c Tryz.isAgg28 (.c G3 (.c sT (.c RT (.c Sd (.c Tryz.isAgg4 (.c MV (.c QZ (.c G5 (.c Mn (.c DP (.c Tryz.isAgg59 (.c Dx (.c MW (.c PK (.c Vu (.c Ru (.c OG (.c RA (.c Dv (.c Tryz.isAgg94 .n)))))))))))))))))))))))))))))))))),_,(.c jE (.c kU (.c Vj (.c uE (.c Tryz.sizeOf204 (.c Bj (.c Tryz.sizeOf224 (.c Tryz.sizeOf236 (.c Tryz.sizeOf239 (.c Tryz.sizeOf249 (.c MX (.c IC (.c Xu (.c Vk (.c ID (.c RC (.c S3 (.c jU (.c PL (.c xC (.c S4 (.c AL (.c AM (.c S5 (.c Hh (.c Js (.c Hi (.c RU (.c xX (.c Xv (.c DG (.c Ik (.c xY (.c MY (.c DQ (.c RD (.c IE (.c vY (.c MZ .n))))))))))))))))))))))))))))))))))))))),_,(.c vH (.c Mp (.c tV (.c OL (.c sG (.c IF (.c Vl (.c Xw (.c Tryz.runUnderlying193 (.c Tryz.runUnderlying199 (.c DH (.c OM (.c Tryz.runUnderlying22 (.c SP (.c ON (.c OO (.c OP (.c Tryz.runUnderlying242 (.c ME (.c Mq (.c Tryz.runUnderlying251 (.c Tryz.runUnderlying255 (.c Rv (.c MF (.c Tryz.runUnderlying28 (.c U3 (.c DR (.c Il (.c Xx (.c OR (.c AN (.c U5 (.c Dy (.c xD (.c DI (.c PM (.c JD (.c DJ (.c xE (.c uS (.c Tryz.runUnderlying70 (.c IG (.c Im (.c Rw (.c DS .n))))))))))))))))))))))))))))))))))))))))))))),ET⟩
theorem mixed:Tryz.prog.follows .mixedOrders=true:=Tryz.checked.mixed
theorem Nv:EqE 2 Tryz.prog 33 aN:=EqE.arr vI S5 G5 (EqE.int Tryz.underlying5)
theorem RG:EqE 2 Tryz.prog 239 (Enc.arr 4 (Enc.int .u8)):=EqE.arr OQ S5 G5 (EqE.int Tryz.underlying5)
theorem AO:KeyE 2 Tryz.prog 33 aN:=KeyE.arr vI S5 G5 (KeyE.int U5)
theorem MH:∀parts,Tryz.prog.built 40 parts=Instr.fill (([(0,1),(1,8),(9,1),(10,1),(11,1),(12,1)]:List (Nat×Nat)).toArray[·]?) ([.int .i64 0,.int .u8 0,.int .u8 0,.int .u8 0,.int .u8 0,.int .u8 0,.int .u8 0,.int .u8 0,.int .u8 0,.int .i64 0,.int .i64 0,.int .i64 0,.slice none 0 0]:List Value).toArray parts:=cP Tryz.typeInfo40 Xx rfl rfl (.cons rfl (by kernel_rfl) (by kernel_rfl) (.cons rfl (by kernel_rfl) (by kernel_rfl) (.cons rfl (by kernel_rfl) (by kernel_rfl) (.cons rfl (by kernel_rfl) (by kernel_rfl) (.cons rfl (by kernel_rfl) (by kernel_rfl) (.cons rfl (by kernel_rfl) (by kernel_rfl) .nil))))))
theorem MI:∀parts,Tryz.prog.built 45 parts=Instr.fill (([(0,1),(1,1)]:List (Nat×Nat)).toArray[·]?) ([.slice none 0 0,.slice none 0 0]:List Value).toArray parts:=cP Tryz.typeInfo45 AN rfl rfl (.cons rfl (by kernel_rfl) (by kernel_rfl) (.cons rfl (by kernel_rfl) (by kernel_rfl) .nil))
theorem Kj:∀parts,Tryz.prog.built 57 parts=Instr.fill (([(0,1),(1,1),(2,1),(3,1)]:List (Nat×Nat)).toArray[·]?) ([.pointer none,.int .i64 0,.int .i64 0,.int .i64 0]:List Value).toArray parts:=cP Tryz.typeInfo57 Dy rfl rfl (.cons rfl (by kernel_rfl) (by kernel_rfl) (.cons rfl (by kernel_rfl) (by kernel_rfl) (.cons rfl (by kernel_rfl) (by kernel_rfl) (.cons rfl (by kernel_rfl) (by kernel_rfl) .nil))))
theorem xZ:∀parts,Tryz.prog.built 61 parts=Instr.fill (([(0,1),(1,1),(2,1),(3,1)]:List (Nat×Nat)).toArray[·]?) ([.int .i64 0,.slice none 0 0,.slice none 0 0,.bool false]:List Value).toArray parts:=cP Tryz.typeInfo61 PM rfl rfl (.cons rfl (by kernel_rfl) (by kernel_rfl) (.cons rfl (by kernel_rfl) (by kernel_rfl) (.cons rfl (by kernel_rfl) (by kernel_rfl) (.cons rfl (by kernel_rfl) (by kernel_rfl) .nil))))
theorem Dw:∀parts,Tryz.prog.built 65 parts=Instr.fill (([(0,1),(1,1),(2,1)]:List (Nat×Nat)).toArray[·]?) ([.int .i64 0,.int .i64 0,.slice none 0 0]:List Value).toArray parts:=cP Tryz.typeInfo65 DJ rfl rfl (.cons rfl (by kernel_rfl) (by kernel_rfl) (.cons rfl (by kernel_rfl) (by kernel_rfl) (.cons rfl (by kernel_rfl) (by kernel_rfl) .nil)))
theorem AP:∀parts,Tryz.prog.built 68 parts=Instr.fill (([(0,4),(4,1),(5,4),(9,1),(10,1),(11,3),(14,1),(15,1),(16,1)]:List (Nat×Nat)).toArray[·]?) ([.pointer none,.int .i64 0,.int .i64 0,.int .i64 0,.slice none 0 0,.int .i64 0,.slice none 0 0,.slice none 0 0,.bool false,.map none,.int .i64 0,.int .i64 0,.int .i64 0,.slice none 0 0,.int .i64 0,.int .i64 0,.slice none 0 0]:List Value).toArray parts:=cP Tryz.typeInfo68 uS rfl rfl (.cons rfl (by kernel_rfl) (by kernel_rfl) (.cons rfl (by kernel_rfl) (by kernel_rfl) (.cons rfl (by kernel_rfl) (by kernel_rfl) (.cons rfl (by kernel_rfl) (by kernel_rfl) (.cons rfl (by kernel_rfl) (by kernel_rfl) (.cons rfl (by kernel_rfl) (by kernel_rfl) (.cons rfl (by kernel_rfl) (by kernel_rfl) (.cons rfl (by kernel_rfl) (by kernel_rfl) (.cons rfl (by kernel_rfl) (by kernel_rfl) .nil)))))))))
theorem Kk:∀parts,Tryz.prog.built 70 parts=Instr.fill (([(0,1),(1,1)]:List (Nat×Nat)).toArray[·]?) ([.int .i64 0,.int .i64 0]:List Value).toArray parts:=cP Tryz.typeInfo70 Tryz.runUnderlying70 rfl rfl (.cons rfl (by kernel_rfl) (by kernel_rfl) (.cons rfl (by kernel_rfl) (by kernel_rfl) .nil))
theorem AR:∀parts,Tryz.prog.built 72 parts=Instr.fill (([(0,4),(4,1),(5,2)]:List (Nat×Nat)).toArray[·]?) ([.pointer none,.int .i64 0,.int .i64 0,.int .i64 0,.int .i64 0,.int .i64 0,.int .i64 0]:List Value).toArray parts:=cP Tryz.typeInfo72 IG rfl rfl (.cons rfl (by kernel_rfl) (by kernel_rfl) (.cons rfl (by kernel_rfl) (by kernel_rfl) (.cons rfl (by kernel_rfl) (by kernel_rfl) .nil)))
theorem MJ:∀parts,Tryz.prog.built 75 parts=Instr.fill (([(0,1),(1,17),(18,7),(25,1)]:List (Nat×Nat)).toArray[·]?) ([.int .i64 0,.pointer none,.int .i64 0,.int .i64 0,.int .i64 0,.slice none 0 0,.int .i64 0,.slice none 0 0,.slice none 0 0,.bool false,.map none,.int .i64 0,.int .i64 0,.int .i64 0,.slice none 0 0,.int .i64 0,.int .i64 0,.slice none 0 0,.pointer none,.int .i64 0,.int .i64 0,.int .i64 0,.int .i64 0,.int .i64 0,.int .i64 0,.slice none 0 0]:List Value).toArray parts:=cP Tryz.typeInfo75 Rw rfl rfl (.cons rfl (by kernel_rfl) (by kernel_rfl) (.cons rfl (by kernel_rfl) (by kernel_rfl) (.cons rfl (by kernel_rfl) (by kernel_rfl) (.cons rfl (by kernel_rfl) (by kernel_rfl) .nil))))
theorem tL:∀parts,Tryz.prog.built 86 parts=Instr.fill (([(0,1),(1,1),(2,1)]:List (Nat×Nat)).toArray[·]?) ([.slice none 0 0,.slice none 0 0,.int .i64 0]:List Value).toArray parts:=cP Tryz.typeInfo86 DS rfl rfl (.cons rfl (by kernel_rfl) (by kernel_rfl) (.cons rfl (by kernel_rfl) (by kernel_rfl) (.cons rfl (by kernel_rfl) (by kernel_rfl) .nil)))
theorem IH:∀parts,Tryz.prog.built 115 parts=Instr.fill (([(0,1),(1,3)]:List (Nat×Nat)).toArray[·]?) ([.int .i64 0,.slice none 0 0,.slice none 0 0,.int .i64 0]:List Value).toArray parts:=cP Tryz.typeInfo115 vH rfl rfl (.cons rfl (by kernel_rfl) (by kernel_rfl) (.cons rfl (by kernel_rfl) (by kernel_rfl) .nil))
theorem vA:∀parts,Tryz.prog.built 124 parts=Instr.fill (([(0,1),(1,8)]:List (Nat×Nat)).toArray[·]?) ([.int .i64 0,.int .u8 0,.int .u8 0,.int .u8 0,.int .u8 0,.int .u8 0,.int .u8 0,.int .u8 0,.int .u8 0]:List Value).toArray parts:=cP Jr Mp rfl rfl (.cons rfl (by kernel_rfl) (by kernel_rfl) (.cons rfl (by kernel_rfl) (by kernel_rfl) .nil))
theorem lH:∀parts,Tryz.prog.built 129 parts=Instr.fill (([(0,1),(1,1),(2,1)]:List (Nat×Nat)).toArray[·]?) ([.int .i64 0,.slice none 0 0,.slice none 0 0]:List Value).toArray parts:=cP OH tV rfl rfl (.cons rfl (by kernel_rfl) (by kernel_rfl) (.cons rfl (by kernel_rfl) (by kernel_rfl) (.cons rfl (by kernel_rfl) (by kernel_rfl) .nil)))
theorem Vm:∀parts,Tryz.prog.built 141 parts=Instr.fill (([(0,1),(1,1),(2,1)]:List (Nat×Nat)).toArray[·]?) ([.bool false,.bool false,.slice none 0 0]:List Value).toArray parts:=cP MD IF rfl rfl (.cons rfl (by kernel_rfl) (by kernel_rfl) (.cons rfl (by kernel_rfl) (by kernel_rfl) (.cons rfl (by kernel_rfl) (by kernel_rfl) .nil)))
theorem Cp:∀parts,Tryz.prog.built 175 parts=Instr.fill (([(0,1),(1,1)]:List (Nat×Nat)).toArray[·]?) ([.int .i64 0,.slice none 0 0]:List Value).toArray parts:=cP OI Xw rfl rfl (.cons rfl (by kernel_rfl) (by kernel_rfl) (.cons rfl (by kernel_rfl) (by kernel_rfl) .nil))
theorem Cq:∀parts,Tryz.prog.built 209 parts=Instr.fill (([(0,1),(1,1),(2,1),(3,8)]:List (Nat×Nat)).toArray[·]?) ([.int .i64 0,.int .i64 0,.int .i64 0,.int .u8 0,.int .u8 0,.int .u8 0,.int .u8 0,.int .u8 0,.int .u8 0,.int .u8 0,.int .u8 0]:List Value).toArray parts:=cP OJ OM rfl rfl (.cons rfl (by kernel_rfl) (by kernel_rfl) (.cons rfl (by kernel_rfl) (by kernel_rfl) (.cons rfl (by kernel_rfl) (by kernel_rfl) (.cons rfl (by kernel_rfl) (by kernel_rfl) .nil))))
theorem II:∀parts,Tryz.prog.built 228 parts=Instr.fill (([]:List (Nat×Nat)).toArray[·]?) ([]:List Value).toArray parts:=cP Tryz.typeInfo228 Tryz.runUnderlying228 rfl rfl .nil
theorem IJ:∀parts,Tryz.prog.built 230 parts=Instr.fill (([(0,1)]:List (Nat×Nat)).toArray[·]?) ([.pointer none]:List Value).toArray parts:=cP Tryz.typeInfo230 ON rfl rfl (.cons rfl (by kernel_rfl) (by kernel_rfl) .nil)
theorem IK:∀parts,Tryz.prog.built 232 parts=Instr.fill (([(0,1)]:List (Nat×Nat)).toArray[·]?) ([.slice none 0 0]:List Value).toArray parts:=cP Tryz.typeInfo232 OO rfl rfl (.cons rfl (by kernel_rfl) (by kernel_rfl) .nil)
theorem IL:∀parts,Tryz.prog.built 233 parts=Instr.fill (([]:List (Nat×Nat)).toArray[·]?) ([]:List Value).toArray parts:=cP Tryz.typeInfo233 Tryz.runUnderlying233 rfl rfl .nil
theorem IM:∀parts,Tryz.prog.built 242 parts=Instr.fill (([(0,1)]:List (Nat×Nat)).toArray[·]?) ([.slice none 0 0]:List Value).toArray parts:=cP Tryz.typeInfo242 Tryz.runUnderlying242 rfl rfl (.cons rfl (by kernel_rfl) (by kernel_rfl) .nil)
theorem Vn:∀parts,Tryz.prog.built 251 parts=Instr.fill (([(0,1)]:List (Nat×Nat)).toArray[·]?) ([.slice none 0 0]:List Value).toArray parts:=cP Tryz.typeInfo251 Tryz.runUnderlying251 rfl rfl (.cons rfl (by kernel_rfl) (by kernel_rfl) .nil)
theorem IN:∀parts,Tryz.prog.built 269 parts=Instr.fill (([(0,1),(1,1)]:List (Nat×Nat)).toArray[·]?) ([.slice none 0 0,.map none]:List Value).toArray parts:=cP Tryz.typeInfo269 MF rfl rfl (.cons rfl (by kernel_rfl) (by kernel_rfl) (.cons rfl (by kernel_rfl) (by kernel_rfl) .nil))
section AsPart
open Go.RowKit Go.Extern.Stop Go.Stop Go.Extern
theorem OW(t:Value)(w:World):Calls Tryz.prog 18 #[.nilIface,t] w fun e w'=>e= .returned (.bool false)/\w'=w:=by
 go_enter Tryz.func18,Tryz.ntmps18
 go_wp2
 go_ret
 exact⟨Y,Y⟩
theorem Vo(t:Addr)(w:World):(ReflectliteValue.unpack (.iface 83 (.pointer (some t)))).run Tryz.prog w
  = .ok (.agg #[.pointer (some ⟨1,83,none⟩),.pointer (some ⟨w.heap.size,0,none⟩),.int .u64 150]) (w.alloc (.cells #[.pointer (some t)] 83)):=by kernel_rfl
theorem IP(a:Addr)(w:World):(ReflectliteValue.methodAny (ReflectliteValue.valueError "reflectlite.Value.Type" 0) (fun t _ _ _=>ReflectliteType.toType t) #[.agg #[.pointer (some ⟨1,83,none⟩),.pointer (some a),.int .u64 150]]).run Tryz.prog w
  = .ok (.iface 148 (.agg #[.pointer (some ⟨1,83,none⟩)])) w:=by kernel_rfl
theorem Nw(h:Value)(w:World):(Go.method 414 148 (.agg #[h]) "Kind").run Tryz.prog w= .ok (171,h) w:=by kernel_rfl
theorem IS(w:World):((ReflectliteType.abiMethod fun t=>(fun a:Nat=>Value.int IntKind.u8 (a:Int)) <$> Rtype.kind t) #[.pointer (some ⟨1,83,none⟩)]).run Tryz.prog w= .ok (.int .u8 22) w:=by kernel_rfl
theorem IT(w:World):((ReflectliteType.abiMethod fun t=>(fun a:Nat=>Value.int IntKind.u8 (a:Int)) <$> Rtype.kind t) #[.pointer (some ⟨1,28,none⟩)]).run Tryz.prog w= .ok (.int .u8 2) w:=by kernel_rfl
theorem IU(z:Sem Value)(f:TypeId->Addr->Nat->Nat->Sem Value)(v:Value):
  ReflectliteValue.method z f #[v]=(do match<-ReflectliteValue.parts v with | none=>z | some (t,a,fl)=>f t a fl (fl % 32)):=rfl
theorem Qa(a:Addr)(w:World):(ReflectliteValue.parts (.agg #[.pointer (some ⟨1,83,none⟩),.pointer (some a),.int .u64 150])).run Tryz.prog w= .ok (some (83,a,150)) w:=by kernel_rfl
theorem DL(a p:Addr)(W:World)(ha:W.cell? a=some (.pointer (some p))):
  (ReflectliteValue.method (ReflectliteValue.valueError "reflectlite.Value.IsNil" 0) ReflectliteValue.isNil #[.agg #[.pointer (some ⟨1,83,none⟩),.pointer (some a),.int .u64 150]]).run Tryz.prog W= .ok (.bool false) W:=by
 rw[IU];simp only[Sem.run_bind,Qa,Result.andThen];simp[ReflectliteValue.isNil,loadVar,isAgg,underlying,Tryz.underlying83,ha,Result.andThen]
theorem Nx(h:Value)(w:World):(Go.method 414 148 (.agg #[h]) "Elem").run Tryz.prog w= .ok (181,.agg #[h]) w:=by kernel_rfl
theorem Ea(h:Value)(w:World):(Go.method 414 148 (.agg #[h]) "Implements").run Tryz.prog w= .ok (182,.agg #[h]) w:=by kernel_rfl
theorem Bl(h:Value)(w:World):(Go.method 414 148 (.agg #[h]) "AssignableTo").run Tryz.prog w= .ok (179,.agg #[h]) w:=by kernel_rfl
theorem IV(w:World):(ReflectliteType.method ReflectliteType.elem #[.agg #[.pointer (some ⟨1,83,none⟩)]]).run Tryz.prog w= .ok (.iface 148 (.agg #[.pointer (some ⟨1,28,none⟩)])) w:=by kernel_rfl
theorem Ms(w:World):(ReflectliteType.relation "Implements" ReflectliteType.implements_ #[.agg #[.pointer (some ⟨1,28,none⟩)],.iface 148 (.agg #[.pointer (some ⟨1,25,none⟩)])]).run Tryz.prog w= .ok (.bool true) w:=by kernel_rfl
theorem Xy(v:Value)(w:World):(ReflectliteType.typeOf #[.iface 28 v]).run Tryz.prog w= .ok (.iface 148 (.agg #[.pointer (some ⟨1,28,none⟩)])) w:=by kernel_rfl
theorem Mt(w:World):(ReflectliteType.relation "AssignableTo" ReflectliteType.assignableTo #[.agg #[.pointer (some ⟨1,28,none⟩)],.iface 148 (.agg #[.pointer (some ⟨1,28,none⟩)])]).run Tryz.prog w= .ok (.bool true) w:=by kernel_rfl
theorem Vp(n:Int)(w:World):(ReflectliteValue.unpack (.iface 28 (.int .i64 n))).run Tryz.prog w
  = .ok (.agg #[.pointer (some ⟨1,28,none⟩),.pointer (some ⟨w.heap.size,0,none⟩),.int .u64 130]) (w.alloc (.cells #[.int .i64 n] 28)):=by kernel_rfl
theorem Xz(w:World):(Rtype.elem? 83).run Tryz.prog w= .ok (some 28) w:=by kernel_rfl
theorem OX(p:Addr)(w:World):(ReflectliteValue.mk 28 p ReflectliteValue.flagAddr).run Tryz.prog w= .ok (.agg #[.pointer (some ⟨1,28,none⟩),.pointer (some p),.int .u64 386]) w:=by kernel_rfl
theorem DM(a p:Addr)(W:World)(ha:W.cell? a=some (.pointer (some p))):
  (ReflectliteValue.method (ReflectliteValue.valueError "reflectlite.Value.Elem" 0) ReflectliteValue.elem #[.agg #[.pointer (some ⟨1,83,none⟩),.pointer (some a),.int .u64 150]]).run Tryz.prog W
   = .ok (.agg #[.pointer (some ⟨1,28,none⟩),.pointer (some p),.int .u64 386]) W:=by
 rw[IU];simp only[Sem.run_bind,Qa,Result.andThen];simp[ReflectliteValue.elem,loadVar,isAgg,underlying,Tryz.underlying83,ha,Result.andThen,Xz,OX]
theorem OY(v x:Value):ReflectliteValue.set #[v,x]=(do
  let (some (dst,a,fl),some (src,b,_)):=(<-ReflectliteValue.parts v,<-ReflectliteValue.parts x)
   |unsupported (.noEntry "extern/(internal/reflectlite.Value).Set.zeroValue")
  if fl / ReflectliteValue.flagAddr % 2==0 then unsupported (.noEntry "extern/(internal/reflectlite.Value).Set.unaddressable")
  let val<-loadVar src b
  if<-Rtype.directlyAssignable dst src then storeVar dst a val
  else if<-Rtype.implements dst src then
   if (<-Rtype.kind src)==20 then
    match val with
    | .nilIface=>unsupported (.noEntry "extern/reflectlite: a nil value of one interface type handed on as a value of another")
    |_=>storeVar dst a val
   else storeVar dst a (.iface src val)
  else panicString ("reflectlite.Set: value of type "++(<-Rtype.spelt src)++ " is not assignable to type "++(<-Rtype.spelt dst))
  pure (.tuple #[])):=rfl
theorem Ya(a:Addr)(w:World):(ReflectliteValue.parts (.agg #[.pointer (some ⟨1,28,none⟩),.pointer (some a),.int .u64 386])).run Tryz.prog w= .ok (some (28,a,386)) w:=by kernel_rfl
theorem DN(a:Addr)(w:World):(ReflectliteValue.parts (.agg #[.pointer (some ⟨1,28,none⟩),.pointer (some a),.int .u64 130])).run Tryz.prog w= .ok (some (28,a,130)) w:=by kernel_rfl
theorem Yb(w:World):(Rtype.directlyAssignable 28 28).run Tryz.prog w= .ok true w:=by kernel_rfl
theorem MK(ta b:Addr)(n:Int)(old:Value)(W:World)(hb:W.cell? b=some (.int .i64 n))(ht:W.cell? ta=some old)(hf:W.frozen? ta=false):
  (ReflectliteValue.set #[.agg #[.pointer (some ⟨1,28,none⟩),.pointer (some ta),.int .u64 386],.agg #[.pointer (some ⟨1,28,none⟩),.pointer (some b),.int .u64 130]]).run Tryz.prog W
   = .ok (.tuple #[]) (W.setCell ta (.int .i64 n)):=by
 rw[OY];simp only[Sem.run_bind,Ya,DN,Result.andThen];simp[ReflectliteValue.flagAddr,loadVar,isAgg,underlying,Tryz.underlying28,hb,Result.andThen,Yb,storeVar,Value.cells,storeCells,Addr.add];rw[run_store Tryz.prog W ta _ _ (by rfl)];simp[ht,hf]
set_option maxHeartbeats 4000000 in
theorem OZ(n:Int)(t:Addr)(old:Value)(w:World)(hg:w.cell? ⟨0,0,none⟩=some (.iface 148 (.agg #[.pointer (some ⟨1,25,none⟩)])))(ht0:w.cell? t=some old)(hf0:w.frozen? t=false):
  Calls Tryz.prog 18 #[.iface 28 (.int .i64 n),.iface 83 (.pointer (some t))] w fun ev w'=>ev= .returned (.bool true)/\w'=((((w.alloc (.cells #[.pointer (some t)] 83)).alloc (.cells #[.pointer (some ⟨1,83,none⟩),.pointer (some ⟨w.heap.size,0,none⟩),.int .u64 150] 101)).alloc (.cells #[.pointer (some ⟨1,83,none⟩),.pointer (some ⟨w.heap.size,0,none⟩),.int .u64 150] 101)).alloc (.cells #[.int .i64 n] 28)).setCell t (.int .i64 n):=by
 have C:= @run_callFunc_extern Tryz.prog 45 _ (fun A=>ReflectliteValue.unpack (A.getD 0 (.tuple #[]))) Tryz.func45 (by kernel_rfl) (by kernel_rfl) (by kernel_rfl) (by kernel_rfl);have D:= @run_callFunc_extern Tryz.prog 46 _ (ReflectliteValue.methodAny (ReflectliteValue.valueError "reflectlite.Value.Type" 0) (fun t _ _ _=>ReflectliteType.toType t)) Tryz.func46 (by kernel_rfl) (by kernel_rfl) (by kernel_rfl) (by kernel_rfl);have E:= @run_callFunc_extern Tryz.prog 47 _ (ReflectliteValue.method (ReflectliteValue.valueError "reflectlite.Value.IsNil" 0) ReflectliteValue.isNil) Tryz.func47 (by kernel_rfl) (by kernel_rfl) (by kernel_rfl) (by kernel_rfl);have F:= @run_callFunc_extern Tryz.prog 171 _ (ReflectliteType.abiMethod fun t=>do pure (.int .u8 (<-Rtype.kind t))) Tryz.func171 (by kernel_rfl) (by kernel_rfl) (by kernel_rfl) (by kernel_rfl);have G:= @run_callFunc_extern Tryz.prog 181 _ (ReflectliteType.method ReflectliteType.elem) Tryz.func181 (by kernel_rfl) (by kernel_rfl) (by kernel_rfl) (by kernel_rfl);have H:= @run_callFunc_extern Tryz.prog 182 _ (ReflectliteType.relation "Implements" ReflectliteType.implements_) Tryz.func182 (by kernel_rfl) (by kernel_rfl) (by kernel_rfl) (by kernel_rfl);have I:= @run_callFunc_extern Tryz.prog 71 _ ReflectliteType.typeOf Tryz.func71 (by kernel_rfl) (by kernel_rfl) (by kernel_rfl) (by kernel_rfl);have K:= @run_callFunc_extern Tryz.prog 179 _ (ReflectliteType.relation "AssignableTo" ReflectliteType.assignableTo) Tryz.func179 (by kernel_rfl) (by kernel_rfl) (by kernel_rfl) (by kernel_rfl);have L:= @run_callFunc_extern Tryz.prog 72 _ (ReflectliteValue.method (ReflectliteValue.valueError "reflectlite.Value.Elem" 0) ReflectliteValue.elem) Tryz.func72 (by kernel_rfl) (by kernel_rfl) (by kernel_rfl) (by kernel_rfl);have M:= @run_callFunc_extern Tryz.prog 73 _ ReflectliteValue.set Tryz.func73 (by kernel_rfl) (by kernel_rfl) (by kernel_rfl) (by kernel_rfl);have N:=Xy;have O:=Bl;have P:=Mt;have Q:=Vp;have R:=Vo;have S:=IP;have T:=Nw;have U:=Nx;have V:=Ea;have X:=IS;have aa:=IT;have ab:=IV;have ac:=Ms;have n8:=DL ⟨w.heap.size,0,none⟩ t ((w.alloc (.cells #[.pointer (some t)] 83)).alloc (.cells #[.pointer (some ⟨1,83,none⟩),.pointer (some ⟨w.heap.size,0,none⟩),.int .u64 150] 101)) (by simp);have z:0<w.heap.size:=by
  rcases aEh w.heap.size with B | h
  ·simp[World.cell?,B] at hg
  ·exact h
 have ad:((w.alloc (.cells #[.pointer (some t)] 83)).alloc (.cells #[.pointer (some ⟨1,83,none⟩),.pointer (some ⟨w.heap.size,0,none⟩),.int .u64 150] 101)).cell? ⟨0,0,none⟩=some (.iface 148 (.agg #[.pointer (some ⟨1,25,none⟩)])):=by
  rw[World.cell?_alloc_lt _ _ ⟨0,0,none⟩ (by simp),World.cell?_alloc_lt _ _ ⟨0,0,none⟩ z];exact hg
 have u:t.block<w.heap.size:=by
  rcases aBc t.block w.heap.size with h | h
  ·exact h
  ·simp[World.cell?,aBv h] at ht0
 have el:=DM ⟨w.heap.size,0,none⟩ t (((w.alloc (.cells #[.pointer (some t)] 83)).alloc (.cells #[.pointer (some ⟨1,83,none⟩),.pointer (some ⟨w.heap.size,0,none⟩),.int .u64 150] 101)).alloc (.cells #[.pointer (some ⟨1,83,none⟩),.pointer (some ⟨w.heap.size,0,none⟩),.int .u64 150] 101)) (by rw[World.cell?_alloc_lt _ _ ⟨w.heap.size,0,none⟩ (by simp;omega)];simp);have st:=MK t ⟨w.heap.size+1+1+1,0,none⟩ n old ((((w.alloc (.cells #[.pointer (some t)] 83)).alloc (.cells #[.pointer (some ⟨1,83,none⟩),.pointer (some ⟨w.heap.size,0,none⟩),.int .u64 150] 101)).alloc (.cells #[.pointer (some ⟨1,83,none⟩),.pointer (some ⟨w.heap.size,0,none⟩),.int .u64 150] 101)).alloc (.cells #[.int .i64 n] 28))
  (by rw[World.cell?_alloc_at _ _ _ _ (by simp)];rfl)
  (by rw[World.cell?_alloc_lt _ _ t (by simp;omega),World.cell?_alloc_lt _ _ t (by simp;omega),World.cell?_alloc_lt _ _ t (by simp;omega),World.cell?_alloc_lt _ _ t u];exact ht0)
  (by rw[World.frozen?_alloc_old _ _ t (by simp;omega),World.frozen?_alloc_old _ _ t (by simp;omega),World.frozen?_alloc_old _ _ t (by simp;omega),World.frozen?_alloc_old _ _ t (Nat.ne_of_lt u)];exact hf0)
 go_enter Tryz.func18,Tryz.ntmps18
 go_wp2
 refine wp_loop_rounds 1 ?_;rw[rounds_succ]
 go_wp2
 go_ret
 exact⟨Y,Y⟩
end AsPart
def GV:Value:= .iface 148 (.agg #[.pointer (some ⟨1,25,none⟩)])
variable {gobj:Obj}
theorem ML(n:Int)(t:Addr)(old:Value)(w:World)(hg:w.cell? ⟨0,0,none⟩=some GV)(ht0:w.cell? t=some old)(hf0:w.frozen? t=false):
  Calls Tryz.prog 18 #[.iface 28 (.int .i64 n),.iface 83 (.pointer (some t))] w fun ev w'=>ev= .returned (.bool true)/\∃o1 o2 o3 o4,w'=((((w.alloc o1).alloc o2).alloc o3).alloc o4).setCell t (.int .i64 n):=
 (OZ n t old w hg ht0 hf0).mono fun _ _ h=>⟨h.1,_,_,_,_,h.2⟩
theorem Cr{a0 r}(h:qS a0=some r):
 Con Tryz.prog 49 [.v Q0 a0] (.tup [.v Q0 r.1,.v Q8 r.2]) []:=by
 refine Con.of Tryz.func49 Y Tryz.ntmps49 Y ?_;intro S w z;unfold qS at h;refine aL [0] ?_;refine aF ?_;refine aF ?_;obtain⟨C,u,h⟩:=aB h;refine dL (σ':=⟨[(0,.v Q0 a0),(9,.v Enc.bool C)],[]⟩) ?_ ?_
 ·refine cd u (fun A u=>?_) (fun A u=>?_)
  ·cases u;exact jy
  cases u;exact jy
 refine aT h Y (fun B h=>?_) (fun B h=>?_)
 ·refine aL [2,3] ?_;cases h;exact aG (bD z dD Y (RV.tmp Y) (RV.tmp Y) .nil Y)
 refine aH ?_;refine aL [2,3] ?_;cases h;exact aG (bD z dD Y (RV.tmp Y) (RV.tmp Y) .nil Y)
theorem Rx{a0 r}(h:wN a0=some r):
 Con Tryz.prog 50 [.v Q0 a0] (.tup [.v Q2 r.1,.v Q8 r.2]) []:=by
 refine Con.of Tryz.func50 Y Tryz.ntmps50 Y ?_;intro S w z;unfold wN at h;refine aJ (.k (aM 101 MG Y (.cons (Z.sl aN) (.cons (Z.sl Q5) (.cons (Z.int .i64) .nil))) Y) (.f [0,2] ?_));refine aF ?_;refine aF ?_;obtain⟨C,u,h⟩:=aB h;refine dL (σ':=⟨[(0,.v Q0 a0),(2,.ptr 101 0),(9,.v Enc.bool C)],[(101,.box 86 [.v Q7 ([]:jA),.v Q1 ([]:Q6),.v Q0 (0:Int)])]⟩) ?_ ?_
 ·refine cd u (fun A u=>?_) (fun A u=>?_)
  ·cases u;exact jy
  cases u;exact jy
 refine aT h Y (fun B h=>?_) (fun B h=>?_)
 ·refine aJ (.k (bE tL (.cons (Z.sl aN) (.cons (Z.sl Q5) (.cons (Z.int .i64) .nil))) .nil) (.f [2,3] ?_));refine aG ?_;obtain rfl:=pT h;exact bN (σ':=⟨[(2,.ptr 90 0),(3,.v Q8 (some (1:Int)))],[(90,.box 86 [.v Q7 ([]:jA),.v Q1 ([]:Q6),.v Q0 (0:Int)])]⟩) (aC [(90,101)]) (bD z dD Y (aS Y Y (.prm (.one _ _) (.prm (.one _ _) (.one _ _))) Dv vY) (RV.tmp Y) .nil Y)
 refine aH ?_;obtain⟨D,E,h⟩:=aB h;refine aJ (.a 1 ?_);refine .k (Vy 102 E Y Y Il Bb jU Y Y (Z.arr 8 (Z.int .u8))) (.k (bE tL (.cons (Z.sl aN) (.cons (Z.sl Q5) (.cons (Z.int .i64) .nil))) (.cons Y (.dir Y) Y Y Y Y (.cons Y (.dir Y) Y Y Y Y .nil))) (.f [2,3] ?_));refine aG ?_;obtain rfl:=pT h;exact bN (σ':=⟨[(2,.ptr 90 0),(3,.v Q8 (none:Option Int))],[(90,.box 86 [.v Q7 D,.v Q1 ([]:Q6),.v Q0 (-1:Int)])]⟩) (aC [(90,101)]) (bD z dD Y (aS Y Y (.prm (.one _ _) (.prm (.one _ _) (.one _ _))) Dv vY) (RV.tmp Y) .nil Y)
theorem Io{a0 r}(h:qD a0=some r):
 Con Tryz.prog 20 [.v Q0 a0] (.tup [.v Q2 r.1,.v Q8 r.2]) []:=by
 refine Con.of Tryz.func20 Y Tryz.ntmps20 Y ?_;intro S w z;unfold qD at h;refine aJ (.k (aM 101 MG Y (.cons (Z.sl aN) (.cons (Z.sl Q5) (.cons (Z.int .i64) .nil))) Y) (.f [0,2] ?_));obtain⟨B,C,h⟩:=aB h;refine aJ (.a 1 ?_);refine .k (aO (Cr C) Tryz.call49 (.cons (.dir Y) .nil)) (.f [2,4,5] ?_);refine cR [2,4,5,12] ?_;refine aT h Y (fun A h=>?_) (fun A h=>?_)
 ·refine aJ (.k (bE tL (.cons (Z.sl aN) (.cons (Z.sl Q5) (.cons (Z.int .i64) .nil))) .nil) (.f [2,3] ?_));refine aG ?_;obtain rfl:=pT h;exact bN (σ':=⟨[(2,.ptr 90 0),(3,.v Q8 B.2)],[(90,.box 86 [.v Q7 ([]:jA),.v Q1 ([]:Q6),.v Q0 (0:Int)])]⟩) (aC [(90,101)]) (bD z dD Y (aS Y Y (.prm (.one _ _) (.prm (.one _ _) (.one _ _))) Dv vY) (RV.tmp Y) .nil Y)
 refine aH ?_;obtain⟨u,D,h⟩:=aB h;refine aJ (.a 1 ?_);refine .k (aO (Rx D) Tryz.call50 (.cons (.dir Y) .nil)) ?_;refine .a 2 ?_;refine .t (bI Y Y Y Y (.prm (.one _ _) (.prm (.one _ _) (.one _ _))) vY) (.f [2,3] ?_);refine aG ?_;obtain rfl:=pT h;exact bN (σ':=⟨[(2,.ptr 90 0),(3,.v Q8 u.2)],[(90,.box 86 [.v Q7 u.1.1,.v Q1 u.1.2.1,.v Q0 u.1.2.2])]⟩) (aC [(90,101)]) (bD z dD Y (aS Y Y (.prm (.one _ _) (.prm (.one _ _) (.one _ _))) Dv vY) (RV.tmp Y) .nil Y)
theorem Ip{a0 a1 r}(h:kY a0 a1=some r):
 Con Tryz.prog 75 [.v Q5 a0,.pst Q2 a1] (.v Enc.bool r) []:=by
 refine Con.of Tryz.func75 Y Tryz.ntmps75 Y ?_;intro S w A;unfold kY at h;refine aJ (.k (bU 101 Y (.prm (.one _ _) (.one _ _)) Y) (.f [1,2] ?_));refine aF ?_;obtain⟨B,u,h⟩:=aB h;refine dL (σ':=⟨[(3,.v Enc.bool B)],[]⟩) ?_ ?_
 ·refine cd u (fun z u=>?_) (fun z u=>?_)
  ·cases u;exact jy
  cases u;refine ja 6 ?_;exact(J.g z (eI Y DS Y xC Y (.fst .here) Y) jy)
 cases h;exact aG (aY A dD Y (RV.tmp Y) .nil Y)
theorem lI{a0 a1_0 r}(h:cV a0 a1_0=some r):
 Con Tryz.prog 106 [.v Q1 a0,.fnc 75 [.pst Q2 a1_0]] (.v Q0 r) []:=by
 refine Con.of Tryz.func106 Y Tryz.ntmps106 Y ?_;intro S w u;unfold cV at h;refine aL [0,1] ?_;refine cR [0,1,7,8] ?_;obtain⟨L,F,G,H⟩:=bX h;refine jH (σs:=fun z:Int=>⟨[(0,.v Q1 a0),(1,.fnc 75 [.pst Q2 a1_0]),(7,.v Q0 (a0.length:Int)),(8,.v Q0 z)],[]⟩) (fun A:Unit=>⟨[],[]⟩) F (aC []) ?_ ?_
 ·intro A B;have h:=G _ B;refine aL [4] ?_;cases h;exact aG (aY u dD Y (RV.tmp Y) .nil Y)
 intro z K h;refine aL [0,1,7,8,9] ?_;refine aF ?_;refine aT h Y (fun C h=>?_) (fun C h=>?_)
 ·refine aH ?_;refine aF ?_;refine bF ?_;refine aL [0,1,5,7,8] ?_;obtain⟨M,N,h⟩:=aB h;obtain⟨O,I,h⟩:=aB h;refine aJ (.a 5 ?_);refine .k (sN Y (Ip I) Tryz.call75 (.cons (.dir Y) .nil)) (.f [0,1,5,7,8,16] ?_);refine aT h Y (fun D h=>?_) (fun D h=>?_)
  ·refine aL [4] ?_;refine aG ?_;refine dZ ?_;cases h;refine gD fun E=>?_;obtain rfl:=H _ E;exact aY u dD Y (RV.tmp Y) .nil Y
  refine aH ?_;refine bK ?_;refine eB [0,1,7,8] ?_;cases h;exact cE (aC [])
 cases h;exact cN (cW (aC []))
theorem kD{a0 a1_0 r}(h:bS a0 a1_0=some r):
 Con Tryz.prog 74 [.v Q1 a0,.fnc 75 [.pst Q2 a1_0]] (.v Enc.bool r) []:=by
 refine Con.of Tryz.func74 Y Tryz.ntmps74 Y ?_;intro S w u;unfold bS at h;refine aL [0,1] ?_;obtain⟨A,z,h⟩:=aB h;refine aJ (.a 2 ?_);refine .k (aO (lI z) Tryz.call106 (.cons (.dir Y) (.cons (.dir Y) .nil))) (.f [4] ?_);cases h;exact aG (aY u dD Y (RV.tmp Y) .nil Y)
theorem tM{a0 r}(h:lT a0=some r):
 Con Tryz.prog 51 [.v Q2 a0] (.v Q8 r) []:=by
 refine Con.of Tryz.func51 Y Tryz.ntmps51 Y ?_;intro S w z;unfold lT at h;refine aJ (.k (bU 101 Y (.prm (.one _ _) (.prm (.one _ _) (.one _ _))) Y) (.f [1] ?_));refine aF ?_;refine aF ?_;obtain⟨E,u,h⟩:=aB h;refine dL (σ':=⟨[(1,.ptr 101 0),(18,.v Enc.bool E)],[(101,.box 86 [.v Q7 a0.1,.v Q1 a0.2.1,.v Q0 a0.2.2])]⟩) ?_ ?_
 ·refine cd u (fun A u=>?_) (fun A u=>?_)
  ·cases u;exact jy
  refine cd u (fun B u=>?_) (fun B u=>?_)
  ·cases u;exact jy
  cases u;exact jy
 refine aT h Y (fun C h=>?_) (fun C h=>?_)
 ·refine aL [2] ?_;cases h;exact aG (aY z dD Y (RV.tmp Y) .nil Y)
 refine aH ?_;obtain⟨G,F,h⟩:=aB h;refine jD (.a 2 ?_);refine .k (sL (.cons (.dir Y) .nil)) (.k (qO (kD F) Tryz.call74 (.cons (.dir Y) (.cons (.lendF Y (.ptr Y (.prm (.one _ _) (.prm (.one _ _) (.one _ _))) .nil)) .nil)) FlatS.v) (.f [23] ?_));refine aT h Y (fun D h=>?_) (fun D h=>?_)
 ·refine aL [2] ?_;cases h;exact aG (aY z dD Y (RV.tmp Y) .nil Y)
 refine aH ?_;refine aL [2] ?_;cases h;exact aG (aY z dD Y (RV.tmp Y) .nil Y)
theorem pN{a0 r}(h:jR a0=some r):
 Con Tryz.prog 52 [.v (Enc.slN aN) a0] (.ref 0) [(0,.arr 33 aN r)]:=by
 refine Con.of Tryz.func52 Y Tryz.ntmps52 Y ?_;intro S w u;unfold jR at h;refine aJ (.k (aR 101 33 aN) (.f [0] ?_));refine jD (.a 1 ?_);refine .k (wH Y Il) (.f [0,4] ?_);refine aT h Y (fun z h=>?_) (fun z h=>?_)
 ·refine aJ (.k (aR 102 33 aN) (.f [2] ?_));cases h;exact aG (vO u dD Y (aC [(0,102)]))
 refine aH ?_;obtain⟨B,A,h⟩:=aB h;refine aJ (.k (qM (e:=aN) 103 Il jU Bc Y Y Y Y .nil) ?_);refine .a 1 ?_;refine .t (bR 104 A Y Y (.slN Y) Il Bb jU Y Y Y Y Y) (.f [2] ?_);cases h;exact aG (vO u dD Y (aC [(0,104)]))
theorem bZ{a0:jA}{r:jA}(h:aP a0=some r):
  Con Tryz.prog 52 [.v Q7 a0] (.ref 0) [(0,.arr 33 aN r)]:=
 qP fun b u=>pN (by cases b with | true=>rw[u rfl] at h ⊢;exact h | false=>exact Dg h)
theorem rV{a0 r}(h:eY a0=some r):
 Con Tryz.prog 107 [.v Q1 a0] (.fnc 127 [.pst Q1 r]) []:=by
 refine Con.of Tryz.func107 Y Tryz.ntmps107 Y ?_;intro S w u;unfold eY at h;refine aJ (.k (bU 101 Y (.one _ _) Y) (.k (dQ Y) (.f [1] ?_)));refine aJ (.k (sL (.cons (.dir Y) .nil)) (.f [2] ?_));refine aG ?_;obtain rfl:=pT h;exact bN (σ':=⟨[(2,.fnc 127 [.pst Q1 a0])],[]⟩) (Sw.Sub.mk id (.cons Y (.fnc (.cons (.frzP Y Y (.cons (.of_eq Y) .nil) (.one _ _)) .nil)) .nil) .nil Y) (aY u dD Y (RV.tmp Y) .nil Y)
theorem PA{xs:List (Int×aQ)}(hlen:(xs.length:Int)<=4294967296):
 IterC Tryz.prog 127 [.pst Q1 xs] ((backs xs).map fun c=>[.v Q0 c.1,.v Q5 c.2]):=by
  refine BD Tryz.func127 Y Tryz.ntmps127 Y ?_;intro S w ρ l Jp Jx b off I hJ0 h1;have E:=BF hlen;refine aF ?_;refine dL (σ':=⟨[(0,.v (Enc.cst (.func (.yield l) #[] #[]) Y) ()),(1,.v (Enc.cp b off Q1) xs),(3,.v Q0 ((xs.length:Int) - 1 - (0:Nat)))],[]⟩) (J.k (lN Y DP Hi) (J.k (uA Y xD) (J.k (cO Y Y Y) (J.k (bB Y) (J.fin (jV (by rfl) (by exact(.cons Y (.cons Y (.cons (by rw[<-E];rfl) .nil)))))))))) ?_;refine bF ?_;refine Qq I (fun k=>[(0,.v (Enc.cst (.func (.yield l) #[] #[]) Y) ()),(1,.v (Enc.cp b off Q1) xs),(3,.v Q0 ((xs.length:Int) - 1 - (k:Nat)))]) (fun k=>(.cons (@Again.flat _ _ ⟨fun h=>h⟩ _ _ _ _) (.cons h1 (.cons .flat .nil)))) (fun _ _ h=>h) hJ0 ?_;intro k V C D;have u:((backs xs).map fun c=>([.v Q0 c.1,.v Q5 c.2]:List Slot)).length=xs.length:=by rw[aBp,BE]
  rw[u] at D;have F:=ER hlen D;refine aF (aF ?_);refine dL (σ':=⟨[(0,.v (Enc.cst (.func (.yield l) #[] #[]) Y) ()),(1,.v (Enc.cp b off Q1) xs),(3,.v Q0 ((xs.length:Int) - 1 - (k:Nat))),(8,.v Enc.bool (cm .geq ((xs.length:Int) - 1 - (k:Nat)) 0))],[]⟩) (J.mv Y (J.k (jO Y Y Y) (J.fin (jV (by rfl) (by exact(.cons Y (.cons Y (.cons Y (.cons Y .nil))))))))) ?_;refine Eo Y (fun z=>?_) (fun z=>?_)
  ·refine aH ?_;have M:(xs.length:Int) - 1 - (k:Nat)>=0:=by simpa[cm] using z
   have B:k<xs.length:=by omega
   obtain⟨x,K,L⟩:=EP B;refine aF ?_;refine bF ?_;refine aF ?_;refine Lb (σ1:=⟨[(11,.v (Enc.cst (.func (.yield l) #[] #[]) Y) ()),(12,.v Q0 ((xs.length:Int) - 1 - (k:Nat))),(16,.v Q5 x),(0,.v (Enc.cst (.func (.yield l) #[] #[]) Y) ()),(1,.v (Enc.cp b off Q1) xs),(3,.v Q0 ((xs.length:Int) - 1 - (k:Nat)))],[]⟩) (g2:=[(0,.v (Enc.cst (.func (.yield l) #[] #[]) Y) ()),(1,.v (Enc.cp b off Q1) xs),(3,.v Q0 ((xs.length:Int) - 1 - (k:Nat)))]) (pre:=[_,_,_,_,_,_]) I C (item:=[.v Q0 ((xs.length:Int) - 1 - (k:Nat)),.v Q5 x]) (by rw[aBl,K];rfl)
    (J.cons (.none rfl) (aD rfl) rfl rfl (J.cons (.none rfl) (aD rfl) rfl rfl (J.cons (.none rfl) (lN rfl DP Hi) rfl rfl (J.cons (.none rfl) (aD rfl) rfl rfl (J.cons (.none rfl) (pK L rfl rfl xD jE) rfl rfl (J.cons (.none rfl) (bQ rfl Xt jE) rfl rfl (J.fin (jV (by rfl) (by exact(.cons rfl (.cons rfl (.cons rfl (.cons rfl (.cons rfl (.cons rfl .nil)))))))))))))))
    rfl (.cons (.dir rfl) (.cons (.dir rfl) .nil)) rfl rfl rfl rfl (.cons (@Again.flat _ _ ⟨fun h=>h⟩ _ _ _ _) (.cons h1 (.cons .flat .nil))) (.cons rfl (.cons rfl (.cons rfl .nil))) (fun A G=>?_) (fun A H=>?_)
   ·refine zY rfl rfl (aH (bK ?_));refine dL (σ':=⟨[(0,.v (Enc.cst (.func (.yield l) #[] #[]) Y) ()),(1,.v (Enc.cp b off Q1) xs),(3,.v Q0 (ar .sub .i64 ((xs.length:Int) - 1 - (k:Nat)) 1))],[]⟩) (J.mv Y (J.k (cO Y Y Y) (J.k (bB Y) (J.fin (jV (by rfl) (by exact(.cons Y (.cons Y (.cons Y .nil))))))))) ?_;exact Qr I G (by rw[u];exact B) (by rw[F];exact fun _ _ h=>h)
   ·refine uN rfl rfl (aG (Qs (fn:=Tryz.f127) I rfl H fun a A h=>h))
  ·refine cN (Wh (fn:=Tryz.f127) I rfl C ?_ (fun a A h=>?_))
   ·have N:¬(xs.length:Int) - 1 - (k:Nat)>=0:=by simpa[cm] using z
    rw[u];omega
   ·simp only[Exit.inBlock,aBb];exact h
theorem pJ{a0 a1 r}(h:iA a0 a1=some r):
 Con Tryz.prog 76 [.v Q2 a0,.v Q0 a1] (.tup [.v aN r.1,.v Q8 r.2]) []:=by
 refine Con.of Tryz.func76 Y Tryz.ntmps76 Y ?_;intro S w z;unfold iA at h;refine aJ (.k (bU 101 Y (.prm (.one _ _) (.prm (.one _ _) (.one _ _))) Y) (.k (bU 102 Y (.one _ _) Y) (.k (aM 103 Bc Y (.cons (Z.arr 8 (Z.int .u8)) .nil) Y) (.k (aM 104 Tryz.zeroValue25 Y (.cons (Z.err ET) .nil) Y) (.f [2,3,4,5] ?_)))));obtain⟨P,Q,h⟩:=aB h;refine jD (.k (aX Y Y (.prm (.one _ _) (.prm (.one _ _) (.one _ _))) Dv vY) (.k (aO (tM Q) RN (.cons (.dir Y) .nil)) (.f [2,3,4,5,6] ?_)));refine aL [2,3,4,5,6,12] ?_;refine aT h Y (fun I h=>?_) (fun I h=>?_)
 ·refine aJ (.k (cT (e:=aN) (v:=aU) Bb vI I5 Y Y (Z.arr 8 (Z.int .u8))) (.f [4,5] ?_));refine aG ?_;obtain rfl:=pT h;exact bN (σ':=⟨[(4,.ptr 90 0),(5,.ptr 91 0)],[(91,.box 25 [.v Q8 P]),(90,.box 33 [.v aN aU])]⟩) (aC [(90,103),(91,104)]) (bD z dD Y (bY Y Y Y sT jU) (bY Y Y Y QY MX) .nil Y)
 refine aH ?_;refine aF ?_;refine aF ?_;obtain⟨T,B,h⟩:=aB h;refine dL (σ':=⟨[(2,.ptr 101 0),(3,.ptr 102 0),(4,.ptr 103 0),(5,.ptr 104 0),(23,.v Enc.bool T)],[(101,.box 86 [.v Q7 a0.1,.v Q1 a0.2.1,.v Q0 a0.2.2]),(102,.box 3 [.v Q0 a1]),(103,.box 33 [.v aN aU]),(104,.box 25 [.v Q8 (none:Option Int)])]⟩) ?_ ?_
 ·refine cd B (fun K B=>?_) (fun K B=>?_)
  ·cases B;exact jy
  cases B;exact jy
 refine aT h Y (fun M h=>?_) (fun M h=>?_)
 ·refine aJ (.k (cT (e:=aN) (v:=aU) Bb vI I5 Y Y (Z.arr 8 (Z.int .u8))) (.f [4,5] ?_));refine aG ?_;obtain rfl:=pT h;exact bN (σ':=⟨[(4,.ptr 90 0),(5,.ptr 91 0)],[(91,.box 25 [.v Q8 (some (1:Int))]),(90,.box 33 [.v aN aU])]⟩) (aC [(90,103),(91,104)]) (bD z dD Y (bY Y Y Y sT jU) (bY Y Y Y QY MX) .nil Y)
 refine aH ?_;refine cR [2,3,4,5,28] ?_;refine aT h Y (fun N h=>?_) (fun N h=>?_)
 ·refine aJ (.k (cT (e:=aN) (v:=aU) Bb vI I5 Y Y (Z.arr 8 (Z.int .u8))) (.f [4,5] ?_));refine aG ?_;obtain rfl:=pT h;exact bN (σ':=⟨[(4,.ptr 90 0),(5,.ptr 91 0)],[(91,.box 25 [.v Q8 (some (4:Int))]),(90,.box 33 [.v aN aU])]⟩) (aC [(90,103),(91,104)]) (bD z dD Y (bY Y Y Y sT jU) (bY Y Y Y QY MX) .nil Y)
 refine aH ?_;obtain⟨E,U,h⟩:=aB h;refine jD (.a 2 ?_);refine .k (aO (rV U) Tryz.call107 (.cons (.dir Y) .nil)) (.f [2,3,4,5,33] ?_);refine bF ?_;obtain⟨ae,V,h⟩:=aB h;obtain⟨o9,X,aa,ab⟩:=Qo h;refine Qn (g:=[(2,.ptr 101 0),(3,.ptr 102 0),(4,.ptr 103 0),(5,.ptr 104 0),(33,.fnc 127 [.pst Q1 E])]) (ds0:=[(101,.box 86 [.v Q7 a0.1,.v Q1 a0.2.1,.v Q0 a0.2.2]),(102,.box 3 [.v Q0 a1]),(103,.box 33 [.v aN aU]),(104,.box 25 [.v Q8 (none:Option Int)])]) (L:=[101,102,103,104]) (fun A:(Int×(Int×aQ))=>[.v Q0 A.1,.v Q5 A.2]) (fun u (C:Unit)=>[(101,.box 86 [.v Q7 a0.1,.v Q1 a0.2.1,.v Q0 a0.2.2] (some (u 101))),(102,.box 3 [.v Q0 a1] (some (u 102))),(103,.box 33 [.v aN aU] (some (u 103))),(104,.box 25 [.v Q8 (none:Option Int)] (some (u 104)))]) (fun u (D:aQ)=>[(101,.box 86 [.v Q7 a0.1,.v Q1 a0.2.1,.v Q0 a0.2.2] (some (u 101))),(102,.box 3 [.v Q0 a1] (some (u 102))),(103,.box 33 [.v aN D] (some (u 103))),(104,.box 25 [.v Q8 (none:Option Int)] (some (u 104)))]) (fun u A C=>⟨[(2,.ptr 101 0),(3,.ptr 102 0),(4,.ptr 103 0),(5,.ptr 104 0),(8,.ptr 108 0),(33,.fnc 127 [.pst Q1 E])],[(101,.box 86 [.v Q7 a0.1,.v Q1 a0.2.1,.v Q0 a0.2.2] (some (u 101))),(102,.box 3 [.v Q0 a1] (some (u 102))),(103,.box 33 [.v aN aU] (some (u 103))),(104,.box 25 [.v Q8 (none:Option Int)] (some (u 104))),(108,.box 124 [.v Q0 A.2.1,.v aN A.2.2])]⟩) z Y X (aC []) (fun _=>rfl) Y (PA (Ev V)) Tryz.call127 (fun _=>rfl) Y (fun _=>rfl) Y (fun _ _=>(.cons Y (.cons Y (.cons Y (.cons Y .nil))))) (fun _ _=>(.cons Y (.cons Y (.cons Y (.cons Y .nil))))) ?_ ?_ ?_ ?_
 ·intro u S w R l A C;refine fN (.k (aM 109 Dz Y (.cons (Z.int .i64) (.cons (Z.arr 8 (Z.int .u8)) .nil)) Y) (.t (bI Y Y Y Y (.prm (.one _ _) (.one _ _)) jE) (.f [2,3,4,5,8,33] ?_)));exact NH (aC [(108,109)])
 ·intro u S w R l A C r9 h;refine bF ?_;refine aL [2,3,4,5,8,33,39] ?_;refine aT h Y (fun O h=>?_) (fun O h=>?_)
  ·refine aJ (.a 3 ?_);refine .t (Hr Y Y Y (.nilE ET) Y Y Y MX) (.f [2,3,4,5,33] ?_);refine aG ?_;refine dZ ?_;cases h;exact EO (aC [])
  refine aH ?_;cases h;exact bK (Qp (aC []))
 ·intro u ad F S w R G z;have h:=aa _ F;refine bK ?_;obtain⟨ac,af,h⟩:=aB h;refine aJ (.a 6 ?_);refine .t (Hr Y Y Y (.nilE ET) Y Y Y MX) (.f [4,5] ?_);refine aG ?_;obtain rfl:=pT h;exact bN (σ':=⟨[(4,.ptr 90 0),(5,.ptr 91 0)],[(91,.box 25 [.v Q8 (none:Option Int)]),(90,.box 33 [.v aN ac])]⟩) (aC [(90,103),(91,104)]) (bD z dD Y (bY Y Y Y sT jU) (bY Y Y Y QY MX) .nil Y)
 ·intro u D H S w R G z;have h:=ab _ H;refine dZ ?_;obtain rfl:=pT h;exact bN (σ':=⟨[(4,.ptr 90 0),(5,.ptr 91 0)],[(91,.box 25 [.v Q8 (none:Option Int)]),(90,.box 33 [.v aN D])]⟩) (aC [(90,103),(91,104)]) (bD z dD Y (bY Y Y Y sT jU) (bY Y Y Y QY MX) .nil Y)
theorem sC{a0 r}(h:fY a0=some r):
 Con Tryz.prog 82 [.v aN a0] (.v Q0 r) []:=by
 refine Con.of Tryz.func82 Y Tryz.ntmps82 Y ?_;intro S w C;unfold fY at h;refine aJ (.k (bU 101 Y (.one _ _) Y) (.f [1] ?_));obtain⟨D,u,h⟩:=aB h;obtain⟨E,z,h⟩:=aB h;obtain⟨F,A,h⟩:=aB h;obtain⟨G,B,h⟩:=aB h;refine aJ (.k (uB u Y Y Y Y vI S5) (.k (uC (cX u).2.2 Y Y Y G5 S5) (.k (by exact lM U5 U3 Y Y) (.k (by exact eK (.inl Y) (by decide) Y Y) (.k (by exact uB z Y Y Y Y vI S5) (.k (by exact uC (cX z).2.2 Y Y Y G5 S5) (.k (by exact lM U5 U3 Y Y) (.k (by exact eK (.inl Y) (by decide) Y Y) ?_))))))));refine .a 1 ?_;refine .k (uB A Y Y Y Y vI S5) (.k (uC (cX A).2.2 Y Y Y G5 S5) (.k (by exact lM U5 U3 Y Y) (.k (by exact eK (.inl Y) (by decide) Y Y) ?_)));refine .a 1 ?_;refine .k (uB B Y Y Y Y vI S5) (.k (uC (cX B).2.2 Y Y Y G5 S5) (.k (by exact lM U5 U3 Y Y) (.f [2] ?_)));cases h;exact aG (aY C dD Y (RV.tmp Y) .nil Y)
theorem rN{a0 r}(h:kZ a0=some r):
 Con Tryz.prog 85 [.v (Enc.slN Q5) a0] (.ref 0) [(0,.arr 124 Q5 r)]:=by
 refine Con.of Tryz.func85 Y Tryz.ntmps85 Y ?_;intro S w u;unfold kZ at h;refine aJ (.k (aR 101 124 Q5) (.f [0] ?_));refine jD (.a 1 ?_);refine .k (wH Y xD) (.f [0,4] ?_);refine aT h Y (fun z h=>?_) (fun z h=>?_)
 ·refine aJ (.k (aR 102 124 Q5) (.f [2] ?_));cases h;exact aG (vO u dD Y (aC [(0,102)]))
 refine aH ?_;obtain⟨B,A,h⟩:=aB h;refine aJ (.k (qM (e:=Q5) 103 xD jE Dz Y Y Y Y .nil) ?_);refine .a 1 ?_;refine .t (bR 104 A Y Y (.slN Y) xD Jr jE Y Y Y Y Y) (.f [2] ?_);cases h;exact aG (vO u dD Y (aC [(0,104)]))
theorem eF{a0:Q6}{r:Q6}(h:bG a0=some r):
  Con Tryz.prog 85 [.v Q1 a0] (.ref 0) [(0,.arr 124 Q5 r)]:=
 qP fun b u=>rN (by cases b with | true=>rw[u rfl] at h ⊢;exact h | false=>exact Dg h)
theorem Cs{a0 r}(h:qT a0=some r):
 Con Tryz.prog 128 [.v Q2 a0] (.agg [.ref 0,.ref 1,.v Q0 r.2.2]) [(0,.arr 33 aN r.1),(1,.arr 124 Q5 r.2.1)]:=by
 refine Con.of Tryz.func128 Y Tryz.ntmps128 Y ?_;intro S w u;unfold qT at h;refine aJ (.k (bU 101 Y (.prm (.one _ _) (.prm (.one _ _) (.one _ _))) Y) (.k (aM 102 MG Y (.cons (Z.sl aN) (.cons (Z.sl Q5) (.cons (Z.int .i64) .nil))) Y) (.f [1,2] ?_)));refine aF ?_;obtain⟨z,A,h⟩:=aB h;obtain⟨B,C,h⟩:=aB h;refine dI 10 mixed (by exact(.k (aA 0 Y DS Y xC Y Y) (.k (aI Y Y Y Sd xC) (.k (eU 103000 (bZ A) OF (.cons (.dir Y) .nil) Y) (.k (aA 1 Y DS Y Hi Y Y) (.k (aI Y Y Y DP Hi) (.k (eU 104000 (eF C) QW (.cons (.dir Y) .nil) Y) (.k (aA 0 Y DS Y xC Y Y) (JP4.store (.none Y) Y Y Y Y Y Y Y xC (.k (aA 1 Y DS Y Hi Y Y) (JP4.store (.none Y) Y Y Y Y Y Y Y Hi .nil))))))))))) (by exact(J.kp [1,2] [])) ?_;refine aJ (.k (gO Y Y Y Dv vY) (.f [2] ?_));refine aG ?_;obtain rfl:=pT h;exact bN (σ':=⟨[(2,.ptr 90 0)],[(90,.box 86 [.ref 0,.ref 1,.v Q0 a0.2.2]),(1,.arr 124 Q5 B),(0,.arr 33 aN z)]⟩) (aC [(90,102),(1,104000),(0,103000)]) (aY u dD Y (Et Y Y Y Dv vY) (.cons Y (.cons Y .nil)) Y)
theorem tW(A:Nat->Nat){a0_0 a0_1 a0_2 r}(h:iT a0_0 a0_1 a0_2=some r):
 ConM Tryz.prog 129 [.ptr 9000 0] [(9000,.box 86 [.ref 8950,.ref 8951,.v Q0 a0_2] (some (A 9000))),(8950,.arr 33 aN a0_0),(8951,.arr 124 Q5 a0_1)] (.v Q8 r.1) [(9000,.box 86 [.ref 8910,.ref 8911,.v Q0 r.2.2.2] (some (A 9000))),(8910,.arr 33 aN r.2.1),(8911,.arr 124 Q5 r.2.2.1)]:=by
 refine ConM.of Tryz.func129 Y Tryz.ntmps129 Y ?_;intro S w R z;unfold iT at h;refine aL [0] ?_;refine cR [0,7] ?_;refine aT h Y (fun C h=>?_) (fun C h=>?_)
 ·refine aL [0,2] ?_;cases h;exact aG (eG z Y (aC [(8911,8951),(8910,8950)]))
 refine aH ?_;refine cR [0,13] ?_;obtain⟨D,E,h⟩:=gC h;refine uT (fun B:Int=>⟨[(0,.ptr 9000 0)],[(9000,.box 86 [.ref 8950,.ref 8951,.v Q0 B] (some (A 9000))),(8950,.arr 33 aN a0_0),(8951,.arr 124 Q5 a0_1)]⟩) (fun x=>D x=some r) Y ?_ ?_ ?_
 ·intro B h;rw[E] at h;refine aL [0,2] ?_;cases h;exact aG (eG z Y (aC [(8911,8951),(8910,8950)]))
 ·intro u;replace h:=jP u h;refine eB [0] ?_;exact cF h (aC [])
 ·intro u;replace h:=jQ u h;refine aH ?_;exact cF h (aC [])
theorem Mu{a0 a1 a2 r}(h:qU a0 a1 a2=some r):
 Con Tryz.prog 110 [.v Q2 a0,.v Q0 a1,.v aN a2] (.tup [.v Q2 r.1,.v Q8 r.2]) []:=by
 refine Con.of Tryz.func110 Y Tryz.ntmps110 Y ?_;intro S w u;unfold qU at h;refine aJ (.k (bU 101 Y (.prm (.one _ _) (.prm (.one _ _) (.one _ _))) Y) (.k (bU 102 Y (.one _ _) Y) (.k (aM 103 MG Y (.cons (Z.sl aN) (.cons (Z.sl Q5) (.cons (Z.int .i64) .nil))) Y) (.f [1,3,5,6] ?_))));obtain⟨H,I,h⟩:=aB h;refine jD (.k (aX Y Y (.prm (.one _ _) (.prm (.one _ _) (.one _ _))) Dv vY) (.k (aO (tM I) RN (.cons (.dir Y) .nil)) (.f [1,3,5,6,8] ?_)));refine aL [1,3,5,6,8,13] ?_;refine aT h Y (fun C h=>?_) (fun C h=>?_)
 ·refine aJ (.k (eT (new:=[(105,.arr 124 Q5 ([]:Q6))]) tL (.cons (Z.sl aN) (.ref 105 Y (.cons (Z.int .i64) .nil))) (.cons .nil) Y .nil) (.f [6,7] ?_));refine aG ?_;obtain rfl:=pT h;exact bN (σ':=⟨[(6,.ptr 90 0),(7,.v Q8 H)],[(90,.box 86 [.v Q7 ([]:jA),.v Q1 ([]:Q6),.v Q0 (0:Int)])]⟩) (aC [(90,103)]) (bD u dD Y (aS Y Y (.prm (.one _ _) (.prm (.one _ _) (.one _ _))) Dv vY) (RV.tmp Y) .nil Y)
 refine aH ?_;refine aF ?_;refine aF ?_;obtain⟨K,z,h⟩:=aB h;refine dL (σ':=⟨[(1,.v Q0 a1),(3,.ptr 101 0),(5,.ptr 102 0),(6,.ptr 103 0),(24,.v Enc.bool K)],[(101,.box 86 [.v Q7 a0.1,.v Q1 a0.2.1,.v Q0 a0.2.2]),(102,.box 33 [.v aN a2]),(103,.box 86 [.v Q7 ([]:jA),.v Q1 ([]:Q6),.v Q0 (0:Int)])]⟩) ?_ ?_
 ·refine cd z (fun D z=>?_) (fun D z=>?_)
  ·cases z;exact jy
  cases z;exact jy
 refine aT h Y (fun E h=>?_) (fun E h=>?_)
 ·refine aJ (.k (eT (new:=[(106,.arr 124 Q5 ([]:Q6))]) tL (.cons (Z.sl aN) (.ref 106 Y (.cons (Z.int .i64) .nil))) (.cons .nil) Y .nil) (.f [6,7] ?_));refine aG ?_;obtain rfl:=pT h;exact bN (σ':=⟨[(6,.ptr 90 0),(7,.v Q8 (some (1:Int)))],[(90,.box 86 [.v Q7 ([]:jA),.v Q1 ([]:Q6),.v Q0 (0:Int)])]⟩) (aC [(90,103)]) (bD u dD Y (aS Y Y (.prm (.one _ _) (.prm (.one _ _) (.one _ _))) Dv vY) (RV.tmp Y) .nil Y)
 refine aH ?_;refine cR [1,3,5,6,30] ?_;refine aT h Y (fun F h=>?_) (fun F h=>?_)
 ·refine aJ (.k (eT (new:=[(107,.arr 124 Q5 ([]:Q6))]) tL (.cons (Z.sl aN) (.ref 107 Y (.cons (Z.int .i64) .nil))) (.cons .nil) Y .nil) (.f [6,7] ?_));refine aG ?_;obtain rfl:=pT h;exact bN (σ':=⟨[(6,.ptr 90 0),(7,.v Q8 (some (2:Int)))],[(90,.box 86 [.v Q7 ([]:jA),.v Q1 ([]:Q6),.v Q0 (0:Int)])]⟩) (aC [(90,103)]) (bD u dD Y (aS Y Y (.prm (.one _ _) (.prm (.one _ _) (.one _ _))) Dv vY) (RV.tmp Y) .nil Y)
 refine aH ?_;obtain⟨P,L,h⟩:=aB h;refine aJ (.k (aX Y Y (.prm (.one _ _) (.prm (.one _ _) (.one _ _))) Dv vY) (.k (eU 108000 (Cs L) Tryz.call128 (.cons (.dir Y) .nil) Y) (.f [1,3,5,6] ?_)));obtain⟨B,M,h⟩:=aB h;refine jD (.t (eA [101,108000,108001] (Av [(9000,101),(8950,108000),(8951,108001),(8910,109),(8911,110)]) (dY _) (fun A=>tW A M) Tryz.call129 (fun A=>(.box Y (.arr (.arr .nil Y) Y) Y))) (.f [1,3,5,6,9] ?_));refine aL [1,3,5,6,9,37] ?_;refine aT h Y (fun G h=>?_) (fun G h=>?_)
 ·refine aJ (.k (eT (new:=[(111,.arr 124 Q5 ([]:Q6))]) tL (.cons (Z.sl aN) (.ref 111 Y (.cons (Z.int .i64) .nil))) (.cons .nil) Y .nil) (.f [6,7] ?_));refine aG ?_;obtain rfl:=pT h;exact bN (σ':=⟨[(6,.ptr 90 0),(7,.v Q8 B.1)],[(90,.box 86 [.v Q7 ([]:jA),.v Q1 ([]:Q6),.v Q0 (0:Int)])]⟩) (aC [(90,103)]) (bD u dD Y (aS Y Y (.prm (.one _ _) (.prm (.one _ _) (.one _ _))) Dv vY) (RV.tmp Y) .nil Y)
 refine aH ?_;obtain⟨N,O,h⟩:=aB h;refine aJ (.a 4 ?_);refine .k (bE vA (.cons (Z.int .i64) (.cons (Z.arr 8 (Z.int .u8)) .nil)) (.cons Y (.dir Y) Y Y Y Y (.cons Y (.dir Y) Y Y Y Y .nil))) (.k (dM (e:=Q5) xD jE Dz Y Y Y Y (.cons (.agg Y (.same (.same .nil)) (.prm (.one _ _) (.one _ _)) Y) .nil)) (.t (bR 112 O Y Y (.sl Y) xD Jr jE Y Y Y Y Y) (.f [3,6] ?_)));refine aJ (.k (gO Y Y Y Dv vY) (.f [6,7] ?_));refine aG ?_;obtain rfl:=pT h;exact bN (σ':=⟨[(6,.ptr 90 0),(7,.v Q8 (none:Option Int))],[(90,.box 86 [.v Q7 B.2.1,.v Q1 N,.v Q0 B.2.2.2])]⟩) (aC [(90,103)]) (bD u dD Y (aS Y Y (.prm (.one _ _) (.prm (.one _ _) (.one _ _))) Dv vY) (RV.tmp Y) .nil Y)
theorem gX(A:Nat->Nat){a0_0 a0_1 a1 a2 r}(h:dG a0_0 a0_1 a1 a2=some r):
 ConM Tryz.prog 87 [.ptr 9000 0,.v Q0 a1,.v aN a2] [(9000,.box 115 [.v Q0 a0_0,.v Q2 a0_1] (some (A 9000)))] (.v Q8 r.1) [(9000,.box 115 [.v Q0 r.2.1,.v Q2 r.2.2] (some (A 9000)))]:=by
 refine ConM.of Tryz.func87 Y Tryz.ntmps87 Y ?_;intro S w R B;unfold dG at h;refine aJ (.k (bU 101 Y (.one _ _) Y) (.f [0,1,5] ?_));refine aF ?_;obtain⟨C,D,h⟩:=aB h;refine dI 13 mixed (by exact(.k (aD Y) (.k (aK Y) (.k (aA 1 Y vH Y vY Y Y) (.k (aI Y Y Y Dv vY) (.k (aD Y) (.k (aI Y Y Y sT jU) (.k (aO (Mu D) Tryz.call110 (.cons (.dir Y) (.cons (.dir Y) (.cons (.dir Y) .nil)))) (.k (aD Y) (.k (bH Y Y) (.k (bH Y Y) (.k (aM 103 MG Y (.cons (Z.sl aN) (.cons (Z.sl Q5) (.cons (Z.int .i64) .nil))) Y) (JP4.storeAll (.none Y) Y Y Y Y (.prm (.one _ _) (.prm (.one _ _) (.one _ _))) vY (.k (bB Y) .nil)))))))))))))) (by exact(J.kp [0,7,8] [])) ?_;refine jD (.a 1 ?_);refine .k (gU Mq Y) (.f [0,7,8,20] ?_);obtain⟨E,F,h⟩:=gC h;refine uT (fun z:By=>⟨[(0,.ptr 9000 0),(8,.v Q8 C.2)],[(9000,.box 115 [.v Q0 a0_0,.v Q2 z] (some (A 9000)))]⟩) (fun x=>E x=some r) Y ?_ ?_ ?_
 ·intro z h;rw[F] at h;refine aL [0,6] ?_;cases h;exact aG (dN B Y (RV.tmp Y) (.cons Y .nil))
 ·intro u;replace h:=jP u h;refine fN (.a 1 ?_);refine .k (aX Y Y (.prm (.one _ _) (.prm (.one _ _) (.one _ _))) Dv vY) (.f [0,8] ?_);exact cF h (aC [])
 ·intro u;replace h:=jQ u h;refine aH ?_;exact cF h (aC [])
theorem rW(A:Nat->Nat){a0_0 a0_1 r}(h:gE a0_0 a0_1=some r):
 ConM Tryz.prog 78 [.ptr 9000 0] [(9000,.box 115 [.v Q0 a0_0,.v Q2 a0_1] (some (A 9000))),(9100,.box 55 [.ptr 9000 0] (some (A 9100)))] (.v Q8 r.1) [(9000,.box 115 [.v Q0 r.2.1,.v Q2 r.2.2] (some (A 9000))),(9100,.box 55 [.ptr 9000 0] (some (A 9100)))]:=by
 refine ConM.of Tryz.func78 Y Tryz.ntmps78 Y ?_;intro S w R G;unfold gE at h;refine aL [0] ?_;refine aF ?_;obtain⟨E,M,h⟩:=aB h;refine dI 16 mixed (by exact(.k (aD Y) (.k (aK Y) (.k (aA 1 Y vH Y vY Y Y) (.k (aI Y Y Y Dv vY) (.k (aD Y) (.k (aK Y) (.k (aA 0 Y vH Y S3 Y Y) (.k (aI Y Y Y G3 S3) (.k (cO Y Y Y) (.k (aO (pJ M) PJ (.cons (.dir Y) (.cons (.dir Y) .nil))) (.k (aD Y) (.k (bH Y Y) (.k (bH Y Y) (.k (aM 102 Bc Y (.cons (Z.arr 8 (Z.int .u8)) .nil) Y) (JP4.store (.none Y) Y Y Y Y Y Y Y jU (.k (bB Y) .nil))))))))))))))))) (by exact(J.kp [0,3,4] [])) ?_;refine cR [0,3,4,5] ?_;obtain⟨ad,N,O,ae⟩:=bX h;refine jH (σs:=fun u:(Option Int)×Int×Int×By=>⟨[(0,.ptr 9000 0),(3,.ptr 102 0),(4,.v Q8 u.1),(5,.v Q0 u.2.1)],[(9000,.box 115 [.v Q0 u.2.2.1,.v Q2 u.2.2.2] (some (A 9000))),(102,.box 33 [.v aN E.1]),(9100,.box 55 [.ptr 9000 0] (some (A 9100)))]⟩) (fun B:(Option Int)×Int×By=>⟨[(0,.ptr 9000 0),(4,.v Q8 B.1)],[(9000,.box 115 [.v Q0 B.2.1,.v Q2 B.2.2] (some (A 9000))),(9100,.box 55 [.ptr 9000 0] (some (A 9100)))]⟩) N (aC []) ?_ ?_
 ·intro B H;have h:=O _ H;refine aL [0,2] ?_;cases h;exact aG (dN G Y (RV.tmp Y) (.cons Y (.cons Y .nil)))
 intro u I h;refine aF ?_;refine aF ?_;obtain⟨P,z,h⟩:=aB h;refine dL (σ':=⟨[(0,.ptr 9000 0),(3,.ptr 102 0),(4,.v Q8 u.1),(5,.v Q0 u.2.1),(28,.v Enc.bool P)],[(9000,.box 115 [.v Q0 u.2.2.1,.v Q2 u.2.2.2] (some (A 9000))),(102,.box 33 [.v aN E.1]),(9100,.box 55 [.ptr 9000 0] (some (A 9100)))]⟩) ?_ ?_
 ·refine cd z (fun F z=>?_) (fun F z=>?_)
  ·obtain⟨af,Q,z⟩:=aB z;cases z;refine ja 1 ?_;refine(J.k (gU Mq Y) ?_);refine ja 3 ?_;exact(J.g F (aO (sC Q) RQ (.cons (.dir Y) .nil)) jy)
  cases z;refine ja 1 ?_;exact(J.k (gU Mq Y) jy)
 refine aT h Y (fun K h=>?_) (fun K h=>?_)
 ·refine aH ?_;refine aF ?_;refine bF ?_;refine aJ (.k (aM 129 Bc Y (.cons (Z.arr 8 (Z.int .u8)) .nil) Y) (.k (aM 130 Bc Y (.cons (Z.arr 8 (Z.int .u8)) .nil) Y) (.f [0,3,5,6,7] ?_)));refine aF ?_;refine aF ?_;obtain⟨T,U,h⟩:=aB h;refine dI 18 mixed (by exact(.k (aD Y) (.k (aK Y) (.k (aA 1 Y vH Y vY Y Y) (.k (aI Y Y Y Dv vY) (.k (aD Y) (.k (aK Y) (.k (aA 0 Y vH Y S3 Y Y) (.k (aI Y Y Y G3 S3) (.k (cO Y Y Y) (.k (aD Y) (.k (cO Y Y Y) (.k (cO Y Y Y) (.k (aO (pJ U) PJ (.cons (.dir Y) (.cons (.dir Y) .nil))) (.k (aD Y) (.k (bH Y Y) (.k (bH Y Y) (JP4.store (.none Y) Y Y Y Y Y Y Y jU (.k (bB Y) .nil))))))))))))))))))) (by exact(J.kp [0,3,4,5,6,7] [])) ?_;refine aJ (.a 1 ?_);refine .k (gU Mq Y) (.f [0,3,4,5,6,7,48] ?_);obtain⟨V,X,h⟩:=gC h;refine uT (fun C:(Option Int)×aQ=>⟨[(0,.ptr 9000 0),(3,.ptr 102 0),(4,.v Q8 C.1),(5,.v Q0 u.2.1),(6,.ptr 129 0),(7,.ptr 130 0)],[(9000,.box 115 [.v Q0 u.2.2.1,.v Q2 u.2.2.2] (some (A 9000))),(102,.box 33 [.v aN E.1]),(129,.box 33 [.v aN T.1]),(130,.box 33 [.v aN C.2]),(9100,.box 55 [.ptr 9000 0] (some (A 9100)))]⟩) (fun x=>V x=some I) Y ?_ ?_ ?_
  ·intro C h;rw[X] at h;refine aJ (.a 1 ?_);refine .k (gU Mq Y) (.f [0,3,4,5,6,7,66] ?_);refine aT h Y (fun L h=>?_) (fun L h=>?_)
   ·obtain⟨ah,aa,h⟩:=aB h;obtain⟨ai,ab,h⟩:=aB h;refine dI 4 mixed (by exact(.k (aD Y) (.k (aI Y Y Y sT jU) (.k (aO (sC aa) RQ (.cons (.dir Y) .nil)) (.k (aI Y Y Y sT jU) .nil))))) (by exact(J.t (eA [9000] (Av [(9000,9000)]) (dY _) (fun A=>gX A ab) QX (fun A=>(.box Y .nil Y))) (jz [0,3,4,5]))) ?_;refine bK ?_;refine eB [0,3,4,5] ?_;cases h;exact cE (aC [])
   refine aH ?_;refine bK ?_;refine eB [0,3,4,5] ?_;cases h;exact cE (aC [])
  ·intro D;replace h:=jP D h;obtain⟨aj,ac,h⟩:=aB h;refine dI 18 mixed (by exact(.k (aD Y) (.k (aK Y) (.k (aA 1 Y vH Y vY Y Y) (.k (aI Y Y Y Dv vY) (.k (aD Y) (.k (aK Y) (.k (aA 0 Y vH Y S3 Y Y) (.k (aI Y Y Y G3 S3) (.k (cO Y Y Y) (.k (aD Y) (.k (cO Y Y Y) (.k (cO Y Y Y) (.k (aO (pJ ac) PJ (.cons (.dir Y) (.cons (.dir Y) .nil))) (.k (aD Y) (.k (bH Y Y) (.k (bH Y Y) (JP4.store (.none Y) Y Y Y Y Y Y Y jU (.k (bB Y) .nil))))))))))))))))))) (by exact(J.kp [0,3,4,5,6,7] [])) ?_;exact cF h (aC [])
  ·intro D;replace h:=jQ D h;refine aH ?_;exact cF h (aC [])
 cases h;exact cN (cW (aC []))
theorem Mv{a0 r}(h:qV a0=some r):
 Con Tryz.prog 108 [.v Q2 a0] (.tup [.v Q2 r.1,.v Q8 r.2]) []:=by
 refine Con.of Tryz.func108 Y Tryz.ntmps108 Y ?_;intro S w z;unfold qV at h;refine aJ (.k (bU 101 Y (.prm (.one _ _) (.prm (.one _ _) (.one _ _))) Y) (.k (aM 102 MG Y (.cons (Z.sl aN) (.cons (Z.sl Q5) (.cons (Z.int .i64) .nil))) Y) (.f [1,2] ?_)));obtain⟨K,L,h⟩:=aB h;refine jD (.k (aX Y Y (.prm (.one _ _) (.prm (.one _ _) (.one _ _))) Dv vY) (.k (aO (tM L) RN (.cons (.dir Y) .nil)) (.f [1,2,4] ?_)));refine aL [1,2,4,11] ?_;refine aT h Y (fun G h=>?_) (fun G h=>?_)
 ·refine aJ (.k (bE tL (.cons (Z.sl aN) (.cons (Z.sl Q5) (.cons (Z.int .i64) .nil))) .nil) (.f [2,3] ?_));refine aG ?_;obtain rfl:=pT h;exact bN (σ':=⟨[(2,.ptr 90 0),(3,.v Q8 K)],[(90,.box 86 [.v Q7 ([]:jA),.v Q1 ([]:Q6),.v Q0 (0:Int)])]⟩) (aC [(90,102)]) (bD z dD Y (aS Y Y (.prm (.one _ _) (.prm (.one _ _) (.one _ _))) Dv vY) (RV.tmp Y) .nil Y)
 refine aH ?_;obtain⟨R,M,h⟩:=aB h;refine aJ (.k (aX Y Y (.prm (.one _ _) (.prm (.one _ _) (.one _ _))) Dv vY) (.k (eU 104000 (Cs M) Tryz.call128 (.cons (.dir Y) .nil) Y) (.f [1,2] ?_)));obtain⟨u,N,h⟩:=aB h;refine jD (.t (eA [101,104000,104001] (Av [(9000,101),(8950,104000),(8951,104001),(8910,105),(8911,106)]) (dY _) (fun A=>tW A N) Tryz.call129 (fun A=>(.box Y (.arr (.arr .nil Y) Y) Y))) (.f [1,2,5] ?_));refine aL [1,2,5,18] ?_;refine aT h Y (fun H h=>?_) (fun H h=>?_)
 ·refine aJ (.k (bE tL (.cons (Z.sl aN) (.cons (Z.sl Q5) (.cons (Z.int .i64) .nil))) .nil) (.f [2,3] ?_));refine aG ?_;obtain rfl:=pT h;exact bN (σ':=⟨[(2,.ptr 90 0),(3,.v Q8 u.1)],[(90,.box 86 [.v Q7 ([]:jA),.v Q1 ([]:Q6),.v Q0 (0:Int)])]⟩) (aC [(90,102)]) (bD z dD Y (aS Y Y (.prm (.one _ _) (.prm (.one _ _) (.one _ _))) Dv vY) (RV.tmp Y) .nil Y)
 refine aH ?_;refine cR [1,2,22,23,24] ?_;obtain⟨T,O,P,U⟩:=bX h;refine jH (σs:=fun C:Int×jA=>⟨[(1,.ptr 101 0),(2,.ptr 102 0),(22,.ref 106),(23,.v Q0 (u.2.2.1.length:Int)),(24,.v Q0 C.1)],[(101,.box 86 [.ref 105,.ref 106,.v Q0 u.2.2.2]),(102,.box 86 [.v Q7 ([]:jA),.v Q1 ([]:Q6),.v Q0 (0:Int)]),(106,.arr 124 Q5 u.2.2.1),(105,.arr 33 aN C.2)]⟩) (fun B:jA=>⟨[(1,.ptr 101 0),(2,.ptr 102 0)],[(101,.box 86 [.ref 105,.ref 106,.v Q0 u.2.2.2]),(102,.box 86 [.v Q7 ([]:jA),.v Q1 ([]:Q6),.v Q0 (0:Int)]),(105,.arr 33 aN B),(106,.arr 124 Q5 u.2.2.1)]⟩) O (aC []) ?_ ?_
 ·intro B F;have h:=P _ F;refine aJ (.a 1 ?_);refine .t (tA 111 124 Q5 Y Y Y Y Hi Y) (.f [1,2] ?_);refine aJ (.k (gO Y Y Y Dv vY) (.f [2,3] ?_));refine aG ?_;obtain rfl:=pT h;exact bN (σ':=⟨[(2,.ptr 90 0),(3,.v Q8 (none:Option Int))],[(90,.box 86 [.v Q7 B,.v Q1 ([]:Q6),.v Q0 u.2.2.2])]⟩) (aC [(90,102)]) (bD z dD Y (aS Y Y (.prm (.one _ _) (.prm (.one _ _) (.one _ _))) Dv vY) (RV.tmp Y) .nil Y)
 intro C Q h;refine aL [1,2,22,23,24,25] ?_;refine aF ?_;refine aT h Y (fun I h=>?_) (fun I h=>?_)
 ·refine aH ?_;refine aF ?_;refine bF ?_;obtain⟨V,D,h⟩:=aB h;refine aJ (.k (iJ D Y Y Y xD jE) (.k (jC (cX D).2.2 Y Y .here Xt jE) (.k (aM 110 Dz Y (.cons (Z.int .i64) (.cons (Z.arr 8 (Z.int .u8)) .nil)) Y) (.t (bI Y Y Y Y (.prm (.one _ _) (.one _ _)) jE) (.f [1,2,7,22,23,24] ?_)))));obtain⟨X,E,h⟩:=aB h;refine fN (.a 6 ?_);refine .k (iJ E Y Y Y Il jU) (.t (qB (cX E).2.2 Y Y Y jU) (.f [1,2,22,23,24] ?_));refine bK ?_;refine eB [1,2,22,23,24] ?_;cases h;exact cE (aC [])
 cases h;exact cN (cW (aC []))
theorem jM(A:Nat->Nat){a0_0 a0_1 r}(h:eC a0_0 a0_1=some r):
 ConM Tryz.prog 79 [.ptr 9000 0] [(9000,.box 115 [.v Q0 a0_0,.v Q2 a0_1] (some (A 9000))),(9100,.box 55 [.ptr 9000 0] (some (A 9100)))] (.v Q8 r.1) [(9000,.box 115 [.v Q0 r.2.1,.v Q2 r.2.2] (some (A 9000))),(9100,.box 55 [.ptr 9000 0] (some (A 9100)))]:=by
 refine ConM.of Tryz.func79 Y Tryz.ntmps79 Y ?_;intro S w R B;unfold eC at h;refine aL [0] ?_;obtain⟨C,D,h⟩:=aB h;refine aJ (.a 4 ?_);refine .k (aO (Mv D) Tryz.call108 (.cons (.dir Y) .nil)) ?_;refine .a 3 ?_;refine .k (aM 102 MG Y (.cons (Z.sl aN) (.cons (Z.sl Q5) (.cons (Z.int .i64) .nil))) Y) (.t (bI Y Y Y Y (.prm (.one _ _) (.prm (.one _ _) (.one _ _))) vY) (.f [0,3,4] ?_));refine jD (.a 1 ?_);refine .k (gU Mq Y) (.f [0,3,4,14] ?_);obtain⟨E,F,h⟩:=gC h;refine uT (fun z:By=>⟨[(0,.ptr 9000 0),(4,.v Q8 C.2)],[(9000,.box 115 [.v Q0 a0_0,.v Q2 z] (some (A 9000))),(9100,.box 55 [.ptr 9000 0] (some (A 9100)))]⟩) (fun x=>E x=some r) Y ?_ ?_ ?_
 ·intro z h;rw[F] at h;refine aL [0,2] ?_;cases h;exact aG (dN B Y (RV.tmp Y) (.cons Y (.cons Y .nil)))
 ·intro u;replace h:=jP u h;refine fN (.a 1 ?_);refine .k (aX Y Y (.prm (.one _ _) (.prm (.one _ _) (.one _ _))) Dv vY) (.f [0,4] ?_);exact cF h (aC [])
 ·intro u;replace h:=jQ u h;refine aH ?_;exact cF h (aC [])
theorem xF(A:Nat->Nat){a1 a2_0 a2_1 r}(h:iB a1 a2_0 a2_1=some r):
 ConM Tryz.prog 109 [.ptr 9100 0,.pst (Enc.int .u8) a1] [(9000,.box 115 [.v Q0 a2_0,.v Q2 a2_1] (some (A 9000))),(9100,.box 55 [.ptr 9000 0] (some (A 9100)))] (.v Q8 r.1) [(9000,.box 115 [.v Q0 r.2.1,.v Q2 r.2.2] (some (A 9000))),(9100,.box 55 [.ptr 9000 0] (some (A 9100)))]:=by
 refine ConM.of Tryz.func109 Y Tryz.ntmps109 Y ?_;intro S w R u;unfold iB at h;refine aL [0,1] ?_;refine aF ?_;obtain⟨B,z,h⟩:=aB h;refine dI 8 mixed (by exact(.k (aI Y Y Y Mn Hh) (.k (aI Y Y Y Mn Hh) (.k (aK Y) (.k (aA 0 Y vH Y S3 Y Y) (.k (aI Y Y Y G3 S3) (.k (cO Y Y Y) (.k (bQ Y G5 S5) (.k (Lf (e:=(Enc.int .u8)) (zv:=(0:Int)) Bb vI I5 Y Y (Z.arr 8 (Z.int .u8)) Y Y (.cons (.dir Y) .nil)) .nil))))))))) (by exact(J.t (eA [9000] (Av [(9000,9000)]) (dY _) (fun A=>gX A z) QX (fun A=>(.box Y .nil Y))) (jz [0,2]))) ?_;cases h;exact aG (dN u Y (RV.tmp Y) (.cons Y (.cons Y .nil)))
theorem yI(A:Nat->Nat){q n0 n1 r}(h:kN q n0 n1=some r):
 CloCon Tryz.prog [(9000,A 9000),(9100,A 9100)] (gT (A 9000) (A 9100)) q [(9000,.box 115 [.v Q0 n0,.v Q2 n1] (some (A 9000))),(9100,.box 55 [.ptr 9000 0] (some (A 9100)))] (.v Q8 r.1) [(9000,.box 115 [.v Q0 r.2.1,.v Q2 r.2.2] (some (A 9000))),(9100,.box 55 [.ptr 9000 0] (some (A 9100)))]:=by
 unfold kN at h;rcases q with z | z
 ·exact(CloCon.l (CloCon.fn2 .nil (.pr (.adr (i:=9100) (by simp)) .pt) Tryz.call109 (xF A h)))
 ·exact(CloCon.r (CloCon.fn2 (.adr (i:=9000) (by simp)) .nil RP (jM A h)))
theorem sU(A:Nat->Nat){a0 a1_0 a1_1 r}(h:fR a0 a1_0 a1_1=some r):
 ConM Tryz.prog 77 [.v (Enc.sl (gT (A 9000) (A 9100))) a0] [(9000,.box 115 [.v Q0 a1_0,.v Q2 a1_1] (some (A 9000))),(9100,.box 55 [.ptr 9000 0] (some (A 9100)))] (.v Q8 r.1) [(9000,.box 115 [.v Q0 r.2.1,.v Q2 r.2.2] (some (A 9000))),(9100,.box 55 [.ptr 9000 0] (some (A 9100)))]:=by
 refine ConM.of Tryz.func77 Y Tryz.ntmps77 Y ?_;intro S w R B;unfold fR at h;refine aL [0] ?_;refine cR [6,7,8] ?_;obtain⟨P,I,L,M⟩:=bX h;refine jH (σs:=fun u:Int×Int×By=>⟨[(6,.v (Enc.sl (gT (A 9000) (A 9100))) a0),(7,.v Q0 (a0.length:Int)),(8,.v Q0 u.1)],[(9000,.box 115 [.v Q0 u.2.1,.v Q2 u.2.2] (some (A 9000))),(9100,.box 55 [.ptr 9000 0] (some (A 9100)))]⟩) (fun z:Int×By=>⟨[],[(9000,.box 115 [.v Q0 z.1,.v Q2 z.2] (some (A 9000))),(9100,.box 55 [.ptr 9000 0] (some (A 9100)))]⟩) I (aC []) ?_ ?_
 ·intro z C;have h:=L _ C;refine aL [2] ?_;cases h;exact aG (dN B Y (RV.tmp Y) (.cons Y (.cons Y .nil)))
 intro u O h;refine aL [6,7,8,9] ?_;refine aF ?_;refine aT h Y (fun D h=>?_) (fun D h=>?_)
 ·refine aH ?_;refine aF ?_;refine bF ?_;obtain⟨Q,T,h⟩:=aB h;refine aL [4,6,7,8] ?_;obtain⟨U,N,h⟩:=aB h;refine aJ (.a 1 ?_);refine .t (Lj (H:=[9000,9100]) (K:=[9000,9100]) [(9000,A 9000),(9100,A 9100)] (Av [(9000,9000),(9100,9100)]) (dY _) Y ⟨⟨_,_,Y⟩,⟨_,_,Y⟩,trivial⟩ (CloCon.at2 (e:=gT) (A 9000) (A 9100) (fun E=>yI E N)) (fun _=> .box Y (.box Y .nil)) (fun _=> .box Y (.box Y .nil Y) Y) (fun _=>rfl) Y Y (fun _=>rfl) Y Y) (.f [5,6,7,8] ?_);refine aL [5,6,7,8,15] ?_;refine aT h Y (fun F h=>?_) (fun F h=>?_)
  ·refine aL [2] ?_;refine aG ?_;refine dZ ?_;cases h;refine gD fun G=>?_;obtain rfl:=M _ G;exact dN B Y (RV.tmp Y) (.cons Y (.cons Y .nil))
  refine aH ?_;refine bK ?_;refine eB [6,7,8] ?_;cases h;exact cE (aC [])
 cases h;exact cN (cW (aC []))
theorem nP(A:Nat->Nat){a0_0 a0_1 a1 r}(h:fC a0_0 a0_1 a1=some r):
 ConM Tryz.prog 81 [.ptr 9000 0,.v (Enc.int .u8) a1] [(9000,.box 115 [.v Q0 a0_0,.v Q2 a0_1] (some (A 9000)))] (.v Q8 r.1) [(9000,.box 115 [.v Q0 r.2.1,.v Q2 r.2.2] (some (A 9000)))]:=by
 refine ConM.of Tryz.func81 Y Tryz.ntmps81 Y ?_;intro S w R z;unfold fC at h;refine aJ (.k (Hv 101 Y Y) (.k (bU 102 Y (.one _ _) Y) (.f [0,2,3] ?_)));refine Zc (i:=101) Y fun u=>?_;refine vM (σ':=⟨[(0,.ptr 9000 0),(2,.ptr 101 0),(3,.ptr 102 0)],[(9000,.box 115 [.v Q0 a0_0,.v Q2 a0_1] (some (A 9000))),(101,.box 55 [.ptr 9000 0] (some (u))),(102,.box 5 [.v (Enc.int .u8) a1])]⟩) (aC []) ?_;obtain⟨F,E,h⟩:=aB h;refine aJ (.sub (σ':=⟨[(0,.ptr 9000 0),(2,.ptr 101 0),(3,.pst (Enc.int .u8) a1)],[(9000,.box 115 [.v Q0 a0_0,.v Q2 a0_1] (some (A 9000))),(101,.box 55 [.ptr 9000 0] (some (u)))]⟩) (Sw.Sub.mk id (.cons Y (.of_eq Y) (.cons Y (.of_eq Y) (.cons Y (.frzP Y Y (.cons (.of_eq Y) .nil) (.one _ _)) .nil))) (.box Y (.cons (.of_eq Y) (.cons (.of_eq Y) .nil)) (.box Y (.cons (.of_eq Y) .nil) .nil)) Y) (.k (nE .nil (.cons (.adr Y Y) (.pst Y)) (.l .self)) (.k (aI Y Y Y Mn Hh) (.k (nE (.adr Y Y) .nil (.r .self)) (.k (dM (e:=(gT (A 9000) (u))) Vl MZ RF Y Y Y Y (.cons (.dir Y) (.cons (.dir Y) .nil))) (.t (Hw (H:=[9000,101]) (K:=[9000,101]) [(9000,A 9000),(9100,u)] (Av [(9000,9000),(9100,101)]) (dY _) ⟨⟨_,_,Y⟩,⟨_,_,Y⟩,trivial⟩ (ConM.at2 (ss:=fun B C=>[.v (Enc.sl (gT B C)) ([(.inl ((),((),a1)):cS),(.inr ((),()):cS)]:(List cS))]) (A 9000) u (fun D=>sU D E)) Tryz.call77 (.cons (.dir Y) .nil) (fun _=> .box Y (.box Y .nil)) (fun _=> .box Y (.box Y .nil Y) Y) (fun _=>rfl) Y Y (fun _=>rfl) Y Y) (.f [0,4] ?_)))))));cases h;exact aG (dN z Y (RV.tmp Y) (.cons Y .nil))
theorem vZ(A:Nat->Nat){a1_0 a1_1 r}(h:lL a1_0 a1_1=some r):
 ConM Tryz.prog 80 [.ptr 9100 0] [(9000,.box 115 [.v Q0 a1_0,.v Q2 a1_1] (some (A 9000))),(9100,.box 55 [.ptr 9000 0] (some (A 9100)))] (.v Q8 r.1) [(9000,.box 115 [.v Q0 r.2.1,.v Q2 r.2.2] (some (A 9000))),(9100,.box 55 [.ptr 9000 0] (some (A 9100)))]:=by
 refine ConM.of Tryz.func80 Y Tryz.ntmps80 Y ?_;intro S w R u;unfold lL at h;refine aL [0] ?_;obtain⟨B,z,h⟩:=aB h;refine aJ (.a 1 ?_);refine .t (eA [9000] (Av [(9000,9000)]) (dY _) (fun A=>nP A z) Tryz.call81 (fun A=>(.box Y .nil Y))) (.f [0,1] ?_);cases h;exact aG (dN u Y (RV.tmp Y) (.cons Y (.cons Y .nil)))
theorem wP(A:Nat->Nat){q n0 n1 r}(h:mH q n0 n1=some r):
 CloCon Tryz.prog [(9000,A 9000),(9100,A 9100)] (fO (A 9000) (A 9100)) q [(9000,.box 115 [.v Q0 n0,.v Q2 n1] (some (A 9000))),(9100,.box 55 [.ptr 9000 0] (some (A 9100)))] (.v Q8 r.1) [(9000,.box 115 [.v Q0 r.2.1,.v Q2 r.2.2] (some (A 9000))),(9100,.box 55 [.ptr 9000 0] (some (A 9100)))]:=by
 unfold mH at h;rcases q with z | z | z
 ·exact(CloCon.l (CloCon.fn2 (.adr (i:=9000) (by simp)) .nil Tryz.call78 (rW A h)))
 ·exact(CloCon.r (CloCon.l (CloCon.fn2 (.adr (i:=9000) (by simp)) .nil RP (jM A h))))
 ·exact(CloCon.r (CloCon.r (CloCon.fn2 .nil (.adr (i:=9100) (by simp)) Tryz.call80 (vZ A h))))
theorem rX(A:Nat->Nat){a0 a1_0 a1_1 r}(h:iG a0 a1_0 a1_1=some r):
 ConM Tryz.prog 77 [.v (Enc.sl (fO (A 9000) (A 9100))) a0] [(9000,.box 115 [.v Q0 a1_0,.v Q2 a1_1] (some (A 9000))),(9100,.box 55 [.ptr 9000 0] (some (A 9100)))] (.v Q8 r.1) [(9000,.box 115 [.v Q0 r.2.1,.v Q2 r.2.2] (some (A 9000))),(9100,.box 55 [.ptr 9000 0] (some (A 9100)))]:=by
 refine ConM.of Tryz.func77 Y Tryz.ntmps77 Y ?_;intro S w R B;unfold iG at h;refine aL [0] ?_;refine cR [6,7,8] ?_;obtain⟨P,I,L,M⟩:=bX h;refine jH (σs:=fun u:Int×Int×By=>⟨[(6,.v (Enc.sl (fO (A 9000) (A 9100))) a0),(7,.v Q0 (a0.length:Int)),(8,.v Q0 u.1)],[(9000,.box 115 [.v Q0 u.2.1,.v Q2 u.2.2] (some (A 9000))),(9100,.box 55 [.ptr 9000 0] (some (A 9100)))]⟩) (fun z:Int×By=>⟨[],[(9000,.box 115 [.v Q0 z.1,.v Q2 z.2] (some (A 9000))),(9100,.box 55 [.ptr 9000 0] (some (A 9100)))]⟩) I (aC []) ?_ ?_
 ·intro z C;have h:=L _ C;refine aL [2] ?_;cases h;exact aG (dN B Y (RV.tmp Y) (.cons Y (.cons Y .nil)))
 intro u O h;refine aL [6,7,8,9] ?_;refine aF ?_;refine aT h Y (fun D h=>?_) (fun D h=>?_)
 ·refine aH ?_;refine aF ?_;refine bF ?_;obtain⟨Q,T,h⟩:=aB h;refine aL [4,6,7,8] ?_;obtain⟨U,N,h⟩:=aB h;refine aJ (.a 1 ?_);refine .t (Lj (H:=[9000,9100]) (K:=[9000,9100]) [(9000,A 9000),(9100,A 9100)] (Av [(9000,9000),(9100,9100)]) (dY _) Y ⟨⟨_,_,Y⟩,⟨_,_,Y⟩,trivial⟩ (CloCon.at2 (e:=fO) (A 9000) (A 9100) (fun E=>wP E N)) (fun _=> .box Y (.box Y .nil)) (fun _=> .box Y (.box Y .nil Y) Y) (fun _=>rfl) Y Y (fun _=>rfl) Y Y) (.f [5,6,7,8] ?_);refine aL [5,6,7,8,15] ?_;refine aT h Y (fun F h=>?_) (fun F h=>?_)
  ·refine aL [2] ?_;refine aG ?_;refine dZ ?_;cases h;refine gD fun G=>?_;obtain rfl:=M _ G;exact dN B Y (RV.tmp Y) (.cons Y (.cons Y .nil))
  refine aH ?_;refine bK ?_;refine eB [6,7,8] ?_;cases h;exact cE (aC [])
 cases h;exact cN (cW (aC []))
theorem xG(A:Nat->Nat){a0_0 a0_1 r}(h:iC a0_0 a0_1=some r):
 ConM Tryz.prog 53 [.ptr 9000 0] [(9000,.box 115 [.v Q0 a0_0,.v Q2 a0_1] (some (A 9000)))] (.v Q8 r.1) [(9000,.box 115 [.v Q0 r.2.1,.v Q2 r.2.2] (some (A 9000)))]:=by
 refine ConM.of Tryz.func53 Y Tryz.ntmps53 Y ?_;intro S w R C;unfold iC at h;refine aJ (.k (Hv 101 Y Y) (.f [0,1] ?_));refine Zc (i:=101) Y fun z=>?_;refine vM (σ':=⟨[(0,.ptr 9000 0),(1,.ptr 101 0)],[(9000,.box 115 [.v Q0 a0_0,.v Q2 a0_1] (some (A 9000))),(101,.box 55 [.ptr 9000 0] (some (z)))]⟩) (aC []) ?_;refine aF ?_;obtain⟨L,M,h⟩:=aB h;refine dI 16 mixed (by exact(.k (aI Y Y Y Mn Hh) (.k (aK Y) (.k (aA 1 Y vH Y vY Y Y) (.k (aI Y Y Y Dv vY) (.k (aI Y Y Y Mn Hh) (.k (aK Y) (.k (aA 0 Y vH Y S3 Y Y) (.k (aI Y Y Y G3 S3) (.k (cO Y Y Y) (.k (aO (pJ M) PJ (.cons (.dir Y) (.cons (.dir Y) .nil))) (.k (aD Y) (.k (bH Y Y) (.k (bH Y Y) (.k (aM 103 Bc Y (.cons (Z.arr 8 (Z.int .u8)) .nil) Y) (JP4.store (.none Y) Y Y Y Y Y Y Y jU (.k (bB Y) .nil))))))))))))))))) (by exact(J.kp [0,1,3,4] [])) ?_;refine aF ?_;refine aF ?_;obtain⟨N,u,h⟩:=aB h;refine dL (σ':=⟨[(0,.ptr 9000 0),(1,.ptr 101 0),(4,.v Q8 L.2),(24,.v Enc.bool N)],[(9000,.box 115 [.v Q0 a0_0,.v Q2 a0_1] (some (A 9000))),(101,.box 55 [.ptr 9000 0] (some (z)))]⟩) ?_ ?_
 ·refine cd u (fun B u=>?_) (fun B u=>?_)
  ·cases u;exact jy
  obtain⟨P,D,u⟩:=aB u;cases u;refine ja 3 ?_;exact(J.g B (uB D Y Y Y Y vI S5) (J.g B (uC (cX D).2.2 Y Y Y G5 S5) jy))
 refine aT h Y (fun E h=>?_) (fun E h=>?_)
 ·refine aL [0,2] ?_;cases h;exact aG (dN C Y (RV.tmp Y) (.cons Y .nil))
 refine aH ?_;obtain⟨Q,O,h⟩:=aB h;refine aJ (.a 1 ?_);refine .k (nE (.adr Y Y) .nil (.l .self)) (.k (aI Y Y Y Mn Hh) (.k (nE (.adr Y Y) .nil (.r (.l .self))) (.k (nE .nil (.adr Y Y) (.r (.r .self))) (.k (dM (e:=(fO (A 9000) (z))) Vl MZ RF Y Y Y Y (.cons (.dir Y) (.cons (.dir Y) (.cons (.dir Y) .nil)))) (.t (Hw (H:=[9000,101]) (K:=[9000,101]) [(9000,A 9000),(9100,z)] (Av [(9000,9000),(9100,101)]) (dY _) ⟨⟨_,_,Y⟩,⟨_,_,Y⟩,trivial⟩ (ConM.at2 (ss:=fun F G=>[.v (Enc.sl (fO F G)) ([(.inl ((),()):cQ),(.inr (.inl ((),())):cQ),(.inr (.inr ((),())):cQ)]:(List cQ))]) (A 9000) z (fun I=>rX I O)) Tryz.call77 (.cons (.dir Y) .nil) (fun _=> .box Y (.box Y .nil)) (fun _=> .box Y (.box Y .nil Y) Y) (fun _=>rfl) Y Y (fun _=>rfl) Y Y) (.f [0,2] ?_))))));cases h;exact aG (dN C Y (RV.tmp Y) (.cons Y .nil))
def wQ(r:Sc×(Option Int)):Slot:=match r.1 with | none=> .tup [.v (Enc.ptN (Enc.pr Q0 Q2)) (none:Sc),.v Q8 r.2] | some z=> .tup [.ptr 0 0,.v Q8 r.2]
def wR(r:Sc×(Option Int)):List (Nat×Ent):=match r.1 with | none=>[] | some z=>[(0,.box 115 [.v Q0 z.1,.v Q2 z.2])]
theorem Ct{a0 a1 r}(h:lU a0 a1=some r):
 Con Tryz.prog 21 [.v Q2 a0,.v Q0 a1] (wQ r) (wR r):=by
 refine Con.of Tryz.func21 Y Tryz.ntmps21 Y ?_;intro S w z;unfold lU at h;refine aJ (.k (bU 101 Y (.prm (.one _ _) (.prm (.one _ _) (.one _ _))) Y) (.k (jI (Enc.pr Q0 Q2)) (.f [1,2] ?_)));obtain⟨M,G,h⟩:=aB h;refine aJ (.a 1 ?_);refine .k (aO (Cr G) Tryz.call49 (.cons (.dir Y) .nil)) (.f [1,2,6,7] ?_);refine cR [1,2,6,7,17] ?_;refine aT h Y (fun B h=>?_) (fun B h=>?_)
 ·refine aJ (.a 1 ?_);refine .k (jI (Enc.pr Q0 Q2)) (.f [4,5] ?_);cases h;exact aG (bD z dD Y (RV.tmp Y) (RV.tmp Y) .nil Y)
 refine aH ?_;obtain⟨N,H,h⟩:=aB h;refine jD (.k (aX Y Y (.prm (.one _ _) (.prm (.one _ _) (.one _ _))) Dv vY) (.k (aO (tM H) RN (.cons (.dir Y) .nil)) (.f [1,2,6,8] ?_)));refine aF ?_;obtain⟨I,u,h⟩:=aB h;refine dL (σ':=⟨[(1,.v Q0 a1),(2,.ptr 101 0),(35,.v Enc.bool I)],[(101,.box 86 [.v Q7 a0.1,.v Q1 a0.2.1,.v Q0 a0.2.2])]⟩) ?_ ?_
 ·refine cd u (fun C u=>?_) (fun C u=>?_)
  ·cases u;exact jy
  refine cd u (fun D u=>?_) (fun D u=>?_)
  ·cases u;exact jy
  cases u;exact jy
 refine aT h Y (fun E h=>?_) (fun E h=>?_)
 ·refine aJ (.a 1 ?_);refine .k (jI (Enc.pr Q0 Q2)) (.f [4,5] ?_);cases h;exact aG (bD z dD Y (RV.tmp Y) (RV.tmp Y) .nil Y)
 refine aH ?_;refine aF ?_;obtain⟨O,K,h⟩:=aB h;refine dI 10 mixed (by exact(.k (aD Y) (.k (aA 0 Y DS Y xC Y Y) (.k (aI Y Y Y Sd xC) (.k (Oo (eU 105000 (bZ K) OF (.cons (.dir Y) .nil) Y) (fun _=>(Sw.Sub.mk id (.cons Y (.frz Y Y) .nil) .nil Y)) Y) (.k (aA 2 Y DS Y S3 Y Y) (.k (aI Y Y Y G3 S3) (.k (bE tL (.cons (Z.sl aN) (.cons (Z.sl Q5) (.cons (Z.int .i64) .nil))) (.cons Y (.dir Y) Y Y Y Y (.cons Y (.dir Y) Y Y Y Y .nil))) (.k (bE IH (.cons (Z.int .i64) (.cons (Z.pr (Z.sl aN) (Z.pr (Z.sl Q5) (Z.int .i64))) .nil)) (.cons Y (.dir Y) Y Y Y Y (.cons Y (.agg Y (.same (.same (.same .nil))) (.prm (.one _ _) (.prm (.one _ _) (.one _ _))) Y) Y Y Y Y .nil))) (.k (yR 106 Y Y) (.k (bB Y) .nil))))))))))) (by exact(J.kp [9] [])) ?_;obtain⟨P,L,h⟩:=aB h;refine jD (.a 1 ?_);refine .t (eA [106] (Av [(9000,106)]) (dY _) (fun A=>xG A L) Tryz.call53 (fun A=>(.box Y .nil Y))) (.f [9,10] ?_);refine aL [9,10,49] ?_;refine aT h Y (fun F h=>?_) (fun F h=>?_)
 ·refine aJ (.a 1 ?_);refine .k (jI (Enc.pr Q0 Q2)) (.f [4,5] ?_);cases h;exact aG (bD z dD Y (RV.tmp Y) (RV.tmp Y) .nil Y)
 refine aH ?_;refine aL [4,5] ?_;cases h;exact aG (vP z dD Y (aC [(0,106)]))
theorem zG{a0:By}{a1:Int}{r:Sc×(Option Int)}(hz:r.1=none)(h:lU a0 a1=some r):Con Tryz.prog 21 [.v Q2 a0,.v Q0 a1] (.tup [.v (Enc.ptN (Enc.pr Q0 Q2)) (none:Sc),.v Q8 r.2]) []:=by
 have:=Ct h;unfold wQ wR at this;rw[hz] at this;exact this
theorem zH{a0:By}{a1:Int}{r:Sc×(Option Int)}{z:(Int×By)}(hz:r.1=some z)(h:lU a0 a1=some r):Con Tryz.prog 21 [.v Q2 a0,.v Q0 a1] (.tup [.ptr 0 0,.v Q8 r.2]) [(0,.box 115 [.v Q0 z.1,.v Q2 z.2])]:=by
 have:=Ct h;unfold wQ wR at this;rw[hz] at this;exact this
def uF(r:Sc×(Option Int)):Slot:=match r.1 with | none=> .tup [.v (Enc.ptN (Enc.pr Q0 Q2)) (none:Sc),.v Q8 r.2] | some z=> .tup [.ptr 0 0,.v Q8 r.2]
def uG(r:Sc×(Option Int)):List (Nat×Ent):=match r.1 with | none=>[] | some z=>[(0,.box 115 [.v Q0 z.1,.v Q2 z.2])]
theorem zI{a0 r}(h:iL a0=some r):
 Con Tryz.prog 14 [.v Q0 a0] (uF r) (uG r):=by
 refine Con.of Tryz.func14 Y Tryz.ntmps14 Y ?_;intro S w u;unfold iL at h;refine aJ (.k (jI (Enc.pr Q0 Q2)) (.f [0] ?_));obtain⟨D,B,h⟩:=aB h;refine aJ (.a 1 ?_);refine .k (aO (Io B) Tryz.call20 (.cons (.dir Y) .nil)) ?_;refine .a 3 ?_;refine .k (aM 102 MG Y (.cons (Z.sl aN) (.cons (Z.sl Q5) (.cons (Z.int .i64) .nil))) Y) (.t (bI Y Y Y Y (.prm (.one _ _) (.prm (.one _ _) (.one _ _))) vY) (.f [0,4,5] ?_));refine cR [0,4,5,12] ?_;refine aT h Y (fun A h=>?_) (fun A h=>?_)
 ·refine aJ (.a 1 ?_);refine .k (jI (Enc.pr Q0 Q2)) (.f [2,3] ?_);cases h;exact aG (bD u dD Y (RV.tmp Y) (RV.tmp Y) .nil Y)
 refine aH ?_;refine aF ?_;obtain⟨C,z,h⟩:=aB h;rcases hz4:C.1 with _ | E
 ·replace h:=uP hz4 h;refine fN (.k (aX Y Y (.prm (.one _ _) (.prm (.one _ _) (.one _ _))) Dv vY) ?_);refine .a 1 ?_;refine .k (aO (zG hz4 z) RK (.cons (.dir Y) (.cons (.dir Y) .nil))) (.f [2,3] ?_);cases h;exact aG (bD u dD Y (RV.tmp Y) (RV.tmp Y) .nil Y)
 ·replace h:=uQ hz4 h;refine fN (.k (aX Y Y (.prm (.one _ _) (.prm (.one _ _) (.one _ _))) Dv vY) ?_);refine .a 1 ?_;refine .k (eU 104000 (zH hz4 z) RK (.cons (.dir Y) (.cons (.dir Y) .nil)) Y) (.f [2,3] ?_);cases h;exact aG (vP u dD Y (aC [(0,104000)]))
theorem sH{a0:Int}{r:Sc×(Option Int)}(hz:r.1=none)(h:iL a0=some r):Con Tryz.prog 14 [.v Q0 a0] (.tup [.v (Enc.ptN (Enc.pr Q0 Q2)) (none:Sc),.v Q8 r.2]) []:=by
 have:=zI h;unfold uF uG at this;rw[hz] at this;exact this
theorem sI{a0:Int}{r:Sc×(Option Int)}{z:(Int×By)}(hz:r.1=some z)(h:iL a0=some r):Con Tryz.prog 14 [.v Q0 a0] (.tup [.ptr 0 0,.v Q8 r.2]) [(0,.box 115 [.v Q0 z.1,.v Q2 z.2])]:=by
 have:=zI h;unfold uF uG at this;rw[hz] at this;exact this
theorem nQ{a0 r}(h:fD a0=some r):
 Con Tryz.prog 54 [.pst (Enc.pr Q0 Q2) a0] (.tup [.v Q0 r.1,.v Q0 r.2.1,.v Q8 r.2.2]) []:=by
 refine Con.of Tryz.func54 Y Tryz.ntmps54 Y ?_;intro S w z;unfold fD at h;refine aL [0] ?_;refine aF ?_;obtain⟨u,C,h⟩:=aB h;refine dI 15 mixed (by exact(.k (aD Y) (.k (qN Y) (.k (eI Y vH Y vY Y (.snd .here) Y) (.k (bQ Y Dv vY) (.k (aD Y) (.k (qN Y) (.k (eI Y vH Y S3 Y (.fst .here) Y) (.k (bQ Y G3 S3) (.k (aO (pJ C) PJ (.cons (.dir Y) (.cons (.dir Y) .nil))) (.k (aD Y) (.k (bH Y Y) (.k (bH Y Y) (.k (aM 102 Bc Y (.cons (Z.arr 8 (Z.int .u8)) .nil) Y) (JP4.store (.none Y) Y Y Y Y Y Y Y jU (.k (bB Y) .nil)))))))))))))))) (by exact(J.kp [4,5] [])) ?_;refine cR [4,5,19] ?_;refine aT h Y (fun B h=>?_) (fun B h=>?_)
 ·refine aL [2,3,4] ?_;cases h;exact aG (vT z dD Y (RV.tmp Y) (RV.tmp Y) (RV.tmp Y) .nil Y)
 refine aH ?_;refine aF ?_;refine vM (σ':=⟨[(4,.v Q8 u.2),(5,.pst aN u.1),(19,.v Enc.bool (Option.isSome u.2))],[]⟩) (Sw.Sub.mk id (.cons Y (.of_eq Y) (.cons Y (.frzP Y Y (.cons (.of_eq Y) .nil) (.one _ _)) (.cons Y (.of_eq Y) .nil))) .nil Y) ?_;obtain⟨I,D,h⟩:=aB h;obtain⟨K,A,h⟩:=aB h;obtain⟨L,E,h⟩:=aB h;obtain⟨M,F,h⟩:=aB h;obtain⟨N,G,h⟩:=aB h;obtain⟨O,H,h⟩:=aB h;refine dI 11 mixed (by exact(.k (bQ Y sT jU) (.k (aO (sC D) RQ (.cons (.dir Y) .nil)) (.k (Wp A Y Y Y vI S5) (.k (Ou E Y Y Y vI S5) (.k (Kb F (Zd A) Y (.sl Y) sG I5 S5 Y Y Y) (.k (De G Y vI) (.k (bQ Y sT jU) (.k (aO (sC H) RQ (.cons (.dir Y) .nil)) (.k (bB Y) (.k (bB Y) (.k (yE ET) .nil)))))))))))) (by exact(J.kp [2,3,4] [])) ?_;cases h;exact aG (vT z dD Y (RV.tmp Y) (RV.tmp Y) (RV.tmp Y) .nil Y)
theorem yJ{a0 a1 r}(h:iM a0 a1=some r):
 Con Tryz.prog 83 [.v Q5 a0,.pst (Enc.ptN (Enc.pr Q0 Q2)) a1] (.v Enc.bool r) []:=by
 refine Con.of Tryz.func83 Y Tryz.ntmps83 Y ?_;intro S w B;unfold iM at h;refine aJ (.k (bU 101 Y (.prm (.one _ _) (.one _ _)) Y) (.f [1,2] ?_));refine aF ?_;obtain⟨C,z,h⟩:=aB h;refine Hp (σ':=⟨[(3,.v Enc.bool C)],[]⟩) ?_ ?_
 ·intro A;refine cd z (fun u z=>?_) (fun u z=>?_)
  ·cases z;exact pU 13 mixed A
  obtain⟨E,D,z⟩:=aB z;cases z;exact dI 13 mixed (by exact(.k (aA 0 Y Mp Y S3 Y Y) (.k (aI Y Y Y G3 S3) (.k (jO Y Y Y) (.k (aD Y) (.g u (aA 0 Y Mp Y S3 Y Y) (.g u (aI Y Y Y G3 S3) (.g u (bQ Y Mn Hh) (.g u (Hu D Y) (.g u (eI Y vH Y S3 Y (.fst .here) Y) (.g u (bQ Y G3 S3) (.g u (jO Y Y Y) (.k (sK u Y Y) (.k (bB Y) .nil)))))))))))))) (by exact(J.fin (aC []))) A
 cases h;exact aG (aY B dD Y (RV.tmp Y) .nil Y)
theorem jF{a0 a1_0 r}(h:cB a0 a1_0=some r):
 Con Tryz.prog 106 [.v Q1 a0,.fnc 83 [.pst (Enc.ptN (Enc.pr Q0 Q2)) a1_0]] (.v Q0 r) []:=by
 refine Con.of Tryz.func106 Y Tryz.ntmps106 Y ?_;intro S w u;unfold cB at h;refine aL [0,1] ?_;refine cR [0,1,7,8] ?_;obtain⟨L,F,G,H⟩:=bX h;refine jH (σs:=fun z:Int=>⟨[(0,.v Q1 a0),(1,.fnc 83 [.pst (Enc.ptN (Enc.pr Q0 Q2)) a1_0]),(7,.v Q0 (a0.length:Int)),(8,.v Q0 z)],[]⟩) (fun A:Unit=>⟨[],[]⟩) F (aC []) ?_ ?_
 ·intro A B;have h:=G _ B;refine aL [4] ?_;cases h;exact aG (aY u dD Y (RV.tmp Y) .nil Y)
 intro z K h;refine aL [0,1,7,8,9] ?_;refine aF ?_;refine aT h Y (fun C h=>?_) (fun C h=>?_)
 ·refine aH ?_;refine aF ?_;refine bF ?_;refine aL [0,1,5,7,8] ?_;obtain⟨M,N,h⟩:=aB h;obtain⟨O,I,h⟩:=aB h;refine aJ (.a 5 ?_);refine .k (sN Y (yJ I) Tryz.call83 (.cons (.dir Y) .nil)) (.f [0,1,5,7,8,16] ?_);refine aT h Y (fun D h=>?_) (fun D h=>?_)
  ·refine aL [4] ?_;refine aG ?_;refine dZ ?_;cases h;refine gD fun E=>?_;obtain rfl:=H _ E;exact aY u dD Y (RV.tmp Y) .nil Y
  refine aH ?_;refine bK ?_;refine eB [0,1,7,8] ?_;cases h;exact cE (aC [])
 cases h;exact cN (cW (aC []))
theorem iV{a0 a1_0 r}(h:bL a0 a1_0=some r):
 Con Tryz.prog 74 [.v Q1 a0,.fnc 83 [.pst (Enc.ptN (Enc.pr Q0 Q2)) a1_0]] (.v Enc.bool r) []:=by
 refine Con.of Tryz.func74 Y Tryz.ntmps74 Y ?_;intro S w u;unfold bL at h;refine aL [0,1] ?_;obtain⟨A,z,h⟩:=aB h;refine aJ (.a 2 ?_);refine .k (aO (jF z) Tryz.call106 (.cons (.dir Y) (.cons (.dir Y) .nil))) (.f [4] ?_);cases h;exact aG (aY u dD Y (RV.tmp Y) .nil Y)
theorem rF{a0 r}(h:jS a0=some r):
 Con Tryz.prog 84 [.v Q0 a0] (.v aN r) []:=by
 refine Con.of Tryz.func84 Y Tryz.ntmps84 Y ?_;intro S w u;unfold jS at h;refine aJ (.k (aM 101 Bc Y (.cons (Z.arr 8 (Z.int .u8)) .nil) Y) (.f [0,2] ?_));refine aJ (.a 1 ?_);refine .k (eK (.inr Y) (by decide) Y Y) ?_;refine .a 2 ?_;refine .k (eK (.inr Y) (by decide) Y Y) ?_;refine .a 2 ?_;refine .k (eK (.inr Y) (by decide) Y Y) ?_;refine .a 3 ?_;refine .k (Lf (e:=(Enc.int .u8)) (zv:=(0:Int)) Bb vI I5 Y Y (Z.arr 8 (Z.int .u8)) Y Y (.cons (.dir Y) (.cons (.dir Y) (.cons (.dir Y) (.cons (.dir Y) .nil))))) (.f [2] ?_);refine aG ?_;obtain rfl:=pT h;exact bN (σ':=⟨[(2,.ptr 90 0)],[(90,.box 33 [.v aN ([(IntKind.wrap .u8 (sh .shr .i64 a0 (24:Int))),(IntKind.wrap .u8 (sh .shr .i64 a0 (16:Int))),(IntKind.wrap .u8 (sh .shr .i64 a0 (8:Int))),(IntKind.wrap .u8 a0)]++List.replicate 4 (0:Int):aQ)])]⟩) (aC [(90,101)]) (aY u dD Y (bY Y Y Y sT jU) .nil Y)
theorem wA(A:Nat->Nat){a1 a2_0 a2_1 r}(h:gH a1 a2_0 a2_1=some r):
 ConM Tryz.prog 86 [.ptr 9100 0,.pst Q1 a1] [(9000,.box 115 [.v Q0 a2_0,.v Q2 a2_1] (some (A 9000))),(9100,.box 55 [.ptr 9000 0] (some (A 9100)))] (.v Q8 r.1) [(9000,.box 115 [.v Q0 r.2.1,.v Q2 r.2.2] (some (A 9000))),(9100,.box 55 [.ptr 9000 0] (some (A 9100)))]:=by
 refine ConM.of Tryz.func86 Y Tryz.ntmps86 Y ?_;intro S w R u;unfold gH at h;refine aL [0,1] ?_;refine aF ?_;obtain⟨C,z,h⟩:=aB h;obtain⟨D,B,h⟩:=aB h;refine dI 9 mixed (by exact(.k (aI Y Y Y Mn Hh) (.k (aI Y Y Y Mn Hh) (.k (aK Y) (.k (aA 0 Y vH Y S3 Y Y) (.k (aI Y Y Y G3 S3) (.k (cO Y Y Y) (.k (bQ Y DP Hi) (.k (uA Y xD) (.k (aO (rF z) RR (.cons (.dir Y) .nil)) .nil)))))))))) (by exact(J.t (eA [9000] (Av [(9000,9000)]) (dY _) (fun A=>gX A B) QX (fun A=>(.box Y .nil Y))) (jz [0,2]))) ?_;cases h;exact aG (dN u Y (RV.tmp Y) (.cons Y (.cons Y .nil)))
theorem wB(A:Nat->Nat){a1 a2 a3_0 a3_1 r}(h:gI a1 a2 a3_0 a3_1=some r):
 ConM Tryz.prog 88 [.ptr 9100 0,.pst Q0 a1,.pst Q5 a2] [(9000,.box 115 [.v Q0 a3_0,.v Q2 a3_1] (some (A 9000))),(9100,.box 55 [.ptr 9000 0] (some (A 9100)))] (.v Q8 r.1) [(9000,.box 115 [.v Q0 r.2.1,.v Q2 r.2.2] (some (A 9000))),(9100,.box 55 [.ptr 9000 0] (some (A 9100)))]:=by
 refine ConM.of Tryz.func88 Y Tryz.ntmps88 Y ?_;intro S w R u;unfold gI at h;refine aL [0,1,2] ?_;refine aF ?_;obtain⟨C,z,h⟩:=aB h;obtain⟨D,B,h⟩:=aB h;refine dI 12 mixed (by exact(.k (aI Y Y Y Mn Hh) (.k (aI Y Y Y Mn Hh) (.k (aK Y) (.k (aA 0 Y vH Y S3 Y Y) (.k (aI Y Y Y G3 S3) (.k (cO Y Y Y) (.k (bQ Y G3 S3) (.k (cO Y Y Y) (.k (cO Y Y Y) (.k (eI Y Mp Y S3 Y (.fst .here) Y) (.k (bQ Y G3 S3) (.k (aO (rF z) RR (.cons (.dir Y) .nil)) .nil))))))))))))) (by exact(J.t (eA [9000] (Av [(9000,9000)]) (dY _) (fun A=>gX A B) QX (fun A=>(.box Y .nil Y))) (jz [0,3]))) ?_;cases h;exact aG (dN u Y (RV.tmp Y) (.cons Y (.cons Y .nil)))
theorem wC(A:Nat->Nat){a1 a2 a3_0 a3_1 r}(h:gJ a1 a2 a3_0 a3_1=some r):
 ConM Tryz.prog 89 [.ptr 9100 0,.pst Q0 a1,.pst Q5 a2] [(9000,.box 115 [.v Q0 a3_0,.v Q2 a3_1] (some (A 9000))),(9100,.box 55 [.ptr 9000 0] (some (A 9100)))] (.v Q8 r.1) [(9000,.box 115 [.v Q0 r.2.1,.v Q2 r.2.2] (some (A 9000))),(9100,.box 55 [.ptr 9000 0] (some (A 9100)))]:=by
 refine ConM.of Tryz.func89 Y Tryz.ntmps89 Y ?_;intro S w R u;unfold gJ at h;refine aL [0,1,2] ?_;refine aF ?_;obtain⟨B,z,h⟩:=aB h;refine dI 11 mixed (by exact(.k (aI Y Y Y Mn Hh) (.k (aI Y Y Y Mn Hh) (.k (aK Y) (.k (aA 0 Y vH Y S3 Y Y) (.k (aI Y Y Y G3 S3) (.k (cO Y Y Y) (.k (bQ Y G3 S3) (.k (cO Y Y Y) (.k (cO Y Y Y) (.k (eI Y Mp Y jU Y (.snd .here) Y) (.k (bQ Y sT jU) .nil)))))))))))) (by exact(J.t (eA [9000] (Av [(9000,9000)]) (dY _) (fun A=>gX A z) QX (fun A=>(.box Y .nil Y))) (jz [0,3]))) ?_;cases h;exact aG (dN u Y (RV.tmp Y) (.cons Y (.cons Y .nil)))
theorem wD(A:Nat->Nat){a1_0 a1_1 r}(h:gK a1_0 a1_1=some r):
 ConM Tryz.prog 90 [.ptr 9100 0] [(9000,.box 115 [.v Q0 a1_0,.v Q2 a1_1] (some (A 9000))),(9100,.box 55 [.ptr 9000 0] (some (A 9100)))] (.v Q8 r.1) [(9000,.box 115 [.v Q0 r.2.1,.v Q2 r.2.2] (some (A 9000))),(9100,.box 55 [.ptr 9000 0] (some (A 9100)))]:=by
 refine ConM.of Tryz.func90 Y Tryz.ntmps90 Y ?_;intro S w R u;unfold gK at h;refine aL [0] ?_;obtain⟨B,z,h⟩:=aB h;refine aJ (.a 1 ?_);refine .t (eA [9000] (Av [(9000,9000)]) (dY _) (fun A=>nP A z) Tryz.call81 (fun A=>(.box Y .nil Y))) (.f [0,1] ?_);cases h;exact aG (dN u Y (RV.tmp Y) (.cons Y (.cons Y .nil)))
theorem wE(A:Nat->Nat){a1_0 a1_1 r}(h:gL a1_0 a1_1=some r):
 ConM Tryz.prog 91 [.ptr 9100 0] [(9000,.box 115 [.v Q0 a1_0,.v Q2 a1_1] (some (A 9000))),(9100,.box 55 [.ptr 9000 0] (some (A 9100)))] (.v Q8 r.1) [(9000,.box 115 [.v Q0 r.2.1,.v Q2 r.2.2] (some (A 9000))),(9100,.box 55 [.ptr 9000 0] (some (A 9100)))]:=by
 refine ConM.of Tryz.func91 Y Tryz.ntmps91 Y ?_;intro S w R u;unfold gL at h;refine aL [0] ?_;obtain⟨B,z,h⟩:=aB h;refine aJ (.a 1 ?_);refine .t (eA [9000] (Av [(9000,9000)]) (dY _) (fun A=>nP A z) Tryz.call81 (fun A=>(.box Y .nil Y))) (.f [0,1] ?_);cases h;exact aG (dN u Y (RV.tmp Y) (.cons Y (.cons Y .nil)))
theorem wS(A:Nat->Nat){q n0 n1 r}(h:gW q n0 n1=some r):
 CloCon Tryz.prog [(9000,A 9000),(9100,A 9100)] (bA (A 9000) (A 9100)) q [(9000,.box 115 [.v Q0 n0,.v Q2 n1] (some (A 9000))),(9100,.box 55 [.ptr 9000 0] (some (A 9100)))] (.v Q8 r.1) [(9000,.box 115 [.v Q0 r.2.1,.v Q2 r.2.2] (some (A 9000))),(9100,.box 55 [.ptr 9000 0] (some (A 9100)))]:=by
 unfold gW at h;rcases q with z | z | z | z | z | z | z | z
 ·exact(CloCon.l (CloCon.fn2 .nil (.pr (.adr (i:=9100) (by simp)) .pt) Tryz.call86 (wA A h)))
 ·exact(CloCon.r (CloCon.l (CloCon.fn2 .nil (.pr (.adr (i:=9100) (by simp)) (.pr .pt .pt)) Tryz.call88 (wB A h))))
 ·exact(CloCon.r (CloCon.r (CloCon.l (CloCon.fn2 .nil (.pr (.adr (i:=9100) (by simp)) (.pr .pt .pt)) Tryz.call89 (wC A h)))))
 ·exact(CloCon.r (CloCon.r (CloCon.r (CloCon.l (CloCon.fn2 (.adr (i:=9000) (by simp)) .nil RP (jM A h))))))
 ·exact(CloCon.r (CloCon.r (CloCon.r (CloCon.r (CloCon.l (CloCon.fn2 .nil (.adr (i:=9100) (by simp)) Tryz.call90 (wD A h)))))))
 ·exact(CloCon.r (CloCon.r (CloCon.r (CloCon.r (CloCon.r (CloCon.l (CloCon.fn2 (.adr (i:=9000) (by simp)) .nil Tryz.call78 (rW A h))))))))
 ·exact(CloCon.r (CloCon.r (CloCon.r (CloCon.r (CloCon.r (CloCon.r (CloCon.l (CloCon.fn2 (.adr (i:=9000) (by simp)) .nil RP (jM A h)))))))))
 ·exact(CloCon.r (CloCon.r (CloCon.r (CloCon.r (CloCon.r (CloCon.r (CloCon.r (CloCon.fn2 .nil (.adr (i:=9100) (by simp)) Tryz.call91 (wE A h)))))))))
theorem rY(A:Nat->Nat){a0 a1_0 a1_1 r}(h:dX a0 a1_0 a1_1=some r):
 ConM Tryz.prog 77 [.v (Enc.sl (bA (A 9000) (A 9100))) a0] [(9000,.box 115 [.v Q0 a1_0,.v Q2 a1_1] (some (A 9000))),(9100,.box 55 [.ptr 9000 0] (some (A 9100)))] (.v Q8 r.1) [(9000,.box 115 [.v Q0 r.2.1,.v Q2 r.2.2] (some (A 9000))),(9100,.box 55 [.ptr 9000 0] (some (A 9100)))]:=by
 refine ConM.of Tryz.func77 Y Tryz.ntmps77 Y ?_;intro S w R B;unfold dX at h;refine aL [0] ?_;refine cR [6,7,8] ?_;obtain⟨P,I,L,M⟩:=bX h;refine jH (σs:=fun u:Int×Int×By=>⟨[(6,.v (Enc.sl (bA (A 9000) (A 9100))) a0),(7,.v Q0 (a0.length:Int)),(8,.v Q0 u.1)],[(9000,.box 115 [.v Q0 u.2.1,.v Q2 u.2.2] (some (A 9000))),(9100,.box 55 [.ptr 9000 0] (some (A 9100)))]⟩) (fun z:Int×By=>⟨[],[(9000,.box 115 [.v Q0 z.1,.v Q2 z.2] (some (A 9000))),(9100,.box 55 [.ptr 9000 0] (some (A 9100)))]⟩) I (aC []) ?_ ?_
 ·intro z C;have h:=L _ C;refine aL [2] ?_;cases h;exact aG (dN B Y (RV.tmp Y) (.cons Y (.cons Y .nil)))
 intro u O h;refine aL [6,7,8,9] ?_;refine aF ?_;refine aT h Y (fun D h=>?_) (fun D h=>?_)
 ·refine aH ?_;refine aF ?_;refine bF ?_;obtain⟨Q,T,h⟩:=aB h;refine aL [4,6,7,8] ?_;obtain⟨U,N,h⟩:=aB h;refine aJ (.a 1 ?_);refine .t (Lj (H:=[9000,9100]) (K:=[9000,9100]) [(9000,A 9000),(9100,A 9100)] (Av [(9000,9000),(9100,9100)]) (dY _) Y ⟨⟨_,_,Y⟩,⟨_,_,Y⟩,trivial⟩ (CloCon.at2 (e:=bA) (A 9000) (A 9100) (fun E=>wS E N)) (fun _=> .box Y (.box Y .nil)) (fun _=> .box Y (.box Y .nil Y) Y) (fun _=>rfl) Y Y (fun _=>rfl) Y Y) (.f [5,6,7,8] ?_);refine aL [5,6,7,8,15] ?_;refine aT h Y (fun F h=>?_) (fun F h=>?_)
  ·refine aL [2] ?_;refine aG ?_;refine dZ ?_;cases h;refine gD fun G=>?_;obtain rfl:=M _ G;exact dN B Y (RV.tmp Y) (.cons Y (.cons Y .nil))
  refine aH ?_;refine bK ?_;refine eB [6,7,8] ?_;cases h;exact cE (aC [])
 cases h;exact cN (cW (aC []))
theorem gN(A:Nat->Nat){a0_0 a0_1 a1 a2 a3 r}(h:cG a0_0 a0_1 a1 a2 a3=some r):
 ConM Tryz.prog 55 [.ptr 9000 0,.v Q1 a1,.v Q0 a2,.v Q0 a3] [(9000,.box 115 [.v Q0 a0_0,.v Q2 a0_1] (some (A 9000)))] (.v Q8 r.1) [(9000,.box 115 [.v Q0 r.2.1,.v Q2 r.2.2] (some (A 9000)))]:=by
 refine ConM.of Tryz.func55 Y Tryz.ntmps55 Y ?_;intro S w R D;unfold cG at h;refine aJ (.k (Hv 101 Y Y) (.f [0,1,2,3,4] ?_));refine Zc (i:=101) Y fun u=>?_;refine vM (σ':=⟨[(0,.ptr 9000 0),(1,.v Q1 a1),(2,.v Q0 a2),(3,.v Q0 a3),(4,.ptr 101 0)],[(9000,.box 115 [.v Q0 a0_0,.v Q2 a0_1] (some (A 9000))),(101,.box 55 [.ptr 9000 0] (some (u)))]⟩) (aC []) ?_;refine cR [0,1,2,3,4,21] ?_;refine aT h Y (fun Q h=>?_) (fun Q h=>?_)
 ·refine aL [0,8] ?_;cases h;exact aG (dN D Y (RV.tmp Y) (.cons Y .nil))
 refine aH ?_;refine aF ?_;refine aF ?_;obtain⟨x6,z,h⟩:=aB h;refine dL (σ':=⟨[(0,.ptr 9000 0),(1,.v Q1 a1),(2,.v Q0 a2),(3,.v Q0 a3),(4,.ptr 101 0),(37,.v Enc.bool x6)],[(9000,.box 115 [.v Q0 a0_0,.v Q2 a0_1] (some (A 9000))),(101,.box 55 [.ptr 9000 0] (some (u)))]⟩) ?_ ?_
 ·refine cd z (fun E z=>?_) (fun E z=>?_)
  ·cases z;refine ja 2 ?_;exact(J.k (xP Y Y) jy)
  refine cd z (fun F z=>?_) (fun F z=>?_)
  ·cases z;refine ja 2 ?_;refine(J.k (xP Y Y) ?_);refine ja 4 ?_;exact(J.g E (Aa Y Y) jy)
  obtain⟨v9,ab,z⟩:=aB z;cases z;refine ja 2 ?_;refine(J.k (xP Y Y) ?_);refine ja 4 ?_;refine(J.g E (Aa Y Y) ?_);refine ja 4 ?_;exact(J.g F (sL (.cons (.dir Y) .nil)) (Ye (GK.met 33 Y Y Y F) (FG (iV ab) Tryz.call74 (.cons (.dir Y) (.fn1 Y Y Y (.prm (.one _ _) (.one _ _)) .nil)) FlatS.v Y) jy))
 refine aT h Y (fun T h=>?_) (fun T h=>?_)
 ·refine aL [0,8] ?_;cases h;exact aG (dN D Y (RV.tmp Y) (.cons Y .nil))
 refine aH ?_;obtain⟨L,ac,h⟩:=aB h;obtain⟨M,ad,h⟩:=aB h;refine aJ (.a 1 ?_);refine .k (aO (rF ac) RR (.cons (.dir Y) .nil)) ?_;refine .a 1 ?_;refine .k (aO (rF ad) RR (.cons (.dir Y) .nil)) (.k (aM 106 Bc Y (.cons (Z.arr 8 (Z.int .u8)) .nil) Y) (.k (aM 107 Bc Y (.cons (Z.arr 8 (Z.int .u8)) .nil) Y) (.f [0,1,4,9,10] ?_)));refine aF ?_;refine vM (σ':=⟨[(0,.ptr 9000 0),(1,.v Q1 a1),(4,.ptr 101 0),(9,.pst aN L),(10,.ptr 107 0)],[(9000,.box 115 [.v Q0 a0_0,.v Q2 a0_1] (some (A 9000))),(101,.box 55 [.ptr 9000 0] (some (u))),(107,.box 33 [.v aN M])]⟩) (Sw.Sub.mk id (.cons Y (.of_eq Y) (.cons Y (.of_eq Y) (.cons Y (.of_eq Y) (.cons Y (.frzP Y Y (.cons (.of_eq Y) .nil) (.one _ _)) (.cons Y (.of_eq Y) .nil))))) (.box Y (.cons (.of_eq Y) (.cons (.of_eq Y) .nil)) (.box Y (.cons (.of_eq Y) .nil) (.box Y (.cons (.of_eq Y) .nil) .nil))) Y) ?_;refine vM (σ':=⟨[(0,.ptr 9000 0),(1,.v Q1 a1),(4,.ptr 101 0),(9,.pst aN L),(10,.pst aN M)],[(9000,.box 115 [.v Q0 a0_0,.v Q2 a0_1] (some (A 9000))),(101,.box 55 [.ptr 9000 0] (some (u)))]⟩) (Sw.Sub.mk id (.cons Y (.of_eq Y) (.cons Y (.of_eq Y) (.cons Y (.of_eq Y) (.cons Y (.of_eq Y) (.cons Y (.frzP Y Y (.cons (.of_eq Y) .nil) (.one _ _)) .nil))))) (.box Y (.cons (.of_eq Y) (.cons (.of_eq Y) .nil)) (.box Y (.cons (.of_eq Y) .nil) .nil)) Y) ?_;obtain⟨aq,ae,h⟩:=aB h;obtain⟨au,N,h⟩:=aB h;obtain⟨av,af,h⟩:=aB h;obtain⟨aw,ah,h⟩:=aB h;obtain⟨ax,ai,h⟩:=aB h;obtain⟨C,aj,h⟩:=aB h;refine dI 16 mixed (by exact(.k (aD Y) (.k (eU 113000 (eF ae) QW (.cons (.dir Y) .nil) Y) (.k (aI Y Y Y Mn Hh) (.k (aK Y) (.k (aA 0 Y vH Y S3 Y Y) (.k (aI Y Y Y G3 S3) (.k (BK N Y Y Y Y vI S5) (.k (Ou af Y Y Y vI S5) (.k (Kb ah (Zd N) Y (.sl Y) sG I5 S5 Y Y Y) (.k (De ai Y vI) (.k (bQ Y sT jU) (.k (bE vA (.cons (Z.int .i64) (.cons (Z.arr 8 (Z.int .u8)) .nil)) (.cons Y (.dir Y) Y Y Y Y (.cons Y (.dir Y) Y Y Y Y .nil))) (.k (dM (e:=Q5) xD jE Dz Y Y Y Y (.cons (.agg Y (.same (.same .nil)) (.prm (.one _ _) (.one _ _)) Y) .nil)) (JP4.append (.none Y) 114 aj Y Y (.sl Y) xD Jr jE Y Y Y Y Y (.k (aM 115 Tryz.zeroValue58 Y (.cons (Z.sl Q5) .nil) Y) (JP4.store (.none Y) Y Y Y Y Y Y Y Hi .nil))))))))))))))))) (by exact(J.kp [0,4,11] [])) ?_;refine aJ (.sub (σ':=⟨[(0,.ptr 9000 0),(4,.ptr 101 0),(11,.pst Q1 C)],[(9000,.box 115 [.v Q0 a0_0,.v Q2 a0_1] (some (A 9000))),(101,.box 55 [.ptr 9000 0] (some (u)))]⟩) (Sw.Sub.mk id (.cons Y (.of_eq Y) (.cons Y (.of_eq Y) (.cons Y (.frzP Y Y (.cons (.frz Y Y) .nil) (.one _ _)) .nil))) (.box Y (.cons (.of_eq Y) (.cons (.of_eq Y) .nil)) (.box Y (.cons (.of_eq Y) .nil) .nil)) Y) (.k (nE .nil (.cons (.adr Y Y) (.pst Y)) (.l .self)) (.k (qM (e:=(bA (A 9000) (u))) 116 Vl MZ RF Y Y Y Y (.cons (.dir Y) .nil)) (.f [0,4,11,12] ?_))));refine cR [0,4,12,59,60,61] ?_;obtain⟨ay,ak,al,az⟩:=bX h;refine jH (σs:=fun B:Int×(List aE)=>⟨[(0,.ptr 9000 0),(4,.ptr 101 0),(12,.ref 126),(59,.v Q1 C),(60,.v Q0 (C.length:Int)),(61,.v Q0 B.1)],[(9000,.box 115 [.v Q0 a0_0,.v Q2 a0_1] (some (A 9000))),(101,.box 55 [.ptr 9000 0] (some (u))),(126,.arr 94 (bA (A 9000) (u)) B.2)]⟩) (fun I:(List aE)=>⟨[(0,.ptr 9000 0),(4,.ptr 101 0),(12,.ref 126)],[(9000,.box 115 [.v Q0 a0_0,.v Q2 a0_1] (some (A 9000))),(101,.box 55 [.ptr 9000 0] (some (u))),(126,.arr 94 (bA (A 9000) (u)) I)]⟩) ak (aC [(126,116)]) ?_ ?_
 ·intro I P;have h:=al _ P;obtain⟨O,am,h⟩:=aB h;obtain⟨a0,an,h⟩:=aB h;refine aJ (.a 2 ?_);refine .k (nE (.adr Y Y) .nil (.r (.r (.r (.l .self))))) (.k (nE .nil (.adr Y Y) (.r (.r (.r (.r (.l .self)))))) (.k (aI Y Y Y Mn Hh) (.k (nE (.adr Y Y) .nil (.r (.r (.r (.r (.r (.l .self))))))) (.k (aI Y Y Y Mn Hh) (.k (nE (.adr Y Y) .nil (.r (.r (.r (.r (.r (.r (.l .self)))))))) (.k (nE .nil (.adr Y Y) (.r (.r (.r (.r (.r (.r (.r .self)))))))) (.k (dM (e:=(bA (A 9000) (u))) Vl MZ RF Y Y Y Y (.cons (.dir Y) (.cons (.dir Y) (.cons (.dir Y) (.cons (.dir Y) (.cons (.dir Y) .nil)))))) (.t (bR 133 am Y Y (.sl Y) Vl Tryz.typeInfo94 MZ Y Y Y Y Y) (.sub (σ':=⟨[(0,.ptr 9000 0),(4,.ptr 101 0),(73,.ptr 9000 0),(74,.v (bA (A 9000) (u)) (.inr (.inr (.inr (.inl ((),())))):aE)),(75,.v (bA (A 9000) (u)) (.inr (.inr (.inr (.inr (.inl ((),()))))):aE)),(76,.ptr 9000 0),(77,.v (bA (A 9000) (u)) (.inr (.inr (.inr (.inr (.inr (.inl ((),())))))):aE)),(78,.ptr 9000 0),(79,.v (bA (A 9000) (u)) (.inr (.inr (.inr (.inr (.inr (.inr (.inl ((),()))))))):aE)),(80,.v (bA (A 9000) (u)) (.inr (.inr (.inr (.inr (.inr (.inr (.inr ((),()))))))):aE)),(81,.v (Enc.sl (bA (A 9000) (u))) ([(.inr (.inr (.inr (.inl ((),())))):aE),(.inr (.inr (.inr (.inr (.inl ((),()))))):aE),(.inr (.inr (.inr (.inr (.inr (.inl ((),())))))):aE),(.inr (.inr (.inr (.inr (.inr (.inr (.inl ((),()))))))):aE),(.inr (.inr (.inr (.inr (.inr (.inr (.inr ((),()))))))):aE)]:(List aE))),(82,.v (Enc.sl (bA (A 9000) (u))) O)],[(9000,.box 115 [.v Q0 a0_0,.v Q2 a0_1] (some (A 9000))),(101,.box 55 [.ptr 9000 0] (some (u)))]⟩) (aC []) (.t (Hw (H:=[9000,101]) (K:=[9000,101]) [(9000,A 9000),(9100,u)] (Av [(9000,9000),(9100,101)]) (dY _) ⟨⟨_,_,Y⟩,⟨_,_,Y⟩,trivial⟩ (ConM.at2 (ss:=fun U V=>[.v (Enc.sl (bA U V)) O]) (A 9000) u (fun X=>rY X an)) Tryz.call77 (.cons (.dir Y) .nil) (fun _=> .box Y (.box Y .nil)) (fun _=> .box Y (.box Y .nil Y) Y) (fun _=>rfl) Y Y (fun _=>rfl) Y Y) (.f [0,8] ?_)))))))))));cases h;exact aG (dN D Y (RV.tmp Y) (.cons Y .nil))
 intro B ap h;refine aL [0,4,12,59,60,61,62] ?_;refine aF ?_;refine aT h Y (fun aa h=>?_) (fun aa h=>?_)
 ·refine aH ?_;refine aF ?_;refine bF ?_;obtain⟨G,a4,h⟩:=aB h;refine aJ (.a 3 ?_);refine .k (aM 130 Z3 Y (.cons (Z.int .i64) .nil) Y) (.k (aM 131 Dz Y (.cons (Z.int .i64) (.cons (Z.arr 8 (Z.int .u8)) .nil)) Y) ?_);refine .a 1 ?_;refine .t (bI Y Y Y Y (.prm (.one _ _) (.one _ _)) jE) (.f [0,4,12,13,14,59,60,61] ?_);refine vM (σ':=⟨[(0,.ptr 9000 0),(4,.ptr 101 0),(12,.ref 126),(13,.pst Q0 B.1),(14,.ptr 131 0),(59,.v Q1 C),(60,.v Q0 (C.length:Int)),(61,.v Q0 B.1)],[(9000,.box 115 [.v Q0 a0_0,.v Q2 a0_1] (some (A 9000))),(101,.box 55 [.ptr 9000 0] (some (u))),(126,.arr 94 (bA (A 9000) (u)) B.2),(131,.box 124 [.v Q0 G.1,.v aN G.2])]⟩) (Sw.Sub.mk id (.cons Y (.of_eq Y) (.cons Y (.of_eq Y) (.cons Y (.of_eq Y) (.cons Y (.frzP Y Y (.cons (.of_eq Y) .nil) (.one _ _)) (.cons Y (.of_eq Y) (.cons Y (.of_eq Y) (.cons Y (.of_eq Y) (.cons Y (.of_eq Y) .nil)))))))) (.box Y (.cons (.of_eq Y) (.cons (.of_eq Y) .nil)) (.box Y (.cons (.of_eq Y) .nil) (.arr Y (.box Y (.cons (.of_eq Y) (.cons (.of_eq Y) .nil)) .nil)))) Y) ?_;obtain⟨a5,ao,h⟩:=aB h;refine fN (.a 1 ?_);refine .sub (σ':=⟨[(0,.ptr 9000 0),(4,.ptr 101 0),(12,.ref 126),(13,.pst Q0 B.1),(14,.pst Q5 G),(59,.v Q1 C),(60,.v Q0 (C.length:Int)),(61,.v Q0 B.1),(66,.ref 126)],[(9000,.box 115 [.v Q0 a0_0,.v Q2 a0_1] (some (A 9000))),(101,.box 55 [.ptr 9000 0] (some (u))),(126,.arr 94 (bA (A 9000) (u)) B.2)]⟩) (Sw.Sub.mk id (.cons Y (.of_eq Y) (.cons Y (.of_eq Y) (.cons Y (.of_eq Y) (.cons Y (.of_eq Y) (.cons Y (.frzP Y Y (.cons (.of_eq Y) (.cons (.of_eq Y) .nil)) (.prm (.one _ _) (.one _ _))) (.cons Y (.of_eq Y) (.cons Y (.of_eq Y) (.cons Y (.of_eq Y) (.cons Y (.of_eq Y) .nil))))))))) (.box Y (.cons (.of_eq Y) (.cons (.of_eq Y) .nil)) (.box Y (.cons (.of_eq Y) .nil) (.arr Y .nil))) Y) (.k (nE .nil (.cons (.adr Y Y) (.cons (.pst Y) (.pst Y))) (.r (.l .self))) (.k (nE .nil (.cons (.adr Y Y) (.cons (.pst Y) (.pst Y))) (.r (.r (.l .self)))) (.k (dM (e:=(bA (A 9000) (u))) Vl MZ RF Y Y Y Y (.cons (.dir Y) (.cons (.dir Y) .nil))) (.t (bR 132 ao Y Y (.sl Y) Vl Tryz.typeInfo94 MZ Y Y Y Y Y) (.f [0,4,12,59,60,61] ?_)))));refine bK ?_;refine eB [0,4,12,59,60,61] ?_;cases h;exact cE (aC [(126,132)])
 cases h;exact cN (cW (aC []))
theorem yK(A:Nat->Nat){b0 b1 b2 b3 b4 b5 b6 b7 b8 b9 b10 b11 b12 b13 b14 b15 b16 b17 b18 b19 r}(h:iN b0 b1 b2 b3 b4 b5 b6 b7 b8 b9 b10 b11 b12 b13 b14 b15 b16 b17 b18 b19=some r):
 ConM Tryz.prog 22 [.ptr 9000 1,.ptr 9100 0] [(9000,.box 75 [.v Q0 b0,.v (Enc.cst (.pointer none) rfl) (),.v Q0 b1,.v Q0 b2,.v Q0 b3,.ref 9050,.v Jq b5,.ref 9051,.v Q0 b7,.v Ml b8,.v Q0 b9,.v Q0 b10,.ref 9052,.v (Enc.cst (.pointer none) rfl) (),.v Q0 b12,.v Q0 b13,.v Q0 b14,.v Q0 b15,.v (Enc.pr Q0 Q0) b16,.ref 9053] (some (A 9000))),(9100,.box 115 [.v Q0 b18,.v Q2 b19] (some (A 9100))),(9050,.arr 33 aN b4),(9051,.mp Q0 Q7 b6),(9052,.arr 3 Q0 b11),(9053,.arr 141 (Enc.pr Enc.bool (Enc.pr Enc.bool (Enc.sl (Enc.int .u8)))) b17)] (.v Q8 r.1) [(9000,.box 75 [.v Q0 b0,.ptr 9100 0,.v Q0 b1,.v Q0 r.2.1,.v Q0 r.2.2.1,.ref 400,.v Jq b5,.ref 401,.v Q0 b7,.v Ml b8,.v Q0 b9,.v Q0 b10,.ref 402,.v (Enc.cst (.pointer none) rfl) (),.v Q0 b12,.v Q0 b13,.v Q0 b14,.v Q0 b15,.v (Enc.pr Q0 Q0) b16,.ref 403] (some (A 9000))),(9100,.box 115 [.v Q0 r.2.2.2.1,.v Q2 r.2.2.2.2] (some (A 9100))),(400,.arr 33 aN b4),(401,.mp Q0 Q7 b6),(402,.arr 3 Q0 b11),(403,.arr 141 (Enc.pr Enc.bool (Enc.pr Enc.bool (Enc.sl (Enc.int .u8)))) b17)]:=by
 refine ConM.of Tryz.func22 Y Tryz.ntmps22 Y ?_;intro S w R u;unfold iN at h;refine aL [0,1] ?_;refine aL [0,1] ?_;obtain⟨D,B,h⟩:=aB h;refine aJ (.a 1 ?_);refine .k (qO (nQ B) Tryz.call54 (.cons (.lendP Y Y (.prm (.one _ _) (.one _ _))) .nil) (FlatS.tup (.v (.v (.v .nil))))) (.f [0,1,5,6,7] ?_);refine cR [0,1,5,6,7,19] ?_;refine aT h Y (fun z h=>?_) (fun z h=>?_)
 ·refine aL [0,1,4] ?_;cases h;exact aG (eG u Y (aC [(403,9053),(402,9052),(401,9051),(400,9050)]))
 refine aH ?_;refine aL [0,1] ?_;refine aF ?_;obtain⟨E,C,h⟩:=aB h;refine dI 9 mixed (by exact(.k (aD Y) (.k (aD Y) (.k (aK Y) (.k (aA 3 Y Dy Y S3 Y Y) (.k (aI Y Y Y G3 S3) (.k (aD Y) (.k (aK Y) (.k (aA 4 Y Dy Y S3 Y Y) (.k (aI Y Y Y G3 S3) .nil)))))))))) (by exact(J.t (sZ (H:=[9100]) (K:=[9100]) (Av [(9000,9100)]) (dY _) (fun A=>gN A C) QV (.cons (.dir Y) (.cons (.nilS _) (.cons (.dir Y) (.cons (.dir Y) .nil)))) (fun A=>(.box Y .nil)) (fun A=>(.box Y .nil Y)) (fun _=>rfl) Y Y (fun _=>rfl) Y Y) (jz [0,1,4]))) ?_;cases h;exact aG (eG u Y (aC [(403,9053),(402,9052),(401,9051),(400,9050)]))
theorem Eb{a0 a1 r}(h:jX a0 a1=some r):
 Con Tryz.prog 56 [.pst (Enc.pr Q0 Q2) a0,.v Q0 a1] (.tup [.v aN r.1,.v Q8 r.2]) []:=by
 refine Con.of Tryz.func56 Y Tryz.ntmps56 Y ?_;intro S w A;unfold jX at h;refine aJ (.k (aM 101 Bc Y (.cons (Z.arr 8 (Z.int .u8)) .nil) Y) (.f [0,1,4] ?_));refine aF ?_;refine aF ?_;obtain⟨D,u,h⟩:=aB h;refine dL (σ':=⟨[(0,.pst (Enc.pr Q0 Q2) a0),(1,.v Q0 a1),(4,.ptr 101 0),(15,.v Enc.bool D)],[(101,.box 33 [.v aN aU])]⟩) ?_ ?_
 ·refine cd u (fun z u=>?_) (fun z u=>?_)
  ·cases u;exact jy
  cases u;refine ja 5 ?_;exact(J.g z (qN Y) (J.g z (eI Y vH Y S3 Y (.fst .here) Y) jy))
 refine aT h Y (fun C h=>?_) (fun C h=>?_)
 ·refine aJ (.k (cT (e:=aN) (v:=aU) Bb vI I5 Y Y (Z.arr 8 (Z.int .u8))) (.f [4,5] ?_));refine aG ?_;obtain rfl:=pT h;exact bN (σ':=⟨[(4,.ptr 90 0),(5,.v Q8 (some (1:Int)))],[(90,.box 33 [.v aN aU])]⟩) (aC [(90,101)]) (bD A dD Y (bY Y Y Y sT jU) (RV.tmp Y) .nil Y)
 refine aH ?_;obtain⟨B,E,h⟩:=aB h;refine aJ (.a 1 ?_);refine .k (qN Y) (.k (eI Y vH Y vY Y (.snd .here) Y) ?_);refine .a 2 ?_;refine .k (aO (pJ E) PJ (.cons (.dir Y) (.cons (.dir Y) .nil))) (.f [4,5] ?_);refine aG ?_;obtain rfl:=pT h;exact bN (σ':=⟨[(4,.ptr 90 0),(5,.v Q8 B.2)],[(90,.box 33 [.v aN B.1])]⟩) (aC [(90,101)]) (bD A dD Y (bY Y Y Y sT jU) (RV.tmp Y) .nil Y)
theorem kE{a0 r}(h:fJ a0=some r):
 Con Tryz.prog 23 [.pst (Enc.pr Q0 Q2) a0] (.tup [.ref 0,.v Q8 r.2]) [(0,.arr 33 aN r.1)]:=by
 refine Con.of Tryz.func23 Y Tryz.ntmps23 Y ?_;intro S w z;unfold fJ at h;refine aJ (.k (aR 101 33 aN) (.f [0] ?_));refine aJ (.k (aR 102 33 aN) (.f [0,4] ?_));refine jD (.a 1 ?_);refine .k (qN Y) (.k (eI Y vH Y S3 Y (.fst .here) Y) (.f [0,4,11,12] ?_));obtain⟨M,F,G,H⟩:=bX h;refine jH (σs:=fun u:Int×jA=>⟨[(0,.pst (Enc.pr Q0 Q2) a0),(4,.ref 114),(11,.v Q0 a0.1),(12,.v Q0 u.1)],[(114,.arr 33 aN u.2)]⟩) (fun A:jA=>⟨[(4,.ref 114)],[(114,.arr 33 aN A)]⟩) F (aC [(114,102)]) ?_ ?_
 ·intro A B;have h:=G _ B;refine aL [2,3] ?_;cases h;exact aG (vP z dD Y (aC [(0,114)]))
 intro u L h;refine aL [0,4,11,12,13] ?_;refine aF ?_;refine aT h Y (fun C h=>?_) (fun C h=>?_)
 ·refine aH ?_;refine aF ?_;refine bF ?_;refine aL [0,4,5,11,12] ?_;obtain⟨N,I,h⟩:=aB h;refine aJ (.a 2 ?_);refine .k (aO (Eb I) Tryz.call56 (.cons (.dir Y) (.cons (.dir Y) .nil))) ?_;refine .a 3 ?_;refine .k (aM 120 Bc Y (.cons (Z.arr 8 (Z.int .u8)) .nil) Y) (.f [0,4,6,7,11,12] ?_);refine cR [0,4,6,7,11,12,22] ?_;refine aT h Y (fun D h=>?_) (fun D h=>?_)
  ·refine aJ (.a 1 ?_);refine .k (aR 121 33 aN) (.f [2,3] ?_);refine aG ?_;refine dZ ?_;cases h;refine gD fun E=>?_;obtain rfl:=H _ E;exact vP z dD Y (aC [(0,121)])
  refine aH ?_;obtain⟨O,K,h⟩:=aB h;refine fN (.a 2 ?_);refine .k (dM (e:=aN) Il jU Bc Y Y Y Y (.cons (.dir Y) .nil)) (.t (bR 122 K Y Y (.sl Y) Il Bb jU Y Y Y Y Y) (.f [0,4,11,12] ?_));refine bK ?_;refine eB [0,4,11,12] ?_;cases h;exact cE (aC [(114,122)])
 cases h;exact cN (cW (aC []))
theorem uH(A:Nat->Nat){b0 b1 b2 b3 b4 b5 b6 b7 b8 b9 b10 b11 b12 b13 b14 b15 b16 b17 b18 b19 r}(h:eW b0 b1 b2 b3 b4 b5 b6 b7 b8 b9 b10 b11 b12 b13 b14 b15 b16 b17 b18 b19=some r):
 ConM Tryz.prog 24 [.ptr 9000 1] [(9000,.box 75 [.v Q0 b0,.ptr 9100 0,.v Q0 b1,.v Q0 b2,.v Q0 b3,.ref 9050,.v Jq b5,.ref 9051,.v Q0 b7,.v Ml b8,.v Q0 b9,.v Q0 b10,.ref 9052,.v (Enc.cst (.pointer none) rfl) (),.v Q0 b12,.v Q0 b13,.v Q0 b14,.v Q0 b15,.v (Enc.pr Q0 Q0) b16,.ref 9053] (some (A 9000))),(9100,.box 115 [.v Q0 b18,.v Q2 b19] (some (A 9100))),(9050,.arr 33 aN b4),(9051,.mp Q0 Q7 b6),(9052,.arr 3 Q0 b11),(9053,.arr 141 (Enc.pr Enc.bool (Enc.pr Enc.bool (Enc.sl (Enc.int .u8)))) b17)] (.tup []) [(9000,.box 75 [.v Q0 b0,.ptr 9100 0,.v Q0 b1,.v Q0 b2,.v Q0 b3,.ref 400,.v Jq b5,.ref 401,.v Q0 b7,.v Ml b8,.v Q0 b9,.v Q0 b10,.ref 402,.v (Enc.cst (.pointer none) rfl) (),.v Q0 b12,.v Q0 b13,.v Q0 b14,.v Q0 b15,.v (Enc.pr Q0 Q0) b16,.ref 403] (some (A 9000))),(9100,.box 115 [.v Q0 b18,.v Q2 b19] (some (A 9100))),(400,.arr 33 aN b4),(401,.mp Q0 Q7 r),(402,.arr 3 Q0 b11),(403,.arr 141 (Enc.pr Enc.bool (Enc.pr Enc.bool (Enc.sl (Enc.int .u8)))) b17)]:=by
 refine ConM.of Tryz.func24 Y Tryz.ntmps24 Y ?_;intro S w R u;unfold eW at h;refine aF ?_;obtain⟨D,z,h⟩:=aB h;obtain⟨B,C,h⟩:=aB h;refine dI 14 mixed (by exact(.k (aD Y) (.k (aK Y) (.k (aA 10 Y uS Y Xv Y Y) (.k (aI Y Y Y MW Xv) (.k (aD Y) (.k (aK Y) (.k (aA 1 Y uS Y Js Y Y) (.k (aA 3 Y Dy Y S3 Y Y) (.k (aI Y Y Y G3 S3) (.k (aD Y) (.k (aK Y) (.k (aA 5 Y uS Y xC Y Y) (.k (aI Y Y Y Sd xC) (.k (Oo (pZ 102000 (bZ z) OF (.cons (.ref Y Y) .nil) Y FlatS.ref (FlatN.arr FlatN.nil)) (fun _=>(Sw.Sub.mk id (.cons Y (.frz Y Y) .nil) .nil Y)) Y) .nil))))))))))))))) (by exact(J.t (Lm C Y Y Y Y OS U3 (KeyE.int U3) Y) (J.kp [0] []))) ?_;refine dI 11 mixed (by exact(.k (aD Y) (.k (aK Y) (.k (aA 10 Y uS Y Xv Y Y) (.k (aI Y Y Y MW Xv) (.k (aD Y) (.k (aK Y) (.k (aA 1 Y uS Y Js Y Y) (.k (aA 3 Y Dy Y S3 Y Y) (.k (aI Y Y Y G3 S3) (.k (cO Y Y Y) (.k (cO Y Y Y) .nil)))))))))))) (by exact(J.t (Ln Y Y Y OS U3 (KeyE.int U3) Y) (J.kp [0] []))) ?_;refine Yf ?_;obtain rfl:=pT h;exact bN (σ':=⟨[(0,.ptr 9000 1)],[(9000,.box 75 [.v Q0 b0,.ptr 9100 0,.v Q0 b1,.v Q0 b2,.v Q0 b3,.ref 400,.v Jq b5,.ref 401,.v Q0 b7,.v Ml b8,.v Q0 b9,.v Q0 b10,.ref 402,.v (Enc.cst (.pointer none) Y) (),.v Q0 b12,.v Q0 b13,.v Q0 b14,.v Q0 b15,.v (Enc.pr Q0 Q0) b16,.ref 403] (some (A 9000))),(9100,.box 115 [.v Q0 b18,.v Q2 b19] (some (A 9100))),(400,.arr 33 aN b4),(401,.mp Q0 Q7 (Fa B (ar .sub .i64 (ar .sub .i64 b2 (4:Int)) (1:Int)))),(402,.arr 3 Q0 b11),(403,.arr 141 (Enc.pr Enc.bool (Enc.pr Enc.bool (Enc.sl (Enc.int .u8)))) b17)]⟩) (aC [(403,9053),(402,9052),(401,9051),(400,9050)]) (Di u Y (.cons Y (.cons Y (.cons Y (.cons Y (.cons Y (.cons Y .nil)))))))
theorem pB(A:Nat->Nat){b0 b1 b2 b3 b4 b5 b6 b7 b8 b9 b10 b11 b12 b13 b14 b15 b16 b17 b18 b19 r}(h:eM b0 b1 b2 b3 b4 b5 b6 b7 b8 b9 b10 b11 b12 b13 b14 b15 b16 b17 b18 b19=some r):
 ConM Tryz.prog 15 [.ptr 9000 0,.ptr 9100 0] [(9000,.box 75 [.v Q0 b0,.v (Enc.cst (.pointer none) rfl) (),.v Q0 b1,.v Q0 b2,.v Q0 b3,.v Q7 b4,.v Jq b5,.v (Enc.mpF Q0 Q7) b6,.v Q0 b7,.v Ml b8,.v Q0 b9,.v Q0 b10,.v nC b11,.v (Enc.cst (.pointer none) rfl) (),.v Q0 b12,.v Q0 b13,.v Q0 b14,.v Q0 b15,.v (Enc.pr Q0 Q0) b16,.ref 9050] (some (A 9000))),(9100,.box 115 [.v Q0 b18,.v Q2 b19] (some (A 9100))),(9050,.arr 141 (Enc.pr Enc.bool (Enc.pr Enc.bool (Enc.sl (Enc.int .u8)))) b17)] (.v Q8 r.1) [(9000,.box 75 [.v Q0 b0,.ptr 9100 0,.v Q0 r.2.1,.v Q0 r.2.2.1,.v Q0 r.2.2.2.1,.ref 400,.v Jq r.2.2.2.2.2.1,.ref 401,.v Q0 r.2.2.2.2.2.2.2.1,.v Ml r.2.2.2.2.2.2.2.2.1,.v Q0 r.2.2.2.2.2.2.2.2.2.1,.v Q0 r.2.2.2.2.2.2.2.2.2.2.1,.ref 402,.v (Enc.cst (.pointer none) rfl) (),.v Q0 b12,.v Q0 b13,.v Q0 b14,.v Q0 b15,.v (Enc.pr Q0 Q0) b16,.ref 403] (some (A 9000))),(9100,.box 115 [.v Q0 r.2.2.2.2.2.2.2.2.2.2.2.2.1,.v Q2 r.2.2.2.2.2.2.2.2.2.2.2.2.2] (some (A 9100))),(400,.arr 33 aN r.2.2.2.2.1),(401,.mp Q0 Q7 r.2.2.2.2.2.2.1),(402,.arr 3 Q0 r.2.2.2.2.2.2.2.2.2.2.2.1),(403,.arr 141 (Enc.pr Enc.bool (Enc.pr Enc.bool (Enc.sl (Enc.int .u8)))) b17)]:=by
 refine ConM.of Tryz.func15 Y Tryz.ntmps15 Y ?_;intro S w R z;unfold eM at h;refine aL [0,1] ?_;refine aJ (.a 5 ?_);refine .k (bE Kj (.cons (Z.cst (u:=(.pointer none)) Y) (.cons (Z.int .i64) (.cons (Z.int .i64) (.cons (Z.int .i64) .nil)))) (.cons Y (.dir Y) Y Y Y Y .nil)) (.k (Eu 101 Q0 Q7) (.k (eT (new:=[(103,.arr 33 aN ([]:jA)),(102,.arr 3 Q0 ([]:iY))]) AP (.cons (Z.cst (u:=(.pointer none)) Y) (.cons (Z.int .i64) (.cons (Z.int .i64) (.cons (Z.int .i64) (.ref 103 Y (.cons (Z.pr (Z.int .i64) (Z.pr (Z.sl Q5) (Z.pr (Z.sl nX) Z.bool))) (.cons (Z.mpF Q0 Q7) (.cons (Z.int .i64) (.cons (Z.pr (Z.int .i64) (Z.pr (Z.int .i64) (Z.sl Q4))) (.cons (Z.int .i64) (.cons (Z.int .i64) (.ref 102 Y .nil)))))))))))) (.cons (.cons .nil)) Y (.agg 0 4 Y Y Y Y Y Y (.cons Y (.dir Y) Y Y Y Y (.cons Y (.dir Y) Y Y Y Y .nil)))) ?_));refine .a 2 ?_;refine .t (uR 1 12 Y Y Y Y Y Y Y MY) (.f [0,1] ?_);obtain⟨F,C,h⟩:=aB h;refine jD (.a 5 ?_);refine .t (eA [9000,9100,103,101,102,9050] (uW [(9000,9000),(9100,9100),(9050,103),(9051,101),(9052,102),(9053,9050),(400,104),(401,105),(402,106),(403,107)]) (cU Y) (fun A=>yK A C) RL (fun A=>(.box Y (.box Y (.arr (.mp (.arr (.arr .nil Y) Y) Y) Y) Y) Y))) (.f [0,1,5] ?_);refine aL [0,1,5,25] ?_;refine aT h Y (fun B h=>?_) (fun B h=>?_)
 ·refine aL [0,1,4] ?_;cases h;exact aG (eG z Y (aC [(403,107),(402,106),(401,105),(400,104)]))
 refine aH ?_;obtain⟨G,D,h⟩:=aB h;refine aJ (.a 1 ?_);refine .k (pZ 108000 (kE D) QU (.cons (.lendP Y Y (.prm (.one _ _) (.one _ _))) .nil) Y (FlatS.tup (.ref (.v .nil))) (FlatN.arr FlatN.nil)) (.f [0,1,6,7] ?_);refine aL [0,1,7] ?_;refine aJ (.a 7 ?_);refine .k (Ae (bE xZ (.cons (Z.int .i64) (.cons (Z.sl Q5) (.cons (Z.sl nX) (.cons Z.bool .nil)))) (.cons Y (.dir Y) Y Y Y Y (.cons Y (.dir Y) Y Y Y Y .nil))) (.prm (.one _ _) (.prm (.one _ _) (.prm (.one _ _) (.one _ _)))) Y) (.f [0,1,7] ?_);obtain⟨H,E,h⟩:=aB h;refine aJ (.a 3 ?_);refine .t (eA [9000,9100,108000,105,106,107] (uW [(9000,9000),(9100,9100),(9050,108000),(9051,105),(9052,106),(9053,107),(400,109),(401,110),(402,111),(403,112)]) (cU Y) (fun A=>uH A E) Tryz.call24 (fun A=>(.box Y (.box Y (.arr (.mp (.arr (.arr .nil Y) Y) Y) Y) Y) Y))) (.f [0,1,7] ?_);refine aL [0,1,4] ?_;cases h;exact aG (eG z Y (aC [(403,112),(402,111),(401,110),(400,109)]))
theorem rI(A:Nat->Nat){b0 b1 b2 b3 b4 b5 b6 b7 b8 b9 b10 b11 b12 b13 b14 b15 b16 b17 b18 b19 b20 b21 r}(h:fP b0 b1 b2 b3 b4 b5 b6 b7 b8 b9 b10 b11 b12 b13 b14 b15 b16 b17 b18 b19 b20 b21=some r):
 ConM Tryz.prog 22 [.ptr 9000 18,.ptr 9200 0] [(9000,.box 75 [.v Q0 b0,.ptr 9100 0,.v Q0 b1,.v Q0 b2,.v Q0 b3,.ref 9050,.v Jq b5,.ref 9051,.v Q0 b7,.v Ml b8,.v Q0 b9,.v Q0 b10,.ref 9052,.v (Enc.cst (.pointer none) rfl) (),.v Q0 b12,.v Q0 b13,.v Q0 b14,.v Q0 b15,.v (Enc.pr Q0 Q0) b16,.ref 9053] (some (A 9000))),(9100,.box 115 [.v Q0 b18,.v Q2 b19] (some (A 9100))),(9200,.box 115 [.v Q0 b20,.v Q2 b21] (some (A 9200))),(9050,.arr 33 aN b4),(9051,.mp Q0 Q7 b6),(9052,.arr 3 Q0 b11),(9053,.arr 141 (Enc.pr Enc.bool (Enc.pr Enc.bool (Enc.sl (Enc.int .u8)))) b17)] (.v Q8 r.1) (iI 9000 (some (A 9000)) 9100 (some (A 9100)) 9200 (some (A 9200)) 400 401 402 403 b0 b1 b2 b3 b4 b5 b6 b7 b8 b9 b10 b11 b12 r.2.1 r.2.2.1 b15 b16 b17 b18 b19 r.2.2.2.1 r.2.2.2.2):=by
 refine ConM.of Tryz.func22 Y Tryz.ntmps22 Y ?_;intro S w R u;unfold fP at h;refine aL [0,1] ?_;refine aL [0,1] ?_;obtain⟨D,B,h⟩:=aB h;refine aJ (.a 1 ?_);refine .k (qO (nQ B) Tryz.call54 (.cons (.lendP Y Y (.prm (.one _ _) (.one _ _))) .nil) (FlatS.tup (.v (.v (.v .nil))))) (.f [0,1,5,6,7] ?_);refine cR [0,1,5,6,7,19] ?_;refine aT h Y (fun z h=>?_) (fun z h=>?_)
 ·refine aL [0,1,4] ?_;cases h;exact aG (eG u Y (aC [(403,9053),(402,9052),(401,9051),(400,9050)]))
 refine aH ?_;refine aL [0,1] ?_;refine aF ?_;obtain⟨E,C,h⟩:=aB h;refine dI 9 mixed (by exact(.k (aD Y) (.k (aD Y) (.k (aK Y) (.k (aA 20 Y Dy Y S3 Y Y) (.k (aI Y Y Y G3 S3) (.k (aD Y) (.k (aK Y) (.k (aA 21 Y Dy Y S3 Y Y) (.k (aI Y Y Y G3 S3) .nil)))))))))) (by exact(J.t (sZ (H:=[9200]) (K:=[9200]) (Av [(9000,9200)]) (dY _) (fun A=>gN A C) QV (.cons (.dir Y) (.cons (.nilS _) (.cons (.dir Y) (.cons (.dir Y) .nil)))) (fun A=>(.box Y .nil)) (fun A=>(.box Y .nil Y)) (fun _=>rfl) Y Y (fun _=>rfl) Y Y) (jz [0,1,4]))) ?_;cases h;exact aG (eG u Y (aC [(403,9053),(402,9052),(401,9051),(400,9050)]))
theorem vJ(A:Nat->Nat){b0 b1 b2 b3 b4 b5 b6 b7 b8 b9 b10 b11 b12 b13 b14 b15 b16 b17 b18 b19 b20 b21 r}(h:fW b0 b1 b2 b3 b4 b5 b6 b7 b8 b9 b10 b11 b12 b13 b14 b15 b16 b17 b18 b19 b20 b21=some r):
 ConM Tryz.prog 16 [.ptr 9000 0,.ptr 9200 0] [(9000,.box 75 [.v Q0 b0,.ptr 9100 0,.v Q0 b1,.v Q0 b2,.v Q0 b3,.ref 9050,.v Jq b5,.ref 9051,.v Q0 b7,.v Ml b8,.v Q0 b9,.v Q0 b10,.ref 9052,.v (Enc.cst (.pointer none) rfl) (),.v Q0 b12,.v Q0 b13,.v Q0 b14,.v Q0 b15,.v (Enc.pr Q0 Q0) b16,.ref 9053] (some (A 9000))),(9100,.box 115 [.v Q0 b18,.v Q2 b19] (some (A 9100))),(9200,.box 115 [.v Q0 b20,.v Q2 b21] (some (A 9200))),(9050,.arr 33 aN b4),(9051,.mp Q0 Q7 b6),(9052,.arr 3 Q0 b11),(9053,.arr 141 (Enc.pr Enc.bool (Enc.pr Enc.bool (Enc.sl (Enc.int .u8)))) b17)] (.v Q8 r.1) (iI 9000 (some (A 9000)) 9100 (some (A 9100)) 9200 (some (A 9200)) 400 401 402 403 b0 b1 b2 b3 b4 b5 b6 b7 b8 b9 b10 b11 r.2.1 r.2.2.1 r.2.2.2.1 r.2.2.2.2.1 r.2.2.2.2.2.1 b17 b18 b19 r.2.2.2.2.2.2.1 r.2.2.2.2.2.2.2):=by
 refine ConM.of Tryz.func16 Y Tryz.ntmps16 Y ?_;intro S w R z;unfold fW at h;refine aL [0,1] ?_;refine aJ (.a 5 ?_);refine .k (bE Kj (.cons (Z.cst (u:=(.pointer none)) Y) (.cons (Z.int .i64) (.cons (Z.int .i64) (.cons (Z.int .i64) .nil)))) (.cons Y (.dir Y) Y Y Y Y .nil)) (.k (bE Kk (.cons (Z.int .i64) (.cons (Z.int .i64) .nil)) (.cons Y (.dir Y) Y Y Y Y .nil)) (.k (bE AR (.cons (Z.cst (u:=(.pointer none)) Y) (.cons (Z.int .i64) (.cons (Z.int .i64) (.cons (Z.int .i64) (.cons (Z.int .i64) (.cons (Z.pr (Z.int .i64) (Z.int .i64)) .nil)))))) (.agg 0 4 Y Y Y Y Y Y (.cons Y (.dir Y) Y Y Y Y (.cons Y (.agg Y (.same (.same .nil)) (.prm (.one _ _) (.one _ _)) Y) Y Y Y Y .nil)))) ?_));refine .a 2 ?_;refine .t (uR 13 6 Y Y Y Y Y Y Y RD) (.f [0,1] ?_);obtain⟨C,B,h⟩:=aB h;refine aJ (.a 5 ?_);refine .t (eA [9000,9100,9200,9050,9051,9052,9053] (uW [(9000,9000),(9100,9100),(9200,9200),(9050,9050),(9051,9051),(9052,9052),(9053,9053),(400,101),(401,102),(402,103),(403,104)]) (cU Y) (fun A=>rI A B) RL (fun A=>(.box Y (.box Y (.box Y (.arr (.mp (.arr (.arr .nil Y) Y) Y) Y) Y) Y) Y))) (.f [0,1,4] ?_);cases h;exact aG (eG z Y (aC [(403,104),(402,103),(401,102),(400,101)]))
def uI(r:(Option Q3)×(Option Int)):Slot:=match r.1 with | none=> .tup [.v (Enc.cst (.pointer none) rfl) (),.v Q8 r.2] | some z=> .tup [.ptr 300 0,.v Q8 r.2]
def uJ(r:(Option Q3)×(Option Int)):List (Nat×Ent):=match r.1 with | none=>[] | some z=>(iI 300 none 301 none 302 none 400 401 402 403 z.1 z.2.1 z.2.2.1 z.2.2.2.1 z.2.2.2.2.1 z.2.2.2.2.2.1 z.2.2.2.2.2.2.1 z.2.2.2.2.2.2.2.1 z.2.2.2.2.2.2.2.2.1 z.2.2.2.2.2.2.2.2.2.1 z.2.2.2.2.2.2.2.2.2.2.1 z.2.2.2.2.2.2.2.2.2.2.2.1 z.2.2.2.2.2.2.2.2.2.2.2.2.1 z.2.2.2.2.2.2.2.2.2.2.2.2.2.1 z.2.2.2.2.2.2.2.2.2.2.2.2.2.2.1 z.2.2.2.2.2.2.2.2.2.2.2.2.2.2.2.1 z.2.2.2.2.2.2.2.2.2.2.2.2.2.2.2.2.1 z.2.2.2.2.2.2.2.2.2.2.2.2.2.2.2.2.2.1 z.2.2.2.2.2.2.2.2.2.2.2.2.2.2.2.2.2.2.1 z.2.2.2.2.2.2.2.2.2.2.2.2.2.2.2.2.2.2.2.1 z.2.2.2.2.2.2.2.2.2.2.2.2.2.2.2.2.2.2.2.2.1 z.2.2.2.2.2.2.2.2.2.2.2.2.2.2.2.2.2.2.2.2.2)
theorem zJ{a0 r}(h:iO a0=some r):
 Con Tryz.prog 12 [.v Q0 a0] (uI r) (uJ r):=by
 refine Con.of Tryz.func12 Y Tryz.ntmps12 Y ?_;intro S w z;unfold iO at h;refine aJ (.k (dQ Y) (.f [0] ?_));refine aJ (.a 1 ?_);refine .k (eT (new:=[(101,.arr 141 (Enc.pr Enc.bool (Enc.pr Enc.bool (Enc.sl (Enc.int .u8)))) ([]:(List (Bool×Bool×iY))))]) MJ (.cons (Z.int .i64) (.cons (Z.cst (u:=(.pointer none)) Y) (.cons (Z.int .i64) (.cons (Z.int .i64) (.cons (Z.int .i64) (.cons (Z.sl aN) (.cons (Z.pr (Z.int .i64) (Z.pr (Z.sl Q5) (Z.pr (Z.sl nX) Z.bool))) (.cons (Z.mpF Q0 Q7) (.cons (Z.int .i64) (.cons (Z.pr (Z.int .i64) (Z.pr (Z.int .i64) (Z.sl Q4))) (.cons (Z.int .i64) (.cons (Z.int .i64) (.cons (Z.sl Q0) (.cons (Z.cst (u:=(.pointer none)) Y) (.cons (Z.int .i64) (.cons (Z.int .i64) (.cons (Z.int .i64) (.cons (Z.int .i64) (.cons (Z.pr (Z.int .i64) (Z.int .i64)) (.ref 101 Y .nil)))))))))))))))))))) (.cons .nil) Y (.cons Y (.dir Y) Y Y Y Y .nil)) (.k (yR 102 Y Y) (.f [0,4] ?_));refine aF ?_;obtain⟨N,B,h⟩:=aB h;rcases hz2:N.1 with _ | z2
 ·replace h:=uP hz2 h;refine fN (.a 1 ?_);refine .k (aO (sH hz2 B) PI (.cons (.dir Y) .nil)) (.f [0,4,5,6] ?_);refine cR [0,4,5,6,18] ?_;refine aT h Y (fun E h=>?_) (fun E h=>?_)
  ·refine aJ (.a 1 ?_);refine .k (dQ Y) (.f [2,3] ?_);cases h;exact aG (bD z dD Y (RV.tmp Y) (RV.tmp Y) .nil Y)
  refine aH ?_;refine aF ?_;obtain⟨O,C,h⟩:=aB h;rcases hz5:O.1 with _ | z5
  ·replace h:=uP hz5 h;refine fN (.a 1 ?_);refine .k (aO (sH hz5 C) PI (.cons (.dir Y) .nil)) (.f [0,4,5,6,7] ?_);refine cR [0,4,5,6,7,26] ?_;refine aT h Y (fun F h=>?_) (fun F h=>?_)
   ·refine aJ (.a 1 ?_);refine .k (dQ Y) (.f [2,3] ?_);cases h;exact aG (bD z dD Y (RV.tmp Y) (RV.tmp Y) .nil Y)
   refine aH ?_;refine aL [4,5,7] ?_;refine aF ?_;refine aF ?_;cases h
  ·replace h:=uQ hz5 h;refine fN (.a 1 ?_);refine .k (eU 105000 (sI hz5 C) PI (.cons (.dir Y) .nil) Y) (.f [0,4,5,6,7] ?_);refine cR [0,4,5,6,7,26] ?_;refine aT h Y (fun G h=>?_) (fun G h=>?_)
   ·refine aJ (.a 1 ?_);refine .k (dQ Y) (.f [2,3] ?_);cases h;exact aG (bD z dD Y (RV.tmp Y) (RV.tmp Y) .nil Y)
   refine aH ?_;refine aL [4,5,7] ?_;refine aF ?_;refine aF ?_;cases h
 ·replace h:=uQ hz2 h;refine fN (.a 1 ?_);refine .k (eU 106000 (sI hz2 B) PI (.cons (.dir Y) .nil) Y) (.f [0,4,5,6] ?_);refine cR [0,4,5,6,18] ?_;refine aT h Y (fun H h=>?_) (fun H h=>?_)
  ·refine aJ (.a 1 ?_);refine .k (dQ Y) (.f [2,3] ?_);cases h;exact aG (bD z dD Y (RV.tmp Y) (RV.tmp Y) .nil Y)
  refine aH ?_;refine aF ?_;obtain⟨P,D,h⟩:=aB h;rcases hz10:P.1 with _ | aa
  ·replace h:=uP hz10 h;refine fN (.a 1 ?_);refine .k (aO (sH hz10 D) PI (.cons (.dir Y) .nil)) (.f [0,4,5,6,7] ?_);refine cR [0,4,5,6,7,26] ?_;refine aT h Y (fun I h=>?_) (fun I h=>?_)
   ·refine aJ (.a 1 ?_);refine .k (dQ Y) (.f [2,3] ?_);cases h;exact aG (bD z dD Y (RV.tmp Y) (RV.tmp Y) .nil Y)
   refine aH ?_;refine aL [4,5,7] ?_;obtain⟨U,Q,h⟩:=aB h;refine jD (.a 2 ?_);refine .t (eA [102,106000,101] (uW [(9000,102),(9100,106000),(9050,101),(400,108),(401,109),(402,110),(403,111)]) (cU Y) (fun A=>pB A Q) Tryz.call15 (fun A=>(.box Y (.box Y (.arr (.mp (.arr (.arr .nil Y) Y) Y) Y) Y) Y))) (.f [4,7,8] ?_);refine aL [4,7,8,44] ?_;refine aT h Y (fun K h=>?_) (fun K h=>?_)
   ·refine aJ (.a 1 ?_);refine .k (dQ Y) (.f [2,3] ?_);cases h;exact aG (bD z dD Y (RV.tmp Y) (RV.tmp Y) .nil Y)
   refine aH ?_;refine aF ?_;cases h
  ·replace h:=uQ hz10 h;refine fN (.a 1 ?_);refine .k (eU 112000 (sI hz10 D) PI (.cons (.dir Y) .nil) Y) (.f [0,4,5,6,7] ?_);refine cR [0,4,5,6,7,26] ?_;refine aT h Y (fun L h=>?_) (fun L h=>?_)
   ·refine aJ (.a 1 ?_);refine .k (dQ Y) (.f [2,3] ?_);cases h;exact aG (bD z dD Y (RV.tmp Y) (RV.tmp Y) .nil Y)
   refine aH ?_;refine aL [4,5,7] ?_;obtain⟨V,R,h⟩:=aB h;refine jD (.a 2 ?_);refine .t (eA [102,106000,101] (uW [(9000,102),(9100,106000),(9050,101),(400,113),(401,114),(402,115),(403,116)]) (cU Y) (fun A=>pB A R) Tryz.call15 (fun A=>(.box Y (.box Y (.arr (.mp (.arr (.arr .nil Y) Y) Y) Y) Y) Y))) (.f [4,7,8] ?_);refine aL [4,7,8,44] ?_;refine aT h Y (fun M h=>?_) (fun M h=>?_)
   ·refine aJ (.a 1 ?_);refine .k (dQ Y) (.f [2,3] ?_);cases h;exact aG (bD z dD Y (RV.tmp Y) (RV.tmp Y) .nil Y)
   refine aH ?_;obtain⟨X,T,h⟩:=aB h;refine aJ (.a 3 ?_);refine .t (eA [102,106000,112000,113,114,115,116] (uW [(9000,102),(9100,106000),(9200,112000),(9050,113),(9051,114),(9052,115),(9053,116),(400,117),(401,118),(402,119),(403,120)]) (cU Y) (fun A=>vJ A T) Tryz.call16 (fun A=>(.box Y (.box Y (.box Y (.arr (.mp (.arr (.arr .nil Y) Y) Y) Y) Y) Y) Y))) (.f [2,3] ?_);cases h;exact aG (vP z dD Y (aC [(300,102),(403,120),(302,112000),(402,119),(401,118),(400,117),(301,106000)]))
theorem Fo{a0:Int}{r:(Option Q3)×(Option Int)}(hz:r.1=none)(h:iO a0=some r):Con Tryz.prog 12 [.v Q0 a0] (.tup [.v (Enc.cst (.pointer none) rfl) (),.v Q8 r.2]) []:=by
 have:=zJ h;unfold uI uJ at this;rw[hz] at this;exact this
theorem Fp{a0:Int}{r:(Option Q3)×(Option Int)}{z:Q3}(hz:r.1=some z)(h:iO a0=some r):Con Tryz.prog 12 [.v Q0 a0] (.tup [.ptr 300 0,.v Q8 r.2]) (iI 300 none 301 none 302 none 400 401 402 403 z.1 z.2.1 z.2.2.1 z.2.2.2.1 z.2.2.2.2.1 z.2.2.2.2.2.1 z.2.2.2.2.2.2.1 z.2.2.2.2.2.2.2.1 z.2.2.2.2.2.2.2.2.1 z.2.2.2.2.2.2.2.2.2.1 z.2.2.2.2.2.2.2.2.2.2.1 z.2.2.2.2.2.2.2.2.2.2.2.1 z.2.2.2.2.2.2.2.2.2.2.2.2.1 z.2.2.2.2.2.2.2.2.2.2.2.2.2.1 z.2.2.2.2.2.2.2.2.2.2.2.2.2.2.1 z.2.2.2.2.2.2.2.2.2.2.2.2.2.2.2.1 z.2.2.2.2.2.2.2.2.2.2.2.2.2.2.2.2.1 z.2.2.2.2.2.2.2.2.2.2.2.2.2.2.2.2.2.1 z.2.2.2.2.2.2.2.2.2.2.2.2.2.2.2.2.2.2.1 z.2.2.2.2.2.2.2.2.2.2.2.2.2.2.2.2.2.2.2.1 z.2.2.2.2.2.2.2.2.2.2.2.2.2.2.2.2.2.2.2.2.1 z.2.2.2.2.2.2.2.2.2.2.2.2.2.2.2.2.2.2.2.2.2):=by
 have:=zJ h;unfold uI uJ at this;rw[hz] at this;exact this
theorem Iq{a0 r}(h:tB a0=some r):
 Con Tryz.prog 17 [.v Q0 a0] (.v (Dn [25,27,28,30,32,34,36,38,40,42,43]) r) []:=by
 refine Con.of Tryz.func17 Y Tryz.ntmps17 Y ?_;intro S w u;unfold tB at h;refine aJ (.k (Ax [25,27,28,30,32,34,36,38,40,42,43] 11 Y) (.f [0] ?_));refine cR [3] ?_;refine bF ?_;refine aL [3,4] ?_;refine aT h Y (fun z h=>?_) (fun z h=>?_)
 ·refine aJ (.k (qC [25,27,28,30,32,34,36,38,40,42,43] 0 Y kW) (.f [2] ?_));refine aG ?_;refine dZ ?_;cases h;exact aY u dD Y (RV.tmp Y) .nil Y
 refine aL [3,6] ?_;refine aT h Y (fun A h=>?_) (fun A h=>?_)
 ·refine aJ (.k (qC [25,27,28,30,32,34,36,38,40,42,43] 1 Y kW) (.f [2] ?_));refine aG ?_;refine dZ ?_;cases h;exact aY u dD Y (RV.tmp Y) .nil Y
 refine aL [3,8] ?_;refine aT h Y (fun B h=>?_) (fun B h=>?_)
 ·refine aJ (.k (qC [25,27,28,30,32,34,36,38,40,42,43] 2 Y kW) (.f [2] ?_));refine aG ?_;refine dZ ?_;cases h;exact aY u dD Y (RV.tmp Y) .nil Y
 refine aL [3,10] ?_;refine aT h Y (fun C h=>?_) (fun C h=>?_)
 ·refine aJ (.k (qC [25,27,28,30,32,34,36,38,40,42,43] 3 Y kW) (.f [2] ?_));refine aG ?_;refine dZ ?_;cases h;exact aY u dD Y (RV.tmp Y) .nil Y
 refine aL [3,12] ?_;refine aT h Y (fun D h=>?_) (fun D h=>?_)
 ·refine aJ (.k (qC [25,27,28,30,32,34,36,38,40,42,43] 4 Y kW) (.f [2] ?_));refine aG ?_;refine dZ ?_;cases h;exact aY u dD Y (RV.tmp Y) .nil Y
 refine aL [3,14] ?_;refine aT h Y (fun E h=>?_) (fun E h=>?_)
 ·refine aJ (.k (qC [25,27,28,30,32,34,36,38,40,42,43] 5 Y kW) (.f [2] ?_));refine aG ?_;refine dZ ?_;cases h;exact aY u dD Y (RV.tmp Y) .nil Y
 refine aL [3,16] ?_;refine aT h Y (fun F h=>?_) (fun F h=>?_)
 ·refine aJ (.k (qC [25,27,28,30,32,34,36,38,40,42,43] 6 Y kW) (.f [2] ?_));refine aG ?_;refine dZ ?_;cases h;exact aY u dD Y (RV.tmp Y) .nil Y
 refine aL [3,18] ?_;refine aT h Y (fun G h=>?_) (fun G h=>?_)
 ·refine aJ (.k (qC [25,27,28,30,32,34,36,38,40,42,43] 7 Y kW) (.f [2] ?_));refine aG ?_;refine dZ ?_;cases h;exact aY u dD Y (RV.tmp Y) .nil Y
 refine aL [3,20] ?_;refine aT h Y (fun H h=>?_) (fun H h=>?_)
 ·refine aJ (.k (qC [25,27,28,30,32,34,36,38,40,42,43] 8 Y kW) (.f [2] ?_));refine aG ?_;refine dZ ?_;cases h;exact aY u dD Y (RV.tmp Y) .nil Y
 refine aL [3,22] ?_;refine aT h Y (fun I h=>?_) (fun I h=>?_)
 ·refine aJ (.k (qC [25,27,28,30,32,34,36,38,40,42,43] 9 Y kW) (.f [2] ?_));refine aG ?_;refine dZ ?_;cases h;exact aY u dD Y (RV.tmp Y) .nil Y
 refine aL [24] ?_;refine aT h Y (fun K h=>?_) (fun K h=>?_)
 ·refine aJ (.k (qC [25,27,28,30,32,34,36,38,40,42,43] 10 Y kW) (.f [2] ?_));refine aG ?_;refine dZ ?_;cases h;exact aY u dD Y (RV.tmp Y) .nil Y
 refine aH ?_;refine bK ?_;refine aJ (.k (Ax [25,27,28,30,32,34,36,38,40,42,43] 11 Y) (.f [2] ?_));cases h;exact aG (aY u dD Y (RV.tmp Y) .nil Y)
theorem kV{a0 a1 r}(h:lA a0 a1=some r):
 Con Tryz.prog 111 [.v Q1 a0,.v Q0 a1] (.v Enc.bool r) []:=by
 refine Con.of Tryz.func111 Y Tryz.ntmps111 Y ?_;intro S w A;unfold lA at h;refine aL [0,1] ?_;refine aL [0,1,5] ?_;refine cR [1,5,8,9,10] ?_;obtain⟨O,I,K,L⟩:=bX h;refine jH (σs:=fun z:Int×Int=>⟨[(1,.v Q0 a1),(5,.v Q0 z.1),(8,.v Q1 a0),(9,.v Q0 (a0.length:Int)),(10,.v Q0 z.2)],[]⟩) (fun C:Unit=>⟨[],[]⟩) I (aC []) ?_ ?_
 ·intro C D;have h:=K _ D;refine aL [4] ?_;cases h;exact aG (aY A dD Y (RV.tmp Y) .nil Y)
 intro z N h;refine aL [1,5,8,9,10,11] ?_;refine aF ?_;refine aT h Y (fun E h=>?_) (fun E h=>?_)
 ·refine aH ?_;refine aF ?_;refine bF ?_;obtain⟨B,P,h⟩:=aB h;refine aJ (.a 2 ?_);refine .k (aM 104 Dz Y (.cons (Z.int .i64) (.cons (Z.arr 8 (Z.int .u8)) .nil)) Y) (.t (bI Y Y Y Y (.prm (.one _ _) (.one _ _)) jE) (.f [1,5,7,8,9,10] ?_));refine aF ?_;refine aF ?_;obtain⟨M,u,h⟩:=aB h;refine dL (σ':=⟨[(1,.v Q0 a1),(7,.ptr 104 0),(8,.v Q1 a0),(9,.v Q0 (a0.length:Int)),(10,.v Q0 z.2),(23,.v Enc.bool M)],[(104,.box 124 [.v Q0 B.1,.v aN B.2])]⟩) ?_ ?_
  ·refine cd u (fun F u=>?_) (fun F u=>?_)
   ·cases u;exact jy
   cases u;exact jy
  refine aT h Y (fun G h=>?_) (fun G h=>?_)
  ·refine aL [4] ?_;refine aG ?_;refine dZ ?_;cases h;refine gD fun H=>?_;obtain rfl:=L _ H;exact aY A dD Y (RV.tmp Y) .nil Y
  refine aH ?_;refine eB [1,5,8,9,10] ?_;refine bK ?_;refine eB [1,5,8,9,10] ?_;cases h;exact cE (aC [])
 cases h;exact cN (cW (aC []))
theorem sD{a0 a1 r}(h:kQ a0 a1=some r):
 Con Tryz.prog 92 [.v Jq a0,.v Q0 a1] (.v Q8 r) []:=by
 refine Con.of Tryz.func92 Y Tryz.ntmps92 Y ?_;intro S w A;unfold kQ at h;refine aJ (.k (bU 101 Y (.prm (.one _ _) (.prm (.one _ _) (.prm (.one _ _) (.one _ _)))) Y) (.f [1,2] ?_));refine aF ?_;refine aF ?_;obtain⟨U,u,h⟩:=aB h;refine dL (σ':=⟨[(1,.v Q0 a1),(2,.ptr 101 0),(22,.v Enc.bool U)],[(101,.box 61 [.v Q0 a0.1,.v Q1 a0.2.1,.v (Enc.sl nX) a0.2.2.1,.v Enc.bool a0.2.2.2])]⟩) ?_ ?_
 ·refine cd u (fun G u=>?_) (fun G u=>?_)
  ·cases u;exact jy
  refine cd u (fun H u=>?_) (fun H u=>?_)
  ·cases u;exact jy
  refine cd u (fun I u=>?_) (fun I u=>?_)
  ·cases u;exact jy
  cases u;exact jy
 refine aT h Y (fun K h=>?_) (fun K h=>?_)
 ·refine aL [4] ?_;cases h;exact aG (aY A dD Y (RV.tmp Y) .nil Y)
 refine aH ?_;refine cR [1,2,27] ?_;refine aT h Y (fun L h=>?_) (fun L h=>?_)
 ·refine aL [4] ?_;cases h;exact aG (aY A dD Y (RV.tmp Y) .nil Y)
 refine aH ?_;refine aF ?_;refine aF ?_;obtain⟨V,u,h⟩:=aB h;refine dL (σ':=⟨[(1,.v Q0 a1),(2,.ptr 101 0),(43,.v Enc.bool V)],[(101,.box 61 [.v Q0 a0.1,.v Q1 a0.2.1,.v (Enc.sl nX) a0.2.2.1,.v Enc.bool a0.2.2.2])]⟩) ?_ ?_
 ·obtain⟨ae,C,u⟩:=aB u;refine cd u (fun z u=>?_) (fun z u=>?_)
  ·cases u;exact(J.cons (.none Y) (aA 1 Y PM Y Hi Y Y) Y Y (J.cons (.none Y) (aI Y Y Y DP Hi) Y Y (J.cons (.none Y) (aD Y) Y Y (J.cons (.none Y) (aO (kV C) DF (.cons (.dir Y) (.cons (.dir Y) .nil))) Y Y (J.cons (.none Y) (Er Y) Y Y (J.cons (.none Y) (aD Y) Y Y (J.left (GK.unmet 34 Y Y Y z) Y (J.left (GK.unmet 34 Y Y Y z) Y (J.left (GK.unmet 34 Y Y Y z) Y (J.left (sW 37 Y Y Y) Y (J.left (sW 37 Y Y Y) Y (J.left (sW 37 Y Y Y) Y (J.left (sW 37 Y Y Y) Y (J.left (GK.unmet 34 Y Y Y z) Y (J.cons (.none Y) (Eh z Y Y) Y Y (J.fin (aC [])))))))))))))))))
  refine cd u (fun M u=>?_) (fun M u=>?_)
  ·cases u;refine ja 3 ?_;exact(J.k (aO (kV C) DF (.cons (.dir Y) (.cons (.dir Y) .nil))) jy)
  cases u;refine ja 3 ?_;exact(J.k (aO (kV C) DF (.cons (.dir Y) (.cons (.dir Y) .nil))) jy)
 refine aT h Y (fun N h=>?_) (fun N h=>?_)
 ·refine aL [4] ?_;cases h;exact aG (aY A dD Y (RV.tmp Y) .nil Y)
 refine aH ?_;refine cR [1,2,46,47,48] ?_;obtain⟨af,X,aa,ab⟩:=bX h;refine jH (σs:=fun B:Int=>⟨[(1,.v Q0 a1),(2,.ptr 101 0),(46,.v (Enc.sl nX) a0.2.2.1),(47,.v Q0 (a0.2.2.1.length:Int)),(48,.v Q0 B)],[(101,.box 61 [.v Q0 a0.1,.v Q1 a0.2.1,.v (Enc.sl nX) a0.2.2.1,.v Enc.bool a0.2.2.2])]⟩) (fun E:Unit=>⟨[],[]⟩) X (aC []) ?_ ?_
 ·intro E F;have h:=aa _ F;refine aL [4] ?_;cases h;exact aG (aY A dD Y (RV.tmp Y) .nil Y)
 intro B ad h;refine aL [1,2,46,47,48,49] ?_;refine aF ?_;refine aT h Y (fun O h=>?_) (fun O h=>?_)
 ·refine aH ?_;refine aF ?_;refine bF ?_;obtain⟨ah,ai,h⟩:=aB h;refine aJ (.a 3 ?_);refine .k (aM 113 Nu Y (.cons (Z.int .i64) (.cons (Z.sl Q5) .nil)) Y) ?_;refine .a 1 ?_;refine .t (bI Y Y Y Y (.prm (.one _ _) (.one _ _)) uE) (.f [1,2,5,6,46,47,48] ?_);refine aF ?_;obtain⟨ac,u,h⟩:=aB h;refine dL (σ':=⟨[(1,.v Q0 a1),(2,.ptr 101 0),(46,.v (Enc.sl nX) a0.2.2.1),(47,.v Q0 (a0.2.2.1.length:Int)),(48,.v Q0 B),(76,.v Enc.bool ac)],[(101,.box 61 [.v Q0 a0.1,.v Q1 a0.2.1,.v (Enc.sl nX) a0.2.2.1,.v Enc.bool a0.2.2.2])]⟩) ?_ ?_
  ·obtain⟨aj,D,u⟩:=aB u;refine cd u (fun P u=>?_) (fun P u=>?_)
   ·cases u;refine ja 3 ?_;exact(J.k (aO (kV D) DF (.cons (.dir Y) (.cons (.dir Y) .nil))) jy)
   refine cd u (fun Q u=>?_) (fun Q u=>?_)
   ·cases u;refine ja 3 ?_;exact(J.k (aO (kV D) DF (.cons (.dir Y) (.cons (.dir Y) .nil))) jy)
   cases u;refine ja 3 ?_;exact(J.k (aO (kV D) DF (.cons (.dir Y) (.cons (.dir Y) .nil))) jy)
  refine aT h Y (fun R h=>?_) (fun R h=>?_)
  ·refine aL [4] ?_;refine aG ?_;refine dZ ?_;cases h;refine gD fun T=>?_;obtain rfl:=ab _ T;exact aY A dD Y (RV.tmp Y) .nil Y
  refine aH ?_;refine bK ?_;refine eB [1,2,46,47,48] ?_;cases h;exact cE (aC [])
 cases h;exact cN (cW (aC []))
end Go.Cn
set_option maxRecDepth 100000
set_option maxHeartbeats 4000000
namespace Go.Cn
open Go Go.Sw Go.Mo Go.Proofs
variable {gobj:Obj}
theorem nR{a0 r}(h:iP a0=some r):
 Con Tryz.prog 112 [.v (Enc.slN nX) a0] (.ref 0) [(0,.arr 175 nX r)]:=by
 refine Con.of Tryz.func112 Y Tryz.ntmps112 Y ?_;intro S w u;unfold iP at h;refine aJ (.k (aR 101 175 nX) (.f [0] ?_));refine jD (.a 1 ?_);refine .k (wH Y DI) (.f [0,4] ?_);refine aT h Y (fun z h=>?_) (fun z h=>?_)
 ·refine aJ (.k (aR 102 175 nX) (.f [2] ?_));cases h;exact aG (vO u dD Y (aC [(0,102)]))
 refine aH ?_;obtain⟨B,A,h⟩:=aB h;refine aJ (.k (qM (e:=nX) 103 DI uE Nu Y Y Y Y .nil) ?_);refine .a 1 ?_;refine .t (bR 104 A Y Y (.slN Y) DI OI uE Y Y Y Y Y) (.f [2] ?_);cases h;exact aG (vO u dD Y (aC [(0,104)]))
theorem pO{a0:Hg}{r:Hg}(h:fX a0=some r):
  Con Tryz.prog 112 [.v (Enc.sl nX) a0] (.ref 0) [(0,.arr 175 nX r)]:=
 qP fun b u=>nR (by cases b with | true=>rw[u rfl] at h ⊢;exact h | false=>exact Dg h)
theorem vK{a0 r}(h:mJ a0=some r):
 Con Tryz.prog 93 [.v Jq a0] (.agg [.v Q0 r.1,.ref 0,.ref 1,.v Enc.bool r.2.2.2]) [(0,.arr 124 Q5 r.2.1),(1,.arr 175 nX r.2.2.1)]:=by
 refine Con.of Tryz.func93 Y Tryz.ntmps93 Y ?_;intro S w D;unfold mJ at h;refine aJ (.k (bU 101 Y (.prm (.one _ _) (.prm (.one _ _) (.prm (.one _ _) (.one _ _)))) Y) (.k (aM 102 OV Y (.cons (Z.int .i64) (.cons (Z.sl Q5) (.cons (Z.sl nX) (.cons Z.bool .nil)))) Y) (.f [1,2] ?_)));obtain⟨A,G,h⟩:=aB h;refine aJ (.a 2 ?_);refine .k (eU 103000 (eF G) QW (.cons (.dir Y) .nil) Y) (.f [1,2] ?_);obtain⟨H,I,h⟩:=aB h;refine aJ (.a 2 ?_);refine .k (eU 104000 (pO I) Tryz.call112 (.cons (.dir Y) .nil) Y) (.f [1,2] ?_);refine cR [1,2,14,15,16] ?_;obtain⟨O,K,L,P⟩:=bX h;refine jH (σs:=fun z:Int×Hg=>⟨[(1,.ptr 101 0),(2,.ptr 102 0),(14,.ref 104000),(15,.v Q0 (H.length:Int)),(16,.v Q0 z.1)],[(101,.box 61 [.v Q0 a0.1,.ref 103000,.ref 104000,.v Enc.bool a0.2.2.2]),(102,.box 61 [.v Q0 (0:Int),.v Q1 ([]:Q6),.v (Enc.sl nX) ([]:Hg),.v Enc.bool false]),(104000,.arr 175 nX z.2),(103000,.arr 124 Q5 A)]⟩) (fun u:Hg=>⟨[(1,.ptr 101 0),(2,.ptr 102 0)],[(101,.box 61 [.v Q0 a0.1,.ref 103000,.ref 104000,.v Enc.bool a0.2.2.2]),(102,.box 61 [.v Q0 (0:Int),.v Q1 ([]:Q6),.v (Enc.sl nX) ([]:Hg),.v Enc.bool false]),(103000,.arr 124 Q5 A),(104000,.arr 175 nX u)]⟩) K (aC []) ?_ ?_
 ·intro u E;have h:=L _ E;refine aJ (.k (gO Y Y Y Dx xX) (.f [2] ?_));refine aG ?_;obtain rfl:=pT h;exact bN (σ':=⟨[(2,.ptr 90 0)],[(90,.box 61 [.v Q0 a0.1,.ref 0,.ref 1,.v Enc.bool a0.2.2.2]),(1,.arr 175 nX u),(0,.arr 124 Q5 A)]⟩) (aC [(90,102),(1,104000),(0,103000)]) (aY D dD Y (Et Y Y Y Dx xX) (.cons Y (.cons Y .nil)) Y)
 intro z N h;refine aL [1,2,14,15,16,17] ?_;refine aF ?_;refine aT h Y (fun F h=>?_) (fun F h=>?_)
 ·refine aH ?_;refine aF ?_;refine bF ?_;obtain⟨Q,B,h⟩:=aB h;refine aJ (.a 1 ?_);refine .k (iJ B Y Y Y DI uE) (.k (jC (cX B).2.2 Y Y .here Mm uE) (.k (aM 112 Nu Y (.cons (Z.int .i64) (.cons (Z.sl Q5) .nil)) Y) ?_));refine .a 1 ?_;refine .t (bI Y Y Y Y (.prm (.one _ _) (.one _ _)) uE) (.f [1,2,3,4,14,15,16] ?_);obtain⟨R,M,h⟩:=aB h;obtain⟨T,C,h⟩:=aB h;refine dI 8 mixed (by exact(.k (aA 2 Y PM Y RU Y Y) (.k (aI Y Y Y Tryz.isAgg59 RU) (.k (aD Y) (.k (aA 1 Y Xw Y Hi Y Y) (.k (aI Y Y Y DP Hi) (.k (Oo (eU 113000 (eF M) QW (.cons (.dir Y) .nil) Y) (fun _=>(Sw.Sub.mk id (.cons Y (.frz Y Y) .nil) .nil Y)) Y) (.k (iJ C Y Y Y DI uE) (.k (zX 1 Y Xw Y Hi Y Y) .nil))))))))) (by exact(J.t (Sr (cX C).2.2 Y Y Y (.snd .here) Hi) (J.kp [1,2,14,15,16] []))) ?_;refine bK ?_;refine eB [1,2,14,15,16] ?_;cases h;exact cE (aC [])
 cases h;exact cN (cW (aC []))
theorem Be{a0 a1 r}(h:rS a0 a1=some r):
 Con Tryz.prog 95 [.v Q5 a0,.v Q0 a1] (.v Q0 r) []:=by
 refine Con.of Tryz.func95 Y Tryz.ntmps95 Y ?_;intro S w u;unfold rS at h;refine aJ (.k (bU 101 Y (.prm (.one _ _) (.one _ _)) Y) (.f [1,2] ?_));refine aL [4] ?_;cases h;exact aG (aY u dD Y (RV.tmp Y) .nil Y)
theorem iZ{a0 a1 r}(h:bM a0 a1=some r):
 Con Tryz.prog 94 [.v Q1 a0,.v Q0 a1,.fnc 95 []] (.tup [.v Q0 r.1,.v Enc.bool r.2]) []:=by
 refine Con.of Tryz.func94 Y Tryz.ntmps94 Y ?_;intro S w C;unfold bM at h;refine aL [0,1,2] ?_;refine aL [0,1,2,8] ?_;refine aL [0,1,2,8,9,10] ?_;refine aF ?_;obtain⟨N,G,H,O⟩:=bX h;refine jH (σs:=fun A:Int×Int=>⟨[(0,.v Q1 a0),(1,.v Q0 a1),(2,.fnc 95 []),(8,.v Q0 (a0.length:Int)),(9,.v Q0 A.1),(10,.v Q0 A.2)],[]⟩) (fun z:Int=>⟨[(0,.v Q1 a0),(1,.v Q0 a1),(2,.fnc 95 []),(8,.v Q0 (a0.length:Int)),(9,.v Q0 z)],[]⟩) G (aC []) ?_ ?_
 ·intro z D;have h:=H _ D;refine aF ?_;obtain⟨I,u,h⟩:=aB h;refine dL (σ':=⟨[(6,.v Q0 z),(7,.v Enc.bool I)],[]⟩) ?_ ?_
  ·refine cd u (fun B u=>?_) (fun B u=>?_)
   ·obtain⟨P,Q,u⟩:=aB u;obtain⟨R,K,u⟩:=aB u;cases u;refine ja 11 ?_;exact(J.g B (sN Y (Be K) Tryz.call95 (.cons (.dir Y) (.cons (.dir Y) .nil))) jy)
   cases u;exact jy
  cases h;exact aG (bD C dD Y (RV.tmp Y) (RV.tmp Y) .nil Y)
 intro A M h;refine cR [0,1,2,8,9,10,17] ?_;refine aT h Y (fun E h=>?_) (fun E h=>?_)
 ·refine aH ?_;refine bF ?_;refine aJ (.a 4 ?_);refine .k (eK (.inr Y) (by decide) Y Y) (.f [0,1,2,8,9,10,11] ?_);obtain⟨T,U,h⟩:=aB h;obtain⟨V,L,h⟩:=aB h;refine aJ (.a 6 ?_);refine .k (sN Y (Be L) Tryz.call95 (.cons (.dir Y) (.cons (.dir Y) .nil))) (.f [0,1,2,8,9,10,11,31] ?_);refine aT h Y (fun F h=>?_) (fun F h=>?_)
  ·refine eB [0,1,2,8,9,10] ?_;cases h;exact bK (cE (aC []))
  refine eB [0,1,2,8,9,10] ?_;cases h;exact bK (cE (aC []))
 cases h;exact cN (cW (aC []))
theorem sV(A0:Nat->Nat){a0:Q6}{a1:Int}{a2:Q6}{r:Q6}(h:fS a0 a1 a2=some r):
 ConM Tryz.prog 96 [.ref 9000,.v Q0 a1,.v Q1 a2] [(9000,.arr 124 Q5 a0)] (.ref 0) [(0,.arr 124 Q5 r)]:=by
  obtain⟨h0,h1,h2,rfl⟩:=FA h;obtain⟨i,rfl⟩:∃i:Nat,a1=(i:Int):=⟨a1.toNat,by omega⟩
  obtain⟨A,B,hA,rfl⟩:∃A B,A.length=i/\a0=A++B:=⟨a0.take i,a0.drop i,by rw[aAp];omega,(aAt _ _).symm⟩
  subst hA;have H:(A++B).take ((A.length:Int)).toNat++(a2++(A++B).drop ((A.length:Int)).toNat)=A++(a2++B):=by simp
  rw[H];clear H h h0 h1;have I:(A++B).length=A.length+B.length:=sM;have N:Sw.sub (A++B) (A.length:Int) ((A++B).length:Int)=some B:=by rw[Sw.sub,aAn (by omega),aAf,aAf,aDd,aB5]
  have D:ar .add .i64 ((A++B).length:Int) (a2.length:Int)=((A.length+B.length+a2.length:Nat):Int):=by simp only[ar,IntKind.wrap_i64];omega
  have O:ar .sub .i64 (ar .add .i64 ((A++B).length:Int) (a2.length:Int)) (A.length:Int)=((B.length+a2.length:Nat):Int):=by rw[D];simp only[ar,IntKind.wrap_i64];omega
  have z:ar .add .i64 (A.length:Int) (a2.length:Int)=((A.length+a2.length:Nat):Int):=by simp only[ar,IntKind.wrap_i64];omega
  refine ConM.of Tryz.func96 Y Tryz.ntmps96 Y ?_;intro S w R F
  repeat refine aF ?_
  refine fN (.k (kK Q5) (.f [0,1,2] ?_))
  repeat refine aF ?_
  refine fN (.a 2 ?_);refine .k (Ka N Y Y Y xD jE) (.f [0,1,2] ?_)
  repeat refine aF ?_
  refine eB [0,1,2,7] ?_
  repeat refine aF ?_
  refine eB [0,1,2,7,16] ?_
  repeat refine aF ?_
  rcases aC8 (cm .eql (a2.length:Int) (0:Int)) with u | u
  ·have G:a2=[]:=aAu (by simp[cm] at u;simp[u]);have P:A++B=A++(a2++B):=by rw[G];rfl
   refine uN Y u ?_
   repeat refine aF ?_
   refine eB [0,1,2,6,7,16,17] ?_;refine aG ?_;rw[P];exact eG F Y (aC [(0,9000)])
  have Q:0<a2.length:=by
   simp[cm] at u;exact aBr.2 u
  have G:a2≠ []:=aBr.1 Q;refine zY Y u ?_;clear u
  repeat first | refine aH ?_ | refine aF ?_
  refine eB [0,1,2,7,8] ?_
  repeat refine aF ?_
  refine eB [0,1,2,7,8,22] ?_
  repeat refine aF ?_
  rcases aC8 (cm .eql (A.length:Int) ((A++B).length:Int)) with u | u
  ·have C:B=[]:=aAu (by simp[cm] at u;omega);have T:Sw.app (A++B) a2=some (A++(a2++B)):=by subst C;rw[Sw.app,aAn h2];simp
   refine uN Y u ?_
   repeat refine aF ?_
   refine fN (.a 2 ?_);refine .t (bR 1 T Y Y (.sl Y) xD Jr jE Y Y Y Y Y) (.f [1,2,6,7,8,24,25] ?_);refine aG ?_;exact eG F Y (aC [(0,1)])
  have C:B≠ []:=by
   rintro rfl;simp[cm] at u
  have ac:=aBr.2 C;refine zY Y u ?_;clear u
  repeat first | refine aH ?_ | refine aF ?_
  refine Oq (t:=0) (g':=[(1,.v Q0 (A.length:Int)),(2,.v Q1 a2),(7,.v Q0 (a2.length:Int)),(8,.v Q0 ((A++B).length:Int))]) Y C Y (by exact(.cons Y (.cons Y (.cons Y (.cons Y .nil))))) Y fun b p q c ae M af=>?_;have E:(Q5).n=9:=rfl;refine fN (.a 4 ?_);refine .k (BG Y xD) (.k (BH Y Y) (.f [0,1,2,7,8,31] ?_))
  repeat refine aF ?_
  rcases aC8 (cm .gtr (ar .add .i64 ((A++B).length:Int) (a2.length:Int)) (c:Int)) with u | u
  ·have ad:c<A.length+(B.length+a2.length):=by
    rw[D] at u;simp[cm] at u;omega
   refine uN Y u ?_;clear u
   repeat refine aF ?_
   refine fN (.a 2 ?_);refine .k (Dl (e:=Q5) A.length Y (by omega) Y Y Y xD jE) ?_;refine .a 5 ?_;refine .k (EZ (z0:=_) (zv:=((0:Int),aU)) 1 Y Y Y Y Y O (by omega) (by omega) (by omega) Y xD U3 Jr jE Y (Z.pr (Z.int .i64) (Z.arr 8 (Z.int .u8))) Y) (.f [0,1,2,7,8,9] ?_);have K:Sw.sub (A++List.replicate (B.length+a2.length) ((0:Int),aU)) (A.length:Int) (((A++List.replicate (B.length+a2.length) ((0:Int),aU))).length:Int)=some (List.replicate (B.length+a2.length) ((0:Int),aU)):=by
    rw[Sw.sub,aAn (by simp only[sM,aBi];omega),aAf,aAf,aDd,aB5]
   have U:a2.length<=((A++List.replicate (B.length+a2.length) ((0:Int),aU))).length - Int.toNat (A.length:Int):=by
    simp only[sM,aBi];omega
   repeat refine aF ?_
   refine fN (.a 2 ?_);refine .k (Ka K Y Y Y xD jE) ?_;refine .a 1 ?_;refine .t (Lh K Y Y (.sl Y) U xD jE Y) (.f [0,1,2,7,8,9] ?_);have V:List.take (Int.toNat (A.length:Int)) (A++List.replicate (B.length+a2.length) ((0:Int),aU))++a2++List.drop (Int.toNat (A.length:Int)+a2.length) (A++List.replicate (B.length+a2.length) ((0:Int),aU))=(A++(a2++List.replicate B.length ((0:Int),aU))):=by
    simp[aD4,List.drop_replicate]
   rw[V];have L:Sw.sub (A++(a2++List.replicate B.length ((0:Int),aU))) (ar .add .i64 (A.length:Int) (a2.length:Int)) (((A++(a2++List.replicate B.length ((0:Int),aU)))).length:Int)=some (List.replicate B.length ((0:Int),aU)):=by
    rw[z,Sw.sub,aAn (by simp only[sM,aBi];omega),aAf,aAf,aDd,<-aAm,List.drop_left' (by rw[sM])]
   have X:B.length<=((A++(a2++List.replicate B.length ((0:Int),aU)))).length - Int.toNat (ar .add .i64 (A.length:Int) (a2.length:Int)):=by
    rw[z];simp only[sM,aBi];omega
   repeat refine aF ?_
   refine dI 8 mixed (by exact(.k (aD Y) (.k (aD Y) (.k (aD Y) (.k (cO Y Y Y) (.k (Ka L Y Y Y xD jE) (.k (aD Y) (.k (aD Y) (.k (yW (e:=Q5) (p+A.length*(Q5).n) B.length (c - A.length) Y (by omega) (by omega) Y (by omega) Y Y Y xD jE) .nil))))))))) (by exact(J.t (Lh L Y Y (.seg Y Y Y Y (by omega)) X xD jE Y) (J.kp [0,1,2,7,8,9,53] []))) ?_;have aa:(List.take (Int.toNat (ar .add .i64 (A.length:Int) (a2.length:Int))) (A++(a2++List.replicate B.length ((0:Int),aU)))++B++List.drop (Int.toNat (ar .add .i64 (A.length:Int) (a2.length:Int))+B.length) (A++(a2++List.replicate B.length ((0:Int),aU))))=A++(a2++B):=by
    rw[z,aAf,<-aAm A a2 (List.replicate _ _),List.take_left' (by rw[sM]),aDx (by simp only[sM,aBi];omega)];simp
   rw[aa]
   repeat refine aF ?_
   refine eB [0,1,2,6,7,8,9,53,55] ?_;refine aG ?_;exact eG F Y (aC [(0,1)])
  ·have ab:A.length+B.length+a2.length<=c:=by
    rw[D] at u;simp[cm] at u;omega
   have hq:a2.length*(Q5).n<=q:=by
    rw[E,I] at M;rw[E];omega
   refine zY Y u ?_;clear u
   repeat first | refine aH ?_ | refine aF ?_
   refine fN (.a 4 ?_);refine .k (Dl (e:=Q5) (A.length+B.length+a2.length) D (by omega) Y Y Y xD jE) (.f [0,1,2,7,8] ?_)
   repeat refine aF ?_
   refine fN (.a 5 ?_);refine .k (yW (e:=Q5) (p+(A.length+a2.length)*(Q5).n) B.length (c - (A.length+a2.length)) z (by omega) (by omega) Y (by omega) Y Y Y xD jE) (.k (Sy Tryz.func113 (by kernel_rfl) (by kernel_rfl) (by kernel_rfl) (R:=4) (by kernel_rfl) Y Y Y G C Y xD jE) (.f [0,1,2,7,8,68] ?_))
   repeat refine aF ?_
   refine uN Y Y ?_
   repeat refine aF ?_
   refine dI 8 mixed (by exact(.k (aD Y) (.k (aD Y) (.k (aD Y) (.k (cO Y Y Y) (.k (yW (e:=Q5) (p+(A.length+a2.length)*(Q5).n) B.length (c - (A.length+a2.length)) z (by omega) (by omega) Y (by omega) Y Y Y xD jE) (.k (aD Y) (.k (aD Y) (.k (yW (e:=Q5) (p+A.length*(Q5).n) (B.length+a2.length) (c - A.length) Y (by omega) (by omega) Y (by omega) Y Y Y xD jE) .nil))))))))) (by exact(J.t (Sx (m:=a2.length) Y Y Y Y Y Y Y hq (by omega) xD jE Y) (J.kp [0,1,2,7,8] []))) ?_
   repeat refine aF ?_
   refine fN (.a 2 ?_);refine .k (yW (e:=Q5) (p+A.length*(Q5).n) (B.length+a2.length) (c - A.length) Y (by omega) (by omega) Y (by omega) Y Y Y xD jE) ?_;refine .a 1 ?_;refine .t (Wk Y Y (.sl Y) Y Y Y (by omega) xD jE Y) (.f [0] ?_);refine vM (Ai (t:=0) (by simp only[sM];omega) ab (by rw[E,I] at M;rw[E];omega) (by omega) Y) ?_
   repeat refine aF ?_
   refine eB [0,6,83] ?_;refine aG ?_;exact eG F Y (aC [(0,9000)])
theorem Ny{a0 a1 a2 r}(h:sO a0 a1 a2=some r):
 Con Tryz.prog 57 [.v Jq a0,.v Q0 a1,.v Q5 a2] (.tup [.v Jq r.1,.v Q8 r.2]) []:=by
 refine Con.of Tryz.func57 Y Tryz.ntmps57 Y ?_;intro S w B;unfold sO at h;refine aJ (.k (bU 101 Y (.prm (.one _ _) (.prm (.one _ _) (.prm (.one _ _) (.one _ _)))) Y) (.k (bU 102 Y (.prm (.one _ _) (.one _ _)) Y) (.k (aM 103 OV Y (.cons (Z.int .i64) (.cons (Z.sl Q5) (.cons (Z.sl nX) (.cons Z.bool .nil)))) Y) (.f [1,3,5,6] ?_))));obtain⟨I,K,h⟩:=aB h;refine jD (.k (aX Y Y (.prm (.one _ _) (.prm (.one _ _) (.prm (.one _ _) (.one _ _)))) Dx xX) ?_);refine .a 1 ?_;refine .k (aO (sD K) RS (.cons (.dir Y) (.cons (.dir Y) .nil))) (.f [1,3,5,6,8] ?_);refine aL [1,3,5,6,8,15] ?_;refine aT h Y (fun F h=>?_) (fun F h=>?_)
 ·refine aJ (.k (bE xZ (.cons (Z.int .i64) (.cons (Z.sl Q5) (.cons (Z.sl nX) (.cons Z.bool .nil)))) .nil) (.f [6,7] ?_));refine aG ?_;obtain rfl:=pT h;exact bN (σ':=⟨[(6,.ptr 90 0),(7,.v Q8 I)],[(90,.box 61 [.v Q0 (0:Int),.v Q1 ([]:Q6),.v (Enc.sl nX) ([]:Hg),.v Enc.bool false])]⟩) (aC [(90,103)]) (bD B dD Y (aS Y Y (.prm (.one _ _) (.prm (.one _ _) (.prm (.one _ _) (.one _ _)))) Dx xX) (RV.tmp Y) .nil Y)
 refine aH ?_;refine aF ?_;refine aF ?_;obtain⟨L,z,h⟩:=aB h;refine dL (σ':=⟨[(3,.ptr 101 0),(5,.ptr 102 0),(6,.ptr 103 0),(26,.v Enc.bool L)],[(101,.box 61 [.v Q0 a0.1,.v Q1 a0.2.1,.v (Enc.sl nX) a0.2.2.1,.v Enc.bool a0.2.2.2]),(102,.box 124 [.v Q0 a2.1,.v aN a2.2]),(103,.box 61 [.v Q0 (0:Int),.v Q1 ([]:Q6),.v (Enc.sl nX) ([]:Hg),.v Enc.bool false])]⟩) ?_ ?_
 ·refine cd z (fun G z=>?_) (fun G z=>?_)
  ·cases z;exact jy
  cases z;exact jy
 refine aT h Y (fun H h=>?_) (fun H h=>?_)
 ·refine aJ (.k (bE xZ (.cons (Z.int .i64) (.cons (Z.sl Q5) (.cons (Z.sl nX) (.cons Z.bool .nil)))) .nil) (.f [6,7] ?_));refine aG ?_;obtain rfl:=pT h;exact bN (σ':=⟨[(6,.ptr 90 0),(7,.v Q8 (some (1:Int)))],[(90,.box 61 [.v Q0 (0:Int),.v Q1 ([]:Q6),.v (Enc.sl nX) ([]:Hg),.v Enc.bool false])]⟩) (aC [(90,103)]) (bD B dD Y (aS Y Y (.prm (.one _ _) (.prm (.one _ _) (.prm (.one _ _) (.one _ _)))) Dx xX) (RV.tmp Y) .nil Y)
 refine aH ?_;obtain⟨u,M,h⟩:=aB h;refine aJ (.k (aX Y Y (.prm (.one _ _) (.prm (.one _ _) (.prm (.one _ _) (.one _ _)))) Dx xX) (.k (eU 105000 (vK M) Tryz.call93 (.cons (.dir Y) .nil) Y) (.f [3,5,6] ?_)));obtain⟨R,N,h⟩:=aB h;refine aJ (.a 4 ?_);refine .k (qO (iZ N) Tryz.call94 (.cons (.ref Y Y) (.cons (.dir Y) (.cons .fn .nil))) (FlatS.tup (.v (.v .nil)))) (.f [3,5,6,9,10] ?_);refine cR [3,5,6,9,39] ?_;obtain⟨O,P,h⟩:=gC h;refine uT (fun C:Q6=>⟨[(3,.ptr 101 0),(6,.ptr 103 0)],[(101,.box 61 [.v Q0 u.1,.ref 108,.ref 105001,.v Enc.bool u.2.2.2]),(103,.box 61 [.v Q0 (0:Int),.v Q1 ([]:Q6),.v (Enc.sl nX) ([]:Hg),.v Enc.bool false]),(108,.arr 124 Q5 C),(105001,.arr 175 nX u.2.2.1)]⟩) (fun x=>O x=some r) Y ?_ ?_ ?_
 ·intro C h;rw[P] at h;refine aJ (.k (gO Y Y Y Dx xX) (.f [6,7] ?_));refine aG ?_;obtain rfl:=pT h;exact bN (σ':=⟨[(6,.ptr 90 0),(7,.v Q8 (none:Option Int))],[(90,.box 61 [.v Q0 u.1,.v Q1 C,.v (Enc.sl nX) u.2.2.1,.v Enc.bool u.2.2.2])]⟩) (aC [(90,103)]) (bD B dD Y (aS Y Y (.prm (.one _ _) (.prm (.one _ _) (.prm (.one _ _) (.one _ _)))) Dx xX) (RV.tmp Y) .nil Y)
 ·intro D;replace h:=jP D h;obtain⟨T,E,h⟩:=aB h;refine fN (.a 3 ?_);refine .k (aX Y Y (.prm (.one _ _) (.one _ _)) Xt jE) (.k (iJ E Y Y Y xD jE) (.t (qB (cX E).2.2 Y Y Y jE) (.f [3,6] ?_)));exact cF h (aC [(108,105000)])
 ·intro D;replace h:=jQ D h;obtain⟨U,Q,h⟩:=aB h;refine fN (.a 3 ?_);refine .k (aX Y Y (.prm (.one _ _) (.one _ _)) Xt jE) (.k (dM (e:=Q5) xD jE Dz Y Y Y Y (.cons (.dir Y) .nil)) (.t (eA [105000] (Av [(9000,105000),(0,109)]) (dY _) (fun A=>sV A Q) Tryz.call96 (fun A=>(.arr .nil Y))) (.f [3,6] ?_)));exact cF h (aC [(108,109)])
theorem tN(A:Nat->Nat){a1 a2 b0 b1 b2 b3 b4 b5 b6 b7 b8 b9 b10 b11 b12 b13 b14 b15 b16 b17 b18 b19 b20 b21 r}(h:eD a1 a2 b0 b1 b2 b3 b4 b5 b6 b7 b8 b9 b10 b11 b12 b13 b14 b15 b16 b17 b18 b19 b20 b21=some r):
 ConM Tryz.prog 26 [.ptr 9000 0,.v Q0 a1,.v aN a2] (iI 9000 (some (A 9000)) 9100 (some (A 9100)) 9200 (some (A 9200)) 9050 9051 9052 9053 b0 b1 b2 b3 b4 b5 b6 b7 b8 b9 b10 b11 b12 b13 b14 b15 b16 b17 b18 b19 b20 b21) (.v Q8 r.1) (iI 9000 (some (A 9000)) 9100 (some (A 9100)) 9200 (some (A 9200)) 400 401 402 403 b0 b1 b2 b3 r.2.1 r.2.2 b6 b7 b8 b9 b10 b11 b12 b13 b14 b15 b16 b17 b18 b19 b20 b21):=by
 refine ConM.of Tryz.func26 Y Tryz.ntmps26 Y ?_;intro S w R u;unfold eD at h;refine aJ (.k (bU 101 Y (.one _ _) Y) (.f [0,1,5] ?_));refine aF ?_;obtain⟨D,C,h⟩:=aB h;refine dI 19 mixed (by exact(.k (aD Y) (.k (aK Y) (.k (aA 1 Y Rw Y MY Y Y) (.k (aA 6 Y uS Y xX Y Y) (.k (aI Y Y Y Dx xX) (.k (aD Y) (.k (aK Y) (.k (aA 0 Y Rw Y S3 Y Y) (.k (aI Y Y Y G3 S3) (.k (aD Y) (.k (aI Y Y Y sT jU) (.k (bE vA (.cons (Z.int .i64) (.cons (Z.arr 8 (Z.int .u8)) .nil)) (.cons Y (.dir Y) Y Y Y Y (.cons Y (.dir Y) Y Y Y Y .nil))) (.k (aO (Ny C) Tryz.call57 (.cons (.dir Y) (.cons (.dir Y) (.cons (.agg Y (.same (.same .nil)) (.prm (.one _ _) (.one _ _)) Y) .nil)))) (.k (aD Y) (.k (bH Y Y) (.k (bH Y Y) (.k (aM 103 OV Y (.cons (Z.int .i64) (.cons (Z.sl Q5) (.cons (Z.sl nX) (.cons Z.bool .nil)))) Y) (JP4.storeAll (.none Y) Y Y Y Y (.prm (.one _ _) (.prm (.one _ _) (.prm (.one _ _) (.one _ _)))) xX (.k (bB Y) .nil)))))))))))))))))))) (by exact(J.kp [0,1,5,7,8] [])) ?_;refine cR [0,1,5,7,8,26] ?_;refine aT h Y (fun B h=>?_) (fun B h=>?_)
 ·refine aL [0,6] ?_;cases h;exact aG (eG u Y (aC [(403,9053),(402,9052),(401,9051),(400,9050)]))
 refine aH ?_;refine aF ?_;obtain⟨E,z,h⟩:=aB h;refine dI 14 mixed (by exact(.k (aD Y) (.k (aD Y) (.k (aK Y) (.k (aA 1 Y Rw Y MY Y Y) (.k (aA 5 Y uS Y xC Y Y) (.k (aI Y Y Y Sd xC) (.k (aD Y) (.k (aX Y Y (.prm (.one _ _) (.prm (.one _ _) (.prm (.one _ _) (.one _ _)))) Dx xX) (.k (aI Y Y Y sT jU) (.k (aK Y) (.k (aA 1 Y Rw Y MY Y Y) (.k (aA 6 Y uS Y xX Y Y) (JP4.store (.none Y) Y Y Y Y Y Y Y xX (.k (iJ z Y Y Y Il jU) .nil))))))))))))))) (by exact(J.t (qB (cX z).2.2 Y Y Y jU) (J.kp [0] []))) ?_;refine aL [0,6] ?_;cases h;exact aG (eG u Y (aC [(403,9053),(402,9052),(401,9051),(400,9050)]))
theorem Bm(A:Nat->Nat){a1 b0 b1 b2 b3 b4 b5 b6 b7 b8 b9 b10 b11 b12 b13 b14 b15 b16 b17 b18 b19 b20 b21 r}(h:mU a1 b0 b1 b2 b3 b4 b5 b6 b7 b8 b9 b10 b11 b12 b13 b14 b15 b16 b17 b18 b19 b20 b21=some r):
 ConM Tryz.prog 25 [.ptr 9000 0,.v sB a1] (iI 9000 (some (A 9000)) 9100 (some (A 9100)) 9200 (some (A 9200)) 9050 9051 9052 9053 b0 b1 b2 b3 b4 b5 b6 b7 b8 b9 b10 b11 b12 b13 b14 b15 b16 b17 b18 b19 b20 b21) (.tup [.v aN r.1,.v Q8 r.2.1]) (iI 9000 (some (A 9000)) 301 none 302 none 400 401 402 403 r.2.2.1 r.2.2.2.1 r.2.2.2.2.1 r.2.2.2.2.2.1 r.2.2.2.2.2.2.1 r.2.2.2.2.2.2.2.1 r.2.2.2.2.2.2.2.2.1 r.2.2.2.2.2.2.2.2.2.1 r.2.2.2.2.2.2.2.2.2.2.1 r.2.2.2.2.2.2.2.2.2.2.2.1 r.2.2.2.2.2.2.2.2.2.2.2.2.1 r.2.2.2.2.2.2.2.2.2.2.2.2.2.1 r.2.2.2.2.2.2.2.2.2.2.2.2.2.2.1 r.2.2.2.2.2.2.2.2.2.2.2.2.2.2.2.1 r.2.2.2.2.2.2.2.2.2.2.2.2.2.2.2.2.1 r.2.2.2.2.2.2.2.2.2.2.2.2.2.2.2.2.2.1 r.2.2.2.2.2.2.2.2.2.2.2.2.2.2.2.2.2.2.1 r.2.2.2.2.2.2.2.2.2.2.2.2.2.2.2.2.2.2.2.1 r.2.2.2.2.2.2.2.2.2.2.2.2.2.2.2.2.2.2.2.2.1 r.2.2.2.2.2.2.2.2.2.2.2.2.2.2.2.2.2.2.2.2.2.1 r.2.2.2.2.2.2.2.2.2.2.2.2.2.2.2.2.2.2.2.2.2.2.1 r.2.2.2.2.2.2.2.2.2.2.2.2.2.2.2.2.2.2.2.2.2.2.2):=by
 refine ConM.of Tryz.func25 Y Tryz.ntmps25 Y ?_;intro S w R u;unfold mU at h;refine aJ (.k (bU 101 Y (.prm (.one _ _) (.prm (.one _ _) (.prm (.one _ _) (.one _ _)))) Y) (.k (aM 102 Bc Y (.cons (Z.arr 8 (Z.int .u8)) .nil) Y) (.f [0,3,4] ?_)));obtain⟨z,B,h⟩:=aB h;refine aJ (.k (cT (e:=aN) (v:=aU) Bb vI I5 Y Y (Z.arr 8 (Z.int .u8))) ?_);refine .a 5 ?_;refine .t (eA [9000,9100,9200,9050,9051,9052,9053] (uW [(9000,9000),(9100,9100),(9200,9200),(9050,9050),(9051,9051),(9052,9052),(9053,9053),(400,103),(401,104),(402,105),(403,106)]) (cU Y) (fun A=>tN A B) Tryz.call26 (fun A=>(.box Y (.box Y (.box Y (.arr (.mp (.arr (.arr .nil Y) Y) Y) Y) Y) Y) Y))) (.f [0,4,5] ?_);refine aG ?_;obtain rfl:=pT h;exact mQ [(0,.ptr 9000 0),(4,.ptr 90 0),(5,.v Q8 z.1)] [(90,.box 33 [.v aN aU])] (aC [(90,102),(403,106),(302,9200),(402,105),(401,104),(400,103),(301,9100)]) (dA u Y (bY Y Y Y sT jU) (RV.tmp Y) (.cons Y (.cons Y (.cons Y (.cons Y (.cons Y (.cons Y (.cons Y .nil))))))))
theorem Bn(A:Nat->Nat){a1 b0 b1 b2 b3 b4 b5 b6 b7 b8 b9 b10 b11 b12 b13 b14 b15 b16 b17 b18 b19 b20 b21 r}(h:mV a1 b0 b1 b2 b3 b4 b5 b6 b7 b8 b9 b10 b11 b12 b13 b14 b15 b16 b17 b18 b19 b20 b21=some r):
 ConM Tryz.prog 27 [.ptr 9000 0,.v sB a1] (iI 9000 (some (A 9000)) 9100 (some (A 9100)) 9200 (some (A 9200)) 9050 9051 9052 9053 b0 b1 b2 b3 b4 b5 b6 b7 b8 b9 b10 b11 b12 b13 b14 b15 b16 b17 b18 b19 b20 b21) (.tup [.v aN r.1,.v Q8 r.2.1]) (iI 9000 (some (A 9000)) 301 none 302 none 400 401 402 403 r.2.2.1 r.2.2.2.1 r.2.2.2.2.1 r.2.2.2.2.2.1 r.2.2.2.2.2.2.1 r.2.2.2.2.2.2.2.1 r.2.2.2.2.2.2.2.2.1 r.2.2.2.2.2.2.2.2.2.1 r.2.2.2.2.2.2.2.2.2.2.1 r.2.2.2.2.2.2.2.2.2.2.2.1 r.2.2.2.2.2.2.2.2.2.2.2.2.1 r.2.2.2.2.2.2.2.2.2.2.2.2.2.1 r.2.2.2.2.2.2.2.2.2.2.2.2.2.2.1 r.2.2.2.2.2.2.2.2.2.2.2.2.2.2.2.1 r.2.2.2.2.2.2.2.2.2.2.2.2.2.2.2.2.1 r.2.2.2.2.2.2.2.2.2.2.2.2.2.2.2.2.2.1 r.2.2.2.2.2.2.2.2.2.2.2.2.2.2.2.2.2.2.1 r.2.2.2.2.2.2.2.2.2.2.2.2.2.2.2.2.2.2.2.1 r.2.2.2.2.2.2.2.2.2.2.2.2.2.2.2.2.2.2.2.2.1 r.2.2.2.2.2.2.2.2.2.2.2.2.2.2.2.2.2.2.2.2.2.1 r.2.2.2.2.2.2.2.2.2.2.2.2.2.2.2.2.2.2.2.2.2.2.1 r.2.2.2.2.2.2.2.2.2.2.2.2.2.2.2.2.2.2.2.2.2.2.2):=by
 refine ConM.of Tryz.func27 Y Tryz.ntmps27 Y ?_;intro S w R u;unfold mV at h;refine aJ (.k (bU 101 Y (.prm (.one _ _) (.prm (.one _ _) (.prm (.one _ _) (.one _ _)))) Y) (.k (aM 102 Bc Y (.cons (Z.arr 8 (Z.int .u8)) .nil) Y) (.f [0,3,4] ?_)));obtain⟨z,B,h⟩:=aB h;refine aJ (.k (cT (e:=aN) (v:=aU) Bb vI I5 Y Y (Z.arr 8 (Z.int .u8))) ?_);refine .a 3 ?_;refine .k (cT (e:=aN) (v:=aU) Bb vI I5 Y Y (Z.arr 8 (Z.int .u8))) (.t (eA [9000,9100,9200,9050,9051,9052,9053] (uW [(9000,9000),(9100,9100),(9200,9200),(9050,9050),(9051,9051),(9052,9052),(9053,9053),(400,103),(401,104),(402,105),(403,106)]) (cU Y) (fun A=>tN A B) Tryz.call26 (fun A=>(.box Y (.box Y (.box Y (.arr (.mp (.arr (.arr .nil Y) Y) Y) Y) Y) Y) Y))) (.f [0,4,5] ?_));refine aG ?_;obtain rfl:=pT h;exact mQ [(0,.ptr 9000 0),(4,.ptr 90 0),(5,.v Q8 z.1)] [(90,.box 33 [.v aN aU])] (aC [(90,102),(403,106),(302,9200),(402,105),(401,104),(400,103),(301,9100)]) (dA u Y (bY Y Y Y sT jU) (RV.tmp Y) (.cons Y (.cons Y (.cons Y (.cons Y (.cons Y (.cons Y (.cons Y .nil))))))))
theorem zK(A:Nat->Nat){a1 b0 b1 b2 b3 b4 b5 b6 b7 b8 b9 b10 b11 b12 b13 b14 b15 b16 b17 b18 b19 b20 b21 r}(h:fE a1 b0 b1 b2 b3 b4 b5 b6 b7 b8 b9 b10 b11 b12 b13 b14 b15 b16 b17 b18 b19 b20 b21=some r):
 ConM Tryz.prog 29 [.ptr 9000 0,.v Q0 a1] (iI 9000 (some (A 9000)) 9100 (some (A 9100)) 9200 (some (A 9200)) 9050 9051 9052 9053 b0 b1 b2 b3 b4 b5 b6 b7 b8 b9 b10 b11 b12 b13 b14 b15 b16 b17 b18 b19 b20 b21) (.tup [.v aN r.1,.v Q8 r.2]) (iI 9000 (some (A 9000)) 9100 (some (A 9100)) 9200 (some (A 9200)) 400 401 402 403 b0 b1 b2 b3 b4 b5 b6 b7 b8 b9 b10 b11 b12 b13 b14 b15 b16 b17 b18 b19 b20 b21):=by
 refine ConM.of Tryz.func29 Y Tryz.ntmps29 Y ?_;intro S w R z;unfold fE at h;refine aJ (.k (aM 101 Bc Y (.cons (Z.arr 8 (Z.int .u8)) .nil) Y) (.f [0,1,4] ?_));refine aF ?_;refine aF ?_;obtain⟨E,u,h⟩:=aB h;refine dL (σ':=⟨[(0,.ptr 9000 0),(1,.v Q0 a1),(4,.ptr 101 0),(15,.v Enc.bool E)],((101,.box 33 [.v aN aU])::iI 9000 (some (A 9000)) 9100 (some (A 9100)) 9200 (some (A 9200)) 9050 9051 9052 9053 b0 b1 b2 b3 b4 b5 b6 b7 b8 b9 b10 b11 b12 b13 b14 b15 b16 b17 b18 b19 b20 b21)⟩) ?_ ?_
 ·refine cd u (fun C u=>?_) (fun C u=>?_)
  ·cases u;exact jy
  cases u;exact jy
 refine aT h Y (fun D h=>?_) (fun D h=>?_)
 ·refine aJ (.k (cT (e:=aN) (v:=aU) Bb vI I5 Y Y (Z.arr 8 (Z.int .u8))) (.f [0,4,5] ?_));refine aG ?_;obtain rfl:=pT h;exact mQ [(0,.ptr 9000 0),(4,.ptr 90 0),(5,.v Q8 (some (1:Int)))] [(90,.box 33 [.v aN aU])] (aC [(90,101),(403,9053),(402,9052),(401,9051),(400,9050)]) (dA z Y (bY Y Y Y sT jU) (RV.tmp Y) (.cons Y (.cons Y (.cons Y (.cons Y (.cons Y (.cons Y (.cons Y .nil))))))))
 refine aH ?_;obtain⟨F,B,h⟩:=aB h;refine aJ (.a 6 ?_);refine .k (iJ B Y Y Y Il jU) (.k (jC (cX B).2.2 Y Y .here sT jU) (.f [0,4,5] ?_));refine aG ?_;obtain rfl:=pT h;exact mQ [(0,.ptr 9000 0),(4,.ptr 90 0),(5,.v Q8 (none:Option Int))] [(90,.box 33 [.v aN F])] (aC [(90,101),(403,9053),(402,9052),(401,9051),(400,9050)]) (dA z Y (bY Y Y Y sT jU) (RV.tmp Y) (.cons Y (.cons Y (.cons Y (.cons Y (.cons Y (.cons Y (.cons Y .nil))))))))
theorem Bo(A:Nat->Nat){a1 b0 b1 b2 b3 b4 b5 b6 b7 b8 b9 b10 b11 b12 b13 b14 b15 b16 b17 b18 b19 b20 b21 r}(h:mW a1 b0 b1 b2 b3 b4 b5 b6 b7 b8 b9 b10 b11 b12 b13 b14 b15 b16 b17 b18 b19 b20 b21=some r):
 ConM Tryz.prog 28 [.ptr 9000 0,.v sB a1] (iI 9000 (some (A 9000)) 9100 (some (A 9100)) 9200 (some (A 9200)) 9050 9051 9052 9053 b0 b1 b2 b3 b4 b5 b6 b7 b8 b9 b10 b11 b12 b13 b14 b15 b16 b17 b18 b19 b20 b21) (.tup [.v aN r.1,.v Q8 r.2.1]) (iI 9000 (some (A 9000)) 301 none 302 none 400 401 402 403 r.2.2.1 r.2.2.2.1 r.2.2.2.2.1 r.2.2.2.2.2.1 r.2.2.2.2.2.2.1 r.2.2.2.2.2.2.2.1 r.2.2.2.2.2.2.2.2.1 r.2.2.2.2.2.2.2.2.2.1 r.2.2.2.2.2.2.2.2.2.2.1 r.2.2.2.2.2.2.2.2.2.2.2.1 r.2.2.2.2.2.2.2.2.2.2.2.2.1 r.2.2.2.2.2.2.2.2.2.2.2.2.2.1 r.2.2.2.2.2.2.2.2.2.2.2.2.2.2.1 r.2.2.2.2.2.2.2.2.2.2.2.2.2.2.2.1 r.2.2.2.2.2.2.2.2.2.2.2.2.2.2.2.2.1 r.2.2.2.2.2.2.2.2.2.2.2.2.2.2.2.2.2.1 r.2.2.2.2.2.2.2.2.2.2.2.2.2.2.2.2.2.2.1 r.2.2.2.2.2.2.2.2.2.2.2.2.2.2.2.2.2.2.2.1 r.2.2.2.2.2.2.2.2.2.2.2.2.2.2.2.2.2.2.2.2.1 r.2.2.2.2.2.2.2.2.2.2.2.2.2.2.2.2.2.2.2.2.2.1 r.2.2.2.2.2.2.2.2.2.2.2.2.2.2.2.2.2.2.2.2.2.2.1 r.2.2.2.2.2.2.2.2.2.2.2.2.2.2.2.2.2.2.2.2.2.2.2):=by
 refine ConM.of Tryz.func28 Y Tryz.ntmps28 Y ?_;intro S w R z;unfold mW at h;refine aJ (.k (bU 101 Y (.prm (.one _ _) (.prm (.one _ _) (.prm (.one _ _) (.one _ _)))) Y) (.k (aM 102 Bc Y (.cons (Z.arr 8 (Z.int .u8)) .nil) Y) (.f [0,3,4] ?_)));obtain⟨u,B,h⟩:=aB h;refine aJ (.a 3 ?_);refine .t (eA [9000,9100,9200,9050,9051,9052,9053] (uW [(9000,9000),(9100,9100),(9200,9200),(9050,9050),(9051,9051),(9052,9052),(9053,9053),(400,103),(401,104),(402,105),(403,106)]) (cU Y) (fun A=>zK A B) Tryz.call29 (fun A=>(.box Y (.box Y (.box Y (.arr (.mp (.arr (.arr .nil Y) Y) Y) Y) Y) Y) Y))) (.f [0,4,5] ?_);refine aG ?_;obtain rfl:=pT h;exact mQ [(0,.ptr 9000 0),(4,.ptr 90 0),(5,.v Q8 u.2)] [(90,.box 33 [.v aN u.1])] (aC [(90,102),(403,106),(302,9200),(402,105),(401,104),(400,103),(301,9100)]) (dA z Y (bY Y Y Y sT jU) (RV.tmp Y) (.cons Y (.cons Y (.cons Y (.cons Y (.cons Y (.cons Y (.cons Y .nil))))))))
theorem zL(A:Nat->Nat){a1 a2 b0 b1 b2 b3 b4 b5 b6 b7 b8 b9 b10 b11 b12 b13 b14 b15 b16 b17 b18 b19 b20 b21 r}(h:jB a1 a2 b0 b1 b2 b3 b4 b5 b6 b7 b8 b9 b10 b11 b12 b13 b14 b15 b16 b17 b18 b19 b20 b21=some r):
 ConM Tryz.prog 58 [.ptr 9000 1,.v Q1 a1,.v Q0 a2] (iI 9000 (some (A 9000)) 9100 (some (A 9100)) 9200 (some (A 9200)) 9050 9051 9052 9053 b0 b1 b2 b3 b4 b5 b6 b7 b8 b9 b10 b11 b12 b13 b14 b15 b16 b17 b18 b19 b20 b21) (.v Q8 r.1) (iI 9000 (some (A 9000)) 9100 (some (A 9100)) 9200 (some (A 9200)) 400 401 402 403 b0 b1 r.2.1 b3 b4 b5 b6 b7 b8 b9 b10 b11 b12 b13 b14 b15 b16 b17 r.2.2.1 r.2.2.2 b20 b21):=by
 refine ConM.of Tryz.func58 Y Tryz.ntmps58 Y ?_;intro S w R u;unfold jB at h;refine aL [0,1,2] ?_;refine aF ?_;refine aF ?_;obtain⟨C,B,h⟩:=aB h;refine dI 10 mixed (by exact(.k (aD Y) (.k (aK Y) (.k (aA 1 Y Dy Y Hh Y Y) (.k (aI Y Y Y Mn Hh) (.k (aD Y) (.k (aD Y) (.k (aD Y) (.k (aK Y) (.k (aA 4 Y Dy Y S3 Y Y) (.k (aI Y Y Y G3 S3) .nil))))))))))) (by exact(J.t (eA [9100] (Av [(9000,9100)]) (dY _) (fun A=>gN A B) QV (fun A=>(.box Y .nil Y))) (jz [0,2,7]))) ?_;refine aL [0,2,7,20] ?_;refine aT h Y (fun z h=>?_) (fun z h=>?_)
 ·refine aL [0,6] ?_;cases h;exact aG (eG u Y (aC [(403,9053),(402,9052),(401,9051),(400,9050)]))
 refine aH ?_;refine aL [0] ?_;refine aL [0,6] ?_;cases h;exact aG (eG u Y (aC [(403,9053),(402,9052),(401,9051),(400,9050)]))
theorem Mw{a0 a1 r}(h:qW a0 a1=some r):
 Con Tryz.prog 59 [.v Jq a0,.v Q0 a1] (.tup [.v Jq r.1,.v Q8 r.2]) []:=by
 refine Con.of Tryz.func59 Y Tryz.ntmps59 Y ?_;intro S w z;unfold qW at h;refine aJ (.k (bU 101 Y (.prm (.one _ _) (.prm (.one _ _) (.prm (.one _ _) (.one _ _)))) Y) (.k (aM 102 OV Y (.cons (Z.int .i64) (.cons (Z.sl Q5) (.cons (Z.sl nX) (.cons Z.bool .nil)))) Y) (.f [1,2,4] ?_)));obtain⟨E,F,h⟩:=aB h;refine jD (.k (aX Y Y (.prm (.one _ _) (.prm (.one _ _) (.prm (.one _ _) (.one _ _)))) Dx xX) ?_);refine .a 1 ?_;refine .k (aO (sD F) RS (.cons (.dir Y) (.cons (.dir Y) .nil))) (.f [2,4,6] ?_);refine aL [2,4,6,11] ?_;refine aT h Y (fun A h=>?_) (fun A h=>?_)
 ·refine aJ (.k (eT (new:=[(104,.arr 175 nX ([]:Hg))]) xZ (.cons (Z.int .i64) (.cons (Z.sl Q5) (.ref 104 Y (.cons Z.bool .nil)))) (.cons .nil) Y .nil) (.f [4,5] ?_));refine aG ?_;obtain rfl:=pT h;exact bN (σ':=⟨[(4,.ptr 90 0),(5,.v Q8 E)],[(90,.box 61 [.v Q0 (0:Int),.v Q1 ([]:Q6),.v (Enc.sl nX) ([]:Hg),.v Enc.bool false])]⟩) (aC [(90,102)]) (bD z dD Y (aS Y Y (.prm (.one _ _) (.prm (.one _ _) (.prm (.one _ _) (.one _ _)))) Dx xX) (RV.tmp Y) .nil Y)
 refine aH ?_;refine cR [2,4,16] ?_;refine aT h Y (fun B h=>?_) (fun B h=>?_)
 ·refine aJ (.k (eT (new:=[(105,.arr 175 nX ([]:Hg))]) xZ (.cons (Z.int .i64) (.cons (Z.sl Q5) (.ref 105 Y (.cons Z.bool .nil)))) (.cons .nil) Y .nil) (.f [4,5] ?_));refine aG ?_;obtain rfl:=pT h;exact bN (σ':=⟨[(4,.ptr 90 0),(5,.v Q8 (some (2:Int)))],[(90,.box 61 [.v Q0 (0:Int),.v Q1 ([]:Q6),.v (Enc.sl nX) ([]:Hg),.v Enc.bool false])]⟩) (aC [(90,102)]) (bD z dD Y (aS Y Y (.prm (.one _ _) (.prm (.one _ _) (.prm (.one _ _) (.one _ _)))) Dx xX) (RV.tmp Y) .nil Y)
 refine aH ?_;obtain⟨u,G,h⟩:=aB h;refine aJ (.k (aX Y Y (.prm (.one _ _) (.prm (.one _ _) (.prm (.one _ _) (.one _ _)))) Dx xX) (.k (eU 106000 (vK G) Tryz.call93 (.cons (.dir Y) .nil) Y) (.f [2,4] ?_)));refine aL [2,4] ?_;refine aF ?_;refine bF ?_;refine aL [2,4,35] ?_;refine aT h Y (fun C h=>?_) (fun C h=>?_)
 ·refine aH ?_;refine bK ?_;refine aJ (.a 1 ?_);refine .t (tA 107 124 Q5 Y Y Y Y Hi Y) (.f [2,4] ?_);refine aJ (.k (gO Y Y Y Dx xX) (.f [4,5] ?_));refine aG ?_;obtain rfl:=pT h;exact bN (σ':=⟨[(4,.ptr 90 0),(5,.v Q8 (none:Option Int))],[(90,.box 61 [.v Q0 (ar .add .i64 u.1 (1:Int)),.v Q1 ([]:Q6),.v (Enc.sl nX) u.2.2.1,.v Enc.bool u.2.2.2])]⟩) (aC [(90,102)]) (bD z dD Y (aS Y Y (.prm (.one _ _) (.prm (.one _ _) (.prm (.one _ _) (.one _ _)))) Dx xX) (RV.tmp Y) .nil Y)
 refine aL [2,4,38] ?_;refine aT h Y (fun D h=>?_) (fun D h=>?_)
 ·refine fN (.a 3 ?_);refine .t (tA 108 175 nX Y Y Y Y RU Y) (.f [2,4] ?_);refine bK ?_;refine aJ (.a 1 ?_);refine .t (tA 109 124 Q5 Y Y Y Y Hi Y) (.f [2,4] ?_);refine aJ (.k (gO Y Y Y Dx xX) (.f [4,5] ?_));refine aG ?_;obtain rfl:=pT h;exact bN (σ':=⟨[(4,.ptr 90 0),(5,.v Q8 (none:Option Int))],[(90,.box 61 [.v Q0 (ar .add .i64 u.1 (1:Int)),.v Q1 ([]:Q6),.v (Enc.sl nX) ([]:Hg),.v Enc.bool true])]⟩) (aC [(90,102)]) (bD z dD Y (aS Y Y (.prm (.one _ _) (.prm (.one _ _) (.prm (.one _ _) (.one _ _)))) Dx xX) (RV.tmp Y) .nil Y)
 obtain⟨H,I,h⟩:=aB h;refine fN (.a 6 ?_);refine .k (bE Cp (.cons (Z.int .i64) (.cons (Z.sl Q5) .nil)) (.cons Y (.dir Y) Y Y Y Y (.cons Y (.dir Y) Y Y Y Y .nil))) (.sub (σ':=⟨[(2,.ptr 101 0),(4,.ptr 102 0),(25,.ptr 101 2),(26,.ref 106001),(27,.ptr 101 0),(28,.v Q0 (ar .add .i64 u.1 (1:Int))),(29,.ptr 101 1),(30,.v Q1 u.2.1),(31,.agg [.v Q0 (ar .add .i64 u.1 (1:Int)),.v Q1 u.2.1]),(38,.v Enc.bool (cm .eql (u.2.2.1.length:Int) (4:Int)))],[(101,.box 61 [.v Q0 (ar .add .i64 u.1 (1:Int)),.v Q1 u.2.1,.ref 106001,.v Enc.bool u.2.2.2]),(102,.box 61 [.v Q0 (0:Int),.v Q1 ([]:Q6),.v (Enc.sl nX) ([]:Hg),.v Enc.bool false]),(106001,.arr 175 nX u.2.2.1)]⟩) (Sw.Sub.mk id (.cons Y (.of_eq Y) (.cons Y (.of_eq Y) (.cons Y (.of_eq Y) (.cons Y (.of_eq Y) (.cons Y (.of_eq Y) (.cons Y (.of_eq Y) (.cons Y (.of_eq Y) (.cons Y (.frz Y Y) (.cons Y (.agg (.cons (.of_eq Y) (.cons (.frz Y Y) .nil))) (.cons Y (.of_eq Y) .nil)))))))))) (.box Y (.cons (.of_eq Y) (.cons (.frz Y Y) (.cons (.of_eq Y) (.cons (.of_eq Y) .nil)))) (.box Y (.cons (.of_eq Y) (.cons (.of_eq Y) (.cons (.of_eq Y) (.cons (.of_eq Y) .nil)))) (.arr Y .nil))) Y) (.k (dM (e:=nX) DI uE Nu Y Y Y Y (.cons (.agg Y (.same (.same .nil)) (.prm (.one _ _) (.one _ _)) Y) .nil)) (.t (bR 110 I Y Y (.sl Y) DI OI uE Y Y Y Y Y) (.f [2,4] ?_))));refine bK ?_;refine aJ (.a 1 ?_);refine .t (Hr Y Y Y (.nilS Q5) Y Y Y Hi) (.f [2,4] ?_);refine aJ (.k (gO Y Y Y Dx xX) (.f [4,5] ?_));refine aG ?_;obtain rfl:=pT h;exact bN (σ':=⟨[(4,.ptr 90 0),(5,.v Q8 (none:Option Int))],[(90,.box 61 [.v Q0 (ar .add .i64 u.1 (1:Int)),.v Q1 ([]:Q6),.v (Enc.sl nX) H,.v Enc.bool u.2.2.2])]⟩) (aC [(90,102)]) (bD z dD Y (aS Y Y (.prm (.one _ _) (.prm (.one _ _) (.prm (.one _ _) (.one _ _)))) Dx xX) (RV.tmp Y) .nil Y)
theorem mR(A:Nat->Nat){b0 b1 b2 b3 b4 b5 b6 b7 b8 b9 b10 b11 b12 b13 b14 b15 b16 b17 b18 b19 b20 b21 r}(h:dT b0 b1 b2 b3 b4 b5 b6 b7 b8 b9 b10 b11 b12 b13 b14 b15 b16 b17 b18 b19 b20 b21=some r):
 ConM Tryz.prog 24 [.ptr 9000 1] (iI 9000 (some (A 9000)) 9100 (some (A 9100)) 9200 (some (A 9200)) 9050 9051 9052 9053 b0 b1 b2 b3 b4 b5 b6 b7 b8 b9 b10 b11 b12 b13 b14 b15 b16 b17 b18 b19 b20 b21) (.tup []) (iI 9000 (some (A 9000)) 9100 (some (A 9100)) 9200 (some (A 9200)) 400 401 402 403 b0 b1 b2 b3 b4 b5 r b7 b8 b9 b10 b11 b12 b13 b14 b15 b16 b17 b18 b19 b20 b21):=by
 refine ConM.of Tryz.func24 Y Tryz.ntmps24 Y ?_;intro S w R u;unfold dT at h;refine aF ?_;obtain⟨D,z,h⟩:=aB h;obtain⟨B,C,h⟩:=aB h;refine dI 14 mixed (by exact(.k (aD Y) (.k (aK Y) (.k (aA 10 Y uS Y Xv Y Y) (.k (aI Y Y Y MW Xv) (.k (aD Y) (.k (aK Y) (.k (aA 1 Y uS Y Js Y Y) (.k (aA 3 Y Dy Y S3 Y Y) (.k (aI Y Y Y G3 S3) (.k (aD Y) (.k (aK Y) (.k (aA 5 Y uS Y xC Y Y) (.k (aI Y Y Y Sd xC) (.k (Oo (pZ 102000 (bZ z) OF (.cons (.ref Y Y) .nil) Y FlatS.ref (FlatN.arr FlatN.nil)) (fun _=>(Sw.Sub.mk id (.cons Y (.frz Y Y) .nil) .nil Y)) Y) .nil))))))))))))))) (by exact(J.t (Lm C Y Y Y Y OS U3 (KeyE.int U3) Y) (J.kp [0] []))) ?_;refine dI 11 mixed (by exact(.k (aD Y) (.k (aK Y) (.k (aA 10 Y uS Y Xv Y Y) (.k (aI Y Y Y MW Xv) (.k (aD Y) (.k (aK Y) (.k (aA 1 Y uS Y Js Y Y) (.k (aA 3 Y Dy Y S3 Y Y) (.k (aI Y Y Y G3 S3) (.k (cO Y Y Y) (.k (cO Y Y Y) .nil)))))))))))) (by exact(J.t (Ln Y Y Y OS U3 (KeyE.int U3) Y) (J.kp [0] []))) ?_;refine Yf ?_;obtain rfl:=pT h;exact bN (σ':=⟨[(0,.ptr 9000 1)],(iI 9000 (some (A 9000)) 9100 (some (A 9100)) 9200 (some (A 9200)) 400 401 402 403 b0 b1 b2 b3 b4 b5 (Fa B (ar .sub .i64 (ar .sub .i64 b2 (4:Int)) (1:Int))) b7 b8 b9 b10 b11 b12 b13 b14 b15 b16 b17 b18 b19 b20 b21)⟩) (aC [(403,9053),(402,9052),(401,9051),(400,9050)]) (Di u Y (.cons Y (.cons Y (.cons Y (.cons Y (.cons Y (.cons Y (.cons Y .nil))))))))
theorem wT(A:Nat->Nat){b0 b1 b2 b3 b4 b5 b6 b7 b8 b9 b10 b11 b12 b13 b14 b15 b16 b17 b18 b19 b20 b21 r}(h:fA b0 b1 b2 b3 b4 b5 b6 b7 b8 b9 b10 b11 b12 b13 b14 b15 b16 b17 b18 b19 b20 b21=some r):
 ConM Tryz.prog 31 [.ptr 9000 0] (iI 9000 (some (A 9000)) 9100 (some (A 9100)) 9200 (some (A 9200)) 9050 9051 9052 9053 b0 b1 b2 b3 b4 b5 b6 b7 b8 b9 b10 b11 b12 b13 b14 b15 b16 b17 b18 b19 b20 b21) (.v Q8 r.1) (iI 9000 (some (A 9000)) 9100 (some (A 9100)) 9200 (some (A 9200)) 400 401 402 403 b0 b1 r.2.1 b3 b4 r.2.2.1 r.2.2.2.1 b7 b8 b9 b10 b11 b12 b13 b14 b15 b16 b17 r.2.2.2.2.1 r.2.2.2.2.2 b20 b21):=by
 refine ConM.of Tryz.func31 Y Tryz.ntmps31 Y ?_;intro S w R u;unfold fA at h;refine aL [0] ?_;refine aL [0,3] ?_;refine aF ?_;refine aF ?_;obtain⟨E,B,h⟩:=aB h;refine dI 14 mixed (by exact(.k (aD Y) (.k (aK Y) (.k (aA 1 Y uS Y Js Y Y) (.k (aD Y) (.k (aK Y) (.k (aA 6 Y uS Y xX Y Y) (.k (aA 7 Y PM Y Hi Y Y) (.k (xQ (off:=6) (o1:=1) Y Y Y Y (.snd (.fst .here)) DP Hi) (.k (aD Y) (.k (aK Y) (.k (aA 1 Y uS Y Js Y Y) (.k (aA 3 Y Dy Y S3 Y Y) (.k (aI Y Y Y G3 S3) (.k (cO Y Y Y) .nil))))))))))))))) (by exact(J.t (eA [9000,9100,9200,9050,9051,9052,9053] (uW [(9000,9000),(9100,9100),(9200,9200),(9050,9050),(9051,9051),(9052,9052),(9053,9053),(400,101),(401,102),(402,103),(403,104)]) (cU Y) (fun A=>zL A B) Tryz.call58 (fun A=>(.box Y (.box Y (.box Y (.arr (.mp (.arr (.arr .nil Y) Y) Y) Y) Y) Y) Y))) (jz [0,3,4]))) ?_;refine aL [0,3,4,26] ?_;refine aT h Y (fun z h=>?_) (fun z h=>?_)
 ·refine aL [0,2] ?_;cases h;exact aG (eG u Y (aC [(403,104),(402,103),(401,102),(400,101)]))
 refine aH ?_;refine aF ?_;obtain⟨F,C,h⟩:=aB h;refine dI 16 mixed (by exact(.k (aD Y) (.k (aK Y) (.k (aA 6 Y uS Y xX Y Y) (.k (aI Y Y Y Dx xX) (.k (aD Y) (.k (aK Y) (.k (aA 1 Y uS Y Js Y Y) (.k (aA 2 Y Dy Y S3 Y Y) (.k (aI Y Y Y G3 S3) (.k (aO (Mw C) Tryz.call59 (.cons (.dir Y) (.cons (.dir Y) .nil))) (.k (aD Y) (.k (bH Y Y) (.k (bH Y Y) (.k (aM 106 OV Y (.cons (Z.int .i64) (.cons (Z.sl Q5) (.cons (Z.sl nX) (.cons Z.bool .nil)))) Y) (JP4.storeAll (.none Y) Y Y Y Y (.prm (.one _ _) (.prm (.one _ _) (.prm (.one _ _) (.one _ _)))) xX (.k (bB Y) .nil))))))))))))))))) (by exact(J.kp [0,3,5,6] [])) ?_;refine aJ (.a 1 ?_);refine .k (aX Y Y (.prm (.one _ _) (.prm (.one _ _) (.prm (.one _ _) (.one _ _)))) Dx xX) (.f [0,3,6] ?_);obtain⟨G,D,h⟩:=aB h;refine aJ (.a 1 ?_);refine .t (eA [9000,9100,9200,101,102,103,104] (uW [(9000,9000),(9100,9100),(9200,9200),(9050,101),(9051,102),(9052,103),(9053,104),(400,107),(401,108),(402,109),(403,110)]) (cU Y) (fun A=>mR A D) Tryz.call24 (fun A=>(.box Y (.box Y (.box Y (.arr (.mp (.arr (.arr .nil Y) Y) Y) Y) Y) Y) Y))) (.f [0,6] ?_);refine aL [0,2] ?_;cases h;exact aG (eG u Y (aC [(403,110),(402,109),(401,108),(400,107)]))
theorem Bp(A:Nat->Nat){a1 b0 b1 b2 b3 b4 b5 b6 b7 b8 b9 b10 b11 b12 b13 b14 b15 b16 b17 b18 b19 b20 b21 r}(h:mX a1 b0 b1 b2 b3 b4 b5 b6 b7 b8 b9 b10 b11 b12 b13 b14 b15 b16 b17 b18 b19 b20 b21=some r):
 ConM Tryz.prog 30 [.ptr 9000 0,.v sB a1] (iI 9000 (some (A 9000)) 9100 (some (A 9100)) 9200 (some (A 9200)) 9050 9051 9052 9053 b0 b1 b2 b3 b4 b5 b6 b7 b8 b9 b10 b11 b12 b13 b14 b15 b16 b17 b18 b19 b20 b21) (.tup [.v aN r.1,.v Q8 r.2.1]) (iI 9000 (some (A 9000)) 301 none 302 none 400 401 402 403 r.2.2.1 r.2.2.2.1 r.2.2.2.2.1 r.2.2.2.2.2.1 r.2.2.2.2.2.2.1 r.2.2.2.2.2.2.2.1 r.2.2.2.2.2.2.2.2.1 r.2.2.2.2.2.2.2.2.2.1 r.2.2.2.2.2.2.2.2.2.2.1 r.2.2.2.2.2.2.2.2.2.2.2.1 r.2.2.2.2.2.2.2.2.2.2.2.2.1 r.2.2.2.2.2.2.2.2.2.2.2.2.2.1 r.2.2.2.2.2.2.2.2.2.2.2.2.2.2.1 r.2.2.2.2.2.2.2.2.2.2.2.2.2.2.2.1 r.2.2.2.2.2.2.2.2.2.2.2.2.2.2.2.2.1 r.2.2.2.2.2.2.2.2.2.2.2.2.2.2.2.2.2.1 r.2.2.2.2.2.2.2.2.2.2.2.2.2.2.2.2.2.2.1 r.2.2.2.2.2.2.2.2.2.2.2.2.2.2.2.2.2.2.2.1 r.2.2.2.2.2.2.2.2.2.2.2.2.2.2.2.2.2.2.2.2.1 r.2.2.2.2.2.2.2.2.2.2.2.2.2.2.2.2.2.2.2.2.2.1 r.2.2.2.2.2.2.2.2.2.2.2.2.2.2.2.2.2.2.2.2.2.2.1 r.2.2.2.2.2.2.2.2.2.2.2.2.2.2.2.2.2.2.2.2.2.2.2):=by
 refine ConM.of Tryz.func30 Y Tryz.ntmps30 Y ?_;intro S w R u;unfold mX at h;refine aJ (.k (bU 101 Y (.prm (.one _ _) (.prm (.one _ _) (.prm (.one _ _) (.one _ _)))) Y) (.k (aM 102 Bc Y (.cons (Z.arr 8 (Z.int .u8)) .nil) Y) (.f [0,4] ?_)));obtain⟨z,B,h⟩:=aB h;refine aJ (.k (cT (e:=aN) (v:=aU) Bb vI I5 Y Y (Z.arr 8 (Z.int .u8))) ?_);refine .a 1 ?_;refine .t (eA [9000,9100,9200,9050,9051,9052,9053] (uW [(9000,9000),(9100,9100),(9200,9200),(9050,9050),(9051,9051),(9052,9052),(9053,9053),(400,103),(401,104),(402,105),(403,106)]) (cU Y) (fun A=>wT A B) Tryz.call31 (fun A=>(.box Y (.box Y (.box Y (.arr (.mp (.arr (.arr .nil Y) Y) Y) Y) Y) Y) Y))) (.f [0,4,5] ?_);refine aG ?_;obtain rfl:=pT h;exact mQ [(0,.ptr 9000 0),(4,.ptr 90 0),(5,.v Q8 z.1)] [(90,.box 33 [.v aN aU])] (aC [(90,102),(403,106),(302,9200),(402,105),(401,104),(400,103),(301,9100)]) (dA u Y (bY Y Y Y sT jU) (RV.tmp Y) (.cons Y (.cons Y (.cons Y (.cons Y (.cons Y (.cons Y (.cons Y .nil))))))))
theorem Hj{a0 r}(h:oO a0=some r):
 Con Tryz.prog 132 [.v Q0 a0] (.v Enc.bool r) []:=by
 refine Con.of Tryz.func132 Y Tryz.ntmps132 Y ?_;intro S w z;unfold oO at h;refine aL [0] ?_;refine aF ?_;obtain⟨B,u,h⟩:=aB h;refine dL (σ':=⟨[(2,.v Enc.bool B)],[]⟩) ?_ ?_
 ·refine cd u (fun A u=>?_) (fun A u=>?_)
  ·cases u;exact jy
  cases u;exact jy
 cases h;exact aG (aY z dD Y (RV.tmp Y) .nil Y)
theorem nU{a0 r}(h:dJ a0=some r):
 Con Tryz.prog 146 [.v nC a0,.fnc 132 []] (.v Q0 r) []:=by
 refine Con.of Tryz.func146 Y Tryz.ntmps146 Y ?_;intro S w u;unfold dJ at h;refine aL [0,1] ?_;refine cR [0,1,7,8] ?_;obtain⟨L,F,G,H⟩:=bX h;refine jH (σs:=fun z:Int=>⟨[(0,.v nC a0),(1,.fnc 132 []),(7,.v Q0 (a0.length:Int)),(8,.v Q0 z)],[]⟩) (fun A:Unit=>⟨[],[]⟩) F (aC []) ?_ ?_
 ·intro A B;have h:=G _ B;refine aL [4] ?_;cases h;exact aG (aY u dD Y (RV.tmp Y) .nil Y)
 intro z K h;refine aL [0,1,7,8,9] ?_;refine aF ?_;refine aT h Y (fun C h=>?_) (fun C h=>?_)
 ·refine aH ?_;refine aF ?_;refine bF ?_;refine aL [0,1,5,7,8] ?_;obtain⟨M,N,h⟩:=aB h;obtain⟨O,I,h⟩:=aB h;refine aJ (.a 5 ?_);refine .k (sN Y (Hj I) Tryz.call132 (.cons (.dir Y) .nil)) (.f [0,1,5,7,8,16] ?_);refine aT h Y (fun D h=>?_) (fun D h=>?_)
  ·refine aL [4] ?_;refine aG ?_;refine dZ ?_;cases h;refine gD fun E=>?_;obtain rfl:=H _ E;exact aY u dD Y (RV.tmp Y) .nil Y
  refine aH ?_;refine bK ?_;refine eB [0,1,7,8] ?_;cases h;exact cE (aC [])
 cases h;exact cN (cW (aC []))
theorem mN{a0 r}(h:cH a0=some r):
 Con Tryz.prog 131 [.v nC a0,.fnc 132 []] (.v Enc.bool r) []:=by
 refine Con.of Tryz.func131 Y Tryz.ntmps131 Y ?_;intro S w u;unfold cH at h;refine aL [0,1] ?_;obtain⟨A,z,h⟩:=aB h;refine aJ (.a 2 ?_);refine .k (aO (nU z) Tryz.call146 (.cons (.dir Y) (.cons (.dir Y) .nil))) (.f [4] ?_);cases h;exact aG (aY u dD Y (RV.tmp Y) .nil Y)
theorem Bf{a0 r}(h:pE a0=some r):
 Con Tryz.prog 115 [.v Q4 a0] (.v Q8 r) []:=by
 refine Con.of Tryz.func115 Y Tryz.ntmps115 Y ?_;intro S w z;unfold pE at h;refine aJ (.k (bU 101 Y (.prm (.one _ _) (.prm (.one _ _) (.one _ _))) Y) (.f [1] ?_));refine aF ?_;refine aF ?_;obtain⟨F,u,h⟩:=aB h;refine dL (σ':=⟨[(1,.ptr 101 0),(10,.v Enc.bool F)],[(101,.box 129 [.v Q0 a0.1,.v nC a0.2.1,.v Q7 a0.2.2])]⟩) ?_ ?_
 ·refine cd u (fun A u=>?_) (fun A u=>?_)
  ·cases u;exact jy
  cases u;exact jy
 refine aT h Y (fun B h=>?_) (fun B h=>?_)
 ·refine aL [2] ?_;cases h;exact aG (aY z dD Y (RV.tmp Y) .nil Y)
 refine aH ?_;refine aF ?_;refine aF ?_;obtain⟨G,u,h⟩:=aB h;refine dL (σ':=⟨[(1,.ptr 101 0),(21,.v Enc.bool G)],[(101,.box 129 [.v Q0 a0.1,.v nC a0.2.1,.v Q7 a0.2.2])]⟩) ?_ ?_
 ·refine cd u (fun C u=>?_) (fun C u=>?_)
  ·cases u;exact jy
  cases u;exact jy
 refine aT h Y (fun D h=>?_) (fun D h=>?_)
 ·refine aL [2] ?_;cases h;exact aG (aY z dD Y (RV.tmp Y) .nil Y)
 refine aH ?_;obtain⟨I,H,h⟩:=aB h;refine jD (.a 2 ?_);refine .k (aO (mN H) Tryz.call131 (.cons (.dir Y) (.cons .fn .nil))) (.f [25] ?_);refine aT h Y (fun E h=>?_) (fun E h=>?_)
 ·refine aL [2] ?_;cases h;exact aG (aY z dD Y (RV.tmp Y) .nil Y)
 refine aH ?_;refine aL [2] ?_;cases h;exact aG (aY z dD Y (RV.tmp Y) .nil Y)
theorem Em{a0 r}(h:sP a0=some r):
 Con Tryz.prog 116 [.v (Enc.sl (Enc.int .u8)) a0] (.v (Enc.int .u32) r) []:=by
 refine Con.of Tryz.func116 Y Tryz.ntmps116 Y ?_;intro S w D;unfold sP at h;refine aL [0] ?_;refine aL [0,3] ?_;refine cR [3,6,7,8] ?_;obtain⟨N,G,H,O⟩:=bX h;refine jH (σs:=fun u:Int×Int=>⟨[(3,.v (Enc.int .u32) u.1),(6,.v (Enc.sl (Enc.int .u8)) a0),(7,.v Q0 (a0.length:Int)),(8,.v Q0 u.2)],[]⟩) (fun B:Int=>⟨[(3,.v (Enc.int .u32) B)],[]⟩) G (aC []) ?_ ?_
 ·intro B z;have h:=H _ z;refine aJ (.a 1 ?_);refine .k (ND Y) (.f [2] ?_);cases h;exact aG (aY D dD Y (RV.tmp Y) .nil Y)
 intro u L h;refine aL [3,6,7,8,9] ?_;refine aF ?_;refine aT h Y (fun E h=>?_) (fun E h=>?_)
 ·refine aH ?_;refine aF ?_;refine bF ?_;obtain⟨P,Q,h⟩:=aB h;refine aL [3,5,6,7,8] ?_;refine aJ (.a 2 ?_);refine .k (by exact lM U5 Tryz.runUnderlying199 Y Y) (.f [3,6,7,8] ?_);refine aL [3,6,7,8,16] ?_;obtain⟨R,I,K,T⟩:=bX h;refine jH (σs:=fun A:Int×Int=>⟨[(3,.v (Enc.int .u32) A.1),(6,.v (Enc.sl (Enc.int .u8)) a0),(7,.v Q0 (a0.length:Int)),(8,.v Q0 u.2),(16,.v Q0 A.2)],[]⟩) (fun C:Int=>⟨[(3,.v (Enc.int .u32) C),(6,.v (Enc.sl (Enc.int .u8)) a0),(7,.v Q0 (a0.length:Int)),(8,.v Q0 u.2)],[]⟩) I (aC []) ?_ ?_
  ·intro C z;have h:=K _ z;refine bK ?_;refine eB [3,6,7,8] ?_;cases h;exact cE (aC [])
  intro A M h;refine aL [3,6,7,8,16,17] ?_;refine aF ?_;refine aT h Y (fun F h=>?_) (fun F h=>?_)
  ·refine aH ?_;refine aF ?_;refine bF ?_;refine fN (.a 1 ?_);refine .k (eK (.inr Y) (by decide) Y Y) (.f [3,6,7,8,16] ?_);refine bK ?_;refine eB [3,6,7,8,16] ?_;cases h;exact cE (aC [])
  cases h;exact cN (cW (aC []))
 cases h;exact cN (cW (aC []))
theorem wU{a0 r}(h:lV a0=some r):
 Con Tryz.prog 97 [.v Q4 a0] (.tup [.v (Enc.sl (Enc.int .u8)) r.1,.v Q8 r.2]) []:=by
 refine Con.of Tryz.func97 Y Tryz.ntmps97 Y ?_;intro S w D;unfold lV at h;refine aJ (.k (bU 101 Y (.prm (.one _ _) (.prm (.one _ _) (.one _ _))) Y) (.k (kK (Enc.int .u8)) (.f [1] ?_)));obtain⟨v1,L,h⟩:=aB h;refine jD (.k (aX Y Y (.prm (.one _ _) (.prm (.one _ _) (.one _ _))) tU kU) (.k (aO (Bf L) Tryz.call115 (.cons (.dir Y) .nil)) (.f [1,4] ?_)));refine aL [1,4,14] ?_;refine aT h Y (fun G h=>?_) (fun G h=>?_)
 ·refine aJ (.a 1 ?_);refine .k (kK (Enc.int .u8)) (.f [2,3] ?_);cases h;exact aG (bD D dD Y (RV.tmp Y) (RV.tmp Y) .nil Y)
 refine aH ?_;refine aJ (.a 3 ?_);refine .k (eK (.inl Y) (by decide) Y Y) ?_;refine .a 9 ?_;refine .k (qM (e:=(Enc.int .u8)) 103 sG S5 Z5 Y Y Y Y (.cons (.dir Y) (.cons (.dir Y) .nil))) (.f [1,5] ?_);refine cR [1,5,31,32,33] ?_;obtain⟨ae,M,N,af⟩:=bX h;refine jH (σs:=fun z:Int×iY=>⟨[(1,.ptr 101 0),(5,.ref 125),(31,.v nC a0.2.1),(32,.v Q0 (a0.2.1.length:Int)),(33,.v Q0 z.1)],[(101,.box 129 [.v Q0 a0.1,.v nC a0.2.1,.v Q7 a0.2.2]),(125,.arr 5 (Enc.int .u8) z.2)]⟩) (fun E:iY=>⟨[(1,.ptr 101 0),(5,.ref 125)],[(101,.box 129 [.v Q0 a0.1,.v nC a0.2.1,.v Q7 a0.2.2]),(125,.arr 5 (Enc.int .u8) E)]⟩) M (aC [(125,103)]) ?_ ?_
 ·intro E u;have h:=N _ u;refine cR [5,54,55,56] ?_;obtain⟨ah,O,P,ai⟩:=bX h;refine jH (σs:=fun A:Int×iY=>⟨[(5,.ref 151),(54,.v Q7 a0.2.2),(55,.v Q0 (a0.2.2.length:Int)),(56,.v Q0 A.1)],[(151,.arr 5 (Enc.int .u8) A.2)]⟩) (fun F:iY=>⟨[(5,.ref 151)],[(151,.arr 5 (Enc.int .u8) F)]⟩) O (aC [(151,125)]) ?_ ?_
  ·intro F u;have h:=P _ u;obtain⟨aj,Q,h⟩:=aB h;refine aJ (.a 1 ?_);refine .k (qO (Em Q) Tryz.call116 (.cons (.ref Y Y) .nil) FlatS.v) (.f [5,10] ?_);obtain⟨ak,R,h⟩:=aB h;refine aJ (.a 2 ?_);refine .k (eK (.inr Y) (by decide) Y Y) ?_;refine .a 2 ?_;refine .k (eK (.inr Y) (by decide) Y Y) ?_;refine .a 2 ?_;refine .k (eK (.inr Y) (by decide) Y Y) ?_;refine .a 3 ?_;refine .k (dM (e:=(Enc.int .u8)) sG S5 Z5 Y Y Y Y (.cons (.dir Y) (.cons (.dir Y) (.cons (.dir Y) (.cons (.dir Y) .nil))))) (.t (bR 157 R Y Y (.sl Y) sG I5 S5 Y Y Y Y Y) (.f [2,3] ?_));cases h;exact aG (vP D dD Y (aC []))
  intro A ab h;refine aL [5,54,55,56,57] ?_;refine aF ?_;refine aT h Y (fun H h=>?_) (fun H h=>?_)
  ·refine aH ?_;refine aF ?_;refine bF ?_;obtain⟨al,am,h⟩:=aB h;refine aJ (.a 2 ?_);refine .k (aM 154 Bc Y (.cons (Z.arr 8 (Z.int .u8)) .nil) Y) (.f [5,9,54,55,56] ?_);obtain⟨an,T,h⟩:=aB h;refine fN (.a 1 ?_);refine .k (Oj Y Y Y vI S5) (.t (bR 155 T Y Y (.asl Y Y Y Y) sG I5 S5 Y Y Y Y Y) (.f [5,54,55,56] ?_));refine bK ?_;refine eB [5,54,55,56] ?_;cases h;exact cE (aC [(151,155)])
  cases h;exact cN (cW (aC []))
 intro z ac h;refine aL [1,5,31,32,33,34] ?_;refine aF ?_;refine aT h Y (fun I h=>?_) (fun I h=>?_)
 ·refine aH ?_;refine aF ?_;refine bF ?_;obtain⟨ao,ap,h⟩:=aB h;refine aL [1,5,7,31,32,33] ?_;refine aF ?_;obtain⟨aq,U,V,au⟩:=bX h;refine jH (σs:=fun C:Int×iY=>⟨[(1,.ptr 101 0),(5,.ref 140),(7,.v Q0 C.1),(31,.v nC a0.2.1),(32,.v Q0 (a0.2.1.length:Int)),(33,.v Q0 z.1)],[(101,.box 129 [.v Q0 a0.1,.v nC a0.2.1,.v Q7 a0.2.2]),(140,.arr 5 (Enc.int .u8) C.2)]⟩) (fun B:Int×iY=>⟨[(1,.ptr 101 0),(5,.ref 140),(7,.v Q0 B.1),(31,.v nC a0.2.1),(32,.v Q0 (a0.2.1.length:Int)),(33,.v Q0 z.1)],[(101,.box 129 [.v Q0 a0.1,.v nC a0.2.1,.v Q7 a0.2.2]),(140,.arr 5 (Enc.int .u8) B.2)]⟩) U (aC [(140,125)]) ?_ ?_
  ·intro B u;have h:=V _ u;obtain⟨av,X,h⟩:=aB h;refine fN (.a 3 ?_);refine .k (dM (e:=(Enc.int .u8)) sG S5 Z5 Y Y Y Y (.cons (.dir Y) .nil)) (.t (bR 143 X Y Y (.sl Y) sG I5 S5 Y Y Y Y Y) (.f [1,5,31,32,33] ?_));refine bK ?_;refine eB [1,5,31,32,33] ?_;cases h;exact cE (aC [(125,143)])
  intro C ad h;refine cR [1,5,7,31,32,33,38] ?_;refine aT h Y (fun K h=>?_) (fun K h=>?_)
  ·refine aH ?_;refine aF ?_;refine bF ?_;obtain⟨aw,aa,h⟩:=aB h;refine fN (.a 4 ?_);refine .k (dM (e:=(Enc.int .u8)) sG S5 Z5 Y Y Y Y (.cons (.dir Y) .nil)) (.t (bR 142 aa Y Y (.sl Y) sG I5 S5 Y Y Y Y Y) (.f [1,5,7,31,32,33] ?_));refine bK ?_;refine fN (.a 1 ?_);refine .k (eK (.inr Y) (by decide) Y Y) (.f [1,5,7,31,32,33] ?_);cases h;exact cE (aC [(140,142)])
  cases h;exact cN (cW (aC []))
 cases h;exact cN (cW (aC []))
theorem nS(A:Nat->Nat){a1 a2 b0 b1 b2 b3 b4 b5 b6 b7 b8 b9 b10 b11 b12 b13 b14 b15 b16 b17 b18 b19 b20 b21 r}(h:dR a1 a2 b0 b1 b2 b3 b4 b5 b6 b7 b8 b9 b10 b11 b12 b13 b14 b15 b16 b17 b18 b19 b20 b21=some r):
 ConM Tryz.prog 64 [.ptr 9000 0,.v Enc.bool a1,.v (Enc.slN (Enc.int .u8)) a2] (iI 9000 (some (A 9000)) 9100 (some (A 9100)) 9200 (some (A 9200)) 9050 9051 9052 9053 b0 b1 b2 b3 b4 b5 b6 b7 b8 b9 b10 b11 b12 b13 b14 b15 b16 b17 b18 b19 b20 b21) (.tup []) (iI 9000 (some (A 9000)) 9100 (some (A 9100)) 9200 (some (A 9200)) 400 401 402 403 b0 b1 b2 b3 b4 b5 b6 b7 b8 b9 b10 b11 b12 b13 b14 b15 b16 r b18 b19 b20 b21):=by
 refine ConM.of Tryz.func64 Y Tryz.ntmps64 Y ?_;intro S w R z;unfold dR at h;refine aF ?_;obtain⟨B,u,h⟩:=aB h;refine dL (σ':=⟨[(0,.ptr 9000 0),(1,.v Enc.bool a1),(2,.v (Enc.slN (Enc.int .u8)) a2),(15,.v Enc.bool B)],(iI 9000 (some (A 9000)) 9100 (some (A 9100)) 9200 (some (A 9200)) 9050 9051 9052 9053 b0 b1 b2 b3 b4 b5 b6 b7 b8 b9 b10 b11 b12 b13 b14 b15 b16 b17 b18 b19 b20 b21)⟩) ?_ ?_
 ·refine cd u (fun C u=>?_) (fun C u=>?_)
  ·cases u;refine ja 1 ?_;exact(J.k (Ov Y sG) jy)
  cases u;refine ja 1 ?_;exact(J.k (Ov Y sG) jy)
 refine aT h Y (fun D h=>?_) (fun D h=>?_)
 ·obtain⟨E,F,h⟩:=aB h;refine fN (.a 7 ?_);refine .sub (σ':=⟨[(0,.ptr 9000 0),(1,.v Enc.bool a1),(2,.v (Enc.slN (Enc.int .u8)) a2),(15,.v Enc.bool B),(16,.ptr 9000 0),(17,.ptr 9000 0),(18,.ptr 9000 0),(19,.ptr 9000 25),(20,.ref 9053),(21,.v Enc.bool a1),(22,.v (Enc.sl (Enc.int .u8)) a2.2)],[(9000,.box 75 [.v Q0 b0,.ptr 9100 0,.v Q0 b1,.v Q0 b2,.v Q0 b3,.ref 9050,.v Jq b5,.ref 9051,.v Q0 b7,.v Ml b8,.v Q0 b9,.v Q0 b10,.ref 9052,.ptr 9200 0,.v Q0 b12,.v Q0 b13,.v Q0 b14,.v Q0 b15,.v (Enc.pr Q0 Q0) b16,.ref 9053] (some (A 9000))),(9053,.arr 141 (Enc.pr Enc.bool (Enc.pr Enc.bool (Enc.sl (Enc.int .u8)))) b17),(9100,.box 115 [.v Q0 b18,.v Q2 b19] (some (A 9100))),(9050,.arr 33 aN b4),(9051,.mp Q0 Q7 b6),(9052,.arr 3 Q0 b11),(9200,.box 115 [.v Q0 b20,.v Q2 b21] (some (A 9200)))]⟩) (Sw.Sub.mk id (.cons Y (.of_eq Y) (.cons Y (.of_eq Y) (.cons Y (.of_eq Y) (.cons Y (.of_eq Y) (.cons Y (.of_eq Y) (.cons Y (.of_eq Y) (.cons Y (.of_eq Y) (.cons Y (.of_eq Y) (.cons Y (.of_eq Y) (.cons Y (.of_eq Y) (.cons Y .unN .nil))))))))))) (.box Y (.cons (.of_eq Y) (.cons (.of_eq Y) (.cons (.of_eq Y) (.cons (.of_eq Y) (.cons (.of_eq Y) (.cons (.of_eq Y) (.cons (.of_eq Y) (.cons (.of_eq Y) (.cons (.of_eq Y) (.cons (.of_eq Y) (.cons (.of_eq Y) (.cons (.of_eq Y) (.cons (.of_eq Y) (.cons (.of_eq Y) (.cons (.of_eq Y) (.cons (.of_eq Y) (.cons (.of_eq Y) (.cons (.of_eq Y) (.cons (.of_eq Y) (.cons (.of_eq Y) .nil)))))))))))))))))))) (.arr Y (.box Y (.cons (.of_eq Y) (.cons (.of_eq Y) .nil)) (.arr Y (.mp Y (.arr Y (.box Y (.cons (.of_eq Y) (.cons (.of_eq Y) .nil)) .nil))))))) Y) (.k (bE Vm (.cons Z.bool (.cons Z.bool (.cons (Z.sl (Enc.int .u8)) .nil))) (.cons Y (.dir Y) Y Y Y Y (.cons Y (.dir Y) Y Y Y Y .nil))) (.k (dM (e:=(Enc.pr Enc.bool (Enc.pr Enc.bool (Enc.sl (Enc.int .u8))))) Im uZ DK Y Y Y Y (.cons (.agg Y (.same (.same (.same .nil))) (.prm (.one _ _) (.prm (.one _ _) (.one _ _))) Y) .nil)) (.t (bR 101 F Y Y (.sl Y) Im MD uZ Y Y Y Y Y) (.f [0] ?_))));refine Yf ?_;obtain rfl:=pT h;exact bN (σ':=⟨[(0,.ptr 9000 0)],(iI 9000 (some (A 9000)) 9100 (some (A 9100)) 9200 (some (A 9200)) 400 401 402 403 b0 b1 b2 b3 b4 b5 b6 b7 b8 b9 b10 b11 b12 b13 b14 b15 b16 E b18 b19 b20 b21)⟩) (aC [(403,101),(402,9052),(401,9051),(400,9050)]) (Di z Y (.cons Y (.cons Y (.cons Y (.cons Y (.cons Y (.cons Y (.cons Y .nil))))))))
 refine aH ?_;refine Yf ?_;obtain rfl:=pT h;exact bN (σ':=⟨[(0,.ptr 9000 0)],(iI 9000 (some (A 9000)) 9100 (some (A 9100)) 9200 (some (A 9200)) 400 401 402 403 b0 b1 b2 b3 b4 b5 b6 b7 b8 b9 b10 b11 b12 b13 b14 b15 b16 b17 b18 b19 b20 b21)⟩) (aC [(403,9053),(402,9052),(401,9051),(400,9050)]) (Di z Y (.cons Y (.cons Y (.cons Y (.cons Y (.cons Y (.cons Y (.cons Y .nil))))))))
theorem tP(A:Nat->Nat){a1 a2 b0 b1 b2 b3 b4 b5 b6 b7 b8 b9 b10 b11 b12 b13 b14 b15 b16 b17 b18 b19 b20 b21 r}(h:iD a1 a2 b0 b1 b2 b3 b4 b5 b6 b7 b8 b9 b10 b11 b12 b13 b14 b15 b16 b17 b18 b19 b20 b21=some r):
 ConM Tryz.prog 60 [.ptr 9000 0,.v Enc.bool a1,.v Q4 a2] (iI 9000 (some (A 9000)) 9100 (some (A 9100)) 9200 (some (A 9200)) 9050 9051 9052 9053 b0 b1 b2 b3 b4 b5 b6 b7 b8 b9 b10 b11 b12 b13 b14 b15 b16 b17 b18 b19 b20 b21) (.v Q8 r.1) (iI 9000 (some (A 9000)) 9100 (some (A 9100)) 9200 (some (A 9200)) 400 401 402 403 b0 b1 b2 b3 b4 b5 b6 b7 b8 b9 b10 b11 b12 b13 b14 b15 b16 r.2 b18 b19 b20 b21):=by
 refine ConM.of Tryz.func60 Y Tryz.ntmps60 Y ?_;intro S w R B;unfold iD at h;refine aJ (.k (bU 101 Y (.prm (.one _ _) (.prm (.one _ _) (.one _ _))) Y) (.f [0,1,5] ?_));obtain⟨C,D,h⟩:=aB h;refine aJ (.k (aX Y Y (.prm (.one _ _) (.prm (.one _ _) (.one _ _))) tU kU) (.k (aO (wU D) Tryz.call97 (.cons (.dir Y) .nil)) (.f [0,1,7,8] ?_)));refine jD (.a 1 ?_);refine .k (gU Mq Y) (.f [0,1,7,8,15] ?_);obtain⟨E,F,h⟩:=gC h;refine uT (fun z:(List (Bool×Bool×iY))=>⟨[(0,.ptr 9000 0),(8,.v Q8 C.2)],(iI 9000 (some (A 9000)) 9100 (some (A 9100)) 9200 (some (A 9200)) 107 108 109 110 b0 b1 b2 b3 b4 b5 b6 b7 b8 b9 b10 b11 b12 b13 b14 b15 b16 z b18 b19 b20 b21)⟩) (fun x=>E x=some r) Y ?_ ?_ ?_
 ·intro z h;rw[F] at h;refine aL [0,6] ?_;cases h;exact aG (eG B Y (aC [(403,110),(402,109),(401,108),(400,107)]))
 ·intro u;replace h:=jP u h;obtain⟨L,G,h⟩:=aB h;obtain⟨M,I,h⟩:=aB h;refine fN (.a 3 ?_);refine .t (sZ (H:=[9000,9100,9200,9050,9051,9052,9053]) (K:=[9000,9100,9200]) (uW [(9000,9000),(9100,9100),(9200,9200),(9050,9050),(9051,9051),(9052,9052),(9053,9053),(400,111),(401,112),(402,113),(403,114)]) (cU Y) (fun A=>nS A I) Tryz.call64 (.cons (.dir Y) (.cons (.dir Y) (.cons (.toN (Lk G) Y) .nil))) (fun A=>(.box Y (.box Y (.box Y (.arr Y (.mp Y (.arr Y (.arr Y .nil)))))))) (fun A=>(.box Y (.box Y (.box Y (.arr (.mp (.arr (.arr .nil Y) Y) Y) Y) Y) Y) Y)) (fun _=>rfl) Y Y (fun _=>rfl) Y Y) (.f [0,8] ?_);exact cF h (aC [(110,114),(109,113),(108,112),(107,111)])
 ·intro u;replace h:=jQ u h;refine aH ?_;exact cF h (aC [(110,9053),(109,9052),(108,9051),(107,9050)])
theorem Jt{a0 a1 a2 r}(h:mL a0 a1 a2=some r):
 Con Tryz.prog 102 [.v Jq a0,.v Q0 a1,.v Q0 a2] (.tup [.v nX r.1,.v Enc.bool r.2.1,.v Q8 r.2.2]) []:=by
 refine Con.of Tryz.func102 Y Tryz.ntmps102 Y ?_;intro S w B;unfold mL at h;refine aJ (.k (bU 101 Y (.prm (.one _ _) (.prm (.one _ _) (.prm (.one _ _) (.one _ _)))) Y) (.k (aM 102 Nu Y (.cons (Z.int .i64) (.cons (Z.sl Q5) .nil)) Y) (.f [1,2,3,6] ?_)));obtain⟨U,V,h⟩:=aB h;refine jD (.k (aX Y Y (.prm (.one _ _) (.prm (.one _ _) (.prm (.one _ _) (.one _ _)))) Dx xX) ?_);refine .a 1 ?_;refine .k (aO (sD V) RS (.cons (.dir Y) (.cons (.dir Y) .nil))) (.f [2,3,6,9] ?_);refine aL [2,3,6,9,21] ?_;refine aT h Y (fun K h=>?_) (fun K h=>?_)
 ·refine aJ (.k (eT (new:=[(104,.arr 124 Q5 ([]:Q6))]) Cp (.cons (Z.int .i64) (.ref 104 Y .nil)) (.cons .nil) Y .nil) (.f [6,7,8] ?_));refine aG ?_;obtain rfl:=pT h;exact bN (σ':=⟨[(6,.ptr 90 0),(7,.v Enc.bool false),(8,.v Q8 U)],[(90,.box 175 [.v Q0 (0:Int),.v Q1 ([]:Q6)])]⟩) (aC [(90,102)]) (vT B dD Y (aS Y Y (.prm (.one _ _) (.one _ _)) Mm uE) (RV.tmp Y) (RV.tmp Y) .nil Y)
 refine aH ?_;refine aF ?_;refine aF ?_;obtain⟨X,A,h⟩:=aB h;refine dL (σ':=⟨[(2,.v Q0 a2),(3,.ptr 101 0),(6,.ptr 102 0),(31,.v Enc.bool X)],[(101,.box 61 [.v Q0 a0.1,.v Q1 a0.2.1,.v (Enc.sl nX) a0.2.2.1,.v Enc.bool a0.2.2.2]),(102,.box 175 [.v Q0 (0:Int),.v Q1 ([]:Q6)])]⟩) ?_ ?_
 ·refine cd A (fun L A=>?_) (fun L A=>?_)
  ·cases A;exact jy
  cases A;exact jy
 refine aT h Y (fun M h=>?_) (fun M h=>?_)
 ·refine aJ (.k (eT (new:=[(105,.arr 124 Q5 ([]:Q6))]) Cp (.cons (Z.int .i64) (.ref 105 Y .nil)) (.cons .nil) Y .nil) (.f [6,7,8] ?_));refine aG ?_;obtain rfl:=pT h;exact bN (σ':=⟨[(6,.ptr 90 0),(7,.v Enc.bool false),(8,.v Q8 (some (1:Int)))],[(90,.box 175 [.v Q0 (0:Int),.v Q1 ([]:Q6)])]⟩) (aC [(90,102)]) (vT B dD Y (aS Y Y (.prm (.one _ _) (.one _ _)) Mm uE) (RV.tmp Y) (RV.tmp Y) .nil Y)
 refine aH ?_;refine cR [2,3,6,41] ?_;refine aT h Y (fun N h=>?_) (fun N h=>?_)
 ·refine aJ (.k (eT (new:=[(106,.arr 124 Q5 ([]:Q6))]) Cp (.cons (Z.int .i64) (.ref 106 Y .nil)) (.cons .nil) Y .nil) (.f [6,7,8] ?_));refine aG ?_;obtain rfl:=pT h;exact bN (σ':=⟨[(6,.ptr 90 0),(7,.v Enc.bool false),(8,.v Q8 (none:Option Int))],[(90,.box 175 [.v Q0 (0:Int),.v Q1 ([]:Q6)])]⟩) (aC [(90,102)]) (vT B dD Y (aS Y Y (.prm (.one _ _) (.one _ _)) Mm uE) (RV.tmp Y) (RV.tmp Y) .nil Y)
 refine aH ?_;refine aJ (.k (aM 107 Tryz.zeroValue204 Y (.cons (Z.arr 32 (Z.ptN Q5)) .nil) Y) (.f [2,3,6,10] ?_));refine cR [2,3,6,10,44,45,46] ?_;obtain⟨ap,aa,ab,aq⟩:=bX h;refine jH (σs:=fun z:Int×(List (Option (Int×aQ)))=>⟨[(2,.v Q0 a2),(3,.ptr 101 0),(6,.ptr 102 0),(10,.ptr 107 0),(44,.v (Enc.sl nX) a0.2.2.1),(45,.v Q0 (a0.2.2.1.length:Int)),(46,.v Q0 z.1)],[(101,.box 61 [.v Q0 a0.1,.v Q1 a0.2.1,.v (Enc.sl nX) a0.2.2.1,.v Enc.bool a0.2.2.2]),(102,.box 175 [.v Q0 (0:Int),.v Q1 ([]:Q6)]),(107,.box 204 [.v (Enc.arr 32 (Enc.ptN Q5)) z.2])]⟩) (fun C:(List (Option (Int×aQ)))=>⟨[(3,.ptr 101 0),(6,.ptr 102 0),(10,.ptr 107 0)],[(101,.box 61 [.v Q0 a0.1,.v Q1 a0.2.1,.v (Enc.sl nX) a0.2.2.1,.v Enc.bool a0.2.2.2]),(102,.box 175 [.v Q0 (0:Int),.v Q1 ([]:Q6)]),(107,.box 204 [.v (Enc.arr 32 (Enc.ptN Q5)) C])]⟩) aa (aC []) ?_ ?_
 ·intro C u;have h:=ab _ u;refine aJ (.a 2 ?_);refine .k (eT (new:=[(112,.arr 124 Q5 ([]:Q6))]) Cp (.cons (Z.int .i64) (.ref 112 Y .nil)) (.cons .nil) Y (.cons Y (.dir Y) Y Y Y Y .nil)) (.k (yV (new:=[(114,.arr 124 Q5 ([]:Q6))]) 113 Nu Y (.cons (Z.int .i64) (.ref 114 Y .nil)) (.cons .nil) Y Y) (.f [6,10,14] ?_));refine cR [6,14,76,77] ?_;obtain⟨au,ac,ad,av⟩:=bX h;refine jH (σs:=fun E:Int×Q6=>⟨[(6,.ptr 102 0),(14,.ptr 113 0),(76,.v (Enc.arr 32 (Enc.ptN Q5)) C),(77,.v Q0 E.1)],[(102,.box 175 [.v Q0 (0:Int),.v Q1 ([]:Q6)]),(113,.box 175 [.v Q0 a0.1,.ref 120]),(120,.arr 124 Q5 E.2)]⟩) (fun D:Q6=>⟨[(6,.ptr 102 0),(14,.ptr 113 0)],[(102,.box 175 [.v Q0 (0:Int),.v Q1 ([]:Q6)]),(113,.box 175 [.v Q0 a0.1,.ref 120]),(120,.arr 124 Q5 D)]⟩) ac (aC [(120,112)]) ?_ ?_
  ·intro D u;have h:=ad _ u;refine aJ (.k (gO Y Y Y Mm uE) (.f [6,7,8] ?_));refine aG ?_;obtain rfl:=pT h;exact bN (σ':=⟨[(6,.ptr 90 0),(7,.v Enc.bool true),(8,.v Q8 (none:Option Int))],[(90,.box 175 [.v Q0 a0.1,.v Q1 D])]⟩) (aC [(90,102)]) (vT B dD Y (aS Y Y (.prm (.one _ _) (.one _ _)) Mm uE) (RV.tmp Y) (RV.tmp Y) .nil Y)
  intro E am h;refine aL [6,14,76,77,78] ?_;refine aF ?_;refine aT h Y (fun O h=>?_) (fun O h=>?_)
  ·refine aH ?_;refine aF ?_;refine bF ?_;obtain⟨aw,ae,h⟩:=aB h;refine aJ (.k (JV ae Y Y Tryz.runUnderlying204 Tryz.sizeOf203 Tryz.isAgg203) (.f [6,14,16,76,77] ?_));refine aJ (.a 1 ?_);refine .k (JU Y Tryz.runUnderlying203) (.f [6,14,16,76,77,81] ?_);refine aT h Y (fun P h=>?_) (fun P h=>?_)
   ·obtain⟨ax,af,h⟩:=aB h;obtain⟨ay,ah,h⟩:=aB h;refine dI 6 mixed (by exact(.k (aA 1 Y Xw Y Hi Y Y) (.k (aI Y Y Y DP Hi) (.k (aD Y) (.k (Hu af Y) (.k (bQ Y Xt jE) (.k (dM (e:=Q5) xD jE Dz Y Y Y Y (.cons (.dir Y) .nil)) .nil))))))) (by exact(J.t (bR 122 ah Y Y (.sl Y) xD Jr jE Y Y Y Y Y) (jz [6,14,76,77]))) ?_;refine bK ?_;refine eB [6,14,76,77] ?_;cases h;exact cE (aC [(120,122)])
   refine aH ?_;refine bK ?_;refine eB [6,14,76,77] ?_;cases h;exact cE (aC [])
  cases h;exact cN (cW (aC []))
 intro z an h;refine aL [2,3,6,10,44,45,46,47] ?_;refine aF ?_;refine aT h Y (fun Q h=>?_) (fun Q h=>?_)
 ·refine aH ?_;refine aF ?_;refine bF ?_;obtain⟨G,az,h⟩:=aB h;refine aJ (.a 2 ?_);refine .k (aM 111 Nu Y (.cons (Z.int .i64) (.cons (Z.sl Q5) .nil)) Y) (.t (bI Y Y Y Y (.prm (.one _ _) (.one _ _)) uE) (.f [2,3,6,10,12,44,45,46] ?_));refine aL [2,3,6,10,12,44,45,46,52,53] ?_;obtain⟨a3,ai,aj,a4⟩:=bX h;refine jH (σs:=fun F:Int×(List (Option (Int×aQ)))=>⟨[(2,.v Q0 a2),(3,.ptr 101 0),(6,.ptr 102 0),(10,.ptr 107 0),(12,.ptr 111 0),(44,.v (Enc.sl nX) a0.2.2.1),(45,.v Q0 (a0.2.2.1.length:Int)),(46,.v Q0 z.1),(52,.v Q0 (G.2.length:Int)),(53,.v Q0 F.1)],[(101,.box 61 [.v Q0 a0.1,.v Q1 a0.2.1,.v (Enc.sl nX) a0.2.2.1,.v Enc.bool a0.2.2.2]),(102,.box 175 [.v Q0 (0:Int),.v Q1 ([]:Q6)]),(107,.box 204 [.v (Enc.arr 32 (Enc.ptN Q5)) F.2]),(111,.box 175 [.v Q0 G.1,.v Q1 G.2])]⟩) (fun H:(List (Option (Int×aQ)))=>⟨[(2,.v Q0 a2),(3,.ptr 101 0),(6,.ptr 102 0),(10,.ptr 107 0),(44,.v (Enc.sl nX) a0.2.2.1),(45,.v Q0 (a0.2.2.1.length:Int)),(46,.v Q0 z.1)],[(101,.box 61 [.v Q0 a0.1,.v Q1 a0.2.1,.v (Enc.sl nX) a0.2.2.1,.v Enc.bool a0.2.2.2]),(102,.box 175 [.v Q0 (0:Int),.v Q1 ([]:Q6)]),(107,.box 204 [.v (Enc.arr 32 (Enc.ptN Q5)) H])]⟩) ai (aC []) ?_ ?_
  ·intro H u;have h:=aj _ u;refine bK ?_;refine eB [2,3,6,10,44,45,46] ?_;cases h;exact cE (aC [])
  intro F ao h;refine aL [2,3,6,10,12,44,45,46,52,53,54] ?_;refine aF ?_;refine aT h Y (fun R h=>?_) (fun R h=>?_)
  ·refine aH ?_;refine aF ?_;refine bF ?_;refine aL [2,3,6,10,12,13,44,45,46,52,53] ?_;refine aL [2,3,6,10,12,13,44,45,46,52,53,59] ?_;refine aT h Y (fun T h=>?_) (fun T h=>?_)
   ·obtain⟨a5,ak,h⟩:=aB h;obtain⟨a6,al,h⟩:=aB h;obtain⟨a7,I,h⟩:=aB h;refine dI 11 mixed (by exact(.k (aA 1 Y Xw Y Hi Y Y) (.k (aI Y Y Y DP Hi) (.k (aD Y) (.k (pK ak Y Y xD jE) (.k (eI Y Mp Y S3 Y (.fst .here) Y) (.k (bQ Y G3 S3) (.k (aA 1 Y Xw Y Hi Y Y) (.k (aI Y Y Y DP Hi) (.k (aD Y) (.k (Yy (pK al Y Y xD jE)) (.k (uB I Y Y Y Y Tryz.runUnderlying204 Tryz.sizeOf203) .nil)))))))))))) (by exact(J.t (Sn (cX I).2.2 Y Y Y Y Tryz.sizeOf203) (J.kp [2,3,6,10,12,44,45,46,52,53] []))) ?_;refine bK ?_;refine eB [2,3,6,10,12,44,45,46,52,53] ?_;cases h;exact cE (aC [])
   refine aH ?_;refine bK ?_;refine eB [2,3,6,10,12,44,45,46,52,53] ?_;cases h;exact cE (aC [])
  cases h;exact cN (cW (aC []))
 cases h;exact cN (cW (aC []))
theorem Ju{a0 r}(h:pG a0=some r):
 Con Tryz.prog 147 [.v Q7 a0] (.v Q8 r) []:=by
 refine Con.of Tryz.func147 Y Tryz.ntmps147 Y ?_;intro S w u;unfold pG at h;refine aL [0] ?_;refine cR [0,8] ?_;refine aT h Y (fun C h=>?_) (fun C h=>?_)
 ·refine aL [2] ?_;cases h;exact aG (aY u dD Y (RV.tmp Y) .nil Y)
 refine aH ?_;refine aJ (.k (Eu 101 aN Enc.bool) (.f [0,3] ?_));refine cR [3,11,12,13] ?_;obtain⟨M,G,H,I⟩:=bX h;refine jH (σs:=fun z:Int×(List (aQ×Bool))=>⟨[(3,.ref 101),(11,.v Q7 a0),(12,.v Q0 (a0.length:Int)),(13,.v Q0 z.1)],[(101,.mp aN Enc.bool z.2)]⟩) (fun A:Unit=>⟨[],[]⟩) G (aC []) ?_ ?_
 ·intro A B;have h:=H _ B;refine aL [2] ?_;cases h;exact aG (aY u dD Y (RV.tmp Y) .nil Y)
 intro z L h;refine aL [3,11,12,13,14] ?_;refine aF ?_;refine aT h Y (fun D h=>?_) (fun D h=>?_)
 ·refine aH ?_;refine aF ?_;refine bF ?_;obtain⟨N,O,h⟩:=aB h;refine aJ (.a 2 ?_);refine .k (aM 105 Bc Y (.cons (Z.arr 8 (Z.int .u8)) .nil) Y) (.f [3,5,11,12,13] ?_);refine jD (.a 2 ?_);refine .k (AY Y Y Y Tryz.runUnderlying276 vI Nv Y AO Y Tryz.zeroValue4 (fun _ _=>⟨_,Y,Y⟩)) (.f [3,5,11,12,13,19] ?_);refine aT h Y (fun E h=>?_) (fun E h=>?_)
  ·refine aL [2] ?_;refine aG ?_;refine dZ ?_;cases h;refine gD fun F=>?_;obtain rfl:=I _ F;exact aY u dD Y (RV.tmp Y) .nil Y
  refine aH ?_;obtain⟨P,K,h⟩:=aB h;refine fN (.a 2 ?_);refine .t (AZ K Y Y Y Y Tryz.runUnderlying276 vI Nv Y AO Y) (.f [3,11,12,13] ?_);refine bK ?_;refine eB [3,11,12,13] ?_;cases h;exact cE (aC [])
 cases h;exact cN (cW (aC []))
theorem zM{a0 a1 r}(h:nF a0 a1=some r):
 Con Tryz.prog 134 [.v Q7 a0,.v Q7 a1] (.v Q8 r) []:=by
 refine Con.of Tryz.func134 Y Tryz.ntmps134 Y ?_;intro S w z;unfold nF at h;refine aL [0,1] ?_;refine aF ?_;refine aF ?_;obtain⟨C,u,h⟩:=aB h;refine dL (σ':=⟨[(1,.v Q7 a1),(12,.v Enc.bool C)],[]⟩) ?_ ?_
 ·refine cd u (fun A u=>?_) (fun A u=>?_)
  ·cases u;exact jy
  cases u;exact jy
 refine aT h Y (fun B h=>?_) (fun B h=>?_)
 ·refine aL [4] ?_;cases h;exact aG (aY z dD Y (RV.tmp Y) .nil Y)
 refine aH ?_;obtain⟨E,D,h⟩:=aB h;refine aJ (.a 1 ?_);refine .k (aO (Ju D) Tryz.call147 (.cons (.dir Y) .nil)) (.f [4] ?_);cases h;exact aG (aY z dD Y (RV.tmp Y) .nil Y)
theorem Nz{a0 r}(h:uX a0=some r):
 Con Tryz.prog 135 [.v Q7 a0] (.tup [.v (Enc.ptN (Enc.pr Q7 (Enc.mpF aN nC))) r.1,.v Q8 r.2]) []:=by
 refine Con.of Tryz.func135 Y Tryz.ntmps135 Y ?_;intro S w C;unfold uX at h;refine aJ (.k (jI (Enc.pr Q7 (Enc.mpF aN nC))) (.f [0] ?_));refine aF ?_;refine aF ?_;obtain⟨I,u,h⟩:=aB h;refine dL (σ':=⟨[(0,.v Q7 a0),(14,.v Enc.bool I)],[]⟩) ?_ ?_
 ·refine cd u (fun F u=>?_) (fun F u=>?_)
  ·cases u;exact jy
  cases u;exact jy
 refine aT h Y (fun G h=>?_) (fun G h=>?_)
 ·refine aJ (.a 1 ?_);refine .k (jI (Enc.pr Q7 (Enc.mpF aN nC))) (.f [2,3] ?_);cases h;exact aG (bD C dD Y (RV.tmp Y) (RV.tmp Y) .nil Y)
 refine aH ?_;obtain⟨A,K,h⟩:=aB h;refine aJ (.a 1 ?_);refine .k (eU 101000 (bZ K) OF (.cons (.dir Y) .nil) Y) (.k (Ta 102 aN 3 Q0) (.k (bE IN (.cons (Z.sl aN) (.cons (Z.mpF aN nC) .nil)) (.cons Y (.dir Y) Y Y Y Y (.cons Y (.dir Y) Y Y Y Y .nil))) (.k (yR 103 Y Y) (.f [0,4] ?_))));refine cR [4,21,22,23] ?_;obtain⟨P,L,M,Q⟩:=bX h;refine jH (σs:=fun B:Int×(List (aQ×iY))=>⟨[(4,.ptr 103 0),(21,.v Q7 a0),(22,.v Q0 (a0.length:Int)),(23,.v Q0 B.1)],[(103,.box 269 [.ref 101000,.ref 102]),(101000,.arr 33 aN A),(102,.dp (DE.mps true aN 3 Q0) (B.2,none) [])]⟩) (fun z:(List (aQ×iY))=>⟨[(4,.ptr 103 0)],[(103,.box 269 [.ref 101000,.ref 102]),(101000,.arr 33 aN A),(102,.dp (DE.mps true aN 3 Q0) (z,none) [])]⟩) L (aC []) ?_ ?_
 ·intro z E;have h:=M _ E;refine aJ (.a 1 ?_);refine .sub (σ':=⟨[(4,.pst (Enc.pr Q7 (Enc.mpF aN nC)) (A,z)),(40,.pst (Enc.pr Q7 (Enc.mpF aN nC)) (A,z))],[]⟩) (Sw.Sub.mk id (.cons Y (.frzP Y Y (.cons (.frz Y Y) (.cons (.frzD Y Y .mps) .nil)) (.prm (.one _ _) (.one _ _))) (.cons Y (.frzP Y Y (.cons (.frz Y Y) (.cons (.frzD Y Y .mps) .nil)) (.prm (.one _ _) (.one _ _))) .nil)) .nil Y) (.k (by exact Yy (bB Y)) (.f [2,3] ?_));cases h;exact aG (bD C dD Y (RV.tmp Y) (RV.tmp Y) .nil Y)
 intro B O h;refine aL [4,21,22,23,24] ?_;refine aF ?_;refine aT h Y (fun H h=>?_) (fun H h=>?_)
 ·refine aH ?_;refine aF ?_;refine bF ?_;obtain⟨R,T,h⟩:=aB h;refine aJ (.a 3 ?_);refine .k (aM 119 Bc Y (.cons (Z.arr 8 (Z.int .u8)) .nil) Y) (.f [4,5,6,21,22,23] ?_);obtain⟨U,D,h⟩:=aB h;obtain⟨V,N,h⟩:=aB h;refine dI 11 mixed (by exact(.k (aD Y) (.k (aK Y) (.k (aA 1 Y MF Y ID Y Y) (.k (aI Y Y Y Tryz.isAgg267 ID) (.k (aI Y Y Y sT jU) (.k (aD Y) (.k (dM (e:=Q0) xE S3 Z3 Y Y Y Y (.cons (.dir Y) .nil)) (JP4.mapEntry (.none Y) 122 D Y Y Y Tryz.runUnderlying267 vI Nv Y AO Y SameE.arr Tryz.zeroValue66 Y Y (.pu (.none Y) Y (fun _ _=>bH Y Y) (JP4.append (.none Y) 123 N Y Y (.sl Y) xE I3 S3 Y Y Y Y Y (.pu (.none Y) Y (fun _ _=>bH Y Y) .nil)))))))))))) (by exact(J.t (No (JX D) Y Y Y Y Y Y) (J.kp [4,21,22,23] []))) ?_;refine bK ?_;refine eB [4,21,22,23] ?_;cases h;exact cE (aC [])
 cases h;exact cN (cW (aC []))
theorem Fq{a0 a1 r}(h:uD a0 a1=some r):
 Con Tryz.prog 190 [.v jW a0,.v Q5 a1] (.tup [.v sB r.1,.v Enc.bool r.2]) []:=by
 refine Con.of Tryz.func190 Y Tryz.ntmps190 Y ?_;intro S w u;unfold uD at h;refine aJ (.k (bU 101 Y (.one _ _) Y) (.k (bU 102 Y (.prm (.one _ _) (.one _ _)) Y) (.k (aM 103 Mr Y (.cons (Z.int .i64) (.cons (Z.int .i64) (.cons (Z.int .i64) (.cons (Z.arr 8 (Z.int .u8)) .nil)))) Y) (.f [3,4] ?_))));refine aF ?_;refine dI 9 mixed (by exact(.k (aA 0 Y Mp Y S3 Y Y) (.k (aI Y Y Y G3 S3) (.k (bE Cq (.cons (Z.int .i64) (.cons (Z.int .i64) (.cons (Z.int .i64) (.cons (Z.arr 8 (Z.int .u8)) .nil)))) (.cons Y (.dir Y) Y Y Y Y (.cons Y (.dir Y) Y Y Y Y .nil))) (.k (aA 1 Y Mp Y jU Y Y) (.k (aI Y Y Y sT jU) (.k (cT (e:=aN) (v:=aU) Bb vI I5 Y Y (Z.arr 8 (Z.int .u8))) (.k (Wa Nv Y Y Tryz.eqGuardType33 Y Y) (JP4.storeAgg (.none Y) Y Y Y Y Y Y Bj (.k (bB Y) .nil)))))))))) (by exact(J.kp [4,5] [])) ?_;refine aG ?_;obtain rfl:=pT h;exact bN (σ':=⟨[(4,.ptr 90 0),(5,.v Enc.bool (decide (a1.2=aU)))],[(90,.box 209 [.v Q0 a1.1,.v Q0 (0:Int),.v Q0 (0:Int),.v aN aU])]⟩) (aC [(90,103)]) (bD u dD Y (aS Y Y (.prm (.one _ _) (.prm (.one _ _) (.prm (.one _ _) (.one _ _)))) Vi Bj) (RV.tmp Y) .nil Y)
theorem Cu{a0 a1 r}(h:lB a0 a1=some r):
 Con Tryz.prog 189 [.v (Enc.ptN (Enc.pr Q7 (Enc.mpF aN nC))) a0,.v aN a1] (.tup [.v Q0 r.1,.v Enc.bool r.2]) []:=by
 refine Con.of Tryz.func189 Y Tryz.ntmps189 Y ?_;intro S w u;unfold lB at h;refine aJ (.k (bU 101 Y (.one _ _) Y) (.f [0,3] ?_));refine aF ?_;obtain⟨B,A,h⟩:=aB h;refine dI 7 mixed (by exact(.k (aD Y) (.k (Hu A Y) (.k (eI Y MF Y ID Y (.snd .here) Y) (.k (bQ Y Tryz.isAgg267 ID) (.k (aI Y Y Y sT jU) (.k (Wm Y Y Tryz.runUnderlying267 vI Nv Y AO Y Tryz.zeroValue66 (fun S w=>⟨_,(Z.sl Q0) S w,Y⟩)) (.k (bB Y) .nil)))))))) (by exact(J.kp [6] [])) ?_;refine cR [6,15] ?_;refine aT h Y (fun z h=>?_) (fun z h=>?_)
 ·refine aL [4,5] ?_;cases h;exact aG (bD u dD Y (RV.tmp Y) (RV.tmp Y) .nil Y)
 refine aH ?_;obtain⟨C,D,h⟩:=aB h;refine aL [4,5] ?_;cases h;exact aG (bD u dD Y (RV.tmp Y) (RV.tmp Y) .nil Y)
theorem Fs{a0 a1 r}(h:nG a0 a1=some r):
 Con Tryz.prog 191 [.v (Enc.one1 (Enc.ptN (Enc.pr Q7 (Enc.mpF aN nC)))) a0,.v Q5 a1] (.tup [.v sB r.1,.v Enc.bool r.2]) []:=by
 refine Con.of Tryz.func191 Y Tryz.ntmps191 Y ?_;intro S w z;unfold nG at h;refine aJ (.k (bU 101 Y (.one1 (.one _ _)) Y) (.k (bU 102 Y (.prm (.one _ _) (.one _ _)) Y) (.k (aM 103 Mr Y (.cons (Z.int .i64) (.cons (Z.int .i64) (.cons (Z.int .i64) (.cons (Z.arr 8 (Z.int .u8)) .nil)))) Y) (.f [2,3,4] ?_))));obtain⟨u,A,h⟩:=aB h;refine aJ (.a 4 ?_);refine .k (aO (Cu A) Tryz.call189 (.cons (.dir Y) (.cons (.dir Y) .nil))) (.f [3,4,6,7] ?_);refine aJ (.a 3 ?_);refine .k (bE Cq (.cons (Z.int .i64) (.cons (Z.int .i64) (.cons (Z.int .i64) (.cons (Z.arr 8 (Z.int .u8)) .nil)))) (.cons Y (.dir Y) Y Y Y Y (.cons Y (.dir Y) Y Y Y Y (.cons Y (.dir Y) Y Y Y Y .nil)))) (.f [4,5] ?_);refine aG ?_;obtain rfl:=pT h;exact bN (σ':=⟨[(4,.ptr 90 0),(5,.v Enc.bool u.2)],[(90,.box 209 [.v Q0 a1.1,.v Q0 (1:Int),.v Q0 u.1,.v aN aU])]⟩) (aC [(90,103)]) (bD z dD Y (aS Y Y (.prm (.one _ _) (.prm (.one _ _) (.prm (.one _ _) (.one _ _)))) Vi Bj) (RV.tmp Y) .nil Y)
theorem rO{a0 a1 r}(h:dO a0 a1=some r):
 Con Tryz.prog 194 [.v Q7 a0,.v aN a1] (.v Q0 r) []:=by
 refine Con.of Tryz.func194 Y Tryz.ntmps194 Y ?_;intro S w u;unfold dO at h;refine aJ (.k (bU 101 Y (.one _ _) Y) (.f [0,3] ?_));refine cR [0,3,7,8] ?_;obtain⟨L,F,G,H⟩:=bX h;refine jH (σs:=fun z:Int=>⟨[(0,.v Q7 a0),(3,.ptr 101 0),(7,.v Q0 (a0.length:Int)),(8,.v Q0 z)],[(101,.box 33 [.v aN a1])]⟩) (fun A:Unit=>⟨[],[]⟩) F (aC []) ?_ ?_
 ·intro A B;have h:=G _ B;refine aL [4] ?_;cases h;exact aG (aY u dD Y (RV.tmp Y) .nil Y)
 intro z K h;refine aL [0,3,7,8,9] ?_;refine aF ?_;refine aT h Y (fun C h=>?_) (fun C h=>?_)
 ·refine aH ?_;refine aF ?_;refine bF ?_;refine aL [0,3,5,7,8] ?_;refine aF ?_;obtain⟨M,I,h⟩:=aB h;refine dI 6 mixed (by exact(.k (aI Y Y Y sT jU) (.k (aD Y) (.k (aD Y) (.k (pK I Y Y Il jU) (.k (bQ Y sT jU) (.k (Wa Nv Y Y Tryz.eqGuardType33 Y Y) .nil))))))) (by exact(J.kp [0,3,5,7,8,16] [])) ?_;refine aT h Y (fun D h=>?_) (fun D h=>?_)
  ·refine aL [4] ?_;refine aG ?_;refine dZ ?_;cases h;refine gD fun E=>?_;obtain rfl:=H _ E;exact aY u dD Y (RV.tmp Y) .nil Y
  refine aH ?_;refine bK ?_;refine eB [0,3,7,8] ?_;cases h;exact cE (aC [])
 cases h;exact cN (cW (aC []))
theorem Mx{a0 a1 r}(h:tC a0 a1=some r):
 Con Tryz.prog 193 [.v Q7 a0,.v aN a1] (.tup [.v Q0 r.1,.v Enc.bool r.2]) []:=by
 refine Con.of Tryz.func193 Y Tryz.ntmps193 Y ?_;intro S w u;unfold tC at h;refine aJ (.k (bU 101 Y (.one _ _) Y) (.f [0,3] ?_));obtain⟨A,z,h⟩:=aB h;refine aJ (.a 2 ?_);refine .k (aO (rO z) Tryz.call194 (.cons (.dir Y) (.cons (.dir Y) .nil))) (.f [6] ?_);refine aJ (.a 1 ?_);refine .k (Aa Y Y) (.f [4,5] ?_);cases h;exact aG (bD u dD Y (RV.tmp Y) (RV.tmp Y) .nil Y)
theorem Cv{a0 a1 r}(h:lC a0 a1=some r):
 Con Tryz.prog 192 [.v (Enc.one1 Q7) a0,.v Q5 a1] (.tup [.v sB r.1,.v Enc.bool r.2]) []:=by
 refine Con.of Tryz.func192 Y Tryz.ntmps192 Y ?_;intro S w z;unfold lC at h;refine aJ (.k (bU 101 Y (.one1 (.one _ _)) Y) (.k (bU 102 Y (.prm (.one _ _) (.one _ _)) Y) (.k (aM 103 Mr Y (.cons (Z.int .i64) (.cons (Z.int .i64) (.cons (Z.int .i64) (.cons (Z.arr 8 (Z.int .u8)) .nil)))) Y) (.f [2,3,4] ?_))));obtain⟨u,A,h⟩:=aB h;refine aJ (.a 4 ?_);refine .k (aO (Mx A) Tryz.call193 (.cons (.dir Y) (.cons (.dir Y) .nil))) (.f [3,4,6,7] ?_);refine aJ (.a 3 ?_);refine .k (bE Cq (.cons (Z.int .i64) (.cons (Z.int .i64) (.cons (Z.int .i64) (.cons (Z.arr 8 (Z.int .u8)) .nil)))) (.cons Y (.dir Y) Y Y Y Y (.cons Y (.dir Y) Y Y Y Y (.cons Y (.dir Y) Y Y Y Y .nil)))) (.f [4,5] ?_);refine aG ?_;obtain rfl:=pT h;exact bN (σ':=⟨[(4,.ptr 90 0),(5,.v Enc.bool u.2)],[(90,.box 209 [.v Q0 a1.1,.v Q0 (2:Int),.v Q0 u.1,.v aN aU])]⟩) (aC [(90,103)]) (bD z dD Y (aS Y Y (.prm (.one _ _) (.prm (.one _ _) (.prm (.one _ _) (.one _ _)))) Vi Bj) (RV.tmp Y) .nil Y)
theorem Bq{a0 a1 r}(h:rL a0 a1=some r):
 Con Tryz.prog 195 [.v jW a0,.v Q5 a1] (.tup [.v sB r.1,.v Enc.bool r.2]) []:=by
 refine Con.of Tryz.func195 Y Tryz.ntmps195 Y ?_;intro S w u;unfold rL at h;refine aJ (.k (bU 101 Y (.one _ _) Y) (.k (bU 102 Y (.prm (.one _ _) (.one _ _)) Y) (.k (aM 103 Mr Y (.cons (Z.int .i64) (.cons (Z.int .i64) (.cons (Z.int .i64) (.cons (Z.arr 8 (Z.int .u8)) .nil)))) Y) (.f [3,4] ?_))));refine aJ (.a 4 ?_);refine .k (bE Cq (.cons (Z.int .i64) (.cons (Z.int .i64) (.cons (Z.int .i64) (.cons (Z.arr 8 (Z.int .u8)) .nil)))) (.cons Y (.dir Y) Y Y Y Y (.cons Y (.dir Y) Y Y Y Y (.cons Y (.dir Y) Y Y Y Y .nil)))) (.f [4,5] ?_);refine aG ?_;obtain rfl:=pT h;exact bN (σ':=⟨[(4,.ptr 90 0),(5,.v Enc.bool true)],[(90,.box 209 [.v Q0 a1.1,.v Q0 (3:Int),.v Q0 (0:Int),.v aN a1.2])]⟩) (aC [(90,103)]) (bD u dD Y (aS Y Y (.prm (.one _ _) (.prm (.one _ _) (.prm (.one _ _) (.one _ _)))) Vi Bj) (RV.tmp Y) .nil Y)
theorem Ry{w p0 r}(h:iQ w p0=some r):
 IfcCon Tryz.prog "stillwater/plan.tell" Zg w [.v Q5 p0] (.tup [.v sB r.1,.v Enc.bool r.2]) []:=by
 unfold iQ at h;rcases w with z | z | z | z | z
 ·exact(IfcCon.here (fun _ _=>by kernel_rfl) Tryz.call190 (Fq h))
 ·exact(.there (IfcCon.here (fun _ _=>by kernel_rfl) Tryz.call191 (Fs h)))
 ·exact(.there (.there (IfcCon.here (fun _ _=>by kernel_rfl) Tryz.call192 (Cv h))))
 ·exact(.there (.there (.there (IfcCon.here (fun _ _=>by kernel_rfl) Tryz.call195 (Bq h)))))
 ·cases h
theorem Ir{a0 a1 a2 r}(h:qE a0 a1 a2=some r):
 Con Tryz.prog 119 [.v Q1 a0,.v Q7 a1,.v Q7 a2] (.tup [.ref 0,.v Q8 r.2]) [(0,.arr 209 sB r.1)]:=by
 refine Con.of Tryz.func119 Y Tryz.ntmps119 Y ?_;intro S w C;unfold qE at h;refine aJ (.k (aR 101 209 sB) (.f [0,1,2] ?_));obtain⟨v1,aa,h⟩:=aB h;refine jD (.a 2 ?_);refine .k (aO (zM aa) Tryz.call134 (.cons (.dir Y) (.cons (.dir Y) .nil))) (.f [0,1,2,8] ?_);refine aL [0,1,2,8,25] ?_;refine aT h Y (fun N h=>?_) (fun N h=>?_)
 ·refine aJ (.a 1 ?_);refine .k (aR 103 209 sB) (.f [6,7] ?_);cases h;exact aG (vP C dD Y (aC [(0,103)]))
 refine aH ?_;refine aL [0,1,2,9] ?_;refine cR [0,1,2,9,27,28,29] ?_;obtain⟨av,ab,ac,ad⟩:=bX h;refine jH (σs:=fun D:Int×Int=>⟨[(0,.v Q1 a0),(1,.v Q7 a1),(2,.v Q7 a2),(9,.v Q0 D.1),(27,.v Q1 a0),(28,.v Q0 (a0.length:Int)),(29,.v Q0 D.2)],[]⟩) (fun L:Unit=>⟨[(0,.v Q1 a0),(1,.v Q7 a1),(2,.v Q7 a2)],[]⟩) ab (aC []) ?_ ?_
 ·intro L A;have h:=ac _ A;obtain⟨z,ae,h⟩:=aB h;refine aJ (.a 1 ?_);refine .k (aO (Nz ae) Tryz.call135 (.cons (.dir Y) .nil)) (.f [0,1,2,12,13] ?_);refine cR [0,1,2,12,13,54] ?_;refine aT h Y (fun O h=>?_) (fun O h=>?_)
  ·refine aJ (.a 1 ?_);refine .k (aR 113 209 sB) (.f [6,7] ?_);cases h;exact aG (vP C dD Y (aC [(0,113)]))
  refine aH ?_;refine aJ (.k (aR 114 209 sB) (.f [0,1,2,12,14] ?_));refine cR [1,2,12,14,56,57,58] ?_;obtain⟨aw,af,ah,ax⟩:=bX h;refine jH (σs:=fun u:Int×(List (Int×Int×Int×aQ))=>⟨[(1,.v Q7 a1),(2,.v Q7 a2),(12,.v (Enc.ptN (Enc.pr Q7 (Enc.mpF aN nC))) z.1),(14,.ref 162),(56,.v Q1 a0),(57,.v Q0 (a0.length:Int)),(58,.v Q0 u.1)],[(162,.arr 209 sB u.2)]⟩) (fun F:(List (Int×Int×Int×aQ))=>⟨[(14,.ref 162)],[(162,.arr 209 sB F)]⟩) af (aC [(162,114)]) ?_ ?_
  ·intro F A;have h:=ah _ A;refine aL [6,7] ?_;cases h;exact aG (vP C dD Y (aC [(0,162)]))
  intro u M h;refine aL [1,2,12,14,56,57,58,59] ?_;refine aF ?_;refine aT h Y (fun P h=>?_) (fun P h=>?_)
  ·refine aH ?_;refine aF ?_;obtain⟨ai,aj,h⟩:=gC h;refine RX (fun G:(List (Int×Int×Int×aQ))=>⟨[(1,.v Q7 a1),(2,.v Q7 a2),(12,.v (Enc.ptN (Enc.pr Q7 (Enc.mpF aN nC))) z.1),(14,.ref 196),(56,.v Q1 a0),(57,.v Q0 (a0.length:Int)),(58,.v Q0 u.1)],[(196,.arr 209 sB G)]⟩) (fun x=>ai x=some M) ?_ ?_
   ·intro G h;rw[aj] at h;refine eB [1,2,12,14,56,57,58] ?_;cases h;exact cE (aC [(162,196)])
   obtain⟨E,ay,h⟩:=aB h;refine aJ (.a 2 ?_);refine .k (aM 197 Dz Y (.cons (Z.int .i64) (.cons (Z.arr 8 (Z.int .u8)) .nil)) Y) (.t (bI Y Y Y Y (.prm (.one _ _) (.one _ _)) jE) (.f [1,2,12,14,16,56,57,58] ?_));refine aF ?_;refine aF ?_;obtain⟨az,ak,h⟩:=aB h;refine dI 8 mixed (by exact(.k (aD Y) (.k (aA 0 Y Mp Y S3 Y Y) (.k (aI Y Y Y G3 S3) (.k (pK ak Y Y Il jU) (.k (bQ Y sT jU) (.k (aA 1 Y Mp Y jU Y Y) (.k (aI Y Y Y sT jU) (.k (Wa Nv Y Y Tryz.eqGuardType33 Y Y) .nil))))))))) (by exact(J.kp [1,2,12,14,16,56,57,58,69] [])) ?_;refine aT h Y (fun Q h=>?_) (fun Q h=>?_)
   ·refine cN ?_;exact JJ h (aC [(196,162)])
   refine aH ?_;refine SB (σ':=⟨[(1,.v Q7 a1),(2,.v Q7 a2),(12,.v (Enc.ptN (Enc.pr Q7 (Enc.mpF aN nC))) z.1),(14,.ref 162),(16,.ptr 197 0),(56,.v Q1 a0),(57,.v Q0 (a0.length:Int)),(58,.v Q0 u.1),(80,.v (Enc.sl Zg) ([(.inl ():kX),(.inr (.inl z.1):kX),(.inr (.inr (.inl a2)):kX),(.inr (.inr (.inr (.inl ()))):kX)]:(List kX))),(81,.v Q0 (([(.inl ():kX),(.inr (.inl z.1):kX),(.inr (.inr (.inl a2)):kX),(.inr (.inr (.inr (.inl ()))):kX)]:(List kX)).length:Int)),(82,.v Q0 (0:Int))],[(162,.arr 209 sB u.2),(197,.box 124 [.v Q0 E.1,.v aN E.2])]⟩) (J.cons (.none Y) (Li (bE II .nil .nil)) Y Y (J.cons (.none Y) (Gl Y Tryz.runUnderlying228 .here) Y Y (J.cons (.none Y) (aD Y) Y Y (J.cons (.none Y) (Ae (bE IJ (.cons (Z.ptN (Enc.pr Q7 (Enc.mpF aN nC))) .nil) (.cons Y (.dir Y) Y Y Y Y .nil)) (.one1 (.one _ _)) Y) Y Y (J.cons (.none Y) (Gl Y ON (.there .here)) Y Y (J.cons (.none Y) (aD Y) Y Y (J.cons (.none Y) (Ae (bE IK (.cons (Z.sl aN) .nil) (.cons Y (.dir Y) Y Y Y Y .nil)) (.one1 (.one _ _)) Y) Y Y (J.cons (.none Y) (Gl Y OO (.there (.there .here))) Y Y (J.cons (.none Y) (Li (bE IL .nil .nil)) Y Y (J.cons (.none Y) (Gl Y Tryz.runUnderlying233 (.there (.there (.there .here)))) Y Y (J.cons (.none Y) (dM (e:=Zg) OP Tryz.sizeOf236 Tryz.zeroValue236 Y Y Y Y (.cons (.dir Y) (.cons (.dir Y) (.cons (.dir Y) (.cons (.dir Y) .nil))))) Y Y (J.cons (.none Y) (uA Y OP) Y Y (J.cons (.none Y) (aD Y) Y Y (J.fin (aC []))))))))))))))) ?_;obtain⟨a3,al,am,a4⟩:=bX h;refine jH (σs:=fun I:Int=>⟨[(1,.v Q7 a1),(2,.v Q7 a2),(12,.v (Enc.ptN (Enc.pr Q7 (Enc.mpF aN nC))) z.1),(14,.ref 162),(16,.ptr 197 0),(56,.v Q1 a0),(57,.v Q0 (a0.length:Int)),(58,.v Q0 u.1),(80,.v (Enc.sl Zg) ([(.inl ():kX),(.inr (.inl z.1):kX),(.inr (.inr (.inl a2)):kX),(.inr (.inr (.inr (.inl ()))):kX)]:(List kX))),(81,.v Q0 (([(.inl ():kX),(.inr (.inl z.1):kX),(.inr (.inr (.inl a2)):kX),(.inr (.inr (.inr (.inl ()))):kX)]:(List kX)).length:Int)),(82,.v Q0 I)],[(162,.arr 209 sB u.2),(197,.box 124 [.v Q0 E.1,.v aN E.2])]⟩) (fun H:(List (Int×Int×Int×aQ))=>⟨[(1,.v Q7 a1),(2,.v Q7 a2),(12,.v (Enc.ptN (Enc.pr Q7 (Enc.mpF aN nC))) z.1),(14,.ref 204),(56,.v Q1 a0),(57,.v Q0 (a0.length:Int)),(58,.v Q0 u.1)],[(204,.arr 209 sB H)]⟩) al (aC []) ?_ ?_
   ·intro H A;have h:=am _ A;exact JI h (aC [(196,204)])
   intro I aq h;refine aL [1,2,12,14,16,56,57,58,80,81,82,83] ?_;refine aF ?_;refine aT h Y (fun R h=>?_) (fun R h=>?_)
   ·refine aH ?_;refine aF ?_;refine bF ?_;obtain⟨a5,a6,h⟩:=aB h;refine aL [1,2,12,14,16,18,56,57,58,80,81,82] ?_;obtain⟨a7,an,h⟩:=aB h;refine aJ (.a 1 ?_);refine .k (aX Y Y (.prm (.one _ _) (.one _ _)) Xt jE) (.k (BI Y (Ry an) (.cons (.dir Y) .nil)) ?_);refine .a 3 ?_;refine .k (aM 205 Mr Y (.cons (Z.int .i64) (.cons (Z.int .i64) (.cons (Z.int .i64) (.cons (Z.arr 8 (Z.int .u8)) .nil)))) Y) (.t (bI Y Y Y Y (.prm (.one _ _) (.prm (.one _ _) (.prm (.one _ _) (.one _ _)))) Bj) (.f [1,2,12,14,16,19,20,56,57,58,80,81,82] ?_));refine aL [1,2,12,14,16,19,56,57,58,80,81,82,92] ?_;refine aT h Y (fun T h=>?_) (fun T h=>?_)
    ·obtain⟨a8,ao,h⟩:=aB h;refine aJ (.a 1 ?_);refine .k (aX Y Y (.prm (.one _ _) (.prm (.one _ _) (.prm (.one _ _) (.one _ _)))) Vi Bj) (.k (dM (e:=sB) DH Bj Mr Y Y Y Y (.cons (.dir Y) .nil)) (.t (bR 206 ao Y Y (.sl Y) DH OJ Bj Y Y Y Y Y) (.f [1,2,12,14,56,57,58] ?_)));refine cN ?_;refine JF Y ?_;cases h;exact cW (aC [(204,206)])
    refine aH ?_;refine bK ?_;refine eB [1,2,12,14,16,56,57,58,80,81,82] ?_;cases h;exact cE (aC [])
   cases h;exact cN (cW (aC [(204,162)]))
  cases h;exact cN (cW (aC []))
 intro D au h;refine aL [0,1,2,9,27,28,29,30] ?_;refine aF ?_;refine aT h Y (fun U h=>?_) (fun U h=>?_)
 ·refine aH ?_;refine aF ?_;refine bF ?_;obtain⟨K,a9,h⟩:=aB h;refine aJ (.a 2 ?_);refine .k (aM 110 Dz Y (.cons (Z.int .i64) (.cons (Z.arr 8 (Z.int .u8)) .nil)) Y) (.t (bI Y Y Y Y (.prm (.one _ _) (.one _ _)) jE) (.f [0,1,2,9,11,27,28,29] ?_));refine aF ?_;refine aF ?_;obtain⟨ap,B,h⟩:=aB h;refine dL (σ':=⟨[(0,.v Q1 a0),(1,.v Q7 a1),(2,.v Q7 a2),(11,.ptr 110 0),(27,.v Q1 a0),(28,.v Q0 (a0.length:Int)),(29,.v Q0 D.2),(43,.v Enc.bool ap)],[(110,.box 124 [.v Q0 K.1,.v aN K.2])]⟩) ?_ ?_
  ·refine cd B (fun V B=>?_) (fun V B=>?_)
   ·cases B;exact jy
   cases B;exact jy
  refine aT h Y (fun X h=>?_) (fun X h=>?_)
  ·refine aJ (.a 1 ?_);refine .k (aR 111 209 sB) (.f [6,7] ?_);refine aG ?_;refine dZ ?_;cases h;refine gD fun ho=>?_;obtain rfl:=ad _ ho;exact vP C dD Y (aC [(0,111)])
  refine aH ?_;refine eB [0,1,2,9,27,28,29] ?_;refine bK ?_;refine eB [0,1,2,9,27,28,29] ?_;cases h;exact cE (aC [])
 cases h;exact cN (cW (aC []))
theorem Is{a0 a1 a2 r}(h:qF a0 a1 a2=some r):
 Con Tryz.prog 103 [.v nX a0,.v Q7 a1,.v Q0 a2] (.tup [.v Q4 r.1,.v Enc.bool r.2]) []:=by
 refine Con.of Tryz.func103 Y Tryz.ntmps103 Y ?_;intro S w A;unfold qF at h;refine aJ (.k (bU 101 Y (.prm (.one _ _) (.one _ _)) Y) (.k (aM 102 Bk Y (.cons (Z.int .i64) (.cons (Z.sl Q0) (.cons (Z.sl aN) .nil))) Y) (.f [1,2,3,6] ?_)));obtain⟨B,H,h⟩:=aB h;refine aJ (.a 3 ?_);refine .k (eU 103000 (Ir H) Tryz.call119 (.cons (.dir Y) (.cons (.dir Y) (.cons (.nilS _) .nil))) Y) (.f [2,3,6,8,9] ?_);refine cR [2,3,6,8,21] ?_;refine aT h Y (fun E h=>?_) (fun E h=>?_)
 ·refine aJ (.k (eT (new:=[(105,.arr 3 Q0 ([]:iY)),(104,.arr 33 aN ([]:jA))]) lH (.cons (Z.int .i64) (.ref 105 Y (.ref 104 Y .nil))) (.cons (.cons .nil)) Y .nil) (.f [6,7] ?_));refine aG ?_;obtain rfl:=pT h;exact bN (σ':=⟨[(6,.ptr 90 0),(7,.v Enc.bool false)],[(90,.box 129 [.v Q0 (0:Int),.v nC ([]:iY),.v Q7 ([]:jA)])]⟩) (aC [(90,102)]) (bD A dD Y (aS Y Y (.prm (.one _ _) (.prm (.one _ _) (.one _ _))) tU kU) (RV.tmp Y) .nil Y)
 refine aH ?_;refine aJ (.a 3 ?_);refine .k (qM (e:=Q0) 106 xE S3 Z3 Y Y Y Y (.cons (.dir Y) (.cons (.dir Y) .nil))) (.k (eT (new:=[(107,.arr 33 aN ([]:jA))]) lH (.cons (Z.int .i64) (.cons (Z.sl Q0) (.ref 107 Y .nil))) (.cons .nil) Y (.cons Y (.dir Y) Y Y Y Y (.cons Y (.dir Y) Y Y Y Y .nil))) (.k (yV (new:=[(110,.arr 3 Q0 ([]:iY)),(109,.arr 33 aN ([]:jA))]) 108 Bk Y (.cons (Z.int .i64) (.ref 110 Y (.ref 109 Y .nil))) (.cons (.cons .nil)) Y Y) (.f [6,8,10] ?_)));refine cR [6,10,28,29,30] ?_;obtain⟨O,I,K,P⟩:=bX h;refine jH (σs:=fun z:Int×iY×jA=>⟨[(6,.ptr 102 0),(10,.ptr 108 0),(28,.ref 103000),(29,.v Q0 (B.1.length:Int)),(30,.v Q0 z.1)],[(102,.box 129 [.v Q0 (0:Int),.v nC ([]:iY),.v Q7 ([]:jA)]),(108,.box 129 [.v Q0 (4:Int),.ref 123,.ref 124]),(103000,.arr 209 sB B.1),(123,.arr 3 Q0 z.2.1),(124,.arr 33 aN z.2.2)]⟩) (fun u:iY×jA=>⟨[(6,.ptr 102 0),(10,.ptr 108 0)],[(102,.box 129 [.v Q0 (0:Int),.v nC ([]:iY),.v Q7 ([]:jA)]),(108,.box 129 [.v Q0 (4:Int),.ref 123,.ref 124]),(123,.arr 3 Q0 u.1),(124,.arr 33 aN u.2)]⟩) I (aC [(124,107),(123,106)]) ?_ ?_
 ·intro u D;have h:=K _ D;refine aF ?_;refine dI 7 mixed (by exact(.k (gO Y Y Y tU kU) (.k (aA 1 Y tV Y xY Y Y) (.k (aI Y Y Y Ru xY) (.k (Qf Y Y xE) (.k (jO Y Y Y) (JP4.storeAgg (.none Y) Y Y Y Y Y Y kU (.k (bB Y) .nil)))))))) (by exact(J.kp [6,7] [])) ?_;refine aG ?_;obtain rfl:=pT h;exact bN (σ':=⟨[(6,.ptr 90 0),(7,.v Enc.bool (cm .leq (u.1.length:Int) (9:Int)))],[(90,.box 129 [.v Q0 (4:Int),.v nC u.1,.v Q7 u.2])]⟩) (aC [(90,102)]) (bD A dD Y (aS Y Y (.prm (.one _ _) (.prm (.one _ _) (.one _ _))) tU kU) (RV.tmp Y) .nil Y)
 intro z N h;refine aL [6,10,28,29,30,31] ?_;refine aF ?_;refine aT h Y (fun F h=>?_) (fun F h=>?_)
 ·refine aH ?_;refine aF ?_;refine bF ?_;obtain⟨Q,C,h⟩:=aB h;refine aJ (.k (iJ C Y Y Y DH Bj) (.k (jC (cX C).2.2 Y Y .here Vi Bj) (.k (aM 128 Mr Y (.cons (Z.int .i64) (.cons (Z.int .i64) (.cons (Z.int .i64) (.cons (Z.arr 8 (Z.int .u8)) .nil)))) Y) (.t (bI Y Y Y Y (.prm (.one _ _) (.prm (.one _ _) (.prm (.one _ _) (.one _ _)))) Bj) (.f [6,10,12,28,29,30] ?_)))));obtain⟨R,L,h⟩:=aB h;refine aJ (.a 4 ?_);refine .k (eK (.inl Y) (by decide) Y Y) ?_;refine .a 2 ?_;refine .k (eK (.inl Y) (by decide) Y Y) ?_;refine .a 4 ?_;refine .k (dM (e:=Q0) xE S3 Z3 Y Y Y Y (.cons (.dir Y) .nil)) (.t (bR 129 L Y Y (.sl Y) xE I3 S3 Y Y Y Y Y) (.f [6,10,12,28,29,30] ?_));refine aL [6,10,12,28,29,30,51] ?_;refine aT h Y (fun G h=>?_) (fun G h=>?_)
  ·obtain⟨T,M,h⟩:=aB h;refine fN (.a 4 ?_);refine .k (dM (e:=aN) Il jU Bc Y Y Y Y (.cons (.dir Y) .nil)) (.t (bR 130 M Y Y (.sl Y) Il Bb jU Y Y Y Y Y) (.f [6,10,28,29,30] ?_));refine bK ?_;refine eB [6,10,28,29,30] ?_;cases h;exact cE (aC [(124,130),(123,129)])
  refine aH ?_;refine bK ?_;refine eB [6,10,28,29,30] ?_;cases h;exact cE (aC [(123,129)])
 cases h;exact cN (cW (aC []))
theorem wV(A:Nat->Nat){b0 b1 b2 b3 b4 b5 b6 b7 b8 b9 b10 b11 b12 b13 b14 b15 b16 b17 b18 b19 b20 b21 r}(h:cY b0 b1 b2 b3 b4 b5 b6 b7 b8 b9 b10 b11 b12 b13 b14 b15 b16 b17 b18 b19 b20 b21=some r):
 ConM Tryz.prog 62 [.ptr 9000 1] (iI 9000 (some (A 9000)) 9100 (some (A 9100)) 9200 (some (A 9200)) 9050 9051 9052 9053 b0 b1 b2 b3 b4 b5 b6 b7 b8 b9 b10 b11 b12 b13 b14 b15 b16 b17 b18 b19 b20 b21) (.v Q4 r) (iI 9000 (some (A 9000)) 9100 (some (A 9100)) 9200 (some (A 9200)) 400 401 402 403 b0 b1 b2 b3 b4 b5 b6 b7 b8 b9 b10 b11 b12 b13 b14 b15 b16 b17 b18 b19 b20 b21):=by
 refine ConM.of Tryz.func62 Y Tryz.ntmps62 Y ?_;intro S w R C;unfold cY at h;refine aJ (.k (aM 101 Bk Y (.cons (Z.int .i64) (.cons (Z.sl Q0) (.cons (Z.sl aN) .nil))) Y) (.f [0,2] ?_));refine aF ?_;refine aF ?_;obtain⟨D,I,h⟩:=aB h;refine dI 22 mixed (by exact(.k (aD Y) (.k (aK Y) (.k (aA 6 Y uS Y xX Y Y) (.k (aI Y Y Y Dx xX) (.k (aD Y) (.k (aK Y) (.k (aA 1 Y uS Y Js Y Y) (.k (aA 2 Y Dy Y S3 Y Y) (.k (aI Y Y Y G3 S3) (.k (aD Y) (.k (aK Y) (.k (aA 15 Y uS Y S3 Y Y) (.k (aI Y Y Y G3 S3) (.k (aO (Jt I) Tryz.call102 (.cons (.dir Y) (.cons (.dir Y) (.cons (.dir Y) .nil)))) (.k (aD Y) (.k (bH Y Y) (.k (bH Y Y) (.k (bH Y Y) (.k (aM 103 Nu Y (.cons (Z.int .i64) (.cons (Z.sl Q5) .nil)) Y) (JP4.storeAll (.none Y) Y Y Y Y (.prm (.one _ _) (.one _ _)) uE (.k (bB Y) (.k (bB Y) .nil))))))))))))))))))))))) (by exact(J.kp [0,2,3,4,5] [])) ?_;refine aF ?_;obtain⟨K,u,h⟩:=aB h;refine dL (σ':=⟨[(0,.ptr 9000 1),(2,.ptr 101 0),(3,.ptr 103 0),(32,.v Enc.bool K)],((101,.box 129 [.v Q0 (0:Int),.v nC ([]:iY),.v Q7 ([]:jA)])::(103,.box 175 [.v Q0 D.1.1,.v Q1 D.1.2])::iI 9000 (some (A 9000)) 9100 (some (A 9100)) 9200 (some (A 9200)) 9050 9051 9052 9053 b0 b1 b2 b3 b4 b5 b6 b7 b8 b9 b10 b11 b12 b13 b14 b15 b16 b17 b18 b19 b20 b21)⟩) ?_ ?_
 ·refine cd u (fun F u=>?_) (fun F u=>?_)
  ·cases u;refine ja 1 ?_;exact(J.k (gU Mq Y) jy)
  cases u;refine ja 1 ?_;exact(J.k (gU Mq Y) jy)
 obtain⟨L,M,h⟩:=gC h;refine uT (fun E:Unit=>⟨[(0,.ptr 9000 1),(2,.ptr 101 0)],((101,.box 129 [.v Q0 (0:Int),.v nC ([]:iY),.v Q7 ([]:jA)])::iI 9000 (some (A 9000)) 9100 (some (A 9100)) 9200 (some (A 9200)) 9050 9051 9052 9053 b0 b1 b2 b3 b4 b5 b6 b7 b8 b9 b10 b11 b12 b13 b14 b15 b16 b17 b18 b19 b20 b21)⟩) (fun x=>L x=some r) Y ?_ ?_ ?_
 ·intro E h;rw[M] at h;refine aF ?_;refine dI 18 mixed (by exact(.k (aD Y) (.k (aK Y) (.k (aA 1 Y uS Y Js Y Y) (.k (aA 3 Y Dy Y S3 Y Y) (.k (aI Y Y Y G3 S3) (.k (dM (e:=Q0) xE S3 Z3 Y Y Y Y (.cons (.dir Y) .nil)) (.k (aD Y) (.k (aK Y) (.k (aA 10 Y uS Y Xv Y Y) (.k (aI Y Y Y MW Xv) (.k (aD Y) (.k (aK Y) (.k (aA 1 Y uS Y Js Y Y) (.k (aA 3 Y Dy Y S3 Y Y) (.k (aI Y Y Y G3 S3) (.k (Tf Y Y Y OS U3 (KeyE.int U3) Y RE (fun S w=>⟨_,(Z.sl aN) S w,Y⟩)) (.k (bE lH (.cons (Z.int .i64) (.cons (Z.sl Q0) (.cons (Z.sl aN) .nil))) (.cons Y (.dir Y) Y Y Y Y (.cons Y (.dir Y) Y Y Y Y (.cons Y (.dir Y) Y Y Y Y .nil)))) (JP4.storeAgg (.none Y) Y Y Y Y Y Y kU .nil))))))))))))))))))) (by exact(J.kp [0,2] [])) ?_;refine aG ?_;obtain rfl:=pT h;exact mQ [(0,.ptr 9000 1),(2,.ptr 90 0)] [(90,.box 129 [.v Q0 (5:Int),.v nC ([b2]:iY),.v Q7 ((eV b6 b2).getD ([]:jA))])] (aC [(90,101),(403,9053),(402,9052),(401,9051),(400,9050)]) (dN C Y (aS Y Y (.prm (.one _ _) (.prm (.one _ _) (.one _ _))) tU kU) (.cons Y (.cons Y (.cons Y (.cons Y (.cons Y (.cons Y (.cons Y .nil))))))))
 ·intro z;replace h:=jP z h;refine aF ?_;refine dI 14 mixed (by exact(.k (aD Y) (.k (aK Y) (.k (aA 10 Y uS Y Xv Y Y) (.k (aI Y Y Y MW Xv) (.k (aD Y) (.k (aK Y) (.k (aA 15 Y uS Y S3 Y Y) (.k (aI Y Y Y G3 S3) (.k (Ll Y Y Y OS U3 (KeyE.int U3) Y RE (fun S w=>⟨_,(Z.sl aN) S w,Y⟩)) (.k (aD Y) (.k (bH Y Y) (.k (bH Y Y) (.k (bB Y) (.k (bB Y) .nil))))))))))))))) (by exact(J.kp [0,2,3,6,7] [])) ?_;refine aL [0,2,3,6,45] ?_;refine aT h Y (fun G h=>?_) (fun G h=>?_)
  ·refine aF ?_;obtain⟨B,N,h⟩:=aB h;refine dI 13 mixed (by exact(.k (aX Y Y (.prm (.one _ _) (.one _ _)) Mm uE) (.k (aD Y) (.k (aD Y) (.k (aK Y) (.k (aA 15 Y uS Y S3 Y Y) (.k (aI Y Y Y G3 S3) (.k (aO (Is N) Tryz.call103 (.cons (.dir Y) (.cons (.dir Y) (.cons (.dir Y) .nil)))) (.k (aD Y) (.k (bH Y Y) (.k (bH Y Y) (.k (aM 107 Bk Y (.cons (Z.int .i64) (.cons (Z.sl Q0) (.cons (Z.sl aN) .nil))) Y) (JP4.storeAll (.none Y) Y Y Y Y (.prm (.one _ _) (.prm (.one _ _) (.one _ _))) kU (.k (bB Y) .nil)))))))))))))) (by exact(J.kp [0,2,8,9] [])) ?_;refine aL [0,2,8,56] ?_;refine aT h Y (fun H h=>?_) (fun H h=>?_)
   ·refine aJ (.k (aX Y Y (.prm (.one _ _) (.prm (.one _ _) (.one _ _))) tU kU) (.t (bI Y Y Y Y (.prm (.one _ _) (.prm (.one _ _) (.one _ _))) kU) (.f [0,2] ?_)));refine aG ?_;refine Fz ?_;obtain rfl:=pT h;exact mQ [(0,.ptr 9000 1),(2,.ptr 90 0)] [(90,.box 129 [.v Q0 B.1.1,.v nC B.1.2.1,.v Q7 B.1.2.2])] (aC [(90,101),(403,9053),(402,9052),(401,9051),(400,9050)]) (dN C Y (aS Y Y (.prm (.one _ _) (.prm (.one _ _) (.one _ _))) tU kU) (.cons Y (.cons Y (.cons Y (.cons Y (.cons Y (.cons Y (.cons Y .nil))))))))
   refine aH ?_;exact cF h (aC [])
  refine aH ?_;exact cF h (aC [])
 ·intro z;replace h:=jQ z h;refine aH ?_;exact cF h (aC [])
theorem Hk{a0 r}(h:oQ a0=some r):
 Con Tryz.prog 133 [.v Q0 a0] (.v Enc.bool r) []:=by
 refine Con.of Tryz.func133 Y Tryz.ntmps133 Y ?_;intro S w z;unfold oQ at h;refine aL [0] ?_;refine aF ?_;obtain⟨B,u,h⟩:=aB h;refine dL (σ':=⟨[(2,.v Enc.bool B)],[]⟩) ?_ ?_
 ·refine cd u (fun A u=>?_) (fun A u=>?_)
  ·cases u;exact jy
  cases u;exact jy
 cases h;exact aG (aY z dD Y (RV.tmp Y) .nil Y)
theorem nV{a0 r}(h:dK a0=some r):
 Con Tryz.prog 146 [.v nC a0,.fnc 133 []] (.v Q0 r) []:=by
 refine Con.of Tryz.func146 Y Tryz.ntmps146 Y ?_;intro S w u;unfold dK at h;refine aL [0,1] ?_;refine cR [0,1,7,8] ?_;obtain⟨L,F,G,H⟩:=bX h;refine jH (σs:=fun z:Int=>⟨[(0,.v nC a0),(1,.fnc 133 []),(7,.v Q0 (a0.length:Int)),(8,.v Q0 z)],[]⟩) (fun A:Unit=>⟨[],[]⟩) F (aC []) ?_ ?_
 ·intro A B;have h:=G _ B;refine aL [4] ?_;cases h;exact aG (aY u dD Y (RV.tmp Y) .nil Y)
 intro z K h;refine aL [0,1,7,8,9] ?_;refine aF ?_;refine aT h Y (fun C h=>?_) (fun C h=>?_)
 ·refine aH ?_;refine aF ?_;refine bF ?_;refine aL [0,1,5,7,8] ?_;obtain⟨M,N,h⟩:=aB h;obtain⟨O,I,h⟩:=aB h;refine aJ (.a 5 ?_);refine .k (sN Y (Hk I) Tryz.call133 (.cons (.dir Y) .nil)) (.f [0,1,5,7,8,16] ?_);refine aT h Y (fun D h=>?_) (fun D h=>?_)
  ·refine aL [4] ?_;refine aG ?_;refine dZ ?_;cases h;refine gD fun E=>?_;obtain rfl:=H _ E;exact aY u dD Y (RV.tmp Y) .nil Y
  refine aH ?_;refine bK ?_;refine eB [0,1,7,8] ?_;cases h;exact cE (aC [])
 cases h;exact cN (cW (aC []))
theorem mO{a0 r}(h:cI a0=some r):
 Con Tryz.prog 131 [.v nC a0,.fnc 133 []] (.v Enc.bool r) []:=by
 refine Con.of Tryz.func131 Y Tryz.ntmps131 Y ?_;intro S w u;unfold cI at h;refine aL [0,1] ?_;obtain⟨A,z,h⟩:=aB h;refine aJ (.a 2 ?_);refine .k (aO (nV z) Tryz.call146 (.cons (.dir Y) (.cons (.dir Y) .nil))) (.f [4] ?_);cases h;exact aG (aY u dD Y (RV.tmp Y) .nil Y)
theorem Bg{a0 r}(h:pH a0=some r):
 Con Tryz.prog 117 [.v nC a0] (.v Enc.bool r) []:=by
 refine Con.of Tryz.func117 Y Tryz.ntmps117 Y ?_;intro S w u;unfold pH at h;refine aL [0] ?_;obtain⟨A,z,h⟩:=aB h;refine aJ (.a 1 ?_);refine .k (aO (mO z) Tryz.call131 (.cons (.dir Y) (.cons .fn .nil))) (.f [2] ?_);cases h;exact aG (aY u dD Y (RV.tmp Y) .nil Y)
theorem En{a0 r}(h:sQ a0=some r):
 Con Tryz.prog 99 [.v Q4 a0] (.v Q8 r) []:=by
 refine Con.of Tryz.func99 Y Tryz.ntmps99 Y ?_;intro S w u;unfold sQ at h;refine aJ (.k (bU 101 Y (.prm (.one _ _) (.prm (.one _ _) (.one _ _))) Y) (.f [1] ?_));obtain⟨C,B,h⟩:=aB h;refine jD (.k (aX Y Y (.prm (.one _ _) (.prm (.one _ _) (.one _ _))) tU kU) (.k (aO (Bf B) Tryz.call115 (.cons (.dir Y) .nil)) (.f [1,3] ?_)));refine aL [1,3,7] ?_;refine aT h Y (fun z h=>?_) (fun z h=>?_)
 ·refine aL [2] ?_;cases h;exact aG (aY u dD Y (RV.tmp Y) .nil Y)
 refine aH ?_;refine cR [12] ?_;refine aT h Y (fun A h=>?_) (fun A h=>?_)
 ·refine aL [2] ?_;cases h;exact aG (aY u dD Y (RV.tmp Y) .nil Y)
 refine aH ?_;refine aL [2] ?_;cases h;exact aG (aY u dD Y (RV.tmp Y) .nil Y)
theorem wW{a0 r}(h:nZ a0=some r):
 Con Tryz.prog 98 [.v Ml a0] (.v Q8 r) []:=by
 refine Con.of Tryz.func98 Y Tryz.ntmps98 Y ?_;intro S w u;unfold nZ at h;refine aJ (.k (bU 101 Y (.prm (.one _ _) (.prm (.one _ _) (.one _ _))) Y) (.f [1] ?_));obtain⟨O,H,h⟩:=aB h;refine jD (.a 4 ?_);refine .k (dM (e:=Q0) xE S3 Z3 Y Y Y Y (.cons (.dir Y) (.cons (.dir Y) .nil))) (.k (aO (Bg H) Tryz.call117 (.cons (.dir Y) .nil)) (.f [1,12] ?_));refine aT h Y (fun C h=>?_) (fun C h=>?_)
 ·refine aL [2] ?_;cases h;exact aG (aY u dD Y (RV.tmp Y) .nil Y)
 refine aH ?_;refine cR [1,17] ?_;refine aT h Y (fun D h=>?_) (fun D h=>?_)
 ·refine aL [2] ?_;cases h;exact aG (aY u dD Y (RV.tmp Y) .nil Y)
 refine aH ?_;refine cR [20,21,22] ?_;obtain⟨P,I,K,L⟩:=bX h;refine jH (σs:=fun z:Int=>⟨[(20,.v (Enc.sl Q4) a0.2.2),(21,.v Q0 (a0.2.2.length:Int)),(22,.v Q0 z)],[]⟩) (fun A:Unit=>⟨[],[]⟩) I (aC []) ?_ ?_
 ·intro A B;have h:=K _ B;refine aL [2] ?_;cases h;exact aG (aY u dD Y (RV.tmp Y) .nil Y)
 intro z N h;refine aL [20,21,22,23] ?_;refine aF ?_;refine aT h Y (fun E h=>?_) (fun E h=>?_)
 ·refine aH ?_;refine aF ?_;refine bF ?_;obtain⟨Q,R,h⟩:=aB h;refine aJ (.a 2 ?_);refine .k (aM 109 Bk Y (.cons (Z.int .i64) (.cons (Z.sl Q0) (.cons (Z.sl aN) .nil))) Y) (.t (bI Y Y Y Y (.prm (.one _ _) (.prm (.one _ _) (.one _ _))) kU) (.f [4,20,21,22] ?_));obtain⟨T,M,h⟩:=aB h;refine aJ (.k (aX Y Y (.prm (.one _ _) (.prm (.one _ _) (.one _ _))) tU kU) (.k (aO (En M) Tryz.call99 (.cons (.dir Y) .nil)) (.f [5,20,21,22] ?_)));refine aL [5,20,21,22,29] ?_;refine aT h Y (fun F h=>?_) (fun F h=>?_)
  ·refine aL [2] ?_;refine aG ?_;refine dZ ?_;cases h;refine gD fun G=>?_;obtain rfl:=L _ G;exact aY u dD Y (RV.tmp Y) .nil Y
  refine aH ?_;refine bK ?_;refine eB [20,21,22] ?_;cases h;exact cE (aC [])
 cases h;exact cN (cW (aC []))
theorem vL{a0 r}(h:qG a0=some r):
 Con Tryz.prog 118 [.v (Enc.slN Q0) a0] (.ref 0) [(0,.arr 3 Q0 r)]:=by
 refine Con.of Tryz.func118 Y Tryz.ntmps118 Y ?_;intro S w u;unfold qG at h;refine aJ (.k (aR 101 3 Q0) (.f [0] ?_));refine jD (.a 1 ?_);refine .k (wH Y xE) (.f [0,4] ?_);refine aT h Y (fun z h=>?_) (fun z h=>?_)
 ·refine aJ (.k (aR 102 3 Q0) (.f [2] ?_));cases h;exact aG (vO u dD Y (aC [(0,102)]))
 refine aH ?_;obtain⟨B,A,h⟩:=aB h;refine aJ (.k (qM (e:=Q0) 103 xE S3 Z3 Y Y Y Y .nil) ?_);refine .a 1 ?_;refine .t (bR 104 A Y Y (.slN Y) xE I3 S3 Y Y Y Y Y) (.f [2] ?_);cases h;exact aG (vO u dD Y (aC [(0,104)]))
theorem yL{a0:iY}{r:iY}(h:kO a0=some r):
  Con Tryz.prog 118 [.v nC a0] (.ref 0) [(0,.arr 3 Q0 r)]:=
 qP fun b u=>vL (by cases b with | true=>rw[u rfl] at h ⊢;exact h | false=>exact Dg h)
theorem Cw{a0 r}(h:lW a0=some r):
 Con Tryz.prog 101 [.v Q4 a0] (.v Q4 r) []:=by
 refine Con.of Tryz.func101 Y Tryz.ntmps101 Y ?_;intro S w u;unfold lW at h;refine aJ (.k (bU 101 Y (.prm (.one _ _) (.prm (.one _ _) (.one _ _))) Y) (.k (aM 102 Bk Y (.cons (Z.int .i64) (.cons (Z.sl Q0) (.cons (Z.sl aN) .nil))) Y) (.f [1,2] ?_)));refine aF ?_;obtain⟨z,A,h⟩:=aB h;obtain⟨B,C,h⟩:=aB h;refine dI 10 mixed (by exact(.k (aA 1 Y tV Y xY Y Y) (.k (aI Y Y Y Ru xY) (.k (eU 103000 (yL A) Tryz.call118 (.cons (.dir Y) .nil) Y) (.k (aA 2 Y tV Y xC Y Y) (.k (aI Y Y Y Sd xC) (.k (eU 104000 (bZ C) OF (.cons (.dir Y) .nil) Y) (.k (aA 1 Y tV Y xY Y Y) (JP4.store (.none Y) Y Y Y Y Y Y Y xY (.k (aA 2 Y tV Y xC Y Y) (JP4.store (.none Y) Y Y Y Y Y Y Y xC .nil))))))))))) (by exact(J.kp [1,2] [])) ?_;refine aJ (.k (gO Y Y Y tU kU) (.f [2] ?_));refine aG ?_;obtain rfl:=pT h;exact bN (σ':=⟨[(2,.ptr 90 0)],[(90,.box 129 [.v Q0 a0.1,.v nC z,.v Q7 B])]⟩) (aC [(90,102)]) (aY u dD Y (aS Y Y (.prm (.one _ _) (.prm (.one _ _) (.one _ _))) tU kU) .nil Y)
theorem Cx{a0 r}(h:qX a0=some r):
 Con Tryz.prog 100 [.v (Enc.sl Q4) a0] (.ref 0) [(0,.arr 129 Q4 r)]:=by
 refine Con.of Tryz.func100 Y Tryz.ntmps100 Y ?_;intro S w A;unfold qX at h;refine aJ (.k (aR 101 129 Q4) (.f [0] ?_));refine aJ (.k (aR 102 129 Q4) (.f [0,3] ?_));refine cR [3,6,7,8] ?_;obtain⟨I,D,E,K⟩:=bX h;refine jH (σs:=fun u:Int×Nj=>⟨[(3,.ref 112),(6,.v (Enc.sl Q4) a0),(7,.v Q0 (a0.length:Int)),(8,.v Q0 u.1)],[(112,.arr 129 Q4 u.2)]⟩) (fun z:Nj=>⟨[(3,.ref 112)],[(112,.arr 129 Q4 z)]⟩) D (aC [(112,102)]) ?_ ?_
 ·intro z B;have h:=E _ B;refine aL [2] ?_;cases h;exact aG (vO A dD Y (aC [(0,112)]))
 intro u H h;refine aL [3,6,7,8,9] ?_;refine aF ?_;refine aT h Y (fun C h=>?_) (fun C h=>?_)
 ·refine aH ?_;refine aF ?_;refine bF ?_;obtain⟨L,M,h⟩:=aB h;refine aJ (.a 2 ?_);refine .k (aM 116 Bk Y (.cons (Z.int .i64) (.cons (Z.sl Q0) (.cons (Z.sl aN) .nil))) Y) (.t (bI Y Y Y Y (.prm (.one _ _) (.prm (.one _ _) (.one _ _))) kU) (.f [3,5,6,7,8] ?_));obtain⟨N,F,h⟩:=aB h;obtain⟨O,G,h⟩:=aB h;refine fN (.a 1 ?_);refine .k (aX Y Y (.prm (.one _ _) (.prm (.one _ _) (.one _ _))) tU kU) (.k (aO (Cw F) Tryz.call101 (.cons (.dir Y) .nil)) (.k (dM (e:=Q4) JD kU Bk Y Y Y Y (.cons (.dir Y) .nil)) (.t (bR 118 G Y Y (.sl Y) JD OH kU Y Y Y Y Y) (.f [3,6,7,8] ?_))));refine bK ?_;refine eB [3,6,7,8] ?_;cases h;exact cE (aC [(112,118)])
 cases h;exact cN (cW (aC []))
theorem My{a0 a1 r}(h:tD a0 a1=some r):
 Con Tryz.prog 61 [.v Ml a0,.v Q4 a1] (.tup [.v Ml r.1,.v Q8 r.2]) []:=by
 refine Con.of Tryz.func61 Y Tryz.ntmps61 Y ?_;intro S w z;unfold tD at h;refine aJ (.k (bU 101 Y (.prm (.one _ _) (.prm (.one _ _) (.one _ _))) Y) (.k (bU 102 Y (.prm (.one _ _) (.prm (.one _ _) (.one _ _))) Y) (.k (aM 103 RW Y (.cons (Z.int .i64) (.cons (Z.int .i64) (.cons (Z.sl Q4) .nil))) Y) (.f [2,3,4] ?_))));obtain⟨E,F,h⟩:=aB h;refine jD (.k (aX Y Y (.prm (.one _ _) (.prm (.one _ _) (.one _ _))) Vu Ik) (.k (aO (wW F) Tryz.call98 (.cons (.dir Y) .nil)) (.f [2,3,4,6] ?_)));refine aL [2,3,4,6,11] ?_;refine aT h Y (fun A h=>?_) (fun A h=>?_)
 ·refine aJ (.k (bE Dw (.cons (Z.int .i64) (.cons (Z.int .i64) (.cons (Z.sl Q4) .nil))) .nil) (.f [4,5] ?_));refine aG ?_;obtain rfl:=pT h;exact bN (σ':=⟨[(4,.ptr 90 0),(5,.v Q8 E)],[(90,.box 65 [.v Q0 (0:Int),.v Q0 (0:Int),.v (Enc.sl Q4) ([]:Nj)])]⟩) (aC [(90,103)]) (bD z dD Y (aS Y Y (.prm (.one _ _) (.prm (.one _ _) (.one _ _))) Vu Ik) (RV.tmp Y) .nil Y)
 refine aH ?_;obtain⟨G,H,h⟩:=aB h;refine jD (.k (aX Y Y (.prm (.one _ _) (.prm (.one _ _) (.one _ _))) tU kU) (.k (aO (En H) Tryz.call99 (.cons (.dir Y) .nil)) (.f [2,3,4,7] ?_)));refine aL [2,3,4,7,17] ?_;refine aT h Y (fun B h=>?_) (fun B h=>?_)
 ·refine aJ (.k (bE Dw (.cons (Z.int .i64) (.cons (Z.int .i64) (.cons (Z.sl Q4) .nil))) .nil) (.f [4,5] ?_));refine aG ?_;obtain rfl:=pT h;exact bN (σ':=⟨[(4,.ptr 90 0),(5,.v Q8 G)],[(90,.box 65 [.v Q0 (0:Int),.v Q0 (0:Int),.v (Enc.sl Q4) ([]:Nj)])]⟩) (aC [(90,103)]) (bD z dD Y (aS Y Y (.prm (.one _ _) (.prm (.one _ _) (.one _ _))) Vu Ik) (RV.tmp Y) .nil Y)
 refine aH ?_;refine aF ?_;refine aF ?_;obtain⟨I,u,h⟩:=aB h;refine dL (σ':=⟨[(2,.ptr 101 0),(3,.ptr 102 0),(4,.ptr 103 0),(32,.v Enc.bool I)],[(101,.box 65 [.v Q0 a0.1,.v Q0 a0.2.1,.v (Enc.sl Q4) a0.2.2]),(102,.box 129 [.v Q0 a1.1,.v nC a1.2.1,.v Q7 a1.2.2]),(103,.box 65 [.v Q0 (0:Int),.v Q0 (0:Int),.v (Enc.sl Q4) ([]:Nj)])]⟩) ?_ ?_
 ·refine cd u (fun C u=>?_) (fun C u=>?_)
  ·cases u;exact jy
  cases u;exact jy
 refine aT h Y (fun D h=>?_) (fun D h=>?_)
 ·refine aJ (.k (bE Dw (.cons (Z.int .i64) (.cons (Z.int .i64) (.cons (Z.sl Q4) .nil))) .nil) (.f [4,5] ?_));refine aG ?_;obtain rfl:=pT h;exact bN (σ':=⟨[(4,.ptr 90 0),(5,.v Q8 (some (2:Int)))],[(90,.box 65 [.v Q0 (0:Int),.v Q0 (0:Int),.v (Enc.sl Q4) ([]:Nj)])]⟩) (aC [(90,103)]) (bD z dD Y (aS Y Y (.prm (.one _ _) (.prm (.one _ _) (.one _ _))) Vu Ik) (RV.tmp Y) .nil Y)
 refine aH ?_;refine aF ?_;obtain⟨O,K,h⟩:=aB h;obtain⟨P,L,h⟩:=aB h;obtain⟨M,N,h⟩:=aB h;refine dI 14 mixed (by exact(.k (aA 0 Y DJ Y S3 Y Y) (.k (aI Y Y Y G3 S3) (.k (aA 1 Y DJ Y S3 Y Y) (.k (aI Y Y Y G3 S3) (.k (aA 2 Y DJ Y DG Y Y) (.k (aI Y Y Y PK DG) (.k (eU 109000 (Cx K) Tryz.call100 (.cons (.dir Y) .nil) Y) (.k (aX Y Y (.prm (.one _ _) (.prm (.one _ _) (.one _ _))) tU kU) (.k (aO (Cw L) Tryz.call101 (.cons (.dir Y) .nil)) (.k (dM (e:=Q4) JD kU Bk Y Y Y Y (.cons (.dir Y) .nil)) (JP4.append (.none Y) 111 N Y Y (.sl Y) JD OH kU Y Y Y Y Y (.k (bE Dw (.cons (Z.int .i64) (.cons (Z.int .i64) (.cons (Z.sl Q4) .nil))) (.cons Y (.dir Y) Y Y Y Y (.cons Y (.dir Y) Y Y Y Y (.cons Y (.dir Y) Y Y Y Y .nil)))) (JP4.storeAgg (.none Y) Y Y Y Y Y Y Ik (.k (yE ET) .nil))))))))))))))) (by exact(J.kp [4,5] [])) ?_;refine aG ?_;obtain rfl:=pT h;exact bN (σ':=⟨[(4,.ptr 90 0),(5,.v Q8 (none:Option Int))],[(90,.box 65 [.v Q0 a0.1,.v Q0 a0.2.1,.v (Enc.sl Q4) M])]⟩) (aC [(90,103)]) (bD z dD Y (aS Y Y (.prm (.one _ _) (.prm (.one _ _) (.one _ _))) Vu Ik) (RV.tmp Y) .nil Y)
theorem Oa{a0 r}(h:nW a0=some r):
 Con Tryz.prog 63 [.v Ml a0] (.tup [.v (Enc.sl (Enc.sl (Enc.int .u8))) r.1,.v Q8 r.2]) []:=by
 refine Con.of Tryz.func63 Y Tryz.ntmps63 Y ?_;intro S w u;unfold nW at h;refine aJ (.k (bU 101 Y (.prm (.one _ _) (.prm (.one _ _) (.one _ _))) Y) (.k (aR 102 136 (Enc.sl (Enc.int .u8))) (.f [1] ?_)));obtain⟨T,K,h⟩:=aB h;refine jD (.k (aX Y Y (.prm (.one _ _) (.prm (.one _ _) (.one _ _))) Vu Ik) (.k (aO (wW K) Tryz.call98 (.cons (.dir Y) .nil)) (.f [1,4] ?_)));refine aL [1,4,13] ?_;refine aT h Y (fun F h=>?_) (fun F h=>?_)
 ·refine aJ (.a 1 ?_);refine .k (aR 104 136 (Enc.sl (Enc.int .u8))) (.f [2,3] ?_);cases h;exact aG (vP u dD Y (aC []))
 refine aH ?_;refine aJ (.k (aR 105 136 (Enc.sl (Enc.int .u8))) (.f [1,5] ?_));obtain⟨C,L,h⟩:=aB h;refine jD (.a 5 ?_);refine .k (xP Y Y) (.k (Yr L Y Y JD kU) (.f [1,5,21,22,23] ?_));obtain⟨U,M,N,D⟩:=bX h;refine jH (σs:=fun z:Int×(List iY)=>⟨[(1,.ptr 101 0),(5,.ref 119),(21,.v (Enc.sl Q4) C),(22,.v Q0 (C.length:Int)),(23,.v Q0 z.1)],[(101,.box 65 [.v Q0 a0.1,.v Q0 a0.2.1,.v (Enc.sl Q4) a0.2.2]),(119,.arr 136 (Enc.sl (Enc.int .u8)) z.2)]⟩) (fun B:(List iY)=>⟨[(5,.ref 119)],[(119,.arr 136 (Enc.sl (Enc.int .u8)) B)]⟩) M (aC [(119,105)]) ?_ ?_
 ·intro B E;have h:=N _ E;refine aL [2,3] ?_;cases h;exact aG (vP u dD Y (aC []))
 intro z R h;refine aL [1,5,21,22,23,24] ?_;refine aF ?_;refine aT h Y (fun G h=>?_) (fun G h=>?_)
 ·refine aH ?_;refine aF ?_;refine bF ?_;obtain⟨V,X,h⟩:=aB h;refine aJ (.a 3 ?_);refine .k (aM 125 Bk Y (.cons (Z.int .i64) (.cons (Z.sl Q0) (.cons (Z.sl aN) .nil))) Y) ?_;refine .a 1 ?_;refine .t (bI Y Y Y Y (.prm (.one _ _) (.prm (.one _ _) (.one _ _))) kU) (.f [1,5,6,7,21,22,23] ?_);refine cR [1,5,6,7,21,22,23,32] ?_;refine aT h Y (fun H h=>?_) (fun H h=>?_)
  ·refine aJ (.a 1 ?_);refine .k (aR 126 136 (Enc.sl (Enc.int .u8))) (.f [2,3] ?_);refine aG ?_;refine dZ ?_;cases h;refine gD fun A=>?_;obtain rfl:=D _ A;exact vP u dD Y (aC [])
  refine aH ?_;refine aF ?_;obtain⟨aa,O,h⟩:=aB h;obtain⟨ab,P,h⟩:=aB h;refine dI 21 mixed (by exact(.k (aA 0 Y DJ Y S3 Y Y) (.k (aI Y Y Y G3 S3) (.k (aA 1 Y DJ Y S3 Y Y) (.k (aI Y Y Y G3 S3) (.k (aD Y) (.k (cO Y Y Y) (.k (aA 0 Y tV Y S3 Y Y) (.k (aI Y Y Y G3 S3) (.k (Yw (e:=Q0) xE S3 Z3 Y Y Y Y (.cons (.dir Y) (.cons (.dir Y) (.cons (.dir Y) .nil)))) (.k (aA 1 Y tV Y xY Y Y) (.k (aI Y Y Y Ru xY) (.k (Kb O (List.cons_ne_nil _ _) Y (.sl Y) xE I3 S3 Y Y Y) (.k (aA 2 Y tV Y xC Y Y) (.k (aI Y Y Y Sd xC) (.k (bE lH (.cons (Z.int .i64) (.cons (Z.sl Q0) (.cons (Z.sl aN) .nil))) (.cons Y (.dir Y) Y Y Y Y (.cons Y (.dir Y) Y Y Y Y (.cons Y (.dir Y) Y Y Y Y .nil)))) (.k (aO (wU P) Tryz.call97 (.cons (.agg Y (.same (.same (.same .nil))) (.prm (.one _ _) (.prm (.one _ _) (.one _ _))) Y) .nil)) (.k (aD Y) (.k (bH Y Y) (.k (bH Y Y) (.k (bB Y) (.k (bB Y) .nil)))))))))))))))))))))) (by exact(J.kp [1,5,8,9,21,22,23] [])) ?_;refine cR [1,5,8,9,21,22,23,54] ?_;refine aT h Y (fun I h=>?_) (fun I h=>?_)
  ·refine aJ (.a 1 ?_);refine .k (aR 128 136 (Enc.sl (Enc.int .u8))) (.f [2,3] ?_);refine aG ?_;refine dZ ?_;cases h;refine gD fun A=>?_;obtain rfl:=D _ A;exact vP u dD Y (aC [])
  refine aH ?_;obtain⟨ac,Q,h⟩:=aB h;refine fN (.a 2 ?_);refine .k (dM (e:=(Enc.sl (Enc.int .u8))) OL Vj Tryz.zeroValue136 Y Y Y Y (.cons (.dir Y) .nil)) (.t (bR 129 Q Y Y (.sl Y) OL Tryz.typeInfo136 Vj Y Y Y Y Y) (.f [1,5,21,22,23] ?_));refine bK ?_;refine eB [1,5,21,22,23] ?_;cases h;exact cE (aC [(119,129)])
 cases h;exact cN (cW (aC []))
theorem zN(A:Nat->Nat){b0 b1 b2 b3 b4 b5 b6 b7 b8 b9 b10 b11 b12 b13 b14 b15 b16 b17 b18 b19 b20 b21 r}(h:dS b0 b1 b2 b3 b4 b5 b6 b7 b8 b9 b10 b11 b12 b13 b14 b15 b16 b17 b18 b19 b20 b21=some r):
 ConM Tryz.prog 33 [.ptr 9000 0] (iI 9000 (some (A 9000)) 9100 (some (A 9100)) 9200 (some (A 9200)) 9050 9051 9052 9053 b0 b1 b2 b3 b4 b5 b6 b7 b8 b9 b10 b11 b12 b13 b14 b15 b16 b17 b18 b19 b20 b21) (.v Q8 r.1) (iI 9000 (some (A 9000)) 9100 (some (A 9100)) 9200 (some (A 9200)) 400 401 402 403 b0 b1 b2 b3 b4 b5 b6 b7 r.2.1 r.2.2.1 b10 r.2.2.2.1 b12 b13 b14 b15 b16 r.2.2.2.2 b18 b19 b20 b21):=by
 refine ConM.of Tryz.func33 Y Tryz.ntmps33 Y ?_;intro S w R E;unfold dS at h;refine aL [0] ?_;refine aL [0,3] ?_;obtain⟨C,X,h⟩:=aB h;refine jD (.a 6 ?_);refine .k (dM (e:=Q0) xE S3 Z3 Y Y Y Y (.cons (.dir Y) .nil)) (.k (bE lH (.cons (Z.int .i64) (.cons (Z.sl Q0) (.cons (Z.sl aN) .nil))) (.cons Y (.dir Y) Y Y Y Y (.cons Y (.dir Y) Y Y Y Y .nil))) (.t (sZ (H:=[9000,9100,9200,9050,9051,9052,9053]) (K:=[9000,9100,9200]) (uW [(9000,9000),(9100,9100),(9200,9200),(9050,9050),(9051,9051),(9052,9052),(9053,9053),(400,101),(401,102),(402,103),(403,104)]) (cU Y) (fun A=>tP A X) Tryz.call60 (.cons (.dir Y) (.cons (.dir Y) (.cons (.agg Y (.same (.same (.same .nil))) (.prm (.one _ _) (.prm (.one _ _) (.one _ _))) Y) .nil))) (fun A=>(.box Y (.box Y (.box Y (.arr Y (.mp Y (.arr Y (.arr Y .nil)))))))) (fun A=>(.box Y (.box Y (.box Y (.arr (.mp (.arr (.arr .nil Y) Y) Y) Y) Y) Y) Y)) (fun _=>rfl) Y Y (fun _=>rfl) Y Y) (.f [0,3,4] ?_)));refine aF ?_;obtain⟨x3,u,h⟩:=aB h;refine dL (σ':=⟨[(0,.ptr 9000 0),(3,.ptr 9000 1),(4,.v Q8 C.1),(31,.v Enc.bool x3)],(iI 9000 (some (A 9000)) 9100 (some (A 9100)) 9200 (some (A 9200)) 101 102 103 104 b0 b1 b2 b3 b4 b5 b6 b7 b8 b9 b10 b11 b12 b13 b14 b15 b16 C.2 b18 b19 b20 b21)⟩) ?_ ?_
 ·refine cd u (fun N u=>?_) (fun N u=>?_)
  ·cases u;exact jy
  cases u;exact jy
 refine aT h Y (fun O h=>?_) (fun O h=>?_)
 ·refine aL [0,2] ?_;cases h;exact aG (eG E Y (aC [(403,104),(402,103),(401,102),(400,101)]))
 refine aH ?_;refine aF ?_;refine aF ?_;obtain⟨x7,u,h⟩:=aB h;refine Hp (σ':=⟨[(0,.ptr 9000 0),(3,.ptr 9000 1),(51,.v Enc.bool x7)],(iI 9000 (some (A 9000)) 9100 (some (A 9100)) 9200 (some (A 9200)) 101 102 103 104 b0 b1 b2 b3 b4 b5 b6 b7 b8 b9 b10 b11 b12 b13 b14 b15 b16 C.2 b18 b19 b20 b21)⟩) ?_ ?_
 ·intro I;refine cd u (fun B u=>?_) (fun B u=>?_)
  ·cases u;exact dI 19 mixed (by exact(.k (aD Y) (.k (aK Y) (.k (aA 15 Y uS Y S3 Y Y) (.k (aI Y Y Y G3 S3) (.k (aD Y) (.k (aK Y) (.k (aA 1 Y uS Y Js Y Y) (.k (aA 3 Y Dy Y S3 Y Y) (.k (aI Y Y Y G3 S3) (.k (jO Y Y Y) (.k (aD Y) (.g B (aD Y) (.g B (aK Y) (.g B (aA 12 Y uS Y Ik Y Y) (.g B (aA 14 Y DJ Y DG Y Y) (.g B (xQ (off:=12) (o1:=2) Y Y Y Y (.snd (.snd .here)) PK DG) (.g B (uA Y JD) (.g B (jO Y Y Y) (.k (Eh B Y Y) .nil)))))))))))))))))))) (by exact(J.fin (aC []))) I
  cases u;exact pU 19 mixed I
 obtain⟨aa,ab,h⟩:=gC h;refine uT (fun z:(Int×Int×Nj)×Int×iY=>⟨[(0,.ptr 9000 0),(3,.ptr 9000 1)],(iI 9000 (some (A 9000)) 9100 (some (A 9100)) 9200 (some (A 9200)) 119 120 121 122 b0 b1 b2 b3 b4 b5 b6 b7 z.1 z.2.1 b10 z.2.2 b12 b13 b14 b15 b16 C.2 b18 b19 b20 b21)⟩) (fun x=>aa x=some r) Y ?_ ?_ ?_
 ·intro z h;rw[ab] at h;obtain⟨D,ac,h⟩:=aB h;refine aJ (.a 4 ?_);refine .k (aO (Oa ac) Tryz.call63 (.cons (.dir Y) .nil)) (.f [0,7,8] ?_);refine cR [0,8,99,100,101] ?_;obtain⟨am,ad,ae,an⟩:=bX h;refine jH (σs:=fun F:Int×(List (Bool×Bool×iY))=>⟨[(0,.ptr 9000 0),(8,.v Q8 D.2),(99,.v (Enc.sl (Enc.sl (Enc.int .u8))) D.1),(100,.v Q0 (D.1.length:Int)),(101,.v Q0 F.1)],(iI 9000 (some (A 9000)) 9100 (some (A 9100)) 9200 (some (A 9200)) 158 159 160 161 b0 b1 b2 b3 b4 b5 b6 b7 z.1 z.2.1 b10 z.2.2 b12 b13 b14 b15 b16 F.2 b18 b19 b20 b21)⟩) (fun L:(List (Bool×Bool×iY))=>⟨[(0,.ptr 9000 0),(8,.v Q8 D.2)],(iI 9000 (some (A 9000)) 9100 (some (A 9100)) 9200 (some (A 9200)) 158 159 160 161 b0 b1 b2 b3 b4 b5 b6 b7 z.1 z.2.1 b10 z.2.2 b12 b13 b14 b15 b16 L b18 b19 b20 b21)⟩) ad (aC [(161,122),(160,121),(159,120),(158,119)]) ?_ ?_
  ·intro L M;have h:=ae _ M;refine aL [0,2] ?_;cases h;exact aG (eG E Y (aC [(403,161),(402,160),(401,159),(400,158)]))
  intro F al h;refine aL [0,8,99,100,101,102] ?_;refine aF ?_;refine aT h Y (fun P h=>?_) (fun P h=>?_)
  ·refine aH ?_;refine aF ?_;refine bF ?_;obtain⟨ao,ap,h⟩:=aB h;refine aL [0,8,10,99,100,101] ?_;obtain⟨aq,af,h⟩:=aB h;obtain⟨au,ah,h⟩:=aB h;refine fN (.a 2 ?_);refine .t (sZ (H:=[9000,9100,9200,158,159,160,161]) (K:=[9000,9100,9200]) (uW [(9000,9000),(9100,9100),(9200,9200),(9050,158),(9051,159),(9052,160),(9053,161),(400,166),(401,167),(402,168),(403,169)]) (cU Y) (fun A=>nS A ah) Tryz.call64 (.cons (.dir Y) (.cons (.dir Y) (.cons (.toN (Lk af) Y) .nil))) (fun A=>(.box Y (.box Y (.box Y (.arr Y (.mp Y (.arr Y (.arr Y .nil)))))))) (fun A=>(.box Y (.box Y (.box Y (.arr (.mp (.arr (.arr .nil Y) Y) Y) Y) Y) Y) Y)) (fun _=>rfl) Y Y (fun _=>rfl) Y Y) (.f [0,8,99,100,101] ?_);refine bK ?_;refine eB [0,8,99,100,101] ?_;cases h;exact cE (aC [(161,169),(160,168),(159,167),(158,166)])
  cases h;exact cN (cW (aC []))
 ·intro G;replace h:=jP G h;refine aF ?_;obtain⟨av,ai,h⟩:=aB h;obtain⟨aw,aj,h⟩:=aB h;refine SA (OK:=(RY ([(9000,12,.v Ml b8)]:List (Nat×Nat×Slot)))) 13 mixed (by exact(.pu (.none Y) Y (fun _ _=>aD Y) (.pu (.none Y) Y (fun _ _=>aK Y) (.pu (.none Y) Y (fun _ _=>aA 12 Y uS Y Ik Y Y) (.pu (.none Y) Y (fun _ Q=>FM _ 0 Q Y (fun _ _ _ T U=>aI Y T U Vu Ik)) (.k (aD Y) (JP4.callM (.none Y) (H:=[9000,9100,9200,101,102,103,104]) (K:=[9000,9100,9200]) (uW [(9000,9000),(9100,9100),(9200,9200),(9050,101),(9051,102),(9052,103),(9053,104),(400,129),(401,130),(402,131),(403,132)]) (cU Y) (fun A=>wV A ai) Tryz.call62 (.cons (.dir Y) .nil) (fun A=>(.box Y (.box Y (.box Y (.arr Y (.mp Y (.arr Y (.arr Y .nil)))))))) (fun A=>(.box Y (.box Y (.box Y (.arr (.mp (.arr (.arr .nil Y) Y) Y) Y) Y) Y) Y)) (fun _=>rfl) Y Y (fun _=>rfl) Y Y (.k (aO (My aj) Tryz.call61 (.cons (.dir Y) (.cons (.dir Y) .nil))) (.k (aD Y) (.pu (.none Y) Y (fun _ _=>bH Y Y) (.pu (.none Y) Y (fun _ _=>bH Y Y) (.k (aM 134 RW Y (.cons (Z.int .i64) (.cons (Z.int .i64) (.cons (Z.sl Q4) .nil))) Y) (JP4.storeAll (.none Y) Y Y Y Y (.prm (.one _ _) (.prm (.one _ _) (.one _ _))) Ik (.k (bB Y) .nil)))))))))))))) (by exact(J.kp [0,3,5,6] [])) (by exact Zf Y (by repeat' (first | exact trivial | exact Y | refine And.intro ?_ ?_))) ?_;refine cR [0,3,5,6,63] ?_;refine aT h Y (fun V h=>?_) (fun V h=>?_)
  ·refine aL [0,2] ?_;refine aG ?_;refine Fz ?_;cases h;exact eG E Y (aC [(403,132),(402,131),(401,130),(400,129)])
  refine aH ?_;refine aF ?_;refine dI 14 mixed (by exact(.k (aD Y) (.pu (.none Y) Y (fun _ _=>aD Y) (.k (aX Y Y (.prm (.one _ _) (.prm (.one _ _) (.one _ _))) Vu Ik) (.k (aD Y) (.k (aK Y) (.k (aA 1 Y uS Y Js Y Y) (.k (aA 3 Y Dy Y S3 Y Y) (.k (aI Y Y Y G3 S3) (.k (aK Y) (.k (aA 12 Y uS Y Ik Y Y) (JP4.store (.none Y) Y Y Y Y Y Y Y Ik (.k (aK Y) (.k (aA 15 Y uS Y S3 Y Y) (JP4.store (.none Y) Y Y Y Y Y Y Y S3 .nil))))))))))))))) (by exact(J.kp [0,3] [])) ?_;obtain⟨ax,ak,h⟩:=aB h;refine dI 15 mixed (by exact(.k (aD Y) (.k (aD Y) (.k (aK Y) (.k (aA 17 Y uS Y xY Y Y) (.k (aI Y Y Y Ru xY) (.k (aD Y) (.k (aK Y) (.k (aA 1 Y uS Y Js Y Y) (.k (aA 3 Y Dy Y S3 Y Y) (.k (aI Y Y Y G3 S3) (.k (dM (e:=Q0) xE S3 Z3 Y Y Y Y (.cons (.dir Y) .nil)) (JP4.append (.none Y) 136 ak Y Y (.sl Y) xE I3 S3 Y Y Y Y Y (.k (aK Y) (.k (aA 17 Y uS Y xY Y Y) (JP4.store (.none Y) Y Y Y Y Y Y Y xY .nil)))))))))))))))) (by exact(J.kp [0,3] [])) ?_;exact cF h (aC [(122,132),(121,136),(120,130),(119,129)])
 ·intro G;replace h:=jQ G h;refine aH ?_;exact cF h (aC [(122,104),(121,103),(120,102),(119,101)])
theorem Br(A:Nat->Nat){a1 b0 b1 b2 b3 b4 b5 b6 b7 b8 b9 b10 b11 b12 b13 b14 b15 b16 b17 b18 b19 b20 b21 r}(h:mY a1 b0 b1 b2 b3 b4 b5 b6 b7 b8 b9 b10 b11 b12 b13 b14 b15 b16 b17 b18 b19 b20 b21=some r):
 ConM Tryz.prog 32 [.ptr 9000 0,.v sB a1] (iI 9000 (some (A 9000)) 9100 (some (A 9100)) 9200 (some (A 9200)) 9050 9051 9052 9053 b0 b1 b2 b3 b4 b5 b6 b7 b8 b9 b10 b11 b12 b13 b14 b15 b16 b17 b18 b19 b20 b21) (.tup [.v aN r.1,.v Q8 r.2.1]) (iI 9000 (some (A 9000)) 301 none 302 none 400 401 402 403 r.2.2.1 r.2.2.2.1 r.2.2.2.2.1 r.2.2.2.2.2.1 r.2.2.2.2.2.2.1 r.2.2.2.2.2.2.2.1 r.2.2.2.2.2.2.2.2.1 r.2.2.2.2.2.2.2.2.2.1 r.2.2.2.2.2.2.2.2.2.2.1 r.2.2.2.2.2.2.2.2.2.2.2.1 r.2.2.2.2.2.2.2.2.2.2.2.2.1 r.2.2.2.2.2.2.2.2.2.2.2.2.2.1 r.2.2.2.2.2.2.2.2.2.2.2.2.2.2.1 r.2.2.2.2.2.2.2.2.2.2.2.2.2.2.2.1 r.2.2.2.2.2.2.2.2.2.2.2.2.2.2.2.2.1 r.2.2.2.2.2.2.2.2.2.2.2.2.2.2.2.2.2.1 r.2.2.2.2.2.2.2.2.2.2.2.2.2.2.2.2.2.2.1 r.2.2.2.2.2.2.2.2.2.2.2.2.2.2.2.2.2.2.2.1 r.2.2.2.2.2.2.2.2.2.2.2.2.2.2.2.2.2.2.2.2.1 r.2.2.2.2.2.2.2.2.2.2.2.2.2.2.2.2.2.2.2.2.2.1 r.2.2.2.2.2.2.2.2.2.2.2.2.2.2.2.2.2.2.2.2.2.2.1 r.2.2.2.2.2.2.2.2.2.2.2.2.2.2.2.2.2.2.2.2.2.2.2):=by
 refine ConM.of Tryz.func32 Y Tryz.ntmps32 Y ?_;intro S w R u;unfold mY at h;refine aJ (.k (bU 101 Y (.prm (.one _ _) (.prm (.one _ _) (.prm (.one _ _) (.one _ _)))) Y) (.k (aM 102 Bc Y (.cons (Z.arr 8 (Z.int .u8)) .nil) Y) (.f [0,4] ?_)));obtain⟨z,B,h⟩:=aB h;refine aJ (.k (cT (e:=aN) (v:=aU) Bb vI I5 Y Y (Z.arr 8 (Z.int .u8))) ?_);refine .a 1 ?_;refine .t (eA [9000,9100,9200,9050,9051,9052,9053] (uW [(9000,9000),(9100,9100),(9200,9200),(9050,9050),(9051,9051),(9052,9052),(9053,9053),(400,103),(401,104),(402,105),(403,106)]) (cU Y) (fun A=>zN A B) Tryz.call33 (fun A=>(.box Y (.box Y (.box Y (.arr (.mp (.arr (.arr .nil Y) Y) Y) Y) Y) Y) Y))) (.f [0,4,5] ?_);refine aG ?_;obtain rfl:=pT h;exact mQ [(0,.ptr 9000 0),(4,.ptr 90 0),(5,.v Q8 z.1)] [(90,.box 33 [.v aN aU])] (aC [(90,102),(403,106),(302,9200),(402,105),(401,104),(400,103),(301,9100)]) (dA u Y (bY Y Y Y sT jU) (RV.tmp Y) (.cons Y (.cons Y (.cons Y (.cons Y (.cons Y (.cons Y (.cons Y .nil))))))))
theorem jN(A:Nat->Nat){a1 b0 b1 b2 b3 b4 b5 b6 b7 b8 b9 b10 b11 b12 b13 b14 b15 b16 b17 b18 b19 b20 b21 r}(h:bP a1 b0 b1 b2 b3 b4 b5 b6 b7 b8 b9 b10 b11 b12 b13 b14 b15 b16 b17 b18 b19 b20 b21=some r):
 ConM Tryz.prog 65 [.ptr 9000 0,.v Q0 a1] (iI 9000 (some (A 9000)) 9100 (some (A 9100)) 9200 (some (A 9200)) 9050 9051 9052 9053 b0 b1 b2 b3 b4 b5 b6 b7 b8 b9 b10 b11 b12 b13 b14 b15 b16 b17 b18 b19 b20 b21) (.tup [.v Q0 r.1,.v Enc.bool r.2]) (iI 9000 (some (A 9000)) 9100 (some (A 9100)) 9200 (some (A 9200)) 400 401 402 403 b0 b1 b2 b3 b4 b5 b6 b7 b8 b9 b10 b11 b12 b13 b14 b15 b16 b17 b18 b19 b20 b21):=by
 refine ConM.of Tryz.func65 Y Tryz.ntmps65 Y ?_;intro S w R u;unfold bP at h;refine aL [0,1] ?_;refine cR [0,1,11] ?_;refine aT h Y (fun z h=>?_) (fun z h=>?_)
 ·refine aL [0,4,5] ?_;cases h;exact aG (FQ u Y (aC [(403,9053),(402,9052),(401,9051),(400,9050)]))
 refine aH ?_;obtain⟨C,B,h⟩:=aB h;refine aJ (.a 3 ?_);refine .k (DZ Y) (.k (Aa Y Y) ?_);refine .a 5 ?_;refine .k (DY (.inr Y) (Yo B) Y Y) (.f [0,4,5] ?_);cases h;exact aG (FQ u Y (aC [(403,9053),(402,9052),(401,9051),(400,9050)]))
theorem lJ{a0 r}(h:gM a0=some r):
 Con Tryz.prog 67 [.v (Enc.slN (Enc.pr Enc.bool (Enc.pr Enc.bool (Enc.sl (Enc.int .u8))))) a0] (.ref 0) [(0,.arr 141 (Enc.pr Enc.bool (Enc.pr Enc.bool (Enc.sl (Enc.int .u8)))) r)]:=by
 refine Con.of Tryz.func67 Y Tryz.ntmps67 Y ?_;intro S w u;unfold gM at h;refine aJ (.k (aR 101 141 (Enc.pr Enc.bool (Enc.pr Enc.bool (Enc.sl (Enc.int .u8))))) (.f [0] ?_));refine jD (.a 1 ?_);refine .k (wH Y Im) (.f [0,4] ?_);refine aT h Y (fun z h=>?_) (fun z h=>?_)
 ·refine aJ (.k (aR 102 141 (Enc.pr Enc.bool (Enc.pr Enc.bool (Enc.sl (Enc.int .u8))))) (.f [2] ?_));cases h;exact aG (vO u dD Y (aC [(0,102)]))
 refine aH ?_;obtain⟨B,A,h⟩:=aB h;refine aJ (.k (qM (e:=(Enc.pr Enc.bool (Enc.pr Enc.bool (Enc.sl (Enc.int .u8))))) 103 Im uZ DK Y Y Y Y .nil) ?_);refine .a 1 ?_;refine .t (bR 104 A Y Y (.slN Y) Im MD uZ Y Y Y Y Y) (.f [2] ?_);cases h;exact aG (vO u dD Y (aC [(0,104)]))
theorem gY{a0:(List (Bool×Bool×iY))}{r:(List (Bool×Bool×iY))}(h:cJ a0=some r):
  Con Tryz.prog 67 [.v (Enc.sl (Enc.pr Enc.bool (Enc.pr Enc.bool (Enc.sl (Enc.int .u8))))) a0] (.ref 0) [(0,.arr 141 (Enc.pr Enc.bool (Enc.pr Enc.bool (Enc.sl (Enc.int .u8)))) r)]:=
 qP fun b u=>lJ (by cases b with | true=>rw[u rfl] at h ⊢;exact h | false=>exact Dg h)
theorem gS(A0:Nat->Nat){a0:(List (Bool×Bool×iY))}{a1 a2:Int}{r:(List (Bool×Bool×iY))}(h:cD a0 a1 a2=some r):
 ConM Tryz.prog 66 [.ref 9000,.v Q0 a1,.v Q0 a2] [(9000,.arr 141 (Enc.pr Enc.bool (Enc.pr Enc.bool (Enc.sl (Enc.int .u8)))) a0)] (.ref 0) [(0,.arr 141 (Enc.pr Enc.bool (Enc.pr Enc.bool (Enc.sl (Enc.int .u8)))) r)]:=by
  obtain⟨A,M,B,rfl,rfl,rfl,rfl⟩:=BP h;clear h;have I:=KD A M B;have G:(A++(M++B)).length=A.length+(M.length+B.length):=by simp only[sM]
  have H:((Enc.pr Enc.bool (Enc.pr Enc.bool (Enc.sl (Enc.int .u8))))).n=3:=rfl;refine ConM.of Tryz.func66 Y Tryz.ntmps66 Y ?_;intro S w R E
  repeat refine aF ?_
  refine fN (.k (kK (Enc.pr Enc.bool (Enc.pr Enc.bool (Enc.sl (Enc.int .u8))))) (.f [0,1,2] ?_))
  repeat refine aF ?_
  refine fN (.a 5 ?_);refine .k (KE I Y Y Y Y Y Y Im uZ) (.f [0,1,2] ?_)
  repeat refine aF ?_
  refine eB [0,1,2,16] ?_
  repeat refine aF ?_
  rcases aC8 (cm .eql (A.length:Int) ((A.length+M.length:Nat):Int)) with u | u
  ·have z:M=[]:=aAu (by simp[cm] at u;omega);have K:(A++(M++B))=A++B:=by rw[z];rfl
   refine uN Y u ?_
   repeat refine aF ?_
   refine eB [0,1,2,6,17] ?_;refine aG ?_;rw[K];exact eG E Y (aC [(0,9000)])
  have z:0<M.length:=by
   rcases aEh M.length with F | F
   ·rw[F] at u;simp[cm] at u
   ·exact F
  have L:M++B≠ []:=aBr.1 (by rw[sM];omega);refine zY Y u ?_;clear u
  repeat first | refine aH ?_ | refine aF ?_
  refine eB [0,1,2,7] ?_
  repeat refine aF ?_
  refine Oq (t:=0) (g':=[(1,.v Q0 (A.length:Int)),(2,.v Q0 ((A.length+M.length:Nat):Int)),(7,.v Q0 ((A++(M++B)).length:Int))]) Y L Y (by exact(.cons Y (.cons Y (.cons Y .nil)))) Y fun b p q c O C P=>?_;rcases aBc (A.length+M.length) c with Q | T
  ·repeat refine aF ?_
   refine dI 6 mixed (by exact(.k (aD Y) (.k (aD Y) (.k (Dl (e:=(Enc.pr Enc.bool (Enc.pr Enc.bool (Enc.sl (Enc.int .u8))))) A.length Y (by omega) Y Y Y Im uZ) (.k (aD Y) (.k (aD Y) (.k (yW (e:=(Enc.pr Enc.bool (Enc.pr Enc.bool (Enc.sl (Enc.int .u8))))) (p+(A.length+M.length)*((Enc.pr Enc.bool (Enc.pr Enc.bool (Enc.sl (Enc.int .u8))))).n) B.length (c - (A.length+M.length)) Y (by omega) (by omega) Y (by omega) Y Y Y Im uZ) .nil))))))) (by exact(J.t (Oy (M:=M) Y Y Y (.inr Y) (by omega) Im uZ Y) (jz [0,1,2,7]))) ?_
   repeat refine aF ?_
   refine fN (.a 2 ?_);refine .k (Lo Y Im (by omega)) ?_;refine .a 1 ?_;refine .k (Jb (e:=(Enc.pr Enc.bool (Enc.pr Enc.bool (Enc.sl (Enc.int .u8))))) (p+(A.length+B.length)*((Enc.pr Enc.bool (Enc.pr Enc.bool (Enc.sl (Enc.int .u8))))).n) M.length (c - (A.length+B.length)) Y Y (by omega) (by omega) (by omega) Y (by omega) Y Y Y Y Im uZ) (.t (Jc (zv:=(false,false,([]:iY))) Y Y Y (Nat.le_add_right _ _) z Im DK (Z.pr Z.bool (Z.pr Z.bool (Z.sl (Enc.int .u8))))) (.f [0] ?_));refine vM (Ai (t:=0) (V:=B) (B:=[]) (by simp only[sM,aA9];omega) (by omega) (by rw[G] at C;rw[H] at C ⊢;omega) (by omega) Y) ?_;have D:A++(B++[])=A++B:=by rw[aBa]
   repeat refine aF ?_
   refine eB [0,6,32] ?_;refine aG ?_;rw[D];exact eG E Y (aC [(0,9000)])
  ·have N:B=[]:=aAu (by omega)
   repeat refine aF ?_
   refine dI 6 mixed (by exact(.k (aD Y) (.k (aD Y) (.k (Dl (e:=(Enc.pr Enc.bool (Enc.pr Enc.bool (Enc.sl (Enc.int .u8))))) A.length Y (by omega) Y Y Y Im uZ) (.k (aD Y) (.k (aD Y) (.k (Ti (e:=(Enc.pr Enc.bool (Enc.pr Enc.bool (Enc.sl (Enc.int .u8))))) B.length (by omega) Y (by omega) (by omega) Y Y Im uZ) .nil))))))) (by exact(J.t (Oy (M:=M) Y Y Y (.inl N) (by omega) Im uZ Y) (jz [0,1,2,7]))) ?_
   repeat refine aF ?_
   refine fN (.a 2 ?_);refine .k (Lo Y Im (by omega)) ?_;refine .a 1 ?_;refine .k (Jb (e:=(Enc.pr Enc.bool (Enc.pr Enc.bool (Enc.sl (Enc.int .u8))))) (p+(A.length+B.length)*((Enc.pr Enc.bool (Enc.pr Enc.bool (Enc.sl (Enc.int .u8))))).n) M.length (c - (A.length+B.length)) Y Y (by omega) (by omega) (by omega) Y (by omega) Y Y Y Y Im uZ) (.t (Jc (zv:=(false,false,([]:iY))) Y Y Y (Nat.le_add_right _ _) z Im DK (Z.pr Z.bool (Z.pr Z.bool (Z.sl (Enc.int .u8))))) (.f [0] ?_));refine vM (Ai (t:=0) (V:=B) (B:=[]) (by simp only[sM,aA9];omega) (by omega) (by rw[G] at C;rw[H] at C ⊢;omega) (by omega) Y) ?_;have D:A++(B++[])=A++B:=by rw[aBa]
   repeat refine aF ?_
   refine eB [0,6,32] ?_;refine aG ?_;rw[D];exact eG E Y (aC [(0,9000)])
theorem nT(A:Nat->Nat){a0_0 r}(h:eJ a0_0=some r):
 ConM Tryz.prog 136 [.ptr 9000 0] [(9000,.box 242 [.v (Enc.sl (Enc.int .u8)) a0_0] (some (A 9000)))] (.tup [.v (Enc.int .u8) r.1,.v Enc.bool r.2.1]) [(9000,.box 242 [.v (Enc.sl (Enc.int .u8)) r.2.2] (some (A 9000)))]:=by
 refine ConM.of Tryz.func136 Y Tryz.ntmps136 Y ?_;intro S w R u;unfold eJ at h;refine aL [0] ?_;refine cR [0,10] ?_;refine aT h Y (fun z h=>?_) (fun z h=>?_)
 ·refine aL [0,2,3] ?_;cases h;exact aG (dA u Y (RV.tmp Y) (RV.tmp Y) (.cons Y .nil))
 refine aH ?_;obtain⟨C,D,h⟩:=aB h;refine aL [0,4] ?_;obtain⟨E,B,h⟩:=aB h;refine aJ (.a 5 ?_);refine .k (vU B Y Y sG S5) (.f [0,4] ?_);refine aL [0,2,3] ?_;cases h;exact aG (dA u Y (RV.tmp Y) (RV.tmp Y) (.cons Y .nil))
theorem xH(A:Nat->Nat){a0_0 r}(h:fQ a0_0=some r):
 ConM Tryz.prog 137 [.ptr 9000 0] [(9000,.box 242 [.v (Enc.sl (Enc.int .u8)) a0_0] (some (A 9000)))] (.tup [.v Q0 r.1,.v Enc.bool r.2.1]) [(9000,.box 242 [.v (Enc.sl (Enc.int .u8)) r.2.2] (some (A 9000)))]:=by
 refine ConM.of Tryz.func137 Y Tryz.ntmps137 Y ?_;intro S w R C;unfold fQ at h;refine aL [0] ?_;refine aL [0,4] ?_;refine cR [0,4,5] ?_;obtain⟨V,N,O,F⟩:=bX h;refine jH (σs:=fun z:Int×Int×iY=>⟨[(0,.ptr 9000 0),(4,.v Q0 z.1),(5,.v Q0 z.2.1)],[(9000,.box 242 [.v (Enc.sl (Enc.int .u8)) z.2.2] (some (A 9000)))]⟩) (fun E:iY=>⟨[(0,.ptr 9000 0)],[(9000,.box 242 [.v (Enc.sl (Enc.int .u8)) E] (some (A 9000)))]⟩) N (aC []) ?_ ?_
 ·intro E H;have h:=O _ H;refine aL [0,2,3] ?_;cases h;exact aG (dA C Y (RV.tmp Y) (RV.tmp Y) (.cons Y .nil))
 intro z U h;refine cR [0,4,5,9] ?_;refine aT h Y (fun I h=>?_) (fun I h=>?_)
 ·refine aH ?_;refine aF ?_;refine bF ?_;obtain⟨G,P,h⟩:=aB h;refine aJ (.a 1 ?_);refine .t (eA [9000] (Av [(9000,9000)]) (dY _) (fun A=>nT A P) Tryz.call136 (fun A=>(.box Y .nil Y))) (.f [0,4,5,6,7] ?_);refine cR [0,4,5,6,18] ?_;refine aT h Y (fun K h=>?_) (fun K h=>?_)
  ·refine aL [0,2,3] ?_;refine aG ?_;refine dZ ?_;cases h;refine gD fun D=>?_;obtain rfl:=F _ D;exact dA C Y (RV.tmp Y) (RV.tmp Y) (.cons Y .nil)
  refine aH ?_;obtain⟨X,Q,h⟩:=aB h;refine aJ (.a 3 ?_);refine .k (by exact lM U5 U3 Y Y) ?_;refine .a 1 ?_;refine .k (eK (.inl Y) (Yp Q) Y Y) (.f [0,4,5,6] ?_);refine aL [0,4,5,6,27] ?_;refine aT h Y (fun L h=>?_) (fun L h=>?_)
  ·refine aF ?_;obtain⟨T,u,h⟩:=aB h;refine dL (σ':=⟨[(0,.ptr 9000 0),(2,.v Q0 (ar .or .i64 z.1 (sh .shl .i64 (ar .and .u8 G.1 (127:Int)) z.2.1))),(3,.v Enc.bool T)],[(9000,.box 242 [.v (Enc.sl (Enc.int .u8)) G.2.2] (some (A 9000)))]⟩) ?_ ?_
   ·refine cd u (fun B u=>?_) (fun B u=>?_)
    ·refine cd u (fun M u=>?_) (fun M u=>?_)
     ·cases u;exact jy
     cases u;exact jy
    cases u;exact(J.cons (.none Y) (aD Y) Y Y (J.cons (.none Y) (aD Y) Y Y (J.cons (.none Y) (jO Y Y Y) Y Y (J.cons (.none Y) (aD Y) Y Y (J.left (GK.unmet 31 Y Y Y B) Y (J.left (GK.unmet 31 Y Y Y B) Y (J.left (GK.unmet 31 Y Y Y B) Y (J.left (sW 34 Y Y Y) Y (J.left (sW 34 Y Y Y) Y (J.left (GK.unmet 31 Y Y Y B) Y (J.cons (.none Y) (sK B Y Y) Y Y (J.cons (.none Y) (bB Y) Y Y (J.cons (.none Y) (bB Y) Y Y (J.fin (aC [])))))))))))))))
   refine aG ?_;refine dZ ?_;cases h;refine gD fun D=>?_;obtain rfl:=F _ D;exact dA C Y (RV.tmp Y) (RV.tmp Y) (.cons Y .nil)
  refine aH ?_;refine bK ?_;refine eB [0,4,5] ?_;cases h;exact cE (aC [])
 cases h;exact cN (cW (aC []))
theorem wX{a0 a1 r}(h:jJ a0 a1=some r):
 Con Tryz.prog 138 [.v (Enc.sl (Enc.int .u8)) a0,.v Q0 a1] (.fnc 148 [.pst (Enc.sl (Enc.int .u8)) r.1,.pst Q0 r.2]) []:=by
 refine Con.of Tryz.func138 Y Tryz.ntmps138 Y ?_;intro S w z;unfold jJ at h;refine aJ (.k (bU 101 Y (.one _ _) Y) (.k (bU 102 Y (.one _ _) Y) (.k (dQ Y) (.f [2,3] ?_))));refine cR [2,3,6] ?_;obtain⟨B,C,h⟩:=gC h;refine uT (fun A:Unit=>⟨[(2,.ptr 101 0),(3,.ptr 102 0)],[(101,.box 136 [.v (Enc.sl (Enc.int .u8)) a0]),(102,.box 3 [.v Q0 a1])]⟩) (fun x=>B x=some r) Y ?_ ?_ ?_
 ·intro A h;rw[C] at h;refine aJ (.k (sL (.cons (.dir Y) (.cons (.dir Y) .nil))) (.f [4] ?_));refine aG ?_;obtain rfl:=pT h;exact bN (σ':=⟨[(4,.fnc 148 [.pst (Enc.sl (Enc.int .u8)) a0,.pst Q0 a1])],[]⟩) (Sw.Sub.mk id (.cons Y (.fnc (.cons (.frzP Y Y (.cons (.of_eq Y) .nil) (.one _ _)) (.cons (.frzP Y Y (.cons (.of_eq Y) .nil) (.one _ _)) .nil))) .nil) .nil Y) (aY z dD Y (RV.tmp Y) .nil Y)
 ·intro u;replace h:=jP u h;cases h
 ·intro u;replace h:=jQ u h;refine aH ?_;exact cF h (aC [])
end Go.Cn
