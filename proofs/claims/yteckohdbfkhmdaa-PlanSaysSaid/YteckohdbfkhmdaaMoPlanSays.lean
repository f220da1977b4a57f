/- What the functions that this law reaches come to, as plain functions. Conditions: none. -/
import Derived.Test.YteckohdbfkhmdaaSwB
set_option linter.unusedVariables false
set_option linter.unusedSimpArgs false
namespace Go.Mo
open Go Go.Sw
abbrev Blk := List Int
abbrev eBlk : Enc Blk := Enc.arr 8 (Enc.int .u8)
def zblk : Blk := List.replicate 8 0
abbrev PWay := (Unit ⊕ (((Option ((List Blk) × (List (Blk × (List Int)))))) ⊕ (((List Blk)) ⊕ (Unit ⊕ Unit))))
abbrev ePWay : Enc PWay := (Enc.ifc 155 Enc.st0 (Enc.ifc 157 (Enc.one1 (Enc.ptN (Enc.pr (Enc.sl eBlk) (Enc.mpF eBlk (Enc.sl (Enc.int .i64)))))) (Enc.ifc 159 (Enc.one1 (Enc.sl eBlk)) (Enc.ifc 160 Enc.st0 Enc.ifn rfl rfl) rfl rfl) rfl rfl) rfl rfl)
/-- ref_First -/
def m_ref_First (a0 : (List Blk)) (a1 : Blk) : Option (Int) :=
  lp (β := Unit) (fun (s9 : Int) =>
    bif (cm .lss s9 (a0.length : Int)) then
      (Sw.idx a0 s9).bind fun z16 =>
        bif (decide (z16 = a1)) then
          some (.done (.ret s9))
        else
          some (.next (ar .add .i64 s9 (1 : Int)))
    else
      some (.done (.brk ()))
    ) (0 : Int) fun (_ : Unit) =>
  some (-1 : Int)
/-- ref_HadMay -/
def m_ref_HadMay (a0 : (List Blk)) : Option (Int) :=
  bif (cm .gtr (a0.length : Int) (8 : Int)) then
    some (2 : Int)
  else
    lp (β := Unit) (fun (s12 : Int) =>
      bif (cm .lss s12 (a0.length : Int)) then
        (Sw.idx a0 s12).bind fun z20 =>
          (m_ref_First a0 z20).bind fun v21 =>
            bif (cm .lss v21 s12) then
              some (.done (.ret (3 : Int)))
            else
              some (.next (ar .add .i64 s12 (1 : Int)))
      else
        some (.done (.brk ()))
      ) (0 : Int) fun (_ : Unit) =>
    some (0 : Int)
/-- ref_PlanMay -/
def m_ref_PlanMay (a0 : (List Blk)) (a1 : (List Blk)) : Option (Int) :=
  (bif (cm .lss (a0.length : Int) (1 : Int)) then
    some true
  else
    some (cm .gtr (a0.length : Int) (32 : Int))).bind fun x2 =>
    bif x2 then
      some (1 : Int)
    else
      (m_ref_HadMay a1).bind fun v5 =>
        some v5
/-- ref_Rising -/
def m_ref_Rising (a0 : (List (Int × Blk))) (a1 : Int) : Option (Bool) :=
  lp (β := Unit) (fun (s37 : Int) =>
    bif (cm .lss s37 (a0.length : Int)) then
      ((Sw.idx a0 s37).bind fun z66 =>
        bif (cm .lss z66.1 (0 : Int)) then
          some true
        else
          (Sw.idx a0 s37).bind fun z68 =>
            bif (cm .geq z68.1 a1) then
              some true
            else
              bif (cm .gtr s37 (0 : Int)) then
                (Sw.idx a0 s37).bind fun z71 =>
                  (Sw.idx a0 (ar .sub .i64 s37 (1 : Int))).bind fun z72 =>
                    some (cm .leq z71.1 z72.1)
              else
                some false).bind fun x65 =>
        bif x65 then
          some (.done (.ret false))
        else
          some (.next (ar .add .i64 s37 (1 : Int)))
    else
      some (.done (.brk ()))
    ) (0 : Int) fun (_ : Unit) =>
  some true
/-- ref_PacketOf -/
def m_ref_PacketOf (a0 : (Int × Blk)) (a1 : (List Blk)) (a2 : (List Blk)) : Option ((Int × Int × Int × Blk) × Bool) :=
  (Sw.idx a1 a0.1).bind fun z1 =>
    bif (decide (z1 = a0.2)) then
      some (((0 : Int), (0 : Int), (0 : Int), zblk), false)
    else
      bif (decide (a0.2 = zblk)) then
        some ((a0.1, (0 : Int), (0 : Int), zblk), true)
      else
        (m_ref_First a1 a0.2).bind fun v4 =>
          bif (cm .geq v4 (0 : Int)) then
            some ((a0.1, (1 : Int), v4, zblk), true)
          else
            (m_ref_First a2 a0.2).bind fun v6 =>
              bif (cm .geq v6 (0 : Int)) then
                some ((a0.1, (2 : Int), v6, zblk), true)
              else
                some ((a0.1, (3 : Int), (0 : Int), a0.2), true)
/-- cache_Check -/
def m_cache_Check (a0 : (List Blk)) : Option ((Option Int)) :=
  bif (cm .gtr (a0.length : Int) (8 : Int)) then
    some (some (2 : Int))
  else
    lp (β := Unit) (fun (s12 : Int × (List (Blk × Bool))) =>
      bif (cm .lss s12.1 (a0.length : Int)) then
        (Sw.idx a0 s12.1).bind fun z20 =>
          bif ((mget s12.2 z20).getD false) then
            some (.done (.ret (some (3 : Int))))
          else
            (mput s12.2 z20 true).bind fun v22 =>
              some (.next ((ar .add .i64 s12.1 (1 : Int)), v22))
      else
        some (.done (.brk ()))
      ) ((0 : Int), ([] : List (Blk × Bool))) fun (_ : Unit) =>
    some (none : Option Int)
/-- plan_checked -/
def m_plan_checked (a0 : (List Blk)) (a1 : (List Blk)) : Option ((Option Int)) :=
  (bif (cm .lss (a0.length : Int) (1 : Int)) then
    some true
  else
    some (cm .gtr (a0.length : Int) (32 : Int))).bind fun x2 =>
    bif x2 then
      some (some (1 : Int))
    else
      (m_cache_Check a1).bind fun v5 =>
        some v5
/-- slices_Clone_api_Block_api_Block -/
def m_slices_Clone_api_Block_api_Block_nil (a0 : (Bool × (List Blk))) : Option ((List Blk)) :=
  bif a0.1 then
    some ([] : (List Blk))
  else
    (Sw.app ([] : (List Blk)) a0.2).bind fun v2 =>
      some v2
/-- slices_Clone_api_Block_api_Block -/
def m_slices_Clone_api_Block_api_Block (a0 : (List Blk)) : Option (List Blk) := Sw.app [] a0
/-- cache_New -/
def m_cache_New (a0 : (List Blk)) : Option ((Option ((List Blk) × (List (Blk × (List Int))))) × (Option Int)) :=
  (bif (cm .lss (a0.length : Int) (1 : Int)) then
    some true
  else
    some (cm .gtr (a0.length : Int) (32 : Int))).bind fun x2 =>
    bif x2 then
      some ((none : (Option ((List Blk) × (List (Blk × (List Int)))))), (some (1 : Int)))
    else
      (m_slices_Clone_api_Block_api_Block a0).bind fun v5 =>
        lp (β := (List (Blk × (List Int)))) (fun (s20 : Int × (List (Blk × (List Int)))) =>
          bif (cm .lss s20.1 (a0.length : Int)) then
            (Sw.idx a0 s20.1).bind fun z30 =>
              (ment s20.2 z30).bind fun v33 =>
                (Sw.app v33.2.2 ([s20.1] : (List Int))).bind fun v34 =>
                  some (.next ((ar .add .i64 s20.1 (1 : Int)), mset v33.1 v33.2.1 v34))
          else
            some (.done (.brk s20.2))
          ) ((0 : Int), ([] : List (Blk × (List Int)))) fun (x28 : (List (Blk × (List Int)))) =>
        some ((some (v5, x28)), (none : Option Int))
/-- plan_zero_tell -/
def m_plan_zero_tell (a0 : Unit) (a1 : (Int × Blk)) : Option ((Int × Int × Int × Blk) × Bool) :=
  some ((a1.1, (0 : Int), (0 : Int), zblk), (decide (a1.2 = zblk)))
/-- cache_Index_Find -/
def m_cache_Index_Find (a0 : (Option ((List Blk) × (List (Blk × (List Int)))))) (a1 : Blk) : Option (Int × Bool) :=
  (a0).bind fun z1 =>
    bif (cm .eql (((mget z1.2 a1).getD ([] : (List Int))).length : Int) (0 : Int)) then
      some ((0 : Int), false)
    else
      (Sw.idx ((mget z1.2 a1).getD ([] : (List Int))) (0 : Int)).bind fun z3 =>
        some (z3, true)
/-- plan_same_tell -/
def m_plan_same_tell (a0 : ((Option ((List Blk) × (List (Blk × (List Int))))))) (a1 : (Int × Blk)) : Option ((Int × Int × Int × Blk) × Bool) :=
  (m_cache_Index_Find a0 a1.2).bind fun v1 =>
    some ((a1.1, (1 : Int), v1.1, zblk), v1.2)
/-- slices_Index_api_Block_api_Block -/
def m_slices_Index_api_Block_api_Block (a0 : (List Blk)) (a1 : Blk) : Option (Int) :=
  lp (β := Unit) (fun (s9 : Int) =>
    bif (cm .lss s9 (a0.length : Int)) then
      (Sw.idx a0 s9).bind fun z16 =>
        bif (decide (a1 = z16)) then
          some (.done (.ret s9))
        else
          some (.next (ar .add .i64 s9 (1 : Int)))
    else
      some (.done (.brk ()))
    ) (0 : Int) fun (_ : Unit) =>
  some (-1 : Int)
/-- cache_Find -/
def m_cache_Find (a0 : (List Blk)) (a1 : Blk) : Option (Int × Bool) :=
  (m_slices_Index_api_Block_api_Block a0 a1).bind fun v1 =>
    some ((max v1 (0 : Int)), (cm .geq v1 (0 : Int)))
/-- plan_cached_tell -/
def m_plan_cached_tell (a0 : ((List Blk))) (a1 : (Int × Blk)) : Option ((Int × Int × Int × Blk) × Bool) :=
  (m_cache_Find a0 a1.2).bind fun v1 =>
    some ((a1.1, (2 : Int), v1.1, zblk), v1.2)
/-- plan_literal_tell -/
def m_plan_literal_tell (a0 : Unit) (a1 : (Int × Blk)) : Option ((Int × Int × Int × Blk) × Bool) :=
  some ((a1.1, (3 : Int), (0 : Int), a1.2), true)
/-- tell of PWay -/
def m_inv_PWay (w : PWay) (p0 : (Int × Blk)) : Option ((Int × Int × Int × Blk) × Bool) := match w with
  | .inl z => m_plan_zero_tell z p0
  | .inr (.inl z) => m_plan_same_tell z p0
  | .inr (.inr (.inl z)) => m_plan_cached_tell z p0
  | .inr (.inr (.inr (.inl z))) => m_plan_literal_tell z p0
  | .inr (.inr (.inr (.inr _))) => none
/-- plan_Packets -/
def m_plan_Packets (a0 : (List (Int × Blk))) (a1 : (List Blk)) (a2 : (List Blk)) : Option ((List (Int × Int × Int × Blk)) × (Option Int)) :=
  (m_plan_checked a1 a2).bind fun v1 =>
    bif (Option.isSome v1) then
      some (([] : (List (Int × Int × Int × Blk))), v1)
    else
      lp (β := Unit) (fun (s17 : Int × Int) =>
        bif (cm .lss s17.2 (a0.length : Int)) then
          (Sw.idx a0 s17.2).bind fun z27 =>
            (bif (cm .leq z27.1 s17.1) then
              some true
            else
              some (cm .geq z27.1 (a1.length : Int))).bind fun x29 =>
              bif x29 then
                some (.done (.ret (([] : (List (Int × Int × Int × Blk))), (some (1 : Int)))))
              else
                some (.next (z27.1, (ar .add .i64 s17.2 (1 : Int))))
        else
          some (.done (.brk ()))
        ) ((-1 : Int), (0 : Int)) fun (_ : Unit) =>
      (m_cache_New a1).bind fun v32 =>
        bif (Option.isSome v32.2) then
          some (([] : (List (Int × Int × Int × Blk))), v32.2)
        else
          lp (β := (List (Int × Int × Int × Blk))) (fun (s154 : Int × (List (Int × Int × Int × Blk))) =>
            bif (cm .lss s154.1 (a0.length : Int)) then
              jp (fun (x246 : (List (Int × Int × Int × Blk))) =>
                some (.next ((ar .add .i64 s154.1 (1 : Int)), x246))
                ) fun k245 =>
              (Sw.idx a0 s154.1).bind fun z247 =>
                (Sw.idx a1 z247.1).bind fun z248 =>
                  bif (decide (z248 = z247.2)) then
                    k245 s154.2
                  else
                    lp (β := (List (Int × Int × Int × Blk))) (fun (s262 : Int) =>
                      bif (cm .lss s262 (([(.inl () : PWay), (.inr (.inl v32.1) : PWay), (.inr (.inr (.inl a2)) : PWay), (.inr (.inr (.inr (.inl ()))) : PWay)] : (List PWay)).length : Int)) then
                        (Sw.idx ([(.inl () : PWay), (.inr (.inl v32.1) : PWay), (.inr (.inr (.inl a2)) : PWay), (.inr (.inr (.inr (.inl ()))) : PWay)] : (List PWay)) s262).bind fun z271 =>
                          (m_inv_PWay z271 z247).bind fun v272 =>
                            bif v272.2 then
                              (Sw.app s154.2 ([v272.1] : (List (Int × Int × Int × Blk)))).bind fun v274 =>
                                some (.done (.brk v274))
                            else
                              some (.next (ar .add .i64 s262 (1 : Int)))
                      else
                        some (.done (.brk s154.2))
                      ) (0 : Int) fun (x269 : (List (Int × Int × Int × Blk))) =>
                    k245 x269
            else
              some (.done (.brk s154.2))
            ) ((0 : Int), ([] : (List (Int × Int × Int × Blk)))) fun (x215 : (List (Int × Int × Int × Blk))) =>
          some (x215, (none : Option Int))
/-- ref_Is -/
def m_ref_Is (a0 : (Option Int)) (a1 : Int) : Option (Bool) :=
  bif (Option.isNone a0) then
    some (cm .eql a1 (0 : Int))
  else
    (bif (cm .neq a1 (0 : Int)) then
      some (a0 == (some a1))
    else
      some false).bind fun x3 =>
      some x3
/-- law_PlanSays -/
def m_law_PlanSays (a0 : (List (Int × Blk))) (a1 : (List Blk)) (a2 : (List Blk)) : Option (Bool) :=
  (bif (cm .gtr (a0.length : Int) (100 : Int)) then
    some true
  else
    bif (cm .gtr (a1.length : Int) (100 : Int)) then
      some true
    else
      some (cm .gtr (a2.length : Int) (100 : Int))).bind fun x3 =>
    bif x3 then
      some true
    else
      (m_ref_PlanMay a1 a2).bind fun v7 =>
        (bif (cm .eql v7 (0 : Int)) then
          (m_ref_Rising a0 (a1.length : Int)).bind fun v12 =>
            some (!v12)
        else
          some false).bind fun x10 =>
          jp (fun (x15 : Int) =>
            lp (β := (List (Int × Int × Int × Blk))) (fun (s34 : Int × (List (Int × Int × Int × Blk))) =>
              (bif (cm .lss s34.1 (a0.length : Int)) then
                some (cm .eql x15 (0 : Int))
              else
                some false).bind fun x46 =>
                bif x46 then
                  (Sw.idx a0 s34.1).bind fun z49 =>
                    (m_ref_PacketOf z49 a1 a2).bind fun v50 =>
                      bif v50.2 then
                        (Sw.app s34.2 ([v50.1] : (List (Int × Int × Int × Blk)))).bind fun v52 =>
                          some (.next ((ar .add .i64 s34.1 (1 : Int)), v52))
                      else
                        some (.next ((ar .add .i64 s34.1 (1 : Int)), s34.2))
                else
                  some (.done (.brk s34.2))
              ) ((0 : Int), ([] : (List (Int × Int × Int × Blk)))) fun (x44 : (List (Int × Int × Int × Blk))) =>
            (m_plan_Packets a0 a1 a2).bind fun v53 =>
              ((m_ref_Is v53.2 x15).bind fun v57 =>
                bif (!v57) then
                  some true
                else
                  some (cm .neq (v53.1.length : Int) (x44.length : Int))).bind fun x56 =>
                bif x56 then
                  some false
                else
                  lp (β := Unit) (fun (s70 : Int) =>
                    bif (cm .lss s70 (v53.1.length : Int)) then
                      (Sw.idx v53.1 s70).bind fun z78 =>
                        (Sw.idx x44 s70).bind fun z79 =>
                          bif (!decide (z78 = z79)) then
                            some (.done (.ret false))
                          else
                            some (.next (ar .add .i64 s70 (1 : Int)))
                    else
                      some (.done (.brk ()))
                    ) (0 : Int) fun (_ : Unit) =>
                  some true
            ) fun k14 =>
          bif x10 then
            k14 (1 : Int)
          else
            k14 v7
end Go.Mo
