/- What the functions that this law reaches come to, as plain functions. Conditions: none. -/
import Derived.Test.YteckohdbfkhmdacSwB
set_option linter.unusedVariables false
set_option linter.unusedSimpArgs false
namespace Go.Mo
open Go Go.Sw
abbrev Blk := List Int
abbrev eBlk : Enc Blk := Enc.arr 8 (Enc.int .u8)
def zblk : Blk := List.replicate 8 0
abbrev PWay := (Unit ⊕ (((Option ((List Blk) × (List (Blk × (List Int)))))) ⊕ (((List Blk)) ⊕ (Unit ⊕ Unit))))
abbrev ePWay : Enc PWay := (Enc.ifc 97 Enc.st0 (Enc.ifc 99 (Enc.one1 (Enc.ptN (Enc.pr (Enc.sl eBlk) (Enc.mpF eBlk (Enc.sl (Enc.int .i64)))))) (Enc.ifc 101 (Enc.one1 (Enc.sl eBlk)) (Enc.ifc 102 Enc.st0 Enc.ifn rfl rfl) rfl rfl) rfl rfl) rfl rfl)
/-- ref_Pick -/
def m_ref_Pick (a0 : Int) (a1 : Int) : Option (Int) :=
  jp (fun (x3 : Int) =>
    (nz a1).bind fun _ =>
      some (ar .rem .i64 x3 a1)
    ) fun k2 =>
  bif (cm .lss a0 (0 : Int)) then
    k2 (IntKind.wrap .i64 (0 - (ar .add .i64 a0 (1 : Int))))
  else
    k2 a0
/-- ref_Raw -/
def m_ref_Raw (a0 : (List Int)) (a1 : Int) : Option (Int) :=
  bif (cm .eql (a0.length : Int) (0 : Int)) then
    some (ar .mul .i64 a1 (31 : Int))
  else
    (nz (a0.length : Int)).bind fun _ =>
      (Sw.idx a0 (ar .rem .i64 a1 (a0.length : Int))).bind fun z3 =>
        (m_ref_Pick z3 (1000003 : Int)).bind fun v4 =>
          (nz (a0.length : Int)).bind fun _ =>
            some (ar .add .i64 v4 (ar .mul .i64 (ar .quo .i64 a1 (a0.length : Int)) (7919 : Int)))
/-- ref_BlockFrom -/
def m_ref_BlockFrom (a0 : (List Int)) (a1 : Int) : Option (Blk) :=
  (m_ref_Raw a0 a1).bind fun v1 =>
    bif (cm .eql (ar .rem .i64 v1 (3 : Int)) (0 : Int)) then
      some zblk
    else
      (Sw.idx zblk (0 : Int)).bind fun _ =>
        jp (fun (x23 : Blk) =>
          some x23
          ) fun k22 =>
        bif (cm .eql (ar .rem .i64 v1 (3 : Int)) (2 : Int)) then
          lp (β := Blk) (fun (s32 : Int × Blk) =>
            bif (cm .lss s32.1 (8 : Int)) then
              (m_ref_Raw a0 (ar .add .i64 a1 s32.1)).bind fun v39 =>
                (Sw.idx s32.2 s32.1).bind fun _ =>
                  some (.next ((ar .add .i64 s32.1 (1 : Int)), (List.set s32.2 (Int.toNat s32.1) (IntKind.wrap .u8 (ar .quo .i64 v39 (7 : Int))))))
            else
              some (.done (.brk s32.2))
            ) ((1 : Int), (List.set zblk (Int.toNat (0 : Int)) (IntKind.wrap .u8 (ar .add .i64 (1 : Int) (ar .rem .i64 (ar .quo .i64 v1 (3 : Int)) (5 : Int)))))) fun (x37 : Blk) =>
          k22 x37
        else
          k22 (List.set zblk (Int.toNat (0 : Int)) (IntKind.wrap .u8 (ar .add .i64 (1 : Int) (ar .rem .i64 (ar .quo .i64 v1 (3 : Int)) (5 : Int)))))
/-- ref_BlocksFrom -/
def m_ref_BlocksFrom (a0 : (List Int)) (a1 : Int) (a2 : Int) : Option ((List Blk)) :=
  lp (β := (List Blk)) (fun (s9 : Int × (List Blk)) =>
    bif (cm .lss s9.1 a2) then
      (m_ref_BlockFrom a0 (ar .add .i64 a1 (ar .mul .i64 (9 : Int) s9.1))).bind fun v16 =>
        (Sw.app s9.2 ([v16] : (List Blk))).bind fun v17 =>
          some (.next ((ar .add .i64 s9.1 (1 : Int)), v17))
    else
      some (.done (.brk s9.2))
    ) ((0 : Int), ([] : (List Blk))) fun (x14 : (List Blk)) =>
  some x14
/-- ref_PutsFrom -/
def m_ref_PutsFrom (a0 : (List Int)) (a1 : Int) (a2 : Int) : Option ((List (Int × Blk))) :=
  lp (β := (List (Int × Blk))) (fun (s13 : Int × (List (Int × Blk))) =>
    bif (cm .lss s13.1 a2) then
      (m_ref_Raw a0 (ar .add .i64 a1 s13.1)).bind fun v22 =>
        bif (cm .eql (ar .rem .i64 v22 (3 : Int)) (0 : Int)) then
          (m_ref_BlockFrom a0 (ar .add .i64 (ar .add .i64 a1 (ar .mul .i64 (5 : Int) s13.1)) (1 : Int))).bind fun v24 =>
            (Sw.app s13.2 ([(s13.1, v24)] : (List (Int × Blk)))).bind fun v25 =>
              some (.next ((ar .add .i64 s13.1 (1 : Int)), v25))
        else
          some (.next ((ar .add .i64 s13.1 (1 : Int)), s13.2))
    else
      some (.done (.brk s13.2))
    ) ((0 : Int), ([] : (List (Int × Blk)))) fun (x20 : (List (Int × Blk))) =>
  some x20
/-- ref_First -/
def m_ref_First (a0 : (List Blk)) (a1 : Blk) : Option (Int) :=
  lp (β := Unit) (fun (s9 : Int) =>
    bif (cm .lss s9 (a0.length : Int)) then
      (Sw.idx a0 s9).bind fun z16 =>
        bif (decide (z16 = a1)) then
          some (.done (.ret s9))
        else
          some (.next (ar .add .i64 s9 (1 : Int)))
    else
      some (.done (.brk ()))
    ) (0 : Int) fun (_ : Unit) =>
  some (-1 : Int)
/-- cache_Check -/
def m_cache_Check (a0 : (List Blk)) : Option ((Option Int)) :=
  bif (cm .gtr (a0.length : Int) (8 : Int)) then
    some (some (2 : Int))
  else
    lp (β := Unit) (fun (s12 : Int × (List (Blk × Bool))) =>
      bif (cm .lss s12.1 (a0.length : Int)) then
        (Sw.idx a0 s12.1).bind fun z20 =>
          bif ((mget s12.2 z20).getD false) then
            some (.done (.ret (some (3 : Int))))
          else
            (mput s12.2 z20 true).bind fun v22 =>
              some (.next ((ar .add .i64 s12.1 (1 : Int)), v22))
      else
        some (.done (.brk ()))
      ) ((0 : Int), ([] : List (Blk × Bool))) fun (_ : Unit) =>
    some (none : Option Int)
/-- plan_checked -/
def m_plan_checked (a0 : (List Blk)) (a1 : (List Blk)) : Option ((Option Int)) :=
  (bif (cm .lss (a0.length : Int) (1 : Int)) then
    some true
  else
    some (cm .gtr (a0.length : Int) (32 : Int))).bind fun x2 =>
    bif x2 then
      some (some (1 : Int))
    else
      (m_cache_Check a1).bind fun v5 =>
        some v5
/-- slices_Clone_api_Block_api_Block -/
def m_slices_Clone_api_Block_api_Block_nil (a0 : (Bool × (List Blk))) : Option ((List Blk)) :=
  bif a0.1 then
    some ([] : (List Blk))
  else
    (Sw.app ([] : (List Blk)) a0.2).bind fun v2 =>
      some v2
/-- slices_Clone_api_Block_api_Block -/
def m_slices_Clone_api_Block_api_Block (a0 : (List Blk)) : Option (List Blk) := Sw.app [] a0
/-- cache_New -/
def m_cache_New (a0 : (List Blk)) : Option ((Option ((List Blk) × (List (Blk × (List Int))))) × (Option Int)) :=
  (bif (cm .lss (a0.length : Int) (1 : Int)) then
    some true
  else
    some (cm .gtr (a0.length : Int) (32 : Int))).bind fun x2 =>
    bif x2 then
      some ((none : (Option ((List Blk) × (List (Blk × (List Int)))))), (some (1 : Int)))
    else
      (m_slices_Clone_api_Block_api_Block a0).bind fun v5 =>
        lp (β := (List (Blk × (List Int)))) (fun (s20 : Int × (List (Blk × (List Int)))) =>
          bif (cm .lss s20.1 (a0.length : Int)) then
            (Sw.idx a0 s20.1).bind fun z30 =>
              (ment s20.2 z30).bind fun v33 =>
                (Sw.app v33.2.2 ([s20.1] : (List Int))).bind fun v34 =>
                  some (.next ((ar .add .i64 s20.1 (1 : Int)), mset v33.1 v33.2.1 v34))
          else
            some (.done (.brk s20.2))
          ) ((0 : Int), ([] : List (Blk × (List Int)))) fun (x28 : (List (Blk × (List Int)))) =>
        some ((some (v5, x28)), (none : Option Int))
/-- plan_zero_tell -/
def m_plan_zero_tell (a0 : Unit) (a1 : (Int × Blk)) : Option ((Int × Int × Int × Blk) × Bool) :=
  some ((a1.1, (0 : Int), (0 : Int), zblk), (decide (a1.2 = zblk)))
/-- cache_Index_Find -/
def m_cache_Index_Find (a0 : (Option ((List Blk) × (List (Blk × (List Int)))))) (a1 : Blk) : Option (Int × Bool) :=
  (a0).bind fun z1 =>
    bif (cm .eql (((mget z1.2 a1).getD ([] : (List Int))).length : Int) (0 : Int)) then
      some ((0 : Int), false)
    else
      (Sw.idx ((mget z1.2 a1).getD ([] : (List Int))) (0 : Int)).bind fun z3 =>
        some (z3, true)
/-- plan_same_tell -/
def m_plan_same_tell (a0 : ((Option ((List Blk) × (List (Blk × (List Int))))))) (a1 : (Int × Blk)) : Option ((Int × Int × Int × Blk) × Bool) :=
  (m_cache_Index_Find a0 a1.2).bind fun v1 =>
    some ((a1.1, (1 : Int), v1.1, zblk), v1.2)
/-- slices_Index_api_Block_api_Block -/
def m_slices_Index_api_Block_api_Block (a0 : (List Blk)) (a1 : Blk) : Option (Int) :=
  lp (β := Unit) (fun (s9 : Int) =>
    bif (cm .lss s9 (a0.length : Int)) then
      (Sw.idx a0 s9).bind fun z16 =>
        bif (decide (a1 = z16)) then
          some (.done (.ret s9))
        else
          some (.next (ar .add .i64 s9 (1 : Int)))
    else
      some (.done (.brk ()))
    ) (0 : Int) fun (_ : Unit) =>
  some (-1 : Int)
/-- cache_Find -/
def m_cache_Find (a0 : (List Blk)) (a1 : Blk) : Option (Int × Bool) :=
  (m_slices_Index_api_Block_api_Block a0 a1).bind fun v1 =>
    some ((max v1 (0 : Int)), (cm .geq v1 (0 : Int)))
/-- plan_cached_tell -/
def m_plan_cached_tell (a0 : ((List Blk))) (a1 : (Int × Blk)) : Option ((Int × Int × Int × Blk) × Bool) :=
  (m_cache_Find a0 a1.2).bind fun v1 =>
    some ((a1.1, (2 : Int), v1.1, zblk), v1.2)
/-- plan_literal_tell -/
def m_plan_literal_tell (a0 : Unit) (a1 : (Int × Blk)) : Option ((Int × Int × Int × Blk) × Bool) :=
  some ((a1.1, (3 : Int), (0 : Int), a1.2), true)
/-- tell of PWay -/
def m_inv_PWay (w : PWay) (p0 : (Int × Blk)) : Option ((Int × Int × Int × Blk) × Bool) := match w with
  | .inl z => m_plan_zero_tell z p0
  | .inr (.inl z) => m_plan_same_tell z p0
  | .inr (.inr (.inl z)) => m_plan_cached_tell z p0
  | .inr (.inr (.inr (.inl z))) => m_plan_literal_tell z p0
  | .inr (.inr (.inr (.inr _))) => none
/-- plan_Packets -/
def m_plan_Packets (a0 : (List (Int × Blk))) (a1 : (List Blk)) (a2 : (List Blk)) : Option ((List (Int × Int × Int × Blk)) × (Option Int)) :=
  (m_plan_checked a1 a2).bind fun v1 =>
    bif (Option.isSome v1) then
      some (([] : (List (Int × Int × Int × Blk))), v1)
    else
      lp (β := Unit) (fun (s17 : Int × Int) =>
        bif (cm .lss s17.2 (a0.length : Int)) then
          (Sw.idx a0 s17.2).bind fun z27 =>
            (bif (cm .leq z27.1 s17.1) then
              some true
            else
              some (cm .geq z27.1 (a1.length : Int))).bind fun x29 =>
              bif x29 then
                some (.done (.ret (([] : (List (Int × Int × Int × Blk))), (some (1 : Int)))))
              else
                some (.next (z27.1, (ar .add .i64 s17.2 (1 : Int))))
        else
          some (.done (.brk ()))
        ) ((-1 : Int), (0 : Int)) fun (_ : Unit) =>
      (m_cache_New a1).bind fun v32 =>
        bif (Option.isSome v32.2) then
          some (([] : (List (Int × Int × Int × Blk))), v32.2)
        else
          lp (β := (List (Int × Int × Int × Blk))) (fun (s154 : Int × (List (Int × Int × Int × Blk))) =>
            bif (cm .lss s154.1 (a0.length : Int)) then
              jp (fun (x246 : (List (Int × Int × Int × Blk))) =>
                some (.next ((ar .add .i64 s154.1 (1 : Int)), x246))
                ) fun k245 =>
              (Sw.idx a0 s154.1).bind fun z247 =>
                (Sw.idx a1 z247.1).bind fun z248 =>
                  bif (decide (z248 = z247.2)) then
                    k245 s154.2
                  else
                    lp (β := (List (Int × Int × Int × Blk))) (fun (s262 : Int) =>
                      bif (cm .lss s262 (([(.inl () : PWay), (.inr (.inl v32.1) : PWay), (.inr (.inr (.inl a2)) : PWay), (.inr (.inr (.inr (.inl ()))) : PWay)] : (List PWay)).length : Int)) then
                        (Sw.idx ([(.inl () : PWay), (.inr (.inl v32.1) : PWay), (.inr (.inr (.inl a2)) : PWay), (.inr (.inr (.inr (.inl ()))) : PWay)] : (List PWay)) s262).bind fun z271 =>
                          (m_inv_PWay z271 z247).bind fun v272 =>
                            bif v272.2 then
                              (Sw.app s154.2 ([v272.1] : (List (Int × Int × Int × Blk)))).bind fun v274 =>
                                some (.done (.brk v274))
                            else
                              some (.next (ar .add .i64 s262 (1 : Int)))
                      else
                        some (.done (.brk s154.2))
                      ) (0 : Int) fun (x269 : (List (Int × Int × Int × Blk))) =>
                    k245 x269
            else
              some (.done (.brk s154.2))
            ) ((0 : Int), ([] : (List (Int × Int × Int × Blk)))) fun (x215 : (List (Int × Int × Int × Blk))) =>
          some (x215, (none : Option Int))
/-- plan_one -/
def m_plan_one (a0 : (List Blk)) (a1 : Int) : Option (Blk × Bool) :=
  (bif (cm .lss a1 (0 : Int)) then
    some true
  else
    some (cm .geq a1 (a0.length : Int))).bind fun x2 =>
    bif x2 then
      some (zblk, false)
    else
      (Sw.idx a0 a1).bind fun z5 =>
        some (z5, true)
/-- plan_Apply -/
def m_plan_Apply (a0 : (List (Int × Int × Int × Blk))) (a1 : (List Blk)) (a2 : (List Blk)) : Option ((List (Int × Blk)) × (List Int) × (Option Int)) :=
  (m_plan_checked a1 a2).bind fun v1 =>
    bif (Option.isSome v1) then
      some (([] : (List (Int × Blk))), ([] : (List Int)), v1)
    else
      lp (β := Unit) (fun (s25 : Int × Int) =>
        bif (cm .lss s25.2 (a0.length : Int)) then
          (Sw.idx a0 s25.2).bind fun z39 =>
            (bif (cm .leq z39.1 s25.1) then
              some true
            else
              bif (cm .geq z39.1 (a1.length : Int)) then
                some true
              else
                bif (cm .lss z39.2.1 (0 : Int)) then
                  some true
                else
                  some (cm .gtr z39.2.1 (3 : Int))).bind fun x43 =>
              bif x43 then
                some (.done (.ret (([] : (List (Int × Blk))), ([] : (List Int)), (some (1 : Int)))))
              else
                some (.next (z39.1, (ar .add .i64 s25.2 (1 : Int))))
        else
          some (.done (.brk ()))
        ) ((-1 : Int), (0 : Int)) fun (_ : Unit) =>
      lp (β := (List (Int × Blk)) × (List Int)) (fun (s88 : Int × (List (Int × Blk)) × (List Int)) =>
        bif (cm .lss s88.1 (a0.length : Int)) then
          (Sw.idx a0 s88.1).bind fun z111 =>
            bif (cm .eql z111.2.1 (1 : Int)) then
              (m_plan_one a1 z111.2.2.1).bind fun v113 =>
                bif v113.2 then
                  (Sw.app s88.2.1 ([(z111.1, v113.1)] : (List (Int × Blk)))).bind fun v115 =>
                    some (.next ((ar .add .i64 s88.1 (1 : Int)), v115, s88.2.2))
                else
                  (Sw.app s88.2.2 ([z111.1] : (List Int))).bind fun v116 =>
                    some (.next ((ar .add .i64 s88.1 (1 : Int)), s88.2.1, v116))
            else
              bif (cm .eql z111.2.1 (2 : Int)) then
                (m_plan_one a2 z111.2.2.1).bind fun v118 =>
                  bif v118.2 then
                    (Sw.app s88.2.1 ([(z111.1, v118.1)] : (List (Int × Blk)))).bind fun v120 =>
                      some (.next ((ar .add .i64 s88.1 (1 : Int)), v120, s88.2.2))
                  else
                    (Sw.app s88.2.2 ([z111.1] : (List Int))).bind fun v121 =>
                      some (.next ((ar .add .i64 s88.1 (1 : Int)), s88.2.1, v121))
              else
                bif (cm .eql z111.2.1 (3 : Int)) then
                  bif true then
                    (Sw.app s88.2.1 ([(z111.1, z111.2.2.2)] : (List (Int × Blk)))).bind fun v124 =>
                      some (.next ((ar .add .i64 s88.1 (1 : Int)), v124, s88.2.2))
                  else
                    (Sw.app s88.2.2 ([z111.1] : (List Int))).bind fun v125 =>
                      some (.next ((ar .add .i64 s88.1 (1 : Int)), s88.2.1, v125))
                else
                  bif true then
                    (Sw.app s88.2.1 ([(z111.1, zblk)] : (List (Int × Blk)))).bind fun v127 =>
                      some (.next ((ar .add .i64 s88.1 (1 : Int)), v127, s88.2.2))
                  else
                    (Sw.app s88.2.2 ([z111.1] : (List Int))).bind fun v128 =>
                      some (.next ((ar .add .i64 s88.1 (1 : Int)), s88.2.1, v128))
        else
          some (.done (.brk (s88.2.1, s88.2.2)))
        ) ((0 : Int), ([] : (List (Int × Blk))), ([] : (List Int))) fun (x109 : (List (Int × Blk)) × (List Int)) =>
      some (x109.1, x109.2, (none : Option Int))
/-- ref_OwnBlocks -/
def m_ref_OwnBlocks (a0 : (List Blk)) : Option ((List Blk)) :=
  (Sw.app ([] : (List Blk)) a0).bind fun v1 =>
    some v1
/-- ref_SameBlocks -/
def m_ref_SameBlocks (a0 : (List Blk)) (a1 : (List Blk)) : Option (Bool) :=
  bif (cm .neq (a0.length : Int) (a1.length : Int)) then
    some false
  else
    lp (β := Unit) (fun (s12 : Int) =>
      bif (cm .lss s12 (a0.length : Int)) then
        (Sw.idx a0 s12).bind fun z20 =>
          (Sw.idx a1 s12).bind fun z21 =>
            bif (!decide (z20 = z21)) then
              some (.done (.ret false))
            else
              some (.next (ar .add .i64 s12 (1 : Int)))
      else
        some (.done (.brk ()))
      ) (0 : Int) fun (_ : Unit) =>
    some true
/-- top_TopPlan -/
def m_top_TopPlan (a0 : (List Int)) (a1 : Int) (a2 : Int) (a3 : Int) : Option (Bool) :=
  bif (cm .gtr (a0.length : Int) (128 : Int)) then
    some true
  else
    (m_ref_Pick a1 (32 : Int)).bind fun v2 =>
      (m_ref_Pick a2 (100 : Int)).bind fun v3 =>
        (m_ref_BlocksFrom a0 v3 (ar .add .i64 (1 : Int) v2)).bind fun v4 =>
          (m_ref_PutsFrom a0 (ar .add .i64 v3 (3 : Int)) (ar .add .i64 (1 : Int) v2)).bind fun v5 =>
            lp (β := (List Blk)) (fun (s20 : Int × (List Blk)) =>
              (m_ref_Pick a3 (9 : Int)).bind fun v29 =>
                bif (cm .lss s20.1 v29) then
                  (m_ref_BlockFrom a0 (ar .add .i64 v3 s20.1)).bind fun v31 =>
                    (m_ref_First s20.2 v31).bind fun v32 =>
                      bif (cm .lss v32 (0 : Int)) then
                        (Sw.app s20.2 ([v31] : (List Blk))).bind fun v34 =>
                          some (.next ((ar .add .i64 s20.1 (1 : Int)), v34))
                      else
                        some (.next ((ar .add .i64 s20.1 (1 : Int)), s20.2))
                else
                  some (.done (.brk s20.2))
              ) ((0 : Int), ([] : (List Blk))) fun (x28 : (List Blk)) =>
            (m_plan_Packets v5 v4 x28).bind fun v35 =>
              (bif (Option.isSome v35.2) then
                some true
              else
                some (cm .gtr (v35.1.length : Int) (v5.length : Int))).bind fun x37 =>
                bif x37 then
                  some false
                else
                  (m_plan_Apply v35.1 v4 x28).bind fun v40 =>
                    (bif (Option.isSome v40.2.2) then
                      some true
                    else
                      bif (cm .gtr (v40.2.1.length : Int) (0 : Int)) then
                        some true
                      else
                        some (cm .neq (v40.1.length : Int) (v35.1.length : Int))).bind fun x43 =>
                      bif x43 then
                        some false
                      else
                        (m_ref_OwnBlocks v4).bind fun v47 =>
                          lp (β := (List Blk)) (fun (s74 : Int × (List Blk)) =>
                            bif (cm .lss s74.1 (v40.1.length : Int)) then
                              ((Sw.idx v40.1 s74.1).bind fun z94 =>
                                bif (cm .lss z94.1 (0 : Int)) then
                                  some true
                                else
                                  (Sw.idx v40.1 s74.1).bind fun z96 =>
                                    some (cm .geq z96.1 (ar .add .i64 (1 : Int) v2))).bind fun x93 =>
                                bif x93 then
                                  some (.done (.ret false))
                                else
                                  (Sw.idx v40.1 s74.1).bind fun z98 =>
                                    (Sw.idx v40.1 s74.1).bind fun z99 =>
                                      (Sw.idx s74.2 z98.1).bind fun _ =>
                                        some (.next ((ar .add .i64 s74.1 (1 : Int)), (List.set s74.2 (Int.toNat z98.1) z99.2)))
                            else
                              some (.done (.brk s74.2))
                            ) ((0 : Int), v47) fun (x88 : (List Blk)) =>
                          (m_ref_OwnBlocks v4).bind fun v101 =>
                            lp (β := (List Blk)) (fun (s112 : Int × (List Blk)) =>
                              bif (cm .lss s112.1 (v5.length : Int)) then
                                (Sw.idx v5 s112.1).bind fun z120 =>
                                  (Sw.idx v5 s112.1).bind fun z121 =>
                                    (Sw.idx s112.2 z120.1).bind fun _ =>
                                      some (.next ((ar .add .i64 s112.1 (1 : Int)), (List.set s112.2 (Int.toNat z120.1) z121.2)))
                              else
                                some (.done (.brk s112.2))
                              ) ((0 : Int), v101) fun (x118 : (List Blk)) =>
                            lp (β := Unit) (fun (s167 : Int) =>
                              bif (cm .lss s167 (v35.1.length : Int)) then
                                ((Sw.idx v35.1 s167).bind fun z202 =>
                                  bif (cm .eql z202.2.1 (3 : Int)) then
                                    (Sw.idx v35.1 s167).bind fun z204 =>
                                      bif (decide (z204.2.2.2 = zblk)) then
                                        some true
                                      else
                                        (Sw.idx v35.1 s167).bind fun z206 =>
                                          (m_ref_First v4 z206.2.2.2).bind fun v207 =>
                                            bif (cm .geq v207 (0 : Int)) then
                                              some true
                                            else
                                              (Sw.idx v35.1 s167).bind fun z209 =>
                                                (m_ref_First x28 z209.2.2.2).bind fun v210 =>
                                                  some (cm .geq v210 (0 : Int))
                                  else
                                    some false).bind fun x201 =>
                                  bif x201 then
                                    some (.done (.ret false))
                                  else
                                    some (.next (ar .add .i64 s167 (1 : Int)))
                              else
                                some (.done (.brk ()))
                              ) (0 : Int) fun (_ : Unit) =>
                            (m_ref_SameBlocks x88 x118).bind fun v212 =>
                              some v212
/-- cache_Touch -/
def m_cache_Touch (a0 : (List Blk)) (a1 : Blk) : Option ((List Blk) × (Option Int)) :=
  (m_cache_Check a0).bind fun v1 =>
    bif (Option.isSome v1) then
      some (([] : (List Blk)), v1)
    else
      lp (β := (List Blk)) (fun (s19 : Int × (List Blk)) =>
        bif (cm .lss s19.1 (a0.length : Int)) then
          (Sw.idx a0 s19.1).bind fun z30 =>
            (bif (!decide (z30 = a1)) then
              some (cm .lss (s19.2.length : Int) (8 : Int))
            else
              some false).bind fun x32 =>
              bif x32 then
                (Sw.app s19.2 ([z30] : (List Blk))).bind fun v35 =>
                  some (.next ((ar .add .i64 s19.1 (1 : Int)), v35))
              else
                some (.next ((ar .add .i64 s19.1 (1 : Int)), s19.2))
        else
          some (.done (.brk s19.2))
        ) ((0 : Int), ([a1] : (List Blk))) fun (x28 : (List Blk)) =>
      some (x28, (none : Option Int))
/-- plan_Had -/
def m_plan_Had (a0 : (List Blk)) (a1 : (List (Int × Int × Int × Blk))) : Option ((List Blk) × (Option Int)) :=
  (m_cache_Check a0).bind fun v1 =>
    bif (Option.isSome v1) then
      some (([] : (List Blk)), v1)
    else
      (m_slices_Clone_api_Block_api_Block a0).bind fun v3 =>
        lp (β := (List Blk)) (fun (s15 : (List Blk) × Int) =>
          bif (cm .lss s15.2 (a1.length : Int)) then
            (Sw.idx a1 s15.2).bind fun z23 =>
              bif (cm .eql z23.2.1 (3 : Int)) then
                (m_cache_Touch s15.1 z23.2.2.2).bind fun v25 =>
                  some (.next (v25.1, (ar .add .i64 s15.2 (1 : Int))))
              else
                some (.next (s15.1, (ar .add .i64 s15.2 (1 : Int))))
          else
            some (.done (.brk s15.1))
          ) (v3, (0 : Int)) fun (x21 : (List Blk)) =>
        some (x21, (none : Option Int))
/-- top_TopHad -/
def m_top_TopHad (a0 : (List Int)) (a1 : Int) (a2 : Int) (a3 : Int) : Option (Bool) :=
  bif (cm .gtr (a0.length : Int) (128 : Int)) then
    some true
  else
    (m_ref_Pick a1 (32 : Int)).bind fun v2 =>
      (m_ref_Pick a2 (100 : Int)).bind fun v3 =>
        (Sw.mk (ar .add .i64 (1 : Int) v2) zblk).bind fun v4 =>
          (Sw.mk (ar .add .i64 (1 : Int) v2) zblk).bind fun v5 =>
            lp (β := Unit) (fun (s208 : (List Blk) × (List Blk) × Int × (List Blk) × (List Blk)) =>
              (m_ref_Pick a3 (9 : Int)).bind fun v311 =>
                bif (cm .lss s208.2.2.1 v311) then
                  (m_ref_PutsFrom a0 (ar .add .i64 v3 (ar .mul .i64 (13 : Int) s208.2.2.1)) (ar .add .i64 (1 : Int) v2)).bind fun v313 =>
                    (m_plan_Packets v313 s208.2.2.2.1 s208.1).bind fun v314 =>
                      bif (Option.isSome v314.2) then
                        some (.done (.ret false))
                      else
                        lp (β := (List Blk)) (fun (s326 : Int × (List Blk)) =>
                          bif (cm .lss s326.1 (v313.length : Int)) then
                            (Sw.idx v313 s326.1).bind fun z334 =>
                              (Sw.idx v313 s326.1).bind fun z335 =>
                                (Sw.idx s326.2 z334.1).bind fun _ =>
                                  some (.next ((ar .add .i64 s326.1 (1 : Int)), (List.set s326.2 (Int.toNat z334.1) z335.2)))
                          else
                            some (.done (.brk s326.2))
                          ) ((0 : Int), s208.2.2.2.1) fun (x332 : (List Blk)) =>
                        (m_plan_Apply v314.1 s208.2.2.2.2 s208.2.1).bind fun v337 =>
                          (bif (Option.isSome v337.2.2) then
                            some true
                          else
                            some (cm .gtr (v337.2.1.length : Int) (0 : Int))).bind fun x339 =>
                            bif x339 then
                              some (.done (.ret false))
                            else
                              lp (β := (List Blk)) (fun (s368 : Int × (List Blk)) =>
                                bif (cm .lss s368.1 (v337.1.length : Int)) then
                                  ((Sw.idx v337.1 s368.1).bind fun z388 =>
                                    bif (cm .lss z388.1 (0 : Int)) then
                                      some true
                                    else
                                      (Sw.idx v337.1 s368.1).bind fun z390 =>
                                        some (cm .geq z390.1 (ar .add .i64 (1 : Int) v2))).bind fun x387 =>
                                    bif x387 then
                                      some (.done (.ret (.done (.ret false))))
                                    else
                                      (Sw.idx v337.1 s368.1).bind fun z392 =>
                                        (Sw.idx v337.1 s368.1).bind fun z393 =>
                                          (Sw.idx s368.2 z392.1).bind fun _ =>
                                            some (.next ((ar .add .i64 s368.1 (1 : Int)), (List.set s368.2 (Int.toNat z392.1) z393.2)))
                                else
                                  some (.done (.brk s368.2))
                                ) ((0 : Int), s208.2.2.2.2) fun (x382 : (List Blk)) =>
                              (m_plan_Had s208.1 v314.1).bind fun v396 =>
                                (m_plan_Had s208.2.1 v314.1).bind fun v397 =>
                                  (bif (Option.isSome v396.2) then
                                    some true
                                  else
                                    bif (Option.isSome v397.2) then
                                      some true
                                    else
                                      (m_ref_SameBlocks v396.1 v397.1).bind fun v406 =>
                                        bif (!v406) then
                                          some true
                                        else
                                          (m_ref_SameBlocks x332 x382).bind fun v408 =>
                                            some (!v408)).bind fun x403 =>
                                    bif x403 then
                                      some (.done (.ret false))
                                    else
                                      some (.next (v396.1, v397.1, (ar .add .i64 s208.2.2.1 (1 : Int)), x332, x382))
                else
                  some (.done (.brk ()))
              ) (([] : (List Blk)), ([] : (List Blk)), (0 : Int), v4, v5) fun (_ : Unit) =>
            some true
end Go.Mo
