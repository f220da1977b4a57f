/- What the functions that this law reaches come to, as plain functions. Conditions: none. -/
import Derived.Test.YteckohdbfkhmdabSwC
set_option linter.unusedVariables false
set_option linter.unusedSimpArgs false
namespace Go.Mo
open Go Go.Sw
abbrev Blk := List Int
abbrev eBlk : Enc Blk := Enc.arr 8 (Enc.int .u8)
def zblk : Blk := List.replicate 8 0
/-- slices_Index_api_Block_api_Block -/
def m_slices_Index_api_Block_api_Block (a0 : (List Blk)) (a1 : Blk) : Option (Int) :=
  lp (β := Unit) (fun (s9 : Int) =>
    bif (cm .lss s9 (a0.length : Int)) then
      (Sw.idx a0 s9).bind fun z16 =>
        bif (decide (a1 = z16)) then
          some (.done (.ret s9))
        else
          some (.next (ar .add .i64 s9 (1 : Int)))
    else
      some (.done (.brk ()))
    ) (0 : Int) fun (_ : Unit) =>
  some (-1 : Int)
/-- cache_Find -/
def m_cache_Find (a0 : (List Blk)) (a1 : Blk) : Option (Int × Bool) :=
  (m_slices_Index_api_Block_api_Block a0 a1).bind fun v1 =>
    some ((max v1 (0 : Int)), (cm .geq v1 (0 : Int)))
/-- ref_First -/
def m_ref_First (a0 : (List Blk)) (a1 : Blk) : Option (Int) :=
  lp (β := Unit) (fun (s9 : Int) =>
    bif (cm .lss s9 (a0.length : Int)) then
      (Sw.idx a0 s9).bind fun z16 =>
        bif (decide (z16 = a1)) then
          some (.done (.ret s9))
        else
          some (.next (ar .add .i64 s9 (1 : Int)))
    else
      some (.done (.brk ()))
    ) (0 : Int) fun (_ : Unit) =>
  some (-1 : Int)
/-- slices_Clone_api_Block_api_Block -/
def m_slices_Clone_api_Block_api_Block_nil (a0 : (Bool × (List Blk))) : Option ((List Blk)) :=
  bif a0.1 then
    some ([] : (List Blk))
  else
    (Sw.app ([] : (List Blk)) a0.2).bind fun v2 =>
      some v2
/-- slices_Clone_api_Block_api_Block -/
def m_slices_Clone_api_Block_api_Block (a0 : (List Blk)) : Option (List Blk) := Sw.app [] a0
/-- cache_New -/
def m_cache_New (a0 : (List Blk)) : Option ((Option ((List Blk) × (List (Blk × (List Int))))) × (Option Int)) :=
  (bif (cm .lss (a0.length : Int) (1 : Int)) then
    some true
  else
    some (cm .gtr (a0.length : Int) (32 : Int))).bind fun x2 =>
    bif x2 then
      some ((none : (Option ((List Blk) × (List (Blk × (List Int)))))), (some (1 : Int)))
    else
      (m_slices_Clone_api_Block_api_Block a0).bind fun v5 =>
        lp (β := (List (Blk × (List Int)))) (fun (s20 : Int × (List (Blk × (List Int)))) =>
          bif (cm .lss s20.1 (a0.length : Int)) then
            (Sw.idx a0 s20.1).bind fun z30 =>
              (ment s20.2 z30).bind fun v33 =>
                (Sw.app v33.2.2 ([s20.1] : (List Int))).bind fun v34 =>
                  some (.next ((ar .add .i64 s20.1 (1 : Int)), mset v33.1 v33.2.1 v34))
          else
            some (.done (.brk s20.2))
          ) ((0 : Int), ([] : List (Blk × (List Int)))) fun (x28 : (List (Blk × (List Int)))) =>
        some ((some (v5, x28)), (none : Option Int))
/-- ref_OwnBlocks -/
def m_ref_OwnBlocks (a0 : (List Blk)) : Option ((List Blk)) :=
  (Sw.app ([] : (List Blk)) a0).bind fun v1 =>
    some v1
/-- cache_Index_Find -/
def m_cache_Index_Find_io (a0_0 : (List Blk)) (a0_1 : (List (Blk × (List Int)))) (a1 : Blk) : Option (Int × Bool × (List Blk) × (List (Blk × (List Int)))) :=
  bif (cm .eql (((mget a0_1 a1).getD []).length : Int) (0 : Int)) then
    some ((0 : Int), false, a0_0, mshut a0_1 (kp (a0_1.map (·.1)) a1) ((mget a0_1 a1).getD []))
  else
    (Sw.idx ((mget a0_1 a1).getD []) (0 : Int)).bind fun z2 =>
      some (z2, true, a0_0, mshut a0_1 (kp (a0_1.map (·.1)) a1) ((mget a0_1 a1).getD []))
/-- cache_Index_Put_1 -/
def m_cache_Index_Put_1 (a0 : Int) (a1 : Int) : Option (Bool) :=
  some (cm .eql a0 a1)
/-- slices_IndexFunc_int_int -/
def m_slices_IndexFunc_int_int__cache_Index_Put_1 (a0 : (List Int)) (a1_0 : Int) : Option (Int) :=
  lp (β := Unit) (fun (s11 : Int) =>
    bif (cm .lss s11 (a0.length : Int)) then
      (Sw.idx a0 s11).bind fun z19 =>
        (m_cache_Index_Put_1 z19 a1_0).bind fun v20 =>
          bif v20 then
            some (.done (.ret s11))
          else
            some (.next (ar .add .i64 s11 (1 : Int)))
    else
      some (.done (.brk ()))
    ) (0 : Int) fun (_ : Unit) =>
  some (-1 : Int)
/-- slices_DeleteFunc_int_int -/
def m_slices_DeleteFunc_int_int__cache_Index_Put_1_io (a0 : (List Int)) (a1_0 : Int) : Option ((List Int)) :=
  (m_slices_IndexFunc_int_int__cache_Index_Put_1 a0 a1_0).bind fun v1 =>
    bif (cm .eql v1 (-1 : Int)) then
      some a0
    else
      lp (β := Int × (List Int)) (fun (s15 : Int × Int × (List Int)) =>
        bif (cm .lss s15.2.1 (s15.2.2.length : Int)) then
          (Sw.idx s15.2.2 s15.2.1).bind fun z24 =>
            (m_cache_Index_Put_1 z24 a1_0).bind fun v25 =>
              bif (!v25) then
                (Sw.idx s15.2.2 s15.1).bind fun _ =>
                  some (.next ((ar .add .i64 s15.1 (1 : Int)), (ar .add .i64 s15.2.1 (1 : Int)), (List.set s15.2.2 (Int.toNat s15.1) z24)))
              else
                some (.next (s15.1, (ar .add .i64 s15.2.1 (1 : Int)), s15.2.2))
        else
          some (.done (.brk (s15.1, s15.2.2)))
        ) (v1, (ar .add .i64 v1 (1 : Int)), a0) fun (x22 : Int × (List Int)) =>
      (Sw.sub x22.2 x22.1 (x22.2.length : Int)).bind fun _ =>
        (Sw.sub (List.take (Int.toNat x22.1) x22.2 ++ List.replicate (x22.2.length - Int.toNat x22.1) (0 : Int)) (0 : Int) x22.1).bind fun v29 =>
          some v29
/-- cmp_isNaN_int -/
def m_cmp_isNaN_int (a0 : Int) : Option (Bool) :=
  some (cm .neq a0 a0)
/-- cmp_Less_int -/
def m_cmp_Less_int (a0 : Int) (a1 : Int) : Option (Bool) :=
  ((m_cmp_isNaN_int a0).bind fun v6 =>
    bif v6 then
      (m_cmp_isNaN_int a1).bind fun v8 =>
        bif (!v8) then
          some true
        else
          some (cm .lss a0 a1)
    else
      some (cm .lss a0 a1)).bind fun x5 =>
    some x5
/-- slices_isNaN_int -/
def m_slices_isNaN_int (a0 : Int) : Option (Bool) :=
  some (cm .neq a0 a0)
/-- slices_BinarySearch_int_int -/
def m_slices_BinarySearch_int_int (a0 : (List Int)) (a1 : Int) : Option (Int × Bool) :=
  lp (β := Int) (fun (s11 : Int × Int) =>
    bif (cm .lss s11.1 s11.2) then
      (Sw.idx a0 (IntKind.wrap .i64 (sh .shr .u64 (IntKind.wrap .u64 (ar .add .i64 s11.1 s11.2)) (1 : Int)))).bind fun z19 =>
        (m_cmp_Less_int z19 a1).bind fun v20 =>
          bif v20 then
            some (.next ((ar .add .i64 (IntKind.wrap .i64 (sh .shr .u64 (IntKind.wrap .u64 (ar .add .i64 s11.1 s11.2)) (1 : Int))) (1 : Int)), s11.2))
          else
            some (.next (s11.1, (IntKind.wrap .i64 (sh .shr .u64 (IntKind.wrap .u64 (ar .add .i64 s11.1 s11.2)) (1 : Int)))))
    else
      some (.done (.brk s11.1))
    ) ((0 : Int), (a0.length : Int)) fun (x17 : Int) =>
  (bif (cm .lss x17 (a0.length : Int)) then
    (Sw.idx a0 x17).bind fun z31 =>
      bif (cm .eql z31 a1) then
        some true
      else
        (Sw.idx a0 x17).bind fun z33 =>
          (m_slices_isNaN_int z33).bind fun v34 =>
            bif v34 then
              (m_slices_isNaN_int a1).bind fun v36 =>
                some v36
            else
              some false
  else
    some false).bind fun x29 =>
    some (x17, x29)
/-- slices_Insert_int_int -/
def m_slices_Insert_int_int (a0 : (List Int)) (a1 : Int) (a2 : (List Int)) : Option ((List Int)) := Sw.ins a0 a1 a2
/-- cache_Index_Put -/
def m_cache_Index_Put_io (a0_0 : (List Blk)) (a0_1 : (List (Blk × (List Int)))) (a1 : Int) (a2 : Blk) : Option ((Option Int) × (List Blk) × (List (Blk × (List Int)))) :=
  (bif (cm .lss a1 (0 : Int)) then
    some true
  else
    some (cm .geq a1 (a0_0.length : Int))).bind fun x2 =>
    bif x2 then
      some ((some (1 : Int)), a0_0, a0_1)
    else
      (Sw.idx a0_0 a1).bind fun z5 =>
        (m_slices_DeleteFunc_int_int__cache_Index_Put_1_io ((mget a0_1 z5).getD []) a1).bind fun v7 =>
          jp (fun (x10 : (List (Blk × (List Int)))) =>
            (m_slices_BinarySearch_int_int ((mget x10 a2).getD []) a1).bind fun v12 =>
              (m_slices_Insert_int_int ((mget (mshut x10 (kp (x10.map (·.1)) a2) ((mget x10 a2).getD [])) a2).getD []) v12.1 ([a1] : (List Int))).bind fun v14 =>
                (Sw.idx a0_0 a1).bind fun _ =>
                  some ((none : Option Int), (List.set a0_0 (Int.toNat a1) a2), mputS (mshut x10 (kp (x10.map (·.1)) a2) ((mget x10 a2).getD [])) a2 v14)
            ) fun k9 =>
          bif (cm .eql (((mget (mputS a0_1 z5 v7) z5).getD []).length : Int) (0 : Int)) then
            k9 (mdel (mshut (mputS a0_1 z5 v7) (kp ((mputS a0_1 z5 v7).map (·.1)) z5) ((mget (mputS a0_1 z5 v7) z5).getD [])) z5)
          else
            k9 (mshut (mputS a0_1 z5 v7) (kp ((mputS a0_1 z5 v7).map (·.1)) z5) ((mget (mputS a0_1 z5 v7) z5).getD []))
/-- law_CacheSays -/
def m_law_CacheSays (a0 : (List Blk)) (a1 : (List (Int × Blk))) (a2 : Blk) : Option (Bool) :=
  (bif (cm .gtr (a0.length : Int) (100 : Int)) then
    some true
  else
    some (cm .gtr (a1.length : Int) (200 : Int))).bind fun x2 =>
    bif x2 then
      some true
    else
      (m_cache_Find a0 a2).bind fun v5 =>
        (m_ref_First a0 a2).bind fun v6 =>
          (bif (!(v5.2 == (cm .geq v6 (0 : Int)))) then
            some true
          else
            bif v5.2 then
              bif (cm .neq v5.1 v6) then
                some true
              else
                bif (!v5.2) then
                  some (cm .neq v5.1 (0 : Int))
                else
                  some false
            else
              bif (!v5.2) then
                some (cm .neq v5.1 (0 : Int))
              else
                some false).bind fun x12 =>
            bif x12 then
              some false
            else
              (m_cache_New a0).bind fun v19 =>
                ocase v19.1 (
                  (bif (cm .lss (a0.length : Int) (1 : Int)) then
                    some true
                  else
                    some (cm .gtr (a0.length : Int) (32 : Int))).bind fun x22 =>
                    bif x22 then
                      (bif (v19.2 == (some (1 : Int))) then
                        some true
                      else
                        some false).bind fun x26 =>
                        some x26
                    else
                      (bif (Option.isSome v19.2) then
                        some ()
                      else
                        some ()).bind fun _ =>
                        some false
                  ) fun z20 =>
                  (bif (cm .lss (a0.length : Int) (1 : Int)) then
                    some true
                  else
                    some (cm .gtr (a0.length : Int) (32 : Int))).bind fun x33 =>
                    bif x33 then
                      (bif (v19.2 == (some (1 : Int))) then
                        some ()
                      else
                        some ()).bind fun _ =>
                        some false
                    else
                      (bif (Option.isSome v19.2) then
                        some true
                      else
                        some false).bind fun x40 =>
                        bif x40 then
                          some false
                        else
                          (m_ref_OwnBlocks a0).bind fun v43 =>
                            lp (β := Unit) (fun (s436 : Int × (List Blk) × (List Blk) × (List (Blk × (List Int)))) =>
                              bif (cm .leq s436.1 (a1.length : Int)) then
                                jp (fun (x732 : (List Blk) × (List Blk) × (List (Blk × (List Int)))) =>
                                  some (.next ((ar .add .i64 s436.1 (1 : Int)), x732.1, x732.2.1, x732.2.2))
                                  ) fun k731 =>
                                lp (β := (List Blk) × (List (Blk × (List Int)))) (fun (s775 : Int × (List Blk) × (List (Blk × (List Int)))) =>
                                  bif (cm .leq s775.1 (s436.2.1.length : Int)) then
                                    jp (fun (x802 : Blk) =>
                                      (m_cache_Index_Find_io s775.2.1 s775.2.2 x802).bind fun v804 =>
                                        (m_ref_First s436.2.1 x802).bind fun v805 =>
                                          (bif (!(v804.2.1 == (cm .geq v805 (0 : Int)))) then
                                            some true
                                          else
                                            bif v804.2.1 then
                                              bif (cm .neq v804.1 v805) then
                                                some true
                                              else
                                                bif (!v804.2.1) then
                                                  some (cm .neq v804.1 (0 : Int))
                                                else
                                                  some false
                                            else
                                              bif (!v804.2.1) then
                                                some (cm .neq v804.1 (0 : Int))
                                              else
                                                some false).bind fun x811 =>
                                            bif x811 then
                                              some (.done (.ret (.done (.ret false))))
                                            else
                                              some (.next ((ar .add .i64 s775.1 (1 : Int)), v804.2.2.1, v804.2.2.2))
                                      ) fun k801 =>
                                    bif (cm .lss s775.1 (s436.2.1.length : Int)) then
                                      (Sw.idx s436.2.1 s775.1).bind fun z803 =>
                                        k801 z803
                                    else
                                      k801 a2
                                  else
                                    some (.done (.brk (s775.2.1, s775.2.2)))
                                  ) ((0 : Int), s436.2.2.1, s436.2.2.2) fun (x797 : (List Blk) × (List (Blk × (List Int)))) =>
                                bif (cm .eql s436.1 (a1.length : Int)) then
                                  some (.done (.ret true))
                                else
                                  (Sw.idx a1 s436.1).bind fun z819 =>
                                    (m_cache_Index_Put_io x797.1 x797.2 z819.1 z819.2).bind fun v820 =>
                                      (bif (cm .lss z819.1 (0 : Int)) then
                                        some true
                                      else
                                        some (cm .geq z819.1 (s436.2.1.length : Int))).bind fun x822 =>
                                        bif x822 then
                                          bif (!(v820.1 == (some (1 : Int)))) then
                                            some (.done (.ret false))
                                          else
                                            k731 (s436.2.1, v820.2.1, v820.2.2)
                                        else
                                          bif (Option.isSome v820.1) then
                                            some (.done (.ret false))
                                          else
                                            (Sw.idx s436.2.1 z819.1).bind fun _ =>
                                              k731 ((List.set s436.2.1 (Int.toNat z819.1) z819.2), v820.2.1, v820.2.2)
                              else
                                some (.done (.brk ()))
                              ) ((0 : Int), v43, z20.1, z20.2) fun (_ : Unit) =>
                            some true
end Go.Mo
