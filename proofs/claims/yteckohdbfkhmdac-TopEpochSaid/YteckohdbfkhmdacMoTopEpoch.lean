/- What the functions that this law reaches come to, as plain functions. Conditions: none. -/
import Derived.Test.YteckohdbfkhmdacSwB
set_option linter.unusedVariables false
set_option linter.unusedSimpArgs false
namespace Go.Mo
open Go Go.Sw
abbrev Blk := List Int
abbrev eBlk : Enc Blk := Enc.arr 8 (Enc.int .u8)
def zblk : Blk := List.replicate 8 0
/-- ref_Pick -/
def m_ref_Pick (a0 : Int) (a1 : Int) : Option (Int) :=
  jp (fun (x3 : Int) =>
    (nz a1).bind fun _ =>
      some (ar .rem .i64 x3 a1)
    ) fun k2 =>
  bif (cm .lss a0 (0 : Int)) then
    k2 (IntKind.wrap .i64 (0 - (ar .add .i64 a0 (1 : Int))))
  else
    k2 a0
/-- ref_OwnBlocks -/
def m_ref_OwnBlocks (a0 : (List Blk)) : Option ((List Blk)) :=
  (Sw.app ([] : (List Blk)) a0).bind fun v1 =>
    some v1
/-- ref_Raw -/
def m_ref_Raw (a0 : (List Int)) (a1 : Int) : Option (Int) :=
  bif (cm .eql (a0.length : Int) (0 : Int)) then
    some (ar .mul .i64 a1 (31 : Int))
  else
    (nz (a0.length : Int)).bind fun _ =>
      (Sw.idx a0 (ar .rem .i64 a1 (a0.length : Int))).bind fun z3 =>
        (m_ref_Pick z3 (1000003 : Int)).bind fun v4 =>
          (nz (a0.length : Int)).bind fun _ =>
            some (ar .add .i64 v4 (ar .mul .i64 (ar .quo .i64 a1 (a0.length : Int)) (7919 : Int)))
/-- ref_BlockFrom -/
def m_ref_BlockFrom (a0 : (List Int)) (a1 : Int) : Option (Blk) :=
  (m_ref_Raw a0 a1).bind fun v1 =>
    bif (cm .eql (ar .rem .i64 v1 (3 : Int)) (0 : Int)) then
      some zblk
    else
      (Sw.idx zblk (0 : Int)).bind fun _ =>
        jp (fun (x23 : Blk) =>
          some x23
          ) fun k22 =>
        bif (cm .eql (ar .rem .i64 v1 (3 : Int)) (2 : Int)) then
          lp (β := Blk) (fun (s32 : Int × Blk) =>
            bif (cm .lss s32.1 (8 : Int)) then
              (m_ref_Raw a0 (ar .add .i64 a1 s32.1)).bind fun v39 =>
                (Sw.idx s32.2 s32.1).bind fun _ =>
                  some (.next ((ar .add .i64 s32.1 (1 : Int)), (List.set s32.2 (Int.toNat s32.1) (IntKind.wrap .u8 (ar .quo .i64 v39 (7 : Int))))))
            else
              some (.done (.brk s32.2))
            ) ((1 : Int), (List.set zblk (Int.toNat (0 : Int)) (IntKind.wrap .u8 (ar .add .i64 (1 : Int) (ar .rem .i64 (ar .quo .i64 v1 (3 : Int)) (5 : Int)))))) fun (x37 : Blk) =>
          k22 x37
        else
          k22 (List.set zblk (Int.toNat (0 : Int)) (IntKind.wrap .u8 (ar .add .i64 (1 : Int) (ar .rem .i64 (ar .quo .i64 v1 (3 : Int)) (5 : Int)))))
/-- epoch_rising -/
def m_epoch_rising (a0 : (List (Int × Blk))) (a1 : Int) : Option (Bool) :=
  lp (β := Unit) (fun (s15 : Int × Int) =>
    bif (cm .lss s15.2 (a0.length : Int)) then
      (Sw.idx a0 s15.2).bind fun z25 =>
        (bif (cm .leq z25.1 s15.1) then
          some true
        else
          some (cm .geq z25.1 a1)).bind fun x27 =>
          bif x27 then
            some (.done (.ret false))
          else
            some (.next (z25.1, (ar .add .i64 s15.2 (1 : Int))))
    else
      some (.done (.brk ()))
    ) ((-1 : Int), (0 : Int)) fun (_ : Unit) =>
  some true
/-- epoch_Check -/
def m_epoch_Check (a0 : (Int × (List (Int × Blk)) × (List (Int × (List (Int × Blk)))) × Bool)) (a1 : Int) : Option ((Option Int)) :=
  (bif (cm .lss a1 (1 : Int)) then
    some true
  else
    bif (cm .gtr a1 (32 : Int)) then
      some true
    else
      bif (cm .lss a0.1 (0 : Int)) then
        some true
      else
        some (cm .gtr a0.1 (2147483647 : Int))).bind fun x4 =>
    bif x4 then
      some (some (1 : Int))
    else
      bif (cm .gtr (a0.2.2.1.length : Int) (4 : Int)) then
        some (some (2 : Int))
      else
        ((m_epoch_rising a0.2.1 a1).bind fun v14 =>
          bif (!v14) then
            some true
          else
            bif a0.2.2.2 then
              some (cm .gtr (a0.2.2.1.length : Int) (0 : Int))
            else
              some false).bind fun x13 =>
          bif x13 then
            some (some (3 : Int))
          else
            lp (β := Unit) (fun (s40 : Int) =>
              bif (cm .lss s40 (a0.2.2.1.length : Int)) then
                (Sw.idx a0.2.2.1 s40).bind fun z54 =>
                  ((m_epoch_rising z54.2 a1).bind fun v59 =>
                    bif (!v59) then
                      some true
                    else
                      bif (cm .neq z54.1 (ar .add .i64 (ar .add .i64 (ar .sub .i64 a0.1 (a0.2.2.1.length : Int)) (1 : Int)) s40)) then
                        some true
                      else
                        some (cm .lss z54.1 (1 : Int))).bind fun x58 =>
                    bif x58 then
                      some (.done (.ret (some (3 : Int))))
                    else
                      some (.next (ar .add .i64 s40 (1 : Int)))
              else
                some (.done (.brk ()))
              ) (0 : Int) fun (_ : Unit) =>
            some (none : Option Int)
/-- slices_Clone_api_Put_api_Put -/
def m_slices_Clone_api_Put_api_Put_nil (a0 : (Bool × (List (Int × Blk)))) : Option ((List (Int × Blk))) :=
  bif a0.1 then
    some ([] : (List (Int × Blk)))
  else
    (Sw.app ([] : (List (Int × Blk))) a0.2).bind fun v2 =>
      some v2
/-- slices_Clone_api_Put_api_Put -/
def m_slices_Clone_api_Put_api_Put (a0 : (List (Int × Blk))) : Option (List (Int × Blk)) := Sw.app [] a0
/-- slices_Clone_epoch_Epoch_epoch_Epoch -/
def m_slices_Clone_epoch_Epoch_epoch_Epoch_nil (a0 : (Bool × (List (Int × (List (Int × Blk)))))) : Option ((List (Int × (List (Int × Blk))))) :=
  bif a0.1 then
    some ([] : (List (Int × (List (Int × Blk)))))
  else
    (Sw.app ([] : (List (Int × (List (Int × Blk))))) a0.2).bind fun v2 =>
      some v2
/-- slices_Clone_epoch_Epoch_epoch_Epoch -/
def m_slices_Clone_epoch_Epoch_epoch_Epoch (a0 : (List (Int × (List (Int × Blk))))) : Option (List (Int × (List (Int × Blk)))) := Sw.app [] a0
/-- epoch_clone -/
def m_epoch_clone (a0 : (Int × (List (Int × Blk)) × (List (Int × (List (Int × Blk)))) × Bool)) : Option ((Int × (List (Int × Blk)) × (List (Int × (List (Int × Blk)))) × Bool)) :=
  (m_slices_Clone_api_Put_api_Put a0.2.1).bind fun v1 =>
    (m_slices_Clone_epoch_Epoch_epoch_Epoch a0.2.2.1).bind fun v2 =>
      lp (β := (List (Int × (List (Int × Blk))))) (fun (s17 : Int × (List (Int × (List (Int × Blk))))) =>
        bif (cm .lss s17.1 (v2.length : Int)) then
          (Sw.idx s17.2 s17.1).bind fun z25 =>
            (m_slices_Clone_api_Put_api_Put z25.2).bind fun v26 =>
              (Sw.idx s17.2 s17.1).bind fun z27 =>
                some (.next ((ar .add .i64 s17.1 (1 : Int)), (List.set s17.2 (Int.toNat s17.1) (z27.1, v26))))
        else
          some (.done (.brk s17.2))
        ) ((0 : Int), v2) fun (x23 : (List (Int × (List (Int × Blk))))) =>
      some (a0.1, v1, x23, a0.2.2.2)
/-- epoch_Add_1 -/
def m_epoch_Add_1 (a0 : (Int × Blk)) (a1 : Int) : Option (Int) :=
  some (ar .sub .i64 a0.1 a1)
/-- slices_BinarySearchFunc_api_Put_api_Put_int -/
def m_slices_BinarySearchFunc_api_Put_api_Put_int__epoch_Add_1 (a0 : (List (Int × Blk))) (a1 : Int) : Option (Int × Bool) :=
  lp (β := Int) (fun (s11 : Int × Int) =>
    bif (cm .lss s11.1 s11.2) then
      (Sw.idx a0 (IntKind.wrap .i64 (sh .shr .u64 (IntKind.wrap .u64 (ar .add .i64 s11.1 s11.2)) (1 : Int)))).bind fun z19 =>
        (m_epoch_Add_1 z19 a1).bind fun v20 =>
          bif (cm .lss v20 (0 : Int)) then
            some (.next ((ar .add .i64 (IntKind.wrap .i64 (sh .shr .u64 (IntKind.wrap .u64 (ar .add .i64 s11.1 s11.2)) (1 : Int))) (1 : Int)), s11.2))
          else
            some (.next (s11.1, (IntKind.wrap .i64 (sh .shr .u64 (IntKind.wrap .u64 (ar .add .i64 s11.1 s11.2)) (1 : Int)))))
    else
      some (.done (.brk s11.1))
    ) ((0 : Int), (a0.length : Int)) fun (x17 : Int) =>
  (bif (cm .lss x17 (a0.length : Int)) then
    (Sw.idx a0 x17).bind fun z27 =>
      (m_epoch_Add_1 z27 a1).bind fun v28 =>
        some (cm .eql v28 (0 : Int))
  else
    some false).bind fun x25 =>
    some (x17, x25)
/-- slices_Insert_api_Put_api_Put -/
def m_slices_Insert_api_Put_api_Put (a0 : (List (Int × Blk))) (a1 : Int) (a2 : (List (Int × Blk))) : Option ((List (Int × Blk))) := Sw.ins a0 a1 a2
/-- epoch_Add -/
def m_epoch_Add (a0 : (Int × (List (Int × Blk)) × (List (Int × (List (Int × Blk)))) × Bool)) (a1 : Int) (a2 : (Int × Blk)) : Option ((Int × (List (Int × Blk)) × (List (Int × (List (Int × Blk)))) × Bool) × (Option Int)) :=
  (m_epoch_Check a0 a1).bind fun v1 =>
    bif (Option.isSome v1) then
      some (((0 : Int), ([] : (List (Int × Blk))), ([] : (List (Int × (List (Int × Blk))))), false), v1)
    else
      (bif (cm .lss a2.1 (0 : Int)) then
        some true
      else
        some (cm .geq a2.1 a1)).bind fun x4 =>
        bif x4 then
          some (((0 : Int), ([] : (List (Int × Blk))), ([] : (List (Int × (List (Int × Blk))))), false), (some (1 : Int)))
        else
          (m_epoch_clone a0).bind fun v7 =>
            (m_slices_BinarySearchFunc_api_Put_api_Put_int__epoch_Add_1 v7.2.1 a2.1).bind fun v8 =>
              jp (fun (x13 : (List (Int × Blk))) =>
                some ((v7.1, x13, v7.2.2.1, v7.2.2.2), (none : Option Int))
                ) fun k12 =>
              bif v8.2 then
                (Sw.idx v7.2.1 v8.1).bind fun _ =>
                  k12 (List.set v7.2.1 (Int.toNat v8.1) a2)
              else
                (m_slices_Insert_api_Put_api_Put v7.2.1 v8.1 ([a2] : (List (Int × Blk)))).bind fun v15 =>
                  k12 v15
/-- epoch_Seal -/
def m_epoch_Seal (a0 : (Int × (List (Int × Blk)) × (List (Int × (List (Int × Blk)))) × Bool)) (a1 : Int) : Option ((Int × (List (Int × Blk)) × (List (Int × (List (Int × Blk)))) × Bool) × (Option Int)) :=
  (m_epoch_Check a0 a1).bind fun v1 =>
    bif (Option.isSome v1) then
      some (((0 : Int), ([] : (List (Int × Blk))), ([] : (List (Int × (List (Int × Blk))))), false), v1)
    else
      bif (cm .eql a0.1 (2147483647 : Int)) then
        some (((0 : Int), ([] : (List (Int × Blk))), ([] : (List (Int × (List (Int × Blk))))), false), (some (2 : Int)))
      else
        (m_epoch_clone a0).bind fun v4 =>
          bif v4.2.2.2 then
            some (((ar .add .i64 v4.1 (1 : Int)), ([] : (List (Int × Blk))), v4.2.2.1, v4.2.2.2), (none : Option Int))
          else
            bif (cm .eql (v4.2.2.1.length : Int) (4 : Int)) then
              some (((ar .add .i64 v4.1 (1 : Int)), ([] : (List (Int × Blk))), ([] : (List (Int × (List (Int × Blk))))), true), (none : Option Int))
            else
              (Sw.app v4.2.2.1 ([((ar .add .i64 v4.1 (1 : Int)), v4.2.1)] : (List (Int × (List (Int × Blk)))))).bind fun v7 =>
                some (((ar .add .i64 v4.1 (1 : Int)), ([] : (List (Int × Blk))), v7, v4.2.2.2), (none : Option Int))
/-- epoch_Since -/
def m_epoch_Since (a0 : (Int × (List (Int × Blk)) × (List (Int × (List (Int × Blk)))) × Bool)) (a1 : Int) (a2 : Int) : Option ((Int × (List (Int × Blk))) × Bool × (Option Int)) :=
  (m_epoch_Check a0 a1).bind fun v1 =>
    bif (Option.isSome v1) then
      some (((0 : Int), ([] : (List (Int × Blk)))), false, v1)
    else
      (bif (cm .lss a2 (0 : Int)) then
        some true
      else
        some (cm .gtr a2 a0.1)).bind fun x4 =>
        bif x4 then
          some (((0 : Int), ([] : (List (Int × Blk)))), false, (some (1 : Int)))
        else
          bif (cm .gtr (ar .sub .i64 a0.1 a2) (a0.2.2.1.length : Int)) then
            some (((0 : Int), ([] : (List (Int × Blk)))), false, (none : Option Int))
          else
            lp (β := (List (Option (Int × Blk)))) (fun (s67 : Int × (List (Option (Int × Blk)))) =>
              bif (cm .lss s67.1 (a0.2.2.1.length : Int)) then
                (Sw.idx a0.2.2.1 s67.1).bind fun z98 =>
                  lp (β := (List (Option (Int × Blk)))) (fun (s111 : Int × (List (Option (Int × Blk)))) =>
                    bif (cm .lss s111.1 (z98.2.length : Int)) then
                      bif (cm .gtr z98.1 a2) then
                        (Sw.idx z98.2 s111.1).bind fun z121 =>
                          (Sw.idx z98.2 s111.1).bind fun z122 =>
                            (Sw.idx s111.2 z121.1).bind fun _ =>
                              some (.next ((ar .add .i64 s111.1 (1 : Int)), (List.set s111.2 (Int.toNat z121.1) (some z122))))
                      else
                        some (.next ((ar .add .i64 s111.1 (1 : Int)), s111.2))
                    else
                      some (.done (.brk s111.2))
                    ) ((0 : Int), s67.2) fun (x118 : (List (Option (Int × Blk)))) =>
                  some (.next ((ar .add .i64 s67.1 (1 : Int)), x118))
              else
                some (.done (.brk s67.2))
              ) ((0 : Int), (List.replicate 32 (none : (Option (Int × Blk))))) fun (x96 : (List (Option (Int × Blk)))) =>
            lp (β := (List (Int × Blk))) (fun (s136 : Int × (List (Int × Blk))) =>
              bif (cm .lss s136.1 (32 : Int)) then
                (Sw.idx x96 s136.1).bind fun z145 =>
                  bif (Option.isSome z145) then
                    (z145).bind fun z147 =>
                      (Sw.app s136.2 ([z147] : (List (Int × Blk)))).bind fun v148 =>
                        some (.next ((ar .add .i64 s136.1 (1 : Int)), v148))
                  else
                    some (.next ((ar .add .i64 s136.1 (1 : Int)), s136.2))
              else
                some (.done (.brk s136.2))
              ) ((0 : Int), ([] : (List (Int × Blk)))) fun (x143 : (List (Int × Blk))) =>
            some ((a0.1, x143), true, (none : Option Int))
/-- ref_SameBlocks -/
def m_ref_SameBlocks (a0 : (List Blk)) (a1 : (List Blk)) : Option (Bool) :=
  bif (cm .neq (a0.length : Int) (a1.length : Int)) then
    some false
  else
    lp (β := Unit) (fun (s12 : Int) =>
      bif (cm .lss s12 (a0.length : Int)) then
        (Sw.idx a0 s12).bind fun z20 =>
          (Sw.idx a1 s12).bind fun z21 =>
            bif (!decide (z20 = z21)) then
              some (.done (.ret false))
            else
              some (.next (ar .add .i64 s12 (1 : Int)))
      else
        some (.done (.brk ()))
      ) (0 : Int) fun (_ : Unit) =>
    some true
/-- top_TopEpoch -/
def m_top_TopEpoch (a0 : (List Int)) (a1 : Int) (a2 : Int) (a3 : Int) (a4 : Int) : Option (Bool) :=
  bif (cm .gtr (a0.length : Int) (128 : Int)) then
    some true
  else
    (m_ref_Pick a1 (32 : Int)).bind fun v2 =>
      (m_ref_Pick a2 (100 : Int)).bind fun v3 =>
        (Sw.mk (ar .add .i64 (1 : Int) v2) zblk).bind fun v4 =>
          (m_ref_OwnBlocks v4).bind fun v5 =>
            lp (β := Int × (List (Int × Blk)) × (List (Int × (List (Int × Blk)))) × Bool × (List (List Blk))) (fun (s56 : Int × Int × (List (Int × Blk)) × (List (Int × (List (Int × Blk)))) × Bool × (List Blk) × (List (List Blk))) =>
              (m_ref_Pick a3 (30 : Int)).bind fun v83 =>
                bif (cm .lss s56.1 v83) then
                  (m_ref_Raw a0 (ar .add .i64 v3 s56.1)).bind fun v85 =>
                    jp (fun (x95 : (Option Int) × Int × (List (Int × Blk)) × (List (Int × (List (Int × Blk)))) × Bool × (List Blk) × (List (List Blk))) =>
                      (bif (Option.isSome x95.1) then
                        some true
                      else
                        some (cm .neq x95.2.1 (ar .sub .i64 (x95.2.2.2.2.2.2.length : Int) (1 : Int)))).bind fun x104 =>
                        bif x104 then
                          some (.done (.ret false))
                        else
                          some (.next ((ar .add .i64 s56.1 (1 : Int)), x95.2.1, x95.2.2.1, x95.2.2.2.1, x95.2.2.2.2.1, x95.2.2.2.2.2.1, x95.2.2.2.2.2.2))
                      ) fun k94 =>
                    bif (cm .lss (ar .rem .i64 v85 (3 : Int)) (2 : Int)) then
                      (nz (ar .add .i64 (1 : Int) v2)).bind fun _ =>
                        (m_ref_BlockFrom a0 (ar .add .i64 v3 s56.1)).bind fun v97 =>
                          (Sw.idx s56.2.2.2.2.2.1 (ar .rem .i64 (ar .quo .i64 v85 (3 : Int)) (ar .add .i64 (1 : Int) v2))).bind fun _ =>
                            (m_epoch_Add (s56.2.1, s56.2.2.1, s56.2.2.2.1, s56.2.2.2.2.1) (ar .add .i64 (1 : Int) v2) ((ar .rem .i64 (ar .quo .i64 v85 (3 : Int)) (ar .add .i64 (1 : Int) v2)), v97)).bind fun v99 =>
                              k94 (v99.2, v99.1.1, v99.1.2.1, v99.1.2.2.1, v99.1.2.2.2, (List.set s56.2.2.2.2.2.1 (Int.toNat (ar .rem .i64 (ar .quo .i64 v85 (3 : Int)) (ar .add .i64 (1 : Int) v2))) v97), s56.2.2.2.2.2.2)
                    else
                      (m_epoch_Seal (s56.2.1, s56.2.2.1, s56.2.2.2.1, s56.2.2.2.2.1) (ar .add .i64 (1 : Int) v2)).bind fun v100 =>
                        (m_ref_OwnBlocks s56.2.2.2.2.2.1).bind fun v101 =>
                          (Sw.app s56.2.2.2.2.2.2 ([v101] : (List (List Blk)))).bind fun v102 =>
                            k94 (v100.2, v100.1.1, v100.1.2.1, v100.1.2.2.1, v100.1.2.2.2, s56.2.2.2.2.2.1, v102)
                else
                  some (.done (.brk (s56.2.1, s56.2.2.1, s56.2.2.2.1, s56.2.2.2.2.1, s56.2.2.2.2.2.2)))
              ) ((0 : Int), (0 : Int), ([] : (List (Int × Blk))), ([] : (List (Int × (List (Int × Blk))))), false, v4, ([v5] : (List (List Blk)))) fun (x82 : Int × (List (Int × Blk)) × (List (Int × (List (Int × Blk)))) × Bool × (List (List Blk))) =>
            (m_ref_Pick a4 (x82.2.2.2.2.length : Int)).bind fun v107 =>
              (m_epoch_Since (x82.1, x82.2.1, x82.2.2.1, x82.2.2.2.1) (ar .add .i64 (1 : Int) v2) v107).bind fun v108 =>
                (bif (Option.isSome v108.2.2) then
                  some true
                else
                  bif (!v108.2.1) then
                    bif (cm .leq (ar .sub .i64 x82.1 v107) (4 : Int)) then
                      some (!x82.2.2.2.1)
                    else
                      some false
                  else
                    some false).bind fun x112 =>
                  bif x112 then
                    some false
                  else
                    bif (!v108.2.1) then
                      some x82.2.2.2.1
                    else
                      (Sw.idx x82.2.2.2.2 v107).bind fun z118 =>
                        (m_ref_OwnBlocks z118).bind fun v119 =>
                          lp (β := (List Blk)) (fun (s146 : Int × (List Blk)) =>
                            bif (cm .lss s146.1 (v108.1.2.length : Int)) then
                              ((Sw.idx v108.1.2 s146.1).bind fun z166 =>
                                bif (cm .lss z166.1 (0 : Int)) then
                                  some true
                                else
                                  (Sw.idx v108.1.2 s146.1).bind fun z168 =>
                                    some (cm .geq z168.1 (ar .add .i64 (1 : Int) v2))).bind fun x165 =>
                                bif x165 then
                                  some (.done (.ret false))
                                else
                                  (Sw.idx v108.1.2 s146.1).bind fun z170 =>
                                    (Sw.idx v108.1.2 s146.1).bind fun z171 =>
                                      (Sw.idx s146.2 z170.1).bind fun _ =>
                                        some (.next ((ar .add .i64 s146.1 (1 : Int)), (List.set s146.2 (Int.toNat z170.1) z171.2)))
                            else
                              some (.done (.brk s146.2))
                            ) ((0 : Int), v119) fun (x160 : (List Blk)) =>
                          (Sw.idx x82.2.2.2.2 (ar .sub .i64 (x82.2.2.2.2.length : Int) (1 : Int))).bind fun z173 =>
                            (m_ref_SameBlocks x160 z173).bind fun v174 =>
                              some v174
end Go.Mo
