/- What the functions that this law reaches come to, as plain functions. Conditions: none. -/
import Derived.Test.YteckohdbfkhmdabSwC
set_option linter.unusedVariables false
set_option linter.unusedSimpArgs false
namespace Go.Mo
open Go Go.Sw
abbrev Blk := List Int
abbrev eBlk : Enc Blk := Enc.arr 8 (Enc.int .u8)
def zblk : Blk := List.replicate 8 0
/-- ref_FrameMay -/
def m_ref_FrameMay (a0 : (Int × (List Int) × (List Blk))) : Option (Int) :=
  (bif (cm .lss a0.1 (0 : Int)) then
    some true
  else
    some (cm .gtr a0.1 (15 : Int))).bind fun x2 =>
    bif x2 then
      some (1 : Int)
    else
      (bif (cm .gtr (a0.2.1.length : Int) (12 : Int)) then
        some true
      else
        some (cm .gtr (a0.2.2.length : Int) (32 : Int))).bind fun x6 =>
        bif x6 then
          some (2 : Int)
        else
          lp (β := Unit) (fun (s29 : Int) =>
            bif (cm .lss s29 (a0.2.1.length : Int)) then
              ((Sw.idx a0.2.1 s29).bind fun z46 =>
                bif (cm .lss z46 (0 : Int)) then
                  some true
                else
                  (Sw.idx a0.2.1 s29).bind fun z48 =>
                    some (cm .gtr z48 (2147483647 : Int))).bind fun x45 =>
                bif x45 then
                  some (.done (.ret (1 : Int)))
                else
                  some (.next (ar .add .i64 s29 (1 : Int)))
            else
              some (.done (.brk ()))
            ) (0 : Int) fun (_ : Unit) =>
          some (0 : Int)
/-- ref_MessageMay -/
def m_ref_MessageMay (a0 : (Int × (List Int) × (List Blk))) : Option (Int) :=
  (m_ref_FrameMay a0).bind fun v1 =>
    (bif (cm .eql v1 (0 : Int)) then
      some (cm .gtr (a0.2.1.length : Int) (9 : Int))
    else
      some false).bind fun x3 =>
      bif x3 then
        some (2 : Int)
      else
        some v1
/-- ref_SenderMay -/
def m_ref_SenderMay (a0 : (Int × Int × (List (Int × (List Int) × (List Blk))))) : Option (Int) :=
  (bif (cm .lss a0.1 (0 : Int)) then
    some true
  else
    bif (cm .gtr a0.1 (2147483647 : Int)) then
      some true
    else
      bif (cm .lss a0.2.1 (0 : Int)) then
        some true
      else
        some (cm .gtr a0.2.1 (2147483647 : Int))).bind fun x4 =>
    bif x4 then
      some (1 : Int)
    else
      bif (cm .gtr (a0.2.2.length : Int) (64 : Int)) then
        some (2 : Int)
      else
        lp (β := Unit) (fun (s20 : Int) =>
          bif (cm .lss s20 (a0.2.2.length : Int)) then
            (Sw.idx a0.2.2 s20).bind fun z28 =>
              (m_ref_MessageMay z28).bind fun v29 =>
                bif (cm .neq v29 (0 : Int)) then
                  some (.done (.ret v29))
                else
                  some (.next (ar .add .i64 s20 (1 : Int)))
          else
            some (.done (.brk ()))
          ) (0 : Int) fun (_ : Unit) =>
        some (0 : Int)
/-- link_number_1 -/
def m_link_number_1 (a0 : Int) : Option (Bool) :=
  (bif (cm .lss a0 (0 : Int)) then
    some true
  else
    some (cm .gtr a0 (2147483647 : Int))).bind fun x2 =>
    some x2
/-- slices_IndexFunc_int_int -/
def m_slices_IndexFunc_int_int__link_number_1 (a0 : (List Int)) : Option (Int) :=
  lp (β := Unit) (fun (s11 : Int) =>
    bif (cm .lss s11 (a0.length : Int)) then
      (Sw.idx a0 s11).bind fun z19 =>
        (m_link_number_1 z19).bind fun v20 =>
          bif v20 then
            some (.done (.ret s11))
          else
            some (.next (ar .add .i64 s11 (1 : Int)))
    else
      some (.done (.brk ()))
    ) (0 : Int) fun (_ : Unit) =>
  some (-1 : Int)
/-- slices_ContainsFunc_int_int -/
def m_slices_ContainsFunc_int_int__link_number_1 (a0 : (List Int)) : Option (Bool) :=
  (m_slices_IndexFunc_int_int__link_number_1 a0).bind fun v1 =>
    some (cm .geq v1 (0 : Int))
/-- link_number -/
def m_link_number (a0 : (List Int)) : Option (Bool) :=
  (m_slices_ContainsFunc_int_int__link_number_1 a0).bind fun v1 =>
    some (!v1)
/-- frame_Check_1 -/
def m_frame_Check_1 (a0 : Int) : Option (Bool) :=
  (bif (cm .lss a0 (0 : Int)) then
    some true
  else
    some (cm .gtr a0 (2147483647 : Int))).bind fun x2 =>
    some x2
/-- slices_IndexFunc_int_int -/
def m_slices_IndexFunc_int_int__frame_Check_1 (a0 : (List Int)) : Option (Int) :=
  lp (β := Unit) (fun (s11 : Int) =>
    bif (cm .lss s11 (a0.length : Int)) then
      (Sw.idx a0 s11).bind fun z19 =>
        (m_frame_Check_1 z19).bind fun v20 =>
          bif v20 then
            some (.done (.ret s11))
          else
            some (.next (ar .add .i64 s11 (1 : Int)))
    else
      some (.done (.brk ()))
    ) (0 : Int) fun (_ : Unit) =>
  some (-1 : Int)
/-- slices_ContainsFunc_int_int -/
def m_slices_ContainsFunc_int_int__frame_Check_1 (a0 : (List Int)) : Option (Bool) :=
  (m_slices_IndexFunc_int_int__frame_Check_1 a0).bind fun v1 =>
    some (cm .geq v1 (0 : Int))
/-- frame_Check -/
def m_frame_Check (a0 : (Int × (List Int) × (List Blk))) : Option ((Option Int)) :=
  (bif (cm .lss a0.1 (0 : Int)) then
    some true
  else
    some (cm .gtr a0.1 (15 : Int))).bind fun x2 =>
    bif x2 then
      some (some (1 : Int))
    else
      (bif (cm .gtr (a0.2.1.length : Int) (12 : Int)) then
        some true
      else
        some (cm .gtr (a0.2.2.length : Int) (32 : Int))).bind fun x6 =>
        bif x6 then
          some (some (2 : Int))
        else
          (m_slices_ContainsFunc_int_int__frame_Check_1 a0.2.1).bind fun v9 =>
            bif v9 then
              some (some (1 : Int))
            else
              some (none : Option Int)
/-- link_load -/
def m_link_load (a0 : (Int × (List Int) × (List Blk))) : Option ((Option Int)) :=
  (m_frame_Check a0).bind fun v1 =>
    bif (Option.isSome v1) then
      some v1
    else
      bif (cm .gtr (a0.2.1.length : Int) (9 : Int)) then
        some (some (2 : Int))
      else
        some (none : Option Int)
/-- link_Check -/
def m_link_Check (a0 : (Int × Int × (List (Int × (List Int) × (List Blk))))) : Option ((Option Int)) :=
  (m_link_number ([a0.1, a0.2.1] : (List Int))).bind fun v1 =>
    bif (!v1) then
      some (some (1 : Int))
    else
      bif (cm .gtr (a0.2.2.length : Int) (64 : Int)) then
        some (some (2 : Int))
      else
        lp (β := Unit) (fun (s14 : Int) =>
          bif (cm .lss s14 (a0.2.2.length : Int)) then
            (Sw.idx a0.2.2 s14).bind fun z22 =>
              (m_link_load z22).bind fun v23 =>
                bif (Option.isSome v23) then
                  some (.done (.ret v23))
                else
                  some (.next (ar .add .i64 s14 (1 : Int)))
          else
            some (.done (.brk ()))
          ) (0 : Int) fun (_ : Unit) =>
        some (none : Option Int)
/-- ref_Is -/
def m_ref_Is (a0 : (Option Int)) (a1 : Int) : Option (Bool) :=
  bif (Option.isNone a0) then
    some (cm .eql a1 (0 : Int))
  else
    (bif (cm .neq a1 (0 : Int)) then
      some (a0 == (some a1))
    else
      some false).bind fun x3 =>
      some x3
/-- frame_Sum -/
def m_frame_Sum (a0 : (List Int)) : Option (Int) :=
  lp (β := Int) (fun (s25 : Int × Int) =>
    bif (cm .lss s25.2 (a0.length : Int)) then
      (Sw.idx a0 s25.2).bind fun z40 =>
        lp (β := Int) (fun (s45 : Int × Int) =>
          bif (cm .lss s45.2 (8 : Int)) then
            some (.next ((ar .xor .u32 (sh .shr .u32 s45.1 (1 : Int)) (ar .mul .u32 (3988292384 : Int) (ar .and .u32 s45.1 (1 : Int)))), (ar .add .i64 s45.2 (1 : Int))))
          else
            some (.done (.brk s45.1))
          ) ((ar .xor .u32 s25.1 z40), (0 : Int)) fun (x48 : Int) =>
        some (.next (x48, (ar .add .i64 s25.2 (1 : Int))))
    else
      some (.done (.brk s25.1))
    ) ((4294967295 : Int), (0 : Int)) fun (x38 : Int) =>
  some (bnot .u32 x38)
/-- frame_Pack -/
def m_frame_Pack (a0 : (Int × (List Int) × (List Blk))) : Option ((List Int) × (Option Int)) :=
  (m_frame_Check a0).bind fun v1 =>
    bif (Option.isSome v1) then
      some (([] : (List Int)), v1)
    else
      lp (β := (List Int)) (fun (s37 : Int × (List Int)) =>
        bif (cm .lss s37.1 (a0.2.1.length : Int)) then
          (Sw.idx a0.2.1 s37.1).bind fun z57 =>
            lp (β := Int × (List Int)) (fun (s64 : Int × (List Int)) =>
              bif (cm .gtr s64.1 (127 : Int)) then
                (Sw.app s64.2 ([(ar .or .u8 (IntKind.wrap .u8 s64.1) (128 : Int))] : (List Int))).bind fun v70 =>
                  some (.next ((sh .shr .i64 s64.1 (7 : Int)), v70))
              else
                some (.done (.brk (s64.1, s64.2)))
              ) (z57, s37.2) fun (x68 : Int × (List Int)) =>
            (Sw.app x68.2 ([(IntKind.wrap .u8 x68.1)] : (List Int))).bind fun v71 =>
              some (.next ((ar .add .i64 s37.1 (1 : Int)), v71))
        else
          some (.done (.brk s37.2))
        ) ((0 : Int), ([(ar .or .u8 (sh .shl .u8 (IntKind.wrap .u8 a0.1) (4 : Int)) (IntKind.wrap .u8 (a0.2.1.length : Int))), (IntKind.wrap .u8 (a0.2.2.length : Int))] : (List Int))) fun (x55 : (List Int)) =>
      lp (β := (List Int)) (fun (s80 : Int × (List Int)) =>
        bif (cm .lss s80.1 (a0.2.2.length : Int)) then
          (Sw.idx a0.2.2 s80.1).bind fun z87 =>
            (Sw.app s80.2 z87).bind fun v88 =>
              some (.next ((ar .add .i64 s80.1 (1 : Int)), v88))
        else
          some (.done (.brk s80.2))
        ) ((0 : Int), x55) fun (x85 : (List Int)) =>
      (m_frame_Sum x85).bind fun v89 =>
        (Sw.app x85 ([(IntKind.wrap .u8 (sh .shr .u32 v89 (24 : Int))), (IntKind.wrap .u8 (sh .shr .u32 v89 (16 : Int))), (IntKind.wrap .u8 (sh .shr .u32 v89 (8 : Int))), (IntKind.wrap .u8 v89)] : (List Int))).bind fun v90 =>
          some (v90, (none : Option Int))
/-- link_Send -/
def m_link_Send (a0 : (Int × Int × (List (Int × (List Int) × (List Blk))))) : Option ((List (List Int)) × (Option Int)) :=
  (m_link_Check a0).bind fun v1 =>
    bif (Option.isSome v1) then
      some (([] : (List (List Int))), v1)
    else
      (Sw.sub a0.2.2 (0 : Int) (min (a0.2.2.length : Int) (4 : Int))).bind fun v3 =>
        lp (β := (List (List Int))) (fun (s20 : Int × (List (List Int))) =>
          bif (cm .lss s20.1 (v3.length : Int)) then
            (Sw.idx v3 s20.1).bind fun z31 =>
              bif (cm .gtr (ar .add .i64 a0.2.1 s20.1) (2147483647 : Int)) then
                some (.done (.ret (([] : (List (List Int))), (some (1 : Int)))))
              else
                (Sw.app ([a0.1, (ar .add .i64 a0.2.1 s20.1), z31.1] : (List Int)) z31.2.1).bind fun v33 =>
                  (m_frame_Pack ((1 : Int), v33, z31.2.2)).bind fun v34 =>
                    bif (Option.isSome v34.2) then
                      some (.done (.ret (([] : (List (List Int))), v34.2)))
                    else
                      (Sw.app s20.2 ([v34.1] : (List (List Int)))).bind fun v36 =>
                        some (.next ((ar .add .i64 s20.1 (1 : Int)), v36))
          else
            some (.done (.brk s20.2))
          ) ((0 : Int), ([] : (List (List Int)))) fun (x29 : (List (List Int))) =>
        some (x29, (none : Option Int))
/-- ref_Window -/
def m_ref_Window (a0 : (Int × Int × (List (Int × (List Int) × (List Blk))))) : Option (Int) :=
  bif (cm .lss (a0.2.2.length : Int) (4 : Int)) then
    some (a0.2.2.length : Int)
  else
    some (4 : Int)
/-- ref_mixed -/
def m_ref_mixed (a0 : Int) : Option (Int) :=
  lp (β := Int) (fun (s9 : Int × Int) =>
    bif (cm .lss s9.2 (4294967296 : Int)) then
      (nz s9.2).bind fun _ =>
        (nz s9.2).bind fun _ =>
          bif (cm .neq (ar .rem .i64 (ar .quo .i64 a0 s9.2) (2 : Int)) (ar .rem .i64 (ar .quo .i64 (3988292384 : Int) s9.2) (2 : Int))) then
            some (.next ((ar .add .i64 s9.1 s9.2), (ar .mul .i64 s9.2 (2 : Int))))
          else
            some (.next (s9.1, (ar .mul .i64 s9.2 (2 : Int))))
    else
      some (.done (.brk s9.1))
    ) ((0 : Int), (1 : Int)) fun (x15 : Int) =>
  some x15
/-- ref_SumOf -/
def m_ref_SumOf (a0 : (List Int)) : Option (Int) :=
  lp (β := Int) (fun (s53 : Int × Int) =>
    bif (cm .lss s53.2 (a0.length : Int)) then
      lp (β := Int) (fun (s93 : Int × Int) =>
        bif (cm .lss s93.2 (256 : Int)) then
          (Sw.idx a0 s53.2).bind fun z102 =>
            (nz s93.2).bind fun _ =>
              bif (cm .eql (ar .rem .i64 (ar .add .i64 s93.1 (ar .quo .i64 z102 s93.2)) (2 : Int)) (1 : Int)) then
                (m_ref_mixed (ar .quo .i64 s93.1 (2 : Int))).bind fun v105 =>
                  some (.next (v105, (ar .mul .i64 s93.2 (2 : Int))))
              else
                some (.next ((ar .quo .i64 s93.1 (2 : Int)), (ar .mul .i64 s93.2 (2 : Int))))
        else
          some (.done (.brk s93.1))
        ) (s53.1, (1 : Int)) fun (x100 : Int) =>
      some (.next (x100, (ar .add .i64 s53.2 (1 : Int))))
    else
      some (.done (.brk s53.1))
    ) ((4294967295 : Int), (0 : Int)) fun (x80 : Int) =>
  some (IntKind.wrap .u32 (ar .sub .i64 (4294967295 : Int) x80))
/-- ref_Packed -/
def m_ref_Packed (a0 : (Int × (List Int) × (List Blk))) : Option ((List Int)) :=
  lp (β := (List Int)) (fun (s35 : Int × (List Int)) =>
    bif (cm .lss s35.1 (a0.2.1.length : Int)) then
      (Sw.idx a0.2.1 s35.1).bind fun z55 =>
        lp (β := Int × (List Int)) (fun (s62 : Int × (List Int)) =>
          bif (cm .geq s62.1 (128 : Int)) then
            (Sw.app s62.2 ([(IntKind.wrap .u8 (ar .add .i64 (128 : Int) (ar .rem .i64 s62.1 (128 : Int))))] : (List Int))).bind fun v68 =>
              some (.next ((ar .quo .i64 s62.1 (128 : Int)), v68))
          else
            some (.done (.brk (s62.1, s62.2)))
          ) (z55, s35.2) fun (x66 : Int × (List Int)) =>
        (Sw.app x66.2 ([(IntKind.wrap .u8 x66.1)] : (List Int))).bind fun v69 =>
          some (.next ((ar .add .i64 s35.1 (1 : Int)), v69))
    else
      some (.done (.brk s35.2))
    ) ((0 : Int), ([(IntKind.wrap .u8 (ar .add .i64 (ar .mul .i64 (16 : Int) a0.1) (a0.2.1.length : Int))), (IntKind.wrap .u8 (a0.2.2.length : Int))] : (List Int))) fun (x53 : (List Int)) =>
  lp (β := (List Int)) (fun (s116 : Int × (List Int)) =>
    bif (cm .lss s116.1 (a0.2.2.length : Int)) then
      lp (β := (List Int)) (fun (s152 : Int × (List Int)) =>
        bif (cm .lss s152.1 (8 : Int)) then
          (Sw.idx a0.2.2 s116.1).bind fun z160 =>
            (Sw.idx z160 s152.1).bind fun z161 =>
              (Sw.app s152.2 ([z161] : (List Int))).bind fun v162 =>
                some (.next ((ar .add .i64 s152.1 (1 : Int)), v162))
        else
          some (.done (.brk s152.2))
        ) ((0 : Int), s116.2) fun (x158 : (List Int)) =>
      some (.next ((ar .add .i64 s116.1 (1 : Int)), x158))
    else
      some (.done (.brk s116.2))
    ) ((0 : Int), x53) fun (x140 : (List Int)) =>
  (m_ref_SumOf x140).bind fun v163 =>
    (Sw.app x140 ([(IntKind.wrap .u8 (ar .quo .i64 v163 (16777216 : Int))), (IntKind.wrap .u8 (ar .rem .i64 (ar .quo .i64 v163 (65536 : Int)) (256 : Int))), (IntKind.wrap .u8 (ar .rem .i64 (ar .quo .i64 v163 (256 : Int)) (256 : Int))), (IntKind.wrap .u8 (ar .rem .i64 v163 (256 : Int)))] : (List Int))).bind fun v164 =>
      some v164
/-- ref_DataOf -/
def m_ref_DataOf (a0 : (Int × Int × (List (Int × (List Int) × (List Blk))))) (a1 : Int) : Option ((List Int)) :=
  (Sw.idx a0.2.2 a1).bind fun z1 =>
    (Sw.app ([a0.1, (ar .add .i64 a0.2.1 a1), z1.1] : (List Int)) z1.2.1).bind fun v2 =>
      (m_ref_Packed ((1 : Int), v2, z1.2.2)).bind fun v3 =>
        some v3
/-- ref_SameBytes -/
def m_ref_SameBytes (a0 : (List Int)) (a1 : (List Int)) : Option (Bool) :=
  bif (cm .neq (a0.length : Int) (a1.length : Int)) then
    some false
  else
    lp (β := Unit) (fun (s12 : Int) =>
      bif (cm .lss s12 (a0.length : Int)) then
        (Sw.idx a0 s12).bind fun z20 =>
          (Sw.idx a1 s12).bind fun z21 =>
            bif (cm .neq z20 z21) then
              some (.done (.ret false))
            else
              some (.next (ar .add .i64 s12 (1 : Int)))
      else
        some (.done (.brk ()))
      ) (0 : Int) fun (_ : Unit) =>
    some true
/-- slices_Clone_int_int -/
def m_slices_Clone_int_int_nil (a0 : (Bool × (List Int))) : Option ((List Int)) :=
  bif a0.1 then
    some ([] : (List Int))
  else
    (Sw.app ([] : (List Int)) a0.2).bind fun v2 =>
      some v2
/-- slices_Clone_int_int -/
def m_slices_Clone_int_int (a0 : (List Int)) : Option (List Int) := Sw.app [] a0
/-- slices_Clone_api_Block_api_Block -/
def m_slices_Clone_api_Block_api_Block_nil (a0 : (Bool × (List Blk))) : Option ((List Blk)) :=
  bif a0.1 then
    some ([] : (List Blk))
  else
    (Sw.app ([] : (List Blk)) a0.2).bind fun v2 =>
      some v2
/-- slices_Clone_api_Block_api_Block -/
def m_slices_Clone_api_Block_api_Block (a0 : (List Blk)) : Option (List Blk) := Sw.app [] a0
/-- link_clone -/
def m_link_clone (a0 : (Int × (List Int) × (List Blk))) : Option ((Int × (List Int) × (List Blk))) :=
  (m_slices_Clone_int_int a0.2.1).bind fun v1 =>
    (m_slices_Clone_api_Block_api_Block a0.2.2).bind fun v2 =>
      some (a0.1, v1, v2)
/-- link_queue -/
def m_link_queue (a0 : (List (Int × (List Int) × (List Blk)))) : Option ((List (Int × (List Int) × (List Blk)))) :=
  lp (β := (List (Int × (List Int) × (List Blk)))) (fun (s11 : Int × (List (Int × (List Int) × (List Blk)))) =>
    bif (cm .lss s11.1 (a0.length : Int)) then
      (Sw.idx a0 s11.1).bind fun z19 =>
        (m_link_clone z19).bind fun v20 =>
          (Sw.app s11.2 ([v20] : (List (Int × (List Int) × (List Blk))))).bind fun v21 =>
            some (.next ((ar .add .i64 s11.1 (1 : Int)), v21))
    else
      some (.done (.brk s11.2))
    ) ((0 : Int), ([] : (List (Int × (List Int) × (List Blk))))) fun (x17 : (List (Int × (List Int) × (List Blk)))) =>
  some x17
/-- link_Offer -/
def m_link_Offer (a0 : (Int × Int × (List (Int × (List Int) × (List Blk))))) (a1 : (Int × (List Int) × (List Blk))) : Option ((Int × Int × (List (Int × (List Int) × (List Blk)))) × (Option Int)) :=
  (m_link_Check a0).bind fun v1 =>
    bif (Option.isSome v1) then
      some (((0 : Int), (0 : Int), ([] : (List (Int × (List Int) × (List Blk))))), v1)
    else
      (m_link_load a1).bind fun v3 =>
        bif (Option.isSome v3) then
          some (((0 : Int), (0 : Int), ([] : (List (Int × (List Int) × (List Blk))))), v3)
        else
          (bif (cm .eql (a0.2.2.length : Int) (64 : Int)) then
            some true
          else
            some (cm .geq (ar .add .i64 a0.2.1 (a0.2.2.length : Int)) (2147483647 : Int))).bind fun x6 =>
            bif x6 then
              some (((0 : Int), (0 : Int), ([] : (List (Int × (List Int) × (List Blk))))), (some (2 : Int)))
            else
              (m_link_queue a0.2.2).bind fun v12 =>
                (m_link_clone a1).bind fun v13 =>
                  (Sw.app v12 ([v13] : (List (Int × (List Int) × (List Blk))))).bind fun v14 =>
                    some ((a0.1, a0.2.1, v14), (none : Option Int))
/-- ref_SameInts -/
def m_ref_SameInts (a0 : (List Int)) (a1 : (List Int)) : Option (Bool) :=
  bif (cm .neq (a0.length : Int) (a1.length : Int)) then
    some false
  else
    lp (β := Unit) (fun (s12 : Int) =>
      bif (cm .lss s12 (a0.length : Int)) then
        (Sw.idx a0 s12).bind fun z20 =>
          (Sw.idx a1 s12).bind fun z21 =>
            bif (cm .neq z20 z21) then
              some (.done (.ret false))
            else
              some (.next (ar .add .i64 s12 (1 : Int)))
      else
        some (.done (.brk ()))
      ) (0 : Int) fun (_ : Unit) =>
    some true
/-- ref_SameBlocks -/
def m_ref_SameBlocks (a0 : (List Blk)) (a1 : (List Blk)) : Option (Bool) :=
  bif (cm .neq (a0.length : Int) (a1.length : Int)) then
    some false
  else
    lp (β := Unit) (fun (s12 : Int) =>
      bif (cm .lss s12 (a0.length : Int)) then
        (Sw.idx a0 s12).bind fun z20 =>
          (Sw.idx a1 s12).bind fun z21 =>
            bif (!decide (z20 = z21)) then
              some (.done (.ret false))
            else
              some (.next (ar .add .i64 s12 (1 : Int)))
      else
        some (.done (.brk ()))
      ) (0 : Int) fun (_ : Unit) =>
    some true
/-- ref_SameFrame -/
def m_ref_SameFrame (a0 : (Int × (List Int) × (List Blk))) (a1 : (Int × (List Int) × (List Blk))) : Option (Bool) :=
  (bif (cm .eql a0.1 a1.1) then
    (m_ref_SameInts a0.2.1 a1.2.1).bind fun v7 =>
      bif v7 then
        (m_ref_SameBlocks a0.2.2 a1.2.2).bind fun v9 =>
          some v9
      else
        some false
  else
    some false).bind fun x5 =>
    some x5
/-- ref_SameSender -/
def m_ref_SameSender (a0 : (Int × Int × (List (Int × (List Int) × (List Blk))))) (a1 : (Int × Int × (List (Int × (List Int) × (List Blk))))) : Option (Bool) :=
  (bif (cm .neq a0.1 a1.1) then
    some true
  else
    bif (cm .neq a0.2.1 a1.2.1) then
      some true
    else
      some (cm .neq (a0.2.2.length : Int) (a1.2.2.length : Int))).bind fun x3 =>
    bif x3 then
      some false
    else
      lp (β := Unit) (fun (s19 : Int) =>
        bif (cm .lss s19 (a0.2.2.length : Int)) then
          (Sw.idx a0.2.2 s19).bind fun z28 =>
            (Sw.idx a1.2.2 s19).bind fun z29 =>
              (m_ref_SameFrame z28 z29).bind fun v30 =>
                bif (!v30) then
                  some (.done (.ret false))
                else
                  some (.next (ar .add .i64 s19 (1 : Int)))
        else
          some (.done (.brk ()))
        ) (0 : Int) fun (_ : Unit) =>
      some true
/-- law_LinkSays -/
def m_law_LinkSays (a0 : (Int × Int × (List (Int × (List Int) × (List Blk))))) (a1 : (Int × (List Int) × (List Blk))) : Option (Bool) :=
  bif (cm .gtr (a0.2.2.length : Int) (100 : Int)) then
    some true
  else
    (m_ref_SenderMay a0).bind fun v2 =>
      (m_link_Check a0).bind fun v3 =>
        (m_ref_Is v3 v2).bind fun v4 =>
          bif (!v4) then
            some false
          else
            (m_link_Send a0).bind fun v6 =>
              lp (β := Int × (List (List Int))) (fun (s31 : Int × (List (List Int))) =>
                (bif (cm .eql v2 (0 : Int)) then
                  (m_ref_Window a0).bind fun v50 =>
                    bif (cm .lss s31.1 v50) then
                      some (cm .eql v2 (0 : Int))
                    else
                      some false
                else
                  some false).bind fun x48 =>
                  bif x48 then
                    bif (cm .gtr a0.2.1 (ar .sub .i64 (2147483647 : Int) s31.1)) then
                      some (.done (.brk ((1 : Int), ([] : (List (List Int))))))
                    else
                      (m_ref_DataOf a0 s31.1).bind fun v54 =>
                        (Sw.app s31.2 ([v54] : (List (List Int)))).bind fun v55 =>
                          some (.next ((ar .add .i64 s31.1 (1 : Int)), v55))
                  else
                    some (.done (.brk (v2, s31.2)))
                ) ((0 : Int), ([] : (List (List Int)))) fun (x44 : Int × (List (List Int))) =>
              ((m_ref_Is v6.2 x44.1).bind fun v59 =>
                bif (!v59) then
                  some true
                else
                  some (cm .neq (v6.1.length : Int) (x44.2.length : Int))).bind fun x58 =>
                bif x58 then
                  some false
                else
                  lp (β := Unit) (fun (s74 : Int) =>
                    bif (cm .lss s74 (v6.1.length : Int)) then
                      (Sw.idx v6.1 s74).bind fun z83 =>
                        (Sw.idx x44.2 s74).bind fun z84 =>
                          (m_ref_SameBytes z83 z84).bind fun v85 =>
                            bif (!v85) then
                              some (.done (.ret false))
                            else
                              some (.next (ar .add .i64 s74 (1 : Int)))
                    else
                      some (.done (.brk ()))
                    ) (0 : Int) fun (_ : Unit) =>
                  jp (fun (x90 : Int) =>
                    (bif (cm .eql x90 (0 : Int)) then
                      bif (cm .eql (a0.2.2.length : Int) (64 : Int)) then
                        some true
                      else
                        some (cm .geq (ar .add .i64 a0.2.1 (a0.2.2.length : Int)) (2147483647 : Int))
                    else
                      some false).bind fun x94 =>
                      jp (fun (x99 : Int) =>
                        (m_link_Offer a0 a1).bind fun v100 =>
                          bif (cm .neq x99 (0 : Int)) then
                            ((m_ref_Is v100.2 x99).bind fun v106 =>
                              bif v106 then
                                (m_ref_SameSender v100.1 ((0 : Int), (0 : Int), ([] : (List (Int × (List Int) × (List Blk)))))).bind fun v108 =>
                                  some v108
                              else
                                some false).bind fun x105 =>
                              some x105
                          else
                            (Sw.app ([] : (List (Int × (List Int) × (List Blk)))) a0.2.2).bind fun v110 =>
                              (Sw.app v110 ([a1] : (List (Int × (List Int) × (List Blk))))).bind fun v111 =>
                                (bif (Option.isNone v100.2) then
                                  (m_ref_SameSender v100.1 (a0.1, a0.2.1, v111)).bind fun v116 =>
                                    some v116
                                else
                                  some false).bind fun x114 =>
                                  some x114
                        ) fun k98 =>
                      bif x94 then
                        k98 (2 : Int)
                      else
                        k98 x90
                    ) fun k89 =>
                  bif (cm .eql v2 (0 : Int)) then
                    (m_ref_MessageMay a1).bind fun v91 =>
                      k89 v91
                  else
                    k89 v2
end Go.Mo
