/- What the functions that this law reaches come to, as plain functions. Conditions: none. -/
import Derived.Test.YteckohdbfkhmdaaSwB
namespace Go.Mo
open Go Go.Sw
abbrev Blk := List Int
abbrev eBlk : Enc Blk := Enc.arr 8 (Enc.int .u8)
def zblk : Blk := List.replicate 8 0
/-- ref_FrameMay -/
def m_ref_FrameMay (a0 : (Int × (List Int) × (List Blk))) : Option (Int) :=
  (bif (cm .lss a0.1 (0 : Int)) then
    some true
  else
    some (cm .gtr a0.1 (15 : Int))).bind fun x2 =>
    bif x2 then
      some (1 : Int)
    else
      (bif (cm .gtr (a0.2.1.length : Int) (12 : Int)) then
        some true
      else
        some (cm .gtr (a0.2.2.length : Int) (32 : Int))).bind fun x6 =>
        bif x6 then
          some (2 : Int)
        else
          lp (β := Unit) (fun (s29 : Int) =>
            bif (cm .lss s29 (a0.2.1.length : Int)) then
              ((Sw.idx a0.2.1 s29).bind fun z46 =>
                bif (cm .lss z46 (0 : Int)) then
                  some true
                else
                  (Sw.idx a0.2.1 s29).bind fun z48 =>
                    some (cm .gtr z48 (2147483647 : Int))).bind fun x45 =>
                bif x45 then
                  some (.done (.ret (1 : Int)))
                else
                  some (.next (ar .add .i64 s29 (1 : Int)))
            else
              some (.done (.brk ()))
            ) (0 : Int) fun (_ : Unit) =>
          some (0 : Int)
/-- ref_mixed -/
def m_ref_mixed (a0 : Int) : Option (Int) :=
  lp (β := Int) (fun (s9 : Int × Int) =>
    bif (cm .lss s9.2 (4294967296 : Int)) then
      (nz s9.2).bind fun _ =>
        (nz s9.2).bind fun _ =>
          bif (cm .neq (ar .rem .i64 (ar .quo .i64 a0 s9.2) (2 : Int)) (ar .rem .i64 (ar .quo .i64 (3988292384 : Int) s9.2) (2 : Int))) then
            some (.next ((ar .add .i64 s9.1 s9.2), (ar .mul .i64 s9.2 (2 : Int))))
          else
            some (.next (s9.1, (ar .mul .i64 s9.2 (2 : Int))))
    else
      some (.done (.brk s9.1))
    ) ((0 : Int), (1 : Int)) fun (x15 : Int) =>
  some x15
/-- ref_SumOf -/
def m_ref_SumOf (a0 : (List Int)) : Option (Int) :=
  lp (β := Int) (fun (s53 : Int × Int) =>
    bif (cm .lss s53.2 (a0.length : Int)) then
      lp (β := Int) (fun (s93 : Int × Int) =>
        bif (cm .lss s93.2 (256 : Int)) then
          (Sw.idx a0 s53.2).bind fun z102 =>
            (nz s93.2).bind fun _ =>
              bif (cm .eql (ar .rem .i64 (ar .add .i64 s93.1 (ar .quo .i64 z102 s93.2)) (2 : Int)) (1 : Int)) then
                (m_ref_mixed (ar .quo .i64 s93.1 (2 : Int))).bind fun v105 =>
                  some (.next (v105, (ar .mul .i64 s93.2 (2 : Int))))
              else
                some (.next ((ar .quo .i64 s93.1 (2 : Int)), (ar .mul .i64 s93.2 (2 : Int))))
        else
          some (.done (.brk s93.1))
        ) (s53.1, (1 : Int)) fun (x100 : Int) =>
      some (.next (x100, (ar .add .i64 s53.2 (1 : Int))))
    else
      some (.done (.brk s53.1))
    ) ((4294967295 : Int), (0 : Int)) fun (x80 : Int) =>
  some (IntKind.wrap .u32 (ar .sub .i64 (4294967295 : Int) x80))
/-- ref_Packed -/
def m_ref_Packed (a0 : (Int × (List Int) × (List Blk))) : Option ((List Int)) :=
  lp (β := (List Int)) (fun (s35 : Int × (List Int)) =>
    bif (cm .lss s35.1 (a0.2.1.length : Int)) then
      (Sw.idx a0.2.1 s35.1).bind fun z55 =>
        lp (β := Int × (List Int)) (fun (s62 : Int × (List Int)) =>
          bif (cm .geq s62.1 (128 : Int)) then
            (Sw.app s62.2 ([(IntKind.wrap .u8 (ar .add .i64 (128 : Int) (ar .rem .i64 s62.1 (128 : Int))))] : (List Int))).bind fun v68 =>
              some (.next ((ar .quo .i64 s62.1 (128 : Int)), v68))
          else
            some (.done (.brk (s62.1, s62.2)))
          ) (z55, s35.2) fun (x66 : Int × (List Int)) =>
        (Sw.app x66.2 ([(IntKind.wrap .u8 x66.1)] : (List Int))).bind fun v69 =>
          some (.next ((ar .add .i64 s35.1 (1 : Int)), v69))
    else
      some (.done (.brk s35.2))
    ) ((0 : Int), ([(IntKind.wrap .u8 (ar .add .i64 (ar .mul .i64 (16 : Int) a0.1) (a0.2.1.length : Int))), (IntKind.wrap .u8 (a0.2.2.length : Int))] : (List Int))) fun (x53 : (List Int)) =>
  lp (β := (List Int)) (fun (s116 : Int × (List Int)) =>
    bif (cm .lss s116.1 (a0.2.2.length : Int)) then
      lp (β := (List Int)) (fun (s152 : Int × (List Int)) =>
        bif (cm .lss s152.1 (8 : Int)) then
          (Sw.idx a0.2.2 s116.1).bind fun z160 =>
            (Sw.idx z160 s152.1).bind fun z161 =>
              (Sw.app s152.2 ([z161] : (List Int))).bind fun v162 =>
                some (.next ((ar .add .i64 s152.1 (1 : Int)), v162))
        else
          some (.done (.brk s152.2))
        ) ((0 : Int), s116.2) fun (x158 : (List Int)) =>
      some (.next ((ar .add .i64 s116.1 (1 : Int)), x158))
    else
      some (.done (.brk s116.2))
    ) ((0 : Int), x53) fun (x140 : (List Int)) =>
  (m_ref_SumOf x140).bind fun v163 =>
    (Sw.app x140 ([(IntKind.wrap .u8 (ar .quo .i64 v163 (16777216 : Int))), (IntKind.wrap .u8 (ar .rem .i64 (ar .quo .i64 v163 (65536 : Int)) (256 : Int))), (IntKind.wrap .u8 (ar .rem .i64 (ar .quo .i64 v163 (256 : Int)) (256 : Int))), (IntKind.wrap .u8 (ar .rem .i64 v163 (256 : Int)))] : (List Int))).bind fun v164 =>
      some v164
/-- frame_Check_1 -/
def m_frame_Check_1 (a0 : Int) : Option (Bool) :=
  (bif (cm .lss a0 (0 : Int)) then
    some true
  else
    some (cm .gtr a0 (2147483647 : Int))).bind fun x2 =>
    some x2
/-- slices_IndexFunc_int_int -/
def m_slices_IndexFunc_int_int__frame_Check_1 (a0 : (List Int)) : Option (Int) :=
  lp (β := Unit) (fun (s11 : Int) =>
    bif (cm .lss s11 (a0.length : Int)) then
      (Sw.idx a0 s11).bind fun z19 =>
        (m_frame_Check_1 z19).bind fun v20 =>
          bif v20 then
            some (.done (.ret s11))
          else
            some (.next (ar .add .i64 s11 (1 : Int)))
    else
      some (.done (.brk ()))
    ) (0 : Int) fun (_ : Unit) =>
  some (-1 : Int)
/-- slices_ContainsFunc_int_int -/
def m_slices_ContainsFunc_int_int__frame_Check_1 (a0 : (List Int)) : Option (Bool) :=
  (m_slices_IndexFunc_int_int__frame_Check_1 a0).bind fun v1 =>
    some (cm .geq v1 (0 : Int))
/-- frame_Check -/
def m_frame_Check (a0 : (Int × (List Int) × (List Blk))) : Option ((Option Int)) :=
  (bif (cm .lss a0.1 (0 : Int)) then
    some true
  else
    some (cm .gtr a0.1 (15 : Int))).bind fun x2 =>
    bif x2 then
      some (some (1 : Int))
    else
      (bif (cm .gtr (a0.2.1.length : Int) (12 : Int)) then
        some true
      else
        some (cm .gtr (a0.2.2.length : Int) (32 : Int))).bind fun x6 =>
        bif x6 then
          some (some (2 : Int))
        else
          (m_slices_ContainsFunc_int_int__frame_Check_1 a0.2.1).bind fun v9 =>
            bif v9 then
              some (some (1 : Int))
            else
              some (none : Option Int)
/-- frame_Sum -/
def m_frame_Sum (a0 : (List Int)) : Option (Int) :=
  lp (β := Int) (fun (s25 : Int × Int) =>
    bif (cm .lss s25.2 (a0.length : Int)) then
      (Sw.idx a0 s25.2).bind fun z40 =>
        lp (β := Int) (fun (s45 : Int × Int) =>
          bif (cm .lss s45.2 (8 : Int)) then
            some (.next ((ar .xor .u32 (sh .shr .u32 s45.1 (1 : Int)) (ar .mul .u32 (3988292384 : Int) (ar .and .u32 s45.1 (1 : Int)))), (ar .add .i64 s45.2 (1 : Int))))
          else
            some (.done (.brk s45.1))
          ) ((ar .xor .u32 s25.1 z40), (0 : Int)) fun (x48 : Int) =>
        some (.next (x48, (ar .add .i64 s25.2 (1 : Int))))
    else
      some (.done (.brk s25.1))
    ) ((4294967295 : Int), (0 : Int)) fun (x38 : Int) =>
  some (bnot .u32 x38)
/-- frame_Pack -/
def m_frame_Pack (a0 : (Int × (List Int) × (List Blk))) : Option ((List Int) × (Option Int)) :=
  (m_frame_Check a0).bind fun v1 =>
    bif (Option.isSome v1) then
      some (([] : (List Int)), v1)
    else
      lp (β := (List Int)) (fun (s37 : Int × (List Int)) =>
        bif (cm .lss s37.1 (a0.2.1.length : Int)) then
          (Sw.idx a0.2.1 s37.1).bind fun z57 =>
            lp (β := Int × (List Int)) (fun (s64 : Int × (List Int)) =>
              bif (cm .gtr s64.1 (127 : Int)) then
                (Sw.app s64.2 ([(ar .or .u8 (IntKind.wrap .u8 s64.1) (128 : Int))] : (List Int))).bind fun v70 =>
                  some (.next ((sh .shr .i64 s64.1 (7 : Int)), v70))
              else
                some (.done (.brk (s64.1, s64.2)))
              ) (z57, s37.2) fun (x68 : Int × (List Int)) =>
            (Sw.app x68.2 ([(IntKind.wrap .u8 x68.1)] : (List Int))).bind fun v71 =>
              some (.next ((ar .add .i64 s37.1 (1 : Int)), v71))
        else
          some (.done (.brk s37.2))
        ) ((0 : Int), ([(ar .or .u8 (sh .shl .u8 (IntKind.wrap .u8 a0.1) (4 : Int)) (IntKind.wrap .u8 (a0.2.1.length : Int))), (IntKind.wrap .u8 (a0.2.2.length : Int))] : (List Int))) fun (x55 : (List Int)) =>
      lp (β := (List Int)) (fun (s80 : Int × (List Int)) =>
        bif (cm .lss s80.1 (a0.2.2.length : Int)) then
          (Sw.idx a0.2.2 s80.1).bind fun z87 =>
            (Sw.app s80.2 z87).bind fun v88 =>
              some (.next ((ar .add .i64 s80.1 (1 : Int)), v88))
        else
          some (.done (.brk s80.2))
        ) ((0 : Int), x55) fun (x85 : (List Int)) =>
      (m_frame_Sum x85).bind fun v89 =>
        (Sw.app x85 ([(IntKind.wrap .u8 (sh .shr .u32 v89 (24 : Int))), (IntKind.wrap .u8 (sh .shr .u32 v89 (16 : Int))), (IntKind.wrap .u8 (sh .shr .u32 v89 (8 : Int))), (IntKind.wrap .u8 v89)] : (List Int))).bind fun v90 =>
          some (v90, (none : Option Int))
/-- ref_Is -/
def m_ref_Is (a0 : (Option Int)) (a1 : Int) : Option (Bool) :=
  bif (Option.isNone a0) then
    some (cm .eql a1 (0 : Int))
  else
    (bif (cm .neq a1 (0 : Int)) then
      some (a0 == (some a1))
    else
      some false).bind fun x3 =>
      some x3
/-- ref_SameBytes -/
def m_ref_SameBytes (a0 : (List Int)) (a1 : (List Int)) : Option (Bool) :=
  bif (cm .neq (a0.length : Int) (a1.length : Int)) then
    some false
  else
    lp (β := Unit) (fun (s12 : Int) =>
      bif (cm .lss s12 (a0.length : Int)) then
        (Sw.idx a0 s12).bind fun z20 =>
          (Sw.idx a1 s12).bind fun z21 =>
            bif (cm .neq z20 z21) then
              some (.done (.ret false))
            else
              some (.next (ar .add .i64 s12 (1 : Int)))
      else
        some (.done (.brk ()))
      ) (0 : Int) fun (_ : Unit) =>
    some true
/-- law_FrameSays -/
def m_law_FrameSays (a0 : (Int × (List Int) × (List Blk))) : Option (Bool) :=
  (m_ref_FrameMay a0).bind fun v1 =>
    jp (fun (x5 : (List Int)) =>
      (m_frame_Pack a0).bind fun v7 =>
        ((m_frame_Check a0).bind fun v15 =>
          (m_ref_Is v15 v1).bind fun v16 =>
            bif v16 then
              (m_ref_Is v7.2 v1).bind fun v18 =>
                bif v18 then
                  (m_ref_SameBytes v7.1 x5).bind fun v20 =>
                    some v20
                else
                  some false
            else
              some false).bind fun x14 =>
          some x14
      ) fun k4 =>
    bif (cm .eql v1 (0 : Int)) then
      (m_ref_Packed a0).bind fun v6 =>
        k4 v6
    else
      k4 ([] : (List Int))
end Go.Mo
