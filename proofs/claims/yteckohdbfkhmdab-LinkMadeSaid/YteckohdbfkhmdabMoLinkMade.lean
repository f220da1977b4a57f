/- What the functions that this law reaches come to, as plain functions. Conditions: none. -/
import Derived.Test.YteckohdbfkhmdabSwC
set_option linter.unusedVariables false
set_option linter.unusedSimpArgs false
namespace Go.Mo
open Go Go.Sw
abbrev Blk := List Int
abbrev eBlk : Enc Blk := Enc.arr 8 (Enc.int .u8)
def zblk : Blk := List.replicate 8 0
/-- ref_FrameMay -/
def m_ref_FrameMay (a0 : (Int × (List Int) × (List Blk))) : Option (Int) :=
  (bif (cm .lss a0.1 (0 : Int)) then
    some true
  else
    some (cm .gtr a0.1 (15 : Int))).bind fun x2 =>
    bif x2 then
      some (1 : Int)
    else
      (bif (cm .gtr (a0.2.1.length : Int) (12 : Int)) then
        some true
      else
        some (cm .gtr (a0.2.2.length : Int) (32 : Int))).bind fun x6 =>
        bif x6 then
          some (2 : Int)
        else
          lp (β := Unit) (fun (s29 : Int) =>
            bif (cm .lss s29 (a0.2.1.length : Int)) then
              ((Sw.idx a0.2.1 s29).bind fun z46 =>
                bif (cm .lss z46 (0 : Int)) then
                  some true
                else
                  (Sw.idx a0.2.1 s29).bind fun z48 =>
                    some (cm .gtr z48 (2147483647 : Int))).bind fun x45 =>
                bif x45 then
                  some (.done (.ret (1 : Int)))
                else
                  some (.next (ar .add .i64 s29 (1 : Int)))
            else
              some (.done (.brk ()))
            ) (0 : Int) fun (_ : Unit) =>
          some (0 : Int)
/-- ref_MessageMay -/
def m_ref_MessageMay (a0 : (Int × (List Int) × (List Blk))) : Option (Int) :=
  (m_ref_FrameMay a0).bind fun v1 =>
    (bif (cm .eql v1 (0 : Int)) then
      some (cm .gtr (a0.2.1.length : Int) (9 : Int))
    else
      some false).bind fun x3 =>
      bif x3 then
        some (2 : Int)
      else
        some v1
/-- ref_SenderMay -/
def m_ref_SenderMay (a0 : (Int × Int × (List (Int × (List Int) × (List Blk))))) : Option (Int) :=
  (bif (cm .lss a0.1 (0 : Int)) then
    some true
  else
    bif (cm .gtr a0.1 (2147483647 : Int)) then
      some true
    else
      bif (cm .lss a0.2.1 (0 : Int)) then
        some true
      else
        some (cm .gtr a0.2.1 (2147483647 : Int))).bind fun x4 =>
    bif x4 then
      some (1 : Int)
    else
      bif (cm .gtr (a0.2.2.length : Int) (64 : Int)) then
        some (2 : Int)
      else
        lp (β := Unit) (fun (s20 : Int) =>
          bif (cm .lss s20 (a0.2.2.length : Int)) then
            (Sw.idx a0.2.2 s20).bind fun z28 =>
              (m_ref_MessageMay z28).bind fun v29 =>
                bif (cm .neq v29 (0 : Int)) then
                  some (.done (.ret v29))
                else
                  some (.next (ar .add .i64 s20 (1 : Int)))
          else
            some (.done (.brk ()))
          ) (0 : Int) fun (_ : Unit) =>
        some (0 : Int)
/-- ref_Pick -/
def m_ref_Pick (a0 : Int) (a1 : Int) : Option (Int) :=
  jp (fun (x3 : Int) =>
    (nz a1).bind fun _ =>
      some (ar .rem .i64 x3 a1)
    ) fun k2 =>
  bif (cm .lss a0 (0 : Int)) then
    k2 (IntKind.wrap .i64 (0 - (ar .add .i64 a0 (1 : Int))))
  else
    k2 a0
/-- ref_mixed -/
def m_ref_mixed (a0 : Int) : Option (Int) :=
  lp (β := Int) (fun (s9 : Int × Int) =>
    bif (cm .lss s9.2 (4294967296 : Int)) then
      (nz s9.2).bind fun _ =>
        (nz s9.2).bind fun _ =>
          bif (cm .neq (ar .rem .i64 (ar .quo .i64 a0 s9.2) (2 : Int)) (ar .rem .i64 (ar .quo .i64 (3988292384 : Int) s9.2) (2 : Int))) then
            some (.next ((ar .add .i64 s9.1 s9.2), (ar .mul .i64 s9.2 (2 : Int))))
          else
            some (.next (s9.1, (ar .mul .i64 s9.2 (2 : Int))))
    else
      some (.done (.brk s9.1))
    ) ((0 : Int), (1 : Int)) fun (x15 : Int) =>
  some x15
/-- ref_SumOf -/
def m_ref_SumOf (a0 : (List Int)) : Option (Int) :=
  lp (β := Int) (fun (s53 : Int × Int) =>
    bif (cm .lss s53.2 (a0.length : Int)) then
      lp (β := Int) (fun (s93 : Int × Int) =>
        bif (cm .lss s93.2 (256 : Int)) then
          (Sw.idx a0 s53.2).bind fun z102 =>
            (nz s93.2).bind fun _ =>
              bif (cm .eql (ar .rem .i64 (ar .add .i64 s93.1 (ar .quo .i64 z102 s93.2)) (2 : Int)) (1 : Int)) then
                (m_ref_mixed (ar .quo .i64 s93.1 (2 : Int))).bind fun v105 =>
                  some (.next (v105, (ar .mul .i64 s93.2 (2 : Int))))
              else
                some (.next ((ar .quo .i64 s93.1 (2 : Int)), (ar .mul .i64 s93.2 (2 : Int))))
        else
          some (.done (.brk s93.1))
        ) (s53.1, (1 : Int)) fun (x100 : Int) =>
      some (.next (x100, (ar .add .i64 s53.2 (1 : Int))))
    else
      some (.done (.brk s53.1))
    ) ((4294967295 : Int), (0 : Int)) fun (x80 : Int) =>
  some (IntKind.wrap .u32 (ar .sub .i64 (4294967295 : Int) x80))
/-- ref_Packed -/
def m_ref_Packed (a0 : (Int × (List Int) × (List Blk))) : Option ((List Int)) :=
  lp (β := (List Int)) (fun (s35 : Int × (List Int)) =>
    bif (cm .lss s35.1 (a0.2.1.length : Int)) then
      (Sw.idx a0.2.1 s35.1).bind fun z55 =>
        lp (β := Int × (List Int)) (fun (s62 : Int × (List Int)) =>
          bif (cm .geq s62.1 (128 : Int)) then
            (Sw.app s62.2 ([(IntKind.wrap .u8 (ar .add .i64 (128 : Int) (ar .rem .i64 s62.1 (128 : Int))))] : (List Int))).bind fun v68 =>
              some (.next ((ar .quo .i64 s62.1 (128 : Int)), v68))
          else
            some (.done (.brk (s62.1, s62.2)))
          ) (z55, s35.2) fun (x66 : Int × (List Int)) =>
        (Sw.app x66.2 ([(IntKind.wrap .u8 x66.1)] : (List Int))).bind fun v69 =>
          some (.next ((ar .add .i64 s35.1 (1 : Int)), v69))
    else
      some (.done (.brk s35.2))
    ) ((0 : Int), ([(IntKind.wrap .u8 (ar .add .i64 (ar .mul .i64 (16 : Int) a0.1) (a0.2.1.length : Int))), (IntKind.wrap .u8 (a0.2.2.length : Int))] : (List Int))) fun (x53 : (List Int)) =>
  lp (β := (List Int)) (fun (s116 : Int × (List Int)) =>
    bif (cm .lss s116.1 (a0.2.2.length : Int)) then
      lp (β := (List Int)) (fun (s152 : Int × (List Int)) =>
        bif (cm .lss s152.1 (8 : Int)) then
          (Sw.idx a0.2.2 s116.1).bind fun z160 =>
            (Sw.idx z160 s152.1).bind fun z161 =>
              (Sw.app s152.2 ([z161] : (List Int))).bind fun v162 =>
                some (.next ((ar .add .i64 s152.1 (1 : Int)), v162))
        else
          some (.done (.brk s152.2))
        ) ((0 : Int), s116.2) fun (x158 : (List Int)) =>
      some (.next ((ar .add .i64 s116.1 (1 : Int)), x158))
    else
      some (.done (.brk s116.2))
    ) ((0 : Int), x53) fun (x140 : (List Int)) =>
  (m_ref_SumOf x140).bind fun v163 =>
    (Sw.app x140 ([(IntKind.wrap .u8 (ar .quo .i64 v163 (16777216 : Int))), (IntKind.wrap .u8 (ar .rem .i64 (ar .quo .i64 v163 (65536 : Int)) (256 : Int))), (IntKind.wrap .u8 (ar .rem .i64 (ar .quo .i64 v163 (256 : Int)) (256 : Int))), (IntKind.wrap .u8 (ar .rem .i64 v163 (256 : Int)))] : (List Int))).bind fun v164 =>
      some v164
/-- ref_DataOf -/
def m_ref_DataOf (a0 : (Int × Int × (List (Int × (List Int) × (List Blk))))) (a1 : Int) : Option ((List Int)) :=
  (Sw.idx a0.2.2 a1).bind fun z1 =>
    (Sw.app ([a0.1, (ar .add .i64 a0.2.1 a1), z1.1] : (List Int)) z1.2.1).bind fun v2 =>
      (m_ref_Packed ((1 : Int), v2, z1.2.2)).bind fun v3 =>
        some v3
/-- ref_SameBytes -/
def m_ref_SameBytes (a0 : (List Int)) (a1 : (List Int)) : Option (Bool) :=
  bif (cm .neq (a0.length : Int) (a1.length : Int)) then
    some false
  else
    lp (β := Unit) (fun (s12 : Int) =>
      bif (cm .lss s12 (a0.length : Int)) then
        (Sw.idx a0 s12).bind fun z20 =>
          (Sw.idx a1 s12).bind fun z21 =>
            bif (cm .neq z20 z21) then
              some (.done (.ret false))
            else
              some (.next (ar .add .i64 s12 (1 : Int)))
      else
        some (.done (.brk ()))
      ) (0 : Int) fun (_ : Unit) =>
    some true
/-- ref_Unpacked -/
def m_ref_Unpacked (a0 : (List Int)) : Option ((Int × (List Int) × (List Blk)) × Bool) :=
  bif (cm .lss (a0.length : Int) (6 : Int)) then
    some (((0 : Int), ([] : (List Int)), ([] : (List Blk))), false)
  else
    (Sw.idx a0 (0 : Int)).bind fun z2 =>
      lp (β := Int × (List Int)) (fun (s71 : Int × Int × (List Int)) =>
        (Sw.idx a0 (0 : Int)).bind fun z107 =>
          bif (cm .lss s71.2.1 (ar .rem .i64 z107 (16 : Int))) then
            lp (β := Int × Int) (fun (s123 : Int × Int × Int) =>
              (bif (cm .geq s123.1 (ar .sub .i64 (a0.length : Int) (4 : Int))) then
                some true
              else
                some (cm .gtr s123.2.2 (1099511627776 : Int))).bind fun x133 =>
                bif x133 then
                  some (.done (.ret (.done (.ret (((0 : Int), ([] : (List Int)), ([] : (List Blk))), false)))))
                else
                  (Sw.idx a0 s123.1).bind fun z136 =>
                    bif (cm .lss z136 (128 : Int)) then
                      some (.done (.brk ((ar .add .i64 s123.1 (1 : Int)), (ar .add .i64 s123.2.1 (ar .mul .i64 (ar .rem .i64 z136 (128 : Int)) s123.2.2)))))
                    else
                      some (.next ((ar .add .i64 s123.1 (1 : Int)), (ar .add .i64 s123.2.1 (ar .mul .i64 (ar .rem .i64 z136 (128 : Int)) s123.2.2)), (ar .mul .i64 s123.2.2 (128 : Int))))
              ) (s71.1, (0 : Int), (1 : Int)) fun (x131 : Int × Int) =>
            (Sw.app s71.2.2 ([x131.2] : (List Int))).bind fun v138 =>
              some (.next (x131.1, (ar .add .i64 s71.2.1 (1 : Int)), v138))
          else
            some (.done (.brk (s71.1, s71.2.2)))
        ) ((2 : Int), (0 : Int), ([] : (List Int))) fun (x106 : Int × (List Int)) =>
      lp (β := (List Blk)) (fun (s183 : Int × Int × (List Blk)) =>
        (Sw.idx a0 (1 : Int)).bind fun z207 =>
          bif (cm .lss s183.2.1 z207) then
            bif (cm .gtr (ar .add .i64 s183.1 (8 : Int)) (ar .sub .i64 (a0.length : Int) (4 : Int))) then
              some (.done (.ret (((0 : Int), ([] : (List Int)), ([] : (List Blk))), false)))
            else
              lp (β := Blk) (fun (s218 : Int × Blk) =>
                bif (cm .lss s218.1 (8 : Int)) then
                  (Sw.idx a0 (ar .add .i64 s183.1 s218.1)).bind fun z225 =>
                    (Sw.idx s218.2 s218.1).bind fun _ =>
                      some (.next ((ar .add .i64 s218.1 (1 : Int)), (List.set s218.2 (Int.toNat s218.1) z225)))
                else
                  some (.done (.brk s218.2))
                ) ((0 : Int), zblk) fun (x223 : Blk) =>
              (Sw.app s183.2.2 ([x223] : (List Blk))).bind fun v227 =>
                some (.next ((ar .add .i64 s183.1 (8 : Int)), (ar .add .i64 s183.2.1 (1 : Int)), v227))
          else
            some (.done (.brk s183.2.2))
        ) (x106.1, (0 : Int), ([] : (List Blk))) fun (x206 : (List Blk)) =>
      ((m_ref_FrameMay ((ar .quo .i64 z2 (16 : Int)), x106.2, x206)).bind fun v233 =>
        bif (cm .neq v233 (0 : Int)) then
          some true
        else
          (m_ref_Packed ((ar .quo .i64 z2 (16 : Int)), x106.2, x206)).bind fun v235 =>
            (m_ref_SameBytes v235 a0).bind fun v236 =>
              some (!v236)).bind fun x232 =>
        bif x232 then
          some (((0 : Int), ([] : (List Int)), ([] : (List Blk))), false)
        else
          some (((ar .quo .i64 z2 (16 : Int)), x106.2, x206), true)
/-- ref_Window -/
def m_ref_Window (a0 : (Int × Int × (List (Int × (List Int) × (List Blk))))) : Option (Int) :=
  bif (cm .lss (a0.2.2.length : Int) (4 : Int)) then
    some (a0.2.2.length : Int)
  else
    some (4 : Int)
/-- ref_HeardOf -/
def m_ref_HeardOf (a0 : (Int × Int × (List (Int × (List Int) × (List Blk))))) (a1 : (List Int)) : Option ((Int × Int × (List (Int × (List Int) × (List Blk))))) :=
  (m_ref_Unpacked a1).bind fun v1 =>
    (bif (!v1.2) then
      some true
    else
      bif (cm .neq v1.1.1 (0 : Int)) then
        some true
      else
        bif (cm .gtr (v1.1.2.2.length : Int) (0 : Int)) then
          some true
        else
          bif (cm .neq (v1.1.2.1.length : Int) (2 : Int)) then
            some true
          else
            (Sw.idx v1.1.2.1 (0 : Int)).bind fun z12 =>
              some (cm .neq z12 a0.1)).bind fun x7 =>
      bif x7 then
        some a0
      else
        lp (β := Unit) (fun (s26 : Int) =>
          (m_ref_Window a0).bind fun v34 =>
            bif (cm .leq s26 v34) then
              (Sw.idx v1.1.2.1 (1 : Int)).bind fun z36 =>
                bif (cm .eql z36 (ar .add .i64 a0.2.1 s26)) then
                  (Sw.sub a0.2.2 s26 (a0.2.2.length : Int)).bind fun v38 =>
                    some (.done (.ret (a0.1, (ar .add .i64 a0.2.1 s26), v38)))
                else
                  some (.next (ar .add .i64 s26 (1 : Int)))
            else
              some (.done (.brk ()))
          ) (1 : Int) fun (_ : Unit) =>
        some a0
/-- link_number_1 -/
def m_link_number_1 (a0 : Int) : Option (Bool) :=
  (bif (cm .lss a0 (0 : Int)) then
    some true
  else
    some (cm .gtr a0 (2147483647 : Int))).bind fun x2 =>
    some x2
/-- slices_IndexFunc_int_int -/
def m_slices_IndexFunc_int_int__link_number_1 (a0 : (List Int)) : Option (Int) :=
  lp (β := Unit) (fun (s11 : Int) =>
    bif (cm .lss s11 (a0.length : Int)) then
      (Sw.idx a0 s11).bind fun z19 =>
        (m_link_number_1 z19).bind fun v20 =>
          bif v20 then
            some (.done (.ret s11))
          else
            some (.next (ar .add .i64 s11 (1 : Int)))
    else
      some (.done (.brk ()))
    ) (0 : Int) fun (_ : Unit) =>
  some (-1 : Int)
/-- slices_ContainsFunc_int_int -/
def m_slices_ContainsFunc_int_int__link_number_1 (a0 : (List Int)) : Option (Bool) :=
  (m_slices_IndexFunc_int_int__link_number_1 a0).bind fun v1 =>
    some (cm .geq v1 (0 : Int))
/-- link_number -/
def m_link_number (a0 : (List Int)) : Option (Bool) :=
  (m_slices_ContainsFunc_int_int__link_number_1 a0).bind fun v1 =>
    some (!v1)
/-- frame_Check_1 -/
def m_frame_Check_1 (a0 : Int) : Option (Bool) :=
  (bif (cm .lss a0 (0 : Int)) then
    some true
  else
    some (cm .gtr a0 (2147483647 : Int))).bind fun x2 =>
    some x2
/-- slices_IndexFunc_int_int -/
def m_slices_IndexFunc_int_int__frame_Check_1 (a0 : (List Int)) : Option (Int) :=
  lp (β := Unit) (fun (s11 : Int) =>
    bif (cm .lss s11 (a0.length : Int)) then
      (Sw.idx a0 s11).bind fun z19 =>
        (m_frame_Check_1 z19).bind fun v20 =>
          bif v20 then
            some (.done (.ret s11))
          else
            some (.next (ar .add .i64 s11 (1 : Int)))
    else
      some (.done (.brk ()))
    ) (0 : Int) fun (_ : Unit) =>
  some (-1 : Int)
/-- slices_ContainsFunc_int_int -/
def m_slices_ContainsFunc_int_int__frame_Check_1 (a0 : (List Int)) : Option (Bool) :=
  (m_slices_IndexFunc_int_int__frame_Check_1 a0).bind fun v1 =>
    some (cm .geq v1 (0 : Int))
/-- frame_Check -/
def m_frame_Check (a0 : (Int × (List Int) × (List Blk))) : Option ((Option Int)) :=
  (bif (cm .lss a0.1 (0 : Int)) then
    some true
  else
    some (cm .gtr a0.1 (15 : Int))).bind fun x2 =>
    bif x2 then
      some (some (1 : Int))
    else
      (bif (cm .gtr (a0.2.1.length : Int) (12 : Int)) then
        some true
      else
        some (cm .gtr (a0.2.2.length : Int) (32 : Int))).bind fun x6 =>
        bif x6 then
          some (some (2 : Int))
        else
          (m_slices_ContainsFunc_int_int__frame_Check_1 a0.2.1).bind fun v9 =>
            bif v9 then
              some (some (1 : Int))
            else
              some (none : Option Int)
/-- link_load -/
def m_link_load (a0 : (Int × (List Int) × (List Blk))) : Option ((Option Int)) :=
  (m_frame_Check a0).bind fun v1 =>
    bif (Option.isSome v1) then
      some v1
    else
      bif (cm .gtr (a0.2.1.length : Int) (9 : Int)) then
        some (some (2 : Int))
      else
        some (none : Option Int)
/-- link_Check -/
def m_link_Check (a0 : (Int × Int × (List (Int × (List Int) × (List Blk))))) : Option ((Option Int)) :=
  (m_link_number ([a0.1, a0.2.1] : (List Int))).bind fun v1 =>
    bif (!v1) then
      some (some (1 : Int))
    else
      bif (cm .gtr (a0.2.2.length : Int) (64 : Int)) then
        some (some (2 : Int))
      else
        lp (β := Unit) (fun (s14 : Int) =>
          bif (cm .lss s14 (a0.2.2.length : Int)) then
            (Sw.idx a0.2.2 s14).bind fun z22 =>
              (m_link_load z22).bind fun v23 =>
                bif (Option.isSome v23) then
                  some (.done (.ret v23))
                else
                  some (.next (ar .add .i64 s14 (1 : Int)))
          else
            some (.done (.brk ()))
          ) (0 : Int) fun (_ : Unit) =>
        some (none : Option Int)
/-- slices_Clone_int_int -/
def m_slices_Clone_int_int_nil (a0 : (Bool × (List Int))) : Option ((List Int)) :=
  bif a0.1 then
    some ([] : (List Int))
  else
    (Sw.app ([] : (List Int)) a0.2).bind fun v2 =>
      some v2
/-- slices_Clone_int_int -/
def m_slices_Clone_int_int (a0 : (List Int)) : Option (List Int) := Sw.app [] a0
/-- slices_Clone_api_Block_api_Block -/
def m_slices_Clone_api_Block_api_Block_nil (a0 : (Bool × (List Blk))) : Option ((List Blk)) :=
  bif a0.1 then
    some ([] : (List Blk))
  else
    (Sw.app ([] : (List Blk)) a0.2).bind fun v2 =>
      some v2
/-- slices_Clone_api_Block_api_Block -/
def m_slices_Clone_api_Block_api_Block (a0 : (List Blk)) : Option (List Blk) := Sw.app [] a0
/-- link_clone -/
def m_link_clone (a0 : (Int × (List Int) × (List Blk))) : Option ((Int × (List Int) × (List Blk))) :=
  (m_slices_Clone_int_int a0.2.1).bind fun v1 =>
    (m_slices_Clone_api_Block_api_Block a0.2.2).bind fun v2 =>
      some (a0.1, v1, v2)
/-- link_queue -/
def m_link_queue (a0 : (List (Int × (List Int) × (List Blk)))) : Option ((List (Int × (List Int) × (List Blk)))) :=
  lp (β := (List (Int × (List Int) × (List Blk)))) (fun (s11 : Int × (List (Int × (List Int) × (List Blk)))) =>
    bif (cm .lss s11.1 (a0.length : Int)) then
      (Sw.idx a0 s11.1).bind fun z19 =>
        (m_link_clone z19).bind fun v20 =>
          (Sw.app s11.2 ([v20] : (List (Int × (List Int) × (List Blk))))).bind fun v21 =>
            some (.next ((ar .add .i64 s11.1 (1 : Int)), v21))
    else
      some (.done (.brk s11.2))
    ) ((0 : Int), ([] : (List (Int × (List Int) × (List Blk))))) fun (x17 : (List (Int × (List Int) × (List Blk)))) =>
  some x17
/-- frame_Sum -/
def m_frame_Sum (a0 : (List Int)) : Option (Int) :=
  lp (β := Int) (fun (s25 : Int × Int) =>
    bif (cm .lss s25.2 (a0.length : Int)) then
      (Sw.idx a0 s25.2).bind fun z40 =>
        lp (β := Int) (fun (s45 : Int × Int) =>
          bif (cm .lss s45.2 (8 : Int)) then
            some (.next ((ar .xor .u32 (sh .shr .u32 s45.1 (1 : Int)) (ar .mul .u32 (3988292384 : Int) (ar .and .u32 s45.1 (1 : Int)))), (ar .add .i64 s45.2 (1 : Int))))
          else
            some (.done (.brk s45.1))
          ) ((ar .xor .u32 s25.1 z40), (0 : Int)) fun (x48 : Int) =>
        some (.next (x48, (ar .add .i64 s25.2 (1 : Int))))
    else
      some (.done (.brk s25.1))
    ) ((4294967295 : Int), (0 : Int)) fun (x38 : Int) =>
  some (bnot .u32 x38)
/-- frame_taker_byte -/
def m_frame_taker_byte_io (a0_0 : (List Int)) : Option (Int × Bool × (List Int)) :=
  bif (cm .eql (a0_0.length : Int) (0 : Int)) then
    some ((0 : Int), false, a0_0)
  else
    (Sw.idx a0_0 (0 : Int)).bind fun z2 =>
      (Sw.sub a0_0 (1 : Int) (a0_0.length : Int)).bind fun v3 =>
        some (z2, true, v3)
/-- frame_taker_number -/
def m_frame_taker_number_io (a0_0 : (List Int)) : Option (Int × Bool × (List Int)) :=
  lp (β := (List Int)) (fun (s22 : Int × Int × (List Int)) =>
    bif (cm .lss s22.2.1 (35 : Int)) then
      (m_frame_taker_byte_io s22.2.2).bind fun v36 =>
        bif (!v36.2.1) then
          some (.done (.ret ((0 : Int), false, v36.2.2)))
        else
          (nn s22.2.1).bind fun _ =>
            bif (cm .lss v36.1 (128 : Int)) then
              (bif (cm .leq (ar .or .i64 s22.1 (sh .shl .i64 (ar .and .u8 v36.1 (127 : Int)) s22.2.1)) (2147483647 : Int)) then
                bif (cm .gtr v36.1 (0 : Int)) then
                  some true
                else
                  some (cm .eql s22.2.1 (0 : Int))
              else
                some false).bind fun x42 =>
                some (.done (.ret ((ar .or .i64 s22.1 (sh .shl .i64 (ar .and .u8 v36.1 (127 : Int)) s22.2.1)), x42, v36.2.2)))
            else
              some (.next ((ar .or .i64 s22.1 (sh .shl .i64 (ar .and .u8 v36.1 (127 : Int)) s22.2.1)), (ar .add .i64 s22.2.1 (7 : Int)), v36.2.2))
    else
      some (.done (.brk s22.2.2))
    ) ((0 : Int), (0 : Int), a0_0) fun (x34 : (List Int)) =>
  some ((0 : Int), false, x34)
/-- slices_Chunk_byte_byte -/
def m_slices_Chunk_byte_byte (a0 : (List Int)) (a1 : Int) : Option (((List Int) × Int)) :=
  jp (fun (_ : Unit) =>
    some (a0, a1)
    ) fun k2 =>
  bif (cm .lss a1 (1 : Int)) then
    none
  else
    k2 ()

/-- frame_Unpack -/
def m_frame_Unpack (a0 : (List Int)) : Option ((Int × (List Int) × (List Blk)) × (Option Int)) :=
  bif (cm .lss (a0.length : Int) (6 : Int)) then
    some (((0 : Int), ([] : (List Int)), ([] : (List Blk))), (some (3 : Int)))
  else
    (Sw.sub a0 (0 : Int) (ar .sub .i64 (a0.length : Int) (4 : Int))).bind fun v2 =>
      (m_frame_Sum v2).bind fun v3 =>
        (Sw.sub a0 (v2.length : Int) (a0.length : Int)).bind fun v4 =>
          (Sw.arrOf 4 v4).bind fun z5 =>
            bif (!decide (z5 = ([(IntKind.wrap .u8 (sh .shr .u32 v3 (24 : Int))), (IntKind.wrap .u8 (sh .shr .u32 v3 (16 : Int))), (IntKind.wrap .u8 (sh .shr .u32 v3 (8 : Int))), (IntKind.wrap .u8 v3)] : (List Int)))) then
              some (((0 : Int), ([] : (List Int)), ([] : (List Blk))), (some (3 : Int)))
            else
              (m_frame_taker_byte_io v2).bind fun v7 =>
                (m_frame_taker_byte_io v7.2.2).bind fun v8 =>
                  lp (β := (List Int) × (List Int)) (fun (s19 : Int × (List Int) × (List Int)) =>
                    bif (cm .lss s19.1 (ar .and .u8 v7.1 (15 : Int))) then
                      (m_frame_taker_number_io s19.2.1).bind fun v27 =>
                        bif (!v27.2.1) then
                          some (.done (.ret (((0 : Int), ([] : (List Int)), ([] : (List Blk))), (some (3 : Int)))))
                        else
                          (Sw.app s19.2.2 ([v27.1] : (List Int))).bind fun v29 =>
                            some (.next ((ar .add .u8 s19.1 (1 : Int)), v27.2.2, v29))
                    else
                      some (.done (.brk (s19.2.1, s19.2.2)))
                    ) ((0 : Int), v8.2.2, ([] : (List Int))) fun (x25 : (List Int) × (List Int)) =>
                  (bif (cm .gtr v8.1 (32 : Int)) then
                    some true
                  else
                    bif (cm .gtr (x25.2.length : Int) (12 : Int)) then
                      some true
                    else
                      some (cm .neq (x25.1.length : Int) (ar .mul .i64 v8.1 (8 : Int)))).bind fun x32 =>
                    bif x32 then
                      some (((0 : Int), ([] : (List Int)), ([] : (List Blk))), (some (3 : Int)))
                    else
                      (m_slices_Chunk_byte_byte x25.1 (8 : Int)).bind fun v36 =>
                        (Sw.small v36.1).bind fun _ =>
                          (Sw.chkn v36.2).bind fun _ =>
                            rg (δ := Empty) (fun (z38 : (List Int)) (s45 : (List Blk)) =>
                              (Sw.arrOf 8 z38).bind fun z46 =>
                                (Sw.app s45 ([z46] : (List Blk))).bind fun v47 =>
                                  some (.next v47)
                              ) (Sw.chunks (Int.toNat v36.2) v36.1) ([] : (List Blk)) (fun (x48 : (List Blk)) =>
                              some (((sh .shr .u8 v7.1 (4 : Int)), x25.2, x48), (none : Option Int))
                              ) fun (z : Empty) => z.elim
/-- link_Heard -/
def m_link_Heard (a0 : (Int × Int × (List (Int × (List Int) × (List Blk))))) (a1 : (List Int)) : Option ((Int × Int × (List (Int × (List Int) × (List Blk)))) × (Option Int)) :=
  (m_link_Check a0).bind fun v1 =>
    bif (Option.isSome v1) then
      some (((0 : Int), (0 : Int), ([] : (List (Int × (List Int) × (List Blk))))), v1)
    else
      (m_link_queue a0.2.2).bind fun v3 =>
        (m_frame_Unpack a1).bind fun v4 =>
          (bif (Option.isSome v4.2) then
            some true
          else
            bif (cm .neq v4.1.1 (0 : Int)) then
              some true
            else
              bif (cm .neq (v4.1.2.1.length : Int) (2 : Int)) then
                some true
              else
                bif (cm .gtr (v4.1.2.2.length : Int) (0 : Int)) then
                  some true
                else
                  (Sw.idx v4.1.2.1 (0 : Int)).bind fun z15 =>
                    some (cm .neq z15 a0.1)).bind fun x10 =>
            bif x10 then
              some ((a0.1, a0.2.1, v3), (none : Option Int))
            else
              (Sw.idx v4.1.2.1 (1 : Int)).bind fun z17 =>
                (bif (cm .gtr (ar .sub .i64 z17 a0.2.1) (0 : Int)) then
                  some (cm .leq (ar .sub .i64 z17 a0.2.1) (min (v3.length : Int) (4 : Int)))
                else
                  some false).bind fun x19 =>
                  jp (fun (x26 : Int × (List (Int × (List Int) × (List Blk)))) =>
                    some ((a0.1, x26.1, x26.2), (none : Option Int))
                    ) fun k25 =>
                  bif x19 then
                    (Sw.idx v4.1.2.1 (1 : Int)).bind fun z28 =>
                      (Sw.sub v3 (ar .sub .i64 z17 a0.2.1) (v3.length : Int)).bind fun v29 =>
                        k25 (z28, v29)
                  else
                    k25 (a0.2.1, v3)
/-- ref_Is -/
def m_ref_Is (a0 : (Option Int)) (a1 : Int) : Option (Bool) :=
  bif (Option.isNone a0) then
    some (cm .eql a1 (0 : Int))
  else
    (bif (cm .neq a1 (0 : Int)) then
      some (a0 == (some a1))
    else
      some false).bind fun x3 =>
      some x3
/-- ref_SameInts -/
def m_ref_SameInts (a0 : (List Int)) (a1 : (List Int)) : Option (Bool) :=
  bif (cm .neq (a0.length : Int) (a1.length : Int)) then
    some false
  else
    lp (β := Unit) (fun (s12 : Int) =>
      bif (cm .lss s12 (a0.length : Int)) then
        (Sw.idx a0 s12).bind fun z20 =>
          (Sw.idx a1 s12).bind fun z21 =>
            bif (cm .neq z20 z21) then
              some (.done (.ret false))
            else
              some (.next (ar .add .i64 s12 (1 : Int)))
      else
        some (.done (.brk ()))
      ) (0 : Int) fun (_ : Unit) =>
    some true
/-- ref_SameBlocks -/
def m_ref_SameBlocks (a0 : (List Blk)) (a1 : (List Blk)) : Option (Bool) :=
  bif (cm .neq (a0.length : Int) (a1.length : Int)) then
    some false
  else
    lp (β := Unit) (fun (s12 : Int) =>
      bif (cm .lss s12 (a0.length : Int)) then
        (Sw.idx a0 s12).bind fun z20 =>
          (Sw.idx a1 s12).bind fun z21 =>
            bif (!decide (z20 = z21)) then
              some (.done (.ret false))
            else
              some (.next (ar .add .i64 s12 (1 : Int)))
      else
        some (.done (.brk ()))
      ) (0 : Int) fun (_ : Unit) =>
    some true
/-- ref_SameFrame -/
def m_ref_SameFrame (a0 : (Int × (List Int) × (List Blk))) (a1 : (Int × (List Int) × (List Blk))) : Option (Bool) :=
  (bif (cm .eql a0.1 a1.1) then
    (m_ref_SameInts a0.2.1 a1.2.1).bind fun v7 =>
      bif v7 then
        (m_ref_SameBlocks a0.2.2 a1.2.2).bind fun v9 =>
          some v9
      else
        some false
  else
    some false).bind fun x5 =>
    some x5
/-- ref_SameSender -/
def m_ref_SameSender (a0 : (Int × Int × (List (Int × (List Int) × (List Blk))))) (a1 : (Int × Int × (List (Int × (List Int) × (List Blk))))) : Option (Bool) :=
  (bif (cm .neq a0.1 a1.1) then
    some true
  else
    bif (cm .neq a0.2.1 a1.2.1) then
      some true
    else
      some (cm .neq (a0.2.2.length : Int) (a1.2.2.length : Int))).bind fun x3 =>
    bif x3 then
      some false
    else
      lp (β := Unit) (fun (s19 : Int) =>
        bif (cm .lss s19 (a0.2.2.length : Int)) then
          (Sw.idx a0.2.2 s19).bind fun z28 =>
            (Sw.idx a1.2.2 s19).bind fun z29 =>
              (m_ref_SameFrame z28 z29).bind fun v30 =>
                bif (!v30) then
                  some (.done (.ret false))
                else
                  some (.next (ar .add .i64 s19 (1 : Int)))
        else
          some (.done (.brk ()))
        ) (0 : Int) fun (_ : Unit) =>
      some true
/-- frame_Pack -/
def m_frame_Pack (a0 : (Int × (List Int) × (List Blk))) : Option ((List Int) × (Option Int)) :=
  (m_frame_Check a0).bind fun v1 =>
    bif (Option.isSome v1) then
      some (([] : (List Int)), v1)
    else
      lp (β := (List Int)) (fun (s37 : Int × (List Int)) =>
        bif (cm .lss s37.1 (a0.2.1.length : Int)) then
          (Sw.idx a0.2.1 s37.1).bind fun z57 =>
            lp (β := Int × (List Int)) (fun (s64 : Int × (List Int)) =>
              bif (cm .gtr s64.1 (127 : Int)) then
                (Sw.app s64.2 ([(ar .or .u8 (IntKind.wrap .u8 s64.1) (128 : Int))] : (List Int))).bind fun v70 =>
                  some (.next ((sh .shr .i64 s64.1 (7 : Int)), v70))
              else
                some (.done (.brk (s64.1, s64.2)))
              ) (z57, s37.2) fun (x68 : Int × (List Int)) =>
            (Sw.app x68.2 ([(IntKind.wrap .u8 x68.1)] : (List Int))).bind fun v71 =>
              some (.next ((ar .add .i64 s37.1 (1 : Int)), v71))
        else
          some (.done (.brk s37.2))
        ) ((0 : Int), ([(ar .or .u8 (sh .shl .u8 (IntKind.wrap .u8 a0.1) (4 : Int)) (IntKind.wrap .u8 (a0.2.1.length : Int))), (IntKind.wrap .u8 (a0.2.2.length : Int))] : (List Int))) fun (x55 : (List Int)) =>
      lp (β := (List Int)) (fun (s80 : Int × (List Int)) =>
        bif (cm .lss s80.1 (a0.2.2.length : Int)) then
          (Sw.idx a0.2.2 s80.1).bind fun z87 =>
            (Sw.app s80.2 z87).bind fun v88 =>
              some (.next ((ar .add .i64 s80.1 (1 : Int)), v88))
        else
          some (.done (.brk s80.2))
        ) ((0 : Int), x55) fun (x85 : (List Int)) =>
      (m_frame_Sum x85).bind fun v89 =>
        (Sw.app x85 ([(IntKind.wrap .u8 (sh .shr .u32 v89 (24 : Int))), (IntKind.wrap .u8 (sh .shr .u32 v89 (16 : Int))), (IntKind.wrap .u8 (sh .shr .u32 v89 (8 : Int))), (IntKind.wrap .u8 v89)] : (List Int))).bind fun v90 =>
          some (v90, (none : Option Int))
/-- link_Receive -/
def m_link_Receive (a0 : (Int × Int)) (a1 : (List Int)) : Option ((Int × Int) × (Int × (List Int) × (List Blk)) × Bool × (List Int) × (Option Int)) :=
  (m_link_number ([a0.1, a0.2] : (List Int))).bind fun v1 =>
    bif (!v1) then
      some (((0 : Int), (0 : Int)), ((0 : Int), ([] : (List Int)), ([] : (List Blk))), false, ([] : (List Int)), (some (1 : Int)))
    else
      (m_frame_Unpack a1).bind fun v3 =>
        (bif (Option.isSome v3.2) then
          some true
        else
          bif (cm .neq v3.1.1 (1 : Int)) then
            some true
          else
            bif (cm .lss (v3.1.2.1.length : Int) (3 : Int)) then
              some true
            else
              (Sw.idx v3.1.2.1 (0 : Int)).bind fun z14 =>
                bif (cm .neq z14 a0.1) then
                  some true
                else
                  (Sw.idx v3.1.2.1 (2 : Int)).bind fun z16 =>
                    some (cm .gtr z16 (15 : Int))).bind fun x10 =>
          bif x10 then
            some (a0, ((0 : Int), ([] : (List Int)), ([] : (List Blk))), false, ([] : (List Int)), (none : Option Int))
          else
            ((Sw.idx v3.1.2.1 (1 : Int)).bind fun z21 =>
              bif (cm .eql z21 a0.2) then
                some (cm .lss a0.2 (2147483647 : Int))
              else
                some false).bind fun x20 =>
              jp (fun (x27 : Bool × Int × Int × (List Int) × (List Blk)) =>
                (m_frame_Pack ((0 : Int), ([a0.1, x27.2.1] : (List Int)), ([] : (List Blk)))).bind fun v30 =>
                  some ((a0.1, x27.2.1), x27.2.2, x27.1, v30.1, v30.2)
                ) fun k26 =>
              bif x20 then
                (Sw.idx v3.1.2.1 (2 : Int)).bind fun z28 =>
                  (Sw.sub v3.1.2.1 (3 : Int) (v3.1.2.1.length : Int)).bind fun v29 =>
                    k26 (true, (ar .add .i64 a0.2 (1 : Int)), z28, v29, v3.1.2.2)
              else
                k26 (false, a0.2, (0 : Int), ([] : (List Int)), ([] : (List Blk)))
/-- ref_ReceivedOf -/
def m_ref_ReceivedOf (a0 : (Int × Int)) (a1 : (List Int)) : Option ((Int × Int) × (Int × (List Int) × (List Blk)) × Bool × (List Int)) :=
  (m_ref_Unpacked a1).bind fun v1 =>
    (bif (!v1.2) then
      some true
    else
      bif (cm .neq v1.1.1 (1 : Int)) then
        some true
      else
        bif (cm .lss (v1.1.2.1.length : Int) (3 : Int)) then
          some true
        else
          (Sw.idx v1.1.2.1 (0 : Int)).bind fun z12 =>
            bif (cm .neq z12 a0.1) then
              some true
            else
              (Sw.idx v1.1.2.1 (2 : Int)).bind fun z14 =>
                some (cm .gtr z14 (15 : Int))).bind fun x8 =>
      bif x8 then
        some (a0, ((0 : Int), ([] : (List Int)), ([] : (List Blk))), false, ([] : (List Int)))
      else
        ((Sw.idx v1.1.2.1 (1 : Int)).bind fun z19 =>
          bif (cm .eql z19 a0.2) then
            some (cm .lss a0.2 (2147483647 : Int))
          else
            some false).bind fun x18 =>
          jp (fun (x25 : Int × Int × (List Int) × (List Blk)) =>
            (m_ref_Packed ((0 : Int), ([a0.1, x25.1] : (List Int)), ([] : (List Blk)))).bind fun v28 =>
              some ((a0.1, x25.1), x25.2, x18, v28)
            ) fun k24 =>
          bif x18 then
            (Sw.idx v1.1.2.1 (2 : Int)).bind fun z26 =>
              (Sw.sub v1.1.2.1 (3 : Int) (v1.1.2.1.length : Int)).bind fun v27 =>
                k24 ((ar .add .i64 a0.2 (1 : Int)), z26, v27, v1.1.2.2)
          else
            k24 (a0.2, (0 : Int), ([] : (List Int)), ([] : (List Blk)))
/-- law_LinkHears -/
def m_law_LinkHears (a0 : (Int × Int × (List (Int × (List Int) × (List Blk))))) (a1 : (Int × Int)) (a2 : (List Int)) : Option (Bool) :=
  (bif (cm .gtr (a0.2.2.length : Int) (100 : Int)) then
    some true
  else
    some (cm .gtr (a2.length : Int) (2000 : Int))).bind fun x2 =>
    bif x2 then
      some true
    else
      (m_ref_SenderMay a0).bind fun v5 =>
        jp (fun (x9 : Int × Int × (List (Int × (List Int) × (List Blk)))) =>
          (m_link_Heard a0 a2).bind fun v11 =>
            ((m_ref_Is v11.2 v5).bind fun v16 =>
              bif (!v16) then
                some true
              else
                (m_ref_SameSender v11.1 x9).bind fun v18 =>
                  some (!v18)).bind fun x15 =>
              bif x15 then
                some false
              else
                (m_link_Receive a1 a2).bind fun v20 =>
                  (bif (cm .lss a1.1 (0 : Int)) then
                    some true
                  else
                    bif (cm .gtr a1.1 (2147483647 : Int)) then
                      some true
                    else
                      bif (cm .lss a1.2 (0 : Int)) then
                        some true
                      else
                        some (cm .gtr a1.2 (2147483647 : Int))).bind fun x24 =>
                    bif x24 then
                      (bif (v20.2.2.2.2 == (some (1 : Int))) then
                        bif (decide (v20.1 = ((0 : Int), (0 : Int)))) then
                          bif (!v20.2.2.1) then
                            bif (cm .eql (v20.2.2.2.1.length : Int) (0 : Int)) then
                              (m_ref_SameFrame v20.2.1 ((0 : Int), ([] : (List Int)), ([] : (List Blk)))).bind fun v39 =>
                                some v39
                            else
                              some false
                          else
                            some false
                        else
                          some false
                      else
                        some false).bind fun x34 =>
                        some x34
                    else
                      (m_ref_ReceivedOf a1 a2).bind fun v40 =>
                        (bif (Option.isNone v20.2.2.2.2) then
                          bif (decide (v20.1 = v40.1)) then
                            bif (v20.2.2.1 == v40.2.2.1) then
                              (m_ref_SameFrame v20.2.1 v40.2.1).bind fun v51 =>
                                bif v51 then
                                  (m_ref_SameBytes v20.2.2.2.1 v40.2.2.2).bind fun v53 =>
                                    some v53
                                else
                                  some false
                            else
                              some false
                          else
                            some false
                        else
                          some false).bind fun x47 =>
                          some x47
          ) fun k8 =>
        bif (cm .eql v5 (0 : Int)) then
          (m_ref_HeardOf a0 a2).bind fun v10 =>
            k8 (v10.1, v10.2.1, v10.2.2)
        else
          k8 ((0 : Int), (0 : Int), ([] : (List (Int × (List Int) × (List Blk)))))
/-- link_Send -/
def m_link_Send (a0 : (Int × Int × (List (Int × (List Int) × (List Blk))))) : Option ((List (List Int)) × (Option Int)) :=
  (m_link_Check a0).bind fun v1 =>
    bif (Option.isSome v1) then
      some (([] : (List (List Int))), v1)
    else
      (Sw.sub a0.2.2 (0 : Int) (min (a0.2.2.length : Int) (4 : Int))).bind fun v3 =>
        lp (β := (List (List Int))) (fun (s20 : Int × (List (List Int))) =>
          bif (cm .lss s20.1 (v3.length : Int)) then
            (Sw.idx v3 s20.1).bind fun z31 =>
              bif (cm .gtr (ar .add .i64 a0.2.1 s20.1) (2147483647 : Int)) then
                some (.done (.ret (([] : (List (List Int))), (some (1 : Int)))))
              else
                (Sw.app ([a0.1, (ar .add .i64 a0.2.1 s20.1), z31.1] : (List Int)) z31.2.1).bind fun v33 =>
                  (m_frame_Pack ((1 : Int), v33, z31.2.2)).bind fun v34 =>
                    bif (Option.isSome v34.2) then
                      some (.done (.ret (([] : (List (List Int))), v34.2)))
                    else
                      (Sw.app s20.2 ([v34.1] : (List (List Int)))).bind fun v36 =>
                        some (.next ((ar .add .i64 s20.1 (1 : Int)), v36))
          else
            some (.done (.brk s20.2))
          ) ((0 : Int), ([] : (List (List Int)))) fun (x29 : (List (List Int))) =>
        some (x29, (none : Option Int))
/-- link_Offer -/
def m_link_Offer (a0 : (Int × Int × (List (Int × (List Int) × (List Blk))))) (a1 : (Int × (List Int) × (List Blk))) : Option ((Int × Int × (List (Int × (List Int) × (List Blk)))) × (Option Int)) :=
  (m_link_Check a0).bind fun v1 =>
    bif (Option.isSome v1) then
      some (((0 : Int), (0 : Int), ([] : (List (Int × (List Int) × (List Blk))))), v1)
    else
      (m_link_load a1).bind fun v3 =>
        bif (Option.isSome v3) then
          some (((0 : Int), (0 : Int), ([] : (List (Int × (List Int) × (List Blk))))), v3)
        else
          (bif (cm .eql (a0.2.2.length : Int) (64 : Int)) then
            some true
          else
            some (cm .geq (ar .add .i64 a0.2.1 (a0.2.2.length : Int)) (2147483647 : Int))).bind fun x6 =>
            bif x6 then
              some (((0 : Int), (0 : Int), ([] : (List (Int × (List Int) × (List Blk))))), (some (2 : Int)))
            else
              (m_link_queue a0.2.2).bind fun v12 =>
                (m_link_clone a1).bind fun v13 =>
                  (Sw.app v12 ([v13] : (List (Int × (List Int) × (List Blk))))).bind fun v14 =>
                    some ((a0.1, a0.2.1, v14), (none : Option Int))
/-- law_LinkSays -/
def m_law_LinkSays (a0 : (Int × Int × (List (Int × (List Int) × (List Blk))))) (a1 : (Int × (List Int) × (List Blk))) : Option (Bool) :=
  bif (cm .gtr (a0.2.2.length : Int) (100 : Int)) then
    some true
  else
    (m_ref_SenderMay a0).bind fun v2 =>
      (m_link_Check a0).bind fun v3 =>
        (m_ref_Is v3 v2).bind fun v4 =>
          bif (!v4) then
            some false
          else
            (m_link_Send a0).bind fun v6 =>
              lp (β := Int × (List (List Int))) (fun (s31 : Int × (List (List Int))) =>
                (bif (cm .eql v2 (0 : Int)) then
                  (m_ref_Window a0).bind fun v50 =>
                    bif (cm .lss s31.1 v50) then
                      some (cm .eql v2 (0 : Int))
                    else
                      some false
                else
                  some false).bind fun x48 =>
                  bif x48 then
                    bif (cm .gtr a0.2.1 (ar .sub .i64 (2147483647 : Int) s31.1)) then
                      some (.done (.brk ((1 : Int), ([] : (List (List Int))))))
                    else
                      (m_ref_DataOf a0 s31.1).bind fun v54 =>
                        (Sw.app s31.2 ([v54] : (List (List Int)))).bind fun v55 =>
                          some (.next ((ar .add .i64 s31.1 (1 : Int)), v55))
                  else
                    some (.done (.brk (v2, s31.2)))
                ) ((0 : Int), ([] : (List (List Int)))) fun (x44 : Int × (List (List Int))) =>
              ((m_ref_Is v6.2 x44.1).bind fun v59 =>
                bif (!v59) then
                  some true
                else
                  some (cm .neq (v6.1.length : Int) (x44.2.length : Int))).bind fun x58 =>
                bif x58 then
                  some false
                else
                  lp (β := Unit) (fun (s74 : Int) =>
                    bif (cm .lss s74 (v6.1.length : Int)) then
                      (Sw.idx v6.1 s74).bind fun z83 =>
                        (Sw.idx x44.2 s74).bind fun z84 =>
                          (m_ref_SameBytes z83 z84).bind fun v85 =>
                            bif (!v85) then
                              some (.done (.ret false))
                            else
                              some (.next (ar .add .i64 s74 (1 : Int)))
                    else
                      some (.done (.brk ()))
                    ) (0 : Int) fun (_ : Unit) =>
                  jp (fun (x90 : Int) =>
                    (bif (cm .eql x90 (0 : Int)) then
                      bif (cm .eql (a0.2.2.length : Int) (64 : Int)) then
                        some true
                      else
                        some (cm .geq (ar .add .i64 a0.2.1 (a0.2.2.length : Int)) (2147483647 : Int))
                    else
                      some false).bind fun x94 =>
                      jp (fun (x99 : Int) =>
                        (m_link_Offer a0 a1).bind fun v100 =>
                          bif (cm .neq x99 (0 : Int)) then
                            ((m_ref_Is v100.2 x99).bind fun v106 =>
                              bif v106 then
                                (m_ref_SameSender v100.1 ((0 : Int), (0 : Int), ([] : (List (Int × (List Int) × (List Blk)))))).bind fun v108 =>
                                  some v108
                              else
                                some false).bind fun x105 =>
                              some x105
                          else
                            (Sw.app ([] : (List (Int × (List Int) × (List Blk)))) a0.2.2).bind fun v110 =>
                              (Sw.app v110 ([a1] : (List (Int × (List Int) × (List Blk))))).bind fun v111 =>
                                (bif (Option.isNone v100.2) then
                                  (m_ref_SameSender v100.1 (a0.1, a0.2.1, v111)).bind fun v116 =>
                                    some v116
                                else
                                  some false).bind fun x114 =>
                                  some x114
                        ) fun k98 =>
                      bif x94 then
                        k98 (2 : Int)
                      else
                        k98 x90
                    ) fun k89 =>
                  bif (cm .eql v2 (0 : Int)) then
                    (m_ref_MessageMay a1).bind fun v91 =>
                      k89 v91
                  else
                    k89 v2
/-- law_LinkMade -/
def m_law_LinkMade (a0 : (Int × Int × (List (Int × (List Int) × (List Blk))))) (a1 : Int) (a2 : Int) (a3 : Int) : Option (Bool) :=
  ((m_ref_SenderMay a0).bind fun v5 =>
    bif (cm .neq v5 (0 : Int)) then
      some true
    else
      bif (cm .eql (a0.2.2.length : Int) (0 : Int)) then
        some true
      else
        some (cm .gtr a0.2.1 (1073741824 : Int))).bind fun x4 =>
    bif x4 then
      some true
    else
      (m_ref_Pick a2 (a0.2.2.length : Int)).bind fun v9 =>
        (m_ref_DataOf a0 v9).bind fun v10 =>
          (m_ref_Pick a1 (3 : Int)).bind fun v11 =>
            (m_ref_Pick a3 (8 : Int)).bind fun v12 =>
              (m_ref_Packed ((0 : Int), ([a0.1, (ar .add .i64 a0.2.1 v12)] : (List Int)), ([] : (List Blk)))).bind fun v13 =>
                ((m_law_LinkHears a0 (a0.1, (ar .add .i64 a0.2.1 v11)) v10).bind fun v21 =>
                  bif v21 then
                    (m_law_LinkHears a0 (a0.1, (ar .add .i64 a0.2.1 v11)) v13).bind fun v23 =>
                      bif v23 then
                        (Sw.idx a0.2.2 (0 : Int)).bind fun z25 =>
                          (m_law_LinkSays a0 z25).bind fun v26 =>
                            some v26
                      else
                        some false
                  else
                    some false).bind fun x20 =>
                  some x20
end Go.Mo
