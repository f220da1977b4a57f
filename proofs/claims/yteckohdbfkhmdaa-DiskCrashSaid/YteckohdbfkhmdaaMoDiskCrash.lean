/- What the functions that this law reaches come to, as plain functions. Conditions: none. -/
import Derived.Test.YteckohdbfkhmdaaSwB
namespace Go.Mo
open Go Go.Sw
abbrev Blk := List Int
abbrev eBlk : Enc Blk := Enc.arr 8 (Enc.int .u8)
def zblk : Blk := List.replicate 8 0
/-- ref_DiskMay -/
def m_ref_DiskMay (a0 : ((List Blk) × (List (Int × Blk)) × Int)) : Option (Int) :=
  (bif (cm .lss (a0.1.length : Int) (1 : Int)) then
    some true
  else
    bif (cm .gtr (a0.1.length : Int) (200 : Int)) then
      some true
    else
      some (cm .gtr (a0.2.1.length : Int) (800 : Int))).bind fun x3 =>
    bif x3 then
      some (2 : Int)
    else
      lp (β := Unit) (fun (s27 : Int) =>
        bif (cm .lss s27 (a0.2.1.length : Int)) then
          ((Sw.idx a0.2.1 s27).bind fun z44 =>
            bif (cm .lss z44.1 (0 : Int)) then
              some true
            else
              (Sw.idx a0.2.1 s27).bind fun z46 =>
                some (cm .geq z46.1 (a0.1.length : Int))).bind fun x43 =>
            bif x43 then
              some (.done (.ret (1 : Int)))
            else
              some (.next (ar .add .i64 s27 (1 : Int)))
        else
          some (.done (.brk ()))
        ) (0 : Int) fun (_ : Unit) =>
      some (0 : Int)
/-- ref_OwnBlocks -/
def m_ref_OwnBlocks (a0 : (List Blk)) : Option ((List Blk)) :=
  (Sw.app ([] : (List Blk)) a0).bind fun v1 =>
    some v1
/-- ref_OwnDisk -/
def m_ref_OwnDisk (a0 : ((List Blk) × (List (Int × Blk)) × Int)) : Option (((List Blk) × (List (Int × Blk)) × Int)) :=
  (m_ref_OwnBlocks a0.1).bind fun v1 =>
    (Sw.app [] a0.2.1).bind fun v2 =>
      some (v1, v2, a0.2.2)
/-- ref_Pick -/
def m_ref_Pick (a0 : Int) (a1 : Int) : Option (Int) :=
  jp (fun (x3 : Int) =>
    (nz a1).bind fun _ =>
      some (ar .rem .i64 x3 a1)
    ) fun k2 =>
  bif (cm .lss a0 (0 : Int)) then
    k2 (IntKind.wrap .i64 (0 - (ar .add .i64 a0 (1 : Int))))
  else
    k2 a0
/-- ref_Crashed -/
def m_ref_Crashed (a0 : ((List Blk) × (List (Int × Blk)) × Int)) (a1 : (List Int)) : Option (((List Blk) × (List (Int × Blk)) × Int)) :=
  (m_ref_OwnDisk a0).bind fun v1 =>
    lp (β := (List Blk)) (fun (s78 : Int × (List Blk)) =>
      bif (cm .lss s78.1 (a0.2.1.length : Int)) then
        jp (fun (x123 : Int) =>
          lp (β := (List Blk)) (fun (s140 : Int × (List Blk)) =>
            bif (cm .lss s140.1 x123) then
              (Sw.idx a0.2.1 s78.1).bind fun z150 =>
                (Sw.idx a0.2.1 s78.1).bind fun z151 =>
                  (Sw.idx z151.2 s140.1).bind fun z152 =>
                    (Sw.idx s140.2 z150.1).bind fun z153 =>
                      (Sw.idx z153 s140.1).bind fun _ =>
                        some (.next ((ar .add .i64 s140.1 (1 : Int)), (List.set s140.2 (Int.toNat z150.1) (List.set z153 (Int.toNat s140.1) z152))))
            else
              some (.done (.brk s140.2))
            ) ((0 : Int), s78.2) fun (x148 : (List Blk)) =>
          some (.next ((ar .add .i64 s78.1 (1 : Int)), x148))
          ) fun k122 =>
        bif (cm .lss s78.1 (a1.length : Int)) then
          (Sw.idx a1 s78.1).bind fun z124 =>
            (m_ref_Pick z124 (9 : Int)).bind fun v125 =>
              k122 v125
        else
          k122 (0 : Int)
      else
        some (.done (.brk s78.2))
      ) ((0 : Int), v1.1) fun (x117 : (List Blk)) =>
    some (x117, ([] : (List (Int × Blk))), (-1 : Int))
/-- disk_Check_1 -/
def m_disk_Check_1 (a0 : (Int × Blk)) (a1 : ((List Blk) × (List (Int × Blk)) × Int)) : Option (Bool) :=
  (bif (cm .lss a0.1 (0 : Int)) then
    some true
  else
    some (cm .geq a0.1 (a1.1.length : Int))).bind fun x2 =>
    some x2
/-- slices_IndexFunc_api_Put_api_Put -/
def m_slices_IndexFunc_api_Put_api_Put__disk_Check_1 (a0 : (List (Int × Blk))) (a1_0 : ((List Blk) × (List (Int × Blk)) × Int)) : Option (Int) :=
  lp (β := Unit) (fun (s11 : Int) =>
    bif (cm .lss s11 (a0.length : Int)) then
      (Sw.idx a0 s11).bind fun z19 =>
        (m_disk_Check_1 z19 a1_0).bind fun v20 =>
          bif v20 then
            some (.done (.ret s11))
          else
            some (.next (ar .add .i64 s11 (1 : Int)))
    else
      some (.done (.brk ()))
    ) (0 : Int) fun (_ : Unit) =>
  some (-1 : Int)
/-- slices_ContainsFunc_api_Put_api_Put -/
def m_slices_ContainsFunc_api_Put_api_Put__disk_Check_1 (a0 : (List (Int × Blk))) (a1_0 : ((List Blk) × (List (Int × Blk)) × Int)) : Option (Bool) :=
  (m_slices_IndexFunc_api_Put_api_Put__disk_Check_1 a0 a1_0).bind fun v1 =>
    some (cm .geq v1 (0 : Int))
/-- disk_Check -/
def m_disk_Check (a0 : ((List Blk) × (List (Int × Blk)) × Int)) : Option ((Option Int)) :=
  (bif (cm .lss (a0.1.length : Int) (1 : Int)) then
    some true
  else
    bif (cm .gtr (a0.1.length : Int) (200 : Int)) then
      some true
    else
      some (cm .gtr (a0.2.1.length : Int) (800 : Int))).bind fun x3 =>
    bif x3 then
      some (some (2 : Int))
    else
      (m_slices_ContainsFunc_api_Put_api_Put__disk_Check_1 a0.2.1 a0).bind fun v7 =>
        bif v7 then
          some (some (1 : Int))
        else
          some (none : Option Int)
/-- slices_Clone_api_Block_api_Block -/
def m_slices_Clone_api_Block_api_Block_nil (a0 : (Bool × (List Blk))) : Option ((List Blk)) :=
  bif a0.1 then
    some ([] : (List Blk))
  else
    (Sw.app ([] : (List Blk)) a0.2).bind fun v2 =>
      some v2
/-- slices_Clone_api_Block_api_Block -/
def m_slices_Clone_api_Block_api_Block (a0 : (List Blk)) : Option (List Blk) := Sw.app [] a0
/-- slices_Clone_api_Put_api_Put -/
def m_slices_Clone_api_Put_api_Put_nil (a0 : (Bool × (List (Int × Blk)))) : Option ((List (Int × Blk))) :=
  bif a0.1 then
    some ([] : (List (Int × Blk)))
  else
    (Sw.app ([] : (List (Int × Blk))) a0.2).bind fun v2 =>
      some v2
/-- slices_Clone_api_Put_api_Put -/
def m_slices_Clone_api_Put_api_Put (a0 : (List (Int × Blk))) : Option (List (Int × Blk)) := Sw.app [] a0
/-- disk_clone -/
def m_disk_clone (a0 : ((List Blk) × (List (Int × Blk)) × Int)) : Option (((List Blk) × (List (Int × Blk)) × Int)) :=
  (m_slices_Clone_api_Block_api_Block a0.1).bind fun v1 =>
    (m_slices_Clone_api_Put_api_Put a0.2.1).bind fun v2 =>
      some (v1, v2, a0.2.2)
/-- disk_Crash -/
def m_disk_Crash (a0 : ((List Blk) × (List (Int × Blk)) × Int)) (a1 : (List Int)) : Option (((List Blk) × (List (Int × Blk)) × Int) × (Option Int)) :=
  (m_disk_Check a0).bind fun v1 =>
    bif (Option.isSome v1) then
      some ((([] : (List Blk)), ([] : (List (Int × Blk))), (0 : Int)), v1)
    else
      (m_disk_clone a0).bind fun v3 =>
        lp (β := (List Blk)) (fun (s30 : Int × (List Blk)) =>
          bif (cm .lss s30.1 (v3.2.1.length : Int)) then
            (Sw.idx v3.2.1 s30.1).bind fun z46 =>
              jp (fun (x51 : Int) =>
                (Sw.idx s30.2 z46.1).bind fun z54 =>
                  (Sw.upto 8 x51).bind fun _ =>
                    (Sw.upto 8 x51).bind fun _ =>
                      some (.next ((ar .add .i64 s30.1 (1 : Int)), (List.set s30.2 (Int.toNat z46.1) (Sw.cpy (Int.toNat x51) (List.take (Int.toNat x51) z46.2) z54))))
                ) fun k50 =>
              bif (cm .lss s30.1 (a1.length : Int)) then
                (Sw.idx a1 s30.1).bind fun z52 =>
                  (Sw.idx a1 s30.1).bind fun z53 =>
                    k50 (ar .rem .i64 (max z52 (IntKind.wrap .i64 (0 - (ar .add .i64 z53 (1 : Int))))) (9 : Int))
              else
                k50 (0 : Int)
          else
            some (.done (.brk s30.2))
          ) ((0 : Int), v3.1) fun (x44 : (List Blk)) =>
        some ((x44, ([] : (List (Int × Blk))), (-1 : Int)), (none : Option Int))
/-- ref_Is -/
def m_ref_Is (a0 : (Option Int)) (a1 : Int) : Option (Bool) :=
  bif (Option.isNone a0) then
    some (cm .eql a1 (0 : Int))
  else
    (bif (cm .neq a1 (0 : Int)) then
      some (a0 == (some a1))
    else
      some false).bind fun x3 =>
      some x3
/-- ref_SameBlocks -/
def m_ref_SameBlocks (a0 : (List Blk)) (a1 : (List Blk)) : Option (Bool) :=
  bif (cm .neq (a0.length : Int) (a1.length : Int)) then
    some false
  else
    lp (β := Unit) (fun (s12 : Int) =>
      bif (cm .lss s12 (a0.length : Int)) then
        (Sw.idx a0 s12).bind fun z20 =>
          (Sw.idx a1 s12).bind fun z21 =>
            bif (!decide (z20 = z21)) then
              some (.done (.ret false))
            else
              some (.next (ar .add .i64 s12 (1 : Int)))
      else
        some (.done (.brk ()))
      ) (0 : Int) fun (_ : Unit) =>
    some true
/-- ref_SamePuts -/
def m_ref_SamePuts (a0 : (List (Int × Blk))) (a1 : (List (Int × Blk))) : Option (Bool) :=
  bif (cm .neq (a0.length : Int) (a1.length : Int)) then
    some false
  else
    lp (β := Unit) (fun (s12 : Int) =>
      bif (cm .lss s12 (a0.length : Int)) then
        (Sw.idx a0 s12).bind fun z20 =>
          (Sw.idx a1 s12).bind fun z21 =>
            bif (!decide (z20 = z21)) then
              some (.done (.ret false))
            else
              some (.next (ar .add .i64 s12 (1 : Int)))
      else
        some (.done (.brk ()))
      ) (0 : Int) fun (_ : Unit) =>
    some true
/-- ref_SameDisk -/
def m_ref_SameDisk (a0 : ((List Blk) × (List (Int × Blk)) × Int)) (a1 : ((List Blk) × (List (Int × Blk)) × Int)) : Option (Bool) :=
  (bif (cm .eql a0.2.2 a1.2.2) then
    (m_ref_SameBlocks a0.1 a1.1).bind fun v7 =>
      bif v7 then
        (m_ref_SamePuts a0.2.1 a1.2.1).bind fun v9 =>
          some v9
      else
        some false
  else
    some false).bind fun x5 =>
    some x5
/-- disk_New -/
def m_disk_New (a0 : Int) : Option (((List Blk) × (List (Int × Blk)) × Int) × (Option Int)) :=
  (bif (cm .lss a0 (1 : Int)) then
    some true
  else
    some (cm .gtr a0 (200 : Int))).bind fun x2 =>
    bif x2 then
      some ((([] : (List Blk)), ([] : (List (Int × Blk))), (0 : Int)), (some (1 : Int)))
    else
      (Sw.mk a0 zblk).bind fun v5 =>
        some ((v5, ([] : (List (Int × Blk))), (-1 : Int)), (none : Option Int))
/-- law_DiskCrash -/
def m_law_DiskCrash (a0 : ((List Blk) × (List (Int × Blk)) × Int)) (a1 : (List Int)) (a2 : Int) : Option (Bool) :=
  (bif (cm .gtr (a0.1.length : Int) (300 : Int)) then
    some true
  else
    bif (cm .gtr (a0.2.1.length : Int) (900 : Int)) then
      some true
    else
      some (cm .gtr (a1.length : Int) (2000 : Int))).bind fun x3 =>
    bif x3 then
      some true
    else
      (m_ref_DiskMay a0).bind fun v7 =>
        jp (fun (x11 : (List Blk) × (List (Int × Blk)) × Int) =>
          (m_disk_Crash a0 a1).bind fun v13 =>
            ((m_ref_Is v13.2 v7).bind fun v18 =>
              bif (!v18) then
                some true
              else
                (m_ref_SameDisk v13.1 x11).bind fun v20 =>
                  some (!v20)).bind fun x17 =>
              bif x17 then
                some false
              else
                (m_disk_New a2).bind fun v22 =>
                  (bif (cm .lss a2 (1 : Int)) then
                    some true
                  else
                    some (cm .gtr a2 (200 : Int))).bind fun x24 =>
                    bif x24 then
                      (bif (v22.2 == (some (1 : Int))) then
                        (m_ref_SameDisk v22.1 (([] : (List Blk)), ([] : (List (Int × Blk))), (0 : Int))).bind fun v31 =>
                          some v31
                      else
                        some false).bind fun x29 =>
                        some x29
                    else
                      (bif (Option.isNone v22.2) then
                        (Sw.mk a2 zblk).bind fun v37 =>
                          (m_ref_SameDisk v22.1 (v37, ([] : (List (Int × Blk))), (-1 : Int))).bind fun v38 =>
                            some v38
                      else
                        some false).bind fun x35 =>
                        some x35
          ) fun k10 =>
        bif (cm .eql v7 (0 : Int)) then
          (m_ref_Crashed a0 a1).bind fun v12 =>
            k10 (v12.1, v12.2.1, v12.2.2)
        else
          k10 (([] : (List Blk)), ([] : (List (Int × Blk))), (0 : Int))
end Go.Mo
