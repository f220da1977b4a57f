/- What the functions that this law reaches come to, as plain functions. Conditions: none. -/
import Derived.Test.YteckohdbfkhmdaaSwB
namespace Go.Mo
open Go Go.Sw
abbrev Blk := List Int
abbrev eBlk : Enc Blk := Enc.arr 8 (Enc.int .u8)
def zblk : Blk := List.replicate 8 0
/-- ref_DiskMay -/
def m_ref_DiskMay (a0 : ((List Blk) × (List (Int × Blk)) × Int)) : Option (Int) :=
  (bif (cm .lss (a0.1.length : Int) (1 : Int)) then
    some true
  else
    bif (cm .gtr (a0.1.length : Int) (200 : Int)) then
      some true
    else
      some (cm .gtr (a0.2.1.length : Int) (800 : Int))).bind fun x3 =>
    bif x3 then
      some (2 : Int)
    else
      lp (β := Unit) (fun (s27 : Int) =>
        bif (cm .lss s27 (a0.2.1.length : Int)) then
          ((Sw.idx a0.2.1 s27).bind fun z44 =>
            bif (cm .lss z44.1 (0 : Int)) then
              some true
            else
              (Sw.idx a0.2.1 s27).bind fun z46 =>
                some (cm .geq z46.1 (a0.1.length : Int))).bind fun x43 =>
            bif x43 then
              some (.done (.ret (1 : Int)))
            else
              some (.next (ar .add .i64 s27 (1 : Int)))
        else
          some (.done (.brk ()))
        ) (0 : Int) fun (_ : Unit) =>
      some (0 : Int)
/-- disk_Check_1 -/
def m_disk_Check_1 (a0 : (Int × Blk)) (a1 : ((List Blk) × (List (Int × Blk)) × Int)) : Option (Bool) :=
  (bif (cm .lss a0.1 (0 : Int)) then
    some true
  else
    some (cm .geq a0.1 (a1.1.length : Int))).bind fun x2 =>
    some x2
/-- slices_IndexFunc_api_Put_api_Put -/
def m_slices_IndexFunc_api_Put_api_Put__disk_Check_1 (a0 : (List (Int × Blk))) (a1_0 : ((List Blk) × (List (Int × Blk)) × Int)) : Option (Int) :=
  lp (β := Unit) (fun (s11 : Int) =>
    bif (cm .lss s11 (a0.length : Int)) then
      (Sw.idx a0 s11).bind fun z19 =>
        (m_disk_Check_1 z19 a1_0).bind fun v20 =>
          bif v20 then
            some (.done (.ret s11))
          else
            some (.next (ar .add .i64 s11 (1 : Int)))
    else
      some (.done (.brk ()))
    ) (0 : Int) fun (_ : Unit) =>
  some (-1 : Int)
/-- slices_ContainsFunc_api_Put_api_Put -/
def m_slices_ContainsFunc_api_Put_api_Put__disk_Check_1 (a0 : (List (Int × Blk))) (a1_0 : ((List Blk) × (List (Int × Blk)) × Int)) : Option (Bool) :=
  (m_slices_IndexFunc_api_Put_api_Put__disk_Check_1 a0 a1_0).bind fun v1 =>
    some (cm .geq v1 (0 : Int))
/-- disk_Check -/
def m_disk_Check (a0 : ((List Blk) × (List (Int × Blk)) × Int)) : Option ((Option Int)) :=
  (bif (cm .lss (a0.1.length : Int) (1 : Int)) then
    some true
  else
    bif (cm .gtr (a0.1.length : Int) (200 : Int)) then
      some true
    else
      some (cm .gtr (a0.2.1.length : Int) (800 : Int))).bind fun x3 =>
    bif x3 then
      some (some (2 : Int))
    else
      (m_slices_ContainsFunc_api_Put_api_Put__disk_Check_1 a0.2.1 a0).bind fun v7 =>
        bif v7 then
          some (some (1 : Int))
        else
          some (none : Option Int)
/-- ref_Is -/
def m_ref_Is (a0 : (Option Int)) (a1 : Int) : Option (Bool) :=
  bif (Option.isNone a0) then
    some (cm .eql a1 (0 : Int))
  else
    (bif (cm .neq a1 (0 : Int)) then
      some (a0 == (some a1))
    else
      some false).bind fun x3 =>
      some x3
/-- slices_Backward_api_Put_api_Put -/
def m_slices_Backward_api_Put_api_Put (a0 : (List (Int × Blk))) : Option ((List (Int × Blk))) :=
  some a0

/-- disk_Read -/
def m_disk_Read (a0 : ((List Blk) × (List (Int × Blk)) × Int)) (a1 : Int) : Option (Blk × (Option Int)) :=
  (m_disk_Check a0).bind fun v1 =>
    bif (Option.isSome v1) then
      some (zblk, v1)
    else
      (bif (cm .lss a1 (0 : Int)) then
        some true
      else
        some (cm .geq a1 (a0.1.length : Int))).bind fun x4 =>
        bif x4 then
          some (zblk, (some (1 : Int)))
        else
          bif (cm .eql a0.2.2 (0 : Int)) then
            some (zblk, (some (4 : Int)))
          else
            (m_slices_Backward_api_Put_api_Put a0.2.1).bind fun v8 =>
              (Sw.small v8).bind fun _ =>
                rg (δ := Blk) (fun (z10 : (Int × (Int × Blk))) (_ : Unit) =>
                  bif (cm .eql z10.2.1 a1) then
                    some (.done z10.2.2)
                  else
                    some (.next ())
                  ) (Sw.backs v8) () (fun (_ : Unit) =>
                  (Sw.idx a0.1 a1).bind fun z16 =>
                    some (z16, (none : Option Int))
                  ) fun (z18 : Blk) =>
                  some (z18, (none : Option Int))
/-- ref_OwnBlocks -/
def m_ref_OwnBlocks (a0 : (List Blk)) : Option ((List Blk)) :=
  (Sw.app ([] : (List Blk)) a0).bind fun v1 =>
    some v1
/-- ref_OwnDisk -/
def m_ref_OwnDisk (a0 : ((List Blk) × (List (Int × Blk)) × Int)) : Option (((List Blk) × (List (Int × Blk)) × Int)) :=
  (m_ref_OwnBlocks a0.1).bind fun v1 =>
    (Sw.app [] a0.2.1).bind fun v2 =>
      some (v1, v2, a0.2.2)
/-- slices_Clone_api_Block_api_Block -/
def m_slices_Clone_api_Block_api_Block_nil (a0 : (Bool × (List Blk))) : Option ((List Blk)) :=
  bif a0.1 then
    some ([] : (List Blk))
  else
    (Sw.app ([] : (List Blk)) a0.2).bind fun v2 =>
      some v2
/-- slices_Clone_api_Block_api_Block -/
def m_slices_Clone_api_Block_api_Block (a0 : (List Blk)) : Option (List Blk) := Sw.app [] a0
/-- slices_Clone_api_Put_api_Put -/
def m_slices_Clone_api_Put_api_Put_nil (a0 : (Bool × (List (Int × Blk)))) : Option ((List (Int × Blk))) :=
  bif a0.1 then
    some ([] : (List (Int × Blk)))
  else
    (Sw.app ([] : (List (Int × Blk))) a0.2).bind fun v2 =>
      some v2
/-- slices_Clone_api_Put_api_Put -/
def m_slices_Clone_api_Put_api_Put (a0 : (List (Int × Blk))) : Option (List (Int × Blk)) := Sw.app [] a0
/-- disk_clone -/
def m_disk_clone (a0 : ((List Blk) × (List (Int × Blk)) × Int)) : Option (((List Blk) × (List (Int × Blk)) × Int)) :=
  (m_slices_Clone_api_Block_api_Block a0.1).bind fun v1 =>
    (m_slices_Clone_api_Put_api_Put a0.2.1).bind fun v2 =>
      some (v1, v2, a0.2.2)
/-- disk_Disk_step -/
def m_disk_Disk_step_io (a0_0 : (List Blk)) (a0_1 : (List (Int × Blk))) (a0_2 : Int) : Option ((Option Int) × (List Blk) × (List (Int × Blk)) × Int) :=
  bif (cm .eql a0_2 (0 : Int)) then
    some ((some (4 : Int)), a0_0, a0_1, a0_2)
  else
    jp (fun (x4 : Int) =>
      some ((none : Option Int), a0_0, a0_1, x4)
      ) fun k3 =>
    bif (cm .gtr a0_2 (0 : Int)) then
      k3 (ar .sub .i64 a0_2 (1 : Int))
    else
      k3 a0_2
/-- disk_Write -/
def m_disk_Write (a0 : ((List Blk) × (List (Int × Blk)) × Int)) (a1 : Int) (a2 : Blk) : Option (((List Blk) × (List (Int × Blk)) × Int) × (Option Int)) :=
  (m_disk_Check a0).bind fun v1 =>
    bif (Option.isSome v1) then
      some ((([] : (List Blk)), ([] : (List (Int × Blk))), (0 : Int)), v1)
    else
      (bif (cm .lss a1 (0 : Int)) then
        some true
      else
        some (cm .geq a1 (a0.1.length : Int))).bind fun x4 =>
        bif x4 then
          some ((([] : (List Blk)), ([] : (List (Int × Blk))), (0 : Int)), (some (1 : Int)))
        else
          bif (cm .eql (a0.2.1.length : Int) (800 : Int)) then
            some ((([] : (List Blk)), ([] : (List (Int × Blk))), (0 : Int)), (some (2 : Int)))
          else
            (m_disk_clone a0).bind fun v8 =>
              (m_disk_Disk_step_io v8.1 v8.2.1 v8.2.2).bind fun v9 =>
                bif (Option.isSome v9.1) then
                  some ((([] : (List Blk)), ([] : (List (Int × Blk))), (0 : Int)), v9.1)
                else
                  (Sw.app v9.2.2.1 ([(a1, a2)] : (List (Int × Blk)))).bind fun v11 =>
                    some ((v9.2.1, v11, v9.2.2.2), (none : Option Int))
/-- disk_Flush -/
def m_disk_Flush (a0 : ((List Blk) × (List (Int × Blk)) × Int)) : Option (((List Blk) × (List (Int × Blk)) × Int) × (Option Int)) :=
  (m_disk_Check a0).bind fun v1 =>
    bif (Option.isSome v1) then
      some ((([] : (List Blk)), ([] : (List (Int × Blk))), (0 : Int)), v1)
    else
      (m_disk_clone a0).bind fun v3 =>
        (m_disk_Disk_step_io v3.1 v3.2.1 v3.2.2).bind fun v4 =>
          bif (Option.isSome v4.1) then
            some ((([] : (List Blk)), ([] : (List (Int × Blk))), (0 : Int)), v4.1)
          else
            lp (β := (List Blk)) (fun (s14 : Int × (List Blk)) =>
              bif (cm .lss s14.1 (v4.2.2.1.length : Int)) then
                (Sw.idx v4.2.2.1 s14.1).bind fun z21 =>
                  (Sw.idx s14.2 z21.1).bind fun _ =>
                    some (.next ((ar .add .i64 s14.1 (1 : Int)), (List.set s14.2 (Int.toNat z21.1) z21.2)))
              else
                some (.done (.brk s14.2))
              ) ((0 : Int), v4.2.1) fun (x19 : (List Blk)) =>
            some ((x19, ([] : (List (Int × Blk))), v4.2.2.2), (none : Option Int))
/-- ref_SameBlocks -/
def m_ref_SameBlocks (a0 : (List Blk)) (a1 : (List Blk)) : Option (Bool) :=
  bif (cm .neq (a0.length : Int) (a1.length : Int)) then
    some false
  else
    lp (β := Unit) (fun (s12 : Int) =>
      bif (cm .lss s12 (a0.length : Int)) then
        (Sw.idx a0 s12).bind fun z20 =>
          (Sw.idx a1 s12).bind fun z21 =>
            bif (!decide (z20 = z21)) then
              some (.done (.ret false))
            else
              some (.next (ar .add .i64 s12 (1 : Int)))
      else
        some (.done (.brk ()))
      ) (0 : Int) fun (_ : Unit) =>
    some true
/-- ref_SamePuts -/
def m_ref_SamePuts (a0 : (List (Int × Blk))) (a1 : (List (Int × Blk))) : Option (Bool) :=
  bif (cm .neq (a0.length : Int) (a1.length : Int)) then
    some false
  else
    lp (β := Unit) (fun (s12 : Int) =>
      bif (cm .lss s12 (a0.length : Int)) then
        (Sw.idx a0 s12).bind fun z20 =>
          (Sw.idx a1 s12).bind fun z21 =>
            bif (!decide (z20 = z21)) then
              some (.done (.ret false))
            else
              some (.next (ar .add .i64 s12 (1 : Int)))
      else
        some (.done (.brk ()))
      ) (0 : Int) fun (_ : Unit) =>
    some true
/-- ref_SameDisk -/
def m_ref_SameDisk (a0 : ((List Blk) × (List (Int × Blk)) × Int)) (a1 : ((List Blk) × (List (Int × Blk)) × Int)) : Option (Bool) :=
  (bif (cm .eql a0.2.2 a1.2.2) then
    (m_ref_SameBlocks a0.1 a1.1).bind fun v7 =>
      bif v7 then
        (m_ref_SamePuts a0.2.1 a1.2.1).bind fun v9 =>
          some v9
      else
        some false
  else
    some false).bind fun x5 =>
    some x5
/-- law_DiskSays -/
def m_law_DiskSays (a0 : ((List Blk) × (List (Int × Blk)) × Int)) (a1 : Int) (a2 : Blk) : Option (Bool) :=
  (bif (cm .gtr (a0.1.length : Int) (300 : Int)) then
    some true
  else
    some (cm .gtr (a0.2.1.length : Int) (900 : Int))).bind fun x2 =>
    bif x2 then
      some true
    else
      (m_ref_DiskMay a0).bind fun v5 =>
        (m_disk_Check a0).bind fun v6 =>
          (m_ref_Is v6 v5).bind fun v7 =>
            bif (!v7) then
              some false
            else
              (bif (cm .geq a1 (0 : Int)) then
                some (cm .lss a1 (a0.1.length : Int))
              else
                some false).bind fun x10 =>
                (bif (cm .eql v5 (0 : Int)) then
                  some (!x10)
                else
                  some false).bind fun x13 =>
                  jp (fun (x17 : Int) =>
                    (bif (cm .eql x17 (0 : Int)) then
                      some (cm .eql a0.2.2 (0 : Int))
                    else
                      some false).bind fun x19 =>
                      jp (fun (x23 : Int) =>
                        (bif (cm .eql x17 (0 : Int)) then
                          some (cm .eql (a0.2.1.length : Int) (800 : Int))
                        else
                          some false).bind fun x25 =>
                          jp (fun (x29 : Int) =>
                            (bif (cm .eql x29 (0 : Int)) then
                              some (cm .eql a0.2.2 (0 : Int))
                            else
                              some false).bind fun x31 =>
                              jp (fun (x35 : Int) =>
                                (bif (cm .eql v5 (0 : Int)) then
                                  some (cm .eql a0.2.2 (0 : Int))
                                else
                                  some false).bind fun x37 =>
                                  jp (fun (x41 : Int) =>
                                    (m_disk_Read a0 a1).bind fun v42 =>
                                      jp (fun (x67 : Blk) =>
                                        ((m_ref_Is v42.2 x23).bind fun v93 =>
                                          bif (!v93) then
                                            some true
                                          else
                                            some (!decide (v42.1 = x67))).bind fun x92 =>
                                          bif x92 then
                                            some false
                                          else
                                            jp (fun (x100 : (List Blk) × Int × (List (Int × Blk))) =>
                                              jp (fun (x127 : (List Blk) × Int) =>
                                                (bif (cm .gtr a0.2.2 (0 : Int)) then
                                                  some (cm .eql x35 (0 : Int))
                                                else
                                                  some false).bind fun x151 =>
                                                  jp (fun (x155 : Int) =>
                                                    (bif (cm .gtr a0.2.2 (0 : Int)) then
                                                      some (cm .eql x41 (0 : Int))
                                                    else
                                                      some false).bind fun x157 =>
                                                      jp (fun (x161 : Int) =>
                                                        (m_disk_Write a0 a1 a2).bind fun v162 =>
                                                          (m_disk_Flush a0).bind fun v163 =>
                                                            ((m_ref_Is v162.2 x35).bind fun v172 =>
                                                              bif v172 then
                                                                (m_ref_Is v163.2 x41).bind fun v174 =>
                                                                  bif v174 then
                                                                    (m_ref_SameDisk v162.1 (x100.1, x100.2.2, x155)).bind fun v176 =>
                                                                      bif v176 then
                                                                        (m_ref_SameDisk v163.1 (x127.1, ([] : (List (Int × Blk))), x161)).bind fun v178 =>
                                                                          some v178
                                                                      else
                                                                        some false
                                                                  else
                                                                    some false
                                                              else
                                                                some false).bind fun x171 =>
                                                              some x171
                                                        ) fun k160 =>
                                                      bif x157 then
                                                        k160 (ar .sub .i64 x127.2 (1 : Int))
                                                      else
                                                        k160 x127.2
                                                    ) fun k154 =>
                                                  bif x151 then
                                                    k154 (ar .sub .i64 x100.2.1 (1 : Int))
                                                  else
                                                    k154 x100.2.1
                                                ) fun k126 =>
                                              bif (cm .eql x41 (0 : Int)) then
                                                (m_ref_OwnDisk a0).bind fun v128 =>
                                                  lp (β := (List Blk)) (fun (s139 : Int × (List Blk)) =>
                                                    bif (cm .lss s139.1 (a0.2.1.length : Int)) then
                                                      (Sw.idx a0.2.1 s139.1).bind fun z147 =>
                                                        (Sw.idx a0.2.1 s139.1).bind fun z148 =>
                                                          (Sw.idx s139.2 z147.1).bind fun _ =>
                                                            some (.next ((ar .add .i64 s139.1 (1 : Int)), (List.set s139.2 (Int.toNat z147.1) z148.2)))
                                                    else
                                                      some (.done (.brk s139.2))
                                                    ) ((0 : Int), v128.1) fun (x145 : (List Blk)) =>
                                                  k126 (x145, v128.2.2)
                                              else
                                                k126 (([] : (List Blk)), (0 : Int))
                                              ) fun k99 =>
                                            bif (cm .eql x35 (0 : Int)) then
                                              (m_ref_OwnDisk a0).bind fun v101 =>
                                                (Sw.app v101.2.1 ([(a1, a2)] : (List (Int × Blk)))).bind fun v102 =>
                                                  k99 (v101.1, v101.2.2, v102)
                                            else
                                              k99 (([] : (List Blk)), (0 : Int), ([] : (List (Int × Blk))))
                                        ) fun k66 =>
                                      bif (cm .eql x23 (0 : Int)) then
                                        (Sw.idx a0.1 a1).bind fun z68 =>
                                          lp (β := Blk) (fun (s79 : Int × Blk) =>
                                            bif (cm .lss s79.1 (a0.2.1.length : Int)) then
                                              (Sw.idx a0.2.1 s79.1).bind fun z87 =>
                                                bif (cm .eql z87.1 a1) then
                                                  (Sw.idx a0.2.1 s79.1).bind fun z89 =>
                                                    some (.next ((ar .add .i64 s79.1 (1 : Int)), z89.2))
                                                else
                                                  some (.next ((ar .add .i64 s79.1 (1 : Int)), s79.2))
                                            else
                                              some (.done (.brk s79.2))
                                            ) ((0 : Int), z68) fun (x85 : Blk) =>
                                          k66 x85
                                      else
                                        k66 zblk
                                    ) fun k40 =>
                                  bif x37 then
                                    k40 (4 : Int)
                                  else
                                    k40 v5
                                ) fun k34 =>
                              bif x31 then
                                k34 (4 : Int)
                              else
                                k34 x29
                            ) fun k28 =>
                          bif x25 then
                            k28 (2 : Int)
                          else
                            k28 x17
                        ) fun k22 =>
                      bif x19 then
                        k22 (4 : Int)
                      else
                        k22 x17
                    ) fun k16 =>
                  bif x13 then
                    k16 (1 : Int)
                  else
                    k16 v5
/-- ref_OwnDisk -/
def m_ref_OwnDisk_e (a0 : ((List Blk) × (List (Int × Blk)) × Int)) : Option (((List Blk) × (List (Int × Blk)) × Int)) :=
  (m_ref_OwnBlocks a0.1).bind fun v1 =>
    (Sw.app [] a0.2.1).bind fun _ =>
      some (v1, ([] : (List (Int × Blk))), a0.2.2)
/-- law_DiskSays -/
def m_law_DiskSays_e (a0 : ((List Blk) × (List (Int × Blk)) × Int)) (a1 : Int) (a2 : Blk) : Option (Bool) :=
  (bif (cm .gtr (a0.1.length : Int) (300 : Int)) then
    some true
  else
    some (cm .gtr (a0.2.1.length : Int) (900 : Int))).bind fun x2 =>
    bif x2 then
      some true
    else
      (m_ref_DiskMay a0).bind fun v5 =>
        (m_disk_Check a0).bind fun v6 =>
          (m_ref_Is v6 v5).bind fun v7 =>
            bif (!v7) then
              some false
            else
              (bif (cm .geq a1 (0 : Int)) then
                some (cm .lss a1 (a0.1.length : Int))
              else
                some false).bind fun x10 =>
                (bif (cm .eql v5 (0 : Int)) then
                  some (!x10)
                else
                  some false).bind fun x13 =>
                  jp (fun (x17 : Int) =>
                    (bif (cm .eql x17 (0 : Int)) then
                      some (cm .eql a0.2.2 (0 : Int))
                    else
                      some false).bind fun x19 =>
                      jp (fun (x23 : Int) =>
                        (bif (cm .eql x17 (0 : Int)) then
                          some (cm .eql (a0.2.1.length : Int) (800 : Int))
                        else
                          some false).bind fun x25 =>
                          jp (fun (x29 : Int) =>
                            (bif (cm .eql x29 (0 : Int)) then
                              some (cm .eql a0.2.2 (0 : Int))
                            else
                              some false).bind fun x31 =>
                              jp (fun (x35 : Int) =>
                                (bif (cm .eql v5 (0 : Int)) then
                                  some (cm .eql a0.2.2 (0 : Int))
                                else
                                  some false).bind fun x37 =>
                                  jp (fun (x41 : Int) =>
                                    (m_disk_Read a0 a1).bind fun v42 =>
                                      jp (fun (x67 : Blk) =>
                                        ((m_ref_Is v42.2 x23).bind fun v93 =>
                                          bif (!v93) then
                                            some true
                                          else
                                            some (!decide (v42.1 = x67))).bind fun x92 =>
                                          bif x92 then
                                            some false
                                          else
                                            jp (fun (x100 : (List Blk) × (List (Int × Blk)) × Int) =>
                                              jp (fun (x127 : (List Blk) × Int) =>
                                                (bif (cm .gtr a0.2.2 (0 : Int)) then
                                                  some (cm .eql x35 (0 : Int))
                                                else
                                                  some false).bind fun x151 =>
                                                  jp (fun (x155 : Int) =>
                                                    (bif (cm .gtr a0.2.2 (0 : Int)) then
                                                      some (cm .eql x41 (0 : Int))
                                                    else
                                                      some false).bind fun x157 =>
                                                      jp (fun (x161 : Int) =>
                                                        (m_disk_Write a0 a1 a2).bind fun v162 =>
                                                          (m_disk_Flush a0).bind fun v163 =>
                                                            ((m_ref_Is v162.2 x35).bind fun v172 =>
                                                              bif v172 then
                                                                (m_ref_Is v163.2 x41).bind fun v174 =>
                                                                  bif v174 then
                                                                    (m_ref_SameDisk v162.1 (x100.1, x100.2.1, x155)).bind fun v176 =>
                                                                      bif v176 then
                                                                        (m_ref_SameDisk v163.1 (x127.1, ([] : (List (Int × Blk))), x161)).bind fun v178 =>
                                                                          some v178
                                                                      else
                                                                        some false
                                                                  else
                                                                    some false
                                                              else
                                                                some false).bind fun x171 =>
                                                              some x171
                                                        ) fun k160 =>
                                                      bif x157 then
                                                        k160 (ar .sub .i64 x127.2 (1 : Int))
                                                      else
                                                        k160 x127.2
                                                    ) fun k154 =>
                                                  bif x151 then
                                                    k154 (ar .sub .i64 x100.2.2 (1 : Int))
                                                  else
                                                    k154 x100.2.2
                                                ) fun k126 =>
                                              bif (cm .eql x41 (0 : Int)) then
                                                (m_ref_OwnDisk_e a0).bind fun v128 =>
                                                  lp (β := (List Blk)) (fun (s139 : Int × (List Blk)) =>
                                                    bif (cm .lss s139.1 (a0.2.1.length : Int)) then
                                                      (Sw.idx a0.2.1 s139.1).bind fun z147 =>
                                                        (Sw.idx a0.2.1 s139.1).bind fun z148 =>
                                                          (Sw.idx s139.2 z147.1).bind fun _ =>
                                                            some (.next ((ar .add .i64 s139.1 (1 : Int)), (List.set s139.2 (Int.toNat z147.1) z148.2)))
                                                    else
                                                      some (.done (.brk s139.2))
                                                    ) ((0 : Int), v128.1) fun (x145 : (List Blk)) =>
                                                  k126 (x145, v128.2.2)
                                              else
                                                k126 (([] : (List Blk)), (0 : Int))
                                              ) fun k99 =>
                                            bif (cm .eql x35 (0 : Int)) then
                                              (m_ref_OwnDisk_e a0).bind fun v101 =>
                                                (Sw.app [] ([(a1, a2)] : (List (Int × Blk)))).bind fun v102 =>
                                                  k99 (v101.1, v102, v101.2.2)
                                            else
                                              k99 (([] : (List Blk)), ([] : (List (Int × Blk))), (0 : Int))
                                        ) fun k66 =>
                                      bif (cm .eql x23 (0 : Int)) then
                                        (Sw.idx a0.1 a1).bind fun z68 =>
                                          lp (β := Blk) (fun (s79 : Int × Blk) =>
                                            bif (cm .lss s79.1 (a0.2.1.length : Int)) then
                                              (Sw.idx a0.2.1 s79.1).bind fun z87 =>
                                                bif (cm .eql z87.1 a1) then
                                                  (Sw.idx a0.2.1 s79.1).bind fun z89 =>
                                                    some (.next ((ar .add .i64 s79.1 (1 : Int)), z89.2))
                                                else
                                                  some (.next ((ar .add .i64 s79.1 (1 : Int)), s79.2))
                                            else
                                              some (.done (.brk s79.2))
                                            ) ((0 : Int), z68) fun (x85 : Blk) =>
                                          k66 x85
                                      else
                                        k66 zblk
                                    ) fun k40 =>
                                  bif x37 then
                                    k40 (4 : Int)
                                  else
                                    k40 v5
                                ) fun k34 =>
                              bif x31 then
                                k34 (4 : Int)
                              else
                                k34 x29
                            ) fun k28 =>
                          bif x25 then
                            k28 (2 : Int)
                          else
                            k28 x17
                        ) fun k22 =>
                      bif x19 then
                        k22 (4 : Int)
                      else
                        k22 x17
                    ) fun k16 =>
                  bif x13 then
                    k16 (1 : Int)
                  else
                    k16 v5
end Go.Mo
