/- What the functions that this law reaches come to, as plain functions. Conditions: none. -/
import Derived.Test.YteckohdbfkhmdacSwC
set_option linter.unusedVariables false
set_option linter.unusedSimpArgs false
namespace Go.Mo
open Go Go.Sw
abbrev Blk := List Int
abbrev eBlk : Enc Blk := Enc.arr 8 (Enc.int .u8)
def zblk : Blk := List.replicate 8 0
abbrev Clo_store_Store_replay := ((Unit × Unit) ⊕ ((Unit × Unit) ⊕ (Unit × Unit)))
abbrev eClo_store_Store_replay (a p : Nat) : Enc Clo_store_Store_replay := (Enc.sm (Enc.fn2 67 (Enc.adr a) Enc.st0) (Enc.sm (Enc.fn2 64 (Enc.adr a) Enc.st0) (Enc.fn2 82 Enc.st0 (Enc.adr p)) rfl rfl rfl rfl) rfl rfl rfl rfl)
abbrev Clo_store_Store_mark := ((Unit × (Unit × Int)) ⊕ (Unit × Unit))
abbrev eClo_store_Store_mark (a p : Nat) : Enc Clo_store_Store_mark := (Enc.sm (Enc.fn2 86 Enc.st0 (Enc.pr (Enc.adr p) (Enc.pt (Enc.int .u8)))) (Enc.fn2 64 (Enc.adr a) Enc.st0) rfl rfl rfl rfl)
abbrev Clo_store_Store_Commit := ((Unit × (Unit × (List (Int × Blk)))) ⊕ ((Unit × (Unit × (Int × (Int × Blk)))) ⊕ ((Unit × (Unit × (Int × (Int × Blk)))) ⊕ ((Unit × Unit) ⊕ ((Unit × Unit) ⊕ ((Unit × Unit) ⊕ ((Unit × Unit) ⊕ (Unit × Unit))))))))
abbrev eClo_store_Store_Commit (a p : Nat) : Enc Clo_store_Store_Commit := (Enc.sm (Enc.fn2 59 Enc.st0 (Enc.pr (Enc.adr p) (Enc.pt (Enc.sl (Enc.pr (Enc.int .i64) eBlk))))) (Enc.sm (Enc.fn2 61 Enc.st0 (Enc.pr (Enc.adr p) (Enc.pr (Enc.pt (Enc.int .i64)) (Enc.pt (Enc.pr (Enc.int .i64) eBlk))))) (Enc.sm (Enc.fn2 62 Enc.st0 (Enc.pr (Enc.adr p) (Enc.pr (Enc.pt (Enc.int .i64)) (Enc.pt (Enc.pr (Enc.int .i64) eBlk))))) (Enc.sm (Enc.fn2 64 (Enc.adr a) Enc.st0) (Enc.sm (Enc.fn2 65 Enc.st0 (Enc.adr p)) (Enc.sm (Enc.fn2 67 (Enc.adr a) Enc.st0) (Enc.sm (Enc.fn2 64 (Enc.adr a) Enc.st0) (Enc.fn2 68 Enc.st0 (Enc.adr p)) rfl rfl rfl rfl) rfl rfl rfl rfl) rfl rfl rfl rfl) rfl rfl rfl rfl) rfl rfl rfl rfl) rfl rfl rfl rfl) rfl rfl rfl rfl)
/-- ref_Pick -/
def m_ref_Pick (a0 : Int) (a1 : Int) : Option (Int) :=
  jp (fun (x3 : Int) =>
    (nz a1).bind fun _ =>
      some (ar .rem .i64 x3 a1)
    ) fun k2 =>
  bif (cm .lss a0 (0 : Int)) then
    k2 (IntKind.wrap .i64 (0 - (ar .add .i64 a0 (1 : Int))))
  else
    k2 a0
/-- store_Need -/
def m_store_Need (a0 : Int) : Option (Int × (Option Int)) :=
  (bif (cm .lss a0 (1 : Int)) then
    some true
  else
    some (cm .gtr a0 (32 : Int))).bind fun x2 =>
    bif x2 then
      some ((0 : Int), (some (1 : Int)))
    else
      some ((ar .add .i64 (ar .add .i64 (ar .add .i64 a0 (1 : Int)) (2 : Int)) (ar .mul .i64 (2 : Int) (ar .add .i64 a0 (1 : Int)))), (none : Option Int))
/-- disk_New -/
def m_disk_New (a0 : Int) : Option (((List Blk) × (List (Int × Blk)) × Int) × (Option Int)) :=
  (bif (cm .lss a0 (1 : Int)) then
    some true
  else
    some (cm .gtr a0 (200 : Int))).bind fun x2 =>
    bif x2 then
      some ((([] : (List Blk)), ([] : (List (Int × Blk))), (0 : Int)), (some (1 : Int)))
    else
      (Sw.mk a0 zblk).bind fun v5 =>
        some ((v5, ([] : (List (Int × Blk))), (-1 : Int)), (none : Option Int))
/-- store_Format -/
def m_store_Format (a0 : Int) : Option (((List Blk) × (List (Int × Blk)) × Int) × (Option Int)) :=
  (m_store_Need a0).bind fun v1 =>
    bif (Option.isSome v1.2) then
      some ((([] : (List Blk)), ([] : (List (Int × Blk))), (0 : Int)), v1.2)
    else
      (m_disk_New v1.1).bind fun v3 =>
        some (v3.1, v3.2)
/-- disk_Check_1 -/
def m_disk_Check_1 (a0 : (Int × Blk)) (a1 : ((List Blk) × (List (Int × Blk)) × Int)) : Option (Bool) :=
  (bif (cm .lss a0.1 (0 : Int)) then
    some true
  else
    some (cm .geq a0.1 (a1.1.length : Int))).bind fun x2 =>
    some x2
/-- slices_IndexFunc_api_Put_api_Put -/
def m_slices_IndexFunc_api_Put_api_Put__disk_Check_1 (a0 : (List (Int × Blk))) (a1_0 : ((List Blk) × (List (Int × Blk)) × Int)) : Option (Int) :=
  lp (β := Unit) (fun (s11 : Int) =>
    bif (cm .lss s11 (a0.length : Int)) then
      (Sw.idx a0 s11).bind fun z19 =>
        (m_disk_Check_1 z19 a1_0).bind fun v20 =>
          bif v20 then
            some (.done (.ret s11))
          else
            some (.next (ar .add .i64 s11 (1 : Int)))
    else
      some (.done (.brk ()))
    ) (0 : Int) fun (_ : Unit) =>
  some (-1 : Int)
/-- slices_ContainsFunc_api_Put_api_Put -/
def m_slices_ContainsFunc_api_Put_api_Put__disk_Check_1 (a0 : (List (Int × Blk))) (a1_0 : ((List Blk) × (List (Int × Blk)) × Int)) : Option (Bool) :=
  (m_slices_IndexFunc_api_Put_api_Put__disk_Check_1 a0 a1_0).bind fun v1 =>
    some (cm .geq v1 (0 : Int))
/-- disk_Check -/
def m_disk_Check (a0 : ((List Blk) × (List (Int × Blk)) × Int)) : Option ((Option Int)) :=
  (bif (cm .lss (a0.1.length : Int) (1 : Int)) then
    some true
  else
    bif (cm .gtr (a0.1.length : Int) (200 : Int)) then
      some true
    else
      some (cm .gtr (a0.2.1.length : Int) (800 : Int))).bind fun x3 =>
    bif x3 then
      some (some (2 : Int))
    else
      (m_slices_ContainsFunc_api_Put_api_Put__disk_Check_1 a0.2.1 a0).bind fun v7 =>
        bif v7 then
          some (some (1 : Int))
        else
          some (none : Option Int)
/-- slices_Clone_api_Block_api_Block -/
def m_slices_Clone_api_Block_api_Block_nil (a0 : (Bool × (List Blk))) : Option ((List Blk)) :=
  bif a0.1 then
    some ([] : (List Blk))
  else
    (Sw.app ([] : (List Blk)) a0.2).bind fun v2 =>
      some v2
/-- slices_Clone_api_Block_api_Block -/
def m_slices_Clone_api_Block_api_Block (a0 : (List Blk)) : Option (List Blk) := Sw.app [] a0
/-- slices_Backward_api_Put_api_Put -/
def m_slices_Backward_api_Put_api_Put (a0 : (List (Int × Blk))) : Option ((List (Int × Blk))) :=
  some a0

/-- disk_Read -/
def m_disk_Read (a0 : ((List Blk) × (List (Int × Blk)) × Int)) (a1 : Int) : Option (Blk × (Option Int)) :=
  (m_disk_Check a0).bind fun v1 =>
    bif (Option.isSome v1) then
      some (zblk, v1)
    else
      (bif (cm .lss a1 (0 : Int)) then
        some true
      else
        some (cm .geq a1 (a0.1.length : Int))).bind fun x4 =>
        bif x4 then
          some (zblk, (some (1 : Int)))
        else
          bif (cm .eql a0.2.2 (0 : Int)) then
            some (zblk, (some (4 : Int)))
          else
            (m_slices_Backward_api_Put_api_Put a0.2.1).bind fun v8 =>
              (Sw.small v8).bind fun _ =>
                rg (δ := Blk) (fun (z10 : (Int × (Int × Blk))) (_ : Unit) =>
                  bif (cm .eql z10.2.1 a1) then
                    some (.done z10.2.2)
                  else
                    some (.next ())
                  ) (Sw.backs v8) () (fun (_ : Unit) =>
                  (Sw.idx a0.1 a1).bind fun z16 =>
                    some (z16, (none : Option Int))
                  ) fun (z18 : Blk) =>
                  some (z18, (none : Option Int))
/-- store_value -/
def m_store_value (a0 : Blk) : Option (Int) :=
  (Sw.idx a0 (0 : Int)).bind fun z1 =>
    (Sw.idx a0 (1 : Int)).bind fun z2 =>
      (Sw.idx a0 (2 : Int)).bind fun z3 =>
        (Sw.idx a0 (3 : Int)).bind fun z4 =>
          some (ar .or .i64 (ar .or .i64 (ar .or .i64 (sh .shl .i64 z1 (24 : Int)) (sh .shl .i64 z2 (16 : Int))) (sh .shl .i64 z3 (8 : Int))) z4)
/-- slices_Clone_api_Put_api_Put -/
def m_slices_Clone_api_Put_api_Put_nil (a0 : (Bool × (List (Int × Blk)))) : Option ((List (Int × Blk))) :=
  bif a0.1 then
    some ([] : (List (Int × Blk)))
  else
    (Sw.app ([] : (List (Int × Blk))) a0.2).bind fun v2 =>
      some v2
/-- slices_Clone_api_Put_api_Put -/
def m_slices_Clone_api_Put_api_Put (a0 : (List (Int × Blk))) : Option (List (Int × Blk)) := Sw.app [] a0
/-- disk_clone -/
def m_disk_clone (a0 : ((List Blk) × (List (Int × Blk)) × Int)) : Option (((List Blk) × (List (Int × Blk)) × Int)) :=
  (m_slices_Clone_api_Block_api_Block a0.1).bind fun v1 =>
    (m_slices_Clone_api_Put_api_Put a0.2.1).bind fun v2 =>
      some (v1, v2, a0.2.2)
/-- disk_Disk_step -/
def m_disk_Disk_step_io (a0_0 : (List Blk)) (a0_1 : (List (Int × Blk))) (a0_2 : Int) : Option ((Option Int) × (List Blk) × (List (Int × Blk)) × Int) :=
  bif (cm .eql a0_2 (0 : Int)) then
    some ((some (4 : Int)), a0_0, a0_1, a0_2)
  else
    jp (fun (x4 : Int) =>
      some ((none : Option Int), a0_0, a0_1, x4)
      ) fun k3 =>
    bif (cm .gtr a0_2 (0 : Int)) then
      k3 (ar .sub .i64 a0_2 (1 : Int))
    else
      k3 a0_2
/-- disk_Write -/
def m_disk_Write (a0 : ((List Blk) × (List (Int × Blk)) × Int)) (a1 : Int) (a2 : Blk) : Option (((List Blk) × (List (Int × Blk)) × Int) × (Option Int)) :=
  (m_disk_Check a0).bind fun v1 =>
    bif (Option.isSome v1) then
      some ((([] : (List Blk)), ([] : (List (Int × Blk))), (0 : Int)), v1)
    else
      (bif (cm .lss a1 (0 : Int)) then
        some true
      else
        some (cm .geq a1 (a0.1.length : Int))).bind fun x4 =>
        bif x4 then
          some ((([] : (List Blk)), ([] : (List (Int × Blk))), (0 : Int)), (some (1 : Int)))
        else
          bif (cm .eql (a0.2.1.length : Int) (800 : Int)) then
            some ((([] : (List Blk)), ([] : (List (Int × Blk))), (0 : Int)), (some (2 : Int)))
          else
            (m_disk_clone a0).bind fun v8 =>
              (m_disk_Disk_step_io v8.1 v8.2.1 v8.2.2).bind fun v9 =>
                bif (Option.isSome v9.1) then
                  some ((([] : (List Blk)), ([] : (List (Int × Blk))), (0 : Int)), v9.1)
                else
                  (Sw.app v9.2.2.1 ([(a1, a2)] : (List (Int × Blk)))).bind fun v11 =>
                    some ((v9.2.1, v11, v9.2.2.2), (none : Option Int))
/-- store_Store_write -/
def m_store_Store_write_io (a0_0 : Int) (a0_1 : ((List Blk) × (List (Int × Blk)) × Int)) (a1 : Int) (a2 : Blk) : Option ((Option Int) × Int × ((List Blk) × (List (Int × Blk)) × Int)) :=
  (m_disk_Write a0_1 a1 a2).bind fun v1 =>
    jp (fun (x4 : ((List Blk) × (List (Int × Blk)) × Int)) =>
      some (v1.2, a0_0, x4)
      ) fun k3 =>
    bif (Option.isNone v1.2) then
      k3 v1.1
    else
      k3 a0_1
/-- store_Store_apply -/
def m_store_Store_apply_io (a0_0 : Int) (a0_1 : ((List Blk) × (List (Int × Blk)) × Int)) : Option ((Option Int) × Int × ((List Blk) × (List (Int × Blk)) × Int)) :=
  (m_disk_Read a0_1 (ar .add .i64 a0_0 (2 : Int))).bind fun v1 =>
    lp (β := (Option Int) × Int × ((List Blk) × (List (Int × Blk)) × Int)) (fun (s34 : (Option Int) × Int × Int × ((List Blk) × (List (Int × Blk)) × Int)) =>
      (bif (Option.isNone s34.1) then
        (m_store_value v1.1).bind fun v56 =>
          some (cm .lss s34.2.1 v56)
      else
        some false).bind fun x54 =>
        bif x54 then
          (m_disk_Read s34.2.2.2 (ar .add .i64 (ar .add .i64 s34.2.2.1 (3 : Int)) (ar .mul .i64 (2 : Int) s34.2.1))).bind fun v58 =>
            jp (fun (x62 : (Option Int) × Blk) =>
              bif (Option.isNone x62.1) then
                (m_store_value v58.1).bind fun v65 =>
                  (m_store_Store_write_io s34.2.2.1 s34.2.2.2 v65 x62.2).bind fun v66 =>
                    some (.next (v66.1, (ar .add .i64 s34.2.1 (1 : Int)), v66.2.1, v66.2.2))
              else
                some (.next (x62.1, (ar .add .i64 s34.2.1 (1 : Int)), s34.2.2.1, s34.2.2.2))
              ) fun k61 =>
            bif (Option.isNone v58.2) then
              (m_disk_Read s34.2.2.2 (ar .add .i64 (ar .add .i64 s34.2.2.1 (4 : Int)) (ar .mul .i64 (2 : Int) s34.2.1))).bind fun v63 =>
                k61 (v63.2, v63.1)
            else
              k61 (v58.2, zblk)
        else
          some (.done (.brk (s34.1, s34.2.2.1, s34.2.2.2)))
      ) (v1.2, (0 : Int), a0_0, a0_1) fun (x51 : (Option Int) × Int × ((List Blk) × (List (Int × Blk)) × Int)) =>
    some (x51.1, x51.2.1, x51.2.2)
/-- disk_Flush -/
def m_disk_Flush (a0 : ((List Blk) × (List (Int × Blk)) × Int)) : Option (((List Blk) × (List (Int × Blk)) × Int) × (Option Int)) :=
  (m_disk_Check a0).bind fun v1 =>
    bif (Option.isSome v1) then
      some ((([] : (List Blk)), ([] : (List (Int × Blk))), (0 : Int)), v1)
    else
      (m_disk_clone a0).bind fun v3 =>
        (m_disk_Disk_step_io v3.1 v3.2.1 v3.2.2).bind fun v4 =>
          bif (Option.isSome v4.1) then
            some ((([] : (List Blk)), ([] : (List (Int × Blk))), (0 : Int)), v4.1)
          else
            lp (β := (List Blk)) (fun (s14 : Int × (List Blk)) =>
              bif (cm .lss s14.1 (v4.2.2.1.length : Int)) then
                (Sw.idx v4.2.2.1 s14.1).bind fun z21 =>
                  (Sw.idx s14.2 z21.1).bind fun _ =>
                    some (.next ((ar .add .i64 s14.1 (1 : Int)), (List.set s14.2 (Int.toNat z21.1) z21.2)))
              else
                some (.done (.brk s14.2))
              ) ((0 : Int), v4.2.1) fun (x19 : (List Blk)) =>
            some ((x19, ([] : (List (Int × Blk))), v4.2.2.2), (none : Option Int))
/-- store_Store_flush -/
def m_store_Store_flush_io (a0_0 : Int) (a0_1 : ((List Blk) × (List (Int × Blk)) × Int)) : Option ((Option Int) × Int × ((List Blk) × (List (Int × Blk)) × Int)) :=
  (m_disk_Flush a0_1).bind fun v1 =>
    jp (fun (x4 : ((List Blk) × (List (Int × Blk)) × Int)) =>
      some (v1.2, a0_0, x4)
      ) fun k3 =>
    bif (Option.isNone v1.2) then
      k3 v1.1
    else
      k3 a0_1
/-- store_Store_mark_1 -/
def m_store_Store_mark_1_io (a1 : Int) (a2_0 : Int) (a2_1 : ((List Blk) × (List (Int × Blk)) × Int)) : Option ((Option Int) × Int × ((List Blk) × (List (Int × Blk)) × Int)) :=
  (m_store_Store_write_io a2_0 a2_1 (ar .add .i64 a2_0 (1 : Int)) ([a1] ++ List.replicate 7 (0 : Int) : Blk)).bind fun v1 =>
    some (v1.1, v1.2.1, v1.2.2)
/-- closures of store_Store_mark -/
def m_clo_store_Store_mark (q : Clo_store_Store_mark) (n0 : Int) (n1 : ((List Blk) × (List (Int × Blk)) × Int)) : Option ((Option Int) × Int × ((List Blk) × (List (Int × Blk)) × Int)) := match q with
  | .inl z => m_store_Store_mark_1_io z.2.2 n0 n1
  | .inr z => m_store_Store_flush_io n0 n1
/-- store_all -/
def m_store_all_store_Store_mark_io (a0 : (List Clo_store_Store_mark)) (a1_0 : Int) (a1_1 : ((List Blk) × (List (Int × Blk)) × Int)) : Option ((Option Int) × Int × ((List Blk) × (List (Int × Blk)) × Int)) :=
  lp (β := Int × ((List Blk) × (List (Int × Blk)) × Int)) (fun (s11 : Int × Int × ((List Blk) × (List (Int × Blk)) × Int)) =>
    bif (cm .lss s11.1 (a0.length : Int)) then
      (Sw.idx a0 s11.1).bind fun z19 =>
        (m_clo_store_Store_mark z19 s11.2.1 s11.2.2).bind fun v20 =>
          bif (Option.isSome v20.1) then
            some (.done (.ret (v20.1, v20.2.1, v20.2.2)))
          else
            some (.next ((ar .add .i64 s11.1 (1 : Int)), v20.2.1, v20.2.2))
    else
      some (.done (.brk (s11.2.1, s11.2.2)))
    ) ((0 : Int), a1_0, a1_1) fun (x17 : Int × ((List Blk) × (List (Int × Blk)) × Int)) =>
  some ((none : Option Int), x17.1, x17.2)
/-- store_Store_mark -/
def m_store_Store_mark_io (a0_0 : Int) (a0_1 : ((List Blk) × (List (Int × Blk)) × Int)) (a1 : Int) : Option ((Option Int) × Int × ((List Blk) × (List (Int × Blk)) × Int)) :=
  (m_store_all_store_Store_mark_io ([(.inl ((), ((), a1)) : Clo_store_Store_mark), (.inr ((), ()) : Clo_store_Store_mark)] : (List Clo_store_Store_mark)) a0_0 a0_1).bind fun v2 =>
    some (v2.1, v2.2.1, v2.2.2)
/-- store_Store_replay_1 -/
def m_store_Store_replay_1_io (a1_0 : Int) (a1_1 : ((List Blk) × (List (Int × Blk)) × Int)) : Option ((Option Int) × Int × ((List Blk) × (List (Int × Blk)) × Int)) :=
  (m_store_Store_mark_io a1_0 a1_1 (0 : Int)).bind fun v1 =>
    some (v1.1, v1.2.1, v1.2.2)
/-- closures of store_Store_replay -/
def m_clo_store_Store_replay (q : Clo_store_Store_replay) (n0 : Int) (n1 : ((List Blk) × (List (Int × Blk)) × Int)) : Option ((Option Int) × Int × ((List Blk) × (List (Int × Blk)) × Int)) := match q with
  | .inl z => m_store_Store_apply_io n0 n1
  | .inr (.inl z) => m_store_Store_flush_io n0 n1
  | .inr (.inr z) => m_store_Store_replay_1_io n0 n1
/-- store_all -/
def m_store_all_store_Store_replay_io (a0 : (List Clo_store_Store_replay)) (a1_0 : Int) (a1_1 : ((List Blk) × (List (Int × Blk)) × Int)) : Option ((Option Int) × Int × ((List Blk) × (List (Int × Blk)) × Int)) :=
  lp (β := Int × ((List Blk) × (List (Int × Blk)) × Int)) (fun (s11 : Int × Int × ((List Blk) × (List (Int × Blk)) × Int)) =>
    bif (cm .lss s11.1 (a0.length : Int)) then
      (Sw.idx a0 s11.1).bind fun z19 =>
        (m_clo_store_Store_replay z19 s11.2.1 s11.2.2).bind fun v20 =>
          bif (Option.isSome v20.1) then
            some (.done (.ret (v20.1, v20.2.1, v20.2.2)))
          else
            some (.next ((ar .add .i64 s11.1 (1 : Int)), v20.2.1, v20.2.2))
    else
      some (.done (.brk (s11.2.1, s11.2.2)))
    ) ((0 : Int), a1_0, a1_1) fun (x17 : Int × ((List Blk) × (List (Int × Blk)) × Int)) =>
  some ((none : Option Int), x17.1, x17.2)
/-- store_Store_replay -/
def m_store_Store_replay_io (a0_0 : Int) (a0_1 : ((List Blk) × (List (Int × Blk)) × Int)) : Option ((Option Int) × Int × ((List Blk) × (List (Int × Blk)) × Int)) :=
  (m_disk_Read a0_1 (ar .add .i64 a0_0 (1 : Int))).bind fun v2 =>
    (bif (Option.isSome v2.2) then
      some true
    else
      (Sw.idx v2.1 (0 : Int)).bind fun z7 =>
        some (cm .eql z7 (0 : Int))).bind fun x5 =>
      bif x5 then
        some (v2.2, a0_0, a0_1)
      else
        (m_store_all_store_Store_replay_io ([(.inl ((), ()) : Clo_store_Store_replay), (.inr (.inl ((), ())) : Clo_store_Store_replay), (.inr (.inr ((), ())) : Clo_store_Store_replay)] : (List Clo_store_Store_replay)) a0_0 a0_1).bind fun v9 =>
          some (v9.1, v9.2.1, v9.2.2)
/-- store_Open -/
def m_store_Open (a0 : ((List Blk) × (List (Int × Blk)) × Int)) (a1 : Int) : Option ((Option (Int × ((List Blk) × (List (Int × Blk)) × Int))) × (Option Int)) :=
  (m_store_Need a1).bind fun v1 =>
    bif (Option.isSome v1.2) then
      some ((none : (Option (Int × ((List Blk) × (List (Int × Blk)) × Int)))), v1.2)
    else
      (m_disk_Check a0).bind fun v3 =>
        (bif (Option.isSome v3) then
          some true
        else
          bif (cm .neq (a0.1.length : Int) v1.1) then
            some true
          else
            some (cm .gtr (a0.2.1.length : Int) (0 : Int))).bind fun x6 =>
          bif x6 then
            some ((none : (Option (Int × ((List Blk) × (List (Int × Blk)) × Int)))), (some (5 : Int)))
          else
            (m_slices_Clone_api_Block_api_Block a0.1).bind fun v11 =>
              (m_store_Store_replay_io a1 (v11, ([] : (List (Int × Blk))), a0.2.2)).bind fun v12 =>
                bif (Option.isSome v12.1) then
                  some ((none : (Option (Int × ((List Blk) × (List (Int × Blk)) × Int)))), v12.1)
                else
                  some ((some (v12.2.1, v12.2.2)), (none : Option Int))
/-- disk_Crash -/
def m_disk_Crash (a0 : ((List Blk) × (List (Int × Blk)) × Int)) (a1 : (List Int)) : Option (((List Blk) × (List (Int × Blk)) × Int) × (Option Int)) :=
  (m_disk_Check a0).bind fun v1 =>
    bif (Option.isSome v1) then
      some ((([] : (List Blk)), ([] : (List (Int × Blk))), (0 : Int)), v1)
    else
      (m_disk_clone a0).bind fun v3 =>
        lp (β := (List Blk)) (fun (s30 : Int × (List Blk)) =>
          bif (cm .lss s30.1 (v3.2.1.length : Int)) then
            (Sw.idx v3.2.1 s30.1).bind fun z46 =>
              jp (fun (x51 : Int) =>
                (Sw.idx s30.2 z46.1).bind fun z54 =>
                  (Sw.upto 8 x51).bind fun _ =>
                    (Sw.upto 8 x51).bind fun _ =>
                      some (.next ((ar .add .i64 s30.1 (1 : Int)), (List.set s30.2 (Int.toNat z46.1) (Sw.cpy (Int.toNat x51) (List.take (Int.toNat x51) z46.2) z54))))
                ) fun k50 =>
              bif (cm .lss s30.1 (a1.length : Int)) then
                (Sw.idx a1 s30.1).bind fun z52 =>
                  (Sw.idx a1 s30.1).bind fun z53 =>
                    k50 (ar .rem .i64 (max z52 (IntKind.wrap .i64 (0 - (ar .add .i64 z53 (1 : Int))))) (9 : Int))
              else
                k50 (0 : Int)
          else
            some (.done (.brk s30.2))
          ) ((0 : Int), v3.1) fun (x44 : (List Blk)) =>
        some ((x44, ([] : (List (Int × Blk))), (-1 : Int)), (none : Option Int))
/-- ref_Raw -/
def m_ref_Raw (a0 : (List Int)) (a1 : Int) : Option (Int) :=
  bif (cm .eql (a0.length : Int) (0 : Int)) then
    some (ar .mul .i64 a1 (31 : Int))
  else
    (nz (a0.length : Int)).bind fun _ =>
      (Sw.idx a0 (ar .rem .i64 a1 (a0.length : Int))).bind fun z3 =>
        (m_ref_Pick z3 (1000003 : Int)).bind fun v4 =>
          (nz (a0.length : Int)).bind fun _ =>
            some (ar .add .i64 v4 (ar .mul .i64 (ar .quo .i64 a1 (a0.length : Int)) (7919 : Int)))
/-- ref_BlockFrom -/
def m_ref_BlockFrom (a0 : (List Int)) (a1 : Int) : Option (Blk) :=
  (m_ref_Raw a0 a1).bind fun v1 =>
    bif (cm .eql (ar .rem .i64 v1 (3 : Int)) (0 : Int)) then
      some zblk
    else
      (Sw.idx zblk (0 : Int)).bind fun _ =>
        jp (fun (x23 : Blk) =>
          some x23
          ) fun k22 =>
        bif (cm .eql (ar .rem .i64 v1 (3 : Int)) (2 : Int)) then
          lp (β := Blk) (fun (s32 : Int × Blk) =>
            bif (cm .lss s32.1 (8 : Int)) then
              (m_ref_Raw a0 (ar .add .i64 a1 s32.1)).bind fun v39 =>
                (Sw.idx s32.2 s32.1).bind fun _ =>
                  some (.next ((ar .add .i64 s32.1 (1 : Int)), (List.set s32.2 (Int.toNat s32.1) (IntKind.wrap .u8 (ar .quo .i64 v39 (7 : Int))))))
            else
              some (.done (.brk s32.2))
            ) ((1 : Int), (List.set zblk (Int.toNat (0 : Int)) (IntKind.wrap .u8 (ar .add .i64 (1 : Int) (ar .rem .i64 (ar .quo .i64 v1 (3 : Int)) (5 : Int)))))) fun (x37 : Blk) =>
          k22 x37
        else
          k22 (List.set zblk (Int.toNat (0 : Int)) (IntKind.wrap .u8 (ar .add .i64 (1 : Int) (ar .rem .i64 (ar .quo .i64 v1 (3 : Int)) (5 : Int)))))
/-- ref_PutsFrom -/
def m_ref_PutsFrom (a0 : (List Int)) (a1 : Int) (a2 : Int) : Option ((List (Int × Blk))) :=
  lp (β := (List (Int × Blk))) (fun (s13 : Int × (List (Int × Blk))) =>
    bif (cm .lss s13.1 a2) then
      (m_ref_Raw a0 (ar .add .i64 a1 s13.1)).bind fun v22 =>
        bif (cm .eql (ar .rem .i64 v22 (3 : Int)) (0 : Int)) then
          (m_ref_BlockFrom a0 (ar .add .i64 (ar .add .i64 a1 (ar .mul .i64 (5 : Int) s13.1)) (1 : Int))).bind fun v24 =>
            (Sw.app s13.2 ([(s13.1, v24)] : (List (Int × Blk)))).bind fun v25 =>
              some (.next ((ar .add .i64 s13.1 (1 : Int)), v25))
        else
          some (.next ((ar .add .i64 s13.1 (1 : Int)), s13.2))
    else
      some (.done (.brk s13.2))
    ) ((0 : Int), ([] : (List (Int × Blk)))) fun (x20 : (List (Int × Blk))) =>
  some x20
/-- ref_OwnBlocks -/
def m_ref_OwnBlocks (a0 : (List Blk)) : Option ((List Blk)) :=
  (Sw.app ([] : (List Blk)) a0).bind fun v1 =>
    some v1
/-- store_Store_Commit_1 -/
def m_store_Store_Commit_1 (a0 : (Int × Blk)) (a1 : (Option (Int × ((List Blk) × (List (Int × Blk)) × Int)))) : Option (Bool) :=
  (bif (cm .lss a0.1 (0 : Int)) then
    some true
  else
    (a1).bind fun z5 =>
      some (cm .geq a0.1 z5.1)).bind fun x3 =>
    some x3
/-- slices_IndexFunc_api_Put_api_Put -/
def m_slices_IndexFunc_api_Put_api_Put__store_Store_Commit_1 (a0 : (List (Int × Blk))) (a1_0 : (Option (Int × ((List Blk) × (List (Int × Blk)) × Int)))) : Option (Int) :=
  lp (β := Unit) (fun (s11 : Int) =>
    bif (cm .lss s11 (a0.length : Int)) then
      (Sw.idx a0 s11).bind fun z19 =>
        (m_store_Store_Commit_1 z19 a1_0).bind fun v20 =>
          bif v20 then
            some (.done (.ret s11))
          else
            some (.next (ar .add .i64 s11 (1 : Int)))
    else
      some (.done (.brk ()))
    ) (0 : Int) fun (_ : Unit) =>
  some (-1 : Int)
/-- slices_ContainsFunc_api_Put_api_Put -/
def m_slices_ContainsFunc_api_Put_api_Put__store_Store_Commit_1 (a0 : (List (Int × Blk))) (a1_0 : (Option (Int × ((List Blk) × (List (Int × Blk)) × Int)))) : Option (Bool) :=
  (m_slices_IndexFunc_api_Put_api_Put__store_Store_Commit_1 a0 a1_0).bind fun v1 =>
    some (cm .geq v1 (0 : Int))
/-- store_number -/
def m_store_number (a0 : Int) : Option (Blk) :=
  some ([(IntKind.wrap .u8 (sh .shr .i64 a0 (24 : Int))), (IntKind.wrap .u8 (sh .shr .i64 a0 (16 : Int))), (IntKind.wrap .u8 (sh .shr .i64 a0 (8 : Int))), (IntKind.wrap .u8 a0)] ++ List.replicate 4 (0 : Int) : Blk)
/-- store_Store_Commit_2 -/
def m_store_Store_Commit_2_io (a1 : (List (Int × Blk))) (a2_0 : Int) (a2_1 : ((List Blk) × (List (Int × Blk)) × Int)) : Option ((Option Int) × Int × ((List Blk) × (List (Int × Blk)) × Int)) :=
  (m_store_number (a1.length : Int)).bind fun v1 =>
    (m_store_Store_write_io a2_0 a2_1 (ar .add .i64 a2_0 (2 : Int)) v1).bind fun v2 =>
      some (v2.1, v2.2.1, v2.2.2)
/-- store_Store_Commit_3 -/
def m_store_Store_Commit_3_io (a1 : Int) (a2 : (Int × Blk)) (a3_0 : Int) (a3_1 : ((List Blk) × (List (Int × Blk)) × Int)) : Option ((Option Int) × Int × ((List Blk) × (List (Int × Blk)) × Int)) :=
  (m_store_number a2.1).bind fun v1 =>
    (m_store_Store_write_io a3_0 a3_1 (ar .add .i64 (ar .add .i64 a3_0 (3 : Int)) (ar .mul .i64 (2 : Int) a1)) v1).bind fun v2 =>
      some (v2.1, v2.2.1, v2.2.2)
/-- store_Store_Commit_4 -/
def m_store_Store_Commit_4_io (a1 : Int) (a2 : (Int × Blk)) (a3_0 : Int) (a3_1 : ((List Blk) × (List (Int × Blk)) × Int)) : Option ((Option Int) × Int × ((List Blk) × (List (Int × Blk)) × Int)) :=
  (m_store_Store_write_io a3_0 a3_1 (ar .add .i64 (ar .add .i64 a3_0 (4 : Int)) (ar .mul .i64 (2 : Int) a1)) a2.2).bind fun v1 =>
    some (v1.1, v1.2.1, v1.2.2)
/-- store_Store_Commit_5 -/
def m_store_Store_Commit_5_io (a1_0 : Int) (a1_1 : ((List Blk) × (List (Int × Blk)) × Int)) : Option ((Option Int) × Int × ((List Blk) × (List (Int × Blk)) × Int)) :=
  (m_store_Store_mark_io a1_0 a1_1 (1 : Int)).bind fun v1 =>
    some (v1.1, v1.2.1, v1.2.2)
/-- store_Store_Commit_6 -/
def m_store_Store_Commit_6_io (a1_0 : Int) (a1_1 : ((List Blk) × (List (Int × Blk)) × Int)) : Option ((Option Int) × Int × ((List Blk) × (List (Int × Blk)) × Int)) :=
  (m_store_Store_mark_io a1_0 a1_1 (0 : Int)).bind fun v1 =>
    some (v1.1, v1.2.1, v1.2.2)
/-- closures of store_Store_Commit -/
def m_clo_store_Store_Commit (q : Clo_store_Store_Commit) (n0 : Int) (n1 : ((List Blk) × (List (Int × Blk)) × Int)) : Option ((Option Int) × Int × ((List Blk) × (List (Int × Blk)) × Int)) := match q with
  | .inl z => m_store_Store_Commit_2_io z.2.2 n0 n1
  | .inr (.inl z) => m_store_Store_Commit_3_io z.2.2.1 z.2.2.2 n0 n1
  | .inr (.inr (.inl z)) => m_store_Store_Commit_4_io z.2.2.1 z.2.2.2 n0 n1
  | .inr (.inr (.inr (.inl z))) => m_store_Store_flush_io n0 n1
  | .inr (.inr (.inr (.inr (.inl z)))) => m_store_Store_Commit_5_io n0 n1
  | .inr (.inr (.inr (.inr (.inr (.inl z))))) => m_store_Store_apply_io n0 n1
  | .inr (.inr (.inr (.inr (.inr (.inr (.inl z)))))) => m_store_Store_flush_io n0 n1
  | .inr (.inr (.inr (.inr (.inr (.inr (.inr z)))))) => m_store_Store_Commit_6_io n0 n1
/-- store_all -/
def m_store_all_store_Store_Commit_io (a0 : (List Clo_store_Store_Commit)) (a1_0 : Int) (a1_1 : ((List Blk) × (List (Int × Blk)) × Int)) : Option ((Option Int) × Int × ((List Blk) × (List (Int × Blk)) × Int)) :=
  lp (β := Int × ((List Blk) × (List (Int × Blk)) × Int)) (fun (s11 : Int × Int × ((List Blk) × (List (Int × Blk)) × Int)) =>
    bif (cm .lss s11.1 (a0.length : Int)) then
      (Sw.idx a0 s11.1).bind fun z19 =>
        (m_clo_store_Store_Commit z19 s11.2.1 s11.2.2).bind fun v20 =>
          bif (Option.isSome v20.1) then
            some (.done (.ret (v20.1, v20.2.1, v20.2.2)))
          else
            some (.next ((ar .add .i64 s11.1 (1 : Int)), v20.2.1, v20.2.2))
    else
      some (.done (.brk (s11.2.1, s11.2.2)))
    ) ((0 : Int), a1_0, a1_1) fun (x17 : Int × ((List Blk) × (List (Int × Blk)) × Int)) =>
  some ((none : Option Int), x17.1, x17.2)
/-- store_Store_Commit -/
def m_store_Store_Commit_io (a0_0 : Int) (a0_1 : ((List Blk) × (List (Int × Blk)) × Int)) (a1 : (List (Int × Blk))) (a2 : Int) (a3 : Int) : Option ((Option Int) × Int × ((List Blk) × (List (Int × Blk)) × Int)) :=
  bif (cm .gtr (a1.length : Int) a0_0) then
    some ((some (2 : Int)), a0_0, a0_1)
  else
    (bif (cm .lss (min a2 a3) (0 : Int)) then
      some true
    else
      bif (cm .gtr (max a2 a3) (2147483647 : Int)) then
        some true
      else
        (m_slices_ContainsFunc_api_Put_api_Put__store_Store_Commit_1 a1 (some (a0_0, a0_1))).bind fun v9 =>
          some v9).bind fun x6 =>
      bif x6 then
        some ((some (1 : Int)), a0_0, a0_1)
      else
        (m_store_number a2).bind fun v11 =>
          (m_store_number a3).bind fun v12 =>
            (m_slices_Clone_api_Put_api_Put a1).bind fun v22 =>
              (Sw.subN v11 (0 : Int) (4 : Int) (4 : Int)).bind fun v23 =>
                (Sw.sub v12 (0 : Int) (4 : Int)).bind fun v24 =>
                  (Sw.app v23 v24).bind fun v25 =>
                    (Sw.arrOf 8 v25).bind fun z26 =>
                      (Sw.app v22 ([(a0_0, z26)] : (List (Int × Blk)))).bind fun v27 =>
                        lp (β := (List Clo_store_Store_Commit)) (fun (s36 : Int × (List Clo_store_Store_Commit)) =>
                          bif (cm .lss s36.1 (v27.length : Int)) then
                            (Sw.idx v27 s36.1).bind fun z43 =>
                              (Sw.app s36.2 ([(.inr (.inl ((), ((), (s36.1, z43)))) : Clo_store_Store_Commit), (.inr (.inr (.inl ((), ((), (s36.1, z43))))) : Clo_store_Store_Commit)] : (List Clo_store_Store_Commit))).bind fun v44 =>
                                some (.next ((ar .add .i64 s36.1 (1 : Int)), v44))
                          else
                            some (.done (.brk s36.2))
                          ) ((0 : Int), ([(.inl ((), ((), v27)) : Clo_store_Store_Commit)] : (List Clo_store_Store_Commit))) fun (x41 : (List Clo_store_Store_Commit)) =>
                        (Sw.app x41 ([(.inr (.inr (.inr (.inl ((), ())))) : Clo_store_Store_Commit), (.inr (.inr (.inr (.inr (.inl ((), ()))))) : Clo_store_Store_Commit), (.inr (.inr (.inr (.inr (.inr (.inl ((), ())))))) : Clo_store_Store_Commit), (.inr (.inr (.inr (.inr (.inr (.inr (.inl ((), ()))))))) : Clo_store_Store_Commit), (.inr (.inr (.inr (.inr (.inr (.inr (.inr ((), ()))))))) : Clo_store_Store_Commit)] : (List Clo_store_Store_Commit))).bind fun v45 =>
                          (m_store_all_store_Store_Commit_io v45 a0_0 a0_1).bind fun v46 =>
                            some (v46.1, v46.2.1, v46.2.2)
/-- store_Store_Disk -/
def m_store_Store_Disk (a0 : (Int × ((List Blk) × (List (Int × Blk)) × Int))) : Option (((List Blk) × (List (Int × Blk)) × Int)) :=
  (m_slices_Clone_api_Block_api_Block a0.2.1).bind fun v1 =>
    (m_slices_Clone_api_Put_api_Put a0.2.2.1).bind fun v2 =>
      some (v1, v2, a0.2.2.2)
/-- store_Store_Get -/
def m_store_Store_Get (a0 : (Int × ((List Blk) × (List (Int × Blk)) × Int))) (a1 : Int) : Option (Blk × (Option Int)) :=
  (bif (cm .lss a1 (0 : Int)) then
    some true
  else
    some (cm .geq a1 a0.1)).bind fun x2 =>
    bif x2 then
      some (zblk, (some (1 : Int)))
    else
      (m_disk_Read a0.2 a1).bind fun v5 =>
        some (v5.1, v5.2)
/-- store_Store_All -/
def m_store_Store_All (a0 : (Int × ((List Blk) × (List (Int × Blk)) × Int))) : Option ((List Blk) × (Option Int)) :=
  lp (β := (List Blk)) (fun (s11 : Int × (List Blk)) =>
    bif (cm .lss s11.1 a0.1) then
      (m_store_Store_Get a0 s11.1).bind fun v19 =>
        bif (Option.isSome v19.2) then
          some (.done (.ret (([] : (List Blk)), v19.2)))
        else
          (Sw.app s11.2 ([v19.1] : (List Blk))).bind fun v21 =>
            some (.next ((ar .add .i64 s11.1 (1 : Int)), v21))
    else
      some (.done (.brk s11.2))
    ) ((0 : Int), ([] : (List Blk))) fun (x17 : (List Blk)) =>
  some (x17, (none : Option Int))
/-- store_Store_Numbers -/
def m_store_Store_Numbers (a0 : (Int × ((List Blk) × (List (Int × Blk)) × Int))) : Option (Int × Int × (Option Int)) :=
  (m_disk_Read a0.2 a0.1).bind fun v1 =>
    bif (Option.isSome v1.2) then
      some ((0 : Int), (0 : Int), v1.2)
    else
      (m_store_value v1.1).bind fun v4 =>
        (Sw.subN v1.1 (4 : Int) (8 : Int) (8 : Int)).bind fun v5 =>
          (Sw.sub v1.1 (0 : Int) (4 : Int)).bind fun v6 =>
            (Sw.app v5 v6).bind fun v7 =>
              (Sw.arrOf 8 v7).bind fun z8 =>
                (m_store_value z8).bind fun v9 =>
                  some (v4, v9, (none : Option Int))
/-- ref_SameBlocks -/
def m_ref_SameBlocks (a0 : (List Blk)) (a1 : (List Blk)) : Option (Bool) :=
  bif (cm .neq (a0.length : Int) (a1.length : Int)) then
    some false
  else
    lp (β := Unit) (fun (s12 : Int) =>
      bif (cm .lss s12 (a0.length : Int)) then
        (Sw.idx a0 s12).bind fun z20 =>
          (Sw.idx a1 s12).bind fun z21 =>
            bif (!decide (z20 = z21)) then
              some (.done (.ret false))
            else
              some (.next (ar .add .i64 s12 (1 : Int)))
      else
        some (.done (.brk ()))
      ) (0 : Int) fun (_ : Unit) =>
    some true
/-- top_as -/
def m_top_as (a0 : (Int × ((List Blk) × (List (Int × Blk)) × Int))) (a1 : (List Blk)) (a2 : Int) : Option (Bool) :=
  (m_store_Store_All a0).bind fun v1 =>
    (m_store_Store_Numbers a0).bind fun v2 =>
      (bif (Option.isNone v1.2) then
        bif (Option.isNone v2.2.2) then
          (m_ref_SameBlocks v1.1 a1).bind fun v11 =>
            bif v11 then
              bif (cm .eql v2.1 a2) then
                some (cm .eql v2.2.1 a2)
              else
                some false
            else
              some false
        else
          some false
      else
        some false).bind fun x8 =>
        some x8
/-- top_TopAtomic -/
def m_top_TopAtomic (a0 : (List Int)) (a1 : Int) (a2 : Int) (a3 : (List Int)) : Option (Bool) :=
  (bif (cm .gtr (a0.length : Int) (128 : Int)) then
    some true
  else
    some (cm .gtr (a3.length : Int) (30 : Int))).bind fun x2 =>
    bif x2 then
      some true
    else
      (m_ref_Pick a1 (32 : Int)).bind fun v5 =>
        (m_ref_Pick a2 (100 : Int)).bind fun v6 =>
          (m_store_Format (ar .add .i64 (1 : Int) v5)).bind fun v7 =>
            bif (Option.isSome v7.2) then
              some false
            else
              (Sw.mk (ar .add .i64 (1 : Int) v5) zblk).bind fun v9 =>
                lp (β := Unit) (fun (s472 : Int × Int × (List Blk) × (List (Int × Blk)) × Int × (List Blk)) =>
                  bif (cm .lss s472.2.1 (a3.length : Int)) then
                    (Sw.idx a3 s472.2.1).bind fun z706 =>
                      (m_ref_Pick z706 (120 : Int)).bind fun v707 =>
                        (m_store_Open (s472.2.2.1, s472.2.2.2.1, v707) (ar .add .i64 (1 : Int) v5)).bind fun v708 =>
                          ocase v708.1 (
                            bif (v708.2 == (some (4 : Int))) then
                              (m_disk_Crash (s472.2.2.1, s472.2.2.2.1, v707) a0).bind fun v715 =>
                                bif (Option.isSome v715.2) then
                                  some (.done (.ret false))
                                else
                                  (m_store_Open v715.1 (ar .add .i64 (1 : Int) v5)).bind fun v717 =>
                                    ocase v717.1 (
                                      (bif (Option.isSome v717.2) then
                                        some ()
                                      else
                                        some ()).bind fun _ =>
                                        some (.done (.ret false))
                                      ) fun z718 =>
                                      (bif (Option.isSome v717.2) then
                                        some true
                                      else
                                        some false).bind fun x724 =>
                                        bif x724 then
                                          some (.done (.ret false))
                                        else
                                          (m_ref_PutsFrom a0 (ar .add .i64 v6 s472.2.1) (ar .add .i64 (1 : Int) v5)).bind fun v727 =>
                                            (m_ref_OwnBlocks s472.2.2.2.2.2).bind fun v728 =>
                                              lp (β := (List Blk)) (fun (s739 : Int × (List Blk)) =>
                                                bif (cm .lss s739.1 (v727.length : Int)) then
                                                  (Sw.idx v727 s739.1).bind fun z747 =>
                                                    (Sw.idx v727 s739.1).bind fun z748 =>
                                                      (Sw.idx s739.2 z747.1).bind fun _ =>
                                                        some (.next ((ar .add .i64 s739.1 (1 : Int)), (List.set s739.2 (Int.toNat z747.1) z748.2)))
                                                else
                                                  some (.done (.brk s739.2))
                                                ) ((0 : Int), v728) fun (x745 : (List Blk)) =>
                                              (m_store_Store_Commit_io z718.1 z718.2 v727 (ar .add .i64 s472.2.1 (1 : Int)) (ar .add .i64 s472.2.1 (1 : Int))).bind fun v750 =>
                                                (bif (Option.isSome v750.1) then
                                                  some (!(v750.1 == (some (4 : Int))))
                                                else
                                                  some false).bind fun x752 =>
                                                  bif x752 then
                                                    some (.done (.ret false))
                                                  else
                                                    (m_store_Store_Disk v750.2).bind fun v755 =>
                                                      (m_ref_Pick (ar .add .i64 v6 s472.2.1) (ar .add .i64 (a0.length : Int) (1 : Int))).bind fun v756 =>
                                                        (Sw.sub a0 v756 (a0.length : Int)).bind fun v757 =>
                                                          (m_disk_Crash v755 v757).bind fun v759 =>
                                                            bif (Option.isSome v759.2) then
                                                              some (.done (.ret false))
                                                            else
                                                              (m_store_Open v759.1 (ar .add .i64 (1 : Int) v5)).bind fun v761 =>
                                                                ocase v761.1 (
                                                                  (bif (Option.isSome v761.2) then
                                                                    some ()
                                                                  else
                                                                    some ()).bind fun _ =>
                                                                    some (.done (.ret false))
                                                                  ) fun z762 =>
                                                                  (bif (Option.isSome v761.2) then
                                                                    some true
                                                                  else
                                                                    some false).bind fun x768 =>
                                                                    bif x768 then
                                                                      some (.done (.ret false))
                                                                    else
                                                                      (m_top_as z762 x745 (ar .add .i64 s472.2.1 (1 : Int))).bind fun v771 =>
                                                                        jp (fun (x780 : Int × (List Blk)) =>
                                                                          (m_store_Store_Disk z762).bind fun v787 =>
                                                                            some (.next (x780.1, (ar .add .i64 s472.2.1 (1 : Int)), v787.1, v787.2.1, v787.2.2, x780.2))
                                                                          ) fun k779 =>
                                                                        bif v771 then
                                                                          k779 ((ar .add .i64 s472.2.1 (1 : Int)), x745)
                                                                        else
                                                                          (bif (Option.isNone v750.1) then
                                                                            some true
                                                                          else
                                                                            (m_top_as z762 s472.2.2.2.2.2 s472.1).bind fun v785 =>
                                                                              some (!v785)).bind fun x783 =>
                                                                            bif x783 then
                                                                              some (.done (.ret false))
                                                                            else
                                                                              k779 (s472.1, s472.2.2.2.2.2)
                            else
                              (bif (Option.isSome v708.2) then
                                some ()
                              else
                                some ()).bind fun _ =>
                                some (.done (.ret false))
                            ) fun z709 =>
                            bif (v708.2 == (some (4 : Int))) then
                              (m_disk_Crash (s472.2.2.1, s472.2.2.2.1, v707) a0).bind fun v797 =>
                                bif (Option.isSome v797.2) then
                                  some (.done (.ret false))
                                else
                                  (m_store_Open v797.1 (ar .add .i64 (1 : Int) v5)).bind fun v799 =>
                                    ocase v799.1 (
                                      (bif (Option.isSome v799.2) then
                                        some ()
                                      else
                                        some ()).bind fun _ =>
                                        some (.done (.ret false))
                                      ) fun z800 =>
                                      (bif (Option.isSome v799.2) then
                                        some true
                                      else
                                        some false).bind fun x806 =>
                                        bif x806 then
                                          some (.done (.ret false))
                                        else
                                          (m_ref_PutsFrom a0 (ar .add .i64 v6 s472.2.1) (ar .add .i64 (1 : Int) v5)).bind fun v809 =>
                                            (m_ref_OwnBlocks s472.2.2.2.2.2).bind fun v810 =>
                                              lp (β := (List Blk)) (fun (s821 : Int × (List Blk)) =>
                                                bif (cm .lss s821.1 (v809.length : Int)) then
                                                  (Sw.idx v809 s821.1).bind fun z829 =>
                                                    (Sw.idx v809 s821.1).bind fun z830 =>
                                                      (Sw.idx s821.2 z829.1).bind fun _ =>
                                                        some (.next ((ar .add .i64 s821.1 (1 : Int)), (List.set s821.2 (Int.toNat z829.1) z830.2)))
                                                else
                                                  some (.done (.brk s821.2))
                                                ) ((0 : Int), v810) fun (x827 : (List Blk)) =>
                                              (m_store_Store_Commit_io z800.1 z800.2 v809 (ar .add .i64 s472.2.1 (1 : Int)) (ar .add .i64 s472.2.1 (1 : Int))).bind fun v832 =>
                                                (bif (Option.isSome v832.1) then
                                                  some (!(v832.1 == (some (4 : Int))))
                                                else
                                                  some false).bind fun x834 =>
                                                  bif x834 then
                                                    some (.done (.ret false))
                                                  else
                                                    (m_store_Store_Disk v832.2).bind fun v837 =>
                                                      (m_ref_Pick (ar .add .i64 v6 s472.2.1) (ar .add .i64 (a0.length : Int) (1 : Int))).bind fun v838 =>
                                                        (Sw.sub a0 v838 (a0.length : Int)).bind fun v839 =>
                                                          (m_disk_Crash v837 v839).bind fun v841 =>
                                                            bif (Option.isSome v841.2) then
                                                              some (.done (.ret false))
                                                            else
                                                              (m_store_Open v841.1 (ar .add .i64 (1 : Int) v5)).bind fun v843 =>
                                                                ocase v843.1 (
                                                                  (bif (Option.isSome v843.2) then
                                                                    some ()
                                                                  else
                                                                    some ()).bind fun _ =>
                                                                    some (.done (.ret false))
                                                                  ) fun z844 =>
                                                                  (bif (Option.isSome v843.2) then
                                                                    some true
                                                                  else
                                                                    some false).bind fun x850 =>
                                                                    bif x850 then
                                                                      some (.done (.ret false))
                                                                    else
                                                                      (m_top_as z844 x827 (ar .add .i64 s472.2.1 (1 : Int))).bind fun v853 =>
                                                                        jp (fun (x862 : Int × (List Blk)) =>
                                                                          (m_store_Store_Disk z844).bind fun v869 =>
                                                                            some (.next (x862.1, (ar .add .i64 s472.2.1 (1 : Int)), v869.1, v869.2.1, v869.2.2, x862.2))
                                                                          ) fun k861 =>
                                                                        bif v853 then
                                                                          k861 ((ar .add .i64 s472.2.1 (1 : Int)), x827)
                                                                        else
                                                                          (bif (Option.isNone v832.1) then
                                                                            some true
                                                                          else
                                                                            (m_top_as z844 s472.2.2.2.2.2 s472.1).bind fun v867 =>
                                                                              some (!v867)).bind fun x865 =>
                                                                            bif x865 then
                                                                              some (.done (.ret false))
                                                                            else
                                                                              k861 (s472.1, s472.2.2.2.2.2)
                            else
                              (bif (Option.isSome v708.2) then
                                some true
                              else
                                some false).bind fun x871 =>
                                bif x871 then
                                  some (.done (.ret false))
                                else
                                  (m_ref_PutsFrom a0 (ar .add .i64 v6 s472.2.1) (ar .add .i64 (1 : Int) v5)).bind fun v874 =>
                                    (m_ref_OwnBlocks s472.2.2.2.2.2).bind fun v875 =>
                                      lp (β := (List Blk)) (fun (s886 : Int × (List Blk)) =>
                                        bif (cm .lss s886.1 (v874.length : Int)) then
                                          (Sw.idx v874 s886.1).bind fun z894 =>
                                            (Sw.idx v874 s886.1).bind fun z895 =>
                                              (Sw.idx s886.2 z894.1).bind fun _ =>
                                                some (.next ((ar .add .i64 s886.1 (1 : Int)), (List.set s886.2 (Int.toNat z894.1) z895.2)))
                                        else
                                          some (.done (.brk s886.2))
                                        ) ((0 : Int), v875) fun (x892 : (List Blk)) =>
                                      (m_store_Store_Commit_io z709.1 z709.2 v874 (ar .add .i64 s472.2.1 (1 : Int)) (ar .add .i64 s472.2.1 (1 : Int))).bind fun v897 =>
                                        (bif (Option.isSome v897.1) then
                                          some (!(v897.1 == (some (4 : Int))))
                                        else
                                          some false).bind fun x899 =>
                                          bif x899 then
                                            some (.done (.ret false))
                                          else
                                            (m_store_Store_Disk v897.2).bind fun v902 =>
                                              (m_ref_Pick (ar .add .i64 v6 s472.2.1) (ar .add .i64 (a0.length : Int) (1 : Int))).bind fun v903 =>
                                                (Sw.sub a0 v903 (a0.length : Int)).bind fun v904 =>
                                                  (m_disk_Crash v902 v904).bind fun v906 =>
                                                    bif (Option.isSome v906.2) then
                                                      some (.done (.ret false))
                                                    else
                                                      (m_store_Open v906.1 (ar .add .i64 (1 : Int) v5)).bind fun v908 =>
                                                        ocase v908.1 (
                                                          (bif (Option.isSome v908.2) then
                                                            some ()
                                                          else
                                                            some ()).bind fun _ =>
                                                            some (.done (.ret false))
                                                          ) fun z909 =>
                                                          (bif (Option.isSome v908.2) then
                                                            some true
                                                          else
                                                            some false).bind fun x915 =>
                                                            bif x915 then
                                                              some (.done (.ret false))
                                                            else
                                                              (m_top_as z909 x892 (ar .add .i64 s472.2.1 (1 : Int))).bind fun v918 =>
                                                                jp (fun (x927 : Int × (List Blk)) =>
                                                                  (m_store_Store_Disk z909).bind fun v934 =>
                                                                    some (.next (x927.1, (ar .add .i64 s472.2.1 (1 : Int)), v934.1, v934.2.1, v934.2.2, x927.2))
                                                                  ) fun k926 =>
                                                                bif v918 then
                                                                  k926 ((ar .add .i64 s472.2.1 (1 : Int)), x892)
                                                                else
                                                                  (bif (Option.isNone v897.1) then
                                                                    some true
                                                                  else
                                                                    (m_top_as z909 s472.2.2.2.2.2 s472.1).bind fun v932 =>
                                                                      some (!v932)).bind fun x930 =>
                                                                    bif x930 then
                                                                      some (.done (.ret false))
                                                                    else
                                                                      k926 (s472.1, s472.2.2.2.2.2)
                  else
                    some (.done (.brk ()))
                  ) ((0 : Int), (0 : Int), v7.1.1, v7.1.2.1, v7.1.2.2, v9) fun (_ : Unit) =>
                some true
end Go.Mo
