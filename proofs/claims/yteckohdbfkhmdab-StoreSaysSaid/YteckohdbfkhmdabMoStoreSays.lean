/- What the functions that this law reaches come to, as plain functions. Conditions: none. -/
import Derived.Test.YteckohdbfkhmdabSwC
set_option linter.unusedVariables false
set_option linter.unusedSimpArgs false
namespace Go.Mo
open Go Go.Sw
abbrev Blk := List Int
abbrev eBlk : Enc Blk := Enc.arr 8 (Enc.int .u8)
def zblk : Blk := List.replicate 8 0
abbrev Clo_store_Store_replay := ((Unit × Unit) ⊕ ((Unit × Unit) ⊕ (Unit × Unit)))
abbrev eClo_store_Store_replay (a p : Nat) : Enc Clo_store_Store_replay := (Enc.sm (Enc.fn2 118 (Enc.adr a) Enc.st0) (Enc.sm (Enc.fn2 115 (Enc.adr a) Enc.st0) (Enc.fn2 143 Enc.st0 (Enc.adr p)) rfl rfl rfl rfl) rfl rfl rfl rfl)
abbrev Clo_store_Store_mark := ((Unit × (Unit × Int)) ⊕ (Unit × Unit))
abbrev eClo_store_Store_mark (a p : Nat) : Enc Clo_store_Store_mark := (Enc.sm (Enc.fn2 148 Enc.st0 (Enc.pr (Enc.adr p) (Enc.pt (Enc.int .u8)))) (Enc.fn2 115 (Enc.adr a) Enc.st0) rfl rfl rfl rfl)
abbrev Clo_store_Store_Commit := ((Unit × (Unit × (List (Int × Blk)))) ⊕ ((Unit × (Unit × (Int × (Int × Blk)))) ⊕ ((Unit × (Unit × (Int × (Int × Blk)))) ⊕ ((Unit × Unit) ⊕ ((Unit × Unit) ⊕ ((Unit × Unit) ⊕ ((Unit × Unit) ⊕ (Unit × Unit))))))))
abbrev eClo_store_Store_Commit (a p : Nat) : Enc Clo_store_Store_Commit := (Enc.sm (Enc.fn2 110 Enc.st0 (Enc.pr (Enc.adr p) (Enc.pt (Enc.sl (Enc.pr (Enc.int .i64) eBlk))))) (Enc.sm (Enc.fn2 112 Enc.st0 (Enc.pr (Enc.adr p) (Enc.pr (Enc.pt (Enc.int .i64)) (Enc.pt (Enc.pr (Enc.int .i64) eBlk))))) (Enc.sm (Enc.fn2 113 Enc.st0 (Enc.pr (Enc.adr p) (Enc.pr (Enc.pt (Enc.int .i64)) (Enc.pt (Enc.pr (Enc.int .i64) eBlk))))) (Enc.sm (Enc.fn2 115 (Enc.adr a) Enc.st0) (Enc.sm (Enc.fn2 116 Enc.st0 (Enc.adr p)) (Enc.sm (Enc.fn2 118 (Enc.adr a) Enc.st0) (Enc.sm (Enc.fn2 115 (Enc.adr a) Enc.st0) (Enc.fn2 119 Enc.st0 (Enc.adr p)) rfl rfl rfl rfl) rfl rfl rfl rfl) rfl rfl rfl rfl) rfl rfl rfl rfl) rfl rfl rfl rfl) rfl rfl rfl rfl) rfl rfl rfl rfl)
/-- store_Need -/
def m_store_Need (a0 : Int) : Option (Int × (Option Int)) :=
  (bif (cm .lss a0 (1 : Int)) then
    some true
  else
    some (cm .gtr a0 (32 : Int))).bind fun x2 =>
    bif x2 then
      some ((0 : Int), (some (1 : Int)))
    else
      some ((ar .add .i64 (ar .add .i64 (ar .add .i64 a0 (1 : Int)) (2 : Int)) (ar .mul .i64 (2 : Int) (ar .add .i64 a0 (1 : Int)))), (none : Option Int))
/-- disk_New -/
def m_disk_New (a0 : Int) : Option (((List Blk) × (List (Int × Blk)) × Int) × (Option Int)) :=
  (bif (cm .lss a0 (1 : Int)) then
    some true
  else
    some (cm .gtr a0 (200 : Int))).bind fun x2 =>
    bif x2 then
      some ((([] : (List Blk)), ([] : (List (Int × Blk))), (0 : Int)), (some (1 : Int)))
    else
      (Sw.mk a0 zblk).bind fun v5 =>
        some ((v5, ([] : (List (Int × Blk))), (-1 : Int)), (none : Option Int))
/-- store_Format -/
def m_store_Format (a0 : Int) : Option (((List Blk) × (List (Int × Blk)) × Int) × (Option Int)) :=
  (m_store_Need a0).bind fun v1 =>
    bif (Option.isSome v1.2) then
      some ((([] : (List Blk)), ([] : (List (Int × Blk))), (0 : Int)), v1.2)
    else
      (m_disk_New v1.1).bind fun v3 =>
        some (v3.1, v3.2)
/-- disk_Check_1 -/
def m_disk_Check_1 (a0 : (Int × Blk)) (a1 : ((List Blk) × (List (Int × Blk)) × Int)) : Option (Bool) :=
  (bif (cm .lss a0.1 (0 : Int)) then
    some true
  else
    some (cm .geq a0.1 (a1.1.length : Int))).bind fun x2 =>
    some x2
/-- slices_IndexFunc_api_Put_api_Put -/
def m_slices_IndexFunc_api_Put_api_Put__disk_Check_1 (a0 : (List (Int × Blk))) (a1_0 : ((List Blk) × (List (Int × Blk)) × Int)) : Option (Int) :=
  lp (β := Unit) (fun (s11 : Int) =>
    bif (cm .lss s11 (a0.length : Int)) then
      (Sw.idx a0 s11).bind fun z19 =>
        (m_disk_Check_1 z19 a1_0).bind fun v20 =>
          bif v20 then
            some (.done (.ret s11))
          else
            some (.next (ar .add .i64 s11 (1 : Int)))
    else
      some (.done (.brk ()))
    ) (0 : Int) fun (_ : Unit) =>
  some (-1 : Int)
/-- slices_ContainsFunc_api_Put_api_Put -/
def m_slices_ContainsFunc_api_Put_api_Put__disk_Check_1 (a0 : (List (Int × Blk))) (a1_0 : ((List Blk) × (List (Int × Blk)) × Int)) : Option (Bool) :=
  (m_slices_IndexFunc_api_Put_api_Put__disk_Check_1 a0 a1_0).bind fun v1 =>
    some (cm .geq v1 (0 : Int))
/-- disk_Check -/
def m_disk_Check (a0 : ((List Blk) × (List (Int × Blk)) × Int)) : Option ((Option Int)) :=
  (bif (cm .lss (a0.1.length : Int) (1 : Int)) then
    some true
  else
    bif (cm .gtr (a0.1.length : Int) (200 : Int)) then
      some true
    else
      some (cm .gtr (a0.2.1.length : Int) (800 : Int))).bind fun x3 =>
    bif x3 then
      some (some (2 : Int))
    else
      (m_slices_ContainsFunc_api_Put_api_Put__disk_Check_1 a0.2.1 a0).bind fun v7 =>
        bif v7 then
          some (some (1 : Int))
        else
          some (none : Option Int)
/-- slices_Clone_api_Block_api_Block -/
def m_slices_Clone_api_Block_api_Block_nil (a0 : (Bool × (List Blk))) : Option ((List Blk)) :=
  bif a0.1 then
    some ([] : (List Blk))
  else
    (Sw.app ([] : (List Blk)) a0.2).bind fun v2 =>
      some v2
/-- slices_Clone_api_Block_api_Block -/
def m_slices_Clone_api_Block_api_Block (a0 : (List Blk)) : Option (List Blk) := Sw.app [] a0
/-- slices_Backward_api_Put_api_Put -/
def m_slices_Backward_api_Put_api_Put (a0 : (List (Int × Blk))) : Option ((List (Int × Blk))) :=
  some a0

/-- disk_Read -/
def m_disk_Read (a0 : ((List Blk) × (List (Int × Blk)) × Int)) (a1 : Int) : Option (Blk × (Option Int)) :=
  (m_disk_Check a0).bind fun v1 =>
    bif (Option.isSome v1) then
      some (zblk, v1)
    else
      (bif (cm .lss a1 (0 : Int)) then
        some true
      else
        some (cm .geq a1 (a0.1.length : Int))).bind fun x4 =>
        bif x4 then
          some (zblk, (some (1 : Int)))
        else
          bif (cm .eql a0.2.2 (0 : Int)) then
            some (zblk, (some (4 : Int)))
          else
            (m_slices_Backward_api_Put_api_Put a0.2.1).bind fun v8 =>
              (Sw.small v8).bind fun _ =>
                rg (δ := Blk) (fun (z10 : (Int × (Int × Blk))) (_ : Unit) =>
                  bif (cm .eql z10.2.1 a1) then
                    some (.done z10.2.2)
                  else
                    some (.next ())
                  ) (Sw.backs v8) () (fun (_ : Unit) =>
                  (Sw.idx a0.1 a1).bind fun z16 =>
                    some (z16, (none : Option Int))
                  ) fun (z18 : Blk) =>
                  some (z18, (none : Option Int))
/-- store_value -/
def m_store_value (a0 : Blk) : Option (Int) :=
  (Sw.idx a0 (0 : Int)).bind fun z1 =>
    (Sw.idx a0 (1 : Int)).bind fun z2 =>
      (Sw.idx a0 (2 : Int)).bind fun z3 =>
        (Sw.idx a0 (3 : Int)).bind fun z4 =>
          some (ar .or .i64 (ar .or .i64 (ar .or .i64 (sh .shl .i64 z1 (24 : Int)) (sh .shl .i64 z2 (16 : Int))) (sh .shl .i64 z3 (8 : Int))) z4)
/-- slices_Clone_api_Put_api_Put -/
def m_slices_Clone_api_Put_api_Put_nil (a0 : (Bool × (List (Int × Blk)))) : Option ((List (Int × Blk))) :=
  bif a0.1 then
    some ([] : (List (Int × Blk)))
  else
    (Sw.app ([] : (List (Int × Blk))) a0.2).bind fun v2 =>
      some v2
/-- slices_Clone_api_Put_api_Put -/
def m_slices_Clone_api_Put_api_Put (a0 : (List (Int × Blk))) : Option (List (Int × Blk)) := Sw.app [] a0
/-- disk_clone -/
def m_disk_clone (a0 : ((List Blk) × (List (Int × Blk)) × Int)) : Option (((List Blk) × (List (Int × Blk)) × Int)) :=
  (m_slices_Clone_api_Block_api_Block a0.1).bind fun v1 =>
    (m_slices_Clone_api_Put_api_Put a0.2.1).bind fun v2 =>
      some (v1, v2, a0.2.2)
/-- disk_Disk_step -/
def m_disk_Disk_step_io (a0_0 : (List Blk)) (a0_1 : (List (Int × Blk))) (a0_2 : Int) : Option ((Option Int) × (List Blk) × (List (Int × Blk)) × Int) :=
  bif (cm .eql a0_2 (0 : Int)) then
    some ((some (4 : Int)), a0_0, a0_1, a0_2)
  else
    jp (fun (x4 : Int) =>
      some ((none : Option Int), a0_0, a0_1, x4)
      ) fun k3 =>
    bif (cm .gtr a0_2 (0 : Int)) then
      k3 (ar .sub .i64 a0_2 (1 : Int))
    else
      k3 a0_2
/-- disk_Write -/
def m_disk_Write (a0 : ((List Blk) × (List (Int × Blk)) × Int)) (a1 : Int) (a2 : Blk) : Option (((List Blk) × (List (Int × Blk)) × Int) × (Option Int)) :=
  (m_disk_Check a0).bind fun v1 =>
    bif (Option.isSome v1) then
      some ((([] : (List Blk)), ([] : (List (Int × Blk))), (0 : Int)), v1)
    else
      (bif (cm .lss a1 (0 : Int)) then
        some true
      else
        some (cm .geq a1 (a0.1.length : Int))).bind fun x4 =>
        bif x4 then
          some ((([] : (List Blk)), ([] : (List (Int × Blk))), (0 : Int)), (some (1 : Int)))
        else
          bif (cm .eql (a0.2.1.length : Int) (800 : Int)) then
            some ((([] : (List Blk)), ([] : (List (Int × Blk))), (0 : Int)), (some (2 : Int)))
          else
            (m_disk_clone a0).bind fun v8 =>
              (m_disk_Disk_step_io v8.1 v8.2.1 v8.2.2).bind fun v9 =>
                bif (Option.isSome v9.1) then
                  some ((([] : (List Blk)), ([] : (List (Int × Blk))), (0 : Int)), v9.1)
                else
                  (Sw.app v9.2.2.1 ([(a1, a2)] : (List (Int × Blk)))).bind fun v11 =>
                    some ((v9.2.1, v11, v9.2.2.2), (none : Option Int))
/-- store_Store_write -/
def m_store_Store_write_io (a0_0 : Int) (a0_1 : ((List Blk) × (List (Int × Blk)) × Int)) (a1 : Int) (a2 : Blk) : Option ((Option Int) × Int × ((List Blk) × (List (Int × Blk)) × Int)) :=
  (m_disk_Write a0_1 a1 a2).bind fun v1 =>
    jp (fun (x4 : ((List Blk) × (List (Int × Blk)) × Int)) =>
      some (v1.2, a0_0, x4)
      ) fun k3 =>
    bif (Option.isNone v1.2) then
      k3 v1.1
    else
      k3 a0_1
/-- store_Store_apply -/
def m_store_Store_apply_io (a0_0 : Int) (a0_1 : ((List Blk) × (List (Int × Blk)) × Int)) : Option ((Option Int) × Int × ((List Blk) × (List (Int × Blk)) × Int)) :=
  (m_disk_Read a0_1 (ar .add .i64 a0_0 (2 : Int))).bind fun v1 =>
    lp (β := (Option Int) × Int × ((List Blk) × (List (Int × Blk)) × Int)) (fun (s34 : (Option Int) × Int × Int × ((List Blk) × (List (Int × Blk)) × Int)) =>
      (bif (Option.isNone s34.1) then
        (m_store_value v1.1).bind fun v56 =>
          some (cm .lss s34.2.1 v56)
      else
        some false).bind fun x54 =>
        bif x54 then
          (m_disk_Read s34.2.2.2 (ar .add .i64 (ar .add .i64 s34.2.2.1 (3 : Int)) (ar .mul .i64 (2 : Int) s34.2.1))).bind fun v58 =>
            jp (fun (x62 : (Option Int) × Blk) =>
              bif (Option.isNone x62.1) then
                (m_store_value v58.1).bind fun v65 =>
                  (m_store_Store_write_io s34.2.2.1 s34.2.2.2 v65 x62.2).bind fun v66 =>
                    some (.next (v66.1, (ar .add .i64 s34.2.1 (1 : Int)), v66.2.1, v66.2.2))
              else
                some (.next (x62.1, (ar .add .i64 s34.2.1 (1 : Int)), s34.2.2.1, s34.2.2.2))
              ) fun k61 =>
            bif (Option.isNone v58.2) then
              (m_disk_Read s34.2.2.2 (ar .add .i64 (ar .add .i64 s34.2.2.1 (4 : Int)) (ar .mul .i64 (2 : Int) s34.2.1))).bind fun v63 =>
                k61 (v63.2, v63.1)
            else
              k61 (v58.2, zblk)
        else
          some (.done (.brk (s34.1, s34.2.2.1, s34.2.2.2)))
      ) (v1.2, (0 : Int), a0_0, a0_1) fun (x51 : (Option Int) × Int × ((List Blk) × (List (Int × Blk)) × Int)) =>
    some (x51.1, x51.2.1, x51.2.2)
/-- disk_Flush -/
def m_disk_Flush (a0 : ((List Blk) × (List (Int × Blk)) × Int)) : Option (((List Blk) × (List (Int × Blk)) × Int) × (Option Int)) :=
  (m_disk_Check a0).bind fun v1 =>
    bif (Option.isSome v1) then
      some ((([] : (List Blk)), ([] : (List (Int × Blk))), (0 : Int)), v1)
    else
      (m_disk_clone a0).bind fun v3 =>
        (m_disk_Disk_step_io v3.1 v3.2.1 v3.2.2).bind fun v4 =>
          bif (Option.isSome v4.1) then
            some ((([] : (List Blk)), ([] : (List (Int × Blk))), (0 : Int)), v4.1)
          else
            lp (β := (List Blk)) (fun (s14 : Int × (List Blk)) =>
              bif (cm .lss s14.1 (v4.2.2.1.length : Int)) then
                (Sw.idx v4.2.2.1 s14.1).bind fun z21 =>
                  (Sw.idx s14.2 z21.1).bind fun _ =>
                    some (.next ((ar .add .i64 s14.1 (1 : Int)), (List.set s14.2 (Int.toNat z21.1) z21.2)))
              else
                some (.done (.brk s14.2))
              ) ((0 : Int), v4.2.1) fun (x19 : (List Blk)) =>
            some ((x19, ([] : (List (Int × Blk))), v4.2.2.2), (none : Option Int))
/-- store_Store_flush -/
def m_store_Store_flush_io (a0_0 : Int) (a0_1 : ((List Blk) × (List (Int × Blk)) × Int)) : Option ((Option Int) × Int × ((List Blk) × (List (Int × Blk)) × Int)) :=
  (m_disk_Flush a0_1).bind fun v1 =>
    jp (fun (x4 : ((List Blk) × (List (Int × Blk)) × Int)) =>
      some (v1.2, a0_0, x4)
      ) fun k3 =>
    bif (Option.isNone v1.2) then
      k3 v1.1
    else
      k3 a0_1
/-- store_Store_mark_1 -/
def m_store_Store_mark_1_io (a1 : Int) (a2_0 : Int) (a2_1 : ((List Blk) × (List (Int × Blk)) × Int)) : Option ((Option Int) × Int × ((List Blk) × (List (Int × Blk)) × Int)) :=
  (m_store_Store_write_io a2_0 a2_1 (ar .add .i64 a2_0 (1 : Int)) ([a1] ++ List.replicate 7 (0 : Int) : Blk)).bind fun v1 =>
    some (v1.1, v1.2.1, v1.2.2)
/-- closures of store_Store_mark -/
def m_clo_store_Store_mark (q : Clo_store_Store_mark) (n0 : Int) (n1 : ((List Blk) × (List (Int × Blk)) × Int)) : Option ((Option Int) × Int × ((List Blk) × (List (Int × Blk)) × Int)) := match q with
  | .inl z => m_store_Store_mark_1_io z.2.2 n0 n1
  | .inr z => m_store_Store_flush_io n0 n1
/-- store_all -/
def m_store_all_store_Store_mark_io (a0 : (List Clo_store_Store_mark)) (a1_0 : Int) (a1_1 : ((List Blk) × (List (Int × Blk)) × Int)) : Option ((Option Int) × Int × ((List Blk) × (List (Int × Blk)) × Int)) :=
  lp (β := Int × ((List Blk) × (List (Int × Blk)) × Int)) (fun (s11 : Int × Int × ((List Blk) × (List (Int × Blk)) × Int)) =>
    bif (cm .lss s11.1 (a0.length : Int)) then
      (Sw.idx a0 s11.1).bind fun z19 =>
        (m_clo_store_Store_mark z19 s11.2.1 s11.2.2).bind fun v20 =>
          bif (Option.isSome v20.1) then
            some (.done (.ret (v20.1, v20.2.1, v20.2.2)))
          else
            some (.next ((ar .add .i64 s11.1 (1 : Int)), v20.2.1, v20.2.2))
    else
      some (.done (.brk (s11.2.1, s11.2.2)))
    ) ((0 : Int), a1_0, a1_1) fun (x17 : Int × ((List Blk) × (List (Int × Blk)) × Int)) =>
  some ((none : Option Int), x17.1, x17.2)
/-- store_Store_mark -/
def m_store_Store_mark_io (a0_0 : Int) (a0_1 : ((List Blk) × (List (Int × Blk)) × Int)) (a1 : Int) : Option ((Option Int) × Int × ((List Blk) × (List (Int × Blk)) × Int)) :=
  (m_store_all_store_Store_mark_io ([(.inl ((), ((), a1)) : Clo_store_Store_mark), (.inr ((), ()) : Clo_store_Store_mark)] : (List Clo_store_Store_mark)) a0_0 a0_1).bind fun v2 =>
    some (v2.1, v2.2.1, v2.2.2)
/-- store_Store_replay_1 -/
def m_store_Store_replay_1_io (a1_0 : Int) (a1_1 : ((List Blk) × (List (Int × Blk)) × Int)) : Option ((Option Int) × Int × ((List Blk) × (List (Int × Blk)) × Int)) :=
  (m_store_Store_mark_io a1_0 a1_1 (0 : Int)).bind fun v1 =>
    some (v1.1, v1.2.1, v1.2.2)
/-- closures of store_Store_replay -/
def m_clo_store_Store_replay (q : Clo_store_Store_replay) (n0 : Int) (n1 : ((List Blk) × (List (Int × Blk)) × Int)) : Option ((Option Int) × Int × ((List Blk) × (List (Int × Blk)) × Int)) := match q with
  | .inl z => m_store_Store_apply_io n0 n1
  | .inr (.inl z) => m_store_Store_flush_io n0 n1
  | .inr (.inr z) => m_store_Store_replay_1_io n0 n1
/-- store_all -/
def m_store_all_store_Store_replay_io (a0 : (List Clo_store_Store_replay)) (a1_0 : Int) (a1_1 : ((List Blk) × (List (Int × Blk)) × Int)) : Option ((Option Int) × Int × ((List Blk) × (List (Int × Blk)) × Int)) :=
  lp (β := Int × ((List Blk) × (List (Int × Blk)) × Int)) (fun (s11 : Int × Int × ((List Blk) × (List (Int × Blk)) × Int)) =>
    bif (cm .lss s11.1 (a0.length : Int)) then
      (Sw.idx a0 s11.1).bind fun z19 =>
        (m_clo_store_Store_replay z19 s11.2.1 s11.2.2).bind fun v20 =>
          bif (Option.isSome v20.1) then
            some (.done (.ret (v20.1, v20.2.1, v20.2.2)))
          else
            some (.next ((ar .add .i64 s11.1 (1 : Int)), v20.2.1, v20.2.2))
    else
      some (.done (.brk (s11.2.1, s11.2.2)))
    ) ((0 : Int), a1_0, a1_1) fun (x17 : Int × ((List Blk) × (List (Int × Blk)) × Int)) =>
  some ((none : Option Int), x17.1, x17.2)
/-- store_Store_replay -/
def m_store_Store_replay_io (a0_0 : Int) (a0_1 : ((List Blk) × (List (Int × Blk)) × Int)) : Option ((Option Int) × Int × ((List Blk) × (List (Int × Blk)) × Int)) :=
  (m_disk_Read a0_1 (ar .add .i64 a0_0 (1 : Int))).bind fun v2 =>
    (bif (Option.isSome v2.2) then
      some true
    else
      (Sw.idx v2.1 (0 : Int)).bind fun z7 =>
        some (cm .eql z7 (0 : Int))).bind fun x5 =>
      bif x5 then
        some (v2.2, a0_0, a0_1)
      else
        (m_store_all_store_Store_replay_io ([(.inl ((), ()) : Clo_store_Store_replay), (.inr (.inl ((), ())) : Clo_store_Store_replay), (.inr (.inr ((), ())) : Clo_store_Store_replay)] : (List Clo_store_Store_replay)) a0_0 a0_1).bind fun v9 =>
          some (v9.1, v9.2.1, v9.2.2)
/-- store_Open -/
def m_store_Open (a0 : ((List Blk) × (List (Int × Blk)) × Int)) (a1 : Int) : Option ((Option (Int × ((List Blk) × (List (Int × Blk)) × Int))) × (Option Int)) :=
  (m_store_Need a1).bind fun v1 =>
    bif (Option.isSome v1.2) then
      some ((none : (Option (Int × ((List Blk) × (List (Int × Blk)) × Int)))), v1.2)
    else
      (m_disk_Check a0).bind fun v3 =>
        (bif (Option.isSome v3) then
          some true
        else
          bif (cm .neq (a0.1.length : Int) v1.1) then
            some true
          else
            some (cm .gtr (a0.2.1.length : Int) (0 : Int))).bind fun x6 =>
          bif x6 then
            some ((none : (Option (Int × ((List Blk) × (List (Int × Blk)) × Int)))), (some (5 : Int)))
          else
            (m_slices_Clone_api_Block_api_Block a0.1).bind fun v11 =>
              (m_store_Store_replay_io a1 (v11, ([] : (List (Int × Blk))), a0.2.2)).bind fun v12 =>
                bif (Option.isSome v12.1) then
                  some ((none : (Option (Int × ((List Blk) × (List (Int × Blk)) × Int)))), v12.1)
                else
                  some ((some (v12.2.1, v12.2.2)), (none : Option Int))
/-- ref_SameBlocks -/
def m_ref_SameBlocks (a0 : (List Blk)) (a1 : (List Blk)) : Option (Bool) :=
  bif (cm .neq (a0.length : Int) (a1.length : Int)) then
    some false
  else
    lp (β := Unit) (fun (s12 : Int) =>
      bif (cm .lss s12 (a0.length : Int)) then
        (Sw.idx a0 s12).bind fun z20 =>
          (Sw.idx a1 s12).bind fun z21 =>
            bif (!decide (z20 = z21)) then
              some (.done (.ret false))
            else
              some (.next (ar .add .i64 s12 (1 : Int)))
      else
        some (.done (.brk ()))
      ) (0 : Int) fun (_ : Unit) =>
    some true
/-- ref_SamePuts -/
def m_ref_SamePuts (a0 : (List (Int × Blk))) (a1 : (List (Int × Blk))) : Option (Bool) :=
  bif (cm .neq (a0.length : Int) (a1.length : Int)) then
    some false
  else
    lp (β := Unit) (fun (s12 : Int) =>
      bif (cm .lss s12 (a0.length : Int)) then
        (Sw.idx a0 s12).bind fun z20 =>
          (Sw.idx a1 s12).bind fun z21 =>
            bif (!decide (z20 = z21)) then
              some (.done (.ret false))
            else
              some (.next (ar .add .i64 s12 (1 : Int)))
      else
        some (.done (.brk ()))
      ) (0 : Int) fun (_ : Unit) =>
    some true
/-- ref_SameDisk -/
def m_ref_SameDisk (a0 : ((List Blk) × (List (Int × Blk)) × Int)) (a1 : ((List Blk) × (List (Int × Blk)) × Int)) : Option (Bool) :=
  (bif (cm .eql a0.2.2 a1.2.2) then
    (m_ref_SameBlocks a0.1 a1.1).bind fun v7 =>
      bif v7 then
        (m_ref_SamePuts a0.2.1 a1.2.1).bind fun v9 =>
          some v9
      else
        some false
  else
    some false).bind fun x5 =>
    some x5
/-- store_Store_Get -/
def m_store_Store_Get (a0 : (Int × ((List Blk) × (List (Int × Blk)) × Int))) (a1 : Int) : Option (Blk × (Option Int)) :=
  (bif (cm .lss a1 (0 : Int)) then
    some true
  else
    some (cm .geq a1 a0.1)).bind fun x2 =>
    bif x2 then
      some (zblk, (some (1 : Int)))
    else
      (m_disk_Read a0.2 a1).bind fun v5 =>
        some (v5.1, v5.2)
/-- store_Store_All -/
def m_store_Store_All (a0 : (Int × ((List Blk) × (List (Int × Blk)) × Int))) : Option ((List Blk) × (Option Int)) :=
  lp (β := (List Blk)) (fun (s11 : Int × (List Blk)) =>
    bif (cm .lss s11.1 a0.1) then
      (m_store_Store_Get a0 s11.1).bind fun v19 =>
        bif (Option.isSome v19.2) then
          some (.done (.ret (([] : (List Blk)), v19.2)))
        else
          (Sw.app s11.2 ([v19.1] : (List Blk))).bind fun v21 =>
            some (.next ((ar .add .i64 s11.1 (1 : Int)), v21))
    else
      some (.done (.brk s11.2))
    ) ((0 : Int), ([] : (List Blk))) fun (x17 : (List Blk)) =>
  some (x17, (none : Option Int))
/-- store_Store_Numbers -/
def m_store_Store_Numbers (a0 : (Int × ((List Blk) × (List (Int × Blk)) × Int))) : Option (Int × Int × (Option Int)) :=
  (m_disk_Read a0.2 a0.1).bind fun v1 =>
    bif (Option.isSome v1.2) then
      some ((0 : Int), (0 : Int), v1.2)
    else
      (m_store_value v1.1).bind fun v4 =>
        (Sw.subN v1.1 (4 : Int) (8 : Int) (8 : Int)).bind fun v5 =>
          (Sw.sub v1.1 (0 : Int) (4 : Int)).bind fun v6 =>
            (Sw.app v5 v6).bind fun v7 =>
              (Sw.arrOf 8 v7).bind fun z8 =>
                (m_store_value z8).bind fun v9 =>
                  some (v4, v9, (none : Option Int))
/-- law_sees -/
def m_law_sees (a0 : (Int × ((List Blk) × (List (Int × Blk)) × Int))) (a1 : (List Blk)) (a2 : Int) (a3 : Int) : Option (Bool) :=
  (m_store_Store_All a0).bind fun v1 =>
    (m_store_Store_Numbers a0).bind fun v2 =>
      (bif (Option.isSome v1.2) then
        some true
      else
        bif (Option.isSome v2.2.2) then
          some true
        else
          (m_ref_SameBlocks v1.1 a1).bind fun v11 =>
            bif (!v11) then
              some true
            else
              bif (cm .neq v2.1 a2) then
                some true
              else
                some (cm .neq v2.2.1 a3)).bind fun x8 =>
        bif x8 then
          some false
        else
          lp (β := Unit) (fun (s49 : Int) =>
            bif (cm .leq s49 (a1.length : Int)) then
              (m_store_Store_Get a0 s49).bind fun v69 =>
                (bif (cm .lss s49 (0 : Int)) then
                  some true
                else
                  some (cm .geq s49 (a1.length : Int))).bind fun x71 =>
                  bif x71 then
                    (bif (!(v69.2 == (some (1 : Int)))) then
                      some true
                    else
                      some (!decide (v69.1 = zblk))).bind fun x75 =>
                      bif x75 then
                        some (.done (.ret false))
                      else
                        some (.next (ar .add .i64 s49 (1 : Int)))
                  else
                    (bif (Option.isSome v69.2) then
                      some true
                    else
                      (Sw.idx a1 s49).bind fun z82 =>
                        some (!decide (v69.1 = z82))).bind fun x80 =>
                      bif x80 then
                        some (.done (.ret false))
                      else
                        some (.next (ar .add .i64 s49 (1 : Int)))
            else
              some (.done (.brk ()))
            ) (-1 : Int) fun (_ : Unit) =>
          some true
/-- store_Store_Commit_1 -/
def m_store_Store_Commit_1 (a0 : (Int × Blk)) (a1 : (Option (Int × ((List Blk) × (List (Int × Blk)) × Int)))) : Option (Bool) :=
  (bif (cm .lss a0.1 (0 : Int)) then
    some true
  else
    (a1).bind fun z5 =>
      some (cm .geq a0.1 z5.1)).bind fun x3 =>
    some x3
/-- slices_IndexFunc_api_Put_api_Put -/
def m_slices_IndexFunc_api_Put_api_Put__store_Store_Commit_1 (a0 : (List (Int × Blk))) (a1_0 : (Option (Int × ((List Blk) × (List (Int × Blk)) × Int)))) : Option (Int) :=
  lp (β := Unit) (fun (s11 : Int) =>
    bif (cm .lss s11 (a0.length : Int)) then
      (Sw.idx a0 s11).bind fun z19 =>
        (m_store_Store_Commit_1 z19 a1_0).bind fun v20 =>
          bif v20 then
            some (.done (.ret s11))
          else
            some (.next (ar .add .i64 s11 (1 : Int)))
    else
      some (.done (.brk ()))
    ) (0 : Int) fun (_ : Unit) =>
  some (-1 : Int)
/-- slices_ContainsFunc_api_Put_api_Put -/
def m_slices_ContainsFunc_api_Put_api_Put__store_Store_Commit_1 (a0 : (List (Int × Blk))) (a1_0 : (Option (Int × ((List Blk) × (List (Int × Blk)) × Int)))) : Option (Bool) :=
  (m_slices_IndexFunc_api_Put_api_Put__store_Store_Commit_1 a0 a1_0).bind fun v1 =>
    some (cm .geq v1 (0 : Int))
/-- store_number -/
def m_store_number (a0 : Int) : Option (Blk) :=
  some ([(IntKind.wrap .u8 (sh .shr .i64 a0 (24 : Int))), (IntKind.wrap .u8 (sh .shr .i64 a0 (16 : Int))), (IntKind.wrap .u8 (sh .shr .i64 a0 (8 : Int))), (IntKind.wrap .u8 a0)] ++ List.replicate 4 (0 : Int) : Blk)
/-- store_Store_Commit_2 -/
def m_store_Store_Commit_2_io (a1 : (List (Int × Blk))) (a2_0 : Int) (a2_1 : ((List Blk) × (List (Int × Blk)) × Int)) : Option ((Option Int) × Int × ((List Blk) × (List (Int × Blk)) × Int)) :=
  (m_store_number (a1.length : Int)).bind fun v1 =>
    (m_store_Store_write_io a2_0 a2_1 (ar .add .i64 a2_0 (2 : Int)) v1).bind fun v2 =>
      some (v2.1, v2.2.1, v2.2.2)
/-- store_Store_Commit_3 -/
def m_store_Store_Commit_3_io (a1 : Int) (a2 : (Int × Blk)) (a3_0 : Int) (a3_1 : ((List Blk) × (List (Int × Blk)) × Int)) : Option ((Option Int) × Int × ((List Blk) × (List (Int × Blk)) × Int)) :=
  (m_store_number a2.1).bind fun v1 =>
    (m_store_Store_write_io a3_0 a3_1 (ar .add .i64 (ar .add .i64 a3_0 (3 : Int)) (ar .mul .i64 (2 : Int) a1)) v1).bind fun v2 =>
      some (v2.1, v2.2.1, v2.2.2)
/-- store_Store_Commit_4 -/
def m_store_Store_Commit_4_io (a1 : Int) (a2 : (Int × Blk)) (a3_0 : Int) (a3_1 : ((List Blk) × (List (Int × Blk)) × Int)) : Option ((Option Int) × Int × ((List Blk) × (List (Int × Blk)) × Int)) :=
  (m_store_Store_write_io a3_0 a3_1 (ar .add .i64 (ar .add .i64 a3_0 (4 : Int)) (ar .mul .i64 (2 : Int) a1)) a2.2).bind fun v1 =>
    some (v1.1, v1.2.1, v1.2.2)
/-- store_Store_Commit_5 -/
def m_store_Store_Commit_5_io (a1_0 : Int) (a1_1 : ((List Blk) × (List (Int × Blk)) × Int)) : Option ((Option Int) × Int × ((List Blk) × (List (Int × Blk)) × Int)) :=
  (m_store_Store_mark_io a1_0 a1_1 (1 : Int)).bind fun v1 =>
    some (v1.1, v1.2.1, v1.2.2)
/-- store_Store_Commit_6 -/
def m_store_Store_Commit_6_io (a1_0 : Int) (a1_1 : ((List Blk) × (List (Int × Blk)) × Int)) : Option ((Option Int) × Int × ((List Blk) × (List (Int × Blk)) × Int)) :=
  (m_store_Store_mark_io a1_0 a1_1 (0 : Int)).bind fun v1 =>
    some (v1.1, v1.2.1, v1.2.2)
/-- closures of store_Store_Commit -/
def m_clo_store_Store_Commit (q : Clo_store_Store_Commit) (n0 : Int) (n1 : ((List Blk) × (List (Int × Blk)) × Int)) : Option ((Option Int) × Int × ((List Blk) × (List (Int × Blk)) × Int)) := match q with
  | .inl z => m_store_Store_Commit_2_io z.2.2 n0 n1
  | .inr (.inl z) => m_store_Store_Commit_3_io z.2.2.1 z.2.2.2 n0 n1
  | .inr (.inr (.inl z)) => m_store_Store_Commit_4_io z.2.2.1 z.2.2.2 n0 n1
  | .inr (.inr (.inr (.inl z))) => m_store_Store_flush_io n0 n1
  | .inr (.inr (.inr (.inr (.inl z)))) => m_store_Store_Commit_5_io n0 n1
  | .inr (.inr (.inr (.inr (.inr (.inl z))))) => m_store_Store_apply_io n0 n1
  | .inr (.inr (.inr (.inr (.inr (.inr (.inl z)))))) => m_store_Store_flush_io n0 n1
  | .inr (.inr (.inr (.inr (.inr (.inr (.inr z)))))) => m_store_Store_Commit_6_io n0 n1
/-- store_all -/
def m_store_all_store_Store_Commit_io (a0 : (List Clo_store_Store_Commit)) (a1_0 : Int) (a1_1 : ((List Blk) × (List (Int × Blk)) × Int)) : Option ((Option Int) × Int × ((List Blk) × (List (Int × Blk)) × Int)) :=
  lp (β := Int × ((List Blk) × (List (Int × Blk)) × Int)) (fun (s11 : Int × Int × ((List Blk) × (List (Int × Blk)) × Int)) =>
    bif (cm .lss s11.1 (a0.length : Int)) then
      (Sw.idx a0 s11.1).bind fun z19 =>
        (m_clo_store_Store_Commit z19 s11.2.1 s11.2.2).bind fun v20 =>
          bif (Option.isSome v20.1) then
            some (.done (.ret (v20.1, v20.2.1, v20.2.2)))
          else
            some (.next ((ar .add .i64 s11.1 (1 : Int)), v20.2.1, v20.2.2))
    else
      some (.done (.brk (s11.2.1, s11.2.2)))
    ) ((0 : Int), a1_0, a1_1) fun (x17 : Int × ((List Blk) × (List (Int × Blk)) × Int)) =>
  some ((none : Option Int), x17.1, x17.2)
/-- store_Store_Commit -/
def m_store_Store_Commit_io (a0_0 : Int) (a0_1 : ((List Blk) × (List (Int × Blk)) × Int)) (a1 : (List (Int × Blk))) (a2 : Int) (a3 : Int) : Option ((Option Int) × Int × ((List Blk) × (List (Int × Blk)) × Int)) :=
  bif (cm .gtr (a1.length : Int) a0_0) then
    some ((some (2 : Int)), a0_0, a0_1)
  else
    (bif (cm .lss (min a2 a3) (0 : Int)) then
      some true
    else
      bif (cm .gtr (max a2 a3) (2147483647 : Int)) then
        some true
      else
        (m_slices_ContainsFunc_api_Put_api_Put__store_Store_Commit_1 a1 (some (a0_0, a0_1))).bind fun v9 =>
          some v9).bind fun x6 =>
      bif x6 then
        some ((some (1 : Int)), a0_0, a0_1)
      else
        (m_store_number a2).bind fun v11 =>
          (m_store_number a3).bind fun v12 =>
            (m_slices_Clone_api_Put_api_Put a1).bind fun v22 =>
              (Sw.subN v11 (0 : Int) (4 : Int) (4 : Int)).bind fun v23 =>
                (Sw.sub v12 (0 : Int) (4 : Int)).bind fun v24 =>
                  (Sw.app v23 v24).bind fun v25 =>
                    (Sw.arrOf 8 v25).bind fun z26 =>
                      (Sw.app v22 ([(a0_0, z26)] : (List (Int × Blk)))).bind fun v27 =>
                        lp (β := (List Clo_store_Store_Commit)) (fun (s36 : Int × (List Clo_store_Store_Commit)) =>
                          bif (cm .lss s36.1 (v27.length : Int)) then
                            (Sw.idx v27 s36.1).bind fun z43 =>
                              (Sw.app s36.2 ([(.inr (.inl ((), ((), (s36.1, z43)))) : Clo_store_Store_Commit), (.inr (.inr (.inl ((), ((), (s36.1, z43))))) : Clo_store_Store_Commit)] : (List Clo_store_Store_Commit))).bind fun v44 =>
                                some (.next ((ar .add .i64 s36.1 (1 : Int)), v44))
                          else
                            some (.done (.brk s36.2))
                          ) ((0 : Int), ([(.inl ((), ((), v27)) : Clo_store_Store_Commit)] : (List Clo_store_Store_Commit))) fun (x41 : (List Clo_store_Store_Commit)) =>
                        (Sw.app x41 ([(.inr (.inr (.inr (.inl ((), ())))) : Clo_store_Store_Commit), (.inr (.inr (.inr (.inr (.inl ((), ()))))) : Clo_store_Store_Commit), (.inr (.inr (.inr (.inr (.inr (.inl ((), ())))))) : Clo_store_Store_Commit), (.inr (.inr (.inr (.inr (.inr (.inr (.inl ((), ()))))))) : Clo_store_Store_Commit), (.inr (.inr (.inr (.inr (.inr (.inr (.inr ((), ()))))))) : Clo_store_Store_Commit)] : (List Clo_store_Store_Commit))).bind fun v45 =>
                          (m_store_all_store_Store_Commit_io v45 a0_0 a0_1).bind fun v46 =>
                            some (v46.1, v46.2.1, v46.2.2)
/-- ref_Is -/
def m_ref_Is (a0 : (Option Int)) (a1 : Int) : Option (Bool) :=
  bif (Option.isNone a0) then
    some (cm .eql a1 (0 : Int))
  else
    (bif (cm .neq a1 (0 : Int)) then
      some (a0 == (some a1))
    else
      some false).bind fun x3 =>
      some x3
/-- store_Store_Disk -/
def m_store_Store_Disk (a0 : (Int × ((List Blk) × (List (Int × Blk)) × Int))) : Option (((List Blk) × (List (Int × Blk)) × Int)) :=
  (m_slices_Clone_api_Block_api_Block a0.2.1).bind fun v1 =>
    (m_slices_Clone_api_Put_api_Put a0.2.2.1).bind fun v2 =>
      some (v1, v2, a0.2.2.2)
/-- law_StoreSays -/
def m_law_StoreSays (a0 : Int) (a1 : (List (Int × Blk))) (a2 : (List (Int × Blk))) (a3 : Int) (a4 : Int) : Option (Bool) :=
  (bif (cm .gtr (a1.length : Int) (40 : Int)) then
    some true
  else
    some (cm .gtr (a2.length : Int) (40 : Int))).bind fun x2 =>
    bif x2 then
      some true
    else
      (m_store_Need a0).bind fun v5 =>
        (m_store_Format a0).bind fun v6 =>
          (bif (cm .lss a0 (1 : Int)) then
            some true
          else
            some (cm .gtr a0 (32 : Int))).bind fun x8 =>
            bif x8 then
              (Sw.mk (1 : Int) zblk).bind fun v11 =>
                (m_store_Open (v11, ([] : (List (Int × Blk))), (-1 : Int)) a0).bind fun v12 =>
                  ocase v12.1 (
                    (bif (v5.2 == (some (1 : Int))) then
                      bif (v6.2 == (some (1 : Int))) then
                        bif (v12.2 == (some (1 : Int))) then
                          bif (cm .eql v5.1 (0 : Int)) then
                            (m_ref_SameDisk v6.1 (([] : (List Blk)), ([] : (List (Int × Blk))), (0 : Int))).bind fun v24 =>
                              some v24
                          else
                            some false
                        else
                          some false
                      else
                        some false
                    else
                      some false).bind fun x19 =>
                      some x19
                    ) fun _ =>
                    (bif (v5.2 == (some (1 : Int))) then
                      bif (v6.2 == (some (1 : Int))) then
                        bif (v12.2 == (some (1 : Int))) then
                          bif (cm .eql v5.1 (0 : Int)) then
                            (m_ref_SameDisk v6.1 (([] : (List Blk)), ([] : (List (Int × Blk))), (0 : Int))).bind fun v35 =>
                              some v35
                          else
                            some false
                        else
                          some false
                      else
                        some false
                    else
                      some false).bind fun x30 =>
                      some x30
            else
              (bif (Option.isSome v5.2) then
                some true
              else
                bif (Option.isSome v6.2) then
                  some true
                else
                  bif (cm .lss v5.1 (1 : Int)) then
                    some true
                  else
                    bif (cm .gtr v5.1 (200 : Int)) then
                      some true
                    else
                      bif (cm .neq (v6.1.1.length : Int) v5.1) then
                        some true
                      else
                        bif (cm .gtr (v6.1.2.1.length : Int) (0 : Int)) then
                          some true
                        else
                          some (cm .neq v6.1.2.2 (-1 : Int))).bind fun x42 =>
                bif x42 then
                  some false
                else
                  (Sw.mk (ar .add .i64 v5.1 (1 : Int)) zblk).bind fun v50 =>
                    (m_store_Open (v50, ([] : (List (Int × Blk))), (-1 : Int)) a0).bind fun v51 =>
                      ocase v51.1 (
                        (m_store_Open (v6.1.1, ([((0 : Int), zblk)] : (List (Int × Blk))), (-1 : Int)) a0).bind fun v53 =>
                          ocase v53.1 (
                            (m_store_Open v6.1 a0).bind fun v55 =>
                              ocase v55.1 (
                                (bif (!(v51.2 == (some (5 : Int)))) then
                                  some ()
                                else
                                  bif (!(v53.2 == (some (5 : Int)))) then
                                    some ()
                                  else
                                    bif (Option.isSome v55.2) then
                                      some ()
                                    else
                                      some ()).bind fun _ =>
                                  some false
                                ) fun z56 =>
                                (bif (!(v51.2 == (some (5 : Int)))) then
                                  some true
                                else
                                  bif (!(v53.2 == (some (5 : Int)))) then
                                    some true
                                  else
                                    bif (Option.isSome v55.2) then
                                      some true
                                    else
                                      some false).bind fun x68 =>
                                  bif x68 then
                                    some false
                                  else
                                    (Sw.mk a0 zblk).bind fun v73 =>
                                      (m_law_sees z56 v73 (0 : Int) (0 : Int)).bind fun v74 =>
                                        bif (!v74) then
                                          some false
                                        else
                                          lp (β := Int × Int × Int × ((List Blk) × (List (Int × Blk)) × Int) × (List Blk)) (fun (s322 : Int × Int × Int × Int × Int × Int × ((List Blk) × (List (Int × Blk)) × Int) × (List Blk)) =>
                                            bif (cm .lss s322.2.2.2.2.1 (2 : Int)) then
                                              jp (fun (x450 : (List (Int × Blk))) =>
                                                jp (fun (x453 : Int) =>
                                                  (bif (cm .eql x453 (0 : Int)) then
                                                    bif (cm .lss s322.1 (0 : Int)) then
                                                      some true
                                                    else
                                                      bif (cm .gtr s322.1 (2147483647 : Int)) then
                                                        some true
                                                      else
                                                        bif (cm .lss s322.2.1 (0 : Int)) then
                                                          some true
                                                        else
                                                          some (cm .gtr s322.2.1 (2147483647 : Int))
                                                  else
                                                    some false).bind fun x458 =>
                                                    jp (fun (x465 : Int) =>
                                                      lp (β := Int) (fun (s492 : Int × Int) =>
                                                        (bif (cm .lss s492.2 (x450.length : Int)) then
                                                          some (cm .eql s492.1 (0 : Int))
                                                        else
                                                          some false).bind fun x508 =>
                                                          bif x508 then
                                                            ((Sw.idx x450 s492.2).bind fun z515 =>
                                                              bif (cm .lss z515.1 (0 : Int)) then
                                                                some true
                                                              else
                                                                (Sw.idx x450 s492.2).bind fun z517 =>
                                                                  some (cm .geq z517.1 a0)).bind fun x514 =>
                                                              bif x514 then
                                                                some (.next ((1 : Int), (ar .add .i64 s492.2 (1 : Int))))
                                                              else
                                                                some (.next (s492.1, (ar .add .i64 s492.2 (1 : Int))))
                                                          else
                                                            some (.done (.brk s492.1))
                                                        ) (x465, (0 : Int)) fun (x506 : Int) =>
                                                      (m_store_Store_Commit_io s322.2.2.2.2.2.1 s322.2.2.2.2.2.2.1 x450 s322.1 s322.2.1).bind fun v519 =>
                                                        (m_ref_Is v519.1 x506).bind fun v520 =>
                                                          bif (!v520) then
                                                            some (.done (.ret false))
                                                          else
                                                            jp (fun (x545 : Int × Int × (List Blk)) =>
                                                              (m_law_sees v519.2 x545.2.2 x545.1 x545.2.1).bind fun v567 =>
                                                                bif (!v567) then
                                                                  some (.done (.ret false))
                                                                else
                                                                  some (.next (s322.2.1, s322.1, x545.1, x545.2.1, (ar .add .i64 s322.2.2.2.2.1 (1 : Int)), v519.2.1, v519.2.2, x545.2.2))
                                                              ) fun k544 =>
                                                            bif (cm .eql x506 (0 : Int)) then
                                                              lp (β := (List Blk)) (fun (s556 : Int × (List Blk)) =>
                                                                bif (cm .lss s556.1 (x450.length : Int)) then
                                                                  (Sw.idx x450 s556.1).bind fun z564 =>
                                                                    (Sw.idx x450 s556.1).bind fun z565 =>
                                                                      (Sw.idx s556.2 z564.1).bind fun _ =>
                                                                        some (.next ((ar .add .i64 s556.1 (1 : Int)), (List.set s556.2 (Int.toNat z564.1) z565.2)))
                                                                else
                                                                  some (.done (.brk s556.2))
                                                                ) ((0 : Int), s322.2.2.2.2.2.2.2) fun (x562 : (List Blk)) =>
                                                              k544 (s322.1, s322.2.1, x562)
                                                            else
                                                              k544 (s322.2.2.1, s322.2.2.2.1, s322.2.2.2.2.2.2.2)
                                                      ) fun k464 =>
                                                    bif x458 then
                                                      k464 (1 : Int)
                                                    else
                                                      k464 x453
                                                  ) fun k452 =>
                                                bif (cm .gtr (x450.length : Int) a0) then
                                                  k452 (2 : Int)
                                                else
                                                  k452 (0 : Int)
                                                ) fun k449 =>
                                              bif (cm .eql s322.2.2.2.2.1 (1 : Int)) then
                                                k449 a2
                                              else
                                                k449 a1
                                            else
                                              some (.done (.brk (s322.2.2.1, s322.2.2.2.1, s322.2.2.2.2.2.1, s322.2.2.2.2.2.2.1, s322.2.2.2.2.2.2.2)))
                                            ) (a3, a4, (0 : Int), (0 : Int), (0 : Int), z56.1, z56.2, v73) fun (x446 : Int × Int × Int × ((List Blk) × (List (Int × Blk)) × Int) × (List Blk)) =>
                                          (m_store_Store_Disk (x446.2.2.1, x446.2.2.2.1)).bind fun v569 =>
                                            (m_store_Open v569 a0).bind fun v570 =>
                                              ocase v570.1 (
                                                (bif (Option.isNone v570.2) then
                                                  some ()
                                                else
                                                  some ()).bind fun _ =>
                                                  some false
                                                ) fun z571 =>
                                                (bif (Option.isNone v570.2) then
                                                  (m_law_sees z571 x446.2.2.2.2 x446.1 x446.2.1).bind fun v579 =>
                                                    some v579
                                                else
                                                  some false).bind fun x577 =>
                                                  some x577
                            ) fun _ =>
                            (m_store_Open v6.1 a0).bind fun v580 =>
                              ocase v580.1 (
                                (bif (!(v51.2 == (some (5 : Int)))) then
                                  some ()
                                else
                                  bif (!(v53.2 == (some (5 : Int)))) then
                                    some ()
                                  else
                                    bif (Option.isSome v580.2) then
                                      some ()
                                    else
                                      some ()).bind fun _ =>
                                  some false
                                ) fun z581 =>
                                (bif (!(v51.2 == (some (5 : Int)))) then
                                  some true
                                else
                                  bif (!(v53.2 == (some (5 : Int)))) then
                                    some true
                                  else
                                    bif (Option.isSome v580.2) then
                                      some true
                                    else
                                      some false).bind fun x593 =>
                                  bif x593 then
                                    some false
                                  else
                                    (Sw.mk a0 zblk).bind fun v598 =>
                                      (m_law_sees z581 v598 (0 : Int) (0 : Int)).bind fun v599 =>
                                        bif (!v599) then
                                          some false
                                        else
                                          lp (β := Int × Int × Int × ((List Blk) × (List (Int × Blk)) × Int) × (List Blk)) (fun (s847 : Int × Int × Int × Int × Int × Int × ((List Blk) × (List (Int × Blk)) × Int) × (List Blk)) =>
                                            bif (cm .lss s847.2.2.2.2.1 (2 : Int)) then
                                              jp (fun (x975 : (List (Int × Blk))) =>
                                                jp (fun (x978 : Int) =>
                                                  (bif (cm .eql x978 (0 : Int)) then
                                                    bif (cm .lss s847.1 (0 : Int)) then
                                                      some true
                                                    else
                                                      bif (cm .gtr s847.1 (2147483647 : Int)) then
                                                        some true
                                                      else
                                                        bif (cm .lss s847.2.1 (0 : Int)) then
                                                          some true
                                                        else
                                                          some (cm .gtr s847.2.1 (2147483647 : Int))
                                                  else
                                                    some false).bind fun x983 =>
                                                    jp (fun (x990 : Int) =>
                                                      lp (β := Int) (fun (s1017 : Int × Int) =>
                                                        (bif (cm .lss s1017.2 (x975.length : Int)) then
                                                          some (cm .eql s1017.1 (0 : Int))
                                                        else
                                                          some false).bind fun x1033 =>
                                                          bif x1033 then
                                                            ((Sw.idx x975 s1017.2).bind fun z1040 =>
                                                              bif (cm .lss z1040.1 (0 : Int)) then
                                                                some true
                                                              else
                                                                (Sw.idx x975 s1017.2).bind fun z1042 =>
                                                                  some (cm .geq z1042.1 a0)).bind fun x1039 =>
                                                              bif x1039 then
                                                                some (.next ((1 : Int), (ar .add .i64 s1017.2 (1 : Int))))
                                                              else
                                                                some (.next (s1017.1, (ar .add .i64 s1017.2 (1 : Int))))
                                                          else
                                                            some (.done (.brk s1017.1))
                                                        ) (x990, (0 : Int)) fun (x1031 : Int) =>
                                                      (m_store_Store_Commit_io s847.2.2.2.2.2.1 s847.2.2.2.2.2.2.1 x975 s847.1 s847.2.1).bind fun v1044 =>
                                                        (m_ref_Is v1044.1 x1031).bind fun v1045 =>
                                                          bif (!v1045) then
                                                            some (.done (.ret false))
                                                          else
                                                            jp (fun (x1070 : Int × Int × (List Blk)) =>
                                                              (m_law_sees v1044.2 x1070.2.2 x1070.1 x1070.2.1).bind fun v1092 =>
                                                                bif (!v1092) then
                                                                  some (.done (.ret false))
                                                                else
                                                                  some (.next (s847.2.1, s847.1, x1070.1, x1070.2.1, (ar .add .i64 s847.2.2.2.2.1 (1 : Int)), v1044.2.1, v1044.2.2, x1070.2.2))
                                                              ) fun k1069 =>
                                                            bif (cm .eql x1031 (0 : Int)) then
                                                              lp (β := (List Blk)) (fun (s1081 : Int × (List Blk)) =>
                                                                bif (cm .lss s1081.1 (x975.length : Int)) then
                                                                  (Sw.idx x975 s1081.1).bind fun z1089 =>
                                                                    (Sw.idx x975 s1081.1).bind fun z1090 =>
                                                                      (Sw.idx s1081.2 z1089.1).bind fun _ =>
                                                                        some (.next ((ar .add .i64 s1081.1 (1 : Int)), (List.set s1081.2 (Int.toNat z1089.1) z1090.2)))
                                                                else
                                                                  some (.done (.brk s1081.2))
                                                                ) ((0 : Int), s847.2.2.2.2.2.2.2) fun (x1087 : (List Blk)) =>
                                                              k1069 (s847.1, s847.2.1, x1087)
                                                            else
                                                              k1069 (s847.2.2.1, s847.2.2.2.1, s847.2.2.2.2.2.2.2)
                                                      ) fun k989 =>
                                                    bif x983 then
                                                      k989 (1 : Int)
                                                    else
                                                      k989 x978
                                                  ) fun k977 =>
                                                bif (cm .gtr (x975.length : Int) a0) then
                                                  k977 (2 : Int)
                                                else
                                                  k977 (0 : Int)
                                                ) fun k974 =>
                                              bif (cm .eql s847.2.2.2.2.1 (1 : Int)) then
                                                k974 a2
                                              else
                                                k974 a1
                                            else
                                              some (.done (.brk (s847.2.2.1, s847.2.2.2.1, s847.2.2.2.2.2.1, s847.2.2.2.2.2.2.1, s847.2.2.2.2.2.2.2)))
                                            ) (a3, a4, (0 : Int), (0 : Int), (0 : Int), z581.1, z581.2, v598) fun (x971 : Int × Int × Int × ((List Blk) × (List (Int × Blk)) × Int) × (List Blk)) =>
                                          (m_store_Store_Disk (x971.2.2.1, x971.2.2.2.1)).bind fun v1094 =>
                                            (m_store_Open v1094 a0).bind fun v1095 =>
                                              ocase v1095.1 (
                                                (bif (Option.isNone v1095.2) then
                                                  some ()
                                                else
                                                  some ()).bind fun _ =>
                                                  some false
                                                ) fun z1096 =>
                                                (bif (Option.isNone v1095.2) then
                                                  (m_law_sees z1096 x971.2.2.2.2 x971.1 x971.2.1).bind fun v1104 =>
                                                    some v1104
                                                else
                                                  some false).bind fun x1102 =>
                                                  some x1102
                        ) fun _ =>
                        (m_store_Open (v6.1.1, ([((0 : Int), zblk)] : (List (Int × Blk))), (-1 : Int)) a0).bind fun v1105 =>
                          ocase v1105.1 (
                            (m_store_Open v6.1 a0).bind fun v1107 =>
                              ocase v1107.1 (
                                (bif (!(v51.2 == (some (5 : Int)))) then
                                  some ()
                                else
                                  bif (!(v1105.2 == (some (5 : Int)))) then
                                    some ()
                                  else
                                    bif (Option.isSome v1107.2) then
                                      some ()
                                    else
                                      some ()).bind fun _ =>
                                  some false
                                ) fun z1108 =>
                                (bif (!(v51.2 == (some (5 : Int)))) then
                                  some true
                                else
                                  bif (!(v1105.2 == (some (5 : Int)))) then
                                    some true
                                  else
                                    bif (Option.isSome v1107.2) then
                                      some true
                                    else
                                      some false).bind fun x1120 =>
                                  bif x1120 then
                                    some false
                                  else
                                    (Sw.mk a0 zblk).bind fun v1125 =>
                                      (m_law_sees z1108 v1125 (0 : Int) (0 : Int)).bind fun v1126 =>
                                        bif (!v1126) then
                                          some false
                                        else
                                          lp (β := Int × Int × Int × ((List Blk) × (List (Int × Blk)) × Int) × (List Blk)) (fun (s1374 : Int × Int × Int × Int × Int × Int × ((List Blk) × (List (Int × Blk)) × Int) × (List Blk)) =>
                                            bif (cm .lss s1374.2.2.2.2.1 (2 : Int)) then
                                              jp (fun (x1502 : (List (Int × Blk))) =>
                                                jp (fun (x1505 : Int) =>
                                                  (bif (cm .eql x1505 (0 : Int)) then
                                                    bif (cm .lss s1374.1 (0 : Int)) then
                                                      some true
                                                    else
                                                      bif (cm .gtr s1374.1 (2147483647 : Int)) then
                                                        some true
                                                      else
                                                        bif (cm .lss s1374.2.1 (0 : Int)) then
                                                          some true
                                                        else
                                                          some (cm .gtr s1374.2.1 (2147483647 : Int))
                                                  else
                                                    some false).bind fun x1510 =>
                                                    jp (fun (x1517 : Int) =>
                                                      lp (β := Int) (fun (s1544 : Int × Int) =>
                                                        (bif (cm .lss s1544.2 (x1502.length : Int)) then
                                                          some (cm .eql s1544.1 (0 : Int))
                                                        else
                                                          some false).bind fun x1560 =>
                                                          bif x1560 then
                                                            ((Sw.idx x1502 s1544.2).bind fun z1567 =>
                                                              bif (cm .lss z1567.1 (0 : Int)) then
                                                                some true
                                                              else
                                                                (Sw.idx x1502 s1544.2).bind fun z1569 =>
                                                                  some (cm .geq z1569.1 a0)).bind fun x1566 =>
                                                              bif x1566 then
                                                                some (.next ((1 : Int), (ar .add .i64 s1544.2 (1 : Int))))
                                                              else
                                                                some (.next (s1544.1, (ar .add .i64 s1544.2 (1 : Int))))
                                                          else
                                                            some (.done (.brk s1544.1))
                                                        ) (x1517, (0 : Int)) fun (x1558 : Int) =>
                                                      (m_store_Store_Commit_io s1374.2.2.2.2.2.1 s1374.2.2.2.2.2.2.1 x1502 s1374.1 s1374.2.1).bind fun v1571 =>
                                                        (m_ref_Is v1571.1 x1558).bind fun v1572 =>
                                                          bif (!v1572) then
                                                            some (.done (.ret false))
                                                          else
                                                            jp (fun (x1597 : Int × Int × (List Blk)) =>
                                                              (m_law_sees v1571.2 x1597.2.2 x1597.1 x1597.2.1).bind fun v1619 =>
                                                                bif (!v1619) then
                                                                  some (.done (.ret false))
                                                                else
                                                                  some (.next (s1374.2.1, s1374.1, x1597.1, x1597.2.1, (ar .add .i64 s1374.2.2.2.2.1 (1 : Int)), v1571.2.1, v1571.2.2, x1597.2.2))
                                                              ) fun k1596 =>
                                                            bif (cm .eql x1558 (0 : Int)) then
                                                              lp (β := (List Blk)) (fun (s1608 : Int × (List Blk)) =>
                                                                bif (cm .lss s1608.1 (x1502.length : Int)) then
                                                                  (Sw.idx x1502 s1608.1).bind fun z1616 =>
                                                                    (Sw.idx x1502 s1608.1).bind fun z1617 =>
                                                                      (Sw.idx s1608.2 z1616.1).bind fun _ =>
                                                                        some (.next ((ar .add .i64 s1608.1 (1 : Int)), (List.set s1608.2 (Int.toNat z1616.1) z1617.2)))
                                                                else
                                                                  some (.done (.brk s1608.2))
                                                                ) ((0 : Int), s1374.2.2.2.2.2.2.2) fun (x1614 : (List Blk)) =>
                                                              k1596 (s1374.1, s1374.2.1, x1614)
                                                            else
                                                              k1596 (s1374.2.2.1, s1374.2.2.2.1, s1374.2.2.2.2.2.2.2)
                                                      ) fun k1516 =>
                                                    bif x1510 then
                                                      k1516 (1 : Int)
                                                    else
                                                      k1516 x1505
                                                  ) fun k1504 =>
                                                bif (cm .gtr (x1502.length : Int) a0) then
                                                  k1504 (2 : Int)
                                                else
                                                  k1504 (0 : Int)
                                                ) fun k1501 =>
                                              bif (cm .eql s1374.2.2.2.2.1 (1 : Int)) then
                                                k1501 a2
                                              else
                                                k1501 a1
                                            else
                                              some (.done (.brk (s1374.2.2.1, s1374.2.2.2.1, s1374.2.2.2.2.2.1, s1374.2.2.2.2.2.2.1, s1374.2.2.2.2.2.2.2)))
                                            ) (a3, a4, (0 : Int), (0 : Int), (0 : Int), z1108.1, z1108.2, v1125) fun (x1498 : Int × Int × Int × ((List Blk) × (List (Int × Blk)) × Int) × (List Blk)) =>
                                          (m_store_Store_Disk (x1498.2.2.1, x1498.2.2.2.1)).bind fun v1621 =>
                                            (m_store_Open v1621 a0).bind fun v1622 =>
                                              ocase v1622.1 (
                                                (bif (Option.isNone v1622.2) then
                                                  some ()
                                                else
                                                  some ()).bind fun _ =>
                                                  some false
                                                ) fun z1623 =>
                                                (bif (Option.isNone v1622.2) then
                                                  (m_law_sees z1623 x1498.2.2.2.2 x1498.1 x1498.2.1).bind fun v1631 =>
                                                    some v1631
                                                else
                                                  some false).bind fun x1629 =>
                                                  some x1629
                            ) fun _ =>
                            (m_store_Open v6.1 a0).bind fun v1632 =>
                              ocase v1632.1 (
                                (bif (!(v51.2 == (some (5 : Int)))) then
                                  some ()
                                else
                                  bif (!(v1105.2 == (some (5 : Int)))) then
                                    some ()
                                  else
                                    bif (Option.isSome v1632.2) then
                                      some ()
                                    else
                                      some ()).bind fun _ =>
                                  some false
                                ) fun z1633 =>
                                (bif (!(v51.2 == (some (5 : Int)))) then
                                  some true
                                else
                                  bif (!(v1105.2 == (some (5 : Int)))) then
                                    some true
                                  else
                                    bif (Option.isSome v1632.2) then
                                      some true
                                    else
                                      some false).bind fun x1645 =>
                                  bif x1645 then
                                    some false
                                  else
                                    (Sw.mk a0 zblk).bind fun v1650 =>
                                      (m_law_sees z1633 v1650 (0 : Int) (0 : Int)).bind fun v1651 =>
                                        bif (!v1651) then
                                          some false
                                        else
                                          lp (β := Int × Int × Int × ((List Blk) × (List (Int × Blk)) × Int) × (List Blk)) (fun (s1899 : Int × Int × Int × Int × Int × Int × ((List Blk) × (List (Int × Blk)) × Int) × (List Blk)) =>
                                            bif (cm .lss s1899.2.2.2.2.1 (2 : Int)) then
                                              jp (fun (x2027 : (List (Int × Blk))) =>
                                                jp (fun (x2030 : Int) =>
                                                  (bif (cm .eql x2030 (0 : Int)) then
                                                    bif (cm .lss s1899.1 (0 : Int)) then
                                                      some true
                                                    else
                                                      bif (cm .gtr s1899.1 (2147483647 : Int)) then
                                                        some true
                                                      else
                                                        bif (cm .lss s1899.2.1 (0 : Int)) then
                                                          some true
                                                        else
                                                          some (cm .gtr s1899.2.1 (2147483647 : Int))
                                                  else
                                                    some false).bind fun x2035 =>
                                                    jp (fun (x2042 : Int) =>
                                                      lp (β := Int) (fun (s2069 : Int × Int) =>
                                                        (bif (cm .lss s2069.2 (x2027.length : Int)) then
                                                          some (cm .eql s2069.1 (0 : Int))
                                                        else
                                                          some false).bind fun x2085 =>
                                                          bif x2085 then
                                                            ((Sw.idx x2027 s2069.2).bind fun z2092 =>
                                                              bif (cm .lss z2092.1 (0 : Int)) then
                                                                some true
                                                              else
                                                                (Sw.idx x2027 s2069.2).bind fun z2094 =>
                                                                  some (cm .geq z2094.1 a0)).bind fun x2091 =>
                                                              bif x2091 then
                                                                some (.next ((1 : Int), (ar .add .i64 s2069.2 (1 : Int))))
                                                              else
                                                                some (.next (s2069.1, (ar .add .i64 s2069.2 (1 : Int))))
                                                          else
                                                            some (.done (.brk s2069.1))
                                                        ) (x2042, (0 : Int)) fun (x2083 : Int) =>
                                                      (m_store_Store_Commit_io s1899.2.2.2.2.2.1 s1899.2.2.2.2.2.2.1 x2027 s1899.1 s1899.2.1).bind fun v2096 =>
                                                        (m_ref_Is v2096.1 x2083).bind fun v2097 =>
                                                          bif (!v2097) then
                                                            some (.done (.ret false))
                                                          else
                                                            jp (fun (x2122 : Int × Int × (List Blk)) =>
                                                              (m_law_sees v2096.2 x2122.2.2 x2122.1 x2122.2.1).bind fun v2144 =>
                                                                bif (!v2144) then
                                                                  some (.done (.ret false))
                                                                else
                                                                  some (.next (s1899.2.1, s1899.1, x2122.1, x2122.2.1, (ar .add .i64 s1899.2.2.2.2.1 (1 : Int)), v2096.2.1, v2096.2.2, x2122.2.2))
                                                              ) fun k2121 =>
                                                            bif (cm .eql x2083 (0 : Int)) then
                                                              lp (β := (List Blk)) (fun (s2133 : Int × (List Blk)) =>
                                                                bif (cm .lss s2133.1 (x2027.length : Int)) then
                                                                  (Sw.idx x2027 s2133.1).bind fun z2141 =>
                                                                    (Sw.idx x2027 s2133.1).bind fun z2142 =>
                                                                      (Sw.idx s2133.2 z2141.1).bind fun _ =>
                                                                        some (.next ((ar .add .i64 s2133.1 (1 : Int)), (List.set s2133.2 (Int.toNat z2141.1) z2142.2)))
                                                                else
                                                                  some (.done (.brk s2133.2))
                                                                ) ((0 : Int), s1899.2.2.2.2.2.2.2) fun (x2139 : (List Blk)) =>
                                                              k2121 (s1899.1, s1899.2.1, x2139)
                                                            else
                                                              k2121 (s1899.2.2.1, s1899.2.2.2.1, s1899.2.2.2.2.2.2.2)
                                                      ) fun k2041 =>
                                                    bif x2035 then
                                                      k2041 (1 : Int)
                                                    else
                                                      k2041 x2030
                                                  ) fun k2029 =>
                                                bif (cm .gtr (x2027.length : Int) a0) then
                                                  k2029 (2 : Int)
                                                else
                                                  k2029 (0 : Int)
                                                ) fun k2026 =>
                                              bif (cm .eql s1899.2.2.2.2.1 (1 : Int)) then
                                                k2026 a2
                                              else
                                                k2026 a1
                                            else
                                              some (.done (.brk (s1899.2.2.1, s1899.2.2.2.1, s1899.2.2.2.2.2.1, s1899.2.2.2.2.2.2.1, s1899.2.2.2.2.2.2.2)))
                                            ) (a3, a4, (0 : Int), (0 : Int), (0 : Int), z1633.1, z1633.2, v1650) fun (x2023 : Int × Int × Int × ((List Blk) × (List (Int × Blk)) × Int) × (List Blk)) =>
                                          (m_store_Store_Disk (x2023.2.2.1, x2023.2.2.2.1)).bind fun v2146 =>
                                            (m_store_Open v2146 a0).bind fun v2147 =>
                                              ocase v2147.1 (
                                                (bif (Option.isNone v2147.2) then
                                                  some ()
                                                else
                                                  some ()).bind fun _ =>
                                                  some false
                                                ) fun z2148 =>
                                                (bif (Option.isNone v2147.2) then
                                                  (m_law_sees z2148 x2023.2.2.2.2 x2023.1 x2023.2.1).bind fun v2156 =>
                                                    some v2156
                                                else
                                                  some false).bind fun x2154 =>
                                                  some x2154
end Go.Mo
