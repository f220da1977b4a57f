/- What the functions that this law reaches come to, as plain functions. Conditions: none. -/
import Derived.Test.YteckohdbfkhmdabSwC
set_option linter.unusedVariables false
set_option linter.unusedSimpArgs false
namespace Go.Mo
open Go Go.Sw
abbrev Blk := List Int
abbrev eBlk : Enc Blk := Enc.arr 8 (Enc.int .u8)
def zblk : Blk := List.replicate 8 0
/-- law_hugeBuilder -/
def m_law_hugeBuilder (a0 : (Int × (List (Int × Blk)) × (List (Int × (List (Int × Blk)))) × Bool)) : Option (Bool) :=
  lp (β := Unit) (fun (s9 : Int) =>
    bif (cm .lss s9 (a0.2.2.1.length : Int)) then
      (Sw.idx a0.2.2.1 s9).bind fun z16 =>
        bif (cm .gtr (z16.2.length : Int) (100 : Int)) then
          some (.done (.ret true))
        else
          some (.next (ar .add .i64 s9 (1 : Int)))
    else
      some (.done (.brk ()))
    ) (0 : Int) fun (_ : Unit) =>
  (bif (cm .gtr (a0.2.2.1.length : Int) (20 : Int)) then
    some true
  else
    some (cm .gtr (a0.2.1.length : Int) (100 : Int))).bind fun x19 =>
    some x19
/-- ref_Rising -/
def m_ref_Rising (a0 : (List (Int × Blk))) (a1 : Int) : Option (Bool) :=
  lp (β := Unit) (fun (s37 : Int) =>
    bif (cm .lss s37 (a0.length : Int)) then
      ((Sw.idx a0 s37).bind fun z66 =>
        bif (cm .lss z66.1 (0 : Int)) then
          some true
        else
          (Sw.idx a0 s37).bind fun z68 =>
            bif (cm .geq z68.1 a1) then
              some true
            else
              bif (cm .gtr s37 (0 : Int)) then
                (Sw.idx a0 s37).bind fun z71 =>
                  (Sw.idx a0 (ar .sub .i64 s37 (1 : Int))).bind fun z72 =>
                    some (cm .leq z71.1 z72.1)
              else
                some false).bind fun x65 =>
        bif x65 then
          some (.done (.ret false))
        else
          some (.next (ar .add .i64 s37 (1 : Int)))
    else
      some (.done (.brk ()))
    ) (0 : Int) fun (_ : Unit) =>
  some true
/-- ref_BuilderMay -/
def m_ref_BuilderMay (a0 : (Int × (List (Int × Blk)) × (List (Int × (List (Int × Blk)))) × Bool)) (a1 : Int) : Option (Int) :=
  (bif (cm .lss a1 (1 : Int)) then
    some true
  else
    bif (cm .gtr a1 (32 : Int)) then
      some true
    else
      bif (cm .lss a0.1 (0 : Int)) then
        some true
      else
        some (cm .gtr a0.1 (2147483647 : Int))).bind fun x4 =>
    bif x4 then
      some (1 : Int)
    else
      bif (cm .gtr (a0.2.2.1.length : Int) (4 : Int)) then
        some (2 : Int)
      else
        ((m_ref_Rising a0.2.1 a1).bind fun v15 =>
          bif (!v15) then
            some true
          else
            bif a0.2.2.2 then
              bif (cm .gtr (a0.2.2.1.length : Int) (0 : Int)) then
                some true
              else
                some (cm .gtr (a0.2.2.1.length : Int) a0.1)
            else
              some (cm .gtr (a0.2.2.1.length : Int) a0.1)).bind fun x14 =>
          bif x14 then
            some (3 : Int)
          else
            lp (β := Unit) (fun (s44 : Int) =>
              bif (cm .lss s44 (a0.2.2.1.length : Int)) then
                ((Sw.idx a0.2.2.1 s44).bind fun z64 =>
                  (m_ref_Rising z64.2 a1).bind fun v65 =>
                    bif (!v65) then
                      some true
                    else
                      (Sw.idx a0.2.2.1 s44).bind fun z67 =>
                        some (cm .neq z67.1 (ar .sub .i64 a0.1 (ar .sub .i64 (ar .sub .i64 (a0.2.2.1.length : Int) (1 : Int)) s44)))).bind fun x63 =>
                  bif x63 then
                    some (.done (.ret (3 : Int)))
                  else
                    some (.next (ar .add .i64 s44 (1 : Int)))
              else
                some (.done (.brk ()))
              ) (0 : Int) fun (_ : Unit) =>
            some (0 : Int)
/-- epoch_rising -/
def m_epoch_rising (a0 : (List (Int × Blk))) (a1 : Int) : Option (Bool) :=
  lp (β := Unit) (fun (s15 : Int × Int) =>
    bif (cm .lss s15.2 (a0.length : Int)) then
      (Sw.idx a0 s15.2).bind fun z25 =>
        (bif (cm .leq z25.1 s15.1) then
          some true
        else
          some (cm .geq z25.1 a1)).bind fun x27 =>
          bif x27 then
            some (.done (.ret false))
          else
            some (.next (z25.1, (ar .add .i64 s15.2 (1 : Int))))
    else
      some (.done (.brk ()))
    ) ((-1 : Int), (0 : Int)) fun (_ : Unit) =>
  some true
/-- epoch_Check -/
def m_epoch_Check (a0 : (Int × (List (Int × Blk)) × (List (Int × (List (Int × Blk)))) × Bool)) (a1 : Int) : Option ((Option Int)) :=
  (bif (cm .lss a1 (1 : Int)) then
    some true
  else
    bif (cm .gtr a1 (32 : Int)) then
      some true
    else
      bif (cm .lss a0.1 (0 : Int)) then
        some true
      else
        some (cm .gtr a0.1 (2147483647 : Int))).bind fun x4 =>
    bif x4 then
      some (some (1 : Int))
    else
      bif (cm .gtr (a0.2.2.1.length : Int) (4 : Int)) then
        some (some (2 : Int))
      else
        ((m_epoch_rising a0.2.1 a1).bind fun v14 =>
          bif (!v14) then
            some true
          else
            bif a0.2.2.2 then
              some (cm .gtr (a0.2.2.1.length : Int) (0 : Int))
            else
              some false).bind fun x13 =>
          bif x13 then
            some (some (3 : Int))
          else
            lp (β := Unit) (fun (s40 : Int) =>
              bif (cm .lss s40 (a0.2.2.1.length : Int)) then
                (Sw.idx a0.2.2.1 s40).bind fun z54 =>
                  ((m_epoch_rising z54.2 a1).bind fun v59 =>
                    bif (!v59) then
                      some true
                    else
                      bif (cm .neq z54.1 (ar .add .i64 (ar .add .i64 (ar .sub .i64 a0.1 (a0.2.2.1.length : Int)) (1 : Int)) s40)) then
                        some true
                      else
                        some (cm .lss z54.1 (1 : Int))).bind fun x58 =>
                    bif x58 then
                      some (.done (.ret (some (3 : Int))))
                    else
                      some (.next (ar .add .i64 s40 (1 : Int)))
              else
                some (.done (.brk ()))
              ) (0 : Int) fun (_ : Unit) =>
            some (none : Option Int)
/-- ref_Is -/
def m_ref_Is (a0 : (Option Int)) (a1 : Int) : Option (Bool) :=
  bif (Option.isNone a0) then
    some (cm .eql a1 (0 : Int))
  else
    (bif (cm .neq a1 (0 : Int)) then
      some (a0 == (some a1))
    else
      some false).bind fun x3 =>
      some x3
/-- slices_Clone_api_Put_api_Put -/
def m_slices_Clone_api_Put_api_Put_nil (a0 : (Bool × (List (Int × Blk)))) : Option ((List (Int × Blk))) :=
  bif a0.1 then
    some ([] : (List (Int × Blk)))
  else
    (Sw.app ([] : (List (Int × Blk))) a0.2).bind fun v2 =>
      some v2
/-- slices_Clone_api_Put_api_Put -/
def m_slices_Clone_api_Put_api_Put (a0 : (List (Int × Blk))) : Option (List (Int × Blk)) := Sw.app [] a0
/-- slices_Clone_epoch_Epoch_epoch_Epoch -/
def m_slices_Clone_epoch_Epoch_epoch_Epoch_nil (a0 : (Bool × (List (Int × (List (Int × Blk)))))) : Option ((List (Int × (List (Int × Blk))))) :=
  bif a0.1 then
    some ([] : (List (Int × (List (Int × Blk)))))
  else
    (Sw.app ([] : (List (Int × (List (Int × Blk))))) a0.2).bind fun v2 =>
      some v2
/-- slices_Clone_epoch_Epoch_epoch_Epoch -/
def m_slices_Clone_epoch_Epoch_epoch_Epoch (a0 : (List (Int × (List (Int × Blk))))) : Option (List (Int × (List (Int × Blk)))) := Sw.app [] a0
/-- epoch_clone -/
def m_epoch_clone (a0 : (Int × (List (Int × Blk)) × (List (Int × (List (Int × Blk)))) × Bool)) : Option ((Int × (List (Int × Blk)) × (List (Int × (List (Int × Blk)))) × Bool)) :=
  (m_slices_Clone_api_Put_api_Put a0.2.1).bind fun v1 =>
    (m_slices_Clone_epoch_Epoch_epoch_Epoch a0.2.2.1).bind fun v2 =>
      lp (β := (List (Int × (List (Int × Blk))))) (fun (s17 : Int × (List (Int × (List (Int × Blk))))) =>
        bif (cm .lss s17.1 (v2.length : Int)) then
          (Sw.idx s17.2 s17.1).bind fun z25 =>
            (m_slices_Clone_api_Put_api_Put z25.2).bind fun v26 =>
              (Sw.idx s17.2 s17.1).bind fun z27 =>
                some (.next ((ar .add .i64 s17.1 (1 : Int)), (List.set s17.2 (Int.toNat s17.1) (z27.1, v26))))
        else
          some (.done (.brk s17.2))
        ) ((0 : Int), v2) fun (x23 : (List (Int × (List (Int × Blk))))) =>
      some (a0.1, v1, x23, a0.2.2.2)
/-- epoch_Add_1 -/
def m_epoch_Add_1 (a0 : (Int × Blk)) (a1 : Int) : Option (Int) :=
  some (ar .sub .i64 a0.1 a1)
/-- slices_BinarySearchFunc_api_Put_api_Put_int -/
def m_slices_BinarySearchFunc_api_Put_api_Put_int__epoch_Add_1 (a0 : (List (Int × Blk))) (a1 : Int) : Option (Int × Bool) :=
  lp (β := Int) (fun (s11 : Int × Int) =>
    bif (cm .lss s11.1 s11.2) then
      (Sw.idx a0 (IntKind.wrap .i64 (sh .shr .u64 (IntKind.wrap .u64 (ar .add .i64 s11.1 s11.2)) (1 : Int)))).bind fun z19 =>
        (m_epoch_Add_1 z19 a1).bind fun v20 =>
          bif (cm .lss v20 (0 : Int)) then
            some (.next ((ar .add .i64 (IntKind.wrap .i64 (sh .shr .u64 (IntKind.wrap .u64 (ar .add .i64 s11.1 s11.2)) (1 : Int))) (1 : Int)), s11.2))
          else
            some (.next (s11.1, (IntKind.wrap .i64 (sh .shr .u64 (IntKind.wrap .u64 (ar .add .i64 s11.1 s11.2)) (1 : Int)))))
    else
      some (.done (.brk s11.1))
    ) ((0 : Int), (a0.length : Int)) fun (x17 : Int) =>
  (bif (cm .lss x17 (a0.length : Int)) then
    (Sw.idx a0 x17).bind fun z27 =>
      (m_epoch_Add_1 z27 a1).bind fun v28 =>
        some (cm .eql v28 (0 : Int))
  else
    some false).bind fun x25 =>
    some (x17, x25)
/-- slices_Insert_api_Put_api_Put -/
def m_slices_Insert_api_Put_api_Put (a0 : (List (Int × Blk))) (a1 : Int) (a2 : (List (Int × Blk))) : Option ((List (Int × Blk))) := Sw.ins a0 a1 a2
/-- epoch_Add -/
def m_epoch_Add (a0 : (Int × (List (Int × Blk)) × (List (Int × (List (Int × Blk)))) × Bool)) (a1 : Int) (a2 : (Int × Blk)) : Option ((Int × (List (Int × Blk)) × (List (Int × (List (Int × Blk)))) × Bool) × (Option Int)) :=
  (m_epoch_Check a0 a1).bind fun v1 =>
    bif (Option.isSome v1) then
      some (((0 : Int), ([] : (List (Int × Blk))), ([] : (List (Int × (List (Int × Blk))))), false), v1)
    else
      (bif (cm .lss a2.1 (0 : Int)) then
        some true
      else
        some (cm .geq a2.1 a1)).bind fun x4 =>
        bif x4 then
          some (((0 : Int), ([] : (List (Int × Blk))), ([] : (List (Int × (List (Int × Blk))))), false), (some (1 : Int)))
        else
          (m_epoch_clone a0).bind fun v7 =>
            (m_slices_BinarySearchFunc_api_Put_api_Put_int__epoch_Add_1 v7.2.1 a2.1).bind fun v8 =>
              jp (fun (x13 : (List (Int × Blk))) =>
                some ((v7.1, x13, v7.2.2.1, v7.2.2.2), (none : Option Int))
                ) fun k12 =>
              bif v8.2 then
                (Sw.idx v7.2.1 v8.1).bind fun _ =>
                  k12 (List.set v7.2.1 (Int.toNat v8.1) a2)
              else
                (m_slices_Insert_api_Put_api_Put v7.2.1 v8.1 ([a2] : (List (Int × Blk)))).bind fun v15 =>
                  k12 v15
/-- epoch_Seal -/
def m_epoch_Seal (a0 : (Int × (List (Int × Blk)) × (List (Int × (List (Int × Blk)))) × Bool)) (a1 : Int) : Option ((Int × (List (Int × Blk)) × (List (Int × (List (Int × Blk)))) × Bool) × (Option Int)) :=
  (m_epoch_Check a0 a1).bind fun v1 =>
    bif (Option.isSome v1) then
      some (((0 : Int), ([] : (List (Int × Blk))), ([] : (List (Int × (List (Int × Blk))))), false), v1)
    else
      bif (cm .eql a0.1 (2147483647 : Int)) then
        some (((0 : Int), ([] : (List (Int × Blk))), ([] : (List (Int × (List (Int × Blk))))), false), (some (2 : Int)))
      else
        (m_epoch_clone a0).bind fun v4 =>
          bif v4.2.2.2 then
            some (((ar .add .i64 v4.1 (1 : Int)), ([] : (List (Int × Blk))), v4.2.2.1, v4.2.2.2), (none : Option Int))
          else
            bif (cm .eql (v4.2.2.1.length : Int) (4 : Int)) then
              some (((ar .add .i64 v4.1 (1 : Int)), ([] : (List (Int × Blk))), ([] : (List (Int × (List (Int × Blk))))), true), (none : Option Int))
            else
              (Sw.app v4.2.2.1 ([((ar .add .i64 v4.1 (1 : Int)), v4.2.1)] : (List (Int × (List (Int × Blk)))))).bind fun v7 =>
                some (((ar .add .i64 v4.1 (1 : Int)), ([] : (List (Int × Blk))), v7, v4.2.2.2), (none : Option Int))
/-- epoch_Drop_1 -/
def m_epoch_Drop_1 (a0 : (Int × (List (Int × Blk)))) (a1 : Int) : Option (Bool) :=
  some (cm .leq a0.1 a1)
/-- slices_IndexFunc_epoch_Epoch_epoch_Epoch -/
def m_slices_IndexFunc_epoch_Epoch_epoch_Epoch__epoch_Drop_1 (a0 : (List (Int × (List (Int × Blk))))) (a1_0 : Int) : Option (Int) :=
  lp (β := Unit) (fun (s11 : Int) =>
    bif (cm .lss s11 (a0.length : Int)) then
      (Sw.idx a0 s11).bind fun z19 =>
        (m_epoch_Drop_1 z19 a1_0).bind fun v20 =>
          bif v20 then
            some (.done (.ret s11))
          else
            some (.next (ar .add .i64 s11 (1 : Int)))
    else
      some (.done (.brk ()))
    ) (0 : Int) fun (_ : Unit) =>
  some (-1 : Int)
/-- slices_DeleteFunc_epoch_Epoch_epoch_Epoch -/
def m_slices_DeleteFunc_epoch_Epoch_epoch_Epoch__epoch_Drop_1_io (a0 : (List (Int × (List (Int × Blk))))) (a1_0 : Int) : Option ((List (Int × (List (Int × Blk))))) :=
  (m_slices_IndexFunc_epoch_Epoch_epoch_Epoch__epoch_Drop_1 a0 a1_0).bind fun v1 =>
    bif (cm .eql v1 (-1 : Int)) then
      some a0
    else
      lp (β := Int × (List (Int × (List (Int × Blk))))) (fun (s15 : Int × Int × (List (Int × (List (Int × Blk))))) =>
        bif (cm .lss s15.2.1 (s15.2.2.length : Int)) then
          (Sw.idx s15.2.2 s15.2.1).bind fun z24 =>
            (m_epoch_Drop_1 z24 a1_0).bind fun v25 =>
              bif (!v25) then
                (Sw.idx s15.2.2 s15.1).bind fun _ =>
                  some (.next ((ar .add .i64 s15.1 (1 : Int)), (ar .add .i64 s15.2.1 (1 : Int)), (List.set s15.2.2 (Int.toNat s15.1) z24)))
              else
                some (.next (s15.1, (ar .add .i64 s15.2.1 (1 : Int)), s15.2.2))
        else
          some (.done (.brk (s15.1, s15.2.2)))
        ) (v1, (ar .add .i64 v1 (1 : Int)), a0) fun (x22 : Int × (List (Int × (List (Int × Blk))))) =>
      (Sw.sub x22.2 x22.1 (x22.2.length : Int)).bind fun _ =>
        (Sw.sub (List.take (Int.toNat x22.1) x22.2 ++ List.replicate (x22.2.length - Int.toNat x22.1) ((0 : Int), ([] : (List (Int × Blk))))) (0 : Int) x22.1).bind fun v29 =>
          some v29
/-- epoch_Drop -/
def m_epoch_Drop (a0 : (Int × (List (Int × Blk)) × (List (Int × (List (Int × Blk)))) × Bool)) (a1 : Int) (a2 : Int) : Option ((Int × (List (Int × Blk)) × (List (Int × (List (Int × Blk)))) × Bool) × (Option Int)) :=
  (m_epoch_Check a0 a1).bind fun v1 =>
    bif (Option.isSome v1) then
      some (((0 : Int), ([] : (List (Int × Blk))), ([] : (List (Int × (List (Int × Blk))))), false), v1)
    else
      (bif (cm .lss a2 (0 : Int)) then
        some true
      else
        some (cm .gtr a2 a0.1)).bind fun x4 =>
        bif x4 then
          some (((0 : Int), ([] : (List (Int × Blk))), ([] : (List (Int × (List (Int × Blk))))), false), (some (1 : Int)))
        else
          (m_epoch_clone a0).bind fun v7 =>
            (m_slices_DeleteFunc_epoch_Epoch_epoch_Epoch__epoch_Drop_1_io v7.2.2.1 a2).bind fun v8 =>
              jp (fun (x11 : Bool) =>
                some ((v7.1, v7.2.1, v8, x11), (none : Option Int))
                ) fun k10 =>
              bif (cm .eql a2 v7.1) then
                k10 false
              else
                k10 v7.2.2.2
/-- epoch_Since -/
def m_epoch_Since (a0 : (Int × (List (Int × Blk)) × (List (Int × (List (Int × Blk)))) × Bool)) (a1 : Int) (a2 : Int) : Option ((Int × (List (Int × Blk))) × Bool × (Option Int)) :=
  (m_epoch_Check a0 a1).bind fun v1 =>
    bif (Option.isSome v1) then
      some (((0 : Int), ([] : (List (Int × Blk)))), false, v1)
    else
      (bif (cm .lss a2 (0 : Int)) then
        some true
      else
        some (cm .gtr a2 a0.1)).bind fun x4 =>
        bif x4 then
          some (((0 : Int), ([] : (List (Int × Blk)))), false, (some (1 : Int)))
        else
          bif (cm .gtr (ar .sub .i64 a0.1 a2) (a0.2.2.1.length : Int)) then
            some (((0 : Int), ([] : (List (Int × Blk)))), false, (none : Option Int))
          else
            lp (β := (List (Option (Int × Blk)))) (fun (s67 : Int × (List (Option (Int × Blk)))) =>
              bif (cm .lss s67.1 (a0.2.2.1.length : Int)) then
                (Sw.idx a0.2.2.1 s67.1).bind fun z98 =>
                  lp (β := (List (Option (Int × Blk)))) (fun (s111 : Int × (List (Option (Int × Blk)))) =>
                    bif (cm .lss s111.1 (z98.2.length : Int)) then
                      bif (cm .gtr z98.1 a2) then
                        (Sw.idx z98.2 s111.1).bind fun z121 =>
                          (Sw.idx z98.2 s111.1).bind fun z122 =>
                            (Sw.idx s111.2 z121.1).bind fun _ =>
                              some (.next ((ar .add .i64 s111.1 (1 : Int)), (List.set s111.2 (Int.toNat z121.1) (some z122))))
                      else
                        some (.next ((ar .add .i64 s111.1 (1 : Int)), s111.2))
                    else
                      some (.done (.brk s111.2))
                    ) ((0 : Int), s67.2) fun (x118 : (List (Option (Int × Blk)))) =>
                  some (.next ((ar .add .i64 s67.1 (1 : Int)), x118))
              else
                some (.done (.brk s67.2))
              ) ((0 : Int), (List.replicate 32 (none : (Option (Int × Blk))))) fun (x96 : (List (Option (Int × Blk)))) =>
            lp (β := (List (Int × Blk))) (fun (s136 : Int × (List (Int × Blk))) =>
              bif (cm .lss s136.1 (32 : Int)) then
                (Sw.idx x96 s136.1).bind fun z145 =>
                  bif (Option.isSome z145) then
                    (z145).bind fun z147 =>
                      (Sw.app s136.2 ([z147] : (List (Int × Blk)))).bind fun v148 =>
                        some (.next ((ar .add .i64 s136.1 (1 : Int)), v148))
                  else
                    some (.next ((ar .add .i64 s136.1 (1 : Int)), s136.2))
              else
                some (.done (.brk s136.2))
              ) ((0 : Int), ([] : (List (Int × Blk)))) fun (x143 : (List (Int × Blk))) =>
            some ((a0.1, x143), true, (none : Option Int))
/-- ref_SamePuts -/
def m_ref_SamePuts (a0 : (List (Int × Blk))) (a1 : (List (Int × Blk))) : Option (Bool) :=
  bif (cm .neq (a0.length : Int) (a1.length : Int)) then
    some false
  else
    lp (β := Unit) (fun (s12 : Int) =>
      bif (cm .lss s12 (a0.length : Int)) then
        (Sw.idx a0 s12).bind fun z20 =>
          (Sw.idx a1 s12).bind fun z21 =>
            bif (!decide (z20 = z21)) then
              some (.done (.ret false))
            else
              some (.next (ar .add .i64 s12 (1 : Int)))
      else
        some (.done (.brk ()))
      ) (0 : Int) fun (_ : Unit) =>
    some true
/-- ref_SameEpochs -/
def m_ref_SameEpochs (a0 : (List (Int × (List (Int × Blk))))) (a1 : (List (Int × (List (Int × Blk))))) : Option (Bool) :=
  bif (cm .neq (a0.length : Int) (a1.length : Int)) then
    some false
  else
    lp (β := Unit) (fun (s34 : Int) =>
      bif (cm .lss s34 (a0.length : Int)) then
        ((Sw.idx a0 s34).bind fun z60 =>
          (Sw.idx a1 s34).bind fun z61 =>
            bif (cm .neq z60.1 z61.1) then
              some true
            else
              (Sw.idx a0 s34).bind fun z63 =>
                (Sw.idx a1 s34).bind fun z64 =>
                  (m_ref_SamePuts z63.2 z64.2).bind fun v65 =>
                    some (!v65)).bind fun x59 =>
          bif x59 then
            some (.done (.ret false))
          else
            some (.next (ar .add .i64 s34 (1 : Int)))
      else
        some (.done (.brk ()))
      ) (0 : Int) fun (_ : Unit) =>
    some true
/-- ref_SameBuilder -/
def m_ref_SameBuilder (a0 : (Int × (List (Int × Blk)) × (List (Int × (List (Int × Blk)))) × Bool)) (a1 : (Int × (List (Int × Blk)) × (List (Int × (List (Int × Blk)))) × Bool)) : Option (Bool) :=
  (bif (cm .eql a0.1 a1.1) then
    bif (a0.2.2.2 == a1.2.2.2) then
      (m_ref_SamePuts a0.2.1 a1.2.1).bind fun v9 =>
        bif v9 then
          (m_ref_SameEpochs a0.2.2.1 a1.2.2.1).bind fun v11 =>
            some v11
        else
          some false
    else
      some false
  else
    some false).bind fun x6 =>
    some x6
/-- ref_Put -/
def m_ref_Put (a0 : (List (Int × Blk))) (a1 : (Int × Blk)) : Option ((List (Int × Blk))) :=
  lp (β := Bool × (List (Int × Blk))) (fun (s33 : Bool × Int × (List (Int × Blk))) =>
    bif (cm .lss s33.2.1 (a0.length : Int)) then
      (bif (!s33.1) then
        (Sw.idx a0 s33.2.1).bind fun z56 =>
          some (cm .geq z56.1 a1.1)
      else
        some false).bind fun x54 =>
        jp (fun (x60 : Bool × (List (Int × Blk))) =>
          (Sw.idx a0 s33.2.1).bind fun z62 =>
            bif (cm .neq z62.1 a1.1) then
              (Sw.idx a0 s33.2.1).bind fun z64 =>
                (Sw.app x60.2 ([z64] : (List (Int × Blk)))).bind fun v65 =>
                  some (.next (x60.1, (ar .add .i64 s33.2.1 (1 : Int)), v65))
            else
              some (.next (x60.1, (ar .add .i64 s33.2.1 (1 : Int)), x60.2))
          ) fun k59 =>
        bif x54 then
          (Sw.app s33.2.2 ([a1] : (List (Int × Blk)))).bind fun v61 =>
            k59 (true, v61)
        else
          k59 (s33.1, s33.2.2)
    else
      some (.done (.brk (s33.1, s33.2.2)))
    ) (false, (0 : Int), ([] : (List (Int × Blk)))) fun (x50 : Bool × (List (Int × Blk))) =>
  jp (fun (x69 : (List (Int × Blk))) =>
    some x69
    ) fun k68 =>
  bif (!x50.1) then
    (Sw.app x50.2 ([a1] : (List (Int × Blk)))).bind fun v70 =>
      k68 v70
  else
    k68 x50.2
/-- law_EpochSays -/
def m_law_EpochSays (a0 : (Int × (List (Int × Blk)) × (List (Int × (List (Int × Blk)))) × Bool)) (a1 : Int) (a2 : (Int × Blk)) (a3 : Int) : Option (Bool) :=
  (m_law_hugeBuilder a0).bind fun v1 =>
    bif v1 then
      some true
    else
      (m_ref_BuilderMay a0 a1).bind fun v3 =>
        (m_epoch_Check a0 a1).bind fun v4 =>
          (m_ref_Is v4 v3).bind fun v5 =>
            bif (!v5) then
              some false
            else
              (m_epoch_Add a0 a1 a2).bind fun v7 =>
                (m_epoch_Seal a0 a1).bind fun v8 =>
                  (m_epoch_Drop a0 a1 a3).bind fun v9 =>
                    (m_epoch_Since a0 a1 a3).bind fun v10 =>
                      bif (cm .neq v3 (0 : Int)) then
                        ((m_ref_SameBuilder v7.1 ((0 : Int), ([] : (List (Int × Blk))), ([] : (List (Int × (List (Int × Blk))))), false)).bind fun v18 =>
                          bif v18 then
                            (m_ref_SameBuilder v8.1 ((0 : Int), ([] : (List (Int × Blk))), ([] : (List (Int × (List (Int × Blk))))), false)).bind fun v20 =>
                              bif v20 then
                                (m_ref_SameBuilder v9.1 ((0 : Int), ([] : (List (Int × Blk))), ([] : (List (Int × (List (Int × Blk))))), false)).bind fun v22 =>
                                  some v22
                              else
                                some false
                          else
                            some false).bind fun x17 =>
                          ((m_ref_Is v7.2 v3).bind fun v35 =>
                            bif v35 then
                              (m_ref_Is v8.2 v3).bind fun v37 =>
                                bif v37 then
                                  (m_ref_Is v9.2 v3).bind fun v39 =>
                                    bif v39 then
                                      (m_ref_Is v10.2.2 v3).bind fun v41 =>
                                        bif v41 then
                                          bif x17 then
                                            bif (!v10.2.1) then
                                              bif (cm .eql v10.1.1 (0 : Int)) then
                                                some (cm .eql (v10.1.2.length : Int) (0 : Int))
                                              else
                                                some false
                                            else
                                              some false
                                          else
                                            some false
                                        else
                                          some false
                                    else
                                      some false
                                else
                                  some false
                            else
                              some false).bind fun x34 =>
                            some x34
                      else
                        (m_ref_Put a0.2.1 a2).bind fun v46 =>
                          (bif (cm .lss a2.1 (0 : Int)) then
                            some true
                          else
                            some (cm .geq a2.1 a1)).bind fun x48 =>
                            jp (fun (x52 : Int × Int × (List (Int × Blk)) × (List (Int × (List (Int × Blk)))) × Bool) =>
                              ((m_ref_Is v7.2 x52.1).bind fun v57 =>
                                bif (!v57) then
                                  some true
                                else
                                  (m_ref_SameBuilder v7.1 x52.2).bind fun v59 =>
                                    some (!v59)).bind fun x56 =>
                                bif x56 then
                                  some false
                                else
                                  (bif (!a0.2.2.2) then
                                    some (cm .eql (a0.2.2.1.length : Int) (4 : Int))
                                  else
                                    some false).bind fun x62 =>
                                    jp (fun (x70 : Bool × (List (Int × (List (Int × Blk))))) =>
                                      jp (fun (x77 : Int × Int × Bool × (List (Int × (List (Int × Blk))))) =>
                                        ((m_ref_Is v8.2 x77.1).bind fun v82 =>
                                          bif (!v82) then
                                            some true
                                          else
                                            (m_ref_SameBuilder v8.1 (x77.2.1, ([] : (List (Int × Blk))), x77.2.2.2, x77.2.2.1)).bind fun v84 =>
                                              some (!v84)).bind fun x81 =>
                                          bif x81 then
                                            some false
                                          else
                                            (bif (cm .lss a3 (0 : Int)) then
                                              some true
                                            else
                                              some (cm .gtr a3 a0.1)).bind fun x87 =>
                                              bif x87 then
                                                (bif (v9.2 == (some (1 : Int))) then
                                                  bif (v10.2.2 == (some (1 : Int))) then
                                                    (m_ref_SameBuilder v9.1 ((0 : Int), ([] : (List (Int × Blk))), ([] : (List (Int × (List (Int × Blk))))), false)).bind fun v99 =>
                                                      bif v99 then
                                                        bif (!v10.2.1) then
                                                          bif (cm .eql v10.1.1 (0 : Int)) then
                                                            some (cm .eql (v10.1.2.length : Int) (0 : Int))
                                                          else
                                                            some false
                                                        else
                                                          some false
                                                      else
                                                        some false
                                                  else
                                                    some false
                                                else
                                                  some false).bind fun x96 =>
                                                  some x96
                                              else
                                                (bif a0.2.2.2 then
                                                  some (cm .lss a3 a0.1)
                                                else
                                                  some false).bind fun x104 =>
                                                  lp (β := (List (Int × Blk)) × (List (Int × (List (Int × Blk))))) (fun (s230 : (List (Int × Blk)) × Int × (List (Int × (List (Int × Blk))))) =>
                                                    bif (cm .lss s230.2.1 (a0.2.2.1.length : Int)) then
                                                      jp (fun (x325 : (List (Int × Blk)) × (List (Int × (List (Int × Blk))))) =>
                                                        some (.next (x325.1, (ar .add .i64 s230.2.1 (1 : Int)), x325.2))
                                                        ) fun k324 =>
                                                      (Sw.idx a0.2.2.1 s230.2.1).bind fun z326 =>
                                                        bif (cm .leq z326.1 a3) then
                                                          k324 (s230.1, s230.2.2)
                                                        else
                                                          (Sw.idx a0.2.2.1 s230.2.1).bind fun z328 =>
                                                            (Sw.app s230.2.2 ([z328] : (List (Int × (List (Int × Blk)))))).bind fun v329 =>
                                                              lp (β := (List (Int × Blk))) (fun (s342 : (List (Int × Blk)) × Int) =>
                                                                (Sw.idx a0.2.2.1 s230.2.1).bind fun z350 =>
                                                                  bif (cm .lss s342.2 (z350.2.length : Int)) then
                                                                    (Sw.idx a0.2.2.1 s230.2.1).bind fun z352 =>
                                                                      (Sw.idx z352.2 s342.2).bind fun z353 =>
                                                                        (m_ref_Put s342.1 z353).bind fun v354 =>
                                                                          some (.next (v354, (ar .add .i64 s342.2 (1 : Int))))
                                                                  else
                                                                    some (.done (.brk s342.1))
                                                                ) (s230.1, (0 : Int)) fun (x349 : (List (Int × Blk))) =>
                                                              k324 (x349, v329)
                                                    else
                                                      some (.done (.brk (s230.1, s230.2.2)))
                                                    ) (([] : (List (Int × Blk))), (0 : Int), ([] : (List (Int × (List (Int × Blk)))))) fun (x293 : (List (Int × Blk)) × (List (Int × (List (Int × Blk))))) =>
                                                  (bif (Option.isSome v9.2) then
                                                    some true
                                                  else
                                                    bif (Option.isSome v10.2.2) then
                                                      some true
                                                    else
                                                      (m_ref_SameBuilder v9.1 (a0.1, a0.2.1, x293.2, x104)).bind fun v361 =>
                                                        some (!v361)).bind fun x358 =>
                                                    bif x358 then
                                                      some false
                                                    else
                                                      bif (cm .gtr (ar .sub .i64 a0.1 a3) (a0.2.2.1.length : Int)) then
                                                        (bif (!v10.2.1) then
                                                          bif (cm .eql v10.1.1 (0 : Int)) then
                                                            some (cm .eql (v10.1.2.length : Int) (0 : Int))
                                                          else
                                                            some false
                                                        else
                                                          some false).bind fun x366 =>
                                                          some x366
                                                      else
                                                        (bif v10.2.1 then
                                                          bif (cm .eql v10.1.1 a0.1) then
                                                            (m_ref_SamePuts v10.1.2 x293.1).bind fun v375 =>
                                                              some v375
                                                          else
                                                            some false
                                                        else
                                                          some false).bind fun x372 =>
                                                          some x372
                                        ) fun k76 =>
                                      bif (cm .eql a0.1 (2147483647 : Int)) then
                                        k76 ((2 : Int), (0 : Int), false, ([] : (List (Int × (List (Int × Blk))))))
                                      else
                                        k76 ((0 : Int), (ar .add .i64 a0.1 (1 : Int)), x70.1, x70.2)
                                      ) fun k69 =>
                                    bif x62 then
                                      k69 (true, ([] : (List (Int × (List (Int × Blk))))))
                                    else
                                      bif (!a0.2.2.2) then
                                        (Sw.app ([] : (List (Int × (List (Int × Blk))))) a0.2.2.1).bind fun v73 =>
                                          (Sw.app v73 ([((ar .add .i64 a0.1 (1 : Int)), a0.2.1)] : (List (Int × (List (Int × Blk)))))).bind fun v74 =>
                                            k69 (a0.2.2.2, v74)
                                      else
                                        k69 (a0.2.2.2, ([] : (List (Int × (List (Int × Blk))))))
                              ) fun k51 =>
                            bif x48 then
                              k51 ((1 : Int), (0 : Int), ([] : (List (Int × Blk))), ([] : (List (Int × (List (Int × Blk))))), false)
                            else
                              k51 ((0 : Int), a0.1, v46, a0.2.2.1, a0.2.2.2)
/-- ref_Pick -/
def m_ref_Pick (a0 : Int) (a1 : Int) : Option (Int) :=
  jp (fun (x3 : Int) =>
    (nz a1).bind fun _ =>
      some (ar .rem .i64 x3 a1)
    ) fun k2 =>
  bif (cm .lss a0 (0 : Int)) then
    k2 (IntKind.wrap .i64 (0 - (ar .add .i64 a0 (1 : Int))))
  else
    k2 a0
/-- ref_Raw -/
def m_ref_Raw (a0 : (List Int)) (a1 : Int) : Option (Int) :=
  bif (cm .eql (a0.length : Int) (0 : Int)) then
    some (ar .mul .i64 a1 (31 : Int))
  else
    (nz (a0.length : Int)).bind fun _ =>
      (Sw.idx a0 (ar .rem .i64 a1 (a0.length : Int))).bind fun z3 =>
        (m_ref_Pick z3 (1000003 : Int)).bind fun v4 =>
          (nz (a0.length : Int)).bind fun _ =>
            some (ar .add .i64 v4 (ar .mul .i64 (ar .quo .i64 a1 (a0.length : Int)) (7919 : Int)))
/-- ref_BlockFrom -/
def m_ref_BlockFrom (a0 : (List Int)) (a1 : Int) : Option (Blk) :=
  (m_ref_Raw a0 a1).bind fun v1 =>
    bif (cm .eql (ar .rem .i64 v1 (3 : Int)) (0 : Int)) then
      some zblk
    else
      (Sw.idx zblk (0 : Int)).bind fun _ =>
        jp (fun (x23 : Blk) =>
          some x23
          ) fun k22 =>
        bif (cm .eql (ar .rem .i64 v1 (3 : Int)) (2 : Int)) then
          lp (β := Blk) (fun (s32 : Int × Blk) =>
            bif (cm .lss s32.1 (8 : Int)) then
              (m_ref_Raw a0 (ar .add .i64 a1 s32.1)).bind fun v39 =>
                (Sw.idx s32.2 s32.1).bind fun _ =>
                  some (.next ((ar .add .i64 s32.1 (1 : Int)), (List.set s32.2 (Int.toNat s32.1) (IntKind.wrap .u8 (ar .quo .i64 v39 (7 : Int))))))
            else
              some (.done (.brk s32.2))
            ) ((1 : Int), (List.set zblk (Int.toNat (0 : Int)) (IntKind.wrap .u8 (ar .add .i64 (1 : Int) (ar .rem .i64 (ar .quo .i64 v1 (3 : Int)) (5 : Int)))))) fun (x37 : Blk) =>
          k22 x37
        else
          k22 (List.set zblk (Int.toNat (0 : Int)) (IntKind.wrap .u8 (ar .add .i64 (1 : Int) (ar .rem .i64 (ar .quo .i64 v1 (3 : Int)) (5 : Int)))))
/-- law_EpochMade -/
def m_law_EpochMade (a0 : (List Int)) (a1 : Int) (a2 : Int) (a3 : Int) : Option (Bool) :=
  bif (cm .gtr (a0.length : Int) (256 : Int)) then
    some true
  else
    (m_ref_Pick a1 (32 : Int)).bind fun v2 =>
      (m_ref_Pick a2 (100 : Int)).bind fun v3 =>
        lp (β := Int × (List (Int × Blk)) × (List (Int × (List (Int × Blk)))) × Bool) (fun (s74 : Int × Int × (List (Int × Blk)) × (List (Int × (List (Int × Blk)))) × Bool) =>
          bif (cm .lss s74.1 (12 : Int)) then
            (m_ref_Raw a0 (ar .add .i64 v3 s74.1)).bind fun v112 =>
              jp (fun (x115 : Bool) =>
                bif x115 then
                  (nz (ar .add .i64 (1 : Int) v2)).bind fun _ =>
                    (m_ref_BlockFrom a0 (ar .add .i64 v3 s74.1)).bind fun v118 =>
                      (m_epoch_Add s74.2 (ar .add .i64 (1 : Int) v2) ((ar .rem .i64 (ar .quo .i64 v112 (5 : Int)) (ar .add .i64 (1 : Int) v2)), v118)).bind fun v119 =>
                        (bif (Option.isSome v119.2) then
                          some true
                        else
                          (m_ref_BuilderMay v119.1 (ar .add .i64 (1 : Int) v2)).bind fun v124 =>
                            some (cm .neq v124 (0 : Int))).bind fun x122 =>
                          bif x122 then
                            some (.done (.ret false))
                          else
                            some (.next ((ar .add .i64 s74.1 (1 : Int)), v119.1.1, v119.1.2.1, v119.1.2.2.1, v119.1.2.2.2))
                else
                  jp (fun (x128 : Bool) =>
                    bif x128 then
                      (m_epoch_Seal s74.2 (ar .add .i64 (1 : Int) v2)).bind fun v130 =>
                        (bif (Option.isSome v130.2) then
                          some true
                        else
                          (m_ref_BuilderMay v130.1 (ar .add .i64 (1 : Int) v2)).bind fun v135 =>
                            some (cm .neq v135 (0 : Int))).bind fun x133 =>
                          bif x133 then
                            some (.done (.ret false))
                          else
                            some (.next ((ar .add .i64 s74.1 (1 : Int)), v130.1.1, v130.1.2.1, v130.1.2.2.1, v130.1.2.2.2))
                    else
                      (nz (ar .add .i64 s74.2.1 (1 : Int))).bind fun _ =>
                        (m_epoch_Drop s74.2 (ar .add .i64 (1 : Int) v2) (ar .rem .i64 (ar .quo .i64 v112 (5 : Int)) (ar .add .i64 s74.2.1 (1 : Int)))).bind fun v138 =>
                          (bif (Option.isSome v138.2) then
                            some true
                          else
                            (m_ref_BuilderMay v138.1 (ar .add .i64 (1 : Int) v2)).bind fun v143 =>
                              some (cm .neq v143 (0 : Int))).bind fun x141 =>
                            bif x141 then
                              some (.done (.ret false))
                            else
                              some (.next ((ar .add .i64 s74.1 (1 : Int)), v138.1.1, v138.1.2.1, v138.1.2.2.1, v138.1.2.2.2))
                    ) fun k127 =>
                  bif (cm .eql (ar .rem .i64 v112 (5 : Int)) (2 : Int)) then
                    k127 (cm .eql (ar .rem .i64 v112 (5 : Int)) (2 : Int))
                  else
                    k127 (cm .eql (ar .rem .i64 v112 (5 : Int)) (3 : Int))
                ) fun k114 =>
              bif (cm .eql (ar .rem .i64 v112 (5 : Int)) (0 : Int)) then
                k114 (cm .eql (ar .rem .i64 v112 (5 : Int)) (0 : Int))
              else
                k114 (cm .eql (ar .rem .i64 v112 (5 : Int)) (1 : Int))
          else
            some (.done (.brk (s74.2.1, s74.2.2.1, s74.2.2.2.1, s74.2.2.2.2)))
          ) ((0 : Int), (0 : Int), ([] : (List (Int × Blk))), ([] : (List (Int × (List (Int × Blk))))), false) fun (x110 : Int × (List (Int × Blk)) × (List (Int × (List (Int × Blk)))) × Bool) =>
        (m_ref_Pick a3 (ar .add .i64 (ar .add .i64 (1 : Int) v2) (1 : Int))).bind fun v145 =>
          (m_ref_BlockFrom a0 v3).bind fun v146 =>
            (m_ref_Pick a3 (ar .add .i64 x110.1 (2 : Int))).bind fun v147 =>
              (m_law_EpochSays x110 (ar .add .i64 (1 : Int) v2) (v145, v146) (ar .sub .i64 v147 (1 : Int))).bind fun v148 =>
                some v148
end Go.Mo
