/- What the functions that this law reaches come to, as plain functions. Conditions: none. -/
import Derived.Test.YteckohdbfkhmdacSwC
set_option linter.unusedVariables false
set_option linter.unusedSimpArgs false
namespace Go.Mo
open Go Go.Sw
abbrev Blk := List Int
abbrev eBlk : Enc Blk := Enc.arr 8 (Enc.int .u8)
def zblk : Blk := List.replicate 8 0
/-- ref_Pick -/
def m_ref_Pick (a0 : Int) (a1 : Int) : Option (Int) :=
  jp (fun (x3 : Int) =>
    (nz a1).bind fun _ =>
      some (ar .rem .i64 x3 a1)
    ) fun k2 =>
  bif (cm .lss a0 (0 : Int)) then
    k2 (IntKind.wrap .i64 (0 - (ar .add .i64 a0 (1 : Int))))
  else
    k2 a0
/-- link_number_1 -/
def m_link_number_1 (a0 : Int) : Option (Bool) :=
  (bif (cm .lss a0 (0 : Int)) then
    some true
  else
    some (cm .gtr a0 (2147483647 : Int))).bind fun x2 =>
    some x2
/-- slices_IndexFunc_int_int -/
def m_slices_IndexFunc_int_int__link_number_1 (a0 : (List Int)) : Option (Int) :=
  lp (β := Unit) (fun (s11 : Int) =>
    bif (cm .lss s11 (a0.length : Int)) then
      (Sw.idx a0 s11).bind fun z19 =>
        (m_link_number_1 z19).bind fun v20 =>
          bif v20 then
            some (.done (.ret s11))
          else
            some (.next (ar .add .i64 s11 (1 : Int)))
    else
      some (.done (.brk ()))
    ) (0 : Int) fun (_ : Unit) =>
  some (-1 : Int)
/-- slices_ContainsFunc_int_int -/
def m_slices_ContainsFunc_int_int__link_number_1 (a0 : (List Int)) : Option (Bool) :=
  (m_slices_IndexFunc_int_int__link_number_1 a0).bind fun v1 =>
    some (cm .geq v1 (0 : Int))
/-- link_number -/
def m_link_number (a0 : (List Int)) : Option (Bool) :=
  (m_slices_ContainsFunc_int_int__link_number_1 a0).bind fun v1 =>
    some (!v1)
/-- frame_Check_1 -/
def m_frame_Check_1 (a0 : Int) : Option (Bool) :=
  (bif (cm .lss a0 (0 : Int)) then
    some true
  else
    some (cm .gtr a0 (2147483647 : Int))).bind fun x2 =>
    some x2
/-- slices_IndexFunc_int_int -/
def m_slices_IndexFunc_int_int__frame_Check_1 (a0 : (List Int)) : Option (Int) :=
  lp (β := Unit) (fun (s11 : Int) =>
    bif (cm .lss s11 (a0.length : Int)) then
      (Sw.idx a0 s11).bind fun z19 =>
        (m_frame_Check_1 z19).bind fun v20 =>
          bif v20 then
            some (.done (.ret s11))
          else
            some (.next (ar .add .i64 s11 (1 : Int)))
    else
      some (.done (.brk ()))
    ) (0 : Int) fun (_ : Unit) =>
  some (-1 : Int)
/-- slices_ContainsFunc_int_int -/
def m_slices_ContainsFunc_int_int__frame_Check_1 (a0 : (List Int)) : Option (Bool) :=
  (m_slices_IndexFunc_int_int__frame_Check_1 a0).bind fun v1 =>
    some (cm .geq v1 (0 : Int))
/-- frame_Check -/
def m_frame_Check (a0 : (Int × (List Int) × (List Blk))) : Option ((Option Int)) :=
  (bif (cm .lss a0.1 (0 : Int)) then
    some true
  else
    some (cm .gtr a0.1 (15 : Int))).bind fun x2 =>
    bif x2 then
      some (some (1 : Int))
    else
      (bif (cm .gtr (a0.2.1.length : Int) (12 : Int)) then
        some true
      else
        some (cm .gtr (a0.2.2.length : Int) (32 : Int))).bind fun x6 =>
        bif x6 then
          some (some (2 : Int))
        else
          (m_slices_ContainsFunc_int_int__frame_Check_1 a0.2.1).bind fun v9 =>
            bif v9 then
              some (some (1 : Int))
            else
              some (none : Option Int)
/-- link_load -/
def m_link_load (a0 : (Int × (List Int) × (List Blk))) : Option ((Option Int)) :=
  (m_frame_Check a0).bind fun v1 =>
    bif (Option.isSome v1) then
      some v1
    else
      bif (cm .gtr (a0.2.1.length : Int) (9 : Int)) then
        some (some (2 : Int))
      else
        some (none : Option Int)
/-- link_Check -/
def m_link_Check (a0 : (Int × Int × (List (Int × (List Int) × (List Blk))))) : Option ((Option Int)) :=
  (m_link_number ([a0.1, a0.2.1] : (List Int))).bind fun v1 =>
    bif (!v1) then
      some (some (1 : Int))
    else
      bif (cm .gtr (a0.2.2.length : Int) (64 : Int)) then
        some (some (2 : Int))
      else
        lp (β := Unit) (fun (s14 : Int) =>
          bif (cm .lss s14 (a0.2.2.length : Int)) then
            (Sw.idx a0.2.2 s14).bind fun z22 =>
              (m_link_load z22).bind fun v23 =>
                bif (Option.isSome v23) then
                  some (.done (.ret v23))
                else
                  some (.next (ar .add .i64 s14 (1 : Int)))
          else
            some (.done (.brk ()))
          ) (0 : Int) fun (_ : Unit) =>
        some (none : Option Int)
/-- slices_Clone_int_int -/
def m_slices_Clone_int_int_nil (a0 : (Bool × (List Int))) : Option ((List Int)) :=
  bif a0.1 then
    some ([] : (List Int))
  else
    (Sw.app ([] : (List Int)) a0.2).bind fun v2 =>
      some v2
/-- slices_Clone_int_int -/
def m_slices_Clone_int_int (a0 : (List Int)) : Option (List Int) := Sw.app [] a0
/-- slices_Clone_api_Block_api_Block -/
def m_slices_Clone_api_Block_api_Block_nil (a0 : (Bool × (List Blk))) : Option ((List Blk)) :=
  bif a0.1 then
    some ([] : (List Blk))
  else
    (Sw.app ([] : (List Blk)) a0.2).bind fun v2 =>
      some v2
/-- slices_Clone_api_Block_api_Block -/
def m_slices_Clone_api_Block_api_Block (a0 : (List Blk)) : Option (List Blk) := Sw.app [] a0
/-- link_clone -/
def m_link_clone (a0 : (Int × (List Int) × (List Blk))) : Option ((Int × (List Int) × (List Blk))) :=
  (m_slices_Clone_int_int a0.2.1).bind fun v1 =>
    (m_slices_Clone_api_Block_api_Block a0.2.2).bind fun v2 =>
      some (a0.1, v1, v2)
/-- link_queue -/
def m_link_queue (a0 : (List (Int × (List Int) × (List Blk)))) : Option ((List (Int × (List Int) × (List Blk)))) :=
  lp (β := (List (Int × (List Int) × (List Blk)))) (fun (s11 : Int × (List (Int × (List Int) × (List Blk)))) =>
    bif (cm .lss s11.1 (a0.length : Int)) then
      (Sw.idx a0 s11.1).bind fun z19 =>
        (m_link_clone z19).bind fun v20 =>
          (Sw.app s11.2 ([v20] : (List (Int × (List Int) × (List Blk))))).bind fun v21 =>
            some (.next ((ar .add .i64 s11.1 (1 : Int)), v21))
    else
      some (.done (.brk s11.2))
    ) ((0 : Int), ([] : (List (Int × (List Int) × (List Blk))))) fun (x17 : (List (Int × (List Int) × (List Blk)))) =>
  some x17
/-- link_Offer -/
def m_link_Offer (a0 : (Int × Int × (List (Int × (List Int) × (List Blk))))) (a1 : (Int × (List Int) × (List Blk))) : Option ((Int × Int × (List (Int × (List Int) × (List Blk)))) × (Option Int)) :=
  (m_link_Check a0).bind fun v1 =>
    bif (Option.isSome v1) then
      some (((0 : Int), (0 : Int), ([] : (List (Int × (List Int) × (List Blk))))), v1)
    else
      (m_link_load a1).bind fun v3 =>
        bif (Option.isSome v3) then
          some (((0 : Int), (0 : Int), ([] : (List (Int × (List Int) × (List Blk))))), v3)
        else
          (bif (cm .eql (a0.2.2.length : Int) (64 : Int)) then
            some true
          else
            some (cm .geq (ar .add .i64 a0.2.1 (a0.2.2.length : Int)) (2147483647 : Int))).bind fun x6 =>
            bif x6 then
              some (((0 : Int), (0 : Int), ([] : (List (Int × (List Int) × (List Blk))))), (some (2 : Int)))
            else
              (m_link_queue a0.2.2).bind fun v12 =>
                (m_link_clone a1).bind fun v13 =>
                  (Sw.app v12 ([v13] : (List (Int × (List Int) × (List Blk))))).bind fun v14 =>
                    some ((a0.1, a0.2.1, v14), (none : Option Int))
/-- frame_Sum -/
def m_frame_Sum (a0 : (List Int)) : Option (Int) :=
  lp (β := Int) (fun (s25 : Int × Int) =>
    bif (cm .lss s25.2 (a0.length : Int)) then
      (Sw.idx a0 s25.2).bind fun z40 =>
        lp (β := Int) (fun (s45 : Int × Int) =>
          bif (cm .lss s45.2 (8 : Int)) then
            some (.next ((ar .xor .u32 (sh .shr .u32 s45.1 (1 : Int)) (ar .mul .u32 (3988292384 : Int) (ar .and .u32 s45.1 (1 : Int)))), (ar .add .i64 s45.2 (1 : Int))))
          else
            some (.done (.brk s45.1))
          ) ((ar .xor .u32 s25.1 z40), (0 : Int)) fun (x48 : Int) =>
        some (.next (x48, (ar .add .i64 s25.2 (1 : Int))))
    else
      some (.done (.brk s25.1))
    ) ((4294967295 : Int), (0 : Int)) fun (x38 : Int) =>
  some (bnot .u32 x38)
/-- frame_Pack -/
def m_frame_Pack (a0 : (Int × (List Int) × (List Blk))) : Option ((List Int) × (Option Int)) :=
  (m_frame_Check a0).bind fun v1 =>
    bif (Option.isSome v1) then
      some (([] : (List Int)), v1)
    else
      lp (β := (List Int)) (fun (s37 : Int × (List Int)) =>
        bif (cm .lss s37.1 (a0.2.1.length : Int)) then
          (Sw.idx a0.2.1 s37.1).bind fun z57 =>
            lp (β := Int × (List Int)) (fun (s64 : Int × (List Int)) =>
              bif (cm .gtr s64.1 (127 : Int)) then
                (Sw.app s64.2 ([(ar .or .u8 (IntKind.wrap .u8 s64.1) (128 : Int))] : (List Int))).bind fun v70 =>
                  some (.next ((sh .shr .i64 s64.1 (7 : Int)), v70))
              else
                some (.done (.brk (s64.1, s64.2)))
              ) (z57, s37.2) fun (x68 : Int × (List Int)) =>
            (Sw.app x68.2 ([(IntKind.wrap .u8 x68.1)] : (List Int))).bind fun v71 =>
              some (.next ((ar .add .i64 s37.1 (1 : Int)), v71))
        else
          some (.done (.brk s37.2))
        ) ((0 : Int), ([(ar .or .u8 (sh .shl .u8 (IntKind.wrap .u8 a0.1) (4 : Int)) (IntKind.wrap .u8 (a0.2.1.length : Int))), (IntKind.wrap .u8 (a0.2.2.length : Int))] : (List Int))) fun (x55 : (List Int)) =>
      lp (β := (List Int)) (fun (s80 : Int × (List Int)) =>
        bif (cm .lss s80.1 (a0.2.2.length : Int)) then
          (Sw.idx a0.2.2 s80.1).bind fun z87 =>
            (Sw.app s80.2 z87).bind fun v88 =>
              some (.next ((ar .add .i64 s80.1 (1 : Int)), v88))
        else
          some (.done (.brk s80.2))
        ) ((0 : Int), x55) fun (x85 : (List Int)) =>
      (m_frame_Sum x85).bind fun v89 =>
        (Sw.app x85 ([(IntKind.wrap .u8 (sh .shr .u32 v89 (24 : Int))), (IntKind.wrap .u8 (sh .shr .u32 v89 (16 : Int))), (IntKind.wrap .u8 (sh .shr .u32 v89 (8 : Int))), (IntKind.wrap .u8 v89)] : (List Int))).bind fun v90 =>
          some (v90, (none : Option Int))
/-- link_Send -/
def m_link_Send (a0 : (Int × Int × (List (Int × (List Int) × (List Blk))))) : Option ((List (List Int)) × (Option Int)) :=
  (m_link_Check a0).bind fun v1 =>
    bif (Option.isSome v1) then
      some (([] : (List (List Int))), v1)
    else
      (Sw.sub a0.2.2 (0 : Int) (min (a0.2.2.length : Int) (4 : Int))).bind fun v3 =>
        lp (β := (List (List Int))) (fun (s20 : Int × (List (List Int))) =>
          bif (cm .lss s20.1 (v3.length : Int)) then
            (Sw.idx v3 s20.1).bind fun z31 =>
              bif (cm .gtr (ar .add .i64 a0.2.1 s20.1) (2147483647 : Int)) then
                some (.done (.ret (([] : (List (List Int))), (some (1 : Int)))))
              else
                (Sw.app ([a0.1, (ar .add .i64 a0.2.1 s20.1), z31.1] : (List Int)) z31.2.1).bind fun v33 =>
                  (m_frame_Pack ((1 : Int), v33, z31.2.2)).bind fun v34 =>
                    bif (Option.isSome v34.2) then
                      some (.done (.ret (([] : (List (List Int))), v34.2)))
                    else
                      (Sw.app s20.2 ([v34.1] : (List (List Int)))).bind fun v36 =>
                        some (.next ((ar .add .i64 s20.1 (1 : Int)), v36))
          else
            some (.done (.brk s20.2))
          ) ((0 : Int), ([] : (List (List Int)))) fun (x29 : (List (List Int))) =>
        some (x29, (none : Option Int))
/-- top_line_send -/
def m_top_line_send_io (a0_0 : (Int × Int × (List (Int × (List Int) × (List Blk))))) (a0_1 : (Int × Int)) (a0_2 : (List (Bool × (List Int)))) (a0_3 : (List Int)) (a0_4 : Bool) : Option ((Int × Int × (List (Int × (List Int) × (List Blk)))) × (Int × Int) × (List (Bool × (List Int))) × (List Int) × Bool) :=
  (m_link_Send a0_0).bind fun v1 =>
    (bif a0_4 then
      some (Option.isNone v1.2)
    else
      some false).bind fun x3 =>
      lp (β := (List (Bool × (List Int)))) (fun (s17 : Int × (List (Bool × (List Int)))) =>
        bif (cm .lss s17.1 (v1.1.length : Int)) then
          (Sw.idx v1.1 s17.1).bind fun z28 =>
            (Sw.app s17.2 ([(true, z28)] : (List (Bool × (List Int))))).bind fun v29 =>
              some (.next ((ar .add .i64 s17.1 (1 : Int)), v29))
        else
          some (.done (.brk s17.2))
        ) ((0 : Int), a0_2) fun (x24 : (List (Bool × (List Int)))) =>
      some (a0_0, a0_1, x24, a0_3, x3)
/-- frame_taker_byte -/
def m_frame_taker_byte_io (a0_0 : (List Int)) : Option (Int × Bool × (List Int)) :=
  bif (cm .eql (a0_0.length : Int) (0 : Int)) then
    some ((0 : Int), false, a0_0)
  else
    (Sw.idx a0_0 (0 : Int)).bind fun z2 =>
      (Sw.sub a0_0 (1 : Int) (a0_0.length : Int)).bind fun v3 =>
        some (z2, true, v3)
/-- frame_taker_number -/
def m_frame_taker_number_io (a0_0 : (List Int)) : Option (Int × Bool × (List Int)) :=
  lp (β := (List Int)) (fun (s22 : Int × Int × (List Int)) =>
    bif (cm .lss s22.2.1 (35 : Int)) then
      (m_frame_taker_byte_io s22.2.2).bind fun v36 =>
        bif (!v36.2.1) then
          some (.done (.ret ((0 : Int), false, v36.2.2)))
        else
          (nn s22.2.1).bind fun _ =>
            bif (cm .lss v36.1 (128 : Int)) then
              (bif (cm .leq (ar .or .i64 s22.1 (sh .shl .i64 (ar .and .u8 v36.1 (127 : Int)) s22.2.1)) (2147483647 : Int)) then
                bif (cm .gtr v36.1 (0 : Int)) then
                  some true
                else
                  some (cm .eql s22.2.1 (0 : Int))
              else
                some false).bind fun x42 =>
                some (.done (.ret ((ar .or .i64 s22.1 (sh .shl .i64 (ar .and .u8 v36.1 (127 : Int)) s22.2.1)), x42, v36.2.2)))
            else
              some (.next ((ar .or .i64 s22.1 (sh .shl .i64 (ar .and .u8 v36.1 (127 : Int)) s22.2.1)), (ar .add .i64 s22.2.1 (7 : Int)), v36.2.2))
    else
      some (.done (.brk s22.2.2))
    ) ((0 : Int), (0 : Int), a0_0) fun (x34 : (List Int)) =>
  some ((0 : Int), false, x34)
/-- slices_Chunk_byte_byte -/
def m_slices_Chunk_byte_byte (a0 : (List Int)) (a1 : Int) : Option (((List Int) × Int)) :=
  jp (fun (_ : Unit) =>
    some (a0, a1)
    ) fun k2 =>
  bif (cm .lss a1 (1 : Int)) then
    none
  else
    k2 ()

/-- frame_Unpack -/
def m_frame_Unpack (a0 : (List Int)) : Option ((Int × (List Int) × (List Blk)) × (Option Int)) :=
  bif (cm .lss (a0.length : Int) (6 : Int)) then
    some (((0 : Int), ([] : (List Int)), ([] : (List Blk))), (some (3 : Int)))
  else
    (Sw.sub a0 (0 : Int) (ar .sub .i64 (a0.length : Int) (4 : Int))).bind fun v2 =>
      (m_frame_Sum v2).bind fun v3 =>
        (Sw.sub a0 (v2.length : Int) (a0.length : Int)).bind fun v4 =>
          (Sw.arrOf 4 v4).bind fun z5 =>
            bif (!decide (z5 = ([(IntKind.wrap .u8 (sh .shr .u32 v3 (24 : Int))), (IntKind.wrap .u8 (sh .shr .u32 v3 (16 : Int))), (IntKind.wrap .u8 (sh .shr .u32 v3 (8 : Int))), (IntKind.wrap .u8 v3)] : (List Int)))) then
              some (((0 : Int), ([] : (List Int)), ([] : (List Blk))), (some (3 : Int)))
            else
              (m_frame_taker_byte_io v2).bind fun v7 =>
                (m_frame_taker_byte_io v7.2.2).bind fun v8 =>
                  lp (β := (List Int) × (List Int)) (fun (s19 : Int × (List Int) × (List Int)) =>
                    bif (cm .lss s19.1 (ar .and .u8 v7.1 (15 : Int))) then
                      (m_frame_taker_number_io s19.2.1).bind fun v27 =>
                        bif (!v27.2.1) then
                          some (.done (.ret (((0 : Int), ([] : (List Int)), ([] : (List Blk))), (some (3 : Int)))))
                        else
                          (Sw.app s19.2.2 ([v27.1] : (List Int))).bind fun v29 =>
                            some (.next ((ar .add .u8 s19.1 (1 : Int)), v27.2.2, v29))
                    else
                      some (.done (.brk (s19.2.1, s19.2.2)))
                    ) ((0 : Int), v8.2.2, ([] : (List Int))) fun (x25 : (List Int) × (List Int)) =>
                  (bif (cm .gtr v8.1 (32 : Int)) then
                    some true
                  else
                    bif (cm .gtr (x25.2.length : Int) (12 : Int)) then
                      some true
                    else
                      some (cm .neq (x25.1.length : Int) (ar .mul .i64 v8.1 (8 : Int)))).bind fun x32 =>
                    bif x32 then
                      some (((0 : Int), ([] : (List Int)), ([] : (List Blk))), (some (3 : Int)))
                    else
                      (m_slices_Chunk_byte_byte x25.1 (8 : Int)).bind fun v36 =>
                        (Sw.small v36.1).bind fun _ =>
                          (Sw.chkn v36.2).bind fun _ =>
                            rg (δ := Empty) (fun (z38 : (List Int)) (s45 : (List Blk)) =>
                              (Sw.arrOf 8 z38).bind fun z46 =>
                                (Sw.app s45 ([z46] : (List Blk))).bind fun v47 =>
                                  some (.next v47)
                              ) (Sw.chunks (Int.toNat v36.2) v36.1) ([] : (List Blk)) (fun (x48 : (List Blk)) =>
                              some (((sh .shr .u8 v7.1 (4 : Int)), x25.2, x48), (none : Option Int))
                              ) fun (z : Empty) => z.elim
/-- link_Receive -/
def m_link_Receive (a0 : (Int × Int)) (a1 : (List Int)) : Option ((Int × Int) × (Int × (List Int) × (List Blk)) × Bool × (Bool × (List Int)) × (Option Int)) :=
  (m_link_number ([a0.1, a0.2] : (List Int))).bind fun v1 =>
    bif (!v1) then
      some (((0 : Int), (0 : Int)), ((0 : Int), ([] : (List Int)), ([] : (List Blk))), false, (true, ([] : (List Int))), (some (1 : Int)))
    else
      (m_frame_Unpack a1).bind fun v3 =>
        (bif (Option.isSome v3.2) then
          some true
        else
          bif (cm .neq v3.1.1 (1 : Int)) then
            some true
          else
            bif (cm .lss (v3.1.2.1.length : Int) (3 : Int)) then
              some true
            else
              (Sw.idx v3.1.2.1 (0 : Int)).bind fun z14 =>
                bif (cm .neq z14 a0.1) then
                  some true
                else
                  (Sw.idx v3.1.2.1 (2 : Int)).bind fun z16 =>
                    some (cm .gtr z16 (15 : Int))).bind fun x10 =>
          bif x10 then
            some (a0, ((0 : Int), ([] : (List Int)), ([] : (List Blk))), false, (true, ([] : (List Int))), (none : Option Int))
          else
            ((Sw.idx v3.1.2.1 (1 : Int)).bind fun z21 =>
              bif (cm .eql z21 a0.2) then
                some (cm .lss a0.2 (2147483647 : Int))
              else
                some false).bind fun x20 =>
              jp (fun (x27 : Bool × Int × Int × (List Int) × (List Blk)) =>
                (m_frame_Pack ((0 : Int), ([a0.1, x27.2.1] : (List Int)), ([] : (List Blk)))).bind fun v30 =>
                  (ne1 v30.1).bind fun _ =>
                    some ((a0.1, x27.2.1), x27.2.2, x27.1, (false, v30.1), v30.2)
                ) fun k26 =>
              bif x20 then
                (Sw.idx v3.1.2.1 (2 : Int)).bind fun z28 =>
                  (Sw.sub v3.1.2.1 (3 : Int) (v3.1.2.1.length : Int)).bind fun v29 =>
                    k26 (true, (ar .add .i64 a0.2 (1 : Int)), z28, v29, v3.1.2.2)
              else
                k26 (false, a0.2, (0 : Int), ([] : (List Int)), ([] : (List Blk)))
/-- link_Heard -/
def m_link_Heard (a0 : (Int × Int × (List (Int × (List Int) × (List Blk))))) (a1 : (List Int)) : Option ((Int × Int × (List (Int × (List Int) × (List Blk)))) × (Option Int)) :=
  (m_link_Check a0).bind fun v1 =>
    bif (Option.isSome v1) then
      some (((0 : Int), (0 : Int), ([] : (List (Int × (List Int) × (List Blk))))), v1)
    else
      (m_link_queue a0.2.2).bind fun v3 =>
        (m_frame_Unpack a1).bind fun v4 =>
          (bif (Option.isSome v4.2) then
            some true
          else
            bif (cm .neq v4.1.1 (0 : Int)) then
              some true
            else
              bif (cm .neq (v4.1.2.1.length : Int) (2 : Int)) then
                some true
              else
                bif (cm .gtr (v4.1.2.2.length : Int) (0 : Int)) then
                  some true
                else
                  (Sw.idx v4.1.2.1 (0 : Int)).bind fun z15 =>
                    some (cm .neq z15 a0.1)).bind fun x10 =>
            bif x10 then
              some ((a0.1, a0.2.1, v3), (none : Option Int))
            else
              (Sw.idx v4.1.2.1 (1 : Int)).bind fun z17 =>
                (bif (cm .gtr (ar .sub .i64 z17 a0.2.1) (0 : Int)) then
                  some (cm .leq (ar .sub .i64 z17 a0.2.1) (min (v3.length : Int) (4 : Int)))
                else
                  some false).bind fun x19 =>
                  jp (fun (x26 : Int × (List (Int × (List Int) × (List Blk)))) =>
                    some ((a0.1, x26.1, x26.2), (none : Option Int))
                    ) fun k25 =>
                  bif x19 then
                    (Sw.idx v4.1.2.1 (1 : Int)).bind fun z28 =>
                      (Sw.sub v3 (ar .sub .i64 z17 a0.2.1) (v3.length : Int)).bind fun v29 =>
                        k25 (z28, v29)
                  else
                    k25 (a0.2.1, v3)
/-- top_line_come -/
def m_top_line_come_io (a0_0 : (Int × Int × (List (Int × (List Int) × (List Blk))))) (a0_1 : (Int × Int)) (a0_2 : (List (Bool × (List Int)))) (a0_3 : (List Int)) (a0_4 : Bool) (a1 : Int) : Option ((Int × Int × (List (Int × (List Int) × (List Blk)))) × (Int × Int) × (List (Bool × (List Int))) × (List Int) × Bool) :=
  (Sw.idx a0_2 a1).bind fun z1 =>
    bif z1.1 then
      (m_link_Receive a0_1 z1.2).bind fun v3 =>
        (bif a0_4 then
          some (Option.isNone v3.2.2.2.2)
        else
          some false).bind fun x5 =>
          (bif v3.2.2.1 then
            some (cm .eql (v3.2.1.2.1.length : Int) (1 : Int))
          else
            some false).bind fun x8 =>
            jp (fun (x17 : Bool × (List Int)) =>
              jp (fun (x26 : (List (Bool × (List Int)))) =>
                some (a0_0, v3.1, x26, x17.2, x17.1)
                ) fun k25 =>
              bif (!v3.2.2.2.1.1) then
                (Sw.app a0_2 ([(false, v3.2.2.2.1.2)] : (List (Bool × (List Int))))).bind fun v27 =>
                  k25 v27
              else
                k25 a0_2
              ) fun k16 =>
            bif x8 then
              (Sw.idx v3.2.1.2.1 (0 : Int)).bind fun z20 =>
                (Sw.app a0_3 ([z20] : (List Int))).bind fun v21 =>
                  k16 (x5, v21)
            else
              bif v3.2.2.1 then
                k16 (false, a0_3)
              else
                k16 (x5, a0_3)
    else
      (m_link_Heard a0_0 z1.2).bind fun v28 =>
        (bif a0_4 then
          some (Option.isNone v28.2)
        else
          some false).bind fun x30 =>
          some (v28.1, a0_1, a0_2, a0_3, x30)
/-- top_line_gone -/
def m_top_line_gone_io (a0_0 : (Int × Int × (List (Int × (List Int) × (List Blk))))) (a0_1 : (Int × Int)) (a0_2 : (List (Bool × (List Int)))) (a0_3 : (List Int)) (a0_4 : Bool) (a1 : Int) : Option ((Int × Int × (List (Int × (List Int) × (List Blk)))) × (Int × Int) × (List (Bool × (List Int))) × (List Int) × Bool) :=
  (Sw.sub a0_2 (0 : Int) a1).bind fun v4 =>
    (Sw.app ([] : (List (Bool × (List Int)))) v4).bind fun v5 =>
      (Sw.sub a0_2 (ar .add .i64 a1 (1 : Int)) (a0_2.length : Int)).bind fun v6 =>
        (Sw.app v5 v6).bind fun v7 =>
          some (a0_0, a0_1, v7, a0_3, a0_4)
/-- top_TopLine -/
def m_top_TopLine (a0 : Int) (a1 : Int) (a2 : (List Int)) : Option (Bool) :=
  bif (cm .gtr (a2.length : Int) (100 : Int)) then
    some true
  else
    (m_ref_Pick a0 (1000 : Int)).bind fun v2 =>
      (m_ref_Pick a1 (20 : Int)).bind fun v3 =>
        lp (β := (Int × Int × (List (Int × (List Int) × (List Blk))))) (fun (s12 : Int × (Int × Int × (List (Int × (List Int) × (List Blk))))) =>
          bif (cm .lss s12.1 v3) then
            (m_link_Offer s12.2 ((ar .add .i64 (2 : Int) (ar .rem .i64 s12.1 (14 : Int))), ([s12.1] : (List Int)), ([] : (List Blk)))).bind fun v19 =>
              bif (Option.isSome v19.2) then
                some (.done (.ret false))
              else
                some (.next ((ar .add .i64 s12.1 (1 : Int)), v19.1))
          else
            some (.done (.brk s12.2))
          ) ((0 : Int), (v2, (0 : Int), ([] : (List (Int × (List Int) × (List Blk)))))) fun (x17 : (Int × Int × (List (Int × (List Int) × (List Blk))))) =>
        lp (β := (Int × Int × (List (Int × (List Int) × (List Blk)))) × (Int × Int) × Bool × (List (Bool × (List Int))) × (List Int)) (fun (s143 : Int × (Int × Int × (List (Int × (List Int) × (List Blk)))) × (Int × Int) × Bool × (List (Bool × (List Int))) × (List Int)) =>
          (bif (cm .lss s143.1 (a2.length : Int)) then
            some s143.2.2.2.1
          else
            some false).bind fun x207 =>
            bif x207 then
              jp (fun (x238 : (Int × Int × (List (Int × (List Int) × (List Blk)))) × (Int × Int) × Bool × (List (Bool × (List Int))) × (List Int)) =>
                some (.next ((ar .add .i64 s143.1 (1 : Int)), x238.1, x238.2.1, x238.2.2.1, x238.2.2.2.1, x238.2.2.2.2))
                ) fun k237 =>
              (Sw.idx a2 s143.1).bind fun z239 =>
                (m_ref_Pick z239 (100000 : Int)).bind fun v240 =>
                  (bif (cm .eql (s143.2.2.2.2.1.length : Int) (0 : Int)) then
                    some true
                  else
                    some (cm .eql (ar .rem .i64 v240 (5 : Int)) (0 : Int))).bind fun x242 =>
                    bif x242 then
                      (m_top_line_send_io s143.2.1 s143.2.2.1 s143.2.2.2.2.1 s143.2.2.2.2.2 s143.2.2.2.1).bind fun v245 =>
                        k237 (v245.1, v245.2.1, v245.2.2.2.2, v245.2.2.1, v245.2.2.2.1)
                    else
                      (nz (s143.2.2.2.2.1.length : Int)).bind fun _ =>
                        bif (cm .eql (ar .rem .i64 v240 (5 : Int)) (1 : Int)) then
                          (m_top_line_come_io s143.2.1 s143.2.2.1 s143.2.2.2.2.1 s143.2.2.2.2.2 s143.2.2.2.1 (ar .rem .i64 (ar .quo .i64 v240 (5 : Int)) (s143.2.2.2.2.1.length : Int))).bind fun v248 =>
                            (m_top_line_gone_io v248.1 v248.2.1 v248.2.2.1 v248.2.2.2.1 v248.2.2.2.2 (ar .rem .i64 (ar .quo .i64 v240 (5 : Int)) (s143.2.2.2.2.1.length : Int))).bind fun v249 =>
                              bif (cm .gtr (v249.2.2.1.length : Int) (200 : Int)) then
                                (Sw.sub v249.2.2.1 (0 : Int) (200 : Int)).bind fun v251 =>
                                  k237 (v249.1, v249.2.1, v249.2.2.2.2, v251, v249.2.2.2.1)
                              else
                                k237 (v249.1, v249.2.1, v249.2.2.2.2, v249.2.2.1, v249.2.2.2.1)
                        else
                          bif (cm .eql (ar .rem .i64 v240 (5 : Int)) (2 : Int)) then
                            (m_top_line_gone_io s143.2.1 s143.2.2.1 s143.2.2.2.2.1 s143.2.2.2.2.2 s143.2.2.2.1 (ar .rem .i64 (ar .quo .i64 v240 (5 : Int)) (s143.2.2.2.2.1.length : Int))).bind fun v253 =>
                              bif (cm .gtr (v253.2.2.1.length : Int) (200 : Int)) then
                                (Sw.sub v253.2.2.1 (0 : Int) (200 : Int)).bind fun v255 =>
                                  k237 (v253.1, v253.2.1, v253.2.2.2.2, v255, v253.2.2.2.1)
                              else
                                k237 (v253.1, v253.2.1, v253.2.2.2.2, v253.2.2.1, v253.2.2.2.1)
                          else
                            bif (cm .eql (ar .rem .i64 v240 (5 : Int)) (3 : Int)) then
                              (Sw.idx s143.2.2.2.2.1 (ar .rem .i64 (ar .quo .i64 v240 (5 : Int)) (s143.2.2.2.2.1.length : Int))).bind fun z259 =>
                                (Sw.app s143.2.2.2.2.1 ([z259] : (List (Bool × (List Int))))).bind fun v260 =>
                                  bif (cm .gtr (v260.length : Int) (200 : Int)) then
                                    (Sw.sub v260 (0 : Int) (200 : Int)).bind fun v262 =>
                                      k237 (s143.2.1, s143.2.2.1, s143.2.2.2.1, v262, s143.2.2.2.2.2)
                                  else
                                    k237 (s143.2.1, s143.2.2.1, s143.2.2.2.1, v260, s143.2.2.2.2.2)
                            else
                              (m_top_line_come_io s143.2.1 s143.2.2.1 s143.2.2.2.2.1 s143.2.2.2.2.2 s143.2.2.2.1 (ar .rem .i64 (ar .quo .i64 v240 (5 : Int)) (s143.2.2.2.2.1.length : Int))).bind fun v263 =>
                                bif (cm .gtr (v263.2.2.1.length : Int) (200 : Int)) then
                                  (Sw.sub v263.2.2.1 (0 : Int) (200 : Int)).bind fun v265 =>
                                    k237 (v263.1, v263.2.1, v263.2.2.2.2, v265, v263.2.2.2.1)
                                else
                                  k237 (v263.1, v263.2.1, v263.2.2.2.2, v263.2.2.1, v263.2.2.2.1)
            else
              some (.done (.brk (s143.2.1, s143.2.2.1, s143.2.2.2.1, s143.2.2.2.2.1, s143.2.2.2.2.2)))
          ) ((0 : Int), x17, (v2, (0 : Int)), true, ([] : (List (Bool × (List Int)))), ([] : (List Int))) fun (x205 : (Int × Int × (List (Int × (List Int) × (List Blk)))) × (Int × Int) × Bool × (List (Bool × (List Int))) × (List Int)) =>
        lp (β := Unit) (fun (s274 : Int) =>
          bif (cm .lss s274 (x205.2.2.2.2.length : Int)) then
            (Sw.idx x205.2.2.2.2 s274).bind fun z281 =>
              bif (cm .neq z281 s274) then
                some (.done (.ret false))
              else
                some (.next (ar .add .i64 s274 (1 : Int)))
          else
            some (.done (.brk ()))
          ) (0 : Int) fun (_ : Unit) =>
        lp (β := (Int × Int × (List (Int × (List Int) × (List Blk)))) × (Int × Int) × Bool × (List (Bool × (List Int))) × (List Int)) (fun (s353 : Int × (Int × Int × (List (Int × (List Int) × (List Blk)))) × (Int × Int) × Bool × (List (Bool × (List Int))) × (List Int)) =>
          (bif (cm .leq s353.1 v3) then
            some s353.2.2.2.1
          else
            some false).bind fun x391 =>
            bif x391 then
              (m_top_line_send_io s353.2.1 s353.2.2.1 s353.2.2.2.2.1 s353.2.2.2.2.2 s353.2.2.2.1).bind fun v394 =>
                lp (β := (Int × Int × (List (Int × (List Int) × (List Blk)))) × (Int × Int) × Bool × (List (Bool × (List Int))) × (List Int)) (fun (s409 : (Int × Int × (List (Int × (List Int) × (List Blk)))) × (Int × Int) × Bool × (List (Bool × (List Int))) × (List Int)) =>
                  (bif (cm .gtr (s409.2.2.2.1.length : Int) (0 : Int)) then
                    some s409.2.2.1
                  else
                    some false).bind fun x419 =>
                    bif x419 then
                      (m_top_line_come_io s409.1 s409.2.1 s409.2.2.2.1 s409.2.2.2.2 s409.2.2.1 (0 : Int)).bind fun v422 =>
                        (m_top_line_gone_io v422.1 v422.2.1 v422.2.2.1 v422.2.2.2.1 v422.2.2.2.2 (0 : Int)).bind fun v423 =>
                          some (.next (v423.1, v423.2.1, v423.2.2.2.2, v423.2.2.1, v423.2.2.2.1))
                    else
                      some (.done (.brk (s409.1, s409.2.1, s409.2.2.1, s409.2.2.2.1, s409.2.2.2.2)))
                  ) (v394.1, v394.2.1, v394.2.2.2.2, v394.2.2.1, v394.2.2.2.1) fun (x417 : (Int × Int × (List (Int × (List Int) × (List Blk)))) × (Int × Int) × Bool × (List (Bool × (List Int))) × (List Int)) =>
                some (.next ((ar .add .i64 s353.1 (1 : Int)), x417.1, x417.2.1, x417.2.2.1, x417.2.2.2.1, x417.2.2.2.2))
            else
              some (.done (.brk (s353.2.1, s353.2.2.1, s353.2.2.2.1, s353.2.2.2.2.1, s353.2.2.2.2.2)))
          ) ((0 : Int), x205.1, x205.2.1, x205.2.2.1, x205.2.2.2.1, x205.2.2.2.2) fun (x389 : (Int × Int × (List (Int × (List Int) × (List Blk)))) × (Int × Int) × Bool × (List (Bool × (List Int))) × (List Int)) =>
        (bif (!x389.2.2.1) then
          some true
        else
          bif (cm .neq (x389.2.2.2.2.length : Int) v3) then
            some true
          else
            bif (cm .gtr (x389.1.2.2.length : Int) (0 : Int)) then
              some true
            else
              some (cm .neq x389.1.2.1 v3)).bind fun x427 =>
          bif x427 then
            some false
          else
            lp (β := Unit) (fun (s440 : Int) =>
              bif (cm .lss s440 v3) then
                (Sw.idx x389.2.2.2.2 s440).bind fun z447 =>
                  bif (cm .neq z447 s440) then
                    some (.done (.ret false))
                  else
                    some (.next (ar .add .i64 s440 (1 : Int)))
              else
                some (.done (.brk ()))
              ) (0 : Int) fun (_ : Unit) =>
            some true
end Go.Mo
