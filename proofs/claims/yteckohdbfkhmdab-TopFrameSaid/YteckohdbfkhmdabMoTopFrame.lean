/- What the functions that this law reaches come to, as plain functions. Conditions: none. -/
import Derived.Test.YteckohdbfkhmdabSwB
namespace Go.Mo
open Go Go.Sw
abbrev Blk := List Int
abbrev eBlk : Enc Blk := Enc.arr 8 (Enc.int .u8)
def zblk : Blk := List.replicate 8 0
/-- frame_Check_1 -/
def m_frame_Check_1 (a0 : Int) : Option (Bool) :=
  (bif (cm .lss a0 (0 : Int)) then
    some true
  else
    some (cm .gtr a0 (2147483647 : Int))).bind fun x2 =>
    some x2
/-- slices_IndexFunc_int_int -/
def m_slices_IndexFunc_int_int__frame_Check_1 (a0 : (List Int)) : Option (Int) :=
  lp (β := Unit) (fun (s11 : Int) =>
    bif (cm .lss s11 (a0.length : Int)) then
      (Sw.idx a0 s11).bind fun z19 =>
        (m_frame_Check_1 z19).bind fun v20 =>
          bif v20 then
            some (.done (.ret s11))
          else
            some (.next (ar .add .i64 s11 (1 : Int)))
    else
      some (.done (.brk ()))
    ) (0 : Int) fun (_ : Unit) =>
  some (-1 : Int)
/-- slices_ContainsFunc_int_int -/
def m_slices_ContainsFunc_int_int__frame_Check_1 (a0 : (List Int)) : Option (Bool) :=
  (m_slices_IndexFunc_int_int__frame_Check_1 a0).bind fun v1 =>
    some (cm .geq v1 (0 : Int))
/-- frame_Check -/
def m_frame_Check (a0 : (Int × (List Int) × (List Blk))) : Option ((Option Int)) :=
  (bif (cm .lss a0.1 (0 : Int)) then
    some true
  else
    some (cm .gtr a0.1 (15 : Int))).bind fun x2 =>
    bif x2 then
      some (some (1 : Int))
    else
      (bif (cm .gtr (a0.2.1.length : Int) (12 : Int)) then
        some true
      else
        some (cm .gtr (a0.2.2.length : Int) (32 : Int))).bind fun x6 =>
        bif x6 then
          some (some (2 : Int))
        else
          (m_slices_ContainsFunc_int_int__frame_Check_1 a0.2.1).bind fun v9 =>
            bif v9 then
              some (some (1 : Int))
            else
              some (none : Option Int)
/-- frame_Sum -/
def m_frame_Sum (a0 : (List Int)) : Option (Int) :=
  lp (β := Int) (fun (s25 : Int × Int) =>
    bif (cm .lss s25.2 (a0.length : Int)) then
      (Sw.idx a0 s25.2).bind fun z40 =>
        lp (β := Int) (fun (s45 : Int × Int) =>
          bif (cm .lss s45.2 (8 : Int)) then
            some (.next ((ar .xor .u32 (sh .shr .u32 s45.1 (1 : Int)) (ar .mul .u32 (3988292384 : Int) (ar .and .u32 s45.1 (1 : Int)))), (ar .add .i64 s45.2 (1 : Int))))
          else
            some (.done (.brk s45.1))
          ) ((ar .xor .u32 s25.1 z40), (0 : Int)) fun (x48 : Int) =>
        some (.next (x48, (ar .add .i64 s25.2 (1 : Int))))
    else
      some (.done (.brk s25.1))
    ) ((4294967295 : Int), (0 : Int)) fun (x38 : Int) =>
  some (bnot .u32 x38)
/-- frame_Pack -/
def m_frame_Pack (a0 : (Int × (List Int) × (List Blk))) : Option ((List Int) × (Option Int)) :=
  (m_frame_Check a0).bind fun v1 =>
    bif (Option.isSome v1) then
      some (([] : (List Int)), v1)
    else
      lp (β := (List Int)) (fun (s37 : Int × (List Int)) =>
        bif (cm .lss s37.1 (a0.2.1.length : Int)) then
          (Sw.idx a0.2.1 s37.1).bind fun z57 =>
            lp (β := Int × (List Int)) (fun (s64 : Int × (List Int)) =>
              bif (cm .gtr s64.1 (127 : Int)) then
                (Sw.app s64.2 ([(ar .or .u8 (IntKind.wrap .u8 s64.1) (128 : Int))] : (List Int))).bind fun v70 =>
                  some (.next ((sh .shr .i64 s64.1 (7 : Int)), v70))
              else
                some (.done (.brk (s64.1, s64.2)))
              ) (z57, s37.2) fun (x68 : Int × (List Int)) =>
            (Sw.app x68.2 ([(IntKind.wrap .u8 x68.1)] : (List Int))).bind fun v71 =>
              some (.next ((ar .add .i64 s37.1 (1 : Int)), v71))
        else
          some (.done (.brk s37.2))
        ) ((0 : Int), ([(ar .or .u8 (sh .shl .u8 (IntKind.wrap .u8 a0.1) (4 : Int)) (IntKind.wrap .u8 (a0.2.1.length : Int))), (IntKind.wrap .u8 (a0.2.2.length : Int))] : (List Int))) fun (x55 : (List Int)) =>
      lp (β := (List Int)) (fun (s80 : Int × (List Int)) =>
        bif (cm .lss s80.1 (a0.2.2.length : Int)) then
          (Sw.idx a0.2.2 s80.1).bind fun z87 =>
            (Sw.app s80.2 z87).bind fun v88 =>
              some (.next ((ar .add .i64 s80.1 (1 : Int)), v88))
        else
          some (.done (.brk s80.2))
        ) ((0 : Int), x55) fun (x85 : (List Int)) =>
      (m_frame_Sum x85).bind fun v89 =>
        (Sw.app x85 ([(IntKind.wrap .u8 (sh .shr .u32 v89 (24 : Int))), (IntKind.wrap .u8 (sh .shr .u32 v89 (16 : Int))), (IntKind.wrap .u8 (sh .shr .u32 v89 (8 : Int))), (IntKind.wrap .u8 v89)] : (List Int))).bind fun v90 =>
          some (v90, (none : Option Int))
/-- frame_taker_byte -/
def m_frame_taker_byte_io (a0_0 : (List Int)) : Option (Int × Bool × (List Int)) :=
  bif (cm .eql (a0_0.length : Int) (0 : Int)) then
    some ((0 : Int), false, a0_0)
  else
    (Sw.idx a0_0 (0 : Int)).bind fun z2 =>
      (Sw.sub a0_0 (1 : Int) (a0_0.length : Int)).bind fun v3 =>
        some (z2, true, v3)
/-- frame_taker_number -/
def m_frame_taker_number_io (a0_0 : (List Int)) : Option (Int × Bool × (List Int)) :=
  lp (β := (List Int)) (fun (s22 : Int × Int × (List Int)) =>
    bif (cm .lss s22.2.1 (35 : Int)) then
      (m_frame_taker_byte_io s22.2.2).bind fun v36 =>
        bif (!v36.2.1) then
          some (.done (.ret ((0 : Int), false, v36.2.2)))
        else
          (nn s22.2.1).bind fun _ =>
            bif (cm .lss v36.1 (128 : Int)) then
              (bif (cm .leq (ar .or .i64 s22.1 (sh .shl .i64 (ar .and .u8 v36.1 (127 : Int)) s22.2.1)) (2147483647 : Int)) then
                bif (cm .gtr v36.1 (0 : Int)) then
                  some true
                else
                  some (cm .eql s22.2.1 (0 : Int))
              else
                some false).bind fun x42 =>
                some (.done (.ret ((ar .or .i64 s22.1 (sh .shl .i64 (ar .and .u8 v36.1 (127 : Int)) s22.2.1)), x42, v36.2.2)))
            else
              some (.next ((ar .or .i64 s22.1 (sh .shl .i64 (ar .and .u8 v36.1 (127 : Int)) s22.2.1)), (ar .add .i64 s22.2.1 (7 : Int)), v36.2.2))
    else
      some (.done (.brk s22.2.2))
    ) ((0 : Int), (0 : Int), a0_0) fun (x34 : (List Int)) =>
  some ((0 : Int), false, x34)
/-- slices_Chunk_byte_byte -/
def m_slices_Chunk_byte_byte (a0 : (List Int)) (a1 : Int) : Option (((List Int) × Int)) :=
  jp (fun (_ : Unit) =>
    some (a0, a1)
    ) fun k2 =>
  bif (cm .lss a1 (1 : Int)) then
    none
  else
    k2 ()

/-- frame_Unpack -/
def m_frame_Unpack (a0 : (List Int)) : Option ((Int × (List Int) × (List Blk)) × (Option Int)) :=
  bif (cm .lss (a0.length : Int) (6 : Int)) then
    some (((0 : Int), ([] : (List Int)), ([] : (List Blk))), (some (3 : Int)))
  else
    (Sw.sub a0 (0 : Int) (ar .sub .i64 (a0.length : Int) (4 : Int))).bind fun v2 =>
      (m_frame_Sum v2).bind fun v3 =>
        (Sw.sub a0 (v2.length : Int) (a0.length : Int)).bind fun v4 =>
          (Sw.arrOf 4 v4).bind fun z5 =>
            bif (!decide (z5 = ([(IntKind.wrap .u8 (sh .shr .u32 v3 (24 : Int))), (IntKind.wrap .u8 (sh .shr .u32 v3 (16 : Int))), (IntKind.wrap .u8 (sh .shr .u32 v3 (8 : Int))), (IntKind.wrap .u8 v3)] : (List Int)))) then
              some (((0 : Int), ([] : (List Int)), ([] : (List Blk))), (some (3 : Int)))
            else
              (m_frame_taker_byte_io v2).bind fun v7 =>
                (m_frame_taker_byte_io v7.2.2).bind fun v8 =>
                  lp (β := (List Int) × (List Int)) (fun (s19 : Int × (List Int) × (List Int)) =>
                    bif (cm .lss s19.1 (ar .and .u8 v7.1 (15 : Int))) then
                      (m_frame_taker_number_io s19.2.1).bind fun v27 =>
                        bif (!v27.2.1) then
                          some (.done (.ret (((0 : Int), ([] : (List Int)), ([] : (List Blk))), (some (3 : Int)))))
                        else
                          (Sw.app s19.2.2 ([v27.1] : (List Int))).bind fun v29 =>
                            some (.next ((ar .add .u8 s19.1 (1 : Int)), v27.2.2, v29))
                    else
                      some (.done (.brk (s19.2.1, s19.2.2)))
                    ) ((0 : Int), v8.2.2, ([] : (List Int))) fun (x25 : (List Int) × (List Int)) =>
                  (bif (cm .gtr v8.1 (32 : Int)) then
                    some true
                  else
                    bif (cm .gtr (x25.2.length : Int) (12 : Int)) then
                      some true
                    else
                      some (cm .neq (x25.1.length : Int) (ar .mul .i64 v8.1 (8 : Int)))).bind fun x32 =>
                    bif x32 then
                      some (((0 : Int), ([] : (List Int)), ([] : (List Blk))), (some (3 : Int)))
                    else
                      (m_slices_Chunk_byte_byte x25.1 (8 : Int)).bind fun v36 =>
                        (Sw.small v36.1).bind fun _ =>
                          (Sw.chkn v36.2).bind fun _ =>
                            rg (δ := Empty) (fun (z38 : (List Int)) (s45 : (List Blk)) =>
                              (Sw.arrOf 8 z38).bind fun z46 =>
                                (Sw.app s45 ([z46] : (List Blk))).bind fun v47 =>
                                  some (.next v47)
                              ) (Sw.chunks (Int.toNat v36.2) v36.1) ([] : (List Blk)) (fun (x48 : (List Blk)) =>
                              some (((sh .shr .u8 v7.1 (4 : Int)), x25.2, x48), (none : Option Int))
                              ) fun (z : Empty) => nomatch z
/-- ref_SameInts -/
def m_ref_SameInts (a0 : (List Int)) (a1 : (List Int)) : Option (Bool) :=
  bif (cm .neq (a0.length : Int) (a1.length : Int)) then
    some false
  else
    lp (β := Unit) (fun (s12 : Int) =>
      bif (cm .lss s12 (a0.length : Int)) then
        (Sw.idx a0 s12).bind fun z20 =>
          (Sw.idx a1 s12).bind fun z21 =>
            bif (cm .neq z20 z21) then
              some (.done (.ret false))
            else
              some (.next (ar .add .i64 s12 (1 : Int)))
      else
        some (.done (.brk ()))
      ) (0 : Int) fun (_ : Unit) =>
    some true
/-- ref_SameBlocks -/
def m_ref_SameBlocks (a0 : (List Blk)) (a1 : (List Blk)) : Option (Bool) :=
  bif (cm .neq (a0.length : Int) (a1.length : Int)) then
    some false
  else
    lp (β := Unit) (fun (s12 : Int) =>
      bif (cm .lss s12 (a0.length : Int)) then
        (Sw.idx a0 s12).bind fun z20 =>
          (Sw.idx a1 s12).bind fun z21 =>
            bif (!decide (z20 = z21)) then
              some (.done (.ret false))
            else
              some (.next (ar .add .i64 s12 (1 : Int)))
      else
        some (.done (.brk ()))
      ) (0 : Int) fun (_ : Unit) =>
    some true
/-- ref_SameFrame -/
def m_ref_SameFrame (a0 : (Int × (List Int) × (List Blk))) (a1 : (Int × (List Int) × (List Blk))) : Option (Bool) :=
  (bif (cm .eql a0.1 a1.1) then
    (m_ref_SameInts a0.2.1 a1.2.1).bind fun v7 =>
      bif v7 then
        (m_ref_SameBlocks a0.2.2 a1.2.2).bind fun v9 =>
          some v9
      else
        some false
  else
    some false).bind fun x5 =>
    some x5
/-- ref_Pick -/
def m_ref_Pick (a0 : Int) (a1 : Int) : Option (Int) :=
  jp (fun (x3 : Int) =>
    (nz a1).bind fun _ =>
      some (ar .rem .i64 x3 a1)
    ) fun k2 =>
  bif (cm .lss a0 (0 : Int)) then
    k2 (IntKind.wrap .i64 (0 - (ar .add .i64 a0 (1 : Int))))
  else
    k2 a0
/-- top_TopFrame -/
def m_top_TopFrame (a0 : (Int × (List Int) × (List Blk))) (a1 : Int) (a2 : Int) : Option (Bool) :=
  (m_frame_Pack a0).bind fun v1 =>
    (m_frame_Unpack ([(0 : Int), (0 : Int), (65 : Int), (217 : Int), (18 : Int), (255 : Int)] : (List Int))).bind fun v2 =>
      (bif (Option.isSome v2.2) then
        some true
      else
        bif (cm .neq v2.1.1 (0 : Int)) then
          some true
        else
          some (cm .gtr (v2.1.2.1.length : Int) (0 : Int))).bind fun x5 =>
        bif x5 then
          some false
        else
          bif (Option.isSome v1.2) then
            (m_frame_Check a0).bind fun v10 =>
              some (Option.isSome v10)
          else
            (m_frame_Unpack v1.1).bind fun v11 =>
              (bif (Option.isSome v11.2) then
                some true
              else
                (m_ref_SameFrame a0 v11.1).bind fun v17 =>
                  bif (!v17) then
                    some true
                  else
                    some (cm .lss (v1.1.length : Int) (6 : Int))).bind fun x15 =>
                bif x15 then
                  some false
                else
                  (m_ref_Pick a1 (v1.1.length : Int)).bind fun v20 =>
                    (Sw.idx v1.1 v20).bind fun z21 =>
                      (m_ref_Pick a2 (255 : Int)).bind fun v22 =>
                        (Sw.idx v1.1 v20).bind fun _ =>
                          (m_frame_Unpack (List.set v1.1 (Int.toNat v20) (ar .xor .u8 z21 (IntKind.wrap .u8 (ar .add .i64 (1 : Int) v22))))).bind fun v24 =>
                            some (v24.2 == (some (3 : Int)))
end Go.Mo
