/- What the functions that this law reaches come to, as plain functions. Conditions: none. -/
import Derived.Test.YteckohdbfkhmdaaSwC
set_option linter.unusedVariables false
set_option linter.unusedSimpArgs false
namespace Go.Mo
open Go Go.Sw
abbrev Blk := List Int
abbrev eBlk : Enc Blk := Enc.arr 8 (Enc.int .u8)
def zblk : Blk := List.replicate 8 0
/-- tree_Digest -/
def m_tree_Digest (a0 : (List Int)) : Option (Int) :=
  lp (β := Int) (fun (s7 : Int × Int) =>
    bif (cm .lss s7.2 (a0.length : Int)) then
      (Sw.idx a0 s7.2).bind fun z13 =>
        some (.next ((ar .mul .u64 (ar .xor .u64 s7.1 z13) (1099511628211 : Int)), (ar .add .i64 s7.2 (1 : Int))))
    else
      some (.done (.brk s7.1))
    ) ((14695981039346656037 : Int), (0 : Int)) fun (x11 : Int) =>
  some x11
/-- ref_DigestOf -/
def m_ref_DigestOf (a0 : (List Int)) : Option (Int) :=
  lp (β := Int) (fun (s51 : Int × Int) =>
    bif (cm .lss s51.2 (a0.length : Int)) then
      lp (β := Int) (fun (s89 : Int × Int) =>
        bif (cm .lss s89.2 (256 : Int)) then
          (nz s89.2).bind fun _ =>
            (Sw.idx a0 s51.2).bind fun z99 =>
              (nz s89.2).bind fun _ =>
                bif (cm .neq (ar .rem .u64 (ar .quo .u64 (ar .rem .u64 s51.1 (256 : Int)) s89.2) (2 : Int)) (ar .rem .u64 (ar .quo .u64 z99 s89.2) (2 : Int))) then
                  some (.next ((ar .add .u64 s89.1 s89.2), (ar .mul .u64 s89.2 (2 : Int))))
                else
                  some (.next (s89.1, (ar .mul .u64 s89.2 (2 : Int))))
        else
          some (.done (.brk s89.1))
        ) ((0 : Int), (1 : Int)) fun (x96 : Int) =>
      some (.next ((ar .mul .u64 (ar .add .u64 (ar .sub .u64 s51.1 (ar .rem .u64 s51.1 (256 : Int))) x96) (1099511628211 : Int)), (ar .add .i64 s51.2 (1 : Int))))
    else
      some (.done (.brk s51.1))
    ) ((14695981039346656037 : Int), (0 : Int)) fun (x77 : Int) =>
  some x77
/-- tree_leaf -/
def m_tree_leaf (a0 : Blk) : Option (Int) :=
  (Sw.app ([(0 : Int)] : (List Int)) a0).bind fun v1 =>
    (m_tree_Digest v1).bind fun v2 =>
      some v2
/-- slices_Chunk_uint64_uint64 -/
def m_slices_Chunk_uint64_uint64 (a0 : (List Int)) (a1 : Int) : Option (((List Int) × Int)) :=
  jp (fun (_ : Unit) =>
    some (a0, a1)
    ) fun k2 =>
  bif (cm .lss a1 (1 : Int)) then
    none
  else
    k2 ()

/-- tree_node -/
def m_tree_node (a0 : (List Int)) : Option (Int) :=
  lp (β := (List Int)) (fun (s39 : Int × (List Int)) =>
    bif (cm .lss s39.1 (a0.length : Int)) then
      (Sw.idx a0 s39.1).bind fun z61 =>
        lp (β := (List Int)) (fun (s69 : Int × (List Int)) =>
          bif (cm .geq s69.1 (0 : Int)) then
            (nn s69.1).bind fun _ =>
              (Sw.app s69.2 ([(IntKind.wrap .u8 (sh .shr .u64 z61 s69.1))] : (List Int))).bind fun v77 =>
                some (.next ((ar .sub .i64 s69.1 (8 : Int)), v77))
          else
            some (.done (.brk s69.2))
          ) ((56 : Int), s39.2) fun (x74 : (List Int)) =>
        some (.next ((ar .add .i64 s39.1 (1 : Int)), x74))
    else
      some (.done (.brk s39.2))
    ) ((0 : Int), ([(1 : Int)] : (List Int))) fun (x59 : (List Int)) =>
  (m_tree_Digest x59).bind fun v78 =>
    some v78
/-- tree_above -/
def m_tree_above (a0 : (List Int)) : Option ((List Int)) :=
  (m_slices_Chunk_uint64_uint64 a0 (4 : Int)).bind fun v1 =>
    (Sw.small v1.1).bind fun _ =>
      (Sw.chkn v1.2).bind fun _ =>
        rg (δ := Empty) (fun (z3 : (List Int)) (s10 : (List Int)) =>
          (m_tree_node z3).bind fun v11 =>
            (Sw.app s10 ([v11] : (List Int))).bind fun v12 =>
              some (.next v12)
          ) (Sw.chunks (Int.toNat v1.2) v1.1) ([] : (List Int)) (fun (x13 : (List Int)) =>
          some x13
          ) fun (z : Empty) => nomatch z
/-- tree_Of -/
def m_tree_Of (a0 : (List Blk)) : Option (((List (List Int))) × (Option Int)) :=
  (bif (cm .lss (a0.length : Int) (1 : Int)) then
    some true
  else
    some (cm .gtr (a0.length : Int) (32 : Int))).bind fun x2 =>
    bif x2 then
      some (([] : (List (List Int))), (some (1 : Int)))
    else
      lp (β := (List Int)) (fun (s15 : Int × (List Int)) =>
        bif (cm .lss s15.1 (a0.length : Int)) then
          (Sw.idx a0 s15.1).bind fun z23 =>
            (m_tree_leaf z23).bind fun v24 =>
              (Sw.app s15.2 ([v24] : (List Int))).bind fun v25 =>
                some (.next ((ar .add .i64 s15.1 (1 : Int)), v25))
        else
          some (.done (.brk s15.2))
        ) ((0 : Int), ([] : (List Int))) fun (x21 : (List Int)) =>
      lp (β := (List (List Int))) (fun (s34 : (List Int) × (List (List Int))) =>
        bif (cm .gtr (s34.1.length : Int) (1 : Int)) then
          (m_tree_above s34.1).bind fun v41 =>
            (Sw.app s34.2 ([v41] : (List (List Int)))).bind fun v42 =>
              some (.next (v41, v42))
        else
          some (.done (.brk s34.2))
        ) (x21, ([x21] : (List (List Int)))) fun (x39 : (List (List Int))) =>
      some (x39, (none : Option Int))
/-- ref_above -/
def m_ref_above (a0 : (List Int)) : Option ((List Int)) :=
  lp (β := (List Int)) (fun (s211 : Int × (List Int)) =>
    bif (cm .lss s211.1 (a0.length : Int)) then
      lp (β := (List Int)) (fun (s369 : Int × (List Int)) =>
        (bif (cm .lss s369.1 (ar .add .i64 s211.1 (4 : Int))) then
          some (cm .lss s369.1 (a0.length : Int))
        else
          some false).bind fun x397 =>
          bif x397 then
            lp (β := (List Int)) (fun (s409 : Int × (List Int)) =>
              bif (cm .gtr s409.1 (0 : Int)) then
                (Sw.idx a0 s369.1).bind fun z417 =>
                  (nz s409.1).bind fun _ =>
                    (Sw.app s409.2 ([(IntKind.wrap .u8 (ar .rem .u64 (ar .quo .u64 z417 s409.1) (256 : Int)))] : (List Int))).bind fun v419 =>
                      some (.next ((ar .quo .u64 s409.1 (256 : Int)), v419))
              else
                some (.done (.brk s409.2))
              ) ((72057594037927936 : Int), s369.2) fun (x415 : (List Int)) =>
            some (.next ((ar .add .i64 s369.1 (1 : Int)), x415))
          else
            some (.done (.brk s369.2))
        ) (s211.1, ([(1 : Int)] : (List Int))) fun (x395 : (List Int)) =>
      (m_ref_DigestOf x395).bind fun v420 =>
        (Sw.app s211.2 ([v420] : (List Int))).bind fun v421 =>
          some (.next ((ar .add .i64 s211.1 (4 : Int)), v421))
    else
      some (.done (.brk s211.2))
    ) ((0 : Int), ([] : (List Int))) fun (x317 : (List Int)) =>
  some x317
/-- ref_TreeOf -/
def m_ref_TreeOf (a0 : (List Blk)) : Option (((List (List Int)))) :=
  lp (β := (List Int)) (fun (s51 : Int × (List Int)) =>
    bif (cm .lss s51.1 (a0.length : Int)) then
      lp (β := (List Int)) (fun (s89 : Int × (List Int)) =>
        bif (cm .lss s89.1 (8 : Int)) then
          (Sw.idx a0 s51.1).bind fun z97 =>
            (Sw.idx z97 s89.1).bind fun z98 =>
              (Sw.app s89.2 ([z98] : (List Int))).bind fun v99 =>
                some (.next ((ar .add .i64 s89.1 (1 : Int)), v99))
        else
          some (.done (.brk s89.2))
        ) ((0 : Int), ([(0 : Int)] : (List Int))) fun (x95 : (List Int)) =>
      (m_ref_DigestOf x95).bind fun v100 =>
        (Sw.app s51.2 ([v100] : (List Int))).bind fun v101 =>
          some (.next ((ar .add .i64 s51.1 (1 : Int)), v101))
    else
      some (.done (.brk s51.2))
    ) ((0 : Int), ([] : (List Int))) fun (x77 : (List Int)) =>
  lp (β := (List (List Int))) (fun (s110 : (List Int) × (List (List Int))) =>
    bif (cm .gtr (s110.1.length : Int) (1 : Int)) then
      (m_ref_above s110.1).bind fun v117 =>
        (Sw.app s110.2 ([v117] : (List (List Int)))).bind fun v118 =>
          some (.next (v117, v118))
    else
      some (.done (.brk s110.2))
    ) (x77, ([x77] : (List (List Int)))) fun (x115 : (List (List Int))) =>
  some x115
/-- ref_SameLevel -/
def m_ref_SameLevel (a0 : (List Int)) (a1 : (List Int)) : Option (Bool) :=
  bif (cm .neq (a0.length : Int) (a1.length : Int)) then
    some false
  else
    lp (β := Unit) (fun (s12 : Int) =>
      bif (cm .lss s12 (a0.length : Int)) then
        (Sw.idx a0 s12).bind fun z20 =>
          (Sw.idx a1 s12).bind fun z21 =>
            bif (cm .neq z20 z21) then
              some (.done (.ret false))
            else
              some (.next (ar .add .i64 s12 (1 : Int)))
      else
        some (.done (.brk ()))
      ) (0 : Int) fun (_ : Unit) =>
    some true
/-- ref_SameTree -/
def m_ref_SameTree (a0 : ((List (List Int)))) (a1 : ((List (List Int)))) : Option (Bool) :=
  bif (cm .neq (a0.length : Int) (a1.length : Int)) then
    some false
  else
    lp (β := Unit) (fun (s14 : Int) =>
      bif (cm .lss s14 (a0.length : Int)) then
        (Sw.idx a0 s14).bind fun z23 =>
          (Sw.idx a1 s14).bind fun z24 =>
            (m_ref_SameLevel z23 z24).bind fun v25 =>
              bif (!v25) then
                some (.done (.ret false))
              else
                some (.next (ar .add .i64 s14 (1 : Int)))
      else
        some (.done (.brk ()))
      ) (0 : Int) fun (_ : Unit) =>
    some true
/-- slices_Equal_uint64_uint64 -/
def m_slices_Equal_uint64_uint64 (a0 : (List Int)) (a1 : (List Int)) : Option (Bool) :=
  bif (cm .neq (a0.length : Int) (a1.length : Int)) then
    some false
  else
    lp (β := Unit) (fun (s12 : Int) =>
      bif (cm .lss s12 (a0.length : Int)) then
        (Sw.idx a0 s12).bind fun z20 =>
          (Sw.idx a1 s12).bind fun z21 =>
            bif (cm .neq z20 z21) then
              some (.done (.ret false))
            else
              some (.next (ar .add .i64 s12 (1 : Int)))
      else
        some (.done (.brk ()))
      ) (0 : Int) fun (_ : Unit) =>
    some true
/-- tree_Check -/
def m_tree_Check (a0 : ((List (List Int)))) : Option ((Option Int)) :=
  (bif (cm .eql (a0.length : Int) (0 : Int)) then
    some true
  else
    (Sw.idx a0 (0 : Int)).bind fun z7 =>
      bif (cm .lss (z7.length : Int) (1 : Int)) then
        some true
      else
        (Sw.idx a0 (0 : Int)).bind fun z9 =>
          some (cm .gtr (z9.length : Int) (32 : Int))).bind fun x5 =>
    bif x5 then
      some (some (3 : Int))
    else
      lp (β := Unit) (fun (s41 : Int) =>
        bif (cm .lss s41 (a0.length : Int)) then
          (Sw.idx a0 s41).bind fun z59 =>
            (bif (!((cm .eql s41 (ar .sub .i64 (a0.length : Int) (1 : Int))) == (cm .eql (z59.length : Int) (1 : Int)))) then
              some true
            else
              bif (!(cm .eql s41 (ar .sub .i64 (a0.length : Int) (1 : Int)))) then
                (m_tree_above z59).bind fun v68 =>
                  (Sw.idx a0 (ar .add .i64 s41 (1 : Int))).bind fun z69 =>
                    (m_slices_Equal_uint64_uint64 v68 z69).bind fun v70 =>
                      some (!v70)
              else
                some false).bind fun x65 =>
              bif x65 then
                some (.done (.ret (some (3 : Int))))
              else
                some (.next (ar .add .i64 s41 (1 : Int)))
        else
          some (.done (.brk ()))
        ) (0 : Int) fun (_ : Unit) =>
      some (none : Option Int)
/-- law_TreeSays -/
def m_law_TreeSays (a0 : (List Blk)) (a1 : (List Int)) : Option (Bool) :=
  (bif (cm .gtr (a0.length : Int) (100 : Int)) then
    some true
  else
    some (cm .gtr (a1.length : Int) (2000 : Int))).bind fun x2 =>
    bif x2 then
      some true
    else
      (m_tree_Digest a1).bind fun v5 =>
        (m_ref_DigestOf a1).bind fun v6 =>
          bif (cm .neq v5 v6) then
            some false
          else
            (m_tree_Of a0).bind fun v8 =>
              (bif (cm .lss (a0.length : Int) (1 : Int)) then
                some true
              else
                some (cm .gtr (a0.length : Int) (32 : Int))).bind fun x10 =>
                bif x10 then
                  (bif (v8.2 == (some (1 : Int))) then
                    some (cm .eql (v8.1.length : Int) (0 : Int))
                  else
                    some false).bind fun x14 =>
                    some x14
                else
                  (bif (Option.isNone v8.2) then
                    (m_ref_TreeOf a0).bind fun v23 =>
                      (m_ref_SameTree v8.1 v23).bind fun v24 =>
                        bif v24 then
                          (m_tree_Check v8.1).bind fun v26 =>
                            some (Option.isNone v26)
                        else
                          some false
                  else
                    some false).bind fun x21 =>
                    some x21
/-- law_hugeTree -/
def m_law_hugeTree (a0 : ((List (List Int)))) : Option (Bool) :=
  lp (β := Unit) (fun (s9 : Int) =>
    bif (cm .lss s9 (a0.length : Int)) then
      (Sw.idx a0 s9).bind fun z16 =>
        bif (cm .gtr (z16.length : Int) (200 : Int)) then
          some (.done (.ret true))
        else
          some (.next (ar .add .i64 s9 (1 : Int)))
    else
      some (.done (.brk ()))
    ) (0 : Int) fun (_ : Unit) =>
  some (cm .gtr (a0.length : Int) (50 : Int))
/-- ref_TreeMay -/
def m_ref_TreeMay (a0 : ((List (List Int)))) : Option (Int) :=
  (bif (cm .eql (a0.length : Int) (0 : Int)) then
    some true
  else
    (Sw.idx a0 (0 : Int)).bind fun z7 =>
      bif (cm .lss (z7.length : Int) (1 : Int)) then
        some true
      else
        (Sw.idx a0 (0 : Int)).bind fun z9 =>
          some (cm .gtr (z9.length : Int) (32 : Int))).bind fun x5 =>
    bif x5 then
      some (3 : Int)
    else
      (Sw.idx a0 (0 : Int)).bind fun z11 =>
        lp (β := Int) (fun (s34 : (List Int) × Int) =>
          bif (cm .gtr (s34.1.length : Int) (1 : Int)) then
            (m_ref_above s34.1).bind fun v48 =>
              (bif (cm .geq (ar .add .i64 s34.2 (1 : Int)) (a0.length : Int)) then
                some true
              else
                (Sw.idx a0 (ar .add .i64 s34.2 (1 : Int))).bind fun z54 =>
                  (m_ref_SameLevel v48 z54).bind fun v55 =>
                    some (!v55)).bind fun x52 =>
                bif x52 then
                  some (.done (.ret (3 : Int)))
                else
                  some (.next (v48, (ar .add .i64 s34.2 (1 : Int))))
          else
            some (.done (.brk s34.2))
          ) (z11, (0 : Int)) fun (x46 : Int) =>
        bif (cm .neq x46 (ar .sub .i64 (a0.length : Int) (1 : Int))) then
          some (3 : Int)
        else
          some (0 : Int)
/-- ref_Differs -/
def m_ref_Differs (a0 : ((List (List Int)))) (a1 : ((List (List Int)))) : Option ((List Int) × Int) :=
  lp (β := Int × (List Int)) (fun (s663 : Int × Int × (List Int) × (List Int)) =>
    bif (cm .geq s663.2.1 (0 : Int)) then
      lp (β := Int × (List Int) × (List Int)) (fun (s1161 : Int × Int × (List Int) × (List Int)) =>
        bif (cm .lss s1161.2.1 (s663.2.2.2.length : Int)) then
          jp (fun (x1286 : (List Int) × (List Int)) =>
            some (.next ((ar .add .i64 s1161.1 (1 : Int)), (ar .add .i64 s1161.2.1 (1 : Int)), x1286.1, x1286.2))
            ) fun k1285 =>
          (Sw.idx a0 s663.2.1).bind fun z1287 =>
            (Sw.idx s663.2.2.2 s1161.2.1).bind fun z1288 =>
              (Sw.idx z1287 z1288).bind fun z1289 =>
                (Sw.idx a1 s663.2.1).bind fun z1290 =>
                  (Sw.idx s663.2.2.2 s1161.2.1).bind fun z1291 =>
                    (Sw.idx z1290 z1291).bind fun z1292 =>
                      bif (cm .eql z1289 z1292) then
                        k1285 (s1161.2.2.1, s1161.2.2.2)
                      else
                        bif (cm .eql s663.2.1 (0 : Int)) then
                          (Sw.idx s663.2.2.2 s1161.2.1).bind fun z1295 =>
                            (Sw.app s1161.2.2.1 ([z1295] : (List Int))).bind fun v1296 =>
                              k1285 (v1296, s1161.2.2.2)
                        else
                          lp (β := (List Int)) (fun (s1311 : Int × (List Int)) =>
                            bif (cm .lss s1311.1 (4 : Int)) then
                              (Sw.idx s663.2.2.2 s1161.2.1).bind fun z1321 =>
                                (Sw.idx a0 (ar .sub .i64 s663.2.1 (1 : Int))).bind fun z1322 =>
                                  bif (cm .lss (ar .add .i64 (ar .mul .i64 z1321 (4 : Int)) s1311.1) (z1322.length : Int)) then
                                    (Sw.idx s663.2.2.2 s1161.2.1).bind fun z1324 =>
                                      (Sw.app s1311.2 ([(ar .add .i64 (ar .mul .i64 z1324 (4 : Int)) s1311.1)] : (List Int))).bind fun v1325 =>
                                        some (.next ((ar .add .i64 s1311.1 (1 : Int)), v1325))
                                  else
                                    some (.next ((ar .add .i64 s1311.1 (1 : Int)), s1311.2))
                            else
                              some (.done (.brk s1311.2))
                            ) ((0 : Int), s1161.2.2.2) fun (x1319 : (List Int)) =>
                          k1285 (s1161.2.2.1, x1319)
        else
          some (.done (.brk (s1161.1, s1161.2.2.1, s1161.2.2.2)))
        ) (s663.1, (0 : Int), s663.2.2.1, ([] : (List Int))) fun (x1244 : Int × (List Int) × (List Int)) =>
      some (.next (x1244.1, (ar .sub .i64 s663.2.1 (1 : Int)), x1244.2.1, x1244.2.2))
    else
      some (.done (.brk (s663.1, s663.2.2.1)))
    ) ((0 : Int), (ar .sub .i64 (a0.length : Int) (1 : Int)), ([] : (List Int)), ([(0 : Int)] : (List Int))) fun (x995 : Int × (List Int)) =>
  some (x995.2, x995.1)
/-- tree_Diff_1 -/
def m_tree_Diff_1_io : Nat → Int → Int → Int → (List (List Int)) → (List (List Int)) → (List Int) → Option (Int × (List (List Int)) × (List (List Int)) × (List Int))
  | 0 => fun _ _ _ _ _ _ => none
  | n0 + 1 => fun a0 a1 a2_0 a3_0 a4_0 a5_0 =>
    (Sw.idx a3_0 a0).bind fun z1 =>
      (Sw.idx z1 a1).bind fun z2 =>
        (Sw.idx a4_0 a0).bind fun z3 =>
          (Sw.idx z3 a1).bind fun z4 =>
            bif (cm .eql z2 z4) then
              some ((ar .add .i64 a2_0 (1 : Int)), a3_0, a4_0, a5_0)
            else
              bif (cm .eql a0 (0 : Int)) then
                (Sw.app a5_0 ([a1] : (List Int))).bind fun v7 =>
                  some ((ar .add .i64 a2_0 (1 : Int)), a3_0, a4_0, v7)
              else
                lp (β := Int × (List (List Int)) × (List (List Int)) × (List Int)) (fun (s16 : Int × Int × (List (List Int)) × (List (List Int)) × (List Int)) =>
                  (Sw.idx s16.2.2.1 (ar .sub .i64 a0 (1 : Int))).bind fun z22 =>
                    bif (cm .lss s16.1 (min (z22.length : Int) (ar .add .i64 (ar .mul .i64 a1 (4 : Int)) (4 : Int)))) then
                      (m_tree_Diff_1_io n0 (ar .sub .i64 a0 (1 : Int)) s16.1 s16.2.1 s16.2.2.1 s16.2.2.2.1 s16.2.2.2.2).bind fun v24 =>
                        some (.next ((ar .add .i64 s16.1 (1 : Int)), v24.1, v24.2.1, v24.2.2.1, v24.2.2.2))
                    else
                      some (.done (.brk (s16.2.1, s16.2.2.1, s16.2.2.2.1, s16.2.2.2.2)))
                  ) ((ar .mul .i64 a1 (4 : Int)), (ar .add .i64 a2_0 (1 : Int)), a3_0, a4_0, a5_0) fun (x21 : Int × (List (List Int)) × (List (List Int)) × (List Int)) =>
                some (x21.1, x21.2.1, x21.2.2.1, x21.2.2.2)
/-- tree_Diff -/
def m_tree_Diff (a0 : ((List (List Int)))) (a1 : ((List (List Int)))) : Option ((List Int) × Int × (Option Int)) :=
  lp (β := Unit) (fun (s11 : Int) =>
    bif (cm .lss s11 (([a0, a1] : (List ((List (List Int))))).length : Int)) then
      (Sw.idx ([a0, a1] : (List ((List (List Int))))) s11).bind fun z19 =>
        (m_tree_Check z19).bind fun v20 =>
          bif (Option.isSome v20) then
            some (.done (.ret (([] : (List Int)), (0 : Int), v20)))
          else
            some (.next (ar .add .i64 s11 (1 : Int)))
    else
      some (.done (.brk ()))
    ) (0 : Int) fun (_ : Unit) =>
  (Sw.idx a0 (0 : Int)).bind fun z22 =>
    (Sw.idx a1 (0 : Int)).bind fun z23 =>
      bif (cm .neq (z22.length : Int) (z23.length : Int)) then
        some (([] : (List Int)), (0 : Int), (some (6 : Int)))
      else
        (m_tree_Diff_1_io FUEL (ar .sub .i64 (a0.length : Int) (1 : Int)) (0 : Int) (0 : Int) a0 a1 ([] : (List Int))).bind fun v25 =>
          some (v25.2.2.2, v25.1, (none : Option Int))
/-- ref_Is -/
def m_ref_Is (a0 : (Option Int)) (a1 : Int) : Option (Bool) :=
  bif (Option.isNone a0) then
    some (cm .eql a1 (0 : Int))
  else
    (bif (cm .neq a1 (0 : Int)) then
      some (a0 == (some a1))
    else
      some false).bind fun x3 =>
      some x3
/-- ref_SameInts -/
def m_ref_SameInts (a0 : (List Int)) (a1 : (List Int)) : Option (Bool) :=
  bif (cm .neq (a0.length : Int) (a1.length : Int)) then
    some false
  else
    lp (β := Unit) (fun (s12 : Int) =>
      bif (cm .lss s12 (a0.length : Int)) then
        (Sw.idx a0 s12).bind fun z20 =>
          (Sw.idx a1 s12).bind fun z21 =>
            bif (cm .neq z20 z21) then
              some (.done (.ret false))
            else
              some (.next (ar .add .i64 s12 (1 : Int)))
      else
        some (.done (.brk ()))
      ) (0 : Int) fun (_ : Unit) =>
    some true
/-- law_TreeDiffs -/
def m_law_TreeDiffs (a0 : ((List (List Int)))) (a1 : ((List (List Int)))) : Option (Bool) :=
  ((m_law_hugeTree a0).bind fun v5 =>
    bif v5 then
      some true
    else
      (m_law_hugeTree a1).bind fun v7 =>
        some v7).bind fun x4 =>
    bif x4 then
      some true
    else
      (m_ref_TreeMay a0).bind fun v9 =>
        jp (fun (x13 : Int) =>
          (bif (cm .eql x13 (0 : Int)) then
            (Sw.idx a0 (0 : Int)).bind fun z20 =>
              (Sw.idx a1 (0 : Int)).bind fun z21 =>
                some (cm .neq (z20.length : Int) (z21.length : Int))
          else
            some false).bind fun x18 =>
            jp (fun (x24 : Int) =>
              jp (fun (x28 : (List Int) × Int) =>
                (m_tree_Diff a0 a1).bind fun v30 =>
                  ((m_ref_Is v30.2.2 x24).bind fun v36 =>
                    bif v36 then
                      (m_ref_SameInts v30.1 x28.1).bind fun v38 =>
                        bif v38 then
                          some (cm .eql v30.2.1 x28.2)
                        else
                          some false
                    else
                      some false).bind fun x35 =>
                    some x35
                ) fun k27 =>
              bif (cm .eql x24 (0 : Int)) then
                (m_ref_Differs a0 a1).bind fun v29 =>
                  k27 (v29.1, v29.2)
              else
                k27 (([] : (List Int)), (0 : Int))
              ) fun k23 =>
            bif x18 then
              k23 (6 : Int)
            else
              k23 x13
          ) fun k12 =>
        bif (cm .eql v9 (0 : Int)) then
          (m_ref_TreeMay a1).bind fun v14 =>
            k12 v14
        else
          k12 v9
/-- slices_Clone_uint64_uint64 -/
def m_slices_Clone_uint64_uint64_nil (a0 : (Bool × (List Int))) : Option ((List Int)) :=
  bif a0.1 then
    some ([] : (List Int))
  else
    (Sw.app ([] : (List Int)) a0.2).bind fun v2 =>
      some v2
/-- slices_Clone_uint64_uint64 -/
def m_slices_Clone_uint64_uint64 (a0 : (List Int)) : Option (List Int) := Sw.app [] a0
/-- tree_Put -/
def m_tree_Put (a0 : ((List (List Int)))) (a1 : Int) (a2 : Blk) : Option (((List (List Int))) × (Option Int)) :=
  (m_tree_Check a0).bind fun v1 =>
    bif (Option.isSome v1) then
      some (([] : (List (List Int))), v1)
    else
      (bif (cm .lss a1 (0 : Int)) then
        some true
      else
        (Sw.idx a0 (0 : Int)).bind fun z7 =>
          some (cm .geq a1 (z7.length : Int))).bind fun x5 =>
        bif x5 then
          some (([] : (List (List Int))), (some (1 : Int)))
        else
          lp (β := (List (List Int))) (fun (s19 : Int × (List (List Int))) =>
            bif (cm .lss s19.1 (a0.length : Int)) then
              (Sw.idx a0 s19.1).bind fun z27 =>
                (m_slices_Clone_uint64_uint64 z27).bind fun v28 =>
                  (Sw.app s19.2 [v28]).bind fun v29 =>
                    some (.next ((ar .add .i64 s19.1 (1 : Int)), v29))
            else
              some (.done (.brk s19.2))
            ) ((0 : Int), ([] : (List (List Int)))) fun (x25 : (List (List Int))) =>
          (m_tree_leaf a2).bind fun v30 =>
            lp (β := (List (List Int))) (fun (s43 : Int × Int × Int × (List (List Int))) =>
              bif (cm .lss s43.2.2.1 (x25.length : Int)) then
                (Sw.idx s43.2.2.2 s43.2.2.1).bind fun z52 =>
                  (Sw.idx z52 s43.1).bind fun _ =>
                    (Sw.sub (List.set z52 (Int.toNat s43.1) s43.2.1) (ar .mul .i64 (ar .quo .i64 s43.1 (4 : Int)) (4 : Int)) (min ((List.set z52 (Int.toNat s43.1) s43.2.1).length : Int) (ar .add .i64 (ar .mul .i64 (ar .quo .i64 s43.1 (4 : Int)) (4 : Int)) (4 : Int)))).bind fun v54 =>
                      (m_tree_node v54).bind fun v55 =>
                        some (.next ((ar .quo .i64 s43.1 (4 : Int)), v55, (ar .add .i64 s43.2.2.1 (1 : Int)), List.set s43.2.2.2 (Int.toNat s43.2.2.1) (List.set z52 (Int.toNat s43.1) s43.2.1)))
              else
                some (.done (.brk s43.2.2.2))
              ) (a1, v30, (0 : Int), x25) fun (x50 : (List (List Int))) =>
            some (x50, (none : Option Int))
/-- law_TreePuts -/
def m_law_TreePuts (a0 : ((List (List Int)))) (a1 : Int) (a2 : Blk) : Option (Bool) :=
  (m_law_hugeTree a0).bind fun v1 =>
    bif v1 then
      some true
    else
      (m_ref_TreeMay a0).bind fun v3 =>
        (m_tree_Check a0).bind fun v4 =>
          (m_ref_Is v4 v3).bind fun v5 =>
            bif (!v5) then
              some false
            else
              (m_tree_Put a0 a1 a2).bind fun v7 =>
                (bif (cm .eql v3 (0 : Int)) then
                  bif (cm .lss a1 (0 : Int)) then
                    some true
                  else
                    (Sw.idx a0 (0 : Int)).bind fun z14 =>
                      some (cm .geq a1 (z14.length : Int))
                else
                  some false).bind fun x11 =>
                  jp (fun (x17 : Int) =>
                    bif (cm .neq x17 (0 : Int)) then
                      ((m_ref_Is v7.2 x17).bind fun v22 =>
                        bif v22 then
                          some (cm .eql (v7.1.length : Int) (0 : Int))
                        else
                          some false).bind fun x21 =>
                        some x21
                    else
                      (Sw.idx a0 (0 : Int)).bind fun z24 =>
                        (Sw.app ([] : (List Int)) z24).bind fun v25 =>
                          (m_ref_TreeOf ([a2] : (List Blk))).bind fun v26 =>
                            (Sw.idx v26 (0 : Int)).bind fun z27 =>
                              (Sw.idx z27 (0 : Int)).bind fun z28 =>
                                (Sw.idx v25 a1).bind fun _ =>
                                  (bif (Option.isNone v7.2) then
                                    bif (cm .eql (v7.1.length : Int) (a0.length : Int)) then
                                      (Sw.idx v7.1 (0 : Int)).bind fun z39 =>
                                        (m_ref_SameLevel z39 (List.set v25 (Int.toNat a1) z28)).bind fun v40 =>
                                          bif v40 then
                                            (m_ref_TreeMay v7.1).bind fun v42 =>
                                              some (cm .eql v42 (0 : Int))
                                          else
                                            some false
                                    else
                                      some false
                                  else
                                    some false).bind fun x36 =>
                                    some x36
                    ) fun k16 =>
                  bif x11 then
                    k16 (1 : Int)
                  else
                    k16 v3
/-- ref_Pick -/
def m_ref_Pick (a0 : Int) (a1 : Int) : Option (Int) :=
  jp (fun (x3 : Int) =>
    (nz a1).bind fun _ =>
      some (ar .rem .i64 x3 a1)
    ) fun k2 =>
  bif (cm .lss a0 (0 : Int)) then
    k2 (IntKind.wrap .i64 (0 - (ar .add .i64 a0 (1 : Int))))
  else
    k2 a0
/-- ref_Raw -/
def m_ref_Raw (a0 : (List Int)) (a1 : Int) : Option (Int) :=
  bif (cm .eql (a0.length : Int) (0 : Int)) then
    some (ar .mul .i64 a1 (31 : Int))
  else
    (nz (a0.length : Int)).bind fun _ =>
      (Sw.idx a0 (ar .rem .i64 a1 (a0.length : Int))).bind fun z3 =>
        (m_ref_Pick z3 (1000003 : Int)).bind fun v4 =>
          (nz (a0.length : Int)).bind fun _ =>
            some (ar .add .i64 v4 (ar .mul .i64 (ar .quo .i64 a1 (a0.length : Int)) (7919 : Int)))
/-- ref_BlockFrom -/
def m_ref_BlockFrom (a0 : (List Int)) (a1 : Int) : Option (Blk) :=
  (m_ref_Raw a0 a1).bind fun v1 =>
    bif (cm .eql (ar .rem .i64 v1 (3 : Int)) (0 : Int)) then
      some zblk
    else
      (Sw.idx zblk (0 : Int)).bind fun _ =>
        jp (fun (x23 : Blk) =>
          some x23
          ) fun k22 =>
        bif (cm .eql (ar .rem .i64 v1 (3 : Int)) (2 : Int)) then
          lp (β := Blk) (fun (s32 : Int × Blk) =>
            bif (cm .lss s32.1 (8 : Int)) then
              (m_ref_Raw a0 (ar .add .i64 a1 s32.1)).bind fun v39 =>
                (Sw.idx s32.2 s32.1).bind fun _ =>
                  some (.next ((ar .add .i64 s32.1 (1 : Int)), (List.set s32.2 (Int.toNat s32.1) (IntKind.wrap .u8 (ar .quo .i64 v39 (7 : Int))))))
            else
              some (.done (.brk s32.2))
            ) ((1 : Int), (List.set zblk (Int.toNat (0 : Int)) (IntKind.wrap .u8 (ar .add .i64 (1 : Int) (ar .rem .i64 (ar .quo .i64 v1 (3 : Int)) (5 : Int)))))) fun (x37 : Blk) =>
          k22 x37
        else
          k22 (List.set zblk (Int.toNat (0 : Int)) (IntKind.wrap .u8 (ar .add .i64 (1 : Int) (ar .rem .i64 (ar .quo .i64 v1 (3 : Int)) (5 : Int)))))
/-- ref_BlocksFrom -/
def m_ref_BlocksFrom (a0 : (List Int)) (a1 : Int) (a2 : Int) : Option ((List Blk)) :=
  lp (β := (List Blk)) (fun (s9 : Int × (List Blk)) =>
    bif (cm .lss s9.1 a2) then
      (m_ref_BlockFrom a0 (ar .add .i64 a1 (ar .mul .i64 (9 : Int) s9.1))).bind fun v16 =>
        (Sw.app s9.2 ([v16] : (List Blk))).bind fun v17 =>
          some (.next ((ar .add .i64 s9.1 (1 : Int)), v17))
    else
      some (.done (.brk s9.2))
    ) ((0 : Int), ([] : (List Blk))) fun (x14 : (List Blk)) =>
  some x14
/-- ref_OwnBlocks -/
def m_ref_OwnBlocks (a0 : (List Blk)) : Option ((List Blk)) :=
  (Sw.app ([] : (List Blk)) a0).bind fun v1 =>
    some v1
/-- top_clash -/
def m_top_clash (a0 : ((List (List Int)))) (a1 : ((List (List Int)))) (a2 : (List Blk)) (a3 : (List Blk)) : Option (Bool) :=
  lp (β := Unit) (fun (s1235 : Int) =>
    bif (cm .lss s1235 (a0.length : Int)) then
      lp (β := Unit) (fun (s2161 : Int) =>
        ((Sw.idx a0 s1235).bind fun z2320 =>
          bif (cm .lss s2161 (z2320.length : Int)) then
            (Sw.idx a1 s1235).bind fun z2322 =>
              some (cm .lss s2161 (z2322.length : Int))
          else
            some false).bind fun x2319 =>
          bif x2319 then
            jp (fun (_ : Unit) =>
              some (.next (ar .add .i64 s2161 (1 : Int)))
              ) fun k2395 =>
            (Sw.idx a0 s1235).bind fun z2397 =>
              (Sw.idx z2397 s2161).bind fun z2398 =>
                (Sw.idx a1 s1235).bind fun z2399 =>
                  (Sw.idx z2399 s2161).bind fun z2400 =>
                    bif (cm .neq z2398 z2400) then
                      k2395 ()
                    else
                      (bif (cm .eql s1235 (0 : Int)) then
                        (Sw.idx a2 s2161).bind fun z2407 =>
                          (Sw.idx a3 s2161).bind fun z2408 =>
                            some (!decide (z2407 = z2408))
                      else
                        some false).bind fun x2405 =>
                        bif x2405 then
                          some (.done (.ret (.done (.ret true))))
                        else
                          lp (β := Unit) (fun (s2438 : Int) =>
                            (bif (cm .gtr s1235 (0 : Int)) then
                              bif (cm .lss s2438 (ar .add .i64 (ar .mul .i64 s2161 (4 : Int)) (4 : Int))) then
                                (Sw.idx a0 (ar .sub .i64 s1235 (1 : Int))).bind fun z2460 =>
                                  some (cm .lss s2438 (z2460.length : Int))
                              else
                                some false
                            else
                              some false).bind fun x2457 =>
                              bif x2457 then
                                (Sw.idx a0 (ar .sub .i64 s1235 (1 : Int))).bind fun z2462 =>
                                  (Sw.idx z2462 s2438).bind fun z2463 =>
                                    (Sw.idx a1 (ar .sub .i64 s1235 (1 : Int))).bind fun z2464 =>
                                      (Sw.idx z2464 s2438).bind fun z2465 =>
                                        bif (cm .neq z2463 z2465) then
                                          some (.done (.ret (.done (.ret (.done (.ret true))))))
                                        else
                                          some (.next (ar .add .i64 s2438 (1 : Int)))
                              else
                                some (.done (.brk ()))
                            ) (ar .mul .i64 s2161 (4 : Int)) fun (_ : Unit) =>
                          k2395 ()
          else
            some (.done (.brk ()))
        ) (0 : Int) fun (_ : Unit) =>
      some (.next (ar .add .i64 s1235 (1 : Int)))
    else
      some (.done (.brk ()))
    ) (0 : Int) fun (_ : Unit) =>
  some false
/-- top_TopDiff -/
def m_top_TopDiff (a0 : (List Int)) (a1 : Int) (a2 : Int) (a3 : Int) : Option (Bool) :=
  bif (cm .gtr (a0.length : Int) (128 : Int)) then
    some true
  else
    (m_ref_Pick a1 (32 : Int)).bind fun v2 =>
      (m_ref_Pick a2 (100 : Int)).bind fun v3 =>
        (m_ref_BlocksFrom a0 v3 (ar .add .i64 (1 : Int) v2)).bind fun v4 =>
          (m_ref_OwnBlocks v4).bind fun v5 =>
            lp (β := (List Blk)) (fun (s20 : Int × (List Blk)) =>
              (m_ref_Pick a3 (8 : Int)).bind fun v29 =>
                bif (cm .lss s20.1 v29) then
                  (m_ref_Raw a0 (ar .add .i64 s20.1 (3 : Int))).bind fun v31 =>
                    (m_ref_Pick v31 (ar .add .i64 (1 : Int) v2)).bind fun v32 =>
                      (m_ref_BlockFrom a0 (ar .add .i64 s20.1 (5 : Int))).bind fun v33 =>
                        (Sw.idx s20.2 v32).bind fun _ =>
                          some (.next ((ar .add .i64 s20.1 (1 : Int)), (List.set s20.2 (Int.toNat v32) v33)))
                else
                  some (.done (.brk s20.2))
              ) ((0 : Int), v5) fun (x28 : (List Blk)) =>
            (m_tree_Of v4).bind fun v35 =>
              (m_tree_Of x28).bind fun v37 =>
                (bif (Option.isSome v35.2) then
                  some true
                else
                  bif (Option.isSome v37.2) then
                    some true
                  else
                    bif (cm .eql (v35.1.length : Int) (0 : Int)) then
                      some true
                    else
                      some (cm .neq (v35.1.length : Int) (v37.1.length : Int))).bind fun x41 =>
                  bif x41 then
                    some false
                  else
                    (m_tree_Diff v35.1 v37.1).bind fun v46 =>
                      (bif (Option.isSome v46.2.2) then
                        some true
                      else
                        bif (cm .lss v46.2.1 (1 : Int)) then
                          some true
                        else
                          some (cm .gtr v46.2.1 (ar .add .i64 (ar .mul .i64 (ar .mul .i64 (v46.1.length : Int) (4 : Int)) (v35.1.length : Int)) (1 : Int)))).bind fun x49 =>
                        bif x49 then
                          some false
                        else
                          lp (β := Int) (fun (s137 : Int × Int) =>
                            bif (cm .lss s137.2 (ar .add .i64 (1 : Int) v2)) then
                              jp (fun (x202 : Int) =>
                                some (.next (x202, (ar .add .i64 s137.2 (1 : Int))))
                                ) fun k201 =>
                              (bif (cm .lss s137.1 (v46.1.length : Int)) then
                                (Sw.idx v46.1 s137.1).bind fun z207 =>
                                  some (cm .eql z207 s137.2)
                              else
                                some false).bind fun x205 =>
                                bif x205 then
                                  (Sw.idx v4 s137.2).bind fun z209 =>
                                    (Sw.idx x28 s137.2).bind fun z210 =>
                                      bif (decide (z209 = z210)) then
                                        some (.done (.ret false))
                                      else
                                        k201 (ar .add .i64 s137.1 (1 : Int))
                                else
                                  ((Sw.idx v4 s137.2).bind fun z217 =>
                                    (Sw.idx x28 s137.2).bind fun z218 =>
                                      bif (!decide (z217 = z218)) then
                                        (m_top_clash v35.1 v37.1 v4 x28).bind fun v220 =>
                                          some (!v220)
                                      else
                                        some false).bind fun x216 =>
                                    bif x216 then
                                      some (.done (.ret false))
                                    else
                                      k201 s137.1
                            else
                              some (.done (.brk s137.1))
                            ) ((0 : Int), (0 : Int)) fun (x180 : Int) =>
                          some (cm .eql x180 (v46.1.length : Int))
end Go.Mo
