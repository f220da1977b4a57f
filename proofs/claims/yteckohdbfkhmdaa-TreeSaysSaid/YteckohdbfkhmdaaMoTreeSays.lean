/- What the functions that this law reaches come to, as plain functions. Conditions: none. -/
import Derived.Test.YteckohdbfkhmdaaSwB
namespace Go.Mo
open Go Go.Sw
abbrev Blk := List Int
abbrev eBlk : Enc Blk := Enc.arr 8 (Enc.int .u8)
def zblk : Blk := List.replicate 8 0
/-- tree_Digest -/
def m_tree_Digest (a0 : (List Int)) : Option (Int) :=
  lp (β := Int) (fun (s7 : Int × Int) =>
    bif (cm .lss s7.2 (a0.length : Int)) then
      (Sw.idx a0 s7.2).bind fun z13 =>
        some (.next ((ar .mul .u64 (ar .xor .u64 s7.1 z13) (1099511628211 : Int)), (ar .add .i64 s7.2 (1 : Int))))
    else
      some (.done (.brk s7.1))
    ) ((14695981039346656037 : Int), (0 : Int)) fun (x11 : Int) =>
  some x11
/-- ref_DigestOf -/
def m_ref_DigestOf (a0 : (List Int)) : Option (Int) :=
  lp (β := Int) (fun (s51 : Int × Int) =>
    bif (cm .lss s51.2 (a0.length : Int)) then
      lp (β := Int) (fun (s89 : Int × Int) =>
        bif (cm .lss s89.2 (256 : Int)) then
          (nz s89.2).bind fun _ =>
            (Sw.idx a0 s51.2).bind fun z99 =>
              (nz s89.2).bind fun _ =>
                bif (cm .neq (ar .rem .u64 (ar .quo .u64 (ar .rem .u64 s51.1 (256 : Int)) s89.2) (2 : Int)) (ar .rem .u64 (ar .quo .u64 z99 s89.2) (2 : Int))) then
                  some (.next ((ar .add .u64 s89.1 s89.2), (ar .mul .u64 s89.2 (2 : Int))))
                else
                  some (.next (s89.1, (ar .mul .u64 s89.2 (2 : Int))))
        else
          some (.done (.brk s89.1))
        ) ((0 : Int), (1 : Int)) fun (x96 : Int) =>
      some (.next ((ar .mul .u64 (ar .add .u64 (ar .sub .u64 s51.1 (ar .rem .u64 s51.1 (256 : Int))) x96) (1099511628211 : Int)), (ar .add .i64 s51.2 (1 : Int))))
    else
      some (.done (.brk s51.1))
    ) ((14695981039346656037 : Int), (0 : Int)) fun (x77 : Int) =>
  some x77
/-- tree_leaf -/
def m_tree_leaf (a0 : Blk) : Option (Int) :=
  (Sw.app ([(0 : Int)] : (List Int)) a0).bind fun v1 =>
    (m_tree_Digest v1).bind fun v2 =>
      some v2
/-- slices_Chunk_uint64_uint64 -/
def m_slices_Chunk_uint64_uint64 (a0 : (List Int)) (a1 : Int) : Option (((List Int) × Int)) :=
  jp (fun (_ : Unit) =>
    some (a0, a1)
    ) fun k2 =>
  bif (cm .lss a1 (1 : Int)) then
    none
  else
    k2 ()

/-- tree_node -/
def m_tree_node (a0 : (List Int)) : Option (Int) :=
  lp (β := (List Int)) (fun (s39 : Int × (List Int)) =>
    bif (cm .lss s39.1 (a0.length : Int)) then
      (Sw.idx a0 s39.1).bind fun z61 =>
        lp (β := (List Int)) (fun (s69 : Int × (List Int)) =>
          bif (cm .geq s69.1 (0 : Int)) then
            (nn s69.1).bind fun _ =>
              (Sw.app s69.2 ([(IntKind.wrap .u8 (sh .shr .u64 z61 s69.1))] : (List Int))).bind fun v77 =>
                some (.next ((ar .sub .i64 s69.1 (8 : Int)), v77))
          else
            some (.done (.brk s69.2))
          ) ((56 : Int), s39.2) fun (x74 : (List Int)) =>
        some (.next ((ar .add .i64 s39.1 (1 : Int)), x74))
    else
      some (.done (.brk s39.2))
    ) ((0 : Int), ([(1 : Int)] : (List Int))) fun (x59 : (List Int)) =>
  (m_tree_Digest x59).bind fun v78 =>
    some v78
/-- tree_above -/
def m_tree_above (a0 : (List Int)) : Option ((List Int)) :=
  (m_slices_Chunk_uint64_uint64 a0 (4 : Int)).bind fun v1 =>
    (Sw.small v1.1).bind fun _ =>
      (Sw.chkn v1.2).bind fun _ =>
        rg (δ := Empty) (fun (z3 : (List Int)) (s10 : (List Int)) =>
          (m_tree_node z3).bind fun v11 =>
            (Sw.app s10 ([v11] : (List Int))).bind fun v12 =>
              some (.next v12)
          ) (Sw.chunks (Int.toNat v1.2) v1.1) ([] : (List Int)) (fun (x13 : (List Int)) =>
          some x13
          ) fun (z : Empty) => nomatch z
/-- tree_Of -/
def m_tree_Of (a0 : (List Blk)) : Option (((List (List Int))) × (Option Int)) :=
  (bif (cm .lss (a0.length : Int) (1 : Int)) then
    some true
  else
    some (cm .gtr (a0.length : Int) (32 : Int))).bind fun x2 =>
    bif x2 then
      some (([] : (List (List Int))), (some (1 : Int)))
    else
      lp (β := (List Int)) (fun (s15 : Int × (List Int)) =>
        bif (cm .lss s15.1 (a0.length : Int)) then
          (Sw.idx a0 s15.1).bind fun z23 =>
            (m_tree_leaf z23).bind fun v24 =>
              (Sw.app s15.2 ([v24] : (List Int))).bind fun v25 =>
                some (.next ((ar .add .i64 s15.1 (1 : Int)), v25))
        else
          some (.done (.brk s15.2))
        ) ((0 : Int), ([] : (List Int))) fun (x21 : (List Int)) =>
      lp (β := (List (List Int))) (fun (s34 : (List Int) × (List (List Int))) =>
        bif (cm .gtr (s34.1.length : Int) (1 : Int)) then
          (m_tree_above s34.1).bind fun v41 =>
            (Sw.app s34.2 ([v41] : (List (List Int)))).bind fun v42 =>
              some (.next (v41, v42))
        else
          some (.done (.brk s34.2))
        ) (x21, ([x21] : (List (List Int)))) fun (x39 : (List (List Int))) =>
      some (x39, (none : Option Int))
/-- ref_above -/
def m_ref_above (a0 : (List Int)) : Option ((List Int)) :=
  lp (β := (List Int)) (fun (s211 : Int × (List Int)) =>
    bif (cm .lss s211.1 (a0.length : Int)) then
      lp (β := (List Int)) (fun (s369 : Int × (List Int)) =>
        (bif (cm .lss s369.1 (ar .add .i64 s211.1 (4 : Int))) then
          some (cm .lss s369.1 (a0.length : Int))
        else
          some false).bind fun x397 =>
          bif x397 then
            lp (β := (List Int)) (fun (s409 : Int × (List Int)) =>
              bif (cm .gtr s409.1 (0 : Int)) then
                (Sw.idx a0 s369.1).bind fun z417 =>
                  (nz s409.1).bind fun _ =>
                    (Sw.app s409.2 ([(IntKind.wrap .u8 (ar .rem .u64 (ar .quo .u64 z417 s409.1) (256 : Int)))] : (List Int))).bind fun v419 =>
                      some (.next ((ar .quo .u64 s409.1 (256 : Int)), v419))
              else
                some (.done (.brk s409.2))
              ) ((72057594037927936 : Int), s369.2) fun (x415 : (List Int)) =>
            some (.next ((ar .add .i64 s369.1 (1 : Int)), x415))
          else
            some (.done (.brk s369.2))
        ) (s211.1, ([(1 : Int)] : (List Int))) fun (x395 : (List Int)) =>
      (m_ref_DigestOf x395).bind fun v420 =>
        (Sw.app s211.2 ([v420] : (List Int))).bind fun v421 =>
          some (.next ((ar .add .i64 s211.1 (4 : Int)), v421))
    else
      some (.done (.brk s211.2))
    ) ((0 : Int), ([] : (List Int))) fun (x317 : (List Int)) =>
  some x317
/-- ref_TreeOf -/
def m_ref_TreeOf (a0 : (List Blk)) : Option (((List (List Int)))) :=
  lp (β := (List Int)) (fun (s51 : Int × (List Int)) =>
    bif (cm .lss s51.1 (a0.length : Int)) then
      lp (β := (List Int)) (fun (s89 : Int × (List Int)) =>
        bif (cm .lss s89.1 (8 : Int)) then
          (Sw.idx a0 s51.1).bind fun z97 =>
            (Sw.idx z97 s89.1).bind fun z98 =>
              (Sw.app s89.2 ([z98] : (List Int))).bind fun v99 =>
                some (.next ((ar .add .i64 s89.1 (1 : Int)), v99))
        else
          some (.done (.brk s89.2))
        ) ((0 : Int), ([(0 : Int)] : (List Int))) fun (x95 : (List Int)) =>
      (m_ref_DigestOf x95).bind fun v100 =>
        (Sw.app s51.2 ([v100] : (List Int))).bind fun v101 =>
          some (.next ((ar .add .i64 s51.1 (1 : Int)), v101))
    else
      some (.done (.brk s51.2))
    ) ((0 : Int), ([] : (List Int))) fun (x77 : (List Int)) =>
  lp (β := (List (List Int))) (fun (s110 : (List Int) × (List (List Int))) =>
    bif (cm .gtr (s110.1.length : Int) (1 : Int)) then
      (m_ref_above s110.1).bind fun v117 =>
        (Sw.app s110.2 ([v117] : (List (List Int)))).bind fun v118 =>
          some (.next (v117, v118))
    else
      some (.done (.brk s110.2))
    ) (x77, ([x77] : (List (List Int)))) fun (x115 : (List (List Int))) =>
  some x115
/-- ref_SameLevel -/
def m_ref_SameLevel (a0 : (List Int)) (a1 : (List Int)) : Option (Bool) :=
  bif (cm .neq (a0.length : Int) (a1.length : Int)) then
    some false
  else
    lp (β := Unit) (fun (s12 : Int) =>
      bif (cm .lss s12 (a0.length : Int)) then
        (Sw.idx a0 s12).bind fun z20 =>
          (Sw.idx a1 s12).bind fun z21 =>
            bif (cm .neq z20 z21) then
              some (.done (.ret false))
            else
              some (.next (ar .add .i64 s12 (1 : Int)))
      else
        some (.done (.brk ()))
      ) (0 : Int) fun (_ : Unit) =>
    some true
/-- ref_SameTree -/
def m_ref_SameTree (a0 : ((List (List Int)))) (a1 : ((List (List Int)))) : Option (Bool) :=
  bif (cm .neq (a0.length : Int) (a1.length : Int)) then
    some false
  else
    lp (β := Unit) (fun (s14 : Int) =>
      bif (cm .lss s14 (a0.length : Int)) then
        (Sw.idx a0 s14).bind fun z23 =>
          (Sw.idx a1 s14).bind fun z24 =>
            (m_ref_SameLevel z23 z24).bind fun v25 =>
              bif (!v25) then
                some (.done (.ret false))
              else
                some (.next (ar .add .i64 s14 (1 : Int)))
      else
        some (.done (.brk ()))
      ) (0 : Int) fun (_ : Unit) =>
    some true
/-- slices_Equal_uint64_uint64 -/
def m_slices_Equal_uint64_uint64 (a0 : (List Int)) (a1 : (List Int)) : Option (Bool) :=
  bif (cm .neq (a0.length : Int) (a1.length : Int)) then
    some false
  else
    lp (β := Unit) (fun (s12 : Int) =>
      bif (cm .lss s12 (a0.length : Int)) then
        (Sw.idx a0 s12).bind fun z20 =>
          (Sw.idx a1 s12).bind fun z21 =>
            bif (cm .neq z20 z21) then
              some (.done (.ret false))
            else
              some (.next (ar .add .i64 s12 (1 : Int)))
      else
        some (.done (.brk ()))
      ) (0 : Int) fun (_ : Unit) =>
    some true
/-- tree_Check -/
def m_tree_Check (a0 : ((List (List Int)))) : Option ((Option Int)) :=
  (bif (cm .eql (a0.length : Int) (0 : Int)) then
    some true
  else
    (Sw.idx a0 (0 : Int)).bind fun z7 =>
      bif (cm .lss (z7.length : Int) (1 : Int)) then
        some true
      else
        (Sw.idx a0 (0 : Int)).bind fun z9 =>
          some (cm .gtr (z9.length : Int) (32 : Int))).bind fun x5 =>
    bif x5 then
      some (some (3 : Int))
    else
      lp (β := Unit) (fun (s41 : Int) =>
        bif (cm .lss s41 (a0.length : Int)) then
          (Sw.idx a0 s41).bind fun z59 =>
            (bif (!((cm .eql s41 (ar .sub .i64 (a0.length : Int) (1 : Int))) == (cm .eql (z59.length : Int) (1 : Int)))) then
              some true
            else
              bif (!(cm .eql s41 (ar .sub .i64 (a0.length : Int) (1 : Int)))) then
                (m_tree_above z59).bind fun v68 =>
                  (Sw.idx a0 (ar .add .i64 s41 (1 : Int))).bind fun z69 =>
                    (m_slices_Equal_uint64_uint64 v68 z69).bind fun v70 =>
                      some (!v70)
              else
                some false).bind fun x65 =>
              bif x65 then
                some (.done (.ret (some (3 : Int))))
              else
                some (.next (ar .add .i64 s41 (1 : Int)))
        else
          some (.done (.brk ()))
        ) (0 : Int) fun (_ : Unit) =>
      some (none : Option Int)
/-- law_TreeSays -/
def m_law_TreeSays (a0 : (List Blk)) (a1 : (List Int)) : Option (Bool) :=
  (bif (cm .gtr (a0.length : Int) (100 : Int)) then
    some true
  else
    some (cm .gtr (a1.length : Int) (2000 : Int))).bind fun x2 =>
    bif x2 then
      some true
    else
      (m_tree_Digest a1).bind fun v5 =>
        (m_ref_DigestOf a1).bind fun v6 =>
          bif (cm .neq v5 v6) then
            some false
          else
            (m_tree_Of a0).bind fun v8 =>
              (bif (cm .lss (a0.length : Int) (1 : Int)) then
                some true
              else
                some (cm .gtr (a0.length : Int) (32 : Int))).bind fun x10 =>
                bif x10 then
                  (bif (v8.2 == (some (1 : Int))) then
                    some (cm .eql (v8.1.length : Int) (0 : Int))
                  else
                    some false).bind fun x14 =>
                    some x14
                else
                  (bif (Option.isNone v8.2) then
                    (m_ref_TreeOf a0).bind fun v23 =>
                      (m_ref_SameTree v8.1 v23).bind fun v24 =>
                        bif v24 then
                          (m_tree_Check v8.1).bind fun v26 =>
                            some (Option.isNone v26)
                        else
                          some false
                  else
                    some false).bind fun x21 =>
                    some x21
end Go.Mo
