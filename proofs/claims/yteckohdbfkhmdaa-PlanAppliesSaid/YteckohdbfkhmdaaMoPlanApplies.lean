/- What the functions that this law reaches come to, as plain functions. Conditions: none. -/
import Derived.Test.YteckohdbfkhmdaaSwB
namespace Go.Mo
open Go Go.Sw
abbrev Blk := List Int
abbrev eBlk : Enc Blk := Enc.arr 8 (Enc.int .u8)
def zblk : Blk := List.replicate 8 0
/-- ref_First -/
def m_ref_First (a0 : (List Blk)) (a1 : Blk) : Option (Int) :=
  lp (β := Unit) (fun (s9 : Int) =>
    bif (cm .lss s9 (a0.length : Int)) then
      (Sw.idx a0 s9).bind fun z16 =>
        bif (decide (z16 = a1)) then
          some (.done (.ret s9))
        else
          some (.next (ar .add .i64 s9 (1 : Int)))
    else
      some (.done (.brk ()))
    ) (0 : Int) fun (_ : Unit) =>
  some (-1 : Int)
/-- ref_HadMay -/
def m_ref_HadMay (a0 : (List Blk)) : Option (Int) :=
  bif (cm .gtr (a0.length : Int) (8 : Int)) then
    some (2 : Int)
  else
    lp (β := Unit) (fun (s12 : Int) =>
      bif (cm .lss s12 (a0.length : Int)) then
        (Sw.idx a0 s12).bind fun z20 =>
          (m_ref_First a0 z20).bind fun v21 =>
            bif (cm .lss v21 s12) then
              some (.done (.ret (3 : Int)))
            else
              some (.next (ar .add .i64 s12 (1 : Int)))
      else
        some (.done (.brk ()))
      ) (0 : Int) fun (_ : Unit) =>
    some (0 : Int)
/-- ref_PlanMay -/
def m_ref_PlanMay (a0 : (List Blk)) (a1 : (List Blk)) : Option (Int) :=
  (bif (cm .lss (a0.length : Int) (1 : Int)) then
    some true
  else
    some (cm .gtr (a0.length : Int) (32 : Int))).bind fun x2 =>
    bif x2 then
      some (1 : Int)
    else
      (m_ref_HadMay a1).bind fun v5 =>
        some v5
/-- ref_Said -/
def m_ref_Said (a0 : (Int × Int × Int × Blk)) (a1 : (List Blk)) (a2 : (List Blk)) : Option (Blk × Bool) :=
  bif (cm .eql a0.2.1 (0 : Int)) then
    some (zblk, true)
  else
    bif (cm .eql a0.2.1 (3 : Int)) then
      some (a0.2.2.2, true)
    else
      bif (cm .eql a0.2.1 (2 : Int)) then
        (bif (cm .lss a0.2.2.1 (0 : Int)) then
          some true
        else
          some (cm .geq a0.2.2.1 (a2.length : Int))).bind fun x5 =>
          bif x5 then
            some (zblk, false)
          else
            (Sw.idx a2 a0.2.2.1).bind fun z8 =>
              some (z8, true)
      else
        (bif (cm .lss a0.2.2.1 (0 : Int)) then
          some true
        else
          some (cm .geq a0.2.2.1 (a1.length : Int))).bind fun x10 =>
          bif x10 then
            some (zblk, false)
          else
            (Sw.idx a1 a0.2.2.1).bind fun z13 =>
              some (z13, true)
/-- cache_Check -/
def m_cache_Check (a0 : (List Blk)) : Option ((Option Int)) :=
  bif (cm .gtr (a0.length : Int) (8 : Int)) then
    some (some (2 : Int))
  else
    lp (β := Unit) (fun (s12 : Int × (List (Blk × Bool))) =>
      bif (cm .lss s12.1 (a0.length : Int)) then
        (Sw.idx a0 s12.1).bind fun z20 =>
          bif ((mget s12.2 z20).getD false) then
            some (.done (.ret (some (3 : Int))))
          else
            (mput s12.2 z20 true).bind fun v22 =>
              some (.next ((ar .add .i64 s12.1 (1 : Int)), v22))
      else
        some (.done (.brk ()))
      ) ((0 : Int), ([] : List (Blk × Bool))) fun (_ : Unit) =>
    some (none : Option Int)
/-- plan_checked -/
def m_plan_checked (a0 : (List Blk)) (a1 : (List Blk)) : Option ((Option Int)) :=
  (bif (cm .lss (a0.length : Int) (1 : Int)) then
    some true
  else
    some (cm .gtr (a0.length : Int) (32 : Int))).bind fun x2 =>
    bif x2 then
      some (some (1 : Int))
    else
      (m_cache_Check a1).bind fun v5 =>
        some v5
/-- plan_one -/
def m_plan_one (a0 : (List Blk)) (a1 : Int) : Option (Blk × Bool) :=
  (bif (cm .lss a1 (0 : Int)) then
    some true
  else
    some (cm .geq a1 (a0.length : Int))).bind fun x2 =>
    bif x2 then
      some (zblk, false)
    else
      (Sw.idx a0 a1).bind fun z5 =>
        some (z5, true)
/-- plan_Apply -/
def m_plan_Apply (a0 : (List (Int × Int × Int × Blk))) (a1 : (List Blk)) (a2 : (List Blk)) : Option ((List (Int × Blk)) × (List Int) × (Option Int)) :=
  (m_plan_checked a1 a2).bind fun v1 =>
    bif (Option.isSome v1) then
      some (([] : (List (Int × Blk))), ([] : (List Int)), v1)
    else
      lp (β := Unit) (fun (s25 : Int × Int) =>
        bif (cm .lss s25.2 (a0.length : Int)) then
          (Sw.idx a0 s25.2).bind fun z39 =>
            (bif (cm .leq z39.1 s25.1) then
              some true
            else
              bif (cm .geq z39.1 (a1.length : Int)) then
                some true
              else
                bif (cm .lss z39.2.1 (0 : Int)) then
                  some true
                else
                  some (cm .gtr z39.2.1 (3 : Int))).bind fun x43 =>
              bif x43 then
                some (.done (.ret (([] : (List (Int × Blk))), ([] : (List Int)), (some (1 : Int)))))
              else
                some (.next (z39.1, (ar .add .i64 s25.2 (1 : Int))))
        else
          some (.done (.brk ()))
        ) ((-1 : Int), (0 : Int)) fun (_ : Unit) =>
      lp (β := (List (Int × Blk)) × (List Int)) (fun (s88 : Int × (List (Int × Blk)) × (List Int)) =>
        bif (cm .lss s88.1 (a0.length : Int)) then
          (Sw.idx a0 s88.1).bind fun z111 =>
            bif (cm .eql z111.2.1 (1 : Int)) then
              (m_plan_one a1 z111.2.2.1).bind fun v113 =>
                bif v113.2 then
                  (Sw.app s88.2.1 ([(z111.1, v113.1)] : (List (Int × Blk)))).bind fun v115 =>
                    some (.next ((ar .add .i64 s88.1 (1 : Int)), v115, s88.2.2))
                else
                  (Sw.app s88.2.2 ([z111.1] : (List Int))).bind fun v116 =>
                    some (.next ((ar .add .i64 s88.1 (1 : Int)), s88.2.1, v116))
            else
              bif (cm .eql z111.2.1 (2 : Int)) then
                (m_plan_one a2 z111.2.2.1).bind fun v118 =>
                  bif v118.2 then
                    (Sw.app s88.2.1 ([(z111.1, v118.1)] : (List (Int × Blk)))).bind fun v120 =>
                      some (.next ((ar .add .i64 s88.1 (1 : Int)), v120, s88.2.2))
                  else
                    (Sw.app s88.2.2 ([z111.1] : (List Int))).bind fun v121 =>
                      some (.next ((ar .add .i64 s88.1 (1 : Int)), s88.2.1, v121))
              else
                bif (cm .eql z111.2.1 (3 : Int)) then
                  bif true then
                    (Sw.app s88.2.1 ([(z111.1, z111.2.2.2)] : (List (Int × Blk)))).bind fun v124 =>
                      some (.next ((ar .add .i64 s88.1 (1 : Int)), v124, s88.2.2))
                  else
                    (Sw.app s88.2.2 ([z111.1] : (List Int))).bind fun v125 =>
                      some (.next ((ar .add .i64 s88.1 (1 : Int)), s88.2.1, v125))
                else
                  bif true then
                    (Sw.app s88.2.1 ([(z111.1, zblk)] : (List (Int × Blk)))).bind fun v127 =>
                      some (.next ((ar .add .i64 s88.1 (1 : Int)), v127, s88.2.2))
                  else
                    (Sw.app s88.2.2 ([z111.1] : (List Int))).bind fun v128 =>
                      some (.next ((ar .add .i64 s88.1 (1 : Int)), s88.2.1, v128))
        else
          some (.done (.brk (s88.2.1, s88.2.2)))
        ) ((0 : Int), ([] : (List (Int × Blk))), ([] : (List Int))) fun (x109 : (List (Int × Blk)) × (List Int)) =>
      some (x109.1, x109.2, (none : Option Int))
/-- ref_Is -/
def m_ref_Is (a0 : (Option Int)) (a1 : Int) : Option (Bool) :=
  bif (Option.isNone a0) then
    some (cm .eql a1 (0 : Int))
  else
    (bif (cm .neq a1 (0 : Int)) then
      some (a0 == (some a1))
    else
      some false).bind fun x3 =>
      some x3
/-- ref_SamePuts -/
def m_ref_SamePuts (a0 : (List (Int × Blk))) (a1 : (List (Int × Blk))) : Option (Bool) :=
  bif (cm .neq (a0.length : Int) (a1.length : Int)) then
    some false
  else
    lp (β := Unit) (fun (s12 : Int) =>
      bif (cm .lss s12 (a0.length : Int)) then
        (Sw.idx a0 s12).bind fun z20 =>
          (Sw.idx a1 s12).bind fun z21 =>
            bif (!decide (z20 = z21)) then
              some (.done (.ret false))
            else
              some (.next (ar .add .i64 s12 (1 : Int)))
      else
        some (.done (.brk ()))
      ) (0 : Int) fun (_ : Unit) =>
    some true
/-- ref_SameInts -/
def m_ref_SameInts (a0 : (List Int)) (a1 : (List Int)) : Option (Bool) :=
  bif (cm .neq (a0.length : Int) (a1.length : Int)) then
    some false
  else
    lp (β := Unit) (fun (s12 : Int) =>
      bif (cm .lss s12 (a0.length : Int)) then
        (Sw.idx a0 s12).bind fun z20 =>
          (Sw.idx a1 s12).bind fun z21 =>
            bif (cm .neq z20 z21) then
              some (.done (.ret false))
            else
              some (.next (ar .add .i64 s12 (1 : Int)))
      else
        some (.done (.brk ()))
      ) (0 : Int) fun (_ : Unit) =>
    some true
/-- ref_OwnBlocks -/
def m_ref_OwnBlocks (a0 : (List Blk)) : Option ((List Blk)) :=
  (Sw.app ([] : (List Blk)) a0).bind fun v1 =>
    some v1
/-- ref_Touched -/
def m_ref_Touched (a0 : (List Blk)) (a1 : Blk) : Option ((List Blk)) :=
  lp (β := (List Blk)) (fun (s19 : Int × (List Blk)) =>
    (bif (cm .lss s19.1 (a0.length : Int)) then
      some (cm .lss (s19.2.length : Int) (8 : Int))
    else
      some false).bind fun x31 =>
      bif x31 then
        (Sw.idx a0 s19.1).bind fun z34 =>
          bif (!decide (z34 = a1)) then
            (Sw.idx a0 s19.1).bind fun z36 =>
              (Sw.app s19.2 ([z36] : (List Blk))).bind fun v37 =>
                some (.next ((ar .add .i64 s19.1 (1 : Int)), v37))
          else
            some (.next ((ar .add .i64 s19.1 (1 : Int)), s19.2))
      else
        some (.done (.brk s19.2))
    ) ((0 : Int), ([a1] : (List Blk))) fun (x29 : (List Blk)) =>
  some x29
/-- slices_Clone_api_Block_api_Block -/
def m_slices_Clone_api_Block_api_Block_nil (a0 : (Bool × (List Blk))) : Option ((List Blk)) :=
  bif a0.1 then
    some ([] : (List Blk))
  else
    (Sw.app ([] : (List Blk)) a0.2).bind fun v2 =>
      some v2
/-- slices_Clone_api_Block_api_Block -/
def m_slices_Clone_api_Block_api_Block (a0 : (List Blk)) : Option (List Blk) := Sw.app [] a0
/-- cache_Touch -/
def m_cache_Touch (a0 : (List Blk)) (a1 : Blk) : Option ((List Blk) × (Option Int)) :=
  (m_cache_Check a0).bind fun v1 =>
    bif (Option.isSome v1) then
      some (([] : (List Blk)), v1)
    else
      lp (β := (List Blk)) (fun (s19 : Int × (List Blk)) =>
        bif (cm .lss s19.1 (a0.length : Int)) then
          (Sw.idx a0 s19.1).bind fun z30 =>
            (bif (!decide (z30 = a1)) then
              some (cm .lss (s19.2.length : Int) (8 : Int))
            else
              some false).bind fun x32 =>
              bif x32 then
                (Sw.app s19.2 ([z30] : (List Blk))).bind fun v35 =>
                  some (.next ((ar .add .i64 s19.1 (1 : Int)), v35))
              else
                some (.next ((ar .add .i64 s19.1 (1 : Int)), s19.2))
        else
          some (.done (.brk s19.2))
        ) ((0 : Int), ([a1] : (List Blk))) fun (x28 : (List Blk)) =>
      some (x28, (none : Option Int))
/-- plan_Had -/
def m_plan_Had (a0 : (List Blk)) (a1 : (List (Int × Int × Int × Blk))) : Option ((List Blk) × (Option Int)) :=
  (m_cache_Check a0).bind fun v1 =>
    bif (Option.isSome v1) then
      some (([] : (List Blk)), v1)
    else
      (m_slices_Clone_api_Block_api_Block a0).bind fun v3 =>
        lp (β := (List Blk)) (fun (s15 : (List Blk) × Int) =>
          bif (cm .lss s15.2 (a1.length : Int)) then
            (Sw.idx a1 s15.2).bind fun z23 =>
              bif (cm .eql z23.2.1 (3 : Int)) then
                (m_cache_Touch s15.1 z23.2.2.2).bind fun v25 =>
                  some (.next (v25.1, (ar .add .i64 s15.2 (1 : Int))))
              else
                some (.next (s15.1, (ar .add .i64 s15.2 (1 : Int))))
          else
            some (.done (.brk s15.1))
          ) (v3, (0 : Int)) fun (x21 : (List Blk)) =>
        some (x21, (none : Option Int))
/-- ref_SameBlocks -/
def m_ref_SameBlocks (a0 : (List Blk)) (a1 : (List Blk)) : Option (Bool) :=
  bif (cm .neq (a0.length : Int) (a1.length : Int)) then
    some false
  else
    lp (β := Unit) (fun (s12 : Int) =>
      bif (cm .lss s12 (a0.length : Int)) then
        (Sw.idx a0 s12).bind fun z20 =>
          (Sw.idx a1 s12).bind fun z21 =>
            bif (!decide (z20 = z21)) then
              some (.done (.ret false))
            else
              some (.next (ar .add .i64 s12 (1 : Int)))
      else
        some (.done (.brk ()))
      ) (0 : Int) fun (_ : Unit) =>
    some true
/-- law_PlanApplies -/
def m_law_PlanApplies (a0 : (List (Int × Int × Int × Blk))) (a1 : (List Blk)) (a2 : (List Blk)) : Option (Bool) :=
  (bif (cm .gtr (a0.length : Int) (100 : Int)) then
    some true
  else
    bif (cm .gtr (a1.length : Int) (100 : Int)) then
      some true
    else
      some (cm .gtr (a2.length : Int) (100 : Int))).bind fun x3 =>
    bif x3 then
      some true
    else
      (m_ref_PlanMay a1 a2).bind fun v7 =>
        lp (β := Int) (fun (s40 : Int × Int × Int) =>
          (bif (cm .lss s40.2.2 (a0.length : Int)) then
            some (cm .eql s40.1 (0 : Int))
          else
            some false).bind fun x59 =>
            bif x59 then
              (Sw.idx a0 s40.2.2).bind fun z62 =>
                (bif (cm .leq z62.1 s40.2.1) then
                  some true
                else
                  bif (cm .geq z62.1 (a1.length : Int)) then
                    some true
                  else
                    bif (cm .lss z62.2.1 (0 : Int)) then
                      some true
                    else
                      some (cm .gtr z62.2.1 (3 : Int))).bind fun x66 =>
                  jp (fun (x72 : Int) =>
                    some (.next (x72, z62.1, (ar .add .i64 s40.2.2 (1 : Int))))
                    ) fun k71 =>
                  bif x66 then
                    k71 (1 : Int)
                  else
                    k71 s40.1
            else
              some (.done (.brk s40.1))
          ) (v7, (-1 : Int), (0 : Int)) fun (x57 : Int) =>
        lp (β := (List (Int × Blk)) × (List Int)) (fun (s97 : Int × (List (Int × Blk)) × (List Int)) =>
          (bif (cm .lss s97.1 (a0.length : Int)) then
            some (cm .eql x57 (0 : Int))
          else
            some false).bind fun x112 =>
            bif x112 then
              (Sw.idx a0 s97.1).bind fun z115 =>
                (m_ref_Said z115 a1 a2).bind fun v116 =>
                  bif v116.2 then
                    (Sw.idx a0 s97.1).bind fun z118 =>
                      (Sw.app s97.2.1 ([(z118.1, v116.1)] : (List (Int × Blk)))).bind fun v119 =>
                        some (.next ((ar .add .i64 s97.1 (1 : Int)), v119, s97.2.2))
                  else
                    (Sw.idx a0 s97.1).bind fun z120 =>
                      (Sw.app s97.2.2 ([z120.1] : (List Int))).bind fun v121 =>
                        some (.next ((ar .add .i64 s97.1 (1 : Int)), s97.2.1, v121))
            else
              some (.done (.brk (s97.2.1, s97.2.2)))
          ) ((0 : Int), ([] : (List (Int × Blk))), ([] : (List Int))) fun (x110 : (List (Int × Blk)) × (List Int)) =>
        (m_plan_Apply a0 a1 a2).bind fun v122 =>
          ((m_ref_Is v122.2.2 x57).bind fun v129 =>
            bif (!v129) then
              some true
            else
              (m_ref_SamePuts v122.1 x110.1).bind fun v131 =>
                bif (!v131) then
                  some true
                else
                  (m_ref_SameInts v122.2.1 x110.2).bind fun v133 =>
                    some (!v133)).bind fun x128 =>
            bif x128 then
              some false
            else
              (m_ref_HadMay a2).bind fun v135 =>
                jp (fun (x165 : (List Blk)) =>
                  (m_plan_Had a2 a0).bind fun v193 =>
                    ((m_ref_Is v193.2 v135).bind fun v198 =>
                      bif v198 then
                        (m_ref_SameBlocks v193.1 x165).bind fun v200 =>
                          some v200
                      else
                        some false).bind fun x197 =>
                      some x197
                  ) fun k164 =>
                bif (cm .eql v135 (0 : Int)) then
                  (m_ref_OwnBlocks a2).bind fun v166 =>
                    lp (β := (List Blk)) (fun (s180 : (List Blk) × Int) =>
                      bif (cm .lss s180.2 (a0.length : Int)) then
                        (Sw.idx a0 s180.2).bind fun z189 =>
                          bif (cm .eql z189.2.1 (3 : Int)) then
                            (Sw.idx a0 s180.2).bind fun z191 =>
                              (m_ref_Touched s180.1 z191.2.2.2).bind fun v192 =>
                                some (.next (v192, (ar .add .i64 s180.2 (1 : Int))))
                          else
                            some (.next (s180.1, (ar .add .i64 s180.2 (1 : Int))))
                      else
                        some (.done (.brk s180.1))
                      ) (v166, (0 : Int)) fun (x187 : (List Blk)) =>
                    k164 x187
                else
                  k164 ([] : (List Blk))
end Go.Mo
