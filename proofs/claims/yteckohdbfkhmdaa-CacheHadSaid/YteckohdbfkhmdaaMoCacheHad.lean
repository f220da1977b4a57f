/- What the functions that this law reaches come to, as plain functions. Conditions: none. -/
import Derived.Test.YteckohdbfkhmdaaSwB
namespace Go.Mo
open Go Go.Sw
abbrev Blk := List Int
abbrev eBlk : Enc Blk := Enc.arr 8 (Enc.int .u8)
def zblk : Blk := List.replicate 8 0
/-- ref_First -/
def m_ref_First (a0 : (List Blk)) (a1 : Blk) : Option (Int) :=
  lp (β := Unit) (fun (s9 : Int) =>
    bif (cm .lss s9 (a0.length : Int)) then
      (Sw.idx a0 s9).bind fun z16 =>
        bif (decide (z16 = a1)) then
          some (.done (.ret s9))
        else
          some (.next (ar .add .i64 s9 (1 : Int)))
    else
      some (.done (.brk ()))
    ) (0 : Int) fun (_ : Unit) =>
  some (-1 : Int)
/-- ref_HadMay -/
def m_ref_HadMay (a0 : (List Blk)) : Option (Int) :=
  bif (cm .gtr (a0.length : Int) (8 : Int)) then
    some (2 : Int)
  else
    lp (β := Unit) (fun (s12 : Int) =>
      bif (cm .lss s12 (a0.length : Int)) then
        (Sw.idx a0 s12).bind fun z20 =>
          (m_ref_First a0 z20).bind fun v21 =>
            bif (cm .lss v21 s12) then
              some (.done (.ret (3 : Int)))
            else
              some (.next (ar .add .i64 s12 (1 : Int)))
      else
        some (.done (.brk ()))
      ) (0 : Int) fun (_ : Unit) =>
    some (0 : Int)
/-- ref_Touched -/
def m_ref_Touched (a0 : (List Blk)) (a1 : Blk) : Option ((List Blk)) :=
  lp (β := (List Blk)) (fun (s19 : Int × (List Blk)) =>
    (bif (cm .lss s19.1 (a0.length : Int)) then
      some (cm .lss (s19.2.length : Int) (8 : Int))
    else
      some false).bind fun x31 =>
      bif x31 then
        (Sw.idx a0 s19.1).bind fun z34 =>
          bif (!decide (z34 = a1)) then
            (Sw.idx a0 s19.1).bind fun z36 =>
              (Sw.app s19.2 ([z36] : (List Blk))).bind fun v37 =>
                some (.next ((ar .add .i64 s19.1 (1 : Int)), v37))
          else
            some (.next ((ar .add .i64 s19.1 (1 : Int)), s19.2))
      else
        some (.done (.brk s19.2))
    ) ((0 : Int), ([a1] : (List Blk))) fun (x29 : (List Blk)) =>
  some x29
/-- cache_Check -/
def m_cache_Check (a0 : (List Blk)) : Option ((Option Int)) :=
  bif (cm .gtr (a0.length : Int) (8 : Int)) then
    some (some (2 : Int))
  else
    lp (β := Unit) (fun (s12 : Int × (List (Blk × Bool))) =>
      bif (cm .lss s12.1 (a0.length : Int)) then
        (Sw.idx a0 s12.1).bind fun z20 =>
          bif ((mget s12.2 z20).getD false) then
            some (.done (.ret (some (3 : Int))))
          else
            (mput s12.2 z20 true).bind fun v22 =>
              some (.next ((ar .add .i64 s12.1 (1 : Int)), v22))
      else
        some (.done (.brk ()))
      ) ((0 : Int), ([] : List (Blk × Bool))) fun (_ : Unit) =>
    some (none : Option Int)
/-- cache_Touch -/
def m_cache_Touch (a0 : (List Blk)) (a1 : Blk) : Option ((List Blk) × (Option Int)) :=
  (m_cache_Check a0).bind fun v1 =>
    bif (Option.isSome v1) then
      some (([] : (List Blk)), v1)
    else
      lp (β := (List Blk)) (fun (s19 : Int × (List Blk)) =>
        bif (cm .lss s19.1 (a0.length : Int)) then
          (Sw.idx a0 s19.1).bind fun z30 =>
            (bif (!decide (z30 = a1)) then
              some (cm .lss (s19.2.length : Int) (8 : Int))
            else
              some false).bind fun x32 =>
              bif x32 then
                (Sw.app s19.2 ([z30] : (List Blk))).bind fun v35 =>
                  some (.next ((ar .add .i64 s19.1 (1 : Int)), v35))
              else
                some (.next ((ar .add .i64 s19.1 (1 : Int)), s19.2))
        else
          some (.done (.brk s19.2))
        ) ((0 : Int), ([a1] : (List Blk))) fun (x28 : (List Blk)) =>
      some (x28, (none : Option Int))
/-- ref_Is -/
def m_ref_Is (a0 : (Option Int)) (a1 : Int) : Option (Bool) :=
  bif (Option.isNone a0) then
    some (cm .eql a1 (0 : Int))
  else
    (bif (cm .neq a1 (0 : Int)) then
      some (a0 == (some a1))
    else
      some false).bind fun x3 =>
      some x3
/-- ref_SameBlocks -/
def m_ref_SameBlocks (a0 : (List Blk)) (a1 : (List Blk)) : Option (Bool) :=
  bif (cm .neq (a0.length : Int) (a1.length : Int)) then
    some false
  else
    lp (β := Unit) (fun (s12 : Int) =>
      bif (cm .lss s12 (a0.length : Int)) then
        (Sw.idx a0 s12).bind fun z20 =>
          (Sw.idx a1 s12).bind fun z21 =>
            bif (!decide (z20 = z21)) then
              some (.done (.ret false))
            else
              some (.next (ar .add .i64 s12 (1 : Int)))
      else
        some (.done (.brk ()))
      ) (0 : Int) fun (_ : Unit) =>
    some true
/-- law_CacheHad -/
def m_law_CacheHad (a0 : (List Blk)) (a1 : Blk) : Option (Bool) :=
  bif (cm .gtr (a0.length : Int) (100 : Int)) then
    some true
  else
    (m_ref_HadMay a0).bind fun v2 =>
      jp (fun (x6 : (List Blk)) =>
        (m_cache_Touch a0 a1).bind fun v8 =>
          ((m_cache_Check a0).bind fun v16 =>
            (m_ref_Is v16 v2).bind fun v17 =>
              bif v17 then
                (m_ref_Is v8.2 v2).bind fun v19 =>
                  bif v19 then
                    (m_ref_SameBlocks v8.1 x6).bind fun v21 =>
                      some v21
                  else
                    some false
              else
                some false).bind fun x15 =>
            some x15
        ) fun k5 =>
      bif (cm .eql v2 (0 : Int)) then
        (m_ref_Touched a0 a1).bind fun v7 =>
          k5 v7
      else
        k5 ([] : (List Blk))
end Go.Mo
