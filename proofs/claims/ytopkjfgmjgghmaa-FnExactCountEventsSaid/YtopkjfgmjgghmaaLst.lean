/- Their loops over lists, without rounds. -/
import Derived.Test.YtopkjfgmjgghmaaRes
namespace Go.Pv.R
set_option linter.unusedVariables false
set_option linter.unusedSimpArgs false
theorem laws_toEventS_l3_r {N : Nat} {x0_1 : (List QIIIIE)} {k3_0_6 : (List QIIIIE) → Option Ret} {x3_2 : (List QIIIIE)} (hl : x0_1.length ≤ maxLen) {n : Nat} (hn : x0_1.length < n) : laws_toEventS_l3 N x0_1 n k3_0_6 x3_2 (0 : Int) =
    goL1 (fun (i : Nat) (x : QIIIIE) (x3_2 : (List QIIIIE)) (next : (List QIIIIE) → Option Ret) =>
        laws_toEvent N x (fun (r20_5 : QIIIIE) =>
          bif (inB (i : Int) (List.length x3_2)) then
            next (List.set x3_2 (Int.toNat (i : Int)) r20_5)
          else none)) (fun (x3_2 : (List QIIIIE)) =>
        k3_0_6 x3_2) x0_1 0 x3_2 := by
  exact range1 (f := fun n x3_2 i => laws_toEventS_l3 N x0_1 n k3_0_6 x3_2 i) (l := x0_1) (fun n i x3_2 h => by
    simp only [laws_toEventS_l3]
    rw [decide_eq_true (show (i : Int) < (x0_1.length : Int) by omega)]
    simp only [cond_true, inB_nat h, Int.toNat_natCast, getD_nat _ i h]) (fun n x3_2 => by
    simp only [laws_toEventS_l3]
    rw [decide_eq_false (by omega)]
    simp only [cond_false]) hl x0_1 0 n x3_2 rfl (by omega) hn

theorem spec_CountEvents_l3_r {x0_1 : (List QIIIIE)} {x1_2 : Int} {k3_0_7 : Int → Option Ret} {x5_3 : Int} (hl : x0_1.length ≤ maxLen) {n : Nat} (hn : x0_1.length < n) : spec_CountEvents_l3 x0_1 x1_2 n k3_0_7 x5_3 (0 : Int) =
    goL1 (fun (i : Nat) (x : QIIIIE) (x5_3 : Int) (next : Int → Option Ret) =>
        bif (x.1 == x1_2) then
          next (IntKind.wrap .i64 (x5_3 + (1 : Int)))
        else
          next x5_3) (fun (x5_3 : Int) =>
        k3_0_7 x5_3) x0_1 0 x5_3 := by
  exact range1 (f := fun n x5_3 i => spec_CountEvents_l3 x0_1 x1_2 n k3_0_7 x5_3 i) (l := x0_1) (fun n i x5_3 h => by
    simp only [spec_CountEvents_l3]
    rw [decide_eq_true (show (i : Int) < (x0_1.length : Int) by omega)]
    simp only [cond_true, inB_nat h, Int.toNat_natCast, getD_nat _ i h]) (fun n x5_3 => by
    simp only [spec_CountEvents_l3]
    rw [decide_eq_false (by omega)]
    simp only [cond_false]) hl x0_1 0 n x5_3 rfl (by omega) hn

theorem impl_CountEvents_l3_r {x1_1 : Int} {x8_3 : (List QIIIIE)} {k3_0_8 : Int → Option Ret} {x5_2 : Int} (hl : x8_3.length ≤ maxLen) {n : Nat} (hn : x8_3.length < n) : impl_CountEvents_l3 x1_1 x8_3 (List.length x8_3 : Int) n k3_0_8 x5_2 (0 : Int) =
    goL1 (fun (i : Nat) (x : QIIIIE) (x5_2 : Int) (next : Int → Option Ret) =>
        bif (x.1 == x1_1) then
          next (IntKind.wrap .i64 (x5_2 + (1 : Int)))
        else
          next x5_2) (fun (x5_2 : Int) =>
        k3_0_8 x5_2) x8_3 0 x5_2 := by
  exact range1 (f := fun n x5_2 i => impl_CountEvents_l3 x1_1 x8_3 (List.length x8_3 : Int) n k3_0_8 x5_2 i) (l := x8_3) (fun n i x5_2 h => by
    simp only [impl_CountEvents_l3]
    rw [decide_eq_true (show (i : Int) < (x8_3.length : Int) by omega)]
    simp only [cond_true, inB_nat h, Int.toNat_natCast, getD_nat _ i h]) (fun n x5_2 => by
    simp only [impl_CountEvents_l3]
    rw [decide_eq_false (by omega)]
    simp only [cond_false]) hl x8_3 0 n x5_2 rfl (by omega) hn

theorem laws_eqEventS_l4_r {N : Nat} {x0_1 : (List QIIIIE)} {x1_2 : (List QIIIIE)} {k4_0_6 : Option Ret} {k4_1_7 : Bool → Option Ret} (hl : x0_1.length ≤ maxLen) {n : Nat} (hn : x0_1.length < n) : laws_eqEventS_l4 N x0_1 x1_2 n k4_0_6 k4_1_7 (0 : Int) =
    goL (fun (i : Nat) (x : QIIIIE) (next : Option Ret) =>
        bif (inB (i : Int) (List.length x1_2)) then
          laws_eqEvent N x (List.getD x1_2 (Int.toNat (i : Int)) zQIIIIE) (fun (r25_5 : Bool) =>
            bif (!r25_5) then
              k4_1_7 false
            else
              next)
        else none) (
        k4_0_6) x0_1 0 := by
  exact range0 (f := fun n i => laws_eqEventS_l4 N x0_1 x1_2 n k4_0_6 k4_1_7 i) (l := x0_1) (fun n i h => by
    simp only [laws_eqEventS_l4]
    rw [decide_eq_true (show (i : Int) < (x0_1.length : Int) by omega)]
    simp only [cond_true, inB_nat h, Int.toNat_natCast, getD_nat _ i h]) (fun n => by
    simp only [laws_eqEventS_l4]
    rw [decide_eq_false (by omega)]
    simp only [cond_false]) hl x0_1 0 n rfl (by omega) hn

theorem laws_toLineS_l3_r {N : Nat} {x0_1 : (List QIIIIE)} {k3_0_6 : (List QIIIIE) → Option Ret} {x3_2 : (List QIIIIE)} (hl : x0_1.length ≤ maxLen) {n : Nat} (hn : x0_1.length < n) : laws_toLineS_l3 N x0_1 n k3_0_6 x3_2 (0 : Int) =
    goL1 (fun (i : Nat) (x : QIIIIE) (x3_2 : (List QIIIIE)) (next : (List QIIIIE) → Option Ret) =>
        laws_toLine N x (fun (r20_5 : QIIIIE) =>
          bif (inB (i : Int) (List.length x3_2)) then
            next (List.set x3_2 (Int.toNat (i : Int)) r20_5)
          else none)) (fun (x3_2 : (List QIIIIE)) =>
        k3_0_6 x3_2) x0_1 0 x3_2 := by
  exact range1 (f := fun n x3_2 i => laws_toLineS_l3 N x0_1 n k3_0_6 x3_2 i) (l := x0_1) (fun n i x3_2 h => by
    simp only [laws_toLineS_l3]
    rw [decide_eq_true (show (i : Int) < (x0_1.length : Int) by omega)]
    simp only [cond_true, inB_nat h, Int.toNat_natCast, getD_nat _ i h]) (fun n x3_2 => by
    simp only [laws_toLineS_l3]
    rw [decide_eq_false (by omega)]
    simp only [cond_false]) hl x0_1 0 n x3_2 rfl (by omega) hn

theorem spec_CountWhat_l3_r {x0_1 : (List QIIIIE)} {x1_2 : Int} {k3_0_7 : Int → Option Ret} {x5_3 : Int} (hl : x0_1.length ≤ maxLen) {n : Nat} (hn : x0_1.length < n) : spec_CountWhat_l3 x0_1 x1_2 n k3_0_7 x5_3 (0 : Int) =
    goL1 (fun (i : Nat) (x : QIIIIE) (x5_3 : Int) (next : Int → Option Ret) =>
        bif (x.2.1 == x1_2) then
          next (IntKind.wrap .i64 (x5_3 + (1 : Int)))
        else
          next x5_3) (fun (x5_3 : Int) =>
        k3_0_7 x5_3) x0_1 0 x5_3 := by
  exact range1 (f := fun n x5_3 i => spec_CountWhat_l3 x0_1 x1_2 n k3_0_7 x5_3 i) (l := x0_1) (fun n i x5_3 h => by
    simp only [spec_CountWhat_l3]
    rw [decide_eq_true (show (i : Int) < (x0_1.length : Int) by omega)]
    simp only [cond_true, inB_nat h, Int.toNat_natCast, getD_nat _ i h]) (fun n x5_3 => by
    simp only [spec_CountWhat_l3]
    rw [decide_eq_false (by omega)]
    simp only [cond_false]) hl x0_1 0 n x5_3 rfl (by omega) hn

theorem impl_CountWhat_l3_r {x1_1 : Int} {x8_3 : (List QIIIIE)} {k3_0_8 : Int → Option Ret} {x5_2 : Int} (hl : x8_3.length ≤ maxLen) {n : Nat} (hn : x8_3.length < n) : impl_CountWhat_l3 x1_1 x8_3 (List.length x8_3 : Int) n k3_0_8 x5_2 (0 : Int) =
    goL1 (fun (i : Nat) (x : QIIIIE) (x5_2 : Int) (next : Int → Option Ret) =>
        bif (x.2.1 == x1_1) then
          next (IntKind.wrap .i64 (x5_2 + (1 : Int)))
        else
          next x5_2) (fun (x5_2 : Int) =>
        k3_0_8 x5_2) x8_3 0 x5_2 := by
  exact range1 (f := fun n x5_2 i => impl_CountWhat_l3 x1_1 x8_3 (List.length x8_3 : Int) n k3_0_8 x5_2 i) (l := x8_3) (fun n i x5_2 h => by
    simp only [impl_CountWhat_l3]
    rw [decide_eq_true (show (i : Int) < (x8_3.length : Int) by omega)]
    simp only [cond_true, inB_nat h, Int.toNat_natCast, getD_nat _ i h]) (fun n x5_2 => by
    simp only [impl_CountWhat_l3]
    rw [decide_eq_false (by omega)]
    simp only [cond_false]) hl x8_3 0 n x5_2 rfl (by omega) hn

theorem laws_eqLineS_l4_r {N : Nat} {x0_1 : (List QIIIIE)} {x1_2 : (List QIIIIE)} {k4_0_6 : Option Ret} {k4_1_7 : Bool → Option Ret} (hl : x0_1.length ≤ maxLen) {n : Nat} (hn : x0_1.length < n) : laws_eqLineS_l4 N x0_1 x1_2 n k4_0_6 k4_1_7 (0 : Int) =
    goL (fun (i : Nat) (x : QIIIIE) (next : Option Ret) =>
        bif (inB (i : Int) (List.length x1_2)) then
          laws_eqLine N x (List.getD x1_2 (Int.toNat (i : Int)) zQIIIIE) (fun (r25_5 : Bool) =>
            bif (!r25_5) then
              k4_1_7 false
            else
              next)
        else none) (
        k4_0_6) x0_1 0 := by
  exact range0 (f := fun n i => laws_eqLineS_l4 N x0_1 x1_2 n k4_0_6 k4_1_7 i) (l := x0_1) (fun n i h => by
    simp only [laws_eqLineS_l4]
    rw [decide_eq_true (show (i : Int) < (x0_1.length : Int) by omega)]
    simp only [cond_true, inB_nat h, Int.toNat_natCast, getD_nat _ i h]) (fun n => by
    simp only [laws_eqLineS_l4]
    rw [decide_eq_false (by omega)]
    simp only [cond_false]) hl x0_1 0 n rfl (by omega) hn

theorem laws_toIntS_l3_r {x0_1 : (List Int)} {k3_0_5 : (List Int) → Option Ret} {x3_2 : (List Int)} (hl : x0_1.length ≤ maxLen) {n : Nat} (hn : x0_1.length < n) : laws_toIntS_l3 x0_1 n k3_0_5 x3_2 (0 : Int) =
    goL1 (fun (i : Nat) (x : Int) (x3_2 : (List Int)) (next : (List Int) → Option Ret) =>
        bif (inB (i : Int) (List.length x3_2)) then
          next (List.set x3_2 (Int.toNat (i : Int)) x)
        else none) (fun (x3_2 : (List Int)) =>
        k3_0_5 x3_2) x0_1 0 x3_2 := by
  exact range1 (f := fun n x3_2 i => laws_toIntS_l3 x0_1 n k3_0_5 x3_2 i) (l := x0_1) (fun n i x3_2 h => by
    simp only [laws_toIntS_l3]
    rw [decide_eq_true (show (i : Int) < (x0_1.length : Int) by omega)]
    simp only [cond_true, inB_nat h, Int.toNat_natCast, getD_nat _ i h]) (fun n x3_2 => by
    simp only [laws_toIntS_l3]
    rw [decide_eq_false (by omega)]
    simp only [cond_false]) hl x0_1 0 n x3_2 rfl (by omega) hn

theorem laws_eqIntS_l4_r {x0_1 : (List Int)} {x1_2 : (List Int)} {k4_0_5 : Option Ret} {k4_1_6 : Bool → Option Ret} (hl : x0_1.length ≤ maxLen) {n : Nat} (hn : x0_1.length < n) : laws_eqIntS_l4 x0_1 x1_2 n k4_0_5 k4_1_6 (0 : Int) =
    goL (fun (i : Nat) (x : Int) (next : Option Ret) =>
        bif (inB (i : Int) (List.length x1_2)) then
          bif (x != (List.getD x1_2 (Int.toNat (i : Int)) (0 : Int))) then
            k4_1_6 false
          else
            next
        else none) (
        k4_0_5) x0_1 0 := by
  exact range0 (f := fun n i => laws_eqIntS_l4 x0_1 x1_2 n k4_0_5 k4_1_6 i) (l := x0_1) (fun n i h => by
    simp only [laws_eqIntS_l4]
    rw [decide_eq_true (show (i : Int) < (x0_1.length : Int) by omega)]
    simp only [cond_true, inB_nat h, Int.toNat_natCast, getD_nat _ i h]) (fun n => by
    simp only [laws_eqIntS_l4]
    rw [decide_eq_false (by omega)]
    simp only [cond_false]) hl x0_1 0 n rfl (by omega) hn

theorem laws_eqIntSS_l4_r {N : Nat} {x0_1 : (List (List Int))} {x1_2 : (List (List Int))} {k4_0_6 : Option Ret} {k4_1_7 : Bool → Option Ret} (hl : x0_1.length ≤ maxLen) {n : Nat} (hn : x0_1.length < n) : laws_eqIntSS_l4 N x0_1 x1_2 n k4_0_6 k4_1_7 (0 : Int) =
    goL (fun (i : Nat) (x : (List Int)) (next : Option Ret) =>
        bif (inB (i : Int) (List.length x1_2)) then
          laws_eqIntS N x (List.getD x1_2 (Int.toNat (i : Int)) []) (fun (r25_5 : Bool) =>
            bif (!r25_5) then
              k4_1_7 false
            else
              next)
        else none) (
        k4_0_6) x0_1 0 := by
  exact range0 (f := fun n i => laws_eqIntSS_l4 N x0_1 x1_2 n k4_0_6 k4_1_7 i) (l := x0_1) (fun n i h => by
    simp only [laws_eqIntSS_l4]
    rw [decide_eq_true (show (i : Int) < (x0_1.length : Int) by omega)]
    simp only [cond_true, inB_nat h, Int.toNat_natCast, getD_nat _ i h]) (fun n => by
    simp only [laws_eqIntSS_l4]
    rw [decide_eq_false (by omega)]
    simp only [cond_false]) hl x0_1 0 n rfl (by omega) hn

theorem laws_szJudgeS_l5_r {N : Nat} {x0_1 : (List QIILIE)} {k5_0_6 : Int → Option Ret} {k5_1_7 : Int → Option Ret} {x1_2 : Int} (hl : x0_1.length ≤ maxLen) {n : Nat} (hn : x0_1.length < n) : laws_szJudgeS_l5 N x0_1 n k5_0_6 k5_1_7 x1_2 (0 : Int) =
    goL1 (fun (i : Nat) (x : QIILIE) (x1_2 : Int) (next : Int → Option Ret) =>
        laws_szJudge N x x1_2 (fun (r23_5 : Int) =>
          bif (decide (r23_5 < (0 : Int))) then
            k5_1_7 (-1 : Int)
          else
            next r23_5)) (fun (x1_2 : Int) =>
        k5_0_6 x1_2) x0_1 0 x1_2 := by
  exact range1 (f := fun n x1_2 i => laws_szJudgeS_l5 N x0_1 n k5_0_6 k5_1_7 x1_2 i) (l := x0_1) (fun n i x1_2 h => by
    simp only [laws_szJudgeS_l5]
    rw [decide_eq_true (show (i : Int) < (x0_1.length : Int) by omega)]
    simp only [cond_true, inB_nat h, Int.toNat_natCast, getD_nat _ i h]) (fun n x1_2 => by
    simp only [laws_szJudgeS_l5]
    rw [decide_eq_false (by omega)]
    simp only [cond_false]) hl x0_1 0 n x1_2 rfl (by omega) hn

theorem laws_toJudgeS_l3_r {N : Nat} {x0_1 : (List QIILIE)} {k3_0_6 : (List QIILIE) → Option Ret} {x3_2 : (List QIILIE)} (hl : x0_1.length ≤ maxLen) {n : Nat} (hn : x0_1.length < n) : laws_toJudgeS_l3 N x0_1 n k3_0_6 x3_2 (0 : Int) =
    goL1 (fun (i : Nat) (x : QIILIE) (x3_2 : (List QIILIE)) (next : (List QIILIE) → Option Ret) =>
        laws_toJudge N x (fun (r20_5 : QIILIE) =>
          bif (inB (i : Int) (List.length x3_2)) then
            next (List.set x3_2 (Int.toNat (i : Int)) r20_5)
          else none)) (fun (x3_2 : (List QIILIE)) =>
        k3_0_6 x3_2) x0_1 0 x3_2 := by
  exact range1 (f := fun n x3_2 i => laws_toJudgeS_l3 N x0_1 n k3_0_6 x3_2 i) (l := x0_1) (fun n i x3_2 h => by
    simp only [laws_toJudgeS_l3]
    rw [decide_eq_true (show (i : Int) < (x0_1.length : Int) by omega)]
    simp only [cond_true, inB_nat h, Int.toNat_natCast, getD_nat _ i h]) (fun n x3_2 => by
    simp only [laws_toJudgeS_l3]
    rw [decide_eq_false (by omega)]
    simp only [cond_false]) hl x0_1 0 n x3_2 rfl (by omega) hn

theorem spec_BusiestJudge_l3_r {x0_1 : (List QIILIE)} {k3_0_6 : Int → Option Ret} {x3_2 : Int} (hl : x0_1.length ≤ maxLen) {n : Nat} (hn : x0_1.length < n) : spec_BusiestJudge_l3 x0_1 n k3_0_6 x3_2 (0 : Int) =
    goL1 (fun (i : Nat) (x : QIILIE) (x3_2 : Int) (next : Int → Option Ret) =>
        bif (decide (x3_2 < (0 : Int))) then
          next (i : Int)
        else
          bif (inB x3_2 (List.length x0_1)) then
            bif (decide ((List.length x.2.2 : Int) > (List.length (List.getD x0_1 (Int.toNat x3_2) zQIILIE).2.2 : Int))) then
              next (i : Int)
            else
              next x3_2
          else none) (fun (x3_2 : Int) =>
        k3_0_6 x3_2) x0_1 0 x3_2 := by
  exact range1 (f := fun n x3_2 i => spec_BusiestJudge_l3 x0_1 n k3_0_6 x3_2 i) (l := x0_1) (fun n i x3_2 h => by
    simp only [spec_BusiestJudge_l3]
    rw [decide_eq_true (show (i : Int) < (x0_1.length : Int) by omega)]
    simp only [cond_true, inB_nat h, Int.toNat_natCast, getD_nat _ i h]) (fun n x3_2 => by
    simp only [spec_BusiestJudge_l3]
    rw [decide_eq_false (by omega)]
    simp only [cond_false]) hl x0_1 0 n x3_2 rfl (by omega) hn

theorem impl_BusiestJudge_l5_r {x12_2 : (List QIILIE)} {k5_0_7 : QIILIE → Option Ret} {x3_1 : QIILIE} (hl : x12_2.length ≤ maxLen) {n : Nat} (hn : x12_2.length < n) : impl_BusiestJudge_l5 x12_2 (List.length x12_2 : Int) n k5_0_7 x3_1 (0 : Int) =
    goL1 (fun (i : Nat) (x : QIILIE) (x3_1 : QIILIE) (next : QIILIE → Option Ret) =>
        bif (decide ((List.length x.2.2 : Int) > (List.length x3_1.2.2 : Int))) then
          next x
        else
          next x3_1) (fun (x3_1 : QIILIE) =>
        k5_0_7 x3_1) x12_2 0 x3_1 := by
  exact range1 (f := fun n x3_1 i => impl_BusiestJudge_l5 x12_2 (List.length x12_2 : Int) n k5_0_7 x3_1 i) (l := x12_2) (fun n i x3_1 h => by
    simp only [impl_BusiestJudge_l5]
    rw [decide_eq_true (show (i : Int) < (x12_2.length : Int) by omega)]
    simp only [cond_true, inB_nat h, Int.toNat_natCast, getD_nat _ i h]) (fun n x3_1 => by
    simp only [impl_BusiestJudge_l5]
    rw [decide_eq_false (by omega)]
    simp only [cond_false]) hl x12_2 0 n x3_1 rfl (by omega) hn

theorem laws_eqJudgeS_l4_r {N : Nat} {x0_1 : (List QIILIE)} {x1_2 : (List QIILIE)} {k4_0_6 : Option Ret} {k4_1_7 : Bool → Option Ret} (hl : x0_1.length ≤ maxLen) {n : Nat} (hn : x0_1.length < n) : laws_eqJudgeS_l4 N x0_1 x1_2 n k4_0_6 k4_1_7 (0 : Int) =
    goL (fun (i : Nat) (x : QIILIE) (next : Option Ret) =>
        bif (inB (i : Int) (List.length x1_2)) then
          laws_eqJudge N x (List.getD x1_2 (Int.toNat (i : Int)) zQIILIE) (fun (r25_5 : Bool) =>
            bif (!r25_5) then
              k4_1_7 false
            else
              next)
        else none) (
        k4_0_6) x0_1 0 := by
  exact range0 (f := fun n i => laws_eqJudgeS_l4 N x0_1 x1_2 n k4_0_6 k4_1_7 i) (l := x0_1) (fun n i h => by
    simp only [laws_eqJudgeS_l4]
    rw [decide_eq_true (show (i : Int) < (x0_1.length : Int) by omega)]
    simp only [cond_true, inB_nat h, Int.toNat_natCast, getD_nat _ i h]) (fun n => by
    simp only [laws_eqJudgeS_l4]
    rw [decide_eq_false (by omega)]
    simp only [cond_false]) hl x0_1 0 n rfl (by omega) hn

theorem spec_Hash_l3_r {N : Nat} {x0_1 : (List Int)} {k3_0_6 : Int → Option Ret} {x3_2 : Int} (hl : x0_1.length ≤ maxLen) {n : Nat} (hn : x0_1.length < n) : spec_Hash_l3 N x0_1 n k3_0_6 x3_2 (0 : Int) =
    goL1 (fun (i : Nat) (x : Int) (x3_2 : Int) (next : Int → Option Ret) =>
        spec_Mod N x (2147483647 : Int) (fun (r17_5 : Int) =>
          next (Int.tmod (IntKind.wrap .i64 ((IntKind.wrap .i64 ((IntKind.wrap .i64 (x3_2 * (1000003 : Int))) + r17_5)) + (13 : Int))) (2147483647 : Int)))) (fun (x3_2 : Int) =>
        k3_0_6 x3_2) x0_1 0 x3_2 := by
  exact range1 (f := fun n x3_2 i => spec_Hash_l3 N x0_1 n k3_0_6 x3_2 i) (l := x0_1) (fun n i x3_2 h => by
    simp only [spec_Hash_l3]
    rw [decide_eq_true (show (i : Int) < (x0_1.length : Int) by omega)]
    simp only [cond_true, inB_nat h, Int.toNat_natCast, getD_nat _ i h]) (fun n x3_2 => by
    simp only [spec_Hash_l3]
    rw [decide_eq_false (by omega)]
    simp only [cond_false]) hl x0_1 0 n x3_2 rfl (by omega) hn

theorem spec_AreMinutes_l3_r {N : Nat} {x0_1 : (List QIIIIE)} {k3_0_8 : Option Ret} {k3_1_9 : Bool → Option Ret} {x3_2 : Int} (hl : x0_1.length ≤ maxLen) {n : Nat} (hn : x0_1.length < n) : spec_AreMinutes_l3 N x0_1 n k3_0_8 k3_1_9 x3_2 (0 : Int) =
    goL1 (fun (i : Nat) (x : QIIIIE) (x3_2 : Int) (next : Int → Option Ret) =>
        bif (decide ((List.length x0_1 : Int) ≤ (200 : Int))) then
          spec_l27Seal N x3_2 x (fun (r23_5 : Int) =>
            bif (x.1 != (IntKind.wrap .i64 ((i : Int) + (1 : Int)))) then
              k3_1_9 false
            else
              spec_l1In N x.2.1 (1 : Int) (9 : Int) (fun (r32_6 : Bool) =>
                bif (!r32_6) then
                  k3_1_9 false
                else
                  spec_l1In N x.2.2.1 (0 : Int) (99 : Int) (fun (r38_7 : Bool) =>
                    bif (!r38_7) then
                      k3_1_9 false
                    else
                      bif (x.2.2.2 != r23_5) then
                        k3_1_9 false
                      else
                        next r23_5)))
        else
          k3_0_8) (fun (x3_2 : Int) =>
        k3_0_8) x0_1 0 x3_2 := by
  exact range1 (f := fun n x3_2 i => spec_AreMinutes_l3 N x0_1 n k3_0_8 k3_1_9 x3_2 i) (l := x0_1) (fun n i x3_2 h => by
    simp only [spec_AreMinutes_l3]
    rw [decide_eq_true (show (i : Int) < (x0_1.length : Int) by omega)]
    simp only [cond_true, inB_nat h, Int.toNat_natCast, getD_nat _ i h]) (fun n x3_2 => by
    simp only [spec_AreMinutes_l3]
    rw [decide_eq_false (by omega)]
    simp only [cond_false]) hl x0_1 0 n x3_2 rfl (by omega) hn

theorem spec_IsOpenIn_l3_r {x0_1 : (List QIIIIE)} {k3_0_5 : Bool → Option Ret} {x3_2 : Bool} (hl : x0_1.length ≤ maxLen) {n : Nat} (hn : x0_1.length < n) : spec_IsOpenIn_l3 x0_1 n k3_0_5 x3_2 (0 : Int) =
    goL1 (fun (i : Nat) (x : QIIIIE) (x3_2 : Bool) (next : Bool → Option Ret) =>
        bif (x.2.1 == (3 : Int)) then
          next true
        else
          bif (x.2.1 == (5 : Int)) then
            next false
          else
            next x3_2) (fun (x3_2 : Bool) =>
        k3_0_5 x3_2) x0_1 0 x3_2 := by
  exact range1 (f := fun n x3_2 i => spec_IsOpenIn_l3 x0_1 n k3_0_5 x3_2 i) (l := x0_1) (fun n i x3_2 h => by
    simp only [spec_IsOpenIn_l3]
    rw [decide_eq_true (show (i : Int) < (x0_1.length : Int) by omega)]
    simp only [cond_true, inB_nat h, Int.toNat_natCast, getD_nat _ i h]) (fun n x3_2 => by
    simp only [spec_IsOpenIn_l3]
    rw [decide_eq_false (by omega)]
    simp only [cond_false]) hl x0_1 0 n x3_2 rfl (by omega) hn

theorem impl_Hash_l3_r {N : Nat} {x6_2 : (List Int)} {k3_0_7 : Int → Option Ret} {x3_1 : Int} (hl : x6_2.length ≤ maxLen) {n : Nat} (hn : x6_2.length < n) : impl_Hash_l3 N x6_2 (List.length x6_2 : Int) n k3_0_7 x3_1 (0 : Int) =
    goL1 (fun (i : Nat) (x : Int) (x3_1 : Int) (next : Int → Option Ret) =>
        impl_fold N x3_1 x (fun (r14_6 : Int) =>
          next r14_6)) (fun (x3_1 : Int) =>
        k3_0_7 x3_1) x6_2 0 x3_1 := by
  exact range1 (f := fun n x3_1 i => impl_Hash_l3 N x6_2 (List.length x6_2 : Int) n k3_0_7 x3_1 i) (l := x6_2) (fun n i x3_1 h => by
    simp only [impl_Hash_l3]
    rw [decide_eq_true (show (i : Int) < (x6_2.length : Int) by omega)]
    simp only [cond_true, inB_nat h, Int.toNat_natCast, getD_nat _ i h]) (fun n x3_1 => by
    simp only [impl_Hash_l3]
    rw [decide_eq_false (by omega)]
    simp only [cond_false]) hl x6_2 0 n x3_1 rfl (by omega) hn

theorem impl_AreMinutes_l5_r {N : Nat} {x9_2 : (List QIIIIE)} {k5_0_9 : Option Ret} {k5_1_10 : Bool → Option Ret} {x3_1 : Int} (hl : x9_2.length ≤ maxLen) {n : Nat} (hn : x9_2.length < n) : impl_AreMinutes_l5 N x9_2 (List.length x9_2 : Int) n k5_0_9 k5_1_10 x3_1 (0 : Int) =
    goL1 (fun (i : Nat) (x : QIIIIE) (x3_1 : Int) (next : Int → Option Ret) =>
        bif (x.1 != (IntKind.wrap .i64 ((i : Int) + (1 : Int)))) then
          k5_1_10 false
        else
          impl_InRange N x.2.1 (1 : Int) (9 : Int) (fun (r24_6 : Bool) =>
            bif (!r24_6) then
              k5_1_10 false
            else
              impl_InRange N x.2.2.1 (0 : Int) (99 : Int) (fun (r30_7 : Bool) =>
                bif (!r30_7) then
                  k5_1_10 false
                else
                  impl_lineSeal N x3_1 x (fun (r38_8 : Int) =>
                    bif (x.2.2.2 != r38_8) then
                      k5_1_10 false
                    else
                      next x.2.2.2)))) (fun (x3_1 : Int) =>
        k5_0_9) x9_2 0 x3_1 := by
  exact range1 (f := fun n x3_1 i => impl_AreMinutes_l5 N x9_2 (List.length x9_2 : Int) n k5_0_9 k5_1_10 x3_1 i) (l := x9_2) (fun n i x3_1 h => by
    simp only [impl_AreMinutes_l5]
    rw [decide_eq_true (show (i : Int) < (x9_2.length : Int) by omega)]
    simp only [cond_true, inB_nat h, Int.toNat_natCast, getD_nat _ i h]) (fun n x3_1 => by
    simp only [impl_AreMinutes_l5]
    rw [decide_eq_false (by omega)]
    simp only [cond_false]) hl x9_2 0 n x3_1 rfl (by omega) hn

theorem impl_IsOpenIn_l3_r {x0_1 : (List QIIIIE)} {x6_3 : (List QIIIIE)} {k3_0_8 : Bool → Option Ret} {x3_2 : Bool} (hl : x6_3.length ≤ maxLen) {n : Nat} (hn : x6_3.length < n) : impl_IsOpenIn_l3 x0_1 x6_3 (List.length x6_3 : Int) n k3_0_8 x3_2 (0 : Int) =
    goL1 (fun (i : Nat) (x : QIIIIE) (x3_2 : Bool) (next : Bool → Option Ret) =>
        bif (x.2.1 == (3 : Int)) then
          next (x.2.1 == (3 : Int))
        else
          bif (x.2.1 == (5 : Int)) then
            next (x.2.1 == (3 : Int))
          else
            next x3_2) (fun (x3_2 : Bool) =>
        k3_0_8 x3_2) x6_3 0 x3_2 := by
  exact range1 (f := fun n x3_2 i => impl_IsOpenIn_l3 x0_1 x6_3 (List.length x6_3 : Int) n k3_0_8 x3_2 i) (l := x6_3) (fun n i x3_2 h => by
    simp only [impl_IsOpenIn_l3]
    rw [decide_eq_true (show (i : Int) < (x6_3.length : Int) by omega)]
    simp only [cond_true, inB_nat h, Int.toNat_natCast, getD_nat _ i h]) (fun n x3_2 => by
    simp only [impl_IsOpenIn_l3]
    rw [decide_eq_false (by omega)]
    simp only [cond_false]) hl x6_3 0 n x3_2 rfl (by omega) hn

theorem spec_LedBy_l3_r {N : Nat} {x0_1 : (List QIIIIE)} {x1_2 : Int} {k3_0_8 : Int → Option Ret} {x5_3 : Int} (hl : x0_1.length ≤ maxLen) {n : Nat} (hn : x0_1.length < n) : spec_LedBy_l3 N x0_1 x1_2 n k3_0_8 x5_3 (0 : Int) =
    goL1 (fun (i : Nat) (x : QIIIIE) (x5_3 : Int) (next : Int → Option Ret) =>
        spec_AreMinutes N x0_1 (fun (r13_6 : Bool) =>
          bif r13_6 then
            bif (x.2.1 == (4 : Int)) then
              bif (x.2.2.1 == x1_2) then
                next (IntKind.wrap .i64 (x5_3 + (1 : Int)))
              else
                next x5_3
            else
              next x5_3
          else
            k3_0_8 x5_3)) (fun (x5_3 : Int) =>
        k3_0_8 x5_3) x0_1 0 x5_3 := by
  exact range1 (f := fun n x5_3 i => spec_LedBy_l3 N x0_1 x1_2 n k3_0_8 x5_3 i) (l := x0_1) (fun n i x5_3 h => by
    simp only [spec_LedBy_l3]
    rw [decide_eq_true (show (i : Int) < (x0_1.length : Int) by omega)]
    simp only [cond_true, inB_nat h, Int.toNat_natCast, getD_nat _ i h]) (fun n x5_3 => by
    simp only [spec_LedBy_l3]
    rw [decide_eq_false (by omega)]
    simp only [cond_false]) hl x0_1 0 n x5_3 rfl (by omega) hn

theorem impl_LedBy_l5_r {x1_2 : Int} {x12_4 : (List QIIIIE)} {k5_0_9 : Int → Option Ret} {x5_3 : Int} (hl : x12_4.length ≤ maxLen) {n : Nat} (hn : x12_4.length < n) : impl_LedBy_l5 x1_2 x12_4 (List.length x12_4 : Int) n k5_0_9 x5_3 (0 : Int) =
    goL1 (fun (i : Nat) (x : QIIIIE) (x5_3 : Int) (next : Int → Option Ret) =>
        bif (x.2.1 == (4 : Int)) then
          bif (x.2.2.1 == x1_2) then
            next (IntKind.wrap .i64 (x5_3 + (1 : Int)))
          else
            next x5_3
        else
          next x5_3) (fun (x5_3 : Int) =>
        k5_0_9 x5_3) x12_4 0 x5_3 := by
  exact range1 (f := fun n x5_3 i => impl_LedBy_l5 x1_2 x12_4 (List.length x12_4 : Int) n k5_0_9 x5_3 i) (l := x12_4) (fun n i x5_3 h => by
    simp only [impl_LedBy_l5]
    rw [decide_eq_true (show (i : Int) < (x12_4.length : Int) by omega)]
    simp only [cond_true, inB_nat h, Int.toNat_natCast, getD_nat _ i h]) (fun n x5_3 => by
    simp only [impl_LedBy_l5]
    rw [decide_eq_false (by omega)]
    simp only [cond_false]) hl x12_4 0 n x5_3 rfl (by omega) hn

theorem laws_szTeamS_l5_r {N : Nat} {x0_1 : (List QIIIIILIE)} {k5_0_6 : Int → Option Ret} {k5_1_7 : Int → Option Ret} {x1_2 : Int} (hl : x0_1.length ≤ maxLen) {n : Nat} (hn : x0_1.length < n) : laws_szTeamS_l5 N x0_1 n k5_0_6 k5_1_7 x1_2 (0 : Int) =
    goL1 (fun (i : Nat) (x : QIIIIILIE) (x1_2 : Int) (next : Int → Option Ret) =>
        laws_szTeam N x x1_2 (fun (r23_5 : Int) =>
          bif (decide (r23_5 < (0 : Int))) then
            k5_1_7 (-1 : Int)
          else
            next r23_5)) (fun (x1_2 : Int) =>
        k5_0_6 x1_2) x0_1 0 x1_2 := by
  exact range1 (f := fun n x1_2 i => laws_szTeamS_l5 N x0_1 n k5_0_6 k5_1_7 x1_2 i) (l := x0_1) (fun n i x1_2 h => by
    simp only [laws_szTeamS_l5]
    rw [decide_eq_true (show (i : Int) < (x0_1.length : Int) by omega)]
    simp only [cond_true, inB_nat h, Int.toNat_natCast, getD_nat _ i h]) (fun n x1_2 => by
    simp only [laws_szTeamS_l5]
    rw [decide_eq_false (by omega)]
    simp only [cond_false]) hl x0_1 0 n x1_2 rfl (by omega) hn

theorem laws_toTeamS_l3_r {N : Nat} {x0_1 : (List QIIIIILIE)} {k3_0_6 : (List QIIIIILIE) → Option Ret} {x3_2 : (List QIIIIILIE)} (hl : x0_1.length ≤ maxLen) {n : Nat} (hn : x0_1.length < n) : laws_toTeamS_l3 N x0_1 n k3_0_6 x3_2 (0 : Int) =
    goL1 (fun (i : Nat) (x : QIIIIILIE) (x3_2 : (List QIIIIILIE)) (next : (List QIIIIILIE) → Option Ret) =>
        laws_toTeam N x (fun (r20_5 : QIIIIILIE) =>
          bif (inB (i : Int) (List.length x3_2)) then
            next (List.set x3_2 (Int.toNat (i : Int)) r20_5)
          else none)) (fun (x3_2 : (List QIIIIILIE)) =>
        k3_0_6 x3_2) x0_1 0 x3_2 := by
  exact range1 (f := fun n x3_2 i => laws_toTeamS_l3 N x0_1 n k3_0_6 x3_2 i) (l := x0_1) (fun n i x3_2 h => by
    simp only [laws_toTeamS_l3]
    rw [decide_eq_true (show (i : Int) < (x0_1.length : Int) by omega)]
    simp only [cond_true, inB_nat h, Int.toNat_natCast, getD_nat _ i h]) (fun n x3_2 => by
    simp only [laws_toTeamS_l3]
    rw [decide_eq_false (by omega)]
    simp only [cond_false]) hl x0_1 0 n x3_2 rfl (by omega) hn

theorem spec_FindTeam_l2_r {x0_1 : (List QIIIIILIE)} {x1_2 : Int} {k2_0_5 : Option Ret} {k2_1_6 : Int → Option Ret} (hl : x0_1.length ≤ maxLen) {n : Nat} (hn : x0_1.length < n) : spec_FindTeam_l2 x0_1 x1_2 n k2_0_5 k2_1_6 (0 : Int) =
    goL (fun (i : Nat) (x : QIIIIILIE) (next : Option Ret) =>
        bif (x.1 == x1_2) then
          k2_1_6 (i : Int)
        else
          next) (
        k2_0_5) x0_1 0 := by
  exact range0 (f := fun n i => spec_FindTeam_l2 x0_1 x1_2 n k2_0_5 k2_1_6 i) (l := x0_1) (fun n i h => by
    simp only [spec_FindTeam_l2]
    rw [decide_eq_true (show (i : Int) < (x0_1.length : Int) by omega)]
    simp only [cond_true, inB_nat h, Int.toNat_natCast, getD_nat _ i h]) (fun n => by
    simp only [spec_FindTeam_l2]
    rw [decide_eq_false (by omega)]
    simp only [cond_false]) hl x0_1 0 n rfl (by omega) hn

theorem spec_l19Count_l3_r {x0_1 : (List Int)} {x1_2 : Int} {k3_0_7 : Int → Option Ret} {x5_3 : Int} (hl : x0_1.length ≤ maxLen) {n : Nat} (hn : x0_1.length < n) : spec_l19Count_l3 x0_1 x1_2 n k3_0_7 x5_3 (0 : Int) =
    goL1 (fun (i : Nat) (x : Int) (x5_3 : Int) (next : Int → Option Ret) =>
        bif (x == x1_2) then
          next (IntKind.wrap .i64 (x5_3 + (1 : Int)))
        else
          next x5_3) (fun (x5_3 : Int) =>
        k3_0_7 x5_3) x0_1 0 x5_3 := by
  exact range1 (f := fun n x5_3 i => spec_l19Count_l3 x0_1 x1_2 n k3_0_7 x5_3 i) (l := x0_1) (fun n i x5_3 h => by
    simp only [spec_l19Count_l3]
    rw [decide_eq_true (show (i : Int) < (x0_1.length : Int) by omega)]
    simp only [cond_true, inB_nat h, Int.toNat_natCast, getD_nat _ i h]) (fun n x5_3 => by
    simp only [spec_l19Count_l3]
    rw [decide_eq_false (by omega)]
    simp only [cond_false]) hl x0_1 0 n x5_3 rfl (by omega) hn

theorem spec_AreTeams_l8_r {N : Nat} {x0_9 : (List QIIIIILIE)} {x3_10 : Int} {x4_11 : QIIIIILIE} {k8_0_17 : Option Ret} {k8_1_18 : Bool → Option Ret} (hl : x4_11.2.2.2.2.2.length ≤ maxLen) {n : Nat} (hn : x4_11.2.2.2.2.2.length < n) : spec_AreTeams_l8 N x0_9 x3_10 x4_11 n k8_0_17 k8_1_18 (0 : Int) =
    goL (fun (i : Nat) (x : _) (next : Option Ret) =>
        spec_FindTeam N x0_9 x (fun (r85_14 : Int) =>
          bif (decide (r85_14 < (0 : Int))) then
            k8_1_18 false
          else
            bif (r85_14 == x3_10) then
              k8_1_18 false
            else
              bif (inB r85_14 (List.length x0_9)) then
                bif (inB r85_14 (List.length x0_9)) then
                  spec_l19Count N (List.getD x0_9 (Int.toNat r85_14) zQIIIIILIE).2.2.2.2.2 x4_11.1 (fun (r101_15 : Int) =>
                    spec_l19Count N x4_11.2.2.2.2.2 (List.getD x0_9 (Int.toNat r85_14) zQIIIIILIE).1 (fun (r109_16 : Int) =>
                      bif (r101_15 != r109_16) then
                        k8_1_18 false
                      else
                        next))
                else none
              else none)) (
        k8_0_17) x4_11.2.2.2.2.2 0 := by
  exact range0 (f := fun n i => spec_AreTeams_l8 N x0_9 x3_10 x4_11 n k8_0_17 k8_1_18 i) (l := x4_11.2.2.2.2.2) (fun n i h => by
    simp only [spec_AreTeams_l8]
    rw [decide_eq_true (show (i : Int) < (x4_11.2.2.2.2.2.length : Int) by omega)]
    simp only [cond_true, inB_nat h, Int.toNat_natCast, getD_nat _ i h]) (fun n => by
    simp only [spec_AreTeams_l8]
    rw [decide_eq_false (by omega)]
    simp only [cond_false]) hl x4_11.2.2.2.2.2 0 n rfl (by omega) hn

theorem spec_AreTeams_l2_r {N : Nat} {x0_1 : (List QIIIIILIE)} {k2_0_21 : Option Ret} {k2_1_22 : Bool → Option Ret} (hl : x0_1.length ≤ maxLen) {n : Nat} (hn : x0_1.length < n) : spec_AreTeams_l2 N x0_1 n k2_0_21 k2_1_22 (0 : Int) =
    goL (fun (i : Nat) (x : QIIIIILIE) (next : Option Ret) =>
        spec_l1In N x.1 (1 : Int) (99 : Int) (fun (r19_4 : Bool) =>
          bif (!r19_4) then
            k2_1_22 false
          else
            spec_l1In N x.2.1 (1 : Int) (99 : Int) (fun (r24_5 : Bool) =>
              bif (!r24_5) then
                k2_1_22 false
              else
                spec_l1In N x.2.2.1 (0 : Int) (List.length x.2.2.2.2.2 : Int) (fun (r33_6 : Bool) =>
                  bif (!r33_6) then
                    k2_1_22 false
                  else
                    spec_l1In N x.2.2.2.2.1 (0 : Int) (List.length x.2.2.2.2.2 : Int) (fun (r42_7 : Bool) =>
                      bif (!r42_7) then
                        k2_1_22 false
                      else
                        spec_l1In N x.2.2.2.1 (0 : Int) (100000 : Int) (fun (r48_8 : Bool) =>
                          bif (!r48_8) then
                            k2_1_22 false
                          else
                            bif (decide ((List.length x.2.2.2.2.2 : Int) > (20 : Int))) then
                              k2_1_22 false
                            else
                              bif (decide ((i : Int) > (0 : Int))) then
                                bif (inB (IntKind.wrap .i64 ((i : Int) - (1 : Int))) (List.length x0_1)) then
                                  bif (decide ((List.getD x0_1 (Int.toNat (IntKind.wrap .i64 ((i : Int) - (1 : Int)))) zQIIIIILIE).1 ≥ x.1)) then
                                    k2_1_22 false
                                  else
                                    spec_AreTeams_l8 N x0_1 (i : Int) x N next k2_1_22 (0 : Int)
                                else none
                              else
                                spec_AreTeams_l8 N x0_1 (i : Int) x N next k2_1_22 (0 : Int))))))) (
        k2_0_21) x0_1 0 := by
  exact range0 (f := fun n i => spec_AreTeams_l2 N x0_1 n k2_0_21 k2_1_22 i) (l := x0_1) (fun n i h => by
    simp only [spec_AreTeams_l2]
    rw [decide_eq_true (show (i : Int) < (x0_1.length : Int) by omega)]
    simp only [cond_true, inB_nat h, Int.toNat_natCast, getD_nat _ i h]) (fun n => by
    simp only [spec_AreTeams_l2]
    rw [decide_eq_false (by omega)]
    simp only [cond_false]) hl x0_1 0 n rfl (by omega) hn

theorem spec_ClubWins_l3_r {N : Nat} {x0_1 : (List QIIIIILIE)} {x1_2 : Int} {k3_0_8 : Int → Option Ret} {x5_3 : Int} (hl : x0_1.length ≤ maxLen) {n : Nat} (hn : x0_1.length < n) : spec_ClubWins_l3 N x0_1 x1_2 n k3_0_8 x5_3 (0 : Int) =
    goL1 (fun (i : Nat) (x : QIIIIILIE) (x5_3 : Int) (next : Int → Option Ret) =>
        spec_AreTeams N x0_1 (fun (r13_6 : Bool) =>
          bif r13_6 then
            bif (x.2.1 == x1_2) then
              next (IntKind.wrap .i64 (x5_3 + x.2.2.1))
            else
              next x5_3
          else
            k3_0_8 x5_3)) (fun (x5_3 : Int) =>
        k3_0_8 x5_3) x0_1 0 x5_3 := by
  exact range1 (f := fun n x5_3 i => spec_ClubWins_l3 N x0_1 x1_2 n k3_0_8 x5_3 i) (l := x0_1) (fun n i x5_3 h => by
    simp only [spec_ClubWins_l3]
    rw [decide_eq_true (show (i : Int) < (x0_1.length : Int) by omega)]
    simp only [cond_true, inB_nat h, Int.toNat_natCast, getD_nat _ i h]) (fun n x5_3 => by
    simp only [spec_ClubWins_l3]
    rw [decide_eq_false (by omega)]
    simp only [cond_false]) hl x0_1 0 n x5_3 rfl (by omega) hn

theorem slices_IndexFunc_l2_r {N : Nat} {x0_1 : (List QIIIIILIE)} {x1_2 : Int} {k2_0_7 : Option Ret} {k2_1_8 : Int → Option Ret} (hl : x0_1.length ≤ maxLen) {n : Nat} (hn : x0_1.length < n) : slices_IndexFunc_l2 N x0_1 x1_2 (List.length x0_1 : Int) n k2_0_7 k2_1_8 (0 : Int) =
    goL (fun (i : Nat) (x : QIIIIILIE) (next : Option Ret) =>
        impl_FindTeam_1 N x x1_2 (fun (r16_6 : Bool) =>
          bif r16_6 then
            k2_1_8 (i : Int)
          else
            next)) (
        k2_0_7) x0_1 0 := by
  exact range0 (f := fun n i => slices_IndexFunc_l2 N x0_1 x1_2 (List.length x0_1 : Int) n k2_0_7 k2_1_8 i) (l := x0_1) (fun n i h => by
    simp only [slices_IndexFunc_l2]
    rw [decide_eq_true (show (i : Int) < (x0_1.length : Int) by omega)]
    simp only [cond_true, inB_nat h, Int.toNat_natCast, getD_nat _ i h]) (fun n => by
    simp only [slices_IndexFunc_l2]
    rw [decide_eq_false (by omega)]
    simp only [cond_false]) hl x0_1 0 n rfl (by omega) hn

theorem impl_times_l3_r {x1_1 : Int} {x8_3 : (List Int)} {k3_0_8 : Int → Option Ret} {x5_2 : Int} (hl : x8_3.length ≤ maxLen) {n : Nat} (hn : x8_3.length < n) : impl_times_l3 x1_1 x8_3 (List.length x8_3 : Int) n k3_0_8 x5_2 (0 : Int) =
    goL1 (fun (i : Nat) (x : Int) (x5_2 : Int) (next : Int → Option Ret) =>
        bif (x == x1_1) then
          next (IntKind.wrap .i64 (x5_2 + (1 : Int)))
        else
          next x5_2) (fun (x5_2 : Int) =>
        k3_0_8 x5_2) x8_3 0 x5_2 := by
  exact range1 (f := fun n x5_2 i => impl_times_l3 x1_1 x8_3 (List.length x8_3 : Int) n k3_0_8 x5_2 i) (l := x8_3) (fun n i x5_2 h => by
    simp only [impl_times_l3]
    rw [decide_eq_true (show (i : Int) < (x8_3.length : Int) by omega)]
    simp only [cond_true, inB_nat h, Int.toNat_natCast, getD_nat _ i h]) (fun n x5_2 => by
    simp only [impl_times_l3]
    rw [decide_eq_false (by omega)]
    simp only [cond_false]) hl x8_3 0 n x5_2 rfl (by omega) hn

theorem impl_AreTeams_l10_r {N : Nat} {x0_16 : (List QIIIIILIE)} {x4_17 : QIIIIILIE} {x12_18 : (List QIIIIILIE)} {x13_19 : Int} {x14_20 : Int} {x72_21 : (List Int)} {k10_0_28 : Option Ret} {k10_1_29 : Bool → Option Ret} (hl : x72_21.length ≤ maxLen) {n : Nat} (hn : x72_21.length < n) : impl_AreTeams_l10 N x0_16 x4_17 x12_18 x13_19 x14_20 x72_21 (List.length x72_21 : Int) n k10_0_28 k10_1_29 (0 : Int) =
    goL (fun (i : Nat) (x : Int) (next : Option Ret) =>
        impl_FindTeam N x0_16 x (fun (r80_25 : Int) =>
          bif (decide (r80_25 < (0 : Int))) then
            k10_1_29 false
          else
            bif (x == x4_17.1) then
              k10_1_29 false
            else
              bif (inB r80_25 (List.length x0_16)) then
                impl_times N x4_17.2.2.2.2.2 x (fun (r93_26 : Int) =>
                  impl_times N (List.getD x0_16 (Int.toNat r80_25) zQIIIIILIE).2.2.2.2.2 x4_17.1 (fun (r101_27 : Int) =>
                    bif (r93_26 != r101_27) then
                      k10_1_29 false
                    else
                      next))
              else none)) (
        k10_0_28) x72_21 0 := by
  exact range0 (f := fun n i => impl_AreTeams_l10 N x0_16 x4_17 x12_18 x13_19 x14_20 x72_21 (List.length x72_21 : Int) n k10_0_28 k10_1_29 i) (l := x72_21) (fun n i h => by
    simp only [impl_AreTeams_l10]
    rw [decide_eq_true (show (i : Int) < (x72_21.length : Int) by omega)]
    simp only [cond_true, inB_nat h, Int.toNat_natCast, getD_nat _ i h]) (fun n => by
    simp only [impl_AreTeams_l10]
    rw [decide_eq_false (by omega)]
    simp only [cond_false]) hl x72_21 0 n rfl (by omega) hn

theorem impl_AreTeams_l4_r {N : Nat} {x0_1 : (List QIIIIILIE)} {x12_2 : (List QIIIIILIE)} {k4_0_32 : Option Ret} {k4_1_33 : Bool → Option Ret} (hl : x12_2.length ≤ maxLen) {n : Nat} (hn : x12_2.length < n) : impl_AreTeams_l4 N x0_1 x12_2 (List.length x12_2 : Int) n k4_0_32 k4_1_33 (0 : Int) =
    goL (fun (i : Nat) (x : QIIIIILIE) (next : Option Ret) =>
        impl_InRange N x.1 (1 : Int) (99 : Int) (fun (r24_6 : Bool) =>
          bif (!r24_6) then
            k4_1_33 false
          else
            bif (decide ((i : Int) > (0 : Int))) then
              bif (inB (IntKind.wrap .i64 ((i : Int) - (1 : Int))) (List.length x0_1)) then
                bif (decide (x.1 ≤ (List.getD x0_1 (Int.toNat (IntKind.wrap .i64 ((i : Int) - (1 : Int)))) zQIIIIILIE).1)) then
                  k4_1_33 false
                else
                  impl_InRange N x.2.1 (1 : Int) (99 : Int) (fun (r44_7 : Bool) =>
                    bif (!r44_7) then
                      k4_1_33 false
                    else
                      bif (decide ((List.length x.2.2.2.2.2 : Int) > (20 : Int))) then
                        k4_1_33 false
                      else
                        impl_InRange N x.2.2.1 (0 : Int) (List.length x.2.2.2.2.2 : Int) (fun (r55_8 : Bool) =>
                          bif (!r55_8) then
                            k4_1_33 false
                          else
                            impl_InRange N x.2.2.2.2.1 (0 : Int) (List.length x.2.2.2.2.2 : Int) (fun (r62_9 : Bool) =>
                              bif (!r62_9) then
                                k4_1_33 false
                              else
                                impl_InRange N x.2.2.2.1 (0 : Int) (100000 : Int) (fun (r68_10 : Bool) =>
                                  bif (!r68_10) then
                                    k4_1_33 false
                                  else
                                    impl_AreTeams_l10 N x0_1 x x12_2 (List.length x12_2 : Int) (i : Int) x.2.2.2.2.2 (List.length x.2.2.2.2.2 : Int) N next k4_1_33 (0 : Int)))))
              else none
            else
              impl_InRange N x.2.1 (1 : Int) (99 : Int) (fun (r44_11 : Bool) =>
                bif (!r44_11) then
                  k4_1_33 false
                else
                  bif (decide ((List.length x.2.2.2.2.2 : Int) > (20 : Int))) then
                    k4_1_33 false
                  else
                    impl_InRange N x.2.2.1 (0 : Int) (List.length x.2.2.2.2.2 : Int) (fun (r55_12 : Bool) =>
                      bif (!r55_12) then
                        k4_1_33 false
                      else
                        impl_InRange N x.2.2.2.2.1 (0 : Int) (List.length x.2.2.2.2.2 : Int) (fun (r62_13 : Bool) =>
                          bif (!r62_13) then
                            k4_1_33 false
                          else
                            impl_InRange N x.2.2.2.1 (0 : Int) (100000 : Int) (fun (r68_14 : Bool) =>
                              bif (!r68_14) then
                                k4_1_33 false
                              else
                                impl_AreTeams_l10 N x0_1 x x12_2 (List.length x12_2 : Int) (i : Int) x.2.2.2.2.2 (List.length x.2.2.2.2.2 : Int) N next k4_1_33 (0 : Int))))))) (
        k4_0_32) x12_2 0 := by
  exact range0 (f := fun n i => impl_AreTeams_l4 N x0_1 x12_2 (List.length x12_2 : Int) n k4_0_32 k4_1_33 i) (l := x12_2) (fun n i h => by
    simp only [impl_AreTeams_l4, impl_AreTeams_j1]
    rw [decide_eq_true (show (i : Int) < (x12_2.length : Int) by omega)]
    simp only [cond_true, inB_nat h, Int.toNat_natCast, getD_nat _ i h]) (fun n => by
    simp only [impl_AreTeams_l4, impl_AreTeams_j1]
    rw [decide_eq_false (by omega)]
    simp only [cond_false]) hl x12_2 0 n rfl (by omega) hn

theorem impl_ClubWins_l5_r {x1_2 : Int} {x12_4 : (List QIIIIILIE)} {k5_0_9 : Int → Option Ret} {x5_3 : Int} (hl : x12_4.length ≤ maxLen) {n : Nat} (hn : x12_4.length < n) : impl_ClubWins_l5 x1_2 x12_4 (List.length x12_4 : Int) n k5_0_9 x5_3 (0 : Int) =
    goL1 (fun (i : Nat) (x : QIIIIILIE) (x5_3 : Int) (next : Int → Option Ret) =>
        bif (x.2.1 == x1_2) then
          next (IntKind.wrap .i64 (x5_3 + x.2.2.1))
        else
          next x5_3) (fun (x5_3 : Int) =>
        k5_0_9 x5_3) x12_4 0 x5_3 := by
  exact range1 (f := fun n x5_3 i => impl_ClubWins_l5 x1_2 x12_4 (List.length x12_4 : Int) n k5_0_9 x5_3 i) (l := x12_4) (fun n i x5_3 h => by
    simp only [impl_ClubWins_l5]
    rw [decide_eq_true (show (i : Int) < (x12_4.length : Int) by omega)]
    simp only [cond_true, inB_nat h, Int.toNat_natCast, getD_nat _ i h]) (fun n x5_3 => by
    simp only [impl_ClubWins_l5]
    rw [decide_eq_false (by omega)]
    simp only [cond_false]) hl x12_4 0 n x5_3 rfl (by omega) hn

theorem laws_eqTeamS_l4_r {N : Nat} {x0_1 : (List QIIIIILIE)} {x1_2 : (List QIIIIILIE)} {k4_0_6 : Option Ret} {k4_1_7 : Bool → Option Ret} (hl : x0_1.length ≤ maxLen) {n : Nat} (hn : x0_1.length < n) : laws_eqTeamS_l4 N x0_1 x1_2 n k4_0_6 k4_1_7 (0 : Int) =
    goL (fun (i : Nat) (x : QIIIIILIE) (next : Option Ret) =>
        bif (inB (i : Int) (List.length x1_2)) then
          laws_eqTeam N x (List.getD x1_2 (Int.toNat (i : Int)) zQIIIIILIE) (fun (r25_5 : Bool) =>
            bif (!r25_5) then
              k4_1_7 false
            else
              next)
        else none) (
        k4_0_6) x0_1 0 := by
  exact range0 (f := fun n i => laws_eqTeamS_l4 N x0_1 x1_2 n k4_0_6 k4_1_7 i) (l := x0_1) (fun n i h => by
    simp only [laws_eqTeamS_l4]
    rw [decide_eq_true (show (i : Int) < (x0_1.length : Int) by omega)]
    simp only [cond_true, inB_nat h, Int.toNat_natCast, getD_nat _ i h]) (fun n => by
    simp only [laws_eqTeamS_l4]
    rw [decide_eq_false (by omega)]
    simp only [cond_false]) hl x0_1 0 n rfl (by omega) hn

end Go.Pv.R
