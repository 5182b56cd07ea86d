/- Their loops over lists, without rounds. -/
import Derived.Test.YthdoldaaodmeeaaDoorPlRes
namespace Go.Pv.R
set_option linter.unusedVariables false
set_option linter.unusedSimpArgs false
theorem laws_toIntS_l3_r {x0_1 : (List Int)} {k3_0_5 : (List Int) → Option Ret} {x3_2 : (List Int)} (hl : (List.length x0_1) ≤ maxLen) {n : Nat} (hn : (List.length x0_1) < n) : laws_toIntS_l3 x0_1 n k3_0_5 x3_2 (0 : Int) =
    goL1 (fun (i : Nat) (x : Int) (x3_2 : (List Int)) (next : (List Int) → Option Ret) =>
        bif (inB (i : Int) (List.length x3_2)) then
          next (List.set x3_2 (Int.toNat (i : Int)) x)
        else none) (fun (x3_2 : (List Int)) =>
        k3_0_5 x3_2) x0_1 0 x3_2 := by
  exact range1 (f := fun n x3_2 i => laws_toIntS_l3 x0_1 n k3_0_5 x3_2 i) (l := x0_1) (fun n i x3_2 h => by
    simp only [laws_toIntS_l3]
    rw [decide_eq_true (show (i : Int) < (List.length x0_1 : Int) by omega)]
    simp only [cond_true, inB_nat h, Int.toNat_natCast, getD_nat _ i h]) (fun n x3_2 => by
    simp only [laws_toIntS_l3]
    rw [decide_eq_false (by omega)]
    simp only [cond_false]) hl x0_1 0 n x3_2 rfl (by omega) hn
theorem laws_eqIntS_l4_r {x0_1 : (List Int)} {x1_2 : (List Int)} {k4_0_5 : Option Ret} {k4_1_6 : Bool → Option Ret} (hl : (List.length x0_1) ≤ maxLen) {n : Nat} (hn : (List.length x0_1) < n) : laws_eqIntS_l4 x0_1 x1_2 n k4_0_5 k4_1_6 (0 : Int) =
    goL (fun (i : Nat) (x : Int) (next : Option Ret) =>
        bif (inB (i : Int) (List.length x1_2)) then
          bif (x != (List.getD x1_2 (Int.toNat (i : Int)) (0 : Int))) then
            k4_1_6 false
          else
            next
        else none) (
        k4_0_5) x0_1 0 := by
  exact range0 (f := fun n i => laws_eqIntS_l4 x0_1 x1_2 n k4_0_5 k4_1_6 i) (l := x0_1) (fun n i h => by
    simp only [laws_eqIntS_l4]
    rw [decide_eq_true (show (i : Int) < (List.length x0_1 : Int) by omega)]
    simp only [cond_true, inB_nat h, Int.toNat_natCast, getD_nat _ i h]) (fun n => by
    simp only [laws_eqIntS_l4]
    rw [decide_eq_false (by omega)]
    simp only [cond_false]) hl x0_1 0 n rfl (by omega) hn
theorem laws_szIntSS_l5_r {N : Nat} {x0_1 : (List (List Int))} {k5_0_6 : Int → Option Ret} {k5_1_7 : Int → Option Ret} {x1_2 : Int} (hl : (List.length x0_1) ≤ maxLen) {n : Nat} (hn : (List.length x0_1) < n) : laws_szIntSS_l5 N x0_1 n k5_0_6 k5_1_7 x1_2 (0 : Int) =
    goL1 (fun (i : Nat) (x : (List Int)) (x1_2 : Int) (next : Int → Option Ret) =>
        laws_szIntS N x x1_2 (fun (r23_5 : Int) =>
          bif (decide (r23_5 < (0 : Int))) then
            k5_1_7 (-1 : Int)
          else
            next r23_5)) (fun (x1_2 : Int) =>
        k5_0_6 x1_2) x0_1 0 x1_2 := by
  exact range1 (f := fun n x1_2 i => laws_szIntSS_l5 N x0_1 n k5_0_6 k5_1_7 x1_2 i) (l := x0_1) (fun n i x1_2 h => by
    simp only [laws_szIntSS_l5]
    rw [decide_eq_true (show (i : Int) < (List.length x0_1 : Int) by omega)]
    simp only [cond_true, inB_nat h, Int.toNat_natCast, getD_nat _ i h]) (fun n x1_2 => by
    simp only [laws_szIntSS_l5]
    rw [decide_eq_false (by omega)]
    simp only [cond_false]) hl x0_1 0 n x1_2 rfl (by omega) hn
theorem laws_toIntSS_l3_r {N : Nat} {x0_1 : (List (List Int))} {k3_0_6 : (List (List Int)) → Option Ret} {x3_2 : (List (List Int))} (hl : (List.length x0_1) ≤ maxLen) {n : Nat} (hn : (List.length x0_1) < n) : laws_toIntSS_l3 N x0_1 n k3_0_6 x3_2 (0 : Int) =
    goL1 (fun (i : Nat) (x : (List Int)) (x3_2 : (List (List Int))) (next : (List (List Int)) → Option Ret) =>
        laws_toIntS N x (fun (r20_5 : (List Int)) =>
          bif (inB (i : Int) (List.length x3_2)) then
            next (List.set x3_2 (Int.toNat (i : Int)) r20_5)
          else none)) (fun (x3_2 : (List (List Int))) =>
        k3_0_6 x3_2) x0_1 0 x3_2 := by
  exact range1 (f := fun n x3_2 i => laws_toIntSS_l3 N x0_1 n k3_0_6 x3_2 i) (l := x0_1) (fun n i x3_2 h => by
    simp only [laws_toIntSS_l3]
    rw [decide_eq_true (show (i : Int) < (List.length x0_1 : Int) by omega)]
    simp only [cond_true, inB_nat h, Int.toNat_natCast, getD_nat _ i h]) (fun n x3_2 => by
    simp only [laws_toIntSS_l3]
    rw [decide_eq_false (by omega)]
    simp only [cond_false]) hl x0_1 0 n x3_2 rfl (by omega) hn
theorem spec_SetsText_l7_r {N : Nat} {x0_5 : (List (List Int))} {x4_7 : Int} {k7_0_12 : ByteArray → Option Ret} {x3_6 : ByteArray} (hc0 : (inB x4_7 (List.length x0_5)) = true) (hl : (List.length (List.getD x0_5 (Int.toNat x4_7) ([] : (List Int)))) ≤ maxLen) {n : Nat} (hn : (List.length (List.getD x0_5 (Int.toNat x4_7) ([] : (List Int)))) < n) : spec_SetsText_l7 N x0_5 x4_7 n k7_0_12 x3_6 (0 : Int) =
    goL1 (fun (i : Nat) (x : _) (x3_6 : ByteArray) (next : ByteArray → Option Ret) =>
        bif (decide ((i : Int) > (0 : Int))) then
          bif (decide (ByteArray.size x3_6 + ByteArray.size s_h2c ≤ 9223372036854775807)) then
            spec_FormatInt N x (fun (r35_11 : ByteArray) =>
              bif (decide (ByteArray.size (x3_6 ++ s_h2c) + ByteArray.size r35_11 ≤ 9223372036854775807)) then
                next ((x3_6 ++ s_h2c) ++ r35_11)
              else none)
          else none
        else
          spec_FormatInt N x (fun (r35_11 : ByteArray) =>
            bif (decide (ByteArray.size x3_6 + ByteArray.size r35_11 ≤ 9223372036854775807)) then
              next (x3_6 ++ r35_11)
            else none)) (fun (x3_6 : ByteArray) =>
        k7_0_12 x3_6) (List.getD x0_5 (Int.toNat x4_7) ([] : (List Int))) 0 x3_6 := by
  exact range1 (f := fun n x3_6 i => spec_SetsText_l7 N x0_5 x4_7 n k7_0_12 x3_6 i) (l := (List.getD x0_5 (Int.toNat x4_7) ([] : (List Int)))) (fun n i x3_6 h => by
    simp only [spec_SetsText_l7, spec_SetsText_j1, hc0, cond_true]
    rw [decide_eq_true (show (i : Int) < (List.length (List.getD x0_5 (Int.toNat x4_7) ([] : (List Int))) : Int) by omega)]
    simp only [cond_true, inB_nat h, Int.toNat_natCast, getD_nat _ i h]) (fun n x3_6 => by
    simp only [spec_SetsText_l7, spec_SetsText_j1, hc0, cond_true]
    rw [decide_eq_false (by omega)]
    simp only [cond_false]) hl (List.getD x0_5 (Int.toNat x4_7) ([] : (List Int))) 0 n x3_6 rfl (by omega) hn
theorem spec_SetsText_l3_r {N : Nat} {x0_1 : (List (List Int))} {k3_0_15 : ByteArray → Option Ret} {x3_2 : ByteArray} (hl : (List.length x0_1) ≤ maxLen) {n : Nat} (hn : (List.length x0_1) < n) : spec_SetsText_l3 N x0_1 n k3_0_15 x3_2 (0 : Int) =
    goL1 (fun (i : Nat) (x : (List Int)) (x3_2 : ByteArray) (next : ByteArray → Option Ret) =>
        bif (decide (ByteArray.size x3_2 + ByteArray.size s_h7b ≤ 9223372036854775807)) then
          spec_SetsText_l7 N x0_1 (i : Int) N (fun (z3_14 : ByteArray) =>
            bif (decide (ByteArray.size z3_14 + ByteArray.size s_h7d ≤ 9223372036854775807)) then
              next (z3_14 ++ s_h7d)
            else none) (x3_2 ++ s_h7b) (0 : Int)
        else none) (fun (x3_2 : ByteArray) =>
        k3_0_15 x3_2) x0_1 0 x3_2 := by
  exact range1 (f := fun n x3_2 i => spec_SetsText_l3 N x0_1 n k3_0_15 x3_2 i) (l := x0_1) (fun n i x3_2 h => by
    simp only [spec_SetsText_l3]
    rw [decide_eq_true (show (i : Int) < (List.length x0_1 : Int) by omega)]
    simp only [cond_true, inB_nat h, Int.toNat_natCast, getD_nat _ i h]) (fun n x3_2 => by
    simp only [spec_SetsText_l3]
    rw [decide_eq_false (by omega)]
    simp only [cond_false]) hl x0_1 0 n x3_2 rfl (by omega) hn
theorem impl_SetsText_l9_r {N : Nat} {x3_6 : ByteArray} {x12_8 : (List (List Int))} {x13_9 : Int} {x14_10 : Int} {x19_11 : (List Int)} {k9_0_16 : (List ByteArray) → Option Ret} {x6_7 : (List ByteArray)} (hl : (List.length x19_11) ≤ maxLen) {n : Nat} (hn : (List.length x19_11) < n) : impl_SetsText_l9 N x3_6 x12_8 x13_9 x14_10 x19_11 (List.length x19_11 : Int) n k9_0_16 x6_7 (0 : Int) =
    goL1 (fun (i : Nat) (x : Int) (x6_7 : (List ByteArray)) (next : (List ByteArray) → Option Ret) =>
        impl_FormatInt N x (fun (r27_15 : ByteArray) =>
          bif (decide ((List.length x6_7 + List.length [r27_15]) * 1 ≤ 4398046511104)) then
            next (x6_7 ++ [r27_15])
          else none)) (fun (x6_7 : (List ByteArray)) =>
        k9_0_16 x6_7) x19_11 0 x6_7 := by
  exact range1 (f := fun n x6_7 i => impl_SetsText_l9 N x3_6 x12_8 x13_9 x14_10 x19_11 (List.length x19_11 : Int) n k9_0_16 x6_7 i) (l := x19_11) (fun n i x6_7 h => by
    simp only [impl_SetsText_l9]
    rw [decide_eq_true (show (i : Int) < (List.length x19_11 : Int) by omega)]
    simp only [cond_true, inB_nat h, Int.toNat_natCast, getD_nat _ i h]) (fun n x6_7 => by
    simp only [impl_SetsText_l9]
    rw [decide_eq_false (by omega)]
    simp only [cond_false]) hl x19_11 0 n x6_7 rfl (by omega) hn
theorem impl_SetsText_l5_r {N : Nat} {x12_2 : (List (List Int))} {k5_0_20 : ByteArray → Option Ret} {x3_1 : ByteArray} (hl : (List.length x12_2) ≤ maxLen) {n : Nat} (hn : (List.length x12_2) < n) : impl_SetsText_l5 N x12_2 (List.length x12_2 : Int) n k5_0_20 x3_1 (0 : Int) =
    goL1 (fun (i : Nat) (x : (List Int)) (x3_1 : ByteArray) (next : ByteArray → Option Ret) =>
        impl_SetsText_l9 N x3_1 x12_2 (List.length x12_2 : Int) (i : Int) x (List.length x : Int) N (fun (z6_18 : (List ByteArray)) =>
          strings_Join N z6_18 s_h2c (fun (r33_19 : ByteArray) =>
            bif (decide (ByteArray.size s_h7b + ByteArray.size r33_19 ≤ 9223372036854775807)) then
              bif (decide (ByteArray.size (s_h7b ++ r33_19) + ByteArray.size s_h7d ≤ 9223372036854775807)) then
                bif (decide (ByteArray.size x3_1 + ByteArray.size ((s_h7b ++ r33_19) ++ s_h7d) ≤ 9223372036854775807)) then
                  next (x3_1 ++ ((s_h7b ++ r33_19) ++ s_h7d))
                else none
              else none
            else none)) ([] : (List ByteArray)) (0 : Int)) (fun (x3_1 : ByteArray) =>
        k5_0_20 x3_1) x12_2 0 x3_1 := by
  exact range1 (f := fun n x3_1 i => impl_SetsText_l5 N x12_2 (List.length x12_2 : Int) n k5_0_20 x3_1 i) (l := x12_2) (fun n i x3_1 h => by
    simp only [impl_SetsText_l5]
    rw [decide_eq_true (show (i : Int) < (List.length x12_2 : Int) by omega)]
    simp only [cond_true, inB_nat h, Int.toNat_natCast, getD_nat _ i h]) (fun n x3_1 => by
    simp only [impl_SetsText_l5]
    rw [decide_eq_false (by omega)]
    simp only [cond_false]) hl x12_2 0 n x3_1 rfl (by omega) hn
theorem laws_eqIntSS_l4_r {N : Nat} {x0_1 : (List (List Int))} {x1_2 : (List (List Int))} {k4_0_6 : Option Ret} {k4_1_7 : Bool → Option Ret} (hl : (List.length x0_1) ≤ maxLen) {n : Nat} (hn : (List.length x0_1) < n) : laws_eqIntSS_l4 N x0_1 x1_2 n k4_0_6 k4_1_7 (0 : Int) =
    goL (fun (i : Nat) (x : (List Int)) (next : Option Ret) =>
        bif (inB (i : Int) (List.length x1_2)) then
          laws_eqIntS N x (List.getD x1_2 (Int.toNat (i : Int)) ([] : (List Int))) (fun (r25_5 : Bool) =>
            bif (!r25_5) then
              k4_1_7 false
            else
              next)
        else none) (
        k4_0_6) x0_1 0 := by
  exact range0 (f := fun n i => laws_eqIntSS_l4 N x0_1 x1_2 n k4_0_6 k4_1_7 i) (l := x0_1) (fun n i h => by
    simp only [laws_eqIntSS_l4]
    rw [decide_eq_true (show (i : Int) < (List.length x0_1 : Int) by omega)]
    simp only [cond_true, inB_nat h, Int.toNat_natCast, getD_nat _ i h]) (fun n => by
    simp only [laws_eqIntSS_l4]
    rw [decide_eq_false (by omega)]
    simp only [cond_false]) hl x0_1 0 n rfl (by omega) hn
end Go.Pv.R
