/- Their loops over lists, without rounds. -/
import Derived.Test.YthdoldaaodmeeaaDoorPlRes
namespace Go.Pv.R
set_option linter.unusedVariables false
set_option linter.unusedSimpArgs false
theorem spec_l39Join_l3_r {x0_1 : (List ByteArray)} {k3_0_6 : ByteArray → Option Ret} {x3_2 : ByteArray} (hl : (List.length x0_1) ≤ maxLen) {n : Nat} (hn : (List.length x0_1) < n) : spec_l39Join_l3 x0_1 n k3_0_6 x3_2 (0 : Int) =
    goL1 (fun (i : Nat) (x : ByteArray) (x3_2 : ByteArray) (next : ByteArray → Option Ret) =>
        bif (decide ((i : Int) > (0 : Int))) then
          bif (decide (ByteArray.size x3_2 + ByteArray.size s_h20 ≤ 9223372036854775807)) then
            bif (decide (ByteArray.size (x3_2 ++ s_h20) + ByteArray.size x ≤ 9223372036854775807)) then
              next ((x3_2 ++ s_h20) ++ x)
            else none
          else none
        else
          bif (decide (ByteArray.size x3_2 + ByteArray.size x ≤ 9223372036854775807)) then
            next (x3_2 ++ x)
          else none) (fun (x3_2 : ByteArray) =>
        k3_0_6 x3_2) x0_1 0 x3_2 := by
  exact range1 (f := fun n x3_2 i => spec_l39Join_l3 x0_1 n k3_0_6 x3_2 i) (l := x0_1) (fun n i x3_2 h => by
    simp only [spec_l39Join_l3, spec_l39Join_j1]
    rw [decide_eq_true (show (i : Int) < (List.length x0_1 : Int) by omega)]
    simp only [cond_true, inB_nat h, Int.toNat_natCast, getD_nat _ i h]) (fun n x3_2 => by
    simp only [spec_l39Join_l3, spec_l39Join_j1]
    rw [decide_eq_false (by omega)]
    simp only [cond_false]) hl x0_1 0 n x3_2 rfl (by omega) hn
theorem laws_toPointS_l3_r {N : Nat} {x0_1 : (List QIIIE)} {k3_0_6 : (List QIIIE) → Option Ret} {x3_2 : (List QIIIE)} (hl : (List.length x0_1) ≤ maxLen) {n : Nat} (hn : (List.length x0_1) < n) : laws_toPointS_l3 N x0_1 n k3_0_6 x3_2 (0 : Int) =
    goL1 (fun (i : Nat) (x : QIIIE) (x3_2 : (List QIIIE)) (next : (List QIIIE) → Option Ret) =>
        laws_toPoint N x (fun (r20_5 : QIIIE) =>
          bif (inB (i : Int) (List.length x3_2)) then
            next (List.set x3_2 (Int.toNat (i : Int)) r20_5)
          else none)) (fun (x3_2 : (List QIIIE)) =>
        k3_0_6 x3_2) x0_1 0 x3_2 := by
  exact range1 (f := fun n x3_2 i => laws_toPointS_l3 N x0_1 n k3_0_6 x3_2 i) (l := x0_1) (fun n i x3_2 h => by
    simp only [laws_toPointS_l3]
    rw [decide_eq_true (show (i : Int) < (List.length x0_1 : Int) by omega)]
    simp only [cond_true, inB_nat h, Int.toNat_natCast, getD_nat _ i h]) (fun n x3_2 => by
    simp only [laws_toPointS_l3]
    rw [decide_eq_false (by omega)]
    simp only [cond_false]) hl x0_1 0 n x3_2 rfl (by omega) hn
theorem spec_FormatPoints_l3_r {N : Nat} {x0_1 : (List QIIIE)} {k3_0_7 : (List ByteArray) → Option Ret} {x3_2 : (List ByteArray)} (hl : (List.length x0_1) ≤ maxLen) {n : Nat} (hn : (List.length x0_1) < n) : spec_FormatPoints_l3 N x0_1 n k3_0_7 x3_2 (0 : Int) =
    goL1 (fun (i : Nat) (x : QIIIE) (x3_2 : (List ByteArray)) (next : (List ByteArray) → Option Ret) =>
        spec_PointText N x (fun (r17_5 : ByteArray) =>
          bif (ByteArray.toList r17_5 == ByteArray.toList s_e) then
            bif (decide ((List.length x3_2 + List.length [s_h3f]) * 1 ≤ 4398046511104)) then
              next (x3_2 ++ [s_h3f])
            else none
          else
            bif (decide ((List.length x3_2 + List.length [r17_5]) * 1 ≤ 4398046511104)) then
              next (x3_2 ++ [r17_5])
            else none)) (fun (x3_2 : (List ByteArray)) =>
        k3_0_7 x3_2) x0_1 0 x3_2 := by
  exact range1 (f := fun n x3_2 i => spec_FormatPoints_l3 N x0_1 n k3_0_7 x3_2 i) (l := x0_1) (fun n i x3_2 h => by
    simp only [spec_FormatPoints_l3, spec_FormatPoints_j1]
    rw [decide_eq_true (show (i : Int) < (List.length x0_1 : Int) by omega)]
    simp only [cond_true, inB_nat h, Int.toNat_natCast, getD_nat _ i h]) (fun n x3_2 => by
    simp only [spec_FormatPoints_l3, spec_FormatPoints_j1]
    rw [decide_eq_false (by omega)]
    simp only [cond_false]) hl x0_1 0 n x3_2 rfl (by omega) hn
theorem impl_FormatPoints_l3_r {N : Nat} {x8_2 : (List QIIIE)} {k3_0_8 : (List ByteArray) → Option Ret} {x3_1 : (List ByteArray)} (hl : (List.length x8_2) ≤ maxLen) {n : Nat} (hn : (List.length x8_2) < n) : impl_FormatPoints_l3 N x8_2 (List.length x8_2 : Int) n k3_0_8 x3_1 (0 : Int) =
    goL1 (fun (i : Nat) (x : QIIIE) (x3_1 : (List ByteArray)) (next : (List ByteArray) → Option Ret) =>
        impl_PointText N x (fun (r15_6 : ByteArray) =>
          bif (ByteArray.toList r15_6 == ByteArray.toList s_e) then
            bif (decide ((List.length x3_1 + List.length [s_h3f]) * 1 ≤ 4398046511104)) then
              next (x3_1 ++ [s_h3f])
            else none
          else
            bif (decide ((List.length x3_1 + List.length [r15_6]) * 1 ≤ 4398046511104)) then
              next (x3_1 ++ [r15_6])
            else none)) (fun (x3_1 : (List ByteArray)) =>
        k3_0_8 x3_1) x8_2 0 x3_1 := by
  exact range1 (f := fun n x3_1 i => impl_FormatPoints_l3 N x8_2 (List.length x8_2 : Int) n k3_0_8 x3_1 i) (l := x8_2) (fun n i x3_1 h => by
    simp only [impl_FormatPoints_l3, impl_FormatPoints_j1]
    rw [decide_eq_true (show (i : Int) < (List.length x8_2 : Int) by omega)]
    simp only [cond_true, inB_nat h, Int.toNat_natCast, getD_nat _ i h]) (fun n x3_1 => by
    simp only [impl_FormatPoints_l3, impl_FormatPoints_j1]
    rw [decide_eq_false (by omega)]
    simp only [cond_false]) hl x8_2 0 n x3_1 rfl (by omega) hn
theorem laws_eqPointS_l4_r {N : Nat} {x0_1 : (List QIIIE)} {x1_2 : (List QIIIE)} {k4_0_6 : Option Ret} {k4_1_7 : Bool → Option Ret} (hl : (List.length x0_1) ≤ maxLen) {n : Nat} (hn : (List.length x0_1) < n) : laws_eqPointS_l4 N x0_1 x1_2 n k4_0_6 k4_1_7 (0 : Int) =
    goL (fun (i : Nat) (x : QIIIE) (next : Option Ret) =>
        bif (inB (i : Int) (List.length x1_2)) then
          laws_eqPoint N x (List.getD x1_2 (Int.toNat (i : Int)) zQIIIE) (fun (r25_5 : Bool) =>
            bif (!r25_5) then
              k4_1_7 false
            else
              next)
        else none) (
        k4_0_6) x0_1 0 := by
  exact range0 (f := fun n i => laws_eqPointS_l4 N x0_1 x1_2 n k4_0_6 k4_1_7 i) (l := x0_1) (fun n i h => by
    simp only [laws_eqPointS_l4]
    rw [decide_eq_true (show (i : Int) < (List.length x0_1 : Int) by omega)]
    simp only [cond_true, inB_nat h, Int.toNat_natCast, getD_nat _ i h]) (fun n => by
    simp only [laws_eqPointS_l4]
    rw [decide_eq_false (by omega)]
    simp only [cond_false]) hl x0_1 0 n rfl (by omega) hn
end Go.Pv.R
