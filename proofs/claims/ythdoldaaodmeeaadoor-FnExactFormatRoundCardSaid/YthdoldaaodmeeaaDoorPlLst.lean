/- Their loops over lists, without rounds. -/
import Derived.Test.YthdoldaaodmeeaaDoorPlRes
namespace Go.Pv.R
set_option linter.unusedVariables false
set_option linter.unusedSimpArgs false
theorem laws_toIntS_l3_r {x0_1 : (List Int)} {k3_0_5 : (List Int) → Option Ret} {x3_2 : (List Int)} (hl : (List.length x0_1) ≤ maxLen) {n : Nat} (hn : (List.length x0_1) < n) : laws_toIntS_l3 x0_1 n k3_0_5 x3_2 (0 : Int) =
    goL1 (fun (i : Nat) (x : Int) (x3_2 : (List Int)) (next : (List Int) → Option Ret) =>
        bif (inB (i : Int) (List.length x3_2)) then
          next (List.set x3_2 (Int.toNat (i : Int)) x)
        else none) (fun (x3_2 : (List Int)) =>
        k3_0_5 x3_2) x0_1 0 x3_2 := by
  exact range1 (f := fun n x3_2 i => laws_toIntS_l3 x0_1 n k3_0_5 x3_2 i) (l := x0_1) (fun n i x3_2 h => by
    simp only [laws_toIntS_l3]
    rw [decide_eq_true (show (i : Int) < (List.length x0_1 : Int) by omega)]
    simp only [cond_true, inB_nat h, Int.toNat_natCast, getD_nat _ i h]) (fun n x3_2 => by
    simp only [laws_toIntS_l3]
    rw [decide_eq_false (by omega)]
    simp only [cond_false]) hl x0_1 0 n x3_2 rfl (by omega) hn
theorem spec_l39Join_l3_r {x0_1 : (List ByteArray)} {k3_0_6 : ByteArray → Option Ret} {x3_2 : ByteArray} (hl : (List.length x0_1) ≤ maxLen) {n : Nat} (hn : (List.length x0_1) < n) : spec_l39Join_l3 x0_1 n k3_0_6 x3_2 (0 : Int) =
    goL1 (fun (i : Nat) (x : ByteArray) (x3_2 : ByteArray) (next : ByteArray → Option Ret) =>
        bif (decide ((i : Int) > (0 : Int))) then
          bif (decide (ByteArray.size x3_2 + ByteArray.size s_h20 ≤ 9223372036854775807)) then
            bif (decide (ByteArray.size (x3_2 ++ s_h20) + ByteArray.size x ≤ 9223372036854775807)) then
              next ((x3_2 ++ s_h20) ++ x)
            else none
          else none
        else
          bif (decide (ByteArray.size x3_2 + ByteArray.size x ≤ 9223372036854775807)) then
            next (x3_2 ++ x)
          else none) (fun (x3_2 : ByteArray) =>
        k3_0_6 x3_2) x0_1 0 x3_2 := by
  exact range1 (f := fun n x3_2 i => spec_l39Join_l3 x0_1 n k3_0_6 x3_2 i) (l := x0_1) (fun n i x3_2 h => by
    simp only [spec_l39Join_l3, spec_l39Join_j1]
    rw [decide_eq_true (show (i : Int) < (List.length x0_1 : Int) by omega)]
    simp only [cond_true, inB_nat h, Int.toNat_natCast, getD_nat _ i h]) (fun n x3_2 => by
    simp only [spec_l39Join_l3, spec_l39Join_j1]
    rw [decide_eq_false (by omega)]
    simp only [cond_false]) hl x0_1 0 n x3_2 rfl (by omega) hn
theorem laws_eqIntS_l4_r {x0_1 : (List Int)} {x1_2 : (List Int)} {k4_0_5 : Option Ret} {k4_1_6 : Bool → Option Ret} (hl : (List.length x0_1) ≤ maxLen) {n : Nat} (hn : (List.length x0_1) < n) : laws_eqIntS_l4 x0_1 x1_2 n k4_0_5 k4_1_6 (0 : Int) =
    goL (fun (i : Nat) (x : Int) (next : Option Ret) =>
        bif (inB (i : Int) (List.length x1_2)) then
          bif (x != (List.getD x1_2 (Int.toNat (i : Int)) (0 : Int))) then
            k4_1_6 false
          else
            next
        else none) (
        k4_0_5) x0_1 0 := by
  exact range0 (f := fun n i => laws_eqIntS_l4 x0_1 x1_2 n k4_0_5 k4_1_6 i) (l := x0_1) (fun n i h => by
    simp only [laws_eqIntS_l4]
    rw [decide_eq_true (show (i : Int) < (List.length x0_1 : Int) by omega)]
    simp only [cond_true, inB_nat h, Int.toNat_natCast, getD_nat _ i h]) (fun n => by
    simp only [laws_eqIntS_l4]
    rw [decide_eq_false (by omega)]
    simp only [cond_false]) hl x0_1 0 n rfl (by omega) hn
theorem laws_toPairS_l3_r {N : Nat} {x0_1 : (List QIIE)} {k3_0_6 : (List QIIE) → Option Ret} {x3_2 : (List QIIE)} (hl : (List.length x0_1) ≤ maxLen) {n : Nat} (hn : (List.length x0_1) < n) : laws_toPairS_l3 N x0_1 n k3_0_6 x3_2 (0 : Int) =
    goL1 (fun (i : Nat) (x : QIIE) (x3_2 : (List QIIE)) (next : (List QIIE) → Option Ret) =>
        laws_toPair N x (fun (r20_5 : QIIE) =>
          bif (inB (i : Int) (List.length x3_2)) then
            next (List.set x3_2 (Int.toNat (i : Int)) r20_5)
          else none)) (fun (x3_2 : (List QIIE)) =>
        k3_0_6 x3_2) x0_1 0 x3_2 := by
  exact range1 (f := fun n x3_2 i => laws_toPairS_l3 N x0_1 n k3_0_6 x3_2 i) (l := x0_1) (fun n i x3_2 h => by
    simp only [laws_toPairS_l3]
    rw [decide_eq_true (show (i : Int) < (List.length x0_1 : Int) by omega)]
    simp only [cond_true, inB_nat h, Int.toNat_natCast, getD_nat _ i h]) (fun n x3_2 => by
    simp only [laws_toPairS_l3]
    rw [decide_eq_false (by omega)]
    simp only [cond_false]) hl x0_1 0 n x3_2 rfl (by omega) hn
theorem spec_FormatRound_l3_r {N : Nat} {x0_1 : (List QIIE)} {x1_2 : (List Int)} {k3_0_10 : (List ByteArray) → Option Ret} {x5_3 : (List ByteArray)} (hl : (List.length x0_1) ≤ maxLen) {n : Nat} (hn : (List.length x0_1) < n) : spec_FormatRound_l3 N x0_1 x1_2 n k3_0_10 x5_3 (0 : Int) =
    goL1 (fun (i : Nat) (x : QIIE) (x5_3 : (List ByteArray)) (next : (List ByteArray) → Option Ret) =>
        bif (decide ((i : Int) < (List.length x1_2 : Int))) then
          bif (inB (i : Int) (List.length x1_2)) then
            spec_FormatInt N (List.getD x1_2 (Int.toNat (i : Int)) (0 : Int)) (fun (r23_6 : ByteArray) =>
              spec_FormatInt N x.1 (fun (r30_8 : ByteArray) =>
                bif (decide (ByteArray.size r30_8 + ByteArray.size s_h2d ≤ 9223372036854775807)) then
                  spec_FormatInt N x.2 (fun (r37_9 : ByteArray) =>
                    bif (decide (ByteArray.size (r30_8 ++ s_h2d) + ByteArray.size r37_9 ≤ 9223372036854775807)) then
                      bif (decide (ByteArray.size ((r30_8 ++ s_h2d) ++ r37_9) + ByteArray.size s_h40 ≤ 9223372036854775807)) then
                        bif (decide (ByteArray.size (((r30_8 ++ s_h2d) ++ r37_9) ++ s_h40) + ByteArray.size r23_6 ≤ 9223372036854775807)) then
                          bif (decide ((List.length x5_3 + List.length [((((r30_8 ++ s_h2d) ++ r37_9) ++ s_h40) ++ r23_6)]) * 1 ≤ 4398046511104)) then
                            next (x5_3 ++ [((((r30_8 ++ s_h2d) ++ r37_9) ++ s_h40) ++ r23_6)])
                          else none
                        else none
                      else none
                    else none)
                else none))
          else none
        else
          spec_FormatInt N x.1 (fun (r30_8 : ByteArray) =>
            bif (decide (ByteArray.size r30_8 + ByteArray.size s_h2d ≤ 9223372036854775807)) then
              spec_FormatInt N x.2 (fun (r37_9 : ByteArray) =>
                bif (decide (ByteArray.size (r30_8 ++ s_h2d) + ByteArray.size r37_9 ≤ 9223372036854775807)) then
                  bif (decide (ByteArray.size ((r30_8 ++ s_h2d) ++ r37_9) + ByteArray.size s_h40 ≤ 9223372036854775807)) then
                    bif (decide (ByteArray.size (((r30_8 ++ s_h2d) ++ r37_9) ++ s_h40) + ByteArray.size s_h3f ≤ 9223372036854775807)) then
                      bif (decide ((List.length x5_3 + List.length [((((r30_8 ++ s_h2d) ++ r37_9) ++ s_h40) ++ s_h3f)]) * 1 ≤ 4398046511104)) then
                        next (x5_3 ++ [((((r30_8 ++ s_h2d) ++ r37_9) ++ s_h40) ++ s_h3f)])
                      else none
                    else none
                  else none
                else none)
            else none)) (fun (x5_3 : (List ByteArray)) =>
        k3_0_10 x5_3) x0_1 0 x5_3 := by
  exact range1 (f := fun n x5_3 i => spec_FormatRound_l3 N x0_1 x1_2 n k3_0_10 x5_3 i) (l := x0_1) (fun n i x5_3 h => by
    simp only [spec_FormatRound_l3, spec_FormatRound_j1]
    rw [decide_eq_true (show (i : Int) < (List.length x0_1 : Int) by omega)]
    simp only [cond_true, inB_nat h, Int.toNat_natCast, getD_nat _ i h]) (fun n x5_3 => by
    simp only [spec_FormatRound_l3, spec_FormatRound_j1]
    rw [decide_eq_false (by omega)]
    simp only [cond_false]) hl x0_1 0 n x5_3 rfl (by omega) hn
theorem impl_FormatRound_l3_r {N : Nat} {x1_1 : (List Int)} {x10_3 : (List QIIE)} {k3_0_11 : (List ByteArray) → Option Ret} {x5_2 : (List ByteArray)} (hl : (List.length x10_3) ≤ maxLen) {n : Nat} (hn : (List.length x10_3) < n) : impl_FormatRound_l3 N x1_1 x10_3 (List.length x10_3 : Int) n k3_0_11 x5_2 (0 : Int) =
    goL1 (fun (i : Nat) (x : QIIE) (x5_2 : (List ByteArray)) (next : (List ByteArray) → Option Ret) =>
        bif (decide ((i : Int) < (List.length x1_1 : Int))) then
          bif (inB (i : Int) (List.length x1_1)) then
            impl_FormatInt N (List.getD x1_1 (Int.toNat (i : Int)) (0 : Int)) (fun (r25_7 : ByteArray) =>
              impl_FormatInt N x.1 (fun (r29_9 : ByteArray) =>
                bif (decide (ByteArray.size r29_9 + ByteArray.size s_h2d ≤ 9223372036854775807)) then
                  impl_FormatInt N x.2 (fun (r33_10 : ByteArray) =>
                    bif (decide (ByteArray.size (r29_9 ++ s_h2d) + ByteArray.size r33_10 ≤ 9223372036854775807)) then
                      bif (decide (ByteArray.size ((r29_9 ++ s_h2d) ++ r33_10) + ByteArray.size s_h40 ≤ 9223372036854775807)) then
                        bif (decide (ByteArray.size (((r29_9 ++ s_h2d) ++ r33_10) ++ s_h40) + ByteArray.size r25_7 ≤ 9223372036854775807)) then
                          bif (decide ((List.length x5_2 + List.length [((((r29_9 ++ s_h2d) ++ r33_10) ++ s_h40) ++ r25_7)]) * 1 ≤ 4398046511104)) then
                            next (x5_2 ++ [((((r29_9 ++ s_h2d) ++ r33_10) ++ s_h40) ++ r25_7)])
                          else none
                        else none
                      else none
                    else none)
                else none))
          else none
        else
          impl_FormatInt N x.1 (fun (r29_9 : ByteArray) =>
            bif (decide (ByteArray.size r29_9 + ByteArray.size s_h2d ≤ 9223372036854775807)) then
              impl_FormatInt N x.2 (fun (r33_10 : ByteArray) =>
                bif (decide (ByteArray.size (r29_9 ++ s_h2d) + ByteArray.size r33_10 ≤ 9223372036854775807)) then
                  bif (decide (ByteArray.size ((r29_9 ++ s_h2d) ++ r33_10) + ByteArray.size s_h40 ≤ 9223372036854775807)) then
                    bif (decide (ByteArray.size (((r29_9 ++ s_h2d) ++ r33_10) ++ s_h40) + ByteArray.size s_h3f ≤ 9223372036854775807)) then
                      bif (decide ((List.length x5_2 + List.length [((((r29_9 ++ s_h2d) ++ r33_10) ++ s_h40) ++ s_h3f)]) * 1 ≤ 4398046511104)) then
                        next (x5_2 ++ [((((r29_9 ++ s_h2d) ++ r33_10) ++ s_h40) ++ s_h3f)])
                      else none
                    else none
                  else none
                else none)
            else none)) (fun (x5_2 : (List ByteArray)) =>
        k3_0_11 x5_2) x10_3 0 x5_2 := by
  exact range1 (f := fun n x5_2 i => impl_FormatRound_l3 N x1_1 x10_3 (List.length x10_3 : Int) n k3_0_11 x5_2 i) (l := x10_3) (fun n i x5_2 h => by
    simp only [impl_FormatRound_l3, impl_FormatRound_j1]
    rw [decide_eq_true (show (i : Int) < (List.length x10_3 : Int) by omega)]
    simp only [cond_true, inB_nat h, Int.toNat_natCast, getD_nat _ i h]) (fun n x5_2 => by
    simp only [impl_FormatRound_l3, impl_FormatRound_j1]
    rw [decide_eq_false (by omega)]
    simp only [cond_false]) hl x10_3 0 n x5_2 rfl (by omega) hn
theorem laws_eqPairS_l4_r {N : Nat} {x0_1 : (List QIIE)} {x1_2 : (List QIIE)} {k4_0_6 : Option Ret} {k4_1_7 : Bool → Option Ret} (hl : (List.length x0_1) ≤ maxLen) {n : Nat} (hn : (List.length x0_1) < n) : laws_eqPairS_l4 N x0_1 x1_2 n k4_0_6 k4_1_7 (0 : Int) =
    goL (fun (i : Nat) (x : QIIE) (next : Option Ret) =>
        bif (inB (i : Int) (List.length x1_2)) then
          laws_eqPair N x (List.getD x1_2 (Int.toNat (i : Int)) zQIIE) (fun (r25_5 : Bool) =>
            bif (!r25_5) then
              k4_1_7 false
            else
              next)
        else none) (
        k4_0_6) x0_1 0 := by
  exact range0 (f := fun n i => laws_eqPairS_l4 N x0_1 x1_2 n k4_0_6 k4_1_7 i) (l := x0_1) (fun n i h => by
    simp only [laws_eqPairS_l4]
    rw [decide_eq_true (show (i : Int) < (List.length x0_1 : Int) by omega)]
    simp only [cond_true, inB_nat h, Int.toNat_natCast, getD_nat _ i h]) (fun n => by
    simp only [laws_eqPairS_l4]
    rw [decide_eq_false (by omega)]
    simp only [cond_false]) hl x0_1 0 n rfl (by omega) hn
end Go.Pv.R
