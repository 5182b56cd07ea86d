/- Their loops over lists, without rounds. -/
import Derived.Test.YthdoldaaodmeeaaDoorPlRes
namespace Go.Pv.R
set_option linter.unusedVariables false
set_option linter.unusedSimpArgs false
theorem laws_eqIntS_l4_r {x0_1 : (List Int)} {x1_2 : (List Int)} {k4_0_5 : Option Ret} {k4_1_6 : Bool → Option Ret} (hl : (List.length x0_1) ≤ maxLen) {n : Nat} (hn : (List.length x0_1) < n) : laws_eqIntS_l4 x0_1 x1_2 n k4_0_5 k4_1_6 (0 : Int) =
    goL (fun (i : Nat) (x : Int) (next : Option Ret) =>
        bif (inB (i : Int) (List.length x1_2)) then
          bif (x != (List.getD x1_2 (Int.toNat (i : Int)) (0 : Int))) then
            k4_1_6 false
          else
            next
        else none) (
        k4_0_5) x0_1 0 := by
  exact range0 (f := fun n i => laws_eqIntS_l4 x0_1 x1_2 n k4_0_5 k4_1_6 i) (l := x0_1) (fun n i h => by
    simp only [laws_eqIntS_l4]
    rw [decide_eq_true (show (i : Int) < (List.length x0_1 : Int) by omega)]
    simp only [cond_true, inB_nat h, Int.toNat_natCast, getD_nat _ i h]) (fun n => by
    simp only [laws_eqIntS_l4]
    rw [decide_eq_false (by omega)]
    simp only [cond_false]) hl x0_1 0 n rfl (by omega) hn
theorem laws_eqIntSS_l4_r {N : Nat} {x0_1 : (List (List Int))} {x1_2 : (List (List Int))} {k4_0_6 : Option Ret} {k4_1_7 : Bool → Option Ret} (hl : (List.length x0_1) ≤ maxLen) {n : Nat} (hn : (List.length x0_1) < n) : laws_eqIntSS_l4 N x0_1 x1_2 n k4_0_6 k4_1_7 (0 : Int) =
    goL (fun (i : Nat) (x : (List Int)) (next : Option Ret) =>
        bif (inB (i : Int) (List.length x1_2)) then
          laws_eqIntS N x (List.getD x1_2 (Int.toNat (i : Int)) ([] : (List Int))) (fun (r25_5 : Bool) =>
            bif (!r25_5) then
              k4_1_7 false
            else
              next)
        else none) (
        k4_0_6) x0_1 0 := by
  exact range0 (f := fun n i => laws_eqIntSS_l4 N x0_1 x1_2 n k4_0_6 k4_1_7 i) (l := x0_1) (fun n i h => by
    simp only [laws_eqIntSS_l4]
    rw [decide_eq_true (show (i : Int) < (List.length x0_1 : Int) by omega)]
    simp only [cond_true, inB_nat h, Int.toNat_natCast, getD_nat _ i h]) (fun n => by
    simp only [laws_eqIntSS_l4]
    rw [decide_eq_false (by omega)]
    simp only [cond_false]) hl x0_1 0 n rfl (by omega) hn
theorem spec_IsGraph_l2_r {N : Nat} {x1_1 : QILLIE} {k2_0_6 : Option Ret} {k2_1_7 : Bool → Option Ret} (hl : (List.length x1_1.2) ≤ maxLen) {n : Nat} (hn : (List.length x1_1.2) < n) : spec_IsGraph_l2 N x1_1 n k2_0_6 k2_1_7 (0 : Int) =
    goL (fun (i : Nat) (x : _) (next : Option Ret) =>
        bif ((List.length x : Int) != (2 : Int)) then
          k2_1_7 false
        else
          bif (inB (0 : Int) (List.length x)) then
            spec_l1In N (List.getD x (Int.toNat (0 : Int)) (0 : Int)) (0 : Int) (IntKind.wrap .i64 (x1_1.1 - (1 : Int))) (fun (r28_4 : Bool) =>
              bif (!r28_4) then
                k2_1_7 false
              else
                bif (inB (1 : Int) (List.length x)) then
                  spec_l1In N (List.getD x (Int.toNat (1 : Int)) (0 : Int)) (0 : Int) (IntKind.wrap .i64 (x1_1.1 - (1 : Int))) (fun (r38_5 : Bool) =>
                    bif (!r38_5) then
                      k2_1_7 false
                    else
                      bif (decide ((i : Int) > (0 : Int))) then
                        bif (inB (IntKind.wrap .i64 ((i : Int) - (1 : Int))) (List.length x1_1.2)) then
                          bif (inB (0 : Int) (List.length (List.getD x1_1.2 (Int.toNat (IntKind.wrap .i64 ((i : Int) - (1 : Int)))) ([] : (List Int))))) then
                            bif (inB (0 : Int) (List.length x)) then
                              bif (decide ((List.getD (List.getD x1_1.2 (Int.toNat (IntKind.wrap .i64 ((i : Int) - (1 : Int)))) ([] : (List Int))) (Int.toNat (0 : Int)) (0 : Int)) > (List.getD x (Int.toNat (0 : Int)) (0 : Int)))) then
                                k2_1_7 false
                              else
                                bif (inB (0 : Int) (List.length (List.getD x1_1.2 (Int.toNat (IntKind.wrap .i64 ((i : Int) - (1 : Int)))) ([] : (List Int))))) then
                                  bif (inB (0 : Int) (List.length x)) then
                                    bif ((List.getD (List.getD x1_1.2 (Int.toNat (IntKind.wrap .i64 ((i : Int) - (1 : Int)))) ([] : (List Int))) (Int.toNat (0 : Int)) (0 : Int)) == (List.getD x (Int.toNat (0 : Int)) (0 : Int))) then
                                      bif (inB (1 : Int) (List.length (List.getD x1_1.2 (Int.toNat (IntKind.wrap .i64 ((i : Int) - (1 : Int)))) ([] : (List Int))))) then
                                        bif (inB (1 : Int) (List.length x)) then
                                          bif (decide ((List.getD (List.getD x1_1.2 (Int.toNat (IntKind.wrap .i64 ((i : Int) - (1 : Int)))) ([] : (List Int))) (Int.toNat (1 : Int)) (0 : Int)) ≥ (List.getD x (Int.toNat (1 : Int)) (0 : Int)))) then
                                            k2_1_7 false
                                          else
                                            next
                                        else none
                                      else none
                                    else
                                      next
                                  else none
                                else none
                            else none
                          else none
                        else none
                      else
                        next)
                else none)
          else none) (
        k2_0_6) x1_1.2 0 := by
  exact range0 (f := fun n i => spec_IsGraph_l2 N x1_1 n k2_0_6 k2_1_7 i) (l := x1_1.2) (fun n i h => by
    simp only [spec_IsGraph_l2]
    rw [decide_eq_true (show (i : Int) < (List.length x1_1.2 : Int) by omega)]
    simp only [cond_true, inB_nat h, Int.toNat_natCast, getD_nat _ i h]) (fun n => by
    simp only [spec_IsGraph_l2]
    rw [decide_eq_false (by omega)]
    simp only [cond_false]) hl x1_1.2 0 n rfl (by omega) hn
theorem spec_GraphText_l5_r {N : Nat} {x1_3 : QILLIE} {k5_0_9 : ByteArray → Option Ret} {x3_4 : ByteArray} (hl : (List.length x1_3.2) ≤ maxLen) {n : Nat} (hn : (List.length x1_3.2) < n) : spec_GraphText_l5 N x1_3 n k5_0_9 x3_4 (0 : Int) =
    goL1 (fun (i : Nat) (x : _) (x3_4 : ByteArray) (next : ByteArray → Option Ret) =>
        bif (decide (ByteArray.size x3_4 + ByteArray.size s_h20 ≤ 9223372036854775807)) then
          bif (inB (0 : Int) (List.length x)) then
            bif (inB (1 : Int) (List.length x)) then
              spec_FormatInt N (List.getD x (Int.toNat (0 : Int)) (0 : Int)) (fun (r27_7 : ByteArray) =>
                bif (decide (ByteArray.size (x3_4 ++ s_h20) + ByteArray.size r27_7 ≤ 9223372036854775807)) then
                  bif (decide (ByteArray.size ((x3_4 ++ s_h20) ++ r27_7) + ByteArray.size s_h3e ≤ 9223372036854775807)) then
                    spec_FormatInt N (List.getD x (Int.toNat (1 : Int)) (0 : Int)) (fun (r37_8 : ByteArray) =>
                      bif (decide (ByteArray.size (((x3_4 ++ s_h20) ++ r27_7) ++ s_h3e) + ByteArray.size r37_8 ≤ 9223372036854775807)) then
                        next ((((x3_4 ++ s_h20) ++ r27_7) ++ s_h3e) ++ r37_8)
                      else none)
                  else none
                else none)
            else none
          else none
        else none) (fun (x3_4 : ByteArray) =>
        k5_0_9 x3_4) x1_3.2 0 x3_4 := by
  exact range1 (f := fun n x3_4 i => spec_GraphText_l5 N x1_3 n k5_0_9 x3_4 i) (l := x1_3.2) (fun n i x3_4 h => by
    simp only [spec_GraphText_l5]
    rw [decide_eq_true (show (i : Int) < (List.length x1_3.2 : Int) by omega)]
    simp only [cond_true, inB_nat h, Int.toNat_natCast, getD_nat _ i h]) (fun n x3_4 => by
    simp only [spec_GraphText_l5]
    rw [decide_eq_false (by omega)]
    simp only [cond_false]) hl x1_3.2 0 n x3_4 rfl (by omega) hn
theorem slices_Compare_int_l2_r {N : Nat} {x0_1 : (List Int)} {x1_2 : (List Int)} {x9_3 : (List Int)} {k2_0_8 : Option Ret} {k2_1_9 : Int → Option Ret} (hl : (List.length x9_3) ≤ maxLen) {n : Nat} (hn : (List.length x9_3) < n) : slices_Compare_int_l2 N x0_1 x1_2 x9_3 (List.length x9_3 : Int) n k2_0_8 k2_1_9 (0 : Int) =
    goL (fun (i : Nat) (x : Int) (next : Option Ret) =>
        bif (decide ((i : Int) ≥ (List.length x1_2 : Int))) then
          k2_1_9 (1 : Int)
        else
          bif (inB (i : Int) (List.length x1_2)) then
            cmp_Compare_int N x (List.getD x1_2 (Int.toNat (i : Int)) (0 : Int)) (fun (r26_7 : Int) =>
              bif (r26_7 != (0 : Int)) then
                k2_1_9 r26_7
              else
                next)
          else none) (
        k2_0_8) x9_3 0 := by
  exact range0 (f := fun n i => slices_Compare_int_l2 N x0_1 x1_2 x9_3 (List.length x9_3 : Int) n k2_0_8 k2_1_9 i) (l := x9_3) (fun n i h => by
    simp only [slices_Compare_int_l2]
    rw [decide_eq_true (show (i : Int) < (List.length x9_3 : Int) by omega)]
    simp only [cond_true, inB_nat h, Int.toNat_natCast, getD_nat _ i h]) (fun n => by
    simp only [slices_Compare_int_l2]
    rw [decide_eq_false (by omega)]
    simp only [cond_false]) hl x9_3 0 n rfl (by omega) hn
theorem impl_IsGraph_l4_r {N : Nat} {x1_2 : QILLIE} {x10_3 : (List (List Int))} {k4_0_10 : Option Ret} {k4_1_11 : Bool → Option Ret} (hl : (List.length x10_3) ≤ maxLen) {n : Nat} (hn : (List.length x10_3) < n) : impl_IsGraph_l4 N x1_2 x10_3 (List.length x10_3 : Int) n k4_0_10 k4_1_11 (0 : Int) =
    goL (fun (i : Nat) (x : (List Int)) (next : Option Ret) =>
        bif ((List.length x : Int) != (2 : Int)) then
          k4_1_11 false
        else
          bif (inB (0 : Int) (List.length x)) then
            impl_isClaim N x1_2 (List.getD x (Int.toNat (0 : Int)) (0 : Int)) (fun (r25_7 : Bool) =>
              bif (!r25_7) then
                k4_1_11 false
              else
                bif (inB (1 : Int) (List.length x)) then
                  impl_isClaim N x1_2 (List.getD x (Int.toNat (1 : Int)) (0 : Int)) (fun (r33_8 : Bool) =>
                    bif (!r33_8) then
                      k4_1_11 false
                    else
                      bif (decide ((i : Int) > (0 : Int))) then
                        bif (inB (IntKind.wrap .i64 ((i : Int) - (1 : Int))) (List.length x1_2.2)) then
                          slices_Compare_int N (List.getD x1_2.2 (Int.toNat (IntKind.wrap .i64 ((i : Int) - (1 : Int)))) ([] : (List Int))) x (fun (r47_9 : Int) =>
                            bif (decide (r47_9 ≥ (0 : Int))) then
                              k4_1_11 false
                            else
                              next)
                        else none
                      else
                        next)
                else none)
          else none) (
        k4_0_10) x10_3 0 := by
  exact range0 (f := fun n i => impl_IsGraph_l4 N x1_2 x10_3 (List.length x10_3 : Int) n k4_0_10 k4_1_11 i) (l := x10_3) (fun n i h => by
    simp only [impl_IsGraph_l4]
    rw [decide_eq_true (show (i : Int) < (List.length x10_3 : Int) by omega)]
    simp only [cond_true, inB_nat h, Int.toNat_natCast, getD_nat _ i h]) (fun n => by
    simp only [impl_IsGraph_l4]
    rw [decide_eq_false (by omega)]
    simp only [cond_false]) hl x10_3 0 n rfl (by omega) hn
theorem impl_GraphText_l5_r {N : Nat} {x13_4 : (List (List Int))} {k5_0_10 : ByteArray → Option Ret} {x3_3 : ByteArray} (hl : (List.length x13_4) ≤ maxLen) {n : Nat} (hn : (List.length x13_4) < n) : impl_GraphText_l5 N x13_4 (List.length x13_4 : Int) n k5_0_10 x3_3 (0 : Int) =
    goL1 (fun (i : Nat) (x : (List Int)) (x3_3 : ByteArray) (next : ByteArray → Option Ret) =>
        bif (inB (0 : Int) (List.length x)) then
          bif (inB (1 : Int) (List.length x)) then
            impl_FormatInt N (List.getD x (Int.toNat (0 : Int)) (0 : Int)) (fun (r23_8 : ByteArray) =>
              bif (decide (ByteArray.size s_h20 + ByteArray.size r23_8 ≤ 9223372036854775807)) then
                bif (decide (ByteArray.size (s_h20 ++ r23_8) + ByteArray.size s_h3e ≤ 9223372036854775807)) then
                  impl_FormatInt N (List.getD x (Int.toNat (1 : Int)) (0 : Int)) (fun (r29_9 : ByteArray) =>
                    bif (decide (ByteArray.size ((s_h20 ++ r23_8) ++ s_h3e) + ByteArray.size r29_9 ≤ 9223372036854775807)) then
                      bif (decide (ByteArray.size x3_3 + ByteArray.size (((s_h20 ++ r23_8) ++ s_h3e) ++ r29_9) ≤ 9223372036854775807)) then
                        next (x3_3 ++ (((s_h20 ++ r23_8) ++ s_h3e) ++ r29_9))
                      else none
                    else none)
                else none
              else none)
          else none
        else none) (fun (x3_3 : ByteArray) =>
        k5_0_10 x3_3) x13_4 0 x3_3 := by
  exact range1 (f := fun n x3_3 i => impl_GraphText_l5 N x13_4 (List.length x13_4 : Int) n k5_0_10 x3_3 i) (l := x13_4) (fun n i x3_3 h => by
    simp only [impl_GraphText_l5]
    rw [decide_eq_true (show (i : Int) < (List.length x13_4 : Int) by omega)]
    simp only [cond_true, inB_nat h, Int.toNat_natCast, getD_nat _ i h]) (fun n x3_3 => by
    simp only [impl_GraphText_l5]
    rw [decide_eq_false (by omega)]
    simp only [cond_false]) hl x13_4 0 n x3_3 rfl (by omega) hn
end Go.Pv.R
