/- Their loops over lists, without rounds. -/
import Derived.Test.YtglickbfclhmkaaPlRes
namespace Go.Pv.R
set_option linter.unusedVariables false
set_option linter.unusedSimpArgs false
theorem spec_IsFormula_l3_r {N : Nat} {x0_1 : (List Int)} {k3_0_9 : Int → Option Ret} {k3_1_10 : Bool → Option Ret} {x3_2 : Int} (hl : (List.length x0_1) ≤ maxLen) {n : Nat} (hn : (List.length x0_1) < n) : spec_IsFormula_l3 N x0_1 n k3_0_9 k3_1_10 x3_2 (0 : Int) =
    goL1 (fun (i : Nat) (x : Int) (x3_2 : Int) (next : Int → Option Ret) =>
        spec_l1In N x (0 : Int) (5 : Int) (fun (r16_5 : Bool) =>
          bif r16_5 then
            next (IntKind.wrap .i64 (x3_2 + (1 : Int)))
          else
            bif (x == (-1 : Int)) then
              bif (decide (x3_2 ≥ (1 : Int))) then
                next x3_2
              else
                spec_l1In N x (-4 : Int) (-2 : Int) (fun (r34_6 : Bool) =>
                  bif r34_6 then
                    bif (decide (x3_2 ≥ (2 : Int))) then
                      next (IntKind.wrap .i64 (x3_2 - (1 : Int)))
                    else
                      k3_1_10 false
                  else
                    k3_1_10 false)
            else
              spec_l1In N x (-4 : Int) (-2 : Int) (fun (r34_7 : Bool) =>
                bif r34_7 then
                  bif (decide (x3_2 ≥ (2 : Int))) then
                    next (IntKind.wrap .i64 (x3_2 - (1 : Int)))
                  else
                    k3_1_10 false
                else
                  k3_1_10 false))) (fun (x3_2 : Int) =>
        k3_0_9 x3_2) x0_1 0 x3_2 := by
  exact range1 (f := fun n x3_2 i => spec_IsFormula_l3 N x0_1 n k3_0_9 k3_1_10 x3_2 i) (l := x0_1) (fun n i x3_2 h => by
    simp only [spec_IsFormula_l3]
    rw [decide_eq_true (show (i : Int) < (List.length x0_1 : Int) by omega)]
    simp only [cond_true, inB_nat h, Int.toNat_natCast, getD_nat _ i h]) (fun n x3_2 => by
    simp only [spec_IsFormula_l3]
    rw [decide_eq_false (by omega)]
    simp only [cond_false]) hl x0_1 0 n x3_2 rfl (by omega) hn
theorem spec_FormulaText_l5_r {x0_2 : (List Int)} {k5_0_7 : (List ByteArray) → Option Ret} {x3_3 : (List ByteArray)} (hl : (List.length x0_2) ≤ maxLen) {n : Nat} (hn : (List.length x0_2) < n) : spec_FormulaText_l5 x0_2 n k5_0_7 x3_3 (0 : Int) =
    goL1 (fun (i : Nat) (x : Int) (x3_3 : (List ByteArray)) (next : (List ByteArray) → Option Ret) =>
        bif (decide (x ≥ (0 : Int))) then
          bif (decide ((0 : Int) ≤ x) && decide (x ≤ (IntKind.wrap .i64 (x + (1 : Int)))) && decide ((IntKind.wrap .i64 (x + (1 : Int))) ≤ (ByteArray.size s_abcdef : Int))) then
            bif (decide ((List.length x3_3 + List.length [(ByteArray.extract s_abcdef (Int.toNat x) (Int.toNat (IntKind.wrap .i64 (x + (1 : Int)))))]) * 1 ≤ 4398046511104)) then
              next (x3_3 ++ [(ByteArray.extract s_abcdef (Int.toNat x) (Int.toNat (IntKind.wrap .i64 (x + (1 : Int)))))])
            else none
          else none
        else
          bif (x == (-1 : Int)) then
            bif (inB (IntKind.wrap .i64 ((List.length x3_3 : Int) - (1 : Int))) (List.length x3_3)) then
              bif (decide (ByteArray.size s_h21 + ByteArray.size (List.getD x3_3 (Int.toNat (IntKind.wrap .i64 ((List.length x3_3 : Int) - (1 : Int)))) ByteArray.empty) ≤ 9223372036854775807)) then
                bif (inB (IntKind.wrap .i64 ((List.length x3_3 : Int) - (1 : Int))) (List.length x3_3)) then
                  next (List.set x3_3 (Int.toNat (IntKind.wrap .i64 ((List.length x3_3 : Int) - (1 : Int)))) (s_h21 ++ (List.getD x3_3 (Int.toNat (IntKind.wrap .i64 ((List.length x3_3 : Int) - (1 : Int)))) ByteArray.empty)))
                else none
              else none
            else none
          else
            bif (inB (IntKind.wrap .i64 ((List.length x3_3 : Int) - (2 : Int))) (List.length x3_3)) then
              bif (decide (ByteArray.size s_h28 + ByteArray.size (List.getD x3_3 (Int.toNat (IntKind.wrap .i64 ((List.length x3_3 : Int) - (2 : Int)))) ByteArray.empty) ≤ 9223372036854775807)) then
                bif (inB (IntKind.wrap .i64 ((List.length x3_3 : Int) - (1 : Int))) (List.length x3_3)) then
                  bif (inB (IntKind.wrap .i64 ((IntKind.wrap .i64 (0 - x)) - (2 : Int))) (List.length [s_h26, s_h7c, s_h3e])) then
                    bif (decide (ByteArray.size (s_h28 ++ (List.getD x3_3 (Int.toNat (IntKind.wrap .i64 ((List.length x3_3 : Int) - (2 : Int)))) ByteArray.empty)) + ByteArray.size (List.getD [s_h26, s_h7c, s_h3e] (Int.toNat (IntKind.wrap .i64 ((IntKind.wrap .i64 (0 - x)) - (2 : Int)))) ByteArray.empty) ≤ 9223372036854775807)) then
                      bif (decide (ByteArray.size ((s_h28 ++ (List.getD x3_3 (Int.toNat (IntKind.wrap .i64 ((List.length x3_3 : Int) - (2 : Int)))) ByteArray.empty)) ++ (List.getD [s_h26, s_h7c, s_h3e] (Int.toNat (IntKind.wrap .i64 ((IntKind.wrap .i64 (0 - x)) - (2 : Int)))) ByteArray.empty)) + ByteArray.size (List.getD x3_3 (Int.toNat (IntKind.wrap .i64 ((List.length x3_3 : Int) - (1 : Int)))) ByteArray.empty) ≤ 9223372036854775807)) then
                        bif (decide (ByteArray.size (((s_h28 ++ (List.getD x3_3 (Int.toNat (IntKind.wrap .i64 ((List.length x3_3 : Int) - (2 : Int)))) ByteArray.empty)) ++ (List.getD [s_h26, s_h7c, s_h3e] (Int.toNat (IntKind.wrap .i64 ((IntKind.wrap .i64 (0 - x)) - (2 : Int)))) ByteArray.empty)) ++ (List.getD x3_3 (Int.toNat (IntKind.wrap .i64 ((List.length x3_3 : Int) - (1 : Int)))) ByteArray.empty)) + ByteArray.size s_h29 ≤ 9223372036854775807)) then
                          bif (decide ((0 : Int) ≤ (0 : Int)) && decide ((0 : Int) ≤ (IntKind.wrap .i64 ((List.length x3_3 : Int) - (2 : Int)))) && decide ((IntKind.wrap .i64 ((List.length x3_3 : Int) - (2 : Int))) ≤ (List.length x3_3 : Int))) then
                            bif (decide ((List.length (List.take (Int.toNat (IntKind.wrap .i64 ((List.length x3_3 : Int) - (2 : Int)))) x3_3) + List.length [((((s_h28 ++ (List.getD x3_3 (Int.toNat (IntKind.wrap .i64 ((List.length x3_3 : Int) - (2 : Int)))) ByteArray.empty)) ++ (List.getD [s_h26, s_h7c, s_h3e] (Int.toNat (IntKind.wrap .i64 ((IntKind.wrap .i64 (0 - x)) - (2 : Int)))) ByteArray.empty)) ++ (List.getD x3_3 (Int.toNat (IntKind.wrap .i64 ((List.length x3_3 : Int) - (1 : Int)))) ByteArray.empty)) ++ s_h29)]) * 1 ≤ 4398046511104)) then
                              next ((List.take (Int.toNat (IntKind.wrap .i64 ((List.length x3_3 : Int) - (2 : Int)))) x3_3) ++ [((((s_h28 ++ (List.getD x3_3 (Int.toNat (IntKind.wrap .i64 ((List.length x3_3 : Int) - (2 : Int)))) ByteArray.empty)) ++ (List.getD [s_h26, s_h7c, s_h3e] (Int.toNat (IntKind.wrap .i64 ((IntKind.wrap .i64 (0 - x)) - (2 : Int)))) ByteArray.empty)) ++ (List.getD x3_3 (Int.toNat (IntKind.wrap .i64 ((List.length x3_3 : Int) - (1 : Int)))) ByteArray.empty)) ++ s_h29)])
                            else none
                          else none
                        else none
                      else none
                    else none
                  else none
                else none
              else none
            else none) (fun (x3_3 : (List ByteArray)) =>
        k5_0_7 x3_3) x0_2 0 x3_3 := by
  exact range1 (f := fun n x3_3 i => spec_FormulaText_l5 x0_2 n k5_0_7 x3_3 i) (l := x0_2) (fun n i x3_3 h => by
    simp only [spec_FormulaText_l5]
    rw [decide_eq_true (show (i : Int) < (List.length x0_2 : Int) by omega)]
    simp only [cond_true, inB_nat h, Int.toNat_natCast, getD_nat _ i h]) (fun n x3_3 => by
    simp only [spec_FormulaText_l5]
    rw [decide_eq_false (by omega)]
    simp only [cond_false]) hl x0_2 0 n x3_3 rfl (by omega) hn
theorem slices_Concat_int_l11_r {x25_12 : (List (List Int))} {k11_0_16 : (List Int) → Option Ret} {x6_11 : (List Int)} (hl : (List.length x25_12) ≤ maxLen) {n : Nat} (hn : (List.length x25_12) < n) : slices_Concat_int_l11 x25_12 (List.length x25_12 : Int) n k11_0_16 x6_11 (0 : Int) =
    goL1 (fun (i : Nat) (x : (List Int)) (x6_11 : (List Int)) (next : (List Int) → Option Ret) =>
        bif (decide ((List.length x6_11 + List.length x) * 1 ≤ 4398046511104)) then
          next (x6_11 ++ x)
        else none) (fun (x6_11 : (List Int)) =>
        k11_0_16 x6_11) x25_12 0 x6_11 := by
  exact range1 (f := fun n x6_11 i => slices_Concat_int_l11 x25_12 (List.length x25_12 : Int) n k11_0_16 x6_11 i) (l := x25_12) (fun n i x6_11 h => by
    simp only [slices_Concat_int_l11]
    rw [decide_eq_true (show (i : Int) < (List.length x25_12 : Int) by omega)]
    simp only [cond_true, inB_nat h, Int.toNat_natCast, getD_nat _ i h]) (fun n x6_11 => by
    simp only [slices_Concat_int_l11]
    rw [decide_eq_false (by omega)]
    simp only [cond_false]) hl x25_12 0 n x6_11 rfl (by omega) hn
theorem slices_Concat_int_l3_r {x0_1 : (List (List Int))} {x9_3 : (List (List Int))} {k3_0_7 : Int → Option Ret} {x3_2 : Int} (hl : (List.length x9_3) ≤ maxLen) {n : Nat} (hn : (List.length x9_3) < n) : slices_Concat_int_l3 x0_1 x9_3 (List.length x9_3 : Int) n k3_0_7 x3_2 (0 : Int) =
    goL1 (fun (i : Nat) (x : (List Int)) (x3_2 : Int) (next : Int → Option Ret) =>
        bif (decide ((IntKind.wrap .i64 (x3_2 + (List.length x : Int))) < (0 : Int))) then
          none
        else
          next (IntKind.wrap .i64 (x3_2 + (List.length x : Int)))) (fun (x3_2 : Int) =>
        k3_0_7 x3_2) x9_3 0 x3_2 := by
  exact range1 (f := fun n x3_2 i => slices_Concat_int_l3 x0_1 x9_3 (List.length x9_3 : Int) n k3_0_7 x3_2 i) (l := x9_3) (fun n i x3_2 h => by
    simp only [slices_Concat_int_l3]
    rw [decide_eq_true (show (i : Int) < (List.length x9_3 : Int) by omega)]
    simp only [cond_true, inB_nat h, Int.toNat_natCast, getD_nat _ i h]) (fun n x3_2 => by
    simp only [slices_Concat_int_l3]
    rw [decide_eq_false (by omega)]
    simp only [cond_false]) hl x9_3 0 n x3_2 rfl (by omega) hn
theorem impl_rowsOf_l5_r {N : Nat} {x15_3 : (List Int)} {k5_0_12 : (List Int) → Option Ret} {k5_1_13 : Int → Bool → Option Ret} {x4_2 : (List Int)} (hl : (List.length x15_3) ≤ maxLen) {n : Nat} (hn : (List.length x15_3) < n) : impl_rowsOf_l5 N x15_3 (List.length x15_3 : Int) n k5_0_12 k5_1_13 x4_2 (0 : Int) =
    goL1 (fun (i : Nat) (x : Int) (x4_2 : (List Int)) (next : (List Int) → Option Ret) =>
        impl_InRange N x (0 : Int) (5 : Int) (fun (r25_7 : Bool) =>
          bif r25_7 then
            impl_letterRows N x (fun (r28_8 : Int) =>
              bif (decide ((List.length x4_2 + List.length [r28_8]) * 1 ≤ 4398046511104)) then
                next (x4_2 ++ [r28_8])
              else none)
          else
            bif (x == (-1 : Int)) then
              bif (decide ((List.length x4_2 : Int) ≥ (1 : Int))) then
                bif (inB (IntKind.wrap .i64 ((List.length x4_2 : Int) - (1 : Int))) (List.length x4_2)) then
                  bif (inB (IntKind.wrap .i64 ((List.length x4_2 : Int) - (1 : Int))) (List.length x4_2)) then
                    next (List.set x4_2 (Int.toNat (IntKind.wrap .i64 ((List.length x4_2 : Int) - (1 : Int)))) (xorV .u64 (List.getD x4_2 (Int.toNat (IntKind.wrap .i64 ((List.length x4_2 : Int) - (1 : Int)))) (0 : Int))))
                  else none
                else none
              else
                impl_InRange N x (-4 : Int) (-2 : Int) (fun (r50_9 : Bool) =>
                  bif r50_9 then
                    bif (decide ((List.length x4_2 : Int) ≥ (2 : Int))) then
                      bif (inB (IntKind.wrap .i64 ((List.length x4_2 : Int) - (2 : Int))) (List.length x4_2)) then
                        bif (inB (IntKind.wrap .i64 ((List.length x4_2 : Int) - (1 : Int))) (List.length x4_2)) then
                          bif (decide ((0 : Int) ≤ (0 : Int)) && decide ((0 : Int) ≤ (IntKind.wrap .i64 ((List.length x4_2 : Int) - (1 : Int)))) && decide ((IntKind.wrap .i64 ((List.length x4_2 : Int) - (1 : Int))) ≤ (List.length x4_2 : Int))) then
                            bif (x == (-2 : Int)) then
                              bif (inB (IntKind.wrap .i64 ((List.length x4_2 : Int) - (2 : Int))) (List.length (List.take (Int.toNat (IntKind.wrap .i64 ((List.length x4_2 : Int) - (1 : Int)))) x4_2))) then
                                next (List.set (List.take (Int.toNat (IntKind.wrap .i64 ((List.length x4_2 : Int) - (1 : Int)))) x4_2) (Int.toNat (IntKind.wrap .i64 ((List.length x4_2 : Int) - (2 : Int)))) (IntKind.wrap .u64 (BitVec.toNat (BitVec.ofInt (IntKind.bits .u64) (List.getD x4_2 (Int.toNat (IntKind.wrap .i64 ((List.length x4_2 : Int) - (2 : Int)))) (0 : Int)) &&& BitVec.ofInt (IntKind.bits .u64) (List.getD x4_2 (Int.toNat (IntKind.wrap .i64 ((List.length x4_2 : Int) - (1 : Int)))) (0 : Int))))))
                              else none
                            else
                              bif (x == (-3 : Int)) then
                                bif (inB (IntKind.wrap .i64 ((List.length x4_2 : Int) - (2 : Int))) (List.length (List.take (Int.toNat (IntKind.wrap .i64 ((List.length x4_2 : Int) - (1 : Int)))) x4_2))) then
                                  next (List.set (List.take (Int.toNat (IntKind.wrap .i64 ((List.length x4_2 : Int) - (1 : Int)))) x4_2) (Int.toNat (IntKind.wrap .i64 ((List.length x4_2 : Int) - (2 : Int)))) (IntKind.wrap .u64 (BitVec.toNat (BitVec.ofInt (IntKind.bits .u64) (List.getD x4_2 (Int.toNat (IntKind.wrap .i64 ((List.length x4_2 : Int) - (2 : Int)))) (0 : Int)) ||| BitVec.ofInt (IntKind.bits .u64) (List.getD x4_2 (Int.toNat (IntKind.wrap .i64 ((List.length x4_2 : Int) - (1 : Int)))) (0 : Int))))))
                                else none
                              else
                                bif (inB (IntKind.wrap .i64 ((List.length x4_2 : Int) - (2 : Int))) (List.length (List.take (Int.toNat (IntKind.wrap .i64 ((List.length x4_2 : Int) - (1 : Int)))) x4_2))) then
                                  next (List.set (List.take (Int.toNat (IntKind.wrap .i64 ((List.length x4_2 : Int) - (1 : Int)))) x4_2) (Int.toNat (IntKind.wrap .i64 ((List.length x4_2 : Int) - (2 : Int)))) (IntKind.wrap .u64 (BitVec.toNat (BitVec.ofInt (IntKind.bits .u64) (xorV .u64 (List.getD x4_2 (Int.toNat (IntKind.wrap .i64 ((List.length x4_2 : Int) - (2 : Int)))) (0 : Int))) ||| BitVec.ofInt (IntKind.bits .u64) (List.getD x4_2 (Int.toNat (IntKind.wrap .i64 ((List.length x4_2 : Int) - (1 : Int)))) (0 : Int))))))
                                else none
                          else none
                        else none
                      else none
                    else
                      k5_1_13 (0 : Int) false
                  else
                    k5_1_13 (0 : Int) false)
            else
              impl_InRange N x (-4 : Int) (-2 : Int) (fun (r50_10 : Bool) =>
                bif r50_10 then
                  bif (decide ((List.length x4_2 : Int) ≥ (2 : Int))) then
                    bif (inB (IntKind.wrap .i64 ((List.length x4_2 : Int) - (2 : Int))) (List.length x4_2)) then
                      bif (inB (IntKind.wrap .i64 ((List.length x4_2 : Int) - (1 : Int))) (List.length x4_2)) then
                        bif (decide ((0 : Int) ≤ (0 : Int)) && decide ((0 : Int) ≤ (IntKind.wrap .i64 ((List.length x4_2 : Int) - (1 : Int)))) && decide ((IntKind.wrap .i64 ((List.length x4_2 : Int) - (1 : Int))) ≤ (List.length x4_2 : Int))) then
                          bif (x == (-2 : Int)) then
                            bif (inB (IntKind.wrap .i64 ((List.length x4_2 : Int) - (2 : Int))) (List.length (List.take (Int.toNat (IntKind.wrap .i64 ((List.length x4_2 : Int) - (1 : Int)))) x4_2))) then
                              next (List.set (List.take (Int.toNat (IntKind.wrap .i64 ((List.length x4_2 : Int) - (1 : Int)))) x4_2) (Int.toNat (IntKind.wrap .i64 ((List.length x4_2 : Int) - (2 : Int)))) (IntKind.wrap .u64 (BitVec.toNat (BitVec.ofInt (IntKind.bits .u64) (List.getD x4_2 (Int.toNat (IntKind.wrap .i64 ((List.length x4_2 : Int) - (2 : Int)))) (0 : Int)) &&& BitVec.ofInt (IntKind.bits .u64) (List.getD x4_2 (Int.toNat (IntKind.wrap .i64 ((List.length x4_2 : Int) - (1 : Int)))) (0 : Int))))))
                            else none
                          else
                            bif (x == (-3 : Int)) then
                              bif (inB (IntKind.wrap .i64 ((List.length x4_2 : Int) - (2 : Int))) (List.length (List.take (Int.toNat (IntKind.wrap .i64 ((List.length x4_2 : Int) - (1 : Int)))) x4_2))) then
                                next (List.set (List.take (Int.toNat (IntKind.wrap .i64 ((List.length x4_2 : Int) - (1 : Int)))) x4_2) (Int.toNat (IntKind.wrap .i64 ((List.length x4_2 : Int) - (2 : Int)))) (IntKind.wrap .u64 (BitVec.toNat (BitVec.ofInt (IntKind.bits .u64) (List.getD x4_2 (Int.toNat (IntKind.wrap .i64 ((List.length x4_2 : Int) - (2 : Int)))) (0 : Int)) ||| BitVec.ofInt (IntKind.bits .u64) (List.getD x4_2 (Int.toNat (IntKind.wrap .i64 ((List.length x4_2 : Int) - (1 : Int)))) (0 : Int))))))
                              else none
                            else
                              bif (inB (IntKind.wrap .i64 ((List.length x4_2 : Int) - (2 : Int))) (List.length (List.take (Int.toNat (IntKind.wrap .i64 ((List.length x4_2 : Int) - (1 : Int)))) x4_2))) then
                                next (List.set (List.take (Int.toNat (IntKind.wrap .i64 ((List.length x4_2 : Int) - (1 : Int)))) x4_2) (Int.toNat (IntKind.wrap .i64 ((List.length x4_2 : Int) - (2 : Int)))) (IntKind.wrap .u64 (BitVec.toNat (BitVec.ofInt (IntKind.bits .u64) (xorV .u64 (List.getD x4_2 (Int.toNat (IntKind.wrap .i64 ((List.length x4_2 : Int) - (2 : Int)))) (0 : Int))) ||| BitVec.ofInt (IntKind.bits .u64) (List.getD x4_2 (Int.toNat (IntKind.wrap .i64 ((List.length x4_2 : Int) - (1 : Int)))) (0 : Int))))))
                              else none
                        else none
                      else none
                    else none
                  else
                    k5_1_13 (0 : Int) false
                else
                  k5_1_13 (0 : Int) false))) (fun (x4_2 : (List Int)) =>
        k5_0_12 x4_2) x15_3 0 x4_2 := by
  exact range1 (f := fun n x4_2 i => impl_rowsOf_l5 N x15_3 (List.length x15_3 : Int) n k5_0_12 k5_1_13 x4_2 i) (l := x15_3) (fun n i x4_2 h => by
    simp only [impl_rowsOf_l5]
    rw [decide_eq_true (show (i : Int) < (List.length x15_3 : Int) by omega)]
    simp only [cond_true, inB_nat h, Int.toNat_natCast, getD_nat _ i h]) (fun n x4_2 => by
    simp only [impl_rowsOf_l5]
    rw [decide_eq_false (by omega)]
    simp only [cond_false]) hl x15_3 0 n x4_2 rfl (by omega) hn
theorem impl_FormulaText_l5_r {x12_3 : (List Int)} {k5_0_8 : (List ByteArray) → Option Ret} {x3_2 : (List ByteArray)} (hl : (List.length x12_3) ≤ maxLen) {n : Nat} (hn : (List.length x12_3) < n) : impl_FormulaText_l5 x12_3 (List.length x12_3 : Int) n k5_0_8 x3_2 (0 : Int) =
    goL1 (fun (i : Nat) (x : Int) (x3_2 : (List ByteArray)) (next : (List ByteArray) → Option Ret) =>
        bif (decide (x ≥ (0 : Int))) then
          bif (decide ((0 : Int) ≤ x) && decide (x ≤ (IntKind.wrap .i64 (x + (1 : Int)))) && decide ((IntKind.wrap .i64 (x + (1 : Int))) ≤ (ByteArray.size s_abcdef : Int))) then
            bif (decide ((List.length x3_2 + List.length [(ByteArray.extract s_abcdef (Int.toNat x) (Int.toNat (IntKind.wrap .i64 (x + (1 : Int)))))]) * 1 ≤ 4398046511104)) then
              next (x3_2 ++ [(ByteArray.extract s_abcdef (Int.toNat x) (Int.toNat (IntKind.wrap .i64 (x + (1 : Int)))))])
            else none
          else none
        else
          bif (x == (-1 : Int)) then
            bif (inB (IntKind.wrap .i64 ((List.length x3_2 : Int) - (1 : Int))) (List.length x3_2)) then
              bif (decide (ByteArray.size s_h21 + ByteArray.size (List.getD x3_2 (Int.toNat (IntKind.wrap .i64 ((List.length x3_2 : Int) - (1 : Int)))) ByteArray.empty) ≤ 9223372036854775807)) then
                bif (inB (IntKind.wrap .i64 ((List.length x3_2 : Int) - (1 : Int))) (List.length x3_2)) then
                  next (List.set x3_2 (Int.toNat (IntKind.wrap .i64 ((List.length x3_2 : Int) - (1 : Int)))) (s_h21 ++ (List.getD x3_2 (Int.toNat (IntKind.wrap .i64 ((List.length x3_2 : Int) - (1 : Int)))) ByteArray.empty)))
                else none
              else none
            else none
          else
            bif (inB (IntKind.wrap .i64 ((List.length x3_2 : Int) - (2 : Int))) (List.length x3_2)) then
              bif (decide (ByteArray.size s_h28 + ByteArray.size (List.getD x3_2 (Int.toNat (IntKind.wrap .i64 ((List.length x3_2 : Int) - (2 : Int)))) ByteArray.empty) ≤ 9223372036854775807)) then
                bif (decide ((0 : Int) ≤ (IntKind.wrap .i64 ((-2 : Int) - x))) && decide ((IntKind.wrap .i64 ((-2 : Int) - x)) ≤ (IntKind.wrap .i64 ((IntKind.wrap .i64 ((-2 : Int) - x)) + (1 : Int)))) && decide ((IntKind.wrap .i64 ((IntKind.wrap .i64 ((-2 : Int) - x)) + (1 : Int))) ≤ (ByteArray.size s_h267c3e : Int))) then
                  bif (decide (ByteArray.size (s_h28 ++ (List.getD x3_2 (Int.toNat (IntKind.wrap .i64 ((List.length x3_2 : Int) - (2 : Int)))) ByteArray.empty)) + ByteArray.size (ByteArray.extract s_h267c3e (Int.toNat (IntKind.wrap .i64 ((-2 : Int) - x))) (Int.toNat (IntKind.wrap .i64 ((IntKind.wrap .i64 ((-2 : Int) - x)) + (1 : Int))))) ≤ 9223372036854775807)) then
                    bif (inB (IntKind.wrap .i64 ((List.length x3_2 : Int) - (1 : Int))) (List.length x3_2)) then
                      bif (decide (ByteArray.size ((s_h28 ++ (List.getD x3_2 (Int.toNat (IntKind.wrap .i64 ((List.length x3_2 : Int) - (2 : Int)))) ByteArray.empty)) ++ (ByteArray.extract s_h267c3e (Int.toNat (IntKind.wrap .i64 ((-2 : Int) - x))) (Int.toNat (IntKind.wrap .i64 ((IntKind.wrap .i64 ((-2 : Int) - x)) + (1 : Int)))))) + ByteArray.size (List.getD x3_2 (Int.toNat (IntKind.wrap .i64 ((List.length x3_2 : Int) - (1 : Int)))) ByteArray.empty) ≤ 9223372036854775807)) then
                        bif (decide (ByteArray.size (((s_h28 ++ (List.getD x3_2 (Int.toNat (IntKind.wrap .i64 ((List.length x3_2 : Int) - (2 : Int)))) ByteArray.empty)) ++ (ByteArray.extract s_h267c3e (Int.toNat (IntKind.wrap .i64 ((-2 : Int) - x))) (Int.toNat (IntKind.wrap .i64 ((IntKind.wrap .i64 ((-2 : Int) - x)) + (1 : Int)))))) ++ (List.getD x3_2 (Int.toNat (IntKind.wrap .i64 ((List.length x3_2 : Int) - (1 : Int)))) ByteArray.empty)) + ByteArray.size s_h29 ≤ 9223372036854775807)) then
                          bif (inB (IntKind.wrap .i64 ((List.length x3_2 : Int) - (2 : Int))) (List.length x3_2)) then
                            bif (decide ((0 : Int) ≤ (0 : Int)) && decide ((0 : Int) ≤ (IntKind.wrap .i64 ((List.length x3_2 : Int) - (1 : Int)))) && decide ((IntKind.wrap .i64 ((List.length x3_2 : Int) - (1 : Int))) ≤ (List.length (List.set x3_2 (Int.toNat (IntKind.wrap .i64 ((List.length x3_2 : Int) - (2 : Int)))) ((((s_h28 ++ (List.getD x3_2 (Int.toNat (IntKind.wrap .i64 ((List.length x3_2 : Int) - (2 : Int)))) ByteArray.empty)) ++ (ByteArray.extract s_h267c3e (Int.toNat (IntKind.wrap .i64 ((-2 : Int) - x))) (Int.toNat (IntKind.wrap .i64 ((IntKind.wrap .i64 ((-2 : Int) - x)) + (1 : Int)))))) ++ (List.getD x3_2 (Int.toNat (IntKind.wrap .i64 ((List.length x3_2 : Int) - (1 : Int)))) ByteArray.empty)) ++ s_h29)) : Int))) then
                              next (List.take (Int.toNat (IntKind.wrap .i64 ((List.length x3_2 : Int) - (1 : Int)))) (List.set x3_2 (Int.toNat (IntKind.wrap .i64 ((List.length x3_2 : Int) - (2 : Int)))) ((((s_h28 ++ (List.getD x3_2 (Int.toNat (IntKind.wrap .i64 ((List.length x3_2 : Int) - (2 : Int)))) ByteArray.empty)) ++ (ByteArray.extract s_h267c3e (Int.toNat (IntKind.wrap .i64 ((-2 : Int) - x))) (Int.toNat (IntKind.wrap .i64 ((IntKind.wrap .i64 ((-2 : Int) - x)) + (1 : Int)))))) ++ (List.getD x3_2 (Int.toNat (IntKind.wrap .i64 ((List.length x3_2 : Int) - (1 : Int)))) ByteArray.empty)) ++ s_h29)))
                            else none
                          else none
                        else none
                      else none
                    else none
                  else none
                else none
              else none
            else none) (fun (x3_2 : (List ByteArray)) =>
        k5_0_8 x3_2) x12_3 0 x3_2 := by
  exact range1 (f := fun n x3_2 i => impl_FormulaText_l5 x12_3 (List.length x12_3 : Int) n k5_0_8 x3_2 i) (l := x12_3) (fun n i x3_2 h => by
    simp only [impl_FormulaText_l5]
    rw [decide_eq_true (show (i : Int) < (List.length x12_3 : Int) by omega)]
    simp only [cond_true, inB_nat h, Int.toNat_natCast, getD_nat _ i h]) (fun n x3_2 => by
    simp only [impl_FormulaText_l5]
    rw [decide_eq_false (by omega)]
    simp only [cond_false]) hl x12_3 0 n x3_2 rfl (by omega) hn
theorem laws_eqIntS_l4_r {x0_1 : (List Int)} {x1_2 : (List Int)} {k4_0_5 : Option Ret} {k4_1_6 : Bool → Option Ret} (hl : (List.length x0_1) ≤ maxLen) {n : Nat} (hn : (List.length x0_1) < n) : laws_eqIntS_l4 x0_1 x1_2 n k4_0_5 k4_1_6 (0 : Int) =
    goL (fun (i : Nat) (x : Int) (next : Option Ret) =>
        bif (inB (i : Int) (List.length x1_2)) then
          bif (x != (List.getD x1_2 (Int.toNat (i : Int)) (0 : Int))) then
            k4_1_6 false
          else
            next
        else none) (
        k4_0_5) x0_1 0 := by
  exact range0 (f := fun n i => laws_eqIntS_l4 x0_1 x1_2 n k4_0_5 k4_1_6 i) (l := x0_1) (fun n i h => by
    simp only [laws_eqIntS_l4]
    rw [decide_eq_true (show (i : Int) < (List.length x0_1 : Int) by omega)]
    simp only [cond_true, inB_nat h, Int.toNat_natCast, getD_nat _ i h]) (fun n => by
    simp only [laws_eqIntS_l4]
    rw [decide_eq_false (by omega)]
    simp only [cond_false]) hl x0_1 0 n rfl (by omega) hn
end Go.Pv.R
