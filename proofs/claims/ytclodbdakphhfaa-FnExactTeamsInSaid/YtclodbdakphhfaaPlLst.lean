/- Their loops over lists, without rounds. -/
import Derived.Test.YtclodbdakphhfaaPlRes
namespace Go.Pv.R
set_option linter.unusedVariables false
set_option linter.unusedSimpArgs false
theorem laws_toLineS_l3_r {N : Nat} {x0_1 : (List QIIIIE)} {k3_0_6 : (List QIIIIE) → Option Ret} {x3_2 : (List QIIIIE)} (hl : (List.length x0_1) ≤ maxLen) {n : Nat} (hn : (List.length x0_1) < n) : laws_toLineS_l3 N x0_1 n k3_0_6 x3_2 (0 : Int) =
    goL1 (fun (i : Nat) (x : QIIIIE) (x3_2 : (List QIIIIE)) (next : (List QIIIIE) → Option Ret) =>
        laws_toLine N x (fun (r20_5 : QIIIIE) =>
          bif (inB (i : Int) (List.length x3_2)) then
            next (List.set x3_2 (Int.toNat (i : Int)) r20_5)
          else none)) (fun (x3_2 : (List QIIIIE)) =>
        k3_0_6 x3_2) x0_1 0 x3_2 := by
  exact range1 (f := fun n x3_2 i => laws_toLineS_l3 N x0_1 n k3_0_6 x3_2 i) (l := x0_1) (fun n i x3_2 h => by
    simp only [laws_toLineS_l3]
    rw [decide_eq_true (show (i : Int) < (List.length x0_1 : Int) by omega)]
    simp only [cond_true, inB_nat h, Int.toNat_natCast, getD_nat _ i h]) (fun n x3_2 => by
    simp only [laws_toLineS_l3]
    rw [decide_eq_false (by omega)]
    simp only [cond_false]) hl x0_1 0 n x3_2 rfl (by omega) hn
theorem spec_Hash_l3_r {N : Nat} {x0_1 : (List Int)} {k3_0_6 : Int → Option Ret} {x3_2 : Int} (hl : (List.length x0_1) ≤ maxLen) {n : Nat} (hn : (List.length x0_1) < n) : spec_Hash_l3 N x0_1 n k3_0_6 x3_2 (0 : Int) =
    goL1 (fun (i : Nat) (x : Int) (x3_2 : Int) (next : Int → Option Ret) =>
        spec_Mod N x (2147483647 : Int) (fun (r17_5 : Int) =>
          next (Int.tmod (IntKind.wrap .i64 ((IntKind.wrap .i64 ((IntKind.wrap .i64 (x3_2 * (1000003 : Int))) + r17_5)) + (13 : Int))) (2147483647 : Int)))) (fun (x3_2 : Int) =>
        k3_0_6 x3_2) x0_1 0 x3_2 := by
  exact range1 (f := fun n x3_2 i => spec_Hash_l3 N x0_1 n k3_0_6 x3_2 i) (l := x0_1) (fun n i x3_2 h => by
    simp only [spec_Hash_l3]
    rw [decide_eq_true (show (i : Int) < (List.length x0_1 : Int) by omega)]
    simp only [cond_true, inB_nat h, Int.toNat_natCast, getD_nat _ i h]) (fun n x3_2 => by
    simp only [spec_Hash_l3]
    rw [decide_eq_false (by omega)]
    simp only [cond_false]) hl x0_1 0 n x3_2 rfl (by omega) hn
theorem spec_AreMinutes_l3_r {N : Nat} {x0_1 : (List QIIIIE)} {k3_0_8 : Option Ret} {k3_1_9 : Bool → Option Ret} {x3_2 : Int} (hl : (List.length x0_1) ≤ maxLen) {n : Nat} (hn : (List.length x0_1) < n) : spec_AreMinutes_l3 N x0_1 n k3_0_8 k3_1_9 x3_2 (0 : Int) =
    goL1 (fun (i : Nat) (x : QIIIIE) (x3_2 : Int) (next : Int → Option Ret) =>
        bif (decide ((List.length x0_1 : Int) ≤ (200 : Int))) then
          spec_l27Seal N x3_2 x (fun (r23_5 : Int) =>
            bif (x.1 != (IntKind.wrap .i64 ((i : Int) + (1 : Int)))) then
              k3_1_9 false
            else
              spec_l1In N x.2.1 (1 : Int) (9 : Int) (fun (r32_6 : Bool) =>
                bif (!r32_6) then
                  k3_1_9 false
                else
                  spec_l1In N x.2.2.1 (0 : Int) (99 : Int) (fun (r38_7 : Bool) =>
                    bif (!r38_7) then
                      k3_1_9 false
                    else
                      bif (x.2.2.2 != r23_5) then
                        k3_1_9 false
                      else
                        next r23_5)))
        else
          k3_0_8) (fun (x3_2 : Int) =>
        k3_0_8) x0_1 0 x3_2 := by
  exact range1 (f := fun n x3_2 i => spec_AreMinutes_l3 N x0_1 n k3_0_8 k3_1_9 x3_2 i) (l := x0_1) (fun n i x3_2 h => by
    simp only [spec_AreMinutes_l3]
    rw [decide_eq_true (show (i : Int) < (List.length x0_1 : Int) by omega)]
    simp only [cond_true, inB_nat h, Int.toNat_natCast, getD_nat _ i h]) (fun n x3_2 => by
    simp only [spec_AreMinutes_l3]
    rw [decide_eq_false (by omega)]
    simp only [cond_false]) hl x0_1 0 n x3_2 rfl (by omega) hn
theorem spec_l10Put_l2_r {x0_1 : (List Int)} {x1_2 : Int} {k2_0_5 : Int → Option Ret} (hl : (List.length x0_1) ≤ maxLen) {n : Nat} (hn : (List.length x0_1) < n) : spec_l10Put_l2 x0_1 x1_2 n k2_0_5 (0 : Int) =
    goL (fun (i : Nat) (x : Int) (next : Option Ret) =>
        bif (decide (x < x1_2)) then
          next
        else
          k2_0_5 (i : Int)) (
        k2_0_5 (List.length x0_1 : Int)) x0_1 0 := by
  exact range0 (f := fun n i => spec_l10Put_l2 x0_1 x1_2 n k2_0_5 i) (l := x0_1) (fun n i h => by
    simp only [spec_l10Put_l2]
    rw [decide_eq_true (show (i : Int) < (List.length x0_1 : Int) by omega)]
    simp only [cond_true, inB_nat h, Int.toNat_natCast, getD_nat _ i h]) (fun n => by
    simp only [spec_l10Put_l2]
    rw [decide_eq_false (by omega)]
    simp only [cond_false]) hl x0_1 0 n rfl (by omega) hn
theorem impl_Hash_l3_r {N : Nat} {x6_2 : (List Int)} {k3_0_7 : Int → Option Ret} {x3_1 : Int} (hl : (List.length x6_2) ≤ maxLen) {n : Nat} (hn : (List.length x6_2) < n) : impl_Hash_l3 N x6_2 (List.length x6_2 : Int) n k3_0_7 x3_1 (0 : Int) =
    goL1 (fun (i : Nat) (x : Int) (x3_1 : Int) (next : Int → Option Ret) =>
        impl_fold N x3_1 x (fun (r14_6 : Int) =>
          next r14_6)) (fun (x3_1 : Int) =>
        k3_0_7 x3_1) x6_2 0 x3_1 := by
  exact range1 (f := fun n x3_1 i => impl_Hash_l3 N x6_2 (List.length x6_2 : Int) n k3_0_7 x3_1 i) (l := x6_2) (fun n i x3_1 h => by
    simp only [impl_Hash_l3]
    rw [decide_eq_true (show (i : Int) < (List.length x6_2 : Int) by omega)]
    simp only [cond_true, inB_nat h, Int.toNat_natCast, getD_nat _ i h]) (fun n x3_1 => by
    simp only [impl_Hash_l3]
    rw [decide_eq_false (by omega)]
    simp only [cond_false]) hl x6_2 0 n x3_1 rfl (by omega) hn
theorem impl_AreMinutes_l5_r {N : Nat} {x9_2 : (List QIIIIE)} {k5_0_9 : Option Ret} {k5_1_10 : Bool → Option Ret} {x3_1 : Int} (hl : (List.length x9_2) ≤ maxLen) {n : Nat} (hn : (List.length x9_2) < n) : impl_AreMinutes_l5 N x9_2 (List.length x9_2 : Int) n k5_0_9 k5_1_10 x3_1 (0 : Int) =
    goL1 (fun (i : Nat) (x : QIIIIE) (x3_1 : Int) (next : Int → Option Ret) =>
        bif (x.1 != (IntKind.wrap .i64 ((i : Int) + (1 : Int)))) then
          k5_1_10 false
        else
          impl_InRange N x.2.1 (1 : Int) (9 : Int) (fun (r24_6 : Bool) =>
            bif (!r24_6) then
              k5_1_10 false
            else
              impl_InRange N x.2.2.1 (0 : Int) (99 : Int) (fun (r30_7 : Bool) =>
                bif (!r30_7) then
                  k5_1_10 false
                else
                  impl_lineSeal N x3_1 x (fun (r38_8 : Int) =>
                    bif (x.2.2.2 != r38_8) then
                      k5_1_10 false
                    else
                      next x.2.2.2)))) (fun (x3_1 : Int) =>
        k5_0_9) x9_2 0 x3_1 := by
  exact range1 (f := fun n x3_1 i => impl_AreMinutes_l5 N x9_2 (List.length x9_2 : Int) n k5_0_9 k5_1_10 x3_1 i) (l := x9_2) (fun n i x3_1 h => by
    simp only [impl_AreMinutes_l5]
    rw [decide_eq_true (show (i : Int) < (List.length x9_2 : Int) by omega)]
    simp only [cond_true, inB_nat h, Int.toNat_natCast, getD_nat _ i h]) (fun n x3_1 => by
    simp only [impl_AreMinutes_l5]
    rw [decide_eq_false (by omega)]
    simp only [cond_false]) hl x9_2 0 n x3_1 rfl (by omega) hn
theorem laws_eqIntS_l4_r {x0_1 : (List Int)} {x1_2 : (List Int)} {k4_0_5 : Option Ret} {k4_1_6 : Bool → Option Ret} (hl : (List.length x0_1) ≤ maxLen) {n : Nat} (hn : (List.length x0_1) < n) : laws_eqIntS_l4 x0_1 x1_2 n k4_0_5 k4_1_6 (0 : Int) =
    goL (fun (i : Nat) (x : Int) (next : Option Ret) =>
        bif (inB (i : Int) (List.length x1_2)) then
          bif (x != (List.getD x1_2 (Int.toNat (i : Int)) (0 : Int))) then
            k4_1_6 false
          else
            next
        else none) (
        k4_0_5) x0_1 0 := by
  exact range0 (f := fun n i => laws_eqIntS_l4 x0_1 x1_2 n k4_0_5 k4_1_6 i) (l := x0_1) (fun n i h => by
    simp only [laws_eqIntS_l4]
    rw [decide_eq_true (show (i : Int) < (List.length x0_1 : Int) by omega)]
    simp only [cond_true, inB_nat h, Int.toNat_natCast, getD_nat _ i h]) (fun n => by
    simp only [laws_eqIntS_l4]
    rw [decide_eq_false (by omega)]
    simp only [cond_false]) hl x0_1 0 n rfl (by omega) hn
theorem laws_eqLineS_l4_r {N : Nat} {x0_1 : (List QIIIIE)} {x1_2 : (List QIIIIE)} {k4_0_6 : Option Ret} {k4_1_7 : Bool → Option Ret} (hl : (List.length x0_1) ≤ maxLen) {n : Nat} (hn : (List.length x0_1) < n) : laws_eqLineS_l4 N x0_1 x1_2 n k4_0_6 k4_1_7 (0 : Int) =
    goL (fun (i : Nat) (x : QIIIIE) (next : Option Ret) =>
        bif (inB (i : Int) (List.length x1_2)) then
          laws_eqLine N x (List.getD x1_2 (Int.toNat (i : Int)) zQIIIIE) (fun (r25_5 : Bool) =>
            bif (!r25_5) then
              k4_1_7 false
            else
              next)
        else none) (
        k4_0_6) x0_1 0 := by
  exact range0 (f := fun n i => laws_eqLineS_l4 N x0_1 x1_2 n k4_0_6 k4_1_7 i) (l := x0_1) (fun n i h => by
    simp only [laws_eqLineS_l4]
    rw [decide_eq_true (show (i : Int) < (List.length x0_1 : Int) by omega)]
    simp only [cond_true, inB_nat h, Int.toNat_natCast, getD_nat _ i h]) (fun n => by
    simp only [laws_eqLineS_l4]
    rw [decide_eq_false (by omega)]
    simp only [cond_false]) hl x0_1 0 n rfl (by omega) hn
theorem spec_l24Without_l3_r {x0_1 : (List Int)} {x1_2 : Int} {k3_0_7 : (List Int) → Option Ret} {x5_3 : (List Int)} (hl : (List.length x0_1) ≤ maxLen) {n : Nat} (hn : (List.length x0_1) < n) : spec_l24Without_l3 x0_1 x1_2 n k3_0_7 x5_3 (0 : Int) =
    goL1 (fun (i : Nat) (x : Int) (x5_3 : (List Int)) (next : (List Int) → Option Ret) =>
        bif (x != x1_2) then
          bif (decide ((List.length x5_3 + List.length [x]) * 1 ≤ 4398046511104)) then
            next (x5_3 ++ [x])
          else none
        else
          next x5_3) (fun (x5_3 : (List Int)) =>
        k3_0_7 x5_3) x0_1 0 x5_3 := by
  exact range1 (f := fun n x5_3 i => spec_l24Without_l3 x0_1 x1_2 n k3_0_7 x5_3 i) (l := x0_1) (fun n i x5_3 h => by
    simp only [spec_l24Without_l3]
    rw [decide_eq_true (show (i : Int) < (List.length x0_1 : Int) by omega)]
    simp only [cond_true, inB_nat h, Int.toNat_natCast, getD_nat _ i h]) (fun n x5_3 => by
    simp only [spec_l24Without_l3]
    rw [decide_eq_false (by omega)]
    simp only [cond_false]) hl x0_1 0 n x5_3 rfl (by omega) hn
theorem spec_TeamsIn_l3_r {N : Nat} {x0_1 : (List QIIIIE)} {k3_0_9 : (List Int) → Option Ret} {x3_2 : (List Int)} (hl : (List.length x0_1) ≤ maxLen) {n : Nat} (hn : (List.length x0_1) < n) : spec_TeamsIn_l3 N x0_1 n k3_0_9 x3_2 (0 : Int) =
    goL1 (fun (i : Nat) (x : QIIIIE) (x3_2 : (List Int)) (next : (List Int) → Option Ret) =>
        spec_AreMinutes N x0_1 (fun (r12_5 : Bool) =>
          bif r12_5 then
            bif (x.2.1 == (1 : Int)) then
              spec_l10Put N x3_2 x.2.2.1 (fun (r29_6 : (List Int)) =>
                next r29_6)
            else
              bif (x.2.1 == (6 : Int)) then
                spec_l24Without N x3_2 x.2.2.1 (fun (r38_7 : (List Int)) =>
                  next r38_7)
              else
                next x3_2
          else
            k3_0_9 x3_2)) (fun (x3_2 : (List Int)) =>
        k3_0_9 x3_2) x0_1 0 x3_2 := by
  exact range1 (f := fun n x3_2 i => spec_TeamsIn_l3 N x0_1 n k3_0_9 x3_2 i) (l := x0_1) (fun n i x3_2 h => by
    simp only [spec_TeamsIn_l3]
    rw [decide_eq_true (show (i : Int) < (List.length x0_1 : Int) by omega)]
    simp only [cond_true, inB_nat h, Int.toNat_natCast, getD_nat _ i h]) (fun n x3_2 => by
    simp only [spec_TeamsIn_l3]
    rw [decide_eq_false (by omega)]
    simp only [cond_false]) hl x0_1 0 n x3_2 rfl (by omega) hn
theorem impl_without_l3_r {x1_1 : Int} {x9_3 : (List Int)} {k3_0_8 : (List Int) → Option Ret} {x5_2 : (List Int)} (hl : (List.length x9_3) ≤ maxLen) {n : Nat} (hn : (List.length x9_3) < n) : impl_without_l3 x1_1 x9_3 (List.length x9_3 : Int) n k3_0_8 x5_2 (0 : Int) =
    goL1 (fun (i : Nat) (x : Int) (x5_2 : (List Int)) (next : (List Int) → Option Ret) =>
        bif (x != x1_1) then
          bif (decide ((List.length x5_2 + List.length [x]) * 1 ≤ 4398046511104)) then
            next (x5_2 ++ [x])
          else none
        else
          next x5_2) (fun (x5_2 : (List Int)) =>
        k3_0_8 x5_2) x9_3 0 x5_2 := by
  exact range1 (f := fun n x5_2 i => impl_without_l3 x1_1 x9_3 (List.length x9_3 : Int) n k3_0_8 x5_2 i) (l := x9_3) (fun n i x5_2 h => by
    simp only [impl_without_l3]
    rw [decide_eq_true (show (i : Int) < (List.length x9_3 : Int) by omega)]
    simp only [cond_true, inB_nat h, Int.toNat_natCast, getD_nat _ i h]) (fun n x5_2 => by
    simp only [impl_without_l3]
    rw [decide_eq_false (by omega)]
    simp only [cond_false]) hl x9_3 0 n x5_2 rfl (by omega) hn
theorem slices_Index_int_l2_r {x0_1 : (List Int)} {x1_2 : Int} {k2_0_6 : Option Ret} {k2_1_7 : Int → Option Ret} (hl : (List.length x0_1) ≤ maxLen) {n : Nat} (hn : (List.length x0_1) < n) : slices_Index_int_l2 x0_1 x1_2 (List.length x0_1 : Int) n k2_0_6 k2_1_7 (0 : Int) =
    goL (fun (i : Nat) (x : Int) (next : Option Ret) =>
        bif (x1_2 == x) then
          k2_1_7 (i : Int)
        else
          next) (
        k2_0_6) x0_1 0 := by
  exact range0 (f := fun n i => slices_Index_int_l2 x0_1 x1_2 (List.length x0_1 : Int) n k2_0_6 k2_1_7 i) (l := x0_1) (fun n i h => by
    simp only [slices_Index_int_l2]
    rw [decide_eq_true (show (i : Int) < (List.length x0_1 : Int) by omega)]
    simp only [cond_true, inB_nat h, Int.toNat_natCast, getD_nat _ i h]) (fun n => by
    simp only [slices_Index_int_l2]
    rw [decide_eq_false (by omega)]
    simp only [cond_false]) hl x0_1 0 n rfl (by omega) hn
theorem impl_TeamsIn_l5_r {N : Nat} {x11_3 : (List QIIIIE)} {k5_0_10 : (List Int) → Option Ret} {x3_2 : (List Int)} (hl : (List.length x11_3) ≤ maxLen) {n : Nat} (hn : (List.length x11_3) < n) : impl_TeamsIn_l5 N x11_3 (List.length x11_3 : Int) n k5_0_10 x3_2 (0 : Int) =
    goL1 (fun (i : Nat) (x : QIIIIE) (x3_2 : (List Int)) (next : (List Int) → Option Ret) =>
        bif (x.2.1 == (6 : Int)) then
          impl_without N x3_2 x.2.2.1 (fun (r24_7 : (List Int)) =>
            next r24_7)
        else
          bif (x.2.1 == (1 : Int)) then
            slices_Contains_int N x3_2 x.2.2.1 (fun (r33_8 : Bool) =>
              bif (!r33_8) then
                bif (decide ((List.length x3_2 + List.length [x.2.2.1]) * 1 ≤ 4398046511104)) then
                  next (x3_2 ++ [x.2.2.1])
                else none
              else
                next x3_2)
          else
            next x3_2) (fun (x3_2 : (List Int)) =>
        k5_0_10 x3_2) x11_3 0 x3_2 := by
  exact range1 (f := fun n x3_2 i => impl_TeamsIn_l5 N x11_3 (List.length x11_3 : Int) n k5_0_10 x3_2 i) (l := x11_3) (fun n i x3_2 h => by
    simp only [impl_TeamsIn_l5]
    rw [decide_eq_true (show (i : Int) < (List.length x11_3 : Int) by omega)]
    simp only [cond_true, inB_nat h, Int.toNat_natCast, getD_nat _ i h]) (fun n x3_2 => by
    simp only [impl_TeamsIn_l5]
    rw [decide_eq_false (by omega)]
    simp only [cond_false]) hl x11_3 0 n x3_2 rfl (by omega) hn
end Go.Pv.R
