/- Their loops over lists, without rounds. -/
import Derived.Test.YtcpakhaogbempaaPlRes
namespace Go.Pv.R
set_option linter.unusedVariables false
set_option linter.unusedSimpArgs false
theorem slices_IndexFunc_Team_impl_FindTeam_1_l2_r {N : Nat} {x0_1 : (List QIIIIILIE)} {x1_2 : Int} {k2_0_7 : Option Ret} {k2_1_8 : Int → Option Ret} (hl : (List.length x0_1) ≤ maxLen) {n : Nat} (hn : (List.length x0_1) < n) : slices_IndexFunc_Team_impl_FindTeam_1_l2 N x0_1 x1_2 (List.length x0_1 : Int) n k2_0_7 k2_1_8 (0 : Int) =
    goL (fun (i : Nat) (x : QIIIIILIE) (next : Option Ret) =>
        impl_FindTeam_1 N x x1_2 (fun (r16_6 : Bool) =>
          bif r16_6 then
            k2_1_8 (i : Int)
          else
            next)) (
        k2_0_7) x0_1 0 := by
  exact range0 (f := fun n i => slices_IndexFunc_Team_impl_FindTeam_1_l2 N x0_1 x1_2 (List.length x0_1 : Int) n k2_0_7 k2_1_8 i) (l := x0_1) (fun n i h => by
    simp only [slices_IndexFunc_Team_impl_FindTeam_1_l2]
    rw [decide_eq_true (show (i : Int) < (List.length x0_1 : Int) by omega)]
    simp only [cond_true, inB_nat h, Int.toNat_natCast, getD_nat _ i h]) (fun n => by
    simp only [slices_IndexFunc_Team_impl_FindTeam_1_l2]
    rw [decide_eq_false (by omega)]
    simp only [cond_false]) hl x0_1 0 n rfl (by omega) hn
theorem impl_times_l3_r {x1_1 : Int} {x8_3 : (List Int)} {k3_0_8 : Int → Option Ret} {x5_2 : Int} (hl : (List.length x8_3) ≤ maxLen) {n : Nat} (hn : (List.length x8_3) < n) : impl_times_l3 x1_1 x8_3 (List.length x8_3 : Int) n k3_0_8 x5_2 (0 : Int) =
    goL1 (fun (i : Nat) (x : Int) (x5_2 : Int) (next : Int → Option Ret) =>
        bif (x == x1_1) then
          next (IntKind.wrap .i64 (x5_2 + (1 : Int)))
        else
          next x5_2) (fun (x5_2 : Int) =>
        k3_0_8 x5_2) x8_3 0 x5_2 := by
  exact range1 (f := fun n x5_2 i => impl_times_l3 x1_1 x8_3 (List.length x8_3 : Int) n k3_0_8 x5_2 i) (l := x8_3) (fun n i x5_2 h => by
    simp only [impl_times_l3]
    rw [decide_eq_true (show (i : Int) < (List.length x8_3 : Int) by omega)]
    simp only [cond_true, inB_nat h, Int.toNat_natCast, getD_nat _ i h]) (fun n x5_2 => by
    simp only [impl_times_l3]
    rw [decide_eq_false (by omega)]
    simp only [cond_false]) hl x8_3 0 n x5_2 rfl (by omega) hn
theorem impl_AreTeams_l10_r {N : Nat} {x0_16 : (List QIIIIILIE)} {x4_17 : QIIIIILIE} {x12_18 : (List QIIIIILIE)} {x13_19 : Int} {x14_20 : Int} {x72_21 : (List Int)} {k10_0_28 : Option Ret} {k10_1_29 : Bool → Option Ret} (hl : (List.length x72_21) ≤ maxLen) {n : Nat} (hn : (List.length x72_21) < n) : impl_AreTeams_l10 N x0_16 x4_17 x12_18 x13_19 x14_20 x72_21 (List.length x72_21 : Int) n k10_0_28 k10_1_29 (0 : Int) =
    goL (fun (i : Nat) (x : Int) (next : Option Ret) =>
        impl_FindTeam N x0_16 x (fun (r80_25 : Int) =>
          bif (decide (r80_25 < (0 : Int))) then
            k10_1_29 false
          else
            bif (x == x4_17.1) then
              k10_1_29 false
            else
              bif (inB r80_25 (List.length x0_16)) then
                impl_times N x4_17.2.2.2.2.2 x (fun (r93_26 : Int) =>
                  impl_times N (List.getD x0_16 (Int.toNat r80_25) zQIIIIILIE).2.2.2.2.2 x4_17.1 (fun (r101_27 : Int) =>
                    bif (r93_26 != r101_27) then
                      k10_1_29 false
                    else
                      next))
              else none)) (
        k10_0_28) x72_21 0 := by
  exact range0 (f := fun n i => impl_AreTeams_l10 N x0_16 x4_17 x12_18 x13_19 x14_20 x72_21 (List.length x72_21 : Int) n k10_0_28 k10_1_29 i) (l := x72_21) (fun n i h => by
    simp only [impl_AreTeams_l10]
    rw [decide_eq_true (show (i : Int) < (List.length x72_21 : Int) by omega)]
    simp only [cond_true, inB_nat h, Int.toNat_natCast, getD_nat _ i h]) (fun n => by
    simp only [impl_AreTeams_l10]
    rw [decide_eq_false (by omega)]
    simp only [cond_false]) hl x72_21 0 n rfl (by omega) hn
theorem impl_AreTeams_l4_r {N : Nat} {x0_1 : (List QIIIIILIE)} {x12_2 : (List QIIIIILIE)} {k4_0_32 : Option Ret} {k4_1_33 : Bool → Option Ret} (hl : (List.length x12_2) ≤ maxLen) {n : Nat} (hn : (List.length x12_2) < n) : impl_AreTeams_l4 N x0_1 x12_2 (List.length x12_2 : Int) n k4_0_32 k4_1_33 (0 : Int) =
    goL (fun (i : Nat) (x : QIIIIILIE) (next : Option Ret) =>
        impl_InRange N x.1 (1 : Int) (99 : Int) (fun (r24_6 : Bool) =>
          bif (!r24_6) then
            k4_1_33 false
          else
            bif (decide ((i : Int) > (0 : Int))) then
              bif (inB (IntKind.wrap .i64 ((i : Int) - (1 : Int))) (List.length x0_1)) then
                bif (decide (x.1 ≤ (List.getD x0_1 (Int.toNat (IntKind.wrap .i64 ((i : Int) - (1 : Int)))) zQIIIIILIE).1)) then
                  k4_1_33 false
                else
                  impl_InRange N x.2.1 (1 : Int) (99 : Int) (fun (r44_7 : Bool) =>
                    bif (!r44_7) then
                      k4_1_33 false
                    else
                      bif (decide ((List.length x.2.2.2.2.2 : Int) > (20 : Int))) then
                        k4_1_33 false
                      else
                        impl_InRange N x.2.2.1 (0 : Int) (List.length x.2.2.2.2.2 : Int) (fun (r55_8 : Bool) =>
                          bif (!r55_8) then
                            k4_1_33 false
                          else
                            impl_InRange N x.2.2.2.2.1 (0 : Int) (List.length x.2.2.2.2.2 : Int) (fun (r62_9 : Bool) =>
                              bif (!r62_9) then
                                k4_1_33 false
                              else
                                impl_InRange N x.2.2.2.1 (0 : Int) (100000 : Int) (fun (r68_10 : Bool) =>
                                  bif (!r68_10) then
                                    k4_1_33 false
                                  else
                                    impl_AreTeams_l10 N x0_1 x x12_2 (List.length x12_2 : Int) (i : Int) x.2.2.2.2.2 (List.length x.2.2.2.2.2 : Int) N next k4_1_33 (0 : Int)))))
              else none
            else
              impl_InRange N x.2.1 (1 : Int) (99 : Int) (fun (r44_11 : Bool) =>
                bif (!r44_11) then
                  k4_1_33 false
                else
                  bif (decide ((List.length x.2.2.2.2.2 : Int) > (20 : Int))) then
                    k4_1_33 false
                  else
                    impl_InRange N x.2.2.1 (0 : Int) (List.length x.2.2.2.2.2 : Int) (fun (r55_12 : Bool) =>
                      bif (!r55_12) then
                        k4_1_33 false
                      else
                        impl_InRange N x.2.2.2.2.1 (0 : Int) (List.length x.2.2.2.2.2 : Int) (fun (r62_13 : Bool) =>
                          bif (!r62_13) then
                            k4_1_33 false
                          else
                            impl_InRange N x.2.2.2.1 (0 : Int) (100000 : Int) (fun (r68_14 : Bool) =>
                              bif (!r68_14) then
                                k4_1_33 false
                              else
                                impl_AreTeams_l10 N x0_1 x x12_2 (List.length x12_2 : Int) (i : Int) x.2.2.2.2.2 (List.length x.2.2.2.2.2 : Int) N next k4_1_33 (0 : Int))))))) (
        k4_0_32) x12_2 0 := by
  exact range0 (f := fun n i => impl_AreTeams_l4 N x0_1 x12_2 (List.length x12_2 : Int) n k4_0_32 k4_1_33 i) (l := x12_2) (fun n i h => by
    simp only [impl_AreTeams_l4, impl_AreTeams_j1]
    rw [decide_eq_true (show (i : Int) < (List.length x12_2 : Int) by omega)]
    simp only [cond_true, inB_nat h, Int.toNat_natCast, getD_nat _ i h]) (fun n => by
    simp only [impl_AreTeams_l4, impl_AreTeams_j1]
    rw [decide_eq_false (by omega)]
    simp only [cond_false]) hl x12_2 0 n rfl (by omega) hn
theorem slices_Index_int_l2_r {x0_1 : (List Int)} {x1_2 : Int} {k2_0_6 : Option Ret} {k2_1_7 : Int → Option Ret} (hl : (List.length x0_1) ≤ maxLen) {n : Nat} (hn : (List.length x0_1) < n) : slices_Index_int_l2 x0_1 x1_2 (List.length x0_1 : Int) n k2_0_6 k2_1_7 (0 : Int) =
    goL (fun (i : Nat) (x : Int) (next : Option Ret) =>
        bif (x1_2 == x) then
          k2_1_7 (i : Int)
        else
          next) (
        k2_0_6) x0_1 0 := by
  exact range0 (f := fun n i => slices_Index_int_l2 x0_1 x1_2 (List.length x0_1 : Int) n k2_0_6 k2_1_7 i) (l := x0_1) (fun n i h => by
    simp only [slices_Index_int_l2]
    rw [decide_eq_true (show (i : Int) < (List.length x0_1 : Int) by omega)]
    simp only [cond_true, inB_nat h, Int.toNat_natCast, getD_nat _ i h]) (fun n => by
    simp only [slices_Index_int_l2]
    rw [decide_eq_false (by omega)]
    simp only [cond_false]) hl x0_1 0 n rfl (by omega) hn
theorem impl_TotalWins_l5_r {x10_3 : (List QIIIIILIE)} {k5_0_7 : Int → Option Ret} {x3_2 : Int} (hl : (List.length x10_3) ≤ maxLen) {n : Nat} (hn : (List.length x10_3) < n) : impl_TotalWins_l5 x10_3 (List.length x10_3 : Int) n k5_0_7 x3_2 (0 : Int) =
    goL1 (fun (i : Nat) (x : QIIIIILIE) (x3_2 : Int) (next : Int → Option Ret) =>
        next (IntKind.wrap .i64 (x3_2 + x.2.2.1))) (fun (x3_2 : Int) =>
        k5_0_7 x3_2) x10_3 0 x3_2 := by
  exact range1 (f := fun n x3_2 i => impl_TotalWins_l5 x10_3 (List.length x10_3 : Int) n k5_0_7 x3_2 i) (l := x10_3) (fun n i x3_2 h => by
    simp only [impl_TotalWins_l5]
    rw [decide_eq_true (show (i : Int) < (List.length x10_3 : Int) by omega)]
    simp only [cond_true, inB_nat h, Int.toNat_natCast, getD_nat _ i h]) (fun n x3_2 => by
    simp only [impl_TotalWins_l5]
    rw [decide_eq_false (by omega)]
    simp only [cond_false]) hl x10_3 0 n x3_2 rfl (by omega) hn
theorem spec_l19Copy_l3_r {x0_1 : (List QIIIIILIE)} {k3_0_5 : (List QIIIIILIE) → Option Ret} {x3_2 : (List QIIIIILIE)} (hl : (List.length x0_1) ≤ maxLen) {n : Nat} (hn : (List.length x0_1) < n) : spec_l19Copy_l3 x0_1 n k3_0_5 x3_2 (0 : Int) =
    goL1 (fun (i : Nat) (x : QIIIIILIE) (x3_2 : (List QIIIIILIE)) (next : (List QIIIIILIE) → Option Ret) =>
        bif (decide ((List.length ([] : (List Int)) + List.length x.2.2.2.2.2) * 1 ≤ 4398046511104)) then
          bif (decide ((List.length x3_2 + List.length [(x.1, (x.2.1, (x.2.2.1, (x.2.2.2.1, (x.2.2.2.2.1, (([] : (List Int)) ++ x.2.2.2.2.2))))))]) * 6 ≤ 4398046511104)) then
            next (x3_2 ++ [(x.1, (x.2.1, (x.2.2.1, (x.2.2.2.1, (x.2.2.2.2.1, (([] : (List Int)) ++ x.2.2.2.2.2))))))])
          else none
        else none) (fun (x3_2 : (List QIIIIILIE)) =>
        k3_0_5 x3_2) x0_1 0 x3_2 := by
  exact range1 (f := fun n x3_2 i => spec_l19Copy_l3 x0_1 n k3_0_5 x3_2 i) (l := x0_1) (fun n i x3_2 h => by
    simp only [spec_l19Copy_l3]
    rw [decide_eq_true (show (i : Int) < (List.length x0_1 : Int) by omega)]
    simp only [cond_true, inB_nat h, Int.toNat_natCast, getD_nat _ i h]) (fun n x3_2 => by
    simp only [spec_l19Copy_l3]
    rw [decide_eq_false (by omega)]
    simp only [cond_false]) hl x0_1 0 n x3_2 rfl (by omega) hn
theorem spec_FindTeam_l2_r {x0_1 : (List QIIIIILIE)} {x1_2 : Int} {k2_0_5 : Option Ret} {k2_1_6 : Int → Option Ret} (hl : (List.length x0_1) ≤ maxLen) {n : Nat} (hn : (List.length x0_1) < n) : spec_FindTeam_l2 x0_1 x1_2 n k2_0_5 k2_1_6 (0 : Int) =
    goL (fun (i : Nat) (x : QIIIIILIE) (next : Option Ret) =>
        bif (x.1 == x1_2) then
          k2_1_6 (i : Int)
        else
          next) (
        k2_0_5) x0_1 0 := by
  exact range0 (f := fun n i => spec_FindTeam_l2 x0_1 x1_2 n k2_0_5 k2_1_6 i) (l := x0_1) (fun n i h => by
    simp only [spec_FindTeam_l2]
    rw [decide_eq_true (show (i : Int) < (List.length x0_1 : Int) by omega)]
    simp only [cond_true, inB_nat h, Int.toNat_natCast, getD_nat _ i h]) (fun n => by
    simp only [spec_FindTeam_l2]
    rw [decide_eq_false (by omega)]
    simp only [cond_false]) hl x0_1 0 n rfl (by omega) hn
theorem spec_l19Count_l3_r {x0_1 : (List Int)} {x1_2 : Int} {k3_0_7 : Int → Option Ret} {x5_3 : Int} (hl : (List.length x0_1) ≤ maxLen) {n : Nat} (hn : (List.length x0_1) < n) : spec_l19Count_l3 x0_1 x1_2 n k3_0_7 x5_3 (0 : Int) =
    goL1 (fun (i : Nat) (x : Int) (x5_3 : Int) (next : Int → Option Ret) =>
        bif (x == x1_2) then
          next (IntKind.wrap .i64 (x5_3 + (1 : Int)))
        else
          next x5_3) (fun (x5_3 : Int) =>
        k3_0_7 x5_3) x0_1 0 x5_3 := by
  exact range1 (f := fun n x5_3 i => spec_l19Count_l3 x0_1 x1_2 n k3_0_7 x5_3 i) (l := x0_1) (fun n i x5_3 h => by
    simp only [spec_l19Count_l3]
    rw [decide_eq_true (show (i : Int) < (List.length x0_1 : Int) by omega)]
    simp only [cond_true, inB_nat h, Int.toNat_natCast, getD_nat _ i h]) (fun n x5_3 => by
    simp only [spec_l19Count_l3]
    rw [decide_eq_false (by omega)]
    simp only [cond_false]) hl x0_1 0 n x5_3 rfl (by omega) hn
theorem spec_AreTeams_l8_r {N : Nat} {x0_9 : (List QIIIIILIE)} {x3_10 : Int} {x4_11 : QIIIIILIE} {k8_0_17 : Option Ret} {k8_1_18 : Bool → Option Ret} (hl : (List.length x4_11.2.2.2.2.2) ≤ maxLen) {n : Nat} (hn : (List.length x4_11.2.2.2.2.2) < n) : spec_AreTeams_l8 N x0_9 x3_10 x4_11 n k8_0_17 k8_1_18 (0 : Int) =
    goL (fun (i : Nat) (x : _) (next : Option Ret) =>
        spec_FindTeam N x0_9 x (fun (r85_14 : Int) =>
          bif (decide (r85_14 < (0 : Int))) then
            k8_1_18 false
          else
            bif (r85_14 == x3_10) then
              k8_1_18 false
            else
              bif (inB r85_14 (List.length x0_9)) then
                bif (inB r85_14 (List.length x0_9)) then
                  spec_l19Count N (List.getD x0_9 (Int.toNat r85_14) zQIIIIILIE).2.2.2.2.2 x4_11.1 (fun (r101_15 : Int) =>
                    spec_l19Count N x4_11.2.2.2.2.2 (List.getD x0_9 (Int.toNat r85_14) zQIIIIILIE).1 (fun (r109_16 : Int) =>
                      bif (r101_15 != r109_16) then
                        k8_1_18 false
                      else
                        next))
                else none
              else none)) (
        k8_0_17) x4_11.2.2.2.2.2 0 := by
  exact range0 (f := fun n i => spec_AreTeams_l8 N x0_9 x3_10 x4_11 n k8_0_17 k8_1_18 i) (l := x4_11.2.2.2.2.2) (fun n i h => by
    simp only [spec_AreTeams_l8]
    rw [decide_eq_true (show (i : Int) < (List.length x4_11.2.2.2.2.2 : Int) by omega)]
    simp only [cond_true, inB_nat h, Int.toNat_natCast, getD_nat _ i h]) (fun n => by
    simp only [spec_AreTeams_l8]
    rw [decide_eq_false (by omega)]
    simp only [cond_false]) hl x4_11.2.2.2.2.2 0 n rfl (by omega) hn
theorem spec_AreTeams_l2_r {N : Nat} {x0_1 : (List QIIIIILIE)} {k2_0_21 : Option Ret} {k2_1_22 : Bool → Option Ret} (hl : (List.length x0_1) ≤ maxLen) {n : Nat} (hn : (List.length x0_1) < n) : spec_AreTeams_l2 N x0_1 n k2_0_21 k2_1_22 (0 : Int) =
    goL (fun (i : Nat) (x : QIIIIILIE) (next : Option Ret) =>
        spec_l1In N x.1 (1 : Int) (99 : Int) (fun (r19_4 : Bool) =>
          bif (!r19_4) then
            k2_1_22 false
          else
            spec_l1In N x.2.1 (1 : Int) (99 : Int) (fun (r24_5 : Bool) =>
              bif (!r24_5) then
                k2_1_22 false
              else
                spec_l1In N x.2.2.1 (0 : Int) (List.length x.2.2.2.2.2 : Int) (fun (r33_6 : Bool) =>
                  bif (!r33_6) then
                    k2_1_22 false
                  else
                    spec_l1In N x.2.2.2.2.1 (0 : Int) (List.length x.2.2.2.2.2 : Int) (fun (r42_7 : Bool) =>
                      bif (!r42_7) then
                        k2_1_22 false
                      else
                        spec_l1In N x.2.2.2.1 (0 : Int) (100000 : Int) (fun (r48_8 : Bool) =>
                          bif (!r48_8) then
                            k2_1_22 false
                          else
                            bif (decide ((List.length x.2.2.2.2.2 : Int) > (20 : Int))) then
                              k2_1_22 false
                            else
                              bif (decide ((i : Int) > (0 : Int))) then
                                bif (inB (IntKind.wrap .i64 ((i : Int) - (1 : Int))) (List.length x0_1)) then
                                  bif (decide ((List.getD x0_1 (Int.toNat (IntKind.wrap .i64 ((i : Int) - (1 : Int)))) zQIIIIILIE).1 ≥ x.1)) then
                                    k2_1_22 false
                                  else
                                    spec_AreTeams_l8 N x0_1 (i : Int) x N next k2_1_22 (0 : Int)
                                else none
                              else
                                spec_AreTeams_l8 N x0_1 (i : Int) x N next k2_1_22 (0 : Int))))))) (
        k2_0_21) x0_1 0 := by
  exact range0 (f := fun n i => spec_AreTeams_l2 N x0_1 n k2_0_21 k2_1_22 i) (l := x0_1) (fun n i h => by
    simp only [spec_AreTeams_l2]
    rw [decide_eq_true (show (i : Int) < (List.length x0_1 : Int) by omega)]
    simp only [cond_true, inB_nat h, Int.toNat_natCast, getD_nat _ i h]) (fun n => by
    simp only [spec_AreTeams_l2]
    rw [decide_eq_false (by omega)]
    simp only [cond_false]) hl x0_1 0 n rfl (by omega) hn
theorem spec_l4Has_l2_r {x0_1 : (List Int)} {x1_2 : Int} {k2_0_5 : Option Ret} {k2_1_6 : Bool → Option Ret} (hl : (List.length x0_1) ≤ maxLen) {n : Nat} (hn : (List.length x0_1) < n) : spec_l4Has_l2 x0_1 x1_2 n k2_0_5 k2_1_6 (0 : Int) =
    goL (fun (i : Nat) (x : Int) (next : Option Ret) =>
        bif (x == x1_2) then
          k2_1_6 true
        else
          next) (
        k2_0_5) x0_1 0 := by
  exact range0 (f := fun n i => spec_l4Has_l2 x0_1 x1_2 n k2_0_5 k2_1_6 i) (l := x0_1) (fun n i h => by
    simp only [spec_l4Has_l2]
    rw [decide_eq_true (show (i : Int) < (List.length x0_1 : Int) by omega)]
    simp only [cond_true, inB_nat h, Int.toNat_natCast, getD_nat _ i h]) (fun n => by
    simp only [spec_l4Has_l2]
    rw [decide_eq_false (by omega)]
    simp only [cond_false]) hl x0_1 0 n rfl (by omega) hn
theorem spec_IsGraph_l2_r {N : Nat} {x1_1 : QILLIE} {k2_0_6 : Option Ret} {k2_1_7 : Bool → Option Ret} (hl : (List.length x1_1.2) ≤ maxLen) {n : Nat} (hn : (List.length x1_1.2) < n) : spec_IsGraph_l2 N x1_1 n k2_0_6 k2_1_7 (0 : Int) =
    goL (fun (i : Nat) (x : _) (next : Option Ret) =>
        bif ((List.length x : Int) != (2 : Int)) then
          k2_1_7 false
        else
          bif (inB (0 : Int) (List.length x)) then
            spec_l1In N (List.getD x (Int.toNat (0 : Int)) (0 : Int)) (0 : Int) (IntKind.wrap .i64 (x1_1.1 - (1 : Int))) (fun (r28_4 : Bool) =>
              bif (!r28_4) then
                k2_1_7 false
              else
                bif (inB (1 : Int) (List.length x)) then
                  spec_l1In N (List.getD x (Int.toNat (1 : Int)) (0 : Int)) (0 : Int) (IntKind.wrap .i64 (x1_1.1 - (1 : Int))) (fun (r38_5 : Bool) =>
                    bif (!r38_5) then
                      k2_1_7 false
                    else
                      bif (decide ((i : Int) > (0 : Int))) then
                        bif (inB (IntKind.wrap .i64 ((i : Int) - (1 : Int))) (List.length x1_1.2)) then
                          bif (inB (0 : Int) (List.length (List.getD x1_1.2 (Int.toNat (IntKind.wrap .i64 ((i : Int) - (1 : Int)))) ([] : (List Int))))) then
                            bif (inB (0 : Int) (List.length x)) then
                              bif (decide ((List.getD (List.getD x1_1.2 (Int.toNat (IntKind.wrap .i64 ((i : Int) - (1 : Int)))) ([] : (List Int))) (Int.toNat (0 : Int)) (0 : Int)) > (List.getD x (Int.toNat (0 : Int)) (0 : Int)))) then
                                k2_1_7 false
                              else
                                bif (inB (0 : Int) (List.length (List.getD x1_1.2 (Int.toNat (IntKind.wrap .i64 ((i : Int) - (1 : Int)))) ([] : (List Int))))) then
                                  bif (inB (0 : Int) (List.length x)) then
                                    bif ((List.getD (List.getD x1_1.2 (Int.toNat (IntKind.wrap .i64 ((i : Int) - (1 : Int)))) ([] : (List Int))) (Int.toNat (0 : Int)) (0 : Int)) == (List.getD x (Int.toNat (0 : Int)) (0 : Int))) then
                                      bif (inB (1 : Int) (List.length (List.getD x1_1.2 (Int.toNat (IntKind.wrap .i64 ((i : Int) - (1 : Int)))) ([] : (List Int))))) then
                                        bif (inB (1 : Int) (List.length x)) then
                                          bif (decide ((List.getD (List.getD x1_1.2 (Int.toNat (IntKind.wrap .i64 ((i : Int) - (1 : Int)))) ([] : (List Int))) (Int.toNat (1 : Int)) (0 : Int)) ≥ (List.getD x (Int.toNat (1 : Int)) (0 : Int)))) then
                                            k2_1_7 false
                                          else
                                            next
                                        else none
                                      else none
                                    else
                                      next
                                  else none
                                else none
                            else none
                          else none
                        else none
                      else
                        next)
                else none)
          else none) (
        k2_0_6) x1_1.2 0 := by
  exact range0 (f := fun n i => spec_IsGraph_l2 N x1_1 n k2_0_6 k2_1_7 i) (l := x1_1.2) (fun n i h => by
    simp only [spec_IsGraph_l2]
    rw [decide_eq_true (show (i : Int) < (List.length x1_1.2 : Int) by omega)]
    simp only [cond_true, inB_nat h, Int.toNat_natCast, getD_nat _ i h]) (fun n => by
    simp only [spec_IsGraph_l2]
    rw [decide_eq_false (by omega)]
    simp only [cond_false]) hl x1_1.2 0 n rfl (by omega) hn
theorem spec_IsSet_l4_r {N : Nat} {x1_2 : (List Int)} {x2_3 : QILLIE} {k4_0_7 : Option Ret} {k4_1_8 : Bool → Option Ret} (hl : (List.length x1_2) ≤ maxLen) {n : Nat} (hn : (List.length x1_2) < n) : spec_IsSet_l4 N x1_2 x2_3 n k4_0_7 k4_1_8 (0 : Int) =
    goL (fun (i : Nat) (x : Int) (next : Option Ret) =>
        spec_l1In N x (0 : Int) (IntKind.wrap .i64 (x2_3.1 - (1 : Int))) (fun (r22_6 : Bool) =>
          bif (!r22_6) then
            k4_1_8 false
          else
            bif (decide ((i : Int) > (0 : Int))) then
              bif (inB (IntKind.wrap .i64 ((i : Int) - (1 : Int))) (List.length x1_2)) then
                bif (decide ((List.getD x1_2 (Int.toNat (IntKind.wrap .i64 ((i : Int) - (1 : Int)))) (0 : Int)) ≥ x)) then
                  k4_1_8 false
                else
                  next
              else none
            else
              next)) (
        k4_0_7) x1_2 0 := by
  exact range0 (f := fun n i => spec_IsSet_l4 N x1_2 x2_3 n k4_0_7 k4_1_8 i) (l := x1_2) (fun n i h => by
    simp only [spec_IsSet_l4]
    rw [decide_eq_true (show (i : Int) < (List.length x1_2 : Int) by omega)]
    simp only [cond_true, inB_nat h, Int.toNat_natCast, getD_nat _ i h]) (fun n => by
    simp only [spec_IsSet_l4]
    rw [decide_eq_false (by omega)]
    simp only [cond_false]) hl x1_2 0 n rfl (by omega) hn
theorem spec_HitBy_l7_r {N : Nat} {x1_7 : (List Int)} {x2_8 : QILLIE} {x5_9 : (List Int)} {x6_10 : Int} {k7_0_15 : Bool → Option Ret} {x7_11 : Bool} (hl : (List.length x2_8.2) ≤ maxLen) {n : Nat} (hn : (List.length x2_8.2) < n) : spec_HitBy_l7 N x1_7 x2_8 x5_9 x6_10 n k7_0_15 x7_11 (0 : Int) =
    goL1 (fun (i : Nat) (x : _) (x7_11 : Bool) (next : Bool → Option Ret) =>
        bif x7_11 then
          next true
        else
          bif (inB (1 : Int) (List.length x)) then
            bif ((List.getD x (Int.toNat (1 : Int)) (0 : Int)) == x6_10) then
              bif (inB (0 : Int) (List.length x)) then
                spec_l4Has N x1_7 (List.getD x (Int.toNat (0 : Int)) (0 : Int)) (fun (r47_14 : Bool) =>
                  next r47_14)
              else none
            else
              next false
          else none) (fun (x7_11 : Bool) =>
        k7_0_15 x7_11) x2_8.2 0 x7_11 := by
  exact range1 (f := fun n x7_11 i => spec_HitBy_l7 N x1_7 x2_8 x5_9 x6_10 n k7_0_15 x7_11 i) (l := x2_8.2) (fun n i x7_11 h => by
    simp only [spec_HitBy_l7]
    rw [decide_eq_true (show (i : Int) < (List.length x2_8.2 : Int) by omega)]
    simp only [cond_true, inB_nat h, Int.toNat_natCast, getD_nat _ i h]) (fun n x7_11 => by
    simp only [spec_HitBy_l7]
    rw [decide_eq_false (by omega)]
    simp only [cond_false]) hl x2_8.2 0 n x7_11 rfl (by omega) hn
theorem spec_AttackersOf_l3_r {N : Nat} {x1_1 : Int} {x2_2 : QILLIE} {k3_0_8 : (List Int) → Option Ret} {x5_3 : (List Int)} (hl : (List.length x2_2.2) ≤ maxLen) {n : Nat} (hn : (List.length x2_2.2) < n) : spec_AttackersOf_l3 N x1_1 x2_2 n k3_0_8 x5_3 (0 : Int) =
    goL1 (fun (i : Nat) (x : _) (x5_3 : (List Int)) (next : (List Int) → Option Ret) =>
        spec_IsGraph N x2_2 (fun (r15_6 : Bool) =>
          bif r15_6 then
            bif (inB (1 : Int) (List.length x)) then
              bif ((List.getD x (Int.toNat (1 : Int)) (0 : Int)) == x1_1) then
                bif (inB (0 : Int) (List.length x)) then
                  bif (decide ((List.length x5_3 + List.length [(List.getD x (Int.toNat (0 : Int)) (0 : Int))]) * 1 ≤ 4398046511104)) then
                    next (x5_3 ++ [(List.getD x (Int.toNat (0 : Int)) (0 : Int))])
                  else none
                else none
              else
                next x5_3
            else none
          else
            k3_0_8 x5_3)) (fun (x5_3 : (List Int)) =>
        k3_0_8 x5_3) x2_2.2 0 x5_3 := by
  exact range1 (f := fun n x5_3 i => spec_AttackersOf_l3 N x1_1 x2_2 n k3_0_8 x5_3 i) (l := x2_2.2) (fun n i x5_3 h => by
    simp only [spec_AttackersOf_l3]
    rw [decide_eq_true (show (i : Int) < (List.length x2_2.2 : Int) by omega)]
    simp only [cond_true, inB_nat h, Int.toNat_natCast, getD_nat _ i h]) (fun n x5_3 => by
    simp only [spec_AttackersOf_l3]
    rw [decide_eq_false (by omega)]
    simp only [cond_false]) hl x2_2.2 0 n x5_3 rfl (by omega) hn
theorem spec_Defends_l6_r {N : Nat} {x7_5 : (List Int)} {x8_6 : (List Int)} {k6_0_10 : Option Ret} {k6_1_11 : Bool → Option Ret} (hl : (List.length x8_6) ≤ maxLen) {n : Nat} (hn : (List.length x8_6) < n) : spec_Defends_l6 N x7_5 x8_6 n k6_0_10 k6_1_11 (0 : Int) =
    goL (fun (i : Nat) (x : Int) (next : Option Ret) =>
        spec_l4Has N x7_5 x (fun (r39_9 : Bool) =>
          bif (!r39_9) then
            k6_1_11 false
          else
            next)) (
        k6_0_10) x8_6 0 := by
  exact range0 (f := fun n i => spec_Defends_l6 N x7_5 x8_6 n k6_0_10 k6_1_11 i) (l := x8_6) (fun n i h => by
    simp only [spec_Defends_l6]
    rw [decide_eq_true (show (i : Int) < (List.length x8_6 : Int) by omega)]
    simp only [cond_true, inB_nat h, Int.toNat_natCast, getD_nat _ i h]) (fun n => by
    simp only [spec_Defends_l6]
    rw [decide_eq_false (by omega)]
    simp only [cond_false]) hl x8_6 0 n rfl (by omega) hn
theorem spec_EqualInts_l4_r {x0_1 : (List Int)} {x1_2 : (List Int)} {k4_0_5 : Option Ret} {k4_1_6 : Bool → Option Ret} (hl : (List.length x0_1) ≤ maxLen) {n : Nat} (hn : (List.length x0_1) < n) : spec_EqualInts_l4 x0_1 x1_2 n k4_0_5 k4_1_6 (0 : Int) =
    goL (fun (i : Nat) (x : Int) (next : Option Ret) =>
        bif (inB (i : Int) (List.length x1_2)) then
          bif (x != (List.getD x1_2 (Int.toNat (i : Int)) (0 : Int))) then
            k4_1_6 false
          else
            next
        else none) (
        k4_0_5) x0_1 0 := by
  exact range0 (f := fun n i => spec_EqualInts_l4 x0_1 x1_2 n k4_0_5 k4_1_6 i) (l := x0_1) (fun n i h => by
    simp only [spec_EqualInts_l4]
    rw [decide_eq_true (show (i : Int) < (List.length x0_1 : Int) by omega)]
    simp only [cond_true, inB_nat h, Int.toNat_natCast, getD_nat _ i h]) (fun n => by
    simp only [spec_EqualInts_l4]
    rw [decide_eq_false (by omega)]
    simp only [cond_false]) hl x0_1 0 n rfl (by omega) hn
theorem spec_OpenClaims_l4_r {x4_3 : (List ByteArray)} {k4_0_7 : (List Int) → Option Ret} {x3_2 : (List Int)} (hl : (List.length x4_3) ≤ maxLen) {n : Nat} (hn : (List.length x4_3) < n) : spec_OpenClaims_l4 x4_3 n k4_0_7 x3_2 (0 : Int) =
    goL1 (fun (i : Nat) (x : ByteArray) (x3_2 : (List Int)) (next : (List Int) → Option Ret) =>
        bif (ByteArray.toList x == ByteArray.toList s_open) then
          bif (decide ((List.length x3_2 + List.length [(i : Int)]) * 1 ≤ 4398046511104)) then
            next (x3_2 ++ [(i : Int)])
          else none
        else
          next x3_2) (fun (x3_2 : (List Int)) =>
        k4_0_7 x3_2) x4_3 0 x3_2 := by
  exact range1 (f := fun n x3_2 i => spec_OpenClaims_l4 x4_3 n k4_0_7 x3_2 i) (l := x4_3) (fun n i x3_2 h => by
    simp only [spec_OpenClaims_l4]
    rw [decide_eq_true (show (i : Int) < (List.length x4_3 : Int) by omega)]
    simp only [cond_true, inB_nat h, Int.toNat_natCast, getD_nat _ i h]) (fun n x3_2 => by
    simp only [spec_OpenClaims_l4]
    rw [decide_eq_false (by omega)]
    simp only [cond_false]) hl x4_3 0 n x3_2 rfl (by omega) hn
theorem slices_Compare_int_l2_r {N : Nat} {x0_1 : (List Int)} {x1_2 : (List Int)} {x9_3 : (List Int)} {k2_0_8 : Option Ret} {k2_1_9 : Int → Option Ret} (hl : (List.length x9_3) ≤ maxLen) {n : Nat} (hn : (List.length x9_3) < n) : slices_Compare_int_l2 N x0_1 x1_2 x9_3 (List.length x9_3 : Int) n k2_0_8 k2_1_9 (0 : Int) =
    goL (fun (i : Nat) (x : Int) (next : Option Ret) =>
        bif (decide ((i : Int) ≥ (List.length x1_2 : Int))) then
          k2_1_9 (1 : Int)
        else
          bif (inB (i : Int) (List.length x1_2)) then
            cmp_Compare_int N x (List.getD x1_2 (Int.toNat (i : Int)) (0 : Int)) (fun (r26_7 : Int) =>
              bif (r26_7 != (0 : Int)) then
                k2_1_9 r26_7
              else
                next)
          else none) (
        k2_0_8) x9_3 0 := by
  exact range0 (f := fun n i => slices_Compare_int_l2 N x0_1 x1_2 x9_3 (List.length x9_3 : Int) n k2_0_8 k2_1_9 i) (l := x9_3) (fun n i h => by
    simp only [slices_Compare_int_l2]
    rw [decide_eq_true (show (i : Int) < (List.length x9_3 : Int) by omega)]
    simp only [cond_true, inB_nat h, Int.toNat_natCast, getD_nat _ i h]) (fun n => by
    simp only [slices_Compare_int_l2]
    rw [decide_eq_false (by omega)]
    simp only [cond_false]) hl x9_3 0 n rfl (by omega) hn
theorem impl_IsGraph_l4_r {N : Nat} {x1_2 : QILLIE} {x10_3 : (List (List Int))} {k4_0_10 : Option Ret} {k4_1_11 : Bool → Option Ret} (hl : (List.length x10_3) ≤ maxLen) {n : Nat} (hn : (List.length x10_3) < n) : impl_IsGraph_l4 N x1_2 x10_3 (List.length x10_3 : Int) n k4_0_10 k4_1_11 (0 : Int) =
    goL (fun (i : Nat) (x : (List Int)) (next : Option Ret) =>
        bif ((List.length x : Int) != (2 : Int)) then
          k4_1_11 false
        else
          bif (inB (0 : Int) (List.length x)) then
            impl_isClaim N x1_2 (List.getD x (Int.toNat (0 : Int)) (0 : Int)) (fun (r25_7 : Bool) =>
              bif (!r25_7) then
                k4_1_11 false
              else
                bif (inB (1 : Int) (List.length x)) then
                  impl_isClaim N x1_2 (List.getD x (Int.toNat (1 : Int)) (0 : Int)) (fun (r33_8 : Bool) =>
                    bif (!r33_8) then
                      k4_1_11 false
                    else
                      bif (decide ((i : Int) > (0 : Int))) then
                        bif (inB (IntKind.wrap .i64 ((i : Int) - (1 : Int))) (List.length x1_2.2)) then
                          slices_Compare_int N (List.getD x1_2.2 (Int.toNat (IntKind.wrap .i64 ((i : Int) - (1 : Int)))) ([] : (List Int))) x (fun (r47_9 : Int) =>
                            bif (decide (r47_9 ≥ (0 : Int))) then
                              k4_1_11 false
                            else
                              next)
                        else none
                      else
                        next)
                else none)
          else none) (
        k4_0_10) x10_3 0 := by
  exact range0 (f := fun n i => impl_IsGraph_l4 N x1_2 x10_3 (List.length x10_3 : Int) n k4_0_10 k4_1_11 i) (l := x10_3) (fun n i h => by
    simp only [impl_IsGraph_l4]
    rw [decide_eq_true (show (i : Int) < (List.length x10_3 : Int) by omega)]
    simp only [cond_true, inB_nat h, Int.toNat_natCast, getD_nat _ i h]) (fun n => by
    simp only [impl_IsGraph_l4]
    rw [decide_eq_false (by omega)]
    simp only [cond_false]) hl x10_3 0 n rfl (by omega) hn
theorem impl_IsSet_l4_r {N : Nat} {x1_2 : (List Int)} {x2_3 : QILLIE} {x10_4 : (List Int)} {k4_0_9 : Option Ret} {k4_1_10 : Bool → Option Ret} (hl : (List.length x10_4) ≤ maxLen) {n : Nat} (hn : (List.length x10_4) < n) : impl_IsSet_l4 N x1_2 x2_3 x10_4 (List.length x10_4 : Int) n k4_0_9 k4_1_10 (0 : Int) =
    goL (fun (i : Nat) (x : Int) (next : Option Ret) =>
        impl_isClaim N x2_3 x (fun (r19_8 : Bool) =>
          bif (!r19_8) then
            k4_1_10 false
          else
            bif (decide ((i : Int) > (0 : Int))) then
              bif (inB (IntKind.wrap .i64 ((i : Int) - (1 : Int))) (List.length x1_2)) then
                bif (decide (x ≤ (List.getD x1_2 (Int.toNat (IntKind.wrap .i64 ((i : Int) - (1 : Int)))) (0 : Int)))) then
                  k4_1_10 false
                else
                  next
              else none
            else
              next)) (
        k4_0_9) x10_4 0 := by
  exact range0 (f := fun n i => impl_IsSet_l4 N x1_2 x2_3 x10_4 (List.length x10_4 : Int) n k4_0_9 k4_1_10 i) (l := x10_4) (fun n i h => by
    simp only [impl_IsSet_l4]
    rw [decide_eq_true (show (i : Int) < (List.length x10_4 : Int) by omega)]
    simp only [cond_true, inB_nat h, Int.toNat_natCast, getD_nat _ i h]) (fun n => by
    simp only [impl_IsSet_l4]
    rw [decide_eq_false (by omega)]
    simp only [cond_false]) hl x10_4 0 n rfl (by omega) hn
theorem impl_VictimsOf_l5_r {x1_2 : Int} {x14_4 : (List (List Int))} {k5_0_9 : (List Int) → Option Ret} {x5_3 : (List Int)} (hl : (List.length x14_4) ≤ maxLen) {n : Nat} (hn : (List.length x14_4) < n) : impl_VictimsOf_l5 x1_2 x14_4 (List.length x14_4 : Int) n k5_0_9 x5_3 (0 : Int) =
    goL1 (fun (i : Nat) (x : (List Int)) (x5_3 : (List Int)) (next : (List Int) → Option Ret) =>
        bif (inB (0 : Int) (List.length x)) then
          bif ((List.getD x (Int.toNat (0 : Int)) (0 : Int)) == x1_2) then
            bif (inB (1 : Int) (List.length x)) then
              bif (decide ((List.length x5_3 + List.length [(List.getD x (Int.toNat (1 : Int)) (0 : Int))]) * 1 ≤ 4398046511104)) then
                next (x5_3 ++ [(List.getD x (Int.toNat (1 : Int)) (0 : Int))])
              else none
            else none
          else
            next x5_3
        else none) (fun (x5_3 : (List Int)) =>
        k5_0_9 x5_3) x14_4 0 x5_3 := by
  exact range1 (f := fun n x5_3 i => impl_VictimsOf_l5 x1_2 x14_4 (List.length x14_4 : Int) n k5_0_9 x5_3 i) (l := x14_4) (fun n i x5_3 h => by
    simp only [impl_VictimsOf_l5]
    rw [decide_eq_true (show (i : Int) < (List.length x14_4 : Int) by omega)]
    simp only [cond_true, inB_nat h, Int.toNat_natCast, getD_nat _ i h]) (fun n x5_3 => by
    simp only [impl_VictimsOf_l5]
    rw [decide_eq_false (by omega)]
    simp only [cond_false]) hl x14_4 0 n x5_3 rfl (by omega) hn
theorem impl_HitBy_l3_r {N : Nat} {x2_1 : QILLIE} {x9_3 : (List Int)} {k3_0_8 : (List Int) → Option Ret} {x5_2 : (List Int)} (hl : (List.length x9_3) ≤ maxLen) {n : Nat} (hn : (List.length x9_3) < n) : impl_HitBy_l3 N x2_1 x9_3 (List.length x9_3 : Int) n k3_0_8 x5_2 (0 : Int) =
    goL1 (fun (i : Nat) (x : Int) (x5_2 : (List Int)) (next : (List Int) → Option Ret) =>
        impl_VictimsOf N x2_1 x (fun (r18_7 : (List Int)) =>
          bif (decide ((List.length x5_2 + List.length r18_7) * 1 ≤ 4398046511104)) then
            next (x5_2 ++ r18_7)
          else none)) (fun (x5_2 : (List Int)) =>
        k3_0_8 x5_2) x9_3 0 x5_2 := by
  exact range1 (f := fun n x5_2 i => impl_HitBy_l3 N x2_1 x9_3 (List.length x9_3 : Int) n k3_0_8 x5_2 i) (l := x9_3) (fun n i x5_2 h => by
    simp only [impl_HitBy_l3]
    rw [decide_eq_true (show (i : Int) < (List.length x9_3 : Int) by omega)]
    simp only [cond_true, inB_nat h, Int.toNat_natCast, getD_nat _ i h]) (fun n x5_2 => by
    simp only [impl_HitBy_l3]
    rw [decide_eq_false (by omega)]
    simp only [cond_false]) hl x9_3 0 n x5_2 rfl (by omega) hn
theorem impl_AttackersOf_l5_r {x1_2 : Int} {x14_4 : (List (List Int))} {k5_0_9 : (List Int) → Option Ret} {x5_3 : (List Int)} (hl : (List.length x14_4) ≤ maxLen) {n : Nat} (hn : (List.length x14_4) < n) : impl_AttackersOf_l5 x1_2 x14_4 (List.length x14_4 : Int) n k5_0_9 x5_3 (0 : Int) =
    goL1 (fun (i : Nat) (x : (List Int)) (x5_3 : (List Int)) (next : (List Int) → Option Ret) =>
        bif (inB (1 : Int) (List.length x)) then
          bif ((List.getD x (Int.toNat (1 : Int)) (0 : Int)) == x1_2) then
            bif (inB (0 : Int) (List.length x)) then
              bif (decide ((List.length x5_3 + List.length [(List.getD x (Int.toNat (0 : Int)) (0 : Int))]) * 1 ≤ 4398046511104)) then
                next (x5_3 ++ [(List.getD x (Int.toNat (0 : Int)) (0 : Int))])
              else none
            else none
          else
            next x5_3
        else none) (fun (x5_3 : (List Int)) =>
        k5_0_9 x5_3) x14_4 0 x5_3 := by
  exact range1 (f := fun n x5_3 i => impl_AttackersOf_l5 x1_2 x14_4 (List.length x14_4 : Int) n k5_0_9 x5_3 i) (l := x14_4) (fun n i x5_3 h => by
    simp only [impl_AttackersOf_l5]
    rw [decide_eq_true (show (i : Int) < (List.length x14_4 : Int) by omega)]
    simp only [cond_true, inB_nat h, Int.toNat_natCast, getD_nat _ i h]) (fun n x5_3 => by
    simp only [impl_AttackersOf_l5]
    rw [decide_eq_false (by omega)]
    simp only [cond_false]) hl x14_4 0 n x5_3 rfl (by omega) hn
theorem impl_Defends_l5_r {N : Nat} {x7_5 : (List Int)} {x25_6 : (List Int)} {k5_0_11 : Option Ret} {k5_1_12 : Bool → Option Ret} (hl : (List.length x25_6) ≤ maxLen) {n : Nat} (hn : (List.length x25_6) < n) : impl_Defends_l5 N x7_5 x25_6 (List.length x25_6 : Int) n k5_0_11 k5_1_12 (0 : Int) =
    goL (fun (i : Nat) (x : Int) (next : Option Ret) =>
        slices_Contains_int N x7_5 x (fun (r33_10 : Bool) =>
          bif (!r33_10) then
            k5_1_12 false
          else
            next)) (
        k5_0_11) x25_6 0 := by
  exact range0 (f := fun n i => impl_Defends_l5 N x7_5 x25_6 (List.length x25_6 : Int) n k5_0_11 k5_1_12 i) (l := x25_6) (fun n i h => by
    simp only [impl_Defends_l5]
    rw [decide_eq_true (show (i : Int) < (List.length x25_6 : Int) by omega)]
    simp only [cond_true, inB_nat h, Int.toNat_natCast, getD_nat _ i h]) (fun n => by
    simp only [impl_Defends_l5]
    rw [decide_eq_false (by omega)]
    simp only [cond_false]) hl x25_6 0 n rfl (by omega) hn
theorem slices_Equal_int_l4_r {x0_1 : (List Int)} {x1_2 : (List Int)} {k4_0_6 : Option Ret} {k4_1_7 : Bool → Option Ret} (hl : (List.length x0_1) ≤ maxLen) {n : Nat} (hn : (List.length x0_1) < n) : slices_Equal_int_l4 x0_1 x1_2 (List.length x0_1 : Int) n k4_0_6 k4_1_7 (0 : Int) =
    goL (fun (i : Nat) (x : Int) (next : Option Ret) =>
        bif (inB (i : Int) (List.length x1_2)) then
          bif (x != (List.getD x1_2 (Int.toNat (i : Int)) (0 : Int))) then
            k4_1_7 false
          else
            next
        else none) (
        k4_0_6) x0_1 0 := by
  exact range0 (f := fun n i => slices_Equal_int_l4 x0_1 x1_2 (List.length x0_1 : Int) n k4_0_6 k4_1_7 i) (l := x0_1) (fun n i h => by
    simp only [slices_Equal_int_l4]
    rw [decide_eq_true (show (i : Int) < (List.length x0_1 : Int) by omega)]
    simp only [cond_true, inB_nat h, Int.toNat_natCast, getD_nat _ i h]) (fun n => by
    simp only [slices_Equal_int_l4]
    rw [decide_eq_false (by omega)]
    simp only [cond_false]) hl x0_1 0 n rfl (by omega) hn
theorem impl_OpenClaims_l3_r {x8_3 : (List ByteArray)} {k3_0_8 : (List Int) → Option Ret} {x3_2 : (List Int)} (hl : (List.length x8_3) ≤ maxLen) {n : Nat} (hn : (List.length x8_3) < n) : impl_OpenClaims_l3 x8_3 (List.length x8_3 : Int) n k3_0_8 x3_2 (0 : Int) =
    goL1 (fun (i : Nat) (x : ByteArray) (x3_2 : (List Int)) (next : (List Int) → Option Ret) =>
        bif (ByteArray.toList x == ByteArray.toList s_open) then
          bif (decide ((List.length x3_2 + List.length [(i : Int)]) * 1 ≤ 4398046511104)) then
            next (x3_2 ++ [(i : Int)])
          else none
        else
          next x3_2) (fun (x3_2 : (List Int)) =>
        k3_0_8 x3_2) x8_3 0 x3_2 := by
  exact range1 (f := fun n x3_2 i => impl_OpenClaims_l3 x8_3 (List.length x8_3 : Int) n k3_0_8 x3_2 i) (l := x8_3) (fun n i x3_2 h => by
    simp only [impl_OpenClaims_l3]
    rw [decide_eq_true (show (i : Int) < (List.length x8_3 : Int) by omega)]
    simp only [cond_true, inB_nat h, Int.toNat_natCast, getD_nat _ i h]) (fun n x3_2 => by
    simp only [impl_OpenClaims_l3]
    rw [decide_eq_false (by omega)]
    simp only [cond_false]) hl x8_3 0 n x3_2 rfl (by omega) hn
theorem spec_Hash_l3_r {N : Nat} {x0_1 : (List Int)} {k3_0_6 : Int → Option Ret} {x3_2 : Int} (hl : (List.length x0_1) ≤ maxLen) {n : Nat} (hn : (List.length x0_1) < n) : spec_Hash_l3 N x0_1 n k3_0_6 x3_2 (0 : Int) =
    goL1 (fun (i : Nat) (x : Int) (x3_2 : Int) (next : Int → Option Ret) =>
        spec_Mod N x (2147483647 : Int) (fun (r17_5 : Int) =>
          next (Int.tmod (IntKind.wrap .i64 ((IntKind.wrap .i64 ((IntKind.wrap .i64 (x3_2 * (1000003 : Int))) + r17_5)) + (13 : Int))) (2147483647 : Int)))) (fun (x3_2 : Int) =>
        k3_0_6 x3_2) x0_1 0 x3_2 := by
  exact range1 (f := fun n x3_2 i => spec_Hash_l3 N x0_1 n k3_0_6 x3_2 i) (l := x0_1) (fun n i x3_2 h => by
    simp only [spec_Hash_l3]
    rw [decide_eq_true (show (i : Int) < (List.length x0_1 : Int) by omega)]
    simp only [cond_true, inB_nat h, Int.toNat_natCast, getD_nat _ i h]) (fun n x3_2 => by
    simp only [spec_Hash_l3]
    rw [decide_eq_false (by omega)]
    simp only [cond_false]) hl x0_1 0 n x3_2 rfl (by omega) hn
theorem spec_AreMinutes_l3_r {N : Nat} {x0_1 : (List QIIIIE)} {k3_0_8 : Option Ret} {k3_1_9 : Bool → Option Ret} {x3_2 : Int} (hl : (List.length x0_1) ≤ maxLen) {n : Nat} (hn : (List.length x0_1) < n) : spec_AreMinutes_l3 N x0_1 n k3_0_8 k3_1_9 x3_2 (0 : Int) =
    goL1 (fun (i : Nat) (x : QIIIIE) (x3_2 : Int) (next : Int → Option Ret) =>
        bif (decide ((List.length x0_1 : Int) ≤ (200 : Int))) then
          spec_l27Seal N x3_2 x (fun (r23_5 : Int) =>
            bif (x.1 != (IntKind.wrap .i64 ((i : Int) + (1 : Int)))) then
              k3_1_9 false
            else
              spec_l1In N x.2.1 (1 : Int) (9 : Int) (fun (r32_6 : Bool) =>
                bif (!r32_6) then
                  k3_1_9 false
                else
                  spec_l1In N x.2.2.1 (0 : Int) (99 : Int) (fun (r38_7 : Bool) =>
                    bif (!r38_7) then
                      k3_1_9 false
                    else
                      bif (x.2.2.2 != r23_5) then
                        k3_1_9 false
                      else
                        next r23_5)))
        else
          k3_0_8) (fun (x3_2 : Int) =>
        k3_0_8) x0_1 0 x3_2 := by
  exact range1 (f := fun n x3_2 i => spec_AreMinutes_l3 N x0_1 n k3_0_8 k3_1_9 x3_2 i) (l := x0_1) (fun n i x3_2 h => by
    simp only [spec_AreMinutes_l3]
    rw [decide_eq_true (show (i : Int) < (List.length x0_1 : Int) by omega)]
    simp only [cond_true, inB_nat h, Int.toNat_natCast, getD_nat _ i h]) (fun n x3_2 => by
    simp only [spec_AreMinutes_l3]
    rw [decide_eq_false (by omega)]
    simp only [cond_false]) hl x0_1 0 n x3_2 rfl (by omega) hn
theorem impl_ClubWins_l5_r {x1_2 : Int} {x12_4 : (List QIIIIILIE)} {k5_0_9 : Int → Option Ret} {x5_3 : Int} (hl : (List.length x12_4) ≤ maxLen) {n : Nat} (hn : (List.length x12_4) < n) : impl_ClubWins_l5 x1_2 x12_4 (List.length x12_4 : Int) n k5_0_9 x5_3 (0 : Int) =
    goL1 (fun (i : Nat) (x : QIIIIILIE) (x5_3 : Int) (next : Int → Option Ret) =>
        bif (x.2.1 == x1_2) then
          next (IntKind.wrap .i64 (x5_3 + x.2.2.1))
        else
          next x5_3) (fun (x5_3 : Int) =>
        k5_0_9 x5_3) x12_4 0 x5_3 := by
  exact range1 (f := fun n x5_3 i => impl_ClubWins_l5 x1_2 x12_4 (List.length x12_4 : Int) n k5_0_9 x5_3 i) (l := x12_4) (fun n i x5_3 h => by
    simp only [impl_ClubWins_l5]
    rw [decide_eq_true (show (i : Int) < (List.length x12_4 : Int) by omega)]
    simp only [cond_true, inB_nat h, Int.toNat_natCast, getD_nat _ i h]) (fun n x5_3 => by
    simp only [impl_ClubWins_l5]
    rw [decide_eq_false (by omega)]
    simp only [cond_false]) hl x12_4 0 n x5_3 rfl (by omega) hn
theorem impl_BusiestJudge_l5_r {x12_2 : (List QIILIE)} {k5_0_7 : QIILIE → Option Ret} {x3_1 : QIILIE} (hl : (List.length x12_2) ≤ maxLen) {n : Nat} (hn : (List.length x12_2) < n) : impl_BusiestJudge_l5 x12_2 (List.length x12_2 : Int) n k5_0_7 x3_1 (0 : Int) =
    goL1 (fun (i : Nat) (x : QIILIE) (x3_1 : QIILIE) (next : QIILIE → Option Ret) =>
        bif (decide ((List.length x.2.2 : Int) > (List.length x3_1.2.2 : Int))) then
          next x
        else
          next x3_1) (fun (x3_1 : QIILIE) =>
        k5_0_7 x3_1) x12_2 0 x3_1 := by
  exact range1 (f := fun n x3_1 i => impl_BusiestJudge_l5 x12_2 (List.length x12_2 : Int) n k5_0_7 x3_1 i) (l := x12_2) (fun n i x3_1 h => by
    simp only [impl_BusiestJudge_l5]
    rw [decide_eq_true (show (i : Int) < (List.length x12_2 : Int) by omega)]
    simp only [cond_true, inB_nat h, Int.toNat_natCast, getD_nat _ i h]) (fun n x3_1 => by
    simp only [impl_BusiestJudge_l5]
    rw [decide_eq_false (by omega)]
    simp only [cond_false]) hl x12_2 0 n x3_1 rfl (by omega) hn
theorem impl_CountWhat_l3_r {x1_1 : Int} {x8_3 : (List QIIIIE)} {k3_0_8 : Int → Option Ret} {x5_2 : Int} (hl : (List.length x8_3) ≤ maxLen) {n : Nat} (hn : (List.length x8_3) < n) : impl_CountWhat_l3 x1_1 x8_3 (List.length x8_3 : Int) n k3_0_8 x5_2 (0 : Int) =
    goL1 (fun (i : Nat) (x : QIIIIE) (x5_2 : Int) (next : Int → Option Ret) =>
        bif (x.2.1 == x1_1) then
          next (IntKind.wrap .i64 (x5_2 + (1 : Int)))
        else
          next x5_2) (fun (x5_2 : Int) =>
        k3_0_8 x5_2) x8_3 0 x5_2 := by
  exact range1 (f := fun n x5_2 i => impl_CountWhat_l3 x1_1 x8_3 (List.length x8_3 : Int) n k3_0_8 x5_2 i) (l := x8_3) (fun n i x5_2 h => by
    simp only [impl_CountWhat_l3]
    rw [decide_eq_true (show (i : Int) < (List.length x8_3 : Int) by omega)]
    simp only [cond_true, inB_nat h, Int.toNat_natCast, getD_nat _ i h]) (fun n x5_2 => by
    simp only [impl_CountWhat_l3]
    rw [decide_eq_false (by omega)]
    simp only [cond_false]) hl x8_3 0 n x5_2 rfl (by omega) hn
end Go.Pv.R
