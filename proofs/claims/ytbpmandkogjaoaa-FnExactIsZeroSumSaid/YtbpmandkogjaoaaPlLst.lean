/- Their loops over lists, without rounds. -/
import Derived.Test.YtbpmandkogjaoaaPlRes
namespace Go.Pv.R
set_option linter.unusedVariables false
set_option linter.unusedSimpArgs false
theorem laws_szTeamS_l5_r {N : Nat} {x0_1 : (List QIIIIILIE)} {k5_0_6 : Int → Option Ret} {k5_1_7 : Int → Option Ret} {x1_2 : Int} (hl : (List.length x0_1) ≤ maxLen) {n : Nat} (hn : (List.length x0_1) < n) : laws_szTeamS_l5 N x0_1 n k5_0_6 k5_1_7 x1_2 (0 : Int) =
    goL1 (fun (i : Nat) (x : QIIIIILIE) (x1_2 : Int) (next : Int → Option Ret) =>
        laws_szTeam N x x1_2 (fun (r23_5 : Int) =>
          bif (decide (r23_5 < (0 : Int))) then
            k5_1_7 (-1 : Int)
          else
            next r23_5)) (fun (x1_2 : Int) =>
        k5_0_6 x1_2) x0_1 0 x1_2 := by
  exact range1 (f := fun n x1_2 i => laws_szTeamS_l5 N x0_1 n k5_0_6 k5_1_7 x1_2 i) (l := x0_1) (fun n i x1_2 h => by
    simp only [laws_szTeamS_l5]
    rw [decide_eq_true (show (i : Int) < (List.length x0_1 : Int) by omega)]
    simp only [cond_true, inB_nat h, Int.toNat_natCast, getD_nat _ i h]) (fun n x1_2 => by
    simp only [laws_szTeamS_l5]
    rw [decide_eq_false (by omega)]
    simp only [cond_false]) hl x0_1 0 n x1_2 rfl (by omega) hn
theorem laws_szJudgeS_l5_r {N : Nat} {x0_1 : (List QIILIE)} {k5_0_6 : Int → Option Ret} {k5_1_7 : Int → Option Ret} {x1_2 : Int} (hl : (List.length x0_1) ≤ maxLen) {n : Nat} (hn : (List.length x0_1) < n) : laws_szJudgeS_l5 N x0_1 n k5_0_6 k5_1_7 x1_2 (0 : Int) =
    goL1 (fun (i : Nat) (x : QIILIE) (x1_2 : Int) (next : Int → Option Ret) =>
        laws_szJudge N x x1_2 (fun (r23_5 : Int) =>
          bif (decide (r23_5 < (0 : Int))) then
            k5_1_7 (-1 : Int)
          else
            next r23_5)) (fun (x1_2 : Int) =>
        k5_0_6 x1_2) x0_1 0 x1_2 := by
  exact range1 (f := fun n x1_2 i => laws_szJudgeS_l5 N x0_1 n k5_0_6 k5_1_7 x1_2 i) (l := x0_1) (fun n i x1_2 h => by
    simp only [laws_szJudgeS_l5]
    rw [decide_eq_true (show (i : Int) < (List.length x0_1 : Int) by omega)]
    simp only [cond_true, inB_nat h, Int.toNat_natCast, getD_nat _ i h]) (fun n x1_2 => by
    simp only [laws_szJudgeS_l5]
    rw [decide_eq_false (by omega)]
    simp only [cond_false]) hl x0_1 0 n x1_2 rfl (by omega) hn
theorem laws_toIntS_l3_r {x0_1 : (List Int)} {k3_0_5 : (List Int) → Option Ret} {x3_2 : (List Int)} (hl : (List.length x0_1) ≤ maxLen) {n : Nat} (hn : (List.length x0_1) < n) : laws_toIntS_l3 x0_1 n k3_0_5 x3_2 (0 : Int) =
    goL1 (fun (i : Nat) (x : Int) (x3_2 : (List Int)) (next : (List Int) → Option Ret) =>
        bif (inB (i : Int) (List.length x3_2)) then
          next (List.set x3_2 (Int.toNat (i : Int)) x)
        else none) (fun (x3_2 : (List Int)) =>
        k3_0_5 x3_2) x0_1 0 x3_2 := by
  exact range1 (f := fun n x3_2 i => laws_toIntS_l3 x0_1 n k3_0_5 x3_2 i) (l := x0_1) (fun n i x3_2 h => by
    simp only [laws_toIntS_l3]
    rw [decide_eq_true (show (i : Int) < (List.length x0_1 : Int) by omega)]
    simp only [cond_true, inB_nat h, Int.toNat_natCast, getD_nat _ i h]) (fun n x3_2 => by
    simp only [laws_toIntS_l3]
    rw [decide_eq_false (by omega)]
    simp only [cond_false]) hl x0_1 0 n x3_2 rfl (by omega) hn
theorem laws_toTeamS_l3_r {N : Nat} {x0_1 : (List QIIIIILIE)} {k3_0_6 : (List QIIIIILIE) → Option Ret} {x3_2 : (List QIIIIILIE)} (hl : (List.length x0_1) ≤ maxLen) {n : Nat} (hn : (List.length x0_1) < n) : laws_toTeamS_l3 N x0_1 n k3_0_6 x3_2 (0 : Int) =
    goL1 (fun (i : Nat) (x : QIIIIILIE) (x3_2 : (List QIIIIILIE)) (next : (List QIIIIILIE) → Option Ret) =>
        laws_toTeam N x (fun (r20_5 : QIIIIILIE) =>
          bif (inB (i : Int) (List.length x3_2)) then
            next (List.set x3_2 (Int.toNat (i : Int)) r20_5)
          else none)) (fun (x3_2 : (List QIIIIILIE)) =>
        k3_0_6 x3_2) x0_1 0 x3_2 := by
  exact range1 (f := fun n x3_2 i => laws_toTeamS_l3 N x0_1 n k3_0_6 x3_2 i) (l := x0_1) (fun n i x3_2 h => by
    simp only [laws_toTeamS_l3]
    rw [decide_eq_true (show (i : Int) < (List.length x0_1 : Int) by omega)]
    simp only [cond_true, inB_nat h, Int.toNat_natCast, getD_nat _ i h]) (fun n x3_2 => by
    simp only [laws_toTeamS_l3]
    rw [decide_eq_false (by omega)]
    simp only [cond_false]) hl x0_1 0 n x3_2 rfl (by omega) hn
theorem laws_toJudgeS_l3_r {N : Nat} {x0_1 : (List QIILIE)} {k3_0_6 : (List QIILIE) → Option Ret} {x3_2 : (List QIILIE)} (hl : (List.length x0_1) ≤ maxLen) {n : Nat} (hn : (List.length x0_1) < n) : laws_toJudgeS_l3 N x0_1 n k3_0_6 x3_2 (0 : Int) =
    goL1 (fun (i : Nat) (x : QIILIE) (x3_2 : (List QIILIE)) (next : (List QIILIE) → Option Ret) =>
        laws_toJudge N x (fun (r20_5 : QIILIE) =>
          bif (inB (i : Int) (List.length x3_2)) then
            next (List.set x3_2 (Int.toNat (i : Int)) r20_5)
          else none)) (fun (x3_2 : (List QIILIE)) =>
        k3_0_6 x3_2) x0_1 0 x3_2 := by
  exact range1 (f := fun n x3_2 i => laws_toJudgeS_l3 N x0_1 n k3_0_6 x3_2 i) (l := x0_1) (fun n i x3_2 h => by
    simp only [laws_toJudgeS_l3]
    rw [decide_eq_true (show (i : Int) < (List.length x0_1 : Int) by omega)]
    simp only [cond_true, inB_nat h, Int.toNat_natCast, getD_nat _ i h]) (fun n x3_2 => by
    simp only [laws_toJudgeS_l3]
    rw [decide_eq_false (by omega)]
    simp only [cond_false]) hl x0_1 0 n x3_2 rfl (by omega) hn
theorem laws_toPairS_l3_r {N : Nat} {x0_1 : (List QIIE)} {k3_0_6 : (List QIIE) → Option Ret} {x3_2 : (List QIIE)} (hl : (List.length x0_1) ≤ maxLen) {n : Nat} (hn : (List.length x0_1) < n) : laws_toPairS_l3 N x0_1 n k3_0_6 x3_2 (0 : Int) =
    goL1 (fun (i : Nat) (x : QIIE) (x3_2 : (List QIIE)) (next : (List QIIE) → Option Ret) =>
        laws_toPair N x (fun (r20_5 : QIIE) =>
          bif (inB (i : Int) (List.length x3_2)) then
            next (List.set x3_2 (Int.toNat (i : Int)) r20_5)
          else none)) (fun (x3_2 : (List QIIE)) =>
        k3_0_6 x3_2) x0_1 0 x3_2 := by
  exact range1 (f := fun n x3_2 i => laws_toPairS_l3 N x0_1 n k3_0_6 x3_2 i) (l := x0_1) (fun n i x3_2 h => by
    simp only [laws_toPairS_l3]
    rw [decide_eq_true (show (i : Int) < (List.length x0_1 : Int) by omega)]
    simp only [cond_true, inB_nat h, Int.toNat_natCast, getD_nat _ i h]) (fun n x3_2 => by
    simp only [laws_toPairS_l3]
    rw [decide_eq_false (by omega)]
    simp only [cond_false]) hl x0_1 0 n x3_2 rfl (by omega) hn
theorem laws_toBallotS_l3_r {N : Nat} {x0_1 : (List QIIIE)} {k3_0_6 : (List QIIIE) → Option Ret} {x3_2 : (List QIIIE)} (hl : (List.length x0_1) ≤ maxLen) {n : Nat} (hn : (List.length x0_1) < n) : laws_toBallotS_l3 N x0_1 n k3_0_6 x3_2 (0 : Int) =
    goL1 (fun (i : Nat) (x : QIIIE) (x3_2 : (List QIIIE)) (next : (List QIIIE) → Option Ret) =>
        laws_toBallot N x (fun (r20_5 : QIIIE) =>
          bif (inB (i : Int) (List.length x3_2)) then
            next (List.set x3_2 (Int.toNat (i : Int)) r20_5)
          else none)) (fun (x3_2 : (List QIIIE)) =>
        k3_0_6 x3_2) x0_1 0 x3_2 := by
  exact range1 (f := fun n x3_2 i => laws_toBallotS_l3 N x0_1 n k3_0_6 x3_2 i) (l := x0_1) (fun n i x3_2 h => by
    simp only [laws_toBallotS_l3]
    rw [decide_eq_true (show (i : Int) < (List.length x0_1 : Int) by omega)]
    simp only [cond_true, inB_nat h, Int.toNat_natCast, getD_nat _ i h]) (fun n x3_2 => by
    simp only [laws_toBallotS_l3]
    rw [decide_eq_false (by omega)]
    simp only [cond_false]) hl x0_1 0 n x3_2 rfl (by omega) hn
theorem laws_toLineS_l3_r {N : Nat} {x0_1 : (List QIIIIE)} {k3_0_6 : (List QIIIIE) → Option Ret} {x3_2 : (List QIIIIE)} (hl : (List.length x0_1) ≤ maxLen) {n : Nat} (hn : (List.length x0_1) < n) : laws_toLineS_l3 N x0_1 n k3_0_6 x3_2 (0 : Int) =
    goL1 (fun (i : Nat) (x : QIIIIE) (x3_2 : (List QIIIIE)) (next : (List QIIIIE) → Option Ret) =>
        laws_toLine N x (fun (r20_5 : QIIIIE) =>
          bif (inB (i : Int) (List.length x3_2)) then
            next (List.set x3_2 (Int.toNat (i : Int)) r20_5)
          else none)) (fun (x3_2 : (List QIIIIE)) =>
        k3_0_6 x3_2) x0_1 0 x3_2 := by
  exact range1 (f := fun n x3_2 i => laws_toLineS_l3 N x0_1 n k3_0_6 x3_2 i) (l := x0_1) (fun n i x3_2 h => by
    simp only [laws_toLineS_l3]
    rw [decide_eq_true (show (i : Int) < (List.length x0_1 : Int) by omega)]
    simp only [cond_true, inB_nat h, Int.toNat_natCast, getD_nat _ i h]) (fun n x3_2 => by
    simp only [laws_toLineS_l3]
    rw [decide_eq_false (by omega)]
    simp only [cond_false]) hl x0_1 0 n x3_2 rfl (by omega) hn
theorem laws_eqIntS_l4_r {x0_1 : (List Int)} {x1_2 : (List Int)} {k4_0_5 : Option Ret} {k4_1_6 : Bool → Option Ret} (hl : (List.length x0_1) ≤ maxLen) {n : Nat} (hn : (List.length x0_1) < n) : laws_eqIntS_l4 x0_1 x1_2 n k4_0_5 k4_1_6 (0 : Int) =
    goL (fun (i : Nat) (x : Int) (next : Option Ret) =>
        bif (inB (i : Int) (List.length x1_2)) then
          bif (x != (List.getD x1_2 (Int.toNat (i : Int)) (0 : Int))) then
            k4_1_6 false
          else
            next
        else none) (
        k4_0_5) x0_1 0 := by
  exact range0 (f := fun n i => laws_eqIntS_l4 x0_1 x1_2 n k4_0_5 k4_1_6 i) (l := x0_1) (fun n i h => by
    simp only [laws_eqIntS_l4]
    rw [decide_eq_true (show (i : Int) < (List.length x0_1 : Int) by omega)]
    simp only [cond_true, inB_nat h, Int.toNat_natCast, getD_nat _ i h]) (fun n => by
    simp only [laws_eqIntS_l4]
    rw [decide_eq_false (by omega)]
    simp only [cond_false]) hl x0_1 0 n rfl (by omega) hn
theorem laws_eqTeamS_l4_r {N : Nat} {x0_1 : (List QIIIIILIE)} {x1_2 : (List QIIIIILIE)} {k4_0_6 : Option Ret} {k4_1_7 : Bool → Option Ret} (hl : (List.length x0_1) ≤ maxLen) {n : Nat} (hn : (List.length x0_1) < n) : laws_eqTeamS_l4 N x0_1 x1_2 n k4_0_6 k4_1_7 (0 : Int) =
    goL (fun (i : Nat) (x : QIIIIILIE) (next : Option Ret) =>
        bif (inB (i : Int) (List.length x1_2)) then
          laws_eqTeam N x (List.getD x1_2 (Int.toNat (i : Int)) zQIIIIILIE) (fun (r25_5 : Bool) =>
            bif (!r25_5) then
              k4_1_7 false
            else
              next)
        else none) (
        k4_0_6) x0_1 0 := by
  exact range0 (f := fun n i => laws_eqTeamS_l4 N x0_1 x1_2 n k4_0_6 k4_1_7 i) (l := x0_1) (fun n i h => by
    simp only [laws_eqTeamS_l4]
    rw [decide_eq_true (show (i : Int) < (List.length x0_1 : Int) by omega)]
    simp only [cond_true, inB_nat h, Int.toNat_natCast, getD_nat _ i h]) (fun n => by
    simp only [laws_eqTeamS_l4]
    rw [decide_eq_false (by omega)]
    simp only [cond_false]) hl x0_1 0 n rfl (by omega) hn
theorem laws_eqJudgeS_l4_r {N : Nat} {x0_1 : (List QIILIE)} {x1_2 : (List QIILIE)} {k4_0_6 : Option Ret} {k4_1_7 : Bool → Option Ret} (hl : (List.length x0_1) ≤ maxLen) {n : Nat} (hn : (List.length x0_1) < n) : laws_eqJudgeS_l4 N x0_1 x1_2 n k4_0_6 k4_1_7 (0 : Int) =
    goL (fun (i : Nat) (x : QIILIE) (next : Option Ret) =>
        bif (inB (i : Int) (List.length x1_2)) then
          laws_eqJudge N x (List.getD x1_2 (Int.toNat (i : Int)) zQIILIE) (fun (r25_5 : Bool) =>
            bif (!r25_5) then
              k4_1_7 false
            else
              next)
        else none) (
        k4_0_6) x0_1 0 := by
  exact range0 (f := fun n i => laws_eqJudgeS_l4 N x0_1 x1_2 n k4_0_6 k4_1_7 i) (l := x0_1) (fun n i h => by
    simp only [laws_eqJudgeS_l4]
    rw [decide_eq_true (show (i : Int) < (List.length x0_1 : Int) by omega)]
    simp only [cond_true, inB_nat h, Int.toNat_natCast, getD_nat _ i h]) (fun n => by
    simp only [laws_eqJudgeS_l4]
    rw [decide_eq_false (by omega)]
    simp only [cond_false]) hl x0_1 0 n rfl (by omega) hn
theorem laws_eqPairS_l4_r {N : Nat} {x0_1 : (List QIIE)} {x1_2 : (List QIIE)} {k4_0_6 : Option Ret} {k4_1_7 : Bool → Option Ret} (hl : (List.length x0_1) ≤ maxLen) {n : Nat} (hn : (List.length x0_1) < n) : laws_eqPairS_l4 N x0_1 x1_2 n k4_0_6 k4_1_7 (0 : Int) =
    goL (fun (i : Nat) (x : QIIE) (next : Option Ret) =>
        bif (inB (i : Int) (List.length x1_2)) then
          laws_eqPair N x (List.getD x1_2 (Int.toNat (i : Int)) zQIIE) (fun (r25_5 : Bool) =>
            bif (!r25_5) then
              k4_1_7 false
            else
              next)
        else none) (
        k4_0_6) x0_1 0 := by
  exact range0 (f := fun n i => laws_eqPairS_l4 N x0_1 x1_2 n k4_0_6 k4_1_7 i) (l := x0_1) (fun n i h => by
    simp only [laws_eqPairS_l4]
    rw [decide_eq_true (show (i : Int) < (List.length x0_1 : Int) by omega)]
    simp only [cond_true, inB_nat h, Int.toNat_natCast, getD_nat _ i h]) (fun n => by
    simp only [laws_eqPairS_l4]
    rw [decide_eq_false (by omega)]
    simp only [cond_false]) hl x0_1 0 n rfl (by omega) hn
theorem laws_eqBallotS_l4_r {N : Nat} {x0_1 : (List QIIIE)} {x1_2 : (List QIIIE)} {k4_0_6 : Option Ret} {k4_1_7 : Bool → Option Ret} (hl : (List.length x0_1) ≤ maxLen) {n : Nat} (hn : (List.length x0_1) < n) : laws_eqBallotS_l4 N x0_1 x1_2 n k4_0_6 k4_1_7 (0 : Int) =
    goL (fun (i : Nat) (x : QIIIE) (next : Option Ret) =>
        bif (inB (i : Int) (List.length x1_2)) then
          laws_eqBallot N x (List.getD x1_2 (Int.toNat (i : Int)) zQIIIE) (fun (r25_5 : Bool) =>
            bif (!r25_5) then
              k4_1_7 false
            else
              next)
        else none) (
        k4_0_6) x0_1 0 := by
  exact range0 (f := fun n i => laws_eqBallotS_l4 N x0_1 x1_2 n k4_0_6 k4_1_7 i) (l := x0_1) (fun n i h => by
    simp only [laws_eqBallotS_l4]
    rw [decide_eq_true (show (i : Int) < (List.length x0_1 : Int) by omega)]
    simp only [cond_true, inB_nat h, Int.toNat_natCast, getD_nat _ i h]) (fun n => by
    simp only [laws_eqBallotS_l4]
    rw [decide_eq_false (by omega)]
    simp only [cond_false]) hl x0_1 0 n rfl (by omega) hn
theorem laws_eqLineS_l4_r {N : Nat} {x0_1 : (List QIIIIE)} {x1_2 : (List QIIIIE)} {k4_0_6 : Option Ret} {k4_1_7 : Bool → Option Ret} (hl : (List.length x0_1) ≤ maxLen) {n : Nat} (hn : (List.length x0_1) < n) : laws_eqLineS_l4 N x0_1 x1_2 n k4_0_6 k4_1_7 (0 : Int) =
    goL (fun (i : Nat) (x : QIIIIE) (next : Option Ret) =>
        bif (inB (i : Int) (List.length x1_2)) then
          laws_eqLine N x (List.getD x1_2 (Int.toNat (i : Int)) zQIIIIE) (fun (r25_5 : Bool) =>
            bif (!r25_5) then
              k4_1_7 false
            else
              next)
        else none) (
        k4_0_6) x0_1 0 := by
  exact range0 (f := fun n i => laws_eqLineS_l4 N x0_1 x1_2 n k4_0_6 k4_1_7 i) (l := x0_1) (fun n i h => by
    simp only [laws_eqLineS_l4]
    rw [decide_eq_true (show (i : Int) < (List.length x0_1 : Int) by omega)]
    simp only [cond_true, inB_nat h, Int.toNat_natCast, getD_nat _ i h]) (fun n => by
    simp only [laws_eqLineS_l4]
    rw [decide_eq_false (by omega)]
    simp only [cond_false]) hl x0_1 0 n rfl (by omega) hn
theorem impl_times_l3_r {x1_1 : Int} {x8_3 : (List Int)} {k3_0_8 : Int → Option Ret} {x5_2 : Int} (hl : (List.length x8_3) ≤ maxLen) {n : Nat} (hn : (List.length x8_3) < n) : impl_times_l3 x1_1 x8_3 (List.length x8_3 : Int) n k3_0_8 x5_2 (0 : Int) =
    goL1 (fun (i : Nat) (x : Int) (x5_2 : Int) (next : Int → Option Ret) =>
        bif (x == x1_1) then
          next (IntKind.wrap .i64 (x5_2 + (1 : Int)))
        else
          next x5_2) (fun (x5_2 : Int) =>
        k3_0_8 x5_2) x8_3 0 x5_2 := by
  exact range1 (f := fun n x5_2 i => impl_times_l3 x1_1 x8_3 (List.length x8_3 : Int) n k3_0_8 x5_2 i) (l := x8_3) (fun n i x5_2 h => by
    simp only [impl_times_l3]
    rw [decide_eq_true (show (i : Int) < (List.length x8_3 : Int) by omega)]
    simp only [cond_true, inB_nat h, Int.toNat_natCast, getD_nat _ i h]) (fun n x5_2 => by
    simp only [impl_times_l3]
    rw [decide_eq_false (by omega)]
    simp only [cond_false]) hl x8_3 0 n x5_2 rfl (by omega) hn
theorem spec_FindTeam_l2_r {x0_1 : (List QIIIIILIE)} {x1_2 : Int} {k2_0_5 : Option Ret} {k2_1_6 : Int → Option Ret} (hl : (List.length x0_1) ≤ maxLen) {n : Nat} (hn : (List.length x0_1) < n) : spec_FindTeam_l2 x0_1 x1_2 n k2_0_5 k2_1_6 (0 : Int) =
    goL (fun (i : Nat) (x : QIIIIILIE) (next : Option Ret) =>
        bif (x.1 == x1_2) then
          k2_1_6 (i : Int)
        else
          next) (
        k2_0_5) x0_1 0 := by
  exact range0 (f := fun n i => spec_FindTeam_l2 x0_1 x1_2 n k2_0_5 k2_1_6 i) (l := x0_1) (fun n i h => by
    simp only [spec_FindTeam_l2]
    rw [decide_eq_true (show (i : Int) < (List.length x0_1 : Int) by omega)]
    simp only [cond_true, inB_nat h, Int.toNat_natCast, getD_nat _ i h]) (fun n => by
    simp only [spec_FindTeam_l2]
    rw [decide_eq_false (by omega)]
    simp only [cond_false]) hl x0_1 0 n rfl (by omega) hn
theorem slices_IndexFunc_Team_impl_FindTeam_1_l2_r {N : Nat} {x0_1 : (List QIIIIILIE)} {x1_2 : Int} {k2_0_7 : Option Ret} {k2_1_8 : Int → Option Ret} (hl : (List.length x0_1) ≤ maxLen) {n : Nat} (hn : (List.length x0_1) < n) : slices_IndexFunc_Team_impl_FindTeam_1_l2 N x0_1 x1_2 (List.length x0_1 : Int) n k2_0_7 k2_1_8 (0 : Int) =
    goL (fun (i : Nat) (x : QIIIIILIE) (next : Option Ret) =>
        impl_FindTeam_1 N x x1_2 (fun (r16_6 : Bool) =>
          bif r16_6 then
            k2_1_8 (i : Int)
          else
            next)) (
        k2_0_7) x0_1 0 := by
  exact range0 (f := fun n i => slices_IndexFunc_Team_impl_FindTeam_1_l2 N x0_1 x1_2 (List.length x0_1 : Int) n k2_0_7 k2_1_8 i) (l := x0_1) (fun n i h => by
    simp only [slices_IndexFunc_Team_impl_FindTeam_1_l2]
    rw [decide_eq_true (show (i : Int) < (List.length x0_1 : Int) by omega)]
    simp only [cond_true, inB_nat h, Int.toNat_natCast, getD_nat _ i h]) (fun n => by
    simp only [slices_IndexFunc_Team_impl_FindTeam_1_l2]
    rw [decide_eq_false (by omega)]
    simp only [cond_false]) hl x0_1 0 n rfl (by omega) hn
theorem spec_l19Count_l3_r {x0_1 : (List Int)} {x1_2 : Int} {k3_0_7 : Int → Option Ret} {x5_3 : Int} (hl : (List.length x0_1) ≤ maxLen) {n : Nat} (hn : (List.length x0_1) < n) : spec_l19Count_l3 x0_1 x1_2 n k3_0_7 x5_3 (0 : Int) =
    goL1 (fun (i : Nat) (x : Int) (x5_3 : Int) (next : Int → Option Ret) =>
        bif (x == x1_2) then
          next (IntKind.wrap .i64 (x5_3 + (1 : Int)))
        else
          next x5_3) (fun (x5_3 : Int) =>
        k3_0_7 x5_3) x0_1 0 x5_3 := by
  exact range1 (f := fun n x5_3 i => spec_l19Count_l3 x0_1 x1_2 n k3_0_7 x5_3 i) (l := x0_1) (fun n i x5_3 h => by
    simp only [spec_l19Count_l3]
    rw [decide_eq_true (show (i : Int) < (List.length x0_1 : Int) by omega)]
    simp only [cond_true, inB_nat h, Int.toNat_natCast, getD_nat _ i h]) (fun n x5_3 => by
    simp only [spec_l19Count_l3]
    rw [decide_eq_false (by omega)]
    simp only [cond_false]) hl x0_1 0 n x5_3 rfl (by omega) hn
theorem spec_AreTeams_l8_r {N : Nat} {x0_9 : (List QIIIIILIE)} {x3_10 : Int} {x4_11 : QIIIIILIE} {k8_0_17 : Option Ret} {k8_1_18 : Bool → Option Ret} (hl : (List.length x4_11.2.2.2.2.2) ≤ maxLen) {n : Nat} (hn : (List.length x4_11.2.2.2.2.2) < n) : spec_AreTeams_l8 N x0_9 x3_10 x4_11 n k8_0_17 k8_1_18 (0 : Int) =
    goL (fun (i : Nat) (x : _) (next : Option Ret) =>
        spec_FindTeam N x0_9 x (fun (r85_14 : Int) =>
          bif (decide (r85_14 < (0 : Int))) then
            k8_1_18 false
          else
            bif (r85_14 == x3_10) then
              k8_1_18 false
            else
              bif (inB r85_14 (List.length x0_9)) then
                bif (inB r85_14 (List.length x0_9)) then
                  spec_l19Count N (List.getD x0_9 (Int.toNat r85_14) zQIIIIILIE).2.2.2.2.2 x4_11.1 (fun (r101_15 : Int) =>
                    spec_l19Count N x4_11.2.2.2.2.2 (List.getD x0_9 (Int.toNat r85_14) zQIIIIILIE).1 (fun (r109_16 : Int) =>
                      bif (r101_15 != r109_16) then
                        k8_1_18 false
                      else
                        next))
                else none
              else none)) (
        k8_0_17) x4_11.2.2.2.2.2 0 := by
  exact range0 (f := fun n i => spec_AreTeams_l8 N x0_9 x3_10 x4_11 n k8_0_17 k8_1_18 i) (l := x4_11.2.2.2.2.2) (fun n i h => by
    simp only [spec_AreTeams_l8]
    rw [decide_eq_true (show (i : Int) < (List.length x4_11.2.2.2.2.2 : Int) by omega)]
    simp only [cond_true, inB_nat h, Int.toNat_natCast, getD_nat _ i h]) (fun n => by
    simp only [spec_AreTeams_l8]
    rw [decide_eq_false (by omega)]
    simp only [cond_false]) hl x4_11.2.2.2.2.2 0 n rfl (by omega) hn
theorem spec_AreTeams_l2_r {N : Nat} {x0_1 : (List QIIIIILIE)} {k2_0_21 : Option Ret} {k2_1_22 : Bool → Option Ret} (hl : (List.length x0_1) ≤ maxLen) {n : Nat} (hn : (List.length x0_1) < n) : spec_AreTeams_l2 N x0_1 n k2_0_21 k2_1_22 (0 : Int) =
    goL (fun (i : Nat) (x : QIIIIILIE) (next : Option Ret) =>
        spec_l1In N x.1 (1 : Int) (99 : Int) (fun (r19_4 : Bool) =>
          bif (!r19_4) then
            k2_1_22 false
          else
            spec_l1In N x.2.1 (1 : Int) (99 : Int) (fun (r24_5 : Bool) =>
              bif (!r24_5) then
                k2_1_22 false
              else
                spec_l1In N x.2.2.1 (0 : Int) (List.length x.2.2.2.2.2 : Int) (fun (r33_6 : Bool) =>
                  bif (!r33_6) then
                    k2_1_22 false
                  else
                    spec_l1In N x.2.2.2.2.1 (0 : Int) (List.length x.2.2.2.2.2 : Int) (fun (r42_7 : Bool) =>
                      bif (!r42_7) then
                        k2_1_22 false
                      else
                        spec_l1In N x.2.2.2.1 (0 : Int) (100000 : Int) (fun (r48_8 : Bool) =>
                          bif (!r48_8) then
                            k2_1_22 false
                          else
                            bif (decide ((List.length x.2.2.2.2.2 : Int) > (20 : Int))) then
                              k2_1_22 false
                            else
                              bif (decide ((i : Int) > (0 : Int))) then
                                bif (inB (IntKind.wrap .i64 ((i : Int) - (1 : Int))) (List.length x0_1)) then
                                  bif (decide ((List.getD x0_1 (Int.toNat (IntKind.wrap .i64 ((i : Int) - (1 : Int)))) zQIIIIILIE).1 ≥ x.1)) then
                                    k2_1_22 false
                                  else
                                    spec_AreTeams_l8 N x0_1 (i : Int) x N next k2_1_22 (0 : Int)
                                else none
                              else
                                spec_AreTeams_l8 N x0_1 (i : Int) x N next k2_1_22 (0 : Int))))))) (
        k2_0_21) x0_1 0 := by
  exact range0 (f := fun n i => spec_AreTeams_l2 N x0_1 n k2_0_21 k2_1_22 i) (l := x0_1) (fun n i h => by
    simp only [spec_AreTeams_l2]
    rw [decide_eq_true (show (i : Int) < (List.length x0_1 : Int) by omega)]
    simp only [cond_true, inB_nat h, Int.toNat_natCast, getD_nat _ i h]) (fun n => by
    simp only [spec_AreTeams_l2]
    rw [decide_eq_false (by omega)]
    simp only [cond_false]) hl x0_1 0 n rfl (by omega) hn
theorem spec_IsZeroSum_l5_r {N : Nat} {x1_1 : QLQIIIIILIELQIILIELQIIELILQIIIELQIIIIEIE} {k5_0_8 : Int → Int → Int → Option Ret} {x3_2 : Int} {x4_3 : Int} {x5_4 : Int} (hl : (List.length x1_1.1) ≤ maxLen) {n : Nat} (hn : (List.length x1_1.1) < n) : spec_IsZeroSum_l5 N x1_1 n k5_0_8 x3_2 x4_3 x5_4 (0 : Int) =
    goL3 (fun (i : Nat) (x : _) (x3_2 : Int) (x4_3 : Int) (x5_4 : Int) (next : Int → Int → Int → Option Ret) =>
        spec_AreTeams N x1_1.1 (fun (r15_7 : Bool) =>
          bif r15_7 then
            next (IntKind.wrap .i64 (x3_2 + (List.length x.2.2.2.2.2 : Int))) (IntKind.wrap .i64 (x4_3 + x.2.2.1)) (IntKind.wrap .i64 (x5_4 + x.2.2.2.2.1))
          else
            k5_0_8 x3_2 x4_3 x5_4)) (fun (x3_2 : Int) (x4_3 : Int) (x5_4 : Int) =>
        k5_0_8 x3_2 x4_3 x5_4) x1_1.1 0 x3_2 x4_3 x5_4 := by
  exact range3 (f := fun n x3_2 x4_3 x5_4 i => spec_IsZeroSum_l5 N x1_1 n k5_0_8 x3_2 x4_3 x5_4 i) (l := x1_1.1) (fun n i x3_2 x4_3 x5_4 h => by
    simp only [spec_IsZeroSum_l5]
    rw [decide_eq_true (show (i : Int) < (List.length x1_1.1 : Int) by omega)]
    simp only [cond_true, inB_nat h, Int.toNat_natCast, getD_nat _ i h]) (fun n x3_2 x4_3 x5_4 => by
    simp only [spec_IsZeroSum_l5]
    rw [decide_eq_false (by omega)]
    simp only [cond_false]) hl x1_1.1 0 n x3_2 x4_3 x5_4 rfl (by omega) hn
theorem impl_AreTeams_l10_r {N : Nat} {x0_16 : (List QIIIIILIE)} {x4_17 : QIIIIILIE} {x12_18 : (List QIIIIILIE)} {x13_19 : Int} {x14_20 : Int} {x72_21 : (List Int)} {k10_0_28 : Option Ret} {k10_1_29 : Bool → Option Ret} (hl : (List.length x72_21) ≤ maxLen) {n : Nat} (hn : (List.length x72_21) < n) : impl_AreTeams_l10 N x0_16 x4_17 x12_18 x13_19 x14_20 x72_21 (List.length x72_21 : Int) n k10_0_28 k10_1_29 (0 : Int) =
    goL (fun (i : Nat) (x : Int) (next : Option Ret) =>
        impl_FindTeam N x0_16 x (fun (r80_25 : Int) =>
          bif (decide (r80_25 < (0 : Int))) then
            k10_1_29 false
          else
            bif (x == x4_17.1) then
              k10_1_29 false
            else
              bif (inB r80_25 (List.length x0_16)) then
                impl_times N x4_17.2.2.2.2.2 x (fun (r93_26 : Int) =>
                  impl_times N (List.getD x0_16 (Int.toNat r80_25) zQIIIIILIE).2.2.2.2.2 x4_17.1 (fun (r101_27 : Int) =>
                    bif (r93_26 != r101_27) then
                      k10_1_29 false
                    else
                      next))
              else none)) (
        k10_0_28) x72_21 0 := by
  exact range0 (f := fun n i => impl_AreTeams_l10 N x0_16 x4_17 x12_18 x13_19 x14_20 x72_21 (List.length x72_21 : Int) n k10_0_28 k10_1_29 i) (l := x72_21) (fun n i h => by
    simp only [impl_AreTeams_l10]
    rw [decide_eq_true (show (i : Int) < (List.length x72_21 : Int) by omega)]
    simp only [cond_true, inB_nat h, Int.toNat_natCast, getD_nat _ i h]) (fun n => by
    simp only [impl_AreTeams_l10]
    rw [decide_eq_false (by omega)]
    simp only [cond_false]) hl x72_21 0 n rfl (by omega) hn
theorem impl_AreTeams_l4_r {N : Nat} {x0_1 : (List QIIIIILIE)} {x12_2 : (List QIIIIILIE)} {k4_0_32 : Option Ret} {k4_1_33 : Bool → Option Ret} (hl : (List.length x12_2) ≤ maxLen) {n : Nat} (hn : (List.length x12_2) < n) : impl_AreTeams_l4 N x0_1 x12_2 (List.length x12_2 : Int) n k4_0_32 k4_1_33 (0 : Int) =
    goL (fun (i : Nat) (x : QIIIIILIE) (next : Option Ret) =>
        impl_InRange N x.1 (1 : Int) (99 : Int) (fun (r24_6 : Bool) =>
          bif (!r24_6) then
            k4_1_33 false
          else
            bif (decide ((i : Int) > (0 : Int))) then
              bif (inB (IntKind.wrap .i64 ((i : Int) - (1 : Int))) (List.length x0_1)) then
                bif (decide (x.1 ≤ (List.getD x0_1 (Int.toNat (IntKind.wrap .i64 ((i : Int) - (1 : Int)))) zQIIIIILIE).1)) then
                  k4_1_33 false
                else
                  impl_InRange N x.2.1 (1 : Int) (99 : Int) (fun (r44_7 : Bool) =>
                    bif (!r44_7) then
                      k4_1_33 false
                    else
                      bif (decide ((List.length x.2.2.2.2.2 : Int) > (20 : Int))) then
                        k4_1_33 false
                      else
                        impl_InRange N x.2.2.1 (0 : Int) (List.length x.2.2.2.2.2 : Int) (fun (r55_8 : Bool) =>
                          bif (!r55_8) then
                            k4_1_33 false
                          else
                            impl_InRange N x.2.2.2.2.1 (0 : Int) (List.length x.2.2.2.2.2 : Int) (fun (r62_9 : Bool) =>
                              bif (!r62_9) then
                                k4_1_33 false
                              else
                                impl_InRange N x.2.2.2.1 (0 : Int) (100000 : Int) (fun (r68_10 : Bool) =>
                                  bif (!r68_10) then
                                    k4_1_33 false
                                  else
                                    impl_AreTeams_l10 N x0_1 x x12_2 (List.length x12_2 : Int) (i : Int) x.2.2.2.2.2 (List.length x.2.2.2.2.2 : Int) N next k4_1_33 (0 : Int)))))
              else none
            else
              impl_InRange N x.2.1 (1 : Int) (99 : Int) (fun (r44_11 : Bool) =>
                bif (!r44_11) then
                  k4_1_33 false
                else
                  bif (decide ((List.length x.2.2.2.2.2 : Int) > (20 : Int))) then
                    k4_1_33 false
                  else
                    impl_InRange N x.2.2.1 (0 : Int) (List.length x.2.2.2.2.2 : Int) (fun (r55_12 : Bool) =>
                      bif (!r55_12) then
                        k4_1_33 false
                      else
                        impl_InRange N x.2.2.2.2.1 (0 : Int) (List.length x.2.2.2.2.2 : Int) (fun (r62_13 : Bool) =>
                          bif (!r62_13) then
                            k4_1_33 false
                          else
                            impl_InRange N x.2.2.2.1 (0 : Int) (100000 : Int) (fun (r68_14 : Bool) =>
                              bif (!r68_14) then
                                k4_1_33 false
                              else
                                impl_AreTeams_l10 N x0_1 x x12_2 (List.length x12_2 : Int) (i : Int) x.2.2.2.2.2 (List.length x.2.2.2.2.2 : Int) N next k4_1_33 (0 : Int))))))) (
        k4_0_32) x12_2 0 := by
  exact range0 (f := fun n i => impl_AreTeams_l4 N x0_1 x12_2 (List.length x12_2 : Int) n k4_0_32 k4_1_33 i) (l := x12_2) (fun n i h => by
    simp only [impl_AreTeams_l4, impl_AreTeams_j1]
    rw [decide_eq_true (show (i : Int) < (List.length x12_2 : Int) by omega)]
    simp only [cond_true, inB_nat h, Int.toNat_natCast, getD_nat _ i h]) (fun n => by
    simp only [impl_AreTeams_l4, impl_AreTeams_j1]
    rw [decide_eq_false (by omega)]
    simp only [cond_false]) hl x12_2 0 n rfl (by omega) hn
theorem impl_IsZeroSum_l3_r {x1_1 : QLQIIIIILIELQIILIELQIIELILQIIIELQIIIIEIE} {x9_5 : (List QIIIIILIE)} {k3_0_9 : Int → Int → Int → Option Ret} {x3_2 : Int} {x4_3 : Int} {x5_4 : Int} (hl : (List.length x9_5) ≤ maxLen) {n : Nat} (hn : (List.length x9_5) < n) : impl_IsZeroSum_l3 x1_1 x9_5 (List.length x9_5 : Int) n k3_0_9 x3_2 x4_3 x5_4 (0 : Int) =
    goL3 (fun (i : Nat) (x : QIIIIILIE) (x3_2 : Int) (x4_3 : Int) (x5_4 : Int) (next : Int → Int → Int → Option Ret) =>
        next (IntKind.wrap .i64 (x3_2 + x.2.2.1)) (IntKind.wrap .i64 (x4_3 + x.2.2.2.2.1)) (IntKind.wrap .i64 (x5_4 + (List.length x.2.2.2.2.2 : Int)))) (fun (x3_2 : Int) (x4_3 : Int) (x5_4 : Int) =>
        k3_0_9 x3_2 x4_3 x5_4) x9_5 0 x3_2 x4_3 x5_4 := by
  exact range3 (f := fun n x3_2 x4_3 x5_4 i => impl_IsZeroSum_l3 x1_1 x9_5 (List.length x9_5 : Int) n k3_0_9 x3_2 x4_3 x5_4 i) (l := x9_5) (fun n i x3_2 x4_3 x5_4 h => by
    simp only [impl_IsZeroSum_l3]
    rw [decide_eq_true (show (i : Int) < (List.length x9_5 : Int) by omega)]
    simp only [cond_true, inB_nat h, Int.toNat_natCast, getD_nat _ i h]) (fun n x3_2 x4_3 x5_4 => by
    simp only [impl_IsZeroSum_l3]
    rw [decide_eq_false (by omega)]
    simp only [cond_false]) hl x9_5 0 n x3_2 x4_3 x5_4 rfl (by omega) hn
end Go.Pv.R
