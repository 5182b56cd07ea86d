/- Their loops over lists, without rounds. -/
import Derived.Test.YtincnfhdeafmmaaGreatPlRes
namespace Go.Pv.R
set_option linter.unusedVariables false
set_option linter.unusedSimpArgs false
theorem laws_szTeamS_l5_r {N : Nat} {x0_1 : (List QIIIIILIE)} {k5_0_6 : Int → Option Ret} {k5_1_7 : Int → Option Ret} {x1_2 : Int} (hl : (List.length x0_1) ≤ maxLen) {n : Nat} (hn : (List.length x0_1) < n) : laws_szTeamS_l5 N x0_1 n k5_0_6 k5_1_7 x1_2 (0 : Int) =
    goL1 (fun (i : Nat) (x : QIIIIILIE) (x1_2 : Int) (next : Int → Option Ret) =>
        laws_szTeam N x x1_2 (fun (r23_5 : Int) =>
          bif (decide (r23_5 < (0 : Int))) then
            k5_1_7 (-1 : Int)
          else
            next r23_5)) (fun (x1_2 : Int) =>
        k5_0_6 x1_2) x0_1 0 x1_2 := by
  exact range1 (f := fun n x1_2 i => laws_szTeamS_l5 N x0_1 n k5_0_6 k5_1_7 x1_2 i) (l := x0_1) (fun n i x1_2 h => by
    simp only [laws_szTeamS_l5]
    rw [decide_eq_true (show (i : Int) < (List.length x0_1 : Int) by omega)]
    simp only [cond_true, inB_nat h, Int.toNat_natCast, getD_nat _ i h]) (fun n x1_2 => by
    simp only [laws_szTeamS_l5]
    rw [decide_eq_false (by omega)]
    simp only [cond_false]) hl x0_1 0 n x1_2 rfl (by omega) hn
theorem laws_szJudgeS_l5_r {N : Nat} {x0_1 : (List QIILIE)} {k5_0_6 : Int → Option Ret} {k5_1_7 : Int → Option Ret} {x1_2 : Int} (hl : (List.length x0_1) ≤ maxLen) {n : Nat} (hn : (List.length x0_1) < n) : laws_szJudgeS_l5 N x0_1 n k5_0_6 k5_1_7 x1_2 (0 : Int) =
    goL1 (fun (i : Nat) (x : QIILIE) (x1_2 : Int) (next : Int → Option Ret) =>
        laws_szJudge N x x1_2 (fun (r23_5 : Int) =>
          bif (decide (r23_5 < (0 : Int))) then
            k5_1_7 (-1 : Int)
          else
            next r23_5)) (fun (x1_2 : Int) =>
        k5_0_6 x1_2) x0_1 0 x1_2 := by
  exact range1 (f := fun n x1_2 i => laws_szJudgeS_l5 N x0_1 n k5_0_6 k5_1_7 x1_2 i) (l := x0_1) (fun n i x1_2 h => by
    simp only [laws_szJudgeS_l5]
    rw [decide_eq_true (show (i : Int) < (List.length x0_1 : Int) by omega)]
    simp only [cond_true, inB_nat h, Int.toNat_natCast, getD_nat _ i h]) (fun n x1_2 => by
    simp only [laws_szJudgeS_l5]
    rw [decide_eq_false (by omega)]
    simp only [cond_false]) hl x0_1 0 n x1_2 rfl (by omega) hn
theorem laws_toIntS_l3_r {x0_1 : (List Int)} {k3_0_5 : (List Int) → Option Ret} {x3_2 : (List Int)} (hl : (List.length x0_1) ≤ maxLen) {n : Nat} (hn : (List.length x0_1) < n) : laws_toIntS_l3 x0_1 n k3_0_5 x3_2 (0 : Int) =
    goL1 (fun (i : Nat) (x : Int) (x3_2 : (List Int)) (next : (List Int) → Option Ret) =>
        bif (inB (i : Int) (List.length x3_2)) then
          next (List.set x3_2 (Int.toNat (i : Int)) x)
        else none) (fun (x3_2 : (List Int)) =>
        k3_0_5 x3_2) x0_1 0 x3_2 := by
  exact range1 (f := fun n x3_2 i => laws_toIntS_l3 x0_1 n k3_0_5 x3_2 i) (l := x0_1) (fun n i x3_2 h => by
    simp only [laws_toIntS_l3]
    rw [decide_eq_true (show (i : Int) < (List.length x0_1 : Int) by omega)]
    simp only [cond_true, inB_nat h, Int.toNat_natCast, getD_nat _ i h]) (fun n x3_2 => by
    simp only [laws_toIntS_l3]
    rw [decide_eq_false (by omega)]
    simp only [cond_false]) hl x0_1 0 n x3_2 rfl (by omega) hn
theorem laws_toTeamS_l3_r {N : Nat} {x0_1 : (List QIIIIILIE)} {k3_0_6 : (List QIIIIILIE) → Option Ret} {x3_2 : (List QIIIIILIE)} (hl : (List.length x0_1) ≤ maxLen) {n : Nat} (hn : (List.length x0_1) < n) : laws_toTeamS_l3 N x0_1 n k3_0_6 x3_2 (0 : Int) =
    goL1 (fun (i : Nat) (x : QIIIIILIE) (x3_2 : (List QIIIIILIE)) (next : (List QIIIIILIE) → Option Ret) =>
        laws_toTeam N x (fun (r20_5 : QIIIIILIE) =>
          bif (inB (i : Int) (List.length x3_2)) then
            next (List.set x3_2 (Int.toNat (i : Int)) r20_5)
          else none)) (fun (x3_2 : (List QIIIIILIE)) =>
        k3_0_6 x3_2) x0_1 0 x3_2 := by
  exact range1 (f := fun n x3_2 i => laws_toTeamS_l3 N x0_1 n k3_0_6 x3_2 i) (l := x0_1) (fun n i x3_2 h => by
    simp only [laws_toTeamS_l3]
    rw [decide_eq_true (show (i : Int) < (List.length x0_1 : Int) by omega)]
    simp only [cond_true, inB_nat h, Int.toNat_natCast, getD_nat _ i h]) (fun n x3_2 => by
    simp only [laws_toTeamS_l3]
    rw [decide_eq_false (by omega)]
    simp only [cond_false]) hl x0_1 0 n x3_2 rfl (by omega) hn
theorem laws_toJudgeS_l3_r {N : Nat} {x0_1 : (List QIILIE)} {k3_0_6 : (List QIILIE) → Option Ret} {x3_2 : (List QIILIE)} (hl : (List.length x0_1) ≤ maxLen) {n : Nat} (hn : (List.length x0_1) < n) : laws_toJudgeS_l3 N x0_1 n k3_0_6 x3_2 (0 : Int) =
    goL1 (fun (i : Nat) (x : QIILIE) (x3_2 : (List QIILIE)) (next : (List QIILIE) → Option Ret) =>
        laws_toJudge N x (fun (r20_5 : QIILIE) =>
          bif (inB (i : Int) (List.length x3_2)) then
            next (List.set x3_2 (Int.toNat (i : Int)) r20_5)
          else none)) (fun (x3_2 : (List QIILIE)) =>
        k3_0_6 x3_2) x0_1 0 x3_2 := by
  exact range1 (f := fun n x3_2 i => laws_toJudgeS_l3 N x0_1 n k3_0_6 x3_2 i) (l := x0_1) (fun n i x3_2 h => by
    simp only [laws_toJudgeS_l3]
    rw [decide_eq_true (show (i : Int) < (List.length x0_1 : Int) by omega)]
    simp only [cond_true, inB_nat h, Int.toNat_natCast, getD_nat _ i h]) (fun n x3_2 => by
    simp only [laws_toJudgeS_l3]
    rw [decide_eq_false (by omega)]
    simp only [cond_false]) hl x0_1 0 n x3_2 rfl (by omega) hn
theorem laws_toPairS_l3_r {N : Nat} {x0_1 : (List QIIE)} {k3_0_6 : (List QIIE) → Option Ret} {x3_2 : (List QIIE)} (hl : (List.length x0_1) ≤ maxLen) {n : Nat} (hn : (List.length x0_1) < n) : laws_toPairS_l3 N x0_1 n k3_0_6 x3_2 (0 : Int) =
    goL1 (fun (i : Nat) (x : QIIE) (x3_2 : (List QIIE)) (next : (List QIIE) → Option Ret) =>
        laws_toPair N x (fun (r20_5 : QIIE) =>
          bif (inB (i : Int) (List.length x3_2)) then
            next (List.set x3_2 (Int.toNat (i : Int)) r20_5)
          else none)) (fun (x3_2 : (List QIIE)) =>
        k3_0_6 x3_2) x0_1 0 x3_2 := by
  exact range1 (f := fun n x3_2 i => laws_toPairS_l3 N x0_1 n k3_0_6 x3_2 i) (l := x0_1) (fun n i x3_2 h => by
    simp only [laws_toPairS_l3]
    rw [decide_eq_true (show (i : Int) < (List.length x0_1 : Int) by omega)]
    simp only [cond_true, inB_nat h, Int.toNat_natCast, getD_nat _ i h]) (fun n x3_2 => by
    simp only [laws_toPairS_l3]
    rw [decide_eq_false (by omega)]
    simp only [cond_false]) hl x0_1 0 n x3_2 rfl (by omega) hn
theorem laws_toBallotS_l3_r {N : Nat} {x0_1 : (List QIIIE)} {k3_0_6 : (List QIIIE) → Option Ret} {x3_2 : (List QIIIE)} (hl : (List.length x0_1) ≤ maxLen) {n : Nat} (hn : (List.length x0_1) < n) : laws_toBallotS_l3 N x0_1 n k3_0_6 x3_2 (0 : Int) =
    goL1 (fun (i : Nat) (x : QIIIE) (x3_2 : (List QIIIE)) (next : (List QIIIE) → Option Ret) =>
        laws_toBallot N x (fun (r20_5 : QIIIE) =>
          bif (inB (i : Int) (List.length x3_2)) then
            next (List.set x3_2 (Int.toNat (i : Int)) r20_5)
          else none)) (fun (x3_2 : (List QIIIE)) =>
        k3_0_6 x3_2) x0_1 0 x3_2 := by
  exact range1 (f := fun n x3_2 i => laws_toBallotS_l3 N x0_1 n k3_0_6 x3_2 i) (l := x0_1) (fun n i x3_2 h => by
    simp only [laws_toBallotS_l3]
    rw [decide_eq_true (show (i : Int) < (List.length x0_1 : Int) by omega)]
    simp only [cond_true, inB_nat h, Int.toNat_natCast, getD_nat _ i h]) (fun n x3_2 => by
    simp only [laws_toBallotS_l3]
    rw [decide_eq_false (by omega)]
    simp only [cond_false]) hl x0_1 0 n x3_2 rfl (by omega) hn
theorem laws_toLineS_l3_r {N : Nat} {x0_1 : (List QIIIIE)} {k3_0_6 : (List QIIIIE) → Option Ret} {x3_2 : (List QIIIIE)} (hl : (List.length x0_1) ≤ maxLen) {n : Nat} (hn : (List.length x0_1) < n) : laws_toLineS_l3 N x0_1 n k3_0_6 x3_2 (0 : Int) =
    goL1 (fun (i : Nat) (x : QIIIIE) (x3_2 : (List QIIIIE)) (next : (List QIIIIE) → Option Ret) =>
        laws_toLine N x (fun (r20_5 : QIIIIE) =>
          bif (inB (i : Int) (List.length x3_2)) then
            next (List.set x3_2 (Int.toNat (i : Int)) r20_5)
          else none)) (fun (x3_2 : (List QIIIIE)) =>
        k3_0_6 x3_2) x0_1 0 x3_2 := by
  exact range1 (f := fun n x3_2 i => laws_toLineS_l3 N x0_1 n k3_0_6 x3_2 i) (l := x0_1) (fun n i x3_2 h => by
    simp only [laws_toLineS_l3]
    rw [decide_eq_true (show (i : Int) < (List.length x0_1 : Int) by omega)]
    simp only [cond_true, inB_nat h, Int.toNat_natCast, getD_nat _ i h]) (fun n x3_2 => by
    simp only [laws_toLineS_l3]
    rw [decide_eq_false (by omega)]
    simp only [cond_false]) hl x0_1 0 n x3_2 rfl (by omega) hn
theorem spec_l19Copy_l3_r {x0_1 : (List QIIIIILIE)} {k3_0_5 : (List QIIIIILIE) → Option Ret} {x3_2 : (List QIIIIILIE)} (hl : (List.length x0_1) ≤ maxLen) {n : Nat} (hn : (List.length x0_1) < n) : spec_l19Copy_l3 x0_1 n k3_0_5 x3_2 (0 : Int) =
    goL1 (fun (i : Nat) (x : QIIIIILIE) (x3_2 : (List QIIIIILIE)) (next : (List QIIIIILIE) → Option Ret) =>
        bif (decide ((List.length ([] : (List Int)) + List.length x.2.2.2.2.2) * 1 ≤ 4398046511104)) then
          bif (decide ((List.length x3_2 + List.length [(x.1, (x.2.1, (x.2.2.1, (x.2.2.2.1, (x.2.2.2.2.1, (([] : (List Int)) ++ x.2.2.2.2.2))))))]) * 6 ≤ 4398046511104)) then
            next (x3_2 ++ [(x.1, (x.2.1, (x.2.2.1, (x.2.2.2.1, (x.2.2.2.2.1, (([] : (List Int)) ++ x.2.2.2.2.2))))))])
          else none
        else none) (fun (x3_2 : (List QIIIIILIE)) =>
        k3_0_5 x3_2) x0_1 0 x3_2 := by
  exact range1 (f := fun n x3_2 i => spec_l19Copy_l3 x0_1 n k3_0_5 x3_2 i) (l := x0_1) (fun n i x3_2 h => by
    simp only [spec_l19Copy_l3]
    rw [decide_eq_true (show (i : Int) < (List.length x0_1 : Int) by omega)]
    simp only [cond_true, inB_nat h, Int.toNat_natCast, getD_nat _ i h]) (fun n x3_2 => by
    simp only [spec_l19Copy_l3]
    rw [decide_eq_false (by omega)]
    simp only [cond_false]) hl x0_1 0 n x3_2 rfl (by omega) hn
theorem spec_l33Judges_l3_r {x0_1 : (List QIILIE)} {k3_0_5 : (List QIILIE) → Option Ret} {x3_2 : (List QIILIE)} (hl : (List.length x0_1) ≤ maxLen) {n : Nat} (hn : (List.length x0_1) < n) : spec_l33Judges_l3 x0_1 n k3_0_5 x3_2 (0 : Int) =
    goL1 (fun (i : Nat) (x : QIILIE) (x3_2 : (List QIILIE)) (next : (List QIILIE) → Option Ret) =>
        bif (decide ((List.length ([] : (List Int)) + List.length x.2.2) * 1 ≤ 4398046511104)) then
          bif (decide ((List.length x3_2 + List.length [(x.1, (x.2.1, (([] : (List Int)) ++ x.2.2)))]) * 3 ≤ 4398046511104)) then
            next (x3_2 ++ [(x.1, (x.2.1, (([] : (List Int)) ++ x.2.2)))])
          else none
        else none) (fun (x3_2 : (List QIILIE)) =>
        k3_0_5 x3_2) x0_1 0 x3_2 := by
  exact range1 (f := fun n x3_2 i => spec_l33Judges_l3 x0_1 n k3_0_5 x3_2 i) (l := x0_1) (fun n i x3_2 h => by
    simp only [spec_l33Judges_l3]
    rw [decide_eq_true (show (i : Int) < (List.length x0_1 : Int) by omega)]
    simp only [cond_true, inB_nat h, Int.toNat_natCast, getD_nat _ i h]) (fun n x3_2 => by
    simp only [spec_l33Judges_l3]
    rw [decide_eq_false (by omega)]
    simp only [cond_false]) hl x0_1 0 n x3_2 rfl (by omega) hn
theorem spec_FindTeam_l2_r {x0_1 : (List QIIIIILIE)} {x1_2 : Int} {k2_0_5 : Option Ret} {k2_1_6 : Int → Option Ret} (hl : (List.length x0_1) ≤ maxLen) {n : Nat} (hn : (List.length x0_1) < n) : spec_FindTeam_l2 x0_1 x1_2 n k2_0_5 k2_1_6 (0 : Int) =
    goL (fun (i : Nat) (x : QIIIIILIE) (next : Option Ret) =>
        bif (x.1 == x1_2) then
          k2_1_6 (i : Int)
        else
          next) (
        k2_0_5) x0_1 0 := by
  exact range0 (f := fun n i => spec_FindTeam_l2 x0_1 x1_2 n k2_0_5 k2_1_6 i) (l := x0_1) (fun n i h => by
    simp only [spec_FindTeam_l2]
    rw [decide_eq_true (show (i : Int) < (List.length x0_1 : Int) by omega)]
    simp only [cond_true, inB_nat h, Int.toNat_natCast, getD_nat _ i h]) (fun n => by
    simp only [spec_FindTeam_l2]
    rw [decide_eq_false (by omega)]
    simp only [cond_false]) hl x0_1 0 n rfl (by omega) hn
theorem spec_l19Count_l3_r {x0_1 : (List Int)} {x1_2 : Int} {k3_0_7 : Int → Option Ret} {x5_3 : Int} (hl : (List.length x0_1) ≤ maxLen) {n : Nat} (hn : (List.length x0_1) < n) : spec_l19Count_l3 x0_1 x1_2 n k3_0_7 x5_3 (0 : Int) =
    goL1 (fun (i : Nat) (x : Int) (x5_3 : Int) (next : Int → Option Ret) =>
        bif (x == x1_2) then
          next (IntKind.wrap .i64 (x5_3 + (1 : Int)))
        else
          next x5_3) (fun (x5_3 : Int) =>
        k3_0_7 x5_3) x0_1 0 x5_3 := by
  exact range1 (f := fun n x5_3 i => spec_l19Count_l3 x0_1 x1_2 n k3_0_7 x5_3 i) (l := x0_1) (fun n i x5_3 h => by
    simp only [spec_l19Count_l3]
    rw [decide_eq_true (show (i : Int) < (List.length x0_1 : Int) by omega)]
    simp only [cond_true, inB_nat h, Int.toNat_natCast, getD_nat _ i h]) (fun n x5_3 => by
    simp only [spec_l19Count_l3]
    rw [decide_eq_false (by omega)]
    simp only [cond_false]) hl x0_1 0 n x5_3 rfl (by omega) hn
theorem spec_AreTeams_l8_r {N : Nat} {x0_9 : (List QIIIIILIE)} {x3_10 : Int} {x4_11 : QIIIIILIE} {k8_0_17 : Option Ret} {k8_1_18 : Bool → Option Ret} (hl : (List.length x4_11.2.2.2.2.2) ≤ maxLen) {n : Nat} (hn : (List.length x4_11.2.2.2.2.2) < n) : spec_AreTeams_l8 N x0_9 x3_10 x4_11 n k8_0_17 k8_1_18 (0 : Int) =
    goL (fun (i : Nat) (x : _) (next : Option Ret) =>
        spec_FindTeam N x0_9 x (fun (r85_14 : Int) =>
          bif (decide (r85_14 < (0 : Int))) then
            k8_1_18 false
          else
            bif (r85_14 == x3_10) then
              k8_1_18 false
            else
              bif (inB r85_14 (List.length x0_9)) then
                bif (inB r85_14 (List.length x0_9)) then
                  spec_l19Count N (List.getD x0_9 (Int.toNat r85_14) zQIIIIILIE).2.2.2.2.2 x4_11.1 (fun (r101_15 : Int) =>
                    spec_l19Count N x4_11.2.2.2.2.2 (List.getD x0_9 (Int.toNat r85_14) zQIIIIILIE).1 (fun (r109_16 : Int) =>
                      bif (r101_15 != r109_16) then
                        k8_1_18 false
                      else
                        next))
                else none
              else none)) (
        k8_0_17) x4_11.2.2.2.2.2 0 := by
  exact range0 (f := fun n i => spec_AreTeams_l8 N x0_9 x3_10 x4_11 n k8_0_17 k8_1_18 i) (l := x4_11.2.2.2.2.2) (fun n i h => by
    simp only [spec_AreTeams_l8]
    rw [decide_eq_true (show (i : Int) < (List.length x4_11.2.2.2.2.2 : Int) by omega)]
    simp only [cond_true, inB_nat h, Int.toNat_natCast, getD_nat _ i h]) (fun n => by
    simp only [spec_AreTeams_l8]
    rw [decide_eq_false (by omega)]
    simp only [cond_false]) hl x4_11.2.2.2.2.2 0 n rfl (by omega) hn
theorem spec_AreTeams_l2_r {N : Nat} {x0_1 : (List QIIIIILIE)} {k2_0_21 : Option Ret} {k2_1_22 : Bool → Option Ret} (hl : (List.length x0_1) ≤ maxLen) {n : Nat} (hn : (List.length x0_1) < n) : spec_AreTeams_l2 N x0_1 n k2_0_21 k2_1_22 (0 : Int) =
    goL (fun (i : Nat) (x : QIIIIILIE) (next : Option Ret) =>
        spec_l1In N x.1 (1 : Int) (99 : Int) (fun (r19_4 : Bool) =>
          bif (!r19_4) then
            k2_1_22 false
          else
            spec_l1In N x.2.1 (1 : Int) (99 : Int) (fun (r24_5 : Bool) =>
              bif (!r24_5) then
                k2_1_22 false
              else
                spec_l1In N x.2.2.1 (0 : Int) (List.length x.2.2.2.2.2 : Int) (fun (r33_6 : Bool) =>
                  bif (!r33_6) then
                    k2_1_22 false
                  else
                    spec_l1In N x.2.2.2.2.1 (0 : Int) (List.length x.2.2.2.2.2 : Int) (fun (r42_7 : Bool) =>
                      bif (!r42_7) then
                        k2_1_22 false
                      else
                        spec_l1In N x.2.2.2.1 (0 : Int) (100000 : Int) (fun (r48_8 : Bool) =>
                          bif (!r48_8) then
                            k2_1_22 false
                          else
                            bif (decide ((List.length x.2.2.2.2.2 : Int) > (20 : Int))) then
                              k2_1_22 false
                            else
                              bif (decide ((i : Int) > (0 : Int))) then
                                bif (inB (IntKind.wrap .i64 ((i : Int) - (1 : Int))) (List.length x0_1)) then
                                  bif (decide ((List.getD x0_1 (Int.toNat (IntKind.wrap .i64 ((i : Int) - (1 : Int)))) zQIIIIILIE).1 ≥ x.1)) then
                                    k2_1_22 false
                                  else
                                    spec_AreTeams_l8 N x0_1 (i : Int) x N next k2_1_22 (0 : Int)
                                else none
                              else
                                spec_AreTeams_l8 N x0_1 (i : Int) x N next k2_1_22 (0 : Int))))))) (
        k2_0_21) x0_1 0 := by
  exact range0 (f := fun n i => spec_AreTeams_l2 N x0_1 n k2_0_21 k2_1_22 i) (l := x0_1) (fun n i h => by
    simp only [spec_AreTeams_l2]
    rw [decide_eq_true (show (i : Int) < (List.length x0_1 : Int) by omega)]
    simp only [cond_true, inB_nat h, Int.toNat_natCast, getD_nat _ i h]) (fun n => by
    simp only [spec_AreTeams_l2]
    rw [decide_eq_false (by omega)]
    simp only [cond_false]) hl x0_1 0 n rfl (by omega) hn
theorem spec_AreJudges_l7_r {N : Nat} {x0_6 : (List QIILIE)} {x3_7 : Int} {k7_0_11 : Option Ret} {k7_1_12 : Bool → Option Ret} (hc0 : (inB x3_7 (List.length x0_6)) = true) (hl : (List.length (List.getD x0_6 (Int.toNat x3_7) zQIILIE).2.2) ≤ maxLen) {n : Nat} (hn : (List.length (List.getD x0_6 (Int.toNat x3_7) zQIILIE).2.2) < n) : spec_AreJudges_l7 N x0_6 x3_7 n k7_0_11 k7_1_12 (0 : Int) =
    goL (fun (i : Nat) (x : _) (next : Option Ret) =>
        spec_l1In N x (1 : Int) (99 : Int) (fun (r63_10 : Bool) =>
          bif (!r63_10) then
            k7_1_12 false
          else
            bif (decide ((i : Int) > (0 : Int))) then
              bif (inB (IntKind.wrap .i64 ((i : Int) - (1 : Int))) (List.length (List.getD x0_6 (Int.toNat x3_7) zQIILIE).2.2)) then
                bif (decide ((List.getD (List.getD x0_6 (Int.toNat x3_7) zQIILIE).2.2 (Int.toNat (IntKind.wrap .i64 ((i : Int) - (1 : Int)))) (0 : Int)) ≥ x)) then
                  k7_1_12 false
                else
                  next
              else none
            else
              next)) (
        k7_0_11) ((List.getD x0_6 (Int.toNat x3_7) zQIILIE).2.2) 0 := by
  exact range0 (f := fun n i => spec_AreJudges_l7 N x0_6 x3_7 n k7_0_11 k7_1_12 i) (l := ((List.getD x0_6 (Int.toNat x3_7) zQIILIE).2.2)) (fun n i h => by
    simp only [spec_AreJudges_l7, hc0, cond_true]
    rw [decide_eq_true (show (i : Int) < (List.length ((List.getD x0_6 (Int.toNat x3_7) zQIILIE).2.2) : Int) by omega)]
    simp only [cond_true, inB_nat h, Int.toNat_natCast, getD_nat _ i h]) (fun n => by
    simp only [spec_AreJudges_l7, hc0, cond_true]
    rw [decide_eq_false (by omega)]
    simp only [cond_false]) hl ((List.getD x0_6 (Int.toNat x3_7) zQIILIE).2.2) 0 n rfl (by omega) hn
theorem spec_AreJudges_l2_r {N : Nat} {x0_1 : (List QIILIE)} {k2_0_15 : Option Ret} {k2_1_16 : Bool → Option Ret} (hl : (List.length x0_1) ≤ maxLen) {n : Nat} (hn : (List.length x0_1) < n) : spec_AreJudges_l2 N x0_1 n k2_0_15 k2_1_16 (0 : Int) =
    goL (fun (i : Nat) (x : QIILIE) (next : Option Ret) =>
        spec_l1In N x.1 (1 : Int) (99 : Int) (fun (r16_4 : Bool) =>
          bif (!r16_4) then
            k2_1_16 false
          else
            spec_l1In N x.2.1 (1 : Int) (99 : Int) (fun (r24_5 : Bool) =>
              bif (!r24_5) then
                k2_1_16 false
              else
                bif (decide ((i : Int) > (0 : Int))) then
                  bif (inB (IntKind.wrap .i64 ((i : Int) - (1 : Int))) (List.length x0_1)) then
                    bif (decide ((List.getD x0_1 (Int.toNat (IntKind.wrap .i64 ((i : Int) - (1 : Int)))) zQIILIE).1 ≥ x.1)) then
                      k2_1_16 false
                    else
                      spec_AreJudges_l7 N x0_1 (i : Int) N next k2_1_16 (0 : Int)
                  else none
                else
                  spec_AreJudges_l7 N x0_1 (i : Int) N next k2_1_16 (0 : Int)))) (
        k2_0_15) x0_1 0 := by
  exact range0 (f := fun n i => spec_AreJudges_l2 N x0_1 n k2_0_15 k2_1_16 i) (l := x0_1) (fun n i h => by
    simp only [spec_AreJudges_l2]
    rw [decide_eq_true (show (i : Int) < (List.length x0_1 : Int) by omega)]
    simp only [cond_true, inB_nat h, Int.toNat_natCast, getD_nat _ i h]) (fun n => by
    simp only [spec_AreJudges_l2]
    rw [decide_eq_false (by omega)]
    simp only [cond_false]) hl x0_1 0 n rfl (by omega) hn
theorem spec_Hash_l3_r {N : Nat} {x0_1 : (List Int)} {k3_0_6 : Int → Option Ret} {x3_2 : Int} (hl : (List.length x0_1) ≤ maxLen) {n : Nat} (hn : (List.length x0_1) < n) : spec_Hash_l3 N x0_1 n k3_0_6 x3_2 (0 : Int) =
    goL1 (fun (i : Nat) (x : Int) (x3_2 : Int) (next : Int → Option Ret) =>
        spec_Mod N x (2147483647 : Int) (fun (r17_5 : Int) =>
          next (Int.tmod (IntKind.wrap .i64 ((IntKind.wrap .i64 ((IntKind.wrap .i64 (x3_2 * (1000003 : Int))) + r17_5)) + (13 : Int))) (2147483647 : Int)))) (fun (x3_2 : Int) =>
        k3_0_6 x3_2) x0_1 0 x3_2 := by
  exact range1 (f := fun n x3_2 i => spec_Hash_l3 N x0_1 n k3_0_6 x3_2 i) (l := x0_1) (fun n i x3_2 h => by
    simp only [spec_Hash_l3]
    rw [decide_eq_true (show (i : Int) < (List.length x0_1 : Int) by omega)]
    simp only [cond_true, inB_nat h, Int.toNat_natCast, getD_nat _ i h]) (fun n x3_2 => by
    simp only [spec_Hash_l3]
    rw [decide_eq_false (by omega)]
    simp only [cond_false]) hl x0_1 0 n x3_2 rfl (by omega) hn
theorem spec_AreMinutes_l3_r {N : Nat} {x0_1 : (List QIIIIE)} {k3_0_8 : Option Ret} {k3_1_9 : Bool → Option Ret} {x3_2 : Int} (hl : (List.length x0_1) ≤ maxLen) {n : Nat} (hn : (List.length x0_1) < n) : spec_AreMinutes_l3 N x0_1 n k3_0_8 k3_1_9 x3_2 (0 : Int) =
    goL1 (fun (i : Nat) (x : QIIIIE) (x3_2 : Int) (next : Int → Option Ret) =>
        bif (decide ((List.length x0_1 : Int) ≤ (200 : Int))) then
          spec_l27Seal N x3_2 x (fun (r23_5 : Int) =>
            bif (x.1 != (IntKind.wrap .i64 ((i : Int) + (1 : Int)))) then
              k3_1_9 false
            else
              spec_l1In N x.2.1 (1 : Int) (9 : Int) (fun (r32_6 : Bool) =>
                bif (!r32_6) then
                  k3_1_9 false
                else
                  spec_l1In N x.2.2.1 (0 : Int) (99 : Int) (fun (r38_7 : Bool) =>
                    bif (!r38_7) then
                      k3_1_9 false
                    else
                      bif (x.2.2.2 != r23_5) then
                        k3_1_9 false
                      else
                        next r23_5)))
        else
          k3_0_8) (fun (x3_2 : Int) =>
        k3_0_8) x0_1 0 x3_2 := by
  exact range1 (f := fun n x3_2 i => spec_AreMinutes_l3 N x0_1 n k3_0_8 k3_1_9 x3_2 i) (l := x0_1) (fun n i x3_2 h => by
    simp only [spec_AreMinutes_l3]
    rw [decide_eq_true (show (i : Int) < (List.length x0_1 : Int) by omega)]
    simp only [cond_true, inB_nat h, Int.toNat_natCast, getD_nat _ i h]) (fun n x3_2 => by
    simp only [spec_AreMinutes_l3]
    rw [decide_eq_false (by omega)]
    simp only [cond_false]) hl x0_1 0 n x3_2 rfl (by omega) hn
theorem spec_TotalWins_l3_r {N : Nat} {x0_1 : (List QIIIIILIE)} {k3_0_6 : Int → Option Ret} {x3_2 : Int} (hl : (List.length x0_1) ≤ maxLen) {n : Nat} (hn : (List.length x0_1) < n) : spec_TotalWins_l3 N x0_1 n k3_0_6 x3_2 (0 : Int) =
    goL1 (fun (i : Nat) (x : QIIIIILIE) (x3_2 : Int) (next : Int → Option Ret) =>
        spec_AreTeams N x0_1 (fun (r11_5 : Bool) =>
          bif r11_5 then
            next (IntKind.wrap .i64 (x3_2 + x.2.2.1))
          else
            k3_0_6 x3_2)) (fun (x3_2 : Int) =>
        k3_0_6 x3_2) x0_1 0 x3_2 := by
  exact range1 (f := fun n x3_2 i => spec_TotalWins_l3 N x0_1 n k3_0_6 x3_2 i) (l := x0_1) (fun n i x3_2 h => by
    simp only [spec_TotalWins_l3]
    rw [decide_eq_true (show (i : Int) < (List.length x0_1 : Int) by omega)]
    simp only [cond_true, inB_nat h, Int.toNat_natCast, getD_nat _ i h]) (fun n x3_2 => by
    simp only [spec_TotalWins_l3]
    rw [decide_eq_false (by omega)]
    simp only [cond_false]) hl x0_1 0 n x3_2 rfl (by omega) hn
theorem spec_l4Has_l2_r {x0_1 : (List Int)} {x1_2 : Int} {k2_0_5 : Option Ret} {k2_1_6 : Bool → Option Ret} (hl : (List.length x0_1) ≤ maxLen) {n : Nat} (hn : (List.length x0_1) < n) : spec_l4Has_l2 x0_1 x1_2 n k2_0_5 k2_1_6 (0 : Int) =
    goL (fun (i : Nat) (x : Int) (next : Option Ret) =>
        bif (x == x1_2) then
          k2_1_6 true
        else
          next) (
        k2_0_5) x0_1 0 := by
  exact range0 (f := fun n i => spec_l4Has_l2 x0_1 x1_2 n k2_0_5 k2_1_6 i) (l := x0_1) (fun n i h => by
    simp only [spec_l4Has_l2]
    rw [decide_eq_true (show (i : Int) < (List.length x0_1 : Int) by omega)]
    simp only [cond_true, inB_nat h, Int.toNat_natCast, getD_nat _ i h]) (fun n => by
    simp only [spec_l4Has_l2]
    rw [decide_eq_false (by omega)]
    simp only [cond_false]) hl x0_1 0 n rfl (by omega) hn
theorem spec_IsRound_l3_r {N : Nat} {x0_1 : (List QIIIIILIE)} {x1_2 : (List QIIE)} {k3_0_9 : (List Int) → Option Ret} {k3_1_10 : Bool → Option Ret} {x5_3 : (List Int)} (hl : (List.length x1_2) ≤ maxLen) {n : Nat} (hn : (List.length x1_2) < n) : spec_IsRound_l3 N x0_1 x1_2 n k3_0_9 k3_1_10 x5_3 (0 : Int) =
    goL1 (fun (i : Nat) (x : QIIE) (x5_3 : (List Int)) (next : (List Int) → Option Ret) =>
        spec_MayMeet N x0_1 x.1 x.2 (fun (r25_6 : Bool) =>
          bif (!r25_6) then
            k3_1_10 false
          else
            spec_l4Has N x5_3 x.1 (fun (r34_7 : Bool) =>
              bif r34_7 then
                k3_1_10 false
              else
                spec_l4Has N x5_3 x.2 (fun (r43_8 : Bool) =>
                  bif r43_8 then
                    k3_1_10 false
                  else
                    bif (decide ((List.length x5_3 + List.length [x.1, x.2]) * 1 ≤ 4398046511104)) then
                      next (x5_3 ++ [x.1, x.2])
                    else none)))) (fun (x5_3 : (List Int)) =>
        k3_0_9 x5_3) x1_2 0 x5_3 := by
  exact range1 (f := fun n x5_3 i => spec_IsRound_l3 N x0_1 x1_2 n k3_0_9 k3_1_10 x5_3 i) (l := x1_2) (fun n i x5_3 h => by
    simp only [spec_IsRound_l3]
    rw [decide_eq_true (show (i : Int) < (List.length x1_2 : Int) by omega)]
    simp only [cond_true, inB_nat h, Int.toNat_natCast, getD_nat _ i h]) (fun n x5_3 => by
    simp only [spec_IsRound_l3]
    rw [decide_eq_false (by omega)]
    simp only [cond_false]) hl x1_2 0 n x5_3 rfl (by omega) hn
theorem spec_l21Find_l2_r {x0_1 : (List QIILIE)} {x1_2 : Int} {k2_0_5 : Option Ret} {k2_1_6 : Int → Option Ret} (hl : (List.length x0_1) ≤ maxLen) {n : Nat} (hn : (List.length x0_1) < n) : spec_l21Find_l2 x0_1 x1_2 n k2_0_5 k2_1_6 (0 : Int) =
    goL (fun (i : Nat) (x : QIILIE) (next : Option Ret) =>
        bif (x.1 == x1_2) then
          k2_1_6 (i : Int)
        else
          next) (
        k2_0_5) x0_1 0 := by
  exact range0 (f := fun n i => spec_l21Find_l2 x0_1 x1_2 n k2_0_5 k2_1_6 i) (l := x0_1) (fun n i h => by
    simp only [spec_l21Find_l2]
    rw [decide_eq_true (show (i : Int) < (List.length x0_1 : Int) by omega)]
    simp only [cond_true, inB_nat h, Int.toNat_natCast, getD_nat _ i h]) (fun n => by
    simp only [spec_l21Find_l2]
    rw [decide_eq_false (by omega)]
    simp only [cond_false]) hl x0_1 0 n rfl (by omega) hn
theorem spec_AreSeated_l4_r {N : Nat} {x0_2 : (List QIIIIILIE)} {x1_3 : (List QIILIE)} {x2_4 : (List QIIE)} {x3_5 : (List Int)} {k4_0_11 : Option Ret} {k4_1_12 : Bool → Option Ret} (hl : (List.length x2_4) ≤ maxLen) {n : Nat} (hn : (List.length x2_4) < n) : spec_AreSeated_l4 N x0_2 x1_3 x2_4 x3_5 n k4_0_11 k4_1_12 (0 : Int) =
    goL (fun (i : Nat) (x : QIIE) (next : Option Ret) =>
        bif (inB (i : Int) (List.length x3_5)) then
          spec_l21Find N x1_3 (List.getD x3_5 (Int.toNat (i : Int)) (0 : Int)) (fun (r32_8 : Int) =>
            bif (decide (r32_8 < (0 : Int))) then
              k4_1_12 false
            else
              bif (decide ((0 : Int) ≤ (0 : Int)) && decide ((0 : Int) ≤ (i : Int)) && decide ((i : Int) ≤ (List.length x3_5 : Int))) then
                bif (inB (i : Int) (List.length x3_5)) then
                  spec_l4Has N (List.drop (Int.toNat (0 : Int)) (List.take (Int.toNat (i : Int)) x3_5)) (List.getD x3_5 (Int.toNat (i : Int)) (0 : Int)) (fun (r43_9 : Bool) =>
                    bif r43_9 then
                      k4_1_12 false
                    else
                      bif (inB r32_8 (List.length x1_3)) then
                        spec_MayJudge N x0_2 (List.getD x1_3 (Int.toNat r32_8) zQIILIE) x (fun (r55_10 : Bool) =>
                          bif (!r55_10) then
                            k4_1_12 false
                          else
                            next)
                      else none)
                else none
              else none)
        else none) (
        k4_0_11) x2_4 0 := by
  exact range0 (f := fun n i => spec_AreSeated_l4 N x0_2 x1_3 x2_4 x3_5 n k4_0_11 k4_1_12 i) (l := x2_4) (fun n i h => by
    simp only [spec_AreSeated_l4]
    rw [decide_eq_true (show (i : Int) < (List.length x2_4 : Int) by omega)]
    simp only [cond_true, inB_nat h, Int.toNat_natCast, getD_nat _ i h]) (fun n => by
    simp only [spec_AreSeated_l4]
    rw [decide_eq_false (by omega)]
    simp only [cond_false]) hl x2_4 0 n rfl (by omega) hn
theorem spec_IsClub_l7_r {N : Nat} {x1_8 : QLQIIIIILIELQIILIELQIIELILQIIIELQIIIIEIE} {x3_9 : QIIIE} {k7_0_13 : Option Ret} {k7_1_14 : Bool → Option Ret} (hl : (List.length x1_8.2.2.2.2.1) ≤ maxLen) {n : Nat} (hn : (List.length x1_8.2.2.2.2.1) < n) : spec_IsClub_l7 N x1_8 x3_9 n k7_0_13 k7_1_14 (0 : Int) =
    goL (fun (i : Nat) (x : _) (next : Option Ret) =>
        bif (!((decide ((x.1 : Int) = x3_9.1)) && ((decide ((x.2.1 : Int) = x3_9.2.1)) && (decide ((x.2.2 : Int) = x3_9.2.2))))) then
          spec_IsBallot N x (fun (r98_12 : Bool) =>
            bif (!r98_12) then
              k7_1_14 false
            else
              bif (inB (i : Int) (List.length x1_8.2.2.2.1)) then
                bif (x.1 != (List.getD x1_8.2.2.2.1 (Int.toNat (i : Int)) (0 : Int))) then
                  k7_1_14 false
                else
                  next
              else none)
        else
          next) (
        k7_0_13) x1_8.2.2.2.2.1 0 := by
  exact range0 (f := fun n i => spec_IsClub_l7 N x1_8 x3_9 n k7_0_13 k7_1_14 i) (l := x1_8.2.2.2.2.1) (fun n i h => by
    simp only [spec_IsClub_l7]
    rw [decide_eq_true (show (i : Int) < (List.length x1_8.2.2.2.2.1 : Int) by omega)]
    simp only [cond_true, inB_nat h, Int.toNat_natCast, getD_nat _ i h]) (fun n => by
    simp only [spec_IsClub_l7]
    rw [decide_eq_false (by omega)]
    simp only [cond_false]) hl x1_8.2.2.2.2.1 0 n rfl (by omega) hn
theorem impl_cloneTeams_l3_r {N : Nat} {x7_2 : (List QIIIIILIE)} {k3_0_7 : (List QIIIIILIE) → Option Ret} {x3_1 : (List QIIIIILIE)} (hl : (List.length x7_2) ≤ maxLen) {n : Nat} (hn : (List.length x7_2) < n) : impl_cloneTeams_l3 N x7_2 (List.length x7_2 : Int) n k3_0_7 x3_1 (0 : Int) =
    goL1 (fun (i : Nat) (x : QIIIIILIE) (x3_1 : (List QIIIIILIE)) (next : (List QIIIIILIE) → Option Ret) =>
        slices_Clone_int N x.2.2.2.2.2 (fun (r15_6 : (List Int)) =>
          bif (decide ((List.length x3_1 + List.length [(x.1, (x.2.1, (x.2.2.1, (x.2.2.2.1, (x.2.2.2.2.1, r15_6)))))]) * 6 ≤ 4398046511104)) then
            next (x3_1 ++ [(x.1, (x.2.1, (x.2.2.1, (x.2.2.2.1, (x.2.2.2.2.1, r15_6)))))])
          else none)) (fun (x3_1 : (List QIIIIILIE)) =>
        k3_0_7 x3_1) x7_2 0 x3_1 := by
  exact range1 (f := fun n x3_1 i => impl_cloneTeams_l3 N x7_2 (List.length x7_2 : Int) n k3_0_7 x3_1 i) (l := x7_2) (fun n i x3_1 h => by
    simp only [impl_cloneTeams_l3]
    rw [decide_eq_true (show (i : Int) < (List.length x7_2 : Int) by omega)]
    simp only [cond_true, inB_nat h, Int.toNat_natCast, getD_nat _ i h]) (fun n x3_1 => by
    simp only [impl_cloneTeams_l3]
    rw [decide_eq_false (by omega)]
    simp only [cond_false]) hl x7_2 0 n x3_1 rfl (by omega) hn
theorem impl_cloneJudges_l3_r {N : Nat} {x7_2 : (List QIILIE)} {k3_0_7 : (List QIILIE) → Option Ret} {x3_1 : (List QIILIE)} (hl : (List.length x7_2) ≤ maxLen) {n : Nat} (hn : (List.length x7_2) < n) : impl_cloneJudges_l3 N x7_2 (List.length x7_2 : Int) n k3_0_7 x3_1 (0 : Int) =
    goL1 (fun (i : Nat) (x : QIILIE) (x3_1 : (List QIILIE)) (next : (List QIILIE) → Option Ret) =>
        slices_Clone_int N x.2.2 (fun (r15_6 : (List Int)) =>
          bif (decide ((List.length x3_1 + List.length [(x.1, (x.2.1, r15_6))]) * 3 ≤ 4398046511104)) then
            next (x3_1 ++ [(x.1, (x.2.1, r15_6))])
          else none)) (fun (x3_1 : (List QIILIE)) =>
        k3_0_7 x3_1) x7_2 0 x3_1 := by
  exact range1 (f := fun n x3_1 i => impl_cloneJudges_l3 N x7_2 (List.length x7_2 : Int) n k3_0_7 x3_1 i) (l := x7_2) (fun n i x3_1 h => by
    simp only [impl_cloneJudges_l3]
    rw [decide_eq_true (show (i : Int) < (List.length x7_2 : Int) by omega)]
    simp only [cond_true, inB_nat h, Int.toNat_natCast, getD_nat _ i h]) (fun n x3_1 => by
    simp only [impl_cloneJudges_l3]
    rw [decide_eq_false (by omega)]
    simp only [cond_false]) hl x7_2 0 n x3_1 rfl (by omega) hn
theorem slices_IndexFunc_Team_impl_FindTeam_1_l2_r {N : Nat} {x0_1 : (List QIIIIILIE)} {x1_2 : Int} {k2_0_7 : Option Ret} {k2_1_8 : Int → Option Ret} (hl : (List.length x0_1) ≤ maxLen) {n : Nat} (hn : (List.length x0_1) < n) : slices_IndexFunc_Team_impl_FindTeam_1_l2 N x0_1 x1_2 (List.length x0_1 : Int) n k2_0_7 k2_1_8 (0 : Int) =
    goL (fun (i : Nat) (x : QIIIIILIE) (next : Option Ret) =>
        impl_FindTeam_1 N x x1_2 (fun (r16_6 : Bool) =>
          bif r16_6 then
            k2_1_8 (i : Int)
          else
            next)) (
        k2_0_7) x0_1 0 := by
  exact range0 (f := fun n i => slices_IndexFunc_Team_impl_FindTeam_1_l2 N x0_1 x1_2 (List.length x0_1 : Int) n k2_0_7 k2_1_8 i) (l := x0_1) (fun n i h => by
    simp only [slices_IndexFunc_Team_impl_FindTeam_1_l2]
    rw [decide_eq_true (show (i : Int) < (List.length x0_1 : Int) by omega)]
    simp only [cond_true, inB_nat h, Int.toNat_natCast, getD_nat _ i h]) (fun n => by
    simp only [slices_IndexFunc_Team_impl_FindTeam_1_l2]
    rw [decide_eq_false (by omega)]
    simp only [cond_false]) hl x0_1 0 n rfl (by omega) hn
theorem impl_times_l3_r {x1_1 : Int} {x8_3 : (List Int)} {k3_0_8 : Int → Option Ret} {x5_2 : Int} (hl : (List.length x8_3) ≤ maxLen) {n : Nat} (hn : (List.length x8_3) < n) : impl_times_l3 x1_1 x8_3 (List.length x8_3 : Int) n k3_0_8 x5_2 (0 : Int) =
    goL1 (fun (i : Nat) (x : Int) (x5_2 : Int) (next : Int → Option Ret) =>
        bif (x == x1_1) then
          next (IntKind.wrap .i64 (x5_2 + (1 : Int)))
        else
          next x5_2) (fun (x5_2 : Int) =>
        k3_0_8 x5_2) x8_3 0 x5_2 := by
  exact range1 (f := fun n x5_2 i => impl_times_l3 x1_1 x8_3 (List.length x8_3 : Int) n k3_0_8 x5_2 i) (l := x8_3) (fun n i x5_2 h => by
    simp only [impl_times_l3]
    rw [decide_eq_true (show (i : Int) < (List.length x8_3 : Int) by omega)]
    simp only [cond_true, inB_nat h, Int.toNat_natCast, getD_nat _ i h]) (fun n x5_2 => by
    simp only [impl_times_l3]
    rw [decide_eq_false (by omega)]
    simp only [cond_false]) hl x8_3 0 n x5_2 rfl (by omega) hn
theorem impl_AreTeams_l10_r {N : Nat} {x0_16 : (List QIIIIILIE)} {x4_17 : QIIIIILIE} {x12_18 : (List QIIIIILIE)} {x13_19 : Int} {x14_20 : Int} {x72_21 : (List Int)} {k10_0_28 : Option Ret} {k10_1_29 : Bool → Option Ret} (hl : (List.length x72_21) ≤ maxLen) {n : Nat} (hn : (List.length x72_21) < n) : impl_AreTeams_l10 N x0_16 x4_17 x12_18 x13_19 x14_20 x72_21 (List.length x72_21 : Int) n k10_0_28 k10_1_29 (0 : Int) =
    goL (fun (i : Nat) (x : Int) (next : Option Ret) =>
        impl_FindTeam N x0_16 x (fun (r80_25 : Int) =>
          bif (decide (r80_25 < (0 : Int))) then
            k10_1_29 false
          else
            bif (x == x4_17.1) then
              k10_1_29 false
            else
              bif (inB r80_25 (List.length x0_16)) then
                impl_times N x4_17.2.2.2.2.2 x (fun (r93_26 : Int) =>
                  impl_times N (List.getD x0_16 (Int.toNat r80_25) zQIIIIILIE).2.2.2.2.2 x4_17.1 (fun (r101_27 : Int) =>
                    bif (r93_26 != r101_27) then
                      k10_1_29 false
                    else
                      next))
              else none)) (
        k10_0_28) x72_21 0 := by
  exact range0 (f := fun n i => impl_AreTeams_l10 N x0_16 x4_17 x12_18 x13_19 x14_20 x72_21 (List.length x72_21 : Int) n k10_0_28 k10_1_29 i) (l := x72_21) (fun n i h => by
    simp only [impl_AreTeams_l10]
    rw [decide_eq_true (show (i : Int) < (List.length x72_21 : Int) by omega)]
    simp only [cond_true, inB_nat h, Int.toNat_natCast, getD_nat _ i h]) (fun n => by
    simp only [impl_AreTeams_l10]
    rw [decide_eq_false (by omega)]
    simp only [cond_false]) hl x72_21 0 n rfl (by omega) hn
theorem impl_AreTeams_l4_r {N : Nat} {x0_1 : (List QIIIIILIE)} {x12_2 : (List QIIIIILIE)} {k4_0_32 : Option Ret} {k4_1_33 : Bool → Option Ret} (hl : (List.length x12_2) ≤ maxLen) {n : Nat} (hn : (List.length x12_2) < n) : impl_AreTeams_l4 N x0_1 x12_2 (List.length x12_2 : Int) n k4_0_32 k4_1_33 (0 : Int) =
    goL (fun (i : Nat) (x : QIIIIILIE) (next : Option Ret) =>
        impl_InRange N x.1 (1 : Int) (99 : Int) (fun (r24_6 : Bool) =>
          bif (!r24_6) then
            k4_1_33 false
          else
            bif (decide ((i : Int) > (0 : Int))) then
              bif (inB (IntKind.wrap .i64 ((i : Int) - (1 : Int))) (List.length x0_1)) then
                bif (decide (x.1 ≤ (List.getD x0_1 (Int.toNat (IntKind.wrap .i64 ((i : Int) - (1 : Int)))) zQIIIIILIE).1)) then
                  k4_1_33 false
                else
                  impl_InRange N x.2.1 (1 : Int) (99 : Int) (fun (r44_7 : Bool) =>
                    bif (!r44_7) then
                      k4_1_33 false
                    else
                      bif (decide ((List.length x.2.2.2.2.2 : Int) > (20 : Int))) then
                        k4_1_33 false
                      else
                        impl_InRange N x.2.2.1 (0 : Int) (List.length x.2.2.2.2.2 : Int) (fun (r55_8 : Bool) =>
                          bif (!r55_8) then
                            k4_1_33 false
                          else
                            impl_InRange N x.2.2.2.2.1 (0 : Int) (List.length x.2.2.2.2.2 : Int) (fun (r62_9 : Bool) =>
                              bif (!r62_9) then
                                k4_1_33 false
                              else
                                impl_InRange N x.2.2.2.1 (0 : Int) (100000 : Int) (fun (r68_10 : Bool) =>
                                  bif (!r68_10) then
                                    k4_1_33 false
                                  else
                                    impl_AreTeams_l10 N x0_1 x x12_2 (List.length x12_2 : Int) (i : Int) x.2.2.2.2.2 (List.length x.2.2.2.2.2 : Int) N next k4_1_33 (0 : Int)))))
              else none
            else
              impl_InRange N x.2.1 (1 : Int) (99 : Int) (fun (r44_11 : Bool) =>
                bif (!r44_11) then
                  k4_1_33 false
                else
                  bif (decide ((List.length x.2.2.2.2.2 : Int) > (20 : Int))) then
                    k4_1_33 false
                  else
                    impl_InRange N x.2.2.1 (0 : Int) (List.length x.2.2.2.2.2 : Int) (fun (r55_12 : Bool) =>
                      bif (!r55_12) then
                        k4_1_33 false
                      else
                        impl_InRange N x.2.2.2.2.1 (0 : Int) (List.length x.2.2.2.2.2 : Int) (fun (r62_13 : Bool) =>
                          bif (!r62_13) then
                            k4_1_33 false
                          else
                            impl_InRange N x.2.2.2.1 (0 : Int) (100000 : Int) (fun (r68_14 : Bool) =>
                              bif (!r68_14) then
                                k4_1_33 false
                              else
                                impl_AreTeams_l10 N x0_1 x x12_2 (List.length x12_2 : Int) (i : Int) x.2.2.2.2.2 (List.length x.2.2.2.2.2 : Int) N next k4_1_33 (0 : Int))))))) (
        k4_0_32) x12_2 0 := by
  exact range0 (f := fun n i => impl_AreTeams_l4 N x0_1 x12_2 (List.length x12_2 : Int) n k4_0_32 k4_1_33 i) (l := x12_2) (fun n i h => by
    simp only [impl_AreTeams_l4, impl_AreTeams_j1]
    rw [decide_eq_true (show (i : Int) < (List.length x12_2 : Int) by omega)]
    simp only [cond_true, inB_nat h, Int.toNat_natCast, getD_nat _ i h]) (fun n => by
    simp only [impl_AreTeams_l4, impl_AreTeams_j1]
    rw [decide_eq_false (by omega)]
    simp only [cond_false]) hl x12_2 0 n rfl (by omega) hn
theorem impl_AreJudges_l9_r {N : Nat} {x0_10 : (List QIILIE)} {x4_11 : QIILIE} {x10_12 : (List QIILIE)} {x11_13 : Int} {x12_14 : Int} {x43_15 : (List Int)} {k9_0_20 : Option Ret} {k9_1_21 : Bool → Option Ret} (hl : (List.length x43_15) ≤ maxLen) {n : Nat} (hn : (List.length x43_15) < n) : impl_AreJudges_l9 N x0_10 x4_11 x10_12 x11_13 x12_14 x43_15 (List.length x43_15 : Int) n k9_0_20 k9_1_21 (0 : Int) =
    goL (fun (i : Nat) (x : Int) (next : Option Ret) =>
        impl_InRange N x (1 : Int) (99 : Int) (fun (r51_19 : Bool) =>
          bif (!r51_19) then
            k9_1_21 false
          else
            bif (decide ((i : Int) > (0 : Int))) then
              bif (inB (IntKind.wrap .i64 ((i : Int) - (1 : Int))) (List.length x4_11.2.2)) then
                bif (decide (x ≤ (List.getD x4_11.2.2 (Int.toNat (IntKind.wrap .i64 ((i : Int) - (1 : Int)))) (0 : Int)))) then
                  k9_1_21 false
                else
                  next
              else none
            else
              next)) (
        k9_0_20) x43_15 0 := by
  exact range0 (f := fun n i => impl_AreJudges_l9 N x0_10 x4_11 x10_12 x11_13 x12_14 x43_15 (List.length x43_15 : Int) n k9_0_20 k9_1_21 i) (l := x43_15) (fun n i h => by
    simp only [impl_AreJudges_l9]
    rw [decide_eq_true (show (i : Int) < (List.length x43_15 : Int) by omega)]
    simp only [cond_true, inB_nat h, Int.toNat_natCast, getD_nat _ i h]) (fun n => by
    simp only [impl_AreJudges_l9]
    rw [decide_eq_false (by omega)]
    simp only [cond_false]) hl x43_15 0 n rfl (by omega) hn
theorem impl_AreJudges_l4_r {N : Nat} {x0_1 : (List QIILIE)} {x10_2 : (List QIILIE)} {k4_0_24 : Option Ret} {k4_1_25 : Bool → Option Ret} (hl : (List.length x10_2) ≤ maxLen) {n : Nat} (hn : (List.length x10_2) < n) : impl_AreJudges_l4 N x0_1 x10_2 (List.length x10_2 : Int) n k4_0_24 k4_1_25 (0 : Int) =
    goL (fun (i : Nat) (x : QIILIE) (next : Option Ret) =>
        impl_InRange N x.1 (1 : Int) (99 : Int) (fun (r19_6 : Bool) =>
          bif (!r19_6) then
            k4_1_25 false
          else
            bif (decide ((i : Int) > (0 : Int))) then
              bif (inB (IntKind.wrap .i64 ((i : Int) - (1 : Int))) (List.length x0_1)) then
                bif (decide (x.1 ≤ (List.getD x0_1 (Int.toNat (IntKind.wrap .i64 ((i : Int) - (1 : Int)))) zQIILIE).1)) then
                  k4_1_25 false
                else
                  impl_InRange N x.2.1 (1 : Int) (99 : Int) (fun (r39_7 : Bool) =>
                    bif (!r39_7) then
                      k4_1_25 false
                    else
                      impl_AreJudges_l9 N x0_1 x x10_2 (List.length x10_2 : Int) (i : Int) x.2.2 (List.length x.2.2 : Int) N next k4_1_25 (0 : Int))
              else none
            else
              impl_InRange N x.2.1 (1 : Int) (99 : Int) (fun (r39_8 : Bool) =>
                bif (!r39_8) then
                  k4_1_25 false
                else
                  impl_AreJudges_l9 N x0_1 x x10_2 (List.length x10_2 : Int) (i : Int) x.2.2 (List.length x.2.2 : Int) N next k4_1_25 (0 : Int)))) (
        k4_0_24) x10_2 0 := by
  exact range0 (f := fun n i => impl_AreJudges_l4 N x0_1 x10_2 (List.length x10_2 : Int) n k4_0_24 k4_1_25 i) (l := x10_2) (fun n i h => by
    simp only [impl_AreJudges_l4, impl_AreJudges_j1]
    rw [decide_eq_true (show (i : Int) < (List.length x10_2 : Int) by omega)]
    simp only [cond_true, inB_nat h, Int.toNat_natCast, getD_nat _ i h]) (fun n => by
    simp only [impl_AreJudges_l4, impl_AreJudges_j1]
    rw [decide_eq_false (by omega)]
    simp only [cond_false]) hl x10_2 0 n rfl (by omega) hn
theorem impl_Hash_l3_r {N : Nat} {x6_2 : (List Int)} {k3_0_7 : Int → Option Ret} {x3_1 : Int} (hl : (List.length x6_2) ≤ maxLen) {n : Nat} (hn : (List.length x6_2) < n) : impl_Hash_l3 N x6_2 (List.length x6_2 : Int) n k3_0_7 x3_1 (0 : Int) =
    goL1 (fun (i : Nat) (x : Int) (x3_1 : Int) (next : Int → Option Ret) =>
        impl_fold N x3_1 x (fun (r14_6 : Int) =>
          next r14_6)) (fun (x3_1 : Int) =>
        k3_0_7 x3_1) x6_2 0 x3_1 := by
  exact range1 (f := fun n x3_1 i => impl_Hash_l3 N x6_2 (List.length x6_2 : Int) n k3_0_7 x3_1 i) (l := x6_2) (fun n i x3_1 h => by
    simp only [impl_Hash_l3]
    rw [decide_eq_true (show (i : Int) < (List.length x6_2 : Int) by omega)]
    simp only [cond_true, inB_nat h, Int.toNat_natCast, getD_nat _ i h]) (fun n x3_1 => by
    simp only [impl_Hash_l3]
    rw [decide_eq_false (by omega)]
    simp only [cond_false]) hl x6_2 0 n x3_1 rfl (by omega) hn
theorem impl_AreMinutes_l5_r {N : Nat} {x9_2 : (List QIIIIE)} {k5_0_9 : Option Ret} {k5_1_10 : Bool → Option Ret} {x3_1 : Int} (hl : (List.length x9_2) ≤ maxLen) {n : Nat} (hn : (List.length x9_2) < n) : impl_AreMinutes_l5 N x9_2 (List.length x9_2 : Int) n k5_0_9 k5_1_10 x3_1 (0 : Int) =
    goL1 (fun (i : Nat) (x : QIIIIE) (x3_1 : Int) (next : Int → Option Ret) =>
        bif (x.1 != (IntKind.wrap .i64 ((i : Int) + (1 : Int)))) then
          k5_1_10 false
        else
          impl_InRange N x.2.1 (1 : Int) (9 : Int) (fun (r24_6 : Bool) =>
            bif (!r24_6) then
              k5_1_10 false
            else
              impl_InRange N x.2.2.1 (0 : Int) (99 : Int) (fun (r30_7 : Bool) =>
                bif (!r30_7) then
                  k5_1_10 false
                else
                  impl_lineSeal N x3_1 x (fun (r38_8 : Int) =>
                    bif (x.2.2.2 != r38_8) then
                      k5_1_10 false
                    else
                      next x.2.2.2)))) (fun (x3_1 : Int) =>
        k5_0_9) x9_2 0 x3_1 := by
  exact range1 (f := fun n x3_1 i => impl_AreMinutes_l5 N x9_2 (List.length x9_2 : Int) n k5_0_9 k5_1_10 x3_1 i) (l := x9_2) (fun n i x3_1 h => by
    simp only [impl_AreMinutes_l5]
    rw [decide_eq_true (show (i : Int) < (List.length x9_2 : Int) by omega)]
    simp only [cond_true, inB_nat h, Int.toNat_natCast, getD_nat _ i h]) (fun n x3_1 => by
    simp only [impl_AreMinutes_l5]
    rw [decide_eq_false (by omega)]
    simp only [cond_false]) hl x9_2 0 n x3_1 rfl (by omega) hn
theorem slices_Index_int_l2_r {x0_1 : (List Int)} {x1_2 : Int} {k2_0_6 : Option Ret} {k2_1_7 : Int → Option Ret} (hl : (List.length x0_1) ≤ maxLen) {n : Nat} (hn : (List.length x0_1) < n) : slices_Index_int_l2 x0_1 x1_2 (List.length x0_1 : Int) n k2_0_6 k2_1_7 (0 : Int) =
    goL (fun (i : Nat) (x : Int) (next : Option Ret) =>
        bif (x1_2 == x) then
          k2_1_7 (i : Int)
        else
          next) (
        k2_0_6) x0_1 0 := by
  exact range0 (f := fun n i => slices_Index_int_l2 x0_1 x1_2 (List.length x0_1 : Int) n k2_0_6 k2_1_7 i) (l := x0_1) (fun n i h => by
    simp only [slices_Index_int_l2]
    rw [decide_eq_true (show (i : Int) < (List.length x0_1 : Int) by omega)]
    simp only [cond_true, inB_nat h, Int.toNat_natCast, getD_nat _ i h]) (fun n => by
    simp only [slices_Index_int_l2]
    rw [decide_eq_false (by omega)]
    simp only [cond_false]) hl x0_1 0 n rfl (by omega) hn
theorem impl_IsRound_l10_r {N : Nat} {x5_13 : (List Int)} {x32_14 : (List QIIIIILIE)} {k10_0_19 : Option Ret} {k10_1_20 : Bool → Option Ret} (hl : (List.length x32_14) ≤ maxLen) {n : Nat} (hn : (List.length x32_14) < n) : impl_IsRound_l10 N x5_13 x32_14 (List.length x32_14 : Int) n k10_0_19 k10_1_20 (0 : Int) =
    goL (fun (i : Nat) (x : QIIIIILIE) (next : Option Ret) =>
        impl_times N x5_13 x.1 (fun (r41_18 : Int) =>
          bif (r41_18 != (1 : Int)) then
            k10_1_20 false
          else
            next)) (
        k10_0_19) x32_14 0 := by
  exact range0 (f := fun n i => impl_IsRound_l10 N x5_13 x32_14 (List.length x32_14 : Int) n k10_0_19 k10_1_20 i) (l := x32_14) (fun n i h => by
    simp only [impl_IsRound_l10]
    rw [decide_eq_true (show (i : Int) < (List.length x32_14 : Int) by omega)]
    simp only [cond_true, inB_nat h, Int.toNat_natCast, getD_nat _ i h]) (fun n => by
    simp only [impl_IsRound_l10]
    rw [decide_eq_false (by omega)]
    simp only [cond_false]) hl x32_14 0 n rfl (by omega) hn
theorem impl_IsRound_l3_r {N : Nat} {x0_1 : (List QIIIIILIE)} {x11_3 : (List QIIE)} {k3_0_8 : (List Int) → Option Ret} {k3_1_9 : Bool → Option Ret} {x5_2 : (List Int)} (hl : (List.length x11_3) ≤ maxLen) {n : Nat} (hn : (List.length x11_3) < n) : impl_IsRound_l3 N x0_1 x11_3 (List.length x11_3 : Int) n k3_0_8 k3_1_9 x5_2 (0 : Int) =
    goL1 (fun (i : Nat) (x : QIIE) (x5_2 : (List Int)) (next : (List Int) → Option Ret) =>
        impl_MayMeet N x0_1 x.1 x.2 (fun (r22_7 : Bool) =>
          bif (!r22_7) then
            k3_1_9 false
          else
            bif (decide ((List.length x5_2 + List.length [x.1, x.2]) * 1 ≤ 4398046511104)) then
              next (x5_2 ++ [x.1, x.2])
            else none)) (fun (x5_2 : (List Int)) =>
        k3_0_8 x5_2) x11_3 0 x5_2 := by
  exact range1 (f := fun n x5_2 i => impl_IsRound_l3 N x0_1 x11_3 (List.length x11_3 : Int) n k3_0_8 k3_1_9 x5_2 i) (l := x11_3) (fun n i x5_2 h => by
    simp only [impl_IsRound_l3]
    rw [decide_eq_true (show (i : Int) < (List.length x11_3 : Int) by omega)]
    simp only [cond_true, inB_nat h, Int.toNat_natCast, getD_nat _ i h]) (fun n x5_2 => by
    simp only [impl_IsRound_l3]
    rw [decide_eq_false (by omega)]
    simp only [cond_false]) hl x11_3 0 n x5_2 rfl (by omega) hn
theorem slices_IndexFunc_Judge_impl_AreSeated_1_l2_r {N : Nat} {x0_1 : (List QIILIE)} {x1_2 : Int} {k2_0_7 : Option Ret} {k2_1_8 : Int → Option Ret} (hl : (List.length x0_1) ≤ maxLen) {n : Nat} (hn : (List.length x0_1) < n) : slices_IndexFunc_Judge_impl_AreSeated_1_l2 N x0_1 x1_2 (List.length x0_1 : Int) n k2_0_7 k2_1_8 (0 : Int) =
    goL (fun (i : Nat) (x : QIILIE) (next : Option Ret) =>
        impl_AreSeated_1 N x x1_2 (fun (r16_6 : Bool) =>
          bif r16_6 then
            k2_1_8 (i : Int)
          else
            next)) (
        k2_0_7) x0_1 0 := by
  exact range0 (f := fun n i => slices_IndexFunc_Judge_impl_AreSeated_1_l2 N x0_1 x1_2 (List.length x0_1 : Int) n k2_0_7 k2_1_8 i) (l := x0_1) (fun n i h => by
    simp only [slices_IndexFunc_Judge_impl_AreSeated_1_l2]
    rw [decide_eq_true (show (i : Int) < (List.length x0_1 : Int) by omega)]
    simp only [cond_true, inB_nat h, Int.toNat_natCast, getD_nat _ i h]) (fun n => by
    simp only [slices_IndexFunc_Judge_impl_AreSeated_1_l2]
    rw [decide_eq_false (by omega)]
    simp only [cond_false]) hl x0_1 0 n rfl (by omega) hn
theorem impl_MayJudge_l2_r {N : Nat} {x0_1 : (List QIIIIILIE)} {x4_2 : QIILIE} {x14_3 : (List Int)} {k2_0_9 : Option Ret} {k2_1_10 : Bool → Option Ret} (hl : (List.length x14_3) ≤ maxLen) {n : Nat} (hn : (List.length x14_3) < n) : impl_MayJudge_l2 N x0_1 x4_2 x14_3 (List.length x14_3 : Int) n k2_0_9 k2_1_10 (0 : Int) =
    goL (fun (i : Nat) (x : Int) (next : Option Ret) =>
        impl_FindTeam N x0_1 x (fun (r22_7 : Int) =>
          bif (decide (r22_7 < (0 : Int))) then
            k2_1_10 false
          else
            bif (inB r22_7 (List.length x0_1)) then
              bif ((List.getD x0_1 (Int.toNat r22_7) zQIIIIILIE).2.1 == x4_2.2.1) then
                k2_1_10 false
              else
                slices_Contains_int N x4_2.2.2 x (fun (r39_8 : Bool) =>
                  bif r39_8 then
                    k2_1_10 false
                  else
                    next)
            else none)) (
        k2_0_9) x14_3 0 := by
  exact range0 (f := fun n i => impl_MayJudge_l2 N x0_1 x4_2 x14_3 (List.length x14_3 : Int) n k2_0_9 k2_1_10 i) (l := x14_3) (fun n i h => by
    simp only [impl_MayJudge_l2]
    rw [decide_eq_true (show (i : Int) < (List.length x14_3 : Int) by omega)]
    simp only [cond_true, inB_nat h, Int.toNat_natCast, getD_nat _ i h]) (fun n => by
    simp only [impl_MayJudge_l2]
    rw [decide_eq_false (by omega)]
    simp only [cond_false]) hl x14_3 0 n rfl (by omega) hn
theorem impl_AreSeated_l4_r {N : Nat} {x0_2 : (List QIIIIILIE)} {x1_3 : (List QIILIE)} {x2_4 : (List QIIE)} {x3_5 : (List Int)} {x22_6 : (List Int)} {k4_0_13 : Option Ret} {k4_1_14 : Bool → Option Ret} (hl : (List.length x22_6) ≤ maxLen) {n : Nat} (hn : (List.length x22_6) < n) : impl_AreSeated_l4 N x0_2 x1_3 x2_4 x3_5 x22_6 (List.length x22_6 : Int) n k4_0_13 k4_1_14 (0 : Int) =
    goL (fun (i : Nat) (x : Int) (next : Option Ret) =>
        slices_IndexFunc_Judge_impl_AreSeated_1 N x1_3 x (fun (r31_10 : Int) =>
          bif (decide (r31_10 < (0 : Int))) then
            k4_1_14 false
          else
            bif (decide ((0 : Int) ≤ (0 : Int)) && decide ((0 : Int) ≤ (i : Int)) && decide ((i : Int) ≤ (List.length x3_5 : Int))) then
              slices_Contains_int N (List.drop (Int.toNat (0 : Int)) (List.take (Int.toNat (i : Int)) x3_5)) x (fun (r39_11 : Bool) =>
                bif r39_11 then
                  k4_1_14 false
                else
                  bif (inB r31_10 (List.length x1_3)) then
                    bif (inB (i : Int) (List.length x2_4)) then
                      impl_MayJudge N x0_2 (List.getD x1_3 (Int.toNat r31_10) zQIILIE) (List.getD x2_4 (Int.toNat (i : Int)) zQIIE) (fun (r51_12 : Bool) =>
                        bif (!r51_12) then
                          k4_1_14 false
                        else
                          next)
                    else none
                  else none)
            else none)) (
        k4_0_13) x22_6 0 := by
  exact range0 (f := fun n i => impl_AreSeated_l4 N x0_2 x1_3 x2_4 x3_5 x22_6 (List.length x22_6 : Int) n k4_0_13 k4_1_14 i) (l := x22_6) (fun n i h => by
    simp only [impl_AreSeated_l4]
    rw [decide_eq_true (show (i : Int) < (List.length x22_6 : Int) by omega)]
    simp only [cond_true, inB_nat h, Int.toNat_natCast, getD_nat _ i h]) (fun n => by
    simp only [impl_AreSeated_l4]
    rw [decide_eq_false (by omega)]
    simp only [cond_false]) hl x22_6 0 n rfl (by omega) hn
theorem impl_TotalWins_l5_r {x10_3 : (List QIIIIILIE)} {k5_0_7 : Int → Option Ret} {x3_2 : Int} (hl : (List.length x10_3) ≤ maxLen) {n : Nat} (hn : (List.length x10_3) < n) : impl_TotalWins_l5 x10_3 (List.length x10_3 : Int) n k5_0_7 x3_2 (0 : Int) =
    goL1 (fun (i : Nat) (x : QIIIIILIE) (x3_2 : Int) (next : Int → Option Ret) =>
        next (IntKind.wrap .i64 (x3_2 + x.2.2.1))) (fun (x3_2 : Int) =>
        k5_0_7 x3_2) x10_3 0 x3_2 := by
  exact range1 (f := fun n x3_2 i => impl_TotalWins_l5 x10_3 (List.length x10_3 : Int) n k5_0_7 x3_2 i) (l := x10_3) (fun n i x3_2 h => by
    simp only [impl_TotalWins_l5]
    rw [decide_eq_true (show (i : Int) < (List.length x10_3 : Int) by omega)]
    simp only [cond_true, inB_nat h, Int.toNat_natCast, getD_nat _ i h]) (fun n x3_2 => by
    simp only [impl_TotalWins_l5]
    rw [decide_eq_false (by omega)]
    simp only [cond_false]) hl x10_3 0 n x3_2 rfl (by omega) hn
theorem impl_IsClub_l6_r {N : Nat} {x1_7 : QLQIIIIILIELQIILIELQIIELILQIIIELQIIIIEIE} {x62_8 : (List QIIIE)} {k6_0_13 : Option Ret} {k6_1_14 : Bool → Option Ret} (hl : (List.length x62_8) ≤ maxLen) {n : Nat} (hn : (List.length x62_8) < n) : impl_IsClub_l6 N x1_7 x62_8 (List.length x62_8 : Int) n k6_0_13 k6_1_14 (0 : Int) =
    goL (fun (i : Nat) (x : QIIIE) (next : Option Ret) =>
        bif (!((decide ((x.1 : Int) = (0 : Int))) && ((decide ((x.2.1 : Int) = (0 : Int))) && (decide ((x.2.2 : Int) = (0 : Int)))))) then
          impl_IsBallot N x (fun (r74_12 : Bool) =>
            bif (!r74_12) then
              k6_1_14 false
            else
              bif (inB (i : Int) (List.length x1_7.2.2.2.1)) then
                bif (x.1 != (List.getD x1_7.2.2.2.1 (Int.toNat (i : Int)) (0 : Int))) then
                  k6_1_14 false
                else
                  next
              else none)
        else
          next) (
        k6_0_13) x62_8 0 := by
  exact range0 (f := fun n i => impl_IsClub_l6 N x1_7 x62_8 (List.length x62_8 : Int) n k6_0_13 k6_1_14 i) (l := x62_8) (fun n i h => by
    simp only [impl_IsClub_l6]
    rw [decide_eq_true (show (i : Int) < (List.length x62_8 : Int) by omega)]
    simp only [cond_true, inB_nat h, Int.toNat_natCast, getD_nat _ i h]) (fun n => by
    simp only [impl_IsClub_l6]
    rw [decide_eq_false (by omega)]
    simp only [cond_false]) hl x62_8 0 n rfl (by omega) hn
theorem laws_eqIntS_l4_r {x0_1 : (List Int)} {x1_2 : (List Int)} {k4_0_5 : Option Ret} {k4_1_6 : Bool → Option Ret} (hl : (List.length x0_1) ≤ maxLen) {n : Nat} (hn : (List.length x0_1) < n) : laws_eqIntS_l4 x0_1 x1_2 n k4_0_5 k4_1_6 (0 : Int) =
    goL (fun (i : Nat) (x : Int) (next : Option Ret) =>
        bif (inB (i : Int) (List.length x1_2)) then
          bif (x != (List.getD x1_2 (Int.toNat (i : Int)) (0 : Int))) then
            k4_1_6 false
          else
            next
        else none) (
        k4_0_5) x0_1 0 := by
  exact range0 (f := fun n i => laws_eqIntS_l4 x0_1 x1_2 n k4_0_5 k4_1_6 i) (l := x0_1) (fun n i h => by
    simp only [laws_eqIntS_l4]
    rw [decide_eq_true (show (i : Int) < (List.length x0_1 : Int) by omega)]
    simp only [cond_true, inB_nat h, Int.toNat_natCast, getD_nat _ i h]) (fun n => by
    simp only [laws_eqIntS_l4]
    rw [decide_eq_false (by omega)]
    simp only [cond_false]) hl x0_1 0 n rfl (by omega) hn
theorem laws_eqTeamS_l4_r {N : Nat} {x0_1 : (List QIIIIILIE)} {x1_2 : (List QIIIIILIE)} {k4_0_6 : Option Ret} {k4_1_7 : Bool → Option Ret} (hl : (List.length x0_1) ≤ maxLen) {n : Nat} (hn : (List.length x0_1) < n) : laws_eqTeamS_l4 N x0_1 x1_2 n k4_0_6 k4_1_7 (0 : Int) =
    goL (fun (i : Nat) (x : QIIIIILIE) (next : Option Ret) =>
        bif (inB (i : Int) (List.length x1_2)) then
          laws_eqTeam N x (List.getD x1_2 (Int.toNat (i : Int)) zQIIIIILIE) (fun (r25_5 : Bool) =>
            bif (!r25_5) then
              k4_1_7 false
            else
              next)
        else none) (
        k4_0_6) x0_1 0 := by
  exact range0 (f := fun n i => laws_eqTeamS_l4 N x0_1 x1_2 n k4_0_6 k4_1_7 i) (l := x0_1) (fun n i h => by
    simp only [laws_eqTeamS_l4]
    rw [decide_eq_true (show (i : Int) < (List.length x0_1 : Int) by omega)]
    simp only [cond_true, inB_nat h, Int.toNat_natCast, getD_nat _ i h]) (fun n => by
    simp only [laws_eqTeamS_l4]
    rw [decide_eq_false (by omega)]
    simp only [cond_false]) hl x0_1 0 n rfl (by omega) hn
theorem laws_eqJudgeS_l4_r {N : Nat} {x0_1 : (List QIILIE)} {x1_2 : (List QIILIE)} {k4_0_6 : Option Ret} {k4_1_7 : Bool → Option Ret} (hl : (List.length x0_1) ≤ maxLen) {n : Nat} (hn : (List.length x0_1) < n) : laws_eqJudgeS_l4 N x0_1 x1_2 n k4_0_6 k4_1_7 (0 : Int) =
    goL (fun (i : Nat) (x : QIILIE) (next : Option Ret) =>
        bif (inB (i : Int) (List.length x1_2)) then
          laws_eqJudge N x (List.getD x1_2 (Int.toNat (i : Int)) zQIILIE) (fun (r25_5 : Bool) =>
            bif (!r25_5) then
              k4_1_7 false
            else
              next)
        else none) (
        k4_0_6) x0_1 0 := by
  exact range0 (f := fun n i => laws_eqJudgeS_l4 N x0_1 x1_2 n k4_0_6 k4_1_7 i) (l := x0_1) (fun n i h => by
    simp only [laws_eqJudgeS_l4]
    rw [decide_eq_true (show (i : Int) < (List.length x0_1 : Int) by omega)]
    simp only [cond_true, inB_nat h, Int.toNat_natCast, getD_nat _ i h]) (fun n => by
    simp only [laws_eqJudgeS_l4]
    rw [decide_eq_false (by omega)]
    simp only [cond_false]) hl x0_1 0 n rfl (by omega) hn
theorem laws_eqPairS_l4_r {N : Nat} {x0_1 : (List QIIE)} {x1_2 : (List QIIE)} {k4_0_6 : Option Ret} {k4_1_7 : Bool → Option Ret} (hl : (List.length x0_1) ≤ maxLen) {n : Nat} (hn : (List.length x0_1) < n) : laws_eqPairS_l4 N x0_1 x1_2 n k4_0_6 k4_1_7 (0 : Int) =
    goL (fun (i : Nat) (x : QIIE) (next : Option Ret) =>
        bif (inB (i : Int) (List.length x1_2)) then
          laws_eqPair N x (List.getD x1_2 (Int.toNat (i : Int)) zQIIE) (fun (r25_5 : Bool) =>
            bif (!r25_5) then
              k4_1_7 false
            else
              next)
        else none) (
        k4_0_6) x0_1 0 := by
  exact range0 (f := fun n i => laws_eqPairS_l4 N x0_1 x1_2 n k4_0_6 k4_1_7 i) (l := x0_1) (fun n i h => by
    simp only [laws_eqPairS_l4]
    rw [decide_eq_true (show (i : Int) < (List.length x0_1 : Int) by omega)]
    simp only [cond_true, inB_nat h, Int.toNat_natCast, getD_nat _ i h]) (fun n => by
    simp only [laws_eqPairS_l4]
    rw [decide_eq_false (by omega)]
    simp only [cond_false]) hl x0_1 0 n rfl (by omega) hn
theorem laws_eqBallotS_l4_r {N : Nat} {x0_1 : (List QIIIE)} {x1_2 : (List QIIIE)} {k4_0_6 : Option Ret} {k4_1_7 : Bool → Option Ret} (hl : (List.length x0_1) ≤ maxLen) {n : Nat} (hn : (List.length x0_1) < n) : laws_eqBallotS_l4 N x0_1 x1_2 n k4_0_6 k4_1_7 (0 : Int) =
    goL (fun (i : Nat) (x : QIIIE) (next : Option Ret) =>
        bif (inB (i : Int) (List.length x1_2)) then
          laws_eqBallot N x (List.getD x1_2 (Int.toNat (i : Int)) zQIIIE) (fun (r25_5 : Bool) =>
            bif (!r25_5) then
              k4_1_7 false
            else
              next)
        else none) (
        k4_0_6) x0_1 0 := by
  exact range0 (f := fun n i => laws_eqBallotS_l4 N x0_1 x1_2 n k4_0_6 k4_1_7 i) (l := x0_1) (fun n i h => by
    simp only [laws_eqBallotS_l4]
    rw [decide_eq_true (show (i : Int) < (List.length x0_1 : Int) by omega)]
    simp only [cond_true, inB_nat h, Int.toNat_natCast, getD_nat _ i h]) (fun n => by
    simp only [laws_eqBallotS_l4]
    rw [decide_eq_false (by omega)]
    simp only [cond_false]) hl x0_1 0 n rfl (by omega) hn
theorem laws_eqLineS_l4_r {N : Nat} {x0_1 : (List QIIIIE)} {x1_2 : (List QIIIIE)} {k4_0_6 : Option Ret} {k4_1_7 : Bool → Option Ret} (hl : (List.length x0_1) ≤ maxLen) {n : Nat} (hn : (List.length x0_1) < n) : laws_eqLineS_l4 N x0_1 x1_2 n k4_0_6 k4_1_7 (0 : Int) =
    goL (fun (i : Nat) (x : QIIIIE) (next : Option Ret) =>
        bif (inB (i : Int) (List.length x1_2)) then
          laws_eqLine N x (List.getD x1_2 (Int.toNat (i : Int)) zQIIIIE) (fun (r25_5 : Bool) =>
            bif (!r25_5) then
              k4_1_7 false
            else
              next)
        else none) (
        k4_0_6) x0_1 0 := by
  exact range0 (f := fun n i => laws_eqLineS_l4 N x0_1 x1_2 n k4_0_6 k4_1_7 i) (l := x0_1) (fun n i h => by
    simp only [laws_eqLineS_l4]
    rw [decide_eq_true (show (i : Int) < (List.length x0_1 : Int) by omega)]
    simp only [cond_true, inB_nat h, Int.toNat_natCast, getD_nat _ i h]) (fun n => by
    simp only [laws_eqLineS_l4]
    rw [decide_eq_false (by omega)]
    simp only [cond_false]) hl x0_1 0 n rfl (by omega) hn
theorem spec_StepJudge_l3_r {x1_2 : Int} {x2_3 : Int} {x3_4 : QLQIIIIILIELQIILIELQIIELILQIIIELQIIIIEIE} {x6_5 : QLQIIIIILIELQIILIELQIIELILQIIIELQIIIIEIE} {x8_6 : QLQIIIIILIELQIILIELQIIELILQIIIELQIIIIEIE} {k3_0_9 : Int → Option Ret} (hl : (List.length x3_4.2.1) ≤ maxLen) {n : Nat} (hn : (List.length x3_4.2.1) < n) : spec_StepJudge_l3 x1_2 x2_3 x3_4 x6_5 x8_6 n k3_0_9 (0 : Int) =
    goL (fun (i : Nat) (x : _) (next : Option Ret) =>
        bif (decide (x.1 < x1_2)) then
          next
        else
          k3_0_9 (i : Int)) (
        k3_0_9 (List.length x3_4.2.1 : Int)) x3_4.2.1 0 := by
  exact range0 (f := fun n i => spec_StepJudge_l3 x1_2 x2_3 x3_4 x6_5 x8_6 n k3_0_9 i) (l := x3_4.2.1) (fun n i h => by
    simp only [spec_StepJudge_l3]
    rw [decide_eq_true (show (i : Int) < (List.length x3_4.2.1 : Int) by omega)]
    simp only [cond_true, inB_nat h, Int.toNat_natCast, getD_nat _ i h]) (fun n => by
    simp only [spec_StepJudge_l3]
    rw [decide_eq_false (by omega)]
    simp only [cond_false]) hl x3_4.2.1 0 n rfl (by omega) hn
theorem slices_IndexFunc_Judge_impl_judgeAt_1_l2_r {N : Nat} {x0_1 : (List QIILIE)} {x1_2 : Int} {k2_0_7 : Option Ret} {k2_1_8 : Int → Option Ret} (hl : (List.length x0_1) ≤ maxLen) {n : Nat} (hn : (List.length x0_1) < n) : slices_IndexFunc_Judge_impl_judgeAt_1_l2 N x0_1 x1_2 (List.length x0_1 : Int) n k2_0_7 k2_1_8 (0 : Int) =
    goL (fun (i : Nat) (x : QIILIE) (next : Option Ret) =>
        impl_judgeAt_1 N x x1_2 (fun (r16_6 : Bool) =>
          bif r16_6 then
            k2_1_8 (i : Int)
          else
            next)) (
        k2_0_7) x0_1 0 := by
  exact range0 (f := fun n i => slices_IndexFunc_Judge_impl_judgeAt_1_l2 N x0_1 x1_2 (List.length x0_1 : Int) n k2_0_7 k2_1_8 i) (l := x0_1) (fun n i h => by
    simp only [slices_IndexFunc_Judge_impl_judgeAt_1_l2]
    rw [decide_eq_true (show (i : Int) < (List.length x0_1 : Int) by omega)]
    simp only [cond_true, inB_nat h, Int.toNat_natCast, getD_nat _ i h]) (fun n => by
    simp only [slices_IndexFunc_Judge_impl_judgeAt_1_l2]
    rw [decide_eq_false (by omega)]
    simp only [cond_false]) hl x0_1 0 n rfl (by omega) hn
theorem impl_StepJudge_l5_r {x1_3 : Int} {x2_4 : Int} {x3_5 : QLQIIIIILIELQIILIELQIIELILQIIIELQIIIIEIE} {x6_6 : QLQIIIIILIELQIILIELQIIELILQIIIELQIIIIEIE} {x8_7 : QLQIIIIILIELQIILIELQIIELILQIIIELQIIIIEIE} {k5_0_10 : Int → Option Ret} (hl : (List.length x8_7.2.1) ≤ maxLen) {n : Nat} (hn : (List.length x8_7.2.1) < n) : impl_StepJudge_l5 x1_3 x2_4 x3_5 x6_6 x8_7 n k5_0_10 (0 : Int) =
    goL (fun (i : Nat) (x : _) (next : Option Ret) =>
        bif (decide (x.1 < x1_3)) then
          next
        else
          k5_0_10 (i : Int)) (
        k5_0_10 (List.length x8_7.2.1 : Int)) x8_7.2.1 0 := by
  exact range0 (f := fun n i => impl_StepJudge_l5 x1_3 x2_4 x3_5 x6_6 x8_7 n k5_0_10 i) (l := x8_7.2.1) (fun n i h => by
    simp only [impl_StepJudge_l5]
    rw [decide_eq_true (show (i : Int) < (List.length x8_7.2.1 : Int) by omega)]
    simp only [cond_true, inB_nat h, Int.toNat_natCast, getD_nat _ i h]) (fun n => by
    simp only [impl_StepJudge_l5]
    rw [decide_eq_false (by omega)]
    simp only [cond_false]) hl x8_7.2.1 0 n rfl (by omega) hn
end Go.Pv.R
