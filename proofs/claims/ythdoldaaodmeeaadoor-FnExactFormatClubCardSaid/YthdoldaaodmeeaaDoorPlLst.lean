/- Their loops over lists, without rounds. -/
import Derived.Test.YthdoldaaodmeeaaDoorPlRes
namespace Go.Pv.R
set_option linter.unusedVariables false
set_option linter.unusedSimpArgs false
theorem laws_toIntS_l3_r {x0_1 : (List Int)} {k3_0_5 : (List Int) → Option Ret} {x3_2 : (List Int)} (hl : (List.length x0_1) ≤ maxLen) {n : Nat} (hn : (List.length x0_1) < n) : laws_toIntS_l3 x0_1 n k3_0_5 x3_2 (0 : Int) =
    goL1 (fun (i : Nat) (x : Int) (x3_2 : (List Int)) (next : (List Int) → Option Ret) =>
        bif (inB (i : Int) (List.length x3_2)) then
          next (List.set x3_2 (Int.toNat (i : Int)) x)
        else none) (fun (x3_2 : (List Int)) =>
        k3_0_5 x3_2) x0_1 0 x3_2 := by
  exact range1 (f := fun n x3_2 i => laws_toIntS_l3 x0_1 n k3_0_5 x3_2 i) (l := x0_1) (fun n i x3_2 h => by
    simp only [laws_toIntS_l3]
    rw [decide_eq_true (show (i : Int) < (List.length x0_1 : Int) by omega)]
    simp only [cond_true, inB_nat h, Int.toNat_natCast, getD_nat _ i h]) (fun n x3_2 => by
    simp only [laws_toIntS_l3]
    rw [decide_eq_false (by omega)]
    simp only [cond_false]) hl x0_1 0 n x3_2 rfl (by omega) hn
theorem spec_l39Join_l3_r {x0_1 : (List ByteArray)} {k3_0_6 : ByteArray → Option Ret} {x3_2 : ByteArray} (hl : (List.length x0_1) ≤ maxLen) {n : Nat} (hn : (List.length x0_1) < n) : spec_l39Join_l3 x0_1 n k3_0_6 x3_2 (0 : Int) =
    goL1 (fun (i : Nat) (x : ByteArray) (x3_2 : ByteArray) (next : ByteArray → Option Ret) =>
        bif (decide ((i : Int) > (0 : Int))) then
          bif (decide (ByteArray.size x3_2 + ByteArray.size s_h20 ≤ 9223372036854775807)) then
            bif (decide (ByteArray.size (x3_2 ++ s_h20) + ByteArray.size x ≤ 9223372036854775807)) then
              next ((x3_2 ++ s_h20) ++ x)
            else none
          else none
        else
          bif (decide (ByteArray.size x3_2 + ByteArray.size x ≤ 9223372036854775807)) then
            next (x3_2 ++ x)
          else none) (fun (x3_2 : ByteArray) =>
        k3_0_6 x3_2) x0_1 0 x3_2 := by
  exact range1 (f := fun n x3_2 i => spec_l39Join_l3 x0_1 n k3_0_6 x3_2 i) (l := x0_1) (fun n i x3_2 h => by
    simp only [spec_l39Join_l3, spec_l39Join_j1]
    rw [decide_eq_true (show (i : Int) < (List.length x0_1 : Int) by omega)]
    simp only [cond_true, inB_nat h, Int.toNat_natCast, getD_nat _ i h]) (fun n x3_2 => by
    simp only [spec_l39Join_l3, spec_l39Join_j1]
    rw [decide_eq_false (by omega)]
    simp only [cond_false]) hl x0_1 0 n x3_2 rfl (by omega) hn
theorem spec_FormatNumbers_l3_r {N : Nat} {x0_1 : (List Int)} {k3_0_6 : (List ByteArray) → Option Ret} {x3_2 : (List ByteArray)} (hl : (List.length x0_1) ≤ maxLen) {n : Nat} (hn : (List.length x0_1) < n) : spec_FormatNumbers_l3 N x0_1 n k3_0_6 x3_2 (0 : Int) =
    goL1 (fun (i : Nat) (x : Int) (x3_2 : (List ByteArray)) (next : (List ByteArray) → Option Ret) =>
        spec_FormatInt N x (fun (r17_5 : ByteArray) =>
          bif (decide ((List.length x3_2 + List.length [r17_5]) * 1 ≤ 4398046511104)) then
            next (x3_2 ++ [r17_5])
          else none)) (fun (x3_2 : (List ByteArray)) =>
        k3_0_6 x3_2) x0_1 0 x3_2 := by
  exact range1 (f := fun n x3_2 i => spec_FormatNumbers_l3 N x0_1 n k3_0_6 x3_2 i) (l := x0_1) (fun n i x3_2 h => by
    simp only [spec_FormatNumbers_l3]
    rw [decide_eq_true (show (i : Int) < (List.length x0_1 : Int) by omega)]
    simp only [cond_true, inB_nat h, Int.toNat_natCast, getD_nat _ i h]) (fun n x3_2 => by
    simp only [spec_FormatNumbers_l3]
    rw [decide_eq_false (by omega)]
    simp only [cond_false]) hl x0_1 0 n x3_2 rfl (by omega) hn
theorem impl_FormatNumbers_l3_r {N : Nat} {x7_2 : (List Int)} {k3_0_7 : (List ByteArray) → Option Ret} {x3_1 : (List ByteArray)} (hl : (List.length x7_2) ≤ maxLen) {n : Nat} (hn : (List.length x7_2) < n) : impl_FormatNumbers_l3 N x7_2 (List.length x7_2 : Int) n k3_0_7 x3_1 (0 : Int) =
    goL1 (fun (i : Nat) (x : Int) (x3_1 : (List ByteArray)) (next : (List ByteArray) → Option Ret) =>
        impl_FormatInt N x (fun (r15_6 : ByteArray) =>
          bif (decide ((List.length x3_1 + List.length [r15_6]) * 1 ≤ 4398046511104)) then
            next (x3_1 ++ [r15_6])
          else none)) (fun (x3_1 : (List ByteArray)) =>
        k3_0_7 x3_1) x7_2 0 x3_1 := by
  exact range1 (f := fun n x3_1 i => impl_FormatNumbers_l3 N x7_2 (List.length x7_2 : Int) n k3_0_7 x3_1 i) (l := x7_2) (fun n i x3_1 h => by
    simp only [impl_FormatNumbers_l3]
    rw [decide_eq_true (show (i : Int) < (List.length x7_2 : Int) by omega)]
    simp only [cond_true, inB_nat h, Int.toNat_natCast, getD_nat _ i h]) (fun n x3_1 => by
    simp only [impl_FormatNumbers_l3]
    rw [decide_eq_false (by omega)]
    simp only [cond_false]) hl x7_2 0 n x3_1 rfl (by omega) hn
theorem laws_eqIntS_l4_r {x0_1 : (List Int)} {x1_2 : (List Int)} {k4_0_5 : Option Ret} {k4_1_6 : Bool → Option Ret} (hl : (List.length x0_1) ≤ maxLen) {n : Nat} (hn : (List.length x0_1) < n) : laws_eqIntS_l4 x0_1 x1_2 n k4_0_5 k4_1_6 (0 : Int) =
    goL (fun (i : Nat) (x : Int) (next : Option Ret) =>
        bif (inB (i : Int) (List.length x1_2)) then
          bif (x != (List.getD x1_2 (Int.toNat (i : Int)) (0 : Int))) then
            k4_1_6 false
          else
            next
        else none) (
        k4_0_5) x0_1 0 := by
  exact range0 (f := fun n i => laws_eqIntS_l4 x0_1 x1_2 n k4_0_5 k4_1_6 i) (l := x0_1) (fun n i h => by
    simp only [laws_eqIntS_l4]
    rw [decide_eq_true (show (i : Int) < (List.length x0_1 : Int) by omega)]
    simp only [cond_true, inB_nat h, Int.toNat_natCast, getD_nat _ i h]) (fun n => by
    simp only [laws_eqIntS_l4]
    rw [decide_eq_false (by omega)]
    simp only [cond_false]) hl x0_1 0 n rfl (by omega) hn
theorem laws_toPairS_l3_r {N : Nat} {x0_1 : (List QIIE)} {k3_0_6 : (List QIIE) → Option Ret} {x3_2 : (List QIIE)} (hl : (List.length x0_1) ≤ maxLen) {n : Nat} (hn : (List.length x0_1) < n) : laws_toPairS_l3 N x0_1 n k3_0_6 x3_2 (0 : Int) =
    goL1 (fun (i : Nat) (x : QIIE) (x3_2 : (List QIIE)) (next : (List QIIE) → Option Ret) =>
        laws_toPair N x (fun (r20_5 : QIIE) =>
          bif (inB (i : Int) (List.length x3_2)) then
            next (List.set x3_2 (Int.toNat (i : Int)) r20_5)
          else none)) (fun (x3_2 : (List QIIE)) =>
        k3_0_6 x3_2) x0_1 0 x3_2 := by
  exact range1 (f := fun n x3_2 i => laws_toPairS_l3 N x0_1 n k3_0_6 x3_2 i) (l := x0_1) (fun n i x3_2 h => by
    simp only [laws_toPairS_l3]
    rw [decide_eq_true (show (i : Int) < (List.length x0_1 : Int) by omega)]
    simp only [cond_true, inB_nat h, Int.toNat_natCast, getD_nat _ i h]) (fun n x3_2 => by
    simp only [laws_toPairS_l3]
    rw [decide_eq_false (by omega)]
    simp only [cond_false]) hl x0_1 0 n x3_2 rfl (by omega) hn
theorem laws_eqPairS_l4_r {N : Nat} {x0_1 : (List QIIE)} {x1_2 : (List QIIE)} {k4_0_6 : Option Ret} {k4_1_7 : Bool → Option Ret} (hl : (List.length x0_1) ≤ maxLen) {n : Nat} (hn : (List.length x0_1) < n) : laws_eqPairS_l4 N x0_1 x1_2 n k4_0_6 k4_1_7 (0 : Int) =
    goL (fun (i : Nat) (x : QIIE) (next : Option Ret) =>
        bif (inB (i : Int) (List.length x1_2)) then
          laws_eqPair N x (List.getD x1_2 (Int.toNat (i : Int)) zQIIE) (fun (r25_5 : Bool) =>
            bif (!r25_5) then
              k4_1_7 false
            else
              next)
        else none) (
        k4_0_6) x0_1 0 := by
  exact range0 (f := fun n i => laws_eqPairS_l4 N x0_1 x1_2 n k4_0_6 k4_1_7 i) (l := x0_1) (fun n i h => by
    simp only [laws_eqPairS_l4]
    rw [decide_eq_true (show (i : Int) < (List.length x0_1 : Int) by omega)]
    simp only [cond_true, inB_nat h, Int.toNat_natCast, getD_nat _ i h]) (fun n => by
    simp only [laws_eqPairS_l4]
    rw [decide_eq_false (by omega)]
    simp only [cond_false]) hl x0_1 0 n rfl (by omega) hn
theorem laws_szTeamS_l5_r {N : Nat} {x0_1 : (List QIIIIILIE)} {k5_0_6 : Int → Option Ret} {k5_1_7 : Int → Option Ret} {x1_2 : Int} (hl : (List.length x0_1) ≤ maxLen) {n : Nat} (hn : (List.length x0_1) < n) : laws_szTeamS_l5 N x0_1 n k5_0_6 k5_1_7 x1_2 (0 : Int) =
    goL1 (fun (i : Nat) (x : QIIIIILIE) (x1_2 : Int) (next : Int → Option Ret) =>
        laws_szTeam N x x1_2 (fun (r23_5 : Int) =>
          bif (decide (r23_5 < (0 : Int))) then
            k5_1_7 (-1 : Int)
          else
            next r23_5)) (fun (x1_2 : Int) =>
        k5_0_6 x1_2) x0_1 0 x1_2 := by
  exact range1 (f := fun n x1_2 i => laws_szTeamS_l5 N x0_1 n k5_0_6 k5_1_7 x1_2 i) (l := x0_1) (fun n i x1_2 h => by
    simp only [laws_szTeamS_l5]
    rw [decide_eq_true (show (i : Int) < (List.length x0_1 : Int) by omega)]
    simp only [cond_true, inB_nat h, Int.toNat_natCast, getD_nat _ i h]) (fun n x1_2 => by
    simp only [laws_szTeamS_l5]
    rw [decide_eq_false (by omega)]
    simp only [cond_false]) hl x0_1 0 n x1_2 rfl (by omega) hn
theorem laws_toTeamS_l3_r {N : Nat} {x0_1 : (List QIIIIILIE)} {k3_0_6 : (List QIIIIILIE) → Option Ret} {x3_2 : (List QIIIIILIE)} (hl : (List.length x0_1) ≤ maxLen) {n : Nat} (hn : (List.length x0_1) < n) : laws_toTeamS_l3 N x0_1 n k3_0_6 x3_2 (0 : Int) =
    goL1 (fun (i : Nat) (x : QIIIIILIE) (x3_2 : (List QIIIIILIE)) (next : (List QIIIIILIE) → Option Ret) =>
        laws_toTeam N x (fun (r20_5 : QIIIIILIE) =>
          bif (inB (i : Int) (List.length x3_2)) then
            next (List.set x3_2 (Int.toNat (i : Int)) r20_5)
          else none)) (fun (x3_2 : (List QIIIIILIE)) =>
        k3_0_6 x3_2) x0_1 0 x3_2 := by
  exact range1 (f := fun n x3_2 i => laws_toTeamS_l3 N x0_1 n k3_0_6 x3_2 i) (l := x0_1) (fun n i x3_2 h => by
    simp only [laws_toTeamS_l3]
    rw [decide_eq_true (show (i : Int) < (List.length x0_1 : Int) by omega)]
    simp only [cond_true, inB_nat h, Int.toNat_natCast, getD_nat _ i h]) (fun n x3_2 => by
    simp only [laws_toTeamS_l3]
    rw [decide_eq_false (by omega)]
    simp only [cond_false]) hl x0_1 0 n x3_2 rfl (by omega) hn
theorem laws_eqTeamS_l4_r {N : Nat} {x0_1 : (List QIIIIILIE)} {x1_2 : (List QIIIIILIE)} {k4_0_6 : Option Ret} {k4_1_7 : Bool → Option Ret} (hl : (List.length x0_1) ≤ maxLen) {n : Nat} (hn : (List.length x0_1) < n) : laws_eqTeamS_l4 N x0_1 x1_2 n k4_0_6 k4_1_7 (0 : Int) =
    goL (fun (i : Nat) (x : QIIIIILIE) (next : Option Ret) =>
        bif (inB (i : Int) (List.length x1_2)) then
          laws_eqTeam N x (List.getD x1_2 (Int.toNat (i : Int)) zQIIIIILIE) (fun (r25_5 : Bool) =>
            bif (!r25_5) then
              k4_1_7 false
            else
              next)
        else none) (
        k4_0_6) x0_1 0 := by
  exact range0 (f := fun n i => laws_eqTeamS_l4 N x0_1 x1_2 n k4_0_6 k4_1_7 i) (l := x0_1) (fun n i h => by
    simp only [laws_eqTeamS_l4]
    rw [decide_eq_true (show (i : Int) < (List.length x0_1 : Int) by omega)]
    simp only [cond_true, inB_nat h, Int.toNat_natCast, getD_nat _ i h]) (fun n => by
    simp only [laws_eqTeamS_l4]
    rw [decide_eq_false (by omega)]
    simp only [cond_false]) hl x0_1 0 n rfl (by omega) hn
theorem laws_szJudgeS_l5_r {N : Nat} {x0_1 : (List QIILIE)} {k5_0_6 : Int → Option Ret} {k5_1_7 : Int → Option Ret} {x1_2 : Int} (hl : (List.length x0_1) ≤ maxLen) {n : Nat} (hn : (List.length x0_1) < n) : laws_szJudgeS_l5 N x0_1 n k5_0_6 k5_1_7 x1_2 (0 : Int) =
    goL1 (fun (i : Nat) (x : QIILIE) (x1_2 : Int) (next : Int → Option Ret) =>
        laws_szJudge N x x1_2 (fun (r23_5 : Int) =>
          bif (decide (r23_5 < (0 : Int))) then
            k5_1_7 (-1 : Int)
          else
            next r23_5)) (fun (x1_2 : Int) =>
        k5_0_6 x1_2) x0_1 0 x1_2 := by
  exact range1 (f := fun n x1_2 i => laws_szJudgeS_l5 N x0_1 n k5_0_6 k5_1_7 x1_2 i) (l := x0_1) (fun n i x1_2 h => by
    simp only [laws_szJudgeS_l5]
    rw [decide_eq_true (show (i : Int) < (List.length x0_1 : Int) by omega)]
    simp only [cond_true, inB_nat h, Int.toNat_natCast, getD_nat _ i h]) (fun n x1_2 => by
    simp only [laws_szJudgeS_l5]
    rw [decide_eq_false (by omega)]
    simp only [cond_false]) hl x0_1 0 n x1_2 rfl (by omega) hn
theorem laws_toJudgeS_l3_r {N : Nat} {x0_1 : (List QIILIE)} {k3_0_6 : (List QIILIE) → Option Ret} {x3_2 : (List QIILIE)} (hl : (List.length x0_1) ≤ maxLen) {n : Nat} (hn : (List.length x0_1) < n) : laws_toJudgeS_l3 N x0_1 n k3_0_6 x3_2 (0 : Int) =
    goL1 (fun (i : Nat) (x : QIILIE) (x3_2 : (List QIILIE)) (next : (List QIILIE) → Option Ret) =>
        laws_toJudge N x (fun (r20_5 : QIILIE) =>
          bif (inB (i : Int) (List.length x3_2)) then
            next (List.set x3_2 (Int.toNat (i : Int)) r20_5)
          else none)) (fun (x3_2 : (List QIILIE)) =>
        k3_0_6 x3_2) x0_1 0 x3_2 := by
  exact range1 (f := fun n x3_2 i => laws_toJudgeS_l3 N x0_1 n k3_0_6 x3_2 i) (l := x0_1) (fun n i x3_2 h => by
    simp only [laws_toJudgeS_l3]
    rw [decide_eq_true (show (i : Int) < (List.length x0_1 : Int) by omega)]
    simp only [cond_true, inB_nat h, Int.toNat_natCast, getD_nat _ i h]) (fun n x3_2 => by
    simp only [laws_toJudgeS_l3]
    rw [decide_eq_false (by omega)]
    simp only [cond_false]) hl x0_1 0 n x3_2 rfl (by omega) hn
theorem laws_toBallotS_l3_r {N : Nat} {x0_1 : (List QIIIE)} {k3_0_6 : (List QIIIE) → Option Ret} {x3_2 : (List QIIIE)} (hl : (List.length x0_1) ≤ maxLen) {n : Nat} (hn : (List.length x0_1) < n) : laws_toBallotS_l3 N x0_1 n k3_0_6 x3_2 (0 : Int) =
    goL1 (fun (i : Nat) (x : QIIIE) (x3_2 : (List QIIIE)) (next : (List QIIIE) → Option Ret) =>
        laws_toBallot N x (fun (r20_5 : QIIIE) =>
          bif (inB (i : Int) (List.length x3_2)) then
            next (List.set x3_2 (Int.toNat (i : Int)) r20_5)
          else none)) (fun (x3_2 : (List QIIIE)) =>
        k3_0_6 x3_2) x0_1 0 x3_2 := by
  exact range1 (f := fun n x3_2 i => laws_toBallotS_l3 N x0_1 n k3_0_6 x3_2 i) (l := x0_1) (fun n i x3_2 h => by
    simp only [laws_toBallotS_l3]
    rw [decide_eq_true (show (i : Int) < (List.length x0_1 : Int) by omega)]
    simp only [cond_true, inB_nat h, Int.toNat_natCast, getD_nat _ i h]) (fun n x3_2 => by
    simp only [laws_toBallotS_l3]
    rw [decide_eq_false (by omega)]
    simp only [cond_false]) hl x0_1 0 n x3_2 rfl (by omega) hn
theorem laws_toLineS_l3_r {N : Nat} {x0_1 : (List QIIIIE)} {k3_0_6 : (List QIIIIE) → Option Ret} {x3_2 : (List QIIIIE)} (hl : (List.length x0_1) ≤ maxLen) {n : Nat} (hn : (List.length x0_1) < n) : laws_toLineS_l3 N x0_1 n k3_0_6 x3_2 (0 : Int) =
    goL1 (fun (i : Nat) (x : QIIIIE) (x3_2 : (List QIIIIE)) (next : (List QIIIIE) → Option Ret) =>
        laws_toLine N x (fun (r20_5 : QIIIIE) =>
          bif (inB (i : Int) (List.length x3_2)) then
            next (List.set x3_2 (Int.toNat (i : Int)) r20_5)
          else none)) (fun (x3_2 : (List QIIIIE)) =>
        k3_0_6 x3_2) x0_1 0 x3_2 := by
  exact range1 (f := fun n x3_2 i => laws_toLineS_l3 N x0_1 n k3_0_6 x3_2 i) (l := x0_1) (fun n i x3_2 h => by
    simp only [laws_toLineS_l3]
    rw [decide_eq_true (show (i : Int) < (List.length x0_1 : Int) by omega)]
    simp only [cond_true, inB_nat h, Int.toNat_natCast, getD_nat _ i h]) (fun n x3_2 => by
    simp only [laws_toLineS_l3]
    rw [decide_eq_false (by omega)]
    simp only [cond_false]) hl x0_1 0 n x3_2 rfl (by omega) hn
theorem spec_Waiting_l4_r {x1_1 : QLQIIIIILIELQIILIELQIIELILQIIIELQIIIIEIE} {x4_3 : QIIIE} {k4_0_7 : (List Int) → Option Ret} {x3_2 : (List Int)} (hl : (List.length x1_1.2.2.2.2.1) ≤ maxLen) {n : Nat} (hn : (List.length x1_1.2.2.2.2.1) < n) : spec_Waiting_l4 x1_1 x4_3 n k4_0_7 x3_2 (0 : Int) =
    goL1 (fun (i : Nat) (x : _) (x3_2 : (List Int)) (next : (List Int) → Option Ret) =>
        bif ((decide ((x.1 : Int) = x4_3.1)) && ((decide ((x.2.1 : Int) = x4_3.2.1)) && (decide ((x.2.2 : Int) = x4_3.2.2)))) then
          bif (decide ((List.length x3_2 + List.length [(i : Int)]) * 1 ≤ 4398046511104)) then
            next (x3_2 ++ [(i : Int)])
          else none
        else
          next x3_2) (fun (x3_2 : (List Int)) =>
        k4_0_7 x3_2) x1_1.2.2.2.2.1 0 x3_2 := by
  exact range1 (f := fun n x3_2 i => spec_Waiting_l4 x1_1 x4_3 n k4_0_7 x3_2 i) (l := x1_1.2.2.2.2.1) (fun n i x3_2 h => by
    simp only [spec_Waiting_l4]
    rw [decide_eq_true (show (i : Int) < (List.length x1_1.2.2.2.2.1 : Int) by omega)]
    simp only [cond_true, inB_nat h, Int.toNat_natCast, getD_nat _ i h]) (fun n x3_2 => by
    simp only [spec_Waiting_l4]
    rw [decide_eq_false (by omega)]
    simp only [cond_false]) hl x1_1.2.2.2.2.1 0 n x3_2 rfl (by omega) hn
theorem impl_Waiting_l3_r {x8_2 : (List QIIIE)} {k3_0_7 : (List Int) → Option Ret} {x3_1 : (List Int)} (hl : (List.length x8_2) ≤ maxLen) {n : Nat} (hn : (List.length x8_2) < n) : impl_Waiting_l3 x8_2 (List.length x8_2 : Int) n k3_0_7 x3_1 (0 : Int) =
    goL1 (fun (i : Nat) (x : QIIIE) (x3_1 : (List Int)) (next : (List Int) → Option Ret) =>
        bif ((decide ((x.1 : Int) = (0 : Int))) && ((decide ((x.2.1 : Int) = (0 : Int))) && (decide ((x.2.2 : Int) = (0 : Int))))) then
          bif (decide ((List.length x3_1 + List.length [(i : Int)]) * 1 ≤ 4398046511104)) then
            next (x3_1 ++ [(i : Int)])
          else none
        else
          next x3_1) (fun (x3_1 : (List Int)) =>
        k3_0_7 x3_1) x8_2 0 x3_1 := by
  exact range1 (f := fun n x3_1 i => impl_Waiting_l3 x8_2 (List.length x8_2 : Int) n k3_0_7 x3_1 i) (l := x8_2) (fun n i x3_1 h => by
    simp only [impl_Waiting_l3]
    rw [decide_eq_true (show (i : Int) < (List.length x8_2 : Int) by omega)]
    simp only [cond_true, inB_nat h, Int.toNat_natCast, getD_nat _ i h]) (fun n x3_1 => by
    simp only [impl_Waiting_l3]
    rw [decide_eq_false (by omega)]
    simp only [cond_false]) hl x8_2 0 n x3_1 rfl (by omega) hn
theorem laws_eqJudgeS_l4_r {N : Nat} {x0_1 : (List QIILIE)} {x1_2 : (List QIILIE)} {k4_0_6 : Option Ret} {k4_1_7 : Bool → Option Ret} (hl : (List.length x0_1) ≤ maxLen) {n : Nat} (hn : (List.length x0_1) < n) : laws_eqJudgeS_l4 N x0_1 x1_2 n k4_0_6 k4_1_7 (0 : Int) =
    goL (fun (i : Nat) (x : QIILIE) (next : Option Ret) =>
        bif (inB (i : Int) (List.length x1_2)) then
          laws_eqJudge N x (List.getD x1_2 (Int.toNat (i : Int)) zQIILIE) (fun (r25_5 : Bool) =>
            bif (!r25_5) then
              k4_1_7 false
            else
              next)
        else none) (
        k4_0_6) x0_1 0 := by
  exact range0 (f := fun n i => laws_eqJudgeS_l4 N x0_1 x1_2 n k4_0_6 k4_1_7 i) (l := x0_1) (fun n i h => by
    simp only [laws_eqJudgeS_l4]
    rw [decide_eq_true (show (i : Int) < (List.length x0_1 : Int) by omega)]
    simp only [cond_true, inB_nat h, Int.toNat_natCast, getD_nat _ i h]) (fun n => by
    simp only [laws_eqJudgeS_l4]
    rw [decide_eq_false (by omega)]
    simp only [cond_false]) hl x0_1 0 n rfl (by omega) hn
theorem laws_eqBallotS_l4_r {N : Nat} {x0_1 : (List QIIIE)} {x1_2 : (List QIIIE)} {k4_0_6 : Option Ret} {k4_1_7 : Bool → Option Ret} (hl : (List.length x0_1) ≤ maxLen) {n : Nat} (hn : (List.length x0_1) < n) : laws_eqBallotS_l4 N x0_1 x1_2 n k4_0_6 k4_1_7 (0 : Int) =
    goL (fun (i : Nat) (x : QIIIE) (next : Option Ret) =>
        bif (inB (i : Int) (List.length x1_2)) then
          laws_eqBallot N x (List.getD x1_2 (Int.toNat (i : Int)) zQIIIE) (fun (r25_5 : Bool) =>
            bif (!r25_5) then
              k4_1_7 false
            else
              next)
        else none) (
        k4_0_6) x0_1 0 := by
  exact range0 (f := fun n i => laws_eqBallotS_l4 N x0_1 x1_2 n k4_0_6 k4_1_7 i) (l := x0_1) (fun n i h => by
    simp only [laws_eqBallotS_l4]
    rw [decide_eq_true (show (i : Int) < (List.length x0_1 : Int) by omega)]
    simp only [cond_true, inB_nat h, Int.toNat_natCast, getD_nat _ i h]) (fun n => by
    simp only [laws_eqBallotS_l4]
    rw [decide_eq_false (by omega)]
    simp only [cond_false]) hl x0_1 0 n rfl (by omega) hn
theorem laws_eqLineS_l4_r {N : Nat} {x0_1 : (List QIIIIE)} {x1_2 : (List QIIIIE)} {k4_0_6 : Option Ret} {k4_1_7 : Bool → Option Ret} (hl : (List.length x0_1) ≤ maxLen) {n : Nat} (hn : (List.length x0_1) < n) : laws_eqLineS_l4 N x0_1 x1_2 n k4_0_6 k4_1_7 (0 : Int) =
    goL (fun (i : Nat) (x : QIIIIE) (next : Option Ret) =>
        bif (inB (i : Int) (List.length x1_2)) then
          laws_eqLine N x (List.getD x1_2 (Int.toNat (i : Int)) zQIIIIE) (fun (r25_5 : Bool) =>
            bif (!r25_5) then
              k4_1_7 false
            else
              next)
        else none) (
        k4_0_6) x0_1 0 := by
  exact range0 (f := fun n i => laws_eqLineS_l4 N x0_1 x1_2 n k4_0_6 k4_1_7 i) (l := x0_1) (fun n i h => by
    simp only [laws_eqLineS_l4]
    rw [decide_eq_true (show (i : Int) < (List.length x0_1 : Int) by omega)]
    simp only [cond_true, inB_nat h, Int.toNat_natCast, getD_nat _ i h]) (fun n => by
    simp only [laws_eqLineS_l4]
    rw [decide_eq_false (by omega)]
    simp only [cond_false]) hl x0_1 0 n rfl (by omega) hn
end Go.Pv.R
