/- Their loops over lists, without rounds. -/
import Derived.Test.YthdoldaaodmeeaaDoorPlRes
namespace Go.Pv.R
set_option linter.unusedVariables false
set_option linter.unusedSimpArgs false
theorem laws_toIntS_l3_r {x0_1 : (List Int)} {k3_0_5 : (List Int) → Option Ret} {x3_2 : (List Int)} (hl : (List.length x0_1) ≤ maxLen) {n : Nat} (hn : (List.length x0_1) < n) : laws_toIntS_l3 x0_1 n k3_0_5 x3_2 (0 : Int) =
    goL1 (fun (i : Nat) (x : Int) (x3_2 : (List Int)) (next : (List Int) → Option Ret) =>
        bif (inB (i : Int) (List.length x3_2)) then
          next (List.set x3_2 (Int.toNat (i : Int)) x)
        else none) (fun (x3_2 : (List Int)) =>
        k3_0_5 x3_2) x0_1 0 x3_2 := by
  exact range1 (f := fun n x3_2 i => laws_toIntS_l3 x0_1 n k3_0_5 x3_2 i) (l := x0_1) (fun n i x3_2 h => by
    simp only [laws_toIntS_l3]
    rw [decide_eq_true (show (i : Int) < (List.length x0_1 : Int) by omega)]
    simp only [cond_true, inB_nat h, Int.toNat_natCast, getD_nat _ i h]) (fun n x3_2 => by
    simp only [laws_toIntS_l3]
    rw [decide_eq_false (by omega)]
    simp only [cond_false]) hl x0_1 0 n x3_2 rfl (by omega) hn
theorem spec_l39Join_l3_r {x0_1 : (List ByteArray)} {k3_0_6 : ByteArray → Option Ret} {x3_2 : ByteArray} (hl : (List.length x0_1) ≤ maxLen) {n : Nat} (hn : (List.length x0_1) < n) : spec_l39Join_l3 x0_1 n k3_0_6 x3_2 (0 : Int) =
    goL1 (fun (i : Nat) (x : ByteArray) (x3_2 : ByteArray) (next : ByteArray → Option Ret) =>
        bif (decide ((i : Int) > (0 : Int))) then
          bif (decide (ByteArray.size x3_2 + ByteArray.size s_h20 ≤ 9223372036854775807)) then
            bif (decide (ByteArray.size (x3_2 ++ s_h20) + ByteArray.size x ≤ 9223372036854775807)) then
              next ((x3_2 ++ s_h20) ++ x)
            else none
          else none
        else
          bif (decide (ByteArray.size x3_2 + ByteArray.size x ≤ 9223372036854775807)) then
            next (x3_2 ++ x)
          else none) (fun (x3_2 : ByteArray) =>
        k3_0_6 x3_2) x0_1 0 x3_2 := by
  exact range1 (f := fun n x3_2 i => spec_l39Join_l3 x0_1 n k3_0_6 x3_2 i) (l := x0_1) (fun n i x3_2 h => by
    simp only [spec_l39Join_l3, spec_l39Join_j1]
    rw [decide_eq_true (show (i : Int) < (List.length x0_1 : Int) by omega)]
    simp only [cond_true, inB_nat h, Int.toNat_natCast, getD_nat _ i h]) (fun n x3_2 => by
    simp only [spec_l39Join_l3, spec_l39Join_j1]
    rw [decide_eq_false (by omega)]
    simp only [cond_false]) hl x0_1 0 n x3_2 rfl (by omega) hn
theorem laws_eqIntS_l4_r {x0_1 : (List Int)} {x1_2 : (List Int)} {k4_0_5 : Option Ret} {k4_1_6 : Bool → Option Ret} (hl : (List.length x0_1) ≤ maxLen) {n : Nat} (hn : (List.length x0_1) < n) : laws_eqIntS_l4 x0_1 x1_2 n k4_0_5 k4_1_6 (0 : Int) =
    goL (fun (i : Nat) (x : Int) (next : Option Ret) =>
        bif (inB (i : Int) (List.length x1_2)) then
          bif (x != (List.getD x1_2 (Int.toNat (i : Int)) (0 : Int))) then
            k4_1_6 false
          else
            next
        else none) (
        k4_0_5) x0_1 0 := by
  exact range0 (f := fun n i => laws_eqIntS_l4 x0_1 x1_2 n k4_0_5 k4_1_6 i) (l := x0_1) (fun n i h => by
    simp only [laws_eqIntS_l4]
    rw [decide_eq_true (show (i : Int) < (List.length x0_1 : Int) by omega)]
    simp only [cond_true, inB_nat h, Int.toNat_natCast, getD_nat _ i h]) (fun n => by
    simp only [laws_eqIntS_l4]
    rw [decide_eq_false (by omega)]
    simp only [cond_false]) hl x0_1 0 n rfl (by omega) hn
theorem laws_szTeamS_l5_r {N : Nat} {x0_1 : (List QIIIIILIE)} {k5_0_6 : Int → Option Ret} {k5_1_7 : Int → Option Ret} {x1_2 : Int} (hl : (List.length x0_1) ≤ maxLen) {n : Nat} (hn : (List.length x0_1) < n) : laws_szTeamS_l5 N x0_1 n k5_0_6 k5_1_7 x1_2 (0 : Int) =
    goL1 (fun (i : Nat) (x : QIIIIILIE) (x1_2 : Int) (next : Int → Option Ret) =>
        laws_szTeam N x x1_2 (fun (r23_5 : Int) =>
          bif (decide (r23_5 < (0 : Int))) then
            k5_1_7 (-1 : Int)
          else
            next r23_5)) (fun (x1_2 : Int) =>
        k5_0_6 x1_2) x0_1 0 x1_2 := by
  exact range1 (f := fun n x1_2 i => laws_szTeamS_l5 N x0_1 n k5_0_6 k5_1_7 x1_2 i) (l := x0_1) (fun n i x1_2 h => by
    simp only [laws_szTeamS_l5]
    rw [decide_eq_true (show (i : Int) < (List.length x0_1 : Int) by omega)]
    simp only [cond_true, inB_nat h, Int.toNat_natCast, getD_nat _ i h]) (fun n x1_2 => by
    simp only [laws_szTeamS_l5]
    rw [decide_eq_false (by omega)]
    simp only [cond_false]) hl x0_1 0 n x1_2 rfl (by omega) hn
theorem laws_toTeamS_l3_r {N : Nat} {x0_1 : (List QIIIIILIE)} {k3_0_6 : (List QIIIIILIE) → Option Ret} {x3_2 : (List QIIIIILIE)} (hl : (List.length x0_1) ≤ maxLen) {n : Nat} (hn : (List.length x0_1) < n) : laws_toTeamS_l3 N x0_1 n k3_0_6 x3_2 (0 : Int) =
    goL1 (fun (i : Nat) (x : QIIIIILIE) (x3_2 : (List QIIIIILIE)) (next : (List QIIIIILIE) → Option Ret) =>
        laws_toTeam N x (fun (r20_5 : QIIIIILIE) =>
          bif (inB (i : Int) (List.length x3_2)) then
            next (List.set x3_2 (Int.toNat (i : Int)) r20_5)
          else none)) (fun (x3_2 : (List QIIIIILIE)) =>
        k3_0_6 x3_2) x0_1 0 x3_2 := by
  exact range1 (f := fun n x3_2 i => laws_toTeamS_l3 N x0_1 n k3_0_6 x3_2 i) (l := x0_1) (fun n i x3_2 h => by
    simp only [laws_toTeamS_l3]
    rw [decide_eq_true (show (i : Int) < (List.length x0_1 : Int) by omega)]
    simp only [cond_true, inB_nat h, Int.toNat_natCast, getD_nat _ i h]) (fun n x3_2 => by
    simp only [laws_toTeamS_l3]
    rw [decide_eq_false (by omega)]
    simp only [cond_false]) hl x0_1 0 n x3_2 rfl (by omega) hn
theorem spec_FormatTeams_l3_r {N : Nat} {x0_1 : (List QIIIIILIE)} {k3_0_9 : (List ByteArray) → Option Ret} {x3_2 : (List ByteArray)} (hl : (List.length x0_1) ≤ maxLen) {n : Nat} (hn : (List.length x0_1) < n) : spec_FormatTeams_l3 N x0_1 n k3_0_9 x3_2 (0 : Int) =
    goL1 (fun (i : Nat) (x : QIIIIILIE) (x3_2 : (List ByteArray)) (next : (List ByteArray) → Option Ret) =>
        spec_FormatInt N x.1 (fun (r18_5 : ByteArray) =>
          bif (decide (ByteArray.size r18_5 + ByteArray.size s_h3a ≤ 9223372036854775807)) then
            spec_FormatInt N x.2.2.1 (fun (r25_6 : ByteArray) =>
              bif (decide (ByteArray.size (r18_5 ++ s_h3a) + ByteArray.size r25_6 ≤ 9223372036854775807)) then
                bif (decide (ByteArray.size ((r18_5 ++ s_h3a) ++ r25_6) + ByteArray.size s_h2f ≤ 9223372036854775807)) then
                  spec_FormatInt N (List.length x.2.2.2.2.2 : Int) (fun (r34_7 : ByteArray) =>
                    bif (decide (ByteArray.size (((r18_5 ++ s_h3a) ++ r25_6) ++ s_h2f) + ByteArray.size r34_7 ≤ 9223372036854775807)) then
                      bif (decide (ByteArray.size ((((r18_5 ++ s_h3a) ++ r25_6) ++ s_h2f) ++ r34_7) + ByteArray.size s_h3d ≤ 9223372036854775807)) then
                        spec_FormatInt N x.2.2.2.1 (fun (r42_8 : ByteArray) =>
                          bif (decide (ByteArray.size (((((r18_5 ++ s_h3a) ++ r25_6) ++ s_h2f) ++ r34_7) ++ s_h3d) + ByteArray.size r42_8 ≤ 9223372036854775807)) then
                            bif (decide ((List.length x3_2 + List.length [((((((r18_5 ++ s_h3a) ++ r25_6) ++ s_h2f) ++ r34_7) ++ s_h3d) ++ r42_8)]) * 1 ≤ 4398046511104)) then
                              next (x3_2 ++ [((((((r18_5 ++ s_h3a) ++ r25_6) ++ s_h2f) ++ r34_7) ++ s_h3d) ++ r42_8)])
                            else none
                          else none)
                      else none
                    else none)
                else none
              else none)
          else none)) (fun (x3_2 : (List ByteArray)) =>
        k3_0_9 x3_2) x0_1 0 x3_2 := by
  exact range1 (f := fun n x3_2 i => spec_FormatTeams_l3 N x0_1 n k3_0_9 x3_2 i) (l := x0_1) (fun n i x3_2 h => by
    simp only [spec_FormatTeams_l3]
    rw [decide_eq_true (show (i : Int) < (List.length x0_1 : Int) by omega)]
    simp only [cond_true, inB_nat h, Int.toNat_natCast, getD_nat _ i h]) (fun n x3_2 => by
    simp only [spec_FormatTeams_l3]
    rw [decide_eq_false (by omega)]
    simp only [cond_false]) hl x0_1 0 n x3_2 rfl (by omega) hn
theorem impl_FormatTeams_l3_r {N : Nat} {x7_2 : (List QIIIIILIE)} {k3_0_10 : (List ByteArray) → Option Ret} {x3_1 : (List ByteArray)} (hl : (List.length x7_2) ≤ maxLen) {n : Nat} (hn : (List.length x7_2) < n) : impl_FormatTeams_l3 N x7_2 (List.length x7_2 : Int) n k3_0_10 x3_1 (0 : Int) =
    goL1 (fun (i : Nat) (x : QIIIIILIE) (x3_1 : (List ByteArray)) (next : (List ByteArray) → Option Ret) =>
        impl_FormatInt N x.1 (fun (r16_6 : ByteArray) =>
          bif (decide (ByteArray.size r16_6 + ByteArray.size s_h3a ≤ 9223372036854775807)) then
            impl_FormatInt N x.2.2.1 (fun (r20_7 : ByteArray) =>
              bif (decide (ByteArray.size (r16_6 ++ s_h3a) + ByteArray.size r20_7 ≤ 9223372036854775807)) then
                bif (decide (ByteArray.size ((r16_6 ++ s_h3a) ++ r20_7) + ByteArray.size s_h2f ≤ 9223372036854775807)) then
                  impl_FormatInt N (List.length x.2.2.2.2.2 : Int) (fun (r26_8 : ByteArray) =>
                    bif (decide (ByteArray.size (((r16_6 ++ s_h3a) ++ r20_7) ++ s_h2f) + ByteArray.size r26_8 ≤ 9223372036854775807)) then
                      bif (decide (ByteArray.size ((((r16_6 ++ s_h3a) ++ r20_7) ++ s_h2f) ++ r26_8) + ByteArray.size s_h3d ≤ 9223372036854775807)) then
                        impl_FormatInt N x.2.2.2.1 (fun (r31_9 : ByteArray) =>
                          bif (decide (ByteArray.size (((((r16_6 ++ s_h3a) ++ r20_7) ++ s_h2f) ++ r26_8) ++ s_h3d) + ByteArray.size r31_9 ≤ 9223372036854775807)) then
                            bif (decide ((List.length x3_1 + List.length [((((((r16_6 ++ s_h3a) ++ r20_7) ++ s_h2f) ++ r26_8) ++ s_h3d) ++ r31_9)]) * 1 ≤ 4398046511104)) then
                              next (x3_1 ++ [((((((r16_6 ++ s_h3a) ++ r20_7) ++ s_h2f) ++ r26_8) ++ s_h3d) ++ r31_9)])
                            else none
                          else none)
                      else none
                    else none)
                else none
              else none)
          else none)) (fun (x3_1 : (List ByteArray)) =>
        k3_0_10 x3_1) x7_2 0 x3_1 := by
  exact range1 (f := fun n x3_1 i => impl_FormatTeams_l3 N x7_2 (List.length x7_2 : Int) n k3_0_10 x3_1 i) (l := x7_2) (fun n i x3_1 h => by
    simp only [impl_FormatTeams_l3]
    rw [decide_eq_true (show (i : Int) < (List.length x7_2 : Int) by omega)]
    simp only [cond_true, inB_nat h, Int.toNat_natCast, getD_nat _ i h]) (fun n x3_1 => by
    simp only [impl_FormatTeams_l3]
    rw [decide_eq_false (by omega)]
    simp only [cond_false]) hl x7_2 0 n x3_1 rfl (by omega) hn
theorem laws_eqTeamS_l4_r {N : Nat} {x0_1 : (List QIIIIILIE)} {x1_2 : (List QIIIIILIE)} {k4_0_6 : Option Ret} {k4_1_7 : Bool → Option Ret} (hl : (List.length x0_1) ≤ maxLen) {n : Nat} (hn : (List.length x0_1) < n) : laws_eqTeamS_l4 N x0_1 x1_2 n k4_0_6 k4_1_7 (0 : Int) =
    goL (fun (i : Nat) (x : QIIIIILIE) (next : Option Ret) =>
        bif (inB (i : Int) (List.length x1_2)) then
          laws_eqTeam N x (List.getD x1_2 (Int.toNat (i : Int)) zQIIIIILIE) (fun (r25_5 : Bool) =>
            bif (!r25_5) then
              k4_1_7 false
            else
              next)
        else none) (
        k4_0_6) x0_1 0 := by
  exact range0 (f := fun n i => laws_eqTeamS_l4 N x0_1 x1_2 n k4_0_6 k4_1_7 i) (l := x0_1) (fun n i h => by
    simp only [laws_eqTeamS_l4]
    rw [decide_eq_true (show (i : Int) < (List.length x0_1 : Int) by omega)]
    simp only [cond_true, inB_nat h, Int.toNat_natCast, getD_nat _ i h]) (fun n => by
    simp only [laws_eqTeamS_l4]
    rw [decide_eq_false (by omega)]
    simp only [cond_false]) hl x0_1 0 n rfl (by omega) hn
end Go.Pv.R
