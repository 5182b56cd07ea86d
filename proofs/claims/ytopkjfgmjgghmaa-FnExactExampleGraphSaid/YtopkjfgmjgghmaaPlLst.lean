/- Their loops over lists, without rounds. -/
import Derived.Test.YtopkjfgmjgghmaaPlRes
namespace Go.Pv.R
set_option linter.unusedVariables false
set_option linter.unusedSimpArgs false
theorem laws_eqIntS_l4_r {x0_1 : (List Int)} {x1_2 : (List Int)} {k4_0_5 : Option Ret} {k4_1_6 : Bool → Option Ret} (hl : (List.length x0_1) ≤ maxLen) {n : Nat} (hn : (List.length x0_1) < n) : laws_eqIntS_l4 x0_1 x1_2 n k4_0_5 k4_1_6 (0 : Int) =
    goL (fun (i : Nat) (x : Int) (next : Option Ret) =>
        bif (inB (i : Int) (List.length x1_2)) then
          bif (x != (List.getD x1_2 (Int.toNat (i : Int)) (0 : Int))) then
            k4_1_6 false
          else
            next
        else none) (
        k4_0_5) x0_1 0 := by
  exact range0 (f := fun n i => laws_eqIntS_l4 x0_1 x1_2 n k4_0_5 k4_1_6 i) (l := x0_1) (fun n i h => by
    simp only [laws_eqIntS_l4]
    rw [decide_eq_true (show (i : Int) < (List.length x0_1 : Int) by omega)]
    simp only [cond_true, inB_nat h, Int.toNat_natCast, getD_nat _ i h]) (fun n => by
    simp only [laws_eqIntS_l4]
    rw [decide_eq_false (by omega)]
    simp only [cond_false]) hl x0_1 0 n rfl (by omega) hn
theorem laws_eqIntSS_l4_r {N : Nat} {x0_1 : (List (List Int))} {x1_2 : (List (List Int))} {k4_0_6 : Option Ret} {k4_1_7 : Bool → Option Ret} (hl : (List.length x0_1) ≤ maxLen) {n : Nat} (hn : (List.length x0_1) < n) : laws_eqIntSS_l4 N x0_1 x1_2 n k4_0_6 k4_1_7 (0 : Int) =
    goL (fun (i : Nat) (x : (List Int)) (next : Option Ret) =>
        bif (inB (i : Int) (List.length x1_2)) then
          laws_eqIntS N x (List.getD x1_2 (Int.toNat (i : Int)) ([] : (List Int))) (fun (r25_5 : Bool) =>
            bif (!r25_5) then
              k4_1_7 false
            else
              next)
        else none) (
        k4_0_6) x0_1 0 := by
  exact range0 (f := fun n i => laws_eqIntSS_l4 N x0_1 x1_2 n k4_0_6 k4_1_7 i) (l := x0_1) (fun n i h => by
    simp only [laws_eqIntSS_l4]
    rw [decide_eq_true (show (i : Int) < (List.length x0_1 : Int) by omega)]
    simp only [cond_true, inB_nat h, Int.toNat_natCast, getD_nat _ i h]) (fun n => by
    simp only [laws_eqIntSS_l4]
    rw [decide_eq_false (by omega)]
    simp only [cond_false]) hl x0_1 0 n rfl (by omega) hn
end Go.Pv.R
