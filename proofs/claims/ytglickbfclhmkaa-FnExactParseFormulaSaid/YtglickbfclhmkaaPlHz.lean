/- What the harness' functions answer. -/
import Derived.Test.YtglickbfclhmkaaPlLst
namespace Go.Pv.R
set_option linter.unusedVariables false
set_option linter.unusedSimpArgs false
theorem laws_eqIntS_ok {x : (List Int)} {N : Nat} {kf : Bool → Option Ret} (hN : sizeV (.sl (.int .i64)) x < N) (hw : sizeV (.sl (.int .i64)) x ≤ 2097152) : laws_eqIntS N x x kf = kf true := by
  have hs := sizeV_len (t := (.int .i64)) x
  have hm := maxLen_eq
  unfold laws_eqIntS
  simp only [bne_self_eq_false, cond_false]
  rw [laws_eqIntS_l4_r (by omega) (by omega)]
  refine goL_eq (l := x) (fun i y next h e => ?_) x 0 rfl
  simp only [inB_nat h, Int.toNat_natCast, getD_nat _ i h, e, cond_true]
  simp
theorem laws_markIntS_ok {x : (List Int)} {N : Nat} {k : Int} {kf : Int → (List Int) → Option Ret} (hN : sizeV (.sl (.int .i64)) x < N) (hS : sizeV (.sl (.int .i64)) x ≤ 1152921504606846976) (h0 : 0 ≤ k) (hB : (markL (markV (.int .i64)) x k).2 ≤ 4611686018427387904) : laws_markIntS N x k kf = kf (markL (markV (.int .i64)) x k).2 (markL (markV (.int .i64)) x k).1 := by
  have hs := sizeV_len (t := (.int .i64)) x
  have := markL_loop (f := markV (.int .i64)) (B := 4611686018427387904) (Q := fun y => y ∈ x) (L := fun n xs k i => laws_markIntS_l2 n (fun z k => kf k z) xs k i) (kend := fun xs k => kf k xs) (m0 := x.length) (markV_ge _) (fun n xs k i h hm hq h0 hb => by
      simp only [laws_markIntS_l2]
      rw [decide_eq_true (show (i : Int) < (xs.length : Int) by omega)]
      simp only [markV_int, markV_pair, markV_sl] at hb
      simp only [cond_true, inB_nat h, Int.toNat_natCast, share, List.length_set, set_set, getD_set _ _ h, getD_nat _ i h]
      simp (disch := omega) only [markV_int, markV_pair, markV_sl, wrap64]
      rfl) (fun n xs k => by
      simp only [laws_markIntS_l2]
      rw [decide_eq_false (by omega)]
      rfl) x [] N k (by simp) (fun _ h => h) (by omega) h0 hB
  exact this
theorem laws_heldIntS_ok {x : (List Int)} {N : Nat} {k : Int} {kf : Int → Option Ret} (hN : sizeV (.sl (.int .i64)) x < N) (hS : sizeV (.sl (.int .i64)) x ≤ 1152921504606846976) (h0 : 0 ≤ k) (hB : (markL (markV (.int .i64)) x k).2 ≤ 4611686018427387904) : laws_heldIntS N (markL (markV (.int .i64)) x k).1 k kf = kf (markL (markV (.int .i64)) x k).2 := by
  have hs := sizeV_len (t := (.int .i64)) x
  have hl := markL_len (markV (.int .i64)) x k
  have := heldL_loop (f := markV (.int .i64)) (B := 4611686018427387904) (Q := fun y => y ∈ x) (xs' := (markL (markV (.int .i64)) x k).1) (L := fun n k2 i => laws_heldIntS_l2 (markL (markV (.int .i64)) x k).1 n kf kf k2 i) (kend := kf) (markV_ge _) (fun n k1 i h y hq hy h0 hb => by
      simp only [laws_heldIntS_l2]
      rw [decide_eq_true (show (i : Int) < ((markL (markV (.int .i64)) x k).1.length : Int) by omega)]
      simp only [markV_int, markV_pair, markV_sl] at hb hy
      try simp (disch := omega) only [wrap64] at hy
      simp only [cond_true, inB_nat h, Int.toNat_natCast, getD_nat _ i h, hy]
      try simp (disch := omega) only [wrap64, bne_self_eq_false, cond_false]
      simp (disch := omega) only [markV_int, markV_pair, markV_sl, wrap64]
      rfl) (fun n k1 => by
      simp only [laws_heldIntS_l2]
      rw [decide_eq_false (by omega)]
      rfl) x [] N k rfl (fun _ h => h) (by omega) h0 hB
  exact this
end Go.Pv.R
