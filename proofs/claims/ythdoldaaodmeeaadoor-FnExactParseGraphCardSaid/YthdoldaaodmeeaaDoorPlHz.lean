/- What the harness' functions answer. -/
import Derived.Test.YthdoldaaodmeeaaDoorPlLst
namespace Go.Pv.R
set_option linter.unusedVariables false
set_option linter.unusedSimpArgs false
theorem laws_eqIntS_ok {x : (List Int)} {N : Nat} {kf : Bool → Option Ret} (hN : sizeV (.sl (.int .i64)) x < N) (hw : sizeV (.sl (.int .i64)) x ≤ 2097152) : laws_eqIntS N x x kf = kf true := by
  have hs := sizeV_len (t := (.int .i64)) x
  have hm := maxLen_eq
  unfold laws_eqIntS
  simp only [bne_self_eq_false, cond_false]
  rw [laws_eqIntS_l4_r (by omega) (by omega)]
  refine goL_eq (l := x) (fun i y next h e => ?_) x 0 rfl
  simp only [inB_nat h, Int.toNat_natCast, getD_nat _ i h, e, cond_true]
  simp
theorem laws_eqIntSS_ok {x : (List (List Int))} {N : Nat} {kf : Bool → Option Ret} (hN : sizeV (.sl (.sl (.int .i64))) x < N) (hw : sizeV (.sl (.sl (.int .i64))) x ≤ 2097152) : laws_eqIntSS N x x kf = kf true := by
  have hs := sizeV_len (t := (.sl (.int .i64))) x
  have hm := maxLen_eq
  unfold laws_eqIntSS
  simp only [bne_self_eq_false, cond_false]
  rw [laws_eqIntSS_l4_r (by omega) (by omega)]
  refine goL_eq (l := x) (fun i y next h e => ?_) x 0 rfl
  simp only [inB_nat h, Int.toNat_natCast, getD_nat _ i h, e, cond_true]
  have hy : y ∈ x := by rw [← e]; exact List.getElem_mem h
  rw [laws_eqIntS_ok (by have := sizeV_mem (t := (.sl (.int .i64))) hy; omega) (by have := sizeV_mem (t := (.sl (.int .i64))) hy; omega)]
  simp
theorem laws_eqGraph_ok {x : QILLIE} {N : Nat} {kf : Bool → Option Ret} (hN : sizeV tQILLIE x < N) (hw : sizeV tQILLIE x ≤ 2097152) : laws_eqGraph N x x kf = kf true := by
  have hs : sizeV tQILLIE x = sizeV (.sl (.sl (.int .i64))) x.2 := by simp [sizeV]
  rw [hs] at hN hw
  unfold laws_eqGraph
  simp only [bne_self_eq_false, cond_false]
  rw [laws_eqIntSS_ok (by omega) (by omega)]
  simp only [Bool.not_true, bne_self_eq_false, cond_false]
theorem laws_markIntS_ok {x : (List Int)} {N : Nat} {k : Int} {kf : Int → (List Int) → Option Ret} (hN : sizeV (.sl (.int .i64)) x < N) (hS : sizeV (.sl (.int .i64)) x ≤ 1152921504606846976) (h0 : 0 ≤ k) (hB : (markL (markV (.int .i64)) x k).2 ≤ 4611686018427387904) : laws_markIntS N x k kf = kf (markL (markV (.int .i64)) x k).2 (markL (markV (.int .i64)) x k).1 := by
  have hs := sizeV_len (t := (.int .i64)) x
  have := markL_loop (f := markV (.int .i64)) (B := 4611686018427387904) (Q := fun y => y ∈ x) (L := fun n xs k i => laws_markIntS_l2 n (fun z k => kf k z) xs k i) (kend := fun xs k => kf k xs) (m0 := x.length) (markV_ge _) (fun n xs k i h hm hq h0 hb => by
      simp only [laws_markIntS_l2]
      rw [decide_eq_true (show (i : Int) < (xs.length : Int) by omega)]
      simp only [markV_int, markV_pair, markV_sl] at hb
      simp only [cond_true, inB_nat h, Int.toNat_natCast, share, List.length_set, set_set, getD_set _ _ h, getD_nat _ i h]
      simp (disch := omega) only [markV_int, markV_pair, markV_sl, wrap64]
      rfl) (fun n xs k => by
      simp only [laws_markIntS_l2]
      rw [decide_eq_false (by omega)]
      rfl) x [] N k (by simp) (fun _ h => h) (by omega) h0 hB
  exact this
theorem laws_markIntSS_ok {x : (List (List Int))} {N : Nat} {k : Int} {kf : Int → (List (List Int)) → Option Ret} (hN : sizeV (.sl (.sl (.int .i64))) x < N) (hS : sizeV (.sl (.sl (.int .i64))) x ≤ 1152921504606846976) (h0 : 0 ≤ k) (hB : (markL (markV (.sl (.int .i64))) x k).2 ≤ 4611686018427387904) : laws_markIntSS N x k kf = kf (markL (markV (.sl (.int .i64))) x k).2 (markL (markV (.sl (.int .i64))) x k).1 := by
  have hs := sizeV_len (t := (.sl (.int .i64))) x
  have := markL_loop (f := markV (.sl (.int .i64))) (B := 4611686018427387904) (Q := fun y => y ∈ x) (L := fun n xs k i => laws_markIntSS_l2 N n (fun z k => kf k z) xs k i) (kend := fun xs k => kf k xs) (m0 := x.length) (markV_ge _) (fun n xs k i h hm hq h0 hb => by
      simp only [laws_markIntSS_l2]
      rw [decide_eq_true (show (i : Int) < (xs.length : Int) by omega)]
      simp only [markV_int, markV_pair, markV_sl] at hb
      simp only [cond_true, inB_nat h, Int.toNat_natCast, share, List.length_set, set_set, getD_set _ _ h, getD_nat _ i h]
      have hg := markL_ge (t := (.int .i64)) xs[i] (k)
      try simp (disch := omega) only [wrap64]
      have hz := sizeV_mem (t := (.sl (.int .i64))) hq
      have hy : sizeV (.sl (.int .i64)) xs[i] ≤ sizeV (.sl (.int .i64)) xs[i] := by simp [sizeV]
      rw [laws_markIntS_ok (by omega) (by omega) (by omega) (by omega)]
      simp (disch := omega) only [markV_int, markV_pair, markV_sl, wrap64]
      rfl) (fun n xs k => by
      simp only [laws_markIntSS_l2]
      rw [decide_eq_false (by omega)]
      rfl) x [] N k (by simp) (fun _ h => h) (by omega) h0 hB
  exact this
theorem laws_markGraph_ok {x : QILLIE} {N : Nat} {k : Int} {kf : Int → QILLIE → Option Ret} (hN : sizeV tQILLIE x < N) (hS : sizeV tQILLIE x ≤ 1152921504606846976) (h0 : 0 ≤ k) (hB : (markT tQILLIE x k).2 ≤ 4611686018427387904) : laws_markGraph N x k kf = kf (markT tQILLIE x k).2 (markT tQILLIE x k).1 := by
  have hs : sizeV tQILLIE x = sizeV (.sl (.sl (.int .i64))) x.2 := by simp [sizeV]
  rw [hs] at hN hS
  simp only [markT] at hB ⊢
  unfold laws_markGraph
  have g0 := markL_ge (t := (.sl (.int .i64))) x.2 k
  rw [laws_markIntSS_ok (by omega) (by omega) (by omega) (by omega)]
theorem laws_heldIntS_ok {x : (List Int)} {N : Nat} {k : Int} {kf : Int → Option Ret} (hN : sizeV (.sl (.int .i64)) x < N) (hS : sizeV (.sl (.int .i64)) x ≤ 1152921504606846976) (h0 : 0 ≤ k) (hB : (markL (markV (.int .i64)) x k).2 ≤ 4611686018427387904) : laws_heldIntS N (markL (markV (.int .i64)) x k).1 k kf = kf (markL (markV (.int .i64)) x k).2 := by
  have hs := sizeV_len (t := (.int .i64)) x
  have hl := markL_len (markV (.int .i64)) x k
  have := heldL_loop (f := markV (.int .i64)) (B := 4611686018427387904) (Q := fun y => y ∈ x) (xs' := (markL (markV (.int .i64)) x k).1) (L := fun n k2 i => laws_heldIntS_l2 (markL (markV (.int .i64)) x k).1 n kf kf k2 i) (kend := kf) (markV_ge _) (fun n k1 i h y hq hy h0 hb => by
      simp only [laws_heldIntS_l2]
      rw [decide_eq_true (show (i : Int) < ((markL (markV (.int .i64)) x k).1.length : Int) by omega)]
      simp only [markV_int, markV_pair, markV_sl] at hb hy
      try simp (disch := omega) only [wrap64] at hy
      simp only [cond_true, inB_nat h, Int.toNat_natCast, getD_nat _ i h, hy]
      try simp (disch := omega) only [wrap64, bne_self_eq_false, cond_false]
      simp (disch := omega) only [markV_int, markV_pair, markV_sl, wrap64]
      rfl) (fun n k1 => by
      simp only [laws_heldIntS_l2]
      rw [decide_eq_false (by omega)]
      rfl) x [] N k rfl (fun _ h => h) (by omega) h0 hB
  exact this
theorem laws_heldIntSS_ok {x : (List (List Int))} {N : Nat} {k : Int} {kf : Int → Option Ret} (hN : sizeV (.sl (.sl (.int .i64))) x < N) (hS : sizeV (.sl (.sl (.int .i64))) x ≤ 1152921504606846976) (h0 : 0 ≤ k) (hB : (markL (markV (.sl (.int .i64))) x k).2 ≤ 4611686018427387904) : laws_heldIntSS N (markL (markV (.sl (.int .i64))) x k).1 k kf = kf (markL (markV (.sl (.int .i64))) x k).2 := by
  have hs := sizeV_len (t := (.sl (.int .i64))) x
  have hl := markL_len (markV (.sl (.int .i64))) x k
  have := heldL_loop (f := markV (.sl (.int .i64))) (B := 4611686018427387904) (Q := fun y => y ∈ x) (xs' := (markL (markV (.sl (.int .i64))) x k).1) (L := fun n k2 i => laws_heldIntSS_l2 N (markL (markV (.sl (.int .i64))) x k).1 n kf kf k2 i) (kend := kf) (markV_ge _) (fun n k1 i h y hq hy h0 hb => by
      simp only [laws_heldIntSS_l2]
      rw [decide_eq_true (show (i : Int) < ((markL (markV (.sl (.int .i64))) x k).1.length : Int) by omega)]
      simp only [markV_int, markV_pair, markV_sl] at hb hy
      have hg := markL_ge (t := (.int .i64)) y (k1)
      have hz := sizeV_mem (t := (.sl (.int .i64))) hq
      have hw : sizeV (.sl (.int .i64)) y ≤ sizeV (.sl (.int .i64)) y := by simp [sizeV]
      try simp (disch := omega) only [wrap64] at hy
      simp only [cond_true, inB_nat h, Int.toNat_natCast, getD_nat _ i h, hy]
      try simp (disch := omega) only [wrap64, bne_self_eq_false, cond_false]
      rw [laws_heldIntS_ok (by omega) (by omega) (by omega) (by omega), decide_eq_false (by omega), cond_false]
      simp (disch := omega) only [markV_int, markV_pair, markV_sl, wrap64]
      rfl) (fun n k1 => by
      simp only [laws_heldIntSS_l2]
      rw [decide_eq_false (by omega)]
      rfl) x [] N k rfl (fun _ h => h) (by omega) h0 hB
  exact this
theorem laws_heldGraph_ok {x : QILLIE} {N : Nat} {k : Int} {kf : Int → Option Ret} (hN : sizeV tQILLIE x < N) (hS : sizeV tQILLIE x ≤ 1152921504606846976) (h0 : 0 ≤ k) (hB : (markT tQILLIE x k).2 ≤ 4611686018427387904) : laws_heldGraph N (markT tQILLIE x k).1 k kf = kf (markT tQILLIE x k).2 := by
  have hs : sizeV tQILLIE x = sizeV (.sl (.sl (.int .i64))) x.2 := by simp [sizeV]
  rw [hs] at hN hS
  simp only [markT] at hB ⊢
  unfold laws_heldGraph
  have g0 := markL_ge (t := (.sl (.int .i64))) x.2 k
  rw [laws_heldIntSS_ok (by omega) (by omega) (by omega) (by omega)]
  rw [decide_eq_false (by omega), cond_false]
end Go.Pv.R
