/- What the harness' functions answer. -/
import Derived.Test.YtcpakhaogbempaaPlLst
namespace Go.Pv.R
set_option linter.unusedVariables false
set_option linter.unusedSimpArgs false
theorem laws_szIntS_ok {x : (List Int)} {N : Nat} {left : Int} {kf : Int → Option Ret} (hw : wf (.sl (.int .i64)) x) (hN : sizeV (.sl (.int .i64)) x < N) (h0 : 0 ≤ left) (h1 : left ≤ 1048576) : laws_szIntS N x left kf = kf (szr left (sizeV (.sl (.int .i64)) x)) := by
  have hl := wf_len hw
  have hm := maxLen_eq
  have hs := sizeV_len (t := (.int .i64)) x
  unfold laws_szIntS
  rw [wrap64 (by omega) (by omega)]
  rw [sizeV_sl (t := (.int .i64)) (by decide) x]
  unfold szr
  by_cases h : left - (x.length : Int) < 0
  · rw [decide_eq_true h, cond_true, if_neg (by omega)]
  · rw [decide_eq_false h, cond_false, if_pos (by omega)]
theorem laws_szIntSS_ok {x : (List (List Int))} {N : Nat} {left : Int} {kf : Int → Option Ret} (hw : wf (.sl (.sl (.int .i64))) x) (hN : sizeV (.sl (.sl (.int .i64))) x < N) (h0 : 0 ≤ left) (h1 : left ≤ 1048576) : laws_szIntSS N x left kf = kf (szr left (sizeV (.sl (.sl (.int .i64))) x)) := by
  have hl := wf_len hw
  have hm := maxLen_eq
  have hs := sizeV_len (t := (.sl (.int .i64))) x
  unfold laws_szIntSS
  rw [wrap64 (by omega) (by omega)]
  by_cases h : left - (x.length : Int) < 0
  · rw [decide_eq_true h, cond_true]
    unfold szr
    rw [if_neg (by omega)]
  · rw [decide_eq_false h, cond_false, laws_szIntSS_l5_r hl (by omega)]
    have hg := goL_sz (g := fun x s k => laws_szIntS N x s k) (sz := sizeV (.sl (.int .i64))) (kf := kf) x 0 (left - (x.length : Int)) (fun y hy s k b0 b1 => laws_szIntS_ok (hw.2 y hy) (by have := sizeV_mem (t := (.sl (.int .i64))) hy; omega) b0 b1) (by omega) (by omega)
    refine Eq.trans hg ?_
    rw [szr_sub (by omega), sizeV_def (t := (.sl (.int .i64)))]
theorem laws_szGraph_ok {x : QILLIE} {N : Nat} {left : Int} {kf : Int → Option Ret} (hw : wf tQILLIE x) (hN : sizeV tQILLIE x < N) (h0 : 0 ≤ left) (h1 : left ≤ 1048576) : laws_szGraph N x left kf = kf (szr left (sizeV tQILLIE x)) := by
  have hs : sizeV tQILLIE x = sizeV (.sl (.sl (.int .i64))) x.2 := by simp [sizeV]
  rw [hs] at hN ⊢
  unfold laws_szGraph
  rw [laws_szIntSS_ok hw.2 (by omega) h0 h1]
  by_cases c0 : szr left (sizeV (.sl (.sl (.int .i64))) x.2) < 0
  · rw [decide_eq_true c0, cond_true, szr_lt h0 c0 (by omega)]
  rw [decide_eq_false c0, cond_false]
theorem laws_toIntS_ok {x : (List Int)} {N : Nat} {kf : (List Int) → Option Ret} (hN : sizeV (.sl (.int .i64)) x < N) (hb : sizeV (.sl (.int .i64)) x ≤ 1048576) : laws_toIntS N x kf = kf x := by
  have hs := sizeV_len (t := (.int .i64)) x
  have hm := maxLen_eq
  unfold laws_toIntS
  rw [lenDec (by omega), cond_true, laws_toIntS_l3_r (by omega) (by omega)]
  have hg := goL_to (g := fun x k => k x) (kend := kf) x 0 (List.replicate (Int.toNat (x.length : Int)) (0 : Int)) (fun _ _ _ => rfl) (by simp)
  refine Eq.trans hg ?_
  simp
theorem laws_toIntSS_ok {x : (List (List Int))} {N : Nat} {kf : (List (List Int)) → Option Ret} (hN : sizeV (.sl (.sl (.int .i64))) x < N) (hb : sizeV (.sl (.sl (.int .i64))) x ≤ 1048576) : laws_toIntSS N x kf = kf x := by
  have hs := sizeV_len (t := (.sl (.int .i64))) x
  have hm := maxLen_eq
  unfold laws_toIntSS
  rw [lenDec (by omega), cond_true, laws_toIntSS_l3_r (by omega) (by omega)]
  have hg := goL_to (g := fun x k => laws_toIntS N x k) (kend := kf) x 0 (List.replicate (Int.toNat (x.length : Int)) ([] : (List Int))) (fun y hy k => laws_toIntS_ok (by have := sizeV_mem (t := (.sl (.int .i64))) hy; omega) (by have := sizeV_mem (t := (.sl (.int .i64))) hy; omega)) (by simp)
  refine Eq.trans hg ?_
  simp
theorem laws_toGraph_ok {x : QILLIE} {N : Nat} {kf : QILLIE → Option Ret} (hN : sizeV tQILLIE x < N) (hb : sizeV tQILLIE x ≤ 1048576) : laws_toGraph N x kf = kf x := by
  have hs : sizeV tQILLIE x = sizeV (.sl (.sl (.int .i64))) x.2 := by simp [sizeV]
  rw [hs] at hN hb
  unfold laws_toGraph
  rw [laws_toIntSS_ok (by omega) (by omega)]
theorem laws_eqIntS_ok {x : (List Int)} {N : Nat} {kf : Bool → Option Ret} (hN : sizeV (.sl (.int .i64)) x < N) (hw : sizeV (.sl (.int .i64)) x ≤ 2097152) : laws_eqIntS N x x kf = kf true := by
  have hs := sizeV_len (t := (.int .i64)) x
  have hm := maxLen_eq
  unfold laws_eqIntS
  simp only [bne_self_eq_false, cond_false]
  rw [laws_eqIntS_l4_r (by omega) (by omega)]
  refine goL_eq (l := x) (fun i y next h e => ?_) x 0 rfl
  simp only [inB_nat h, Int.toNat_natCast, getD_nat _ i h, e, cond_true]
  simp
theorem laws_eqIntSS_ok {x : (List (List Int))} {N : Nat} {kf : Bool → Option Ret} (hN : sizeV (.sl (.sl (.int .i64))) x < N) (hw : sizeV (.sl (.sl (.int .i64))) x ≤ 2097152) : laws_eqIntSS N x x kf = kf true := by
  have hs := sizeV_len (t := (.sl (.int .i64))) x
  have hm := maxLen_eq
  unfold laws_eqIntSS
  simp only [bne_self_eq_false, cond_false]
  rw [laws_eqIntSS_l4_r (by omega) (by omega)]
  refine goL_eq (l := x) (fun i y next h e => ?_) x 0 rfl
  simp only [inB_nat h, Int.toNat_natCast, getD_nat _ i h, e, cond_true]
  have hy : y ∈ x := by rw [← e]; exact List.getElem_mem h
  rw [laws_eqIntS_ok (by have := sizeV_mem (t := (.sl (.int .i64))) hy; omega) (by have := sizeV_mem (t := (.sl (.int .i64))) hy; omega)]
  simp
theorem laws_eqGraph_ok {x : QILLIE} {N : Nat} {kf : Bool → Option Ret} (hN : sizeV tQILLIE x < N) (hw : sizeV tQILLIE x ≤ 2097152) : laws_eqGraph N x x kf = kf true := by
  have hs : sizeV tQILLIE x = sizeV (.sl (.sl (.int .i64))) x.2 := by simp [sizeV]
  rw [hs] at hN hw
  unfold laws_eqGraph
  simp only [bne_self_eq_false, cond_false]
  rw [laws_eqIntSS_ok (by omega) (by omega)]
  simp only [Bool.not_true, bne_self_eq_false, cond_false]
end Go.Pv.R
