/- What the harness' functions answer. -/
import Derived.Test.YthdoldaaodmeeaaDoorPlLst
namespace Go.Pv.R
set_option linter.unusedVariables false
set_option linter.unusedSimpArgs false
theorem laws_toIntS_ok {x : (List Int)} {N : Nat} {kf : (List Int) → Option Ret} (hN : sizeV (.sl (.int .i64)) x < N) (hb : sizeV (.sl (.int .i64)) x ≤ 1048576) : laws_toIntS N x kf = kf x := by
  have hs := sizeV_len (t := (.int .i64)) x
  have hm := maxLen_eq
  unfold laws_toIntS
  rw [lenDec (by omega), cond_true, laws_toIntS_l3_r (by omega) (by omega)]
  have hg := goL_to (g := fun x k => k x) (kend := kf) x 0 (List.replicate (Int.toNat (x.length : Int)) (0 : Int)) (fun _ _ _ => rfl) (by simp)
  refine Eq.trans hg ?_
  simp
theorem laws_eqIntS_ok {x : (List Int)} {N : Nat} {kf : Bool → Option Ret} (hN : sizeV (.sl (.int .i64)) x < N) (hw : sizeV (.sl (.int .i64)) x ≤ 2097152) : laws_eqIntS N x x kf = kf true := by
  have hs := sizeV_len (t := (.int .i64)) x
  have hm := maxLen_eq
  unfold laws_eqIntS
  simp only [bne_self_eq_false, cond_false]
  rw [laws_eqIntS_l4_r (by omega) (by omega)]
  refine goL_eq (l := x) (fun i y next h e => ?_) x 0 rfl
  simp only [inB_nat h, Int.toNat_natCast, getD_nat _ i h, e, cond_true]
  simp
theorem laws_szPairS_ok {x : (List QIIE)} {N : Nat} {left : Int} {kf : Int → Option Ret} (hw : wf (.sl tQIIE) x) (hN : sizeV (.sl tQIIE) x < N) (h0 : 0 ≤ left) (h1 : left ≤ 1048576) : laws_szPairS N x left kf = kf (szr left (sizeV (.sl tQIIE) x)) := by
  have hl := wf_len hw
  have hm := maxLen_eq
  have hs := sizeV_len (t := tQIIE) x
  unfold laws_szPairS
  rw [wrap64 (by omega) (by omega)]
  rw [sizeV_sl (t := tQIIE) (by decide) x]
  unfold szr
  by_cases h : left - (x.length : Int) < 0
  · rw [decide_eq_true h, cond_true, if_neg (by omega)]
  · rw [decide_eq_false h, cond_false, if_pos (by omega)]
theorem laws_toPair_ok {x : QIIE} {N : Nat} {kf : QIIE → Option Ret} (hN : sizeV tQIIE x < N) (hb : sizeV tQIIE x ≤ 1048576) : laws_toPair N x kf = kf x := by
  have hs : sizeV tQIIE x = 0 := by simp [sizeV]
  rw [hs] at hN hb
  unfold laws_toPair
  rfl
theorem laws_toPairS_ok {x : (List QIIE)} {N : Nat} {kf : (List QIIE) → Option Ret} (hN : sizeV (.sl tQIIE) x < N) (hb : sizeV (.sl tQIIE) x ≤ 1048576) : laws_toPairS N x kf = kf x := by
  have hs := sizeV_len (t := tQIIE) x
  have hm := maxLen_eq
  unfold laws_toPairS
  rw [lenDec (by omega), cond_true, laws_toPairS_l3_r (by omega) (by omega)]
  have hg := goL_to (g := fun x k => laws_toPair N x k) (kend := kf) x 0 (List.replicate (Int.toNat (x.length : Int)) ((0 : Int), (0 : Int))) (fun y hy k => laws_toPair_ok (by have := sizeV_mem (t := tQIIE) hy; omega) (by have := sizeV_mem (t := tQIIE) hy; omega)) (by simp)
  refine Eq.trans hg ?_
  simp
theorem laws_eqPair_ok {x : QIIE} {N : Nat} {kf : Bool → Option Ret} (hN : sizeV tQIIE x < N) (hw : sizeV tQIIE x ≤ 2097152) : laws_eqPair N x x kf = kf true := by
  have hs : sizeV tQIIE x = 0 := by simp [sizeV]
  rw [hs] at hN hw
  unfold laws_eqPair
  simp only [bne_self_eq_false, cond_false]
theorem laws_eqPairS_ok {x : (List QIIE)} {N : Nat} {kf : Bool → Option Ret} (hN : sizeV (.sl tQIIE) x < N) (hw : sizeV (.sl tQIIE) x ≤ 2097152) : laws_eqPairS N x x kf = kf true := by
  have hs := sizeV_len (t := tQIIE) x
  have hm := maxLen_eq
  unfold laws_eqPairS
  simp only [bne_self_eq_false, cond_false]
  rw [laws_eqPairS_l4_r (by omega) (by omega)]
  refine goL_eq (l := x) (fun i y next h e => ?_) x 0 rfl
  simp only [inB_nat h, Int.toNat_natCast, getD_nat _ i h, e, cond_true]
  have hy : y ∈ x := by rw [← e]; exact List.getElem_mem h
  rw [laws_eqPair_ok (by have := sizeV_mem (t := tQIIE) hy; omega) (by have := sizeV_mem (t := tQIIE) hy; omega)]
  simp
end Go.Pv.R
