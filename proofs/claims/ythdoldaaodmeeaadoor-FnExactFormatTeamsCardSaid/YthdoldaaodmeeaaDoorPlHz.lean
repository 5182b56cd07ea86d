/- What the harness' functions answer. -/
import Derived.Test.YthdoldaaodmeeaaDoorPlLst
namespace Go.Pv.R
set_option linter.unusedVariables false
set_option linter.unusedSimpArgs false
theorem laws_toIntS_ok {x : (List Int)} {N : Nat} {kf : (List Int) → Option Ret} (hN : sizeV (.sl (.int .i64)) x < N) (hb : sizeV (.sl (.int .i64)) x ≤ 1048576) : laws_toIntS N x kf = kf x := by
  have hs := sizeV_len (t := (.int .i64)) x
  have hm := maxLen_eq
  unfold laws_toIntS
  rw [lenDec (by omega), cond_true, laws_toIntS_l3_r (by omega) (by omega)]
  have hg := goL_to (g := fun x k => k x) (kend := kf) x 0 (List.replicate (Int.toNat (x.length : Int)) (0 : Int)) (fun _ _ _ => rfl) (by simp)
  refine Eq.trans hg ?_
  simp
theorem laws_eqIntS_ok {x : (List Int)} {N : Nat} {kf : Bool → Option Ret} (hN : sizeV (.sl (.int .i64)) x < N) (hw : sizeV (.sl (.int .i64)) x ≤ 2097152) : laws_eqIntS N x x kf = kf true := by
  have hs := sizeV_len (t := (.int .i64)) x
  have hm := maxLen_eq
  unfold laws_eqIntS
  simp only [bne_self_eq_false, cond_false]
  rw [laws_eqIntS_l4_r (by omega) (by omega)]
  refine goL_eq (l := x) (fun i y next h e => ?_) x 0 rfl
  simp only [inB_nat h, Int.toNat_natCast, getD_nat _ i h, e, cond_true]
  simp
theorem laws_szIntS_ok {x : (List Int)} {N : Nat} {left : Int} {kf : Int → Option Ret} (hw : wf (.sl (.int .i64)) x) (hN : sizeV (.sl (.int .i64)) x < N) (h0 : 0 ≤ left) (h1 : left ≤ 1048576) : laws_szIntS N x left kf = kf (szr left (sizeV (.sl (.int .i64)) x)) := by
  have hl := wf_len hw
  have hm := maxLen_eq
  have hs := sizeV_len (t := (.int .i64)) x
  unfold laws_szIntS
  rw [wrap64 (by omega) (by omega)]
  rw [sizeV_sl (t := (.int .i64)) (by decide) x]
  unfold szr
  by_cases h : left - (x.length : Int) < 0
  · rw [decide_eq_true h, cond_true, if_neg (by omega)]
  · rw [decide_eq_false h, cond_false, if_pos (by omega)]
theorem laws_szTeam_ok {x : QIIIIILIE} {N : Nat} {left : Int} {kf : Int → Option Ret} (hw : wf tQIIIIILIE x) (hN : sizeV tQIIIIILIE x < N) (h0 : 0 ≤ left) (h1 : left ≤ 1048576) : laws_szTeam N x left kf = kf (szr left (sizeV tQIIIIILIE x)) := by
  have hs : sizeV tQIIIIILIE x = sizeV (.sl (.int .i64)) x.2.2.2.2.2 := by simp [sizeV]
  rw [hs] at hN ⊢
  unfold laws_szTeam
  rw [laws_szIntS_ok hw.2.2.2.2.2 (by omega) h0 h1]
  by_cases c0 : szr left (sizeV (.sl (.int .i64)) x.2.2.2.2.2) < 0
  · rw [decide_eq_true c0, cond_true, szr_lt h0 c0 (by omega)]
  rw [decide_eq_false c0, cond_false]
theorem laws_szTeamS_ok {x : (List QIIIIILIE)} {N : Nat} {left : Int} {kf : Int → Option Ret} (hw : wf (.sl tQIIIIILIE) x) (hN : sizeV (.sl tQIIIIILIE) x < N) (h0 : 0 ≤ left) (h1 : left ≤ 1048576) : laws_szTeamS N x left kf = kf (szr left (sizeV (.sl tQIIIIILIE) x)) := by
  have hl := wf_len hw
  have hm := maxLen_eq
  have hs := sizeV_len (t := tQIIIIILIE) x
  unfold laws_szTeamS
  rw [wrap64 (by omega) (by omega)]
  by_cases h : left - (x.length : Int) < 0
  · rw [decide_eq_true h, cond_true]
    unfold szr
    rw [if_neg (by omega)]
  · rw [decide_eq_false h, cond_false, laws_szTeamS_l5_r hl (by omega)]
    have hg := goL_sz (g := fun x s k => laws_szTeam N x s k) (sz := sizeV tQIIIIILIE) (kf := kf) x 0 (left - (x.length : Int)) (fun y hy s k b0 b1 => laws_szTeam_ok (hw.2 y hy) (by have := sizeV_mem (t := tQIIIIILIE) hy; omega) b0 b1) (by omega) (by omega)
    refine Eq.trans hg ?_
    rw [szr_sub (by omega), sizeV_def (t := tQIIIIILIE)]
theorem laws_toTeam_ok {x : QIIIIILIE} {N : Nat} {kf : QIIIIILIE → Option Ret} (hN : sizeV tQIIIIILIE x < N) (hb : sizeV tQIIIIILIE x ≤ 1048576) : laws_toTeam N x kf = kf x := by
  have hs : sizeV tQIIIIILIE x = sizeV (.sl (.int .i64)) x.2.2.2.2.2 := by simp [sizeV]
  rw [hs] at hN hb
  unfold laws_toTeam
  rw [laws_toIntS_ok (by omega) (by omega)]
theorem laws_toTeamS_ok {x : (List QIIIIILIE)} {N : Nat} {kf : (List QIIIIILIE) → Option Ret} (hN : sizeV (.sl tQIIIIILIE) x < N) (hb : sizeV (.sl tQIIIIILIE) x ≤ 1048576) : laws_toTeamS N x kf = kf x := by
  have hs := sizeV_len (t := tQIIIIILIE) x
  have hm := maxLen_eq
  unfold laws_toTeamS
  rw [lenDec (by omega), cond_true, laws_toTeamS_l3_r (by omega) (by omega)]
  have hg := goL_to (g := fun x k => laws_toTeam N x k) (kend := kf) x 0 (List.replicate (Int.toNat (x.length : Int)) ((0 : Int), ((0 : Int), ((0 : Int), ((0 : Int), ((0 : Int), ([] : (List Int)))))))) (fun y hy k => laws_toTeam_ok (by have := sizeV_mem (t := tQIIIIILIE) hy; omega) (by have := sizeV_mem (t := tQIIIIILIE) hy; omega)) (by simp)
  refine Eq.trans hg ?_
  simp
theorem laws_eqTeam_ok {x : QIIIIILIE} {N : Nat} {kf : Bool → Option Ret} (hN : sizeV tQIIIIILIE x < N) (hw : sizeV tQIIIIILIE x ≤ 2097152) : laws_eqTeam N x x kf = kf true := by
  have hs : sizeV tQIIIIILIE x = sizeV (.sl (.int .i64)) x.2.2.2.2.2 := by simp [sizeV]
  rw [hs] at hN hw
  unfold laws_eqTeam
  simp only [bne_self_eq_false, cond_false]
  rw [laws_eqIntS_ok (by omega) (by omega)]
  simp only [Bool.not_true, bne_self_eq_false, cond_false]
theorem laws_eqTeamS_ok {x : (List QIIIIILIE)} {N : Nat} {kf : Bool → Option Ret} (hN : sizeV (.sl tQIIIIILIE) x < N) (hw : sizeV (.sl tQIIIIILIE) x ≤ 2097152) : laws_eqTeamS N x x kf = kf true := by
  have hs := sizeV_len (t := tQIIIIILIE) x
  have hm := maxLen_eq
  unfold laws_eqTeamS
  simp only [bne_self_eq_false, cond_false]
  rw [laws_eqTeamS_l4_r (by omega) (by omega)]
  refine goL_eq (l := x) (fun i y next h e => ?_) x 0 rfl
  simp only [inB_nat h, Int.toNat_natCast, getD_nat _ i h, e, cond_true]
  have hy : y ∈ x := by rw [← e]; exact List.getElem_mem h
  rw [laws_eqTeam_ok (by have := sizeV_mem (t := tQIIIIILIE) hy; omega) (by have := sizeV_mem (t := tQIIIIILIE) hy; omega)]
  simp
end Go.Pv.R
