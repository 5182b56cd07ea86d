/- What the harness' functions answer. -/
import Derived.Test.YthdoldaaodmeeaaDoorPlLst
namespace Go.Pv.R
set_option linter.unusedVariables false
set_option linter.unusedSimpArgs false
theorem laws_toIntS_ok {x : (List Int)} {N : Nat} {kf : (List Int) → Option Ret} (hN : sizeV (.sl (.int .i64)) x < N) (hb : sizeV (.sl (.int .i64)) x ≤ 1048576) : laws_toIntS N x kf = kf x := by
  have hs := sizeV_len (t := (.int .i64)) x
  have hm := maxLen_eq
  unfold laws_toIntS
  rw [lenDec (by omega), cond_true, laws_toIntS_l3_r (by omega) (by omega)]
  have hg := goL_to (g := fun x k => k x) (kend := kf) x 0 (List.replicate (Int.toNat (x.length : Int)) (0 : Int)) (fun _ _ _ => rfl) (by simp)
  refine Eq.trans hg ?_
  simp
theorem laws_eqIntS_ok {x : (List Int)} {N : Nat} {kf : Bool → Option Ret} (hN : sizeV (.sl (.int .i64)) x < N) (hw : sizeV (.sl (.int .i64)) x ≤ 2097152) : laws_eqIntS N x x kf = kf true := by
  have hs := sizeV_len (t := (.int .i64)) x
  have hm := maxLen_eq
  unfold laws_eqIntS
  simp only [bne_self_eq_false, cond_false]
  rw [laws_eqIntS_l4_r (by omega) (by omega)]
  refine goL_eq (l := x) (fun i y next h e => ?_) x 0 rfl
  simp only [inB_nat h, Int.toNat_natCast, getD_nat _ i h, e, cond_true]
  simp
theorem laws_szIntS_ok {x : (List Int)} {N : Nat} {left : Int} {kf : Int → Option Ret} (hw : wf (.sl (.int .i64)) x) (hN : sizeV (.sl (.int .i64)) x < N) (h0 : 0 ≤ left) (h1 : left ≤ 1048576) : laws_szIntS N x left kf = kf (szr left (sizeV (.sl (.int .i64)) x)) := by
  have hl := wf_len hw
  have hm := maxLen_eq
  have hs := sizeV_len (t := (.int .i64)) x
  unfold laws_szIntS
  rw [wrap64 (by omega) (by omega)]
  rw [sizeV_sl (t := (.int .i64)) (by decide) x]
  unfold szr
  by_cases h : left - (x.length : Int) < 0
  · rw [decide_eq_true h, cond_true, if_neg (by omega)]
  · rw [decide_eq_false h, cond_false, if_pos (by omega)]
theorem laws_szPairS_ok {x : (List QIIE)} {N : Nat} {left : Int} {kf : Int → Option Ret} (hw : wf (.sl tQIIE) x) (hN : sizeV (.sl tQIIE) x < N) (h0 : 0 ≤ left) (h1 : left ≤ 1048576) : laws_szPairS N x left kf = kf (szr left (sizeV (.sl tQIIE) x)) := by
  have hl := wf_len hw
  have hm := maxLen_eq
  have hs := sizeV_len (t := tQIIE) x
  unfold laws_szPairS
  rw [wrap64 (by omega) (by omega)]
  rw [sizeV_sl (t := tQIIE) (by decide) x]
  unfold szr
  by_cases h : left - (x.length : Int) < 0
  · rw [decide_eq_true h, cond_true, if_neg (by omega)]
  · rw [decide_eq_false h, cond_false, if_pos (by omega)]
theorem laws_toPair_ok {x : QIIE} {N : Nat} {kf : QIIE → Option Ret} (hN : sizeV tQIIE x < N) (hb : sizeV tQIIE x ≤ 1048576) : laws_toPair N x kf = kf x := by
  have hs : sizeV tQIIE x = 0 := by simp [sizeV]
  rw [hs] at hN hb
  unfold laws_toPair
  rfl
theorem laws_toPairS_ok {x : (List QIIE)} {N : Nat} {kf : (List QIIE) → Option Ret} (hN : sizeV (.sl tQIIE) x < N) (hb : sizeV (.sl tQIIE) x ≤ 1048576) : laws_toPairS N x kf = kf x := by
  have hs := sizeV_len (t := tQIIE) x
  have hm := maxLen_eq
  unfold laws_toPairS
  rw [lenDec (by omega), cond_true, laws_toPairS_l3_r (by omega) (by omega)]
  have hg := goL_to (g := fun x k => laws_toPair N x k) (kend := kf) x 0 (List.replicate (Int.toNat (x.length : Int)) ((0 : Int), (0 : Int))) (fun y hy k => laws_toPair_ok (by have := sizeV_mem (t := tQIIE) hy; omega) (by have := sizeV_mem (t := tQIIE) hy; omega)) (by simp)
  refine Eq.trans hg ?_
  simp
theorem laws_eqPair_ok {x : QIIE} {N : Nat} {kf : Bool → Option Ret} (hN : sizeV tQIIE x < N) (hw : sizeV tQIIE x ≤ 2097152) : laws_eqPair N x x kf = kf true := by
  have hs : sizeV tQIIE x = 0 := by simp [sizeV]
  rw [hs] at hN hw
  unfold laws_eqPair
  simp only [bne_self_eq_false, cond_false]
theorem laws_eqPairS_ok {x : (List QIIE)} {N : Nat} {kf : Bool → Option Ret} (hN : sizeV (.sl tQIIE) x < N) (hw : sizeV (.sl tQIIE) x ≤ 2097152) : laws_eqPairS N x x kf = kf true := by
  have hs := sizeV_len (t := tQIIE) x
  have hm := maxLen_eq
  unfold laws_eqPairS
  simp only [bne_self_eq_false, cond_false]
  rw [laws_eqPairS_l4_r (by omega) (by omega)]
  refine goL_eq (l := x) (fun i y next h e => ?_) x 0 rfl
  simp only [inB_nat h, Int.toNat_natCast, getD_nat _ i h, e, cond_true]
  have hy : y ∈ x := by rw [← e]; exact List.getElem_mem h
  rw [laws_eqPair_ok (by have := sizeV_mem (t := tQIIE) hy; omega) (by have := sizeV_mem (t := tQIIE) hy; omega)]
  simp
theorem laws_szTeam_ok {x : QIIIIILIE} {N : Nat} {left : Int} {kf : Int → Option Ret} (hw : wf tQIIIIILIE x) (hN : sizeV tQIIIIILIE x < N) (h0 : 0 ≤ left) (h1 : left ≤ 1048576) : laws_szTeam N x left kf = kf (szr left (sizeV tQIIIIILIE x)) := by
  have hs : sizeV tQIIIIILIE x = sizeV (.sl (.int .i64)) x.2.2.2.2.2 := by simp [sizeV]
  rw [hs] at hN ⊢
  unfold laws_szTeam
  rw [laws_szIntS_ok hw.2.2.2.2.2 (by omega) h0 h1]
  by_cases c0 : szr left (sizeV (.sl (.int .i64)) x.2.2.2.2.2) < 0
  · rw [decide_eq_true c0, cond_true, szr_lt h0 c0 (by omega)]
  rw [decide_eq_false c0, cond_false]
theorem laws_szTeamS_ok {x : (List QIIIIILIE)} {N : Nat} {left : Int} {kf : Int → Option Ret} (hw : wf (.sl tQIIIIILIE) x) (hN : sizeV (.sl tQIIIIILIE) x < N) (h0 : 0 ≤ left) (h1 : left ≤ 1048576) : laws_szTeamS N x left kf = kf (szr left (sizeV (.sl tQIIIIILIE) x)) := by
  have hl := wf_len hw
  have hm := maxLen_eq
  have hs := sizeV_len (t := tQIIIIILIE) x
  unfold laws_szTeamS
  rw [wrap64 (by omega) (by omega)]
  by_cases h : left - (x.length : Int) < 0
  · rw [decide_eq_true h, cond_true]
    unfold szr
    rw [if_neg (by omega)]
  · rw [decide_eq_false h, cond_false, laws_szTeamS_l5_r hl (by omega)]
    have hg := goL_sz (g := fun x s k => laws_szTeam N x s k) (sz := sizeV tQIIIIILIE) (kf := kf) x 0 (left - (x.length : Int)) (fun y hy s k b0 b1 => laws_szTeam_ok (hw.2 y hy) (by have := sizeV_mem (t := tQIIIIILIE) hy; omega) b0 b1) (by omega) (by omega)
    refine Eq.trans hg ?_
    rw [szr_sub (by omega), sizeV_def (t := tQIIIIILIE)]
theorem laws_toTeam_ok {x : QIIIIILIE} {N : Nat} {kf : QIIIIILIE → Option Ret} (hN : sizeV tQIIIIILIE x < N) (hb : sizeV tQIIIIILIE x ≤ 1048576) : laws_toTeam N x kf = kf x := by
  have hs : sizeV tQIIIIILIE x = sizeV (.sl (.int .i64)) x.2.2.2.2.2 := by simp [sizeV]
  rw [hs] at hN hb
  unfold laws_toTeam
  rw [laws_toIntS_ok (by omega) (by omega)]
theorem laws_toTeamS_ok {x : (List QIIIIILIE)} {N : Nat} {kf : (List QIIIIILIE) → Option Ret} (hN : sizeV (.sl tQIIIIILIE) x < N) (hb : sizeV (.sl tQIIIIILIE) x ≤ 1048576) : laws_toTeamS N x kf = kf x := by
  have hs := sizeV_len (t := tQIIIIILIE) x
  have hm := maxLen_eq
  unfold laws_toTeamS
  rw [lenDec (by omega), cond_true, laws_toTeamS_l3_r (by omega) (by omega)]
  have hg := goL_to (g := fun x k => laws_toTeam N x k) (kend := kf) x 0 (List.replicate (Int.toNat (x.length : Int)) ((0 : Int), ((0 : Int), ((0 : Int), ((0 : Int), ((0 : Int), ([] : (List Int)))))))) (fun y hy k => laws_toTeam_ok (by have := sizeV_mem (t := tQIIIIILIE) hy; omega) (by have := sizeV_mem (t := tQIIIIILIE) hy; omega)) (by simp)
  refine Eq.trans hg ?_
  simp
theorem laws_eqTeam_ok {x : QIIIIILIE} {N : Nat} {kf : Bool → Option Ret} (hN : sizeV tQIIIIILIE x < N) (hw : sizeV tQIIIIILIE x ≤ 2097152) : laws_eqTeam N x x kf = kf true := by
  have hs : sizeV tQIIIIILIE x = sizeV (.sl (.int .i64)) x.2.2.2.2.2 := by simp [sizeV]
  rw [hs] at hN hw
  unfold laws_eqTeam
  simp only [bne_self_eq_false, cond_false]
  rw [laws_eqIntS_ok (by omega) (by omega)]
  simp only [Bool.not_true, bne_self_eq_false, cond_false]
theorem laws_eqTeamS_ok {x : (List QIIIIILIE)} {N : Nat} {kf : Bool → Option Ret} (hN : sizeV (.sl tQIIIIILIE) x < N) (hw : sizeV (.sl tQIIIIILIE) x ≤ 2097152) : laws_eqTeamS N x x kf = kf true := by
  have hs := sizeV_len (t := tQIIIIILIE) x
  have hm := maxLen_eq
  unfold laws_eqTeamS
  simp only [bne_self_eq_false, cond_false]
  rw [laws_eqTeamS_l4_r (by omega) (by omega)]
  refine goL_eq (l := x) (fun i y next h e => ?_) x 0 rfl
  simp only [inB_nat h, Int.toNat_natCast, getD_nat _ i h, e, cond_true]
  have hy : y ∈ x := by rw [← e]; exact List.getElem_mem h
  rw [laws_eqTeam_ok (by have := sizeV_mem (t := tQIIIIILIE) hy; omega) (by have := sizeV_mem (t := tQIIIIILIE) hy; omega)]
  simp
theorem laws_szJudge_ok {x : QIILIE} {N : Nat} {left : Int} {kf : Int → Option Ret} (hw : wf tQIILIE x) (hN : sizeV tQIILIE x < N) (h0 : 0 ≤ left) (h1 : left ≤ 1048576) : laws_szJudge N x left kf = kf (szr left (sizeV tQIILIE x)) := by
  have hs : sizeV tQIILIE x = sizeV (.sl (.int .i64)) x.2.2 := by simp [sizeV]
  rw [hs] at hN ⊢
  unfold laws_szJudge
  rw [laws_szIntS_ok hw.2.2 (by omega) h0 h1]
  by_cases c0 : szr left (sizeV (.sl (.int .i64)) x.2.2) < 0
  · rw [decide_eq_true c0, cond_true, szr_lt h0 c0 (by omega)]
  rw [decide_eq_false c0, cond_false]
theorem laws_szJudgeS_ok {x : (List QIILIE)} {N : Nat} {left : Int} {kf : Int → Option Ret} (hw : wf (.sl tQIILIE) x) (hN : sizeV (.sl tQIILIE) x < N) (h0 : 0 ≤ left) (h1 : left ≤ 1048576) : laws_szJudgeS N x left kf = kf (szr left (sizeV (.sl tQIILIE) x)) := by
  have hl := wf_len hw
  have hm := maxLen_eq
  have hs := sizeV_len (t := tQIILIE) x
  unfold laws_szJudgeS
  rw [wrap64 (by omega) (by omega)]
  by_cases h : left - (x.length : Int) < 0
  · rw [decide_eq_true h, cond_true]
    unfold szr
    rw [if_neg (by omega)]
  · rw [decide_eq_false h, cond_false, laws_szJudgeS_l5_r hl (by omega)]
    have hg := goL_sz (g := fun x s k => laws_szJudge N x s k) (sz := sizeV tQIILIE) (kf := kf) x 0 (left - (x.length : Int)) (fun y hy s k b0 b1 => laws_szJudge_ok (hw.2 y hy) (by have := sizeV_mem (t := tQIILIE) hy; omega) b0 b1) (by omega) (by omega)
    refine Eq.trans hg ?_
    rw [szr_sub (by omega), sizeV_def (t := tQIILIE)]
theorem laws_szBallotS_ok {x : (List QIIIE)} {N : Nat} {left : Int} {kf : Int → Option Ret} (hw : wf (.sl tQIIIE) x) (hN : sizeV (.sl tQIIIE) x < N) (h0 : 0 ≤ left) (h1 : left ≤ 1048576) : laws_szBallotS N x left kf = kf (szr left (sizeV (.sl tQIIIE) x)) := by
  have hl := wf_len hw
  have hm := maxLen_eq
  have hs := sizeV_len (t := tQIIIE) x
  unfold laws_szBallotS
  rw [wrap64 (by omega) (by omega)]
  rw [sizeV_sl (t := tQIIIE) (by decide) x]
  unfold szr
  by_cases h : left - (x.length : Int) < 0
  · rw [decide_eq_true h, cond_true, if_neg (by omega)]
  · rw [decide_eq_false h, cond_false, if_pos (by omega)]
theorem laws_szLineS_ok {x : (List QIIIIE)} {N : Nat} {left : Int} {kf : Int → Option Ret} (hw : wf (.sl tQIIIIE) x) (hN : sizeV (.sl tQIIIIE) x < N) (h0 : 0 ≤ left) (h1 : left ≤ 1048576) : laws_szLineS N x left kf = kf (szr left (sizeV (.sl tQIIIIE) x)) := by
  have hl := wf_len hw
  have hm := maxLen_eq
  have hs := sizeV_len (t := tQIIIIE) x
  unfold laws_szLineS
  rw [wrap64 (by omega) (by omega)]
  rw [sizeV_sl (t := tQIIIIE) (by decide) x]
  unfold szr
  by_cases h : left - (x.length : Int) < 0
  · rw [decide_eq_true h, cond_true, if_neg (by omega)]
  · rw [decide_eq_false h, cond_false, if_pos (by omega)]
theorem laws_szClub_ok {x : QLQIIIIILIELQIILIELQIIELILQIIIELQIIIIEIE} {N : Nat} {left : Int} {kf : Int → Option Ret} (hw : wf tQLQIIIIILIELQIILIELQIIELILQIIIELQIIIIEIE x) (hN : sizeV tQLQIIIIILIELQIILIELQIIELILQIIIELQIIIIEIE x < N) (h0 : 0 ≤ left) (h1 : left ≤ 1048576) : laws_szClub N x left kf = kf (szr left (sizeV tQLQIIIIILIELQIILIELQIIELILQIIIELQIIIIEIE x)) := by
  have hs : sizeV tQLQIIIIILIELQIILIELQIIELILQIIIELQIIIIEIE x = sizeV (.sl tQIIIIILIE) x.1 + sizeV (.sl tQIILIE) x.2.1 + sizeV (.sl tQIIE) x.2.2.1 + sizeV (.sl (.int .i64)) x.2.2.2.1 + sizeV (.sl tQIIIE) x.2.2.2.2.1 + sizeV (.sl tQIIIIE) x.2.2.2.2.2.1 := by simp [sizeV]; omega
  rw [hs] at hN ⊢
  unfold laws_szClub
  rw [laws_szTeamS_ok hw.1 (by omega) h0 h1]
  by_cases c0 : szr left (sizeV (.sl tQIIIIILIE) x.1) < 0
  · rw [decide_eq_true c0, cond_true, szr_lt h0 c0 (by omega)]
  rw [decide_eq_false c0, cond_false]
  obtain ⟨p0, q0⟩ := szr_bound h0 h1 c0
  rw [laws_szJudgeS_ok hw.2.1 (by omega) p0 q0, szr_then h0 c0]
  by_cases c1 : szr left (sizeV (.sl tQIIIIILIE) x.1 + sizeV (.sl tQIILIE) x.2.1) < 0
  · rw [decide_eq_true c1, cond_true, szr_lt h0 c1 (by omega)]
  rw [decide_eq_false c1, cond_false]
  obtain ⟨p1, q1⟩ := szr_bound h0 h1 c1
  rw [laws_szPairS_ok hw.2.2.1 (by omega) p1 q1, szr_then h0 c1]
  by_cases c2 : szr left (sizeV (.sl tQIIIIILIE) x.1 + sizeV (.sl tQIILIE) x.2.1 + sizeV (.sl tQIIE) x.2.2.1) < 0
  · rw [decide_eq_true c2, cond_true, szr_lt h0 c2 (by omega)]
  rw [decide_eq_false c2, cond_false]
  obtain ⟨p2, q2⟩ := szr_bound h0 h1 c2
  rw [laws_szIntS_ok hw.2.2.2.1 (by omega) p2 q2, szr_then h0 c2]
  by_cases c3 : szr left (sizeV (.sl tQIIIIILIE) x.1 + sizeV (.sl tQIILIE) x.2.1 + sizeV (.sl tQIIE) x.2.2.1 + sizeV (.sl (.int .i64)) x.2.2.2.1) < 0
  · rw [decide_eq_true c3, cond_true, szr_lt h0 c3 (by omega)]
  rw [decide_eq_false c3, cond_false]
  obtain ⟨p3, q3⟩ := szr_bound h0 h1 c3
  rw [laws_szBallotS_ok hw.2.2.2.2.1 (by omega) p3 q3, szr_then h0 c3]
  by_cases c4 : szr left (sizeV (.sl tQIIIIILIE) x.1 + sizeV (.sl tQIILIE) x.2.1 + sizeV (.sl tQIIE) x.2.2.1 + sizeV (.sl (.int .i64)) x.2.2.2.1 + sizeV (.sl tQIIIE) x.2.2.2.2.1) < 0
  · rw [decide_eq_true c4, cond_true, szr_lt h0 c4 (by omega)]
  rw [decide_eq_false c4, cond_false]
  obtain ⟨p4, q4⟩ := szr_bound h0 h1 c4
  rw [laws_szLineS_ok hw.2.2.2.2.2.1 (by omega) p4 q4, szr_then h0 c4]
  by_cases c5 : szr left (sizeV (.sl tQIIIIILIE) x.1 + sizeV (.sl tQIILIE) x.2.1 + sizeV (.sl tQIIE) x.2.2.1 + sizeV (.sl (.int .i64)) x.2.2.2.1 + sizeV (.sl tQIIIE) x.2.2.2.2.1 + sizeV (.sl tQIIIIE) x.2.2.2.2.2.1) < 0
  · rw [decide_eq_true c5, cond_true, szr_lt h0 c5 (by omega)]
  rw [decide_eq_false c5, cond_false]
theorem laws_toJudge_ok {x : QIILIE} {N : Nat} {kf : QIILIE → Option Ret} (hN : sizeV tQIILIE x < N) (hb : sizeV tQIILIE x ≤ 1048576) : laws_toJudge N x kf = kf x := by
  have hs : sizeV tQIILIE x = sizeV (.sl (.int .i64)) x.2.2 := by simp [sizeV]
  rw [hs] at hN hb
  unfold laws_toJudge
  rw [laws_toIntS_ok (by omega) (by omega)]
theorem laws_toJudgeS_ok {x : (List QIILIE)} {N : Nat} {kf : (List QIILIE) → Option Ret} (hN : sizeV (.sl tQIILIE) x < N) (hb : sizeV (.sl tQIILIE) x ≤ 1048576) : laws_toJudgeS N x kf = kf x := by
  have hs := sizeV_len (t := tQIILIE) x
  have hm := maxLen_eq
  unfold laws_toJudgeS
  rw [lenDec (by omega), cond_true, laws_toJudgeS_l3_r (by omega) (by omega)]
  have hg := goL_to (g := fun x k => laws_toJudge N x k) (kend := kf) x 0 (List.replicate (Int.toNat (x.length : Int)) ((0 : Int), ((0 : Int), ([] : (List Int))))) (fun y hy k => laws_toJudge_ok (by have := sizeV_mem (t := tQIILIE) hy; omega) (by have := sizeV_mem (t := tQIILIE) hy; omega)) (by simp)
  refine Eq.trans hg ?_
  simp
theorem laws_toBallot_ok {x : QIIIE} {N : Nat} {kf : QIIIE → Option Ret} (hN : sizeV tQIIIE x < N) (hb : sizeV tQIIIE x ≤ 1048576) : laws_toBallot N x kf = kf x := by
  have hs : sizeV tQIIIE x = 0 := by simp [sizeV]
  rw [hs] at hN hb
  unfold laws_toBallot
  rfl
theorem laws_toBallotS_ok {x : (List QIIIE)} {N : Nat} {kf : (List QIIIE) → Option Ret} (hN : sizeV (.sl tQIIIE) x < N) (hb : sizeV (.sl tQIIIE) x ≤ 1048576) : laws_toBallotS N x kf = kf x := by
  have hs := sizeV_len (t := tQIIIE) x
  have hm := maxLen_eq
  unfold laws_toBallotS
  rw [lenDec (by omega), cond_true, laws_toBallotS_l3_r (by omega) (by omega)]
  have hg := goL_to (g := fun x k => laws_toBallot N x k) (kend := kf) x 0 (List.replicate (Int.toNat (x.length : Int)) ((0 : Int), ((0 : Int), (0 : Int)))) (fun y hy k => laws_toBallot_ok (by have := sizeV_mem (t := tQIIIE) hy; omega) (by have := sizeV_mem (t := tQIIIE) hy; omega)) (by simp)
  refine Eq.trans hg ?_
  simp
theorem laws_toLine_ok {x : QIIIIE} {N : Nat} {kf : QIIIIE → Option Ret} (hN : sizeV tQIIIIE x < N) (hb : sizeV tQIIIIE x ≤ 1048576) : laws_toLine N x kf = kf x := by
  have hs : sizeV tQIIIIE x = 0 := by simp [sizeV]
  rw [hs] at hN hb
  unfold laws_toLine
  rfl
theorem laws_toLineS_ok {x : (List QIIIIE)} {N : Nat} {kf : (List QIIIIE) → Option Ret} (hN : sizeV (.sl tQIIIIE) x < N) (hb : sizeV (.sl tQIIIIE) x ≤ 1048576) : laws_toLineS N x kf = kf x := by
  have hs := sizeV_len (t := tQIIIIE) x
  have hm := maxLen_eq
  unfold laws_toLineS
  rw [lenDec (by omega), cond_true, laws_toLineS_l3_r (by omega) (by omega)]
  have hg := goL_to (g := fun x k => laws_toLine N x k) (kend := kf) x 0 (List.replicate (Int.toNat (x.length : Int)) ((0 : Int), ((0 : Int), ((0 : Int), (0 : Int))))) (fun y hy k => laws_toLine_ok (by have := sizeV_mem (t := tQIIIIE) hy; omega) (by have := sizeV_mem (t := tQIIIIE) hy; omega)) (by simp)
  refine Eq.trans hg ?_
  simp
theorem laws_toClub_ok {x : QLQIIIIILIELQIILIELQIIELILQIIIELQIIIIEIE} {N : Nat} {kf : QLQIIIIILIELQIILIELQIIELILQIIIELQIIIIEIE → Option Ret} (hN : sizeV tQLQIIIIILIELQIILIELQIIELILQIIIELQIIIIEIE x < N) (hb : sizeV tQLQIIIIILIELQIILIELQIIELILQIIIELQIIIIEIE x ≤ 1048576) : laws_toClub N x kf = kf x := by
  have hs : sizeV tQLQIIIIILIELQIILIELQIIELILQIIIELQIIIIEIE x = sizeV (.sl tQIIIIILIE) x.1 + sizeV (.sl tQIILIE) x.2.1 + sizeV (.sl tQIIE) x.2.2.1 + sizeV (.sl (.int .i64)) x.2.2.2.1 + sizeV (.sl tQIIIE) x.2.2.2.2.1 + sizeV (.sl tQIIIIE) x.2.2.2.2.2.1 := by simp [sizeV]; omega
  rw [hs] at hN hb
  unfold laws_toClub
  rw [laws_toTeamS_ok (by omega) (by omega)]
  rw [laws_toJudgeS_ok (by omega) (by omega)]
  rw [laws_toPairS_ok (by omega) (by omega)]
  rw [laws_toIntS_ok (by omega) (by omega)]
  rw [laws_toBallotS_ok (by omega) (by omega)]
  rw [laws_toLineS_ok (by omega) (by omega)]
theorem laws_eqJudge_ok {x : QIILIE} {N : Nat} {kf : Bool → Option Ret} (hN : sizeV tQIILIE x < N) (hw : sizeV tQIILIE x ≤ 2097152) : laws_eqJudge N x x kf = kf true := by
  have hs : sizeV tQIILIE x = sizeV (.sl (.int .i64)) x.2.2 := by simp [sizeV]
  rw [hs] at hN hw
  unfold laws_eqJudge
  simp only [bne_self_eq_false, cond_false]
  rw [laws_eqIntS_ok (by omega) (by omega)]
  simp only [Bool.not_true, bne_self_eq_false, cond_false]
theorem laws_eqJudgeS_ok {x : (List QIILIE)} {N : Nat} {kf : Bool → Option Ret} (hN : sizeV (.sl tQIILIE) x < N) (hw : sizeV (.sl tQIILIE) x ≤ 2097152) : laws_eqJudgeS N x x kf = kf true := by
  have hs := sizeV_len (t := tQIILIE) x
  have hm := maxLen_eq
  unfold laws_eqJudgeS
  simp only [bne_self_eq_false, cond_false]
  rw [laws_eqJudgeS_l4_r (by omega) (by omega)]
  refine goL_eq (l := x) (fun i y next h e => ?_) x 0 rfl
  simp only [inB_nat h, Int.toNat_natCast, getD_nat _ i h, e, cond_true]
  have hy : y ∈ x := by rw [← e]; exact List.getElem_mem h
  rw [laws_eqJudge_ok (by have := sizeV_mem (t := tQIILIE) hy; omega) (by have := sizeV_mem (t := tQIILIE) hy; omega)]
  simp
theorem laws_eqBallot_ok {x : QIIIE} {N : Nat} {kf : Bool → Option Ret} (hN : sizeV tQIIIE x < N) (hw : sizeV tQIIIE x ≤ 2097152) : laws_eqBallot N x x kf = kf true := by
  have hs : sizeV tQIIIE x = 0 := by simp [sizeV]
  rw [hs] at hN hw
  unfold laws_eqBallot
  simp only [bne_self_eq_false, cond_false]
theorem laws_eqBallotS_ok {x : (List QIIIE)} {N : Nat} {kf : Bool → Option Ret} (hN : sizeV (.sl tQIIIE) x < N) (hw : sizeV (.sl tQIIIE) x ≤ 2097152) : laws_eqBallotS N x x kf = kf true := by
  have hs := sizeV_len (t := tQIIIE) x
  have hm := maxLen_eq
  unfold laws_eqBallotS
  simp only [bne_self_eq_false, cond_false]
  rw [laws_eqBallotS_l4_r (by omega) (by omega)]
  refine goL_eq (l := x) (fun i y next h e => ?_) x 0 rfl
  simp only [inB_nat h, Int.toNat_natCast, getD_nat _ i h, e, cond_true]
  have hy : y ∈ x := by rw [← e]; exact List.getElem_mem h
  rw [laws_eqBallot_ok (by have := sizeV_mem (t := tQIIIE) hy; omega) (by have := sizeV_mem (t := tQIIIE) hy; omega)]
  simp
theorem laws_eqLine_ok {x : QIIIIE} {N : Nat} {kf : Bool → Option Ret} (hN : sizeV tQIIIIE x < N) (hw : sizeV tQIIIIE x ≤ 2097152) : laws_eqLine N x x kf = kf true := by
  have hs : sizeV tQIIIIE x = 0 := by simp [sizeV]
  rw [hs] at hN hw
  unfold laws_eqLine
  simp only [bne_self_eq_false, cond_false]
theorem laws_eqLineS_ok {x : (List QIIIIE)} {N : Nat} {kf : Bool → Option Ret} (hN : sizeV (.sl tQIIIIE) x < N) (hw : sizeV (.sl tQIIIIE) x ≤ 2097152) : laws_eqLineS N x x kf = kf true := by
  have hs := sizeV_len (t := tQIIIIE) x
  have hm := maxLen_eq
  unfold laws_eqLineS
  simp only [bne_self_eq_false, cond_false]
  rw [laws_eqLineS_l4_r (by omega) (by omega)]
  refine goL_eq (l := x) (fun i y next h e => ?_) x 0 rfl
  simp only [inB_nat h, Int.toNat_natCast, getD_nat _ i h, e, cond_true]
  have hy : y ∈ x := by rw [← e]; exact List.getElem_mem h
  rw [laws_eqLine_ok (by have := sizeV_mem (t := tQIIIIE) hy; omega) (by have := sizeV_mem (t := tQIIIIE) hy; omega)]
  simp
theorem laws_eqClub_ok {x : QLQIIIIILIELQIILIELQIIELILQIIIELQIIIIEIE} {N : Nat} {kf : Bool → Option Ret} (hN : sizeV tQLQIIIIILIELQIILIELQIIELILQIIIELQIIIIEIE x < N) (hw : sizeV tQLQIIIIILIELQIILIELQIIELILQIIIELQIIIIEIE x ≤ 2097152) : laws_eqClub N x x kf = kf true := by
  have hs : sizeV tQLQIIIIILIELQIILIELQIIELILQIIIELQIIIIEIE x = sizeV (.sl tQIIIIILIE) x.1 + sizeV (.sl tQIILIE) x.2.1 + sizeV (.sl tQIIE) x.2.2.1 + sizeV (.sl (.int .i64)) x.2.2.2.1 + sizeV (.sl tQIIIE) x.2.2.2.2.1 + sizeV (.sl tQIIIIE) x.2.2.2.2.2.1 := by simp [sizeV]; omega
  rw [hs] at hN hw
  unfold laws_eqClub
  simp only [bne_self_eq_false, cond_false]
  rw [laws_eqTeamS_ok (by omega) (by omega)]
  simp only [Bool.not_true, bne_self_eq_false, cond_false]
  rw [laws_eqJudgeS_ok (by omega) (by omega)]
  simp only [Bool.not_true, bne_self_eq_false, cond_false]
  rw [laws_eqPairS_ok (by omega) (by omega)]
  simp only [Bool.not_true, bne_self_eq_false, cond_false]
  rw [laws_eqIntS_ok (by omega) (by omega)]
  simp only [Bool.not_true, bne_self_eq_false, cond_false]
  rw [laws_eqBallotS_ok (by omega) (by omega)]
  simp only [Bool.not_true, bne_self_eq_false, cond_false]
  rw [laws_eqLineS_ok (by omega) (by omega)]
  simp only [Bool.not_true, bne_self_eq_false, cond_false]
end Go.Pv.R
