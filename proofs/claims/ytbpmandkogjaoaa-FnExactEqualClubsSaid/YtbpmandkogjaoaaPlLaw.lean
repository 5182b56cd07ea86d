/- The law over the plain functions. -/
import Derived.Test.YtbpmandkogjaoaaPlHz
namespace Go.Pv.R
set_option linter.unusedVariables false
set_option linter.unusedSimpArgs false
end Go.Pv.R
namespace Go.Pv.R
set_option linter.unusedVariables false
set_option linter.unusedSimpArgs false
/-- What is asked first: is it all small? -/
theorem small_or {left : Int} {s : Nat} {A B : Option Ret} (h0 : 0 ≤ left) (h : (s : Int) ≤ left → B = A) : (bif decide (szr left s < 0) then A else B) = A := by
  by_cases hn : szr left s < 0
  · rw [decide_eq_true hn]; rfl
  · rw [decide_eq_false hn, cond_false]
    exact h (by have := (szr_neg (s := s) h0); omega)
end Go.Pv.R
namespace Go.Pv.R
set_option linter.unusedVariables false
set_option linter.unusedSimpArgs false
end Go.Pv.R
namespace Go.Pv
set_option linter.unusedVariables false
set_option linter.unusedSimpArgs false
end Go.Pv
namespace Go.Pv.R
set_option linter.unusedVariables false
set_option linter.unusedSimpArgs false
abbrev Team := QIIIIILIE
abbrev Team.met (x : Team) : List Int := x.2.2.2.2.2
theorem teams_small {l : List Team} {N : Nat} (hw : wf (.sl tQIIIIILIE) l) (hN : sizeV (.sl tQIIIIILIE) l < N) : ∀ x ∈ l, x.met.length ≤ maxLen ∧ x.met.length < N := fun x hx => by
  have h1 := sizeV_mem (t := tQIIIIILIE) hx
  have h2 : sizeV tQIIIIILIE x = sizeV (.sl (.int .i64)) x.2.2.2.2.2 := by simp [sizeV]
  have h3 := sizeV_len (t := .int .i64) x.2.2.2.2.2
  exact ⟨(hw.2 x hx).2.2.2.2.2.1, by show x.2.2.2.2.2.length < N; omega⟩
end Go.Pv.R
namespace Go.Pv
set_option linter.unusedVariables false
set_option linter.unusedSimpArgs false
end Go.Pv
namespace Go.Pv.R
set_option linter.unusedVariables false
set_option linter.unusedSimpArgs false
abbrev Judge := QIILIE
theorem judges_small {l : List Judge} {N : Nat} (hw : wf (.sl tQIILIE) l) (hN : sizeV (.sl tQIILIE) l < N) : ∀ x ∈ l, x.2.2.length ≤ maxLen ∧ x.2.2.length < N := fun x hx => by
  have h1 := sizeV_mem (t := tQIILIE) hx
  have h2 : sizeV tQIILIE x = sizeV (.sl (.int .i64)) x.2.2 := by simp [sizeV]
  have h3 := sizeV_len (t := .int .i64) x.2.2
  exact ⟨(hw.2 x hx).2.2.1, by omega⟩
end Go.Pv.R
namespace Go.Pv.R
set_option linter.unusedVariables false
set_option linter.unusedSimpArgs false
end Go.Pv.R
namespace Go.Pv.R
set_option linter.unusedVariables false
set_option linter.unusedSimpArgs false
abbrev Club := QLQIIIIILIELQIILIELQIIELILQIIIELQIIIIEIE
/-- A club that is small enough, and rounds enough. -/
structure ClubOK (c : Club) (N : Nat) : Prop where
  tl : c.1.length ≤ maxLen
  tm : ∀ x : Team, x ∈ c.1 → x.met.length ≤ maxLen ∧ x.met.length < N
  tN : c.1.length < N
  jl : c.2.1.length ≤ maxLen
  jm : ∀ x ∈ c.2.1, x.2.2.length ≤ maxLen ∧ x.2.2.length < N
  jN : c.2.1.length < N
  rl : c.2.2.1.length ≤ 1048576
  rN : 2 * c.2.2.1.length < N
  sl : c.2.2.2.1.length ≤ 1048576
  sN : c.2.2.2.1.length < N
  bl : c.2.2.2.2.1.length ≤ 1048576
  bN : c.2.2.2.2.1.length < N
  ml : c.2.2.2.2.2.1.length ≤ 1048576
  mN : c.2.2.2.2.2.1.length < N
  n8 : 8 < N
  tb : c.1.length ≤ 1048576
  tmb : ∀ x : Team, x ∈ c.1 → x.met.length ≤ 1048576
theorem sizeV_club (c : Club) : sizeV tQLQIIIIILIELQIILIELQIIELILQIIIELQIIIIEIE c = sizeV (.sl tQIIIIILIE) c.1 + (sizeV (.sl tQIILIE) c.2.1 + (sizeV (.sl tQIIE) c.2.2.1 + (sizeV (.sl (.int .i64)) c.2.2.2.1 + (sizeV (.sl tQIIIE) c.2.2.2.2.1 + sizeV (.sl tQIIIIE) c.2.2.2.2.2.1)))) := rfl
theorem club_ok {c : Club} {N : Nat} (hw : wf tQLQIIIIILIELQIILIELQIIELILQIIIELQIIIIEIE c) (hb : sizeV tQLQIIIIILIELQIILIELQIIELILQIIIELQIIIIEIE c ≤ 1048576) (hN : 2 * sizeV tQLQIIIIILIELQIILIELQIIELILQIIIELQIIIIEIE c + 8 < N) : ClubOK c N := by
  have hs := sizeV_club c
  have h1 := sizeV_len (t := tQIIIIILIE) c.1
  have h2 := sizeV_len (t := tQIILIE) c.2.1
  have h3 := sizeV_len (t := tQIIE) c.2.2.1
  have h4 := sizeV_len (t := .int .i64) c.2.2.2.1
  have h5 := sizeV_len (t := tQIIIE) c.2.2.2.2.1
  have h6 := sizeV_len (t := tQIIIIE) c.2.2.2.2.2.1
  have hm := maxLen_eq
  exact ⟨by omega, teams_small hw.1 (by omega), by omega, by omega, judges_small hw.2.1 (by omega), by omega, by omega, by omega, by omega, by omega, by omega, by omega, by omega, by omega, by omega, by omega, fun x hx => by
    have q1 := sizeV_mem (t := tQIIIIILIE) hx
    have q2 : sizeV tQIIIIILIE x = sizeV (.sl (.int .i64)) x.2.2.2.2.2 := by simp [sizeV]
    have q3 := sizeV_len (t := .int .i64) x.2.2.2.2.2
    show x.2.2.2.2.2.length ≤ 1048576
    omega⟩
end Go.Pv.R
namespace Go.Pv
set_option linter.unusedVariables false
set_option linter.unusedSimpArgs false
theorem goL_same {α : Type} [DecidableEq α] {xs ys : List α} {body : Nat → α → Option Ret → Option Ret} {kt kf : Option Ret} (hlen : xs.length = ys.length)
    (hb : ∀ (i : Nat) (x : α) (next : Option Ret) (h : i < xs.length) (h' : i < ys.length), xs[i] = x → body i x next = bif decide (x = ys[i]) then next else kf) : goL body kt xs 0 = bif decide (xs = ys) then kt else kf := by
  have key : ∀ (r : List α) (i : Nat), xs.drop i = r → xs.take i = ys.take i → goL body kt r i = bif decide (xs = ys) then kt else kf := by
    intro r
    induction r with
    | nil =>
      intro i hd he
      have : xs.length ≤ i := by have := congrArg List.length hd; simp at this; omega
      rw [List.take_of_length_le this, List.take_of_length_le (by omega)] at he
      rw [decide_eq_true he]; rfl
    | cons x r ih =>
      intro i hd he
      have hlt : i < xs.length := by have := congrArg List.length hd; simp at this; omega
      rw [List.drop_eq_getElem_cons hlt] at hd
      injection hd with h1 h2
      simp only [goL]
      rw [hb i x _ hlt (by omega) h1]
      by_cases hx : x = ys[i]
      · rw [decide_eq_true hx, cond_true, ih (i + 1) h2 (by rw [List.take_succ_eq_append_getElem hlt, List.take_succ_eq_append_getElem (by omega), he, h1, hx])]
      · rw [decide_eq_false hx, cond_false]
        have : ¬ xs = ys := fun e => hx (by rw [← h1]; simp only [e])
        rw [decide_eq_false this]; rfl
  exact key xs 0 rfl rfl
theorem lens {α β : Type} {xs : List α} {ys : List β} {A B : Option Ret} {p : Bool} {kf : Bool → Option Ret} (h : xs.length = ys.length → B = kf p) (h' : xs.length ≠ ys.length → p = false) : (bif ((List.length xs : Int) != (List.length ys : Int)) then kf false else B) = kf p := by
  by_cases hl : xs.length = ys.length
  · have : ((xs.length : Int) != (ys.length : Int)) = false := by rw [hl]; exact bne_self_eq_false _
    rw [this, cond_false, h hl]
  · have : ((xs.length : Int) != (ys.length : Int)) = true := by rw [bne_iff_ne]; omega
    rw [this, cond_true, h' hl]
end Go.Pv
namespace Go.Pv.R
set_option linter.unusedVariables false
set_option linter.unusedSimpArgs false
theorem spec_EqualInts_ok {N : Nat} {a b : List Int} {kf : Bool → Option Ret} (hl : a.length ≤ maxLen) (hN : a.length < N) : spec_EqualInts N a b kf = kf (decide (a = b)) := by
  unfold spec_EqualInts
  refine lens (A := kf true) (fun h => ?_) (fun h => decide_eq_false fun e => h (by rw [e]))
  rw [spec_EqualInts_l4_r hl hN, goL_same h (kf := kf false) (fun i x next hi hi' e => ?_)]
  · cases decide (a = b) <;> rfl
  · rw [inB_nat hi', cond_true, Int.toNat_natCast, getD_nat _ _ hi']
    by_cases hx : x = b[i]
    · simp [hx]
    · have : (x != b[i]) = true := by simpa using hx
      rw [this, decide_eq_false hx]; rfl
theorem slices_Equal_int_ok {N : Nat} {a b : List Int} {kf : Bool → Option Ret} (hl : a.length ≤ maxLen) (hN : a.length < N) : slices_Equal_int N a b kf = kf (decide (a = b)) := by
  unfold slices_Equal_int
  refine lens (A := kf true) (fun h => ?_) (fun h => decide_eq_false fun e => h (by rw [e]))
  rw [slices_Equal_int_l4_r hl hN, goL_same h (kf := kf false) (fun i x next hi hi' e => ?_)]
  · cases decide (a = b) <;> rfl
  · rw [inB_nat hi', cond_true, Int.toNat_natCast, getD_nat _ _ hi']
    by_cases hx : x = b[i]
    · simp [hx]
    · have : (x != b[i]) = true := by simpa using hx
      rw [this, decide_eq_false hx]; rfl
theorem slices_Equal_Pair_ok {N : Nat} {a b : List QIIE} {kf : Bool → Option Ret} (hl : a.length ≤ maxLen) (hN : a.length < N) : slices_Equal_Pair N a b kf = kf (decide (a = b)) := by
  unfold slices_Equal_Pair
  refine lens (A := kf true) (fun h => ?_) (fun h => decide_eq_false fun e => h (by rw [e]))
  rw [slices_Equal_Pair_l4_r hl hN, goL_same h (kf := kf false) (fun i x next hi hi' e => ?_)]
  · cases decide (a = b) <;> rfl
  · rw [inB_nat hi', cond_true, Int.toNat_natCast, getD_nat _ _ hi']
    have : (decide ((x.1 : Int) = b[i].1) && decide ((x.2 : Int) = b[i].2)) = decide (x = b[i]) := by
      apply Bool.eq_iff_iff.2
      simp [Prod.ext_iff]
    rw [this]
    cases decide (x = b[i]) <;> rfl
theorem slices_Equal_Ballot_ok {N : Nat} {a b : List QIIIE} {kf : Bool → Option Ret} (hl : a.length ≤ maxLen) (hN : a.length < N) : slices_Equal_Ballot N a b kf = kf (decide (a = b)) := by
  unfold slices_Equal_Ballot
  refine lens (A := kf true) (fun h => ?_) (fun h => decide_eq_false fun e => h (by rw [e]))
  rw [slices_Equal_Ballot_l4_r hl hN, goL_same h (kf := kf false) (fun i x next hi hi' e => ?_)]
  · cases decide (a = b) <;> rfl
  · rw [inB_nat hi', cond_true, Int.toNat_natCast, getD_nat _ _ hi']
    have : (decide ((x.1 : Int) = b[i].1) && (decide ((x.2.1 : Int) = b[i].2.1) && decide ((x.2.2 : Int) = b[i].2.2))) = decide (x = b[i]) := by
      apply Bool.eq_iff_iff.2
      simp [Prod.ext_iff]
    rw [this]
    cases decide (x = b[i]) <;> rfl
theorem slices_Equal_Line_ok {N : Nat} {a b : List QIIIIE} {kf : Bool → Option Ret} (hl : a.length ≤ maxLen) (hN : a.length < N) : slices_Equal_Line N a b kf = kf (decide (a = b)) := by
  unfold slices_Equal_Line
  refine lens (A := kf true) (fun h => ?_) (fun h => decide_eq_false fun e => h (by rw [e]))
  rw [slices_Equal_Line_l4_r hl hN, goL_same h (kf := kf false) (fun i x next hi hi' e => ?_)]
  · cases decide (a = b) <;> rfl
  · rw [inB_nat hi', cond_true, Int.toNat_natCast, getD_nat _ _ hi']
    have : (decide ((x.1 : Int) = b[i].1) && (decide ((x.2.1 : Int) = b[i].2.1) && (decide ((x.2.2.1 : Int) = b[i].2.2.1) && decide ((x.2.2.2 : Int) = b[i].2.2.2)))) = decide (x = b[i]) := by
      apply Bool.eq_iff_iff.2
      simp [Prod.ext_iff]
    rw [this]
    cases decide (x = b[i]) <;> rfl
theorem team_eq (x y : Team) : decide (x = y) = ((x.1 == y.1) && ((x.2.1 == y.2.1) && ((x.2.2.1 == y.2.2.1) && ((x.2.2.2.1 == y.2.2.2.1) && ((x.2.2.2.2.1 == y.2.2.2.2.1) && decide (x.2.2.2.2.2 = y.2.2.2.2.2)))))) := by
  apply Bool.eq_iff_iff.2
  simp [Prod.ext_iff]
theorem judge_eq (x y : Judge) : decide (x = y) = ((x.1 == y.1) && ((x.2.1 == y.2.1) && decide (x.2.2 = y.2.2))) := by
  apply Bool.eq_iff_iff.2
  simp [Prod.ext_iff]
theorem slices_EqualFunc_Team_ok {N : Nat} {a b : List Team} {kf : Bool → Option Ret} (hl : a.length ≤ maxLen) (hm : ∀ x : Team, x ∈ a → x.met.length ≤ maxLen ∧ x.met.length < N) (hN : a.length < N) : slices_EqualFunc_Team_impl_EqualClubs_1 N a b kf = kf (decide (a = b)) := by
  unfold slices_EqualFunc_Team_impl_EqualClubs_1
  refine lens (A := kf true) (fun h => ?_) (fun h => decide_eq_false fun e => h (by rw [e]))
  rw [slices_EqualFunc_Team_impl_EqualClubs_1_l4_r hl hN, goL_same h (kf := kf false) (fun i x next hi hi' e => ?_)]
  · cases decide (a = b) <;> rfl
  · rw [inB_nat hi', cond_true, Int.toNat_natCast, getD_nat _ _ hi', team_eq]
    obtain ⟨m1, m2⟩ := hm x (by rw [← e]; exact List.getElem_mem hi)
    unfold impl_EqualClubs_1
    rw [slices_Equal_int_ok m1 m2]
    cases x.1 == b[i].1 <;> simp
    cases x.2.1 == b[i].2.1 <;> simp
    cases x.2.2.1 == b[i].2.2.1 <;> simp
    cases x.2.2.2.1 == b[i].2.2.2.1 <;> simp
    cases x.2.2.2.2.1 == b[i].2.2.2.2.1 <;> simp
    all_goals (by_cases hq : x.2.2.2.2.2 = b[i].2.2.2.2.2 <;> simp [hq])
theorem slices_EqualFunc_Judge_ok {N : Nat} {a b : List Judge} {kf : Bool → Option Ret} (hl : a.length ≤ maxLen) (hm : ∀ x : Judge, x ∈ a → x.2.2.length ≤ maxLen ∧ x.2.2.length < N) (hN : a.length < N) : slices_EqualFunc_Judge_impl_EqualClubs_2 N a b kf = kf (decide (a = b)) := by
  unfold slices_EqualFunc_Judge_impl_EqualClubs_2
  refine lens (A := kf true) (fun h => ?_) (fun h => decide_eq_false fun e => h (by rw [e]))
  rw [slices_EqualFunc_Judge_impl_EqualClubs_2_l4_r hl hN, goL_same h (kf := kf false) (fun i x next hi hi' e => ?_)]
  · cases decide (a = b) <;> rfl
  · rw [inB_nat hi', cond_true, Int.toNat_natCast, getD_nat _ _ hi', judge_eq]
    obtain ⟨m1, m2⟩ := hm x (by rw [← e]; exact List.getElem_mem hi)
    unfold impl_EqualClubs_2
    rw [slices_Equal_int_ok m1 m2]
    cases x.1 == b[i].1 <;> simp
    cases x.2.1 == b[i].2.1 <;> simp
    all_goals (by_cases hq : x.2.2 = b[i].2.2 <;> simp [hq])
theorem spec_l33Teams_ok {N : Nat} {a b : List Team} {kf : Bool → Option Ret} (hl : a.length ≤ maxLen) (hm : ∀ x : Team, x ∈ a → x.met.length ≤ maxLen ∧ x.met.length < N) (hN : a.length < N) : spec_l33Teams N a b kf = kf (decide (a = b)) := by
  unfold spec_l33Teams
  refine lens (A := kf true) (fun h => ?_) (fun h => decide_eq_false fun e => h (by rw [e]))
  rw [spec_l33Teams_l4_r hl hN, goL_same h (kf := kf false) (fun i x next hi hi' e => ?_)]
  · cases decide (a = b) <;> rfl
  · obtain ⟨m1, m2⟩ := hm x (by rw [← e]; exact List.getElem_mem hi)
    simp only [inB_nat hi', cond_true, Int.toNat_natCast, getD_nat _ _ hi', team_eq, bne, spec_EqualInts_ok m1 m2]
    cases x.1 == b[i].1 <;> simp
    cases x.2.1 == b[i].2.1 <;> simp
    cases x.2.2.1 == b[i].2.2.1 <;> simp
    cases x.2.2.2.1 == b[i].2.2.2.1 <;> simp
    cases x.2.2.2.2.1 == b[i].2.2.2.2.1 <;> simp
    all_goals (by_cases hq : x.2.2.2.2.2 = b[i].2.2.2.2.2 <;> simp [hq])
theorem spec_l33JudgesSame_ok {N : Nat} {a b : List Judge} {kf : Bool → Option Ret} (hl : a.length ≤ maxLen) (hm : ∀ x : Judge, x ∈ a → x.2.2.length ≤ maxLen ∧ x.2.2.length < N) (hN : a.length < N) : spec_l33JudgesSame N a b kf = kf (decide (a = b)) := by
  unfold spec_l33JudgesSame
  refine lens (A := kf true) (fun h => ?_) (fun h => decide_eq_false fun e => h (by rw [e]))
  rw [spec_l33JudgesSame_l4_r hl hN, goL_same h (kf := kf false) (fun i x next hi hi' e => ?_)]
  · cases decide (a = b) <;> rfl
  · obtain ⟨m1, m2⟩ := hm x (by rw [← e]; exact List.getElem_mem hi)
    simp only [inB_nat hi', cond_true, Int.toNat_natCast, getD_nat _ _ hi', judge_eq, bne, spec_EqualInts_ok m1 m2]
    cases x.1 == b[i].1 <;> simp
    cases x.2.1 == b[i].2.1 <;> simp
    all_goals (by_cases hq : x.2.2 = b[i].2.2 <;> simp [hq])
theorem spec_l33Lists_ok {N : Nat} {a b : Club} {kf : Bool → Option Ret} (h : ClubOK a N) : spec_l33Lists N a b kf = kf (decide (a.2.2.1 = b.2.2.1) && (decide (a.2.2.2.2.1 = b.2.2.2.2.1) && decide (a.2.2.2.2.2.1 = b.2.2.2.2.2.1))) := by
  have hm := maxLen_eq
  have h1 := h.rl
  have h2 := h.rN
  have h3 := h.bl
  have h4 := h.ml
  unfold spec_l33Lists
  refine lens (A := kf true) (fun e1 => ?_) (fun hl => by rw [decide_eq_false (fun e => hl (by rw [e]))]; rfl)
  refine lens (A := kf true) (fun e2 => ?_) (fun hl => by rw [decide_eq_false (p := a.2.2.2.2.1 = b.2.2.2.2.1) (fun e => hl (by rw [e]))]; simp)
  refine lens (A := kf true) (fun e3 => ?_) (fun hl => by rw [decide_eq_false (p := a.2.2.2.2.2.1 = b.2.2.2.2.2.1) (fun e => hl (by rw [e]))]; simp)
  rw [spec_l33Lists_l4_r (by omega) (by omega), goL_same e1 (kf := kf false) (fun i x next hi hi' e => ?_)]
  rotate_left
  · rw [inB_nat hi', cond_true, Int.toNat_natCast, getD_nat _ _ hi']
    have : (decide ((x.1 : Int) = b.2.2.1[i].1) && decide ((x.2 : Int) = b.2.2.1[i].2)) = decide (x = b.2.2.1[i]) := by
      apply Bool.eq_iff_iff.2
      simp [Prod.ext_iff]
    rw [this]
    cases decide (x = b.2.2.1[i]) <;> rfl
  cases decide (a.2.2.1 = b.2.2.1)
  · rfl
  simp only [cond_true, Bool.true_and]
  rw [spec_l33Lists_l9_r (by omega) h.bN, goL_same e2 (kf := kf false) (fun i x next hi hi' e => ?_)]
  rotate_left
  · rw [inB_nat hi', cond_true, Int.toNat_natCast, getD_nat _ _ hi']
    have : (decide ((x.1 : Int) = b.2.2.2.2.1[i].1) && (decide ((x.2.1 : Int) = b.2.2.2.2.1[i].2.1) && decide ((x.2.2 : Int) = b.2.2.2.2.1[i].2.2))) = decide (x = b.2.2.2.2.1[i]) := by
      apply Bool.eq_iff_iff.2
      simp [Prod.ext_iff]
    rw [this]
    cases decide (x = b.2.2.2.2.1[i]) <;> rfl
  cases decide (a.2.2.2.2.1 = b.2.2.2.2.1)
  · rfl
  simp only [cond_true, Bool.true_and]
  rw [spec_l33Lists_l14_r (by omega) h.mN, goL_same e3 (kf := kf false) (fun i x next hi hi' e => ?_)]
  · cases decide (a.2.2.2.2.2.1 = b.2.2.2.2.2.1) <;> rfl
  · rw [inB_nat hi', cond_true, Int.toNat_natCast, getD_nat _ _ hi']
    have : (decide ((x.1 : Int) = b.2.2.2.2.2.1[i].1) && (decide ((x.2.1 : Int) = b.2.2.2.2.2.1[i].2.1) && (decide ((x.2.2.1 : Int) = b.2.2.2.2.2.1[i].2.2.1) && decide ((x.2.2.2 : Int) = b.2.2.2.2.2.1[i].2.2.2)))) = decide (x = b.2.2.2.2.2.1[i]) := by
      apply Bool.eq_iff_iff.2
      simp [Prod.ext_iff]
    rw [this]
    cases decide (x = b.2.2.2.2.2.1[i]) <;> rfl
def eqClubM (a b : Club) : Bool := decide (a.1 = b.1) && (decide (a.2.1 = b.2.1) && (decide (a.2.2.1 = b.2.2.1) && (decide (a.2.2.2.1 = b.2.2.2.1) && (decide (a.2.2.2.2.1 = b.2.2.2.2.1) && (decide (a.2.2.2.2.2.1 = b.2.2.2.2.2.1) && (a.2.2.2.2.2.2 == b.2.2.2.2.2.2))))))
theorem EqualClubs_same {N : Nat} {a b : Club} (h : ClubOK a N) : Same (spec_EqualClubs N a b) (impl_EqualClubs N a b) := by
  have hm := maxLen_eq
  have h1 := h.rl
  have h2 := h.rN
  have h3 := h.bl
  have h4 := h.ml
  have h5 := h.sl
  refine ⟨eqClubM a b, fun kf => ?_, fun kf => ?_⟩ <;> unfold eqClubM
  · unfold spec_EqualClubs
    simp only [spec_l33Teams_ok h.tl h.tm h.tN, spec_l33JudgesSame_ok h.jl h.jm h.jN, spec_EqualInts_ok (N := N) (a := a.2.2.2.1) (by omega) h.sN, spec_l33Lists_ok h]
    cases decide (a.1 = b.1)
    · rfl
    cases decide (a.2.1 = b.2.1)
    · rfl
    cases decide (a.2.2.2.1 = b.2.2.2.1)
    · simp
    cases decide (a.2.2.1 = b.2.2.1)
    · simp
    cases decide (a.2.2.2.2.1 = b.2.2.2.2.1)
    · simp
    cases decide (a.2.2.2.2.2.1 = b.2.2.2.2.2.1) <;> simp
  · unfold impl_EqualClubs
    simp only [slices_EqualFunc_Team_ok h.tl h.tm h.tN, slices_EqualFunc_Judge_ok h.jl h.jm h.jN, slices_Equal_int_ok (N := N) (a := a.2.2.2.1) (by omega) h.sN, slices_Equal_Pair_ok (N := N) (a := a.2.2.1) (by omega) (by omega), slices_Equal_Ballot_ok (N := N) (a := a.2.2.2.2.1) (by omega) h.bN, slices_Equal_Line_ok (N := N) (a := a.2.2.2.2.2.1) (by omega) h.mN]
    cases a.2.2.2.2.2.2 == b.2.2.2.2.2.2
    · simp
    cases decide (a.1 = b.1)
    · rfl
    cases decide (a.2.1 = b.2.1)
    · rfl
    cases decide (a.2.2.1 = b.2.2.1)
    · rfl
    cases decide (a.2.2.2.1 = b.2.2.2.1)
    · rfl
    cases decide (a.2.2.2.2.1 = b.2.2.2.2.1)
    · rfl
    simp
theorem lawFnExactEqualClubs (a b : Club) (h : wfs [tQLQIIIIILIELQIILIELQIIELILQIIIELQIIIIEIE, tQLQIIIIILIELQIILIELQIIELILQIIIELQIIIIEIE] (a, (b, ()))) : ∃ N, ∀ kf, laws_FnExactEqualClubs N a b kf = kf true := by
  have hw : wf tQLQIIIIILIELQIILIELQIIELILQIIIELQIIIIEIE a := h.1
  have hw2 : wf tQLQIIIIILIELQIILIELQIIELILQIIIELQIIIIEIE b := h.2.1
  refine ⟨2 * sizeV tQLQIIIIILIELQIILIELQIIELILQIIIELQIIIIEIE a + 2 * sizeV tQLQIIIIILIELQIILIELQIIELILQIIIELQIIIIEIE b + 9, fun kf => ?_⟩
  generalize hN : 2 * sizeV tQLQIIIIILIELQIILIELQIIELILQIIIELQIIIIEIE a + 2 * sizeV tQLQIIIIILIELQIILIELQIIELILQIIIELQIIIIEIE b + 9 = N
  unfold laws_FnExactEqualClubs
  rw [laws_szClub_ok hw (by omega) (by omega) (by omega)]
  by_cases hc : szr 1048576 (sizeV tQLQIIIIILIELQIILIELQIIELILQIIIELQIIIIEIE a) < 0
  · rw [decide_eq_true hc]; rfl
  obtain ⟨b0, b1⟩ := szr_bound (by omega) (by omega) hc
  have hs := (szr_neg (left := 1048576) (s := sizeV tQLQIIIIILIELQIILIELQIIELILQIIIELQIIIIEIE a) (by omega))
  rw [decide_eq_false hc, cond_false, laws_szClub_ok hw2 (by omega) b0 b1]
  refine small_or b0 fun hb => ?_
  have hca := club_ok (N := N) hw (by omega) (by omega)
  obtain ⟨v, e1, e2⟩ := EqualClubs_same (b := b) hca
  simp only [laws_toClub_ok (x := a) (N := N) (by omega) (by omega), laws_toClub_ok (x := b) (N := N) (by omega) (by omega), e1, e2, laws_eqClub_ok (x := a) (N := N) (by omega) (by omega), laws_eqClub_ok (x := b) (N := N) (by omega) (by omega)]
  simp
end Go.Pv.R
