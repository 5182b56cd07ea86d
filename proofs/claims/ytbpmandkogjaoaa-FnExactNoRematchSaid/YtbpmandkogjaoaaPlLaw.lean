/- The law over the plain functions. -/
import Derived.Test.YtbpmandkogjaoaaPlHz
namespace Go.Pv.R
set_option linter.unusedVariables false
set_option linter.unusedSimpArgs false
end Go.Pv.R
namespace Go.Pv.R
set_option linter.unusedVariables false
set_option linter.unusedSimpArgs false
/-- What is asked first: is it all small? -/
theorem small_or {left : Int} {s : Nat} {A B : Option Ret} (h0 : 0 ≤ left) (h : (s : Int) ≤ left → B = A) : (bif decide (szr left s < 0) then A else B) = A := by
  by_cases hn : szr left s < 0
  · rw [decide_eq_true hn]; rfl
  · rw [decide_eq_false hn, cond_false]
    exact h (by have := (szr_neg (s := s) h0); omega)
end Go.Pv.R
namespace Go.Pv.R
set_option linter.unusedVariables false
set_option linter.unusedSimpArgs false
end Go.Pv.R
namespace Go.Pv
set_option linter.unusedVariables false
set_option linter.unusedSimpArgs false
theorem findI_some {α : Type} {p : α → Bool} : ∀ {l : List α} {i k : Nat}, findI p l i = some k → ∃ j, ∃ h : j < l.length, k = i + j ∧ p l[j] = true ∧ ∀ j' (h' : j' < j), p (l[j']'(by omega)) = false
  | [], i, k, h => by cases h
  | x :: r, i, k, h => by
    simp only [findI] at h
    cases hp : p x with
    | true =>
      rw [hp] at h
      injection h with h
      exact ⟨0, by simp, by omega, hp, fun j' h' => by omega⟩
    | false =>
      rw [hp] at h
      obtain ⟨j, hj, e, h1, h2⟩ := findI_some (l := r) h
      refine ⟨j + 1, by simpa using hj, by omega, h1, fun j' h' => ?_⟩
      cases j' with
      | zero => exact hp
      | succ j' => exact h2 j' (by omega)
theorem findI_none {α : Type} {p : α → Bool} : ∀ {l : List α} {i : Nat}, findI p l i = none → ∀ j (h : j < l.length), p l[j] = false
  | [], i, h, j, hj => by simp at hj
  | x :: r, i, h, j, hj => by
    simp only [findI] at h
    cases hp : p x with
    | true => rw [hp] at h; cases h
    | false =>
      rw [hp] at h
      cases j with
      | zero => exact hp
      | succ j => exact findI_none (l := r) h j (by simpa using hj)
/-- A search: the first place with a property. -/
theorem goL_find {α : Type} {body : Nat → α → Option Ret → Option Ret} {kend : Option Ret} {kf : Nat → Option Ret} {p : α → Bool} (hb : ∀ (i : Nat) (x : α) (next : Option Ret), body i x next = bif p x then kf i else next) : ∀ (l : List α) (i : Nat), goL body kend l i = match findI p l i with
    | some k => kf k
    | none => kend
  | [], _ => rfl
  | x :: r, i => by
    simp only [goL, findI]
    rw [hb]
    cases p x
    · exact goL_find hb r (i + 1)
    · rfl
def findM {α : Type} (p : α → Bool) (l : List α) : Int := match findI p l 0 with
  | some k => (k : Int)
  | none => -1
theorem findM_pos {α : Type} {p : α → Bool} {l : List α} (h : ¬ findM p l < 0) : ∃ k : Nat, ∃ hk : k < l.length, findM p l = (k : Int) ∧ p l[k] = true ∧ ∀ j (hj : j < k), p (l[j]'(by omega)) = false := by
  unfold findM at *
  split at h
  · rename_i k hk
    obtain ⟨j, hj, e, h1, h2⟩ := findI_some hk
    obtain rfl : k = j := by omega
    exact ⟨k, hj, rfl, h1, h2⟩
  · omega
theorem findM_neg {α : Type} {p : α → Bool} {l : List α} (h : findM p l < 0) : findM p l = -1 ∧ ∀ j (hj : j < l.length), p l[j] = false := by
  unfold findM at *
  split at h
  · omega
  · rename_i hn
    exact ⟨rfl, findI_none hn⟩
end Go.Pv
namespace Go.Pv.R
set_option linter.unusedVariables false
set_option linter.unusedSimpArgs false
abbrev Team := QIIIIILIE
def countM (l : List Int) (n : Int) : Int := foldI (fun i x s => bif x == n then IntKind.wrap .i64 (s + 1) else s) l 0 0
theorem impl_times_ok {N : Nat} {l : List Int} {n : Int} {kf : Int → Option Ret} (hl : l.length ≤ maxLen) (hN : l.length < N) : impl_times N l n kf = kf (countM l n) := by
  unfold impl_times
  rw [impl_times_l3_r hl hN, goL1_f (fun i x s => bif x == n then IntKind.wrap .i64 (s + 1) else s) (fun i x s next h e => by cases x == n <;> rfl)]
  rfl
abbrev Team.met (x : Team) : List Int := x.2.2.2.2.2
theorem allI_all {α : Type} {p : α → Bool} : ∀ {l : List α} {i : Nat}, allI (fun _ x => p x) l i = l.all p
  | [], _ => rfl
  | x :: r, i => by simp only [allI, List.all_cons, allI_all (l := r)]
theorem teams_small {l : List Team} {N : Nat} (hw : wf (.sl tQIIIIILIE) l) (hN : sizeV (.sl tQIIIIILIE) l < N) : ∀ x ∈ l, x.met.length ≤ maxLen ∧ x.met.length < N := fun x hx => by
  have h1 := sizeV_mem (t := tQIIIIILIE) hx
  have h2 : sizeV tQIIIIILIE x = sizeV (.sl (.int .i64)) x.2.2.2.2.2 := by simp [sizeV]
  have h3 := sizeV_len (t := .int .i64) x.2.2.2.2.2
  exact ⟨(hw.2 x hx).2.2.2.2.2.1, by show x.2.2.2.2.2.length < N; omega⟩
end Go.Pv.R
namespace Go.Pv
set_option linter.unusedVariables false
set_option linter.unusedSimpArgs false
theorem findM_any {α : Type} (p : α → Bool) (l : List α) : decide (findM p l ≥ 0) = l.any p := by
  by_cases h : findM p l < 0
  · rw [decide_eq_false (by omega)]
    symm
    rw [List.any_eq_false]
    intro x hx
    obtain ⟨j, hj, rfl⟩ := List.mem_iff_getElem.1 hx
    rw [(findM_neg h).2 j hj]
    simp
  · rw [decide_eq_true (by omega)]
    symm
    rw [List.any_eq_true]
    obtain ⟨k, hk, _, h1, _⟩ := findM_pos h
    exact ⟨l[k], List.getElem_mem hk, h1⟩
theorem countI_eq (n : Int) : ∀ (l : List Int) (i : Nat) (s : Nat), s + l.length ≤ maxLen → foldI (fun _ x s => bif x == n then IntKind.wrap .i64 (s + 1) else s) l i (s : Int) = ((s + l.count n : Nat) : Int)
  | [], _, _, _ => by simp [foldI]
  | x :: r, i, s, h => by
    simp only [foldI, List.count_cons]
    simp only [List.length_cons] at h
    have := maxLen_eq
    cases hx : x == n with
    | false => simp only [cond_false]; rw [countI_eq n r (i + 1) s (by omega)]; simp
    | true =>
      simp only [cond_true, if_true]
      rw [wrap64 (by omega) (by omega), show ((s : Int) + 1) = ((s + 1 : Nat) : Int) by omega, countI_eq n r (i + 1) (s + 1) (by omega)]
      congr 1
      omega
end Go.Pv
namespace Go.Pv.R
set_option linter.unusedVariables false
set_option linter.unusedSimpArgs false
abbrev Judge := QIILIE
theorem countM_eq {l : List Int} {n : Int} (h : l.length ≤ maxLen) : countM l n = (l.count n : Int) := by
  have := countI_eq n l 0 0 (by omega)
  rw [Nat.zero_add] at this
  exact this
def hasM (l : List Int) (n : Int) : Bool := l.any fun x => x == n
theorem hasM_iff {l : List Int} {n : Int} : hasM l n = true ↔ n ∈ l := by
  unfold hasM
  rw [List.any_eq_true]
  constructor
  · rintro ⟨x, hx, h⟩
    have : x = n := by simpa using h
    exact this ▸ hx
  · intro h; exact ⟨n, h, by simp⟩
theorem spec_l4Has_ok {N : Nat} {l : List Int} {n : Int} {kf : Bool → Option Ret} (hl : l.length ≤ maxLen) (hN : l.length < N) : spec_l4Has N l n kf = kf (hasM l n) := by
  unfold spec_l4Has
  rw [spec_l4Has_l2_r hl hN, goL_find (p := fun x : Int => x == n) (kf := fun _ => kf true) (fun i x next => rfl)]
  unfold hasM
  rw [← findM_any]
  unfold findM
  cases findI (fun x : Int => x == n) l 0
  · rfl
  · rw [decide_eq_true (by simp)]
theorem judges_small {l : List Judge} {N : Nat} (hw : wf (.sl tQIILIE) l) (hN : sizeV (.sl tQIILIE) l < N) : ∀ x ∈ l, x.2.2.length ≤ maxLen ∧ x.2.2.length < N := fun x hx => by
  have h1 := sizeV_mem (t := tQIILIE) hx
  have h2 : sizeV tQIILIE x = sizeV (.sl (.int .i64)) x.2.2 := by simp [sizeV]
  have h3 := sizeV_len (t := .int .i64) x.2.2
  exact ⟨(hw.2 x hx).2.2.1, by omega⟩
end Go.Pv.R
namespace Go.Pv.R
set_option linter.unusedVariables false
set_option linter.unusedSimpArgs false
end Go.Pv.R
namespace Go.Pv.R
set_option linter.unusedVariables false
set_option linter.unusedSimpArgs false
abbrev Club := QLQIIIIILIELQIILIELQIIELILQIIIELQIIIIEIE
/-- A club that is small enough, and rounds enough. -/
structure ClubOK (c : Club) (N : Nat) : Prop where
  tl : c.1.length ≤ maxLen
  tm : ∀ x : Team, x ∈ c.1 → x.met.length ≤ maxLen ∧ x.met.length < N
  tN : c.1.length < N
  jl : c.2.1.length ≤ maxLen
  jm : ∀ x ∈ c.2.1, x.2.2.length ≤ maxLen ∧ x.2.2.length < N
  jN : c.2.1.length < N
  rl : c.2.2.1.length ≤ 1048576
  rN : 2 * c.2.2.1.length < N
  sl : c.2.2.2.1.length ≤ 1048576
  sN : c.2.2.2.1.length < N
  bl : c.2.2.2.2.1.length ≤ 1048576
  bN : c.2.2.2.2.1.length < N
  ml : c.2.2.2.2.2.1.length ≤ 1048576
  mN : c.2.2.2.2.2.1.length < N
  n8 : 8 < N
  tb : c.1.length ≤ 1048576
  tmb : ∀ x : Team, x ∈ c.1 → x.met.length ≤ 1048576
theorem sizeV_club (c : Club) : sizeV tQLQIIIIILIELQIILIELQIIELILQIIIELQIIIIEIE c = sizeV (.sl tQIIIIILIE) c.1 + (sizeV (.sl tQIILIE) c.2.1 + (sizeV (.sl tQIIE) c.2.2.1 + (sizeV (.sl (.int .i64)) c.2.2.2.1 + (sizeV (.sl tQIIIE) c.2.2.2.2.1 + sizeV (.sl tQIIIIE) c.2.2.2.2.2.1)))) := rfl
theorem club_ok {c : Club} {N : Nat} (hw : wf tQLQIIIIILIELQIILIELQIIELILQIIIELQIIIIEIE c) (hb : sizeV tQLQIIIIILIELQIILIELQIIELILQIIIELQIIIIEIE c ≤ 1048576) (hN : 2 * sizeV tQLQIIIIILIELQIILIELQIIELILQIIIELQIIIIEIE c + 8 < N) : ClubOK c N := by
  have hs := sizeV_club c
  have h1 := sizeV_len (t := tQIIIIILIE) c.1
  have h2 := sizeV_len (t := tQIILIE) c.2.1
  have h3 := sizeV_len (t := tQIIE) c.2.2.1
  have h4 := sizeV_len (t := .int .i64) c.2.2.2.1
  have h5 := sizeV_len (t := tQIIIE) c.2.2.2.2.1
  have h6 := sizeV_len (t := tQIIIIE) c.2.2.2.2.2.1
  have hm := maxLen_eq
  exact ⟨by omega, teams_small hw.1 (by omega), by omega, by omega, judges_small hw.2.1 (by omega), by omega, by omega, by omega, by omega, by omega, by omega, by omega, by omega, by omega, by omega, by omega, fun x hx => by
    have q1 := sizeV_mem (t := tQIIIIILIE) hx
    have q2 : sizeV tQIIIIILIE x = sizeV (.sl (.int .i64)) x.2.2.2.2.2 := by simp [sizeV]
    have q3 := sizeV_len (t := .int .i64) x.2.2.2.2.2
    show x.2.2.2.2.2.length ≤ 1048576
    omega⟩
theorem take_nodup (m : List Int) : allI (fun i x => !hasM (m.take i) x) m 0 = decide m.Nodup := by
  have key : ∀ (r : List Int) (n : Nat), m.drop n = r → (m.take n).Nodup → allI (fun i x => !hasM (m.take i) x) r n = decide m.Nodup := by
    intro r
    induction r with
    | nil =>
      intro n hd hn
      have : m.length ≤ n := by have := congrArg List.length hd; simp at this; omega
      rw [List.take_of_length_le this] at hn
      simp [allI, hn]
    | cons x r ih =>
      intro n hd hn
      have hlt : n < m.length := by have := congrArg List.length hd; simp at this; omega
      rw [List.drop_eq_getElem_cons hlt] at hd
      injection hd with h1 h2
      simp only [allI]
      cases hh : hasM (m.take n) x with
      | true =>
        have hmem := hasM_iff.1 hh
        have : ¬ m.Nodup := fun h => by
          have e : m = m.take n ++ m.drop n := (List.take_append_drop n m).symm
          rw [e, List.nodup_append] at h
          exact h.2.2 x hmem x (by rw [List.drop_eq_getElem_cons hlt, h1]; simp) rfl
        rw [decide_eq_false this]; rfl
      | false =>
        have hnm : x ∉ m.take n := fun h => by rw [hasM_iff.2 h] at hh; cases hh
        rw [Bool.not_false, Bool.true_and]
        refine ih (n + 1) h2 ?_
        rw [List.take_succ_eq_append_getElem hlt, h1, List.nodup_append]
        refine ⟨hn, by simp, ?_⟩
        intro a ha b hb e
        simp at hb
        subst hb
        subst e
        exact hnm ha
  exact key m 0 rfl (by simp)
theorem count_nodup (m : List Int) : (m.all fun id => decide (m.count id ≤ 1)) = decide m.Nodup := by
  apply Bool.eq_iff_iff.2
  rw [List.all_eq_true, decide_eq_true_eq, List.nodup_iff_count]
  constructor
  · intro h x
    by_cases hx : x ∈ m
    · simpa using h x hx
    · rw [List.count_eq_zero_of_not_mem hx]; omega
  · intro h x hx; simpa using h x
def noRematchM (c : Club) : Bool := c.1.all fun x : Team => decide x.met.Nodup
theorem spec_NoRematch_ok {N : Nat} {c : Club} {kf : Bool → Option Ret} (h : ClubOK c N) : spec_NoRematch N c kf = kf (noRematchM c) := by
  unfold spec_NoRematch
  rw [spec_NoRematch_l2_r h.tl h.tN, goL_all (l := c.1) (p := fun _ (x : Team) => decide x.met.Nodup) (kf := kf false) (fun i x next hi e => ?_) c.1 0 rfl, allI_all (p := fun x : Team => decide x.met.Nodup)]
  · unfold noRematchM
    cases c.1.all fun x : Team => decide x.met.Nodup <;> rfl
  · obtain ⟨m1, m2⟩ := h.tm x (by rw [← e]; exact List.getElem_mem hi)
    rw [spec_NoRematch_l6_r m1 m2, goL_all (l := x.met) (p := fun i y => !hasM (x.met.take i) y) (kf := kf false) (fun j y next' hj ej => ?_) x.met 0 rfl, take_nodup]
    have hdec : (decide ((0 : Int) ≤ (0 : Int)) && decide ((0 : Int) ≤ (j : Int)) && decide ((j : Int) ≤ (List.length x.2.2.2.2.2 : Int))) = true := by
      have : j < x.2.2.2.2.2.length := hj
      simp; omega
    rw [hdec, cond_true, Int.toNat_natCast]
    have htk : (List.drop (Int.toNat 0) (List.take j x.2.2.2.2.2)) = x.met.take j := rfl
    rw [htk, spec_l4Has_ok (by rw [List.length_take]; omega) (by rw [List.length_take]; omega)]
    cases hasM (x.met.take j) y <;> rfl
theorem impl_NoRematch_ok {N : Nat} {c : Club} {kf : Bool → Option Ret} (h : ClubOK c N) : impl_NoRematch N c kf = kf (noRematchM c) := by
  unfold impl_NoRematch
  rw [impl_NoRematch_l2_r h.tl h.tN, goL_all (l := c.1) (p := fun _ (x : Team) => decide x.met.Nodup) (kf := kf false) (fun i x next hi e => ?_) c.1 0 rfl, allI_all (p := fun x : Team => decide x.met.Nodup)]
  · unfold noRematchM
    cases c.1.all fun x : Team => decide x.met.Nodup <;> rfl
  · obtain ⟨m1, m2⟩ := h.tm x (by rw [← e]; exact List.getElem_mem hi)
    rw [impl_NoRematch_l5_r m1 m2, goL_all (l := x.met) (p := fun _ id => decide (x.met.count id ≤ 1)) (kf := kf false) (fun j y next' hj ej => ?_) x.met 0 rfl, allI_all (p := fun id : Int => decide (x.met.count id ≤ 1)), count_nodup]
    rw [impl_times_ok m1 m2, countM_eq m1]
    by_cases hc : x.met.count y ≤ 1
    · rw [decide_eq_false (by omega), decide_eq_true hc]; rfl
    · rw [decide_eq_true (by omega), decide_eq_false hc]; rfl
theorem lawFnExactNoRematch (c : Club) (h : wfs [tQLQIIIIILIELQIILIELQIIELILQIIIELQIIIIEIE] (c, ())) : ∃ N, ∀ kf, laws_FnExactNoRematch N c kf = kf true := by
  refine ⟨2 * sizeV tQLQIIIIILIELQIILIELQIIELILQIIIELQIIIIEIE c + 9, fun kf => ?_⟩
  have hw : wf tQLQIIIIILIELQIILIELQIIELILQIIIELQIIIIEIE c := h.1
  unfold laws_FnExactNoRematch
  rw [laws_szClub_ok hw (by omega) (by omega) (by omega)]
  refine small_or (by omega) fun hb => ?_
  have hc := club_ok (N := 2 * sizeV tQLQIIIIILIELQIILIELQIIELILQIIIELQIIIIEIE c + 9) hw (by omega) (by omega)
  simp only [laws_toClub_ok (x := c) (N := 2 * sizeV tQLQIIIIILIELQIILIELQIIELILQIIIELQIIIIEIE c + 9) (by omega) (by omega), spec_NoRematch_ok hc, impl_NoRematch_ok hc, laws_eqClub_ok (x := c) (N := 2 * sizeV tQLQIIIIILIELQIILIELQIIELILQIIIELQIIIIEIE c + 9) (by omega) (by omega)]
  simp
end Go.Pv.R
namespace Go.Pv
set_option linter.unusedVariables false
set_option linter.unusedSimpArgs false
end Go.Pv
namespace Go.Pv.R
set_option linter.unusedVariables false
set_option linter.unusedSimpArgs false
end Go.Pv.R
