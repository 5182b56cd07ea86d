/- The law over the plain functions. -/
import Derived.Test.YtbpmandkogjaoaaPlHz
namespace Go.Pv.R
set_option linter.unusedVariables false
set_option linter.unusedSimpArgs false
end Go.Pv.R
namespace Go.Pv.R
set_option linter.unusedVariables false
set_option linter.unusedSimpArgs false
theorem spec_l1In_ok {N : Nat} {a b c : Int} {kf : Bool → Option Ret} : spec_l1In N a b c kf = kf (inR a b c) := by
  unfold spec_l1In inR
  by_cases h : b ≤ a <;> simp [h]
theorem impl_InRange_ok {N : Nat} {a b c : Int} {kf : Bool → Option Ret} : impl_InRange N a b c kf = kf (inR a b c) := by
  unfold impl_InRange inR
  by_cases h : b ≤ a <;> simp [h]
/-- What is asked first: is it all small? -/
theorem small_or {left : Int} {s : Nat} {A B : Option Ret} (h0 : 0 ≤ left) (h : (s : Int) ≤ left → B = A) : (bif decide (szr left s < 0) then A else B) = A := by
  by_cases hn : szr left s < 0
  · rw [decide_eq_true hn]; rfl
  · rw [decide_eq_false hn, cond_false]
    exact h (by have := (szr_neg (s := s) h0); omega)
end Go.Pv.R
namespace Go.Pv.R
set_option linter.unusedVariables false
set_option linter.unusedSimpArgs false
end Go.Pv.R
namespace Go.Pv
set_option linter.unusedVariables false
set_option linter.unusedSimpArgs false
theorem findI_some {α : Type} {p : α → Bool} : ∀ {l : List α} {i k : Nat}, findI p l i = some k → ∃ j, ∃ h : j < l.length, k = i + j ∧ p l[j] = true ∧ ∀ j' (h' : j' < j), p (l[j']'(by omega)) = false
  | [], i, k, h => by cases h
  | x :: r, i, k, h => by
    simp only [findI] at h
    cases hp : p x with
    | true =>
      rw [hp] at h
      injection h with h
      exact ⟨0, by simp, by omega, hp, fun j' h' => by omega⟩
    | false =>
      rw [hp] at h
      obtain ⟨j, hj, e, h1, h2⟩ := findI_some (l := r) h
      refine ⟨j + 1, by simpa using hj, by omega, h1, fun j' h' => ?_⟩
      cases j' with
      | zero => exact hp
      | succ j' => exact h2 j' (by omega)
theorem findI_none {α : Type} {p : α → Bool} : ∀ {l : List α} {i : Nat}, findI p l i = none → ∀ j (h : j < l.length), p l[j] = false
  | [], i, h, j, hj => by simp at hj
  | x :: r, i, h, j, hj => by
    simp only [findI] at h
    cases hp : p x with
    | true => rw [hp] at h; cases h
    | false =>
      rw [hp] at h
      cases j with
      | zero => exact hp
      | succ j => exact findI_none (l := r) h j (by simpa using hj)
/-- A search: the first place with a property. -/
theorem goL_find {α : Type} {body : Nat → α → Option Ret → Option Ret} {kend : Option Ret} {kf : Nat → Option Ret} {p : α → Bool} (hb : ∀ (i : Nat) (x : α) (next : Option Ret), body i x next = bif p x then kf i else next) : ∀ (l : List α) (i : Nat), goL body kend l i = match findI p l i with
    | some k => kf k
    | none => kend
  | [], _ => rfl
  | x :: r, i => by
    simp only [goL, findI]
    rw [hb]
    cases p x
    · exact goL_find hb r (i + 1)
    · rfl
def findM {α : Type} (p : α → Bool) (l : List α) : Int := match findI p l 0 with
  | some k => (k : Int)
  | none => -1
theorem findM_pos {α : Type} {p : α → Bool} {l : List α} (h : ¬ findM p l < 0) : ∃ k : Nat, ∃ hk : k < l.length, findM p l = (k : Int) ∧ p l[k] = true ∧ ∀ j (hj : j < k), p (l[j]'(by omega)) = false := by
  unfold findM at *
  split at h
  · rename_i k hk
    obtain ⟨j, hj, e, h1, h2⟩ := findI_some hk
    obtain rfl : k = j := by omega
    exact ⟨k, hj, rfl, h1, h2⟩
  · omega
theorem findM_neg {α : Type} {p : α → Bool} {l : List α} (h : findM p l < 0) : findM p l = -1 ∧ ∀ j (hj : j < l.length), p l[j] = false := by
  unfold findM at *
  split at h
  · omega
  · rename_i hn
    exact ⟨rfl, findI_none hn⟩
theorem allI_and {α : Type} {p q : Nat → α → Bool} : ∀ {l : List α} {i : Nat}, allI (fun i x => p i x && q i x) l i = (allI p l i && allI q l i)
  | [], _ => rfl
  | x :: r, i => by
    simp only [allI, allI_and (l := r)]
    cases p i x <;> cases q i x <;> cases allI p r (i + 1) <;> simp
theorem allI_congr {α : Type} {p q : Nat → α → Bool} {l : List α} (h : ∀ (j : Nat) (hj : j < l.length), p j l[j] = q j l[j]) : allI p l 0 = allI q l 0 := by
  apply Bool.eq_iff_iff.2
  rw [allI_iff, allI_iff]
  constructor
  · intro h1 j hj; have := h1 j hj; rw [Nat.zero_add] at *; rw [← h j hj]; exact this
  · intro h1 j hj; have := h1 j hj; rw [Nat.zero_add] at *; rw [h j hj]; exact this
theorem wrap_pred {i m : Nat} (h0 : 0 < i) (h : i < m) (hm : m ≤ maxLen) : IntKind.wrap .i64 ((i : Int) - 1) = ((i - 1 : Nat) : Int) := by
  have := maxLen_eq
  rw [wrap64] <;> omega
end Go.Pv
namespace Go.Pv.R
set_option linter.unusedVariables false
set_option linter.unusedSimpArgs false
abbrev Team := QIIIIILIE
def findT (l : List Team) (id : Int) : Int := findM (fun x : Team => x.1 == id) l
theorem spec_FindTeam_ok {N : Nat} {l : List Team} {id : Int} {kf : Int → Option Ret} (hl : l.length ≤ maxLen) (hN : l.length < N) : spec_FindTeam N l id kf = kf (findT l id) := by
  unfold spec_FindTeam
  rw [spec_FindTeam_l2_r hl hN, goL_find (p := fun x : Team => x.1 == id) (kf := fun i => kf (i : Int)) (fun i x next => rfl)]
  unfold findT findM
  cases findI (fun x : Team => x.1 == id) l 0 <;> rfl
theorem impl_FindTeam_ok {N : Nat} {l : List Team} {id : Int} {kf : Int → Option Ret} (hl : l.length ≤ maxLen) (hN : l.length < N) : impl_FindTeam N l id kf = kf (findT l id) := by
  unfold impl_FindTeam slices_IndexFunc_Team_impl_FindTeam_1
  rw [slices_IndexFunc_Team_impl_FindTeam_1_l2_r hl hN]
  simp only [impl_FindTeam_1]
  rw [goL_find (p := fun x : Team => x.1 == id) (kf := fun i => kf (i : Int)) (fun i x next => rfl)]
  unfold findT findM
  cases findI (fun x : Team => x.1 == id) l 0 <;> rfl
def countM (l : List Int) (n : Int) : Int := foldI (fun i x s => bif x == n then IntKind.wrap .i64 (s + 1) else s) l 0 0
theorem spec_l19Count_ok {N : Nat} {l : List Int} {n : Int} {kf : Int → Option Ret} (hl : l.length ≤ maxLen) (hN : l.length < N) : spec_l19Count N l n kf = kf (countM l n) := by
  unfold spec_l19Count
  rw [spec_l19Count_l3_r hl hN, goL1_f (fun i x s => bif x == n then IntKind.wrap .i64 (s + 1) else s) (fun i x s next h e => by cases x == n <;> rfl)]
  rfl
theorem impl_times_ok {N : Nat} {l : List Int} {n : Int} {kf : Int → Option Ret} (hl : l.length ≤ maxLen) (hN : l.length < N) : impl_times N l n kf = kf (countM l n) := by
  unfold impl_times
  rw [impl_times_l3_r hl hN, goL1_f (fun i x s => bif x == n then IntKind.wrap .i64 (s + 1) else s) (fun i x s next h e => by cases x == n <;> rfl)]
  rfl
abbrev Team.met (x : Team) : List Int := x.2.2.2.2.2
/-- One team: its numbers. -/
def teamP (l : List Team) (i : Nat) (x : Team) : Bool := inR x.1 1 99 && (inR x.2.1 1 99 && (inR x.2.2.1 0 x.met.length && (inR x.2.2.2.2.1 0 x.met.length && (inR x.2.2.2.1 0 100000 && (decide (x.met.length ≤ 20) && (decide (i = 0) || decide ((l.getD (i - 1) zQIIIIILIE).1 < x.1)))))))
/-- Whom it has met. -/
def metP (l : List Team) (x : Team) (id : Int) : Bool := !decide (findT l id < 0) && (!(id == x.1) && (countM x.met id == countM (l.getD (findT l id).toNat zQIIIIILIE).met x.1))
def areTeamsM (l : List Team) : Bool := decide (l.length ≤ 10) && (allI (teamP l) l 0 && allI (fun _ x => x.met.all (metP l x)) l 0)
def metS (l : List Team) (i : Nat) (x : Team) (id : Int) : Bool := !decide (findT l id < 0) && (!(findT l id == (i : Int)) && (countM (l.getD (findT l id).toNat zQIIIIILIE).met x.1 == countM x.met (l.getD (findT l id).toNat zQIIIIILIE).1))
theorem allI_all {α : Type} {p : α → Bool} : ∀ {l : List α} {i : Nat}, allI (fun _ x => p x) l i = l.all p
  | [], _ => rfl
  | x :: r, i => by simp only [allI, List.all_cons, allI_all (l := r)]
/-- The ids grow: each leads to its own place. -/
theorem teams_mono {l : List Team} (h : allI (teamP l) l 0 = true) : ∀ (j i : Nat) (hi : i < l.length), j < i → (l.getD j zQIIIIILIE).1 < l[i].1 := by
  rw [allI_iff] at h
  have step : ∀ (i : Nat) (hi : i < l.length), 0 < i → (l.getD (i - 1) zQIIIIILIE).1 < l[i].1 := fun i hi h0 => by
    have := h i hi
    rw [Nat.zero_add] at this
    simp only [teamP, Bool.and_eq_true, Bool.or_eq_true, decide_eq_true_eq] at this
    omega
  intro j i hi hji
  induction i with
  | zero => omega
  | succ i ih =>
    have h1 := step (i + 1) hi (by omega)
    rw [Nat.add_sub_cancel, getD_nat _ _ (show i < l.length by omega)] at h1
    rcases Nat.lt_or_eq_of_le (Nat.le_of_lt_succ hji) with h2 | rfl
    · have := ih (by omega) h2; omega
    · rw [getD_nat _ _ (by omega)]; exact h1
theorem findT_self {l : List Team} (h : allI (teamP l) l 0 = true) {i : Nat} (hi : i < l.length) {id : Int} : findT l id = (i : Int) ↔ id = l[i].1 := by
  constructor
  · intro e
    obtain ⟨k, hk, e1, h1, _⟩ := findM_pos (p := fun x : Team => x.1 == id) (l := l) (by unfold findT at e; omega)
    unfold findT at e
    obtain rfl : k = i := by omega
    exact (beq_iff_eq.1 h1).symm
  · rintro rfl
    unfold findT
    by_cases hn : findM (fun x : Team => x.1 == l[i].1) l < 0
    · have := (findM_neg hn).2 i hi
      simp at this
    · obtain ⟨k, hk, e1, h1, h2⟩ := findM_pos hn
      rw [e1]
      have h1 : l[k].1 = l[i].1 := by simpa using h1
      rcases Nat.lt_trichotomy k i with hlt | rfl | hlt
      · have := teams_mono h k i hi hlt
        rw [getD_nat _ _ hk] at this
        omega
      · rfl
      · have := h2 i hlt
        simp at this
theorem metS_eq {l : List Team} (h : allI (teamP l) l 0 = true) {i : Nat} (hi : i < l.length) (id : Int) : metS l i l[i] id = metP l l[i] id := by
  unfold metS metP
  by_cases hn : findT l id < 0
  · simp [hn]
  · rw [decide_eq_false hn, Bool.not_false, Bool.true_and, Bool.true_and]
    have e1 : (findT l id == (i : Int)) = (id == l[i].1) := by
      apply Bool.eq_iff_iff.2
      rw [beq_iff_eq, beq_iff_eq]
      exact findT_self h hi
    rw [e1]
    obtain ⟨k, hk, e2, h2, _⟩ := findM_pos (p := fun x : Team => x.1 == id) hn
    have e3 : findT l id = (k : Int) := e2
    rw [e3, Int.toNat_natCast, getD_nat _ _ hk, show l[k].1 = id by simpa using h2]
    congr 1
    apply Bool.eq_iff_iff.2
    rw [beq_iff_eq, beq_iff_eq]
    exact ⟨fun h => h.symm, fun h => h.symm⟩
theorem teams_alike (l : List Team) : (allI (fun i x => teamP l i x && x.met.all (metS l i x)) l 0 && decide (l.length ≤ 10)) = areTeamsM l := by
  unfold areTeamsM
  rw [allI_and]
  cases h : allI (teamP l) l 0 with
  | false => simp
  | true =>
    have : allI (fun i x => x.met.all (metS l i x)) l 0 = allI (fun _ x => x.met.all (metP l x)) l 0 := allI_congr fun j hj => by
      congr 1
      funext id
      exact metS_eq h hj id
    rw [this]
    cases decide (l.length ≤ 10) <;> simp
theorem spec_AreTeams_ok {N : Nat} {l : List Team} {kf : Bool → Option Ret} (hl : l.length ≤ maxLen) (hm : ∀ x ∈ l, x.met.length ≤ maxLen ∧ x.met.length < N) (hN : l.length < N) : spec_AreTeams N l kf = kf (areTeamsM l) := by
  unfold spec_AreTeams
  rw [spec_AreTeams_l2_r hl hN, goL_all (l := l) (p := fun i x => teamP l i x && x.met.all (metS l i x)) (kf := kf false) (fun i x next h e => ?_) l 0 rfl, ← teams_alike]
  · cases allI (fun i x => teamP l i x && x.met.all (metS l i x)) l 0
    · rfl
    · simp only [cond_true, Bool.true_and]
      congr 1
      apply Bool.eq_iff_iff.2
      simp
      omega
  · have hx : x ∈ l := by rw [← e]; exact List.getElem_mem h
    obtain ⟨m1, m2⟩ := hm x hx
    have inner : spec_AreTeams_l8 N l (i : Int) x N next kf (0 : Int) = bif x.met.all (metS l i x) then next else kf false := by
      rw [spec_AreTeams_l8_r m1 m2, goL_all (l := x.met) (p := fun _ id => metS l i x id) (kf := kf false) (fun j id next' hj ej => ?_) x.met 0 rfl, allI_all]
      rw [spec_FindTeam_ok hl hN]
      unfold metS
      by_cases hn : findT l id < 0
      · simp [hn]
      · rw [decide_eq_false hn, cond_false, Bool.not_false, Bool.true_and]
        cases hf : findT l id == (i : Int)
        · obtain ⟨k, hk, e2, h2, _⟩ := findM_pos (p := fun x : Team => x.1 == id) hn
          have e3 : findT l id = (k : Int) := e2
          obtain ⟨q1, q2⟩ := hm l[k] (List.getElem_mem hk)
          rw [cond_false, e3, inB_nat hk, cond_true, cond_true, Int.toNat_natCast, getD_nat _ _ hk, spec_l19Count_ok q1 q2, spec_l19Count_ok m1 m2]
          cases hc : (countM l[k].met x.1 == countM x.met l[k].1) <;> simp [bne, hc]
        · simp
    have ord : ∀ A B : Option Ret, (bif (decide ((i : Int) > (0 : Int))) then
        bif (inB (IntKind.wrap .i64 ((i : Int) - (1 : Int))) (List.length l)) then
          bif (decide ((List.getD l (Int.toNat (IntKind.wrap .i64 ((i : Int) - (1 : Int)))) zQIIIIILIE).1 ≥ x.1)) then A else B
        else none
      else B) = bif (decide (i = 0) || decide ((l.getD (i - 1) zQIIIIILIE).1 < x.1)) then B else A := fun A B => by
      by_cases h0 : i = 0
      · subst h0; simp
      · rw [decide_eq_true (show (i : Int) > 0 by omega), cond_true, wrap_pred (by omega) h hl, inB_nat (by omega), cond_true, Int.toNat_natCast, decide_eq_false h0, Bool.false_or]
        by_cases hc : (l.getD (i - 1) zQIIIIILIE).1 < x.1
        · rw [decide_eq_false (by omega), decide_eq_true hc]; rfl
        · rw [decide_eq_true (by omega), decide_eq_false hc]; rfl
    simp only [spec_l1In_ok, inner, ord]
    unfold teamP
    cases inR x.1 1 99 <;> simp
    cases inR x.2.1 1 99 <;> simp
    cases inR x.2.2.1 0 x.met.length <;> simp
    cases inR x.2.2.2.2.1 0 x.met.length <;> simp
    cases inR x.2.2.2.1 0 100000 <;> simp
    by_cases h20 : x.met.length ≤ 20
    · rw [decide_eq_false (show ¬ (20 : Int) < (x.met.length : Int) by omega), decide_eq_true h20]
      simp
      cases (decide (i = 0) || decide ((l[i - 1]?.getD zQIIIIILIE).1 < x.1)) <;> simp
    · rw [decide_eq_true (show (20 : Int) < (x.met.length : Int) by omega), decide_eq_false h20]
      simp
theorem impl_AreTeams_ok {N : Nat} {l : List Team} {kf : Bool → Option Ret} (hl : l.length ≤ maxLen) (hm : ∀ x ∈ l, x.met.length ≤ maxLen ∧ x.met.length < N) (hN : l.length < N) : impl_AreTeams N l kf = kf (areTeamsM l) := by
  unfold impl_AreTeams
  by_cases h10 : l.length ≤ 10
  rotate_left
  · rw [decide_eq_true (by omega), cond_true]
    unfold areTeamsM
    rw [decide_eq_false h10]
    rfl
  rw [decide_eq_false (by omega), cond_false]
  rw [impl_AreTeams_l4_r hl hN, goL_all (l := l) (p := fun i x => teamP l i x && x.met.all (metP l x)) (kf := kf false) (fun i x next h e => ?_) l 0 rfl]
  · unfold areTeamsM
    rw [decide_eq_true h10, Bool.true_and, allI_and]
    cases (allI (teamP l) l 0 && allI (fun _ x => x.met.all (metP l x)) l 0) <;> rfl
  · have hx : x ∈ l := by rw [← e]; exact List.getElem_mem h
    obtain ⟨m1, m2⟩ := hm x hx
    have inner : impl_AreTeams_l10 N l x l (List.length l : Int) (i : Int) x.2.2.2.2.2 (List.length x.2.2.2.2.2 : Int) N next kf (0 : Int) = bif x.met.all (metP l x) then next else kf false := by
      rw [impl_AreTeams_l10_r m1 m2, goL_all (l := x.met) (p := fun _ id => metP l x id) (kf := kf false) (fun j id next' hj ej => ?_) x.met 0 rfl, allI_all]
      rw [impl_FindTeam_ok hl hN]
      unfold metP
      by_cases hn : findT l id < 0
      · simp [hn]
      · rw [decide_eq_false hn, cond_false, Bool.not_false, Bool.true_and]
        cases hf : id == x.1
        · obtain ⟨k, hk, e2, h2, _⟩ := findM_pos (p := fun x : Team => x.1 == id) hn
          have e3 : findT l id = (k : Int) := e2
          obtain ⟨q1, q2⟩ := hm l[k] (List.getElem_mem hk)
          rw [cond_false, e3, inB_nat hk, cond_true, Int.toNat_natCast, getD_nat _ _ hk, impl_times_ok m1 m2, impl_times_ok q1 q2]
          cases hc : (countM x.met id == countM l[k].met x.1) <;> simp [bne, hc]
        · simp
    have ord : ∀ A B : Option Ret, (bif (decide ((i : Int) > (0 : Int))) then
        bif (inB (IntKind.wrap .i64 ((i : Int) - (1 : Int))) (List.length l)) then
          bif (decide (x.1 ≤ (List.getD l (Int.toNat (IntKind.wrap .i64 ((i : Int) - (1 : Int)))) zQIIIIILIE).1)) then A else B
        else none
      else B) = bif (decide (i = 0) || decide ((l.getD (i - 1) zQIIIIILIE).1 < x.1)) then B else A := fun A B => by
      by_cases h0 : i = 0
      · subst h0; simp
      · rw [decide_eq_true (show (i : Int) > 0 by omega), cond_true, wrap_pred (by omega) h hl, inB_nat (by omega), cond_true, Int.toNat_natCast, decide_eq_false h0, Bool.false_or]
        by_cases hc : (l.getD (i - 1) zQIIIIILIE).1 < x.1
        · rw [decide_eq_false (by omega), decide_eq_true hc]; rfl
        · rw [decide_eq_true (by omega), decide_eq_false hc]; rfl
    simp only [impl_InRange_ok, inner, ord]
    unfold teamP
    cases inR x.1 1 99 <;> simp
    cases (decide (i = 0) || decide ((l[i - 1]?.getD zQIIIIILIE).1 < x.1)) <;> simp
    cases inR x.2.1 1 99 <;> simp
    by_cases h20 : x.met.length ≤ 20
    · rw [decide_eq_false (show ¬ (20 : Int) < (x.met.length : Int) by omega), decide_eq_true h20]
      simp
      cases inR x.2.2.1 0 x.met.length <;> simp
      cases inR x.2.2.2.2.1 0 x.met.length <;> simp
      cases inR x.2.2.2.1 0 100000 <;> simp
    · rw [decide_eq_true (show (20 : Int) < (x.met.length : Int) by omega), decide_eq_false h20]
      simp
theorem teams_small {l : List Team} {N : Nat} (hw : wf (.sl tQIIIIILIE) l) (hN : sizeV (.sl tQIIIIILIE) l < N) : ∀ x ∈ l, x.met.length ≤ maxLen ∧ x.met.length < N := fun x hx => by
  have h1 := sizeV_mem (t := tQIIIIILIE) hx
  have h2 : sizeV tQIIIIILIE x = sizeV (.sl (.int .i64)) x.2.2.2.2.2 := by simp [sizeV]
  have h3 := sizeV_len (t := .int .i64) x.2.2.2.2.2
  exact ⟨(hw.2 x hx).2.2.2.2.2.1, by show x.2.2.2.2.2.length < N; omega⟩
end Go.Pv.R
namespace Go.Pv
set_option linter.unusedVariables false
set_option linter.unusedSimpArgs false
end Go.Pv
namespace Go.Pv.R
set_option linter.unusedVariables false
set_option linter.unusedSimpArgs false
abbrev Judge := QIILIE
theorem judges_small {l : List Judge} {N : Nat} (hw : wf (.sl tQIILIE) l) (hN : sizeV (.sl tQIILIE) l < N) : ∀ x ∈ l, x.2.2.length ≤ maxLen ∧ x.2.2.length < N := fun x hx => by
  have h1 := sizeV_mem (t := tQIILIE) hx
  have h2 : sizeV tQIILIE x = sizeV (.sl (.int .i64)) x.2.2 := by simp [sizeV]
  have h3 := sizeV_len (t := .int .i64) x.2.2
  exact ⟨(hw.2 x hx).2.2.1, by omega⟩
end Go.Pv.R
namespace Go.Pv.R
set_option linter.unusedVariables false
set_option linter.unusedSimpArgs false
end Go.Pv.R
namespace Go.Pv.R
set_option linter.unusedVariables false
set_option linter.unusedSimpArgs false
abbrev Club := QLQIIIIILIELQIILIELQIIELILQIIIELQIIIIEIE
/-- A club that is small enough, and rounds enough. -/
structure ClubOK (c : Club) (N : Nat) : Prop where
  tl : c.1.length ≤ maxLen
  tm : ∀ x : Team, x ∈ c.1 → x.met.length ≤ maxLen ∧ x.met.length < N
  tN : c.1.length < N
  jl : c.2.1.length ≤ maxLen
  jm : ∀ x ∈ c.2.1, x.2.2.length ≤ maxLen ∧ x.2.2.length < N
  jN : c.2.1.length < N
  rl : c.2.2.1.length ≤ 1048576
  rN : 2 * c.2.2.1.length < N
  sl : c.2.2.2.1.length ≤ 1048576
  sN : c.2.2.2.1.length < N
  bl : c.2.2.2.2.1.length ≤ 1048576
  bN : c.2.2.2.2.1.length < N
  ml : c.2.2.2.2.2.1.length ≤ 1048576
  mN : c.2.2.2.2.2.1.length < N
  n8 : 8 < N
  tb : c.1.length ≤ 1048576
  tmb : ∀ x : Team, x ∈ c.1 → x.met.length ≤ 1048576
theorem sizeV_club (c : Club) : sizeV tQLQIIIIILIELQIILIELQIIELILQIIIELQIIIIEIE c = sizeV (.sl tQIIIIILIE) c.1 + (sizeV (.sl tQIILIE) c.2.1 + (sizeV (.sl tQIIE) c.2.2.1 + (sizeV (.sl (.int .i64)) c.2.2.2.1 + (sizeV (.sl tQIIIE) c.2.2.2.2.1 + sizeV (.sl tQIIIIE) c.2.2.2.2.2.1)))) := rfl
theorem club_ok {c : Club} {N : Nat} (hw : wf tQLQIIIIILIELQIILIELQIIELILQIIIELQIIIIEIE c) (hb : sizeV tQLQIIIIILIELQIILIELQIIELILQIIIELQIIIIEIE c ≤ 1048576) (hN : 2 * sizeV tQLQIIIIILIELQIILIELQIIELILQIIIELQIIIIEIE c + 8 < N) : ClubOK c N := by
  have hs := sizeV_club c
  have h1 := sizeV_len (t := tQIIIIILIE) c.1
  have h2 := sizeV_len (t := tQIILIE) c.2.1
  have h3 := sizeV_len (t := tQIIE) c.2.2.1
  have h4 := sizeV_len (t := .int .i64) c.2.2.2.1
  have h5 := sizeV_len (t := tQIIIE) c.2.2.2.2.1
  have h6 := sizeV_len (t := tQIIIIE) c.2.2.2.2.2.1
  have hm := maxLen_eq
  exact ⟨by omega, teams_small hw.1 (by omega), by omega, by omega, judges_small hw.2.1 (by omega), by omega, by omega, by omega, by omega, by omega, by omega, by omega, by omega, by omega, by omega, by omega, fun x hx => by
    have q1 := sizeV_mem (t := tQIIIIILIE) hx
    have q2 : sizeV tQIIIIILIE x = sizeV (.sl (.int .i64)) x.2.2.2.2.2 := by simp [sizeV]
    have q3 := sizeV_len (t := .int .i64) x.2.2.2.2.2
    show x.2.2.2.2.2.length ≤ 1048576
    omega⟩
def sumT (g : Team → Int) (l : List Team) : Int := foldI (fun _ (x : Team) s => IntKind.wrap .i64 (s + g x)) l 0 0
theorem goL3_sums {g1 g2 g3 : Team → Int} {k : Int → Int → Int → Option Ret} : ∀ (l : List Team) (i : Nat) (a b c : Int), goL3 (fun (i : Nat) (x : Team) (a b c : Int) (next : Int → Int → Int → Option Ret) => next (IntKind.wrap .i64 (a + g1 x)) (IntKind.wrap .i64 (b + g2 x)) (IntKind.wrap .i64 (c + g3 x))) k l i a b c =
    k (foldI (fun _ (x : Team) s => IntKind.wrap .i64 (s + g1 x)) l i a) (foldI (fun _ (x : Team) s => IntKind.wrap .i64 (s + g2 x)) l i b) (foldI (fun _ (x : Team) s => IntKind.wrap .i64 (s + g3 x)) l i c)
  | [], _, _, _, _ => rfl
  | x :: r, i, a, b, c => by simp only [goL3, foldI]; exact goL3_sums r (i + 1) _ _ _
def zeroSumM (c : Club) : Bool := areTeamsM c.1 && ((IntKind.wrap .i64 (2 * sumT (fun x => x.2.2.1) c.1) == sumT (fun x : Team => (x.met.length : Int)) c.1) && (IntKind.wrap .i64 (2 * sumT (fun x => x.2.2.2.2.1) c.1) == sumT (fun x : Team => (x.met.length : Int)) c.1))
theorem spec_IsZeroSum_ok {N : Nat} {c : Club} {kf : Bool → Option Ret} (h : ClubOK c N) : spec_IsZeroSum N c kf = kf (zeroSumM c) := by
  unfold spec_IsZeroSum
  rw [spec_IsZeroSum_l5_r h.tl h.tN]
  simp only [spec_AreTeams_ok h.tl h.tm h.tN]
  unfold zeroSumM
  cases areTeamsM c.1 with
  | false => cases c.1 <;> rfl
  | true =>
    simp only [cond_true, Bool.true_and]
    refine Eq.trans (goL3_sums (g1 := fun x : Team => (x.met.length : Int)) (g2 := fun x => x.2.2.1) (g3 := fun x => x.2.2.2.2.1) c.1 0 0 0 0) ?_
    show (bif IntKind.wrap .i64 (2 * sumT (fun x => x.2.2.1) c.1) == sumT (fun x : Team => (x.met.length : Int)) c.1 then _ else _) = _
    cases IntKind.wrap .i64 (2 * sumT (fun x => x.2.2.1) c.1) == sumT (fun x : Team => (x.met.length : Int)) c.1 <;> rfl
theorem impl_IsZeroSum_ok {N : Nat} {c : Club} {kf : Bool → Option Ret} (h : ClubOK c N) : impl_IsZeroSum N c kf = kf (zeroSumM c) := by
  unfold impl_IsZeroSum
  rw [impl_IsZeroSum_l3_r h.tl h.tN]
  simp only [impl_AreTeams_ok h.tl h.tm h.tN]
  refine Eq.trans (goL3_sums (g1 := fun x => x.2.2.1) (g2 := fun x => x.2.2.2.2.1) (g3 := fun x : Team => (x.met.length : Int)) c.1 0 0 0 0) ?_
  unfold zeroSumM
  cases areTeamsM c.1 with
  | false => rfl
  | true =>
    simp only [cond_true, Bool.true_and]
    show (bif IntKind.wrap .i64 (2 * sumT (fun x => x.2.2.1) c.1) == sumT (fun x : Team => (x.met.length : Int)) c.1 then _ else _) = _
    cases IntKind.wrap .i64 (2 * sumT (fun x => x.2.2.1) c.1) == sumT (fun x : Team => (x.met.length : Int)) c.1 <;> rfl
theorem lawFnExactIsZeroSum (c : Club) (h : wfs [tQLQIIIIILIELQIILIELQIIELILQIIIELQIIIIEIE] (c, ())) : ∃ N, ∀ kf, laws_FnExactIsZeroSum N c kf = kf true := by
  refine ⟨2 * sizeV tQLQIIIIILIELQIILIELQIIELILQIIIELQIIIIEIE c + 9, fun kf => ?_⟩
  have hw : wf tQLQIIIIILIELQIILIELQIIELILQIIIELQIIIIEIE c := h.1
  unfold laws_FnExactIsZeroSum
  rw [laws_szClub_ok hw (by omega) (by omega) (by omega)]
  refine small_or (by omega) fun hb => ?_
  have hc := club_ok (N := 2 * sizeV tQLQIIIIILIELQIILIELQIIELILQIIIELQIIIIEIE c + 9) hw (by omega) (by omega)
  simp only [laws_toClub_ok (x := c) (N := 2 * sizeV tQLQIIIIILIELQIILIELQIIELILQIIIELQIIIIEIE c + 9) (by omega) (by omega), spec_IsZeroSum_ok hc, impl_IsZeroSum_ok hc, laws_eqClub_ok (x := c) (N := 2 * sizeV tQLQIIIIILIELQIILIELQIIELILQIIIELQIIIIEIE c + 9) (by omega) (by omega)]
  simp
end Go.Pv.R
namespace Go.Pv
set_option linter.unusedVariables false
set_option linter.unusedSimpArgs false
end Go.Pv
namespace Go.Pv.R
set_option linter.unusedVariables false
set_option linter.unusedSimpArgs false
end Go.Pv.R
