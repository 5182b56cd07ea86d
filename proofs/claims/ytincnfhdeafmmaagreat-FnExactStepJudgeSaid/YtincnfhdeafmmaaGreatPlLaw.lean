/- The law over the plain functions. -/
import Derived.Test.YtincnfhdeafmmaaGreatPlHz
namespace Go.Pv.R
set_option linter.unusedVariables false
set_option linter.unusedSimpArgs false
end Go.Pv.R
namespace Go.Pv.R
set_option linter.unusedVariables false
set_option linter.unusedSimpArgs false
theorem spec_l1In_ok {N : Nat} {a b c : Int} {kf : Bool → Option Ret} : spec_l1In N a b c kf = kf (inR a b c) := by
  unfold spec_l1In inR
  by_cases h : b ≤ a <;> simp [h]
theorem impl_InRange_ok {N : Nat} {a b c : Int} {kf : Bool → Option Ret} : impl_InRange N a b c kf = kf (inR a b c) := by
  unfold impl_InRange inR
  by_cases h : b ≤ a <;> simp [h]
/-- What is asked first: is it all small? -/
theorem small_or {left : Int} {s : Nat} {A B : Option Ret} (h0 : 0 ≤ left) (h : (s : Int) ≤ left → B = A) : (bif decide (szr left s < 0) then A else B) = A := by
  by_cases hn : szr left s < 0
  · rw [decide_eq_true hn]; rfl
  · rw [decide_eq_false hn, cond_false]
    exact h (by have := (szr_neg (s := s) h0); omega)
end Go.Pv.R
namespace Go.Pv.R
set_option linter.unusedVariables false
set_option linter.unusedSimpArgs false
theorem tmod_both (a : Int) : (a.tmod 2147483647 = a % 2147483647 ∧ 0 ≤ a) ∨ (a.tmod 2147483647 = -((-a) % 2147483647) ∧ a < 0) := by
  rcases Int.lt_or_le a 0 with h | h
  · right
    refine ⟨?_, h⟩
    have h1 : (-a).tmod 2147483647 = (-a) % 2147483647 := Int.tmod_eq_emod_of_nonneg (by omega)
    rw [Int.neg_tmod] at h1
    omega
  · exact .inl ⟨Int.tmod_eq_emod_of_nonneg h, h⟩
theorem spec_Mod_ok {N : Nat} {a : Int} {kf : Int → Option Ret} : spec_Mod N a 2147483647 kf = kf (a % 2147483647) := by
  unfold spec_Mod
  rw [spec_l1In_ok, show inR 2147483647 1 1000000000000 = true from by decide]
  have e : (decide ((2147483647 : Int) = 0)) = false := by decide
  simp only [Bool.not_true, cond_false, e, Bool.not_false, cond_true]
  congr 1
  rcases tmod_both a with ⟨h, h'⟩ | ⟨h, h'⟩ <;> rw [h, wrap64 (by omega) (by omega), Int.tmod_eq_emod_of_nonneg (by omega)] <;> omega
theorem impl_Mod_ok {N : Nat} {a : Int} {kf : Int → Option Ret} : impl_Mod N a 2147483647 kf = kf (a % 2147483647) := by
  unfold impl_Mod
  rw [impl_InRange_ok, show inR 2147483647 1 1000000000000 = true from by decide]
  have e : (decide ((2147483647 : Int) = 0)) = false := by decide
  simp only [Bool.not_true, cond_false, e, Bool.not_false, cond_true]
  rcases tmod_both a with ⟨h, h'⟩ | ⟨h, h'⟩ <;> rw [h]
  · rw [decide_eq_false (by omega), cond_false]
  · by_cases hz : -((-a) % 2147483647) < 0
    · rw [decide_eq_true hz, cond_true, wrap64 (by omega) (by omega)]
      congr 1
      omega
    · rw [decide_eq_false hz, cond_false]
      congr 1
      omega
def foldM (i : Nat) (x s : Int) : Int := Int.tmod (IntKind.wrap .i64 ((IntKind.wrap .i64 ((IntKind.wrap .i64 (s * (1000003 : Int))) + x % 2147483647)) + (13 : Int))) (2147483647 : Int)
def hashM (l : List Int) : Int := foldI foldM l 0 11
theorem spec_Hash_ok {N : Nat} {l : List Int} {kf : Int → Option Ret} (hl : l.length ≤ maxLen) (hN : l.length < N) : spec_Hash N l kf = kf (hashM l) := by
  unfold spec_Hash
  rw [spec_Hash_l3_r hl hN, goL1_f foldM (fun i x s next h e => by rw [spec_Mod_ok]; rfl)]
  rfl
theorem impl_Hash_ok {N : Nat} {l : List Int} {kf : Int → Option Ret} (hl : l.length ≤ maxLen) (hN : l.length < N) : impl_Hash N l kf = kf (hashM l) := by
  unfold impl_Hash
  rw [impl_Hash_l3_r hl hN, goL1_f foldM (fun i x s next h e => by unfold impl_fold; rw [impl_Mod_ok]; rfl)]
  rfl
def sealM (s : Int) (x : QIIIIE) : Int := hashM [s, x.1, x.2.1, x.2.2.1]
theorem spec_l27Seal_ok {N : Nat} {s : Int} {x : QIIIIE} {kf : Int → Option Ret} (hN : 4 < N) : spec_l27Seal N s x kf = kf (sealM s x) := by
  unfold spec_l27Seal
  rw [spec_Hash_ok (by rw [maxLen_eq]; simp) (by simpa using hN)]
  rfl
theorem impl_lineSeal_ok {N : Nat} {s : Int} {x : QIIIIE} {kf : Int → Option Ret} (hN : 4 < N) : impl_lineSeal N s x kf = kf (sealM s x) := by
  unfold impl_lineSeal
  rw [impl_Hash_ok (by rw [maxLen_eq]; simp) (by simpa using hN)]
  rfl
/-- Minutes that are numbered, in range and sealed. -/
def minM : List QIIIIE → Nat → Int → Bool
  | [], _, _ => true
  | x :: r, i, s => (x.1 == ((i + 1 : Nat) : Int)) && inR x.2.1 1 9 && inR x.2.2.1 0 99 && (x.2.2.2 == sealM s x) && minM r (i + 1) x.2.2.2
def areMinM (l : List QIIIIE) : Bool := decide (l.length ≤ 200) && minM l 0 0
theorem spec_AreMinutes_ok {N : Nat} {l : List QIIIIE} {kf : Bool → Option Ret} (hl : l.length ≤ maxLen) (hN : l.length < N) (h4 : 4 < N) : spec_AreMinutes N l kf = kf (areMinM l) := by
  unfold spec_AreMinutes
  rw [spec_AreMinutes_l3_r hl hN]
  by_cases hc : l.length ≤ 200
  · have h1 : (decide ((l.length : Int) ≤ 200)) = true := decide_eq_true (by omega)
    have key : ∀ (r : List QIIIIE) (i : Nat) (s : Int), l.drop i = r → goL1 (fun (i : Nat) (x : QIIIIE) (x3_2 : Int) (next : Int → Option Ret) =>
        bif (decide ((List.length l : Int) ≤ (200 : Int))) then
          spec_l27Seal N x3_2 x (fun (r23_5 : Int) =>
            bif (x.1 != (IntKind.wrap .i64 ((i : Int) + (1 : Int)))) then kf false
            else
              spec_l1In N x.2.1 (1 : Int) (9 : Int) (fun (r32_6 : Bool) =>
                bif (!r32_6) then kf false
                else
                  spec_l1In N x.2.2.1 (0 : Int) (99 : Int) (fun (r38_7 : Bool) =>
                    bif (!r38_7) then kf false
                    else
                      bif (x.2.2.2 != r23_5) then kf false
                      else next r23_5)))
        else kf (decide ((List.length l : Int) ≤ (200 : Int)))) (fun (x3_2 : Int) => kf (decide ((List.length l : Int) ≤ (200 : Int)))) r i s = kf (minM r i s) := by
      intro r
      induction r with
      | nil => intro i s _; simp only [goL1, minM, h1]
      | cons x r ih =>
        intro i s hd
        have hlt : i < l.length := by have := congrArg List.length hd; simp at this; omega
        rw [List.drop_eq_getElem_cons hlt] at hd
        injection hd with e1 e2
        simp only [goL1, minM]
        simp only [ih (i + 1) _ e2]
        simp only [h1, cond_true, spec_l27Seal_ok h4, spec_l1In_ok, wrap_succ hlt hl]
        cases hx : (x.1 == ((i + 1 : Nat) : Int)) with
        | false => simp only [bne, hx, Bool.not_false, cond_true, Bool.false_and]
        | true =>
          simp only [bne, hx, Bool.not_true, cond_false, Bool.true_and]
          cases inR x.2.1 1 9 <;> simp
          cases inR x.2.2.1 0 99 <;> simp
          by_cases hs : x.2.2.2 = sealM s x
          · simp [hs]
          · have : (x.2.2.2 == sealM s x) = false := by simpa using hs
            simp [this]
    refine Eq.trans (key l 0 0 rfl) ?_
    unfold areMinM
    simp [hc]
  · have h1 : (decide ((l.length : Int) ≤ 200)) = false := decide_eq_false (by omega)
    cases l with
    | nil => simp at hc
    | cons x r =>
      simp only [goL1, h1, cond_false]
      unfold areMinM
      rw [decide_eq_false hc]
      rfl
theorem impl_AreMinutes_ok {N : Nat} {l : List QIIIIE} {kf : Bool → Option Ret} (hl : l.length ≤ maxLen) (hN : l.length < N) (h4 : 4 < N) : impl_AreMinutes N l kf = kf (areMinM l) := by
  unfold impl_AreMinutes
  by_cases hc : l.length ≤ 200
  · have h1 : (decide ((l.length : Int) > 200)) = false := decide_eq_false (by omega)
    rw [h1, cond_false, impl_AreMinutes_l5_r hl hN]
    have key : ∀ (r : List QIIIIE) (i : Nat) (s : Int), l.drop i = r → goL1 (fun (i : Nat) (x : QIIIIE) (x3_1 : Int) (next : Int → Option Ret) =>
        bif (x.1 != (IntKind.wrap .i64 ((i : Int) + (1 : Int)))) then kf false
        else
          impl_InRange N x.2.1 (1 : Int) (9 : Int) (fun (r24_6 : Bool) =>
            bif (!r24_6) then kf false
            else
              impl_InRange N x.2.2.1 (0 : Int) (99 : Int) (fun (r30_7 : Bool) =>
                bif (!r30_7) then kf false
                else
                  impl_lineSeal N x3_1 x (fun (r38_8 : Int) =>
                    bif (x.2.2.2 != r38_8) then kf false
                    else next x.2.2.2)))) (fun (x3_1 : Int) => kf true) r i s = kf (minM r i s) := by
      intro r
      induction r with
      | nil => intro i s _; simp only [goL1, minM]
      | cons x r ih =>
        intro i s hd
        have hlt : i < l.length := by have := congrArg List.length hd; simp at this; omega
        rw [List.drop_eq_getElem_cons hlt] at hd
        injection hd with e1 e2
        simp only [goL1, minM]
        simp only [ih (i + 1) _ e2]
        simp only [impl_lineSeal_ok h4, impl_InRange_ok, wrap_succ hlt hl]
        cases hx : (x.1 == ((i + 1 : Nat) : Int)) with
        | false => simp only [bne, hx, Bool.not_false, cond_true, Bool.false_and]
        | true =>
          simp only [bne, hx, Bool.not_true, cond_false, Bool.true_and]
          cases inR x.2.1 1 9 <;> simp
          cases inR x.2.2.1 0 99 <;> simp
          by_cases hs : x.2.2.2 = sealM s x
          · simp [hs]
          · have : (x.2.2.2 == sealM s x) = false := by simpa using hs
            simp [this]
    refine Eq.trans (key l 0 0 rfl) ?_
    unfold areMinM
    simp [hc]
  · have h1 : (decide ((l.length : Int) > 200)) = true := decide_eq_true (by omega)
    rw [h1, cond_true]
    unfold areMinM
    rw [decide_eq_false hc]
    rfl
end Go.Pv.R
namespace Go.Pv
set_option linter.unusedVariables false
set_option linter.unusedSimpArgs false
theorem findI_some {α : Type} {p : α → Bool} : ∀ {l : List α} {i k : Nat}, findI p l i = some k → ∃ j, ∃ h : j < l.length, k = i + j ∧ p l[j] = true ∧ ∀ j' (h' : j' < j), p (l[j']'(by omega)) = false
  | [], i, k, h => by cases h
  | x :: r, i, k, h => by
    simp only [findI] at h
    cases hp : p x with
    | true =>
      rw [hp] at h
      injection h with h
      exact ⟨0, by simp, by omega, hp, fun j' h' => by omega⟩
    | false =>
      rw [hp] at h
      obtain ⟨j, hj, e, h1, h2⟩ := findI_some (l := r) h
      refine ⟨j + 1, by simpa using hj, by omega, h1, fun j' h' => ?_⟩
      cases j' with
      | zero => exact hp
      | succ j' => exact h2 j' (by omega)
theorem findI_none {α : Type} {p : α → Bool} : ∀ {l : List α} {i : Nat}, findI p l i = none → ∀ j (h : j < l.length), p l[j] = false
  | [], i, h, j, hj => by simp at hj
  | x :: r, i, h, j, hj => by
    simp only [findI] at h
    cases hp : p x with
    | true => rw [hp] at h; cases h
    | false =>
      rw [hp] at h
      cases j with
      | zero => exact hp
      | succ j => exact findI_none (l := r) h j (by simpa using hj)
/-- A search: the first place with a property. -/
theorem goL_find {α : Type} {body : Nat → α → Option Ret → Option Ret} {kend : Option Ret} {kf : Nat → Option Ret} {p : α → Bool} (hb : ∀ (i : Nat) (x : α) (next : Option Ret), body i x next = bif p x then kf i else next) : ∀ (l : List α) (i : Nat), goL body kend l i = match findI p l i with
    | some k => kf k
    | none => kend
  | [], _ => rfl
  | x :: r, i => by
    simp only [goL, findI]
    rw [hb]
    cases p x
    · exact goL_find hb r (i + 1)
    · rfl
def findM {α : Type} (p : α → Bool) (l : List α) : Int := match findI p l 0 with
  | some k => (k : Int)
  | none => -1
theorem findM_pos {α : Type} {p : α → Bool} {l : List α} (h : ¬ findM p l < 0) : ∃ k : Nat, ∃ hk : k < l.length, findM p l = (k : Int) ∧ p l[k] = true ∧ ∀ j (hj : j < k), p (l[j]'(by omega)) = false := by
  unfold findM at *
  split at h
  · rename_i k hk
    obtain ⟨j, hj, e, h1, h2⟩ := findI_some hk
    obtain rfl : k = j := by omega
    exact ⟨k, hj, rfl, h1, h2⟩
  · omega
theorem findM_neg {α : Type} {p : α → Bool} {l : List α} (h : findM p l < 0) : findM p l = -1 ∧ ∀ j (hj : j < l.length), p l[j] = false := by
  unfold findM at *
  split at h
  · omega
  · rename_i hn
    exact ⟨rfl, findI_none hn⟩
theorem allI_and {α : Type} {p q : Nat → α → Bool} : ∀ {l : List α} {i : Nat}, allI (fun i x => p i x && q i x) l i = (allI p l i && allI q l i)
  | [], _ => rfl
  | x :: r, i => by
    simp only [allI, allI_and (l := r)]
    cases p i x <;> cases q i x <;> cases allI p r (i + 1) <;> simp
theorem allI_congr {α : Type} {p q : Nat → α → Bool} {l : List α} (h : ∀ (j : Nat) (hj : j < l.length), p j l[j] = q j l[j]) : allI p l 0 = allI q l 0 := by
  apply Bool.eq_iff_iff.2
  rw [allI_iff, allI_iff]
  constructor
  · intro h1 j hj; have := h1 j hj; rw [Nat.zero_add] at *; rw [← h j hj]; exact this
  · intro h1 j hj; have := h1 j hj; rw [Nat.zero_add] at *; rw [h j hj]; exact this
theorem wrap_pred {i m : Nat} (h0 : 0 < i) (h : i < m) (hm : m ≤ maxLen) : IntKind.wrap .i64 ((i : Int) - 1) = ((i - 1 : Nat) : Int) := by
  have := maxLen_eq
  rw [wrap64] <;> omega
end Go.Pv
namespace Go.Pv.R
set_option linter.unusedVariables false
set_option linter.unusedSimpArgs false
abbrev Team := QIIIIILIE
def findT (l : List Team) (id : Int) : Int := findM (fun x : Team => x.1 == id) l
theorem spec_FindTeam_ok {N : Nat} {l : List Team} {id : Int} {kf : Int → Option Ret} (hl : l.length ≤ maxLen) (hN : l.length < N) : spec_FindTeam N l id kf = kf (findT l id) := by
  unfold spec_FindTeam
  rw [spec_FindTeam_l2_r hl hN, goL_find (p := fun x : Team => x.1 == id) (kf := fun i => kf (i : Int)) (fun i x next => rfl)]
  unfold findT findM
  cases findI (fun x : Team => x.1 == id) l 0 <;> rfl
theorem impl_FindTeam_ok {N : Nat} {l : List Team} {id : Int} {kf : Int → Option Ret} (hl : l.length ≤ maxLen) (hN : l.length < N) : impl_FindTeam N l id kf = kf (findT l id) := by
  unfold impl_FindTeam slices_IndexFunc_Team_impl_FindTeam_1
  rw [slices_IndexFunc_Team_impl_FindTeam_1_l2_r hl hN]
  simp only [impl_FindTeam_1]
  rw [goL_find (p := fun x : Team => x.1 == id) (kf := fun i => kf (i : Int)) (fun i x next => rfl)]
  unfold findT findM
  cases findI (fun x : Team => x.1 == id) l 0 <;> rfl
def countM (l : List Int) (n : Int) : Int := foldI (fun i x s => bif x == n then IntKind.wrap .i64 (s + 1) else s) l 0 0
theorem spec_l19Count_ok {N : Nat} {l : List Int} {n : Int} {kf : Int → Option Ret} (hl : l.length ≤ maxLen) (hN : l.length < N) : spec_l19Count N l n kf = kf (countM l n) := by
  unfold spec_l19Count
  rw [spec_l19Count_l3_r hl hN, goL1_f (fun i x s => bif x == n then IntKind.wrap .i64 (s + 1) else s) (fun i x s next h e => by cases x == n <;> rfl)]
  rfl
theorem impl_times_ok {N : Nat} {l : List Int} {n : Int} {kf : Int → Option Ret} (hl : l.length ≤ maxLen) (hN : l.length < N) : impl_times N l n kf = kf (countM l n) := by
  unfold impl_times
  rw [impl_times_l3_r hl hN, goL1_f (fun i x s => bif x == n then IntKind.wrap .i64 (s + 1) else s) (fun i x s next h e => by cases x == n <;> rfl)]
  rfl
abbrev Team.met (x : Team) : List Int := x.2.2.2.2.2
/-- One team: its numbers. -/
def teamP (l : List Team) (i : Nat) (x : Team) : Bool := inR x.1 1 99 && (inR x.2.1 1 99 && (inR x.2.2.1 0 x.met.length && (inR x.2.2.2.2.1 0 x.met.length && (inR x.2.2.2.1 0 100000 && (decide (x.met.length ≤ 20) && (decide (i = 0) || decide ((l.getD (i - 1) zQIIIIILIE).1 < x.1)))))))
/-- Whom it has met. -/
def metP (l : List Team) (x : Team) (id : Int) : Bool := !decide (findT l id < 0) && (!(id == x.1) && (countM x.met id == countM (l.getD (findT l id).toNat zQIIIIILIE).met x.1))
def areTeamsM (l : List Team) : Bool := decide (l.length ≤ 10) && (allI (teamP l) l 0 && allI (fun _ x => x.met.all (metP l x)) l 0)
def metS (l : List Team) (i : Nat) (x : Team) (id : Int) : Bool := !decide (findT l id < 0) && (!(findT l id == (i : Int)) && (countM (l.getD (findT l id).toNat zQIIIIILIE).met x.1 == countM x.met (l.getD (findT l id).toNat zQIIIIILIE).1))
theorem allI_all {α : Type} {p : α → Bool} : ∀ {l : List α} {i : Nat}, allI (fun _ x => p x) l i = l.all p
  | [], _ => rfl
  | x :: r, i => by simp only [allI, List.all_cons, allI_all (l := r)]
/-- The ids grow: each leads to its own place. -/
theorem teams_mono {l : List Team} (h : allI (teamP l) l 0 = true) : ∀ (j i : Nat) (hi : i < l.length), j < i → (l.getD j zQIIIIILIE).1 < l[i].1 := by
  rw [allI_iff] at h
  have step : ∀ (i : Nat) (hi : i < l.length), 0 < i → (l.getD (i - 1) zQIIIIILIE).1 < l[i].1 := fun i hi h0 => by
    have := h i hi
    rw [Nat.zero_add] at this
    simp only [teamP, Bool.and_eq_true, Bool.or_eq_true, decide_eq_true_eq] at this
    omega
  intro j i hi hji
  induction i with
  | zero => omega
  | succ i ih =>
    have h1 := step (i + 1) hi (by omega)
    rw [Nat.add_sub_cancel, getD_nat _ _ (show i < l.length by omega)] at h1
    rcases Nat.lt_or_eq_of_le (Nat.le_of_lt_succ hji) with h2 | rfl
    · have := ih (by omega) h2; omega
    · rw [getD_nat _ _ (by omega)]; exact h1
theorem findT_self {l : List Team} (h : allI (teamP l) l 0 = true) {i : Nat} (hi : i < l.length) {id : Int} : findT l id = (i : Int) ↔ id = l[i].1 := by
  constructor
  · intro e
    obtain ⟨k, hk, e1, h1, _⟩ := findM_pos (p := fun x : Team => x.1 == id) (l := l) (by unfold findT at e; omega)
    unfold findT at e
    obtain rfl : k = i := by omega
    exact (beq_iff_eq.1 h1).symm
  · rintro rfl
    unfold findT
    by_cases hn : findM (fun x : Team => x.1 == l[i].1) l < 0
    · have := (findM_neg hn).2 i hi
      simp at this
    · obtain ⟨k, hk, e1, h1, h2⟩ := findM_pos hn
      rw [e1]
      have h1 : l[k].1 = l[i].1 := by simpa using h1
      rcases Nat.lt_trichotomy k i with hlt | rfl | hlt
      · have := teams_mono h k i hi hlt
        rw [getD_nat _ _ hk] at this
        omega
      · rfl
      · have := h2 i hlt
        simp at this
theorem metS_eq {l : List Team} (h : allI (teamP l) l 0 = true) {i : Nat} (hi : i < l.length) (id : Int) : metS l i l[i] id = metP l l[i] id := by
  unfold metS metP
  by_cases hn : findT l id < 0
  · simp [hn]
  · rw [decide_eq_false hn, Bool.not_false, Bool.true_and, Bool.true_and]
    have e1 : (findT l id == (i : Int)) = (id == l[i].1) := by
      apply Bool.eq_iff_iff.2
      rw [beq_iff_eq, beq_iff_eq]
      exact findT_self h hi
    rw [e1]
    obtain ⟨k, hk, e2, h2, _⟩ := findM_pos (p := fun x : Team => x.1 == id) hn
    have e3 : findT l id = (k : Int) := e2
    rw [e3, Int.toNat_natCast, getD_nat _ _ hk, show l[k].1 = id by simpa using h2]
    congr 1
    apply Bool.eq_iff_iff.2
    rw [beq_iff_eq, beq_iff_eq]
    exact ⟨fun h => h.symm, fun h => h.symm⟩
theorem teams_alike (l : List Team) : (allI (fun i x => teamP l i x && x.met.all (metS l i x)) l 0 && decide (l.length ≤ 10)) = areTeamsM l := by
  unfold areTeamsM
  rw [allI_and]
  cases h : allI (teamP l) l 0 with
  | false => simp
  | true =>
    have : allI (fun i x => x.met.all (metS l i x)) l 0 = allI (fun _ x => x.met.all (metP l x)) l 0 := allI_congr fun j hj => by
      congr 1
      funext id
      exact metS_eq h hj id
    rw [this]
    cases decide (l.length ≤ 10) <;> simp
theorem spec_AreTeams_ok {N : Nat} {l : List Team} {kf : Bool → Option Ret} (hl : l.length ≤ maxLen) (hm : ∀ x ∈ l, x.met.length ≤ maxLen ∧ x.met.length < N) (hN : l.length < N) : spec_AreTeams N l kf = kf (areTeamsM l) := by
  unfold spec_AreTeams
  rw [spec_AreTeams_l2_r hl hN, goL_all (l := l) (p := fun i x => teamP l i x && x.met.all (metS l i x)) (kf := kf false) (fun i x next h e => ?_) l 0 rfl, ← teams_alike]
  · cases allI (fun i x => teamP l i x && x.met.all (metS l i x)) l 0
    · rfl
    · simp only [cond_true, Bool.true_and]
      congr 1
      apply Bool.eq_iff_iff.2
      simp
      omega
  · have hx : x ∈ l := by rw [← e]; exact List.getElem_mem h
    obtain ⟨m1, m2⟩ := hm x hx
    have inner : spec_AreTeams_l8 N l (i : Int) x N next kf (0 : Int) = bif x.met.all (metS l i x) then next else kf false := by
      rw [spec_AreTeams_l8_r m1 m2, goL_all (l := x.met) (p := fun _ id => metS l i x id) (kf := kf false) (fun j id next' hj ej => ?_) x.met 0 rfl, allI_all]
      rw [spec_FindTeam_ok hl hN]
      unfold metS
      by_cases hn : findT l id < 0
      · simp [hn]
      · rw [decide_eq_false hn, cond_false, Bool.not_false, Bool.true_and]
        cases hf : findT l id == (i : Int)
        · obtain ⟨k, hk, e2, h2, _⟩ := findM_pos (p := fun x : Team => x.1 == id) hn
          have e3 : findT l id = (k : Int) := e2
          obtain ⟨q1, q2⟩ := hm l[k] (List.getElem_mem hk)
          rw [cond_false, e3, inB_nat hk, cond_true, cond_true, Int.toNat_natCast, getD_nat _ _ hk, spec_l19Count_ok q1 q2, spec_l19Count_ok m1 m2]
          cases hc : (countM l[k].met x.1 == countM x.met l[k].1) <;> simp [bne, hc]
        · simp
    have ord : ∀ A B : Option Ret, (bif (decide ((i : Int) > (0 : Int))) then
        bif (inB (IntKind.wrap .i64 ((i : Int) - (1 : Int))) (List.length l)) then
          bif (decide ((List.getD l (Int.toNat (IntKind.wrap .i64 ((i : Int) - (1 : Int)))) zQIIIIILIE).1 ≥ x.1)) then A else B
        else none
      else B) = bif (decide (i = 0) || decide ((l.getD (i - 1) zQIIIIILIE).1 < x.1)) then B else A := fun A B => by
      by_cases h0 : i = 0
      · subst h0; simp
      · rw [decide_eq_true (show (i : Int) > 0 by omega), cond_true, wrap_pred (by omega) h hl, inB_nat (by omega), cond_true, Int.toNat_natCast, decide_eq_false h0, Bool.false_or]
        by_cases hc : (l.getD (i - 1) zQIIIIILIE).1 < x.1
        · rw [decide_eq_false (by omega), decide_eq_true hc]; rfl
        · rw [decide_eq_true (by omega), decide_eq_false hc]; rfl
    simp only [spec_l1In_ok, inner, ord]
    unfold teamP
    cases inR x.1 1 99 <;> simp
    cases inR x.2.1 1 99 <;> simp
    cases inR x.2.2.1 0 x.met.length <;> simp
    cases inR x.2.2.2.2.1 0 x.met.length <;> simp
    cases inR x.2.2.2.1 0 100000 <;> simp
    by_cases h20 : x.met.length ≤ 20
    · rw [decide_eq_false (show ¬ (20 : Int) < (x.met.length : Int) by omega), decide_eq_true h20]
      simp
      cases (decide (i = 0) || decide ((l[i - 1]?.getD zQIIIIILIE).1 < x.1)) <;> simp
    · rw [decide_eq_true (show (20 : Int) < (x.met.length : Int) by omega), decide_eq_false h20]
      simp
theorem impl_AreTeams_ok {N : Nat} {l : List Team} {kf : Bool → Option Ret} (hl : l.length ≤ maxLen) (hm : ∀ x ∈ l, x.met.length ≤ maxLen ∧ x.met.length < N) (hN : l.length < N) : impl_AreTeams N l kf = kf (areTeamsM l) := by
  unfold impl_AreTeams
  by_cases h10 : l.length ≤ 10
  rotate_left
  · rw [decide_eq_true (by omega), cond_true]
    unfold areTeamsM
    rw [decide_eq_false h10]
    rfl
  rw [decide_eq_false (by omega), cond_false]
  rw [impl_AreTeams_l4_r hl hN, goL_all (l := l) (p := fun i x => teamP l i x && x.met.all (metP l x)) (kf := kf false) (fun i x next h e => ?_) l 0 rfl]
  · unfold areTeamsM
    rw [decide_eq_true h10, Bool.true_and, allI_and]
    cases (allI (teamP l) l 0 && allI (fun _ x => x.met.all (metP l x)) l 0) <;> rfl
  · have hx : x ∈ l := by rw [← e]; exact List.getElem_mem h
    obtain ⟨m1, m2⟩ := hm x hx
    have inner : impl_AreTeams_l10 N l x l (List.length l : Int) (i : Int) x.2.2.2.2.2 (List.length x.2.2.2.2.2 : Int) N next kf (0 : Int) = bif x.met.all (metP l x) then next else kf false := by
      rw [impl_AreTeams_l10_r m1 m2, goL_all (l := x.met) (p := fun _ id => metP l x id) (kf := kf false) (fun j id next' hj ej => ?_) x.met 0 rfl, allI_all]
      rw [impl_FindTeam_ok hl hN]
      unfold metP
      by_cases hn : findT l id < 0
      · simp [hn]
      · rw [decide_eq_false hn, cond_false, Bool.not_false, Bool.true_and]
        cases hf : id == x.1
        · obtain ⟨k, hk, e2, h2, _⟩ := findM_pos (p := fun x : Team => x.1 == id) hn
          have e3 : findT l id = (k : Int) := e2
          obtain ⟨q1, q2⟩ := hm l[k] (List.getElem_mem hk)
          rw [cond_false, e3, inB_nat hk, cond_true, Int.toNat_natCast, getD_nat _ _ hk, impl_times_ok m1 m2, impl_times_ok q1 q2]
          cases hc : (countM x.met id == countM l[k].met x.1) <;> simp [bne, hc]
        · simp
    have ord : ∀ A B : Option Ret, (bif (decide ((i : Int) > (0 : Int))) then
        bif (inB (IntKind.wrap .i64 ((i : Int) - (1 : Int))) (List.length l)) then
          bif (decide (x.1 ≤ (List.getD l (Int.toNat (IntKind.wrap .i64 ((i : Int) - (1 : Int)))) zQIIIIILIE).1)) then A else B
        else none
      else B) = bif (decide (i = 0) || decide ((l.getD (i - 1) zQIIIIILIE).1 < x.1)) then B else A := fun A B => by
      by_cases h0 : i = 0
      · subst h0; simp
      · rw [decide_eq_true (show (i : Int) > 0 by omega), cond_true, wrap_pred (by omega) h hl, inB_nat (by omega), cond_true, Int.toNat_natCast, decide_eq_false h0, Bool.false_or]
        by_cases hc : (l.getD (i - 1) zQIIIIILIE).1 < x.1
        · rw [decide_eq_false (by omega), decide_eq_true hc]; rfl
        · rw [decide_eq_true (by omega), decide_eq_false hc]; rfl
    simp only [impl_InRange_ok, inner, ord]
    unfold teamP
    cases inR x.1 1 99 <;> simp
    cases (decide (i = 0) || decide ((l[i - 1]?.getD zQIIIIILIE).1 < x.1)) <;> simp
    cases inR x.2.1 1 99 <;> simp
    by_cases h20 : x.met.length ≤ 20
    · rw [decide_eq_false (show ¬ (20 : Int) < (x.met.length : Int) by omega), decide_eq_true h20]
      simp
      cases inR x.2.2.1 0 x.met.length <;> simp
      cases inR x.2.2.2.2.1 0 x.met.length <;> simp
      cases inR x.2.2.2.1 0 100000 <;> simp
    · rw [decide_eq_true (show (20 : Int) < (x.met.length : Int) by omega), decide_eq_false h20]
      simp
theorem teams_small {l : List Team} {N : Nat} (hw : wf (.sl tQIIIIILIE) l) (hN : sizeV (.sl tQIIIIILIE) l < N) : ∀ x ∈ l, x.met.length ≤ maxLen ∧ x.met.length < N := fun x hx => by
  have h1 := sizeV_mem (t := tQIIIIILIE) hx
  have h2 : sizeV tQIIIIILIE x = sizeV (.sl (.int .i64)) x.2.2.2.2.2 := by simp [sizeV]
  have h3 := sizeV_len (t := .int .i64) x.2.2.2.2.2
  exact ⟨(hw.2 x hx).2.2.2.2.2.1, by show x.2.2.2.2.2.length < N; omega⟩
end Go.Pv.R
namespace Go.Pv
set_option linter.unusedVariables false
set_option linter.unusedSimpArgs false
/-- What a loop gathers. -/
def gatherI {α β : Type} (c : Nat → α → Bool) (f : Nat → α → β) : List α → Nat → List β
  | [], _ => []
  | x :: r, i => bif c i x then f i x :: gatherI c f r (i + 1) else gatherI c f r (i + 1)
theorem goL1_gather {α β : Type} {body : Nat → α → List β → (List β → Option Ret) → Option Ret} {kend : List β → Option Ret} {c : Nat → α → Bool} {f : Nat → α → β} {l : List α}
    (hb : ∀ (i : Nat) (x : α) (s : List β) (next : List β → Option Ret) (h : i < l.length), l[i] = x → s.length ≤ i → body i x s next = bif c i x then next (s ++ [f i x]) else next s) :
    ∀ (r : List α) (i : Nat) (s : List β), l.drop i = r → s.length ≤ i → goL1 body kend r i s = kend (s ++ gatherI c f r i)
  | [], i, s, _, _ => by simp [goL1, gatherI]
  | x :: r, i, s, hd, hs => by
    have hlt : i < l.length := by have := congrArg List.length hd; simp at this; omega
    rw [List.drop_eq_getElem_cons hlt] at hd
    injection hd with h1 h2
    simp only [goL1, gatherI]
    rw [hb i x s _ hlt h1 hs]
    cases c i x
    · rw [cond_false, cond_false]
      exact goL1_gather hb r (i + 1) s h2 (by omega)
    · rw [cond_true, cond_true, goL1_gather hb r (i + 1) (s ++ [f i x]) h2 (by simp; omega)]
      simp
theorem findM_any {α : Type} (p : α → Bool) (l : List α) : decide (findM p l ≥ 0) = l.any p := by
  by_cases h : findM p l < 0
  · rw [decide_eq_false (by omega)]
    symm
    rw [List.any_eq_false]
    intro x hx
    obtain ⟨j, hj, rfl⟩ := List.mem_iff_getElem.1 hx
    rw [(findM_neg h).2 j hj]
    simp
  · rw [decide_eq_true (by omega)]
    symm
    rw [List.any_eq_true]
    obtain ⟨k, hk, _, h1, _⟩ := findM_pos h
    exact ⟨l[k], List.getElem_mem hk, h1⟩
theorem countI_eq (n : Int) : ∀ (l : List Int) (i : Nat) (s : Nat), s + l.length ≤ maxLen → foldI (fun _ x s => bif x == n then IntKind.wrap .i64 (s + 1) else s) l i (s : Int) = ((s + l.count n : Nat) : Int)
  | [], _, _, _ => by simp [foldI]
  | x :: r, i, s, h => by
    simp only [foldI, List.count_cons]
    simp only [List.length_cons] at h
    have := maxLen_eq
    cases hx : x == n with
    | false => simp only [cond_false]; rw [countI_eq n r (i + 1) s (by omega)]; simp
    | true =>
      simp only [cond_true, if_true]
      rw [wrap64 (by omega) (by omega), show ((s : Int) + 1) = ((s + 1 : Nat) : Int) by omega, countI_eq n r (i + 1) (s + 1) (by omega)]
      congr 1
      omega
/-- Two lists, the second without repetition and bearing all of the first: each of the second is once in the first just if the first is as long and repeats nothing. -/
theorem sum_counts {b : List Int} (hb : b.Nodup) : ∀ (a : List Int), (∀ x ∈ a, x ∈ b) → (b.map fun x => a.count x).sum = a.length
  | [], _ => by
    have : ∀ l : List Int, (l.map fun x => ([] : List Int).count x).sum = 0 := by
      intro l
      induction l with
      | nil => rfl
      | cons x r ih => rw [List.map_cons, List.sum_cons, ih]; simp
    rw [this]; rfl
  | y :: a, h => by
    have ih := sum_counts hb a (fun x hx => h x (by simp [hx]))
    have hy := h y (by simp)
    have key : ∀ l : List Int, (l.map fun x => (y :: a).count x).sum = (l.map fun x => a.count x).sum + l.count y := by
      intro l
      induction l with
      | nil => rfl
      | cons x r ihl =>
        rw [List.map_cons, List.sum_cons, ihl, List.map_cons, List.sum_cons, List.count_cons, List.count_cons]
        by_cases hxy : y = x
        · subst hxy; simp; omega
        · have h1 : (y == x) = false := by simpa using hxy
          have h2 : (x == y) = false := by simpa using fun e => hxy e.symm
          rw [h1, h2]; simp; omega
    rw [key, ih, List.length_cons]
    have : b.count y = 1 := by
      have h1 := List.count_pos_iff.2 hy
      have h2 := List.nodup_iff_count.1 hb y
      omega
    omega
theorem all_one {b : List Int} {f : Int → Nat} (h1 : ∀ x ∈ b, f x ≤ 1) (h2 : (b.map f).sum = b.length) : ∀ x ∈ b, f x = 1 := by
  have le : ∀ l : List Int, (∀ x ∈ l, f x ≤ 1) → (l.map f).sum ≤ l.length := by
    intro l
    induction l with
    | nil => intro _; simp
    | cons x r ih => intro h; have := ih (fun y hy => h y (by simp [hy])); have := h x (by simp); simp; omega
  induction b with
  | nil => intro x hx; cases hx
  | cons y r ih =>
    have hr := le r (fun x hx => h1 x (by simp [hx]))
    have hy := h1 y (by simp)
    simp only [List.map_cons, List.sum_cons, List.length_cons] at h2
    intro x hx
    rcases List.mem_cons.1 hx with rfl | hx
    · omega
    · exact ih (fun x hx => h1 x (by simp [hx])) (by omega) x hx
theorem once_iff {a b : List Int} (hb : b.Nodup) (h : ∀ x ∈ a, x ∈ b) : (∀ x ∈ b, a.count x = 1) ↔ a.Nodup ∧ a.length = b.length := by
  have hs := sum_counts hb a h
  constructor
  · intro h1
    refine ⟨List.nodup_iff_count.2 fun x => ?_, ?_⟩
    · by_cases hx : x ∈ a
      · rw [h1 x (h x hx)]; exact Nat.le_refl _
      · rw [List.count_eq_zero_of_not_mem hx]; omega
    · have key : ∀ l : List Int, (∀ x ∈ l, a.count x = 1) → (l.map fun x => a.count x).sum = l.length := by
        intro l
        induction l with
        | nil => intro _; rfl
        | cons x r ih => intro h; simp [ih (fun y hy => h y (by simp [hy])), h x (by simp)]; omega
      rw [key b h1] at hs
      exact hs.symm
  · intro ⟨h1, h2⟩
    exact all_one (fun x _ => List.nodup_iff_count.1 h1 x) (by rw [hs, h2])
end Go.Pv
namespace Go.Pv.R
set_option linter.unusedVariables false
set_option linter.unusedSimpArgs false
abbrev Judge := QIILIE
abbrev Pair := QIIE
theorem countM_eq {l : List Int} {n : Int} (h : l.length ≤ maxLen) : countM l n = (l.count n : Int) := by
  have := countI_eq n l 0 0 (by omega)
  rw [Nat.zero_add] at this
  exact this
def hasM (l : List Int) (n : Int) : Bool := l.any fun x => x == n
theorem hasM_iff {l : List Int} {n : Int} : hasM l n = true ↔ n ∈ l := by
  unfold hasM
  rw [List.any_eq_true]
  constructor
  · rintro ⟨x, hx, h⟩
    have : x = n := by simpa using h
    exact this ▸ hx
  · intro h; exact ⟨n, h, by simp⟩
theorem spec_l4Has_ok {N : Nat} {l : List Int} {n : Int} {kf : Bool → Option Ret} (hl : l.length ≤ maxLen) (hN : l.length < N) : spec_l4Has N l n kf = kf (hasM l n) := by
  unfold spec_l4Has
  rw [spec_l4Has_l2_r hl hN, goL_find (p := fun x : Int => x == n) (kf := fun _ => kf true) (fun i x next => rfl)]
  unfold hasM
  rw [← findM_any]
  unfold findM
  cases findI (fun x : Int => x == n) l 0
  · rfl
  · rw [decide_eq_true (by simp)]
theorem slices_Contains_int_ok {N : Nat} {l : List Int} {n : Int} {kf : Bool → Option Ret} (hl : l.length ≤ maxLen) (hN : l.length < N) : slices_Contains_int N l n kf = kf (hasM l n) := by
  unfold slices_Contains_int slices_Index_int
  rw [slices_Index_int_l2_r hl hN, goL_find (p := fun x : Int => n == x) (kf := fun i => kf (decide ((i : Int) ≥ 0))) (fun i x next => rfl)]
  have e : hasM l n = l.any fun x => n == x := by
    unfold hasM
    congr 1
    funext x
    apply Bool.eq_iff_iff.2
    rw [beq_iff_eq, beq_iff_eq]
    exact ⟨fun h => h.symm, fun h => h.symm⟩
  rw [e, ← findM_any]
  unfold findM
  cases findI (fun x : Int => n == x) l 0 <;> rfl
def findJ (l : List Judge) (id : Int) : Int := findM (fun x : Judge => x.1 == id) l
theorem spec_l21Find_ok {N : Nat} {l : List Judge} {id : Int} {kf : Int → Option Ret} (hl : l.length ≤ maxLen) (hN : l.length < N) : spec_l21Find N l id kf = kf (findJ l id) := by
  unfold spec_l21Find
  rw [spec_l21Find_l2_r hl hN, goL_find (p := fun x : Judge => x.1 == id) (kf := fun i => kf (i : Int)) (fun i x next => rfl)]
  unfold findJ findM
  cases findI (fun x : Judge => x.1 == id) l 0 <;> rfl
theorem slices_IndexFunc_Judge_impl_AreSeated_1_ok {N : Nat} {l : List Judge} {id : Int} {kf : Int → Option Ret} (hl : l.length ≤ maxLen) (hN : l.length < N) : slices_IndexFunc_Judge_impl_AreSeated_1 N l id kf = kf (findJ l id) := by
  unfold slices_IndexFunc_Judge_impl_AreSeated_1
  rw [slices_IndexFunc_Judge_impl_AreSeated_1_l2_r hl hN]
  simp only [impl_AreSeated_1]
  rw [goL_find (p := fun x : Judge => x.1 == id) (kf := fun i => kf (i : Int)) (fun i x next => rfl)]
  unfold findJ findM
  cases findI (fun x : Judge => x.1 == id) l 0 <;> rfl
theorem impl_judgeAt_ok {N : Nat} {l : List Judge} {id : Int} {kf : Int → Option Ret} (hl : l.length ≤ maxLen) (hN : l.length < N) : impl_judgeAt N l id kf = kf (findJ l id) := by
  unfold impl_judgeAt slices_IndexFunc_Judge_impl_judgeAt_1
  rw [slices_IndexFunc_Judge_impl_judgeAt_1_l2_r hl hN]
  simp only [impl_judgeAt_1]
  rw [goL_find (p := fun x : Judge => x.1 == id) (kf := fun i => kf (i : Int)) (fun i x next => rfl)]
  unfold findJ findM
  cases findI (fun x : Judge => x.1 == id) l 0 <;> rfl
def seenP (s : List Int) : Bool := allI (fun i y => inR y 1 99 && (decide (i = 0) || decide (s.getD (i - 1) 0 < y))) s 0
def judgeP (l : List Judge) (i : Nat) (x : Judge) : Bool := inR x.1 1 99 && (inR x.2.1 1 99 && ((decide (i = 0) || decide ((l.getD (i - 1) zQIILIE).1 < x.1)) && seenP x.2.2))
def areJudgesM (l : List Judge) : Bool := decide (l.length ≤ 10) && allI (judgeP l) l 0
theorem ord_ok {α : Type} {l : List α} {i : Nat} {z : α} {g : α → Int} {y : Int} {A B : Option Ret} (hi : i < l.length) (hl : l.length ≤ maxLen) : (bif (decide ((i : Int) > (0 : Int))) then
        bif (inB (IntKind.wrap .i64 ((i : Int) - (1 : Int))) (List.length l)) then
          bif (decide (y ≤ g (List.getD l (Int.toNat (IntKind.wrap .i64 ((i : Int) - (1 : Int)))) z))) then A else B
        else none
      else B) = bif (decide (i = 0) || decide (g (l.getD (i - 1) z) < y)) then B else A := by
  by_cases h0 : i = 0
  · subst h0; simp
  · rw [decide_eq_true (show (i : Int) > 0 by omega), cond_true, wrap_pred (by omega) hi hl, inB_nat (by omega), cond_true, Int.toNat_natCast, decide_eq_false h0, Bool.false_or]
    by_cases hc : g (l.getD (i - 1) z) < y
    · rw [decide_eq_false (by omega), decide_eq_true hc]; rfl
    · rw [decide_eq_true (by omega), decide_eq_false hc]; rfl
theorem ord_ok2 {α : Type} {l : List α} {i : Nat} {z : α} {g : α → Int} {y : Int} {A B : Option Ret} (hi : i < l.length) (hl : l.length ≤ maxLen) : (bif (decide ((i : Int) > (0 : Int))) then
        bif (inB (IntKind.wrap .i64 ((i : Int) - (1 : Int))) (List.length l)) then
          bif (decide (g (List.getD l (Int.toNat (IntKind.wrap .i64 ((i : Int) - (1 : Int)))) z) ≥ y)) then A else B
        else none
      else B) = bif (decide (i = 0) || decide (g (l.getD (i - 1) z) < y)) then B else A := ord_ok hi hl
theorem spec_AreJudges_ok {N : Nat} {l : List Judge} {kf : Bool → Option Ret} (hl : l.length ≤ maxLen) (hm : ∀ x ∈ l, x.2.2.length ≤ maxLen ∧ x.2.2.length < N) (hN : l.length < N) : spec_AreJudges N l kf = kf (areJudgesM l) := by
  unfold spec_AreJudges
  rw [spec_AreJudges_l2_r hl hN, goL_all (l := l) (p := judgeP l) (kf := kf false) (fun i x next h e => ?_) l 0 rfl]
  · unfold areJudgesM
    cases allI (judgeP l) l 0
    · simp
    · simp only [cond_true, Bool.and_true]
      congr 1
      apply Bool.eq_iff_iff.2
      simp
      omega
  · have hx : x ∈ l := by rw [← e]; exact List.getElem_mem h
    obtain ⟨m1, m2⟩ := hm x hx
    have inner : spec_AreJudges_l7 N l (i : Int) N next kf (0 : Int) = bif seenP x.2.2 then next else kf false := by
      have hg : List.getD l (Int.toNat (i : Int)) zQIILIE = x := by rw [Int.toNat_natCast, getD_nat _ _ h, e]
      rw [spec_AreJudges_l7_r (inB_nat h) (by rw [hg]; exact m1) (by rw [hg]; exact m2)]
      simp only [hg]
      rw [goL_all (l := x.2.2) (p := fun i y => inR y 1 99 && (decide (i = 0) || decide (x.2.2.getD (i - 1) 0 < y))) (kf := kf false) (fun j y next' hj ej => ?_) x.2.2 0 rfl]
      · rfl
      · rw [spec_l1In_ok]
        have := ord_ok2 (l := x.2.2) (z := (0 : Int)) (g := fun x => x) (y := y) (A := kf false) (B := next') hj m1
        rw [this]
        cases inR y 1 99 <;> simp
    simp only [spec_l1In_ok, inner]
    have ho := fun A B => ord_ok2 (l := l) (z := zQIILIE) (g := fun x => x.1) (y := x.1) (A := A) (B := B) h hl
    simp only [ho]
    unfold judgeP
    cases inR x.1 1 99 <;> simp
    cases inR x.2.1 1 99 <;> simp
    cases (decide (i = 0) || decide ((l[i - 1]?.getD zQIILIE).1 < x.1)) <;> simp
theorem impl_AreJudges_ok {N : Nat} {l : List Judge} {kf : Bool → Option Ret} (hl : l.length ≤ maxLen) (hm : ∀ x ∈ l, x.2.2.length ≤ maxLen ∧ x.2.2.length < N) (hN : l.length < N) : impl_AreJudges N l kf = kf (areJudgesM l) := by
  unfold impl_AreJudges
  by_cases h10 : l.length ≤ 10
  rotate_left
  · rw [decide_eq_true (by omega), cond_true]
    unfold areJudgesM
    rw [decide_eq_false h10]
    rfl
  rw [decide_eq_false (by omega), cond_false]
  rw [impl_AreJudges_l4_r hl hN, goL_all (l := l) (p := judgeP l) (kf := kf false) (fun i x next h e => ?_) l 0 rfl]
  · unfold areJudgesM
    rw [decide_eq_true h10, Bool.true_and]
    cases allI (judgeP l) l 0 <;> rfl
  · have hx : x ∈ l := by rw [← e]; exact List.getElem_mem h
    obtain ⟨m1, m2⟩ := hm x hx
    have inner : impl_AreJudges_l9 N l x l (List.length l : Int) (i : Int) x.2.2 (List.length x.2.2 : Int) N next kf (0 : Int) = bif seenP x.2.2 then next else kf false := by
      rw [impl_AreJudges_l9_r m1 m2]
      rw [goL_all (l := x.2.2) (p := fun i y => inR y 1 99 && (decide (i = 0) || decide (x.2.2.getD (i - 1) 0 < y))) (kf := kf false) (fun j y next' hj ej => ?_) x.2.2 0 rfl]
      · rfl
      · rw [impl_InRange_ok]
        have := ord_ok (l := x.2.2) (z := (0 : Int)) (g := fun x => x) (y := y) (A := kf false) (B := next') hj m1
        rw [this]
        cases inR y 1 99 <;> simp
    simp only [impl_InRange_ok, inner]
    have ho := fun A B => ord_ok (l := l) (z := zQIILIE) (g := fun x => x.1) (y := x.1) (A := A) (B := B) h hl
    simp only [ho]
    unfold judgeP
    cases inR x.1 1 99 <;> simp
    cases inR x.2.1 1 99 <;> simp
    cases (decide (i = 0) || decide ((l[i - 1]?.getD zQIILIE).1 < x.1)) <;> simp
theorem judges_small {l : List Judge} {N : Nat} (hw : wf (.sl tQIILIE) l) (hN : sizeV (.sl tQIILIE) l < N) : ∀ x ∈ l, x.2.2.length ≤ maxLen ∧ x.2.2.length < N := fun x hx => by
  have h1 := sizeV_mem (t := tQIILIE) hx
  have h2 : sizeV tQIILIE x = sizeV (.sl (.int .i64)) x.2.2 := by simp [sizeV]
  have h3 := sizeV_len (t := .int .i64) x.2.2
  exact ⟨(hw.2 x hx).2.2.1, by omega⟩
def clubT (l : List Team) (id : Int) : Int := (l.getD (findT l id).toNat zQIIIIILIE).2.1
def metT (l : List Team) (id : Int) : List Int := (l.getD (findT l id).toNat zQIIIIILIE).met
def haveMetM (l : List Team) (a b : Int) : Bool := decide (findT l a ≥ 0) && hasM (metT l a) b
def mayMeetM (l : List Team) (a b : Int) : Bool := areTeamsM l && (decide (findT l a ≥ 0) && (decide (findT l b ≥ 0) && ((findT l a != findT l b) && ((clubT l a != clubT l b) && !haveMetM l a b))))
theorem findT_in {l : List Team} {id : Int} (h : findT l id ≥ 0) : inB (findT l id) l.length = true ∧ (findT l id).toNat < l.length := by
  obtain ⟨k, hk, e, _⟩ := findM_pos (p := fun x : Team => x.1 == id) (l := l) (by unfold findT at h; omega)
  have e : findT l id = (k : Int) := e
  rw [e]
  exact ⟨inB_nat hk, by simpa using hk⟩
theorem spec_HaveMet_ok {N : Nat} {l : List Team} {a b : Int} {kf : Bool → Option Ret} (hl : l.length ≤ maxLen) (hm : ∀ x ∈ l, x.met.length ≤ maxLen ∧ x.met.length < N) (hN : l.length < N) : spec_HaveMet N l a b kf = kf (haveMetM l a b) := by
  unfold spec_HaveMet haveMetM
  rw [spec_FindTeam_ok hl hN]
  by_cases h : findT l a ≥ 0
  · obtain ⟨h1, h2⟩ := findT_in h
    have hx : l.getD (findT l a).toNat zQIIIIILIE ∈ l := by rw [getD_nat _ _ h2]; exact List.getElem_mem h2
    obtain ⟨m1, m2⟩ := hm _ hx
    rw [decide_eq_true h, cond_true, h1, cond_true, spec_l4Has_ok m1 m2]
    rfl
  · rw [decide_eq_false h]; rfl
theorem impl_HaveMet_ok {N : Nat} {l : List Team} {a b : Int} {kf : Bool → Option Ret} (hl : l.length ≤ maxLen) (hm : ∀ x ∈ l, x.met.length ≤ maxLen ∧ x.met.length < N) (hN : l.length < N) : impl_HaveMet N l a b kf = kf (haveMetM l a b) := by
  unfold impl_HaveMet haveMetM
  rw [impl_FindTeam_ok hl hN]
  by_cases h : findT l a ≥ 0
  · obtain ⟨h1, h2⟩ := findT_in h
    have hx : l.getD (findT l a).toNat zQIIIIILIE ∈ l := by rw [getD_nat _ _ h2]; exact List.getElem_mem h2
    obtain ⟨m1, m2⟩ := hm _ hx
    rw [decide_eq_true h, cond_true, h1, cond_true, slices_Contains_int_ok m1 m2]
    rfl
  · rw [decide_eq_false h]; rfl
theorem spec_MayMeet_ok {N : Nat} {l : List Team} {a b : Int} {kf : Bool → Option Ret} (hl : l.length ≤ maxLen) (hm : ∀ x ∈ l, x.met.length ≤ maxLen ∧ x.met.length < N) (hN : l.length < N) : spec_MayMeet N l a b kf = kf (mayMeetM l a b) := by
  unfold spec_MayMeet mayMeetM
  rw [spec_FindTeam_ok hl hN, spec_FindTeam_ok hl hN, spec_AreTeams_ok hl hm hN]
  cases areTeamsM l
  · rfl
  by_cases ha : findT l a ≥ 0
  rotate_left
  · rw [decide_eq_false ha]; rfl
  by_cases hb : findT l b ≥ 0
  rotate_left
  · rw [decide_eq_true ha, decide_eq_false hb]; rfl
  rw [decide_eq_true ha, decide_eq_true hb, (findT_in ha).1, (findT_in hb).1, spec_HaveMet_ok hl hm hN]
  simp only [cond_true, Bool.true_and]
  cases findT l a != findT l b
  · rfl
  unfold clubT
  cases (l.getD (findT l a).toNat zQIIIIILIE).2.1 != (l.getD (findT l b).toNat zQIIIIILIE).2.1 <;> rfl
theorem impl_MayMeet_ok {N : Nat} {l : List Team} {a b : Int} {kf : Bool → Option Ret} (hl : l.length ≤ maxLen) (hm : ∀ x ∈ l, x.met.length ≤ maxLen ∧ x.met.length < N) (hN : l.length < N) : impl_MayMeet N l a b kf = kf (mayMeetM l a b) := by
  unfold impl_MayMeet mayMeetM
  rw [impl_FindTeam_ok hl hN, impl_FindTeam_ok hl hN, impl_AreTeams_ok hl hm hN]
  cases areTeamsM l
  · rfl
  by_cases ha : findT l a ≥ 0
  rotate_left
  · rw [decide_eq_false ha]; rfl
  by_cases hb : findT l b ≥ 0
  rotate_left
  · rw [decide_eq_true ha, decide_eq_false hb]; rfl
  rw [decide_eq_true ha, decide_eq_true hb, (findT_in ha).1, (findT_in hb).1, impl_HaveMet_ok hl hm hN]
  simp only [cond_true, Bool.true_and]
  cases findT l a != findT l b
  · rfl
  unfold clubT
  cases (l.getD (findT l a).toNat zQIIIIILIE).2.1 != (l.getD (findT l b).toNat zQIIIIILIE).2.1 <;> rfl
def okFor (t : List Team) (j : Judge) (id : Int) : Bool := decide (findT t id ≥ 0) && ((clubT t id != j.2.1) && !hasM j.2.2 id)
def mayJudgeM (t : List Team) (j : Judge) (p : Pair) : Bool := okFor t j p.1 && okFor t j p.2
theorem spec_MayJudge_ok {N : Nat} {t : List Team} {j : Judge} {p : Pair} {kf : Bool → Option Ret} (hl : t.length ≤ maxLen) (hN : t.length < N) (h1 : j.2.2.length ≤ maxLen) (h2 : j.2.2.length < N) : spec_MayJudge N t j p kf = kf (mayJudgeM t j p) := by
  unfold spec_MayJudge mayJudgeM okFor
  rw [spec_FindTeam_ok hl hN, spec_FindTeam_ok hl hN]
  by_cases ha : findT t p.1 ≥ 0
  rotate_left
  · rw [decide_eq_false ha]; rfl
  by_cases hb : findT t p.2 ≥ 0
  rotate_left
  · rw [decide_eq_true ha, decide_eq_false hb]; simp
  rw [decide_eq_true ha, decide_eq_true hb, (findT_in ha).1, (findT_in hb).1, spec_l4Has_ok h1 h2]
  simp only [spec_l4Has_ok h1 h2, cond_true, Bool.true_and]
  unfold clubT
  cases (t.getD (findT t p.1).toNat zQIIIIILIE).2.1 != j.2.1
  · rfl
  cases (t.getD (findT t p.2).toNat zQIIIIILIE).2.1 != j.2.1
  · simp
  cases hasM j.2.2 p.1 <;> simp
theorem impl_MayJudge_ok {N : Nat} {t : List Team} {j : Judge} {p : Pair} {kf : Bool → Option Ret} (hl : t.length ≤ maxLen) (hN : t.length < N) (h1 : j.2.2.length ≤ maxLen) (h2 : j.2.2.length < N) (h3 : 2 < N) : impl_MayJudge N t j p kf = kf (mayJudgeM t j p) := by
  have key : ∀ (id : Int) (next : Option Ret), (impl_FindTeam N t id (fun (r22_7 : Int) =>
          bif (decide (r22_7 < (0 : Int))) then
            kf false
          else
            bif (inB r22_7 (List.length t)) then
              bif ((List.getD t (Int.toNat r22_7) zQIIIIILIE).2.1 == j.2.1) then
                kf false
              else
                slices_Contains_int N j.2.2 id (fun (r39_8 : Bool) =>
                  bif r39_8 then
                    kf false
                  else
                    next)
            else none)) = bif okFor t j id then next else kf false := fun id next => by
    rw [impl_FindTeam_ok hl hN]
    unfold okFor
    by_cases ha : findT t id ≥ 0
    rotate_left
    · rw [decide_eq_false ha, decide_eq_true (by omega)]; rfl
    rw [decide_eq_true ha, decide_eq_false (by omega), (findT_in ha).1, slices_Contains_int_ok h1 h2]
    simp only [cond_true, cond_false, Bool.true_and]
    unfold clubT
    cases hc : (t.getD (findT t id).toNat zQIIIIILIE).2.1 == j.2.1
    · simp only [bne, hc, Bool.not_false, Bool.true_and, cond_false]
      cases hasM j.2.2 id <;> rfl
    · simp only [bne, hc, Bool.not_true, Bool.false_and, cond_false, cond_true]
  unfold impl_MayJudge
  rw [impl_MayJudge_l2_r (by rw [maxLen_eq]; simp) (by simpa using h3)]
  simp only [goL, key]
  unfold mayJudgeM
  cases okFor t j p.1
  · rfl
  · simp
    cases okFor t j p.2 <;> rfl
end Go.Pv.R
namespace Go.Pv.R
set_option linter.unusedVariables false
set_option linter.unusedSimpArgs false
theorem spec_TotalWins_ok {N : Nat} {l : List Team} {kf : Int → Option Ret} (hl : l.length ≤ maxLen) (hm : ∀ x ∈ l, x.met.length ≤ maxLen ∧ x.met.length < N) (hN : l.length < N) : spec_TotalWins N l kf = kf (bif areTeamsM l then foldI (fun _ (x : Team) s => IntKind.wrap .i64 (s + x.2.2.1)) l 0 0 else 0) := by
  unfold spec_TotalWins
  rw [spec_TotalWins_l3_r hl hN]
  simp only [spec_AreTeams_ok hl hm hN]
  cases areTeamsM l with
  | false => cases l <;> rfl
  | true =>
    simp only [cond_true]
    rw [goL1_f (fun _ (x : Team) s => IntKind.wrap .i64 (s + x.2.2.1)) (fun i x s next h e => rfl)]
theorem impl_TotalWins_ok {N : Nat} {l : List Team} {kf : Int → Option Ret} (hl : l.length ≤ maxLen) (hm : ∀ x ∈ l, x.met.length ≤ maxLen ∧ x.met.length < N) (hN : l.length < N) : impl_TotalWins N l kf = kf (bif areTeamsM l then foldI (fun _ (x : Team) s => IntKind.wrap .i64 (s + x.2.2.1)) l 0 0 else 0) := by
  unfold impl_TotalWins
  rw [impl_AreTeams_ok hl hm hN]
  cases areTeamsM l with
  | false => rfl
  | true =>
    simp only [cond_true, Bool.not_true, cond_false]
    rw [impl_TotalWins_l5_r hl hN, goL1_f (fun _ (x : Team) s => IntKind.wrap .i64 (s + x.2.2.1)) (fun i x s next h e => rfl)]
def totalWinsM (l : List Team) : Int := bif areTeamsM l then foldI (fun _ (x : Team) s => IntKind.wrap .i64 (s + x.2.2.1)) l 0 0 else 0
abbrev Ballot := QIIIE
def isBallotM (b : Ballot) : Bool := inR b.1 1 99 && (inR b.2.1 0 100 && (inR b.2.2 0 100 && (b.2.1 != b.2.2)))
theorem spec_IsBallot_ok {N : Nat} {b : Ballot} {kf : Bool → Option Ret} : spec_IsBallot N b kf = kf (isBallotM b) := by
  unfold spec_IsBallot isBallotM
  simp only [spec_l1In_ok]
  cases inR b.1 1 99 <;> simp
  cases inR b.2.1 0 100 <;> simp
  cases inR b.2.2 0 100 <;> simp
theorem impl_IsBallot_ok {N : Nat} {b : Ballot} {kf : Bool → Option Ret} : impl_IsBallot N b kf = kf (isBallotM b) := by
  unfold impl_IsBallot isBallotM
  simp only [impl_InRange_ok]
  cases inR b.1 1 99 <;> simp
  cases inR b.2.1 0 100 <;> simp
  cases inR b.2.2 0 100 <;> simp
def idsOf (r : List Pair) : List Int := r.flatMap fun p => [p.1, p.2]
def teamIds (l : List Team) : List Int := l.map fun x => x.1
def isRoundM (l : List Team) (r : List Pair) : Bool := r.all (fun p => mayMeetM l p.1 p.2) && l.all (fun x => decide ((idsOf r).count x.1 = 1))
theorem idsOf_len (r : List Pair) : (idsOf r).length = 2 * r.length := by
  induction r with
  | nil => rfl
  | cons p r ih => simp only [idsOf, List.flatMap_cons, List.length_append, List.length_cons, List.length_nil] at *; omega
theorem mayMeet_ids {l : List Team} {a b : Int} (h : mayMeetM l a b = true) : areTeamsM l = true ∧ a ∈ teamIds l ∧ b ∈ teamIds l ∧ a ≠ b := by
  unfold mayMeetM at h
  simp only [Bool.and_eq_true, decide_eq_true_eq] at h
  obtain ⟨h0, ha, hb, hne, _⟩ := h
  have mem : ∀ id : Int, findT l id ≥ 0 → id ∈ teamIds l := fun id hid => by
    obtain ⟨k, hk, _, h1, _⟩ := findM_pos (p := fun x : Team => x.1 == id) (l := l) (by unfold findT at hid; omega)
    exact List.mem_map.2 ⟨l[k], List.getElem_mem hk, by simpa using h1⟩
  refine ⟨h0, mem a ha, mem b hb, fun e => ?_⟩
  subst e
  simp at hne
theorem teams_nodup {l : List Team} (h : areTeamsM l = true) : (teamIds l).Nodup := by
  unfold areTeamsM at h
  simp only [Bool.and_eq_true] at h
  have hm := teams_mono h.2.1
  have key : ∀ (n : Nat) (r : List Team), l.drop n = r → (r.map fun x : Team => x.1).Nodup := by
    intro n r
    induction r generalizing n with
    | nil => intro _; exact List.nodup_nil
    | cons x r ih =>
      intro hd
      have hlt : n < l.length := by have := congrArg List.length hd; simp at this; omega
      rw [List.drop_eq_getElem_cons hlt] at hd
      injection hd with h1 h2
      rw [List.map_cons, List.nodup_cons]
      refine ⟨fun hx => ?_, ih (n + 1) h2⟩
      obtain ⟨y, hy, e⟩ := List.mem_map.1 hx
      rw [← h2] at hy
      obtain ⟨j, hj, rfl⟩ := List.mem_iff_getElem.1 hy
      rw [List.getElem_drop] at e
      have hj' : n + 1 + j < l.length := by simp at hj; omega
      have := hm n (n + 1 + j) hj' (by omega)
      rw [getD_nat _ _ hlt, h1] at this
      omega
  exact key 0 l rfl
theorem impl_IsRound_ok {N : Nat} {l : List Team} {r : List Pair} {kf : Bool → Option Ret} (hl : l.length ≤ maxLen) (hm : ∀ x ∈ l, x.met.length ≤ maxLen ∧ x.met.length < N) (hN : l.length < N) (hr : r.length ≤ 1048576) (hrN : 2 * r.length < N) : impl_IsRound N l r kf = kf (isRoundM l r) := by
  have hML := maxLen_eq
  unfold impl_IsRound
  rw [impl_IsRound_l3_r (by omega) (by omega)]
  have key : ∀ (q : List Pair) (i : Nat) (s : List Int) (kend : List Int → Option Ret), r.drop i = q → s.length = 2 * i → goL1 (fun (i : Nat) (x : QIIE) (x5_2 : List Int) (next : List Int → Option Ret) =>
        impl_MayMeet N l x.1 x.2 (fun (r22_7 : Bool) =>
          bif (!r22_7) then
            kf false
          else
            bif (decide ((List.length x5_2 + List.length [x.1, x.2]) * 1 ≤ 4398046511104)) then
              next (x5_2 ++ [x.1, x.2])
            else none)) kend q i s = bif q.all (fun p => mayMeetM l p.1 p.2) then kend (s ++ idsOf q) else kf false := by
    intro q
    induction q with
    | nil => intro i s kend _ _; simp [goL1, idsOf]
    | cons p q ih =>
      intro i s kend hd hs
      have hlt : i < r.length := by have := congrArg List.length hd; simp at this; omega
      rw [List.drop_eq_getElem_cons hlt] at hd
      injection hd with h1 h2
      simp only [goL1]
      rw [impl_MayMeet_ok hl hm hN]
      cases hmm : mayMeetM l p.1 p.2 with
      | false => simp [hmm]
      | true =>
        have hok : decide ((List.length s + List.length [p.1, p.2]) * 1 ≤ 4398046511104) = true := decide_eq_true (by simp; omega)
        simp only [Bool.not_true, cond_false]
        rw [hok, cond_true, ih (i + 1) _ kend h2 (by simp; omega)]
        simp [hmm, idsOf]
  refine Eq.trans (key r 0 [] _ rfl (by simp)) ?_
  unfold isRoundM
  cases hall : r.all (fun p => mayMeetM l p.1 p.2) with
  | false => rfl
  | true =>
    have hlen : (idsOf r).length ≤ maxLen ∧ (idsOf r).length < N := by rw [idsOf_len]; omega
    rw [cond_true, List.nil_append, impl_IsRound_l10_r hl hN, goL_all (l := l) (p := fun _ x => decide ((idsOf r).count x.1 = 1)) (kf := kf false) (fun i x next h e => ?_) l 0 rfl, allI_all (p := fun x : Team => decide ((idsOf r).count x.1 = 1))]
    · simp only [Bool.true_and]
      cases l.all fun x => decide ((idsOf r).count x.1 = 1) <;> rfl
    · rw [impl_times_ok hlen.1 hlen.2, countM_eq hlen.1]
      by_cases h1 : (idsOf r).count x.1 = 1
      · simp [h1]
      · have : (((idsOf r).count x.1 : Int) != 1) = true := by rw [bne_iff_ne]; omega
        rw [this, decide_eq_false h1]
        rfl
/-- The reference's: nobody twice, and as many as there are teams. -/
theorem rounds_alike {l : List Team} {r : List Pair} : (r.all (fun p => mayMeetM l p.1 p.2) && (decide (idsOf r).Nodup && (areTeamsM l && decide ((idsOf r).length = l.length)))) = isRoundM l r := by
  unfold isRoundM
  cases hall : r.all (fun p => mayMeetM l p.1 p.2) with
  | false => rfl
  | true =>
    rw [Bool.true_and, Bool.true_and]
    rw [List.all_eq_true] at hall
    have hsub : ∀ x ∈ idsOf r, x ∈ teamIds l := fun x hx => by
      obtain ⟨p, hp, hx⟩ := List.mem_flatMap.1 hx
      obtain ⟨_, h1, h2, _⟩ := mayMeet_ids (hall p hp)
      simp at hx
      rcases hx with rfl | rfl
      · exact h1
      · exact h2
    cases ht : areTeamsM l with
    | true =>
      have := once_iff (teams_nodup ht) hsub
      apply Bool.eq_iff_iff.2
      rw [List.all_eq_true, Bool.true_and, Bool.and_eq_true, decide_eq_true_eq, decide_eq_true_eq]
      rw [show (teamIds l).length = l.length by simp [teamIds]] at this
      rw [← this]
      constructor
      · intro h x hx; exact decide_eq_true (h x.1 (List.mem_map.2 ⟨x, hx, rfl⟩))
      · intro h x hx
        obtain ⟨y, hy, rfl⟩ := List.mem_map.1 hx
        simpa using h y hy
    | false =>
      -- then there are no pairs, and there are teams
      cases r with
      | cons p r => have := (mayMeet_ids (hall p (by simp))).1; rw [ht] at this; cases this
      | nil =>
        cases l with
        | nil => simp [areTeamsM, allI] at ht
        | cons x l => simp [idsOf]
theorem spec_IsRound_ok {N : Nat} {l : List Team} {r : List Pair} {kf : Bool → Option Ret} (hl : l.length ≤ maxLen) (hm : ∀ x ∈ l, x.met.length ≤ maxLen ∧ x.met.length < N) (hN : l.length < N) (hr : r.length ≤ 1048576) (hrN : 2 * r.length < N) : spec_IsRound N l r kf = kf (isRoundM l r) := by
  have hML := maxLen_eq
  unfold spec_IsRound
  rw [spec_IsRound_l3_r (by omega) (by omega)]
  have key : ∀ (q : List Pair) (i : Nat) (s : List Int) (kend : List Int → Option Ret), r.drop i = q → s.length = 2 * i → s.Nodup → goL1 (fun (i : Nat) (x : QIIE) (x5_3 : List Int) (next : List Int → Option Ret) =>
        spec_MayMeet N l x.1 x.2 (fun (r25_6 : Bool) =>
          bif (!r25_6) then
            kf false
          else
            spec_l4Has N x5_3 x.1 (fun (r34_7 : Bool) =>
              bif r34_7 then
                kf false
              else
                spec_l4Has N x5_3 x.2 (fun (r43_8 : Bool) =>
                  bif r43_8 then
                    kf false
                  else
                    bif (decide ((List.length x5_3 + List.length [x.1, x.2]) * 1 ≤ 4398046511104)) then
                      next (x5_3 ++ [x.1, x.2])
                    else none)))) kend q i s = bif q.all (fun p => mayMeetM l p.1 p.2) && decide (s ++ idsOf q).Nodup then kend (s ++ idsOf q) else kf false := by
    intro q
    induction q with
    | nil => intro i s kend _ _ hnd; simp [goL1, idsOf, hnd]
    | cons p q ih =>
      intro i s kend hd hs hnd
      have hlt : i < r.length := by have := congrArg List.length hd; simp at this; omega
      rw [List.drop_eq_getElem_cons hlt] at hd
      injection hd with h1 h2
      simp only [goL1]
      rw [spec_MayMeet_ok hl hm hN]
      cases hmm : mayMeetM l p.1 p.2 with
      | false => simp [hmm]
      | true =>
        have hne := (mayMeet_ids hmm).2.2.2
        have hsl : s.length ≤ maxLen ∧ s.length < N := by omega
        have happ : s ++ idsOf (p :: q) = (s ++ [p.1, p.2]) ++ idsOf q := by simp [idsOf]
        simp only [Bool.not_true, cond_false]
        rw [spec_l4Has_ok hsl.1 hsl.2]
        cases h1' : hasM s p.1 with
        | true =>
          have hmem := hasM_iff.1 h1'
          have : ¬ (s ++ idsOf (p :: q)).Nodup := fun h => by
            rw [List.nodup_append] at h
            exact h.2.2 p.1 hmem p.1 (by simp [idsOf]) rfl
          rw [decide_eq_false this]
          simp
        | false =>
          rw [cond_false, spec_l4Has_ok hsl.1 hsl.2]
          cases h2' : hasM s p.2 with
          | true =>
            have hmem := hasM_iff.1 h2'
            have : ¬ (s ++ idsOf (p :: q)).Nodup := fun h => by
              rw [List.nodup_append] at h
              exact h.2.2 p.2 hmem p.2 (by simp [idsOf]) rfl
            rw [decide_eq_false this]
            simp
          | false =>
            have hok : decide ((List.length s + List.length [p.1, p.2]) * 1 ≤ 4398046511104) = true := decide_eq_true (by simp; omega)
            have n1 : p.1 ∉ s := fun h => by rw [hasM_iff.2 h] at h1'; cases h1'
            have n2 : p.2 ∉ s := fun h => by rw [hasM_iff.2 h] at h2'; cases h2'
            have hnd2 : (s ++ [p.1, p.2]).Nodup := by
              rw [List.nodup_append]
              refine ⟨hnd, ?_, ?_⟩
              · rw [List.nodup_cons]
                exact ⟨by simpa using hne, by simp⟩
              · intro a ha b hb e
                subst e
                simp at hb
                rcases hb with rfl | rfl
                · exact n1 ha
                · exact n2 ha
            rw [cond_false, hok, cond_true, ih (i + 1) _ kend h2 (by simp; omega) hnd2, happ]
            simp [hmm]
  refine Eq.trans (key r 0 [] _ rfl (by simp) List.nodup_nil) ?_
  rw [← rounds_alike]
  rw [List.nil_append]
  cases r.all (fun p => mayMeetM l p.1 p.2)
  · rfl
  cases decide (idsOf r).Nodup
  · rfl
  simp only [Bool.true_and, cond_true]
  rw [spec_AreTeams_ok hl hm hN]
  cases areTeamsM l
  · rfl
  simp only [cond_true, Bool.true_and]
  congr 1
  apply Bool.eq_iff_iff.2
  rw [beq_iff_eq, decide_eq_true_eq]
  omega
theorem findJ_in {l : List Judge} {id : Int} (h : findJ l id ≥ 0) : inB (findJ l id) l.length = true ∧ (findJ l id).toNat < l.length := by
  obtain ⟨k, hk, e, _⟩ := findM_pos (p := fun x : Judge => x.1 == id) (l := l) (by unfold findJ at h; omega)
  have e : findJ l id = (k : Int) := e
  rw [e]
  exact ⟨inB_nat hk, by simpa using hk⟩
def seatP (t : List Team) (l : List Judge) (r : List Pair) (ids : List Int) (i : Nat) : Bool := decide (findJ l (ids.getD i 0) ≥ 0) && (!hasM (ids.take i) (ids.getD i 0) && mayJudgeM t (l.getD (findJ l (ids.getD i 0)).toNat zQIILIE) (r.getD i zQIIE))
def areSeatedM (t : List Team) (l : List Judge) (r : List Pair) (ids : List Int) : Bool := decide (ids.length = r.length) && (areJudgesM l && allI (fun i _ => seatP t l r ids i) r 0)
theorem spec_AreSeated_ok {N : Nat} {t : List Team} {l : List Judge} {r : List Pair} {ids : List Int} {kf : Bool → Option Ret} (ht : t.length ≤ maxLen) (htN : t.length < N) (hl : l.length ≤ maxLen) (hm : ∀ x ∈ l, x.2.2.length ≤ maxLen ∧ x.2.2.length < N) (hN : l.length < N)
    (hr : r.length ≤ maxLen) (hrN : r.length < N) : spec_AreSeated N t l r ids kf = kf (areSeatedM t l r ids) := by
  unfold spec_AreSeated areSeatedM
  by_cases hlen : ids.length = r.length
  rotate_left
  · have : ((ids.length : Int) != (r.length : Int)) = true := by rw [bne_iff_ne]; omega
    rw [this, decide_eq_false hlen]; rfl
  have : ((ids.length : Int) != (r.length : Int)) = false := by rw [hlen]; exact bne_self_eq_false _
  rw [this, decide_eq_true hlen, cond_false, spec_AreJudges_ok hl hm hN]
  cases areJudgesM l
  · rfl
  simp only [Bool.not_true, cond_false, Bool.true_and]
  rw [spec_AreSeated_l4_r hr hrN, goL_all (l := r) (p := fun i _ => seatP t l r ids i) (kf := kf false) (fun i x next h e => ?_) r 0 rfl]
  · cases allI (fun i _ => seatP t l r ids i) r 0 <;> rfl
  · have hi : i < ids.length := by omega
    have hdec : (decide ((0 : Int) ≤ (0 : Int)) && decide ((0 : Int) ≤ (i : Int)) && decide ((i : Int) ≤ (List.length ids : Int))) = true := by simp; omega
    rw [inB_nat hi, cond_true, hdec]
    simp only [Int.toNat_natCast, cond_true]
    rw [spec_l21Find_ok hl hN]
    unfold seatP
    by_cases hf : findJ l (ids.getD i 0) ≥ 0
    rotate_left
    · rw [decide_eq_false hf, decide_eq_true (by omega)]; rfl
    obtain ⟨f1, f2⟩ := findJ_in hf
    have hx : l.getD (findJ l (ids.getD i 0)).toNat zQIILIE ∈ l := by rw [getD_nat _ _ f2]; exact List.getElem_mem f2
    obtain ⟨m1, m2⟩ := hm _ hx
    rw [decide_eq_true hf, decide_eq_false (by omega), cond_false]
    have htk : (List.drop (Int.toNat 0) (List.take i ids)) = ids.take i := rfl
    rw [htk, spec_l4Has_ok (by simp; omega) (by simp; omega), f1]
    cases hasM (ids.take i) (ids.getD i 0)
    · rw [cond_false, cond_true, spec_MayJudge_ok ht htN m1 m2]
      have hrx : r.getD i zQIIE = x := by rw [getD_nat _ _ h, e]
      rw [hrx]
      cases mayJudgeM t (l.getD (findJ l (ids.getD i 0)).toNat zQIILIE) x <;> rfl
    · rfl
theorem impl_AreSeated_ok {N : Nat} {t : List Team} {l : List Judge} {r : List Pair} {ids : List Int} {kf : Bool → Option Ret} (ht : t.length ≤ maxLen) (htN : t.length < N) (hl : l.length ≤ maxLen) (hm : ∀ x ∈ l, x.2.2.length ≤ maxLen ∧ x.2.2.length < N) (hN : l.length < N)
    (hr : r.length ≤ maxLen) (hrN : r.length < N) (h2N : 2 < N) : impl_AreSeated N t l r ids kf = kf (areSeatedM t l r ids) := by
  unfold impl_AreSeated areSeatedM
  rw [impl_AreJudges_ok hl hm hN]
  cases areJudgesM l
  · simp
  simp only [Bool.not_true, cond_false, Bool.true_and]
  by_cases hlen : ids.length = r.length
  rotate_left
  · have : ((ids.length : Int) != (r.length : Int)) = true := by rw [bne_iff_ne]; omega
    rw [this, decide_eq_false hlen]; rfl
  have : ((ids.length : Int) != (r.length : Int)) = false := by rw [hlen]; exact bne_self_eq_false _
  rw [this, decide_eq_true hlen, cond_false, Bool.true_and]
  have hall : allI (fun i _ => seatP t l r ids i) r 0 = allI (fun i _ => seatP t l r ids i) ids 0 := by
    apply Bool.eq_iff_iff.2
    rw [allI_iff, allI_iff]
    exact ⟨fun h j hj => h j (by omega), fun h j hj => h j (by omega)⟩
  rw [hall, impl_AreSeated_l4_r (by omega) (by omega), goL_all (l := ids) (p := fun i _ => seatP t l r ids i) (kf := kf false) (fun i x next h e => ?_) ids 0 rfl]
  · cases allI (fun i _ => seatP t l r ids i) ids 0 <;> rfl
  · have hi : i < r.length := by omega
    have hdec : (decide ((0 : Int) ≤ (0 : Int)) && decide ((0 : Int) ≤ (i : Int)) && decide ((i : Int) ≤ (List.length ids : Int))) = true := by simp; omega
    have hid : ids.getD i 0 = x := by rw [getD_nat _ _ h, e]
    rw [hdec]
    simp only [Int.toNat_natCast, cond_true]
    rw [slices_IndexFunc_Judge_impl_AreSeated_1_ok hl hN]
    unfold seatP
    rw [hid]
    by_cases hf : findJ l x ≥ 0
    rotate_left
    · rw [decide_eq_false hf, decide_eq_true (by omega)]; rfl
    obtain ⟨f1, f2⟩ := findJ_in hf
    have hx : l.getD (findJ l x).toNat zQIILIE ∈ l := by rw [getD_nat _ _ f2]; exact List.getElem_mem f2
    obtain ⟨m1, m2⟩ := hm _ hx
    rw [decide_eq_true hf, decide_eq_false (by omega), cond_false]
    have htk : (List.drop (Int.toNat 0) (List.take i ids)) = ids.take i := rfl
    rw [htk, slices_Contains_int_ok (by simp; omega) (by simp; omega), f1, inB_nat hi]
    cases hasM (ids.take i) x
    · rw [cond_false, cond_true, cond_true, impl_MayJudge_ok ht htN m1 m2 h2N]
      cases mayJudgeM t (l.getD (findJ l x).toNat zQIILIE) (r.getD i zQIIE) <;> rfl
    · rfl
end Go.Pv.R
namespace Go.Pv.R
set_option linter.unusedVariables false
set_option linter.unusedSimpArgs false
abbrev Club := QLQIIIIILIELQIILIELQIIELILQIIIELQIIIIEIE
/-- A club that is small enough, and rounds enough. -/
structure ClubOK (c : Club) (N : Nat) : Prop where
  tl : c.1.length ≤ maxLen
  tm : ∀ x : Team, x ∈ c.1 → x.met.length ≤ maxLen ∧ x.met.length < N
  tN : c.1.length < N
  jl : c.2.1.length ≤ maxLen
  jm : ∀ x ∈ c.2.1, x.2.2.length ≤ maxLen ∧ x.2.2.length < N
  jN : c.2.1.length < N
  rl : c.2.2.1.length ≤ 1048576
  rN : 2 * c.2.2.1.length < N
  sl : c.2.2.2.1.length ≤ 1048576
  sN : c.2.2.2.1.length < N
  bl : c.2.2.2.2.1.length ≤ 1048576
  bN : c.2.2.2.2.1.length < N
  ml : c.2.2.2.2.2.1.length ≤ 1048576
  mN : c.2.2.2.2.2.1.length < N
  n8 : 8 < N
  tb : c.1.length ≤ 1048700
  tmb : ∀ x : Team, x ∈ c.1 → x.met.length ≤ 1048700
  jb : c.2.1.length ≤ 1048700
  jmb : ∀ x : Judge, x ∈ c.2.1 → x.2.2.length ≤ 1048700
theorem sizeV_club (c : Club) : sizeV tQLQIIIIILIELQIILIELQIIELILQIIIELQIIIIEIE c = sizeV (.sl tQIIIIILIE) c.1 + (sizeV (.sl tQIILIE) c.2.1 + (sizeV (.sl tQIIE) c.2.2.1 + (sizeV (.sl (.int .i64)) c.2.2.2.1 + (sizeV (.sl tQIIIE) c.2.2.2.2.1 + sizeV (.sl tQIIIIE) c.2.2.2.2.2.1)))) := rfl
theorem club_ok {c : Club} {N : Nat} (hw : wf tQLQIIIIILIELQIILIELQIIELILQIIIELQIIIIEIE c) (hb : sizeV tQLQIIIIILIELQIILIELQIIELILQIIIELQIIIIEIE c ≤ 1048576) (hN : 2 * sizeV tQLQIIIIILIELQIILIELQIIELILQIIIELQIIIIEIE c + 8 < N) : ClubOK c N := by
  have hs := sizeV_club c
  have h1 := sizeV_len (t := tQIIIIILIE) c.1
  have h2 := sizeV_len (t := tQIILIE) c.2.1
  have h3 := sizeV_len (t := tQIIE) c.2.2.1
  have h4 := sizeV_len (t := .int .i64) c.2.2.2.1
  have h5 := sizeV_len (t := tQIIIE) c.2.2.2.2.1
  have h6 := sizeV_len (t := tQIIIIE) c.2.2.2.2.2.1
  have hm := maxLen_eq
  exact ⟨by omega, teams_small hw.1 (by omega), by omega, by omega, judges_small hw.2.1 (by omega), by omega, by omega, by omega, by omega, by omega, by omega, by omega, by omega, by omega, by omega, by omega, fun x hx => by
    have q1 := sizeV_mem (t := tQIIIIILIE) hx
    have q2 : sizeV tQIIIIILIE x = sizeV (.sl (.int .i64)) x.2.2.2.2.2 := by simp [sizeV]
    have q3 := sizeV_len (t := .int .i64) x.2.2.2.2.2
    show x.2.2.2.2.2.length ≤ 1048700
    omega, by omega, fun x hx => by
    have q1 := sizeV_mem (t := tQIILIE) hx
    have q2 : sizeV tQIILIE x = sizeV (.sl (.int .i64)) x.2.2 := by simp [sizeV]
    have q3 := sizeV_len (t := .int .i64) x.2.2
    omega⟩
def emptyB (b : Ballot) : Bool := (decide ((b.1 : Int) = 0)) && ((decide ((b.2.1 : Int) = 0)) && (decide ((b.2.2 : Int) = 0)))
def ballotP (c : Club) (i : Nat) (b : Ballot) : Bool := emptyB b || (isBallotM b && (b.1 == c.2.2.2.1.getD i 0))
def isClubM (c : Club) : Bool := areTeamsM c.1 && (areJudgesM c.2.1 && (areMinM c.2.2.2.2.2.1 && (decide (c.2.2.2.1.length = c.2.2.1.length) && (decide (c.2.2.2.2.1.length = c.2.2.1.length) &&
  ((decide (c.2.2.1.length = 0) || (isRoundM c.1 c.2.2.1 && areSeatedM c.1 c.2.1 c.2.2.1 c.2.2.2.1)) && (allI (ballotP c) c.2.2.2.2.1 0 && (inR c.2.2.2.2.2.2 0 1000 && (totalWinsM c.1 == c.2.2.2.2.2.2))))))))
theorem len_ne {a b : Nat} : ((a : Int) != (b : Int)) = !decide (a = b) := by
  apply Bool.eq_iff_iff.2
  simp
  omega
theorem impl_IsClub_j1_ok {N : Nat} {c : Club} {kf : Bool → Option Ret} (h : ClubOK c N) (hs : c.2.2.2.1.length = c.2.2.1.length) (hb : c.2.2.2.2.1.length = c.2.2.1.length) : impl_IsClub_j1 N c kf = kf (allI (ballotP c) c.2.2.2.2.1 0 && (inR c.2.2.2.2.2.2 0 1000 && (totalWinsM c.1 == c.2.2.2.2.2.2))) := by
  have hm := maxLen_eq
  have := h.bl
  unfold impl_IsClub_j1
  rw [impl_IsClub_l6_r (by omega) h.bN, goL_all (l := c.2.2.2.2.1) (p := ballotP c) (kf := kf false) (fun i b next hi e => ?_) c.2.2.2.2.1 0 rfl]
  · cases allI (ballotP c) c.2.2.2.2.1 0
    · rfl
    rw [cond_true, impl_InRange_ok]
    cases inR c.2.2.2.2.2.2 0 1000
    · rfl
    simp only [cond_true, Bool.true_and]
    rw [impl_TotalWins_ok h.tl h.tm h.tN]
    rfl
  · rw [impl_IsBallot_ok, inB_nat (by omega), cond_true, Int.toNat_natCast]
    unfold ballotP emptyB
    cases (decide ((b.1 : Int) = 0)) && ((decide ((b.2.1 : Int) = 0)) && (decide ((b.2.2 : Int) = 0)))
    · simp only [Bool.not_false, cond_true, Bool.false_or]
      cases isBallotM b
      · rfl
      · cases hc : b.1 == c.2.2.2.1.getD i 0 <;> simp only [bne, hc, Bool.not_true, Bool.not_false, cond_true, cond_false, Bool.and_true, Bool.and_false]
    · rfl
theorem spec_IsClub_j1_ok {N : Nat} {c : Club} {kf : Bool → Option Ret} (h : ClubOK c N) (hs : c.2.2.2.1.length = c.2.2.1.length) (hb : c.2.2.2.2.1.length = c.2.2.1.length) : spec_IsClub_j1 N c kf = kf (allI (ballotP c) c.2.2.2.2.1 0) := by
  have hm := maxLen_eq
  have := h.bl
  unfold spec_IsClub_j1
  rw [spec_IsClub_l7_r (by omega) h.bN, goL_all (l := c.2.2.2.2.1) (p := ballotP c) (kf := kf false) (fun i b next hi e => ?_) c.2.2.2.2.1 0 rfl]
  · cases allI (ballotP c) c.2.2.2.2.1 0 <;> rfl
  · rw [spec_IsBallot_ok, inB_nat (by omega), cond_true, Int.toNat_natCast]
    unfold ballotP emptyB
    cases (decide ((b.1 : Int) = 0)) && ((decide ((b.2.1 : Int) = 0)) && (decide ((b.2.2 : Int) = 0)))
    · simp only [Bool.not_false, cond_true, Bool.false_or]
      cases isBallotM b
      · rfl
      · cases hc : b.1 == c.2.2.2.1.getD i 0 <;> simp only [bne, hc, Bool.not_true, Bool.not_false, cond_true, cond_false, Bool.and_true, Bool.and_false]
    · rfl
theorem impl_IsClub_ok {N : Nat} {c : Club} {kf : Bool → Option Ret} (h : ClubOK c N) : impl_IsClub N c kf = kf (isClubM c) := by
  have hm := maxLen_eq
  have hml := h.ml
  have h8 := h.n8
  have hr := h.rl
  have hrN := h.rN
  unfold impl_IsClub isClubM
  rw [impl_AreTeams_ok h.tl h.tm h.tN]
  cases areTeamsM c.1
  · rfl
  simp only [Bool.not_true, cond_false, Bool.true_and]
  rw [impl_AreJudges_ok h.jl h.jm h.jN]
  cases areJudgesM c.2.1
  · rfl
  simp only [Bool.not_true, cond_false, Bool.true_and]
  rw [impl_AreMinutes_ok (by omega) h.mN (by omega)]
  cases areMinM c.2.2.2.2.2.1
  · rfl
  simp only [Bool.not_true, cond_false, Bool.true_and, len_ne]
  by_cases hs : c.2.2.2.1.length = c.2.2.1.length
  rotate_left
  · rw [decide_eq_false hs]; rfl
  by_cases hb : c.2.2.2.2.1.length = c.2.2.1.length
  rotate_left
  · rw [decide_eq_false hb, decide_eq_true hs]; rfl
  rw [decide_eq_true hs, decide_eq_true hb]
  simp only [Bool.not_true, cond_false, Bool.true_and]
  unfold impl_IsRunning
  by_cases h0 : c.2.2.1.length = 0
  · rw [decide_eq_false (by omega)]
    simp only [cond_false]
    rw [impl_IsClub_j1_ok h hs hb, decide_eq_true h0]
    rfl
  · rw [decide_eq_true (by omega)]
    simp only [cond_true]
    rw [impl_IsRound_ok h.tl h.tm h.tN h.rl h.rN, decide_eq_false h0]
    cases isRoundM c.1 c.2.2.1
    · rfl
    simp only [Bool.not_true, cond_false, Bool.true_and, Bool.false_or]
    rw [impl_AreSeated_ok h.tl h.tN h.jl h.jm h.jN (by omega) (by omega) (by omega)]
    cases areSeatedM c.1 c.2.1 c.2.2.1 c.2.2.2.1
    · rfl
    simp only [Bool.not_true, cond_false, Bool.true_and]
    exact impl_IsClub_j1_ok h hs hb
theorem spec_IsClub_ok {N : Nat} {c : Club} {kf : Bool → Option Ret} (h : ClubOK c N) : spec_IsClub N c kf = kf (isClubM c) := by
  have hm := maxLen_eq
  have hml := h.ml
  have h8 := h.n8
  have hr := h.rl
  have hrN := h.rN
  unfold spec_IsClub isClubM
  rw [spec_AreTeams_ok h.tl h.tm h.tN]
  cases areTeamsM c.1
  · rfl
  simp only [Bool.not_true, cond_false, Bool.true_and]
  rw [spec_AreJudges_ok h.jl h.jm h.jN]
  cases areJudgesM c.2.1
  · rfl
  simp only [Bool.not_true, cond_false, Bool.true_and]
  rw [spec_AreMinutes_ok (by omega) h.mN (by omega)]
  cases areMinM c.2.2.2.2.2.1
  · rfl
  simp only [Bool.not_true, cond_false, Bool.true_and, len_ne]
  by_cases hs : c.2.2.2.1.length = c.2.2.1.length
  rotate_left
  · rw [decide_eq_false hs]; rfl
  by_cases hb : c.2.2.2.2.1.length = c.2.2.1.length
  rotate_left
  · rw [decide_eq_false hb, decide_eq_true hs]; rfl
  rw [decide_eq_true hs, decide_eq_true hb]
  simp only [Bool.not_true, cond_false, Bool.true_and, spec_l1In_ok]
  cases inR c.2.2.2.2.2.2 0 1000
  · simp
  simp only [Bool.not_true, cond_false, Bool.true_and]
  rw [spec_TotalWins_ok h.tl h.tm h.tN]
  show (bif totalWinsM c.1 != c.2.2.2.2.2.2 then kf false else _) = _
  cases ht : totalWinsM c.1 == c.2.2.2.2.2.2
  · simp only [bne, ht, Bool.not_false, cond_true, Bool.and_false]
  simp only [bne, ht, Bool.not_true, cond_false, Bool.and_true]
  by_cases h0 : c.2.2.1.length = 0
  · rw [decide_eq_false (by omega), cond_false, spec_IsClub_j1_ok h hs hb, decide_eq_true h0]
    rfl
  · rw [decide_eq_true (by omega), cond_true, spec_IsRound_ok h.tl h.tm h.tN h.rl h.rN, decide_eq_false h0]
    cases isRoundM c.1 c.2.2.1
    · rfl
    simp only [Bool.not_true, cond_false, Bool.true_and, Bool.false_or]
    rw [spec_AreSeated_ok h.tl h.tN h.jl h.jm h.jN (by omega) (by omega)]
    cases areSeatedM c.1 c.2.1 c.2.2.1 c.2.2.2.1
    · rfl
    simp only [Bool.not_true, cond_false, Bool.true_and]
    exact spec_IsClub_j1_ok h hs hb
end Go.Pv.R
namespace Go.Pv
set_option linter.unusedVariables false
set_option linter.unusedSimpArgs false
end Go.Pv
namespace Go.Pv.R
set_option linter.unusedVariables false
set_option linter.unusedSimpArgs false
end Go.Pv.R
namespace Go.Pv.R
set_option linter.unusedVariables false
set_option linter.unusedSimpArgs false
end Go.Pv.R
namespace Go.Pv.R
set_option linter.unusedVariables false
set_option linter.unusedSimpArgs false
theorem gatherI_all {α : Type} : ∀ (l : List α) (i : Nat), gatherI (fun _ _ => true) (fun _ x => x) l i = l
  | [], _ => rfl
  | x :: r, i => by simp only [gatherI, cond_true]; rw [gatherI_all r (i + 1)]
theorem goL1_copy {α : Type} {body : Nat → α → List α → (List α → Option Ret) → Option Ret} {kend : List α → Option Ret} {l : List α}
    (hb : ∀ (i : Nat) (x : α) (s : List α) (next : List α → Option Ret) (h : i < l.length), l[i] = x → s.length ≤ i → body i x s next = next (s ++ [x])) : goL1 body kend l 0 [] = kend l := by
  rw [goL1_gather (l := l) (c := fun _ _ => true) (f := fun _ x => x) (fun i x s next h e hs => by rw [hb i x s next h e hs]; rfl) l 0 [] rfl (by simp), gatherI_all, List.nil_append]
theorem clone_any {α : Type} {l : List α} {b : Bool} {kf : List α → Option Ret} (hb : b = true) :
    (bif List.isEmpty l then both (kf []) (bif b then kf ([] ++ l) else none) else bif b then kf ([] ++ l) else none) = kf l := by
  subst hb
  cases l with
  | nil => exact both_self _
  | cons x r => rfl
theorem slices_Clone_int_ok {N : Nat} {l : List Int} {kf : List Int → Option Ret} (hl : l.length ≤ 1048700) : slices_Clone_int N l kf = kf l := by
  exact clone_any (decide_eq_true (by simp only [List.length_nil]; omega))
theorem slices_Clone_Pair_ok {N : Nat} {l : List QIIE} {kf : List QIIE → Option Ret} (hl : l.length ≤ 1048576) : slices_Clone_Pair N l kf = kf l := clone_any (decide_eq_true (by simp only [List.length_nil]; omega))
theorem slices_Clone_Ballot_ok {N : Nat} {l : List QIIIE} {kf : List QIIIE → Option Ret} (hl : l.length ≤ 1048576) : slices_Clone_Ballot N l kf = kf l := clone_any (decide_eq_true (by simp only [List.length_nil]; omega))
theorem slices_Clone_Line_ok {N : Nat} {l : List QIIIIE} {kf : List QIIIIE → Option Ret} (hl : l.length ≤ 1048576) : slices_Clone_Line N l kf = kf l := clone_any (decide_eq_true (by simp only [List.length_nil]; omega))
theorem spec_l19Copy_ok {N : Nat} {l : List Team} {kf : List Team → Option Ret} (hl : l.length ≤ 1048700) (hm : ∀ x : Team, x ∈ l → x.met.length ≤ 1048700) (hN : l.length < N) : spec_l19Copy N l kf = kf l := by
  have h0 := maxLen_eq
  unfold spec_l19Copy
  rw [spec_l19Copy_l3_r (by omega) hN]
  refine goL1_copy (l := l) fun i x s next h e hs => ?_
  have hx : x ∈ l := by rw [← e]; exact List.getElem_mem h
  have hxm : x.2.2.2.2.2.length ≤ 1048700 := hm x hx
  rw [decide_eq_true (by simp only [List.length_nil]; omega), decide_eq_true (by simp only [List.length_cons, List.length_nil]; omega)]
  rfl
theorem spec_l33Judges_ok {N : Nat} {l : List Judge} {kf : List Judge → Option Ret} (hl : l.length ≤ 1048700) (hm : ∀ x : Judge, x ∈ l → x.2.2.length ≤ 1048700) (hN : l.length < N) : spec_l33Judges N l kf = kf l := by
  have h0 := maxLen_eq
  unfold spec_l33Judges
  rw [spec_l33Judges_l3_r (by omega) hN]
  refine goL1_copy (l := l) fun i x s next h e hs => ?_
  have hx : x ∈ l := by rw [← e]; exact List.getElem_mem h
  have hxm : x.2.2.length ≤ 1048700 := hm x hx
  rw [decide_eq_true (by simp only [List.length_nil]; omega), decide_eq_true (by simp only [List.length_cons, List.length_nil]; omega)]
  rfl
theorem impl_cloneTeams_ok {N : Nat} {l : List Team} {kf : List Team → Option Ret} (hl : l.length ≤ 1048700) (hm : ∀ x : Team, x ∈ l → x.met.length ≤ 1048700) (hN : l.length < N) : impl_cloneTeams N l kf = kf l := by
  have h0 := maxLen_eq
  unfold impl_cloneTeams
  rw [impl_cloneTeams_l3_r (by omega) hN]
  refine goL1_copy (l := l) fun i x s next h e hs => ?_
  have hx : x ∈ l := by rw [← e]; exact List.getElem_mem h
  have hxm : x.2.2.2.2.2.length ≤ 1048700 := hm x hx
  rw [slices_Clone_int_ok hxm, decide_eq_true (by simp only [List.length_cons, List.length_nil]; omega)]
  rfl
theorem impl_cloneJudges_ok {N : Nat} {l : List Judge} {kf : List Judge → Option Ret} (hl : l.length ≤ 1048700) (hm : ∀ x : Judge, x ∈ l → x.2.2.length ≤ 1048700) (hN : l.length < N) : impl_cloneJudges N l kf = kf l := by
  have h0 := maxLen_eq
  unfold impl_cloneJudges
  rw [impl_cloneJudges_l3_r (by omega) hN]
  refine goL1_copy (l := l) fun i x s next h e hs => ?_
  have hx : x ∈ l := by rw [← e]; exact List.getElem_mem h
  have hxm : x.2.2.length ≤ 1048700 := hm x hx
  rw [slices_Clone_int_ok hxm, decide_eq_true (by simp only [List.length_cons, List.length_nil]; omega)]
  rfl
theorem spec_l33Copy_ok {N : Nat} {c : Club} {kf : Club → Option Ret} (h : ClubOK c N) : spec_l33Copy N c kf = kf c := by
  have h0 := maxLen_eq
  have h1 := h.rl
  have h2 := h.sl
  have h3 := h.bl
  have h4 := h.ml
  unfold spec_l33Copy
  rw [spec_l19Copy_ok h.tb h.tmb h.tN, spec_l33Judges_ok h.jb h.jmb h.jN, decide_eq_true (by simp only [List.length_nil]; omega), decide_eq_true (by simp only [List.length_nil]; omega), decide_eq_true (by simp only [List.length_nil]; omega), decide_eq_true (by simp only [List.length_nil]; omega)]
  rfl
theorem impl_cloneClub_ok {N : Nat} {c : Club} {kf : Club → Option Ret} (h : ClubOK c N) : impl_cloneClub N c kf = kf c := by
  have h0 := maxLen_eq
  have h2 := h.sl
  unfold impl_cloneClub
  rw [impl_cloneTeams_ok h.tb h.tmb h.tN, impl_cloneJudges_ok h.jb h.jmb h.jN, slices_Clone_Pair_ok h.rl, slices_Clone_int_ok (by omega), slices_Clone_Ballot_ok h.bl, slices_Clone_Line_ok h.ml]
abbrev Line := QIIIIE
def lastM (l : List Line) : Int := (l.getLast?.map fun x => x.2.2.2).getD 0
theorem lastM_eq {l : List Line} (h0 : l ≠ []) : lastM l = (List.getD l (l.length - 1) zQIIIIE).2.2.2 := by
  unfold lastM
  rw [List.getLast?_eq_getElem?]
  have h1 : l.length - 1 < l.length := by
    cases l with
    | nil => exact absurd rfl h0
    | cons x r => simp
  rw [List.getD_eq_getElem?_getD, List.getElem?_eq_getElem h1]
  rfl
theorem last_any {l : List Line} {kf : Int → Option Ret} (hl : l.length ≤ maxLen) : (bif ((List.length l : Int) == (0 : Int)) then kf (0 : Int) else
    bif (inB (IntKind.wrap .i64 ((List.length l : Int) - (1 : Int))) (List.length l)) then kf (List.getD l (Int.toNat (IntKind.wrap .i64 ((List.length l : Int) - (1 : Int)))) zQIIIIE).2.2.2 else none) = kf (lastM l) := by
  have hm := maxLen_eq
  cases l with
  | nil => rfl
  | cons x r =>
    have e1 : ((List.length (x :: r) : Int) == (0 : Int)) = false := by simp only [List.length_cons]; exact beq_eq_false_iff_ne.2 (by omega)
    rw [wrap64 (n := (List.length (x :: r) : Int) - 1) (by omega) (by omega)]
    have e2 : (List.length (x :: r) : Int) - 1 = ((List.length (x :: r) - 1 : Nat) : Int) := by simp only [List.length_cons]; omega
    rw [e1, e2, inB_nat (by simp), lastM_eq (by simp)]
    simp only [cond_true, cond_false, Int.toNat_natCast]
theorem spec_LastSeal_ok {N : Nat} {l : List Line} {kf : Int → Option Ret} (hl : l.length ≤ maxLen) : spec_LastSeal N l kf = kf (lastM l) := last_any hl
theorem impl_LastSeal_ok {N : Nat} {l : List Line} {kf : Int → Option Ret} (hl : l.length ≤ maxLen) : impl_LastSeal N l kf = kf (lastM l) := last_any hl
def lineM (l : List Line) (what who : Int) : Line := ((l.length : Int) + 1, (what, (who, sealM (lastM l) ((l.length : Int) + 1, (what, (who, 0))))))
def wroteM (l : List Line) (what who : Int) : Bool := areMinM (l ++ [lineM l what who])
def writeM (l : List Line) (what who : Int) : List Line := bif wroteM l what who then l ++ [lineM l what who] else l
theorem writeM_len (l : List Line) (what who : Int) : (writeM l what who).length ≤ l.length + 1 := by
  unfold writeM
  cases wroteM l what who <;> simp
theorem wrote_len {l : List Line} {what who : Int} (h : wroteM l what who = true) : (writeM l what who).length ≤ 200 := by
  unfold writeM
  rw [h]
  unfold wroteM areMinM at h
  simp only [Bool.and_eq_true, decide_eq_true_eq] at h
  exact h.1
theorem spec_WriteLine_ok {N : Nat} {l : List Line} {what who : Int} {kf : List Line → Bool → Option Ret} (hl : l.length ≤ 1048576) (hN : l.length + 1 < N) (h4 : 4 < N) : spec_WriteLine N l what who kf = kf (writeM l what who) (wroteM l what who) := by
  have hm := maxLen_eq
  unfold spec_WriteLine
  rw [spec_LastSeal_ok (by omega), spec_l27Seal_ok h4, wrap64 (n := (List.length l : Int) + 1) (by omega) (by omega), decide_eq_true (by simp only [List.length_nil]; omega)]
  simp only [List.nil_append, cond_true]
  rw [decide_eq_true (by simp only [List.length_cons, List.length_nil]; omega), cond_true, spec_AreMinutes_ok (by simp only [List.length_append, List.length_cons, List.length_nil]; omega) (by simp only [List.length_append, List.length_cons, List.length_nil]; omega) h4]
  show (bif (!wroteM l what who) then kf l false else kf (l ++ [lineM l what who]) true) = _
  unfold writeM
  cases wroteM l what who <;> rfl
theorem impl_WriteLine_ok {N : Nat} {l : List Line} {what who : Int} {kf : List Line → Bool → Option Ret} (hl : l.length ≤ 1048576) (hN : l.length + 1 < N) (h4 : 4 < N) : impl_WriteLine N l what who kf = kf (writeM l what who) (wroteM l what who) := by
  have hm := maxLen_eq
  unfold impl_WriteLine
  rw [impl_LastSeal_ok (by omega), impl_lineSeal_ok h4, wrap64 (n := (List.length l : Int) + 1) (by omega) (by omega), slices_Clone_Line_ok hl, decide_eq_true (by simp only [List.length_cons, List.length_nil]; omega), cond_true, impl_AreMinutes_ok (by simp only [List.length_append, List.length_cons, List.length_nil]; omega) (by simp only [List.length_append, List.length_cons, List.length_nil]; omega) h4, slices_Clone_Line_ok hl]
  show (bif (!wroteM l what who) then kf l false else kf (l ++ [lineM l what who]) true) = _
  unfold writeM
  cases wroteM l what who <;> rfl
def withMin (c : Club) (l : List Line) : Club := (c.1, (c.2.1, (c.2.2.1, (c.2.2.2.1, (c.2.2.2.2.1, (l, c.2.2.2.2.2.2))))))
def doneB (c out : Club) (what who : Int) : Bool := wroteM c.2.2.2.2.2.1 what who && (isClubM c && isClubM (withMin out (writeM c.2.2.2.2.2.1 what who)))
def doneC (c out : Club) (what who : Int) : Club := bif doneB c out what who then withMin out (writeM c.2.2.2.2.2.1 what who) else c
theorem withMin_ok {c : Club} {N : Nat} {l : List Line} (h : ClubOK c N) (hl : l.length ≤ 200) (hN : 200 < N) : ClubOK (withMin c l) N :=
  ⟨h.tl, h.tm, h.tN, h.jl, h.jm, h.jN, h.rl, h.rN, h.sl, h.sN, h.bl, h.bN, by show l.length ≤ _; omega, by show l.length < _; omega, h.n8, h.tb, h.tmb, h.jb, h.jmb⟩
theorem spec_l34Done_ok {N : Nat} {c out : Club} {ok : Bool} {what who : Int} {kf : Club → Bool → Option Ret} (h : ClubOK c N) (ho : ok = true → ClubOK out N) (hN : 200 < N) (hl : c.2.2.2.2.2.1.length + 1 < N) :
    spec_l34Done N c out ok what who kf = bif ok then kf (doneC c out what who) (doneB c out what who) else kf c false := by
  have h8 := h.n8
  unfold spec_l34Done
  rw [spec_WriteLine_ok h.ml hl (by omega)]
  simp only [spec_l33Copy_ok h, spec_IsClub_ok h]
  cases ok with
  | false => rfl
  | true =>
    unfold doneC doneB
    cases hw : wroteM c.2.2.2.2.2.1 what who with
    | false => rfl
    | true =>
      cases hc : isClubM c with
      | false => rfl
      | true =>
        have := spec_IsClub_ok (N := N) (kf := fun r => bif !r then kf c false else kf (withMin out (writeM c.2.2.2.2.2.1 what who)) true) (withMin_ok (ho rfl) (wrote_len hw) hN)
        refine this.trans ?_
        simp only [Bool.true_and]
        cases isClubM (withMin out (writeM c.2.2.2.2.2.1 what who)) <;> rfl
theorem impl_stepped_ok {N : Nat} {c out : Club} {what who : Int} {kf : Club → Bool → Option Ret} (h : ClubOK c N) (ho : ClubOK out N) (he : out.2.2.2.2.2.1 = c.2.2.2.2.2.1) (hN : 200 < N) (hl : c.2.2.2.2.2.1.length + 1 < N) :
    impl_stepped N c out what who kf = kf (doneC c out what who) (doneB c out what who) := by
  have h8 := h.n8
  unfold impl_stepped
  rw [he, impl_WriteLine_ok h.ml hl (by omega)]
  simp only [impl_cloneClub_ok h, impl_IsClub_ok h]
  unfold doneC doneB
  cases hw : wroteM c.2.2.2.2.2.1 what who with
  | false => rfl
  | true =>
    cases hc : isClubM c with
    | false => rfl
    | true =>
      have := impl_IsClub_ok (N := N) (kf := fun r => bif !r then kf c false else kf (withMin out (writeM c.2.2.2.2.2.1 what who)) true) (withMin_ok ho (wrote_len hw) hN)
      refine this.trans ?_
      simp only [Bool.true_and]
      cases isClubM (withMin out (writeM c.2.2.2.2.2.1 what who)) <;> rfl
theorem done_size (c out : Club) (what who : Int) (h : sizeV tQLQIIIIILIELQIILIELQIIELILQIIIELQIIIIEIE out ≤ sizeV tQLQIIIIILIELQIILIELQIIELILQIIIELQIIIIEIE c + 1) (hm : sizeV (.sl tQIIIIE) out.2.2.2.2.2.1 = sizeV (.sl tQIIIIE) c.2.2.2.2.2.1) :
    sizeV tQLQIIIIILIELQIILIELQIIELILQIIIELQIIIIEIE (doneC c out what who) ≤ sizeV tQLQIIIIILIELQIILIELQIIELILQIIIELQIIIIEIE c + 2 := by
  unfold doneC
  cases doneB c out what who with
  | false => show sizeV tQLQIIIIILIELQIILIELQIIELILQIIIELQIIIIEIE c ≤ _; omega
  | true =>
    show sizeV tQLQIIIIILIELQIILIELQIIELILQIIIELQIIIIEIE (withMin out _) ≤ _
    have h1 := sizeV_club (withMin out (writeM c.2.2.2.2.2.1 what who))
    have h2 := sizeV_club out
    have h3 := writeM_len c.2.2.2.2.2.1 what who
    have h4 : sizeV (.sl tQIIIIE) (writeM c.2.2.2.2.2.1 what who) = (writeM c.2.2.2.2.2.1 what who).length := sizeV_sl (t := tQIIIIE) (by decide) _
    have h5 : sizeV (.sl tQIIIIE) c.2.2.2.2.2.1 = c.2.2.2.2.2.1.length := sizeV_sl (t := tQIIIIE) (by decide) _
    simp only [withMin] at h1 ⊢
    omega
end Go.Pv.R
namespace Go.Pv
set_option linter.unusedVariables false
set_option linter.unusedSimpArgs false
end Go.Pv
namespace Go.Pv.R
set_option linter.unusedVariables false
set_option linter.unusedSimpArgs false
end Go.Pv.R
namespace Go.Pv.R
set_option linter.unusedVariables false
set_option linter.unusedSimpArgs false
theorem sizeV_app {t : Ty} (a b : List t.I) : sizeV (.sl t) (a ++ b) = sizeV (.sl t) a + sizeV (.sl t) b := by
  simp only [sizeV_def, List.length_append, List.map_append, List.sum_append]
  omega
theorem drop_any {α : Type} (l : List α) (k : Nat) : List.drop (Int.toNat 0) (List.take k l) = l.take k ∧ List.drop k (List.take (List.length l) l) = l.drop k := by simp
end Go.Pv.R
namespace Go.Pv.R
set_option linter.unusedVariables false
set_option linter.unusedSimpArgs false
end Go.Pv.R
namespace Go.Pv.R
set_option linter.unusedVariables false
set_option linter.unusedSimpArgs false
theorem mono_any {α : Type} {l : List α} {z : α} {g : α → Int} (h : ∀ (i : Nat) (hi : i < l.length), 0 < i → g (l.getD (i - 1) z) < g l[i]) : ∀ (j i : Nat) (hi : i < l.length), j < i → g (l.getD j z) < g l[i] := by
  intro j i
  induction i with
  | zero => intro _ hj; omega
  | succ i ih =>
    intro hi hj
    have h1 := h (i + 1) hi (by omega)
    rw [Nat.add_sub_cancel] at h1
    by_cases e : j = i
    · subst e; exact h1
    · have h2 := ih (by omega) (by omega)
      rw [getD_nat _ _ (by omega)] at h1
      omega
theorem ins_ne {α : Type} {xs : List α} {x z : α} {g : α → Int} {k : Nat} (hk : k ≤ xs.length) (hm : ∀ (j i : Nat) (hi : i < (xs.take k ++ [x] ++ xs.drop k).length), j < i → g ((xs.take k ++ [x] ++ xs.drop k).getD j z) < g (xs.take k ++ [x] ++ xs.drop k)[i]) :
    ∀ (i : Nat) (hi : i < xs.length), g xs[i] ≠ g x := by
  intro i hi he
  have hl : (xs.take k ++ [x] ++ xs.drop k).length = xs.length + 1 := by simp only [List.length_append, List.length_take, List.length_drop, List.length_cons, List.length_nil]; omega
  have hlt : (xs.take k).length = k := by rw [List.length_take]; omega
  have hkx : ∀ (h : k < (xs.take k ++ [x] ++ xs.drop k).length), (xs.take k ++ [x] ++ xs.drop k)[k] = x := fun h => by
    rw [List.getElem_append_left (by rw [List.length_append, hlt]; simp), List.getElem_append_right (by omega)]
    simp [hlt]
  by_cases hik : i < k
  · have h1 := hm i k (by omega) hik
    rw [getD_nat _ _ (by omega), hkx, List.getElem_append_left (by rw [List.length_append, hlt]; simp; omega), List.getElem_append_left (by omega), List.getElem_take] at h1
    omega
  · have h1 := hm k (i + 1) (by omega) (by omega)
    rw [getD_nat _ _ (by omega), hkx, List.getElem_append_right (by rw [List.length_append, hlt]; simp; omega), List.getElem_drop] at h1
    have e2 : k + (i + 1 - (xs.take k ++ [x]).length) = i := by rw [List.length_append, hlt]; simp; omega
    simp only [e2] at h1
    omega
theorem goL_cutW {α : Type} {p : α → Bool} {k : Int → Option Ret} : ∀ (r : List α) (i m : Nat), i + r.length = m → goL (fun (i : Nat) (x : α) (next : Option Ret) => bif p x then next else k (i : Int)) (k (m : Int)) r i = k ((i + (r.takeWhile p).length : Nat) : Int)
  | [], i, m, h => by
    simp only [List.length_nil, Nat.add_zero] at h
    subst h
    rfl
  | x :: r, i, m, h => by
    simp only [List.length_cons] at h
    simp only [goL, List.takeWhile_cons]
    cases hp : p x with
    | false => rfl
    | true =>
      simp only [cond_true, if_true, List.length_cons]
      rw [goL_cutW r (i + 1) m (by omega)]
      congr 2
      omega
theorem takeWhile_len {α : Type} (p : α → Bool) (l : List α) : (l.takeWhile p).length ≤ l.length := (List.takeWhile_sublist p).length_le
theorem insB {α : Type} {xs : List α} {x : α} {k s : Nat} (hk : k ≤ xs.length) (hl : xs.length ≤ 1048700) (hs : s ≤ 8) : (decide ((0 : Int) ≤ (k : Int)) && (decide ((k : Int) ≤ (List.length xs : Int)) && (Nat.blt 0 (List.length [x]) && Nat.ble ((List.length xs + List.length [x]) * s) 4398046511104))) = true := by
  have h1 : (List.length xs + List.length [x]) * s ≤ 1048701 * 8 := Nat.mul_le_mul (by simp; omega) hs
  rw [decide_eq_true (by omega), decide_eq_true (by omega)]
  simp only [Bool.true_and, Bool.and_eq_true]
  exact ⟨rfl, by rw [Nat.ble_eq]; omega⟩
theorem insMem {α : Type} {xs : List α} {x y : α} {k : Nat} (h : y ∈ xs.take k ++ [x] ++ xs.drop k) : y ∈ xs ∨ y = x := by
  rcases List.mem_append.1 h with h | h
  · rcases List.mem_append.1 h with h | h
    · exact .inl (List.mem_of_mem_take h)
    · exact .inr (List.mem_singleton.1 h)
  · exact .inl (List.mem_of_mem_drop h)
theorem insLen {α : Type} {xs : List α} {x : α} {k : Nat} (hk : k ≤ xs.length) : (xs.take k ++ [x] ++ xs.drop k).length = xs.length + 1 := by
  simp only [List.length_append, List.length_take, List.length_drop, List.length_cons, List.length_nil]; omega
def withJudges (c : Club) (l : List Judge) : Club := (c.1, (l, c.2.2))
theorem withJudges_ok {c : Club} {N : Nat} {l : List Judge} (h : ClubOK c N) (hl : l.length ≤ 1048700) (hN : l.length < N) (hm : ∀ x : Judge, x ∈ l → x.2.2.length ≤ 1048700 ∧ x.2.2.length < N) : ClubOK (withJudges c l) N := by
  have h0 := maxLen_eq
  exact ⟨h.tl, h.tm, h.tN, by show l.length ≤ _; omega, fun x hx => ⟨by have := (hm x hx).1; omega, (hm x hx).2⟩, hN, h.rl, h.rN, h.sl, h.sN, h.bl, h.bN, h.ml, h.mN, h.n8, h.tb, h.tmb, hl, fun x hx => (hm x hx).1⟩
theorem withJudges_size (c : Club) (l : List Judge) : sizeV tQLQIIIIILIELQIILIELQIIELILQIIIELQIIIIEIE (withJudges c l) + sizeV (.sl tQIILIE) c.2.1 = sizeV tQLQIIIIILIELQIILIELQIIELILQIIIELQIIIIEIE c + sizeV (.sl tQIILIE) l := by
  have h1 := sizeV_club (withJudges c l)
  have h2 := sizeV_club c
  simp only [withJudges] at h1 ⊢
  omega
def newJ (id club : Int) : Judge := (id, (club, []))
def cutJ (l : List Judge) (id : Int) : Nat := (l.takeWhile fun x => decide (x.1 < id)).length
def enterC (c : Club) (id club : Int) : Club := withJudges c (c.2.1.take (cutJ c.2.1 id) ++ [newJ id club] ++ c.2.1.drop (cutJ c.2.1 id))
theorem cutJ_le (l : List Judge) (id : Int) : cutJ l id ≤ l.length := takeWhile_len _ _
theorem enterC_ok {c : Club} {N : Nat} {id club : Int} (h : ClubOK c N) (hb : c.2.1.length ≤ 1048576) (hN : c.2.1.length + 1 < N) : ClubOK (enterC c id club) N := by
  have hl := insLen (x := newJ id club) (cutJ_le c.2.1 id)
  have h8 := h.n8
  refine withJudges_ok h (by omega) (by omega) fun x hx => ?_
  rcases insMem hx with hx | rfl
  · exact ⟨h.jmb x hx, (h.jm x hx).2⟩
  · exact ⟨by show (0 : Nat) ≤ _; omega, by show (0 : Nat) < _; omega⟩
theorem enterC_size (c : Club) (id club : Int) : sizeV tQLQIIIIILIELQIILIELQIIELILQIIIELQIIIIEIE (enterC c id club) = sizeV tQLQIIIIILIELQIILIELQIIELILQIIIELQIIIIEIE c + 1 := by
  have h1 := withJudges_size c (c.2.1.take (cutJ c.2.1 id) ++ [newJ id club] ++ c.2.1.drop (cutJ c.2.1 id))
  have h2 : sizeV (.sl tQIILIE) (c.2.1.take (cutJ c.2.1 id) ++ [newJ id club] ++ c.2.1.drop (cutJ c.2.1 id)) = sizeV (.sl tQIILIE) c.2.1 + 1 := by
    have e : sizeV (.sl tQIILIE) c.2.1 = sizeV (.sl tQIILIE) (c.2.1.take (cutJ c.2.1 id) ++ c.2.1.drop (cutJ c.2.1 id)) := by rw [List.take_append_drop]
    have e2 : sizeV (.sl tQIILIE) ([newJ id club] : List Judge) = 1 := rfl
    rw [e, sizeV_app, sizeV_app, sizeV_app, e2]
    omega
  unfold enterC
  omega
theorem enter_ids {c : Club} {id club : Int} (h : areJudgesM (enterC c id club).2.1 = true) : findJ c.2.1 id < 0 := by
  unfold areJudgesM at h
  simp only [Bool.and_eq_true] at h
  have hm := mono_any (l := (enterC c id club).2.1) (z := zQIILIE) (g := fun x : Judge => x.1) (fun i hi h0 => by
    have h1 := (allI_iff.1 h.2) i hi
    rw [Nat.zero_add] at h1
    unfold judgeP at h1
    simp only [Bool.and_eq_true, Bool.or_eq_true, decide_eq_true_eq] at h1
    exact h1.2.2.1.resolve_left (by omega))
  have hne := ins_ne (xs := c.2.1) (x := newJ id club) (z := zQIILIE) (g := fun x : Judge => x.1) (cutJ_le c.2.1 id) hm
  by_cases hf : findJ c.2.1 id < 0
  · exact hf
  · obtain ⟨k, hk, _, h1, _⟩ := findM_pos (p := fun x : Judge => x.1 == id) (l := c.2.1) hf
    exact absurd (beq_iff_eq.1 h1) (hne k hk)
theorem enter_no {c : Club} {id club : Int} (hf : ¬ findJ c.2.1 id < 0) : doneB c (enterC c id club) 2 id = false := by
  cases hd : doneB c (enterC c id club) 2 id with
  | false => rfl
  | true =>
    unfold doneB isClubM at hd
    simp only [Bool.and_eq_true] at hd
    exact absurd (enter_ids hd.2.2.2.1) hf
theorem spec_StepJudge_l3_ok {N : Nat} {c z : Club} {id club : Int} {k : Int → Option Ret} (h : ClubOK c N) : spec_StepJudge_l3 id club c z c N k (0 : Int) = k ((cutJ c.2.1 id : Nat) : Int) := by
  rw [spec_StepJudge_l3_r h.jl h.jN, goL_cutW c.2.1 0 c.2.1.length (by omega), Nat.zero_add]
  rfl
theorem spec_StepJudge_ok {N : Nat} {c : Club} {id club : Int} {kf : Club → Bool → Option Ret} (h : ClubOK c N) (hb : c.2.1.length ≤ 1048576) (hN1 : c.2.1.length + 1 < N) (hN : 200 < N) (hl : c.2.2.2.2.2.1.length + 1 < N) :
    spec_StepJudge N c id club kf = kf (doneC c (enterC c id club) 2 id) (doneB c (enterC c id club) 2 id) := by
  have hm := maxLen_eq
  have hk := cutJ_le c.2.1 id
  unfold spec_StepJudge
  rw [spec_l33Copy_ok h, spec_StepJudge_l3_ok h]
  show (bif (decide ((0 : Int) ≤ (0 : Int)) && decide ((0 : Int) ≤ ((cutJ c.2.1 id : Nat) : Int)) && decide (((cutJ c.2.1 id : Nat) : Int) ≤ (List.length c.2.1 : Int))) then _ else _) = _
  have d1 : (decide ((0 : Int) ≤ (0 : Int)) && decide ((0 : Int) ≤ ((cutJ c.2.1 id : Nat) : Int)) && decide (((cutJ c.2.1 id : Nat) : Int) ≤ (List.length c.2.1 : Int))) = true := by simp; omega
  have d2 : (decide ((0 : Int) ≤ ((cutJ c.2.1 id : Nat) : Int)) && decide (((cutJ c.2.1 id : Nat) : Int) ≤ (List.length c.2.1 : Int)) && decide ((List.length c.2.1 : Int) ≤ (List.length c.2.1 : Int))) = true := by simp; omega
  have l1 : (c.2.1.take (cutJ c.2.1 id)).length ≤ c.2.1.length := by rw [List.length_take]; omega
  have l2 : (c.2.1.drop (cutJ c.2.1 id)).length ≤ c.2.1.length := by rw [List.length_drop]; omega
  rw [d1, cond_true, Int.toNat_natCast, (drop_any c.2.1 (cutJ c.2.1 id)).1, spec_l33Judges_ok (by omega) (fun x hx => h.jmb x (List.mem_of_mem_take hx)) (by omega), decide_eq_true (by simp only [List.length_cons, List.length_nil]; omega), cond_true]
  show (bif (decide ((0 : Int) ≤ ((cutJ c.2.1 id : Nat) : Int)) && decide (((cutJ c.2.1 id : Nat) : Int) ≤ (List.length c.2.1 : Int)) && decide ((List.length c.2.1 : Int) ≤ (List.length c.2.1 : Int))) then _ else _) = _
  rw [d2, cond_true, Int.toNat_natCast]
  show spec_l33Judges N (List.drop (cutJ c.2.1 id) (List.take (List.length c.2.1) c.2.1)) _ = _
  rw [(drop_any c.2.1 (cutJ c.2.1 id)).2, spec_l33Judges_ok (by omega) (fun x hx => h.jmb x (List.mem_of_mem_drop hx)) (by omega), decide_eq_true (by simp only [List.length_append, List.length_cons, List.length_nil]; omega), cond_true]
  exact spec_l34Done_ok (out := enterC c id club) h (fun _ => enterC_ok h hb hN1) hN hl
theorem impl_StepJudge_l5_ok {N : Nat} {c z : Club} {id club : Int} {k : Int → Option Ret} (h : ClubOK c N) : impl_StepJudge_l5 id club c z c N k (0 : Int) = k ((cutJ c.2.1 id : Nat) : Int) := by
  rw [impl_StepJudge_l5_r h.jl h.jN, goL_cutW c.2.1 0 c.2.1.length (by omega), Nat.zero_add]
  rfl
theorem impl_StepJudge_ok {N : Nat} {c : Club} {id club : Int} {kf : Club → Bool → Option Ret} (h : ClubOK c N) (hb : c.2.1.length ≤ 1048576) (hN1 : c.2.1.length + 1 < N) (hN : 200 < N) (hl : c.2.2.2.2.2.1.length + 1 < N) :
    impl_StepJudge N c id club kf = kf (doneC c (enterC c id club) 2 id) (doneB c (enterC c id club) 2 id) := by
  have hm := maxLen_eq
  have hk := cutJ_le c.2.1 id
  unfold impl_StepJudge
  rw [impl_cloneClub_ok h, impl_judgeAt_ok h.jl h.jN]
  by_cases hf : findJ c.2.1 id < 0
  rotate_left
  · rw [decide_eq_true (show findJ c.2.1 id ≥ 0 by omega), cond_true]
    have hd := enter_no (club := club) hf
    have hc : doneC c (enterC c id club) 2 id = c := by unfold doneC; rw [hd]; rfl
    rw [hd, hc]
  · rw [decide_eq_false (show ¬ findJ c.2.1 id ≥ 0 by omega), cond_false, impl_StepJudge_l5_ok h]
    show slices_Insert_Judge N c.2.1 ((cutJ c.2.1 id : Nat) : Int) [newJ id club] _ = _
    unfold slices_Insert_Judge
    rw [insB hk (by omega) (by decide), cond_true, Int.toNat_natCast]
    exact impl_stepped_ok (out := enterC c id club) h (enterC_ok h hb hN1) rfl hN hl
theorem enter_same {N : Nat} {c : Club} {id club : Int} (hc : ClubOK c N) (hb : c.2.1.length ≤ 1048576) (hN1 : c.2.1.length + 1 < N) (hN : 200 < N) (hl : c.2.2.2.2.2.1.length + 1 < N) : ∃ r b, sizeV tQLQIIIIILIELQIILIELQIIELILQIIIELQIIIIEIE r ≤ sizeV tQLQIIIIILIELQIILIELQIIELILQIIIELQIIIIEIE c + 4 ∧ (∀ k, spec_StepJudge N c id club k = k r b) ∧ ∀ k, impl_StepJudge N c id club k = k r b := by
  refine ⟨doneC c (enterC c id club) 2 id, doneB c (enterC c id club) 2 id, ?_, fun k => spec_StepJudge_ok hc hb hN1 hN hl, fun k => impl_StepJudge_ok hc hb hN1 hN hl⟩
  have hd := done_size c (enterC c id club) 2 id (by have := enterC_size c id club; omega) rfl
  omega
theorem lawFnExactStepJudge (c : Club) (id club : Int) (h : wfs [tQLQIIIIILIELQIILIELQIIELILQIIIELQIIIIEIE, .int .i64, .int .i64] (c, id, club, ())) : ∃ N, ∀ kf, laws_FnExactStepJudge N c id club kf = kf true := by
  refine ⟨2 * sizeV tQLQIIIIILIELQIILIELQIIELILQIIIELQIIIIEIE c + 300, fun kf => ?_⟩
  have hw : wf tQLQIIIIILIELQIILIELQIIELILQIIIELQIIIIEIE c := h.1
  unfold laws_FnExactStepJudge
  rw [laws_szClub_ok hw (by omega) (by omega) (by omega)]
  refine small_or (by omega) fun hb => ?_
  have hc := club_ok (N := 2 * sizeV tQLQIIIIILIELQIILIELQIIELILQIIIELQIIIIEIE c + 300) hw (by omega) (by omega)
  have hml := sizeV_club c
  have hml2 := sizeV_len (t := tQIIIIE) c.2.2.2.2.2.1
  generalize hN : 2 * sizeV tQLQIIIIILIELQIILIELQIIELILQIIIELQIIIIEIE c + 300 = N at *
  obtain ⟨r, b, hrs, hS, hI⟩ : ∃ r b, sizeV tQLQIIIIILIELQIILIELQIIELILQIIIELQIIIIEIE r ≤ sizeV tQLQIIIIILIELQIILIELQIIELILQIIIELQIIIIEIE c + 4 ∧ (∀ k, spec_StepJudge N c id club k = k r b) ∧ ∀ k, impl_StepJudge N c id club k = k r b := enter_same hc (by have := sizeV_len (t := tQIILIE) c.2.1; omega) (by have := sizeV_len (t := tQIILIE) c.2.1; omega) (by omega) (by omega)
  have h1 : ∀ k, laws_toClub N c k = k c := fun k => laws_toClub_ok (by omega) (by omega)
  have mc := markT_le tQLQIIIIILIELQIILIELQIIELILQIIIELQIIIIEIE c 1 (by decide)
  have mr := markT_le tQLQIIIIILIELQIILIELQIIELILQIIIELQIIIIEIE r 1 (by decide)
  have e1 : decide ((markT tQLQIIIIILIELQIILIELQIIELILQIIIELQIIIIEIE c 1).2 < 0) = false := decide_eq_false (by omega)
  have e2 : decide ((markT tQLQIIIIILIELQIILIELQIIELILQIIIELQIIIIEIE r 1).2 < 0) = false := decide_eq_false (by omega)
  have h2 : ∀ k, laws_eqClub N c c k = k true := fun k => laws_eqClub_ok (by omega) (by omega)
  have h3 : ∀ k, laws_eqClub N r r k = k true := fun k => laws_eqClub_ok (by omega) (by omega)
  have h4 : ∀ k, laws_markClub N c 1 k = k (markT tQLQIIIIILIELQIILIELQIIELILQIIIELQIIIIEIE c 1).2 (markT tQLQIIIIILIELQIILIELQIIELILQIIIELQIIIIEIE c 1).1 := fun k => laws_markClub_ok (by omega) (by omega) (by omega) (by omega)
  have h5 : ∀ k, laws_markClub N r 1 k = k (markT tQLQIIIIILIELQIILIELQIIELILQIIIELQIIIIEIE r 1).2 (markT tQLQIIIIILIELQIILIELQIIELILQIIIELQIIIIEIE r 1).1 := fun k => laws_markClub_ok (by omega) (by omega) (by omega) (by omega)
  have h6 : ∀ k, laws_heldClub N (markT tQLQIIIIILIELQIILIELQIIELILQIIIELQIIIIEIE r 1).1 1 k = k (markT tQLQIIIIILIELQIILIELQIIELILQIIIELQIIIIEIE r 1).2 := fun k => laws_heldClub_ok (by omega) (by omega) (by omega) (by omega)
  have he : ((markT tQLQIIIIILIELQIILIELQIIELILQIIIELQIIIIEIE r 1).1.1, ((markT tQLQIIIIILIELQIILIELQIIELILQIIIELQIIIIEIE r 1).1.2.1, ((markT tQLQIIIIILIELQIILIELQIIELILQIIIELQIIIIEIE r 1).1.2.2.1, ((markT tQLQIIIIILIELQIILIELQIIELILQIIIELQIIIIEIE r 1).1.2.2.2.1, ((markT tQLQIIIIILIELQIILIELQIIELILQIIIELQIIIIEIE r 1).1.2.2.2.2.1, ((markT tQLQIIIIILIELQIILIELQIIELILQIIIELQIIIIEIE r 1).1.2.2.2.2.2.1, r.2.2.2.2.2.2)))))) = (markT tQLQIIIIILIELQIILIELQIIELILQIIIELQIIIIEIE r 1).1 := rfl
  simp only [h1, hS, hI, h2, h3, h4, h5, he, h6, e1, e2, Bool.not_true, cond_false, bne_self_eq_false, beq_self_eq_true]
end Go.Pv.R
