/- The law over the plain functions. -/
import Derived.Test.YtcpakhaogbempaaPlHz
namespace Go.Pv.R
set_option linter.unusedVariables false
set_option linter.unusedSimpArgs false
end Go.Pv.R
namespace Go.Pv.R
set_option linter.unusedVariables false
set_option linter.unusedSimpArgs false
theorem spec_l1In_ok {N : Nat} {a b c : Int} {kf : Bool → Option Ret} : spec_l1In N a b c kf = kf (inR a b c) := by
  unfold spec_l1In inR
  by_cases h : b ≤ a <;> simp [h]
theorem impl_InRange_ok {N : Nat} {a b c : Int} {kf : Bool → Option Ret} : impl_InRange N a b c kf = kf (inR a b c) := by
  unfold impl_InRange inR
  by_cases h : b ≤ a <;> simp [h]
def whatM (a : Int) (i : Nat) (x : QIIIIE) (s : Int) : Int := bif x.2.1 == a then IntKind.wrap .i64 (s + 1) else s
theorem busy_both {l : List QIILIE} : ∀ (r : List QIILIE) (i b : Nat) (hb : b < l.length), l.drop i = r → ∃ (v : Nat) (hv : v < l.length), ∀ (k1 : Int → Option Ret) (k2 : QIILIE → Option Ret),
    goL1 (fun (i : Nat) (x : QIILIE) (x3_2 : Int) (next : Int → Option Ret) =>
        bif (decide (x3_2 < (0 : Int))) then
          next (i : Int)
        else
          bif (inB x3_2 (List.length l)) then
            bif (decide ((List.length x.2.2 : Int) > (List.length (List.getD l (Int.toNat x3_2) zQIILIE).2.2 : Int))) then
              next (i : Int)
            else
              next x3_2
          else none) k1 r i (b : Int) = k1 (v : Int) ∧
    goL1 (fun (i : Nat) (x : QIILIE) (x3_1 : QIILIE) (next : QIILIE → Option Ret) =>
        bif (decide ((List.length x.2.2 : Int) > (List.length x3_1.2.2 : Int))) then
          next x
        else
          next x3_1) k2 r i l[b] = k2 l[v]
  | [], i, b, hb, hd => ⟨b, hb, fun k1 k2 => ⟨rfl, rfl⟩⟩
  | x :: r, i, b, hb, hd => by
    have hlt : i < l.length := by have := congrArg List.length hd; simp at this; omega
    rw [List.drop_eq_getElem_cons hlt] at hd
    injection hd with h1 h2
    by_cases hc : (List.length x.2.2 : Int) > (List.length l[b].2.2 : Int)
    · obtain ⟨v, hv, ih⟩ := busy_both r (i + 1) i hlt h2
      refine ⟨v, hv, fun k1 k2 => ?_⟩
      obtain ⟨q1, q2⟩ := ih k1 k2
      simp only [goL1]
      rw [decide_eq_false (by omega), cond_false, inB_nat hb, cond_true, Int.toNat_natCast, getD_nat _ _ hb, decide_eq_true hc, cond_true, cond_true, q1, ← q2, h1]
      exact ⟨rfl, rfl⟩
    · obtain ⟨v, hv, ih⟩ := busy_both r (i + 1) b hb h2
      refine ⟨v, hv, fun k1 k2 => ?_⟩
      obtain ⟨q1, q2⟩ := ih k1 k2
      simp only [goL1]
      rw [decide_eq_false (by omega), cond_false, inB_nat hb, cond_true, Int.toNat_natCast, getD_nat _ _ hb, decide_eq_false hc, cond_false, cond_false, q1, ← q2]
      exact ⟨rfl, rfl⟩
end Go.Pv.R
namespace Go.Pv.R
set_option linter.unusedVariables false
set_option linter.unusedSimpArgs false
theorem tmod_both (a : Int) : (a.tmod 2147483647 = a % 2147483647 ∧ 0 ≤ a) ∨ (a.tmod 2147483647 = -((-a) % 2147483647) ∧ a < 0) := by
  rcases Int.lt_or_le a 0 with h | h
  · right
    refine ⟨?_, h⟩
    have h1 : (-a).tmod 2147483647 = (-a) % 2147483647 := Int.tmod_eq_emod_of_nonneg (by omega)
    rw [Int.neg_tmod] at h1
    omega
  · exact .inl ⟨Int.tmod_eq_emod_of_nonneg h, h⟩
theorem spec_Mod_ok {N : Nat} {a : Int} {kf : Int → Option Ret} : spec_Mod N a 2147483647 kf = kf (a % 2147483647) := by
  unfold spec_Mod
  rw [spec_l1In_ok, show inR 2147483647 1 1000000000000 = true from by decide]
  have e : (decide ((2147483647 : Int) = 0)) = false := by decide
  simp only [Bool.not_true, cond_false, e, Bool.not_false, cond_true]
  congr 1
  rcases tmod_both a with ⟨h, h'⟩ | ⟨h, h'⟩ <;> rw [h, wrap64 (by omega) (by omega), Int.tmod_eq_emod_of_nonneg (by omega)] <;> omega
def foldM (i : Nat) (x s : Int) : Int := Int.tmod (IntKind.wrap .i64 ((IntKind.wrap .i64 ((IntKind.wrap .i64 (s * (1000003 : Int))) + x % 2147483647)) + (13 : Int))) (2147483647 : Int)
def hashM (l : List Int) : Int := foldI foldM l 0 11
theorem spec_Hash_ok {N : Nat} {l : List Int} {kf : Int → Option Ret} (hl : l.length ≤ maxLen) (hN : l.length < N) : spec_Hash N l kf = kf (hashM l) := by
  unfold spec_Hash
  rw [spec_Hash_l3_r hl hN, goL1_f foldM (fun i x s next h e => by rw [spec_Mod_ok]; rfl)]
  rfl
def sealM (s : Int) (x : QIIIIE) : Int := hashM [s, x.1, x.2.1, x.2.2.1]
theorem spec_l27Seal_ok {N : Nat} {s : Int} {x : QIIIIE} {kf : Int → Option Ret} (hN : 4 < N) : spec_l27Seal N s x kf = kf (sealM s x) := by
  unfold spec_l27Seal
  rw [spec_Hash_ok (by rw [maxLen_eq]; simp) (by simpa using hN)]
  rfl
/-- Minutes that are numbered, in range and sealed. -/
def minM : List QIIIIE → Nat → Int → Bool
  | [], _, _ => true
  | x :: r, i, s => (x.1 == ((i + 1 : Nat) : Int)) && inR x.2.1 1 9 && inR x.2.2.1 0 99 && (x.2.2.2 == sealM s x) && minM r (i + 1) x.2.2.2
def areMinM (l : List QIIIIE) : Bool := decide (l.length ≤ 200) && minM l 0 0
theorem spec_AreMinutes_ok {N : Nat} {l : List QIIIIE} {kf : Bool → Option Ret} (hl : l.length ≤ maxLen) (hN : l.length < N) (h4 : 4 < N) : spec_AreMinutes N l kf = kf (areMinM l) := by
  unfold spec_AreMinutes
  rw [spec_AreMinutes_l3_r hl hN]
  by_cases hc : l.length ≤ 200
  · have h1 : (decide ((l.length : Int) ≤ 200)) = true := decide_eq_true (by omega)
    have key : ∀ (r : List QIIIIE) (i : Nat) (s : Int), l.drop i = r → goL1 (fun (i : Nat) (x : QIIIIE) (x3_2 : Int) (next : Int → Option Ret) =>
        bif (decide ((List.length l : Int) ≤ (200 : Int))) then
          spec_l27Seal N x3_2 x (fun (r23_5 : Int) =>
            bif (x.1 != (IntKind.wrap .i64 ((i : Int) + (1 : Int)))) then kf false
            else
              spec_l1In N x.2.1 (1 : Int) (9 : Int) (fun (r32_6 : Bool) =>
                bif (!r32_6) then kf false
                else
                  spec_l1In N x.2.2.1 (0 : Int) (99 : Int) (fun (r38_7 : Bool) =>
                    bif (!r38_7) then kf false
                    else
                      bif (x.2.2.2 != r23_5) then kf false
                      else next r23_5)))
        else kf (decide ((List.length l : Int) ≤ (200 : Int)))) (fun (x3_2 : Int) => kf (decide ((List.length l : Int) ≤ (200 : Int)))) r i s = kf (minM r i s) := by
      intro r
      induction r with
      | nil => intro i s _; simp only [goL1, minM, h1]
      | cons x r ih =>
        intro i s hd
        have hlt : i < l.length := by have := congrArg List.length hd; simp at this; omega
        rw [List.drop_eq_getElem_cons hlt] at hd
        injection hd with e1 e2
        simp only [goL1, minM]
        simp only [ih (i + 1) _ e2]
        simp only [h1, cond_true, spec_l27Seal_ok h4, spec_l1In_ok, wrap_succ hlt hl]
        cases hx : (x.1 == ((i + 1 : Nat) : Int)) with
        | false => simp only [bne, hx, Bool.not_false, cond_true, Bool.false_and]
        | true =>
          simp only [bne, hx, Bool.not_true, cond_false, Bool.true_and]
          cases inR x.2.1 1 9 <;> simp
          cases inR x.2.2.1 0 99 <;> simp
          by_cases hs : x.2.2.2 = sealM s x
          · simp [hs]
          · have : (x.2.2.2 == sealM s x) = false := by simpa using hs
            simp [this]
    refine Eq.trans (key l 0 0 rfl) ?_
    unfold areMinM
    simp [hc]
  · have h1 : (decide ((l.length : Int) ≤ 200)) = false := decide_eq_false (by omega)
    cases l with
    | nil => simp at hc
    | cons x r =>
      simp only [goL1, h1, cond_false]
      unfold areMinM
      rw [decide_eq_false hc]
      rfl
end Go.Pv.R
namespace Go.Pv
set_option linter.unusedVariables false
set_option linter.unusedSimpArgs false
theorem findI_some {α : Type} {p : α → Bool} : ∀ {l : List α} {i k : Nat}, findI p l i = some k → ∃ j, ∃ h : j < l.length, k = i + j ∧ p l[j] = true ∧ ∀ j' (h' : j' < j), p (l[j']'(by omega)) = false
  | [], i, k, h => by cases h
  | x :: r, i, k, h => by
    simp only [findI] at h
    cases hp : p x with
    | true =>
      rw [hp] at h
      injection h with h
      exact ⟨0, by simp, by omega, hp, fun j' h' => by omega⟩
    | false =>
      rw [hp] at h
      obtain ⟨j, hj, e, h1, h2⟩ := findI_some (l := r) h
      refine ⟨j + 1, by simpa using hj, by omega, h1, fun j' h' => ?_⟩
      cases j' with
      | zero => exact hp
      | succ j' => exact h2 j' (by omega)
theorem findI_none {α : Type} {p : α → Bool} : ∀ {l : List α} {i : Nat}, findI p l i = none → ∀ j (h : j < l.length), p l[j] = false
  | [], i, h, j, hj => by simp at hj
  | x :: r, i, h, j, hj => by
    simp only [findI] at h
    cases hp : p x with
    | true => rw [hp] at h; cases h
    | false =>
      rw [hp] at h
      cases j with
      | zero => exact hp
      | succ j => exact findI_none (l := r) h j (by simpa using hj)
/-- A search: the first place with a property. -/
theorem goL_find {α : Type} {body : Nat → α → Option Ret → Option Ret} {kend : Option Ret} {kf : Nat → Option Ret} {p : α → Bool} (hb : ∀ (i : Nat) (x : α) (next : Option Ret), body i x next = bif p x then kf i else next) : ∀ (l : List α) (i : Nat), goL body kend l i = match findI p l i with
    | some k => kf k
    | none => kend
  | [], _ => rfl
  | x :: r, i => by
    simp only [goL, findI]
    rw [hb]
    cases p x
    · exact goL_find hb r (i + 1)
    · rfl
def findM {α : Type} (p : α → Bool) (l : List α) : Int := match findI p l 0 with
  | some k => (k : Int)
  | none => -1
theorem findM_pos {α : Type} {p : α → Bool} {l : List α} (h : ¬ findM p l < 0) : ∃ k : Nat, ∃ hk : k < l.length, findM p l = (k : Int) ∧ p l[k] = true ∧ ∀ j (hj : j < k), p (l[j]'(by omega)) = false := by
  unfold findM at *
  split at h
  · rename_i k hk
    obtain ⟨j, hj, e, h1, h2⟩ := findI_some hk
    obtain rfl : k = j := by omega
    exact ⟨k, hj, rfl, h1, h2⟩
  · omega
theorem findM_neg {α : Type} {p : α → Bool} {l : List α} (h : findM p l < 0) : findM p l = -1 ∧ ∀ j (hj : j < l.length), p l[j] = false := by
  unfold findM at *
  split at h
  · omega
  · rename_i hn
    exact ⟨rfl, findI_none hn⟩
theorem allI_and {α : Type} {p q : Nat → α → Bool} : ∀ {l : List α} {i : Nat}, allI (fun i x => p i x && q i x) l i = (allI p l i && allI q l i)
  | [], _ => rfl
  | x :: r, i => by
    simp only [allI, allI_and (l := r)]
    cases p i x <;> cases q i x <;> cases allI p r (i + 1) <;> simp
theorem allI_congr {α : Type} {p q : Nat → α → Bool} {l : List α} (h : ∀ (j : Nat) (hj : j < l.length), p j l[j] = q j l[j]) : allI p l 0 = allI q l 0 := by
  apply Bool.eq_iff_iff.2
  rw [allI_iff, allI_iff]
  constructor
  · intro h1 j hj; have := h1 j hj; rw [Nat.zero_add] at *; rw [← h j hj]; exact this
  · intro h1 j hj; have := h1 j hj; rw [Nat.zero_add] at *; rw [h j hj]; exact this
theorem wrap_pred {i m : Nat} (h0 : 0 < i) (h : i < m) (hm : m ≤ maxLen) : IntKind.wrap .i64 ((i : Int) - 1) = ((i - 1 : Nat) : Int) := by
  have := maxLen_eq
  rw [wrap64] <;> omega
end Go.Pv
namespace Go.Pv.R
set_option linter.unusedVariables false
set_option linter.unusedSimpArgs false
abbrev Team := QIIIIILIE
def findT (l : List Team) (id : Int) : Int := findM (fun x : Team => x.1 == id) l
theorem spec_FindTeam_ok {N : Nat} {l : List Team} {id : Int} {kf : Int → Option Ret} (hl : l.length ≤ maxLen) (hN : l.length < N) : spec_FindTeam N l id kf = kf (findT l id) := by
  unfold spec_FindTeam
  rw [spec_FindTeam_l2_r hl hN, goL_find (p := fun x : Team => x.1 == id) (kf := fun i => kf (i : Int)) (fun i x next => rfl)]
  unfold findT findM
  cases findI (fun x : Team => x.1 == id) l 0 <;> rfl
theorem impl_FindTeam_ok {N : Nat} {l : List Team} {id : Int} {kf : Int → Option Ret} (hl : l.length ≤ maxLen) (hN : l.length < N) : impl_FindTeam N l id kf = kf (findT l id) := by
  unfold impl_FindTeam slices_IndexFunc_Team_impl_FindTeam_1
  rw [slices_IndexFunc_Team_impl_FindTeam_1_l2_r hl hN]
  simp only [impl_FindTeam_1]
  rw [goL_find (p := fun x : Team => x.1 == id) (kf := fun i => kf (i : Int)) (fun i x next => rfl)]
  unfold findT findM
  cases findI (fun x : Team => x.1 == id) l 0 <;> rfl
def countM (l : List Int) (n : Int) : Int := foldI (fun i x s => bif x == n then IntKind.wrap .i64 (s + 1) else s) l 0 0
theorem spec_l19Count_ok {N : Nat} {l : List Int} {n : Int} {kf : Int → Option Ret} (hl : l.length ≤ maxLen) (hN : l.length < N) : spec_l19Count N l n kf = kf (countM l n) := by
  unfold spec_l19Count
  rw [spec_l19Count_l3_r hl hN, goL1_f (fun i x s => bif x == n then IntKind.wrap .i64 (s + 1) else s) (fun i x s next h e => by cases x == n <;> rfl)]
  rfl
theorem impl_times_ok {N : Nat} {l : List Int} {n : Int} {kf : Int → Option Ret} (hl : l.length ≤ maxLen) (hN : l.length < N) : impl_times N l n kf = kf (countM l n) := by
  unfold impl_times
  rw [impl_times_l3_r hl hN, goL1_f (fun i x s => bif x == n then IntKind.wrap .i64 (s + 1) else s) (fun i x s next h e => by cases x == n <;> rfl)]
  rfl
abbrev Team.met (x : Team) : List Int := x.2.2.2.2.2
/-- One team: its numbers. -/
def teamP (l : List Team) (i : Nat) (x : Team) : Bool := inR x.1 1 99 && (inR x.2.1 1 99 && (inR x.2.2.1 0 x.met.length && (inR x.2.2.2.2.1 0 x.met.length && (inR x.2.2.2.1 0 100000 && (decide (x.met.length ≤ 20) && (decide (i = 0) || decide ((l.getD (i - 1) zQIIIIILIE).1 < x.1)))))))
/-- Whom it has met. -/
def metP (l : List Team) (x : Team) (id : Int) : Bool := !decide (findT l id < 0) && (!(id == x.1) && (countM x.met id == countM (l.getD (findT l id).toNat zQIIIIILIE).met x.1))
def areTeamsM (l : List Team) : Bool := decide (l.length ≤ 10) && (allI (teamP l) l 0 && allI (fun _ x => x.met.all (metP l x)) l 0)
def metS (l : List Team) (i : Nat) (x : Team) (id : Int) : Bool := !decide (findT l id < 0) && (!(findT l id == (i : Int)) && (countM (l.getD (findT l id).toNat zQIIIIILIE).met x.1 == countM x.met (l.getD (findT l id).toNat zQIIIIILIE).1))
theorem allI_all {α : Type} {p : α → Bool} : ∀ {l : List α} {i : Nat}, allI (fun _ x => p x) l i = l.all p
  | [], _ => rfl
  | x :: r, i => by simp only [allI, List.all_cons, allI_all (l := r)]
/-- The ids grow: each leads to its own place. -/
theorem teams_mono {l : List Team} (h : allI (teamP l) l 0 = true) : ∀ (j i : Nat) (hi : i < l.length), j < i → (l.getD j zQIIIIILIE).1 < l[i].1 := by
  rw [allI_iff] at h
  have step : ∀ (i : Nat) (hi : i < l.length), 0 < i → (l.getD (i - 1) zQIIIIILIE).1 < l[i].1 := fun i hi h0 => by
    have := h i hi
    rw [Nat.zero_add] at this
    simp only [teamP, Bool.and_eq_true, Bool.or_eq_true, decide_eq_true_eq] at this
    omega
  intro j i hi hji
  induction i with
  | zero => omega
  | succ i ih =>
    have h1 := step (i + 1) hi (by omega)
    rw [Nat.add_sub_cancel, getD_nat _ _ (show i < l.length by omega)] at h1
    rcases Nat.lt_or_eq_of_le (Nat.le_of_lt_succ hji) with h2 | rfl
    · have := ih (by omega) h2; omega
    · rw [getD_nat _ _ (by omega)]; exact h1
theorem findT_self {l : List Team} (h : allI (teamP l) l 0 = true) {i : Nat} (hi : i < l.length) {id : Int} : findT l id = (i : Int) ↔ id = l[i].1 := by
  constructor
  · intro e
    obtain ⟨k, hk, e1, h1, _⟩ := findM_pos (p := fun x : Team => x.1 == id) (l := l) (by unfold findT at e; omega)
    unfold findT at e
    obtain rfl : k = i := by omega
    exact (beq_iff_eq.1 h1).symm
  · rintro rfl
    unfold findT
    by_cases hn : findM (fun x : Team => x.1 == l[i].1) l < 0
    · have := (findM_neg hn).2 i hi
      simp at this
    · obtain ⟨k, hk, e1, h1, h2⟩ := findM_pos hn
      rw [e1]
      have h1 : l[k].1 = l[i].1 := by simpa using h1
      rcases Nat.lt_trichotomy k i with hlt | rfl | hlt
      · have := teams_mono h k i hi hlt
        rw [getD_nat _ _ hk] at this
        omega
      · rfl
      · have := h2 i hlt
        simp at this
theorem metS_eq {l : List Team} (h : allI (teamP l) l 0 = true) {i : Nat} (hi : i < l.length) (id : Int) : metS l i l[i] id = metP l l[i] id := by
  unfold metS metP
  by_cases hn : findT l id < 0
  · simp [hn]
  · rw [decide_eq_false hn, Bool.not_false, Bool.true_and, Bool.true_and]
    have e1 : (findT l id == (i : Int)) = (id == l[i].1) := by
      apply Bool.eq_iff_iff.2
      rw [beq_iff_eq, beq_iff_eq]
      exact findT_self h hi
    rw [e1]
    obtain ⟨k, hk, e2, h2, _⟩ := findM_pos (p := fun x : Team => x.1 == id) hn
    have e3 : findT l id = (k : Int) := e2
    rw [e3, Int.toNat_natCast, getD_nat _ _ hk, show l[k].1 = id by simpa using h2]
    congr 1
    apply Bool.eq_iff_iff.2
    rw [beq_iff_eq, beq_iff_eq]
    exact ⟨fun h => h.symm, fun h => h.symm⟩
theorem teams_alike (l : List Team) : (allI (fun i x => teamP l i x && x.met.all (metS l i x)) l 0 && decide (l.length ≤ 10)) = areTeamsM l := by
  unfold areTeamsM
  rw [allI_and]
  cases h : allI (teamP l) l 0 with
  | false => simp
  | true =>
    have : allI (fun i x => x.met.all (metS l i x)) l 0 = allI (fun _ x => x.met.all (metP l x)) l 0 := allI_congr fun j hj => by
      congr 1
      funext id
      exact metS_eq h hj id
    rw [this]
    cases decide (l.length ≤ 10) <;> simp
theorem spec_AreTeams_ok {N : Nat} {l : List Team} {kf : Bool → Option Ret} (hl : l.length ≤ maxLen) (hm : ∀ x ∈ l, x.met.length ≤ maxLen ∧ x.met.length < N) (hN : l.length < N) : spec_AreTeams N l kf = kf (areTeamsM l) := by
  unfold spec_AreTeams
  rw [spec_AreTeams_l2_r hl hN, goL_all (l := l) (p := fun i x => teamP l i x && x.met.all (metS l i x)) (kf := kf false) (fun i x next h e => ?_) l 0 rfl, ← teams_alike]
  · cases allI (fun i x => teamP l i x && x.met.all (metS l i x)) l 0
    · rfl
    · simp only [cond_true, Bool.true_and]
      congr 1
      apply Bool.eq_iff_iff.2
      simp
      omega
  · have hx : x ∈ l := by rw [← e]; exact List.getElem_mem h
    obtain ⟨m1, m2⟩ := hm x hx
    have inner : spec_AreTeams_l8 N l (i : Int) x N next kf (0 : Int) = bif x.met.all (metS l i x) then next else kf false := by
      rw [spec_AreTeams_l8_r m1 m2, goL_all (l := x.met) (p := fun _ id => metS l i x id) (kf := kf false) (fun j id next' hj ej => ?_) x.met 0 rfl, allI_all]
      rw [spec_FindTeam_ok hl hN]
      unfold metS
      by_cases hn : findT l id < 0
      · simp [hn]
      · rw [decide_eq_false hn, cond_false, Bool.not_false, Bool.true_and]
        cases hf : findT l id == (i : Int)
        · obtain ⟨k, hk, e2, h2, _⟩ := findM_pos (p := fun x : Team => x.1 == id) hn
          have e3 : findT l id = (k : Int) := e2
          obtain ⟨q1, q2⟩ := hm l[k] (List.getElem_mem hk)
          rw [cond_false, e3, inB_nat hk, cond_true, cond_true, Int.toNat_natCast, getD_nat _ _ hk, spec_l19Count_ok q1 q2, spec_l19Count_ok m1 m2]
          cases hc : (countM l[k].met x.1 == countM x.met l[k].1) <;> simp [bne, hc]
        · simp
    have ord : ∀ A B : Option Ret, (bif (decide ((i : Int) > (0 : Int))) then
        bif (inB (IntKind.wrap .i64 ((i : Int) - (1 : Int))) (List.length l)) then
          bif (decide ((List.getD l (Int.toNat (IntKind.wrap .i64 ((i : Int) - (1 : Int)))) zQIIIIILIE).1 ≥ x.1)) then A else B
        else none
      else B) = bif (decide (i = 0) || decide ((l.getD (i - 1) zQIIIIILIE).1 < x.1)) then B else A := fun A B => by
      by_cases h0 : i = 0
      · subst h0; simp
      · rw [decide_eq_true (show (i : Int) > 0 by omega), cond_true, wrap_pred (by omega) h hl, inB_nat (by omega), cond_true, Int.toNat_natCast, decide_eq_false h0, Bool.false_or]
        by_cases hc : (l.getD (i - 1) zQIIIIILIE).1 < x.1
        · rw [decide_eq_false (by omega), decide_eq_true hc]; rfl
        · rw [decide_eq_true (by omega), decide_eq_false hc]; rfl
    simp only [spec_l1In_ok, inner, ord]
    unfold teamP
    cases inR x.1 1 99 <;> simp
    cases inR x.2.1 1 99 <;> simp
    cases inR x.2.2.1 0 x.met.length <;> simp
    cases inR x.2.2.2.2.1 0 x.met.length <;> simp
    cases inR x.2.2.2.1 0 100000 <;> simp
    by_cases h20 : x.met.length ≤ 20
    · rw [decide_eq_false (show ¬ (20 : Int) < (x.met.length : Int) by omega), decide_eq_true h20]
      simp
      cases (decide (i = 0) || decide ((l[i - 1]?.getD zQIIIIILIE).1 < x.1)) <;> simp
    · rw [decide_eq_true (show (20 : Int) < (x.met.length : Int) by omega), decide_eq_false h20]
      simp
theorem impl_AreTeams_ok {N : Nat} {l : List Team} {kf : Bool → Option Ret} (hl : l.length ≤ maxLen) (hm : ∀ x ∈ l, x.met.length ≤ maxLen ∧ x.met.length < N) (hN : l.length < N) : impl_AreTeams N l kf = kf (areTeamsM l) := by
  unfold impl_AreTeams
  by_cases h10 : l.length ≤ 10
  rotate_left
  · rw [decide_eq_true (by omega), cond_true]
    unfold areTeamsM
    rw [decide_eq_false h10]
    rfl
  rw [decide_eq_false (by omega), cond_false]
  rw [impl_AreTeams_l4_r hl hN, goL_all (l := l) (p := fun i x => teamP l i x && x.met.all (metP l x)) (kf := kf false) (fun i x next h e => ?_) l 0 rfl]
  · unfold areTeamsM
    rw [decide_eq_true h10, Bool.true_and, allI_and]
    cases (allI (teamP l) l 0 && allI (fun _ x => x.met.all (metP l x)) l 0) <;> rfl
  · have hx : x ∈ l := by rw [← e]; exact List.getElem_mem h
    obtain ⟨m1, m2⟩ := hm x hx
    have inner : impl_AreTeams_l10 N l x l (List.length l : Int) (i : Int) x.2.2.2.2.2 (List.length x.2.2.2.2.2 : Int) N next kf (0 : Int) = bif x.met.all (metP l x) then next else kf false := by
      rw [impl_AreTeams_l10_r m1 m2, goL_all (l := x.met) (p := fun _ id => metP l x id) (kf := kf false) (fun j id next' hj ej => ?_) x.met 0 rfl, allI_all]
      rw [impl_FindTeam_ok hl hN]
      unfold metP
      by_cases hn : findT l id < 0
      · simp [hn]
      · rw [decide_eq_false hn, cond_false, Bool.not_false, Bool.true_and]
        cases hf : id == x.1
        · obtain ⟨k, hk, e2, h2, _⟩ := findM_pos (p := fun x : Team => x.1 == id) hn
          have e3 : findT l id = (k : Int) := e2
          obtain ⟨q1, q2⟩ := hm l[k] (List.getElem_mem hk)
          rw [cond_false, e3, inB_nat hk, cond_true, Int.toNat_natCast, getD_nat _ _ hk, impl_times_ok m1 m2, impl_times_ok q1 q2]
          cases hc : (countM x.met id == countM l[k].met x.1) <;> simp [bne, hc]
        · simp
    have ord : ∀ A B : Option Ret, (bif (decide ((i : Int) > (0 : Int))) then
        bif (inB (IntKind.wrap .i64 ((i : Int) - (1 : Int))) (List.length l)) then
          bif (decide (x.1 ≤ (List.getD l (Int.toNat (IntKind.wrap .i64 ((i : Int) - (1 : Int)))) zQIIIIILIE).1)) then A else B
        else none
      else B) = bif (decide (i = 0) || decide ((l.getD (i - 1) zQIIIIILIE).1 < x.1)) then B else A := fun A B => by
      by_cases h0 : i = 0
      · subst h0; simp
      · rw [decide_eq_true (show (i : Int) > 0 by omega), cond_true, wrap_pred (by omega) h hl, inB_nat (by omega), cond_true, Int.toNat_natCast, decide_eq_false h0, Bool.false_or]
        by_cases hc : (l.getD (i - 1) zQIIIIILIE).1 < x.1
        · rw [decide_eq_false (by omega), decide_eq_true hc]; rfl
        · rw [decide_eq_true (by omega), decide_eq_false hc]; rfl
    simp only [impl_InRange_ok, inner, ord]
    unfold teamP
    cases inR x.1 1 99 <;> simp
    cases (decide (i = 0) || decide ((l[i - 1]?.getD zQIIIIILIE).1 < x.1)) <;> simp
    cases inR x.2.1 1 99 <;> simp
    by_cases h20 : x.met.length ≤ 20
    · rw [decide_eq_false (show ¬ (20 : Int) < (x.met.length : Int) by omega), decide_eq_true h20]
      simp
      cases inR x.2.2.1 0 x.met.length <;> simp
      cases inR x.2.2.2.2.1 0 x.met.length <;> simp
      cases inR x.2.2.2.1 0 100000 <;> simp
    · rw [decide_eq_true (show (20 : Int) < (x.met.length : Int) by omega), decide_eq_false h20]
      simp
def winsM (a : Int) (i : Nat) (x : Team) (s : Int) : Int := bif x.2.1 == a then IntKind.wrap .i64 (s + x.2.2.1) else s
end Go.Pv.R
namespace Go.Pv
set_option linter.unusedVariables false
set_option linter.unusedSimpArgs false
/-- What a loop gathers. -/
def gatherI {α β : Type} (c : Nat → α → Bool) (f : Nat → α → β) : List α → Nat → List β
  | [], _ => []
  | x :: r, i => bif c i x then f i x :: gatherI c f r (i + 1) else gatherI c f r (i + 1)
theorem gatherI_len {α β : Type} {c : Nat → α → Bool} {f : Nat → α → β} : ∀ (l : List α) (i : Nat), (gatherI c f l i).length ≤ l.length
  | [], _ => Nat.le_refl _
  | x :: r, i => by
    simp only [gatherI]
    have := gatherI_len (c := c) (f := f) r (i + 1)
    cases c i x <;> simp <;> omega
theorem goL1_gather {α β : Type} {body : Nat → α → List β → (List β → Option Ret) → Option Ret} {kend : List β → Option Ret} {c : Nat → α → Bool} {f : Nat → α → β} {l : List α}
    (hb : ∀ (i : Nat) (x : α) (s : List β) (next : List β → Option Ret) (h : i < l.length), l[i] = x → s.length ≤ i → body i x s next = bif c i x then next (s ++ [f i x]) else next s) :
    ∀ (r : List α) (i : Nat) (s : List β), l.drop i = r → s.length ≤ i → goL1 body kend r i s = kend (s ++ gatherI c f r i)
  | [], i, s, _, _ => by simp [goL1, gatherI]
  | x :: r, i, s, hd, hs => by
    have hlt : i < l.length := by have := congrArg List.length hd; simp at this; omega
    rw [List.drop_eq_getElem_cons hlt] at hd
    injection hd with h1 h2
    simp only [goL1, gatherI]
    rw [hb i x s _ hlt h1 hs]
    cases c i x
    · rw [cond_false, cond_false]
      exact goL1_gather hb r (i + 1) s h2 (by omega)
    · rw [cond_true, cond_true, goL1_gather hb r (i + 1) (s ++ [f i x]) h2 (by simp; omega)]
      simp
theorem findM_any {α : Type} (p : α → Bool) (l : List α) : decide (findM p l ≥ 0) = l.any p := by
  by_cases h : findM p l < 0
  · rw [decide_eq_false (by omega)]
    symm
    rw [List.any_eq_false]
    intro x hx
    obtain ⟨j, hj, rfl⟩ := List.mem_iff_getElem.1 hx
    rw [(findM_neg h).2 j hj]
    simp
  · rw [decide_eq_true (by omega)]
    symm
    rw [List.any_eq_true]
    obtain ⟨k, hk, _, h1, _⟩ := findM_pos h
    exact ⟨l[k], List.getElem_mem hk, h1⟩
end Go.Pv
namespace Go.Pv.R
set_option linter.unusedVariables false
set_option linter.unusedSimpArgs false
abbrev Judge := QIILIE
def hasM (l : List Int) (n : Int) : Bool := l.any fun x => x == n
theorem hasM_iff {l : List Int} {n : Int} : hasM l n = true ↔ n ∈ l := by
  unfold hasM
  rw [List.any_eq_true]
  constructor
  · rintro ⟨x, hx, h⟩
    have : x = n := by simpa using h
    exact this ▸ hx
  · intro h; exact ⟨n, h, by simp⟩
theorem spec_l4Has_ok {N : Nat} {l : List Int} {n : Int} {kf : Bool → Option Ret} (hl : l.length ≤ maxLen) (hN : l.length < N) : spec_l4Has N l n kf = kf (hasM l n) := by
  unfold spec_l4Has
  rw [spec_l4Has_l2_r hl hN, goL_find (p := fun x : Int => x == n) (kf := fun _ => kf true) (fun i x next => rfl)]
  unfold hasM
  rw [← findM_any]
  unfold findM
  cases findI (fun x : Int => x == n) l 0
  · rfl
  · rw [decide_eq_true (by simp)]
theorem slices_Contains_int_ok {N : Nat} {l : List Int} {n : Int} {kf : Bool → Option Ret} (hl : l.length ≤ maxLen) (hN : l.length < N) : slices_Contains_int N l n kf = kf (hasM l n) := by
  unfold slices_Contains_int slices_Index_int
  rw [slices_Index_int_l2_r hl hN, goL_find (p := fun x : Int => n == x) (kf := fun i => kf (decide ((i : Int) ≥ 0))) (fun i x next => rfl)]
  have e : hasM l n = l.any fun x => n == x := by
    unfold hasM
    congr 1
    funext x
    apply Bool.eq_iff_iff.2
    rw [beq_iff_eq, beq_iff_eq]
    exact ⟨fun h => h.symm, fun h => h.symm⟩
  rw [e, ← findM_any]
  unfold findM
  cases findI (fun x : Int => n == x) l 0 <;> rfl
end Go.Pv.R
namespace Go.Pv.R
set_option linter.unusedVariables false
set_option linter.unusedSimpArgs false
theorem impl_TotalWins_ok {N : Nat} {l : List Team} {kf : Int → Option Ret} (hl : l.length ≤ maxLen) (hm : ∀ x ∈ l, x.met.length ≤ maxLen ∧ x.met.length < N) (hN : l.length < N) : impl_TotalWins N l kf = kf (bif areTeamsM l then foldI (fun _ (x : Team) s => IntKind.wrap .i64 (s + x.2.2.1)) l 0 0 else 0) := by
  unfold impl_TotalWins
  rw [impl_AreTeams_ok hl hm hN]
  cases areTeamsM l with
  | false => rfl
  | true =>
    simp only [cond_true, Bool.not_true, cond_false]
    rw [impl_TotalWins_l5_r hl hN, goL1_f (fun _ (x : Team) s => IntKind.wrap .i64 (s + x.2.2.1)) (fun i x s next h e => rfl)]
end Go.Pv.R
namespace Go.Pv.R
set_option linter.unusedVariables false
set_option linter.unusedSimpArgs false
theorem inR_iff {a b c : Int} : inR a b c = true ↔ b ≤ a ∧ a ≤ c := by unfold inR; simp
end Go.Pv.R
namespace Go.Pv
set_option linter.unusedVariables false
set_option linter.unusedSimpArgs false
theorem goL_same {α : Type} [DecidableEq α] {xs ys : List α} {body : Nat → α → Option Ret → Option Ret} {kt kf : Option Ret} (hlen : xs.length = ys.length)
    (hb : ∀ (i : Nat) (x : α) (next : Option Ret) (h : i < xs.length) (h' : i < ys.length), xs[i] = x → body i x next = bif decide (x = ys[i]) then next else kf) : goL body kt xs 0 = bif decide (xs = ys) then kt else kf := by
  have key : ∀ (r : List α) (i : Nat), xs.drop i = r → xs.take i = ys.take i → goL body kt r i = bif decide (xs = ys) then kt else kf := by
    intro r
    induction r with
    | nil =>
      intro i hd he
      have : xs.length ≤ i := by have := congrArg List.length hd; simp at this; omega
      rw [List.take_of_length_le this, List.take_of_length_le (by omega)] at he
      rw [decide_eq_true he]; rfl
    | cons x r ih =>
      intro i hd he
      have hlt : i < xs.length := by have := congrArg List.length hd; simp at this; omega
      rw [List.drop_eq_getElem_cons hlt] at hd
      injection hd with h1 h2
      simp only [goL]
      rw [hb i x _ hlt (by omega) h1]
      by_cases hx : x = ys[i]
      · rw [decide_eq_true hx, cond_true, ih (i + 1) h2 (by rw [List.take_succ_eq_append_getElem hlt, List.take_succ_eq_append_getElem (by omega), he, h1, hx])]
      · rw [decide_eq_false hx, cond_false]
        have : ¬ xs = ys := fun e => hx (by rw [← h1]; simp only [e])
        rw [decide_eq_false this]; rfl
  exact key xs 0 rfl rfl
theorem lens {α β : Type} {xs : List α} {ys : List β} {A B : Option Ret} {p : Bool} {kf : Bool → Option Ret} (h : xs.length = ys.length → B = kf p) (h' : xs.length ≠ ys.length → p = false) : (bif ((List.length xs : Int) != (List.length ys : Int)) then kf false else B) = kf p := by
  by_cases hl : xs.length = ys.length
  · have : ((xs.length : Int) != (ys.length : Int)) = false := by rw [hl]; exact bne_self_eq_false _
    rw [this, cond_false, h hl]
  · have : ((xs.length : Int) != (ys.length : Int)) = true := by rw [bne_iff_ne]; omega
    rw [this, cond_true, h' hl]
end Go.Pv
namespace Go.Pv.R
set_option linter.unusedVariables false
set_option linter.unusedSimpArgs false
theorem spec_EqualInts_ok {N : Nat} {a b : List Int} {kf : Bool → Option Ret} (hl : a.length ≤ maxLen) (hN : a.length < N) : spec_EqualInts N a b kf = kf (decide (a = b)) := by
  unfold spec_EqualInts
  refine lens (A := kf true) (fun h => ?_) (fun h => decide_eq_false fun e => h (by rw [e]))
  rw [spec_EqualInts_l4_r hl hN, goL_same h (kf := kf false) (fun i x next hi hi' e => ?_)]
  · cases decide (a = b) <;> rfl
  · rw [inB_nat hi', cond_true, Int.toNat_natCast, getD_nat _ _ hi']
    by_cases hx : x = b[i]
    · simp [hx]
    · have : (x != b[i]) = true := by simpa using hx
      rw [this, decide_eq_false hx]; rfl
theorem slices_Equal_int_ok {N : Nat} {a b : List Int} {kf : Bool → Option Ret} (hl : a.length ≤ maxLen) (hN : a.length < N) : slices_Equal_int N a b kf = kf (decide (a = b)) := by
  unfold slices_Equal_int
  refine lens (A := kf true) (fun h => ?_) (fun h => decide_eq_false fun e => h (by rw [e]))
  rw [slices_Equal_int_l4_r hl hN, goL_same h (kf := kf false) (fun i x next hi hi' e => ?_)]
  · cases decide (a = b) <;> rfl
  · rw [inB_nat hi', cond_true, Int.toNat_natCast, getD_nat _ _ hi']
    by_cases hx : x = b[i]
    · simp [hx]
    · have : (x != b[i]) = true := by simpa using hx
      rw [this, decide_eq_false hx]; rfl
end Go.Pv.R
namespace Go.Pv.R
set_option linter.unusedVariables false
set_option linter.unusedSimpArgs false
end Go.Pv.R
namespace Go.Pv.R
set_option linter.unusedVariables false
set_option linter.unusedSimpArgs false
theorem gatherI_all {α : Type} : ∀ (l : List α) (i : Nat), gatherI (fun _ _ => true) (fun _ x => x) l i = l
  | [], _ => rfl
  | x :: r, i => by simp only [gatherI, cond_true]; rw [gatherI_all r (i + 1)]
theorem goL1_copy {α : Type} {body : Nat → α → List α → (List α → Option Ret) → Option Ret} {kend : List α → Option Ret} {l : List α}
    (hb : ∀ (i : Nat) (x : α) (s : List α) (next : List α → Option Ret) (h : i < l.length), l[i] = x → s.length ≤ i → body i x s next = next (s ++ [x])) : goL1 body kend l 0 [] = kend l := by
  rw [goL1_gather (l := l) (c := fun _ _ => true) (f := fun _ x => x) (fun i x s next h e hs => by rw [hb i x s next h e hs]; rfl) l 0 [] rfl (by simp), gatherI_all, List.nil_append]
theorem spec_l19Copy_ok {N : Nat} {l : List Team} {kf : List Team → Option Ret} (hl : l.length ≤ 1048700) (hm : ∀ x : Team, x ∈ l → x.met.length ≤ 1048700) (hN : l.length < N) : spec_l19Copy N l kf = kf l := by
  have h0 := maxLen_eq
  unfold spec_l19Copy
  rw [spec_l19Copy_l3_r (by omega) hN]
  refine goL1_copy (l := l) fun i x s next h e hs => ?_
  have hx : x ∈ l := by rw [← e]; exact List.getElem_mem h
  have hxm : x.2.2.2.2.2.length ≤ 1048700 := hm x hx
  rw [decide_eq_true (by simp only [List.length_nil]; omega), decide_eq_true (by simp only [List.length_cons, List.length_nil]; omega)]
  rfl
abbrev Line := QIIIIE
def lastM (l : List Line) : Int := (l.getLast?.map fun x => x.2.2.2).getD 0
theorem lastM_eq {l : List Line} (h0 : l ≠ []) : lastM l = (List.getD l (l.length - 1) zQIIIIE).2.2.2 := by
  unfold lastM
  rw [List.getLast?_eq_getElem?]
  have h1 : l.length - 1 < l.length := by
    cases l with
    | nil => exact absurd rfl h0
    | cons x r => simp
  rw [List.getD_eq_getElem?_getD, List.getElem?_eq_getElem h1]
  rfl
theorem last_any {l : List Line} {kf : Int → Option Ret} (hl : l.length ≤ maxLen) : (bif ((List.length l : Int) == (0 : Int)) then kf (0 : Int) else
    bif (inB (IntKind.wrap .i64 ((List.length l : Int) - (1 : Int))) (List.length l)) then kf (List.getD l (Int.toNat (IntKind.wrap .i64 ((List.length l : Int) - (1 : Int)))) zQIIIIE).2.2.2 else none) = kf (lastM l) := by
  have hm := maxLen_eq
  cases l with
  | nil => rfl
  | cons x r =>
    have e1 : ((List.length (x :: r) : Int) == (0 : Int)) = false := by simp only [List.length_cons]; exact beq_eq_false_iff_ne.2 (by omega)
    rw [wrap64 (n := (List.length (x :: r) : Int) - 1) (by omega) (by omega)]
    have e2 : (List.length (x :: r) : Int) - 1 = ((List.length (x :: r) - 1 : Nat) : Int) := by simp only [List.length_cons]; omega
    rw [e1, e2, inB_nat (by simp), lastM_eq (by simp)]
    simp only [cond_true, cond_false, Int.toNat_natCast]
theorem spec_LastSeal_ok {N : Nat} {l : List Line} {kf : Int → Option Ret} (hl : l.length ≤ maxLen) : spec_LastSeal N l kf = kf (lastM l) := last_any hl
def lineM (l : List Line) (what who : Int) : Line := ((l.length : Int) + 1, (what, (who, sealM (lastM l) ((l.length : Int) + 1, (what, (who, 0))))))
def wroteM (l : List Line) (what who : Int) : Bool := areMinM (l ++ [lineM l what who])
def writeM (l : List Line) (what who : Int) : List Line := bif wroteM l what who then l ++ [lineM l what who] else l
theorem writeM_len (l : List Line) (what who : Int) : (writeM l what who).length ≤ l.length + 1 := by
  unfold writeM
  cases wroteM l what who <;> simp
theorem spec_WriteLine_ok {N : Nat} {l : List Line} {what who : Int} {kf : List Line → Bool → Option Ret} (hl : l.length ≤ 1048576) (hN : l.length + 1 < N) (h4 : 4 < N) : spec_WriteLine N l what who kf = kf (writeM l what who) (wroteM l what who) := by
  have hm := maxLen_eq
  unfold spec_WriteLine
  rw [spec_LastSeal_ok (by omega), spec_l27Seal_ok h4, wrap64 (n := (List.length l : Int) + 1) (by omega) (by omega), decide_eq_true (by simp only [List.length_nil]; omega)]
  simp only [List.nil_append, cond_true]
  rw [decide_eq_true (by simp only [List.length_cons, List.length_nil]; omega), cond_true, spec_AreMinutes_ok (by simp only [List.length_append, List.length_cons, List.length_nil]; omega) (by simp only [List.length_append, List.length_cons, List.length_nil]; omega) h4]
  show (bif (!wroteM l what who) then kf l false else kf (l ++ [lineM l what who]) true) = _
  unfold writeM
  cases wroteM l what who <;> rfl
end Go.Pv.R
namespace Go.Pv
set_option linter.unusedVariables false
set_option linter.unusedSimpArgs false
abbrev Asc (l : List Int) : Prop := l.Pairwise (· < ·)
theorem asc_ext : ∀ {a b : List Int}, Asc a → Asc b → (∀ x, x ∈ a ↔ x ∈ b) → a = b
  | [], [], _, _, _ => rfl
  | [], y :: b, _, _, h => by have := (h y).2 (by simp); simp at this
  | x :: a, [], _, _, h => by have := (h x).1 (by simp); simp at this
  | x :: a, y :: b, ha, hb, h => by
    rw [Asc, List.pairwise_cons] at ha hb
    have hxy : x = y := by
      have h1 := (h x).1 (by simp)
      have h2 := (h y).2 (by simp)
      rcases List.mem_cons.1 h1 with h1 | h1
      · exact h1
      · rcases List.mem_cons.1 h2 with h2 | h2
        · exact h2.symm
        · have := hb.1 x h1
          have := ha.1 y h2
          omega
    subst hxy
    congr 1
    refine asc_ext ha.2 hb.2 fun z => ?_
    constructor
    · intro hz
      rcases List.mem_cons.1 ((h z).1 (by simp [hz])) with e | e
      · subst e; have := ha.1 z hz; omega
      · exact e
    · intro hz
      rcases List.mem_cons.1 ((h z).2 (by simp [hz])) with e | e
      · subst e; have := hb.1 z hz; omega
      · exact e
theorem sortL_mem (l : List Int) (x : Int) : x ∈ sortL l ↔ x ∈ l := List.mem_mergeSort
theorem sortL_le (l : List Int) : (sortL l).Pairwise (· ≤ ·) := by
  have := List.pairwise_mergeSort (le := fun x y : Int => decide (x ≤ y)) (fun a b c => by simp only [decide_eq_true_eq]; omega) (fun a b => by simp only [Bool.or_eq_true, decide_eq_true_eq]; omega) l
  exact this.imp fun {a b} h => by simpa using h
theorem compactFrom_spec : ∀ (r : List Int) (x : Int), (x :: r).Pairwise (· ≤ ·) → Asc (x :: compactFrom x r) ∧ ∀ z, z ∈ x :: compactFrom x r ↔ z ∈ x :: r
  | [], x, _ => by simp [compactFrom, Asc]
  | y :: r, x, h => by
    rw [List.pairwise_cons] at h
    simp only [compactFrom]
    by_cases e : y = x
    · subst e
      simp only [beq_self_eq_true, cond_true]
      obtain ⟨h1, h2⟩ := compactFrom_spec r y h.2
      refine ⟨h1, fun z => (h2 z).trans ?_⟩
      simp
    · rw [beq_eq_false_iff_ne.2 e, cond_false]
      obtain ⟨h1, h2⟩ := compactFrom_spec r y h.2
      have hlt : x < y := by have := h.1 y (by simp); omega
      refine ⟨?_, fun z => ?_⟩
      · rw [Asc, List.pairwise_cons]
        refine ⟨fun z hz => ?_, h1⟩
        have h3 : Asc (y :: compactFrom y r) := h1
        rw [Asc, List.pairwise_cons] at h3
        rcases List.mem_cons.1 hz with e2 | e2
        · omega
        · have := h3.1 z e2; omega
      · rw [List.mem_cons, h2 z]
        simp only [List.mem_cons]
theorem compactL_spec (l : List Int) (h : l.Pairwise (· ≤ ·)) : Asc (compactL l) ∧ ∀ z, z ∈ compactL l ↔ z ∈ l := by
  cases l with
  | nil => simp [compactL, Asc]
  | cons x r => exact compactFrom_spec r x h
end Go.Pv
namespace Go.Pv.R
set_option linter.unusedVariables false
set_option linter.unusedSimpArgs false
theorem slices_Sort_int_ok {N : Nat} {l : List Int} {kf : List Int → Option Ret} (hl : l.length ≤ 1048576) : slices_Sort_int N l kf = kf (sortL l) := by
  unfold slices_Sort_int
  have : Nat.blt (List.length l) 4611686018427387904 = true := Nat.ble_eq_true_of_le (by omega)
  rw [this]
  rfl
theorem slices_Compact_int_ok {N : Nat} {l : List Int} {kf : List Int → Option Ret} : slices_Compact_int N l kf = kf (compactL l) := rfl
end Go.Pv.R
namespace Go.Pv.R
set_option linter.unusedVariables false
set_option linter.unusedSimpArgs false
end Go.Pv.R
namespace Go.Pv.R
set_option linter.unusedVariables false
set_option linter.unusedSimpArgs false
end Go.Pv.R
namespace Go.Pv.R
set_option linter.unusedVariables false
set_option linter.unusedSimpArgs false
theorem mono_any {α : Type} {l : List α} {z : α} {g : α → Int} (h : ∀ (i : Nat) (hi : i < l.length), 0 < i → g (l.getD (i - 1) z) < g l[i]) : ∀ (j i : Nat) (hi : i < l.length), j < i → g (l.getD j z) < g l[i] := by
  intro j i
  induction i with
  | zero => intro _ hj; omega
  | succ i ih =>
    intro hi hj
    have h1 := h (i + 1) hi (by omega)
    rw [Nat.add_sub_cancel] at h1
    by_cases e : j = i
    · subst e; exact h1
    · have h2 := ih (by omega) (by omega)
      rw [getD_nat _ _ (by omega)] at h1
      omega
end Go.Pv.R
namespace Go.Pv.R
set_option linter.unusedVariables false
set_option linter.unusedSimpArgs false
end Go.Pv.R
namespace Go.Pv.R
set_option linter.unusedVariables false
set_option linter.unusedSimpArgs false
end Go.Pv.R
namespace Go.Pv.R
set_option linter.unusedVariables false
set_option linter.unusedSimpArgs false
end Go.Pv.R
namespace Go.Pv.R
set_option linter.unusedVariables false
set_option linter.unusedSimpArgs false
end Go.Pv.R
namespace Go.Pv.R
set_option linter.unusedVariables false
set_option linter.unusedSimpArgs false
abbrev Graph := QILLIE
theorem goL_allH {α : Type} {body : Nat → α → Option Ret → Option Ret} {kend kf : Option Ret} {p : Nat → α → Bool} {l : List α} (hb : ∀ (i : Nat) (x : α) (next : Option Ret) (h : i < l.length), l[i] = x → (∀ (j : Nat) (hj : j < l.length), j < i → p j l[j] = true) → body i x next = bif p i x then next else kf) :
    ∀ (r : List α) (i : Nat), l.drop i = r → (∀ (j : Nat) (hj : j < l.length), j < i → p j l[j] = true) → goL body kend r i = bif allI p r i then kend else kf
  | [], _, _, _ => rfl
  | x :: r, i, hd, hh => by
    have hlt : i < l.length := by have := congrArg List.length hd; simp at this; omega
    rw [List.drop_eq_getElem_cons hlt] at hd
    injection hd with h1 h2
    simp only [goL, allI]
    rw [hb i x _ hlt h1 hh]
    cases hp : p i x with
    | false => simp
    | true =>
      simp only [cond_true, Bool.true_and]
      refine goL_allH hb r (i + 1) h2 fun j hj hji => ?_
      by_cases e : j = i
      · subst e; rw [h1]; exact hp
      · exact hh j hj (by omega)
def ltP (a b : List Int) : Bool := decide (a.getD 0 0 < b.getD 0 0) || (decide (a.getD 0 0 = b.getD 0 0) && decide (a.getD 1 0 < b.getD 1 0))
def graphP (g : Graph) (i : Nat) (x : List Int) : Bool := decide (x.length = 2) && (inR (x.getD 0 0) 0 (IntKind.wrap .i64 (g.1 - 1)) && (inR (x.getD 1 0) 0 (IntKind.wrap .i64 (g.1 - 1)) && (decide (i = 0) || ltP (g.2.getD (i - 1) []) x)))
def isGraphM (g : Graph) : Bool := inR g.1 0 10 && allI (graphP g) g.2 0
theorem graphP_len {g : Graph} {i : Nat} {x : List Int} (h : graphP g i x = true) : x.length = 2 := by
  unfold graphP at h
  simp only [Bool.and_eq_true, decide_eq_true_eq] at h
  exact h.1
theorem two_of {x : List Int} (h : x.length = 2) : ∃ p q, x = [p, q] := by
  match x, h with
  | [p, q], _ => exact ⟨p, q, rfl⟩
theorem cmp_Compare_int_ok {N : Nat} {a b : Int} {kf : Int → Option Ret} : cmp_Compare_int N a b kf = kf (bif decide (a < b) then -1 else bif decide (a > b) then 1 else 0) := by
  unfold cmp_Compare_int cmp_isNaN_int
  simp only [bne_self_eq_false, cond_false]
  cases decide (a < b) <;> cases decide (a > b) <;> rfl
theorem slices_Compare_int_ok {N : Nat} {p q r s : Int} {kf : Int → Option Ret} (hN : 2 < N) (A B : Option Ret) (hk : ∀ n : Int, kf n = bif decide (n ≥ 0) then A else B) :
    slices_Compare_int N [p, q] [r, s] kf = bif ltP [p, q] [r, s] then B else A := by
  unfold slices_Compare_int
  rw [slices_Compare_int_l2_r (by simp [maxLen_eq]) (by simp; omega)]
  simp only [goL, cmp_Compare_int_ok]
  have e1 : inB ((0 : Nat) : Int) (List.length [r, s]) = true := rfl
  have e2 : inB ((0 + 1 : Nat) : Int) (List.length [r, s]) = true := rfl
  have e3 : decide (((0 : Nat) : Int) ≥ (List.length [r, s] : Int)) = false := rfl
  have e4 : decide (((0 + 1 : Nat) : Int) ≥ (List.length [r, s] : Int)) = false := rfl
  have e5 : decide ((List.length [p, q] : Int) < (List.length [r, s] : Int)) = false := rfl
  rw [e1, e2, e3, e4, e5]
  simp only [cond_true, cond_false]
  have g1 : List.getD [r, s] (Int.toNat ((0 : Nat) : Int)) 0 = r := rfl
  have g2 : List.getD [r, s] (Int.toNat ((0 + 1 : Nat) : Int)) 0 = s := rfl
  rw [g1, g2]
  have l1 : ltP [p, q] [r, s] = (decide (p < r) || (decide (p = r) && decide (q < s))) := rfl
  rw [l1]
  rcases Int.lt_trichotomy p r with h1 | h1 | h1
  · rw [decide_eq_true h1, cond_true, Bool.true_or, cond_true]
    show (bif true then kf (-1) else _) = _
    rw [cond_true, hk]
    rfl
  · subst h1
    rw [decide_eq_false (Int.lt_irrefl p), cond_false, cond_false, decide_eq_true (show p = p from rfl), Bool.false_or, Bool.true_and]
    show (bif false then _ else _) = _
    rw [cond_false]
    rcases Int.lt_trichotomy q s with h2 | h2 | h2
    · rw [decide_eq_true h2, cond_true, cond_true]
      show (bif true then kf (-1) else _) = _
      rw [cond_true, hk]
      rfl
    · subst h2
      rw [decide_eq_false (Int.lt_irrefl q), cond_false, cond_false, cond_false]
      show (bif false then _ else kf 0) = _
      rw [cond_false, hk]
      rfl
    · rw [decide_eq_false (show ¬ q < s by omega), decide_eq_true (show q > s from h2), cond_false, cond_true, cond_false]
      show (bif true then kf 1 else _) = _
      rw [cond_true, hk]
      rfl
  · rw [decide_eq_false (show ¬ p < r by omega), decide_eq_true (show p > r from h1), cond_false, cond_true, decide_eq_false (show ¬ p = r by omega), Bool.false_or, Bool.false_and, cond_false]
    show (bif true then kf 1 else _) = _
    rw [cond_true, hk]
    rfl
theorem len_ne2 {x : List Int} : ((List.length x : Int) != (2 : Int)) = !decide (x.length = 2) := by
  apply Bool.eq_iff_iff.2
  simp
  omega
theorem spec_IsGraph_ok {N : Nat} {g : Graph} {kf : Bool → Option Ret} (hl : g.2.length ≤ 1048576) (hN : g.2.length < N) : spec_IsGraph N g kf = kf (isGraphM g) := by
  have h0 := maxLen_eq
  unfold spec_IsGraph
  rw [spec_IsGraph_l2_r (by omega) hN, goL_allH (l := g.2) (p := graphP g) (kf := kf false) (fun i x next hi e hh => ?_) g.2 0 rfl (fun j hj h => by omega)]
  · rw [spec_l1In_ok]
    unfold isGraphM
    cases allI (graphP g) g.2 0 <;> simp
  · rw [len_ne2]
    unfold graphP
    by_cases h2 : x.length = 2
    rotate_left
    · rw [decide_eq_false h2]; rfl
    obtain ⟨p, q, rfl⟩ := two_of h2
    rw [decide_eq_true h2]
    simp only [Bool.not_true, cond_false, Bool.true_and, spec_l1In_ok]
    have b0 : inB (0 : Int) (List.length [p, q]) = true := rfl
    have b1 : inB (1 : Int) (List.length [p, q]) = true := rfl
    have v0 : List.getD [p, q] (Int.toNat (0 : Int)) (0 : Int) = p := rfl
    have v1 : List.getD [p, q] (Int.toNat (1 : Int)) (0 : Int) = q := rfl
    have w0 : List.getD [p, q] 0 (0 : Int) = p := rfl
    have w1 : List.getD [p, q] 1 (0 : Int) = q := rfl
    simp only [b0, b1, v0, v1, w0, w1, cond_true]
    cases inR p 0 (IntKind.wrap .i64 (g.1 - 1)) with
    | false => rfl
    | true =>
      simp only [Bool.not_true, cond_false, Bool.true_and]
      cases inR q 0 (IntKind.wrap .i64 (g.1 - 1)) with
      | false => rfl
      | true =>
        simp only [Bool.not_true, cond_false, Bool.true_and]
        by_cases hi0 : i = 0
        · subst hi0; rfl
        · rw [decide_eq_false hi0, Bool.false_or, decide_eq_true (show (i : Int) > 0 by omega), cond_true, wrap_pred (by omega) hi (by omega), inB_nat (by omega), cond_true, Int.toNat_natCast, getD_nat _ _ (show i - 1 < g.2.length by omega)]
          have hp := graphP_len (hh (i - 1) (by omega) (by omega))
          obtain ⟨r, s, hrs⟩ := two_of hp
          rw [hrs]
          have c0 : inB (0 : Int) (List.length [r, s]) = true := rfl
          have c1 : inB (1 : Int) (List.length [r, s]) = true := rfl
          have u0 : List.getD [r, s] (Int.toNat (0 : Int)) (0 : Int) = r := rfl
          have u1 : List.getD [r, s] (Int.toNat (1 : Int)) (0 : Int) = s := rfl
          simp only [c0, c1, u0, u1, cond_true]
          have l1 : ltP [r, s] [p, q] = (decide (r < p) || (decide (r = p) && decide (s < q))) := rfl
          rw [l1]
          rcases Int.lt_trichotomy r p with h1 | h1 | h1
          · rw [decide_eq_false (show ¬ r > p by omega), cond_false, beq_eq_false_iff_ne.2 (show r ≠ p by omega), cond_false, decide_eq_true h1]
            rfl
          · subst h1
            rw [decide_eq_false (show ¬ r > r from Int.lt_irrefl r), cond_false, beq_self_eq_true, cond_true, decide_eq_true (show r = r from rfl), Bool.false_or, Bool.true_and]
            by_cases h3 : s < q
            · rw [decide_eq_true h3, decide_eq_false (show ¬ s ≥ q by omega)]; rfl
            · rw [decide_eq_false h3, decide_eq_true (show s ≥ q by omega)]; rfl
          · rw [decide_eq_true (show r > p from h1), cond_true, decide_eq_false (show ¬ r < p by omega), decide_eq_false (show ¬ r = p by omega)]
            rfl
theorem impl_IsGraph_ok {N : Nat} {g : Graph} {kf : Bool → Option Ret} (hl : g.2.length ≤ 1048576) (hN : g.2.length + 2 < N) : impl_IsGraph N g kf = kf (isGraphM g) := by
  have h0 := maxLen_eq
  unfold impl_IsGraph
  rw [impl_InRange_ok]
  unfold isGraphM
  cases inR g.1 0 10 with
  | false => rfl
  | true =>
    simp only [Bool.not_true, cond_false, Bool.true_and]
    rw [impl_IsGraph_l4_r (by omega) (by omega), goL_allH (l := g.2) (p := graphP g) (kf := kf false) (fun i x next hi e hh => ?_) g.2 0 rfl (fun j hj h => by omega)]
    · cases allI (graphP g) g.2 0 <;> rfl
    · rw [len_ne2]
      unfold graphP
      by_cases h2 : x.length = 2
      rotate_left
      · rw [decide_eq_false h2]; rfl
      obtain ⟨p, q, rfl⟩ := two_of h2
      rw [decide_eq_true h2]
      simp only [Bool.not_true, cond_false, Bool.true_and, impl_isClaim, impl_InRange_ok]
      have b0 : inB (0 : Int) (List.length [p, q]) = true := rfl
      have b1 : inB (1 : Int) (List.length [p, q]) = true := rfl
      have v0 : List.getD [p, q] (Int.toNat (0 : Int)) (0 : Int) = p := rfl
      have v1 : List.getD [p, q] (Int.toNat (1 : Int)) (0 : Int) = q := rfl
      have w0 : List.getD [p, q] 0 (0 : Int) = p := rfl
      have w1 : List.getD [p, q] 1 (0 : Int) = q := rfl
      simp only [b0, b1, v0, v1, w0, w1, cond_true]
      cases inR p 0 (IntKind.wrap .i64 (g.1 - 1)) with
      | false => rfl
      | true =>
        simp only [Bool.not_true, cond_false, Bool.true_and]
        cases inR q 0 (IntKind.wrap .i64 (g.1 - 1)) with
        | false => rfl
        | true =>
          simp only [Bool.not_true, cond_false, Bool.true_and]
          by_cases hi0 : i = 0
          · subst hi0; rfl
          · rw [decide_eq_false hi0, Bool.false_or, decide_eq_true (show (i : Int) > 0 by omega), cond_true, wrap_pred (by omega) hi (by omega), inB_nat (by omega), cond_true, Int.toNat_natCast, getD_nat _ _ (show i - 1 < g.2.length by omega)]
            have hp := graphP_len (hh (i - 1) (by omega) (by omega))
            obtain ⟨r, s, hrs⟩ := two_of hp
            rw [hrs]
            exact slices_Compare_int_ok (by omega) (kf false) next (fun n => rfl)
end Go.Pv.R
namespace Go.Pv.R
set_option linter.unusedVariables false
set_option linter.unusedSimpArgs false
end Go.Pv.R
namespace Go.Pv.R
set_option linter.unusedVariables false
set_option linter.unusedSimpArgs false
end Go.Pv.R
namespace Go.Pv.R
set_option linter.unusedVariables false
set_option linter.unusedSimpArgs false
end Go.Pv.R
namespace Go.Pv.R
set_option linter.unusedVariables false
set_option linter.unusedSimpArgs false
end Go.Pv.R
namespace Go.Pv.R
set_option linter.unusedVariables false
set_option linter.unusedSimpArgs false
def teamM (t : List Team) (id : Int) : Team := t.getD (findT t id).toNat zQIIIIILIE
theorem teamM_in {t : List Team} {a : Int} (ha : findT t a ≥ 0) : teamM t a ∈ t ∧ (teamM t a).1 = a := by
  obtain ⟨k, hk, e, h1, _⟩ := findM_pos (p := fun x : Team => x.1 == a) (l := t) (by unfold findT at ha; omega)
  have e : findT t a = (k : Int) := e
  unfold teamM
  rw [e, Int.toNat_natCast, getD_nat _ _ hk]
  exact ⟨List.getElem_mem hk, by simpa using h1⟩
end Go.Pv.R
namespace Go.Pv.R
set_option linter.unusedVariables false
set_option linter.unusedSimpArgs false
end Go.Pv.R
namespace Go.Pv.R
set_option linter.unusedVariables false
set_option linter.unusedSimpArgs false
theorem nodup_le : ∀ (r L : List Int), r.Nodup → (∀ x ∈ r, x ∈ L) → r.length ≤ L.length
  | [], L, _, _ => by simp
  | x :: r, L, hn, h => by
    rw [List.nodup_cons] at hn
    have hx := h x (by simp)
    have h1 := List.length_erase_of_mem hx
    have h2 := List.length_pos_of_mem hx
    have := nodup_le r (L.erase x) hn.2 fun y hy => by
      have hne : y ≠ x := fun e => hn.1 (e ▸ hy)
      exact (List.mem_erase_of_ne hne).2 (h y (by simp [hy]))
    simp only [List.length_cons]
    omega
end Go.Pv.R
namespace Go.Pv.R
set_option linter.unusedVariables false
set_option linter.unusedSimpArgs false
def two {α : Type} (t : List α) (i j : Nat) (x y : α) : List α := (t.set i x).set j y
section
variable {α : Type} {t : List α} {i j : Nat} {x y x' y' z : α}
theorem two_len : (two t i j x y).length = t.length := by simp [two]
theorem two_getI (h : i ≠ j) (hi : i < t.length) : (two t i j x y).getD i z = x := by
  rw [List.getD_eq_getElem?_getD, two, List.getElem?_set_ne (by omega), List.getElem?_set_self hi]; rfl
theorem two_getJ (hj : j < t.length) : (two t i j x y).getD j z = y := by
  rw [List.getD_eq_getElem?_getD, two, List.getElem?_set_self (by simpa using hj)]; rfl
theorem two_setI (h : i ≠ j) : (two t i j x y).set i x' = two t i j x' y := by
  unfold two
  rw [List.set_comm _ _ (fun e => h e.symm), List.set_set]
theorem two_setJ : (two t i j x y).set j y' = two t i j x y' := by
  unfold two
  rw [List.set_set]
theorem one_getJ (h : i ≠ j) : (t.set i x).getD j z = t.getD j z := by
  rw [List.getD_eq_getElem?_getD, List.getElem?_set_ne (by omega), ← List.getD_eq_getElem?_getD]
theorem one_two : (t.set i x).set j y = two t i j x y := by rw [two]
end
def newI (t : List Team) (i : Nat) (b d p : Int) : Team := ((t.getD i zQIIIIILIE).1, ((t.getD i zQIIIIILIE).2.1, ((bif d == 1 then IntKind.wrap .i64 ((t.getD i zQIIIIILIE).2.2.1 + 1) else (t.getD i zQIIIIILIE).2.2.1), (IntKind.wrap .i64 ((t.getD i zQIIIIILIE).2.2.2.1 + p), (IntKind.wrap .i64 ((t.getD i zQIIIIILIE).2.2.2.2.1 + 1), (t.getD i zQIIIIILIE).2.2.2.2.2 ++ [b])))))
def newJ2 (t : List Team) (j : Nat) (a d q : Int) : Team := ((t.getD j zQIIIIILIE).1, ((t.getD j zQIIIIILIE).2.1, ((bif d == 1 then (t.getD j zQIIIIILIE).2.2.1 else IntKind.wrap .i64 ((t.getD j zQIIIIILIE).2.2.1 + 1)), (IntKind.wrap .i64 ((t.getD j zQIIIIILIE).2.2.2.1 + q), ((t.getD j zQIIIIILIE).2.2.2.2.1, (t.getD j zQIIIIILIE).2.2.2.2.2 ++ [a])))))
def addT (t : List Team) (a b d p q : Int) : List Team := two t (findT t a).toNat (findT t b).toNat (newI t (findT t a).toNat b d p) (newJ2 t (findT t b).toNat a d q)
def mayAdd (t : List Team) (a b d p q : Int) : Bool := areTeamsM t && (decide (findT t a ≥ 0) && (decide (findT t b ≥ 0) && ((findT t a != findT t b) && (inR d 1 2 && (inR p 0 1000 && inR q 0 1000)))))
def addB2 (t : List Team) (a b d p q : Int) : Bool := mayAdd t a b d p q && areTeamsM (addT t a b d p q)
def addL (t : List Team) (a b d p q : Int) : List Team := bif addB2 t a b d p q then addT t a b d p q else t
theorem addT_mem {t : List Team} {a b d p q : Int} {N : Nat} (ha : findT t a ≥ 0) (hb : findT t b ≥ 0) (h : ∀ x : Team, x ∈ t → x.met.length + 1 < N) : ∀ x : Team, x ∈ addT t a b d p q → x.met.length < N := by
  intro x hx
  unfold addT two at hx
  rcases List.mem_or_eq_of_mem_set hx with hx | rfl
  · rcases List.mem_or_eq_of_mem_set hx with hx | rfl
    · have := h x hx; omega
    · have := h _ (teamM_in ha).1
      show ((t.getD (findT t a).toNat zQIIIIILIE).2.2.2.2.2 ++ [b]).length < N
      rw [List.length_append]; exact this
  · have := h _ (teamM_in hb).1
    show ((t.getD (findT t b).toNat zQIIIIILIE).2.2.2.2.2 ++ [a]).length < N
    rw [List.length_append]; exact this
theorem spec_AddResult_ok {N : Nat} {t : List Team} {a b d p q : Int} {kf : List Team → Bool → Option Ret} (hl : t.length ≤ 1048700) (hm : ∀ x : Team, x ∈ t → x.met.length ≤ 1048700 ∧ x.met.length + 1 < N) (hN : t.length < N) : spec_AddResult N t a b d p q kf = kf (addL t a b d p q) (addB2 t a b d p q) := by
  have hx := maxLen_eq
  have hm1 : ∀ x ∈ t, x.met.length ≤ maxLen ∧ x.met.length < N := fun x hx => by have := hm x hx; omega
  unfold spec_AddResult addL addB2 mayAdd
  rw [spec_l19Copy_ok hl (fun x hx => (hm x hx).1) hN, spec_FindTeam_ok (by omega) hN, spec_FindTeam_ok (by omega) hN, spec_AreTeams_ok (by omega) hm1 hN]
  simp only [spec_l1In_ok]
  cases areTeamsM t with
  | false => rfl
  | true =>
    by_cases ha : findT t a ≥ 0
    rotate_left
    · rw [decide_eq_true (show findT t a < 0 by omega), decide_eq_false ha]; rfl
    by_cases hb : findT t b ≥ 0
    rotate_left
    · rw [decide_eq_false (show ¬ findT t a < 0 by omega), decide_eq_true ha, decide_eq_true (show findT t b < 0 by omega), decide_eq_false hb]; rfl
    have hT : ∀ x : Team, x ∈ addT t a b d p q → x.met.length < N := addT_mem ha hb fun x hx => (hm x hx).2
    have hT2 : ∀ x : Team, x ∈ addT t a b d p q → x.met.length < 1048800 := addT_mem ha hb fun x hx => by have := (hm x hx).1; omega
    obtain ⟨i, hi, ei, _⟩ := findM_pos (p := fun x : Team => x.1 == a) (l := t) (by unfold findT at ha; omega)
    obtain ⟨j, hj, ej, _⟩ := findM_pos (p := fun x : Team => x.1 == b) (l := t) (by unfold findT at hb; omega)
    have ei : findT t a = (i : Int) := ei
    have ej : findT t b = (j : Int) := ej
    unfold addT at hT hT2 ⊢
    rw [ei, ej] at hT hT2 ⊢
    simp only [Int.toNat_natCast] at hT hT2 ⊢
    rw [decide_eq_true (show (i : Int) ≥ 0 by omega), decide_eq_true (show (j : Int) ≥ 0 by omega), decide_eq_false (show ¬ (i : Int) < 0 by omega), decide_eq_false (show ¬ (j : Int) < 0 by omega)]
    simp only [Bool.not_true, cond_false, Bool.true_and]
    by_cases hij : i = j
    · subst hij; simp
    have e1 : ((i : Int) == (j : Int)) = false := by simpa using fun e => hij (by omega)
    have e2 : ((i : Int) != (j : Int)) = true := by simp only [bne, e1]; rfl
    rw [e1, e2]
    cases inR d 1 2 with
    | false => rfl
    | true =>
    cases inR p 0 1000 with
    | false => rfl
    | true =>
    cases inR q 0 1000 with
    | false => rfl
    | true =>
    have li := (hm _ (List.getElem_mem hi)).1
    have lj := (hm _ (List.getElem_mem hj)).1
    have gi : t.getD i zQIIIIILIE = t[i] := getD_nat _ _ hi _
    have gj : t.getD j zQIIIIILIE = t[j] := getD_nat _ _ hj _
    have b1 : decide ((List.length (t.getD i zQIIIIILIE).2.2.2.2.2 + List.length [b]) * 1 ≤ 4398046511104) = true := by rw [gi]; exact decide_eq_true (by have : t[i].2.2.2.2.2.length ≤ 1048700 := li; simp; omega)
    have b2 : decide ((List.length (t.getD j zQIIIIILIE).2.2.2.2.2 + List.length [a]) * 1 ≤ 4398046511104) = true := by rw [gj]; exact decide_eq_true (by have : t[j].2.2.2.2.2.length ≤ 1048700 := lj; simp; omega)
    simp only [one_getJ hij, List.length_set, inB_nat hi, inB_nat hj, cond_true, cond_false, Bool.not_true, b1, b2, Nat.beq_refl, share, one_two, two_len, two_getI hij hi, two_getJ hj, two_setI hij, two_setJ, Bool.true_and]
    have hW : (two t i j (newI t i b d p) (newJ2 t j a d q)).length = t.length := two_len
    have key : spec_AddResult_j1 N t kf (two t i j (newI t i b d p) (newJ2 t j a d q)) = kf (bif areTeamsM (two t i j (newI t i b d p) (newJ2 t j a d q)) then two t i j (newI t i b d p) (newJ2 t j a d q) else t) (areTeamsM (two t i j (newI t i b d p) (newJ2 t j a d q))) := by
      unfold spec_AddResult_j1
      rw [spec_AreTeams_ok (by omega) (fun x hx => ⟨by have := hT2 x hx; omega, hT x hx⟩) (by omega)]
      cases areTeamsM (two t i j (newI t i b d p) (newJ2 t j a d q)) with
      | false => simp only [Bool.not_false, cond_true, cond_false]; rw [spec_l19Copy_ok hl (fun x hx => (hm x hx).1) hN]
      | true => rfl
    refine Eq.trans ?_ key
    unfold newI newJ2
    cases d == 1 <;> rfl
end Go.Pv.R
namespace Go.Pv
set_option linter.unusedVariables false
end Go.Pv
namespace Go.Pv.R
set_option linter.unusedVariables false
set_option linter.unusedSimpArgs false
theorem addB2_find {t : List Team} {a b d p q : Int} (h : addB2 t a b d p q = true) : findT t a ≥ 0 ∧ findT t b ≥ 0 := by
  unfold addB2 mayAdd at h
  simp only [Bool.and_eq_true, decide_eq_true_eq] at h
  exact ⟨h.1.2.1, h.1.2.2.1⟩
theorem addL_len {t : List Team} {a b d p q : Int} : (addL t a b d p q).length = t.length := by
  unfold addL
  cases addB2 t a b d p q with
  | false => rfl
  | true => exact two_len
theorem addL_mem {t : List Team} {a b d p q : Int} {M : Nat} (h : ∀ x : Team, x ∈ t → x.met.length ≤ M) : ∀ x : Team, x ∈ addL t a b d p q → x.met.length ≤ M + 1 := by
  intro x hx
  unfold addL at hx
  cases hb : addB2 t a b d p q with
  | false => rw [hb, cond_false] at hx; have := h x hx; omega
  | true =>
    rw [hb, cond_true] at hx
    have := addT_mem (N := M + 2) (addB2_find hb).1 (addB2_find hb).2 (fun x hx => by have := h x hx; omega) x hx
    omega
end Go.Pv.R
namespace Go.Pv.R
set_option linter.unusedVariables false
set_option linter.unusedSimpArgs false
end Go.Pv.R
namespace Go.Pv.R
set_option linter.unusedVariables false
set_option linter.unusedSimpArgs false
end Go.Pv.R
namespace Go.Pv.R
set_option linter.unusedVariables false
set_option linter.unusedSimpArgs false
end Go.Pv.R
namespace Go.Pv.R
set_option linter.unusedVariables false
set_option linter.unusedSimpArgs false
end Go.Pv.R
namespace Go.Pv.R
set_option linter.unusedVariables false
set_option linter.unusedSimpArgs false
end Go.Pv.R
namespace Go.Pv.R
set_option linter.unusedVariables false
set_option linter.unusedSimpArgs false
end Go.Pv.R
namespace Go.Pv.R
set_option linter.unusedVariables false
set_option linter.unusedSimpArgs false
end Go.Pv.R
namespace Go.Pv.R
set_option linter.unusedVariables false
set_option linter.unusedSimpArgs false
end Go.Pv.R
namespace Go.Pv.R
set_option linter.unusedVariables false
set_option linter.unusedSimpArgs false
def rangeI (n : Nat) : List Int := (List.range n).map fun k : Nat => (k : Int)
theorem rangeI_len (n : Nat) : (rangeI n).length = n := by simp [rangeI]
theorem rangeI_mem {n : Nat} {x : Int} : x ∈ rangeI n ↔ 0 ≤ x ∧ x < n := by
  unfold rangeI
  rw [List.mem_map]
  constructor
  · rintro ⟨k, hk, rfl⟩
    rw [List.mem_range] at hk
    omega
  · intro h
    exact ⟨x.toNat, by rw [List.mem_range]; omega, by omega⟩
theorem rangeI_asc (n : Nat) : Asc (rangeI n) := by
  unfold rangeI Asc
  rw [List.pairwise_map]
  exact List.pairwise_lt_range.imp fun h => by omega
theorem rangeI_succ (n : Nat) : rangeI (n + 1) = rangeI n ++ [(n : Int)] := by simp [rangeI, List.range_succ]
theorem filter_asc {l : List Int} {p : Int → Bool} (h : Asc l) : Asc (l.filter p) := List.Pairwise.sublist List.filter_sublist h
def attM (g : Graph) (k : Int) : List Int := (g.2.filter fun a => a.getD 1 0 == k).map fun a => a.getD 0 0
def vicM (g : Graph) (k : Int) : List Int := (g.2.filter fun a => a.getD 0 0 == k).map fun a => a.getD 1 0
def hitB (g : Graph) (s : List Int) (k : Int) : Bool := g.2.any fun a => a.getD 1 0 == k && hasM s (a.getD 0 0)
def hitM (g : Graph) (s : List Int) : List Int := (rangeI g.1.toNat).filter (hitB g s)
def defB (g : Graph) (s : List Int) (k : Int) : Bool := (attM g k).all (hasM (hitM g s))
def defM (g : Graph) (s : List Int) : List Int := (rangeI g.1.toNat).filter (defB g s)
def setP (g : Graph) (s : List Int) (i : Nat) (x : Int) : Bool := inR x 0 (IntKind.wrap .i64 (g.1 - 1)) && (decide (i = 0) || decide (s.getD (i - 1) 0 < x))
def isSetM (g : Graph) (s : List Int) : Bool := isGraphM g && allI (setP g s) s 0
theorem hitB_mono {g : Graph} {s t : List Int} (h : ∀ x, x ∈ s → x ∈ t) (k : Int) (hk : hitB g s k = true) : hitB g t k = true := by
  unfold hitB at *
  rw [List.any_eq_true] at *
  obtain ⟨a, ha, hb⟩ := hk
  rw [Bool.and_eq_true, hasM_iff] at hb
  exact ⟨a, ha, by rw [Bool.and_eq_true, hasM_iff]; exact ⟨hb.1, h _ hb.2⟩⟩
theorem defB_mono {g : Graph} {s t : List Int} (h : ∀ x, x ∈ s → x ∈ t) (k : Int) (hk : defB g s k = true) : defB g t k = true := by
  unfold defB at *
  rw [List.all_eq_true] at *
  intro a ha
  have := hk a ha
  rw [hasM_iff] at *
  unfold hitM at *
  rw [List.mem_filter] at *
  exact ⟨this.1, hitB_mono h _ this.2⟩
theorem defM_mono {g : Graph} {s t : List Int} (h : ∀ x, x ∈ s → x ∈ t) (x : Int) (hx : x ∈ defM g s) : x ∈ defM g t := by
  unfold defM at *
  rw [List.mem_filter] at *
  exact ⟨hx.1, defB_mono h _ hx.2⟩
def stepsD (g : Graph) : Nat → List Int
  | 0 => []
  | n + 1 => defM g (stepsD g n)
theorem stepsD_sub (g : Graph) : ∀ (n : Nat) (x : Int), x ∈ stepsD g n → x ∈ stepsD g (n + 1)
  | 0, x, h => by cases h
  | n + 1, x, h => defM_mono (stepsD_sub g n) x h
theorem stepsD_asc (g : Graph) (n : Nat) : Asc (stepsD g n) := by
  cases n with
  | zero => exact List.Pairwise.nil
  | succ n => exact filter_asc (rangeI_asc _)
theorem stepsD_mem (g : Graph) (n : Nat) (x : Int) (h : x ∈ stepsD g n) : 0 ≤ x ∧ x < g.1.toNat := by
  cases n with
  | zero => cases h
  | succ n => exact rangeI_mem.1 (List.mem_filter.1 h).1
theorem asc_nodup {l : List Int} (h : Asc l) : l.Nodup := h.imp fun h => by omega
theorem stepsD_len (g : Graph) (n : Nat) : (stepsD g n).length ≤ g.1.toNat := by
  cases n with
  | zero => exact Nat.zero_le _
  | succ n => exact Nat.le_trans (List.length_filter_le _ _) (by rw [rangeI_len]; exact Nat.le_refl _)
theorem sub_eq {a b : List Int} (ha : Asc a) (hb : Asc b) (h : ∀ x, x ∈ a → x ∈ b) (hl : b.length ≤ a.length) : a = b := by
  refine asc_ext ha hb fun x => ⟨h x, fun hx => ?_⟩
  by_cases hn : x ∈ a
  · exact hn
  · have := nodup_le (x :: a) b (List.nodup_cons.2 ⟨hn, asc_nodup ha⟩) fun y hy => by
      rcases List.mem_cons.1 hy with rfl | hy
      · exact hx
      · exact h y hy
    simp only [List.length_cons] at this
    omega
theorem stepsD_grow {g : Graph} : ∀ (m : Nat), (∀ k, k < m → stepsD g (k + 1) ≠ stepsD g k) → m ≤ (stepsD g m).length
  | 0, _ => Nat.zero_le _
  | m + 1, h => by
    have h1 := stepsD_grow m fun k hk => h k (by omega)
    have h2 := h m (by omega)
    by_cases hl : (stepsD g (m + 1)).length ≤ (stepsD g m).length
    · exact absurd (sub_eq (stepsD_asc g m) (stepsD_asc g (m + 1)) (stepsD_sub g m) hl).symm h2
    · omega
/-- The first round that changes nothing. -/
theorem stepsD_end (g : Graph) : ∃ m, m ≤ g.1.toNat ∧ stepsD g (m + 1) = stepsD g m ∧ ∀ k, k < m → stepsD g (k + 1) ≠ stepsD g k := by
  have key : ∀ (d m : Nat), g.1.toNat < m + d → (∀ k, k < m → stepsD g (k + 1) ≠ stepsD g k) → ∃ m, m ≤ g.1.toNat ∧ stepsD g (m + 1) = stepsD g m ∧ ∀ k, k < m → stepsD g (k + 1) ≠ stepsD g k := by
    intro d
    induction d with
    | zero =>
      intro m hm h
      have h1 := stepsD_grow m h
      have h2 := stepsD_len g m
      omega
    | succ d ih =>
      intro m hm h
      by_cases e : stepsD g (m + 1) = stepsD g m
      · have h1 := stepsD_grow m h
        have h2 := stepsD_len g m
        exact ⟨m, by omega, e, h⟩
      · exact ih (m + 1) (by omega) fun k hk => by
          rcases Nat.lt_or_eq_of_le (Nat.le_of_lt_succ hk) with hk | rfl
          · exact h k hk
          · exact e
  exact key (g.1.toNat + 1) 0 (by omega) fun k hk => by omega
theorem stepsD_set {g : Graph} (hg : isGraphM g = true) (n : Nat) : isSetM g (stepsD g n) = true := by
  have hn : 0 ≤ g.1 ∧ g.1 ≤ 10 := by
    unfold isGraphM at hg
    simp only [Bool.and_eq_true, inR_iff] at hg
    exact hg.1
  unfold isSetM
  rw [hg, Bool.true_and, allI_iff]
  intro i hi
  rw [Nat.zero_add]
  have hm := stepsD_mem g n _ (List.getElem_mem hi)
  unfold setP
  rw [wrap64 (by omega) (by omega)]
  simp only [Bool.and_eq_true, Bool.or_eq_true, decide_eq_true_eq, inR_iff]
  refine ⟨by omega, ?_⟩
  by_cases h0 : i = 0
  · exact .inl h0
  · refine .inr ?_
    rw [getD_nat _ _ (show i - 1 < (stepsD g n).length by omega)]
    exact List.pairwise_iff_getElem.1 (stepsD_asc g n) (i - 1) i (by omega) hi (by omega)
def codeA (x : List Int) : Int := 10 * x.getD 0 0 + x.getD 1 0
theorem graph_n {g : Graph} (hg : isGraphM g = true) : 0 ≤ g.1 ∧ g.1 ≤ 10 := by
  unfold isGraphM at hg
  simp only [Bool.and_eq_true, inR_iff] at hg
  exact hg.1
theorem graph_p {g : Graph} (hg : isGraphM g = true) (i : Nat) (hi : i < g.2.length) : g.2[i].length = 2 ∧ (0 ≤ g.2[i].getD 0 0 ∧ g.2[i].getD 0 0 < g.1) ∧ (0 ≤ g.2[i].getD 1 0 ∧ g.2[i].getD 1 0 < g.1) ∧ (0 < i → ltP (g.2.getD (i - 1) []) g.2[i] = true) := by
  have hn := graph_n hg
  unfold isGraphM at hg
  simp only [Bool.and_eq_true] at hg
  have := (allI_iff.1 hg.2) i hi
  rw [Nat.zero_add] at this
  unfold graphP at this
  rw [wrap64 (by omega) (by omega)] at this
  simp only [Bool.and_eq_true, Bool.or_eq_true, decide_eq_true_eq, inR_iff] at this
  obtain ⟨h1, h2, h3, h4⟩ := this
  exact ⟨h1, by omega, by omega, fun h0 => h4.resolve_left (by omega)⟩
theorem graph_m {g : Graph} (hg : isGraphM g = true) {a : List Int} (ha : a ∈ g.2) : a.length = 2 ∧ (0 ≤ a.getD 0 0 ∧ a.getD 0 0 < g.1) ∧ (0 ≤ a.getD 1 0 ∧ a.getD 1 0 < g.1) := by
  obtain ⟨i, hi, rfl⟩ := List.mem_iff_getElem.1 ha
  have := graph_p hg i hi
  exact ⟨this.1, this.2.1, this.2.2.1⟩
theorem graph_len {g : Graph} (hg : isGraphM g = true) : g.2.length ≤ 100 := by
  have hn := graph_n hg
  have hm := mono_any (l := g.2) (z := []) (g := codeA) fun i hi h0 => by
    have h1 := (graph_p hg i hi).2.2.2 h0
    have h2 := graph_p hg i hi
    have h3 := graph_p hg (i - 1) (by omega)
    rw [getD_nat _ _ (show i - 1 < g.2.length by omega)] at h1 ⊢
    unfold ltP at h1
    simp only [Bool.and_eq_true, Bool.or_eq_true, decide_eq_true_eq] at h1
    unfold codeA
    omega
  have ha : Asc (g.2.map codeA) := List.pairwise_iff_getElem.2 fun j i hj hi hji => by
    rw [List.length_map] at hj hi
    have := hm j i hi hji
    rw [getD_nat _ _ hj] at this
    simpa using this
  have := nodup_le (g.2.map codeA) (rangeI 100) (asc_nodup ha) fun x hx => by
    obtain ⟨a, ha, rfl⟩ := List.mem_map.1 hx
    have := graph_m hg ha
    rw [rangeI_mem]
    unfold codeA
    omega
  rw [List.length_map, rangeI_len] at this
  exact this
theorem gather_const {α β : Type} {p : α → Bool} {f : α → β} : ∀ (l : List α) (i : Nat), gatherI (fun _ x => p x) (fun _ x => f x) l i = (l.filter p).map f
  | [], _ => rfl
  | x :: r, i => by
    simp only [gatherI, List.filter_cons]
    cases p x <;> simp [gather_const r]
theorem attM_len (g : Graph) (k : Int) : (attM g k).length ≤ g.2.length := by
  unfold attM
  rw [List.length_map]
  exact List.length_filter_le _ _
theorem vicM_len (g : Graph) (k : Int) : (vicM g k).length ≤ g.2.length := by
  unfold vicM
  rw [List.length_map]
  exact List.length_filter_le _ _
theorem hitM_len (g : Graph) (s : List Int) : (hitM g s).length ≤ g.1.toNat := by
  unfold hitM
  exact Nat.le_trans (List.length_filter_le _ _) (by rw [rangeI_len]; exact Nat.le_refl _)
theorem filter_loop {f : Nat → List Int → Int → Option Ret} {p : Int → Bool} {k : List Int → Option Ret} {m : Nat} (hs : ∀ (n i : Nat) (s : List Int), i < m → s.length ≤ i → f (n + 1) s (i : Int) = f n (bif p (i : Int) then s ++ [(i : Int)] else s) ((i + 1 : Nat) : Int)) (he : ∀ (n : Nat) (s : List Int), f (n + 1) s (m : Int) = k s) {n : Nat} (hn : m < n) : f n [] 0 = k ((rangeI m).filter p) := by
  have key : ∀ (d i n : Nat), i + d = m → d < n → f n ((rangeI i).filter p) (i : Int) = k ((rangeI m).filter p) := by
    intro d
    induction d with
    | zero =>
      intro i n h1 h2
      obtain ⟨n, rfl⟩ : ∃ j, n = j + 1 := ⟨n - 1, by omega⟩
      obtain rfl : i = m := by omega
      exact he _ _
    | succ d ih =>
      intro i n h1 h2
      obtain ⟨n, rfl⟩ : ∃ j, n = j + 1 := ⟨n - 1, by omega⟩
      have e : (bif p (i : Int) then (rangeI i).filter p ++ [(i : Int)] else (rangeI i).filter p) = (rangeI (i + 1)).filter p := by
        rw [rangeI_succ, List.filter_append, List.filter_cons, List.filter_nil]
        cases p (i : Int) <;> simp
      rw [hs n i _ (by omega) (Nat.le_trans (List.length_filter_le _ _) (by rw [rangeI_len]; exact Nat.le_refl _)), e]
      exact ih (i + 1) n (by omega) (by omega)
  exact key m 0 n (by omega) (by omega)
theorem map_loop {f : Nat → List ByteArray → Int → Option Ret} {p : Int → ByteArray} {k : List ByteArray → Option Ret} {m : Nat} (hs : ∀ (n i : Nat) (s : List ByteArray), i < m → s.length ≤ i → f (n + 1) s (i : Int) = f n (s ++ [p (i : Int)]) ((i + 1 : Nat) : Int)) (he : ∀ (n : Nat) (s : List ByteArray), f (n + 1) s (m : Int) = k s) {n : Nat} (hn : m < n) : f n [] 0 = k ((rangeI m).map p) := by
  have key : ∀ (d i n : Nat), i + d = m → d < n → f n ((rangeI i).map p) (i : Int) = k ((rangeI m).map p) := by
    intro d
    induction d with
    | zero =>
      intro i n h1 h2
      obtain ⟨n, rfl⟩ : ∃ j, n = j + 1 := ⟨n - 1, by omega⟩
      obtain rfl : i = m := by omega
      exact he _ _
    | succ d ih =>
      intro i n h1 h2
      obtain ⟨n, rfl⟩ : ∃ j, n = j + 1 := ⟨n - 1, by omega⟩
      rw [hs n i _ (by omega) (by rw [List.length_map, rangeI_len]; exact Nat.le_refl _), show (rangeI i).map p ++ [p (i : Int)] = (rangeI (i + 1)).map p by rw [rangeI_succ, List.map_append]; rfl]
      exact ih (i + 1) n (by omega) (by omega)
  exact key m 0 n (by omega) (by omega)
theorem goL1_or {α : Type} {body : Nat → α → Bool → (Bool → Option Ret) → Option Ret} {k : Bool → Option Ret} {q : α → Bool} : ∀ (r : List α) (i : Nat) (b : Bool), (∀ (i : Nat) (x : α) (b : Bool) (next : Bool → Option Ret), x ∈ r → body i x b next = next (b || q x)) → goL1 body k r i b = k (b || r.any q)
  | [], i, b, _ => by simp [goL1]
  | x :: r, i, b, h => by
    simp only [goL1, List.any_cons]
    rw [h i x b _ (by simp), goL1_or r (i + 1) _ fun j y b next hy => h j y b next (by simp [hy]), Bool.or_assoc]
theorem one_app {α : Type} {s : List α} {x : α} {i : Nat} (h : s.length ≤ i) (hi : i ≤ 1000000) : decide ((List.length s + List.length [x]) * 1 ≤ 4398046511104) = true := decide_eq_true (by simp; omega)
structure GrOK (g : Graph) (N : Nat) : Prop where
  g : isGraphM g = true
  N : 2000 < N
theorem spec_IsSet_ok {N : Nat} {g : Graph} {s : List Int} {kf : Bool → Option Ret} (h : GrOK g N) (hs : s.length ≤ 100) : spec_IsSet N g s kf = kf (isSetM g s) := by
  have hm := maxLen_eq
  have hN := h.N
  have hl := graph_len h.g
  unfold spec_IsSet
  rw [spec_IsGraph_ok (by omega) (by omega), h.g]
  simp only [Bool.not_true, cond_false]
  rw [spec_IsSet_l4_r (by omega) (by omega), goL_all (l := s) (p := setP g s) (kf := kf false) (fun i x next hi e => ?_) s 0 rfl]
  · unfold isSetM
    rw [h.g, Bool.true_and]
    cases allI (setP g s) s 0 <;> rfl
  · rw [spec_l1In_ok]
    unfold setP
    cases inR x 0 (IntKind.wrap .i64 (g.1 - 1)) with
    | false => rfl
    | true =>
      simp only [Bool.not_true, cond_false, Bool.true_and]
      by_cases h0 : i = 0
      · subst h0; rfl
      · rw [decide_eq_true (show (i : Int) > 0 by omega), decide_eq_false h0, cond_true, wrap_pred (by omega) hi (by omega), inB_nat (by omega), cond_true, Int.toNat_natCast, Bool.false_or]
        by_cases hx : s.getD (i - 1) 0 < x
        · rw [decide_eq_true hx, decide_eq_false (by omega)]; rfl
        · rw [decide_eq_false hx, decide_eq_true (by omega)]; rfl
theorem impl_IsSet_ok {N : Nat} {g : Graph} {s : List Int} {kf : Bool → Option Ret} (h : GrOK g N) (hs : s.length ≤ 100) : impl_IsSet N g s kf = kf (isSetM g s) := by
  have hm := maxLen_eq
  have hN := h.N
  have hl := graph_len h.g
  unfold impl_IsSet
  rw [impl_IsGraph_ok (by omega) (by omega), h.g]
  simp only [Bool.not_true, cond_false]
  rw [impl_IsSet_l4_r (by omega) (by omega), goL_all (l := s) (p := setP g s) (kf := kf false) (fun i x next hi e => ?_) s 0 rfl]
  · unfold isSetM
    rw [h.g, Bool.true_and]
    cases allI (setP g s) s 0 <;> rfl
  · unfold impl_isClaim
    rw [impl_InRange_ok]
    unfold setP
    cases inR x 0 (IntKind.wrap .i64 (g.1 - 1)) with
    | false => rfl
    | true =>
      simp only [Bool.not_true, cond_false, Bool.true_and]
      by_cases h0 : i = 0
      · subst h0; rfl
      · rw [decide_eq_true (show (i : Int) > 0 by omega), decide_eq_false h0, cond_true, wrap_pred (by omega) hi (by omega), inB_nat (by omega), cond_true, Int.toNat_natCast, Bool.false_or]
        by_cases hx : s.getD (i - 1) 0 < x
        · rw [decide_eq_true hx, decide_eq_false (by omega)]; rfl
        · rw [decide_eq_false hx, decide_eq_true (by omega)]; rfl
theorem spec_HitBy_ok {N : Nat} {g : Graph} {s : List Int} {kf : List Int → Option Ret} (h : GrOK g N) (hs : s.length ≤ 100) : spec_HitBy N g s kf = kf (hitM g s) := by
  have hm := maxLen_eq
  have hN := h.N
  have hl := graph_len h.g
  have hn := graph_n h.g
  unfold spec_HitBy
  refine filter_loop (f := fun n l i => spec_HitBy_l3 N s g n kf l i) (p := hitB g s) (k := kf) (m := g.1.toNat) (fun n i l hi hli => ?_) (fun n l => ?_) (by omega)
  · simp only [spec_HitBy_l3]
    rw [decide_eq_true (show (i : Int) < g.1 by omega), cond_true, spec_IsGraph_ok (by omega) (by omega), h.g, cond_true, spec_HitBy_l7_r (by omega) (by omega), goL1_or (q := fun a => a.getD 1 0 == (i : Int) && hasM s (a.getD 0 0)) g.2 0 false (fun j x b next hx => ?_)]
    · show (bif hitB g s (i : Int) then _ else _) = _
      rw [one_app hli (by omega), wrap64 (by omega) (by omega)]
      cases hitB g s (i : Int) <;> rfl
    · obtain ⟨h2, _⟩ := graph_m h.g hx
      have b1 : inB (1 : Int) (List.length x) = true := by rw [h2]; rfl
      have b0 : inB (0 : Int) (List.length x) = true := by rw [h2]; rfl
      rw [b1, b0, spec_l4Has_ok (by omega) (by omega)]
      cases b with
      | true => rfl
      | false =>
        show (bif (x.getD 1 0 == (i : Int)) then next (hasM s (x.getD 0 0)) else next false) = next (x.getD 1 0 == (i : Int) && hasM s (x.getD 0 0))
        cases x.getD 1 0 == (i : Int) <;> rfl
  · simp only [spec_HitBy_l3]
    rw [decide_eq_false (show ¬ ((g.1.toNat : Nat) : Int) < g.1 by omega)]
    rfl
theorem spec_AttackersOf_ok {N : Nat} {g : Graph} {k : Int} {kf : List Int → Option Ret} (h : GrOK g N) : spec_AttackersOf N g k kf = kf (attM g k) := by
  have hm := maxLen_eq
  have hN := h.N
  have hl := graph_len h.g
  unfold spec_AttackersOf
  rw [spec_AttackersOf_l3_r (by omega) (by omega), goL1_gather (l := g.2) (c := fun _ x => x.getD 1 0 == k) (f := fun _ x => x.getD 0 0) (fun i x s next hi e hs => ?_) g.2 0 [] rfl (by simp), List.nil_append, gather_const (p := fun x : List Int => x.getD 1 0 == k) (f := fun x : List Int => x.getD 0 0)]
  · rfl
  · obtain ⟨h2, _⟩ := graph_m h.g (a := x) (by rw [← e]; exact List.getElem_mem hi)
    have b1 : inB (1 : Int) (List.length x) = true := by rw [h2]; rfl
    have b0 : inB (0 : Int) (List.length x) = true := by rw [h2]; rfl
    rw [spec_IsGraph_ok (by omega) (by omega), h.g, cond_true, b1, b0, one_app hs (by omega)]
    rfl
theorem impl_AttackersOf_ok {N : Nat} {g : Graph} {k : Int} {kf : List Int → Option Ret} (h : GrOK g N) : impl_AttackersOf N g k kf = kf (attM g k) := by
  have hm := maxLen_eq
  have hN := h.N
  have hl := graph_len h.g
  unfold impl_AttackersOf
  rw [impl_IsGraph_ok (by omega) (by omega), h.g]
  simp only [Bool.not_true, cond_false]
  rw [impl_AttackersOf_l5_r (by omega) (by omega), goL1_gather (l := g.2) (c := fun _ x => x.getD 1 0 == k) (f := fun _ x => x.getD 0 0) (fun i x s next hi e hs => ?_) g.2 0 [] rfl (by simp), List.nil_append, gather_const (p := fun x : List Int => x.getD 1 0 == k) (f := fun x : List Int => x.getD 0 0)]
  · rfl
  · obtain ⟨h2, _⟩ := graph_m h.g (a := x) (by rw [← e]; exact List.getElem_mem hi)
    have b1 : inB (1 : Int) (List.length x) = true := by rw [h2]; rfl
    have b0 : inB (0 : Int) (List.length x) = true := by rw [h2]; rfl
    rw [b1, b0, one_app hs (by omega)]
    rfl
theorem impl_VictimsOf_ok {N : Nat} {g : Graph} {k : Int} {kf : List Int → Option Ret} (h : GrOK g N) : impl_VictimsOf N g k kf = kf (vicM g k) := by
  have hm := maxLen_eq
  have hN := h.N
  have hl := graph_len h.g
  unfold impl_VictimsOf
  rw [impl_IsGraph_ok (by omega) (by omega), h.g]
  simp only [Bool.not_true, cond_false]
  rw [impl_VictimsOf_l5_r (by omega) (by omega), goL1_gather (l := g.2) (c := fun _ x => x.getD 0 0 == k) (f := fun _ x => x.getD 1 0) (fun i x s next hi e hs => ?_) g.2 0 [] rfl (by simp), List.nil_append, gather_const (p := fun x : List Int => x.getD 0 0 == k) (f := fun x : List Int => x.getD 1 0)]
  · rfl
  · obtain ⟨h2, _⟩ := graph_m h.g (a := x) (by rw [← e]; exact List.getElem_mem hi)
    have b1 : inB (1 : Int) (List.length x) = true := by rw [h2]; rfl
    have b0 : inB (0 : Int) (List.length x) = true := by rw [h2]; rfl
    rw [b1, b0, one_app hs (by omega)]
    rfl
theorem vic_loop {N : Nat} {g : Graph} {k : List Int → Option Ret} (h : GrOK g N) : ∀ (r : List Int) (i : Nat) (s : List Int), s.length + 100 * r.length ≤ 1000000 → goL1 (fun (i : Nat) (x : Int) (x5_2 : (List Int)) (next : (List Int) → Option Ret) =>
        impl_VictimsOf N g x (fun (r18_7 : (List Int)) =>
          bif (decide ((List.length x5_2 + List.length r18_7) * 1 ≤ 4398046511104)) then
            next (x5_2 ++ r18_7)
          else none)) k r i s = k (s ++ r.flatMap (vicM g))
  | [], i, s, _ => by simp [goL1]
  | x :: r, i, s, hs => by
    have hl := graph_len h.g
    have hv := vicM_len g x
    simp only [List.length_cons] at hs
    simp only [goL1]
    rw [impl_VictimsOf_ok h, decide_eq_true (by omega), cond_true, vic_loop h r (i + 1) _ (by rw [List.length_append]; omega), List.flatMap_cons, List.append_assoc]
theorem flat_len {g : Graph} (hl : g.2.length ≤ 100) : ∀ s : List Int, (s.flatMap (vicM g)).length ≤ 100 * s.length
  | [] => by simp
  | x :: r => by
    have := flat_len hl r
    have hv := vicM_len g x
    simp only [List.flatMap_cons, List.length_append, List.length_cons]
    omega
theorem hit_both {g : Graph} (hg : isGraphM g = true) (s : List Int) : compactL (sortL (s.flatMap (vicM g))) = hitM g s := by
  obtain ⟨h1, h2⟩ := compactL_spec (sortL (s.flatMap (vicM g))) (sortL_le _)
  refine asc_ext h1 (filter_asc (rangeI_asc _)) fun x => ?_
  rw [h2, sortL_mem, List.mem_flatMap]
  unfold hitM hitB vicM
  rw [List.mem_filter, rangeI_mem, List.any_eq_true]
  constructor
  · rintro ⟨n, hn, hx⟩
    obtain ⟨a, ha, rfl⟩ := List.mem_map.1 hx
    rw [List.mem_filter] at ha
    have := graph_m hg ha.1
    refine ⟨by omega, a, ha.1, ?_⟩
    rw [Bool.and_eq_true, hasM_iff, beq_iff_eq]
    have e := beq_iff_eq.1 ha.2
    exact ⟨rfl, by rw [e]; exact hn⟩
  · rintro ⟨_, a, ha, hb⟩
    rw [Bool.and_eq_true, hasM_iff, beq_iff_eq] at hb
    exact ⟨a.getD 0 0, hb.2, List.mem_map.2 ⟨a, List.mem_filter.2 ⟨ha, by simp⟩, hb.1⟩⟩
theorem impl_HitBy_ok {N : Nat} {g : Graph} {s : List Int} {kf : List Int → Option Ret} (h : GrOK g N) (hs : s.length ≤ 100) : impl_HitBy N g s kf = kf (hitM g s) := by
  have hm := maxLen_eq
  have hN := h.N
  have hf := flat_len (graph_len h.g) s
  unfold impl_HitBy
  rw [impl_HitBy_l3_r (by omega) (by omega), vic_loop h s 0 [] (by simp; omega), List.nil_append, slices_Sort_int_ok (by omega), slices_Compact_int_ok, hit_both h.g]
def defendsM (g : Graph) (s : List Int) (k : Int) : Bool := isSetM g s && (inR k 0 (IntKind.wrap .i64 (g.1 - 1)) && defB g s k)
theorem spec_Defends_ok {N : Nat} {g : Graph} {s : List Int} {k : Int} {kf : Bool → Option Ret} (h : GrOK g N) (hs : s.length ≤ 100) : spec_Defends N g s k kf = kf (defendsM g s k) := by
  have hm := maxLen_eq
  have hN := h.N
  have hl := graph_len h.g
  have hn := graph_n h.g
  have ha := attM_len g k
  have hh := hitM_len g s
  unfold spec_Defends defendsM
  rw [spec_IsSet_ok h hs]
  cases isSetM g s with
  | false => rfl
  | true =>
    simp only [Bool.not_true, cond_false, Bool.true_and]
    rw [spec_l1In_ok]
    cases inR k 0 (IntKind.wrap .i64 (g.1 - 1)) with
    | false => rfl
    | true =>
      simp only [Bool.not_true, cond_false, Bool.true_and]
      rw [spec_HitBy_ok h hs, spec_AttackersOf_ok h, spec_Defends_l6_r (by omega) (by omega), goL_all (l := attM g k) (p := fun _ x => hasM (hitM g s) x) (kf := kf false) (fun i x next hi e => ?_) (attM g k) 0 rfl, allI_all (p := hasM (hitM g s))]
      · show (bif defB g s k then _ else _) = _
        cases defB g s k <;> rfl
      · rw [spec_l4Has_ok (by omega) (by omega)]
        cases hasM (hitM g s) x <;> rfl
theorem impl_Defends_ok {N : Nat} {g : Graph} {s : List Int} {k : Int} {kf : Bool → Option Ret} (h : GrOK g N) (hs : s.length ≤ 100) : impl_Defends N g s k kf = kf (defendsM g s k) := by
  have hm := maxLen_eq
  have hN := h.N
  have hl := graph_len h.g
  have hn := graph_n h.g
  have ha := attM_len g k
  have hh := hitM_len g s
  unfold impl_Defends defendsM
  rw [impl_IsSet_ok h hs]
  cases isSetM g s with
  | false => rfl
  | true =>
    simp only [Bool.not_true, cond_false, Bool.true_and]
    unfold impl_isClaim
    rw [impl_InRange_ok]
    cases inR k 0 (IntKind.wrap .i64 (g.1 - 1)) with
    | false => rfl
    | true =>
      simp only [Bool.not_true, cond_false, Bool.true_and]
      rw [impl_HitBy_ok h hs, impl_AttackersOf_ok h, impl_Defends_l5_r (by omega) (by omega), goL_all (l := attM g k) (p := fun _ x => hasM (hitM g s) x) (kf := kf false) (fun i x next hi e => ?_) (attM g k) 0 rfl, allI_all (p := hasM (hitM g s))]
      · show (bif defB g s k then _ else _) = _
        cases defB g s k <;> rfl
      · rw [slices_Contains_int_ok (by omega) (by omega)]
        cases hasM (hitM g s) x <;> rfl
theorem defends_in {g : Graph} {s : List Int} {i : Nat} (hg : isGraphM g = true) (hs : isSetM g s = true) (hi : i < g.1.toNat) : defendsM g s (i : Int) = defB g s (i : Int) := by
  have hn := graph_n hg
  unfold defendsM
  rw [hs, wrap64 (by omega) (by omega), inR_iff.2 (show (0 : Int) ≤ (i : Int) ∧ (i : Int) ≤ g.1 - 1 by omega)]
  rfl
theorem spec_DefendedBy_ok {N : Nat} {g : Graph} {s : List Int} {kf : List Int → Option Ret} (h : GrOK g N) (hs : s.length ≤ 100) (hS : isSetM g s = true) : spec_DefendedBy N g s kf = kf (defM g s) := by
  have hN := h.N
  have hn := graph_n h.g
  unfold spec_DefendedBy
  refine filter_loop (f := fun n l i => spec_DefendedBy_l3 N s g n kf l i) (p := defB g s) (k := kf) (m := g.1.toNat) (fun n i l hi hli => ?_) (fun n l => ?_) (by omega)
  · simp only [spec_DefendedBy_l3]
    rw [decide_eq_true (show (i : Int) < g.1 by omega), cond_true, spec_IsSet_ok h hs, hS, cond_true, spec_Defends_ok h hs, defends_in h.g hS hi, one_app hli (by omega), wrap64 (by omega) (by omega)]
    cases defB g s (i : Int) <;> rfl
  · simp only [spec_DefendedBy_l3]
    rw [decide_eq_false (show ¬ ((g.1.toNat : Nat) : Int) < g.1 by omega)]
    rfl
theorem impl_DefendedBy_ok {N : Nat} {g : Graph} {s : List Int} {kf : List Int → Option Ret} (h : GrOK g N) (hs : s.length ≤ 100) (hS : isSetM g s = true) : impl_DefendedBy N g s kf = kf (defM g s) := by
  have hN := h.N
  have hn := graph_n h.g
  unfold impl_DefendedBy
  rw [impl_IsSet_ok h hs, hS]
  simp only [Bool.not_true, cond_false]
  refine filter_loop (f := fun n l i => impl_DefendedBy_l5 N s g g.1 n kf l i) (p := defB g s) (k := kf) (m := g.1.toNat) (fun n i l hi hli => ?_) (fun n l => ?_) (by omega)
  · simp only [impl_DefendedBy_l5]
    rw [decide_eq_true (show (i : Int) < g.1 by omega), cond_true, impl_Defends_ok h hs, defends_in h.g hS hi, one_app hli (by omega), wrap64 (by omega) (by omega)]
    cases defB g s (i : Int) <;> rfl
  · simp only [impl_DefendedBy_l5]
    rw [decide_eq_false (show ¬ ((g.1.toNat : Nat) : Int) < g.1 by omega)]
    rfl
theorem grounded_both {N : Nat} {g : Graph} (h : GrOK g N) : ∃ s : List Int, s.length ≤ 10 ∧ (∀ kf, spec_Grounded N g kf = kf s) ∧ ∀ kf, impl_Grounded N g kf = kf s := by
  have hx := maxLen_eq
  have hN := h.N
  have hn := graph_n h.g
  have hl := graph_len h.g
  obtain ⟨m, hm, he, hne⟩ := stepsD_end g
  have hlen : ∀ k, (stepsD g k).length ≤ 10 := fun k => by have := stepsD_len g k; omega
  have S : ∀ (d k n : Nat) (kf : List Int → Option Ret), k + d = m → d < n → spec_Grounded_l2 N g n kf (stepsD g k) = kf (stepsD g m) := by
    intro d
    induction d with
    | zero =>
      intro k n kf h1 h2
      obtain ⟨n, rfl⟩ : ∃ j, n = j + 1 := ⟨n - 1, by omega⟩
      obtain rfl : k = m := by omega
      have l1 := hlen (k + 1)
      simp only [spec_Grounded_l2]
      rw [spec_DefendedBy_ok h (by have := hlen k; omega) (stepsD_set h.g k), spec_EqualInts_ok (by show (stepsD g (k + 1)).length ≤ _; omega) (by show (stepsD g (k + 1)).length < _; omega)]
      show (bif decide (stepsD g (k + 1) = stepsD g k) then kf (stepsD g (k + 1)) else _) = _
      rw [decide_eq_true he, he]
      rfl
    | succ d ih =>
      intro k n kf h1 h2
      obtain ⟨n, rfl⟩ : ∃ j, n = j + 1 := ⟨n - 1, by omega⟩
      have l1 := hlen (k + 1)
      simp only [spec_Grounded_l2]
      rw [spec_DefendedBy_ok h (by have := hlen k; omega) (stepsD_set h.g k), spec_EqualInts_ok (by show (stepsD g (k + 1)).length ≤ _; omega) (by show (stepsD g (k + 1)).length < _; omega)]
      show (bif decide (stepsD g (k + 1) = stepsD g k) then _ else spec_Grounded_l2 N g n kf (stepsD g (k + 1))) = _
      rw [decide_eq_false (hne k (by omega))]
      exact ih (k + 1) n kf (by omega) (by omega)
  have L : ∀ k, ((List.range (k + 1)).map (stepsD g)).length = k + 1 := fun k => by simp
  have G : ∀ k, ((List.range (k + 1)).map (stepsD g)).getD k [] = stepsD g k := fun k => by rw [getD_nat _ _ (by rw [L]; omega)]; simp
  have W : ∀ k, k ≤ 10 → IntKind.wrap .i64 ((((List.range (k + 1)).map (stepsD g)).length : Int) - 1) = (k : Int) := fun k hk => by
    rw [L, wrap64 (by omega) (by omega)]
    omega
  have I : ∀ (d k n : Nat) (kf : List (List Int) → Option Ret), k + d = m → d < n → impl_rounds_l4 N g n kf ((List.range (k + 1)).map (stepsD g)) = kf ((List.range (m + 1)).map (stepsD g)) := by
    intro d
    induction d with
    | zero =>
      intro k n kf h1 h2
      obtain ⟨n, rfl⟩ : ∃ j, n = j + 1 := ⟨n - 1, by omega⟩
      obtain rfl : k = m := by omega
      have l1 := hlen (k + 1)
      simp only [impl_rounds_l4]
      rw [W k (by omega), inB_nat (by rw [L]; omega), cond_true, Int.toNat_natCast, G, impl_DefendedBy_ok h (by have := hlen k; omega) (stepsD_set h.g k), slices_Equal_int_ok (by show (stepsD g (k + 1)).length ≤ _; omega) (by show (stepsD g (k + 1)).length < _; omega)]
      show (bif decide (stepsD g (k + 1) = stepsD g k) then _ else _) = _
      rw [decide_eq_true he]
      rfl
    | succ d ih =>
      intro k n kf h1 h2
      obtain ⟨n, rfl⟩ : ∃ j, n = j + 1 := ⟨n - 1, by omega⟩
      have l1 := hlen (k + 1)
      simp only [impl_rounds_l4]
      rw [W k (by omega), inB_nat (by rw [L]; omega), cond_true, Int.toNat_natCast, G, impl_DefendedBy_ok h (by have := hlen k; omega) (stepsD_set h.g k), slices_Equal_int_ok (by show (stepsD g (k + 1)).length ≤ _; omega) (by show (stepsD g (k + 1)).length < _; omega)]
      show (bif decide (stepsD g (k + 1) = stepsD g k) then _ else _) = _
      rw [decide_eq_false (hne k (by omega)), cond_false, one_app (i := k + 1) (by rw [L]; exact Nat.le_refl _) (by omega), cond_true]
      have e : (List.range (k + 1)).map (stepsD g) ++ [defM g (stepsD g k)] = (List.range (k + 1 + 1)).map (stepsD g) := by
        rw [List.range_succ (n := k + 1), List.map_append]
        rfl
      rw [e]
      exact ih (k + 1) n kf (by omega) (by omega)
  refine ⟨stepsD g m, hlen m, fun kf => ?_, fun kf => ?_⟩
  · unfold spec_Grounded
    exact S m 0 N kf (by omega) (by omega)
  · unfold impl_Grounded impl_rounds
    rw [impl_IsGraph_ok (by omega) (by omega), h.g]
    simp only [Bool.not_true, cond_false]
    refine (I m 0 N _ (by omega) (by omega)).trans ?_
    rw [W m (by omega), inB_nat (by rw [L]; omega), cond_true, Int.toNat_natCast, G]
noncomputable def labM (s t : List Int) (k : Int) : ByteArray := bif hasM s k then s_in else bif hasM t k then s_out else s_open
noncomputable def labsM (g : Graph) (s : List Int) : List ByteArray := (rangeI g.1.toNat).map (labM s (hitM g s))
noncomputable def opensM (l : List ByteArray) : List Int := gatherI (fun _ x => ByteArray.toList x == ByteArray.toList s_open) (fun i _ => (i : Int)) l 0
theorem labels_both {N : Nat} {g : Graph} (h : GrOK g N) : ∃ l : List ByteArray, (l.length ≤ 10 ∧ (l.length : Int) ≤ g.1) ∧ (∀ kf, spec_Labels N g kf = kf l) ∧ ∀ kf, impl_Labels N g kf = kf l := by
  have hx := maxLen_eq
  have hN := h.N
  have hn := graph_n h.g
  have hl := graph_len h.g
  obtain ⟨s, hs, h1, h2⟩ := grounded_both h
  have hh := hitM_len g s
  refine ⟨labsM g s, by unfold labsM; rw [List.length_map, rangeI_len]; omega, fun kf => ?_, fun kf => ?_⟩
  · unfold spec_Labels
    rw [h1, spec_HitBy_ok h (by omega)]
    refine map_loop (f := fun n l i => spec_Labels_l5 N g s (hitM g s) n kf l i) (p := labM s (hitM g s)) (k := kf) (m := g.1.toNat) (fun n i l hi hli => ?_) (fun n l => ?_) (by omega)
    · simp only [spec_Labels_l5]
      rw [decide_eq_true (show (i : Int) < g.1 by omega), cond_true, spec_IsGraph_ok (by omega) (by omega), h.g, cond_true, spec_l4Has_ok (by omega) (by omega), wrap64 (by omega) (by omega), one_app hli (by omega), one_app hli (by omega), one_app hli (by omega)]
      unfold labM
      cases hasM s (i : Int) with
      | true => rfl
      | false =>
        simp only [cond_false]
        rw [spec_l4Has_ok (by omega) (by omega)]
        cases hasM (hitM g s) (i : Int) <;> rfl
    · simp only [spec_Labels_l5]
      rw [decide_eq_false (show ¬ ((g.1.toNat : Nat) : Int) < g.1 by omega)]
      rfl
  · unfold impl_Labels
    rw [impl_IsGraph_ok (by omega) (by omega), h.g]
    simp only [Bool.not_true, cond_false]
    rw [h2, impl_HitBy_ok h (by omega)]
    refine map_loop (f := fun n l i => impl_Labels_l7 N s (hitM g s) g.1 n kf l i) (p := labM s (hitM g s)) (k := kf) (m := g.1.toNat) (fun n i l hi hli => ?_) (fun n l => ?_) (by omega)
    · simp only [impl_Labels_l7]
      rw [decide_eq_true (show (i : Int) < g.1 by omega), cond_true, slices_Contains_int_ok (by omega) (by omega), wrap64 (by omega) (by omega), one_app hli (by omega), one_app hli (by omega), one_app hli (by omega)]
      unfold labM
      cases hasM s (i : Int) with
      | true => rfl
      | false =>
        simp only [cond_false]
        rw [slices_Contains_int_ok (by omega) (by omega)]
        cases hasM (hitM g s) (i : Int) <;> rfl
    · simp only [impl_Labels_l7]
      rw [decide_eq_false (show ¬ ((g.1.toNat : Nat) : Int) < g.1 by omega)]
      rfl
theorem OpenShare_same {N : Nat} {g : Graph} (hl : g.2.length ≤ 1048576) (hN : g.2.length + 2000 < N) : ∃ r, (0 ≤ r ∧ r ≤ 100) ∧ (∀ kf, spec_OpenShare N g kf = kf r) ∧ ∀ kf, impl_OpenShare N g kf = kf r := by
  have hx := maxLen_eq
  by_cases h0 : (g.1 == (0 : Int)) = true
  · exact ⟨0, ⟨by omega, by omega⟩, fun kf => by unfold spec_OpenShare; rw [h0]; rfl, fun kf => by unfold impl_OpenShare; rw [h0]; rfl⟩
  have h0 : (g.1 == (0 : Int)) = false := by simpa using h0
  cases hg : isGraphM g with
  | false => exact ⟨0, ⟨by omega, by omega⟩, fun kf => by unfold spec_OpenShare; rw [h0, cond_false, spec_IsGraph_ok hl (by omega), hg]; rfl, fun kf => by unfold impl_OpenShare; rw [h0, cond_false, impl_IsGraph_ok hl (by omega), hg]; rfl⟩
  | true =>
    have h : GrOK g N := ⟨hg, by omega⟩
    obtain ⟨l, hl2, h1, h2⟩ := labels_both h
    have hne : (!decide (g.1 = 0)) = true := by simpa using h0
    have body : ∀ (i : Nat) (x : ByteArray) (s : List Int) (next : List Int → Option Ret), i < l.length → s.length ≤ i → (bif (ByteArray.toList x == ByteArray.toList s_open) then
          bif (decide ((List.length s + List.length [(i : Int)]) * 1 ≤ 4398046511104)) then
            next (s ++ [(i : Int)])
          else none
        else
          next s) = bif (ByteArray.toList x == ByteArray.toList s_open) then next (s ++ [(i : Int)]) else next s := fun i x s next hi hs => by
      rw [one_app hs (by omega)]
      rfl
    refine ⟨IntKind.wrap .i64 (Int.tdiv (IntKind.wrap .i64 ((100 : Int) * (List.length (opensM l) : Int))) g.1), ?_, fun kf => ?_, fun kf => ?_⟩
    · have h5 : (opensM l).length ≤ l.length := gatherI_len (c := fun _ x => ByteArray.toList x == ByteArray.toList s_open) (f := fun i (_ : ByteArray) => (i : Int)) l 0
      have h6 := graph_n hg
      have h7 : g.1 ≠ 0 := by simpa using h0
      have h8 : (100 : Int) * ((opensM l).length : Int) ≤ 100 * g.1 := by omega
      rw [wrap64 (n := (100 : Int) * ((opensM l).length : Int)) (by omega) (by omega), Int.tdiv_eq_ediv_of_nonneg (by omega)]
      have h9 : (100 : Int) * ((opensM l).length : Int) / g.1 ≤ 100 := Int.ediv_le_of_le_mul (by omega) h8
      have h10 : 0 ≤ (100 : Int) * ((opensM l).length : Int) / g.1 := Int.ediv_nonneg (by omega) (by omega)
      rw [wrap64 (by omega) (by omega)]
      exact ⟨h10, h9⟩
    · unfold spec_OpenShare spec_OpenClaims
      rw [h0, cond_false, spec_IsGraph_ok hl (by omega), hg]
      simp only [Bool.not_true, cond_false]
      rw [h1, spec_OpenClaims_l4_r (by omega) (by omega), goL1_gather (l := l) (c := fun _ x => ByteArray.toList x == ByteArray.toList s_open) (f := fun i _ => (i : Int)) (fun i x s next hi e hs => body i x s next hi hs) l 0 [] rfl (by simp), List.nil_append, hne]
      rfl
    · unfold impl_OpenShare impl_OpenClaims
      rw [h0, cond_false, impl_IsGraph_ok hl (by omega), hg]
      simp only [Bool.not_true, cond_false]
      rw [h2, impl_OpenClaims_l3_r (by omega) (by omega), goL1_gather (l := l) (c := fun _ x => ByteArray.toList x == ByteArray.toList s_open) (f := fun i _ => (i : Int)) (fun i x s next hi e hs => body i x s next hi hs) l 0 [] rfl (by simp), List.nil_append, hne]
      rfl
end Go.Pv.R
namespace Go.Pv.R
set_option linter.unusedVariables false
set_option linter.unusedSimpArgs false
end Go.Pv.R
namespace Go.Pv.R
set_option linter.unusedVariables false
set_option linter.unusedSimpArgs false
abbrev Cur := QLIIIE
def CurOK (c : Cur) : Prop := 0 ≤ c.2.1 ∧ c.1.length ≤ 1048576
/-- A draw goes on, with some value that is as told. -/
def Draws {α : Type} (F : Cur → (α → Cur → Option Ret) → Option Ret) (P : α → Prop) : Prop := ∀ c : Cur, CurOK c → ∃ v, ∃ c' : Cur, CurOK c' ∧ P v ∧ ∀ kf, F c kf = kf v c'
theorem and255 (x : BitVec (IntKind.bits .i64)) : 0 ≤ IntKind.wrap .i64 (BitVec.toNat (x &&& BitVec.ofInt (IntKind.bits .i64) (255 : Int))) ∧ IntKind.wrap .i64 (BitVec.toNat (x &&& BitVec.ofInt (IntKind.bits .i64) (255 : Int))) ≤ 255 := by
  have h : BitVec.toNat (x &&& BitVec.ofInt (IntKind.bits .i64) (255 : Int)) ≤ 255 := by
    rw [BitVec.toNat_and]
    refine Nat.le_trans Nat.and_le_right ?_
    decide
  rw [wrap64 (by omega) (by omega)]
  omega
theorem l1Byte_draws {N : Nat} : Draws (spec_l1Byte N) fun v => 0 ≤ v ∧ v ≤ 255 := fun c hc => by
  obtain ⟨hc, hl⟩ := hc
  unfold spec_l1Byte share
  rw [decide_eq_true (show (0 : Int) ≤ 33 by omega), decide_eq_true (show (0 : Int) ≤ 47 by omega)]
  simp only [cond_true]
  by_cases hi : c.2.1 < (List.length c.1 : Int)
  · have hin : inB c.2.1 (List.length c.1) = true := by
      have := inB_nat (i := c.2.1.toNat) (m := c.1.length) (by omega)
      rwa [Int.toNat_of_nonneg hc] at this
    rw [decide_eq_true hi, hin]
    simp only [cond_true]
    refine ⟨_, (c.1, (IntKind.wrap .i64 (c.2.1 + 1), _)), ⟨?_, hl⟩, and255 _, fun kf => rfl⟩
    show 0 ≤ IntKind.wrap .i64 (c.2.1 + 1)
    rw [wrap64 (by omega) (by omega)]
    omega
  · rw [decide_eq_false hi]
    simp only [cond_false]
    exact ⟨_, (c.1, (c.2.1, IntKind.wrap .i64 (IntKind.wrap .i64 (c.2.2 * (6364136223846793005 : Int)) + (1442695040888963407 : Int)))), ⟨hc, hl⟩, and255 _, fun kf => rfl⟩
theorem tmod_in {r n : Int} (hr : 0 ≤ r) (hn : 0 < n) : 0 ≤ Int.tmod r n ∧ Int.tmod r n < n := by
  rw [Int.tmod_eq_emod_of_nonneg hr]
  exact ⟨Int.emod_nonneg _ (by omega), Int.emod_lt_of_pos _ hn⟩
theorem l1Below_draws {N : Nat} {n : Int} (h0 : 0 < n) (h1 : n ≤ 256) : Draws (fun c kf => spec_l1Below N c n kf) fun v => 0 ≤ v ∧ v < n := fun c hc => by
  obtain ⟨v, c', h2, h3, h4⟩ := l1Byte_draws (N := N) c hc
  refine ⟨Int.tmod v n, c', h2, tmod_in h3.1 h0, fun kf => ?_⟩
  show spec_l1Below N c n kf = _
  unfold spec_l1Below
  rw [decide_eq_false (by omega), decide_eq_true h1]
  simp only [cond_true, cond_false]
  rw [h4, decide_eq_false (by omega)]
  rfl
theorem l1Once_draws {N : Nat} {n : Int} (h0 : 0 < n) (h1 : n ≤ 256) : Draws (fun c kf => spec_l1Once N c n kf) fun _ => True := fun c hc => by
  obtain ⟨v, c', h2, h3, h4⟩ := l1Below_draws (N := N) h0 h1 c hc
  exact ⟨_, c', h2, trivial, fun kf => h4 _⟩
theorem l1Int_draws {N : Nat} {l : List Int} (h0 : 0 < l.length) (h1 : l.length ≤ 256) : Draws (fun c kf => spec_l1Int N c l kf) fun v => v ∈ l := fun c hc => by
  obtain ⟨v, c', h2, h3, h4⟩ := l1Below_draws (N := N) (n := (l.length : Int)) (by omega) (by omega) c hc
  have h4 : ∀ kf, spec_l1Below N c (l.length : Int) kf = kf v c' := h4
  obtain ⟨k, rfl⟩ : ∃ k : Nat, v = (k : Int) := ⟨v.toNat, by omega⟩
  have hk : k < l.length := by omega
  refine ⟨l.getD k 0, c', h2, by rw [getD_nat _ _ hk]; exact List.getElem_mem hk, fun kf => ?_⟩
  show spec_l1Int N c l kf = _
  unfold spec_l1Int
  rw [h4, inB_nat hk, Int.toNat_natCast]
  rfl
theorem l1New_ok {N : Nat} {a : List Int} (ha : a.length ≤ 1048576) (hN : 4000 < N) : ∃ c : Cur, CurOK c ∧ ∀ kf, spec_l1New N a kf = kf c := by
  have key : ∀ (d i n : Nat) (h : Int), i + d = min a.length 4000 → d < n → ∃ h', ∀ k : Int → Option Ret, spec_l1New_l3 a n k h (i : Int) = k h' := by
    intro d
    induction d with
    | zero =>
      intro i n h hi hn
      obtain ⟨n, rfl⟩ : ∃ m, n = m + 1 := ⟨n - 1, by omega⟩
      refine ⟨h, fun k => ?_⟩
      unfold spec_l1New_l3
      by_cases h1 : i < a.length
      · rw [decide_eq_true (show (i : Int) < (List.length a : Int) by omega), decide_eq_false (show ¬ (i : Int) < 4000 by omega)]
        rfl
      · rw [decide_eq_false (show ¬ (i : Int) < (List.length a : Int) by omega)]
        rfl
    | succ d ih =>
      intro i n h hi hn
      obtain ⟨n, rfl⟩ : ∃ m, n = m + 1 := ⟨n - 1, by omega⟩
      obtain ⟨h', hh⟩ := ih (i + 1) n (IntKind.wrap .i64 (BitVec.toNat (BitVec.ofInt (IntKind.bits .i64) (IntKind.wrap .i64 ((IntKind.wrap .i64 ((IntKind.wrap .i64 (h * (137 : Int))) + (IntKind.wrap .i64 (List.getD a (Int.toNat (i : Int)) (0 : Int))))) + (11 : Int))) &&& BitVec.ofInt (IntKind.bits .i64) (1073741823 : Int)))) (by omega) (by omega)
      refine ⟨h', fun k => ?_⟩
      unfold spec_l1New_l3
      rw [decide_eq_true (show (i : Int) < (List.length a : Int) by omega), decide_eq_true (show (i : Int) < 4000 by omega), inB_nat (by omega)]
      simp only [cond_true]
      rw [wrap64 (n := (i : Int) + 1) (by omega) (by omega)]
      exact hh k
  obtain ⟨h', hh⟩ := key (min a.length 4000) 0 N (IntKind.wrap .i64 ((193017 : Int) + (List.length a : Int))) (by omega) (by omega)
  exact ⟨(a, ((0 : Int), h')), ⟨Int.le_refl 0, ha⟩, fun kf => hh _⟩
end Go.Pv.R
namespace Go.Pv.R
set_option linter.unusedVariables false
set_option linter.unusedSimpArgs false
end Go.Pv.R
namespace Go.Pv.R
set_option linter.unusedVariables false
set_option linter.unusedSimpArgs false
end Go.Pv.R
namespace Go.Pv.R
set_option linter.unusedVariables false
set_option linter.unusedSimpArgs false
theorem below {N : Nat} {n : Int} {c : Cur} (h0 : 0 < n) (h1 : n ≤ 256) (hc : CurOK c) : ∃ v, ∃ c' : Cur, CurOK c' ∧ (0 ≤ v ∧ v < n) ∧ ∀ kf, spec_l1Below N c n kf = kf v c' := l1Below_draws (N := N) h0 h1 c hc
theorem oneOf {N : Nat} {l : List Int} {c : Cur} (h0 : 0 < l.length) (h1 : l.length ≤ 256) (hc : CurOK c) : ∃ v, ∃ c' : Cur, CurOK c' ∧ v ∈ l ∧ ∀ kf, spec_l1Int N c l kf = kf v c' := l1Int_draws (N := N) h0 h1 c hc
theorem once {N : Nat} {n : Int} {c : Cur} (h0 : 0 < n) (h1 : n ≤ 256) (hc : CurOK c) : ∃ v, ∃ c' : Cur, CurOK c' ∧ ∀ kf, spec_l1Once N c n kf = kf v c' := by
  obtain ⟨v, c', h2, _, h4⟩ := l1Once_draws (N := N) h0 h1 c hc
  exact ⟨v, c', h2, h4⟩
def MetLe (M : Nat) (l : List Team) : Prop := ∀ x : Team, x ∈ l → x.met.length ≤ M ∧ x.2.2.2.1 ≤ 1000000
theorem l19Draw_l3_ok {N : Nat} : ∀ (d : Nat) (i n : Nat) (c : Cur) (l : List Team), CurOK c → i + d = 7 → 1 ≤ i → l.length + 1 = i → d < n → MetLe 0 l → ∃ r : List Team, ∃ c' : Cur, CurOK c' ∧ (2 ≤ r.length ∧ r.length ≤ 6 ∧ MetLe 0 r) ∧ ∀ kf, spec_l19Draw_l3 N n kf c l (i : Int) = kf c' r
  | 0, i, n, c, l, hc, hi, h1, hl, hn, hm => by
    obtain ⟨n, rfl⟩ : ∃ j, n = j + 1 := ⟨n - 1, by omega⟩
    obtain ⟨v, c1, hc1, hv, e1⟩ := below (N := N) (n := 5) (by omega) (by omega) hc
    refine ⟨l, c1, hc1, ⟨by omega, by omega, hm⟩, fun kf => ?_⟩
    unfold spec_l19Draw_l3
    rw [e1, wrap64 (by omega) (by omega), decide_eq_false (by omega)]
    rfl
  | d + 1, i, n, c, l, hc, hi, h1, hl, hn, hm => by
    obtain ⟨n, rfl⟩ : ∃ j, n = j + 1 := ⟨n - 1, by omega⟩
    obtain ⟨v, c1, hc1, hv, e1⟩ := below (N := N) (n := 5) (by omega) (by omega) hc
    by_cases hg : (i : Int) ≤ 2 + v
    · obtain ⟨v2, c2, hc2, hv2, e2⟩ := below (N := N) (n := 3) (by omega) (by omega) hc1
      obtain ⟨r, c3, hc3, hr, e3⟩ := l19Draw_l3_ok d (i + 1) n c2 (l ++ [((IntKind.wrap .i64 ((2 : Int) * (i : Int))), ((IntKind.wrap .i64 ((1 : Int) + v2)), ((0 : Int), ((0 : Int), ((0 : Int), ([] : (List Int)))))))]) hc2 (by omega) (by omega) (by simp; omega) (by omega) (fun x hx => by
        rcases List.mem_append.1 hx with hx | hx
        · exact hm x hx
        · rw [List.mem_singleton.1 hx]; exact ⟨Nat.le_refl 0, by show (0 : Int) ≤ 1000000; omega⟩)
      refine ⟨r, c3, hc3, hr, fun kf => ?_⟩
      unfold spec_l19Draw_l3
      rw [e1, wrap64 (n := 2 + v) (by omega) (by omega), decide_eq_true hg, cond_true, e2, decide_eq_true (by simp; omega), cond_true, wrap64 (n := (i : Int) + 1) (by omega) (by omega)]
      exact e3 kf
    · refine ⟨l, c1, hc1, ⟨by omega, by omega, hm⟩, fun kf => ?_⟩
      unfold spec_l19Draw_l3
      rw [e1, wrap64 (by omega) (by omega), decide_eq_false hg]
      rfl
theorem addL_metle {M : Nat} {t : List Team} {a b d p q : Int} (h : MetLe M t) : MetLe (M + 1) (addL t a b d p q) := fun x hx => by
  refine ⟨addL_mem (fun y hy => (h y hy).1) x hx, ?_⟩
  unfold addL at hx
  cases hb : addB2 t a b d p q with
  | false => rw [hb] at hx; exact (h x hx).2
  | true =>
    rw [hb] at hx
    unfold addB2 at hb
    simp only [Bool.and_eq_true] at hb
    have ha := hb.2
    unfold areTeamsM at ha
    simp only [Bool.and_eq_true] at ha
    have h2 := ha.2.1
    rw [allI_iff] at h2
    obtain ⟨i, hi, rfl⟩ := List.mem_iff_getElem.1 hx
    have := h2 i hi
    unfold teamP at this
    simp only [Bool.and_eq_true, decide_eq_true_eq, inR_iff] at this
    show ((addT t a b d p q)[i]).2.2.2.1 ≤ 1000000
    omega
theorem l19Draw_l7_ok {N : Nat} (hN : 200 < N) : ∀ (k n M : Nat) (c : Cur) (l : List Team), CurOK c → k < n → l.length ≤ 6 → MetLe M l → M + k ≤ 20 → ∃ r : List Team, ∃ c' : Cur, CurOK c' ∧ (r.length = l.length ∧ MetLe (M + k) r) ∧ ∀ kf, spec_l19Draw_l7 N n kf c l (k : Int) = kf c' r
  | 0, n, M, c, l, hc, hn, hl, hm, hM => by
    obtain ⟨n, rfl⟩ : ∃ j, n = j + 1 := ⟨n - 1, by omega⟩
    refine ⟨l, c, hc, ⟨rfl, hm⟩, fun kf => ?_⟩
    unfold spec_l19Draw_l7
    rw [decide_eq_false (by omega)]
    rfl
  | k + 1, n, M, c, l, hc, hn, hl, hm, hM => by
    obtain ⟨n, rfl⟩ : ∃ j, n = j + 1 := ⟨n - 1, by omega⟩
    obtain ⟨a, c1, hc1, _, e1⟩ := below (N := N) (n := 6) (by omega) (by omega) hc
    obtain ⟨b, c2, hc2, _, e2⟩ := below (N := N) (n := 6) (by omega) (by omega) hc1
    obtain ⟨d, c3, hc3, _, e3⟩ := below (N := N) (n := 2) (by omega) (by omega) hc2
    obtain ⟨p, c4, hc4, _, e4⟩ := below (N := N) (n := 20) (by omega) (by omega) hc3
    obtain ⟨q, c5, hc5, _, e5⟩ := below (N := N) (n := 20) (by omega) (by omega) hc4
    have ha : ∀ a b d p q kf, spec_AddResult N l a b d p q kf = kf (addL l a b d p q) (addB2 l a b d p q) := fun a b d p q kf => spec_AddResult_ok (by omega) (fun x hx => by have := hm x hx; omega) (by omega)
    obtain ⟨r, c6, hc6, hr, e6⟩ := l19Draw_l7_ok hN k n (M + 1) c5 (addL l (IntKind.wrap .i64 ((2 : Int) * (IntKind.wrap .i64 ((1 : Int) + a)))) (IntKind.wrap .i64 ((2 : Int) * (IntKind.wrap .i64 ((1 : Int) + b)))) (IntKind.wrap .i64 ((1 : Int) + d)) (IntKind.wrap .i64 ((60 : Int) + p)) (IntKind.wrap .i64 ((60 : Int) + q))) hc5 (by omega) (by rw [addL_len]; exact hl) (addL_metle hm) (by omega)
    refine ⟨r, c6, hc6, ⟨by rw [hr.1, addL_len], by rw [show M + (k + 1) = M + 1 + k by omega]; exact hr.2⟩, fun kf => ?_⟩
    unfold spec_l19Draw_l7
    rw [decide_eq_true (by omega), cond_true]
    simp only [e1, e2, e3, e4, e5, ha]
    rw [wrap64 (n := ((k + 1 : Nat) : Int) - 1) (by omega) (by omega), show (((k + 1 : Nat) : Int) - 1) = (k : Int) by omega]
    exact e6 kf
theorem l19Draw_draws {N : Nat} (hN : 200 < N) : Draws (spec_l19Draw N) fun l => 2 ≤ l.length ∧ l.length ≤ 6 ∧ MetLe 6 l := fun c hc => by
  obtain ⟨l, c1, hc1, ⟨h1, h2, h3⟩, e1⟩ := l19Draw_l3_ok (N := N) 6 1 N c [] hc rfl (by omega) rfl (by omega) (fun x hx => by cases hx)
  obtain ⟨v, c2, hc2, hv, e2⟩ := below (N := N) (n := 7) (by omega) (by omega) hc1
  obtain ⟨k, rfl⟩ : ∃ k : Nat, v = (k : Int) := ⟨v.toNat, by omega⟩
  obtain ⟨r, c3, hc3, hr, e3⟩ := l19Draw_l7_ok (N := N) hN k N 0 c2 l hc2 (by omega) h2 h3 (by omega)
  refine ⟨r, c3, hc3, ⟨by omega, by omega, fun x hx => by have := hr.2 x hx; omega⟩, fun kf => ?_⟩
  unfold spec_l19Draw
  refine (e1 _).trans ?_
  rw [e2]
  exact e3 _
theorem set_met {M : Nat} {l : List Team} {i : Nat} {y : Team} (h : MetLe M l) (hy : y.met.length ≤ M) (hp : y.2.2.2.1 ≤ 1000000) : MetLe M (l.set i y) := fun x hx => by
  rcases List.mem_or_eq_of_mem_set hx with hx | rfl
  · exact h x hx
  · exact ⟨hy, hp⟩
theorem l19Any_draws {N : Nat} (hN : 200 < N) : Draws (spec_l19Any N) fun l => 2 ≤ l.length ∧ l.length ≤ 6 ∧ MetLe 7 l := fun c hc => by
  obtain ⟨l, c1, hc1, ⟨h1, h2, h3⟩, e1⟩ := l19Draw_draws hN c hc
  obtain ⟨i, c2, hc2, hi, e2⟩ := below (N := N) (n := (l.length : Int)) (by omega) (by omega) hc1
  obtain ⟨k, rfl⟩ : ∃ k : Nat, i = (k : Int) := ⟨i.toNat, by omega⟩
  have hk : k < l.length := by omega
  obtain ⟨w, c3, hc3, hw, e3⟩ := below (N := N) (n := 14) (by omega) (by omega) hc2
  have h4 : MetLe 7 l := fun x hx => by have := h3 x hx; omega
  have hgb : (l.getD k zQIIIIILIE).2.2.2.2.2.length ≤ 6 ∧ (l.getD k zQIIIIILIE).2.2.2.1 ≤ 1000000 := h3 _ (by rw [getD_nat _ _ hk]; exact List.getElem_mem hk)
  have hgm : (l.getD k zQIIIIILIE).2.2.2.2.2.length ≤ 6 := hgb.1
  have hgp := hgb.2
  have hlen : ∀ y : Team, 2 ≤ (l.set k y).length ∧ (l.set k y).length ≤ 6 := fun y => by rw [List.length_set]; omega
  unfold spec_l19Any
  simp only [e1, e2, e3, inB_nat hk, Int.toNat_natCast, cond_true]
  cases w == 0
  rotate_left
  · obtain ⟨v, c4, hc4, _, e4⟩ := oneOf (N := N) (l := [(0 : Int), (2 : Int), (99 : Int), (100 : Int)]) (by simp) (by simp) hc3
    refine ⟨_, c4, hc4, ?_, fun kf => by simp only [cond_true, e4]; rfl⟩
    exact ⟨(hlen _).1, (hlen _).2, set_met h4 (by show (l.getD k zQIIIIILIE).2.2.2.2.2.length ≤ 7; omega) (by first | exact hgp | (show v ≤ 1000000; simp at hv; omega))⟩
  cases w == 1
  rotate_left
  · obtain ⟨v, c4, hc4, _, e4⟩ := oneOf (N := N) (l := [(-1 : Int), (9 : Int)]) (by simp) (by simp) hc3
    refine ⟨_, c4, hc4, ?_, fun kf => by simp only [cond_true, cond_false, e4]; rfl⟩
    exact ⟨(hlen _).1, (hlen _).2, set_met h4 (by show (l.getD k zQIIIIILIE).2.2.2.2.2.length ≤ 7; omega) (by first | exact hgp | (show v ≤ 1000000; simp at hv; omega))⟩
  cases w == 2
  rotate_left
  · obtain ⟨v, c4, hc4, hv, e4⟩ := oneOf (N := N) (l := [(-1 : Int), (100000 : Int), (100001 : Int)]) (by simp) (by simp) hc3
    refine ⟨_, c4, hc4, ?_, fun kf => by simp only [cond_true, cond_false, e4]; rfl⟩
    exact ⟨(hlen _).1, (hlen _).2, set_met h4 (by show (l.getD k zQIIIIILIE).2.2.2.2.2.length ≤ 7; omega) (by first | exact hgp | (show v ≤ 1000000; simp at hv; omega))⟩
  cases w == 3
  rotate_left
  · have hd : decide ((List.length (l.getD k zQIIIIILIE).2.2.2.2.2 + List.length [(2 : Int)]) * 1 ≤ 4398046511104) = true := decide_eq_true (by have : List.length [(2 : Int)] = 1 := rfl; omega)
    refine ⟨_, c3, hc3, ?_, fun kf => by simp only [cond_true, cond_false, hd, Nat.beq_refl]; rfl⟩
    exact ⟨(hlen _).1, (hlen _).2, set_met h4 (by show ((l.getD k zQIIIIILIE).2.2.2.2.2 ++ [(2 : Int)]).length ≤ 7; rw [List.length_append]; show _ + 1 ≤ 7; omega) hgp⟩
  cases w == 4
  rotate_left
  · obtain ⟨v, c4, hc4, _, e4⟩ := oneOf (N := N) (l := [(0 : Int), (99 : Int), (100 : Int)]) (by simp) (by simp) hc3
    refine ⟨_, c4, hc4, ?_, fun kf => by simp only [cond_true, cond_false, e4]; rfl⟩
    exact ⟨(hlen _).1, (hlen _).2, set_met h4 (by show (l.getD k zQIIIIILIE).2.2.2.2.2.length ≤ 7; omega) (by first | exact hgp | (show v ≤ 1000000; simp at hv; omega))⟩
  · exact ⟨l, c3, hc3, ⟨h1, h2, h4⟩, fun kf => by simp only [cond_false]⟩
def SeenLe (M : Nat) (l : List Judge) : Prop := ∀ x : Judge, x ∈ l → x.2.2.length ≤ M
theorem l21Draw_l3_ok {N : Nat} : ∀ (d : Nat) (i n : Nat) (c : Cur) (l : List Judge), CurOK c → i + d = 6 → 1 ≤ i → l.length + 1 = i → d < n → SeenLe 1 l → ∃ r : List Judge, ∃ c' : Cur, CurOK c' ∧ (1 ≤ r.length ∧ r.length ≤ 5 ∧ SeenLe 1 r) ∧ ∀ kf, spec_l21Draw_l3 N n kf c l (i : Int) = kf c' r
  | 0, i, n, c, l, hc, hi, h1, hl, hn, hm => by
    obtain ⟨n, rfl⟩ : ∃ j, n = j + 1 := ⟨n - 1, by omega⟩
    obtain ⟨v, c1, hc1, hv, e1⟩ := below (N := N) (n := 5) (by omega) (by omega) hc
    refine ⟨l, c1, hc1, ⟨by omega, by omega, hm⟩, fun kf => ?_⟩
    unfold spec_l21Draw_l3
    rw [e1, wrap64 (by omega) (by omega), decide_eq_false (by omega)]
    rfl
  | d + 1, i, n, c, l, hc, hi, h1, hl, hn, hm => by
    obtain ⟨n, rfl⟩ : ∃ j, n = j + 1 := ⟨n - 1, by omega⟩
    obtain ⟨v, c1, hc1, hv, e1⟩ := below (N := N) (n := 5) (by omega) (by omega) hc
    by_cases hg : (i : Int) ≤ 1 + v
    · obtain ⟨v2, c2, hc2, hv2, e2⟩ := below (N := N) (n := 5) (by omega) (by omega) hc1
      obtain ⟨b, c3, hc3, e3⟩ := once (N := N) (n := 3) (by omega) (by omega) hc2
      have J : ∀ (c4 : Cur) (y : List Int), CurOK c4 → y.length ≤ 1 → ∃ r : List Judge, ∃ c' : Cur, CurOK c' ∧ (1 ≤ r.length ∧ r.length ≤ 5 ∧ SeenLe 1 r) ∧ ∀ kf, spec_l21Draw_j1 v2 (spec_l21Draw_l3 N n kf) l (i : Int) c4 y = kf c' r := fun c4 y hc4 hy => by
        obtain ⟨r, c5, hc5, hr, e5⟩ := l21Draw_l3_ok d (i + 1) n c4 (l ++ [((IntKind.wrap .i64 ((10 : Int) + (i : Int))), ((IntKind.wrap .i64 ((1 : Int) + v2)), y))]) hc4 (by omega) (by omega) (by simp; omega) (by omega) (fun x hx => by
          rcases List.mem_append.1 hx with hx | hx
          · exact hm x hx
          · rw [List.mem_singleton.1 hx]; exact hy)
        refine ⟨r, c5, hc5, hr, fun kf => ?_⟩
        unfold spec_l21Draw_j1
        rw [decide_eq_true (by simp; omega), cond_true, wrap64 (n := (i : Int) + 1) (by omega) (by omega)]
        exact e5 kf
      cases b with
      | false =>
        obtain ⟨r, c5, hc5, hr, e5⟩ := J c3 [] hc3 (by simp)
        refine ⟨r, c5, hc5, hr, fun kf => ?_⟩
        unfold spec_l21Draw_l3
        rw [e1, wrap64 (n := 1 + v) (by omega) (by omega), decide_eq_true hg, cond_true, e2, e3]
        exact e5 kf
      | true =>
        obtain ⟨v4, c4, hc4, hv4, e4⟩ := below (N := N) (n := 6) (by omega) (by omega) hc3
        obtain ⟨r, c5, hc5, hr, e5⟩ := J c4 [(IntKind.wrap .i64 ((2 : Int) * (IntKind.wrap .i64 ((1 : Int) + v4))))] hc4 (by simp)
        refine ⟨r, c5, hc5, hr, fun kf => ?_⟩
        unfold spec_l21Draw_l3
        rw [e1, wrap64 (n := 1 + v) (by omega) (by omega), decide_eq_true hg, cond_true, e2, e3, cond_true, e4]
        exact e5 kf
    · refine ⟨l, c1, hc1, ⟨by omega, by omega, hm⟩, fun kf => ?_⟩
      unfold spec_l21Draw_l3
      rw [e1, wrap64 (by omega) (by omega), decide_eq_false hg]
      rfl
theorem l21Draw_draws {N : Nat} (hN : 200 < N) : Draws (spec_l21Draw N) fun l => 1 ≤ l.length ∧ l.length ≤ 5 ∧ SeenLe 1 l := fun c hc => by
  obtain ⟨l, c1, hc1, h1, e1⟩ := l21Draw_l3_ok (N := N) 5 1 N c [] hc rfl (by omega) rfl (by omega) (fun x hx => by cases hx)
  exact ⟨l, c1, hc1, h1, fun kf => e1 _⟩
theorem set_seen {M : Nat} {l : List Judge} {i : Nat} {y : Judge} (h : SeenLe M l) (hy : y.2.2.length ≤ M) : SeenLe M (l.set i y) := fun x hx => by
  rcases List.mem_or_eq_of_mem_set hx with hx | rfl
  · exact h x hx
  · exact hy
theorem l21Any_draws {N : Nat} (hN : 200 < N) : Draws (spec_l21Any N) fun l => 1 ≤ l.length ∧ l.length ≤ 5 ∧ SeenLe 2 l := fun c hc => by
  obtain ⟨l, c1, hc1, ⟨h1, h2, h3⟩, e1⟩ := l21Draw_draws hN c hc
  obtain ⟨i, c2, hc2, hi, e2⟩ := below (N := N) (n := (l.length : Int)) (by omega) (by omega) hc1
  obtain ⟨k, rfl⟩ : ∃ k : Nat, i = (k : Int) := ⟨i.toNat, by omega⟩
  have hk : k < l.length := by omega
  obtain ⟨w, c3, hc3, hw, e3⟩ := below (N := N) (n := 12) (by omega) (by omega) hc2
  have h4 : SeenLe 2 l := fun x hx => by have := h3 x hx; omega
  have hgm : (l.getD k zQIILIE).2.2.length ≤ 1 := h3 _ (by rw [getD_nat _ _ hk]; exact List.getElem_mem hk)
  have hlen : ∀ y : Judge, 1 ≤ (l.set k y).length ∧ (l.set k y).length ≤ 5 := fun y => by rw [List.length_set]; omega
  unfold spec_l21Any
  simp only [e1, e2, e3, inB_nat hk, Int.toNat_natCast, cond_true]
  cases w == 0
  rotate_left
  · obtain ⟨v, c4, hc4, _, e4⟩ := oneOf (N := N) (l := [(0 : Int), (11 : Int), (99 : Int), (100 : Int)]) (by simp) (by simp) hc3
    refine ⟨_, c4, hc4, ?_, fun kf => by simp only [cond_true, e4]; rfl⟩
    exact ⟨(hlen _).1, (hlen _).2, set_seen h4 (by show (l.getD k zQIILIE).2.2.length ≤ 2; omega)⟩
  cases w == 1
  rotate_left
  · obtain ⟨v, c4, hc4, _, e4⟩ := oneOf (N := N) (l := [(0 : Int), (99 : Int), (100 : Int)]) (by simp) (by simp) hc3
    refine ⟨_, c4, hc4, ?_, fun kf => by simp only [cond_true, cond_false, e4]; rfl⟩
    exact ⟨(hlen _).1, (hlen _).2, set_seen h4 (by show (l.getD k zQIILIE).2.2.length ≤ 2; omega)⟩
  cases w == 2
  rotate_left
  · refine ⟨_, c3, hc3, ?_, fun kf => by simp only [cond_true, cond_false]; rfl⟩
    exact ⟨(hlen _).1, (hlen _).2, set_seen h4 (Nat.le_refl 2)⟩
  · exact ⟨l, c3, hc3, ⟨h1, h2, h4⟩, fun kf => by simp only [cond_false]⟩
theorem l27Any_l3_ok {N : Nat} (hN : 200 < N) : ∀ (k n : Nat) (c : Cur) (l : List Line), CurOK c → k < n → l.length + k ≤ 100 → ∃ r : List Line, ∃ c' : Cur, CurOK c' ∧ r.length ≤ l.length + k ∧ ∀ kf, spec_l27Any_l3 N n kf c l (k : Int) = kf c' r
  | 0, n, c, l, hc, hn, hl => by
    obtain ⟨n, rfl⟩ : ∃ j, n = j + 1 := ⟨n - 1, by omega⟩
    refine ⟨l, c, hc, by omega, fun kf => ?_⟩
    unfold spec_l27Any_l3
    rw [decide_eq_false (by omega)]
    rfl
  | k + 1, n, c, l, hc, hn, hl => by
    obtain ⟨n, rfl⟩ : ∃ j, n = j + 1 := ⟨n - 1, by omega⟩
    obtain ⟨a, c1, hc1, _, e1⟩ := below (N := N) (n := 9) (by omega) (by omega) hc
    obtain ⟨b, c2, hc2, _, e2⟩ := below (N := N) (n := 5) (by omega) (by omega) hc1
    have hw : ∀ a b kf, spec_WriteLine N l a b kf = kf (writeM l a b) (wroteM l a b) := fun a b kf => spec_WriteLine_ok (by omega) (by omega) (by omega)
    have hwl := writeM_len l (IntKind.wrap .i64 ((1 : Int) + a)) b
    obtain ⟨r, c3, hc3, hr, e3⟩ := l27Any_l3_ok hN k n c2 (writeM l (IntKind.wrap .i64 ((1 : Int) + a)) b) hc2 (by omega) (by omega)
    refine ⟨r, c3, hc3, by omega, fun kf => ?_⟩
    unfold spec_l27Any_l3
    rw [decide_eq_true (by omega), cond_true]
    simp only [e1, e2, hw]
    rw [wrap64 (n := ((k + 1 : Nat) : Int) - 1) (by omega) (by omega), show (((k + 1 : Nat) : Int) - 1) = (k : Int) by omega]
    exact e3 kf
theorem l27Any_draws {N : Nat} (hN : 200 < N) : Draws (spec_l27Any N) fun l => l.length ≤ 8 := fun c hc => by
  obtain ⟨v, c1, hc1, hv, e1⟩ := below (N := N) (n := 9) (by omega) (by omega) hc
  obtain ⟨k, rfl⟩ : ∃ k : Nat, v = (k : Int) := ⟨v.toNat, by omega⟩
  obtain ⟨l, c2, hc2, hl, e2⟩ := l27Any_l3_ok hN k N c1 [] hc1 (by omega) (by simp; omega)
  have hl8 : l.length ≤ 8 := by simp at hl; omega
  unfold spec_l27Any
  simp only [e1, e2]
  by_cases h0 : (List.length l : Int) > 0
  rotate_left
  · exact ⟨l, c2, hc2, hl8, fun kf => by rw [decide_eq_false h0]; rfl⟩
  rw [decide_eq_true h0]
  simp only [cond_true]
  obtain ⟨i, c3, hc3, hi, e3⟩ := below (N := N) (n := (l.length : Int)) (by omega) (by omega) hc2
  obtain ⟨j, rfl⟩ : ∃ j : Nat, i = (j : Int) := ⟨i.toNat, by omega⟩
  have hj : j < l.length := by omega
  obtain ⟨w, c4, hc4, hw, e4⟩ := below (N := N) (n := 10) (by omega) (by omega) hc3
  have hlen : ∀ y : Line, (l.set j y).length ≤ 8 := fun y => by rw [List.length_set]; exact hl8
  simp only [e3, e4, inB_nat hj, Int.toNat_natCast, cond_true]
  cases w == 0
  rotate_left
  · obtain ⟨v, c5, hc5, _, e5⟩ := oneOf (N := N) (l := [(-1 : Int), (99 : Int), (100 : Int)]) (by simp) (by simp) hc4
    exact ⟨_, c5, hc5, hlen _, fun kf => by simp only [cond_true, e5]; rfl⟩
  cases w == 1
  rotate_left
  · exact ⟨_, c4, hc4, hlen _, fun kf => by simp only [cond_true, cond_false]; rfl⟩
  cases w == 2
  rotate_left
  · exact ⟨_, c4, hc4, hlen _, fun kf => by simp only [cond_true, cond_false]; rfl⟩
  · exact ⟨l, c4, hc4, hl8, fun kf => by simp only [cond_false]⟩
end Go.Pv.R
namespace Go.Pv.R
set_option linter.unusedVariables false
set_option linter.unusedSimpArgs false
end Go.Pv.R
namespace Go.Pv.R
set_option linter.unusedVariables false
set_option linter.unusedSimpArgs false
def numW (a : Int) (l : List Line) : Nat := (l.filter fun x => x.2.1 == a).length
theorem what_fold (a : Int) : ∀ (l : List Line) (i s : Nat), s + l.length ≤ 1000000 → foldI (whatM a) l i (s : Int) = ((s + numW a l : Nat) : Int)
  | [], _, _, _ => by simp [foldI, numW]
  | x :: r, i, s, h => by
    simp only [List.length_cons] at h
    simp only [foldI, numW, List.filter_cons]
    cases hx : x.2.1 == a with
    | false =>
      have e : whatM a i x (s : Int) = (s : Int) := by unfold whatM; rw [hx]; rfl
      rw [e]
      exact what_fold a r (i + 1) s (by omega)
    | true =>
      have e : whatM a i x (s : Int) = ((s + 1 : Nat) : Int) := by unfold whatM; rw [hx, cond_true, wrap64 (by omega) (by omega)]; omega
      rw [e, what_fold a r (i + 1) (s + 1) (by omega)]
      simp only [if_true, List.length_cons]
      unfold numW
      omega
theorem impl_CountWhat_ok {N : Nat} {l : List Line} {a : Int} {kf : Int → Option Ret} (hl : l.length ≤ 1000000) (hN : l.length < N) : impl_CountWhat N l a kf = kf (numW a l : Int) := by
  have hm := maxLen_eq
  unfold impl_CountWhat
  rw [impl_CountWhat_l3_r (by omega) hN, goL1_f (whatM a) (fun i x s next h e => by unfold whatM; cases x.2.1 == a <;> rfl)]
  have := what_fold a l 0 0 (by omega)
  rw [Nat.zero_add] at this
  exact congrArg kf this
end Go.Pv.R
namespace Go.Pv.R
set_option linter.unusedVariables false
set_option linter.unusedSimpArgs false
end Go.Pv.R
namespace Go.Pv.R
set_option linter.unusedVariables false
set_option linter.unusedSimpArgs false
end Go.Pv.R
namespace Go.Pv.R
set_option linter.unusedVariables false
set_option linter.unusedSimpArgs false
end Go.Pv.R
namespace Go.Pv.R
set_option linter.unusedVariables false
set_option linter.unusedSimpArgs false
end Go.Pv.R
namespace Go.Pv.R
set_option linter.unusedVariables false
set_option linter.unusedSimpArgs false
end Go.Pv.R
namespace Go.Pv.R
set_option linter.unusedVariables false
set_option linter.unusedSimpArgs false
theorem graph_two {g : Graph} (hg : isGraphM g = true) {i : Nat} (hi : i < g.2.length) : ∃ p q, g.2.getD i [] = [p, q] := by
  unfold isGraphM at hg
  simp only [Bool.and_eq_true] at hg
  have h2 := hg.2
  rw [allI_iff] at h2
  have := graphP_len (h2 i hi)
  obtain ⟨p, q, e⟩ := two_of this
  exact ⟨p, q, by rw [List.getD_eq_getElem?_getD, List.getElem?_eq_getElem hi]; exact e⟩
theorem copy_l3 {g z : Graph} (hg : isGraphM g = true) (hl : g.2.length ≤ 100) : ∀ (d i n : Nat) (x : Graph), i + d = g.2.length → d < n → x = (g.1, g.2.take i) → ∀ kf, spec_l4Copy_l3 g z n kf x (i : Int) = kf g := by
  intro d
  induction d with
  | zero =>
    intro i n x hi hn hx kf
    obtain ⟨n, rfl⟩ : ∃ j, n = j + 1 := ⟨n - 1, by omega⟩
    unfold spec_l4Copy_l3
    rw [decide_eq_false (by omega), hx, List.take_of_length_le (by omega)]
    rfl
  | succ d ih =>
    intro i n x hi hn hx kf
    obtain ⟨n, rfl⟩ : ∃ j, n = j + 1 := ⟨n - 1, by omega⟩
    obtain ⟨p, q, e⟩ := graph_two hg (i := i) (by omega)
    have hxl : x.2.length = i := by rw [hx]; simp; omega
    unfold spec_l4Copy_l3
    rw [decide_eq_true (by omega), cond_true, inB_nat (by omega), cond_true, Int.toNat_natCast, e, wrap64 (n := (i : Int) + 1) (by omega) (by omega)]
    rw [show decide ((List.length ([] : List Int) + List.length [p, q]) * 1 ≤ 4398046511104) = true from rfl, cond_true, one_app (i := i) (by omega) (by omega), cond_true]
    refine ih (i + 1) n _ (by omega) (by omega) ?_ kf
    rw [hx]
    simp only [List.nil_append, Prod.mk.injEq, true_and]
    rw [← e, List.getD_eq_getElem?_getD, List.take_add_one, List.getElem?_eq_getElem (by omega)]
    rfl
theorem copyG_ok {N : Nat} {g : Graph} (hg : isGraphM g = true) (hl : g.2.length ≤ 100) (hN : 200 < N) {kf : Graph → Option Ret} : spec_l4Copy N g kf = kf g := by
  unfold spec_l4Copy
  exact copy_l3 hg hl g.2.length 0 N _ (by omega) (by omega) (by simp) kf
theorem add_l4 {N : Nat} {a b : Int} {g z : Graph} (hg : isGraphM g = true) (hl : g.2.length ≤ 100) (hN : 200 < N) : ∀ (d i n : Nat) (x : Graph) (o : Bool), i + d = g.2.length → d < n → x.2.length ≤ i + (bif o then 1 else 0) →
    ∃ (x' : Graph) (o' : Bool), x'.1 = x.1 ∧ x'.2.length ≤ g.2.length + (bif o' then 1 else 0) ∧ ∀ kf, spec_AddAttack_l4 N a b g z n kf x o (i : Int) = kf x' o' := by
  intro d
  induction d with
  | zero =>
    intro i n x o hi hn hx
    obtain ⟨n, rfl⟩ : ∃ j, n = j + 1 := ⟨n - 1, by omega⟩
    refine ⟨x, o, rfl, by omega, fun kf => ?_⟩
    unfold spec_AddAttack_l4
    rw [decide_eq_false (by omega)]
    rfl
  | succ d ih =>
    intro i n x o hi hn hx
    obtain ⟨n, rfl⟩ : ∃ j, n = j + 1 := ⟨n - 1, by omega⟩
    obtain ⟨p, q, e⟩ := graph_two hg (i := i) (by omega)
    have h1 : ∀ y : Graph, y.1 = x.1 → y.2.length ≤ (i + 1) + (bif o then 1 else 0) → ∃ (x' : Graph) (o' : Bool), x'.1 = x.1 ∧ x'.2.length ≤ g.2.length + (bif o' then 1 else 0) ∧ ∀ kf, spec_AddAttack_l4 N a b g z n kf y o ((i + 1 : Nat) : Int) = kf x' o' := fun y h1 h2 => by
      obtain ⟨x', o', q1, q2, q3⟩ := ih (i + 1) n y o (by omega) (by omega) h2
      exact ⟨x', o', q1.trans h1, q2, q3⟩
    have hw : IntKind.wrap .i64 ((i : Int) + 1) = ((i + 1 : Nat) : Int) := by rw [wrap64 (by omega) (by omega)]; omega
    have hbo : (bif o then 1 else 0 : Nat) ≤ 1 := by cases o <;> simp
    have hc : ∀ m : Nat, m ≤ 1000 → decide ((m + 1) * 1 ≤ 4398046511104) = true := fun m hm => decide_eq_true (by omega)
    have step2 : ∀ k, spec_AddAttack_j2 k (i : Int) g x o = k (x.1, x.2 ++ [[p, q]]) o ((i + 1 : Nat) : Int) := fun k => by
      unfold spec_AddAttack_j2
      rw [Int.toNat_natCast, e, hw]
      rw [show decide ((List.length ([] : List Int) + List.length [p, q]) * 1 ≤ 4398046511104) = true from rfl, cond_true, List.length_singleton, hc _ (by omega)]
      rfl
    have step1 : ∀ k, spec_AddAttack_j1 k (i : Int) a b g x = k (x.1, (x.2 ++ [[a, b]]) ++ [[p, q]]) true ((i + 1 : Nat) : Int) := fun k => by
      unfold spec_AddAttack_j1
      rw [Int.toNat_natCast, e, hw]
      rw [show decide ((List.length ([] : List Int) + List.length [p, q]) * 1 ≤ 4398046511104) = true from rfl, cond_true, List.length_singleton, hc _ (by simp; omega)]
      rfl
    have done2 : ∃ (x' : Graph) (o' : Bool), x'.1 = x.1 ∧ x'.2.length ≤ g.2.length + (bif o' then 1 else 0) ∧ ∀ kf, spec_AddAttack_j2 (spec_AddAttack_l4 N a b g z n kf) (i : Int) g x o = kf x' o' := by
      obtain ⟨x', o', q1, q2, q3⟩ := h1 (x.1, x.2 ++ [[p, q]]) rfl (by simp; omega)
      exact ⟨x', o', q1, q2, fun kf => by rw [step2]; exact q3 kf⟩
    have done1 : o = false → ∃ (x' : Graph) (o' : Bool), x'.1 = x.1 ∧ x'.2.length ≤ g.2.length + (bif o' then 1 else 0) ∧ ∀ kf, spec_AddAttack_j1 (spec_AddAttack_l4 N a b g z n kf) (i : Int) a b g x = kf x' o' := fun ho => by
      obtain ⟨x', o', q1, q2, q3⟩ := ih (i + 1) n (x.1, (x.2 ++ [[a, b]]) ++ [[p, q]]) true (by omega) (by omega) (by rw [ho] at hx; simp at hx ⊢; omega)
      exact ⟨x', o', q1, q2, fun kf => by rw [step1]; exact q3 kf⟩
    have head : ∀ kf, spec_AddAttack_l4 N a b g z (n + 1) kf x o (i : Int) = bif (!o) then (bif decide (p > a) then spec_AddAttack_j1 (spec_AddAttack_l4 N a b g z n kf) (i : Int) a b g x else bif p == a then (bif decide (q > b) then spec_AddAttack_j1 (spec_AddAttack_l4 N a b g z n kf) (i : Int) a b g x else spec_AddAttack_j2 (spec_AddAttack_l4 N a b g z n kf) (i : Int) g x o) else spec_AddAttack_j2 (spec_AddAttack_l4 N a b g z n kf) (i : Int) g x o) else spec_AddAttack_j2 (spec_AddAttack_l4 N a b g z n kf) (i : Int) g x o := fun kf => by
      rw [spec_AddAttack_l4]
      rw [decide_eq_true (by omega), cond_true, spec_IsGraph_ok (by omega) (by omega), hg, cond_true, inB_nat (by omega), cond_true, Int.toNat_natCast, e, List.length_singleton, hc _ (by omega)]
      rfl
    cases o with
    | true =>
      obtain ⟨x', o', q1, q2, q3⟩ := done2
      exact ⟨x', o', q1, q2, fun kf => by rw [head]; exact q3 kf⟩
    | false =>
      by_cases hp : p > a
      · obtain ⟨x', o', q1, q2, q3⟩ := done1 rfl
        exact ⟨x', o', q1, q2, fun kf => by rw [head, decide_eq_true hp]; exact q3 kf⟩
      · cases hpa : p == a with
        | false =>
          obtain ⟨x', o', q1, q2, q3⟩ := done2
          exact ⟨x', o', q1, q2, fun kf => by rw [head, decide_eq_false hp, hpa]; exact q3 kf⟩
        | true =>
          by_cases hq : q > b
          · obtain ⟨x', o', q1, q2, q3⟩ := done1 rfl
            exact ⟨x', o', q1, q2, fun kf => by rw [head, decide_eq_false hp, hpa, decide_eq_true hq]; exact q3 kf⟩
          · obtain ⟨x', o', q1, q2, q3⟩ := done2
            exact ⟨x', o', q1, q2, fun kf => by rw [head, decide_eq_false hp, hpa, decide_eq_false hq]; exact q3 kf⟩
theorem addG_ok {N : Nat} {a b : Int} {g : Graph} (hg : isGraphM g = true) (hl : g.2.length ≤ 99) (hN : 200 < N) : ∃ (g' : Graph) (o : Bool), isGraphM g' = true ∧ g'.1 = g.1 ∧ g'.2.length ≤ g.2.length + 1 ∧ ∀ kf, spec_AddAttack N g a b kf = kf g' o := by
  obtain ⟨x, o, h1, h2, h3⟩ := add_l4 (N := N) (a := a) (b := b) (z := ((0 : Int), ([] : List (List Int)))) hg (by omega) hN g.2.length 0 N (g.1, []) false (by omega) (by omega) (by simp)
  have hbo : (bif o then 1 else 0 : Nat) ≤ 1 := by cases o <;> simp
  have fin : ∀ y : Graph, y.1 = g.1 → y.2.length ≤ g.2.length + 1 → ∃ (g' : Graph) (o : Bool), isGraphM g' = true ∧ g'.1 = g.1 ∧ g'.2.length ≤ g.2.length + 1 ∧ ∀ kf, spec_AddAttack_j3 N g kf y = kf g' o := fun y y1 y2 => by
    cases hy : isGraphM y with
    | true =>
      refine ⟨y, true, hy, y1, y2, fun kf => ?_⟩
      unfold spec_AddAttack_j3
      rw [spec_IsGraph_ok (by omega) (by omega), hg, Bool.not_true, cond_false, spec_IsGraph_ok (by omega) (by omega), hy]
      rfl
    | false =>
      refine ⟨g, false, hg, rfl, by omega, fun kf => ?_⟩
      unfold spec_AddAttack_j3
      rw [spec_IsGraph_ok (by omega) (by omega), hg, Bool.not_true, cond_false, spec_IsGraph_ok (by omega) (by omega), hy, Bool.not_false, cond_true, copyG_ok hg (by omega) hN]
  cases o with
  | true =>
    obtain ⟨g', o', q1, q2, q3, q4⟩ := fin x h1 (by simpa using h2)
    refine ⟨g', o', q1, q2, q3, fun kf => ?_⟩
    unfold spec_AddAttack
    exact (h3 _).trans (q4 kf)
  | false =>
    have h2 : x.2.length ≤ g.2.length := by simpa using h2
    obtain ⟨g', o', q1, q2, q3, q4⟩ := fin (x.1, x.2 ++ [[a, b]]) h1 (by simp; omega)
    refine ⟨g', o', q1, q2, q3, fun kf => ?_⟩
    unfold spec_AddAttack
    refine (h3 _).trans ?_
    rw [Bool.not_false, cond_true, one_app (i := 200) (by omega) (by omega)]
    exact q4 kf
end Go.Pv.R
namespace Go.Pv.R
set_option linter.unusedVariables false
set_option linter.unusedSimpArgs false
theorem l4_l3 {N : Nat} (hN : 300 < N) {z : Graph} : ∀ (k n : Nat) (c : Cur) (g : Graph), CurOK c → isGraphM g = true → (1 ≤ g.1 ∧ g.1 ≤ 10) → g.2.length + k ≤ 50 → k < n → ∃ (g' : Graph) (c' : Cur), CurOK c' ∧ g'.2.length ≤ g.2.length + k ∧ ∀ kf, spec_l4Draw_l3 N z n kf c g (k : Int) = kf c' g' := by
  intro k
  induction k with
  | zero =>
    intro n c g hc hg h1 hl hn
    obtain ⟨n, rfl⟩ : ∃ j, n = j + 1 := ⟨n - 1, by omega⟩
    refine ⟨g, c, hc, by omega, fun kf => ?_⟩
    unfold spec_l4Draw_l3
    rw [decide_eq_false (by omega)]
    rfl
  | succ k ih =>
    intro n c g hc hg h1 hl hn
    obtain ⟨n, rfl⟩ : ∃ j, n = j + 1 := ⟨n - 1, by omega⟩
    obtain ⟨a, c1, hc1, _, e1⟩ := below (N := N) (n := g.1) (by omega) (by omega) hc
    obtain ⟨b, c2, hc2, _, e2⟩ := below (N := N) (n := g.1) (by omega) (by omega) hc1
    obtain ⟨g1, o, hg1, hn1, hl1, e3⟩ := addG_ok (N := N) (a := a) (b := b) hg (by omega) (by omega)
    obtain ⟨g2, c3, hc3, hl3, e4⟩ := ih n c2 g1 hc2 hg1 (by omega) (by omega) (by omega)
    refine ⟨g2, c3, hc3, by omega, fun kf => ?_⟩
    unfold spec_l4Draw_l3
    rw [decide_eq_true (by omega), cond_true, e1, e2, e3, show IntKind.wrap .i64 (((k + 1 : Nat) : Int) - 1) = (k : Int) by rw [wrap64 (by omega) (by omega)]; omega]
    exact e4 kf
theorem l4Draw_draws {N : Nat} (hN : 300 < N) : Draws (spec_l4Draw N) fun g => g.2.length ≤ 10 := fun c hc => by
  obtain ⟨v, c1, hc1, hv, e1⟩ := below (N := N) (n := 6) (by omega) (by omega) hc
  obtain ⟨w, c2, hc2, hw, e2⟩ := below (N := N) (n := 10) (by omega) (by omega) hc1
  obtain ⟨k, rfl⟩ : ∃ k : Nat, w = (k : Int) := ⟨w.toNat, by omega⟩
  have hg0 : isGraphM ((1 + v, []) : Graph) = true := by
    unfold isGraphM
    rw [show inR (1 + v) 0 10 = true from (inR_iff).2 (by omega)]
    rfl
  obtain ⟨g, c3, hc3, hl, e3⟩ := l4_l3 (N := N) hN (z := ((0 : Int), ([] : List (List Int)))) k N c2 (1 + v, []) hc2 hg0 (by show 1 ≤ 1 + v ∧ 1 + v ≤ 10; omega) (by simp; omega) (by omega)
  refine ⟨g, c3, hc3, by simp at hl; omega, fun kf => ?_⟩
  unfold spec_l4Draw
  rw [e1, e2, wrap64 (n := 1 + v) (by omega) (by omega)]
  exact e3 _
theorem l4Any_draws {N : Nat} (hN : 300 < N) : Draws (spec_l4Any N) fun g => g.2.length ≤ 11 := fun c hc => by
  obtain ⟨g, c1, hc1, hg, e1⟩ := l4Draw_draws (N := N) hN c hc
  obtain ⟨v, c2, hc2, hv, e2⟩ := below (N := N) (n := 14) (by omega) (by omega) hc1
  unfold spec_l4Any
  simp only [e1, e2]
  cases h0 : v == 0 with
  | true =>
    obtain ⟨w, c3, hc3, _, e3⟩ := oneOf (N := N) (l := [(-1 : Int), (0 : Int), (5 : Int), (10 : Int), (11 : Int), (9223372036854775807 : Int), (-9223372036854775808 : Int)]) (by simp) (by simp) hc2
    exact ⟨(w, g.2), c3, hc3, by show g.2.length ≤ 11; omega, fun kf => by unfold spec_l4Raw; simp only [cond_true, e3]⟩
  | false =>
    cases h1 : v == 1 with
    | true => exact ⟨(g.1, g.2 ++ [[(0 : Int)]]), c2, hc2, by simp; omega, fun kf => by simp only [cond_false, cond_true]; rw [one_app (i := 200) (by omega) (by omega)]; rfl⟩
    | false =>
      cases h2 : v == 2 with
      | false => exact ⟨g, c2, hc2, by omega, fun kf => by simp only [cond_false]⟩
      | true =>
        obtain ⟨x, c3, hc3, _, e3⟩ := below (N := N) (n := 7) (by omega) (by omega) hc2
        obtain ⟨y, c4, hc4, _, e4⟩ := below (N := N) (n := 7) (by omega) (by omega) hc3
        exact ⟨(g.1, g.2 ++ [[x, y]]), c4, hc4, by simp; omega, fun kf => by simp only [cond_false, cond_true, e3, e4]; rw [one_app (i := 200) (by omega) (by omega)]; rfl⟩
theorem sideShare_in {N : Nat} {x : Team} (hm : x.met.length ≤ 20) : ∃ r, (0 ≤ r ∧ r ≤ 100) ∧ (∀ kf, spec_SideShare N x kf = kf r) ∧ ∀ kf, impl_SideShare N x kf = kf r := by
  have hm : x.2.2.2.2.2.length ≤ 20 := hm
  by_cases h0 : x.2.2.2.2.2.length = 0
  · refine ⟨0, by omega, fun kf => ?_, fun kf => ?_⟩
    · unfold spec_SideShare; rw [h0]; rfl
    · unfold impl_SideShare; rw [h0]; rfl
  have hb : ((x.2.2.2.2.2.length : Int) == 0) = false := by rw [beq_eq_false_iff_ne]; omega
  have hd : (!decide ((x.2.2.2.2.2.length : Int) = 0)) = true := by rw [decide_eq_false (by omega)]; rfl
  cases hr : inR x.2.2.2.2.1 0 (x.2.2.2.2.2.length : Int) with
  | false =>
    refine ⟨0, by omega, fun kf => ?_, fun kf => ?_⟩
    · unfold spec_SideShare; rw [hb, cond_false, spec_l1In_ok, hr]; rfl
    · unfold impl_SideShare; rw [hb, cond_false, impl_InRange_ok, hr]; rfl
  | true =>
    have h1 := inR_iff.1 hr
    refine ⟨IntKind.wrap .i64 (Int.tdiv (IntKind.wrap .i64 ((100 : Int) * x.2.2.2.2.1)) (x.2.2.2.2.2.length : Int)), ?_, fun kf => ?_, fun kf => ?_⟩
    · rw [wrap64 (n := (100 : Int) * x.2.2.2.2.1) (by omega) (by omega), Int.tdiv_eq_ediv_of_nonneg (by omega)]
      have h9 : (100 : Int) * x.2.2.2.2.1 / (x.2.2.2.2.2.length : Int) ≤ 100 := Int.ediv_le_of_le_mul (by omega) (by omega)
      have h10 : 0 ≤ (100 : Int) * x.2.2.2.2.1 / (x.2.2.2.2.2.length : Int) := Int.ediv_nonneg (by omega) (by omega)
      rw [wrap64 (by omega) (by omega)]
      exact ⟨h10, h9⟩
    · unfold spec_SideShare; rw [hb, cond_false, spec_l1In_ok, hr, hd]; rfl
    · unfold impl_SideShare; rw [hb, cond_false, impl_InRange_ok, hr, hd]; rfl
end Go.Pv.R
namespace Go.Pv.R
set_option linter.unusedVariables false
set_option linter.unusedSimpArgs false
def winsOf (a : Int) : List Team → Int
  | [] => 0
  | x :: r => (if x.2.1 = a then x.2.2.1 else 0) + winsOf a r
def winsAll : List Team → Int
  | [] => 0
  | x :: r => x.2.2.1 + winsAll r
def WinsLe (l : List Team) : Prop := ∀ x : Team, x ∈ l → 0 ≤ x.2.2.1 ∧ x.2.2.1 ≤ 20
theorem WinsLe.tail {x : Team} {r : List Team} (h : WinsLe (x :: r)) : WinsLe r := fun y hy => h y (List.mem_cons_of_mem _ hy)
theorem winsOf_in (a : Int) : ∀ {l : List Team}, WinsLe l → 0 ≤ winsOf a l ∧ winsOf a l ≤ 20 * l.length
  | [], _ => by simp [winsOf]
  | x :: r, h => by
    have h1 := winsOf_in a h.tail
    have h2 := h x (List.mem_cons_self ..)
    rw [winsOf, List.length_cons]
    split <;> omega
theorem wins_three : ∀ {l : List Team}, WinsLe l → winsOf 1 l + winsOf 2 l + winsOf 3 l ≤ winsAll l
  | [], _ => by simp [winsOf, winsAll]
  | x :: r, h => by
    have h1 := wins_three h.tail
    have h2 := h x (List.mem_cons_self ..)
    rw [winsOf, winsOf, winsOf, winsAll]
    split
    · rw [if_neg (by omega), if_neg (by omega)]; omega
    · split
      · rw [if_neg (by omega)]; omega
      · split <;> omega
theorem winsM_fold (a : Int) : ∀ (l : List Team) (i : Nat) (s : Int), WinsLe l → 0 ≤ s → s + 20 * l.length ≤ 1000000 → foldI (winsM a) l i s = s + winsOf a l
  | [], i, s, _, _, _ => by simp [foldI, winsOf]
  | x :: r, i, s, h, h0, h1 => by
    have h2 := h x (List.mem_cons_self ..)
    rw [List.length_cons] at h1
    rw [foldI, winsOf]
    unfold winsM
    by_cases hc : x.2.1 = a
    · rw [show (x.2.1 == a) = true by rw [hc]; simp, cond_true, wrap64 (by omega) (by omega), if_pos hc]
      have := winsM_fold a r (i + 1) (s + x.2.2.1) h.tail (by omega) (by omega)
      unfold winsM at this
      rw [this]; omega
    · rw [show (x.2.1 == a) = false by rw [beq_eq_false_iff_ne]; exact hc, cond_false, if_neg hc]
      have := winsM_fold a r (i + 1) s h.tail (by omega) (by omega)
      unfold winsM at this
      rw [this]; omega
theorem winsT_fold : ∀ (l : List Team) (i : Nat) (s : Int), WinsLe l → 0 ≤ s → s + 20 * l.length ≤ 1000000 → foldI (fun _ (x : Team) s => IntKind.wrap .i64 (s + x.2.2.1)) l i s = s + winsAll l
  | [], i, s, _, _, _ => by simp [foldI, winsAll]
  | x :: r, i, s, h, h0, h1 => by
    have h2 := h x (List.mem_cons_self ..)
    rw [List.length_cons] at h1
    rw [foldI, winsAll, wrap64 (by omega) (by omega), winsT_fold r (i + 1) _ h.tail (by omega) (by omega)]
    omega
theorem wins_le {l : List Team} (h : areTeamsM l = true) : WinsLe l := fun x hx => by
  unfold areTeamsM at h
  simp only [Bool.and_eq_true] at h
  have h2 := h.2.1
  rw [allI_iff] at h2
  obtain ⟨i, hi, rfl⟩ := List.mem_iff_getElem.1 hx
  have := h2 i hi
  unfold teamP at this
  simp only [Bool.and_eq_true, decide_eq_true_eq, inR_iff] at this
  omega
def cwM (l : List Team) (a : Int) : Int := bif areTeamsM l then winsOf a l else 0
theorem clubWins_ok {N : Nat} {l : List Team} {a : Int} {kf : Int → Option Ret} (hl : l.length ≤ 10) (hm : MetLe 20 l) (hN : 200 < N) : impl_ClubWins N l a kf = kf (cwM l a) := by
  have hx := maxLen_eq
  unfold impl_ClubWins cwM
  rw [impl_AreTeams_ok (by omega) (fun x hx => by have := hm x hx; omega) (by omega)]
  cases h : areTeamsM l with
  | false => rfl
  | true =>
    simp only [Bool.not_true, cond_false, cond_true]
    rw [impl_ClubWins_l5_r (by omega) (by omega), goL1_f (winsM a) (fun i x s next h e => by unfold winsM; cases x.2.1 == a <;> rfl), winsM_fold a l 0 0 (wins_le h) (by omega) (by omega), Int.zero_add]
theorem totalWins_le {N : Nat} {l : List Team} (hl : l.length ≤ 10) (hm : MetLe 20 l) (hN : 200 < N) : ∃ t, cwM l 1 + cwM l 2 + cwM l 3 ≤ t ∧ ∀ kf, impl_TotalWins N l kf = kf t := by
  have hx := maxLen_eq
  refine ⟨_, ?_, fun kf => impl_TotalWins_ok (by omega) (fun x hx => by have := hm x hx; omega) (by omega)⟩
  unfold cwM
  cases h : areTeamsM l with
  | false => simp
  | true =>
    simp only [cond_true]
    rw [winsT_fold l 0 0 (wins_le h) (by omega) (by omega), Int.zero_add]
    exact wins_three (wins_le h)
theorem cwM_in {l : List Team} (a : Int) (hl : l.length ≤ 10) : 0 ≤ cwM l a ∧ cwM l a ≤ 200 := by
  unfold cwM
  cases h : areTeamsM l with
  | false => simp
  | true =>
    have := winsOf_in a (wins_le h)
    simp only [cond_true]
    omega
theorem l6_ok {N M : Nat} {a : List Int} {l : List Team} {club : Int} {kf : Int → Option Ret} (hl : l.length ≤ 10) (hm : MetLe 20 l) (hN : 200 < N) (hM : 4 ≤ M) : laws_FnMeasured_l6 N a l club M kf (0 : Int) (1 : Int) = kf (cwM l 1 + cwM l 2 + cwM l 3) := by
  have b1 := cwM_in (l := l) 1 hl
  have b2 := cwM_in (l := l) 2 hl
  have b3 := cwM_in (l := l) 3 hl
  have step : ∀ (n : Nat) (x k : Int), 0 ≤ x → x ≤ 1000 → 1 ≤ k → k ≤ 3 → laws_FnMeasured_l6 N a l club (n + 1) kf x k = laws_FnMeasured_l6 N a l club n kf (x + cwM l k) (k + 1) := fun n x k h0 h1 h2 h3 => by
    have b := cwM_in (l := l) k hl
    rw [laws_FnMeasured_l6, decide_eq_true h3, cond_true, clubWins_ok hl hm hN, wrap64 (by omega) (by omega), wrap64 (by omega) (by omega)]
  obtain ⟨m, rfl⟩ : ∃ m, M = m + 4 := ⟨M - 4, by omega⟩
  rw [show m + 4 = (m + 3) + 1 from rfl, step _ _ _ (by omega) (by omega) (by omega) (by omega), show (1 : Int) + 1 = 2 from rfl, show m + 3 = (m + 2) + 1 from rfl, step _ _ _ (by omega) (by omega) (by omega) (by omega), show (2 : Int) + 1 = 3 from rfl, show m + 2 = (m + 1) + 1 from rfl, step _ _ _ (by omega) (by omega) (by omega) (by omega), laws_FnMeasured_l6, decide_eq_false (by omega), cond_false]
  congr 1
  omega
end Go.Pv.R
namespace Go.Pv.R
set_option linter.unusedVariables false
set_option linter.unusedSimpArgs false
theorem average_nn {N : Nat} {x : Team} (hp : x.2.2.2.1 ≤ 1000000) : ∃ r, 0 ≤ r ∧ ∀ kf, impl_AveragePoints N x kf = kf r := by
  by_cases h0 : x.2.2.2.2.2.length = 0
  · exact ⟨0, by omega, fun kf => by unfold impl_AveragePoints; rw [h0]; rfl⟩
  have hb : ((x.2.2.2.2.2.length : Int) == 0) = false := by rw [beq_eq_false_iff_ne]; omega
  have hd : (!decide ((x.2.2.2.2.2.length : Int) = 0)) = true := by rw [decide_eq_false (by omega)]; rfl
  by_cases h1 : x.2.2.2.1 < 0
  · exact ⟨0, by omega, fun kf => by unfold impl_AveragePoints; rw [hb, cond_false, decide_eq_true h1]; rfl⟩
  refine ⟨IntKind.wrap .i64 (Int.tdiv x.2.2.2.1 (x.2.2.2.2.2.length : Int)), ?_, fun kf => by unfold impl_AveragePoints; rw [hb, cond_false, decide_eq_false h1, cond_false, hd]; rfl⟩
  rw [Int.tdiv_eq_ediv_of_nonneg (by omega)]
  have h9 : x.2.2.2.1 / (x.2.2.2.2.2.length : Int) ≤ x.2.2.2.1 := Int.ediv_le_self _ (by omega)
  have h10 : 0 ≤ x.2.2.2.1 / (x.2.2.2.2.2.length : Int) := Int.ediv_nonneg (by omega) (by omega)
  rw [wrap64 (by omega) (by omega)]
  exact h10
theorem busiest_some {l : List QIILIE} {N : Nat} (h1 : 1 ≤ l.length) (hl : l.length ≤ maxLen) (hN : l.length < N) : ∃ r, ∀ kf, impl_BusiestJudge N l kf = kf r := by
  cases l with
  | nil => simp at h1
  | cons x r =>
    obtain ⟨v, hv, h⟩ := busy_both (l := x :: r) r 1 0 (by simp) rfl
    refine ⟨((x :: r)[v]).1, fun kf => ?_⟩
    unfold impl_BusiestJudge
    have hp : inB (0 : Int) (x :: r).length = true := inB_nat (i := 0) (by simp)
    rw [impl_BusiestJudge_l5_r hl hN, hp]
    have e : (((x :: r).length : Int) == 0) = false := by simp; omega
    rw [e, cond_false, cond_true]
    simp only [goL1]
    have e2 : List.getD (x :: r) (Int.toNat 0) zQIILIE = x := rfl
    rw [e2, decide_eq_false (by omega), cond_false]
    exact (h (fun _ => none) _).2
theorem lawFnMeasured (a : List Int) (h : wfs [.sl (.int .u8)] (a, ())) : ∃ N, ∀ kf, laws_FnMeasured N a kf = kf true := by
  obtain ⟨N, hN⟩ : ∃ N : Nat, N = 5000 := ⟨_, rfl⟩
  refine ⟨N, fun kf => ?_⟩
  have hx := maxLen_eq
  unfold laws_FnMeasured laws_FnMeasured_g laws_big
  by_cases hb : (List.length a : Int) > 1048576
  · rw [decide_eq_true hb]; rfl
  rw [decide_eq_false hb]
  simp only [cond_false]
  obtain ⟨c0, hc0, e0⟩ := l1New_ok (N := N) (a := a) (by omega) (by omega)
  obtain ⟨l, c1, hc1, ⟨l1, l2, l3⟩, e1⟩ := l19Any_draws (N := N) (by omega) c0 hc0
  obtain ⟨club, c2, hc2, _, e2⟩ := below (N := N) (n := 5) (by omega) (by omega) hc1
  obtain ⟨j, c3, hc3, ⟨j1, j2, _⟩, e3⟩ := l21Any_draws (N := N) (by omega) c0 hc0
  obtain ⟨g, c4, hc4, hg, e4⟩ := l4Any_draws (N := N) (by omega) c0 hc0
  obtain ⟨m, c5, hc5, hm, e5⟩ := l27Any_draws (N := N) (by omega) c0 hc0
  obtain ⟨what, c6, hc6, _, e6⟩ := below (N := N) (n := 10) (by omega) (by omega) hc5
  have d1 : ∀ kf, spec_DrawClubWins N a kf = kf l club := fun kf => by unfold spec_DrawClubWins; simp only [e0, e1, e2]
  have d2 : ∀ kf, spec_DrawSideShare N a kf = kf (l.getD 0 zQIIIIILIE) := fun kf => by
    unfold spec_DrawSideShare spec_DrawAveragePoints
    simp only [e0, e1]
    rw [show inB (0 : Int) (List.length l) = true from inB_nat (i := 0) (m := l.length) (by omega)]
    rfl
  have d3 : ∀ kf, spec_DrawBusiestJudge N a kf = kf j := fun kf => by unfold spec_DrawBusiestJudge spec_DrawAreJudges; simp only [e0, e3]
  have d4 : ∀ kf, spec_DrawOpenShare N a kf = kf g := fun kf => by unfold spec_DrawOpenShare spec_DrawIsGraph; simp only [e0, e4]
  have d5 : ∀ kf, spec_DrawCountWhat N a kf = kf m what := fun kf => by unfold spec_DrawCountWhat; simp only [e0, e5, e6]
  have ht := l3 (l.getD 0 zQIIIIILIE) (by rw [getD_nat _ _ (show 0 < l.length by omega)]; exact List.getElem_mem _)
  have hml : MetLe 20 l := fun x hx => by have := l3 x hx; exact ⟨by omega, this.2⟩
  obtain ⟨s, hs, s1, s2⟩ := sideShare_in (N := N) (x := l.getD 0 zQIIIIILIE) (by have := ht.1; omega)
  obtain ⟨av, hav, av1⟩ := average_nn (N := N) (x := l.getD 0 zQIIIIILIE) ht.2
  obtain ⟨bj, bj2⟩ := busiest_some (N := N) (l := j) j1 (by omega) (by omega)
  obtain ⟨o, ho, _, o2⟩ := OpenShare_same (N := N) (g := g) (by omega) (by omega)
  obtain ⟨tw, htw, tw1⟩ := totalWins_le (N := N) (l := l) (by omega) hml (by omega)
  have hcw := cwM_in (l := l) club (by omega)
  have hnw : numW what m ≤ m.length := by unfold numW; exact List.length_filter_le ..
  rw [d1, l6_ok (by omega) hml (by omega) (by omega), d2, s2, s1, bne_self_eq_false, cond_false, d3, bj2, d4, o2, d5, tw1, decide_eq_true htw, cond_true, clubWins_ok (by omega) hml (by omega), decide_eq_true (show cwM l club ≥ 0 by omega), cond_true, decide_eq_true (show s ≥ 0 by omega), cond_true, decide_eq_true (show s ≤ 100 by omega), cond_true, av1, decide_eq_true (show av ≥ 0 from hav), cond_true, decide_eq_true (show (List.length j : Int) > 0 by omega), cond_true, decide_eq_true (show o ≥ 0 by omega), cond_true, decide_eq_true (show o ≤ 100 by omega), cond_true, impl_CountWhat_ok (by omega) (by omega), decide_eq_true (by omega)]
end Go.Pv.R
