/- The law over the plain functions. -/
import Derived.Test.YtclodbdakphhfaaPlHz
namespace Go.Pv.R
set_option linter.unusedVariables false
set_option linter.unusedSimpArgs false
end Go.Pv.R
namespace Go.Pv.R
set_option linter.unusedVariables false
set_option linter.unusedSimpArgs false
theorem spec_l1In_ok {N : Nat} {a b c : Int} {kf : Bool → Option Ret} : spec_l1In N a b c kf = kf (inR a b c) := by
  unfold spec_l1In inR
  by_cases h : b ≤ a <;> simp [h]
theorem impl_InRange_ok {N : Nat} {a b c : Int} {kf : Bool → Option Ret} : impl_InRange N a b c kf = kf (inR a b c) := by
  unfold impl_InRange inR
  by_cases h : b ≤ a <;> simp [h]
/-- What is asked first: is it all small? -/
theorem small_or {left : Int} {s : Nat} {A B : Option Ret} (h0 : 0 ≤ left) (h : (s : Int) ≤ left → B = A) : (bif decide (szr left s < 0) then A else B) = A := by
  by_cases hn : szr left s < 0
  · rw [decide_eq_true hn]; rfl
  · rw [decide_eq_false hn, cond_false]
    exact h (by have := (szr_neg (s := s) h0); omega)
end Go.Pv.R
namespace Go.Pv.R
set_option linter.unusedVariables false
set_option linter.unusedSimpArgs false
theorem tmod_both (a : Int) : (a.tmod 2147483647 = a % 2147483647 ∧ 0 ≤ a) ∨ (a.tmod 2147483647 = -((-a) % 2147483647) ∧ a < 0) := by
  rcases Int.lt_or_le a 0 with h | h
  · right
    refine ⟨?_, h⟩
    have h1 : (-a).tmod 2147483647 = (-a) % 2147483647 := Int.tmod_eq_emod_of_nonneg (by omega)
    rw [Int.neg_tmod] at h1
    omega
  · exact .inl ⟨Int.tmod_eq_emod_of_nonneg h, h⟩
theorem spec_Mod_ok {N : Nat} {a : Int} {kf : Int → Option Ret} : spec_Mod N a 2147483647 kf = kf (a % 2147483647) := by
  unfold spec_Mod
  rw [spec_l1In_ok, show inR 2147483647 1 1000000000000 = true from by decide]
  have e : (decide ((2147483647 : Int) = 0)) = false := by decide
  simp only [Bool.not_true, cond_false, e, Bool.not_false, cond_true]
  congr 1
  rcases tmod_both a with ⟨h, h'⟩ | ⟨h, h'⟩ <;> rw [h, wrap64 (by omega) (by omega), Int.tmod_eq_emod_of_nonneg (by omega)] <;> omega
theorem impl_Mod_ok {N : Nat} {a : Int} {kf : Int → Option Ret} : impl_Mod N a 2147483647 kf = kf (a % 2147483647) := by
  unfold impl_Mod
  rw [impl_InRange_ok, show inR 2147483647 1 1000000000000 = true from by decide]
  have e : (decide ((2147483647 : Int) = 0)) = false := by decide
  simp only [Bool.not_true, cond_false, e, Bool.not_false, cond_true]
  rcases tmod_both a with ⟨h, h'⟩ | ⟨h, h'⟩ <;> rw [h]
  · rw [decide_eq_false (by omega), cond_false]
  · by_cases hz : -((-a) % 2147483647) < 0
    · rw [decide_eq_true hz, cond_true, wrap64 (by omega) (by omega)]
      congr 1
      omega
    · rw [decide_eq_false hz, cond_false]
      congr 1
      omega
def foldM (i : Nat) (x s : Int) : Int := Int.tmod (IntKind.wrap .i64 ((IntKind.wrap .i64 ((IntKind.wrap .i64 (s * (1000003 : Int))) + x % 2147483647)) + (13 : Int))) (2147483647 : Int)
def hashM (l : List Int) : Int := foldI foldM l 0 11
theorem spec_Hash_ok {N : Nat} {l : List Int} {kf : Int → Option Ret} (hl : l.length ≤ maxLen) (hN : l.length < N) : spec_Hash N l kf = kf (hashM l) := by
  unfold spec_Hash
  rw [spec_Hash_l3_r hl hN, goL1_f foldM (fun i x s next h e => by rw [spec_Mod_ok]; rfl)]
  rfl
theorem impl_Hash_ok {N : Nat} {l : List Int} {kf : Int → Option Ret} (hl : l.length ≤ maxLen) (hN : l.length < N) : impl_Hash N l kf = kf (hashM l) := by
  unfold impl_Hash
  rw [impl_Hash_l3_r hl hN, goL1_f foldM (fun i x s next h e => by unfold impl_fold; rw [impl_Mod_ok]; rfl)]
  rfl
def sealM (s : Int) (x : QIIIIE) : Int := hashM [s, x.1, x.2.1, x.2.2.1]
theorem spec_l27Seal_ok {N : Nat} {s : Int} {x : QIIIIE} {kf : Int → Option Ret} (hN : 4 < N) : spec_l27Seal N s x kf = kf (sealM s x) := by
  unfold spec_l27Seal
  rw [spec_Hash_ok (by rw [maxLen_eq]; simp) (by simpa using hN)]
  rfl
theorem impl_lineSeal_ok {N : Nat} {s : Int} {x : QIIIIE} {kf : Int → Option Ret} (hN : 4 < N) : impl_lineSeal N s x kf = kf (sealM s x) := by
  unfold impl_lineSeal
  rw [impl_Hash_ok (by rw [maxLen_eq]; simp) (by simpa using hN)]
  rfl
/-- Minutes that are numbered, in range and sealed. -/
def minM : List QIIIIE → Nat → Int → Bool
  | [], _, _ => true
  | x :: r, i, s => (x.1 == ((i + 1 : Nat) : Int)) && inR x.2.1 1 9 && inR x.2.2.1 0 99 && (x.2.2.2 == sealM s x) && minM r (i + 1) x.2.2.2
def areMinM (l : List QIIIIE) : Bool := decide (l.length ≤ 200) && minM l 0 0
theorem spec_AreMinutes_ok {N : Nat} {l : List QIIIIE} {kf : Bool → Option Ret} (hl : l.length ≤ maxLen) (hN : l.length < N) (h4 : 4 < N) : spec_AreMinutes N l kf = kf (areMinM l) := by
  unfold spec_AreMinutes
  rw [spec_AreMinutes_l3_r hl hN]
  by_cases hc : l.length ≤ 200
  · have h1 : (decide ((l.length : Int) ≤ 200)) = true := decide_eq_true (by omega)
    have key : ∀ (r : List QIIIIE) (i : Nat) (s : Int), l.drop i = r → goL1 (fun (i : Nat) (x : QIIIIE) (x3_2 : Int) (next : Int → Option Ret) =>
        bif (decide ((List.length l : Int) ≤ (200 : Int))) then
          spec_l27Seal N x3_2 x (fun (r23_5 : Int) =>
            bif (x.1 != (IntKind.wrap .i64 ((i : Int) + (1 : Int)))) then kf false
            else
              spec_l1In N x.2.1 (1 : Int) (9 : Int) (fun (r32_6 : Bool) =>
                bif (!r32_6) then kf false
                else
                  spec_l1In N x.2.2.1 (0 : Int) (99 : Int) (fun (r38_7 : Bool) =>
                    bif (!r38_7) then kf false
                    else
                      bif (x.2.2.2 != r23_5) then kf false
                      else next r23_5)))
        else kf (decide ((List.length l : Int) ≤ (200 : Int)))) (fun (x3_2 : Int) => kf (decide ((List.length l : Int) ≤ (200 : Int)))) r i s = kf (minM r i s) := by
      intro r
      induction r with
      | nil => intro i s _; simp only [goL1, minM, h1]
      | cons x r ih =>
        intro i s hd
        have hlt : i < l.length := by have := congrArg List.length hd; simp at this; omega
        rw [List.drop_eq_getElem_cons hlt] at hd
        injection hd with e1 e2
        simp only [goL1, minM]
        simp only [ih (i + 1) _ e2]
        simp only [h1, cond_true, spec_l27Seal_ok h4, spec_l1In_ok, wrap_succ hlt hl]
        cases hx : (x.1 == ((i + 1 : Nat) : Int)) with
        | false => simp only [bne, hx, Bool.not_false, cond_true, Bool.false_and]
        | true =>
          simp only [bne, hx, Bool.not_true, cond_false, Bool.true_and]
          cases inR x.2.1 1 9 <;> simp
          cases inR x.2.2.1 0 99 <;> simp
          by_cases hs : x.2.2.2 = sealM s x
          · simp [hs]
          · have : (x.2.2.2 == sealM s x) = false := by simpa using hs
            simp [this]
    refine Eq.trans (key l 0 0 rfl) ?_
    unfold areMinM
    simp [hc]
  · have h1 : (decide ((l.length : Int) ≤ 200)) = false := decide_eq_false (by omega)
    cases l with
    | nil => simp at hc
    | cons x r =>
      simp only [goL1, h1, cond_false]
      unfold areMinM
      rw [decide_eq_false hc]
      rfl
theorem impl_AreMinutes_ok {N : Nat} {l : List QIIIIE} {kf : Bool → Option Ret} (hl : l.length ≤ maxLen) (hN : l.length < N) (h4 : 4 < N) : impl_AreMinutes N l kf = kf (areMinM l) := by
  unfold impl_AreMinutes
  by_cases hc : l.length ≤ 200
  · have h1 : (decide ((l.length : Int) > 200)) = false := decide_eq_false (by omega)
    rw [h1, cond_false, impl_AreMinutes_l5_r hl hN]
    have key : ∀ (r : List QIIIIE) (i : Nat) (s : Int), l.drop i = r → goL1 (fun (i : Nat) (x : QIIIIE) (x3_1 : Int) (next : Int → Option Ret) =>
        bif (x.1 != (IntKind.wrap .i64 ((i : Int) + (1 : Int)))) then kf false
        else
          impl_InRange N x.2.1 (1 : Int) (9 : Int) (fun (r24_6 : Bool) =>
            bif (!r24_6) then kf false
            else
              impl_InRange N x.2.2.1 (0 : Int) (99 : Int) (fun (r30_7 : Bool) =>
                bif (!r30_7) then kf false
                else
                  impl_lineSeal N x3_1 x (fun (r38_8 : Int) =>
                    bif (x.2.2.2 != r38_8) then kf false
                    else next x.2.2.2)))) (fun (x3_1 : Int) => kf true) r i s = kf (minM r i s) := by
      intro r
      induction r with
      | nil => intro i s _; simp only [goL1, minM]
      | cons x r ih =>
        intro i s hd
        have hlt : i < l.length := by have := congrArg List.length hd; simp at this; omega
        rw [List.drop_eq_getElem_cons hlt] at hd
        injection hd with e1 e2
        simp only [goL1, minM]
        simp only [ih (i + 1) _ e2]
        simp only [impl_lineSeal_ok h4, impl_InRange_ok, wrap_succ hlt hl]
        cases hx : (x.1 == ((i + 1 : Nat) : Int)) with
        | false => simp only [bne, hx, Bool.not_false, cond_true, Bool.false_and]
        | true =>
          simp only [bne, hx, Bool.not_true, cond_false, Bool.true_and]
          cases inR x.2.1 1 9 <;> simp
          cases inR x.2.2.1 0 99 <;> simp
          by_cases hs : x.2.2.2 = sealM s x
          · simp [hs]
          · have : (x.2.2.2 == sealM s x) = false := by simpa using hs
            simp [this]
    refine Eq.trans (key l 0 0 rfl) ?_
    unfold areMinM
    simp [hc]
  · have h1 : (decide ((l.length : Int) > 200)) = true := decide_eq_true (by omega)
    rw [h1, cond_true]
    unfold areMinM
    rw [decide_eq_false hc]
    rfl
end Go.Pv.R
namespace Go.Pv
set_option linter.unusedVariables false
set_option linter.unusedSimpArgs false
theorem findI_some {α : Type} {p : α → Bool} : ∀ {l : List α} {i k : Nat}, findI p l i = some k → ∃ j, ∃ h : j < l.length, k = i + j ∧ p l[j] = true ∧ ∀ j' (h' : j' < j), p (l[j']'(by omega)) = false
  | [], i, k, h => by cases h
  | x :: r, i, k, h => by
    simp only [findI] at h
    cases hp : p x with
    | true =>
      rw [hp] at h
      injection h with h
      exact ⟨0, by simp, by omega, hp, fun j' h' => by omega⟩
    | false =>
      rw [hp] at h
      obtain ⟨j, hj, e, h1, h2⟩ := findI_some (l := r) h
      refine ⟨j + 1, by simpa using hj, by omega, h1, fun j' h' => ?_⟩
      cases j' with
      | zero => exact hp
      | succ j' => exact h2 j' (by omega)
theorem findI_none {α : Type} {p : α → Bool} : ∀ {l : List α} {i : Nat}, findI p l i = none → ∀ j (h : j < l.length), p l[j] = false
  | [], i, h, j, hj => by simp at hj
  | x :: r, i, h, j, hj => by
    simp only [findI] at h
    cases hp : p x with
    | true => rw [hp] at h; cases h
    | false =>
      rw [hp] at h
      cases j with
      | zero => exact hp
      | succ j => exact findI_none (l := r) h j (by simpa using hj)
/-- A search: the first place with a property. -/
theorem goL_find {α : Type} {body : Nat → α → Option Ret → Option Ret} {kend : Option Ret} {kf : Nat → Option Ret} {p : α → Bool} (hb : ∀ (i : Nat) (x : α) (next : Option Ret), body i x next = bif p x then kf i else next) : ∀ (l : List α) (i : Nat), goL body kend l i = match findI p l i with
    | some k => kf k
    | none => kend
  | [], _ => rfl
  | x :: r, i => by
    simp only [goL, findI]
    rw [hb]
    cases p x
    · exact goL_find hb r (i + 1)
    · rfl
def findM {α : Type} (p : α → Bool) (l : List α) : Int := match findI p l 0 with
  | some k => (k : Int)
  | none => -1
theorem findM_pos {α : Type} {p : α → Bool} {l : List α} (h : ¬ findM p l < 0) : ∃ k : Nat, ∃ hk : k < l.length, findM p l = (k : Int) ∧ p l[k] = true ∧ ∀ j (hj : j < k), p (l[j]'(by omega)) = false := by
  unfold findM at *
  split at h
  · rename_i k hk
    obtain ⟨j, hj, e, h1, h2⟩ := findI_some hk
    obtain rfl : k = j := by omega
    exact ⟨k, hj, rfl, h1, h2⟩
  · omega
theorem findM_neg {α : Type} {p : α → Bool} {l : List α} (h : findM p l < 0) : findM p l = -1 ∧ ∀ j (hj : j < l.length), p l[j] = false := by
  unfold findM at *
  split at h
  · omega
  · rename_i hn
    exact ⟨rfl, findI_none hn⟩
end Go.Pv
namespace Go.Pv.R
set_option linter.unusedVariables false
set_option linter.unusedSimpArgs false
end Go.Pv.R
namespace Go.Pv
set_option linter.unusedVariables false
set_option linter.unusedSimpArgs false
theorem findM_any {α : Type} (p : α → Bool) (l : List α) : decide (findM p l ≥ 0) = l.any p := by
  by_cases h : findM p l < 0
  · rw [decide_eq_false (by omega)]
    symm
    rw [List.any_eq_false]
    intro x hx
    obtain ⟨j, hj, rfl⟩ := List.mem_iff_getElem.1 hx
    rw [(findM_neg h).2 j hj]
    simp
  · rw [decide_eq_true (by omega)]
    symm
    rw [List.any_eq_true]
    obtain ⟨k, hk, _, h1, _⟩ := findM_pos h
    exact ⟨l[k], List.getElem_mem hk, h1⟩
end Go.Pv
namespace Go.Pv.R
set_option linter.unusedVariables false
set_option linter.unusedSimpArgs false
def hasM (l : List Int) (n : Int) : Bool := l.any fun x => x == n
theorem slices_Contains_int_ok {N : Nat} {l : List Int} {n : Int} {kf : Bool → Option Ret} (hl : l.length ≤ maxLen) (hN : l.length < N) : slices_Contains_int N l n kf = kf (hasM l n) := by
  unfold slices_Contains_int slices_Index_int
  rw [slices_Index_int_l2_r hl hN, goL_find (p := fun x : Int => n == x) (kf := fun i => kf (decide ((i : Int) ≥ 0))) (fun i x next => rfl)]
  have e : hasM l n = l.any fun x => n == x := by
    unfold hasM
    congr 1
    funext x
    apply Bool.eq_iff_iff.2
    rw [beq_iff_eq, beq_iff_eq]
    exact ⟨fun h => h.symm, fun h => h.symm⟩
  rw [e, ← findM_any]
  unfold findM
  cases findI (fun x : Int => n == x) l 0 <;> rfl
end Go.Pv.R
namespace Go.Pv.R
set_option linter.unusedVariables false
set_option linter.unusedSimpArgs false
end Go.Pv.R
namespace Go.Pv.R
set_option linter.unusedVariables false
set_option linter.unusedSimpArgs false
end Go.Pv.R
namespace Go.Pv
set_option linter.unusedVariables false
set_option linter.unusedSimpArgs false
end Go.Pv
namespace Go.Pv.R
set_option linter.unusedVariables false
set_option linter.unusedSimpArgs false
end Go.Pv.R
namespace Go.Pv.R
set_option linter.unusedVariables false
set_option linter.unusedSimpArgs false
theorem ints_size (l : List Int) : sizeV (.sl (.int .i64)) l = l.length := sizeV_sl (t := .int .i64) (by decide) l
theorem ints_mark {l : List Int} (hb : l.length ≤ 1048576) : 1 ≤ (markL (markV (.int .i64)) l 1).2 ∧ (markL (markV (.int .i64)) l 1).2 ≤ 8388609 := by
  have := mark_le (t := .int .i64) (by decide) l 1
  rw [ints_size] at this
  omega
end Go.Pv.R
namespace Go.Pv.R
set_option linter.unusedVariables false
set_option linter.unusedSimpArgs false
end Go.Pv.R
namespace Go.Pv
set_option linter.unusedVariables false
set_option linter.unusedSimpArgs false
abbrev Asc (l : List Int) : Prop := l.Pairwise (· < ·)
theorem asc_ext : ∀ {a b : List Int}, Asc a → Asc b → (∀ x, x ∈ a ↔ x ∈ b) → a = b
  | [], [], _, _, _ => rfl
  | [], y :: b, _, _, h => by have := (h y).2 (by simp); simp at this
  | x :: a, [], _, _, h => by have := (h x).1 (by simp); simp at this
  | x :: a, y :: b, ha, hb, h => by
    rw [Asc, List.pairwise_cons] at ha hb
    have hxy : x = y := by
      have h1 := (h x).1 (by simp)
      have h2 := (h y).2 (by simp)
      rcases List.mem_cons.1 h1 with h1 | h1
      · exact h1
      · rcases List.mem_cons.1 h2 with h2 | h2
        · exact h2.symm
        · have := hb.1 x h1
          have := ha.1 y h2
          omega
    subst hxy
    congr 1
    refine asc_ext ha.2 hb.2 fun z => ?_
    constructor
    · intro hz
      rcases List.mem_cons.1 ((h z).1 (by simp [hz])) with e | e
      · subst e; have := ha.1 z hz; omega
      · exact e
    · intro hz
      rcases List.mem_cons.1 ((h z).2 (by simp [hz])) with e | e
      · subst e; have := hb.1 z hz; omega
      · exact e
def putM : List Int → Int → List Int
  | [], n => [n]
  | x :: r, n => bif decide (x < n) then x :: putM r n else bif x == n then x :: r else n :: x :: r
theorem putM_mem : ∀ (l : List Int) (n x : Int), x ∈ putM l n ↔ x = n ∨ x ∈ l
  | [], n, x => by simp [putM]
  | y :: r, n, x => by
    simp only [putM]
    by_cases h : y < n
    · rw [decide_eq_true h, cond_true, List.mem_cons, putM_mem r n x, List.mem_cons]
      constructor
      · rintro (h | h | h) <;> simp [h]
      · rintro (h | h | h) <;> simp [h]
    · rw [decide_eq_false h, cond_false]
      by_cases e : y = n
      · subst e; simp
      · rw [beq_eq_false_iff_ne.2 e, cond_false]; simp
theorem putM_asc : ∀ {l : List Int} {n : Int}, Asc l → Asc (putM l n)
  | [], n, _ => by simp [putM, Asc]
  | y :: r, n, h => by
    rw [Asc, List.pairwise_cons] at h
    simp only [putM]
    by_cases hy : y < n
    · rw [decide_eq_true hy, cond_true, Asc, List.pairwise_cons]
      refine ⟨fun z hz => ?_, putM_asc h.2⟩
      rcases (putM_mem r n z).1 hz with e | e
      · omega
      · exact h.1 z e
    · rw [decide_eq_false hy, cond_false]
      by_cases e : y = n
      · subst e
        simp only [beq_self_eq_true, cond_true, Asc, List.pairwise_cons]
        exact h
      · rw [beq_eq_false_iff_ne.2 e, cond_false, Asc, List.pairwise_cons, List.pairwise_cons]
        refine ⟨fun z hz => ?_, h⟩
        rcases List.mem_cons.1 hz with e2 | e2
        · omega
        · have := h.1 z e2; omega
theorem putM_len : ∀ (l : List Int) (n : Int), (putM l n).length ≤ l.length + 1
  | [], n => by simp [putM]
  | y :: r, n => by
    simp only [putM]
    have := putM_len r n
    cases decide (y < n) with
    | true => simp only [cond_true, List.length_cons]; omega
    | false => cases y == n <;> simp
theorem sortL_mem (l : List Int) (x : Int) : x ∈ sortL l ↔ x ∈ l := List.mem_mergeSort
theorem sortL_le (l : List Int) : (sortL l).Pairwise (· ≤ ·) := by
  have := List.pairwise_mergeSort (le := fun x y : Int => decide (x ≤ y)) (fun a b c => by simp only [decide_eq_true_eq]; omega) (fun a b => by simp only [Bool.or_eq_true, decide_eq_true_eq]; omega) l
  exact this.imp fun {a b} h => by simpa using h
theorem nodup_asc {l : List Int} (h : l.Pairwise (· ≤ ·)) (hn : l.Nodup) : Asc l := by
  rw [List.Nodup] at hn
  exact (h.and hn).imp fun {a b} ⟨h1, h2⟩ => by omega
theorem sortL_nodup {l : List Int} (h : l.Nodup) : (sortL l).Nodup := (List.mergeSort_perm l _).nodup_iff.2 h
end Go.Pv
namespace Go.Pv.R
set_option linter.unusedVariables false
set_option linter.unusedSimpArgs false
theorem goL1_grow {α : Type} {body : Nat → α → List Int → (List Int → Option Ret) → Option Ret} {kend : List Int → Option Ret} {g : List Int → α → List Int} {l : List α}
    (hb : ∀ (i : Nat) (x : α) (s : List Int) (next : List Int → Option Ret) (h : i < l.length), l[i] = x → s.length ≤ i → body i x s next = next (g s x)) (hg : ∀ s x, (g s x).length ≤ s.length + 1) :
    ∀ (r : List α) (i : Nat) (s : List Int), l.drop i = r → s.length ≤ i → goL1 body kend r i s = kend (r.foldl g s)
  | [], i, s, _, _ => rfl
  | x :: r, i, s, hd, hs => by
    have hlt : i < l.length := by have := congrArg List.length hd; simp at this; omega
    rw [List.drop_eq_getElem_cons hlt] at hd
    injection hd with h1 h2
    simp only [goL1, List.foldl_cons]
    rw [hb i x s _ hlt h1 hs]
    exact goL1_grow hb hg r (i + 1) (g s x) h2 (by have := hg s x; omega)
def cutM : List Int → Int → Nat
  | [], _ => 0
  | x :: r, n => bif decide (x < n) then cutM r n + 1 else 0
theorem cutM_le : ∀ (l : List Int) (n : Int), cutM l n ≤ l.length
  | [], _ => Nat.le_refl _
  | x :: r, n => by
    simp only [cutM]
    have := cutM_le r n
    cases decide (x < n) <;> simp <;> omega
theorem putM_cut : ∀ (l : List Int) (n : Int), putM l n = bif decide (cutM l n < l.length) && (l.getD (cutM l n) 0 == n) then l else l.take (cutM l n) ++ [n] ++ l.drop (cutM l n)
  | [], n => rfl
  | x :: r, n => by
    by_cases h : x < n
    · have hc : cutM (x :: r) n = cutM r n + 1 := by simp only [cutM]; rw [decide_eq_true h]; rfl
      have hp : putM (x :: r) n = x :: putM r n := by simp only [putM]; rw [decide_eq_true h]; rfl
      rw [hc, hp, putM_cut r n]
      simp only [List.length_cons, List.getD_cons_succ, List.take_succ_cons, List.drop_succ_cons]
      rw [show decide (cutM r n + 1 < r.length + 1) = decide (cutM r n < r.length) from decide_eq_decide.2 (by omega)]
      cases (decide (cutM r n < r.length) && (r.getD (cutM r n) 0 == n)) <;> simp
    · have hc : cutM (x :: r) n = 0 := by simp only [cutM]; rw [decide_eq_false h]; rfl
      have hp : putM (x :: r) n = bif x == n then x :: r else n :: x :: r := by simp only [putM]; rw [decide_eq_false h]; rfl
      rw [hc, hp]
      simp only [List.length_cons, List.getD_cons_zero, List.take_zero, List.drop_zero]
      rw [decide_eq_true (show 0 < r.length + 1 by omega), Bool.true_and]
      cases x == n <;> simp
theorem goL_cut {n : Int} {k : Int → Option Ret} : ∀ (r : List Int) (i m : Nat), i + r.length = m → goL (fun (i : Nat) (x : Int) (next : Option Ret) => bif (decide (x < n)) then next else k (i : Int)) (k (m : Int)) r i = k ((i + cutM r n : Nat) : Int)
  | [], i, m, h => by simp only [goL, cutM]; rw [← h]; rfl
  | x :: r, i, m, h => by
    simp only [goL, cutM]
    cases decide (x < n) with
    | true =>
      simp only [cond_true]
      rw [goL_cut r (i + 1) m (by simp only [List.length_cons] at h; omega)]
      congr 1
      omega
    | false => simp only [cond_false, Nat.add_zero]
theorem spec_l10Put_ok {N : Nat} {l : List Int} {n : Int} {kf : List Int → Option Ret} (hl : l.length ≤ 1048576) (hN : l.length < N) : spec_l10Put N l n kf = kf (putM l n) := by
  have hm := maxLen_eq
  unfold spec_l10Put
  rw [spec_l10Put_l2_r (by omega) hN]
  have hc := cutM_le l n
  have h2 : (decide ((List.length ([] : List Int) + List.length l) * 1 ≤ 4398046511104)) = true := decide_eq_true (by simp only [List.length_nil]; omega)
  have hj : spec_l10Put_j1 l n kf (cutM l n : Int) = kf (l.take (cutM l n) ++ [n] ++ l.drop (cutM l n)) := by
    unfold spec_l10Put_j1
    have d1 : (decide ((0 : Int) ≤ (0 : Int)) && decide ((0 : Int) ≤ (cutM l n : Int)) && decide ((cutM l n : Int) ≤ (List.length l : Int))) = true := by simp; omega
    have d2 : (decide ((0 : Int) ≤ (cutM l n : Int)) && decide ((cutM l n : Int) ≤ (List.length l : Int)) && decide ((List.length l : Int) ≤ (List.length l : Int))) = true := by simp; omega
    rw [d1, d2]
    have e1 : List.drop (Int.toNat 0) (List.take (Int.toNat (cutM l n : Int)) l) = l.take (cutM l n) := by simp
    have e2 : List.drop (Int.toNat (cutM l n : Int)) (List.take (Int.toNat (List.length l : Int)) l) = l.drop (cutM l n) := by simp
    rw [e1, e2]
    have l1 : (l.take (cutM l n)).length = cutM l n := by rw [List.length_take]; omega
    have l2 : (l.drop (cutM l n)).length = l.length - cutM l n := List.length_drop
    rw [decide_eq_true (by simp only [List.length_nil]; omega), decide_eq_true (by simp only [List.length_append, List.length_cons, List.length_nil]; omega), decide_eq_true (by simp only [List.length_append, List.length_cons, List.length_nil]; omega)]
    simp only [cond_true, List.nil_append]
  have := goL_cut (n := n) (k := fun (z5_7 : Int) =>
    bif (decide (z5_7 < (List.length l : Int))) then
      bif (inB z5_7 (List.length l)) then
        bif ((List.getD l (Int.toNat z5_7) (0 : Int)) == n) then
          bif (decide ((List.length ([] : (List Int)) + List.length l) * 1 ≤ 4398046511104)) then
            kf (([] : (List Int)) ++ l)
          else none
        else
          spec_l10Put_j1 l n kf z5_7
      else none
    else
      spec_l10Put_j1 l n kf z5_7) l 0 l.length (by omega)
  refine this.trans ?_
  simp only [Nat.zero_add]
  rw [hj, putM_cut]
  by_cases hlt : cutM l n < l.length
  · rw [decide_eq_true (show (cutM l n : Int) < (List.length l : Int) by omega), decide_eq_true hlt, inB_nat hlt, Int.toNat_natCast, h2]
    simp only [cond_true, Bool.true_and, List.nil_append]
    cases List.getD l (cutM l n) 0 == n <;> rfl
  · rw [decide_eq_false (show ¬ (cutM l n : Int) < (List.length l : Int) by omega), decide_eq_false hlt]
    rfl
def withoutM (l : List Int) (n : Int) : List Int := l.filter fun x => x != n
theorem foldl_filter {α : Type} (p : α → Bool) : ∀ (l s : List α), l.foldl (fun s x => bif p x then s ++ [x] else s) s = s ++ l.filter p
  | [], s => by simp
  | x :: r, s => by
    simp only [List.foldl_cons, List.filter_cons]
    cases h : p x with
    | true => simp only [cond_true, if_true]; rw [foldl_filter p r]; simp
    | false => simp only [cond_false]; rw [foldl_filter p r]; simp
theorem without_grow (n : Int) (s : List Int) (x : Int) : (bif x != n then s ++ [x] else s).length ≤ s.length + 1 := by cases x != n <;> simp
theorem spec_l24Without_ok {N : Nat} {l : List Int} {n : Int} {kf : List Int → Option Ret} (hl : l.length ≤ 1048576) (hN : l.length < N) : spec_l24Without N l n kf = kf (withoutM l n) := by
  have hm := maxLen_eq
  unfold spec_l24Without
  rw [spec_l24Without_l3_r (by omega) hN, goL1_grow (l := l) (g := fun s x => bif x != n then s ++ [x] else s) (fun i x s next h e hs => ?_) (without_grow n) l 0 [] rfl (by simp), foldl_filter, List.nil_append]
  · rfl
  · rw [decide_eq_true (by simp only [List.length_cons, List.length_nil]; omega)]
    cases x != n <;> rfl
theorem impl_without_ok {N : Nat} {l : List Int} {n : Int} {kf : List Int → Option Ret} (hl : l.length ≤ 1048576) (hN : l.length < N) : impl_without N l n kf = kf (withoutM l n) := by
  have hm := maxLen_eq
  unfold impl_without
  rw [impl_without_l3_r (by omega) hN, goL1_grow (l := l) (g := fun s x => bif x != n then s ++ [x] else s) (fun i x s next h e hs => ?_) (without_grow n) l 0 [] rfl (by simp), foldl_filter, List.nil_append]
  · rfl
  · rw [decide_eq_true (by simp only [List.length_cons, List.length_nil]; omega)]
    cases x != n <;> rfl
theorem slices_Sort_int_ok {N : Nat} {l : List Int} {kf : List Int → Option Ret} (hl : l.length ≤ 1048576) : slices_Sort_int N l kf = kf (sortL l) := by
  unfold slices_Sort_int
  have : Nat.blt (List.length l) 4611686018427387904 = true := Nat.ble_eq_true_of_le (by omega)
  rw [this]
  rfl
theorem foldl_len {α : Type} {g : List Int → α → List Int} (hg : ∀ s x, (g s x).length ≤ s.length + 1) : ∀ (l : List α) (s : List Int), (l.foldl g s).length ≤ s.length + l.length
  | [], s => Nat.le_refl _
  | x :: r, s => by
    have h1 := foldl_len hg r (g s x)
    have h2 := hg s x
    simp only [List.foldl_cons, List.length_cons]
    omega
def putTeam (s : List Int) (x : QIIIIE) : List Int := bif x.2.1 == 1 then putM s x.2.2.1 else bif x.2.1 == 6 then withoutM s x.2.2.1 else s
def addTeam (s : List Int) (x : QIIIIE) : List Int := bif x.2.1 == 6 then withoutM s x.2.2.1 else bif x.2.1 == 1 then (bif hasM s x.2.2.1 then s else s ++ [x.2.2.1]) else s
def teamsInM (l : List QIIIIE) : List Int := bif areMinM l then l.foldl putTeam [] else []
theorem withoutM_mem (l : List Int) (n x : Int) : x ∈ withoutM l n ↔ x ∈ l ∧ x ≠ n := by
  unfold withoutM
  rw [List.mem_filter]
  simp
theorem withoutM_len (l : List Int) (n : Int) : (withoutM l n).length ≤ l.length := List.length_filter_le _ _
theorem hasM_mem (l : List Int) (n : Int) : hasM l n = true ↔ n ∈ l := by
  unfold hasM
  simp
theorem teams_alike : ∀ (l : List QIIIIE) (s t : List Int), Asc s → t.Nodup → (∀ x, x ∈ s ↔ x ∈ t) → Asc (l.foldl putTeam s) ∧ (l.foldl addTeam t).Nodup ∧ ∀ x, x ∈ l.foldl putTeam s ↔ x ∈ l.foldl addTeam t
  | [], s, t, h1, h2, h3 => ⟨h1, h2, h3⟩
  | y :: r, s, t, h1, h2, h3 => by
    simp only [List.foldl_cons]
    have key : Asc (putTeam s y) ∧ (addTeam t y).Nodup ∧ ∀ x, x ∈ putTeam s y ↔ x ∈ addTeam t y := by
      unfold putTeam addTeam
      cases e1 : y.2.1 == 1 with
      | true =>
        have e6 : (y.2.1 == 6) = false := by rw [eq_of_beq e1]; rfl
        rw [e6]
        simp only [cond_true, cond_false]
        cases hh : hasM t y.2.2.1 with
        | true =>
          have hm := (hasM_mem t _).1 hh
          refine ⟨putM_asc h1, h2, fun x => ?_⟩
          simp only [cond_true]
          rw [putM_mem, h3 x]
          exact ⟨fun h => h.elim (fun e => by rw [e]; exact hm) id, .inr⟩
        | false =>
          have hm : y.2.2.1 ∉ t := fun h => by rw [(hasM_mem t _).2 h] at hh; cases hh
          simp only [cond_false]
          refine ⟨putM_asc h1, ?_, fun x => ?_⟩
          · rw [List.nodup_append]
            refine ⟨h2, by simp, fun a ha b hb e => ?_⟩
            simp only [List.mem_singleton] at hb
            subst e hb
            exact hm ha
          · rw [putM_mem, h3 x, List.mem_append, List.mem_singleton, or_comm]
      | false =>
        simp only [cond_false]
        cases y.2.1 == 6 with
        | true =>
          simp only [cond_true]
          refine ⟨List.Pairwise.filter _ h1, List.Pairwise.filter _ h2, fun x => ?_⟩
          rw [withoutM_mem, withoutM_mem, h3 x]
        | false => exact ⟨h1, h2, h3⟩
    exact teams_alike r _ _ key.1 key.2.1 key.2.2
theorem putTeam_len (s : List Int) (x : QIIIIE) : (putTeam s x).length ≤ s.length + 1 := by
  unfold putTeam
  have h1 := putM_len s x.2.2.1
  have h2 := withoutM_len s x.2.2.1
  cases x.2.1 == 1 with
  | true => exact h1
  | false =>
    cases x.2.1 == 6 with
    | true => show (withoutM s x.2.2.1).length ≤ _; omega
    | false => show s.length ≤ _; omega
theorem addTeam_len (s : List Int) (x : QIIIIE) : (addTeam s x).length ≤ s.length + 1 := by
  unfold addTeam
  have h2 := withoutM_len s x.2.2.1
  cases x.2.1 == 6 with
  | true => show (withoutM s x.2.2.1).length ≤ _; omega
  | false =>
    cases x.2.1 == 1 with
    | true => cases hasM s x.2.2.1 <;> simp
    | false => show s.length ≤ _; omega
theorem spec_TeamsIn_ok {N : Nat} {l : List QIIIIE} {kf : List Int → Option Ret} (hl : l.length ≤ 1048576) (hN : l.length < N) (h4 : 4 < N) : spec_TeamsIn N l kf = kf (teamsInM l) := by
  have hm := maxLen_eq
  unfold spec_TeamsIn teamsInM
  rw [spec_TeamsIn_l3_r (by omega) hN]
  cases ha : areMinM l with
  | false =>
    cases l with
    | nil => rfl
    | cons x r =>
      simp only [goL1]
      rw [spec_AreMinutes_ok (by omega) hN h4, ha]
      rfl
  | true =>
    rw [goL1_grow (l := l) (g := putTeam) (fun i x s next h e hs => ?_) putTeam_len l 0 [] rfl (by simp)]
    · rfl
    · rw [spec_AreMinutes_ok (by omega) hN h4, ha, cond_true]
      unfold putTeam
      cases x.2.1 == 1 with
      | true => simp only [cond_true]; rw [spec_l10Put_ok (by omega) (by omega)]
      | false =>
        simp only [cond_false]
        cases x.2.1 == 6 with
        | true => simp only [cond_true]; rw [spec_l24Without_ok (by omega) (by omega)]
        | false => rfl
theorem impl_TeamsIn_ok {N : Nat} {l : List QIIIIE} {kf : List Int → Option Ret} (hl : l.length ≤ 1048576) (hN : l.length < N) (h4 : 4 < N) : impl_TeamsIn N l kf = kf (teamsInM l) := by
  have hm := maxLen_eq
  unfold impl_TeamsIn teamsInM
  rw [impl_AreMinutes_ok (by omega) hN h4]
  cases ha : areMinM l with
  | false => rfl
  | true =>
    simp only [Bool.not_true, cond_false, cond_true]
    rw [impl_TeamsIn_l5_r (by omega) hN, goL1_grow (l := l) (g := addTeam) (fun i x s next h e hs => ?_) addTeam_len l 0 [] rfl (by simp)]
    · have hlen := foldl_len addTeam_len l []
      rw [slices_Sort_int_ok (by simp only [List.length_nil] at hlen; omega)]
      congr 1
      obtain ⟨h1, h2, h3⟩ := teams_alike l [] [] List.Pairwise.nil List.nodup_nil (fun x => Iff.rfl)
      refine asc_ext (nodup_asc (sortL_le _) (sortL_nodup h2)) h1 fun x => ?_
      rw [sortL_mem, h3]
    · unfold addTeam
      cases x.2.1 == 6 with
      | true => simp only [cond_true]; rw [impl_without_ok (by omega) (by omega)]
      | false =>
        simp only [cond_false]
        cases x.2.1 == 1 with
        | true =>
          simp only [cond_true]
          rw [slices_Contains_int_ok (by omega) (by omega), decide_eq_true (by simp only [List.length_cons, List.length_nil]; omega)]
          cases hasM s x.2.2.1 <;> rfl
        | false => rfl
theorem teamsInM_len (l : List QIIIIE) : (teamsInM l).length ≤ l.length := by
  unfold teamsInM
  have := foldl_len putTeam_len l []
  cases areMinM l with
  | true => simp only [List.length_nil] at this; simp only [cond_true]; omega
  | false => simp
theorem lawFnExactTeamsIn (l : List QIIIIE) (h : wfs [.sl tQIIIIE] (l, ())) : ∃ N, ∀ kf, laws_FnExactTeamsIn N l kf = kf true := by
  refine ⟨2 * l.length + 9, fun kf => ?_⟩
  have hw : wf (.sl tQIIIIE) l := h.1
  have hz : sizeV (.sl tQIIIIE) l = l.length := sizeV_sl (t := tQIIIIE) (by decide) _
  unfold laws_FnExactTeamsIn
  rw [laws_szLineS_ok hw (by omega) (by omega) (by omega)]
  refine small_or (by omega) fun hb => ?_
  have hl := teamsInM_len l
  have hzj := ints_size (teamsInM l)
  have hm1 := mark_le (t := tQIIIIE) (by decide) l 1
  obtain ⟨n1, n2⟩ := ints_mark (l := teamsInM l) (by omega)
  have e1 : decide ((markL (markV tQIIIIE) l 1).2 < 0) = false := decide_eq_false (by omega)
  have e2 : decide ((markL (markV (.int .i64)) (teamsInM l) 1).2 < 0) = false := decide_eq_false (by omega)
  generalize hN : 2 * l.length + 9 = N at *
  have h1 : ∀ k, laws_toLineS N l k = k l := fun k => laws_toLineS_ok (by omega) (by omega)
  have h2 : ∀ k, laws_eqLineS N l l k = k true := fun k => laws_eqLineS_ok (by omega) (by omega)
  have h3 : ∀ k, laws_eqIntS N (teamsInM l) (teamsInM l) k = k true := fun k => laws_eqIntS_ok (by omega) (by omega)
  have h4 : ∀ k, laws_markLineS N l 1 k = k (markL (markV tQIIIIE) l 1).2 (markL (markV tQIIIIE) l 1).1 := fun k => laws_markLineS_ok (by omega) (by omega) (by omega) (by omega)
  have h5 : ∀ k, laws_markIntS N (teamsInM l) 1 k = k (markL (markV (.int .i64)) (teamsInM l) 1).2 (markL (markV (.int .i64)) (teamsInM l) 1).1 := fun k => laws_markIntS_ok (by omega) (by omega) (by omega) (by omega)
  have h6 : ∀ k, laws_heldIntS N (markL (markV (.int .i64)) (teamsInM l) 1).1 1 k = k (markL (markV (.int .i64)) (teamsInM l) 1).2 := fun k => laws_heldIntS_ok (by omega) (by omega) (by omega) (by omega)
  have hS : ∀ k, spec_TeamsIn N l k = k (teamsInM l) := fun k => spec_TeamsIn_ok (by omega) (by omega) (by omega)
  have hI : ∀ k, impl_TeamsIn N l k = k (teamsInM l) := fun k => impl_TeamsIn_ok (by omega) (by omega) (by omega)
  simp only [h1, hS, hI, h2, h3, h4, h5, h6, e1, e2, Bool.not_true, cond_false, bne_self_eq_false]
end Go.Pv.R
