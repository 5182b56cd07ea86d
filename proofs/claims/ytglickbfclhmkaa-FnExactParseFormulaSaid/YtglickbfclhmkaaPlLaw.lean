/- The law over the plain functions. -/
import Derived.Test.YtglickbfclhmkaaPlHz
namespace Go.Pv.R
set_option linter.unusedVariables false
set_option linter.unusedSimpArgs false
end Go.Pv.R
namespace Go.Pv.R
set_option linter.unusedVariables false
set_option linter.unusedSimpArgs false
theorem spec_l1In_ok {N : Nat} {a b c : Int} {kf : Bool → Option Ret} : spec_l1In N a b c kf = kf (inR a b c) := by
  unfold spec_l1In inR
  by_cases h : b ≤ a <;> simp [h]
theorem impl_InRange_ok {N : Nat} {a b c : Int} {kf : Bool → Option Ret} : impl_InRange N a b c kf = kf (inR a b c) := by
  unfold impl_InRange inR
  by_cases h : b ≤ a <;> simp [h]
end Go.Pv.R
namespace Go.Pv.R
set_option linter.unusedVariables false
set_option linter.unusedSimpArgs false
end Go.Pv.R
namespace Go.Pv
set_option linter.unusedVariables false
set_option linter.unusedSimpArgs false
end Go.Pv
namespace Go.Pv.R
set_option linter.unusedVariables false
set_option linter.unusedSimpArgs false
end Go.Pv.R
namespace Go.Pv
set_option linter.unusedVariables false
set_option linter.unusedSimpArgs false
end Go.Pv
namespace Go.Pv.R
set_option linter.unusedVariables false
set_option linter.unusedSimpArgs false
end Go.Pv.R
namespace Go.Pv.R
set_option linter.unusedVariables false
set_option linter.unusedSimpArgs false
end Go.Pv.R
namespace Go.Pv.R
set_option linter.unusedVariables false
set_option linter.unusedSimpArgs false
theorem inR_iff {a b c : Int} : inR a b c = true ↔ b ≤ a ∧ a ≤ c := by unfold inR; simp
end Go.Pv.R
namespace Go.Pv
set_option linter.unusedVariables false
set_option linter.unusedSimpArgs false
end Go.Pv
namespace Go.Pv.R
set_option linter.unusedVariables false
set_option linter.unusedSimpArgs false
end Go.Pv.R
namespace Go.Pv.R
set_option linter.unusedVariables false
set_option linter.unusedSimpArgs false
end Go.Pv.R
namespace Go.Pv.R
set_option linter.unusedVariables false
set_option linter.unusedSimpArgs false
end Go.Pv.R
namespace Go.Pv
set_option linter.unusedVariables false
set_option linter.unusedSimpArgs false
end Go.Pv
namespace Go.Pv.R
set_option linter.unusedVariables false
set_option linter.unusedSimpArgs false
end Go.Pv.R
namespace Go.Pv.R
set_option linter.unusedVariables false
set_option linter.unusedSimpArgs false
end Go.Pv.R
namespace Go.Pv.R
set_option linter.unusedVariables false
set_option linter.unusedSimpArgs false
end Go.Pv.R
namespace Go.Pv.R
set_option linter.unusedVariables false
set_option linter.unusedSimpArgs false
end Go.Pv.R
namespace Go.Pv.R
set_option linter.unusedVariables false
set_option linter.unusedSimpArgs false
end Go.Pv.R
namespace Go.Pv.R
set_option linter.unusedVariables false
set_option linter.unusedSimpArgs false
theorem bext {a b : ByteArray} (h : a.data.toList = b.data.toList) : a = b := ByteArray.ext (Array.ext' h)
end Go.Pv.R
namespace Go.Pv.R
set_option linter.unusedVariables false
set_option linter.unusedSimpArgs false
end Go.Pv.R
namespace Go.Pv.R
set_option linter.unusedVariables false
set_option linter.unusedSimpArgs false
end Go.Pv.R
namespace Go.Pv.R
set_option linter.unusedVariables false
set_option linter.unusedSimpArgs false
end Go.Pv.R
namespace Go.Pv.R
set_option linter.unusedVariables false
set_option linter.unusedSimpArgs false
def packB (l : List UInt8) : ByteArray := ⟨l.toArray⟩
theorem pack_data (b : ByteArray) : packB b.data.toList = b := bext (by simp [packB])
theorem data_pack (l : List UInt8) : (packB l).data.toList = l := by simp [packB]
theorem extract_pack (s : ByteArray) (a b : Nat) : ByteArray.extract s a b = packB ((s.data.toList.drop a).take (b - a)) := by
  apply bext
  rw [data_pack, Lib.extract_data]
end Go.Pv.R
namespace Go.Pv.R
set_option linter.unusedVariables false
set_option linter.unusedSimpArgs false
end Go.Pv.R
namespace Go.Pv.R
set_option linter.unusedVariables false
set_option linter.unusedSimpArgs false
end Go.Pv.R
namespace Go.Pv.R
set_option linter.unusedVariables false
set_option linter.unusedSimpArgs false
end Go.Pv.R
namespace Go.Pv.R
set_option linter.unusedVariables false
set_option linter.unusedSimpArgs false
end Go.Pv.R
namespace Go.Pv.R
set_option linter.unusedVariables false
set_option linter.unusedSimpArgs false
end Go.Pv.R
namespace Go.Pv.R
set_option linter.unusedVariables false
set_option linter.unusedSimpArgs false
end Go.Pv.R
namespace Go.Pv.R
set_option linter.unusedVariables false
set_option linter.unusedSimpArgs false
section
variable {α : Type} {t : List α} {i j : Nat} {x y x' y' z : α}
end
end Go.Pv.R
namespace Go.Pv
set_option linter.unusedVariables false
end Go.Pv
namespace Go.Pv.R
set_option linter.unusedVariables false
set_option linter.unusedSimpArgs false
end Go.Pv.R
namespace Go.Pv.R
set_option linter.unusedVariables false
set_option linter.unusedSimpArgs false
end Go.Pv.R
namespace Go.Pv.R
set_option linter.unusedVariables false
set_option linter.unusedSimpArgs false
end Go.Pv.R
namespace Go.Pv.R
set_option linter.unusedVariables false
set_option linter.unusedSimpArgs false
def isStep (x : Int) (d : Nat) : Option Nat := bif inR x 0 5 then some (d + 1) else bif (x == -1) && decide (1 ≤ d) then some d else bif inR x (-4) (-2) && decide (2 ≤ d) then some (d - 1) else none
def isG : List Int → Nat → Option Nat
  | [], d => some d
  | x :: r, d => match isStep x d with
    | some d' => isG r d'
    | none => none
def isFm (r : List Int) : Bool := decide (r.length ≤ 24) && (isG r 0 == some 1)
theorem isStep_pos {x : Int} {d d' : Nat} (h : isStep x d = some d') : 1 ≤ d' ∧ d' ≤ d + 1 := by
  unfold isStep at h
  cases h1 : inR x 0 5 with
  | true => rw [h1, cond_true] at h; injection h with h; omega
  | false =>
    rw [h1, cond_false] at h
    cases h2 : (x == -1) && decide (1 ≤ d) with
    | true =>
      rw [h2, cond_true] at h
      injection h with h
      simp only [Bool.and_eq_true, decide_eq_true_eq] at h2
      omega
    | false =>
      rw [h2, cond_false] at h
      cases h3 : inR x (-4) (-2) && decide (2 ≤ d) with
      | true =>
        rw [h3, cond_true] at h
        injection h with h
        simp only [Bool.and_eq_true, decide_eq_true_eq] at h3
        omega
      | false => rw [h3] at h; cases h
theorem isG_pos : ∀ {r : List Int} {d d' : Nat}, isG r d = some d' → 1 ≤ d → 1 ≤ d'
  | [], d, d', h, h1 => by injection h with h; omega
  | x :: r, d, d', h, h1 => by
    simp only [isG] at h
    cases hs : isStep x d with
    | none => rw [hs] at h; cases h
    | some e => rw [hs] at h; exact isG_pos h (isStep_pos hs).1
theorem isFm_len {r : List Int} (h : isFm r = true) : 1 ≤ r.length ∧ r.length ≤ 24 := by
  unfold isFm at h
  simp only [Bool.and_eq_true, decide_eq_true_eq] at h
  cases r with
  | nil => have := h.2; simp [isG] at this
  | cons x r => simp only [List.length_cons] at h ⊢; omega
theorem goL1_opt {σ : Type} {body : Nat → Int → σ → (σ → Option Ret) → Option Ret} {kend : σ → Option Ret} {no : Option Ret} {dep : σ → Nat} {B : Nat}
    (hb : ∀ (i : Nat) (x : Int) (s : σ), dep s ≤ B → (isStep x (dep s) = none → ∀ next, body i x s next = no) ∧ ∀ d', isStep x (dep s) = some d' → ∃ s', dep s' = d' ∧ ∀ next, body i x s next = next s') : ∀ (r : List Int) (i : Nat) (s : σ), dep s + r.length ≤ B + 1 → (isG r (dep s) = none → goL1 body kend r i s = no) ∧ ∀ d', isG r (dep s) = some d' → ∃ s', dep s' = d' ∧ goL1 body kend r i s = kend s'
  | [], i, s, _ => ⟨fun h => (by cases h), fun d' h => by injection h with h; exact ⟨s, h, rfl⟩⟩
  | x :: r, i, s, hB => by
    simp only [List.length_cons] at hB
    obtain ⟨h1, h2⟩ := hb i x s (by omega)
    simp only [isG, goL1]
    cases hs : isStep x (dep s) with
    | none => exact ⟨fun _ => h1 hs _, fun d' h => by cases h⟩
    | some d' =>
      obtain ⟨s', e1, e2⟩ := h2 d' hs
      have hp := isStep_pos hs
      have := goL1_opt (kend := kend) hb r (i + 1) s' (by omega)
      rw [e1] at this
      rw [e2]
      exact this
theorem goL1_opt' {σ : Type} {body : Nat → Int → σ → (σ → Option Ret) → Option Ret} {kend : σ → Option Ret} {no : Option Ret} (dep : σ → Nat) (B : Nat)
    (hb : ∀ (i : Nat) (x : Int) (s : σ), dep s ≤ B → (isStep x (dep s) = none → ∀ next, body i x s next = no) ∧ ∀ d', isStep x (dep s) = some d' → ∃ s', dep s' = d' ∧ ∀ next, body i x s next = next s') (r : List Int) (i : Nat) (s : σ) (hB : dep s + r.length ≤ B + 1) {Q : Option Ret} (h1 : isG r (dep s) = none → no = Q) (h2 : ∀ d' s', isG r (dep s) = some d' → dep s' = d' → kend s' = Q) : goL1 body kend r i s = Q := by
  obtain ⟨k1, k2⟩ := goL1_opt (kend := kend) hb r i s hB
  cases hg : isG r (dep s) with
  | none => rw [k1 hg]; exact h1 hg
  | some d' =>
    obtain ⟨s', e1, e2⟩ := k2 d' hg
    rw [e2]
    exact h2 d' s' hg e1
theorem spec_IsFormula_ok {N : Nat} {r : List Int} {kf : Bool → Option Ret} (hl : r.length ≤ 1048576) (hN : r.length < N) : spec_IsFormula N r kf = kf (isFm r) := by
  have hx := maxLen_eq
  unfold spec_IsFormula
  rw [spec_IsFormula_l3_r (by omega) hN]
  have key : ∀ (body : Nat → Int → Int → (Int → Option Ret) → Option Ret) (kend : Int → Option Ret), (∀ (i : Nat) (x : Int) (d : Nat), d ≤ 1048580 → (isStep x d = none → ∀ next, body i x (d : Int) next = kf false) ∧ ∀ d', isStep x d = some d' → ∀ next, body i x (d : Int) next = next (d' : Int)) → ∀ (r : List Int) (i d : Nat), d + r.length ≤ 1048580 → goL1 body kend r i (d : Int) = match isG r d with | some d' => kend (d' : Int) | none => kf false := by
    intro body kend hb r
    induction r with
    | nil => intro i d _; rfl
    | cons x r ih =>
      intro i d hd
      simp only [List.length_cons] at hd
      obtain ⟨h1, h2⟩ := hb i x d (by omega)
      simp only [isG, goL1]
      cases hs : isStep x d with
      | none => exact h1 hs _
      | some d' =>
        have hp := isStep_pos hs
        rw [h2 d' hs]
        exact ih (i + 1) d' (by omega)
  refine (key _ _ (fun i x d hd => ?_) r 0 0 (by omega)).trans ?_
  · simp only [spec_l1In_ok]
    have w1 : IntKind.wrap .i64 ((d : Int) + 1) = ((d + 1 : Nat) : Int) := wrap64 (by omega) (by omega)
    have w2 : ∀ h : 2 ≤ d, IntKind.wrap .i64 ((d : Int) - 1) = ((d - 1 : Nat) : Int) := fun h => by rw [wrap64 (by omega) (by omega)]; omega
    have c1 : decide ((d : Int) ≥ 1) = decide (1 ≤ d) := decide_eq_decide.2 (by omega)
    have c2 : decide ((d : Int) ≥ 2) = decide (2 ≤ d) := decide_eq_decide.2 (by omega)
    rw [w1, c1, c2]
    unfold isStep
    cases inR x 0 5 with
    | true => exact ⟨fun h => (by cases h), fun d' h next => by injection h with h; subst h; rfl⟩
    | false =>
      simp only [cond_false]
      by_cases h2 : 2 ≤ d
      · rw [w2 h2, decide_eq_true h2, decide_eq_true (show 1 ≤ d by omega)]
        cases x == -1 <;> cases inR x (-4) (-2) <;> exact ⟨fun h => (by first | exact fun _ => rfl | cases h), fun d' h next => by first | (injection h with h; subst h; rfl) | cases h⟩
      · rw [decide_eq_false h2]
        cases decide (1 ≤ d) <;> cases x == -1 <;> cases inR x (-4) (-2) <;> exact ⟨fun h => (by first | exact fun _ => rfl | cases h), fun d' h next => by first | (injection h with h; subst h; rfl) | cases h⟩
  · unfold isFm
    cases hg : isG r 0 with
    | none => simp
    | some d' =>
      simp only []
      by_cases h1 : d' = 1
      · subst h1
        have : (((1 : Nat) : Int) == 1) = true := rfl
        rw [this, cond_true]
        congr 1
        rw [show decide ((r.length : Int) ≤ 24) = decide (r.length ≤ 24) from decide_eq_decide.2 (by omega)]
        simp
      · have : ((d' : Int) == 1) = false := by simp; omega
        have h2 : (some d' == some 1) = false := by simp [h1]
        rw [this, cond_false, h2, Bool.and_false]
theorem letterRows_ok {N : Nat} {a : Int} (ha : 0 ≤ a) (hN : 70 < N) : ∃ r, ∀ kf : Int → Option Ret, impl_letterRows N a kf = kf r := by
  have key : ∀ (k i n : Nat) (x : Int), i + k = 64 → k < n → ∃ r, ∀ kf : Int → Option Ret, impl_letterRows_l3 a n kf x (i : Int) = kf r := by
    intro k
    induction k with
    | zero =>
      intro i n x hi hn
      obtain ⟨n, rfl⟩ : ∃ m, n = m + 1 := ⟨n - 1, by omega⟩
      refine ⟨x, fun kf => ?_⟩
      simp only [impl_letterRows_l3]
      rw [decide_eq_false (by omega)]
      rfl
    | succ k ih =>
      intro i n x hi hn
      obtain ⟨n, rfl⟩ : ∃ m, n = m + 1 := ⟨n - 1, by omega⟩
      have w1 : IntKind.wrap .i64 ((i : Int) + 1) = ((i + 1 : Nat) : Int) := wrap64 (by omega) (by omega)
      simp only [impl_letterRows_l3]
      rw [decide_eq_true (show (i : Int) < 64 by omega), decide_eq_true ha, decide_eq_true (show (0 : Int) ≤ (i : Int) by omega), w1]
      simp only [cond_true]
      cases (IntKind.wrap .i64 (BitVec.toNat (BitVec.ofInt (IntKind.bits .i64) (Int.fdiv (i : Int) (2 ^ (min (Int.toNat a) (IntKind.bits .i64)))) &&& BitVec.ofInt (IntKind.bits .i64) (1 : Int)))) == (1 : Int)
      · exact ih (i + 1) n _ (by omega) (by omega)
      · exact ih (i + 1) n _ (by omega) (by omega)
  exact key 64 0 N 0 (by omega) (by omega)
theorem rowsOp {x : Int} {s : List Int} (h2 : 2 ≤ s.length) (hB : s.length ≤ 200) : ∃ s' : List Int, s'.length = s.length - 1 ∧ ∀ (next : List Int → Option Ret) (no : Option Ret), (bif (decide ((List.length s : Int) ≥ (2 : Int))) then
                    bif (inB (IntKind.wrap .i64 ((List.length s : Int) - (2 : Int))) (List.length s)) then
                      bif (inB (IntKind.wrap .i64 ((List.length s : Int) - (1 : Int))) (List.length s)) then
                        bif (decide ((0 : Int) ≤ (0 : Int)) && decide ((0 : Int) ≤ (IntKind.wrap .i64 ((List.length s : Int) - (1 : Int)))) && decide ((IntKind.wrap .i64 ((List.length s : Int) - (1 : Int))) ≤ (List.length s : Int))) then
                          bif (x == (-2 : Int)) then
                            bif (inB (IntKind.wrap .i64 ((List.length s : Int) - (2 : Int))) (List.length (List.take (Int.toNat (IntKind.wrap .i64 ((List.length s : Int) - (1 : Int)))) s))) then
                              next (List.set (List.take (Int.toNat (IntKind.wrap .i64 ((List.length s : Int) - (1 : Int)))) s) (Int.toNat (IntKind.wrap .i64 ((List.length s : Int) - (2 : Int)))) (IntKind.wrap .u64 (BitVec.toNat (BitVec.ofInt (IntKind.bits .u64) (List.getD s (Int.toNat (IntKind.wrap .i64 ((List.length s : Int) - (2 : Int)))) (0 : Int)) &&& BitVec.ofInt (IntKind.bits .u64) (List.getD s (Int.toNat (IntKind.wrap .i64 ((List.length s : Int) - (1 : Int)))) (0 : Int))))))
                            else none
                          else
                            bif (x == (-3 : Int)) then
                              bif (inB (IntKind.wrap .i64 ((List.length s : Int) - (2 : Int))) (List.length (List.take (Int.toNat (IntKind.wrap .i64 ((List.length s : Int) - (1 : Int)))) s))) then
                                next (List.set (List.take (Int.toNat (IntKind.wrap .i64 ((List.length s : Int) - (1 : Int)))) s) (Int.toNat (IntKind.wrap .i64 ((List.length s : Int) - (2 : Int)))) (IntKind.wrap .u64 (BitVec.toNat (BitVec.ofInt (IntKind.bits .u64) (List.getD s (Int.toNat (IntKind.wrap .i64 ((List.length s : Int) - (2 : Int)))) (0 : Int)) ||| BitVec.ofInt (IntKind.bits .u64) (List.getD s (Int.toNat (IntKind.wrap .i64 ((List.length s : Int) - (1 : Int)))) (0 : Int))))))
                              else none
                            else
                              bif (inB (IntKind.wrap .i64 ((List.length s : Int) - (2 : Int))) (List.length (List.take (Int.toNat (IntKind.wrap .i64 ((List.length s : Int) - (1 : Int)))) s))) then
                                next (List.set (List.take (Int.toNat (IntKind.wrap .i64 ((List.length s : Int) - (1 : Int)))) s) (Int.toNat (IntKind.wrap .i64 ((List.length s : Int) - (2 : Int)))) (IntKind.wrap .u64 (BitVec.toNat (BitVec.ofInt (IntKind.bits .u64) (xorV .u64 (List.getD s (Int.toNat (IntKind.wrap .i64 ((List.length s : Int) - (2 : Int)))) (0 : Int))) ||| BitVec.ofInt (IntKind.bits .u64) (List.getD s (Int.toNat (IntKind.wrap .i64 ((List.length s : Int) - (1 : Int)))) (0 : Int))))))
                              else none
                        else none
                      else none
                    else none
                  else
    no) = next s' := by
  have hx := maxLen_eq
  have w1 : IntKind.wrap .i64 ((List.length s : Int) - 1) = ((s.length - 1 : Nat) : Int) := by rw [wrap64 (by omega) (by omega)]; omega
  have w2 : IntKind.wrap .i64 ((List.length s : Int) - 2) = ((s.length - 2 : Nat) : Int) := by rw [wrap64 (by omega) (by omega)]; omega
  have d3 : (decide ((0 : Int) ≤ (0 : Int)) && decide ((0 : Int) ≤ ((s.length - 1 : Nat) : Int)) && decide (((s.length - 1 : Nat) : Int) ≤ (List.length s : Int))) = true := by
    rw [decide_eq_true (by omega), decide_eq_true (by omega), decide_eq_true (by omega)]; rfl
  have lt : (List.take (s.length - 1) s).length = s.length - 1 := by rw [List.length_take]; omega
  simp only [w1, w2, d3, Int.toNat_natCast, decide_eq_true (show (List.length s : Int) ≥ 2 by omega), inB_nat (show s.length - 2 < s.length by omega), inB_nat (show s.length - 1 < s.length by omega), inB_nat (show s.length - 2 < (List.take (s.length - 1) s).length by omega), cond_true]
  cases x == -2 with
  | true => exact ⟨_, by rw [List.length_set, lt], fun next no => rfl⟩
  | false =>
    cases x == -3 with
    | true => exact ⟨_, by rw [List.length_set, lt], fun next no => rfl⟩
    | false => exact ⟨_, by rw [List.length_set, lt], fun next no => rfl⟩
theorem impl_IsFormula_ok {N : Nat} {r : List Int} {kf : Bool → Option Ret} (hl : r.length ≤ 1048576) (hN : r.length + 100 < N) : impl_IsFormula N r kf = kf (isFm r) := by
  have hx := maxLen_eq
  unfold impl_IsFormula impl_rowsOf
  rw [impl_InRange_ok]
  have hin : inR (r.length : Int) 1 24 = decide (1 ≤ r.length ∧ r.length ≤ 24) := by
    rw [Bool.eq_iff_iff, inR_iff, decide_eq_true_eq]; omega
  rw [hin]
  by_cases h24 : 1 ≤ r.length ∧ r.length ≤ 24
  rotate_left
  · rw [decide_eq_false h24]
    have : isFm r = false := by
      cases hf : isFm r with
      | false => rfl
      | true => exact absurd (isFm_len hf) h24
    rw [this]; rfl
  · rw [decide_eq_true h24]
    simp only [Bool.not_true, cond_false]
    rw [impl_rowsOf_l5_r (by omega) (by omega)]
    refine goL1_opt' List.length 200 (no := kf false) (fun i x s hd => ?_) r 0 [] (by simp; omega) (fun hg => ?_) (fun d' s' hg e1 => ?_)
    rotate_left
    · have hg : isG r 0 = none := hg
      have : isFm r = false := by unfold isFm; rw [hg]; simp
      rw [this]
    · have hg : isG r 0 = some d' := hg
      have h0 : 1 ≤ d' := by
        cases r with
        | nil => simp at h24
        | cons x r =>
          simp only [isG] at hg
          cases hs : isStep x 0 with
          | none => rw [hs] at hg; cases hg
          | some e => rw [hs] at hg; exact isG_pos hg (isStep_pos hs).1
      rw [show inB (0 : Int) (List.length s') = true from inB_nat (i := 0) (by omega), cond_true, e1]
      congr 1
      unfold isFm
      rw [hg, decide_eq_true h24.2, Bool.true_and, Bool.eq_iff_iff]
      simp only [beq_iff_eq, Option.some.injEq]
      omega
    · simp only [impl_InRange_ok]
      cases h5 : inR x 0 5 with
      | true =>
        rw [inR_iff] at h5
        obtain ⟨rr, hr⟩ := letterRows_ok (N := N) h5.1 (by omega)
        have e : isStep x s.length = some (s.length + 1) := by unfold isStep; rw [inR_iff.2 h5]; rfl
        rw [e]
        refine ⟨fun h => (by cases h), fun d' h => ⟨s ++ [rr], by injection h with h; rw [List.length_append]; exact h, fun next => ?_⟩⟩
        simp only [cond_true]
        rw [hr, decide_eq_true (by simp; omega)]
        rfl
      | false =>
        simp only [cond_false]
        have e0 : isStep x s.length = bif (x == -1) && decide (1 ≤ s.length) then some s.length else bif inR x (-4) (-2) && decide (2 ≤ s.length) then some (s.length - 1) else none := by unfold isStep; rw [h5]; rfl
        rw [e0]
        by_cases h2 : 2 ≤ s.length
        · obtain ⟨s', l1, l2⟩ := rowsOp (x := x) h2 hd
          have w1 : IntKind.wrap .i64 ((List.length s : Int) - 1) = ((s.length - 1 : Nat) : Int) := by rw [wrap64 (by omega) (by omega)]; omega
          cases hm : x == -1 with
          | true =>
            rw [decide_eq_true (show 1 ≤ s.length by omega)]
            refine ⟨fun h => (by cases h), fun d' h => ⟨List.set s (s.length - 1) (xorV .u64 (List.getD s (s.length - 1) 0)), ?_, fun next => ?_⟩⟩
            rotate_left
            · simp only [cond_true]
              rw [decide_eq_true (show (List.length s : Int) ≥ 1 by omega), w1, inB_nat (show s.length - 1 < s.length by omega)]
              rfl
            · injection h with h; rw [List.length_set]; exact h
          | false =>
            simp only [cond_false, Bool.false_and]
            cases inR x (-4) (-2) with
            | true =>
              rw [decide_eq_true h2]
              refine ⟨fun h => (by cases h), fun d' h => ⟨s', by injection h with h; omega, fun next => ?_⟩⟩
              exact l2 next (kf false)
            | false => exact ⟨fun _ _ => rfl, fun d' h => (by cases h)⟩
        · have w1 : 1 ≤ s.length → IntKind.wrap .i64 ((List.length s : Int) - 1) = ((s.length - 1 : Nat) : Int) := fun h => by rw [wrap64 (by omega) (by omega)]; omega
          rw [decide_eq_false h2, decide_eq_false (show ¬ (List.length s : Int) ≥ 2 by omega)]
          simp only [Bool.and_false, cond_false]
          by_cases h1 : 1 ≤ s.length
          · rw [decide_eq_true h1, decide_eq_true (show (List.length s : Int) ≥ 1 by omega)]
            cases hm : x == -1 with
            | true =>
              refine ⟨fun h => (by cases h), fun d' h => ⟨List.set s (s.length - 1) (xorV .u64 (List.getD s (s.length - 1) 0)), ?_, fun next => ?_⟩⟩
              rotate_left
              · simp only [cond_true]
                rw [w1 h1, inB_nat (show s.length - 1 < s.length by omega)]
                rfl
              · injection h with h; rw [List.length_set]; exact h
            | false =>
              cases inR x (-4) (-2) <;> exact ⟨fun _ _ => rfl, fun d' h => (by cases h)⟩
          · rw [decide_eq_false h1, decide_eq_false (show ¬ (List.length s : Int) ≥ 1 by omega)]
            cases x == -1 <;> cases inR x (-4) (-2) <;> exact ⟨fun _ _ => rfl, fun d' h => (by cases h)⟩
end Go.Pv.R
namespace Go.Pv.R
set_option linter.unusedVariables false
set_option linter.unusedSimpArgs false
inductive Fm where
  | le (n : Nat)
  | no (t : Fm)
  | bi (o : Nat) (a b : Fm)
def okF : Fm → Prop
  | .le n => n < 6
  | .no t => okF t
  | .bi o a b => o < 3 ∧ okF a ∧ okF b
def rpn : Fm → List Int
  | .le n => [(n : Int)]
  | .no t => rpn t ++ [-1]
  | .bi o a b => rpn a ++ rpn b ++ [-2 - (o : Int)]
def opB : Nat → UInt8
  | 0 => 38
  | 1 => 124
  | _ => 62
def txt : Fm → List UInt8
  | .le n => [UInt8.ofNat (97 + n)]
  | .no t => 33 :: txt t
  | .bi o a b => 40 :: (txt a ++ (opB o :: (txt b ++ [41])))
theorem txt_le : ∀ t : Fm, (txt t).length + 2 ≤ 4 * (rpn t).length
  | .le n => by simp [rpn, txt]
  | .no t => by have := txt_le t; simp [rpn, txt]; omega
  | .bi o a b => by have := txt_le a; have := txt_le b; simp [rpn, txt]; omega
def flatR : List Fm → List Int
  | [] => []
  | t :: S => flatR S ++ rpn t
theorem isG_tree : ∀ (r : List Int) (S : List Fm) (d' : Nat), (∀ t ∈ S, okF t) → isG r S.length = some d' → ∃ S' : List Fm, S'.length = d' ∧ (∀ t ∈ S', okF t) ∧ flatR S' = flatR S ++ r
  | [], S, d', hS, h => by injection h with h; exact ⟨S, h, hS, by simp⟩
  | x :: r, S, d', hS, h => by
    simp only [isG] at h
    have fin : ∀ (S1 : List Fm), isStep x S.length = some S1.length → (∀ t ∈ S1, okF t) → flatR S1 = flatR S ++ [x] → ∃ S' : List Fm, S'.length = d' ∧ (∀ t ∈ S', okF t) ∧ flatR S' = flatR S ++ x :: r := fun S1 e1 e2 e3 => by
      rw [e1] at h
      obtain ⟨S', k1, k2, k3⟩ := isG_tree r S1 d' e2 h
      exact ⟨S', k1, k2, by rw [k3, e3]; simp⟩
    cases h5 : inR x 0 5 with
    | true =>
      have h6 := inR_iff.1 h5
      refine fin (.le x.toNat :: S) (by unfold isStep; rw [h5]; rfl) (fun t ht => ?_) ?_
      · rcases List.mem_cons.1 ht with rfl | ht
        · show x.toNat < 6; omega
        · exact hS t ht
      · show flatR S ++ [(x.toNat : Int)] = _
        rw [Int.toNat_of_nonneg h6.1]
    | false =>
      cases h1 : (x == -1) && decide (1 ≤ S.length) with
      | true =>
        simp only [Bool.and_eq_true, beq_iff_eq, decide_eq_true_eq] at h1
        obtain ⟨hx, hl⟩ := h1
        subst hx
        cases S with
        | nil => simp at hl
        | cons t S =>
          refine fin (.no t :: S) (by simp [isStep, inR]) (fun u hu => ?_) ?_
          · rcases List.mem_cons.1 hu with rfl | hu
            · exact hS t (by simp)
            · exact hS u (by simp [hu])
          · simp [flatR, rpn]
      | false =>
        cases h4 : inR x (-4) (-2) && decide (2 ≤ S.length) with
        | true =>
          have h4' := h4
          simp only [Bool.and_eq_true, decide_eq_true_eq] at h4
          have hx := inR_iff.1 h4.1
          match S, h4.2, hS, fin, h1, h4' with
          | b :: a :: S, _, hS, fin, h1, h4' =>
            refine fin (.bi (-2 - x).toNat a b :: S) (by unfold isStep; rw [h5, h1, h4']; simp) (fun u hu => ?_) ?_
            · rcases List.mem_cons.1 hu with rfl | hu
              · exact ⟨by omega, hS a (by simp), hS b (by simp)⟩
              · exact hS u (by simp [hu])
            · have : (-2 : Int) - ((-2 - x).toNat : Int) = x := by omega
              simp [flatR, rpn]
              omega
        | false => unfold isStep at h; rw [h5, h1, h4] at h; cases h
theorem isFm_tree {r : List Int} (h : isFm r = true) : ∃ t, okF t ∧ rpn t = r := by
  unfold isFm at h
  simp only [Bool.and_eq_true, decide_eq_true_eq, beq_iff_eq] at h
  obtain ⟨S, h1, h2, h3⟩ := isG_tree r [] 1 (fun t ht => by simp at ht) h.2
  match S, h1, h2, h3 with
  | [t], _, h2, h3 => exact ⟨t, h2 t (by simp), by simpa [flatR] using h3⟩
theorem pack_app (a b : List UInt8) : packB a ++ packB b = packB (a ++ b) := by
  apply bext
  rw [data_pack]
  simp [packB]
theorem pack_size (a : List UInt8) : (packB a).size = a.length := by rw [Lib.size_eq, data_pack]
theorem abc_at {n : Nat} (h : n < 6) : ByteArray.extract s_abcdef n (n + 1) = packB [UInt8.ofNat (97 + n)] := by
  rw [extract_pack]
  have : n = 0 ∨ n = 1 ∨ n = 2 ∨ n = 3 ∨ n = 4 ∨ n = 5 := by omega
  rcases this with rfl | rfl | rfl | rfl | rfl | rfl <;> rfl
/-- what a step of the text's loop does -/
structure TxtBody (body : Nat → Int → List ByteArray → (List ByteArray → Option Ret) → Option Ret) : Prop where
  le : ∀ (i n : Nat) (s : List ByteArray) (next : List ByteArray → Option Ret), n < 6 → s.length ≤ 1000 → body i (n : Int) s next = next (s ++ [packB [UInt8.ofNat (97 + n)]])
  no : ∀ (i : Nat) (s : List ByteArray) (w : List UInt8) (next : List ByteArray → Option Ret), w.length ≤ 1000 → s.length ≤ 1000 → body i (-1) (s ++ [packB w]) next = next (s ++ [packB (33 :: w)])
  bi : ∀ (i o : Nat) (s : List ByteArray) (u w : List UInt8) (next : List ByteArray → Option Ret), o < 3 → u.length ≤ 1000 → w.length ≤ 1000 → s.length ≤ 1000 → body i (-2 - (o : Int)) (s ++ [packB u, packB w]) next = next (s ++ [packB (40 :: (u ++ (opB o :: (w ++ [41]))))])
theorem txt_loop {body : Nat → Int → List ByteArray → (List ByteArray → Option Ret) → Option Ret} {kend : List ByteArray → Option Ret} (hb : TxtBody body) : ∀ (t : Fm) (rest : List Int) (i : Nat) (s : List ByteArray), okF t → (rpn t).length ≤ 24 → s.length + (rpn t).length ≤ 900 → goL1 body kend (rpn t ++ rest) i s = goL1 body kend rest (i + (rpn t).length) (s ++ [packB (txt t)])
  | .le n, rest, i, s, ho, h1, h2 => by
    show goL1 body kend ((n : Int) :: rest) i s = _
    simp only [goL1]
    rw [hb.le i n s _ ho (by omega)]
    rfl
  | .no t, rest, i, s, ho, h1, h2 => by
    have hl := txt_le t
    simp only [rpn, List.length_append, List.length_cons, List.length_nil] at h1 h2 ⊢
    rw [List.append_assoc, txt_loop hb t _ i s ho (by omega) (by omega)]
    show goL1 body kend (-1 :: rest) _ _ = _
    simp only [goL1]
    rw [hb.no _ _ _ _ (by omega) (by omega)]
    rfl
  | .bi o a b, rest, i, s, ho, h1, h2 => by
    have hl := txt_le a
    have hl2 := txt_le b
    simp only [rpn, List.length_append, List.length_cons, List.length_nil] at h1 h2 ⊢
    rw [List.append_assoc, List.append_assoc, txt_loop hb a _ i s ho.2.1 (by omega) (by omega), txt_loop hb b _ _ _ ho.2.2 (by omega) (by simp; omega)]
    show goL1 body kend ((-2 - (o : Int)) :: rest) _ _ = _
    simp only [goL1]
    rw [List.append_assoc]
    show body _ _ (s ++ [packB (txt a), packB (txt b)]) _ = _
    rw [hb.bi _ _ _ _ _ _ ho.1 (by omega) (by omega) (by omega)]
    congr 1
    omega
theorem last_at {s : List ByteArray} {y : ByteArray} : (s ++ [y]).getD s.length ByteArray.empty = y := by
  rw [List.getD_eq_getElem?_getD, List.getElem?_append_right (Nat.le_refl _)]; simp
theorem last2_at {s : List ByteArray} {y z : ByteArray} : (s ++ [y, z]).getD s.length ByteArray.empty = y ∧ (s ++ [y, z]).getD (s.length + 1) ByteArray.empty = z := by
  constructor <;> rw [List.getD_eq_getElem?_getD, List.getElem?_append_right (by omega)] <;> simp
theorem last_set {s : List ByteArray} {y z : ByteArray} : (s ++ [y]).set s.length z = s ++ [z] := by
  rw [List.set_append_right _ _ (Nat.le_refl _)]; simp
theorem op_at {o : Nat} (h : o < 3) : ([s_h26, s_h7c, s_h3e] : List ByteArray).getD o ByteArray.empty = packB [opB o] ∧ ByteArray.extract s_h267c3e o (o + 1) = packB [opB o] := by
  have : o = 0 ∨ o = 1 ∨ o = 2 := by omega
  rcases this with rfl | rfl | rfl <;> exact ⟨rfl, by rw [extract_pack]; rfl⟩
theorem spec_txtBody : TxtBody (fun (i : Nat) (x : Int) (x3_3 : (List ByteArray)) (next : (List ByteArray) → Option Ret) =>
        bif (decide (x ≥ (0 : Int))) then
          bif (decide ((0 : Int) ≤ x) && decide (x ≤ (IntKind.wrap .i64 (x + (1 : Int)))) && decide ((IntKind.wrap .i64 (x + (1 : Int))) ≤ (ByteArray.size s_abcdef : Int))) then
            bif (decide ((List.length x3_3 + List.length [(ByteArray.extract s_abcdef (Int.toNat x) (Int.toNat (IntKind.wrap .i64 (x + (1 : Int)))))]) * 1 ≤ 4398046511104)) then
              next (x3_3 ++ [(ByteArray.extract s_abcdef (Int.toNat x) (Int.toNat (IntKind.wrap .i64 (x + (1 : Int)))))])
            else none
          else none
        else
          bif (x == (-1 : Int)) then
            bif (inB (IntKind.wrap .i64 ((List.length x3_3 : Int) - (1 : Int))) (List.length x3_3)) then
              bif (decide (ByteArray.size s_h21 + ByteArray.size (List.getD x3_3 (Int.toNat (IntKind.wrap .i64 ((List.length x3_3 : Int) - (1 : Int)))) ByteArray.empty) ≤ 9223372036854775807)) then
                bif (inB (IntKind.wrap .i64 ((List.length x3_3 : Int) - (1 : Int))) (List.length x3_3)) then
                  next (List.set x3_3 (Int.toNat (IntKind.wrap .i64 ((List.length x3_3 : Int) - (1 : Int)))) (s_h21 ++ (List.getD x3_3 (Int.toNat (IntKind.wrap .i64 ((List.length x3_3 : Int) - (1 : Int)))) ByteArray.empty)))
                else none
              else none
            else none
          else
            bif (inB (IntKind.wrap .i64 ((List.length x3_3 : Int) - (2 : Int))) (List.length x3_3)) then
              bif (decide (ByteArray.size s_h28 + ByteArray.size (List.getD x3_3 (Int.toNat (IntKind.wrap .i64 ((List.length x3_3 : Int) - (2 : Int)))) ByteArray.empty) ≤ 9223372036854775807)) then
                bif (inB (IntKind.wrap .i64 ((List.length x3_3 : Int) - (1 : Int))) (List.length x3_3)) then
                  bif (inB (IntKind.wrap .i64 ((IntKind.wrap .i64 (0 - x)) - (2 : Int))) (List.length [s_h26, s_h7c, s_h3e])) then
                    bif (decide (ByteArray.size (s_h28 ++ (List.getD x3_3 (Int.toNat (IntKind.wrap .i64 ((List.length x3_3 : Int) - (2 : Int)))) ByteArray.empty)) + ByteArray.size (List.getD [s_h26, s_h7c, s_h3e] (Int.toNat (IntKind.wrap .i64 ((IntKind.wrap .i64 (0 - x)) - (2 : Int)))) ByteArray.empty) ≤ 9223372036854775807)) then
                      bif (decide (ByteArray.size ((s_h28 ++ (List.getD x3_3 (Int.toNat (IntKind.wrap .i64 ((List.length x3_3 : Int) - (2 : Int)))) ByteArray.empty)) ++ (List.getD [s_h26, s_h7c, s_h3e] (Int.toNat (IntKind.wrap .i64 ((IntKind.wrap .i64 (0 - x)) - (2 : Int)))) ByteArray.empty)) + ByteArray.size (List.getD x3_3 (Int.toNat (IntKind.wrap .i64 ((List.length x3_3 : Int) - (1 : Int)))) ByteArray.empty) ≤ 9223372036854775807)) then
                        bif (decide (ByteArray.size (((s_h28 ++ (List.getD x3_3 (Int.toNat (IntKind.wrap .i64 ((List.length x3_3 : Int) - (2 : Int)))) ByteArray.empty)) ++ (List.getD [s_h26, s_h7c, s_h3e] (Int.toNat (IntKind.wrap .i64 ((IntKind.wrap .i64 (0 - x)) - (2 : Int)))) ByteArray.empty)) ++ (List.getD x3_3 (Int.toNat (IntKind.wrap .i64 ((List.length x3_3 : Int) - (1 : Int)))) ByteArray.empty)) + ByteArray.size s_h29 ≤ 9223372036854775807)) then
                          bif (decide ((0 : Int) ≤ (0 : Int)) && decide ((0 : Int) ≤ (IntKind.wrap .i64 ((List.length x3_3 : Int) - (2 : Int)))) && decide ((IntKind.wrap .i64 ((List.length x3_3 : Int) - (2 : Int))) ≤ (List.length x3_3 : Int))) then
                            bif (decide ((List.length (List.take (Int.toNat (IntKind.wrap .i64 ((List.length x3_3 : Int) - (2 : Int)))) x3_3) + List.length [((((s_h28 ++ (List.getD x3_3 (Int.toNat (IntKind.wrap .i64 ((List.length x3_3 : Int) - (2 : Int)))) ByteArray.empty)) ++ (List.getD [s_h26, s_h7c, s_h3e] (Int.toNat (IntKind.wrap .i64 ((IntKind.wrap .i64 (0 - x)) - (2 : Int)))) ByteArray.empty)) ++ (List.getD x3_3 (Int.toNat (IntKind.wrap .i64 ((List.length x3_3 : Int) - (1 : Int)))) ByteArray.empty)) ++ s_h29)]) * 1 ≤ 4398046511104)) then
                              next ((List.take (Int.toNat (IntKind.wrap .i64 ((List.length x3_3 : Int) - (2 : Int)))) x3_3) ++ [((((s_h28 ++ (List.getD x3_3 (Int.toNat (IntKind.wrap .i64 ((List.length x3_3 : Int) - (2 : Int)))) ByteArray.empty)) ++ (List.getD [s_h26, s_h7c, s_h3e] (Int.toNat (IntKind.wrap .i64 ((IntKind.wrap .i64 (0 - x)) - (2 : Int)))) ByteArray.empty)) ++ (List.getD x3_3 (Int.toNat (IntKind.wrap .i64 ((List.length x3_3 : Int) - (1 : Int)))) ByteArray.empty)) ++ s_h29)])
                            else none
                          else none
                        else none
                      else none
                    else none
                  else none
                else none
              else none
            else none) := by
  have hx := maxLen_eq
  refine ⟨fun i n s next hn hs => ?_, fun i s w next hw hs => ?_, fun i o s u w next ho hu hw hs => ?_⟩
  · have w1 : IntKind.wrap .i64 ((n : Int) + 1) = ((n + 1 : Nat) : Int) := wrap64 (by omega) (by omega)
    have sz : ByteArray.size s_abcdef = 6 := rfl
    have d0 : decide ((n : Int) ≥ 0) = true := decide_eq_true (by omega)
    have d1 : decide ((0 : Int) ≤ (n : Int)) = true := decide_eq_true (by omega)
    have d2 : decide ((n : Int) ≤ ((n + 1 : Nat) : Int)) = true := decide_eq_true (by omega)
    have d3 : decide (((n + 1 : Nat) : Int) ≤ ((6 : Nat) : Int)) = true := decide_eq_true (by omega)
    have d4 : decide ((s.length + List.length [packB [UInt8.ofNat (97 + n)]]) * 1 ≤ 4398046511104) = true := decide_eq_true (by simp only [List.length_cons, List.length_nil]; omega)
    simp only [w1, sz, d0, d1, d2, d3, Int.toNat_natCast, abc_at hn, d4, cond_true, Bool.and_self]
  · have w1 : IntKind.wrap .i64 ((List.length (s ++ [packB w]) : Int) - 1) = ((s.length : Nat) : Int) := by
      rw [List.length_append, wrap64 (by simp <;> omega) (by simp <;> omega)]; simp
    have e1 : s_h21 = packB [33] := rfl
    have d0 : decide ((-1 : Int) ≥ 0) = false := by decide
    have d1 : ((-1 : Int) == -1) = true := by decide
    have d2 : decide ([(33 : UInt8)].length + w.length ≤ 9223372036854775807) = true := decide_eq_true (by simp only [List.length_cons, List.length_nil]; omega)
    simp only [d0, d1, w1, inB_nat (show s.length < (s ++ [packB w]).length by simp), Int.toNat_natCast, last_at, last_set, e1, pack_app, pack_size, d2, cond_true, cond_false]
    rfl
  · have w1 : IntKind.wrap .i64 ((List.length (s ++ [packB u, packB w]) : Int) - 1) = ((s.length + 1 : Nat) : Int) := by
      rw [List.length_append, wrap64 (by simp <;> omega) (by simp <;> omega)]; simp <;> omega
    have w2 : IntKind.wrap .i64 ((List.length (s ++ [packB u, packB w]) : Int) - 2) = ((s.length : Nat) : Int) := by
      rw [List.length_append, wrap64 (by simp <;> omega) (by simp <;> omega)]; simp
    have w3 : IntKind.wrap .i64 ((IntKind.wrap .i64 (0 - (-2 - (o : Int)))) - 2) = (o : Int) := by
      rw [wrap64 (n := 0 - (-2 - (o : Int))) (by omega) (by omega), wrap64 (by omega) (by omega)]; omega
    have e28 : s_h28 = packB [40] := rfl
    have e29 : s_h29 = packB [41] := rfl
    have ne1 : ((-2 - (o : Int)) == -1) = false := by simp <;> omega
    have d3 : (decide ((0 : Int) ≤ (0 : Int)) && decide ((0 : Int) ≤ ((s.length : Nat) : Int)) && decide (((s.length : Nat) : Int) ≤ (List.length (s ++ [packB u, packB w]) : Int))) = true := by
      rw [decide_eq_true (by omega), decide_eq_true (by omega), decide_eq_true (by simp <;> omega)]; rfl
    have tk : List.take s.length (s ++ [packB u, packB w]) = s := by simp
    rw [w1, w2, w3, decide_eq_false (show ¬ (-2 - (o : Int)) ≥ 0 by omega), ne1, inB_nat (show s.length < (s ++ [packB u, packB w]).length by simp), inB_nat (show s.length + 1 < (s ++ [packB u, packB w]).length by simp), show inB (o : Int) (List.length [s_h26, s_h7c, s_h3e]) = true from inB_nat ho, Int.toNat_natCast, Int.toNat_natCast, Int.toNat_natCast, last2_at.1, last2_at.2, (op_at ho).1, e28, e29, d3, tk]
    simp only [pack_app, pack_size, cond_true, cond_false]
    rw [decide_eq_true (by simp <;> omega), decide_eq_true (by simp <;> omega), decide_eq_true (by simp <;> omega), decide_eq_true (by simp <;> omega), decide_eq_true (by simp <;> omega)]
    simp only [cond_true]
    congr 3
    simp
theorem impl_txtBody : TxtBody (fun (i : Nat) (x : Int) (x3_2 : (List ByteArray)) (next : (List ByteArray) → Option Ret) =>
        bif (decide (x ≥ (0 : Int))) then
          bif (decide ((0 : Int) ≤ x) && decide (x ≤ (IntKind.wrap .i64 (x + (1 : Int)))) && decide ((IntKind.wrap .i64 (x + (1 : Int))) ≤ (ByteArray.size s_abcdef : Int))) then
            bif (decide ((List.length x3_2 + List.length [(ByteArray.extract s_abcdef (Int.toNat x) (Int.toNat (IntKind.wrap .i64 (x + (1 : Int)))))]) * 1 ≤ 4398046511104)) then
              next (x3_2 ++ [(ByteArray.extract s_abcdef (Int.toNat x) (Int.toNat (IntKind.wrap .i64 (x + (1 : Int)))))])
            else none
          else none
        else
          bif (x == (-1 : Int)) then
            bif (inB (IntKind.wrap .i64 ((List.length x3_2 : Int) - (1 : Int))) (List.length x3_2)) then
              bif (decide (ByteArray.size s_h21 + ByteArray.size (List.getD x3_2 (Int.toNat (IntKind.wrap .i64 ((List.length x3_2 : Int) - (1 : Int)))) ByteArray.empty) ≤ 9223372036854775807)) then
                bif (inB (IntKind.wrap .i64 ((List.length x3_2 : Int) - (1 : Int))) (List.length x3_2)) then
                  next (List.set x3_2 (Int.toNat (IntKind.wrap .i64 ((List.length x3_2 : Int) - (1 : Int)))) (s_h21 ++ (List.getD x3_2 (Int.toNat (IntKind.wrap .i64 ((List.length x3_2 : Int) - (1 : Int)))) ByteArray.empty)))
                else none
              else none
            else none
          else
            bif (inB (IntKind.wrap .i64 ((List.length x3_2 : Int) - (2 : Int))) (List.length x3_2)) then
              bif (decide (ByteArray.size s_h28 + ByteArray.size (List.getD x3_2 (Int.toNat (IntKind.wrap .i64 ((List.length x3_2 : Int) - (2 : Int)))) ByteArray.empty) ≤ 9223372036854775807)) then
                bif (decide ((0 : Int) ≤ (IntKind.wrap .i64 ((-2 : Int) - x))) && decide ((IntKind.wrap .i64 ((-2 : Int) - x)) ≤ (IntKind.wrap .i64 ((IntKind.wrap .i64 ((-2 : Int) - x)) + (1 : Int)))) && decide ((IntKind.wrap .i64 ((IntKind.wrap .i64 ((-2 : Int) - x)) + (1 : Int))) ≤ (ByteArray.size s_h267c3e : Int))) then
                  bif (decide (ByteArray.size (s_h28 ++ (List.getD x3_2 (Int.toNat (IntKind.wrap .i64 ((List.length x3_2 : Int) - (2 : Int)))) ByteArray.empty)) + ByteArray.size (ByteArray.extract s_h267c3e (Int.toNat (IntKind.wrap .i64 ((-2 : Int) - x))) (Int.toNat (IntKind.wrap .i64 ((IntKind.wrap .i64 ((-2 : Int) - x)) + (1 : Int))))) ≤ 9223372036854775807)) then
                    bif (inB (IntKind.wrap .i64 ((List.length x3_2 : Int) - (1 : Int))) (List.length x3_2)) then
                      bif (decide (ByteArray.size ((s_h28 ++ (List.getD x3_2 (Int.toNat (IntKind.wrap .i64 ((List.length x3_2 : Int) - (2 : Int)))) ByteArray.empty)) ++ (ByteArray.extract s_h267c3e (Int.toNat (IntKind.wrap .i64 ((-2 : Int) - x))) (Int.toNat (IntKind.wrap .i64 ((IntKind.wrap .i64 ((-2 : Int) - x)) + (1 : Int)))))) + ByteArray.size (List.getD x3_2 (Int.toNat (IntKind.wrap .i64 ((List.length x3_2 : Int) - (1 : Int)))) ByteArray.empty) ≤ 9223372036854775807)) then
                        bif (decide (ByteArray.size (((s_h28 ++ (List.getD x3_2 (Int.toNat (IntKind.wrap .i64 ((List.length x3_2 : Int) - (2 : Int)))) ByteArray.empty)) ++ (ByteArray.extract s_h267c3e (Int.toNat (IntKind.wrap .i64 ((-2 : Int) - x))) (Int.toNat (IntKind.wrap .i64 ((IntKind.wrap .i64 ((-2 : Int) - x)) + (1 : Int)))))) ++ (List.getD x3_2 (Int.toNat (IntKind.wrap .i64 ((List.length x3_2 : Int) - (1 : Int)))) ByteArray.empty)) + ByteArray.size s_h29 ≤ 9223372036854775807)) then
                          bif (inB (IntKind.wrap .i64 ((List.length x3_2 : Int) - (2 : Int))) (List.length x3_2)) then
                            bif (decide ((0 : Int) ≤ (0 : Int)) && decide ((0 : Int) ≤ (IntKind.wrap .i64 ((List.length x3_2 : Int) - (1 : Int)))) && decide ((IntKind.wrap .i64 ((List.length x3_2 : Int) - (1 : Int))) ≤ (List.length (List.set x3_2 (Int.toNat (IntKind.wrap .i64 ((List.length x3_2 : Int) - (2 : Int)))) ((((s_h28 ++ (List.getD x3_2 (Int.toNat (IntKind.wrap .i64 ((List.length x3_2 : Int) - (2 : Int)))) ByteArray.empty)) ++ (ByteArray.extract s_h267c3e (Int.toNat (IntKind.wrap .i64 ((-2 : Int) - x))) (Int.toNat (IntKind.wrap .i64 ((IntKind.wrap .i64 ((-2 : Int) - x)) + (1 : Int)))))) ++ (List.getD x3_2 (Int.toNat (IntKind.wrap .i64 ((List.length x3_2 : Int) - (1 : Int)))) ByteArray.empty)) ++ s_h29)) : Int))) then
                              next (List.take (Int.toNat (IntKind.wrap .i64 ((List.length x3_2 : Int) - (1 : Int)))) (List.set x3_2 (Int.toNat (IntKind.wrap .i64 ((List.length x3_2 : Int) - (2 : Int)))) ((((s_h28 ++ (List.getD x3_2 (Int.toNat (IntKind.wrap .i64 ((List.length x3_2 : Int) - (2 : Int)))) ByteArray.empty)) ++ (ByteArray.extract s_h267c3e (Int.toNat (IntKind.wrap .i64 ((-2 : Int) - x))) (Int.toNat (IntKind.wrap .i64 ((IntKind.wrap .i64 ((-2 : Int) - x)) + (1 : Int)))))) ++ (List.getD x3_2 (Int.toNat (IntKind.wrap .i64 ((List.length x3_2 : Int) - (1 : Int)))) ByteArray.empty)) ++ s_h29)))
                            else none
                          else none
                        else none
                      else none
                    else none
                  else none
                else none
              else none
            else none) := by
  have hx := maxLen_eq
  refine ⟨fun i n s next hn hs => ?_, fun i s w next hw hs => ?_, fun i o s u w next ho hu hw hs => ?_⟩
  · have w1 : IntKind.wrap .i64 ((n : Int) + 1) = ((n + 1 : Nat) : Int) := wrap64 (by omega) (by omega)
    have sz : ByteArray.size s_abcdef = 6 := rfl
    have d0 : decide ((n : Int) ≥ 0) = true := decide_eq_true (by omega)
    have d1 : decide ((0 : Int) ≤ (n : Int)) = true := decide_eq_true (by omega)
    have d2 : decide ((n : Int) ≤ ((n + 1 : Nat) : Int)) = true := decide_eq_true (by omega)
    have d3 : decide (((n + 1 : Nat) : Int) ≤ ((6 : Nat) : Int)) = true := decide_eq_true (by omega)
    have d4 : decide ((s.length + List.length [packB [UInt8.ofNat (97 + n)]]) * 1 ≤ 4398046511104) = true := decide_eq_true (by simp only [List.length_cons, List.length_nil]; omega)
    simp only [w1, sz, d0, d1, d2, d3, Int.toNat_natCast, abc_at hn, d4, cond_true, Bool.and_self]
  · have w1 : IntKind.wrap .i64 ((List.length (s ++ [packB w]) : Int) - 1) = ((s.length : Nat) : Int) := by
      rw [List.length_append, wrap64 (by simp <;> omega) (by simp <;> omega)]; simp
    have e1 : s_h21 = packB [33] := rfl
    have d0 : decide ((-1 : Int) ≥ 0) = false := by decide
    have d1 : ((-1 : Int) == -1) = true := by decide
    have d2 : decide ([(33 : UInt8)].length + w.length ≤ 9223372036854775807) = true := decide_eq_true (by simp only [List.length_cons, List.length_nil]; omega)
    simp only [d0, d1, w1, inB_nat (show s.length < (s ++ [packB w]).length by simp), Int.toNat_natCast, last_at, last_set, e1, pack_app, pack_size, d2, cond_true, cond_false]
    rfl
  · have w1 : IntKind.wrap .i64 ((List.length (s ++ [packB u, packB w]) : Int) - 1) = ((s.length + 1 : Nat) : Int) := by
      rw [List.length_append, wrap64 (by simp <;> omega) (by simp <;> omega)]; simp <;> omega
    have w2 : IntKind.wrap .i64 ((List.length (s ++ [packB u, packB w]) : Int) - 2) = ((s.length : Nat) : Int) := by
      rw [List.length_append, wrap64 (by simp <;> omega) (by simp <;> omega)]; simp
    have w3 : IntKind.wrap .i64 ((-2 : Int) - (-2 - (o : Int))) = (o : Int) := by
      rw [wrap64 (by omega) (by omega)]; omega
    have w4 : IntKind.wrap .i64 ((o : Int) + 1) = ((o + 1 : Nat) : Int) := wrap64 (by omega) (by omega)
    have sz : ByteArray.size s_h267c3e = 3 := rfl
    have d4 : (decide ((0 : Int) ≤ (o : Int)) && decide ((o : Int) ≤ ((o + 1 : Nat) : Int)) && decide (((o + 1 : Nat) : Int) ≤ ((3 : Nat) : Int))) = true := by
      rw [decide_eq_true (by omega), decide_eq_true (by omega), decide_eq_true (by omega)]; rfl
    have e28 : s_h28 = packB [40] := rfl
    have e29 : s_h29 = packB [41] := rfl
    have ne1 : ((-2 - (o : Int)) == -1) = false := by simp <;> omega
    have d3 : ∀ z : ByteArray, (decide ((0 : Int) ≤ (0 : Int)) && decide ((0 : Int) ≤ ((s.length + 1 : Nat) : Int)) && decide (((s.length + 1 : Nat) : Int) ≤ (List.length ((s ++ [packB u, packB w]).set s.length z) : Int))) = true := fun z => by
      rw [decide_eq_true (by omega), decide_eq_true (by omega), decide_eq_true (by simp <;> omega)]; rfl
    have tk : ∀ z : ByteArray, List.take (s.length + 1) ((s ++ [packB u, packB w]).set s.length z) = s ++ [z] := fun z => by
      rw [List.set_append_right _ _ (Nat.le_refl _), Nat.sub_self]
      show List.take (s.length + 1) (s ++ [z, packB w]) = _
      rw [show s ++ [z, packB w] = (s ++ [z]) ++ [packB w] by simp, List.take_left' (by simp)]
    simp only [w1, w2, w3, w4, sz, d4, decide_eq_false (show ¬ (-2 - (o : Int)) ≥ 0 by omega), ne1, inB_nat (show s.length < (s ++ [packB u, packB w]).length by simp), inB_nat (show s.length + 1 < (s ++ [packB u, packB w]).length by simp), Int.toNat_natCast, last2_at.1, last2_at.2, (op_at ho).2, e28, e29, d3, tk, pack_app, pack_size, cond_true, cond_false]
    rw [decide_eq_true (by simp <;> omega), decide_eq_true (by simp <;> omega), decide_eq_true (by simp <;> omega), decide_eq_true (by simp <;> omega)]
    simp only [cond_true]
    congr 3
    simp
theorem spec_FT_no {N : Nat} {r : List Int} {kf : ByteArray → Option Ret} (hl : r.length ≤ 1048576) (hN : r.length < N) (hf : isFm r = false) : spec_FormulaText N r kf = kf s_e := by
  unfold spec_FormulaText
  rw [spec_IsFormula_ok hl hN, hf]
  rfl
theorem impl_FT_no {N : Nat} {r : List Int} {kf : ByteArray → Option Ret} (hl : r.length ≤ 1048576) (hN : r.length + 100 < N) (hf : isFm r = false) : impl_FormulaText N r kf = kf s_e := by
  unfold impl_FormulaText
  rw [impl_IsFormula_ok hl hN, hf]
  rfl
theorem spec_FT_yes {N : Nat} {t : Fm} {kf : ByteArray → Option Ret} (ht : okF t) (hf : isFm (rpn t) = true) (hN : (rpn t).length < N) : spec_FormulaText N (rpn t) kf = kf (packB (txt t)) := by
  have hx := maxLen_eq
  have h24 := isFm_len hf
  unfold spec_FormulaText
  rw [spec_IsFormula_ok (by omega) hN, hf]
  simp only [Bool.not_true, cond_false]
  rw [spec_FormulaText_l5_r (by omega) hN]
  have := txt_loop (kend := fun (x3_3 : List ByteArray) => bif (inB (0 : Int) (List.length x3_3)) then kf (List.getD x3_3 (Int.toNat (0 : Int)) ByteArray.empty) else none) spec_txtBody t [] 0 [] ht (by omega) (by simp; omega)
  rw [List.append_nil] at this
  exact this.trans rfl
theorem impl_FT_yes {N : Nat} {t : Fm} {kf : ByteArray → Option Ret} (ht : okF t) (hf : isFm (rpn t) = true) (hN : (rpn t).length + 100 < N) : impl_FormulaText N (rpn t) kf = kf (packB (txt t)) := by
  have hx := maxLen_eq
  have h24 := isFm_len hf
  unfold impl_FormulaText
  rw [impl_IsFormula_ok (by omega) hN, hf]
  simp only [Bool.not_true, cond_false]
  rw [impl_FormulaText_l5_r (by omega) (by omega)]
  have := txt_loop (kend := fun (x3_2 : List ByteArray) => bif (inB (0 : Int) (List.length x3_2)) then kf (List.getD x3_2 (Int.toNat (0 : Int)) ByteArray.empty) else none) impl_txtBody t [] 0 [] ht (by omega) (by simp; omega)
  rw [List.append_nil] at this
  exact this.trans rfl
end Go.Pv.R
namespace Go.Pv.R
set_option linter.unusedVariables false
set_option linter.unusedSimpArgs false
theorem bt_get {s : ByteArray} {i : Nat} (h : i < s.size) (h' : i < s.data.toList.length) : bt s (i : Int) = ((s.data.toList[i]).toNat : Int) := by
  unfold bt
  rw [dif_pos (by simpa using h)]
  simp only [Int.toNat_natCast]
  congr 2
theorem bt_cons {s : ByteArray} {i : Nat} {b : UInt8} {r : List UInt8} (h : s.data.toList.drop i = b :: r) : i < s.size ∧ bt s (i : Int) = (b.toNat : Int) ∧ s.data.toList.drop (i + 1) = r := by
  have hlt : i < s.data.toList.length := by have := congrArg List.length h; simp at this; simp; omega
  have hsz : i < s.size := by rw [Lib.size_eq]; exact hlt
  have h0 := h
  rw [List.drop_eq_getElem_cons hlt] at h
  injection h with h1 h2
  exact ⟨hsz, by rw [bt_get hsz hlt, h1], h2⟩
theorem fst_txt {n : Nat} (h : n < 6) : ((UInt8.ofNat (97 + n)).toNat : Int) = 97 + (n : Int) := by
  have : n = 0 ∨ n = 1 ∨ n = 2 ∨ n = 3 ∨ n = 4 ∨ n = 5 := by omega
  rcases this with rfl | rfl | rfl | rfl | rfl | rfl <;> rfl
theorem spec_read_ok {s : ByteArray} (hs : s.size ≤ 1000) : ∀ (t : Fm) (N i : Nat) (rest : List UInt8) (kf : List Int → Int → Option Ret), okF t → s.data.toList.drop i = txt t ++ rest → (rpn t).length < N → (rpn t).length ≤ 1000 → spec_l32Read N s (i : Int) kf = kf (rpn t) ((i + (txt t).length : Nat) : Int)
  | t, 0, i, rest, kf, ht, hd, hN, hr => by omega
  | .le n, N + 1, i, rest, kf, ht, hd, hN, hr => by
    obtain ⟨h1, h2, h3⟩ := bt_cons (b := UInt8.ofNat (97 + n)) (r := rest) hd
    have hn : n < 6 := ht
    show spec_l32Read_b (spec_l32Read N) N s (i : Int) kf = _
    unfold spec_l32Read_b
    have e : IntKind.wrap .u8 ((97 + (n : Int)) - 97) = (n : Int) := by
      have : n = 0 ∨ n = 1 ∨ n = 2 ∨ n = 3 ∨ n = 4 ∨ n = 5 := by omega
      rcases this with rfl | rfl | rfl | rfl | rfl | rfl <;> rfl
    rw [decide_eq_false (by omega), cond_false, inB_nat h1, cond_true, h2, fst_txt hn, decide_eq_true (by omega), cond_true, decide_eq_true (by omega), e, wrap64 (n := (n : Int)) (by omega) (by omega), wrap64 (n := (i : Int) + 1) (by omega) (by omega)]
    rfl
  | .no t, N + 1, i, rest, kf, ht, hd, hN, hr => by
    obtain ⟨h1, h2, h3⟩ := bt_cons (b := 33) (r := txt t ++ rest) hd
    simp only [rpn, List.length_append, List.length_cons, List.length_nil] at hN hr
    have ih := fun kf => spec_read_ok hs t N (i + 1) rest kf ht h3 (by omega) (by omega)
    have hl := txt_le t
    show spec_l32Read_b (spec_l32Read N) N s (i : Int) kf = _
    unfold spec_l32Read_b
    have b33 : ((33 : UInt8).toNat : Int) = 33 := rfl
    have w1 : IntKind.wrap .i64 ((i : Int) + 1) = ((i + 1 : Nat) : Int) := wrap64 (by omega) (by omega)
    rw [decide_eq_false (by omega), cond_false, inB_nat h1, cond_true, h2, b33, decide_eq_false (by omega), cond_false, cond_true, show ((33 : Int) == 33) = true from rfl, cond_true, w1, ih, decide_eq_true (by simp only [List.length_cons, List.length_nil]; omega), cond_true]
    simp only [rpn, txt, List.length_cons]
    congr 2
    omega
  | .bi o a b, N + 1, i, rest, kf, ht, hd, hN, hr => by
    obtain ⟨h1, h2, h3⟩ := bt_cons (b := 40) (r := txt a ++ (opB o :: (txt b ++ (41 :: rest)))) (by rw [hd]; simp [txt])
    simp only [rpn, List.length_append, List.length_cons, List.length_nil] at hN hr
    have iha := fun kf => spec_read_ok hs a N (i + 1) _ kf ht.2.1 h3 (by omega) (by omega)
    obtain ⟨k1, k2, k3⟩ := bt_cons (i := i + 1 + (txt a).length) (b := opB o) (r := txt b ++ (41 :: rest)) (by rw [← List.drop_drop, h3, List.drop_left])
    have ihb := fun kf => spec_read_ok hs b N (i + 1 + (txt a).length + 1) _ kf ht.2.2 k3 (by omega) (by omega)
    obtain ⟨m1, m2, m3⟩ := bt_cons (i := i + 1 + (txt a).length + 1 + (txt b).length) (b := 41) (r := rest) (by rw [← List.drop_drop, k3, List.drop_left])
    have b40 : ((40 : UInt8).toNat : Int) = 40 := rfl
    have b41 : ((41 : UInt8).toNat : Int) = 41 := rfl
    have w1 : IntKind.wrap .i64 ((i : Int) + 1) = ((i + 1 : Nat) : Int) := wrap64 (by omega) (by omega)
    have w2 : IntKind.wrap .i64 (((i + 1 + (txt a).length : Nat) : Int) + 1) = ((i + 1 + (txt a).length + 1 : Nat) : Int) := wrap64 (by omega) (by omega)
    have w3 : IntKind.wrap .i64 (((i + 1 + (txt a).length + 1 + (txt b).length : Nat) : Int) + 1) = ((i + 1 + (txt a).length + 1 + (txt b).length + 1 : Nat) : Int) := wrap64 (by omega) (by omega)
    have jj : ∀ y : Int, y ≠ 0 → spec_l32Read_j2 (spec_l32Read N) s kf (rpn a) ((i + 1 + (txt a).length : Nat) : Int) y = kf ((rpn a ++ rpn b) ++ [y]) ((i + 1 + (txt a).length + 1 + (txt b).length + 1 : Nat) : Int) := fun y hy => by
      unfold spec_l32Read_j2
      rw [w2, ihb]
      have y0 : (y == 0) = false := beq_eq_false_iff_ne.2 hy
      rw [y0, cond_false, decide_eq_false (by omega), cond_false, decide_eq_false (by omega), cond_false, inB_nat m1, cond_true, m2, b41, show ((41 : Int) != 41) = false from rfl, cond_false, decide_eq_true (by omega), cond_true, decide_eq_true (by simp only [List.length_append, List.length_cons, List.length_nil]; omega), cond_true, w3]
    show spec_l32Read_b (spec_l32Read N) N s (i : Int) kf = _
    unfold spec_l32Read_b
    rw [decide_eq_false (by omega), cond_false, inB_nat h1, cond_true, h2, b40, decide_eq_false (by omega), cond_false, cond_true, show ((40 : Int) == 33) = false from rfl, cond_false, cond_true, show ((40 : Int) == 40) = true from rfl, cond_true, w1, iha, decide_eq_false (by omega), cond_false, decide_eq_false (by omega), cond_false, inB_nat k1, cond_true, k2, jj (-2) (by decide), jj (-3) (by decide), jj (-4) (by decide)]
    have fin : ∀ y : Int, y = -2 - (o : Int) → kf ((rpn a ++ rpn b) ++ [y]) ((i + 1 + (txt a).length + 1 + (txt b).length + 1 : Nat) : Int) = kf (rpn (.bi o a b)) ((i + (txt (.bi o a b)).length : Nat) : Int) := fun y hy => by
      subst hy
      have : i + 1 + (txt a).length + 1 + (txt b).length + 1 = i + (txt (.bi o a b)).length := by simp [txt]; omega
      rw [this]
      rfl
    have ho : o = 0 ∨ o = 1 ∨ o = 2 := by have := ht.1; omega
    rcases ho with rfl | rfl | rfl
    · exact fin _ rfl
    · exact fin _ rfl
    · exact fin _ rfl
end Go.Pv.R
namespace Go.Pv.R
set_option linter.unusedVariables false
set_option linter.unusedSimpArgs false
theorem Concat3_ok {N : Nat} {a b c : List Int} {kf : List Int → Option Ret} (ha : a.length ≤ 1048700) (hb : b.length ≤ 1048700) (hc : c.length ≤ 1048700) (hN : 3 < N) : slices_Concat_int N [a, b, c] kf = kf (a ++ b ++ c) := by
  have hm := maxLen_eq
  unfold slices_Concat_int
  rw [slices_Concat_int_l3_r (by simp; omega) (by simpa using hN)]
  simp only [goL1]
  rw [wrap64 (n := (0 : Int) + (List.length a : Int)) (by omega) (by omega), decide_eq_false (by omega), cond_false, wrap64 (n := (0 : Int) + (List.length a : Int) + (List.length b : Int)) (by omega) (by omega), decide_eq_false (by omega), cond_false, wrap64 (n := (0 : Int) + (List.length a : Int) + (List.length b : Int) + (List.length c : Int)) (by omega) (by omega), decide_eq_false (by omega), cond_false]
  unfold slices_Grow_int
  have e : (List.isEmpty ([] : List Int) && (decide ((0 : Int) ≤ 0 + (List.length a : Int) + (List.length b : Int) + (List.length c : Int)) && decide (0 + (List.length a : Int) + (List.length b : Int) + (List.length c : Int) ≤ (549755813888 : Int)))) = true := by
    rw [decide_eq_true (by omega), decide_eq_true (by omega)]; rfl
  rw [e, cond_true]
  show slices_Concat_int_l11 [a, b, c] (List.length [a, b, c] : Int) N kf [] 0 = _
  rw [slices_Concat_int_l11_r (by simp; omega) (by simpa using hN)]
  simp only [goL1]
  rw [decide_eq_true (by simp; omega), cond_true, decide_eq_true (by simp; omega), cond_true, decide_eq_true (by simp; omega), cond_true]
  rfl
theorem emp_cons {b : UInt8} {r : List UInt8} : (ByteArray.toList (packB (b :: r)) == ByteArray.toList s_e) = false := by
  refine beq_eq_false_iff_ne.2 fun h => ?_
  rw [Lib.toList_data, Lib.toList_data, data_pack] at h
  cases h
theorem emp_nil : (ByteArray.toList (packB []) == ByteArray.toList s_e) = true := by
  rw [beq_iff_eq, Lib.toList_data, Lib.toList_data]; rfl
/-- The first byte, and what stands behind it. -/
theorem pack_cons {b : UInt8} {r : List UInt8} : inB (0 : Int) (ByteArray.size (packB (b :: r))) = true ∧ bt (packB (b :: r)) 0 = (b.toNat : Int) ∧ ByteArray.extract (packB (b :: r)) (Int.toNat 1) (Int.toNat (ByteArray.size (packB (b :: r)) : Int)) = packB r ∧ (decide ((0 : Int) ≤ (1 : Int)) && decide ((1 : Int) ≤ (ByteArray.size (packB (b :: r)) : Int)) && decide ((ByteArray.size (packB (b :: r)) : Int) ≤ (ByteArray.size (packB (b :: r)) : Int))) = true := by
  obtain ⟨h1, h2, h3⟩ := bt_cons (s := packB (b :: r)) (i := 0) (b := b) (r := r) (by rw [data_pack]; rfl)
  refine ⟨inB_nat (i := 0) h1, h2, ?_, ?_⟩
  · rw [Int.toNat_natCast, extract_pack, data_pack, pack_size]
    congr 1
    simp
  · rw [decide_eq_true (by omega), decide_eq_true (by omega), decide_eq_true (by omega)]; rfl
theorem impl_read_ok : ∀ (t : Fm) (N : Nat) (rest : List UInt8) (kf : List Int → ByteArray → Bool → Option Ret), okF t → (rpn t).length + 5 < N → (rpn t).length ≤ 1000 → impl_readFormula N (packB (txt t ++ rest)) kf = kf (rpn t) (packB rest) true
  | t, 0, rest, kf, ht, hN, hr => by omega
  | .le n, N + 1, rest, kf, ht, hN, hr => by
    have hn : n < 6 := ht
    show impl_readFormula_b (impl_readFormula N) N (packB (UInt8.ofNat (97 + n) :: rest)) kf = _
    obtain ⟨p1, p2, p3, p4⟩ := pack_cons (b := UInt8.ofNat (97 + n)) (r := rest)
    unfold impl_readFormula_b
    have f1 : ((97 + (n : Int)) == 33) = false := by simp; omega
    have f2 : ((97 + (n : Int)) == 40) = false := by simp; omega
    rw [emp_cons, cond_false, p1, cond_true, p2, fst_txt hn, f1, cond_false, cond_true, f2, cond_false, cond_true, p4, cond_true, p3, wrap64 (n := 97 + (n : Int)) (by omega) (by omega), wrap64 (by omega) (by omega)]
    show kf [97 + (n : Int) - 97] _ _ = kf [(n : Int)] _ _
    congr 2
    omega
  | .no t, N + 1, rest, kf, ht, hN, hr => by
    simp only [rpn, List.length_append, List.length_cons, List.length_nil] at hN hr
    show impl_readFormula_b (impl_readFormula N) N (packB (33 :: (txt t ++ rest))) kf = _
    obtain ⟨p1, p2, p3, p4⟩ := pack_cons (b := 33) (r := txt t ++ rest)
    have b33 : ((33 : UInt8).toNat : Int) = 33 := rfl
    unfold impl_readFormula_b
    rw [emp_cons, cond_false, p1, cond_true, p2, b33, show ((33 : Int) == 33) = true from rfl, cond_true, p4, cond_true, p3, impl_read_ok t N rest _ ht (by omega) (by omega), decide_eq_true (by simp only [List.length_cons, List.length_nil]; omega), cond_true]
    rfl
  | .bi o a b, N + 1, rest, kf, ht, hN, hr => by
    simp only [rpn, List.length_append, List.length_cons, List.length_nil] at hN hr
    have ed : txt (.bi o a b) ++ rest = 40 :: (txt a ++ (opB o :: (txt b ++ (41 :: rest)))) := by simp [txt]
    rw [ed]
    show impl_readFormula_b (impl_readFormula N) N (packB (40 :: (txt a ++ (opB o :: (txt b ++ (41 :: rest)))))) kf = _
    obtain ⟨p1, p2, p3, p4⟩ := pack_cons (b := 40) (r := txt a ++ (opB o :: (txt b ++ (41 :: rest))))
    obtain ⟨q1, q2, q3, q4⟩ := pack_cons (b := opB o) (r := txt b ++ (41 :: rest))
    obtain ⟨r1, r2, r3, r4⟩ := pack_cons (b := 41) (r := rest)
    have b40 : ((40 : UInt8).toNat : Int) = 40 := rfl
    have b41 : ((41 : UInt8).toNat : Int) = 41 := rfl
    have hop : letterAt s_h267c3e ((opB o).toNat : Int) = (o : Int) := by
      have ho : o = 0 ∨ o = 1 ∨ o = 2 := by have := ht.1; omega
      rcases ho with rfl | rfl | rfl <;> rfl
    unfold impl_readFormula_b
    rw [emp_cons, cond_false, p1, cond_true, p2, b40, show ((40 : Int) == 33) = false from rfl, cond_false, cond_true, show ((40 : Int) == 40) = true from rfl, cond_true, p4, cond_true, p3, impl_read_ok a N _ _ ht.2.1 (by omega) (by omega)]
    simp only [Bool.not_true, cond_false]
    rw [emp_cons, cond_false, q1, cond_true]
    unfold strings_IndexByte
    simp only [q2, hop]
    rw [q4, cond_true, q3, impl_read_ok b N _ _ ht.2.2 (by omega) (by omega), decide_eq_false (by omega), cond_false]
    simp only [Bool.not_true, cond_false]
    rw [emp_cons, cond_false, r1, cond_true, r2, b41, show ((41 : Int) != 41) = false from rfl, cond_false, r4, cond_true, Concat3_ok (by omega) (by omega) (by simp) (by omega), r3, wrap64 (by have := ht.1; omega) (by have := ht.1; omega)]
    rfl
end Go.Pv.R
namespace Go.Pv.R
set_option linter.unusedVariables false
set_option linter.unusedSimpArgs false
theorem j12 : @spec_l32Read_j1 = @spec_l32Read_j2 := rfl
def GoodR (s : ByteArray) (i : Nat) (r : List Int) (p : Int) : Prop := (∃ q : Nat, p = (q : Int) ∧ i < q ∧ q ≤ s.size ∧ r.length + i ≤ q) ∨ (p = -1 ∧ r.length + i ≤ s.size)
theorem good_no {s : ByteArray} {i : Nat} (h : i ≤ s.size) : GoodR s i [] (-1) := .inr ⟨rfl, by simpa using h⟩
theorem spec_read_tot {s : ByteArray} (hs : s.size ≤ 1000) : ∀ (N i : Nat), i ≤ s.size → s.size < N + i → ∃ r p, (∀ kf, spec_l32Read N s (i : Int) kf = kf r p) ∧ GoodR s i r p
  | 0, i, h1, h2 => by omega
  | N + 1, i, h1, h2 => by
    have hx := maxLen_eq
    have ih := spec_read_tot hs N
    by_cases hi : i = s.size
    · refine ⟨[], -1, fun kf => ?_, good_no h1⟩
      show spec_l32Read_b (spec_l32Read N) N s (i : Int) kf = _
      unfold spec_l32Read_b
      rw [decide_eq_true (by omega)]
      rfl
    have hlt : i < s.size := by omega
    have w1 : IntKind.wrap .i64 ((i : Int) + 1) = ((i + 1 : Nat) : Int) := wrap64 (by omega) (by omega)
    obtain ⟨ra, pa, ea, ga⟩ := ih (i + 1) (by omega) (by omega)
    have jj : ∀ (q : Nat) (y : Int), pa = (q : Int) → q < s.size → ∃ r p, (∀ kf, spec_l32Read_j2 (spec_l32Read N) s kf ra (q : Int) y = kf r p) ∧ GoodR s i r p := fun q y hq hqs => by
      have hqa : i + 1 < q ∧ ra.length + (i + 1) ≤ q := by
        rcases ga with ⟨q', e1, e2, e3, e4⟩ | ⟨e1, _⟩
        · omega
        · omega
      obtain ⟨rb, pb, eb, gb⟩ := ih (q + 1) (by omega) (by omega)
      have w2 : IntKind.wrap .i64 ((q : Int) + 1) = ((q + 1 : Nat) : Int) := wrap64 (by omega) (by omega)
      have no : ∀ (A : (List Int → Int → Option Ret) → Option Ret), (∀ kf, A kf = kf [] (-1)) → ∃ r p, (∀ kf, A kf = kf r p) ∧ GoodR s i r p := fun A h => ⟨[], -1, h, good_no h1⟩
      unfold spec_l32Read_j2
      simp only [w2, eb]
      cases y == 0 with
      | true => exact ⟨[], -1, fun kf => rfl, good_no h1⟩
      | false =>
        rcases gb with ⟨q2, e1, e2, e3, e4⟩ | ⟨e1, _⟩
        rotate_left
        · subst e1; exact ⟨[], -1, fun kf => rfl, good_no h1⟩
        subst e1
        rw [decide_eq_false (show ¬ (q2 : Int) < 0 by omega)]
        by_cases h2 : q2 = s.size
        · refine ⟨[], -1, fun kf => ?_, good_no h1⟩
          rw [decide_eq_true (by omega)]
          rfl
        · rw [decide_eq_false (show ¬ (q2 : Int) ≥ (s.size : Int) by omega), inB_nat (show q2 < s.size by omega)]
          cases hb : (bt s (q2 : Int) != 41) with
          | true => exact ⟨[], -1, fun kf => rfl, good_no h1⟩
          | false =>
            have w3 : IntKind.wrap .i64 ((q2 : Int) + 1) = ((q2 + 1 : Nat) : Int) := wrap64 (by omega) (by omega)
            refine ⟨(ra ++ rb) ++ [y], ((q2 + 1 : Nat) : Int), fun kf => ?_, .inl ⟨q2 + 1, rfl, by omega, by omega, by simp only [List.length_append, List.length_cons, List.length_nil]; omega⟩⟩
            simp only [cond_true, cond_false]
            rw [decide_eq_true (by omega), cond_true, decide_eq_true (by simp only [List.length_append, List.length_cons, List.length_nil]; omega), cond_true, w3]
    have tail : ∃ r p, (∀ kf, (bif ((bt s (i : Int)) == (33 : Int)) then
            spec_l32Read N s ((i + 1 : Nat) : Int) (fun (r45_8 : (List Int)) (r45_9 : Int) =>
              bif (decide ((List.length r45_8 + List.length [(-1 : Int)]) * 1 ≤ 4398046511104)) then
                kf (r45_8 ++ [(-1 : Int)]) r45_9
              else none)
          else
              bif ((bt s (i : Int)) == (40 : Int)) then
                spec_l32Read N s ((i + 1 : Nat) : Int) (fun (r61_10 : (List Int)) (r61_11 : Int) =>
                  bif (decide (r61_11 < (0 : Int))) then
                    kf ([] : (List Int)) (-1 : Int)
                  else
                    bif (decide (r61_11 ≥ (ByteArray.size s : Int))) then
                      kf ([] : (List Int)) (-1 : Int)
                    else
                      bif (inB r61_11 (ByteArray.size s)) then
                        bif ((bt s r61_11) == (38 : Int)) then
                          spec_l32Read_j2 (spec_l32Read N) s kf r61_10 r61_11 (-2 : Int)
                        else
                          bif ((bt s r61_11) == (124 : Int)) then
                            spec_l32Read_j2 (spec_l32Read N) s kf r61_10 r61_11 (-3 : Int)
                          else
                            bif ((bt s r61_11) == (62 : Int)) then
                              spec_l32Read_j2 (spec_l32Read N) s kf r61_10 r61_11 (-4 : Int)
                            else
                              spec_l32Read_j2 (spec_l32Read N) s kf r61_10 r61_11 (0 : Int)
                      else none)
              else
                kf ([] : (List Int)) (-1 : Int)) = kf r p) ∧ GoodR s i r p := by
      have hla : ra.length ≤ 1000 := by
        rcases ga with ⟨q', e1, e2, e3, e4⟩ | ⟨e1, e2⟩ <;> omega
      simp only [ea]
      cases bt s (i : Int) == 33 with
      | true =>
        refine ⟨ra ++ [-1], pa, fun kf => ?_, ?_⟩
        · rw [decide_eq_true (by simp only [List.length_cons, List.length_nil]; omega)]; rfl
        · rcases ga with ⟨q', e1, e2, e3, e4⟩ | ⟨e1, e2⟩
          · exact .inl ⟨q', e1, by omega, e3, by simp only [List.length_append, List.length_cons, List.length_nil]; omega⟩
          · exact .inr ⟨e1, by simp only [List.length_append, List.length_cons, List.length_nil]; omega⟩
      | false =>
        cases bt s (i : Int) == 40 with
        | false => exact ⟨[], -1, fun kf => rfl, good_no h1⟩
        | true =>
          simp only [cond_true, cond_false]
          rcases ga with ⟨q, e1, e2, e3, e4⟩ | ⟨e1, e2⟩
          rotate_left
          · subst e1; exact ⟨[], -1, fun kf => rfl, good_no h1⟩
          subst e1
          rw [decide_eq_false (show ¬ (q : Int) < 0 by omega)]
          by_cases h2 : q = s.size
          · refine ⟨[], -1, fun kf => ?_, good_no h1⟩
            rw [decide_eq_true (by omega)]
            rfl
          · rw [decide_eq_false (show ¬ (q : Int) ≥ (s.size : Int) by omega), inB_nat (show q < s.size by omega)]
            cases bt s (q : Int) == 38
            rotate_left
            · exact jj q _ rfl (by omega)
            cases bt s (q : Int) == 124
            rotate_left
            · exact jj q _ rfl (by omega)
            cases bt s (q : Int) == 62
            rotate_left
            · exact jj q _ rfl (by omega)
            · exact jj q _ rfl (by omega)
    show ∃ r p, (∀ kf, spec_l32Read_b (spec_l32Read N) N s (i : Int) kf = kf r p) ∧ GoodR s i r p
    unfold spec_l32Read_b
    rw [j12]
    simp only [decide_eq_false (show ¬ (i : Int) ≥ (s.size : Int) by omega), inB_nat hlt, cond_true, cond_false, w1]
    cases decide (bt s (i : Int) ≥ 97) with
    | false => exact tail
    | true =>
      cases decide (bt s (i : Int) ≤ 102) with
      | false => exact tail
      | true => exact ⟨_, _, fun kf => rfl, .inl ⟨i + 1, rfl, by omega, by omega, by simp only [List.length_cons, List.length_nil]; omega⟩⟩
theorem impl_read_tot : ∀ (N : Nat) (D : List UInt8), D.length ≤ 1000 → D.length + 5 < N → ∃ r rest b, (∀ kf, impl_readFormula N (packB D) kf = kf r (packB rest) b) ∧ r.length + rest.length ≤ D.length
  | 0, D, h1, h2 => by omega
  | N + 1, D, h1, h2 => by
    have hx := maxLen_eq
    have ih := impl_read_tot N
    show ∃ r rest b, (∀ kf, impl_readFormula_b (impl_readFormula N) N (packB D) kf = kf r (packB rest) b) ∧ r.length + rest.length ≤ D.length
    unfold impl_readFormula_b
    have no : ∀ {A : (List Int → ByteArray → Bool → Option Ret) → Option Ret}, (∀ kf, A kf = kf [] s_e false) → ∃ r rest b, (∀ kf, A kf = kf r (packB rest) b) ∧ r.length + rest.length ≤ D.length := fun h => ⟨[], [], false, h, by simp⟩
    cases D with
    | nil =>
      rw [emp_nil]
      exact no fun kf => rfl
    | cons c D =>
      simp only [List.length_cons] at h1 h2 ⊢
      obtain ⟨p1, p2, p3, p4⟩ := pack_cons (b := c) (r := D)
      obtain ⟨ra, sa, ba, ea, ga⟩ := ih D (by omega) (by omega)
      simp only [emp_cons, p1, p2, p3, p4, ea, cond_true, cond_false]
      cases (c.toNat : Int) == 33 with
      | true =>
        refine ⟨ra ++ [-1], sa, ba, fun kf => ?_, by simp only [List.length_append, List.length_cons, List.length_nil]; omega⟩
        rw [decide_eq_true (by simp only [List.length_cons, List.length_nil]; omega)]
        rfl
      | false =>
        cases (c.toNat : Int) == 40 with
        | false => exact ⟨_, D, true, fun kf => rfl, by simp only [List.length_cons, List.length_nil]; omega⟩
        | true =>
          simp only [cond_true, cond_false]
          cases ba with
          | false => exact no fun kf => rfl
          | true =>
            simp only [Bool.not_true, cond_false]
            cases sa with
            | nil => rw [emp_nil]; exact no fun kf => rfl
            | cons o sa =>
              simp only [List.length_cons] at ga
              obtain ⟨q1, q2, q3, q4⟩ := pack_cons (b := o) (r := sa)
              obtain ⟨rb, sb, bb, eb, gb⟩ := ih sa (by omega) (by omega)
              unfold strings_IndexByte
              simp only [emp_cons, q1, q2, q3, q4, eb, cond_true, cond_false]
              cases decide (letterAt s_h267c3e (o.toNat : Int) < 0) with
              | true => exact no fun kf => rfl
              | false =>
                simp only [cond_false]
                cases bb with
                | false => exact no fun kf => rfl
                | true =>
                  simp only [Bool.not_true, cond_false]
                  cases sb with
                  | nil => rw [emp_nil]; exact no fun kf => rfl
                  | cons z sb =>
                    simp only [List.length_cons] at gb
                    obtain ⟨r1, r2, r3, r4⟩ := pack_cons (b := z) (r := sb)
                    simp only [emp_cons, r1, r2, r3, r4, cond_true, cond_false]
                    cases (z.toNat : Int) != 41 with
                    | true => exact no fun kf => rfl
                    | false =>
                      refine ⟨ra ++ rb ++ [IntKind.wrap .i64 ((-2 : Int) - letterAt s_h267c3e (o.toNat : Int))], sb, true, fun kf => ?_, by simp only [List.length_append, List.length_cons, List.length_nil]; omega⟩
                      simp only [cond_false]
                      rw [Concat3_ok (by omega) (by omega) (by simp) (by omega)]
end Go.Pv.R
namespace Go.Pv.R
set_option linter.unusedVariables false
set_option linter.unusedSimpArgs false
def AccF (s : ByteArray) (t : Fm) : Prop := okF t ∧ isFm (rpn t) = true ∧ s = packB (txt t)
theorem beqB_eq {a b : ByteArray} : (ByteArray.toList a == ByteArray.toList b) = true ↔ a = b := by
  rw [beq_iff_eq, Lib.toList_data, Lib.toList_data]
  exact ⟨fun h => bext h, fun h => by rw [h]⟩
theorem txt_cons (t : Fm) : ∃ b r, txt t = b :: r := by
  cases t with
  | le n => exact ⟨_, _, rfl⟩
  | no t => exact ⟨_, _, rfl⟩
  | bi o a b => exact ⟨_, _, rfl⟩
theorem spec_PF_yes {N : Nat} {s : ByteArray} {t : Fm} {kf : List Int → Bool → Option Ret} (h : AccF s t) (hN : 200 < N) : spec_ParseFormula N s kf = kf (rpn t) true := by
  obtain ⟨ho, hf, rfl⟩ := h
  have h24 := isFm_len hf
  have hl := txt_le t
  have hsz := pack_size (txt t)
  unfold spec_ParseFormula
  have hr := fun kf => spec_read_ok (s := packB (txt t)) (by omega) t N 0 [] kf ho (by rw [data_pack, List.append_nil]; rfl) (by omega) (by omega)
  simp only [Nat.zero_add] at hr
  rw [decide_eq_false (by omega), cond_false, show (0 : Int) = ((0 : Nat) : Int) from rfl, hr, hsz]
  have e : (((txt t).length : Int) != ((txt t).length : Int)) = false := by simp
  rw [e, cond_false, spec_FT_yes ho hf (by omega)]
  obtain ⟨b, r, hb⟩ := txt_cons t
  rw [hb, emp_cons]
  simp
theorem impl_PF_yes {N : Nat} {s : ByteArray} {t : Fm} {kf : List Int → Bool → Option Ret} (h : AccF s t) (hN : 200 < N) : impl_ParseFormula N s kf = kf (rpn t) true := by
  obtain ⟨ho, hf, rfl⟩ := h
  have h24 := isFm_len hf
  have hl := txt_le t
  have hsz := pack_size (txt t)
  unfold impl_ParseFormula
  have hr := fun kf => impl_read_ok t N [] kf ho (by omega) (by omega)
  rw [List.append_nil] at hr
  rw [decide_eq_false (by omega), cond_false, hr, emp_nil]
  simp only [Bool.not_true, cond_false]
  rw [impl_FT_yes ho hf (by omega)]
  simp
theorem spec_PF_no {N : Nat} {s : ByteArray} {kf : List Int → Bool → Option Ret} (h : ∀ t, ¬ AccF s t) (hN : 2000 < N) : spec_ParseFormula N s kf = kf [] false := by
  unfold spec_ParseFormula
  by_cases hs : s.size ≤ 200
  rotate_left
  · rw [decide_eq_true (by omega)]; rfl
  obtain ⟨r, p, hr, hg⟩ := spec_read_tot (s := s) (by omega) N 0 (by omega) (by omega)
  have hlen : r.length ≤ 1000 := by
    rcases hg with ⟨q, e1, e2, e3, e4⟩ | ⟨e1, e2⟩ <;> omega
  rw [decide_eq_false (by omega), cond_false, show (0 : Int) = ((0 : Nat) : Int) from rfl, hr]
  cases p != (s.size : Int) with
  | true => rfl
  | false =>
    simp only [cond_false]
    cases hf : isFm r with
    | false =>
      rw [spec_FT_no (by omega) (by omega) hf]
      cases he : (ByteArray.toList s_e == ByteArray.toList s) with
      | false => rfl
      | true =>
        have := beqB_eq.1 he
        subst this
        simp
    | true =>
      obtain ⟨t, ht, e⟩ := isFm_tree hf
      subst e
      rw [spec_FT_yes ht hf (by omega)]
      cases he : (ByteArray.toList (packB (txt t)) == ByteArray.toList s) with
      | false => rfl
      | true => exact absurd ⟨ht, hf, (beqB_eq.1 he).symm⟩ (h t)
theorem impl_PF_no {N : Nat} {s : ByteArray} {kf : List Int → Bool → Option Ret} (h : ∀ t, ¬ AccF s t) (hN : 2000 < N) : impl_ParseFormula N s kf = kf [] false := by
  unfold impl_ParseFormula
  by_cases hs : s.size ≤ 100
  rotate_left
  · rw [decide_eq_true (by omega)]; rfl
  rw [decide_eq_false (by omega), cond_false]
  obtain ⟨D, rfl⟩ : ∃ D, s = packB D := ⟨s.data.toList, (pack_data s).symm⟩
  rw [pack_size] at hs
  cases D with
  | nil =>
    obtain ⟨n, rfl⟩ : ∃ n, N = n + 1 := ⟨N - 1, by omega⟩
    show impl_readFormula_b (impl_readFormula n) n (packB []) _ = _
    unfold impl_readFormula_b
    rw [emp_nil]
    rfl
  | cons c D =>
    obtain ⟨r, rest, b, hr, hg⟩ := impl_read_tot N (c :: D) (by omega) (by omega)
    rw [hr]
    cases b with
    | false => rfl
    | true =>
      simp only [Bool.not_true, cond_false]
      cases ByteArray.toList (packB rest) == ByteArray.toList s_e with
      | false => rfl
      | true =>
        simp only [Bool.not_true, cond_false]
        cases hf : isFm r with
        | false =>
          rw [impl_FT_no (by omega) (by omega) hf]
          cases he : (ByteArray.toList s_e == ByteArray.toList (packB (c :: D))) with
          | false => rfl
          | true =>
            have := beqB_eq.1 he
            have h2 := emp_cons (b := c) (r := D)
            rw [← this] at h2
            simp at h2
        | true =>
          obtain ⟨t, ht, e⟩ := isFm_tree hf
          subst e
          rw [impl_FT_yes ht hf (by omega)]
          cases he : (ByteArray.toList (packB (txt t)) == ByteArray.toList (packB (c :: D))) with
          | false => rfl
          | true => exact absurd ⟨ht, hf, (beqB_eq.1 he).symm⟩ (h t)
theorem PF_same {N : Nat} {s : ByteArray} (hN : 2000 < N) : ∃ (r : List Int) (b : Bool), r.length ≤ 24 ∧ (∀ kf, spec_ParseFormula N s kf = kf r b) ∧ ∀ kf, impl_ParseFormula N s kf = kf r b := by
  by_cases h : ∃ t, AccF s t
  · obtain ⟨t, ht⟩ := h
    exact ⟨rpn t, true, (isFm_len ht.2.1).2, fun kf => spec_PF_yes ht (by omega), fun kf => impl_PF_yes ht (by omega)⟩
  · exact ⟨[], false, by simp, fun kf => spec_PF_no (fun t ht => h ⟨t, ht⟩) hN, fun kf => impl_PF_no (fun t ht => h ⟨t, ht⟩) hN⟩
theorem lawFnExactParseFormula (s : ByteArray) (h : wfs [.str] (s, ())) : ∃ N, ∀ kf, laws_FnExactParseFormula N s kf = kf true := by
  refine ⟨3000, fun kf => ?_⟩
  unfold laws_FnExactParseFormula
  by_cases hs : s.size ≤ 1048576
  rotate_left
  · rw [decide_eq_true (by omega)]; rfl
  rw [decide_eq_false (by omega), cond_false]
  obtain ⟨r, b, hl, hS, hI⟩ := PF_same (N := 3000) (s := s) (by omega)
  have hv : sizeV (.sl (.int .i64)) r = r.length := sizeV_sl (t := .int .i64) (by decide) _
  have mr := mark_le (t := .int .i64) (by decide) r 1
  have e2 : decide ((markL (markV (.int .i64)) r 1).2 < 0) = false := decide_eq_false (by omega)
  have h2 : ∀ k, laws_eqIntS 3000 r r k = k true := fun k => laws_eqIntS_ok (by omega) (by omega)
  have h5 : ∀ k, laws_markIntS 3000 r 1 k = k (markL (markV (.int .i64)) r 1).2 (markL (markV (.int .i64)) r 1).1 := fun k => laws_markIntS_ok (by omega) (by omega) (by omega) (by omega)
  have h6 : ∀ k, laws_heldIntS 3000 (markL (markV (.int .i64)) r 1).1 1 k = k (markL (markV (.int .i64)) r 1).2 := fun k => laws_heldIntS_ok (by omega) (by omega) (by omega) (by omega)
  simp only [hS, hI, h2, h5, h6, e2, Bool.not_true, cond_false, bne_self_eq_false, beq_self_eq_true]
end Go.Pv.R
