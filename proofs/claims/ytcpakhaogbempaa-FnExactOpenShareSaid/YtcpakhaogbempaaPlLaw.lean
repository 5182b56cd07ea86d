/- The law over the plain functions. -/
import Derived.Test.YtcpakhaogbempaaPlHz
namespace Go.Pv.R
set_option linter.unusedVariables false
set_option linter.unusedSimpArgs false
end Go.Pv.R
namespace Go.Pv.R
set_option linter.unusedVariables false
set_option linter.unusedSimpArgs false
theorem spec_l1In_ok {N : Nat} {a b c : Int} {kf : Bool → Option Ret} : spec_l1In N a b c kf = kf (inR a b c) := by
  unfold spec_l1In inR
  by_cases h : b ≤ a <;> simp [h]
theorem impl_InRange_ok {N : Nat} {a b c : Int} {kf : Bool → Option Ret} : impl_InRange N a b c kf = kf (inR a b c) := by
  unfold impl_InRange inR
  by_cases h : b ≤ a <;> simp [h]
/-- What is asked first: is it all small? -/
theorem small_or {left : Int} {s : Nat} {A B : Option Ret} (h0 : 0 ≤ left) (h : (s : Int) ≤ left → B = A) : (bif decide (szr left s < 0) then A else B) = A := by
  by_cases hn : szr left s < 0
  · rw [decide_eq_true hn]; rfl
  · rw [decide_eq_false hn, cond_false]
    exact h (by have := (szr_neg (s := s) h0); omega)
end Go.Pv.R
namespace Go.Pv.R
set_option linter.unusedVariables false
set_option linter.unusedSimpArgs false
end Go.Pv.R
namespace Go.Pv
set_option linter.unusedVariables false
set_option linter.unusedSimpArgs false
theorem findI_some {α : Type} {p : α → Bool} : ∀ {l : List α} {i k : Nat}, findI p l i = some k → ∃ j, ∃ h : j < l.length, k = i + j ∧ p l[j] = true ∧ ∀ j' (h' : j' < j), p (l[j']'(by omega)) = false
  | [], i, k, h => by cases h
  | x :: r, i, k, h => by
    simp only [findI] at h
    cases hp : p x with
    | true =>
      rw [hp] at h
      injection h with h
      exact ⟨0, by simp, by omega, hp, fun j' h' => by omega⟩
    | false =>
      rw [hp] at h
      obtain ⟨j, hj, e, h1, h2⟩ := findI_some (l := r) h
      refine ⟨j + 1, by simpa using hj, by omega, h1, fun j' h' => ?_⟩
      cases j' with
      | zero => exact hp
      | succ j' => exact h2 j' (by omega)
theorem findI_none {α : Type} {p : α → Bool} : ∀ {l : List α} {i : Nat}, findI p l i = none → ∀ j (h : j < l.length), p l[j] = false
  | [], i, h, j, hj => by simp at hj
  | x :: r, i, h, j, hj => by
    simp only [findI] at h
    cases hp : p x with
    | true => rw [hp] at h; cases h
    | false =>
      rw [hp] at h
      cases j with
      | zero => exact hp
      | succ j => exact findI_none (l := r) h j (by simpa using hj)
/-- A search: the first place with a property. -/
theorem goL_find {α : Type} {body : Nat → α → Option Ret → Option Ret} {kend : Option Ret} {kf : Nat → Option Ret} {p : α → Bool} (hb : ∀ (i : Nat) (x : α) (next : Option Ret), body i x next = bif p x then kf i else next) : ∀ (l : List α) (i : Nat), goL body kend l i = match findI p l i with
    | some k => kf k
    | none => kend
  | [], _ => rfl
  | x :: r, i => by
    simp only [goL, findI]
    rw [hb]
    cases p x
    · exact goL_find hb r (i + 1)
    · rfl
def findM {α : Type} (p : α → Bool) (l : List α) : Int := match findI p l 0 with
  | some k => (k : Int)
  | none => -1
theorem findM_pos {α : Type} {p : α → Bool} {l : List α} (h : ¬ findM p l < 0) : ∃ k : Nat, ∃ hk : k < l.length, findM p l = (k : Int) ∧ p l[k] = true ∧ ∀ j (hj : j < k), p (l[j]'(by omega)) = false := by
  unfold findM at *
  split at h
  · rename_i k hk
    obtain ⟨j, hj, e, h1, h2⟩ := findI_some hk
    obtain rfl : k = j := by omega
    exact ⟨k, hj, rfl, h1, h2⟩
  · omega
theorem findM_neg {α : Type} {p : α → Bool} {l : List α} (h : findM p l < 0) : findM p l = -1 ∧ ∀ j (hj : j < l.length), p l[j] = false := by
  unfold findM at *
  split at h
  · omega
  · rename_i hn
    exact ⟨rfl, findI_none hn⟩
theorem wrap_pred {i m : Nat} (h0 : 0 < i) (h : i < m) (hm : m ≤ maxLen) : IntKind.wrap .i64 ((i : Int) - 1) = ((i - 1 : Nat) : Int) := by
  have := maxLen_eq
  rw [wrap64] <;> omega
end Go.Pv
namespace Go.Pv.R
set_option linter.unusedVariables false
set_option linter.unusedSimpArgs false
theorem allI_all {α : Type} {p : α → Bool} : ∀ {l : List α} {i : Nat}, allI (fun _ x => p x) l i = l.all p
  | [], _ => rfl
  | x :: r, i => by simp only [allI, List.all_cons, allI_all (l := r)]
end Go.Pv.R
namespace Go.Pv
set_option linter.unusedVariables false
set_option linter.unusedSimpArgs false
/-- What a loop gathers. -/
def gatherI {α β : Type} (c : Nat → α → Bool) (f : Nat → α → β) : List α → Nat → List β
  | [], _ => []
  | x :: r, i => bif c i x then f i x :: gatherI c f r (i + 1) else gatherI c f r (i + 1)
theorem goL1_gather {α β : Type} {body : Nat → α → List β → (List β → Option Ret) → Option Ret} {kend : List β → Option Ret} {c : Nat → α → Bool} {f : Nat → α → β} {l : List α}
    (hb : ∀ (i : Nat) (x : α) (s : List β) (next : List β → Option Ret) (h : i < l.length), l[i] = x → s.length ≤ i → body i x s next = bif c i x then next (s ++ [f i x]) else next s) :
    ∀ (r : List α) (i : Nat) (s : List β), l.drop i = r → s.length ≤ i → goL1 body kend r i s = kend (s ++ gatherI c f r i)
  | [], i, s, _, _ => by simp [goL1, gatherI]
  | x :: r, i, s, hd, hs => by
    have hlt : i < l.length := by have := congrArg List.length hd; simp at this; omega
    rw [List.drop_eq_getElem_cons hlt] at hd
    injection hd with h1 h2
    simp only [goL1, gatherI]
    rw [hb i x s _ hlt h1 hs]
    cases c i x
    · rw [cond_false, cond_false]
      exact goL1_gather hb r (i + 1) s h2 (by omega)
    · rw [cond_true, cond_true, goL1_gather hb r (i + 1) (s ++ [f i x]) h2 (by simp; omega)]
      simp
theorem findM_any {α : Type} (p : α → Bool) (l : List α) : decide (findM p l ≥ 0) = l.any p := by
  by_cases h : findM p l < 0
  · rw [decide_eq_false (by omega)]
    symm
    rw [List.any_eq_false]
    intro x hx
    obtain ⟨j, hj, rfl⟩ := List.mem_iff_getElem.1 hx
    rw [(findM_neg h).2 j hj]
    simp
  · rw [decide_eq_true (by omega)]
    symm
    rw [List.any_eq_true]
    obtain ⟨k, hk, _, h1, _⟩ := findM_pos h
    exact ⟨l[k], List.getElem_mem hk, h1⟩
end Go.Pv
namespace Go.Pv.R
set_option linter.unusedVariables false
set_option linter.unusedSimpArgs false
def hasM (l : List Int) (n : Int) : Bool := l.any fun x => x == n
theorem hasM_iff {l : List Int} {n : Int} : hasM l n = true ↔ n ∈ l := by
  unfold hasM
  rw [List.any_eq_true]
  constructor
  · rintro ⟨x, hx, h⟩
    have : x = n := by simpa using h
    exact this ▸ hx
  · intro h; exact ⟨n, h, by simp⟩
theorem spec_l4Has_ok {N : Nat} {l : List Int} {n : Int} {kf : Bool → Option Ret} (hl : l.length ≤ maxLen) (hN : l.length < N) : spec_l4Has N l n kf = kf (hasM l n) := by
  unfold spec_l4Has
  rw [spec_l4Has_l2_r hl hN, goL_find (p := fun x : Int => x == n) (kf := fun _ => kf true) (fun i x next => rfl)]
  unfold hasM
  rw [← findM_any]
  unfold findM
  cases findI (fun x : Int => x == n) l 0
  · rfl
  · rw [decide_eq_true (by simp)]
theorem slices_Contains_int_ok {N : Nat} {l : List Int} {n : Int} {kf : Bool → Option Ret} (hl : l.length ≤ maxLen) (hN : l.length < N) : slices_Contains_int N l n kf = kf (hasM l n) := by
  unfold slices_Contains_int slices_Index_int
  rw [slices_Index_int_l2_r hl hN, goL_find (p := fun x : Int => n == x) (kf := fun i => kf (decide ((i : Int) ≥ 0))) (fun i x next => rfl)]
  have e : hasM l n = l.any fun x => n == x := by
    unfold hasM
    congr 1
    funext x
    apply Bool.eq_iff_iff.2
    rw [beq_iff_eq, beq_iff_eq]
    exact ⟨fun h => h.symm, fun h => h.symm⟩
  rw [e, ← findM_any]
  unfold findM
  cases findI (fun x : Int => n == x) l 0 <;> rfl
end Go.Pv.R
namespace Go.Pv.R
set_option linter.unusedVariables false
set_option linter.unusedSimpArgs false
end Go.Pv.R
namespace Go.Pv.R
set_option linter.unusedVariables false
set_option linter.unusedSimpArgs false
theorem inR_iff {a b c : Int} : inR a b c = true ↔ b ≤ a ∧ a ≤ c := by unfold inR; simp
end Go.Pv.R
namespace Go.Pv
set_option linter.unusedVariables false
set_option linter.unusedSimpArgs false
theorem goL_same {α : Type} [DecidableEq α] {xs ys : List α} {body : Nat → α → Option Ret → Option Ret} {kt kf : Option Ret} (hlen : xs.length = ys.length)
    (hb : ∀ (i : Nat) (x : α) (next : Option Ret) (h : i < xs.length) (h' : i < ys.length), xs[i] = x → body i x next = bif decide (x = ys[i]) then next else kf) : goL body kt xs 0 = bif decide (xs = ys) then kt else kf := by
  have key : ∀ (r : List α) (i : Nat), xs.drop i = r → xs.take i = ys.take i → goL body kt r i = bif decide (xs = ys) then kt else kf := by
    intro r
    induction r with
    | nil =>
      intro i hd he
      have : xs.length ≤ i := by have := congrArg List.length hd; simp at this; omega
      rw [List.take_of_length_le this, List.take_of_length_le (by omega)] at he
      rw [decide_eq_true he]; rfl
    | cons x r ih =>
      intro i hd he
      have hlt : i < xs.length := by have := congrArg List.length hd; simp at this; omega
      rw [List.drop_eq_getElem_cons hlt] at hd
      injection hd with h1 h2
      simp only [goL]
      rw [hb i x _ hlt (by omega) h1]
      by_cases hx : x = ys[i]
      · rw [decide_eq_true hx, cond_true, ih (i + 1) h2 (by rw [List.take_succ_eq_append_getElem hlt, List.take_succ_eq_append_getElem (by omega), he, h1, hx])]
      · rw [decide_eq_false hx, cond_false]
        have : ¬ xs = ys := fun e => hx (by rw [← h1]; simp only [e])
        rw [decide_eq_false this]; rfl
  exact key xs 0 rfl rfl
theorem lens {α β : Type} {xs : List α} {ys : List β} {A B : Option Ret} {p : Bool} {kf : Bool → Option Ret} (h : xs.length = ys.length → B = kf p) (h' : xs.length ≠ ys.length → p = false) : (bif ((List.length xs : Int) != (List.length ys : Int)) then kf false else B) = kf p := by
  by_cases hl : xs.length = ys.length
  · have : ((xs.length : Int) != (ys.length : Int)) = false := by rw [hl]; exact bne_self_eq_false _
    rw [this, cond_false, h hl]
  · have : ((xs.length : Int) != (ys.length : Int)) = true := by rw [bne_iff_ne]; omega
    rw [this, cond_true, h' hl]
end Go.Pv
namespace Go.Pv.R
set_option linter.unusedVariables false
set_option linter.unusedSimpArgs false
theorem spec_EqualInts_ok {N : Nat} {a b : List Int} {kf : Bool → Option Ret} (hl : a.length ≤ maxLen) (hN : a.length < N) : spec_EqualInts N a b kf = kf (decide (a = b)) := by
  unfold spec_EqualInts
  refine lens (A := kf true) (fun h => ?_) (fun h => decide_eq_false fun e => h (by rw [e]))
  rw [spec_EqualInts_l4_r hl hN, goL_same h (kf := kf false) (fun i x next hi hi' e => ?_)]
  · cases decide (a = b) <;> rfl
  · rw [inB_nat hi', cond_true, Int.toNat_natCast, getD_nat _ _ hi']
    by_cases hx : x = b[i]
    · simp [hx]
    · have : (x != b[i]) = true := by simpa using hx
      rw [this, decide_eq_false hx]; rfl
theorem slices_Equal_int_ok {N : Nat} {a b : List Int} {kf : Bool → Option Ret} (hl : a.length ≤ maxLen) (hN : a.length < N) : slices_Equal_int N a b kf = kf (decide (a = b)) := by
  unfold slices_Equal_int
  refine lens (A := kf true) (fun h => ?_) (fun h => decide_eq_false fun e => h (by rw [e]))
  rw [slices_Equal_int_l4_r hl hN, goL_same h (kf := kf false) (fun i x next hi hi' e => ?_)]
  · cases decide (a = b) <;> rfl
  · rw [inB_nat hi', cond_true, Int.toNat_natCast, getD_nat _ _ hi']
    by_cases hx : x = b[i]
    · simp [hx]
    · have : (x != b[i]) = true := by simpa using hx
      rw [this, decide_eq_false hx]; rfl
end Go.Pv.R
namespace Go.Pv.R
set_option linter.unusedVariables false
set_option linter.unusedSimpArgs false
end Go.Pv.R
namespace Go.Pv.R
set_option linter.unusedVariables false
set_option linter.unusedSimpArgs false
end Go.Pv.R
namespace Go.Pv
set_option linter.unusedVariables false
set_option linter.unusedSimpArgs false
abbrev Asc (l : List Int) : Prop := l.Pairwise (· < ·)
theorem asc_ext : ∀ {a b : List Int}, Asc a → Asc b → (∀ x, x ∈ a ↔ x ∈ b) → a = b
  | [], [], _, _, _ => rfl
  | [], y :: b, _, _, h => by have := (h y).2 (by simp); simp at this
  | x :: a, [], _, _, h => by have := (h x).1 (by simp); simp at this
  | x :: a, y :: b, ha, hb, h => by
    rw [Asc, List.pairwise_cons] at ha hb
    have hxy : x = y := by
      have h1 := (h x).1 (by simp)
      have h2 := (h y).2 (by simp)
      rcases List.mem_cons.1 h1 with h1 | h1
      · exact h1
      · rcases List.mem_cons.1 h2 with h2 | h2
        · exact h2.symm
        · have := hb.1 x h1
          have := ha.1 y h2
          omega
    subst hxy
    congr 1
    refine asc_ext ha.2 hb.2 fun z => ?_
    constructor
    · intro hz
      rcases List.mem_cons.1 ((h z).1 (by simp [hz])) with e | e
      · subst e; have := ha.1 z hz; omega
      · exact e
    · intro hz
      rcases List.mem_cons.1 ((h z).2 (by simp [hz])) with e | e
      · subst e; have := hb.1 z hz; omega
      · exact e
theorem sortL_mem (l : List Int) (x : Int) : x ∈ sortL l ↔ x ∈ l := List.mem_mergeSort
theorem sortL_le (l : List Int) : (sortL l).Pairwise (· ≤ ·) := by
  have := List.pairwise_mergeSort (le := fun x y : Int => decide (x ≤ y)) (fun a b c => by simp only [decide_eq_true_eq]; omega) (fun a b => by simp only [Bool.or_eq_true, decide_eq_true_eq]; omega) l
  exact this.imp fun {a b} h => by simpa using h
theorem compactFrom_spec : ∀ (r : List Int) (x : Int), (x :: r).Pairwise (· ≤ ·) → Asc (x :: compactFrom x r) ∧ ∀ z, z ∈ x :: compactFrom x r ↔ z ∈ x :: r
  | [], x, _ => by simp [compactFrom, Asc]
  | y :: r, x, h => by
    rw [List.pairwise_cons] at h
    simp only [compactFrom]
    by_cases e : y = x
    · subst e
      simp only [beq_self_eq_true, cond_true]
      obtain ⟨h1, h2⟩ := compactFrom_spec r y h.2
      refine ⟨h1, fun z => (h2 z).trans ?_⟩
      simp
    · rw [beq_eq_false_iff_ne.2 e, cond_false]
      obtain ⟨h1, h2⟩ := compactFrom_spec r y h.2
      have hlt : x < y := by have := h.1 y (by simp); omega
      refine ⟨?_, fun z => ?_⟩
      · rw [Asc, List.pairwise_cons]
        refine ⟨fun z hz => ?_, h1⟩
        have h3 : Asc (y :: compactFrom y r) := h1
        rw [Asc, List.pairwise_cons] at h3
        rcases List.mem_cons.1 hz with e2 | e2
        · omega
        · have := h3.1 z e2; omega
      · rw [List.mem_cons, h2 z]
        simp only [List.mem_cons]
theorem compactL_spec (l : List Int) (h : l.Pairwise (· ≤ ·)) : Asc (compactL l) ∧ ∀ z, z ∈ compactL l ↔ z ∈ l := by
  cases l with
  | nil => simp [compactL, Asc]
  | cons x r => exact compactFrom_spec r x h
end Go.Pv
namespace Go.Pv.R
set_option linter.unusedVariables false
set_option linter.unusedSimpArgs false
theorem slices_Sort_int_ok {N : Nat} {l : List Int} {kf : List Int → Option Ret} (hl : l.length ≤ 1048576) : slices_Sort_int N l kf = kf (sortL l) := by
  unfold slices_Sort_int
  have : Nat.blt (List.length l) 4611686018427387904 = true := Nat.ble_eq_true_of_le (by omega)
  rw [this]
  rfl
theorem slices_Compact_int_ok {N : Nat} {l : List Int} {kf : List Int → Option Ret} : slices_Compact_int N l kf = kf (compactL l) := rfl
end Go.Pv.R
namespace Go.Pv.R
set_option linter.unusedVariables false
set_option linter.unusedSimpArgs false
end Go.Pv.R
namespace Go.Pv.R
set_option linter.unusedVariables false
set_option linter.unusedSimpArgs false
end Go.Pv.R
namespace Go.Pv.R
set_option linter.unusedVariables false
set_option linter.unusedSimpArgs false
theorem mono_any {α : Type} {l : List α} {z : α} {g : α → Int} (h : ∀ (i : Nat) (hi : i < l.length), 0 < i → g (l.getD (i - 1) z) < g l[i]) : ∀ (j i : Nat) (hi : i < l.length), j < i → g (l.getD j z) < g l[i] := by
  intro j i
  induction i with
  | zero => intro _ hj; omega
  | succ i ih =>
    intro hi hj
    have h1 := h (i + 1) hi (by omega)
    rw [Nat.add_sub_cancel] at h1
    by_cases e : j = i
    · subst e; exact h1
    · have h2 := ih (by omega) (by omega)
      rw [getD_nat _ _ (by omega)] at h1
      omega
end Go.Pv.R
namespace Go.Pv.R
set_option linter.unusedVariables false
set_option linter.unusedSimpArgs false
end Go.Pv.R
namespace Go.Pv.R
set_option linter.unusedVariables false
set_option linter.unusedSimpArgs false
end Go.Pv.R
namespace Go.Pv.R
set_option linter.unusedVariables false
set_option linter.unusedSimpArgs false
end Go.Pv.R
namespace Go.Pv.R
set_option linter.unusedVariables false
set_option linter.unusedSimpArgs false
end Go.Pv.R
namespace Go.Pv.R
set_option linter.unusedVariables false
set_option linter.unusedSimpArgs false
abbrev Graph := QILLIE
theorem goL_allH {α : Type} {body : Nat → α → Option Ret → Option Ret} {kend kf : Option Ret} {p : Nat → α → Bool} {l : List α} (hb : ∀ (i : Nat) (x : α) (next : Option Ret) (h : i < l.length), l[i] = x → (∀ (j : Nat) (hj : j < l.length), j < i → p j l[j] = true) → body i x next = bif p i x then next else kf) :
    ∀ (r : List α) (i : Nat), l.drop i = r → (∀ (j : Nat) (hj : j < l.length), j < i → p j l[j] = true) → goL body kend r i = bif allI p r i then kend else kf
  | [], _, _, _ => rfl
  | x :: r, i, hd, hh => by
    have hlt : i < l.length := by have := congrArg List.length hd; simp at this; omega
    rw [List.drop_eq_getElem_cons hlt] at hd
    injection hd with h1 h2
    simp only [goL, allI]
    rw [hb i x _ hlt h1 hh]
    cases hp : p i x with
    | false => simp
    | true =>
      simp only [cond_true, Bool.true_and]
      refine goL_allH hb r (i + 1) h2 fun j hj hji => ?_
      by_cases e : j = i
      · subst e; rw [h1]; exact hp
      · exact hh j hj (by omega)
def ltP (a b : List Int) : Bool := decide (a.getD 0 0 < b.getD 0 0) || (decide (a.getD 0 0 = b.getD 0 0) && decide (a.getD 1 0 < b.getD 1 0))
def graphP (g : Graph) (i : Nat) (x : List Int) : Bool := decide (x.length = 2) && (inR (x.getD 0 0) 0 (IntKind.wrap .i64 (g.1 - 1)) && (inR (x.getD 1 0) 0 (IntKind.wrap .i64 (g.1 - 1)) && (decide (i = 0) || ltP (g.2.getD (i - 1) []) x)))
def isGraphM (g : Graph) : Bool := inR g.1 0 10 && allI (graphP g) g.2 0
theorem graphP_len {g : Graph} {i : Nat} {x : List Int} (h : graphP g i x = true) : x.length = 2 := by
  unfold graphP at h
  simp only [Bool.and_eq_true, decide_eq_true_eq] at h
  exact h.1
theorem two_of {x : List Int} (h : x.length = 2) : ∃ p q, x = [p, q] := by
  match x, h with
  | [p, q], _ => exact ⟨p, q, rfl⟩
theorem cmp_Compare_int_ok {N : Nat} {a b : Int} {kf : Int → Option Ret} : cmp_Compare_int N a b kf = kf (bif decide (a < b) then -1 else bif decide (a > b) then 1 else 0) := by
  unfold cmp_Compare_int cmp_isNaN_int
  simp only [bne_self_eq_false, cond_false]
  cases decide (a < b) <;> cases decide (a > b) <;> rfl
theorem slices_Compare_int_ok {N : Nat} {p q r s : Int} {kf : Int → Option Ret} (hN : 2 < N) (A B : Option Ret) (hk : ∀ n : Int, kf n = bif decide (n ≥ 0) then A else B) :
    slices_Compare_int N [p, q] [r, s] kf = bif ltP [p, q] [r, s] then B else A := by
  unfold slices_Compare_int
  rw [slices_Compare_int_l2_r (by simp [maxLen_eq]) (by simp; omega)]
  simp only [goL, cmp_Compare_int_ok]
  have e1 : inB ((0 : Nat) : Int) (List.length [r, s]) = true := rfl
  have e2 : inB ((0 + 1 : Nat) : Int) (List.length [r, s]) = true := rfl
  have e3 : decide (((0 : Nat) : Int) ≥ (List.length [r, s] : Int)) = false := rfl
  have e4 : decide (((0 + 1 : Nat) : Int) ≥ (List.length [r, s] : Int)) = false := rfl
  have e5 : decide ((List.length [p, q] : Int) < (List.length [r, s] : Int)) = false := rfl
  rw [e1, e2, e3, e4, e5]
  simp only [cond_true, cond_false]
  have g1 : List.getD [r, s] (Int.toNat ((0 : Nat) : Int)) 0 = r := rfl
  have g2 : List.getD [r, s] (Int.toNat ((0 + 1 : Nat) : Int)) 0 = s := rfl
  rw [g1, g2]
  have l1 : ltP [p, q] [r, s] = (decide (p < r) || (decide (p = r) && decide (q < s))) := rfl
  rw [l1]
  rcases Int.lt_trichotomy p r with h1 | h1 | h1
  · rw [decide_eq_true h1, cond_true, Bool.true_or, cond_true]
    show (bif true then kf (-1) else _) = _
    rw [cond_true, hk]
    rfl
  · subst h1
    rw [decide_eq_false (Int.lt_irrefl p), cond_false, cond_false, decide_eq_true (show p = p from rfl), Bool.false_or, Bool.true_and]
    show (bif false then _ else _) = _
    rw [cond_false]
    rcases Int.lt_trichotomy q s with h2 | h2 | h2
    · rw [decide_eq_true h2, cond_true, cond_true]
      show (bif true then kf (-1) else _) = _
      rw [cond_true, hk]
      rfl
    · subst h2
      rw [decide_eq_false (Int.lt_irrefl q), cond_false, cond_false, cond_false]
      show (bif false then _ else kf 0) = _
      rw [cond_false, hk]
      rfl
    · rw [decide_eq_false (show ¬ q < s by omega), decide_eq_true (show q > s from h2), cond_false, cond_true, cond_false]
      show (bif true then kf 1 else _) = _
      rw [cond_true, hk]
      rfl
  · rw [decide_eq_false (show ¬ p < r by omega), decide_eq_true (show p > r from h1), cond_false, cond_true, decide_eq_false (show ¬ p = r by omega), Bool.false_or, Bool.false_and, cond_false]
    show (bif true then kf 1 else _) = _
    rw [cond_true, hk]
    rfl
theorem len_ne2 {x : List Int} : ((List.length x : Int) != (2 : Int)) = !decide (x.length = 2) := by
  apply Bool.eq_iff_iff.2
  simp
  omega
theorem spec_IsGraph_ok {N : Nat} {g : Graph} {kf : Bool → Option Ret} (hl : g.2.length ≤ 1048576) (hN : g.2.length < N) : spec_IsGraph N g kf = kf (isGraphM g) := by
  have h0 := maxLen_eq
  unfold spec_IsGraph
  rw [spec_IsGraph_l2_r (by omega) hN, goL_allH (l := g.2) (p := graphP g) (kf := kf false) (fun i x next hi e hh => ?_) g.2 0 rfl (fun j hj h => by omega)]
  · rw [spec_l1In_ok]
    unfold isGraphM
    cases allI (graphP g) g.2 0 <;> simp
  · rw [len_ne2]
    unfold graphP
    by_cases h2 : x.length = 2
    rotate_left
    · rw [decide_eq_false h2]; rfl
    obtain ⟨p, q, rfl⟩ := two_of h2
    rw [decide_eq_true h2]
    simp only [Bool.not_true, cond_false, Bool.true_and, spec_l1In_ok]
    have b0 : inB (0 : Int) (List.length [p, q]) = true := rfl
    have b1 : inB (1 : Int) (List.length [p, q]) = true := rfl
    have v0 : List.getD [p, q] (Int.toNat (0 : Int)) (0 : Int) = p := rfl
    have v1 : List.getD [p, q] (Int.toNat (1 : Int)) (0 : Int) = q := rfl
    have w0 : List.getD [p, q] 0 (0 : Int) = p := rfl
    have w1 : List.getD [p, q] 1 (0 : Int) = q := rfl
    simp only [b0, b1, v0, v1, w0, w1, cond_true]
    cases inR p 0 (IntKind.wrap .i64 (g.1 - 1)) with
    | false => rfl
    | true =>
      simp only [Bool.not_true, cond_false, Bool.true_and]
      cases inR q 0 (IntKind.wrap .i64 (g.1 - 1)) with
      | false => rfl
      | true =>
        simp only [Bool.not_true, cond_false, Bool.true_and]
        by_cases hi0 : i = 0
        · subst hi0; rfl
        · rw [decide_eq_false hi0, Bool.false_or, decide_eq_true (show (i : Int) > 0 by omega), cond_true, wrap_pred (by omega) hi (by omega), inB_nat (by omega), cond_true, Int.toNat_natCast, getD_nat _ _ (show i - 1 < g.2.length by omega)]
          have hp := graphP_len (hh (i - 1) (by omega) (by omega))
          obtain ⟨r, s, hrs⟩ := two_of hp
          rw [hrs]
          have c0 : inB (0 : Int) (List.length [r, s]) = true := rfl
          have c1 : inB (1 : Int) (List.length [r, s]) = true := rfl
          have u0 : List.getD [r, s] (Int.toNat (0 : Int)) (0 : Int) = r := rfl
          have u1 : List.getD [r, s] (Int.toNat (1 : Int)) (0 : Int) = s := rfl
          simp only [c0, c1, u0, u1, cond_true]
          have l1 : ltP [r, s] [p, q] = (decide (r < p) || (decide (r = p) && decide (s < q))) := rfl
          rw [l1]
          rcases Int.lt_trichotomy r p with h1 | h1 | h1
          · rw [decide_eq_false (show ¬ r > p by omega), cond_false, beq_eq_false_iff_ne.2 (show r ≠ p by omega), cond_false, decide_eq_true h1]
            rfl
          · subst h1
            rw [decide_eq_false (show ¬ r > r from Int.lt_irrefl r), cond_false, beq_self_eq_true, cond_true, decide_eq_true (show r = r from rfl), Bool.false_or, Bool.true_and]
            by_cases h3 : s < q
            · rw [decide_eq_true h3, decide_eq_false (show ¬ s ≥ q by omega)]; rfl
            · rw [decide_eq_false h3, decide_eq_true (show s ≥ q by omega)]; rfl
          · rw [decide_eq_true (show r > p from h1), cond_true, decide_eq_false (show ¬ r < p by omega), decide_eq_false (show ¬ r = p by omega)]
            rfl
theorem impl_IsGraph_ok {N : Nat} {g : Graph} {kf : Bool → Option Ret} (hl : g.2.length ≤ 1048576) (hN : g.2.length + 2 < N) : impl_IsGraph N g kf = kf (isGraphM g) := by
  have h0 := maxLen_eq
  unfold impl_IsGraph
  rw [impl_InRange_ok]
  unfold isGraphM
  cases inR g.1 0 10 with
  | false => rfl
  | true =>
    simp only [Bool.not_true, cond_false, Bool.true_and]
    rw [impl_IsGraph_l4_r (by omega) (by omega), goL_allH (l := g.2) (p := graphP g) (kf := kf false) (fun i x next hi e hh => ?_) g.2 0 rfl (fun j hj h => by omega)]
    · cases allI (graphP g) g.2 0 <;> rfl
    · rw [len_ne2]
      unfold graphP
      by_cases h2 : x.length = 2
      rotate_left
      · rw [decide_eq_false h2]; rfl
      obtain ⟨p, q, rfl⟩ := two_of h2
      rw [decide_eq_true h2]
      simp only [Bool.not_true, cond_false, Bool.true_and, impl_isClaim, impl_InRange_ok]
      have b0 : inB (0 : Int) (List.length [p, q]) = true := rfl
      have b1 : inB (1 : Int) (List.length [p, q]) = true := rfl
      have v0 : List.getD [p, q] (Int.toNat (0 : Int)) (0 : Int) = p := rfl
      have v1 : List.getD [p, q] (Int.toNat (1 : Int)) (0 : Int) = q := rfl
      have w0 : List.getD [p, q] 0 (0 : Int) = p := rfl
      have w1 : List.getD [p, q] 1 (0 : Int) = q := rfl
      simp only [b0, b1, v0, v1, w0, w1, cond_true]
      cases inR p 0 (IntKind.wrap .i64 (g.1 - 1)) with
      | false => rfl
      | true =>
        simp only [Bool.not_true, cond_false, Bool.true_and]
        cases inR q 0 (IntKind.wrap .i64 (g.1 - 1)) with
        | false => rfl
        | true =>
          simp only [Bool.not_true, cond_false, Bool.true_and]
          by_cases hi0 : i = 0
          · subst hi0; rfl
          · rw [decide_eq_false hi0, Bool.false_or, decide_eq_true (show (i : Int) > 0 by omega), cond_true, wrap_pred (by omega) hi (by omega), inB_nat (by omega), cond_true, Int.toNat_natCast, getD_nat _ _ (show i - 1 < g.2.length by omega)]
            have hp := graphP_len (hh (i - 1) (by omega) (by omega))
            obtain ⟨r, s, hrs⟩ := two_of hp
            rw [hrs]
            exact slices_Compare_int_ok (by omega) (kf false) next (fun n => rfl)
end Go.Pv.R
namespace Go.Pv.R
set_option linter.unusedVariables false
set_option linter.unusedSimpArgs false
end Go.Pv.R
namespace Go.Pv.R
set_option linter.unusedVariables false
set_option linter.unusedSimpArgs false
end Go.Pv.R
namespace Go.Pv.R
set_option linter.unusedVariables false
set_option linter.unusedSimpArgs false
end Go.Pv.R
namespace Go.Pv.R
set_option linter.unusedVariables false
set_option linter.unusedSimpArgs false
end Go.Pv.R
namespace Go.Pv.R
set_option linter.unusedVariables false
set_option linter.unusedSimpArgs false
end Go.Pv.R
namespace Go.Pv.R
set_option linter.unusedVariables false
set_option linter.unusedSimpArgs false
end Go.Pv.R
namespace Go.Pv.R
set_option linter.unusedVariables false
set_option linter.unusedSimpArgs false
theorem nodup_le : ∀ (r L : List Int), r.Nodup → (∀ x ∈ r, x ∈ L) → r.length ≤ L.length
  | [], L, _, _ => by simp
  | x :: r, L, hn, h => by
    rw [List.nodup_cons] at hn
    have hx := h x (by simp)
    have h1 := List.length_erase_of_mem hx
    have h2 := List.length_pos_of_mem hx
    have := nodup_le r (L.erase x) hn.2 fun y hy => by
      have hne : y ≠ x := fun e => hn.1 (e ▸ hy)
      exact (List.mem_erase_of_ne hne).2 (h y (by simp [hy]))
    simp only [List.length_cons]
    omega
end Go.Pv.R
namespace Go.Pv.R
set_option linter.unusedVariables false
set_option linter.unusedSimpArgs false
section
variable {α : Type} {t : List α} {i j : Nat} {x y x' y' z : α}
end
end Go.Pv.R
namespace Go.Pv
set_option linter.unusedVariables false
end Go.Pv
namespace Go.Pv.R
set_option linter.unusedVariables false
set_option linter.unusedSimpArgs false
end Go.Pv.R
namespace Go.Pv.R
set_option linter.unusedVariables false
set_option linter.unusedSimpArgs false
end Go.Pv.R
namespace Go.Pv.R
set_option linter.unusedVariables false
set_option linter.unusedSimpArgs false
end Go.Pv.R
namespace Go.Pv.R
set_option linter.unusedVariables false
set_option linter.unusedSimpArgs false
end Go.Pv.R
namespace Go.Pv.R
set_option linter.unusedVariables false
set_option linter.unusedSimpArgs false
end Go.Pv.R
namespace Go.Pv.R
set_option linter.unusedVariables false
set_option linter.unusedSimpArgs false
end Go.Pv.R
namespace Go.Pv.R
set_option linter.unusedVariables false
set_option linter.unusedSimpArgs false
end Go.Pv.R
namespace Go.Pv.R
set_option linter.unusedVariables false
set_option linter.unusedSimpArgs false
end Go.Pv.R
namespace Go.Pv.R
set_option linter.unusedVariables false
set_option linter.unusedSimpArgs false
end Go.Pv.R
namespace Go.Pv.R
set_option linter.unusedVariables false
set_option linter.unusedSimpArgs false
def rangeI (n : Nat) : List Int := (List.range n).map fun k : Nat => (k : Int)
theorem rangeI_len (n : Nat) : (rangeI n).length = n := by simp [rangeI]
theorem rangeI_mem {n : Nat} {x : Int} : x ∈ rangeI n ↔ 0 ≤ x ∧ x < n := by
  unfold rangeI
  rw [List.mem_map]
  constructor
  · rintro ⟨k, hk, rfl⟩
    rw [List.mem_range] at hk
    omega
  · intro h
    exact ⟨x.toNat, by rw [List.mem_range]; omega, by omega⟩
theorem rangeI_asc (n : Nat) : Asc (rangeI n) := by
  unfold rangeI Asc
  rw [List.pairwise_map]
  exact List.pairwise_lt_range.imp fun h => by omega
theorem rangeI_succ (n : Nat) : rangeI (n + 1) = rangeI n ++ [(n : Int)] := by simp [rangeI, List.range_succ]
theorem filter_asc {l : List Int} {p : Int → Bool} (h : Asc l) : Asc (l.filter p) := List.Pairwise.sublist List.filter_sublist h
def attM (g : Graph) (k : Int) : List Int := (g.2.filter fun a => a.getD 1 0 == k).map fun a => a.getD 0 0
def vicM (g : Graph) (k : Int) : List Int := (g.2.filter fun a => a.getD 0 0 == k).map fun a => a.getD 1 0
def hitB (g : Graph) (s : List Int) (k : Int) : Bool := g.2.any fun a => a.getD 1 0 == k && hasM s (a.getD 0 0)
def hitM (g : Graph) (s : List Int) : List Int := (rangeI g.1.toNat).filter (hitB g s)
def defB (g : Graph) (s : List Int) (k : Int) : Bool := (attM g k).all (hasM (hitM g s))
def defM (g : Graph) (s : List Int) : List Int := (rangeI g.1.toNat).filter (defB g s)
def setP (g : Graph) (s : List Int) (i : Nat) (x : Int) : Bool := inR x 0 (IntKind.wrap .i64 (g.1 - 1)) && (decide (i = 0) || decide (s.getD (i - 1) 0 < x))
def isSetM (g : Graph) (s : List Int) : Bool := isGraphM g && allI (setP g s) s 0
theorem hitB_mono {g : Graph} {s t : List Int} (h : ∀ x, x ∈ s → x ∈ t) (k : Int) (hk : hitB g s k = true) : hitB g t k = true := by
  unfold hitB at *
  rw [List.any_eq_true] at *
  obtain ⟨a, ha, hb⟩ := hk
  rw [Bool.and_eq_true, hasM_iff] at hb
  exact ⟨a, ha, by rw [Bool.and_eq_true, hasM_iff]; exact ⟨hb.1, h _ hb.2⟩⟩
theorem defB_mono {g : Graph} {s t : List Int} (h : ∀ x, x ∈ s → x ∈ t) (k : Int) (hk : defB g s k = true) : defB g t k = true := by
  unfold defB at *
  rw [List.all_eq_true] at *
  intro a ha
  have := hk a ha
  rw [hasM_iff] at *
  unfold hitM at *
  rw [List.mem_filter] at *
  exact ⟨this.1, hitB_mono h _ this.2⟩
theorem defM_mono {g : Graph} {s t : List Int} (h : ∀ x, x ∈ s → x ∈ t) (x : Int) (hx : x ∈ defM g s) : x ∈ defM g t := by
  unfold defM at *
  rw [List.mem_filter] at *
  exact ⟨hx.1, defB_mono h _ hx.2⟩
def stepsD (g : Graph) : Nat → List Int
  | 0 => []
  | n + 1 => defM g (stepsD g n)
theorem stepsD_sub (g : Graph) : ∀ (n : Nat) (x : Int), x ∈ stepsD g n → x ∈ stepsD g (n + 1)
  | 0, x, h => by cases h
  | n + 1, x, h => defM_mono (stepsD_sub g n) x h
theorem stepsD_asc (g : Graph) (n : Nat) : Asc (stepsD g n) := by
  cases n with
  | zero => exact List.Pairwise.nil
  | succ n => exact filter_asc (rangeI_asc _)
theorem stepsD_mem (g : Graph) (n : Nat) (x : Int) (h : x ∈ stepsD g n) : 0 ≤ x ∧ x < g.1.toNat := by
  cases n with
  | zero => cases h
  | succ n => exact rangeI_mem.1 (List.mem_filter.1 h).1
theorem asc_nodup {l : List Int} (h : Asc l) : l.Nodup := h.imp fun h => by omega
theorem stepsD_len (g : Graph) (n : Nat) : (stepsD g n).length ≤ g.1.toNat := by
  cases n with
  | zero => exact Nat.zero_le _
  | succ n => exact Nat.le_trans (List.length_filter_le _ _) (by rw [rangeI_len]; exact Nat.le_refl _)
theorem sub_eq {a b : List Int} (ha : Asc a) (hb : Asc b) (h : ∀ x, x ∈ a → x ∈ b) (hl : b.length ≤ a.length) : a = b := by
  refine asc_ext ha hb fun x => ⟨h x, fun hx => ?_⟩
  by_cases hn : x ∈ a
  · exact hn
  · have := nodup_le (x :: a) b (List.nodup_cons.2 ⟨hn, asc_nodup ha⟩) fun y hy => by
      rcases List.mem_cons.1 hy with rfl | hy
      · exact hx
      · exact h y hy
    simp only [List.length_cons] at this
    omega
theorem stepsD_grow {g : Graph} : ∀ (m : Nat), (∀ k, k < m → stepsD g (k + 1) ≠ stepsD g k) → m ≤ (stepsD g m).length
  | 0, _ => Nat.zero_le _
  | m + 1, h => by
    have h1 := stepsD_grow m fun k hk => h k (by omega)
    have h2 := h m (by omega)
    by_cases hl : (stepsD g (m + 1)).length ≤ (stepsD g m).length
    · exact absurd (sub_eq (stepsD_asc g m) (stepsD_asc g (m + 1)) (stepsD_sub g m) hl).symm h2
    · omega
/-- The first round that changes nothing. -/
theorem stepsD_end (g : Graph) : ∃ m, m ≤ g.1.toNat ∧ stepsD g (m + 1) = stepsD g m ∧ ∀ k, k < m → stepsD g (k + 1) ≠ stepsD g k := by
  have key : ∀ (d m : Nat), g.1.toNat < m + d → (∀ k, k < m → stepsD g (k + 1) ≠ stepsD g k) → ∃ m, m ≤ g.1.toNat ∧ stepsD g (m + 1) = stepsD g m ∧ ∀ k, k < m → stepsD g (k + 1) ≠ stepsD g k := by
    intro d
    induction d with
    | zero =>
      intro m hm h
      have h1 := stepsD_grow m h
      have h2 := stepsD_len g m
      omega
    | succ d ih =>
      intro m hm h
      by_cases e : stepsD g (m + 1) = stepsD g m
      · have h1 := stepsD_grow m h
        have h2 := stepsD_len g m
        exact ⟨m, by omega, e, h⟩
      · exact ih (m + 1) (by omega) fun k hk => by
          rcases Nat.lt_or_eq_of_le (Nat.le_of_lt_succ hk) with hk | rfl
          · exact h k hk
          · exact e
  exact key (g.1.toNat + 1) 0 (by omega) fun k hk => by omega
theorem stepsD_set {g : Graph} (hg : isGraphM g = true) (n : Nat) : isSetM g (stepsD g n) = true := by
  have hn : 0 ≤ g.1 ∧ g.1 ≤ 10 := by
    unfold isGraphM at hg
    simp only [Bool.and_eq_true, inR_iff] at hg
    exact hg.1
  unfold isSetM
  rw [hg, Bool.true_and, allI_iff]
  intro i hi
  rw [Nat.zero_add]
  have hm := stepsD_mem g n _ (List.getElem_mem hi)
  unfold setP
  rw [wrap64 (by omega) (by omega)]
  simp only [Bool.and_eq_true, Bool.or_eq_true, decide_eq_true_eq, inR_iff]
  refine ⟨by omega, ?_⟩
  by_cases h0 : i = 0
  · exact .inl h0
  · refine .inr ?_
    rw [getD_nat _ _ (show i - 1 < (stepsD g n).length by omega)]
    exact List.pairwise_iff_getElem.1 (stepsD_asc g n) (i - 1) i (by omega) hi (by omega)
def codeA (x : List Int) : Int := 10 * x.getD 0 0 + x.getD 1 0
theorem graph_n {g : Graph} (hg : isGraphM g = true) : 0 ≤ g.1 ∧ g.1 ≤ 10 := by
  unfold isGraphM at hg
  simp only [Bool.and_eq_true, inR_iff] at hg
  exact hg.1
theorem graph_p {g : Graph} (hg : isGraphM g = true) (i : Nat) (hi : i < g.2.length) : g.2[i].length = 2 ∧ (0 ≤ g.2[i].getD 0 0 ∧ g.2[i].getD 0 0 < g.1) ∧ (0 ≤ g.2[i].getD 1 0 ∧ g.2[i].getD 1 0 < g.1) ∧ (0 < i → ltP (g.2.getD (i - 1) []) g.2[i] = true) := by
  have hn := graph_n hg
  unfold isGraphM at hg
  simp only [Bool.and_eq_true] at hg
  have := (allI_iff.1 hg.2) i hi
  rw [Nat.zero_add] at this
  unfold graphP at this
  rw [wrap64 (by omega) (by omega)] at this
  simp only [Bool.and_eq_true, Bool.or_eq_true, decide_eq_true_eq, inR_iff] at this
  obtain ⟨h1, h2, h3, h4⟩ := this
  exact ⟨h1, by omega, by omega, fun h0 => h4.resolve_left (by omega)⟩
theorem graph_m {g : Graph} (hg : isGraphM g = true) {a : List Int} (ha : a ∈ g.2) : a.length = 2 ∧ (0 ≤ a.getD 0 0 ∧ a.getD 0 0 < g.1) ∧ (0 ≤ a.getD 1 0 ∧ a.getD 1 0 < g.1) := by
  obtain ⟨i, hi, rfl⟩ := List.mem_iff_getElem.1 ha
  have := graph_p hg i hi
  exact ⟨this.1, this.2.1, this.2.2.1⟩
theorem graph_len {g : Graph} (hg : isGraphM g = true) : g.2.length ≤ 100 := by
  have hn := graph_n hg
  have hm := mono_any (l := g.2) (z := []) (g := codeA) fun i hi h0 => by
    have h1 := (graph_p hg i hi).2.2.2 h0
    have h2 := graph_p hg i hi
    have h3 := graph_p hg (i - 1) (by omega)
    rw [getD_nat _ _ (show i - 1 < g.2.length by omega)] at h1 ⊢
    unfold ltP at h1
    simp only [Bool.and_eq_true, Bool.or_eq_true, decide_eq_true_eq] at h1
    unfold codeA
    omega
  have ha : Asc (g.2.map codeA) := List.pairwise_iff_getElem.2 fun j i hj hi hji => by
    rw [List.length_map] at hj hi
    have := hm j i hi hji
    rw [getD_nat _ _ hj] at this
    simpa using this
  have := nodup_le (g.2.map codeA) (rangeI 100) (asc_nodup ha) fun x hx => by
    obtain ⟨a, ha, rfl⟩ := List.mem_map.1 hx
    have := graph_m hg ha
    rw [rangeI_mem]
    unfold codeA
    omega
  rw [List.length_map, rangeI_len] at this
  exact this
theorem gather_const {α β : Type} {p : α → Bool} {f : α → β} : ∀ (l : List α) (i : Nat), gatherI (fun _ x => p x) (fun _ x => f x) l i = (l.filter p).map f
  | [], _ => rfl
  | x :: r, i => by
    simp only [gatherI, List.filter_cons]
    cases p x <;> simp [gather_const r]
theorem attM_len (g : Graph) (k : Int) : (attM g k).length ≤ g.2.length := by
  unfold attM
  rw [List.length_map]
  exact List.length_filter_le _ _
theorem vicM_len (g : Graph) (k : Int) : (vicM g k).length ≤ g.2.length := by
  unfold vicM
  rw [List.length_map]
  exact List.length_filter_le _ _
theorem hitM_len (g : Graph) (s : List Int) : (hitM g s).length ≤ g.1.toNat := by
  unfold hitM
  exact Nat.le_trans (List.length_filter_le _ _) (by rw [rangeI_len]; exact Nat.le_refl _)
theorem filter_loop {f : Nat → List Int → Int → Option Ret} {p : Int → Bool} {k : List Int → Option Ret} {m : Nat} (hs : ∀ (n i : Nat) (s : List Int), i < m → s.length ≤ i → f (n + 1) s (i : Int) = f n (bif p (i : Int) then s ++ [(i : Int)] else s) ((i + 1 : Nat) : Int)) (he : ∀ (n : Nat) (s : List Int), f (n + 1) s (m : Int) = k s) {n : Nat} (hn : m < n) : f n [] 0 = k ((rangeI m).filter p) := by
  have key : ∀ (d i n : Nat), i + d = m → d < n → f n ((rangeI i).filter p) (i : Int) = k ((rangeI m).filter p) := by
    intro d
    induction d with
    | zero =>
      intro i n h1 h2
      obtain ⟨n, rfl⟩ : ∃ j, n = j + 1 := ⟨n - 1, by omega⟩
      obtain rfl : i = m := by omega
      exact he _ _
    | succ d ih =>
      intro i n h1 h2
      obtain ⟨n, rfl⟩ : ∃ j, n = j + 1 := ⟨n - 1, by omega⟩
      have e : (bif p (i : Int) then (rangeI i).filter p ++ [(i : Int)] else (rangeI i).filter p) = (rangeI (i + 1)).filter p := by
        rw [rangeI_succ, List.filter_append, List.filter_cons, List.filter_nil]
        cases p (i : Int) <;> simp
      rw [hs n i _ (by omega) (Nat.le_trans (List.length_filter_le _ _) (by rw [rangeI_len]; exact Nat.le_refl _)), e]
      exact ih (i + 1) n (by omega) (by omega)
  exact key m 0 n (by omega) (by omega)
theorem map_loop {f : Nat → List ByteArray → Int → Option Ret} {p : Int → ByteArray} {k : List ByteArray → Option Ret} {m : Nat} (hs : ∀ (n i : Nat) (s : List ByteArray), i < m → s.length ≤ i → f (n + 1) s (i : Int) = f n (s ++ [p (i : Int)]) ((i + 1 : Nat) : Int)) (he : ∀ (n : Nat) (s : List ByteArray), f (n + 1) s (m : Int) = k s) {n : Nat} (hn : m < n) : f n [] 0 = k ((rangeI m).map p) := by
  have key : ∀ (d i n : Nat), i + d = m → d < n → f n ((rangeI i).map p) (i : Int) = k ((rangeI m).map p) := by
    intro d
    induction d with
    | zero =>
      intro i n h1 h2
      obtain ⟨n, rfl⟩ : ∃ j, n = j + 1 := ⟨n - 1, by omega⟩
      obtain rfl : i = m := by omega
      exact he _ _
    | succ d ih =>
      intro i n h1 h2
      obtain ⟨n, rfl⟩ : ∃ j, n = j + 1 := ⟨n - 1, by omega⟩
      rw [hs n i _ (by omega) (by rw [List.length_map, rangeI_len]; exact Nat.le_refl _), show (rangeI i).map p ++ [p (i : Int)] = (rangeI (i + 1)).map p by rw [rangeI_succ, List.map_append]; rfl]
      exact ih (i + 1) n (by omega) (by omega)
  exact key m 0 n (by omega) (by omega)
theorem goL1_or {α : Type} {body : Nat → α → Bool → (Bool → Option Ret) → Option Ret} {k : Bool → Option Ret} {q : α → Bool} : ∀ (r : List α) (i : Nat) (b : Bool), (∀ (i : Nat) (x : α) (b : Bool) (next : Bool → Option Ret), x ∈ r → body i x b next = next (b || q x)) → goL1 body k r i b = k (b || r.any q)
  | [], i, b, _ => by simp [goL1]
  | x :: r, i, b, h => by
    simp only [goL1, List.any_cons]
    rw [h i x b _ (by simp), goL1_or r (i + 1) _ fun j y b next hy => h j y b next (by simp [hy]), Bool.or_assoc]
theorem one_app {α : Type} {s : List α} {x : α} {i : Nat} (h : s.length ≤ i) (hi : i ≤ 1000000) : decide ((List.length s + List.length [x]) * 1 ≤ 4398046511104) = true := decide_eq_true (by simp; omega)
structure GrOK (g : Graph) (N : Nat) : Prop where
  g : isGraphM g = true
  N : 2000 < N
theorem spec_IsSet_ok {N : Nat} {g : Graph} {s : List Int} {kf : Bool → Option Ret} (h : GrOK g N) (hs : s.length ≤ 100) : spec_IsSet N g s kf = kf (isSetM g s) := by
  have hm := maxLen_eq
  have hN := h.N
  have hl := graph_len h.g
  unfold spec_IsSet
  rw [spec_IsGraph_ok (by omega) (by omega), h.g]
  simp only [Bool.not_true, cond_false]
  rw [spec_IsSet_l4_r (by omega) (by omega), goL_all (l := s) (p := setP g s) (kf := kf false) (fun i x next hi e => ?_) s 0 rfl]
  · unfold isSetM
    rw [h.g, Bool.true_and]
    cases allI (setP g s) s 0 <;> rfl
  · rw [spec_l1In_ok]
    unfold setP
    cases inR x 0 (IntKind.wrap .i64 (g.1 - 1)) with
    | false => rfl
    | true =>
      simp only [Bool.not_true, cond_false, Bool.true_and]
      by_cases h0 : i = 0
      · subst h0; rfl
      · rw [decide_eq_true (show (i : Int) > 0 by omega), decide_eq_false h0, cond_true, wrap_pred (by omega) hi (by omega), inB_nat (by omega), cond_true, Int.toNat_natCast, Bool.false_or]
        by_cases hx : s.getD (i - 1) 0 < x
        · rw [decide_eq_true hx, decide_eq_false (by omega)]; rfl
        · rw [decide_eq_false hx, decide_eq_true (by omega)]; rfl
theorem impl_IsSet_ok {N : Nat} {g : Graph} {s : List Int} {kf : Bool → Option Ret} (h : GrOK g N) (hs : s.length ≤ 100) : impl_IsSet N g s kf = kf (isSetM g s) := by
  have hm := maxLen_eq
  have hN := h.N
  have hl := graph_len h.g
  unfold impl_IsSet
  rw [impl_IsGraph_ok (by omega) (by omega), h.g]
  simp only [Bool.not_true, cond_false]
  rw [impl_IsSet_l4_r (by omega) (by omega), goL_all (l := s) (p := setP g s) (kf := kf false) (fun i x next hi e => ?_) s 0 rfl]
  · unfold isSetM
    rw [h.g, Bool.true_and]
    cases allI (setP g s) s 0 <;> rfl
  · unfold impl_isClaim
    rw [impl_InRange_ok]
    unfold setP
    cases inR x 0 (IntKind.wrap .i64 (g.1 - 1)) with
    | false => rfl
    | true =>
      simp only [Bool.not_true, cond_false, Bool.true_and]
      by_cases h0 : i = 0
      · subst h0; rfl
      · rw [decide_eq_true (show (i : Int) > 0 by omega), decide_eq_false h0, cond_true, wrap_pred (by omega) hi (by omega), inB_nat (by omega), cond_true, Int.toNat_natCast, Bool.false_or]
        by_cases hx : s.getD (i - 1) 0 < x
        · rw [decide_eq_true hx, decide_eq_false (by omega)]; rfl
        · rw [decide_eq_false hx, decide_eq_true (by omega)]; rfl
theorem spec_HitBy_ok {N : Nat} {g : Graph} {s : List Int} {kf : List Int → Option Ret} (h : GrOK g N) (hs : s.length ≤ 100) : spec_HitBy N g s kf = kf (hitM g s) := by
  have hm := maxLen_eq
  have hN := h.N
  have hl := graph_len h.g
  have hn := graph_n h.g
  unfold spec_HitBy
  refine filter_loop (f := fun n l i => spec_HitBy_l3 N s g n kf l i) (p := hitB g s) (k := kf) (m := g.1.toNat) (fun n i l hi hli => ?_) (fun n l => ?_) (by omega)
  · simp only [spec_HitBy_l3]
    rw [decide_eq_true (show (i : Int) < g.1 by omega), cond_true, spec_IsGraph_ok (by omega) (by omega), h.g, cond_true, spec_HitBy_l7_r (by omega) (by omega), goL1_or (q := fun a => a.getD 1 0 == (i : Int) && hasM s (a.getD 0 0)) g.2 0 false (fun j x b next hx => ?_)]
    · show (bif hitB g s (i : Int) then _ else _) = _
      rw [one_app hli (by omega), wrap64 (by omega) (by omega)]
      cases hitB g s (i : Int) <;> rfl
    · obtain ⟨h2, _⟩ := graph_m h.g hx
      have b1 : inB (1 : Int) (List.length x) = true := by rw [h2]; rfl
      have b0 : inB (0 : Int) (List.length x) = true := by rw [h2]; rfl
      rw [b1, b0, spec_l4Has_ok (by omega) (by omega)]
      cases b with
      | true => rfl
      | false =>
        show (bif (x.getD 1 0 == (i : Int)) then next (hasM s (x.getD 0 0)) else next false) = next (x.getD 1 0 == (i : Int) && hasM s (x.getD 0 0))
        cases x.getD 1 0 == (i : Int) <;> rfl
  · simp only [spec_HitBy_l3]
    rw [decide_eq_false (show ¬ ((g.1.toNat : Nat) : Int) < g.1 by omega)]
    rfl
theorem spec_AttackersOf_ok {N : Nat} {g : Graph} {k : Int} {kf : List Int → Option Ret} (h : GrOK g N) : spec_AttackersOf N g k kf = kf (attM g k) := by
  have hm := maxLen_eq
  have hN := h.N
  have hl := graph_len h.g
  unfold spec_AttackersOf
  rw [spec_AttackersOf_l3_r (by omega) (by omega), goL1_gather (l := g.2) (c := fun _ x => x.getD 1 0 == k) (f := fun _ x => x.getD 0 0) (fun i x s next hi e hs => ?_) g.2 0 [] rfl (by simp), List.nil_append, gather_const (p := fun x : List Int => x.getD 1 0 == k) (f := fun x : List Int => x.getD 0 0)]
  · rfl
  · obtain ⟨h2, _⟩ := graph_m h.g (a := x) (by rw [← e]; exact List.getElem_mem hi)
    have b1 : inB (1 : Int) (List.length x) = true := by rw [h2]; rfl
    have b0 : inB (0 : Int) (List.length x) = true := by rw [h2]; rfl
    rw [spec_IsGraph_ok (by omega) (by omega), h.g, cond_true, b1, b0, one_app hs (by omega)]
    rfl
theorem impl_AttackersOf_ok {N : Nat} {g : Graph} {k : Int} {kf : List Int → Option Ret} (h : GrOK g N) : impl_AttackersOf N g k kf = kf (attM g k) := by
  have hm := maxLen_eq
  have hN := h.N
  have hl := graph_len h.g
  unfold impl_AttackersOf
  rw [impl_IsGraph_ok (by omega) (by omega), h.g]
  simp only [Bool.not_true, cond_false]
  rw [impl_AttackersOf_l5_r (by omega) (by omega), goL1_gather (l := g.2) (c := fun _ x => x.getD 1 0 == k) (f := fun _ x => x.getD 0 0) (fun i x s next hi e hs => ?_) g.2 0 [] rfl (by simp), List.nil_append, gather_const (p := fun x : List Int => x.getD 1 0 == k) (f := fun x : List Int => x.getD 0 0)]
  · rfl
  · obtain ⟨h2, _⟩ := graph_m h.g (a := x) (by rw [← e]; exact List.getElem_mem hi)
    have b1 : inB (1 : Int) (List.length x) = true := by rw [h2]; rfl
    have b0 : inB (0 : Int) (List.length x) = true := by rw [h2]; rfl
    rw [b1, b0, one_app hs (by omega)]
    rfl
theorem impl_VictimsOf_ok {N : Nat} {g : Graph} {k : Int} {kf : List Int → Option Ret} (h : GrOK g N) : impl_VictimsOf N g k kf = kf (vicM g k) := by
  have hm := maxLen_eq
  have hN := h.N
  have hl := graph_len h.g
  unfold impl_VictimsOf
  rw [impl_IsGraph_ok (by omega) (by omega), h.g]
  simp only [Bool.not_true, cond_false]
  rw [impl_VictimsOf_l5_r (by omega) (by omega), goL1_gather (l := g.2) (c := fun _ x => x.getD 0 0 == k) (f := fun _ x => x.getD 1 0) (fun i x s next hi e hs => ?_) g.2 0 [] rfl (by simp), List.nil_append, gather_const (p := fun x : List Int => x.getD 0 0 == k) (f := fun x : List Int => x.getD 1 0)]
  · rfl
  · obtain ⟨h2, _⟩ := graph_m h.g (a := x) (by rw [← e]; exact List.getElem_mem hi)
    have b1 : inB (1 : Int) (List.length x) = true := by rw [h2]; rfl
    have b0 : inB (0 : Int) (List.length x) = true := by rw [h2]; rfl
    rw [b1, b0, one_app hs (by omega)]
    rfl
theorem vic_loop {N : Nat} {g : Graph} {k : List Int → Option Ret} (h : GrOK g N) : ∀ (r : List Int) (i : Nat) (s : List Int), s.length + 100 * r.length ≤ 1000000 → goL1 (fun (i : Nat) (x : Int) (x5_2 : (List Int)) (next : (List Int) → Option Ret) =>
        impl_VictimsOf N g x (fun (r18_7 : (List Int)) =>
          bif (decide ((List.length x5_2 + List.length r18_7) * 1 ≤ 4398046511104)) then
            next (x5_2 ++ r18_7)
          else none)) k r i s = k (s ++ r.flatMap (vicM g))
  | [], i, s, _ => by simp [goL1]
  | x :: r, i, s, hs => by
    have hl := graph_len h.g
    have hv := vicM_len g x
    simp only [List.length_cons] at hs
    simp only [goL1]
    rw [impl_VictimsOf_ok h, decide_eq_true (by omega), cond_true, vic_loop h r (i + 1) _ (by rw [List.length_append]; omega), List.flatMap_cons, List.append_assoc]
theorem flat_len {g : Graph} (hl : g.2.length ≤ 100) : ∀ s : List Int, (s.flatMap (vicM g)).length ≤ 100 * s.length
  | [] => by simp
  | x :: r => by
    have := flat_len hl r
    have hv := vicM_len g x
    simp only [List.flatMap_cons, List.length_append, List.length_cons]
    omega
theorem hit_both {g : Graph} (hg : isGraphM g = true) (s : List Int) : compactL (sortL (s.flatMap (vicM g))) = hitM g s := by
  obtain ⟨h1, h2⟩ := compactL_spec (sortL (s.flatMap (vicM g))) (sortL_le _)
  refine asc_ext h1 (filter_asc (rangeI_asc _)) fun x => ?_
  rw [h2, sortL_mem, List.mem_flatMap]
  unfold hitM hitB vicM
  rw [List.mem_filter, rangeI_mem, List.any_eq_true]
  constructor
  · rintro ⟨n, hn, hx⟩
    obtain ⟨a, ha, rfl⟩ := List.mem_map.1 hx
    rw [List.mem_filter] at ha
    have := graph_m hg ha.1
    refine ⟨by omega, a, ha.1, ?_⟩
    rw [Bool.and_eq_true, hasM_iff, beq_iff_eq]
    have e := beq_iff_eq.1 ha.2
    exact ⟨rfl, by rw [e]; exact hn⟩
  · rintro ⟨_, a, ha, hb⟩
    rw [Bool.and_eq_true, hasM_iff, beq_iff_eq] at hb
    exact ⟨a.getD 0 0, hb.2, List.mem_map.2 ⟨a, List.mem_filter.2 ⟨ha, by simp⟩, hb.1⟩⟩
theorem impl_HitBy_ok {N : Nat} {g : Graph} {s : List Int} {kf : List Int → Option Ret} (h : GrOK g N) (hs : s.length ≤ 100) : impl_HitBy N g s kf = kf (hitM g s) := by
  have hm := maxLen_eq
  have hN := h.N
  have hf := flat_len (graph_len h.g) s
  unfold impl_HitBy
  rw [impl_HitBy_l3_r (by omega) (by omega), vic_loop h s 0 [] (by simp; omega), List.nil_append, slices_Sort_int_ok (by omega), slices_Compact_int_ok, hit_both h.g]
def defendsM (g : Graph) (s : List Int) (k : Int) : Bool := isSetM g s && (inR k 0 (IntKind.wrap .i64 (g.1 - 1)) && defB g s k)
theorem spec_Defends_ok {N : Nat} {g : Graph} {s : List Int} {k : Int} {kf : Bool → Option Ret} (h : GrOK g N) (hs : s.length ≤ 100) : spec_Defends N g s k kf = kf (defendsM g s k) := by
  have hm := maxLen_eq
  have hN := h.N
  have hl := graph_len h.g
  have hn := graph_n h.g
  have ha := attM_len g k
  have hh := hitM_len g s
  unfold spec_Defends defendsM
  rw [spec_IsSet_ok h hs]
  cases isSetM g s with
  | false => rfl
  | true =>
    simp only [Bool.not_true, cond_false, Bool.true_and]
    rw [spec_l1In_ok]
    cases inR k 0 (IntKind.wrap .i64 (g.1 - 1)) with
    | false => rfl
    | true =>
      simp only [Bool.not_true, cond_false, Bool.true_and]
      rw [spec_HitBy_ok h hs, spec_AttackersOf_ok h, spec_Defends_l6_r (by omega) (by omega), goL_all (l := attM g k) (p := fun _ x => hasM (hitM g s) x) (kf := kf false) (fun i x next hi e => ?_) (attM g k) 0 rfl, allI_all (p := hasM (hitM g s))]
      · show (bif defB g s k then _ else _) = _
        cases defB g s k <;> rfl
      · rw [spec_l4Has_ok (by omega) (by omega)]
        cases hasM (hitM g s) x <;> rfl
theorem impl_Defends_ok {N : Nat} {g : Graph} {s : List Int} {k : Int} {kf : Bool → Option Ret} (h : GrOK g N) (hs : s.length ≤ 100) : impl_Defends N g s k kf = kf (defendsM g s k) := by
  have hm := maxLen_eq
  have hN := h.N
  have hl := graph_len h.g
  have hn := graph_n h.g
  have ha := attM_len g k
  have hh := hitM_len g s
  unfold impl_Defends defendsM
  rw [impl_IsSet_ok h hs]
  cases isSetM g s with
  | false => rfl
  | true =>
    simp only [Bool.not_true, cond_false, Bool.true_and]
    unfold impl_isClaim
    rw [impl_InRange_ok]
    cases inR k 0 (IntKind.wrap .i64 (g.1 - 1)) with
    | false => rfl
    | true =>
      simp only [Bool.not_true, cond_false, Bool.true_and]
      rw [impl_HitBy_ok h hs, impl_AttackersOf_ok h, impl_Defends_l5_r (by omega) (by omega), goL_all (l := attM g k) (p := fun _ x => hasM (hitM g s) x) (kf := kf false) (fun i x next hi e => ?_) (attM g k) 0 rfl, allI_all (p := hasM (hitM g s))]
      · show (bif defB g s k then _ else _) = _
        cases defB g s k <;> rfl
      · rw [slices_Contains_int_ok (by omega) (by omega)]
        cases hasM (hitM g s) x <;> rfl
theorem defends_in {g : Graph} {s : List Int} {i : Nat} (hg : isGraphM g = true) (hs : isSetM g s = true) (hi : i < g.1.toNat) : defendsM g s (i : Int) = defB g s (i : Int) := by
  have hn := graph_n hg
  unfold defendsM
  rw [hs, wrap64 (by omega) (by omega), inR_iff.2 (show (0 : Int) ≤ (i : Int) ∧ (i : Int) ≤ g.1 - 1 by omega)]
  rfl
theorem spec_DefendedBy_ok {N : Nat} {g : Graph} {s : List Int} {kf : List Int → Option Ret} (h : GrOK g N) (hs : s.length ≤ 100) (hS : isSetM g s = true) : spec_DefendedBy N g s kf = kf (defM g s) := by
  have hN := h.N
  have hn := graph_n h.g
  unfold spec_DefendedBy
  refine filter_loop (f := fun n l i => spec_DefendedBy_l3 N s g n kf l i) (p := defB g s) (k := kf) (m := g.1.toNat) (fun n i l hi hli => ?_) (fun n l => ?_) (by omega)
  · simp only [spec_DefendedBy_l3]
    rw [decide_eq_true (show (i : Int) < g.1 by omega), cond_true, spec_IsSet_ok h hs, hS, cond_true, spec_Defends_ok h hs, defends_in h.g hS hi, one_app hli (by omega), wrap64 (by omega) (by omega)]
    cases defB g s (i : Int) <;> rfl
  · simp only [spec_DefendedBy_l3]
    rw [decide_eq_false (show ¬ ((g.1.toNat : Nat) : Int) < g.1 by omega)]
    rfl
theorem impl_DefendedBy_ok {N : Nat} {g : Graph} {s : List Int} {kf : List Int → Option Ret} (h : GrOK g N) (hs : s.length ≤ 100) (hS : isSetM g s = true) : impl_DefendedBy N g s kf = kf (defM g s) := by
  have hN := h.N
  have hn := graph_n h.g
  unfold impl_DefendedBy
  rw [impl_IsSet_ok h hs, hS]
  simp only [Bool.not_true, cond_false]
  refine filter_loop (f := fun n l i => impl_DefendedBy_l5 N s g g.1 n kf l i) (p := defB g s) (k := kf) (m := g.1.toNat) (fun n i l hi hli => ?_) (fun n l => ?_) (by omega)
  · simp only [impl_DefendedBy_l5]
    rw [decide_eq_true (show (i : Int) < g.1 by omega), cond_true, impl_Defends_ok h hs, defends_in h.g hS hi, one_app hli (by omega), wrap64 (by omega) (by omega)]
    cases defB g s (i : Int) <;> rfl
  · simp only [impl_DefendedBy_l5]
    rw [decide_eq_false (show ¬ ((g.1.toNat : Nat) : Int) < g.1 by omega)]
    rfl
theorem grounded_both {N : Nat} {g : Graph} (h : GrOK g N) : ∃ s : List Int, s.length ≤ 10 ∧ (∀ kf, spec_Grounded N g kf = kf s) ∧ ∀ kf, impl_Grounded N g kf = kf s := by
  have hx := maxLen_eq
  have hN := h.N
  have hn := graph_n h.g
  have hl := graph_len h.g
  obtain ⟨m, hm, he, hne⟩ := stepsD_end g
  have hlen : ∀ k, (stepsD g k).length ≤ 10 := fun k => by have := stepsD_len g k; omega
  have S : ∀ (d k n : Nat) (kf : List Int → Option Ret), k + d = m → d < n → spec_Grounded_l2 N g n kf (stepsD g k) = kf (stepsD g m) := by
    intro d
    induction d with
    | zero =>
      intro k n kf h1 h2
      obtain ⟨n, rfl⟩ : ∃ j, n = j + 1 := ⟨n - 1, by omega⟩
      obtain rfl : k = m := by omega
      have l1 := hlen (k + 1)
      simp only [spec_Grounded_l2]
      rw [spec_DefendedBy_ok h (by have := hlen k; omega) (stepsD_set h.g k), spec_EqualInts_ok (by show (stepsD g (k + 1)).length ≤ _; omega) (by show (stepsD g (k + 1)).length < _; omega)]
      show (bif decide (stepsD g (k + 1) = stepsD g k) then kf (stepsD g (k + 1)) else _) = _
      rw [decide_eq_true he, he]
      rfl
    | succ d ih =>
      intro k n kf h1 h2
      obtain ⟨n, rfl⟩ : ∃ j, n = j + 1 := ⟨n - 1, by omega⟩
      have l1 := hlen (k + 1)
      simp only [spec_Grounded_l2]
      rw [spec_DefendedBy_ok h (by have := hlen k; omega) (stepsD_set h.g k), spec_EqualInts_ok (by show (stepsD g (k + 1)).length ≤ _; omega) (by show (stepsD g (k + 1)).length < _; omega)]
      show (bif decide (stepsD g (k + 1) = stepsD g k) then _ else spec_Grounded_l2 N g n kf (stepsD g (k + 1))) = _
      rw [decide_eq_false (hne k (by omega))]
      exact ih (k + 1) n kf (by omega) (by omega)
  have L : ∀ k, ((List.range (k + 1)).map (stepsD g)).length = k + 1 := fun k => by simp
  have G : ∀ k, ((List.range (k + 1)).map (stepsD g)).getD k [] = stepsD g k := fun k => by rw [getD_nat _ _ (by rw [L]; omega)]; simp
  have W : ∀ k, k ≤ 10 → IntKind.wrap .i64 ((((List.range (k + 1)).map (stepsD g)).length : Int) - 1) = (k : Int) := fun k hk => by
    rw [L, wrap64 (by omega) (by omega)]
    omega
  have I : ∀ (d k n : Nat) (kf : List (List Int) → Option Ret), k + d = m → d < n → impl_rounds_l4 N g n kf ((List.range (k + 1)).map (stepsD g)) = kf ((List.range (m + 1)).map (stepsD g)) := by
    intro d
    induction d with
    | zero =>
      intro k n kf h1 h2
      obtain ⟨n, rfl⟩ : ∃ j, n = j + 1 := ⟨n - 1, by omega⟩
      obtain rfl : k = m := by omega
      have l1 := hlen (k + 1)
      simp only [impl_rounds_l4]
      rw [W k (by omega), inB_nat (by rw [L]; omega), cond_true, Int.toNat_natCast, G, impl_DefendedBy_ok h (by have := hlen k; omega) (stepsD_set h.g k), slices_Equal_int_ok (by show (stepsD g (k + 1)).length ≤ _; omega) (by show (stepsD g (k + 1)).length < _; omega)]
      show (bif decide (stepsD g (k + 1) = stepsD g k) then _ else _) = _
      rw [decide_eq_true he]
      rfl
    | succ d ih =>
      intro k n kf h1 h2
      obtain ⟨n, rfl⟩ : ∃ j, n = j + 1 := ⟨n - 1, by omega⟩
      have l1 := hlen (k + 1)
      simp only [impl_rounds_l4]
      rw [W k (by omega), inB_nat (by rw [L]; omega), cond_true, Int.toNat_natCast, G, impl_DefendedBy_ok h (by have := hlen k; omega) (stepsD_set h.g k), slices_Equal_int_ok (by show (stepsD g (k + 1)).length ≤ _; omega) (by show (stepsD g (k + 1)).length < _; omega)]
      show (bif decide (stepsD g (k + 1) = stepsD g k) then _ else _) = _
      rw [decide_eq_false (hne k (by omega)), cond_false, one_app (i := k + 1) (by rw [L]; exact Nat.le_refl _) (by omega), cond_true]
      have e : (List.range (k + 1)).map (stepsD g) ++ [defM g (stepsD g k)] = (List.range (k + 1 + 1)).map (stepsD g) := by
        rw [List.range_succ (n := k + 1), List.map_append]
        rfl
      rw [e]
      exact ih (k + 1) n kf (by omega) (by omega)
  refine ⟨stepsD g m, hlen m, fun kf => ?_, fun kf => ?_⟩
  · unfold spec_Grounded
    exact S m 0 N kf (by omega) (by omega)
  · unfold impl_Grounded impl_rounds
    rw [impl_IsGraph_ok (by omega) (by omega), h.g]
    simp only [Bool.not_true, cond_false]
    refine (I m 0 N _ (by omega) (by omega)).trans ?_
    rw [W m (by omega), inB_nat (by rw [L]; omega), cond_true, Int.toNat_natCast, G]
noncomputable def labM (s t : List Int) (k : Int) : ByteArray := bif hasM s k then s_in else bif hasM t k then s_out else s_open
noncomputable def labsM (g : Graph) (s : List Int) : List ByteArray := (rangeI g.1.toNat).map (labM s (hitM g s))
noncomputable def opensM (l : List ByteArray) : List Int := gatherI (fun _ x => ByteArray.toList x == ByteArray.toList s_open) (fun i _ => (i : Int)) l 0
theorem labels_both {N : Nat} {g : Graph} (h : GrOK g N) : ∃ l : List ByteArray, l.length ≤ 10 ∧ (∀ kf, spec_Labels N g kf = kf l) ∧ ∀ kf, impl_Labels N g kf = kf l := by
  have hx := maxLen_eq
  have hN := h.N
  have hn := graph_n h.g
  have hl := graph_len h.g
  obtain ⟨s, hs, h1, h2⟩ := grounded_both h
  have hh := hitM_len g s
  refine ⟨labsM g s, by unfold labsM; rw [List.length_map, rangeI_len]; omega, fun kf => ?_, fun kf => ?_⟩
  · unfold spec_Labels
    rw [h1, spec_HitBy_ok h (by omega)]
    refine map_loop (f := fun n l i => spec_Labels_l5 N g s (hitM g s) n kf l i) (p := labM s (hitM g s)) (k := kf) (m := g.1.toNat) (fun n i l hi hli => ?_) (fun n l => ?_) (by omega)
    · simp only [spec_Labels_l5]
      rw [decide_eq_true (show (i : Int) < g.1 by omega), cond_true, spec_IsGraph_ok (by omega) (by omega), h.g, cond_true, spec_l4Has_ok (by omega) (by omega), wrap64 (by omega) (by omega), one_app hli (by omega), one_app hli (by omega), one_app hli (by omega)]
      unfold labM
      cases hasM s (i : Int) with
      | true => rfl
      | false =>
        simp only [cond_false]
        rw [spec_l4Has_ok (by omega) (by omega)]
        cases hasM (hitM g s) (i : Int) <;> rfl
    · simp only [spec_Labels_l5]
      rw [decide_eq_false (show ¬ ((g.1.toNat : Nat) : Int) < g.1 by omega)]
      rfl
  · unfold impl_Labels
    rw [impl_IsGraph_ok (by omega) (by omega), h.g]
    simp only [Bool.not_true, cond_false]
    rw [h2, impl_HitBy_ok h (by omega)]
    refine map_loop (f := fun n l i => impl_Labels_l7 N s (hitM g s) g.1 n kf l i) (p := labM s (hitM g s)) (k := kf) (m := g.1.toNat) (fun n i l hi hli => ?_) (fun n l => ?_) (by omega)
    · simp only [impl_Labels_l7]
      rw [decide_eq_true (show (i : Int) < g.1 by omega), cond_true, slices_Contains_int_ok (by omega) (by omega), wrap64 (by omega) (by omega), one_app hli (by omega), one_app hli (by omega), one_app hli (by omega)]
      unfold labM
      cases hasM s (i : Int) with
      | true => rfl
      | false =>
        simp only [cond_false]
        rw [slices_Contains_int_ok (by omega) (by omega)]
        cases hasM (hitM g s) (i : Int) <;> rfl
    · simp only [impl_Labels_l7]
      rw [decide_eq_false (show ¬ ((g.1.toNat : Nat) : Int) < g.1 by omega)]
      rfl
theorem OpenShare_same {N : Nat} {g : Graph} (hl : g.2.length ≤ 1048576) (hN : g.2.length + 2000 < N) : ∃ r, (∀ kf, spec_OpenShare N g kf = kf r) ∧ ∀ kf, impl_OpenShare N g kf = kf r := by
  have hx := maxLen_eq
  by_cases h0 : (g.1 == (0 : Int)) = true
  · exact ⟨0, fun kf => by unfold spec_OpenShare; rw [h0]; rfl, fun kf => by unfold impl_OpenShare; rw [h0]; rfl⟩
  have h0 : (g.1 == (0 : Int)) = false := by simpa using h0
  cases hg : isGraphM g with
  | false => exact ⟨0, fun kf => by unfold spec_OpenShare; rw [h0, cond_false, spec_IsGraph_ok hl (by omega), hg]; rfl, fun kf => by unfold impl_OpenShare; rw [h0, cond_false, impl_IsGraph_ok hl (by omega), hg]; rfl⟩
  | true =>
    have h : GrOK g N := ⟨hg, by omega⟩
    obtain ⟨l, hl2, h1, h2⟩ := labels_both h
    have hne : (!decide (g.1 = 0)) = true := by simpa using h0
    have body : ∀ (i : Nat) (x : ByteArray) (s : List Int) (next : List Int → Option Ret), i < l.length → s.length ≤ i → (bif (ByteArray.toList x == ByteArray.toList s_open) then
          bif (decide ((List.length s + List.length [(i : Int)]) * 1 ≤ 4398046511104)) then
            next (s ++ [(i : Int)])
          else none
        else
          next s) = bif (ByteArray.toList x == ByteArray.toList s_open) then next (s ++ [(i : Int)]) else next s := fun i x s next hi hs => by
      rw [one_app hs (by omega)]
      rfl
    refine ⟨IntKind.wrap .i64 (Int.tdiv (IntKind.wrap .i64 ((100 : Int) * (List.length (opensM l) : Int))) g.1), fun kf => ?_, fun kf => ?_⟩
    · unfold spec_OpenShare spec_OpenClaims
      rw [h0, cond_false, spec_IsGraph_ok hl (by omega), hg]
      simp only [Bool.not_true, cond_false]
      rw [h1, spec_OpenClaims_l4_r (by omega) (by omega), goL1_gather (l := l) (c := fun _ x => ByteArray.toList x == ByteArray.toList s_open) (f := fun i _ => (i : Int)) (fun i x s next hi e hs => body i x s next hi hs) l 0 [] rfl (by simp), List.nil_append, hne]
      rfl
    · unfold impl_OpenShare impl_OpenClaims
      rw [h0, cond_false, impl_IsGraph_ok hl (by omega), hg]
      simp only [Bool.not_true, cond_false]
      rw [h2, impl_OpenClaims_l3_r (by omega) (by omega), goL1_gather (l := l) (c := fun _ x => ByteArray.toList x == ByteArray.toList s_open) (f := fun i _ => (i : Int)) (fun i x s next hi e hs => body i x s next hi hs) l 0 [] rfl (by simp), List.nil_append, hne]
      rfl
theorem lawFnExactOpenShare (g : Graph) (h : wfs [tQILLIE] (g, ())) : ∃ N, ∀ kf, laws_FnExactOpenShare N g kf = kf true := by
  obtain ⟨N, hN⟩ : ∃ N, N = 2 * sizeV tQILLIE g + 2100 := ⟨_, rfl⟩
  refine ⟨N, fun kf => ?_⟩
  have hw : wf tQILLIE g := h.1
  have hs := sizeV_len (t := .sl (.int .i64)) g.2
  have hs2 : sizeV tQILLIE g = sizeV (.sl (.sl (.int .i64))) g.2 := by simp [sizeV]
  unfold laws_FnExactOpenShare
  rw [laws_szGraph_ok hw (by omega) (by omega) (by omega)]
  refine small_or (by omega) fun hb => ?_
  obtain ⟨r, h1, h2⟩ := OpenShare_same (N := N) (g := g) (by omega) (by omega)
  have h3 : ∀ k, laws_toGraph N g k = k g := fun k => laws_toGraph_ok (by omega) (by omega)
  have h4 : ∀ k, laws_eqGraph N g g k = k true := fun k => laws_eqGraph_ok (by omega) (by omega)
  simp only [h1, h2, h3, h4, bne_self_eq_false, Bool.not_true, cond_false]
end Go.Pv.R
namespace Go.Pv.R
set_option linter.unusedVariables false
set_option linter.unusedSimpArgs false
end Go.Pv.R
namespace Go.Pv.R
set_option linter.unusedVariables false
set_option linter.unusedSimpArgs false
end Go.Pv.R
namespace Go.Pv.R
set_option linter.unusedVariables false
set_option linter.unusedSimpArgs false
end Go.Pv.R
