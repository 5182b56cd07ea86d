/- The law over the plain functions. -/
import Derived.Test.YthdoldaaodmeeaaDoorPlHz
namespace Go.Pv.R
set_option linter.unusedVariables false
set_option linter.unusedSimpArgs false
end Go.Pv.R
namespace Go.Pv.R
set_option linter.unusedVariables false
set_option linter.unusedSimpArgs false
theorem spec_l1In_ok {N : Nat} {a b c : Int} {kf : Bool → Option Ret} : spec_l1In N a b c kf = kf (inR a b c) := by
  unfold spec_l1In inR
  by_cases h : b ≤ a <;> simp [h]
theorem impl_InRange_ok {N : Nat} {a b c : Int} {kf : Bool → Option Ret} : impl_InRange N a b c kf = kf (inR a b c) := by
  unfold impl_InRange inR
  by_cases h : b ≤ a <;> simp [h]
/-- What is asked first: is it all small? -/
theorem small_or {left : Int} {s : Nat} {A B : Option Ret} (h0 : 0 ≤ left) (h : (s : Int) ≤ left → B = A) : (bif decide (szr left s < 0) then A else B) = A := by
  by_cases hn : szr left s < 0
  · rw [decide_eq_true hn]; rfl
  · rw [decide_eq_false hn, cond_false]
    exact h (by have := (szr_neg (s := s) h0); omega)
end Go.Pv.R
namespace Go.Pv.R
set_option linter.unusedVariables false
set_option linter.unusedSimpArgs false
end Go.Pv.R
namespace Go.Pv
set_option linter.unusedVariables false
set_option linter.unusedSimpArgs false
theorem wrap_pred {i m : Nat} (h0 : 0 < i) (h : i < m) (hm : m ≤ maxLen) : IntKind.wrap .i64 ((i : Int) - 1) = ((i - 1 : Nat) : Int) := by
  have := maxLen_eq
  rw [wrap64] <;> omega
end Go.Pv
namespace Go.Pv.R
set_option linter.unusedVariables false
set_option linter.unusedSimpArgs false
end Go.Pv.R
namespace Go.Pv
set_option linter.unusedVariables false
set_option linter.unusedSimpArgs false
end Go.Pv
namespace Go.Pv.R
set_option linter.unusedVariables false
set_option linter.unusedSimpArgs false
end Go.Pv.R
namespace Go.Pv.R
set_option linter.unusedVariables false
set_option linter.unusedSimpArgs false
end Go.Pv.R
namespace Go.Pv.R
set_option linter.unusedVariables false
set_option linter.unusedSimpArgs false
end Go.Pv.R
namespace Go.Pv
set_option linter.unusedVariables false
set_option linter.unusedSimpArgs false
end Go.Pv
namespace Go.Pv.R
set_option linter.unusedVariables false
set_option linter.unusedSimpArgs false
end Go.Pv.R
namespace Go.Pv.R
set_option linter.unusedVariables false
set_option linter.unusedSimpArgs false
end Go.Pv.R
namespace Go.Pv.R
set_option linter.unusedVariables false
set_option linter.unusedSimpArgs false
end Go.Pv.R
namespace Go.Pv
set_option linter.unusedVariables false
set_option linter.unusedSimpArgs false
end Go.Pv
namespace Go.Pv.R
set_option linter.unusedVariables false
set_option linter.unusedSimpArgs false
end Go.Pv.R
namespace Go.Pv.R
set_option linter.unusedVariables false
set_option linter.unusedSimpArgs false
end Go.Pv.R
namespace Go.Pv.R
set_option linter.unusedVariables false
set_option linter.unusedSimpArgs false
end Go.Pv.R
namespace Go.Pv.R
set_option linter.unusedVariables false
set_option linter.unusedSimpArgs false
end Go.Pv.R
namespace Go.Pv.R
set_option linter.unusedVariables false
set_option linter.unusedSimpArgs false
theorem appB (a b : List UInt8) : (⟨a.toArray⟩ ++ ⟨b.toArray⟩ : ByteArray) = ⟨(a ++ b).toArray⟩ := by
  apply ByteArray.ext
  rw [ByteArray.data_append]
  simp
theorem nilB (b : ByteArray) : (⟨#[]⟩ : ByteArray) ++ b = b := by
  apply ByteArray.ext
  rw [ByteArray.data_append]
  simp
theorem sizeL (l : List UInt8) : ByteArray.size ⟨l.toArray⟩ = l.length := by simp [ByteArray.size]
/-- The digits of what is left; none of nothing. -/
def dg (u : Nat) : List UInt8 := if u = 0 then [] else Lib.decDigits u
theorem dg_step {u : Nat} (h : u ≠ 0) : dg u = dg (u / 10) ++ [UInt8.ofNat (48 + u % 10)] := by
  unfold dg
  rw [if_neg h]
  rw [Lib.decDigits]
  by_cases h1 : u < 10
  · rw [dif_pos h1, if_pos (by omega), Nat.mod_eq_of_lt h1]
    rfl
  · rw [dif_neg h1, if_neg (by omega)]
theorem decDigits_len : ∀ (m u : Nat), u < 10 ^ (m + 1) → (Lib.decDigits u).length ≤ m + 1 := by
  intro m
  induction m with
  | zero =>
    intro u hu
    rw [Lib.decDigits, dif_pos (by omega)]
    simp
  | succ m ih =>
    intro u hu
    rw [Lib.decDigits]
    by_cases h1 : u < 10
    · rw [dif_pos h1]; simp
    · rw [dif_neg h1]
      have := ih (u / 10) (by rw [Nat.pow_succ] at hu; omega)
      simp only [List.length_append, List.length_cons, List.length_nil]
      omega
def I64 (n : Int) : Prop := -9223372036854775808 ≤ n ∧ n ≤ 9223372036854775807
theorem itoaB_size {n : Int} (h : I64 n) : (itoaB n).size ≤ 20 := by
  unfold itoaB
  rw [sizeL]
  unfold Lib.itoa
  obtain ⟨h1, h2⟩ := h
  split
  · have := decDigits_len 18 n.natAbs (by omega)
    simp only [List.length_cons]
    omega
  · have := decDigits_len 18 n.toNat (by omega)
    omega
theorem digit_eq {d : Nat} (h : d < 10) : bytesOf [IntKind.wrap .u8 (IntKind.wrap .i64 ((48 : Int) + (d : Int)))] = ⟨[UInt8.ofNat (48 + d)].toArray⟩ := by
  have h1 : IntKind.wrap .i64 ((48 : Int) + (d : Int)) = 48 + (d : Int) := wrap64 (by omega) (by omega)
  have h2 : IntKind.wrap .u8 ((48 : Int) + (d : Int)) = 48 + (d : Int) := by
    have hd : d = 0 ∨ d = 1 ∨ d = 2 ∨ d = 3 ∨ d = 4 ∨ d = 5 ∨ d = 6 ∨ d = 7 ∨ d = 8 ∨ d = 9 := by omega
    rcases hd with rfl | rfl | rfl | rfl | rfl | rfl | rfl | rfl | rfl | rfl <;> rfl
  rw [h1, h2]
  have h3 : ((48 : Int) + (d : Int)).toNat = 48 + d := by omega
  simp only [bytesOf, List.foldl_cons, List.foldl_nil, h3]
  apply ByteArray.ext
  rw [ByteArray.data_push]
  rfl
theorem ten_both (x : Int) : (0 ≤ x ∧ Int.tdiv x 10 = x / 10 ∧ Int.tmod x 10 = x % 10) ∨ (x < 0 ∧ Int.tdiv x 10 = -((-x) / 10) ∧ Int.tmod x 10 = -((-x) % 10)) := by
  by_cases h : 0 ≤ x
  · exact .inl ⟨h, Int.tdiv_eq_ediv_of_nonneg h, Int.tmod_eq_emod_of_nonneg h⟩
  · refine .inr ⟨by omega, ?_, ?_⟩
    · have h1 := Int.neg_tdiv (-x) 10
      rw [Int.neg_neg] at h1
      rw [h1, Int.tdiv_eq_ediv_of_nonneg (by omega)]
    · have h1 := Int.neg_tmod (-x) 10
      rw [Int.neg_neg] at h1
      rw [h1, Int.tmod_eq_emod_of_nonneg (by omega)]
theorem fmt_loop {x0 : Int} {k : ByteArray → Option Ret} : ∀ (m n : Nat) (x : Int) (acc : ByteArray), x.natAbs < 10 ^ m → m < n → I64 x → acc.size + m ≤ 1000 → spec_FormatInt_l5 x0 n k acc x = k (⟨(dg x.natAbs).toArray⟩ ++ acc) := by
  intro m
  induction m with
  | zero =>
    intro n x acc hx hn hr hs
    obtain ⟨n, rfl⟩ : ∃ n', n = n' + 1 := ⟨n - 1, by omega⟩
    have : x = 0 := by omega
    subst this
    simp only [spec_FormatInt_l5, bne_self_eq_false, cond_false]
    show k acc = k (⟨#[]⟩ ++ acc)
    rw [nilB]
  | succ m ih =>
    intro n x acc hx hn hr hs
    obtain ⟨n, rfl⟩ : ∃ n', n = n' + 1 := ⟨n - 1, by omega⟩
    by_cases h0 : x = 0
    · subst h0
      simp only [spec_FormatInt_l5, bne_self_eq_false, cond_false]
      show k acc = k (⟨#[]⟩ ++ acc)
      rw [nilB]
    · have hne : (x != (0 : Int)) = true := by simpa using h0
      obtain ⟨hr1, hr2⟩ := hr
      have hu : x.natAbs ≠ 0 := by omega
      have hd : x.natAbs % 10 < 10 := by omega
      have hq : (Int.tdiv x 10).natAbs = x.natAbs / 10 := by
        rw [Int.natAbs_tdiv]
        rfl
      have ht := Int.mul_tdiv_add_tmod x 10
      have hb : -9223372036854775808 ≤ Int.tdiv x 10 ∧ Int.tdiv x 10 ≤ 9223372036854775807 := by omega
      have hj : spec_FormatInt_j1 (spec_FormatInt_l5 x0 n k) acc x ((x.natAbs % 10 : Nat) : Int) = k (⟨(dg x.natAbs).toArray⟩ ++ acc) := by
        unfold spec_FormatInt_j1
        rw [digit_eq hd, sizeL, decide_eq_true (by simp only [List.length_cons, List.length_nil]; omega), cond_true, wrap64 (by omega) (by omega), ih n _ _ (by rw [hq, Nat.pow_succ] at *; omega) (by omega) hb (by rw [ByteArray.size_append, sizeL]; simp only [List.length_cons, List.length_nil]; omega), hq, ← ByteArray.append_assoc, appB (dg (x.natAbs / 10)) [UInt8.ofNat (48 + x.natAbs % 10)], ← dg_step hu]
      simp only [spec_FormatInt_l5, hne, cond_true]
      by_cases hneg : Int.tmod x 10 < 0
      · rw [decide_eq_true hneg, cond_true]
        have e : IntKind.wrap .i64 (0 - Int.tmod x 10) = ((x.natAbs % 10 : Nat) : Int) := by
          rcases ten_both x with ⟨q1, q2, q3⟩ | ⟨q1, q2, q3⟩
          · omega
          · rw [q3, wrap64 (by omega) (by omega)]
            omega
        rw [e]
        exact hj
      · rw [decide_eq_false hneg, cond_false]
        have e : Int.tmod x 10 = ((x.natAbs % 10 : Nat) : Int) := by
          rcases ten_both x with ⟨q1, q2, q3⟩ | ⟨q1, q2, q3⟩ <;> omega
        rw [e]
        exact hj
theorem spec_FormatInt_ok {N : Nat} {n : Int} {kf : ByteArray → Option Ret} (h : I64 n) (hN : 20 < N) : spec_FormatInt N n kf = kf (itoaB n) := by
  unfold spec_FormatInt
  obtain ⟨h1, h2⟩ := h
  by_cases h0 : n = 0
  · subst h0
    have e : itoaB 0 = s_0 := by
      unfold itoaB Lib.itoa
      rw [if_neg (by decide), Lib.decDigits, dif_pos (by decide)]
      rfl
    rw [e]
    rfl
  · have hne : (n == (0 : Int)) = false := beq_eq_false_iff_ne.2 h0
    rw [hne, cond_false, fmt_loop 19 N n _ (by omega) (by omega) ⟨h1, h2⟩ (by show (0 : Nat) + 19 ≤ 1000; omega)]
    have hl := decDigits_len 18 n.natAbs (by omega)
    have hdg : dg n.natAbs = Lib.decDigits n.natAbs := by unfold dg; rw [if_neg (by omega)]
    have hs : (⟨(dg n.natAbs).toArray⟩ ++ s_e : ByteArray) = ⟨(Lib.decDigits n.natAbs).toArray⟩ := by
      rw [hdg]
      show _ ++ (⟨([] : List UInt8).toArray⟩ : ByteArray) = _
      rw [appB, List.append_nil]
    rw [hs]
    by_cases hneg : n < 0
    · rw [decide_eq_true hneg, cond_true]
      have e1 : s_h2d = ⟨[(45 : UInt8)].toArray⟩ := rfl
      rw [e1, sizeL, sizeL, decide_eq_true (by simp only [List.length_cons, List.length_nil]; omega), cond_true, appB]
      unfold itoaB Lib.itoa
      rw [if_pos hneg]
      rfl
    · rw [decide_eq_false hneg, cond_false]
      unfold itoaB Lib.itoa
      rw [if_neg hneg]
      have : n.natAbs = n.toNat := by omega
      rw [this]
theorem impl_FormatInt_ok {N : Nat} {n : Int} {kf : ByteArray → Option Ret} (h : I64 n) : impl_FormatInt N n kf = kf (itoaB n) := by
  unfold impl_FormatInt strconv_Itoa
  rw [decide_eq_true h.1, decide_eq_true h.2]
  rfl
end Go.Pv.R
namespace Go.Pv.R
set_option linter.unusedVariables false
set_option linter.unusedSimpArgs false
theorem bext {a b : ByteArray} (h : a.data.toList = b.data.toList) : a = b := ByteArray.ext (Array.ext' h)
theorem data_app (a b : ByteArray) : (a ++ b).data.toList = a.data.toList ++ b.data.toList := by rw [ByteArray.data_append, Array.toList_append]
theorem size_app (a b : ByteArray) : (a ++ b).size = a.size + b.size := ByteArray.size_append
theorem i64_of {n : Int} (h : wf (.int .i64) n) : I64 n := by
  simp only [wf, Lit.wf, IntKind.min, IntKind.max, IntKind.signed, IntKind.bits, Bool.and_eq_true, decide_eq_true_eq, if_true] at h
  unfold I64
  omega
theorem i64_mem {l : List Int} (h : wf (.sl (.int .i64)) l) : ∀ x ∈ l, I64 x := fun x hx => i64_of (h.2 x hx)
end Go.Pv.R
namespace Go.Pv.R
set_option linter.unusedVariables false
set_option linter.unusedSimpArgs false
end Go.Pv.R
namespace Go.Pv.R
set_option linter.unusedVariables false
set_option linter.unusedSimpArgs false
/-- Texts, one behind the other. -/
def catB {α : Type} (f : α → ByteArray) (r : List α) : ByteArray := ⟨((r.map fun x => (f x).data.toList).flatten).toArray⟩
theorem app_loop {α : Type} {f : α → ByteArray} {body : Nat → α → ByteArray → (ByteArray → Option Ret) → Option Ret} {k : ByteArray → Option Ret} {m S0 : Nat} {l : List α} (hL : S0 + m * (l.length + 1) ≤ 9000000000000000000) (hm : ∀ x ∈ l, (f x).size ≤ m)
    (hb : ∀ (i : Nat) (x : α) (s : ByteArray) (next : ByteArray → Option Ret) (h : i < l.length), l[i] = x → s.size ≤ S0 + m * l.length → body i x s next = next (s ++ f x)) :
    ∀ (r : List α) (i : Nat) (s : ByteArray), l.drop i = r → s.size ≤ S0 + m * i → goL1 body k r i s = k (s ++ catB f r)
  | [], i, s, _, _ => by
    have : s ++ catB f [] = s := by apply bext; simp [data_app, catB]
    rw [this]; rfl
  | x :: r, i, s, hd, hs => by
    have hlt : i < l.length := by have := congrArg List.length hd; simp at this; omega
    rw [List.drop_eq_getElem_cons hlt] at hd
    injection hd with h1 h2
    have h3 : m * i ≤ m * l.length := Nat.mul_le_mul_left _ (by omega)
    have h4 := hm x (by rw [← h1]; exact List.getElem_mem hlt)
    simp only [goL1]
    rw [hb i x s _ hlt h1 (by omega), app_loop hL hm hb r (i + 1) _ h2 (by rw [size_app, Nat.mul_succ]; omega)]
    congr 1
    apply bext
    simp only [data_app, catB, List.map_cons, List.flatten_cons, List.append_assoc]
end Go.Pv.R
namespace Go.Pv.R
set_option linter.unusedVariables false
set_option linter.unusedSimpArgs false
abbrev Graph := QILLIE
theorem goL_allH {α : Type} {body : Nat → α → Option Ret → Option Ret} {kend kf : Option Ret} {p : Nat → α → Bool} {l : List α} (hb : ∀ (i : Nat) (x : α) (next : Option Ret) (h : i < l.length), l[i] = x → (∀ (j : Nat) (hj : j < l.length), j < i → p j l[j] = true) → body i x next = bif p i x then next else kf) :
    ∀ (r : List α) (i : Nat), l.drop i = r → (∀ (j : Nat) (hj : j < l.length), j < i → p j l[j] = true) → goL body kend r i = bif allI p r i then kend else kf
  | [], _, _, _ => rfl
  | x :: r, i, hd, hh => by
    have hlt : i < l.length := by have := congrArg List.length hd; simp at this; omega
    rw [List.drop_eq_getElem_cons hlt] at hd
    injection hd with h1 h2
    simp only [goL, allI]
    rw [hb i x _ hlt h1 hh]
    cases hp : p i x with
    | false => simp
    | true =>
      simp only [cond_true, Bool.true_and]
      refine goL_allH hb r (i + 1) h2 fun j hj hji => ?_
      by_cases e : j = i
      · subst e; rw [h1]; exact hp
      · exact hh j hj (by omega)
def ltP (a b : List Int) : Bool := decide (a.getD 0 0 < b.getD 0 0) || (decide (a.getD 0 0 = b.getD 0 0) && decide (a.getD 1 0 < b.getD 1 0))
def graphP (g : Graph) (i : Nat) (x : List Int) : Bool := decide (x.length = 2) && (inR (x.getD 0 0) 0 (IntKind.wrap .i64 (g.1 - 1)) && (inR (x.getD 1 0) 0 (IntKind.wrap .i64 (g.1 - 1)) && (decide (i = 0) || ltP (g.2.getD (i - 1) []) x)))
def isGraphM (g : Graph) : Bool := inR g.1 0 10 && allI (graphP g) g.2 0
theorem graphP_len {g : Graph} {i : Nat} {x : List Int} (h : graphP g i x = true) : x.length = 2 := by
  unfold graphP at h
  simp only [Bool.and_eq_true, decide_eq_true_eq] at h
  exact h.1
theorem two_of {x : List Int} (h : x.length = 2) : ∃ p q, x = [p, q] := by
  match x, h with
  | [p, q], _ => exact ⟨p, q, rfl⟩
theorem cmp_Compare_int_ok {N : Nat} {a b : Int} {kf : Int → Option Ret} : cmp_Compare_int N a b kf = kf (bif decide (a < b) then -1 else bif decide (a > b) then 1 else 0) := by
  unfold cmp_Compare_int cmp_isNaN_int
  simp only [bne_self_eq_false, cond_false]
  cases decide (a < b) <;> cases decide (a > b) <;> rfl
theorem slices_Compare_int_ok {N : Nat} {p q r s : Int} {kf : Int → Option Ret} (hN : 2 < N) (A B : Option Ret) (hk : ∀ n : Int, kf n = bif decide (n ≥ 0) then A else B) :
    slices_Compare_int N [p, q] [r, s] kf = bif ltP [p, q] [r, s] then B else A := by
  unfold slices_Compare_int
  rw [slices_Compare_int_l2_r (by simp [maxLen_eq]) (by simp; omega)]
  simp only [goL, cmp_Compare_int_ok]
  have e1 : inB ((0 : Nat) : Int) (List.length [r, s]) = true := rfl
  have e2 : inB ((0 + 1 : Nat) : Int) (List.length [r, s]) = true := rfl
  have e3 : decide (((0 : Nat) : Int) ≥ (List.length [r, s] : Int)) = false := rfl
  have e4 : decide (((0 + 1 : Nat) : Int) ≥ (List.length [r, s] : Int)) = false := rfl
  have e5 : decide ((List.length [p, q] : Int) < (List.length [r, s] : Int)) = false := rfl
  rw [e1, e2, e3, e4, e5]
  simp only [cond_true, cond_false]
  have g1 : List.getD [r, s] (Int.toNat ((0 : Nat) : Int)) 0 = r := rfl
  have g2 : List.getD [r, s] (Int.toNat ((0 + 1 : Nat) : Int)) 0 = s := rfl
  rw [g1, g2]
  have l1 : ltP [p, q] [r, s] = (decide (p < r) || (decide (p = r) && decide (q < s))) := rfl
  rw [l1]
  rcases Int.lt_trichotomy p r with h1 | h1 | h1
  · rw [decide_eq_true h1, cond_true, Bool.true_or, cond_true]
    show (bif true then kf (-1) else _) = _
    rw [cond_true, hk]
    rfl
  · subst h1
    rw [decide_eq_false (Int.lt_irrefl p), cond_false, cond_false, decide_eq_true (show p = p from rfl), Bool.false_or, Bool.true_and]
    show (bif false then _ else _) = _
    rw [cond_false]
    rcases Int.lt_trichotomy q s with h2 | h2 | h2
    · rw [decide_eq_true h2, cond_true, cond_true]
      show (bif true then kf (-1) else _) = _
      rw [cond_true, hk]
      rfl
    · subst h2
      rw [decide_eq_false (Int.lt_irrefl q), cond_false, cond_false, cond_false]
      show (bif false then _ else kf 0) = _
      rw [cond_false, hk]
      rfl
    · rw [decide_eq_false (show ¬ q < s by omega), decide_eq_true (show q > s from h2), cond_false, cond_true, cond_false]
      show (bif true then kf 1 else _) = _
      rw [cond_true, hk]
      rfl
  · rw [decide_eq_false (show ¬ p < r by omega), decide_eq_true (show p > r from h1), cond_false, cond_true, decide_eq_false (show ¬ p = r by omega), Bool.false_or, Bool.false_and, cond_false]
    show (bif true then kf 1 else _) = _
    rw [cond_true, hk]
    rfl
theorem len_ne2 {x : List Int} : ((List.length x : Int) != (2 : Int)) = !decide (x.length = 2) := by
  apply Bool.eq_iff_iff.2
  simp
  omega
theorem spec_IsGraph_ok {N : Nat} {g : Graph} {kf : Bool → Option Ret} (hl : g.2.length ≤ 1048576) (hN : g.2.length < N) : spec_IsGraph N g kf = kf (isGraphM g) := by
  have h0 := maxLen_eq
  unfold spec_IsGraph
  rw [spec_IsGraph_l2_r (by omega) hN, goL_allH (l := g.2) (p := graphP g) (kf := kf false) (fun i x next hi e hh => ?_) g.2 0 rfl (fun j hj h => by omega)]
  · rw [spec_l1In_ok]
    unfold isGraphM
    cases allI (graphP g) g.2 0 <;> simp
  · rw [len_ne2]
    unfold graphP
    by_cases h2 : x.length = 2
    rotate_left
    · rw [decide_eq_false h2]; rfl
    obtain ⟨p, q, rfl⟩ := two_of h2
    rw [decide_eq_true h2]
    simp only [Bool.not_true, cond_false, Bool.true_and, spec_l1In_ok]
    have b0 : inB (0 : Int) (List.length [p, q]) = true := rfl
    have b1 : inB (1 : Int) (List.length [p, q]) = true := rfl
    have v0 : List.getD [p, q] (Int.toNat (0 : Int)) (0 : Int) = p := rfl
    have v1 : List.getD [p, q] (Int.toNat (1 : Int)) (0 : Int) = q := rfl
    have w0 : List.getD [p, q] 0 (0 : Int) = p := rfl
    have w1 : List.getD [p, q] 1 (0 : Int) = q := rfl
    simp only [b0, b1, v0, v1, w0, w1, cond_true]
    cases inR p 0 (IntKind.wrap .i64 (g.1 - 1)) with
    | false => rfl
    | true =>
      simp only [Bool.not_true, cond_false, Bool.true_and]
      cases inR q 0 (IntKind.wrap .i64 (g.1 - 1)) with
      | false => rfl
      | true =>
        simp only [Bool.not_true, cond_false, Bool.true_and]
        by_cases hi0 : i = 0
        · subst hi0; rfl
        · rw [decide_eq_false hi0, Bool.false_or, decide_eq_true (show (i : Int) > 0 by omega), cond_true, wrap_pred (by omega) hi (by omega), inB_nat (by omega), cond_true, Int.toNat_natCast, getD_nat _ _ (show i - 1 < g.2.length by omega)]
          have hp := graphP_len (hh (i - 1) (by omega) (by omega))
          obtain ⟨r, s, hrs⟩ := two_of hp
          rw [hrs]
          have c0 : inB (0 : Int) (List.length [r, s]) = true := rfl
          have c1 : inB (1 : Int) (List.length [r, s]) = true := rfl
          have u0 : List.getD [r, s] (Int.toNat (0 : Int)) (0 : Int) = r := rfl
          have u1 : List.getD [r, s] (Int.toNat (1 : Int)) (0 : Int) = s := rfl
          simp only [c0, c1, u0, u1, cond_true]
          have l1 : ltP [r, s] [p, q] = (decide (r < p) || (decide (r = p) && decide (s < q))) := rfl
          rw [l1]
          rcases Int.lt_trichotomy r p with h1 | h1 | h1
          · rw [decide_eq_false (show ¬ r > p by omega), cond_false, beq_eq_false_iff_ne.2 (show r ≠ p by omega), cond_false, decide_eq_true h1]
            rfl
          · subst h1
            rw [decide_eq_false (show ¬ r > r from Int.lt_irrefl r), cond_false, beq_self_eq_true, cond_true, decide_eq_true (show r = r from rfl), Bool.false_or, Bool.true_and]
            by_cases h3 : s < q
            · rw [decide_eq_true h3, decide_eq_false (show ¬ s ≥ q by omega)]; rfl
            · rw [decide_eq_false h3, decide_eq_true (show s ≥ q by omega)]; rfl
          · rw [decide_eq_true (show r > p from h1), cond_true, decide_eq_false (show ¬ r < p by omega), decide_eq_false (show ¬ r = p by omega)]
            rfl
theorem impl_IsGraph_ok {N : Nat} {g : Graph} {kf : Bool → Option Ret} (hl : g.2.length ≤ 1048576) (hN : g.2.length + 2 < N) : impl_IsGraph N g kf = kf (isGraphM g) := by
  have h0 := maxLen_eq
  unfold impl_IsGraph
  rw [impl_InRange_ok]
  unfold isGraphM
  cases inR g.1 0 10 with
  | false => rfl
  | true =>
    simp only [Bool.not_true, cond_false, Bool.true_and]
    rw [impl_IsGraph_l4_r (by omega) (by omega), goL_allH (l := g.2) (p := graphP g) (kf := kf false) (fun i x next hi e hh => ?_) g.2 0 rfl (fun j hj h => by omega)]
    · cases allI (graphP g) g.2 0 <;> rfl
    · rw [len_ne2]
      unfold graphP
      by_cases h2 : x.length = 2
      rotate_left
      · rw [decide_eq_false h2]; rfl
      obtain ⟨p, q, rfl⟩ := two_of h2
      rw [decide_eq_true h2]
      simp only [Bool.not_true, cond_false, Bool.true_and, impl_isClaim, impl_InRange_ok]
      have b0 : inB (0 : Int) (List.length [p, q]) = true := rfl
      have b1 : inB (1 : Int) (List.length [p, q]) = true := rfl
      have v0 : List.getD [p, q] (Int.toNat (0 : Int)) (0 : Int) = p := rfl
      have v1 : List.getD [p, q] (Int.toNat (1 : Int)) (0 : Int) = q := rfl
      have w0 : List.getD [p, q] 0 (0 : Int) = p := rfl
      have w1 : List.getD [p, q] 1 (0 : Int) = q := rfl
      simp only [b0, b1, v0, v1, w0, w1, cond_true]
      cases inR p 0 (IntKind.wrap .i64 (g.1 - 1)) with
      | false => rfl
      | true =>
        simp only [Bool.not_true, cond_false, Bool.true_and]
        cases inR q 0 (IntKind.wrap .i64 (g.1 - 1)) with
        | false => rfl
        | true =>
          simp only [Bool.not_true, cond_false, Bool.true_and]
          by_cases hi0 : i = 0
          · subst hi0; rfl
          · rw [decide_eq_false hi0, Bool.false_or, decide_eq_true (show (i : Int) > 0 by omega), cond_true, wrap_pred (by omega) hi (by omega), inB_nat (by omega), cond_true, Int.toNat_natCast, getD_nat _ _ (show i - 1 < g.2.length by omega)]
            have hp := graphP_len (hh (i - 1) (by omega) (by omega))
            obtain ⟨r, s, hrs⟩ := two_of hp
            rw [hrs]
            exact slices_Compare_int_ok (by omega) (kf false) next (fun n => rfl)
noncomputable def attB (x : List Int) : ByteArray := ((s_h20 ++ itoaB (x.getD 0 0)) ++ s_h3e) ++ itoaB (x.getD 1 0)
noncomputable def graphM (g : Graph) : ByteArray := bif isGraphM g then itoaB g.1 ++ catB attB g.2 else s_e
structure Graph64 (g : Graph) : Prop where
  n : I64 g.1
  a : ∀ x ∈ g.2, ∀ y ∈ x, I64 y
  l : g.2.length ≤ 1048576
theorem attB_ok {g : Graph} (h : Graph64 g) (hg : isGraphM g = true) : ∀ x ∈ g.2, ∃ p q, x = [p, q] ∧ I64 p ∧ I64 q ∧ (attB x).size ≤ 42 := by
  intro x hx
  obtain ⟨j, hj, rfl⟩ := List.mem_iff_getElem.1 hx
  unfold isGraphM at hg
  simp only [Bool.and_eq_true] at hg
  have h1 := (allI_iff.1 hg.2) j hj
  obtain ⟨p, q, e⟩ := two_of (graphP_len h1)
  have hp := h.a _ hx p (by rw [e]; simp)
  have hq := h.a _ hx q (by rw [e]; simp)
  refine ⟨p, q, e, hp, hq, ?_⟩
  rw [e]
  have a1 := itoaB_size hp; have a2 := itoaB_size hq
  have c1 : s_h20.size = 1 := rfl; have c2 : s_h3e.size = 1 := rfl
  show ByteArray.size (((s_h20 ++ itoaB p) ++ s_h3e) ++ itoaB q) ≤ 42
  simp only [size_app]
  omega
theorem spec_GraphText_ok {N : Nat} {g : Graph} {kf : ByteArray → Option Ret} (h : Graph64 g) (hN : g.2.length + 22 < N) : spec_GraphText N g kf = kf (graphM g) := by
  have h0 := maxLen_eq
  have hl := h.l
  unfold spec_GraphText graphM
  rw [spec_IsGraph_ok hl (by omega)]
  cases hg : isGraphM g with
  | false => rfl
  | true =>
    have ha := attB_ok h hg
    have hn := itoaB_size h.n
    have hb1 : 42 * g.2.length ≤ 42 * 1048576 := Nat.mul_le_mul_left _ hl
    have c1 : s_h20.size = 1 := rfl; have c2 : s_h3e.size = 1 := rfl
    simp only [Bool.not_true, cond_false, cond_true]
    rw [spec_FormatInt_ok h.n (by omega), spec_GraphText_l5_r (by omega) (by omega), app_loop (f := attB) (m := 42) (S0 := 20) (l := g.2) (by omega) (fun x hx => by obtain ⟨_, _, _, _, _, q⟩ := ha x hx; exact q) (fun i x s next hi e hs => ?_) g.2 0 _ rfl (by omega)]
    obtain ⟨p, q, rfl, hp, hq, hsz⟩ := ha x (by rw [← e]; exact List.getElem_mem hi)
    have b0 : inB (0 : Int) (List.length [p, q]) = true := rfl
    have b1 : inB (1 : Int) (List.length [p, q]) = true := rfl
    have v0 : List.getD [p, q] (Int.toNat (0 : Int)) (0 : Int) = p := rfl
    have v1 : List.getD [p, q] (Int.toNat (1 : Int)) (0 : Int) = q := rfl
    have a1 := itoaB_size hp; have a2 := itoaB_size hq
    simp only [b0, b1, v0, v1, cond_true]
    rw [decide_eq_true (by omega), cond_true, spec_FormatInt_ok hp (by omega), decide_eq_true (by simp only [size_app]; omega), cond_true, decide_eq_true (by simp only [size_app]; omega), cond_true, spec_FormatInt_ok hq (by omega), decide_eq_true (by simp only [size_app]; omega), cond_true]
    congr 1
    show _ = s ++ (((s_h20 ++ itoaB p) ++ s_h3e) ++ itoaB q)
    simp only [ByteArray.append_assoc]
theorem impl_GraphText_ok {N : Nat} {g : Graph} {kf : ByteArray → Option Ret} (h : Graph64 g) (hN : g.2.length + 22 < N) : impl_GraphText N g kf = kf (graphM g) := by
  have h0 := maxLen_eq
  have hl := h.l
  unfold impl_GraphText graphM
  rw [impl_IsGraph_ok hl (by omega)]
  cases hg : isGraphM g with
  | false => rfl
  | true =>
    have ha := attB_ok h hg
    have hn := itoaB_size h.n
    have hb1 : 42 * g.2.length ≤ 42 * 1048576 := Nat.mul_le_mul_left _ hl
    have c1 : s_h20.size = 1 := rfl; have c2 : s_h3e.size = 1 := rfl
    simp only [Bool.not_true, cond_false, cond_true]
    rw [impl_FormatInt_ok h.n, impl_GraphText_l5_r (by omega) (by omega), app_loop (f := attB) (m := 42) (S0 := 20) (l := g.2) (by omega) (fun x hx => by obtain ⟨_, _, _, _, _, q⟩ := ha x hx; exact q) (fun i x s next hi e hs => ?_) g.2 0 _ rfl (by omega)]
    obtain ⟨p, q, rfl, hp, hq, hsz⟩ := ha x (by rw [← e]; exact List.getElem_mem hi)
    have b0 : inB (0 : Int) (List.length [p, q]) = true := rfl
    have b1 : inB (1 : Int) (List.length [p, q]) = true := rfl
    have v0 : List.getD [p, q] (Int.toNat (0 : Int)) (0 : Int) = p := rfl
    have v1 : List.getD [p, q] (Int.toNat (1 : Int)) (0 : Int) = q := rfl
    have a1 := itoaB_size hp; have a2 := itoaB_size hq
    simp only [b0, b1, v0, v1, cond_true]
    rw [impl_FormatInt_ok hp, decide_eq_true (by omega), cond_true, decide_eq_true (by simp only [size_app]; omega), cond_true, impl_FormatInt_ok hq, decide_eq_true (by simp only [size_app]; omega), cond_true, decide_eq_true (by simp only [size_app]; omega), cond_true]
    rfl
theorem lawFnExactGraphText (g : Graph) (h : wfs [tQILLIE] (g, ())) : ∃ N, ∀ kf, laws_FnExactGraphText N g kf = kf true := by
  refine ⟨2 * sizeV tQILLIE g + 100, fun kf => ?_⟩
  have hw : wf tQILLIE g := h.1
  have hs := sizeV_len (t := .sl (.int .i64)) g.2
  have hs2 : sizeV tQILLIE g = sizeV (.sl (.sl (.int .i64))) g.2 := by simp [sizeV]
  unfold laws_FnExactGraphText
  rw [laws_szGraph_ok hw (by omega) (by omega) (by omega)]
  refine small_or (by omega) fun hb => ?_
  have hq : Graph64 g := ⟨i64_of hw.1, fun x hx => i64_mem (hw.2.2 x hx), by omega⟩
  generalize hN : 2 * sizeV tQILLIE g + 100 = N at *
  have h1 : ∀ k, laws_toGraph N g k = k g := fun k => laws_toGraph_ok (by omega) (by omega)
  have h2 : ∀ k, spec_GraphText N g k = k (graphM g) := fun k => spec_GraphText_ok hq (by omega)
  have h3 : ∀ k, impl_GraphText N g k = k (graphM g) := fun k => impl_GraphText_ok hq (by omega)
  have h4 : ∀ k, laws_eqGraph N g g k = k true := fun k => laws_eqGraph_ok (by omega) (by omega)
  simp only [h1, h2, h3, h4, beq_self_eq_true, Bool.not_true, cond_false]
end Go.Pv.R
namespace Go.Pv.R
set_option linter.unusedVariables false
set_option linter.unusedSimpArgs false
end Go.Pv.R
namespace Go.Pv.R
set_option linter.unusedVariables false
set_option linter.unusedSimpArgs false
end Go.Pv.R
namespace Go.Pv.R
set_option linter.unusedVariables false
set_option linter.unusedSimpArgs false
end Go.Pv.R
