/- The law over the plain functions. -/
import Derived.Test.YthdoldaaodmeeaaDoorPlHz
namespace Go.Pv.R
set_option linter.unusedVariables false
set_option linter.unusedSimpArgs false
def countB (k : Int) (i : Nat) (x : QIIIIE) (s : Int) : Int := bif x.1 == k then IntKind.wrap .i64 (s + 1) else s
end Go.Pv.R
namespace Go.Pv.R
set_option linter.unusedVariables false
set_option linter.unusedSimpArgs false
theorem spec_l1In_ok {N : Nat} {a b c : Int} {kf : Bool → Option Ret} : spec_l1In N a b c kf = kf (inR a b c) := by
  unfold spec_l1In inR
  by_cases h : b ≤ a <;> simp [h]
theorem impl_InRange_ok {N : Nat} {a b c : Int} {kf : Bool → Option Ret} : impl_InRange N a b c kf = kf (inR a b c) := by
  unfold impl_InRange inR
  by_cases h : b ≤ a <;> simp [h]
end Go.Pv.R
namespace Go.Pv.R
set_option linter.unusedVariables false
set_option linter.unusedSimpArgs false
end Go.Pv.R
namespace Go.Pv
set_option linter.unusedVariables false
set_option linter.unusedSimpArgs false
theorem wrap_pred {i m : Nat} (h0 : 0 < i) (h : i < m) (hm : m ≤ maxLen) : IntKind.wrap .i64 ((i : Int) - 1) = ((i - 1 : Nat) : Int) := by
  have := maxLen_eq
  rw [wrap64] <;> omega
end Go.Pv
namespace Go.Pv.R
set_option linter.unusedVariables false
set_option linter.unusedSimpArgs false
abbrev Team := QIIIIILIE
abbrev Team.met (x : Team) : List Int := x.2.2.2.2.2
end Go.Pv.R
namespace Go.Pv
set_option linter.unusedVariables false
set_option linter.unusedSimpArgs false
end Go.Pv
namespace Go.Pv.R
set_option linter.unusedVariables false
set_option linter.unusedSimpArgs false
abbrev Judge := QIILIE
end Go.Pv.R
namespace Go.Pv.R
set_option linter.unusedVariables false
set_option linter.unusedSimpArgs false
end Go.Pv.R
namespace Go.Pv.R
set_option linter.unusedVariables false
set_option linter.unusedSimpArgs false
abbrev Club := QLQIIIIILIELQIILIELQIIELILQIIIELQIIIIEIE
/-- A club that is small enough, and rounds enough. -/
structure ClubOK (c : Club) (N : Nat) : Prop where
  tl : c.1.length ≤ maxLen
  tm : ∀ x : Team, x ∈ c.1 → x.met.length ≤ maxLen ∧ x.met.length < N
  tN : c.1.length < N
  jl : c.2.1.length ≤ maxLen
  jm : ∀ x ∈ c.2.1, x.2.2.length ≤ maxLen ∧ x.2.2.length < N
  jN : c.2.1.length < N
  rl : c.2.2.1.length ≤ 1048576
  rN : 2 * c.2.2.1.length < N
  sl : c.2.2.2.1.length ≤ 1048576
  sN : c.2.2.2.1.length < N
  bl : c.2.2.2.2.1.length ≤ 1048576
  bN : c.2.2.2.2.1.length < N
  ml : c.2.2.2.2.2.1.length ≤ 1048576
  mN : c.2.2.2.2.2.1.length < N
  n8 : 8 < N
  tb : c.1.length ≤ 1048700
  tmb : ∀ x : Team, x ∈ c.1 → x.met.length ≤ 1048700
  jb : c.2.1.length ≤ 1048700
  jmb : ∀ x : Judge, x ∈ c.2.1 → x.2.2.length ≤ 1048700
theorem sizeV_club (c : Club) : sizeV tQLQIIIIILIELQIILIELQIIELILQIIIELQIIIIEIE c = sizeV (.sl tQIIIIILIE) c.1 + (sizeV (.sl tQIILIE) c.2.1 + (sizeV (.sl tQIIE) c.2.2.1 + (sizeV (.sl (.int .i64)) c.2.2.2.1 + (sizeV (.sl tQIIIE) c.2.2.2.2.1 + sizeV (.sl tQIIIIE) c.2.2.2.2.2.1)))) := rfl
theorem inR_iff {a b c : Int} : inR a b c = true ↔ b ≤ a ∧ a ≤ c := by unfold inR; simp
end Go.Pv.R
namespace Go.Pv
set_option linter.unusedVariables false
set_option linter.unusedSimpArgs false
end Go.Pv
namespace Go.Pv.R
set_option linter.unusedVariables false
set_option linter.unusedSimpArgs false
end Go.Pv.R
namespace Go.Pv.R
set_option linter.unusedVariables false
set_option linter.unusedSimpArgs false
end Go.Pv.R
namespace Go.Pv.R
set_option linter.unusedVariables false
set_option linter.unusedSimpArgs false
end Go.Pv.R
namespace Go.Pv
set_option linter.unusedVariables false
set_option linter.unusedSimpArgs false
abbrev Asc (l : List Int) : Prop := l.Pairwise (· < ·)
end Go.Pv
namespace Go.Pv.R
set_option linter.unusedVariables false
set_option linter.unusedSimpArgs false
end Go.Pv.R
namespace Go.Pv.R
set_option linter.unusedVariables false
set_option linter.unusedSimpArgs false
end Go.Pv.R
namespace Go.Pv.R
set_option linter.unusedVariables false
set_option linter.unusedSimpArgs false
end Go.Pv.R
namespace Go.Pv.R
set_option linter.unusedVariables false
set_option linter.unusedSimpArgs false
end Go.Pv.R
namespace Go.Pv.R
set_option linter.unusedVariables false
set_option linter.unusedSimpArgs false
theorem appB (a b : List UInt8) : (⟨a.toArray⟩ ++ ⟨b.toArray⟩ : ByteArray) = ⟨(a ++ b).toArray⟩ := by
  apply ByteArray.ext
  rw [ByteArray.data_append]
  simp
theorem nilB (b : ByteArray) : (⟨#[]⟩ : ByteArray) ++ b = b := by
  apply ByteArray.ext
  rw [ByteArray.data_append]
  simp
theorem sizeL (l : List UInt8) : ByteArray.size ⟨l.toArray⟩ = l.length := by simp [ByteArray.size]
/-- The digits of what is left; none of nothing. -/
def dg (u : Nat) : List UInt8 := if u = 0 then [] else Lib.decDigits u
theorem dg_step {u : Nat} (h : u ≠ 0) : dg u = dg (u / 10) ++ [UInt8.ofNat (48 + u % 10)] := by
  unfold dg
  rw [if_neg h]
  rw [Lib.decDigits]
  by_cases h1 : u < 10
  · rw [dif_pos h1, if_pos (by omega), Nat.mod_eq_of_lt h1]
    rfl
  · rw [dif_neg h1, if_neg (by omega)]
theorem decDigits_len : ∀ (m u : Nat), u < 10 ^ (m + 1) → (Lib.decDigits u).length ≤ m + 1 := by
  intro m
  induction m with
  | zero =>
    intro u hu
    rw [Lib.decDigits, dif_pos (by omega)]
    simp
  | succ m ih =>
    intro u hu
    rw [Lib.decDigits]
    by_cases h1 : u < 10
    · rw [dif_pos h1]; simp
    · rw [dif_neg h1]
      have := ih (u / 10) (by rw [Nat.pow_succ] at hu; omega)
      simp only [List.length_append, List.length_cons, List.length_nil]
      omega
def I64 (n : Int) : Prop := -9223372036854775808 ≤ n ∧ n ≤ 9223372036854775807
theorem itoaB_size {n : Int} (h : I64 n) : (itoaB n).size ≤ 20 := by
  unfold itoaB
  rw [sizeL]
  unfold Lib.itoa
  obtain ⟨h1, h2⟩ := h
  split
  · have := decDigits_len 18 n.natAbs (by omega)
    simp only [List.length_cons]
    omega
  · have := decDigits_len 18 n.toNat (by omega)
    omega
theorem digit_eq {d : Nat} (h : d < 10) : bytesOf [IntKind.wrap .u8 (IntKind.wrap .i64 ((48 : Int) + (d : Int)))] = ⟨[UInt8.ofNat (48 + d)].toArray⟩ := by
  have h1 : IntKind.wrap .i64 ((48 : Int) + (d : Int)) = 48 + (d : Int) := wrap64 (by omega) (by omega)
  have h2 : IntKind.wrap .u8 ((48 : Int) + (d : Int)) = 48 + (d : Int) := by
    have hd : d = 0 ∨ d = 1 ∨ d = 2 ∨ d = 3 ∨ d = 4 ∨ d = 5 ∨ d = 6 ∨ d = 7 ∨ d = 8 ∨ d = 9 := by omega
    rcases hd with rfl | rfl | rfl | rfl | rfl | rfl | rfl | rfl | rfl | rfl <;> rfl
  rw [h1, h2]
  have h3 : ((48 : Int) + (d : Int)).toNat = 48 + d := by omega
  simp only [bytesOf, List.foldl_cons, List.foldl_nil, h3]
  apply ByteArray.ext
  rw [ByteArray.data_push]
  rfl
theorem ten_both (x : Int) : (0 ≤ x ∧ Int.tdiv x 10 = x / 10 ∧ Int.tmod x 10 = x % 10) ∨ (x < 0 ∧ Int.tdiv x 10 = -((-x) / 10) ∧ Int.tmod x 10 = -((-x) % 10)) := by
  by_cases h : 0 ≤ x
  · exact .inl ⟨h, Int.tdiv_eq_ediv_of_nonneg h, Int.tmod_eq_emod_of_nonneg h⟩
  · refine .inr ⟨by omega, ?_, ?_⟩
    · have h1 := Int.neg_tdiv (-x) 10
      rw [Int.neg_neg] at h1
      rw [h1, Int.tdiv_eq_ediv_of_nonneg (by omega)]
    · have h1 := Int.neg_tmod (-x) 10
      rw [Int.neg_neg] at h1
      rw [h1, Int.tmod_eq_emod_of_nonneg (by omega)]
theorem fmt_loop {x0 : Int} {k : ByteArray → Option Ret} : ∀ (m n : Nat) (x : Int) (acc : ByteArray), x.natAbs < 10 ^ m → m < n → I64 x → acc.size + m ≤ 1000 → spec_FormatInt_l5 x0 n k acc x = k (⟨(dg x.natAbs).toArray⟩ ++ acc) := by
  intro m
  induction m with
  | zero =>
    intro n x acc hx hn hr hs
    obtain ⟨n, rfl⟩ : ∃ n', n = n' + 1 := ⟨n - 1, by omega⟩
    have : x = 0 := by omega
    subst this
    simp only [spec_FormatInt_l5, bne_self_eq_false, cond_false]
    show k acc = k (⟨#[]⟩ ++ acc)
    rw [nilB]
  | succ m ih =>
    intro n x acc hx hn hr hs
    obtain ⟨n, rfl⟩ : ∃ n', n = n' + 1 := ⟨n - 1, by omega⟩
    by_cases h0 : x = 0
    · subst h0
      simp only [spec_FormatInt_l5, bne_self_eq_false, cond_false]
      show k acc = k (⟨#[]⟩ ++ acc)
      rw [nilB]
    · have hne : (x != (0 : Int)) = true := by simpa using h0
      obtain ⟨hr1, hr2⟩ := hr
      have hu : x.natAbs ≠ 0 := by omega
      have hd : x.natAbs % 10 < 10 := by omega
      have hq : (Int.tdiv x 10).natAbs = x.natAbs / 10 := by
        rw [Int.natAbs_tdiv]
        rfl
      have ht := Int.mul_tdiv_add_tmod x 10
      have hb : -9223372036854775808 ≤ Int.tdiv x 10 ∧ Int.tdiv x 10 ≤ 9223372036854775807 := by omega
      have hj : spec_FormatInt_j1 (spec_FormatInt_l5 x0 n k) acc x ((x.natAbs % 10 : Nat) : Int) = k (⟨(dg x.natAbs).toArray⟩ ++ acc) := by
        unfold spec_FormatInt_j1
        rw [digit_eq hd, sizeL, decide_eq_true (by simp only [List.length_cons, List.length_nil]; omega), cond_true, wrap64 (by omega) (by omega), ih n _ _ (by rw [hq, Nat.pow_succ] at *; omega) (by omega) hb (by rw [ByteArray.size_append, sizeL]; simp only [List.length_cons, List.length_nil]; omega), hq, ← ByteArray.append_assoc, appB (dg (x.natAbs / 10)) [UInt8.ofNat (48 + x.natAbs % 10)], ← dg_step hu]
      simp only [spec_FormatInt_l5, hne, cond_true]
      by_cases hneg : Int.tmod x 10 < 0
      · rw [decide_eq_true hneg, cond_true]
        have e : IntKind.wrap .i64 (0 - Int.tmod x 10) = ((x.natAbs % 10 : Nat) : Int) := by
          rcases ten_both x with ⟨q1, q2, q3⟩ | ⟨q1, q2, q3⟩
          · omega
          · rw [q3, wrap64 (by omega) (by omega)]
            omega
        rw [e]
        exact hj
      · rw [decide_eq_false hneg, cond_false]
        have e : Int.tmod x 10 = ((x.natAbs % 10 : Nat) : Int) := by
          rcases ten_both x with ⟨q1, q2, q3⟩ | ⟨q1, q2, q3⟩ <;> omega
        rw [e]
        exact hj
theorem spec_FormatInt_ok {N : Nat} {n : Int} {kf : ByteArray → Option Ret} (h : I64 n) (hN : 20 < N) : spec_FormatInt N n kf = kf (itoaB n) := by
  unfold spec_FormatInt
  obtain ⟨h1, h2⟩ := h
  by_cases h0 : n = 0
  · subst h0
    have e : itoaB 0 = s_0 := by
      unfold itoaB Lib.itoa
      rw [if_neg (by decide), Lib.decDigits, dif_pos (by decide)]
      rfl
    rw [e]
    rfl
  · have hne : (n == (0 : Int)) = false := beq_eq_false_iff_ne.2 h0
    rw [hne, cond_false, fmt_loop 19 N n _ (by omega) (by omega) ⟨h1, h2⟩ (by show (0 : Nat) + 19 ≤ 1000; omega)]
    have hl := decDigits_len 18 n.natAbs (by omega)
    have hdg : dg n.natAbs = Lib.decDigits n.natAbs := by unfold dg; rw [if_neg (by omega)]
    have hs : (⟨(dg n.natAbs).toArray⟩ ++ s_e : ByteArray) = ⟨(Lib.decDigits n.natAbs).toArray⟩ := by
      rw [hdg]
      show _ ++ (⟨([] : List UInt8).toArray⟩ : ByteArray) = _
      rw [appB, List.append_nil]
    rw [hs]
    by_cases hneg : n < 0
    · rw [decide_eq_true hneg, cond_true]
      have e1 : s_h2d = ⟨[(45 : UInt8)].toArray⟩ := rfl
      rw [e1, sizeL, sizeL, decide_eq_true (by simp only [List.length_cons, List.length_nil]; omega), cond_true, appB]
      unfold itoaB Lib.itoa
      rw [if_pos hneg]
      rfl
    · rw [decide_eq_false hneg, cond_false]
      unfold itoaB Lib.itoa
      rw [if_neg hneg]
      have : n.natAbs = n.toNat := by omega
      rw [this]
theorem impl_FormatInt_ok {N : Nat} {n : Int} {kf : ByteArray → Option Ret} (h : I64 n) : impl_FormatInt N n kf = kf (itoaB n) := by
  unfold impl_FormatInt strconv_Itoa
  rw [decide_eq_true h.1, decide_eq_true h.2]
  rfl
end Go.Pv.R
namespace Go.Pv.R
set_option linter.unusedVariables false
set_option linter.unusedSimpArgs false
theorem bext {a b : ByteArray} (h : a.data.toList = b.data.toList) : a = b := ByteArray.ext (Array.ext' h)
theorem data_app (a b : ByteArray) : (a ++ b).data.toList = a.data.toList ++ b.data.toList := by rw [ByteArray.data_append, Array.toList_append]
theorem size_app (a b : ByteArray) : (a ++ b).size = a.size + b.size := ByteArray.size_append
end Go.Pv.R
namespace Go.Pv.R
set_option linter.unusedVariables false
set_option linter.unusedSimpArgs false
end Go.Pv.R
namespace Go.Pv.R
set_option linter.unusedVariables false
set_option linter.unusedSimpArgs false
/-- Texts, one behind the other. -/
def catB {α : Type} (f : α → ByteArray) (r : List α) : ByteArray := ⟨((r.map fun x => (f x).data.toList).flatten).toArray⟩
theorem app_loop {α : Type} {f : α → ByteArray} {body : Nat → α → ByteArray → (ByteArray → Option Ret) → Option Ret} {k : ByteArray → Option Ret} {m S0 : Nat} {l : List α} (hL : S0 + m * (l.length + 1) ≤ 9000000000000000000) (hm : ∀ x ∈ l, (f x).size ≤ m)
    (hb : ∀ (i : Nat) (x : α) (s : ByteArray) (next : ByteArray → Option Ret) (h : i < l.length), l[i] = x → s.size ≤ S0 + m * l.length → body i x s next = next (s ++ f x)) :
    ∀ (r : List α) (i : Nat) (s : ByteArray), l.drop i = r → s.size ≤ S0 + m * i → goL1 body k r i s = k (s ++ catB f r)
  | [], i, s, _, _ => by
    have : s ++ catB f [] = s := by apply bext; simp [data_app, catB]
    rw [this]; rfl
  | x :: r, i, s, hd, hs => by
    have hlt : i < l.length := by have := congrArg List.length hd; simp at this; omega
    rw [List.drop_eq_getElem_cons hlt] at hd
    injection hd with h1 h2
    have h3 : m * i ≤ m * l.length := Nat.mul_le_mul_left _ (by omega)
    have h4 := hm x (by rw [← h1]; exact List.getElem_mem hlt)
    simp only [goL1]
    rw [hb i x s _ hlt h1 (by omega), app_loop hL hm hb r (i + 1) _ h2 (by rw [size_app, Nat.mul_succ]; omega)]
    congr 1
    apply bext
    simp only [data_app, catB, List.map_cons, List.flatten_cons, List.append_assoc]
end Go.Pv.R
namespace Go.Pv.R
set_option linter.unusedVariables false
set_option linter.unusedSimpArgs false
abbrev Graph := QILLIE
theorem goL_allH {α : Type} {body : Nat → α → Option Ret → Option Ret} {kend kf : Option Ret} {p : Nat → α → Bool} {l : List α} (hb : ∀ (i : Nat) (x : α) (next : Option Ret) (h : i < l.length), l[i] = x → (∀ (j : Nat) (hj : j < l.length), j < i → p j l[j] = true) → body i x next = bif p i x then next else kf) :
    ∀ (r : List α) (i : Nat), l.drop i = r → (∀ (j : Nat) (hj : j < l.length), j < i → p j l[j] = true) → goL body kend r i = bif allI p r i then kend else kf
  | [], _, _, _ => rfl
  | x :: r, i, hd, hh => by
    have hlt : i < l.length := by have := congrArg List.length hd; simp at this; omega
    rw [List.drop_eq_getElem_cons hlt] at hd
    injection hd with h1 h2
    simp only [goL, allI]
    rw [hb i x _ hlt h1 hh]
    cases hp : p i x with
    | false => simp
    | true =>
      simp only [cond_true, Bool.true_and]
      refine goL_allH hb r (i + 1) h2 fun j hj hji => ?_
      by_cases e : j = i
      · subst e; rw [h1]; exact hp
      · exact hh j hj (by omega)
def ltP (a b : List Int) : Bool := decide (a.getD 0 0 < b.getD 0 0) || (decide (a.getD 0 0 = b.getD 0 0) && decide (a.getD 1 0 < b.getD 1 0))
def graphP (g : Graph) (i : Nat) (x : List Int) : Bool := decide (x.length = 2) && (inR (x.getD 0 0) 0 (IntKind.wrap .i64 (g.1 - 1)) && (inR (x.getD 1 0) 0 (IntKind.wrap .i64 (g.1 - 1)) && (decide (i = 0) || ltP (g.2.getD (i - 1) []) x)))
def isGraphM (g : Graph) : Bool := inR g.1 0 10 && allI (graphP g) g.2 0
theorem graphP_len {g : Graph} {i : Nat} {x : List Int} (h : graphP g i x = true) : x.length = 2 := by
  unfold graphP at h
  simp only [Bool.and_eq_true, decide_eq_true_eq] at h
  exact h.1
theorem two_of {x : List Int} (h : x.length = 2) : ∃ p q, x = [p, q] := by
  match x, h with
  | [p, q], _ => exact ⟨p, q, rfl⟩
theorem cmp_Compare_int_ok {N : Nat} {a b : Int} {kf : Int → Option Ret} : cmp_Compare_int N a b kf = kf (bif decide (a < b) then -1 else bif decide (a > b) then 1 else 0) := by
  unfold cmp_Compare_int cmp_isNaN_int
  simp only [bne_self_eq_false, cond_false]
  cases decide (a < b) <;> cases decide (a > b) <;> rfl
theorem slices_Compare_int_ok {N : Nat} {p q r s : Int} {kf : Int → Option Ret} (hN : 2 < N) (A B : Option Ret) (hk : ∀ n : Int, kf n = bif decide (n ≥ 0) then A else B) :
    slices_Compare_int N [p, q] [r, s] kf = bif ltP [p, q] [r, s] then B else A := by
  unfold slices_Compare_int
  rw [slices_Compare_int_l2_r (by simp [maxLen_eq]) (by simp; omega)]
  simp only [goL, cmp_Compare_int_ok]
  have e1 : inB ((0 : Nat) : Int) (List.length [r, s]) = true := rfl
  have e2 : inB ((0 + 1 : Nat) : Int) (List.length [r, s]) = true := rfl
  have e3 : decide (((0 : Nat) : Int) ≥ (List.length [r, s] : Int)) = false := rfl
  have e4 : decide (((0 + 1 : Nat) : Int) ≥ (List.length [r, s] : Int)) = false := rfl
  have e5 : decide ((List.length [p, q] : Int) < (List.length [r, s] : Int)) = false := rfl
  rw [e1, e2, e3, e4, e5]
  simp only [cond_true, cond_false]
  have g1 : List.getD [r, s] (Int.toNat ((0 : Nat) : Int)) 0 = r := rfl
  have g2 : List.getD [r, s] (Int.toNat ((0 + 1 : Nat) : Int)) 0 = s := rfl
  rw [g1, g2]
  have l1 : ltP [p, q] [r, s] = (decide (p < r) || (decide (p = r) && decide (q < s))) := rfl
  rw [l1]
  rcases Int.lt_trichotomy p r with h1 | h1 | h1
  · rw [decide_eq_true h1, cond_true, Bool.true_or, cond_true]
    show (bif true then kf (-1) else _) = _
    rw [cond_true, hk]
    rfl
  · subst h1
    rw [decide_eq_false (Int.lt_irrefl p), cond_false, cond_false, decide_eq_true (show p = p from rfl), Bool.false_or, Bool.true_and]
    show (bif false then _ else _) = _
    rw [cond_false]
    rcases Int.lt_trichotomy q s with h2 | h2 | h2
    · rw [decide_eq_true h2, cond_true, cond_true]
      show (bif true then kf (-1) else _) = _
      rw [cond_true, hk]
      rfl
    · subst h2
      rw [decide_eq_false (Int.lt_irrefl q), cond_false, cond_false, cond_false]
      show (bif false then _ else kf 0) = _
      rw [cond_false, hk]
      rfl
    · rw [decide_eq_false (show ¬ q < s by omega), decide_eq_true (show q > s from h2), cond_false, cond_true, cond_false]
      show (bif true then kf 1 else _) = _
      rw [cond_true, hk]
      rfl
  · rw [decide_eq_false (show ¬ p < r by omega), decide_eq_true (show p > r from h1), cond_false, cond_true, decide_eq_false (show ¬ p = r by omega), Bool.false_or, Bool.false_and, cond_false]
    show (bif true then kf 1 else _) = _
    rw [cond_true, hk]
    rfl
theorem len_ne2 {x : List Int} : ((List.length x : Int) != (2 : Int)) = !decide (x.length = 2) := by
  apply Bool.eq_iff_iff.2
  simp
  omega
theorem spec_IsGraph_ok {N : Nat} {g : Graph} {kf : Bool → Option Ret} (hl : g.2.length ≤ 1048576) (hN : g.2.length < N) : spec_IsGraph N g kf = kf (isGraphM g) := by
  have h0 := maxLen_eq
  unfold spec_IsGraph
  rw [spec_IsGraph_l2_r (by omega) hN, goL_allH (l := g.2) (p := graphP g) (kf := kf false) (fun i x next hi e hh => ?_) g.2 0 rfl (fun j hj h => by omega)]
  · rw [spec_l1In_ok]
    unfold isGraphM
    cases allI (graphP g) g.2 0 <;> simp
  · rw [len_ne2]
    unfold graphP
    by_cases h2 : x.length = 2
    rotate_left
    · rw [decide_eq_false h2]; rfl
    obtain ⟨p, q, rfl⟩ := two_of h2
    rw [decide_eq_true h2]
    simp only [Bool.not_true, cond_false, Bool.true_and, spec_l1In_ok]
    have b0 : inB (0 : Int) (List.length [p, q]) = true := rfl
    have b1 : inB (1 : Int) (List.length [p, q]) = true := rfl
    have v0 : List.getD [p, q] (Int.toNat (0 : Int)) (0 : Int) = p := rfl
    have v1 : List.getD [p, q] (Int.toNat (1 : Int)) (0 : Int) = q := rfl
    have w0 : List.getD [p, q] 0 (0 : Int) = p := rfl
    have w1 : List.getD [p, q] 1 (0 : Int) = q := rfl
    simp only [b0, b1, v0, v1, w0, w1, cond_true]
    cases inR p 0 (IntKind.wrap .i64 (g.1 - 1)) with
    | false => rfl
    | true =>
      simp only [Bool.not_true, cond_false, Bool.true_and]
      cases inR q 0 (IntKind.wrap .i64 (g.1 - 1)) with
      | false => rfl
      | true =>
        simp only [Bool.not_true, cond_false, Bool.true_and]
        by_cases hi0 : i = 0
        · subst hi0; rfl
        · rw [decide_eq_false hi0, Bool.false_or, decide_eq_true (show (i : Int) > 0 by omega), cond_true, wrap_pred (by omega) hi (by omega), inB_nat (by omega), cond_true, Int.toNat_natCast, getD_nat _ _ (show i - 1 < g.2.length by omega)]
          have hp := graphP_len (hh (i - 1) (by omega) (by omega))
          obtain ⟨r, s, hrs⟩ := two_of hp
          rw [hrs]
          have c0 : inB (0 : Int) (List.length [r, s]) = true := rfl
          have c1 : inB (1 : Int) (List.length [r, s]) = true := rfl
          have u0 : List.getD [r, s] (Int.toNat (0 : Int)) (0 : Int) = r := rfl
          have u1 : List.getD [r, s] (Int.toNat (1 : Int)) (0 : Int) = s := rfl
          simp only [c0, c1, u0, u1, cond_true]
          have l1 : ltP [r, s] [p, q] = (decide (r < p) || (decide (r = p) && decide (s < q))) := rfl
          rw [l1]
          rcases Int.lt_trichotomy r p with h1 | h1 | h1
          · rw [decide_eq_false (show ¬ r > p by omega), cond_false, beq_eq_false_iff_ne.2 (show r ≠ p by omega), cond_false, decide_eq_true h1]
            rfl
          · subst h1
            rw [decide_eq_false (show ¬ r > r from Int.lt_irrefl r), cond_false, beq_self_eq_true, cond_true, decide_eq_true (show r = r from rfl), Bool.false_or, Bool.true_and]
            by_cases h3 : s < q
            · rw [decide_eq_true h3, decide_eq_false (show ¬ s ≥ q by omega)]; rfl
            · rw [decide_eq_false h3, decide_eq_true (show s ≥ q by omega)]; rfl
          · rw [decide_eq_true (show r > p from h1), cond_true, decide_eq_false (show ¬ r < p by omega), decide_eq_false (show ¬ r = p by omega)]
            rfl
theorem impl_IsGraph_ok {N : Nat} {g : Graph} {kf : Bool → Option Ret} (hl : g.2.length ≤ 1048576) (hN : g.2.length + 2 < N) : impl_IsGraph N g kf = kf (isGraphM g) := by
  have h0 := maxLen_eq
  unfold impl_IsGraph
  rw [impl_InRange_ok]
  unfold isGraphM
  cases inR g.1 0 10 with
  | false => rfl
  | true =>
    simp only [Bool.not_true, cond_false, Bool.true_and]
    rw [impl_IsGraph_l4_r (by omega) (by omega), goL_allH (l := g.2) (p := graphP g) (kf := kf false) (fun i x next hi e hh => ?_) g.2 0 rfl (fun j hj h => by omega)]
    · cases allI (graphP g) g.2 0 <;> rfl
    · rw [len_ne2]
      unfold graphP
      by_cases h2 : x.length = 2
      rotate_left
      · rw [decide_eq_false h2]; rfl
      obtain ⟨p, q, rfl⟩ := two_of h2
      rw [decide_eq_true h2]
      simp only [Bool.not_true, cond_false, Bool.true_and, impl_isClaim, impl_InRange_ok]
      have b0 : inB (0 : Int) (List.length [p, q]) = true := rfl
      have b1 : inB (1 : Int) (List.length [p, q]) = true := rfl
      have v0 : List.getD [p, q] (Int.toNat (0 : Int)) (0 : Int) = p := rfl
      have v1 : List.getD [p, q] (Int.toNat (1 : Int)) (0 : Int) = q := rfl
      have w0 : List.getD [p, q] 0 (0 : Int) = p := rfl
      have w1 : List.getD [p, q] 1 (0 : Int) = q := rfl
      simp only [b0, b1, v0, v1, w0, w1, cond_true]
      cases inR p 0 (IntKind.wrap .i64 (g.1 - 1)) with
      | false => rfl
      | true =>
        simp only [Bool.not_true, cond_false, Bool.true_and]
        cases inR q 0 (IntKind.wrap .i64 (g.1 - 1)) with
        | false => rfl
        | true =>
          simp only [Bool.not_true, cond_false, Bool.true_and]
          by_cases hi0 : i = 0
          · subst hi0; rfl
          · rw [decide_eq_false hi0, Bool.false_or, decide_eq_true (show (i : Int) > 0 by omega), cond_true, wrap_pred (by omega) hi (by omega), inB_nat (by omega), cond_true, Int.toNat_natCast, getD_nat _ _ (show i - 1 < g.2.length by omega)]
            have hp := graphP_len (hh (i - 1) (by omega) (by omega))
            obtain ⟨r, s, hrs⟩ := two_of hp
            rw [hrs]
            exact slices_Compare_int_ok (by omega) (kf false) next (fun n => rfl)
noncomputable def attB (x : List Int) : ByteArray := ((s_h20 ++ itoaB (x.getD 0 0)) ++ s_h3e) ++ itoaB (x.getD 1 0)
noncomputable def graphM (g : Graph) : ByteArray := bif isGraphM g then itoaB g.1 ++ catB attB g.2 else s_e
structure Graph64 (g : Graph) : Prop where
  n : I64 g.1
  a : ∀ x ∈ g.2, ∀ y ∈ x, I64 y
  l : g.2.length ≤ 1048576
theorem attB_ok {g : Graph} (h : Graph64 g) (hg : isGraphM g = true) : ∀ x ∈ g.2, ∃ p q, x = [p, q] ∧ I64 p ∧ I64 q ∧ (attB x).size ≤ 42 := by
  intro x hx
  obtain ⟨j, hj, rfl⟩ := List.mem_iff_getElem.1 hx
  unfold isGraphM at hg
  simp only [Bool.and_eq_true] at hg
  have h1 := (allI_iff.1 hg.2) j hj
  obtain ⟨p, q, e⟩ := two_of (graphP_len h1)
  have hp := h.a _ hx p (by rw [e]; simp)
  have hq := h.a _ hx q (by rw [e]; simp)
  refine ⟨p, q, e, hp, hq, ?_⟩
  rw [e]
  have a1 := itoaB_size hp; have a2 := itoaB_size hq
  have c1 : s_h20.size = 1 := rfl; have c2 : s_h3e.size = 1 := rfl
  show ByteArray.size (((s_h20 ++ itoaB p) ++ s_h3e) ++ itoaB q) ≤ 42
  simp only [size_app]
  omega
theorem spec_GraphText_ok {N : Nat} {g : Graph} {kf : ByteArray → Option Ret} (h : Graph64 g) (hN : g.2.length + 22 < N) : spec_GraphText N g kf = kf (graphM g) := by
  have h0 := maxLen_eq
  have hl := h.l
  unfold spec_GraphText graphM
  rw [spec_IsGraph_ok hl (by omega)]
  cases hg : isGraphM g with
  | false => rfl
  | true =>
    have ha := attB_ok h hg
    have hn := itoaB_size h.n
    have hb1 : 42 * g.2.length ≤ 42 * 1048576 := Nat.mul_le_mul_left _ hl
    have c1 : s_h20.size = 1 := rfl; have c2 : s_h3e.size = 1 := rfl
    simp only [Bool.not_true, cond_false, cond_true]
    rw [spec_FormatInt_ok h.n (by omega), spec_GraphText_l5_r (by omega) (by omega), app_loop (f := attB) (m := 42) (S0 := 20) (l := g.2) (by omega) (fun x hx => by obtain ⟨_, _, _, _, _, q⟩ := ha x hx; exact q) (fun i x s next hi e hs => ?_) g.2 0 _ rfl (by omega)]
    obtain ⟨p, q, rfl, hp, hq, hsz⟩ := ha x (by rw [← e]; exact List.getElem_mem hi)
    have b0 : inB (0 : Int) (List.length [p, q]) = true := rfl
    have b1 : inB (1 : Int) (List.length [p, q]) = true := rfl
    have v0 : List.getD [p, q] (Int.toNat (0 : Int)) (0 : Int) = p := rfl
    have v1 : List.getD [p, q] (Int.toNat (1 : Int)) (0 : Int) = q := rfl
    have a1 := itoaB_size hp; have a2 := itoaB_size hq
    simp only [b0, b1, v0, v1, cond_true]
    rw [decide_eq_true (by omega), cond_true, spec_FormatInt_ok hp (by omega), decide_eq_true (by simp only [size_app]; omega), cond_true, decide_eq_true (by simp only [size_app]; omega), cond_true, spec_FormatInt_ok hq (by omega), decide_eq_true (by simp only [size_app]; omega), cond_true]
    congr 1
    show _ = s ++ (((s_h20 ++ itoaB p) ++ s_h3e) ++ itoaB q)
    simp only [ByteArray.append_assoc]
theorem impl_GraphText_ok {N : Nat} {g : Graph} {kf : ByteArray → Option Ret} (h : Graph64 g) (hN : g.2.length + 22 < N) : impl_GraphText N g kf = kf (graphM g) := by
  have h0 := maxLen_eq
  have hl := h.l
  unfold impl_GraphText graphM
  rw [impl_IsGraph_ok hl (by omega)]
  cases hg : isGraphM g with
  | false => rfl
  | true =>
    have ha := attB_ok h hg
    have hn := itoaB_size h.n
    have hb1 : 42 * g.2.length ≤ 42 * 1048576 := Nat.mul_le_mul_left _ hl
    have c1 : s_h20.size = 1 := rfl; have c2 : s_h3e.size = 1 := rfl
    simp only [Bool.not_true, cond_false, cond_true]
    rw [impl_FormatInt_ok h.n, impl_GraphText_l5_r (by omega) (by omega), app_loop (f := attB) (m := 42) (S0 := 20) (l := g.2) (by omega) (fun x hx => by obtain ⟨_, _, _, _, _, q⟩ := ha x hx; exact q) (fun i x s next hi e hs => ?_) g.2 0 _ rfl (by omega)]
    obtain ⟨p, q, rfl, hp, hq, hsz⟩ := ha x (by rw [← e]; exact List.getElem_mem hi)
    have b0 : inB (0 : Int) (List.length [p, q]) = true := rfl
    have b1 : inB (1 : Int) (List.length [p, q]) = true := rfl
    have v0 : List.getD [p, q] (Int.toNat (0 : Int)) (0 : Int) = p := rfl
    have v1 : List.getD [p, q] (Int.toNat (1 : Int)) (0 : Int) = q := rfl
    have a1 := itoaB_size hp; have a2 := itoaB_size hq
    simp only [b0, b1, v0, v1, cond_true]
    rw [impl_FormatInt_ok hp, decide_eq_true (by omega), cond_true, decide_eq_true (by simp only [size_app]; omega), cond_true, impl_FormatInt_ok hq, decide_eq_true (by simp only [size_app]; omega), cond_true, decide_eq_true (by simp only [size_app]; omega), cond_true]
    rfl
end Go.Pv.R
namespace Go.Pv.R
set_option linter.unusedVariables false
set_option linter.unusedSimpArgs false
def packB (l : List UInt8) : ByteArray := ⟨l.toArray⟩
theorem pack_data (b : ByteArray) : packB b.data.toList = b := bext (by simp [packB])
theorem data_pack (l : List UInt8) : (packB l).data.toList = l := by simp [packB]
def spl (c : UInt8) : List UInt8 → List (List UInt8)
  | [] => [[]]
  | b :: r => bif b == c then [] :: spl c r else (match spl c r with
    | [] => [[b]]
    | w :: ws => (b :: w) :: ws)
theorem spl_ne (c : UInt8) : ∀ l, spl c l ≠ []
  | [] => by simp [spl]
  | b :: r => by
    simp only [spl]
    cases b == c with
    | true => simp
    | false =>
      cases spl c r with
      | nil => simp
      | cons w ws => simp
theorem spl_cons (c : UInt8) (l : List UInt8) : ∃ w ws, spl c l = w :: ws := by
  cases h : spl c l with
  | nil => exact absurd h (spl_ne c l)
  | cons w ws => exact ⟨w, ws, rfl⟩
theorem spl_len (c : UInt8) : ∀ l, (spl c l).length ≤ l.length + 1
  | [] => by simp [spl]
  | b :: r => by
    have ih := spl_len c r
    simp only [spl]
    cases b == c with
    | true => simp only [cond_true, List.length_cons]; omega
    | false =>
      obtain ⟨w, ws, e⟩ := spl_cons c r
      rw [e] at ih ⊢
      simp only [cond_false, List.length_cons] at ih ⊢
      omega
theorem splitK_spl (c : UInt8) : ∀ l : List UInt8, Lib.splitK [c] 0 (l.count c) l = spl c l
  | [] => rfl
  | b :: l => by
    have ih := splitK_spl c l
    by_cases hb : b = c
    · subst hb
      have e1 : (b :: l).count b = l.count b + 1 := by simp
      have e2 : Lib.index (b :: l) [b] = 0 := by rw [Lib.index_one]; unfold Lib.indexByte; simp
      rw [e1]
      unfold Lib.splitK
      rw [e2, if_neg (by decide)]
      simp only [spl, beq_self_eq_true, cond_true]
      rw [← ih]
      rfl
    · have hbc : (b == c) = false := beq_eq_false_iff_ne.2 hb
      have e1 : (b :: l).count c = l.count c := List.count_cons_of_ne (by simpa using hb)
      rw [e1]
      simp only [spl, hbc, cond_false]
      rw [← ih]
      cases hk : l.count c with
      | zero => rfl
      | succ k =>
        have hm : c ∈ l := List.count_pos_iff.1 (by omega)
        have hge := Lib.indexByte_ge l c
        have hne : Lib.indexByte l c ≠ -1 := by
          intro hx
          have : ∀ (l : List UInt8), c ∈ l → Lib.indexByte l c ≠ -1 := by
            intro l
            induction l with
            | nil => intro h; cases h
            | cons d l ih =>
              intro h
              unfold Lib.indexByte
              by_cases hd : d = c
              · subst hd; simp
              · rw [if_neg (by simpa using hd)]
                have h1 := ih (by rcases List.mem_cons.1 h with h | h; exact absurd h.symm hd; exact h)
                have h2 := Lib.indexByte_ge l c
                rw [if_neg (by simpa using h1)]
                omega
          exact this l hm hx
        have e2 : Lib.index (b :: l) [c] = Lib.indexByte l c + 1 := by
          rw [Lib.index_one]
          show (if b == c then (0 : Int) else if Lib.indexByte l c == -1 then -1 else Lib.indexByte l c + 1) = _
          rw [if_neg (by simpa using hb), if_neg (by simpa using hne)]
        unfold Lib.splitK
        rw [e2, Lib.index_one, if_neg (by simp; omega), if_neg (by simpa using hne)]
        have e3 : (Lib.indexByte l c + 1).toNat = (Lib.indexByte l c).toNat + 1 := by omega
        rw [e3]
        rfl
theorem splitL_ok (s : ByteArray) (c : UInt8) : splitL s ⟨#[c]⟩ = (spl c s.data.toList).map packB := by
  have h1 := Lib.splitB_data ⟨#[c]⟩ 0 (Lib.countB s ⟨#[c]⟩) s
  have h2 : Lib.countB s ⟨#[c]⟩ = s.data.toList.count c := by
    show Lib.count s.data.toList [c] = _
    rw [Lib.count_one]
  rw [h2] at h1
  have h3 : Lib.splitK (⟨#[c]⟩ : ByteArray).data.toList 0 (s.data.toList.count c) s.data.toList = spl c s.data.toList := splitK_spl c _
  rw [h3] at h1
  unfold splitL
  rw [h2, ← h1, List.map_map]
  have : (packB ∘ fun b : ByteArray => b.data.toList) = id := funext fun b => pack_data b
  rw [this, List.map_id]
theorem bt_at {s : ByteArray} {i : Nat} (h : i < s.size) (h' : i < s.data.toList.length) : bt s (i : Int) = ((s.data.toList[i]).toNat : Int) := by
  unfold bt
  rw [dif_pos (by simpa using h)]
  simp only [Int.toNat_natCast]
  congr 2
theorem extract_pack (s : ByteArray) (a b : Nat) : ByteArray.extract s a b = packB ((s.data.toList.drop a).take (b - a)) := by
  apply bext
  rw [data_pack, Lib.extract_data]
def glue (p : List UInt8) : List (List UInt8) → List ByteArray
  | [] => []
  | w :: ws => packB (p ++ w) :: ws.map packB
theorem split_loop {s : ByteArray} {c : UInt8} {k : List ByteArray → Option Ret} (hs : s.size ≤ 2000000) : ∀ (r : List UInt8) (i a fuel : Nat) (acc : List ByteArray), s.data.toList.drop i = r → a ≤ i → i ≤ s.size → r.length + 1 < fuel → acc.length ≤ i →
    spec_l32Split_l4 s (c.toNat : Int) fuel k acc (a : Int) (i : Int) = k (acc ++ glue ((s.data.toList.drop a).take (i - a)) (spl c r))
  | [], i, a, fuel, acc, hd, ha, hi, hf, hacc => by
    have hsz : s.data.toList.length = s.size := (Lib.size_eq s).symm
    have hin : i = s.size := by have := congrArg List.length hd; simp only [List.length_drop, List.length_nil] at this; omega
    obtain ⟨f, rfl⟩ : ∃ f, fuel = f + 2 := ⟨fuel - 2, by simp only [List.length_nil] at hf; omega⟩
    simp only [spec_l32Split_l4]
    have d1 : (decide ((0 : Int) ≤ (a : Int)) && decide ((a : Int) ≤ (i : Int)) && true) = true := by simp only [Bool.and_eq_true, decide_eq_true_eq, and_true]; omega
    have e1 : ((i : Int) == (ByteArray.size s : Int)) = true := by rw [hin]; simp
    have hw : IntKind.wrap .i64 ((i : Int) + (1 : Int)) = (i : Int) + 1 := wrap64 (by omega) (by omega)
    rw [decide_eq_true (show (i : Int) ≤ (ByteArray.size s : Int) by omega), cond_true, e1, cond_true, d1, cond_true, decide_eq_true (by simp only [List.length_cons, List.length_nil]; omega), cond_true, hw, decide_eq_false (by omega), cond_false, Int.toNat_natCast, Int.toNat_natCast, extract_pack]
    simp only [spl, glue, List.append_nil, List.map_nil]
  | b :: r, i, a, fuel, acc, hd, ha, hi, hf, hacc => by
    have hsz : s.data.toList.length = s.size := (Lib.size_eq s).symm
    have hlt : i < s.data.toList.length := by have := congrArg List.length hd; simp only [List.length_drop, List.length_cons] at this; omega
    rw [List.drop_eq_getElem_cons hlt] at hd
    injection hd with hb hd
    obtain ⟨f, rfl⟩ : ∃ f, fuel = f + 1 := ⟨fuel - 1, by omega⟩
    simp only [List.length_cons] at hf
    have d1 : (decide ((0 : Int) ≤ (a : Int)) && decide ((a : Int) ≤ (i : Int)) && true) = true := by simp only [Bool.and_eq_true, decide_eq_true_eq, and_true]; omega
    have e1 : ((i : Int) == (ByteArray.size s : Int)) = false := beq_eq_false_iff_ne.2 (by omega)
    have hw : IntKind.wrap .i64 ((i : Int) + (1 : Int)) = ((i + 1 : Nat) : Int) := by rw [wrap64 (by omega) (by omega)]; omega
    have hbt : bt s (i : Int) = (b.toNat : Int) := by rw [bt_at (by omega) hlt, hb]
    have hbc : ((b.toNat : Int) == (c.toNat : Int)) = (b == c) := by
      apply Bool.eq_iff_iff.2
      rw [beq_iff_eq, beq_iff_eq]
      constructor
      · intro h; exact UInt8.toNat_inj.1 (by omega)
      · rintro rfl; rfl
    simp only [spec_l32Split_l4]
    rw [decide_eq_true (show (i : Int) ≤ (ByteArray.size s : Int) by omega), cond_true, e1, cond_false, inB_nat (by omega), cond_true, hbt, hbc]
    simp only [spl]
    cases hx : b == c with
    | true =>
      rw [cond_true, cond_true, d1, cond_true, decide_eq_true (by simp only [List.length_cons, List.length_nil]; omega), cond_true, hw, split_loop hs r (i + 1) (i + 1) f _ hd (Nat.le_refl _) (by omega) (by omega) (by simp only [List.length_append, List.length_cons, List.length_nil]; omega), Int.toNat_natCast, Int.toNat_natCast, extract_pack, Nat.sub_self, List.take_zero]
      obtain ⟨w, ws, e⟩ := spl_cons c r
      rw [e]
      simp only [glue, List.append_nil, List.nil_append, List.append_assoc, List.cons_append, List.map_cons]
    | false =>
      rw [cond_false, cond_false, hw, split_loop hs r (i + 1) a f acc hd (by omega) (by omega) (by omega) (by omega)]
      obtain ⟨w, ws, e⟩ := spl_cons c r
      rw [e]
      have e2 : (s.data.toList.drop a).take (i + 1 - a) = (s.data.toList.drop a).take (i - a) ++ [b] := by
        have h3 : i + 1 - a = (i - a) + 1 := by omega
        rw [h3, List.take_add_one, List.getElem?_drop]
        have h4 : a + (i - a) = i := by omega
        rw [h4, List.getElem?_eq_getElem hlt, hb]
        rfl
      simp only [glue]
      rw [e2, List.append_assoc]
      rfl
theorem spec_l32Split_ok {N : Nat} {s : ByteArray} {c : UInt8} {kf : List ByteArray → Option Ret} (hs : s.size ≤ 2000000) (hN : s.size + 2 < N) : spec_l32Split N s (c.toNat : Int) kf = kf ((spl c s.data.toList).map packB) := by
  have hsz : s.data.toList.length = s.size := (Lib.size_eq s).symm
  unfold spec_l32Split
  have := split_loop (c := c) (k := kf) hs s.data.toList 0 0 N [] rfl (Nat.le_refl _) (Nat.zero_le _) (by omega) (by simp)
  rw [show ((0 : Nat) : Int) = (0 : Int) from rfl] at this
  rw [this]
  obtain ⟨w, ws, e⟩ := spl_cons c s.data.toList
  rw [e]
  simp [glue]
end Go.Pv.R
namespace Go.Pv.R
set_option linter.unusedVariables false
set_option linter.unusedSimpArgs false
def isDig (b : UInt8) : Bool := decide (48 ≤ b.toNat) && decide (b.toNat ≤ 57)
def val (l : List UInt8) (v : Nat) : Nat := l.foldl (fun v b => 10 * v + (b.toNat - 48)) v
def okI (l : List UInt8) : Bool := decide (1 ≤ l.length) && (decide (l.length ≤ 13) && (l.all isDig && (decide (val l 0 ≤ 1000000000000) && (decide (l.length = 1) || !(l.headD 0 == 48)))))
def numI (l : List UInt8) : Int := bif okI l then (val l 0 : Int) else 0
theorem isDig_iff {b : UInt8} : isDig b = true ↔ 48 ≤ b.toNat ∧ b.toNat ≤ 57 := by unfold isDig; simp
theorem dig_back {b : UInt8} (h : isDig b = true) : UInt8.ofNat (48 + (b.toNat - 48)) = b := by
  obtain ⟨h1, h2⟩ := isDig_iff.1 h
  have : 48 + (b.toNat - 48) = b.toNat := by omega
  rw [this]
  exact UInt8.ofNat_toNat
theorem val_snoc (l : List UInt8) (b : UInt8) (v : Nat) : val (l ++ [b]) v = 10 * val l v + (b.toNat - 48) := by
  unfold val
  rw [List.foldl_append]
  rfl
theorem val_ge (l : List UInt8) (v : Nat) : v ≤ val l v := by
  unfold val
  induction l generalizing v with
  | nil => exact Nat.le_refl _
  | cons b l ih =>
    simp only [List.foldl_cons]
    have := ih (10 * v + (b.toNat - 48))
    omega
theorem val_pos {b : UInt8} {l : List UInt8} (hb : isDig b = true) (h : b ≠ 48) : 1 ≤ val (b :: l) 0 := by
  obtain ⟨h1, h2⟩ := isDig_iff.1 hb
  have h3 : b.toNat ≠ 48 := fun e => h (UInt8.toNat_inj.1 (by rw [e]; rfl))
  have h4 := val_ge l (10 * 0 + (b.toNat - 48))
  show 1 ≤ val l (10 * 0 + (b.toNat - 48))
  omega
theorem decDigits_val : ∀ (n : Nat) (l : List UInt8), l.length = n → l.all isDig = true → l ≠ [] → (l.length = 1 ∨ l.headD 0 ≠ 48) → Lib.decDigits (val l 0) = l := by
  intro n
  induction n with
  | zero => intro l hl _ hne; exact absurd (List.eq_nil_of_length_eq_zero hl) hne
  | succ n ih =>
    intro l hl hd hne hh
    obtain ⟨l', b, rfl⟩ : ∃ l' b, l = l' ++ [b] := ⟨l.dropLast, l.getLast hne, (List.dropLast_concat_getLast hne).symm⟩
    rw [List.all_append, Bool.and_eq_true] at hd
    have hb : isDig b = true := by simpa using hd.2
    obtain ⟨b1, b2⟩ := isDig_iff.1 hb
    rw [val_snoc]
    cases hl' : l' with
    | nil =>
      show Lib.decDigits (10 * 0 + (b.toNat - 48)) = [b]
      rw [Lib.decDigits, dif_pos (by omega)]
      have : 48 + (10 * 0 + (b.toNat - 48)) = 48 + (b.toNat - 48) := by omega
      rw [this, dig_back hb]
    | cons a r =>
      have hlen : (l' ++ [b]).length ≠ 1 := by rw [hl']; simp
      have hh2 : l'.headD 0 ≠ 48 := by
        rcases hh with hh | hh
        · exact absurd hh hlen
        · rw [hl'] at hh ⊢; simpa using hh
      have ha : isDig a = true := by have := hd.1; rw [hl'] at this; simp at this; exact this.1
      have hv : 1 ≤ val l' 0 := by rw [hl']; exact val_pos ha (by rw [hl'] at hh2; simpa using hh2)
      have e := ih l' (by rw [List.length_append, List.length_cons, List.length_nil] at hl; omega) hd.1 (by rw [hl']; simp) (.inr hh2)
      rw [← hl', Lib.decDigits, dif_neg (by omega)]
      have e1 : (10 * val l' 0 + (b.toNat - 48)) / 10 = val l' 0 := by omega
      have e2 : 48 + (10 * val l' 0 + (b.toNat - 48)) % 10 = 48 + (b.toNat - 48) := by omega
      rw [e1, e2, e, dig_back hb]
theorem decDigits_ne (u : Nat) : Lib.decDigits u ≠ [] := by
  rw [Lib.decDigits]
  split <;> simp
theorem decDigits_head : ∀ (n u : Nat), u < n → 0 < u → ∀ r, Lib.decDigits u ≠ 48 :: r := by
  intro n
  induction n with
  | zero => intro u h; omega
  | succ n ih =>
    intro u hu h0 r he
    rw [Lib.decDigits] at he
    by_cases h1 : u < 10
    · rw [dif_pos h1] at he
      injection he with he _
      have := congrArg UInt8.toNat he
      have h2 : (UInt8.ofNat (48 + u)).toNat = 48 + u := by rw [UInt8.toNat_ofNat']; omega
      rw [h2] at this
      have h3 : (48 : UInt8).toNat = 48 := rfl
      omega
    · rw [dif_neg h1] at he
      cases hd : Lib.decDigits (u / 10) with
      | nil => exact decDigits_ne _ hd
      | cons a r' =>
        rw [hd] at he
        injection he with he _
        subst he
        exact ih (u / 10) (by omega) (by omega) r' hd
theorem digits_same {l : List UInt8} (hd : l.all isDig = true) (hne : 1 ≤ l.length) : (itoaB (val l 0 : Int) = packB l) ↔ (decide (l.length = 1) || !(l.headD 0 == 48)) = true := by
  have e1 : itoaB (val l 0 : Int) = packB (Lib.decDigits (val l 0)) := by
    unfold itoaB Lib.itoa
    rw [if_neg (by omega), Int.toNat_natCast]
    rfl
  rw [e1]
  have hnil : l ≠ [] := fun e => by rw [e] at hne; simp at hne
  constructor
  · intro h
    have h1 : Lib.decDigits (val l 0) = l := by
      have := congrArg (fun b : ByteArray => b.data.toList) h
      simpa [packB] using this
    rw [Bool.or_eq_true, decide_eq_true_eq]
    by_cases hl : l.length = 1
    · exact .inl hl
    · refine .inr ?_
      cases hl2 : l with
      | nil => exact absurd hl2 hnil
      | cons a r =>
        cases ha : a == 48 with
        | false => show (!(a == 48)) = true; rw [ha]; rfl
        | true =>
          have ha := beq_iff_eq.1 ha
          subst ha
          by_cases hv : val l 0 = 0
          · rw [hv, Lib.decDigits, dif_pos (by decide)] at h1
            rw [← h1] at hl
            exact absurd rfl hl
          · exact absurd (h1.trans hl2) (decDigits_head _ _ (Nat.lt_succ_self _) (by omega) r)
  · intro h
    rw [Bool.or_eq_true, decide_eq_true_eq] at h
    rw [decDigits_val l.length l rfl hd hnil (h.imp id fun h => by simpa using h)]
theorem dig_step {b : UInt8} {v : Nat} (hv : v ≤ 10000000000000) : IntKind.wrap .i64 ((IntKind.wrap .i64 ((10 : Int) * (v : Int))) + (IntKind.wrap .i64 (IntKind.wrap .u8 ((b.toNat : Int) - (48 : Int))))) = ((10 * v + (b.toNat - 48) : Nat) : Int) ∨ isDig b = false := by
  cases hb : isDig b with
  | false => exact .inr rfl
  | true =>
    obtain ⟨h1, h2⟩ := isDig_iff.1 hb
    refine .inl ?_
    have e1 : IntKind.wrap .u8 ((b.toNat : Int) - (48 : Int)) = ((b.toNat - 48 : Nat) : Int) := by
      obtain ⟨d, hd⟩ : ∃ d, d = b.toNat - 48 := ⟨_, rfl⟩
      have hd2 : (b.toNat : Int) - 48 = (d : Int) := by omega
      rw [hd2, ← hd]
      have hd3 : d = 0 ∨ d = 1 ∨ d = 2 ∨ d = 3 ∨ d = 4 ∨ d = 5 ∨ d = 6 ∨ d = 7 ∨ d = 8 ∨ d = 9 := by omega
      rcases hd3 with rfl | rfl | rfl | rfl | rfl | rfl | rfl | rfl | rfl | rfl <;> rfl
    rw [e1, wrap64 (n := (10 : Int) * (v : Int)) (by omega) (by omega), wrap64 (n := ((b.toNat - 48 : Nat) : Int)) (by omega) (by omega), wrap64 (by omega) (by omega)]
    omega
theorem int_loop_spec {N : Nat} {s : ByteArray} {k : Int → Option Ret} {kf : Int → Bool → Option Ret} (hs : s.size ≤ 13) : ∀ (r : List UInt8) (i fuel v : Nat), s.data.toList.drop i = r → v < 10 ^ i → r.length < fuel →
    spec_ParseInt_l5 N s fuel k kf (v : Int) (i : Int) = bif r.all isDig then k (val r v : Int) else kf 0 false
  | [], i, fuel, v, hd, hv, hf => by
    have hsz : s.data.toList.length = s.size := (Lib.size_eq s).symm
    have hin : s.size ≤ i := by have := congrArg List.length hd; simp only [List.length_drop, List.length_nil] at this; omega
    obtain ⟨f, rfl⟩ : ∃ f, fuel = f + 1 := ⟨fuel - 1, by simp only [List.length_nil] at hf; omega⟩
    simp only [spec_ParseInt_l5]
    rw [decide_eq_false (by omega)]
    rfl
  | b :: r, i, fuel, v, hd, hv, hf => by
    have hsz : s.data.toList.length = s.size := (Lib.size_eq s).symm
    have hlt : i < s.data.toList.length := by have := congrArg List.length hd; simp only [List.length_drop, List.length_cons] at this; omega
    rw [List.drop_eq_getElem_cons hlt] at hd
    injection hd with hb hd
    obtain ⟨f, rfl⟩ : ∃ f, fuel = f + 1 := ⟨fuel - 1, by omega⟩
    simp only [List.length_cons] at hf
    have hbt : bt s (i : Int) = (b.toNat : Int) := by rw [bt_at (by omega) hlt, hb]
    have hb8 := b.toNat_lt
    have h13 : 10 ^ i ≤ 10 ^ 12 := Nat.pow_le_pow_right (by omega) (by omega)
    simp only [spec_ParseInt_l5, spec_l1In_ok]
    rw [decide_eq_true (by omega), cond_true, inB_nat (by omega), cond_true, hbt, wrap64 (n := (b.toNat : Int)) (by omega) (by omega)]
    have hr : inR (b.toNat : Int) 48 57 = isDig b := by
      apply Bool.eq_iff_iff.2
      rw [inR_iff, isDig_iff]
      omega
    rw [hr, List.all_cons]
    cases hdig : isDig b with
    | false => rfl
    | true =>
      rcases dig_step (b := b) (v := v) (by omega) with e | e
      rotate_left
      · rw [hdig] at e; cases e
      have hw : IntKind.wrap .i64 ((i : Int) + (1 : Int)) = ((i + 1 : Nat) : Int) := by rw [wrap64 (by omega) (by omega)]; omega
      obtain ⟨h1, h2⟩ := isDig_iff.1 hdig
      simp only [Bool.not_true, cond_false, Bool.true_and]
      rw [cond_true, e, hw, int_loop_spec hs r (i + 1) f _ hd (by rw [Nat.pow_succ]; omega) (by omega)]
      rfl
theorem spec_ParseInt_ok {N : Nat} {s : ByteArray} {kf : Int → Bool → Option Ret} (hN : 40 < N) : spec_ParseInt N s kf = kf (numI s.data.toList) (okI s.data.toList) := by
  have hsz : s.data.toList.length = s.size := (Lib.size_eq s).symm
  unfold spec_ParseInt numI okI
  rw [spec_l1In_ok]
  by_cases h1 : 1 ≤ s.data.toList.length
  rotate_left
  · have e : inR (ByteArray.size s : Int) 1 13 = false := by
      cases hx : inR (ByteArray.size s : Int) 1 13 with
      | false => rfl
      | true => rw [inR_iff] at hx; omega
    rw [e, decide_eq_false h1]
    rfl
  by_cases h2 : s.data.toList.length ≤ 13
  rotate_left
  · have e : inR (ByteArray.size s : Int) 1 13 = false := by
      cases hx : inR (ByteArray.size s : Int) 1 13 with
      | false => rfl
      | true => rw [inR_iff] at hx; omega
    rw [e, decide_eq_false h2, Bool.false_and, Bool.and_false]
    rfl
  have e : inR (ByteArray.size s : Int) 1 13 = true := inR_iff.2 ⟨by omega, by omega⟩
  rw [e, decide_eq_true h1, decide_eq_true h2]
  simp only [Bool.not_true, cond_false, Bool.true_and]
  have hl := int_loop_spec (N := N) (kf := kf) (k := fun z4_10 => bif decide (z4_10 > (1000000000000 : Int)) then kf 0 false else spec_FormatInt N z4_10 fun r34_13 => bif !(ByteArray.toList r34_13 == ByteArray.toList s) then kf 0 false else kf z4_10 true) (s := s) (by omega) s.data.toList 0 N 0 rfl (by simp) (by omega)
  refine hl.trans ?_
  cases hd : s.data.toList.all isDig with
  | false => rfl
  | true =>
    simp only [cond_true, Bool.true_and]
    by_cases hv : val s.data.toList 0 ≤ 1000000000000
    rotate_left
    · rw [decide_eq_true (by omega), decide_eq_false hv]; rfl
    · rw [decide_eq_false (by omega), cond_false, decide_eq_true hv, spec_FormatInt_ok ⟨by omega, by omega⟩ (by omega), Bool.true_and]
      have hsame := digits_same hd h1
      rw [pack_data] at hsame
      have hb : (ByteArray.toList (itoaB (val s.data.toList 0 : Int)) == ByteArray.toList s) = (decide (s.data.toList.length = 1) || !(s.data.toList.headD 0 == 48)) := by
        apply Bool.eq_iff_iff.2
        rw [beq_iff_eq, ← hsame, Lib.toList_data, Lib.toList_data]
        exact ⟨fun h => bext h, fun h => by rw [h]⟩
      rw [hb]
      cases (decide (s.data.toList.length = 1) || !(s.data.toList.headD 0 == 48)) <;> rfl
theorem int_loop_impl {s : ByteArray} {k : Int → Option Ret} {kf : Int → Bool → Option Ret} (hs : s.size ≤ 13) : ∀ (r : List UInt8) (i fuel v : Nat), s.data.toList.drop i = r → v < 10 ^ i → r.length < fuel →
    impl_ParseInt_l5 s (ByteArray.size s : Int) fuel k kf (v : Int) (i : Int) = bif r.all isDig then k (val r v : Int) else kf 0 false
  | [], i, fuel, v, hd, hv, hf => by
    have hsz : s.data.toList.length = s.size := (Lib.size_eq s).symm
    have hin : s.size ≤ i := by have := congrArg List.length hd; simp only [List.length_drop, List.length_nil] at this; omega
    obtain ⟨f, rfl⟩ : ∃ f, fuel = f + 1 := ⟨fuel - 1, by simp only [List.length_nil] at hf; omega⟩
    simp only [impl_ParseInt_l5]
    rw [decide_eq_false (by omega)]
    rfl
  | b :: r, i, fuel, v, hd, hv, hf => by
    have hsz : s.data.toList.length = s.size := (Lib.size_eq s).symm
    have hlt : i < s.data.toList.length := by have := congrArg List.length hd; simp only [List.length_drop, List.length_cons] at this; omega
    rw [List.drop_eq_getElem_cons hlt] at hd
    injection hd with hb hd
    obtain ⟨f, rfl⟩ : ∃ f, fuel = f + 1 := ⟨fuel - 1, by omega⟩
    simp only [List.length_cons] at hf
    have hbt : bt s (i : Int) = (b.toNat : Int) := by rw [bt_at (by omega) hlt, hb]
    have hb8 := b.toNat_lt
    have h13 : 10 ^ i ≤ 10 ^ 12 := Nat.pow_le_pow_right (by omega) (by omega)
    simp only [impl_ParseInt_l5]
    rw [decide_eq_true (show (i : Int) < (ByteArray.size s : Int) by omega), inB_nat (by omega), hbt]
    simp only [cond_true]
    rw [List.all_cons]
    cases hdig : isDig b with
    | false =>
      have : ¬ (48 ≤ b.toNat ∧ b.toNat ≤ 57) := fun h => by rw [isDig_iff.2 h] at hdig; cases hdig
      by_cases h1 : (b.toNat : Int) < 48
      · rw [decide_eq_true h1]; rfl
      · rw [decide_eq_false h1, cond_false, decide_eq_true (show (b.toNat : Int) > 57 by omega)]; rfl
    | true =>
      rcases dig_step (b := b) (v := v) (by omega) with e | e
      rotate_left
      · rw [hdig] at e; cases e
      have hw : IntKind.wrap .i64 ((i : Int) + (1 : Int)) = ((i + 1 : Nat) : Int) := by rw [wrap64 (by omega) (by omega)]; omega
      obtain ⟨h1, h2⟩ := isDig_iff.1 hdig
      rw [decide_eq_false (by omega), cond_false, decide_eq_false (by omega), cond_false, e, hw, int_loop_impl hs r (i + 1) f _ hd (by rw [Nat.pow_succ]; omega) (by omega)]
      rfl
theorem headD_get {l : List UInt8} (h : 0 < l.length) : l.headD 0 = l[0] := by
  cases l with
  | nil => simp at h
  | cons a r => rfl
theorem impl_ParseInt_j_ok {N : Nat} {s : ByteArray} {kf : Int → Bool → Option Ret} (hN : 40 < N) (h1 : 1 ≤ s.data.toList.length) (h2 : s.data.toList.length ≤ 13) (h3 : (decide (s.data.toList.length = 1) || !(s.data.toList.headD 0 == 48)) = true) : impl_ParseInt_j1 N s kf = kf (numI s.data.toList) (okI s.data.toList) := by
  have hsz : s.data.toList.length = s.size := (Lib.size_eq s).symm
  unfold impl_ParseInt_j1 numI okI
  have hl := int_loop_impl (kf := kf) (k := fun z4_9 => bif decide (z4_9 > (1000000000000 : Int)) then kf 0 false else kf z4_9 true) (s := s) (by omega) s.data.toList 0 N 0 rfl (by simp) (by omega)
  refine hl.trans ?_
  rw [decide_eq_true h1, decide_eq_true h2, h3]
  simp only [Bool.true_and, Bool.and_true]
  cases hd : s.data.toList.all isDig with
  | false => rfl
  | true =>
    simp only [cond_true, Bool.true_and]
    by_cases hv : val s.data.toList 0 ≤ 1000000000000
    · rw [decide_eq_false (by omega), decide_eq_true hv]; rfl
    · rw [decide_eq_true (by omega), decide_eq_false hv]; rfl
theorem impl_ParseInt_ok {N : Nat} {s : ByteArray} {kf : Int → Bool → Option Ret} (hN : 40 < N) : impl_ParseInt N s kf = kf (numI s.data.toList) (okI s.data.toList) := by
  have hsz : s.data.toList.length = s.size := (Lib.size_eq s).symm
  unfold impl_ParseInt
  by_cases h1 : 1 ≤ s.data.toList.length
  rotate_left
  · have e : ((ByteArray.size s : Int) == (0 : Int)) = true := by rw [beq_iff_eq]; omega
    rw [e]
    unfold numI okI
    rw [decide_eq_false h1]
    rfl
  have e0 : ((ByteArray.size s : Int) == (0 : Int)) = false := beq_eq_false_iff_ne.2 (by omega)
  rw [e0, cond_false]
  by_cases h2 : s.data.toList.length ≤ 13
  rotate_left
  · rw [decide_eq_true (by omega)]
    unfold numI okI
    rw [decide_eq_false h2, Bool.false_and, Bool.and_false]
    rfl
  rw [decide_eq_false (by omega), cond_false]
  by_cases h3 : s.data.toList.length = 1
  · rw [decide_eq_false (by omega), cond_false]
    exact impl_ParseInt_j_ok hN h1 h2 (by rw [decide_eq_true h3]; rfl)
  · have hlt : 0 < s.data.toList.length := by omega
    have hbt : bt s (0 : Int) = ((s.data.toList[0]).toNat : Int) := bt_at (i := 0) (by omega) hlt
    have hhd : s.data.toList.headD 0 = s.data.toList[0] := headD_get hlt
    rw [decide_eq_true (by omega), cond_true, show (0 : Int) = ((0 : Nat) : Int) from rfl, inB_nat (by omega), cond_true]
    rw [show ((0 : Nat) : Int) = (0 : Int) from rfl, hbt]
    have e48 : (((s.data.toList[0]).toNat : Int) == (48 : Int)) = (s.data.toList.headD 0 == 48) := by
      rw [hhd]
      apply Bool.eq_iff_iff.2
      rw [beq_iff_eq, beq_iff_eq]
      constructor
      · intro h; exact UInt8.toNat_inj.1 (by show _ = 48; omega)
      · intro h; rw [h]; rfl
    rw [e48]
    cases hh : s.data.toList.headD 0 == 48 with
    | true =>
      unfold numI okI
      rw [hh, decide_eq_false h3]
      simp only [Bool.not_true, Bool.or_self, Bool.and_false, cond_false, cond_true]
    | false => exact impl_ParseInt_j_ok hN h1 h2 (by rw [hh, decide_eq_false h3]; rfl)
end Go.Pv.R
namespace Go.Pv.R
set_option linter.unusedVariables false
set_option linter.unusedSimpArgs false
def cutP (w : List UInt8) : List UInt8 × List UInt8 := ((Lib.cut w [62]).1, (Lib.cut w [62]).2.1)
theorem cut_spl : ∀ L : List UInt8, (62 ∉ L ∧ spl 62 L = [L] ∧ Lib.indexByte L 62 = -1) ∨ ∃ p q, spl 62 L = p :: spl 62 q ∧ Lib.indexByte L 62 = (p.length : Int) ∧ L = p ++ 62 :: q
  | [] => .inl ⟨by simp, rfl, rfl⟩
  | b :: r => by
    by_cases hb : b = 62
    · subst hb
      exact .inr ⟨[], r, rfl, rfl, rfl⟩
    · have hbc : (b == 62) = false := beq_eq_false_iff_ne.2 hb
      rcases cut_spl r with ⟨h1, h2, h3⟩ | ⟨p, q, h1, h2, h3⟩
      · refine .inl ⟨fun h => ?_, ?_, ?_⟩
        · rcases List.mem_cons.1 h with h | h
          · exact hb h.symm
          · exact h1 h
        · simp only [spl, hbc, cond_false, h2]
        · unfold Lib.indexByte
          rw [if_neg (by simpa using hb), h3]
          rfl
      · refine .inr ⟨b :: p, q, ?_, ?_, by rw [h3]; rfl⟩
        · simp only [spl, hbc, cond_false, h1]
        · unfold Lib.indexByte
          rw [if_neg (by simpa using hb), h2, if_neg (by simp)]
          simp
theorem cut_miss {L : List UInt8} (h : Lib.indexByte L 62 = -1) : cutP L = (L, []) := by
  unfold cutP Lib.cut
  rw [Lib.index_one, h]
  rfl
theorem cut_hit {p q : List UInt8} (h : Lib.indexByte (p ++ 62 :: q) 62 = (p.length : Int)) : cutP (p ++ 62 :: q) = (p, q) := by
  unfold cutP Lib.cut
  rw [Lib.index_one, h, if_pos (by omega)]
  simp only [Int.toNat_natCast]
  have e1 : p ++ 62 :: q = (p ++ [62]) ++ q := by simp
  have e2 : (p ++ [62]).length = p.length + [(62 : UInt8)].length := by simp
  rw [List.take_left' rfl, e1, ← e2, List.drop_left' rfl]
def okW (w : List UInt8) : Bool := okI (cutP w).1 && okI (cutP w).2
def valW (w : List UInt8) : List Int := [numI (cutP w).1, numI (cutP w).2]
theorem okI_no {q : List UInt8} (h : (62 : UInt8) ∈ q) : okI q = false := by
  unfold okI
  have : q.all isDig = false := by
    rw [List.all_eq_false]
    exact ⟨62, h, by decide⟩
  rw [this]
  simp
theorem numI_64 (l : List UInt8) : I64 (numI l) := by
  unfold numI
  cases h : okI l with
  | false => show I64 0; exact ⟨by decide, by decide⟩
  | true =>
    unfold okI at h
    simp only [Bool.and_eq_true, decide_eq_true_eq] at h
    have := h.2.2.2.1
    show I64 (val l 0 : Int)
    exact ⟨by omega, by omega⟩
theorem spec_pg_step {N : Nat} {w : List UInt8} {F : Option Ret} {K : List Int → Option Ret} (hw : w.length ≤ 1500000) (hN : w.length + 50 < N) (body : List ByteArray → Option Ret)
    (hb : ∀ ps : List ByteArray, body ps = bif ((List.length ps : Int) != (2 : Int)) then F else bif (inB (0 : Int) (List.length ps)) then spec_ParseInt N (List.getD ps (Int.toNat (0 : Int)) ByteArray.empty) (fun a x => bif (inB (1 : Int) (List.length ps)) then spec_ParseInt N (List.getD ps (Int.toNat (1 : Int)) ByteArray.empty) (fun b y => bif !x then F else bif !y then F else K [a, b]) else none) else none) :
    spec_l32Split N (packB w) (62 : Int) body = bif okW w then K (valW w) else F := by
  have hsz : (packB w).size = w.length := by rw [Lib.size_eq, data_pack]
  have e62 : (62 : Int) = (((62 : UInt8)).toNat : Int) := rfl
  rw [e62, spec_l32Split_ok (by omega) (by omega), hb, data_pack, List.length_map]
  rcases cut_spl w with ⟨h1, h2, h3⟩ | ⟨p, q, h1, h2, h3⟩
  · rw [h2]
    have e1 : okW w = false := by
      unfold okW
      rw [cut_miss h3]
      show (okI w && okI []) = false
      have : okI [] = false := rfl
      rw [this, Bool.and_false]
    rw [e1]
    rfl
  · have hc : cutP w = (p, q) := by rw [h3]; exact cut_hit (by rw [← h3]; exact h2)
    have e1 : okW w = (okI p && okI q) := by unfold okW; rw [hc]
    have e2 : valW w = [numI p, numI q] := by unfold valW; rw [hc]
    rw [h1, e1, e2]
    rcases cut_spl q with ⟨g1, g2, g3⟩ | ⟨p2, q2, g1, g2, g3⟩
    · rw [g2]
      have b0 : ((List.length [p, q] : Int) != (2 : Int)) = false := rfl
      have b1 : inB (0 : Int) (List.length [p, q]) = true := rfl
      have b2 : inB (1 : Int) (List.length [p, q]) = true := rfl
      have v0 : List.getD (List.map packB [p, q]) (Int.toNat (0 : Int)) ByteArray.empty = packB p := rfl
      have v1 : List.getD (List.map packB [p, q]) (Int.toNat (1 : Int)) ByteArray.empty = packB q := rfl
      rw [b0, b1, b2, v0, v1]
      simp only [cond_true, cond_false]
      rw [spec_ParseInt_ok (by omega), spec_ParseInt_ok (by omega), data_pack, data_pack]
      cases okI p <;> cases okI q <;> rfl
    · have hno : okI q = false := okI_no (by rw [g3]; simp)
      rw [hno, Bool.and_false, g1]
      have hne : ((List.length (p :: p2 :: spl 62 q2) : Int) != (2 : Int)) = true := by
        obtain ⟨x, xs, e⟩ := spl_cons 62 q2
        rw [e]
        simp only [List.length_cons, bne_iff_ne, ne_eq]
        omega
      rw [hne]
      rfl
theorem spec_pg_loop {N : Nat} {s0 : ByteArray} {z : Graph} {b : Bool} {k : Graph → Option Ret} {kf : Graph → Bool → Option Ret} {ws : List (List UInt8)} (hw : ∀ w ∈ ws, w.length ≤ 1500000 ∧ w.length + 50 < N) (hl : ws.length ≤ 2000000) : ∀ (r : List (List UInt8)) (i fuel : Nat) (g : Graph), ws.drop i = r → r.length < fuel → g.2.length ≤ i →
    spec_ParseGraph_l5 N s0 z (ws.map packB) b fuel k kf g (i : Int) = bif r.all okW then k (g.1, g.2 ++ r.map valW) else kf ((0 : Int), ([] : List (List Int))) false
  | [], i, fuel, g, hd, hf, hg => by
    have hin : ws.length ≤ i := by have := congrArg List.length hd; simp only [List.length_drop, List.length_nil] at this; omega
    obtain ⟨f, rfl⟩ : ∃ f, fuel = f + 1 := ⟨fuel - 1, by simp only [List.length_nil] at hf; omega⟩
    simp only [spec_ParseGraph_l5, List.length_map]
    rw [decide_eq_false (by omega)]
    simp
  | w :: r, i, fuel, g, hd, hf, hg => by
    have hlt : i < ws.length := by have := congrArg List.length hd; simp only [List.length_drop, List.length_cons] at this; omega
    rw [List.drop_eq_getElem_cons hlt] at hd
    injection hd with hb hd
    obtain ⟨f, rfl⟩ : ∃ f, fuel = f + 1 := ⟨fuel - 1, by omega⟩
    simp only [List.length_cons] at hf
    have hww := hw w (by rw [← hb]; exact List.getElem_mem hlt)
    have hlm : i < (ws.map packB).length := by rw [List.length_map]; exact hlt
    have hwi : IntKind.wrap .i64 ((i : Int) + (1 : Int)) = ((i + 1 : Nat) : Int) := by
      have := maxLen_eq
      rw [wrap64 (by omega) (by omega)]; omega
    simp only [spec_ParseGraph_l5]
    rw [decide_eq_true (by rw [List.length_map]; omega), cond_true, inB_nat hlm, cond_true, Int.toNat_natCast, getD_nat _ _ hlm, List.getElem_map, hb]
    refine (spec_pg_step (F := kf ((0 : Int), ([] : List (List Int))) false) (K := fun x => bif (decide ((List.length g.2 + List.length [x]) * 1 ≤ 4398046511104)) then (spec_ParseGraph_l5 N s0 z (ws.map packB) b f k kf) (g.1, (g.2 ++ [x])) (IntKind.wrap .i64 ((i : Int) + (1 : Int))) else none) hww.1 hww.2 _ (fun ps => rfl)).trans ?_
    rw [List.all_cons]
    cases okW w with
    | false => rfl
    | true =>
      rw [cond_true, decide_eq_true (by simp only [List.length_cons, List.length_nil]; omega), cond_true, hwi, spec_pg_loop hw hl r (i + 1) f _ hd (by omega) (by simp only [List.length_append, List.length_cons, List.length_nil]; omega), Bool.true_and]
      simp only [List.map_cons, List.append_assoc, List.cons_append, List.nil_append]
theorem impl_pg_loop {N : Nat} {s0 : ByteArray} {z : Graph} {k : Bool → Graph → Option Ret} {ws : List (List UInt8)} (hN : 50 < N) (hw : ∀ w ∈ ws, w.length ≤ 1500000) (hl : ws.length ≤ 2000000) : ∀ (r : List (List UInt8)) (i fuel : Nat) (ok : Bool) (g : Graph), ws.drop i = r → r.length < fuel → g.2.length ≤ i →
    impl_ParseGraph_l5 N s0 z (ws.map packB) (List.length (ws.map packB) : Int) fuel k ok g (i : Int) = k (ok && r.all okW) (g.1, g.2 ++ r.map valW)
  | [], i, fuel, ok, g, hd, hf, hg => by
    have hin : ws.length ≤ i := by have := congrArg List.length hd; simp only [List.length_drop, List.length_nil] at this; omega
    obtain ⟨f, rfl⟩ : ∃ f, fuel = f + 1 := ⟨fuel - 1, by simp only [List.length_nil] at hf; omega⟩
    simp only [impl_ParseGraph_l5, List.length_map]
    rw [decide_eq_false (by omega)]
    simp
  | w :: r, i, fuel, ok, g, hd, hf, hg => by
    have hlt : i < ws.length := by have := congrArg List.length hd; simp only [List.length_drop, List.length_cons] at this; omega
    rw [List.drop_eq_getElem_cons hlt] at hd
    injection hd with hb hd
    obtain ⟨f, rfl⟩ : ∃ f, fuel = f + 1 := ⟨fuel - 1, by omega⟩
    simp only [List.length_cons] at hf
    have hww := hw w (by rw [← hb]; exact List.getElem_mem hlt)
    have hlm : i < (ws.map packB).length := by rw [List.length_map]; exact hlt
    have hwi : IntKind.wrap .i64 ((i : Int) + (1 : Int)) = ((i + 1 : Nat) : Int) := by
      have := maxLen_eq
      rw [wrap64 (by omega) (by omega)]; omega
    have hsz : (packB w).size = w.length := by rw [Lib.size_eq, data_pack]
    have hA : cutA (packB w) s_h3e = packB (cutP w).1 := by unfold cutA cutP; rw [data_pack]; rfl
    have hB : cutB (packB w) s_h3e = packB (cutP w).2 := by unfold cutB cutP; rw [data_pack]; rfl
    have hc : (Nat.blt (ByteArray.size (packB w)) 4294967281 && Nat.beq (ByteArray.size s_h3e) 1) = true := by
      have h1 : Nat.blt (ByteArray.size (packB w)) 4294967281 = true := by rw [Nat.blt_eq]; omega
      rw [h1]; rfl
    have hsm : decide ((List.length g.2 + List.length [valW w]) * 1 ≤ 4398046511104) = true := decide_eq_true (by simp only [List.length_cons, List.length_nil]; omega)
    simp only [impl_ParseGraph_l5]
    rw [decide_eq_true (by omega), cond_true, inB_nat hlm, cond_true, Int.toNat_natCast, getD_nat _ _ hlm, List.getElem_map, hb]
    unfold strings_Cut
    rw [hc, cond_true, hA, hB]
    simp only []
    rw [impl_ParseInt_ok (by omega), impl_ParseInt_ok (by omega), data_pack, data_pack]
    have hrec : ∀ ok', impl_ParseGraph_l5 N s0 z (ws.map packB) (List.length (ws.map packB) : Int) f k ok' (g.1, g.2 ++ [valW w]) (IntKind.wrap .i64 ((i : Int) + (1 : Int))) = k (ok' && r.all okW) (g.1, g.2 ++ (w :: r).map valW) := fun ok' => by
      rw [hwi, impl_pg_loop hN hw hl r (i + 1) f ok' _ hd (by omega) (by simp only [List.length_append, List.length_cons, List.length_nil]; omega)]
      simp only [List.map_cons, List.append_assoc, List.cons_append, List.nil_append]
    show (bif ok then bif okI (cutP w).1 then bif decide ((List.length g.2 + List.length [valW w]) * 1 ≤ 4398046511104) then impl_ParseGraph_l5 N s0 z (ws.map packB) (List.length (ws.map packB) : Int) f k (okI (cutP w).2) (g.1, g.2 ++ [valW w]) (IntKind.wrap .i64 ((i : Int) + (1 : Int))) else none else bif decide ((List.length g.2 + List.length [valW w]) * 1 ≤ 4398046511104) then impl_ParseGraph_l5 N s0 z (ws.map packB) (List.length (ws.map packB) : Int) f k false (g.1, g.2 ++ [valW w]) (IntKind.wrap .i64 ((i : Int) + (1 : Int))) else none else bif decide ((List.length g.2 + List.length [valW w]) * 1 ≤ 4398046511104) then impl_ParseGraph_l5 N s0 z (ws.map packB) (List.length (ws.map packB) : Int) f k false (g.1, g.2 ++ [valW w]) (IntKind.wrap .i64 ((i : Int) + (1 : Int))) else none) = _
    rw [hsm, hrec, hrec]
    simp only [cond_true, List.all_cons]
    unfold okW
    cases ok <;> cases okI (cutP w).1 <;> simp
/-- What a text tells. -/
noncomputable def readG (s : ByteArray) : Graph := (numI ((spl 32 s.data.toList).headD []), (spl 32 s.data.toList).tail.map valW)
noncomputable def readOK (s : ByteArray) : Bool := okI ((spl 32 s.data.toList).headD []) && ((spl 32 s.data.toList).tail.all okW && (ByteArray.toList (graphM (readG s)) == ByteArray.toList s))
noncomputable def parseG (s : ByteArray) : Graph := bif readOK s then readG s else ((0 : Int), ([] : List (List Int)))
theorem spl_words (c : UInt8) : ∀ (L : List UInt8) (w : List UInt8), w ∈ spl c L → w.length ≤ L.length
  | [], w, h => by simp [spl] at h; subst h; simp
  | b :: r, w, h => by
    have ih := spl_words c r
    simp only [spl] at h
    cases hb : b == c with
    | true =>
      rw [hb, cond_true] at h
      rcases List.mem_cons.1 h with rfl | h
      · simp
      · have := ih w h; simp only [List.length_cons]; omega
    | false =>
      obtain ⟨x, xs, e⟩ := spl_cons c r
      rw [hb, cond_false, e] at h
      rw [e] at ih
      simp only [List.length_cons]
      rcases List.mem_cons.1 h with rfl | h
      · have := ih x (by simp); simp only [List.length_cons]; omega
      · have := ih w (by simp [h]); omega
theorem readG_64 {s : ByteArray} (hs : s.size ≤ 1048576) : Graph64 (readG s) := by
  have hsz : s.data.toList.length = s.size := (Lib.size_eq s).symm
  have hl := spl_len 32 s.data.toList
  refine ⟨numI_64 _, fun x hx y hy => ?_, ?_⟩
  · obtain ⟨w, _, rfl⟩ := List.mem_map.1 hx
    unfold valW at hy
    simp only [List.mem_cons, List.mem_nil_iff, or_false] at hy
    rcases hy with rfl | rfl <;> exact numI_64 _
  · show (List.map valW _).length ≤ _
    rw [List.length_map, List.length_tail]
    omega
theorem spec_ParseGraph_ok {N : Nat} {s : ByteArray} {kf : Graph → Bool → Option Ret} (hs : s.size ≤ 1048576) (hN : s.size + 100 < N) : spec_ParseGraph N s kf = kf (parseG s) (readOK s) := by
  have hsz : s.data.toList.length = s.size := (Lib.size_eq s).symm
  have hl := spl_len 32 s.data.toList
  have hwords := spl_words 32 s.data.toList
  unfold spec_ParseGraph
  have e32 : (32 : Int) = (((32 : UInt8)).toNat : Int) := rfl
  rw [e32, spec_l32Split_ok (by omega) (by omega)]
  have h64 := readG_64 hs
  unfold parseG readOK
  unfold readG at h64 ⊢
  obtain ⟨w0, ws, e⟩ := spl_cons 32 s.data.toList
  rw [e] at hl hwords h64 ⊢
  simp only [List.headD_cons, List.tail_cons] at h64 ⊢
  have b0 : inB (0 : Int) (List.length (List.map packB (w0 :: ws))) = true := by rw [List.length_map]; exact inB_nat (i := 0) (by simp)
  have v0 : List.getD (List.map packB (w0 :: ws)) (Int.toNat (0 : Int)) ByteArray.empty = packB w0 := rfl
  simp only [List.length_cons] at hl
  rw [b0, cond_true, v0, spec_ParseInt_ok (by omega), data_pack, show (1 : Int) = ((1 : Nat) : Int) from rfl, spec_pg_loop (ws := w0 :: ws) (fun w hw => by have := hwords w hw; omega) (by simp only [List.length_cons]; omega) ws 1 N _ rfl (by omega) (by simp)]
  have hempty : okI w0 = true → (ByteArray.toList s == ByteArray.toList s_e) = false := fun h0 => by
    refine beq_eq_false_iff_ne.2 fun hx => ?_
    rw [Lib.toList_data, Lib.toList_data] at hx
    have hx' : s.data.toList = [] := hx
    rw [hx'] at e
    have : w0 = [] := by injection e with e1 _; exact e1.symm
    rw [this] at h0
    cases h0
  cases hall : ws.all okW with
  | false => simp only [cond_false, Bool.false_and, Bool.and_false]
  | true =>
    simp only [cond_true, Bool.true_and, List.nil_append]
    cases h0 : okI w0 with
    | false => rfl
    | true =>
      rw [hempty h0]
      simp only [Bool.not_true, cond_false, Bool.true_and]
      rw [spec_GraphText_ok h64 (by simp only [List.length_map]; omega)]
      cases ByteArray.toList (graphM (numI w0, List.map valW ws)) == ByteArray.toList s <;> rfl
theorem impl_ParseGraph_ok {N : Nat} {s : ByteArray} {kf : Graph → Bool → Option Ret} (hs : s.size ≤ 1048576) (hN : s.size + 100 < N) : impl_ParseGraph N s kf = kf (parseG s) (readOK s) := by
  have hsz : s.data.toList.length = s.size := (Lib.size_eq s).symm
  have hl := spl_len 32 s.data.toList
  have hwords := spl_words 32 s.data.toList
  unfold impl_ParseGraph strings_Split
  have hc : (Nat.blt (ByteArray.size s) 4294967281 && Nat.beq (ByteArray.size s_h20) 1) = true := by
    have h1 : Nat.blt (ByteArray.size s) 4294967281 = true := by rw [Nat.blt_eq]; omega
    rw [h1]; rfl
  have e32 : splitL s s_h20 = (spl 32 s.data.toList).map packB := splitL_ok s 32
  rw [hc, cond_true, e32]
  have h64 := readG_64 hs
  unfold parseG readOK
  unfold readG at h64 ⊢
  obtain ⟨w0, ws, e⟩ := spl_cons 32 s.data.toList
  rw [e] at hl hwords h64 ⊢
  simp only [List.headD_cons, List.tail_cons] at h64 ⊢
  have b0 : inB (0 : Int) (List.length (List.map packB (w0 :: ws))) = true := by rw [List.length_map]; exact inB_nat (i := 0) (by simp)
  have v0 : List.getD (List.map packB (w0 :: ws)) (Int.toNat (0 : Int)) ByteArray.empty = packB w0 := rfl
  simp only [List.length_cons] at hl
  have d1 : (decide ((0 : Int) ≤ (1 : Int)) && decide ((1 : Int) ≤ (List.length (List.map packB (w0 :: ws)) : Int)) && decide ((List.length (List.map packB (w0 :: ws)) : Int) ≤ (List.length (List.map packB (w0 :: ws)) : Int))) = true := by
    rw [List.length_map]
    simp only [List.length_cons, Bool.and_eq_true, decide_eq_true_eq]
    omega
  have dl : List.drop (Int.toNat (1 : Int)) (List.take (Int.toNat (List.length (List.map packB (w0 :: ws)) : Int)) (List.map packB (w0 :: ws))) = List.map packB ws := by
    rw [Int.toNat_natCast, List.take_length]
    rfl
  rw [b0, cond_true, v0, impl_ParseInt_ok (by omega), data_pack, d1, cond_true, dl, show (0 : Int) = ((0 : Nat) : Int) from rfl, impl_pg_loop (ws := ws) (by omega) (fun w hw => by have := hwords w (by simp [hw]); omega) (by omega) ws 0 N _ _ rfl (by omega) (by simp)]
  simp only [List.nil_append]
  cases hall : ws.all okW with
  | false => simp only [Bool.and_false, Bool.false_and, Bool.not_false, cond_true, cond_false]
  | true =>
    cases h0 : okI w0 with
    | false => rfl
    | true =>
      simp only [Bool.and_self, Bool.not_true, cond_false, Bool.true_and]
      rw [impl_GraphText_ok h64 (by simp only [List.length_map]; omega)]
      cases ByteArray.toList (graphM (numI w0, List.map valW ws)) == ByteArray.toList s <;> rfl
theorem itoaB_pos (n : Int) : 1 ≤ (itoaB n).size := by
  unfold itoaB
  rw [sizeL]
  unfold Lib.itoa
  have h : ∀ u, 1 ≤ (Lib.decDigits u).length := fun u => by
    cases hd : Lib.decDigits u with
    | nil => exact absurd hd (decDigits_ne u)
    | cons _ _ => simp
  split
  · simp
  · exact h _
theorem catB_ge {α : Type} {f : α → ByteArray} {m : Nat} : ∀ (l : List α), (∀ x ∈ l, m ≤ (f x).size) → m * l.length ≤ (catB f l).size
  | [], _ => by simp
  | x :: r, h => by
    have ih := catB_ge r (fun y hy => h y (by simp [hy]))
    have hx := h x (by simp)
    have e : catB f (x :: r) = f x ++ catB f r := by
      apply bext
      simp only [data_app, catB, List.map_cons, List.flatten_cons]
    rw [e, size_app, List.length_cons, Nat.mul_succ]
    omega
theorem twos_size : ∀ (l : List (List Int)), (∀ x ∈ l, x.length = 2) → sizeV (.sl (.sl (.int .i64))) l = 3 * l.length
  | [], _ => rfl
  | x :: r, h => by
    have ih := twos_size r (fun y hy => h y (by simp [hy]))
    have hx := h x (by simp)
    have e : sizeV (.sl (.int .i64)) x = x.length := sizeV_sl (t := .int .i64) (by decide) x
    have e2 : sizeV (.sl (.sl (.int .i64))) (x :: r) = 1 + sizeV (.sl (.int .i64)) x + sizeV (.sl (.sl (.int .i64))) r := by
      simp only [sizeV_def, List.length_cons, List.map_cons, List.sum_cons]
      omega
    rw [e2, e, hx, ih, List.length_cons]
    omega
theorem parseG_size {s : ByteArray} (hs : s.size ≤ 1048576) : sizeV tQILLIE (parseG s) ≤ s.size := by
  have hz : ∀ g : Graph, sizeV tQILLIE g = sizeV (.sl (.sl (.int .i64))) g.2 := fun g => by simp [sizeV]
  rw [hz]
  unfold parseG
  cases hr : readOK s with
  | false => exact Nat.zero_le _
  | true =>
    show sizeV (.sl (.sl (.int .i64))) (readG s).2 ≤ _
    unfold readOK at hr
    simp only [Bool.and_eq_true] at hr
    obtain ⟨_, _, hg⟩ := hr
    rw [beq_iff_eq, Lib.toList_data, Lib.toList_data] at hg
    have hg := bext hg
    have h2 : ∀ x ∈ (readG s).2, x.length = 2 := fun x hx => by
      obtain ⟨w, _, rfl⟩ := List.mem_map.1 hx
      rfl
    rw [twos_size _ h2]
    unfold graphM at hg
    cases hi : isGraphM (readG s) with
    | false =>
      rw [hi] at hg
      have hg' : s_e = s := hg
      rw [← hg']
      have : (readG s).2.length = 0 := by
        rw [← hg']
        rfl
      rw [hg', this]
      omega
    | true =>
      rw [hi, cond_true] at hg
      have h3 := catB_ge (f := attB) (m := 3) (readG s).2 (fun x hx => by
        unfold attB
        simp only [size_app]
        have a1 := itoaB_pos (x.getD 0 0); have a2 := itoaB_pos (x.getD 1 0)
        have c1 : s_h20.size = 1 := rfl; have c2 : s_h3e.size = 1 := rfl
        omega)
      have h4 : (itoaB (readG s).1 ++ catB attB (readG s).2).size = s.size := by rw [hg]
      rw [size_app] at h4
      omega
theorem lawFnExactParseGraph (s : ByteArray) (h : wfs [.str] (s, ())) : ∃ N, ∀ kf, laws_FnExactParseGraph N s kf = kf true := by
  refine ⟨2 * s.size + 200, fun kf => ?_⟩
  unfold laws_FnExactParseGraph
  by_cases hl : s.size ≤ 1048576
  rotate_left
  · rw [decide_eq_true (by omega)]; rfl
  rw [decide_eq_false (by omega), cond_false]
  have hsz := parseG_size hl
  generalize hN : 2 * s.size + 200 = N at *
  obtain ⟨r, hr⟩ : ∃ r, r = parseG s := ⟨_, rfl⟩
  obtain ⟨b, hb⟩ : ∃ b, b = readOK s := ⟨_, rfl⟩
  have hS : ∀ k, spec_ParseGraph N s k = k r b := fun k => by rw [hr, hb]; exact spec_ParseGraph_ok hl (by omega)
  have hI : ∀ k, impl_ParseGraph N s k = k r b := fun k => by rw [hr, hb]; exact impl_ParseGraph_ok hl (by omega)
  rw [← hr] at hsz
  clear hr hb
  have mr := markT_le tQILLIE r 1 (by decide)
  have e2 : decide ((markT tQILLIE r 1).2 < 0) = false := decide_eq_false (by omega)
  have h3 : ∀ k, laws_eqGraph N r r k = k true := fun k => laws_eqGraph_ok (by omega) (by omega)
  have h5 : ∀ k, laws_markGraph N r 1 k = k (markT tQILLIE r 1).2 (markT tQILLIE r 1).1 := fun k => laws_markGraph_ok (by omega) (by omega) (by omega) (by omega)
  have h6 : ∀ k, laws_heldGraph N (markT tQILLIE r 1).1 1 k = k (markT tQILLIE r 1).2 := fun k => laws_heldGraph_ok (by omega) (by omega) (by omega) (by omega)
  have he : (r.1, (markT tQILLIE r 1).1.2) = (markT tQILLIE r 1).1 := rfl
  simp only [hS, hI, h3, h5, he, h6, e2, Bool.not_true, cond_false, bne_self_eq_false, beq_self_eq_true]
end Go.Pv.R
namespace Go.Pv.R
set_option linter.unusedVariables false
set_option linter.unusedSimpArgs false
end Go.Pv.R
namespace Go.Pv.R
set_option linter.unusedVariables false
set_option linter.unusedSimpArgs false
end Go.Pv.R
namespace Go.Pv.R
set_option linter.unusedVariables false
set_option linter.unusedSimpArgs false
end Go.Pv.R
namespace Go.Pv.R
set_option linter.unusedVariables false
set_option linter.unusedSimpArgs false
end Go.Pv.R
namespace Go.Pv.R
set_option linter.unusedVariables false
set_option linter.unusedSimpArgs false
section
variable {α : Type} {t : List α} {i j : Nat} {x y x' y' z : α}
end
end Go.Pv.R
namespace Go.Pv
set_option linter.unusedVariables false
theorem sum_le {l : List Nat} {M : Nat} (h : ∀ x ∈ l, x ≤ M) : l.sum ≤ l.length * M := by
  induction l with
  | nil => simp
  | cons x r ih =>
    have h1 := ih fun y hy => h y (by simp [hy])
    have h2 := h x (by simp)
    simp only [List.sum_cons, List.length_cons, Nat.succ_mul]
    omega
theorem sizeV_bound {t : Ty} {l : List t.I} {M : Nat} (h : ∀ x ∈ l, sizeV t x ≤ M) : sizeV (.sl t) l ≤ l.length + l.length * M := by
  have := sum_le (l := l.map (sizeV t)) (M := M) (by
    intro y hy
    obtain ⟨x, hx, rfl⟩ := List.mem_map.1 hy
    exact h x hx)
  rw [List.length_map] at this
  simp only [sizeV]
  omega
end Go.Pv
namespace Go.Pv.R
set_option linter.unusedVariables false
set_option linter.unusedSimpArgs false
structure CloseInv (c : Club) (i : Nat) (s : Club) : Prop where
  tl : s.1.length = c.1.length
  tm : ∀ x : Team, x ∈ s.1 → x.met.length ≤ 20 + i
  ji : s.2.1.map (fun x : Judge => x.1) = c.2.1.map fun x : Judge => x.1
  js : ∀ x : Judge, x ∈ s.2.1 → Asc x.2.2 ∧ x.2.2.length ≤ 99 + 2 * i
  re : s.2.2 = c.2.2
theorem CloseInv.jl {c s : Club} {i : Nat} (h : CloseInv c i s) : s.2.1.length = c.2.1.length := by
  have := congrArg List.length h.ji
  simpa using this
end Go.Pv.R
namespace Go.Pv.R
set_option linter.unusedVariables false
set_option linter.unusedSimpArgs false
end Go.Pv.R
namespace Go.Pv.R
set_option linter.unusedVariables false
set_option linter.unusedSimpArgs false
structure Small (c : Club) : Prop where
  t10 : c.1.length ≤ 10
  tm : ∀ x : Team, x ∈ c.1 → x.met.length ≤ 20
  j10 : c.2.1.length ≤ 10
  js : ∀ x : Judge, x ∈ c.2.1 → x.2.2.length ≤ 99
  r10 : c.2.2.1.length ≤ 10
  s10 : c.2.2.2.1.length ≤ 10
  b10 : c.2.2.2.2.1.length ≤ 10
  m200 : c.2.2.2.2.2.1.length ≤ 200
theorem Small.ok {c : Club} {N : Nat} (h : Small c) (hN : 300 < N) : ClubOK c N := by
  have hx := maxLen_eq
  obtain ⟨h1, h2, h3, h4, h5, h6, h7, h8⟩ := h
  exact ⟨by omega, fun x hx => by have := h2 x hx; omega, by omega, by omega, fun x hx => by have := h4 x hx; omega, by omega, by omega, by omega, by omega, by omega, by omega, by omega, by omega, by omega, by omega, by omega, fun x hx => by have := h2 x hx; omega, by omega, fun x hx => by have := h4 x hx; omega⟩
theorem Small.size {c : Club} (h : Small c) : sizeV tQLQIIIIILIELQIILIELQIIELILQIIIELQIIIIEIE c ≤ 2000 := by
  have h1 := sizeV_club c
  have t10 := h.t10
  have j10 := h.j10
  have r10 := h.r10
  have s10 := h.s10
  have b10 := h.b10
  have m200 := h.m200
  have b1 := sizeV_bound (t := tQIIIIILIE) (l := c.1) (M := 20) (fun x hx => by
    have h2 : sizeV tQIIIIILIE x = sizeV (.sl (.int .i64)) x.2.2.2.2.2 := by simp [sizeV]
    have h3 : sizeV (.sl (.int .i64)) x.2.2.2.2.2 = (x.2.2.2.2.2).length := sizeV_sl (t := .int .i64) (by decide) _
    have : x.2.2.2.2.2.length ≤ 20 := h.tm x hx
    omega)
  have b2 := sizeV_bound (t := tQIILIE) (l := c.2.1) (M := 99) (fun x hx => by
    have h2 : sizeV tQIILIE x = sizeV (.sl (.int .i64)) x.2.2 := by simp [sizeV]
    have h3 : sizeV (.sl (.int .i64)) x.2.2 = (x.2.2).length := sizeV_sl (t := .int .i64) (by decide) _
    have := h.js x hx
    omega)
  have m1 : c.1.length * 20 ≤ 10 * 20 := Nat.mul_le_mul_right _ (by omega)
  have m2 : c.2.1.length * 99 ≤ 10 * 99 := Nat.mul_le_mul_right _ (by omega)
  have e3 : sizeV (.sl tQIIE) c.2.2.1 = c.2.2.1.length := sizeV_sl (t := tQIIE) (by decide) _
  have e4 : sizeV (.sl (.int .i64)) c.2.2.2.1 = c.2.2.2.1.length := sizeV_sl (t := .int .i64) (by decide) _
  have e5 : sizeV (.sl tQIIIE) c.2.2.2.2.1 = c.2.2.2.2.1.length := sizeV_sl (t := tQIIIE) (by decide) _
  have e6 : sizeV (.sl tQIIIIE) c.2.2.2.2.2.1 = c.2.2.2.2.2.1.length := sizeV_sl (t := tQIIIIE) (by decide) _
  omega
end Go.Pv.R
