/- The law over the plain functions. -/
import Derived.Test.YthdoldaaodmeeaaDoorPlHz
namespace Go.Pv.R
set_option linter.unusedVariables false
set_option linter.unusedSimpArgs false
end Go.Pv.R
namespace Go.Pv.R
set_option linter.unusedVariables false
set_option linter.unusedSimpArgs false
theorem spec_l1In_ok {N : Nat} {a b c : Int} {kf : Bool → Option Ret} : spec_l1In N a b c kf = kf (inR a b c) := by
  unfold spec_l1In inR
  by_cases h : b ≤ a <;> simp [h]
theorem impl_InRange_ok {N : Nat} {a b c : Int} {kf : Bool → Option Ret} : impl_InRange N a b c kf = kf (inR a b c) := by
  unfold impl_InRange inR
  by_cases h : b ≤ a <;> simp [h]
/-- What is asked first: is it all small? -/
theorem small_or {left : Int} {s : Nat} {A B : Option Ret} (h0 : 0 ≤ left) (h : (s : Int) ≤ left → B = A) : (bif decide (szr left s < 0) then A else B) = A := by
  by_cases hn : szr left s < 0
  · rw [decide_eq_true hn]; rfl
  · rw [decide_eq_false hn, cond_false]
    exact h (by have := (szr_neg (s := s) h0); omega)
end Go.Pv.R
namespace Go.Pv.R
set_option linter.unusedVariables false
set_option linter.unusedSimpArgs false
end Go.Pv.R
namespace Go.Pv
set_option linter.unusedVariables false
set_option linter.unusedSimpArgs false
end Go.Pv
namespace Go.Pv.R
set_option linter.unusedVariables false
set_option linter.unusedSimpArgs false
end Go.Pv.R
namespace Go.Pv
set_option linter.unusedVariables false
set_option linter.unusedSimpArgs false
/-- What a loop gathers. -/
def gatherI {α β : Type} (c : Nat → α → Bool) (f : Nat → α → β) : List α → Nat → List β
  | [], _ => []
  | x :: r, i => bif c i x then f i x :: gatherI c f r (i + 1) else gatherI c f r (i + 1)
theorem gatherI_len {α β : Type} {c : Nat → α → Bool} {f : Nat → α → β} : ∀ (l : List α) (i : Nat), (gatherI c f l i).length ≤ l.length
  | [], _ => Nat.le_refl _
  | x :: r, i => by
    simp only [gatherI]
    have := gatherI_len (c := c) (f := f) r (i + 1)
    cases c i x <;> simp <;> omega
theorem goL1_gather {α β : Type} {body : Nat → α → List β → (List β → Option Ret) → Option Ret} {kend : List β → Option Ret} {c : Nat → α → Bool} {f : Nat → α → β} {l : List α}
    (hb : ∀ (i : Nat) (x : α) (s : List β) (next : List β → Option Ret) (h : i < l.length), l[i] = x → s.length ≤ i → body i x s next = bif c i x then next (s ++ [f i x]) else next s) :
    ∀ (r : List α) (i : Nat) (s : List β), l.drop i = r → s.length ≤ i → goL1 body kend r i s = kend (s ++ gatherI c f r i)
  | [], i, s, _, _ => by simp [goL1, gatherI]
  | x :: r, i, s, hd, hs => by
    have hlt : i < l.length := by have := congrArg List.length hd; simp at this; omega
    rw [List.drop_eq_getElem_cons hlt] at hd
    injection hd with h1 h2
    simp only [goL1, gatherI]
    rw [hb i x s _ hlt h1 hs]
    cases c i x
    · rw [cond_false, cond_false]
      exact goL1_gather hb r (i + 1) s h2 (by omega)
    · rw [cond_true, cond_true, goL1_gather hb r (i + 1) (s ++ [f i x]) h2 (by simp; omega)]
      simp
end Go.Pv
namespace Go.Pv.R
set_option linter.unusedVariables false
set_option linter.unusedSimpArgs false
end Go.Pv.R
namespace Go.Pv.R
set_option linter.unusedVariables false
set_option linter.unusedSimpArgs false
end Go.Pv.R
namespace Go.Pv.R
set_option linter.unusedVariables false
set_option linter.unusedSimpArgs false
theorem inR_iff {a b c : Int} : inR a b c = true ↔ b ≤ a ∧ a ≤ c := by unfold inR; simp
end Go.Pv.R
namespace Go.Pv
set_option linter.unusedVariables false
set_option linter.unusedSimpArgs false
end Go.Pv
namespace Go.Pv.R
set_option linter.unusedVariables false
set_option linter.unusedSimpArgs false
end Go.Pv.R
namespace Go.Pv.R
set_option linter.unusedVariables false
set_option linter.unusedSimpArgs false
end Go.Pv.R
namespace Go.Pv.R
set_option linter.unusedVariables false
set_option linter.unusedSimpArgs false
theorem appB (a b : List UInt8) : (⟨a.toArray⟩ ++ ⟨b.toArray⟩ : ByteArray) = ⟨(a ++ b).toArray⟩ := by
  apply ByteArray.ext
  rw [ByteArray.data_append]
  simp
theorem nilB (b : ByteArray) : (⟨#[]⟩ : ByteArray) ++ b = b := by
  apply ByteArray.ext
  rw [ByteArray.data_append]
  simp
theorem sizeL (l : List UInt8) : ByteArray.size ⟨l.toArray⟩ = l.length := by simp [ByteArray.size]
/-- The digits of what is left; none of nothing. -/
def dg (u : Nat) : List UInt8 := if u = 0 then [] else Lib.decDigits u
theorem dg_step {u : Nat} (h : u ≠ 0) : dg u = dg (u / 10) ++ [UInt8.ofNat (48 + u % 10)] := by
  unfold dg
  rw [if_neg h]
  rw [Lib.decDigits]
  by_cases h1 : u < 10
  · rw [dif_pos h1, if_pos (by omega), Nat.mod_eq_of_lt h1]
    rfl
  · rw [dif_neg h1, if_neg (by omega)]
theorem decDigits_len : ∀ (m u : Nat), u < 10 ^ (m + 1) → (Lib.decDigits u).length ≤ m + 1 := by
  intro m
  induction m with
  | zero =>
    intro u hu
    rw [Lib.decDigits, dif_pos (by omega)]
    simp
  | succ m ih =>
    intro u hu
    rw [Lib.decDigits]
    by_cases h1 : u < 10
    · rw [dif_pos h1]; simp
    · rw [dif_neg h1]
      have := ih (u / 10) (by rw [Nat.pow_succ] at hu; omega)
      simp only [List.length_append, List.length_cons, List.length_nil]
      omega
def I64 (n : Int) : Prop := -9223372036854775808 ≤ n ∧ n ≤ 9223372036854775807
theorem itoaB_size {n : Int} (h : I64 n) : (itoaB n).size ≤ 20 := by
  unfold itoaB
  rw [sizeL]
  unfold Lib.itoa
  obtain ⟨h1, h2⟩ := h
  split
  · have := decDigits_len 18 n.natAbs (by omega)
    simp only [List.length_cons]
    omega
  · have := decDigits_len 18 n.toNat (by omega)
    omega
theorem digit_eq {d : Nat} (h : d < 10) : bytesOf [IntKind.wrap .u8 (IntKind.wrap .i64 ((48 : Int) + (d : Int)))] = ⟨[UInt8.ofNat (48 + d)].toArray⟩ := by
  have h1 : IntKind.wrap .i64 ((48 : Int) + (d : Int)) = 48 + (d : Int) := wrap64 (by omega) (by omega)
  have h2 : IntKind.wrap .u8 ((48 : Int) + (d : Int)) = 48 + (d : Int) := by
    have hd : d = 0 ∨ d = 1 ∨ d = 2 ∨ d = 3 ∨ d = 4 ∨ d = 5 ∨ d = 6 ∨ d = 7 ∨ d = 8 ∨ d = 9 := by omega
    rcases hd with rfl | rfl | rfl | rfl | rfl | rfl | rfl | rfl | rfl | rfl <;> rfl
  rw [h1, h2]
  have h3 : ((48 : Int) + (d : Int)).toNat = 48 + d := by omega
  simp only [bytesOf, List.foldl_cons, List.foldl_nil, h3]
  apply ByteArray.ext
  rw [ByteArray.data_push]
  rfl
theorem ten_both (x : Int) : (0 ≤ x ∧ Int.tdiv x 10 = x / 10 ∧ Int.tmod x 10 = x % 10) ∨ (x < 0 ∧ Int.tdiv x 10 = -((-x) / 10) ∧ Int.tmod x 10 = -((-x) % 10)) := by
  by_cases h : 0 ≤ x
  · exact .inl ⟨h, Int.tdiv_eq_ediv_of_nonneg h, Int.tmod_eq_emod_of_nonneg h⟩
  · refine .inr ⟨by omega, ?_, ?_⟩
    · have h1 := Int.neg_tdiv (-x) 10
      rw [Int.neg_neg] at h1
      rw [h1, Int.tdiv_eq_ediv_of_nonneg (by omega)]
    · have h1 := Int.neg_tmod (-x) 10
      rw [Int.neg_neg] at h1
      rw [h1, Int.tmod_eq_emod_of_nonneg (by omega)]
theorem fmt_loop {x0 : Int} {k : ByteArray → Option Ret} : ∀ (m n : Nat) (x : Int) (acc : ByteArray), x.natAbs < 10 ^ m → m < n → I64 x → acc.size + m ≤ 1000 → spec_FormatInt_l5 x0 n k acc x = k (⟨(dg x.natAbs).toArray⟩ ++ acc) := by
  intro m
  induction m with
  | zero =>
    intro n x acc hx hn hr hs
    obtain ⟨n, rfl⟩ : ∃ n', n = n' + 1 := ⟨n - 1, by omega⟩
    have : x = 0 := by omega
    subst this
    simp only [spec_FormatInt_l5, bne_self_eq_false, cond_false]
    show k acc = k (⟨#[]⟩ ++ acc)
    rw [nilB]
  | succ m ih =>
    intro n x acc hx hn hr hs
    obtain ⟨n, rfl⟩ : ∃ n', n = n' + 1 := ⟨n - 1, by omega⟩
    by_cases h0 : x = 0
    · subst h0
      simp only [spec_FormatInt_l5, bne_self_eq_false, cond_false]
      show k acc = k (⟨#[]⟩ ++ acc)
      rw [nilB]
    · have hne : (x != (0 : Int)) = true := by simpa using h0
      obtain ⟨hr1, hr2⟩ := hr
      have hu : x.natAbs ≠ 0 := by omega
      have hd : x.natAbs % 10 < 10 := by omega
      have hq : (Int.tdiv x 10).natAbs = x.natAbs / 10 := by
        rw [Int.natAbs_tdiv]
        rfl
      have ht := Int.mul_tdiv_add_tmod x 10
      have hb : -9223372036854775808 ≤ Int.tdiv x 10 ∧ Int.tdiv x 10 ≤ 9223372036854775807 := by omega
      have hj : spec_FormatInt_j1 (spec_FormatInt_l5 x0 n k) acc x ((x.natAbs % 10 : Nat) : Int) = k (⟨(dg x.natAbs).toArray⟩ ++ acc) := by
        unfold spec_FormatInt_j1
        rw [digit_eq hd, sizeL, decide_eq_true (by simp only [List.length_cons, List.length_nil]; omega), cond_true, wrap64 (by omega) (by omega), ih n _ _ (by rw [hq, Nat.pow_succ] at *; omega) (by omega) hb (by rw [ByteArray.size_append, sizeL]; simp only [List.length_cons, List.length_nil]; omega), hq, ← ByteArray.append_assoc, appB (dg (x.natAbs / 10)) [UInt8.ofNat (48 + x.natAbs % 10)], ← dg_step hu]
      simp only [spec_FormatInt_l5, hne, cond_true]
      by_cases hneg : Int.tmod x 10 < 0
      · rw [decide_eq_true hneg, cond_true]
        have e : IntKind.wrap .i64 (0 - Int.tmod x 10) = ((x.natAbs % 10 : Nat) : Int) := by
          rcases ten_both x with ⟨q1, q2, q3⟩ | ⟨q1, q2, q3⟩
          · omega
          · rw [q3, wrap64 (by omega) (by omega)]
            omega
        rw [e]
        exact hj
      · rw [decide_eq_false hneg, cond_false]
        have e : Int.tmod x 10 = ((x.natAbs % 10 : Nat) : Int) := by
          rcases ten_both x with ⟨q1, q2, q3⟩ | ⟨q1, q2, q3⟩ <;> omega
        rw [e]
        exact hj
theorem spec_FormatInt_ok {N : Nat} {n : Int} {kf : ByteArray → Option Ret} (h : I64 n) (hN : 20 < N) : spec_FormatInt N n kf = kf (itoaB n) := by
  unfold spec_FormatInt
  obtain ⟨h1, h2⟩ := h
  by_cases h0 : n = 0
  · subst h0
    have e : itoaB 0 = s_0 := by
      unfold itoaB Lib.itoa
      rw [if_neg (by decide), Lib.decDigits, dif_pos (by decide)]
      rfl
    rw [e]
    rfl
  · have hne : (n == (0 : Int)) = false := beq_eq_false_iff_ne.2 h0
    rw [hne, cond_false, fmt_loop 19 N n _ (by omega) (by omega) ⟨h1, h2⟩ (by show (0 : Nat) + 19 ≤ 1000; omega)]
    have hl := decDigits_len 18 n.natAbs (by omega)
    have hdg : dg n.natAbs = Lib.decDigits n.natAbs := by unfold dg; rw [if_neg (by omega)]
    have hs : (⟨(dg n.natAbs).toArray⟩ ++ s_e : ByteArray) = ⟨(Lib.decDigits n.natAbs).toArray⟩ := by
      rw [hdg]
      show _ ++ (⟨([] : List UInt8).toArray⟩ : ByteArray) = _
      rw [appB, List.append_nil]
    rw [hs]
    by_cases hneg : n < 0
    · rw [decide_eq_true hneg, cond_true]
      have e1 : s_h2d = ⟨[(45 : UInt8)].toArray⟩ := rfl
      rw [e1, sizeL, sizeL, decide_eq_true (by simp only [List.length_cons, List.length_nil]; omega), cond_true, appB]
      unfold itoaB Lib.itoa
      rw [if_pos hneg]
      rfl
    · rw [decide_eq_false hneg, cond_false]
      unfold itoaB Lib.itoa
      rw [if_neg hneg]
      have : n.natAbs = n.toNat := by omega
      rw [this]
theorem impl_FormatInt_ok {N : Nat} {n : Int} {kf : ByteArray → Option Ret} (h : I64 n) : impl_FormatInt N n kf = kf (itoaB n) := by
  unfold impl_FormatInt strconv_Itoa
  rw [decide_eq_true h.1, decide_eq_true h.2]
  rfl
end Go.Pv.R
namespace Go.Pv.R
set_option linter.unusedVariables false
set_option linter.unusedSimpArgs false
theorem bext {a b : ByteArray} (h : a.data.toList = b.data.toList) : a = b := ByteArray.ext (Array.ext' h)
theorem data_app (a b : ByteArray) : (a ++ b).data.toList = a.data.toList ++ b.data.toList := by rw [ByteArray.data_append, Array.toList_append]
theorem size_app (a b : ByteArray) : (a ++ b).size = a.size + b.size := ByteArray.size_append
/-- The texts behind the first one. -/
def tailB (sep : ByteArray) (r : List ByteArray) : ByteArray := ⟨(Lib.joinTail sep.data.toList (r.map (·.data.toList))).toArray⟩
theorem tailB_cons (sep x : ByteArray) (r : List ByteArray) (s : ByteArray) : ((s ++ sep) ++ x) ++ tailB sep r = s ++ tailB sep (x :: r) := by
  apply bext
  simp only [data_app, tailB, Lib.joinTail, List.map_cons, List.flatten_cons, List.append_assoc]
theorem tailB_nil (sep s : ByteArray) : s ++ tailB sep [] = s := by
  apply bext
  simp [data_app, tailB, Lib.joinTail]
theorem joinB_cons (sep x : ByteArray) (r : List ByteArray) : joinB (x :: r) sep = x ++ tailB sep r := by
  apply bext
  simp only [data_app, tailB, joinB, List.map_cons, Lib.join_cons]
theorem tailB_size (sep : ByteArray) : ∀ (r : List ByteArray) (m : Nat), (∀ y ∈ r, y.size ≤ m) → (tailB sep r).size ≤ (sep.size + m) * r.length
  | [], m, _ => by show (0 : Nat) ≤ _; omega
  | x :: r, m, h => by
    have ih := tailB_size sep r m (fun y hy => h y (by simp [hy]))
    have hx := h x (by simp)
    have e : tailB sep (x :: r) = (sep ++ x) ++ tailB sep r := by
      apply bext
      simp only [data_app, tailB, Lib.joinTail, List.map_cons, List.flatten_cons, List.append_assoc]
    rw [e, size_app, size_app, List.length_cons, Nat.mul_succ]
    omega
theorem joinB_size {sep : ByteArray} {r : List ByteArray} {m : Nat} (h : ∀ y ∈ r, y.size ≤ m) : (joinB r sep).size ≤ (sep.size + m) * r.length := by
  cases r with
  | nil => show (0 : Nat) ≤ _; omega
  | cons x r =>
    rw [joinB_cons, size_app, List.length_cons, Nat.mul_succ]
    have := tailB_size sep r m (fun y hy => h y (by simp [hy]))
    have := h x (by simp)
    omega
/-- A loop that joins. -/
theorem join_tail {sep : ByteArray} {body : Nat → ByteArray → ByteArray → (ByteArray → Option Ret) → Option Ret} {k : ByteArray → Option Ret} {m L : Nat} (hL : (sep.size + m) * (L + 1) ≤ 9000000000000000000)
    (hb : ∀ (i : Nat) (x s : ByteArray) (next : ByteArray → Option Ret), 0 < i → (s ++ sep).size ≤ 9223372036854775807 → ((s ++ sep) ++ x).size ≤ 9223372036854775807 → body i x s next = next ((s ++ sep) ++ x)) :
    ∀ (r : List ByteArray) (i : Nat) (s : ByteArray), 0 < i → i + r.length ≤ L → (∀ y ∈ r, y.size ≤ m) → s.size ≤ (sep.size + m) * i → goL1 body k r i s = k (s ++ tailB sep r)
  | [], i, s, _, _, _, _ => by rw [tailB_nil]; rfl
  | x :: r, i, s, hi, hl, hr, hs => by
    have hx := hr x (by simp)
    simp only [List.length_cons] at hl
    have h1 : (sep.size + m) * (i + 1) ≤ (sep.size + m) * (L + 1) := Nat.mul_le_mul_left _ (by omega)
    rw [Nat.mul_succ] at h1
    simp only [goL1]
    rw [hb i x s _ hi (by rw [size_app]; omega) (by rw [size_app, size_app]; omega), join_tail hL hb r (i + 1) _ (by omega) (by omega) (fun y hy => hr y (by simp [hy])) (by rw [size_app, size_app, Nat.mul_succ]; omega), tailB_cons]
noncomputable def joinM (l : List ByteArray) : ByteArray := match l with
  | [] => s_h2d
  | x :: r => joinB (x :: r) s_h20
theorem spec_l39Join_ok {N : Nat} {l : List ByteArray} {kf : ByteArray → Option Ret} (hm : ∀ y ∈ l, y.size ≤ 200) (hl : l.length ≤ 1048576) (hN : l.length < N) : spec_l39Join N l kf = kf (joinM l) := by
  have h0 := maxLen_eq
  unfold spec_l39Join
  rw [spec_l39Join_l3_r (by omega) hN]
  cases l with
  | nil => rfl
  | cons x r =>
    have hx := hm x (by simp)
    simp only [List.length_cons] at hl
    have e1 : s_h20.size = 1 := rfl
    have e0 : s_e.size = 0 := rfl
    simp only [goL1]
    rw [decide_eq_false (by omega), cond_false, decide_eq_true (by omega), cond_true, join_tail (sep := s_h20) (m := 200) (L := 1048577) (by omega) (fun i x s next hi h1 h2 => ?_) r (0 + 1) _ (by omega) (by omega) (fun y hy => hm y (by simp [hy])) (by rw [size_app]; omega)]
    · have e2 : ((List.length (x :: r) : Int) == (0 : Int)) = false := beq_eq_false_iff_ne.2 (by simp only [List.length_cons]; omega)
      rw [e2, cond_false]
      show _ = kf (joinB (x :: r) s_h20)
      rw [joinB_cons]
      congr 1
    · rw [size_app] at h1 h2
      rw [decide_eq_true (by omega), cond_true, decide_eq_true (by omega), decide_eq_true (by omega)]
      rfl
theorem impl_joined_ok {N : Nat} {l : List ByteArray} {kf : ByteArray → Option Ret} (hm : ∀ y ∈ l, y.size ≤ 200) (hl : l.length ≤ 1048576) : impl_joined N l kf = kf (joinM l) := by
  unfold impl_joined
  cases l with
  | nil => rfl
  | cons x r =>
    have e2 : ((List.length (x :: r) : Int) == (0 : Int)) = false := beq_eq_false_iff_ne.2 (by simp only [List.length_cons]; omega)
    rw [e2, cond_false]
    unfold strings_Join joinM
    have h1 := joinB_size (sep := s_h20) hm
    have e1 : s_h20.size = 1 := rfl
    have h2 : (s_h20.size + 200) * (x :: r).length ≤ (s_h20.size + 200) * 1048576 := Nat.mul_le_mul_left _ hl
    have e3 : Nat.ble (List.length (x :: r)) 140737488355328 = true := by rw [Nat.ble_eq]; omega
    have e4 : Nat.ble (ByteArray.size (joinB (x :: r) s_h20)) 140737488355328 = true := by rw [Nat.ble_eq]; omega
    rw [e3, e4]
    rfl
theorem gatherI_mem {α β : Type} {c : Nat → α → Bool} {f : Nat → α → β} {y : β} : ∀ {l : List α} {i : Nat}, y ∈ gatherI c f l i → ∃ j x, x ∈ l ∧ y = f j x
  | [], i, h => by simp [gatherI] at h
  | x :: r, i, h => by
    simp only [gatherI] at h
    cases hc : c i x with
    | true =>
      rw [hc, cond_true] at h
      rcases List.mem_cons.1 h with rfl | h
      · exact ⟨i, x, by simp, rfl⟩
      · obtain ⟨j, z, hz, e⟩ := gatherI_mem h
        exact ⟨j, z, by simp [hz], e⟩
    | false =>
      rw [hc, cond_false] at h
      obtain ⟨j, z, hz, e⟩ := gatherI_mem h
      exact ⟨j, z, by simp [hz], e⟩
theorem i64_of {n : Int} (h : wf (.int .i64) n) : I64 n := by
  simp only [wf, Lit.wf, IntKind.min, IntKind.max, IntKind.signed, IntKind.bits, Bool.and_eq_true, decide_eq_true_eq, if_true] at h
  unfold I64
  omega
end Go.Pv.R
namespace Go.Pv.R
set_option linter.unusedVariables false
set_option linter.unusedSimpArgs false
theorem sm {a b : Nat} (h : a + b ≤ 4000) : decide (a + b ≤ 9223372036854775807) = true := decide_eq_true (by omega)
abbrev Point := QIIIE
noncomputable def stateB (n : Int) : ByteArray := ByteArray.extract s_h3f2b2d212e (Int.toNat n) (Int.toNat (n + 1))
noncomputable def pointB (x : Point) : ByteArray := bif inR x.2.1 1 2 && inR x.2.2 0 4 then (((itoaB x.1 ++ s_h3a) ++ itoaB x.2.1) ++ stateB x.2.2) else s_e
structure Point64 (x : Point) : Prop where
  h1 : I64 x.1
  h2 : I64 x.2.1
theorem point64 {x : Point} (h : wf tQIIIE x) : Point64 x := ⟨i64_of h.1, i64_of h.2.1⟩
theorem stateB_size (n : Int) : (stateB n).size ≤ 5 := by
  unfold stateB
  rw [ByteArray.size_extract]
  have : s_h3f2b2d212e.size = 5 := rfl
  omega
theorem pointB_size {x : Point} (h : Point64 x) : (pointB x).size ≤ 100 := by
  have a1 := itoaB_size h.h1; have a2 := itoaB_size h.h2; have a3 := stateB_size x.2.2
  have c1 : s_h3a.size = 1 := rfl; have c2 : s_e.size = 0 := rfl
  unfold pointB
  cases inR x.2.1 1 2 && inR x.2.2 0 4 with
  | false => show s_e.size ≤ _; omega
  | true =>
    show ByteArray.size (((itoaB x.1 ++ s_h3a) ++ itoaB x.2.1) ++ stateB x.2.2) ≤ _
    simp only [size_app]
    omega
theorem spec_PointText_ok {N : Nat} {x : Point} {kf : ByteArray → Option Ret} (h : Point64 x) (hN : 20 < N) : spec_PointText N x kf = kf (pointB x) := by
  have a1 := itoaB_size h.h1; have a2 := itoaB_size h.h2; have a3 := stateB_size x.2.2
  have c1 : s_h3a.size = 1 := rfl
  unfold spec_PointText pointB
  rw [spec_l1In_ok]
  cases hr1 : inR x.2.1 1 2 with
  | false => rfl
  | true =>
    simp only [Bool.not_true, cond_false, Bool.true_and]
    rw [spec_l1In_ok]
    cases hr2 : inR x.2.2 0 4 with
    | false => rfl
    | true =>
      obtain ⟨r1, r2⟩ := inR_iff.1 hr2
      have hw : IntKind.wrap .i64 (x.2.2 + (1 : Int)) = x.2.2 + 1 := wrap64 (by omega) (by omega)
      have c3 : s_h3f2b2d212e.size = 5 := rfl
      have d1 : (decide ((0 : Int) ≤ x.2.2) && decide (x.2.2 ≤ x.2.2 + 1) && decide (x.2.2 + 1 ≤ (ByteArray.size s_h3f2b2d212e : Int))) = true := by
        simp only [Bool.and_eq_true, decide_eq_true_eq]
        omega
      simp only [Bool.not_true, cond_false, cond_true, hw, d1]
      have a3' : (ByteArray.extract s_h3f2b2d212e (Int.toNat x.2.2) (Int.toNat (x.2.2 + 1))).size ≤ 5 := a3
      rw [spec_FormatInt_ok h.h1 hN, sm (by first | omega | (simp only [size_app]; omega)), cond_true, spec_FormatInt_ok h.h2 hN, sm (by first | omega | (simp only [size_app]; omega)), cond_true, sm (by first | omega | (simp only [size_app]; omega)), cond_true]
      rfl
theorem impl_PointText_ok {N : Nat} {x : Point} {kf : ByteArray → Option Ret} (h : Point64 x) (hN : 20 < N) : impl_PointText N x kf = kf (pointB x) := by
  have a1 := itoaB_size h.h1; have a2 := itoaB_size h.h2; have a3 := stateB_size x.2.2
  have c1 : s_h3a.size = 1 := rfl
  unfold impl_PointText pointB
  rw [impl_InRange_ok]
  cases hr1 : inR x.2.1 1 2 with
  | false => rfl
  | true =>
    simp only [Bool.not_true, cond_false, Bool.true_and]
    rw [impl_InRange_ok]
    cases hr2 : inR x.2.2 0 4 with
    | false => rfl
    | true =>
      obtain ⟨r1, r2⟩ := inR_iff.1 hr2
      have hw : IntKind.wrap .i64 (x.2.2 + (1 : Int)) = x.2.2 + 1 := wrap64 (by omega) (by omega)
      have c3 : s_h3f2b2d212e.size = 5 := rfl
      have d1 : (decide ((0 : Int) ≤ x.2.2) && decide (x.2.2 ≤ x.2.2 + 1) && decide (x.2.2 + 1 ≤ (ByteArray.size s_h3f2b2d212e : Int))) = true := by
        simp only [Bool.and_eq_true, decide_eq_true_eq]
        omega
      simp only [Bool.not_true, cond_false, cond_true, hw, d1]
      have a3' : (ByteArray.extract s_h3f2b2d212e (Int.toNat x.2.2) (Int.toNat (x.2.2 + 1))).size ≤ 5 := a3
      rw [impl_FormatInt_ok h.h1, sm (by first | omega | (simp only [size_app]; omega)), cond_true, impl_FormatInt_ok h.h2, sm (by first | omega | (simp only [size_app]; omega)), cond_true, sm (by first | omega | (simp only [size_app]; omega)), cond_true]
      rfl
noncomputable def markB (s : ByteArray) : ByteArray := bif ByteArray.toList s == ByteArray.toList s_e then s_h3f else s
noncomputable def pointsB (l : List Point) : List ByteArray := gatherI (fun _ _ => true) (fun _ x => markB (pointB x)) l 0
theorem pointsB_ok {l : List Point} (h : ∀ x ∈ l, Point64 x) (hl : l.length ≤ 1048576) : (∀ y ∈ pointsB l, y.size ≤ 200) ∧ (pointsB l).length ≤ l.length := by
  refine ⟨fun y hy => ?_, gatherI_len l 0⟩
  obtain ⟨j, x, hx, rfl⟩ := gatherI_mem hy
  have := pointB_size (h x hx)
  have c : s_h3f.size = 1 := rfl
  unfold markB
  cases ByteArray.toList (pointB x) == ByteArray.toList s_e with
  | true => show s_h3f.size ≤ _; omega
  | false => show (pointB x).size ≤ _; omega
theorem spec_FormatPoints_ok {N : Nat} {l : List Point} {kf : ByteArray → Option Ret} (h : ∀ x ∈ l, Point64 x) (hl : l.length ≤ 1048576) (hN : l.length + 20 < N) : spec_FormatPoints N l kf = kf (joinM (pointsB l)) := by
  have h0 := maxLen_eq
  unfold spec_FormatPoints
  rw [spec_FormatPoints_l3_r (by omega) (by omega), goL1_gather (l := l) (c := fun _ _ => true) (f := fun _ x => markB (pointB x)) (fun i x s next hi e hs => ?_) l 0 [] rfl (by simp)]
  · rw [List.nil_append]
    have hb := pointsB_ok h hl
    have hb2 := hb.2
    show spec_l39Join N (pointsB l) kf = _
    exact spec_l39Join_ok hb.1 (by omega) (by omega)
  · rw [spec_PointText_ok (h x (by rw [← e]; exact List.getElem_mem hi)) (by omega)]
    unfold markB
    cases ByteArray.toList (pointB x) == ByteArray.toList s_e with
    | true => rw [cond_true, decide_eq_true (by simp only [List.length_cons, List.length_nil]; omega)]; rfl
    | false => rw [cond_false, decide_eq_true (by simp only [List.length_cons, List.length_nil]; omega)]; rfl
theorem impl_FormatPoints_ok {N : Nat} {l : List Point} {kf : ByteArray → Option Ret} (h : ∀ x ∈ l, Point64 x) (hl : l.length ≤ 1048576) (hN : l.length + 20 < N) : impl_FormatPoints N l kf = kf (joinM (pointsB l)) := by
  have h0 := maxLen_eq
  unfold impl_FormatPoints
  rw [impl_FormatPoints_l3_r (by omega) (by omega), goL1_gather (l := l) (c := fun _ _ => true) (f := fun _ x => markB (pointB x)) (fun i x s next hi e hs => ?_) l 0 [] rfl (by simp)]
  · rw [List.nil_append]
    have hb := pointsB_ok h hl
    have hb2 := hb.2
    show impl_joined N (pointsB l) kf = _
    exact impl_joined_ok hb.1 (by omega)
  · rw [impl_PointText_ok (h x (by rw [← e]; exact List.getElem_mem hi)) (by omega)]
    unfold markB
    cases ByteArray.toList (pointB x) == ByteArray.toList s_e with
    | true => rw [cond_true, decide_eq_true (by simp only [List.length_cons, List.length_nil]; omega)]; rfl
    | false => rw [cond_false, decide_eq_true (by simp only [List.length_cons, List.length_nil]; omega)]; rfl
theorem lawFnExactFormatPoints (l : List Point) (h : wfs [.sl tQIIIE] (l, ())) : ∃ N, ∀ kf, laws_FnExactFormatPoints N l kf = kf true := by
  refine ⟨2 * sizeV (.sl tQIIIE) l + 100, fun kf => ?_⟩
  have hw : wf (.sl tQIIIE) l := h.1
  have hs := sizeV_len (t := tQIIIE) l
  unfold laws_FnExactFormatPoints
  rw [laws_szPointS_ok hw (by omega) (by omega) (by omega)]
  refine small_or (by omega) fun hb => ?_
  have hq : ∀ x ∈ l, Point64 x := fun x hx => point64 (hw.2 x hx)
  generalize hN : 2 * sizeV (.sl tQIIIE) l + 100 = N at *
  have h1 : ∀ k, laws_toPointS N l k = k l := fun k => laws_toPointS_ok (by omega) (by omega)
  have h2 : ∀ k, spec_FormatPoints N l k = k (joinM (pointsB l)) := fun k => spec_FormatPoints_ok hq (by omega) (by omega)
  have h3 : ∀ k, impl_FormatPoints N l k = k (joinM (pointsB l)) := fun k => impl_FormatPoints_ok hq (by omega) (by omega)
  have h4 : ∀ k, laws_eqPointS N l l k = k true := fun k => laws_eqPointS_ok (by omega) (by omega)
  simp only [h1, h2, h3, h4, beq_self_eq_true, Bool.not_true, cond_false]
end Go.Pv.R
namespace Go.Pv.R
set_option linter.unusedVariables false
set_option linter.unusedSimpArgs false
end Go.Pv.R
namespace Go.Pv.R
set_option linter.unusedVariables false
set_option linter.unusedSimpArgs false
end Go.Pv.R
namespace Go.Pv.R
set_option linter.unusedVariables false
set_option linter.unusedSimpArgs false
end Go.Pv.R
namespace Go.Pv.R
set_option linter.unusedVariables false
set_option linter.unusedSimpArgs false
end Go.Pv.R
