/- The law over the plain functions. -/
import Derived.Test.YthdoldaaodmeeaaDoorPlHz
namespace Go.Pv.R
set_option linter.unusedVariables false
set_option linter.unusedSimpArgs false
end Go.Pv.R
namespace Go.Pv.R
set_option linter.unusedVariables false
set_option linter.unusedSimpArgs false
/-- What is asked first: is it all small? -/
theorem small_or {left : Int} {s : Nat} {A B : Option Ret} (h0 : 0 ≤ left) (h : (s : Int) ≤ left → B = A) : (bif decide (szr left s < 0) then A else B) = A := by
  by_cases hn : szr left s < 0
  · rw [decide_eq_true hn]; rfl
  · rw [decide_eq_false hn, cond_false]
    exact h (by have := (szr_neg (s := s) h0); omega)
end Go.Pv.R
namespace Go.Pv.R
set_option linter.unusedVariables false
set_option linter.unusedSimpArgs false
end Go.Pv.R
namespace Go.Pv
set_option linter.unusedVariables false
set_option linter.unusedSimpArgs false
end Go.Pv
namespace Go.Pv.R
set_option linter.unusedVariables false
set_option linter.unusedSimpArgs false
end Go.Pv.R
namespace Go.Pv
set_option linter.unusedVariables false
set_option linter.unusedSimpArgs false
/-- What a loop gathers. -/
def gatherI {α β : Type} (c : Nat → α → Bool) (f : Nat → α → β) : List α → Nat → List β
  | [], _ => []
  | x :: r, i => bif c i x then f i x :: gatherI c f r (i + 1) else gatherI c f r (i + 1)
theorem goL1_gather {α β : Type} {body : Nat → α → List β → (List β → Option Ret) → Option Ret} {kend : List β → Option Ret} {c : Nat → α → Bool} {f : Nat → α → β} {l : List α}
    (hb : ∀ (i : Nat) (x : α) (s : List β) (next : List β → Option Ret) (h : i < l.length), l[i] = x → s.length ≤ i → body i x s next = bif c i x then next (s ++ [f i x]) else next s) :
    ∀ (r : List α) (i : Nat) (s : List β), l.drop i = r → s.length ≤ i → goL1 body kend r i s = kend (s ++ gatherI c f r i)
  | [], i, s, _, _ => by simp [goL1, gatherI]
  | x :: r, i, s, hd, hs => by
    have hlt : i < l.length := by have := congrArg List.length hd; simp at this; omega
    rw [List.drop_eq_getElem_cons hlt] at hd
    injection hd with h1 h2
    simp only [goL1, gatherI]
    rw [hb i x s _ hlt h1 hs]
    cases c i x
    · rw [cond_false, cond_false]
      exact goL1_gather hb r (i + 1) s h2 (by omega)
    · rw [cond_true, cond_true, goL1_gather hb r (i + 1) (s ++ [f i x]) h2 (by simp; omega)]
      simp
theorem appOK {a b k : Nat} (h : a + b ≤ 4000000000000 / k) (hk : 0 < k) : decide ((a + b) * k ≤ 4398046511104) = true := by
  refine decide_eq_true ?_
  have := Nat.mul_le_mul_right k h
  have := Nat.div_mul_le_self 4000000000000 k
  omega
end Go.Pv
namespace Go.Pv.R
set_option linter.unusedVariables false
set_option linter.unusedSimpArgs false
end Go.Pv.R
namespace Go.Pv.R
set_option linter.unusedVariables false
set_option linter.unusedSimpArgs false
end Go.Pv.R
namespace Go.Pv.R
set_option linter.unusedVariables false
set_option linter.unusedSimpArgs false
end Go.Pv.R
namespace Go.Pv
set_option linter.unusedVariables false
set_option linter.unusedSimpArgs false
end Go.Pv
namespace Go.Pv.R
set_option linter.unusedVariables false
set_option linter.unusedSimpArgs false
end Go.Pv.R
namespace Go.Pv.R
set_option linter.unusedVariables false
set_option linter.unusedSimpArgs false
end Go.Pv.R
namespace Go.Pv.R
set_option linter.unusedVariables false
set_option linter.unusedSimpArgs false
end Go.Pv.R
namespace Go.Pv
set_option linter.unusedVariables false
set_option linter.unusedSimpArgs false
end Go.Pv
namespace Go.Pv.R
set_option linter.unusedVariables false
set_option linter.unusedSimpArgs false
end Go.Pv.R
namespace Go.Pv.R
set_option linter.unusedVariables false
set_option linter.unusedSimpArgs false
end Go.Pv.R
namespace Go.Pv.R
set_option linter.unusedVariables false
set_option linter.unusedSimpArgs false
end Go.Pv.R
namespace Go.Pv.R
set_option linter.unusedVariables false
set_option linter.unusedSimpArgs false
end Go.Pv.R
namespace Go.Pv.R
set_option linter.unusedVariables false
set_option linter.unusedSimpArgs false
theorem appB (a b : List UInt8) : (⟨a.toArray⟩ ++ ⟨b.toArray⟩ : ByteArray) = ⟨(a ++ b).toArray⟩ := by
  apply ByteArray.ext
  rw [ByteArray.data_append]
  simp
theorem nilB (b : ByteArray) : (⟨#[]⟩ : ByteArray) ++ b = b := by
  apply ByteArray.ext
  rw [ByteArray.data_append]
  simp
theorem sizeL (l : List UInt8) : ByteArray.size ⟨l.toArray⟩ = l.length := by simp [ByteArray.size]
/-- The digits of what is left; none of nothing. -/
def dg (u : Nat) : List UInt8 := if u = 0 then [] else Lib.decDigits u
theorem dg_step {u : Nat} (h : u ≠ 0) : dg u = dg (u / 10) ++ [UInt8.ofNat (48 + u % 10)] := by
  unfold dg
  rw [if_neg h]
  rw [Lib.decDigits]
  by_cases h1 : u < 10
  · rw [dif_pos h1, if_pos (by omega), Nat.mod_eq_of_lt h1]
    rfl
  · rw [dif_neg h1, if_neg (by omega)]
theorem decDigits_len : ∀ (m u : Nat), u < 10 ^ (m + 1) → (Lib.decDigits u).length ≤ m + 1 := by
  intro m
  induction m with
  | zero =>
    intro u hu
    rw [Lib.decDigits, dif_pos (by omega)]
    simp
  | succ m ih =>
    intro u hu
    rw [Lib.decDigits]
    by_cases h1 : u < 10
    · rw [dif_pos h1]; simp
    · rw [dif_neg h1]
      have := ih (u / 10) (by rw [Nat.pow_succ] at hu; omega)
      simp only [List.length_append, List.length_cons, List.length_nil]
      omega
def I64 (n : Int) : Prop := -9223372036854775808 ≤ n ∧ n ≤ 9223372036854775807
theorem itoaB_size {n : Int} (h : I64 n) : (itoaB n).size ≤ 20 := by
  unfold itoaB
  rw [sizeL]
  unfold Lib.itoa
  obtain ⟨h1, h2⟩ := h
  split
  · have := decDigits_len 18 n.natAbs (by omega)
    simp only [List.length_cons]
    omega
  · have := decDigits_len 18 n.toNat (by omega)
    omega
theorem digit_eq {d : Nat} (h : d < 10) : bytesOf [IntKind.wrap .u8 (IntKind.wrap .i64 ((48 : Int) + (d : Int)))] = ⟨[UInt8.ofNat (48 + d)].toArray⟩ := by
  have h1 : IntKind.wrap .i64 ((48 : Int) + (d : Int)) = 48 + (d : Int) := wrap64 (by omega) (by omega)
  have h2 : IntKind.wrap .u8 ((48 : Int) + (d : Int)) = 48 + (d : Int) := by
    have hd : d = 0 ∨ d = 1 ∨ d = 2 ∨ d = 3 ∨ d = 4 ∨ d = 5 ∨ d = 6 ∨ d = 7 ∨ d = 8 ∨ d = 9 := by omega
    rcases hd with rfl | rfl | rfl | rfl | rfl | rfl | rfl | rfl | rfl | rfl <;> rfl
  rw [h1, h2]
  have h3 : ((48 : Int) + (d : Int)).toNat = 48 + d := by omega
  simp only [bytesOf, List.foldl_cons, List.foldl_nil, h3]
  apply ByteArray.ext
  rw [ByteArray.data_push]
  rfl
theorem ten_both (x : Int) : (0 ≤ x ∧ Int.tdiv x 10 = x / 10 ∧ Int.tmod x 10 = x % 10) ∨ (x < 0 ∧ Int.tdiv x 10 = -((-x) / 10) ∧ Int.tmod x 10 = -((-x) % 10)) := by
  by_cases h : 0 ≤ x
  · exact .inl ⟨h, Int.tdiv_eq_ediv_of_nonneg h, Int.tmod_eq_emod_of_nonneg h⟩
  · refine .inr ⟨by omega, ?_, ?_⟩
    · have h1 := Int.neg_tdiv (-x) 10
      rw [Int.neg_neg] at h1
      rw [h1, Int.tdiv_eq_ediv_of_nonneg (by omega)]
    · have h1 := Int.neg_tmod (-x) 10
      rw [Int.neg_neg] at h1
      rw [h1, Int.tmod_eq_emod_of_nonneg (by omega)]
theorem fmt_loop {x0 : Int} {k : ByteArray → Option Ret} : ∀ (m n : Nat) (x : Int) (acc : ByteArray), x.natAbs < 10 ^ m → m < n → I64 x → acc.size + m ≤ 1000 → spec_FormatInt_l5 x0 n k acc x = k (⟨(dg x.natAbs).toArray⟩ ++ acc) := by
  intro m
  induction m with
  | zero =>
    intro n x acc hx hn hr hs
    obtain ⟨n, rfl⟩ : ∃ n', n = n' + 1 := ⟨n - 1, by omega⟩
    have : x = 0 := by omega
    subst this
    simp only [spec_FormatInt_l5, bne_self_eq_false, cond_false]
    show k acc = k (⟨#[]⟩ ++ acc)
    rw [nilB]
  | succ m ih =>
    intro n x acc hx hn hr hs
    obtain ⟨n, rfl⟩ : ∃ n', n = n' + 1 := ⟨n - 1, by omega⟩
    by_cases h0 : x = 0
    · subst h0
      simp only [spec_FormatInt_l5, bne_self_eq_false, cond_false]
      show k acc = k (⟨#[]⟩ ++ acc)
      rw [nilB]
    · have hne : (x != (0 : Int)) = true := by simpa using h0
      obtain ⟨hr1, hr2⟩ := hr
      have hu : x.natAbs ≠ 0 := by omega
      have hd : x.natAbs % 10 < 10 := by omega
      have hq : (Int.tdiv x 10).natAbs = x.natAbs / 10 := by
        rw [Int.natAbs_tdiv]
        rfl
      have ht := Int.mul_tdiv_add_tmod x 10
      have hb : -9223372036854775808 ≤ Int.tdiv x 10 ∧ Int.tdiv x 10 ≤ 9223372036854775807 := by omega
      have hj : spec_FormatInt_j1 (spec_FormatInt_l5 x0 n k) acc x ((x.natAbs % 10 : Nat) : Int) = k (⟨(dg x.natAbs).toArray⟩ ++ acc) := by
        unfold spec_FormatInt_j1
        rw [digit_eq hd, sizeL, decide_eq_true (by simp only [List.length_cons, List.length_nil]; omega), cond_true, wrap64 (by omega) (by omega), ih n _ _ (by rw [hq, Nat.pow_succ] at *; omega) (by omega) hb (by rw [ByteArray.size_append, sizeL]; simp only [List.length_cons, List.length_nil]; omega), hq, ← ByteArray.append_assoc, appB (dg (x.natAbs / 10)) [UInt8.ofNat (48 + x.natAbs % 10)], ← dg_step hu]
      simp only [spec_FormatInt_l5, hne, cond_true]
      by_cases hneg : Int.tmod x 10 < 0
      · rw [decide_eq_true hneg, cond_true]
        have e : IntKind.wrap .i64 (0 - Int.tmod x 10) = ((x.natAbs % 10 : Nat) : Int) := by
          rcases ten_both x with ⟨q1, q2, q3⟩ | ⟨q1, q2, q3⟩
          · omega
          · rw [q3, wrap64 (by omega) (by omega)]
            omega
        rw [e]
        exact hj
      · rw [decide_eq_false hneg, cond_false]
        have e : Int.tmod x 10 = ((x.natAbs % 10 : Nat) : Int) := by
          rcases ten_both x with ⟨q1, q2, q3⟩ | ⟨q1, q2, q3⟩ <;> omega
        rw [e]
        exact hj
theorem spec_FormatInt_ok {N : Nat} {n : Int} {kf : ByteArray → Option Ret} (h : I64 n) (hN : 20 < N) : spec_FormatInt N n kf = kf (itoaB n) := by
  unfold spec_FormatInt
  obtain ⟨h1, h2⟩ := h
  by_cases h0 : n = 0
  · subst h0
    have e : itoaB 0 = s_0 := by
      unfold itoaB Lib.itoa
      rw [if_neg (by decide), Lib.decDigits, dif_pos (by decide)]
      rfl
    rw [e]
    rfl
  · have hne : (n == (0 : Int)) = false := beq_eq_false_iff_ne.2 h0
    rw [hne, cond_false, fmt_loop 19 N n _ (by omega) (by omega) ⟨h1, h2⟩ (by show (0 : Nat) + 19 ≤ 1000; omega)]
    have hl := decDigits_len 18 n.natAbs (by omega)
    have hdg : dg n.natAbs = Lib.decDigits n.natAbs := by unfold dg; rw [if_neg (by omega)]
    have hs : (⟨(dg n.natAbs).toArray⟩ ++ s_e : ByteArray) = ⟨(Lib.decDigits n.natAbs).toArray⟩ := by
      rw [hdg]
      show _ ++ (⟨([] : List UInt8).toArray⟩ : ByteArray) = _
      rw [appB, List.append_nil]
    rw [hs]
    by_cases hneg : n < 0
    · rw [decide_eq_true hneg, cond_true]
      have e1 : s_h2d = ⟨[(45 : UInt8)].toArray⟩ := rfl
      rw [e1, sizeL, sizeL, decide_eq_true (by simp only [List.length_cons, List.length_nil]; omega), cond_true, appB]
      unfold itoaB Lib.itoa
      rw [if_pos hneg]
      rfl
    · rw [decide_eq_false hneg, cond_false]
      unfold itoaB Lib.itoa
      rw [if_neg hneg]
      have : n.natAbs = n.toNat := by omega
      rw [this]
theorem impl_FormatInt_ok {N : Nat} {n : Int} {kf : ByteArray → Option Ret} (h : I64 n) : impl_FormatInt N n kf = kf (itoaB n) := by
  unfold impl_FormatInt strconv_Itoa
  rw [decide_eq_true h.1, decide_eq_true h.2]
  rfl
end Go.Pv.R
namespace Go.Pv.R
set_option linter.unusedVariables false
set_option linter.unusedSimpArgs false
theorem bext {a b : ByteArray} (h : a.data.toList = b.data.toList) : a = b := ByteArray.ext (Array.ext' h)
theorem data_app (a b : ByteArray) : (a ++ b).data.toList = a.data.toList ++ b.data.toList := by rw [ByteArray.data_append, Array.toList_append]
theorem size_app (a b : ByteArray) : (a ++ b).size = a.size + b.size := ByteArray.size_append
/-- The texts behind the first one. -/
def tailB (sep : ByteArray) (r : List ByteArray) : ByteArray := ⟨(Lib.joinTail sep.data.toList (r.map (·.data.toList))).toArray⟩
theorem tailB_cons (sep x : ByteArray) (r : List ByteArray) (s : ByteArray) : ((s ++ sep) ++ x) ++ tailB sep r = s ++ tailB sep (x :: r) := by
  apply bext
  simp only [data_app, tailB, Lib.joinTail, List.map_cons, List.flatten_cons, List.append_assoc]
theorem tailB_nil (sep s : ByteArray) : s ++ tailB sep [] = s := by
  apply bext
  simp [data_app, tailB, Lib.joinTail]
theorem joinB_cons (sep x : ByteArray) (r : List ByteArray) : joinB (x :: r) sep = x ++ tailB sep r := by
  apply bext
  simp only [data_app, tailB, joinB, List.map_cons, Lib.join_cons]
theorem tailB_size (sep : ByteArray) : ∀ (r : List ByteArray) (m : Nat), (∀ y ∈ r, y.size ≤ m) → (tailB sep r).size ≤ (sep.size + m) * r.length
  | [], m, _ => by show (0 : Nat) ≤ _; omega
  | x :: r, m, h => by
    have ih := tailB_size sep r m (fun y hy => h y (by simp [hy]))
    have hx := h x (by simp)
    have e : tailB sep (x :: r) = (sep ++ x) ++ tailB sep r := by
      apply bext
      simp only [data_app, tailB, Lib.joinTail, List.map_cons, List.flatten_cons, List.append_assoc]
    rw [e, size_app, size_app, List.length_cons, Nat.mul_succ]
    omega
theorem joinB_size {sep : ByteArray} {r : List ByteArray} {m : Nat} (h : ∀ y ∈ r, y.size ≤ m) : (joinB r sep).size ≤ (sep.size + m) * r.length := by
  cases r with
  | nil => show (0 : Nat) ≤ _; omega
  | cons x r =>
    rw [joinB_cons, size_app, List.length_cons, Nat.mul_succ]
    have := tailB_size sep r m (fun y hy => h y (by simp [hy]))
    have := h x (by simp)
    omega
theorem gatherI_mem {α β : Type} {c : Nat → α → Bool} {f : Nat → α → β} {y : β} : ∀ {l : List α} {i : Nat}, y ∈ gatherI c f l i → ∃ j x, x ∈ l ∧ y = f j x
  | [], i, h => by simp [gatherI] at h
  | x :: r, i, h => by
    simp only [gatherI] at h
    cases hc : c i x with
    | true =>
      rw [hc, cond_true] at h
      rcases List.mem_cons.1 h with rfl | h
      · exact ⟨i, x, by simp, rfl⟩
      · obtain ⟨j, z, hz, e⟩ := gatherI_mem h
        exact ⟨j, z, by simp [hz], e⟩
    | false =>
      rw [hc, cond_false] at h
      obtain ⟨j, z, hz, e⟩ := gatherI_mem h
      exact ⟨j, z, by simp [hz], e⟩
def numsM (l : List Int) : List ByteArray := gatherI (fun _ _ => true) (fun _ x => itoaB x) l 0
theorem i64_of {n : Int} (h : wf (.int .i64) n) : I64 n := by
  simp only [wf, Lit.wf, IntKind.min, IntKind.max, IntKind.signed, IntKind.bits, Bool.and_eq_true, decide_eq_true_eq, if_true] at h
  unfold I64
  omega
theorem i64_mem {l : List Int} (h : wf (.sl (.int .i64)) l) : ∀ x ∈ l, I64 x := fun x hx => i64_of (h.2 x hx)
end Go.Pv.R
namespace Go.Pv.R
set_option linter.unusedVariables false
set_option linter.unusedSimpArgs false
end Go.Pv.R
namespace Go.Pv.R
set_option linter.unusedVariables false
set_option linter.unusedSimpArgs false
theorem gatherI_map {α β : Type} {f : α → β} : ∀ (l : List α) (i : Nat), gatherI (fun _ _ => true) (fun _ x => f x) l i = l.map f
  | [], _ => rfl
  | x :: r, i => by simp only [gatherI, cond_true, List.map_cons]; rw [gatherI_map r (i + 1)]
theorem join_tailF {α : Type} {P : α → Prop} {f : α → ByteArray} {sep : ByteArray} {body : Nat → α → ByteArray → (ByteArray → Option Ret) → Option Ret} {k : ByteArray → Option Ret} {m L S0 : Nat} (hL : S0 + (sep.size + m) * (L + 1) ≤ 9000000000000000000)
    (hb : ∀ (i : Nat) (x : α) (s : ByteArray) (next : ByteArray → Option Ret), 0 < i → P x → (s ++ sep).size ≤ 9223372036854775807 → ((s ++ sep) ++ f x).size ≤ 9223372036854775807 → body i x s next = next ((s ++ sep) ++ f x)) :
    ∀ (r : List α) (i : Nat) (s : ByteArray), 0 < i → i + r.length ≤ L → (∀ y ∈ r, P y ∧ (f y).size ≤ m) → s.size ≤ S0 + (sep.size + m) * i → goL1 body k r i s = k (s ++ tailB sep (r.map f))
  | [], i, s, _, _, _, _ => by rw [List.map_nil, tailB_nil]; rfl
  | x :: r, i, s, hi, hl, hr, hs => by
    have hx := hr x (by simp)
    simp only [List.length_cons] at hl
    have h1 : (sep.size + m) * (i + 1) ≤ (sep.size + m) * (L + 1) := Nat.mul_le_mul_left _ (by omega)
    rw [Nat.mul_succ] at h1
    simp only [goL1]
    rw [hb i x s _ hi hx.1 (by rw [size_app]; omega) (by rw [size_app, size_app]; omega), join_tailF hL hb r (i + 1) _ (by omega) (by omega) (fun y hy => hr y (by simp [hy])) (by rw [size_app, size_app, Nat.mul_succ]; omega), tailB_cons, List.map_cons]
/-- Texts, one behind the other. -/
def catB {α : Type} (f : α → ByteArray) (r : List α) : ByteArray := ⟨((r.map fun x => (f x).data.toList).flatten).toArray⟩
theorem app_loop {α : Type} {f : α → ByteArray} {body : Nat → α → ByteArray → (ByteArray → Option Ret) → Option Ret} {k : ByteArray → Option Ret} {m S0 : Nat} {l : List α} (hL : S0 + m * (l.length + 1) ≤ 9000000000000000000) (hm : ∀ x ∈ l, (f x).size ≤ m)
    (hb : ∀ (i : Nat) (x : α) (s : ByteArray) (next : ByteArray → Option Ret) (h : i < l.length), l[i] = x → s.size ≤ S0 + m * l.length → body i x s next = next (s ++ f x)) :
    ∀ (r : List α) (i : Nat) (s : ByteArray), l.drop i = r → s.size ≤ S0 + m * i → goL1 body k r i s = k (s ++ catB f r)
  | [], i, s, _, _ => by
    have : s ++ catB f [] = s := by apply bext; simp [data_app, catB]
    rw [this]; rfl
  | x :: r, i, s, hd, hs => by
    have hlt : i < l.length := by have := congrArg List.length hd; simp at this; omega
    rw [List.drop_eq_getElem_cons hlt] at hd
    injection hd with h1 h2
    have h3 : m * i ≤ m * l.length := Nat.mul_le_mul_left _ (by omega)
    have h4 := hm x (by rw [← h1]; exact List.getElem_mem hlt)
    simp only [goL1]
    rw [hb i x s _ hlt h1 (by omega), app_loop hL hm hb r (i + 1) _ h2 (by rw [size_app, Nat.mul_succ]; omega)]
    congr 1
    apply bext
    simp only [data_app, catB, List.map_cons, List.flatten_cons, List.append_assoc]
noncomputable def setB (s : List Int) : ByteArray := (s_h7b ++ joinB (numsM s) s_h2c) ++ s_h7d
noncomputable def setsM (l : List (List Int)) : ByteArray := bif (List.length l : Int) == (0 : Int) then s_h2d else s_e ++ catB setB l
structure Set64 (s : List Int) : Prop where
  r : ∀ x ∈ s, I64 x
  l : s.length ≤ 1048576
theorem setB_size {s : List Int} (h : Set64 s) : (joinB (numsM s) s_h2c).size ≤ 30000000 - 2 ∧ (setB s).size ≤ 30000000 := by
  have h1 := joinB_size (sep := s_h2c) (m := 20) (r := numsM s) (fun y hy => by
    obtain ⟨j, x, hx, rfl⟩ := gatherI_mem hy
    exact itoaB_size (h.r x hx))
  have h2 : (numsM s).length = s.length := by unfold numsM; rw [gatherI_map, List.length_map]
  have hl := h.l
  have c1 : s_h2c.size = 1 := rfl; have c2 : s_h7b.size = 1 := rfl; have c3 : s_h7d.size = 1 := rfl
  have h3 : (s_h2c.size + 20) * (numsM s).length ≤ 21 * 1048576 := Nat.mul_le_mul (by omega) (by omega)
  unfold setB
  rw [size_app, size_app]
  omega
theorem spec_set_ok {N : Nat} {l : List (List Int)} {i : Nat} {s : ByteArray} {k : ByteArray → Option Ret} (hi : i < l.length) (h : Set64 l[i]) (hs : s.size ≤ 100000000000000) (hN : 1048600 < N) : spec_SetsText_l7 N l (i : Int) N k s (0 : Int) = k (s ++ joinB (numsM l[i]) s_h2c) := by
  have h0 := maxLen_eq
  have hl := h.l
  have hr := h.r
  have hg : List.getD l (Int.toNat (i : Int)) ([] : List Int) = l[i] := by rw [Int.toNat_natCast, getD_nat _ _ hi]
  rw [spec_SetsText_l7_r (inB_nat hi) (by rw [hg]; omega) (by rw [hg]; omega), hg]
  have c1 : s_h2c.size = 1 := rfl
  have hm : numsM l[i] = l[i].map itoaB := gatherI_map _ _
  rw [hm]
  generalize l[i] = r at hl hr
  cases r with
  | nil =>
    show k s = k (s ++ (⟨#[]⟩ : ByteArray))
    congr 1
    apply bext
    simp [data_app]
  | cons x r =>
    have hx := hr x (by simp)
    have hxs := itoaB_size hx
    simp only [List.length_cons] at hl
    obtain ⟨S0, hS0⟩ : ∃ S0 : Nat, S0 = 100000000000000 := ⟨_, rfl⟩
    obtain ⟨L, hL⟩ : ∃ L : Nat, L = 1048577 := ⟨_, rfl⟩
    simp only [goL1]
    rw [decide_eq_false (by omega), cond_false, spec_FormatInt_ok hx (by omega), decide_eq_true (by omega), cond_true, join_tailF (P := I64) (f := itoaB) (sep := s_h2c) (m := 20) (L := L) (S0 := S0) (by rw [c1, hS0, hL]; exact Nat.le_of_ble_eq_true rfl) (fun i x s next hi hx h1 h2 => ?_) r (0 + 1) _ (by omega) (by omega) (fun y hy => ⟨hr y (by simp [hy]), itoaB_size (hr y (by simp [hy]))⟩) (by rw [size_app]; omega)]
    · rw [List.map_cons, joinB_cons, ByteArray.append_assoc]
    · rw [size_app] at h1 h2
      rw [decide_eq_true (by omega), cond_true, decide_eq_true (by omega), cond_true, spec_FormatInt_ok hx (by omega), decide_eq_true (by omega)]
      rfl
theorem spec_SetsText_ok {N : Nat} {l : List (List Int)} {kf : ByteArray → Option Ret} (h : ∀ s ∈ l, Set64 s) (hl : l.length ≤ 1048576) (hN : 1048600 < N) : spec_SetsText N l kf = kf (setsM l) := by
  have h0 := maxLen_eq
  have c2 : s_h7b.size = 1 := rfl; have c3 : s_h7d.size = 1 := rfl
  unfold spec_SetsText
  have hb1 : 30000000 * l.length ≤ 30000000 * 1048576 := Nat.mul_le_mul_left _ hl
  rw [spec_SetsText_l3_r (by omega) (by omega), app_loop (f := setB) (m := 30000000) (S0 := 0) (l := l) (by omega) (fun x hx => (setB_size (h x hx)).2) (fun i x s next hi e hs => ?_) l 0 _ rfl (by show (0 : Nat) ≤ _; omega)]
  · unfold setsM
    cases (List.length l : Int) == (0 : Int) <;> rfl
  · have q := h _ (List.getElem_mem hi)
    have hz := (setB_size q).1
    subst e
    rw [decide_eq_true (by omega), cond_true, spec_set_ok hi q (by rw [size_app]; omega) hN, decide_eq_true (by rw [size_app, size_app]; omega), cond_true]
    congr 1
    unfold setB
    simp only [ByteArray.append_assoc]
theorem impl_SetsText_ok {N : Nat} {l : List (List Int)} {kf : ByteArray → Option Ret} (h : ∀ s ∈ l, Set64 s) (hl : l.length ≤ 1048576) (hN : 1048600 < N) : impl_SetsText N l kf = kf (setsM l) := by
  have h0 := maxLen_eq
  have c2 : s_h7b.size = 1 := rfl; have c3 : s_h7d.size = 1 := rfl
  unfold impl_SetsText setsM
  have hb1 : 30000000 * l.length ≤ 30000000 * 1048576 := Nat.mul_le_mul_left _ hl
  cases (List.length l : Int) == (0 : Int) with
  | true => rfl
  | false =>
    rw [cond_false, cond_false, impl_SetsText_l5_r (by omega) (by omega), app_loop (f := setB) (m := 30000000) (S0 := 0) (l := l) (by omega) (fun x hx => (setB_size (h x hx)).2) (fun i x s next hi e hs => ?_) l 0 _ rfl (by show (0 : Nat) ≤ _; omega)]
    have q : Set64 x := h x (by rw [← e]; exact List.getElem_mem hi)
    have hz := (setB_size q).1
    have hql := q.l
    have hlen : (numsM x).length = x.length := by unfold numsM; rw [gatherI_map, List.length_map]
    rw [impl_SetsText_l9_r (by omega) (by omega), goL1_gather (l := x) (c := fun _ _ => true) (f := fun _ y => itoaB y) (fun j y s' next' hj e' hs' => ?_) x 0 [] rfl (by simp)]
    · rw [List.nil_append]
      show strings_Join N (numsM x) s_h2c _ = _
      unfold strings_Join
      have e3 : Nat.ble (List.length (numsM x)) 140737488355328 = true := by rw [Nat.ble_eq]; omega
      have e4 : Nat.ble (ByteArray.size (joinB (numsM x) s_h2c)) 140737488355328 = true := by rw [Nat.ble_eq]; omega
      rw [e3, e4, Bool.and_self, cond_true]
      show (bif decide (s_h7b.size + (joinB (numsM x) s_h2c).size ≤ 9223372036854775807) then _ else _) = _
      rw [decide_eq_true (by omega), cond_true, decide_eq_true (by rw [size_app]; omega), cond_true, decide_eq_true (by rw [size_app, size_app]; omega), cond_true]
      rfl
    · rw [impl_FormatInt_ok (q.r y (by rw [← e']; exact List.getElem_mem hj)), appOK (by simp only [List.length_cons, List.length_nil]; omega) (by decide)]
      rfl
theorem lawFnExactSetsText (l : List (List Int)) (h : wfs [.sl (.sl (.int .i64))] (l, ())) : ∃ N, ∀ kf, laws_FnExactSetsText N l kf = kf true := by
  refine ⟨2 * sizeV (.sl (.sl (.int .i64))) l + 1048700, fun kf => ?_⟩
  have hw : wf (.sl (.sl (.int .i64))) l := h.1
  have hs := sizeV_len (t := .sl (.int .i64)) l
  unfold laws_FnExactSetsText
  rw [laws_szIntSS_ok hw (by omega) (by omega) (by omega)]
  refine small_or (by omega) fun hb => ?_
  have hq : ∀ s ∈ l, Set64 s := fun s hs' => by
    refine ⟨i64_mem (hw.2 s hs'), ?_⟩
    have q1 := sizeV_mem (t := .sl (.int .i64)) hs'
    have q2 := sizeV_len (t := .int .i64) s
    omega
  generalize hN : 2 * sizeV (.sl (.sl (.int .i64))) l + 1048700 = N at *
  have h1 : ∀ k, laws_toIntSS N l k = k l := fun k => laws_toIntSS_ok (by omega) (by omega)
  have h2 : ∀ k, spec_SetsText N l k = k (setsM l) := fun k => spec_SetsText_ok hq (by omega) (by omega)
  have h3 : ∀ k, impl_SetsText N l k = k (setsM l) := fun k => impl_SetsText_ok hq (by omega) (by omega)
  have h4 : ∀ k, laws_eqIntSS N l l k = k true := fun k => laws_eqIntSS_ok (by omega) (by omega)
  simp only [h1, h2, h3, h4, beq_self_eq_true, Bool.not_true, cond_false]
end Go.Pv.R
namespace Go.Pv.R
set_option linter.unusedVariables false
set_option linter.unusedSimpArgs false
end Go.Pv.R
namespace Go.Pv.R
set_option linter.unusedVariables false
set_option linter.unusedSimpArgs false
end Go.Pv.R
namespace Go.Pv.R
set_option linter.unusedVariables false
set_option linter.unusedSimpArgs false
end Go.Pv.R
namespace Go.Pv.R
set_option linter.unusedVariables false
set_option linter.unusedSimpArgs false
end Go.Pv.R
