/- The law over the plain functions. -/
import Derived.Test.YtoclmlalcgjplaaDoorPlHz
namespace Go.Pv.R
set_option linter.unusedVariables false
set_option linter.unusedSimpArgs false
end Go.Pv.R
namespace Go.Pv.R
set_option linter.unusedVariables false
set_option linter.unusedSimpArgs false
theorem S66_ok {N : Nat} {a b c : Int} {kf : Bool → Option Ret} : S66 N a b c kf = kf (inR a b c) := by
 unfold S66 inR
 by_cases h : b ≤ a <;> simp [h]
theorem I25_ok {N : Nat} {a b c : Int} {kf : Bool → Option Ret} : I25 N a b c kf = kf (inR a b c) := by
 unfold I25 inR
 by_cases h : b ≤ a <;> simp [h]
end Go.Pv.R
namespace Go.Pv.R
set_option linter.unusedVariables false
set_option linter.unusedSimpArgs false
end Go.Pv.R
namespace Go.Pv
set_option linter.unusedVariables false
set_option linter.unusedSimpArgs false
theorem wrap_pred {i m : Nat} (h0 : 0 < i) (h : i < m) (hm : m ≤ maxLen) : IntKind.wrap .i64 ((i : Int) - 1) = ((i - 1 : Nat) : Int) := by
 have := maxLen_eq
 rw [wrap64] <;> omega
end Go.Pv
namespace Go.Pv.R
set_option linter.unusedVariables false
set_option linter.unusedSimpArgs false
end Go.Pv.R
namespace Go.Pv
set_option linter.unusedVariables false
set_option linter.unusedSimpArgs false
def gatherI {α β : Type} (c : Nat → α → Bool) (f : Nat → α → β) : List α → Nat → List β
 | [], _ => []
 | x :: r, i => bif c i x then f i x :: gatherI c f r (i + 1) else gatherI c f r (i + 1)
theorem goL1_gather {α β : Type} {body : Nat → α → List β → (List β → Option Ret) → Option Ret} {kend : List β → Option Ret} {c : Nat → α → Bool} {f : Nat → α → β} {l : List α}
  (hb : ∀ (i : Nat) (x : α) (s : List β) (next : List β → Option Ret) (h : i < l.length), l[i] = x → s.length ≤ i → body i x s next = bif c i x then next (s ++ [f i x]) else next s) :
  ∀ (r : List α) (i : Nat) (s : List β), l.drop i = r → s.length ≤ i → goL1 body kend r i s = kend (s ++ gatherI c f r i)
 | [], i, s, _, _ => by simp [goL1, gatherI]
 | x :: r, i, s, hd, hs => by
  have hlt : i < l.length := by have := congrArg List.length hd; simp at this; omega
  rw [List.drop_eq_getElem_cons hlt] at hd
  injection hd with h1 h2
  simp only [goL1, gatherI]
  rw [hb i x s _ hlt h1 hs]
  cases c i x
  ·rw [cond_false, cond_false]
   exact goL1_gather hb r (i + 1) s h2 (by omega)
  ·rw [cond_true, cond_true, goL1_gather hb r (i + 1) (s ++ [f i x]) h2 (by simp; omega)]
   simp
end Go.Pv
namespace Go.Pv.R
set_option linter.unusedVariables false
set_option linter.unusedSimpArgs false
end Go.Pv.R
namespace Go.Pv.R
set_option linter.unusedVariables false
set_option linter.unusedSimpArgs false
end Go.Pv.R
namespace Go.Pv.R
set_option linter.unusedVariables false
set_option linter.unusedSimpArgs false
theorem inR_iff {a b c : Int} : inR a b c = true ↔ b ≤ a ∧ a ≤ c := by unfold inR; simp
end Go.Pv.R
namespace Go.Pv
set_option linter.unusedVariables false
set_option linter.unusedSimpArgs false
theorem goL_same {α : Type} [DecidableEq α] {xs ys : List α} {body : Nat → α → Option Ret → Option Ret} {kt kf : Option Ret} (hlen : xs.length = ys.length)
  (hb : ∀ (i : Nat) (x : α) (next : Option Ret) (h : i < xs.length) (h' : i < ys.length), xs[i] = x → body i x next = bif decide (x = ys[i]) then next else kf) : goL body kt xs 0 = bif decide (xs = ys) then kt else kf := by
 have key : ∀ (r : List α) (i : Nat), xs.drop i = r → xs.take i = ys.take i → goL body kt r i = bif decide (xs = ys) then kt else kf := by
  intro r
  induction r with
  | nil =>
   intro i hd he
   have : xs.length ≤ i := by have := congrArg List.length hd; simp at this; omega
   rw [List.take_of_length_le this, List.take_of_length_le (by omega)] at he
   rw [decide_eq_true he]; rfl
  | cons x r ih =>
   intro i hd he
   have hlt : i < xs.length := by have := congrArg List.length hd; simp at this; omega
   rw [List.drop_eq_getElem_cons hlt] at hd
   injection hd with h1 h2
   simp only [goL]
   rw [hb i x _ hlt (by omega) h1]
   by_cases hx : x = ys[i]
   ·rw [decide_eq_true hx, cond_true, ih (i + 1) h2 (by rw [List.take_succ_eq_append_getElem hlt, List.take_succ_eq_append_getElem (by omega), he, h1, hx])]
   ·rw [decide_eq_false hx, cond_false]
    have : ¬ xs = ys := fun e => hx (by rw [← h1]; simp only [e])
    rw [decide_eq_false this]; rfl
 exact key xs 0 rfl rfl
theorem lens {α β : Type} {xs : List α} {ys : List β} {A B : Option Ret} {p : Bool} {kf : Bool → Option Ret} (h : xs.length = ys.length → B = kf p) (h' : xs.length ≠ ys.length → p = false) : (bif ((List.length xs : Int) != (List.length ys : Int)) then kf false else B) = kf p := by
 by_cases hl : xs.length = ys.length
 ·have : ((xs.length : Int) != (ys.length : Int)) = false := by rw [hl]; exact bne_self_eq_false _
  rw [this, cond_false, h hl]
 ·have : ((xs.length : Int) != (ys.length : Int)) = true := by rw [bne_iff_ne]; omega
  rw [this, cond_true, h' hl]
end Go.Pv
namespace Go.Pv.R
set_option linter.unusedVariables false
set_option linter.unusedSimpArgs false
theorem S29_ok {N : Nat} {a b : List Int} {kf : Bool → Option Ret} (hl : a.length ≤ maxLen) (hN : a.length < N) : S29 N a b kf = kf (decide (a = b)) := by
 unfold S29
 refine lens (A := kf true) (fun h => ?_) (fun h => decide_eq_false fun e => h (by rw [e]))
 rw [S29_l4_r hl hN, goL_same h (kf := kf false) (fun i x next hi hi' e => ?_)]
 ·cases decide (a = b) <;> rfl
 ·rw [inB_nat hi', cond_true, Int.toNat_natCast, getD_nat _ _ hi']
  by_cases hx : x = b[i]
  ·simp [hx]
  ·have : (x != b[i]) = true := by simpa using hx
   rw [this, decide_eq_false hx]; rfl
end Go.Pv.R
namespace Go.Pv.R
set_option linter.unusedVariables false
set_option linter.unusedSimpArgs false
end Go.Pv.R
namespace Go.Pv.R
set_option linter.unusedVariables false
set_option linter.unusedSimpArgs false
end Go.Pv.R
namespace Go.Pv
set_option linter.unusedVariables false
set_option linter.unusedSimpArgs false
abbrev Asc (l : List Int) : Prop := l.Pairwise (· < ·)
end Go.Pv
namespace Go.Pv.R
set_option linter.unusedVariables false
set_option linter.unusedSimpArgs false
end Go.Pv.R
namespace Go.Pv.R
set_option linter.unusedVariables false
set_option linter.unusedSimpArgs false
end Go.Pv.R
namespace Go.Pv.R
set_option linter.unusedVariables false
set_option linter.unusedSimpArgs false
end Go.Pv.R
namespace Go.Pv.R
set_option linter.unusedVariables false
set_option linter.unusedSimpArgs false
theorem mono_any {α : Type} {l : List α} {z : α} {g : α → Int} (h : ∀ (i : Nat) (hi : i < l.length), 0 < i → g (l.getD (i - 1) z) < g l[i]) : ∀ (j i : Nat) (hi : i < l.length), j < i → g (l.getD j z) < g l[i] := by
 intro j i
 induction i with
 | zero => intro _ hj; omega
 | succ i ih =>
  intro hi hj
  have h1 := h (i + 1) hi (by omega)
  rw [Nat.add_sub_cancel] at h1
  by_cases e : j = i
  ·subst e; exact h1
  ·have h2 := ih (by omega) (by omega)
   rw [getD_nat _ _ (by omega)] at h1
   omega
end Go.Pv.R
namespace Go.Pv.R
set_option linter.unusedVariables false
set_option linter.unusedSimpArgs false
theorem appB (a b : List UInt8) : (⟨a.toArray⟩ ++ ⟨b.toArray⟩ : ByteArray) = ⟨(a ++ b).toArray⟩ := by
 apply ByteArray.ext
 rw [ByteArray.data_append]
 simp
theorem nilB (b : ByteArray) : (⟨#[]⟩ : ByteArray) ++ b = b := by
 apply ByteArray.ext
 rw [ByteArray.data_append]
 simp
theorem sizeL (l : List UInt8) : ByteArray.size ⟨l.toArray⟩ = l.length := by simp [ByteArray.size]
def dg (u : Nat) : List UInt8 := if u = 0 then [] else Lib.decDigits u
theorem dg_step {u : Nat} (h : u ≠ 0) : dg u = dg (u / 10) ++ [UInt8.ofNat (48 + u % 10)] := by
 unfold dg
 rw [if_neg h]
 rw [Lib.decDigits]
 by_cases h1 : u < 10
 ·rw [dif_pos h1, if_pos (by omega), Nat.mod_eq_of_lt h1]
  rfl
 ·rw [dif_neg h1, if_neg (by omega)]
theorem decDigits_len : ∀ (m u : Nat), u < 10 ^ (m + 1) → (Lib.decDigits u).length ≤ m + 1 := by
 intro m
 induction m with
 | zero =>
  intro u hu
  rw [Lib.decDigits, dif_pos (by omega)]
  simp
 | succ m ih =>
  intro u hu
  rw [Lib.decDigits]
  by_cases h1 : u < 10
  ·rw [dif_pos h1]; simp
  ·rw [dif_neg h1]
   have := ih (u / 10) (by rw [Nat.pow_succ] at hu; omega)
   simp only [List.length_append, List.length_cons, List.length_nil]
   omega
def I64 (n : Int) : Prop := -9223372036854775808 ≤ n ∧ n ≤ 9223372036854775807
theorem itoaB_size {n : Int} (h : I64 n) : (itoaB n).size ≤ 20 := by
 unfold itoaB
 rw [sizeL]
 unfold Lib.itoa
 obtain ⟨h1, h2⟩ := h
 split
 ·have := decDigits_len 18 n.natAbs (by omega)
  simp only [List.length_cons]
  omega
 ·have := decDigits_len 18 n.toNat (by omega)
  omega
theorem digit_eq {d : Nat} (h : d < 10) : bytesOf [IntKind.wrap .u8 (IntKind.wrap .i64 ((48 : Int) + (d : Int)))] = ⟨[UInt8.ofNat (48 + d)].toArray⟩ := by
 have h1 : IntKind.wrap .i64 ((48 : Int) + (d : Int)) = 48 + (d : Int) := wrap64 (by omega) (by omega)
 have h2 : IntKind.wrap .u8 ((48 : Int) + (d : Int)) = 48 + (d : Int) := by
  have hd : d = 0 ∨ d = 1 ∨ d = 2 ∨ d = 3 ∨ d = 4 ∨ d = 5 ∨ d = 6 ∨ d = 7 ∨ d = 8 ∨ d = 9 := by omega
  rcases hd with rfl | rfl | rfl | rfl | rfl | rfl | rfl | rfl | rfl | rfl <;> rfl
 rw [h1, h2]
 have h3 : ((48 : Int) + (d : Int)).toNat = 48 + d := by omega
 simp only [bytesOf, List.foldl_cons, List.foldl_nil, h3]
 apply ByteArray.ext
 rw [ByteArray.data_push]
 rfl
theorem ten_both (x : Int) : (0 ≤ x ∧ Int.tdiv x 10 = x / 10 ∧ Int.tmod x 10 = x % 10) ∨ (x < 0 ∧ Int.tdiv x 10 = -((-x) / 10) ∧ Int.tmod x 10 = -((-x) % 10)) := by
 by_cases h : 0 ≤ x
 ·exact .inl ⟨h, Int.tdiv_eq_ediv_of_nonneg h, Int.tmod_eq_emod_of_nonneg h⟩
 ·refine .inr ⟨by omega, ?_, ?_⟩
  ·have h1 := Int.neg_tdiv (-x) 10
   rw [Int.neg_neg] at h1
   rw [h1, Int.tdiv_eq_ediv_of_nonneg (by omega)]
  ·have h1 := Int.neg_tmod (-x) 10
   rw [Int.neg_neg] at h1
   rw [h1, Int.tmod_eq_emod_of_nonneg (by omega)]
theorem fmt_loop {x0 : Int} {k : ByteArray → Option Ret} : ∀ (m n : Nat) (x : Int) (acc : ByteArray), x.natAbs < 10 ^ m → m < n → I64 x → acc.size + m ≤ 1000 → S46_l5 x0 n k acc x = k (⟨(dg x.natAbs).toArray⟩ ++ acc) := by
 intro m
 induction m with
 | zero =>
  intro n x acc hx hn hr hs
  obtain ⟨n, rfl⟩ : ∃ n', n = n' + 1 := ⟨n - 1, by omega⟩
  have : x = 0 := by omega
  subst this
  simp only [S46_l5, bne_self_eq_false, cond_false]
  show k acc = k (⟨#[]⟩ ++ acc)
  rw [nilB]
 | succ m ih =>
  intro n x acc hx hn hr hs
  obtain ⟨n, rfl⟩ : ∃ n', n = n' + 1 := ⟨n - 1, by omega⟩
  by_cases h0 : x = 0
  ·subst h0
   simp only [S46_l5, bne_self_eq_false, cond_false]
   show k acc = k (⟨#[]⟩ ++ acc)
   rw [nilB]
  ·have hne : (x != (0 : Int)) = true := by simpa using h0
   obtain ⟨hr1, hr2⟩ := hr
   have hu : x.natAbs ≠ 0 := by omega
   have hd : x.natAbs % 10 < 10 := by omega
   have hq : (Int.tdiv x 10).natAbs = x.natAbs / 10 := by
    rw [Int.natAbs_tdiv]
    rfl
   have ht := Int.mul_tdiv_add_tmod x 10
   have hb : -9223372036854775808 ≤ Int.tdiv x 10 ∧ Int.tdiv x 10 ≤ 9223372036854775807 := by omega
   have hj : S46_j1 (S46_l5 x0 n k) acc x ((x.natAbs % 10 : Nat) : Int) = k (⟨(dg x.natAbs).toArray⟩ ++ acc) := by
    unfold S46_j1
    rw [digit_eq hd, sizeL, decide_eq_true (by simp only [List.length_cons, List.length_nil]; omega), cond_true, wrap64 (by omega) (by omega), ih n _ _ (by rw [hq, Nat.pow_succ] at *; omega) (by omega) hb (by rw [ByteArray.size_append, sizeL]; simp only [List.length_cons, List.length_nil]; omega), hq, ← ByteArray.append_assoc, appB (dg (x.natAbs / 10)) [UInt8.ofNat (48 + x.natAbs % 10)], ← dg_step hu]
   simp only [S46_l5, hne, cond_true]
   by_cases hneg : Int.tmod x 10 < 0
   ·rw [decide_eq_true hneg, cond_true]
    have e : IntKind.wrap .i64 (0 - Int.tmod x 10) = ((x.natAbs % 10 : Nat) : Int) := by
     rcases ten_both x with ⟨q1, q2, q3⟩ | ⟨q1, q2, q3⟩
     ·omega
     ·rw [q3, wrap64 (by omega) (by omega)]
      omega
    rw [e]
    exact hj
   ·rw [decide_eq_false hneg, cond_false]
    have e : Int.tmod x 10 = ((x.natAbs % 10 : Nat) : Int) := by
     rcases ten_both x with ⟨q1, q2, q3⟩ | ⟨q1, q2, q3⟩ <;> omega
    rw [e]
    exact hj
theorem S46_ok {N : Nat} {n : Int} {kf : ByteArray → Option Ret} (h : I64 n) (hN : 20 < N) : S46 N n kf = kf (itoaB n) := by
 unfold S46
 obtain ⟨h1, h2⟩ := h
 by_cases h0 : n = 0
 ·subst h0
  have e : itoaB 0 = s_0 := by
   unfold itoaB Lib.itoa
   rw [if_neg (by decide), Lib.decDigits, dif_pos (by decide)]
   rfl
  rw [e]
  rfl
 ·have hne : (n == (0 : Int)) = false := beq_eq_false_iff_ne.2 h0
  rw [hne, cond_false, fmt_loop 19 N n _ (by omega) (by omega) ⟨h1, h2⟩ (by show (0 : Nat) + 19 ≤ 1000; omega)]
  have hl := decDigits_len 18 n.natAbs (by omega)
  have hdg : dg n.natAbs = Lib.decDigits n.natAbs := by unfold dg; rw [if_neg (by omega)]
  have hs : (⟨(dg n.natAbs).toArray⟩ ++ s_e : ByteArray) = ⟨(Lib.decDigits n.natAbs).toArray⟩ := by
   rw [hdg]
   show _ ++ (⟨([] : List UInt8).toArray⟩ : ByteArray) = _
   rw [appB, List.append_nil]
  rw [hs]
  by_cases hneg : n < 0
  ·rw [decide_eq_true hneg, cond_true]
   have e1 : s_h2d = ⟨[(45 : UInt8)].toArray⟩ := rfl
   rw [e1, sizeL, sizeL, decide_eq_true (by simp only [List.length_cons, List.length_nil]; omega), cond_true, appB]
   unfold itoaB Lib.itoa
   rw [if_pos hneg]
   rfl
  ·rw [decide_eq_false hneg, cond_false]
   unfold itoaB Lib.itoa
   rw [if_neg hneg]
   have : n.natAbs = n.toNat := by omega
   rw [this]
theorem I24_ok {N : Nat} {n : Int} {kf : ByteArray → Option Ret} (h : I64 n) : I24 N n kf = kf (itoaB n) := by
 unfold I24 S43
 rw [decide_eq_true h.1, decide_eq_true h.2]
 rfl
end Go.Pv.R
namespace Go.Pv.R
set_option linter.unusedVariables false
set_option linter.unusedSimpArgs false
theorem bext {a b : ByteArray} (h : a.data.toList = b.data.toList) : a = b := ByteArray.ext (Array.ext' h)
theorem data_app (a b : ByteArray) : (a ++ b).data.toList = a.data.toList ++ b.data.toList := by rw [ByteArray.data_append, Array.toList_append]
theorem size_app (a b : ByteArray) : (a ++ b).size = a.size + b.size := ByteArray.size_append
end Go.Pv.R
namespace Go.Pv.R
set_option linter.unusedVariables false
set_option linter.unusedSimpArgs false
theorem sm {a b : Nat} (h : a + b ≤ 4000) : decide (a + b ≤ 9223372036854775807) = true := decide_eq_true (by omega)
abbrev Point := QIIIE
noncomputable def stateB (n : Int) : ByteArray := ByteArray.extract s_h3f2b2d212e (Int.toNat n) (Int.toNat (n + 1))
noncomputable def pointB (x : Point) : ByteArray := bif inR x.2.1 1 2 && inR x.2.2 0 4 then (((itoaB x.1 ++ s_h3a) ++ itoaB x.2.1) ++ stateB x.2.2) else s_e
structure Point64 (x : Point) : Prop where
 h1 : I64 x.1
 h2 : I64 x.2.1
theorem stateB_size (n : Int) : (stateB n).size ≤ 5 := by
 unfold stateB
 rw [ByteArray.size_extract]
 have : s_h3f2b2d212e.size = 5 := rfl
 omega
theorem I18_ok {N : Nat} {x : Point} {kf : ByteArray → Option Ret} (h : Point64 x) (hN : 20 < N) : I18 N x kf = kf (pointB x) := by
 have a1 := itoaB_size h.h1; have a2 := itoaB_size h.h2; have a3 := stateB_size x.2.2
 have c1 : s_h3a.size = 1 := rfl
 unfold I18 pointB
 rw [I25_ok]
 cases hr1 : inR x.2.1 1 2 with
 | false => rfl
 | true =>
  simp only [Bool.not_true, cond_false, Bool.true_and]
  rw [I25_ok]
  cases hr2 : inR x.2.2 0 4 with
  | false => rfl
  | true =>
   obtain ⟨r1, r2⟩ := inR_iff.1 hr2
   have hw : IntKind.wrap .i64 (x.2.2 + (1 : Int)) = x.2.2 + 1 := wrap64 (by omega) (by omega)
   have c3 : s_h3f2b2d212e.size = 5 := rfl
   have d1 : (decide ((0 : Int) ≤ x.2.2) && decide (x.2.2 ≤ x.2.2 + 1) && decide (x.2.2 + 1 ≤ (ByteArray.size s_h3f2b2d212e : Int))) = true := by
    simp only [Bool.and_eq_true, decide_eq_true_eq]
    omega
   simp only [Bool.not_true, cond_false, cond_true, hw, d1]
   have a3' : (ByteArray.extract s_h3f2b2d212e (Int.toNat x.2.2) (Int.toNat (x.2.2 + 1))).size ≤ 5 := a3
   rw [I24_ok h.h1, sm (by first | omega | (simp only [size_app]; omega)), cond_true, I24_ok h.h2, sm (by first | omega | (simp only [size_app]; omega)), cond_true, sm (by first | omega | (simp only [size_app]; omega)), cond_true]
   rfl
end Go.Pv.R
namespace Go.Pv.R
set_option linter.unusedVariables false
set_option linter.unusedSimpArgs false
theorem gatherI_map {α β : Type} {f : α → β} : ∀ (l : List α) (i : Nat), gatherI (fun _ _ => true) (fun _ x => f x) l i = l.map f
 | [], _ => rfl
 | x :: r, i => by simp only [gatherI, cond_true, List.map_cons]; rw [gatherI_map r (i + 1)]
def catB {α : Type} (f : α → ByteArray) (r : List α) : ByteArray := ⟨((r.map fun x => (f x).data.toList).flatten).toArray⟩
theorem app_loop {α : Type} {f : α → ByteArray} {body : Nat → α → ByteArray → (ByteArray → Option Ret) → Option Ret} {k : ByteArray → Option Ret} {m S0 : Nat} {l : List α} (hL : S0 + m * (l.length + 1) ≤ 9000000000000000000) (hm : ∀ x ∈ l, (f x).size ≤ m)
  (hb : ∀ (i : Nat) (x : α) (s : ByteArray) (next : ByteArray → Option Ret) (h : i < l.length), l[i] = x → s.size ≤ S0 + m * l.length → body i x s next = next (s ++ f x)) :
  ∀ (r : List α) (i : Nat) (s : ByteArray), l.drop i = r → s.size ≤ S0 + m * i → goL1 body k r i s = k (s ++ catB f r)
 | [], i, s, _, _ => by
  have : s ++ catB f [] = s := by apply bext; simp [data_app, catB]
  rw [this]; rfl
 | x :: r, i, s, hd, hs => by
  have hlt : i < l.length := by have := congrArg List.length hd; simp at this; omega
  rw [List.drop_eq_getElem_cons hlt] at hd
  injection hd with h1 h2
  have h3 : m * i ≤ m * l.length := Nat.mul_le_mul_left _ (by omega)
  have h4 := hm x (by rw [← h1]; exact List.getElem_mem hlt)
  simp only [goL1]
  rw [hb i x s _ hlt h1 (by omega), app_loop hL hm hb r (i + 1) _ h2 (by rw [size_app, Nat.mul_succ]; omega)]
  congr 1
  apply bext
  simp only [data_app, catB, List.map_cons, List.flatten_cons, List.append_assoc]
end Go.Pv.R
namespace Go.Pv.R
set_option linter.unusedVariables false
set_option linter.unusedSimpArgs false
abbrev Graph := QILLIE
theorem goL_allH {α : Type} {body : Nat → α → Option Ret → Option Ret} {kend kf : Option Ret} {p : Nat → α → Bool} {l : List α} (hb : ∀ (i : Nat) (x : α) (next : Option Ret) (h : i < l.length), l[i] = x → (∀ (j : Nat) (hj : j < l.length), j < i → p j l[j] = true) → body i x next = bif p i x then next else kf) :
  ∀ (r : List α) (i : Nat), l.drop i = r → (∀ (j : Nat) (hj : j < l.length), j < i → p j l[j] = true) → goL body kend r i = bif allI p r i then kend else kf
 | [], _, _, _ => rfl
 | x :: r, i, hd, hh => by
  have hlt : i < l.length := by have := congrArg List.length hd; simp at this; omega
  rw [List.drop_eq_getElem_cons hlt] at hd
  injection hd with h1 h2
  simp only [goL, allI]
  rw [hb i x _ hlt h1 hh]
  cases hp : p i x with
  | false => simp
  | true =>
   simp only [cond_true, Bool.true_and]
   refine goL_allH hb r (i + 1) h2 fun j hj hji => ?_
   by_cases e : j = i
   ·subst e; rw [h1]; exact hp
   ·exact hh j hj (by omega)
def ltP (a b : List Int) : Bool := decide (a.getD 0 0 < b.getD 0 0) || (decide (a.getD 0 0 = b.getD 0 0) && decide (a.getD 1 0 < b.getD 1 0))
def graphP (g : Graph) (i : Nat) (x : List Int) : Bool := decide (x.length = 2) && (inR (x.getD 0 0) 0 (IntKind.wrap .i64 (g.1 - 1)) && (inR (x.getD 1 0) 0 (IntKind.wrap .i64 (g.1 - 1)) && (decide (i = 0) || ltP (g.2.getD (i - 1) []) x)))
def isGraphM (g : Graph) : Bool := inR g.1 0 10 && allI (graphP g) g.2 0
theorem graphP_len {g : Graph} {i : Nat} {x : List Int} (h : graphP g i x = true) : x.length = 2 := by
 unfold graphP at h
 simp only [Bool.and_eq_true, decide_eq_true_eq] at h
 exact h.1
theorem two_of {x : List Int} (h : x.length = 2) : ∃ p q, x = [p, q] := by
 match x, h with
 | [p, q], _ => exact ⟨p, q, rfl⟩
theorem C44_ok {N : Nat} {a b : Int} {kf : Int → Option Ret} : C44 N a b kf = kf (bif decide (a < b) then -1 else bif decide (a > b) then 1 else 0) := by
 unfold C44 C65
 simp only [bne_self_eq_false, cond_false]
 cases decide (a < b) <;> cases decide (a > b) <;> rfl
theorem S27_ok {N : Nat} {p q r s : Int} {kf : Int → Option Ret} (hN : 2 < N) (A B : Option Ret) (hk : ∀ n : Int, kf n = bif decide (n ≥ 0) then A else B) :
  S27 N [p, q] [r, s] kf = bif ltP [p, q] [r, s] then B else A := by
 unfold S27
 rw [S27_l2_r (by simp [maxLen_eq]) (by simp; omega)]
 simp only [goL, C44_ok]
 have e1 : inB ((0 : Nat) : Int) (List.length [r, s]) = true := rfl
 have e2 : inB ((0 + 1 : Nat) : Int) (List.length [r, s]) = true := rfl
 have e3 : decide (((0 : Nat) : Int) ≥ (List.length [r, s] : Int)) = false := rfl
 have e4 : decide (((0 + 1 : Nat) : Int) ≥ (List.length [r, s] : Int)) = false := rfl
 have e5 : decide ((List.length [p, q] : Int) < (List.length [r, s] : Int)) = false := rfl
 rw [e1, e2, e3, e4, e5]
 simp only [cond_true, cond_false]
 have g1 : List.getD [r, s] (Int.toNat ((0 : Nat) : Int)) 0 = r := rfl
 have g2 : List.getD [r, s] (Int.toNat ((0 + 1 : Nat) : Int)) 0 = s := rfl
 rw [g1, g2]
 have l1 : ltP [p, q] [r, s] = (decide (p < r) || (decide (p = r) && decide (q < s))) := rfl
 rw [l1]
 rcases Int.lt_trichotomy p r with h1 | h1 | h1
 ·rw [decide_eq_true h1, cond_true, Bool.true_or, cond_true]
  show (bif true then kf (-1) else _) = _
  rw [cond_true, hk]
  rfl
 ·subst h1
  rw [decide_eq_false (Int.lt_irrefl p), cond_false, cond_false, decide_eq_true (show p = p from rfl), Bool.false_or, Bool.true_and]
  show (bif false then _ else _) = _
  rw [cond_false]
  rcases Int.lt_trichotomy q s with h2 | h2 | h2
  ·rw [decide_eq_true h2, cond_true, cond_true]
   show (bif true then kf (-1) else _) = _
   rw [cond_true, hk]
   rfl
  ·subst h2
   rw [decide_eq_false (Int.lt_irrefl q), cond_false, cond_false, cond_false]
   show (bif false then _ else kf 0) = _
   rw [cond_false, hk]
   rfl
  ·rw [decide_eq_false (show ¬ q < s by omega), decide_eq_true (show q > s from h2), cond_false, cond_true, cond_false]
   show (bif true then kf 1 else _) = _
   rw [cond_true, hk]
   rfl
 ·rw [decide_eq_false (show ¬ p < r by omega), decide_eq_true (show p > r from h1), cond_false, cond_true, decide_eq_false (show ¬ p = r by omega), Bool.false_or, Bool.false_and, cond_false]
  show (bif true then kf 1 else _) = _
  rw [cond_true, hk]
  rfl
theorem len_ne2 {x : List Int} : ((List.length x : Int) != (2 : Int)) = !decide (x.length = 2) := by
 apply Bool.eq_iff_iff.2
 simp
 omega
theorem S45_ok {N : Nat} {g : Graph} {kf : Bool → Option Ret} (hl : g.2.length ≤ 1048576) (hN : g.2.length < N) : S45 N g kf = kf (isGraphM g) := by
 have h0 := maxLen_eq
 unfold S45
 rw [S45_l2_r (by omega) hN, goL_allH (l := g.2) (p := graphP g) (kf := kf false) (fun i x next hi e hh => ?_) g.2 0 rfl (fun j hj h => by omega)]
 ·rw [S66_ok]
  unfold isGraphM
  cases allI (graphP g) g.2 0 <;> simp
 ·rw [len_ne2]
  unfold graphP
  by_cases h2 : x.length = 2
  rotate_left
  ·rw [decide_eq_false h2]; rfl
  obtain ⟨p, q, rfl⟩ := two_of h2
  rw [decide_eq_true h2]
  simp only [Bool.not_true, cond_false, Bool.true_and, S66_ok]
  have b0 : inB (0 : Int) (List.length [p, q]) = true := rfl
  have b1 : inB (1 : Int) (List.length [p, q]) = true := rfl
  have v0 : List.getD [p, q] (Int.toNat (0 : Int)) (0 : Int) = p := rfl
  have v1 : List.getD [p, q] (Int.toNat (1 : Int)) (0 : Int) = q := rfl
  have w0 : List.getD [p, q] 0 (0 : Int) = p := rfl
  have w1 : List.getD [p, q] 1 (0 : Int) = q := rfl
  simp only [b0, b1, v0, v1, w0, w1, cond_true]
  cases inR p 0 (IntKind.wrap .i64 (g.1 - 1)) with
  | false => rfl
  | true =>
   simp only [Bool.not_true, cond_false, Bool.true_and]
   cases inR q 0 (IntKind.wrap .i64 (g.1 - 1)) with
   | false => rfl
   | true =>
    simp only [Bool.not_true, cond_false, Bool.true_and]
    by_cases hi0 : i = 0
    ·subst hi0; rfl
    ·rw [decide_eq_false hi0, Bool.false_or, decide_eq_true (show (i : Int) > 0 by omega), cond_true, wrap_pred (by omega) hi (by omega), inB_nat (by omega), cond_true, Int.toNat_natCast, getD_nat _ _ (show i - 1 < g.2.length by omega)]
     have hp := graphP_len (hh (i - 1) (by omega) (by omega))
     obtain ⟨r, s, hrs⟩ := two_of hp
     rw [hrs]
     have c0 : inB (0 : Int) (List.length [r, s]) = true := rfl
     have c1 : inB (1 : Int) (List.length [r, s]) = true := rfl
     have u0 : List.getD [r, s] (Int.toNat (0 : Int)) (0 : Int) = r := rfl
     have u1 : List.getD [r, s] (Int.toNat (1 : Int)) (0 : Int) = s := rfl
     simp only [c0, c1, u0, u1, cond_true]
     have l1 : ltP [r, s] [p, q] = (decide (r < p) || (decide (r = p) && decide (s < q))) := rfl
     rw [l1]
     rcases Int.lt_trichotomy r p with h1 | h1 | h1
     ·rw [decide_eq_false (show ¬ r > p by omega), cond_false, beq_eq_false_iff_ne.2 (show r ≠ p by omega), cond_false, decide_eq_true h1]
      rfl
     ·subst h1
      rw [decide_eq_false (show ¬ r > r from Int.lt_irrefl r), cond_false, beq_self_eq_true, cond_true, decide_eq_true (show r = r from rfl), Bool.false_or, Bool.true_and]
      by_cases h3 : s < q
      ·rw [decide_eq_true h3, decide_eq_false (show ¬ s ≥ q by omega)]; rfl
      ·rw [decide_eq_false h3, decide_eq_true (show s ≥ q by omega)]; rfl
     ·rw [decide_eq_true (show r > p from h1), cond_true, decide_eq_false (show ¬ r < p by omega), decide_eq_false (show ¬ r = p by omega)]
      rfl
theorem I8_ok {N : Nat} {g : Graph} {kf : Bool → Option Ret} (hl : g.2.length ≤ 1048576) (hN : g.2.length + 2 < N) : I8 N g kf = kf (isGraphM g) := by
 have h0 := maxLen_eq
 unfold I8
 rw [I25_ok]
 unfold isGraphM
 cases inR g.1 0 10 with
 | false => rfl
 | true =>
  simp only [Bool.not_true, cond_false, Bool.true_and]
  rw [I8_l4_r (by omega) (by omega), goL_allH (l := g.2) (p := graphP g) (kf := kf false) (fun i x next hi e hh => ?_) g.2 0 rfl (fun j hj h => by omega)]
  ·cases allI (graphP g) g.2 0 <;> rfl
  ·rw [len_ne2]
   unfold graphP
   by_cases h2 : x.length = 2
   rotate_left
   ·rw [decide_eq_false h2]; rfl
   obtain ⟨p, q, rfl⟩ := two_of h2
   rw [decide_eq_true h2]
   simp only [Bool.not_true, cond_false, Bool.true_and, I26, I25_ok]
   have b0 : inB (0 : Int) (List.length [p, q]) = true := rfl
   have b1 : inB (1 : Int) (List.length [p, q]) = true := rfl
   have v0 : List.getD [p, q] (Int.toNat (0 : Int)) (0 : Int) = p := rfl
   have v1 : List.getD [p, q] (Int.toNat (1 : Int)) (0 : Int) = q := rfl
   have w0 : List.getD [p, q] 0 (0 : Int) = p := rfl
   have w1 : List.getD [p, q] 1 (0 : Int) = q := rfl
   simp only [b0, b1, v0, v1, w0, w1, cond_true]
   cases inR p 0 (IntKind.wrap .i64 (g.1 - 1)) with
   | false => rfl
   | true =>
    simp only [Bool.not_true, cond_false, Bool.true_and]
    cases inR q 0 (IntKind.wrap .i64 (g.1 - 1)) with
    | false => rfl
    | true =>
     simp only [Bool.not_true, cond_false, Bool.true_and]
     by_cases hi0 : i = 0
     ·subst hi0; rfl
     ·rw [decide_eq_false hi0, Bool.false_or, decide_eq_true (show (i : Int) > 0 by omega), cond_true, wrap_pred (by omega) hi (by omega), inB_nat (by omega), cond_true, Int.toNat_natCast, getD_nat _ _ (show i - 1 < g.2.length by omega)]
      have hp := graphP_len (hh (i - 1) (by omega) (by omega))
      obtain ⟨r, s, hrs⟩ := two_of hp
      rw [hrs]
      exact S27_ok (by omega) (kf false) next (fun n => rfl)
noncomputable def attB (x : List Int) : ByteArray := ((s_h20 ++ itoaB (x.getD 0 0)) ++ s_h3e) ++ itoaB (x.getD 1 0)
noncomputable def graphM (g : Graph) : ByteArray := bif isGraphM g then itoaB g.1 ++ catB attB g.2 else s_e
structure Graph64 (g : Graph) : Prop where
 n : I64 g.1
 a : ∀ x ∈ g.2, ∀ y ∈ x, I64 y
 l : g.2.length ≤ 1048576
theorem attB_ok {g : Graph} (h : Graph64 g) (hg : isGraphM g = true) : ∀ x ∈ g.2, ∃ p q, x = [p, q] ∧ I64 p ∧ I64 q ∧ (attB x).size ≤ 42 := by
 intro x hx
 obtain ⟨j, hj, rfl⟩ := List.mem_iff_getElem.1 hx
 unfold isGraphM at hg
 simp only [Bool.and_eq_true] at hg
 have h1 := (allI_iff.1 hg.2) j hj
 obtain ⟨p, q, e⟩ := two_of (graphP_len h1)
 have hp := h.a _ hx p (by rw [e]; simp)
 have hq := h.a _ hx q (by rw [e]; simp)
 refine ⟨p, q, e, hp, hq, ?_⟩
 rw [e]
 have a1 := itoaB_size hp; have a2 := itoaB_size hq
 have c1 : s_h20.size = 1 := rfl; have c2 : s_h3e.size = 1 := rfl
 show ByteArray.size (((s_h20 ++ itoaB p) ++ s_h3e) ++ itoaB q) ≤ 42
 simp only [size_app]
 omega
theorem S31_ok {N : Nat} {g : Graph} {kf : ByteArray → Option Ret} (h : Graph64 g) (hN : g.2.length + 22 < N) : S31 N g kf = kf (graphM g) := by
 have h0 := maxLen_eq
 have hl := h.l
 unfold S31 graphM
 rw [S45_ok hl (by omega)]
 cases hg : isGraphM g with
 | false => rfl
 | true =>
  have ha := attB_ok h hg
  have hn := itoaB_size h.n
  have hb1 : 42 * g.2.length ≤ 42 * 1048576 := Nat.mul_le_mul_left _ hl
  have c1 : s_h20.size = 1 := rfl; have c2 : s_h3e.size = 1 := rfl
  simp only [Bool.not_true, cond_false, cond_true]
  rw [S46_ok h.n (by omega), S31_l5_r (by omega) (by omega), app_loop (f := attB) (m := 42) (S0 := 20) (l := g.2) (by omega) (fun x hx => by obtain ⟨_, _, _, _, _, q⟩ := ha x hx; exact q) (fun i x s next hi e hs => ?_) g.2 0 _ rfl (by omega)]
  obtain ⟨p, q, rfl, hp, hq, hsz⟩ := ha x (by rw [← e]; exact List.getElem_mem hi)
  have b0 : inB (0 : Int) (List.length [p, q]) = true := rfl
  have b1 : inB (1 : Int) (List.length [p, q]) = true := rfl
  have v0 : List.getD [p, q] (Int.toNat (0 : Int)) (0 : Int) = p := rfl
  have v1 : List.getD [p, q] (Int.toNat (1 : Int)) (0 : Int) = q := rfl
  have a1 := itoaB_size hp; have a2 := itoaB_size hq
  simp only [b0, b1, v0, v1, cond_true]
  rw [decide_eq_true (by omega), cond_true, S46_ok hp (by omega), decide_eq_true (by simp only [size_app]; omega), cond_true, decide_eq_true (by simp only [size_app]; omega), cond_true, S46_ok hq (by omega), decide_eq_true (by simp only [size_app]; omega), cond_true]
  congr 1
  show _ = s ++ (((s_h20 ++ itoaB p) ++ s_h3e) ++ itoaB q)
  simp only [ByteArray.append_assoc]
theorem I7_ok {N : Nat} {g : Graph} {kf : ByteArray → Option Ret} (h : Graph64 g) (hN : g.2.length + 22 < N) : I7 N g kf = kf (graphM g) := by
 have h0 := maxLen_eq
 have hl := h.l
 unfold I7 graphM
 rw [I8_ok hl (by omega)]
 cases hg : isGraphM g with
 | false => rfl
 | true =>
  have ha := attB_ok h hg
  have hn := itoaB_size h.n
  have hb1 : 42 * g.2.length ≤ 42 * 1048576 := Nat.mul_le_mul_left _ hl
  have c1 : s_h20.size = 1 := rfl; have c2 : s_h3e.size = 1 := rfl
  simp only [Bool.not_true, cond_false, cond_true]
  rw [I24_ok h.n, I7_l5_r (by omega) (by omega), app_loop (f := attB) (m := 42) (S0 := 20) (l := g.2) (by omega) (fun x hx => by obtain ⟨_, _, _, _, _, q⟩ := ha x hx; exact q) (fun i x s next hi e hs => ?_) g.2 0 _ rfl (by omega)]
  obtain ⟨p, q, rfl, hp, hq, hsz⟩ := ha x (by rw [← e]; exact List.getElem_mem hi)
  have b0 : inB (0 : Int) (List.length [p, q]) = true := rfl
  have b1 : inB (1 : Int) (List.length [p, q]) = true := rfl
  have v0 : List.getD [p, q] (Int.toNat (0 : Int)) (0 : Int) = p := rfl
  have v1 : List.getD [p, q] (Int.toNat (1 : Int)) (0 : Int) = q := rfl
  have a1 := itoaB_size hp; have a2 := itoaB_size hq
  simp only [b0, b1, v0, v1, cond_true]
  rw [I24_ok hp, decide_eq_true (by omega), cond_true, decide_eq_true (by simp only [size_app]; omega), cond_true, I24_ok hq, decide_eq_true (by simp only [size_app]; omega), cond_true, decide_eq_true (by simp only [size_app]; omega), cond_true]
  rfl
end Go.Pv.R
namespace Go.Pv.R
set_option linter.unusedVariables false
set_option linter.unusedSimpArgs false
def packB (l : List UInt8) : ByteArray := ⟨l.toArray⟩
theorem pack_data (b : ByteArray) : packB b.data.toList = b := bext (by simp [packB])
theorem data_pack (l : List UInt8) : (packB l).data.toList = l := by simp [packB]
def spl (c : UInt8) : List UInt8 → List (List UInt8)
 | [] => [[]]
 | b :: r => bif b == c then [] :: spl c r else (match spl c r with
  | [] => [[b]]
  | w :: ws => (b :: w) :: ws)
theorem spl_ne (c : UInt8) : ∀ l, spl c l ≠ []
 | [] => by simp [spl]
 | b :: r => by
  simp only [spl]
  cases b == c with
  | true => simp
  | false =>
   cases spl c r with
   | nil => simp
   | cons w ws => simp
theorem spl_cons (c : UInt8) (l : List UInt8) : ∃ w ws, spl c l = w :: ws := by
 cases h : spl c l with
 | nil => exact absurd h (spl_ne c l)
 | cons w ws => exact ⟨w, ws, rfl⟩
theorem spl_len (c : UInt8) : ∀ l, (spl c l).length ≤ l.length + 1
 | [] => by simp [spl]
 | b :: r => by
  have ih := spl_len c r
  simp only [spl]
  cases b == c with
  | true => simp only [cond_true, List.length_cons]; omega
  | false =>
   obtain ⟨w, ws, e⟩ := spl_cons c r
   rw [e] at ih ⊢
   simp only [cond_false, List.length_cons] at ih ⊢
   omega
theorem splitK_spl (c : UInt8) : ∀ l : List UInt8, Lib.splitK [c] 0 (l.count c) l = spl c l
 | [] => rfl
 | b :: l => by
  have ih := splitK_spl c l
  by_cases hb : b = c
  ·subst hb
   have e1 : (b :: l).count b = l.count b + 1 := by simp
   have e2 : Lib.index (b :: l) [b] = 0 := by rw [Lib.index_one]; unfold Lib.indexByte; simp
   rw [e1]
   unfold Lib.splitK
   rw [e2, if_neg (by decide)]
   simp only [spl, beq_self_eq_true, cond_true]
   rw [← ih]
   rfl
  ·have hbc : (b == c) = false := beq_eq_false_iff_ne.2 hb
   have e1 : (b :: l).count c = l.count c := List.count_cons_of_ne (by simpa using hb)
   rw [e1]
   simp only [spl, hbc, cond_false]
   rw [← ih]
   cases hk : l.count c with
   | zero => rfl
   | succ k =>
    have hm : c ∈ l := List.count_pos_iff.1 (by omega)
    have hge := Lib.indexByte_ge l c
    have hne : Lib.indexByte l c ≠ -1 := by
     intro hx
     have : ∀ (l : List UInt8), c ∈ l → Lib.indexByte l c ≠ -1 := by
      intro l
      induction l with
      | nil => intro h; cases h
      | cons d l ih =>
       intro h
       unfold Lib.indexByte
       by_cases hd : d = c
       ·subst hd; simp
       ·rw [if_neg (by simpa using hd)]
        have h1 := ih (by rcases List.mem_cons.1 h with h | h; exact absurd h.symm hd; exact h)
        have h2 := Lib.indexByte_ge l c
        rw [if_neg (by simpa using h1)]
        omega
     exact this l hm hx
    have e2 : Lib.index (b :: l) [c] = Lib.indexByte l c + 1 := by
     rw [Lib.index_one]
     show (if b == c then (0 : Int) else if Lib.indexByte l c == -1 then -1 else Lib.indexByte l c + 1) = _
     rw [if_neg (by simpa using hb), if_neg (by simpa using hne)]
    unfold Lib.splitK
    rw [e2, Lib.index_one, if_neg (by simp; omega), if_neg (by simpa using hne)]
    have e3 : (Lib.indexByte l c + 1).toNat = (Lib.indexByte l c).toNat + 1 := by omega
    rw [e3]
    rfl
theorem splitL_ok (s : ByteArray) (c : UInt8) : splitL s ⟨#[c]⟩ = (spl c s.data.toList).map packB := by
 have h1 := Lib.splitB_data ⟨#[c]⟩ 0 (Lib.countB s ⟨#[c]⟩) s
 have h2 : Lib.countB s ⟨#[c]⟩ = s.data.toList.count c := by
  show Lib.count s.data.toList [c] = _
  rw [Lib.count_one]
 rw [h2] at h1
 have h3 : Lib.splitK (⟨#[c]⟩ : ByteArray).data.toList 0 (s.data.toList.count c) s.data.toList = spl c s.data.toList := splitK_spl c _
 rw [h3] at h1
 unfold splitL
 rw [h2, ← h1, List.map_map]
 have : (packB ∘ fun b : ByteArray => b.data.toList) = id := funext fun b => pack_data b
 rw [this, List.map_id]
theorem bt_at {s : ByteArray} {i : Nat} (h : i < s.size) (h' : i < s.data.toList.length) : bt s (i : Int) = ((s.data.toList[i]).toNat : Int) := by
 unfold bt
 rw [dif_pos (by simpa using h)]
 simp only [Int.toNat_natCast]
 congr 2
theorem extract_pack (s : ByteArray) (a b : Nat) : ByteArray.extract s a b = packB ((s.data.toList.drop a).take (b - a)) := by
 apply bext
 rw [data_pack, Lib.extract_data]
end Go.Pv.R
namespace Go.Pv.R
set_option linter.unusedVariables false
set_option linter.unusedSimpArgs false
def isDig (b : UInt8) : Bool := decide (48 ≤ b.toNat) && decide (b.toNat ≤ 57)
def val (l : List UInt8) (v : Nat) : Nat := l.foldl (fun v b => 10 * v + (b.toNat - 48)) v
def okI (l : List UInt8) : Bool := decide (1 ≤ l.length) && (decide (l.length ≤ 13) && (l.all isDig && (decide (val l 0 ≤ 1000000000000) && (decide (l.length = 1) || !(l.headD 0 == 48)))))
def numI (l : List UInt8) : Int := bif okI l then (val l 0 : Int) else 0
theorem isDig_iff {b : UInt8} : isDig b = true ↔ 48 ≤ b.toNat ∧ b.toNat ≤ 57 := by unfold isDig; simp
theorem dig_back {b : UInt8} (h : isDig b = true) : UInt8.ofNat (48 + (b.toNat - 48)) = b := by
 obtain ⟨h1, h2⟩ := isDig_iff.1 h
 have : 48 + (b.toNat - 48) = b.toNat := by omega
 rw [this]
 exact UInt8.ofNat_toNat
theorem val_snoc (l : List UInt8) (b : UInt8) (v : Nat) : val (l ++ [b]) v = 10 * val l v + (b.toNat - 48) := by
 unfold val
 rw [List.foldl_append]
 rfl
theorem val_ge (l : List UInt8) (v : Nat) : v ≤ val l v := by
 unfold val
 induction l generalizing v with
 | nil => exact Nat.le_refl _
 | cons b l ih =>
  simp only [List.foldl_cons]
  have := ih (10 * v + (b.toNat - 48))
  omega
theorem val_pos {b : UInt8} {l : List UInt8} (hb : isDig b = true) (h : b ≠ 48) : 1 ≤ val (b :: l) 0 := by
 obtain ⟨h1, h2⟩ := isDig_iff.1 hb
 have h3 : b.toNat ≠ 48 := fun e => h (UInt8.toNat_inj.1 (by rw [e]; rfl))
 have h4 := val_ge l (10 * 0 + (b.toNat - 48))
 show 1 ≤ val l (10 * 0 + (b.toNat - 48))
 omega
theorem decDigits_val : ∀ (n : Nat) (l : List UInt8), l.length = n → l.all isDig = true → l ≠ [] → (l.length = 1 ∨ l.headD 0 ≠ 48) → Lib.decDigits (val l 0) = l := by
 intro n
 induction n with
 | zero => intro l hl _ hne; exact absurd (List.eq_nil_of_length_eq_zero hl) hne
 | succ n ih =>
  intro l hl hd hne hh
  obtain ⟨l', b, rfl⟩ : ∃ l' b, l = l' ++ [b] := ⟨l.dropLast, l.getLast hne, (List.dropLast_concat_getLast hne).symm⟩
  rw [List.all_append, Bool.and_eq_true] at hd
  have hb : isDig b = true := by simpa using hd.2
  obtain ⟨b1, b2⟩ := isDig_iff.1 hb
  rw [val_snoc]
  cases hl' : l' with
  | nil =>
   show Lib.decDigits (10 * 0 + (b.toNat - 48)) = [b]
   rw [Lib.decDigits, dif_pos (by omega)]
   have : 48 + (10 * 0 + (b.toNat - 48)) = 48 + (b.toNat - 48) := by omega
   rw [this, dig_back hb]
  | cons a r =>
   have hlen : (l' ++ [b]).length ≠ 1 := by rw [hl']; simp
   have hh2 : l'.headD 0 ≠ 48 := by
    rcases hh with hh | hh
    ·exact absurd hh hlen
    ·rw [hl'] at hh ⊢; simpa using hh
   have ha : isDig a = true := by have := hd.1; rw [hl'] at this; simp at this; exact this.1
   have hv : 1 ≤ val l' 0 := by rw [hl']; exact val_pos ha (by rw [hl'] at hh2; simpa using hh2)
   have e := ih l' (by rw [List.length_append, List.length_cons, List.length_nil] at hl; omega) hd.1 (by rw [hl']; simp) (.inr hh2)
   rw [← hl', Lib.decDigits, dif_neg (by omega)]
   have e1 : (10 * val l' 0 + (b.toNat - 48)) / 10 = val l' 0 := by omega
   have e2 : 48 + (10 * val l' 0 + (b.toNat - 48)) % 10 = 48 + (b.toNat - 48) := by omega
   rw [e1, e2, e, dig_back hb]
theorem decDigits_ne (u : Nat) : Lib.decDigits u ≠ [] := by
 rw [Lib.decDigits]
 split <;> simp
theorem decDigits_head : ∀ (n u : Nat), u < n → 0 < u → ∀ r, Lib.decDigits u ≠ 48 :: r := by
 intro n
 induction n with
 | zero => intro u h; omega
 | succ n ih =>
  intro u hu h0 r he
  rw [Lib.decDigits] at he
  by_cases h1 : u < 10
  ·rw [dif_pos h1] at he
   injection he with he _
   have := congrArg UInt8.toNat he
   have h2 : (UInt8.ofNat (48 + u)).toNat = 48 + u := by rw [UInt8.toNat_ofNat']; omega
   rw [h2] at this
   have h3 : (48 : UInt8).toNat = 48 := rfl
   omega
  ·rw [dif_neg h1] at he
   cases hd : Lib.decDigits (u / 10) with
   | nil => exact decDigits_ne _ hd
   | cons a r' =>
    rw [hd] at he
    injection he with he _
    subst he
    exact ih (u / 10) (by omega) (by omega) r' hd
theorem digits_same {l : List UInt8} (hd : l.all isDig = true) (hne : 1 ≤ l.length) : (itoaB (val l 0 : Int) = packB l) ↔ (decide (l.length = 1) || !(l.headD 0 == 48)) = true := by
 have e1 : itoaB (val l 0 : Int) = packB (Lib.decDigits (val l 0)) := by
  unfold itoaB Lib.itoa
  rw [if_neg (by omega), Int.toNat_natCast]
  rfl
 rw [e1]
 have hnil : l ≠ [] := fun e => by rw [e] at hne; simp at hne
 constructor
 ·intro h
  have h1 : Lib.decDigits (val l 0) = l := by
   have := congrArg (fun b : ByteArray => b.data.toList) h
   simpa [packB] using this
  rw [Bool.or_eq_true, decide_eq_true_eq]
  by_cases hl : l.length = 1
  ·exact .inl hl
  ·refine .inr ?_
   cases hl2 : l with
   | nil => exact absurd hl2 hnil
   | cons a r =>
    cases ha : a == 48 with
    | false => show (!(a == 48)) = true; rw [ha]; rfl
    | true =>
     have ha := beq_iff_eq.1 ha
     subst ha
     by_cases hv : val l 0 = 0
     ·rw [hv, Lib.decDigits, dif_pos (by decide)] at h1
      rw [← h1] at hl
      exact absurd rfl hl
     ·exact absurd (h1.trans hl2) (decDigits_head _ _ (Nat.lt_succ_self _) (by omega) r)
 ·intro h
  rw [Bool.or_eq_true, decide_eq_true_eq] at h
  rw [decDigits_val l.length l rfl hd hnil (h.imp id fun h => by simpa using h)]
theorem dig_step {b : UInt8} {v : Nat} (hv : v ≤ 10000000000000) : IntKind.wrap .i64 ((IntKind.wrap .i64 ((10 : Int) * (v : Int))) + (IntKind.wrap .i64 (IntKind.wrap .u8 ((b.toNat : Int) - (48 : Int))))) = ((10 * v + (b.toNat - 48) : Nat) : Int) ∨ isDig b = false := by
 cases hb : isDig b with
 | false => exact .inr rfl
 | true =>
  obtain ⟨h1, h2⟩ := isDig_iff.1 hb
  refine .inl ?_
  have e1 : IntKind.wrap .u8 ((b.toNat : Int) - (48 : Int)) = ((b.toNat - 48 : Nat) : Int) := by
   obtain ⟨d, hd⟩ : ∃ d, d = b.toNat - 48 := ⟨_, rfl⟩
   have hd2 : (b.toNat : Int) - 48 = (d : Int) := by omega
   rw [hd2, ← hd]
   have hd3 : d = 0 ∨ d = 1 ∨ d = 2 ∨ d = 3 ∨ d = 4 ∨ d = 5 ∨ d = 6 ∨ d = 7 ∨ d = 8 ∨ d = 9 := by omega
   rcases hd3 with rfl | rfl | rfl | rfl | rfl | rfl | rfl | rfl | rfl | rfl <;> rfl
  rw [e1, wrap64 (n := (10 : Int) * (v : Int)) (by omega) (by omega), wrap64 (n := ((b.toNat - 48 : Nat) : Int)) (by omega) (by omega), wrap64 (by omega) (by omega)]
  omega
theorem int_loop_impl {s : ByteArray} {k : Int → Option Ret} {kf : Int → Bool → Option Ret} (hs : s.size ≤ 13) : ∀ (r : List UInt8) (i fuel v : Nat), s.data.toList.drop i = r → v < 10 ^ i → r.length < fuel →
  I22_l5 s (ByteArray.size s : Int) fuel k kf (v : Int) (i : Int) = bif r.all isDig then k (val r v : Int) else kf 0 false
 | [], i, fuel, v, hd, hv, hf => by
  have hsz : s.data.toList.length = s.size := (Lib.size_eq s).symm
  have hin : s.size ≤ i := by have := congrArg List.length hd; simp only [List.length_drop, List.length_nil] at this; omega
  obtain ⟨f, rfl⟩ : ∃ f, fuel = f + 1 := ⟨fuel - 1, by simp only [List.length_nil] at hf; omega⟩
  simp only [I22_l5]
  rw [decide_eq_false (by omega)]
  rfl
 | b :: r, i, fuel, v, hd, hv, hf => by
  have hsz : s.data.toList.length = s.size := (Lib.size_eq s).symm
  have hlt : i < s.data.toList.length := by have := congrArg List.length hd; simp only [List.length_drop, List.length_cons] at this; omega
  rw [List.drop_eq_getElem_cons hlt] at hd
  injection hd with hb hd
  obtain ⟨f, rfl⟩ : ∃ f, fuel = f + 1 := ⟨fuel - 1, by omega⟩
  simp only [List.length_cons] at hf
  have hbt : bt s (i : Int) = (b.toNat : Int) := by rw [bt_at (by omega) hlt, hb]
  have hb8 := b.toNat_lt
  have h13 : 10 ^ i ≤ 10 ^ 12 := Nat.pow_le_pow_right (by omega) (by omega)
  simp only [I22_l5]
  rw [decide_eq_true (show (i : Int) < (ByteArray.size s : Int) by omega), inB_nat (by omega), hbt]
  simp only [cond_true]
  rw [List.all_cons]
  cases hdig : isDig b with
  | false =>
   have : ¬ (48 ≤ b.toNat ∧ b.toNat ≤ 57) := fun h => by rw [isDig_iff.2 h] at hdig; cases hdig
   by_cases h1 : (b.toNat : Int) < 48
   ·rw [decide_eq_true h1]; rfl
   ·rw [decide_eq_false h1, cond_false, decide_eq_true (show (b.toNat : Int) > 57 by omega)]; rfl
  | true =>
   rcases dig_step (b := b) (v := v) (by omega) with e | e
   rotate_left
   ·rw [hdig] at e; cases e
   have hw : IntKind.wrap .i64 ((i : Int) + (1 : Int)) = ((i + 1 : Nat) : Int) := by rw [wrap64 (by omega) (by omega)]; omega
   obtain ⟨h1, h2⟩ := isDig_iff.1 hdig
   rw [decide_eq_false (by omega), cond_false, decide_eq_false (by omega), cond_false, e, hw, int_loop_impl hs r (i + 1) f _ hd (by rw [Nat.pow_succ]; omega) (by omega)]
   rfl
theorem headD_get {l : List UInt8} (h : 0 < l.length) : l.headD 0 = l[0] := by
 cases l with
 | nil => simp at h
 | cons a r => rfl
theorem I22_j_ok {N : Nat} {s : ByteArray} {kf : Int → Bool → Option Ret} (hN : 40 < N) (h1 : 1 ≤ s.data.toList.length) (h2 : s.data.toList.length ≤ 13) (h3 : (decide (s.data.toList.length = 1) || !(s.data.toList.headD 0 == 48)) = true) : I22_j1 N s kf = kf (numI s.data.toList) (okI s.data.toList) := by
 have hsz : s.data.toList.length = s.size := (Lib.size_eq s).symm
 unfold I22_j1 numI okI
 have hl := int_loop_impl (kf := kf) (k := fun z4_9 => bif decide (z4_9 > (1000000000000 : Int)) then kf 0 false else kf z4_9 true) (s := s) (by omega) s.data.toList 0 N 0 rfl (by simp) (by omega)
 refine hl.trans ?_
 rw [decide_eq_true h1, decide_eq_true h2, h3]
 simp only [Bool.true_and, Bool.and_true]
 cases hd : s.data.toList.all isDig with
 | false => rfl
 | true =>
  simp only [cond_true, Bool.true_and]
  by_cases hv : val s.data.toList 0 ≤ 1000000000000
  ·rw [decide_eq_false (by omega), decide_eq_true hv]; rfl
  ·rw [decide_eq_true (by omega), decide_eq_false hv]; rfl
theorem I22_ok {N : Nat} {s : ByteArray} {kf : Int → Bool → Option Ret} (hN : 40 < N) : I22 N s kf = kf (numI s.data.toList) (okI s.data.toList) := by
 have hsz : s.data.toList.length = s.size := (Lib.size_eq s).symm
 unfold I22
 by_cases h1 : 1 ≤ s.data.toList.length
 rotate_left
 ·have e : ((ByteArray.size s : Int) == (0 : Int)) = true := by rw [beq_iff_eq]; omega
  rw [e]
  unfold numI okI
  rw [decide_eq_false h1]
  rfl
 have e0 : ((ByteArray.size s : Int) == (0 : Int)) = false := beq_eq_false_iff_ne.2 (by omega)
 rw [e0, cond_false]
 by_cases h2 : s.data.toList.length ≤ 13
 rotate_left
 ·rw [decide_eq_true (by omega)]
  unfold numI okI
  rw [decide_eq_false h2, Bool.false_and, Bool.and_false]
  rfl
 rw [decide_eq_false (by omega), cond_false]
 by_cases h3 : s.data.toList.length = 1
 ·rw [decide_eq_false (by omega), cond_false]
  exact I22_j_ok hN h1 h2 (by rw [decide_eq_true h3]; rfl)
 ·have hlt : 0 < s.data.toList.length := by omega
  have hbt : bt s (0 : Int) = ((s.data.toList[0]).toNat : Int) := bt_at (i := 0) (by omega) hlt
  have hhd : s.data.toList.headD 0 = s.data.toList[0] := headD_get hlt
  rw [decide_eq_true (by omega), cond_true, show (0 : Int) = ((0 : Nat) : Int) from rfl, inB_nat (by omega), cond_true]
  rw [show ((0 : Nat) : Int) = (0 : Int) from rfl, hbt]
  have e48 : (((s.data.toList[0]).toNat : Int) == (48 : Int)) = (s.data.toList.headD 0 == 48) := by
   rw [hhd]
   apply Bool.eq_iff_iff.2
   rw [beq_iff_eq, beq_iff_eq]
   constructor
   ·intro h; exact UInt8.toNat_inj.1 (by show _ = 48; omega)
   ·intro h; rw [h]; rfl
  rw [e48]
  cases hh : s.data.toList.headD 0 == 48 with
  | true =>
   unfold numI okI
   rw [hh, decide_eq_false h3]
   simp only [Bool.not_true, Bool.or_self, Bool.and_false, cond_false, cond_true]
  | false => exact I22_j_ok hN h1 h2 (by rw [hh, decide_eq_false h3]; rfl)
end Go.Pv.R
namespace Go.Pv.R
set_option linter.unusedVariables false
set_option linter.unusedSimpArgs false
def cutP (w : List UInt8) : List UInt8 × List UInt8 := ((Lib.cut w [62]).1, (Lib.cut w [62]).2.1)
theorem cut_spl : ∀ L : List UInt8, (62 ∉ L ∧ spl 62 L = [L] ∧ Lib.indexByte L 62 = -1) ∨ ∃ p q, spl 62 L = p :: spl 62 q ∧ Lib.indexByte L 62 = (p.length : Int) ∧ L = p ++ 62 :: q
 | [] => .inl ⟨by simp, rfl, rfl⟩
 | b :: r => by
  by_cases hb : b = 62
  ·subst hb
   exact .inr ⟨[], r, rfl, rfl, rfl⟩
  ·have hbc : (b == 62) = false := beq_eq_false_iff_ne.2 hb
   rcases cut_spl r with ⟨h1, h2, h3⟩ | ⟨p, q, h1, h2, h3⟩
   ·refine .inl ⟨fun h => ?_, ?_, ?_⟩
    ·rcases List.mem_cons.1 h with h | h
     ·exact hb h.symm
     ·exact h1 h
    ·simp only [spl, hbc, cond_false, h2]
    ·unfold Lib.indexByte
     rw [if_neg (by simpa using hb), h3]
     rfl
   ·refine .inr ⟨b :: p, q, ?_, ?_, by rw [h3]; rfl⟩
    ·simp only [spl, hbc, cond_false, h1]
    ·unfold Lib.indexByte
     rw [if_neg (by simpa using hb), h2, if_neg (by simp)]
     simp
theorem cut_hit {p q : List UInt8} (h : Lib.indexByte (p ++ 62 :: q) 62 = (p.length : Int)) : cutP (p ++ 62 :: q) = (p, q) := by
 unfold cutP Lib.cut
 rw [Lib.index_one, h, if_pos (by omega)]
 simp only [Int.toNat_natCast]
 have e1 : p ++ 62 :: q = (p ++ [62]) ++ q := by simp
 have e2 : (p ++ [62]).length = p.length + [(62 : UInt8)].length := by simp
 rw [List.take_left' rfl, e1, ← e2, List.drop_left' rfl]
def okW (w : List UInt8) : Bool := okI (cutP w).1 && okI (cutP w).2
def valW (w : List UInt8) : List Int := [numI (cutP w).1, numI (cutP w).2]
theorem numI_64 (l : List UInt8) : I64 (numI l) := by
 unfold numI
 cases h : okI l with
 | false => show I64 0; exact ⟨by decide, by decide⟩
 | true =>
  unfold okI at h
  simp only [Bool.and_eq_true, decide_eq_true_eq] at h
  have := h.2.2.2.1
  show I64 (val l 0 : Int)
  exact ⟨by omega, by omega⟩
theorem impl_pg_loop {N : Nat} {s0 : ByteArray} {z : Graph} {k : Bool → Graph → Option Ret} {ws : List (List UInt8)} (hN : 50 < N) (hw : ∀ w ∈ ws, w.length ≤ 1500000) (hl : ws.length ≤ 2000000) : ∀ (r : List (List UInt8)) (i fuel : Nat) (ok : Bool) (g : Graph), ws.drop i = r → r.length < fuel → g.2.length ≤ i →
  I6_l5 N s0 z (ws.map packB) (List.length (ws.map packB) : Int) fuel k ok g (i : Int) = k (ok && r.all okW) (g.1, g.2 ++ r.map valW)
 | [], i, fuel, ok, g, hd, hf, hg => by
  have hin : ws.length ≤ i := by have := congrArg List.length hd; simp only [List.length_drop, List.length_nil] at this; omega
  obtain ⟨f, rfl⟩ : ∃ f, fuel = f + 1 := ⟨fuel - 1, by simp only [List.length_nil] at hf; omega⟩
  simp only [I6_l5, List.length_map]
  rw [decide_eq_false (by omega)]
  simp
 | w :: r, i, fuel, ok, g, hd, hf, hg => by
  have hlt : i < ws.length := by have := congrArg List.length hd; simp only [List.length_drop, List.length_cons] at this; omega
  rw [List.drop_eq_getElem_cons hlt] at hd
  injection hd with hb hd
  obtain ⟨f, rfl⟩ : ∃ f, fuel = f + 1 := ⟨fuel - 1, by omega⟩
  simp only [List.length_cons] at hf
  have hww := hw w (by rw [← hb]; exact List.getElem_mem hlt)
  have hlm : i < (ws.map packB).length := by rw [List.length_map]; exact hlt
  have hwi : IntKind.wrap .i64 ((i : Int) + (1 : Int)) = ((i + 1 : Nat) : Int) := by
   have := maxLen_eq
   rw [wrap64 (by omega) (by omega)]; omega
  have hsz : (packB w).size = w.length := by rw [Lib.size_eq, data_pack]
  have hA : cutA (packB w) s_h3e = packB (cutP w).1 := by unfold cutA cutP; rw [data_pack]; rfl
  have hB : cutB (packB w) s_h3e = packB (cutP w).2 := by unfold cutB cutP; rw [data_pack]; rfl
  have hc : (Nat.blt (ByteArray.size (packB w)) 4294967281 && Nat.beq (ByteArray.size s_h3e) 1) = true := by
   have h1 : Nat.blt (ByteArray.size (packB w)) 4294967281 = true := by rw [Nat.blt_eq]; omega
   rw [h1]; rfl
  have hsm : decide ((List.length g.2 + List.length [valW w]) * 1 ≤ 4398046511104) = true := decide_eq_true (by simp only [List.length_cons, List.length_nil]; omega)
  simp only [I6_l5]
  rw [decide_eq_true (by omega), cond_true, inB_nat hlm, cond_true, Int.toNat_natCast, getD_nat _ _ hlm, List.getElem_map, hb]
  unfold S23
  rw [hc, cond_true, hA, hB]
  simp only []
  rw [I22_ok (by omega), I22_ok (by omega), data_pack, data_pack]
  have hrec : ∀ ok', I6_l5 N s0 z (ws.map packB) (List.length (ws.map packB) : Int) f k ok' (g.1, g.2 ++ [valW w]) (IntKind.wrap .i64 ((i : Int) + (1 : Int))) = k (ok' && r.all okW) (g.1, g.2 ++ (w :: r).map valW) := fun ok' => by
   rw [hwi, impl_pg_loop hN hw hl r (i + 1) f ok' _ hd (by omega) (by simp only [List.length_append, List.length_cons, List.length_nil]; omega)]
   simp only [List.map_cons, List.append_assoc, List.cons_append, List.nil_append]
  show (bif ok then bif okI (cutP w).1 then bif decide ((List.length g.2 + List.length [valW w]) * 1 ≤ 4398046511104) then I6_l5 N s0 z (ws.map packB) (List.length (ws.map packB) : Int) f k (okI (cutP w).2) (g.1, g.2 ++ [valW w]) (IntKind.wrap .i64 ((i : Int) + (1 : Int))) else none else bif decide ((List.length g.2 + List.length [valW w]) * 1 ≤ 4398046511104) then I6_l5 N s0 z (ws.map packB) (List.length (ws.map packB) : Int) f k false (g.1, g.2 ++ [valW w]) (IntKind.wrap .i64 ((i : Int) + (1 : Int))) else none else bif decide ((List.length g.2 + List.length [valW w]) * 1 ≤ 4398046511104) then I6_l5 N s0 z (ws.map packB) (List.length (ws.map packB) : Int) f k false (g.1, g.2 ++ [valW w]) (IntKind.wrap .i64 ((i : Int) + (1 : Int))) else none) = _
  rw [hsm, hrec, hrec]
  simp only [cond_true, List.all_cons]
  unfold okW
  cases ok <;> cases okI (cutP w).1 <;> simp
noncomputable def readG (s : ByteArray) : Graph := (numI ((spl 32 s.data.toList).headD []), (spl 32 s.data.toList).tail.map valW)
noncomputable def readOK (s : ByteArray) : Bool := okI ((spl 32 s.data.toList).headD []) && ((spl 32 s.data.toList).tail.all okW && (ByteArray.toList (graphM (readG s)) == ByteArray.toList s))
noncomputable def parseG (s : ByteArray) : Graph := bif readOK s then readG s else ((0 : Int), ([] : List (List Int)))
theorem spl_words (c : UInt8) : ∀ (L : List UInt8) (w : List UInt8), w ∈ spl c L → w.length ≤ L.length
 | [], w, h => by simp [spl] at h; subst h; simp
 | b :: r, w, h => by
  have ih := spl_words c r
  simp only [spl] at h
  cases hb : b == c with
  | true =>
   rw [hb, cond_true] at h
   rcases List.mem_cons.1 h with rfl | h
   ·simp
   ·have := ih w h; simp only [List.length_cons]; omega
  | false =>
   obtain ⟨x, xs, e⟩ := spl_cons c r
   rw [hb, cond_false, e] at h
   rw [e] at ih
   simp only [List.length_cons]
   rcases List.mem_cons.1 h with rfl | h
   ·have := ih x (by simp); simp only [List.length_cons]; omega
   ·have := ih w (by simp [h]); omega
theorem readG_64 {s : ByteArray} (hs : s.size ≤ 1048576) : Graph64 (readG s) := by
 have hsz : s.data.toList.length = s.size := (Lib.size_eq s).symm
 have hl := spl_len 32 s.data.toList
 refine ⟨numI_64 _, fun x hx y hy => ?_, ?_⟩
 ·obtain ⟨w, _, rfl⟩ := List.mem_map.1 hx
  unfold valW at hy
  simp only [List.mem_cons, List.mem_nil_iff, or_false] at hy
  rcases hy with rfl | rfl <;> exact numI_64 _
 ·show (List.map valW _).length ≤ _
  rw [List.length_map, List.length_tail]
  omega
theorem I6_ok {N : Nat} {s : ByteArray} {kf : Graph → Bool → Option Ret} (hs : s.size ≤ 1048576) (hN : s.size + 100 < N) : I6 N s kf = kf (parseG s) (readOK s) := by
 have hsz : s.data.toList.length = s.size := (Lib.size_eq s).symm
 have hl := spl_len 32 s.data.toList
 have hwords := spl_words 32 s.data.toList
 unfold I6 S21
 have hc : (Nat.blt (ByteArray.size s) 4294967281 && Nat.beq (ByteArray.size s_h20) 1) = true := by
  have h1 : Nat.blt (ByteArray.size s) 4294967281 = true := by rw [Nat.blt_eq]; omega
  rw [h1]; rfl
 have e32 : splitL s s_h20 = (spl 32 s.data.toList).map packB := splitL_ok s 32
 rw [hc, cond_true, e32]
 have h64 := readG_64 hs
 unfold parseG readOK
 unfold readG at h64 ⊢
 obtain ⟨w0, ws, e⟩ := spl_cons 32 s.data.toList
 rw [e] at hl hwords h64 ⊢
 simp only [List.headD_cons, List.tail_cons] at h64 ⊢
 have b0 : inB (0 : Int) (List.length (List.map packB (w0 :: ws))) = true := by rw [List.length_map]; exact inB_nat (i := 0) (by simp)
 have v0 : List.getD (List.map packB (w0 :: ws)) (Int.toNat (0 : Int)) ByteArray.empty = packB w0 := rfl
 simp only [List.length_cons] at hl
 have d1 : (decide ((0 : Int) ≤ (1 : Int)) && decide ((1 : Int) ≤ (List.length (List.map packB (w0 :: ws)) : Int)) && decide ((List.length (List.map packB (w0 :: ws)) : Int) ≤ (List.length (List.map packB (w0 :: ws)) : Int))) = true := by
  rw [List.length_map]
  simp only [List.length_cons, Bool.and_eq_true, decide_eq_true_eq]
  omega
 have dl : List.drop (Int.toNat (1 : Int)) (List.take (Int.toNat (List.length (List.map packB (w0 :: ws)) : Int)) (List.map packB (w0 :: ws))) = List.map packB ws := by
  rw [Int.toNat_natCast, List.take_length]
  rfl
 rw [b0, cond_true, v0, I22_ok (by omega), data_pack, d1, cond_true, dl, show (0 : Int) = ((0 : Nat) : Int) from rfl, impl_pg_loop (ws := ws) (by omega) (fun w hw => by have := hwords w (by simp [hw]); omega) (by omega) ws 0 N _ _ rfl (by omega) (by simp)]
 simp only [List.nil_append]
 cases hall : ws.all okW with
 | false => simp only [Bool.and_false, Bool.false_and, Bool.not_false, cond_true, cond_false]
 | true =>
  cases h0 : okI w0 with
  | false => rfl
  | true =>
   simp only [Bool.and_self, Bool.not_true, cond_false, Bool.true_and]
   rw [I7_ok h64 (by simp only [List.length_map]; omega)]
   cases ByteArray.toList (graphM (numI w0, List.map valW ws)) == ByteArray.toList s <;> rfl
theorem itoaB_pos (n : Int) : 1 ≤ (itoaB n).size := by
 unfold itoaB
 rw [sizeL]
 unfold Lib.itoa
 have h : ∀ u, 1 ≤ (Lib.decDigits u).length := fun u => by
  cases hd : Lib.decDigits u with
  | nil => exact absurd hd (decDigits_ne u)
  | cons _ _ => simp
 split
 ·simp
 ·exact h _
theorem catB_ge {α : Type} {f : α → ByteArray} {m : Nat} : ∀ (l : List α), (∀ x ∈ l, m ≤ (f x).size) → m * l.length ≤ (catB f l).size
 | [], _ => by simp
 | x :: r, h => by
  have ih := catB_ge r (fun y hy => h y (by simp [hy]))
  have hx := h x (by simp)
  have e : catB f (x :: r) = f x ++ catB f r := by
   apply bext
   simp only [data_app, catB, List.map_cons, List.flatten_cons]
  rw [e, size_app, List.length_cons, Nat.mul_succ]
  omega
theorem twos_size : ∀ (l : List (List Int)), (∀ x ∈ l, x.length = 2) → sizeV (.sl (.sl (.int .i64))) l = 3 * l.length
 | [], _ => rfl
 | x :: r, h => by
  have ih := twos_size r (fun y hy => h y (by simp [hy]))
  have hx := h x (by simp)
  have e : sizeV (.sl (.int .i64)) x = x.length := sizeV_sl (t := .int .i64) (by decide) x
  have e2 : sizeV (.sl (.sl (.int .i64))) (x :: r) = 1 + sizeV (.sl (.int .i64)) x + sizeV (.sl (.sl (.int .i64))) r := by
   simp only [sizeV_def, List.length_cons, List.map_cons, List.sum_cons]
   omega
  rw [e2, e, hx, ih, List.length_cons]
  omega
theorem parseG_size {s : ByteArray} (hs : s.size ≤ 1048576) : sizeV tQILLIE (parseG s) ≤ s.size := by
 have hz : ∀ g : Graph, sizeV tQILLIE g = sizeV (.sl (.sl (.int .i64))) g.2 := fun g => by simp [sizeV]
 rw [hz]
 unfold parseG
 cases hr : readOK s with
 | false => exact Nat.zero_le _
 | true =>
  show sizeV (.sl (.sl (.int .i64))) (readG s).2 ≤ _
  unfold readOK at hr
  simp only [Bool.and_eq_true] at hr
  obtain ⟨_, _, hg⟩ := hr
  rw [beq_iff_eq, Lib.toList_data, Lib.toList_data] at hg
  have hg := bext hg
  have h2 : ∀ x ∈ (readG s).2, x.length = 2 := fun x hx => by
   obtain ⟨w, _, rfl⟩ := List.mem_map.1 hx
   rfl
  rw [twos_size _ h2]
  unfold graphM at hg
  cases hi : isGraphM (readG s) with
  | false =>
   rw [hi] at hg
   have hg' : s_e = s := hg
   rw [← hg']
   have : (readG s).2.length = 0 := by
    rw [← hg']
    rfl
   rw [hg', this]
   omega
  | true =>
   rw [hi, cond_true] at hg
   have h3 := catB_ge (f := attB) (m := 3) (readG s).2 (fun x hx => by
    unfold attB
    simp only [size_app]
    have a1 := itoaB_pos (x.getD 0 0); have a2 := itoaB_pos (x.getD 1 0)
    have c1 : s_h20.size = 1 := rfl; have c2 : s_h3e.size = 1 := rfl
    omega)
   have h4 : (itoaB (readG s).1 ++ catB attB (readG s).2).size = s.size := by rw [hg]
   rw [size_app] at h4
   omega
end Go.Pv.R
namespace Go.Pv.R
set_option linter.unusedVariables false
set_option linter.unusedSimpArgs false
end Go.Pv.R
namespace Go.Pv.R
set_option linter.unusedVariables false
set_option linter.unusedSimpArgs false
end Go.Pv.R
namespace Go.Pv.R
set_option linter.unusedVariables false
set_option linter.unusedSimpArgs false
end Go.Pv.R
namespace Go.Pv.R
set_option linter.unusedVariables false
set_option linter.unusedSimpArgs false
theorem nodup_le : ∀ (r L : List Int), r.Nodup → (∀ x ∈ r, x ∈ L) → r.length ≤ L.length
 | [], L, _, _ => by simp
 | x :: r, L, hn, h => by
  rw [List.nodup_cons] at hn
  have hx := h x (by simp)
  have h1 := List.length_erase_of_mem hx
  have h2 := List.length_pos_of_mem hx
  have := nodup_le r (L.erase x) hn.2 fun y hy => by
   have hne : y ≠ x := fun e => hn.1 (e ▸ hy)
   exact (List.mem_erase_of_ne hne).2 (h y (by simp [hy]))
  simp only [List.length_cons]
  omega
end Go.Pv.R
namespace Go.Pv.R
set_option linter.unusedVariables false
set_option linter.unusedSimpArgs false
def two {α : Type} (t : List α) (i j : Nat) (x y : α) : List α := (t.set i x).set j y
section
variable {α : Type} {t : List α} {i j : Nat} {x y x' y' z : α}
end
end Go.Pv.R
namespace Go.Pv
set_option linter.unusedVariables false
end Go.Pv
namespace Go.Pv.R
set_option linter.unusedVariables false
set_option linter.unusedSimpArgs false
end Go.Pv.R
namespace Go.Pv.R
set_option linter.unusedVariables false
set_option linter.unusedSimpArgs false
end Go.Pv.R
namespace Go.Pv.R
set_option linter.unusedVariables false
set_option linter.unusedSimpArgs false
end Go.Pv.R
namespace Go.Pv.R
set_option linter.unusedVariables false
set_option linter.unusedSimpArgs false
def isStep (x : Int) (d : Nat) : Option Nat := bif inR x 0 5 then some (d + 1) else bif (x == -1) && decide (1 ≤ d) then some d else bif inR x (-4) (-2) && decide (2 ≤ d) then some (d - 1) else none
def isG : List Int → Nat → Option Nat
 | [], d => some d
 | x :: r, d => match isStep x d with
  | some d' => isG r d'
  | none => none
def isFm (r : List Int) : Bool := decide (r.length ≤ 24) && (isG r 0 == some 1)
theorem isStep_pos {x : Int} {d d' : Nat} (h : isStep x d = some d') : 1 ≤ d' ∧ d' ≤ d + 1 := by
 unfold isStep at h
 cases h1 : inR x 0 5 with
 | true => rw [h1, cond_true] at h; injection h with h; omega
 | false =>
  rw [h1, cond_false] at h
  cases h2 : (x == -1) && decide (1 ≤ d) with
  | true =>
   rw [h2, cond_true] at h
   injection h with h
   simp only [Bool.and_eq_true, decide_eq_true_eq] at h2
   omega
  | false =>
   rw [h2, cond_false] at h
   cases h3 : inR x (-4) (-2) && decide (2 ≤ d) with
   | true =>
    rw [h3, cond_true] at h
    injection h with h
    simp only [Bool.and_eq_true, decide_eq_true_eq] at h3
    omega
   | false => rw [h3] at h; cases h
theorem isG_pos : ∀ {r : List Int} {d d' : Nat}, isG r d = some d' → 1 ≤ d → 1 ≤ d'
 | [], d, d', h, h1 => by injection h with h; omega
 | x :: r, d, d', h, h1 => by
  simp only [isG] at h
  cases hs : isStep x d with
  | none => rw [hs] at h; cases h
  | some e => rw [hs] at h; exact isG_pos h (isStep_pos hs).1
theorem isFm_len {r : List Int} (h : isFm r = true) : 1 ≤ r.length ∧ r.length ≤ 24 := by
 unfold isFm at h
 simp only [Bool.and_eq_true, decide_eq_true_eq] at h
 cases r with
 | nil => have := h.2; simp [isG] at this
 | cons x r => simp only [List.length_cons] at h ⊢; omega
theorem goL1_opt {σ : Type} {body : Nat → Int → σ → (σ → Option Ret) → Option Ret} {kend : σ → Option Ret} {no : Option Ret} {dep : σ → Nat} {B : Nat}
  (hb : ∀ (i : Nat) (x : Int) (s : σ), dep s ≤ B → (isStep x (dep s) = none → ∀ next, body i x s next = no) ∧ ∀ d', isStep x (dep s) = some d' → ∃ s', dep s' = d' ∧ ∀ next, body i x s next = next s') : ∀ (r : List Int) (i : Nat) (s : σ), dep s + r.length ≤ B + 1 → (isG r (dep s) = none → goL1 body kend r i s = no) ∧ ∀ d', isG r (dep s) = some d' → ∃ s', dep s' = d' ∧ goL1 body kend r i s = kend s'
 | [], i, s, _ => ⟨fun h => (by cases h), fun d' h => by injection h with h; exact ⟨s, h, rfl⟩⟩
 | x :: r, i, s, hB => by
  simp only [List.length_cons] at hB
  obtain ⟨h1, h2⟩ := hb i x s (by omega)
  simp only [isG, goL1]
  cases hs : isStep x (dep s) with
  | none => exact ⟨fun _ => h1 hs _, fun d' h => by cases h⟩
  | some d' =>
   obtain ⟨s', e1, e2⟩ := h2 d' hs
   have hp := isStep_pos hs
   have := goL1_opt (kend := kend) hb r (i + 1) s' (by omega)
   rw [e1] at this
   rw [e2]
   exact this
theorem goL1_opt' {σ : Type} {body : Nat → Int → σ → (σ → Option Ret) → Option Ret} {kend : σ → Option Ret} {no : Option Ret} (dep : σ → Nat) (B : Nat)
  (hb : ∀ (i : Nat) (x : Int) (s : σ), dep s ≤ B → (isStep x (dep s) = none → ∀ next, body i x s next = no) ∧ ∀ d', isStep x (dep s) = some d' → ∃ s', dep s' = d' ∧ ∀ next, body i x s next = next s') (r : List Int) (i : Nat) (s : σ) (hB : dep s + r.length ≤ B + 1) {Q : Option Ret} (h1 : isG r (dep s) = none → no = Q) (h2 : ∀ d' s', isG r (dep s) = some d' → dep s' = d' → kend s' = Q) : goL1 body kend r i s = Q := by
 obtain ⟨k1, k2⟩ := goL1_opt (kend := kend) hb r i s hB
 cases hg : isG r (dep s) with
 | none => rw [k1 hg]; exact h1 hg
 | some d' =>
  obtain ⟨s', e1, e2⟩ := k2 d' hg
  rw [e2]
  exact h2 d' s' hg e1
theorem S53_ok {N : Nat} {r : List Int} {kf : Bool → Option Ret} (hl : r.length ≤ 1048576) (hN : r.length < N) : S53 N r kf = kf (isFm r) := by
 have hx := maxLen_eq
 unfold S53
 rw [S53_l3_r (by omega) hN]
 have key : ∀ (body : Nat → Int → Int → (Int → Option Ret) → Option Ret) (kend : Int → Option Ret), (∀ (i : Nat) (x : Int) (d : Nat), d ≤ 1048580 → (isStep x d = none → ∀ next, body i x (d : Int) next = kf false) ∧ ∀ d', isStep x d = some d' → ∀ next, body i x (d : Int) next = next (d' : Int)) → ∀ (r : List Int) (i d : Nat), d + r.length ≤ 1048580 → goL1 body kend r i (d : Int) = match isG r d with | some d' => kend (d' : Int) | none => kf false := by
  intro body kend hb r
  induction r with
  | nil => intro i d _; rfl
  | cons x r ih =>
   intro i d hd
   simp only [List.length_cons] at hd
   obtain ⟨h1, h2⟩ := hb i x d (by omega)
   simp only [isG, goL1]
   cases hs : isStep x d with
   | none => exact h1 hs _
   | some d' =>
    have hp := isStep_pos hs
    rw [h2 d' hs]
    exact ih (i + 1) d' (by omega)
 refine (key _ _ (fun i x d hd => ?_) r 0 0 (by omega)).trans ?_
 ·simp only [S66_ok]
  have w1 : IntKind.wrap .i64 ((d : Int) + 1) = ((d + 1 : Nat) : Int) := wrap64 (by omega) (by omega)
  have w2 : ∀ h : 2 ≤ d, IntKind.wrap .i64 ((d : Int) - 1) = ((d - 1 : Nat) : Int) := fun h => by rw [wrap64 (by omega) (by omega)]; omega
  have c1 : decide ((d : Int) ≥ 1) = decide (1 ≤ d) := decide_eq_decide.2 (by omega)
  have c2 : decide ((d : Int) ≥ 2) = decide (2 ≤ d) := decide_eq_decide.2 (by omega)
  rw [w1, c1, c2]
  unfold isStep
  cases inR x 0 5 with
  | true => exact ⟨fun h => (by cases h), fun d' h next => by injection h with h; subst h; rfl⟩
  | false =>
   simp only [cond_false]
   by_cases h2 : 2 ≤ d
   ·rw [w2 h2, decide_eq_true h2, decide_eq_true (show 1 ≤ d by omega)]
    cases x == -1 <;> cases inR x (-4) (-2) <;> exact ⟨fun h => (by first | exact fun _ => rfl | cases h), fun d' h next => by first | (injection h with h; subst h; rfl) | cases h⟩
   ·rw [decide_eq_false h2]
    cases decide (1 ≤ d) <;> cases x == -1 <;> cases inR x (-4) (-2) <;> exact ⟨fun h => (by first | exact fun _ => rfl | cases h), fun d' h next => by first | (injection h with h; subst h; rfl) | cases h⟩
 ·unfold isFm
  cases hg : isG r 0 with
  | none => simp
  | some d' =>
   simp only []
   by_cases h1 : d' = 1
   ·subst h1
    have : (((1 : Nat) : Int) == 1) = true := rfl
    rw [this, cond_true]
    congr 1
    rw [show decide ((r.length : Int) ≤ 24) = decide (r.length ≤ 24) from decide_eq_decide.2 (by omega)]
    simp
   ·have : ((d' : Int) == 1) = false := by simp; omega
    have h2 : (some d' == some 1) = false := by simp [h1]
    rw [this, cond_false, h2, Bool.and_false]
theorem letterRows_ok {N : Nat} {a : Int} (ha : 0 ≤ a) (hN : 70 < N) : ∃ r, ∀ kf : Int → Option Ret, I52 N a kf = kf r := by
 have key : ∀ (k i n : Nat) (x : Int), i + k = 64 → k < n → ∃ r, ∀ kf : Int → Option Ret, I52_l3 a n kf x (i : Int) = kf r := by
  intro k
  induction k with
  | zero =>
   intro i n x hi hn
   obtain ⟨n, rfl⟩ : ∃ m, n = m + 1 := ⟨n - 1, by omega⟩
   refine ⟨x, fun kf => ?_⟩
   simp only [I52_l3]
   rw [decide_eq_false (by omega)]
   rfl
  | succ k ih =>
   intro i n x hi hn
   obtain ⟨n, rfl⟩ : ∃ m, n = m + 1 := ⟨n - 1, by omega⟩
   have w1 : IntKind.wrap .i64 ((i : Int) + 1) = ((i + 1 : Nat) : Int) := wrap64 (by omega) (by omega)
   simp only [I52_l3]
   rw [decide_eq_true (show (i : Int) < 64 by omega), decide_eq_true ha, decide_eq_true (show (0 : Int) ≤ (i : Int) by omega), w1]
   simp only [cond_true]
   cases (IntKind.wrap .i64 (BitVec.toNat (BitVec.ofInt (IntKind.bits .i64) (Int.fdiv (i : Int) (2 ^ (min (Int.toNat a) (IntKind.bits .i64)))) &&& BitVec.ofInt (IntKind.bits .i64) (1 : Int)))) == (1 : Int)
   ·exact ih (i + 1) n _ (by omega) (by omega)
   ·exact ih (i + 1) n _ (by omega) (by omega)
 exact key 64 0 N 0 (by omega) (by omega)
theorem rowsOp {x : Int} {s : List Int} (h2 : 2 ≤ s.length) (hB : s.length ≤ 200) : ∃ s' : List Int, s'.length = s.length - 1 ∧ ∀ (next : List Int → Option Ret) (no : Option Ret), (bif (decide ((List.length s : Int) ≥ (2 : Int))) then
          bif (inB (IntKind.wrap .i64 ((List.length s : Int) - (2 : Int))) (List.length s)) then
           bif (inB (IntKind.wrap .i64 ((List.length s : Int) - (1 : Int))) (List.length s)) then
            bif (decide ((0 : Int) ≤ (0 : Int)) && decide ((0 : Int) ≤ (IntKind.wrap .i64 ((List.length s : Int) - (1 : Int)))) && decide ((IntKind.wrap .i64 ((List.length s : Int) - (1 : Int))) ≤ (List.length s : Int))) then
             bif (x == (-2 : Int)) then
              bif (inB (IntKind.wrap .i64 ((List.length s : Int) - (2 : Int))) (List.length (List.take (Int.toNat (IntKind.wrap .i64 ((List.length s : Int) - (1 : Int)))) s))) then
               next (List.set (List.take (Int.toNat (IntKind.wrap .i64 ((List.length s : Int) - (1 : Int)))) s) (Int.toNat (IntKind.wrap .i64 ((List.length s : Int) - (2 : Int)))) (IntKind.wrap .u64 (BitVec.toNat (BitVec.ofInt (IntKind.bits .u64) (List.getD s (Int.toNat (IntKind.wrap .i64 ((List.length s : Int) - (2 : Int)))) (0 : Int)) &&& BitVec.ofInt (IntKind.bits .u64) (List.getD s (Int.toNat (IntKind.wrap .i64 ((List.length s : Int) - (1 : Int)))) (0 : Int))))))
              else none
             else
              bif (x == (-3 : Int)) then
               bif (inB (IntKind.wrap .i64 ((List.length s : Int) - (2 : Int))) (List.length (List.take (Int.toNat (IntKind.wrap .i64 ((List.length s : Int) - (1 : Int)))) s))) then
                next (List.set (List.take (Int.toNat (IntKind.wrap .i64 ((List.length s : Int) - (1 : Int)))) s) (Int.toNat (IntKind.wrap .i64 ((List.length s : Int) - (2 : Int)))) (IntKind.wrap .u64 (BitVec.toNat (BitVec.ofInt (IntKind.bits .u64) (List.getD s (Int.toNat (IntKind.wrap .i64 ((List.length s : Int) - (2 : Int)))) (0 : Int)) ||| BitVec.ofInt (IntKind.bits .u64) (List.getD s (Int.toNat (IntKind.wrap .i64 ((List.length s : Int) - (1 : Int)))) (0 : Int))))))
               else none
              else
               bif (inB (IntKind.wrap .i64 ((List.length s : Int) - (2 : Int))) (List.length (List.take (Int.toNat (IntKind.wrap .i64 ((List.length s : Int) - (1 : Int)))) s))) then
                next (List.set (List.take (Int.toNat (IntKind.wrap .i64 ((List.length s : Int) - (1 : Int)))) s) (Int.toNat (IntKind.wrap .i64 ((List.length s : Int) - (2 : Int)))) (IntKind.wrap .u64 (BitVec.toNat (BitVec.ofInt (IntKind.bits .u64) (xorV .u64 (List.getD s (Int.toNat (IntKind.wrap .i64 ((List.length s : Int) - (2 : Int)))) (0 : Int))) ||| BitVec.ofInt (IntKind.bits .u64) (List.getD s (Int.toNat (IntKind.wrap .i64 ((List.length s : Int) - (1 : Int)))) (0 : Int))))))
               else none
            else none
           else none
          else none
         else
  no) = next s' := by
 have hx := maxLen_eq
 have w1 : IntKind.wrap .i64 ((List.length s : Int) - 1) = ((s.length - 1 : Nat) : Int) := by rw [wrap64 (by omega) (by omega)]; omega
 have w2 : IntKind.wrap .i64 ((List.length s : Int) - 2) = ((s.length - 2 : Nat) : Int) := by rw [wrap64 (by omega) (by omega)]; omega
 have d3 : (decide ((0 : Int) ≤ (0 : Int)) && decide ((0 : Int) ≤ ((s.length - 1 : Nat) : Int)) && decide (((s.length - 1 : Nat) : Int) ≤ (List.length s : Int))) = true := by
  rw [decide_eq_true (by omega), decide_eq_true (by omega), decide_eq_true (by omega)]; rfl
 have lt : (List.take (s.length - 1) s).length = s.length - 1 := by rw [List.length_take]; omega
 simp only [w1, w2, d3, Int.toNat_natCast, decide_eq_true (show (List.length s : Int) ≥ 2 by omega), inB_nat (show s.length - 2 < s.length by omega), inB_nat (show s.length - 1 < s.length by omega), inB_nat (show s.length - 2 < (List.take (s.length - 1) s).length by omega), cond_true]
 cases x == -2 with
 | true => exact ⟨_, by rw [List.length_set, lt], fun next no => rfl⟩
 | false =>
  cases x == -3 with
  | true => exact ⟨_, by rw [List.length_set, lt], fun next no => rfl⟩
  | false => exact ⟨_, by rw [List.length_set, lt], fun next no => rfl⟩
theorem I14_ok {N : Nat} {r : List Int} {kf : Bool → Option Ret} (hl : r.length ≤ 1048576) (hN : r.length + 100 < N) : I14 N r kf = kf (isFm r) := by
 have hx := maxLen_eq
 unfold I14 I36
 rw [I25_ok]
 have hin : inR (r.length : Int) 1 24 = decide (1 ≤ r.length ∧ r.length ≤ 24) := by
  rw [Bool.eq_iff_iff, inR_iff, decide_eq_true_eq]; omega
 rw [hin]
 by_cases h24 : 1 ≤ r.length ∧ r.length ≤ 24
 rotate_left
 ·rw [decide_eq_false h24]
  have : isFm r = false := by
   cases hf : isFm r with
   | false => rfl
   | true => exact absurd (isFm_len hf) h24
  rw [this]; rfl
 ·rw [decide_eq_true h24]
  simp only [Bool.not_true, cond_false]
  rw [I36_l5_r (by omega) (by omega)]
  refine goL1_opt' List.length 200 (no := kf false) (fun i x s hd => ?_) r 0 [] (by simp; omega) (fun hg => ?_) (fun d' s' hg e1 => ?_)
  rotate_left
  ·have hg : isG r 0 = none := hg
   have : isFm r = false := by unfold isFm; rw [hg]; simp
   rw [this]
  ·have hg : isG r 0 = some d' := hg
   have h0 : 1 ≤ d' := by
    cases r with
    | nil => simp at h24
    | cons x r =>
     simp only [isG] at hg
     cases hs : isStep x 0 with
     | none => rw [hs] at hg; cases hg
     | some e => rw [hs] at hg; exact isG_pos hg (isStep_pos hs).1
   rw [show inB (0 : Int) (List.length s') = true from inB_nat (i := 0) (by omega), cond_true, e1]
   congr 1
   unfold isFm
   rw [hg, decide_eq_true h24.2, Bool.true_and, Bool.eq_iff_iff]
   simp only [beq_iff_eq, Option.some.injEq]
   omega
  ·simp only [I25_ok]
   cases h5 : inR x 0 5 with
   | true =>
    rw [inR_iff] at h5
    obtain ⟨rr, hr⟩ := letterRows_ok (N := N) h5.1 (by omega)
    have e : isStep x s.length = some (s.length + 1) := by unfold isStep; rw [inR_iff.2 h5]; rfl
    rw [e]
    refine ⟨fun h => (by cases h), fun d' h => ⟨s ++ [rr], by injection h with h; rw [List.length_append]; exact h, fun next => ?_⟩⟩
    simp only [cond_true]
    rw [hr, decide_eq_true (by simp; omega)]
    rfl
   | false =>
    simp only [cond_false]
    have e0 : isStep x s.length = bif (x == -1) && decide (1 ≤ s.length) then some s.length else bif inR x (-4) (-2) && decide (2 ≤ s.length) then some (s.length - 1) else none := by unfold isStep; rw [h5]; rfl
    rw [e0]
    by_cases h2 : 2 ≤ s.length
    ·obtain ⟨s', l1, l2⟩ := rowsOp (x := x) h2 hd
     have w1 : IntKind.wrap .i64 ((List.length s : Int) - 1) = ((s.length - 1 : Nat) : Int) := by rw [wrap64 (by omega) (by omega)]; omega
     cases hm : x == -1 with
     | true =>
      rw [decide_eq_true (show 1 ≤ s.length by omega)]
      refine ⟨fun h => (by cases h), fun d' h => ⟨List.set s (s.length - 1) (xorV .u64 (List.getD s (s.length - 1) 0)), ?_, fun next => ?_⟩⟩
      rotate_left
      ·simp only [cond_true]
       rw [decide_eq_true (show (List.length s : Int) ≥ 1 by omega), w1, inB_nat (show s.length - 1 < s.length by omega)]
       rfl
      ·injection h with h; rw [List.length_set]; exact h
     | false =>
      simp only [cond_false, Bool.false_and]
      cases inR x (-4) (-2) with
      | true =>
       rw [decide_eq_true h2]
       refine ⟨fun h => (by cases h), fun d' h => ⟨s', by injection h with h; omega, fun next => ?_⟩⟩
       exact l2 next (kf false)
      | false => exact ⟨fun _ _ => rfl, fun d' h => (by cases h)⟩
    ·have w1 : 1 ≤ s.length → IntKind.wrap .i64 ((List.length s : Int) - 1) = ((s.length - 1 : Nat) : Int) := fun h => by rw [wrap64 (by omega) (by omega)]; omega
     rw [decide_eq_false h2, decide_eq_false (show ¬ (List.length s : Int) ≥ 2 by omega)]
     simp only [Bool.and_false, cond_false]
     by_cases h1 : 1 ≤ s.length
     ·rw [decide_eq_true h1, decide_eq_true (show (List.length s : Int) ≥ 1 by omega)]
      cases hm : x == -1 with
      | true =>
       refine ⟨fun h => (by cases h), fun d' h => ⟨List.set s (s.length - 1) (xorV .u64 (List.getD s (s.length - 1) 0)), ?_, fun next => ?_⟩⟩
       rotate_left
       ·simp only [cond_true]
        rw [w1 h1, inB_nat (show s.length - 1 < s.length by omega)]
        rfl
       ·injection h with h; rw [List.length_set]; exact h
      | false =>
       cases inR x (-4) (-2) <;> exact ⟨fun _ _ => rfl, fun d' h => (by cases h)⟩
     ·rw [decide_eq_false h1, decide_eq_false (show ¬ (List.length s : Int) ≥ 1 by omega)]
      cases x == -1 <;> cases inR x (-4) (-2) <;> exact ⟨fun _ _ => rfl, fun d' h => (by cases h)⟩
end Go.Pv.R
namespace Go.Pv.R
set_option linter.unusedVariables false
set_option linter.unusedSimpArgs false
inductive Fm where
 | le (n : Nat)
 | no (t : Fm)
 | bi (o : Nat) (a b : Fm)
def okF : Fm → Prop
 | .le n => n < 6
 | .no t => okF t
 | .bi o a b => o < 3 ∧ okF a ∧ okF b
def rpn : Fm → List Int
 | .le n => [(n : Int)]
 | .no t => rpn t ++ [-1]
 | .bi o a b => rpn a ++ rpn b ++ [-2 - (o : Int)]
def opB : Nat → UInt8
 | 0 => 38
 | 1 => 124
 | _ => 62
def txt : Fm → List UInt8
 | .le n => [UInt8.ofNat (97 + n)]
 | .no t => 33 :: txt t
 | .bi o a b => 40 :: (txt a ++ (opB o :: (txt b ++ [41])))
theorem txt_le : ∀ t : Fm, (txt t).length + 2 ≤ 4 * (rpn t).length
 | .le n => by simp [rpn, txt]
 | .no t => by have := txt_le t; simp [rpn, txt]; omega
 | .bi o a b => by have := txt_le a; have := txt_le b; simp [rpn, txt]; omega
def flatR : List Fm → List Int
 | [] => []
 | t :: S => flatR S ++ rpn t
theorem isG_tree : ∀ (r : List Int) (S : List Fm) (d' : Nat), (∀ t ∈ S, okF t) → isG r S.length = some d' → ∃ S' : List Fm, S'.length = d' ∧ (∀ t ∈ S', okF t) ∧ flatR S' = flatR S ++ r
 | [], S, d', hS, h => by injection h with h; exact ⟨S, h, hS, by simp⟩
 | x :: r, S, d', hS, h => by
  simp only [isG] at h
  have fin : ∀ (S1 : List Fm), isStep x S.length = some S1.length → (∀ t ∈ S1, okF t) → flatR S1 = flatR S ++ [x] → ∃ S' : List Fm, S'.length = d' ∧ (∀ t ∈ S', okF t) ∧ flatR S' = flatR S ++ x :: r := fun S1 e1 e2 e3 => by
   rw [e1] at h
   obtain ⟨S', k1, k2, k3⟩ := isG_tree r S1 d' e2 h
   exact ⟨S', k1, k2, by rw [k3, e3]; simp⟩
  cases h5 : inR x 0 5 with
  | true =>
   have h6 := inR_iff.1 h5
   refine fin (.le x.toNat :: S) (by unfold isStep; rw [h5]; rfl) (fun t ht => ?_) ?_
   ·rcases List.mem_cons.1 ht with rfl | ht
    ·show x.toNat < 6; omega
    ·exact hS t ht
   ·show flatR S ++ [(x.toNat : Int)] = _
    rw [Int.toNat_of_nonneg h6.1]
  | false =>
   cases h1 : (x == -1) && decide (1 ≤ S.length) with
   | true =>
    simp only [Bool.and_eq_true, beq_iff_eq, decide_eq_true_eq] at h1
    obtain ⟨hx, hl⟩ := h1
    subst hx
    cases S with
    | nil => simp at hl
    | cons t S =>
     refine fin (.no t :: S) (by simp [isStep, inR]) (fun u hu => ?_) ?_
     ·rcases List.mem_cons.1 hu with rfl | hu
      ·exact hS t (by simp)
      ·exact hS u (by simp [hu])
     ·simp [flatR, rpn]
   | false =>
    cases h4 : inR x (-4) (-2) && decide (2 ≤ S.length) with
    | true =>
     have h4' := h4
     simp only [Bool.and_eq_true, decide_eq_true_eq] at h4
     have hx := inR_iff.1 h4.1
     match S, h4.2, hS, fin, h1, h4' with
     | b :: a :: S, _, hS, fin, h1, h4' =>
      refine fin (.bi (-2 - x).toNat a b :: S) (by unfold isStep; rw [h5, h1, h4']; simp) (fun u hu => ?_) ?_
      ·rcases List.mem_cons.1 hu with rfl | hu
       ·exact ⟨by omega, hS a (by simp), hS b (by simp)⟩
       ·exact hS u (by simp [hu])
      ·have : (-2 : Int) - ((-2 - x).toNat : Int) = x := by omega
       simp [flatR, rpn]
       omega
    | false => unfold isStep at h; rw [h5, h1, h4] at h; cases h
theorem isFm_tree {r : List Int} (h : isFm r = true) : ∃ t, okF t ∧ rpn t = r := by
 unfold isFm at h
 simp only [Bool.and_eq_true, decide_eq_true_eq, beq_iff_eq] at h
 obtain ⟨S, h1, h2, h3⟩ := isG_tree r [] 1 (fun t ht => by simp at ht) h.2
 match S, h1, h2, h3 with
 | [t], _, h2, h3 => exact ⟨t, h2 t (by simp), by simpa [flatR] using h3⟩
theorem pack_app (a b : List UInt8) : packB a ++ packB b = packB (a ++ b) := by
 apply bext
 rw [data_pack]
 simp [packB]
theorem pack_size (a : List UInt8) : (packB a).size = a.length := by rw [Lib.size_eq, data_pack]
theorem abc_at {n : Nat} (h : n < 6) : ByteArray.extract s_abcdef n (n + 1) = packB [UInt8.ofNat (97 + n)] := by
 rw [extract_pack]
 have : n = 0 ∨ n = 1 ∨ n = 2 ∨ n = 3 ∨ n = 4 ∨ n = 5 := by omega
 rcases this with rfl | rfl | rfl | rfl | rfl | rfl <;> rfl
structure TxtBody (body : Nat → Int → List ByteArray → (List ByteArray → Option Ret) → Option Ret) : Prop where
 le : ∀ (i n : Nat) (s : List ByteArray) (next : List ByteArray → Option Ret), n < 6 → s.length ≤ 1000 → body i (n : Int) s next = next (s ++ [packB [UInt8.ofNat (97 + n)]])
 no : ∀ (i : Nat) (s : List ByteArray) (w : List UInt8) (next : List ByteArray → Option Ret), w.length ≤ 1000 → s.length ≤ 1000 → body i (-1) (s ++ [packB w]) next = next (s ++ [packB (33 :: w)])
 bi : ∀ (i o : Nat) (s : List ByteArray) (u w : List UInt8) (next : List ByteArray → Option Ret), o < 3 → u.length ≤ 1000 → w.length ≤ 1000 → s.length ≤ 1000 → body i (-2 - (o : Int)) (s ++ [packB u, packB w]) next = next (s ++ [packB (40 :: (u ++ (opB o :: (w ++ [41]))))])
theorem txt_loop {body : Nat → Int → List ByteArray → (List ByteArray → Option Ret) → Option Ret} {kend : List ByteArray → Option Ret} (hb : TxtBody body) : ∀ (t : Fm) (rest : List Int) (i : Nat) (s : List ByteArray), okF t → (rpn t).length ≤ 24 → s.length + (rpn t).length ≤ 900 → goL1 body kend (rpn t ++ rest) i s = goL1 body kend rest (i + (rpn t).length) (s ++ [packB (txt t)])
 | .le n, rest, i, s, ho, h1, h2 => by
  show goL1 body kend ((n : Int) :: rest) i s = _
  simp only [goL1]
  rw [hb.le i n s _ ho (by omega)]
  rfl
 | .no t, rest, i, s, ho, h1, h2 => by
  have hl := txt_le t
  simp only [rpn, List.length_append, List.length_cons, List.length_nil] at h1 h2 ⊢
  rw [List.append_assoc, txt_loop hb t _ i s ho (by omega) (by omega)]
  show goL1 body kend (-1 :: rest) _ _ = _
  simp only [goL1]
  rw [hb.no _ _ _ _ (by omega) (by omega)]
  rfl
 | .bi o a b, rest, i, s, ho, h1, h2 => by
  have hl := txt_le a
  have hl2 := txt_le b
  simp only [rpn, List.length_append, List.length_cons, List.length_nil] at h1 h2 ⊢
  rw [List.append_assoc, List.append_assoc, txt_loop hb a _ i s ho.2.1 (by omega) (by omega), txt_loop hb b _ _ _ ho.2.2 (by omega) (by simp; omega)]
  show goL1 body kend ((-2 - (o : Int)) :: rest) _ _ = _
  simp only [goL1]
  rw [List.append_assoc]
  show body _ _ (s ++ [packB (txt a), packB (txt b)]) _ = _
  rw [hb.bi _ _ _ _ _ _ ho.1 (by omega) (by omega) (by omega)]
  congr 1
  omega
theorem last_at {s : List ByteArray} {y : ByteArray} : (s ++ [y]).getD s.length ByteArray.empty = y := by
 rw [List.getD_eq_getElem?_getD, List.getElem?_append_right (Nat.le_refl _)]; simp
theorem last2_at {s : List ByteArray} {y z : ByteArray} : (s ++ [y, z]).getD s.length ByteArray.empty = y ∧ (s ++ [y, z]).getD (s.length + 1) ByteArray.empty = z := by
 constructor <;> rw [List.getD_eq_getElem?_getD, List.getElem?_append_right (by omega)] <;> simp
theorem last_set {s : List ByteArray} {y z : ByteArray} : (s ++ [y]).set s.length z = s ++ [z] := by
 rw [List.set_append_right _ _ (Nat.le_refl _)]; simp
theorem op_at {o : Nat} (h : o < 3) : ([s_h26, s_h7c, s_h3e] : List ByteArray).getD o ByteArray.empty = packB [opB o] ∧ ByteArray.extract s_h267c3e o (o + 1) = packB [opB o] := by
 have : o = 0 ∨ o = 1 ∨ o = 2 := by omega
 rcases this with rfl | rfl | rfl <;> exact ⟨rfl, by rw [extract_pack]; rfl⟩
theorem spec_txtBody : TxtBody (fun (i : Nat) (x : Int) (x3_3 : (List ByteArray)) (next : (List ByteArray) → Option Ret) =>
    bif (decide (x ≥ (0 : Int))) then
     bif (decide ((0 : Int) ≤ x) && decide (x ≤ (IntKind.wrap .i64 (x + (1 : Int)))) && decide ((IntKind.wrap .i64 (x + (1 : Int))) ≤ (ByteArray.size s_abcdef : Int))) then
      bif (decide ((List.length x3_3 + List.length [(ByteArray.extract s_abcdef (Int.toNat x) (Int.toNat (IntKind.wrap .i64 (x + (1 : Int)))))]) * 1 ≤ 4398046511104)) then
       next (x3_3 ++ [(ByteArray.extract s_abcdef (Int.toNat x) (Int.toNat (IntKind.wrap .i64 (x + (1 : Int)))))])
      else none
     else none
    else
     bif (x == (-1 : Int)) then
      bif (inB (IntKind.wrap .i64 ((List.length x3_3 : Int) - (1 : Int))) (List.length x3_3)) then
       bif (decide (ByteArray.size s_h21 + ByteArray.size (List.getD x3_3 (Int.toNat (IntKind.wrap .i64 ((List.length x3_3 : Int) - (1 : Int)))) ByteArray.empty) ≤ 9223372036854775807)) then
        bif (inB (IntKind.wrap .i64 ((List.length x3_3 : Int) - (1 : Int))) (List.length x3_3)) then
         next (List.set x3_3 (Int.toNat (IntKind.wrap .i64 ((List.length x3_3 : Int) - (1 : Int)))) (s_h21 ++ (List.getD x3_3 (Int.toNat (IntKind.wrap .i64 ((List.length x3_3 : Int) - (1 : Int)))) ByteArray.empty)))
        else none
       else none
      else none
     else
      bif (inB (IntKind.wrap .i64 ((List.length x3_3 : Int) - (2 : Int))) (List.length x3_3)) then
       bif (decide (ByteArray.size s_h28 + ByteArray.size (List.getD x3_3 (Int.toNat (IntKind.wrap .i64 ((List.length x3_3 : Int) - (2 : Int)))) ByteArray.empty) ≤ 9223372036854775807)) then
        bif (inB (IntKind.wrap .i64 ((List.length x3_3 : Int) - (1 : Int))) (List.length x3_3)) then
         bif (inB (IntKind.wrap .i64 ((IntKind.wrap .i64 (0 - x)) - (2 : Int))) (List.length [s_h26, s_h7c, s_h3e])) then
          bif (decide (ByteArray.size (s_h28 ++ (List.getD x3_3 (Int.toNat (IntKind.wrap .i64 ((List.length x3_3 : Int) - (2 : Int)))) ByteArray.empty)) + ByteArray.size (List.getD [s_h26, s_h7c, s_h3e] (Int.toNat (IntKind.wrap .i64 ((IntKind.wrap .i64 (0 - x)) - (2 : Int)))) ByteArray.empty) ≤ 9223372036854775807)) then
           bif (decide (ByteArray.size ((s_h28 ++ (List.getD x3_3 (Int.toNat (IntKind.wrap .i64 ((List.length x3_3 : Int) - (2 : Int)))) ByteArray.empty)) ++ (List.getD [s_h26, s_h7c, s_h3e] (Int.toNat (IntKind.wrap .i64 ((IntKind.wrap .i64 (0 - x)) - (2 : Int)))) ByteArray.empty)) + ByteArray.size (List.getD x3_3 (Int.toNat (IntKind.wrap .i64 ((List.length x3_3 : Int) - (1 : Int)))) ByteArray.empty) ≤ 9223372036854775807)) then
            bif (decide (ByteArray.size (((s_h28 ++ (List.getD x3_3 (Int.toNat (IntKind.wrap .i64 ((List.length x3_3 : Int) - (2 : Int)))) ByteArray.empty)) ++ (List.getD [s_h26, s_h7c, s_h3e] (Int.toNat (IntKind.wrap .i64 ((IntKind.wrap .i64 (0 - x)) - (2 : Int)))) ByteArray.empty)) ++ (List.getD x3_3 (Int.toNat (IntKind.wrap .i64 ((List.length x3_3 : Int) - (1 : Int)))) ByteArray.empty)) + ByteArray.size s_h29 ≤ 9223372036854775807)) then
             bif (decide ((0 : Int) ≤ (0 : Int)) && decide ((0 : Int) ≤ (IntKind.wrap .i64 ((List.length x3_3 : Int) - (2 : Int)))) && decide ((IntKind.wrap .i64 ((List.length x3_3 : Int) - (2 : Int))) ≤ (List.length x3_3 : Int))) then
              bif (decide ((List.length (List.take (Int.toNat (IntKind.wrap .i64 ((List.length x3_3 : Int) - (2 : Int)))) x3_3) + List.length [((((s_h28 ++ (List.getD x3_3 (Int.toNat (IntKind.wrap .i64 ((List.length x3_3 : Int) - (2 : Int)))) ByteArray.empty)) ++ (List.getD [s_h26, s_h7c, s_h3e] (Int.toNat (IntKind.wrap .i64 ((IntKind.wrap .i64 (0 - x)) - (2 : Int)))) ByteArray.empty)) ++ (List.getD x3_3 (Int.toNat (IntKind.wrap .i64 ((List.length x3_3 : Int) - (1 : Int)))) ByteArray.empty)) ++ s_h29)]) * 1 ≤ 4398046511104)) then
               next ((List.take (Int.toNat (IntKind.wrap .i64 ((List.length x3_3 : Int) - (2 : Int)))) x3_3) ++ [((((s_h28 ++ (List.getD x3_3 (Int.toNat (IntKind.wrap .i64 ((List.length x3_3 : Int) - (2 : Int)))) ByteArray.empty)) ++ (List.getD [s_h26, s_h7c, s_h3e] (Int.toNat (IntKind.wrap .i64 ((IntKind.wrap .i64 (0 - x)) - (2 : Int)))) ByteArray.empty)) ++ (List.getD x3_3 (Int.toNat (IntKind.wrap .i64 ((List.length x3_3 : Int) - (1 : Int)))) ByteArray.empty)) ++ s_h29)])
              else none
             else none
            else none
           else none
          else none
         else none
        else none
       else none
      else none) := by
 have hx := maxLen_eq
 refine ⟨fun i n s next hn hs => ?_, fun i s w next hw hs => ?_, fun i o s u w next ho hu hw hs => ?_⟩
 ·have w1 : IntKind.wrap .i64 ((n : Int) + 1) = ((n + 1 : Nat) : Int) := wrap64 (by omega) (by omega)
  have sz : ByteArray.size s_abcdef = 6 := rfl
  have d0 : decide ((n : Int) ≥ 0) = true := decide_eq_true (by omega)
  have d1 : decide ((0 : Int) ≤ (n : Int)) = true := decide_eq_true (by omega)
  have d2 : decide ((n : Int) ≤ ((n + 1 : Nat) : Int)) = true := decide_eq_true (by omega)
  have d3 : decide (((n + 1 : Nat) : Int) ≤ ((6 : Nat) : Int)) = true := decide_eq_true (by omega)
  have d4 : decide ((s.length + List.length [packB [UInt8.ofNat (97 + n)]]) * 1 ≤ 4398046511104) = true := decide_eq_true (by simp only [List.length_cons, List.length_nil]; omega)
  simp only [w1, sz, d0, d1, d2, d3, Int.toNat_natCast, abc_at hn, d4, cond_true, Bool.and_self]
 ·have w1 : IntKind.wrap .i64 ((List.length (s ++ [packB w]) : Int) - 1) = ((s.length : Nat) : Int) := by
   rw [List.length_append, wrap64 (by simp <;> omega) (by simp <;> omega)]; simp
  have e1 : s_h21 = packB [33] := rfl
  have d0 : decide ((-1 : Int) ≥ 0) = false := by decide
  have d1 : ((-1 : Int) == -1) = true := by decide
  have d2 : decide ([(33 : UInt8)].length + w.length ≤ 9223372036854775807) = true := decide_eq_true (by simp only [List.length_cons, List.length_nil]; omega)
  simp only [d0, d1, w1, inB_nat (show s.length < (s ++ [packB w]).length by simp), Int.toNat_natCast, last_at, last_set, e1, pack_app, pack_size, d2, cond_true, cond_false]
  rfl
 ·have w1 : IntKind.wrap .i64 ((List.length (s ++ [packB u, packB w]) : Int) - 1) = ((s.length + 1 : Nat) : Int) := by
   rw [List.length_append, wrap64 (by simp <;> omega) (by simp <;> omega)]; simp <;> omega
  have w2 : IntKind.wrap .i64 ((List.length (s ++ [packB u, packB w]) : Int) - 2) = ((s.length : Nat) : Int) := by
   rw [List.length_append, wrap64 (by simp <;> omega) (by simp <;> omega)]; simp
  have w3 : IntKind.wrap .i64 ((IntKind.wrap .i64 (0 - (-2 - (o : Int)))) - 2) = (o : Int) := by
   rw [wrap64 (n := 0 - (-2 - (o : Int))) (by omega) (by omega), wrap64 (by omega) (by omega)]; omega
  have e28 : s_h28 = packB [40] := rfl
  have e29 : s_h29 = packB [41] := rfl
  have ne1 : ((-2 - (o : Int)) == -1) = false := by simp <;> omega
  have d3 : (decide ((0 : Int) ≤ (0 : Int)) && decide ((0 : Int) ≤ ((s.length : Nat) : Int)) && decide (((s.length : Nat) : Int) ≤ (List.length (s ++ [packB u, packB w]) : Int))) = true := by
   rw [decide_eq_true (by omega), decide_eq_true (by omega), decide_eq_true (by simp <;> omega)]; rfl
  have tk : List.take s.length (s ++ [packB u, packB w]) = s := by simp
  rw [w1, w2, w3, decide_eq_false (show ¬ (-2 - (o : Int)) ≥ 0 by omega), ne1, inB_nat (show s.length < (s ++ [packB u, packB w]).length by simp), inB_nat (show s.length + 1 < (s ++ [packB u, packB w]).length by simp), show inB (o : Int) (List.length [s_h26, s_h7c, s_h3e]) = true from inB_nat ho, Int.toNat_natCast, Int.toNat_natCast, Int.toNat_natCast, last2_at.1, last2_at.2, (op_at ho).1, e28, e29, d3, tk]
  simp only [pack_app, pack_size, cond_true, cond_false]
  rw [decide_eq_true (by simp <;> omega), decide_eq_true (by simp <;> omega), decide_eq_true (by simp <;> omega), decide_eq_true (by simp <;> omega), decide_eq_true (by simp <;> omega)]
  simp only [cond_true]
  congr 3
  simp
theorem impl_txtBody : TxtBody (fun (i : Nat) (x : Int) (x3_2 : (List ByteArray)) (next : (List ByteArray) → Option Ret) =>
    bif (decide (x ≥ (0 : Int))) then
     bif (decide ((0 : Int) ≤ x) && decide (x ≤ (IntKind.wrap .i64 (x + (1 : Int)))) && decide ((IntKind.wrap .i64 (x + (1 : Int))) ≤ (ByteArray.size s_abcdef : Int))) then
      bif (decide ((List.length x3_2 + List.length [(ByteArray.extract s_abcdef (Int.toNat x) (Int.toNat (IntKind.wrap .i64 (x + (1 : Int)))))]) * 1 ≤ 4398046511104)) then
       next (x3_2 ++ [(ByteArray.extract s_abcdef (Int.toNat x) (Int.toNat (IntKind.wrap .i64 (x + (1 : Int)))))])
      else none
     else none
    else
     bif (x == (-1 : Int)) then
      bif (inB (IntKind.wrap .i64 ((List.length x3_2 : Int) - (1 : Int))) (List.length x3_2)) then
       bif (decide (ByteArray.size s_h21 + ByteArray.size (List.getD x3_2 (Int.toNat (IntKind.wrap .i64 ((List.length x3_2 : Int) - (1 : Int)))) ByteArray.empty) ≤ 9223372036854775807)) then
        bif (inB (IntKind.wrap .i64 ((List.length x3_2 : Int) - (1 : Int))) (List.length x3_2)) then
         next (List.set x3_2 (Int.toNat (IntKind.wrap .i64 ((List.length x3_2 : Int) - (1 : Int)))) (s_h21 ++ (List.getD x3_2 (Int.toNat (IntKind.wrap .i64 ((List.length x3_2 : Int) - (1 : Int)))) ByteArray.empty)))
        else none
       else none
      else none
     else
      bif (inB (IntKind.wrap .i64 ((List.length x3_2 : Int) - (2 : Int))) (List.length x3_2)) then
       bif (decide (ByteArray.size s_h28 + ByteArray.size (List.getD x3_2 (Int.toNat (IntKind.wrap .i64 ((List.length x3_2 : Int) - (2 : Int)))) ByteArray.empty) ≤ 9223372036854775807)) then
        bif (decide ((0 : Int) ≤ (IntKind.wrap .i64 ((-2 : Int) - x))) && decide ((IntKind.wrap .i64 ((-2 : Int) - x)) ≤ (IntKind.wrap .i64 ((IntKind.wrap .i64 ((-2 : Int) - x)) + (1 : Int)))) && decide ((IntKind.wrap .i64 ((IntKind.wrap .i64 ((-2 : Int) - x)) + (1 : Int))) ≤ (ByteArray.size s_h267c3e : Int))) then
         bif (decide (ByteArray.size (s_h28 ++ (List.getD x3_2 (Int.toNat (IntKind.wrap .i64 ((List.length x3_2 : Int) - (2 : Int)))) ByteArray.empty)) + ByteArray.size (ByteArray.extract s_h267c3e (Int.toNat (IntKind.wrap .i64 ((-2 : Int) - x))) (Int.toNat (IntKind.wrap .i64 ((IntKind.wrap .i64 ((-2 : Int) - x)) + (1 : Int))))) ≤ 9223372036854775807)) then
          bif (inB (IntKind.wrap .i64 ((List.length x3_2 : Int) - (1 : Int))) (List.length x3_2)) then
           bif (decide (ByteArray.size ((s_h28 ++ (List.getD x3_2 (Int.toNat (IntKind.wrap .i64 ((List.length x3_2 : Int) - (2 : Int)))) ByteArray.empty)) ++ (ByteArray.extract s_h267c3e (Int.toNat (IntKind.wrap .i64 ((-2 : Int) - x))) (Int.toNat (IntKind.wrap .i64 ((IntKind.wrap .i64 ((-2 : Int) - x)) + (1 : Int)))))) + ByteArray.size (List.getD x3_2 (Int.toNat (IntKind.wrap .i64 ((List.length x3_2 : Int) - (1 : Int)))) ByteArray.empty) ≤ 9223372036854775807)) then
            bif (decide (ByteArray.size (((s_h28 ++ (List.getD x3_2 (Int.toNat (IntKind.wrap .i64 ((List.length x3_2 : Int) - (2 : Int)))) ByteArray.empty)) ++ (ByteArray.extract s_h267c3e (Int.toNat (IntKind.wrap .i64 ((-2 : Int) - x))) (Int.toNat (IntKind.wrap .i64 ((IntKind.wrap .i64 ((-2 : Int) - x)) + (1 : Int)))))) ++ (List.getD x3_2 (Int.toNat (IntKind.wrap .i64 ((List.length x3_2 : Int) - (1 : Int)))) ByteArray.empty)) + ByteArray.size s_h29 ≤ 9223372036854775807)) then
             bif (inB (IntKind.wrap .i64 ((List.length x3_2 : Int) - (2 : Int))) (List.length x3_2)) then
              bif (decide ((0 : Int) ≤ (0 : Int)) && decide ((0 : Int) ≤ (IntKind.wrap .i64 ((List.length x3_2 : Int) - (1 : Int)))) && decide ((IntKind.wrap .i64 ((List.length x3_2 : Int) - (1 : Int))) ≤ (List.length (List.set x3_2 (Int.toNat (IntKind.wrap .i64 ((List.length x3_2 : Int) - (2 : Int)))) ((((s_h28 ++ (List.getD x3_2 (Int.toNat (IntKind.wrap .i64 ((List.length x3_2 : Int) - (2 : Int)))) ByteArray.empty)) ++ (ByteArray.extract s_h267c3e (Int.toNat (IntKind.wrap .i64 ((-2 : Int) - x))) (Int.toNat (IntKind.wrap .i64 ((IntKind.wrap .i64 ((-2 : Int) - x)) + (1 : Int)))))) ++ (List.getD x3_2 (Int.toNat (IntKind.wrap .i64 ((List.length x3_2 : Int) - (1 : Int)))) ByteArray.empty)) ++ s_h29)) : Int))) then
               next (List.take (Int.toNat (IntKind.wrap .i64 ((List.length x3_2 : Int) - (1 : Int)))) (List.set x3_2 (Int.toNat (IntKind.wrap .i64 ((List.length x3_2 : Int) - (2 : Int)))) ((((s_h28 ++ (List.getD x3_2 (Int.toNat (IntKind.wrap .i64 ((List.length x3_2 : Int) - (2 : Int)))) ByteArray.empty)) ++ (ByteArray.extract s_h267c3e (Int.toNat (IntKind.wrap .i64 ((-2 : Int) - x))) (Int.toNat (IntKind.wrap .i64 ((IntKind.wrap .i64 ((-2 : Int) - x)) + (1 : Int)))))) ++ (List.getD x3_2 (Int.toNat (IntKind.wrap .i64 ((List.length x3_2 : Int) - (1 : Int)))) ByteArray.empty)) ++ s_h29)))
              else none
             else none
            else none
           else none
          else none
         else none
        else none
       else none
      else none) := by
 have hx := maxLen_eq
 refine ⟨fun i n s next hn hs => ?_, fun i s w next hw hs => ?_, fun i o s u w next ho hu hw hs => ?_⟩
 ·have w1 : IntKind.wrap .i64 ((n : Int) + 1) = ((n + 1 : Nat) : Int) := wrap64 (by omega) (by omega)
  have sz : ByteArray.size s_abcdef = 6 := rfl
  have d0 : decide ((n : Int) ≥ 0) = true := decide_eq_true (by omega)
  have d1 : decide ((0 : Int) ≤ (n : Int)) = true := decide_eq_true (by omega)
  have d2 : decide ((n : Int) ≤ ((n + 1 : Nat) : Int)) = true := decide_eq_true (by omega)
  have d3 : decide (((n + 1 : Nat) : Int) ≤ ((6 : Nat) : Int)) = true := decide_eq_true (by omega)
  have d4 : decide ((s.length + List.length [packB [UInt8.ofNat (97 + n)]]) * 1 ≤ 4398046511104) = true := decide_eq_true (by simp only [List.length_cons, List.length_nil]; omega)
  simp only [w1, sz, d0, d1, d2, d3, Int.toNat_natCast, abc_at hn, d4, cond_true, Bool.and_self]
 ·have w1 : IntKind.wrap .i64 ((List.length (s ++ [packB w]) : Int) - 1) = ((s.length : Nat) : Int) := by
   rw [List.length_append, wrap64 (by simp <;> omega) (by simp <;> omega)]; simp
  have e1 : s_h21 = packB [33] := rfl
  have d0 : decide ((-1 : Int) ≥ 0) = false := by decide
  have d1 : ((-1 : Int) == -1) = true := by decide
  have d2 : decide ([(33 : UInt8)].length + w.length ≤ 9223372036854775807) = true := decide_eq_true (by simp only [List.length_cons, List.length_nil]; omega)
  simp only [d0, d1, w1, inB_nat (show s.length < (s ++ [packB w]).length by simp), Int.toNat_natCast, last_at, last_set, e1, pack_app, pack_size, d2, cond_true, cond_false]
  rfl
 ·have w1 : IntKind.wrap .i64 ((List.length (s ++ [packB u, packB w]) : Int) - 1) = ((s.length + 1 : Nat) : Int) := by
   rw [List.length_append, wrap64 (by simp <;> omega) (by simp <;> omega)]; simp <;> omega
  have w2 : IntKind.wrap .i64 ((List.length (s ++ [packB u, packB w]) : Int) - 2) = ((s.length : Nat) : Int) := by
   rw [List.length_append, wrap64 (by simp <;> omega) (by simp <;> omega)]; simp
  have w3 : IntKind.wrap .i64 ((-2 : Int) - (-2 - (o : Int))) = (o : Int) := by
   rw [wrap64 (by omega) (by omega)]; omega
  have w4 : IntKind.wrap .i64 ((o : Int) + 1) = ((o + 1 : Nat) : Int) := wrap64 (by omega) (by omega)
  have sz : ByteArray.size s_h267c3e = 3 := rfl
  have d4 : (decide ((0 : Int) ≤ (o : Int)) && decide ((o : Int) ≤ ((o + 1 : Nat) : Int)) && decide (((o + 1 : Nat) : Int) ≤ ((3 : Nat) : Int))) = true := by
   rw [decide_eq_true (by omega), decide_eq_true (by omega), decide_eq_true (by omega)]; rfl
  have e28 : s_h28 = packB [40] := rfl
  have e29 : s_h29 = packB [41] := rfl
  have ne1 : ((-2 - (o : Int)) == -1) = false := by simp <;> omega
  have d3 : ∀ z : ByteArray, (decide ((0 : Int) ≤ (0 : Int)) && decide ((0 : Int) ≤ ((s.length + 1 : Nat) : Int)) && decide (((s.length + 1 : Nat) : Int) ≤ (List.length ((s ++ [packB u, packB w]).set s.length z) : Int))) = true := fun z => by
   rw [decide_eq_true (by omega), decide_eq_true (by omega), decide_eq_true (by simp <;> omega)]; rfl
  have tk : ∀ z : ByteArray, List.take (s.length + 1) ((s ++ [packB u, packB w]).set s.length z) = s ++ [z] := fun z => by
   rw [List.set_append_right _ _ (Nat.le_refl _), Nat.sub_self]
   show List.take (s.length + 1) (s ++ [z, packB w]) = _
   rw [show s ++ [z, packB w] = (s ++ [z]) ++ [packB w] by simp, List.take_left' (by simp)]
  simp only [w1, w2, w3, w4, sz, d4, decide_eq_false (show ¬ (-2 - (o : Int)) ≥ 0 by omega), ne1, inB_nat (show s.length < (s ++ [packB u, packB w]).length by simp), inB_nat (show s.length + 1 < (s ++ [packB u, packB w]).length by simp), Int.toNat_natCast, last2_at.1, last2_at.2, (op_at ho).2, e28, e29, d3, tk, pack_app, pack_size, cond_true, cond_false]
  rw [decide_eq_true (by simp <;> omega), decide_eq_true (by simp <;> omega), decide_eq_true (by simp <;> omega), decide_eq_true (by simp <;> omega)]
  simp only [cond_true]
  congr 3
  simp
theorem spec_FT_no {N : Nat} {r : List Int} {kf : ByteArray → Option Ret} (hl : r.length ≤ 1048576) (hN : r.length < N) (hf : isFm r = false) : S37 N r kf = kf s_e := by
 unfold S37
 rw [S53_ok hl hN, hf]
 rfl
theorem impl_FT_no {N : Nat} {r : List Int} {kf : ByteArray → Option Ret} (hl : r.length ≤ 1048576) (hN : r.length + 100 < N) (hf : isFm r = false) : I13 N r kf = kf s_e := by
 unfold I13
 rw [I14_ok hl hN, hf]
 rfl
theorem spec_FT_yes {N : Nat} {t : Fm} {kf : ByteArray → Option Ret} (ht : okF t) (hf : isFm (rpn t) = true) (hN : (rpn t).length < N) : S37 N (rpn t) kf = kf (packB (txt t)) := by
 have hx := maxLen_eq
 have h24 := isFm_len hf
 unfold S37
 rw [S53_ok (by omega) hN, hf]
 simp only [Bool.not_true, cond_false]
 rw [S37_l5_r (by omega) hN]
 have := txt_loop (kend := fun (x3_3 : List ByteArray) => bif (inB (0 : Int) (List.length x3_3)) then kf (List.getD x3_3 (Int.toNat (0 : Int)) ByteArray.empty) else none) spec_txtBody t [] 0 [] ht (by omega) (by simp; omega)
 rw [List.append_nil] at this
 exact this.trans rfl
theorem impl_FT_yes {N : Nat} {t : Fm} {kf : ByteArray → Option Ret} (ht : okF t) (hf : isFm (rpn t) = true) (hN : (rpn t).length + 100 < N) : I13 N (rpn t) kf = kf (packB (txt t)) := by
 have hx := maxLen_eq
 have h24 := isFm_len hf
 unfold I13
 rw [I14_ok (by omega) hN, hf]
 simp only [Bool.not_true, cond_false]
 rw [I13_l5_r (by omega) (by omega)]
 have := txt_loop (kend := fun (x3_2 : List ByteArray) => bif (inB (0 : Int) (List.length x3_2)) then kf (List.getD x3_2 (Int.toNat (0 : Int)) ByteArray.empty) else none) impl_txtBody t [] 0 [] ht (by omega) (by simp; omega)
 rw [List.append_nil] at this
 exact this.trans rfl
end Go.Pv.R
namespace Go.Pv.R
set_option linter.unusedVariables false
set_option linter.unusedSimpArgs false
theorem bt_get {s : ByteArray} {i : Nat} (h : i < s.size) (h' : i < s.data.toList.length) : bt s (i : Int) = ((s.data.toList[i]).toNat : Int) := by
 unfold bt
 rw [dif_pos (by simpa using h)]
 simp only [Int.toNat_natCast]
 congr 2
theorem bt_cons {s : ByteArray} {i : Nat} {b : UInt8} {r : List UInt8} (h : s.data.toList.drop i = b :: r) : i < s.size ∧ bt s (i : Int) = (b.toNat : Int) ∧ s.data.toList.drop (i + 1) = r := by
 have hlt : i < s.data.toList.length := by have := congrArg List.length h; simp at this; simp; omega
 have hsz : i < s.size := by rw [Lib.size_eq]; exact hlt
 have h0 := h
 rw [List.drop_eq_getElem_cons hlt] at h
 injection h with h1 h2
 exact ⟨hsz, by rw [bt_get hsz hlt, h1], h2⟩
theorem fst_txt {n : Nat} (h : n < 6) : ((UInt8.ofNat (97 + n)).toNat : Int) = 97 + (n : Int) := by
 have : n = 0 ∨ n = 1 ∨ n = 2 ∨ n = 3 ∨ n = 4 ∨ n = 5 := by omega
 rcases this with rfl | rfl | rfl | rfl | rfl | rfl <;> rfl
end Go.Pv.R
namespace Go.Pv.R
set_option linter.unusedVariables false
set_option linter.unusedSimpArgs false
theorem Concat3_ok {N : Nat} {a b c : List Int} {kf : List Int → Option Ret} (ha : a.length ≤ 1048700) (hb : b.length ≤ 1048700) (hc : c.length ≤ 1048700) (hN : 3 < N) : S51 N [a, b, c] kf = kf (a ++ b ++ c) := by
 have hm := maxLen_eq
 unfold S51
 rw [S51_l3_r (by simp; omega) (by simpa using hN)]
 simp only [goL1]
 rw [wrap64 (n := (0 : Int) + (List.length a : Int)) (by omega) (by omega), decide_eq_false (by omega), cond_false, wrap64 (n := (0 : Int) + (List.length a : Int) + (List.length b : Int)) (by omega) (by omega), decide_eq_false (by omega), cond_false, wrap64 (n := (0 : Int) + (List.length a : Int) + (List.length b : Int) + (List.length c : Int)) (by omega) (by omega), decide_eq_false (by omega), cond_false]
 unfold S70
 have e : (List.isEmpty ([] : List Int) && (decide ((0 : Int) ≤ 0 + (List.length a : Int) + (List.length b : Int) + (List.length c : Int)) && decide (0 + (List.length a : Int) + (List.length b : Int) + (List.length c : Int) ≤ (549755813888 : Int)))) = true := by
  rw [decide_eq_true (by omega), decide_eq_true (by omega)]; rfl
 rw [e, cond_true]
 show S51_l11 [a, b, c] (List.length [a, b, c] : Int) N kf [] 0 = _
 rw [S51_l11_r (by simp; omega) (by simpa using hN)]
 simp only [goL1]
 rw [decide_eq_true (by simp; omega), cond_true, decide_eq_true (by simp; omega), cond_true, decide_eq_true (by simp; omega), cond_true]
 rfl
theorem emp_cons {b : UInt8} {r : List UInt8} : (ByteArray.toList (packB (b :: r)) == ByteArray.toList s_e) = false := by
 refine beq_eq_false_iff_ne.2 fun h => ?_
 rw [Lib.toList_data, Lib.toList_data, data_pack] at h
 cases h
theorem emp_nil : (ByteArray.toList (packB []) == ByteArray.toList s_e) = true := by
 rw [beq_iff_eq, Lib.toList_data, Lib.toList_data]; rfl
theorem pack_cons {b : UInt8} {r : List UInt8} : inB (0 : Int) (ByteArray.size (packB (b :: r))) = true ∧ bt (packB (b :: r)) 0 = (b.toNat : Int) ∧ ByteArray.extract (packB (b :: r)) (Int.toNat 1) (Int.toNat (ByteArray.size (packB (b :: r)) : Int)) = packB r ∧ (decide ((0 : Int) ≤ (1 : Int)) && decide ((1 : Int) ≤ (ByteArray.size (packB (b :: r)) : Int)) && decide ((ByteArray.size (packB (b :: r)) : Int) ≤ (ByteArray.size (packB (b :: r)) : Int))) = true := by
 obtain ⟨h1, h2, h3⟩ := bt_cons (s := packB (b :: r)) (i := 0) (b := b) (r := r) (by rw [data_pack]; rfl)
 refine ⟨inB_nat (i := 0) h1, h2, ?_, ?_⟩
 ·rw [Int.toNat_natCast, extract_pack, data_pack, pack_size]
  congr 1
  simp
 ·rw [decide_eq_true (by omega), decide_eq_true (by omega), decide_eq_true (by omega)]; rfl
theorem impl_read_ok : ∀ (t : Fm) (N : Nat) (rest : List UInt8) (kf : List Int → ByteArray → Bool → Option Ret), okF t → (rpn t).length + 5 < N → (rpn t).length ≤ 1000 → I35 N (packB (txt t ++ rest)) kf = kf (rpn t) (packB rest) true
 | t, 0, rest, kf, ht, hN, hr => by omega
 | .le n, N + 1, rest, kf, ht, hN, hr => by
  have hn : n < 6 := ht
  show I35_b (I35 N) N (packB (UInt8.ofNat (97 + n) :: rest)) kf = _
  obtain ⟨p1, p2, p3, p4⟩ := pack_cons (b := UInt8.ofNat (97 + n)) (r := rest)
  unfold I35_b
  have f1 : ((97 + (n : Int)) == 33) = false := by simp; omega
  have f2 : ((97 + (n : Int)) == 40) = false := by simp; omega
  rw [emp_cons, cond_false, p1, cond_true, p2, fst_txt hn, f1, cond_false, cond_true, f2, cond_false, cond_true, p4, cond_true, p3, wrap64 (n := 97 + (n : Int)) (by omega) (by omega), wrap64 (by omega) (by omega)]
  show kf [97 + (n : Int) - 97] _ _ = kf [(n : Int)] _ _
  congr 2
  omega
 | .no t, N + 1, rest, kf, ht, hN, hr => by
  simp only [rpn, List.length_append, List.length_cons, List.length_nil] at hN hr
  show I35_b (I35 N) N (packB (33 :: (txt t ++ rest))) kf = _
  obtain ⟨p1, p2, p3, p4⟩ := pack_cons (b := 33) (r := txt t ++ rest)
  have b33 : ((33 : UInt8).toNat : Int) = 33 := rfl
  unfold I35_b
  rw [emp_cons, cond_false, p1, cond_true, p2, b33, show ((33 : Int) == 33) = true from rfl, cond_true, p4, cond_true, p3, impl_read_ok t N rest _ ht (by omega) (by omega), decide_eq_true (by simp only [List.length_cons, List.length_nil]; omega), cond_true]
  rfl
 | .bi o a b, N + 1, rest, kf, ht, hN, hr => by
  simp only [rpn, List.length_append, List.length_cons, List.length_nil] at hN hr
  have ed : txt (.bi o a b) ++ rest = 40 :: (txt a ++ (opB o :: (txt b ++ (41 :: rest)))) := by simp [txt]
  rw [ed]
  show I35_b (I35 N) N (packB (40 :: (txt a ++ (opB o :: (txt b ++ (41 :: rest)))))) kf = _
  obtain ⟨p1, p2, p3, p4⟩ := pack_cons (b := 40) (r := txt a ++ (opB o :: (txt b ++ (41 :: rest))))
  obtain ⟨q1, q2, q3, q4⟩ := pack_cons (b := opB o) (r := txt b ++ (41 :: rest))
  obtain ⟨r1, r2, r3, r4⟩ := pack_cons (b := 41) (r := rest)
  have b40 : ((40 : UInt8).toNat : Int) = 40 := rfl
  have b41 : ((41 : UInt8).toNat : Int) = 41 := rfl
  have hop : letterAt s_h267c3e ((opB o).toNat : Int) = (o : Int) := by
   have ho : o = 0 ∨ o = 1 ∨ o = 2 := by have := ht.1; omega
   rcases ho with rfl | rfl | rfl <;> rfl
  unfold I35_b
  rw [emp_cons, cond_false, p1, cond_true, p2, b40, show ((40 : Int) == 33) = false from rfl, cond_false, cond_true, show ((40 : Int) == 40) = true from rfl, cond_true, p4, cond_true, p3, impl_read_ok a N _ _ ht.2.1 (by omega) (by omega)]
  simp only [Bool.not_true, cond_false]
  rw [emp_cons, cond_false, q1, cond_true]
  unfold S50
  simp only [q2, hop]
  rw [q4, cond_true, q3, impl_read_ok b N _ _ ht.2.2 (by omega) (by omega), decide_eq_false (by omega), cond_false]
  simp only [Bool.not_true, cond_false]
  rw [emp_cons, cond_false, r1, cond_true, r2, b41, show ((41 : Int) != 41) = false from rfl, cond_false, r4, cond_true, Concat3_ok (by omega) (by omega) (by simp) (by omega), r3, wrap64 (by have := ht.1; omega) (by have := ht.1; omega)]
  rfl
end Go.Pv.R
namespace Go.Pv.R
set_option linter.unusedVariables false
set_option linter.unusedSimpArgs false
theorem impl_read_tot : ∀ (N : Nat) (D : List UInt8), D.length ≤ 1000 → D.length + 5 < N → ∃ r rest b, (∀ kf, I35 N (packB D) kf = kf r (packB rest) b) ∧ r.length + rest.length ≤ D.length
 | 0, D, h1, h2 => by omega
 | N + 1, D, h1, h2 => by
  have hx := maxLen_eq
  have ih := impl_read_tot N
  show ∃ r rest b, (∀ kf, I35_b (I35 N) N (packB D) kf = kf r (packB rest) b) ∧ r.length + rest.length ≤ D.length
  unfold I35_b
  have no : ∀ {A : (List Int → ByteArray → Bool → Option Ret) → Option Ret}, (∀ kf, A kf = kf [] s_e false) → ∃ r rest b, (∀ kf, A kf = kf r (packB rest) b) ∧ r.length + rest.length ≤ D.length := fun h => ⟨[], [], false, h, by simp⟩
  cases D with
  | nil =>
   rw [emp_nil]
   exact no fun kf => rfl
  | cons c D =>
   simp only [List.length_cons] at h1 h2 ⊢
   obtain ⟨p1, p2, p3, p4⟩ := pack_cons (b := c) (r := D)
   obtain ⟨ra, sa, ba, ea, ga⟩ := ih D (by omega) (by omega)
   simp only [emp_cons, p1, p2, p3, p4, ea, cond_true, cond_false]
   cases (c.toNat : Int) == 33 with
   | true =>
    refine ⟨ra ++ [-1], sa, ba, fun kf => ?_, by simp only [List.length_append, List.length_cons, List.length_nil]; omega⟩
    rw [decide_eq_true (by simp only [List.length_cons, List.length_nil]; omega)]
    rfl
   | false =>
    cases (c.toNat : Int) == 40 with
    | false => exact ⟨_, D, true, fun kf => rfl, by simp only [List.length_cons, List.length_nil]; omega⟩
    | true =>
     simp only [cond_true, cond_false]
     cases ba with
     | false => exact no fun kf => rfl
     | true =>
      simp only [Bool.not_true, cond_false]
      cases sa with
      | nil => rw [emp_nil]; exact no fun kf => rfl
      | cons o sa =>
       simp only [List.length_cons] at ga
       obtain ⟨q1, q2, q3, q4⟩ := pack_cons (b := o) (r := sa)
       obtain ⟨rb, sb, bb, eb, gb⟩ := ih sa (by omega) (by omega)
       unfold S50
       simp only [emp_cons, q1, q2, q3, q4, eb, cond_true, cond_false]
       cases decide (letterAt s_h267c3e (o.toNat : Int) < 0) with
       | true => exact no fun kf => rfl
       | false =>
        simp only [cond_false]
        cases bb with
        | false => exact no fun kf => rfl
        | true =>
         simp only [Bool.not_true, cond_false]
         cases sb with
         | nil => rw [emp_nil]; exact no fun kf => rfl
         | cons z sb =>
          simp only [List.length_cons] at gb
          obtain ⟨r1, r2, r3, r4⟩ := pack_cons (b := z) (r := sb)
          simp only [emp_cons, r1, r2, r3, r4, cond_true, cond_false]
          cases (z.toNat : Int) != 41 with
          | true => exact no fun kf => rfl
          | false =>
           refine ⟨ra ++ rb ++ [IntKind.wrap .i64 ((-2 : Int) - letterAt s_h267c3e (o.toNat : Int))], sb, true, fun kf => ?_, by simp only [List.length_append, List.length_cons, List.length_nil]; omega⟩
           simp only [cond_false]
           rw [Concat3_ok (by omega) (by omega) (by simp) (by omega)]
end Go.Pv.R
namespace Go.Pv.R
set_option linter.unusedVariables false
set_option linter.unusedSimpArgs false
def AccF (s : ByteArray) (t : Fm) : Prop := okF t ∧ isFm (rpn t) = true ∧ s = packB (txt t)
theorem beqB_eq {a b : ByteArray} : (ByteArray.toList a == ByteArray.toList b) = true ↔ a = b := by
 rw [beq_iff_eq, Lib.toList_data, Lib.toList_data]
 exact ⟨fun h => bext h, fun h => by rw [h]⟩
theorem txt_cons (t : Fm) : ∃ b r, txt t = b :: r := by
 cases t with
 | le n => exact ⟨_, _, rfl⟩
 | no t => exact ⟨_, _, rfl⟩
 | bi o a b => exact ⟨_, _, rfl⟩
theorem impl_PF_yes {N : Nat} {s : ByteArray} {t : Fm} {kf : List Int → Bool → Option Ret} (h : AccF s t) (hN : 200 < N) : I12 N s kf = kf (rpn t) true := by
 obtain ⟨ho, hf, rfl⟩ := h
 have h24 := isFm_len hf
 have hl := txt_le t
 have hsz := pack_size (txt t)
 unfold I12
 have hr := fun kf => impl_read_ok t N [] kf ho (by omega) (by omega)
 rw [List.append_nil] at hr
 rw [decide_eq_false (by omega), cond_false, hr, emp_nil]
 simp only [Bool.not_true, cond_false]
 rw [impl_FT_yes ho hf (by omega)]
 simp
theorem impl_PF_no {N : Nat} {s : ByteArray} {kf : List Int → Bool → Option Ret} (h : ∀ t, ¬ AccF s t) (hN : 2000 < N) : I12 N s kf = kf [] false := by
 unfold I12
 by_cases hs : s.size ≤ 100
 rotate_left
 ·rw [decide_eq_true (by omega)]; rfl
 rw [decide_eq_false (by omega), cond_false]
 obtain ⟨D, rfl⟩ : ∃ D, s = packB D := ⟨s.data.toList, (pack_data s).symm⟩
 rw [pack_size] at hs
 cases D with
 | nil =>
  obtain ⟨n, rfl⟩ : ∃ n, N = n + 1 := ⟨N - 1, by omega⟩
  show I35_b (I35 n) n (packB []) _ = _
  unfold I35_b
  rw [emp_nil]
  rfl
 | cons c D =>
  obtain ⟨r, rest, b, hr, hg⟩ := impl_read_tot N (c :: D) (by omega) (by omega)
  rw [hr]
  cases b with
  | false => rfl
  | true =>
   simp only [Bool.not_true, cond_false]
   cases ByteArray.toList (packB rest) == ByteArray.toList s_e with
   | false => rfl
   | true =>
    simp only [Bool.not_true, cond_false]
    cases hf : isFm r with
    | false =>
     rw [impl_FT_no (by omega) (by omega) hf]
     cases he : (ByteArray.toList s_e == ByteArray.toList (packB (c :: D))) with
     | false => rfl
     | true =>
      have := beqB_eq.1 he
      have h2 := emp_cons (b := c) (r := D)
      rw [← this] at h2
      simp at h2
    | true =>
     obtain ⟨t, ht, e⟩ := isFm_tree hf
     subst e
     rw [impl_FT_yes ht hf (by omega)]
     cases he : (ByteArray.toList (packB (txt t)) == ByteArray.toList (packB (c :: D))) with
     | false => rfl
     | true => exact absurd ⟨ht, hf, (beqB_eq.1 he).symm⟩ (h t)
end Go.Pv.R
namespace Go.Pv.R
set_option linter.unusedVariables false
set_option linter.unusedSimpArgs false
def rangeI (n : Nat) : List Int := (List.range n).map fun k : Nat => (k : Int)
theorem rangeI_len (n : Nat) : (rangeI n).length = n := by simp [rangeI]
theorem rangeI_mem {n : Nat} {x : Int} : x ∈ rangeI n ↔ 0 ≤ x ∧ x < n := by
 unfold rangeI
 rw [List.mem_map]
 constructor
 ·rintro ⟨k, hk, rfl⟩
  rw [List.mem_range] at hk
  omega
 ·intro h
  exact ⟨x.toNat, by rw [List.mem_range]; omega, by omega⟩
theorem asc_nodup {l : List Int} (h : Asc l) : l.Nodup := h.imp fun h => by omega
def codeA (x : List Int) : Int := 10 * x.getD 0 0 + x.getD 1 0
theorem graph_n {g : Graph} (hg : isGraphM g = true) : 0 ≤ g.1 ∧ g.1 ≤ 10 := by
 unfold isGraphM at hg
 simp only [Bool.and_eq_true, inR_iff] at hg
 exact hg.1
theorem graph_p {g : Graph} (hg : isGraphM g = true) (i : Nat) (hi : i < g.2.length) : g.2[i].length = 2 ∧ (0 ≤ g.2[i].getD 0 0 ∧ g.2[i].getD 0 0 < g.1) ∧ (0 ≤ g.2[i].getD 1 0 ∧ g.2[i].getD 1 0 < g.1) ∧ (0 < i → ltP (g.2.getD (i - 1) []) g.2[i] = true) := by
 have hn := graph_n hg
 unfold isGraphM at hg
 simp only [Bool.and_eq_true] at hg
 have := (allI_iff.1 hg.2) i hi
 rw [Nat.zero_add] at this
 unfold graphP at this
 rw [wrap64 (by omega) (by omega)] at this
 simp only [Bool.and_eq_true, Bool.or_eq_true, decide_eq_true_eq, inR_iff] at this
 obtain ⟨h1, h2, h3, h4⟩ := this
 exact ⟨h1, by omega, by omega, fun h0 => h4.resolve_left (by omega)⟩
theorem graph_m {g : Graph} (hg : isGraphM g = true) {a : List Int} (ha : a ∈ g.2) : a.length = 2 ∧ (0 ≤ a.getD 0 0 ∧ a.getD 0 0 < g.1) ∧ (0 ≤ a.getD 1 0 ∧ a.getD 1 0 < g.1) := by
 obtain ⟨i, hi, rfl⟩ := List.mem_iff_getElem.1 ha
 have := graph_p hg i hi
 exact ⟨this.1, this.2.1, this.2.2.1⟩
theorem graph_len {g : Graph} (hg : isGraphM g = true) : g.2.length ≤ 100 := by
 have hn := graph_n hg
 have hm := mono_any (l := g.2) (z := []) (g := codeA) fun i hi h0 => by
  have h1 := (graph_p hg i hi).2.2.2 h0
  have h2 := graph_p hg i hi
  have h3 := graph_p hg (i - 1) (by omega)
  rw [getD_nat _ _ (show i - 1 < g.2.length by omega)] at h1 ⊢
  unfold ltP at h1
  simp only [Bool.and_eq_true, Bool.or_eq_true, decide_eq_true_eq] at h1
  unfold codeA
  omega
 have ha : Asc (g.2.map codeA) := List.pairwise_iff_getElem.2 fun j i hj hi hji => by
  rw [List.length_map] at hj hi
  have := hm j i hi hji
  rw [getD_nat _ _ hj] at this
  simpa using this
 have := nodup_le (g.2.map codeA) (rangeI 100) (asc_nodup ha) fun x hx => by
  obtain ⟨a, ha, rfl⟩ := List.mem_map.1 hx
  have := graph_m hg ha
  rw [rangeI_mem]
  unfold codeA
  omega
 rw [List.length_map, rangeI_len] at this
 exact this
theorem one_app {α : Type} {s : List α} {x : α} {i : Nat} (h : s.length ≤ i) (hi : i ≤ 1000000) : decide ((List.length s + List.length [x]) * 1 ≤ 4398046511104) = true := decide_eq_true (by simp; omega)
end Go.Pv.R
namespace Go.Pv.R
set_option linter.unusedVariables false
set_option linter.unusedSimpArgs false
end Go.Pv.R
namespace Go.Pv.R
set_option linter.unusedVariables false
set_option linter.unusedSimpArgs false
abbrev Cur := QLIIIE
def CurOK (c : Cur) : Prop := 0 ≤ c.2.1 ∧ c.1.length ≤ 1048576
def Draws {α : Type} (F : Cur → (α → Cur → Option Ret) → Option Ret) (P : α → Prop) : Prop := ∀ c : Cur, CurOK c → ∃ v, ∃ c' : Cur, CurOK c' ∧ P v ∧ ∀ kf, F c kf = kf v c'
theorem and255 (x : BitVec (IntKind.bits .i64)) : 0 ≤ IntKind.wrap .i64 (BitVec.toNat (x &&& BitVec.ofInt (IntKind.bits .i64) (255 : Int))) ∧ IntKind.wrap .i64 (BitVec.toNat (x &&& BitVec.ofInt (IntKind.bits .i64) (255 : Int))) ≤ 255 := by
 have h : BitVec.toNat (x &&& BitVec.ofInt (IntKind.bits .i64) (255 : Int)) ≤ 255 := by
  rw [BitVec.toNat_and]
  refine Nat.le_trans Nat.and_le_right ?_
  decide
 rw [wrap64 (by omega) (by omega)]
 omega
theorem l1Byte_draws {N : Nat} : Draws (S68 N) fun v => 0 ≤ v ∧ v ≤ 255 := fun c hc => by
 obtain ⟨hc, hl⟩ := hc
 unfold S68 share
 rw [decide_eq_true (show (0 : Int) ≤ 33 by omega), decide_eq_true (show (0 : Int) ≤ 47 by omega)]
 simp only [cond_true]
 by_cases hi : c.2.1 < (List.length c.1 : Int)
 ·have hin : inB c.2.1 (List.length c.1) = true := by
   have := inB_nat (i := c.2.1.toNat) (m := c.1.length) (by omega)
   rwa [Int.toNat_of_nonneg hc] at this
  rw [decide_eq_true hi, hin]
  simp only [cond_true]
  refine ⟨_, (c.1, (IntKind.wrap .i64 (c.2.1 + 1), _)), ⟨?_, hl⟩, and255 _, fun kf => rfl⟩
  show 0 ≤ IntKind.wrap .i64 (c.2.1 + 1)
  rw [wrap64 (by omega) (by omega)]
  omega
 ·rw [decide_eq_false hi]
  simp only [cond_false]
  exact ⟨_, (c.1, (c.2.1, IntKind.wrap .i64 (IntKind.wrap .i64 (c.2.2 * (6364136223846793005 : Int)) + (1442695040888963407 : Int)))), ⟨hc, hl⟩, and255 _, fun kf => rfl⟩
theorem tmod_in {r n : Int} (hr : 0 ≤ r) (hn : 0 < n) : 0 ≤ Int.tmod r n ∧ Int.tmod r n < n := by
 rw [Int.tmod_eq_emod_of_nonneg hr]
 exact ⟨Int.emod_nonneg _ (by omega), Int.emod_lt_of_pos _ hn⟩
theorem l1Below_draws {N : Nat} {n : Int} (h0 : 0 < n) (h1 : n ≤ 256) : Draws (fun c kf => S48 N c n kf) fun v => 0 ≤ v ∧ v < n := fun c hc => by
 obtain ⟨v, c', h2, h3, h4⟩ := l1Byte_draws (N := N) c hc
 refine ⟨Int.tmod v n, c', h2, tmod_in h3.1 h0, fun kf => ?_⟩
 show S48 N c n kf = _
 unfold S48
 rw [decide_eq_false (by omega), decide_eq_true h1]
 simp only [cond_true, cond_false]
 rw [h4, decide_eq_false (by omega)]
 rfl
theorem l1Once_draws {N : Nat} {n : Int} (h0 : 0 < n) (h1 : n ≤ 256) : Draws (fun c kf => S71 N c n kf) fun _ => True := fun c hc => by
 obtain ⟨v, c', h2, h3, h4⟩ := l1Below_draws (N := N) h0 h1 c hc
 exact ⟨_, c', h2, trivial, fun kf => h4 _⟩
theorem l1Int_draws {N : Nat} {l : List Int} (h0 : 0 < l.length) (h1 : l.length ≤ 256) : Draws (fun c kf => S55 N c l kf) fun v => v ∈ l := fun c hc => by
 obtain ⟨v, c', h2, h3, h4⟩ := l1Below_draws (N := N) (n := (l.length : Int)) (by omega) (by omega) c hc
 have h4 : ∀ kf, S48 N c (l.length : Int) kf = kf v c' := h4
 obtain ⟨k, rfl⟩ : ∃ k : Nat, v = (k : Int) := ⟨v.toNat, by omega⟩
 have hk : k < l.length := by omega
 refine ⟨l.getD k 0, c', h2, by rw [getD_nat _ _ hk]; exact List.getElem_mem hk, fun kf => ?_⟩
 show S55 N c l kf = _
 unfold S55
 rw [h4, inB_nat hk, Int.toNat_natCast]
 rfl
theorem l1New_ok {N : Nat} {a : List Int} (ha : a.length ≤ 1048576) (hN : 4000 < N) : ∃ c : Cur, CurOK c ∧ ∀ kf, S30 N a kf = kf c := by
 have key : ∀ (d i n : Nat) (h : Int), i + d = min a.length 4000 → d < n → ∃ h', ∀ k : Int → Option Ret, S30_l3 a n k h (i : Int) = k h' := by
  intro d
  induction d with
  | zero =>
   intro i n h hi hn
   obtain ⟨n, rfl⟩ : ∃ m, n = m + 1 := ⟨n - 1, by omega⟩
   refine ⟨h, fun k => ?_⟩
   unfold S30_l3
   by_cases h1 : i < a.length
   ·rw [decide_eq_true (show (i : Int) < (List.length a : Int) by omega), decide_eq_false (show ¬ (i : Int) < 4000 by omega)]
    rfl
   ·rw [decide_eq_false (show ¬ (i : Int) < (List.length a : Int) by omega)]
    rfl
  | succ d ih =>
   intro i n h hi hn
   obtain ⟨n, rfl⟩ : ∃ m, n = m + 1 := ⟨n - 1, by omega⟩
   obtain ⟨h', hh⟩ := ih (i + 1) n (IntKind.wrap .i64 (BitVec.toNat (BitVec.ofInt (IntKind.bits .i64) (IntKind.wrap .i64 ((IntKind.wrap .i64 ((IntKind.wrap .i64 (h * (137 : Int))) + (IntKind.wrap .i64 (List.getD a (Int.toNat (i : Int)) (0 : Int))))) + (11 : Int))) &&& BitVec.ofInt (IntKind.bits .i64) (1073741823 : Int)))) (by omega) (by omega)
   refine ⟨h', fun k => ?_⟩
   unfold S30_l3
   rw [decide_eq_true (show (i : Int) < (List.length a : Int) by omega), decide_eq_true (show (i : Int) < 4000 by omega), inB_nat (by omega)]
   simp only [cond_true]
   rw [wrap64 (n := (i : Int) + 1) (by omega) (by omega)]
   exact hh k
 obtain ⟨h', hh⟩ := key (min a.length 4000) 0 N (IntKind.wrap .i64 ((193017 : Int) + (List.length a : Int))) (by omega) (by omega)
 exact ⟨(a, ((0 : Int), h')), ⟨Int.le_refl 0, ha⟩, fun kf => hh _⟩
end Go.Pv.R
namespace Go.Pv.R
set_option linter.unusedVariables false
set_option linter.unusedSimpArgs false
end Go.Pv.R
namespace Go.Pv.R
set_option linter.unusedVariables false
set_option linter.unusedSimpArgs false
end Go.Pv.R
namespace Go.Pv.R
set_option linter.unusedVariables false
set_option linter.unusedSimpArgs false
theorem below {N : Nat} {n : Int} {c : Cur} (h0 : 0 < n) (h1 : n ≤ 256) (hc : CurOK c) : ∃ v, ∃ c' : Cur, CurOK c' ∧ (0 ≤ v ∧ v < n) ∧ ∀ kf, S48 N c n kf = kf v c' := l1Below_draws (N := N) h0 h1 c hc
theorem oneOf {N : Nat} {l : List Int} {c : Cur} (h0 : 0 < l.length) (h1 : l.length ≤ 256) (hc : CurOK c) : ∃ v, ∃ c' : Cur, CurOK c' ∧ v ∈ l ∧ ∀ kf, S55 N c l kf = kf v c' := l1Int_draws (N := N) h0 h1 c hc
theorem once {N : Nat} {n : Int} {c : Cur} (h0 : 0 < n) (h1 : n ≤ 256) (hc : CurOK c) : ∃ v, ∃ c' : Cur, CurOK c' ∧ ∀ kf, S71 N c n kf = kf v c' := by
 obtain ⟨v, c', h2, _, h4⟩ := l1Once_draws (N := N) h0 h1 c hc
 exact ⟨v, c', h2, h4⟩
end Go.Pv.R
namespace Go.Pv.R
set_option linter.unusedVariables false
set_option linter.unusedSimpArgs false
end Go.Pv.R
namespace Go.Pv.R
set_option linter.unusedVariables false
set_option linter.unusedSimpArgs false
theorem sameInts_ok {N : Nat} {a b : List Int} {kf : Bool → Option Ret} (hl : a.length ≤ maxLen) (hN : a.length < N) : L15 N a b kf = kf (decide (a = b)) := by
 unfold L15
 refine lens (A := kf true) (fun h => ?_) (fun h => decide_eq_false fun e => h (by rw [e]))
 rw [L15_l4_r hl hN, goL_same h (kf := kf false) (fun i x next hi hi' e => ?_)]
 ·cases decide (a = b) <;> rfl
 ·rw [inB_nat hi', cond_true, Int.toNat_natCast, getD_nat _ _ hi']
  by_cases hx : x = b[i]
  ·simp [hx]
  ·have : (x != b[i]) = true := by simpa using hx
   rw [this, decide_eq_false hx]; rfl
end Go.Pv.R
namespace Go.Pv.R
set_option linter.unusedVariables false
set_option linter.unusedSimpArgs false
end Go.Pv.R
namespace Go.Pv.R
set_option linter.unusedVariables false
set_option linter.unusedSimpArgs false
end Go.Pv.R
namespace Go.Pv.R
set_option linter.unusedVariables false
set_option linter.unusedSimpArgs false
end Go.Pv.R
namespace Go.Pv.R
set_option linter.unusedVariables false
set_option linter.unusedSimpArgs false
end Go.Pv.R
namespace Go.Pv.R
set_option linter.unusedVariables false
set_option linter.unusedSimpArgs false
end Go.Pv.R
namespace Go.Pv.R
set_option linter.unusedVariables false
set_option linter.unusedSimpArgs false
theorem graph_two {g : Graph} (hg : isGraphM g = true) {i : Nat} (hi : i < g.2.length) : ∃ p q, g.2.getD i [] = [p, q] := by
 unfold isGraphM at hg
 simp only [Bool.and_eq_true] at hg
 have h2 := hg.2
 rw [allI_iff] at h2
 have := graphP_len (h2 i hi)
 obtain ⟨p, q, e⟩ := two_of this
 exact ⟨p, q, by rw [List.getD_eq_getElem?_getD, List.getElem?_eq_getElem hi]; exact e⟩
theorem copy_l3 {g z : Graph} (hg : isGraphM g = true) (hl : g.2.length ≤ 100) : ∀ (d i n : Nat) (x : Graph), i + d = g.2.length → d < n → x = (g.1, g.2.take i) → ∀ kf, S83_l3 g z n kf x (i : Int) = kf g := by
 intro d
 induction d with
 | zero =>
  intro i n x hi hn hx kf
  obtain ⟨n, rfl⟩ : ∃ j, n = j + 1 := ⟨n - 1, by omega⟩
  unfold S83_l3
  rw [decide_eq_false (by omega), hx, List.take_of_length_le (by omega)]
  rfl
 | succ d ih =>
  intro i n x hi hn hx kf
  obtain ⟨n, rfl⟩ : ∃ j, n = j + 1 := ⟨n - 1, by omega⟩
  obtain ⟨p, q, e⟩ := graph_two hg (i := i) (by omega)
  have hxl : x.2.length = i := by rw [hx]; simp; omega
  unfold S83_l3
  rw [decide_eq_true (by omega), cond_true, inB_nat (by omega), cond_true, Int.toNat_natCast, e, wrap64 (n := (i : Int) + 1) (by omega) (by omega)]
  rw [show decide ((List.length ([] : List Int) + List.length [p, q]) * 1 ≤ 4398046511104) = true from rfl, cond_true, one_app (i := i) (by omega) (by omega), cond_true]
  refine ih (i + 1) n _ (by omega) (by omega) ?_ kf
  rw [hx]
  simp only [List.nil_append, Prod.mk.injEq, true_and]
  rw [← e, List.getD_eq_getElem?_getD, List.take_add_one, List.getElem?_eq_getElem (by omega)]
  rfl
theorem copyG_ok {N : Nat} {g : Graph} (hg : isGraphM g = true) (hl : g.2.length ≤ 100) (hN : 200 < N) {kf : Graph → Option Ret} : S83 N g kf = kf g := by
 unfold S83
 exact copy_l3 hg hl g.2.length 0 N _ (by omega) (by omega) (by simp) kf
theorem add_l4 {N : Nat} {a b : Int} {g z : Graph} (hg : isGraphM g = true) (hl : g.2.length ≤ 100) (hN : 200 < N) : ∀ (d i n : Nat) (x : Graph) (o : Bool), i + d = g.2.length → d < n → x.2.length ≤ i + (bif o then 1 else 0) →
  ∃ (x' : Graph) (o' : Bool), x'.1 = x.1 ∧ x'.2.length ≤ g.2.length + (bif o' then 1 else 0) ∧ ∀ kf, S67_l4 N a b g z n kf x o (i : Int) = kf x' o' := by
 intro d
 induction d with
 | zero =>
  intro i n x o hi hn hx
  obtain ⟨n, rfl⟩ : ∃ j, n = j + 1 := ⟨n - 1, by omega⟩
  refine ⟨x, o, rfl, by omega, fun kf => ?_⟩
  unfold S67_l4
  rw [decide_eq_false (by omega)]
  rfl
 | succ d ih =>
  intro i n x o hi hn hx
  obtain ⟨n, rfl⟩ : ∃ j, n = j + 1 := ⟨n - 1, by omega⟩
  obtain ⟨p, q, e⟩ := graph_two hg (i := i) (by omega)
  have h1 : ∀ y : Graph, y.1 = x.1 → y.2.length ≤ (i + 1) + (bif o then 1 else 0) → ∃ (x' : Graph) (o' : Bool), x'.1 = x.1 ∧ x'.2.length ≤ g.2.length + (bif o' then 1 else 0) ∧ ∀ kf, S67_l4 N a b g z n kf y o ((i + 1 : Nat) : Int) = kf x' o' := fun y h1 h2 => by
   obtain ⟨x', o', q1, q2, q3⟩ := ih (i + 1) n y o (by omega) (by omega) h2
   exact ⟨x', o', q1.trans h1, q2, q3⟩
  have hw : IntKind.wrap .i64 ((i : Int) + 1) = ((i + 1 : Nat) : Int) := by rw [wrap64 (by omega) (by omega)]; omega
  have hbo : (bif o then 1 else 0 : Nat) ≤ 1 := by cases o <;> simp
  have hc : ∀ m : Nat, m ≤ 1000 → decide ((m + 1) * 1 ≤ 4398046511104) = true := fun m hm => decide_eq_true (by omega)
  have step2 : ∀ k, S67_j2 k (i : Int) g x o = k (x.1, x.2 ++ [[p, q]]) o ((i + 1 : Nat) : Int) := fun k => by
   unfold S67_j2
   rw [Int.toNat_natCast, e, hw]
   rw [show decide ((List.length ([] : List Int) + List.length [p, q]) * 1 ≤ 4398046511104) = true from rfl, cond_true, List.length_singleton, hc _ (by omega)]
   rfl
  have step1 : ∀ k, S67_j1 k (i : Int) a b g x = k (x.1, (x.2 ++ [[a, b]]) ++ [[p, q]]) true ((i + 1 : Nat) : Int) := fun k => by
   unfold S67_j1
   rw [Int.toNat_natCast, e, hw]
   rw [show decide ((List.length ([] : List Int) + List.length [p, q]) * 1 ≤ 4398046511104) = true from rfl, cond_true, List.length_singleton, hc _ (by simp; omega)]
   rfl
  have done2 : ∃ (x' : Graph) (o' : Bool), x'.1 = x.1 ∧ x'.2.length ≤ g.2.length + (bif o' then 1 else 0) ∧ ∀ kf, S67_j2 (S67_l4 N a b g z n kf) (i : Int) g x o = kf x' o' := by
   obtain ⟨x', o', q1, q2, q3⟩ := h1 (x.1, x.2 ++ [[p, q]]) rfl (by simp; omega)
   exact ⟨x', o', q1, q2, fun kf => by rw [step2]; exact q3 kf⟩
  have done1 : o = false → ∃ (x' : Graph) (o' : Bool), x'.1 = x.1 ∧ x'.2.length ≤ g.2.length + (bif o' then 1 else 0) ∧ ∀ kf, S67_j1 (S67_l4 N a b g z n kf) (i : Int) a b g x = kf x' o' := fun ho => by
   obtain ⟨x', o', q1, q2, q3⟩ := ih (i + 1) n (x.1, (x.2 ++ [[a, b]]) ++ [[p, q]]) true (by omega) (by omega) (by rw [ho] at hx; simp at hx ⊢; omega)
   exact ⟨x', o', q1, q2, fun kf => by rw [step1]; exact q3 kf⟩
  have head : ∀ kf, S67_l4 N a b g z (n + 1) kf x o (i : Int) = bif (!o) then (bif decide (p > a) then S67_j1 (S67_l4 N a b g z n kf) (i : Int) a b g x else bif p == a then (bif decide (q > b) then S67_j1 (S67_l4 N a b g z n kf) (i : Int) a b g x else S67_j2 (S67_l4 N a b g z n kf) (i : Int) g x o) else S67_j2 (S67_l4 N a b g z n kf) (i : Int) g x o) else S67_j2 (S67_l4 N a b g z n kf) (i : Int) g x o := fun kf => by
   rw [S67_l4]
   rw [decide_eq_true (by omega), cond_true, S45_ok (by omega) (by omega), hg, cond_true, inB_nat (by omega), cond_true, Int.toNat_natCast, e, List.length_singleton, hc _ (by omega)]
   rfl
  cases o with
  | true =>
   obtain ⟨x', o', q1, q2, q3⟩ := done2
   exact ⟨x', o', q1, q2, fun kf => by rw [head]; exact q3 kf⟩
  | false =>
   by_cases hp : p > a
   ·obtain ⟨x', o', q1, q2, q3⟩ := done1 rfl
    exact ⟨x', o', q1, q2, fun kf => by rw [head, decide_eq_true hp]; exact q3 kf⟩
   ·cases hpa : p == a with
    | false =>
     obtain ⟨x', o', q1, q2, q3⟩ := done2
     exact ⟨x', o', q1, q2, fun kf => by rw [head, decide_eq_false hp, hpa]; exact q3 kf⟩
    | true =>
     by_cases hq : q > b
     ·obtain ⟨x', o', q1, q2, q3⟩ := done1 rfl
      exact ⟨x', o', q1, q2, fun kf => by rw [head, decide_eq_false hp, hpa, decide_eq_true hq]; exact q3 kf⟩
     ·obtain ⟨x', o', q1, q2, q3⟩ := done2
      exact ⟨x', o', q1, q2, fun kf => by rw [head, decide_eq_false hp, hpa, decide_eq_false hq]; exact q3 kf⟩
theorem addG_ok {N : Nat} {a b : Int} {g : Graph} (hg : isGraphM g = true) (hl : g.2.length ≤ 99) (hN : 200 < N) : ∃ (g' : Graph) (o : Bool), isGraphM g' = true ∧ g'.1 = g.1 ∧ g'.2.length ≤ g.2.length + 1 ∧ ∀ kf, S67 N g a b kf = kf g' o := by
 obtain ⟨x, o, h1, h2, h3⟩ := add_l4 (N := N) (a := a) (b := b) (z := ((0 : Int), ([] : List (List Int)))) hg (by omega) hN g.2.length 0 N (g.1, []) false (by omega) (by omega) (by simp)
 have hbo : (bif o then 1 else 0 : Nat) ≤ 1 := by cases o <;> simp
 have fin : ∀ y : Graph, y.1 = g.1 → y.2.length ≤ g.2.length + 1 → ∃ (g' : Graph) (o : Bool), isGraphM g' = true ∧ g'.1 = g.1 ∧ g'.2.length ≤ g.2.length + 1 ∧ ∀ kf, S67_j3 N g kf y = kf g' o := fun y y1 y2 => by
  cases hy : isGraphM y with
  | true =>
   refine ⟨y, true, hy, y1, y2, fun kf => ?_⟩
   unfold S67_j3
   rw [S45_ok (by omega) (by omega), hg, Bool.not_true, cond_false, S45_ok (by omega) (by omega), hy]
   rfl
  | false =>
   refine ⟨g, false, hg, rfl, by omega, fun kf => ?_⟩
   unfold S67_j3
   rw [S45_ok (by omega) (by omega), hg, Bool.not_true, cond_false, S45_ok (by omega) (by omega), hy, Bool.not_false, cond_true, copyG_ok hg (by omega) hN]
 cases o with
 | true =>
  obtain ⟨g', o', q1, q2, q3, q4⟩ := fin x h1 (by simpa using h2)
  refine ⟨g', o', q1, q2, q3, fun kf => ?_⟩
  unfold S67
  exact (h3 _).trans (q4 kf)
 | false =>
  have h2 : x.2.length ≤ g.2.length := by simpa using h2
  obtain ⟨g', o', q1, q2, q3, q4⟩ := fin (x.1, x.2 ++ [[a, b]]) h1 (by simp; omega)
  refine ⟨g', o', q1, q2, q3, fun kf => ?_⟩
  unfold S67
  refine (h3 _).trans ?_
  rw [Bool.not_false, cond_true, one_app (i := 200) (by omega) (by omega)]
  exact q4 kf
end Go.Pv.R
namespace Go.Pv.R
set_option linter.unusedVariables false
set_option linter.unusedSimpArgs false
theorem l4_l3 {N : Nat} (hN : 300 < N) {z : Graph} : ∀ (k n : Nat) (c : Cur) (g : Graph), CurOK c → isGraphM g = true → (1 ≤ g.1 ∧ g.1 ≤ 10) → g.2.length + k ≤ 50 → k < n → ∃ (g' : Graph) (c' : Cur), CurOK c' ∧ (isGraphM g' = true ∧ g'.2.length ≤ g.2.length + k) ∧ ∀ kf, S47_l3 N z n kf c g (k : Int) = kf c' g' := by
 intro k
 induction k with
 | zero =>
  intro n c g hc hg h1 hl hn
  obtain ⟨n, rfl⟩ : ∃ j, n = j + 1 := ⟨n - 1, by omega⟩
  refine ⟨g, c, hc, ⟨hg, by omega⟩, fun kf => ?_⟩
  unfold S47_l3
  rw [decide_eq_false (by omega)]
  rfl
 | succ k ih =>
  intro n c g hc hg h1 hl hn
  obtain ⟨n, rfl⟩ : ∃ j, n = j + 1 := ⟨n - 1, by omega⟩
  obtain ⟨a, c1, hc1, _, e1⟩ := below (N := N) (n := g.1) (by omega) (by omega) hc
  obtain ⟨b, c2, hc2, _, e2⟩ := below (N := N) (n := g.1) (by omega) (by omega) hc1
  obtain ⟨g1, o, hg1, hn1, hl1, e3⟩ := addG_ok (N := N) (a := a) (b := b) hg (by omega) (by omega)
  obtain ⟨g2, c3, hc3, ⟨hg3, hl3⟩, e4⟩ := ih n c2 g1 hc2 hg1 (by omega) (by omega) (by omega)
  refine ⟨g2, c3, hc3, ⟨hg3, by omega⟩, fun kf => ?_⟩
  unfold S47_l3
  rw [decide_eq_true (by omega), cond_true, e1, e2, e3, show IntKind.wrap .i64 (((k + 1 : Nat) : Int) - 1) = (k : Int) by rw [wrap64 (by omega) (by omega)]; omega]
  exact e4 kf
theorem l4Draw_draws {N : Nat} (hN : 300 < N) : Draws (S47 N) fun g => isGraphM g = true ∧ g.2.length ≤ 10 := fun c hc => by
 obtain ⟨v, c1, hc1, hv, e1⟩ := below (N := N) (n := 6) (by omega) (by omega) hc
 obtain ⟨w, c2, hc2, hw, e2⟩ := below (N := N) (n := 10) (by omega) (by omega) hc1
 obtain ⟨k, rfl⟩ : ∃ k : Nat, w = (k : Int) := ⟨w.toNat, by omega⟩
 have hg0 : isGraphM ((1 + v, []) : Graph) = true := by
  unfold isGraphM
  rw [show inR (1 + v) 0 10 = true from (inR_iff).2 (by omega)]
  rfl
 obtain ⟨g, c3, hc3, ⟨hg3, hl⟩, e3⟩ := l4_l3 (N := N) hN (z := ((0 : Int), ([] : List (List Int)))) k N c2 (1 + v, []) hc2 hg0 (by show 1 ≤ 1 + v ∧ 1 + v ≤ 10; omega) (by simp; omega) (by omega)
 refine ⟨g, c3, hc3, ⟨hg3, by simp at hl; omega⟩, fun kf => ?_⟩
 unfold S47
 rw [e1, e2, wrap64 (n := 1 + v) (by omega) (by omega)]
 exact e3 _
def Gr64 (g : Graph) : Prop := I64 g.1 ∧ ∀ a ∈ g.2, ∀ v ∈ a, I64 v
theorem gr64_of {g : Graph} (hg : isGraphM g = true) : Gr64 g := by
 have hn := graph_n hg
 refine ⟨by unfold I64; omega, fun a ha v hv => ?_⟩
 obtain ⟨h2, h3, h4⟩ := graph_m hg ha
 obtain ⟨p, q, rfl⟩ := two_of h2
 have h3 : 0 ≤ p ∧ p < g.1 := h3
 have h4 : 0 ≤ q ∧ q < g.1 := h4
 unfold I64
 simp at hv
 rcases hv with rfl | rfl <;> omega
theorem gr64_add {g : Graph} {a : List Int} (h : Gr64 g) (ha : ∀ v ∈ a, I64 v) : Gr64 (g.1, g.2 ++ [a]) := ⟨h.1, fun b hb v hv => by
 rcases List.mem_append.1 hb with hb | hb
 ·exact h.2 b hb v hv
 ·rw [List.mem_singleton.1 hb] at hv; exact ha v hv⟩
theorem l4Any_in {N : Nat} (hN : 300 < N) : Draws (S32 N) fun g => g.2.length ≤ 11 ∧ Gr64 g := fun c hc => by
 obtain ⟨g, c1, hc1, ⟨hgg, hg⟩, e1⟩ := l4Draw_draws (N := N) hN c hc
 have hG := gr64_of hgg
 obtain ⟨v, c2, hc2, hv, e2⟩ := below (N := N) (n := 14) (by omega) (by omega) hc1
 unfold S32
 simp only [e1, e2]
 cases h0 : v == 0 with
 | true =>
  obtain ⟨w, c3, hc3, hw, e3⟩ := oneOf (N := N) (l := [(-1 : Int), (0 : Int), (5 : Int), (10 : Int), (11 : Int), (9223372036854775807 : Int), (-9223372036854775808 : Int)]) (by simp) (by simp) hc2
  exact ⟨(w, g.2), c3, hc3, ⟨by show g.2.length ≤ 11; omega, by show I64 w; unfold I64; simp at hw; omega, hG.2⟩, fun kf => by unfold S49; simp only [cond_true, e3]⟩
 | false =>
  cases h1 : v == 1 with
  | true => exact ⟨(g.1, g.2 ++ [[(0 : Int)]]), c2, hc2, ⟨by simp; omega, gr64_add hG (fun v hv => by rw [List.mem_singleton.1 hv]; unfold I64; omega)⟩, fun kf => by simp only [cond_false, cond_true]; rw [one_app (i := 200) (by omega) (by omega)]; rfl⟩
  | false =>
   cases h2 : v == 2 with
   | false => exact ⟨g, c2, hc2, ⟨by omega, hG⟩, fun kf => by simp only [cond_false]⟩
   | true =>
    obtain ⟨x, c3, hc3, hx, e3⟩ := below (N := N) (n := 7) (by omega) (by omega) hc2
    obtain ⟨y, c4, hc4, hy, e4⟩ := below (N := N) (n := 7) (by omega) (by omega) hc3
    exact ⟨(g.1, g.2 ++ [[x, y]]), c4, hc4, ⟨by simp; omega, gr64_add hG (fun v hv => by unfold I64; simp at hv; omega)⟩, fun kf => by simp only [cond_false, cond_true, e3, e4]; rw [one_app (i := 200) (by omega) (by omega)]; rfl⟩
end Go.Pv.R
namespace Go.Pv.R
set_option linter.unusedVariables false
set_option linter.unusedSimpArgs false
end Go.Pv.R
namespace Go.Pv.R
set_option linter.unusedVariables false
set_option linter.unusedSimpArgs false
end Go.Pv.R
namespace Go.Pv.R
set_option linter.unusedVariables false
set_option linter.unusedSimpArgs false
end Go.Pv.R
namespace Go.Pv.R
set_option linter.unusedVariables false
set_option linter.unusedSimpArgs false
def PtIn (x : Point) : Prop := -1000 ≤ x.1 ∧ x.1 ≤ 1000 ∧ -1000 ≤ x.2.1 ∧ x.2.1 ≤ 1000
def PtsIn (M : Nat) (l : List Point) : Prop := l.length ≤ M ∧ ∀ x : Point, x ∈ l → PtIn x
def ptP (l : List Point) (i : Nat) (x : Point) : Bool := inR x.1 1 99 && (inR x.2.1 1 2 && (inR x.2.2 0 4 && (decide (i = 0) || !decide ((l.getD (i - 1) zQIIIE).1 ≥ x.1))))
theorem arePts_ok {N : Nat} {l : List Point} {kf : Bool → Option Ret} (hl : l.length ≤ 1000000) (hN : l.length < N) : S85 N l kf = kf (bif allI (ptP l) l 0 then decide ((List.length l : Int) ≤ (30 : Int)) else false) := by
 have hm := maxLen_eq
 unfold S85
 rw [S85_l2_r (by omega) hN, goL_all (l := l) (p := ptP l) (kf := kf false) (fun i x next hi e => ?_) l 0 rfl]
 ·cases allI (ptP l) l 0 <;> rfl
 ·simp only [S66_ok]
  unfold ptP
  cases inR x.1 1 99 with
  | false => rfl
  | true =>
  cases inR x.2.1 1 2 with
  | false => rfl
  | true =>
  cases inR x.2.2 0 4 with
  | false => rfl
  | true =>
  simp only [Bool.not_true, cond_false, Bool.true_and]
  by_cases h0 : i = 0
  ·subst h0; rfl
  ·rw [decide_eq_true (show (i : Int) > 0 by omega), cond_true, wrap_pred (by omega) hi (by omega), inB_nat (by omega), cond_true, Int.toNat_natCast, decide_eq_false h0, Bool.false_or]
   cases decide ((l.getD (i - 1) zQIIIE).1 ≥ x.1) <;> rfl
theorem raise_at {l : List Point} {a : Int} : ∀ (r : List Point) (i : Nat), l.drop i = r → i ≤ l.length → ∃ z : Nat, z ≤ l.length ∧ ∀ k : Int → Option Ret, goL (fun (i : Nat) (x : Point) (next : Option Ret) => bif (decide (x.1 < a)) then next else k (i : Int)) (k (List.length l : Int)) r i = k (z : Int)
 | [], i, _, _ => ⟨l.length, Nat.le_refl _, fun k => rfl⟩
 | x :: r, i, hd, hi => by
  have hlt : i < l.length := by have := congrArg List.length hd; simp at this; omega
  by_cases h : x.1 < a
  ·obtain ⟨z, hz, e⟩ := raise_at r (i + 1) (by rw [List.drop_eq_getElem_cons hlt] at hd; injection hd) (by omega)
   exact ⟨z, hz, fun k => by simp only [goL]; rw [decide_eq_true h]; exact e k⟩
  ·exact ⟨i, hi, fun k => by simp only [goL]; rw [decide_eq_false h]; rfl⟩
theorem raise_ok {N M : Nat} {l : List Point} {a b : Int} (h : PtsIn M l) (hM : M ≤ 100) (hN : 200 < N) (ha : -1000 ≤ a ∧ a ≤ 1000) (hb : -1000 ≤ b ∧ b ≤ 1000) : ∃ r : List Point, ∃ o : Bool, PtsIn (M + 1) r ∧ ∀ kf, S72 N l a b kf = kf r o := by
 have hm := maxLen_eq
 have hl := h.1
 obtain ⟨z, hz, ez⟩ := raise_at (l := l) (a := a) l 0 rfl (by omega)
 have h1 : (decide ((0 : Int) ≤ (0 : Int)) && decide ((0 : Int) ≤ (z : Int)) && decide ((z : Int) ≤ (List.length l : Int))) = true := by
  rw [decide_eq_true (by omega), decide_eq_true (by omega), decide_eq_true (by omega)]; rfl
 have h2 : (decide ((0 : Int) ≤ (z : Int)) && decide ((z : Int) ≤ (List.length l : Int)) && decide ((List.length l : Int) ≤ (List.length l : Int))) = true := by
  rw [decide_eq_true (by omega), decide_eq_true (by omega), decide_eq_true (by omega)]; rfl
 obtain ⟨L, hL⟩ : ∃ L : List Point, L = ((([] : (List Point)) ++ (List.drop (Int.toNat (0 : Int)) (List.take (Int.toNat (z : Int)) l))) ++ [(a, (b, (0 : Int)))]) ++ (List.drop (Int.toNat (z : Int)) (List.take (Int.toNat (List.length l : Int)) l)) := ⟨_, rfl⟩
 have hi : PtsIn (M + 1) L := by
  refine ⟨?_, fun x hx => ?_⟩
  ·rw [hL]
   simp only [List.length_append, List.length_drop, List.length_take, List.length_cons, List.length_nil, Int.toNat_natCast]
   omega
  ·rw [hL] at hx
   simp only [List.mem_append, List.mem_singleton] at hx
   rcases hx with ((hx | hx) | hx) | hx
   ·cases hx
   ·exact h.2 x (List.mem_of_mem_take (List.mem_of_mem_drop hx))
   ·rw [hx]; exact ⟨ha.1, ha.2, hb.1, hb.2⟩
   ·exact h.2 x (List.mem_of_mem_take (List.mem_of_mem_drop hx))
 have hw : PtsIn (M + 1) (([] : List Point) ++ l) := ⟨by simp; omega, fun x hx => h.2 x (by simpa using hx)⟩
 have d1 : decide ((List.length ([] : (List Point)) + List.length (List.drop (Int.toNat (0 : Int)) (List.take (Int.toNat (z : Int)) l))) * 3 ≤ 4398046511104) = true := decide_eq_true (by simp only [List.length_drop, List.length_take, List.length_nil]; omega)
 have d2 : decide ((List.length (([] : (List Point)) ++ (List.drop (Int.toNat (0 : Int)) (List.take (Int.toNat (z : Int)) l))) + List.length [(a, (b, (0 : Int)))]) * 3 ≤ 4398046511104) = true := decide_eq_true (by simp only [List.length_append, List.length_drop, List.length_take, List.length_nil, List.length_cons]; omega)
 have d3 : decide ((List.length ((([] : (List Point)) ++ (List.drop (Int.toNat (0 : Int)) (List.take (Int.toNat (z : Int)) l))) ++ [(a, (b, (0 : Int)))]) + List.length (List.drop (Int.toNat (z : Int)) (List.take (Int.toNat (List.length l : Int)) l))) * 3 ≤ 4398046511104) = true := decide_eq_true (by simp only [List.length_append, List.length_drop, List.length_take, List.length_nil, List.length_cons]; omega)
 have d4 : decide ((List.length ([] : (List Point)) + List.length l) * 3 ≤ 4398046511104) = true := decide_eq_true (by simp only [List.length_nil]; omega)
 have eA : ∀ kf, S85 N L kf = kf (bif allI (ptP L) L 0 then decide ((List.length L : Int) ≤ (30 : Int)) else false) := fun kf => arePts_ok (by have := hi.1; omega) (by have := hi.1; omega)
 have eR : ∀ kf, S72 N l a b kf = S85 N L (fun r40_9 => bif (!r40_9) then kf (([] : List Point) ++ l) false else kf L true) := fun kf => by
  have ez2 : ∀ k : Int → Option Ret, S72_l2 l a b N k (0 : Int) = k (z : Int) := fun k => by
   rw [S72_l2_r (by omega) (by omega)]
   exact ez k
  unfold S72
  rw [ez2, h1, cond_true, h2, cond_true, d1, cond_true, d2, cond_true, d3, cond_true, d4, hL]
  rfl
 cases hq : (bif allI (ptP L) L 0 then decide ((List.length L : Int) ≤ (30 : Int)) else false) with
 | false => exact ⟨_, false, hw, fun kf => by rw [eR, eA, hq]; rfl⟩
 | true => exact ⟨_, true, hi, fun kf => by rw [eR, eA, hq]; rfl⟩
def GoesP (M : Nat) (F : (List Point → Bool → Option Ret) → Option Ret) : Prop := ∃ r : List Point, ∃ o : Bool, PtsIn M r ∧ ∀ kf, F kf = kf r o
theorem goesP_if {M : Nat} {c : Bool} {F G : (List Point → Bool → Option Ret) → Option Ret} (hF : GoesP M F) (hG : GoesP M G) : GoesP M fun kf => bif c then F kf else G kf := by
 cases c with
 | false => exact hG
 | true => exact hF
theorem goesP_now {M : Nat} {r : List Point} {o : Bool} (h : PtsIn M r) : GoesP M fun kf => kf r o := ⟨r, o, h, fun kf => rfl⟩
theorem pts_set {M : Nat} {l : List Point} {i : Nat} {v : Int} (h : PtsIn M l) (hi : i < l.length) : PtsIn M (List.set l i ((l.getD i zQIIIE).1, ((l.getD i zQIIIE).2.1, v))) := by
 refine ⟨by rw [List.length_set]; exact h.1, fun x hx => ?_⟩
 rcases List.mem_or_eq_of_mem_set hx with hx | rfl
 ·exact h.2 x hx
 ·have := h.2 (l.getD i zQIIIE) (by rw [getD_nat _ _ hi]; exact List.getElem_mem hi)
  exact this
theorem reply_ok {N M : Nat} {l : List Point} {a b c : Int} (h : PtsIn M l) (hM : M ≤ 200) (hN : 400 < N) : GoesP M (S73 N l a b c) := by
 have hl := h.1
 have d4 : decide ((List.length ([] : (List Point)) + List.length l) * 3 ≤ 4398046511104) = true := decide_eq_true (by simp only [List.length_nil]; omega)
 have eA : ∀ kf, S85 N l kf = kf (bif allI (ptP l) l 0 then decide ((List.length l : Int) ≤ (30 : Int)) else false) := fun kf => arePts_ok (by omega) (by omega)
 have key : ∀ (d i n : Nat), i + d = l.length → d < n → GoesP M fun kf => S73_l3 N l a b c l n (kf l false) kf (i : Int) := by
  intro d
  induction d with
  | zero =>
   intro i n hi hn
   obtain ⟨n, rfl⟩ : ∃ j, n = j + 1 := ⟨n - 1, by omega⟩
   simp only [S73_l3]
   rw [decide_eq_false (by omega)]
   exact goesP_now h
  | succ d ih =>
   intro i n hi hn
   obtain ⟨n, rfl⟩ : ∃ j, n = j + 1 := ⟨n - 1, by omega⟩
   have hlt : i < l.length := by omega
   have h0 := ih (i + 1) n (by omega) (by omega)
   have hw : IntKind.wrap .i64 ((i : Int) + (1 : Int)) = ((i + 1 : Nat) : Int) := by rw [wrap64 (by omega) (by omega)]; omega
   have hset := fun o => goesP_now (o := o) (pts_set (v := c) h hlt)
   have hend := goesP_now (o := false) h
   simp only [S73_l3, eA, S66_ok, S73_j1, S73_j2, inB_nat hlt, cond_true, hw, Int.toNat_natCast]
   rw [decide_eq_true (by omega)]
   simp only [cond_true]
   repeat' first | exact h0 | exact hset _ | exact hend | apply goesP_if
 obtain ⟨r, o, h1, h2⟩ := key l.length 0 N (by omega) (by omega)
 refine ⟨r, o, h1, fun kf => ?_⟩
 unfold S73
 rw [d4]
 exact h2 kf
theorem l13_l3 {N : Nat} (hN : 400 < N) : ∀ (k n M : Nat) (c : Cur) (l : List Point), CurOK c → PtsIn M l → M + k ≤ 50 → k < n → ∃ r : List Point, ∃ c' : Cur, CurOK c' ∧ PtsIn (M + k) r ∧ ∀ kf, S56_l3 N n kf c l (k : Int) = kf c' r
 | 0, n, M, c, l, hc, hl, hM, hn => by
  obtain ⟨n, rfl⟩ : ∃ j, n = j + 1 := ⟨n - 1, by omega⟩
  refine ⟨l, c, hc, hl, fun kf => ?_⟩
  unfold S56_l3
  rw [decide_eq_false (by omega)]
  rfl
 | k + 1, n, M, c, l, hc, hl, hM, hn => by
  obtain ⟨n, rfl⟩ : ∃ j, n = j + 1 := ⟨n - 1, by omega⟩
  obtain ⟨v1, c1, hc1, q1, e1⟩ := below (N := N) (n := 6) (by omega) (by omega) hc
  obtain ⟨v2, c2, hc2, q2, e2⟩ := below (N := N) (n := 2) (by omega) (by omega) hc1
  obtain ⟨r, o, hr, er⟩ := raise_ok (N := N) (a := IntKind.wrap .i64 ((1 : Int) + v1)) (b := IntKind.wrap .i64 ((1 : Int) + v2)) hl (by omega) (by omega) (by rw [wrap64 (by omega) (by omega)]; omega) (by rw [wrap64 (by omega) (by omega)]; omega)
  obtain ⟨v3, c3, hc3, q3, e3⟩ := below (N := N) (n := 6) (by omega) (by omega) hc2
  obtain ⟨v4, c4, hc4, q4, e4⟩ := below (N := N) (n := 2) (by omega) (by omega) hc3
  obtain ⟨v5, c5, hc5, q5, e5⟩ := below (N := N) (n := 4) (by omega) (by omega) hc4
  obtain ⟨r2, o2, hr2, er2⟩ := reply_ok (N := N) (a := IntKind.wrap .i64 ((1 : Int) + v3)) (b := IntKind.wrap .i64 ((1 : Int) + v4)) (c := IntKind.wrap .i64 ((1 : Int) + v5)) hr (by omega) hN
  obtain ⟨r3, c6, hc6, hr3, e6⟩ := l13_l3 hN k n (M + 1) c5 r2 hc5 hr2 (by omega) (by omega)
  refine ⟨r3, c6, hc6, by rw [show M + (k + 1) = M + 1 + k by omega]; exact hr3, fun kf => ?_⟩
  unfold S56_l3
  rw [decide_eq_true (by omega), cond_true]
  simp only [e1, e2, er, e3, e4, e5, er2]
  rw [wrap64 (n := ((k + 1 : Nat) : Int) - 1) (by omega) (by omega), show (((k + 1 : Nat) : Int) - 1) = (k : Int) by omega]
  exact e6 kf
theorem l13Draw_draws {N : Nat} (hN : 400 < N) : Draws (S56 N) (PtsIn 9) := fun c hc => by
 obtain ⟨v, c1, hc1, hv, e1⟩ := below (N := N) (n := 10) (by omega) (by omega) hc
 obtain ⟨k, rfl⟩ : ∃ k : Nat, v = (k : Int) := ⟨v.toNat, by omega⟩
 obtain ⟨r, c2, hc2, hr, e2⟩ := l13_l3 hN k N 0 c1 [] hc1 ⟨by simp, fun x hx => by cases hx⟩ (by omega) (by omega)
 refine ⟨r, c2, hc2, ⟨by have := hr.1; omega, hr.2⟩, fun kf => ?_⟩
 unfold S56
 rw [e1]
 exact e2 _
theorem pts_put {M : Nat} {l : List Point} {i : Nat} {y : Point} (h : PtsIn M l) (hy : PtIn y) : PtsIn M (List.set l i y) := by
 refine ⟨by rw [List.length_set]; exact h.1, fun x hx => ?_⟩
 rcases List.mem_or_eq_of_mem_set hx with hx | rfl
 ·exact h.2 x hx
 ·exact hy
theorem l13Any_draws {N : Nat} (hN : 400 < N) : Draws (S39 N) (PtsIn 9) := fun c hc => by
 obtain ⟨l, c1, hc1, hl, e1⟩ := l13Draw_draws hN c hc
 have hlen := hl.1
 unfold S39
 simp only [e1]
 by_cases h0 : (List.length l : Int) > 0
 rotate_left
 ·rw [decide_eq_false h0]
  exact ⟨l, c1, hc1, hl, fun kf => rfl⟩
 rw [decide_eq_true h0]
 obtain ⟨i, c2, hc2, hi, e2⟩ := below (N := N) (n := (l.length : Int)) (by omega) (by omega) hc1
 obtain ⟨k, rfl⟩ : ∃ k : Nat, i = (k : Int) := ⟨i.toNat, by omega⟩
 have hk : k < l.length := by omega
 obtain ⟨w, c3, hc3, hw, e3⟩ := below (N := N) (n := 12) (by omega) (by omega) hc2
 have hx : PtIn (l.getD k zQIIIE) := hl.2 _ (by rw [getD_nat _ _ hk]; exact List.getElem_mem hk)
 simp only [cond_true, e2, e3, inB_nat hk, Int.toNat_natCast]
 cases w == 0
 rotate_left
 ·obtain ⟨v, c4, hc4, hv, e4⟩ := oneOf (N := N) (l := [(0 : Int), (1 : Int), (99 : Int), (100 : Int)]) (by simp) (by simp) hc3
  refine ⟨_, c4, hc4, ?_, fun kf => by simp only [cond_true, e4]; rfl⟩
  exact pts_put hl ⟨by simp at hv; omega, by simp at hv; omega, hx.2.2⟩
 cases w == 1
 rotate_left
 ·obtain ⟨v, c4, hc4, hv, e4⟩ := oneOf (N := N) (l := [(0 : Int), (2 : Int), (3 : Int)]) (by simp) (by simp) hc3
  refine ⟨_, c4, hc4, ?_, fun kf => by simp only [cond_true, cond_false, e4]; rfl⟩
  exact pts_put hl ⟨hx.1, hx.2.1, by show -1000 ≤ v; simp at hv; omega, by show v ≤ 1000; simp at hv; omega⟩
 cases w == 2
 rotate_left
 ·obtain ⟨v, c4, hc4, hv, e4⟩ := oneOf (N := N) (l := [(-1 : Int), (4 : Int), (5 : Int)]) (by simp) (by simp) hc3
  refine ⟨_, c4, hc4, ?_, fun kf => by simp only [cond_true, cond_false, e4]; rfl⟩
  exact pts_put hl hx
 ·exact ⟨l, c3, hc3, hl, fun kf => by simp only [cond_false]⟩
end Go.Pv.R
namespace Go.Pv.R
set_option linter.unusedVariables false
set_option linter.unusedSimpArgs false
def dgt (n : Nat) : List UInt8 := bif Nat.blt n 10 then [UInt8.ofNat (48 + n)] else [49, 48]
theorem dgF : ∀ k : Fin 11, (dgt k).all isDig = true ∧ 1 ≤ (dgt k).length ∧ (decide ((dgt k).length = 1) || !((dgt k).headD 0 == 48)) = true ∧ val (dgt k) 0 = k.val ∧ okI (dgt k) = true ∧ (32 : UInt8) ∉ dgt k ∧ (62 : UInt8) ∉ dgt k := by decide
structure DgOK (n : Int) : Prop where
 it : itoaB n = packB (dgt n.toNat)
 ok : okI (dgt n.toNat) = true
 nu : numI (dgt n.toNat) = n
 bl : (32 : UInt8) ∉ dgt n.toNat
 gt : (62 : UInt8) ∉ dgt n.toNat
theorem dg_ok {n : Int} (h0 : 0 ≤ n) (h1 : n ≤ 10) : DgOK n := by
 obtain ⟨k, rfl⟩ : ∃ k : Nat, n = (k : Int) := ⟨n.toNat, by omega⟩
 obtain ⟨q1, q2, q3, q4, q5, q6, q7⟩ := dgF ⟨k, by omega⟩
 have q4 : val (dgt k) 0 = k := q4
 refine ⟨?_, q5, ?_, q6, q7⟩
 ·have := (digits_same q1 q2).2 q3
  rw [Int.toNat_natCast]
  rw [show val (dgt (Fin.mk k (by omega) : Fin 11)) 0 = k from q4] at this
  exact this
 ·rw [Int.toNat_natCast]
  unfold numI
  rw [show okI (dgt k) = true from q5, cond_true, q4]
theorem spl_word {c : UInt8} : ∀ {w r : List UInt8}, c ∉ w → spl c (w ++ c :: r) = w :: spl c r
 | [], r, _ => by simp [spl]
 | b :: w, r, h => by
  have hb : (b == c) = false := beq_eq_false_iff_ne.2 fun e => h (by rw [e]; simp)
  show spl c (b :: (w ++ c :: r)) = _
  simp only [spl, hb, cond_false]
  rw [spl_word (w := w) fun hc => h (List.mem_cons_of_mem _ hc)]
theorem spl_last {c : UInt8} : ∀ {w : List UInt8}, c ∉ w → spl c w = [w]
 | [], _ => rfl
 | b :: w, h => by
  have hb : (b == c) = false := beq_eq_false_iff_ne.2 fun e => h (by rw [e]; simp)
  simp only [spl, hb, cond_false]
  rw [spl_last (w := w) fun hc => h (List.mem_cons_of_mem _ hc)]
def wd (x : List Int) : List UInt8 := dgt (x.getD 0 0).toNat ++ 62 :: dgt (x.getD 1 0).toNat
structure WdOK (x : List Int) : Prop where
 two : x = [x.getD 0 0, x.getD 1 0]
 p : DgOK (x.getD 0 0)
 q : DgOK (x.getD 1 0)
theorem wd_cut {x : List Int} (h : WdOK x) : cutP (wd x) = (dgt (x.getD 0 0).toNat, dgt (x.getD 1 0).toNat) := by
 rcases cut_spl (wd x) with ⟨h1, _⟩ | ⟨p, q, h1, h2, h3⟩
 ·exact absurd (by unfold wd; simp) h1
 ·have h4 : spl 62 (wd x) = dgt (x.getD 0 0).toNat :: spl 62 (dgt (x.getD 1 0).toNat) := spl_word h.p.gt
  rw [h4] at h1
  injection h1 with h1 _
  subst h1
  exact cut_hit h2
theorem wd_ok {x : List Int} (h : WdOK x) : okW (wd x) = true ∧ valW (wd x) = x ∧ (32 : UInt8) ∉ wd x := by
 refine ⟨?_, ?_, ?_⟩
 ·unfold okW; rw [wd_cut h, h.p.ok, h.q.ok]; rfl
 ·unfold valW; rw [wd_cut h, h.p.nu, h.q.nu]; exact h.two.symm
 ·unfold wd
  simp only [List.mem_append, List.mem_cons, not_or]
  exact ⟨h.p.bl, by decide, h.q.bl⟩
theorem spl_words2 : ∀ {l : List (List Int)} {w : List UInt8}, (32 : UInt8) ∉ w → (∀ x ∈ l, WdOK x) → spl 32 (w ++ (l.map fun x => 32 :: wd x).flatten) = w :: l.map wd
 | [], w, hw, _ => by simp [spl_last hw]
 | x :: r, w, hw, h => by
  simp only [List.map_cons, List.flatten_cons, List.cons_append]
  rw [spl_word hw, spl_words2 (wd_ok (h x (by simp))).2.2 fun y hy => h y (by simp [hy])]
theorem graph_wd {g : Graph} (hg : isGraphM g = true) {x : List Int} (hx : x ∈ g.2) : WdOK x := by
 have hn := graph_n hg
 obtain ⟨h2, h3, h4⟩ := graph_m hg hx
 refine ⟨?_, dg_ok (by omega) (by omega), dg_ok (by omega) (by omega)⟩
 obtain ⟨p, q, rfl⟩ := two_of h2
 rfl
theorem graph_txt {g : Graph} (hg : isGraphM g = true) : (graphM g).data.toList = dgt g.1.toNat ++ (g.2.map fun x => 32 :: wd x).flatten := by
 have hn := graph_n hg
 unfold graphM
 rw [hg, cond_true, (dg_ok hn.1 hn.2).it]
 have e : g.2.map (fun x => (attB x).data.toList) = g.2.map fun x => 32 :: wd x := List.map_congr_left fun x hx => by
  have h := graph_wd hg hx
  unfold attB
  rw [h.p.it, h.q.it]
  simp [packB, wd, s_h20, s_h3e]
 have : (catB attB g.2).data.toList = (g.2.map fun x => (attB x).data.toList).flatten := by simp [catB]
 rw [ByteArray.data_append, Array.toList_append, this, e, data_pack]
theorem read_graph {g : Graph} (hg : isGraphM g = true) : readOK (graphM g) = true ∧ parseG (graphM g) = g := by
 have hn := graph_n hg
 have hd := dg_ok hn.1 hn.2
 have hs : spl 32 (graphM g).data.toList = dgt g.1.toNat :: g.2.map wd := by
  rw [graph_txt hg]
  exact spl_words2 hd.bl fun x hx => graph_wd hg hx
 have hr : readG (graphM g) = g := by
  unfold readG
  rw [hs]
  show (numI (dgt g.1.toNat), (g.2.map wd).map valW) = g
  rw [hd.nu, List.map_map]
  have : g.2.map (valW ∘ wd) = g.2 := by
   conv => rhs; rw [← List.map_id g.2]
   exact List.map_congr_left fun x hx => (wd_ok (graph_wd hg hx)).2.1
  rw [this]
 have ho : readOK (graphM g) = true := by
  unfold readOK
  rw [hr, hs]
  simp only [List.headD_cons, List.tail_cons, hd.ok, beq_self_eq_true, Bool.and_true, Bool.true_and]
  rw [List.all_eq_true]
  intro w hw
  obtain ⟨x, hx, rfl⟩ := List.mem_map.1 hw
  exact (wd_ok (graph_wd hg hx)).1
 exact ⟨ho, by unfold parseG; rw [ho, cond_true, hr]⟩
theorem read_none : readOK s_e = false := rfl
theorem read_same {s : ByteArray} (h : readOK s = true) : graphM (parseG s) = s := by
 unfold parseG
 rw [h, cond_true]
 unfold readOK at h
 simp only [Bool.and_eq_true] at h
 exact beqB_eq.1 h.2.2
theorem graph_64 {g : Graph} (h : Gr64 g) (hl : g.2.length ≤ 11) : Graph64 g := ⟨h.1, h.2, by omega⟩
theorem catB_le {α : Type} {f : α → ByteArray} {m : Nat} : ∀ (l : List α), (∀ x ∈ l, (f x).size ≤ m) → (catB f l).size ≤ m * l.length
 | [], _ => Nat.zero_le _
 | x :: r, h => by
  have h1 := catB_le r fun y hy => h y (by simp [hy])
  have h2 := h x (by simp)
  have e : (catB f (x :: r)).size = (f x).size + (catB f r).size := by
   rw [Lib.size_eq, Lib.size_eq, Lib.size_eq]
   simp [catB]
  rw [e, List.length_cons, Nat.mul_add]
  omega
theorem graphM_le {g : Graph} (h : Gr64 g) (hl : g.2.length ≤ 11) : (graphM g).size ≤ 1000 := by
 unfold graphM
 cases hg : isGraphM g with
 | false => show s_e.size ≤ 1000; have : s_e.size = 0 := rfl; omega
 | true =>
  have h1 := itoaB_size h.1
  have h2 := catB_le (f := attB) (m := 42) g.2 fun x hx => by obtain ⟨_, _, _, _, _, q⟩ := attB_ok (graph_64 h hl) hg x hx; exact q
  show (itoaB g.1 ++ catB attB g.2).size ≤ 1000
  rw [size_app]
  omega
theorem eqF_self {N : Nat} {l : List (List Int)} {kf : Bool → Option Ret} (hl : l.length ≤ 1000) (hx : ∀ x ∈ l, x.length ≤ 1000) (hN : 1000 < N) : S28 N l l kf = kf true := by
 have hm := maxLen_eq
 unfold S28
 have e : ((List.length l : Int) != (List.length l : Int)) = false := by simp
 rw [e, cond_false, S28_l4_r (by omega) (by omega), goL_all (l := l) (p := fun _ _ => true) (kf := kf false) (fun i x next hi e => ?_) l 0 rfl]
 ·rw [allI_iff.2 fun _ _ => rfl]; rfl
 ·have hx1 := hx x (by rw [← e]; exact List.getElem_mem hi)
  rw [inB_nat hi, cond_true, S29_ok (by omega) (by omega), Int.toNat_natCast, getD_nat _ _ hi, e, decide_eq_true rfl]
  rfl
theorem partOf_self {N : Nat} {g : Graph} {kf : Bool → Option Ret} (hg : isGraphM g = true) (hN : 1000 < N) : I9 N g g kf = kf true := by
 have hm := maxLen_eq
 have hl := graph_len hg
 unfold I9
 rw [I8_ok (by omega) (by omega), hg]
 simp only [Bool.not_true, cond_false]
 rw [I8_ok (by omega) (by omega), hg]
 simp only [Bool.not_true, cond_false]
 rw [decide_eq_false (by omega), cond_false, I9_l5_r (by omega) (by omega), goL1_gather (l := g.2) (c := fun _ _ => true) (f := fun _ x => x) (fun i x s next hi e hs => ?_) g.2 0 [] rfl (by simp), List.nil_append, gatherI_map, List.map_id']
 ·exact eqF_self (by omega) (fun x hx => by have := (graph_m hg hx).1; omega) hN
 ·obtain ⟨h2, h3, h4⟩ := graph_m hg (a := x) (by rw [← e]; exact List.getElem_mem hi)
  obtain ⟨p, q, rfl⟩ := two_of h2
  have h3 : 0 ≤ p ∧ p < g.1 := h3
  have h4 : 0 ≤ q ∧ q < g.1 := h4
  have b0 : inB (0 : Int) (List.length [p, q]) = true := rfl
  have b1 : inB (1 : Int) (List.length [p, q]) = true := rfl
  have v0 : List.getD [p, q] (Int.toNat (0 : Int)) (0 : Int) = p := rfl
  have v1 : List.getD [p, q] (Int.toNat (1 : Int)) (0 : Int) = q := rfl
  simp only [b0, b1, v0, v1, cond_true]
  rw [decide_eq_true h3.2, cond_true, decide_eq_true h4.2, cond_true, one_app hs (by omega), cond_true]
theorem l1Str_draws {N : Nat} {l : List ByteArray} (h0 : 0 < l.length) (h1 : l.length ≤ 256) : Draws (fun c kf => S33 N c l kf) fun v => v ∈ l := fun c hc => by
 obtain ⟨v, c', h2, h3, h4⟩ := l1Below_draws (N := N) (n := (l.length : Int)) (by omega) (by omega) c hc
 have h4 : ∀ kf, S48 N c (l.length : Int) kf = kf v c' := h4
 obtain ⟨k, rfl⟩ : ∃ k : Nat, v = (k : Int) := ⟨v.toNat, by omega⟩
 have hk : k < l.length := by omega
 refine ⟨l.getD k ByteArray.empty, c', h2, by rw [getD_nat _ _ hk]; exact List.getElem_mem hk, fun kf => ?_⟩
 show S33 N c l kf = _
 unfold S33
 rw [h4, inB_nat hk, Int.toNat_natCast]
 rfl
theorem drawGT_ok {N : Nat} {a : List Int} (ha : a.length ≤ 1048576) (hN : 4000 < N) : ∃ g : Graph, (g.2.length ≤ 11 ∧ Gr64 g) ∧ ∀ kf, S5 N a kf = kf g := by
 obtain ⟨c, hc, e1⟩ := l1New_ok (N := N) ha (by omega)
 obtain ⟨g, c1, _, hg, e2⟩ := l4Any_in (N := N) (by omega) c hc
 exact ⟨g, hg, fun kf => by unfold S5 S20; rw [e1, e2]⟩
theorem drawPG_ok {N : Nat} {a : List Int} (ha : a.length ≤ 1048576) (hN : 4000 < N) : ∃ s : ByteArray, s.size ≤ 2000 ∧ ∀ kf, S10 N a kf = kf s := by
 obtain ⟨c, hc, e1⟩ := l1New_ok (N := N) ha (by omega)
 obtain ⟨g, c1, hc1, ⟨hl, hg⟩, e2⟩ := l4Any_in (N := N) (by omega) c hc
 have hle := graphM_le hg hl
 have e3 : ∀ kf, S31 N g kf = kf (graphM g) := fun kf => S31_ok (graph_64 hg hl) (by omega)
 have z0 : s_h20.size = 1 := rfl
 obtain ⟨s, c2, _, hs, e4⟩ := l1Str_draws (N := N) (l := [graphM g, graphM g, graphM g, (graphM g ++ s_h20), s_h3320303e3120313e32, s_h3320313e3220303e31, s_h3320303e33, s_h3320303e, s_03, s_e, s_h2d31, s_h332020303e31, s_h3320303e313e32, s_11, s_0]) (by simp) (by simp) c1 hc1
 refine ⟨s, ?_, fun kf => ?_⟩
 ·simp only [List.mem_cons, List.not_mem_nil, or_false] at hs
  rcases hs with rfl | rfl | rfl | rfl | rfl | rfl | rfl | rfl | rfl | rfl | rfl | rfl | rfl | rfl | rfl
  ·omega
  ·omega
  ·omega
  ·rw [size_app]; omega
  all_goals (first | (show (_ : Nat) ≤ 2000; decide))
 ·unfold S10
  rw [e1, e2, e3, decide_eq_true (by omega), cond_true]
  exact e4 _
theorem l10Draw_ok : ∀ (d N : Nat) (c : Cur), CurOK c → d < N → d ≤ 100 → ∃ r : List Int, ∃ c' : Cur, CurOK c' ∧ (1 ≤ r.length ∧ r.length + 1 ≤ 2 ^ (d + 1)) ∧ (d ≤ 3 → ∀ kf, S54 N c (d : Int) kf = kf r c') := by
 intro d
 induction d with
 | zero =>
  intro N c hc hN _
  obtain ⟨N, rfl⟩ : ∃ j, N = j + 1 := ⟨N - 1, by omega⟩
  obtain ⟨v, c1, hc1, hv, e1⟩ := below (N := N) (n := 4) (by omega) (by omega) hc
  refine ⟨[v], c1, hc1, by simp, fun _ kf => ?_⟩
  unfold S54 S54_b
  rw [show (((0 : Nat) : Int) == 0) = true from rfl, cond_true, e1]
 | succ d ih =>
  intro N c hc hN hd
  obtain ⟨N, rfl⟩ : ∃ j, N = j + 1 := ⟨N - 1, by omega⟩
  have h0 : (((d + 1 : Nat) : Int) == 0) = false := by simp; omega
  have hw : IntKind.wrap .i64 (((d + 1 : Nat) : Int) - (1 : Int)) = (d : Int) := by rw [wrap64 (by omega) (by omega)]; omega
  have h2 : 2 ^ (d + 1 + 1) = 2 * 2 ^ (d + 1) := by rw [Nat.pow_succ]; omega
  have h1p : 2 ≤ 2 ^ (d + 1) := by rw [Nat.pow_succ]; have := Nat.one_le_two_pow (n := d); omega
  obtain ⟨b, c1, hc1, e1⟩ := once (N := N) (n := 4) (by omega) (by omega) hc
  cases b with
  | true =>
   obtain ⟨v, c2, hc2, hv, e2⟩ := below (N := N) (n := 4) (by omega) (by omega) hc1
   refine ⟨[v], c2, hc2, by simp; omega, fun _ kf => ?_⟩
   unfold S54 S54_b
   rw [h0, cond_false, e1, cond_true, e2]
  | false =>
   obtain ⟨b2, c2, hc2, e2⟩ := once (N := N) (n := 4) (by omega) (by omega) hc1
   obtain ⟨r, c3, hc3, hr, e3⟩ := ih N c2 hc2 (by omega) (by omega)
   have hr9 : d ≤ 3 → r.length ≤ 1000 := fun hd => by
    have : 2 ^ (d + 1) ≤ 2 ^ 4 := Nat.pow_le_pow_right (by decide) (by omega)
    have : 2 ^ 4 = 16 := rfl
    omega
   cases b2 with
   | true =>
    refine ⟨r ++ [(-1 : Int)], c3, hc3, by simp; omega, fun hd kf => ?_⟩
    have := hr9 (by omega)
    unfold S54 S54_b
    rw [h0, cond_false, e1, cond_false, e2, cond_true, hw, e3 (by omega), decide_eq_true (by simp; omega), cond_true]
   | false =>
    obtain ⟨q, c4, hc4, hq, e4⟩ := ih N c3 hc3 (by omega) (by omega)
    have hq9 : d ≤ 3 → q.length ≤ 1000 := fun hd => by
     have : 2 ^ (d + 1) ≤ 2 ^ 4 := Nat.pow_le_pow_right (by decide) (by omega)
     have : 2 ^ 4 = 16 := rfl
     omega
    obtain ⟨v, c5, hc5, hv, e5⟩ := below (N := N) (n := 3) (by omega) (by omega) hc4
    refine ⟨(r ++ q) ++ [(IntKind.wrap .i64 ((-2 : Int) - v))], c5, hc5, by simp; omega, fun hd kf => ?_⟩
    have := hr9 (by omega)
    have := hq9 (by omega)
    unfold S54 S54_b
    rw [h0, cond_false, e1, cond_false, e2, cond_false, hw, e3 (by omega), e4 (by omega), decide_eq_true (by omega), cond_true, e5, decide_eq_true (by simp; omega), cond_true]
theorem l10Any_draws {N : Nat} (hN : 200 < N) : Draws (S38 N) fun l => l.length ≤ 16 := fun c hc => by
 obtain ⟨r, c1, hc1, hr, e1⟩ := l10Draw_ok 3 N c hc (by omega) (by omega)
 have e1 := e1 (by omega)
 have hr16 : r.length ≤ 15 := by have := hr.2; have : 2 ^ (3 + 1) = 16 := rfl; omega
 obtain ⟨v, c2, hc2, hv, e2⟩ := below (N := N) (n := 10) (by omega) (by omega) hc1
 have e1' : ∀ kf, S54 N c (3 : Int) kf = kf r c1 := e1
 unfold S38
 simp only [e1', e2]
 cases v == 0
 rotate_left
 ·obtain ⟨i, c3, hc3, hi, e3⟩ := below (N := N) (n := (r.length : Int)) (by omega) (by omega) hc2
  obtain ⟨w, c4, hc4, hw, e4⟩ := oneOf (N := N) (l := [(-5 : Int), (-4 : Int), (5 : Int), (6 : Int), (9223372036854775807 : Int)]) (by simp) (by simp) hc3
  obtain ⟨k, rfl⟩ : ∃ k : Nat, i = (k : Int) := ⟨i.toNat, by omega⟩
  have hb : inB (k : Int) (List.length r) = true := inB_nat (by omega)
  refine ⟨_, c4, hc4, ?_, fun kf => by simp only [cond_true, e3, e4, hb]; rfl⟩
  rw [List.length_set]; omega
 cases v == 1
 rotate_left
 ·have hb : (decide ((0 : Int) ≤ (1 : Int)) && decide ((1 : Int) ≤ (List.length r : Int)) && decide ((List.length r : Int) ≤ (List.length r : Int))) = true := by
   rw [decide_eq_true (by omega), decide_eq_true (by omega), decide_eq_true (by omega)]; rfl
  refine ⟨List.drop (Int.toNat (1 : Int)) (List.take (Int.toNat (List.length r : Int)) r), c2, hc2, by rw [List.length_drop, List.length_take]; omega, fun kf => ?_⟩
  rw [cond_false, cond_true, hb, cond_true]
 ·exact ⟨r, c2, hc2, by omega, fun kf => by simp only [cond_false]⟩
theorem drawFT_ok {N : Nat} {a : List Int} (ha : a.length ≤ 1048576) (hN : 4000 < N) : ∃ f : List Int, f.length ≤ 16 ∧ ∀ kf, S11 N a kf = kf f := by
 obtain ⟨c, hc, e1⟩ := l1New_ok (N := N) ha (by omega)
 obtain ⟨g, c1, _, hg, e2⟩ := l10Any_draws (N := N) (by omega) c hc
 exact ⟨g, hg, fun kf => by unfold S11 S34; rw [e1, e2]⟩
theorem drawPF_ok {N : Nat} {a : List Int} (ha : a.length ≤ 1048576) (hN : 4000 < N) : ∃ s : ByteArray, ∀ kf, S16 N a kf = kf s := by
 obtain ⟨c, hc, e1⟩ := l1New_ok (N := N) ha (by omega)
 obtain ⟨f, c1, hc1, hf, e2⟩ := l10Any_draws (N := N) (by omega) c hc
 obtain ⟨s, hs, e3⟩ : ∃ s : ByteArray, s.size ≤ 1000 ∧ ∀ kf, S37 N f kf = kf s := by
  cases hF : isFm f with
  | false => exact ⟨s_e, by decide, fun kf => spec_FT_no (by omega) (by omega) hF⟩
  | true =>
   obtain ⟨t, ht, rfl⟩ := isFm_tree hF
   refine ⟨packB (txt t), ?_, fun kf => spec_FT_yes ht hF (by omega)⟩
   have := txt_le t
   rw [pack_size]
   omega
 have z0 : s_h29.size = 1 := rfl
 obtain ⟨u, c2, _, _, e4⟩ := l1Str_draws (N := N) (l := [s, s, s, (s ++ s_h29), s_h2861266229, s_h612662, s_h212161, s_h286129, s_g, s_e, s_h21, s_h28612629, s_h2828612662297c63, s_h28612a6229, s_h28613e28627c21632929]) (by simp) (by simp) c1 hc1
 refine ⟨u, fun kf => ?_⟩
 unfold S16
 rw [e1, e2, e3, decide_eq_true (by omega), cond_true]
 exact e4 _
theorem drawPT_ok {N : Nat} {a : List Int} (ha : a.length ≤ 1048576) (hN : 4000 < N) : ∃ x : Point, PtIn x ∧ ∀ kf, S17 N a kf = kf x := by
 obtain ⟨c, hc, e1⟩ := l1New_ok (N := N) ha (by omega)
 obtain ⟨l, c1, hc1, hl, e2⟩ := l13Any_draws (N := N) (by omega) c hc
 unfold S17
 simp only [e1, e2]
 by_cases h0 : (List.length l : Int) = 0
 ·refine ⟨((0 : Int), ((0 : Int), (0 : Int))), ⟨by decide, by decide, by decide, by decide⟩, fun kf => ?_⟩
  rw [show ((List.length l : Int) == 0) = true from beq_iff_eq.2 h0, cond_true]
 ·have hb : inB (0 : Int) (List.length l) = true := inB_nat (i := 0) (by omega)
  refine ⟨List.getD l (Int.toNat (0 : Int)) zQIIIE, ?_, fun kf => ?_⟩
  ·have : 0 < l.length := by omega
   exact hl.2 _ (by show l.getD 0 zQIIIE ∈ l; rw [getD_nat _ _ this]; exact List.getElem_mem this)
  ·rw [show ((List.length l : Int) == 0) = false from beq_eq_false_iff_ne.2 h0, cond_false, hb, cond_true]
theorem pointB_some {x : Point} (h : (inR x.2.1 1 2 && inR x.2.2 0 4) = true) : (ByteArray.toList (pointB x) == ByteArray.toList s_e) = false := by
 cases hq : (ByteArray.toList (pointB x) == ByteArray.toList s_e) with
 | false => rfl
 | true =>
  have := congrArg ByteArray.size (beqB_eq.1 hq)
  unfold pointB at this
  rw [h, cond_true] at this
  simp only [size_app] at this
  have c1 : s_h3a.size = 1 := rfl
  have c2 : s_e.size = 0 := rfl
  omega
theorem pointB_none {x : Point} (h : (inR x.2.1 1 2 && inR x.2.2 0 4) = false) : (ByteArray.toList (pointB x) == ByteArray.toList s_e) = true := by
 unfold pointB
 rw [h, cond_false]
 simp
theorem inR_no {a b c : Int} (h : ¬ (b ≤ a ∧ a ≤ c)) : inR a b c = false := by
 cases hq : inR a b c with
 | false => rfl
 | true => exact absurd (inR_iff.1 hq) h
theorem lawFnTexts (a : List Int) (h : wfs [.sl (.int .u8)] (a, ())) : ∃ N, ∀ kf, L3 N a kf = kf true := by
 obtain ⟨N, hN⟩ : ∃ N : Nat, N = 5000 := ⟨_, rfl⟩
 refine ⟨N, fun kf => ?_⟩
 by_cases hb : (List.length a : Int) > 1048576
 ·unfold L3 L3_g L3_s L4
  rw [decide_eq_true hb]; rfl
 have ha : a.length ≤ 1048576 := by omega
 have hbig : ∀ k : Bool → Option Ret, L4 N a k = k false := fun k => by
  unfold L4
  rw [decide_eq_false hb]
 have t6 : L3_j4_g L4 S5 I7 I6 I8 I9 S10 S11 I13 I12 I14 L15 S16 S17 I18 I19 N true kf = kf true := by
  unfold L3_j4_g
  rw [cond_true]
  show kf (ByteArray.toList s_h2d == ByteArray.toList s_h2d) = kf true
  rw [beq_self_eq_true]
 have t5 : ∀ (x : Point), PtIn x → ∀ (J : Bool → Option Ret), J true = kf true → L3_j5_s L4 S5 I7 I6 I8 I9 S10 S11 I13 I12 I14 L15 S16 S17 I18 I19 N x true kf J = kf true := fun x hx J hJ => by
  unfold L3_j5_s
  rw [cond_true, I18_ok ⟨by unfold I64; have := hx; unfold PtIn at this; omega, by unfold I64; have := hx; unfold PtIn at this; omega⟩ (by omega)]
  by_cases h1 : x.2.1 < 1
  ·rw [decide_eq_true h1, cond_true, pointB_none (by rw [inR_no (by omega)]; rfl)]
   exact hJ
  rw [decide_eq_false h1, cond_false]
  by_cases h2 : x.2.1 > 2
  ·rw [decide_eq_true h2, cond_true, pointB_none (by rw [inR_no (by omega)]; rfl)]
   exact hJ
  rw [decide_eq_false h2, cond_false]
  by_cases h3 : x.2.2 < 0
  ·rw [decide_eq_true h3, cond_true, pointB_none (by rw [inR_no (a := x.2.2) (by omega), Bool.and_false])]
   exact hJ
  rw [decide_eq_false h3, cond_false]
  by_cases h4 : x.2.2 > 4
  ·rw [decide_eq_true h4, pointB_none (by rw [inR_no (a := x.2.2) (by omega), Bool.and_false])]
   exact hJ
  ·rw [decide_eq_false h4, pointB_some (by rw [inR_iff.2 (by omega), inR_iff.2 (by omega)]; rfl)]
   exact hJ
 have t4 : ∀ (J : Point → Bool → Option Ret), (∀ x, PtIn x → J x true = kf true) → L3_j3_s L4 S5 I7 I6 I8 I9 S10 S11 I13 I12 I14 L15 S16 S17 I18 I19 N a kf J = kf true := fun J hJ => by
  obtain ⟨s, e1⟩ := drawPF_ok (N := N) ha (by omega)
  obtain ⟨x, hx, e2⟩ := drawPT_ok (N := N) ha (by omega)
  unfold L3_j3_s
  rw [e1]
  by_cases hq : ∃ t, AccF s t
  ·obtain ⟨t, ht⟩ := hq
   have h24 := isFm_len ht.2.1
   rw [impl_PF_yes ht (by omega), e2]
   simp only [Bool.not_true, cond_false]
   rw [impl_FT_yes ht.1 ht.2.1 (by omega), ← ht.2.2, beq_self_eq_true]
   exact hJ x hx
  ·rw [impl_PF_no (fun t ht => hq ⟨t, ht⟩) (by omega), e2]
   exact hJ x hx
 have t3 : ∀ (J : List Int → Option Ret), J a = kf true → L3_j2_s L4 S5 I7 I6 I8 I9 S10 S11 I13 I12 I14 L15 S16 S17 I18 I19 N a kf J = kf true := fun J hJ => by
  obtain ⟨f, hf, e1⟩ := drawFT_ok (N := N) ha (by omega)
  have hm := maxLen_eq
  unfold L3_j2_s
  rw [e1]
  have e2 : ∀ k, I14 N f k = k (isFm f) := fun k => I14_ok (by omega) (by omega)
  cases hF : isFm f with
  | false =>
   rw [impl_FT_no (by omega) (by omega) hF, impl_PF_no (fun t ht => by
    obtain ⟨b, r, hb⟩ := txt_cons t
    have := congrArg ByteArray.size ht.2.2
    rw [pack_size, hb] at this
    have c2 : s_e.size = 0 := rfl
    simp at this
    omega) (by omega), e2, hF]
   exact hJ
  | true =>
   obtain ⟨t, ht, rfl⟩ := isFm_tree hF
   rw [impl_FT_yes ht hF (by omega), impl_PF_yes ⟨ht, hF, rfl⟩ (by omega), e2, hF]
   simp only [beq_self_eq_true, Bool.not_true, cond_false, cond_true]
   rw [sameInts_ok (by omega) (by omega), decide_eq_true rfl]
   exact hJ
 have t2 : ∀ (J : List Int → Option Ret), J a = kf true → L3_j1_s L4 S5 I7 I6 I8 I9 S10 S11 I13 I12 I14 L15 S16 S17 I18 I19 N a kf J = kf true := fun J hJ => by
  obtain ⟨s, hs, e1⟩ := drawPG_ok (N := N) ha (by omega)
  unfold L3_j1_s
  rw [e1, I6_ok (by omega) (by omega)]
  cases hr : readOK s with
  | false => exact hJ
  | true =>
   have h64 : Graph64 (parseG s) := by
    have := readG_64 (s := s) (by omega)
    unfold parseG
    rw [hr, cond_true]
    exact this
   have hle : (parseG s).2.length ≤ s.size := by
    have h1 := parseG_size (s := s) (by omega)
    have h2 := sizeV_len (t := .sl (.int .i64)) (parseG s).2
    have h3 : sizeV tQILLIE (parseG s) = sizeV (.sl (.sl (.int .i64))) (parseG s).2 := by simp [sizeV]
    omega
   rw [cond_true, I7_ok h64 (by omega), read_same hr, beq_self_eq_true]
   exact hJ
 have t1 : ∀ (J : List Int → Option Ret), J a = kf true → L3_s L4 S5 I7 I6 I8 I9 S10 S11 I13 I12 I14 L15 S16 S17 I18 I19 N a kf J = kf true := fun J hJ => by
  obtain ⟨g, ⟨hl, hG⟩, e1⟩ := drawGT_ok (N := N) ha (by omega)
  have hle := graphM_le hG hl
  have e3 : ∀ k, I8 N g k = k (isGraphM g) := fun k => I8_ok (by omega) (by omega)
  unfold L3_s
  rw [hbig, cond_false, e1, I7_ok (graph_64 hG hl) (by omega), I6_ok (by omega) (by omega), e3]
  cases hg : isGraphM g with
  | false =>
   have : graphM g = s_e := by unfold graphM; rw [hg]; rfl
   rw [this, read_none]
   exact hJ
  | true =>
   obtain ⟨h1, h2⟩ := read_graph hg
   rw [h1, h2]
   simp only [beq_self_eq_true, Bool.not_true, cond_false, cond_true, partOf_self hg (show 1000 < N by omega)]
   exact hJ
 unfold L3 L3_g
 refine t1 _ ?_
 show L3_j1_g L4 S5 I7 I6 I8 I9 S10 S11 I13 I12 I14 L15 S16 S17 I18 I19 N a kf = kf true
 unfold L3_j1_g
 refine t2 _ ?_
 show L3_j2_g L4 S5 I7 I6 I8 I9 S10 S11 I13 I12 I14 L15 S16 S17 I18 I19 N a kf = kf true
 unfold L3_j2_g
 refine t3 _ ?_
 show L3_j3_g L4 S5 I7 I6 I8 I9 S10 S11 I13 I12 I14 L15 S16 S17 I18 I19 N a kf = kf true
 unfold L3_j3_g
 refine t4 _ fun x hx => ?_
 show L3_j5_g L4 S5 I7 I6 I8 I9 S10 S11 I13 I12 I14 L15 S16 S17 I18 I19 N x true kf = kf true
 unfold L3_j5_g
 exact t5 x hx _ t6
end Go.Pv.R
