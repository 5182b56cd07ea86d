/- The law over the plain functions. -/
import Derived.Test.YthdoldaaodmeeaaDoorPlHz
namespace Go.Pv.R
set_option linter.unusedVariables false
set_option linter.unusedSimpArgs false
end Go.Pv.R
namespace Go.Pv.R
set_option linter.unusedVariables false
set_option linter.unusedSimpArgs false
/-- What is asked first: is it all small? -/
theorem small_or {left : Int} {s : Nat} {A B : Option Ret} (h0 : 0 ≤ left) (h : (s : Int) ≤ left → B = A) : (bif decide (szr left s < 0) then A else B) = A := by
  by_cases hn : szr left s < 0
  · rw [decide_eq_true hn]; rfl
  · rw [decide_eq_false hn, cond_false]
    exact h (by have := (szr_neg (s := s) h0); omega)
end Go.Pv.R
namespace Go.Pv.R
set_option linter.unusedVariables false
set_option linter.unusedSimpArgs false
end Go.Pv.R
namespace Go.Pv
set_option linter.unusedVariables false
set_option linter.unusedSimpArgs false
end Go.Pv
namespace Go.Pv.R
set_option linter.unusedVariables false
set_option linter.unusedSimpArgs false
abbrev Team := QIIIIILIE
abbrev Team.met (x : Team) : List Int := x.2.2.2.2.2
theorem teams_small {l : List Team} {N : Nat} (hw : wf (.sl tQIIIIILIE) l) (hN : sizeV (.sl tQIIIIILIE) l < N) : ∀ x ∈ l, x.met.length ≤ maxLen ∧ x.met.length < N := fun x hx => by
  have h1 := sizeV_mem (t := tQIIIIILIE) hx
  have h2 : sizeV tQIIIIILIE x = sizeV (.sl (.int .i64)) x.2.2.2.2.2 := by simp [sizeV]
  have h3 := sizeV_len (t := .int .i64) x.2.2.2.2.2
  exact ⟨(hw.2 x hx).2.2.2.2.2.1, by show x.2.2.2.2.2.length < N; omega⟩
end Go.Pv.R
namespace Go.Pv
set_option linter.unusedVariables false
set_option linter.unusedSimpArgs false
/-- What a loop gathers. -/
def gatherI {α β : Type} (c : Nat → α → Bool) (f : Nat → α → β) : List α → Nat → List β
  | [], _ => []
  | x :: r, i => bif c i x then f i x :: gatherI c f r (i + 1) else gatherI c f r (i + 1)
theorem gatherI_len {α β : Type} {c : Nat → α → Bool} {f : Nat → α → β} : ∀ (l : List α) (i : Nat), (gatherI c f l i).length ≤ l.length
  | [], _ => Nat.le_refl _
  | x :: r, i => by
    simp only [gatherI]
    have := gatherI_len (c := c) (f := f) r (i + 1)
    cases c i x <;> simp <;> omega
theorem goL1_gather {α β : Type} {body : Nat → α → List β → (List β → Option Ret) → Option Ret} {kend : List β → Option Ret} {c : Nat → α → Bool} {f : Nat → α → β} {l : List α}
    (hb : ∀ (i : Nat) (x : α) (s : List β) (next : List β → Option Ret) (h : i < l.length), l[i] = x → s.length ≤ i → body i x s next = bif c i x then next (s ++ [f i x]) else next s) :
    ∀ (r : List α) (i : Nat) (s : List β), l.drop i = r → s.length ≤ i → goL1 body kend r i s = kend (s ++ gatherI c f r i)
  | [], i, s, _, _ => by simp [goL1, gatherI]
  | x :: r, i, s, hd, hs => by
    have hlt : i < l.length := by have := congrArg List.length hd; simp at this; omega
    rw [List.drop_eq_getElem_cons hlt] at hd
    injection hd with h1 h2
    simp only [goL1, gatherI]
    rw [hb i x s _ hlt h1 hs]
    cases c i x
    · rw [cond_false, cond_false]
      exact goL1_gather hb r (i + 1) s h2 (by omega)
    · rw [cond_true, cond_true, goL1_gather hb r (i + 1) (s ++ [f i x]) h2 (by simp; omega)]
      simp
theorem appOK {a b k : Nat} (h : a + b ≤ 4000000000000 / k) (hk : 0 < k) : decide ((a + b) * k ≤ 4398046511104) = true := by
  refine decide_eq_true ?_
  have := Nat.mul_le_mul_right k h
  have := Nat.div_mul_le_self 4000000000000 k
  omega
end Go.Pv
namespace Go.Pv.R
set_option linter.unusedVariables false
set_option linter.unusedSimpArgs false
abbrev Judge := QIILIE
theorem judges_small {l : List Judge} {N : Nat} (hw : wf (.sl tQIILIE) l) (hN : sizeV (.sl tQIILIE) l < N) : ∀ x ∈ l, x.2.2.length ≤ maxLen ∧ x.2.2.length < N := fun x hx => by
  have h1 := sizeV_mem (t := tQIILIE) hx
  have h2 : sizeV tQIILIE x = sizeV (.sl (.int .i64)) x.2.2 := by simp [sizeV]
  have h3 := sizeV_len (t := .int .i64) x.2.2
  exact ⟨(hw.2 x hx).2.2.1, by omega⟩
end Go.Pv.R
namespace Go.Pv.R
set_option linter.unusedVariables false
set_option linter.unusedSimpArgs false
abbrev Ballot := QIIIE
end Go.Pv.R
namespace Go.Pv.R
set_option linter.unusedVariables false
set_option linter.unusedSimpArgs false
abbrev Club := QLQIIIIILIELQIILIELQIIELILQIIIELQIIIIEIE
/-- A club that is small enough, and rounds enough. -/
structure ClubOK (c : Club) (N : Nat) : Prop where
  tl : c.1.length ≤ maxLen
  tm : ∀ x : Team, x ∈ c.1 → x.met.length ≤ maxLen ∧ x.met.length < N
  tN : c.1.length < N
  jl : c.2.1.length ≤ maxLen
  jm : ∀ x ∈ c.2.1, x.2.2.length ≤ maxLen ∧ x.2.2.length < N
  jN : c.2.1.length < N
  rl : c.2.2.1.length ≤ 1048576
  rN : 2 * c.2.2.1.length < N
  sl : c.2.2.2.1.length ≤ 1048576
  sN : c.2.2.2.1.length < N
  bl : c.2.2.2.2.1.length ≤ 1048576
  bN : c.2.2.2.2.1.length < N
  ml : c.2.2.2.2.2.1.length ≤ 1048576
  mN : c.2.2.2.2.2.1.length < N
  n8 : 8 < N
  tb : c.1.length ≤ 1048700
  tmb : ∀ x : Team, x ∈ c.1 → x.met.length ≤ 1048700
  jb : c.2.1.length ≤ 1048700
  jmb : ∀ x : Judge, x ∈ c.2.1 → x.2.2.length ≤ 1048700
theorem sizeV_club (c : Club) : sizeV tQLQIIIIILIELQIILIELQIIELILQIIIELQIIIIEIE c = sizeV (.sl tQIIIIILIE) c.1 + (sizeV (.sl tQIILIE) c.2.1 + (sizeV (.sl tQIIE) c.2.2.1 + (sizeV (.sl (.int .i64)) c.2.2.2.1 + (sizeV (.sl tQIIIE) c.2.2.2.2.1 + sizeV (.sl tQIIIIE) c.2.2.2.2.2.1)))) := rfl
theorem club_ok {c : Club} {N : Nat} (hw : wf tQLQIIIIILIELQIILIELQIIELILQIIIELQIIIIEIE c) (hb : sizeV tQLQIIIIILIELQIILIELQIIELILQIIIELQIIIIEIE c ≤ 1048576) (hN : 2 * sizeV tQLQIIIIILIELQIILIELQIIELILQIIIELQIIIIEIE c + 8 < N) : ClubOK c N := by
  have hs := sizeV_club c
  have h1 := sizeV_len (t := tQIIIIILIE) c.1
  have h2 := sizeV_len (t := tQIILIE) c.2.1
  have h3 := sizeV_len (t := tQIIE) c.2.2.1
  have h4 := sizeV_len (t := .int .i64) c.2.2.2.1
  have h5 := sizeV_len (t := tQIIIE) c.2.2.2.2.1
  have h6 := sizeV_len (t := tQIIIIE) c.2.2.2.2.2.1
  have hm := maxLen_eq
  exact ⟨by omega, teams_small hw.1 (by omega), by omega, by omega, judges_small hw.2.1 (by omega), by omega, by omega, by omega, by omega, by omega, by omega, by omega, by omega, by omega, by omega, by omega, fun x hx => by
    have q1 := sizeV_mem (t := tQIIIIILIE) hx
    have q2 : sizeV tQIIIIILIE x = sizeV (.sl (.int .i64)) x.2.2.2.2.2 := by simp [sizeV]
    have q3 := sizeV_len (t := .int .i64) x.2.2.2.2.2
    show x.2.2.2.2.2.length ≤ 1048700
    omega, by omega, fun x hx => by
    have q1 := sizeV_mem (t := tQIILIE) hx
    have q2 : sizeV tQIILIE x = sizeV (.sl (.int .i64)) x.2.2 := by simp [sizeV]
    have q3 := sizeV_len (t := .int .i64) x.2.2
    omega⟩
def emptyB (b : Ballot) : Bool := (decide ((b.1 : Int) = 0)) && ((decide ((b.2.1 : Int) = 0)) && (decide ((b.2.2 : Int) = 0)))
def waitM (c : Club) : List Int := gatherI (fun _ b => emptyB b) (fun i _ => (i : Int)) c.2.2.2.2.1 0
theorem spec_Waiting_ok {N : Nat} {c : Club} {kf : List Int → Option Ret} (h : ClubOK c N) : spec_Waiting N c kf = kf (waitM c) := by
  have hm := maxLen_eq
  have := h.bl
  unfold spec_Waiting
  rw [spec_Waiting_l4_r (by omega) h.bN, goL1_gather (l := c.2.2.2.2.1) (c := fun _ b => emptyB b) (f := fun i _ => (i : Int)) (fun i b s next hi e hs => ?_) c.2.2.2.2.1 0 [] rfl (by simp), List.nil_append]
  · rfl
  · have hok : decide ((List.length s + List.length [(i : Int)]) * 1 ≤ 4398046511104) = true := decide_eq_true (by simp; omega)
    rw [hok, cond_true]
    rfl
theorem impl_Waiting_ok {N : Nat} {c : Club} {kf : List Int → Option Ret} (h : ClubOK c N) : impl_Waiting N c kf = kf (waitM c) := by
  have hm := maxLen_eq
  have := h.bl
  unfold impl_Waiting
  rw [impl_Waiting_l3_r (by omega) h.bN, goL1_gather (l := c.2.2.2.2.1) (c := fun _ b => emptyB b) (f := fun i _ => (i : Int)) (fun i b s next hi e hs => ?_) c.2.2.2.2.1 0 [] rfl (by simp), List.nil_append]
  · rfl
  · have hok : decide ((List.length s + List.length [(i : Int)]) * 1 ≤ 4398046511104) = true := decide_eq_true (by simp; omega)
    rw [hok, cond_true]
    rfl
end Go.Pv.R
namespace Go.Pv
set_option linter.unusedVariables false
set_option linter.unusedSimpArgs false
end Go.Pv
namespace Go.Pv.R
set_option linter.unusedVariables false
set_option linter.unusedSimpArgs false
end Go.Pv.R
namespace Go.Pv.R
set_option linter.unusedVariables false
set_option linter.unusedSimpArgs false
theorem waitM_len (c : Club) : (waitM c).length ≤ c.2.2.2.2.1.length := gatherI_len _ _
end Go.Pv.R
namespace Go.Pv.R
set_option linter.unusedVariables false
set_option linter.unusedSimpArgs false
end Go.Pv.R
namespace Go.Pv
set_option linter.unusedVariables false
set_option linter.unusedSimpArgs false
end Go.Pv
namespace Go.Pv.R
set_option linter.unusedVariables false
set_option linter.unusedSimpArgs false
end Go.Pv.R
namespace Go.Pv.R
set_option linter.unusedVariables false
set_option linter.unusedSimpArgs false
end Go.Pv.R
namespace Go.Pv.R
set_option linter.unusedVariables false
set_option linter.unusedSimpArgs false
end Go.Pv.R
namespace Go.Pv.R
set_option linter.unusedVariables false
set_option linter.unusedSimpArgs false
end Go.Pv.R
namespace Go.Pv.R
set_option linter.unusedVariables false
set_option linter.unusedSimpArgs false
theorem appB (a b : List UInt8) : (⟨a.toArray⟩ ++ ⟨b.toArray⟩ : ByteArray) = ⟨(a ++ b).toArray⟩ := by
  apply ByteArray.ext
  rw [ByteArray.data_append]
  simp
theorem nilB (b : ByteArray) : (⟨#[]⟩ : ByteArray) ++ b = b := by
  apply ByteArray.ext
  rw [ByteArray.data_append]
  simp
theorem sizeL (l : List UInt8) : ByteArray.size ⟨l.toArray⟩ = l.length := by simp [ByteArray.size]
/-- The digits of what is left; none of nothing. -/
def dg (u : Nat) : List UInt8 := if u = 0 then [] else Lib.decDigits u
theorem dg_step {u : Nat} (h : u ≠ 0) : dg u = dg (u / 10) ++ [UInt8.ofNat (48 + u % 10)] := by
  unfold dg
  rw [if_neg h]
  rw [Lib.decDigits]
  by_cases h1 : u < 10
  · rw [dif_pos h1, if_pos (by omega), Nat.mod_eq_of_lt h1]
    rfl
  · rw [dif_neg h1, if_neg (by omega)]
theorem decDigits_len : ∀ (m u : Nat), u < 10 ^ (m + 1) → (Lib.decDigits u).length ≤ m + 1 := by
  intro m
  induction m with
  | zero =>
    intro u hu
    rw [Lib.decDigits, dif_pos (by omega)]
    simp
  | succ m ih =>
    intro u hu
    rw [Lib.decDigits]
    by_cases h1 : u < 10
    · rw [dif_pos h1]; simp
    · rw [dif_neg h1]
      have := ih (u / 10) (by rw [Nat.pow_succ] at hu; omega)
      simp only [List.length_append, List.length_cons, List.length_nil]
      omega
def I64 (n : Int) : Prop := -9223372036854775808 ≤ n ∧ n ≤ 9223372036854775807
theorem itoaB_size {n : Int} (h : I64 n) : (itoaB n).size ≤ 20 := by
  unfold itoaB
  rw [sizeL]
  unfold Lib.itoa
  obtain ⟨h1, h2⟩ := h
  split
  · have := decDigits_len 18 n.natAbs (by omega)
    simp only [List.length_cons]
    omega
  · have := decDigits_len 18 n.toNat (by omega)
    omega
theorem digit_eq {d : Nat} (h : d < 10) : bytesOf [IntKind.wrap .u8 (IntKind.wrap .i64 ((48 : Int) + (d : Int)))] = ⟨[UInt8.ofNat (48 + d)].toArray⟩ := by
  have h1 : IntKind.wrap .i64 ((48 : Int) + (d : Int)) = 48 + (d : Int) := wrap64 (by omega) (by omega)
  have h2 : IntKind.wrap .u8 ((48 : Int) + (d : Int)) = 48 + (d : Int) := by
    have hd : d = 0 ∨ d = 1 ∨ d = 2 ∨ d = 3 ∨ d = 4 ∨ d = 5 ∨ d = 6 ∨ d = 7 ∨ d = 8 ∨ d = 9 := by omega
    rcases hd with rfl | rfl | rfl | rfl | rfl | rfl | rfl | rfl | rfl | rfl <;> rfl
  rw [h1, h2]
  have h3 : ((48 : Int) + (d : Int)).toNat = 48 + d := by omega
  simp only [bytesOf, List.foldl_cons, List.foldl_nil, h3]
  apply ByteArray.ext
  rw [ByteArray.data_push]
  rfl
theorem ten_both (x : Int) : (0 ≤ x ∧ Int.tdiv x 10 = x / 10 ∧ Int.tmod x 10 = x % 10) ∨ (x < 0 ∧ Int.tdiv x 10 = -((-x) / 10) ∧ Int.tmod x 10 = -((-x) % 10)) := by
  by_cases h : 0 ≤ x
  · exact .inl ⟨h, Int.tdiv_eq_ediv_of_nonneg h, Int.tmod_eq_emod_of_nonneg h⟩
  · refine .inr ⟨by omega, ?_, ?_⟩
    · have h1 := Int.neg_tdiv (-x) 10
      rw [Int.neg_neg] at h1
      rw [h1, Int.tdiv_eq_ediv_of_nonneg (by omega)]
    · have h1 := Int.neg_tmod (-x) 10
      rw [Int.neg_neg] at h1
      rw [h1, Int.tmod_eq_emod_of_nonneg (by omega)]
theorem fmt_loop {x0 : Int} {k : ByteArray → Option Ret} : ∀ (m n : Nat) (x : Int) (acc : ByteArray), x.natAbs < 10 ^ m → m < n → I64 x → acc.size + m ≤ 1000 → spec_FormatInt_l5 x0 n k acc x = k (⟨(dg x.natAbs).toArray⟩ ++ acc) := by
  intro m
  induction m with
  | zero =>
    intro n x acc hx hn hr hs
    obtain ⟨n, rfl⟩ : ∃ n', n = n' + 1 := ⟨n - 1, by omega⟩
    have : x = 0 := by omega
    subst this
    simp only [spec_FormatInt_l5, bne_self_eq_false, cond_false]
    show k acc = k (⟨#[]⟩ ++ acc)
    rw [nilB]
  | succ m ih =>
    intro n x acc hx hn hr hs
    obtain ⟨n, rfl⟩ : ∃ n', n = n' + 1 := ⟨n - 1, by omega⟩
    by_cases h0 : x = 0
    · subst h0
      simp only [spec_FormatInt_l5, bne_self_eq_false, cond_false]
      show k acc = k (⟨#[]⟩ ++ acc)
      rw [nilB]
    · have hne : (x != (0 : Int)) = true := by simpa using h0
      obtain ⟨hr1, hr2⟩ := hr
      have hu : x.natAbs ≠ 0 := by omega
      have hd : x.natAbs % 10 < 10 := by omega
      have hq : (Int.tdiv x 10).natAbs = x.natAbs / 10 := by
        rw [Int.natAbs_tdiv]
        rfl
      have ht := Int.mul_tdiv_add_tmod x 10
      have hb : -9223372036854775808 ≤ Int.tdiv x 10 ∧ Int.tdiv x 10 ≤ 9223372036854775807 := by omega
      have hj : spec_FormatInt_j1 (spec_FormatInt_l5 x0 n k) acc x ((x.natAbs % 10 : Nat) : Int) = k (⟨(dg x.natAbs).toArray⟩ ++ acc) := by
        unfold spec_FormatInt_j1
        rw [digit_eq hd, sizeL, decide_eq_true (by simp only [List.length_cons, List.length_nil]; omega), cond_true, wrap64 (by omega) (by omega), ih n _ _ (by rw [hq, Nat.pow_succ] at *; omega) (by omega) hb (by rw [ByteArray.size_append, sizeL]; simp only [List.length_cons, List.length_nil]; omega), hq, ← ByteArray.append_assoc, appB (dg (x.natAbs / 10)) [UInt8.ofNat (48 + x.natAbs % 10)], ← dg_step hu]
      simp only [spec_FormatInt_l5, hne, cond_true]
      by_cases hneg : Int.tmod x 10 < 0
      · rw [decide_eq_true hneg, cond_true]
        have e : IntKind.wrap .i64 (0 - Int.tmod x 10) = ((x.natAbs % 10 : Nat) : Int) := by
          rcases ten_both x with ⟨q1, q2, q3⟩ | ⟨q1, q2, q3⟩
          · omega
          · rw [q3, wrap64 (by omega) (by omega)]
            omega
        rw [e]
        exact hj
      · rw [decide_eq_false hneg, cond_false]
        have e : Int.tmod x 10 = ((x.natAbs % 10 : Nat) : Int) := by
          rcases ten_both x with ⟨q1, q2, q3⟩ | ⟨q1, q2, q3⟩ <;> omega
        rw [e]
        exact hj
theorem spec_FormatInt_ok {N : Nat} {n : Int} {kf : ByteArray → Option Ret} (h : I64 n) (hN : 20 < N) : spec_FormatInt N n kf = kf (itoaB n) := by
  unfold spec_FormatInt
  obtain ⟨h1, h2⟩ := h
  by_cases h0 : n = 0
  · subst h0
    have e : itoaB 0 = s_0 := by
      unfold itoaB Lib.itoa
      rw [if_neg (by decide), Lib.decDigits, dif_pos (by decide)]
      rfl
    rw [e]
    rfl
  · have hne : (n == (0 : Int)) = false := beq_eq_false_iff_ne.2 h0
    rw [hne, cond_false, fmt_loop 19 N n _ (by omega) (by omega) ⟨h1, h2⟩ (by show (0 : Nat) + 19 ≤ 1000; omega)]
    have hl := decDigits_len 18 n.natAbs (by omega)
    have hdg : dg n.natAbs = Lib.decDigits n.natAbs := by unfold dg; rw [if_neg (by omega)]
    have hs : (⟨(dg n.natAbs).toArray⟩ ++ s_e : ByteArray) = ⟨(Lib.decDigits n.natAbs).toArray⟩ := by
      rw [hdg]
      show _ ++ (⟨([] : List UInt8).toArray⟩ : ByteArray) = _
      rw [appB, List.append_nil]
    rw [hs]
    by_cases hneg : n < 0
    · rw [decide_eq_true hneg, cond_true]
      have e1 : s_h2d = ⟨[(45 : UInt8)].toArray⟩ := rfl
      rw [e1, sizeL, sizeL, decide_eq_true (by simp only [List.length_cons, List.length_nil]; omega), cond_true, appB]
      unfold itoaB Lib.itoa
      rw [if_pos hneg]
      rfl
    · rw [decide_eq_false hneg, cond_false]
      unfold itoaB Lib.itoa
      rw [if_neg hneg]
      have : n.natAbs = n.toNat := by omega
      rw [this]
theorem impl_FormatInt_ok {N : Nat} {n : Int} {kf : ByteArray → Option Ret} (h : I64 n) : impl_FormatInt N n kf = kf (itoaB n) := by
  unfold impl_FormatInt strconv_Itoa
  rw [decide_eq_true h.1, decide_eq_true h.2]
  rfl
end Go.Pv.R
namespace Go.Pv.R
set_option linter.unusedVariables false
set_option linter.unusedSimpArgs false
theorem bext {a b : ByteArray} (h : a.data.toList = b.data.toList) : a = b := ByteArray.ext (Array.ext' h)
theorem data_app (a b : ByteArray) : (a ++ b).data.toList = a.data.toList ++ b.data.toList := by rw [ByteArray.data_append, Array.toList_append]
theorem size_app (a b : ByteArray) : (a ++ b).size = a.size + b.size := ByteArray.size_append
/-- The texts behind the first one. -/
def tailB (sep : ByteArray) (r : List ByteArray) : ByteArray := ⟨(Lib.joinTail sep.data.toList (r.map (·.data.toList))).toArray⟩
theorem tailB_cons (sep x : ByteArray) (r : List ByteArray) (s : ByteArray) : ((s ++ sep) ++ x) ++ tailB sep r = s ++ tailB sep (x :: r) := by
  apply bext
  simp only [data_app, tailB, Lib.joinTail, List.map_cons, List.flatten_cons, List.append_assoc]
theorem tailB_nil (sep s : ByteArray) : s ++ tailB sep [] = s := by
  apply bext
  simp [data_app, tailB, Lib.joinTail]
theorem joinB_cons (sep x : ByteArray) (r : List ByteArray) : joinB (x :: r) sep = x ++ tailB sep r := by
  apply bext
  simp only [data_app, tailB, joinB, List.map_cons, Lib.join_cons]
theorem tailB_size (sep : ByteArray) : ∀ (r : List ByteArray) (m : Nat), (∀ y ∈ r, y.size ≤ m) → (tailB sep r).size ≤ (sep.size + m) * r.length
  | [], m, _ => by show (0 : Nat) ≤ _; omega
  | x :: r, m, h => by
    have ih := tailB_size sep r m (fun y hy => h y (by simp [hy]))
    have hx := h x (by simp)
    have e : tailB sep (x :: r) = (sep ++ x) ++ tailB sep r := by
      apply bext
      simp only [data_app, tailB, Lib.joinTail, List.map_cons, List.flatten_cons, List.append_assoc]
    rw [e, size_app, size_app, List.length_cons, Nat.mul_succ]
    omega
theorem joinB_size {sep : ByteArray} {r : List ByteArray} {m : Nat} (h : ∀ y ∈ r, y.size ≤ m) : (joinB r sep).size ≤ (sep.size + m) * r.length := by
  cases r with
  | nil => show (0 : Nat) ≤ _; omega
  | cons x r =>
    rw [joinB_cons, size_app, List.length_cons, Nat.mul_succ]
    have := tailB_size sep r m (fun y hy => h y (by simp [hy]))
    have := h x (by simp)
    omega
/-- A loop that joins. -/
theorem join_tail {sep : ByteArray} {body : Nat → ByteArray → ByteArray → (ByteArray → Option Ret) → Option Ret} {k : ByteArray → Option Ret} {m L : Nat} (hL : (sep.size + m) * (L + 1) ≤ 9000000000000000000)
    (hb : ∀ (i : Nat) (x s : ByteArray) (next : ByteArray → Option Ret), 0 < i → (s ++ sep).size ≤ 9223372036854775807 → ((s ++ sep) ++ x).size ≤ 9223372036854775807 → body i x s next = next ((s ++ sep) ++ x)) :
    ∀ (r : List ByteArray) (i : Nat) (s : ByteArray), 0 < i → i + r.length ≤ L → (∀ y ∈ r, y.size ≤ m) → s.size ≤ (sep.size + m) * i → goL1 body k r i s = k (s ++ tailB sep r)
  | [], i, s, _, _, _, _ => by rw [tailB_nil]; rfl
  | x :: r, i, s, hi, hl, hr, hs => by
    have hx := hr x (by simp)
    simp only [List.length_cons] at hl
    have h1 : (sep.size + m) * (i + 1) ≤ (sep.size + m) * (L + 1) := Nat.mul_le_mul_left _ (by omega)
    rw [Nat.mul_succ] at h1
    simp only [goL1]
    rw [hb i x s _ hi (by rw [size_app]; omega) (by rw [size_app, size_app]; omega), join_tail hL hb r (i + 1) _ (by omega) (by omega) (fun y hy => hr y (by simp [hy])) (by rw [size_app, size_app, Nat.mul_succ]; omega), tailB_cons]
noncomputable def joinM (l : List ByteArray) : ByteArray := match l with
  | [] => s_h2d
  | x :: r => joinB (x :: r) s_h20
theorem spec_l39Join_ok {N : Nat} {l : List ByteArray} {kf : ByteArray → Option Ret} (hm : ∀ y ∈ l, y.size ≤ 200) (hl : l.length ≤ 1048576) (hN : l.length < N) : spec_l39Join N l kf = kf (joinM l) := by
  have h0 := maxLen_eq
  unfold spec_l39Join
  rw [spec_l39Join_l3_r (by omega) hN]
  cases l with
  | nil => rfl
  | cons x r =>
    have hx := hm x (by simp)
    simp only [List.length_cons] at hl
    have e1 : s_h20.size = 1 := rfl
    have e0 : s_e.size = 0 := rfl
    simp only [goL1]
    rw [decide_eq_false (by omega), cond_false, decide_eq_true (by omega), cond_true, join_tail (sep := s_h20) (m := 200) (L := 1048577) (by omega) (fun i x s next hi h1 h2 => ?_) r (0 + 1) _ (by omega) (by omega) (fun y hy => hm y (by simp [hy])) (by rw [size_app]; omega)]
    · have e2 : ((List.length (x :: r) : Int) == (0 : Int)) = false := beq_eq_false_iff_ne.2 (by simp only [List.length_cons]; omega)
      rw [e2, cond_false]
      show _ = kf (joinB (x :: r) s_h20)
      rw [joinB_cons]
      congr 1
    · rw [size_app] at h1 h2
      rw [decide_eq_true (by omega), cond_true, decide_eq_true (by omega), decide_eq_true (by omega)]
      rfl
theorem impl_joined_ok {N : Nat} {l : List ByteArray} {kf : ByteArray → Option Ret} (hm : ∀ y ∈ l, y.size ≤ 200) (hl : l.length ≤ 1048576) : impl_joined N l kf = kf (joinM l) := by
  unfold impl_joined
  cases l with
  | nil => rfl
  | cons x r =>
    have e2 : ((List.length (x :: r) : Int) == (0 : Int)) = false := beq_eq_false_iff_ne.2 (by simp only [List.length_cons]; omega)
    rw [e2, cond_false]
    unfold strings_Join joinM
    have h1 := joinB_size (sep := s_h20) hm
    have e1 : s_h20.size = 1 := rfl
    have h2 : (s_h20.size + 200) * (x :: r).length ≤ (s_h20.size + 200) * 1048576 := Nat.mul_le_mul_left _ hl
    have e3 : Nat.ble (List.length (x :: r)) 140737488355328 = true := by rw [Nat.ble_eq]; omega
    have e4 : Nat.ble (ByteArray.size (joinB (x :: r) s_h20)) 140737488355328 = true := by rw [Nat.ble_eq]; omega
    rw [e3, e4]
    rfl
theorem gatherI_mem {α β : Type} {c : Nat → α → Bool} {f : Nat → α → β} {y : β} : ∀ {l : List α} {i : Nat}, y ∈ gatherI c f l i → ∃ j x, x ∈ l ∧ y = f j x
  | [], i, h => by simp [gatherI] at h
  | x :: r, i, h => by
    simp only [gatherI] at h
    cases hc : c i x with
    | true =>
      rw [hc, cond_true] at h
      rcases List.mem_cons.1 h with rfl | h
      · exact ⟨i, x, by simp, rfl⟩
      · obtain ⟨j, z, hz, e⟩ := gatherI_mem h
        exact ⟨j, z, by simp [hz], e⟩
    | false =>
      rw [hc, cond_false] at h
      obtain ⟨j, z, hz, e⟩ := gatherI_mem h
      exact ⟨j, z, by simp [hz], e⟩
def numsM (l : List Int) : List ByteArray := gatherI (fun _ _ => true) (fun _ x => itoaB x) l 0
theorem i64_of {n : Int} (h : wf (.int .i64) n) : I64 n := by
  simp only [wf, Lit.wf, IntKind.min, IntKind.max, IntKind.signed, IntKind.bits, Bool.and_eq_true, decide_eq_true_eq, if_true] at h
  unfold I64
  omega
theorem numsM_ok {l : List Int} (h : ∀ x ∈ l, I64 x) (hl : l.length ≤ 1048576) : (∀ y ∈ numsM l, y.size ≤ 200) ∧ (numsM l).length ≤ 1048576 := by
  have := gatherI_len (c := fun _ _ => true) (f := fun _ (x : Int) => itoaB x) l 0
  refine ⟨fun y hy => ?_, by unfold numsM; omega⟩
  obtain ⟨j, x, hx, rfl⟩ := gatherI_mem hy
  have := itoaB_size (h x hx)
  omega
theorem spec_FormatNumbers_ok {N : Nat} {l : List Int} {kf : ByteArray → Option Ret} (h : ∀ x ∈ l, I64 x) (hl : l.length ≤ 1048576) (hN : l.length + 20 < N) : spec_FormatNumbers N l kf = kf (joinM (numsM l)) := by
  have h0 := maxLen_eq
  have hlen := gatherI_len (c := fun _ _ => true) (f := fun _ (x : Int) => itoaB x) l 0
  unfold spec_FormatNumbers
  rw [spec_FormatNumbers_l3_r (by omega) (by omega), goL1_gather (l := l) (c := fun _ _ => true) (f := fun _ x => itoaB x) (fun i x s next hi e hs => ?_) l 0 [] rfl (by simp)]
  · rw [List.nil_append]
    exact spec_l39Join_ok (numsM_ok h hl).1 (numsM_ok h hl).2 (by show (gatherI _ _ l 0).length < N; omega)
  · rw [spec_FormatInt_ok (h x (by rw [← e]; exact List.getElem_mem hi)) (by omega), appOK (by simp only [List.length_cons, List.length_nil]; omega) (by decide)]
    rfl
theorem impl_FormatNumbers_ok {N : Nat} {l : List Int} {kf : ByteArray → Option Ret} (h : ∀ x ∈ l, I64 x) (hl : l.length ≤ 1048576) (hN : l.length + 20 < N) : impl_FormatNumbers N l kf = kf (joinM (numsM l)) := by
  have h0 := maxLen_eq
  have hlen := gatherI_len (c := fun _ _ => true) (f := fun _ (x : Int) => itoaB x) l 0
  unfold impl_FormatNumbers
  rw [impl_FormatNumbers_l3_r (by omega) (by omega), goL1_gather (l := l) (c := fun _ _ => true) (f := fun _ x => itoaB x) (fun i x s next hi e hs => ?_) l 0 [] rfl (by simp)]
  · rw [List.nil_append]
    exact impl_joined_ok (numsM_ok h hl).1 (numsM_ok h hl).2
  · rw [impl_FormatInt_ok (h x (by rw [← e]; exact List.getElem_mem hi)), appOK (by simp only [List.length_cons, List.length_nil]; omega) (by decide)]
    rfl
end Go.Pv.R
namespace Go.Pv.R
set_option linter.unusedVariables false
set_option linter.unusedSimpArgs false
theorem len64 {n : Nat} (h : n ≤ maxLen) : I64 (n : Int) := by
  have := maxLen_eq
  exact ⟨by omega, by omega⟩
theorem clubNums {c : Club} {N : Nat} (h : ClubOK c N) (hp : I64 c.2.2.2.2.2.2) : ∀ x ∈ [(List.length c.1 : Int), (List.length c.2.1 : Int), (List.length c.2.2.1 : Int), (List.length (waitM c) : Int), c.2.2.2.2.2.2, (List.length c.2.2.2.2.2.1 : Int)], I64 x := by
  have h0 := maxLen_eq
  have h1 := waitM_len c
  have h2 := h.bl
  have h3 := h.rl
  have h4 := h.ml
  intro x hx
  simp only [List.mem_cons, List.mem_nil_iff, or_false] at hx
  rcases hx with rfl | rfl | rfl | rfl | rfl | rfl
  · exact len64 h.tl
  · exact len64 h.jl
  · exact len64 (by omega)
  · exact len64 (by omega)
  · exact hp
  · exact len64 (by omega)
theorem lawFnExactFormatClub (c : Club) (h : wfs [tQLQIIIIILIELQIILIELQIIELILQIIIELQIIIIEIE] (c, ())) : ∃ N, ∀ kf, laws_FnExactFormatClub N c kf = kf true := by
  refine ⟨2 * sizeV tQLQIIIIILIELQIILIELQIIELILQIIIELQIIIIEIE c + 300, fun kf => ?_⟩
  have hw : wf tQLQIIIIILIELQIILIELQIIELILQIIIELQIIIIEIE c := h.1
  unfold laws_FnExactFormatClub
  rw [laws_szClub_ok hw (by omega) (by omega) (by omega)]
  refine small_or (by omega) fun hb => ?_
  have hc := club_ok (N := 2 * sizeV tQLQIIIIILIELQIILIELQIIELILQIIIELQIIIIEIE c + 300) hw (by omega) (by omega)
  have hp : I64 c.2.2.2.2.2.2 := i64_of hw.2.2.2.2.2.2
  have hn := clubNums hc hp
  generalize hN : 2 * sizeV tQLQIIIIILIELQIILIELQIIELILQIIIELQIIIIEIE c + 300 = N at *
  have h1 : ∀ k, laws_toClub N c k = k c := fun k => laws_toClub_ok (by omega) (by omega)
  have h2 : ∀ k, spec_FormatClub N c k = k (joinM (numsM [(List.length c.1 : Int), (List.length c.2.1 : Int), (List.length c.2.2.1 : Int), (List.length (waitM c) : Int), c.2.2.2.2.2.2, (List.length c.2.2.2.2.2.1 : Int)])) := fun k => by
    unfold spec_FormatClub
    rw [spec_Waiting_ok hc]
    exact spec_FormatNumbers_ok hn (by simp) (by simp only [List.length_cons, List.length_nil]; omega)
  have h3 : ∀ k, impl_FormatClub N c k = k (joinM (numsM [(List.length c.1 : Int), (List.length c.2.1 : Int), (List.length c.2.2.1 : Int), (List.length (waitM c) : Int), c.2.2.2.2.2.2, (List.length c.2.2.2.2.2.1 : Int)])) := fun k => by
    unfold impl_FormatClub
    rw [impl_Waiting_ok hc]
    exact impl_FormatNumbers_ok hn (by simp) (by simp only [List.length_cons, List.length_nil]; omega)
  have h4 : ∀ k, laws_eqClub N c c k = k true := fun k => laws_eqClub_ok (by omega) (by omega)
  simp only [h1, h2, h3, h4, beq_self_eq_true, Bool.not_true, cond_false]
end Go.Pv.R
namespace Go.Pv.R
set_option linter.unusedVariables false
set_option linter.unusedSimpArgs false
end Go.Pv.R
namespace Go.Pv.R
set_option linter.unusedVariables false
set_option linter.unusedSimpArgs false
end Go.Pv.R
namespace Go.Pv.R
set_option linter.unusedVariables false
set_option linter.unusedSimpArgs false
end Go.Pv.R
namespace Go.Pv.R
set_option linter.unusedVariables false
set_option linter.unusedSimpArgs false
end Go.Pv.R
namespace Go.Pv.R
set_option linter.unusedVariables false
set_option linter.unusedSimpArgs false
end Go.Pv.R
