/- The law over the plain functions. -/
import Derived.Test.YtcpakhaogbempaaGreatPlHz
namespace Go.Pv.R
set_option linter.unusedVariables false
set_option linter.unusedSimpArgs false
end Go.Pv.R
namespace Go.Pv.R
set_option linter.unusedVariables false
set_option linter.unusedSimpArgs false
theorem S195_ok {N : Nat} {a b c : Int} {kf : Bool → Option Ret} : S195 N a b c kf = kf (inR a b c) := by
 unfold S195 inR
 by_cases h : b ≤ a <;> simp [h]
theorem I144_ok {N : Nat} {a b c : Int} {kf : Bool → Option Ret} : I144 N a b c kf = kf (inR a b c) := by
 unfold I144 inR
 by_cases h : b ≤ a <;> simp [h]
theorem small_or {left : Int} {s : Nat} {A B : Option Ret} (h0 : 0 ≤ left) (h : (s : Int) ≤ left → B = A) : (bif decide (szr left s < 0) then A else B) = A := by
 by_cases hn : szr left s < 0
 ·rw [decide_eq_true hn]; rfl
 ·rw [decide_eq_false hn, cond_false]
  exact h (by have := (szr_neg (s := s) h0); omega)
end Go.Pv.R
namespace Go.Pv.R
set_option linter.unusedVariables false
set_option linter.unusedSimpArgs false
theorem tmod_both (a : Int) : (a.tmod 2147483647 = a % 2147483647 ∧ 0 ≤ a) ∨ (a.tmod 2147483647 = -((-a) % 2147483647) ∧ a < 0) := by
 rcases Int.lt_or_le a 0 with h | h
 ·right
  refine ⟨?_, h⟩
  have h1 : (-a).tmod 2147483647 = (-a) % 2147483647 := Int.tmod_eq_emod_of_nonneg (by omega)
  rw [Int.neg_tmod] at h1
  omega
 ·exact .inl ⟨Int.tmod_eq_emod_of_nonneg h, h⟩
theorem S261_ok {N : Nat} {a : Int} {kf : Int → Option Ret} : S261 N a 2147483647 kf = kf (a % 2147483647) := by
 unfold S261
 rw [S195_ok, show inR 2147483647 1 1000000000000 = true from by decide]
 have e : (decide ((2147483647 : Int) = 0)) = false := by decide
 simp only [Bool.not_true, cond_false, e, Bool.not_false, cond_true]
 congr 1
 rcases tmod_both a with ⟨h, h'⟩ | ⟨h, h'⟩ <;> rw [h, wrap64 (by omega) (by omega), Int.tmod_eq_emod_of_nonneg (by omega)] <;> omega
theorem I262_ok {N : Nat} {a : Int} {kf : Int → Option Ret} : I262 N a 2147483647 kf = kf (a % 2147483647) := by
 unfold I262
 rw [I144_ok, show inR 2147483647 1 1000000000000 = true from by decide]
 have e : (decide ((2147483647 : Int) = 0)) = false := by decide
 simp only [Bool.not_true, cond_false, e, Bool.not_false, cond_true]
 rcases tmod_both a with ⟨h, h'⟩ | ⟨h, h'⟩ <;> rw [h]
 ·rw [decide_eq_false (by omega), cond_false]
 ·by_cases hz : -((-a) % 2147483647) < 0
  ·rw [decide_eq_true hz, cond_true, wrap64 (by omega) (by omega)]
   congr 1
   omega
  ·rw [decide_eq_false hz, cond_false]
   congr 1
   omega
def foldM (i : Nat) (x s : Int) : Int := Int.tmod (IntKind.wrap .i64 ((IntKind.wrap .i64 ((IntKind.wrap .i64 (s * (1000003 : Int))) + x % 2147483647)) + (13 : Int))) (2147483647 : Int)
def hashM (l : List Int) : Int := foldI foldM l 0 11
theorem S248_ok {N : Nat} {l : List Int} {kf : Int → Option Ret} (hl : l.length ≤ maxLen) (hN : l.length < N) : S248 N l kf = kf (hashM l) := by
 unfold S248
 rw [S248_l3_r hl hN, goL1_f foldM (fun i x s next h e => by rw [S261_ok]; rfl)]
 rfl
theorem I219_ok {N : Nat} {l : List Int} {kf : Int → Option Ret} (hl : l.length ≤ maxLen) (hN : l.length < N) : I219 N l kf = kf (hashM l) := by
 unfold I219
 rw [I219_l3_r hl hN, goL1_f foldM (fun i x s next h e => by unfold I249; rw [I262_ok]; rfl)]
 rfl
def sealM (s : Int) (x : QIIIIE) : Int := hashM [s, x.1, x.2.1, x.2.2.1]
theorem S218_ok {N : Nat} {s : Int} {x : QIIIIE} {kf : Int → Option Ret} (hN : 4 < N) : S218 N s x kf = kf (sealM s x) := by
 unfold S218
 rw [S248_ok (by rw [maxLen_eq]; simp) (by simpa using hN)]
 rfl
theorem I169_ok {N : Nat} {s : Int} {x : QIIIIE} {kf : Int → Option Ret} (hN : 4 < N) : I169 N s x kf = kf (sealM s x) := by
 unfold I169
 rw [I219_ok (by rw [maxLen_eq]; simp) (by simpa using hN)]
 rfl
def minM : List QIIIIE → Nat → Int → Bool
 | [], _, _ => true
 | x :: r, i, s => (x.1 == ((i + 1 : Nat) : Int)) && inR x.2.1 1 9 && inR x.2.2.1 0 99 && (x.2.2.2 == sealM s x) && minM r (i + 1) x.2.2.2
def areMinM (l : List QIIIIE) : Bool := decide (l.length ≤ 200) && minM l 0 0
theorem S158_ok {N : Nat} {l : List QIIIIE} {kf : Bool → Option Ret} (hl : l.length ≤ maxLen) (hN : l.length < N) (h4 : 4 < N) : S158 N l kf = kf (areMinM l) := by
 unfold S158
 rw [S158_l3_r hl hN]
 by_cases hc : l.length ≤ 200
 ·have h1 : (decide ((l.length : Int) ≤ 200)) = true := decide_eq_true (by omega)
  have key : ∀ (r : List QIIIIE) (i : Nat) (s : Int), l.drop i = r → goL1 (fun (i : Nat) (x : QIIIIE) (x3_2 : Int) (next : Int → Option Ret) =>
    bif (decide ((List.length l : Int) ≤ (200 : Int))) then
     S218 N x3_2 x (fun (r23_5 : Int) =>
      bif (x.1 != (IntKind.wrap .i64 ((i : Int) + (1 : Int)))) then kf false
      else
       S195 N x.2.1 (1 : Int) (9 : Int) (fun (r32_6 : Bool) =>
        bif (!r32_6) then kf false
        else
         S195 N x.2.2.1 (0 : Int) (99 : Int) (fun (r38_7 : Bool) =>
          bif (!r38_7) then kf false
          else
           bif (x.2.2.2 != r23_5) then kf false
           else next r23_5)))
    else kf (decide ((List.length l : Int) ≤ (200 : Int)))) (fun (x3_2 : Int) => kf (decide ((List.length l : Int) ≤ (200 : Int)))) r i s = kf (minM r i s) := by
   intro r
   induction r with
   | nil => intro i s _; simp only [goL1, minM, h1]
   | cons x r ih =>
    intro i s hd
    have hlt : i < l.length := by have := congrArg List.length hd; simp at this; omega
    rw [List.drop_eq_getElem_cons hlt] at hd
    injection hd with e1 e2
    simp only [goL1, minM]
    simp only [ih (i + 1) _ e2]
    simp only [h1, cond_true, S218_ok h4, S195_ok, wrap_succ hlt hl]
    cases hx : (x.1 == ((i + 1 : Nat) : Int)) with
    | false => simp only [bne, hx, Bool.not_false, cond_true, Bool.false_and]
    | true =>
     simp only [bne, hx, Bool.not_true, cond_false, Bool.true_and]
     cases inR x.2.1 1 9 <;> simp
     cases inR x.2.2.1 0 99 <;> simp
     by_cases hs : x.2.2.2 = sealM s x
     ·simp [hs]
     ·have : (x.2.2.2 == sealM s x) = false := by simpa using hs
      simp [this]
  refine Eq.trans (key l 0 0 rfl) ?_
  unfold areMinM
  simp [hc]
 ·have h1 : (decide ((l.length : Int) ≤ 200)) = false := decide_eq_false (by omega)
  cases l with
  | nil => simp at hc
  | cons x r =>
   simp only [goL1, h1, cond_false]
   unfold areMinM
   rw [decide_eq_false hc]
   rfl
theorem I75_ok {N : Nat} {l : List QIIIIE} {kf : Bool → Option Ret} (hl : l.length ≤ maxLen) (hN : l.length < N) (h4 : 4 < N) : I75 N l kf = kf (areMinM l) := by
 unfold I75
 by_cases hc : l.length ≤ 200
 ·have h1 : (decide ((l.length : Int) > 200)) = false := decide_eq_false (by omega)
  rw [h1, cond_false, I75_l5_r hl hN]
  have key : ∀ (r : List QIIIIE) (i : Nat) (s : Int), l.drop i = r → goL1 (fun (i : Nat) (x : QIIIIE) (x3_1 : Int) (next : Int → Option Ret) =>
    bif (x.1 != (IntKind.wrap .i64 ((i : Int) + (1 : Int)))) then kf false
    else
     I144 N x.2.1 (1 : Int) (9 : Int) (fun (r24_6 : Bool) =>
      bif (!r24_6) then kf false
      else
       I144 N x.2.2.1 (0 : Int) (99 : Int) (fun (r30_7 : Bool) =>
        bif (!r30_7) then kf false
        else
         I169 N x3_1 x (fun (r38_8 : Int) =>
          bif (x.2.2.2 != r38_8) then kf false
          else next x.2.2.2)))) (fun (x3_1 : Int) => kf true) r i s = kf (minM r i s) := by
   intro r
   induction r with
   | nil => intro i s _; simp only [goL1, minM]
   | cons x r ih =>
    intro i s hd
    have hlt : i < l.length := by have := congrArg List.length hd; simp at this; omega
    rw [List.drop_eq_getElem_cons hlt] at hd
    injection hd with e1 e2
    simp only [goL1, minM]
    simp only [ih (i + 1) _ e2]
    simp only [I169_ok h4, I144_ok, wrap_succ hlt hl]
    cases hx : (x.1 == ((i + 1 : Nat) : Int)) with
    | false => simp only [bne, hx, Bool.not_false, cond_true, Bool.false_and]
    | true =>
     simp only [bne, hx, Bool.not_true, cond_false, Bool.true_and]
     cases inR x.2.1 1 9 <;> simp
     cases inR x.2.2.1 0 99 <;> simp
     by_cases hs : x.2.2.2 = sealM s x
     ·simp [hs]
     ·have : (x.2.2.2 == sealM s x) = false := by simpa using hs
      simp [this]
  refine Eq.trans (key l 0 0 rfl) ?_
  unfold areMinM
  simp [hc]
 ·have h1 : (decide ((l.length : Int) > 200)) = true := decide_eq_true (by omega)
  rw [h1, cond_true]
  unfold areMinM
  rw [decide_eq_false hc]
  rfl
end Go.Pv.R
namespace Go.Pv
set_option linter.unusedVariables false
set_option linter.unusedSimpArgs false
theorem findI_some {α : Type} {p : α → Bool} : ∀ {l : List α} {i k : Nat}, findI p l i = some k → ∃ j, ∃ h : j < l.length, k = i + j ∧ p l[j] = true ∧ ∀ j' (h' : j' < j), p (l[j']'(by omega)) = false
 | [], i, k, h => by cases h
 | x :: r, i, k, h => by
  simp only [findI] at h
  cases hp : p x with
  | true =>
   rw [hp] at h
   injection h with h
   exact ⟨0, by simp, by omega, hp, fun j' h' => by omega⟩
  | false =>
   rw [hp] at h
   obtain ⟨j, hj, e, h1, h2⟩ := findI_some (l := r) h
   refine ⟨j + 1, by simpa using hj, by omega, h1, fun j' h' => ?_⟩
   cases j' with
   | zero => exact hp
   | succ j' => exact h2 j' (by omega)
theorem findI_none {α : Type} {p : α → Bool} : ∀ {l : List α} {i : Nat}, findI p l i = none → ∀ j (h : j < l.length), p l[j] = false
 | [], i, h, j, hj => by simp at hj
 | x :: r, i, h, j, hj => by
  simp only [findI] at h
  cases hp : p x with
  | true => rw [hp] at h; cases h
  | false =>
   rw [hp] at h
   cases j with
   | zero => exact hp
   | succ j => exact findI_none (l := r) h j (by simpa using hj)
theorem goL_find {α : Type} {body : Nat → α → Option Ret → Option Ret} {kend : Option Ret} {kf : Nat → Option Ret} {p : α → Bool} (hb : ∀ (i : Nat) (x : α) (next : Option Ret), body i x next = bif p x then kf i else next) : ∀ (l : List α) (i : Nat), goL body kend l i = match findI p l i with
  | some k => kf k
  | none => kend
 | [], _ => rfl
 | x :: r, i => by
  simp only [goL, findI]
  rw [hb]
  cases p x
  ·exact goL_find hb r (i + 1)
  ·rfl
def findM {α : Type} (p : α → Bool) (l : List α) : Int := match findI p l 0 with
 | some k => (k : Int)
 | none => -1
theorem findM_pos {α : Type} {p : α → Bool} {l : List α} (h : ¬ findM p l < 0) : ∃ k : Nat, ∃ hk : k < l.length, findM p l = (k : Int) ∧ p l[k] = true ∧ ∀ j (hj : j < k), p (l[j]'(by omega)) = false := by
 unfold findM at *
 split at h
 ·rename_i k hk
  obtain ⟨j, hj, e, h1, h2⟩ := findI_some hk
  obtain rfl : k = j := by omega
  exact ⟨k, hj, rfl, h1, h2⟩
 ·omega
theorem findM_neg {α : Type} {p : α → Bool} {l : List α} (h : findM p l < 0) : findM p l = -1 ∧ ∀ j (hj : j < l.length), p l[j] = false := by
 unfold findM at *
 split at h
 ·omega
 ·rename_i hn
  exact ⟨rfl, findI_none hn⟩
theorem allI_and {α : Type} {p q : Nat → α → Bool} : ∀ {l : List α} {i : Nat}, allI (fun i x => p i x && q i x) l i = (allI p l i && allI q l i)
 | [], _ => rfl
 | x :: r, i => by
  simp only [allI, allI_and (l := r)]
  cases p i x <;> cases q i x <;> cases allI p r (i + 1) <;> simp
theorem allI_congr {α : Type} {p q : Nat → α → Bool} {l : List α} (h : ∀ (j : Nat) (hj : j < l.length), p j l[j] = q j l[j]) : allI p l 0 = allI q l 0 := by
 apply Bool.eq_iff_iff.2
 rw [allI_iff, allI_iff]
 constructor
 ·intro h1 j hj; have := h1 j hj; rw [Nat.zero_add] at *; rw [← h j hj]; exact this
 ·intro h1 j hj; have := h1 j hj; rw [Nat.zero_add] at *; rw [h j hj]; exact this
theorem wrap_pred {i m : Nat} (h0 : 0 < i) (h : i < m) (hm : m ≤ maxLen) : IntKind.wrap .i64 ((i : Int) - 1) = ((i - 1 : Nat) : Int) := by
 have := maxLen_eq
 rw [wrap64] <;> omega
end Go.Pv
namespace Go.Pv.R
set_option linter.unusedVariables false
set_option linter.unusedSimpArgs false
abbrev Team := QIIIIILIE
def findT (l : List Team) (id : Int) : Int := findM (fun x : Team => x.1 == id) l
theorem S200_ok {N : Nat} {l : List Team} {id : Int} {kf : Int → Option Ret} (hl : l.length ≤ maxLen) (hN : l.length < N) : S200 N l id kf = kf (findT l id) := by
 unfold S200
 rw [S200_l2_r hl hN, goL_find (p := fun x : Team => x.1 == id) (kf := fun i => kf (i : Int)) (fun i x next => rfl)]
 unfold findT findM
 cases findI (fun x : Team => x.1 == id) l 0 <;> rfl
theorem I40_ok {N : Nat} {l : List Team} {id : Int} {kf : Int → Option Ret} (hl : l.length ≤ maxLen) (hN : l.length < N) : I40 N l id kf = kf (findT l id) := by
 unfold I40 S146
 rw [S146_l2_r hl hN]
 simp only [I147]
 rw [goL_find (p := fun x : Team => x.1 == id) (kf := fun i => kf (i : Int)) (fun i x next => rfl)]
 unfold findT findM
 cases findI (fun x : Team => x.1 == id) l 0 <;> rfl
def countM (l : List Int) (n : Int) : Int := foldI (fun i x s => bif x == n then IntKind.wrap .i64 (s + 1) else s) l 0 0
theorem S220_ok {N : Nat} {l : List Int} {n : Int} {kf : Int → Option Ret} (hl : l.length ≤ maxLen) (hN : l.length < N) : S220 N l n kf = kf (countM l n) := by
 unfold S220
 rw [S220_l3_r hl hN, goL1_f (fun i x s => bif x == n then IntKind.wrap .i64 (s + 1) else s) (fun i x s next h e => by cases x == n <;> rfl)]
 rfl
theorem I78_ok {N : Nat} {l : List Int} {n : Int} {kf : Int → Option Ret} (hl : l.length ≤ maxLen) (hN : l.length < N) : I78 N l n kf = kf (countM l n) := by
 unfold I78
 rw [I78_l3_r hl hN, goL1_f (fun i x s => bif x == n then IntKind.wrap .i64 (s + 1) else s) (fun i x s next h e => by cases x == n <;> rfl)]
 rfl
abbrev Team.met (x : Team) : List Int := x.2.2.2.2.2
def teamP (l : List Team) (i : Nat) (x : Team) : Bool := inR x.1 1 99 && (inR x.2.1 1 99 && (inR x.2.2.1 0 x.met.length && (inR x.2.2.2.2.1 0 x.met.length && (inR x.2.2.2.1 0 100000 && (decide (x.met.length ≤ 20) && (decide (i = 0) || decide ((l.getD (i - 1) zQIIIIILIE).1 < x.1)))))))
def metP (l : List Team) (x : Team) (id : Int) : Bool := !decide (findT l id < 0) && (!(id == x.1) && (countM x.met id == countM (l.getD (findT l id).toNat zQIIIIILIE).met x.1))
def areTeamsM (l : List Team) : Bool := decide (l.length ≤ 10) && (allI (teamP l) l 0 && allI (fun _ x => x.met.all (metP l x)) l 0)
def metS (l : List Team) (i : Nat) (x : Team) (id : Int) : Bool := !decide (findT l id < 0) && (!(findT l id == (i : Int)) && (countM (l.getD (findT l id).toNat zQIIIIILIE).met x.1 == countM x.met (l.getD (findT l id).toNat zQIIIIILIE).1))
theorem allI_all {α : Type} {p : α → Bool} : ∀ {l : List α} {i : Nat}, allI (fun _ x => p x) l i = l.all p
 | [], _ => rfl
 | x :: r, i => by simp only [allI, List.all_cons, allI_all (l := r)]
theorem teams_mono {l : List Team} (h : allI (teamP l) l 0 = true) : ∀ (j i : Nat) (hi : i < l.length), j < i → (l.getD j zQIIIIILIE).1 < l[i].1 := by
 rw [allI_iff] at h
 have step : ∀ (i : Nat) (hi : i < l.length), 0 < i → (l.getD (i - 1) zQIIIIILIE).1 < l[i].1 := fun i hi h0 => by
  have := h i hi
  rw [Nat.zero_add] at this
  simp only [teamP, Bool.and_eq_true, Bool.or_eq_true, decide_eq_true_eq] at this
  omega
 intro j i hi hji
 induction i with
 | zero => omega
 | succ i ih =>
  have h1 := step (i + 1) hi (by omega)
  rw [Nat.add_sub_cancel, getD_nat _ _ (show i < l.length by omega)] at h1
  rcases Nat.lt_or_eq_of_le (Nat.le_of_lt_succ hji) with h2 | rfl
  ·have := ih (by omega) h2; omega
  ·rw [getD_nat _ _ (by omega)]; exact h1
theorem findT_self {l : List Team} (h : allI (teamP l) l 0 = true) {i : Nat} (hi : i < l.length) {id : Int} : findT l id = (i : Int) ↔ id = l[i].1 := by
 constructor
 ·intro e
  obtain ⟨k, hk, e1, h1, _⟩ := findM_pos (p := fun x : Team => x.1 == id) (l := l) (by unfold findT at e; omega)
  unfold findT at e
  obtain rfl : k = i := by omega
  exact (beq_iff_eq.1 h1).symm
 ·rintro rfl
  unfold findT
  by_cases hn : findM (fun x : Team => x.1 == l[i].1) l < 0
  ·have := (findM_neg hn).2 i hi
   simp at this
  ·obtain ⟨k, hk, e1, h1, h2⟩ := findM_pos hn
   rw [e1]
   have h1 : l[k].1 = l[i].1 := by simpa using h1
   rcases Nat.lt_trichotomy k i with hlt | rfl | hlt
   ·have := teams_mono h k i hi hlt
    rw [getD_nat _ _ hk] at this
    omega
   ·rfl
   ·have := h2 i hlt
    simp at this
theorem metS_eq {l : List Team} (h : allI (teamP l) l 0 = true) {i : Nat} (hi : i < l.length) (id : Int) : metS l i l[i] id = metP l l[i] id := by
 unfold metS metP
 by_cases hn : findT l id < 0
 ·simp [hn]
 ·rw [decide_eq_false hn, Bool.not_false, Bool.true_and, Bool.true_and]
  have e1 : (findT l id == (i : Int)) = (id == l[i].1) := by
   apply Bool.eq_iff_iff.2
   rw [beq_iff_eq, beq_iff_eq]
   exact findT_self h hi
  rw [e1]
  obtain ⟨k, hk, e2, h2, _⟩ := findM_pos (p := fun x : Team => x.1 == id) hn
  have e3 : findT l id = (k : Int) := e2
  rw [e3, Int.toNat_natCast, getD_nat _ _ hk, show l[k].1 = id by simpa using h2]
  congr 1
  apply Bool.eq_iff_iff.2
  rw [beq_iff_eq, beq_iff_eq]
  exact ⟨fun h => h.symm, fun h => h.symm⟩
theorem teams_alike (l : List Team) : (allI (fun i x => teamP l i x && x.met.all (metS l i x)) l 0 && decide (l.length ≤ 10)) = areTeamsM l := by
 unfold areTeamsM
 rw [allI_and]
 cases h : allI (teamP l) l 0 with
 | false => simp
 | true =>
  have : allI (fun i x => x.met.all (metS l i x)) l 0 = allI (fun _ x => x.met.all (metP l x)) l 0 := allI_congr fun j hj => by
   congr 1
   funext id
   exact metS_eq h hj id
  rw [this]
  cases decide (l.length ≤ 10) <;> simp
theorem S175_ok {N : Nat} {l : List Team} {kf : Bool → Option Ret} (hl : l.length ≤ maxLen) (hm : ∀ x ∈ l, x.met.length ≤ maxLen ∧ x.met.length < N) (hN : l.length < N) : S175 N l kf = kf (areTeamsM l) := by
 unfold S175
 rw [S175_l2_r hl hN, goL_all (l := l) (p := fun i x => teamP l i x && x.met.all (metS l i x)) (kf := kf false) (fun i x next h e => ?_) l 0 rfl, ← teams_alike]
 ·cases allI (fun i x => teamP l i x && x.met.all (metS l i x)) l 0
  ·rfl
  ·simp only [cond_true, Bool.true_and]
   congr 1
   apply Bool.eq_iff_iff.2
   simp
   omega
 ·have hx : x ∈ l := by rw [← e]; exact List.getElem_mem h
  obtain ⟨m1, m2⟩ := hm x hx
  have inner : S175_l8 N l (i : Int) x N next kf (0 : Int) = bif x.met.all (metS l i x) then next else kf false := by
   rw [S175_l8_r m1 m2, goL_all (l := x.met) (p := fun _ id => metS l i x id) (kf := kf false) (fun j id next' hj ej => ?_) x.met 0 rfl, allI_all]
   rw [S200_ok hl hN]
   unfold metS
   by_cases hn : findT l id < 0
   ·simp [hn]
   ·rw [decide_eq_false hn, cond_false, Bool.not_false, Bool.true_and]
    cases hf : findT l id == (i : Int)
    ·obtain ⟨k, hk, e2, h2, _⟩ := findM_pos (p := fun x : Team => x.1 == id) hn
     have e3 : findT l id = (k : Int) := e2
     obtain ⟨q1, q2⟩ := hm l[k] (List.getElem_mem hk)
     rw [cond_false, e3, inB_nat hk, cond_true, cond_true, Int.toNat_natCast, getD_nat _ _ hk, S220_ok q1 q2, S220_ok m1 m2]
     cases hc : (countM l[k].met x.1 == countM x.met l[k].1) <;> simp [bne, hc]
    ·simp
  have ord : ∀ A B : Option Ret, (bif (decide ((i : Int) > (0 : Int))) then
    bif (inB (IntKind.wrap .i64 ((i : Int) - (1 : Int))) (List.length l)) then
     bif (decide ((List.getD l (Int.toNat (IntKind.wrap .i64 ((i : Int) - (1 : Int)))) zQIIIIILIE).1 ≥ x.1)) then A else B
    else none
   else B) = bif (decide (i = 0) || decide ((l.getD (i - 1) zQIIIIILIE).1 < x.1)) then B else A := fun A B => by
   by_cases h0 : i = 0
   ·subst h0; simp
   ·rw [decide_eq_true (show (i : Int) > 0 by omega), cond_true, wrap_pred (by omega) h hl, inB_nat (by omega), cond_true, Int.toNat_natCast, decide_eq_false h0, Bool.false_or]
    by_cases hc : (l.getD (i - 1) zQIIIIILIE).1 < x.1
    ·rw [decide_eq_false (by omega), decide_eq_true hc]; rfl
    ·rw [decide_eq_true (by omega), decide_eq_false hc]; rfl
  simp only [S195_ok, inner, ord]
  unfold teamP
  cases inR x.1 1 99 <;> simp
  cases inR x.2.1 1 99 <;> simp
  cases inR x.2.2.1 0 x.met.length <;> simp
  cases inR x.2.2.2.2.1 0 x.met.length <;> simp
  cases inR x.2.2.2.1 0 100000 <;> simp
  by_cases h20 : x.met.length ≤ 20
  ·rw [decide_eq_false (show ¬ (20 : Int) < (x.met.length : Int) by omega), decide_eq_true h20]
   simp
   cases (decide (i = 0) || decide ((l[i - 1]?.getD zQIIIIILIE).1 < x.1)) <;> simp
  ·rw [decide_eq_true (show (20 : Int) < (x.met.length : Int) by omega), decide_eq_false h20]
   simp
theorem I143_ok {N : Nat} {l : List Team} {kf : Bool → Option Ret} (hl : l.length ≤ maxLen) (hm : ∀ x ∈ l, x.met.length ≤ maxLen ∧ x.met.length < N) (hN : l.length < N) : I143 N l kf = kf (areTeamsM l) := by
 unfold I143
 by_cases h10 : l.length ≤ 10
 rotate_left
 ·rw [decide_eq_true (by omega), cond_true]
  unfold areTeamsM
  rw [decide_eq_false h10]
  rfl
 rw [decide_eq_false (by omega), cond_false]
 rw [I143_l4_r hl hN, goL_all (l := l) (p := fun i x => teamP l i x && x.met.all (metP l x)) (kf := kf false) (fun i x next h e => ?_) l 0 rfl]
 ·unfold areTeamsM
  rw [decide_eq_true h10, Bool.true_and, allI_and]
  cases (allI (teamP l) l 0 && allI (fun _ x => x.met.all (metP l x)) l 0) <;> rfl
 ·have hx : x ∈ l := by rw [← e]; exact List.getElem_mem h
  obtain ⟨m1, m2⟩ := hm x hx
  have inner : I143_l10 N l x l (List.length l : Int) (i : Int) x.2.2.2.2.2 (List.length x.2.2.2.2.2 : Int) N next kf (0 : Int) = bif x.met.all (metP l x) then next else kf false := by
   rw [I143_l10_r m1 m2, goL_all (l := x.met) (p := fun _ id => metP l x id) (kf := kf false) (fun j id next' hj ej => ?_) x.met 0 rfl, allI_all]
   rw [I40_ok hl hN]
   unfold metP
   by_cases hn : findT l id < 0
   ·simp [hn]
   ·rw [decide_eq_false hn, cond_false, Bool.not_false, Bool.true_and]
    cases hf : id == x.1
    ·obtain ⟨k, hk, e2, h2, _⟩ := findM_pos (p := fun x : Team => x.1 == id) hn
     have e3 : findT l id = (k : Int) := e2
     obtain ⟨q1, q2⟩ := hm l[k] (List.getElem_mem hk)
     rw [cond_false, e3, inB_nat hk, cond_true, Int.toNat_natCast, getD_nat _ _ hk, I78_ok m1 m2, I78_ok q1 q2]
     cases hc : (countM x.met id == countM l[k].met x.1) <;> simp [bne, hc]
    ·simp
  have ord : ∀ A B : Option Ret, (bif (decide ((i : Int) > (0 : Int))) then
    bif (inB (IntKind.wrap .i64 ((i : Int) - (1 : Int))) (List.length l)) then
     bif (decide (x.1 ≤ (List.getD l (Int.toNat (IntKind.wrap .i64 ((i : Int) - (1 : Int)))) zQIIIIILIE).1)) then A else B
    else none
   else B) = bif (decide (i = 0) || decide ((l.getD (i - 1) zQIIIIILIE).1 < x.1)) then B else A := fun A B => by
   by_cases h0 : i = 0
   ·subst h0; simp
   ·rw [decide_eq_true (show (i : Int) > 0 by omega), cond_true, wrap_pred (by omega) h hl, inB_nat (by omega), cond_true, Int.toNat_natCast, decide_eq_false h0, Bool.false_or]
    by_cases hc : (l.getD (i - 1) zQIIIIILIE).1 < x.1
    ·rw [decide_eq_false (by omega), decide_eq_true hc]; rfl
    ·rw [decide_eq_true (by omega), decide_eq_false hc]; rfl
  simp only [I144_ok, inner, ord]
  unfold teamP
  cases inR x.1 1 99 <;> simp
  cases (decide (i = 0) || decide ((l[i - 1]?.getD zQIIIIILIE).1 < x.1)) <;> simp
  cases inR x.2.1 1 99 <;> simp
  by_cases h20 : x.met.length ≤ 20
  ·rw [decide_eq_false (show ¬ (20 : Int) < (x.met.length : Int) by omega), decide_eq_true h20]
   simp
   cases inR x.2.2.1 0 x.met.length <;> simp
   cases inR x.2.2.2.2.1 0 x.met.length <;> simp
   cases inR x.2.2.2.1 0 100000 <;> simp
  ·rw [decide_eq_true (show (20 : Int) < (x.met.length : Int) by omega), decide_eq_false h20]
   simp
theorem teams_small {l : List Team} {N : Nat} (hw : wf (.sl tQIIIIILIE) l) (hN : sizeV (.sl tQIIIIILIE) l < N) : ∀ x ∈ l, x.met.length ≤ maxLen ∧ x.met.length < N := fun x hx => by
 have h1 := sizeV_mem (t := tQIIIIILIE) hx
 have h2 : sizeV tQIIIIILIE x = sizeV (.sl (.int .i64)) x.2.2.2.2.2 := by simp [sizeV]
 have h3 := sizeV_len (t := .int .i64) x.2.2.2.2.2
 exact ⟨(hw.2 x hx).2.2.2.2.2.1, by show x.2.2.2.2.2.length < N; omega⟩
end Go.Pv.R
namespace Go.Pv
set_option linter.unusedVariables false
set_option linter.unusedSimpArgs false
def gatherI {α β : Type} (c : Nat → α → Bool) (f : Nat → α → β) : List α → Nat → List β
 | [], _ => []
 | x :: r, i => bif c i x then f i x :: gatherI c f r (i + 1) else gatherI c f r (i + 1)
theorem goL1_gather {α β : Type} {body : Nat → α → List β → (List β → Option Ret) → Option Ret} {kend : List β → Option Ret} {c : Nat → α → Bool} {f : Nat → α → β} {l : List α}
  (hb : ∀ (i : Nat) (x : α) (s : List β) (next : List β → Option Ret) (h : i < l.length), l[i] = x → s.length ≤ i → body i x s next = bif c i x then next (s ++ [f i x]) else next s) :
  ∀ (r : List α) (i : Nat) (s : List β), l.drop i = r → s.length ≤ i → goL1 body kend r i s = kend (s ++ gatherI c f r i)
 | [], i, s, _, _ => by simp [goL1, gatherI]
 | x :: r, i, s, hd, hs => by
  have hlt : i < l.length := by have := congrArg List.length hd; simp at this; omega
  rw [List.drop_eq_getElem_cons hlt] at hd
  injection hd with h1 h2
  simp only [goL1, gatherI]
  rw [hb i x s _ hlt h1 hs]
  cases c i x
  ·rw [cond_false, cond_false]
   exact goL1_gather hb r (i + 1) s h2 (by omega)
  ·rw [cond_true, cond_true, goL1_gather hb r (i + 1) (s ++ [f i x]) h2 (by simp; omega)]
   simp
theorem findM_any {α : Type} (p : α → Bool) (l : List α) : decide (findM p l ≥ 0) = l.any p := by
 by_cases h : findM p l < 0
 ·rw [decide_eq_false (by omega)]
  symm
  rw [List.any_eq_false]
  intro x hx
  obtain ⟨j, hj, rfl⟩ := List.mem_iff_getElem.1 hx
  rw [(findM_neg h).2 j hj]
  simp
 ·rw [decide_eq_true (by omega)]
  symm
  rw [List.any_eq_true]
  obtain ⟨k, hk, _, h1, _⟩ := findM_pos h
  exact ⟨l[k], List.getElem_mem hk, h1⟩
theorem countI_eq (n : Int) : ∀ (l : List Int) (i : Nat) (s : Nat), s + l.length ≤ maxLen → foldI (fun _ x s => bif x == n then IntKind.wrap .i64 (s + 1) else s) l i (s : Int) = ((s + l.count n : Nat) : Int)
 | [], _, _, _ => by simp [foldI]
 | x :: r, i, s, h => by
  simp only [foldI, List.count_cons]
  simp only [List.length_cons] at h
  have := maxLen_eq
  cases hx : x == n with
  | false => simp only [cond_false]; rw [countI_eq n r (i + 1) s (by omega)]; simp
  | true =>
   simp only [cond_true, if_true]
   rw [wrap64 (by omega) (by omega), show ((s : Int) + 1) = ((s + 1 : Nat) : Int) by omega, countI_eq n r (i + 1) (s + 1) (by omega)]
   congr 1
   omega
theorem sum_counts {b : List Int} (hb : b.Nodup) : ∀ (a : List Int), (∀ x ∈ a, x ∈ b) → (b.map fun x => a.count x).sum = a.length
 | [], _ => by
  have : ∀ l : List Int, (l.map fun x => ([] : List Int).count x).sum = 0 := by
   intro l
   induction l with
   | nil => rfl
   | cons x r ih => rw [List.map_cons, List.sum_cons, ih]; simp
  rw [this]; rfl
 | y :: a, h => by
  have ih := sum_counts hb a (fun x hx => h x (by simp [hx]))
  have hy := h y (by simp)
  have key : ∀ l : List Int, (l.map fun x => (y :: a).count x).sum = (l.map fun x => a.count x).sum + l.count y := by
   intro l
   induction l with
   | nil => rfl
   | cons x r ihl =>
    rw [List.map_cons, List.sum_cons, ihl, List.map_cons, List.sum_cons, List.count_cons, List.count_cons]
    by_cases hxy : y = x
    ·subst hxy; simp; omega
    ·have h1 : (y == x) = false := by simpa using hxy
     have h2 : (x == y) = false := by simpa using fun e => hxy e.symm
     rw [h1, h2]; simp; omega
  rw [key, ih, List.length_cons]
  have : b.count y = 1 := by
   have h1 := List.count_pos_iff.2 hy
   have h2 := List.nodup_iff_count.1 hb y
   omega
  omega
theorem all_one {b : List Int} {f : Int → Nat} (h1 : ∀ x ∈ b, f x ≤ 1) (h2 : (b.map f).sum = b.length) : ∀ x ∈ b, f x = 1 := by
 have le : ∀ l : List Int, (∀ x ∈ l, f x ≤ 1) → (l.map f).sum ≤ l.length := by
  intro l
  induction l with
  | nil => intro _; simp
  | cons x r ih => intro h; have := ih (fun y hy => h y (by simp [hy])); have := h x (by simp); simp; omega
 induction b with
 | nil => intro x hx; cases hx
 | cons y r ih =>
  have hr := le r (fun x hx => h1 x (by simp [hx]))
  have hy := h1 y (by simp)
  simp only [List.map_cons, List.sum_cons, List.length_cons] at h2
  intro x hx
  rcases List.mem_cons.1 hx with rfl | hx
  ·omega
  ·exact ih (fun x hx => h1 x (by simp [hx])) (by omega) x hx
theorem once_iff {a b : List Int} (hb : b.Nodup) (h : ∀ x ∈ a, x ∈ b) : (∀ x ∈ b, a.count x = 1) ↔ a.Nodup ∧ a.length = b.length := by
 have hs := sum_counts hb a h
 constructor
 ·intro h1
  refine ⟨List.nodup_iff_count.2 fun x => ?_, ?_⟩
  ·by_cases hx : x ∈ a
   ·rw [h1 x (h x hx)]; exact Nat.le_refl _
   ·rw [List.count_eq_zero_of_not_mem hx]; omega
  ·have key : ∀ l : List Int, (∀ x ∈ l, a.count x = 1) → (l.map fun x => a.count x).sum = l.length := by
    intro l
    induction l with
    | nil => intro _; rfl
    | cons x r ih => intro h; simp [ih (fun y hy => h y (by simp [hy])), h x (by simp)]; omega
   rw [key b h1] at hs
   exact hs.symm
 ·intro ⟨h1, h2⟩
  exact all_one (fun x _ => List.nodup_iff_count.1 h1 x) (by rw [hs, h2])
end Go.Pv
namespace Go.Pv.R
set_option linter.unusedVariables false
set_option linter.unusedSimpArgs false
abbrev Judge := QIILIE
abbrev Pair := QIIE
theorem countM_eq {l : List Int} {n : Int} (h : l.length ≤ maxLen) : countM l n = (l.count n : Int) := by
 have := countI_eq n l 0 0 (by omega)
 rw [Nat.zero_add] at this
 exact this
def hasM (l : List Int) (n : Int) : Bool := l.any fun x => x == n
theorem hasM_iff {l : List Int} {n : Int} : hasM l n = true ↔ n ∈ l := by
 unfold hasM
 rw [List.any_eq_true]
 constructor
 ·rintro ⟨x, hx, h⟩
  have : x = n := by simpa using h
  exact this ▸ hx
 ·intro h; exact ⟨n, h, by simp⟩
theorem S224_ok {N : Nat} {l : List Int} {n : Int} {kf : Bool → Option Ret} (hl : l.length ≤ maxLen) (hN : l.length < N) : S224 N l n kf = kf (hasM l n) := by
 unfold S224
 rw [S224_l2_r hl hN, goL_find (p := fun x : Int => x == n) (kf := fun _ => kf true) (fun i x next => rfl)]
 unfold hasM
 rw [← findM_any]
 unfold findM
 cases findI (fun x : Int => x == n) l 0
 ·rfl
 ·rw [decide_eq_true (by simp)]
theorem S82_ok {N : Nat} {l : List Int} {n : Int} {kf : Bool → Option Ret} (hl : l.length ≤ maxLen) (hN : l.length < N) : S82 N l n kf = kf (hasM l n) := by
 unfold S82 S170
 rw [S170_l2_r hl hN, goL_find (p := fun x : Int => n == x) (kf := fun i => kf (decide ((i : Int) ≥ 0))) (fun i x next => rfl)]
 have e : hasM l n = l.any fun x => n == x := by
  unfold hasM
  congr 1
  funext x
  apply Bool.eq_iff_iff.2
  rw [beq_iff_eq, beq_iff_eq]
  exact ⟨fun h => h.symm, fun h => h.symm⟩
 rw [e, ← findM_any]
 unfold findM
 cases findI (fun x : Int => n == x) l 0 <;> rfl
def findJ (l : List Judge) (id : Int) : Int := findM (fun x : Judge => x.1 == id) l
theorem S126_ok {N : Nat} {l : List Judge} {id : Int} {kf : Int → Option Ret} (hl : l.length ≤ maxLen) (hN : l.length < N) : S126 N l id kf = kf (findJ l id) := by
 unfold S126
 rw [S126_l2_r hl hN, goL_find (p := fun x : Judge => x.1 == id) (kf := fun i => kf (i : Int)) (fun i x next => rfl)]
 unfold findJ findM
 cases findI (fun x : Judge => x.1 == id) l 0 <;> rfl
theorem S80_ok {N : Nat} {l : List Judge} {id : Int} {kf : Int → Option Ret} (hl : l.length ≤ maxLen) (hN : l.length < N) : S80 N l id kf = kf (findJ l id) := by
 unfold S80
 rw [S80_l2_r hl hN]
 simp only [I81]
 rw [goL_find (p := fun x : Judge => x.1 == id) (kf := fun i => kf (i : Int)) (fun i x next => rfl)]
 unfold findJ findM
 cases findI (fun x : Judge => x.1 == id) l 0 <;> rfl
theorem I130_ok {N : Nat} {l : List Judge} {id : Int} {kf : Int → Option Ret} (hl : l.length ≤ maxLen) (hN : l.length < N) : I130 N l id kf = kf (findJ l id) := by
 unfold I130 S80b
 rw [S80b_l2_r hl hN]
 simp only [I209]
 rw [goL_find (p := fun x : Judge => x.1 == id) (kf := fun i => kf (i : Int)) (fun i x next => rfl)]
 unfold findJ findM
 cases findI (fun x : Judge => x.1 == id) l 0 <;> rfl
def seenP (s : List Int) : Bool := allI (fun i y => inR y 1 99 && (decide (i = 0) || decide (s.getD (i - 1) 0 < y))) s 0
def judgeP (l : List Judge) (i : Nat) (x : Judge) : Bool := inR x.1 1 99 && (inR x.2.1 1 99 && ((decide (i = 0) || decide ((l.getD (i - 1) zQIILIE).1 < x.1)) && seenP x.2.2))
def areJudgesM (l : List Judge) : Bool := decide (l.length ≤ 10) && allI (judgeP l) l 0
theorem ord_ok {α : Type} {l : List α} {i : Nat} {z : α} {g : α → Int} {y : Int} {A B : Option Ret} (hi : i < l.length) (hl : l.length ≤ maxLen) : (bif (decide ((i : Int) > (0 : Int))) then
    bif (inB (IntKind.wrap .i64 ((i : Int) - (1 : Int))) (List.length l)) then
     bif (decide (y ≤ g (List.getD l (Int.toNat (IntKind.wrap .i64 ((i : Int) - (1 : Int)))) z))) then A else B
    else none
   else B) = bif (decide (i = 0) || decide (g (l.getD (i - 1) z) < y)) then B else A := by
 by_cases h0 : i = 0
 ·subst h0; simp
 ·rw [decide_eq_true (show (i : Int) > 0 by omega), cond_true, wrap_pred (by omega) hi hl, inB_nat (by omega), cond_true, Int.toNat_natCast, decide_eq_false h0, Bool.false_or]
  by_cases hc : g (l.getD (i - 1) z) < y
  ·rw [decide_eq_false (by omega), decide_eq_true hc]; rfl
  ·rw [decide_eq_true (by omega), decide_eq_false hc]; rfl
theorem ord_ok2 {α : Type} {l : List α} {i : Nat} {z : α} {g : α → Int} {y : Int} {A B : Option Ret} (hi : i < l.length) (hl : l.length ≤ maxLen) : (bif (decide ((i : Int) > (0 : Int))) then
    bif (inB (IntKind.wrap .i64 ((i : Int) - (1 : Int))) (List.length l)) then
     bif (decide (g (List.getD l (Int.toNat (IntKind.wrap .i64 ((i : Int) - (1 : Int)))) z) ≥ y)) then A else B
    else none
   else B) = bif (decide (i = 0) || decide (g (l.getD (i - 1) z) < y)) then B else A := ord_ok hi hl
theorem S178_ok {N : Nat} {l : List Judge} {kf : Bool → Option Ret} (hl : l.length ≤ maxLen) (hm : ∀ x ∈ l, x.2.2.length ≤ maxLen ∧ x.2.2.length < N) (hN : l.length < N) : S178 N l kf = kf (areJudgesM l) := by
 unfold S178
 rw [S178_l2_r hl hN, goL_all (l := l) (p := judgeP l) (kf := kf false) (fun i x next h e => ?_) l 0 rfl]
 ·unfold areJudgesM
  cases allI (judgeP l) l 0
  ·simp
  ·simp only [cond_true, Bool.and_true]
   congr 1
   apply Bool.eq_iff_iff.2
   simp
   omega
 ·have hx : x ∈ l := by rw [← e]; exact List.getElem_mem h
  obtain ⟨m1, m2⟩ := hm x hx
  have inner : S178_l7 N l (i : Int) N next kf (0 : Int) = bif seenP x.2.2 then next else kf false := by
   have hg : List.getD l (Int.toNat (i : Int)) zQIILIE = x := by rw [Int.toNat_natCast, getD_nat _ _ h, e]
   rw [S178_l7_r (inB_nat h) (by rw [hg]; exact m1) (by rw [hg]; exact m2)]
   simp only [hg]
   rw [goL_all (l := x.2.2) (p := fun i y => inR y 1 99 && (decide (i = 0) || decide (x.2.2.getD (i - 1) 0 < y))) (kf := kf false) (fun j y next' hj ej => ?_) x.2.2 0 rfl]
   ·rfl
   ·rw [S195_ok]
    have := ord_ok2 (l := x.2.2) (z := (0 : Int)) (g := fun x => x) (y := y) (A := kf false) (B := next') hj m1
    rw [this]
    cases inR y 1 99 <;> simp
  simp only [S195_ok, inner]
  have ho := fun A B => ord_ok2 (l := l) (z := zQIILIE) (g := fun x => x.1) (y := x.1) (A := A) (B := B) h hl
  simp only [ho]
  unfold judgeP
  cases inR x.1 1 99 <;> simp
  cases inR x.2.1 1 99 <;> simp
  cases (decide (i = 0) || decide ((l[i - 1]?.getD zQIILIE).1 < x.1)) <;> simp
theorem I79_ok {N : Nat} {l : List Judge} {kf : Bool → Option Ret} (hl : l.length ≤ maxLen) (hm : ∀ x ∈ l, x.2.2.length ≤ maxLen ∧ x.2.2.length < N) (hN : l.length < N) : I79 N l kf = kf (areJudgesM l) := by
 unfold I79
 by_cases h10 : l.length ≤ 10
 rotate_left
 ·rw [decide_eq_true (by omega), cond_true]
  unfold areJudgesM
  rw [decide_eq_false h10]
  rfl
 rw [decide_eq_false (by omega), cond_false]
 rw [I79_l4_r hl hN, goL_all (l := l) (p := judgeP l) (kf := kf false) (fun i x next h e => ?_) l 0 rfl]
 ·unfold areJudgesM
  rw [decide_eq_true h10, Bool.true_and]
  cases allI (judgeP l) l 0 <;> rfl
 ·have hx : x ∈ l := by rw [← e]; exact List.getElem_mem h
  obtain ⟨m1, m2⟩ := hm x hx
  have inner : I79_l9 N l x l (List.length l : Int) (i : Int) x.2.2 (List.length x.2.2 : Int) N next kf (0 : Int) = bif seenP x.2.2 then next else kf false := by
   rw [I79_l9_r m1 m2]
   rw [goL_all (l := x.2.2) (p := fun i y => inR y 1 99 && (decide (i = 0) || decide (x.2.2.getD (i - 1) 0 < y))) (kf := kf false) (fun j y next' hj ej => ?_) x.2.2 0 rfl]
   ·rfl
   ·rw [I144_ok]
    have := ord_ok (l := x.2.2) (z := (0 : Int)) (g := fun x => x) (y := y) (A := kf false) (B := next') hj m1
    rw [this]
    cases inR y 1 99 <;> simp
  simp only [I144_ok, inner]
  have ho := fun A B => ord_ok (l := l) (z := zQIILIE) (g := fun x => x.1) (y := x.1) (A := A) (B := B) h hl
  simp only [ho]
  unfold judgeP
  cases inR x.1 1 99 <;> simp
  cases inR x.2.1 1 99 <;> simp
  cases (decide (i = 0) || decide ((l[i - 1]?.getD zQIILIE).1 < x.1)) <;> simp
theorem judges_small {l : List Judge} {N : Nat} (hw : wf (.sl tQIILIE) l) (hN : sizeV (.sl tQIILIE) l < N) : ∀ x ∈ l, x.2.2.length ≤ maxLen ∧ x.2.2.length < N := fun x hx => by
 have h1 := sizeV_mem (t := tQIILIE) hx
 have h2 : sizeV tQIILIE x = sizeV (.sl (.int .i64)) x.2.2 := by simp [sizeV]
 have h3 := sizeV_len (t := .int .i64) x.2.2
 exact ⟨(hw.2 x hx).2.2.1, by omega⟩
def clubT (l : List Team) (id : Int) : Int := (l.getD (findT l id).toNat zQIIIIILIE).2.1
def metT (l : List Team) (id : Int) : List Int := (l.getD (findT l id).toNat zQIIIIILIE).met
def haveMetM (l : List Team) (a b : Int) : Bool := decide (findT l a ≥ 0) && hasM (metT l a) b
def mayMeetM (l : List Team) (a b : Int) : Bool := areTeamsM l && (decide (findT l a ≥ 0) && (decide (findT l b ≥ 0) && ((findT l a != findT l b) && ((clubT l a != clubT l b) && !haveMetM l a b))))
theorem findT_in {l : List Team} {id : Int} (h : findT l id ≥ 0) : inB (findT l id) l.length = true ∧ (findT l id).toNat < l.length := by
 obtain ⟨k, hk, e, _⟩ := findM_pos (p := fun x : Team => x.1 == id) (l := l) (by unfold findT at h; omega)
 have e : findT l id = (k : Int) := e
 rw [e]
 exact ⟨inB_nat hk, by simpa using hk⟩
theorem S250_ok {N : Nat} {l : List Team} {a b : Int} {kf : Bool → Option Ret} (hl : l.length ≤ maxLen) (hm : ∀ x ∈ l, x.met.length ≤ maxLen ∧ x.met.length < N) (hN : l.length < N) : S250 N l a b kf = kf (haveMetM l a b) := by
 unfold S250 haveMetM
 rw [S200_ok hl hN]
 by_cases h : findT l a ≥ 0
 ·obtain ⟨h1, h2⟩ := findT_in h
  have hx : l.getD (findT l a).toNat zQIIIIILIE ∈ l := by rw [getD_nat _ _ h2]; exact List.getElem_mem h2
  obtain ⟨m1, m2⟩ := hm _ hx
  rw [decide_eq_true h, cond_true, h1, cond_true, S224_ok m1 m2]
  rfl
 ·rw [decide_eq_false h]; rfl
theorem I19_ok {N : Nat} {l : List Team} {a b : Int} {kf : Bool → Option Ret} (hl : l.length ≤ maxLen) (hm : ∀ x ∈ l, x.met.length ≤ maxLen ∧ x.met.length < N) (hN : l.length < N) : I19 N l a b kf = kf (haveMetM l a b) := by
 unfold I19 haveMetM
 rw [I40_ok hl hN]
 by_cases h : findT l a ≥ 0
 ·obtain ⟨h1, h2⟩ := findT_in h
  have hx : l.getD (findT l a).toNat zQIIIIILIE ∈ l := by rw [getD_nat _ _ h2]; exact List.getElem_mem h2
  obtain ⟨m1, m2⟩ := hm _ hx
  rw [decide_eq_true h, cond_true, h1, cond_true, S82_ok m1 m2]
  rfl
 ·rw [decide_eq_false h]; rfl
theorem S221_ok {N : Nat} {l : List Team} {a b : Int} {kf : Bool → Option Ret} (hl : l.length ≤ maxLen) (hm : ∀ x ∈ l, x.met.length ≤ maxLen ∧ x.met.length < N) (hN : l.length < N) : S221 N l a b kf = kf (mayMeetM l a b) := by
 unfold S221 mayMeetM
 rw [S200_ok hl hN, S200_ok hl hN, S175_ok hl hm hN]
 cases areTeamsM l
 ·rfl
 by_cases ha : findT l a ≥ 0
 rotate_left
 ·rw [decide_eq_false ha]; rfl
 by_cases hb : findT l b ≥ 0
 rotate_left
 ·rw [decide_eq_true ha, decide_eq_false hb]; rfl
 rw [decide_eq_true ha, decide_eq_true hb, (findT_in ha).1, (findT_in hb).1, S250_ok hl hm hN]
 simp only [cond_true, Bool.true_and]
 cases findT l a != findT l b
 ·rfl
 unfold clubT
 cases (l.getD (findT l a).toNat zQIIIIILIE).2.1 != (l.getD (findT l b).toNat zQIIIIILIE).2.1 <;> rfl
theorem I77_ok {N : Nat} {l : List Team} {a b : Int} {kf : Bool → Option Ret} (hl : l.length ≤ maxLen) (hm : ∀ x ∈ l, x.met.length ≤ maxLen ∧ x.met.length < N) (hN : l.length < N) : I77 N l a b kf = kf (mayMeetM l a b) := by
 unfold I77 mayMeetM
 rw [I40_ok hl hN, I40_ok hl hN, I143_ok hl hm hN]
 cases areTeamsM l
 ·rfl
 by_cases ha : findT l a ≥ 0
 rotate_left
 ·rw [decide_eq_false ha]; rfl
 by_cases hb : findT l b ≥ 0
 rotate_left
 ·rw [decide_eq_true ha, decide_eq_false hb]; rfl
 rw [decide_eq_true ha, decide_eq_true hb, (findT_in ha).1, (findT_in hb).1, I19_ok hl hm hN]
 simp only [cond_true, Bool.true_and]
 cases findT l a != findT l b
 ·rfl
 unfold clubT
 cases (l.getD (findT l a).toNat zQIIIIILIE).2.1 != (l.getD (findT l b).toNat zQIIIIILIE).2.1 <;> rfl
def okFor (t : List Team) (j : Judge) (id : Int) : Bool := decide (findT t id ≥ 0) && ((clubT t id != j.2.1) && !hasM j.2.2 id)
def mayJudgeM (t : List Team) (j : Judge) (p : Pair) : Bool := okFor t j p.1 && okFor t j p.2
theorem S225_ok {N : Nat} {t : List Team} {j : Judge} {p : Pair} {kf : Bool → Option Ret} (hl : t.length ≤ maxLen) (hN : t.length < N) (h1 : j.2.2.length ≤ maxLen) (h2 : j.2.2.length < N) : S225 N t j p kf = kf (mayJudgeM t j p) := by
 unfold S225 mayJudgeM okFor
 rw [S200_ok hl hN, S200_ok hl hN]
 by_cases ha : findT t p.1 ≥ 0
 rotate_left
 ·rw [decide_eq_false ha]; rfl
 by_cases hb : findT t p.2 ≥ 0
 rotate_left
 ·rw [decide_eq_true ha, decide_eq_false hb]; simp
 rw [decide_eq_true ha, decide_eq_true hb, (findT_in ha).1, (findT_in hb).1, S224_ok h1 h2]
 simp only [S224_ok h1 h2, cond_true, Bool.true_and]
 unfold clubT
 cases (t.getD (findT t p.1).toNat zQIIIIILIE).2.1 != j.2.1
 ·rfl
 cases (t.getD (findT t p.2).toNat zQIIIIILIE).2.1 != j.2.1
 ·simp
 cases hasM j.2.2 p.1 <;> simp
theorem I83_ok {N : Nat} {t : List Team} {j : Judge} {p : Pair} {kf : Bool → Option Ret} (hl : t.length ≤ maxLen) (hN : t.length < N) (h1 : j.2.2.length ≤ maxLen) (h2 : j.2.2.length < N) (h3 : 2 < N) : I83 N t j p kf = kf (mayJudgeM t j p) := by
 have key : ∀ (id : Int) (next : Option Ret), (I40 N t id (fun (r22_7 : Int) =>
     bif (decide (r22_7 < (0 : Int))) then
      kf false
     else
      bif (inB r22_7 (List.length t)) then
       bif ((List.getD t (Int.toNat r22_7) zQIIIIILIE).2.1 == j.2.1) then
        kf false
       else
        S82 N j.2.2 id (fun (r39_8 : Bool) =>
         bif r39_8 then
          kf false
         else
          next)
      else none)) = bif okFor t j id then next else kf false := fun id next => by
  rw [I40_ok hl hN]
  unfold okFor
  by_cases ha : findT t id ≥ 0
  rotate_left
  ·rw [decide_eq_false ha, decide_eq_true (by omega)]; rfl
  rw [decide_eq_true ha, decide_eq_false (by omega), (findT_in ha).1, S82_ok h1 h2]
  simp only [cond_true, cond_false, Bool.true_and]
  unfold clubT
  cases hc : (t.getD (findT t id).toNat zQIIIIILIE).2.1 == j.2.1
  ·simp only [bne, hc, Bool.not_false, Bool.true_and, cond_false]
   cases hasM j.2.2 id <;> rfl
  ·simp only [bne, hc, Bool.not_true, Bool.false_and, cond_false, cond_true]
 unfold I83
 rw [I83_l2_r (by rw [maxLen_eq]; simp) (by simpa using h3)]
 simp only [goL, key]
 unfold mayJudgeM
 cases okFor t j p.1
 ·rfl
 ·simp
  cases okFor t j p.2 <;> rfl
end Go.Pv.R
namespace Go.Pv.R
set_option linter.unusedVariables false
set_option linter.unusedSimpArgs false
theorem S196_ok {N : Nat} {l : List Team} {kf : Int → Option Ret} (hl : l.length ≤ maxLen) (hm : ∀ x ∈ l, x.met.length ≤ maxLen ∧ x.met.length < N) (hN : l.length < N) : S196 N l kf = kf (bif areTeamsM l then foldI (fun _ (x : Team) s => IntKind.wrap .i64 (s + x.2.2.1)) l 0 0 else 0) := by
 unfold S196
 rw [S196_l3_r hl hN]
 simp only [S175_ok hl hm hN]
 cases areTeamsM l with
 | false => cases l <;> rfl
 | true =>
  simp only [cond_true]
  rw [goL1_f (fun _ (x : Team) s => IntKind.wrap .i64 (s + x.2.2.1)) (fun i x s next h e => rfl)]
theorem I145_ok {N : Nat} {l : List Team} {kf : Int → Option Ret} (hl : l.length ≤ maxLen) (hm : ∀ x ∈ l, x.met.length ≤ maxLen ∧ x.met.length < N) (hN : l.length < N) : I145 N l kf = kf (bif areTeamsM l then foldI (fun _ (x : Team) s => IntKind.wrap .i64 (s + x.2.2.1)) l 0 0 else 0) := by
 unfold I145
 rw [I143_ok hl hm hN]
 cases areTeamsM l with
 | false => rfl
 | true =>
  simp only [cond_true, Bool.not_true, cond_false]
  rw [I145_l5_r hl hN, goL1_f (fun _ (x : Team) s => IntKind.wrap .i64 (s + x.2.2.1)) (fun i x s next h e => rfl)]
def totalWinsM (l : List Team) : Int := bif areTeamsM l then foldI (fun _ (x : Team) s => IntKind.wrap .i64 (s + x.2.2.1)) l 0 0 else 0
abbrev Ballot := QIIIE
def isBallotM (b : Ballot) : Bool := inR b.1 1 99 && (inR b.2.1 0 100 && (inR b.2.2 0 100 && (b.2.1 != b.2.2)))
theorem S199_ok {N : Nat} {b : Ballot} {kf : Bool → Option Ret} : S199 N b kf = kf (isBallotM b) := by
 unfold S199 isBallotM
 simp only [S195_ok]
 cases inR b.1 1 99 <;> simp
 cases inR b.2.1 0 100 <;> simp
 cases inR b.2.2 0 100 <;> simp
theorem I138_ok {N : Nat} {b : Ballot} {kf : Bool → Option Ret} : I138 N b kf = kf (isBallotM b) := by
 unfold I138 isBallotM
 simp only [I144_ok]
 cases inR b.1 1 99 <;> simp
 cases inR b.2.1 0 100 <;> simp
 cases inR b.2.2 0 100 <;> simp
def idsOf (r : List Pair) : List Int := r.flatMap fun p => [p.1, p.2]
def teamIds (l : List Team) : List Int := l.map fun x => x.1
def isRoundM (l : List Team) (r : List Pair) : Bool := r.all (fun p => mayMeetM l p.1 p.2) && l.all (fun x => decide ((idsOf r).count x.1 = 1))
theorem idsOf_len (r : List Pair) : (idsOf r).length = 2 * r.length := by
 induction r with
 | nil => rfl
 | cons p r ih => simp only [idsOf, List.flatMap_cons, List.length_append, List.length_cons, List.length_nil] at *; omega
theorem mayMeet_ids {l : List Team} {a b : Int} (h : mayMeetM l a b = true) : areTeamsM l = true ∧ a ∈ teamIds l ∧ b ∈ teamIds l ∧ a ≠ b := by
 unfold mayMeetM at h
 simp only [Bool.and_eq_true, decide_eq_true_eq] at h
 obtain ⟨h0, ha, hb, hne, _⟩ := h
 have mem : ∀ id : Int, findT l id ≥ 0 → id ∈ teamIds l := fun id hid => by
  obtain ⟨k, hk, _, h1, _⟩ := findM_pos (p := fun x : Team => x.1 == id) (l := l) (by unfold findT at hid; omega)
  exact List.mem_map.2 ⟨l[k], List.getElem_mem hk, by simpa using h1⟩
 refine ⟨h0, mem a ha, mem b hb, fun e => ?_⟩
 subst e
 simp at hne
theorem teams_nodup {l : List Team} (h : areTeamsM l = true) : (teamIds l).Nodup := by
 unfold areTeamsM at h
 simp only [Bool.and_eq_true] at h
 have hm := teams_mono h.2.1
 have key : ∀ (n : Nat) (r : List Team), l.drop n = r → (r.map fun x : Team => x.1).Nodup := by
  intro n r
  induction r generalizing n with
  | nil => intro _; exact List.nodup_nil
  | cons x r ih =>
   intro hd
   have hlt : n < l.length := by have := congrArg List.length hd; simp at this; omega
   rw [List.drop_eq_getElem_cons hlt] at hd
   injection hd with h1 h2
   rw [List.map_cons, List.nodup_cons]
   refine ⟨fun hx => ?_, ih (n + 1) h2⟩
   obtain ⟨y, hy, e⟩ := List.mem_map.1 hx
   rw [← h2] at hy
   obtain ⟨j, hj, rfl⟩ := List.mem_iff_getElem.1 hy
   rw [List.getElem_drop] at e
   have hj' : n + 1 + j < l.length := by simp at hj; omega
   have := hm n (n + 1 + j) hj' (by omega)
   rw [getD_nat _ _ hlt, h1] at this
   omega
 exact key 0 l rfl
theorem I17_ok {N : Nat} {l : List Team} {r : List Pair} {kf : Bool → Option Ret} (hl : l.length ≤ maxLen) (hm : ∀ x ∈ l, x.met.length ≤ maxLen ∧ x.met.length < N) (hN : l.length < N) (hr : r.length ≤ 1048576) (hrN : 2 * r.length < N) : I17 N l r kf = kf (isRoundM l r) := by
 have hML := maxLen_eq
 unfold I17
 rw [I17_l3_r (by omega) (by omega)]
 have key : ∀ (q : List Pair) (i : Nat) (s : List Int) (kend : List Int → Option Ret), r.drop i = q → s.length = 2 * i → goL1 (fun (i : Nat) (x : QIIE) (x5_2 : List Int) (next : List Int → Option Ret) =>
    I77 N l x.1 x.2 (fun (r22_7 : Bool) =>
     bif (!r22_7) then
      kf false
     else
      bif (decide ((List.length x5_2 + List.length [x.1, x.2]) * 1 ≤ 4398046511104)) then
       next (x5_2 ++ [x.1, x.2])
      else none)) kend q i s = bif q.all (fun p => mayMeetM l p.1 p.2) then kend (s ++ idsOf q) else kf false := by
  intro q
  induction q with
  | nil => intro i s kend _ _; simp [goL1, idsOf]
  | cons p q ih =>
   intro i s kend hd hs
   have hlt : i < r.length := by have := congrArg List.length hd; simp at this; omega
   rw [List.drop_eq_getElem_cons hlt] at hd
   injection hd with h1 h2
   simp only [goL1]
   rw [I77_ok hl hm hN]
   cases hmm : mayMeetM l p.1 p.2 with
   | false => simp [hmm]
   | true =>
    have hok : decide ((List.length s + List.length [p.1, p.2]) * 1 ≤ 4398046511104) = true := decide_eq_true (by simp; omega)
    simp only [Bool.not_true, cond_false]
    rw [hok, cond_true, ih (i + 1) _ kend h2 (by simp; omega)]
    simp [hmm, idsOf]
 refine Eq.trans (key r 0 [] _ rfl (by simp)) ?_
 unfold isRoundM
 cases hall : r.all (fun p => mayMeetM l p.1 p.2) with
 | false => rfl
 | true =>
  have hlen : (idsOf r).length ≤ maxLen ∧ (idsOf r).length < N := by rw [idsOf_len]; omega
  rw [cond_true, List.nil_append, I17_l10_r hl hN, goL_all (l := l) (p := fun _ x => decide ((idsOf r).count x.1 = 1)) (kf := kf false) (fun i x next h e => ?_) l 0 rfl, allI_all (p := fun x : Team => decide ((idsOf r).count x.1 = 1))]
  ·simp only [Bool.true_and]
   cases l.all fun x => decide ((idsOf r).count x.1 = 1) <;> rfl
  ·rw [I78_ok hlen.1 hlen.2, countM_eq hlen.1]
   by_cases h1 : (idsOf r).count x.1 = 1
   ·simp [h1]
   ·have : (((idsOf r).count x.1 : Int) != 1) = true := by rw [bne_iff_ne]; omega
    rw [this, decide_eq_false h1]
    rfl
theorem rounds_alike {l : List Team} {r : List Pair} : (r.all (fun p => mayMeetM l p.1 p.2) && (decide (idsOf r).Nodup && (areTeamsM l && decide ((idsOf r).length = l.length)))) = isRoundM l r := by
 unfold isRoundM
 cases hall : r.all (fun p => mayMeetM l p.1 p.2) with
 | false => rfl
 | true =>
  rw [Bool.true_and, Bool.true_and]
  rw [List.all_eq_true] at hall
  have hsub : ∀ x ∈ idsOf r, x ∈ teamIds l := fun x hx => by
   obtain ⟨p, hp, hx⟩ := List.mem_flatMap.1 hx
   obtain ⟨_, h1, h2, _⟩ := mayMeet_ids (hall p hp)
   simp at hx
   rcases hx with rfl | rfl
   ·exact h1
   ·exact h2
  cases ht : areTeamsM l with
  | true =>
   have := once_iff (teams_nodup ht) hsub
   apply Bool.eq_iff_iff.2
   rw [List.all_eq_true, Bool.true_and, Bool.and_eq_true, decide_eq_true_eq, decide_eq_true_eq]
   rw [show (teamIds l).length = l.length by simp [teamIds]] at this
   rw [← this]
   constructor
   ·intro h x hx; exact decide_eq_true (h x.1 (List.mem_map.2 ⟨x, hx, rfl⟩))
   ·intro h x hx
    obtain ⟨y, hy, rfl⟩ := List.mem_map.1 hx
    simpa using h y hy
  | false =>
   -- then there are no pairs, and there are teams
   cases r with
   | cons p r => have := (mayMeet_ids (hall p (by simp))).1; rw [ht] at this; cases this
   | nil =>
    cases l with
    | nil => simp [areTeamsM, allI] at ht
    | cons x l => simp [idsOf]
theorem S197_ok {N : Nat} {l : List Team} {r : List Pair} {kf : Bool → Option Ret} (hl : l.length ≤ maxLen) (hm : ∀ x ∈ l, x.met.length ≤ maxLen ∧ x.met.length < N) (hN : l.length < N) (hr : r.length ≤ 1048576) (hrN : 2 * r.length < N) : S197 N l r kf = kf (isRoundM l r) := by
 have hML := maxLen_eq
 unfold S197
 rw [S197_l3_r (by omega) (by omega)]
 have key : ∀ (q : List Pair) (i : Nat) (s : List Int) (kend : List Int → Option Ret), r.drop i = q → s.length = 2 * i → s.Nodup → goL1 (fun (i : Nat) (x : QIIE) (x5_3 : List Int) (next : List Int → Option Ret) =>
    S221 N l x.1 x.2 (fun (r25_6 : Bool) =>
     bif (!r25_6) then
      kf false
     else
      S224 N x5_3 x.1 (fun (r34_7 : Bool) =>
       bif r34_7 then
        kf false
       else
        S224 N x5_3 x.2 (fun (r43_8 : Bool) =>
         bif r43_8 then
          kf false
         else
          bif (decide ((List.length x5_3 + List.length [x.1, x.2]) * 1 ≤ 4398046511104)) then
           next (x5_3 ++ [x.1, x.2])
          else none)))) kend q i s = bif q.all (fun p => mayMeetM l p.1 p.2) && decide (s ++ idsOf q).Nodup then kend (s ++ idsOf q) else kf false := by
  intro q
  induction q with
  | nil => intro i s kend _ _ hnd; simp [goL1, idsOf, hnd]
  | cons p q ih =>
   intro i s kend hd hs hnd
   have hlt : i < r.length := by have := congrArg List.length hd; simp at this; omega
   rw [List.drop_eq_getElem_cons hlt] at hd
   injection hd with h1 h2
   simp only [goL1]
   rw [S221_ok hl hm hN]
   cases hmm : mayMeetM l p.1 p.2 with
   | false => simp [hmm]
   | true =>
    have hne := (mayMeet_ids hmm).2.2.2
    have hsl : s.length ≤ maxLen ∧ s.length < N := by omega
    have happ : s ++ idsOf (p :: q) = (s ++ [p.1, p.2]) ++ idsOf q := by simp [idsOf]
    simp only [Bool.not_true, cond_false]
    rw [S224_ok hsl.1 hsl.2]
    cases h1' : hasM s p.1 with
    | true =>
     have hmem := hasM_iff.1 h1'
     have : ¬ (s ++ idsOf (p :: q)).Nodup := fun h => by
      rw [List.nodup_append] at h
      exact h.2.2 p.1 hmem p.1 (by simp [idsOf]) rfl
     rw [decide_eq_false this]
     simp
    | false =>
     rw [cond_false, S224_ok hsl.1 hsl.2]
     cases h2' : hasM s p.2 with
     | true =>
      have hmem := hasM_iff.1 h2'
      have : ¬ (s ++ idsOf (p :: q)).Nodup := fun h => by
       rw [List.nodup_append] at h
       exact h.2.2 p.2 hmem p.2 (by simp [idsOf]) rfl
      rw [decide_eq_false this]
      simp
     | false =>
      have hok : decide ((List.length s + List.length [p.1, p.2]) * 1 ≤ 4398046511104) = true := decide_eq_true (by simp; omega)
      have n1 : p.1 ∉ s := fun h => by rw [hasM_iff.2 h] at h1'; cases h1'
      have n2 : p.2 ∉ s := fun h => by rw [hasM_iff.2 h] at h2'; cases h2'
      have hnd2 : (s ++ [p.1, p.2]).Nodup := by
       rw [List.nodup_append]
       refine ⟨hnd, ?_, ?_⟩
       ·rw [List.nodup_cons]
        exact ⟨by simpa using hne, by simp⟩
       ·intro a ha b hb e
        subst e
        simp at hb
        rcases hb with rfl | rfl
        ·exact n1 ha
        ·exact n2 ha
      rw [cond_false, hok, cond_true, ih (i + 1) _ kend h2 (by simp; omega) hnd2, happ]
      simp [hmm]
 refine Eq.trans (key r 0 [] _ rfl (by simp) List.nodup_nil) ?_
 rw [← rounds_alike]
 rw [List.nil_append]
 cases r.all (fun p => mayMeetM l p.1 p.2)
 ·rfl
 cases decide (idsOf r).Nodup
 ·rfl
 simp only [Bool.true_and, cond_true]
 rw [S175_ok hl hm hN]
 cases areTeamsM l
 ·rfl
 simp only [cond_true, Bool.true_and]
 congr 1
 apply Bool.eq_iff_iff.2
 rw [beq_iff_eq, decide_eq_true_eq]
 omega
theorem findJ_in {l : List Judge} {id : Int} (h : findJ l id ≥ 0) : inB (findJ l id) l.length = true ∧ (findJ l id).toNat < l.length := by
 obtain ⟨k, hk, e, _⟩ := findM_pos (p := fun x : Judge => x.1 == id) (l := l) (by unfold findJ at h; omega)
 have e : findJ l id = (k : Int) := e
 rw [e]
 exact ⟨inB_nat hk, by simpa using hk⟩
def seatP (t : List Team) (l : List Judge) (r : List Pair) (ids : List Int) (i : Nat) : Bool := decide (findJ l (ids.getD i 0) ≥ 0) && (!hasM (ids.take i) (ids.getD i 0) && mayJudgeM t (l.getD (findJ l (ids.getD i 0)).toNat zQIILIE) (r.getD i zQIIE))
def areSeatedM (t : List Team) (l : List Judge) (r : List Pair) (ids : List Int) : Bool := decide (ids.length = r.length) && (areJudgesM l && allI (fun i _ => seatP t l r ids i) r 0)
theorem S198_ok {N : Nat} {t : List Team} {l : List Judge} {r : List Pair} {ids : List Int} {kf : Bool → Option Ret} (ht : t.length ≤ maxLen) (htN : t.length < N) (hl : l.length ≤ maxLen) (hm : ∀ x ∈ l, x.2.2.length ≤ maxLen ∧ x.2.2.length < N) (hN : l.length < N)
  (hr : r.length ≤ maxLen) (hrN : r.length < N) : S198 N t l r ids kf = kf (areSeatedM t l r ids) := by
 unfold S198 areSeatedM
 by_cases hlen : ids.length = r.length
 rotate_left
 ·have : ((ids.length : Int) != (r.length : Int)) = true := by rw [bne_iff_ne]; omega
  rw [this, decide_eq_false hlen]; rfl
 have : ((ids.length : Int) != (r.length : Int)) = false := by rw [hlen]; exact bne_self_eq_false _
 rw [this, decide_eq_true hlen, cond_false, S178_ok hl hm hN]
 cases areJudgesM l
 ·rfl
 simp only [Bool.not_true, cond_false, Bool.true_and]
 rw [S198_l4_r hr hrN, goL_all (l := r) (p := fun i _ => seatP t l r ids i) (kf := kf false) (fun i x next h e => ?_) r 0 rfl]
 ·cases allI (fun i _ => seatP t l r ids i) r 0 <;> rfl
 ·have hi : i < ids.length := by omega
  have hdec : (decide ((0 : Int) ≤ (0 : Int)) && decide ((0 : Int) ≤ (i : Int)) && decide ((i : Int) ≤ (List.length ids : Int))) = true := by simp; omega
  rw [inB_nat hi, cond_true, hdec]
  simp only [Int.toNat_natCast, cond_true]
  rw [S126_ok hl hN]
  unfold seatP
  by_cases hf : findJ l (ids.getD i 0) ≥ 0
  rotate_left
  ·rw [decide_eq_false hf, decide_eq_true (by omega)]; rfl
  obtain ⟨f1, f2⟩ := findJ_in hf
  have hx : l.getD (findJ l (ids.getD i 0)).toNat zQIILIE ∈ l := by rw [getD_nat _ _ f2]; exact List.getElem_mem f2
  obtain ⟨m1, m2⟩ := hm _ hx
  rw [decide_eq_true hf, decide_eq_false (by omega), cond_false]
  have htk : (List.drop (Int.toNat 0) (List.take i ids)) = ids.take i := rfl
  rw [htk, S224_ok (by simp; omega) (by simp; omega), f1]
  cases hasM (ids.take i) (ids.getD i 0)
  ·rw [cond_false, cond_true, S225_ok ht htN m1 m2]
   have hrx : r.getD i zQIIE = x := by rw [getD_nat _ _ h, e]
   rw [hrx]
   cases mayJudgeM t (l.getD (findJ l (ids.getD i 0)).toNat zQIILIE) x <;> rfl
  ·rfl
theorem I18_ok {N : Nat} {t : List Team} {l : List Judge} {r : List Pair} {ids : List Int} {kf : Bool → Option Ret} (ht : t.length ≤ maxLen) (htN : t.length < N) (hl : l.length ≤ maxLen) (hm : ∀ x ∈ l, x.2.2.length ≤ maxLen ∧ x.2.2.length < N) (hN : l.length < N)
  (hr : r.length ≤ maxLen) (hrN : r.length < N) (h2N : 2 < N) : I18 N t l r ids kf = kf (areSeatedM t l r ids) := by
 unfold I18 areSeatedM
 rw [I79_ok hl hm hN]
 cases areJudgesM l
 ·simp
 simp only [Bool.not_true, cond_false, Bool.true_and]
 by_cases hlen : ids.length = r.length
 rotate_left
 ·have : ((ids.length : Int) != (r.length : Int)) = true := by rw [bne_iff_ne]; omega
  rw [this, decide_eq_false hlen]; rfl
 have : ((ids.length : Int) != (r.length : Int)) = false := by rw [hlen]; exact bne_self_eq_false _
 rw [this, decide_eq_true hlen, cond_false, Bool.true_and]
 have hall : allI (fun i _ => seatP t l r ids i) r 0 = allI (fun i _ => seatP t l r ids i) ids 0 := by
  apply Bool.eq_iff_iff.2
  rw [allI_iff, allI_iff]
  exact ⟨fun h j hj => h j (by omega), fun h j hj => h j (by omega)⟩
 rw [hall, I18_l4_r (by omega) (by omega), goL_all (l := ids) (p := fun i _ => seatP t l r ids i) (kf := kf false) (fun i x next h e => ?_) ids 0 rfl]
 ·cases allI (fun i _ => seatP t l r ids i) ids 0 <;> rfl
 ·have hi : i < r.length := by omega
  have hdec : (decide ((0 : Int) ≤ (0 : Int)) && decide ((0 : Int) ≤ (i : Int)) && decide ((i : Int) ≤ (List.length ids : Int))) = true := by simp; omega
  have hid : ids.getD i 0 = x := by rw [getD_nat _ _ h, e]
  rw [hdec]
  simp only [Int.toNat_natCast, cond_true]
  rw [S80_ok hl hN]
  unfold seatP
  rw [hid]
  by_cases hf : findJ l x ≥ 0
  rotate_left
  ·rw [decide_eq_false hf, decide_eq_true (by omega)]; rfl
  obtain ⟨f1, f2⟩ := findJ_in hf
  have hx : l.getD (findJ l x).toNat zQIILIE ∈ l := by rw [getD_nat _ _ f2]; exact List.getElem_mem f2
  obtain ⟨m1, m2⟩ := hm _ hx
  rw [decide_eq_true hf, decide_eq_false (by omega), cond_false]
  have htk : (List.drop (Int.toNat 0) (List.take i ids)) = ids.take i := rfl
  rw [htk, S82_ok (by simp; omega) (by simp; omega), f1, inB_nat hi]
  cases hasM (ids.take i) x
  ·rw [cond_false, cond_true, cond_true, I83_ok ht htN m1 m2 h2N]
   cases mayJudgeM t (l.getD (findJ l x).toNat zQIILIE) (r.getD i zQIIE) <;> rfl
  ·rfl
end Go.Pv.R
namespace Go.Pv.R
set_option linter.unusedVariables false
set_option linter.unusedSimpArgs false
abbrev Club := QLQIIIIILIELQIILIELQIIELILQIIIELQIIIIEIE
structure ClubOK (c : Club) (N : Nat) : Prop where
 tl : c.1.length ≤ maxLen
 tm : ∀ x : Team, x ∈ c.1 → x.met.length ≤ maxLen ∧ x.met.length < N
 tN : c.1.length < N
 jl : c.2.1.length ≤ maxLen
 jm : ∀ x ∈ c.2.1, x.2.2.length ≤ maxLen ∧ x.2.2.length < N
 jN : c.2.1.length < N
 rl : c.2.2.1.length ≤ 1048576
 rN : 2 * c.2.2.1.length < N
 sl : c.2.2.2.1.length ≤ 1048576
 sN : c.2.2.2.1.length < N
 bl : c.2.2.2.2.1.length ≤ 1048576
 bN : c.2.2.2.2.1.length < N
 ml : c.2.2.2.2.2.1.length ≤ 1048576
 mN : c.2.2.2.2.2.1.length < N
 n8 : 8 < N
 tb : c.1.length ≤ 1048700
 tmb : ∀ x : Team, x ∈ c.1 → x.met.length ≤ 1048700
 jb : c.2.1.length ≤ 1048700
 jmb : ∀ x : Judge, x ∈ c.2.1 → x.2.2.length ≤ 1048700
theorem sizeV_club (c : Club) : sizeV tQLQIIIIILIELQIILIELQIIELILQIIIELQIIIIEIE c = sizeV (.sl tQIIIIILIE) c.1 + (sizeV (.sl tQIILIE) c.2.1 + (sizeV (.sl tQIIE) c.2.2.1 + (sizeV (.sl (.int .i64)) c.2.2.2.1 + (sizeV (.sl tQIIIE) c.2.2.2.2.1 + sizeV (.sl tQIIIIE) c.2.2.2.2.2.1)))) := rfl
theorem club_ok {c : Club} {N : Nat} (hw : wf tQLQIIIIILIELQIILIELQIIELILQIIIELQIIIIEIE c) (hb : sizeV tQLQIIIIILIELQIILIELQIIELILQIIIELQIIIIEIE c ≤ 1048576) (hN : 2 * sizeV tQLQIIIIILIELQIILIELQIIELILQIIIELQIIIIEIE c + 8 < N) : ClubOK c N := by
 have hs := sizeV_club c
 have h1 := sizeV_len (t := tQIIIIILIE) c.1
 have h2 := sizeV_len (t := tQIILIE) c.2.1
 have h3 := sizeV_len (t := tQIIE) c.2.2.1
 have h4 := sizeV_len (t := .int .i64) c.2.2.2.1
 have h5 := sizeV_len (t := tQIIIE) c.2.2.2.2.1
 have h6 := sizeV_len (t := tQIIIIE) c.2.2.2.2.2.1
 have hm := maxLen_eq
 exact ⟨by omega, teams_small hw.1 (by omega), by omega, by omega, judges_small hw.2.1 (by omega), by omega, by omega, by omega, by omega, by omega, by omega, by omega, by omega, by omega, by omega, by omega, fun x hx => by
  have q1 := sizeV_mem (t := tQIIIIILIE) hx
  have q2 : sizeV tQIIIIILIE x = sizeV (.sl (.int .i64)) x.2.2.2.2.2 := by simp [sizeV]
  have q3 := sizeV_len (t := .int .i64) x.2.2.2.2.2
  show x.2.2.2.2.2.length ≤ 1048700
  omega, by omega, fun x hx => by
  have q1 := sizeV_mem (t := tQIILIE) hx
  have q2 : sizeV tQIILIE x = sizeV (.sl (.int .i64)) x.2.2 := by simp [sizeV]
  have q3 := sizeV_len (t := .int .i64) x.2.2
  omega⟩
def emptyB (b : Ballot) : Bool := (decide ((b.1 : Int) = 0)) && ((decide ((b.2.1 : Int) = 0)) && (decide ((b.2.2 : Int) = 0)))
def ballotP (c : Club) (i : Nat) (b : Ballot) : Bool := emptyB b || (isBallotM b && (b.1 == c.2.2.2.1.getD i 0))
def isClubM (c : Club) : Bool := areTeamsM c.1 && (areJudgesM c.2.1 && (areMinM c.2.2.2.2.2.1 && (decide (c.2.2.2.1.length = c.2.2.1.length) && (decide (c.2.2.2.2.1.length = c.2.2.1.length) &&
 ((decide (c.2.2.1.length = 0) || (isRoundM c.1 c.2.2.1 && areSeatedM c.1 c.2.1 c.2.2.1 c.2.2.2.1)) && (allI (ballotP c) c.2.2.2.2.1 0 && (inR c.2.2.2.2.2.2 0 1000 && (totalWinsM c.1 == c.2.2.2.2.2.2))))))))
theorem len_ne {a b : Nat} : ((a : Int) != (b : Int)) = !decide (a = b) := by
 apply Bool.eq_iff_iff.2
 simp
 omega
theorem I39_j1_ok {N : Nat} {c : Club} {kf : Bool → Option Ret} (h : ClubOK c N) (hs : c.2.2.2.1.length = c.2.2.1.length) (hb : c.2.2.2.2.1.length = c.2.2.1.length) : I39_j1 N c kf = kf (allI (ballotP c) c.2.2.2.2.1 0 && (inR c.2.2.2.2.2.2 0 1000 && (totalWinsM c.1 == c.2.2.2.2.2.2))) := by
 have hm := maxLen_eq
 have := h.bl
 unfold I39_j1
 rw [I39_l6_r (by omega) h.bN, goL_all (l := c.2.2.2.2.1) (p := ballotP c) (kf := kf false) (fun i b next hi e => ?_) c.2.2.2.2.1 0 rfl]
 ·cases allI (ballotP c) c.2.2.2.2.1 0
  ·rfl
  rw [cond_true, I144_ok]
  cases inR c.2.2.2.2.2.2 0 1000
  ·rfl
  simp only [cond_true, Bool.true_and]
  rw [I145_ok h.tl h.tm h.tN]
  rfl
 ·rw [I138_ok, inB_nat (by omega), cond_true, Int.toNat_natCast]
  unfold ballotP emptyB
  cases (decide ((b.1 : Int) = 0)) && ((decide ((b.2.1 : Int) = 0)) && (decide ((b.2.2 : Int) = 0)))
  ·simp only [Bool.not_false, cond_true, Bool.false_or]
   cases isBallotM b
   ·rfl
   ·cases hc : b.1 == c.2.2.2.1.getD i 0 <;> simp only [bne, hc, Bool.not_true, Bool.not_false, cond_true, cond_false, Bool.and_true, Bool.and_false]
  ·rfl
theorem S122_j1_ok {N : Nat} {c : Club} {kf : Bool → Option Ret} (h : ClubOK c N) (hs : c.2.2.2.1.length = c.2.2.1.length) (hb : c.2.2.2.2.1.length = c.2.2.1.length) : S122_j1 N c kf = kf (allI (ballotP c) c.2.2.2.2.1 0) := by
 have hm := maxLen_eq
 have := h.bl
 unfold S122_j1
 rw [S122_l7_r (by omega) h.bN, goL_all (l := c.2.2.2.2.1) (p := ballotP c) (kf := kf false) (fun i b next hi e => ?_) c.2.2.2.2.1 0 rfl]
 ·cases allI (ballotP c) c.2.2.2.2.1 0 <;> rfl
 ·rw [S199_ok, inB_nat (by omega), cond_true, Int.toNat_natCast]
  unfold ballotP emptyB
  cases (decide ((b.1 : Int) = 0)) && ((decide ((b.2.1 : Int) = 0)) && (decide ((b.2.2 : Int) = 0)))
  ·simp only [Bool.not_false, cond_true, Bool.false_or]
   cases isBallotM b
   ·rfl
   ·cases hc : b.1 == c.2.2.2.1.getD i 0 <;> simp only [bne, hc, Bool.not_true, Bool.not_false, cond_true, cond_false, Bool.and_true, Bool.and_false]
  ·rfl
theorem I39_ok {N : Nat} {c : Club} {kf : Bool → Option Ret} (h : ClubOK c N) : I39 N c kf = kf (isClubM c) := by
 have hm := maxLen_eq
 have hml := h.ml
 have h8 := h.n8
 have hr := h.rl
 have hrN := h.rN
 unfold I39 isClubM
 rw [I143_ok h.tl h.tm h.tN]
 cases areTeamsM c.1
 ·rfl
 simp only [Bool.not_true, cond_false, Bool.true_and]
 rw [I79_ok h.jl h.jm h.jN]
 cases areJudgesM c.2.1
 ·rfl
 simp only [Bool.not_true, cond_false, Bool.true_and]
 rw [I75_ok (by omega) h.mN (by omega)]
 cases areMinM c.2.2.2.2.2.1
 ·rfl
 simp only [Bool.not_true, cond_false, Bool.true_and, len_ne]
 by_cases hs : c.2.2.2.1.length = c.2.2.1.length
 rotate_left
 ·rw [decide_eq_false hs]; rfl
 by_cases hb : c.2.2.2.2.1.length = c.2.2.1.length
 rotate_left
 ·rw [decide_eq_false hb, decide_eq_true hs]; rfl
 rw [decide_eq_true hs, decide_eq_true hb]
 simp only [Bool.not_true, cond_false, Bool.true_and]
 unfold I16
 by_cases h0 : c.2.2.1.length = 0
 ·rw [decide_eq_false (by omega)]
  simp only [cond_false]
  rw [I39_j1_ok h hs hb, decide_eq_true h0]
  rfl
 ·rw [decide_eq_true (by omega)]
  simp only [cond_true]
  rw [I17_ok h.tl h.tm h.tN h.rl h.rN, decide_eq_false h0]
  cases isRoundM c.1 c.2.2.1
  ·rfl
  simp only [Bool.not_true, cond_false, Bool.true_and, Bool.false_or]
  rw [I18_ok h.tl h.tN h.jl h.jm h.jN (by omega) (by omega) (by omega)]
  cases areSeatedM c.1 c.2.1 c.2.2.1 c.2.2.2.1
  ·rfl
  simp only [Bool.not_true, cond_false, Bool.true_and]
  exact I39_j1_ok h hs hb
theorem S122_ok {N : Nat} {c : Club} {kf : Bool → Option Ret} (h : ClubOK c N) : S122 N c kf = kf (isClubM c) := by
 have hm := maxLen_eq
 have hml := h.ml
 have h8 := h.n8
 have hr := h.rl
 have hrN := h.rN
 unfold S122 isClubM
 rw [S175_ok h.tl h.tm h.tN]
 cases areTeamsM c.1
 ·rfl
 simp only [Bool.not_true, cond_false, Bool.true_and]
 rw [S178_ok h.jl h.jm h.jN]
 cases areJudgesM c.2.1
 ·rfl
 simp only [Bool.not_true, cond_false, Bool.true_and]
 rw [S158_ok (by omega) h.mN (by omega)]
 cases areMinM c.2.2.2.2.2.1
 ·rfl
 simp only [Bool.not_true, cond_false, Bool.true_and, len_ne]
 by_cases hs : c.2.2.2.1.length = c.2.2.1.length
 rotate_left
 ·rw [decide_eq_false hs]; rfl
 by_cases hb : c.2.2.2.2.1.length = c.2.2.1.length
 rotate_left
 ·rw [decide_eq_false hb, decide_eq_true hs]; rfl
 rw [decide_eq_true hs, decide_eq_true hb]
 simp only [Bool.not_true, cond_false, Bool.true_and, S195_ok]
 cases inR c.2.2.2.2.2.2 0 1000
 ·simp
 simp only [Bool.not_true, cond_false, Bool.true_and]
 rw [S196_ok h.tl h.tm h.tN]
 show (bif totalWinsM c.1 != c.2.2.2.2.2.2 then kf false else _) = _
 cases ht : totalWinsM c.1 == c.2.2.2.2.2.2
 ·simp only [bne, ht, Bool.not_false, cond_true, Bool.and_false]
 simp only [bne, ht, Bool.not_true, cond_false, Bool.and_true]
 by_cases h0 : c.2.2.1.length = 0
 ·rw [decide_eq_false (by omega), cond_false, S122_j1_ok h hs hb, decide_eq_true h0]
  rfl
 ·rw [decide_eq_true (by omega), cond_true, S197_ok h.tl h.tm h.tN h.rl h.rN, decide_eq_false h0]
  cases isRoundM c.1 c.2.2.1
  ·rfl
  simp only [Bool.not_true, cond_false, Bool.true_and, Bool.false_or]
  rw [S198_ok h.tl h.tN h.jl h.jm h.jN (by omega) (by omega)]
  cases areSeatedM c.1 c.2.1 c.2.2.1 c.2.2.2.1
  ·rfl
  simp only [Bool.not_true, cond_false, Bool.true_and]
  exact S122_j1_ok h hs hb
def waitM (c : Club) : List Int := gatherI (fun _ b => emptyB b) (fun i _ => (i : Int)) c.2.2.2.2.1 0
theorem S123_ok {N : Nat} {c : Club} {kf : List Int → Option Ret} (h : ClubOK c N) : S123 N c kf = kf (waitM c) := by
 have hm := maxLen_eq
 have := h.bl
 unfold S123
 rw [S123_l4_r (by omega) h.bN, goL1_gather (l := c.2.2.2.2.1) (c := fun _ b => emptyB b) (f := fun i _ => (i : Int)) (fun i b s next hi e hs => ?_) c.2.2.2.2.1 0 [] rfl (by simp), List.nil_append]
 ·rfl
 ·have hok : decide ((List.length s + List.length [(i : Int)]) * 1 ≤ 4398046511104) = true := decide_eq_true (by simp; omega)
  rw [hok, cond_true]
  rfl
theorem I41_ok {N : Nat} {c : Club} {kf : List Int → Option Ret} (h : ClubOK c N) : I41 N c kf = kf (waitM c) := by
 have hm := maxLen_eq
 have := h.bl
 unfold I41
 rw [I41_l3_r (by omega) h.bN, goL1_gather (l := c.2.2.2.2.1) (c := fun _ b => emptyB b) (f := fun i _ => (i : Int)) (fun i b s next hi e hs => ?_) c.2.2.2.2.1 0 [] rfl (by simp), List.nil_append]
 ·rfl
 ·have hok : decide ((List.length s + List.length [(i : Int)]) * 1 ≤ 4398046511104) = true := decide_eq_true (by simp; omega)
  rw [hok, cond_true]
  rfl
theorem inR_iff {a b c : Int} : inR a b c = true ↔ b ≤ a ∧ a ≤ c := by unfold inR; simp
end Go.Pv.R
namespace Go.Pv
set_option linter.unusedVariables false
set_option linter.unusedSimpArgs false
end Go.Pv
namespace Go.Pv.R
set_option linter.unusedVariables false
set_option linter.unusedSimpArgs false
end Go.Pv.R
namespace Go.Pv.R
set_option linter.unusedVariables false
set_option linter.unusedSimpArgs false
end Go.Pv.R
namespace Go.Pv.R
set_option linter.unusedVariables false
set_option linter.unusedSimpArgs false
theorem gatherI_all {α : Type} : ∀ (l : List α) (i : Nat), gatherI (fun _ _ => true) (fun _ x => x) l i = l
 | [], _ => rfl
 | x :: r, i => by simp only [gatherI, cond_true]; rw [gatherI_all r (i + 1)]
theorem goL1_copy {α : Type} {body : Nat → α → List α → (List α → Option Ret) → Option Ret} {kend : List α → Option Ret} {l : List α}
  (hb : ∀ (i : Nat) (x : α) (s : List α) (next : List α → Option Ret) (h : i < l.length), l[i] = x → s.length ≤ i → body i x s next = next (s ++ [x])) : goL1 body kend l 0 [] = kend l := by
 rw [goL1_gather (l := l) (c := fun _ _ => true) (f := fun _ x => x) (fun i x s next h e hs => by rw [hb i x s next h e hs]; rfl) l 0 [] rfl (by simp), gatherI_all, List.nil_append]
theorem clone_any {α : Type} {l : List α} {b : Bool} {kf : List α → Option Ret} (hb : b = true) :
  (bif List.isEmpty l then both (kf []) (bif b then kf ([] ++ l) else none) else bif b then kf ([] ++ l) else none) = kf l := by
 subst hb
 cases l with
 | nil => exact both_self _
 | cons x r => rfl
theorem S166_ok {N : Nat} {l : List Int} {kf : List Int → Option Ret} (hl : l.length ≤ 1048700) : S166 N l kf = kf l := by
 exact clone_any (decide_eq_true (by simp only [List.length_nil]; omega))
theorem S165_ok {N : Nat} {l : List QIIE} {kf : List QIIE → Option Ret} (hl : l.length ≤ 1048576) : S165 N l kf = kf l := clone_any (decide_eq_true (by simp only [List.length_nil]; omega))
theorem S167_ok {N : Nat} {l : List QIIIE} {kf : List QIIIE → Option Ret} (hl : l.length ≤ 1048576) : S167 N l kf = kf l := clone_any (decide_eq_true (by simp only [List.length_nil]; omega))
theorem S168_ok {N : Nat} {l : List QIIIIE} {kf : List QIIIIE → Option Ret} (hl : l.length ≤ 1048576) : S168 N l kf = kf l := clone_any (decide_eq_true (by simp only [List.length_nil]; omega))
theorem S173_ok {N : Nat} {l : List Team} {kf : List Team → Option Ret} (hl : l.length ≤ 1048700) (hm : ∀ x : Team, x ∈ l → x.met.length ≤ 1048700) (hN : l.length < N) : S173 N l kf = kf l := by
 have h0 := maxLen_eq
 unfold S173
 rw [S173_l3_r (by omega) hN]
 refine goL1_copy (l := l) fun i x s next h e hs => ?_
 have hx : x ∈ l := by rw [← e]; exact List.getElem_mem h
 have hxm : x.2.2.2.2.2.length ≤ 1048700 := hm x hx
 rw [decide_eq_true (by simp only [List.length_nil]; omega), decide_eq_true (by simp only [List.length_cons, List.length_nil]; omega)]
 rfl
theorem S174_ok {N : Nat} {l : List Judge} {kf : List Judge → Option Ret} (hl : l.length ≤ 1048700) (hm : ∀ x : Judge, x ∈ l → x.2.2.length ≤ 1048700) (hN : l.length < N) : S174 N l kf = kf l := by
 have h0 := maxLen_eq
 unfold S174
 rw [S174_l3_r (by omega) hN]
 refine goL1_copy (l := l) fun i x s next h e hs => ?_
 have hx : x ∈ l := by rw [← e]; exact List.getElem_mem h
 have hxm : x.2.2.length ≤ 1048700 := hm x hx
 rw [decide_eq_true (by simp only [List.length_nil]; omega), decide_eq_true (by simp only [List.length_cons, List.length_nil]; omega)]
 rfl
theorem I163_ok {N : Nat} {l : List Team} {kf : List Team → Option Ret} (hl : l.length ≤ 1048700) (hm : ∀ x : Team, x ∈ l → x.met.length ≤ 1048700) (hN : l.length < N) : I163 N l kf = kf l := by
 have h0 := maxLen_eq
 unfold I163
 rw [I163_l3_r (by omega) hN]
 refine goL1_copy (l := l) fun i x s next h e hs => ?_
 have hx : x ∈ l := by rw [← e]; exact List.getElem_mem h
 have hxm : x.2.2.2.2.2.length ≤ 1048700 := hm x hx
 rw [S166_ok hxm, decide_eq_true (by simp only [List.length_cons, List.length_nil]; omega)]
 rfl
theorem I164_ok {N : Nat} {l : List Judge} {kf : List Judge → Option Ret} (hl : l.length ≤ 1048700) (hm : ∀ x : Judge, x ∈ l → x.2.2.length ≤ 1048700) (hN : l.length < N) : I164 N l kf = kf l := by
 have h0 := maxLen_eq
 unfold I164
 rw [I164_l3_r (by omega) hN]
 refine goL1_copy (l := l) fun i x s next h e hs => ?_
 have hx : x ∈ l := by rw [← e]; exact List.getElem_mem h
 have hxm : x.2.2.length ≤ 1048700 := hm x hx
 rw [S166_ok hxm, decide_eq_true (by simp only [List.length_cons, List.length_nil]; omega)]
 rfl
theorem S90_ok {N : Nat} {c : Club} {kf : Club → Option Ret} (h : ClubOK c N) : S90 N c kf = kf c := by
 have h0 := maxLen_eq
 have h1 := h.rl
 have h2 := h.sl
 have h3 := h.bl
 have h4 := h.ml
 unfold S90
 rw [S173_ok h.tb h.tmb h.tN, S174_ok h.jb h.jmb h.jN, decide_eq_true (by simp only [List.length_nil]; omega), decide_eq_true (by simp only [List.length_nil]; omega), decide_eq_true (by simp only [List.length_nil]; omega), decide_eq_true (by simp only [List.length_nil]; omega)]
 rfl
theorem I70_ok {N : Nat} {c : Club} {kf : Club → Option Ret} (h : ClubOK c N) : I70 N c kf = kf c := by
 have h0 := maxLen_eq
 have h2 := h.sl
 unfold I70
 rw [I163_ok h.tb h.tmb h.tN, I164_ok h.jb h.jmb h.jN, S165_ok h.rl, S166_ok (by omega), S167_ok h.bl, S168_ok h.ml]
abbrev Line := QIIIIE
def lastM (l : List Line) : Int := (l.getLast?.map fun x => x.2.2.2).getD 0
theorem lastM_eq {l : List Line} (h0 : l ≠ []) : lastM l = (List.getD l (l.length - 1) zQIIIIE).2.2.2 := by
 unfold lastM
 rw [List.getLast?_eq_getElem?]
 have h1 : l.length - 1 < l.length := by
  cases l with
  | nil => exact absurd rfl h0
  | cons x r => simp
 rw [List.getD_eq_getElem?_getD, List.getElem?_eq_getElem h1]
 rfl
theorem last_any {l : List Line} {kf : Int → Option Ret} (hl : l.length ≤ maxLen) : (bif ((List.length l : Int) == (0 : Int)) then kf (0 : Int) else
  bif (inB (IntKind.wrap .i64 ((List.length l : Int) - (1 : Int))) (List.length l)) then kf (List.getD l (Int.toNat (IntKind.wrap .i64 ((List.length l : Int) - (1 : Int)))) zQIIIIE).2.2.2 else none) = kf (lastM l) := by
 have hm := maxLen_eq
 cases l with
 | nil => rfl
 | cons x r =>
  have e1 : ((List.length (x :: r) : Int) == (0 : Int)) = false := by simp only [List.length_cons]; exact beq_eq_false_iff_ne.2 (by omega)
  rw [wrap64 (n := (List.length (x :: r) : Int) - 1) (by omega) (by omega)]
  have e2 : (List.length (x :: r) : Int) - 1 = ((List.length (x :: r) - 1 : Nat) : Int) := by simp only [List.length_cons]; omega
  rw [e1, e2, inB_nat (by simp), lastM_eq (by simp)]
  simp only [cond_true, cond_false, Int.toNat_natCast]
theorem S226_ok {N : Nat} {l : List Line} {kf : Int → Option Ret} (hl : l.length ≤ maxLen) : S226 N l kf = kf (lastM l) := last_any hl
theorem I234_ok {N : Nat} {l : List Line} {kf : Int → Option Ret} (hl : l.length ≤ maxLen) : I234 N l kf = kf (lastM l) := last_any hl
def lineM (l : List Line) (what who : Int) : Line := ((l.length : Int) + 1, (what, (who, sealM (lastM l) ((l.length : Int) + 1, (what, (who, 0))))))
def wroteM (l : List Line) (what who : Int) : Bool := areMinM (l ++ [lineM l what who])
def writeM (l : List Line) (what who : Int) : List Line := bif wroteM l what who then l ++ [lineM l what who] else l
theorem writeM_len (l : List Line) (what who : Int) : (writeM l what who).length ≤ l.length + 1 := by
 unfold writeM
 cases wroteM l what who <;> simp
theorem wrote_len {l : List Line} {what who : Int} (h : wroteM l what who = true) : (writeM l what who).length ≤ 200 := by
 unfold writeM
 rw [h]
 unfold wroteM areMinM at h
 simp only [Bool.and_eq_true, decide_eq_true_eq] at h
 exact h.1
theorem S180_ok {N : Nat} {l : List Line} {what who : Int} {kf : List Line → Bool → Option Ret} (hl : l.length ≤ 1048576) (hN : l.length + 1 < N) (h4 : 4 < N) : S180 N l what who kf = kf (writeM l what who) (wroteM l what who) := by
 have hm := maxLen_eq
 unfold S180
 rw [S226_ok (by omega), S218_ok h4, wrap64 (n := (List.length l : Int) + 1) (by omega) (by omega), decide_eq_true (by simp only [List.length_nil]; omega)]
 simp only [List.nil_append, cond_true]
 rw [decide_eq_true (by simp only [List.length_cons, List.length_nil]; omega), cond_true, S158_ok (by simp only [List.length_append, List.length_cons, List.length_nil]; omega) (by simp only [List.length_append, List.length_cons, List.length_nil]; omega) h4]
 show (bif (!wroteM l what who) then kf l false else kf (l ++ [lineM l what who]) true) = _
 unfold writeM
 cases wroteM l what who <;> rfl
theorem I189_ok {N : Nat} {l : List Line} {what who : Int} {kf : List Line → Bool → Option Ret} (hl : l.length ≤ 1048576) (hN : l.length + 1 < N) (h4 : 4 < N) : I189 N l what who kf = kf (writeM l what who) (wroteM l what who) := by
 have hm := maxLen_eq
 unfold I189
 rw [I234_ok (by omega), I169_ok h4, wrap64 (n := (List.length l : Int) + 1) (by omega) (by omega), S168_ok hl, decide_eq_true (by simp only [List.length_cons, List.length_nil]; omega), cond_true, I75_ok (by simp only [List.length_append, List.length_cons, List.length_nil]; omega) (by simp only [List.length_append, List.length_cons, List.length_nil]; omega) h4, S168_ok hl]
 show (bif (!wroteM l what who) then kf l false else kf (l ++ [lineM l what who]) true) = _
 unfold writeM
 cases wroteM l what who <;> rfl
def withMin (c : Club) (l : List Line) : Club := (c.1, (c.2.1, (c.2.2.1, (c.2.2.2.1, (c.2.2.2.2.1, (l, c.2.2.2.2.2.2))))))
def doneB (c out : Club) (what who : Int) : Bool := wroteM c.2.2.2.2.2.1 what who && (isClubM c && isClubM (withMin out (writeM c.2.2.2.2.2.1 what who)))
def doneC (c out : Club) (what who : Int) : Club := bif doneB c out what who then withMin out (writeM c.2.2.2.2.2.1 what who) else c
theorem withMin_ok {c : Club} {N : Nat} {l : List Line} (h : ClubOK c N) (hl : l.length ≤ 200) (hN : 200 < N) : ClubOK (withMin c l) N :=
 ⟨h.tl, h.tm, h.tN, h.jl, h.jm, h.jN, h.rl, h.rN, h.sl, h.sN, h.bl, h.bN, by show l.length ≤ _; omega, by show l.length < _; omega, h.n8, h.tb, h.tmb, h.jb, h.jmb⟩
theorem S93_ok {N : Nat} {c out : Club} {ok : Bool} {what who : Int} {kf : Club → Bool → Option Ret} (h : ClubOK c N) (ho : ok = true → ClubOK out N) (hN : 200 < N) (hl : c.2.2.2.2.2.1.length + 1 < N) :
  S93 N c out ok what who kf = bif ok then kf (doneC c out what who) (doneB c out what who) else kf c false := by
 have h8 := h.n8
 unfold S93
 rw [S180_ok h.ml hl (by omega)]
 simp only [S90_ok h, S122_ok h]
 cases ok with
 | false => rfl
 | true =>
  unfold doneC doneB
  cases hw : wroteM c.2.2.2.2.2.1 what who with
  | false => rfl
  | true =>
   cases hc : isClubM c with
   | false => rfl
   | true =>
    have := S122_ok (N := N) (kf := fun r => bif !r then kf c false else kf (withMin out (writeM c.2.2.2.2.2.1 what who)) true) (withMin_ok (ho rfl) (wrote_len hw) hN)
    refine this.trans ?_
    simp only [Bool.true_and]
    cases isClubM (withMin out (writeM c.2.2.2.2.2.1 what who)) <;> rfl
theorem I103_ok {N : Nat} {c out : Club} {what who : Int} {kf : Club → Bool → Option Ret} (h : ClubOK c N) (ho : ClubOK out N) (he : out.2.2.2.2.2.1 = c.2.2.2.2.2.1) (hN : 200 < N) (hl : c.2.2.2.2.2.1.length + 1 < N) :
  I103 N c out what who kf = kf (doneC c out what who) (doneB c out what who) := by
 have h8 := h.n8
 unfold I103
 rw [he, I189_ok h.ml hl (by omega)]
 simp only [I70_ok h, I39_ok h]
 unfold doneC doneB
 cases hw : wroteM c.2.2.2.2.2.1 what who with
 | false => rfl
 | true =>
  cases hc : isClubM c with
  | false => rfl
  | true =>
   have := I39_ok (N := N) (kf := fun r => bif !r then kf c false else kf (withMin out (writeM c.2.2.2.2.2.1 what who)) true) (withMin_ok ho (wrote_len hw) hN)
   refine this.trans ?_
   simp only [Bool.true_and]
   cases isClubM (withMin out (writeM c.2.2.2.2.2.1 what who)) <;> rfl
theorem isClub_lens {c : Club} (h : isClubM c = true) : c.2.2.2.1.length = c.2.2.1.length ∧ c.2.2.2.2.1.length = c.2.2.1.length := by
 unfold isClubM at h
 simp only [Bool.and_eq_true, decide_eq_true_eq] at h
 exact ⟨h.2.2.2.1, h.2.2.2.2.1⟩
end Go.Pv.R
namespace Go.Pv
set_option linter.unusedVariables false
set_option linter.unusedSimpArgs false
abbrev Asc (l : List Int) : Prop := l.Pairwise (· < ·)
theorem asc_ext : ∀ {a b : List Int}, Asc a → Asc b → (∀ x, x ∈ a ↔ x ∈ b) → a = b
 | [], [], _, _, _ => rfl
 | [], y :: b, _, _, h => by have := (h y).2 (by simp); simp at this
 | x :: a, [], _, _, h => by have := (h x).1 (by simp); simp at this
 | x :: a, y :: b, ha, hb, h => by
  rw [Asc, List.pairwise_cons] at ha hb
  have hxy : x = y := by
   have h1 := (h x).1 (by simp)
   have h2 := (h y).2 (by simp)
   rcases List.mem_cons.1 h1 with h1 | h1
   ·exact h1
   ·rcases List.mem_cons.1 h2 with h2 | h2
    ·exact h2.symm
    ·have := hb.1 x h1
     have := ha.1 y h2
     omega
  subst hxy
  congr 1
  refine asc_ext ha.2 hb.2 fun z => ?_
  constructor
  ·intro hz
   rcases List.mem_cons.1 ((h z).1 (by simp [hz])) with e | e
   ·subst e; have := ha.1 z hz; omega
   ·exact e
  ·intro hz
   rcases List.mem_cons.1 ((h z).2 (by simp [hz])) with e | e
   ·subst e; have := hb.1 z hz; omega
   ·exact e
def putM : List Int → Int → List Int
 | [], n => [n]
 | x :: r, n => bif decide (x < n) then x :: putM r n else bif x == n then x :: r else n :: x :: r
theorem putM_mem : ∀ (l : List Int) (n x : Int), x ∈ putM l n ↔ x = n ∨ x ∈ l
 | [], n, x => by simp [putM]
 | y :: r, n, x => by
  simp only [putM]
  by_cases h : y < n
  ·rw [decide_eq_true h, cond_true, List.mem_cons, putM_mem r n x, List.mem_cons]
   constructor
   ·rintro (h | h | h) <;> simp [h]
   ·rintro (h | h | h) <;> simp [h]
  ·rw [decide_eq_false h, cond_false]
   by_cases e : y = n
   ·subst e; simp
   ·rw [beq_eq_false_iff_ne.2 e, cond_false]; simp
theorem putM_asc : ∀ {l : List Int} {n : Int}, Asc l → Asc (putM l n)
 | [], n, _ => by simp [putM, Asc]
 | y :: r, n, h => by
  rw [Asc, List.pairwise_cons] at h
  simp only [putM]
  by_cases hy : y < n
  ·rw [decide_eq_true hy, cond_true, Asc, List.pairwise_cons]
   refine ⟨fun z hz => ?_, putM_asc h.2⟩
   rcases (putM_mem r n z).1 hz with e | e
   ·omega
   ·exact h.1 z e
  ·rw [decide_eq_false hy, cond_false]
   by_cases e : y = n
   ·subst e
    simp only [beq_self_eq_true, cond_true, Asc, List.pairwise_cons]
    exact h
   ·rw [beq_eq_false_iff_ne.2 e, cond_false, Asc, List.pairwise_cons, List.pairwise_cons]
    refine ⟨fun z hz => ?_, h⟩
    rcases List.mem_cons.1 hz with e2 | e2
    ·omega
    ·have := h.1 z e2; omega
theorem putM_len : ∀ (l : List Int) (n : Int), (putM l n).length ≤ l.length + 1
 | [], n => by simp [putM]
 | y :: r, n => by
  simp only [putM]
  have := putM_len r n
  cases decide (y < n) with
  | true => simp only [cond_true, List.length_cons]; omega
  | false => cases y == n <;> simp
theorem sortL_mem (l : List Int) (x : Int) : x ∈ sortL l ↔ x ∈ l := List.mem_mergeSort
theorem sortL_le (l : List Int) : (sortL l).Pairwise (· ≤ ·) := by
 have := List.pairwise_mergeSort (le := fun x y : Int => decide (x ≤ y)) (fun a b c => by simp only [decide_eq_true_eq]; omega) (fun a b => by simp only [Bool.or_eq_true, decide_eq_true_eq]; omega) l
 exact this.imp fun {a b} h => by simpa using h
theorem compactFrom_spec : ∀ (r : List Int) (x : Int), (x :: r).Pairwise (· ≤ ·) → Asc (x :: compactFrom x r) ∧ ∀ z, z ∈ x :: compactFrom x r ↔ z ∈ x :: r
 | [], x, _ => by simp [compactFrom, Asc]
 | y :: r, x, h => by
  rw [List.pairwise_cons] at h
  simp only [compactFrom]
  by_cases e : y = x
  ·subst e
   simp only [beq_self_eq_true, cond_true]
   obtain ⟨h1, h2⟩ := compactFrom_spec r y h.2
   refine ⟨h1, fun z => (h2 z).trans ?_⟩
   simp
  ·rw [beq_eq_false_iff_ne.2 e, cond_false]
   obtain ⟨h1, h2⟩ := compactFrom_spec r y h.2
   have hlt : x < y := by have := h.1 y (by simp); omega
   refine ⟨?_, fun z => ?_⟩
   ·rw [Asc, List.pairwise_cons]
    refine ⟨fun z hz => ?_, h1⟩
    have h3 : Asc (y :: compactFrom y r) := h1
    rw [Asc, List.pairwise_cons] at h3
    rcases List.mem_cons.1 hz with e2 | e2
    ·omega
    ·have := h3.1 z e2; omega
   ·rw [List.mem_cons, h2 z]
    simp only [List.mem_cons]
theorem compactL_spec (l : List Int) (h : l.Pairwise (· ≤ ·)) : Asc (compactL l) ∧ ∀ z, z ∈ compactL l ↔ z ∈ l := by
 cases l with
 | nil => simp [compactL, Asc]
 | cons x r => exact compactFrom_spec r x h
end Go.Pv
namespace Go.Pv.R
set_option linter.unusedVariables false
set_option linter.unusedSimpArgs false
def cutM : List Int → Int → Nat
 | [], _ => 0
 | x :: r, n => bif decide (x < n) then cutM r n + 1 else 0
theorem cutM_le : ∀ (l : List Int) (n : Int), cutM l n ≤ l.length
 | [], _ => Nat.le_refl _
 | x :: r, n => by
  simp only [cutM]
  have := cutM_le r n
  cases decide (x < n) <;> simp <;> omega
theorem putM_cut : ∀ (l : List Int) (n : Int), putM l n = bif decide (cutM l n < l.length) && (l.getD (cutM l n) 0 == n) then l else l.take (cutM l n) ++ [n] ++ l.drop (cutM l n)
 | [], n => rfl
 | x :: r, n => by
  by_cases h : x < n
  ·have hc : cutM (x :: r) n = cutM r n + 1 := by simp only [cutM]; rw [decide_eq_true h]; rfl
   have hp : putM (x :: r) n = x :: putM r n := by simp only [putM]; rw [decide_eq_true h]; rfl
   rw [hc, hp, putM_cut r n]
   simp only [List.length_cons, List.getD_cons_succ, List.take_succ_cons, List.drop_succ_cons]
   rw [show decide (cutM r n + 1 < r.length + 1) = decide (cutM r n < r.length) from decide_eq_decide.2 (by omega)]
   cases (decide (cutM r n < r.length) && (r.getD (cutM r n) 0 == n)) <;> simp
  ·have hc : cutM (x :: r) n = 0 := by simp only [cutM]; rw [decide_eq_false h]; rfl
   have hp : putM (x :: r) n = bif x == n then x :: r else n :: x :: r := by simp only [putM]; rw [decide_eq_false h]; rfl
   rw [hc, hp]
   simp only [List.length_cons, List.getD_cons_zero, List.take_zero, List.drop_zero]
   rw [decide_eq_true (show 0 < r.length + 1 by omega), Bool.true_and]
   cases x == n <;> simp
theorem goL_cut {n : Int} {k : Int → Option Ret} : ∀ (r : List Int) (i m : Nat), i + r.length = m → goL (fun (i : Nat) (x : Int) (next : Option Ret) => bif (decide (x < n)) then next else k (i : Int)) (k (m : Int)) r i = k ((i + cutM r n : Nat) : Int)
 | [], i, m, h => by simp only [goL, cutM]; rw [← h]; rfl
 | x :: r, i, m, h => by
  simp only [goL, cutM]
  cases decide (x < n) with
  | true =>
   simp only [cond_true]
   rw [goL_cut r (i + 1) m (by simp only [List.length_cons] at h; omega)]
   congr 1
   omega
  | false => simp only [cond_false, Nat.add_zero]
theorem S127_ok {N : Nat} {l : List Int} {n : Int} {kf : List Int → Option Ret} (hl : l.length ≤ 1048576) (hN : l.length < N) : S127 N l n kf = kf (putM l n) := by
 have hm := maxLen_eq
 unfold S127
 rw [S127_l2_r (by omega) hN]
 have hc := cutM_le l n
 have h2 : (decide ((List.length ([] : List Int) + List.length l) * 1 ≤ 4398046511104)) = true := decide_eq_true (by simp only [List.length_nil]; omega)
 have hj : S127_j1 l n kf (cutM l n : Int) = kf (l.take (cutM l n) ++ [n] ++ l.drop (cutM l n)) := by
  unfold S127_j1
  have d1 : (decide ((0 : Int) ≤ (0 : Int)) && decide ((0 : Int) ≤ (cutM l n : Int)) && decide ((cutM l n : Int) ≤ (List.length l : Int))) = true := by simp; omega
  have d2 : (decide ((0 : Int) ≤ (cutM l n : Int)) && decide ((cutM l n : Int) ≤ (List.length l : Int)) && decide ((List.length l : Int) ≤ (List.length l : Int))) = true := by simp; omega
  rw [d1, d2]
  have e1 : List.drop (Int.toNat 0) (List.take (Int.toNat (cutM l n : Int)) l) = l.take (cutM l n) := by simp
  have e2 : List.drop (Int.toNat (cutM l n : Int)) (List.take (Int.toNat (List.length l : Int)) l) = l.drop (cutM l n) := by simp
  rw [e1, e2]
  have l1 : (l.take (cutM l n)).length = cutM l n := by rw [List.length_take]; omega
  have l2 : (l.drop (cutM l n)).length = l.length - cutM l n := List.length_drop
  rw [decide_eq_true (by simp only [List.length_nil]; omega), decide_eq_true (by simp only [List.length_append, List.length_cons, List.length_nil]; omega), decide_eq_true (by simp only [List.length_append, List.length_cons, List.length_nil]; omega)]
  simp only [cond_true, List.nil_append]
 have := goL_cut (n := n) (k := fun (z5_7 : Int) =>
  bif (decide (z5_7 < (List.length l : Int))) then
   bif (inB z5_7 (List.length l)) then
    bif ((List.getD l (Int.toNat z5_7) (0 : Int)) == n) then
     bif (decide ((List.length ([] : (List Int)) + List.length l) * 1 ≤ 4398046511104)) then
      kf (([] : (List Int)) ++ l)
     else none
    else
     S127_j1 l n kf z5_7
   else none
  else
   S127_j1 l n kf z5_7) l 0 l.length (by omega)
 refine this.trans ?_
 simp only [Nat.zero_add]
 rw [hj, putM_cut]
 by_cases hlt : cutM l n < l.length
 ·rw [decide_eq_true (show (cutM l n : Int) < (List.length l : Int) by omega), decide_eq_true hlt, inB_nat hlt, Int.toNat_natCast, h2]
  simp only [cond_true, Bool.true_and, List.nil_append]
  cases List.getD l (cutM l n) 0 == n <;> rfl
 ·rw [decide_eq_false (show ¬ (cutM l n : Int) < (List.length l : Int) by omega), decide_eq_false hlt]
  rfl
theorem S131_ok {N : Nat} {l : List Int} {kf : List Int → Option Ret} (hl : l.length ≤ 1048576) : S131 N l kf = kf (sortL l) := by
 unfold S131
 have : Nat.blt (List.length l) 4611686018427387904 = true := Nat.ble_eq_true_of_le (by omega)
 rw [this]
 rfl
theorem S132_ok {N : Nat} {l : List Int} {kf : List Int → Option Ret} : S132 N l kf = kf (compactL l) := rfl
end Go.Pv.R
namespace Go.Pv.R
set_option linter.unusedVariables false
set_option linter.unusedSimpArgs false
end Go.Pv.R
namespace Go.Pv.R
set_option linter.unusedVariables false
set_option linter.unusedSimpArgs false
end Go.Pv.R
namespace Go.Pv.R
set_option linter.unusedVariables false
set_option linter.unusedSimpArgs false
end Go.Pv.R
namespace Go.Pv.R
set_option linter.unusedVariables false
set_option linter.unusedSimpArgs false
end Go.Pv.R
namespace Go.Pv.R
set_option linter.unusedVariables false
set_option linter.unusedSimpArgs false
end Go.Pv.R
namespace Go.Pv.R
set_option linter.unusedVariables false
set_option linter.unusedSimpArgs false
end Go.Pv.R
namespace Go.Pv.R
set_option linter.unusedVariables false
set_option linter.unusedSimpArgs false
end Go.Pv.R
namespace Go.Pv.R
set_option linter.unusedVariables false
set_option linter.unusedSimpArgs false
end Go.Pv.R
namespace Go.Pv.R
set_option linter.unusedVariables false
set_option linter.unusedSimpArgs false
end Go.Pv.R
namespace Go.Pv.R
set_option linter.unusedVariables false
set_option linter.unusedSimpArgs false
end Go.Pv.R
namespace Go.Pv.R
set_option linter.unusedVariables false
set_option linter.unusedSimpArgs false
end Go.Pv.R
namespace Go.Pv.R
set_option linter.unusedVariables false
set_option linter.unusedSimpArgs false
end Go.Pv.R
namespace Go.Pv.R
set_option linter.unusedVariables false
set_option linter.unusedSimpArgs false
def teamM (t : List Team) (id : Int) : Team := t.getD (findT t id).toNat zQIIIIILIE
theorem teamM_in {t : List Team} {a : Int} (ha : findT t a ≥ 0) : teamM t a ∈ t ∧ (teamM t a).1 = a := by
 obtain ⟨k, hk, e, h1, _⟩ := findM_pos (p := fun x : Team => x.1 == a) (l := t) (by unfold findT at ha; omega)
 have e : findT t a = (k : Int) := e
 unfold teamM
 rw [e, Int.toNat_natCast, getD_nat _ _ hk]
 exact ⟨List.getElem_mem hk, by simpa using h1⟩
end Go.Pv.R
namespace Go.Pv.R
set_option linter.unusedVariables false
set_option linter.unusedSimpArgs false
end Go.Pv.R
namespace Go.Pv.R
set_option linter.unusedVariables false
set_option linter.unusedSimpArgs false
theorem nodup_le : ∀ (r L : List Int), r.Nodup → (∀ x ∈ r, x ∈ L) → r.length ≤ L.length
 | [], L, _, _ => by simp
 | x :: r, L, hn, h => by
  rw [List.nodup_cons] at hn
  have hx := h x (by simp)
  have h1 := List.length_erase_of_mem hx
  have h2 := List.length_pos_of_mem hx
  have := nodup_le r (L.erase x) hn.2 fun y hy => by
   have hne : y ≠ x := fun e => hn.1 (e ▸ hy)
   exact (List.mem_erase_of_ne hne).2 (h y (by simp [hy]))
  simp only [List.length_cons]
  omega
end Go.Pv.R
namespace Go.Pv.R
set_option linter.unusedVariables false
set_option linter.unusedSimpArgs false
def ofM (b : Ballot) : Int := bif decide (b.2.1 > b.2.2) then 1 else 2
theorem ofM_cases (b : Ballot) : ofM b = 1 ∨ ofM b = 2 := by
 unfold ofM
 cases decide (b.2.1 > b.2.2) <;> simp
theorem S204_ok {N : Nat} {b : Ballot} {kf : Int → Option Ret} : S204 N b kf = kf (ofM b) := by
 unfold S204 ofM
 cases decide (b.2.1 > b.2.2) <;> rfl
theorem I208_ok {N : Nat} {b : Ballot} {kf : Int → Option Ret} : I208 N b kf = kf (ofM b) := by
 unfold I208 ofM
 cases decide (b.2.1 > b.2.2) <;> rfl
theorem S201_one {N : Nat} {b : Ballot} {kf : Bool → Option Ret} (hN : 2 < N) : S201 N [b] kf = kf (isBallotM b) := by
 have hm := maxLen_eq
 unfold S201
 rw [S201_l2_r (by simp; omega) (by simp; omega)]
 simp only [goL, S199_ok]
 cases isBallotM b <;> rfl
theorem I205_one {N : Nat} {b : Ballot} {kf : Bool → Option Ret} (hN : 2 < N) : I205 N [b] kf = kf (isBallotM b) := by
 have hm := maxLen_eq
 unfold I205
 rw [I205_l4_r (by simp; omega) (by simp; omega)]
 simp only [goL, I138_ok]
 cases isBallotM b <;> rfl
def voteM (b : Ballot) (k : Int) : Int := bif ofM b == k then 1 else 0
theorem S202_one {N : Nat} {b : Ballot} {k : Int} {kf : Int → Option Ret} (hN : 2 < N) (hb : isBallotM b = true) : S202 N [b] k kf = kf (voteM b k) := by
 have hm := maxLen_eq
 unfold S202 voteM
 rw [S202_l3_r (by simp; omega) (by simp; omega)]
 simp only [goL1, S201_one hN, hb, cond_true, S204_ok]
 cases ofM b == k <;> rfl
theorem I206_one {N : Nat} {b : Ballot} {k : Int} {kf : Int → Option Ret} (hN : 2 < N) (hb : isBallotM b = true) : I206 N [b] k kf = kf (voteM b k) := by
 have hm := maxLen_eq
 unfold I206 voteM
 rw [I205_one hN, hb]
 simp only [Bool.not_true, cond_false]
 rw [I206_l5_r (by simp; omega) (by simp; omega)]
 simp only [goL1, I208_ok]
 cases ofM b == k <;> rfl
theorem I207_one {N : Nat} {b : Ballot} {kf : Int → Option Ret} {k : Int} (hN : 2 < N) (hb : isBallotM b = true) : ∃ r, ∀ kf, I207 N [b] k kf = kf r := by
 have hm := maxLen_eq
 by_cases h1 : k = 1
 ·subst h1
  refine ⟨IntKind.wrap .i64 (0 + b.2.1), fun kf => ?_⟩
  unfold I207
  rw [I205_one hN, hb]
  simp only [Bool.not_true, cond_false]
  rw [I207_l5_r (by simp; omega) (by simp; omega)]
  simp only [goL1]
  rfl
 ·have e1 : (k == (1 : Int)) = false := by simpa using h1
  by_cases h2 : k = 2
  ·subst h2
   refine ⟨IntKind.wrap .i64 (0 + b.2.2), fun kf => ?_⟩
   unfold I207
   rw [I205_one hN, hb]
   simp only [Bool.not_true, cond_false]
   rw [I207_l5_r (by simp; omega) (by simp; omega)]
   simp only [goL1]
   rfl
  ·have e2 : (k == (2 : Int)) = false := by simpa using h2
   refine ⟨0, fun kf => ?_⟩
   unfold I207
   rw [I205_one hN, hb]
   simp only [Bool.not_true, cond_false]
   rw [I207_l5_r (by simp; omega) (by simp; omega)]
   simp only [goL1, e1, e2, cond_false]
theorem S125_one {N : Nat} {b : Ballot} {kf : Int → Option Ret} (hN : 2 < N) (hb : isBallotM b = true) : S125 N [b] kf = kf (ofM b) := by
 unfold S125
 have e : ((List.length [b] : Int) == (0 : Int)) = false := rfl
 rw [e, cond_false, S201_one hN, hb]
 simp only [Bool.not_true, cond_false, S202_one hN hb]
 unfold voteM
 rcases ofM_cases b with h | h <;> rw [h] <;> rfl
theorem I129_one {N : Nat} {b : Ballot} {kf : Int → Option Ret} (hN : 2 < N) (hb : isBallotM b = true) : I129 N [b] kf = kf (ofM b) := by
 unfold I129
 have e : ((List.length [b] : Int) == (0 : Int)) = false := rfl
 obtain ⟨r1, h1⟩ := I207_one (N := N) (b := b) (kf := kf) (k := 1) hN hb
 obtain ⟨r2, h2⟩ := I207_one (N := N) (b := b) (kf := kf) (k := 2) hN hb
 rw [e, cond_false, I205_one hN, hb]
 simp only [Bool.not_true, cond_false, I206_one hN hb, h1, h2]
 unfold voteM
 rcases ofM_cases b with h | h <;> rw [h] <;> rfl
def two {α : Type} (t : List α) (i j : Nat) (x y : α) : List α := (t.set i x).set j y
section
variable {α : Type} {t : List α} {i j : Nat} {x y x' y' z : α}
theorem two_len : (two t i j x y).length = t.length := by simp [two]
theorem two_getI (h : i ≠ j) (hi : i < t.length) : (two t i j x y).getD i z = x := by
 rw [List.getD_eq_getElem?_getD, two, List.getElem?_set_ne (by omega), List.getElem?_set_self hi]; rfl
theorem two_getJ (hj : j < t.length) : (two t i j x y).getD j z = y := by
 rw [List.getD_eq_getElem?_getD, two, List.getElem?_set_self (by simpa using hj)]; rfl
theorem two_setI (h : i ≠ j) : (two t i j x y).set i x' = two t i j x' y := by
 unfold two
 rw [List.set_comm _ _ (fun e => h e.symm), List.set_set]
theorem two_setJ : (two t i j x y).set j y' = two t i j x y' := by
 unfold two
 rw [List.set_set]
theorem one_getJ (h : i ≠ j) : (t.set i x).getD j z = t.getD j z := by
 rw [List.getD_eq_getElem?_getD, List.getElem?_set_ne (by omega), ← List.getD_eq_getElem?_getD]
theorem one_two : (t.set i x).set j y = two t i j x y := by rw [two]
end
def newI (t : List Team) (i : Nat) (b d p : Int) : Team := ((t.getD i zQIIIIILIE).1, ((t.getD i zQIIIIILIE).2.1, ((bif d == 1 then IntKind.wrap .i64 ((t.getD i zQIIIIILIE).2.2.1 + 1) else (t.getD i zQIIIIILIE).2.2.1), (IntKind.wrap .i64 ((t.getD i zQIIIIILIE).2.2.2.1 + p), (IntKind.wrap .i64 ((t.getD i zQIIIIILIE).2.2.2.2.1 + 1), (t.getD i zQIIIIILIE).2.2.2.2.2 ++ [b])))))
def newJ2 (t : List Team) (j : Nat) (a d q : Int) : Team := ((t.getD j zQIIIIILIE).1, ((t.getD j zQIIIIILIE).2.1, ((bif d == 1 then (t.getD j zQIIIIILIE).2.2.1 else IntKind.wrap .i64 ((t.getD j zQIIIIILIE).2.2.1 + 1)), (IntKind.wrap .i64 ((t.getD j zQIIIIILIE).2.2.2.1 + q), ((t.getD j zQIIIIILIE).2.2.2.2.1, (t.getD j zQIIIIILIE).2.2.2.2.2 ++ [a])))))
def addT (t : List Team) (a b d p q : Int) : List Team := two t (findT t a).toNat (findT t b).toNat (newI t (findT t a).toNat b d p) (newJ2 t (findT t b).toNat a d q)
def mayAdd (t : List Team) (a b d p q : Int) : Bool := areTeamsM t && (decide (findT t a ≥ 0) && (decide (findT t b ≥ 0) && ((findT t a != findT t b) && (inR d 1 2 && (inR p 0 1000 && inR q 0 1000)))))
def addB2 (t : List Team) (a b d p q : Int) : Bool := mayAdd t a b d p q && areTeamsM (addT t a b d p q)
def addL (t : List Team) (a b d p q : Int) : List Team := bif addB2 t a b d p q then addT t a b d p q else t
theorem addT_mem {t : List Team} {a b d p q : Int} {N : Nat} (ha : findT t a ≥ 0) (hb : findT t b ≥ 0) (h : ∀ x : Team, x ∈ t → x.met.length + 1 < N) : ∀ x : Team, x ∈ addT t a b d p q → x.met.length < N := by
 intro x hx
 unfold addT two at hx
 rcases List.mem_or_eq_of_mem_set hx with hx | rfl
 ·rcases List.mem_or_eq_of_mem_set hx with hx | rfl
  ·have := h x hx; omega
  ·have := h _ (teamM_in ha).1
   show ((t.getD (findT t a).toNat zQIIIIILIE).2.2.2.2.2 ++ [b]).length < N
   rw [List.length_append]; exact this
 ·have := h _ (teamM_in hb).1
  show ((t.getD (findT t b).toNat zQIIIIILIE).2.2.2.2.2 ++ [a]).length < N
  rw [List.length_append]; exact this
theorem S124_ok {N : Nat} {t : List Team} {a b d p q : Int} {kf : List Team → Bool → Option Ret} (hl : t.length ≤ 1048700) (hm : ∀ x : Team, x ∈ t → x.met.length ≤ 1048700 ∧ x.met.length + 1 < N) (hN : t.length < N) : S124 N t a b d p q kf = kf (addL t a b d p q) (addB2 t a b d p q) := by
 have hx := maxLen_eq
 have hm1 : ∀ x ∈ t, x.met.length ≤ maxLen ∧ x.met.length < N := fun x hx => by have := hm x hx; omega
 unfold S124 addL addB2 mayAdd
 rw [S173_ok hl (fun x hx => (hm x hx).1) hN, S200_ok (by omega) hN, S200_ok (by omega) hN, S175_ok (by omega) hm1 hN]
 simp only [S195_ok]
 cases areTeamsM t with
 | false => rfl
 | true =>
  by_cases ha : findT t a ≥ 0
  rotate_left
  ·rw [decide_eq_true (show findT t a < 0 by omega), decide_eq_false ha]; rfl
  by_cases hb : findT t b ≥ 0
  rotate_left
  ·rw [decide_eq_false (show ¬ findT t a < 0 by omega), decide_eq_true ha, decide_eq_true (show findT t b < 0 by omega), decide_eq_false hb]; rfl
  have hT : ∀ x : Team, x ∈ addT t a b d p q → x.met.length < N := addT_mem ha hb fun x hx => (hm x hx).2
  have hT2 : ∀ x : Team, x ∈ addT t a b d p q → x.met.length < 1048800 := addT_mem ha hb fun x hx => by have := (hm x hx).1; omega
  obtain ⟨i, hi, ei, _⟩ := findM_pos (p := fun x : Team => x.1 == a) (l := t) (by unfold findT at ha; omega)
  obtain ⟨j, hj, ej, _⟩ := findM_pos (p := fun x : Team => x.1 == b) (l := t) (by unfold findT at hb; omega)
  have ei : findT t a = (i : Int) := ei
  have ej : findT t b = (j : Int) := ej
  unfold addT at hT hT2 ⊢
  rw [ei, ej] at hT hT2 ⊢
  simp only [Int.toNat_natCast] at hT hT2 ⊢
  rw [decide_eq_true (show (i : Int) ≥ 0 by omega), decide_eq_true (show (j : Int) ≥ 0 by omega), decide_eq_false (show ¬ (i : Int) < 0 by omega), decide_eq_false (show ¬ (j : Int) < 0 by omega)]
  simp only [Bool.not_true, cond_false, Bool.true_and]
  by_cases hij : i = j
  ·subst hij; simp
  have e1 : ((i : Int) == (j : Int)) = false := by simpa using fun e => hij (by omega)
  have e2 : ((i : Int) != (j : Int)) = true := by simp only [bne, e1]; rfl
  rw [e1, e2]
  cases inR d 1 2 with
  | false => rfl
  | true =>
  cases inR p 0 1000 with
  | false => rfl
  | true =>
  cases inR q 0 1000 with
  | false => rfl
  | true =>
  have li := (hm _ (List.getElem_mem hi)).1
  have lj := (hm _ (List.getElem_mem hj)).1
  have gi : t.getD i zQIIIIILIE = t[i] := getD_nat _ _ hi _
  have gj : t.getD j zQIIIIILIE = t[j] := getD_nat _ _ hj _
  have b1 : decide ((List.length (t.getD i zQIIIIILIE).2.2.2.2.2 + List.length [b]) * 1 ≤ 4398046511104) = true := by rw [gi]; exact decide_eq_true (by have : t[i].2.2.2.2.2.length ≤ 1048700 := li; simp; omega)
  have b2 : decide ((List.length (t.getD j zQIIIIILIE).2.2.2.2.2 + List.length [a]) * 1 ≤ 4398046511104) = true := by rw [gj]; exact decide_eq_true (by have : t[j].2.2.2.2.2.length ≤ 1048700 := lj; simp; omega)
  simp only [one_getJ hij, List.length_set, inB_nat hi, inB_nat hj, cond_true, cond_false, Bool.not_true, b1, b2, Nat.beq_refl, share, one_two, two_len, two_getI hij hi, two_getJ hj, two_setI hij, two_setJ, Bool.true_and]
  have hW : (two t i j (newI t i b d p) (newJ2 t j a d q)).length = t.length := two_len
  have key : S124_j1 N t kf (two t i j (newI t i b d p) (newJ2 t j a d q)) = kf (bif areTeamsM (two t i j (newI t i b d p) (newJ2 t j a d q)) then two t i j (newI t i b d p) (newJ2 t j a d q) else t) (areTeamsM (two t i j (newI t i b d p) (newJ2 t j a d q))) := by
   unfold S124_j1
   rw [S175_ok (by omega) (fun x hx => ⟨by have := hT2 x hx; omega, hT x hx⟩) (by omega)]
   cases areTeamsM (two t i j (newI t i b d p) (newJ2 t j a d q)) with
   | false => simp only [Bool.not_false, cond_true, cond_false]; rw [S173_ok hl (fun x hx => (hm x hx).1) hN]
   | true => rfl
  refine Eq.trans ?_ key
  unfold newI newJ2
  cases d == 1 <;> rfl
theorem I128_ok {N : Nat} {t : List Team} {a b d p q : Int} {kf : List Team → Bool → Option Ret} (hl : t.length ≤ 1048700) (hm : ∀ x : Team, x ∈ t → x.met.length ≤ 1048700 ∧ x.met.length + 1 < N) (hN : t.length < N) : I128 N t a b d p q kf = kf (addL t a b d p q) (addB2 t a b d p q) := by
 have hx := maxLen_eq
 have hm1 : ∀ x ∈ t, x.met.length ≤ maxLen ∧ x.met.length < N := fun x hx => by have := hm x hx; omega
 unfold I128 addL addB2 mayAdd
 rw [I163_ok hl (fun x hx => (hm x hx).1) hN, I40_ok (by omega) hN, I40_ok (by omega) hN, I143_ok (by omega) hm1 hN]
 simp only [I144_ok]
 cases areTeamsM t with
 | false => rfl
 | true =>
  by_cases ha : findT t a ≥ 0
  rotate_left
  ·rw [decide_eq_true (show findT t a < 0 by omega), decide_eq_false ha]; rfl
  by_cases hb : findT t b ≥ 0
  rotate_left
  ·rw [decide_eq_false (show ¬ findT t a < 0 by omega), decide_eq_true ha, decide_eq_true (show findT t b < 0 by omega), decide_eq_false hb]; rfl
  have hT : ∀ x : Team, x ∈ addT t a b d p q → x.met.length < N := addT_mem ha hb fun x hx => (hm x hx).2
  have hT2 : ∀ x : Team, x ∈ addT t a b d p q → x.met.length < 1048800 := addT_mem ha hb fun x hx => by have := (hm x hx).1; omega
  obtain ⟨i, hi, ei, _⟩ := findM_pos (p := fun x : Team => x.1 == a) (l := t) (by unfold findT at ha; omega)
  obtain ⟨j, hj, ej, _⟩ := findM_pos (p := fun x : Team => x.1 == b) (l := t) (by unfold findT at hb; omega)
  have ei : findT t a = (i : Int) := ei
  have ej : findT t b = (j : Int) := ej
  unfold addT at hT hT2 ⊢
  rw [ei, ej] at hT hT2 ⊢
  simp only [Int.toNat_natCast] at hT hT2 ⊢
  rw [decide_eq_true (show (i : Int) ≥ 0 by omega), decide_eq_true (show (j : Int) ≥ 0 by omega), decide_eq_false (show ¬ (i : Int) < 0 by omega), decide_eq_false (show ¬ (j : Int) < 0 by omega)]
  simp only [Bool.not_true, cond_false, Bool.true_and]
  by_cases hij : i = j
  ·subst hij; simp
  have e1 : ((i : Int) == (j : Int)) = false := by simpa using fun e => hij (by omega)
  have e2 : ((i : Int) != (j : Int)) = true := by simp only [bne, e1]; rfl
  rw [e1, e2]
  cases inR d 1 2 with
  | false => rfl
  | true =>
  cases inR p 0 1000 with
  | false => rfl
  | true =>
  cases inR q 0 1000 with
  | false => rfl
  | true =>
  have li := (hm _ (List.getElem_mem hi)).1
  have lj := (hm _ (List.getElem_mem hj)).1
  have gi : t.getD i zQIIIIILIE = t[i] := getD_nat _ _ hi _
  have gj : t.getD j zQIIIIILIE = t[j] := getD_nat _ _ hj _
  have b1 : decide ((List.length (t.getD i zQIIIIILIE).2.2.2.2.2 + List.length [b]) * 1 ≤ 4398046511104) = true := by rw [gi]; exact decide_eq_true (by have : t[i].2.2.2.2.2.length ≤ 1048700 := li; simp; omega)
  have b2 : decide ((List.length (t.getD j zQIIIIILIE).2.2.2.2.2 + List.length [a]) * 1 ≤ 4398046511104) = true := by rw [gj]; exact decide_eq_true (by have : t[j].2.2.2.2.2.length ≤ 1048700 := lj; simp; omega)
  have hnb : Nat.beq i j = false := by
   cases h : Nat.beq i j with
   | false => rfl
   | true => exact absurd (Nat.eq_of_beq_eq_true h) hij
  have hW : (two t i j (newI t i b d p) (newJ2 t j a d q)).length = t.length := two_len
  have key : (I143 N (two t i j (newI t i b d p) (newJ2 t j a d q)) (fun (r126_13 : Bool) =>
       bif (!r126_13) then
        I163 N t (fun (r129_14 : (List QIIIIILIE)) =>
         kf r129_14 false)
       else
        kf (two t i j (newI t i b d p) (newJ2 t j a d q)) true)) = kf (bif areTeamsM (two t i j (newI t i b d p) (newJ2 t j a d q)) then two t i j (newI t i b d p) (newJ2 t j a d q) else t) (areTeamsM (two t i j (newI t i b d p) (newJ2 t j a d q))) := by
   rw [I143_ok (by omega) (fun x hx => ⟨by have := hT2 x hx; omega, hT x hx⟩) (by omega)]
   cases areTeamsM (two t i j (newI t i b d p) (newJ2 t j a d q)) with
   | false => simp only [Bool.not_false, cond_true, cond_false]; rw [I163_ok hl (fun x hx => (hm x hx).1) hN]
   | true => rfl
  refine Eq.trans ?_ key
  simp only [I128_j1, Int.toNat_natCast, hnb, Bool.not_false, Bool.and_true, one_getJ hij, List.length_set, inB_nat hi, inB_nat hj, cond_true, cond_false, Bool.not_true, b1, b2, Nat.beq_refl, share, one_two, two_len, two_getI hij hi, two_getJ hj, two_setI hij, two_setJ, Bool.true_and]
  unfold newI newJ2
  cases d == 1 <;> rfl
end Go.Pv.R
namespace Go.Pv
set_option linter.unusedVariables false
theorem findI_map {α β : Type} {f : α → β} {p : β → Bool} : ∀ (l : List α) (i : Nat), findI p (l.map f) i = findI (fun x => p (f x)) l i
 | [], _ => rfl
 | x :: r, i => by
  simp only [List.map_cons, findI, findI_map r]
theorem gatherI_empty {α β : Type} {c : Nat → α → Bool} {f : Nat → α → β} : ∀ (l : List α) (i : Nat), (gatherI c f l i).length = 0 → ∀ (j : Nat) (h : j < l.length), c (i + j) l[j] = false
 | [], i, _, j, h => by simp at h
 | x :: r, i, hl, j, h => by
  simp only [gatherI] at hl
  cases hc : c i x with
  | true => rw [hc] at hl; simp at hl
  | false =>
   rw [hc, cond_false] at hl
   cases j with
   | zero => exact hc
   | succ j => have := gatherI_empty r (i + 1) hl j (by simpa using h); rw [show i + (j + 1) = i + 1 + j by omega]; exact this
theorem sum_le {l : List Nat} {M : Nat} (h : ∀ x ∈ l, x ≤ M) : l.sum ≤ l.length * M := by
 induction l with
 | nil => simp
 | cons x r ih =>
  have h1 := ih fun y hy => h y (by simp [hy])
  have h2 := h x (by simp)
  simp only [List.sum_cons, List.length_cons, Nat.succ_mul]
  omega
theorem sizeV_bound {t : Ty} {l : List t.I} {M : Nat} (h : ∀ x ∈ l, sizeV t x ≤ M) : sizeV (.sl t) l ≤ l.length + l.length * M := by
 have := sum_le (l := l.map (sizeV t)) (M := M) (by
  intro y hy
  obtain ⟨x, hx, rfl⟩ := List.mem_map.1 hy
  exact h x hx)
 rw [List.length_map] at this
 simp only [sizeV]
 omega
end Go.Pv
namespace Go.Pv.R
set_option linter.unusedVariables false
set_option linter.unusedSimpArgs false
theorem findJ_ids {l m : List Judge} {id : Int} (h : l.map (fun x : Judge => x.1) = m.map fun x : Judge => x.1) : findJ l id = findJ m id := by
 unfold findJ findM
 have e : ∀ l : List Judge, findI (fun x : Judge => x.1 == id) l 0 = findI (fun y : Int => y == id) (l.map fun x : Judge => x.1) 0 := fun l => (findI_map (f := fun x : Judge => x.1) (p := fun y : Int => y == id) l 0).symm
 rw [e l, e m, h]
theorem put_two {s : List Int} {a b : Int} (h : Asc s) : compactL (sortL (s ++ [a, b])) = putM (putM s a) b := by
 obtain ⟨h1, h2⟩ := compactL_spec (sortL (s ++ [a, b])) (sortL_le _)
 refine asc_ext h1 (putM_asc (putM_asc h)) fun x => ?_
 rw [h2, sortL_mem, putM_mem, putM_mem]
 simp only [List.mem_append, List.mem_cons, List.not_mem_nil, or_false]
 constructor
 ·rintro (h | h | h) <;> simp [h]
 ·rintro (h | h | h) <;> simp [h]
theorem addB2_find {t : List Team} {a b d p q : Int} (h : addB2 t a b d p q = true) : findT t a ≥ 0 ∧ findT t b ≥ 0 := by
 unfold addB2 mayAdd at h
 simp only [Bool.and_eq_true, decide_eq_true_eq] at h
 exact ⟨h.1.2.1, h.1.2.2.1⟩
theorem addL_len {t : List Team} {a b d p q : Int} : (addL t a b d p q).length = t.length := by
 unfold addL
 cases addB2 t a b d p q with
 | false => rfl
 | true => exact two_len
theorem addL_mem {t : List Team} {a b d p q : Int} {M : Nat} (h : ∀ x : Team, x ∈ t → x.met.length ≤ M) : ∀ x : Team, x ∈ addL t a b d p q → x.met.length ≤ M + 1 := by
 intro x hx
 unfold addL at hx
 cases hb : addB2 t a b d p q with
 | false => rw [hb, cond_false] at hx; have := h x hx; omega
 | true =>
  rw [hb, cond_true] at hx
  have := addT_mem (N := M + 2) (addB2_find hb).1 (addB2_find hb).2 (fun x hx => by have := h x hx; omega) x hx
  omega
def putJ (js : List Judge) (k : Nat) (a b : Int) : List Judge := js.set k ((js.getD k zQIILIE).1, ((js.getD k zQIILIE).2.1, putM (putM (js.getD k zQIILIE).2.2 a) b))
theorem putJ_ids {js : List Judge} {k : Nat} {a b : Int} (hk : k < js.length) : (putJ js k a b).map (fun x : Judge => x.1) = js.map fun x : Judge => x.1 := by
 unfold putJ
 rw [List.map_set]
 apply List.ext_getElem (by simp)
 intro i h1 h2
 rw [List.getElem_set]
 split
 ·rename_i e
  subst e
  rw [getD_nat _ _ hk]
  simp
 ·rfl
theorem putJ_mem {js : List Judge} {k : Nat} {a b : Int} {M : Nat} (hk : k < js.length) (h : ∀ x : Judge, x ∈ js → Asc x.2.2 ∧ x.2.2.length ≤ M) : ∀ x : Judge, x ∈ putJ js k a b → Asc x.2.2 ∧ x.2.2.length ≤ M + 2 := by
 intro x hx
 unfold putJ at hx
 rcases List.mem_or_eq_of_mem_set hx with hx | rfl
 ·have := h x hx; exact ⟨this.1, by omega⟩
 ·have := h (js.getD k zQIILIE) (by rw [getD_nat _ _ hk]; exact List.getElem_mem hk)
  have l1 := putM_len (js.getD k zQIILIE).2.2 a
  have l2 := putM_len (putM (js.getD k zQIILIE).2.2 a) b
  refine ⟨putM_asc (putM_asc this.1), ?_⟩
  show (putM (putM (js.getD k zQIILIE).2.2 a) b).length ≤ M + 2
  omega
def balAt (c : Club) (i : Nat) : Ballot := c.2.2.2.2.1.getD i zQIIIE
def seatAt (c : Club) (i : Nat) : Int := c.2.2.2.1.getD i 0
def addOk (c : Club) (i : Nat) (x : Pair) (s : Club) : Bool := addB2 s.1 x.1 x.2 (ofM (balAt c i)) (balAt c i).2.1 (balAt c i).2.2
def closeT (c : Club) (i : Nat) (x : Pair) (s : Club) : Club := (addL s.1 x.1 x.2 (ofM (balAt c i)) (balAt c i).2.1 (balAt c i).2.2, (putJ s.2.1 (findJ s.2.1 (seatAt c i)).toNat x.1 x.2, s.2.2))
def closeM (c : Club) : List Pair → Nat → Club → Bool → Club × Bool
 | [], _, s, ok => (s, ok)
 | x :: r, i, s, ok => closeM c r (i + 1) (closeT c i x s) (ok && addOk c i x s)
structure CloseOK (c : Club) : Prop where
 t10 : c.1.length ≤ 10
 tm : ∀ x : Team, x ∈ c.1 → x.met.length ≤ 20
 j10 : c.2.1.length ≤ 10
 js : ∀ x : Judge, x ∈ c.2.1 → Asc x.2.2 ∧ x.2.2.length ≤ 99
 r10 : c.2.2.1.length ≤ 10
 sl : c.2.2.2.1.length = c.2.2.1.length
 bl : c.2.2.2.2.1.length = c.2.2.1.length
 sf : ∀ i, i < c.2.2.1.length → findJ c.2.1 (seatAt c i) ≥ 0
 bb : ∀ i, i < c.2.2.1.length → isBallotM (balAt c i) = true
structure CloseInv (c : Club) (i : Nat) (s : Club) : Prop where
 tl : s.1.length = c.1.length
 tm : ∀ x : Team, x ∈ s.1 → x.met.length ≤ 20 + i
 ji : s.2.1.map (fun x : Judge => x.1) = c.2.1.map fun x : Judge => x.1
 js : ∀ x : Judge, x ∈ s.2.1 → Asc x.2.2 ∧ x.2.2.length ≤ 99 + 2 * i
 re : s.2.2 = c.2.2
theorem CloseInv.jl {c s : Club} {i : Nat} (h : CloseInv c i s) : s.2.1.length = c.2.1.length := by
 have := congrArg List.length h.ji
 simpa using this
theorem CloseInv.fj {c s : Club} {i : Nat} (h : CloseInv c i s) (id : Int) : findJ s.2.1 id = findJ c.2.1 id := findJ_ids h.ji
theorem closeT_inv {c s : Club} {i : Nat} {x : Pair} (hc : CloseOK c) (hi : i < c.2.2.1.length) (h : CloseInv c i s) : CloseInv c (i + 1) (closeT c i x s) := by
 have hf := hc.sf i hi
 rw [← h.fj] at hf
 have hk := (findJ_in hf).2
 exact ⟨by rw [← h.tl]; exact addL_len, fun y hy => by have := addL_mem h.tm y hy; omega, by rw [← h.ji]; exact putJ_ids hk, fun y hy => by have := putJ_mem hk h.js y hy; exact ⟨this.1, by omega⟩, h.re⟩
theorem closeM_inv {c : Club} (hc : CloseOK c) : ∀ (r : List Pair) (i : Nat) (s : Club) (ok : Bool), i + r.length = c.2.2.1.length → CloseInv c i s → CloseInv c c.2.2.1.length (closeM c r i s ok).1
 | [], i, s, ok, h, hs => by
  simp at h
  subst h
  exact hs
 | x :: r, i, s, ok, h, hs => by
  simp only [List.length_cons] at h
  exact closeM_inv hc r (i + 1) _ _ (by omega) (closeT_inv hc (by omega) hs)
theorem closeM_false {c : Club} : ∀ (r : List Pair) (i : Nat) (s : Club), (closeM c r i s false).2 = false
 | [], i, s => rfl
 | x :: r, i, s => by
  unfold closeM
  rw [Bool.false_and]
  exact closeM_false r (i + 1) _
theorem spec_close_loop {N : Nat} {c : Club} {k : Club → Bool → Option Ret} {body : Nat → Pair → Club → Bool → (Club → Bool → Option Ret) → Option Ret}
  (hb : ∀ (i : Nat) (x : Pair) (s : Club) (ok : Bool) (next : Club → Bool → Option Ret), i < c.2.2.1.length → CloseInv c i s → body i x s ok next = next (closeT c i x s) (ok && addOk c i x s)) (hc : CloseOK c) : ∀ (r : List Pair) (i : Nat) (s : Club) (ok : Bool), i + r.length = c.2.2.1.length → CloseInv c i s → goL2 body k r i s ok = k (closeM c r i s ok).1 (closeM c r i s ok).2
 | [], i, s, ok, h, hs => rfl
 | x :: r, i, s, ok, h, hs => by
  simp only [List.length_cons] at h
  simp only [goL2]
  rw [hb i x s ok _ (by omega) hs]
  exact spec_close_loop (N := N) hb hc r (i + 1) _ _ (by omega) (closeT_inv hc (by omega) hs)
theorem impl_close_loop {N : Nat} {c : Club} {k : Club → Option Ret} {no : Option Ret} {body : Nat → Pair → Club → (Club → Option Ret) → Option Ret}
  (hb : ∀ (i : Nat) (x : Pair) (s : Club) (next : Club → Option Ret), i < c.2.2.1.length → CloseInv c i s → body i x s next = bif addOk c i x s then next (closeT c i x s) else no) (hc : CloseOK c) : ∀ (r : List Pair) (i : Nat) (s : Club), i + r.length = c.2.2.1.length → CloseInv c i s → goL1 body k r i s = bif (closeM c r i s true).2 then k (closeM c r i s true).1 else no
 | [], i, s, h, hs => rfl
 | x :: r, i, s, h, hs => by
  simp only [List.length_cons] at h
  simp only [goL1]
  rw [hb i x s _ (by omega) hs]
  unfold closeM
  rw [Bool.true_and]
  cases addOk c i x s with
  | false => rw [closeM_false]; rfl
  | true => exact impl_close_loop (N := N) hb hc r (i + 1) _ (by omega) (closeT_inv hc (by omega) hs)
theorem spec_close_body {N : Nat} {c s : Club} {i : Nat} {x : Pair} {next : Club → Bool → Option Ret} {ok : Bool} (hc : CloseOK c) (h200 : 200 < N) (hi : i < c.2.2.1.length) (h : CloseInv c i s) :
  (bif (inB (i : Int) (List.length c.2.2.2.2.1)) then
     S125 N [(List.getD c.2.2.2.2.1 (Int.toNat (i : Int)) zQIIIE)] (fun (r57_11 : Int) =>
      S124 N s.1 x.1 x.2 r57_11 (List.getD c.2.2.2.2.1 (Int.toNat (i : Int)) zQIIIE).2.1 (List.getD c.2.2.2.2.1 (Int.toNat (i : Int)) zQIIIE).2.2 (fun (r62_12 : (List QIIIIILIE)) (r62_13 : Bool) =>
       bif ok then
        bif (inB (i : Int) (List.length c.2.2.2.1)) then
         S126 N s.2.1 (List.getD c.2.2.2.1 (Int.toNat (i : Int)) (0 : Int)) (fun (r78_14 : Int) =>
          bif (inB r78_14 (List.length s.2.1)) then
           S127 N (List.getD s.2.1 (Int.toNat r78_14) zQIILIE).2.2 x.1 (fun (r94_15 : (List Int)) =>
            S127 N r94_15 x.2 (fun (r101_16 : (List Int)) =>
             bif (inB r78_14 (List.length s.2.1)) then
              next (r62_12, ((List.set s.2.1 (Int.toNat r78_14) ((List.getD s.2.1 (Int.toNat r78_14) zQIILIE).1, ((List.getD s.2.1 (Int.toNat r78_14) zQIILIE).2.1, r101_16))), s.2.2)) r62_13
             else none))
          else none)
        else none
       else
        bif (inB (i : Int) (List.length c.2.2.2.1)) then
         S126 N s.2.1 (List.getD c.2.2.2.1 (Int.toNat (i : Int)) (0 : Int)) (fun (r78_17 : Int) =>
          bif (inB r78_17 (List.length s.2.1)) then
           S127 N (List.getD s.2.1 (Int.toNat r78_17) zQIILIE).2.2 x.1 (fun (r94_18 : (List Int)) =>
            S127 N r94_18 x.2 (fun (r101_19 : (List Int)) =>
             bif (inB r78_17 (List.length s.2.1)) then
              next (r62_12, ((List.set s.2.1 (Int.toNat r78_17) ((List.getD s.2.1 (Int.toNat r78_17) zQIILIE).1, ((List.getD s.2.1 (Int.toNat r78_17) zQIILIE).2.1, r101_19))), s.2.2)) false
             else none))
          else none)
        else none))
    else none) = next (closeT c i x s) (ok && addOk c i x s) := by
 have hx := maxLen_eq
 have r10 := hc.r10
 have t10 := hc.t10
 have j10 := hc.j10
 have tl := h.tl
 have jl := h.jl
 have hf := hc.sf i hi
 rw [← h.fj] at hf
 obtain ⟨f1, f2⟩ := findJ_in hf
 have eb : List.getD c.2.2.2.2.1 (Int.toNat (i : Int)) zQIIIE = balAt c i := rfl
 have es : List.getD c.2.2.2.1 (Int.toNat (i : Int)) (0 : Int) = seatAt c i := rfl
 have hj := h.js (List.getD s.2.1 (findJ s.2.1 (seatAt c i)).toNat zQIILIE) (by rw [getD_nat _ _ f2]; exact List.getElem_mem f2)
 have l1 := putM_len (List.getD s.2.1 (findJ s.2.1 (seatAt c i)).toNat zQIILIE).2.2 x.1
 rw [eb, es, inB_nat (show i < c.2.2.2.2.1.length by rw [hc.bl]; exact hi), inB_nat (show i < c.2.2.2.1.length by rw [hc.sl]; exact hi), cond_true, S125_one (by omega) (hc.bb i hi), S124_ok (by omega) (fun y hy => by have := h.tm y hy; omega) (by omega)]
 simp only [cond_true, S126_ok (N := N) (l := s.2.1) (id := seatAt c i) (by omega) (by omega), f1, S127_ok (N := N) (l := (List.getD s.2.1 (findJ s.2.1 (seatAt c i)).toNat zQIILIE).2.2) (n := x.1) (by omega) (by omega), S127_ok (N := N) (l := putM (List.getD s.2.1 (findJ s.2.1 (seatAt c i)).toNat zQIILIE).2.2 x.1) (n := x.2) (by omega) (by omega)]
 cases ok with
 | true => rfl
 | false => rfl
theorem impl_close_body {N : Nat} {c s : Club} {i : Nat} {x : Pair} {next : Club → Option Ret} {kf : Club → Bool → Option Ret} (ho : ClubOK c N) (hc : CloseOK c) (h200 : 200 < N) (hi : i < c.2.2.1.length) (h : CloseInv c i s) :
  (bif (inB (i : Int) (List.length c.2.2.2.2.1)) then
     I129 N [(List.getD c.2.2.2.2.1 (Int.toNat (i : Int)) zQIIIE)] (fun (r51_14 : Int) =>
      I128 N s.1 x.1 x.2 r51_14 (List.getD c.2.2.2.2.1 (Int.toNat (i : Int)) zQIIIE).2.1 (List.getD c.2.2.2.2.1 (Int.toNat (i : Int)) zQIIIE).2.2 (fun (r56_15 : (List QIIIIILIE)) (r56_16 : Bool) =>
       bif (!r56_16) then
        I70 N c (fun (r63_17 : QLQIIIIILIELQIILIELQIIELILQIIIELQIIIIEIE) =>
         kf r63_17 false)
       else
        bif (inB (i : Int) (List.length c.2.2.2.1)) then
         I130 N s.2.1 (List.getD c.2.2.2.1 (Int.toNat (i : Int)) (0 : Int)) (fun (r71_18 : Int) =>
          bif (inB r71_18 (List.length s.2.1)) then
           bif (decide ((List.length (List.getD s.2.1 (Int.toNat r71_18) zQIILIE).2.2 + List.length [x.1, x.2]) * 1 ≤ 4398046511104)) then
            S131 N ((List.getD s.2.1 (Int.toNat r71_18) zQIILIE).2.2 ++ [x.1, x.2]) (fun (z10_19 : (List Int)) =>
             S132 N z10_19 (fun (r90_20 : (List Int)) =>
              bif (inB r71_18 (List.length s.2.1)) then
               bif (Nat.beq (Int.toNat r71_18) (Int.toNat r71_18)) then
                next (r56_15, ((List.set s.2.1 (Int.toNat r71_18) ((List.getD s.2.1 (Int.toNat r71_18) zQIILIE).1, ((List.getD s.2.1 (Int.toNat r71_18) zQIILIE).2.1, r90_20))), s.2.2))
               else none
              else none))
           else none
          else none)
        else none))
    else none) = bif addOk c i x s then next (closeT c i x s) else kf c false := by
 have hx := maxLen_eq
 have r10 := hc.r10
 have t10 := hc.t10
 have j10 := hc.j10
 have tl := h.tl
 have jl := h.jl
 have hf := hc.sf i hi
 rw [← h.fj] at hf
 obtain ⟨f1, f2⟩ := findJ_in hf
 have eb : List.getD c.2.2.2.2.1 (Int.toNat (i : Int)) zQIIIE = balAt c i := rfl
 have es : List.getD c.2.2.2.1 (Int.toNat (i : Int)) (0 : Int) = seatAt c i := rfl
 have hj := h.js (List.getD s.2.1 (findJ s.2.1 (seatAt c i)).toNat zQIILIE) (by rw [getD_nat _ _ f2]; exact List.getElem_mem f2)
 have ed : decide ((List.length (List.getD s.2.1 (findJ s.2.1 (seatAt c i)).toNat zQIILIE).2.2 + List.length [x.1, x.2]) * 1 ≤ 4398046511104) = true := decide_eq_true (by simp only [List.length_cons, List.length_nil]; omega)
 rw [eb, es, inB_nat (show i < c.2.2.2.2.1.length by rw [hc.bl]; exact hi), inB_nat (show i < c.2.2.2.1.length by rw [hc.sl]; exact hi), cond_true, I129_one (by omega) (hc.bb i hi), I128_ok (by omega) (fun y hy => by have := h.tm y hy; omega) (by omega)]
 simp only [cond_true, I70_ok ho, I130_ok (N := N) (l := s.2.1) (id := seatAt c i) (by omega) (by omega), f1, ed, Nat.beq_refl]
 rw [S131_ok (by simp only [List.length_append, List.length_cons, List.length_nil]; omega), S132_ok, put_two hj.1]
 show (bif !addOk c i x s then kf c false else next (closeT c i x s)) = _
 cases addOk c i x s <;> rfl
end Go.Pv.R
namespace Go.Pv.R
set_option linter.unusedVariables false
set_option linter.unusedSimpArgs false
theorem seen_asc {s : List Int} (h : seenP s = true) : Asc s ∧ s.length ≤ 99 := by
 unfold seenP at h
 rw [allI_iff] at h
 have step : ∀ (i : Nat) (hi : i < s.length), (1 ≤ s[i] ∧ s[i] ≤ 99) ∧ (0 < i → s.getD (i - 1) 0 < s[i]) := fun i hi => by
  have := h i hi
  rw [Nat.zero_add] at this
  simp only [Bool.and_eq_true, Bool.or_eq_true, decide_eq_true_eq, inR_iff] at this
  exact ⟨this.1, fun h0 => by omega⟩
 have mono : ∀ (i : Nat) (hi : i < s.length) (j : Nat) (hj : j < i), s[j]'(by omega) < s[i] := by
  intro i
  induction i with
  | zero => intro hi j hj; omega
  | succ i ih =>
   intro hi j hj
   have h1 := (step (i + 1) hi).2 (by omega)
   rw [Nat.add_sub_cancel, getD_nat _ _ (show i < s.length by omega)] at h1
   rcases Nat.lt_or_eq_of_le (Nat.le_of_lt_succ hj) with h2 | rfl
   ·have := ih (by omega) j h2; omega
   ·exact h1
 have ha : Asc s := List.pairwise_iff_getElem.2 fun j i hj hi hji => mono i hi j hji
 refine ⟨ha, ?_⟩
 have hn : s.Nodup := ha.imp fun h => by omega
 have := nodup_le s ((List.range 100).map fun n : Nat => (n : Int)) hn fun x hx => by
  obtain ⟨i, hi, rfl⟩ := List.mem_iff_getElem.1 hx
  have := (step i hi).1
  exact List.mem_map.2 ⟨s[i].toNat, by rw [List.mem_range]; omega, by omega⟩
 have h0 : (0 : Int) ∉ s := fun hc => by
  obtain ⟨i, hi, e⟩ := List.mem_iff_getElem.1 hc
  have := (step i hi).1
  omega
 have := nodup_le (0 :: s) ((List.range 100).map fun n : Nat => (n : Int)) (List.nodup_cons.2 ⟨h0, hn⟩) fun x hx => by
  rcases List.mem_cons.1 hx with rfl | hx
  ·exact List.mem_map.2 ⟨0, by simp, rfl⟩
  ·obtain ⟨i, hi, rfl⟩ := List.mem_iff_getElem.1 hx
   have := (step i hi).1
   exact List.mem_map.2 ⟨s[i].toNat, by rw [List.mem_range]; omega, by omega⟩
 simp only [List.length_cons, List.length_map, List.length_range] at this
 omega
theorem closeOK {c : Club} (hc : isClubM c = true) (hr : c.2.2.1.length ≠ 0) (hw : (waitM c).length = 0) : CloseOK c := by
 obtain ⟨l1, l2⟩ := isClub_lens hc
 unfold isClubM at hc
 simp only [Bool.and_eq_true, Bool.or_eq_true, decide_eq_true_eq] at hc
 obtain ⟨ht, hj, _, _, _, hs, hb, _⟩ := hc
 have hs : isRoundM c.1 c.2.2.1 = true ∧ areSeatedM c.1 c.2.1 c.2.2.1 c.2.2.2.1 = true := hs.resolve_left hr
 obtain ⟨_, hs⟩ := hs
 unfold areSeatedM at hs
 simp only [Bool.and_eq_true, decide_eq_true_eq] at hs
 obtain ⟨_, _, hs⟩ := hs
 rw [allI_iff] at hs
 unfold areTeamsM at ht
 simp only [Bool.and_eq_true, decide_eq_true_eq] at ht
 obtain ⟨t10, htp, _⟩ := ht
 unfold areJudgesM at hj
 simp only [Bool.and_eq_true, decide_eq_true_eq] at hj
 obtain ⟨j10, hjp⟩ := hj
 rw [allI_iff] at htp hjp hb
 have sP : ∀ i, i < c.2.2.1.length → findJ c.2.1 (seatAt c i) ≥ 0 ∧ hasM (c.2.2.2.1.take i) (seatAt c i) = false := fun i hi => by
  have := hs i hi
  rw [Nat.zero_add] at this
  unfold seatP at this
  simp only [Bool.and_eq_true, decide_eq_true_eq, Bool.not_eq_true'] at this
  exact ⟨this.1, this.2.1⟩
 have hn : c.2.2.2.1.Nodup := List.pairwise_iff_getElem.2 fun i j hi hj hij e => by
  have h1 := (sP j (by omega)).2
  have h2 : hasM (c.2.2.2.1.take j) (seatAt c j) = true := by
   rw [hasM_iff]
   unfold seatAt
   rw [getD_nat _ _ hj, ← e]
   exact List.mem_iff_getElem.2 ⟨i, by rw [List.length_take]; omega, by rw [List.getElem_take]⟩
  rw [h1] at h2
  cases h2
 have hle := nodup_le c.2.2.2.1 (c.2.1.map fun x : Judge => x.1) hn fun x hx => by
  obtain ⟨i, hi, rfl⟩ := List.mem_iff_getElem.1 hx
  have h1 := (sP i (by omega)).1
  unfold seatAt at h1
  rw [getD_nat _ _ hi] at h1
  obtain ⟨k, hk, e, h2, _⟩ := findM_pos (p := fun x : Judge => x.1 == c.2.2.2.1[i]) (l := c.2.1) (by unfold findJ at h1; omega)
  exact List.mem_map.2 ⟨c.2.1[k], List.getElem_mem hk, by simpa using h2⟩
 rw [List.length_map] at hle
 refine ⟨t10, fun x hx => ?_, j10, fun x hx => ?_, by omega, l1, l2, fun i hi => (sP i hi).1, fun i hi => ?_⟩
 ·obtain ⟨i, hi, rfl⟩ := List.mem_iff_getElem.1 hx
  have := htp i hi
  unfold teamP at this
  simp only [Bool.and_eq_true, decide_eq_true_eq] at this
  exact this.2.2.2.2.2.1
 ·obtain ⟨i, hi, rfl⟩ := List.mem_iff_getElem.1 hx
  have := hjp i hi
  unfold judgeP at this
  simp only [Bool.and_eq_true, decide_eq_true_eq] at this
  exact seen_asc this.2.2.2
 ·have hi2 : i < c.2.2.2.2.1.length := by omega
  have h1 := gatherI_empty c.2.2.2.2.1 0 hw i hi2
  have h2 := hb i hi2
  rw [Nat.zero_add] at h2
  unfold ballotP at h2
  simp only [h1, Bool.false_or, Bool.and_eq_true] at h2
  unfold balAt
  rw [getD_nat _ _ hi2]
  exact h2.1
def endC (c s : Club) : Club := (s.1, (s.2.1, ([], ([], ([], (s.2.2.2.2.2.1, IntKind.wrap .i64 (c.2.2.2.2.2.2 + (List.length c.2.2.1 : Int))))))))
def mayClose (c : Club) : Bool := isClubM c && (decide (c.2.2.1.length ≠ 0) && decide ((waitM c).length = 0))
def stepCloseM (c : Club) : Club × Bool := bif mayClose c && (closeM c c.2.2.1 0 c true).2 then (doneC c (endC c (closeM c c.2.2.1 0 c true).1) 5 0, doneB c (endC c (closeM c c.2.2.1 0 c true).1) 5 0) else (c, false)
theorem closeInv0 {c : Club} (hc : CloseOK c) : CloseInv c 0 c := ⟨rfl, fun x hx => by have := hc.tm x hx; omega, rfl, fun x hx => by have := hc.js x hx; exact ⟨this.1, by omega⟩, rfl⟩
theorem endC_ok {c s : Club} {N : Nat} (h : ClubOK c N) (hc : CloseOK c) (hs : CloseInv c c.2.2.1.length s) (hN : 200 < N) : ClubOK (endC c s) N := by
 have hx := maxLen_eq
 have r10 := hc.r10
 have t10 := hc.t10
 have j10 := hc.j10
 have tl := hs.tl
 have jl := hs.jl
 have ht : ∀ x : Team, x ∈ s.1 → x.met.length ≤ 40 := fun x hx => by have := hs.tm x hx; omega
 have hj : ∀ x : Judge, x ∈ s.2.1 → x.2.2.length ≤ 140 := fun x hx => by have := (hs.js x hx).2; omega
 have hre : s.2.2.2.2.2.1 = c.2.2.2.2.2.1 := by rw [hs.re]
 exact ⟨by show s.1.length ≤ _; omega, fun x hx => ⟨by have := ht x hx; omega, by have := ht x hx; omega⟩, by show s.1.length < _; omega, by show s.2.1.length ≤ _; omega, fun x hx => ⟨by have := hj x hx; omega, by have := hj x hx; omega⟩, by show s.2.1.length < _; omega, by show 0 ≤ _; omega, by show 2 * 0 < _; omega, by show 0 ≤ _; omega, by show 0 < _; omega, by show 0 ≤ _; omega, by show 0 < _; omega, by show s.2.2.2.2.2.1.length ≤ _; rw [hre]; exact h.ml, by show s.2.2.2.2.2.1.length < _; rw [hre]; exact h.mN, h.n8, by show s.1.length ≤ _; omega, fun x hx => by have := ht x hx; omega, by show s.2.1.length ≤ _; omega, fun x hx => by have := hj x hx; omega⟩
theorem pos_len (n : Nat) : decide ((n : Int) > (0 : Int)) = !decide (n = 0) := by
 by_cases h : n = 0
 ·rw [decide_eq_false (by omega), decide_eq_true h]; rfl
 ·rw [decide_eq_true (by omega), decide_eq_false h]; rfl
theorem S27_ok {N : Nat} {c : Club} {kf : Club → Bool → Option Ret} (h : ClubOK c N) (hN : 200 < N) (hl : c.2.2.2.2.2.1.length + 1 < N) : S27 N c kf = kf (stepCloseM c).1 (stepCloseM c).2 := by
 have hx := maxLen_eq
 have hr := h.rl
 have hr2 := h.rN
 unfold S27 stepCloseM mayClose
 rw [S90_ok h, S122_ok h]
 cases hc : isClubM c with
 | false => rfl
 | true =>
  simp only [Bool.not_true, cond_false, Bool.true_and]
  unfold S94
  rw [pos_len]
  by_cases hrun : c.2.2.1.length = 0
  ·rw [decide_eq_true hrun, decide_eq_false (fun e => e hrun)]; rfl
  ·rw [decide_eq_false hrun, decide_eq_true hrun]
   simp only [Bool.not_true, Bool.not_false, cond_false, Bool.true_and]
   rw [S123_ok h, pos_len]
   by_cases hw : (waitM c).length = 0
   rotate_left
   ·rw [decide_eq_false hw]; rfl
   ·rw [decide_eq_true hw]
    have ho := closeOK hc hrun hw
    have hi := closeM_inv ho c.2.2.1 0 c true (by omega) (closeInv0 ho)
    simp only [Bool.not_true, cond_false, Bool.true_and]
    rw [S27_l6_r (by omega) (by omega), spec_close_loop (N := N) (c := c) (fun i x s ok next hi hs => spec_close_body ho hN hi hs) ho c.2.2.1 0 c true (by omega) (closeInv0 ho)]
    refine (S93_ok (out := endC c (closeM c c.2.2.1 0 c true).1) h (fun _ => endC_ok h ho hi hN) hN hl).trans ?_
    cases (closeM c c.2.2.1 0 c true).2 <;> rfl
theorem I28_ok {N : Nat} {c : Club} {kf : Club → Bool → Option Ret} (h : ClubOK c N) (hN : 200 < N) (hl : c.2.2.2.2.2.1.length + 1 < N) : I28 N c kf = kf (stepCloseM c).1 (stepCloseM c).2 := by
 have hx := maxLen_eq
 have hr := h.rl
 have hr2 := h.rN
 unfold I28 stepCloseM mayClose
 rw [I70_ok h, I39_ok h]
 cases hc : isClubM c with
 | false => rfl
 | true =>
  simp only [Bool.not_true, cond_false, Bool.true_and]
  unfold I16
  rw [pos_len]
  by_cases hrun : c.2.2.1.length = 0
  ·rw [decide_eq_true hrun, decide_eq_false (fun e => e hrun)]; rfl
  ·rw [decide_eq_false hrun, decide_eq_true hrun]
   simp only [Bool.not_true, Bool.not_false, cond_false, Bool.true_and]
   rw [I41_ok h, pos_len]
   by_cases hw : (waitM c).length = 0
   rotate_left
   ·rw [decide_eq_false hw]
    rfl
   ·rw [decide_eq_true hw]
    have ho := closeOK hc hrun hw
    have hi := closeM_inv ho c.2.2.1 0 c true (by omega) (closeInv0 ho)
    simp only [Bool.not_true, cond_false, Bool.true_and]
    rw [I70_ok h, I28_l5_r (by omega) (by omega), impl_close_loop (N := N) (c := c) (no := kf c false) (fun i x s next hi hs => impl_close_body h ho hN hi hs) ho c.2.2.1 0 c (by omega) (closeInv0 ho)]
    cases hok : (closeM c c.2.2.1 0 c true).2 with
    | false => rfl
    | true =>
     have hre : (closeM c c.2.2.1 0 c true).1.2.2 = c.2.2 := hi.re
     have e2 : ((closeM c c.2.2.1 0 c true).1.1, ((closeM c c.2.2.1 0 c true).1.2.1, (([] : List QIIE), (([] : List Int), (([] : List QIIIE), ((closeM c c.2.2.1 0 c true).1.2.2.2.2.2.1, (IntKind.wrap .i64 ((closeM c c.2.2.1 0 c true).1.2.2.2.2.2.2 + (List.length c.2.2.1 : Int))))))))) = endC c (closeM c c.2.2.1 0 c true).1 := by
      unfold endC
      rw [hre]
     simp only [cond_true]
     rw [e2]
     exact I103_ok (out := endC c (closeM c c.2.2.1 0 c true).1) h (endC_ok h ho hi hN) (by show (closeM c c.2.2.1 0 c true).1.2.2.2.2.2.1 = _; rw [hre]) hN hl
theorem endC_size {c s : Club} (hc : CloseOK c) (hs : CloseInv c c.2.2.1.length s) : sizeV tQLQIIIIILIELQIILIELQIIELILQIIIELQIIIIEIE (endC c s) ≤ 2000 + sizeV (.sl tQIIIIE) c.2.2.2.2.2.1 := by
 have h1 := sizeV_club (endC c s)
 have r10 := hc.r10
 have t10 := hc.t10
 have j10 := hc.j10
 have tl := hs.tl
 have jl := hs.jl
 have hre : s.2.2.2.2.2.1 = c.2.2.2.2.2.1 := by rw [hs.re]
 have b1 := sizeV_bound (t := tQIIIIILIE) (l := s.1) (M := 40) (fun x hx => by
  have h2 : sizeV tQIIIIILIE x = sizeV (.sl (.int .i64)) x.2.2.2.2.2 := by simp [sizeV]
  have h3 : sizeV (.sl (.int .i64)) x.2.2.2.2.2 = (x.2.2.2.2.2).length := sizeV_sl (t := .int .i64) (by decide) _
  have : x.2.2.2.2.2.length ≤ 20 + c.2.2.1.length := hs.tm x hx
  omega)
 have b2 := sizeV_bound (t := tQIILIE) (l := s.2.1) (M := 120) (fun x hx => by
  have h2 : sizeV tQIILIE x = sizeV (.sl (.int .i64)) x.2.2 := by simp [sizeV]
  have h3 : sizeV (.sl (.int .i64)) x.2.2 = (x.2.2).length := sizeV_sl (t := .int .i64) (by decide) _
  have := (hs.js x hx).2
  omega)
 have m1 : s.1.length * 40 ≤ 10 * 40 := Nat.mul_le_mul_right _ (by omega)
 have m2 : s.2.1.length * 120 ≤ 10 * 120 := Nat.mul_le_mul_right _ (by omega)
 have e3 : sizeV (.sl tQIIE) ([] : List QIIE) = 0 := rfl
 have e4 : sizeV (.sl (.int .i64)) ([] : List Int) = 0 := rfl
 have e5 : sizeV (.sl tQIIIE) ([] : List QIIIE) = 0 := rfl
 simp only [endC, hre] at h1 ⊢
 omega
theorem stepClose_size (c : Club) (h : sizeV tQLQIIIIILIELQIILIELQIIELILQIIIELQIIIIEIE c ≤ 1048576) : sizeV tQLQIIIIILIELQIILIELQIIELILQIIIELQIIIIEIE (stepCloseM c).1 ≤ 1048576 ∧ sizeV tQLQIIIIILIELQIILIELQIIELILQIIIELQIIIIEIE (stepCloseM c).1 ≤ sizeV tQLQIIIIILIELQIILIELQIIELILQIIIELQIIIIEIE c + 2300 := by
 unfold stepCloseM
 cases hb : mayClose c && (closeM c c.2.2.1 0 c true).2 with
 | false => exact ⟨h, by show sizeV tQLQIIIIILIELQIILIELQIIELILQIIIELQIIIIEIE c ≤ _; omega⟩
 | true =>
  simp only [cond_true]
  unfold doneC
  cases hd : doneB c (endC c (closeM c c.2.2.1 0 c true).1) 5 0 with
  | false => exact ⟨h, by show sizeV tQLQIIIIILIELQIILIELQIIELILQIIIELQIIIIEIE c ≤ _; omega⟩
  | true =>
   simp only [Bool.and_eq_true] at hb
   obtain ⟨hm, hok⟩ := hb
   unfold mayClose at hm
   simp only [Bool.and_eq_true, decide_eq_true_eq] at hm
   have ho := closeOK hm.1 hm.2.1 hm.2.2
   have hi := closeM_inv ho c.2.2.1 0 c true (by omega) (closeInv0 ho)
   have hs := endC_size ho hi
   have hw : wroteM c.2.2.2.2.2.1 5 0 = true := by
    unfold doneB at hd
    simp only [Bool.and_eq_true] at hd
    exact hd.1
   have hl := wrote_len hw
   have h1 := sizeV_club (withMin (endC c (closeM c c.2.2.1 0 c true).1) (writeM c.2.2.2.2.2.1 5 0))
   have h2 := sizeV_club (endC c (closeM c c.2.2.1 0 c true).1)
   have h4 : sizeV (.sl tQIIIIE) (writeM c.2.2.2.2.2.1 5 0) = (writeM c.2.2.2.2.2.1 5 0).length := sizeV_sl (t := tQIIIIE) (by decide) _
   have h5 : sizeV (.sl tQIIIIE) c.2.2.2.2.2.1 = c.2.2.2.2.2.1.length := sizeV_sl (t := tQIIIIE) (by decide) _
   have h6 := writeM_len c.2.2.2.2.2.1 5 0
   have hre : (closeM c c.2.2.1 0 c true).1.2.2 = c.2.2 := hi.re
   have h7 : (endC c (closeM c c.2.2.1 0 c true).1).2.2.2.2.2.1 = c.2.2.2.2.2.1 := by unfold endC; rw [hre]
   rw [h7] at h2
   simp only [cond_true]
   simp only [withMin] at h1 ⊢
   omega
theorem stepClose_same {N : Nat} {c : Club} (hs : sizeV tQLQIIIIILIELQIILIELQIIELILQIIIELQIIIIEIE c ≤ 1048576) (h : ClubOK c N) (hN : 200 < N) (hl : c.2.2.2.2.2.1.length + 1 < N) : ∃ r b, (sizeV tQLQIIIIILIELQIILIELQIIELILQIIIELQIIIIEIE r ≤ 1048576 ∧ sizeV tQLQIIIIILIELQIILIELQIIELILQIIIELQIIIIEIE r ≤ sizeV tQLQIIIIILIELQIILIELQIIELILQIIIELQIIIIEIE c + 2300) ∧ (∀ k, S27 N c k = k r b) ∧ ∀ k, I28 N c k = k r b :=
 ⟨(stepCloseM c).1, (stepCloseM c).2, stepClose_size c hs, fun k => S27_ok h hN hl, fun k => I28_ok h hN hl⟩
theorem lawFnExactStepClose (c : Club) (h : wfs [tQLQIIIIILIELQIILIELQIIELILQIIIELQIIIIEIE] (c, ())) : ∃ N, ∀ kf, L5 N c kf = kf true := by
 refine ⟨2 * sizeV tQLQIIIIILIELQIILIELQIIELILQIIIELQIIIIEIE c + 2600, fun kf => ?_⟩
 have hw : wf tQLQIIIIILIELQIILIELQIIELILQIIIELQIIIIEIE c := h.1
 unfold L5
 rw [L20_ok hw (by omega) (by omega) (by omega)]
 refine small_or (by omega) fun hb => ?_
 have hc := club_ok (N := 2 * sizeV tQLQIIIIILIELQIILIELQIIELILQIIIELQIIIIEIE c + 2600) hw (by omega) (by omega)
 have hb2 : sizeV tQLQIIIIILIELQIILIELQIIELILQIIIELQIIIIEIE c ≤ 1048576 := by omega
 have hml := sizeV_club c
 have hml2 := sizeV_len (t := tQIIIIE) c.2.2.2.2.2.1
 generalize hN : 2 * sizeV tQLQIIIIILIELQIILIELQIIELILQIIIELQIIIIEIE c + 2600 = N at *
 obtain ⟨r, b, hrs, hS, hI⟩ : ∃ r b, (sizeV tQLQIIIIILIELQIILIELQIIELILQIIIELQIIIIEIE r ≤ 1048576 ∧ sizeV tQLQIIIIILIELQIILIELQIIELILQIIIELQIIIIEIE r ≤ sizeV tQLQIIIIILIELQIILIELQIIELILQIIIELQIIIIEIE c + 2300) ∧ (∀ k, S27 N c k = k r b) ∧ ∀ k, I28 N c k = k r b := stepClose_same hb2 hc (by omega) (by omega)
 have h1 : ∀ k, L22 N c k = k c := fun k => L22_ok (by omega) (by omega)
 have mc := markT_le tQLQIIIIILIELQIILIELQIIELILQIIIELQIIIIEIE c 1 (by decide)
 have mr := markT_le tQLQIIIIILIELQIILIELQIIELILQIIIELQIIIIEIE r 1 (by decide)
 have e1 : decide ((markT tQLQIIIIILIELQIILIELQIIELILQIIIELQIIIIEIE c 1).2 < 0) = false := decide_eq_false (by omega)
 have e2 : decide ((markT tQLQIIIIILIELQIILIELQIIELILQIIIELQIIIIEIE r 1).2 < 0) = false := decide_eq_false (by omega)
 have h2 : ∀ k, L24 N c c k = k true := fun k => L24_ok (by omega) (by omega)
 have h3 : ∀ k, L24 N r r k = k true := fun k => L24_ok (by omega) (by omega)
 have h4 : ∀ k, L25 N c 1 k = k (markT tQLQIIIIILIELQIILIELQIIELILQIIIELQIIIIEIE c 1).2 (markT tQLQIIIIILIELQIILIELQIIELILQIIIELQIIIIEIE c 1).1 := fun k => L25_ok (by omega) (by omega) (by omega) (by omega)
 have h5 : ∀ k, L25 N r 1 k = k (markT tQLQIIIIILIELQIILIELQIIELILQIIIELQIIIIEIE r 1).2 (markT tQLQIIIIILIELQIILIELQIIELILQIIIELQIIIIEIE r 1).1 := fun k => L25_ok (by omega) (by omega) (by omega) (by omega)
 have h6 : ∀ k, L26 N (markT tQLQIIIIILIELQIILIELQIIELILQIIIELQIIIIEIE r 1).1 1 k = k (markT tQLQIIIIILIELQIILIELQIIELILQIIIELQIIIIEIE r 1).2 := fun k => L26_ok (by omega) (by omega) (by omega) (by omega)
 have he : ((markT tQLQIIIIILIELQIILIELQIIELILQIIIELQIIIIEIE r 1).1.1, ((markT tQLQIIIIILIELQIILIELQIIELILQIIIELQIIIIEIE r 1).1.2.1, ((markT tQLQIIIIILIELQIILIELQIIELILQIIIELQIIIIEIE r 1).1.2.2.1, ((markT tQLQIIIIILIELQIILIELQIIELILQIIIELQIIIIEIE r 1).1.2.2.2.1, ((markT tQLQIIIIILIELQIILIELQIIELILQIIIELQIIIIEIE r 1).1.2.2.2.2.1, ((markT tQLQIIIIILIELQIILIELQIIELILQIIIELQIIIIEIE r 1).1.2.2.2.2.2.1, r.2.2.2.2.2.2)))))) = (markT tQLQIIIIILIELQIILIELQIIELILQIIIELQIIIIEIE r 1).1 := rfl
 simp only [h1, hS, hI, h2, h3, h4, h5, he, h6, e1, e2, Bool.not_true, cond_false, bne_self_eq_false, beq_self_eq_true]
end Go.Pv.R
