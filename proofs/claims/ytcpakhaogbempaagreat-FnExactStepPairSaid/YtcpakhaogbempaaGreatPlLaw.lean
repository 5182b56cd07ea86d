/- The law over the plain functions. -/
import Derived.Test.YtcpakhaogbempaaGreatPlHz
namespace Go.Pv.R
set_option linter.unusedVariables false
set_option linter.unusedSimpArgs false
end Go.Pv.R
namespace Go.Pv.R
set_option linter.unusedVariables false
set_option linter.unusedSimpArgs false
theorem S195_ok {N : Nat} {a b c : Int} {kf : Bool → Option Ret} : S195 N a b c kf = kf (inR a b c) := by
 unfold S195 inR
 by_cases h : b ≤ a <;> simp [h]
theorem I144_ok {N : Nat} {a b c : Int} {kf : Bool → Option Ret} : I144 N a b c kf = kf (inR a b c) := by
 unfold I144 inR
 by_cases h : b ≤ a <;> simp [h]
theorem small_or {left : Int} {s : Nat} {A B : Option Ret} (h0 : 0 ≤ left) (h : (s : Int) ≤ left → B = A) : (bif decide (szr left s < 0) then A else B) = A := by
 by_cases hn : szr left s < 0
 ·rw [decide_eq_true hn]; rfl
 ·rw [decide_eq_false hn, cond_false]
  exact h (by have := (szr_neg (s := s) h0); omega)
end Go.Pv.R
namespace Go.Pv.R
set_option linter.unusedVariables false
set_option linter.unusedSimpArgs false
theorem tmod_both (a : Int) : (a.tmod 2147483647 = a % 2147483647 ∧ 0 ≤ a) ∨ (a.tmod 2147483647 = -((-a) % 2147483647) ∧ a < 0) := by
 rcases Int.lt_or_le a 0 with h | h
 ·right
  refine ⟨?_, h⟩
  have h1 : (-a).tmod 2147483647 = (-a) % 2147483647 := Int.tmod_eq_emod_of_nonneg (by omega)
  rw [Int.neg_tmod] at h1
  omega
 ·exact .inl ⟨Int.tmod_eq_emod_of_nonneg h, h⟩
theorem S261_ok {N : Nat} {a : Int} {kf : Int → Option Ret} : S261 N a 2147483647 kf = kf (a % 2147483647) := by
 unfold S261
 rw [S195_ok, show inR 2147483647 1 1000000000000 = true from by decide]
 have e : (decide ((2147483647 : Int) = 0)) = false := by decide
 simp only [Bool.not_true, cond_false, e, Bool.not_false, cond_true]
 congr 1
 rcases tmod_both a with ⟨h, h'⟩ | ⟨h, h'⟩ <;> rw [h, wrap64 (by omega) (by omega), Int.tmod_eq_emod_of_nonneg (by omega)] <;> omega
theorem I262_ok {N : Nat} {a : Int} {kf : Int → Option Ret} : I262 N a 2147483647 kf = kf (a % 2147483647) := by
 unfold I262
 rw [I144_ok, show inR 2147483647 1 1000000000000 = true from by decide]
 have e : (decide ((2147483647 : Int) = 0)) = false := by decide
 simp only [Bool.not_true, cond_false, e, Bool.not_false, cond_true]
 rcases tmod_both a with ⟨h, h'⟩ | ⟨h, h'⟩ <;> rw [h]
 ·rw [decide_eq_false (by omega), cond_false]
 ·by_cases hz : -((-a) % 2147483647) < 0
  ·rw [decide_eq_true hz, cond_true, wrap64 (by omega) (by omega)]
   congr 1
   omega
  ·rw [decide_eq_false hz, cond_false]
   congr 1
   omega
def foldM (i : Nat) (x s : Int) : Int := Int.tmod (IntKind.wrap .i64 ((IntKind.wrap .i64 ((IntKind.wrap .i64 (s * (1000003 : Int))) + x % 2147483647)) + (13 : Int))) (2147483647 : Int)
def hashM (l : List Int) : Int := foldI foldM l 0 11
theorem S248_ok {N : Nat} {l : List Int} {kf : Int → Option Ret} (hl : l.length ≤ maxLen) (hN : l.length < N) : S248 N l kf = kf (hashM l) := by
 unfold S248
 rw [S248_l3_r hl hN, goL1_f foldM (fun i x s next h e => by rw [S261_ok]; rfl)]
 rfl
theorem I219_ok {N : Nat} {l : List Int} {kf : Int → Option Ret} (hl : l.length ≤ maxLen) (hN : l.length < N) : I219 N l kf = kf (hashM l) := by
 unfold I219
 rw [I219_l3_r hl hN, goL1_f foldM (fun i x s next h e => by unfold I249; rw [I262_ok]; rfl)]
 rfl
def sealM (s : Int) (x : QIIIIE) : Int := hashM [s, x.1, x.2.1, x.2.2.1]
theorem S218_ok {N : Nat} {s : Int} {x : QIIIIE} {kf : Int → Option Ret} (hN : 4 < N) : S218 N s x kf = kf (sealM s x) := by
 unfold S218
 rw [S248_ok (by rw [maxLen_eq]; simp) (by simpa using hN)]
 rfl
theorem I169_ok {N : Nat} {s : Int} {x : QIIIIE} {kf : Int → Option Ret} (hN : 4 < N) : I169 N s x kf = kf (sealM s x) := by
 unfold I169
 rw [I219_ok (by rw [maxLen_eq]; simp) (by simpa using hN)]
 rfl
def minM : List QIIIIE → Nat → Int → Bool
 | [], _, _ => true
 | x :: r, i, s => (x.1 == ((i + 1 : Nat) : Int)) && inR x.2.1 1 9 && inR x.2.2.1 0 99 && (x.2.2.2 == sealM s x) && minM r (i + 1) x.2.2.2
def areMinM (l : List QIIIIE) : Bool := decide (l.length ≤ 200) && minM l 0 0
theorem S158_ok {N : Nat} {l : List QIIIIE} {kf : Bool → Option Ret} (hl : l.length ≤ maxLen) (hN : l.length < N) (h4 : 4 < N) : S158 N l kf = kf (areMinM l) := by
 unfold S158
 rw [S158_l3_r hl hN]
 by_cases hc : l.length ≤ 200
 ·have h1 : (decide ((l.length : Int) ≤ 200)) = true := decide_eq_true (by omega)
  have key : ∀ (r : List QIIIIE) (i : Nat) (s : Int), l.drop i = r → goL1 (fun (i : Nat) (x : QIIIIE) (x3_2 : Int) (next : Int → Option Ret) =>
    bif (decide ((List.length l : Int) ≤ (200 : Int))) then
     S218 N x3_2 x (fun (r23_5 : Int) =>
      bif (x.1 != (IntKind.wrap .i64 ((i : Int) + (1 : Int)))) then kf false
      else
       S195 N x.2.1 (1 : Int) (9 : Int) (fun (r32_6 : Bool) =>
        bif (!r32_6) then kf false
        else
         S195 N x.2.2.1 (0 : Int) (99 : Int) (fun (r38_7 : Bool) =>
          bif (!r38_7) then kf false
          else
           bif (x.2.2.2 != r23_5) then kf false
           else next r23_5)))
    else kf (decide ((List.length l : Int) ≤ (200 : Int)))) (fun (x3_2 : Int) => kf (decide ((List.length l : Int) ≤ (200 : Int)))) r i s = kf (minM r i s) := by
   intro r
   induction r with
   | nil => intro i s _; simp only [goL1, minM, h1]
   | cons x r ih =>
    intro i s hd
    have hlt : i < l.length := by have := congrArg List.length hd; simp at this; omega
    rw [List.drop_eq_getElem_cons hlt] at hd
    injection hd with e1 e2
    simp only [goL1, minM]
    simp only [ih (i + 1) _ e2]
    simp only [h1, cond_true, S218_ok h4, S195_ok, wrap_succ hlt hl]
    cases hx : (x.1 == ((i + 1 : Nat) : Int)) with
    | false => simp only [bne, hx, Bool.not_false, cond_true, Bool.false_and]
    | true =>
     simp only [bne, hx, Bool.not_true, cond_false, Bool.true_and]
     cases inR x.2.1 1 9 <;> simp
     cases inR x.2.2.1 0 99 <;> simp
     by_cases hs : x.2.2.2 = sealM s x
     ·simp [hs]
     ·have : (x.2.2.2 == sealM s x) = false := by simpa using hs
      simp [this]
  refine Eq.trans (key l 0 0 rfl) ?_
  unfold areMinM
  simp [hc]
 ·have h1 : (decide ((l.length : Int) ≤ 200)) = false := decide_eq_false (by omega)
  cases l with
  | nil => simp at hc
  | cons x r =>
   simp only [goL1, h1, cond_false]
   unfold areMinM
   rw [decide_eq_false hc]
   rfl
theorem I75_ok {N : Nat} {l : List QIIIIE} {kf : Bool → Option Ret} (hl : l.length ≤ maxLen) (hN : l.length < N) (h4 : 4 < N) : I75 N l kf = kf (areMinM l) := by
 unfold I75
 by_cases hc : l.length ≤ 200
 ·have h1 : (decide ((l.length : Int) > 200)) = false := decide_eq_false (by omega)
  rw [h1, cond_false, I75_l5_r hl hN]
  have key : ∀ (r : List QIIIIE) (i : Nat) (s : Int), l.drop i = r → goL1 (fun (i : Nat) (x : QIIIIE) (x3_1 : Int) (next : Int → Option Ret) =>
    bif (x.1 != (IntKind.wrap .i64 ((i : Int) + (1 : Int)))) then kf false
    else
     I144 N x.2.1 (1 : Int) (9 : Int) (fun (r24_6 : Bool) =>
      bif (!r24_6) then kf false
      else
       I144 N x.2.2.1 (0 : Int) (99 : Int) (fun (r30_7 : Bool) =>
        bif (!r30_7) then kf false
        else
         I169 N x3_1 x (fun (r38_8 : Int) =>
          bif (x.2.2.2 != r38_8) then kf false
          else next x.2.2.2)))) (fun (x3_1 : Int) => kf true) r i s = kf (minM r i s) := by
   intro r
   induction r with
   | nil => intro i s _; simp only [goL1, minM]
   | cons x r ih =>
    intro i s hd
    have hlt : i < l.length := by have := congrArg List.length hd; simp at this; omega
    rw [List.drop_eq_getElem_cons hlt] at hd
    injection hd with e1 e2
    simp only [goL1, minM]
    simp only [ih (i + 1) _ e2]
    simp only [I169_ok h4, I144_ok, wrap_succ hlt hl]
    cases hx : (x.1 == ((i + 1 : Nat) : Int)) with
    | false => simp only [bne, hx, Bool.not_false, cond_true, Bool.false_and]
    | true =>
     simp only [bne, hx, Bool.not_true, cond_false, Bool.true_and]
     cases inR x.2.1 1 9 <;> simp
     cases inR x.2.2.1 0 99 <;> simp
     by_cases hs : x.2.2.2 = sealM s x
     ·simp [hs]
     ·have : (x.2.2.2 == sealM s x) = false := by simpa using hs
      simp [this]
  refine Eq.trans (key l 0 0 rfl) ?_
  unfold areMinM
  simp [hc]
 ·have h1 : (decide ((l.length : Int) > 200)) = true := decide_eq_true (by omega)
  rw [h1, cond_true]
  unfold areMinM
  rw [decide_eq_false hc]
  rfl
end Go.Pv.R
namespace Go.Pv
set_option linter.unusedVariables false
set_option linter.unusedSimpArgs false
theorem findI_some {α : Type} {p : α → Bool} : ∀ {l : List α} {i k : Nat}, findI p l i = some k → ∃ j, ∃ h : j < l.length, k = i + j ∧ p l[j] = true ∧ ∀ j' (h' : j' < j), p (l[j']'(by omega)) = false
 | [], i, k, h => by cases h
 | x :: r, i, k, h => by
  simp only [findI] at h
  cases hp : p x with
  | true =>
   rw [hp] at h
   injection h with h
   exact ⟨0, by simp, by omega, hp, fun j' h' => by omega⟩
  | false =>
   rw [hp] at h
   obtain ⟨j, hj, e, h1, h2⟩ := findI_some (l := r) h
   refine ⟨j + 1, by simpa using hj, by omega, h1, fun j' h' => ?_⟩
   cases j' with
   | zero => exact hp
   | succ j' => exact h2 j' (by omega)
theorem findI_none {α : Type} {p : α → Bool} : ∀ {l : List α} {i : Nat}, findI p l i = none → ∀ j (h : j < l.length), p l[j] = false
 | [], i, h, j, hj => by simp at hj
 | x :: r, i, h, j, hj => by
  simp only [findI] at h
  cases hp : p x with
  | true => rw [hp] at h; cases h
  | false =>
   rw [hp] at h
   cases j with
   | zero => exact hp
   | succ j => exact findI_none (l := r) h j (by simpa using hj)
theorem goL_find {α : Type} {body : Nat → α → Option Ret → Option Ret} {kend : Option Ret} {kf : Nat → Option Ret} {p : α → Bool} (hb : ∀ (i : Nat) (x : α) (next : Option Ret), body i x next = bif p x then kf i else next) : ∀ (l : List α) (i : Nat), goL body kend l i = match findI p l i with
  | some k => kf k
  | none => kend
 | [], _ => rfl
 | x :: r, i => by
  simp only [goL, findI]
  rw [hb]
  cases p x
  ·exact goL_find hb r (i + 1)
  ·rfl
def findM {α : Type} (p : α → Bool) (l : List α) : Int := match findI p l 0 with
 | some k => (k : Int)
 | none => -1
theorem findM_pos {α : Type} {p : α → Bool} {l : List α} (h : ¬ findM p l < 0) : ∃ k : Nat, ∃ hk : k < l.length, findM p l = (k : Int) ∧ p l[k] = true ∧ ∀ j (hj : j < k), p (l[j]'(by omega)) = false := by
 unfold findM at *
 split at h
 ·rename_i k hk
  obtain ⟨j, hj, e, h1, h2⟩ := findI_some hk
  obtain rfl : k = j := by omega
  exact ⟨k, hj, rfl, h1, h2⟩
 ·omega
theorem findM_neg {α : Type} {p : α → Bool} {l : List α} (h : findM p l < 0) : findM p l = -1 ∧ ∀ j (hj : j < l.length), p l[j] = false := by
 unfold findM at *
 split at h
 ·omega
 ·rename_i hn
  exact ⟨rfl, findI_none hn⟩
theorem allI_and {α : Type} {p q : Nat → α → Bool} : ∀ {l : List α} {i : Nat}, allI (fun i x => p i x && q i x) l i = (allI p l i && allI q l i)
 | [], _ => rfl
 | x :: r, i => by
  simp only [allI, allI_and (l := r)]
  cases p i x <;> cases q i x <;> cases allI p r (i + 1) <;> simp
theorem allI_congr {α : Type} {p q : Nat → α → Bool} {l : List α} (h : ∀ (j : Nat) (hj : j < l.length), p j l[j] = q j l[j]) : allI p l 0 = allI q l 0 := by
 apply Bool.eq_iff_iff.2
 rw [allI_iff, allI_iff]
 constructor
 ·intro h1 j hj; have := h1 j hj; rw [Nat.zero_add] at *; rw [← h j hj]; exact this
 ·intro h1 j hj; have := h1 j hj; rw [Nat.zero_add] at *; rw [h j hj]; exact this
theorem wrap_pred {i m : Nat} (h0 : 0 < i) (h : i < m) (hm : m ≤ maxLen) : IntKind.wrap .i64 ((i : Int) - 1) = ((i - 1 : Nat) : Int) := by
 have := maxLen_eq
 rw [wrap64] <;> omega
end Go.Pv
namespace Go.Pv.R
set_option linter.unusedVariables false
set_option linter.unusedSimpArgs false
abbrev Team := QIIIIILIE
def findT (l : List Team) (id : Int) : Int := findM (fun x : Team => x.1 == id) l
theorem S200_ok {N : Nat} {l : List Team} {id : Int} {kf : Int → Option Ret} (hl : l.length ≤ maxLen) (hN : l.length < N) : S200 N l id kf = kf (findT l id) := by
 unfold S200
 rw [S200_l2_r hl hN, goL_find (p := fun x : Team => x.1 == id) (kf := fun i => kf (i : Int)) (fun i x next => rfl)]
 unfold findT findM
 cases findI (fun x : Team => x.1 == id) l 0 <;> rfl
theorem I40_ok {N : Nat} {l : List Team} {id : Int} {kf : Int → Option Ret} (hl : l.length ≤ maxLen) (hN : l.length < N) : I40 N l id kf = kf (findT l id) := by
 unfold I40 S146
 rw [S146_l2_r hl hN]
 simp only [I147]
 rw [goL_find (p := fun x : Team => x.1 == id) (kf := fun i => kf (i : Int)) (fun i x next => rfl)]
 unfold findT findM
 cases findI (fun x : Team => x.1 == id) l 0 <;> rfl
def countM (l : List Int) (n : Int) : Int := foldI (fun i x s => bif x == n then IntKind.wrap .i64 (s + 1) else s) l 0 0
theorem S220_ok {N : Nat} {l : List Int} {n : Int} {kf : Int → Option Ret} (hl : l.length ≤ maxLen) (hN : l.length < N) : S220 N l n kf = kf (countM l n) := by
 unfold S220
 rw [S220_l3_r hl hN, goL1_f (fun i x s => bif x == n then IntKind.wrap .i64 (s + 1) else s) (fun i x s next h e => by cases x == n <;> rfl)]
 rfl
theorem I78_ok {N : Nat} {l : List Int} {n : Int} {kf : Int → Option Ret} (hl : l.length ≤ maxLen) (hN : l.length < N) : I78 N l n kf = kf (countM l n) := by
 unfold I78
 rw [I78_l3_r hl hN, goL1_f (fun i x s => bif x == n then IntKind.wrap .i64 (s + 1) else s) (fun i x s next h e => by cases x == n <;> rfl)]
 rfl
abbrev Team.met (x : Team) : List Int := x.2.2.2.2.2
def teamP (l : List Team) (i : Nat) (x : Team) : Bool := inR x.1 1 99 && (inR x.2.1 1 99 && (inR x.2.2.1 0 x.met.length && (inR x.2.2.2.2.1 0 x.met.length && (inR x.2.2.2.1 0 100000 && (decide (x.met.length ≤ 20) && (decide (i = 0) || decide ((l.getD (i - 1) zQIIIIILIE).1 < x.1)))))))
def metP (l : List Team) (x : Team) (id : Int) : Bool := !decide (findT l id < 0) && (!(id == x.1) && (countM x.met id == countM (l.getD (findT l id).toNat zQIIIIILIE).met x.1))
def areTeamsM (l : List Team) : Bool := decide (l.length ≤ 10) && (allI (teamP l) l 0 && allI (fun _ x => x.met.all (metP l x)) l 0)
def metS (l : List Team) (i : Nat) (x : Team) (id : Int) : Bool := !decide (findT l id < 0) && (!(findT l id == (i : Int)) && (countM (l.getD (findT l id).toNat zQIIIIILIE).met x.1 == countM x.met (l.getD (findT l id).toNat zQIIIIILIE).1))
theorem allI_all {α : Type} {p : α → Bool} : ∀ {l : List α} {i : Nat}, allI (fun _ x => p x) l i = l.all p
 | [], _ => rfl
 | x :: r, i => by simp only [allI, List.all_cons, allI_all (l := r)]
theorem teams_mono {l : List Team} (h : allI (teamP l) l 0 = true) : ∀ (j i : Nat) (hi : i < l.length), j < i → (l.getD j zQIIIIILIE).1 < l[i].1 := by
 rw [allI_iff] at h
 have step : ∀ (i : Nat) (hi : i < l.length), 0 < i → (l.getD (i - 1) zQIIIIILIE).1 < l[i].1 := fun i hi h0 => by
  have := h i hi
  rw [Nat.zero_add] at this
  simp only [teamP, Bool.and_eq_true, Bool.or_eq_true, decide_eq_true_eq] at this
  omega
 intro j i hi hji
 induction i with
 | zero => omega
 | succ i ih =>
  have h1 := step (i + 1) hi (by omega)
  rw [Nat.add_sub_cancel, getD_nat _ _ (show i < l.length by omega)] at h1
  rcases Nat.lt_or_eq_of_le (Nat.le_of_lt_succ hji) with h2 | rfl
  ·have := ih (by omega) h2; omega
  ·rw [getD_nat _ _ (by omega)]; exact h1
theorem findT_self {l : List Team} (h : allI (teamP l) l 0 = true) {i : Nat} (hi : i < l.length) {id : Int} : findT l id = (i : Int) ↔ id = l[i].1 := by
 constructor
 ·intro e
  obtain ⟨k, hk, e1, h1, _⟩ := findM_pos (p := fun x : Team => x.1 == id) (l := l) (by unfold findT at e; omega)
  unfold findT at e
  obtain rfl : k = i := by omega
  exact (beq_iff_eq.1 h1).symm
 ·rintro rfl
  unfold findT
  by_cases hn : findM (fun x : Team => x.1 == l[i].1) l < 0
  ·have := (findM_neg hn).2 i hi
   simp at this
  ·obtain ⟨k, hk, e1, h1, h2⟩ := findM_pos hn
   rw [e1]
   have h1 : l[k].1 = l[i].1 := by simpa using h1
   rcases Nat.lt_trichotomy k i with hlt | rfl | hlt
   ·have := teams_mono h k i hi hlt
    rw [getD_nat _ _ hk] at this
    omega
   ·rfl
   ·have := h2 i hlt
    simp at this
theorem metS_eq {l : List Team} (h : allI (teamP l) l 0 = true) {i : Nat} (hi : i < l.length) (id : Int) : metS l i l[i] id = metP l l[i] id := by
 unfold metS metP
 by_cases hn : findT l id < 0
 ·simp [hn]
 ·rw [decide_eq_false hn, Bool.not_false, Bool.true_and, Bool.true_and]
  have e1 : (findT l id == (i : Int)) = (id == l[i].1) := by
   apply Bool.eq_iff_iff.2
   rw [beq_iff_eq, beq_iff_eq]
   exact findT_self h hi
  rw [e1]
  obtain ⟨k, hk, e2, h2, _⟩ := findM_pos (p := fun x : Team => x.1 == id) hn
  have e3 : findT l id = (k : Int) := e2
  rw [e3, Int.toNat_natCast, getD_nat _ _ hk, show l[k].1 = id by simpa using h2]
  congr 1
  apply Bool.eq_iff_iff.2
  rw [beq_iff_eq, beq_iff_eq]
  exact ⟨fun h => h.symm, fun h => h.symm⟩
theorem teams_alike (l : List Team) : (allI (fun i x => teamP l i x && x.met.all (metS l i x)) l 0 && decide (l.length ≤ 10)) = areTeamsM l := by
 unfold areTeamsM
 rw [allI_and]
 cases h : allI (teamP l) l 0 with
 | false => simp
 | true =>
  have : allI (fun i x => x.met.all (metS l i x)) l 0 = allI (fun _ x => x.met.all (metP l x)) l 0 := allI_congr fun j hj => by
   congr 1
   funext id
   exact metS_eq h hj id
  rw [this]
  cases decide (l.length ≤ 10) <;> simp
theorem S175_ok {N : Nat} {l : List Team} {kf : Bool → Option Ret} (hl : l.length ≤ maxLen) (hm : ∀ x ∈ l, x.met.length ≤ maxLen ∧ x.met.length < N) (hN : l.length < N) : S175 N l kf = kf (areTeamsM l) := by
 unfold S175
 rw [S175_l2_r hl hN, goL_all (l := l) (p := fun i x => teamP l i x && x.met.all (metS l i x)) (kf := kf false) (fun i x next h e => ?_) l 0 rfl, ← teams_alike]
 ·cases allI (fun i x => teamP l i x && x.met.all (metS l i x)) l 0
  ·rfl
  ·simp only [cond_true, Bool.true_and]
   congr 1
   apply Bool.eq_iff_iff.2
   simp
   omega
 ·have hx : x ∈ l := by rw [← e]; exact List.getElem_mem h
  obtain ⟨m1, m2⟩ := hm x hx
  have inner : S175_l8 N l (i : Int) x N next kf (0 : Int) = bif x.met.all (metS l i x) then next else kf false := by
   rw [S175_l8_r m1 m2, goL_all (l := x.met) (p := fun _ id => metS l i x id) (kf := kf false) (fun j id next' hj ej => ?_) x.met 0 rfl, allI_all]
   rw [S200_ok hl hN]
   unfold metS
   by_cases hn : findT l id < 0
   ·simp [hn]
   ·rw [decide_eq_false hn, cond_false, Bool.not_false, Bool.true_and]
    cases hf : findT l id == (i : Int)
    ·obtain ⟨k, hk, e2, h2, _⟩ := findM_pos (p := fun x : Team => x.1 == id) hn
     have e3 : findT l id = (k : Int) := e2
     obtain ⟨q1, q2⟩ := hm l[k] (List.getElem_mem hk)
     rw [cond_false, e3, inB_nat hk, cond_true, cond_true, Int.toNat_natCast, getD_nat _ _ hk, S220_ok q1 q2, S220_ok m1 m2]
     cases hc : (countM l[k].met x.1 == countM x.met l[k].1) <;> simp [bne, hc]
    ·simp
  have ord : ∀ A B : Option Ret, (bif (decide ((i : Int) > (0 : Int))) then
    bif (inB (IntKind.wrap .i64 ((i : Int) - (1 : Int))) (List.length l)) then
     bif (decide ((List.getD l (Int.toNat (IntKind.wrap .i64 ((i : Int) - (1 : Int)))) zQIIIIILIE).1 ≥ x.1)) then A else B
    else none
   else B) = bif (decide (i = 0) || decide ((l.getD (i - 1) zQIIIIILIE).1 < x.1)) then B else A := fun A B => by
   by_cases h0 : i = 0
   ·subst h0; simp
   ·rw [decide_eq_true (show (i : Int) > 0 by omega), cond_true, wrap_pred (by omega) h hl, inB_nat (by omega), cond_true, Int.toNat_natCast, decide_eq_false h0, Bool.false_or]
    by_cases hc : (l.getD (i - 1) zQIIIIILIE).1 < x.1
    ·rw [decide_eq_false (by omega), decide_eq_true hc]; rfl
    ·rw [decide_eq_true (by omega), decide_eq_false hc]; rfl
  simp only [S195_ok, inner, ord]
  unfold teamP
  cases inR x.1 1 99 <;> simp
  cases inR x.2.1 1 99 <;> simp
  cases inR x.2.2.1 0 x.met.length <;> simp
  cases inR x.2.2.2.2.1 0 x.met.length <;> simp
  cases inR x.2.2.2.1 0 100000 <;> simp
  by_cases h20 : x.met.length ≤ 20
  ·rw [decide_eq_false (show ¬ (20 : Int) < (x.met.length : Int) by omega), decide_eq_true h20]
   simp
   cases (decide (i = 0) || decide ((l[i - 1]?.getD zQIIIIILIE).1 < x.1)) <;> simp
  ·rw [decide_eq_true (show (20 : Int) < (x.met.length : Int) by omega), decide_eq_false h20]
   simp
theorem I143_ok {N : Nat} {l : List Team} {kf : Bool → Option Ret} (hl : l.length ≤ maxLen) (hm : ∀ x ∈ l, x.met.length ≤ maxLen ∧ x.met.length < N) (hN : l.length < N) : I143 N l kf = kf (areTeamsM l) := by
 unfold I143
 by_cases h10 : l.length ≤ 10
 rotate_left
 ·rw [decide_eq_true (by omega), cond_true]
  unfold areTeamsM
  rw [decide_eq_false h10]
  rfl
 rw [decide_eq_false (by omega), cond_false]
 rw [I143_l4_r hl hN, goL_all (l := l) (p := fun i x => teamP l i x && x.met.all (metP l x)) (kf := kf false) (fun i x next h e => ?_) l 0 rfl]
 ·unfold areTeamsM
  rw [decide_eq_true h10, Bool.true_and, allI_and]
  cases (allI (teamP l) l 0 && allI (fun _ x => x.met.all (metP l x)) l 0) <;> rfl
 ·have hx : x ∈ l := by rw [← e]; exact List.getElem_mem h
  obtain ⟨m1, m2⟩ := hm x hx
  have inner : I143_l10 N l x l (List.length l : Int) (i : Int) x.2.2.2.2.2 (List.length x.2.2.2.2.2 : Int) N next kf (0 : Int) = bif x.met.all (metP l x) then next else kf false := by
   rw [I143_l10_r m1 m2, goL_all (l := x.met) (p := fun _ id => metP l x id) (kf := kf false) (fun j id next' hj ej => ?_) x.met 0 rfl, allI_all]
   rw [I40_ok hl hN]
   unfold metP
   by_cases hn : findT l id < 0
   ·simp [hn]
   ·rw [decide_eq_false hn, cond_false, Bool.not_false, Bool.true_and]
    cases hf : id == x.1
    ·obtain ⟨k, hk, e2, h2, _⟩ := findM_pos (p := fun x : Team => x.1 == id) hn
     have e3 : findT l id = (k : Int) := e2
     obtain ⟨q1, q2⟩ := hm l[k] (List.getElem_mem hk)
     rw [cond_false, e3, inB_nat hk, cond_true, Int.toNat_natCast, getD_nat _ _ hk, I78_ok m1 m2, I78_ok q1 q2]
     cases hc : (countM x.met id == countM l[k].met x.1) <;> simp [bne, hc]
    ·simp
  have ord : ∀ A B : Option Ret, (bif (decide ((i : Int) > (0 : Int))) then
    bif (inB (IntKind.wrap .i64 ((i : Int) - (1 : Int))) (List.length l)) then
     bif (decide (x.1 ≤ (List.getD l (Int.toNat (IntKind.wrap .i64 ((i : Int) - (1 : Int)))) zQIIIIILIE).1)) then A else B
    else none
   else B) = bif (decide (i = 0) || decide ((l.getD (i - 1) zQIIIIILIE).1 < x.1)) then B else A := fun A B => by
   by_cases h0 : i = 0
   ·subst h0; simp
   ·rw [decide_eq_true (show (i : Int) > 0 by omega), cond_true, wrap_pred (by omega) h hl, inB_nat (by omega), cond_true, Int.toNat_natCast, decide_eq_false h0, Bool.false_or]
    by_cases hc : (l.getD (i - 1) zQIIIIILIE).1 < x.1
    ·rw [decide_eq_false (by omega), decide_eq_true hc]; rfl
    ·rw [decide_eq_true (by omega), decide_eq_false hc]; rfl
  simp only [I144_ok, inner, ord]
  unfold teamP
  cases inR x.1 1 99 <;> simp
  cases (decide (i = 0) || decide ((l[i - 1]?.getD zQIIIIILIE).1 < x.1)) <;> simp
  cases inR x.2.1 1 99 <;> simp
  by_cases h20 : x.met.length ≤ 20
  ·rw [decide_eq_false (show ¬ (20 : Int) < (x.met.length : Int) by omega), decide_eq_true h20]
   simp
   cases inR x.2.2.1 0 x.met.length <;> simp
   cases inR x.2.2.2.2.1 0 x.met.length <;> simp
   cases inR x.2.2.2.1 0 100000 <;> simp
  ·rw [decide_eq_true (show (20 : Int) < (x.met.length : Int) by omega), decide_eq_false h20]
   simp
theorem teams_small {l : List Team} {N : Nat} (hw : wf (.sl tQIIIIILIE) l) (hN : sizeV (.sl tQIIIIILIE) l < N) : ∀ x ∈ l, x.met.length ≤ maxLen ∧ x.met.length < N := fun x hx => by
 have h1 := sizeV_mem (t := tQIIIIILIE) hx
 have h2 : sizeV tQIIIIILIE x = sizeV (.sl (.int .i64)) x.2.2.2.2.2 := by simp [sizeV]
 have h3 := sizeV_len (t := .int .i64) x.2.2.2.2.2
 exact ⟨(hw.2 x hx).2.2.2.2.2.1, by show x.2.2.2.2.2.length < N; omega⟩
end Go.Pv.R
namespace Go.Pv
set_option linter.unusedVariables false
set_option linter.unusedSimpArgs false
def gatherI {α β : Type} (c : Nat → α → Bool) (f : Nat → α → β) : List α → Nat → List β
 | [], _ => []
 | x :: r, i => bif c i x then f i x :: gatherI c f r (i + 1) else gatherI c f r (i + 1)
theorem goL1_gather {α β : Type} {body : Nat → α → List β → (List β → Option Ret) → Option Ret} {kend : List β → Option Ret} {c : Nat → α → Bool} {f : Nat → α → β} {l : List α}
  (hb : ∀ (i : Nat) (x : α) (s : List β) (next : List β → Option Ret) (h : i < l.length), l[i] = x → s.length ≤ i → body i x s next = bif c i x then next (s ++ [f i x]) else next s) :
  ∀ (r : List α) (i : Nat) (s : List β), l.drop i = r → s.length ≤ i → goL1 body kend r i s = kend (s ++ gatherI c f r i)
 | [], i, s, _, _ => by simp [goL1, gatherI]
 | x :: r, i, s, hd, hs => by
  have hlt : i < l.length := by have := congrArg List.length hd; simp at this; omega
  rw [List.drop_eq_getElem_cons hlt] at hd
  injection hd with h1 h2
  simp only [goL1, gatherI]
  rw [hb i x s _ hlt h1 hs]
  cases c i x
  ·rw [cond_false, cond_false]
   exact goL1_gather hb r (i + 1) s h2 (by omega)
  ·rw [cond_true, cond_true, goL1_gather hb r (i + 1) (s ++ [f i x]) h2 (by simp; omega)]
   simp
theorem findM_any {α : Type} (p : α → Bool) (l : List α) : decide (findM p l ≥ 0) = l.any p := by
 by_cases h : findM p l < 0
 ·rw [decide_eq_false (by omega)]
  symm
  rw [List.any_eq_false]
  intro x hx
  obtain ⟨j, hj, rfl⟩ := List.mem_iff_getElem.1 hx
  rw [(findM_neg h).2 j hj]
  simp
 ·rw [decide_eq_true (by omega)]
  symm
  rw [List.any_eq_true]
  obtain ⟨k, hk, _, h1, _⟩ := findM_pos h
  exact ⟨l[k], List.getElem_mem hk, h1⟩
theorem countI_eq (n : Int) : ∀ (l : List Int) (i : Nat) (s : Nat), s + l.length ≤ maxLen → foldI (fun _ x s => bif x == n then IntKind.wrap .i64 (s + 1) else s) l i (s : Int) = ((s + l.count n : Nat) : Int)
 | [], _, _, _ => by simp [foldI]
 | x :: r, i, s, h => by
  simp only [foldI, List.count_cons]
  simp only [List.length_cons] at h
  have := maxLen_eq
  cases hx : x == n with
  | false => simp only [cond_false]; rw [countI_eq n r (i + 1) s (by omega)]; simp
  | true =>
   simp only [cond_true, if_true]
   rw [wrap64 (by omega) (by omega), show ((s : Int) + 1) = ((s + 1 : Nat) : Int) by omega, countI_eq n r (i + 1) (s + 1) (by omega)]
   congr 1
   omega
theorem sum_counts {b : List Int} (hb : b.Nodup) : ∀ (a : List Int), (∀ x ∈ a, x ∈ b) → (b.map fun x => a.count x).sum = a.length
 | [], _ => by
  have : ∀ l : List Int, (l.map fun x => ([] : List Int).count x).sum = 0 := by
   intro l
   induction l with
   | nil => rfl
   | cons x r ih => rw [List.map_cons, List.sum_cons, ih]; simp
  rw [this]; rfl
 | y :: a, h => by
  have ih := sum_counts hb a (fun x hx => h x (by simp [hx]))
  have hy := h y (by simp)
  have key : ∀ l : List Int, (l.map fun x => (y :: a).count x).sum = (l.map fun x => a.count x).sum + l.count y := by
   intro l
   induction l with
   | nil => rfl
   | cons x r ihl =>
    rw [List.map_cons, List.sum_cons, ihl, List.map_cons, List.sum_cons, List.count_cons, List.count_cons]
    by_cases hxy : y = x
    ·subst hxy; simp; omega
    ·have h1 : (y == x) = false := by simpa using hxy
     have h2 : (x == y) = false := by simpa using fun e => hxy e.symm
     rw [h1, h2]; simp; omega
  rw [key, ih, List.length_cons]
  have : b.count y = 1 := by
   have h1 := List.count_pos_iff.2 hy
   have h2 := List.nodup_iff_count.1 hb y
   omega
  omega
theorem all_one {b : List Int} {f : Int → Nat} (h1 : ∀ x ∈ b, f x ≤ 1) (h2 : (b.map f).sum = b.length) : ∀ x ∈ b, f x = 1 := by
 have le : ∀ l : List Int, (∀ x ∈ l, f x ≤ 1) → (l.map f).sum ≤ l.length := by
  intro l
  induction l with
  | nil => intro _; simp
  | cons x r ih => intro h; have := ih (fun y hy => h y (by simp [hy])); have := h x (by simp); simp; omega
 induction b with
 | nil => intro x hx; cases hx
 | cons y r ih =>
  have hr := le r (fun x hx => h1 x (by simp [hx]))
  have hy := h1 y (by simp)
  simp only [List.map_cons, List.sum_cons, List.length_cons] at h2
  intro x hx
  rcases List.mem_cons.1 hx with rfl | hx
  ·omega
  ·exact ih (fun x hx => h1 x (by simp [hx])) (by omega) x hx
theorem once_iff {a b : List Int} (hb : b.Nodup) (h : ∀ x ∈ a, x ∈ b) : (∀ x ∈ b, a.count x = 1) ↔ a.Nodup ∧ a.length = b.length := by
 have hs := sum_counts hb a h
 constructor
 ·intro h1
  refine ⟨List.nodup_iff_count.2 fun x => ?_, ?_⟩
  ·by_cases hx : x ∈ a
   ·rw [h1 x (h x hx)]; exact Nat.le_refl _
   ·rw [List.count_eq_zero_of_not_mem hx]; omega
  ·have key : ∀ l : List Int, (∀ x ∈ l, a.count x = 1) → (l.map fun x => a.count x).sum = l.length := by
    intro l
    induction l with
    | nil => intro _; rfl
    | cons x r ih => intro h; simp [ih (fun y hy => h y (by simp [hy])), h x (by simp)]; omega
   rw [key b h1] at hs
   exact hs.symm
 ·intro ⟨h1, h2⟩
  exact all_one (fun x _ => List.nodup_iff_count.1 h1 x) (by rw [hs, h2])
end Go.Pv
namespace Go.Pv.R
set_option linter.unusedVariables false
set_option linter.unusedSimpArgs false
abbrev Judge := QIILIE
abbrev Pair := QIIE
theorem countM_eq {l : List Int} {n : Int} (h : l.length ≤ maxLen) : countM l n = (l.count n : Int) := by
 have := countI_eq n l 0 0 (by omega)
 rw [Nat.zero_add] at this
 exact this
def hasM (l : List Int) (n : Int) : Bool := l.any fun x => x == n
theorem hasM_iff {l : List Int} {n : Int} : hasM l n = true ↔ n ∈ l := by
 unfold hasM
 rw [List.any_eq_true]
 constructor
 ·rintro ⟨x, hx, h⟩
  have : x = n := by simpa using h
  exact this ▸ hx
 ·intro h; exact ⟨n, h, by simp⟩
theorem S224_ok {N : Nat} {l : List Int} {n : Int} {kf : Bool → Option Ret} (hl : l.length ≤ maxLen) (hN : l.length < N) : S224 N l n kf = kf (hasM l n) := by
 unfold S224
 rw [S224_l2_r hl hN, goL_find (p := fun x : Int => x == n) (kf := fun _ => kf true) (fun i x next => rfl)]
 unfold hasM
 rw [← findM_any]
 unfold findM
 cases findI (fun x : Int => x == n) l 0
 ·rfl
 ·rw [decide_eq_true (by simp)]
theorem S82_ok {N : Nat} {l : List Int} {n : Int} {kf : Bool → Option Ret} (hl : l.length ≤ maxLen) (hN : l.length < N) : S82 N l n kf = kf (hasM l n) := by
 unfold S82 S170
 rw [S170_l2_r hl hN, goL_find (p := fun x : Int => n == x) (kf := fun i => kf (decide ((i : Int) ≥ 0))) (fun i x next => rfl)]
 have e : hasM l n = l.any fun x => n == x := by
  unfold hasM
  congr 1
  funext x
  apply Bool.eq_iff_iff.2
  rw [beq_iff_eq, beq_iff_eq]
  exact ⟨fun h => h.symm, fun h => h.symm⟩
 rw [e, ← findM_any]
 unfold findM
 cases findI (fun x : Int => n == x) l 0 <;> rfl
def findJ (l : List Judge) (id : Int) : Int := findM (fun x : Judge => x.1 == id) l
theorem S126_ok {N : Nat} {l : List Judge} {id : Int} {kf : Int → Option Ret} (hl : l.length ≤ maxLen) (hN : l.length < N) : S126 N l id kf = kf (findJ l id) := by
 unfold S126
 rw [S126_l2_r hl hN, goL_find (p := fun x : Judge => x.1 == id) (kf := fun i => kf (i : Int)) (fun i x next => rfl)]
 unfold findJ findM
 cases findI (fun x : Judge => x.1 == id) l 0 <;> rfl
theorem S80_ok {N : Nat} {l : List Judge} {id : Int} {kf : Int → Option Ret} (hl : l.length ≤ maxLen) (hN : l.length < N) : S80 N l id kf = kf (findJ l id) := by
 unfold S80
 rw [S80_l2_r hl hN]
 simp only [I81]
 rw [goL_find (p := fun x : Judge => x.1 == id) (kf := fun i => kf (i : Int)) (fun i x next => rfl)]
 unfold findJ findM
 cases findI (fun x : Judge => x.1 == id) l 0 <;> rfl
def seenP (s : List Int) : Bool := allI (fun i y => inR y 1 99 && (decide (i = 0) || decide (s.getD (i - 1) 0 < y))) s 0
def judgeP (l : List Judge) (i : Nat) (x : Judge) : Bool := inR x.1 1 99 && (inR x.2.1 1 99 && ((decide (i = 0) || decide ((l.getD (i - 1) zQIILIE).1 < x.1)) && seenP x.2.2))
def areJudgesM (l : List Judge) : Bool := decide (l.length ≤ 10) && allI (judgeP l) l 0
theorem ord_ok {α : Type} {l : List α} {i : Nat} {z : α} {g : α → Int} {y : Int} {A B : Option Ret} (hi : i < l.length) (hl : l.length ≤ maxLen) : (bif (decide ((i : Int) > (0 : Int))) then
    bif (inB (IntKind.wrap .i64 ((i : Int) - (1 : Int))) (List.length l)) then
     bif (decide (y ≤ g (List.getD l (Int.toNat (IntKind.wrap .i64 ((i : Int) - (1 : Int)))) z))) then A else B
    else none
   else B) = bif (decide (i = 0) || decide (g (l.getD (i - 1) z) < y)) then B else A := by
 by_cases h0 : i = 0
 ·subst h0; simp
 ·rw [decide_eq_true (show (i : Int) > 0 by omega), cond_true, wrap_pred (by omega) hi hl, inB_nat (by omega), cond_true, Int.toNat_natCast, decide_eq_false h0, Bool.false_or]
  by_cases hc : g (l.getD (i - 1) z) < y
  ·rw [decide_eq_false (by omega), decide_eq_true hc]; rfl
  ·rw [decide_eq_true (by omega), decide_eq_false hc]; rfl
theorem ord_ok2 {α : Type} {l : List α} {i : Nat} {z : α} {g : α → Int} {y : Int} {A B : Option Ret} (hi : i < l.length) (hl : l.length ≤ maxLen) : (bif (decide ((i : Int) > (0 : Int))) then
    bif (inB (IntKind.wrap .i64 ((i : Int) - (1 : Int))) (List.length l)) then
     bif (decide (g (List.getD l (Int.toNat (IntKind.wrap .i64 ((i : Int) - (1 : Int)))) z) ≥ y)) then A else B
    else none
   else B) = bif (decide (i = 0) || decide (g (l.getD (i - 1) z) < y)) then B else A := ord_ok hi hl
theorem S178_ok {N : Nat} {l : List Judge} {kf : Bool → Option Ret} (hl : l.length ≤ maxLen) (hm : ∀ x ∈ l, x.2.2.length ≤ maxLen ∧ x.2.2.length < N) (hN : l.length < N) : S178 N l kf = kf (areJudgesM l) := by
 unfold S178
 rw [S178_l2_r hl hN, goL_all (l := l) (p := judgeP l) (kf := kf false) (fun i x next h e => ?_) l 0 rfl]
 ·unfold areJudgesM
  cases allI (judgeP l) l 0
  ·simp
  ·simp only [cond_true, Bool.and_true]
   congr 1
   apply Bool.eq_iff_iff.2
   simp
   omega
 ·have hx : x ∈ l := by rw [← e]; exact List.getElem_mem h
  obtain ⟨m1, m2⟩ := hm x hx
  have inner : S178_l7 N l (i : Int) N next kf (0 : Int) = bif seenP x.2.2 then next else kf false := by
   have hg : List.getD l (Int.toNat (i : Int)) zQIILIE = x := by rw [Int.toNat_natCast, getD_nat _ _ h, e]
   rw [S178_l7_r (inB_nat h) (by rw [hg]; exact m1) (by rw [hg]; exact m2)]
   simp only [hg]
   rw [goL_all (l := x.2.2) (p := fun i y => inR y 1 99 && (decide (i = 0) || decide (x.2.2.getD (i - 1) 0 < y))) (kf := kf false) (fun j y next' hj ej => ?_) x.2.2 0 rfl]
   ·rfl
   ·rw [S195_ok]
    have := ord_ok2 (l := x.2.2) (z := (0 : Int)) (g := fun x => x) (y := y) (A := kf false) (B := next') hj m1
    rw [this]
    cases inR y 1 99 <;> simp
  simp only [S195_ok, inner]
  have ho := fun A B => ord_ok2 (l := l) (z := zQIILIE) (g := fun x => x.1) (y := x.1) (A := A) (B := B) h hl
  simp only [ho]
  unfold judgeP
  cases inR x.1 1 99 <;> simp
  cases inR x.2.1 1 99 <;> simp
  cases (decide (i = 0) || decide ((l[i - 1]?.getD zQIILIE).1 < x.1)) <;> simp
theorem I79_ok {N : Nat} {l : List Judge} {kf : Bool → Option Ret} (hl : l.length ≤ maxLen) (hm : ∀ x ∈ l, x.2.2.length ≤ maxLen ∧ x.2.2.length < N) (hN : l.length < N) : I79 N l kf = kf (areJudgesM l) := by
 unfold I79
 by_cases h10 : l.length ≤ 10
 rotate_left
 ·rw [decide_eq_true (by omega), cond_true]
  unfold areJudgesM
  rw [decide_eq_false h10]
  rfl
 rw [decide_eq_false (by omega), cond_false]
 rw [I79_l4_r hl hN, goL_all (l := l) (p := judgeP l) (kf := kf false) (fun i x next h e => ?_) l 0 rfl]
 ·unfold areJudgesM
  rw [decide_eq_true h10, Bool.true_and]
  cases allI (judgeP l) l 0 <;> rfl
 ·have hx : x ∈ l := by rw [← e]; exact List.getElem_mem h
  obtain ⟨m1, m2⟩ := hm x hx
  have inner : I79_l9 N l x l (List.length l : Int) (i : Int) x.2.2 (List.length x.2.2 : Int) N next kf (0 : Int) = bif seenP x.2.2 then next else kf false := by
   rw [I79_l9_r m1 m2]
   rw [goL_all (l := x.2.2) (p := fun i y => inR y 1 99 && (decide (i = 0) || decide (x.2.2.getD (i - 1) 0 < y))) (kf := kf false) (fun j y next' hj ej => ?_) x.2.2 0 rfl]
   ·rfl
   ·rw [I144_ok]
    have := ord_ok (l := x.2.2) (z := (0 : Int)) (g := fun x => x) (y := y) (A := kf false) (B := next') hj m1
    rw [this]
    cases inR y 1 99 <;> simp
  simp only [I144_ok, inner]
  have ho := fun A B => ord_ok (l := l) (z := zQIILIE) (g := fun x => x.1) (y := x.1) (A := A) (B := B) h hl
  simp only [ho]
  unfold judgeP
  cases inR x.1 1 99 <;> simp
  cases inR x.2.1 1 99 <;> simp
  cases (decide (i = 0) || decide ((l[i - 1]?.getD zQIILIE).1 < x.1)) <;> simp
theorem judges_small {l : List Judge} {N : Nat} (hw : wf (.sl tQIILIE) l) (hN : sizeV (.sl tQIILIE) l < N) : ∀ x ∈ l, x.2.2.length ≤ maxLen ∧ x.2.2.length < N := fun x hx => by
 have h1 := sizeV_mem (t := tQIILIE) hx
 have h2 : sizeV tQIILIE x = sizeV (.sl (.int .i64)) x.2.2 := by simp [sizeV]
 have h3 := sizeV_len (t := .int .i64) x.2.2
 exact ⟨(hw.2 x hx).2.2.1, by omega⟩
def clubT (l : List Team) (id : Int) : Int := (l.getD (findT l id).toNat zQIIIIILIE).2.1
def metT (l : List Team) (id : Int) : List Int := (l.getD (findT l id).toNat zQIIIIILIE).met
def haveMetM (l : List Team) (a b : Int) : Bool := decide (findT l a ≥ 0) && hasM (metT l a) b
def mayMeetM (l : List Team) (a b : Int) : Bool := areTeamsM l && (decide (findT l a ≥ 0) && (decide (findT l b ≥ 0) && ((findT l a != findT l b) && ((clubT l a != clubT l b) && !haveMetM l a b))))
theorem findT_in {l : List Team} {id : Int} (h : findT l id ≥ 0) : inB (findT l id) l.length = true ∧ (findT l id).toNat < l.length := by
 obtain ⟨k, hk, e, _⟩ := findM_pos (p := fun x : Team => x.1 == id) (l := l) (by unfold findT at h; omega)
 have e : findT l id = (k : Int) := e
 rw [e]
 exact ⟨inB_nat hk, by simpa using hk⟩
theorem S250_ok {N : Nat} {l : List Team} {a b : Int} {kf : Bool → Option Ret} (hl : l.length ≤ maxLen) (hm : ∀ x ∈ l, x.met.length ≤ maxLen ∧ x.met.length < N) (hN : l.length < N) : S250 N l a b kf = kf (haveMetM l a b) := by
 unfold S250 haveMetM
 rw [S200_ok hl hN]
 by_cases h : findT l a ≥ 0
 ·obtain ⟨h1, h2⟩ := findT_in h
  have hx : l.getD (findT l a).toNat zQIIIIILIE ∈ l := by rw [getD_nat _ _ h2]; exact List.getElem_mem h2
  obtain ⟨m1, m2⟩ := hm _ hx
  rw [decide_eq_true h, cond_true, h1, cond_true, S224_ok m1 m2]
  rfl
 ·rw [decide_eq_false h]; rfl
theorem I19_ok {N : Nat} {l : List Team} {a b : Int} {kf : Bool → Option Ret} (hl : l.length ≤ maxLen) (hm : ∀ x ∈ l, x.met.length ≤ maxLen ∧ x.met.length < N) (hN : l.length < N) : I19 N l a b kf = kf (haveMetM l a b) := by
 unfold I19 haveMetM
 rw [I40_ok hl hN]
 by_cases h : findT l a ≥ 0
 ·obtain ⟨h1, h2⟩ := findT_in h
  have hx : l.getD (findT l a).toNat zQIIIIILIE ∈ l := by rw [getD_nat _ _ h2]; exact List.getElem_mem h2
  obtain ⟨m1, m2⟩ := hm _ hx
  rw [decide_eq_true h, cond_true, h1, cond_true, S82_ok m1 m2]
  rfl
 ·rw [decide_eq_false h]; rfl
theorem S221_ok {N : Nat} {l : List Team} {a b : Int} {kf : Bool → Option Ret} (hl : l.length ≤ maxLen) (hm : ∀ x ∈ l, x.met.length ≤ maxLen ∧ x.met.length < N) (hN : l.length < N) : S221 N l a b kf = kf (mayMeetM l a b) := by
 unfold S221 mayMeetM
 rw [S200_ok hl hN, S200_ok hl hN, S175_ok hl hm hN]
 cases areTeamsM l
 ·rfl
 by_cases ha : findT l a ≥ 0
 rotate_left
 ·rw [decide_eq_false ha]; rfl
 by_cases hb : findT l b ≥ 0
 rotate_left
 ·rw [decide_eq_true ha, decide_eq_false hb]; rfl
 rw [decide_eq_true ha, decide_eq_true hb, (findT_in ha).1, (findT_in hb).1, S250_ok hl hm hN]
 simp only [cond_true, Bool.true_and]
 cases findT l a != findT l b
 ·rfl
 unfold clubT
 cases (l.getD (findT l a).toNat zQIIIIILIE).2.1 != (l.getD (findT l b).toNat zQIIIIILIE).2.1 <;> rfl
theorem I77_ok {N : Nat} {l : List Team} {a b : Int} {kf : Bool → Option Ret} (hl : l.length ≤ maxLen) (hm : ∀ x ∈ l, x.met.length ≤ maxLen ∧ x.met.length < N) (hN : l.length < N) : I77 N l a b kf = kf (mayMeetM l a b) := by
 unfold I77 mayMeetM
 rw [I40_ok hl hN, I40_ok hl hN, I143_ok hl hm hN]
 cases areTeamsM l
 ·rfl
 by_cases ha : findT l a ≥ 0
 rotate_left
 ·rw [decide_eq_false ha]; rfl
 by_cases hb : findT l b ≥ 0
 rotate_left
 ·rw [decide_eq_true ha, decide_eq_false hb]; rfl
 rw [decide_eq_true ha, decide_eq_true hb, (findT_in ha).1, (findT_in hb).1, I19_ok hl hm hN]
 simp only [cond_true, Bool.true_and]
 cases findT l a != findT l b
 ·rfl
 unfold clubT
 cases (l.getD (findT l a).toNat zQIIIIILIE).2.1 != (l.getD (findT l b).toNat zQIIIIILIE).2.1 <;> rfl
def okFor (t : List Team) (j : Judge) (id : Int) : Bool := decide (findT t id ≥ 0) && ((clubT t id != j.2.1) && !hasM j.2.2 id)
def mayJudgeM (t : List Team) (j : Judge) (p : Pair) : Bool := okFor t j p.1 && okFor t j p.2
theorem S225_ok {N : Nat} {t : List Team} {j : Judge} {p : Pair} {kf : Bool → Option Ret} (hl : t.length ≤ maxLen) (hN : t.length < N) (h1 : j.2.2.length ≤ maxLen) (h2 : j.2.2.length < N) : S225 N t j p kf = kf (mayJudgeM t j p) := by
 unfold S225 mayJudgeM okFor
 rw [S200_ok hl hN, S200_ok hl hN]
 by_cases ha : findT t p.1 ≥ 0
 rotate_left
 ·rw [decide_eq_false ha]; rfl
 by_cases hb : findT t p.2 ≥ 0
 rotate_left
 ·rw [decide_eq_true ha, decide_eq_false hb]; simp
 rw [decide_eq_true ha, decide_eq_true hb, (findT_in ha).1, (findT_in hb).1, S224_ok h1 h2]
 simp only [S224_ok h1 h2, cond_true, Bool.true_and]
 unfold clubT
 cases (t.getD (findT t p.1).toNat zQIIIIILIE).2.1 != j.2.1
 ·rfl
 cases (t.getD (findT t p.2).toNat zQIIIIILIE).2.1 != j.2.1
 ·simp
 cases hasM j.2.2 p.1 <;> simp
theorem I83_ok {N : Nat} {t : List Team} {j : Judge} {p : Pair} {kf : Bool → Option Ret} (hl : t.length ≤ maxLen) (hN : t.length < N) (h1 : j.2.2.length ≤ maxLen) (h2 : j.2.2.length < N) (h3 : 2 < N) : I83 N t j p kf = kf (mayJudgeM t j p) := by
 have key : ∀ (id : Int) (next : Option Ret), (I40 N t id (fun (r22_7 : Int) =>
     bif (decide (r22_7 < (0 : Int))) then
      kf false
     else
      bif (inB r22_7 (List.length t)) then
       bif ((List.getD t (Int.toNat r22_7) zQIIIIILIE).2.1 == j.2.1) then
        kf false
       else
        S82 N j.2.2 id (fun (r39_8 : Bool) =>
         bif r39_8 then
          kf false
         else
          next)
      else none)) = bif okFor t j id then next else kf false := fun id next => by
  rw [I40_ok hl hN]
  unfold okFor
  by_cases ha : findT t id ≥ 0
  rotate_left
  ·rw [decide_eq_false ha, decide_eq_true (by omega)]; rfl
  rw [decide_eq_true ha, decide_eq_false (by omega), (findT_in ha).1, S82_ok h1 h2]
  simp only [cond_true, cond_false, Bool.true_and]
  unfold clubT
  cases hc : (t.getD (findT t id).toNat zQIIIIILIE).2.1 == j.2.1
  ·simp only [bne, hc, Bool.not_false, Bool.true_and, cond_false]
   cases hasM j.2.2 id <;> rfl
  ·simp only [bne, hc, Bool.not_true, Bool.false_and, cond_false, cond_true]
 unfold I83
 rw [I83_l2_r (by rw [maxLen_eq]; simp) (by simpa using h3)]
 simp only [goL, key]
 unfold mayJudgeM
 cases okFor t j p.1
 ·rfl
 ·simp
  cases okFor t j p.2 <;> rfl
end Go.Pv.R
namespace Go.Pv.R
set_option linter.unusedVariables false
set_option linter.unusedSimpArgs false
theorem S196_ok {N : Nat} {l : List Team} {kf : Int → Option Ret} (hl : l.length ≤ maxLen) (hm : ∀ x ∈ l, x.met.length ≤ maxLen ∧ x.met.length < N) (hN : l.length < N) : S196 N l kf = kf (bif areTeamsM l then foldI (fun _ (x : Team) s => IntKind.wrap .i64 (s + x.2.2.1)) l 0 0 else 0) := by
 unfold S196
 rw [S196_l3_r hl hN]
 simp only [S175_ok hl hm hN]
 cases areTeamsM l with
 | false => cases l <;> rfl
 | true =>
  simp only [cond_true]
  rw [goL1_f (fun _ (x : Team) s => IntKind.wrap .i64 (s + x.2.2.1)) (fun i x s next h e => rfl)]
theorem I145_ok {N : Nat} {l : List Team} {kf : Int → Option Ret} (hl : l.length ≤ maxLen) (hm : ∀ x ∈ l, x.met.length ≤ maxLen ∧ x.met.length < N) (hN : l.length < N) : I145 N l kf = kf (bif areTeamsM l then foldI (fun _ (x : Team) s => IntKind.wrap .i64 (s + x.2.2.1)) l 0 0 else 0) := by
 unfold I145
 rw [I143_ok hl hm hN]
 cases areTeamsM l with
 | false => rfl
 | true =>
  simp only [cond_true, Bool.not_true, cond_false]
  rw [I145_l5_r hl hN, goL1_f (fun _ (x : Team) s => IntKind.wrap .i64 (s + x.2.2.1)) (fun i x s next h e => rfl)]
def totalWinsM (l : List Team) : Int := bif areTeamsM l then foldI (fun _ (x : Team) s => IntKind.wrap .i64 (s + x.2.2.1)) l 0 0 else 0
abbrev Ballot := QIIIE
def isBallotM (b : Ballot) : Bool := inR b.1 1 99 && (inR b.2.1 0 100 && (inR b.2.2 0 100 && (b.2.1 != b.2.2)))
theorem S199_ok {N : Nat} {b : Ballot} {kf : Bool → Option Ret} : S199 N b kf = kf (isBallotM b) := by
 unfold S199 isBallotM
 simp only [S195_ok]
 cases inR b.1 1 99 <;> simp
 cases inR b.2.1 0 100 <;> simp
 cases inR b.2.2 0 100 <;> simp
theorem I138_ok {N : Nat} {b : Ballot} {kf : Bool → Option Ret} : I138 N b kf = kf (isBallotM b) := by
 unfold I138 isBallotM
 simp only [I144_ok]
 cases inR b.1 1 99 <;> simp
 cases inR b.2.1 0 100 <;> simp
 cases inR b.2.2 0 100 <;> simp
def idsOf (r : List Pair) : List Int := r.flatMap fun p => [p.1, p.2]
def teamIds (l : List Team) : List Int := l.map fun x => x.1
def isRoundM (l : List Team) (r : List Pair) : Bool := r.all (fun p => mayMeetM l p.1 p.2) && l.all (fun x => decide ((idsOf r).count x.1 = 1))
theorem idsOf_len (r : List Pair) : (idsOf r).length = 2 * r.length := by
 induction r with
 | nil => rfl
 | cons p r ih => simp only [idsOf, List.flatMap_cons, List.length_append, List.length_cons, List.length_nil] at *; omega
theorem mayMeet_ids {l : List Team} {a b : Int} (h : mayMeetM l a b = true) : areTeamsM l = true ∧ a ∈ teamIds l ∧ b ∈ teamIds l ∧ a ≠ b := by
 unfold mayMeetM at h
 simp only [Bool.and_eq_true, decide_eq_true_eq] at h
 obtain ⟨h0, ha, hb, hne, _⟩ := h
 have mem : ∀ id : Int, findT l id ≥ 0 → id ∈ teamIds l := fun id hid => by
  obtain ⟨k, hk, _, h1, _⟩ := findM_pos (p := fun x : Team => x.1 == id) (l := l) (by unfold findT at hid; omega)
  exact List.mem_map.2 ⟨l[k], List.getElem_mem hk, by simpa using h1⟩
 refine ⟨h0, mem a ha, mem b hb, fun e => ?_⟩
 subst e
 simp at hne
theorem teams_nodup {l : List Team} (h : areTeamsM l = true) : (teamIds l).Nodup := by
 unfold areTeamsM at h
 simp only [Bool.and_eq_true] at h
 have hm := teams_mono h.2.1
 have key : ∀ (n : Nat) (r : List Team), l.drop n = r → (r.map fun x : Team => x.1).Nodup := by
  intro n r
  induction r generalizing n with
  | nil => intro _; exact List.nodup_nil
  | cons x r ih =>
   intro hd
   have hlt : n < l.length := by have := congrArg List.length hd; simp at this; omega
   rw [List.drop_eq_getElem_cons hlt] at hd
   injection hd with h1 h2
   rw [List.map_cons, List.nodup_cons]
   refine ⟨fun hx => ?_, ih (n + 1) h2⟩
   obtain ⟨y, hy, e⟩ := List.mem_map.1 hx
   rw [← h2] at hy
   obtain ⟨j, hj, rfl⟩ := List.mem_iff_getElem.1 hy
   rw [List.getElem_drop] at e
   have hj' : n + 1 + j < l.length := by simp at hj; omega
   have := hm n (n + 1 + j) hj' (by omega)
   rw [getD_nat _ _ hlt, h1] at this
   omega
 exact key 0 l rfl
theorem I17_ok {N : Nat} {l : List Team} {r : List Pair} {kf : Bool → Option Ret} (hl : l.length ≤ maxLen) (hm : ∀ x ∈ l, x.met.length ≤ maxLen ∧ x.met.length < N) (hN : l.length < N) (hr : r.length ≤ 1048576) (hrN : 2 * r.length < N) : I17 N l r kf = kf (isRoundM l r) := by
 have hML := maxLen_eq
 unfold I17
 rw [I17_l3_r (by omega) (by omega)]
 have key : ∀ (q : List Pair) (i : Nat) (s : List Int) (kend : List Int → Option Ret), r.drop i = q → s.length = 2 * i → goL1 (fun (i : Nat) (x : QIIE) (x5_2 : List Int) (next : List Int → Option Ret) =>
    I77 N l x.1 x.2 (fun (r22_7 : Bool) =>
     bif (!r22_7) then
      kf false
     else
      bif (decide ((List.length x5_2 + List.length [x.1, x.2]) * 1 ≤ 4398046511104)) then
       next (x5_2 ++ [x.1, x.2])
      else none)) kend q i s = bif q.all (fun p => mayMeetM l p.1 p.2) then kend (s ++ idsOf q) else kf false := by
  intro q
  induction q with
  | nil => intro i s kend _ _; simp [goL1, idsOf]
  | cons p q ih =>
   intro i s kend hd hs
   have hlt : i < r.length := by have := congrArg List.length hd; simp at this; omega
   rw [List.drop_eq_getElem_cons hlt] at hd
   injection hd with h1 h2
   simp only [goL1]
   rw [I77_ok hl hm hN]
   cases hmm : mayMeetM l p.1 p.2 with
   | false => simp [hmm]
   | true =>
    have hok : decide ((List.length s + List.length [p.1, p.2]) * 1 ≤ 4398046511104) = true := decide_eq_true (by simp; omega)
    simp only [Bool.not_true, cond_false]
    rw [hok, cond_true, ih (i + 1) _ kend h2 (by simp; omega)]
    simp [hmm, idsOf]
 refine Eq.trans (key r 0 [] _ rfl (by simp)) ?_
 unfold isRoundM
 cases hall : r.all (fun p => mayMeetM l p.1 p.2) with
 | false => rfl
 | true =>
  have hlen : (idsOf r).length ≤ maxLen ∧ (idsOf r).length < N := by rw [idsOf_len]; omega
  rw [cond_true, List.nil_append, I17_l10_r hl hN, goL_all (l := l) (p := fun _ x => decide ((idsOf r).count x.1 = 1)) (kf := kf false) (fun i x next h e => ?_) l 0 rfl, allI_all (p := fun x : Team => decide ((idsOf r).count x.1 = 1))]
  ·simp only [Bool.true_and]
   cases l.all fun x => decide ((idsOf r).count x.1 = 1) <;> rfl
  ·rw [I78_ok hlen.1 hlen.2, countM_eq hlen.1]
   by_cases h1 : (idsOf r).count x.1 = 1
   ·simp [h1]
   ·have : (((idsOf r).count x.1 : Int) != 1) = true := by rw [bne_iff_ne]; omega
    rw [this, decide_eq_false h1]
    rfl
theorem rounds_alike {l : List Team} {r : List Pair} : (r.all (fun p => mayMeetM l p.1 p.2) && (decide (idsOf r).Nodup && (areTeamsM l && decide ((idsOf r).length = l.length)))) = isRoundM l r := by
 unfold isRoundM
 cases hall : r.all (fun p => mayMeetM l p.1 p.2) with
 | false => rfl
 | true =>
  rw [Bool.true_and, Bool.true_and]
  rw [List.all_eq_true] at hall
  have hsub : ∀ x ∈ idsOf r, x ∈ teamIds l := fun x hx => by
   obtain ⟨p, hp, hx⟩ := List.mem_flatMap.1 hx
   obtain ⟨_, h1, h2, _⟩ := mayMeet_ids (hall p hp)
   simp at hx
   rcases hx with rfl | rfl
   ·exact h1
   ·exact h2
  cases ht : areTeamsM l with
  | true =>
   have := once_iff (teams_nodup ht) hsub
   apply Bool.eq_iff_iff.2
   rw [List.all_eq_true, Bool.true_and, Bool.and_eq_true, decide_eq_true_eq, decide_eq_true_eq]
   rw [show (teamIds l).length = l.length by simp [teamIds]] at this
   rw [← this]
   constructor
   ·intro h x hx; exact decide_eq_true (h x.1 (List.mem_map.2 ⟨x, hx, rfl⟩))
   ·intro h x hx
    obtain ⟨y, hy, rfl⟩ := List.mem_map.1 hx
    simpa using h y hy
  | false =>
   -- then there are no pairs, and there are teams
   cases r with
   | cons p r => have := (mayMeet_ids (hall p (by simp))).1; rw [ht] at this; cases this
   | nil =>
    cases l with
    | nil => simp [areTeamsM, allI] at ht
    | cons x l => simp [idsOf]
theorem S197_ok {N : Nat} {l : List Team} {r : List Pair} {kf : Bool → Option Ret} (hl : l.length ≤ maxLen) (hm : ∀ x ∈ l, x.met.length ≤ maxLen ∧ x.met.length < N) (hN : l.length < N) (hr : r.length ≤ 1048576) (hrN : 2 * r.length < N) : S197 N l r kf = kf (isRoundM l r) := by
 have hML := maxLen_eq
 unfold S197
 rw [S197_l3_r (by omega) (by omega)]
 have key : ∀ (q : List Pair) (i : Nat) (s : List Int) (kend : List Int → Option Ret), r.drop i = q → s.length = 2 * i → s.Nodup → goL1 (fun (i : Nat) (x : QIIE) (x5_3 : List Int) (next : List Int → Option Ret) =>
    S221 N l x.1 x.2 (fun (r25_6 : Bool) =>
     bif (!r25_6) then
      kf false
     else
      S224 N x5_3 x.1 (fun (r34_7 : Bool) =>
       bif r34_7 then
        kf false
       else
        S224 N x5_3 x.2 (fun (r43_8 : Bool) =>
         bif r43_8 then
          kf false
         else
          bif (decide ((List.length x5_3 + List.length [x.1, x.2]) * 1 ≤ 4398046511104)) then
           next (x5_3 ++ [x.1, x.2])
          else none)))) kend q i s = bif q.all (fun p => mayMeetM l p.1 p.2) && decide (s ++ idsOf q).Nodup then kend (s ++ idsOf q) else kf false := by
  intro q
  induction q with
  | nil => intro i s kend _ _ hnd; simp [goL1, idsOf, hnd]
  | cons p q ih =>
   intro i s kend hd hs hnd
   have hlt : i < r.length := by have := congrArg List.length hd; simp at this; omega
   rw [List.drop_eq_getElem_cons hlt] at hd
   injection hd with h1 h2
   simp only [goL1]
   rw [S221_ok hl hm hN]
   cases hmm : mayMeetM l p.1 p.2 with
   | false => simp [hmm]
   | true =>
    have hne := (mayMeet_ids hmm).2.2.2
    have hsl : s.length ≤ maxLen ∧ s.length < N := by omega
    have happ : s ++ idsOf (p :: q) = (s ++ [p.1, p.2]) ++ idsOf q := by simp [idsOf]
    simp only [Bool.not_true, cond_false]
    rw [S224_ok hsl.1 hsl.2]
    cases h1' : hasM s p.1 with
    | true =>
     have hmem := hasM_iff.1 h1'
     have : ¬ (s ++ idsOf (p :: q)).Nodup := fun h => by
      rw [List.nodup_append] at h
      exact h.2.2 p.1 hmem p.1 (by simp [idsOf]) rfl
     rw [decide_eq_false this]
     simp
    | false =>
     rw [cond_false, S224_ok hsl.1 hsl.2]
     cases h2' : hasM s p.2 with
     | true =>
      have hmem := hasM_iff.1 h2'
      have : ¬ (s ++ idsOf (p :: q)).Nodup := fun h => by
       rw [List.nodup_append] at h
       exact h.2.2 p.2 hmem p.2 (by simp [idsOf]) rfl
      rw [decide_eq_false this]
      simp
     | false =>
      have hok : decide ((List.length s + List.length [p.1, p.2]) * 1 ≤ 4398046511104) = true := decide_eq_true (by simp; omega)
      have n1 : p.1 ∉ s := fun h => by rw [hasM_iff.2 h] at h1'; cases h1'
      have n2 : p.2 ∉ s := fun h => by rw [hasM_iff.2 h] at h2'; cases h2'
      have hnd2 : (s ++ [p.1, p.2]).Nodup := by
       rw [List.nodup_append]
       refine ⟨hnd, ?_, ?_⟩
       ·rw [List.nodup_cons]
        exact ⟨by simpa using hne, by simp⟩
       ·intro a ha b hb e
        subst e
        simp at hb
        rcases hb with rfl | rfl
        ·exact n1 ha
        ·exact n2 ha
      rw [cond_false, hok, cond_true, ih (i + 1) _ kend h2 (by simp; omega) hnd2, happ]
      simp [hmm]
 refine Eq.trans (key r 0 [] _ rfl (by simp) List.nodup_nil) ?_
 rw [← rounds_alike]
 rw [List.nil_append]
 cases r.all (fun p => mayMeetM l p.1 p.2)
 ·rfl
 cases decide (idsOf r).Nodup
 ·rfl
 simp only [Bool.true_and, cond_true]
 rw [S175_ok hl hm hN]
 cases areTeamsM l
 ·rfl
 simp only [cond_true, Bool.true_and]
 congr 1
 apply Bool.eq_iff_iff.2
 rw [beq_iff_eq, decide_eq_true_eq]
 omega
theorem findJ_in {l : List Judge} {id : Int} (h : findJ l id ≥ 0) : inB (findJ l id) l.length = true ∧ (findJ l id).toNat < l.length := by
 obtain ⟨k, hk, e, _⟩ := findM_pos (p := fun x : Judge => x.1 == id) (l := l) (by unfold findJ at h; omega)
 have e : findJ l id = (k : Int) := e
 rw [e]
 exact ⟨inB_nat hk, by simpa using hk⟩
def seatP (t : List Team) (l : List Judge) (r : List Pair) (ids : List Int) (i : Nat) : Bool := decide (findJ l (ids.getD i 0) ≥ 0) && (!hasM (ids.take i) (ids.getD i 0) && mayJudgeM t (l.getD (findJ l (ids.getD i 0)).toNat zQIILIE) (r.getD i zQIIE))
def areSeatedM (t : List Team) (l : List Judge) (r : List Pair) (ids : List Int) : Bool := decide (ids.length = r.length) && (areJudgesM l && allI (fun i _ => seatP t l r ids i) r 0)
theorem S198_ok {N : Nat} {t : List Team} {l : List Judge} {r : List Pair} {ids : List Int} {kf : Bool → Option Ret} (ht : t.length ≤ maxLen) (htN : t.length < N) (hl : l.length ≤ maxLen) (hm : ∀ x ∈ l, x.2.2.length ≤ maxLen ∧ x.2.2.length < N) (hN : l.length < N)
  (hr : r.length ≤ maxLen) (hrN : r.length < N) : S198 N t l r ids kf = kf (areSeatedM t l r ids) := by
 unfold S198 areSeatedM
 by_cases hlen : ids.length = r.length
 rotate_left
 ·have : ((ids.length : Int) != (r.length : Int)) = true := by rw [bne_iff_ne]; omega
  rw [this, decide_eq_false hlen]; rfl
 have : ((ids.length : Int) != (r.length : Int)) = false := by rw [hlen]; exact bne_self_eq_false _
 rw [this, decide_eq_true hlen, cond_false, S178_ok hl hm hN]
 cases areJudgesM l
 ·rfl
 simp only [Bool.not_true, cond_false, Bool.true_and]
 rw [S198_l4_r hr hrN, goL_all (l := r) (p := fun i _ => seatP t l r ids i) (kf := kf false) (fun i x next h e => ?_) r 0 rfl]
 ·cases allI (fun i _ => seatP t l r ids i) r 0 <;> rfl
 ·have hi : i < ids.length := by omega
  have hdec : (decide ((0 : Int) ≤ (0 : Int)) && decide ((0 : Int) ≤ (i : Int)) && decide ((i : Int) ≤ (List.length ids : Int))) = true := by simp; omega
  rw [inB_nat hi, cond_true, hdec]
  simp only [Int.toNat_natCast, cond_true]
  rw [S126_ok hl hN]
  unfold seatP
  by_cases hf : findJ l (ids.getD i 0) ≥ 0
  rotate_left
  ·rw [decide_eq_false hf, decide_eq_true (by omega)]; rfl
  obtain ⟨f1, f2⟩ := findJ_in hf
  have hx : l.getD (findJ l (ids.getD i 0)).toNat zQIILIE ∈ l := by rw [getD_nat _ _ f2]; exact List.getElem_mem f2
  obtain ⟨m1, m2⟩ := hm _ hx
  rw [decide_eq_true hf, decide_eq_false (by omega), cond_false]
  have htk : (List.drop (Int.toNat 0) (List.take i ids)) = ids.take i := rfl
  rw [htk, S224_ok (by simp; omega) (by simp; omega), f1]
  cases hasM (ids.take i) (ids.getD i 0)
  ·rw [cond_false, cond_true, S225_ok ht htN m1 m2]
   have hrx : r.getD i zQIIE = x := by rw [getD_nat _ _ h, e]
   rw [hrx]
   cases mayJudgeM t (l.getD (findJ l (ids.getD i 0)).toNat zQIILIE) x <;> rfl
  ·rfl
theorem I18_ok {N : Nat} {t : List Team} {l : List Judge} {r : List Pair} {ids : List Int} {kf : Bool → Option Ret} (ht : t.length ≤ maxLen) (htN : t.length < N) (hl : l.length ≤ maxLen) (hm : ∀ x ∈ l, x.2.2.length ≤ maxLen ∧ x.2.2.length < N) (hN : l.length < N)
  (hr : r.length ≤ maxLen) (hrN : r.length < N) (h2N : 2 < N) : I18 N t l r ids kf = kf (areSeatedM t l r ids) := by
 unfold I18 areSeatedM
 rw [I79_ok hl hm hN]
 cases areJudgesM l
 ·simp
 simp only [Bool.not_true, cond_false, Bool.true_and]
 by_cases hlen : ids.length = r.length
 rotate_left
 ·have : ((ids.length : Int) != (r.length : Int)) = true := by rw [bne_iff_ne]; omega
  rw [this, decide_eq_false hlen]; rfl
 have : ((ids.length : Int) != (r.length : Int)) = false := by rw [hlen]; exact bne_self_eq_false _
 rw [this, decide_eq_true hlen, cond_false, Bool.true_and]
 have hall : allI (fun i _ => seatP t l r ids i) r 0 = allI (fun i _ => seatP t l r ids i) ids 0 := by
  apply Bool.eq_iff_iff.2
  rw [allI_iff, allI_iff]
  exact ⟨fun h j hj => h j (by omega), fun h j hj => h j (by omega)⟩
 rw [hall, I18_l4_r (by omega) (by omega), goL_all (l := ids) (p := fun i _ => seatP t l r ids i) (kf := kf false) (fun i x next h e => ?_) ids 0 rfl]
 ·cases allI (fun i _ => seatP t l r ids i) ids 0 <;> rfl
 ·have hi : i < r.length := by omega
  have hdec : (decide ((0 : Int) ≤ (0 : Int)) && decide ((0 : Int) ≤ (i : Int)) && decide ((i : Int) ≤ (List.length ids : Int))) = true := by simp; omega
  have hid : ids.getD i 0 = x := by rw [getD_nat _ _ h, e]
  rw [hdec]
  simp only [Int.toNat_natCast, cond_true]
  rw [S80_ok hl hN]
  unfold seatP
  rw [hid]
  by_cases hf : findJ l x ≥ 0
  rotate_left
  ·rw [decide_eq_false hf, decide_eq_true (by omega)]; rfl
  obtain ⟨f1, f2⟩ := findJ_in hf
  have hx : l.getD (findJ l x).toNat zQIILIE ∈ l := by rw [getD_nat _ _ f2]; exact List.getElem_mem f2
  obtain ⟨m1, m2⟩ := hm _ hx
  rw [decide_eq_true hf, decide_eq_false (by omega), cond_false]
  have htk : (List.drop (Int.toNat 0) (List.take i ids)) = ids.take i := rfl
  rw [htk, S82_ok (by simp; omega) (by simp; omega), f1, inB_nat hi]
  cases hasM (ids.take i) x
  ·rw [cond_false, cond_true, cond_true, I83_ok ht htN m1 m2 h2N]
   cases mayJudgeM t (l.getD (findJ l x).toNat zQIILIE) (r.getD i zQIIE) <;> rfl
  ·rfl
end Go.Pv.R
namespace Go.Pv.R
set_option linter.unusedVariables false
set_option linter.unusedSimpArgs false
abbrev Club := QLQIIIIILIELQIILIELQIIELILQIIIELQIIIIEIE
structure ClubOK (c : Club) (N : Nat) : Prop where
 tl : c.1.length ≤ maxLen
 tm : ∀ x : Team, x ∈ c.1 → x.met.length ≤ maxLen ∧ x.met.length < N
 tN : c.1.length < N
 jl : c.2.1.length ≤ maxLen
 jm : ∀ x ∈ c.2.1, x.2.2.length ≤ maxLen ∧ x.2.2.length < N
 jN : c.2.1.length < N
 rl : c.2.2.1.length ≤ 1048576
 rN : 2 * c.2.2.1.length < N
 sl : c.2.2.2.1.length ≤ 1048576
 sN : c.2.2.2.1.length < N
 bl : c.2.2.2.2.1.length ≤ 1048576
 bN : c.2.2.2.2.1.length < N
 ml : c.2.2.2.2.2.1.length ≤ 1048576
 mN : c.2.2.2.2.2.1.length < N
 n8 : 8 < N
 tb : c.1.length ≤ 1048700
 tmb : ∀ x : Team, x ∈ c.1 → x.met.length ≤ 1048700
 jb : c.2.1.length ≤ 1048700
 jmb : ∀ x : Judge, x ∈ c.2.1 → x.2.2.length ≤ 1048700
theorem sizeV_club (c : Club) : sizeV tQLQIIIIILIELQIILIELQIIELILQIIIELQIIIIEIE c = sizeV (.sl tQIIIIILIE) c.1 + (sizeV (.sl tQIILIE) c.2.1 + (sizeV (.sl tQIIE) c.2.2.1 + (sizeV (.sl (.int .i64)) c.2.2.2.1 + (sizeV (.sl tQIIIE) c.2.2.2.2.1 + sizeV (.sl tQIIIIE) c.2.2.2.2.2.1)))) := rfl
theorem club_ok {c : Club} {N : Nat} (hw : wf tQLQIIIIILIELQIILIELQIIELILQIIIELQIIIIEIE c) (hb : sizeV tQLQIIIIILIELQIILIELQIIELILQIIIELQIIIIEIE c ≤ 1048576) (hN : 2 * sizeV tQLQIIIIILIELQIILIELQIIELILQIIIELQIIIIEIE c + 8 < N) : ClubOK c N := by
 have hs := sizeV_club c
 have h1 := sizeV_len (t := tQIIIIILIE) c.1
 have h2 := sizeV_len (t := tQIILIE) c.2.1
 have h3 := sizeV_len (t := tQIIE) c.2.2.1
 have h4 := sizeV_len (t := .int .i64) c.2.2.2.1
 have h5 := sizeV_len (t := tQIIIE) c.2.2.2.2.1
 have h6 := sizeV_len (t := tQIIIIE) c.2.2.2.2.2.1
 have hm := maxLen_eq
 exact ⟨by omega, teams_small hw.1 (by omega), by omega, by omega, judges_small hw.2.1 (by omega), by omega, by omega, by omega, by omega, by omega, by omega, by omega, by omega, by omega, by omega, by omega, fun x hx => by
  have q1 := sizeV_mem (t := tQIIIIILIE) hx
  have q2 : sizeV tQIIIIILIE x = sizeV (.sl (.int .i64)) x.2.2.2.2.2 := by simp [sizeV]
  have q3 := sizeV_len (t := .int .i64) x.2.2.2.2.2
  show x.2.2.2.2.2.length ≤ 1048700
  omega, by omega, fun x hx => by
  have q1 := sizeV_mem (t := tQIILIE) hx
  have q2 : sizeV tQIILIE x = sizeV (.sl (.int .i64)) x.2.2 := by simp [sizeV]
  have q3 := sizeV_len (t := .int .i64) x.2.2
  omega⟩
def emptyB (b : Ballot) : Bool := (decide ((b.1 : Int) = 0)) && ((decide ((b.2.1 : Int) = 0)) && (decide ((b.2.2 : Int) = 0)))
def ballotP (c : Club) (i : Nat) (b : Ballot) : Bool := emptyB b || (isBallotM b && (b.1 == c.2.2.2.1.getD i 0))
def isClubM (c : Club) : Bool := areTeamsM c.1 && (areJudgesM c.2.1 && (areMinM c.2.2.2.2.2.1 && (decide (c.2.2.2.1.length = c.2.2.1.length) && (decide (c.2.2.2.2.1.length = c.2.2.1.length) &&
 ((decide (c.2.2.1.length = 0) || (isRoundM c.1 c.2.2.1 && areSeatedM c.1 c.2.1 c.2.2.1 c.2.2.2.1)) && (allI (ballotP c) c.2.2.2.2.1 0 && (inR c.2.2.2.2.2.2 0 1000 && (totalWinsM c.1 == c.2.2.2.2.2.2))))))))
theorem len_ne {a b : Nat} : ((a : Int) != (b : Int)) = !decide (a = b) := by
 apply Bool.eq_iff_iff.2
 simp
 omega
theorem I39_j1_ok {N : Nat} {c : Club} {kf : Bool → Option Ret} (h : ClubOK c N) (hs : c.2.2.2.1.length = c.2.2.1.length) (hb : c.2.2.2.2.1.length = c.2.2.1.length) : I39_j1 N c kf = kf (allI (ballotP c) c.2.2.2.2.1 0 && (inR c.2.2.2.2.2.2 0 1000 && (totalWinsM c.1 == c.2.2.2.2.2.2))) := by
 have hm := maxLen_eq
 have := h.bl
 unfold I39_j1
 rw [I39_l6_r (by omega) h.bN, goL_all (l := c.2.2.2.2.1) (p := ballotP c) (kf := kf false) (fun i b next hi e => ?_) c.2.2.2.2.1 0 rfl]
 ·cases allI (ballotP c) c.2.2.2.2.1 0
  ·rfl
  rw [cond_true, I144_ok]
  cases inR c.2.2.2.2.2.2 0 1000
  ·rfl
  simp only [cond_true, Bool.true_and]
  rw [I145_ok h.tl h.tm h.tN]
  rfl
 ·rw [I138_ok, inB_nat (by omega), cond_true, Int.toNat_natCast]
  unfold ballotP emptyB
  cases (decide ((b.1 : Int) = 0)) && ((decide ((b.2.1 : Int) = 0)) && (decide ((b.2.2 : Int) = 0)))
  ·simp only [Bool.not_false, cond_true, Bool.false_or]
   cases isBallotM b
   ·rfl
   ·cases hc : b.1 == c.2.2.2.1.getD i 0 <;> simp only [bne, hc, Bool.not_true, Bool.not_false, cond_true, cond_false, Bool.and_true, Bool.and_false]
  ·rfl
theorem S122_j1_ok {N : Nat} {c : Club} {kf : Bool → Option Ret} (h : ClubOK c N) (hs : c.2.2.2.1.length = c.2.2.1.length) (hb : c.2.2.2.2.1.length = c.2.2.1.length) : S122_j1 N c kf = kf (allI (ballotP c) c.2.2.2.2.1 0) := by
 have hm := maxLen_eq
 have := h.bl
 unfold S122_j1
 rw [S122_l7_r (by omega) h.bN, goL_all (l := c.2.2.2.2.1) (p := ballotP c) (kf := kf false) (fun i b next hi e => ?_) c.2.2.2.2.1 0 rfl]
 ·cases allI (ballotP c) c.2.2.2.2.1 0 <;> rfl
 ·rw [S199_ok, inB_nat (by omega), cond_true, Int.toNat_natCast]
  unfold ballotP emptyB
  cases (decide ((b.1 : Int) = 0)) && ((decide ((b.2.1 : Int) = 0)) && (decide ((b.2.2 : Int) = 0)))
  ·simp only [Bool.not_false, cond_true, Bool.false_or]
   cases isBallotM b
   ·rfl
   ·cases hc : b.1 == c.2.2.2.1.getD i 0 <;> simp only [bne, hc, Bool.not_true, Bool.not_false, cond_true, cond_false, Bool.and_true, Bool.and_false]
  ·rfl
theorem I39_ok {N : Nat} {c : Club} {kf : Bool → Option Ret} (h : ClubOK c N) : I39 N c kf = kf (isClubM c) := by
 have hm := maxLen_eq
 have hml := h.ml
 have h8 := h.n8
 have hr := h.rl
 have hrN := h.rN
 unfold I39 isClubM
 rw [I143_ok h.tl h.tm h.tN]
 cases areTeamsM c.1
 ·rfl
 simp only [Bool.not_true, cond_false, Bool.true_and]
 rw [I79_ok h.jl h.jm h.jN]
 cases areJudgesM c.2.1
 ·rfl
 simp only [Bool.not_true, cond_false, Bool.true_and]
 rw [I75_ok (by omega) h.mN (by omega)]
 cases areMinM c.2.2.2.2.2.1
 ·rfl
 simp only [Bool.not_true, cond_false, Bool.true_and, len_ne]
 by_cases hs : c.2.2.2.1.length = c.2.2.1.length
 rotate_left
 ·rw [decide_eq_false hs]; rfl
 by_cases hb : c.2.2.2.2.1.length = c.2.2.1.length
 rotate_left
 ·rw [decide_eq_false hb, decide_eq_true hs]; rfl
 rw [decide_eq_true hs, decide_eq_true hb]
 simp only [Bool.not_true, cond_false, Bool.true_and]
 unfold I16
 by_cases h0 : c.2.2.1.length = 0
 ·rw [decide_eq_false (by omega)]
  simp only [cond_false]
  rw [I39_j1_ok h hs hb, decide_eq_true h0]
  rfl
 ·rw [decide_eq_true (by omega)]
  simp only [cond_true]
  rw [I17_ok h.tl h.tm h.tN h.rl h.rN, decide_eq_false h0]
  cases isRoundM c.1 c.2.2.1
  ·rfl
  simp only [Bool.not_true, cond_false, Bool.true_and, Bool.false_or]
  rw [I18_ok h.tl h.tN h.jl h.jm h.jN (by omega) (by omega) (by omega)]
  cases areSeatedM c.1 c.2.1 c.2.2.1 c.2.2.2.1
  ·rfl
  simp only [Bool.not_true, cond_false, Bool.true_and]
  exact I39_j1_ok h hs hb
theorem S122_ok {N : Nat} {c : Club} {kf : Bool → Option Ret} (h : ClubOK c N) : S122 N c kf = kf (isClubM c) := by
 have hm := maxLen_eq
 have hml := h.ml
 have h8 := h.n8
 have hr := h.rl
 have hrN := h.rN
 unfold S122 isClubM
 rw [S175_ok h.tl h.tm h.tN]
 cases areTeamsM c.1
 ·rfl
 simp only [Bool.not_true, cond_false, Bool.true_and]
 rw [S178_ok h.jl h.jm h.jN]
 cases areJudgesM c.2.1
 ·rfl
 simp only [Bool.not_true, cond_false, Bool.true_and]
 rw [S158_ok (by omega) h.mN (by omega)]
 cases areMinM c.2.2.2.2.2.1
 ·rfl
 simp only [Bool.not_true, cond_false, Bool.true_and, len_ne]
 by_cases hs : c.2.2.2.1.length = c.2.2.1.length
 rotate_left
 ·rw [decide_eq_false hs]; rfl
 by_cases hb : c.2.2.2.2.1.length = c.2.2.1.length
 rotate_left
 ·rw [decide_eq_false hb, decide_eq_true hs]; rfl
 rw [decide_eq_true hs, decide_eq_true hb]
 simp only [Bool.not_true, cond_false, Bool.true_and, S195_ok]
 cases inR c.2.2.2.2.2.2 0 1000
 ·simp
 simp only [Bool.not_true, cond_false, Bool.true_and]
 rw [S196_ok h.tl h.tm h.tN]
 show (bif totalWinsM c.1 != c.2.2.2.2.2.2 then kf false else _) = _
 cases ht : totalWinsM c.1 == c.2.2.2.2.2.2
 ·simp only [bne, ht, Bool.not_false, cond_true, Bool.and_false]
 simp only [bne, ht, Bool.not_true, cond_false, Bool.and_true]
 by_cases h0 : c.2.2.1.length = 0
 ·rw [decide_eq_false (by omega), cond_false, S122_j1_ok h hs hb, decide_eq_true h0]
  rfl
 ·rw [decide_eq_true (by omega), cond_true, S197_ok h.tl h.tm h.tN h.rl h.rN, decide_eq_false h0]
  cases isRoundM c.1 c.2.2.1
  ·rfl
  simp only [Bool.not_true, cond_false, Bool.true_and, Bool.false_or]
  rw [S198_ok h.tl h.tN h.jl h.jm h.jN (by omega) (by omega)]
  cases areSeatedM c.1 c.2.1 c.2.2.1 c.2.2.2.1
  ·rfl
  simp only [Bool.not_true, cond_false, Bool.true_and]
  exact S122_j1_ok h hs hb
end Go.Pv.R
namespace Go.Pv
set_option linter.unusedVariables false
set_option linter.unusedSimpArgs false
end Go.Pv
namespace Go.Pv.R
set_option linter.unusedVariables false
set_option linter.unusedSimpArgs false
end Go.Pv.R
namespace Go.Pv.R
set_option linter.unusedVariables false
set_option linter.unusedSimpArgs false
end Go.Pv.R
namespace Go.Pv.R
set_option linter.unusedVariables false
set_option linter.unusedSimpArgs false
theorem gatherI_all {α : Type} : ∀ (l : List α) (i : Nat), gatherI (fun _ _ => true) (fun _ x => x) l i = l
 | [], _ => rfl
 | x :: r, i => by simp only [gatherI, cond_true]; rw [gatherI_all r (i + 1)]
theorem goL1_copy {α : Type} {body : Nat → α → List α → (List α → Option Ret) → Option Ret} {kend : List α → Option Ret} {l : List α}
  (hb : ∀ (i : Nat) (x : α) (s : List α) (next : List α → Option Ret) (h : i < l.length), l[i] = x → s.length ≤ i → body i x s next = next (s ++ [x])) : goL1 body kend l 0 [] = kend l := by
 rw [goL1_gather (l := l) (c := fun _ _ => true) (f := fun _ x => x) (fun i x s next h e hs => by rw [hb i x s next h e hs]; rfl) l 0 [] rfl (by simp), gatherI_all, List.nil_append]
theorem clone_any {α : Type} {l : List α} {b : Bool} {kf : List α → Option Ret} (hb : b = true) :
  (bif List.isEmpty l then both (kf []) (bif b then kf ([] ++ l) else none) else bif b then kf ([] ++ l) else none) = kf l := by
 subst hb
 cases l with
 | nil => exact both_self _
 | cons x r => rfl
theorem S166_ok {N : Nat} {l : List Int} {kf : List Int → Option Ret} (hl : l.length ≤ 1048700) : S166 N l kf = kf l := by
 exact clone_any (decide_eq_true (by simp only [List.length_nil]; omega))
theorem S165_ok {N : Nat} {l : List QIIE} {kf : List QIIE → Option Ret} (hl : l.length ≤ 1048576) : S165 N l kf = kf l := clone_any (decide_eq_true (by simp only [List.length_nil]; omega))
theorem S167_ok {N : Nat} {l : List QIIIE} {kf : List QIIIE → Option Ret} (hl : l.length ≤ 1048576) : S167 N l kf = kf l := clone_any (decide_eq_true (by simp only [List.length_nil]; omega))
theorem S168_ok {N : Nat} {l : List QIIIIE} {kf : List QIIIIE → Option Ret} (hl : l.length ≤ 1048576) : S168 N l kf = kf l := clone_any (decide_eq_true (by simp only [List.length_nil]; omega))
theorem S173_ok {N : Nat} {l : List Team} {kf : List Team → Option Ret} (hl : l.length ≤ 1048700) (hm : ∀ x : Team, x ∈ l → x.met.length ≤ 1048700) (hN : l.length < N) : S173 N l kf = kf l := by
 have h0 := maxLen_eq
 unfold S173
 rw [S173_l3_r (by omega) hN]
 refine goL1_copy (l := l) fun i x s next h e hs => ?_
 have hx : x ∈ l := by rw [← e]; exact List.getElem_mem h
 have hxm : x.2.2.2.2.2.length ≤ 1048700 := hm x hx
 rw [decide_eq_true (by simp only [List.length_nil]; omega), decide_eq_true (by simp only [List.length_cons, List.length_nil]; omega)]
 rfl
theorem S174_ok {N : Nat} {l : List Judge} {kf : List Judge → Option Ret} (hl : l.length ≤ 1048700) (hm : ∀ x : Judge, x ∈ l → x.2.2.length ≤ 1048700) (hN : l.length < N) : S174 N l kf = kf l := by
 have h0 := maxLen_eq
 unfold S174
 rw [S174_l3_r (by omega) hN]
 refine goL1_copy (l := l) fun i x s next h e hs => ?_
 have hx : x ∈ l := by rw [← e]; exact List.getElem_mem h
 have hxm : x.2.2.length ≤ 1048700 := hm x hx
 rw [decide_eq_true (by simp only [List.length_nil]; omega), decide_eq_true (by simp only [List.length_cons, List.length_nil]; omega)]
 rfl
theorem I163_ok {N : Nat} {l : List Team} {kf : List Team → Option Ret} (hl : l.length ≤ 1048700) (hm : ∀ x : Team, x ∈ l → x.met.length ≤ 1048700) (hN : l.length < N) : I163 N l kf = kf l := by
 have h0 := maxLen_eq
 unfold I163
 rw [I163_l3_r (by omega) hN]
 refine goL1_copy (l := l) fun i x s next h e hs => ?_
 have hx : x ∈ l := by rw [← e]; exact List.getElem_mem h
 have hxm : x.2.2.2.2.2.length ≤ 1048700 := hm x hx
 rw [S166_ok hxm, decide_eq_true (by simp only [List.length_cons, List.length_nil]; omega)]
 rfl
theorem I164_ok {N : Nat} {l : List Judge} {kf : List Judge → Option Ret} (hl : l.length ≤ 1048700) (hm : ∀ x : Judge, x ∈ l → x.2.2.length ≤ 1048700) (hN : l.length < N) : I164 N l kf = kf l := by
 have h0 := maxLen_eq
 unfold I164
 rw [I164_l3_r (by omega) hN]
 refine goL1_copy (l := l) fun i x s next h e hs => ?_
 have hx : x ∈ l := by rw [← e]; exact List.getElem_mem h
 have hxm : x.2.2.length ≤ 1048700 := hm x hx
 rw [S166_ok hxm, decide_eq_true (by simp only [List.length_cons, List.length_nil]; omega)]
 rfl
theorem S90_ok {N : Nat} {c : Club} {kf : Club → Option Ret} (h : ClubOK c N) : S90 N c kf = kf c := by
 have h0 := maxLen_eq
 have h1 := h.rl
 have h2 := h.sl
 have h3 := h.bl
 have h4 := h.ml
 unfold S90
 rw [S173_ok h.tb h.tmb h.tN, S174_ok h.jb h.jmb h.jN, decide_eq_true (by simp only [List.length_nil]; omega), decide_eq_true (by simp only [List.length_nil]; omega), decide_eq_true (by simp only [List.length_nil]; omega), decide_eq_true (by simp only [List.length_nil]; omega)]
 rfl
theorem I70_ok {N : Nat} {c : Club} {kf : Club → Option Ret} (h : ClubOK c N) : I70 N c kf = kf c := by
 have h0 := maxLen_eq
 have h2 := h.sl
 unfold I70
 rw [I163_ok h.tb h.tmb h.tN, I164_ok h.jb h.jmb h.jN, S165_ok h.rl, S166_ok (by omega), S167_ok h.bl, S168_ok h.ml]
abbrev Line := QIIIIE
def lastM (l : List Line) : Int := (l.getLast?.map fun x => x.2.2.2).getD 0
theorem lastM_eq {l : List Line} (h0 : l ≠ []) : lastM l = (List.getD l (l.length - 1) zQIIIIE).2.2.2 := by
 unfold lastM
 rw [List.getLast?_eq_getElem?]
 have h1 : l.length - 1 < l.length := by
  cases l with
  | nil => exact absurd rfl h0
  | cons x r => simp
 rw [List.getD_eq_getElem?_getD, List.getElem?_eq_getElem h1]
 rfl
theorem last_any {l : List Line} {kf : Int → Option Ret} (hl : l.length ≤ maxLen) : (bif ((List.length l : Int) == (0 : Int)) then kf (0 : Int) else
  bif (inB (IntKind.wrap .i64 ((List.length l : Int) - (1 : Int))) (List.length l)) then kf (List.getD l (Int.toNat (IntKind.wrap .i64 ((List.length l : Int) - (1 : Int)))) zQIIIIE).2.2.2 else none) = kf (lastM l) := by
 have hm := maxLen_eq
 cases l with
 | nil => rfl
 | cons x r =>
  have e1 : ((List.length (x :: r) : Int) == (0 : Int)) = false := by simp only [List.length_cons]; exact beq_eq_false_iff_ne.2 (by omega)
  rw [wrap64 (n := (List.length (x :: r) : Int) - 1) (by omega) (by omega)]
  have e2 : (List.length (x :: r) : Int) - 1 = ((List.length (x :: r) - 1 : Nat) : Int) := by simp only [List.length_cons]; omega
  rw [e1, e2, inB_nat (by simp), lastM_eq (by simp)]
  simp only [cond_true, cond_false, Int.toNat_natCast]
theorem S226_ok {N : Nat} {l : List Line} {kf : Int → Option Ret} (hl : l.length ≤ maxLen) : S226 N l kf = kf (lastM l) := last_any hl
theorem I234_ok {N : Nat} {l : List Line} {kf : Int → Option Ret} (hl : l.length ≤ maxLen) : I234 N l kf = kf (lastM l) := last_any hl
def lineM (l : List Line) (what who : Int) : Line := ((l.length : Int) + 1, (what, (who, sealM (lastM l) ((l.length : Int) + 1, (what, (who, 0))))))
def wroteM (l : List Line) (what who : Int) : Bool := areMinM (l ++ [lineM l what who])
def writeM (l : List Line) (what who : Int) : List Line := bif wroteM l what who then l ++ [lineM l what who] else l
theorem writeM_len (l : List Line) (what who : Int) : (writeM l what who).length ≤ l.length + 1 := by
 unfold writeM
 cases wroteM l what who <;> simp
theorem wrote_len {l : List Line} {what who : Int} (h : wroteM l what who = true) : (writeM l what who).length ≤ 200 := by
 unfold writeM
 rw [h]
 unfold wroteM areMinM at h
 simp only [Bool.and_eq_true, decide_eq_true_eq] at h
 exact h.1
theorem S180_ok {N : Nat} {l : List Line} {what who : Int} {kf : List Line → Bool → Option Ret} (hl : l.length ≤ 1048576) (hN : l.length + 1 < N) (h4 : 4 < N) : S180 N l what who kf = kf (writeM l what who) (wroteM l what who) := by
 have hm := maxLen_eq
 unfold S180
 rw [S226_ok (by omega), S218_ok h4, wrap64 (n := (List.length l : Int) + 1) (by omega) (by omega), decide_eq_true (by simp only [List.length_nil]; omega)]
 simp only [List.nil_append, cond_true]
 rw [decide_eq_true (by simp only [List.length_cons, List.length_nil]; omega), cond_true, S158_ok (by simp only [List.length_append, List.length_cons, List.length_nil]; omega) (by simp only [List.length_append, List.length_cons, List.length_nil]; omega) h4]
 show (bif (!wroteM l what who) then kf l false else kf (l ++ [lineM l what who]) true) = _
 unfold writeM
 cases wroteM l what who <;> rfl
theorem I189_ok {N : Nat} {l : List Line} {what who : Int} {kf : List Line → Bool → Option Ret} (hl : l.length ≤ 1048576) (hN : l.length + 1 < N) (h4 : 4 < N) : I189 N l what who kf = kf (writeM l what who) (wroteM l what who) := by
 have hm := maxLen_eq
 unfold I189
 rw [I234_ok (by omega), I169_ok h4, wrap64 (n := (List.length l : Int) + 1) (by omega) (by omega), S168_ok hl, decide_eq_true (by simp only [List.length_cons, List.length_nil]; omega), cond_true, I75_ok (by simp only [List.length_append, List.length_cons, List.length_nil]; omega) (by simp only [List.length_append, List.length_cons, List.length_nil]; omega) h4, S168_ok hl]
 show (bif (!wroteM l what who) then kf l false else kf (l ++ [lineM l what who]) true) = _
 unfold writeM
 cases wroteM l what who <;> rfl
def withMin (c : Club) (l : List Line) : Club := (c.1, (c.2.1, (c.2.2.1, (c.2.2.2.1, (c.2.2.2.2.1, (l, c.2.2.2.2.2.2))))))
def doneB (c out : Club) (what who : Int) : Bool := wroteM c.2.2.2.2.2.1 what who && (isClubM c && isClubM (withMin out (writeM c.2.2.2.2.2.1 what who)))
def doneC (c out : Club) (what who : Int) : Club := bif doneB c out what who then withMin out (writeM c.2.2.2.2.2.1 what who) else c
theorem withMin_ok {c : Club} {N : Nat} {l : List Line} (h : ClubOK c N) (hl : l.length ≤ 200) (hN : 200 < N) : ClubOK (withMin c l) N :=
 ⟨h.tl, h.tm, h.tN, h.jl, h.jm, h.jN, h.rl, h.rN, h.sl, h.sN, h.bl, h.bN, by show l.length ≤ _; omega, by show l.length < _; omega, h.n8, h.tb, h.tmb, h.jb, h.jmb⟩
theorem S93_ok {N : Nat} {c out : Club} {ok : Bool} {what who : Int} {kf : Club → Bool → Option Ret} (h : ClubOK c N) (ho : ok = true → ClubOK out N) (hN : 200 < N) (hl : c.2.2.2.2.2.1.length + 1 < N) :
  S93 N c out ok what who kf = bif ok then kf (doneC c out what who) (doneB c out what who) else kf c false := by
 have h8 := h.n8
 unfold S93
 rw [S180_ok h.ml hl (by omega)]
 simp only [S90_ok h, S122_ok h]
 cases ok with
 | false => rfl
 | true =>
  unfold doneC doneB
  cases hw : wroteM c.2.2.2.2.2.1 what who with
  | false => rfl
  | true =>
   cases hc : isClubM c with
   | false => rfl
   | true =>
    have := S122_ok (N := N) (kf := fun r => bif !r then kf c false else kf (withMin out (writeM c.2.2.2.2.2.1 what who)) true) (withMin_ok (ho rfl) (wrote_len hw) hN)
    refine this.trans ?_
    simp only [Bool.true_and]
    cases isClubM (withMin out (writeM c.2.2.2.2.2.1 what who)) <;> rfl
theorem I103_ok {N : Nat} {c out : Club} {what who : Int} {kf : Club → Bool → Option Ret} (h : ClubOK c N) (ho : ClubOK out N) (he : out.2.2.2.2.2.1 = c.2.2.2.2.2.1) (hN : 200 < N) (hl : c.2.2.2.2.2.1.length + 1 < N) :
  I103 N c out what who kf = kf (doneC c out what who) (doneB c out what who) := by
 have h8 := h.n8
 unfold I103
 rw [he, I189_ok h.ml hl (by omega)]
 simp only [I70_ok h, I39_ok h]
 unfold doneC doneB
 cases hw : wroteM c.2.2.2.2.2.1 what who with
 | false => rfl
 | true =>
  cases hc : isClubM c with
  | false => rfl
  | true =>
   have := I39_ok (N := N) (kf := fun r => bif !r then kf c false else kf (withMin out (writeM c.2.2.2.2.2.1 what who)) true) (withMin_ok ho (wrote_len hw) hN)
   refine this.trans ?_
   simp only [Bool.true_and]
   cases isClubM (withMin out (writeM c.2.2.2.2.2.1 what who)) <;> rfl
end Go.Pv.R
namespace Go.Pv
set_option linter.unusedVariables false
set_option linter.unusedSimpArgs false
end Go.Pv
namespace Go.Pv.R
set_option linter.unusedVariables false
set_option linter.unusedSimpArgs false
end Go.Pv.R
namespace Go.Pv.R
set_option linter.unusedVariables false
set_option linter.unusedSimpArgs false
end Go.Pv.R
namespace Go.Pv.R
set_option linter.unusedVariables false
set_option linter.unusedSimpArgs false
end Go.Pv.R
namespace Go.Pv.R
set_option linter.unusedVariables false
set_option linter.unusedSimpArgs false
end Go.Pv.R
namespace Go.Pv.R
set_option linter.unusedVariables false
set_option linter.unusedSimpArgs false
end Go.Pv.R
namespace Go.Pv.R
set_option linter.unusedVariables false
set_option linter.unusedSimpArgs false
end Go.Pv.R
namespace Go.Pv.R
set_option linter.unusedVariables false
set_option linter.unusedSimpArgs false
end Go.Pv.R
namespace Go.Pv.R
set_option linter.unusedVariables false
set_option linter.unusedSimpArgs false
end Go.Pv.R
namespace Go.Pv.R
set_option linter.unusedVariables false
set_option linter.unusedSimpArgs false
theorem C233_ok {N : Nat} {a b : Int} {kf : Int → Option Ret} : C233 N a b kf = kf (bif decide (a < b) then -1 else bif decide (a > b) then 1 else 0) := by
 unfold C233 C253
 simp only [bne_self_eq_false, cond_false]
 cases decide (a < b) <;> cases decide (a > b) <;> rfl
end Go.Pv.R
namespace Go.Pv.R
set_option linter.unusedVariables false
set_option linter.unusedSimpArgs false
end Go.Pv.R
namespace Go.Pv.R
set_option linter.unusedVariables false
set_option linter.unusedSimpArgs false
end Go.Pv.R
namespace Go.Pv.R
set_option linter.unusedVariables false
set_option linter.unusedSimpArgs false
end Go.Pv.R
namespace Go.Pv.R
set_option linter.unusedVariables false
set_option linter.unusedSimpArgs false
def beforeM (a b : Team) : Bool := bif a.2.2.1 != b.2.2.1 then decide (a.2.2.1 > b.2.2.1) else (bif decide (a.2.2.2.1 > b.2.2.2.1) then true else (bif a.2.2.2.1 == b.2.2.2.1 then decide (a.1 < b.1) else false))
theorem S223_ok {N : Nat} {a b : Team} {kf : Bool → Option Ret} : S223 N a b kf = kf (beforeM a b) := by
 unfold S223 beforeM
 cases (a.2.2.1 != b.2.2.1) with
 | true => rfl
 | false =>
  simp only [cond_false]
  cases decide (a.2.2.2.1 > b.2.2.2.1) with
  | true => rfl
  | false =>
   simp only [cond_false]
   cases (a.2.2.2.1 == b.2.2.2.1) <;> rfl
theorem before_iff {a b : Team} : beforeM a b = true ↔ a.2.2.1 > b.2.2.1 ∨ (a.2.2.1 = b.2.2.1 ∧ (a.2.2.2.1 > b.2.2.2.1 ∨ (a.2.2.2.1 = b.2.2.2.1 ∧ a.1 < b.1))) := by
 unfold beforeM
 by_cases h1 : a.2.2.1 = b.2.2.1
 ·have e1 : (a.2.2.1 != b.2.2.1) = false := by simp [h1]
  rw [e1, cond_false]
  by_cases h2 : a.2.2.2.1 > b.2.2.2.1
  ·rw [decide_eq_true h2]; simp [h1, h2]
  ·rw [decide_eq_false h2, cond_false]
   by_cases h3 : a.2.2.2.1 = b.2.2.2.1
   ·have e3 : (a.2.2.2.1 == b.2.2.2.1) = true := by simp [h3]
    rw [e3, cond_true]; simp [h1, h3]
   ·have e3 : (a.2.2.2.1 == b.2.2.2.1) = false := by simp [h3]
    rw [e3, cond_false]; simp [h1, h2, h3]
 ·have e1 : (a.2.2.1 != b.2.2.1) = true := by simp [h1]
  rw [e1, cond_true]
  simp [h1]
def cmpI (a b : Int) : Int := bif decide (a < b) then -1 else bif decide (a > b) then 1 else 0
theorem cmpI_if (a b : Int) : cmpI a b = if a < b then -1 else if a > b then 1 else 0 := by
 unfold cmpI
 by_cases h1 : a < b
 ·rw [decide_eq_true h1, if_pos h1]; rfl
 ·rw [decide_eq_false h1, if_neg h1]
  by_cases h2 : a > b
  ·rw [decide_eq_true h2, if_pos h2]; rfl
  ·rw [decide_eq_false h2, if_neg h2]; rfl
theorem C232_ok {N : Nat} {a b c : Int} {kf : Int → Option Ret} (hN : 3 < N) : C232 N [a, b, c] kf = kf (if a ≠ 0 then a else if b ≠ 0 then b else c) := by
 unfold C232
 rw [C232_l3_r (by rw [maxLen_eq]; simp) (by simpa using hN)]
 simp only [goL]
 by_cases h1 : a = 0
 ·subst h1
  have e1 : (((0 : Int) != (0 : Int))) = false := by simp
  rw [e1, cond_false]
  by_cases h2 : b = 0
  ·subst h2
   rw [e1, cond_false]
   by_cases h3 : c = 0
   ·subst h3; rw [e1, cond_false]; simp
   ·have e3 : (c != 0) = true := by simp [h3]
    rw [e3, cond_true]; simp
  ·have e2 : (b != 0) = true := by simp [h2]
   rw [e2, cond_true]; simp [h2]
 ·have e2 : (a != 0) = true := by simp [h1]
  rw [e2, cond_true]; simp [h1]
def cmpM (a b : Team) : Int := if cmpI b.2.2.1 a.2.2.1 ≠ 0 then cmpI b.2.2.1 a.2.2.1 else if cmpI b.2.2.2.1 a.2.2.2.1 ≠ 0 then cmpI b.2.2.2.1 a.2.2.2.1 else cmpI a.1 b.1
theorem I231_ok {N : Nat} {a b : Team} {kf : Int → Option Ret} (hN : 3 < N) : I231 N a b kf = kf (cmpM a b) := by
 unfold I231
 rw [C233_ok, C233_ok, C233_ok, C232_ok hN]
 rfl
theorem cmpM_before (a b : Team) : decide (cmpM a b < 0) = beforeM a b := by
 rw [Bool.eq_iff_iff, before_iff, decide_eq_true_eq]
 unfold cmpM
 simp only [cmpI_if]
 rcases Int.lt_trichotomy a.2.2.1 b.2.2.1 with h1 | h1 | h1
 ·have : ¬ b.2.2.1 < a.2.2.1 := by omega
  simp only [this, if_false, if_pos (show b.2.2.1 > a.2.2.1 from h1)]
  simp; omega
 ·simp only [h1, Int.lt_irrefl, if_false, gt_iff_lt, ne_eq, not_true_eq_false]
  rcases Int.lt_trichotomy a.2.2.2.1 b.2.2.2.1 with h2 | h2 | h2
  ·have : ¬ b.2.2.2.1 < a.2.2.2.1 := by omega
   simp only [this, if_false, if_pos h2]
   simp; omega
  ·simp only [h2, Int.lt_irrefl, if_false, ne_eq, not_true_eq_false]
   by_cases h3 : a.1 < b.1
   ·simp [h3]
   ·simp only [h3, if_false]
    by_cases h4 : b.1 < a.1
    ·simp [h4]
    ·simp [h4]
  ·simp only [if_pos h2]
   simp [h2]
 ·simp only [if_pos (show b.2.2.1 < a.2.2.1 from h1)]
  simp [h1]
def posM (x : Team) (s : List Team) : Nat → Nat
 | 0 => 0
 | k + 1 => bif beforeM x (s.getD k zQIIIIILIE) then posM x s k else k + 1
theorem posM_le (x : Team) (s : List Team) : ∀ k, posM x s k ≤ k
 | 0 => Nat.le_refl _
 | k + 1 => by
  unfold posM
  cases beforeM x (s.getD k zQIIIIILIE) with
  | true => exact Nat.le_succ_of_le (posM_le x s k)
  | false => exact Nat.le_refl _
def insM (s : List Team) (x : Team) : List Team := s.take (posM x s s.length) ++ [x] ++ s.drop (posM x s s.length)
theorem insM_len (s : List Team) (x : Team) : (insM s x).length = s.length + 1 := by
 have := posM_le x s s.length
 simp [insM]; omega
def sortM (l : List Team) : List Team := l.foldl insM []
theorem insl_len : ∀ (l s : List Team), (l.foldl insM s).length = s.length + l.length
 | [], s => by simp
 | x :: l, s => by simp only [List.foldl_cons, insl_len l, insM_len, List.length_cons]; omega
theorem sortM_len (l : List Team) : (sortM l).length = l.length := by simp [sortM, insl_len]
def standM (l : List Team) : List Int := bif areTeamsM l then (sortM l).map (fun x : Team => x.1) else []
theorem S177_l6_ok {N : Nat} {l s : List Team} {i : Nat} (hi : i < l.length) (hl : l.length ≤ 1048700) (hs : s.length ≤ 1048700) {kk : Int → Option Ret} : ∀ (k n : Nat), k ≤ s.length → k < n → S177_l6 N l s (i : Int) n kk (k : Int) = kk ((posM l[i] s k : Nat) : Int)
 | 0, n + 1, _, _ => by
  simp only [S177_l6]
  rfl
 | k + 1, n + 1, hk, hn => by
  have hm := maxLen_eq
  have ew : IntKind.wrap .i64 (((k + 1 : Nat) : Int) - 1) = ((k : Nat) : Int) := by
   have := wrap_pred (i := k + 1) (m := s.length + 1) (by omega) (by omega) (by omega)
   simpa using this
  simp only [S177_l6]
  rw [decide_eq_true (show ((k + 1 : Nat) : Int) > 0 by omega), cond_true, inB_nat hi, cond_true, ew, inB_nat (show k < s.length by omega), cond_true, S223_ok, Int.toNat_natCast, Int.toNat_natCast, getD_nat l i hi]
  unfold posM
  cases beforeM l[i] (s.getD k zQIIIIILIE) with
  | true => simp only [cond_true]; exact S177_l6_ok hi hl hs k n (by omega) (by omega)
  | false => rfl
theorem goL1_inv {α σ : Type} {body : Nat → α → σ → (σ → Option Ret) → Option Ret} {kend : σ → Option Ret} {g : σ → α → σ} {Inv : Nat → σ → Prop} {l : List α}
  (hb : ∀ (i : Nat) (s : σ) (next : σ → Option Ret) (h : i < l.length), Inv i s → body i l[i] s next = next (g s l[i]) ∧ Inv (i + 1) (g s l[i])) : ∀ (r : List α) (i : Nat) (s : σ), l.drop i = r → Inv i s → goL1 body kend r i s = kend (r.foldl g s)
 | [], i, s, _, _ => rfl
 | x :: r, i, s, hd, hs => by
  have hlt : i < l.length := by have := congrArg List.length hd; simp at this; omega
  rw [List.drop_eq_getElem_cons hlt] at hd
  injection hd with h1 h2
  subst h1
  obtain ⟨e1, e2⟩ := hb i s (fun s' => goL1 body kend r (i + 1) s') hlt hs
  simp only [goL1, List.foldl_cons]
  rw [e1]
  exact goL1_inv hb r (i + 1) _ h2 e2
theorem ids_loop {l : List Team} {kf : List Int → Option Ret} (hl : l.length ≤ 1048700) : goL1 (fun (i : Nat) (x : QIIIIILIE) (s : (List Int)) (next : (List Int) → Option Ret) =>
    bif (decide ((List.length s + List.length [x.1]) * 1 ≤ 4398046511104)) then
     next (s ++ [x.1])
    else none) (fun (s : (List Int)) => kf s) l 0 [] = kf (l.map fun x : Team => x.1) := by
 rw [goL1_inv (l := l) (g := fun s (x : Team) => s ++ [x.1]) (Inv := fun i s => s.length = i) (fun i s next h hs => ⟨by rw [decide_eq_true (by simp only [List.length_cons, List.length_nil]; omega), cond_true], by simp [hs]⟩) l 0 [] rfl rfl]
 congr 1
 have : ∀ (r : List Team) (s : List Int), r.foldl (fun s (x : Team) => s ++ [x.1]) s = s ++ r.map fun x : Team => x.1 := by
  intro r
  induction r with
  | nil => intro s; simp
  | cons x r ih => intro s; simp [ih]
 simpa using this l []
theorem S177_ok {N : Nat} {l : List Team} {kf : List Int → Option Ret} (hl : l.length ≤ maxLen) (hm : ∀ x ∈ l, x.met.length ≤ maxLen ∧ x.met.length < N) (hN : l.length + 1 < N) : S177 N l kf = kf (standM l) := by
 have hx := maxLen_eq
 unfold S177 standM
 rw [S177_l3_r hl (by omega)]
 have ha : ∀ kf, S175 N l kf = kf (areTeamsM l) := fun kf => S175_ok hl hm (by omega)
 cases hat : areTeamsM l with
 | false =>
  have key : ∀ (l2 : List Team) (body : Nat → Team → List Team → (List Team → Option Ret) → Option Ret) (kend : List Team → Option Ret), (∀ i x s next, body i x s next = kend s) → goL1 body kend l2 0 [] = kend [] := by
   intro l2 body kend h
   cases l2 with
   | nil => rfl
   | cons x r => simp only [goL1]; exact h _ _ _ _
  rw [key _ _ _ (fun i x s next => by rw [ha, hat]; rfl)]
  rw [S177_l11_r (by simp) (by simp; omega)]
  rfl
 | true =>
  have h10 : l.length ≤ 10 := by
   unfold areTeamsM at hat
   simp only [Bool.and_eq_true, decide_eq_true_eq] at hat
   exact hat.1
  rw [goL1_inv (l := l) (g := insM) (Inv := fun i s => s.length = i ∧ i ≤ l.length) (fun i s next h hs => ⟨by
   obtain ⟨h1, h2⟩ := hs
   have hp := posM_le l[i] s s.length
   rw [ha, hat]
   simp only [cond_true]
   rw [S177_l6_ok h (by omega) (by omega) s.length N (Nat.le_refl _) (by omega)]
   have d1 : (decide ((0 : Int) ≤ (0 : Int)) && decide ((0 : Int) ≤ ((posM l[i] s s.length : Nat) : Int)) && decide (((posM l[i] s s.length : Nat) : Int) ≤ (List.length s : Int))) = true := by simp; omega
   have d2 : (decide ((0 : Int) ≤ ((posM l[i] s s.length : Nat) : Int)) && decide (((posM l[i] s s.length : Nat) : Int) ≤ (List.length s : Int)) && decide ((List.length s : Int) ≤ (List.length s : Int))) = true := by simp; omega
   rw [d1, cond_true, d2, cond_true, Int.toNat_natCast, Int.toNat_natCast, List.drop_zero, List.take_length, List.nil_append]
   have l1 : (s.take (posM l[i] s s.length)).length ≤ s.length := by rw [List.length_take]; omega
   have l2 : (s.drop (posM l[i] s s.length)).length ≤ s.length := by rw [List.length_drop]; omega
   rw [decide_eq_true (by simp only [List.length_nil]; omega), cond_true, decide_eq_true (by simp only [List.length_cons, List.length_nil]; omega), cond_true, decide_eq_true (by simp only [List.length_append, List.length_cons, List.length_nil]; omega), cond_true]
   rfl, by rw [insM_len]; omega, h⟩) l 0 [] rfl ⟨rfl, by omega⟩]
  have hlen := sortM_len l
  show S177_l11 (sortM l) N kf [] 0 = _
  rw [S177_l11_r (by omega) (by omega)]
  exact ids_loop (by omega)
theorem swap_at {α : Type} (P Q : List α) (y x : α) (z : α) : List.set (List.set (P ++ (y :: x :: Q)) (P.length + 1) y) P.length x = P ++ (x :: y :: Q) := by
 rw [List.set_append_right _ _ (by omega), List.set_append_right _ _ (by omega)]
 simp
def midM (s : List Team) (x : Team) (rest : List Team) (k : Nat) : List Team := s.take k ++ (x :: (s.drop k ++ rest))
theorem midM_len {s rest : List Team} {x : Team} {k : Nat} (hk : k ≤ s.length) : (midM s x rest k).length = s.length + 1 + rest.length := by simp [midM]; omega
theorem sort_l4_ok {N : Nat} {s rest : List Team} {x : Team} {b i : Int} {kk : List Team → Option Ret} (hN : 3 < N) (hl : s.length + rest.length ≤ 1048700) : ∀ (k n : Nat), k ≤ s.length → k < n →
  S263_l4 N (0 : Int) b i n kk (midM s x rest k) (k : Int) = kk (midM s x rest (posM x s k))
 | 0, n + 1, _, _ => by
  simp only [S263_l4]
  rfl
 | k + 1, n + 1, hk, hn => by
  have hm := maxLen_eq
  have ew : IntKind.wrap .i64 (((k + 1 : Nat) : Int) - 1) = ((k : Nat) : Int) := by
   have := wrap_pred (i := k + 1) (m := s.length + 1) (by omega) (by omega) (by omega)
   simpa using this
  have hlen := midM_len (x := x) (rest := rest) hk
  have e1 : s.take (k + 1) = s.take k ++ [s[k]] := by rw [List.take_succ_eq_append_getElem (by omega)]
  have e2 : s.drop k = s[k] :: s.drop (k + 1) := by rw [List.drop_eq_getElem_cons (by omega)]
  have hP : (s.take k).length = k := by rw [List.length_take]; omega
  have em : midM s x rest (k + 1) = s.take k ++ (s[k] :: x :: (s.drop (k + 1) ++ rest)) := by unfold midM; rw [e1, List.append_assoc]; rfl
  have en : midM s x rest k = s.take k ++ (x :: s[k] :: (s.drop (k + 1) ++ rest)) := by unfold midM; rw [e2]; rfl
  have g1 : (midM s x rest (k + 1)).getD (k + 1) zQIIIIILIE = x := by rw [em, List.getD_eq_getElem?_getD, List.getElem?_append_right (by omega), hP]; simp
  have g0 : (midM s x rest (k + 1)).getD k zQIIIIILIE = s[k] := by rw [em, List.getD_eq_getElem?_getD, List.getElem?_append_right (by omega), hP]; simp
  simp only [S263_l4]
  rw [decide_eq_true (show ((k + 1 : Nat) : Int) > 0 by omega), cond_true, inB_nat (show k + 1 < (midM s x rest (k + 1)).length by omega), cond_true, ew, inB_nat (show k < (midM s x rest (k + 1)).length by omega), cond_true, Int.toNat_natCast, Int.toNat_natCast, g1, g0, I231_ok hN, cmpM_before]
  have eb : beforeM x (s.getD k zQIIIIILIE) = beforeM x s[k] := by rw [getD_nat s k (by omega)]
  unfold posM
  rw [eb]
  cases beforeM x s[k] with
  | true =>
   simp only [cond_true, share]
   rw [inB_nat (show k < _ by rw [List.length_set]; omega), cond_true]
   have es : List.set (List.set (midM s x rest (k + 1)) (k + 1) s[k]) k x = midM s x rest k := by
    rw [em, en]
    have := swap_at (s.take k) (s.drop (k + 1) ++ rest) s[k] x x
    rw [hP] at this
    exact this
   rw [es]
   exact sort_l4_ok hN hl k n (by omega) (by omega)
  | false => rfl
theorem sort_l1_ok {N : Nat} {l : List Team} {kk : List Team → Option Ret} (hN : 3 < N) (hl : l.length ≤ 1048700) (hlN : l.length < N) : ∀ (r s : List Team) (n : Nat), s.length + r.length = l.length → r.length < n →
  S263_l1 N (0 : Int) (l.length : Int) n kk (s ++ r) (s.length : Int) = kk (r.foldl insM s)
 | [], s, n + 1, hs, _ => by
  simp only [S263_l1]
  rw [decide_eq_false (show ¬ (s.length : Int) < (l.length : Int) by simp at hs; omega)]
  simp
 | x :: r, s, n + 1, hs, hn => by
  have hm := maxLen_eq
  simp only [List.length_cons] at hs hn
  simp only [S263_l1]
  rw [decide_eq_true (show (s.length : Int) < (l.length : Int) by omega), cond_true]
  have e0 : s ++ x :: r = midM s x r s.length := by simp [midM]
  rw [e0, sort_l4_ok hN (by omega) s.length N (Nat.le_refl _) (by omega)]
  have e1 : midM s x r (posM x s s.length) = insM s x ++ r := by simp [midM, insM]
  have e2 : IntKind.wrap .i64 ((s.length : Int) + 1) = ((insM s x).length : Int) := by
   rw [insM_len]
   exact wrap_succ (i := s.length) (m := l.length) (by omega) (by omega)
  rw [e1, e2, sort_l1_ok hN hl hlN r (insM s x) n (by rw [insM_len]; omega) (by omega)]
  rfl
theorem bits_Len_ok {N : Nat} {n : Nat} {kf : Int → Option Ret} (h : n < 256) : ∃ r, M211 N (n : Int) kf = kf r := by
 unfold M211 M245
 rw [decide_eq_false (by omega), cond_false]
 unfold M245_j3
 rw [decide_eq_false (by omega), cond_false]
 unfold M245_j2
 rw [decide_eq_false (by omega), cond_false]
 unfold M245_j1
 have e : IntKind.wrap .u8 (n : Int) = (n : Int) := by simp [IntKind.wrap, IntKind.bits, IntKind.signed]; omega
 rw [e, inB_nat (m := ByteArray.size _) (by
  have : ByteArray.size s_h00010202030303030404040404040404050505050505050505050505050505050606060606060606 = 256 := by decide +kernel
  rw [this]; exact h), cond_true]
 exact ⟨_, rfl⟩
end Go.Pv.R
namespace Go.Pv.R
set_option linter.unusedVariables false
set_option linter.unusedSimpArgs false
theorem slices_SortFunc_ok {N : Nat} {l : List Team} {kf : List Team → Option Ret} (hl : l.length ≤ 12) (hN : 20 < N) : S230 N l kf = kf (sortM l) := by
 have hm := maxLen_eq
 unfold S230
 have ew : IntKind.wrap .u64 (List.length l : Int) = (l.length : Int) := by simp [IntKind.wrap, IntKind.bits, IntKind.signed]; omega
 rw [ew]
 obtain ⟨r, hr⟩ := bits_Len_ok (N := N) (n := l.length) (kf := fun (r11_1 : Int) => S252 N l (0 : Int) (List.length l : Int) r11_1 kf) (by omega)
 rw [hr]
 unfold S252
 obtain ⟨n, rfl⟩ : ∃ n, N = n + 1 := ⟨N - 1, by omega⟩
 simp only [S252_l2]
 rw [wrap64 (n := (List.length l : Int) - 0) (by omega) (by omega), decide_eq_true (by omega), cond_true]
 unfold S263
 cases l with
 | nil =>
  have e : IntKind.wrap .i64 ((0 : Int) + 1) = 1 := by decide
  rw [e]
  simp only [S263_l1]
  rfl
 | cons x r =>
  have e : IntKind.wrap .i64 ((0 : Int) + 1) = (([x] : List Team).length : Int) := by
   show IntKind.wrap .i64 ((0 : Int) + 1) = ((1 : Nat) : Int)
   decide
  rw [e]
  have := sort_l1_ok (N := n + 1) (l := x :: r) (kk := kf) (by omega) (by omega) (by omega) r [x] (n + 1) (by simp; omega) (by simp at hl; omega)
  simp only [List.singleton_append] at this
  rw [this]
  rfl
theorem S229_ok {N : Nat} {l : List Team} {kf : List Team → Option Ret} (hl : l.length ≤ 1048576) : S229 N l kf = kf l := clone_any (decide_eq_true (by simp only [List.length_nil]; omega))
theorem I187_ok {N : Nat} {l : List Team} {kf : List Int → Option Ret} (hl : l.length ≤ maxLen) (hm : ∀ x ∈ l, x.met.length ≤ maxLen ∧ x.met.length < N) (hN : l.length < N) (h20 : 20 < N) : I187 N l kf = kf (standM l) := by
 have hx := maxLen_eq
 unfold I187 standM
 rw [I143_ok hl hm hN]
 cases hat : areTeamsM l with
 | false => rfl
 | true =>
  have h10 : l.length ≤ 10 := by
   unfold areTeamsM at hat
   simp only [Bool.and_eq_true, decide_eq_true_eq] at hat
   exact hat.1
  have hlen := sortM_len l
  simp only [Bool.not_true, cond_false, cond_true]
  rw [S229_ok (by omega), slices_SortFunc_ok (by omega) h20, I187_l7_r (by omega) (by omega)]
  exact ids_loop (by omega)
def leM (a b : Team) : Prop := beforeM b a = false
theorem leM_iff {a b : Team} : leM a b ↔ ¬ (b.2.2.1 > a.2.2.1 ∨ (b.2.2.1 = a.2.2.1 ∧ (b.2.2.2.1 > a.2.2.2.1 ∨ (b.2.2.2.1 = a.2.2.2.1 ∧ b.1 < a.1)))) := by
 unfold leM
 rw [← before_iff, Bool.not_eq_true]
theorem leM_trans {a b c : Team} (h1 : leM a b) (h2 : leM b c) : leM a c := by
 rw [leM_iff] at *
 omega
theorem leM_before {a b : Team} (h : beforeM a b = true) : leM a b := by
 rw [leM_iff]
 rw [before_iff] at h
 omega
theorem before_tot {a b : Team} (h : a.1 ≠ b.1) (hb : beforeM a b = false) : beforeM b a = true := by
 rw [before_iff]
 rw [← Bool.not_eq_true, before_iff] at hb
 omega
theorem posM_hi (x : Team) (s : List Team) : ∀ k i, posM x s k ≤ i → i < k → beforeM x (s.getD i zQIIIIILIE) = true
 | 0, i, _, h => by omega
 | k + 1, i, h1, h2 => by
  unfold posM at h1
  cases hb : beforeM x (s.getD k zQIIIIILIE) with
  | true =>
   rw [hb, cond_true] at h1
   rcases Nat.lt_or_eq_of_le (Nat.le_of_lt_succ h2) with h3 | rfl
   ·exact posM_hi x s k i h1 h3
   ·exact hb
  | false =>
   rw [hb, cond_false] at h1
   omega
theorem posM_lo (x : Team) (s : List Team) : ∀ k, 0 < posM x s k → leM (s.getD (posM x s k - 1) zQIIIIILIE) x
 | 0, h => by simp [posM] at h
 | k + 1, h => by
  unfold posM at h ⊢
  cases hb : beforeM x (s.getD k zQIIIIILIE) with
  | true => rw [hb, cond_true] at h; exact posM_lo x s k h
  | false => exact hb
theorem insM_perm (s : List Team) (x : Team) : (insM s x).Perm (x :: s) := by
 unfold insM
 refine (List.perm_append_comm.append_right _).trans ?_
 rw [List.append_assoc, List.take_append_drop]
 exact List.Perm.refl _
theorem insl_perm : ∀ (l s : List Team), (l.foldl insM s).Perm (l ++ s)
 | [], s => List.Perm.refl _
 | x :: l, s => by
  refine (insl_perm l (insM s x)).trans ?_
  refine ((insM_perm s x).append_left l).trans ?_
  exact List.perm_middle
theorem mem_sortM {l : List Team} {x : Team} : x ∈ sortM l ↔ x ∈ l := by
 have := (insl_perm l []).mem_iff (a := x)
 rw [List.append_nil] at this
 exact this
theorem insM_sorted {s : List Team} {x : Team} (h : s.Pairwise leM) : (insM s x).Pairwise leM := by
 have hp := posM_le x s s.length
 have hlo := posM_lo x s s.length
 have hhi := posM_hi x s s.length
 unfold insM
 generalize posM x s s.length = p at *
 have h0 := h
 rw [← List.take_append_drop p s, List.pairwise_append] at h
 obtain ⟨h1, h2, h3⟩ := h
 rw [List.append_assoc, List.pairwise_append]
 have hb : ∀ y ∈ s.drop p, leM x y := fun y hy => by
  obtain ⟨j, hj, rfl⟩ := List.mem_iff_getElem.1 hy
  rw [List.length_drop] at hj
  have := hhi (p + j) (by omega) (by omega)
  rw [getD_nat _ _ (by omega)] at this
  rw [List.getElem_drop]
  exact leM_before this
 have ha : ∀ y ∈ s.take p, leM y x := fun y hy => by
  obtain ⟨j, hj, rfl⟩ := List.mem_iff_getElem.1 hy
  rw [List.length_take] at hj
  have := hlo (by omega)
  rw [getD_nat _ _ (by omega)] at this
  rw [List.getElem_take]
  by_cases hjp : j = p - 1
  ·subst hjp; exact this
  ·exact leM_trans (List.pairwise_iff_getElem.1 h0 j (p - 1) (by omega) (by omega) (by omega)) this
 refine ⟨h1, ?_, ?_⟩
 ·rw [List.singleton_append, List.pairwise_cons]
  exact ⟨hb, h2⟩
 ·intro a hA b hB
  rw [List.singleton_append, List.mem_cons] at hB
  rcases hB with rfl | hB
  ·exact ha a hA
  ·exact h3 a hA b hB
theorem sortM_sorted (l : List Team) : (sortM l).Pairwise leM := by
 have : ∀ (l s : List Team), s.Pairwise leM → (l.foldl insM s).Pairwise leM := by
  intro l
  induction l with
  | nil => exact fun s h => h
  | cons x l ih => exact fun s h => ih _ (insM_sorted h)
 exact this l [] List.Pairwise.nil
def teamM (t : List Team) (id : Int) : Team := t.getD (findT t id).toNat zQIIIIILIE
def sideM (t : List Team) (a b : Int) : Pair := bif areTeamsM t && (decide (findT t a ≥ 0) && (decide (findT t b ≥ 0) && (findT t a != findT t b))) then
  (bif decide ((teamM t b).2.2.2.2.1 < (teamM t a).2.2.2.2.1) then (b, a) else bif (teamM t b).2.2.2.2.1 == (teamM t a).2.2.2.2.1 then (bif beforeM (teamM t b) (teamM t a) then (b, a) else (a, b)) else (a, b)) else (0, 0)
theorem S222_ok {N : Nat} {t : List Team} {a b : Int} {kf : Pair → Option Ret} (hl : t.length ≤ maxLen) (hm : ∀ x ∈ t, x.met.length ≤ maxLen ∧ x.met.length < N) (hN : t.length < N) : S222 N t a b kf = kf (sideM t a b) := by
 unfold S222 sideM
 rw [S200_ok hl hN, S200_ok hl hN, S175_ok hl hm hN]
 cases areTeamsM t with
 | false => rfl
 | true =>
  by_cases ha : findT t a ≥ 0
  rotate_left
  ·rw [decide_eq_true (show findT t a < 0 by omega), decide_eq_false ha]; rfl
  by_cases hb : findT t b ≥ 0
  rotate_left
  ·rw [decide_eq_false (show ¬ findT t a < 0 by omega), decide_eq_true ha, decide_eq_true (show findT t b < 0 by omega), decide_eq_false hb]; rfl
  rw [decide_eq_true ha, decide_eq_true hb, decide_eq_false (show ¬ findT t a < 0 by omega), decide_eq_false (show ¬ findT t b < 0 by omega), (findT_in ha).1, (findT_in hb).1]
  simp only [cond_true, cond_false, Bool.not_true, Bool.true_and, S223_ok, bne]
  unfold teamM
  cases (findT t a == findT t b)
  ·simp only [cond_false, Bool.not_false, cond_true]
   cases decide ((t.getD (findT t b).toNat zQIIIIILIE).2.2.2.2.1 < (t.getD (findT t a).toNat zQIIIIILIE).2.2.2.2.1)
   ·simp only [cond_false]
    cases ((t.getD (findT t b).toNat zQIIIIILIE).2.2.2.2.1 == (t.getD (findT t a).toNat zQIIIIILIE).2.2.2.2.1)
    ·rfl
    ·simp only [cond_true]
     cases beforeM (t.getD (findT t b).toNat zQIIIIILIE) (t.getD (findT t a).toNat zQIIIIILIE) <;> rfl
   ·rfl
  ·rfl
theorem S170_ok {N : Nat} {l : List Int} {n : Int} {kf : Int → Option Ret} (hl : l.length ≤ maxLen) (hN : l.length < N) : S170 N l n kf = kf (findM (fun x : Int => n == x) l) := by
 unfold S170
 rw [S170_l2_r hl hN, goL_find (p := fun x : Int => n == x) (kf := fun i => kf (i : Int)) (fun i x next => rfl)]
 unfold findM
 cases findI (fun x : Int => n == x) l 0 <;> rfl
theorem teamM_in {t : List Team} {a : Int} (ha : findT t a ≥ 0) : teamM t a ∈ t ∧ (teamM t a).1 = a := by
 obtain ⟨k, hk, e, h1, _⟩ := findM_pos (p := fun x : Team => x.1 == a) (l := t) (by unfold findT at ha; omega)
 have e : findT t a = (k : Int) := e
 unfold teamM
 rw [e, Int.toNat_natCast, getD_nat _ _ hk]
 exact ⟨List.getElem_mem hk, by simpa using h1⟩
theorem team_uniq {t : List Team} (ht : allI (teamP t) t 0 = true) {x : Team} (hx : x ∈ t) {a : Int} (e : x.1 = a) : teamM t a = x := by
 obtain ⟨i, hi, rfl⟩ := List.mem_iff_getElem.1 hx
 unfold teamM
 rw [(findT_self ht hi).2 e.symm, Int.toNat_natCast, getD_nat _ _ hi]
theorem rank_ok {t : List Team} (ht : allI (teamP t) t 0 = true) {a : Int} (ha : findT t a ≥ 0) : ∃ k : Nat, ∃ hk : k < (sortM t).length, findM (fun x : Int => a == x) ((sortM t).map fun x : Team => x.1) = (k : Int) ∧ (sortM t)[k] = teamM t a := by
 obtain ⟨h1, h2⟩ := teamM_in ha
 have hmem : a ∈ (sortM t).map fun x : Team => x.1 := List.mem_map.2 ⟨teamM t a, mem_sortM.2 h1, h2⟩
 by_cases hn : findM (fun x : Int => a == x) ((sortM t).map fun x : Team => x.1) < 0
 ·obtain ⟨j, hj, e⟩ := List.mem_iff_getElem.1 hmem
  have := (findM_neg hn).2 j hj
  rw [e] at this
  simp at this
 ·obtain ⟨k, hk, e, h3, _⟩ := findM_pos hn
  rw [List.length_map] at hk
  refine ⟨k, hk, e, ?_⟩
  rw [List.getElem_map, beq_iff_eq] at h3
  exact (team_uniq ht (mem_sortM.1 (List.getElem_mem hk)) h3.symm).symm
theorem rank_lt {t : List Team} (ht : allI (teamP t) t 0 = true) {a b : Int} (ha : findT t a ≥ 0) (hb : findT t b ≥ 0) (hab : a ≠ b) : decide (findM (fun x : Int => a == x) ((sortM t).map fun x : Team => x.1) < findM (fun x : Int => b == x) ((sortM t).map fun x : Team => x.1)) = !beforeM (teamM t b) (teamM t a) := by
 obtain ⟨i, hi, e1, h1⟩ := rank_ok ht ha
 obtain ⟨j, hj, e2, h2⟩ := rank_ok ht hb
 have hs := List.pairwise_iff_getElem.1 (sortM_sorted t)
 rw [e1, e2]
 rcases Nat.lt_trichotomy i j with h | h | h
 ·have := hs i j hi hj h
  rw [h1, h2] at this
  unfold leM at this
  rw [this, decide_eq_true (by omega)]; rfl
 ·subst h
  have : teamM t a = teamM t b := by rw [← h1, ← h2]
  exact absurd (by rw [← (teamM_in ha).2, ← (teamM_in hb).2, this]) hab
 ·have := hs j i hj hi h
  rw [h1, h2] at this
  unfold leM at this
  have h3 := before_tot (a := teamM t a) (b := teamM t b) (by rw [(teamM_in ha).2, (teamM_in hb).2]; exact hab) this
  rw [h3, decide_eq_false (by omega)]; rfl
theorem I228_ok {N : Nat} {t : List Team} {a b : Int} {kf : Pair → Option Ret} (hl : t.length ≤ maxLen) (hm : ∀ x ∈ t, x.met.length ≤ maxLen ∧ x.met.length < N) (hN : t.length < N) (h20 : 20 < N) : I228 N t a b kf = kf (sideM t a b) := by
 have hx := maxLen_eq
 unfold I228 sideM
 rw [I40_ok hl hN, I40_ok hl hN, I143_ok hl hm hN]
 cases hat : areTeamsM t with
 | false => rfl
 | true =>
  have hat2 := hat
  unfold areTeamsM at hat2
  simp only [Bool.and_eq_true, decide_eq_true_eq] at hat2
  obtain ⟨h10, ht, _⟩ := hat2
  by_cases ha : findT t a ≥ 0
  rotate_left
  ·rw [decide_eq_true (show findT t a < 0 by omega), decide_eq_false ha]; rfl
  by_cases hb : findT t b ≥ 0
  rotate_left
  ·rw [decide_eq_false (show ¬ findT t a < 0 by omega), decide_eq_true ha, decide_eq_true (show findT t b < 0 by omega), decide_eq_false hb]; rfl
  rw [decide_eq_true ha, decide_eq_true hb, decide_eq_false (show ¬ findT t a < 0 by omega), decide_eq_false (show ¬ findT t b < 0 by omega), (findT_in ha).1, (findT_in hb).1, I187_ok hl hm hN h20]
  have hlen := sortM_len t
  have hst : standM t = (sortM t).map fun x : Team => x.1 := by unfold standM; rw [hat]; rfl
  have hsl : (standM t).length = t.length := by rw [hst, List.length_map, hlen]
  rw [S170_ok (by omega) (by omega)]
  simp only [S170_ok (N := N) (l := standM t) (by omega) (by omega)]
  by_cases hab : a = b
  ·subst hab; simp
  ·have hne : findT t a ≠ findT t b := fun e => hab (by rw [← (teamM_in ha).2, ← (teamM_in hb).2]; unfold teamM; rw [e])
   have e1 : (findT t a == findT t b) = false := by simpa using hne
   simp only [cond_true, cond_false, Bool.not_true, Bool.true_and, bne, e1, Bool.not_false]
   rw [hst, rank_lt ht ha hb hab]
   show (bif decide ((teamM t a).2.2.2.2.1 < (teamM t b).2.2.2.2.1) then kf (a, b) else bif (teamM t a).2.2.2.2.1 == (teamM t b).2.2.2.2.1 then (bif !beforeM (teamM t b) (teamM t a) then kf (a, b) else kf (b, a)) else kf (b, a)) = _
   rcases Int.lt_trichotomy (teamM t a).2.2.2.2.1 (teamM t b).2.2.2.2.1 with h | h | h
   ·rw [decide_eq_true h, decide_eq_false (by omega), cond_true, cond_false]
    have : ((teamM t b).2.2.2.2.1 == (teamM t a).2.2.2.2.1) = false := by simp; omega
    rw [this]; rfl
   ·rw [h, decide_eq_false (Int.lt_irrefl _), cond_false, beq_self_eq_true, cond_true, cond_true, cond_false]
    cases beforeM (teamM t b) (teamM t a) <;> rfl
   ·rw [decide_eq_false (by omega), decide_eq_true h, cond_true, cond_false]
    have : ((teamM t a).2.2.2.2.1 == (teamM t b).2.2.2.2.1) = false := by simp; omega
    rw [this]; rfl
theorem S227_ok {N : Nat} {a b : List Int} {kf : List Int → Option Ret} (ha : a.length ≤ 1048700) (hb : b.length ≤ 1048700) (hN : 2 < N) : S227 N [a, b] kf = kf (a ++ b) := by
 have hm := maxLen_eq
 unfold S227
 rw [S227_l3_r (by simp; omega) (by simpa using hN)]
 simp only [goL1]
 rw [wrap64 (n := (0 : Int) + (List.length a : Int)) (by omega) (by omega), decide_eq_false (by omega), cond_false, wrap64 (n := (0 : Int) + (List.length a : Int) + (List.length b : Int)) (by omega) (by omega), decide_eq_false (by omega), cond_false]
 unfold S251
 have e : (List.isEmpty ([] : List Int) && (decide ((0 : Int) ≤ 0 + (List.length a : Int) + (List.length b : Int)) && decide (0 + (List.length a : Int) + (List.length b : Int) ≤ (549755813888 : Int)))) = true := by
  rw [decide_eq_true (by omega), decide_eq_true (by omega)]; rfl
 rw [e, cond_true]
 show S227_l11 [a, b] (List.length [a, b] : Int) N kf [] 0 = _
 rw [S227_l11_r (by simp; omega) (by simpa using hN)]
 simp only [goL1]
 rw [decide_eq_true (by simp; omega), cond_true, decide_eq_true (by simp; omega), cond_true]
 rfl
end Go.Pv.R
namespace Go.Pv.R
set_option linter.unusedVariables false
set_option linter.unusedSimpArgs false
def restM (L : List Int) (i : Nat) : List Int := List.drop 1 (List.take i L) ++ List.drop (i + 1) L
theorem restM_len {L : List Int} {i : Nat} (h1 : 1 ≤ i) (h : i < L.length) : (restM L i).length = L.length - 2 := by simp [restM]; omega
def pairG (t : List Team) (f : List Int → Option (List Pair)) (L : List Int) : Nat → Nat → Option (List Pair)
 | 0, _ => none
 | k + 1, i => bif mayMeetM t (L.getD 0 0) (L.getD i 0) then
   (match f (restM L i) with
    | some r => some (sideM t (L.getD 0 0) (L.getD i 0) :: r)
    | none => pairG t f L k (i + 1))
  else pairG t f L k (i + 1)
def pairM (t : List Team) : Nat → List Int → Option (List Pair)
 | 0, _ => none
 | n + 1, L => bif decide (L.length = 0) then some [] else pairG t (pairM t n) L (L.length - 1) 1
def ans {α β : Type} (o : Option (List α)) (k : List α → Bool → β) : β := match o with | some r => k r true | none => k [] false
theorem pairG_len {t : List Team} {f : List Int → Option (List Pair)} {L : List Int} (hf : ∀ (L' : List Int) r, f L' = some r → 2 * r.length = L'.length) : ∀ (k i : Nat) r, 1 ≤ i → i + k = L.length → pairG t f L k i = some r → 2 * r.length = L.length
 | 0, i, r, h0, h, e => by simp [pairG] at e
 | k + 1, i, r, h0, h, e => by
  unfold pairG at e
  cases hm : mayMeetM t (L.getD 0 0) (L.getD i 0) with
  | false => rw [hm, cond_false] at e; exact pairG_len hf k (i + 1) r (by omega) (by omega) e
  | true =>
   rw [hm, cond_true] at e
   cases hr : f (restM L i) with
   | none => rw [hr] at e; exact pairG_len hf k (i + 1) r (by omega) (by omega) e
   | some r' =>
    rw [hr] at e
    injection e with e
    subst e
    have h1 := hf _ _ hr
    rw [restM_len h0 (by omega)] at h1
    simp only [List.length_cons]
    omega
theorem pairM_len {t : List Team} : ∀ (n : Nat) (L : List Int) r, pairM t n L = some r → 2 * r.length = L.length
 | 0, L, r, e => by simp [pairM] at e
 | n + 1, L, r, e => by
  unfold pairM at e
  by_cases h : L.length = 0
  ·rw [decide_eq_true h, cond_true] at e
   injection e with e
   subst e
   simp [h]
  ·rw [decide_eq_false h, cond_false] at e
   exact pairG_len (fun L' r' e' => pairM_len n L' r' e') (L.length - 1) 1 r (by omega) (by omega) e
theorem rest_cut {L : List Int} {i : Nat} (h1 : 1 ≤ i) (h : i < L.length) : (decide ((0 : Int) ≤ (1 : Int)) && decide ((1 : Int) ≤ (i : Int)) && decide ((i : Int) ≤ (List.length L : Int))) = true ∧ (decide ((0 : Int) ≤ ((i + 1 : Nat) : Int)) && decide (((i + 1 : Nat) : Int) ≤ (List.length L : Int)) && decide ((List.length L : Int) ≤ (List.length L : Int))) = true := by
 constructor
 ·rw [decide_eq_true (by omega), decide_eq_true (by omega), decide_eq_true (by omega)]; rfl
 ·rw [decide_eq_true (by omega), decide_eq_true (by omega), decide_eq_true (by omega)]; rfl
theorem S176_l4_ok {N B : Nat} {self : List Team → List Int → (List Pair → Bool → Option Ret) → Option Ret} {t : List Team} {f : List Int → Option (List Pair)} {L : List Int} {k0 : Option Ret} {kf : List Pair → Bool → Option Ret}
  (hl : t.length ≤ maxLen) (hm : ∀ x ∈ t, x.met.length ≤ maxLen ∧ x.met.length < N) (hN : t.length < N) (h20 : 20 < N) (hL : L.length ≤ 1000)
  (hs : ∀ (i : Nat) k, 1 ≤ i → i < L.length → self t (restM L i) k = ans (f (restM L i)) k) (hfl : ∀ (L' : List Int) r, f L' = some r → 2 * r.length = L'.length) : ∀ (k i n : Nat), 1 ≤ i → i + k = L.length → k < n →
  S176_l4 N self t L n k0 kf (i : Int) = match pairG t f L k i with | some r => kf r true | none => k0
 | 0, i, n + 1, h1, h, hn => by
  simp only [S176_l4]
  rw [decide_eq_false (by omega)]
  rfl
 | k + 1, i, n + 1, h1, h, hn => by
  have hx := maxLen_eq
  have ih := S176_l4_ok (k0 := k0) (kf := kf) (B := B) hl hm hN h20 hL hs hfl k (i + 1) n (by omega) (by omega) (by omega)
  obtain ⟨d1, d2⟩ := rest_cut (L := L) h1 (by omega)
  have ew : IntKind.wrap .i64 ((i : Int) + 1) = ((i + 1 : Nat) : Int) := wrap_succ (m := L.length) (i := i) (by omega) (by omega)
  simp only [S176_l4]
  rw [decide_eq_true (by omega), cond_true, show inB (0 : Int) (List.length L) = true from inB_nat (i := 0) (show 0 < L.length by omega), cond_true, inB_nat (show i < L.length by omega), cond_true, S221_ok hl hm hN]
  unfold pairG
  show (bif !mayMeetM t (L.getD 0 0) (L.getD i 0) then _ else _) = _
  cases mayMeetM t (L.getD 0 0) (L.getD i 0) with
  | false =>
   simp only [Bool.not_false, cond_true, cond_false]
   rw [ew]
   exact ih
  | true =>
   simp only [Bool.not_true, cond_true, cond_false]
   rw [d1, cond_true, ew, d2, cond_true]
   have e3 : (([] : List Int) ++ List.drop (Int.toNat (1 : Int)) (List.take (Int.toNat (i : Int)) L)) ++ List.drop (Int.toNat ((i + 1 : Nat) : Int)) (List.take (Int.toNat (List.length L : Int)) L) = restM L i := by
    rw [Int.toNat_natCast, Int.toNat_natCast, Int.toNat_natCast, List.take_length]; rfl
   rw [e3]
   rw [decide_eq_true (by simp; omega), cond_true, decide_eq_true (by simp; omega), cond_true, hs i _ h1 (by omega)]
   unfold ans
   cases hr : f (restM L i) with
   | none => exact ih
   | some r =>
    have h2 := hfl _ _ hr
    rw [restM_len h1 (by omega)] at h2
    simp only [cond_true]
    rw [S222_ok hl hm hN, decide_eq_true (by simp; omega), cond_true]
    rfl
theorem S176_ok {t : List Team} {B : Nat} (hl : t.length ≤ maxLen) (hm : ∀ x ∈ t, x.met.length ≤ maxLen ∧ x.met.length < B) (hB : t.length < B) (h20 : 20 < B) : ∀ (n N : Nat) (L : List Int) (kf : List Pair → Bool → Option Ret), L.length ≤ n → L.length < B → L.length ≤ 1000 → B + n + 1 ≤ N → S176 N t L kf = ans (pairM t (n + 1) L) kf
 | n, 0, L, kf, _, _, _, h => by omega
 | n, N + 1, L, kf, h1, h2, h3, h => by
  show S176_b (S176 N) N t L kf = _
  unfold S176_b pairM
  by_cases h0 : L.length = 0
  ·rw [decide_eq_true h0, cond_true]
   have : ((List.length L : Int) == 0) = true := by simp [h0]
   rw [this]; rfl
  ·rw [decide_eq_false h0, cond_false]
   have : ((List.length L : Int) == 0) = false := by simp; intro e; exact h0 (by simp [e])
   rw [this, cond_false]
   obtain ⟨n, rfl⟩ : ∃ m, n = m + 1 := ⟨n - 1, by omega⟩
   have := S176_l4_ok (N := N) (B := B) (self := S176 N) (t := t) (f := pairM t (n + 1)) (L := L) (k0 := kf [] false) (kf := kf) hl (fun x hx => ⟨(hm x hx).1, by have := (hm x hx).2; omega⟩) (by omega) (by omega) h3 (fun i k hi1 hi2 => by
    have hr := restM_len hi1 hi2
    exact S176_ok hl hm hB h20 n N (restM L i) k (by omega) (by omega) (by omega) (by omega)) (fun L' r e => pairM_len (n + 1) L' r e) (L.length - 1) 1 N (by omega) (by omega) (by omega)
   refine Eq.trans this ?_
   unfold ans
   cases pairG t (pairM t (n + 1)) L (L.length - 1) 1 <;> rfl
theorem I186_l4_ok {N B : Nat} {self : List Team → List Int → (List Pair → Bool → Option Ret) → Option Ret} {t : List Team} {f : List Int → Option (List Pair)} {L : List Int} {k0 : Option Ret} {kf : List Pair → Bool → Option Ret}
  (hl : t.length ≤ maxLen) (hm : ∀ x ∈ t, x.met.length ≤ maxLen ∧ x.met.length < N) (hN : t.length < N) (h20 : 20 < N) (hL : L.length ≤ 1000)
  (hs : ∀ (i : Nat) k, 1 ≤ i → i < L.length → self t (restM L i) k = ans (f (restM L i)) k) (hfl : ∀ (L' : List Int) r, f L' = some r → 2 * r.length = L'.length) : ∀ (k i n : Nat), 1 ≤ i → i + k = L.length → k < n →
  I186_l4 N self t L n k0 kf (i : Int) = match pairG t f L k i with | some r => kf r true | none => k0
 | 0, i, n + 1, h1, h, hn => by
  simp only [I186_l4]
  rw [decide_eq_false (by omega)]
  rfl
 | k + 1, i, n + 1, h1, h, hn => by
  have hx := maxLen_eq
  have ih := I186_l4_ok (k0 := k0) (kf := kf) (B := B) hl hm hN h20 hL hs hfl k (i + 1) n (by omega) (by omega) (by omega)
  obtain ⟨d1, d2⟩ := rest_cut (L := L) h1 (by omega)
  have ew : IntKind.wrap .i64 ((i : Int) + 1) = ((i + 1 : Nat) : Int) := wrap_succ (m := L.length) (i := i) (by omega) (by omega)
  simp only [I186_l4]
  rw [decide_eq_true (by omega), cond_true, show inB (0 : Int) (List.length L) = true from inB_nat (i := 0) (show 0 < L.length by omega), cond_true, inB_nat (show i < L.length by omega), cond_true, I77_ok hl hm hN]
  unfold pairG
  show (bif !mayMeetM t (L.getD 0 0) (L.getD i 0) then _ else _) = _
  cases mayMeetM t (L.getD 0 0) (L.getD i 0) with
  | false =>
   simp only [Bool.not_false, cond_true, cond_false]
   rw [ew]
   exact ih
  | true =>
   simp only [Bool.not_true, cond_true, cond_false]
   rw [d1, cond_true, ew, d2, cond_true]
   have e3 : List.drop (Int.toNat (1 : Int)) (List.take (Int.toNat (i : Int)) L) ++ List.drop (Int.toNat ((i + 1 : Nat) : Int)) (List.take (Int.toNat (List.length L : Int)) L) = restM L i := by
    rw [Int.toNat_natCast, Int.toNat_natCast, Int.toNat_natCast, List.take_length]; rfl
   rw [S227_ok (by simp; omega) (by simp; omega) (by omega), e3, hs i _ h1 (by omega)]
   unfold ans
   cases hr : f (restM L i) with
   | none => exact ih
   | some r =>
    have h2 := hfl _ _ hr
    rw [restM_len h1 (by omega)] at h2
    simp only [cond_true]
    rw [I228_ok hl hm hN h20, decide_eq_true (by simp; omega), cond_true]
    rfl
theorem I186_ok {t : List Team} {B : Nat} (hl : t.length ≤ maxLen) (hm : ∀ x ∈ t, x.met.length ≤ maxLen ∧ x.met.length < B) (hB : t.length < B) (h20 : 20 < B) : ∀ (n N : Nat) (L : List Int) (kf : List Pair → Bool → Option Ret), L.length ≤ n → L.length < B → L.length ≤ 1000 → B + n + 1 ≤ N → I186 N t L kf = ans (pairM t (n + 1) L) kf
 | n, 0, L, kf, _, _, _, h => by omega
 | n, N + 1, L, kf, h1, h2, h3, h => by
  show I186_b (I186 N) N t L kf = _
  unfold I186_b pairM
  by_cases h0 : L.length = 0
  ·rw [decide_eq_true h0, cond_true]
   have : ((List.length L : Int) == 0) = true := by simp [h0]
   rw [this]; rfl
  ·rw [decide_eq_false h0, cond_false]
   have : ((List.length L : Int) == 0) = false := by simp; intro e; exact h0 (by simp [e])
   rw [this, cond_false]
   obtain ⟨n, rfl⟩ : ∃ m, n = m + 1 := ⟨n - 1, by omega⟩
   have := I186_l4_ok (N := N) (B := B) (self := I186 N) (t := t) (f := pairM t (n + 1)) (L := L) (k0 := kf [] false) (kf := kf) hl (fun x hx => ⟨(hm x hx).1, by have := (hm x hx).2; omega⟩) (by omega) (by omega) h3 (fun i k hi1 hi2 => by
    have hr := restM_len hi1 hi2
    exact I186_ok hl hm hB h20 n N (restM L i) k (by omega) (by omega) (by omega) (by omega)) (fun L' r e => pairM_len (n + 1) L' r e) (L.length - 1) 1 N (by omega) (by omega) (by omega)
   refine Eq.trans this ?_
   unfold ans
   cases pairG t (pairM t (n + 1)) L (L.length - 1) 1 <;> rfl
def roundM (t : List Team) : Option (List Pair) := bif areTeamsM t then bif decide (t.length % 2 = 1) then none else pairM t (t.length + 1) (standM t) else none
theorem standM_len {t : List Team} (h : areTeamsM t = true) : (standM t).length = t.length := by unfold standM; rw [h, cond_true, List.length_map, sortM_len]
theorem roundM_len {t : List Team} {r : List Pair} (h : roundM t = some r) : 2 * r.length = t.length ∧ t.length ≤ 10 := by
 unfold roundM at h
 cases hat : areTeamsM t with
 | false => rw [hat] at h; simp at h
 | true =>
  have hat2 := hat
  unfold areTeamsM at hat2
  simp only [Bool.and_eq_true, decide_eq_true_eq] at hat2
  rw [hat, cond_true] at h
  by_cases ho : t.length % 2 = 1
  ·rw [decide_eq_true ho] at h; simp at h
  ·rw [decide_eq_false ho, cond_false] at h
   have := pairM_len _ _ _ h
   rw [standM_len hat] at this
   exact ⟨this, hat2.1⟩
theorem tmod2 (n : Nat) : (Int.tmod (n : Int) 2 == 1) = decide (n % 2 = 1) := by
 have : Int.tmod (n : Int) 2 = ((n % 2 : Nat) : Int) := by
  rw [Int.tmod_eq_emod_of_nonneg (by omega)]; omega
 rw [this]
 by_cases h : n % 2 = 1
 ·rw [h]; rfl
 ·rw [decide_eq_false h]; simp; omega
theorem S91_ok {N : Nat} {t : List Team} {kf : List Pair → Bool → Option Ret} (hl : t.length ≤ maxLen) (hm : ∀ x ∈ t, x.met.length ≤ maxLen ∧ x.met.length + 20 < N) (hN : t.length + 20 < N) (h60 : 60 < N) : S91 N t kf = ans (roundM t) kf := by
 have hx := maxLen_eq
 unfold S91 roundM
 rw [S175_ok hl (fun x hx => ⟨(hm x hx).1, by have := (hm x hx).2; omega⟩) (by omega)]
 cases hat : areTeamsM t with
 | false => rfl
 | true =>
  have hat2 := hat
  unfold areTeamsM at hat2
  simp only [Bool.and_eq_true, decide_eq_true_eq] at hat2
  rw [tmod2]
  by_cases ho : t.length % 2 = 1
  ·rw [decide_eq_true ho]; rfl
  ·rw [decide_eq_false ho]
   simp only [Bool.not_true, cond_true, cond_false]
   rw [S177_ok hl (fun x hx => ⟨(hm x hx).1, by have := (hm x hx).2; omega⟩) (by omega)]
   have hs := standM_len hat
   exact S176_ok (B := N - 15) hl (fun x hx => ⟨(hm x hx).1, by have := (hm x hx).2; omega⟩) (by omega) (by omega) t.length N _ _ (by omega) (by omega) (by omega) (by omega)
theorem I101_ok {N : Nat} {t : List Team} {kf : List Pair → Bool → Option Ret} (hl : t.length ≤ maxLen) (hm : ∀ x ∈ t, x.met.length ≤ maxLen ∧ x.met.length + 20 < N) (hN : t.length + 20 < N) (h60 : 60 < N) : I101 N t kf = ans (roundM t) kf := by
 have hx := maxLen_eq
 unfold I101 roundM
 rw [I143_ok hl (fun x hx => ⟨(hm x hx).1, by have := (hm x hx).2; omega⟩) (by omega)]
 cases hat : areTeamsM t with
 | false => rfl
 | true =>
  have hat2 := hat
  unfold areTeamsM at hat2
  simp only [Bool.and_eq_true, decide_eq_true_eq] at hat2
  rw [tmod2]
  by_cases ho : t.length % 2 = 1
  ·rw [decide_eq_true ho]; rfl
  ·rw [decide_eq_false ho]
   simp only [Bool.not_true, cond_true, cond_false]
   rw [I187_ok hl (fun x hx => ⟨(hm x hx).1, by have := (hm x hx).2; omega⟩) (by omega) (by omega)]
   have hs := standM_len hat
   exact I186_ok (B := N - 15) hl (fun x hx => ⟨(hm x hx).1, by have := (hm x hx).2; omega⟩) (by omega) (by omega) t.length N _ _ (by omega) (by omega) (by omega) (by omega)
end Go.Pv.R
namespace Go.Pv.R
set_option linter.unusedVariables false
set_option linter.unusedSimpArgs false
def seatG (t : List Team) (js : List Judge) (p : Pair) (used : List Int) (f : List Int → Option (List Int)) : Nat → Nat → Option (List Int)
 | 0, _ => none
 | k + 1, i => bif hasM used (js.getD i zQIILIE).1 then seatG t js p used f k (i + 1) else
   bif mayJudgeM t (js.getD i zQIILIE) p then
   (match f (used ++ [(js.getD i zQIILIE).1]) with
    | some r => some ((js.getD i zQIILIE).1 :: r)
    | none => seatG t js p used f k (i + 1))
  else seatG t js p used f k (i + 1)
def seatM (t : List Team) (js : List Judge) : List Pair → List Int → Option (List Int)
 | [], _ => some []
 | p :: ps, used => seatG t js p used (seatM t js ps) js.length 0
def ansK {α β : Type} (o : Option (List α)) (k0 : β) (k : List α → Bool → β) : β := match o with | some r => k r true | none => k0
theorem ansK_eq {α β : Type} (o : Option (List α)) (k : List α → Bool → β) : ansK o (k [] false) k = ans o k := by cases o <;> rfl
def SeatOK (js : List Judge) (n : Nat) (used r : List Int) : Prop := r.length = n ∧ r.Nodup ∧ ∀ x ∈ r, x ∈ js.map (fun x : Judge => x.1) ∧ x ∉ used
theorem seatG_len {t : List Team} {js : List Judge} {p : Pair} {used : List Int} {f : List Int → Option (List Int)} {n : Nat} (hf : ∀ u r, f u = some r → SeatOK js n u r) : ∀ (k i : Nat) r, i + k = js.length → seatG t js p used f k i = some r → SeatOK js (n + 1) used r
 | 0, i, r, h, e => by simp [seatG] at e
 | k + 1, i, r, h, e => by
  unfold seatG at e
  cases hu : hasM used (js.getD i zQIILIE).1 with
  | true => rw [hu, cond_true] at e; exact seatG_len hf k (i + 1) r (by omega) e
  | false =>
   rw [hu, cond_false] at e
   cases hm : mayJudgeM t (js.getD i zQIILIE) p with
   | false => rw [hm, cond_false] at e; exact seatG_len hf k (i + 1) r (by omega) e
   | true =>
    rw [hm, cond_true] at e
    cases hr : f (used ++ [(js.getD i zQIILIE).1]) with
    | none => rw [hr] at e; exact seatG_len hf k (i + 1) r (by omega) e
    | some r' =>
     rw [hr] at e
     injection e with e
     subst e
     obtain ⟨h1, h2, h3⟩ := hf _ _ hr
     have hin : (js.getD i zQIILIE).1 ∈ js.map (fun x : Judge => x.1) := by
      rw [getD_nat _ _ (show i < js.length by omega)]
      exact List.mem_map.2 ⟨_, List.getElem_mem _, rfl⟩
     have hnu : (js.getD i zQIILIE).1 ∉ used := fun hc => by
      have := hasM_iff.2 hc
      rw [hu] at this
      cases this
     refine ⟨by simp [h1], List.nodup_cons.2 ⟨fun hc => ?_, h2⟩, fun x hx => ?_⟩
     ·have := (h3 _ hc).2
      simp at this
     ·rcases List.mem_cons.1 hx with rfl | hx
      ·exact ⟨hin, hnu⟩
      ·obtain ⟨q1, q2⟩ := h3 x hx
       refine ⟨q1, fun hc => q2 ?_⟩
       simp [hc]
theorem seatM_ok {t : List Team} {js : List Judge} : ∀ (ps : List Pair) (used r : List Int), seatM t js ps used = some r → SeatOK js ps.length used r
 | [], used, r, e => by
  unfold seatM at e
  injection e with e
  subst e
  exact ⟨rfl, List.nodup_nil, fun x hx => by simp at hx⟩
 | p :: ps, used, r, e => seatG_len (fun u r e => seatM_ok ps u r e) js.length 0 r (by omega) e
theorem nodup_le : ∀ (r L : List Int), r.Nodup → (∀ x ∈ r, x ∈ L) → r.length ≤ L.length
 | [], L, _, _ => by simp
 | x :: r, L, hn, h => by
  rw [List.nodup_cons] at hn
  have hx := h x (by simp)
  have h1 := List.length_erase_of_mem hx
  have h2 := List.length_pos_of_mem hx
  have := nodup_le r (L.erase x) hn.2 fun y hy => by
   have hne : y ≠ x := fun e => hn.1 (e ▸ hy)
   exact (List.mem_erase_of_ne hne).2 (h y (by simp [hy]))
  simp only [List.length_cons]
  omega
theorem seatM_le {t : List Team} {js : List Judge} {ps : List Pair} {used r : List Int} (h : seatM t js ps used = some r) : ps.length ≤ js.length := by
 obtain ⟨h1, h2, h3⟩ := seatM_ok ps used r h
 have := nodup_le r (js.map fun x : Judge => x.1) h2 fun x hx => (h3 x hx).1
 rw [List.length_map] at this
 omega
theorem one_cut {p : Pair} {ps : List Pair} : (decide ((0 : Int) ≤ (1 : Int)) && decide ((1 : Int) ≤ (List.length (p :: ps) : Int)) && decide ((List.length (p :: ps) : Int) ≤ (List.length (p :: ps) : Int))) = true ∧ List.drop (Int.toNat (1 : Int)) (List.take (Int.toNat (List.length (p :: ps) : Int)) (p :: ps)) = ps := by
 constructor
 ·rw [decide_eq_true (by omega), decide_eq_true (by simp only [List.length_cons]; omega), decide_eq_true (by omega)]; rfl
 ·rw [Int.toNat_natCast, List.take_length]; rfl
theorem S179_l4_ok {N : Nat} {self : List Team → List Judge → List Pair → List Int → (List Int → Bool → Option Ret) → Option Ret} {t : List Team} {js : List Judge} {p : Pair} {ps : List Pair} {used : List Int} {f : List Int → Option (List Int)} {k0 : Option Ret} {kf : List Int → Bool → Option Ret}
  (hl : t.length ≤ maxLen) (hN : t.length < N) (h20 : 20 < N) (hj : js.length ≤ 1048700) (hjm : ∀ x ∈ js, x.2.2.length ≤ maxLen ∧ x.2.2.length < N) (hu : used.length ≤ 1000) (huN : used.length < N)
  (hs : ∀ (x : Int) k, self t js ps (used ++ [x]) k = ans (f (used ++ [x])) k) (hfl : ∀ (u : List Int) r, f u = some r → r.length ≤ 1000) : ∀ (k i n : Nat), i + k = js.length → k < n →
  S179_l4 N self t js (p :: ps) used n k0 kf (i : Int) = ansK (seatG t js p used f k i) k0 kf
 | 0, i, n + 1, h, hn => by
  simp only [S179_l4]
  rw [decide_eq_false (by omega)]
  rfl
 | k + 1, i, n + 1, h, hn => by
  have hx := maxLen_eq
  have ih := S179_l4_ok (k0 := k0) (kf := kf) (p := p) hl hN h20 hj hjm hu huN hs hfl k (i + 1) n (by omega) (by omega)
  have ew : IntKind.wrap .i64 ((i : Int) + 1) = ((i + 1 : Nat) : Int) := wrap_succ (m := js.length) (i := i) (by omega) (by omega)
  obtain ⟨d1, d2⟩ := one_cut (p := p) (ps := ps)
  have hi : i < js.length := by omega
  obtain ⟨m1, m2⟩ := hjm js[i] (List.getElem_mem hi)
  simp only [S179_l4]
  rw [decide_eq_true (by omega), cond_true, inB_nat hi, cond_true, S224_ok (by omega) huN]
  unfold seatG
  have eg : js.getD (Int.toNat (i : Int)) zQIILIE = js[i] := getD_nat _ _ hi _
  have eg2 : js.getD i zQIILIE = js[i] := getD_nat _ _ hi _
  rw [eg, eg2]
  cases hasM used js[i].1 with
  | true =>
   simp only [cond_true]
   rw [ew]
   exact ih
  | false =>
   simp only [cond_false]
   rw [cond_true, show inB (0 : Int) (List.length (p :: ps)) = true from inB_nat (i := 0) (by simp), cond_true, S225_ok hl hN m1 m2]
   show (bif !mayJudgeM t js[i] p then _ else _) = _
   cases mayJudgeM t js[i] p with
   | false =>
    simp only [Bool.not_false, cond_true, cond_false]
    rw [ew]
    exact ih
   | true =>
    simp only [Bool.not_true, cond_true, cond_false]
    rw [d1, cond_true, d2, decide_eq_true (by simp; omega), cond_true, decide_eq_true (by simp; omega), cond_true, List.nil_append, hs, ew]
    unfold ans
    cases hr : f (used ++ [js[i].1]) with
    | none => exact ih
    | some r =>
     have := hfl _ _ hr
     simp only [cond_true]
     rw [decide_eq_true (by simp; omega), cond_true]
     rfl
theorem I188_l4_ok {N : Nat} {self : List Team → List Judge → List Pair → List Int → (List Int → Bool → Option Ret) → Option Ret} {t : List Team} {js : List Judge} {p : Pair} {ps : List Pair} {used : List Int} {f : List Int → Option (List Int)} {k0 : Option Ret} {kf : List Int → Bool → Option Ret}
  (hl : t.length ≤ maxLen) (hN : t.length < N) (h20 : 20 < N) (hj : js.length ≤ 1048700) (hjm : ∀ x ∈ js, x.2.2.length ≤ maxLen ∧ x.2.2.length < N) (hu : used.length ≤ 1000) (huN : used.length < N)
  (hs : ∀ (x : Int) k, self t js ps (used ++ [x]) k = ans (f (used ++ [x])) k) (hfl : ∀ (u : List Int) r, f u = some r → r.length ≤ 1000) : ∀ (k i n : Nat), i + k = js.length → k < n →
  I188_l4 N self t js (p :: ps) used js (js.length : Int) n k0 kf (i : Int) = ansK (seatG t js p used f k i) k0 kf
 | 0, i, n + 1, h, hn => by
  simp only [I188_l4]
  rw [decide_eq_false (by omega)]
  rfl
 | k + 1, i, n + 1, h, hn => by
  have hx := maxLen_eq
  have ih := I188_l4_ok (k0 := k0) (kf := kf) (p := p) hl hN h20 hj hjm hu huN hs hfl k (i + 1) n (by omega) (by omega)
  have ew : IntKind.wrap .i64 ((i : Int) + 1) = ((i + 1 : Nat) : Int) := wrap_succ (m := js.length) (i := i) (by omega) (by omega)
  obtain ⟨d1, d2⟩ := one_cut (p := p) (ps := ps)
  have hi : i < js.length := by omega
  obtain ⟨m1, m2⟩ := hjm js[i] (List.getElem_mem hi)
  simp only [I188_l4]
  rw [decide_eq_true (by omega), cond_true, inB_nat hi, cond_true, S82_ok (by omega) huN]
  unfold seatG
  have eg : js.getD (Int.toNat (i : Int)) zQIILIE = js[i] := getD_nat _ _ hi _
  have eg2 : js.getD i zQIILIE = js[i] := getD_nat _ _ hi _
  rw [eg, eg2]
  cases hasM used js[i].1 with
  | true =>
   simp only [cond_true]
   rw [ew]
   exact ih
  | false =>
   simp only [cond_false]
   rw [show inB (0 : Int) (List.length (p :: ps)) = true from inB_nat (i := 0) (by simp), cond_true, I83_ok hl hN m1 m2 (by omega)]
   show (bif !mayJudgeM t js[i] p then _ else _) = _
   cases mayJudgeM t js[i] p with
   | false =>
    simp only [Bool.not_false, cond_true, cond_false]
    rw [ew]
    exact ih
   | true =>
    simp only [Bool.not_true, cond_true, cond_false]
    rw [d1, cond_true, d2, S166_ok (by omega), decide_eq_true (by simp; omega), cond_true, hs, ew]
    unfold ans
    cases hr : f (used ++ [js[i].1]) with
    | none => exact ih
    | some r =>
     have := hfl _ _ hr
     simp only [cond_true]
     rw [decide_eq_true (by simp; omega), cond_true]
     rfl
theorem S179_ok {t : List Team} {js : List Judge} {B : Nat} (hl : t.length ≤ maxLen) (hN : t.length < B) (h20 : 20 < B) (hj : js.length ≤ 1048700) (hjN : js.length < B) (hjm : ∀ x ∈ js, x.2.2.length ≤ maxLen ∧ x.2.2.length < B) : ∀ (ps : List Pair) (N : Nat) (used : List Int) (kf : List Int → Bool → Option Ret), used.length + ps.length ≤ 900 → used.length + ps.length < B → B + ps.length + 1 ≤ N → S179 N t js ps used kf = ans (seatM t js ps used) kf
 | ps, 0, used, kf, _, _, h => by omega
 | [], N + 1, used, kf, _, _, _ => rfl
 | p :: ps, N + 1, used, kf, h1, h2, h => by
  simp only [List.length_cons] at h h1 h2
  show S179_b (S179 N) N t js (p :: ps) used kf = _
  unfold S179_b seatM
  have e : ((List.length (p :: ps) : Int) == 0) = false := by simp; omega
  rw [e, cond_false, ← ansK_eq]
  exact S179_l4_ok (N := N) (self := S179 N) (f := seatM t js ps) hl (by omega) (by omega) hj (fun x hx => ⟨(hjm x hx).1, by have := (hjm x hx).2; omega⟩) (by omega) (by omega) (fun x k => S179_ok hl hN h20 hj hjN hjm ps N _ k (by simp; omega) (by simp; omega) (by omega)) (fun u r e => by have := (seatM_ok ps u r e).1; omega) js.length 0 N (by omega) (by omega)
theorem I188_ok {t : List Team} {js : List Judge} {B : Nat} (hl : t.length ≤ maxLen) (hN : t.length < B) (h20 : 20 < B) (hj : js.length ≤ 1048700) (hjN : js.length < B) (hjm : ∀ x ∈ js, x.2.2.length ≤ maxLen ∧ x.2.2.length < B) : ∀ (ps : List Pair) (N : Nat) (used : List Int) (kf : List Int → Bool → Option Ret), used.length + ps.length ≤ 900 → used.length + ps.length < B → B + ps.length + 1 ≤ N → I188 N t js ps used kf = ans (seatM t js ps used) kf
 | ps, 0, used, kf, _, _, h => by omega
 | [], N + 1, used, kf, _, _, _ => rfl
 | p :: ps, N + 1, used, kf, h1, h2, h => by
  simp only [List.length_cons] at h h1 h2
  show I188_b (I188 N) N t js (p :: ps) used kf = _
  unfold I188_b seatM
  have e : ((List.length (p :: ps) : Int) == 0) = false := by simp; omega
  rw [e, cond_false, ← ansK_eq]
  exact I188_l4_ok (N := N) (self := I188 N) (f := seatM t js ps) hl (by omega) (by omega) hj (fun x hx => ⟨(hjm x hx).1, by have := (hjm x hx).2; omega⟩) (by omega) (by omega) (fun x k => I188_ok hl hN h20 hj hjN hjm ps N _ k (by simp; omega) (by simp; omega) (by omega)) (fun u r e => by have := (seatM_ok ps u r e).1; omega) js.length 0 N (by omega) (by omega)
def seatsM (t : List Team) (js : List Judge) (ps : List Pair) : Option (List Int) := bif areJudgesM js && areTeamsM t then seatM t js ps [] else none
theorem S92_ok {N : Nat} {t : List Team} {js : List Judge} {ps : List Pair} {kf : List Int → Bool → Option Ret} (hl : t.length ≤ maxLen) (hm : ∀ x ∈ t, x.met.length ≤ maxLen ∧ x.met.length + 20 < N) (hN : t.length + 20 < N) (h60 : 60 < N) (hj : js.length ≤ 1048700) (hjN : js.length + 20 < N) (hjm : ∀ x ∈ js, x.2.2.length ≤ maxLen ∧ x.2.2.length + 20 < N) (hp : ps.length ≤ 10) : S92 N t js ps kf = ans (seatsM t js ps) kf := by
 have hx := maxLen_eq
 unfold S92 seatsM
 rw [S178_ok (by omega) (fun x hx => ⟨(hjm x hx).1, by have := (hjm x hx).2; omega⟩) (by omega)]
 cases areJudgesM js with
 | false => rfl
 | true =>
  simp only [Bool.not_true, cond_false, Bool.true_and]
  rw [S175_ok hl (fun x hx => ⟨(hm x hx).1, by have := (hm x hx).2; omega⟩) (by omega)]
  cases areTeamsM t with
  | false => rfl
  | true => exact S179_ok (B := N - 15) hl (by omega) (by omega) hj (by omega) (fun x hx => ⟨(hjm x hx).1, by have := (hjm x hx).2; omega⟩) ps N [] kf (by simp; omega) (by simp; omega) (by omega)
theorem I102_ok {N : Nat} {t : List Team} {js : List Judge} {ps : List Pair} {kf : List Int → Bool → Option Ret} (hl : t.length ≤ maxLen) (hm : ∀ x ∈ t, x.met.length ≤ maxLen ∧ x.met.length + 20 < N) (hN : t.length + 20 < N) (h60 : 60 < N) (hj : js.length ≤ 1048700) (hjN : js.length + 20 < N) (hjm : ∀ x ∈ js, x.2.2.length ≤ maxLen ∧ x.2.2.length + 20 < N) (hp : ps.length ≤ 10) : I102 N t js ps kf = ans (seatsM t js ps) kf := by
 have hx := maxLen_eq
 unfold I102 seatsM
 rw [I79_ok (by omega) (fun x hx => ⟨(hjm x hx).1, by have := (hjm x hx).2; omega⟩) (by omega)]
 cases areJudgesM js with
 | false => rfl
 | true =>
  simp only [Bool.not_true, cond_false, Bool.true_and]
  rw [I143_ok hl (fun x hx => ⟨(hm x hx).1, by have := (hm x hx).2; omega⟩) (by omega)]
  cases areTeamsM t with
  | false => rfl
  | true =>
   simp only [Bool.not_true, cond_false, cond_true]
   by_cases hgt : ps.length > js.length
   ·rw [decide_eq_true (by omega), cond_true]
    cases hs : seatM t js ps [] with
    | none => rfl
    | some r => have := seatM_le hs; omega
   ·rw [decide_eq_false (by omega), cond_false]
    exact I188_ok (B := N - 15) hl (by omega) (by omega) hj (by omega) (fun x hx => ⟨(hjm x hx).1, by have := (hjm x hx).2; omega⟩) ps N [] kf (by simp; omega) (by simp; omega) (by omega)
def pairC (c : Club) (ps : List Pair) (ss : List Int) : Club := (c.1, (c.2.1, (ps, (ss, (List.replicate ps.length ((0 : Int), ((0 : Int), (0 : Int))), c.2.2.2.2.2)))))
def mayPair (c : Club) : Bool := decide (c.2.2.1.length = 0) && decide (0 < c.1.length)
def stepPairM (c : Club) : Club × Bool := match roundM c.1 with
 | none => (c, false)
 | some ps => match seatsM c.1 c.2.1 ps with
  | none => (c, false)
  | some ss => bif mayPair c then (doneC c (pairC c ps ss) 3 0, doneB c (pairC c ps ss) 3 0) else (c, false)
theorem pairC_ok {c : Club} {N : Nat} {ps : List Pair} {ss : List Int} (h : ClubOK c N) (hp : ps.length ≤ 10) (hs : ss.length ≤ 10) (hN : 60 < N) : ClubOK (pairC c ps ss) N :=
 ⟨h.tl, h.tm, h.tN, h.jl, h.jm, h.jN, by show ps.length ≤ _; omega, by show 2 * ps.length < _; omega, by show ss.length ≤ _; omega, by show ss.length < _; omega, by show (List.replicate _ _).length ≤ _; rw [List.length_replicate]; omega, by show (List.replicate _ _).length < _; rw [List.length_replicate]; omega, h.ml, h.mN, h.n8, h.tb, h.tmb, h.jb, h.jmb⟩
theorem seatsM_len {t : List Team} {js : List Judge} {ps : List Pair} {ss : List Int} (h : seatsM t js ps = some ss) : ss.length = ps.length := by
 unfold seatsM at h
 cases hb : (areJudgesM js && areTeamsM t) with
 | false => rw [hb] at h; simp at h
 | true => rw [hb, cond_true] at h; exact (seatM_ok _ _ _ h).1
theorem S21_ok {N : Nat} {c : Club} {kf : Club → Bool → Option Ret} (h : ClubOK c N) (h' : ClubOK c (N - 40)) (hN : 200 < N) (hl : c.2.2.2.2.2.1.length + 1 < N) : S21 N c kf = kf (stepPairM c).1 (stepPairM c).2 := by
 have hx := maxLen_eq
 have t1 := h'.tN
 have t2 := h'.jN
 have t3 := h'.tm
 have t4 := h'.jm
 have hj := h.jb
 have htm : ∀ x : Team, x ∈ c.1 → x.met.length ≤ maxLen ∧ x.met.length + 20 < N := fun x hx => ⟨(t3 x hx).1, by have := (t3 x hx).2; omega⟩
 have hjm : ∀ x ∈ c.2.1, x.2.2.length ≤ maxLen ∧ x.2.2.length + 20 < N := fun x hx => ⟨(t4 x hx).1, by have := (t4 x hx).2; omega⟩
 have hno : ∀ out what who, S93 N c out false what who kf = kf c false := fun out what who => (S93_ok (out := out) h (fun e => by cases e) hN hl)
 unfold S21 stepPairM
 rw [S90_ok h, S91_ok h.tl htm (by omega) (by omega)]
 unfold ans
 cases hr : roundM c.1 with
 | none =>
  simp only []
  rw [S92_ok h.tl htm (by omega) (by omega) hj (by omega) hjm (by simp)]
  unfold ans
  cases seatsM c.1 c.2.1 [] <;> exact hno _ _ _
 | some ps =>
  obtain ⟨l1, l2⟩ := roundM_len hr
  simp only []
  rw [S92_ok h.tl htm (by omega) (by omega) hj (by omega) hjm (by omega)]
  unfold ans
  have e0 : (decide ((List.length ps : Int) = (List.length ps : Int)) && decide ((0 : Int) ≤ (List.length ps : Int)) && decide ((List.length ps : Int) ≤ 1099511627776)) = true := by
   rw [decide_eq_true rfl, decide_eq_true (by omega), decide_eq_true (by omega)]; rfl
  have e0t : (decide True && decide ((0 : Int) ≤ (List.length ps : Int)) && decide ((List.length ps : Int) ≤ 1099511627776)) = true := by
   rw [decide_eq_true trivial, decide_eq_true (by omega), decide_eq_true (by omega)]; rfl
  cases hs : seatsM c.1 c.2.1 ps with
  | none =>
   simp only []
   first | rw [e0] | rw [e0t]
   exact hno _ _ _
  | some ss =>
   have l3 := seatsM_len hs
   have hd := fun ok => S93_ok (out := pairC c ps ss) (ok := ok) (what := 3) (who := 0) (kf := kf) h (fun _ => pairC_ok h (by omega) (by omega) (by omega)) hN hl
   simp only []
   first | rw [e0] | rw [e0t]
   simp only [cond_true]
   unfold S94 mayPair
   by_cases hrun : c.2.2.1.length = 0
   ·rw [decide_eq_false (show ¬ (List.length c.2.2.1 : Int) > 0 by omega), decide_eq_true hrun]
    simp only [Bool.not_false, cond_true, Bool.true_and]
    have e2 : decide ((List.length c.1 : Int) > (0 : Int)) = decide (0 < c.1.length) := decide_eq_decide.2 (by omega)
    rw [e2]
    refine (hd (decide (0 < c.1.length))).trans ?_
    cases decide (0 < c.1.length) <;> rfl
   ·rw [decide_eq_true (show (List.length c.2.2.1 : Int) > 0 by omega), decide_eq_false hrun]
    exact hno _ _ _
theorem I23_ok {N : Nat} {c : Club} {kf : Club → Bool → Option Ret} (h : ClubOK c N) (h' : ClubOK c (N - 40)) (hN : 200 < N) (hl : c.2.2.2.2.2.1.length + 1 < N) : I23 N c kf = kf (stepPairM c).1 (stepPairM c).2 := by
 have hx := maxLen_eq
 have t1 := h'.tN
 have t2 := h'.jN
 have t3 := h'.tm
 have t4 := h'.jm
 have hj := h.jb
 have htm : ∀ x : Team, x ∈ c.1 → x.met.length ≤ maxLen ∧ x.met.length + 20 < N := fun x hx => ⟨(t3 x hx).1, by have := (t3 x hx).2; omega⟩
 have hjm : ∀ x ∈ c.2.1, x.2.2.length ≤ maxLen ∧ x.2.2.length + 20 < N := fun x hx => ⟨(t4 x hx).1, by have := (t4 x hx).2; omega⟩
 have hno : isClubM c = false → stepPairM c = (c, false) := fun hc => by
  have hd : ∀ out what who, doneB c out what who = false := fun out what who => by unfold doneB; rw [hc]; simp
  have hd2 : ∀ out what who, doneC c out what who = c := fun out what who => by unfold doneC; rw [hd]; rfl
  unfold stepPairM
  cases roundM c.1 with
  | none => rfl
  | some ps =>
   simp only []
   cases seatsM c.1 c.2.1 ps with
   | none => rfl
   | some ss =>
    simp only [hd, hd2]
    cases mayPair c <;> rfl
 have hno2 : mayPair c = false → stepPairM c = (c, false) := fun hc => by
  unfold stepPairM
  cases roundM c.1 with
  | none => rfl
  | some ps =>
   simp only []
   cases seatsM c.1 c.2.1 ps with
   | none => rfl
   | some ss =>
    simp only [hc]
    rfl
 unfold I23
 rw [I70_ok h, I39_ok h]
 cases hc : isClubM c with
 | false => rw [hno hc]; rfl
 | true =>
  unfold I16
  show (bif decide ((List.length c.2.2.1 : Int) > (0 : Int)) then _ else _) = _
  by_cases hrun : c.2.2.1.length = 0
  rotate_left
  ·rw [decide_eq_true (show (List.length c.2.2.1 : Int) > 0 by omega), cond_true, hno2 (by unfold mayPair; rw [decide_eq_false hrun]; rfl)]
  rw [decide_eq_false (show ¬ (List.length c.2.2.1 : Int) > 0 by omega), cond_false]
  by_cases h0 : c.1.length = 0
  ·have e : ((List.length c.1 : Int) == 0) = true := by simp [h0]
   rw [e, cond_true, hno2 (by unfold mayPair; rw [decide_eq_false (show ¬ 0 < c.1.length by omega)]; simp)]
  have e : ((List.length c.1 : Int) == 0) = false := by simp; intro q; exact h0 (by simp [q])
  have hmp : mayPair c = true := by unfold mayPair; rw [decide_eq_true hrun, decide_eq_true (show 0 < c.1.length by omega)]; rfl
  rw [e, cond_false, I101_ok h.tl htm (by omega) (by omega)]
  unfold ans stepPairM
  cases hr : roundM c.1 with
  | none =>
   simp only []
   rw [I102_ok h.tl htm (by omega) (by omega) hj (by omega) hjm (by simp)]
   unfold ans
   cases seatsM c.1 c.2.1 [] <;> rfl
  | some ps =>
   obtain ⟨l1, l2⟩ := roundM_len hr
   simp only []
   rw [I102_ok h.tl htm (by omega) (by omega) hj (by omega) hjm (by omega)]
   unfold ans
   have e0 : (decide ((List.length ps : Int) = (List.length ps : Int)) && decide ((0 : Int) ≤ (List.length ps : Int)) && decide ((List.length ps : Int) ≤ 1099511627776)) = true := by
    rw [decide_eq_true rfl, decide_eq_true (by omega), decide_eq_true (by omega)]; rfl
   have e0t : (decide True && decide ((0 : Int) ≤ (List.length ps : Int)) && decide ((List.length ps : Int) ≤ 1099511627776)) = true := by
    rw [decide_eq_true trivial, decide_eq_true (by omega), decide_eq_true (by omega)]; rfl
   cases hs : seatsM c.1 c.2.1 ps with
   | none => rfl
   | some ss =>
    have l3 := seatsM_len hs
    simp only [hmp, cond_true]
    first | rw [e0] | rw [e0t]
    simp only [cond_true, Bool.not_true, cond_false]
    exact I103_ok (out := pairC c ps ss) h (pairC_ok h (by omega) (by omega) (by omega)) rfl hN hl
theorem pairC_size {c : Club} {ps : List Pair} {ss : List Int} (hp : ps.length ≤ 5) (hs : ss.length ≤ 5) : sizeV tQLQIIIIILIELQIILIELQIIELILQIIIELQIIIIEIE (pairC c ps ss) ≤ sizeV tQLQIIIIILIELQIILIELQIIELILQIIIELQIIIIEIE c + 15 := by
 have h1 := sizeV_club (pairC c ps ss)
 have h2 := sizeV_club c
 have h3 : sizeV (.sl tQIIE) ps = ps.length := sizeV_sl (t := tQIIE) (by decide) _
 have h4 : sizeV (.sl (.int .i64)) ss = ss.length := sizeV_sl (t := .int .i64) (by decide) _
 have h5 : sizeV (.sl tQIIIE) (List.replicate ps.length ((0 : Int), ((0 : Int), (0 : Int)))) = (List.replicate ps.length ((0 : Int), ((0 : Int), (0 : Int)))).length := sizeV_sl (t := tQIIIE) (by decide) _
 rw [List.length_replicate] at h5
 simp only [pairC] at h1 ⊢
 omega
theorem done_size2 (c out : Club) (what who : Int) (k : Nat) (h : sizeV tQLQIIIIILIELQIILIELQIIELILQIIIELQIIIIEIE out ≤ sizeV tQLQIIIIILIELQIILIELQIIELILQIIIELQIIIIEIE c + k) (hm : sizeV (.sl tQIIIIE) out.2.2.2.2.2.1 = sizeV (.sl tQIIIIE) c.2.2.2.2.2.1) :
  sizeV tQLQIIIIILIELQIILIELQIIELILQIIIELQIIIIEIE (doneC c out what who) ≤ sizeV tQLQIIIIILIELQIILIELQIIELILQIIIELQIIIIEIE c + (k + 1) := by
 unfold doneC
 cases doneB c out what who with
 | false => show sizeV tQLQIIIIILIELQIILIELQIIELILQIIIELQIIIIEIE c ≤ _; omega
 | true =>
  show sizeV tQLQIIIIILIELQIILIELQIIELILQIIIELQIIIIEIE (withMin out _) ≤ _
  have h1 := sizeV_club (withMin out (writeM c.2.2.2.2.2.1 what who))
  have h2 := sizeV_club out
  have h3 := writeM_len c.2.2.2.2.2.1 what who
  have h4 : sizeV (.sl tQIIIIE) (writeM c.2.2.2.2.2.1 what who) = (writeM c.2.2.2.2.2.1 what who).length := sizeV_sl (t := tQIIIIE) (by decide) _
  have h5 : sizeV (.sl tQIIIIE) c.2.2.2.2.2.1 = c.2.2.2.2.2.1.length := sizeV_sl (t := tQIIIIE) (by decide) _
  simp only [withMin] at h1 ⊢
  omega
theorem stepPair_size (c : Club) : sizeV tQLQIIIIILIELQIILIELQIIELILQIIIELQIIIIEIE (stepPairM c).1 ≤ sizeV tQLQIIIIILIELQIILIELQIIELILQIIIELQIIIIEIE c + 16 := by
 unfold stepPairM
 cases hr : roundM c.1 with
 | none => show sizeV tQLQIIIIILIELQIILIELQIIELILQIIIELQIIIIEIE c ≤ _; omega
 | some ps =>
  obtain ⟨l1, l2⟩ := roundM_len hr
  simp only []
  cases hs : seatsM c.1 c.2.1 ps with
  | none => show sizeV tQLQIIIIILIELQIILIELQIIELILQIIIELQIIIIEIE c ≤ _; omega
  | some ss =>
   have l3 := seatsM_len hs
   simp only []
   cases mayPair c with
   | false => show sizeV tQLQIIIIILIELQIILIELQIIELILQIIIELQIIIIEIE c ≤ _; omega
   | true => exact done_size2 c (pairC c ps ss) 3 0 15 (pairC_size (by omega) (by omega)) rfl
theorem stepPair_same {N : Nat} {c : Club} (h : ClubOK c N) (h' : ClubOK c (N - 40)) (hN : 200 < N) (hl : c.2.2.2.2.2.1.length + 1 < N) : ∃ r b, sizeV tQLQIIIIILIELQIILIELQIIELILQIIIELQIIIIEIE r ≤ sizeV tQLQIIIIILIELQIILIELQIIELILQIIIELQIIIIEIE c + 16 ∧ (∀ k, S21 N c k = k r b) ∧ ∀ k, I23 N c k = k r b :=
 ⟨(stepPairM c).1, (stepPairM c).2, stepPair_size c, fun k => S21_ok h h' hN hl, fun k => I23_ok h h' hN hl⟩
theorem lawFnExactStepPair (c : Club) (h : wfs [tQLQIIIIILIELQIILIELQIIELILQIIIELQIIIIEIE] (c, ())) : ∃ N, ∀ kf, L4 N c kf = kf true := by
 refine ⟨2 * sizeV tQLQIIIIILIELQIILIELQIIELILQIIIELQIIIIEIE c + 300, fun kf => ?_⟩
 have hw : wf tQLQIIIIILIELQIILIELQIIELILQIIIELQIIIIEIE c := h.1
 unfold L4
 rw [L20_ok hw (by omega) (by omega) (by omega)]
 refine small_or (by omega) fun hb => ?_
 have hc := club_ok (N := 2 * sizeV tQLQIIIIILIELQIILIELQIIELILQIIIELQIIIIEIE c + 300) hw (by omega) (by omega)
 have hc' := club_ok (N := 2 * sizeV tQLQIIIIILIELQIILIELQIIELILQIIIELQIIIIEIE c + 300 - 40) hw (by omega) (by omega)
 have hml := sizeV_club c
 have hml2 := sizeV_len (t := tQIIIIE) c.2.2.2.2.2.1
 generalize hN : 2 * sizeV tQLQIIIIILIELQIILIELQIIELILQIIIELQIIIIEIE c + 300 = N at *
 obtain ⟨r, b, hrs, hS, hI⟩ : ∃ r b, sizeV tQLQIIIIILIELQIILIELQIIELILQIIIELQIIIIEIE r ≤ sizeV tQLQIIIIILIELQIILIELQIIELILQIIIELQIIIIEIE c + 16 ∧ (∀ k, S21 N c k = k r b) ∧ ∀ k, I23 N c k = k r b := stepPair_same hc hc' (by omega) (by omega)
 have h1 : ∀ k, L22 N c k = k c := fun k => L22_ok (by omega) (by omega)
 have mc := markT_le tQLQIIIIILIELQIILIELQIIELILQIIIELQIIIIEIE c 1 (by decide)
 have mr := markT_le tQLQIIIIILIELQIILIELQIIELILQIIIELQIIIIEIE r 1 (by decide)
 have e1 : decide ((markT tQLQIIIIILIELQIILIELQIIELILQIIIELQIIIIEIE c 1).2 < 0) = false := decide_eq_false (by omega)
 have e2 : decide ((markT tQLQIIIIILIELQIILIELQIIELILQIIIELQIIIIEIE r 1).2 < 0) = false := decide_eq_false (by omega)
 have h2 : ∀ k, L24 N c c k = k true := fun k => L24_ok (by omega) (by omega)
 have h3 : ∀ k, L24 N r r k = k true := fun k => L24_ok (by omega) (by omega)
 have h4 : ∀ k, L25 N c 1 k = k (markT tQLQIIIIILIELQIILIELQIIELILQIIIELQIIIIEIE c 1).2 (markT tQLQIIIIILIELQIILIELQIIELILQIIIELQIIIIEIE c 1).1 := fun k => L25_ok (by omega) (by omega) (by omega) (by omega)
 have h5 : ∀ k, L25 N r 1 k = k (markT tQLQIIIIILIELQIILIELQIIELILQIIIELQIIIIEIE r 1).2 (markT tQLQIIIIILIELQIILIELQIIELILQIIIELQIIIIEIE r 1).1 := fun k => L25_ok (by omega) (by omega) (by omega) (by omega)
 have h6 : ∀ k, L26 N (markT tQLQIIIIILIELQIILIELQIIELILQIIIELQIIIIEIE r 1).1 1 k = k (markT tQLQIIIIILIELQIILIELQIIELILQIIIELQIIIIEIE r 1).2 := fun k => L26_ok (by omega) (by omega) (by omega) (by omega)
 have he : ((markT tQLQIIIIILIELQIILIELQIIELILQIIIELQIIIIEIE r 1).1.1, ((markT tQLQIIIIILIELQIILIELQIIELILQIIIELQIIIIEIE r 1).1.2.1, ((markT tQLQIIIIILIELQIILIELQIIELILQIIIELQIIIIEIE r 1).1.2.2.1, ((markT tQLQIIIIILIELQIILIELQIIELILQIIIELQIIIIEIE r 1).1.2.2.2.1, ((markT tQLQIIIIILIELQIILIELQIIELILQIIIELQIIIIEIE r 1).1.2.2.2.2.1, ((markT tQLQIIIIILIELQIILIELQIIELILQIIIELQIIIIEIE r 1).1.2.2.2.2.2.1, r.2.2.2.2.2.2)))))) = (markT tQLQIIIIILIELQIILIELQIIELILQIIIELQIIIIEIE r 1).1 := rfl
 simp only [h1, hS, hI, h2, h3, h4, h5, he, h6, e1, e2, Bool.not_true, cond_false, bne_self_eq_false, beq_self_eq_true]
end Go.Pv.R
