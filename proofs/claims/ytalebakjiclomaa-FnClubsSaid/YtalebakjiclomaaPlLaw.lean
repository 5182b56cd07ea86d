/- The law over the plain functions. -/
import Derived.Test.YtalebakjiclomaaPlHz
namespace Go.Pv.R
set_option linter.unusedVariables false
set_option linter.unusedSimpArgs false
end Go.Pv.R
namespace Go.Pv.R
set_option linter.unusedVariables false
set_option linter.unusedSimpArgs false
theorem S69_ok {N : Nat} {a b c : Int} {kf : Bool → Option Ret} : S69 N a b c kf = kf (inR a b c) := by
 unfold S69 inR
 by_cases h : b ≤ a <;> simp [h]
theorem I19_ok {N : Nat} {a b c : Int} {kf : Bool → Option Ret} : I19 N a b c kf = kf (inR a b c) := by
 unfold I19 inR
 by_cases h : b ≤ a <;> simp [h]
end Go.Pv.R
namespace Go.Pv.R
set_option linter.unusedVariables false
set_option linter.unusedSimpArgs false
theorem tmod_both (a : Int) : (a.tmod 2147483647 = a % 2147483647 ∧ 0 ≤ a) ∨ (a.tmod 2147483647 = -((-a) % 2147483647) ∧ a < 0) := by
 rcases Int.lt_or_le a 0 with h | h
 ·right
  refine ⟨?_, h⟩
  have h1 : (-a).tmod 2147483647 = (-a) % 2147483647 := Int.tmod_eq_emod_of_nonneg (by omega)
  rw [Int.neg_tmod] at h1
  omega
 ·exact .inl ⟨Int.tmod_eq_emod_of_nonneg h, h⟩
theorem S82_ok {N : Nat} {a : Int} {kf : Int → Option Ret} : S82 N a 2147483647 kf = kf (a % 2147483647) := by
 unfold S82
 rw [S69_ok, show inR 2147483647 1 1000000000000 = true from by decide]
 have e : (decide ((2147483647 : Int) = 0)) = false := by decide
 simp only [Bool.not_true, cond_false, e, Bool.not_false, cond_true]
 congr 1
 rcases tmod_both a with ⟨h, h'⟩ | ⟨h, h'⟩ <;> rw [h, wrap64 (by omega) (by omega), Int.tmod_eq_emod_of_nonneg (by omega)] <;> omega
theorem I79_ok {N : Nat} {a : Int} {kf : Int → Option Ret} : I79 N a 2147483647 kf = kf (a % 2147483647) := by
 unfold I79
 rw [I19_ok, show inR 2147483647 1 1000000000000 = true from by decide]
 have e : (decide ((2147483647 : Int) = 0)) = false := by decide
 simp only [Bool.not_true, cond_false, e, Bool.not_false, cond_true]
 rcases tmod_both a with ⟨h, h'⟩ | ⟨h, h'⟩ <;> rw [h]
 ·rw [decide_eq_false (by omega), cond_false]
 ·by_cases hz : -((-a) % 2147483647) < 0
  ·rw [decide_eq_true hz, cond_true, wrap64 (by omega) (by omega)]
   congr 1
   omega
  ·rw [decide_eq_false hz, cond_false]
   congr 1
   omega
def foldM (i : Nat) (x s : Int) : Int := Int.tmod (IntKind.wrap .i64 ((IntKind.wrap .i64 ((IntKind.wrap .i64 (s * (1000003 : Int))) + x % 2147483647)) + (13 : Int))) (2147483647 : Int)
def hashM (l : List Int) : Int := foldI foldM l 0 11
theorem S81_ok {N : Nat} {l : List Int} {kf : Int → Option Ret} (hl : l.length ≤ maxLen) (hN : l.length < N) : S81 N l kf = kf (hashM l) := by
 unfold S81
 rw [S81_l3_r hl hN, goL1_f foldM (fun i x s next h e => by rw [S82_ok]; rfl)]
 rfl
theorem I56_ok {N : Nat} {l : List Int} {kf : Int → Option Ret} (hl : l.length ≤ maxLen) (hN : l.length < N) : I56 N l kf = kf (hashM l) := by
 unfold I56
 rw [I56_l3_r hl hN, goL1_f foldM (fun i x s next h e => by unfold I67; rw [I79_ok]; rfl)]
 rfl
def sealM (s : Int) (x : QIIIIE) : Int := hashM [s, x.1, x.2.1, x.2.2.1]
theorem S76_ok {N : Nat} {s : Int} {x : QIIIIE} {kf : Int → Option Ret} (hN : 4 < N) : S76 N s x kf = kf (sealM s x) := by
 unfold S76
 rw [S81_ok (by rw [maxLen_eq]; simp) (by simpa using hN)]
 rfl
theorem I36_ok {N : Nat} {s : Int} {x : QIIIIE} {kf : Int → Option Ret} (hN : 4 < N) : I36 N s x kf = kf (sealM s x) := by
 unfold I36
 rw [I56_ok (by rw [maxLen_eq]; simp) (by simpa using hN)]
 rfl
def minM : List QIIIIE → Nat → Int → Bool
 | [], _, _ => true
 | x :: r, i, s => (x.1 == ((i + 1 : Nat) : Int)) && inR x.2.1 1 9 && inR x.2.2.1 0 99 && (x.2.2.2 == sealM s x) && minM r (i + 1) x.2.2.2
def areMinM (l : List QIIIIE) : Bool := decide (l.length ≤ 200) && minM l 0 0
theorem S78_ok {N : Nat} {l : List QIIIIE} {kf : Bool → Option Ret} (hl : l.length ≤ maxLen) (hN : l.length < N) (h4 : 4 < N) : S78 N l kf = kf (areMinM l) := by
 unfold S78
 rw [S78_l3_r hl hN]
 by_cases hc : l.length ≤ 200
 ·have h1 : (decide ((l.length : Int) ≤ 200)) = true := decide_eq_true (by omega)
  have key : ∀ (r : List QIIIIE) (i : Nat) (s : Int), l.drop i = r → goL1 (fun (i : Nat) (x : QIIIIE) (x3_2 : Int) (next : Int → Option Ret) =>
    bif (decide ((List.length l : Int) ≤ (200 : Int))) then
     S76 N x3_2 x (fun (r23_5 : Int) =>
      bif (x.1 != (IntKind.wrap .i64 ((i : Int) + (1 : Int)))) then kf false
      else
       S69 N x.2.1 (1 : Int) (9 : Int) (fun (r32_6 : Bool) =>
        bif (!r32_6) then kf false
        else
         S69 N x.2.2.1 (0 : Int) (99 : Int) (fun (r38_7 : Bool) =>
          bif (!r38_7) then kf false
          else
           bif (x.2.2.2 != r23_5) then kf false
           else next r23_5)))
    else kf (decide ((List.length l : Int) ≤ (200 : Int)))) (fun (x3_2 : Int) => kf (decide ((List.length l : Int) ≤ (200 : Int)))) r i s = kf (minM r i s) := by
   intro r
   induction r with
   | nil => intro i s _; simp only [goL1, minM, h1]
   | cons x r ih =>
    intro i s hd
    have hlt : i < l.length := by have := congrArg List.length hd; simp at this; omega
    rw [List.drop_eq_getElem_cons hlt] at hd
    injection hd with e1 e2
    simp only [goL1, minM]
    simp only [ih (i + 1) _ e2]
    simp only [h1, cond_true, S76_ok h4, S69_ok, wrap_succ hlt hl]
    cases hx : (x.1 == ((i + 1 : Nat) : Int)) with
    | false => simp only [bne, hx, Bool.not_false, cond_true, Bool.false_and]
    | true =>
     simp only [bne, hx, Bool.not_true, cond_false, Bool.true_and]
     cases inR x.2.1 1 9 <;> simp
     cases inR x.2.2.1 0 99 <;> simp
     by_cases hs : x.2.2.2 = sealM s x
     ·simp [hs]
     ·have : (x.2.2.2 == sealM s x) = false := by simpa using hs
      simp [this]
  refine Eq.trans (key l 0 0 rfl) ?_
  unfold areMinM
  simp [hc]
 ·have h1 : (decide ((l.length : Int) ≤ 200)) = false := decide_eq_false (by omega)
  cases l with
  | nil => simp at hc
  | cons x r =>
   simp only [goL1, h1, cond_false]
   unfold areMinM
   rw [decide_eq_false hc]
   rfl
theorem I15_ok {N : Nat} {l : List QIIIIE} {kf : Bool → Option Ret} (hl : l.length ≤ maxLen) (hN : l.length < N) (h4 : 4 < N) : I15 N l kf = kf (areMinM l) := by
 unfold I15
 by_cases hc : l.length ≤ 200
 ·have h1 : (decide ((l.length : Int) > 200)) = false := decide_eq_false (by omega)
  rw [h1, cond_false, I15_l5_r hl hN]
  have key : ∀ (r : List QIIIIE) (i : Nat) (s : Int), l.drop i = r → goL1 (fun (i : Nat) (x : QIIIIE) (x3_1 : Int) (next : Int → Option Ret) =>
    bif (x.1 != (IntKind.wrap .i64 ((i : Int) + (1 : Int)))) then kf false
    else
     I19 N x.2.1 (1 : Int) (9 : Int) (fun (r24_6 : Bool) =>
      bif (!r24_6) then kf false
      else
       I19 N x.2.2.1 (0 : Int) (99 : Int) (fun (r30_7 : Bool) =>
        bif (!r30_7) then kf false
        else
         I36 N x3_1 x (fun (r38_8 : Int) =>
          bif (x.2.2.2 != r38_8) then kf false
          else next x.2.2.2)))) (fun (x3_1 : Int) => kf true) r i s = kf (minM r i s) := by
   intro r
   induction r with
   | nil => intro i s _; simp only [goL1, minM]
   | cons x r ih =>
    intro i s hd
    have hlt : i < l.length := by have := congrArg List.length hd; simp at this; omega
    rw [List.drop_eq_getElem_cons hlt] at hd
    injection hd with e1 e2
    simp only [goL1, minM]
    simp only [ih (i + 1) _ e2]
    simp only [I36_ok h4, I19_ok, wrap_succ hlt hl]
    cases hx : (x.1 == ((i + 1 : Nat) : Int)) with
    | false => simp only [bne, hx, Bool.not_false, cond_true, Bool.false_and]
    | true =>
     simp only [bne, hx, Bool.not_true, cond_false, Bool.true_and]
     cases inR x.2.1 1 9 <;> simp
     cases inR x.2.2.1 0 99 <;> simp
     by_cases hs : x.2.2.2 = sealM s x
     ·simp [hs]
     ·have : (x.2.2.2 == sealM s x) = false := by simpa using hs
      simp [this]
  refine Eq.trans (key l 0 0 rfl) ?_
  unfold areMinM
  simp [hc]
 ·have h1 : (decide ((l.length : Int) > 200)) = true := decide_eq_true (by omega)
  rw [h1, cond_true]
  unfold areMinM
  rw [decide_eq_false hc]
  rfl
end Go.Pv.R
namespace Go.Pv
set_option linter.unusedVariables false
set_option linter.unusedSimpArgs false
theorem findI_some {α : Type} {p : α → Bool} : ∀ {l : List α} {i k : Nat}, findI p l i = some k → ∃ j, ∃ h : j < l.length, k = i + j ∧ p l[j] = true ∧ ∀ j' (h' : j' < j), p (l[j']'(by omega)) = false
 | [], i, k, h => by cases h
 | x :: r, i, k, h => by
  simp only [findI] at h
  cases hp : p x with
  | true =>
   rw [hp] at h
   injection h with h
   exact ⟨0, by simp, by omega, hp, fun j' h' => by omega⟩
  | false =>
   rw [hp] at h
   obtain ⟨j, hj, e, h1, h2⟩ := findI_some (l := r) h
   refine ⟨j + 1, by simpa using hj, by omega, h1, fun j' h' => ?_⟩
   cases j' with
   | zero => exact hp
   | succ j' => exact h2 j' (by omega)
theorem findI_none {α : Type} {p : α → Bool} : ∀ {l : List α} {i : Nat}, findI p l i = none → ∀ j (h : j < l.length), p l[j] = false
 | [], i, h, j, hj => by simp at hj
 | x :: r, i, h, j, hj => by
  simp only [findI] at h
  cases hp : p x with
  | true => rw [hp] at h; cases h
  | false =>
   rw [hp] at h
   cases j with
   | zero => exact hp
   | succ j => exact findI_none (l := r) h j (by simpa using hj)
theorem goL_find {α : Type} {body : Nat → α → Option Ret → Option Ret} {kend : Option Ret} {kf : Nat → Option Ret} {p : α → Bool} (hb : ∀ (i : Nat) (x : α) (next : Option Ret), body i x next = bif p x then kf i else next) : ∀ (l : List α) (i : Nat), goL body kend l i = match findI p l i with
  | some k => kf k
  | none => kend
 | [], _ => rfl
 | x :: r, i => by
  simp only [goL, findI]
  rw [hb]
  cases p x
  ·exact goL_find hb r (i + 1)
  ·rfl
def findM {α : Type} (p : α → Bool) (l : List α) : Int := match findI p l 0 with
 | some k => (k : Int)
 | none => -1
theorem findM_pos {α : Type} {p : α → Bool} {l : List α} (h : ¬ findM p l < 0) : ∃ k : Nat, ∃ hk : k < l.length, findM p l = (k : Int) ∧ p l[k] = true ∧ ∀ j (hj : j < k), p (l[j]'(by omega)) = false := by
 unfold findM at *
 split at h
 ·rename_i k hk
  obtain ⟨j, hj, e, h1, h2⟩ := findI_some hk
  obtain rfl : k = j := by omega
  exact ⟨k, hj, rfl, h1, h2⟩
 ·omega
theorem findM_neg {α : Type} {p : α → Bool} {l : List α} (h : findM p l < 0) : findM p l = -1 ∧ ∀ j (hj : j < l.length), p l[j] = false := by
 unfold findM at *
 split at h
 ·omega
 ·rename_i hn
  exact ⟨rfl, findI_none hn⟩
theorem allI_and {α : Type} {p q : Nat → α → Bool} : ∀ {l : List α} {i : Nat}, allI (fun i x => p i x && q i x) l i = (allI p l i && allI q l i)
 | [], _ => rfl
 | x :: r, i => by
  simp only [allI, allI_and (l := r)]
  cases p i x <;> cases q i x <;> cases allI p r (i + 1) <;> simp
theorem allI_congr {α : Type} {p q : Nat → α → Bool} {l : List α} (h : ∀ (j : Nat) (hj : j < l.length), p j l[j] = q j l[j]) : allI p l 0 = allI q l 0 := by
 apply Bool.eq_iff_iff.2
 rw [allI_iff, allI_iff]
 constructor
 ·intro h1 j hj; have := h1 j hj; rw [Nat.zero_add] at *; rw [← h j hj]; exact this
 ·intro h1 j hj; have := h1 j hj; rw [Nat.zero_add] at *; rw [h j hj]; exact this
theorem wrap_pred {i m : Nat} (h0 : 0 < i) (h : i < m) (hm : m ≤ maxLen) : IntKind.wrap .i64 ((i : Int) - 1) = ((i - 1 : Nat) : Int) := by
 have := maxLen_eq
 rw [wrap64] <;> omega
end Go.Pv
namespace Go.Pv.R
set_option linter.unusedVariables false
set_option linter.unusedSimpArgs false
abbrev Team := QIIIIILIE
def findT (l : List Team) (id : Int) : Int := findM (fun x : Team => x.1 == id) l
theorem S68_ok {N : Nat} {l : List Team} {id : Int} {kf : Int → Option Ret} (hl : l.length ≤ maxLen) (hN : l.length < N) : S68 N l id kf = kf (findT l id) := by
 unfold S68
 rw [S68_l2_r hl hN, goL_find (p := fun x : Team => x.1 == id) (kf := fun i => kf (i : Int)) (fun i x next => rfl)]
 unfold findT findM
 cases findI (fun x : Team => x.1 == id) l 0 <;> rfl
theorem I34_ok {N : Nat} {l : List Team} {id : Int} {kf : Int → Option Ret} (hl : l.length ≤ maxLen) (hN : l.length < N) : I34 N l id kf = kf (findT l id) := by
 unfold I34 S54
 rw [S54_l2_r hl hN]
 simp only [I55]
 rw [goL_find (p := fun x : Team => x.1 == id) (kf := fun i => kf (i : Int)) (fun i x next => rfl)]
 unfold findT findM
 cases findI (fun x : Team => x.1 == id) l 0 <;> rfl
def countM (l : List Int) (n : Int) : Int := foldI (fun i x s => bif x == n then IntKind.wrap .i64 (s + 1) else s) l 0 0
theorem S70_ok {N : Nat} {l : List Int} {n : Int} {kf : Int → Option Ret} (hl : l.length ≤ maxLen) (hN : l.length < N) : S70 N l n kf = kf (countM l n) := by
 unfold S70
 rw [S70_l3_r hl hN, goL1_f (fun i x s => bif x == n then IntKind.wrap .i64 (s + 1) else s) (fun i x s next h e => by cases x == n <;> rfl)]
 rfl
theorem I35_ok {N : Nat} {l : List Int} {n : Int} {kf : Int → Option Ret} (hl : l.length ≤ maxLen) (hN : l.length < N) : I35 N l n kf = kf (countM l n) := by
 unfold I35
 rw [I35_l3_r hl hN, goL1_f (fun i x s => bif x == n then IntKind.wrap .i64 (s + 1) else s) (fun i x s next h e => by cases x == n <;> rfl)]
 rfl
abbrev Team.met (x : Team) : List Int := x.2.2.2.2.2
def teamP (l : List Team) (i : Nat) (x : Team) : Bool := inR x.1 1 99 && (inR x.2.1 1 99 && (inR x.2.2.1 0 x.met.length && (inR x.2.2.2.2.1 0 x.met.length && (inR x.2.2.2.1 0 100000 && (decide (x.met.length ≤ 20) && (decide (i = 0) || decide ((l.getD (i - 1) zQIIIIILIE).1 < x.1)))))))
def metP (l : List Team) (x : Team) (id : Int) : Bool := !decide (findT l id < 0) && (!(id == x.1) && (countM x.met id == countM (l.getD (findT l id).toNat zQIIIIILIE).met x.1))
def areTeamsM (l : List Team) : Bool := decide (l.length ≤ 10) && (allI (teamP l) l 0 && allI (fun _ x => x.met.all (metP l x)) l 0)
def metS (l : List Team) (i : Nat) (x : Team) (id : Int) : Bool := !decide (findT l id < 0) && (!(findT l id == (i : Int)) && (countM (l.getD (findT l id).toNat zQIIIIILIE).met x.1 == countM x.met (l.getD (findT l id).toNat zQIIIIILIE).1))
theorem allI_all {α : Type} {p : α → Bool} : ∀ {l : List α} {i : Nat}, allI (fun _ x => p x) l i = l.all p
 | [], _ => rfl
 | x :: r, i => by simp only [allI, List.all_cons, allI_all (l := r)]
theorem teams_mono {l : List Team} (h : allI (teamP l) l 0 = true) : ∀ (j i : Nat) (hi : i < l.length), j < i → (l.getD j zQIIIIILIE).1 < l[i].1 := by
 rw [allI_iff] at h
 have step : ∀ (i : Nat) (hi : i < l.length), 0 < i → (l.getD (i - 1) zQIIIIILIE).1 < l[i].1 := fun i hi h0 => by
  have := h i hi
  rw [Nat.zero_add] at this
  simp only [teamP, Bool.and_eq_true, Bool.or_eq_true, decide_eq_true_eq] at this
  omega
 intro j i hi hji
 induction i with
 | zero => omega
 | succ i ih =>
  have h1 := step (i + 1) hi (by omega)
  rw [Nat.add_sub_cancel, getD_nat _ _ (show i < l.length by omega)] at h1
  rcases Nat.lt_or_eq_of_le (Nat.le_of_lt_succ hji) with h2 | rfl
  ·have := ih (by omega) h2; omega
  ·rw [getD_nat _ _ (by omega)]; exact h1
theorem findT_self {l : List Team} (h : allI (teamP l) l 0 = true) {i : Nat} (hi : i < l.length) {id : Int} : findT l id = (i : Int) ↔ id = l[i].1 := by
 constructor
 ·intro e
  obtain ⟨k, hk, e1, h1, _⟩ := findM_pos (p := fun x : Team => x.1 == id) (l := l) (by unfold findT at e; omega)
  unfold findT at e
  obtain rfl : k = i := by omega
  exact (beq_iff_eq.1 h1).symm
 ·rintro rfl
  unfold findT
  by_cases hn : findM (fun x : Team => x.1 == l[i].1) l < 0
  ·have := (findM_neg hn).2 i hi
   simp at this
  ·obtain ⟨k, hk, e1, h1, h2⟩ := findM_pos hn
   rw [e1]
   have h1 : l[k].1 = l[i].1 := by simpa using h1
   rcases Nat.lt_trichotomy k i with hlt | rfl | hlt
   ·have := teams_mono h k i hi hlt
    rw [getD_nat _ _ hk] at this
    omega
   ·rfl
   ·have := h2 i hlt
    simp at this
theorem metS_eq {l : List Team} (h : allI (teamP l) l 0 = true) {i : Nat} (hi : i < l.length) (id : Int) : metS l i l[i] id = metP l l[i] id := by
 unfold metS metP
 by_cases hn : findT l id < 0
 ·simp [hn]
 ·rw [decide_eq_false hn, Bool.not_false, Bool.true_and, Bool.true_and]
  have e1 : (findT l id == (i : Int)) = (id == l[i].1) := by
   apply Bool.eq_iff_iff.2
   rw [beq_iff_eq, beq_iff_eq]
   exact findT_self h hi
  rw [e1]
  obtain ⟨k, hk, e2, h2, _⟩ := findM_pos (p := fun x : Team => x.1 == id) hn
  have e3 : findT l id = (k : Int) := e2
  rw [e3, Int.toNat_natCast, getD_nat _ _ hk, show l[k].1 = id by simpa using h2]
  congr 1
  apply Bool.eq_iff_iff.2
  rw [beq_iff_eq, beq_iff_eq]
  exact ⟨fun h => h.symm, fun h => h.symm⟩
theorem teams_alike (l : List Team) : (allI (fun i x => teamP l i x && x.met.all (metS l i x)) l 0 && decide (l.length ≤ 10)) = areTeamsM l := by
 unfold areTeamsM
 rw [allI_and]
 cases h : allI (teamP l) l 0 with
 | false => simp
 | true =>
  have : allI (fun i x => x.met.all (metS l i x)) l 0 = allI (fun _ x => x.met.all (metP l x)) l 0 := allI_congr fun j hj => by
   congr 1
   funext id
   exact metS_eq h hj id
  rw [this]
  cases decide (l.length ≤ 10) <;> simp
theorem S60_ok {N : Nat} {l : List Team} {kf : Bool → Option Ret} (hl : l.length ≤ maxLen) (hm : ∀ x ∈ l, x.met.length ≤ maxLen ∧ x.met.length < N) (hN : l.length < N) : S60 N l kf = kf (areTeamsM l) := by
 unfold S60
 rw [S60_l2_r hl hN, goL_all (l := l) (p := fun i x => teamP l i x && x.met.all (metS l i x)) (kf := kf false) (fun i x next h e => ?_) l 0 rfl, ← teams_alike]
 ·cases allI (fun i x => teamP l i x && x.met.all (metS l i x)) l 0
  ·rfl
  ·simp only [cond_true, Bool.true_and]
   congr 1
   apply Bool.eq_iff_iff.2
   simp
   omega
 ·have hx : x ∈ l := by rw [← e]; exact List.getElem_mem h
  obtain ⟨m1, m2⟩ := hm x hx
  have inner : S60_l8 N l (i : Int) x N next kf (0 : Int) = bif x.met.all (metS l i x) then next else kf false := by
   rw [S60_l8_r m1 m2, goL_all (l := x.met) (p := fun _ id => metS l i x id) (kf := kf false) (fun j id next' hj ej => ?_) x.met 0 rfl, allI_all]
   rw [S68_ok hl hN]
   unfold metS
   by_cases hn : findT l id < 0
   ·simp [hn]
   ·rw [decide_eq_false hn, cond_false, Bool.not_false, Bool.true_and]
    cases hf : findT l id == (i : Int)
    ·obtain ⟨k, hk, e2, h2, _⟩ := findM_pos (p := fun x : Team => x.1 == id) hn
     have e3 : findT l id = (k : Int) := e2
     obtain ⟨q1, q2⟩ := hm l[k] (List.getElem_mem hk)
     rw [cond_false, e3, inB_nat hk, cond_true, cond_true, Int.toNat_natCast, getD_nat _ _ hk, S70_ok q1 q2, S70_ok m1 m2]
     cases hc : (countM l[k].met x.1 == countM x.met l[k].1) <;> simp [bne, hc]
    ·simp
  have ord : ∀ A B : Option Ret, (bif (decide ((i : Int) > (0 : Int))) then
    bif (inB (IntKind.wrap .i64 ((i : Int) - (1 : Int))) (List.length l)) then
     bif (decide ((List.getD l (Int.toNat (IntKind.wrap .i64 ((i : Int) - (1 : Int)))) zQIIIIILIE).1 ≥ x.1)) then A else B
    else none
   else B) = bif (decide (i = 0) || decide ((l.getD (i - 1) zQIIIIILIE).1 < x.1)) then B else A := fun A B => by
   by_cases h0 : i = 0
   ·subst h0; simp
   ·rw [decide_eq_true (show (i : Int) > 0 by omega), cond_true, wrap_pred (by omega) h hl, inB_nat (by omega), cond_true, Int.toNat_natCast, decide_eq_false h0, Bool.false_or]
    by_cases hc : (l.getD (i - 1) zQIIIIILIE).1 < x.1
    ·rw [decide_eq_false (by omega), decide_eq_true hc]; rfl
    ·rw [decide_eq_true (by omega), decide_eq_false hc]; rfl
  simp only [S69_ok, inner, ord]
  unfold teamP
  cases inR x.1 1 99 <;> simp
  cases inR x.2.1 1 99 <;> simp
  cases inR x.2.2.1 0 x.met.length <;> simp
  cases inR x.2.2.2.2.1 0 x.met.length <;> simp
  cases inR x.2.2.2.1 0 100000 <;> simp
  by_cases h20 : x.met.length ≤ 20
  ·rw [decide_eq_false (show ¬ (20 : Int) < (x.met.length : Int) by omega), decide_eq_true h20]
   simp
   cases (decide (i = 0) || decide ((l[i - 1]?.getD zQIIIIILIE).1 < x.1)) <;> simp
  ·rw [decide_eq_true (show (20 : Int) < (x.met.length : Int) by omega), decide_eq_false h20]
   simp
theorem I13_ok {N : Nat} {l : List Team} {kf : Bool → Option Ret} (hl : l.length ≤ maxLen) (hm : ∀ x ∈ l, x.met.length ≤ maxLen ∧ x.met.length < N) (hN : l.length < N) : I13 N l kf = kf (areTeamsM l) := by
 unfold I13
 by_cases h10 : l.length ≤ 10
 rotate_left
 ·rw [decide_eq_true (by omega), cond_true]
  unfold areTeamsM
  rw [decide_eq_false h10]
  rfl
 rw [decide_eq_false (by omega), cond_false]
 rw [I13_l4_r hl hN, goL_all (l := l) (p := fun i x => teamP l i x && x.met.all (metP l x)) (kf := kf false) (fun i x next h e => ?_) l 0 rfl]
 ·unfold areTeamsM
  rw [decide_eq_true h10, Bool.true_and, allI_and]
  cases (allI (teamP l) l 0 && allI (fun _ x => x.met.all (metP l x)) l 0) <;> rfl
 ·have hx : x ∈ l := by rw [← e]; exact List.getElem_mem h
  obtain ⟨m1, m2⟩ := hm x hx
  have inner : I13_l10 N l x l (List.length l : Int) (i : Int) x.2.2.2.2.2 (List.length x.2.2.2.2.2 : Int) N next kf (0 : Int) = bif x.met.all (metP l x) then next else kf false := by
   rw [I13_l10_r m1 m2, goL_all (l := x.met) (p := fun _ id => metP l x id) (kf := kf false) (fun j id next' hj ej => ?_) x.met 0 rfl, allI_all]
   rw [I34_ok hl hN]
   unfold metP
   by_cases hn : findT l id < 0
   ·simp [hn]
   ·rw [decide_eq_false hn, cond_false, Bool.not_false, Bool.true_and]
    cases hf : id == x.1
    ·obtain ⟨k, hk, e2, h2, _⟩ := findM_pos (p := fun x : Team => x.1 == id) hn
     have e3 : findT l id = (k : Int) := e2
     obtain ⟨q1, q2⟩ := hm l[k] (List.getElem_mem hk)
     rw [cond_false, e3, inB_nat hk, cond_true, Int.toNat_natCast, getD_nat _ _ hk, I35_ok m1 m2, I35_ok q1 q2]
     cases hc : (countM x.met id == countM l[k].met x.1) <;> simp [bne, hc]
    ·simp
  have ord : ∀ A B : Option Ret, (bif (decide ((i : Int) > (0 : Int))) then
    bif (inB (IntKind.wrap .i64 ((i : Int) - (1 : Int))) (List.length l)) then
     bif (decide (x.1 ≤ (List.getD l (Int.toNat (IntKind.wrap .i64 ((i : Int) - (1 : Int)))) zQIIIIILIE).1)) then A else B
    else none
   else B) = bif (decide (i = 0) || decide ((l.getD (i - 1) zQIIIIILIE).1 < x.1)) then B else A := fun A B => by
   by_cases h0 : i = 0
   ·subst h0; simp
   ·rw [decide_eq_true (show (i : Int) > 0 by omega), cond_true, wrap_pred (by omega) h hl, inB_nat (by omega), cond_true, Int.toNat_natCast, decide_eq_false h0, Bool.false_or]
    by_cases hc : (l.getD (i - 1) zQIIIIILIE).1 < x.1
    ·rw [decide_eq_false (by omega), decide_eq_true hc]; rfl
    ·rw [decide_eq_true (by omega), decide_eq_false hc]; rfl
  simp only [I19_ok, inner, ord]
  unfold teamP
  cases inR x.1 1 99 <;> simp
  cases (decide (i = 0) || decide ((l[i - 1]?.getD zQIIIIILIE).1 < x.1)) <;> simp
  cases inR x.2.1 1 99 <;> simp
  by_cases h20 : x.met.length ≤ 20
  ·rw [decide_eq_false (show ¬ (20 : Int) < (x.met.length : Int) by omega), decide_eq_true h20]
   simp
   cases inR x.2.2.1 0 x.met.length <;> simp
   cases inR x.2.2.2.2.1 0 x.met.length <;> simp
   cases inR x.2.2.2.1 0 100000 <;> simp
  ·rw [decide_eq_true (show (20 : Int) < (x.met.length : Int) by omega), decide_eq_false h20]
   simp
end Go.Pv.R
namespace Go.Pv
set_option linter.unusedVariables false
set_option linter.unusedSimpArgs false
def gatherI {α β : Type} (c : Nat → α → Bool) (f : Nat → α → β) : List α → Nat → List β
 | [], _ => []
 | x :: r, i => bif c i x then f i x :: gatherI c f r (i + 1) else gatherI c f r (i + 1)
theorem gatherI_len {α β : Type} {c : Nat → α → Bool} {f : Nat → α → β} : ∀ (l : List α) (i : Nat), (gatherI c f l i).length ≤ l.length
 | [], _ => Nat.le_refl _
 | x :: r, i => by
  simp only [gatherI]
  have := gatherI_len (c := c) (f := f) r (i + 1)
  cases c i x <;> simp <;> omega
theorem goL1_gather {α β : Type} {body : Nat → α → List β → (List β → Option Ret) → Option Ret} {kend : List β → Option Ret} {c : Nat → α → Bool} {f : Nat → α → β} {l : List α}
  (hb : ∀ (i : Nat) (x : α) (s : List β) (next : List β → Option Ret) (h : i < l.length), l[i] = x → s.length ≤ i → body i x s next = bif c i x then next (s ++ [f i x]) else next s) :
  ∀ (r : List α) (i : Nat) (s : List β), l.drop i = r → s.length ≤ i → goL1 body kend r i s = kend (s ++ gatherI c f r i)
 | [], i, s, _, _ => by simp [goL1, gatherI]
 | x :: r, i, s, hd, hs => by
  have hlt : i < l.length := by have := congrArg List.length hd; simp at this; omega
  rw [List.drop_eq_getElem_cons hlt] at hd
  injection hd with h1 h2
  simp only [goL1, gatherI]
  rw [hb i x s _ hlt h1 hs]
  cases c i x
  ·rw [cond_false, cond_false]
   exact goL1_gather hb r (i + 1) s h2 (by omega)
  ·rw [cond_true, cond_true, goL1_gather hb r (i + 1) (s ++ [f i x]) h2 (by simp; omega)]
   simp
theorem findM_any {α : Type} (p : α → Bool) (l : List α) : decide (findM p l ≥ 0) = l.any p := by
 by_cases h : findM p l < 0
 ·rw [decide_eq_false (by omega)]
  symm
  rw [List.any_eq_false]
  intro x hx
  obtain ⟨j, hj, rfl⟩ := List.mem_iff_getElem.1 hx
  rw [(findM_neg h).2 j hj]
  simp
 ·rw [decide_eq_true (by omega)]
  symm
  rw [List.any_eq_true]
  obtain ⟨k, hk, _, h1, _⟩ := findM_pos h
  exact ⟨l[k], List.getElem_mem hk, h1⟩
theorem countI_eq (n : Int) : ∀ (l : List Int) (i : Nat) (s : Nat), s + l.length ≤ maxLen → foldI (fun _ x s => bif x == n then IntKind.wrap .i64 (s + 1) else s) l i (s : Int) = ((s + l.count n : Nat) : Int)
 | [], _, _, _ => by simp [foldI]
 | x :: r, i, s, h => by
  simp only [foldI, List.count_cons]
  simp only [List.length_cons] at h
  have := maxLen_eq
  cases hx : x == n with
  | false => simp only [cond_false]; rw [countI_eq n r (i + 1) s (by omega)]; simp
  | true =>
   simp only [cond_true, if_true]
   rw [wrap64 (by omega) (by omega), show ((s : Int) + 1) = ((s + 1 : Nat) : Int) by omega, countI_eq n r (i + 1) (s + 1) (by omega)]
   congr 1
   omega
end Go.Pv
namespace Go.Pv.R
set_option linter.unusedVariables false
set_option linter.unusedSimpArgs false
abbrev Judge := QIILIE
abbrev Pair := QIIE
theorem countM_eq {l : List Int} {n : Int} (h : l.length ≤ maxLen) : countM l n = (l.count n : Int) := by
 have := countI_eq n l 0 0 (by omega)
 rw [Nat.zero_add] at this
 exact this
def hasM (l : List Int) (n : Int) : Bool := l.any fun x => x == n
theorem hasM_iff {l : List Int} {n : Int} : hasM l n = true ↔ n ∈ l := by
 unfold hasM
 rw [List.any_eq_true]
 constructor
 ·rintro ⟨x, hx, h⟩
  have : x = n := by simpa using h
  exact this ▸ hx
 ·intro h; exact ⟨n, h, by simp⟩
theorem S74_ok {N : Nat} {l : List Int} {n : Int} {kf : Bool → Option Ret} (hl : l.length ≤ maxLen) (hN : l.length < N) : S74 N l n kf = kf (hasM l n) := by
 unfold S74
 rw [S74_l2_r hl hN, goL_find (p := fun x : Int => x == n) (kf := fun _ => kf true) (fun i x next => rfl)]
 unfold hasM
 rw [← findM_any]
 unfold findM
 cases findI (fun x : Int => x == n) l 0
 ·rfl
 ·rw [decide_eq_true (by simp)]
theorem S40_ok {N : Nat} {l : List Int} {n : Int} {kf : Bool → Option Ret} (hl : l.length ≤ maxLen) (hN : l.length < N) : S40 N l n kf = kf (hasM l n) := by
 unfold S40 S58
 rw [S58_l2_r hl hN, goL_find (p := fun x : Int => n == x) (kf := fun i => kf (decide ((i : Int) ≥ 0))) (fun i x next => rfl)]
 have e : hasM l n = l.any fun x => n == x := by
  unfold hasM
  congr 1
  funext x
  apply Bool.eq_iff_iff.2
  rw [beq_iff_eq, beq_iff_eq]
  exact ⟨fun h => h.symm, fun h => h.symm⟩
 rw [e, ← findM_any]
 unfold findM
 cases findI (fun x : Int => n == x) l 0 <;> rfl
def findJ (l : List Judge) (id : Int) : Int := findM (fun x : Judge => x.1 == id) l
theorem S38_ok {N : Nat} {l : List Judge} {id : Int} {kf : Int → Option Ret} (hl : l.length ≤ maxLen) (hN : l.length < N) : S38 N l id kf = kf (findJ l id) := by
 unfold S38
 rw [S38_l2_r hl hN]
 simp only [I39]
 rw [goL_find (p := fun x : Judge => x.1 == id) (kf := fun i => kf (i : Int)) (fun i x next => rfl)]
 unfold findJ findM
 cases findI (fun x : Judge => x.1 == id) l 0 <;> rfl
def seenP (s : List Int) : Bool := allI (fun i y => inR y 1 99 && (decide (i = 0) || decide (s.getD (i - 1) 0 < y))) s 0
def judgeP (l : List Judge) (i : Nat) (x : Judge) : Bool := inR x.1 1 99 && (inR x.2.1 1 99 && ((decide (i = 0) || decide ((l.getD (i - 1) zQIILIE).1 < x.1)) && seenP x.2.2))
def areJudgesM (l : List Judge) : Bool := decide (l.length ≤ 10) && allI (judgeP l) l 0
theorem ord_ok {α : Type} {l : List α} {i : Nat} {z : α} {g : α → Int} {y : Int} {A B : Option Ret} (hi : i < l.length) (hl : l.length ≤ maxLen) : (bif (decide ((i : Int) > (0 : Int))) then
    bif (inB (IntKind.wrap .i64 ((i : Int) - (1 : Int))) (List.length l)) then
     bif (decide (y ≤ g (List.getD l (Int.toNat (IntKind.wrap .i64 ((i : Int) - (1 : Int)))) z))) then A else B
    else none
   else B) = bif (decide (i = 0) || decide (g (l.getD (i - 1) z) < y)) then B else A := by
 by_cases h0 : i = 0
 ·subst h0; simp
 ·rw [decide_eq_true (show (i : Int) > 0 by omega), cond_true, wrap_pred (by omega) hi hl, inB_nat (by omega), cond_true, Int.toNat_natCast, decide_eq_false h0, Bool.false_or]
  by_cases hc : g (l.getD (i - 1) z) < y
  ·rw [decide_eq_false (by omega), decide_eq_true hc]; rfl
  ·rw [decide_eq_true (by omega), decide_eq_false hc]; rfl
theorem ord_ok2 {α : Type} {l : List α} {i : Nat} {z : α} {g : α → Int} {y : Int} {A B : Option Ret} (hi : i < l.length) (hl : l.length ≤ maxLen) : (bif (decide ((i : Int) > (0 : Int))) then
    bif (inB (IntKind.wrap .i64 ((i : Int) - (1 : Int))) (List.length l)) then
     bif (decide (g (List.getD l (Int.toNat (IntKind.wrap .i64 ((i : Int) - (1 : Int)))) z) ≥ y)) then A else B
    else none
   else B) = bif (decide (i = 0) || decide (g (l.getD (i - 1) z) < y)) then B else A := ord_ok hi hl
theorem S63_ok {N : Nat} {l : List Judge} {kf : Bool → Option Ret} (hl : l.length ≤ maxLen) (hm : ∀ x ∈ l, x.2.2.length ≤ maxLen ∧ x.2.2.length < N) (hN : l.length < N) : S63 N l kf = kf (areJudgesM l) := by
 unfold S63
 rw [S63_l2_r hl hN, goL_all (l := l) (p := judgeP l) (kf := kf false) (fun i x next h e => ?_) l 0 rfl]
 ·unfold areJudgesM
  cases allI (judgeP l) l 0
  ·simp
  ·simp only [cond_true, Bool.and_true]
   congr 1
   apply Bool.eq_iff_iff.2
   simp
   omega
 ·have hx : x ∈ l := by rw [← e]; exact List.getElem_mem h
  obtain ⟨m1, m2⟩ := hm x hx
  have inner : S63_l7 N l (i : Int) N next kf (0 : Int) = bif seenP x.2.2 then next else kf false := by
   have hg : List.getD l (Int.toNat (i : Int)) zQIILIE = x := by rw [Int.toNat_natCast, getD_nat _ _ h, e]
   rw [S63_l7_r (inB_nat h) (by rw [hg]; exact m1) (by rw [hg]; exact m2)]
   simp only [hg]
   rw [goL_all (l := x.2.2) (p := fun i y => inR y 1 99 && (decide (i = 0) || decide (x.2.2.getD (i - 1) 0 < y))) (kf := kf false) (fun j y next' hj ej => ?_) x.2.2 0 rfl]
   ·rfl
   ·rw [S69_ok]
    have := ord_ok2 (l := x.2.2) (z := (0 : Int)) (g := fun x => x) (y := y) (A := kf false) (B := next') hj m1
    rw [this]
    cases inR y 1 99 <;> simp
  simp only [S69_ok, inner]
  have ho := fun A B => ord_ok2 (l := l) (z := zQIILIE) (g := fun x => x.1) (y := x.1) (A := A) (B := B) h hl
  simp only [ho]
  unfold judgeP
  cases inR x.1 1 99 <;> simp
  cases inR x.2.1 1 99 <;> simp
  cases (decide (i = 0) || decide ((l[i - 1]?.getD zQIILIE).1 < x.1)) <;> simp
theorem I14_ok {N : Nat} {l : List Judge} {kf : Bool → Option Ret} (hl : l.length ≤ maxLen) (hm : ∀ x ∈ l, x.2.2.length ≤ maxLen ∧ x.2.2.length < N) (hN : l.length < N) : I14 N l kf = kf (areJudgesM l) := by
 unfold I14
 by_cases h10 : l.length ≤ 10
 rotate_left
 ·rw [decide_eq_true (by omega), cond_true]
  unfold areJudgesM
  rw [decide_eq_false h10]
  rfl
 rw [decide_eq_false (by omega), cond_false]
 rw [I14_l4_r hl hN, goL_all (l := l) (p := judgeP l) (kf := kf false) (fun i x next h e => ?_) l 0 rfl]
 ·unfold areJudgesM
  rw [decide_eq_true h10, Bool.true_and]
  cases allI (judgeP l) l 0 <;> rfl
 ·have hx : x ∈ l := by rw [← e]; exact List.getElem_mem h
  obtain ⟨m1, m2⟩ := hm x hx
  have inner : I14_l9 N l x l (List.length l : Int) (i : Int) x.2.2 (List.length x.2.2 : Int) N next kf (0 : Int) = bif seenP x.2.2 then next else kf false := by
   rw [I14_l9_r m1 m2]
   rw [goL_all (l := x.2.2) (p := fun i y => inR y 1 99 && (decide (i = 0) || decide (x.2.2.getD (i - 1) 0 < y))) (kf := kf false) (fun j y next' hj ej => ?_) x.2.2 0 rfl]
   ·rfl
   ·rw [I19_ok]
    have := ord_ok (l := x.2.2) (z := (0 : Int)) (g := fun x => x) (y := y) (A := kf false) (B := next') hj m1
    rw [this]
    cases inR y 1 99 <;> simp
  simp only [I19_ok, inner]
  have ho := fun A B => ord_ok (l := l) (z := zQIILIE) (g := fun x => x.1) (y := x.1) (A := A) (B := B) h hl
  simp only [ho]
  unfold judgeP
  cases inR x.1 1 99 <;> simp
  cases inR x.2.1 1 99 <;> simp
  cases (decide (i = 0) || decide ((l[i - 1]?.getD zQIILIE).1 < x.1)) <;> simp
def clubT (l : List Team) (id : Int) : Int := (l.getD (findT l id).toNat zQIIIIILIE).2.1
def metT (l : List Team) (id : Int) : List Int := (l.getD (findT l id).toNat zQIIIIILIE).met
def haveMetM (l : List Team) (a b : Int) : Bool := decide (findT l a ≥ 0) && hasM (metT l a) b
def mayMeetM (l : List Team) (a b : Int) : Bool := areTeamsM l && (decide (findT l a ≥ 0) && (decide (findT l b ≥ 0) && ((findT l a != findT l b) && ((clubT l a != clubT l b) && !haveMetM l a b))))
theorem findT_in {l : List Team} {id : Int} (h : findT l id ≥ 0) : inB (findT l id) l.length = true ∧ (findT l id).toNat < l.length := by
 obtain ⟨k, hk, e, _⟩ := findM_pos (p := fun x : Team => x.1 == id) (l := l) (by unfold findT at h; omega)
 have e : findT l id = (k : Int) := e
 rw [e]
 exact ⟨inB_nat hk, by simpa using hk⟩
theorem S80_ok {N : Nat} {l : List Team} {a b : Int} {kf : Bool → Option Ret} (hl : l.length ≤ maxLen) (hm : ∀ x ∈ l, x.met.length ≤ maxLen ∧ x.met.length < N) (hN : l.length < N) : S80 N l a b kf = kf (haveMetM l a b) := by
 unfold S80 haveMetM
 rw [S68_ok hl hN]
 by_cases h : findT l a ≥ 0
 ·obtain ⟨h1, h2⟩ := findT_in h
  have hx : l.getD (findT l a).toNat zQIIIIILIE ∈ l := by rw [getD_nat _ _ h2]; exact List.getElem_mem h2
  obtain ⟨m1, m2⟩ := hm _ hx
  rw [decide_eq_true h, cond_true, h1, cond_true, S74_ok m1 m2]
  rfl
 ·rw [decide_eq_false h]; rfl
theorem I57_ok {N : Nat} {l : List Team} {a b : Int} {kf : Bool → Option Ret} (hl : l.length ≤ maxLen) (hm : ∀ x ∈ l, x.met.length ≤ maxLen ∧ x.met.length < N) (hN : l.length < N) : I57 N l a b kf = kf (haveMetM l a b) := by
 unfold I57 haveMetM
 rw [I34_ok hl hN]
 by_cases h : findT l a ≥ 0
 ·obtain ⟨h1, h2⟩ := findT_in h
  have hx : l.getD (findT l a).toNat zQIIIIILIE ∈ l := by rw [getD_nat _ _ h2]; exact List.getElem_mem h2
  obtain ⟨m1, m2⟩ := hm _ hx
  rw [decide_eq_true h, cond_true, h1, cond_true, S40_ok m1 m2]
  rfl
 ·rw [decide_eq_false h]; rfl
theorem S71_ok {N : Nat} {l : List Team} {a b : Int} {kf : Bool → Option Ret} (hl : l.length ≤ maxLen) (hm : ∀ x ∈ l, x.met.length ≤ maxLen ∧ x.met.length < N) (hN : l.length < N) : S71 N l a b kf = kf (mayMeetM l a b) := by
 unfold S71 mayMeetM
 rw [S68_ok hl hN, S68_ok hl hN, S60_ok hl hm hN]
 cases areTeamsM l
 ·rfl
 by_cases ha : findT l a ≥ 0
 rotate_left
 ·rw [decide_eq_false ha]; rfl
 by_cases hb : findT l b ≥ 0
 rotate_left
 ·rw [decide_eq_true ha, decide_eq_false hb]; rfl
 rw [decide_eq_true ha, decide_eq_true hb, (findT_in ha).1, (findT_in hb).1, S80_ok hl hm hN]
 simp only [cond_true, Bool.true_and]
 cases findT l a != findT l b
 ·rfl
 unfold clubT
 cases (l.getD (findT l a).toNat zQIIIIILIE).2.1 != (l.getD (findT l b).toNat zQIIIIILIE).2.1 <;> rfl
theorem I37_ok {N : Nat} {l : List Team} {a b : Int} {kf : Bool → Option Ret} (hl : l.length ≤ maxLen) (hm : ∀ x ∈ l, x.met.length ≤ maxLen ∧ x.met.length < N) (hN : l.length < N) : I37 N l a b kf = kf (mayMeetM l a b) := by
 unfold I37 mayMeetM
 rw [I34_ok hl hN, I34_ok hl hN, I13_ok hl hm hN]
 cases areTeamsM l
 ·rfl
 by_cases ha : findT l a ≥ 0
 rotate_left
 ·rw [decide_eq_false ha]; rfl
 by_cases hb : findT l b ≥ 0
 rotate_left
 ·rw [decide_eq_true ha, decide_eq_false hb]; rfl
 rw [decide_eq_true ha, decide_eq_true hb, (findT_in ha).1, (findT_in hb).1, I57_ok hl hm hN]
 simp only [cond_true, Bool.true_and]
 cases findT l a != findT l b
 ·rfl
 unfold clubT
 cases (l.getD (findT l a).toNat zQIIIIILIE).2.1 != (l.getD (findT l b).toNat zQIIIIILIE).2.1 <;> rfl
def okFor (t : List Team) (j : Judge) (id : Int) : Bool := decide (findT t id ≥ 0) && ((clubT t id != j.2.1) && !hasM j.2.2 id)
def mayJudgeM (t : List Team) (j : Judge) (p : Pair) : Bool := okFor t j p.1 && okFor t j p.2
theorem S75_ok {N : Nat} {t : List Team} {j : Judge} {p : Pair} {kf : Bool → Option Ret} (hl : t.length ≤ maxLen) (hN : t.length < N) (h1 : j.2.2.length ≤ maxLen) (h2 : j.2.2.length < N) : S75 N t j p kf = kf (mayJudgeM t j p) := by
 unfold S75 mayJudgeM okFor
 rw [S68_ok hl hN, S68_ok hl hN]
 by_cases ha : findT t p.1 ≥ 0
 rotate_left
 ·rw [decide_eq_false ha]; rfl
 by_cases hb : findT t p.2 ≥ 0
 rotate_left
 ·rw [decide_eq_true ha, decide_eq_false hb]; simp
 rw [decide_eq_true ha, decide_eq_true hb, (findT_in ha).1, (findT_in hb).1, S74_ok h1 h2]
 simp only [S74_ok h1 h2, cond_true, Bool.true_and]
 unfold clubT
 cases (t.getD (findT t p.1).toNat zQIIIIILIE).2.1 != j.2.1
 ·rfl
 cases (t.getD (findT t p.2).toNat zQIIIIILIE).2.1 != j.2.1
 ·simp
 cases hasM j.2.2 p.1 <;> simp
theorem I41_ok {N : Nat} {t : List Team} {j : Judge} {p : Pair} {kf : Bool → Option Ret} (hl : t.length ≤ maxLen) (hN : t.length < N) (h1 : j.2.2.length ≤ maxLen) (h2 : j.2.2.length < N) (h3 : 2 < N) : I41 N t j p kf = kf (mayJudgeM t j p) := by
 have key : ∀ (id : Int) (next : Option Ret), (I34 N t id (fun (r22_7 : Int) =>
     bif (decide (r22_7 < (0 : Int))) then
      kf false
     else
      bif (inB r22_7 (List.length t)) then
       bif ((List.getD t (Int.toNat r22_7) zQIIIIILIE).2.1 == j.2.1) then
        kf false
       else
        S40 N j.2.2 id (fun (r39_8 : Bool) =>
         bif r39_8 then
          kf false
         else
          next)
      else none)) = bif okFor t j id then next else kf false := fun id next => by
  rw [I34_ok hl hN]
  unfold okFor
  by_cases ha : findT t id ≥ 0
  rotate_left
  ·rw [decide_eq_false ha, decide_eq_true (by omega)]; rfl
  rw [decide_eq_true ha, decide_eq_false (by omega), (findT_in ha).1, S40_ok h1 h2]
  simp only [cond_true, cond_false, Bool.true_and]
  unfold clubT
  cases hc : (t.getD (findT t id).toNat zQIIIIILIE).2.1 == j.2.1
  ·simp only [bne, hc, Bool.not_false, Bool.true_and, cond_false]
   cases hasM j.2.2 id <;> rfl
  ·simp only [bne, hc, Bool.not_true, Bool.false_and, cond_false, cond_true]
 unfold I41
 rw [I41_l2_r (by rw [maxLen_eq]; simp) (by simpa using h3)]
 simp only [goL, key]
 unfold mayJudgeM
 cases okFor t j p.1
 ·rfl
 ·simp
  cases okFor t j p.2 <;> rfl
end Go.Pv.R
namespace Go.Pv.R
set_option linter.unusedVariables false
set_option linter.unusedSimpArgs false
theorem S44_ok {N : Nat} {l : List Team} {kf : Int → Option Ret} (hl : l.length ≤ maxLen) (hm : ∀ x ∈ l, x.met.length ≤ maxLen ∧ x.met.length < N) (hN : l.length < N) : S44 N l kf = kf (bif areTeamsM l then foldI (fun _ (x : Team) s => IntKind.wrap .i64 (s + x.2.2.1)) l 0 0 else 0) := by
 unfold S44
 rw [S44_l3_r hl hN]
 simp only [S60_ok hl hm hN]
 cases areTeamsM l with
 | false => cases l <;> rfl
 | true =>
  simp only [cond_true]
  rw [goL1_f (fun _ (x : Team) s => IntKind.wrap .i64 (s + x.2.2.1)) (fun i x s next h e => rfl)]
theorem I20_ok {N : Nat} {l : List Team} {kf : Int → Option Ret} (hl : l.length ≤ maxLen) (hm : ∀ x ∈ l, x.met.length ≤ maxLen ∧ x.met.length < N) (hN : l.length < N) : I20 N l kf = kf (bif areTeamsM l then foldI (fun _ (x : Team) s => IntKind.wrap .i64 (s + x.2.2.1)) l 0 0 else 0) := by
 unfold I20
 rw [I13_ok hl hm hN]
 cases areTeamsM l with
 | false => rfl
 | true =>
  simp only [cond_true, Bool.not_true, cond_false]
  rw [I20_l5_r hl hN, goL1_f (fun _ (x : Team) s => IntKind.wrap .i64 (s + x.2.2.1)) (fun i x s next h e => rfl)]
def totalWinsM (l : List Team) : Int := bif areTeamsM l then foldI (fun _ (x : Team) s => IntKind.wrap .i64 (s + x.2.2.1)) l 0 0 else 0
abbrev Ballot := QIIIE
def isBallotM (b : Ballot) : Bool := inR b.1 1 99 && (inR b.2.1 0 100 && (inR b.2.2 0 100 && (b.2.1 != b.2.2)))
theorem I18_ok {N : Nat} {b : Ballot} {kf : Bool → Option Ret} : I18 N b kf = kf (isBallotM b) := by
 unfold I18 isBallotM
 simp only [I19_ok]
 cases inR b.1 1 99 <;> simp
 cases inR b.2.1 0 100 <;> simp
 cases inR b.2.2 0 100 <;> simp
def idsOf (r : List Pair) : List Int := r.flatMap fun p => [p.1, p.2]
def isRoundM (l : List Team) (r : List Pair) : Bool := r.all (fun p => mayMeetM l p.1 p.2) && l.all (fun x => decide ((idsOf r).count x.1 = 1))
theorem idsOf_len (r : List Pair) : (idsOf r).length = 2 * r.length := by
 induction r with
 | nil => rfl
 | cons p r ih => simp only [idsOf, List.flatMap_cons, List.length_append, List.length_cons, List.length_nil] at *; omega
theorem I16_ok {N : Nat} {l : List Team} {r : List Pair} {kf : Bool → Option Ret} (hl : l.length ≤ maxLen) (hm : ∀ x ∈ l, x.met.length ≤ maxLen ∧ x.met.length < N) (hN : l.length < N) (hr : r.length ≤ 1048576) (hrN : 2 * r.length < N) : I16 N l r kf = kf (isRoundM l r) := by
 have hML := maxLen_eq
 unfold I16
 rw [I16_l3_r (by omega) (by omega)]
 have key : ∀ (q : List Pair) (i : Nat) (s : List Int) (kend : List Int → Option Ret), r.drop i = q → s.length = 2 * i → goL1 (fun (i : Nat) (x : QIIE) (x5_2 : List Int) (next : List Int → Option Ret) =>
    I37 N l x.1 x.2 (fun (r22_7 : Bool) =>
     bif (!r22_7) then
      kf false
     else
      bif (decide ((List.length x5_2 + List.length [x.1, x.2]) * 1 ≤ 4398046511104)) then
       next (x5_2 ++ [x.1, x.2])
      else none)) kend q i s = bif q.all (fun p => mayMeetM l p.1 p.2) then kend (s ++ idsOf q) else kf false := by
  intro q
  induction q with
  | nil => intro i s kend _ _; simp [goL1, idsOf]
  | cons p q ih =>
   intro i s kend hd hs
   have hlt : i < r.length := by have := congrArg List.length hd; simp at this; omega
   rw [List.drop_eq_getElem_cons hlt] at hd
   injection hd with h1 h2
   simp only [goL1]
   rw [I37_ok hl hm hN]
   cases hmm : mayMeetM l p.1 p.2 with
   | false => simp [hmm]
   | true =>
    have hok : decide ((List.length s + List.length [p.1, p.2]) * 1 ≤ 4398046511104) = true := decide_eq_true (by simp; omega)
    simp only [Bool.not_true, cond_false]
    rw [hok, cond_true, ih (i + 1) _ kend h2 (by simp; omega)]
    simp [hmm, idsOf]
 refine Eq.trans (key r 0 [] _ rfl (by simp)) ?_
 unfold isRoundM
 cases hall : r.all (fun p => mayMeetM l p.1 p.2) with
 | false => rfl
 | true =>
  have hlen : (idsOf r).length ≤ maxLen ∧ (idsOf r).length < N := by rw [idsOf_len]; omega
  rw [cond_true, List.nil_append, I16_l10_r hl hN, goL_all (l := l) (p := fun _ x => decide ((idsOf r).count x.1 = 1)) (kf := kf false) (fun i x next h e => ?_) l 0 rfl, allI_all (p := fun x : Team => decide ((idsOf r).count x.1 = 1))]
  ·simp only [Bool.true_and]
   cases l.all fun x => decide ((idsOf r).count x.1 = 1) <;> rfl
  ·rw [I35_ok hlen.1 hlen.2, countM_eq hlen.1]
   by_cases h1 : (idsOf r).count x.1 = 1
   ·simp [h1]
   ·have : (((idsOf r).count x.1 : Int) != 1) = true := by rw [bne_iff_ne]; omega
    rw [this, decide_eq_false h1]
    rfl
theorem findJ_in {l : List Judge} {id : Int} (h : findJ l id ≥ 0) : inB (findJ l id) l.length = true ∧ (findJ l id).toNat < l.length := by
 obtain ⟨k, hk, e, _⟩ := findM_pos (p := fun x : Judge => x.1 == id) (l := l) (by unfold findJ at h; omega)
 have e : findJ l id = (k : Int) := e
 rw [e]
 exact ⟨inB_nat hk, by simpa using hk⟩
def seatP (t : List Team) (l : List Judge) (r : List Pair) (ids : List Int) (i : Nat) : Bool := decide (findJ l (ids.getD i 0) ≥ 0) && (!hasM (ids.take i) (ids.getD i 0) && mayJudgeM t (l.getD (findJ l (ids.getD i 0)).toNat zQIILIE) (r.getD i zQIIE))
def areSeatedM (t : List Team) (l : List Judge) (r : List Pair) (ids : List Int) : Bool := decide (ids.length = r.length) && (areJudgesM l && allI (fun i _ => seatP t l r ids i) r 0)
theorem I17_ok {N : Nat} {t : List Team} {l : List Judge} {r : List Pair} {ids : List Int} {kf : Bool → Option Ret} (ht : t.length ≤ maxLen) (htN : t.length < N) (hl : l.length ≤ maxLen) (hm : ∀ x ∈ l, x.2.2.length ≤ maxLen ∧ x.2.2.length < N) (hN : l.length < N)
  (hr : r.length ≤ maxLen) (hrN : r.length < N) (h2N : 2 < N) : I17 N t l r ids kf = kf (areSeatedM t l r ids) := by
 unfold I17 areSeatedM
 rw [I14_ok hl hm hN]
 cases areJudgesM l
 ·simp
 simp only [Bool.not_true, cond_false, Bool.true_and]
 by_cases hlen : ids.length = r.length
 rotate_left
 ·have : ((ids.length : Int) != (r.length : Int)) = true := by rw [bne_iff_ne]; omega
  rw [this, decide_eq_false hlen]; rfl
 have : ((ids.length : Int) != (r.length : Int)) = false := by rw [hlen]; exact bne_self_eq_false _
 rw [this, decide_eq_true hlen, cond_false, Bool.true_and]
 have hall : allI (fun i _ => seatP t l r ids i) r 0 = allI (fun i _ => seatP t l r ids i) ids 0 := by
  apply Bool.eq_iff_iff.2
  rw [allI_iff, allI_iff]
  exact ⟨fun h j hj => h j (by omega), fun h j hj => h j (by omega)⟩
 rw [hall, I17_l4_r (by omega) (by omega), goL_all (l := ids) (p := fun i _ => seatP t l r ids i) (kf := kf false) (fun i x next h e => ?_) ids 0 rfl]
 ·cases allI (fun i _ => seatP t l r ids i) ids 0 <;> rfl
 ·have hi : i < r.length := by omega
  have hdec : (decide ((0 : Int) ≤ (0 : Int)) && decide ((0 : Int) ≤ (i : Int)) && decide ((i : Int) ≤ (List.length ids : Int))) = true := by simp; omega
  have hid : ids.getD i 0 = x := by rw [getD_nat _ _ h, e]
  rw [hdec]
  simp only [Int.toNat_natCast, cond_true]
  rw [S38_ok hl hN]
  unfold seatP
  rw [hid]
  by_cases hf : findJ l x ≥ 0
  rotate_left
  ·rw [decide_eq_false hf, decide_eq_true (by omega)]; rfl
  obtain ⟨f1, f2⟩ := findJ_in hf
  have hx : l.getD (findJ l x).toNat zQIILIE ∈ l := by rw [getD_nat _ _ f2]; exact List.getElem_mem f2
  obtain ⟨m1, m2⟩ := hm _ hx
  rw [decide_eq_true hf, decide_eq_false (by omega), cond_false]
  have htk : (List.drop (Int.toNat 0) (List.take i ids)) = ids.take i := rfl
  rw [htk, S40_ok (by simp; omega) (by simp; omega), f1, inB_nat hi]
  cases hasM (ids.take i) x
  ·rw [cond_false, cond_true, cond_true, I41_ok ht htN m1 m2 h2N]
   cases mayJudgeM t (l.getD (findJ l x).toNat zQIILIE) (r.getD i zQIIE) <;> rfl
  ·rfl
end Go.Pv.R
namespace Go.Pv.R
set_option linter.unusedVariables false
set_option linter.unusedSimpArgs false
abbrev Club := QLQIIIIILIELQIILIELQIIELILQIIIELQIIIIEIE
structure ClubOK (c : Club) (N : Nat) : Prop where
 tl : c.1.length ≤ maxLen
 tm : ∀ x : Team, x ∈ c.1 → x.met.length ≤ maxLen ∧ x.met.length < N
 tN : c.1.length < N
 jl : c.2.1.length ≤ maxLen
 jm : ∀ x ∈ c.2.1, x.2.2.length ≤ maxLen ∧ x.2.2.length < N
 jN : c.2.1.length < N
 rl : c.2.2.1.length ≤ 1048576
 rN : 2 * c.2.2.1.length < N
 sl : c.2.2.2.1.length ≤ 1048576
 sN : c.2.2.2.1.length < N
 bl : c.2.2.2.2.1.length ≤ 1048576
 bN : c.2.2.2.2.1.length < N
 ml : c.2.2.2.2.2.1.length ≤ 1048576
 mN : c.2.2.2.2.2.1.length < N
 n8 : 8 < N
 tb : c.1.length ≤ 1048700
 tmb : ∀ x : Team, x ∈ c.1 → x.met.length ≤ 1048700
 jb : c.2.1.length ≤ 1048700
 jmb : ∀ x : Judge, x ∈ c.2.1 → x.2.2.length ≤ 1048700
def emptyB (b : Ballot) : Bool := (decide ((b.1 : Int) = 0)) && ((decide ((b.2.1 : Int) = 0)) && (decide ((b.2.2 : Int) = 0)))
def ballotP (c : Club) (i : Nat) (b : Ballot) : Bool := emptyB b || (isBallotM b && (b.1 == c.2.2.2.1.getD i 0))
def isClubM (c : Club) : Bool := areTeamsM c.1 && (areJudgesM c.2.1 && (areMinM c.2.2.2.2.2.1 && (decide (c.2.2.2.1.length = c.2.2.1.length) && (decide (c.2.2.2.2.1.length = c.2.2.1.length) &&
 ((decide (c.2.2.1.length = 0) || (isRoundM c.1 c.2.2.1 && areSeatedM c.1 c.2.1 c.2.2.1 c.2.2.2.1)) && (allI (ballotP c) c.2.2.2.2.1 0 && (inR c.2.2.2.2.2.2 0 1000 && (totalWinsM c.1 == c.2.2.2.2.2.2))))))))
theorem len_ne {a b : Nat} : ((a : Int) != (b : Int)) = !decide (a = b) := by
 apply Bool.eq_iff_iff.2
 simp
 omega
theorem I5_j1_ok {N : Nat} {c : Club} {kf : Bool → Option Ret} (h : ClubOK c N) (hs : c.2.2.2.1.length = c.2.2.1.length) (hb : c.2.2.2.2.1.length = c.2.2.1.length) : I5_j1 N c kf = kf (allI (ballotP c) c.2.2.2.2.1 0 && (inR c.2.2.2.2.2.2 0 1000 && (totalWinsM c.1 == c.2.2.2.2.2.2))) := by
 have hm := maxLen_eq
 have := h.bl
 unfold I5_j1
 rw [I5_l6_r (by omega) h.bN, goL_all (l := c.2.2.2.2.1) (p := ballotP c) (kf := kf false) (fun i b next hi e => ?_) c.2.2.2.2.1 0 rfl]
 ·cases allI (ballotP c) c.2.2.2.2.1 0
  ·rfl
  rw [cond_true, I19_ok]
  cases inR c.2.2.2.2.2.2 0 1000
  ·rfl
  simp only [cond_true, Bool.true_and]
  rw [I20_ok h.tl h.tm h.tN]
  rfl
 ·rw [I18_ok, inB_nat (by omega), cond_true, Int.toNat_natCast]
  unfold ballotP emptyB
  cases (decide ((b.1 : Int) = 0)) && ((decide ((b.2.1 : Int) = 0)) && (decide ((b.2.2 : Int) = 0)))
  ·simp only [Bool.not_false, cond_true, Bool.false_or]
   cases isBallotM b
   ·rfl
   ·cases hc : b.1 == c.2.2.2.1.getD i 0 <;> simp only [bne, hc, Bool.not_true, Bool.not_false, cond_true, cond_false, Bool.and_true, Bool.and_false]
  ·rfl
theorem I5_ok {N : Nat} {c : Club} {kf : Bool → Option Ret} (h : ClubOK c N) : I5 N c kf = kf (isClubM c) := by
 have hm := maxLen_eq
 have hml := h.ml
 have h8 := h.n8
 have hr := h.rl
 have hrN := h.rN
 unfold I5 isClubM
 rw [I13_ok h.tl h.tm h.tN]
 cases areTeamsM c.1
 ·rfl
 simp only [Bool.not_true, cond_false, Bool.true_and]
 rw [I14_ok h.jl h.jm h.jN]
 cases areJudgesM c.2.1
 ·rfl
 simp only [Bool.not_true, cond_false, Bool.true_and]
 rw [I15_ok (by omega) h.mN (by omega)]
 cases areMinM c.2.2.2.2.2.1
 ·rfl
 simp only [Bool.not_true, cond_false, Bool.true_and, len_ne]
 by_cases hs : c.2.2.2.1.length = c.2.2.1.length
 rotate_left
 ·rw [decide_eq_false hs]; rfl
 by_cases hb : c.2.2.2.2.1.length = c.2.2.1.length
 rotate_left
 ·rw [decide_eq_false hb, decide_eq_true hs]; rfl
 rw [decide_eq_true hs, decide_eq_true hb]
 simp only [Bool.not_true, cond_false, Bool.true_and]
 unfold I7
 by_cases h0 : c.2.2.1.length = 0
 ·rw [decide_eq_false (by omega)]
  simp only [cond_false]
  rw [I5_j1_ok h hs hb, decide_eq_true h0]
  rfl
 ·rw [decide_eq_true (by omega)]
  simp only [cond_true]
  rw [I16_ok h.tl h.tm h.tN h.rl h.rN, decide_eq_false h0]
  cases isRoundM c.1 c.2.2.1
  ·rfl
  simp only [Bool.not_true, cond_false, Bool.true_and, Bool.false_or]
  rw [I17_ok h.tl h.tN h.jl h.jm h.jN (by omega) (by omega) (by omega)]
  cases areSeatedM c.1 c.2.1 c.2.2.1 c.2.2.2.1
  ·rfl
  simp only [Bool.not_true, cond_false, Bool.true_and]
  exact I5_j1_ok h hs hb
def waitM (c : Club) : List Int := gatherI (fun _ b => emptyB b) (fun i _ => (i : Int)) c.2.2.2.2.1 0
theorem I9_ok {N : Nat} {c : Club} {kf : List Int → Option Ret} (h : ClubOK c N) : I9 N c kf = kf (waitM c) := by
 have hm := maxLen_eq
 have := h.bl
 unfold I9
 rw [I9_l3_r (by omega) h.bN, goL1_gather (l := c.2.2.2.2.1) (c := fun _ b => emptyB b) (f := fun i _ => (i : Int)) (fun i b s next hi e hs => ?_) c.2.2.2.2.1 0 [] rfl (by simp), List.nil_append]
 ·rfl
 ·have hok : decide ((List.length s + List.length [(i : Int)]) * 1 ≤ 4398046511104) = true := decide_eq_true (by simp; omega)
  rw [hok, cond_true]
  rfl
def fours (l : List QIIIIE) : Nat := (l.filter fun x => x.2.1 == 4).length
theorem inR_iff {a b c : Int} : inR a b c = true ↔ b ≤ a ∧ a ≤ c := by unfold inR; simp
end Go.Pv.R
namespace Go.Pv
set_option linter.unusedVariables false
set_option linter.unusedSimpArgs false
theorem goL_same {α : Type} [DecidableEq α] {xs ys : List α} {body : Nat → α → Option Ret → Option Ret} {kt kf : Option Ret} (hlen : xs.length = ys.length)
  (hb : ∀ (i : Nat) (x : α) (next : Option Ret) (h : i < xs.length) (h' : i < ys.length), xs[i] = x → body i x next = bif decide (x = ys[i]) then next else kf) : goL body kt xs 0 = bif decide (xs = ys) then kt else kf := by
 have key : ∀ (r : List α) (i : Nat), xs.drop i = r → xs.take i = ys.take i → goL body kt r i = bif decide (xs = ys) then kt else kf := by
  intro r
  induction r with
  | nil =>
   intro i hd he
   have : xs.length ≤ i := by have := congrArg List.length hd; simp at this; omega
   rw [List.take_of_length_le this, List.take_of_length_le (by omega)] at he
   rw [decide_eq_true he]; rfl
  | cons x r ih =>
   intro i hd he
   have hlt : i < xs.length := by have := congrArg List.length hd; simp at this; omega
   rw [List.drop_eq_getElem_cons hlt] at hd
   injection hd with h1 h2
   simp only [goL]
   rw [hb i x _ hlt (by omega) h1]
   by_cases hx : x = ys[i]
   ·rw [decide_eq_true hx, cond_true, ih (i + 1) h2 (by rw [List.take_succ_eq_append_getElem hlt, List.take_succ_eq_append_getElem (by omega), he, h1, hx])]
   ·rw [decide_eq_false hx, cond_false]
    have : ¬ xs = ys := fun e => hx (by rw [← h1]; simp only [e])
    rw [decide_eq_false this]; rfl
 exact key xs 0 rfl rfl
theorem lens {α β : Type} {xs : List α} {ys : List β} {A B : Option Ret} {p : Bool} {kf : Bool → Option Ret} (h : xs.length = ys.length → B = kf p) (h' : xs.length ≠ ys.length → p = false) : (bif ((List.length xs : Int) != (List.length ys : Int)) then kf false else B) = kf p := by
 by_cases hl : xs.length = ys.length
 ·have : ((xs.length : Int) != (ys.length : Int)) = false := by rw [hl]; exact bne_self_eq_false _
  rw [this, cond_false, h hl]
 ·have : ((xs.length : Int) != (ys.length : Int)) = true := by rw [bne_iff_ne]; omega
  rw [this, cond_true, h' hl]
end Go.Pv
namespace Go.Pv.R
set_option linter.unusedVariables false
set_option linter.unusedSimpArgs false
theorem S28_ok {N : Nat} {a b : List Int} {kf : Bool → Option Ret} (hl : a.length ≤ maxLen) (hN : a.length < N) : S28 N a b kf = kf (decide (a = b)) := by
 unfold S28
 refine lens (A := kf true) (fun h => ?_) (fun h => decide_eq_false fun e => h (by rw [e]))
 rw [S28_l4_r hl hN, goL_same h (kf := kf false) (fun i x next hi hi' e => ?_)]
 ·cases decide (a = b) <;> rfl
 ·rw [inB_nat hi', cond_true, Int.toNat_natCast, getD_nat _ _ hi']
  by_cases hx : x = b[i]
  ·simp [hx]
  ·have : (x != b[i]) = true := by simpa using hx
   rw [this, decide_eq_false hx]; rfl
theorem S31_ok {N : Nat} {a b : List QIIE} {kf : Bool → Option Ret} (hl : a.length ≤ maxLen) (hN : a.length < N) : S31 N a b kf = kf (decide (a = b)) := by
 unfold S31
 refine lens (A := kf true) (fun h => ?_) (fun h => decide_eq_false fun e => h (by rw [e]))
 rw [S31_l4_r hl hN, goL_same h (kf := kf false) (fun i x next hi hi' e => ?_)]
 ·cases decide (a = b) <;> rfl
 ·rw [inB_nat hi', cond_true, Int.toNat_natCast, getD_nat _ _ hi']
  have : (decide ((x.1 : Int) = b[i].1) && decide ((x.2 : Int) = b[i].2)) = decide (x = b[i]) := by
   apply Bool.eq_iff_iff.2
   simp [Prod.ext_iff]
  rw [this]
  cases decide (x = b[i]) <;> rfl
theorem S32_ok {N : Nat} {a b : List QIIIE} {kf : Bool → Option Ret} (hl : a.length ≤ maxLen) (hN : a.length < N) : S32 N a b kf = kf (decide (a = b)) := by
 unfold S32
 refine lens (A := kf true) (fun h => ?_) (fun h => decide_eq_false fun e => h (by rw [e]))
 rw [S32_l4_r hl hN, goL_same h (kf := kf false) (fun i x next hi hi' e => ?_)]
 ·cases decide (a = b) <;> rfl
 ·rw [inB_nat hi', cond_true, Int.toNat_natCast, getD_nat _ _ hi']
  have : (decide ((x.1 : Int) = b[i].1) && (decide ((x.2.1 : Int) = b[i].2.1) && decide ((x.2.2 : Int) = b[i].2.2))) = decide (x = b[i]) := by
   apply Bool.eq_iff_iff.2
   simp [Prod.ext_iff]
  rw [this]
  cases decide (x = b[i]) <;> rfl
theorem S33_ok {N : Nat} {a b : List QIIIIE} {kf : Bool → Option Ret} (hl : a.length ≤ maxLen) (hN : a.length < N) : S33 N a b kf = kf (decide (a = b)) := by
 unfold S33
 refine lens (A := kf true) (fun h => ?_) (fun h => decide_eq_false fun e => h (by rw [e]))
 rw [S33_l4_r hl hN, goL_same h (kf := kf false) (fun i x next hi hi' e => ?_)]
 ·cases decide (a = b) <;> rfl
 ·rw [inB_nat hi', cond_true, Int.toNat_natCast, getD_nat _ _ hi']
  have : (decide ((x.1 : Int) = b[i].1) && (decide ((x.2.1 : Int) = b[i].2.1) && (decide ((x.2.2.1 : Int) = b[i].2.2.1) && decide ((x.2.2.2 : Int) = b[i].2.2.2)))) = decide (x = b[i]) := by
   apply Bool.eq_iff_iff.2
   simp [Prod.ext_iff]
  rw [this]
  cases decide (x = b[i]) <;> rfl
theorem team_eq (x y : Team) : decide (x = y) = ((x.1 == y.1) && ((x.2.1 == y.2.1) && ((x.2.2.1 == y.2.2.1) && ((x.2.2.2.1 == y.2.2.2.1) && ((x.2.2.2.2.1 == y.2.2.2.2.1) && decide (x.2.2.2.2.2 = y.2.2.2.2.2)))))) := by
 apply Bool.eq_iff_iff.2
 simp [Prod.ext_iff]
theorem judge_eq (x y : Judge) : decide (x = y) = ((x.1 == y.1) && ((x.2.1 == y.2.1) && decide (x.2.2 = y.2.2))) := by
 apply Bool.eq_iff_iff.2
 simp [Prod.ext_iff]
theorem slices_EqualFunc_Team_ok {N : Nat} {a b : List Team} {kf : Bool → Option Ret} (hl : a.length ≤ maxLen) (hm : ∀ x : Team, x ∈ a → x.met.length ≤ maxLen ∧ x.met.length < N) (hN : a.length < N) : S26 N a b kf = kf (decide (a = b)) := by
 unfold S26
 refine lens (A := kf true) (fun h => ?_) (fun h => decide_eq_false fun e => h (by rw [e]))
 rw [S26_l4_r hl hN, goL_same h (kf := kf false) (fun i x next hi hi' e => ?_)]
 ·cases decide (a = b) <;> rfl
 ·rw [inB_nat hi', cond_true, Int.toNat_natCast, getD_nat _ _ hi', team_eq]
  obtain ⟨m1, m2⟩ := hm x (by rw [← e]; exact List.getElem_mem hi)
  unfold I27
  rw [S28_ok m1 m2]
  cases x.1 == b[i].1 <;> simp
  cases x.2.1 == b[i].2.1 <;> simp
  cases x.2.2.1 == b[i].2.2.1 <;> simp
  cases x.2.2.2.1 == b[i].2.2.2.1 <;> simp
  cases x.2.2.2.2.1 == b[i].2.2.2.2.1 <;> simp
  all_goals (by_cases hq : x.2.2.2.2.2 = b[i].2.2.2.2.2 <;> simp [hq])
theorem slices_EqualFunc_Judge_ok {N : Nat} {a b : List Judge} {kf : Bool → Option Ret} (hl : a.length ≤ maxLen) (hm : ∀ x : Judge, x ∈ a → x.2.2.length ≤ maxLen ∧ x.2.2.length < N) (hN : a.length < N) : S29 N a b kf = kf (decide (a = b)) := by
 unfold S29
 refine lens (A := kf true) (fun h => ?_) (fun h => decide_eq_false fun e => h (by rw [e]))
 rw [S29_l4_r hl hN, goL_same h (kf := kf false) (fun i x next hi hi' e => ?_)]
 ·cases decide (a = b) <;> rfl
 ·rw [inB_nat hi', cond_true, Int.toNat_natCast, getD_nat _ _ hi', judge_eq]
  obtain ⟨m1, m2⟩ := hm x (by rw [← e]; exact List.getElem_mem hi)
  unfold I30
  rw [S28_ok m1 m2]
  cases x.1 == b[i].1 <;> simp
  cases x.2.1 == b[i].2.1 <;> simp
  all_goals (by_cases hq : x.2.2 = b[i].2.2 <;> simp [hq])
def eqClubM (a b : Club) : Bool := decide (a.1 = b.1) && (decide (a.2.1 = b.2.1) && (decide (a.2.2.1 = b.2.2.1) && (decide (a.2.2.2.1 = b.2.2.2.1) && (decide (a.2.2.2.2.1 = b.2.2.2.2.1) && (decide (a.2.2.2.2.2.1 = b.2.2.2.2.2.1) && (a.2.2.2.2.2.2 == b.2.2.2.2.2.2))))))
end Go.Pv.R
namespace Go.Pv.R
set_option linter.unusedVariables false
set_option linter.unusedSimpArgs false
theorem waitM_len (c : Club) : (waitM c).length ≤ c.2.2.2.2.1.length := gatherI_len _ _
end Go.Pv.R
namespace Go.Pv.R
set_option linter.unusedVariables false
set_option linter.unusedSimpArgs false
theorem gatherI_all {α : Type} : ∀ (l : List α) (i : Nat), gatherI (fun _ _ => true) (fun _ x => x) l i = l
 | [], _ => rfl
 | x :: r, i => by simp only [gatherI, cond_true]; rw [gatherI_all r (i + 1)]
theorem goL1_copy {α : Type} {body : Nat → α → List α → (List α → Option Ret) → Option Ret} {kend : List α → Option Ret} {l : List α}
  (hb : ∀ (i : Nat) (x : α) (s : List α) (next : List α → Option Ret) (h : i < l.length), l[i] = x → s.length ≤ i → body i x s next = next (s ++ [x])) : goL1 body kend l 0 [] = kend l := by
 rw [goL1_gather (l := l) (c := fun _ _ => true) (f := fun _ x => x) (fun i x s next h e hs => by rw [hb i x s next h e hs]; rfl) l 0 [] rfl (by simp), gatherI_all, List.nil_append]
theorem S51_ok {N : Nat} {l : List Team} {kf : List Team → Option Ret} (hl : l.length ≤ 1048700) (hm : ∀ x : Team, x ∈ l → x.met.length ≤ 1048700) (hN : l.length < N) : S51 N l kf = kf l := by
 have h0 := maxLen_eq
 unfold S51
 rw [S51_l3_r (by omega) hN]
 refine goL1_copy (l := l) fun i x s next h e hs => ?_
 have hx : x ∈ l := by rw [← e]; exact List.getElem_mem h
 have hxm : x.2.2.2.2.2.length ≤ 1048700 := hm x hx
 rw [decide_eq_true (by simp only [List.length_nil]; omega), decide_eq_true (by simp only [List.length_cons, List.length_nil]; omega)]
 rfl
theorem S52_ok {N : Nat} {l : List Judge} {kf : List Judge → Option Ret} (hl : l.length ≤ 1048700) (hm : ∀ x : Judge, x ∈ l → x.2.2.length ≤ 1048700) (hN : l.length < N) : S52 N l kf = kf l := by
 have h0 := maxLen_eq
 unfold S52
 rw [S52_l3_r (by omega) hN]
 refine goL1_copy (l := l) fun i x s next h e hs => ?_
 have hx : x ∈ l := by rw [← e]; exact List.getElem_mem h
 have hxm : x.2.2.length ≤ 1048700 := hm x hx
 rw [decide_eq_true (by simp only [List.length_nil]; omega), decide_eq_true (by simp only [List.length_cons, List.length_nil]; omega)]
 rfl
theorem S24_ok {N : Nat} {c : Club} {kf : Club → Option Ret} (h : ClubOK c N) : S24 N c kf = kf c := by
 have h0 := maxLen_eq
 have h1 := h.rl
 have h2 := h.sl
 have h3 := h.bl
 have h4 := h.ml
 unfold S24
 rw [S51_ok h.tb h.tmb h.tN, S52_ok h.jb h.jmb h.jN, decide_eq_true (by simp only [List.length_nil]; omega), decide_eq_true (by simp only [List.length_nil]; omega), decide_eq_true (by simp only [List.length_nil]; omega), decide_eq_true (by simp only [List.length_nil]; omega)]
 rfl
abbrev Line := QIIIIE
def lastM (l : List Line) : Int := (l.getLast?.map fun x => x.2.2.2).getD 0
theorem lastM_eq {l : List Line} (h0 : l ≠ []) : lastM l = (List.getD l (l.length - 1) zQIIIIE).2.2.2 := by
 unfold lastM
 rw [List.getLast?_eq_getElem?]
 have h1 : l.length - 1 < l.length := by
  cases l with
  | nil => exact absurd rfl h0
  | cons x r => simp
 rw [List.getD_eq_getElem?_getD, List.getElem?_eq_getElem h1]
 rfl
theorem last_any {l : List Line} {kf : Int → Option Ret} (hl : l.length ≤ maxLen) : (bif ((List.length l : Int) == (0 : Int)) then kf (0 : Int) else
  bif (inB (IntKind.wrap .i64 ((List.length l : Int) - (1 : Int))) (List.length l)) then kf (List.getD l (Int.toNat (IntKind.wrap .i64 ((List.length l : Int) - (1 : Int)))) zQIIIIE).2.2.2 else none) = kf (lastM l) := by
 have hm := maxLen_eq
 cases l with
 | nil => rfl
 | cons x r =>
  have e1 : ((List.length (x :: r) : Int) == (0 : Int)) = false := by simp only [List.length_cons]; exact beq_eq_false_iff_ne.2 (by omega)
  rw [wrap64 (n := (List.length (x :: r) : Int) - 1) (by omega) (by omega)]
  have e2 : (List.length (x :: r) : Int) - 1 = ((List.length (x :: r) - 1 : Nat) : Int) := by simp only [List.length_cons]; omega
  rw [e1, e2, inB_nat (by simp), lastM_eq (by simp)]
  simp only [cond_true, cond_false, Int.toNat_natCast]
theorem S77_ok {N : Nat} {l : List Line} {kf : Int → Option Ret} (hl : l.length ≤ maxLen) : S77 N l kf = kf (lastM l) := last_any hl
def lineM (l : List Line) (what who : Int) : Line := ((l.length : Int) + 1, (what, (who, sealM (lastM l) ((l.length : Int) + 1, (what, (who, 0))))))
def wroteM (l : List Line) (what who : Int) : Bool := areMinM (l ++ [lineM l what who])
def writeM (l : List Line) (what who : Int) : List Line := bif wroteM l what who then l ++ [lineM l what who] else l
theorem writeM_len (l : List Line) (what who : Int) : (writeM l what who).length ≤ l.length + 1 := by
 unfold writeM
 cases wroteM l what who <;> simp
theorem S66_ok {N : Nat} {l : List Line} {what who : Int} {kf : List Line → Bool → Option Ret} (hl : l.length ≤ 1048576) (hN : l.length + 1 < N) (h4 : 4 < N) : S66 N l what who kf = kf (writeM l what who) (wroteM l what who) := by
 have hm := maxLen_eq
 unfold S66
 rw [S77_ok (by omega), S76_ok h4, wrap64 (n := (List.length l : Int) + 1) (by omega) (by omega), decide_eq_true (by simp only [List.length_nil]; omega)]
 simp only [List.nil_append, cond_true]
 rw [decide_eq_true (by simp only [List.length_cons, List.length_nil]; omega), cond_true, S78_ok (by simp only [List.length_append, List.length_cons, List.length_nil]; omega) (by simp only [List.length_append, List.length_cons, List.length_nil]; omega) h4]
 show (bif (!wroteM l what who) then kf l false else kf (l ++ [lineM l what who]) true) = _
 unfold writeM
 cases wroteM l what who <;> rfl
def withMin (c : Club) (l : List Line) : Club := (c.1, (c.2.1, (c.2.2.1, (c.2.2.2.1, (c.2.2.2.2.1, (l, c.2.2.2.2.2.2))))))
theorem withMin_ok {c : Club} {N : Nat} {l : List Line} (h : ClubOK c N) (hl : l.length ≤ 200) (hN : 200 < N) : ClubOK (withMin c l) N :=
 ⟨h.tl, h.tm, h.tN, h.jl, h.jm, h.jN, h.rl, h.rN, h.sl, h.sN, h.bl, h.bN, by show l.length ≤ _; omega, by show l.length < _; omega, h.n8, h.tb, h.tmb, h.jb, h.jmb⟩
theorem isClub_lens {c : Club} (h : isClubM c = true) : c.2.2.2.1.length = c.2.2.1.length ∧ c.2.2.2.2.1.length = c.2.2.1.length := by
 unfold isClubM at h
 simp only [Bool.and_eq_true, decide_eq_true_eq] at h
 exact ⟨h.2.2.2.1, h.2.2.2.2.1⟩
end Go.Pv.R
namespace Go.Pv
set_option linter.unusedVariables false
set_option linter.unusedSimpArgs false
abbrev Asc (l : List Int) : Prop := l.Pairwise (· < ·)
end Go.Pv
namespace Go.Pv.R
set_option linter.unusedVariables false
set_option linter.unusedSimpArgs false
end Go.Pv.R
namespace Go.Pv.R
set_option linter.unusedVariables false
set_option linter.unusedSimpArgs false
end Go.Pv.R
namespace Go.Pv.R
set_option linter.unusedVariables false
set_option linter.unusedSimpArgs false
end Go.Pv.R
namespace Go.Pv.R
set_option linter.unusedVariables false
set_option linter.unusedSimpArgs false
end Go.Pv.R
namespace Go.Pv.R
set_option linter.unusedVariables false
set_option linter.unusedSimpArgs false
end Go.Pv.R
namespace Go.Pv.R
set_option linter.unusedVariables false
set_option linter.unusedSimpArgs false
end Go.Pv.R
namespace Go.Pv.R
set_option linter.unusedVariables false
set_option linter.unusedSimpArgs false
end Go.Pv.R
namespace Go.Pv.R
set_option linter.unusedVariables false
set_option linter.unusedSimpArgs false
end Go.Pv.R
namespace Go.Pv.R
set_option linter.unusedVariables false
set_option linter.unusedSimpArgs false
end Go.Pv.R
namespace Go.Pv.R
set_option linter.unusedVariables false
set_option linter.unusedSimpArgs false
end Go.Pv.R
namespace Go.Pv.R
set_option linter.unusedVariables false
set_option linter.unusedSimpArgs false
end Go.Pv.R
namespace Go.Pv.R
set_option linter.unusedVariables false
set_option linter.unusedSimpArgs false
end Go.Pv.R
namespace Go.Pv.R
set_option linter.unusedVariables false
set_option linter.unusedSimpArgs false
def beforeM (a b : Team) : Bool := bif a.2.2.1 != b.2.2.1 then decide (a.2.2.1 > b.2.2.1) else (bif decide (a.2.2.2.1 > b.2.2.2.1) then true else (bif a.2.2.2.1 == b.2.2.2.1 then decide (a.1 < b.1) else false))
theorem S73_ok {N : Nat} {a b : Team} {kf : Bool → Option Ret} : S73 N a b kf = kf (beforeM a b) := by
 unfold S73 beforeM
 cases (a.2.2.1 != b.2.2.1) with
 | true => rfl
 | false =>
  simp only [cond_false]
  cases decide (a.2.2.2.1 > b.2.2.2.1) with
  | true => rfl
  | false =>
   simp only [cond_false]
   cases (a.2.2.2.1 == b.2.2.2.1) <;> rfl
def posM (x : Team) (s : List Team) : Nat → Nat
 | 0 => 0
 | k + 1 => bif beforeM x (s.getD k zQIIIIILIE) then posM x s k else k + 1
theorem posM_le (x : Team) (s : List Team) : ∀ k, posM x s k ≤ k
 | 0 => Nat.le_refl _
 | k + 1 => by
  unfold posM
  cases beforeM x (s.getD k zQIIIIILIE) with
  | true => exact Nat.le_succ_of_le (posM_le x s k)
  | false => exact Nat.le_refl _
def insM (s : List Team) (x : Team) : List Team := s.take (posM x s s.length) ++ [x] ++ s.drop (posM x s s.length)
theorem insM_len (s : List Team) (x : Team) : (insM s x).length = s.length + 1 := by
 have := posM_le x s s.length
 simp [insM]; omega
def sortM (l : List Team) : List Team := l.foldl insM []
theorem insl_len : ∀ (l s : List Team), (l.foldl insM s).length = s.length + l.length
 | [], s => by simp
 | x :: l, s => by simp only [List.foldl_cons, insl_len l, insM_len, List.length_cons]; omega
theorem sortM_len (l : List Team) : (sortM l).length = l.length := by simp [sortM, insl_len]
def standM (l : List Team) : List Int := bif areTeamsM l then (sortM l).map (fun x : Team => x.1) else []
theorem S62_l6_ok {N : Nat} {l s : List Team} {i : Nat} (hi : i < l.length) (hl : l.length ≤ 1048700) (hs : s.length ≤ 1048700) {kk : Int → Option Ret} : ∀ (k n : Nat), k ≤ s.length → k < n → S62_l6 N l s (i : Int) n kk (k : Int) = kk ((posM l[i] s k : Nat) : Int)
 | 0, n + 1, _, _ => by
  simp only [S62_l6]
  rfl
 | k + 1, n + 1, hk, hn => by
  have hm := maxLen_eq
  have ew : IntKind.wrap .i64 (((k + 1 : Nat) : Int) - 1) = ((k : Nat) : Int) := by
   have := wrap_pred (i := k + 1) (m := s.length + 1) (by omega) (by omega) (by omega)
   simpa using this
  simp only [S62_l6]
  rw [decide_eq_true (show ((k + 1 : Nat) : Int) > 0 by omega), cond_true, inB_nat hi, cond_true, ew, inB_nat (show k < s.length by omega), cond_true, S73_ok, Int.toNat_natCast, Int.toNat_natCast, getD_nat l i hi]
  unfold posM
  cases beforeM l[i] (s.getD k zQIIIIILIE) with
  | true => simp only [cond_true]; exact S62_l6_ok hi hl hs k n (by omega) (by omega)
  | false => rfl
theorem goL1_inv {α σ : Type} {body : Nat → α → σ → (σ → Option Ret) → Option Ret} {kend : σ → Option Ret} {g : σ → α → σ} {Inv : Nat → σ → Prop} {l : List α}
  (hb : ∀ (i : Nat) (s : σ) (next : σ → Option Ret) (h : i < l.length), Inv i s → body i l[i] s next = next (g s l[i]) ∧ Inv (i + 1) (g s l[i])) : ∀ (r : List α) (i : Nat) (s : σ), l.drop i = r → Inv i s → goL1 body kend r i s = kend (r.foldl g s)
 | [], i, s, _, _ => rfl
 | x :: r, i, s, hd, hs => by
  have hlt : i < l.length := by have := congrArg List.length hd; simp at this; omega
  rw [List.drop_eq_getElem_cons hlt] at hd
  injection hd with h1 h2
  subst h1
  obtain ⟨e1, e2⟩ := hb i s (fun s' => goL1 body kend r (i + 1) s') hlt hs
  simp only [goL1, List.foldl_cons]
  rw [e1]
  exact goL1_inv hb r (i + 1) _ h2 e2
theorem ids_loop {l : List Team} {kf : List Int → Option Ret} (hl : l.length ≤ 1048700) : goL1 (fun (i : Nat) (x : QIIIIILIE) (s : (List Int)) (next : (List Int) → Option Ret) =>
    bif (decide ((List.length s + List.length [x.1]) * 1 ≤ 4398046511104)) then
     next (s ++ [x.1])
    else none) (fun (s : (List Int)) => kf s) l 0 [] = kf (l.map fun x : Team => x.1) := by
 rw [goL1_inv (l := l) (g := fun s (x : Team) => s ++ [x.1]) (Inv := fun i s => s.length = i) (fun i s next h hs => ⟨by rw [decide_eq_true (by simp only [List.length_cons, List.length_nil]; omega), cond_true], by simp [hs]⟩) l 0 [] rfl rfl]
 congr 1
 have : ∀ (r : List Team) (s : List Int), r.foldl (fun s (x : Team) => s ++ [x.1]) s = s ++ r.map fun x : Team => x.1 := by
  intro r
  induction r with
  | nil => intro s; simp
  | cons x r ih => intro s; simp [ih]
 simpa using this l []
theorem S62_ok {N : Nat} {l : List Team} {kf : List Int → Option Ret} (hl : l.length ≤ maxLen) (hm : ∀ x ∈ l, x.met.length ≤ maxLen ∧ x.met.length < N) (hN : l.length + 1 < N) : S62 N l kf = kf (standM l) := by
 have hx := maxLen_eq
 unfold S62 standM
 rw [S62_l3_r hl (by omega)]
 have ha : ∀ kf, S60 N l kf = kf (areTeamsM l) := fun kf => S60_ok hl hm (by omega)
 cases hat : areTeamsM l with
 | false =>
  have key : ∀ (l2 : List Team) (body : Nat → Team → List Team → (List Team → Option Ret) → Option Ret) (kend : List Team → Option Ret), (∀ i x s next, body i x s next = kend s) → goL1 body kend l2 0 [] = kend [] := by
   intro l2 body kend h
   cases l2 with
   | nil => rfl
   | cons x r => simp only [goL1]; exact h _ _ _ _
  rw [key _ _ _ (fun i x s next => by rw [ha, hat]; rfl)]
  rw [S62_l11_r (by simp) (by simp; omega)]
  rfl
 | true =>
  have h10 : l.length ≤ 10 := by
   unfold areTeamsM at hat
   simp only [Bool.and_eq_true, decide_eq_true_eq] at hat
   exact hat.1
  rw [goL1_inv (l := l) (g := insM) (Inv := fun i s => s.length = i ∧ i ≤ l.length) (fun i s next h hs => ⟨by
   obtain ⟨h1, h2⟩ := hs
   have hp := posM_le l[i] s s.length
   rw [ha, hat]
   simp only [cond_true]
   rw [S62_l6_ok h (by omega) (by omega) s.length N (Nat.le_refl _) (by omega)]
   have d1 : (decide ((0 : Int) ≤ (0 : Int)) && decide ((0 : Int) ≤ ((posM l[i] s s.length : Nat) : Int)) && decide (((posM l[i] s s.length : Nat) : Int) ≤ (List.length s : Int))) = true := by simp; omega
   have d2 : (decide ((0 : Int) ≤ ((posM l[i] s s.length : Nat) : Int)) && decide (((posM l[i] s s.length : Nat) : Int) ≤ (List.length s : Int)) && decide ((List.length s : Int) ≤ (List.length s : Int))) = true := by simp; omega
   rw [d1, cond_true, d2, cond_true, Int.toNat_natCast, Int.toNat_natCast, List.drop_zero, List.take_length, List.nil_append]
   have l1 : (s.take (posM l[i] s s.length)).length ≤ s.length := by rw [List.length_take]; omega
   have l2 : (s.drop (posM l[i] s s.length)).length ≤ s.length := by rw [List.length_drop]; omega
   rw [decide_eq_true (by simp only [List.length_nil]; omega), cond_true, decide_eq_true (by simp only [List.length_cons, List.length_nil]; omega), cond_true, decide_eq_true (by simp only [List.length_append, List.length_cons, List.length_nil]; omega), cond_true]
   rfl, by rw [insM_len]; omega, h⟩) l 0 [] rfl ⟨rfl, by omega⟩]
  have hlen := sortM_len l
  show S62_l11 (sortM l) N kf [] 0 = _
  rw [S62_l11_r (by omega) (by omega)]
  exact ids_loop (by omega)
end Go.Pv.R
namespace Go.Pv.R
set_option linter.unusedVariables false
set_option linter.unusedSimpArgs false
def teamM (t : List Team) (id : Int) : Team := t.getD (findT t id).toNat zQIIIIILIE
def sideM (t : List Team) (a b : Int) : Pair := bif areTeamsM t && (decide (findT t a ≥ 0) && (decide (findT t b ≥ 0) && (findT t a != findT t b))) then
  (bif decide ((teamM t b).2.2.2.2.1 < (teamM t a).2.2.2.2.1) then (b, a) else bif (teamM t b).2.2.2.2.1 == (teamM t a).2.2.2.2.1 then (bif beforeM (teamM t b) (teamM t a) then (b, a) else (a, b)) else (a, b)) else (0, 0)
theorem S72_ok {N : Nat} {t : List Team} {a b : Int} {kf : Pair → Option Ret} (hl : t.length ≤ maxLen) (hm : ∀ x ∈ t, x.met.length ≤ maxLen ∧ x.met.length < N) (hN : t.length < N) : S72 N t a b kf = kf (sideM t a b) := by
 unfold S72 sideM
 rw [S68_ok hl hN, S68_ok hl hN, S60_ok hl hm hN]
 cases areTeamsM t with
 | false => rfl
 | true =>
  by_cases ha : findT t a ≥ 0
  rotate_left
  ·rw [decide_eq_true (show findT t a < 0 by omega), decide_eq_false ha]; rfl
  by_cases hb : findT t b ≥ 0
  rotate_left
  ·rw [decide_eq_false (show ¬ findT t a < 0 by omega), decide_eq_true ha, decide_eq_true (show findT t b < 0 by omega), decide_eq_false hb]; rfl
  rw [decide_eq_true ha, decide_eq_true hb, decide_eq_false (show ¬ findT t a < 0 by omega), decide_eq_false (show ¬ findT t b < 0 by omega), (findT_in ha).1, (findT_in hb).1]
  simp only [cond_true, cond_false, Bool.not_true, Bool.true_and, S73_ok, bne]
  unfold teamM
  cases (findT t a == findT t b)
  ·simp only [cond_false, Bool.not_false, cond_true]
   cases decide ((t.getD (findT t b).toNat zQIIIIILIE).2.2.2.2.1 < (t.getD (findT t a).toNat zQIIIIILIE).2.2.2.2.1)
   ·simp only [cond_false]
    cases ((t.getD (findT t b).toNat zQIIIIILIE).2.2.2.2.1 == (t.getD (findT t a).toNat zQIIIIILIE).2.2.2.2.1)
    ·rfl
    ·simp only [cond_true]
     cases beforeM (t.getD (findT t b).toNat zQIIIIILIE) (t.getD (findT t a).toNat zQIIIIILIE) <;> rfl
   ·rfl
  ·rfl
theorem teamM_in {t : List Team} {a : Int} (ha : findT t a ≥ 0) : teamM t a ∈ t ∧ (teamM t a).1 = a := by
 obtain ⟨k, hk, e, h1, _⟩ := findM_pos (p := fun x : Team => x.1 == a) (l := t) (by unfold findT at ha; omega)
 have e : findT t a = (k : Int) := e
 unfold teamM
 rw [e, Int.toNat_natCast, getD_nat _ _ hk]
 exact ⟨List.getElem_mem hk, by simpa using h1⟩
end Go.Pv.R
namespace Go.Pv.R
set_option linter.unusedVariables false
set_option linter.unusedSimpArgs false
def restM (L : List Int) (i : Nat) : List Int := List.drop 1 (List.take i L) ++ List.drop (i + 1) L
theorem restM_len {L : List Int} {i : Nat} (h1 : 1 ≤ i) (h : i < L.length) : (restM L i).length = L.length - 2 := by simp [restM]; omega
def pairG (t : List Team) (f : List Int → Option (List Pair)) (L : List Int) : Nat → Nat → Option (List Pair)
 | 0, _ => none
 | k + 1, i => bif mayMeetM t (L.getD 0 0) (L.getD i 0) then
   (match f (restM L i) with
    | some r => some (sideM t (L.getD 0 0) (L.getD i 0) :: r)
    | none => pairG t f L k (i + 1))
  else pairG t f L k (i + 1)
def pairM (t : List Team) : Nat → List Int → Option (List Pair)
 | 0, _ => none
 | n + 1, L => bif decide (L.length = 0) then some [] else pairG t (pairM t n) L (L.length - 1) 1
def ans {α β : Type} (o : Option (List α)) (k : List α → Bool → β) : β := match o with | some r => k r true | none => k [] false
theorem pairG_len {t : List Team} {f : List Int → Option (List Pair)} {L : List Int} (hf : ∀ (L' : List Int) r, f L' = some r → 2 * r.length = L'.length) : ∀ (k i : Nat) r, 1 ≤ i → i + k = L.length → pairG t f L k i = some r → 2 * r.length = L.length
 | 0, i, r, h0, h, e => by simp [pairG] at e
 | k + 1, i, r, h0, h, e => by
  unfold pairG at e
  cases hm : mayMeetM t (L.getD 0 0) (L.getD i 0) with
  | false => rw [hm, cond_false] at e; exact pairG_len hf k (i + 1) r (by omega) (by omega) e
  | true =>
   rw [hm, cond_true] at e
   cases hr : f (restM L i) with
   | none => rw [hr] at e; exact pairG_len hf k (i + 1) r (by omega) (by omega) e
   | some r' =>
    rw [hr] at e
    injection e with e
    subst e
    have h1 := hf _ _ hr
    rw [restM_len h0 (by omega)] at h1
    simp only [List.length_cons]
    omega
theorem pairM_len {t : List Team} : ∀ (n : Nat) (L : List Int) r, pairM t n L = some r → 2 * r.length = L.length
 | 0, L, r, e => by simp [pairM] at e
 | n + 1, L, r, e => by
  unfold pairM at e
  by_cases h : L.length = 0
  ·rw [decide_eq_true h, cond_true] at e
   injection e with e
   subst e
   simp [h]
  ·rw [decide_eq_false h, cond_false] at e
   exact pairG_len (fun L' r' e' => pairM_len n L' r' e') (L.length - 1) 1 r (by omega) (by omega) e
theorem rest_cut {L : List Int} {i : Nat} (h1 : 1 ≤ i) (h : i < L.length) : (decide ((0 : Int) ≤ (1 : Int)) && decide ((1 : Int) ≤ (i : Int)) && decide ((i : Int) ≤ (List.length L : Int))) = true ∧ (decide ((0 : Int) ≤ ((i + 1 : Nat) : Int)) && decide (((i + 1 : Nat) : Int) ≤ (List.length L : Int)) && decide ((List.length L : Int) ≤ (List.length L : Int))) = true := by
 constructor
 ·rw [decide_eq_true (by omega), decide_eq_true (by omega), decide_eq_true (by omega)]; rfl
 ·rw [decide_eq_true (by omega), decide_eq_true (by omega), decide_eq_true (by omega)]; rfl
theorem S61_l4_ok {N B : Nat} {self : List Team → List Int → (List Pair → Bool → Option Ret) → Option Ret} {t : List Team} {f : List Int → Option (List Pair)} {L : List Int} {k0 : Option Ret} {kf : List Pair → Bool → Option Ret}
  (hl : t.length ≤ maxLen) (hm : ∀ x ∈ t, x.met.length ≤ maxLen ∧ x.met.length < N) (hN : t.length < N) (h20 : 20 < N) (hL : L.length ≤ 1000)
  (hs : ∀ (i : Nat) k, 1 ≤ i → i < L.length → self t (restM L i) k = ans (f (restM L i)) k) (hfl : ∀ (L' : List Int) r, f L' = some r → 2 * r.length = L'.length) : ∀ (k i n : Nat), 1 ≤ i → i + k = L.length → k < n →
  S61_l4 N self t L n k0 kf (i : Int) = match pairG t f L k i with | some r => kf r true | none => k0
 | 0, i, n + 1, h1, h, hn => by
  simp only [S61_l4]
  rw [decide_eq_false (by omega)]
  rfl
 | k + 1, i, n + 1, h1, h, hn => by
  have hx := maxLen_eq
  have ih := S61_l4_ok (k0 := k0) (kf := kf) (B := B) hl hm hN h20 hL hs hfl k (i + 1) n (by omega) (by omega) (by omega)
  obtain ⟨d1, d2⟩ := rest_cut (L := L) h1 (by omega)
  have ew : IntKind.wrap .i64 ((i : Int) + 1) = ((i + 1 : Nat) : Int) := wrap_succ (m := L.length) (i := i) (by omega) (by omega)
  simp only [S61_l4]
  rw [decide_eq_true (by omega), cond_true, show inB (0 : Int) (List.length L) = true from inB_nat (i := 0) (show 0 < L.length by omega), cond_true, inB_nat (show i < L.length by omega), cond_true, S71_ok hl hm hN]
  unfold pairG
  show (bif !mayMeetM t (L.getD 0 0) (L.getD i 0) then _ else _) = _
  cases mayMeetM t (L.getD 0 0) (L.getD i 0) with
  | false =>
   simp only [Bool.not_false, cond_true, cond_false]
   rw [ew]
   exact ih
  | true =>
   simp only [Bool.not_true, cond_true, cond_false]
   rw [d1, cond_true, ew, d2, cond_true]
   have e3 : (([] : List Int) ++ List.drop (Int.toNat (1 : Int)) (List.take (Int.toNat (i : Int)) L)) ++ List.drop (Int.toNat ((i + 1 : Nat) : Int)) (List.take (Int.toNat (List.length L : Int)) L) = restM L i := by
    rw [Int.toNat_natCast, Int.toNat_natCast, Int.toNat_natCast, List.take_length]; rfl
   rw [e3]
   rw [decide_eq_true (by simp; omega), cond_true, decide_eq_true (by simp; omega), cond_true, hs i _ h1 (by omega)]
   unfold ans
   cases hr : f (restM L i) with
   | none => exact ih
   | some r =>
    have h2 := hfl _ _ hr
    rw [restM_len h1 (by omega)] at h2
    simp only [cond_true]
    rw [S72_ok hl hm hN, decide_eq_true (by simp; omega), cond_true]
    rfl
theorem S61_ok {t : List Team} {B : Nat} (hl : t.length ≤ maxLen) (hm : ∀ x ∈ t, x.met.length ≤ maxLen ∧ x.met.length < B) (hB : t.length < B) (h20 : 20 < B) : ∀ (n N : Nat) (L : List Int) (kf : List Pair → Bool → Option Ret), L.length ≤ n → L.length < B → L.length ≤ 1000 → B + n + 1 ≤ N → S61 N t L kf = ans (pairM t (n + 1) L) kf
 | n, 0, L, kf, _, _, _, h => by omega
 | n, N + 1, L, kf, h1, h2, h3, h => by
  show S61_b (S61 N) N t L kf = _
  unfold S61_b pairM
  by_cases h0 : L.length = 0
  ·rw [decide_eq_true h0, cond_true]
   have : ((List.length L : Int) == 0) = true := by simp [h0]
   rw [this]; rfl
  ·rw [decide_eq_false h0, cond_false]
   have : ((List.length L : Int) == 0) = false := by simp; intro e; exact h0 (by simp [e])
   rw [this, cond_false]
   obtain ⟨n, rfl⟩ : ∃ m, n = m + 1 := ⟨n - 1, by omega⟩
   have := S61_l4_ok (N := N) (B := B) (self := S61 N) (t := t) (f := pairM t (n + 1)) (L := L) (k0 := kf [] false) (kf := kf) hl (fun x hx => ⟨(hm x hx).1, by have := (hm x hx).2; omega⟩) (by omega) (by omega) h3 (fun i k hi1 hi2 => by
    have hr := restM_len hi1 hi2
    exact S61_ok hl hm hB h20 n N (restM L i) k (by omega) (by omega) (by omega) (by omega)) (fun L' r e => pairM_len (n + 1) L' r e) (L.length - 1) 1 N (by omega) (by omega) (by omega)
   refine Eq.trans this ?_
   unfold ans
   cases pairG t (pairM t (n + 1)) L (L.length - 1) 1 <;> rfl
def roundM (t : List Team) : Option (List Pair) := bif areTeamsM t then bif decide (t.length % 2 = 1) then none else pairM t (t.length + 1) (standM t) else none
theorem standM_len {t : List Team} (h : areTeamsM t = true) : (standM t).length = t.length := by unfold standM; rw [h, cond_true, List.length_map, sortM_len]
theorem roundM_len {t : List Team} {r : List Pair} (h : roundM t = some r) : 2 * r.length = t.length ∧ t.length ≤ 10 := by
 unfold roundM at h
 cases hat : areTeamsM t with
 | false => rw [hat] at h; simp at h
 | true =>
  have hat2 := hat
  unfold areTeamsM at hat2
  simp only [Bool.and_eq_true, decide_eq_true_eq] at hat2
  rw [hat, cond_true] at h
  by_cases ho : t.length % 2 = 1
  ·rw [decide_eq_true ho] at h; simp at h
  ·rw [decide_eq_false ho, cond_false] at h
   have := pairM_len _ _ _ h
   rw [standM_len hat] at this
   exact ⟨this, hat2.1⟩
theorem tmod2 (n : Nat) : (Int.tmod (n : Int) 2 == 1) = decide (n % 2 = 1) := by
 have : Int.tmod (n : Int) 2 = ((n % 2 : Nat) : Int) := by
  rw [Int.tmod_eq_emod_of_nonneg (by omega)]; omega
 rw [this]
 by_cases h : n % 2 = 1
 ·rw [h]; rfl
 ·rw [decide_eq_false h]; simp; omega
theorem S45_ok {N : Nat} {t : List Team} {kf : List Pair → Bool → Option Ret} (hl : t.length ≤ maxLen) (hm : ∀ x ∈ t, x.met.length ≤ maxLen ∧ x.met.length + 20 < N) (hN : t.length + 20 < N) (h60 : 60 < N) : S45 N t kf = ans (roundM t) kf := by
 have hx := maxLen_eq
 unfold S45 roundM
 rw [S60_ok hl (fun x hx => ⟨(hm x hx).1, by have := (hm x hx).2; omega⟩) (by omega)]
 cases hat : areTeamsM t with
 | false => rfl
 | true =>
  have hat2 := hat
  unfold areTeamsM at hat2
  simp only [Bool.and_eq_true, decide_eq_true_eq] at hat2
  rw [tmod2]
  by_cases ho : t.length % 2 = 1
  ·rw [decide_eq_true ho]; rfl
  ·rw [decide_eq_false ho]
   simp only [Bool.not_true, cond_true, cond_false]
   rw [S62_ok hl (fun x hx => ⟨(hm x hx).1, by have := (hm x hx).2; omega⟩) (by omega)]
   have hs := standM_len hat
   exact S61_ok (B := N - 15) hl (fun x hx => ⟨(hm x hx).1, by have := (hm x hx).2; omega⟩) (by omega) (by omega) t.length N _ _ (by omega) (by omega) (by omega) (by omega)
end Go.Pv.R
namespace Go.Pv.R
set_option linter.unusedVariables false
set_option linter.unusedSimpArgs false
def seatG (t : List Team) (js : List Judge) (p : Pair) (used : List Int) (f : List Int → Option (List Int)) : Nat → Nat → Option (List Int)
 | 0, _ => none
 | k + 1, i => bif hasM used (js.getD i zQIILIE).1 then seatG t js p used f k (i + 1) else
   bif mayJudgeM t (js.getD i zQIILIE) p then
   (match f (used ++ [(js.getD i zQIILIE).1]) with
    | some r => some ((js.getD i zQIILIE).1 :: r)
    | none => seatG t js p used f k (i + 1))
  else seatG t js p used f k (i + 1)
def seatM (t : List Team) (js : List Judge) : List Pair → List Int → Option (List Int)
 | [], _ => some []
 | p :: ps, used => seatG t js p used (seatM t js ps) js.length 0
def ansK {α β : Type} (o : Option (List α)) (k0 : β) (k : List α → Bool → β) : β := match o with | some r => k r true | none => k0
theorem ansK_eq {α β : Type} (o : Option (List α)) (k : List α → Bool → β) : ansK o (k [] false) k = ans o k := by cases o <;> rfl
def SeatOK (js : List Judge) (n : Nat) (used r : List Int) : Prop := r.length = n ∧ r.Nodup ∧ ∀ x ∈ r, x ∈ js.map (fun x : Judge => x.1) ∧ x ∉ used
theorem seatG_len {t : List Team} {js : List Judge} {p : Pair} {used : List Int} {f : List Int → Option (List Int)} {n : Nat} (hf : ∀ u r, f u = some r → SeatOK js n u r) : ∀ (k i : Nat) r, i + k = js.length → seatG t js p used f k i = some r → SeatOK js (n + 1) used r
 | 0, i, r, h, e => by simp [seatG] at e
 | k + 1, i, r, h, e => by
  unfold seatG at e
  cases hu : hasM used (js.getD i zQIILIE).1 with
  | true => rw [hu, cond_true] at e; exact seatG_len hf k (i + 1) r (by omega) e
  | false =>
   rw [hu, cond_false] at e
   cases hm : mayJudgeM t (js.getD i zQIILIE) p with
   | false => rw [hm, cond_false] at e; exact seatG_len hf k (i + 1) r (by omega) e
   | true =>
    rw [hm, cond_true] at e
    cases hr : f (used ++ [(js.getD i zQIILIE).1]) with
    | none => rw [hr] at e; exact seatG_len hf k (i + 1) r (by omega) e
    | some r' =>
     rw [hr] at e
     injection e with e
     subst e
     obtain ⟨h1, h2, h3⟩ := hf _ _ hr
     have hin : (js.getD i zQIILIE).1 ∈ js.map (fun x : Judge => x.1) := by
      rw [getD_nat _ _ (show i < js.length by omega)]
      exact List.mem_map.2 ⟨_, List.getElem_mem _, rfl⟩
     have hnu : (js.getD i zQIILIE).1 ∉ used := fun hc => by
      have := hasM_iff.2 hc
      rw [hu] at this
      cases this
     refine ⟨by simp [h1], List.nodup_cons.2 ⟨fun hc => ?_, h2⟩, fun x hx => ?_⟩
     ·have := (h3 _ hc).2
      simp at this
     ·rcases List.mem_cons.1 hx with rfl | hx
      ·exact ⟨hin, hnu⟩
      ·obtain ⟨q1, q2⟩ := h3 x hx
       refine ⟨q1, fun hc => q2 ?_⟩
       simp [hc]
theorem seatM_ok {t : List Team} {js : List Judge} : ∀ (ps : List Pair) (used r : List Int), seatM t js ps used = some r → SeatOK js ps.length used r
 | [], used, r, e => by
  unfold seatM at e
  injection e with e
  subst e
  exact ⟨rfl, List.nodup_nil, fun x hx => by simp at hx⟩
 | p :: ps, used, r, e => seatG_len (fun u r e => seatM_ok ps u r e) js.length 0 r (by omega) e
theorem nodup_le : ∀ (r L : List Int), r.Nodup → (∀ x ∈ r, x ∈ L) → r.length ≤ L.length
 | [], L, _, _ => by simp
 | x :: r, L, hn, h => by
  rw [List.nodup_cons] at hn
  have hx := h x (by simp)
  have h1 := List.length_erase_of_mem hx
  have h2 := List.length_pos_of_mem hx
  have := nodup_le r (L.erase x) hn.2 fun y hy => by
   have hne : y ≠ x := fun e => hn.1 (e ▸ hy)
   exact (List.mem_erase_of_ne hne).2 (h y (by simp [hy]))
  simp only [List.length_cons]
  omega
theorem one_cut {p : Pair} {ps : List Pair} : (decide ((0 : Int) ≤ (1 : Int)) && decide ((1 : Int) ≤ (List.length (p :: ps) : Int)) && decide ((List.length (p :: ps) : Int) ≤ (List.length (p :: ps) : Int))) = true ∧ List.drop (Int.toNat (1 : Int)) (List.take (Int.toNat (List.length (p :: ps) : Int)) (p :: ps)) = ps := by
 constructor
 ·rw [decide_eq_true (by omega), decide_eq_true (by simp only [List.length_cons]; omega), decide_eq_true (by omega)]; rfl
 ·rw [Int.toNat_natCast, List.take_length]; rfl
theorem S64_l4_ok {N : Nat} {self : List Team → List Judge → List Pair → List Int → (List Int → Bool → Option Ret) → Option Ret} {t : List Team} {js : List Judge} {p : Pair} {ps : List Pair} {used : List Int} {f : List Int → Option (List Int)} {k0 : Option Ret} {kf : List Int → Bool → Option Ret}
  (hl : t.length ≤ maxLen) (hN : t.length < N) (h20 : 20 < N) (hj : js.length ≤ 1048700) (hjm : ∀ x ∈ js, x.2.2.length ≤ maxLen ∧ x.2.2.length < N) (hu : used.length ≤ 1000) (huN : used.length < N)
  (hs : ∀ (x : Int) k, self t js ps (used ++ [x]) k = ans (f (used ++ [x])) k) (hfl : ∀ (u : List Int) r, f u = some r → r.length ≤ 1000) : ∀ (k i n : Nat), i + k = js.length → k < n →
  S64_l4 N self t js (p :: ps) used n k0 kf (i : Int) = ansK (seatG t js p used f k i) k0 kf
 | 0, i, n + 1, h, hn => by
  simp only [S64_l4]
  rw [decide_eq_false (by omega)]
  rfl
 | k + 1, i, n + 1, h, hn => by
  have hx := maxLen_eq
  have ih := S64_l4_ok (k0 := k0) (kf := kf) (p := p) hl hN h20 hj hjm hu huN hs hfl k (i + 1) n (by omega) (by omega)
  have ew : IntKind.wrap .i64 ((i : Int) + 1) = ((i + 1 : Nat) : Int) := wrap_succ (m := js.length) (i := i) (by omega) (by omega)
  obtain ⟨d1, d2⟩ := one_cut (p := p) (ps := ps)
  have hi : i < js.length := by omega
  obtain ⟨m1, m2⟩ := hjm js[i] (List.getElem_mem hi)
  simp only [S64_l4]
  rw [decide_eq_true (by omega), cond_true, inB_nat hi, cond_true, S74_ok (by omega) huN]
  unfold seatG
  have eg : js.getD (Int.toNat (i : Int)) zQIILIE = js[i] := getD_nat _ _ hi _
  have eg2 : js.getD i zQIILIE = js[i] := getD_nat _ _ hi _
  rw [eg, eg2]
  cases hasM used js[i].1 with
  | true =>
   simp only [cond_true]
   rw [ew]
   exact ih
  | false =>
   simp only [cond_false]
   rw [cond_true, show inB (0 : Int) (List.length (p :: ps)) = true from inB_nat (i := 0) (by simp), cond_true, S75_ok hl hN m1 m2]
   show (bif !mayJudgeM t js[i] p then _ else _) = _
   cases mayJudgeM t js[i] p with
   | false =>
    simp only [Bool.not_false, cond_true, cond_false]
    rw [ew]
    exact ih
   | true =>
    simp only [Bool.not_true, cond_true, cond_false]
    rw [d1, cond_true, d2, decide_eq_true (by simp; omega), cond_true, decide_eq_true (by simp; omega), cond_true, List.nil_append, hs, ew]
    unfold ans
    cases hr : f (used ++ [js[i].1]) with
    | none => exact ih
    | some r =>
     have := hfl _ _ hr
     simp only [cond_true]
     rw [decide_eq_true (by simp; omega), cond_true]
     rfl
theorem S64_ok {t : List Team} {js : List Judge} {B : Nat} (hl : t.length ≤ maxLen) (hN : t.length < B) (h20 : 20 < B) (hj : js.length ≤ 1048700) (hjN : js.length < B) (hjm : ∀ x ∈ js, x.2.2.length ≤ maxLen ∧ x.2.2.length < B) : ∀ (ps : List Pair) (N : Nat) (used : List Int) (kf : List Int → Bool → Option Ret), used.length + ps.length ≤ 900 → used.length + ps.length < B → B + ps.length + 1 ≤ N → S64 N t js ps used kf = ans (seatM t js ps used) kf
 | ps, 0, used, kf, _, _, h => by omega
 | [], N + 1, used, kf, _, _, _ => rfl
 | p :: ps, N + 1, used, kf, h1, h2, h => by
  simp only [List.length_cons] at h h1 h2
  show S64_b (S64 N) N t js (p :: ps) used kf = _
  unfold S64_b seatM
  have e : ((List.length (p :: ps) : Int) == 0) = false := by simp; omega
  rw [e, cond_false, ← ansK_eq]
  exact S64_l4_ok (N := N) (self := S64 N) (f := seatM t js ps) hl (by omega) (by omega) hj (fun x hx => ⟨(hjm x hx).1, by have := (hjm x hx).2; omega⟩) (by omega) (by omega) (fun x k => S64_ok hl hN h20 hj hjN hjm ps N _ k (by simp; omega) (by simp; omega) (by omega)) (fun u r e => by have := (seatM_ok ps u r e).1; omega) js.length 0 N (by omega) (by omega)
def seatsM (t : List Team) (js : List Judge) (ps : List Pair) : Option (List Int) := bif areJudgesM js && areTeamsM t then seatM t js ps [] else none
theorem S46_ok {N : Nat} {t : List Team} {js : List Judge} {ps : List Pair} {kf : List Int → Bool → Option Ret} (hl : t.length ≤ maxLen) (hm : ∀ x ∈ t, x.met.length ≤ maxLen ∧ x.met.length + 20 < N) (hN : t.length + 20 < N) (h60 : 60 < N) (hj : js.length ≤ 1048700) (hjN : js.length + 20 < N) (hjm : ∀ x ∈ js, x.2.2.length ≤ maxLen ∧ x.2.2.length + 20 < N) (hp : ps.length ≤ 10) : S46 N t js ps kf = ans (seatsM t js ps) kf := by
 have hx := maxLen_eq
 unfold S46 seatsM
 rw [S63_ok (by omega) (fun x hx => ⟨(hjm x hx).1, by have := (hjm x hx).2; omega⟩) (by omega)]
 cases areJudgesM js with
 | false => rfl
 | true =>
  simp only [Bool.not_true, cond_false, Bool.true_and]
  rw [S60_ok hl (fun x hx => ⟨(hm x hx).1, by have := (hm x hx).2; omega⟩) (by omega)]
  cases areTeamsM t with
  | false => rfl
  | true => exact S64_ok (B := N - 15) hl (by omega) (by omega) hj (by omega) (fun x hx => ⟨(hjm x hx).1, by have := (hjm x hx).2; omega⟩) ps N [] kf (by simp; omega) (by simp; omega) (by omega)
theorem seatsM_len {t : List Team} {js : List Judge} {ps : List Pair} {ss : List Int} (h : seatsM t js ps = some ss) : ss.length = ps.length := by
 unfold seatsM at h
 cases hb : (areJudgesM js && areTeamsM t) with
 | false => rw [hb] at h; simp at h
 | true => rw [hb, cond_true] at h; exact (seatM_ok _ _ _ h).1
end Go.Pv.R
namespace Go.Pv.R
set_option linter.unusedVariables false
set_option linter.unusedSimpArgs false
def two {α : Type} (t : List α) (i j : Nat) (x y : α) : List α := (t.set i x).set j y
section
variable {α : Type} {t : List α} {i j : Nat} {x y x' y' z : α}
theorem two_len : (two t i j x y).length = t.length := by simp [two]
theorem two_getI (h : i ≠ j) (hi : i < t.length) : (two t i j x y).getD i z = x := by
 rw [List.getD_eq_getElem?_getD, two, List.getElem?_set_ne (by omega), List.getElem?_set_self hi]; rfl
theorem two_getJ (hj : j < t.length) : (two t i j x y).getD j z = y := by
 rw [List.getD_eq_getElem?_getD, two, List.getElem?_set_self (by simpa using hj)]; rfl
theorem two_setI (h : i ≠ j) : (two t i j x y).set i x' = two t i j x' y := by
 unfold two
 rw [List.set_comm _ _ (fun e => h e.symm), List.set_set]
theorem two_setJ : (two t i j x y).set j y' = two t i j x y' := by
 unfold two
 rw [List.set_set]
theorem one_getJ (h : i ≠ j) : (t.set i x).getD j z = t.getD j z := by
 rw [List.getD_eq_getElem?_getD, List.getElem?_set_ne (by omega), ← List.getD_eq_getElem?_getD]
theorem one_two : (t.set i x).set j y = two t i j x y := by rw [two]
end
def newI (t : List Team) (i : Nat) (b d p : Int) : Team := ((t.getD i zQIIIIILIE).1, ((t.getD i zQIIIIILIE).2.1, ((bif d == 1 then IntKind.wrap .i64 ((t.getD i zQIIIIILIE).2.2.1 + 1) else (t.getD i zQIIIIILIE).2.2.1), (IntKind.wrap .i64 ((t.getD i zQIIIIILIE).2.2.2.1 + p), (IntKind.wrap .i64 ((t.getD i zQIIIIILIE).2.2.2.2.1 + 1), (t.getD i zQIIIIILIE).2.2.2.2.2 ++ [b])))))
def newJ2 (t : List Team) (j : Nat) (a d q : Int) : Team := ((t.getD j zQIIIIILIE).1, ((t.getD j zQIIIIILIE).2.1, ((bif d == 1 then (t.getD j zQIIIIILIE).2.2.1 else IntKind.wrap .i64 ((t.getD j zQIIIIILIE).2.2.1 + 1)), (IntKind.wrap .i64 ((t.getD j zQIIIIILIE).2.2.2.1 + q), ((t.getD j zQIIIIILIE).2.2.2.2.1, (t.getD j zQIIIIILIE).2.2.2.2.2 ++ [a])))))
def addT (t : List Team) (a b d p q : Int) : List Team := two t (findT t a).toNat (findT t b).toNat (newI t (findT t a).toNat b d p) (newJ2 t (findT t b).toNat a d q)
def mayAdd (t : List Team) (a b d p q : Int) : Bool := areTeamsM t && (decide (findT t a ≥ 0) && (decide (findT t b ≥ 0) && ((findT t a != findT t b) && (inR d 1 2 && (inR p 0 1000 && inR q 0 1000)))))
def addB2 (t : List Team) (a b d p q : Int) : Bool := mayAdd t a b d p q && areTeamsM (addT t a b d p q)
def addL (t : List Team) (a b d p q : Int) : List Team := bif addB2 t a b d p q then addT t a b d p q else t
theorem addT_mem {t : List Team} {a b d p q : Int} {N : Nat} (ha : findT t a ≥ 0) (hb : findT t b ≥ 0) (h : ∀ x : Team, x ∈ t → x.met.length + 1 < N) : ∀ x : Team, x ∈ addT t a b d p q → x.met.length < N := by
 intro x hx
 unfold addT two at hx
 rcases List.mem_or_eq_of_mem_set hx with hx | rfl
 ·rcases List.mem_or_eq_of_mem_set hx with hx | rfl
  ·have := h x hx; omega
  ·have := h _ (teamM_in ha).1
   show ((t.getD (findT t a).toNat zQIIIIILIE).2.2.2.2.2 ++ [b]).length < N
   rw [List.length_append]; exact this
 ·have := h _ (teamM_in hb).1
  show ((t.getD (findT t b).toNat zQIIIIILIE).2.2.2.2.2 ++ [a]).length < N
  rw [List.length_append]; exact this
theorem S59_ok {N : Nat} {t : List Team} {a b d p q : Int} {kf : List Team → Bool → Option Ret} (hl : t.length ≤ 1048700) (hm : ∀ x : Team, x ∈ t → x.met.length ≤ 1048700 ∧ x.met.length + 1 < N) (hN : t.length < N) : S59 N t a b d p q kf = kf (addL t a b d p q) (addB2 t a b d p q) := by
 have hx := maxLen_eq
 have hm1 : ∀ x ∈ t, x.met.length ≤ maxLen ∧ x.met.length < N := fun x hx => by have := hm x hx; omega
 unfold S59 addL addB2 mayAdd
 rw [S51_ok hl (fun x hx => (hm x hx).1) hN, S68_ok (by omega) hN, S68_ok (by omega) hN, S60_ok (by omega) hm1 hN]
 simp only [S69_ok]
 cases areTeamsM t with
 | false => rfl
 | true =>
  by_cases ha : findT t a ≥ 0
  rotate_left
  ·rw [decide_eq_true (show findT t a < 0 by omega), decide_eq_false ha]; rfl
  by_cases hb : findT t b ≥ 0
  rotate_left
  ·rw [decide_eq_false (show ¬ findT t a < 0 by omega), decide_eq_true ha, decide_eq_true (show findT t b < 0 by omega), decide_eq_false hb]; rfl
  have hT : ∀ x : Team, x ∈ addT t a b d p q → x.met.length < N := addT_mem ha hb fun x hx => (hm x hx).2
  have hT2 : ∀ x : Team, x ∈ addT t a b d p q → x.met.length < 1048800 := addT_mem ha hb fun x hx => by have := (hm x hx).1; omega
  obtain ⟨i, hi, ei, _⟩ := findM_pos (p := fun x : Team => x.1 == a) (l := t) (by unfold findT at ha; omega)
  obtain ⟨j, hj, ej, _⟩ := findM_pos (p := fun x : Team => x.1 == b) (l := t) (by unfold findT at hb; omega)
  have ei : findT t a = (i : Int) := ei
  have ej : findT t b = (j : Int) := ej
  unfold addT at hT hT2 ⊢
  rw [ei, ej] at hT hT2 ⊢
  simp only [Int.toNat_natCast] at hT hT2 ⊢
  rw [decide_eq_true (show (i : Int) ≥ 0 by omega), decide_eq_true (show (j : Int) ≥ 0 by omega), decide_eq_false (show ¬ (i : Int) < 0 by omega), decide_eq_false (show ¬ (j : Int) < 0 by omega)]
  simp only [Bool.not_true, cond_false, Bool.true_and]
  by_cases hij : i = j
  ·subst hij; simp
  have e1 : ((i : Int) == (j : Int)) = false := by simpa using fun e => hij (by omega)
  have e2 : ((i : Int) != (j : Int)) = true := by simp only [bne, e1]; rfl
  rw [e1, e2]
  cases inR d 1 2 with
  | false => rfl
  | true =>
  cases inR p 0 1000 with
  | false => rfl
  | true =>
  cases inR q 0 1000 with
  | false => rfl
  | true =>
  have li := (hm _ (List.getElem_mem hi)).1
  have lj := (hm _ (List.getElem_mem hj)).1
  have gi : t.getD i zQIIIIILIE = t[i] := getD_nat _ _ hi _
  have gj : t.getD j zQIIIIILIE = t[j] := getD_nat _ _ hj _
  have b1 : decide ((List.length (t.getD i zQIIIIILIE).2.2.2.2.2 + List.length [b]) * 1 ≤ 4398046511104) = true := by rw [gi]; exact decide_eq_true (by have : t[i].2.2.2.2.2.length ≤ 1048700 := li; simp; omega)
  have b2 : decide ((List.length (t.getD j zQIIIIILIE).2.2.2.2.2 + List.length [a]) * 1 ≤ 4398046511104) = true := by rw [gj]; exact decide_eq_true (by have : t[j].2.2.2.2.2.length ≤ 1048700 := lj; simp; omega)
  simp only [one_getJ hij, List.length_set, inB_nat hi, inB_nat hj, cond_true, cond_false, Bool.not_true, b1, b2, Nat.beq_refl, share, one_two, two_len, two_getI hij hi, two_getJ hj, two_setI hij, two_setJ, Bool.true_and]
  have hW : (two t i j (newI t i b d p) (newJ2 t j a d q)).length = t.length := two_len
  have key : S59_j1 N t kf (two t i j (newI t i b d p) (newJ2 t j a d q)) = kf (bif areTeamsM (two t i j (newI t i b d p) (newJ2 t j a d q)) then two t i j (newI t i b d p) (newJ2 t j a d q) else t) (areTeamsM (two t i j (newI t i b d p) (newJ2 t j a d q))) := by
   unfold S59_j1
   rw [S60_ok (by omega) (fun x hx => ⟨by have := hT2 x hx; omega, hT x hx⟩) (by omega)]
   cases areTeamsM (two t i j (newI t i b d p) (newJ2 t j a d q)) with
   | false => simp only [Bool.not_false, cond_true, cond_false]; rw [S51_ok hl (fun x hx => (hm x hx).1) hN]
   | true => rfl
  refine Eq.trans ?_ key
  unfold newI newJ2
  cases d == 1 <;> rfl
end Go.Pv.R
namespace Go.Pv
set_option linter.unusedVariables false
end Go.Pv
namespace Go.Pv.R
set_option linter.unusedVariables false
set_option linter.unusedSimpArgs false
theorem addB2_find {t : List Team} {a b d p q : Int} (h : addB2 t a b d p q = true) : findT t a ≥ 0 ∧ findT t b ≥ 0 := by
 unfold addB2 mayAdd at h
 simp only [Bool.and_eq_true, decide_eq_true_eq] at h
 exact ⟨h.1.2.1, h.1.2.2.1⟩
theorem addL_len {t : List Team} {a b d p q : Int} : (addL t a b d p q).length = t.length := by
 unfold addL
 cases addB2 t a b d p q with
 | false => rfl
 | true => exact two_len
theorem addL_mem {t : List Team} {a b d p q : Int} {M : Nat} (h : ∀ x : Team, x ∈ t → x.met.length ≤ M) : ∀ x : Team, x ∈ addL t a b d p q → x.met.length ≤ M + 1 := by
 intro x hx
 unfold addL at hx
 cases hb : addB2 t a b d p q with
 | false => rw [hb, cond_false] at hx; have := h x hx; omega
 | true =>
  rw [hb, cond_true] at hx
  have := addT_mem (N := M + 2) (addB2_find hb).1 (addB2_find hb).2 (fun x hx => by have := h x hx; omega) x hx
  omega
def seatAt (c : Club) (i : Nat) : Int := c.2.2.2.1.getD i 0
end Go.Pv.R
namespace Go.Pv.R
set_option linter.unusedVariables false
set_option linter.unusedSimpArgs false
theorem seen_asc {s : List Int} (h : seenP s = true) : Asc s ∧ s.length ≤ 99 := by
 unfold seenP at h
 rw [allI_iff] at h
 have step : ∀ (i : Nat) (hi : i < s.length), (1 ≤ s[i] ∧ s[i] ≤ 99) ∧ (0 < i → s.getD (i - 1) 0 < s[i]) := fun i hi => by
  have := h i hi
  rw [Nat.zero_add] at this
  simp only [Bool.and_eq_true, Bool.or_eq_true, decide_eq_true_eq, inR_iff] at this
  exact ⟨this.1, fun h0 => by omega⟩
 have mono : ∀ (i : Nat) (hi : i < s.length) (j : Nat) (hj : j < i), s[j]'(by omega) < s[i] := by
  intro i
  induction i with
  | zero => intro hi j hj; omega
  | succ i ih =>
   intro hi j hj
   have h1 := (step (i + 1) hi).2 (by omega)
   rw [Nat.add_sub_cancel, getD_nat _ _ (show i < s.length by omega)] at h1
   rcases Nat.lt_or_eq_of_le (Nat.le_of_lt_succ hj) with h2 | rfl
   ·have := ih (by omega) j h2; omega
   ·exact h1
 have ha : Asc s := List.pairwise_iff_getElem.2 fun j i hj hi hji => mono i hi j hji
 refine ⟨ha, ?_⟩
 have hn : s.Nodup := ha.imp fun h => by omega
 have := nodup_le s ((List.range 100).map fun n : Nat => (n : Int)) hn fun x hx => by
  obtain ⟨i, hi, rfl⟩ := List.mem_iff_getElem.1 hx
  have := (step i hi).1
  exact List.mem_map.2 ⟨s[i].toNat, by rw [List.mem_range]; omega, by omega⟩
 have h0 : (0 : Int) ∉ s := fun hc => by
  obtain ⟨i, hi, e⟩ := List.mem_iff_getElem.1 hc
  have := (step i hi).1
  omega
 have := nodup_le (0 :: s) ((List.range 100).map fun n : Nat => (n : Int)) (List.nodup_cons.2 ⟨h0, hn⟩) fun x hx => by
  rcases List.mem_cons.1 hx with rfl | hx
  ·exact List.mem_map.2 ⟨0, by simp, rfl⟩
  ·obtain ⟨i, hi, rfl⟩ := List.mem_iff_getElem.1 hx
   have := (step i hi).1
   exact List.mem_map.2 ⟨s[i].toNat, by rw [List.mem_range]; omega, by omega⟩
 simp only [List.length_cons, List.length_map, List.length_range] at this
 omega
end Go.Pv.R
namespace Go.Pv.R
set_option linter.unusedVariables false
set_option linter.unusedSimpArgs false
structure Small (c : Club) : Prop where
 t10 : c.1.length ≤ 10
 tm : ∀ x : Team, x ∈ c.1 → x.met.length ≤ 20
 j10 : c.2.1.length ≤ 10
 js : ∀ x : Judge, x ∈ c.2.1 → x.2.2.length ≤ 99
 r10 : c.2.2.1.length ≤ 10
 s10 : c.2.2.2.1.length ≤ 10
 b10 : c.2.2.2.2.1.length ≤ 10
 m200 : c.2.2.2.2.2.1.length ≤ 200
theorem small_of {c : Club} (hc : isClubM c = true) : Small c := by
 obtain ⟨l1, l2⟩ := isClub_lens hc
 unfold isClubM at hc
 simp only [Bool.and_eq_true, Bool.or_eq_true, decide_eq_true_eq] at hc
 obtain ⟨ht, hj, hm, _, _, hs, hb, _⟩ := hc
 unfold areMinM at hm
 simp only [Bool.and_eq_true, decide_eq_true_eq] at hm
 unfold areTeamsM at ht
 simp only [Bool.and_eq_true, decide_eq_true_eq] at ht
 obtain ⟨t10, htp, _⟩ := ht
 unfold areJudgesM at hj
 simp only [Bool.and_eq_true, decide_eq_true_eq] at hj
 obtain ⟨j10, hjp⟩ := hj
 rw [allI_iff] at htp hjp
 have r10 : c.2.2.1.length ≤ 10 := by
  rcases hs with hs | hs
  ·omega
  ·have hs : areSeatedM c.1 c.2.1 c.2.2.1 c.2.2.2.1 = true := hs.2
   unfold areSeatedM at hs
   simp only [Bool.and_eq_true, decide_eq_true_eq] at hs
   obtain ⟨_, _, hs⟩ := hs
   rw [allI_iff] at hs
   have sP : ∀ i, i < c.2.2.1.length → findJ c.2.1 (seatAt c i) ≥ 0 ∧ hasM (c.2.2.2.1.take i) (seatAt c i) = false := fun i hi => by
    have := hs i hi
    rw [Nat.zero_add] at this
    unfold seatP at this
    simp only [Bool.and_eq_true, decide_eq_true_eq, Bool.not_eq_true'] at this
    exact ⟨this.1, this.2.1⟩
   have hn : c.2.2.2.1.Nodup := List.pairwise_iff_getElem.2 fun i j hi hj hij e => by
    have h1 := (sP j (by omega)).2
    have h2 : hasM (c.2.2.2.1.take j) (seatAt c j) = true := by
     rw [hasM_iff]
     unfold seatAt
     rw [getD_nat _ _ hj, ← e]
     exact List.mem_iff_getElem.2 ⟨i, by rw [List.length_take]; omega, by rw [List.getElem_take]⟩
    rw [h1] at h2
    cases h2
   have hle := nodup_le c.2.2.2.1 (c.2.1.map fun x : Judge => x.1) hn fun x hx => by
    obtain ⟨i, hi, rfl⟩ := List.mem_iff_getElem.1 hx
    have h1 := (sP i (by omega)).1
    unfold seatAt at h1
    rw [getD_nat _ _ hi] at h1
    obtain ⟨k, hk, e, h2, _⟩ := findM_pos (p := fun x : Judge => x.1 == c.2.2.2.1[i]) (l := c.2.1) (by unfold findJ at h1; omega)
    exact List.mem_map.2 ⟨c.2.1[k], List.getElem_mem hk, by simpa using h2⟩
   rw [List.length_map] at hle
   omega
 refine ⟨t10, fun x hx => ?_, j10, fun x hx => ?_, r10, by omega, by omega, hm.1⟩
 ·obtain ⟨i, hi, rfl⟩ := List.mem_iff_getElem.1 hx
  have := htp i hi
  unfold teamP at this
  simp only [Bool.and_eq_true, decide_eq_true_eq] at this
  exact this.2.2.2.2.2.1
 ·obtain ⟨i, hi, rfl⟩ := List.mem_iff_getElem.1 hx
  have := hjp i hi
  unfold judgeP at this
  simp only [Bool.and_eq_true, decide_eq_true_eq] at this
  exact (seen_asc this.2.2.2).2
theorem Small.okC {c : Club} {N : Nat} (h : Small c) (hN : 300 < N) : ClubOK c N := by
 have hx := maxLen_eq
 obtain ⟨h1, h2, h3, h4, h5, h6, h7, h8⟩ := h
 exact ⟨by omega, fun x hx => by have := h2 x hx; omega, by omega, by omega, fun x hx => by have := h4 x hx; omega, by omega, by omega, by omega, by omega, by omega, by omega, by omega, by omega, by omega, by omega, by omega, fun x hx => by have := h2 x hx; omega, by omega, fun x hx => by have := h4 x hx; omega⟩
end Go.Pv.R
namespace Go.Pv.R
set_option linter.unusedVariables false
set_option linter.unusedSimpArgs false
end Go.Pv.R
namespace Go.Pv.R
set_option linter.unusedVariables false
set_option linter.unusedSimpArgs false
end Go.Pv.R
namespace Go.Pv.R
set_option linter.unusedVariables false
set_option linter.unusedSimpArgs false
end Go.Pv.R
namespace Go.Pv.R
set_option linter.unusedVariables false
set_option linter.unusedSimpArgs false
end Go.Pv.R
namespace Go.Pv.R
set_option linter.unusedVariables false
set_option linter.unusedSimpArgs false
end Go.Pv.R
namespace Go.Pv.R
set_option linter.unusedVariables false
set_option linter.unusedSimpArgs false
end Go.Pv.R
namespace Go.Pv.R
set_option linter.unusedVariables false
set_option linter.unusedSimpArgs false
end Go.Pv.R
namespace Go.Pv.R
set_option linter.unusedVariables false
set_option linter.unusedSimpArgs false
def isum {α : Type} (g : α → Int) : List α → Int
 | [] => 0
 | x :: r => g x + isum g r
def metN (x : Team) : Int := (x.met.length : Int)
structure Fair (t : List Team) : Prop where
 nd : ∀ x : Team, x ∈ t → x.met.Nodup
 df : ∀ x y : Team, x ∈ t → y ∈ t → y.1 ∈ x.met → x.2.1 ≠ y.2.1
 w : 2 * isum (fun x : Team => x.2.2.1) t = isum metN t
 f : 2 * isum (fun x : Team => x.2.2.2.2.1) t = isum metN t
structure Good (c : Club) : Prop where
 cl : isClubM c = true
 fa : Fair c.1
 mi : (fours c.2.2.2.2.2.1 : Int) = c.2.2.2.2.2.2 + c.2.2.2.2.1.length - (waitM c).length
structure ClubIs (c : Club) : Prop where
 t : areTeamsM c.1 = true
 j : areJudgesM c.2.1 = true
 m : areMinM c.2.2.2.2.2.1 = true
 sl : c.2.2.2.1.length = c.2.2.1.length
 bl : c.2.2.2.2.1.length = c.2.2.1.length
 ro : c.2.2.1.length = 0 ∨ (isRoundM c.1 c.2.2.1 = true ∧ areSeatedM c.1 c.2.1 c.2.2.1 c.2.2.2.1 = true)
 ba : allI (ballotP c) c.2.2.2.2.1 0 = true
 pl : 0 ≤ c.2.2.2.2.2.2 ∧ c.2.2.2.2.2.2 ≤ 1000
 tw : totalWinsM c.1 = c.2.2.2.2.2.2
theorem club_is {c : Club} (h : isClubM c = true) : ClubIs c := by
 unfold isClubM at h
 simp only [Bool.and_eq_true, Bool.or_eq_true, decide_eq_true_eq, inR_iff, beq_iff_eq] at h
 exact ⟨h.1, h.2.1, h.2.2.1, h.2.2.2.1, h.2.2.2.2.1, h.2.2.2.2.2.1, h.2.2.2.2.2.2.1, h.2.2.2.2.2.2.2.1, h.2.2.2.2.2.2.2.2⟩
end Go.Pv.R
namespace Go.Pv.R
set_option linter.unusedVariables false
set_option linter.unusedSimpArgs false
abbrev Cur := QLIIIE
def CurOK (c : Cur) : Prop := 0 ≤ c.2.1 ∧ c.1.length ≤ 1048576
def Draws {α : Type} (F : Cur → (α → Cur → Option Ret) → Option Ret) (P : α → Prop) : Prop := ∀ c : Cur, CurOK c → ∃ v, ∃ c' : Cur, CurOK c' ∧ P v ∧ ∀ kf, F c kf = kf v c'
theorem and255 (x : BitVec (IntKind.bits .i64)) : 0 ≤ IntKind.wrap .i64 (BitVec.toNat (x &&& BitVec.ofInt (IntKind.bits .i64) (255 : Int))) ∧ IntKind.wrap .i64 (BitVec.toNat (x &&& BitVec.ofInt (IntKind.bits .i64) (255 : Int))) ≤ 255 := by
 have h : BitVec.toNat (x &&& BitVec.ofInt (IntKind.bits .i64) (255 : Int)) ≤ 255 := by
  rw [BitVec.toNat_and]
  refine Nat.le_trans Nat.and_le_right ?_
  decide
 rw [wrap64 (by omega) (by omega)]
 omega
theorem l1Byte_draws {N : Nat} : Draws (S53 N) fun v => 0 ≤ v ∧ v ≤ 255 := fun c hc => by
 obtain ⟨hc, hl⟩ := hc
 unfold S53 share
 rw [decide_eq_true (show (0 : Int) ≤ 33 by omega), decide_eq_true (show (0 : Int) ≤ 47 by omega)]
 simp only [cond_true]
 by_cases hi : c.2.1 < (List.length c.1 : Int)
 ·have hin : inB c.2.1 (List.length c.1) = true := by
   have := inB_nat (i := c.2.1.toNat) (m := c.1.length) (by omega)
   rwa [Int.toNat_of_nonneg hc] at this
  rw [decide_eq_true hi, hin]
  simp only [cond_true]
  refine ⟨_, (c.1, (IntKind.wrap .i64 (c.2.1 + 1), _)), ⟨?_, hl⟩, and255 _, fun kf => rfl⟩
  show 0 ≤ IntKind.wrap .i64 (c.2.1 + 1)
  rw [wrap64 (by omega) (by omega)]
  omega
 ·rw [decide_eq_false hi]
  simp only [cond_false]
  exact ⟨_, (c.1, (c.2.1, IntKind.wrap .i64 (IntKind.wrap .i64 (c.2.2 * (6364136223846793005 : Int)) + (1442695040888963407 : Int)))), ⟨hc, hl⟩, and255 _, fun kf => rfl⟩
theorem tmod_in {r n : Int} (hr : 0 ≤ r) (hn : 0 < n) : 0 ≤ Int.tmod r n ∧ Int.tmod r n < n := by
 rw [Int.tmod_eq_emod_of_nonneg hr]
 exact ⟨Int.emod_nonneg _ (by omega), Int.emod_lt_of_pos _ hn⟩
theorem l1Below_draws {N : Nat} {n : Int} (h0 : 0 < n) (h1 : n ≤ 256) : Draws (fun c kf => S25 N c n kf) fun v => 0 ≤ v ∧ v < n := fun c hc => by
 obtain ⟨v, c', h2, h3, h4⟩ := l1Byte_draws (N := N) c hc
 refine ⟨Int.tmod v n, c', h2, tmod_in h3.1 h0, fun kf => ?_⟩
 show S25 N c n kf = _
 unfold S25
 rw [decide_eq_false (by omega), decide_eq_true h1]
 simp only [cond_true, cond_false]
 rw [h4, decide_eq_false (by omega)]
 rfl
theorem l1Once_draws {N : Nat} {n : Int} (h0 : 0 < n) (h1 : n ≤ 256) : Draws (fun c kf => S47 N c n kf) fun _ => True := fun c hc => by
 obtain ⟨v, c', h2, h3, h4⟩ := l1Below_draws (N := N) h0 h1 c hc
 exact ⟨_, c', h2, trivial, fun kf => h4 _⟩
theorem l1Int_draws {N : Nat} {l : List Int} (h0 : 0 < l.length) (h1 : l.length ≤ 256) : Draws (fun c kf => S65 N c l kf) fun v => v ∈ l := fun c hc => by
 obtain ⟨v, c', h2, h3, h4⟩ := l1Below_draws (N := N) (n := (l.length : Int)) (by omega) (by omega) c hc
 have h4 : ∀ kf, S25 N c (l.length : Int) kf = kf v c' := h4
 obtain ⟨k, rfl⟩ : ∃ k : Nat, v = (k : Int) := ⟨v.toNat, by omega⟩
 have hk : k < l.length := by omega
 refine ⟨l.getD k 0, c', h2, by rw [getD_nat _ _ hk]; exact List.getElem_mem hk, fun kf => ?_⟩
 show S65 N c l kf = _
 unfold S65
 rw [h4, inB_nat hk, Int.toNat_natCast]
 rfl
theorem l1New_ok {N : Nat} {a : List Int} (ha : a.length ≤ 1048576) (hN : 4000 < N) : ∃ c : Cur, CurOK c ∧ ∀ kf, S22 N a kf = kf c := by
 have key : ∀ (d i n : Nat) (h : Int), i + d = min a.length 4000 → d < n → ∃ h', ∀ k : Int → Option Ret, S22_l3 a n k h (i : Int) = k h' := by
  intro d
  induction d with
  | zero =>
   intro i n h hi hn
   obtain ⟨n, rfl⟩ : ∃ m, n = m + 1 := ⟨n - 1, by omega⟩
   refine ⟨h, fun k => ?_⟩
   unfold S22_l3
   by_cases h1 : i < a.length
   ·rw [decide_eq_true (show (i : Int) < (List.length a : Int) by omega), decide_eq_false (show ¬ (i : Int) < 4000 by omega)]
    rfl
   ·rw [decide_eq_false (show ¬ (i : Int) < (List.length a : Int) by omega)]
    rfl
  | succ d ih =>
   intro i n h hi hn
   obtain ⟨n, rfl⟩ : ∃ m, n = m + 1 := ⟨n - 1, by omega⟩
   obtain ⟨h', hh⟩ := ih (i + 1) n (IntKind.wrap .i64 (BitVec.toNat (BitVec.ofInt (IntKind.bits .i64) (IntKind.wrap .i64 ((IntKind.wrap .i64 ((IntKind.wrap .i64 (h * (137 : Int))) + (IntKind.wrap .i64 (List.getD a (Int.toNat (i : Int)) (0 : Int))))) + (11 : Int))) &&& BitVec.ofInt (IntKind.bits .i64) (1073741823 : Int)))) (by omega) (by omega)
   refine ⟨h', fun k => ?_⟩
   unfold S22_l3
   rw [decide_eq_true (show (i : Int) < (List.length a : Int) by omega), decide_eq_true (show (i : Int) < 4000 by omega), inB_nat (by omega)]
   simp only [cond_true]
   rw [wrap64 (n := (i : Int) + 1) (by omega) (by omega)]
   exact hh k
 obtain ⟨h', hh⟩ := key (min a.length 4000) 0 N (IntKind.wrap .i64 ((193017 : Int) + (List.length a : Int))) (by omega) (by omega)
 exact ⟨(a, ((0 : Int), h')), ⟨Int.le_refl 0, ha⟩, fun kf => hh _⟩
def newC : Club := ([], ([], ([], ([], ([], ([], 0))))))
theorem newC_good : Good newC := by
 refine ⟨by decide, ⟨fun x hx => (by cases hx), fun x y hx => (by cases hx), rfl, rfl⟩, rfl⟩
end Go.Pv.R
namespace Go.Pv.R
set_option linter.unusedVariables false
set_option linter.unusedSimpArgs false
end Go.Pv.R
namespace Go.Pv.R
set_option linter.unusedVariables false
set_option linter.unusedSimpArgs false
end Go.Pv.R
namespace Go.Pv.R
set_option linter.unusedVariables false
set_option linter.unusedSimpArgs false
theorem below {N : Nat} {n : Int} {c : Cur} (h0 : 0 < n) (h1 : n ≤ 256) (hc : CurOK c) : ∃ v, ∃ c' : Cur, CurOK c' ∧ (0 ≤ v ∧ v < n) ∧ ∀ kf, S25 N c n kf = kf v c' := l1Below_draws (N := N) h0 h1 c hc
theorem oneOf {N : Nat} {l : List Int} {c : Cur} (h0 : 0 < l.length) (h1 : l.length ≤ 256) (hc : CurOK c) : ∃ v, ∃ c' : Cur, CurOK c' ∧ v ∈ l ∧ ∀ kf, S65 N c l kf = kf v c' := l1Int_draws (N := N) h0 h1 c hc
theorem once {N : Nat} {n : Int} {c : Cur} (h0 : 0 < n) (h1 : n ≤ 256) (hc : CurOK c) : ∃ v, ∃ c' : Cur, CurOK c' ∧ ∀ kf, S47 N c n kf = kf v c' := by
 obtain ⟨v, c', h2, _, h4⟩ := l1Once_draws (N := N) h0 h1 c hc
 exact ⟨v, c', h2, h4⟩
def MetLe (M : Nat) (l : List Team) : Prop := ∀ x : Team, x ∈ l → x.met.length ≤ M ∧ x.2.2.2.1 ≤ 1000000
theorem l19Draw_l3_ok {N : Nat} : ∀ (d : Nat) (i n : Nat) (c : Cur) (l : List Team), CurOK c → i + d = 7 → 1 ≤ i → l.length + 1 = i → d < n → MetLe 0 l → ∃ r : List Team, ∃ c' : Cur, CurOK c' ∧ (2 ≤ r.length ∧ r.length ≤ 6 ∧ MetLe 0 r) ∧ ∀ kf, S42_l3 N n kf c l (i : Int) = kf c' r
 | 0, i, n, c, l, hc, hi, h1, hl, hn, hm => by
  obtain ⟨n, rfl⟩ : ∃ j, n = j + 1 := ⟨n - 1, by omega⟩
  obtain ⟨v, c1, hc1, hv, e1⟩ := below (N := N) (n := 5) (by omega) (by omega) hc
  refine ⟨l, c1, hc1, ⟨by omega, by omega, hm⟩, fun kf => ?_⟩
  unfold S42_l3
  rw [e1, wrap64 (by omega) (by omega), decide_eq_false (by omega)]
  rfl
 | d + 1, i, n, c, l, hc, hi, h1, hl, hn, hm => by
  obtain ⟨n, rfl⟩ : ∃ j, n = j + 1 := ⟨n - 1, by omega⟩
  obtain ⟨v, c1, hc1, hv, e1⟩ := below (N := N) (n := 5) (by omega) (by omega) hc
  by_cases hg : (i : Int) ≤ 2 + v
  ·obtain ⟨v2, c2, hc2, hv2, e2⟩ := below (N := N) (n := 3) (by omega) (by omega) hc1
   obtain ⟨r, c3, hc3, hr, e3⟩ := l19Draw_l3_ok d (i + 1) n c2 (l ++ [((IntKind.wrap .i64 ((2 : Int) * (i : Int))), ((IntKind.wrap .i64 ((1 : Int) + v2)), ((0 : Int), ((0 : Int), ((0 : Int), ([] : (List Int)))))))]) hc2 (by omega) (by omega) (by simp; omega) (by omega) (fun x hx => by
    rcases List.mem_append.1 hx with hx | hx
    ·exact hm x hx
    ·rw [List.mem_singleton.1 hx]; exact ⟨Nat.le_refl 0, by show (0 : Int) ≤ 1000000; omega⟩)
   refine ⟨r, c3, hc3, hr, fun kf => ?_⟩
   unfold S42_l3
   rw [e1, wrap64 (n := 2 + v) (by omega) (by omega), decide_eq_true hg, cond_true, e2, decide_eq_true (by simp; omega), cond_true, wrap64 (n := (i : Int) + 1) (by omega) (by omega)]
   exact e3 kf
  ·refine ⟨l, c1, hc1, ⟨by omega, by omega, hm⟩, fun kf => ?_⟩
   unfold S42_l3
   rw [e1, wrap64 (by omega) (by omega), decide_eq_false hg]
   rfl
theorem addL_metle {M : Nat} {t : List Team} {a b d p q : Int} (h : MetLe M t) : MetLe (M + 1) (addL t a b d p q) := fun x hx => by
 refine ⟨addL_mem (fun y hy => (h y hy).1) x hx, ?_⟩
 unfold addL at hx
 cases hb : addB2 t a b d p q with
 | false => rw [hb] at hx; exact (h x hx).2
 | true =>
  rw [hb] at hx
  unfold addB2 at hb
  simp only [Bool.and_eq_true] at hb
  have ha := hb.2
  unfold areTeamsM at ha
  simp only [Bool.and_eq_true] at ha
  have h2 := ha.2.1
  rw [allI_iff] at h2
  obtain ⟨i, hi, rfl⟩ := List.mem_iff_getElem.1 hx
  have := h2 i hi
  unfold teamP at this
  simp only [Bool.and_eq_true, decide_eq_true_eq, inR_iff] at this
  show ((addT t a b d p q)[i]).2.2.2.1 ≤ 1000000
  omega
theorem l19Draw_l7_ok {N : Nat} (hN : 200 < N) : ∀ (k n M : Nat) (c : Cur) (l : List Team), CurOK c → k < n → l.length ≤ 6 → MetLe M l → M + k ≤ 20 → ∃ r : List Team, ∃ c' : Cur, CurOK c' ∧ (r.length = l.length ∧ MetLe (M + k) r) ∧ ∀ kf, S42_l7 N n kf c l (k : Int) = kf c' r
 | 0, n, M, c, l, hc, hn, hl, hm, hM => by
  obtain ⟨n, rfl⟩ : ∃ j, n = j + 1 := ⟨n - 1, by omega⟩
  refine ⟨l, c, hc, ⟨rfl, hm⟩, fun kf => ?_⟩
  unfold S42_l7
  rw [decide_eq_false (by omega)]
  rfl
 | k + 1, n, M, c, l, hc, hn, hl, hm, hM => by
  obtain ⟨n, rfl⟩ : ∃ j, n = j + 1 := ⟨n - 1, by omega⟩
  obtain ⟨a, c1, hc1, _, e1⟩ := below (N := N) (n := 6) (by omega) (by omega) hc
  obtain ⟨b, c2, hc2, _, e2⟩ := below (N := N) (n := 6) (by omega) (by omega) hc1
  obtain ⟨d, c3, hc3, _, e3⟩ := below (N := N) (n := 2) (by omega) (by omega) hc2
  obtain ⟨p, c4, hc4, _, e4⟩ := below (N := N) (n := 20) (by omega) (by omega) hc3
  obtain ⟨q, c5, hc5, _, e5⟩ := below (N := N) (n := 20) (by omega) (by omega) hc4
  have ha : ∀ a b d p q kf, S59 N l a b d p q kf = kf (addL l a b d p q) (addB2 l a b d p q) := fun a b d p q kf => S59_ok (by omega) (fun x hx => by have := hm x hx; omega) (by omega)
  obtain ⟨r, c6, hc6, hr, e6⟩ := l19Draw_l7_ok hN k n (M + 1) c5 (addL l (IntKind.wrap .i64 ((2 : Int) * (IntKind.wrap .i64 ((1 : Int) + a)))) (IntKind.wrap .i64 ((2 : Int) * (IntKind.wrap .i64 ((1 : Int) + b)))) (IntKind.wrap .i64 ((1 : Int) + d)) (IntKind.wrap .i64 ((60 : Int) + p)) (IntKind.wrap .i64 ((60 : Int) + q))) hc5 (by omega) (by rw [addL_len]; exact hl) (addL_metle hm) (by omega)
  refine ⟨r, c6, hc6, ⟨by rw [hr.1, addL_len], by rw [show M + (k + 1) = M + 1 + k by omega]; exact hr.2⟩, fun kf => ?_⟩
  unfold S42_l7
  rw [decide_eq_true (by omega), cond_true]
  simp only [e1, e2, e3, e4, e5, ha]
  rw [wrap64 (n := ((k + 1 : Nat) : Int) - 1) (by omega) (by omega), show (((k + 1 : Nat) : Int) - 1) = (k : Int) by omega]
  exact e6 kf
theorem l19Draw_draws {N : Nat} (hN : 200 < N) : Draws (S42 N) fun l => 2 ≤ l.length ∧ l.length ≤ 6 ∧ MetLe 6 l := fun c hc => by
 obtain ⟨l, c1, hc1, ⟨h1, h2, h3⟩, e1⟩ := l19Draw_l3_ok (N := N) 6 1 N c [] hc rfl (by omega) rfl (by omega) (fun x hx => by cases hx)
 obtain ⟨v, c2, hc2, hv, e2⟩ := below (N := N) (n := 7) (by omega) (by omega) hc1
 obtain ⟨k, rfl⟩ : ∃ k : Nat, v = (k : Int) := ⟨v.toNat, by omega⟩
 obtain ⟨r, c3, hc3, hr, e3⟩ := l19Draw_l7_ok (N := N) hN k N 0 c2 l hc2 (by omega) h2 h3 (by omega)
 refine ⟨r, c3, hc3, ⟨by omega, by omega, fun x hx => by have := hr.2 x hx; omega⟩, fun kf => ?_⟩
 unfold S42
 refine (e1 _).trans ?_
 rw [e2]
 exact e3 _
theorem set_met {M : Nat} {l : List Team} {i : Nat} {y : Team} (h : MetLe M l) (hy : y.met.length ≤ M) (hp : y.2.2.2.1 ≤ 1000000) : MetLe M (l.set i y) := fun x hx => by
 rcases List.mem_or_eq_of_mem_set hx with hx | rfl
 ·exact h x hx
 ·exact ⟨hy, hp⟩
theorem l19Any_draws {N : Nat} (hN : 200 < N) : Draws (S48 N) fun l => 2 ≤ l.length ∧ l.length ≤ 6 ∧ MetLe 7 l := fun c hc => by
 obtain ⟨l, c1, hc1, ⟨h1, h2, h3⟩, e1⟩ := l19Draw_draws hN c hc
 obtain ⟨i, c2, hc2, hi, e2⟩ := below (N := N) (n := (l.length : Int)) (by omega) (by omega) hc1
 obtain ⟨k, rfl⟩ : ∃ k : Nat, i = (k : Int) := ⟨i.toNat, by omega⟩
 have hk : k < l.length := by omega
 obtain ⟨w, c3, hc3, hw, e3⟩ := below (N := N) (n := 14) (by omega) (by omega) hc2
 have h4 : MetLe 7 l := fun x hx => by have := h3 x hx; omega
 have hgb : (l.getD k zQIIIIILIE).2.2.2.2.2.length ≤ 6 ∧ (l.getD k zQIIIIILIE).2.2.2.1 ≤ 1000000 := h3 _ (by rw [getD_nat _ _ hk]; exact List.getElem_mem hk)
 have hgm : (l.getD k zQIIIIILIE).2.2.2.2.2.length ≤ 6 := hgb.1
 have hgp := hgb.2
 have hlen : ∀ y : Team, 2 ≤ (l.set k y).length ∧ (l.set k y).length ≤ 6 := fun y => by rw [List.length_set]; omega
 unfold S48
 simp only [e1, e2, e3, inB_nat hk, Int.toNat_natCast, cond_true]
 cases w == 0
 rotate_left
 ·obtain ⟨v, c4, hc4, _, e4⟩ := oneOf (N := N) (l := [(0 : Int), (2 : Int), (99 : Int), (100 : Int)]) (by simp) (by simp) hc3
  refine ⟨_, c4, hc4, ?_, fun kf => by simp only [cond_true, e4]; rfl⟩
  exact ⟨(hlen _).1, (hlen _).2, set_met h4 (by show (l.getD k zQIIIIILIE).2.2.2.2.2.length ≤ 7; omega) (by first | exact hgp | (show v ≤ 1000000; simp at hv; omega))⟩
 cases w == 1
 rotate_left
 ·obtain ⟨v, c4, hc4, _, e4⟩ := oneOf (N := N) (l := [(-1 : Int), (9 : Int)]) (by simp) (by simp) hc3
  refine ⟨_, c4, hc4, ?_, fun kf => by simp only [cond_true, cond_false, e4]; rfl⟩
  exact ⟨(hlen _).1, (hlen _).2, set_met h4 (by show (l.getD k zQIIIIILIE).2.2.2.2.2.length ≤ 7; omega) (by first | exact hgp | (show v ≤ 1000000; simp at hv; omega))⟩
 cases w == 2
 rotate_left
 ·obtain ⟨v, c4, hc4, hv, e4⟩ := oneOf (N := N) (l := [(-1 : Int), (100000 : Int), (100001 : Int)]) (by simp) (by simp) hc3
  refine ⟨_, c4, hc4, ?_, fun kf => by simp only [cond_true, cond_false, e4]; rfl⟩
  exact ⟨(hlen _).1, (hlen _).2, set_met h4 (by show (l.getD k zQIIIIILIE).2.2.2.2.2.length ≤ 7; omega) (by first | exact hgp | (show v ≤ 1000000; simp at hv; omega))⟩
 cases w == 3
 rotate_left
 ·have hd : decide ((List.length (l.getD k zQIIIIILIE).2.2.2.2.2 + List.length [(2 : Int)]) * 1 ≤ 4398046511104) = true := decide_eq_true (by have : List.length [(2 : Int)] = 1 := rfl; omega)
  refine ⟨_, c3, hc3, ?_, fun kf => by simp only [cond_true, cond_false, hd, Nat.beq_refl]; rfl⟩
  exact ⟨(hlen _).1, (hlen _).2, set_met h4 (by show ((l.getD k zQIIIIILIE).2.2.2.2.2 ++ [(2 : Int)]).length ≤ 7; rw [List.length_append]; show _ + 1 ≤ 7; omega) hgp⟩
 cases w == 4
 rotate_left
 ·obtain ⟨v, c4, hc4, _, e4⟩ := oneOf (N := N) (l := [(0 : Int), (99 : Int), (100 : Int)]) (by simp) (by simp) hc3
  refine ⟨_, c4, hc4, ?_, fun kf => by simp only [cond_true, cond_false, e4]; rfl⟩
  exact ⟨(hlen _).1, (hlen _).2, set_met h4 (by show (l.getD k zQIIIIILIE).2.2.2.2.2.length ≤ 7; omega) (by first | exact hgp | (show v ≤ 1000000; simp at hv; omega))⟩
 ·exact ⟨l, c3, hc3, ⟨h1, h2, h4⟩, fun kf => by simp only [cond_false]⟩
def SeenLe (M : Nat) (l : List Judge) : Prop := ∀ x : Judge, x ∈ l → x.2.2.length ≤ M
theorem l21Draw_l3_ok {N : Nat} : ∀ (d : Nat) (i n : Nat) (c : Cur) (l : List Judge), CurOK c → i + d = 6 → 1 ≤ i → l.length + 1 = i → d < n → SeenLe 1 l → ∃ r : List Judge, ∃ c' : Cur, CurOK c' ∧ (1 ≤ r.length ∧ r.length ≤ 5 ∧ SeenLe 1 r) ∧ ∀ kf, S43_l3 N n kf c l (i : Int) = kf c' r
 | 0, i, n, c, l, hc, hi, h1, hl, hn, hm => by
  obtain ⟨n, rfl⟩ : ∃ j, n = j + 1 := ⟨n - 1, by omega⟩
  obtain ⟨v, c1, hc1, hv, e1⟩ := below (N := N) (n := 5) (by omega) (by omega) hc
  refine ⟨l, c1, hc1, ⟨by omega, by omega, hm⟩, fun kf => ?_⟩
  unfold S43_l3
  rw [e1, wrap64 (by omega) (by omega), decide_eq_false (by omega)]
  rfl
 | d + 1, i, n, c, l, hc, hi, h1, hl, hn, hm => by
  obtain ⟨n, rfl⟩ : ∃ j, n = j + 1 := ⟨n - 1, by omega⟩
  obtain ⟨v, c1, hc1, hv, e1⟩ := below (N := N) (n := 5) (by omega) (by omega) hc
  by_cases hg : (i : Int) ≤ 1 + v
  ·obtain ⟨v2, c2, hc2, hv2, e2⟩ := below (N := N) (n := 5) (by omega) (by omega) hc1
   obtain ⟨b, c3, hc3, e3⟩ := once (N := N) (n := 3) (by omega) (by omega) hc2
   have J : ∀ (c4 : Cur) (y : List Int), CurOK c4 → y.length ≤ 1 → ∃ r : List Judge, ∃ c' : Cur, CurOK c' ∧ (1 ≤ r.length ∧ r.length ≤ 5 ∧ SeenLe 1 r) ∧ ∀ kf, S43_j1 v2 (S43_l3 N n kf) l (i : Int) c4 y = kf c' r := fun c4 y hc4 hy => by
    obtain ⟨r, c5, hc5, hr, e5⟩ := l21Draw_l3_ok d (i + 1) n c4 (l ++ [((IntKind.wrap .i64 ((10 : Int) + (i : Int))), ((IntKind.wrap .i64 ((1 : Int) + v2)), y))]) hc4 (by omega) (by omega) (by simp; omega) (by omega) (fun x hx => by
     rcases List.mem_append.1 hx with hx | hx
     ·exact hm x hx
     ·rw [List.mem_singleton.1 hx]; exact hy)
    refine ⟨r, c5, hc5, hr, fun kf => ?_⟩
    unfold S43_j1
    rw [decide_eq_true (by simp; omega), cond_true, wrap64 (n := (i : Int) + 1) (by omega) (by omega)]
    exact e5 kf
   cases b with
   | false =>
    obtain ⟨r, c5, hc5, hr, e5⟩ := J c3 [] hc3 (by simp)
    refine ⟨r, c5, hc5, hr, fun kf => ?_⟩
    unfold S43_l3
    rw [e1, wrap64 (n := 1 + v) (by omega) (by omega), decide_eq_true hg, cond_true, e2, e3]
    exact e5 kf
   | true =>
    obtain ⟨v4, c4, hc4, hv4, e4⟩ := below (N := N) (n := 6) (by omega) (by omega) hc3
    obtain ⟨r, c5, hc5, hr, e5⟩ := J c4 [(IntKind.wrap .i64 ((2 : Int) * (IntKind.wrap .i64 ((1 : Int) + v4))))] hc4 (by simp)
    refine ⟨r, c5, hc5, hr, fun kf => ?_⟩
    unfold S43_l3
    rw [e1, wrap64 (n := 1 + v) (by omega) (by omega), decide_eq_true hg, cond_true, e2, e3, cond_true, e4]
    exact e5 kf
  ·refine ⟨l, c1, hc1, ⟨by omega, by omega, hm⟩, fun kf => ?_⟩
   unfold S43_l3
   rw [e1, wrap64 (by omega) (by omega), decide_eq_false hg]
   rfl
theorem l21Draw_draws {N : Nat} (hN : 200 < N) : Draws (S43 N) fun l => 1 ≤ l.length ∧ l.length ≤ 5 ∧ SeenLe 1 l := fun c hc => by
 obtain ⟨l, c1, hc1, h1, e1⟩ := l21Draw_l3_ok (N := N) 5 1 N c [] hc rfl (by omega) rfl (by omega) (fun x hx => by cases hx)
 exact ⟨l, c1, hc1, h1, fun kf => e1 _⟩
theorem set_seen {M : Nat} {l : List Judge} {i : Nat} {y : Judge} (h : SeenLe M l) (hy : y.2.2.length ≤ M) : SeenLe M (l.set i y) := fun x hx => by
 rcases List.mem_or_eq_of_mem_set hx with hx | rfl
 ·exact h x hx
 ·exact hy
theorem l21Any_draws {N : Nat} (hN : 200 < N) : Draws (S49 N) fun l => 1 ≤ l.length ∧ l.length ≤ 5 ∧ SeenLe 2 l := fun c hc => by
 obtain ⟨l, c1, hc1, ⟨h1, h2, h3⟩, e1⟩ := l21Draw_draws hN c hc
 obtain ⟨i, c2, hc2, hi, e2⟩ := below (N := N) (n := (l.length : Int)) (by omega) (by omega) hc1
 obtain ⟨k, rfl⟩ : ∃ k : Nat, i = (k : Int) := ⟨i.toNat, by omega⟩
 have hk : k < l.length := by omega
 obtain ⟨w, c3, hc3, hw, e3⟩ := below (N := N) (n := 12) (by omega) (by omega) hc2
 have h4 : SeenLe 2 l := fun x hx => by have := h3 x hx; omega
 have hgm : (l.getD k zQIILIE).2.2.length ≤ 1 := h3 _ (by rw [getD_nat _ _ hk]; exact List.getElem_mem hk)
 have hlen : ∀ y : Judge, 1 ≤ (l.set k y).length ∧ (l.set k y).length ≤ 5 := fun y => by rw [List.length_set]; omega
 unfold S49
 simp only [e1, e2, e3, inB_nat hk, Int.toNat_natCast, cond_true]
 cases w == 0
 rotate_left
 ·obtain ⟨v, c4, hc4, _, e4⟩ := oneOf (N := N) (l := [(0 : Int), (11 : Int), (99 : Int), (100 : Int)]) (by simp) (by simp) hc3
  refine ⟨_, c4, hc4, ?_, fun kf => by simp only [cond_true, e4]; rfl⟩
  exact ⟨(hlen _).1, (hlen _).2, set_seen h4 (by show (l.getD k zQIILIE).2.2.length ≤ 2; omega)⟩
 cases w == 1
 rotate_left
 ·obtain ⟨v, c4, hc4, _, e4⟩ := oneOf (N := N) (l := [(0 : Int), (99 : Int), (100 : Int)]) (by simp) (by simp) hc3
  refine ⟨_, c4, hc4, ?_, fun kf => by simp only [cond_true, cond_false, e4]; rfl⟩
  exact ⟨(hlen _).1, (hlen _).2, set_seen h4 (by show (l.getD k zQIILIE).2.2.length ≤ 2; omega)⟩
 cases w == 2
 rotate_left
 ·refine ⟨_, c3, hc3, ?_, fun kf => by simp only [cond_true, cond_false]; rfl⟩
  exact ⟨(hlen _).1, (hlen _).2, set_seen h4 (Nat.le_refl 2)⟩
 ·exact ⟨l, c3, hc3, ⟨h1, h2, h4⟩, fun kf => by simp only [cond_false]⟩
theorem l27Any_l3_ok {N : Nat} (hN : 200 < N) : ∀ (k n : Nat) (c : Cur) (l : List Line), CurOK c → k < n → l.length + k ≤ 100 → ∃ r : List Line, ∃ c' : Cur, CurOK c' ∧ r.length ≤ l.length + k ∧ ∀ kf, S50_l3 N n kf c l (k : Int) = kf c' r
 | 0, n, c, l, hc, hn, hl => by
  obtain ⟨n, rfl⟩ : ∃ j, n = j + 1 := ⟨n - 1, by omega⟩
  refine ⟨l, c, hc, by omega, fun kf => ?_⟩
  unfold S50_l3
  rw [decide_eq_false (by omega)]
  rfl
 | k + 1, n, c, l, hc, hn, hl => by
  obtain ⟨n, rfl⟩ : ∃ j, n = j + 1 := ⟨n - 1, by omega⟩
  obtain ⟨a, c1, hc1, _, e1⟩ := below (N := N) (n := 9) (by omega) (by omega) hc
  obtain ⟨b, c2, hc2, _, e2⟩ := below (N := N) (n := 5) (by omega) (by omega) hc1
  have hw : ∀ a b kf, S66 N l a b kf = kf (writeM l a b) (wroteM l a b) := fun a b kf => S66_ok (by omega) (by omega) (by omega)
  have hwl := writeM_len l (IntKind.wrap .i64 ((1 : Int) + a)) b
  obtain ⟨r, c3, hc3, hr, e3⟩ := l27Any_l3_ok hN k n c2 (writeM l (IntKind.wrap .i64 ((1 : Int) + a)) b) hc2 (by omega) (by omega)
  refine ⟨r, c3, hc3, by omega, fun kf => ?_⟩
  unfold S50_l3
  rw [decide_eq_true (by omega), cond_true]
  simp only [e1, e2, hw]
  rw [wrap64 (n := ((k + 1 : Nat) : Int) - 1) (by omega) (by omega), show (((k + 1 : Nat) : Int) - 1) = (k : Int) by omega]
  exact e3 kf
theorem l27Any_draws {N : Nat} (hN : 200 < N) : Draws (S50 N) fun l => l.length ≤ 8 := fun c hc => by
 obtain ⟨v, c1, hc1, hv, e1⟩ := below (N := N) (n := 9) (by omega) (by omega) hc
 obtain ⟨k, rfl⟩ : ∃ k : Nat, v = (k : Int) := ⟨v.toNat, by omega⟩
 obtain ⟨l, c2, hc2, hl, e2⟩ := l27Any_l3_ok hN k N c1 [] hc1 (by omega) (by simp; omega)
 have hl8 : l.length ≤ 8 := by simp at hl; omega
 unfold S50
 simp only [e1, e2]
 by_cases h0 : (List.length l : Int) > 0
 rotate_left
 ·exact ⟨l, c2, hc2, hl8, fun kf => by rw [decide_eq_false h0]; rfl⟩
 rw [decide_eq_true h0]
 simp only [cond_true]
 obtain ⟨i, c3, hc3, hi, e3⟩ := below (N := N) (n := (l.length : Int)) (by omega) (by omega) hc2
 obtain ⟨j, rfl⟩ : ∃ j : Nat, i = (j : Int) := ⟨i.toNat, by omega⟩
 have hj : j < l.length := by omega
 obtain ⟨w, c4, hc4, hw, e4⟩ := below (N := N) (n := 10) (by omega) (by omega) hc3
 have hlen : ∀ y : Line, (l.set j y).length ≤ 8 := fun y => by rw [List.length_set]; exact hl8
 simp only [e3, e4, inB_nat hj, Int.toNat_natCast, cond_true]
 cases w == 0
 rotate_left
 ·obtain ⟨v, c5, hc5, _, e5⟩ := oneOf (N := N) (l := [(-1 : Int), (99 : Int), (100 : Int)]) (by simp) (by simp) hc4
  exact ⟨_, c5, hc5, hlen _, fun kf => by simp only [cond_true, e5]; rfl⟩
 cases w == 1
 rotate_left
 ·exact ⟨_, c4, hc4, hlen _, fun kf => by simp only [cond_true, cond_false]; rfl⟩
 cases w == 2
 rotate_left
 ·exact ⟨_, c4, hc4, hlen _, fun kf => by simp only [cond_true, cond_false]; rfl⟩
 ·exact ⟨l, c4, hc4, hl8, fun kf => by simp only [cond_false]⟩
end Go.Pv.R
namespace Go.Pv.R
set_option linter.unusedVariables false
set_option linter.unusedSimpArgs false
end Go.Pv.R
namespace Go.Pv.R
set_option linter.unusedVariables false
set_option linter.unusedSimpArgs false
theorem ascends_ok {N : Nat} {a : List Int} {kf : Bool → Option Ret} (ha : Asc a) (hl : a.length ≤ 1000000) (hN : a.length < N) : L10 N a kf = kf true := by
 have key : ∀ (d i n : Nat), (i + d = a.length ∨ (a.length ≤ i ∧ d = 0)) → 1 ≤ i → i ≤ 1000001 → d < n → L10_l2 a n (kf true) kf (i : Int) = kf true := by
  intro d
  induction d with
  | zero =>
   intro i n h1 h0 hb h2
   obtain ⟨n, rfl⟩ : ∃ j, n = j + 1 := ⟨n - 1, by omega⟩
   unfold L10_l2
   rw [decide_eq_false (by omega)]
   rfl
  | succ d ih =>
   intro i n h1 h0 hb h2
   obtain ⟨n, rfl⟩ : ∃ j, n = j + 1 := ⟨n - 1, by omega⟩
   have hi : i < a.length := by omega
   have hp : (i : Int) - 1 = ((i - 1 : Nat) : Int) := by omega
   have h3 := List.pairwise_iff_getElem.1 ha (i - 1) i (by omega) hi (by omega)
   unfold L10_l2
   rw [decide_eq_true (by omega), cond_true, wrap64 (n := (i : Int) - 1) (by omega) (by omega), hp, inB_nat (by omega), cond_true, inB_nat hi, cond_true, Int.toNat_natCast, Int.toNat_natCast, getD_nat _ _ hi, getD_nat _ _ (show i - 1 < a.length by omega), decide_eq_false (by omega), cond_false, wrap64 (n := (i : Int) + 1) (by omega) (by omega), show (i : Int) + 1 = ((i + 1 : Nat) : Int) by omega]
   exact ih (i + 1) n (by omega) (by omega) (by omega) (by omega)
 unfold L10
 exact key (a.length - 1) 1 N (by omega) (by omega) (by omega) (by omega)
end Go.Pv.R
namespace Go.Pv.R
set_option linter.unusedVariables false
set_option linter.unusedSimpArgs false
end Go.Pv.R
namespace Go.Pv.R
set_option linter.unusedVariables false
set_option linter.unusedSimpArgs false
end Go.Pv.R
namespace Go.Pv.R
set_option linter.unusedVariables false
set_option linter.unusedSimpArgs false
theorem gatherI_ix {p : Ballot → Bool} : ∀ (l : List Ballot) (i : Nat) (x : Int), x ∈ gatherI (fun _ b => p b) (fun i _ => (i : Int)) l i ↔ ∃ j, j < l.length ∧ p (l.getD j zQIIIE) = true ∧ x = ((i + j : Nat) : Int)
 | [], i, x => by simp [gatherI]
 | y :: r, i, x => by
  have ih := gatherI_ix (p := p) r (i + 1) x
  have key : (∃ j, j < (y :: r).length ∧ p ((y :: r).getD j zQIIIE) = true ∧ x = ((i + j : Nat) : Int)) ↔ (p y = true ∧ x = (i : Int)) ∨ ∃ j, j < r.length ∧ p (r.getD j zQIIIE) = true ∧ x = ((i + 1 + j : Nat) : Int) := by
   constructor
   ·rintro ⟨j, h1, h2, h3⟩
    cases j with
    | zero => exact .inl ⟨h2, by simpa using h3⟩
    | succ j => exact .inr ⟨j, by simpa using h1, h2, by rw [h3]; congr 1; omega⟩
   ·rintro (⟨h1, h2⟩ | ⟨j, h1, h2, h3⟩)
    ·exact ⟨0, by simp, h1, by simpa using h2⟩
    ·exact ⟨j + 1, by simpa using h1, h2, by rw [h3]; congr 1; omega⟩
  rw [key, ← ih]
  simp only [gatherI]
  cases p y with
  | true => simp
  | false => simp
theorem gatherI_asc {p : Ballot → Bool} : ∀ (l : List Ballot) (i : Nat), Asc (gatherI (fun _ b => p b) (fun i _ => (i : Int)) l i)
 | [], i => List.Pairwise.nil
 | y :: r, i => by
  simp only [gatherI]
  cases p y with
  | false => exact gatherI_asc r (i + 1)
  | true =>
   refine List.pairwise_cons.2 ⟨fun x hx => ?_, gatherI_asc r (i + 1)⟩
   obtain ⟨j, _, _, rfl⟩ := (gatherI_ix r (i + 1) x).1 hx
   show (i : Int) < ((i + 1 + j : Nat) : Int)
   omega
theorem I12_ok {N : Nat} {a b : Club} {kf : Bool → Option Ret} (h : ClubOK a N) : I12 N a b kf = kf (eqClubM a b) := by
 have hm := maxLen_eq
 have h1 := h.rl
 have h2 := h.rN
 have h3 := h.bl
 have h4 := h.ml
 have h5 := h.sl
 unfold eqClubM I12
 simp only [slices_EqualFunc_Team_ok h.tl h.tm h.tN, slices_EqualFunc_Judge_ok h.jl h.jm h.jN, S28_ok (N := N) (a := a.2.2.2.1) (by omega) h.sN, S31_ok (N := N) (a := a.2.2.1) (by omega) (by omega), S32_ok (N := N) (a := a.2.2.2.2.1) (by omega) h.bN, S33_ok (N := N) (a := a.2.2.2.2.2.1) (by omega) h.mN]
 cases a.2.2.2.2.2.2 == b.2.2.2.2.2.2
 ·simp
 cases decide (a.1 = b.1)
 ·rfl
 cases decide (a.2.1 = b.2.1)
 ·rfl
 cases decide (a.2.2.1 = b.2.2.1)
 ·rfl
 cases decide (a.2.2.2.1 = b.2.2.2.1)
 ·rfl
 cases decide (a.2.2.2.2.1 = b.2.2.2.2.1)
 ·rfl
 simp
theorem eqClub_self (a : Club) : eqClubM a a = true := by unfold eqClubM; simp
end Go.Pv.R
namespace Go.Pv.R
set_option linter.unusedVariables false
set_option linter.unusedSimpArgs false
end Go.Pv.R
namespace Go.Pv.R
set_option linter.unusedVariables false
set_option linter.unusedSimpArgs false
end Go.Pv.R
namespace Go.Pv.R
set_option linter.unusedVariables false
set_option linter.unusedSimpArgs false
end Go.Pv.R
namespace Go.Pv.R
set_option linter.unusedVariables false
set_option linter.unusedSimpArgs false
end Go.Pv.R
namespace Go.Pv.R
set_option linter.unusedVariables false
set_option linter.unusedSimpArgs false
end Go.Pv.R
namespace Go.Pv.R
set_option linter.unusedVariables false
set_option linter.unusedSimpArgs false
end Go.Pv.R
namespace Go.Pv.R
set_option linter.unusedVariables false
set_option linter.unusedSimpArgs false
structure TinyC (c : Club) : Prop where
 t : c.1.length ≤ 6
 tm : MetLe 7 c.1
 j : c.2.1.length ≤ 5
 jm : SeenLe 2 c.2.1
 r : c.2.2.1.length ≤ 5
 s : c.2.2.2.1.length ≤ 6
 b : c.2.2.2.2.1.length ≤ 6
 m : c.2.2.2.2.2.1.length ≤ 9
theorem tinyC_ok {c : Club} {N : Nat} (h : TinyC c) (hN : 200 < N) : ClubOK c N := by
 have hm := maxLen_eq
 obtain ⟨t, tm, j, jm, r, s, b, m⟩ := h
 exact ⟨by omega, fun x hx => by have := tm x hx; omega, by omega, by omega, fun x hx => by have := jm x hx; omega, by omega, by omega, by omega, by omega, by omega, by omega, by omega, by omega, by omega, by omega, by omega, fun x hx => by have := tm x hx; omega, by omega, fun x hx => by have := jm x hx; omega⟩
theorem l33_j2 {N : Nat} (hN : 200 < N) {t : List Team} {j : List Judge} {w : Int} (t2 : t.length ≤ 6) (t3 : MetLe 6 t) (j2 : j.length ≤ 5) (j3 : SeenLe 1 j) (c : Cur) (r : List Pair) (s : List Int) (b : List Ballot) (hc : CurOK c) (hr : r.length ≤ 5) (hs : s.length ≤ 5) (hb : b.length ≤ 5) :
  ∃ v : Club, ∃ c' : Cur, CurOK c' ∧ TinyC v ∧ ∀ kf, S23_j2_g S42 S43 S44 S45 S46 S47 S25 S48 S49 S50 N kf j w t c r s b = kf v c' := by
 obtain ⟨k, c1, hc1, hk, e1⟩ := below (N := N) (n := 12) (by omega) (by omega) hc
 have t4 : MetLe 7 t := fun x hx => by have := t3 x hx; omega
 have j4 : SeenLe 2 j := fun x hx => by have := j3 x hx; omega
 unfold S23_j2_g
 simp only [e1, S23_j1_g]
 cases k == 0
 rotate_left
 ·obtain ⟨t', c2, hc2, ⟨h1, h2, h3⟩, e2⟩ := l19Any_draws (N := N) (by omega) c1 hc1
  refine ⟨_, c2, hc2, ?_, fun kf => by simp only [cond_true, e2]; rfl⟩
  exact ⟨h2, h3, j2, j4, hr, by show s.length ≤ 6; omega, by show b.length ≤ 6; omega, by show 0 ≤ 9; omega⟩
 cases k == 1
 rotate_left
 ·obtain ⟨t', c2, hc2, ⟨h1, h2, h3⟩, e2⟩ := l21Any_draws (N := N) (by omega) c1 hc1
  refine ⟨_, c2, hc2, ?_, fun kf => by simp only [cond_true, cond_false, e2]; rfl⟩
  exact ⟨t2, t4, h2, h3, hr, by show s.length ≤ 6; omega, by show b.length ≤ 6; omega, by show 0 ≤ 9; omega⟩
 cases k == 2
 rotate_left
 ·refine ⟨_, c1, hc1, ?_, fun kf => by simp only [cond_true, cond_false]; rfl⟩
  exact ⟨t2, t4, j2, j4, hr, by show s.length ≤ 6; omega, by show b.length ≤ 6; omega, by show 0 ≤ 9; omega⟩
 cases k == 3
 rotate_left
 ·obtain ⟨t', c2, hc2, h1, e2⟩ := l27Any_draws (N := N) (by omega) c1 hc1
  refine ⟨_, c2, hc2, ?_, fun kf => by simp only [cond_true, cond_false, e2]; rfl⟩
  exact ⟨t2, t4, j2, j4, hr, by show s.length ≤ 6; omega, by show b.length ≤ 6; omega, by show t'.length ≤ 9; omega⟩
 cases k == 4
 rotate_left
 ·have hd : decide ((List.length s + List.length [(11 : Int)]) * 1 ≤ 4398046511104) = true := decide_eq_true (by have : List.length [(11 : Int)] = 1 := rfl; omega)
  refine ⟨_, c1, hc1, ?_, fun kf => by simp only [cond_true, cond_false, hd]; rfl⟩
  exact ⟨t2, t4, j2, j4, hr, by show (s ++ [(11 : Int)]).length ≤ 6; rw [List.length_append]; show _ + 1 ≤ 6; omega, by show b.length ≤ 6; omega, by show 0 ≤ 9; omega⟩
 cases k == 5
 rotate_left
 ·have hd : decide ((List.length b + List.length [((0 : Int), ((0 : Int), (0 : Int)))]) * 3 ≤ 4398046511104) = true := decide_eq_true (by have : List.length [((0 : Int), ((0 : Int), (0 : Int)))] = 1 := rfl; omega)
  refine ⟨_, c1, hc1, ?_, fun kf => by simp only [cond_true, cond_false, hd]; rfl⟩
  exact ⟨t2, t4, j2, j4, hr, by show s.length ≤ 6; omega, by show (b ++ [((0 : Int), ((0 : Int), (0 : Int)))]).length ≤ 6; rw [List.length_append]; show _ + 1 ≤ 6; omega, by show 0 ≤ 9; omega⟩
 ·refine ⟨_, c1, hc1, ?_, fun kf => by simp only [cond_false]; rfl⟩
  exact ⟨t2, t4, j2, j4, hr, by show s.length ≤ 6; omega, by show b.length ≤ 6; omega, by show 0 ≤ 9; omega⟩
theorem l33Any_draws {N : Nat} (hN : 200 < N) : Draws (S23 N) TinyC := fun c hc => by
 have hm := maxLen_eq
 obtain ⟨t, c1, hc1, ⟨t1, t2, t3⟩, e1⟩ := l19Draw_draws hN c hc
 obtain ⟨j, c2, hc2, ⟨j1, j2, j3⟩, e2⟩ := l21Draw_draws hN c1 hc1
 obtain ⟨w, ew⟩ : ∃ w, ∀ kf, S44 N t kf = kf w := ⟨_, fun kf => S44_ok (by omega) (fun x hx => by have := t3 x hx; omega) (by omega)⟩
 obtain ⟨r, ok, hr, er⟩ : ∃ (r : List Pair) (ok : Bool), r.length ≤ 5 ∧ ∀ kf, S45 N t kf = kf r ok := by
  cases hq : roundM t with
  | none => exact ⟨[], false, by simp, fun kf => by rw [S45_ok (by omega) (fun x hx => by have := t3 x hx; omega) (by omega) (by omega), hq]; rfl⟩
  | some r => exact ⟨r, true, by have := roundM_len hq; omega, fun kf => by rw [S45_ok (by omega) (fun x hx => by have := t3 x hx; omega) (by omega) (by omega), hq]; rfl⟩
 obtain ⟨s, fine, hs, hs2, es⟩ : ∃ (s : List Int) (fine : Bool), s.length ≤ 5 ∧ (fine = true → s.length = r.length) ∧ ∀ kf, S46 N t j r kf = kf s fine := by
  have h0 : ∀ kf, S46 N t j r kf = ans (seatsM t j r) kf := fun kf => S46_ok (by omega) (fun x hx => by have := t3 x hx; omega) (by omega) (by omega) (by omega) (by omega) (fun x hx => by have := j3 x hx; omega) (by omega)
  cases hq : seatsM t j r with
  | none => exact ⟨[], false, by simp, by simp, fun kf => by rw [h0, hq]; rfl⟩
  | some s => exact ⟨s, true, by have := seatsM_len hq; omega, fun _ => seatsM_len hq, fun kf => by rw [h0, hq]; rfl⟩
 have J := l33_j2 hN (w := w) t2 t3 j2 j3
 unfold S23 S23_g
 simp only [e1, e2, ew, er, es]
 cases ok with
 | false => obtain ⟨v, c', h1, h2, h3⟩ := J c2 [] [] [] hc2 (by simp) (by simp) (by simp); exact ⟨v, c', h1, h2, fun kf => by simp only [cond_false]; exact h3 kf⟩
 | true =>
 cases fine with
 | false => obtain ⟨v, c', h1, h2, h3⟩ := J c2 [] [] [] hc2 (by simp) (by simp) (by simp); exact ⟨v, c', h1, h2, fun kf => by simp only [cond_true, cond_false]; exact h3 kf⟩
 | true =>
 obtain ⟨b1, c3, hc3, e3⟩ := once (N := N) (n := 3) (by omega) (by omega) hc2
 have hsr := hs2 rfl
 cases b1 with
 | true =>
  obtain ⟨v, c', h1, h2, h3⟩ := J c3 [] [] [] hc3 (by simp) (by simp) (by simp)
  refine ⟨v, c', h1, h2, fun kf => ?_⟩
  rw [cond_true, cond_true, e3, Bool.not_true, cond_false]
  exact h3 kf
 | false =>
 have hd1 : decide ((0 : Int) ≤ (List.length r : Int)) = true := decide_eq_true (by omega)
 have hd2 : decide ((List.length r : Int) ≤ 1099511627776) = true := decide_eq_true (by omega)
 by_cases h0 : (List.length r : Int) > 0
 rotate_left
 ·obtain ⟨v, c', h1, h2, h3⟩ := J c3 r s (List.replicate (Int.toNat (List.length r : Int)) ((0 : Int), ((0 : Int), (0 : Int)))) hc3 hr hs (by simpa using hr)
  refine ⟨v, c', h1, h2, fun kf => ?_⟩
  rw [cond_true, cond_true, e3, Bool.not_false, cond_true, decide_true, hd1, hd2, show (true && true && true) = true from rfl, cond_true, decide_eq_false h0, cond_false]
  exact h3 kf
 obtain ⟨b2, c4, hc4, e4⟩ := once (N := N) (n := 2) (by omega) (by omega) hc3
 cases b2 with
 | false =>
  obtain ⟨v, c', h1, h2, h3⟩ := J c4 r s (List.replicate (Int.toNat (List.length r : Int)) ((0 : Int), ((0 : Int), (0 : Int)))) hc4 hr hs (by simpa using hr)
  refine ⟨v, c', h1, h2, fun kf => ?_⟩
  rw [cond_true, cond_true, e3, Bool.not_false, cond_true, decide_true, hd1, hd2, show (true && true && true) = true from rfl, cond_true, decide_eq_true h0, cond_true, e4, cond_false]
  exact h3 kf
 | true =>
  obtain ⟨v, c', h1, h2, h3⟩ := J c4 r s (List.set (List.replicate (Int.toNat (List.length r : Int)) ((0 : Int), ((0 : Int), (0 : Int)))) (Int.toNat (0 : Int)) ((List.getD s (Int.toNat (0 : Int)) (0 : Int)), ((70 : Int), (60 : Int)))) hc4 hr hs (by rw [List.length_set]; simpa using hr)
  refine ⟨v, c', h1, h2, fun kf => ?_⟩
  have i1 : inB (0 : Int) (List.length s) = true := inB_nat (i := 0) (by omega)
  have i2 : inB (0 : Int) (List.length (List.replicate (Int.toNat (List.length r : Int)) ((0 : Int), ((0 : Int), (0 : Int))))) = true := inB_nat (i := 0) (by rw [List.length_replicate]; omega)
  rw [cond_true, cond_true, e3, Bool.not_false, cond_true, decide_true, hd1, hd2, show (true && true && true) = true from rfl, cond_true, decide_eq_true h0, cond_true, e4, cond_true, i1, cond_true, i2, cond_true]
  exact h3 kf
theorem drawIsClub_ok {N : Nat} {a : List Int} (ha : a.length ≤ 1048576) (hN : 4000 < N) : ∃ c : Club, TinyC c ∧ ∀ kf, S21 N a kf = kf c := by
 obtain ⟨c0, hc0, e0⟩ := l1New_ok (N := N) ha (by omega)
 obtain ⟨v, c1, _, hv, e1⟩ := l33Any_draws (N := N) (by omega) c0 hc0
 exact ⟨v, hv, fun kf => by unfold S21; rw [e0, e1]⟩
theorem drawEqual_ok {N : Nat} {a : List Int} (ha : a.length ≤ 1048576) (hN : 4000 < N) : ∃ (x y : Club), ClubOK x N ∧ ClubOK y N ∧ ∀ kf, S11 N a kf = kf x y := by
 obtain ⟨c0, hc0, e0⟩ := l1New_ok (N := N) ha (by omega)
 obtain ⟨v, c1, hc1, hv, e1⟩ := l33Any_draws (N := N) (by omega) c0 hc0
 have hO := tinyC_ok hv (N := N) (by omega)
 obtain ⟨k, c2, hc2, _, e2⟩ := below (N := N) (n := 5) (by omega) (by omega) hc1
 unfold S11
 simp only [e0, e1, S24_ok hO, e2]
 cases k == 0
 rotate_left
 ·obtain ⟨v2, c3, _, hv2, e3⟩ := l33Any_draws (N := N) (by omega) c2 hc2
  exact ⟨v, v2, hO, tinyC_ok hv2 (by omega), fun kf => by simp only [cond_true, e3]⟩
 cases k == 1
 rotate_left
 ·refine ⟨v, _, hO, ?_, fun kf => by simp only [cond_true, cond_false]; rfl⟩
  exact ⟨hO.tl, hO.tm, hO.tN, hO.jl, hO.jm, hO.jN, hO.rl, hO.rN, hO.sl, hO.sN, hO.bl, hO.bN, hO.ml, hO.mN, hO.n8, hO.tb, hO.tmb, hO.jb, hO.jmb⟩
 cases k == 2
 rotate_left
 ·have hm := hv.m
  have hd : decide ((List.length v.2.2.2.2.2.1 + List.length [((1 : Int), ((0 : Int), ((0 : Int), (0 : Int))))]) * 4 ≤ 4398046511104) = true := decide_eq_true (by have : List.length [((1 : Int), ((0 : Int), ((0 : Int), (0 : Int))))] = 1 := rfl; omega)
  refine ⟨v, _, hO, ?_, fun kf => by simp only [cond_true, cond_false, hd]; rfl⟩
  exact withMin_ok hO (l := v.2.2.2.2.2.1 ++ [((1 : Int), ((0 : Int), ((0 : Int), (0 : Int))))]) (by rw [List.length_append]; show _ + 1 ≤ 200; omega) (by omega)
 ·exact ⟨v, v, hO, hO, fun kf => by simp only [cond_false]⟩
theorem eqClub_comm (a b : Club) : eqClubM a b = eqClubM b a := by
 unfold eqClubM
 simp only [eq_comm (a := a.1), eq_comm (a := a.2.1), eq_comm (a := a.2.2.1), eq_comm (a := a.2.2.2.1), eq_comm (a := a.2.2.2.2.1), eq_comm (a := a.2.2.2.2.2.1), Bool.beq_comm (a := a.2.2.2.2.2.2)]
theorem lawFnClubs (a : List Int) (h : wfs [.sl (.int .u8)] (a, ())) : ∃ N, ∀ kf, L3 N a kf = kf true := by
 obtain ⟨N, hN⟩ : ∃ N : Nat, N = 5000 := ⟨_, rfl⟩
 refine ⟨N, fun kf => ?_⟩
 unfold L3 L3_g
 have hbig : ∀ k : Bool → Option Ret, L4 N a k = k (decide ((List.length a : Int) > (1048576 : Int))) := fun k => rfl
 rw [hbig]
 by_cases hb : (List.length a : Int) > 1048576
 ·rw [decide_eq_true hb]; rfl
 rw [decide_eq_false hb]
 simp only [cond_false]
 have hn0 : ∀ k : Club → Option Ret, I6 N k = k newC := fun k => rfl
 have hOn : ClubOK newC N := (small_of newC_good.cl).okC (by omega)
 obtain ⟨c, hc, ec⟩ := drawIsClub_ok (N := N) (a := a) (by omega) (by omega)
 have hO := tinyC_ok hc (N := N) (by omega)
 obtain ⟨x, y, hx, hy, exy⟩ := drawEqual_ok (N := N) (a := a) (by omega) (by omega)
 have hr : ∀ (c : Club) (k : Bool → Option Ret), I7 N c k = k (decide ((List.length c.2.2.1 : Int) > (0 : Int))) := fun c k => rfl
 have hw := waitM_len c
 have ha : ∀ k, L10 N (waitM c) k = k true := fun k => ascends_ok (gatherI_asc (p := emptyB) c.2.2.2.2.1 0) (by have := hc.b; omega) (by have := hc.b; omega)
 have hwl : decide ((List.length (waitM c) : Int) > (List.length c.2.2.2.2.1 : Int)) = false := decide_eq_false (by omega)
 have hj : L3_j1_g L4 I6 I5 I7 S8 I9 L10 S11 I12 N a kf = kf true := by
  unfold L3_j1_g
  simp only [exy, I12_ok hx, I12_ok hy, eqClub_comm y x, beq_self_eq_true, cond_true, eqClub_self]
 have hdw : ∀ k : Club → Option Ret, S8 N a k = k c := fun k => ec k
 simp only [hn0, I5_ok hOn, newC_good.cl, Bool.not_true, cond_false, hr, hdw, I9_ok hO, ha, hwl, I5_ok hO, hj]
 have h0 : decide ((List.length newC.2.2.1 : Int) > (0 : Int)) = false := rfl
 rw [h0, cond_false]
 cases hcl : isClubM c with
 | false => rfl
 | true =>
  have := (club_is hcl).sl
  simp only [cond_true, this, beq_self_eq_true, Bool.not_true, cond_false]
end Go.Pv.R
