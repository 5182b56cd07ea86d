/- The law over the plain functions. -/
import Derived.Test.YtcpakhaogbempaaPlHz
namespace Go.Pv.R
set_option linter.unusedVariables false
set_option linter.unusedSimpArgs false
end Go.Pv.R
namespace Go.Pv.R
set_option linter.unusedVariables false
set_option linter.unusedSimpArgs false
theorem S72_ok {N : Nat} {a b c : Int} {kf : Bool → Option Ret} : S72 N a b c kf = kf (inR a b c) := by
 unfold S72 inR
 by_cases h : b ≤ a <;> simp [h]
theorem I45_ok {N : Nat} {a b c : Int} {kf : Bool → Option Ret} : I45 N a b c kf = kf (inR a b c) := by
 unfold I45 inR
 by_cases h : b ≤ a <;> simp [h]
end Go.Pv.R
namespace Go.Pv.R
set_option linter.unusedVariables false
set_option linter.unusedSimpArgs false
theorem tmod_both (a : Int) : (a.tmod 2147483647 = a % 2147483647 ∧ 0 ≤ a) ∨ (a.tmod 2147483647 = -((-a) % 2147483647) ∧ a < 0) := by
 rcases Int.lt_or_le a 0 with h | h
 ·right
  refine ⟨?_, h⟩
  have h1 : (-a).tmod 2147483647 = (-a) % 2147483647 := Int.tmod_eq_emod_of_nonneg (by omega)
  rw [Int.neg_tmod] at h1
  omega
 ·exact .inl ⟨Int.tmod_eq_emod_of_nonneg h, h⟩
theorem S169_ok {N : Nat} {a : Int} {kf : Int → Option Ret} : S169 N a 2147483647 kf = kf (a % 2147483647) := by
 unfold S169
 rw [S72_ok, show inR 2147483647 1 1000000000000 = true from by decide]
 have e : (decide ((2147483647 : Int) = 0)) = false := by decide
 simp only [Bool.not_true, cond_false, e, Bool.not_false, cond_true]
 congr 1
 rcases tmod_both a with ⟨h, h'⟩ | ⟨h, h'⟩ <;> rw [h, wrap64 (by omega) (by omega), Int.tmod_eq_emod_of_nonneg (by omega)] <;> omega
theorem I153_ok {N : Nat} {a : Int} {kf : Int → Option Ret} : I153 N a 2147483647 kf = kf (a % 2147483647) := by
 unfold I153
 rw [I45_ok, show inR 2147483647 1 1000000000000 = true from by decide]
 have e : (decide ((2147483647 : Int) = 0)) = false := by decide
 simp only [Bool.not_true, cond_false, e, Bool.not_false, cond_true]
 rcases tmod_both a with ⟨h, h'⟩ | ⟨h, h'⟩ <;> rw [h]
 ·rw [decide_eq_false (by omega), cond_false]
 ·by_cases hz : -((-a) % 2147483647) < 0
  ·rw [decide_eq_true hz, cond_true, wrap64 (by omega) (by omega)]
   congr 1
   omega
  ·rw [decide_eq_false hz, cond_false]
   congr 1
   omega
def foldM (i : Nat) (x s : Int) : Int := Int.tmod (IntKind.wrap .i64 ((IntKind.wrap .i64 ((IntKind.wrap .i64 (s * (1000003 : Int))) + x % 2147483647)) + (13 : Int))) (2147483647 : Int)
def hashM (l : List Int) : Int := foldI foldM l 0 11
theorem S152_ok {N : Nat} {l : List Int} {kf : Int → Option Ret} (hl : l.length ≤ maxLen) (hN : l.length < N) : S152 N l kf = kf (hashM l) := by
 unfold S152
 rw [S152_l3_r hl hN, goL1_f foldM (fun i x s next h e => by rw [S169_ok]; rfl)]
 rfl
theorem I107_ok {N : Nat} {l : List Int} {kf : Int → Option Ret} (hl : l.length ≤ maxLen) (hN : l.length < N) : I107 N l kf = kf (hashM l) := by
 unfold I107
 rw [I107_l3_r hl hN, goL1_f foldM (fun i x s next h e => by unfold I130; rw [I153_ok]; rfl)]
 rfl
def sealM (s : Int) (x : QIIIIE) : Int := hashM [s, x.1, x.2.1, x.2.2.1]
theorem S127_ok {N : Nat} {s : Int} {x : QIIIIE} {kf : Int → Option Ret} (hN : 4 < N) : S127 N s x kf = kf (sealM s x) := by
 unfold S127
 rw [S152_ok (by rw [maxLen_eq]; simp) (by simpa using hN)]
 rfl
theorem I77_ok {N : Nat} {s : Int} {x : QIIIIE} {kf : Int → Option Ret} (hN : 4 < N) : I77 N s x kf = kf (sealM s x) := by
 unfold I77
 rw [I107_ok (by rw [maxLen_eq]; simp) (by simpa using hN)]
 rfl
def minM : List QIIIIE → Nat → Int → Bool
 | [], _, _ => true
 | x :: r, i, s => (x.1 == ((i + 1 : Nat) : Int)) && inR x.2.1 1 9 && inR x.2.2.1 0 99 && (x.2.2.2 == sealM s x) && minM r (i + 1) x.2.2.2
def areMinM (l : List QIIIIE) : Bool := decide (l.length ≤ 200) && minM l 0 0
theorem S129_ok {N : Nat} {l : List QIIIIE} {kf : Bool → Option Ret} (hl : l.length ≤ maxLen) (hN : l.length < N) (h4 : 4 < N) : S129 N l kf = kf (areMinM l) := by
 unfold S129
 rw [S129_l3_r hl hN]
 by_cases hc : l.length ≤ 200
 ·have h1 : (decide ((l.length : Int) ≤ 200)) = true := decide_eq_true (by omega)
  have key : ∀ (r : List QIIIIE) (i : Nat) (s : Int), l.drop i = r → goL1 (fun (i : Nat) (x : QIIIIE) (x3_2 : Int) (next : Int → Option Ret) =>
    bif (decide ((List.length l : Int) ≤ (200 : Int))) then
     S127 N x3_2 x (fun (r23_5 : Int) =>
      bif (x.1 != (IntKind.wrap .i64 ((i : Int) + (1 : Int)))) then kf false
      else
       S72 N x.2.1 (1 : Int) (9 : Int) (fun (r32_6 : Bool) =>
        bif (!r32_6) then kf false
        else
         S72 N x.2.2.1 (0 : Int) (99 : Int) (fun (r38_7 : Bool) =>
          bif (!r38_7) then kf false
          else
           bif (x.2.2.2 != r23_5) then kf false
           else next r23_5)))
    else kf (decide ((List.length l : Int) ≤ (200 : Int)))) (fun (x3_2 : Int) => kf (decide ((List.length l : Int) ≤ (200 : Int)))) r i s = kf (minM r i s) := by
   intro r
   induction r with
   | nil => intro i s _; simp only [goL1, minM, h1]
   | cons x r ih =>
    intro i s hd
    have hlt : i < l.length := by have := congrArg List.length hd; simp at this; omega
    rw [List.drop_eq_getElem_cons hlt] at hd
    injection hd with e1 e2
    simp only [goL1, minM]
    simp only [ih (i + 1) _ e2]
    simp only [h1, cond_true, S127_ok h4, S72_ok, wrap_succ hlt hl]
    cases hx : (x.1 == ((i + 1 : Nat) : Int)) with
    | false => simp only [bne, hx, Bool.not_false, cond_true, Bool.false_and]
    | true =>
     simp only [bne, hx, Bool.not_true, cond_false, Bool.true_and]
     cases inR x.2.1 1 9 <;> simp
     cases inR x.2.2.1 0 99 <;> simp
     by_cases hs : x.2.2.2 = sealM s x
     ·simp [hs]
     ·have : (x.2.2.2 == sealM s x) = false := by simpa using hs
      simp [this]
  refine Eq.trans (key l 0 0 rfl) ?_
  unfold areMinM
  simp [hc]
 ·have h1 : (decide ((l.length : Int) ≤ 200)) = false := decide_eq_false (by omega)
  cases l with
  | nil => simp at hc
  | cons x r =>
   simp only [goL1, h1, cond_false]
   unfold areMinM
   rw [decide_eq_false hc]
   rfl
theorem I41_ok {N : Nat} {l : List QIIIIE} {kf : Bool → Option Ret} (hl : l.length ≤ maxLen) (hN : l.length < N) (h4 : 4 < N) : I41 N l kf = kf (areMinM l) := by
 unfold I41
 by_cases hc : l.length ≤ 200
 ·have h1 : (decide ((l.length : Int) > 200)) = false := decide_eq_false (by omega)
  rw [h1, cond_false, I41_l5_r hl hN]
  have key : ∀ (r : List QIIIIE) (i : Nat) (s : Int), l.drop i = r → goL1 (fun (i : Nat) (x : QIIIIE) (x3_1 : Int) (next : Int → Option Ret) =>
    bif (x.1 != (IntKind.wrap .i64 ((i : Int) + (1 : Int)))) then kf false
    else
     I45 N x.2.1 (1 : Int) (9 : Int) (fun (r24_6 : Bool) =>
      bif (!r24_6) then kf false
      else
       I45 N x.2.2.1 (0 : Int) (99 : Int) (fun (r30_7 : Bool) =>
        bif (!r30_7) then kf false
        else
         I77 N x3_1 x (fun (r38_8 : Int) =>
          bif (x.2.2.2 != r38_8) then kf false
          else next x.2.2.2)))) (fun (x3_1 : Int) => kf true) r i s = kf (minM r i s) := by
   intro r
   induction r with
   | nil => intro i s _; simp only [goL1, minM]
   | cons x r ih =>
    intro i s hd
    have hlt : i < l.length := by have := congrArg List.length hd; simp at this; omega
    rw [List.drop_eq_getElem_cons hlt] at hd
    injection hd with e1 e2
    simp only [goL1, minM]
    simp only [ih (i + 1) _ e2]
    simp only [I77_ok h4, I45_ok, wrap_succ hlt hl]
    cases hx : (x.1 == ((i + 1 : Nat) : Int)) with
    | false => simp only [bne, hx, Bool.not_false, cond_true, Bool.false_and]
    | true =>
     simp only [bne, hx, Bool.not_true, cond_false, Bool.true_and]
     cases inR x.2.1 1 9 <;> simp
     cases inR x.2.2.1 0 99 <;> simp
     by_cases hs : x.2.2.2 = sealM s x
     ·simp [hs]
     ·have : (x.2.2.2 == sealM s x) = false := by simpa using hs
      simp [this]
  refine Eq.trans (key l 0 0 rfl) ?_
  unfold areMinM
  simp [hc]
 ·have h1 : (decide ((l.length : Int) > 200)) = true := decide_eq_true (by omega)
  rw [h1, cond_true]
  unfold areMinM
  rw [decide_eq_false hc]
  rfl
end Go.Pv.R
namespace Go.Pv
set_option linter.unusedVariables false
set_option linter.unusedSimpArgs false
theorem findI_some {α : Type} {p : α → Bool} : ∀ {l : List α} {i k : Nat}, findI p l i = some k → ∃ j, ∃ h : j < l.length, k = i + j ∧ p l[j] = true ∧ ∀ j' (h' : j' < j), p (l[j']'(by omega)) = false
 | [], i, k, h => by cases h
 | x :: r, i, k, h => by
  simp only [findI] at h
  cases hp : p x with
  | true =>
   rw [hp] at h
   injection h with h
   exact ⟨0, by simp, by omega, hp, fun j' h' => by omega⟩
  | false =>
   rw [hp] at h
   obtain ⟨j, hj, e, h1, h2⟩ := findI_some (l := r) h
   refine ⟨j + 1, by simpa using hj, by omega, h1, fun j' h' => ?_⟩
   cases j' with
   | zero => exact hp
   | succ j' => exact h2 j' (by omega)
theorem findI_none {α : Type} {p : α → Bool} : ∀ {l : List α} {i : Nat}, findI p l i = none → ∀ j (h : j < l.length), p l[j] = false
 | [], i, h, j, hj => by simp at hj
 | x :: r, i, h, j, hj => by
  simp only [findI] at h
  cases hp : p x with
  | true => rw [hp] at h; cases h
  | false =>
   rw [hp] at h
   cases j with
   | zero => exact hp
   | succ j => exact findI_none (l := r) h j (by simpa using hj)
theorem goL_find {α : Type} {body : Nat → α → Option Ret → Option Ret} {kend : Option Ret} {kf : Nat → Option Ret} {p : α → Bool} (hb : ∀ (i : Nat) (x : α) (next : Option Ret), body i x next = bif p x then kf i else next) : ∀ (l : List α) (i : Nat), goL body kend l i = match findI p l i with
  | some k => kf k
  | none => kend
 | [], _ => rfl
 | x :: r, i => by
  simp only [goL, findI]
  rw [hb]
  cases p x
  ·exact goL_find hb r (i + 1)
  ·rfl
def findM {α : Type} (p : α → Bool) (l : List α) : Int := match findI p l 0 with
 | some k => (k : Int)
 | none => -1
theorem findM_pos {α : Type} {p : α → Bool} {l : List α} (h : ¬ findM p l < 0) : ∃ k : Nat, ∃ hk : k < l.length, findM p l = (k : Int) ∧ p l[k] = true ∧ ∀ j (hj : j < k), p (l[j]'(by omega)) = false := by
 unfold findM at *
 split at h
 ·rename_i k hk
  obtain ⟨j, hj, e, h1, h2⟩ := findI_some hk
  obtain rfl : k = j := by omega
  exact ⟨k, hj, rfl, h1, h2⟩
 ·omega
theorem findM_neg {α : Type} {p : α → Bool} {l : List α} (h : findM p l < 0) : findM p l = -1 ∧ ∀ j (hj : j < l.length), p l[j] = false := by
 unfold findM at *
 split at h
 ·omega
 ·rename_i hn
  exact ⟨rfl, findI_none hn⟩
theorem allI_and {α : Type} {p q : Nat → α → Bool} : ∀ {l : List α} {i : Nat}, allI (fun i x => p i x && q i x) l i = (allI p l i && allI q l i)
 | [], _ => rfl
 | x :: r, i => by
  simp only [allI, allI_and (l := r)]
  cases p i x <;> cases q i x <;> cases allI p r (i + 1) <;> simp
theorem allI_congr {α : Type} {p q : Nat → α → Bool} {l : List α} (h : ∀ (j : Nat) (hj : j < l.length), p j l[j] = q j l[j]) : allI p l 0 = allI q l 0 := by
 apply Bool.eq_iff_iff.2
 rw [allI_iff, allI_iff]
 constructor
 ·intro h1 j hj; have := h1 j hj; rw [Nat.zero_add] at *; rw [← h j hj]; exact this
 ·intro h1 j hj; have := h1 j hj; rw [Nat.zero_add] at *; rw [h j hj]; exact this
theorem wrap_pred {i m : Nat} (h0 : 0 < i) (h : i < m) (hm : m ≤ maxLen) : IntKind.wrap .i64 ((i : Int) - 1) = ((i - 1 : Nat) : Int) := by
 have := maxLen_eq
 rw [wrap64] <;> omega
end Go.Pv
namespace Go.Pv.R
set_option linter.unusedVariables false
set_option linter.unusedSimpArgs false
abbrev Team := QIIIIILIE
def findT (l : List Team) (id : Int) : Int := findM (fun x : Team => x.1 == id) l
theorem S131_ok {N : Nat} {l : List Team} {id : Int} {kf : Int → Option Ret} (hl : l.length ≤ maxLen) (hN : l.length < N) : S131 N l id kf = kf (findT l id) := by
 unfold S131
 rw [S131_l2_r hl hN, goL_find (p := fun x : Team => x.1 == id) (kf := fun i => kf (i : Int)) (fun i x next => rfl)]
 unfold findT findM
 cases findI (fun x : Team => x.1 == id) l 0 <;> rfl
theorem I76_ok {N : Nat} {l : List Team} {id : Int} {kf : Int → Option Ret} (hl : l.length ≤ maxLen) (hN : l.length < N) : I76 N l id kf = kf (findT l id) := by
 unfold I76 S105
 rw [S105_l2_r hl hN]
 simp only [I106]
 rw [goL_find (p := fun x : Team => x.1 == id) (kf := fun i => kf (i : Int)) (fun i x next => rfl)]
 unfold findT findM
 cases findI (fun x : Team => x.1 == id) l 0 <;> rfl
def countM (l : List Int) (n : Int) : Int := foldI (fun i x s => bif x == n then IntKind.wrap .i64 (s + 1) else s) l 0 0
theorem S132_ok {N : Nat} {l : List Int} {n : Int} {kf : Int → Option Ret} (hl : l.length ≤ maxLen) (hN : l.length < N) : S132 N l n kf = kf (countM l n) := by
 unfold S132
 rw [S132_l3_r hl hN, goL1_f (fun i x s => bif x == n then IntKind.wrap .i64 (s + 1) else s) (fun i x s next h e => by cases x == n <;> rfl)]
 rfl
theorem I67_ok {N : Nat} {l : List Int} {n : Int} {kf : Int → Option Ret} (hl : l.length ≤ maxLen) (hN : l.length < N) : I67 N l n kf = kf (countM l n) := by
 unfold I67
 rw [I67_l3_r hl hN, goL1_f (fun i x s => bif x == n then IntKind.wrap .i64 (s + 1) else s) (fun i x s next h e => by cases x == n <;> rfl)]
 rfl
abbrev Team.met (x : Team) : List Int := x.2.2.2.2.2
def teamP (l : List Team) (i : Nat) (x : Team) : Bool := inR x.1 1 99 && (inR x.2.1 1 99 && (inR x.2.2.1 0 x.met.length && (inR x.2.2.2.2.1 0 x.met.length && (inR x.2.2.2.1 0 100000 && (decide (x.met.length ≤ 20) && (decide (i = 0) || decide ((l.getD (i - 1) zQIIIIILIE).1 < x.1)))))))
def metP (l : List Team) (x : Team) (id : Int) : Bool := !decide (findT l id < 0) && (!(id == x.1) && (countM x.met id == countM (l.getD (findT l id).toNat zQIIIIILIE).met x.1))
def areTeamsM (l : List Team) : Bool := decide (l.length ≤ 10) && (allI (teamP l) l 0 && allI (fun _ x => x.met.all (metP l x)) l 0)
def metS (l : List Team) (i : Nat) (x : Team) (id : Int) : Bool := !decide (findT l id < 0) && (!(findT l id == (i : Int)) && (countM (l.getD (findT l id).toNat zQIIIIILIE).met x.1 == countM x.met (l.getD (findT l id).toNat zQIIIIILIE).1))
theorem allI_all {α : Type} {p : α → Bool} : ∀ {l : List α} {i : Nat}, allI (fun _ x => p x) l i = l.all p
 | [], _ => rfl
 | x :: r, i => by simp only [allI, List.all_cons, allI_all (l := r)]
theorem teams_mono {l : List Team} (h : allI (teamP l) l 0 = true) : ∀ (j i : Nat) (hi : i < l.length), j < i → (l.getD j zQIIIIILIE).1 < l[i].1 := by
 rw [allI_iff] at h
 have step : ∀ (i : Nat) (hi : i < l.length), 0 < i → (l.getD (i - 1) zQIIIIILIE).1 < l[i].1 := fun i hi h0 => by
  have := h i hi
  rw [Nat.zero_add] at this
  simp only [teamP, Bool.and_eq_true, Bool.or_eq_true, decide_eq_true_eq] at this
  omega
 intro j i hi hji
 induction i with
 | zero => omega
 | succ i ih =>
  have h1 := step (i + 1) hi (by omega)
  rw [Nat.add_sub_cancel, getD_nat _ _ (show i < l.length by omega)] at h1
  rcases Nat.lt_or_eq_of_le (Nat.le_of_lt_succ hji) with h2 | rfl
  ·have := ih (by omega) h2; omega
  ·rw [getD_nat _ _ (by omega)]; exact h1
theorem findT_self {l : List Team} (h : allI (teamP l) l 0 = true) {i : Nat} (hi : i < l.length) {id : Int} : findT l id = (i : Int) ↔ id = l[i].1 := by
 constructor
 ·intro e
  obtain ⟨k, hk, e1, h1, _⟩ := findM_pos (p := fun x : Team => x.1 == id) (l := l) (by unfold findT at e; omega)
  unfold findT at e
  obtain rfl : k = i := by omega
  exact (beq_iff_eq.1 h1).symm
 ·rintro rfl
  unfold findT
  by_cases hn : findM (fun x : Team => x.1 == l[i].1) l < 0
  ·have := (findM_neg hn).2 i hi
   simp at this
  ·obtain ⟨k, hk, e1, h1, h2⟩ := findM_pos hn
   rw [e1]
   have h1 : l[k].1 = l[i].1 := by simpa using h1
   rcases Nat.lt_trichotomy k i with hlt | rfl | hlt
   ·have := teams_mono h k i hi hlt
    rw [getD_nat _ _ hk] at this
    omega
   ·rfl
   ·have := h2 i hlt
    simp at this
theorem metS_eq {l : List Team} (h : allI (teamP l) l 0 = true) {i : Nat} (hi : i < l.length) (id : Int) : metS l i l[i] id = metP l l[i] id := by
 unfold metS metP
 by_cases hn : findT l id < 0
 ·simp [hn]
 ·rw [decide_eq_false hn, Bool.not_false, Bool.true_and, Bool.true_and]
  have e1 : (findT l id == (i : Int)) = (id == l[i].1) := by
   apply Bool.eq_iff_iff.2
   rw [beq_iff_eq, beq_iff_eq]
   exact findT_self h hi
  rw [e1]
  obtain ⟨k, hk, e2, h2, _⟩ := findM_pos (p := fun x : Team => x.1 == id) hn
  have e3 : findT l id = (k : Int) := e2
  rw [e3, Int.toNat_natCast, getD_nat _ _ hk, show l[k].1 = id by simpa using h2]
  congr 1
  apply Bool.eq_iff_iff.2
  rw [beq_iff_eq, beq_iff_eq]
  exact ⟨fun h => h.symm, fun h => h.symm⟩
theorem teams_alike (l : List Team) : (allI (fun i x => teamP l i x && x.met.all (metS l i x)) l 0 && decide (l.length ≤ 10)) = areTeamsM l := by
 unfold areTeamsM
 rw [allI_and]
 cases h : allI (teamP l) l 0 with
 | false => simp
 | true =>
  have : allI (fun i x => x.met.all (metS l i x)) l 0 = allI (fun _ x => x.met.all (metP l x)) l 0 := allI_congr fun j hj => by
   congr 1
   funext id
   exact metS_eq h hj id
  rw [this]
  cases decide (l.length ≤ 10) <;> simp
theorem S111_ok {N : Nat} {l : List Team} {kf : Bool → Option Ret} (hl : l.length ≤ maxLen) (hm : ∀ x ∈ l, x.met.length ≤ maxLen ∧ x.met.length < N) (hN : l.length < N) : S111 N l kf = kf (areTeamsM l) := by
 unfold S111
 rw [S111_l2_r hl hN, goL_all (l := l) (p := fun i x => teamP l i x && x.met.all (metS l i x)) (kf := kf false) (fun i x next h e => ?_) l 0 rfl, ← teams_alike]
 ·cases allI (fun i x => teamP l i x && x.met.all (metS l i x)) l 0
  ·rfl
  ·simp only [cond_true, Bool.true_and]
   congr 1
   apply Bool.eq_iff_iff.2
   simp
   omega
 ·have hx : x ∈ l := by rw [← e]; exact List.getElem_mem h
  obtain ⟨m1, m2⟩ := hm x hx
  have inner : S111_l8 N l (i : Int) x N next kf (0 : Int) = bif x.met.all (metS l i x) then next else kf false := by
   rw [S111_l8_r m1 m2, goL_all (l := x.met) (p := fun _ id => metS l i x id) (kf := kf false) (fun j id next' hj ej => ?_) x.met 0 rfl, allI_all]
   rw [S131_ok hl hN]
   unfold metS
   by_cases hn : findT l id < 0
   ·simp [hn]
   ·rw [decide_eq_false hn, cond_false, Bool.not_false, Bool.true_and]
    cases hf : findT l id == (i : Int)
    ·obtain ⟨k, hk, e2, h2, _⟩ := findM_pos (p := fun x : Team => x.1 == id) hn
     have e3 : findT l id = (k : Int) := e2
     obtain ⟨q1, q2⟩ := hm l[k] (List.getElem_mem hk)
     rw [cond_false, e3, inB_nat hk, cond_true, cond_true, Int.toNat_natCast, getD_nat _ _ hk, S132_ok q1 q2, S132_ok m1 m2]
     cases hc : (countM l[k].met x.1 == countM x.met l[k].1) <;> simp [bne, hc]
    ·simp
  have ord : ∀ A B : Option Ret, (bif (decide ((i : Int) > (0 : Int))) then
    bif (inB (IntKind.wrap .i64 ((i : Int) - (1 : Int))) (List.length l)) then
     bif (decide ((List.getD l (Int.toNat (IntKind.wrap .i64 ((i : Int) - (1 : Int)))) zQIIIIILIE).1 ≥ x.1)) then A else B
    else none
   else B) = bif (decide (i = 0) || decide ((l.getD (i - 1) zQIIIIILIE).1 < x.1)) then B else A := fun A B => by
   by_cases h0 : i = 0
   ·subst h0; simp
   ·rw [decide_eq_true (show (i : Int) > 0 by omega), cond_true, wrap_pred (by omega) h hl, inB_nat (by omega), cond_true, Int.toNat_natCast, decide_eq_false h0, Bool.false_or]
    by_cases hc : (l.getD (i - 1) zQIIIIILIE).1 < x.1
    ·rw [decide_eq_false (by omega), decide_eq_true hc]; rfl
    ·rw [decide_eq_true (by omega), decide_eq_false hc]; rfl
  simp only [S72_ok, inner, ord]
  unfold teamP
  cases inR x.1 1 99 <;> simp
  cases inR x.2.1 1 99 <;> simp
  cases inR x.2.2.1 0 x.met.length <;> simp
  cases inR x.2.2.2.2.1 0 x.met.length <;> simp
  cases inR x.2.2.2.1 0 100000 <;> simp
  by_cases h20 : x.met.length ≤ 20
  ·rw [decide_eq_false (show ¬ (20 : Int) < (x.met.length : Int) by omega), decide_eq_true h20]
   simp
   cases (decide (i = 0) || decide ((l[i - 1]?.getD zQIIIIILIE).1 < x.1)) <;> simp
  ·rw [decide_eq_true (show (20 : Int) < (x.met.length : Int) by omega), decide_eq_false h20]
   simp
theorem I39_ok {N : Nat} {l : List Team} {kf : Bool → Option Ret} (hl : l.length ≤ maxLen) (hm : ∀ x ∈ l, x.met.length ≤ maxLen ∧ x.met.length < N) (hN : l.length < N) : I39 N l kf = kf (areTeamsM l) := by
 unfold I39
 by_cases h10 : l.length ≤ 10
 rotate_left
 ·rw [decide_eq_true (by omega), cond_true]
  unfold areTeamsM
  rw [decide_eq_false h10]
  rfl
 rw [decide_eq_false (by omega), cond_false]
 rw [I39_l4_r hl hN, goL_all (l := l) (p := fun i x => teamP l i x && x.met.all (metP l x)) (kf := kf false) (fun i x next h e => ?_) l 0 rfl]
 ·unfold areTeamsM
  rw [decide_eq_true h10, Bool.true_and, allI_and]
  cases (allI (teamP l) l 0 && allI (fun _ x => x.met.all (metP l x)) l 0) <;> rfl
 ·have hx : x ∈ l := by rw [← e]; exact List.getElem_mem h
  obtain ⟨m1, m2⟩ := hm x hx
  have inner : I39_l10 N l x l (List.length l : Int) (i : Int) x.2.2.2.2.2 (List.length x.2.2.2.2.2 : Int) N next kf (0 : Int) = bif x.met.all (metP l x) then next else kf false := by
   rw [I39_l10_r m1 m2, goL_all (l := x.met) (p := fun _ id => metP l x id) (kf := kf false) (fun j id next' hj ej => ?_) x.met 0 rfl, allI_all]
   rw [I76_ok hl hN]
   unfold metP
   by_cases hn : findT l id < 0
   ·simp [hn]
   ·rw [decide_eq_false hn, cond_false, Bool.not_false, Bool.true_and]
    cases hf : id == x.1
    ·obtain ⟨k, hk, e2, h2, _⟩ := findM_pos (p := fun x : Team => x.1 == id) hn
     have e3 : findT l id = (k : Int) := e2
     obtain ⟨q1, q2⟩ := hm l[k] (List.getElem_mem hk)
     rw [cond_false, e3, inB_nat hk, cond_true, Int.toNat_natCast, getD_nat _ _ hk, I67_ok m1 m2, I67_ok q1 q2]
     cases hc : (countM x.met id == countM l[k].met x.1) <;> simp [bne, hc]
    ·simp
  have ord : ∀ A B : Option Ret, (bif (decide ((i : Int) > (0 : Int))) then
    bif (inB (IntKind.wrap .i64 ((i : Int) - (1 : Int))) (List.length l)) then
     bif (decide (x.1 ≤ (List.getD l (Int.toNat (IntKind.wrap .i64 ((i : Int) - (1 : Int)))) zQIIIIILIE).1)) then A else B
    else none
   else B) = bif (decide (i = 0) || decide ((l.getD (i - 1) zQIIIIILIE).1 < x.1)) then B else A := fun A B => by
   by_cases h0 : i = 0
   ·subst h0; simp
   ·rw [decide_eq_true (show (i : Int) > 0 by omega), cond_true, wrap_pred (by omega) h hl, inB_nat (by omega), cond_true, Int.toNat_natCast, decide_eq_false h0, Bool.false_or]
    by_cases hc : (l.getD (i - 1) zQIIIIILIE).1 < x.1
    ·rw [decide_eq_false (by omega), decide_eq_true hc]; rfl
    ·rw [decide_eq_true (by omega), decide_eq_false hc]; rfl
  simp only [I45_ok, inner, ord]
  unfold teamP
  cases inR x.1 1 99 <;> simp
  cases (decide (i = 0) || decide ((l[i - 1]?.getD zQIIIIILIE).1 < x.1)) <;> simp
  cases inR x.2.1 1 99 <;> simp
  by_cases h20 : x.met.length ≤ 20
  ·rw [decide_eq_false (show ¬ (20 : Int) < (x.met.length : Int) by omega), decide_eq_true h20]
   simp
   cases inR x.2.2.1 0 x.met.length <;> simp
   cases inR x.2.2.2.2.1 0 x.met.length <;> simp
   cases inR x.2.2.2.1 0 100000 <;> simp
  ·rw [decide_eq_true (show (20 : Int) < (x.met.length : Int) by omega), decide_eq_false h20]
   simp
end Go.Pv.R
namespace Go.Pv
set_option linter.unusedVariables false
set_option linter.unusedSimpArgs false
def gatherI {α β : Type} (c : Nat → α → Bool) (f : Nat → α → β) : List α → Nat → List β
 | [], _ => []
 | x :: r, i => bif c i x then f i x :: gatherI c f r (i + 1) else gatherI c f r (i + 1)
theorem gatherI_len {α β : Type} {c : Nat → α → Bool} {f : Nat → α → β} : ∀ (l : List α) (i : Nat), (gatherI c f l i).length ≤ l.length
 | [], _ => Nat.le_refl _
 | x :: r, i => by
  simp only [gatherI]
  have := gatherI_len (c := c) (f := f) r (i + 1)
  cases c i x <;> simp <;> omega
theorem goL1_gather {α β : Type} {body : Nat → α → List β → (List β → Option Ret) → Option Ret} {kend : List β → Option Ret} {c : Nat → α → Bool} {f : Nat → α → β} {l : List α}
  (hb : ∀ (i : Nat) (x : α) (s : List β) (next : List β → Option Ret) (h : i < l.length), l[i] = x → s.length ≤ i → body i x s next = bif c i x then next (s ++ [f i x]) else next s) :
  ∀ (r : List α) (i : Nat) (s : List β), l.drop i = r → s.length ≤ i → goL1 body kend r i s = kend (s ++ gatherI c f r i)
 | [], i, s, _, _ => by simp [goL1, gatherI]
 | x :: r, i, s, hd, hs => by
  have hlt : i < l.length := by have := congrArg List.length hd; simp at this; omega
  rw [List.drop_eq_getElem_cons hlt] at hd
  injection hd with h1 h2
  simp only [goL1, gatherI]
  rw [hb i x s _ hlt h1 hs]
  cases c i x
  ·rw [cond_false, cond_false]
   exact goL1_gather hb r (i + 1) s h2 (by omega)
  ·rw [cond_true, cond_true, goL1_gather hb r (i + 1) (s ++ [f i x]) h2 (by simp; omega)]
   simp
theorem findM_any {α : Type} (p : α → Bool) (l : List α) : decide (findM p l ≥ 0) = l.any p := by
 by_cases h : findM p l < 0
 ·rw [decide_eq_false (by omega)]
  symm
  rw [List.any_eq_false]
  intro x hx
  obtain ⟨j, hj, rfl⟩ := List.mem_iff_getElem.1 hx
  rw [(findM_neg h).2 j hj]
  simp
 ·rw [decide_eq_true (by omega)]
  symm
  rw [List.any_eq_true]
  obtain ⟨k, hk, _, h1, _⟩ := findM_pos h
  exact ⟨l[k], List.getElem_mem hk, h1⟩
theorem countI_eq (n : Int) : ∀ (l : List Int) (i : Nat) (s : Nat), s + l.length ≤ maxLen → foldI (fun _ x s => bif x == n then IntKind.wrap .i64 (s + 1) else s) l i (s : Int) = ((s + l.count n : Nat) : Int)
 | [], _, _, _ => by simp [foldI]
 | x :: r, i, s, h => by
  simp only [foldI, List.count_cons]
  simp only [List.length_cons] at h
  have := maxLen_eq
  cases hx : x == n with
  | false => simp only [cond_false]; rw [countI_eq n r (i + 1) s (by omega)]; simp
  | true =>
   simp only [cond_true, if_true]
   rw [wrap64 (by omega) (by omega), show ((s : Int) + 1) = ((s + 1 : Nat) : Int) by omega, countI_eq n r (i + 1) (s + 1) (by omega)]
   congr 1
   omega
theorem sum_counts {b : List Int} (hb : b.Nodup) : ∀ (a : List Int), (∀ x ∈ a, x ∈ b) → (b.map fun x => a.count x).sum = a.length
 | [], _ => by
  have : ∀ l : List Int, (l.map fun x => ([] : List Int).count x).sum = 0 := by
   intro l
   induction l with
   | nil => rfl
   | cons x r ih => rw [List.map_cons, List.sum_cons, ih]; simp
  rw [this]; rfl
 | y :: a, h => by
  have ih := sum_counts hb a (fun x hx => h x (by simp [hx]))
  have hy := h y (by simp)
  have key : ∀ l : List Int, (l.map fun x => (y :: a).count x).sum = (l.map fun x => a.count x).sum + l.count y := by
   intro l
   induction l with
   | nil => rfl
   | cons x r ihl =>
    rw [List.map_cons, List.sum_cons, ihl, List.map_cons, List.sum_cons, List.count_cons, List.count_cons]
    by_cases hxy : y = x
    ·subst hxy; simp; omega
    ·have h1 : (y == x) = false := by simpa using hxy
     have h2 : (x == y) = false := by simpa using fun e => hxy e.symm
     rw [h1, h2]; simp; omega
  rw [key, ih, List.length_cons]
  have : b.count y = 1 := by
   have h1 := List.count_pos_iff.2 hy
   have h2 := List.nodup_iff_count.1 hb y
   omega
  omega
theorem all_one {b : List Int} {f : Int → Nat} (h1 : ∀ x ∈ b, f x ≤ 1) (h2 : (b.map f).sum = b.length) : ∀ x ∈ b, f x = 1 := by
 have le : ∀ l : List Int, (∀ x ∈ l, f x ≤ 1) → (l.map f).sum ≤ l.length := by
  intro l
  induction l with
  | nil => intro _; simp
  | cons x r ih => intro h; have := ih (fun y hy => h y (by simp [hy])); have := h x (by simp); simp; omega
 induction b with
 | nil => intro x hx; cases hx
 | cons y r ih =>
  have hr := le r (fun x hx => h1 x (by simp [hx]))
  have hy := h1 y (by simp)
  simp only [List.map_cons, List.sum_cons, List.length_cons] at h2
  intro x hx
  rcases List.mem_cons.1 hx with rfl | hx
  ·omega
  ·exact ih (fun x hx => h1 x (by simp [hx])) (by omega) x hx
theorem once_iff {a b : List Int} (hb : b.Nodup) (h : ∀ x ∈ a, x ∈ b) : (∀ x ∈ b, a.count x = 1) ↔ a.Nodup ∧ a.length = b.length := by
 have hs := sum_counts hb a h
 constructor
 ·intro h1
  refine ⟨List.nodup_iff_count.2 fun x => ?_, ?_⟩
  ·by_cases hx : x ∈ a
   ·rw [h1 x (h x hx)]; exact Nat.le_refl _
   ·rw [List.count_eq_zero_of_not_mem hx]; omega
  ·have key : ∀ l : List Int, (∀ x ∈ l, a.count x = 1) → (l.map fun x => a.count x).sum = l.length := by
    intro l
    induction l with
    | nil => intro _; rfl
    | cons x r ih => intro h; simp [ih (fun y hy => h y (by simp [hy])), h x (by simp)]; omega
   rw [key b h1] at hs
   exact hs.symm
 ·intro ⟨h1, h2⟩
  exact all_one (fun x _ => List.nodup_iff_count.1 h1 x) (by rw [hs, h2])
end Go.Pv
namespace Go.Pv.R
set_option linter.unusedVariables false
set_option linter.unusedSimpArgs false
abbrev Judge := QIILIE
abbrev Pair := QIIE
theorem countM_eq {l : List Int} {n : Int} (h : l.length ≤ maxLen) : countM l n = (l.count n : Int) := by
 have := countI_eq n l 0 0 (by omega)
 rw [Nat.zero_add] at this
 exact this
def hasM (l : List Int) (n : Int) : Bool := l.any fun x => x == n
theorem hasM_iff {l : List Int} {n : Int} : hasM l n = true ↔ n ∈ l := by
 unfold hasM
 rw [List.any_eq_true]
 constructor
 ·rintro ⟨x, hx, h⟩
  have : x = n := by simpa using h
  exact this ▸ hx
 ·intro h; exact ⟨n, h, by simp⟩
theorem S118_ok {N : Nat} {l : List Int} {n : Int} {kf : Bool → Option Ret} (hl : l.length ≤ maxLen) (hN : l.length < N) : S118 N l n kf = kf (hasM l n) := by
 unfold S118
 rw [S118_l2_r hl hN, goL_find (p := fun x : Int => x == n) (kf := fun _ => kf true) (fun i x next => rfl)]
 unfold hasM
 rw [← findM_any]
 unfold findM
 cases findI (fun x : Int => x == n) l 0
 ·rfl
 ·rw [decide_eq_true (by simp)]
theorem S81_ok {N : Nat} {l : List Int} {n : Int} {kf : Bool → Option Ret} (hl : l.length ≤ maxLen) (hN : l.length < N) : S81 N l n kf = kf (hasM l n) := by
 unfold S81 S109
 rw [S109_l2_r hl hN, goL_find (p := fun x : Int => n == x) (kf := fun i => kf (decide ((i : Int) ≥ 0))) (fun i x next => rfl)]
 have e : hasM l n = l.any fun x => n == x := by
  unfold hasM
  congr 1
  funext x
  apply Bool.eq_iff_iff.2
  rw [beq_iff_eq, beq_iff_eq]
  exact ⟨fun h => h.symm, fun h => h.symm⟩
 rw [e, ← findM_any]
 unfold findM
 cases findI (fun x : Int => n == x) l 0 <;> rfl
def findJ (l : List Judge) (id : Int) : Int := findM (fun x : Judge => x.1 == id) l
theorem S166_ok {N : Nat} {l : List Judge} {id : Int} {kf : Int → Option Ret} (hl : l.length ≤ maxLen) (hN : l.length < N) : S166 N l id kf = kf (findJ l id) := by
 unfold S166
 rw [S166_l2_r hl hN, goL_find (p := fun x : Judge => x.1 == id) (kf := fun i => kf (i : Int)) (fun i x next => rfl)]
 unfold findJ findM
 cases findI (fun x : Judge => x.1 == id) l 0 <;> rfl
theorem S79_ok {N : Nat} {l : List Judge} {id : Int} {kf : Int → Option Ret} (hl : l.length ≤ maxLen) (hN : l.length < N) : S79 N l id kf = kf (findJ l id) := by
 unfold S79
 rw [S79_l2_r hl hN]
 simp only [I80]
 rw [goL_find (p := fun x : Judge => x.1 == id) (kf := fun i => kf (i : Int)) (fun i x next => rfl)]
 unfold findJ findM
 cases findI (fun x : Judge => x.1 == id) l 0 <;> rfl
theorem I68_ok {N : Nat} {l : List Judge} {id : Int} {kf : Int → Option Ret} (hl : l.length ≤ maxLen) (hN : l.length < N) : I68 N l id kf = kf (findJ l id) := by
 unfold I68 S79b
 rw [S79b_l2_r hl hN]
 simp only [I101]
 rw [goL_find (p := fun x : Judge => x.1 == id) (kf := fun i => kf (i : Int)) (fun i x next => rfl)]
 unfold findJ findM
 cases findI (fun x : Judge => x.1 == id) l 0 <;> rfl
def seenP (s : List Int) : Bool := allI (fun i y => inR y 1 99 && (decide (i = 0) || decide (s.getD (i - 1) 0 < y))) s 0
def judgeP (l : List Judge) (i : Nat) (x : Judge) : Bool := inR x.1 1 99 && (inR x.2.1 1 99 && ((decide (i = 0) || decide ((l.getD (i - 1) zQIILIE).1 < x.1)) && seenP x.2.2))
def areJudgesM (l : List Judge) : Bool := decide (l.length ≤ 10) && allI (judgeP l) l 0
theorem ord_ok {α : Type} {l : List α} {i : Nat} {z : α} {g : α → Int} {y : Int} {A B : Option Ret} (hi : i < l.length) (hl : l.length ≤ maxLen) : (bif (decide ((i : Int) > (0 : Int))) then
    bif (inB (IntKind.wrap .i64 ((i : Int) - (1 : Int))) (List.length l)) then
     bif (decide (y ≤ g (List.getD l (Int.toNat (IntKind.wrap .i64 ((i : Int) - (1 : Int)))) z))) then A else B
    else none
   else B) = bif (decide (i = 0) || decide (g (l.getD (i - 1) z) < y)) then B else A := by
 by_cases h0 : i = 0
 ·subst h0; simp
 ·rw [decide_eq_true (show (i : Int) > 0 by omega), cond_true, wrap_pred (by omega) hi hl, inB_nat (by omega), cond_true, Int.toNat_natCast, decide_eq_false h0, Bool.false_or]
  by_cases hc : g (l.getD (i - 1) z) < y
  ·rw [decide_eq_false (by omega), decide_eq_true hc]; rfl
  ·rw [decide_eq_true (by omega), decide_eq_false hc]; rfl
theorem ord_ok2 {α : Type} {l : List α} {i : Nat} {z : α} {g : α → Int} {y : Int} {A B : Option Ret} (hi : i < l.length) (hl : l.length ≤ maxLen) : (bif (decide ((i : Int) > (0 : Int))) then
    bif (inB (IntKind.wrap .i64 ((i : Int) - (1 : Int))) (List.length l)) then
     bif (decide (g (List.getD l (Int.toNat (IntKind.wrap .i64 ((i : Int) - (1 : Int)))) z) ≥ y)) then A else B
    else none
   else B) = bif (decide (i = 0) || decide (g (l.getD (i - 1) z) < y)) then B else A := ord_ok hi hl
theorem S114_ok {N : Nat} {l : List Judge} {kf : Bool → Option Ret} (hl : l.length ≤ maxLen) (hm : ∀ x ∈ l, x.2.2.length ≤ maxLen ∧ x.2.2.length < N) (hN : l.length < N) : S114 N l kf = kf (areJudgesM l) := by
 unfold S114
 rw [S114_l2_r hl hN, goL_all (l := l) (p := judgeP l) (kf := kf false) (fun i x next h e => ?_) l 0 rfl]
 ·unfold areJudgesM
  cases allI (judgeP l) l 0
  ·simp
  ·simp only [cond_true, Bool.and_true]
   congr 1
   apply Bool.eq_iff_iff.2
   simp
   omega
 ·have hx : x ∈ l := by rw [← e]; exact List.getElem_mem h
  obtain ⟨m1, m2⟩ := hm x hx
  have inner : S114_l7 N l (i : Int) N next kf (0 : Int) = bif seenP x.2.2 then next else kf false := by
   have hg : List.getD l (Int.toNat (i : Int)) zQIILIE = x := by rw [Int.toNat_natCast, getD_nat _ _ h, e]
   rw [S114_l7_r (inB_nat h) (by rw [hg]; exact m1) (by rw [hg]; exact m2)]
   simp only [hg]
   rw [goL_all (l := x.2.2) (p := fun i y => inR y 1 99 && (decide (i = 0) || decide (x.2.2.getD (i - 1) 0 < y))) (kf := kf false) (fun j y next' hj ej => ?_) x.2.2 0 rfl]
   ·rfl
   ·rw [S72_ok]
    have := ord_ok2 (l := x.2.2) (z := (0 : Int)) (g := fun x => x) (y := y) (A := kf false) (B := next') hj m1
    rw [this]
    cases inR y 1 99 <;> simp
  simp only [S72_ok, inner]
  have ho := fun A B => ord_ok2 (l := l) (z := zQIILIE) (g := fun x => x.1) (y := x.1) (A := A) (B := B) h hl
  simp only [ho]
  unfold judgeP
  cases inR x.1 1 99 <;> simp
  cases inR x.2.1 1 99 <;> simp
  cases (decide (i = 0) || decide ((l[i - 1]?.getD zQIILIE).1 < x.1)) <;> simp
theorem I40_ok {N : Nat} {l : List Judge} {kf : Bool → Option Ret} (hl : l.length ≤ maxLen) (hm : ∀ x ∈ l, x.2.2.length ≤ maxLen ∧ x.2.2.length < N) (hN : l.length < N) : I40 N l kf = kf (areJudgesM l) := by
 unfold I40
 by_cases h10 : l.length ≤ 10
 rotate_left
 ·rw [decide_eq_true (by omega), cond_true]
  unfold areJudgesM
  rw [decide_eq_false h10]
  rfl
 rw [decide_eq_false (by omega), cond_false]
 rw [I40_l4_r hl hN, goL_all (l := l) (p := judgeP l) (kf := kf false) (fun i x next h e => ?_) l 0 rfl]
 ·unfold areJudgesM
  rw [decide_eq_true h10, Bool.true_and]
  cases allI (judgeP l) l 0 <;> rfl
 ·have hx : x ∈ l := by rw [← e]; exact List.getElem_mem h
  obtain ⟨m1, m2⟩ := hm x hx
  have inner : I40_l9 N l x l (List.length l : Int) (i : Int) x.2.2 (List.length x.2.2 : Int) N next kf (0 : Int) = bif seenP x.2.2 then next else kf false := by
   rw [I40_l9_r m1 m2]
   rw [goL_all (l := x.2.2) (p := fun i y => inR y 1 99 && (decide (i = 0) || decide (x.2.2.getD (i - 1) 0 < y))) (kf := kf false) (fun j y next' hj ej => ?_) x.2.2 0 rfl]
   ·rfl
   ·rw [I45_ok]
    have := ord_ok (l := x.2.2) (z := (0 : Int)) (g := fun x => x) (y := y) (A := kf false) (B := next') hj m1
    rw [this]
    cases inR y 1 99 <;> simp
  simp only [I45_ok, inner]
  have ho := fun A B => ord_ok (l := l) (z := zQIILIE) (g := fun x => x.1) (y := x.1) (A := A) (B := B) h hl
  simp only [ho]
  unfold judgeP
  cases inR x.1 1 99 <;> simp
  cases inR x.2.1 1 99 <;> simp
  cases (decide (i = 0) || decide ((l[i - 1]?.getD zQIILIE).1 < x.1)) <;> simp
def clubT (l : List Team) (id : Int) : Int := (l.getD (findT l id).toNat zQIIIIILIE).2.1
def metT (l : List Team) (id : Int) : List Int := (l.getD (findT l id).toNat zQIIIIILIE).met
def haveMetM (l : List Team) (a b : Int) : Bool := decide (findT l a ≥ 0) && hasM (metT l a) b
def mayMeetM (l : List Team) (a b : Int) : Bool := areTeamsM l && (decide (findT l a ≥ 0) && (decide (findT l b ≥ 0) && ((findT l a != findT l b) && ((clubT l a != clubT l b) && !haveMetM l a b))))
theorem findT_in {l : List Team} {id : Int} (h : findT l id ≥ 0) : inB (findT l id) l.length = true ∧ (findT l id).toNat < l.length := by
 obtain ⟨k, hk, e, _⟩ := findM_pos (p := fun x : Team => x.1 == id) (l := l) (by unfold findT at h; omega)
 have e : findT l id = (k : Int) := e
 rw [e]
 exact ⟨inB_nat hk, by simpa using hk⟩
theorem S154_ok {N : Nat} {l : List Team} {a b : Int} {kf : Bool → Option Ret} (hl : l.length ≤ maxLen) (hm : ∀ x ∈ l, x.met.length ≤ maxLen ∧ x.met.length < N) (hN : l.length < N) : S154 N l a b kf = kf (haveMetM l a b) := by
 unfold S154 haveMetM
 rw [S131_ok hl hN]
 by_cases h : findT l a ≥ 0
 ·obtain ⟨h1, h2⟩ := findT_in h
  have hx : l.getD (findT l a).toNat zQIIIIILIE ∈ l := by rw [getD_nat _ _ h2]; exact List.getElem_mem h2
  obtain ⟨m1, m2⟩ := hm _ hx
  rw [decide_eq_true h, cond_true, h1, cond_true, S118_ok m1 m2]
  rfl
 ·rw [decide_eq_false h]; rfl
theorem I108_ok {N : Nat} {l : List Team} {a b : Int} {kf : Bool → Option Ret} (hl : l.length ≤ maxLen) (hm : ∀ x ∈ l, x.met.length ≤ maxLen ∧ x.met.length < N) (hN : l.length < N) : I108 N l a b kf = kf (haveMetM l a b) := by
 unfold I108 haveMetM
 rw [I76_ok hl hN]
 by_cases h : findT l a ≥ 0
 ·obtain ⟨h1, h2⟩ := findT_in h
  have hx : l.getD (findT l a).toNat zQIIIIILIE ∈ l := by rw [getD_nat _ _ h2]; exact List.getElem_mem h2
  obtain ⟨m1, m2⟩ := hm _ hx
  rw [decide_eq_true h, cond_true, h1, cond_true, S81_ok m1 m2]
  rfl
 ·rw [decide_eq_false h]; rfl
theorem S133_ok {N : Nat} {l : List Team} {a b : Int} {kf : Bool → Option Ret} (hl : l.length ≤ maxLen) (hm : ∀ x ∈ l, x.met.length ≤ maxLen ∧ x.met.length < N) (hN : l.length < N) : S133 N l a b kf = kf (mayMeetM l a b) := by
 unfold S133 mayMeetM
 rw [S131_ok hl hN, S131_ok hl hN, S111_ok hl hm hN]
 cases areTeamsM l
 ·rfl
 by_cases ha : findT l a ≥ 0
 rotate_left
 ·rw [decide_eq_false ha]; rfl
 by_cases hb : findT l b ≥ 0
 rotate_left
 ·rw [decide_eq_true ha, decide_eq_false hb]; rfl
 rw [decide_eq_true ha, decide_eq_true hb, (findT_in ha).1, (findT_in hb).1, S154_ok hl hm hN]
 simp only [cond_true, Bool.true_and]
 cases findT l a != findT l b
 ·rfl
 unfold clubT
 cases (l.getD (findT l a).toNat zQIIIIILIE).2.1 != (l.getD (findT l b).toNat zQIIIIILIE).2.1 <;> rfl
theorem I78_ok {N : Nat} {l : List Team} {a b : Int} {kf : Bool → Option Ret} (hl : l.length ≤ maxLen) (hm : ∀ x ∈ l, x.met.length ≤ maxLen ∧ x.met.length < N) (hN : l.length < N) : I78 N l a b kf = kf (mayMeetM l a b) := by
 unfold I78 mayMeetM
 rw [I76_ok hl hN, I76_ok hl hN, I39_ok hl hm hN]
 cases areTeamsM l
 ·rfl
 by_cases ha : findT l a ≥ 0
 rotate_left
 ·rw [decide_eq_false ha]; rfl
 by_cases hb : findT l b ≥ 0
 rotate_left
 ·rw [decide_eq_true ha, decide_eq_false hb]; rfl
 rw [decide_eq_true ha, decide_eq_true hb, (findT_in ha).1, (findT_in hb).1, I108_ok hl hm hN]
 simp only [cond_true, Bool.true_and]
 cases findT l a != findT l b
 ·rfl
 unfold clubT
 cases (l.getD (findT l a).toNat zQIIIIILIE).2.1 != (l.getD (findT l b).toNat zQIIIIILIE).2.1 <;> rfl
def okFor (t : List Team) (j : Judge) (id : Int) : Bool := decide (findT t id ≥ 0) && ((clubT t id != j.2.1) && !hasM j.2.2 id)
def mayJudgeM (t : List Team) (j : Judge) (p : Pair) : Bool := okFor t j p.1 && okFor t j p.2
theorem S136_ok {N : Nat} {t : List Team} {j : Judge} {p : Pair} {kf : Bool → Option Ret} (hl : t.length ≤ maxLen) (hN : t.length < N) (h1 : j.2.2.length ≤ maxLen) (h2 : j.2.2.length < N) : S136 N t j p kf = kf (mayJudgeM t j p) := by
 unfold S136 mayJudgeM okFor
 rw [S131_ok hl hN, S131_ok hl hN]
 by_cases ha : findT t p.1 ≥ 0
 rotate_left
 ·rw [decide_eq_false ha]; rfl
 by_cases hb : findT t p.2 ≥ 0
 rotate_left
 ·rw [decide_eq_true ha, decide_eq_false hb]; simp
 rw [decide_eq_true ha, decide_eq_true hb, (findT_in ha).1, (findT_in hb).1, S118_ok h1 h2]
 simp only [S118_ok h1 h2, cond_true, Bool.true_and]
 unfold clubT
 cases (t.getD (findT t p.1).toNat zQIIIIILIE).2.1 != j.2.1
 ·rfl
 cases (t.getD (findT t p.2).toNat zQIIIIILIE).2.1 != j.2.1
 ·simp
 cases hasM j.2.2 p.1 <;> simp
theorem I69_ok {N : Nat} {t : List Team} {j : Judge} {p : Pair} {kf : Bool → Option Ret} (hl : t.length ≤ maxLen) (hN : t.length < N) (h1 : j.2.2.length ≤ maxLen) (h2 : j.2.2.length < N) (h3 : 2 < N) : I69 N t j p kf = kf (mayJudgeM t j p) := by
 have key : ∀ (id : Int) (next : Option Ret), (I76 N t id (fun (r22_7 : Int) =>
     bif (decide (r22_7 < (0 : Int))) then
      kf false
     else
      bif (inB r22_7 (List.length t)) then
       bif ((List.getD t (Int.toNat r22_7) zQIIIIILIE).2.1 == j.2.1) then
        kf false
       else
        S81 N j.2.2 id (fun (r39_8 : Bool) =>
         bif r39_8 then
          kf false
         else
          next)
      else none)) = bif okFor t j id then next else kf false := fun id next => by
  rw [I76_ok hl hN]
  unfold okFor
  by_cases ha : findT t id ≥ 0
  rotate_left
  ·rw [decide_eq_false ha, decide_eq_true (by omega)]; rfl
  rw [decide_eq_true ha, decide_eq_false (by omega), (findT_in ha).1, S81_ok h1 h2]
  simp only [cond_true, cond_false, Bool.true_and]
  unfold clubT
  cases hc : (t.getD (findT t id).toNat zQIIIIILIE).2.1 == j.2.1
  ·simp only [bne, hc, Bool.not_false, Bool.true_and, cond_false]
   cases hasM j.2.2 id <;> rfl
  ·simp only [bne, hc, Bool.not_true, Bool.false_and, cond_false, cond_true]
 unfold I69
 rw [I69_l2_r (by rw [maxLen_eq]; simp) (by simpa using h3)]
 simp only [goL, key]
 unfold mayJudgeM
 cases okFor t j p.1
 ·rfl
 ·simp
  cases okFor t j p.2 <;> rfl
end Go.Pv.R
namespace Go.Pv.R
set_option linter.unusedVariables false
set_option linter.unusedSimpArgs false
theorem S84_ok {N : Nat} {l : List Team} {kf : Int → Option Ret} (hl : l.length ≤ maxLen) (hm : ∀ x ∈ l, x.met.length ≤ maxLen ∧ x.met.length < N) (hN : l.length < N) : S84 N l kf = kf (bif areTeamsM l then foldI (fun _ (x : Team) s => IntKind.wrap .i64 (s + x.2.2.1)) l 0 0 else 0) := by
 unfold S84
 rw [S84_l3_r hl hN]
 simp only [S111_ok hl hm hN]
 cases areTeamsM l with
 | false => cases l <;> rfl
 | true =>
  simp only [cond_true]
  rw [goL1_f (fun _ (x : Team) s => IntKind.wrap .i64 (s + x.2.2.1)) (fun i x s next h e => rfl)]
theorem I36_ok {N : Nat} {l : List Team} {kf : Int → Option Ret} (hl : l.length ≤ maxLen) (hm : ∀ x ∈ l, x.met.length ≤ maxLen ∧ x.met.length < N) (hN : l.length < N) : I36 N l kf = kf (bif areTeamsM l then foldI (fun _ (x : Team) s => IntKind.wrap .i64 (s + x.2.2.1)) l 0 0 else 0) := by
 unfold I36
 rw [I39_ok hl hm hN]
 cases areTeamsM l with
 | false => rfl
 | true =>
  simp only [cond_true, Bool.not_true, cond_false]
  rw [I36_l5_r hl hN, goL1_f (fun _ (x : Team) s => IntKind.wrap .i64 (s + x.2.2.1)) (fun i x s next h e => rfl)]
def totalWinsM (l : List Team) : Int := bif areTeamsM l then foldI (fun _ (x : Team) s => IntKind.wrap .i64 (s + x.2.2.1)) l 0 0 else 0
abbrev Ballot := QIIIE
def isBallotM (b : Ballot) : Bool := inR b.1 1 99 && (inR b.2.1 0 100 && (inR b.2.2 0 100 && (b.2.1 != b.2.2)))
theorem S163_ok {N : Nat} {b : Ballot} {kf : Bool → Option Ret} : S163 N b kf = kf (isBallotM b) := by
 unfold S163 isBallotM
 simp only [S72_ok]
 cases inR b.1 1 99 <;> simp
 cases inR b.2.1 0 100 <;> simp
 cases inR b.2.2 0 100 <;> simp
theorem I44_ok {N : Nat} {b : Ballot} {kf : Bool → Option Ret} : I44 N b kf = kf (isBallotM b) := by
 unfold I44 isBallotM
 simp only [I45_ok]
 cases inR b.1 1 99 <;> simp
 cases inR b.2.1 0 100 <;> simp
 cases inR b.2.2 0 100 <;> simp
def idsOf (r : List Pair) : List Int := r.flatMap fun p => [p.1, p.2]
def teamIds (l : List Team) : List Int := l.map fun x => x.1
def isRoundM (l : List Team) (r : List Pair) : Bool := r.all (fun p => mayMeetM l p.1 p.2) && l.all (fun x => decide ((idsOf r).count x.1 = 1))
theorem idsOf_len (r : List Pair) : (idsOf r).length = 2 * r.length := by
 induction r with
 | nil => rfl
 | cons p r ih => simp only [idsOf, List.flatMap_cons, List.length_append, List.length_cons, List.length_nil] at *; omega
theorem mayMeet_ids {l : List Team} {a b : Int} (h : mayMeetM l a b = true) : areTeamsM l = true ∧ a ∈ teamIds l ∧ b ∈ teamIds l ∧ a ≠ b := by
 unfold mayMeetM at h
 simp only [Bool.and_eq_true, decide_eq_true_eq] at h
 obtain ⟨h0, ha, hb, hne, _⟩ := h
 have mem : ∀ id : Int, findT l id ≥ 0 → id ∈ teamIds l := fun id hid => by
  obtain ⟨k, hk, _, h1, _⟩ := findM_pos (p := fun x : Team => x.1 == id) (l := l) (by unfold findT at hid; omega)
  exact List.mem_map.2 ⟨l[k], List.getElem_mem hk, by simpa using h1⟩
 refine ⟨h0, mem a ha, mem b hb, fun e => ?_⟩
 subst e
 simp at hne
theorem teams_nodup {l : List Team} (h : areTeamsM l = true) : (teamIds l).Nodup := by
 unfold areTeamsM at h
 simp only [Bool.and_eq_true] at h
 have hm := teams_mono h.2.1
 have key : ∀ (n : Nat) (r : List Team), l.drop n = r → (r.map fun x : Team => x.1).Nodup := by
  intro n r
  induction r generalizing n with
  | nil => intro _; exact List.nodup_nil
  | cons x r ih =>
   intro hd
   have hlt : n < l.length := by have := congrArg List.length hd; simp at this; omega
   rw [List.drop_eq_getElem_cons hlt] at hd
   injection hd with h1 h2
   rw [List.map_cons, List.nodup_cons]
   refine ⟨fun hx => ?_, ih (n + 1) h2⟩
   obtain ⟨y, hy, e⟩ := List.mem_map.1 hx
   rw [← h2] at hy
   obtain ⟨j, hj, rfl⟩ := List.mem_iff_getElem.1 hy
   rw [List.getElem_drop] at e
   have hj' : n + 1 + j < l.length := by simp at hj; omega
   have := hm n (n + 1 + j) hj' (by omega)
   rw [getD_nat _ _ hlt, h1] at this
   omega
 exact key 0 l rfl
theorem I42_ok {N : Nat} {l : List Team} {r : List Pair} {kf : Bool → Option Ret} (hl : l.length ≤ maxLen) (hm : ∀ x ∈ l, x.met.length ≤ maxLen ∧ x.met.length < N) (hN : l.length < N) (hr : r.length ≤ 1048576) (hrN : 2 * r.length < N) : I42 N l r kf = kf (isRoundM l r) := by
 have hML := maxLen_eq
 unfold I42
 rw [I42_l3_r (by omega) (by omega)]
 have key : ∀ (q : List Pair) (i : Nat) (s : List Int) (kend : List Int → Option Ret), r.drop i = q → s.length = 2 * i → goL1 (fun (i : Nat) (x : QIIE) (x5_2 : List Int) (next : List Int → Option Ret) =>
    I78 N l x.1 x.2 (fun (r22_7 : Bool) =>
     bif (!r22_7) then
      kf false
     else
      bif (decide ((List.length x5_2 + List.length [x.1, x.2]) * 1 ≤ 4398046511104)) then
       next (x5_2 ++ [x.1, x.2])
      else none)) kend q i s = bif q.all (fun p => mayMeetM l p.1 p.2) then kend (s ++ idsOf q) else kf false := by
  intro q
  induction q with
  | nil => intro i s kend _ _; simp [goL1, idsOf]
  | cons p q ih =>
   intro i s kend hd hs
   have hlt : i < r.length := by have := congrArg List.length hd; simp at this; omega
   rw [List.drop_eq_getElem_cons hlt] at hd
   injection hd with h1 h2
   simp only [goL1]
   rw [I78_ok hl hm hN]
   cases hmm : mayMeetM l p.1 p.2 with
   | false => simp [hmm]
   | true =>
    have hok : decide ((List.length s + List.length [p.1, p.2]) * 1 ≤ 4398046511104) = true := decide_eq_true (by simp; omega)
    simp only [Bool.not_true, cond_false]
    rw [hok, cond_true, ih (i + 1) _ kend h2 (by simp; omega)]
    simp [hmm, idsOf]
 refine Eq.trans (key r 0 [] _ rfl (by simp)) ?_
 unfold isRoundM
 cases hall : r.all (fun p => mayMeetM l p.1 p.2) with
 | false => rfl
 | true =>
  have hlen : (idsOf r).length ≤ maxLen ∧ (idsOf r).length < N := by rw [idsOf_len]; omega
  rw [cond_true, List.nil_append, I42_l10_r hl hN, goL_all (l := l) (p := fun _ x => decide ((idsOf r).count x.1 = 1)) (kf := kf false) (fun i x next h e => ?_) l 0 rfl, allI_all (p := fun x : Team => decide ((idsOf r).count x.1 = 1))]
  ·simp only [Bool.true_and]
   cases l.all fun x => decide ((idsOf r).count x.1 = 1) <;> rfl
  ·rw [I67_ok hlen.1 hlen.2, countM_eq hlen.1]
   by_cases h1 : (idsOf r).count x.1 = 1
   ·simp [h1]
   ·have : (((idsOf r).count x.1 : Int) != 1) = true := by rw [bne_iff_ne]; omega
    rw [this, decide_eq_false h1]
    rfl
theorem rounds_alike {l : List Team} {r : List Pair} : (r.all (fun p => mayMeetM l p.1 p.2) && (decide (idsOf r).Nodup && (areTeamsM l && decide ((idsOf r).length = l.length)))) = isRoundM l r := by
 unfold isRoundM
 cases hall : r.all (fun p => mayMeetM l p.1 p.2) with
 | false => rfl
 | true =>
  rw [Bool.true_and, Bool.true_and]
  rw [List.all_eq_true] at hall
  have hsub : ∀ x ∈ idsOf r, x ∈ teamIds l := fun x hx => by
   obtain ⟨p, hp, hx⟩ := List.mem_flatMap.1 hx
   obtain ⟨_, h1, h2, _⟩ := mayMeet_ids (hall p hp)
   simp at hx
   rcases hx with rfl | rfl
   ·exact h1
   ·exact h2
  cases ht : areTeamsM l with
  | true =>
   have := once_iff (teams_nodup ht) hsub
   apply Bool.eq_iff_iff.2
   rw [List.all_eq_true, Bool.true_and, Bool.and_eq_true, decide_eq_true_eq, decide_eq_true_eq]
   rw [show (teamIds l).length = l.length by simp [teamIds]] at this
   rw [← this]
   constructor
   ·intro h x hx; exact decide_eq_true (h x.1 (List.mem_map.2 ⟨x, hx, rfl⟩))
   ·intro h x hx
    obtain ⟨y, hy, rfl⟩ := List.mem_map.1 hx
    simpa using h y hy
  | false =>
   -- then there are no pairs, and there are teams
   cases r with
   | cons p r => have := (mayMeet_ids (hall p (by simp))).1; rw [ht] at this; cases this
   | nil =>
    cases l with
    | nil => simp [areTeamsM, allI] at ht
    | cons x l => simp [idsOf]
theorem S184_ok {N : Nat} {l : List Team} {r : List Pair} {kf : Bool → Option Ret} (hl : l.length ≤ maxLen) (hm : ∀ x ∈ l, x.met.length ≤ maxLen ∧ x.met.length < N) (hN : l.length < N) (hr : r.length ≤ 1048576) (hrN : 2 * r.length < N) : S184 N l r kf = kf (isRoundM l r) := by
 have hML := maxLen_eq
 unfold S184
 rw [S184_l3_r (by omega) (by omega)]
 have key : ∀ (q : List Pair) (i : Nat) (s : List Int) (kend : List Int → Option Ret), r.drop i = q → s.length = 2 * i → s.Nodup → goL1 (fun (i : Nat) (x : QIIE) (x5_3 : List Int) (next : List Int → Option Ret) =>
    S133 N l x.1 x.2 (fun (r25_6 : Bool) =>
     bif (!r25_6) then
      kf false
     else
      S118 N x5_3 x.1 (fun (r34_7 : Bool) =>
       bif r34_7 then
        kf false
       else
        S118 N x5_3 x.2 (fun (r43_8 : Bool) =>
         bif r43_8 then
          kf false
         else
          bif (decide ((List.length x5_3 + List.length [x.1, x.2]) * 1 ≤ 4398046511104)) then
           next (x5_3 ++ [x.1, x.2])
          else none)))) kend q i s = bif q.all (fun p => mayMeetM l p.1 p.2) && decide (s ++ idsOf q).Nodup then kend (s ++ idsOf q) else kf false := by
  intro q
  induction q with
  | nil => intro i s kend _ _ hnd; simp [goL1, idsOf, hnd]
  | cons p q ih =>
   intro i s kend hd hs hnd
   have hlt : i < r.length := by have := congrArg List.length hd; simp at this; omega
   rw [List.drop_eq_getElem_cons hlt] at hd
   injection hd with h1 h2
   simp only [goL1]
   rw [S133_ok hl hm hN]
   cases hmm : mayMeetM l p.1 p.2 with
   | false => simp [hmm]
   | true =>
    have hne := (mayMeet_ids hmm).2.2.2
    have hsl : s.length ≤ maxLen ∧ s.length < N := by omega
    have happ : s ++ idsOf (p :: q) = (s ++ [p.1, p.2]) ++ idsOf q := by simp [idsOf]
    simp only [Bool.not_true, cond_false]
    rw [S118_ok hsl.1 hsl.2]
    cases h1' : hasM s p.1 with
    | true =>
     have hmem := hasM_iff.1 h1'
     have : ¬ (s ++ idsOf (p :: q)).Nodup := fun h => by
      rw [List.nodup_append] at h
      exact h.2.2 p.1 hmem p.1 (by simp [idsOf]) rfl
     rw [decide_eq_false this]
     simp
    | false =>
     rw [cond_false, S118_ok hsl.1 hsl.2]
     cases h2' : hasM s p.2 with
     | true =>
      have hmem := hasM_iff.1 h2'
      have : ¬ (s ++ idsOf (p :: q)).Nodup := fun h => by
       rw [List.nodup_append] at h
       exact h.2.2 p.2 hmem p.2 (by simp [idsOf]) rfl
      rw [decide_eq_false this]
      simp
     | false =>
      have hok : decide ((List.length s + List.length [p.1, p.2]) * 1 ≤ 4398046511104) = true := decide_eq_true (by simp; omega)
      have n1 : p.1 ∉ s := fun h => by rw [hasM_iff.2 h] at h1'; cases h1'
      have n2 : p.2 ∉ s := fun h => by rw [hasM_iff.2 h] at h2'; cases h2'
      have hnd2 : (s ++ [p.1, p.2]).Nodup := by
       rw [List.nodup_append]
       refine ⟨hnd, ?_, ?_⟩
       ·rw [List.nodup_cons]
        exact ⟨by simpa using hne, by simp⟩
       ·intro a ha b hb e
        subst e
        simp at hb
        rcases hb with rfl | rfl
        ·exact n1 ha
        ·exact n2 ha
      rw [cond_false, hok, cond_true, ih (i + 1) _ kend h2 (by simp; omega) hnd2, happ]
      simp [hmm]
 refine Eq.trans (key r 0 [] _ rfl (by simp) List.nodup_nil) ?_
 rw [← rounds_alike]
 rw [List.nil_append]
 cases r.all (fun p => mayMeetM l p.1 p.2)
 ·rfl
 cases decide (idsOf r).Nodup
 ·rfl
 simp only [Bool.true_and, cond_true]
 rw [S111_ok hl hm hN]
 cases areTeamsM l
 ·rfl
 simp only [cond_true, Bool.true_and]
 congr 1
 apply Bool.eq_iff_iff.2
 rw [beq_iff_eq, decide_eq_true_eq]
 omega
theorem findJ_in {l : List Judge} {id : Int} (h : findJ l id ≥ 0) : inB (findJ l id) l.length = true ∧ (findJ l id).toNat < l.length := by
 obtain ⟨k, hk, e, _⟩ := findM_pos (p := fun x : Judge => x.1 == id) (l := l) (by unfold findJ at h; omega)
 have e : findJ l id = (k : Int) := e
 rw [e]
 exact ⟨inB_nat hk, by simpa using hk⟩
def seatP (t : List Team) (l : List Judge) (r : List Pair) (ids : List Int) (i : Nat) : Bool := decide (findJ l (ids.getD i 0) ≥ 0) && (!hasM (ids.take i) (ids.getD i 0) && mayJudgeM t (l.getD (findJ l (ids.getD i 0)).toNat zQIILIE) (r.getD i zQIIE))
def areSeatedM (t : List Team) (l : List Judge) (r : List Pair) (ids : List Int) : Bool := decide (ids.length = r.length) && (areJudgesM l && allI (fun i _ => seatP t l r ids i) r 0)
theorem S185_ok {N : Nat} {t : List Team} {l : List Judge} {r : List Pair} {ids : List Int} {kf : Bool → Option Ret} (ht : t.length ≤ maxLen) (htN : t.length < N) (hl : l.length ≤ maxLen) (hm : ∀ x ∈ l, x.2.2.length ≤ maxLen ∧ x.2.2.length < N) (hN : l.length < N)
  (hr : r.length ≤ maxLen) (hrN : r.length < N) : S185 N t l r ids kf = kf (areSeatedM t l r ids) := by
 unfold S185 areSeatedM
 by_cases hlen : ids.length = r.length
 rotate_left
 ·have : ((ids.length : Int) != (r.length : Int)) = true := by rw [bne_iff_ne]; omega
  rw [this, decide_eq_false hlen]; rfl
 have : ((ids.length : Int) != (r.length : Int)) = false := by rw [hlen]; exact bne_self_eq_false _
 rw [this, decide_eq_true hlen, cond_false, S114_ok hl hm hN]
 cases areJudgesM l
 ·rfl
 simp only [Bool.not_true, cond_false, Bool.true_and]
 rw [S185_l4_r hr hrN, goL_all (l := r) (p := fun i _ => seatP t l r ids i) (kf := kf false) (fun i x next h e => ?_) r 0 rfl]
 ·cases allI (fun i _ => seatP t l r ids i) r 0 <;> rfl
 ·have hi : i < ids.length := by omega
  have hdec : (decide ((0 : Int) ≤ (0 : Int)) && decide ((0 : Int) ≤ (i : Int)) && decide ((i : Int) ≤ (List.length ids : Int))) = true := by simp; omega
  rw [inB_nat hi, cond_true, hdec]
  simp only [Int.toNat_natCast, cond_true]
  rw [S166_ok hl hN]
  unfold seatP
  by_cases hf : findJ l (ids.getD i 0) ≥ 0
  rotate_left
  ·rw [decide_eq_false hf, decide_eq_true (by omega)]; rfl
  obtain ⟨f1, f2⟩ := findJ_in hf
  have hx : l.getD (findJ l (ids.getD i 0)).toNat zQIILIE ∈ l := by rw [getD_nat _ _ f2]; exact List.getElem_mem f2
  obtain ⟨m1, m2⟩ := hm _ hx
  rw [decide_eq_true hf, decide_eq_false (by omega), cond_false]
  have htk : (List.drop (Int.toNat 0) (List.take i ids)) = ids.take i := rfl
  rw [htk, S118_ok (by simp; omega) (by simp; omega), f1]
  cases hasM (ids.take i) (ids.getD i 0)
  ·rw [cond_false, cond_true, S136_ok ht htN m1 m2]
   have hrx : r.getD i zQIIE = x := by rw [getD_nat _ _ h, e]
   rw [hrx]
   cases mayJudgeM t (l.getD (findJ l (ids.getD i 0)).toNat zQIILIE) x <;> rfl
  ·rfl
theorem I43_ok {N : Nat} {t : List Team} {l : List Judge} {r : List Pair} {ids : List Int} {kf : Bool → Option Ret} (ht : t.length ≤ maxLen) (htN : t.length < N) (hl : l.length ≤ maxLen) (hm : ∀ x ∈ l, x.2.2.length ≤ maxLen ∧ x.2.2.length < N) (hN : l.length < N)
  (hr : r.length ≤ maxLen) (hrN : r.length < N) (h2N : 2 < N) : I43 N t l r ids kf = kf (areSeatedM t l r ids) := by
 unfold I43 areSeatedM
 rw [I40_ok hl hm hN]
 cases areJudgesM l
 ·simp
 simp only [Bool.not_true, cond_false, Bool.true_and]
 by_cases hlen : ids.length = r.length
 rotate_left
 ·have : ((ids.length : Int) != (r.length : Int)) = true := by rw [bne_iff_ne]; omega
  rw [this, decide_eq_false hlen]; rfl
 have : ((ids.length : Int) != (r.length : Int)) = false := by rw [hlen]; exact bne_self_eq_false _
 rw [this, decide_eq_true hlen, cond_false, Bool.true_and]
 have hall : allI (fun i _ => seatP t l r ids i) r 0 = allI (fun i _ => seatP t l r ids i) ids 0 := by
  apply Bool.eq_iff_iff.2
  rw [allI_iff, allI_iff]
  exact ⟨fun h j hj => h j (by omega), fun h j hj => h j (by omega)⟩
 rw [hall, I43_l4_r (by omega) (by omega), goL_all (l := ids) (p := fun i _ => seatP t l r ids i) (kf := kf false) (fun i x next h e => ?_) ids 0 rfl]
 ·cases allI (fun i _ => seatP t l r ids i) ids 0 <;> rfl
 ·have hi : i < r.length := by omega
  have hdec : (decide ((0 : Int) ≤ (0 : Int)) && decide ((0 : Int) ≤ (i : Int)) && decide ((i : Int) ≤ (List.length ids : Int))) = true := by simp; omega
  have hid : ids.getD i 0 = x := by rw [getD_nat _ _ h, e]
  rw [hdec]
  simp only [Int.toNat_natCast, cond_true]
  rw [S79_ok hl hN]
  unfold seatP
  rw [hid]
  by_cases hf : findJ l x ≥ 0
  rotate_left
  ·rw [decide_eq_false hf, decide_eq_true (by omega)]; rfl
  obtain ⟨f1, f2⟩ := findJ_in hf
  have hx : l.getD (findJ l x).toNat zQIILIE ∈ l := by rw [getD_nat _ _ f2]; exact List.getElem_mem f2
  obtain ⟨m1, m2⟩ := hm _ hx
  rw [decide_eq_true hf, decide_eq_false (by omega), cond_false]
  have htk : (List.drop (Int.toNat 0) (List.take i ids)) = ids.take i := rfl
  rw [htk, S81_ok (by simp; omega) (by simp; omega), f1, inB_nat hi]
  cases hasM (ids.take i) x
  ·rw [cond_false, cond_true, cond_true, I69_ok ht htN m1 m2 h2N]
   cases mayJudgeM t (l.getD (findJ l x).toNat zQIILIE) (r.getD i zQIIE) <;> rfl
  ·rfl
end Go.Pv.R
namespace Go.Pv.R
set_option linter.unusedVariables false
set_option linter.unusedSimpArgs false
abbrev Club := QLQIIIIILIELQIILIELQIIELILQIIIELQIIIIEIE
structure ClubOK (c : Club) (N : Nat) : Prop where
 tl : c.1.length ≤ maxLen
 tm : ∀ x : Team, x ∈ c.1 → x.met.length ≤ maxLen ∧ x.met.length < N
 tN : c.1.length < N
 jl : c.2.1.length ≤ maxLen
 jm : ∀ x ∈ c.2.1, x.2.2.length ≤ maxLen ∧ x.2.2.length < N
 jN : c.2.1.length < N
 rl : c.2.2.1.length ≤ 1048576
 rN : 2 * c.2.2.1.length < N
 sl : c.2.2.2.1.length ≤ 1048576
 sN : c.2.2.2.1.length < N
 bl : c.2.2.2.2.1.length ≤ 1048576
 bN : c.2.2.2.2.1.length < N
 ml : c.2.2.2.2.2.1.length ≤ 1048576
 mN : c.2.2.2.2.2.1.length < N
 n8 : 8 < N
 tb : c.1.length ≤ 1048700
 tmb : ∀ x : Team, x ∈ c.1 → x.met.length ≤ 1048700
 jb : c.2.1.length ≤ 1048700
 jmb : ∀ x : Judge, x ∈ c.2.1 → x.2.2.length ≤ 1048700
def emptyB (b : Ballot) : Bool := (decide ((b.1 : Int) = 0)) && ((decide ((b.2.1 : Int) = 0)) && (decide ((b.2.2 : Int) = 0)))
def ballotP (c : Club) (i : Nat) (b : Ballot) : Bool := emptyB b || (isBallotM b && (b.1 == c.2.2.2.1.getD i 0))
def isClubM (c : Club) : Bool := areTeamsM c.1 && (areJudgesM c.2.1 && (areMinM c.2.2.2.2.2.1 && (decide (c.2.2.2.1.length = c.2.2.1.length) && (decide (c.2.2.2.2.1.length = c.2.2.1.length) &&
 ((decide (c.2.2.1.length = 0) || (isRoundM c.1 c.2.2.1 && areSeatedM c.1 c.2.1 c.2.2.1 c.2.2.2.1)) && (allI (ballotP c) c.2.2.2.2.1 0 && (inR c.2.2.2.2.2.2 0 1000 && (totalWinsM c.1 == c.2.2.2.2.2.2))))))))
theorem len_ne {a b : Nat} : ((a : Int) != (b : Int)) = !decide (a = b) := by
 apply Bool.eq_iff_iff.2
 simp
 omega
theorem I8_j1_ok {N : Nat} {c : Club} {kf : Bool → Option Ret} (h : ClubOK c N) (hs : c.2.2.2.1.length = c.2.2.1.length) (hb : c.2.2.2.2.1.length = c.2.2.1.length) : I8_j1 N c kf = kf (allI (ballotP c) c.2.2.2.2.1 0 && (inR c.2.2.2.2.2.2 0 1000 && (totalWinsM c.1 == c.2.2.2.2.2.2))) := by
 have hm := maxLen_eq
 have := h.bl
 unfold I8_j1
 rw [I8_l6_r (by omega) h.bN, goL_all (l := c.2.2.2.2.1) (p := ballotP c) (kf := kf false) (fun i b next hi e => ?_) c.2.2.2.2.1 0 rfl]
 ·cases allI (ballotP c) c.2.2.2.2.1 0
  ·rfl
  rw [cond_true, I45_ok]
  cases inR c.2.2.2.2.2.2 0 1000
  ·rfl
  simp only [cond_true, Bool.true_and]
  rw [I36_ok h.tl h.tm h.tN]
  rfl
 ·rw [I44_ok, inB_nat (by omega), cond_true, Int.toNat_natCast]
  unfold ballotP emptyB
  cases (decide ((b.1 : Int) = 0)) && ((decide ((b.2.1 : Int) = 0)) && (decide ((b.2.2 : Int) = 0)))
  ·simp only [Bool.not_false, cond_true, Bool.false_or]
   cases isBallotM b
   ·rfl
   ·cases hc : b.1 == c.2.2.2.1.getD i 0 <;> simp only [bne, hc, Bool.not_true, Bool.not_false, cond_true, cond_false, Bool.and_true, Bool.and_false]
  ·rfl
theorem S162_j1_ok {N : Nat} {c : Club} {kf : Bool → Option Ret} (h : ClubOK c N) (hs : c.2.2.2.1.length = c.2.2.1.length) (hb : c.2.2.2.2.1.length = c.2.2.1.length) : S162_j1 N c kf = kf (allI (ballotP c) c.2.2.2.2.1 0) := by
 have hm := maxLen_eq
 have := h.bl
 unfold S162_j1
 rw [S162_l7_r (by omega) h.bN, goL_all (l := c.2.2.2.2.1) (p := ballotP c) (kf := kf false) (fun i b next hi e => ?_) c.2.2.2.2.1 0 rfl]
 ·cases allI (ballotP c) c.2.2.2.2.1 0 <;> rfl
 ·rw [S163_ok, inB_nat (by omega), cond_true, Int.toNat_natCast]
  unfold ballotP emptyB
  cases (decide ((b.1 : Int) = 0)) && ((decide ((b.2.1 : Int) = 0)) && (decide ((b.2.2 : Int) = 0)))
  ·simp only [Bool.not_false, cond_true, Bool.false_or]
   cases isBallotM b
   ·rfl
   ·cases hc : b.1 == c.2.2.2.1.getD i 0 <;> simp only [bne, hc, Bool.not_true, Bool.not_false, cond_true, cond_false, Bool.and_true, Bool.and_false]
  ·rfl
theorem I8_ok {N : Nat} {c : Club} {kf : Bool → Option Ret} (h : ClubOK c N) : I8 N c kf = kf (isClubM c) := by
 have hm := maxLen_eq
 have hml := h.ml
 have h8 := h.n8
 have hr := h.rl
 have hrN := h.rN
 unfold I8 isClubM
 rw [I39_ok h.tl h.tm h.tN]
 cases areTeamsM c.1
 ·rfl
 simp only [Bool.not_true, cond_false, Bool.true_and]
 rw [I40_ok h.jl h.jm h.jN]
 cases areJudgesM c.2.1
 ·rfl
 simp only [Bool.not_true, cond_false, Bool.true_and]
 rw [I41_ok (by omega) h.mN (by omega)]
 cases areMinM c.2.2.2.2.2.1
 ·rfl
 simp only [Bool.not_true, cond_false, Bool.true_and, len_ne]
 by_cases hs : c.2.2.2.1.length = c.2.2.1.length
 rotate_left
 ·rw [decide_eq_false hs]; rfl
 by_cases hb : c.2.2.2.2.1.length = c.2.2.1.length
 rotate_left
 ·rw [decide_eq_false hb, decide_eq_true hs]; rfl
 rw [decide_eq_true hs, decide_eq_true hb]
 simp only [Bool.not_true, cond_false, Bool.true_and]
 unfold I10
 by_cases h0 : c.2.2.1.length = 0
 ·rw [decide_eq_false (by omega)]
  simp only [cond_false]
  rw [I8_j1_ok h hs hb, decide_eq_true h0]
  rfl
 ·rw [decide_eq_true (by omega)]
  simp only [cond_true]
  rw [I42_ok h.tl h.tm h.tN h.rl h.rN, decide_eq_false h0]
  cases isRoundM c.1 c.2.2.1
  ·rfl
  simp only [Bool.not_true, cond_false, Bool.true_and, Bool.false_or]
  rw [I43_ok h.tl h.tN h.jl h.jm h.jN (by omega) (by omega) (by omega)]
  cases areSeatedM c.1 c.2.1 c.2.2.1 c.2.2.2.1
  ·rfl
  simp only [Bool.not_true, cond_false, Bool.true_and]
  exact I8_j1_ok h hs hb
theorem S162_ok {N : Nat} {c : Club} {kf : Bool → Option Ret} (h : ClubOK c N) : S162 N c kf = kf (isClubM c) := by
 have hm := maxLen_eq
 have hml := h.ml
 have h8 := h.n8
 have hr := h.rl
 have hrN := h.rN
 unfold S162 isClubM
 rw [S111_ok h.tl h.tm h.tN]
 cases areTeamsM c.1
 ·rfl
 simp only [Bool.not_true, cond_false, Bool.true_and]
 rw [S114_ok h.jl h.jm h.jN]
 cases areJudgesM c.2.1
 ·rfl
 simp only [Bool.not_true, cond_false, Bool.true_and]
 rw [S129_ok (by omega) h.mN (by omega)]
 cases areMinM c.2.2.2.2.2.1
 ·rfl
 simp only [Bool.not_true, cond_false, Bool.true_and, len_ne]
 by_cases hs : c.2.2.2.1.length = c.2.2.1.length
 rotate_left
 ·rw [decide_eq_false hs]; rfl
 by_cases hb : c.2.2.2.2.1.length = c.2.2.1.length
 rotate_left
 ·rw [decide_eq_false hb, decide_eq_true hs]; rfl
 rw [decide_eq_true hs, decide_eq_true hb]
 simp only [Bool.not_true, cond_false, Bool.true_and, S72_ok]
 cases inR c.2.2.2.2.2.2 0 1000
 ·simp
 simp only [Bool.not_true, cond_false, Bool.true_and]
 rw [S84_ok h.tl h.tm h.tN]
 show (bif totalWinsM c.1 != c.2.2.2.2.2.2 then kf false else _) = _
 cases ht : totalWinsM c.1 == c.2.2.2.2.2.2
 ·simp only [bne, ht, Bool.not_false, cond_true, Bool.and_false]
 simp only [bne, ht, Bool.not_true, cond_false, Bool.and_true]
 by_cases h0 : c.2.2.1.length = 0
 ·rw [decide_eq_false (by omega), cond_false, S162_j1_ok h hs hb, decide_eq_true h0]
  rfl
 ·rw [decide_eq_true (by omega), cond_true, S184_ok h.tl h.tm h.tN h.rl h.rN, decide_eq_false h0]
  cases isRoundM c.1 c.2.2.1
  ·rfl
  simp only [Bool.not_true, cond_false, Bool.true_and, Bool.false_or]
  rw [S185_ok h.tl h.tN h.jl h.jm h.jN (by omega) (by omega)]
  cases areSeatedM c.1 c.2.1 c.2.2.1 c.2.2.2.1
  ·rfl
  simp only [Bool.not_true, cond_false, Bool.true_and]
  exact S162_j1_ok h hs hb
theorem count_nodup (m : List Int) : (m.all fun id => decide (m.count id ≤ 1)) = decide m.Nodup := by
 apply Bool.eq_iff_iff.2
 rw [List.all_eq_true, decide_eq_true_eq, List.nodup_iff_count]
 constructor
 ·intro h x
  by_cases hx : x ∈ m
  ·simpa using h x hx
  ·rw [List.count_eq_zero_of_not_mem hx]; omega
 ·intro h x hx; simpa using h x
def noRematchM (c : Club) : Bool := c.1.all fun x : Team => decide x.met.Nodup
theorem I23_ok {N : Nat} {c : Club} {kf : Bool → Option Ret} (h : ClubOK c N) : I23 N c kf = kf (noRematchM c) := by
 unfold I23
 rw [I23_l2_r h.tl h.tN, goL_all (l := c.1) (p := fun _ (x : Team) => decide x.met.Nodup) (kf := kf false) (fun i x next hi e => ?_) c.1 0 rfl, allI_all (p := fun x : Team => decide x.met.Nodup)]
 ·unfold noRematchM
  cases c.1.all fun x : Team => decide x.met.Nodup <;> rfl
 ·obtain ⟨m1, m2⟩ := h.tm x (by rw [← e]; exact List.getElem_mem hi)
  rw [I23_l5_r m1 m2, goL_all (l := x.met) (p := fun _ id => decide (x.met.count id ≤ 1)) (kf := kf false) (fun j y next' hj ej => ?_) x.met 0 rfl, allI_all (p := fun id : Int => decide (x.met.count id ≤ 1)), count_nodup]
  rw [I67_ok m1 m2, countM_eq m1]
  by_cases hc : x.met.count y ≤ 1
  ·rw [decide_eq_false (by omega), decide_eq_true hc]; rfl
  ·rw [decide_eq_true (by omega), decide_eq_false hc]; rfl
def impP (c : Club) (i : Nat) (p : Pair) : Bool := decide (i < c.2.2.2.1.length) && (decide (findJ c.2.1 (c.2.2.2.1.getD i 0) ≥ 0) && mayJudgeM c.1 (c.2.1.getD (findJ c.2.1 (c.2.2.2.1.getD i 0)).toNat zQIILIE) p)
def impartialM (c : Club) : Bool := allI (impP c) c.2.2.1 0
theorem I24_ok {N : Nat} {c : Club} {kf : Bool → Option Ret} (h : ClubOK c N) : I24 N c kf = kf (impartialM c) := by
 have hm := maxLen_eq
 have hr := h.rl
 have hrN := h.rN
 have h8 := h.n8
 unfold I24 impartialM
 rw [I24_l2_r (by omega) (by omega), goL_all (l := c.2.2.1) (p := impP c) (kf := kf false) (fun i p next hi e => ?_) c.2.2.1 0 rfl]
 ·cases allI (impP c) c.2.2.1 0 <;> rfl
 ·unfold impP
  by_cases hs : i < c.2.2.2.1.length
  rotate_left
  ·rw [decide_eq_false hs, decide_eq_true (by omega)]; rfl
  rw [decide_eq_true hs, decide_eq_false (by omega), cond_false, inB_nat hs, cond_true, Int.toNat_natCast, I68_ok h.jl h.jN]
  by_cases hf : findJ c.2.1 (c.2.2.2.1.getD i 0) ≥ 0
  rotate_left
  ·rw [decide_eq_false hf, decide_eq_true (by omega)]; rfl
  obtain ⟨f1, f2⟩ := findJ_in hf
  obtain ⟨m1, m2⟩ := h.jm (c.2.1.getD (findJ c.2.1 (c.2.2.2.1.getD i 0)).toNat zQIILIE) (by rw [getD_nat _ _ f2]; exact List.getElem_mem f2)
  rw [decide_eq_true hf, decide_eq_false (by omega), cond_false, f1, cond_true, I69_ok h.tl h.tN m1 m2 (by omega)]
  cases mayJudgeM c.1 (c.2.1.getD (findJ c.2.1 (c.2.2.2.1.getD i 0)).toNat zQIILIE) p <;> rfl
def waitM (c : Club) : List Int := gatherI (fun _ b => emptyB b) (fun i _ => (i : Int)) c.2.2.2.2.1 0
theorem S164_ok {N : Nat} {c : Club} {kf : List Int → Option Ret} (h : ClubOK c N) : S164 N c kf = kf (waitM c) := by
 have hm := maxLen_eq
 have := h.bl
 unfold S164
 rw [S164_l4_r (by omega) h.bN, goL1_gather (l := c.2.2.2.2.1) (c := fun _ b => emptyB b) (f := fun i _ => (i : Int)) (fun i b s next hi e hs => ?_) c.2.2.2.2.1 0 [] rfl (by simp), List.nil_append]
 ·rfl
 ·have hok : decide ((List.length s + List.length [(i : Int)]) * 1 ≤ 4398046511104) = true := decide_eq_true (by simp; omega)
  rw [hok, cond_true]
  rfl
theorem I12_ok {N : Nat} {c : Club} {kf : List Int → Option Ret} (h : ClubOK c N) : I12 N c kf = kf (waitM c) := by
 have hm := maxLen_eq
 have := h.bl
 unfold I12
 rw [I12_l3_r (by omega) h.bN, goL1_gather (l := c.2.2.2.2.1) (c := fun _ b => emptyB b) (f := fun i _ => (i : Int)) (fun i b s next hi e hs => ?_) c.2.2.2.2.1 0 [] rfl (by simp), List.nil_append]
 ·rfl
 ·have hok : decide ((List.length s + List.length [(i : Int)]) * 1 ≤ 4398046511104) = true := decide_eq_true (by simp; omega)
  rw [hok, cond_true]
  rfl
def fours (l : List QIIIIE) : Nat := (l.filter fun x => x.2.1 == 4).length
theorem fours_le (l : List QIIIIE) : fours l ≤ l.length := List.length_filter_le _ _
theorem fours_down : ∀ (l : List QIIIIE) (i : Nat) (s : Int), -4000000 + l.length ≤ s → s ≤ 4000000 → foldI (fun _ (x : QIIIIE) s => bif x.2.1 == 4 then IntKind.wrap .i64 (s - 1) else s) l i s = s - fours l
 | [], _, _, _, _ => by simp [foldI, fours]
 | x :: r, i, s, h, h' => by
  simp only [List.length_cons] at h
  simp only [foldI, fours, List.filter_cons]
  cases hx : x.2.1 == 4 with
  | false => simp only [cond_false]; exact fours_down r (i + 1) s (by omega) h'
  | true =>
   simp only [cond_true, if_true, List.length_cons]
   rw [wrap64 (by omega) (by omega), fours_down r (i + 1) (s - 1) (by omega) (by omega)]
   unfold fours
   omega
def minutedM (c : Club) : Bool := areMinM c.2.2.2.2.2.1 && (inR c.2.2.2.2.2.2 0 1000 && decide ((fours c.2.2.2.2.2.1 : Int) = c.2.2.2.2.2.2 + c.2.2.2.2.1.length - (waitM c).length))
theorem inR_iff {a b c : Int} : inR a b c = true ↔ b ≤ a ∧ a ≤ c := by unfold inR; simp
theorem I25_ok {N : Nat} {c : Club} {kf : Bool → Option Ret} (h : ClubOK c N) : I25 N c kf = kf (minutedM c) := by
 have hm := maxLen_eq
 have hml := h.ml
 have hbl := h.bl
 have h8 := h.n8
 have hwl : (waitM c).length ≤ c.2.2.2.2.1.length := gatherI_len _ _
 unfold I25
 rw [I12_ok h]
 rw [I25_l3_r (by omega) h.mN, goL1_f (fun _ (x : QIIIIE) s => bif x.2.1 == 4 then IntKind.wrap .i64 (s - 1) else s) (fun i x s next hi e => by cases x.2.1 == 4 <;> rfl), I41_ok (by omega) h.mN (by omega)]
 unfold minutedM
 cases areMinM c.2.2.2.2.2.1
 ·rfl
 simp only [cond_true, Bool.true_and, I45_ok]
 cases hp : inR c.2.2.2.2.2.2 0 1000
 ·rfl
 obtain ⟨p1, p2⟩ := inR_iff.1 hp
 have hfl := fours_le c.2.2.2.2.2.1
 simp only [cond_true, Bool.true_and]
 rw [wrap64 (n := c.2.2.2.2.2.2 + _) (by omega) (by omega), wrap64 (by omega) (by omega), fours_down _ _ _ (by omega) (by omega)]
 congr 1
 apply Bool.eq_iff_iff.2
 rw [beq_iff_eq, decide_eq_true_eq]
 omega
def sumT (g : Team → Int) (l : List Team) : Int := foldI (fun _ (x : Team) s => IntKind.wrap .i64 (s + g x)) l 0 0
theorem goL3_sums {g1 g2 g3 : Team → Int} {k : Int → Int → Int → Option Ret} : ∀ (l : List Team) (i : Nat) (a b c : Int), goL3 (fun (i : Nat) (x : Team) (a b c : Int) (next : Int → Int → Int → Option Ret) => next (IntKind.wrap .i64 (a + g1 x)) (IntKind.wrap .i64 (b + g2 x)) (IntKind.wrap .i64 (c + g3 x))) k l i a b c =
  k (foldI (fun _ (x : Team) s => IntKind.wrap .i64 (s + g1 x)) l i a) (foldI (fun _ (x : Team) s => IntKind.wrap .i64 (s + g2 x)) l i b) (foldI (fun _ (x : Team) s => IntKind.wrap .i64 (s + g3 x)) l i c)
 | [], _, _, _, _ => rfl
 | x :: r, i, a, b, c => by simp only [goL3, foldI]; exact goL3_sums r (i + 1) _ _ _
def zeroSumM (c : Club) : Bool := areTeamsM c.1 && ((IntKind.wrap .i64 (2 * sumT (fun x => x.2.2.1) c.1) == sumT (fun x : Team => (x.met.length : Int)) c.1) && (IntKind.wrap .i64 (2 * sumT (fun x => x.2.2.2.2.1) c.1) == sumT (fun x : Team => (x.met.length : Int)) c.1))
theorem I26_ok {N : Nat} {c : Club} {kf : Bool → Option Ret} (h : ClubOK c N) : I26 N c kf = kf (zeroSumM c) := by
 unfold I26
 rw [I26_l3_r h.tl h.tN]
 simp only [I39_ok h.tl h.tm h.tN]
 refine Eq.trans (goL3_sums (g1 := fun x => x.2.2.1) (g2 := fun x => x.2.2.2.2.1) (g3 := fun x : Team => (x.met.length : Int)) c.1 0 0 0 0) ?_
 unfold zeroSumM
 cases areTeamsM c.1 with
 | false => rfl
 | true =>
  simp only [cond_true, Bool.true_and]
  show (bif IntKind.wrap .i64 (2 * sumT (fun x => x.2.2.1) c.1) == sumT (fun x : Team => (x.met.length : Int)) c.1 then _ else _) = _
  cases IntKind.wrap .i64 (2 * sumT (fun x => x.2.2.1) c.1) == sumT (fun x : Team => (x.met.length : Int)) c.1 <;> rfl
end Go.Pv.R
namespace Go.Pv
set_option linter.unusedVariables false
set_option linter.unusedSimpArgs false
end Go.Pv
namespace Go.Pv.R
set_option linter.unusedVariables false
set_option linter.unusedSimpArgs false
end Go.Pv.R
namespace Go.Pv.R
set_option linter.unusedVariables false
set_option linter.unusedSimpArgs false
theorem waitM_len (c : Club) : (waitM c).length ≤ c.2.2.2.2.1.length := gatherI_len _ _
end Go.Pv.R
namespace Go.Pv.R
set_option linter.unusedVariables false
set_option linter.unusedSimpArgs false
theorem gatherI_all {α : Type} : ∀ (l : List α) (i : Nat), gatherI (fun _ _ => true) (fun _ x => x) l i = l
 | [], _ => rfl
 | x :: r, i => by simp only [gatherI, cond_true]; rw [gatherI_all r (i + 1)]
theorem goL1_copy {α : Type} {body : Nat → α → List α → (List α → Option Ret) → Option Ret} {kend : List α → Option Ret} {l : List α}
  (hb : ∀ (i : Nat) (x : α) (s : List α) (next : List α → Option Ret) (h : i < l.length), l[i] = x → s.length ≤ i → body i x s next = next (s ++ [x])) : goL1 body kend l 0 [] = kend l := by
 rw [goL1_gather (l := l) (c := fun _ _ => true) (f := fun _ x => x) (fun i x s next h e hs => by rw [hb i x s next h e hs]; rfl) l 0 [] rfl (by simp), gatherI_all, List.nil_append]
theorem S89_ok {N : Nat} {l : List Team} {kf : List Team → Option Ret} (hl : l.length ≤ 1048700) (hm : ∀ x : Team, x ∈ l → x.met.length ≤ 1048700) (hN : l.length < N) : S89 N l kf = kf l := by
 have h0 := maxLen_eq
 unfold S89
 rw [S89_l3_r (by omega) hN]
 refine goL1_copy (l := l) fun i x s next h e hs => ?_
 have hx : x ∈ l := by rw [← e]; exact List.getElem_mem h
 have hxm : x.2.2.2.2.2.length ≤ 1048700 := hm x hx
 rw [decide_eq_true (by simp only [List.length_nil]; omega), decide_eq_true (by simp only [List.length_cons, List.length_nil]; omega)]
 rfl
theorem S90_ok {N : Nat} {l : List Judge} {kf : List Judge → Option Ret} (hl : l.length ≤ 1048700) (hm : ∀ x : Judge, x ∈ l → x.2.2.length ≤ 1048700) (hN : l.length < N) : S90 N l kf = kf l := by
 have h0 := maxLen_eq
 unfold S90
 rw [S90_l3_r (by omega) hN]
 refine goL1_copy (l := l) fun i x s next h e hs => ?_
 have hx : x ∈ l := by rw [← e]; exact List.getElem_mem h
 have hxm : x.2.2.length ≤ 1048700 := hm x hx
 rw [decide_eq_true (by simp only [List.length_nil]; omega), decide_eq_true (by simp only [List.length_cons, List.length_nil]; omega)]
 rfl
theorem S49_ok {N : Nat} {c : Club} {kf : Club → Option Ret} (h : ClubOK c N) : S49 N c kf = kf c := by
 have h0 := maxLen_eq
 have h1 := h.rl
 have h2 := h.sl
 have h3 := h.bl
 have h4 := h.ml
 unfold S49
 rw [S89_ok h.tb h.tmb h.tN, S90_ok h.jb h.jmb h.jN, decide_eq_true (by simp only [List.length_nil]; omega), decide_eq_true (by simp only [List.length_nil]; omega), decide_eq_true (by simp only [List.length_nil]; omega), decide_eq_true (by simp only [List.length_nil]; omega)]
 rfl
abbrev Line := QIIIIE
def lastM (l : List Line) : Int := (l.getLast?.map fun x => x.2.2.2).getD 0
theorem lastM_eq {l : List Line} (h0 : l ≠ []) : lastM l = (List.getD l (l.length - 1) zQIIIIE).2.2.2 := by
 unfold lastM
 rw [List.getLast?_eq_getElem?]
 have h1 : l.length - 1 < l.length := by
  cases l with
  | nil => exact absurd rfl h0
  | cons x r => simp
 rw [List.getD_eq_getElem?_getD, List.getElem?_eq_getElem h1]
 rfl
theorem last_any {l : List Line} {kf : Int → Option Ret} (hl : l.length ≤ maxLen) : (bif ((List.length l : Int) == (0 : Int)) then kf (0 : Int) else
  bif (inB (IntKind.wrap .i64 ((List.length l : Int) - (1 : Int))) (List.length l)) then kf (List.getD l (Int.toNat (IntKind.wrap .i64 ((List.length l : Int) - (1 : Int)))) zQIIIIE).2.2.2 else none) = kf (lastM l) := by
 have hm := maxLen_eq
 cases l with
 | nil => rfl
 | cons x r =>
  have e1 : ((List.length (x :: r) : Int) == (0 : Int)) = false := by simp only [List.length_cons]; exact beq_eq_false_iff_ne.2 (by omega)
  rw [wrap64 (n := (List.length (x :: r) : Int) - 1) (by omega) (by omega)]
  have e2 : (List.length (x :: r) : Int) - 1 = ((List.length (x :: r) - 1 : Nat) : Int) := by simp only [List.length_cons]; omega
  rw [e1, e2, inB_nat (by simp), lastM_eq (by simp)]
  simp only [cond_true, cond_false, Int.toNat_natCast]
theorem S128_ok {N : Nat} {l : List Line} {kf : Int → Option Ret} (hl : l.length ≤ maxLen) : S128 N l kf = kf (lastM l) := last_any hl
def lineM (l : List Line) (what who : Int) : Line := ((l.length : Int) + 1, (what, (who, sealM (lastM l) ((l.length : Int) + 1, (what, (who, 0))))))
def wroteM (l : List Line) (what who : Int) : Bool := areMinM (l ++ [lineM l what who])
def writeM (l : List Line) (what who : Int) : List Line := bif wroteM l what who then l ++ [lineM l what who] else l
theorem writeM_len (l : List Line) (what who : Int) : (writeM l what who).length ≤ l.length + 1 := by
 unfold writeM
 cases wroteM l what who <;> simp
theorem wrote_len {l : List Line} {what who : Int} (h : wroteM l what who = true) : (writeM l what who).length ≤ 200 := by
 unfold writeM
 rw [h]
 unfold wroteM areMinM at h
 simp only [Bool.and_eq_true, decide_eq_true_eq] at h
 exact h.1
theorem S104_ok {N : Nat} {l : List Line} {what who : Int} {kf : List Line → Bool → Option Ret} (hl : l.length ≤ 1048576) (hN : l.length + 1 < N) (h4 : 4 < N) : S104 N l what who kf = kf (writeM l what who) (wroteM l what who) := by
 have hm := maxLen_eq
 unfold S104
 rw [S128_ok (by omega), S127_ok h4, wrap64 (n := (List.length l : Int) + 1) (by omega) (by omega), decide_eq_true (by simp only [List.length_nil]; omega)]
 simp only [List.nil_append, cond_true]
 rw [decide_eq_true (by simp only [List.length_cons, List.length_nil]; omega), cond_true, S129_ok (by simp only [List.length_append, List.length_cons, List.length_nil]; omega) (by simp only [List.length_append, List.length_cons, List.length_nil]; omega) h4]
 show (bif (!wroteM l what who) then kf l false else kf (l ++ [lineM l what who]) true) = _
 unfold writeM
 cases wroteM l what who <;> rfl
def withMin (c : Club) (l : List Line) : Club := (c.1, (c.2.1, (c.2.2.1, (c.2.2.2.1, (c.2.2.2.2.1, (l, c.2.2.2.2.2.2))))))
def doneB (c out : Club) (what who : Int) : Bool := wroteM c.2.2.2.2.2.1 what who && (isClubM c && isClubM (withMin out (writeM c.2.2.2.2.2.1 what who)))
def doneC (c out : Club) (what who : Int) : Club := bif doneB c out what who then withMin out (writeM c.2.2.2.2.2.1 what who) else c
theorem withMin_ok {c : Club} {N : Nat} {l : List Line} (h : ClubOK c N) (hl : l.length ≤ 200) (hN : 200 < N) : ClubOK (withMin c l) N :=
 ⟨h.tl, h.tm, h.tN, h.jl, h.jm, h.jN, h.rl, h.rN, h.sl, h.sN, h.bl, h.bN, by show l.length ≤ _; omega, by show l.length < _; omega, h.n8, h.tb, h.tmb, h.jb, h.jmb⟩
theorem S160_ok {N : Nat} {c out : Club} {ok : Bool} {what who : Int} {kf : Club → Bool → Option Ret} (h : ClubOK c N) (ho : ok = true → ClubOK out N) (hN : 200 < N) (hl : c.2.2.2.2.2.1.length + 1 < N) :
  S160 N c out ok what who kf = bif ok then kf (doneC c out what who) (doneB c out what who) else kf c false := by
 have h8 := h.n8
 unfold S160
 rw [S104_ok h.ml hl (by omega)]
 simp only [S49_ok h, S162_ok h]
 cases ok with
 | false => rfl
 | true =>
  unfold doneC doneB
  cases hw : wroteM c.2.2.2.2.2.1 what who with
  | false => rfl
  | true =>
   cases hc : isClubM c with
   | false => rfl
   | true =>
    have := S162_ok (N := N) (kf := fun r => bif !r then kf c false else kf (withMin out (writeM c.2.2.2.2.2.1 what who)) true) (withMin_ok (ho rfl) (wrote_len hw) hN)
    refine this.trans ?_
    simp only [Bool.true_and]
    cases isClubM (withMin out (writeM c.2.2.2.2.2.1 what who)) <;> rfl
theorem isClub_lens {c : Club} (h : isClubM c = true) : c.2.2.2.1.length = c.2.2.1.length ∧ c.2.2.2.2.1.length = c.2.2.1.length := by
 unfold isClubM at h
 simp only [Bool.and_eq_true, decide_eq_true_eq] at h
 exact ⟨h.2.2.2.1, h.2.2.2.2.1⟩
def castM (c : Club) (p f s : Int) : Ballot := (c.2.2.2.1.getD p.toNat 0, (f, s))
def withBal (c : Club) (l : List Ballot) : Club := (c.1, (c.2.1, (c.2.2.1, (c.2.2.2.1, (l, c.2.2.2.2.2)))))
def mayCast (c : Club) (p f s : Int) : Bool := isClubM c && ((decide (0 ≤ p) && decide (p < c.2.2.1.length)) && (emptyB (c.2.2.2.2.1.getD p.toNat zQIIIE) && isBallotM (castM c p f s)))
def castC (c : Club) (p f s : Int) : Club := withBal c (c.2.2.2.2.1.set p.toNat (castM c p f s))
theorem castC_ok {c : Club} {N : Nat} (h : ClubOK c N) (p f s : Int) : ClubOK (castC c p f s) N :=
 ⟨h.tl, h.tm, h.tN, h.jl, h.jm, h.jN, h.rl, h.rN, h.sl, h.sN, by show (List.set _ _ _).length ≤ _; rw [List.length_set]; exact h.bl, by show (List.set _ _ _).length < _; rw [List.length_set]; exact h.bN, h.ml, h.mN, h.n8, h.tb, h.tmb, h.jb, h.jmb⟩
theorem S148_ok {N : Nat} {c : Club} {p f s : Int} {kf : Club → Bool → Option Ret} (h : ClubOK c N) (hN : 200 < N) (hl : c.2.2.2.2.2.1.length + 1 < N) :
  S148 N c p f s kf = bif mayCast c p f s then kf (doneC c (castC c p f s) 4 (castM c p f s).1) (doneB c (castC c p f s) 4 (castM c p f s).1) else kf c false := by
 have hm := maxLen_eq
 have hr := h.rl
 unfold S148
 rw [S49_ok h, S162_ok h]
 unfold mayCast
 cases hc : isClubM c with
 | false => rfl
 | true =>
  obtain ⟨l1, l2⟩ := isClub_lens hc
  simp only [Bool.not_true, cond_false, Bool.true_and]
  rw [wrap64 (n := (List.length c.2.2.1 : Int) - 1) (by omega) (by omega), S72_ok]
  by_cases hp : 0 ≤ p ∧ p < c.2.2.1.length
  rotate_left
  ·have e1 : inR p 0 ((List.length c.2.2.1 : Int) - 1) = false := by
    cases hx : inR p 0 ((List.length c.2.2.1 : Int) - 1) with
    | false => rfl
    | true => rw [inR_iff] at hx; exact absurd ⟨hx.1, by omega⟩ hp
   have e2 : (decide (0 ≤ p) && decide (p < c.2.2.1.length)) = false := by
    cases hx : (decide (0 ≤ p) && decide (p < c.2.2.1.length)) with
    | false => rfl
    | true => simp only [Bool.and_eq_true, decide_eq_true_eq] at hx; exact absurd hx hp
   rw [e1, e2]
   rfl
  ·obtain ⟨hp0, hp1⟩ := hp
   obtain ⟨i, rfl⟩ : ∃ i : Nat, p = (i : Int) := ⟨p.toNat, by omega⟩
   have e1 : inR (i : Int) 0 ((List.length c.2.2.1 : Int) - 1) = true := inR_iff.2 ⟨by omega, by omega⟩
   have e2 : (decide (0 ≤ (i : Int)) && decide ((i : Int) < c.2.2.1.length)) = true := by simp only [Bool.and_eq_true, decide_eq_true_eq]; omega
   rw [e1, e2]
   simp only [Bool.not_true, cond_false, Bool.true_and, Int.toNat_natCast, List.length_set]
   rw [inB_nat (show i < c.2.2.2.2.1.length by omega), inB_nat (show i < c.2.2.2.1.length by omega)]
   simp only [cond_true]
   have e3 : List.getD (List.set c.2.2.2.2.1 i (List.getD c.2.2.2.1 i (0 : Int), (f, s))) i zQIIIE = (List.getD c.2.2.2.1 i (0 : Int), (f, s)) := by
    rw [List.getD_eq_getElem?_getD, List.getElem?_set_self (by omega)]
    rfl
   rw [e3, S163_ok]
   show (bif !emptyB (List.getD c.2.2.2.2.1 i zQIIIE) then kf c false else _) = _
   cases emptyB (List.getD c.2.2.2.2.1 i zQIIIE) with
   | false => rfl
   | true =>
    simp only [Bool.not_true, cond_false, Bool.true_and]
    exact S160_ok (out := castC c (i : Int) f s) h (fun _ => castC_ok h _ _ _) hN hl
end Go.Pv.R
namespace Go.Pv
set_option linter.unusedVariables false
set_option linter.unusedSimpArgs false
abbrev Asc (l : List Int) : Prop := l.Pairwise (· < ·)
def putM : List Int → Int → List Int
 | [], n => [n]
 | x :: r, n => bif decide (x < n) then x :: putM r n else bif x == n then x :: r else n :: x :: r
theorem putM_mem : ∀ (l : List Int) (n x : Int), x ∈ putM l n ↔ x = n ∨ x ∈ l
 | [], n, x => by simp [putM]
 | y :: r, n, x => by
  simp only [putM]
  by_cases h : y < n
  ·rw [decide_eq_true h, cond_true, List.mem_cons, putM_mem r n x, List.mem_cons]
   constructor
   ·rintro (h | h | h) <;> simp [h]
   ·rintro (h | h | h) <;> simp [h]
  ·rw [decide_eq_false h, cond_false]
   by_cases e : y = n
   ·subst e; simp
   ·rw [beq_eq_false_iff_ne.2 e, cond_false]; simp
theorem putM_asc : ∀ {l : List Int} {n : Int}, Asc l → Asc (putM l n)
 | [], n, _ => by simp [putM, Asc]
 | y :: r, n, h => by
  rw [Asc, List.pairwise_cons] at h
  simp only [putM]
  by_cases hy : y < n
  ·rw [decide_eq_true hy, cond_true, Asc, List.pairwise_cons]
   refine ⟨fun z hz => ?_, putM_asc h.2⟩
   rcases (putM_mem r n z).1 hz with e | e
   ·omega
   ·exact h.1 z e
  ·rw [decide_eq_false hy, cond_false]
   by_cases e : y = n
   ·subst e
    simp only [beq_self_eq_true, cond_true, Asc, List.pairwise_cons]
    exact h
   ·rw [beq_eq_false_iff_ne.2 e, cond_false, Asc, List.pairwise_cons, List.pairwise_cons]
    refine ⟨fun z hz => ?_, h⟩
    rcases List.mem_cons.1 hz with e2 | e2
    ·omega
    ·have := h.1 z e2; omega
theorem putM_len : ∀ (l : List Int) (n : Int), (putM l n).length ≤ l.length + 1
 | [], n => by simp [putM]
 | y :: r, n => by
  simp only [putM]
  have := putM_len r n
  cases decide (y < n) with
  | true => simp only [cond_true, List.length_cons]; omega
  | false => cases y == n <;> simp
end Go.Pv
namespace Go.Pv.R
set_option linter.unusedVariables false
set_option linter.unusedSimpArgs false
def cutM : List Int → Int → Nat
 | [], _ => 0
 | x :: r, n => bif decide (x < n) then cutM r n + 1 else 0
theorem cutM_le : ∀ (l : List Int) (n : Int), cutM l n ≤ l.length
 | [], _ => Nat.le_refl _
 | x :: r, n => by
  simp only [cutM]
  have := cutM_le r n
  cases decide (x < n) <;> simp <;> omega
theorem putM_cut : ∀ (l : List Int) (n : Int), putM l n = bif decide (cutM l n < l.length) && (l.getD (cutM l n) 0 == n) then l else l.take (cutM l n) ++ [n] ++ l.drop (cutM l n)
 | [], n => rfl
 | x :: r, n => by
  by_cases h : x < n
  ·have hc : cutM (x :: r) n = cutM r n + 1 := by simp only [cutM]; rw [decide_eq_true h]; rfl
   have hp : putM (x :: r) n = x :: putM r n := by simp only [putM]; rw [decide_eq_true h]; rfl
   rw [hc, hp, putM_cut r n]
   simp only [List.length_cons, List.getD_cons_succ, List.take_succ_cons, List.drop_succ_cons]
   rw [show decide (cutM r n + 1 < r.length + 1) = decide (cutM r n < r.length) from decide_eq_decide.2 (by omega)]
   cases (decide (cutM r n < r.length) && (r.getD (cutM r n) 0 == n)) <;> simp
  ·have hc : cutM (x :: r) n = 0 := by simp only [cutM]; rw [decide_eq_false h]; rfl
   have hp : putM (x :: r) n = bif x == n then x :: r else n :: x :: r := by simp only [putM]; rw [decide_eq_false h]; rfl
   rw [hc, hp]
   simp only [List.length_cons, List.getD_cons_zero, List.take_zero, List.drop_zero]
   rw [decide_eq_true (show 0 < r.length + 1 by omega), Bool.true_and]
   cases x == n <;> simp
theorem goL_cut {n : Int} {k : Int → Option Ret} : ∀ (r : List Int) (i m : Nat), i + r.length = m → goL (fun (i : Nat) (x : Int) (next : Option Ret) => bif (decide (x < n)) then next else k (i : Int)) (k (m : Int)) r i = k ((i + cutM r n : Nat) : Int)
 | [], i, m, h => by simp only [goL, cutM]; rw [← h]; rfl
 | x :: r, i, m, h => by
  simp only [goL, cutM]
  cases decide (x < n) with
  | true =>
   simp only [cond_true]
   rw [goL_cut r (i + 1) m (by simp only [List.length_cons] at h; omega)]
   congr 1
   omega
  | false => simp only [cond_false, Nat.add_zero]
theorem S167_ok {N : Nat} {l : List Int} {n : Int} {kf : List Int → Option Ret} (hl : l.length ≤ 1048576) (hN : l.length < N) : S167 N l n kf = kf (putM l n) := by
 have hm := maxLen_eq
 unfold S167
 rw [S167_l2_r (by omega) hN]
 have hc := cutM_le l n
 have h2 : (decide ((List.length ([] : List Int) + List.length l) * 1 ≤ 4398046511104)) = true := decide_eq_true (by simp only [List.length_nil]; omega)
 have hj : S167_j1 l n kf (cutM l n : Int) = kf (l.take (cutM l n) ++ [n] ++ l.drop (cutM l n)) := by
  unfold S167_j1
  have d1 : (decide ((0 : Int) ≤ (0 : Int)) && decide ((0 : Int) ≤ (cutM l n : Int)) && decide ((cutM l n : Int) ≤ (List.length l : Int))) = true := by simp; omega
  have d2 : (decide ((0 : Int) ≤ (cutM l n : Int)) && decide ((cutM l n : Int) ≤ (List.length l : Int)) && decide ((List.length l : Int) ≤ (List.length l : Int))) = true := by simp; omega
  rw [d1, d2]
  have e1 : List.drop (Int.toNat 0) (List.take (Int.toNat (cutM l n : Int)) l) = l.take (cutM l n) := by simp
  have e2 : List.drop (Int.toNat (cutM l n : Int)) (List.take (Int.toNat (List.length l : Int)) l) = l.drop (cutM l n) := by simp
  rw [e1, e2]
  have l1 : (l.take (cutM l n)).length = cutM l n := by rw [List.length_take]; omega
  have l2 : (l.drop (cutM l n)).length = l.length - cutM l n := List.length_drop
  rw [decide_eq_true (by simp only [List.length_nil]; omega), decide_eq_true (by simp only [List.length_append, List.length_cons, List.length_nil]; omega), decide_eq_true (by simp only [List.length_append, List.length_cons, List.length_nil]; omega)]
  simp only [cond_true, List.nil_append]
 have := goL_cut (n := n) (k := fun (z5_7 : Int) =>
  bif (decide (z5_7 < (List.length l : Int))) then
   bif (inB z5_7 (List.length l)) then
    bif ((List.getD l (Int.toNat z5_7) (0 : Int)) == n) then
     bif (decide ((List.length ([] : (List Int)) + List.length l) * 1 ≤ 4398046511104)) then
      kf (([] : (List Int)) ++ l)
     else none
    else
     S167_j1 l n kf z5_7
   else none
  else
   S167_j1 l n kf z5_7) l 0 l.length (by omega)
 refine this.trans ?_
 simp only [Nat.zero_add]
 rw [hj, putM_cut]
 by_cases hlt : cutM l n < l.length
 ·rw [decide_eq_true (show (cutM l n : Int) < (List.length l : Int) by omega), decide_eq_true hlt, inB_nat hlt, Int.toNat_natCast, h2]
  simp only [cond_true, Bool.true_and, List.nil_append]
  cases List.getD l (cutM l n) 0 == n <;> rfl
 ·rw [decide_eq_false (show ¬ (cutM l n : Int) < (List.length l : Int) by omega), decide_eq_false hlt]
  rfl
end Go.Pv.R
namespace Go.Pv.R
set_option linter.unusedVariables false
set_option linter.unusedSimpArgs false
theorem drop_any {α : Type} (l : List α) (k : Nat) : List.drop (Int.toNat 0) (List.take k l) = l.take k ∧ List.drop k (List.take (List.length l) l) = l.drop k := by simp
def withTeams (c : Club) (l : List Team) : Club := (l, c.2)
def dropC (c : Club) (k : Nat) : Club := withTeams c (c.1.take k ++ c.1.drop (k + 1))
theorem withTeams_ok {c : Club} {N : Nat} {l : List Team} (h : ClubOK c N) (hl : l.length ≤ 1048700) (hN : l.length < N) (hm : ∀ x : Team, x ∈ l → x.met.length ≤ 1048700 ∧ x.met.length < N) : ClubOK (withTeams c l) N := by
 have h0 := maxLen_eq
 exact ⟨by show l.length ≤ _; omega, fun x hx => ⟨by have := (hm x hx).1; omega, (hm x hx).2⟩, hN, h.jl, h.jm, h.jN, h.rl, h.rN, h.sl, h.sN, h.bl, h.bN, h.ml, h.mN, h.n8, hl, fun x hx => (hm x hx).1, h.jb, h.jmb⟩
theorem dropC_ok {c : Club} {N : Nat} (h : ClubOK c N) (k : Nat) : ClubOK (dropC c k) N := by
 have h1 := h.tb
 have h2 := h.tN
 have hl : (c.1.take k ++ c.1.drop (k + 1)).length ≤ c.1.length := by rw [List.length_append, List.length_take, List.length_drop]; omega
 refine withTeams_ok h (by omega) (by omega) fun x hx => ?_
 have hx' : x ∈ c.1 := by
  rcases List.mem_append.1 hx with hx | hx
  ·exact List.mem_of_mem_take hx
  ·exact List.mem_of_mem_drop hx
 exact ⟨h.tmb x hx', (h.tm x hx').2⟩
def mayLeave (c : Club) (id : Int) : Bool := decide (0 ≤ findT c.1 id) && (decide (c.2.2.1.length = 0) && decide ((c.1.getD (findT c.1 id).toNat zQIIIIILIE).2.2.2.2.2.length = 0))
def leaveC (c : Club) (id : Int) : Club := dropC c (findT c.1 id).toNat
theorem S150_ok {N : Nat} {c : Club} {id : Int} {kf : Club → Bool → Option Ret} (h : ClubOK c N) (hN : 200 < N) (hl : c.2.2.2.2.2.1.length + 1 < N) :
  S150 N c id kf = bif mayLeave c id then kf (doneC c (leaveC c id) 6 id) (doneB c (leaveC c id) 6 id) else kf c false := by
 have hm := maxLen_eq
 have htb := h.tb
 unfold S150
 rw [S49_ok h, S131_ok h.tl h.tN]
 unfold S161 mayLeave leaveC
 by_cases hf : findT c.1 id < 0
 ·rw [decide_eq_true hf, decide_eq_false (show ¬ 0 ≤ findT c.1 id by omega)]
  rfl
 ·obtain ⟨k, hk, he, _⟩ := findM_pos (p := fun x : Team => x.1 == id) (l := c.1) hf
  have he' : findT c.1 id = (k : Int) := he
  rw [he', decide_eq_false (show ¬ (k : Int) < 0 by omega), decide_eq_true (show 0 ≤ (k : Int) by omega)]
  simp only [cond_false, Bool.true_and, Int.toNat_natCast]
  by_cases hr : c.2.2.1.length = 0
  rotate_left
  ·rw [decide_eq_true (show (List.length c.2.2.1 : Int) > 0 by omega), decide_eq_false hr]
   rfl
  ·rw [decide_eq_false (show ¬ (List.length c.2.2.1 : Int) > 0 by omega), decide_eq_true hr, inB_nat hk]
   simp only [cond_false, cond_true, Bool.true_and]
   by_cases hmet : (c.1.getD k zQIIIIILIE).2.2.2.2.2.length = 0
   rotate_left
   ·rw [decide_eq_true (show (List.length (c.1.getD k zQIIIIILIE).2.2.2.2.2 : Int) > 0 by omega), decide_eq_false hmet]
    rfl
   ·rw [decide_eq_false (show ¬ (List.length (c.1.getD k zQIIIIILIE).2.2.2.2.2 : Int) > 0 by omega), decide_eq_true hmet, wrap64 (n := (k : Int) + 1) (by omega) (by omega)]
    have d1 : (decide ((0 : Int) ≤ (0 : Int)) && true && decide ((k : Int) ≤ (List.length c.1 : Int))) = true := by simp; omega
    have d2 : (decide ((0 : Int) ≤ (k : Int) + 1) && decide ((k : Int) + 1 ≤ (List.length c.1 : Int)) && decide ((List.length c.1 : Int) ≤ (List.length c.1 : Int))) = true := by simp; omega
    have e3 : Int.toNat ((k : Int) + 1) = k + 1 := by omega
    rw [d1, d2, e3, (drop_any c.1 k).1, (drop_any c.1 (k + 1)).2]
    simp only [cond_true, cond_false]
    have l1 : (c.1.take k).length ≤ c.1.length := by rw [List.length_take]; omega
    have l2 : (c.1.drop (k + 1)).length ≤ c.1.length := by rw [List.length_drop]; omega
    rw [S89_ok (by omega) (fun x hx => h.tmb x (List.mem_of_mem_take hx)) (by have := h.tN; omega), S89_ok (by omega) (fun x hx => h.tmb x (List.mem_of_mem_drop hx)) (by have := h.tN; omega), decide_eq_true (by omega), cond_true]
    exact S160_ok (out := dropC c k) h (fun _ => dropC_ok h k) hN hl
end Go.Pv.R
namespace Go.Pv.R
set_option linter.unusedVariables false
set_option linter.unusedSimpArgs false
end Go.Pv.R
namespace Go.Pv.R
set_option linter.unusedVariables false
set_option linter.unusedSimpArgs false
theorem ins_ne {α : Type} {xs : List α} {x z : α} {g : α → Int} {k : Nat} (hk : k ≤ xs.length) (hm : ∀ (j i : Nat) (hi : i < (xs.take k ++ [x] ++ xs.drop k).length), j < i → g ((xs.take k ++ [x] ++ xs.drop k).getD j z) < g (xs.take k ++ [x] ++ xs.drop k)[i]) :
  ∀ (i : Nat) (hi : i < xs.length), g xs[i] ≠ g x := by
 intro i hi he
 have hl : (xs.take k ++ [x] ++ xs.drop k).length = xs.length + 1 := by simp only [List.length_append, List.length_take, List.length_drop, List.length_cons, List.length_nil]; omega
 have hlt : (xs.take k).length = k := by rw [List.length_take]; omega
 have hkx : ∀ (h : k < (xs.take k ++ [x] ++ xs.drop k).length), (xs.take k ++ [x] ++ xs.drop k)[k] = x := fun h => by
  rw [List.getElem_append_left (by rw [List.length_append, hlt]; simp), List.getElem_append_right (by omega)]
  simp [hlt]
 by_cases hik : i < k
 ·have h1 := hm i k (by omega) hik
  rw [getD_nat _ _ (by omega), hkx, List.getElem_append_left (by rw [List.length_append, hlt]; simp; omega), List.getElem_append_left (by omega), List.getElem_take] at h1
  omega
 ·have h1 := hm k (i + 1) (by omega) (by omega)
  rw [getD_nat _ _ (by omega), hkx, List.getElem_append_right (by rw [List.length_append, hlt]; simp; omega), List.getElem_drop] at h1
  have e2 : k + (i + 1 - (xs.take k ++ [x]).length) = i := by rw [List.length_append, hlt]; simp; omega
  simp only [e2] at h1
  omega
theorem goL_cutW {α : Type} {p : α → Bool} {k : Int → Option Ret} : ∀ (r : List α) (i m : Nat), i + r.length = m → goL (fun (i : Nat) (x : α) (next : Option Ret) => bif p x then next else k (i : Int)) (k (m : Int)) r i = k ((i + (r.takeWhile p).length : Nat) : Int)
 | [], i, m, h => by
  simp only [List.length_nil, Nat.add_zero] at h
  subst h
  rfl
 | x :: r, i, m, h => by
  simp only [List.length_cons] at h
  simp only [goL, List.takeWhile_cons]
  cases hp : p x with
  | false => rfl
  | true =>
   simp only [cond_true, if_true, List.length_cons]
   rw [goL_cutW r (i + 1) m (by omega)]
   congr 2
   omega
theorem takeWhile_len {α : Type} (p : α → Bool) (l : List α) : (l.takeWhile p).length ≤ l.length := (List.takeWhile_sublist p).length_le
def newT (id club : Int) : Team := (id, (club, (0, (0, (0, [])))))
def cutT (l : List Team) (id : Int) : Nat := (l.takeWhile fun x => decide (x.1 < id)).length
def joinC (c : Club) (id club : Int) : Club := withTeams c (c.1.take (cutT c.1 id) ++ [newT id club] ++ c.1.drop (cutT c.1 id))
theorem cutT_le (l : List Team) (id : Int) : cutT l id ≤ l.length := takeWhile_len _ _
theorem insMem {α : Type} {xs : List α} {x y : α} {k : Nat} (h : y ∈ xs.take k ++ [x] ++ xs.drop k) : y ∈ xs ∨ y = x := by
 rcases List.mem_append.1 h with h | h
 ·rcases List.mem_append.1 h with h | h
  ·exact .inl (List.mem_of_mem_take h)
  ·exact .inr (List.mem_singleton.1 h)
 ·exact .inl (List.mem_of_mem_drop h)
theorem insLen {α : Type} {xs : List α} {x : α} {k : Nat} (hk : k ≤ xs.length) : (xs.take k ++ [x] ++ xs.drop k).length = xs.length + 1 := by
 simp only [List.length_append, List.length_take, List.length_drop, List.length_cons, List.length_nil]; omega
theorem joinC_ok {c : Club} {N : Nat} {id club : Int} (h : ClubOK c N) (hb : c.1.length ≤ 1048576) (hN : c.1.length + 1 < N) : ClubOK (joinC c id club) N := by
 have hl := insLen (x := newT id club) (cutT_le c.1 id)
 have h8 := h.n8
 refine withTeams_ok h (by omega) (by omega) fun x hx => ?_
 rcases insMem hx with hx | rfl
 ·exact ⟨h.tmb x hx, (h.tm x hx).2⟩
 ·exact ⟨by show (0 : Nat) ≤ _; omega, by show (0 : Nat) < _; omega⟩
theorem join_ids {c : Club} {id club : Int} (h : areTeamsM (joinC c id club).1 = true) : findT c.1 id < 0 := by
 unfold areTeamsM at h
 simp only [Bool.and_eq_true] at h
 have hm := teams_mono h.2.1
 have hne := ins_ne (xs := c.1) (x := newT id club) (z := zQIIIIILIE) (g := fun x : Team => x.1) (cutT_le c.1 id) hm
 by_cases hf : findT c.1 id < 0
 ·exact hf
 ·obtain ⟨k, hk, _, h1, _⟩ := findM_pos (p := fun x : Team => x.1 == id) (l := c.1) hf
  exact absurd (beq_iff_eq.1 h1) (hne k hk)
theorem S145_l3_ok {N : Nat} {c z : Club} {id club : Int} {k : Int → Option Ret} (h : ClubOK c N) : S145_l3 id club c z c N k (0 : Int) = k ((cutT c.1 id : Nat) : Int) := by
 rw [S145_l3_r h.tl h.tN, goL_cutW c.1 0 c.1.length (by omega), Nat.zero_add]
 rfl
theorem S145_ok {N : Nat} {c : Club} {id club : Int} {kf : Club → Bool → Option Ret} (h : ClubOK c N) (hb : c.1.length ≤ 1048576) (hN1 : c.1.length + 1 < N) (hN : 200 < N) (hl : c.2.2.2.2.2.1.length + 1 < N) :
  S145 N c id club kf = bif decide (c.2.2.1.length = 0) then kf (doneC c (joinC c id club) 1 id) (doneB c (joinC c id club) 1 id) else kf c false := by
 have hm := maxLen_eq
 have hk := cutT_le c.1 id
 unfold S145
 rw [S49_ok h, S145_l3_ok h]
 show (bif (decide ((0 : Int) ≤ (0 : Int)) && decide ((0 : Int) ≤ ((cutT c.1 id : Nat) : Int)) && decide (((cutT c.1 id : Nat) : Int) ≤ (List.length c.1 : Int))) then _ else _) = _
 have d1 : (decide ((0 : Int) ≤ (0 : Int)) && decide ((0 : Int) ≤ ((cutT c.1 id : Nat) : Int)) && decide (((cutT c.1 id : Nat) : Int) ≤ (List.length c.1 : Int))) = true := by simp; omega
 have d2 : (decide ((0 : Int) ≤ ((cutT c.1 id : Nat) : Int)) && decide (((cutT c.1 id : Nat) : Int) ≤ (List.length c.1 : Int)) && decide ((List.length c.1 : Int) ≤ (List.length c.1 : Int))) = true := by simp; omega
 have l1 : (c.1.take (cutT c.1 id)).length ≤ c.1.length := by rw [List.length_take]; omega
 have l2 : (c.1.drop (cutT c.1 id)).length ≤ c.1.length := by rw [List.length_drop]; omega
 rw [d1, cond_true, Int.toNat_natCast, (drop_any c.1 (cutT c.1 id)).1, S89_ok (by omega) (fun x hx => h.tmb x (List.mem_of_mem_take hx)) (by omega), decide_eq_true (by simp only [List.length_cons, List.length_nil]; omega), cond_true]
 show (bif (decide ((0 : Int) ≤ ((cutT c.1 id : Nat) : Int)) && decide (((cutT c.1 id : Nat) : Int) ≤ (List.length c.1 : Int)) && decide ((List.length c.1 : Int) ≤ (List.length c.1 : Int))) then _ else _) = _
 rw [d2, cond_true, Int.toNat_natCast]
 show S89 N (List.drop (cutT c.1 id) (List.take (List.length c.1) c.1)) _ = _
 rw [(drop_any c.1 (cutT c.1 id)).2, S89_ok (by omega) (fun x hx => h.tmb x (List.mem_of_mem_drop hx)) (by omega), decide_eq_true (by simp only [List.length_append, List.length_cons, List.length_nil]; omega), cond_true]
 unfold S161
 refine (S160_ok (out := joinC c id club) h (fun _ => joinC_ok h hb hN1) hN hl).trans ?_
 by_cases hr : c.2.2.1.length = 0
 ·rw [decide_eq_true hr, decide_eq_false (show ¬ (List.length c.2.2.1 : Int) > 0 by omega)]; rfl
 ·rw [decide_eq_false hr, decide_eq_true (show (List.length c.2.2.1 : Int) > 0 by omega)]; rfl
def withJudges (c : Club) (l : List Judge) : Club := (c.1, (l, c.2.2))
theorem withJudges_ok {c : Club} {N : Nat} {l : List Judge} (h : ClubOK c N) (hl : l.length ≤ 1048700) (hN : l.length < N) (hm : ∀ x : Judge, x ∈ l → x.2.2.length ≤ 1048700 ∧ x.2.2.length < N) : ClubOK (withJudges c l) N := by
 have h0 := maxLen_eq
 exact ⟨h.tl, h.tm, h.tN, by show l.length ≤ _; omega, fun x hx => ⟨by have := (hm x hx).1; omega, (hm x hx).2⟩, hN, h.rl, h.rN, h.sl, h.sN, h.bl, h.bN, h.ml, h.mN, h.n8, h.tb, h.tmb, hl, fun x hx => (hm x hx).1⟩
def newJ (id club : Int) : Judge := (id, (club, []))
def cutJ (l : List Judge) (id : Int) : Nat := (l.takeWhile fun x => decide (x.1 < id)).length
def enterC (c : Club) (id club : Int) : Club := withJudges c (c.2.1.take (cutJ c.2.1 id) ++ [newJ id club] ++ c.2.1.drop (cutJ c.2.1 id))
theorem cutJ_le (l : List Judge) (id : Int) : cutJ l id ≤ l.length := takeWhile_len _ _
theorem enterC_ok {c : Club} {N : Nat} {id club : Int} (h : ClubOK c N) (hb : c.2.1.length ≤ 1048576) (hN : c.2.1.length + 1 < N) : ClubOK (enterC c id club) N := by
 have hl := insLen (x := newJ id club) (cutJ_le c.2.1 id)
 have h8 := h.n8
 refine withJudges_ok h (by omega) (by omega) fun x hx => ?_
 rcases insMem hx with hx | rfl
 ·exact ⟨h.jmb x hx, (h.jm x hx).2⟩
 ·exact ⟨by show (0 : Nat) ≤ _; omega, by show (0 : Nat) < _; omega⟩
theorem S146_l3_ok {N : Nat} {c z : Club} {id club : Int} {k : Int → Option Ret} (h : ClubOK c N) : S146_l3 id club c z c N k (0 : Int) = k ((cutJ c.2.1 id : Nat) : Int) := by
 rw [S146_l3_r h.jl h.jN, goL_cutW c.2.1 0 c.2.1.length (by omega), Nat.zero_add]
 rfl
theorem S146_ok {N : Nat} {c : Club} {id club : Int} {kf : Club → Bool → Option Ret} (h : ClubOK c N) (hb : c.2.1.length ≤ 1048576) (hN1 : c.2.1.length + 1 < N) (hN : 200 < N) (hl : c.2.2.2.2.2.1.length + 1 < N) :
  S146 N c id club kf = kf (doneC c (enterC c id club) 2 id) (doneB c (enterC c id club) 2 id) := by
 have hm := maxLen_eq
 have hk := cutJ_le c.2.1 id
 unfold S146
 rw [S49_ok h, S146_l3_ok h]
 show (bif (decide ((0 : Int) ≤ (0 : Int)) && decide ((0 : Int) ≤ ((cutJ c.2.1 id : Nat) : Int)) && decide (((cutJ c.2.1 id : Nat) : Int) ≤ (List.length c.2.1 : Int))) then _ else _) = _
 have d1 : (decide ((0 : Int) ≤ (0 : Int)) && decide ((0 : Int) ≤ ((cutJ c.2.1 id : Nat) : Int)) && decide (((cutJ c.2.1 id : Nat) : Int) ≤ (List.length c.2.1 : Int))) = true := by simp; omega
 have d2 : (decide ((0 : Int) ≤ ((cutJ c.2.1 id : Nat) : Int)) && decide (((cutJ c.2.1 id : Nat) : Int) ≤ (List.length c.2.1 : Int)) && decide ((List.length c.2.1 : Int) ≤ (List.length c.2.1 : Int))) = true := by simp; omega
 have l1 : (c.2.1.take (cutJ c.2.1 id)).length ≤ c.2.1.length := by rw [List.length_take]; omega
 have l2 : (c.2.1.drop (cutJ c.2.1 id)).length ≤ c.2.1.length := by rw [List.length_drop]; omega
 rw [d1, cond_true, Int.toNat_natCast, (drop_any c.2.1 (cutJ c.2.1 id)).1, S90_ok (by omega) (fun x hx => h.jmb x (List.mem_of_mem_take hx)) (by omega), decide_eq_true (by simp only [List.length_cons, List.length_nil]; omega), cond_true]
 show (bif (decide ((0 : Int) ≤ ((cutJ c.2.1 id : Nat) : Int)) && decide (((cutJ c.2.1 id : Nat) : Int) ≤ (List.length c.2.1 : Int)) && decide ((List.length c.2.1 : Int) ≤ (List.length c.2.1 : Int))) then _ else _) = _
 rw [d2, cond_true, Int.toNat_natCast]
 show S90 N (List.drop (cutJ c.2.1 id) (List.take (List.length c.2.1) c.2.1)) _ = _
 rw [(drop_any c.2.1 (cutJ c.2.1 id)).2, S90_ok (by omega) (fun x hx => h.jmb x (List.mem_of_mem_drop hx)) (by omega), decide_eq_true (by simp only [List.length_append, List.length_cons, List.length_nil]; omega), cond_true]
 exact S160_ok (out := enterC c id club) h (fun _ => enterC_ok h hb hN1) hN hl
end Go.Pv.R
namespace Go.Pv.R
set_option linter.unusedVariables false
set_option linter.unusedSimpArgs false
end Go.Pv.R
namespace Go.Pv.R
set_option linter.unusedVariables false
set_option linter.unusedSimpArgs false
end Go.Pv.R
namespace Go.Pv.R
set_option linter.unusedVariables false
set_option linter.unusedSimpArgs false
end Go.Pv.R
namespace Go.Pv.R
set_option linter.unusedVariables false
set_option linter.unusedSimpArgs false
end Go.Pv.R
namespace Go.Pv.R
set_option linter.unusedVariables false
set_option linter.unusedSimpArgs false
end Go.Pv.R
namespace Go.Pv.R
set_option linter.unusedVariables false
set_option linter.unusedSimpArgs false
end Go.Pv.R
namespace Go.Pv.R
set_option linter.unusedVariables false
set_option linter.unusedSimpArgs false
end Go.Pv.R
namespace Go.Pv.R
set_option linter.unusedVariables false
set_option linter.unusedSimpArgs false
end Go.Pv.R
namespace Go.Pv.R
set_option linter.unusedVariables false
set_option linter.unusedSimpArgs false
def beforeM (a b : Team) : Bool := bif a.2.2.1 != b.2.2.1 then decide (a.2.2.1 > b.2.2.1) else (bif decide (a.2.2.2.1 > b.2.2.2.1) then true else (bif a.2.2.2.1 == b.2.2.2.1 then decide (a.1 < b.1) else false))
theorem S135_ok {N : Nat} {a b : Team} {kf : Bool → Option Ret} : S135 N a b kf = kf (beforeM a b) := by
 unfold S135 beforeM
 cases (a.2.2.1 != b.2.2.1) with
 | true => rfl
 | false =>
  simp only [cond_false]
  cases decide (a.2.2.2.1 > b.2.2.2.1) with
  | true => rfl
  | false =>
   simp only [cond_false]
   cases (a.2.2.2.1 == b.2.2.2.1) <;> rfl
def posM (x : Team) (s : List Team) : Nat → Nat
 | 0 => 0
 | k + 1 => bif beforeM x (s.getD k zQIIIIILIE) then posM x s k else k + 1
theorem posM_le (x : Team) (s : List Team) : ∀ k, posM x s k ≤ k
 | 0 => Nat.le_refl _
 | k + 1 => by
  unfold posM
  cases beforeM x (s.getD k zQIIIIILIE) with
  | true => exact Nat.le_succ_of_le (posM_le x s k)
  | false => exact Nat.le_refl _
def insM (s : List Team) (x : Team) : List Team := s.take (posM x s s.length) ++ [x] ++ s.drop (posM x s s.length)
theorem insM_len (s : List Team) (x : Team) : (insM s x).length = s.length + 1 := by
 have := posM_le x s s.length
 simp [insM]; omega
def sortM (l : List Team) : List Team := l.foldl insM []
theorem insl_len : ∀ (l s : List Team), (l.foldl insM s).length = s.length + l.length
 | [], s => by simp
 | x :: l, s => by simp only [List.foldl_cons, insl_len l, insM_len, List.length_cons]; omega
theorem sortM_len (l : List Team) : (sortM l).length = l.length := by simp [sortM, insl_len]
def standM (l : List Team) : List Int := bif areTeamsM l then (sortM l).map (fun x : Team => x.1) else []
theorem S113_l6_ok {N : Nat} {l s : List Team} {i : Nat} (hi : i < l.length) (hl : l.length ≤ 1048700) (hs : s.length ≤ 1048700) {kk : Int → Option Ret} : ∀ (k n : Nat), k ≤ s.length → k < n → S113_l6 N l s (i : Int) n kk (k : Int) = kk ((posM l[i] s k : Nat) : Int)
 | 0, n + 1, _, _ => by
  simp only [S113_l6]
  rfl
 | k + 1, n + 1, hk, hn => by
  have hm := maxLen_eq
  have ew : IntKind.wrap .i64 (((k + 1 : Nat) : Int) - 1) = ((k : Nat) : Int) := by
   have := wrap_pred (i := k + 1) (m := s.length + 1) (by omega) (by omega) (by omega)
   simpa using this
  simp only [S113_l6]
  rw [decide_eq_true (show ((k + 1 : Nat) : Int) > 0 by omega), cond_true, inB_nat hi, cond_true, ew, inB_nat (show k < s.length by omega), cond_true, S135_ok, Int.toNat_natCast, Int.toNat_natCast, getD_nat l i hi]
  unfold posM
  cases beforeM l[i] (s.getD k zQIIIIILIE) with
  | true => simp only [cond_true]; exact S113_l6_ok hi hl hs k n (by omega) (by omega)
  | false => rfl
theorem goL1_inv {α σ : Type} {body : Nat → α → σ → (σ → Option Ret) → Option Ret} {kend : σ → Option Ret} {g : σ → α → σ} {Inv : Nat → σ → Prop} {l : List α}
  (hb : ∀ (i : Nat) (s : σ) (next : σ → Option Ret) (h : i < l.length), Inv i s → body i l[i] s next = next (g s l[i]) ∧ Inv (i + 1) (g s l[i])) : ∀ (r : List α) (i : Nat) (s : σ), l.drop i = r → Inv i s → goL1 body kend r i s = kend (r.foldl g s)
 | [], i, s, _, _ => rfl
 | x :: r, i, s, hd, hs => by
  have hlt : i < l.length := by have := congrArg List.length hd; simp at this; omega
  rw [List.drop_eq_getElem_cons hlt] at hd
  injection hd with h1 h2
  subst h1
  obtain ⟨e1, e2⟩ := hb i s (fun s' => goL1 body kend r (i + 1) s') hlt hs
  simp only [goL1, List.foldl_cons]
  rw [e1]
  exact goL1_inv hb r (i + 1) _ h2 e2
theorem ids_loop {l : List Team} {kf : List Int → Option Ret} (hl : l.length ≤ 1048700) : goL1 (fun (i : Nat) (x : QIIIIILIE) (s : (List Int)) (next : (List Int) → Option Ret) =>
    bif (decide ((List.length s + List.length [x.1]) * 1 ≤ 4398046511104)) then
     next (s ++ [x.1])
    else none) (fun (s : (List Int)) => kf s) l 0 [] = kf (l.map fun x : Team => x.1) := by
 rw [goL1_inv (l := l) (g := fun s (x : Team) => s ++ [x.1]) (Inv := fun i s => s.length = i) (fun i s next h hs => ⟨by rw [decide_eq_true (by simp only [List.length_cons, List.length_nil]; omega), cond_true], by simp [hs]⟩) l 0 [] rfl rfl]
 congr 1
 have : ∀ (r : List Team) (s : List Int), r.foldl (fun s (x : Team) => s ++ [x.1]) s = s ++ r.map fun x : Team => x.1 := by
  intro r
  induction r with
  | nil => intro s; simp
  | cons x r ih => intro s; simp [ih]
 simpa using this l []
theorem S113_ok {N : Nat} {l : List Team} {kf : List Int → Option Ret} (hl : l.length ≤ maxLen) (hm : ∀ x ∈ l, x.met.length ≤ maxLen ∧ x.met.length < N) (hN : l.length + 1 < N) : S113 N l kf = kf (standM l) := by
 have hx := maxLen_eq
 unfold S113 standM
 rw [S113_l3_r hl (by omega)]
 have ha : ∀ kf, S111 N l kf = kf (areTeamsM l) := fun kf => S111_ok hl hm (by omega)
 cases hat : areTeamsM l with
 | false =>
  have key : ∀ (l2 : List Team) (body : Nat → Team → List Team → (List Team → Option Ret) → Option Ret) (kend : List Team → Option Ret), (∀ i x s next, body i x s next = kend s) → goL1 body kend l2 0 [] = kend [] := by
   intro l2 body kend h
   cases l2 with
   | nil => rfl
   | cons x r => simp only [goL1]; exact h _ _ _ _
  rw [key _ _ _ (fun i x s next => by rw [ha, hat]; rfl)]
  rw [S113_l11_r (by simp) (by simp; omega)]
  rfl
 | true =>
  have h10 : l.length ≤ 10 := by
   unfold areTeamsM at hat
   simp only [Bool.and_eq_true, decide_eq_true_eq] at hat
   exact hat.1
  rw [goL1_inv (l := l) (g := insM) (Inv := fun i s => s.length = i ∧ i ≤ l.length) (fun i s next h hs => ⟨by
   obtain ⟨h1, h2⟩ := hs
   have hp := posM_le l[i] s s.length
   rw [ha, hat]
   simp only [cond_true]
   rw [S113_l6_ok h (by omega) (by omega) s.length N (Nat.le_refl _) (by omega)]
   have d1 : (decide ((0 : Int) ≤ (0 : Int)) && decide ((0 : Int) ≤ ((posM l[i] s s.length : Nat) : Int)) && decide (((posM l[i] s s.length : Nat) : Int) ≤ (List.length s : Int))) = true := by simp; omega
   have d2 : (decide ((0 : Int) ≤ ((posM l[i] s s.length : Nat) : Int)) && decide (((posM l[i] s s.length : Nat) : Int) ≤ (List.length s : Int)) && decide ((List.length s : Int) ≤ (List.length s : Int))) = true := by simp; omega
   rw [d1, cond_true, d2, cond_true, Int.toNat_natCast, Int.toNat_natCast, List.drop_zero, List.take_length, List.nil_append]
   have l1 : (s.take (posM l[i] s s.length)).length ≤ s.length := by rw [List.length_take]; omega
   have l2 : (s.drop (posM l[i] s s.length)).length ≤ s.length := by rw [List.length_drop]; omega
   rw [decide_eq_true (by simp only [List.length_nil]; omega), cond_true, decide_eq_true (by simp only [List.length_cons, List.length_nil]; omega), cond_true, decide_eq_true (by simp only [List.length_append, List.length_cons, List.length_nil]; omega), cond_true]
   rfl, by rw [insM_len]; omega, h⟩) l 0 [] rfl ⟨rfl, by omega⟩]
  have hlen := sortM_len l
  show S113_l11 (sortM l) N kf [] 0 = _
  rw [S113_l11_r (by omega) (by omega)]
  exact ids_loop (by omega)
end Go.Pv.R
namespace Go.Pv.R
set_option linter.unusedVariables false
set_option linter.unusedSimpArgs false
def teamM (t : List Team) (id : Int) : Team := t.getD (findT t id).toNat zQIIIIILIE
def sideM (t : List Team) (a b : Int) : Pair := bif areTeamsM t && (decide (findT t a ≥ 0) && (decide (findT t b ≥ 0) && (findT t a != findT t b))) then
  (bif decide ((teamM t b).2.2.2.2.1 < (teamM t a).2.2.2.2.1) then (b, a) else bif (teamM t b).2.2.2.2.1 == (teamM t a).2.2.2.2.1 then (bif beforeM (teamM t b) (teamM t a) then (b, a) else (a, b)) else (a, b)) else (0, 0)
theorem S134_ok {N : Nat} {t : List Team} {a b : Int} {kf : Pair → Option Ret} (hl : t.length ≤ maxLen) (hm : ∀ x ∈ t, x.met.length ≤ maxLen ∧ x.met.length < N) (hN : t.length < N) : S134 N t a b kf = kf (sideM t a b) := by
 unfold S134 sideM
 rw [S131_ok hl hN, S131_ok hl hN, S111_ok hl hm hN]
 cases areTeamsM t with
 | false => rfl
 | true =>
  by_cases ha : findT t a ≥ 0
  rotate_left
  ·rw [decide_eq_true (show findT t a < 0 by omega), decide_eq_false ha]; rfl
  by_cases hb : findT t b ≥ 0
  rotate_left
  ·rw [decide_eq_false (show ¬ findT t a < 0 by omega), decide_eq_true ha, decide_eq_true (show findT t b < 0 by omega), decide_eq_false hb]; rfl
  rw [decide_eq_true ha, decide_eq_true hb, decide_eq_false (show ¬ findT t a < 0 by omega), decide_eq_false (show ¬ findT t b < 0 by omega), (findT_in ha).1, (findT_in hb).1]
  simp only [cond_true, cond_false, Bool.not_true, Bool.true_and, S135_ok, bne]
  unfold teamM
  cases (findT t a == findT t b)
  ·simp only [cond_false, Bool.not_false, cond_true]
   cases decide ((t.getD (findT t b).toNat zQIIIIILIE).2.2.2.2.1 < (t.getD (findT t a).toNat zQIIIIILIE).2.2.2.2.1)
   ·simp only [cond_false]
    cases ((t.getD (findT t b).toNat zQIIIIILIE).2.2.2.2.1 == (t.getD (findT t a).toNat zQIIIIILIE).2.2.2.2.1)
    ·rfl
    ·simp only [cond_true]
     cases beforeM (t.getD (findT t b).toNat zQIIIIILIE) (t.getD (findT t a).toNat zQIIIIILIE) <;> rfl
   ·rfl
  ·rfl
theorem teamM_in {t : List Team} {a : Int} (ha : findT t a ≥ 0) : teamM t a ∈ t ∧ (teamM t a).1 = a := by
 obtain ⟨k, hk, e, h1, _⟩ := findM_pos (p := fun x : Team => x.1 == a) (l := t) (by unfold findT at ha; omega)
 have e : findT t a = (k : Int) := e
 unfold teamM
 rw [e, Int.toNat_natCast, getD_nat _ _ hk]
 exact ⟨List.getElem_mem hk, by simpa using h1⟩
end Go.Pv.R
namespace Go.Pv.R
set_option linter.unusedVariables false
set_option linter.unusedSimpArgs false
def restM (L : List Int) (i : Nat) : List Int := List.drop 1 (List.take i L) ++ List.drop (i + 1) L
theorem restM_len {L : List Int} {i : Nat} (h1 : 1 ≤ i) (h : i < L.length) : (restM L i).length = L.length - 2 := by simp [restM]; omega
def pairG (t : List Team) (f : List Int → Option (List Pair)) (L : List Int) : Nat → Nat → Option (List Pair)
 | 0, _ => none
 | k + 1, i => bif mayMeetM t (L.getD 0 0) (L.getD i 0) then
   (match f (restM L i) with
    | some r => some (sideM t (L.getD 0 0) (L.getD i 0) :: r)
    | none => pairG t f L k (i + 1))
  else pairG t f L k (i + 1)
def pairM (t : List Team) : Nat → List Int → Option (List Pair)
 | 0, _ => none
 | n + 1, L => bif decide (L.length = 0) then some [] else pairG t (pairM t n) L (L.length - 1) 1
def ans {α β : Type} (o : Option (List α)) (k : List α → Bool → β) : β := match o with | some r => k r true | none => k [] false
theorem pairG_len {t : List Team} {f : List Int → Option (List Pair)} {L : List Int} (hf : ∀ (L' : List Int) r, f L' = some r → 2 * r.length = L'.length) : ∀ (k i : Nat) r, 1 ≤ i → i + k = L.length → pairG t f L k i = some r → 2 * r.length = L.length
 | 0, i, r, h0, h, e => by simp [pairG] at e
 | k + 1, i, r, h0, h, e => by
  unfold pairG at e
  cases hm : mayMeetM t (L.getD 0 0) (L.getD i 0) with
  | false => rw [hm, cond_false] at e; exact pairG_len hf k (i + 1) r (by omega) (by omega) e
  | true =>
   rw [hm, cond_true] at e
   cases hr : f (restM L i) with
   | none => rw [hr] at e; exact pairG_len hf k (i + 1) r (by omega) (by omega) e
   | some r' =>
    rw [hr] at e
    injection e with e
    subst e
    have h1 := hf _ _ hr
    rw [restM_len h0 (by omega)] at h1
    simp only [List.length_cons]
    omega
theorem pairM_len {t : List Team} : ∀ (n : Nat) (L : List Int) r, pairM t n L = some r → 2 * r.length = L.length
 | 0, L, r, e => by simp [pairM] at e
 | n + 1, L, r, e => by
  unfold pairM at e
  by_cases h : L.length = 0
  ·rw [decide_eq_true h, cond_true] at e
   injection e with e
   subst e
   simp [h]
  ·rw [decide_eq_false h, cond_false] at e
   exact pairG_len (fun L' r' e' => pairM_len n L' r' e') (L.length - 1) 1 r (by omega) (by omega) e
theorem rest_cut {L : List Int} {i : Nat} (h1 : 1 ≤ i) (h : i < L.length) : (decide ((0 : Int) ≤ (1 : Int)) && decide ((1 : Int) ≤ (i : Int)) && decide ((i : Int) ≤ (List.length L : Int))) = true ∧ (decide ((0 : Int) ≤ ((i + 1 : Nat) : Int)) && decide (((i + 1 : Nat) : Int) ≤ (List.length L : Int)) && decide ((List.length L : Int) ≤ (List.length L : Int))) = true := by
 constructor
 ·rw [decide_eq_true (by omega), decide_eq_true (by omega), decide_eq_true (by omega)]; rfl
 ·rw [decide_eq_true (by omega), decide_eq_true (by omega), decide_eq_true (by omega)]; rfl
theorem S112_l4_ok {N B : Nat} {self : List Team → List Int → (List Pair → Bool → Option Ret) → Option Ret} {t : List Team} {f : List Int → Option (List Pair)} {L : List Int} {k0 : Option Ret} {kf : List Pair → Bool → Option Ret}
  (hl : t.length ≤ maxLen) (hm : ∀ x ∈ t, x.met.length ≤ maxLen ∧ x.met.length < N) (hN : t.length < N) (h20 : 20 < N) (hL : L.length ≤ 1000)
  (hs : ∀ (i : Nat) k, 1 ≤ i → i < L.length → self t (restM L i) k = ans (f (restM L i)) k) (hfl : ∀ (L' : List Int) r, f L' = some r → 2 * r.length = L'.length) : ∀ (k i n : Nat), 1 ≤ i → i + k = L.length → k < n →
  S112_l4 N self t L n k0 kf (i : Int) = match pairG t f L k i with | some r => kf r true | none => k0
 | 0, i, n + 1, h1, h, hn => by
  simp only [S112_l4]
  rw [decide_eq_false (by omega)]
  rfl
 | k + 1, i, n + 1, h1, h, hn => by
  have hx := maxLen_eq
  have ih := S112_l4_ok (k0 := k0) (kf := kf) (B := B) hl hm hN h20 hL hs hfl k (i + 1) n (by omega) (by omega) (by omega)
  obtain ⟨d1, d2⟩ := rest_cut (L := L) h1 (by omega)
  have ew : IntKind.wrap .i64 ((i : Int) + 1) = ((i + 1 : Nat) : Int) := wrap_succ (m := L.length) (i := i) (by omega) (by omega)
  simp only [S112_l4]
  rw [decide_eq_true (by omega), cond_true, show inB (0 : Int) (List.length L) = true from inB_nat (i := 0) (show 0 < L.length by omega), cond_true, inB_nat (show i < L.length by omega), cond_true, S133_ok hl hm hN]
  unfold pairG
  show (bif !mayMeetM t (L.getD 0 0) (L.getD i 0) then _ else _) = _
  cases mayMeetM t (L.getD 0 0) (L.getD i 0) with
  | false =>
   simp only [Bool.not_false, cond_true, cond_false]
   rw [ew]
   exact ih
  | true =>
   simp only [Bool.not_true, cond_true, cond_false]
   rw [d1, cond_true, ew, d2, cond_true]
   have e3 : (([] : List Int) ++ List.drop (Int.toNat (1 : Int)) (List.take (Int.toNat (i : Int)) L)) ++ List.drop (Int.toNat ((i + 1 : Nat) : Int)) (List.take (Int.toNat (List.length L : Int)) L) = restM L i := by
    rw [Int.toNat_natCast, Int.toNat_natCast, Int.toNat_natCast, List.take_length]; rfl
   rw [e3]
   rw [decide_eq_true (by simp; omega), cond_true, decide_eq_true (by simp; omega), cond_true, hs i _ h1 (by omega)]
   unfold ans
   cases hr : f (restM L i) with
   | none => exact ih
   | some r =>
    have h2 := hfl _ _ hr
    rw [restM_len h1 (by omega)] at h2
    simp only [cond_true]
    rw [S134_ok hl hm hN, decide_eq_true (by simp; omega), cond_true]
    rfl
theorem S112_ok {t : List Team} {B : Nat} (hl : t.length ≤ maxLen) (hm : ∀ x ∈ t, x.met.length ≤ maxLen ∧ x.met.length < B) (hB : t.length < B) (h20 : 20 < B) : ∀ (n N : Nat) (L : List Int) (kf : List Pair → Bool → Option Ret), L.length ≤ n → L.length < B → L.length ≤ 1000 → B + n + 1 ≤ N → S112 N t L kf = ans (pairM t (n + 1) L) kf
 | n, 0, L, kf, _, _, _, h => by omega
 | n, N + 1, L, kf, h1, h2, h3, h => by
  show S112_b (S112 N) N t L kf = _
  unfold S112_b pairM
  by_cases h0 : L.length = 0
  ·rw [decide_eq_true h0, cond_true]
   have : ((List.length L : Int) == 0) = true := by simp [h0]
   rw [this]; rfl
  ·rw [decide_eq_false h0, cond_false]
   have : ((List.length L : Int) == 0) = false := by simp; intro e; exact h0 (by simp [e])
   rw [this, cond_false]
   obtain ⟨n, rfl⟩ : ∃ m, n = m + 1 := ⟨n - 1, by omega⟩
   have := S112_l4_ok (N := N) (B := B) (self := S112 N) (t := t) (f := pairM t (n + 1)) (L := L) (k0 := kf [] false) (kf := kf) hl (fun x hx => ⟨(hm x hx).1, by have := (hm x hx).2; omega⟩) (by omega) (by omega) h3 (fun i k hi1 hi2 => by
    have hr := restM_len hi1 hi2
    exact S112_ok hl hm hB h20 n N (restM L i) k (by omega) (by omega) (by omega) (by omega)) (fun L' r e => pairM_len (n + 1) L' r e) (L.length - 1) 1 N (by omega) (by omega) (by omega)
   refine Eq.trans this ?_
   unfold ans
   cases pairG t (pairM t (n + 1)) L (L.length - 1) 1 <;> rfl
def roundM (t : List Team) : Option (List Pair) := bif areTeamsM t then bif decide (t.length % 2 = 1) then none else pairM t (t.length + 1) (standM t) else none
theorem standM_len {t : List Team} (h : areTeamsM t = true) : (standM t).length = t.length := by unfold standM; rw [h, cond_true, List.length_map, sortM_len]
theorem roundM_len {t : List Team} {r : List Pair} (h : roundM t = some r) : 2 * r.length = t.length ∧ t.length ≤ 10 := by
 unfold roundM at h
 cases hat : areTeamsM t with
 | false => rw [hat] at h; simp at h
 | true =>
  have hat2 := hat
  unfold areTeamsM at hat2
  simp only [Bool.and_eq_true, decide_eq_true_eq] at hat2
  rw [hat, cond_true] at h
  by_cases ho : t.length % 2 = 1
  ·rw [decide_eq_true ho] at h; simp at h
  ·rw [decide_eq_false ho, cond_false] at h
   have := pairM_len _ _ _ h
   rw [standM_len hat] at this
   exact ⟨this, hat2.1⟩
theorem tmod2 (n : Nat) : (Int.tmod (n : Int) 2 == 1) = decide (n % 2 = 1) := by
 have : Int.tmod (n : Int) 2 = ((n % 2 : Nat) : Int) := by
  rw [Int.tmod_eq_emod_of_nonneg (by omega)]; omega
 rw [this]
 by_cases h : n % 2 = 1
 ·rw [h]; rfl
 ·rw [decide_eq_false h]; simp; omega
theorem S85_ok {N : Nat} {t : List Team} {kf : List Pair → Bool → Option Ret} (hl : t.length ≤ maxLen) (hm : ∀ x ∈ t, x.met.length ≤ maxLen ∧ x.met.length + 20 < N) (hN : t.length + 20 < N) (h60 : 60 < N) : S85 N t kf = ans (roundM t) kf := by
 have hx := maxLen_eq
 unfold S85 roundM
 rw [S111_ok hl (fun x hx => ⟨(hm x hx).1, by have := (hm x hx).2; omega⟩) (by omega)]
 cases hat : areTeamsM t with
 | false => rfl
 | true =>
  have hat2 := hat
  unfold areTeamsM at hat2
  simp only [Bool.and_eq_true, decide_eq_true_eq] at hat2
  rw [tmod2]
  by_cases ho : t.length % 2 = 1
  ·rw [decide_eq_true ho]; rfl
  ·rw [decide_eq_false ho]
   simp only [Bool.not_true, cond_true, cond_false]
   rw [S113_ok hl (fun x hx => ⟨(hm x hx).1, by have := (hm x hx).2; omega⟩) (by omega)]
   have hs := standM_len hat
   exact S112_ok (B := N - 15) hl (fun x hx => ⟨(hm x hx).1, by have := (hm x hx).2; omega⟩) (by omega) (by omega) t.length N _ _ (by omega) (by omega) (by omega) (by omega)
end Go.Pv.R
namespace Go.Pv.R
set_option linter.unusedVariables false
set_option linter.unusedSimpArgs false
def seatG (t : List Team) (js : List Judge) (p : Pair) (used : List Int) (f : List Int → Option (List Int)) : Nat → Nat → Option (List Int)
 | 0, _ => none
 | k + 1, i => bif hasM used (js.getD i zQIILIE).1 then seatG t js p used f k (i + 1) else
   bif mayJudgeM t (js.getD i zQIILIE) p then
   (match f (used ++ [(js.getD i zQIILIE).1]) with
    | some r => some ((js.getD i zQIILIE).1 :: r)
    | none => seatG t js p used f k (i + 1))
  else seatG t js p used f k (i + 1)
def seatM (t : List Team) (js : List Judge) : List Pair → List Int → Option (List Int)
 | [], _ => some []
 | p :: ps, used => seatG t js p used (seatM t js ps) js.length 0
def ansK {α β : Type} (o : Option (List α)) (k0 : β) (k : List α → Bool → β) : β := match o with | some r => k r true | none => k0
theorem ansK_eq {α β : Type} (o : Option (List α)) (k : List α → Bool → β) : ansK o (k [] false) k = ans o k := by cases o <;> rfl
def SeatOK (js : List Judge) (n : Nat) (used r : List Int) : Prop := r.length = n ∧ r.Nodup ∧ ∀ x ∈ r, x ∈ js.map (fun x : Judge => x.1) ∧ x ∉ used
theorem seatG_len {t : List Team} {js : List Judge} {p : Pair} {used : List Int} {f : List Int → Option (List Int)} {n : Nat} (hf : ∀ u r, f u = some r → SeatOK js n u r) : ∀ (k i : Nat) r, i + k = js.length → seatG t js p used f k i = some r → SeatOK js (n + 1) used r
 | 0, i, r, h, e => by simp [seatG] at e
 | k + 1, i, r, h, e => by
  unfold seatG at e
  cases hu : hasM used (js.getD i zQIILIE).1 with
  | true => rw [hu, cond_true] at e; exact seatG_len hf k (i + 1) r (by omega) e
  | false =>
   rw [hu, cond_false] at e
   cases hm : mayJudgeM t (js.getD i zQIILIE) p with
   | false => rw [hm, cond_false] at e; exact seatG_len hf k (i + 1) r (by omega) e
   | true =>
    rw [hm, cond_true] at e
    cases hr : f (used ++ [(js.getD i zQIILIE).1]) with
    | none => rw [hr] at e; exact seatG_len hf k (i + 1) r (by omega) e
    | some r' =>
     rw [hr] at e
     injection e with e
     subst e
     obtain ⟨h1, h2, h3⟩ := hf _ _ hr
     have hin : (js.getD i zQIILIE).1 ∈ js.map (fun x : Judge => x.1) := by
      rw [getD_nat _ _ (show i < js.length by omega)]
      exact List.mem_map.2 ⟨_, List.getElem_mem _, rfl⟩
     have hnu : (js.getD i zQIILIE).1 ∉ used := fun hc => by
      have := hasM_iff.2 hc
      rw [hu] at this
      cases this
     refine ⟨by simp [h1], List.nodup_cons.2 ⟨fun hc => ?_, h2⟩, fun x hx => ?_⟩
     ·have := (h3 _ hc).2
      simp at this
     ·rcases List.mem_cons.1 hx with rfl | hx
      ·exact ⟨hin, hnu⟩
      ·obtain ⟨q1, q2⟩ := h3 x hx
       refine ⟨q1, fun hc => q2 ?_⟩
       simp [hc]
theorem seatM_ok {t : List Team} {js : List Judge} : ∀ (ps : List Pair) (used r : List Int), seatM t js ps used = some r → SeatOK js ps.length used r
 | [], used, r, e => by
  unfold seatM at e
  injection e with e
  subst e
  exact ⟨rfl, List.nodup_nil, fun x hx => by simp at hx⟩
 | p :: ps, used, r, e => seatG_len (fun u r e => seatM_ok ps u r e) js.length 0 r (by omega) e
theorem nodup_le : ∀ (r L : List Int), r.Nodup → (∀ x ∈ r, x ∈ L) → r.length ≤ L.length
 | [], L, _, _ => by simp
 | x :: r, L, hn, h => by
  rw [List.nodup_cons] at hn
  have hx := h x (by simp)
  have h1 := List.length_erase_of_mem hx
  have h2 := List.length_pos_of_mem hx
  have := nodup_le r (L.erase x) hn.2 fun y hy => by
   have hne : y ≠ x := fun e => hn.1 (e ▸ hy)
   exact (List.mem_erase_of_ne hne).2 (h y (by simp [hy]))
  simp only [List.length_cons]
  omega
theorem one_cut {p : Pair} {ps : List Pair} : (decide ((0 : Int) ≤ (1 : Int)) && decide ((1 : Int) ≤ (List.length (p :: ps) : Int)) && decide ((List.length (p :: ps) : Int) ≤ (List.length (p :: ps) : Int))) = true ∧ List.drop (Int.toNat (1 : Int)) (List.take (Int.toNat (List.length (p :: ps) : Int)) (p :: ps)) = ps := by
 constructor
 ·rw [decide_eq_true (by omega), decide_eq_true (by simp only [List.length_cons]; omega), decide_eq_true (by omega)]; rfl
 ·rw [Int.toNat_natCast, List.take_length]; rfl
theorem S115_l4_ok {N : Nat} {self : List Team → List Judge → List Pair → List Int → (List Int → Bool → Option Ret) → Option Ret} {t : List Team} {js : List Judge} {p : Pair} {ps : List Pair} {used : List Int} {f : List Int → Option (List Int)} {k0 : Option Ret} {kf : List Int → Bool → Option Ret}
  (hl : t.length ≤ maxLen) (hN : t.length < N) (h20 : 20 < N) (hj : js.length ≤ 1048700) (hjm : ∀ x ∈ js, x.2.2.length ≤ maxLen ∧ x.2.2.length < N) (hu : used.length ≤ 1000) (huN : used.length < N)
  (hs : ∀ (x : Int) k, self t js ps (used ++ [x]) k = ans (f (used ++ [x])) k) (hfl : ∀ (u : List Int) r, f u = some r → r.length ≤ 1000) : ∀ (k i n : Nat), i + k = js.length → k < n →
  S115_l4 N self t js (p :: ps) used n k0 kf (i : Int) = ansK (seatG t js p used f k i) k0 kf
 | 0, i, n + 1, h, hn => by
  simp only [S115_l4]
  rw [decide_eq_false (by omega)]
  rfl
 | k + 1, i, n + 1, h, hn => by
  have hx := maxLen_eq
  have ih := S115_l4_ok (k0 := k0) (kf := kf) (p := p) hl hN h20 hj hjm hu huN hs hfl k (i + 1) n (by omega) (by omega)
  have ew : IntKind.wrap .i64 ((i : Int) + 1) = ((i + 1 : Nat) : Int) := wrap_succ (m := js.length) (i := i) (by omega) (by omega)
  obtain ⟨d1, d2⟩ := one_cut (p := p) (ps := ps)
  have hi : i < js.length := by omega
  obtain ⟨m1, m2⟩ := hjm js[i] (List.getElem_mem hi)
  simp only [S115_l4]
  rw [decide_eq_true (by omega), cond_true, inB_nat hi, cond_true, S118_ok (by omega) huN]
  unfold seatG
  have eg : js.getD (Int.toNat (i : Int)) zQIILIE = js[i] := getD_nat _ _ hi _
  have eg2 : js.getD i zQIILIE = js[i] := getD_nat _ _ hi _
  rw [eg, eg2]
  cases hasM used js[i].1 with
  | true =>
   simp only [cond_true]
   rw [ew]
   exact ih
  | false =>
   simp only [cond_false]
   rw [cond_true, show inB (0 : Int) (List.length (p :: ps)) = true from inB_nat (i := 0) (by simp), cond_true, S136_ok hl hN m1 m2]
   show (bif !mayJudgeM t js[i] p then _ else _) = _
   cases mayJudgeM t js[i] p with
   | false =>
    simp only [Bool.not_false, cond_true, cond_false]
    rw [ew]
    exact ih
   | true =>
    simp only [Bool.not_true, cond_true, cond_false]
    rw [d1, cond_true, d2, decide_eq_true (by simp; omega), cond_true, decide_eq_true (by simp; omega), cond_true, List.nil_append, hs, ew]
    unfold ans
    cases hr : f (used ++ [js[i].1]) with
    | none => exact ih
    | some r =>
     have := hfl _ _ hr
     simp only [cond_true]
     rw [decide_eq_true (by simp; omega), cond_true]
     rfl
theorem S115_ok {t : List Team} {js : List Judge} {B : Nat} (hl : t.length ≤ maxLen) (hN : t.length < B) (h20 : 20 < B) (hj : js.length ≤ 1048700) (hjN : js.length < B) (hjm : ∀ x ∈ js, x.2.2.length ≤ maxLen ∧ x.2.2.length < B) : ∀ (ps : List Pair) (N : Nat) (used : List Int) (kf : List Int → Bool → Option Ret), used.length + ps.length ≤ 900 → used.length + ps.length < B → B + ps.length + 1 ≤ N → S115 N t js ps used kf = ans (seatM t js ps used) kf
 | ps, 0, used, kf, _, _, h => by omega
 | [], N + 1, used, kf, _, _, _ => rfl
 | p :: ps, N + 1, used, kf, h1, h2, h => by
  simp only [List.length_cons] at h h1 h2
  show S115_b (S115 N) N t js (p :: ps) used kf = _
  unfold S115_b seatM
  have e : ((List.length (p :: ps) : Int) == 0) = false := by simp; omega
  rw [e, cond_false, ← ansK_eq]
  exact S115_l4_ok (N := N) (self := S115 N) (f := seatM t js ps) hl (by omega) (by omega) hj (fun x hx => ⟨(hjm x hx).1, by have := (hjm x hx).2; omega⟩) (by omega) (by omega) (fun x k => S115_ok hl hN h20 hj hjN hjm ps N _ k (by simp; omega) (by simp; omega) (by omega)) (fun u r e => by have := (seatM_ok ps u r e).1; omega) js.length 0 N (by omega) (by omega)
def seatsM (t : List Team) (js : List Judge) (ps : List Pair) : Option (List Int) := bif areJudgesM js && areTeamsM t then seatM t js ps [] else none
theorem S86_ok {N : Nat} {t : List Team} {js : List Judge} {ps : List Pair} {kf : List Int → Bool → Option Ret} (hl : t.length ≤ maxLen) (hm : ∀ x ∈ t, x.met.length ≤ maxLen ∧ x.met.length + 20 < N) (hN : t.length + 20 < N) (h60 : 60 < N) (hj : js.length ≤ 1048700) (hjN : js.length + 20 < N) (hjm : ∀ x ∈ js, x.2.2.length ≤ maxLen ∧ x.2.2.length + 20 < N) (hp : ps.length ≤ 10) : S86 N t js ps kf = ans (seatsM t js ps) kf := by
 have hx := maxLen_eq
 unfold S86 seatsM
 rw [S114_ok (by omega) (fun x hx => ⟨(hjm x hx).1, by have := (hjm x hx).2; omega⟩) (by omega)]
 cases areJudgesM js with
 | false => rfl
 | true =>
  simp only [Bool.not_true, cond_false, Bool.true_and]
  rw [S111_ok hl (fun x hx => ⟨(hm x hx).1, by have := (hm x hx).2; omega⟩) (by omega)]
  cases areTeamsM t with
  | false => rfl
  | true => exact S115_ok (B := N - 15) hl (by omega) (by omega) hj (by omega) (fun x hx => ⟨(hjm x hx).1, by have := (hjm x hx).2; omega⟩) ps N [] kf (by simp; omega) (by simp; omega) (by omega)
def pairC (c : Club) (ps : List Pair) (ss : List Int) : Club := (c.1, (c.2.1, (ps, (ss, (List.replicate ps.length ((0 : Int), ((0 : Int), (0 : Int))), c.2.2.2.2.2)))))
def mayPair (c : Club) : Bool := decide (c.2.2.1.length = 0) && decide (0 < c.1.length)
def stepPairM (c : Club) : Club × Bool := match roundM c.1 with
 | none => (c, false)
 | some ps => match seatsM c.1 c.2.1 ps with
  | none => (c, false)
  | some ss => bif mayPair c then (doneC c (pairC c ps ss) 3 0, doneB c (pairC c ps ss) 3 0) else (c, false)
theorem pairC_ok {c : Club} {N : Nat} {ps : List Pair} {ss : List Int} (h : ClubOK c N) (hp : ps.length ≤ 10) (hs : ss.length ≤ 10) (hN : 60 < N) : ClubOK (pairC c ps ss) N :=
 ⟨h.tl, h.tm, h.tN, h.jl, h.jm, h.jN, by show ps.length ≤ _; omega, by show 2 * ps.length < _; omega, by show ss.length ≤ _; omega, by show ss.length < _; omega, by show (List.replicate _ _).length ≤ _; rw [List.length_replicate]; omega, by show (List.replicate _ _).length < _; rw [List.length_replicate]; omega, h.ml, h.mN, h.n8, h.tb, h.tmb, h.jb, h.jmb⟩
theorem seatsM_len {t : List Team} {js : List Judge} {ps : List Pair} {ss : List Int} (h : seatsM t js ps = some ss) : ss.length = ps.length := by
 unfold seatsM at h
 cases hb : (areJudgesM js && areTeamsM t) with
 | false => rw [hb] at h; simp at h
 | true => rw [hb, cond_true] at h; exact (seatM_ok _ _ _ h).1
theorem S147_ok {N : Nat} {c : Club} {kf : Club → Bool → Option Ret} (h : ClubOK c N) (h' : ClubOK c (N - 40)) (hN : 200 < N) (hl : c.2.2.2.2.2.1.length + 1 < N) : S147 N c kf = kf (stepPairM c).1 (stepPairM c).2 := by
 have hx := maxLen_eq
 have t1 := h'.tN
 have t2 := h'.jN
 have t3 := h'.tm
 have t4 := h'.jm
 have hj := h.jb
 have htm : ∀ x : Team, x ∈ c.1 → x.met.length ≤ maxLen ∧ x.met.length + 20 < N := fun x hx => ⟨(t3 x hx).1, by have := (t3 x hx).2; omega⟩
 have hjm : ∀ x ∈ c.2.1, x.2.2.length ≤ maxLen ∧ x.2.2.length + 20 < N := fun x hx => ⟨(t4 x hx).1, by have := (t4 x hx).2; omega⟩
 have hno : ∀ out what who, S160 N c out false what who kf = kf c false := fun out what who => (S160_ok (out := out) h (fun e => by cases e) hN hl)
 unfold S147 stepPairM
 rw [S49_ok h, S85_ok h.tl htm (by omega) (by omega)]
 unfold ans
 cases hr : roundM c.1 with
 | none =>
  simp only []
  rw [S86_ok h.tl htm (by omega) (by omega) hj (by omega) hjm (by simp)]
  unfold ans
  cases seatsM c.1 c.2.1 [] <;> exact hno _ _ _
 | some ps =>
  obtain ⟨l1, l2⟩ := roundM_len hr
  simp only []
  rw [S86_ok h.tl htm (by omega) (by omega) hj (by omega) hjm (by omega)]
  unfold ans
  have e0 : (decide ((List.length ps : Int) = (List.length ps : Int)) && decide ((0 : Int) ≤ (List.length ps : Int)) && decide ((List.length ps : Int) ≤ 1099511627776)) = true := by
   rw [decide_eq_true rfl, decide_eq_true (by omega), decide_eq_true (by omega)]; rfl
  have e0t : (decide True && decide ((0 : Int) ≤ (List.length ps : Int)) && decide ((List.length ps : Int) ≤ 1099511627776)) = true := by
   rw [decide_eq_true trivial, decide_eq_true (by omega), decide_eq_true (by omega)]; rfl
  cases hs : seatsM c.1 c.2.1 ps with
  | none =>
   simp only []
   first | rw [e0] | rw [e0t]
   exact hno _ _ _
  | some ss =>
   have l3 := seatsM_len hs
   have hd := fun ok => S160_ok (out := pairC c ps ss) (ok := ok) (what := 3) (who := 0) (kf := kf) h (fun _ => pairC_ok h (by omega) (by omega) (by omega)) hN hl
   simp only []
   first | rw [e0] | rw [e0t]
   simp only [cond_true]
   unfold S161 mayPair
   by_cases hrun : c.2.2.1.length = 0
   ·rw [decide_eq_false (show ¬ (List.length c.2.2.1 : Int) > 0 by omega), decide_eq_true hrun]
    simp only [Bool.not_false, cond_true, Bool.true_and]
    have e2 : decide ((List.length c.1 : Int) > (0 : Int)) = decide (0 < c.1.length) := decide_eq_decide.2 (by omega)
    rw [e2]
    refine (hd (decide (0 < c.1.length))).trans ?_
    cases decide (0 < c.1.length) <;> rfl
   ·rw [decide_eq_true (show (List.length c.2.2.1 : Int) > 0 by omega), decide_eq_false hrun]
    exact hno _ _ _
end Go.Pv.R
namespace Go.Pv.R
set_option linter.unusedVariables false
set_option linter.unusedSimpArgs false
def ofM (b : Ballot) : Int := bif decide (b.2.1 > b.2.2) then 1 else 2
theorem ofM_cases (b : Ballot) : ofM b = 1 ∨ ofM b = 2 := by
 unfold ofM
 cases decide (b.2.1 > b.2.2) <;> simp
theorem S189_ok {N : Nat} {b : Ballot} {kf : Int → Option Ret} : S189 N b kf = kf (ofM b) := by
 unfold S189 ofM
 cases decide (b.2.1 > b.2.2) <;> rfl
theorem S186_one {N : Nat} {b : Ballot} {kf : Bool → Option Ret} (hN : 2 < N) : S186 N [b] kf = kf (isBallotM b) := by
 have hm := maxLen_eq
 unfold S186
 rw [S186_l2_r (by simp; omega) (by simp; omega)]
 simp only [goL, S163_ok]
 cases isBallotM b <;> rfl
def voteM (b : Ballot) (k : Int) : Int := bif ofM b == k then 1 else 0
theorem S187_one {N : Nat} {b : Ballot} {k : Int} {kf : Int → Option Ret} (hN : 2 < N) (hb : isBallotM b = true) : S187 N [b] k kf = kf (voteM b k) := by
 have hm := maxLen_eq
 unfold S187 voteM
 rw [S187_l3_r (by simp; omega) (by simp; omega)]
 simp only [goL1, S186_one hN, hb, cond_true, S189_ok]
 cases ofM b == k <;> rfl
theorem S165_one {N : Nat} {b : Ballot} {kf : Int → Option Ret} (hN : 2 < N) (hb : isBallotM b = true) : S165 N [b] kf = kf (ofM b) := by
 unfold S165
 have e : ((List.length [b] : Int) == (0 : Int)) = false := rfl
 rw [e, cond_false, S186_one hN, hb]
 simp only [Bool.not_true, cond_false, S187_one hN hb]
 unfold voteM
 rcases ofM_cases b with h | h <;> rw [h] <;> rfl
def two {α : Type} (t : List α) (i j : Nat) (x y : α) : List α := (t.set i x).set j y
section
variable {α : Type} {t : List α} {i j : Nat} {x y x' y' z : α}
theorem two_len : (two t i j x y).length = t.length := by simp [two]
theorem two_getI (h : i ≠ j) (hi : i < t.length) : (two t i j x y).getD i z = x := by
 rw [List.getD_eq_getElem?_getD, two, List.getElem?_set_ne (by omega), List.getElem?_set_self hi]; rfl
theorem two_getJ (hj : j < t.length) : (two t i j x y).getD j z = y := by
 rw [List.getD_eq_getElem?_getD, two, List.getElem?_set_self (by simpa using hj)]; rfl
theorem two_setI (h : i ≠ j) : (two t i j x y).set i x' = two t i j x' y := by
 unfold two
 rw [List.set_comm _ _ (fun e => h e.symm), List.set_set]
theorem two_setJ : (two t i j x y).set j y' = two t i j x y' := by
 unfold two
 rw [List.set_set]
theorem one_getJ (h : i ≠ j) : (t.set i x).getD j z = t.getD j z := by
 rw [List.getD_eq_getElem?_getD, List.getElem?_set_ne (by omega), ← List.getD_eq_getElem?_getD]
theorem one_two : (t.set i x).set j y = two t i j x y := by rw [two]
end
def newI (t : List Team) (i : Nat) (b d p : Int) : Team := ((t.getD i zQIIIIILIE).1, ((t.getD i zQIIIIILIE).2.1, ((bif d == 1 then IntKind.wrap .i64 ((t.getD i zQIIIIILIE).2.2.1 + 1) else (t.getD i zQIIIIILIE).2.2.1), (IntKind.wrap .i64 ((t.getD i zQIIIIILIE).2.2.2.1 + p), (IntKind.wrap .i64 ((t.getD i zQIIIIILIE).2.2.2.2.1 + 1), (t.getD i zQIIIIILIE).2.2.2.2.2 ++ [b])))))
def newJ2 (t : List Team) (j : Nat) (a d q : Int) : Team := ((t.getD j zQIIIIILIE).1, ((t.getD j zQIIIIILIE).2.1, ((bif d == 1 then (t.getD j zQIIIIILIE).2.2.1 else IntKind.wrap .i64 ((t.getD j zQIIIIILIE).2.2.1 + 1)), (IntKind.wrap .i64 ((t.getD j zQIIIIILIE).2.2.2.1 + q), ((t.getD j zQIIIIILIE).2.2.2.2.1, (t.getD j zQIIIIILIE).2.2.2.2.2 ++ [a])))))
def addT (t : List Team) (a b d p q : Int) : List Team := two t (findT t a).toNat (findT t b).toNat (newI t (findT t a).toNat b d p) (newJ2 t (findT t b).toNat a d q)
def mayAdd (t : List Team) (a b d p q : Int) : Bool := areTeamsM t && (decide (findT t a ≥ 0) && (decide (findT t b ≥ 0) && ((findT t a != findT t b) && (inR d 1 2 && (inR p 0 1000 && inR q 0 1000)))))
def addB2 (t : List Team) (a b d p q : Int) : Bool := mayAdd t a b d p q && areTeamsM (addT t a b d p q)
def addL (t : List Team) (a b d p q : Int) : List Team := bif addB2 t a b d p q then addT t a b d p q else t
theorem addT_mem {t : List Team} {a b d p q : Int} {N : Nat} (ha : findT t a ≥ 0) (hb : findT t b ≥ 0) (h : ∀ x : Team, x ∈ t → x.met.length + 1 < N) : ∀ x : Team, x ∈ addT t a b d p q → x.met.length < N := by
 intro x hx
 unfold addT two at hx
 rcases List.mem_or_eq_of_mem_set hx with hx | rfl
 ·rcases List.mem_or_eq_of_mem_set hx with hx | rfl
  ·have := h x hx; omega
  ·have := h _ (teamM_in ha).1
   show ((t.getD (findT t a).toNat zQIIIIILIE).2.2.2.2.2 ++ [b]).length < N
   rw [List.length_append]; exact this
 ·have := h _ (teamM_in hb).1
  show ((t.getD (findT t b).toNat zQIIIIILIE).2.2.2.2.2 ++ [a]).length < N
  rw [List.length_append]; exact this
theorem S110_ok {N : Nat} {t : List Team} {a b d p q : Int} {kf : List Team → Bool → Option Ret} (hl : t.length ≤ 1048700) (hm : ∀ x : Team, x ∈ t → x.met.length ≤ 1048700 ∧ x.met.length + 1 < N) (hN : t.length < N) : S110 N t a b d p q kf = kf (addL t a b d p q) (addB2 t a b d p q) := by
 have hx := maxLen_eq
 have hm1 : ∀ x ∈ t, x.met.length ≤ maxLen ∧ x.met.length < N := fun x hx => by have := hm x hx; omega
 unfold S110 addL addB2 mayAdd
 rw [S89_ok hl (fun x hx => (hm x hx).1) hN, S131_ok (by omega) hN, S131_ok (by omega) hN, S111_ok (by omega) hm1 hN]
 simp only [S72_ok]
 cases areTeamsM t with
 | false => rfl
 | true =>
  by_cases ha : findT t a ≥ 0
  rotate_left
  ·rw [decide_eq_true (show findT t a < 0 by omega), decide_eq_false ha]; rfl
  by_cases hb : findT t b ≥ 0
  rotate_left
  ·rw [decide_eq_false (show ¬ findT t a < 0 by omega), decide_eq_true ha, decide_eq_true (show findT t b < 0 by omega), decide_eq_false hb]; rfl
  have hT : ∀ x : Team, x ∈ addT t a b d p q → x.met.length < N := addT_mem ha hb fun x hx => (hm x hx).2
  have hT2 : ∀ x : Team, x ∈ addT t a b d p q → x.met.length < 1048800 := addT_mem ha hb fun x hx => by have := (hm x hx).1; omega
  obtain ⟨i, hi, ei, _⟩ := findM_pos (p := fun x : Team => x.1 == a) (l := t) (by unfold findT at ha; omega)
  obtain ⟨j, hj, ej, _⟩ := findM_pos (p := fun x : Team => x.1 == b) (l := t) (by unfold findT at hb; omega)
  have ei : findT t a = (i : Int) := ei
  have ej : findT t b = (j : Int) := ej
  unfold addT at hT hT2 ⊢
  rw [ei, ej] at hT hT2 ⊢
  simp only [Int.toNat_natCast] at hT hT2 ⊢
  rw [decide_eq_true (show (i : Int) ≥ 0 by omega), decide_eq_true (show (j : Int) ≥ 0 by omega), decide_eq_false (show ¬ (i : Int) < 0 by omega), decide_eq_false (show ¬ (j : Int) < 0 by omega)]
  simp only [Bool.not_true, cond_false, Bool.true_and]
  by_cases hij : i = j
  ·subst hij; simp
  have e1 : ((i : Int) == (j : Int)) = false := by simpa using fun e => hij (by omega)
  have e2 : ((i : Int) != (j : Int)) = true := by simp only [bne, e1]; rfl
  rw [e1, e2]
  cases inR d 1 2 with
  | false => rfl
  | true =>
  cases inR p 0 1000 with
  | false => rfl
  | true =>
  cases inR q 0 1000 with
  | false => rfl
  | true =>
  have li := (hm _ (List.getElem_mem hi)).1
  have lj := (hm _ (List.getElem_mem hj)).1
  have gi : t.getD i zQIIIIILIE = t[i] := getD_nat _ _ hi _
  have gj : t.getD j zQIIIIILIE = t[j] := getD_nat _ _ hj _
  have b1 : decide ((List.length (t.getD i zQIIIIILIE).2.2.2.2.2 + List.length [b]) * 1 ≤ 4398046511104) = true := by rw [gi]; exact decide_eq_true (by have : t[i].2.2.2.2.2.length ≤ 1048700 := li; simp; omega)
  have b2 : decide ((List.length (t.getD j zQIIIIILIE).2.2.2.2.2 + List.length [a]) * 1 ≤ 4398046511104) = true := by rw [gj]; exact decide_eq_true (by have : t[j].2.2.2.2.2.length ≤ 1048700 := lj; simp; omega)
  simp only [one_getJ hij, List.length_set, inB_nat hi, inB_nat hj, cond_true, cond_false, Bool.not_true, b1, b2, Nat.beq_refl, share, one_two, two_len, two_getI hij hi, two_getJ hj, two_setI hij, two_setJ, Bool.true_and]
  have hW : (two t i j (newI t i b d p) (newJ2 t j a d q)).length = t.length := two_len
  have key : S110_j1 N t kf (two t i j (newI t i b d p) (newJ2 t j a d q)) = kf (bif areTeamsM (two t i j (newI t i b d p) (newJ2 t j a d q)) then two t i j (newI t i b d p) (newJ2 t j a d q) else t) (areTeamsM (two t i j (newI t i b d p) (newJ2 t j a d q))) := by
   unfold S110_j1
   rw [S111_ok (by omega) (fun x hx => ⟨by have := hT2 x hx; omega, hT x hx⟩) (by omega)]
   cases areTeamsM (two t i j (newI t i b d p) (newJ2 t j a d q)) with
   | false => simp only [Bool.not_false, cond_true, cond_false]; rw [S89_ok hl (fun x hx => (hm x hx).1) hN]
   | true => rfl
  refine Eq.trans ?_ key
  unfold newI newJ2
  cases d == 1 <;> rfl
end Go.Pv.R
namespace Go.Pv
set_option linter.unusedVariables false
theorem findI_map {α β : Type} {f : α → β} {p : β → Bool} : ∀ (l : List α) (i : Nat), findI p (l.map f) i = findI (fun x => p (f x)) l i
 | [], _ => rfl
 | x :: r, i => by
  simp only [List.map_cons, findI, findI_map r]
theorem gatherI_empty {α β : Type} {c : Nat → α → Bool} {f : Nat → α → β} : ∀ (l : List α) (i : Nat), (gatherI c f l i).length = 0 → ∀ (j : Nat) (h : j < l.length), c (i + j) l[j] = false
 | [], i, _, j, h => by simp at h
 | x :: r, i, hl, j, h => by
  simp only [gatherI] at hl
  cases hc : c i x with
  | true => rw [hc] at hl; simp at hl
  | false =>
   rw [hc, cond_false] at hl
   cases j with
   | zero => exact hc
   | succ j => have := gatherI_empty r (i + 1) hl j (by simpa using h); rw [show i + (j + 1) = i + 1 + j by omega]; exact this
end Go.Pv
namespace Go.Pv.R
set_option linter.unusedVariables false
set_option linter.unusedSimpArgs false
theorem findJ_ids {l m : List Judge} {id : Int} (h : l.map (fun x : Judge => x.1) = m.map fun x : Judge => x.1) : findJ l id = findJ m id := by
 unfold findJ findM
 have e : ∀ l : List Judge, findI (fun x : Judge => x.1 == id) l 0 = findI (fun y : Int => y == id) (l.map fun x : Judge => x.1) 0 := fun l => (findI_map (f := fun x : Judge => x.1) (p := fun y : Int => y == id) l 0).symm
 rw [e l, e m, h]
theorem addB2_find {t : List Team} {a b d p q : Int} (h : addB2 t a b d p q = true) : findT t a ≥ 0 ∧ findT t b ≥ 0 := by
 unfold addB2 mayAdd at h
 simp only [Bool.and_eq_true, decide_eq_true_eq] at h
 exact ⟨h.1.2.1, h.1.2.2.1⟩
theorem addL_len {t : List Team} {a b d p q : Int} : (addL t a b d p q).length = t.length := by
 unfold addL
 cases addB2 t a b d p q with
 | false => rfl
 | true => exact two_len
theorem addL_mem {t : List Team} {a b d p q : Int} {M : Nat} (h : ∀ x : Team, x ∈ t → x.met.length ≤ M) : ∀ x : Team, x ∈ addL t a b d p q → x.met.length ≤ M + 1 := by
 intro x hx
 unfold addL at hx
 cases hb : addB2 t a b d p q with
 | false => rw [hb, cond_false] at hx; have := h x hx; omega
 | true =>
  rw [hb, cond_true] at hx
  have := addT_mem (N := M + 2) (addB2_find hb).1 (addB2_find hb).2 (fun x hx => by have := h x hx; omega) x hx
  omega
def putJ (js : List Judge) (k : Nat) (a b : Int) : List Judge := js.set k ((js.getD k zQIILIE).1, ((js.getD k zQIILIE).2.1, putM (putM (js.getD k zQIILIE).2.2 a) b))
theorem putJ_ids {js : List Judge} {k : Nat} {a b : Int} (hk : k < js.length) : (putJ js k a b).map (fun x : Judge => x.1) = js.map fun x : Judge => x.1 := by
 unfold putJ
 rw [List.map_set]
 apply List.ext_getElem (by simp)
 intro i h1 h2
 rw [List.getElem_set]
 split
 ·rename_i e
  subst e
  rw [getD_nat _ _ hk]
  simp
 ·rfl
theorem putJ_mem {js : List Judge} {k : Nat} {a b : Int} {M : Nat} (hk : k < js.length) (h : ∀ x : Judge, x ∈ js → Asc x.2.2 ∧ x.2.2.length ≤ M) : ∀ x : Judge, x ∈ putJ js k a b → Asc x.2.2 ∧ x.2.2.length ≤ M + 2 := by
 intro x hx
 unfold putJ at hx
 rcases List.mem_or_eq_of_mem_set hx with hx | rfl
 ·have := h x hx; exact ⟨this.1, by omega⟩
 ·have := h (js.getD k zQIILIE) (by rw [getD_nat _ _ hk]; exact List.getElem_mem hk)
  have l1 := putM_len (js.getD k zQIILIE).2.2 a
  have l2 := putM_len (putM (js.getD k zQIILIE).2.2 a) b
  refine ⟨putM_asc (putM_asc this.1), ?_⟩
  show (putM (putM (js.getD k zQIILIE).2.2 a) b).length ≤ M + 2
  omega
def balAt (c : Club) (i : Nat) : Ballot := c.2.2.2.2.1.getD i zQIIIE
def seatAt (c : Club) (i : Nat) : Int := c.2.2.2.1.getD i 0
def addOk (c : Club) (i : Nat) (x : Pair) (s : Club) : Bool := addB2 s.1 x.1 x.2 (ofM (balAt c i)) (balAt c i).2.1 (balAt c i).2.2
def closeT (c : Club) (i : Nat) (x : Pair) (s : Club) : Club := (addL s.1 x.1 x.2 (ofM (balAt c i)) (balAt c i).2.1 (balAt c i).2.2, (putJ s.2.1 (findJ s.2.1 (seatAt c i)).toNat x.1 x.2, s.2.2))
def closeM (c : Club) : List Pair → Nat → Club → Bool → Club × Bool
 | [], _, s, ok => (s, ok)
 | x :: r, i, s, ok => closeM c r (i + 1) (closeT c i x s) (ok && addOk c i x s)
structure CloseOK (c : Club) : Prop where
 t10 : c.1.length ≤ 10
 tm : ∀ x : Team, x ∈ c.1 → x.met.length ≤ 20
 j10 : c.2.1.length ≤ 10
 js : ∀ x : Judge, x ∈ c.2.1 → Asc x.2.2 ∧ x.2.2.length ≤ 99
 r10 : c.2.2.1.length ≤ 10
 sl : c.2.2.2.1.length = c.2.2.1.length
 bl : c.2.2.2.2.1.length = c.2.2.1.length
 sf : ∀ i, i < c.2.2.1.length → findJ c.2.1 (seatAt c i) ≥ 0
 bb : ∀ i, i < c.2.2.1.length → isBallotM (balAt c i) = true
structure CloseInv (c : Club) (i : Nat) (s : Club) : Prop where
 tl : s.1.length = c.1.length
 tm : ∀ x : Team, x ∈ s.1 → x.met.length ≤ 20 + i
 ji : s.2.1.map (fun x : Judge => x.1) = c.2.1.map fun x : Judge => x.1
 js : ∀ x : Judge, x ∈ s.2.1 → Asc x.2.2 ∧ x.2.2.length ≤ 99 + 2 * i
 re : s.2.2 = c.2.2
theorem CloseInv.jlen {c s : Club} {i : Nat} (h : CloseInv c i s) : s.2.1.length = c.2.1.length := by
 have := congrArg List.length h.ji
 simpa using this
theorem CloseInv.fjd {c s : Club} {i : Nat} (h : CloseInv c i s) (id : Int) : findJ s.2.1 id = findJ c.2.1 id := findJ_ids h.ji
theorem closeT_inv {c s : Club} {i : Nat} {x : Pair} (hc : CloseOK c) (hi : i < c.2.2.1.length) (h : CloseInv c i s) : CloseInv c (i + 1) (closeT c i x s) := by
 have hf := hc.sf i hi
 rw [← h.fjd] at hf
 have hk := (findJ_in hf).2
 exact ⟨by rw [← h.tl]; exact addL_len, fun y hy => by have := addL_mem h.tm y hy; omega, by rw [← h.ji]; exact putJ_ids hk, fun y hy => by have := putJ_mem hk h.js y hy; exact ⟨this.1, by omega⟩, h.re⟩
theorem closeM_inv {c : Club} (hc : CloseOK c) : ∀ (r : List Pair) (i : Nat) (s : Club) (ok : Bool), i + r.length = c.2.2.1.length → CloseInv c i s → CloseInv c c.2.2.1.length (closeM c r i s ok).1
 | [], i, s, ok, h, hs => by
  simp at h
  subst h
  exact hs
 | x :: r, i, s, ok, h, hs => by
  simp only [List.length_cons] at h
  exact closeM_inv hc r (i + 1) _ _ (by omega) (closeT_inv hc (by omega) hs)
theorem closeM_false {c : Club} : ∀ (r : List Pair) (i : Nat) (s : Club), (closeM c r i s false).2 = false
 | [], i, s => rfl
 | x :: r, i, s => by
  unfold closeM
  rw [Bool.false_and]
  exact closeM_false r (i + 1) _
theorem spec_close_loop {N : Nat} {c : Club} {k : Club → Bool → Option Ret} {body : Nat → Pair → Club → Bool → (Club → Bool → Option Ret) → Option Ret}
  (hb : ∀ (i : Nat) (x : Pair) (s : Club) (ok : Bool) (next : Club → Bool → Option Ret), i < c.2.2.1.length → CloseInv c i s → body i x s ok next = next (closeT c i x s) (ok && addOk c i x s)) (hc : CloseOK c) : ∀ (r : List Pair) (i : Nat) (s : Club) (ok : Bool), i + r.length = c.2.2.1.length → CloseInv c i s → goL2 body k r i s ok = k (closeM c r i s ok).1 (closeM c r i s ok).2
 | [], i, s, ok, h, hs => rfl
 | x :: r, i, s, ok, h, hs => by
  simp only [List.length_cons] at h
  simp only [goL2]
  rw [hb i x s ok _ (by omega) hs]
  exact spec_close_loop (N := N) hb hc r (i + 1) _ _ (by omega) (closeT_inv hc (by omega) hs)
theorem spec_close_body {N : Nat} {c s : Club} {i : Nat} {x : Pair} {next : Club → Bool → Option Ret} {ok : Bool} (hc : CloseOK c) (h200 : 200 < N) (hi : i < c.2.2.1.length) (h : CloseInv c i s) :
  (bif (inB (i : Int) (List.length c.2.2.2.2.1)) then
     S165 N [(List.getD c.2.2.2.2.1 (Int.toNat (i : Int)) zQIIIE)] (fun (r57_11 : Int) =>
      S110 N s.1 x.1 x.2 r57_11 (List.getD c.2.2.2.2.1 (Int.toNat (i : Int)) zQIIIE).2.1 (List.getD c.2.2.2.2.1 (Int.toNat (i : Int)) zQIIIE).2.2 (fun (r62_12 : (List QIIIIILIE)) (r62_13 : Bool) =>
       bif ok then
        bif (inB (i : Int) (List.length c.2.2.2.1)) then
         S166 N s.2.1 (List.getD c.2.2.2.1 (Int.toNat (i : Int)) (0 : Int)) (fun (r78_14 : Int) =>
          bif (inB r78_14 (List.length s.2.1)) then
           S167 N (List.getD s.2.1 (Int.toNat r78_14) zQIILIE).2.2 x.1 (fun (r94_15 : (List Int)) =>
            S167 N r94_15 x.2 (fun (r101_16 : (List Int)) =>
             bif (inB r78_14 (List.length s.2.1)) then
              next (r62_12, ((List.set s.2.1 (Int.toNat r78_14) ((List.getD s.2.1 (Int.toNat r78_14) zQIILIE).1, ((List.getD s.2.1 (Int.toNat r78_14) zQIILIE).2.1, r101_16))), s.2.2)) r62_13
             else none))
          else none)
        else none
       else
        bif (inB (i : Int) (List.length c.2.2.2.1)) then
         S166 N s.2.1 (List.getD c.2.2.2.1 (Int.toNat (i : Int)) (0 : Int)) (fun (r78_17 : Int) =>
          bif (inB r78_17 (List.length s.2.1)) then
           S167 N (List.getD s.2.1 (Int.toNat r78_17) zQIILIE).2.2 x.1 (fun (r94_18 : (List Int)) =>
            S167 N r94_18 x.2 (fun (r101_19 : (List Int)) =>
             bif (inB r78_17 (List.length s.2.1)) then
              next (r62_12, ((List.set s.2.1 (Int.toNat r78_17) ((List.getD s.2.1 (Int.toNat r78_17) zQIILIE).1, ((List.getD s.2.1 (Int.toNat r78_17) zQIILIE).2.1, r101_19))), s.2.2)) false
             else none))
          else none)
        else none))
    else none) = next (closeT c i x s) (ok && addOk c i x s) := by
 have hx := maxLen_eq
 have r10 := hc.r10
 have t10 := hc.t10
 have j10 := hc.j10
 have tl := h.tl
 have jl := h.jlen
 have hf := hc.sf i hi
 rw [← h.fjd] at hf
 obtain ⟨f1, f2⟩ := findJ_in hf
 have eb : List.getD c.2.2.2.2.1 (Int.toNat (i : Int)) zQIIIE = balAt c i := rfl
 have es : List.getD c.2.2.2.1 (Int.toNat (i : Int)) (0 : Int) = seatAt c i := rfl
 have hj := h.js (List.getD s.2.1 (findJ s.2.1 (seatAt c i)).toNat zQIILIE) (by rw [getD_nat _ _ f2]; exact List.getElem_mem f2)
 have l1 := putM_len (List.getD s.2.1 (findJ s.2.1 (seatAt c i)).toNat zQIILIE).2.2 x.1
 rw [eb, es, inB_nat (show i < c.2.2.2.2.1.length by rw [hc.bl]; exact hi), inB_nat (show i < c.2.2.2.1.length by rw [hc.sl]; exact hi), cond_true, S165_one (by omega) (hc.bb i hi), S110_ok (by omega) (fun y hy => by have := h.tm y hy; omega) (by omega)]
 simp only [cond_true, S166_ok (N := N) (l := s.2.1) (id := seatAt c i) (by omega) (by omega), f1, S167_ok (N := N) (l := (List.getD s.2.1 (findJ s.2.1 (seatAt c i)).toNat zQIILIE).2.2) (n := x.1) (by omega) (by omega), S167_ok (N := N) (l := putM (List.getD s.2.1 (findJ s.2.1 (seatAt c i)).toNat zQIILIE).2.2 x.1) (n := x.2) (by omega) (by omega)]
 cases ok with
 | true => rfl
 | false => rfl
end Go.Pv.R
namespace Go.Pv.R
set_option linter.unusedVariables false
set_option linter.unusedSimpArgs false
theorem seen_asc {s : List Int} (h : seenP s = true) : Asc s ∧ s.length ≤ 99 := by
 unfold seenP at h
 rw [allI_iff] at h
 have step : ∀ (i : Nat) (hi : i < s.length), (1 ≤ s[i] ∧ s[i] ≤ 99) ∧ (0 < i → s.getD (i - 1) 0 < s[i]) := fun i hi => by
  have := h i hi
  rw [Nat.zero_add] at this
  simp only [Bool.and_eq_true, Bool.or_eq_true, decide_eq_true_eq, inR_iff] at this
  exact ⟨this.1, fun h0 => by omega⟩
 have mono : ∀ (i : Nat) (hi : i < s.length) (j : Nat) (hj : j < i), s[j]'(by omega) < s[i] := by
  intro i
  induction i with
  | zero => intro hi j hj; omega
  | succ i ih =>
   intro hi j hj
   have h1 := (step (i + 1) hi).2 (by omega)
   rw [Nat.add_sub_cancel, getD_nat _ _ (show i < s.length by omega)] at h1
   rcases Nat.lt_or_eq_of_le (Nat.le_of_lt_succ hj) with h2 | rfl
   ·have := ih (by omega) j h2; omega
   ·exact h1
 have ha : Asc s := List.pairwise_iff_getElem.2 fun j i hj hi hji => mono i hi j hji
 refine ⟨ha, ?_⟩
 have hn : s.Nodup := ha.imp fun h => by omega
 have := nodup_le s ((List.range 100).map fun n : Nat => (n : Int)) hn fun x hx => by
  obtain ⟨i, hi, rfl⟩ := List.mem_iff_getElem.1 hx
  have := (step i hi).1
  exact List.mem_map.2 ⟨s[i].toNat, by rw [List.mem_range]; omega, by omega⟩
 have h0 : (0 : Int) ∉ s := fun hc => by
  obtain ⟨i, hi, e⟩ := List.mem_iff_getElem.1 hc
  have := (step i hi).1
  omega
 have := nodup_le (0 :: s) ((List.range 100).map fun n : Nat => (n : Int)) (List.nodup_cons.2 ⟨h0, hn⟩) fun x hx => by
  rcases List.mem_cons.1 hx with rfl | hx
  ·exact List.mem_map.2 ⟨0, by simp, rfl⟩
  ·obtain ⟨i, hi, rfl⟩ := List.mem_iff_getElem.1 hx
   have := (step i hi).1
   exact List.mem_map.2 ⟨s[i].toNat, by rw [List.mem_range]; omega, by omega⟩
 simp only [List.length_cons, List.length_map, List.length_range] at this
 omega
theorem closeOK {c : Club} (hc : isClubM c = true) (hr : c.2.2.1.length ≠ 0) (hw : (waitM c).length = 0) : CloseOK c := by
 obtain ⟨l1, l2⟩ := isClub_lens hc
 unfold isClubM at hc
 simp only [Bool.and_eq_true, Bool.or_eq_true, decide_eq_true_eq] at hc
 obtain ⟨ht, hj, _, _, _, hs, hb, _⟩ := hc
 have hs : isRoundM c.1 c.2.2.1 = true ∧ areSeatedM c.1 c.2.1 c.2.2.1 c.2.2.2.1 = true := hs.resolve_left hr
 obtain ⟨_, hs⟩ := hs
 unfold areSeatedM at hs
 simp only [Bool.and_eq_true, decide_eq_true_eq] at hs
 obtain ⟨_, _, hs⟩ := hs
 rw [allI_iff] at hs
 unfold areTeamsM at ht
 simp only [Bool.and_eq_true, decide_eq_true_eq] at ht
 obtain ⟨t10, htp, _⟩ := ht
 unfold areJudgesM at hj
 simp only [Bool.and_eq_true, decide_eq_true_eq] at hj
 obtain ⟨j10, hjp⟩ := hj
 rw [allI_iff] at htp hjp hb
 have sP : ∀ i, i < c.2.2.1.length → findJ c.2.1 (seatAt c i) ≥ 0 ∧ hasM (c.2.2.2.1.take i) (seatAt c i) = false := fun i hi => by
  have := hs i hi
  rw [Nat.zero_add] at this
  unfold seatP at this
  simp only [Bool.and_eq_true, decide_eq_true_eq, Bool.not_eq_true'] at this
  exact ⟨this.1, this.2.1⟩
 have hn : c.2.2.2.1.Nodup := List.pairwise_iff_getElem.2 fun i j hi hj hij e => by
  have h1 := (sP j (by omega)).2
  have h2 : hasM (c.2.2.2.1.take j) (seatAt c j) = true := by
   rw [hasM_iff]
   unfold seatAt
   rw [getD_nat _ _ hj, ← e]
   exact List.mem_iff_getElem.2 ⟨i, by rw [List.length_take]; omega, by rw [List.getElem_take]⟩
  rw [h1] at h2
  cases h2
 have hle := nodup_le c.2.2.2.1 (c.2.1.map fun x : Judge => x.1) hn fun x hx => by
  obtain ⟨i, hi, rfl⟩ := List.mem_iff_getElem.1 hx
  have h1 := (sP i (by omega)).1
  unfold seatAt at h1
  rw [getD_nat _ _ hi] at h1
  obtain ⟨k, hk, e, h2, _⟩ := findM_pos (p := fun x : Judge => x.1 == c.2.2.2.1[i]) (l := c.2.1) (by unfold findJ at h1; omega)
  exact List.mem_map.2 ⟨c.2.1[k], List.getElem_mem hk, by simpa using h2⟩
 rw [List.length_map] at hle
 refine ⟨t10, fun x hx => ?_, j10, fun x hx => ?_, by omega, l1, l2, fun i hi => (sP i hi).1, fun i hi => ?_⟩
 ·obtain ⟨i, hi, rfl⟩ := List.mem_iff_getElem.1 hx
  have := htp i hi
  unfold teamP at this
  simp only [Bool.and_eq_true, decide_eq_true_eq] at this
  exact this.2.2.2.2.2.1
 ·obtain ⟨i, hi, rfl⟩ := List.mem_iff_getElem.1 hx
  have := hjp i hi
  unfold judgeP at this
  simp only [Bool.and_eq_true, decide_eq_true_eq] at this
  exact seen_asc this.2.2.2
 ·have hi2 : i < c.2.2.2.2.1.length := by omega
  have h1 := gatherI_empty c.2.2.2.2.1 0 hw i hi2
  have h2 := hb i hi2
  rw [Nat.zero_add] at h2
  unfold ballotP at h2
  simp only [h1, Bool.false_or, Bool.and_eq_true] at h2
  unfold balAt
  rw [getD_nat _ _ hi2]
  exact h2.1
def endC (c s : Club) : Club := (s.1, (s.2.1, ([], ([], ([], (s.2.2.2.2.2.1, IntKind.wrap .i64 (c.2.2.2.2.2.2 + (List.length c.2.2.1 : Int))))))))
def mayClose (c : Club) : Bool := isClubM c && (decide (c.2.2.1.length ≠ 0) && decide ((waitM c).length = 0))
def stepCloseM (c : Club) : Club × Bool := bif mayClose c && (closeM c c.2.2.1 0 c true).2 then (doneC c (endC c (closeM c c.2.2.1 0 c true).1) 5 0, doneB c (endC c (closeM c c.2.2.1 0 c true).1) 5 0) else (c, false)
theorem closeInv0 {c : Club} (hc : CloseOK c) : CloseInv c 0 c := ⟨rfl, fun x hx => by have := hc.tm x hx; omega, rfl, fun x hx => by have := hc.js x hx; exact ⟨this.1, by omega⟩, rfl⟩
theorem endC_ok {c s : Club} {N : Nat} (h : ClubOK c N) (hc : CloseOK c) (hs : CloseInv c c.2.2.1.length s) (hN : 200 < N) : ClubOK (endC c s) N := by
 have hx := maxLen_eq
 have r10 := hc.r10
 have t10 := hc.t10
 have j10 := hc.j10
 have tl := hs.tl
 have jl := hs.jlen
 have ht : ∀ x : Team, x ∈ s.1 → x.met.length ≤ 40 := fun x hx => by have := hs.tm x hx; omega
 have hj : ∀ x : Judge, x ∈ s.2.1 → x.2.2.length ≤ 140 := fun x hx => by have := (hs.js x hx).2; omega
 have hre : s.2.2.2.2.2.1 = c.2.2.2.2.2.1 := by rw [hs.re]
 exact ⟨by show s.1.length ≤ _; omega, fun x hx => ⟨by have := ht x hx; omega, by have := ht x hx; omega⟩, by show s.1.length < _; omega, by show s.2.1.length ≤ _; omega, fun x hx => ⟨by have := hj x hx; omega, by have := hj x hx; omega⟩, by show s.2.1.length < _; omega, by show 0 ≤ _; omega, by show 2 * 0 < _; omega, by show 0 ≤ _; omega, by show 0 < _; omega, by show 0 ≤ _; omega, by show 0 < _; omega, by show s.2.2.2.2.2.1.length ≤ _; rw [hre]; exact h.ml, by show s.2.2.2.2.2.1.length < _; rw [hre]; exact h.mN, h.n8, by show s.1.length ≤ _; omega, fun x hx => by have := ht x hx; omega, by show s.2.1.length ≤ _; omega, fun x hx => by have := hj x hx; omega⟩
theorem pos_len (n : Nat) : decide ((n : Int) > (0 : Int)) = !decide (n = 0) := by
 by_cases h : n = 0
 ·rw [decide_eq_false (by omega), decide_eq_true h]; rfl
 ·rw [decide_eq_true (by omega), decide_eq_false h]; rfl
theorem S149_ok {N : Nat} {c : Club} {kf : Club → Bool → Option Ret} (h : ClubOK c N) (hN : 200 < N) (hl : c.2.2.2.2.2.1.length + 1 < N) : S149 N c kf = kf (stepCloseM c).1 (stepCloseM c).2 := by
 have hx := maxLen_eq
 have hr := h.rl
 have hr2 := h.rN
 unfold S149 stepCloseM mayClose
 rw [S49_ok h, S162_ok h]
 cases hc : isClubM c with
 | false => rfl
 | true =>
  simp only [Bool.not_true, cond_false, Bool.true_and]
  unfold S161
  rw [pos_len]
  by_cases hrun : c.2.2.1.length = 0
  ·rw [decide_eq_true hrun, decide_eq_false (fun e => e hrun)]; rfl
  ·rw [decide_eq_false hrun, decide_eq_true hrun]
   simp only [Bool.not_true, Bool.not_false, cond_false, Bool.true_and]
   rw [S164_ok h, pos_len]
   by_cases hw : (waitM c).length = 0
   rotate_left
   ·rw [decide_eq_false hw]; rfl
   ·rw [decide_eq_true hw]
    have ho := closeOK hc hrun hw
    have hi := closeM_inv ho c.2.2.1 0 c true (by omega) (closeInv0 ho)
    simp only [Bool.not_true, cond_false, Bool.true_and]
    rw [S149_l6_r (by omega) (by omega), spec_close_loop (N := N) (c := c) (fun i x s ok next hi hs => spec_close_body ho hN hi hs) ho c.2.2.1 0 c true (by omega) (closeInv0 ho)]
    refine (S160_ok (out := endC c (closeM c c.2.2.1 0 c true).1) h (fun _ => endC_ok h ho hi hN) hN hl).trans ?_
    cases (closeM c c.2.2.1 0 c true).2 <;> rfl
end Go.Pv.R
namespace Go.Pv.R
set_option linter.unusedVariables false
set_option linter.unusedSimpArgs false
structure Small (c : Club) : Prop where
 t10 : c.1.length ≤ 10
 tm : ∀ x : Team, x ∈ c.1 → x.met.length ≤ 20
 j10 : c.2.1.length ≤ 10
 js : ∀ x : Judge, x ∈ c.2.1 → x.2.2.length ≤ 99
 r10 : c.2.2.1.length ≤ 10
 s10 : c.2.2.2.1.length ≤ 10
 b10 : c.2.2.2.2.1.length ≤ 10
 m200 : c.2.2.2.2.2.1.length ≤ 200
theorem small_of {c : Club} (hc : isClubM c = true) : Small c := by
 obtain ⟨l1, l2⟩ := isClub_lens hc
 unfold isClubM at hc
 simp only [Bool.and_eq_true, Bool.or_eq_true, decide_eq_true_eq] at hc
 obtain ⟨ht, hj, hm, _, _, hs, hb, _⟩ := hc
 unfold areMinM at hm
 simp only [Bool.and_eq_true, decide_eq_true_eq] at hm
 unfold areTeamsM at ht
 simp only [Bool.and_eq_true, decide_eq_true_eq] at ht
 obtain ⟨t10, htp, _⟩ := ht
 unfold areJudgesM at hj
 simp only [Bool.and_eq_true, decide_eq_true_eq] at hj
 obtain ⟨j10, hjp⟩ := hj
 rw [allI_iff] at htp hjp
 have r10 : c.2.2.1.length ≤ 10 := by
  rcases hs with hs | hs
  ·omega
  ·have hs : areSeatedM c.1 c.2.1 c.2.2.1 c.2.2.2.1 = true := hs.2
   unfold areSeatedM at hs
   simp only [Bool.and_eq_true, decide_eq_true_eq] at hs
   obtain ⟨_, _, hs⟩ := hs
   rw [allI_iff] at hs
   have sP : ∀ i, i < c.2.2.1.length → findJ c.2.1 (seatAt c i) ≥ 0 ∧ hasM (c.2.2.2.1.take i) (seatAt c i) = false := fun i hi => by
    have := hs i hi
    rw [Nat.zero_add] at this
    unfold seatP at this
    simp only [Bool.and_eq_true, decide_eq_true_eq, Bool.not_eq_true'] at this
    exact ⟨this.1, this.2.1⟩
   have hn : c.2.2.2.1.Nodup := List.pairwise_iff_getElem.2 fun i j hi hj hij e => by
    have h1 := (sP j (by omega)).2
    have h2 : hasM (c.2.2.2.1.take j) (seatAt c j) = true := by
     rw [hasM_iff]
     unfold seatAt
     rw [getD_nat _ _ hj, ← e]
     exact List.mem_iff_getElem.2 ⟨i, by rw [List.length_take]; omega, by rw [List.getElem_take]⟩
    rw [h1] at h2
    cases h2
   have hle := nodup_le c.2.2.2.1 (c.2.1.map fun x : Judge => x.1) hn fun x hx => by
    obtain ⟨i, hi, rfl⟩ := List.mem_iff_getElem.1 hx
    have h1 := (sP i (by omega)).1
    unfold seatAt at h1
    rw [getD_nat _ _ hi] at h1
    obtain ⟨k, hk, e, h2, _⟩ := findM_pos (p := fun x : Judge => x.1 == c.2.2.2.1[i]) (l := c.2.1) (by unfold findJ at h1; omega)
    exact List.mem_map.2 ⟨c.2.1[k], List.getElem_mem hk, by simpa using h2⟩
   rw [List.length_map] at hle
   omega
 refine ⟨t10, fun x hx => ?_, j10, fun x hx => ?_, r10, by omega, by omega, hm.1⟩
 ·obtain ⟨i, hi, rfl⟩ := List.mem_iff_getElem.1 hx
  have := htp i hi
  unfold teamP at this
  simp only [Bool.and_eq_true, decide_eq_true_eq] at this
  exact this.2.2.2.2.2.1
 ·obtain ⟨i, hi, rfl⟩ := List.mem_iff_getElem.1 hx
  have := hjp i hi
  unfold judgeP at this
  simp only [Bool.and_eq_true, decide_eq_true_eq] at this
  exact (seen_asc this.2.2.2).2
theorem Small.okC {c : Club} {N : Nat} (h : Small c) (hN : 300 < N) : ClubOK c N := by
 have hx := maxLen_eq
 obtain ⟨h1, h2, h3, h4, h5, h6, h7, h8⟩ := h
 exact ⟨by omega, fun x hx => by have := h2 x hx; omega, by omega, by omega, fun x hx => by have := h4 x hx; omega, by omega, by omega, by omega, by omega, by omega, by omega, by omega, by omega, by omega, by omega, by omega, fun x hx => by have := h2 x hx; omega, by omega, fun x hx => by have := h4 x hx; omega⟩
structure EvOK (c : Club) (N : Nat) : Prop where
 ok : ClubOK c N
 ok' : ClubOK c (N - 40)
 tb : c.1.length ≤ 1048576
 tN : c.1.length + 1 < N
 jb : c.2.1.length ≤ 1048576
 jN : c.2.1.length + 1 < N
 mN : c.2.2.2.2.2.1.length + 1 < N
 N2 : 200 < N
theorem Small.evC {c : Club} {N : Nat} (h : Small c) (hN : 400 < N) : EvOK c N :=
 ⟨h.okC (by omega), h.okC (by omega), by have := h.t10; omega, by have := h.t10; omega, by have := h.j10; omega, by have := h.j10; omega, by have := h.m200; omega, by omega⟩
def onB (b : Bool) (c : Club) (r : Club × Bool) : Club × Bool := bif b then r else (c, false)
def doneP (c out : Club) (what who : Int) : Club × Bool := (doneC c out what who, doneB c out what who)
def applyM (c : Club) (e : QIIIIE) : Club × Bool :=
 bif e.1 == 1 then onB (decide (c.2.2.1.length = 0)) c (doneP c (joinC c e.2.1 e.2.2.1) 1 e.2.1)
 else bif e.1 == 2 then doneP c (enterC c e.2.1 e.2.2.1) 2 e.2.1
 else bif e.1 == 3 then stepPairM c
 else bif e.1 == 4 then onB (mayCast c e.2.2.2 e.2.1 e.2.2.1) c (doneP c (castC c e.2.2.2 e.2.1 e.2.2.1) 4 (castM c e.2.2.2 e.2.1 e.2.2.1).1)
 else bif e.1 == 5 then stepCloseM c
 else bif e.1 == 6 then onB (mayLeave c e.2.1) c (doneP c (leaveC c e.2.1) 6 e.2.1)
 else (c, false)
theorem onB_k {b : Bool} {c : Club} {r : Club × Bool} {k : Club → Bool → Option Ret} : (bif b then k r.1 r.2 else k c false) = k (onB b c r).1 (onB b c r).2 := by
 unfold onB
 cases b <;> rfl
theorem S124_ok {N : Nat} {c : Club} {e : QIIIIE} {kf : Club → Bool → Option Ret} (h : EvOK c N) : S124 N c e kf = kf (applyM c e).1 (applyM c e).2 := by
 unfold S124 applyM
 cases e.1 == 1
 rotate_left
 ·exact (S145_ok h.ok h.tb h.tN h.N2 h.mN).trans (onB_k (c := c) (r := doneP c (joinC c e.2.1 e.2.2.1) 1 e.2.1) (k := kf))
 cases e.1 == 2
 rotate_left
 ·exact S146_ok h.ok h.jb h.jN h.N2 h.mN
 cases e.1 == 3
 rotate_left
 ·exact S147_ok h.ok h.ok' h.N2 h.mN
 cases e.1 == 4
 rotate_left
 ·exact (S148_ok h.ok h.N2 h.mN).trans (onB_k (c := c) (r := doneP c (castC c e.2.2.2 e.2.1 e.2.2.1) 4 (castM c e.2.2.2 e.2.1 e.2.2.1).1) (k := kf))
 cases e.1 == 5
 rotate_left
 ·exact S149_ok h.ok h.N2 h.mN
 cases e.1 == 6
 rotate_left
 ·exact (S150_ok h.ok h.N2 h.mN).trans (onB_k (c := c) (r := doneP c (leaveC c e.2.1) 6 e.2.1) (k := kf))
 ·simp only [cond_false]
  rw [S49_ok h.ok]
def Kept (c : Club) (r : Club × Bool) : Prop := (r.1 = c ∧ r.2 = false) ∨ (isClubM r.1 = true ∧ r.2 = true)
theorem doneP_kept (c out : Club) (what who : Int) : Kept c (doneP c out what who) := by
 unfold doneP Kept doneC
 cases hd : doneB c out what who with
 | false => exact .inl ⟨rfl, rfl⟩
 | true =>
  unfold doneB at hd
  simp only [Bool.and_eq_true] at hd
  exact .inr ⟨hd.2.2, rfl⟩
theorem onB_kept {b : Bool} {c : Club} {r : Club × Bool} (h : Kept c r) : Kept c (onB b c r) := by
 unfold onB
 cases b with
 | false => exact .inl ⟨rfl, rfl⟩
 | true => exact h
theorem applyM_kept (c : Club) (e : QIIIIE) : Kept c (applyM c e) := by
 unfold applyM
 cases e.1 == 1
 rotate_left
 ·exact onB_kept (doneP_kept _ _ _ _)
 cases e.1 == 2
 rotate_left
 ·exact doneP_kept _ _ _ _
 cases e.1 == 3
 rotate_left
 ·show Kept c (stepPairM c)
  unfold stepPairM
  cases roundM c.1 with
  | none => exact .inl ⟨rfl, rfl⟩
  | some ps =>
   simp only []
   cases seatsM c.1 c.2.1 ps with
   | none => exact .inl ⟨rfl, rfl⟩
   | some ss => exact onB_kept (doneP_kept _ _ _ _)
 cases e.1 == 4
 rotate_left
 ·exact onB_kept (doneP_kept _ _ _ _)
 cases e.1 == 5
 rotate_left
 ·exact onB_kept (doneP_kept _ _ _ _)
 cases e.1 == 6
 rotate_left
 ·exact onB_kept (doneP_kept _ _ _ _)
 ·exact .inl ⟨rfl, rfl⟩
def runM (c : Club) (l : List QIIIIE) : Club := l.foldl (fun s e => (applyM s e).1) c
def RunInv (c s : Club) : Prop := s = c ∨ isClubM s = true
theorem RunInv.stp {c s : Club} (e : QIIIIE) (h : RunInv c s) : RunInv c (applyM s e).1 := by
 rcases applyM_kept s e with ⟨h1, _⟩ | ⟨h1, _⟩
 ·rw [h1]; exact h
 ·exact .inr h1
theorem RunInv.evR {c s : Club} {N : Nat} (h : RunInv c s) (hc : EvOK c N) (hN : 400 < N) : EvOK s N := by
 rcases h with rfl | h
 ·exact hc
 ·exact (small_of h).evC hN
theorem S100_ok {N : Nat} {c : Club} {l : List QIIIIE} {kf : Club → Option Ret} (hc : EvOK c N) (hN : 400 < N) (hl : l.length ≤ 1048576) (hlN : l.length < N) : S100 N c l kf = kf (runM c l) := by
 have hx := maxLen_eq
 unfold S100 runM
 rw [S49_ok hc.ok, S100_l3_r (by omega) hlN]
 exact goL1_inv (l := l) (g := fun s e => (applyM s e).1) (Inv := fun _ s => RunInv c s) (fun i s next h hs => ⟨by rw [S124_ok (hs.evR hc hN)], hs.stp _⟩) l 0 c rfl (.inl rfl)
end Go.Pv.R
namespace Go.Pv.R
set_option linter.unusedVariables false
set_option linter.unusedSimpArgs false
end Go.Pv.R
namespace Go.Pv.R
set_option linter.unusedVariables false
set_option linter.unusedSimpArgs false
end Go.Pv.R
namespace Go.Pv.R
set_option linter.unusedVariables false
set_option linter.unusedSimpArgs false
end Go.Pv.R
namespace Go.Pv.R
set_option linter.unusedVariables false
set_option linter.unusedSimpArgs false
end Go.Pv.R
namespace Go.Pv.R
set_option linter.unusedVariables false
set_option linter.unusedSimpArgs false
end Go.Pv.R
namespace Go.Pv.R
set_option linter.unusedVariables false
set_option linter.unusedSimpArgs false
end Go.Pv.R
namespace Go.Pv.R
set_option linter.unusedVariables false
set_option linter.unusedSimpArgs false
end Go.Pv.R
namespace Go.Pv.R
set_option linter.unusedVariables false
set_option linter.unusedSimpArgs false
def isum {α : Type} (g : α → Int) : List α → Int
 | [] => 0
 | x :: r => g x + isum g r
theorem isum_app {α : Type} (g : α → Int) : ∀ (a b : List α), isum g (a ++ b) = isum g a + isum g b
 | [], b => by simp [isum]
 | x :: a, b => by simp only [List.cons_append, isum, isum_app g a b]; omega
theorem isum_set {α : Type} (g : α → Int) (y z : α) : ∀ (l : List α) (i : Nat), i < l.length → isum g (l.set i y) = isum g l - g (l.getD i z) + g y
 | [], i, h => by simp at h
 | x :: r, 0, h => by simp only [List.set_cons_zero, isum, List.getD_cons_zero]; omega
 | x :: r, i + 1, h => by
  simp only [List.set_cons_succ, isum, List.getD_cons_succ]
  rw [isum_set g y z r i (by simpa using h)]
  omega
def metN (x : Team) : Int := (x.met.length : Int)
structure Fair (t : List Team) : Prop where
 nd : ∀ x : Team, x ∈ t → x.met.Nodup
 df : ∀ x y : Team, x ∈ t → y ∈ t → y.1 ∈ x.met → x.2.1 ≠ y.2.1
 w : 2 * isum (fun x : Team => x.2.2.1) t = isum metN t
 f : 2 * isum (fun x : Team => x.2.2.2.2.1) t = isum metN t
structure TeamIs (t : List Team) (x : Team) : Prop where
 w : 0 ≤ x.2.2.1 ∧ x.2.2.1 ≤ x.met.length
 f : 0 ≤ x.2.2.2.2.1 ∧ x.2.2.2.2.1 ≤ x.met.length
 p : 0 ≤ x.2.2.2.1 ∧ x.2.2.2.1 ≤ 100000
 m : x.met.length ≤ 20
 s : ∀ id, id ∈ x.met → id ≠ x.1 ∧ ∃ y : Team, y ∈ t ∧ y.1 = id ∧ x.1 ∈ y.met
theorem team_is {t : List Team} (h : areTeamsM t = true) {x : Team} (hx : x ∈ t) : TeamIs t x := by
 have hm := maxLen_eq
 unfold areTeamsM at h
 simp only [Bool.and_eq_true, decide_eq_true_eq] at h
 obtain ⟨_, h1, h2⟩ := h
 rw [allI_iff] at h1 h2
 have m20 : ∀ y : Team, y ∈ t → y.met.length ≤ 20 := fun y hy => by
  obtain ⟨i, hi, rfl⟩ := List.mem_iff_getElem.1 hy
  have := h1 i hi
  unfold teamP at this
  simp only [Bool.and_eq_true, decide_eq_true_eq] at this
  exact this.2.2.2.2.2.1
 obtain ⟨i, hi, rfl⟩ := List.mem_iff_getElem.1 hx
 have a := h1 i hi
 have b := h2 i hi
 unfold teamP at a
 simp only [Bool.and_eq_true, decide_eq_true_eq, inR_iff] at a
 rw [List.all_eq_true] at b
 refine ⟨a.2.2.1, a.2.2.2.1, a.2.2.2.2.1, a.2.2.2.2.2.1, fun id hid => ?_⟩
 have c := b id hid
 unfold metP at c
 simp only [Bool.and_eq_true, Bool.not_eq_true', decide_eq_false_iff_not, beq_eq_false_iff_ne, beq_iff_eq] at c
 obtain ⟨c1, c2, c3⟩ := c
 refine ⟨c2, ?_⟩
 obtain ⟨k, hk, e, h3, _⟩ := findM_pos (p := fun x : Team => x.1 == id) (l := t) (by unfold findT at c1; omega)
 have e : findT t id = (k : Int) := e
 rw [e, Int.toNat_natCast, getD_nat _ _ hk] at c3
 rw [countM_eq (by have := m20 _ hx; omega), countM_eq (by have := m20 _ (List.getElem_mem hk); omega)] at c3
 refine ⟨t[k], List.getElem_mem hk, by simpa using h3, ?_⟩
 have : 0 < List.count id (t[i].met) := List.count_pos_iff.2 hid
 exact List.count_pos_iff.1 (by omega)
theorem same_team {t : List Team} (h : areTeamsM t = true) {x y : Team} (hx : x ∈ t) (hy : y ∈ t) (e : x.1 = y.1) : x = y := by
 have hn := teams_nodup h
 obtain ⟨i, hi, rfl⟩ := List.mem_iff_getElem.1 hx
 obtain ⟨j, hj, rfl⟩ := List.mem_iff_getElem.1 hy
 have := (List.nodup_iff_pairwise_ne.1 hn)
 by_cases hij : i = j
 ·subst hij; rfl
 ·exfalso
  have hp := List.pairwise_iff_getElem.1 hn
  unfold teamIds at hp
  rcases Nat.lt_or_gt_of_ne hij with hlt | hlt
  ·exact hp i j (by simpa using hi) (by simpa using hj) hlt (by simpa using e)
  ·exact hp j i (by simpa using hj) (by simpa using hi) hlt (by simpa using e.symm)
def Clean (t : List Team) (a b : Int) : Prop := a ≠ b ∧ ∀ x y : Team, x ∈ t → y ∈ t → x.1 = a → y.1 = b → b ∉ x.met ∧ a ∉ y.met ∧ x.2.1 ≠ y.2.1
theorem addT_is {t : List Team} {a b d p q : Int} (h : areTeamsM t = true) (ha : findT t a ≥ 0) (hb : findT t b ≥ 0) (hab : a ≠ b) : ∃ (i j : Nat) (hi : i < t.length) (hj : j < t.length), i ≠ j ∧ t[i].1 = a ∧ t[j].1 = b ∧ addT t a b d p q = (t.set i (newI t i b d p)).set j (newJ2 t j a d q) := by
 obtain ⟨i, hi, e1, h1, _⟩ := findM_pos (p := fun x : Team => x.1 == a) (l := t) (by unfold findT at ha; omega)
 obtain ⟨j, hj, e2, h2, _⟩ := findM_pos (p := fun x : Team => x.1 == b) (l := t) (by unfold findT at hb; omega)
 have e1 : findT t a = (i : Int) := e1
 have e2 : findT t b = (j : Int) := e2
 refine ⟨i, j, hi, hj, fun e => ?_, by simpa using h1, by simpa using h2, ?_⟩
 ·subst e
  have h1 : t[i].1 = a := by simpa using h1
  have h2 : t[i].1 = b := by simpa using h2
  exact hab (h1.symm.trans h2)
 ·unfold addT two
  rw [e1, e2, Int.toNat_natCast, Int.toNat_natCast]
theorem addT_from {t : List Team} {a b d p q : Int} (h : areTeamsM t = true) (ha : findT t a ≥ 0) (hb : findT t b ≥ 0) (hab : a ≠ b) {x : Team} (hx : x ∈ addT t a b d p q) :
  ∃ y : Team, y ∈ t ∧ x.1 = y.1 ∧ x.2.1 = y.2.1 ∧ ((x.met = y.met ∧ x.1 ≠ a ∧ x.1 ≠ b) ∨ (y.1 = a ∧ x.met = y.met ++ [b]) ∨ (y.1 = b ∧ x.met = y.met ++ [a])) := by
 obtain ⟨i, j, hi, hj, hij, hia, hjb, e⟩ := addT_is (d := d) (p := p) (q := q) h ha hb hab
 rw [e] at hx
 obtain ⟨k, hk, rfl⟩ := List.mem_iff_getElem.1 hx
 have hk' : k < t.length := by simpa using hk
 rw [List.getElem_set]
 by_cases hjk : j = k
 ·subst hjk
  rw [if_pos rfl]
  refine ⟨t[j], List.getElem_mem hj, ?_, ?_, .inr (.inr ⟨hjb, ?_⟩)⟩ <;> unfold newJ2 <;> rw [getD_nat _ _ hj]
 ·rw [if_neg hjk, List.getElem_set]
  by_cases hik : i = k
  ·subst hik
   rw [if_pos rfl]
   refine ⟨t[i], List.getElem_mem hi, ?_, ?_, .inr (.inl ⟨hia, ?_⟩)⟩ <;> unfold newI <;> rw [getD_nat _ _ hi]
  ·rw [if_neg hik]
   refine ⟨t[k], List.getElem_mem hk', rfl, rfl, .inl ⟨rfl, fun e => ?_, fun e => ?_⟩⟩
   ·have := same_team h (List.getElem_mem hk') (List.getElem_mem hi) (e.trans hia.symm)
    have hp := List.pairwise_iff_getElem.1 (teams_nodup h)
    unfold teamIds at hp
    rcases Nat.lt_or_gt_of_ne hik with hlt | hlt
    ·exact hp i k (by simpa using hi) (by simpa using hk') hlt (by simp [this])
    ·exact hp k i (by simpa using hk') (by simpa using hi) hlt (by simp [this])
   ·have := same_team h (List.getElem_mem hk') (List.getElem_mem hj) (e.trans hjb.symm)
    have hp := List.pairwise_iff_getElem.1 (teams_nodup h)
    unfold teamIds at hp
    rcases Nat.lt_or_gt_of_ne hjk with hlt | hlt
    ·exact hp j k (by simpa using hj) (by simpa using hk') hlt (by simp [this])
    ·exact hp k j (by simpa using hk') (by simpa using hj) hlt (by simp [this])
theorem addT_sum {t : List Team} {a b d p q : Int} {g : Team → Int} {n : Int} (h : areTeamsM t = true) (ha : findT t a ≥ 0) (hb : findT t b ≥ 0) (hab : a ≠ b) (hg : ∀ (i j : Nat), i < t.length → j < t.length → g (newI t i b d p) + g (newJ2 t j a d q) = g (t.getD i zQIIIIILIE) + g (t.getD j zQIIIIILIE) + n) : isum g (addT t a b d p q) = isum g t + n := by
 obtain ⟨i, j, hi, hj, hij, hia, hjb, e⟩ := addT_is (d := d) (p := p) (q := q) h ha hb hab
 have := hg i j hi hj
 rw [e, isum_set g _ zQIIIIILIE _ _ (by simpa using hj), isum_set g _ zQIIIIILIE _ _ hi, one_getJ hij]
 omega
theorem addT_fair {t : List Team} {a b d p q : Int} (h : areTeamsM t = true) (ha : findT t a ≥ 0) (hb : findT t b ≥ 0) (hd : d = 1 ∨ d = 2) (hc : Clean t a b) (hF : Fair t) : Fair (addT t a b d p q) := by
 obtain ⟨hab, hc⟩ := hc
 have met20 : ∀ i, i < t.length → ((t.getD i zQIIIIILIE).met.length ≤ 20) ∧ (0 ≤ (t.getD i zQIIIIILIE).2.2.1 ∧ (t.getD i zQIIIIILIE).2.2.1 ≤ 20) ∧ (0 ≤ (t.getD i zQIIIIILIE).2.2.2.2.1 ∧ (t.getD i zQIIIIILIE).2.2.2.2.1 ≤ 20) := fun i hi => by
  have := team_is h (x := t.getD i zQIIIIILIE) (by rw [getD_nat _ _ hi]; exact List.getElem_mem hi)
  have h1 := this.w; have h2 := this.f; have h3 := this.m
  omega
 refine ⟨fun x hx => ?_, fun x y hx hy hxy => ?_, ?_, ?_⟩
 ·obtain ⟨u, hu, e1, e2, e3⟩ := addT_from h ha hb hab hx
  obtain ⟨z1, hz1, f1⟩ : ∃ z ∈ t, z.1 = a := ⟨_, (teamM_in ha).1, (teamM_in ha).2⟩
  obtain ⟨z2, hz2, f2⟩ : ∃ z ∈ t, z.1 = b := ⟨_, (teamM_in hb).1, (teamM_in hb).2⟩
  have hn := hF.nd u hu
  rcases e3 with ⟨e3, _⟩ | ⟨e3, e4⟩ | ⟨e3, e4⟩
  ·rw [e3]; exact hn
  ·rw [e4]
   have := (hc u z2 hu hz2 e3 f2).1
   exact List.nodup_append.2 ⟨hn, by simp, fun c hc' d hd e => by simp at hd; subst hd; subst e; exact this hc'⟩
  ·rw [e4]
   have := (hc z1 u hz1 hu f1 e3).2.1
   exact List.nodup_append.2 ⟨hn, by simp, fun c hc' d hd e => by simp at hd; subst hd; subst e; exact this hc'⟩
 ·obtain ⟨u, hu, e1, e2, e3⟩ := addT_from h ha hb hab hx
  obtain ⟨v, hv, f1, f2, _⟩ := addT_from h ha hb hab hy
  rw [e2, f2]
  rw [f1] at hxy
  rcases e3 with ⟨e3, _⟩ | ⟨e3, e4⟩ | ⟨e3, e4⟩
  ·exact hF.df u v hu hv (by rw [← e3]; exact hxy)
  ·rw [e4, List.mem_append, List.mem_singleton] at hxy
   rcases hxy with hxy | hxy
   ·exact hF.df u v hu hv hxy
   ·exact (hc u v hu hv e3 hxy).2.2
  ·rw [e4, List.mem_append, List.mem_singleton] at hxy
   rcases hxy with hxy | hxy
   ·exact hF.df u v hu hv hxy
   ·exact fun e => (hc v u hv hu hxy e3).2.2 e.symm
 all_goals
  have hm : isum metN (addT t a b d p q) = isum metN t + 2 := addT_sum h ha hb hab fun i j hi hj => by
   show (((t.getD i zQIIIIILIE).2.2.2.2.2 ++ [b]).length : Int) + (((t.getD j zQIIIIILIE).2.2.2.2.2 ++ [a]).length : Int) = ((t.getD i zQIIIIILIE).2.2.2.2.2.length : Int) + ((t.getD j zQIIIIILIE).2.2.2.2.2.length : Int) + 2
   simp only [List.length_append, List.length_cons, List.length_nil]
   omega
  rw [hm]
 ·rw [addT_sum (g := fun x : Team => x.2.2.1) (n := 1) h ha hb hab fun i j hi hj => by
   have h1 := met20 i hi
   have h2 := met20 j hj
   show (bif d == 1 then IntKind.wrap .i64 ((t.getD i zQIIIIILIE).2.2.1 + 1) else (t.getD i zQIIIIILIE).2.2.1) + (bif d == 1 then (t.getD j zQIIIIILIE).2.2.1 else IntKind.wrap .i64 ((t.getD j zQIIIIILIE).2.2.1 + 1)) = (t.getD i zQIIIIILIE).2.2.1 + (t.getD j zQIIIIILIE).2.2.1 + 1
   rw [wrap64 (by omega) (by omega), wrap64 (by omega) (by omega)]
   cases d == 1 <;> simp <;> omega]
  have := hF.w
  omega
 ·rw [addT_sum (g := fun x : Team => x.2.2.2.2.1) (n := 1) h ha hb hab fun i j hi hj => by
   have h1 := met20 i hi
   show IntKind.wrap .i64 ((t.getD i zQIIIIILIE).2.2.2.2.1 + 1) + (t.getD j zQIIIIILIE).2.2.2.2.1 = (t.getD i zQIIIIILIE).2.2.2.2.1 + (t.getD j zQIIIIILIE).2.2.2.2.1 + 1
   rw [wrap64 (by omega) (by omega)]
   omega]
  have := hF.f
  omega
theorem addT_clean {t : List Team} {a b d p q a' b' : Int} (h : areTeamsM t = true) (ha : findT t a ≥ 0) (hb : findT t b ≥ 0) (hab : a ≠ b) (h1 : a' ≠ a ∧ a' ≠ b) (h2 : b' ≠ a ∧ b' ≠ b) (hc : Clean t a' b') : Clean (addT t a b d p q) a' b' := by
 refine ⟨hc.1, fun x y hx hy ex ey => ?_⟩
 obtain ⟨u, hu, e1, e2, e3⟩ := addT_from h ha hb hab hx
 obtain ⟨v, hv, f1, f2, f3⟩ := addT_from h ha hb hab hy
 have := hc.2 u v hu hv (e1.symm.trans ex) (f1.symm.trans ey)
 have e4 : x.met = u.met := by
  rcases e3 with e3 | e3 | e3
  ·exact e3.1
  ·exact absurd (ex.symm.trans (e1.trans e3.1)) h1.1
  ·exact absurd (ex.symm.trans (e1.trans e3.1)) h1.2
 have f4 : y.met = v.met := by
  rcases f3 with f3 | f3 | f3
  ·exact f3.1
  ·exact absurd (ey.symm.trans (f1.trans f3.1)) h2.1
  ·exact absurd (ey.symm.trans (f1.trans f3.1)) h2.2
 rw [e4, f4, e2, f2]
 exact this
theorem mayMeet_clean {t : List Team} {a b : Int} (h : mayMeetM t a b = true) : Clean t a b := by
 obtain ⟨hT, _, _, hab⟩ := mayMeet_ids h
 unfold mayMeetM at h
 simp only [Bool.and_eq_true, decide_eq_true_eq, Bool.not_eq_true', bne_iff_ne, ne_eq] at h
 obtain ⟨_, ha, hb, _, hcl, hm⟩ := h
 refine ⟨hab, fun x y hx hy ex ey => ?_⟩
 have fx : (t.getD (findT t a).toNat zQIIIIILIE) = x := same_team hT (teamM_in ha).1 hx ((teamM_in ha).2.trans ex.symm)
 have fy : (t.getD (findT t b).toNat zQIIIIILIE) = y := same_team hT (teamM_in hb).1 hy ((teamM_in hb).2.trans ey.symm)
 unfold haveMetM metT at hm
 unfold clubT at hcl
 rw [fx, fy] at hcl
 rw [fx, decide_eq_true ha, Bool.true_and] at hm
 have h1 : b ∉ x.met := fun hc => by
  have := hasM_iff.2 hc
  rw [hm] at this
  cases this
 refine ⟨h1, fun hc => ?_, hcl⟩
 obtain ⟨_, z, hz, ez, hz2⟩ := (team_is hT hy).s a hc
 have : z = x := same_team hT hz hx (ez.trans ex.symm)
 subst this
 rw [ey] at hz2
 exact h1 hz2
theorem round_ids {t : List Team} {r : List Pair} (h : isRoundM t r = true) : (idsOf r).Nodup := by
 unfold isRoundM at h
 rw [Bool.and_eq_true, List.all_eq_true, List.all_eq_true] at h
 cases r with
 | nil => simp [idsOf]
 | cons p r =>
  have hT := (mayMeet_ids (h.1 p (by simp))).1
  refine ((once_iff (teams_nodup hT) fun x hx => ?_).1 fun x hx => ?_).1
  ·unfold idsOf at hx
   obtain ⟨q, hq, hx⟩ := List.mem_flatMap.1 hx
   obtain ⟨_, h1, h2, _⟩ := mayMeet_ids (h.1 q hq)
   simp at hx
   rcases hx with rfl | rfl
   ·exact h1
   ·exact h2
  ·obtain ⟨y, hy, rfl⟩ := List.mem_map.1 hx
   have := h.2 y hy
   simpa using this
theorem closeM_fair {c : Club} : ∀ (r : List Pair) (i : Nat) (s : Club) (ok : Bool), Fair s.1 → (∀ p ∈ r, Clean s.1 p.1 p.2) → (idsOf r).Nodup → (closeM c r i s ok).2 = true → Fair (closeM c r i s ok).1.1
 | [], i, s, ok, hF, _, _, _ => hF
 | x :: r, i, s, ok, hF, hC, hN, ho => by
  unfold closeM at ho ⊢
  cases hb : addOk c i x s with
  | false => rw [hb, Bool.and_false, closeM_false] at ho; cases ho
  | true =>
   rw [hb] at ho
   have hb2 := hb
   unfold addOk at hb2
   have hf := addB2_find hb2
   have hT : areTeamsM s.1 = true := by
    have := hb2
    unfold addB2 mayAdd at this
    simp only [Bool.and_eq_true] at this
    exact this.1.1
   have hx := hC x (by simp)
   have e : (closeT c i x s).1 = addT s.1 x.1 x.2 (ofM (balAt c i)) (balAt c i).2.1 (balAt c i).2.2 := by
    show addL _ _ _ _ _ _ = _
    unfold addL
    rw [hb2]
    rfl
   have hN' : x.1 ∉ idsOf r ∧ x.2 ∉ idsOf r ∧ (idsOf r).Nodup := by
    have : idsOf (x :: r) = [x.1, x.2] ++ idsOf r := rfl
    rw [this] at hN
    have := List.nodup_append.1 hN
    exact ⟨fun h => this.2.2 x.1 (by simp) x.1 h rfl, fun h => this.2.2 x.2 (by simp) x.2 h rfl, this.2.1⟩
   refine closeM_fair r (i + 1) _ _ ?_ (fun p hp => ?_) hN'.2.2 ho
   ·rw [e]
    exact addT_fair hT hf.1 hf.2 (ofM_cases _) hx hF
   ·rw [e]
    have h1 : p.1 ∈ idsOf r := List.mem_flatMap.2 ⟨p, hp, by simp⟩
    have h2 : p.2 ∈ idsOf r := List.mem_flatMap.2 ⟨p, hp, by simp⟩
    exact addT_clean hT hf.1 hf.2 hx.1 ⟨fun e => hN'.1 (e ▸ h1), fun e => hN'.2.1 (e ▸ h1)⟩ ⟨fun e => hN'.1 (e ▸ h2), fun e => hN'.2.1 (e ▸ h2)⟩ (hC p (by simp [hp]))
structure Good (c : Club) : Prop where
 cl : isClubM c = true
 fa : Fair c.1
 mi : (fours c.2.2.2.2.2.1 : Int) = c.2.2.2.2.2.2 + c.2.2.2.2.1.length - (waitM c).length
structure ClubIs (c : Club) : Prop where
 t : areTeamsM c.1 = true
 j : areJudgesM c.2.1 = true
 m : areMinM c.2.2.2.2.2.1 = true
 sl : c.2.2.2.1.length = c.2.2.1.length
 bl : c.2.2.2.2.1.length = c.2.2.1.length
 ro : c.2.2.1.length = 0 ∨ (isRoundM c.1 c.2.2.1 = true ∧ areSeatedM c.1 c.2.1 c.2.2.1 c.2.2.2.1 = true)
 ba : allI (ballotP c) c.2.2.2.2.1 0 = true
 pl : 0 ≤ c.2.2.2.2.2.2 ∧ c.2.2.2.2.2.2 ≤ 1000
 tw : totalWinsM c.1 = c.2.2.2.2.2.2
theorem club_is {c : Club} (h : isClubM c = true) : ClubIs c := by
 unfold isClubM at h
 simp only [Bool.and_eq_true, Bool.or_eq_true, decide_eq_true_eq, inR_iff, beq_iff_eq] at h
 exact ⟨h.1, h.2.1, h.2.2.1, h.2.2.2.1, h.2.2.2.2.1, h.2.2.2.2.2.1, h.2.2.2.2.2.2.1, h.2.2.2.2.2.2.2.1, h.2.2.2.2.2.2.2.2⟩
theorem fours_app (l : List Line) (what who : Int) : fours (l ++ [lineM l what who]) = fours l + (bif what == 4 then 1 else 0) := by
 unfold fours
 rw [List.filter_append, List.length_append]
 congr 1
 show (List.filter _ [((l.length : Int) + 1, (what, (who, _)))]).length = _
 simp only [List.filter_cons, List.filter_nil]
 cases what == 4 <;> rfl
theorem doneC_good {c out : Club} {what who : Int} (h : Good c) (ho : isClubM (withMin out (c.2.2.2.2.2.1 ++ [lineM c.2.2.2.2.2.1 what who])) = true → Fair out.1 ∧ c.2.2.2.2.2.2 + c.2.2.2.2.1.length - (waitM c).length + (bif what == 4 then 1 else 0) = out.2.2.2.2.2.2 + out.2.2.2.2.1.length - (waitM out).length) : Good (doneC c out what who) := by
 unfold doneC
 cases hd : doneB c out what who with
 | false => exact h
 | true =>
  rw [cond_true]
  unfold doneB at hd
  simp only [Bool.and_eq_true] at hd
  obtain ⟨h1, _, h2⟩ := hd
  unfold writeM at *
  rw [h1, cond_true] at *
  obtain ⟨h3, h4⟩ := ho h2
  refine ⟨h2, h3, ?_⟩
  show (fours (c.2.2.2.2.2.1 ++ [lineM c.2.2.2.2.2.1 what who]) : Int) = out.2.2.2.2.2.2 + out.2.2.2.2.1.length - (waitM out).length
  rw [fours_app, ← h4, ← h.mi]
  cases what == 4 <;> simp
theorem join_fair {c : Club} {id club : Int} (h : Good c) (ht : areTeamsM (joinC c id club).1 = true) : Fair (joinC c id club).1 := by
 have hno := join_ids ht
 have hf := h.fa
 have e : (joinC c id club).1 = c.1.take (cutT c.1 id) ++ [newT id club] ++ c.1.drop (cutT c.1 id) := rfl
 have hs : ∀ g : Team → Int, g (newT id club) = 0 → isum g (joinC c id club).1 = isum g c.1 := fun g hg => by
  have h1 := isum_app g (c.1.take (cutT c.1 id)) (c.1.drop (cutT c.1 id))
  rw [List.take_append_drop] at h1
  rw [e, isum_app, isum_app, h1]
  simp only [isum, hg]
  omega
 have old : ∀ x : Team, x ∈ c.1 → id ∉ x.met := fun x hx hc => by
  obtain ⟨_, y, hy, ey, _⟩ := (team_is (club_is h.cl).t hx).s id hc
  obtain ⟨i, hi, rfl⟩ := List.mem_iff_getElem.1 hy
  have := (findM_neg (p := fun x : Team => x.1 == id) hno).2 i hi
  simp [ey] at this
 refine ⟨fun x hx => ?_, fun x y hx hy hxy => ?_, ?_, ?_⟩
 ·rw [e] at hx
  rcases insMem hx with hx | rfl
  ·exact hf.nd x hx
  ·exact List.nodup_nil
 ·rw [e] at hx hy
  rcases insMem hx with hx | rfl
  ·rcases insMem hy with hy | rfl
   ·exact hf.df x y hx hy hxy
   ·exact absurd hxy (old x hx)
  ·cases hxy
 ·rw [hs _ rfl, hs _ rfl]; exact hf.w
 ·rw [hs _ rfl, hs _ rfl]; exact hf.f
theorem leave_fair {c : Club} {id : Int} (h : Good c) (hm : mayLeave c id = true) : Fair (leaveC c id).1 := by
 have hf := h.fa
 unfold mayLeave at hm
 simp only [Bool.and_eq_true, decide_eq_true_eq] at hm
 obtain ⟨h1, _, h3⟩ := hm
 have hk := (findT_in (l := c.1) (id := id) h1).2
 have e : (leaveC c id).1 = c.1.take (findT c.1 id).toNat ++ c.1.drop ((findT c.1 id).toNat + 1) := rfl
 have hmem : ∀ x : Team, x ∈ (leaveC c id).1 → x ∈ c.1 := fun x hx => by
  rw [e, List.mem_append] at hx
  rcases hx with hx | hx
  ·exact List.mem_of_mem_take hx
  ·exact List.mem_of_mem_drop hx
 have ht := team_is (club_is h.cl).t (x := c.1.getD (findT c.1 id).toNat zQIIIIILIE) (by rw [getD_nat _ _ hk]; exact List.getElem_mem hk)
 have h3' : (Team.met (c.1.getD (findT c.1 id).toNat zQIIIIILIE)).length = 0 := h3
 have hs : ∀ g : Team → Int, g (c.1.getD (findT c.1 id).toNat zQIIIIILIE) = 0 → isum g (leaveC c id).1 = isum g c.1 := fun g hg => by
  have h1 := isum_app g (c.1.take (findT c.1 id).toNat) (c.1.drop (findT c.1 id).toNat)
  rw [List.take_append_drop, List.drop_eq_getElem_cons hk] at h1
  rw [getD_nat _ _ hk] at hg
  rw [e, isum_app, h1]
  simp only [isum, hg]
  omega
 have e1 : metN (c.1.getD (findT c.1 id).toNat zQIIIIILIE) = 0 := by unfold metN; omega
 have w1 := ht.w
 have f1 := ht.f
 refine ⟨fun x hx => hf.nd x (hmem x hx), fun x y hx hy => hf.df x y (hmem x hx) (hmem y hy), ?_, ?_⟩
 ·rw [hs _ e1, hs _ (by omega)]; exact hf.w
 ·rw [hs _ e1, hs _ (by omega)]; exact hf.f
theorem gatherI_count {α β : Type} {c : Nat → α → Bool} {f : Nat → α → β} {p : α → Bool} (hc : ∀ i x, c i x = p x) : ∀ (l : List α) (i : Nat), (gatherI c f l i).length = (l.filter p).length
 | [], _ => rfl
 | x :: r, i => by
  simp only [gatherI, hc, List.filter_cons]
  cases p x <;> simp [gatherI_count hc r]
theorem waitM_count (c : Club) : (waitM c).length = (c.2.2.2.2.1.filter emptyB).length := gatherI_count (p := emptyB) (fun _ _ => rfl) _ _
theorem filter_set {α : Type} {p : α → Bool} {y z : α} : ∀ (l : List α) (i : Nat), i < l.length → p (l.getD i z) = true → p y = false → ((l.set i y).filter p).length + 1 = (l.filter p).length
 | [], i, h, _, _ => by simp at h
 | x :: r, 0, h, h1, h2 => by
  simp only [List.getD_cons_zero] at h1
  simp only [List.set_cons_zero, List.filter_cons, h1, h2]
  simp
 | x :: r, i + 1, h, h1, h2 => by
  simp only [List.getD_cons_succ] at h1
  have := filter_set (y := y) r i (by simpa using h) h1 h2
  simp only [List.set_cons_succ, List.filter_cons]
  cases p x <;> simp <;> omega
theorem ballot_full {b : Ballot} (h : isBallotM b = true) : emptyB b = false := by
 unfold isBallotM at h
 simp only [Bool.and_eq_true, inR_iff] at h
 unfold emptyB
 rw [decide_eq_false (show ¬ (b.1 : Int) = 0 by omega)]
 rfl
theorem close_good {c : Club} (h : Good c) (hm : mayClose c = true) (hk : (closeM c c.2.2.1 0 c true).2 = true) : Fair (closeM c c.2.2.1 0 c true).1.1 := by
 unfold mayClose at hm
 simp only [Bool.and_eq_true, decide_eq_true_eq] at hm
 obtain ⟨hc, hr, _⟩ := hm
 have hR := ((club_is hc).ro.resolve_left hr).1
 have hall := hR
 unfold isRoundM at hall
 rw [Bool.and_eq_true, List.all_eq_true] at hall
 exact closeM_fair c.2.2.1 0 c true h.fa (fun p hp => mayMeet_clean (hall.1 p hp)) (round_ids hR) hk
theorem onB_good {b : Bool} {c : Club} {r : Club × Bool} (h : Good c) (hr : b = true → Good r.1) : Good (onB b c r).1 := by
 unfold onB
 cases b with
 | false => exact h
 | true => exact hr rfl
theorem applyM_good {c : Club} (h : Good c) (e : QIIIIE) : Good (applyM c e).1 := by
 have hI := club_is h.cl
 unfold applyM
 cases e.1 == 1
 rotate_left
 ·exact onB_good h fun _ => doneC_good h fun ho => ⟨join_fair h (club_is ho).t, by show _ + _ - _ + 0 = c.2.2.2.2.2.2 + c.2.2.2.2.1.length - (waitM c).length; omega⟩
 cases e.1 == 2
 rotate_left
 ·exact doneC_good h fun ho => ⟨h.fa, by show _ + _ - _ + 0 = c.2.2.2.2.2.2 + c.2.2.2.2.1.length - (waitM c).length; omega⟩
 cases e.1 == 3
 rotate_left
 ·show Good (stepPairM c).1
  unfold stepPairM
  cases roundM c.1 with
  | none => exact h
  | some ps =>
   simp only []
   cases seatsM c.1 c.2.1 ps with
   | none => exact h
   | some ss =>
    cases hp : mayPair c with
    | false => exact h
    | true =>
     refine doneC_good h fun ho => ⟨h.fa, ?_⟩
     unfold mayPair at hp
     simp only [Bool.and_eq_true, decide_eq_true_eq] at hp
     have hb := hI.bl
     have hw := waitM_len c
     have hw2 : (waitM (pairC c ps ss)).length = ps.length := by
      rw [waitM_count]
      show ((List.replicate ps.length ((0 : Int), ((0 : Int), (0 : Int)))).filter emptyB).length = _
      rw [List.filter_eq_self.2 (fun x hx => by rw [List.eq_of_mem_replicate hx]; rfl), List.length_replicate]
     have hl : (pairC c ps ss).2.2.2.2.1.length = ps.length := List.length_replicate
     have hpl : (pairC c ps ss).2.2.2.2.2.2 = c.2.2.2.2.2.2 := rfl
     rw [hw2, hl, hpl]
     show _ + _ - _ + 0 = _
     omega
 cases e.1 == 4
 rotate_left
 ·refine onB_good h fun hm => doneC_good h fun ho => ⟨h.fa, ?_⟩
  unfold mayCast at hm
  simp only [Bool.and_eq_true, decide_eq_true_eq] at hm
  obtain ⟨_, ⟨m1, m2⟩, m3, m4⟩ := hm
  have hb := hI.bl
  have hf := filter_set (p := emptyB) (y := castM c e.2.2.2 e.2.1 e.2.2.1) (z := zQIIIE) c.2.2.2.2.1 e.2.2.2.toNat (by omega) m3 (ballot_full m4)
  have hw : (waitM (castC c e.2.2.2 e.2.1 e.2.2.1)).length + 1 = (waitM c).length := by rw [waitM_count, waitM_count]; exact hf
  have hl : (castC c e.2.2.2 e.2.1 e.2.2.1).2.2.2.2.1.length = c.2.2.2.2.1.length := List.length_set
  have hpl : (castC c e.2.2.2 e.2.1 e.2.2.1).2.2.2.2.2.2 = c.2.2.2.2.2.2 := rfl
  rw [hl, hpl]
  show _ + _ - _ + 1 = _
  omega
 cases e.1 == 5
 rotate_left
 ·show Good (stepCloseM c).1
  unfold stepCloseM
  cases hm : mayClose c with
  | false => exact h
  | true =>
   cases hk : (closeM c c.2.2.1 0 c true).2 with
   | false => exact h
   | true =>
    refine doneC_good h fun ho => ⟨close_good h hm hk, ?_⟩
    unfold mayClose at hm
    simp only [Bool.and_eq_true, decide_eq_true_eq] at hm
    obtain ⟨_, _, hw⟩ := hm
    have hb := hI.bl
    have hp := hI.pl
    have hN := h.mi
    have r10 := (small_of h.cl).r10
    have h1 : (endC c (closeM c c.2.2.1 0 c true).1).2.2.2.2.2.2 = c.2.2.2.2.2.2 + (List.length c.2.2.1 : Int) := by
     show IntKind.wrap .i64 (c.2.2.2.2.2.2 + (List.length c.2.2.1 : Int)) = _
     exact wrap64 (by omega) (by omega)
    have h2 : (endC c (closeM c c.2.2.1 0 c true).1).2.2.2.2.1.length = 0 := rfl
    have h3 : (waitM (endC c (closeM c c.2.2.1 0 c true).1)).length = 0 := rfl
    rw [h1, h2, h3]
    show _ + _ - _ + 0 = _
    omega
 cases e.1 == 6
 rotate_left
 ·exact onB_good h fun hm => doneC_good h fun ho => ⟨leave_fair h hm, by show _ + _ - _ + 0 = c.2.2.2.2.2.2 + c.2.2.2.2.1.length - (waitM c).length; omega⟩
 ·exact h
end Go.Pv.R
namespace Go.Pv.R
set_option linter.unusedVariables false
set_option linter.unusedSimpArgs false
abbrev Cur := QLIIIE
def CurOK (c : Cur) : Prop := 0 ≤ c.2.1 ∧ c.1.length ≤ 1048576
def Draws {α : Type} (F : Cur → (α → Cur → Option Ret) → Option Ret) (P : α → Prop) : Prop := ∀ c : Cur, CurOK c → ∃ v, ∃ c' : Cur, CurOK c' ∧ P v ∧ ∀ kf, F c kf = kf v c'
theorem and255 (x : BitVec (IntKind.bits .i64)) : 0 ≤ IntKind.wrap .i64 (BitVec.toNat (x &&& BitVec.ofInt (IntKind.bits .i64) (255 : Int))) ∧ IntKind.wrap .i64 (BitVec.toNat (x &&& BitVec.ofInt (IntKind.bits .i64) (255 : Int))) ≤ 255 := by
 have h : BitVec.toNat (x &&& BitVec.ofInt (IntKind.bits .i64) (255 : Int)) ≤ 255 := by
  rw [BitVec.toNat_and]
  refine Nat.le_trans Nat.and_le_right ?_
  decide
 rw [wrap64 (by omega) (by omega)]
 omega
theorem l1Byte_draws {N : Nat} : Draws (S91 N) fun v => 0 ≤ v ∧ v ≤ 255 := fun c hc => by
 obtain ⟨hc, hl⟩ := hc
 unfold S91 share
 rw [decide_eq_true (show (0 : Int) ≤ 33 by omega), decide_eq_true (show (0 : Int) ≤ 47 by omega)]
 simp only [cond_true]
 by_cases hi : c.2.1 < (List.length c.1 : Int)
 ·have hin : inB c.2.1 (List.length c.1) = true := by
   have := inB_nat (i := c.2.1.toNat) (m := c.1.length) (by omega)
   rwa [Int.toNat_of_nonneg hc] at this
  rw [decide_eq_true hi, hin]
  simp only [cond_true]
  refine ⟨_, (c.1, (IntKind.wrap .i64 (c.2.1 + 1), _)), ⟨?_, hl⟩, and255 _, fun kf => rfl⟩
  show 0 ≤ IntKind.wrap .i64 (c.2.1 + 1)
  rw [wrap64 (by omega) (by omega)]
  omega
 ·rw [decide_eq_false hi]
  simp only [cond_false]
  exact ⟨_, (c.1, (c.2.1, IntKind.wrap .i64 (IntKind.wrap .i64 (c.2.2 * (6364136223846793005 : Int)) + (1442695040888963407 : Int)))), ⟨hc, hl⟩, and255 _, fun kf => rfl⟩
theorem tmod_in {r n : Int} (hr : 0 ≤ r) (hn : 0 < n) : 0 ≤ Int.tmod r n ∧ Int.tmod r n < n := by
 rw [Int.tmod_eq_emod_of_nonneg hr]
 exact ⟨Int.emod_nonneg _ (by omega), Int.emod_lt_of_pos _ hn⟩
theorem l1Below_draws {N : Nat} {n : Int} (h0 : 0 < n) (h1 : n ≤ 256) : Draws (fun c kf => S50 N c n kf) fun v => 0 ≤ v ∧ v < n := fun c hc => by
 obtain ⟨v, c', h2, h3, h4⟩ := l1Byte_draws (N := N) c hc
 refine ⟨Int.tmod v n, c', h2, tmod_in h3.1 h0, fun kf => ?_⟩
 show S50 N c n kf = _
 unfold S50
 rw [decide_eq_false (by omega), decide_eq_true h1]
 simp only [cond_true, cond_false]
 rw [h4, decide_eq_false (by omega)]
 rfl
theorem l1Once_draws {N : Nat} {n : Int} (h0 : 0 < n) (h1 : n ≤ 256) : Draws (fun c kf => S87 N c n kf) fun _ => True := fun c hc => by
 obtain ⟨v, c', h2, h3, h4⟩ := l1Below_draws (N := N) h0 h1 c hc
 exact ⟨_, c', h2, trivial, fun kf => h4 _⟩
theorem l1Int_draws {N : Nat} {l : List Int} (h0 : 0 < l.length) (h1 : l.length ≤ 256) : Draws (fun c kf => S102 N c l kf) fun v => v ∈ l := fun c hc => by
 obtain ⟨v, c', h2, h3, h4⟩ := l1Below_draws (N := N) (n := (l.length : Int)) (by omega) (by omega) c hc
 have h4 : ∀ kf, S50 N c (l.length : Int) kf = kf v c' := h4
 obtain ⟨k, rfl⟩ : ∃ k : Nat, v = (k : Int) := ⟨v.toNat, by omega⟩
 have hk : k < l.length := by omega
 refine ⟨l.getD k 0, c', h2, by rw [getD_nat _ _ hk]; exact List.getElem_mem hk, fun kf => ?_⟩
 show S102 N c l kf = _
 unfold S102
 rw [h4, inB_nat hk, Int.toNat_natCast]
 rfl
theorem l1New_ok {N : Nat} {a : List Int} (ha : a.length ≤ 1048576) (hN : 4000 < N) : ∃ c : Cur, CurOK c ∧ ∀ kf, S47 N a kf = kf c := by
 have key : ∀ (d i n : Nat) (h : Int), i + d = min a.length 4000 → d < n → ∃ h', ∀ k : Int → Option Ret, S47_l3 a n k h (i : Int) = k h' := by
  intro d
  induction d with
  | zero =>
   intro i n h hi hn
   obtain ⟨n, rfl⟩ : ∃ m, n = m + 1 := ⟨n - 1, by omega⟩
   refine ⟨h, fun k => ?_⟩
   unfold S47_l3
   by_cases h1 : i < a.length
   ·rw [decide_eq_true (show (i : Int) < (List.length a : Int) by omega), decide_eq_false (show ¬ (i : Int) < 4000 by omega)]
    rfl
   ·rw [decide_eq_false (show ¬ (i : Int) < (List.length a : Int) by omega)]
    rfl
  | succ d ih =>
   intro i n h hi hn
   obtain ⟨n, rfl⟩ : ∃ m, n = m + 1 := ⟨n - 1, by omega⟩
   obtain ⟨h', hh⟩ := ih (i + 1) n (IntKind.wrap .i64 (BitVec.toNat (BitVec.ofInt (IntKind.bits .i64) (IntKind.wrap .i64 ((IntKind.wrap .i64 ((IntKind.wrap .i64 (h * (137 : Int))) + (IntKind.wrap .i64 (List.getD a (Int.toNat (i : Int)) (0 : Int))))) + (11 : Int))) &&& BitVec.ofInt (IntKind.bits .i64) (1073741823 : Int)))) (by omega) (by omega)
   refine ⟨h', fun k => ?_⟩
   unfold S47_l3
   rw [decide_eq_true (show (i : Int) < (List.length a : Int) by omega), decide_eq_true (show (i : Int) < 4000 by omega), inB_nat (by omega)]
   simp only [cond_true]
   rw [wrap64 (n := (i : Int) + 1) (by omega) (by omega)]
   exact hh k
 obtain ⟨h', hh⟩ := key (min a.length 4000) 0 N (IntKind.wrap .i64 ((193017 : Int) + (List.length a : Int))) (by omega) (by omega)
 exact ⟨(a, ((0 : Int), h')), ⟨Int.le_refl 0, ha⟩, fun kf => hh _⟩
theorem l35One_draws {N : Nat} : Draws (S144 N) fun _ => True := fun c hc => by
 obtain ⟨k, c1, h1, _, e1⟩ := l1Int_draws (N := N) (l := [(1 : Int), (2 : Int), (3 : Int), (3 : Int), (4 : Int), (4 : Int), (4 : Int), (5 : Int), (5 : Int), (6 : Int)]) (by simp) (by simp) c hc
 have e1 : ∀ kf, S102 N c [(1 : Int), (2 : Int), (3 : Int), (3 : Int), (4 : Int), (4 : Int), (4 : Int), (5 : Int), (5 : Int), (6 : Int)] kf = kf k c1 := e1
 unfold S144
 simp only [e1]
 have B : ∀ (n : Int) (c : Cur), 0 < n → n ≤ 256 → CurOK c → ∃ v, ∃ c' : Cur, CurOK c' ∧ ∀ kf, S50 N c n kf = kf v c' := fun n c h0 h1 hc => by
  obtain ⟨v, c', a, _, b⟩ := l1Below_draws (N := N) h0 h1 c hc
  exact ⟨v, c', a, b⟩
 cases k == 1
 rotate_left
 ·obtain ⟨v2, c2, h2, e2⟩ := B 9 c1 (by omega) (by omega) h1
  obtain ⟨v3, c3, h3, e3⟩ := B 3 c2 (by omega) (by omega) h2
  exact ⟨_, c3, h3, trivial, fun kf => by simp only [cond_true, e2, e3]; rfl⟩
 cases k == 2
 rotate_left
 ·obtain ⟨v2, c2, h2, e2⟩ := B 5 c1 (by omega) (by omega) h1
  exact ⟨_, c2, h2, trivial, fun kf => by simp only [cond_true, cond_false, e2]; rfl⟩
 cases k == 4
 rotate_left
 ·obtain ⟨v2, c2, h2, e2⟩ := B 3 c1 (by omega) (by omega) h1
  obtain ⟨v3, c3, h3, e3⟩ := B 20 c2 (by omega) (by omega) h2
  obtain ⟨v4, c4, h4, e4⟩ := B 20 c3 (by omega) (by omega) h3
  exact ⟨_, c4, h4, trivial, fun kf => by simp only [cond_true, cond_false, e2, e3, e4]; rfl⟩
 cases k == 6
 rotate_left
 ·obtain ⟨v2, c2, h2, e2⟩ := B 9 c1 (by omega) (by omega) h1
  exact ⟨_, c2, h2, trivial, fun kf => by simp only [cond_true, cond_false, e2]; rfl⟩
 ·exact ⟨_, c1, h1, trivial, fun kf => by simp only [cond_false]; rfl⟩
def baseL : List QIIIIE := [((1 : Int), ((2 : Int), ((1 : Int), (0 : Int)))), ((1 : Int), ((4 : Int), ((2 : Int), (0 : Int)))), ((2 : Int), ((11 : Int), ((4 : Int), (0 : Int)))), ((2 : Int), ((12 : Int), ((5 : Int), (0 : Int))))]
theorem l35List_l5_ok {N : Nat} {c : Cur} (hc : CurOK c) : ∀ (k n : Nat) (c : Cur) (l : List QIIIIE), CurOK c → k < n → l.length + k ≤ 100 → ∃ r, ∃ c' : Cur, CurOK c' ∧ r.length = k ∧ ∀ kf, S123_l5 N n kf c l (k : Int) = kf c' (l ++ r)
 | 0, n, c, l, hc, hn, hl => by
  obtain ⟨n, rfl⟩ : ∃ m, n = m + 1 := ⟨n - 1, by omega⟩
  refine ⟨[], c, hc, rfl, fun kf => ?_⟩
  unfold S123_l5
  rw [decide_eq_false (by omega), List.append_nil]
  rfl
 | k + 1, n, c, l, hc, hn, hl => by
  obtain ⟨n, rfl⟩ : ∃ m, n = m + 1 := ⟨n - 1, by omega⟩
  obtain ⟨e, c1, h1, _, e1⟩ := l35One_draws (N := N) c hc
  obtain ⟨r, c2, h2, hr, e2⟩ := l35List_l5_ok (N := N) hc k n c1 (l ++ [e]) h1 (by omega) (by simp; omega)
  refine ⟨e :: r, c2, h2, by simp [hr], fun kf => ?_⟩
  unfold S123_l5
  rw [decide_eq_true (by omega), cond_true, e1, decide_eq_true (by simp; omega), cond_true, wrap64 (by omega) (by omega), show (((k + 1 : Nat) : Int) - 1) = (k : Int) by omega, e2, List.append_assoc]
  rfl
theorem l35List_draws {N : Nat} (hN : 100 < N) : Draws (S123 N) fun l => l.length ≤ 20 ∧ ∃ r, l = baseL ++ r := fun c hc => by
 obtain ⟨b, c1, h1, _, e1⟩ := l1Once_draws (N := N) (n := 2) (by omega) (by omega) c hc
 have e1 : ∀ kf, S87 N c 2 kf = kf b c1 := e1
 have J : ∀ y : List QIIIIE, y.length ≤ 6 → ∃ r, ∃ c' : Cur, CurOK c' ∧ r.length ≤ 13 ∧ ∀ kf, S123_j1 N kf c1 y = kf (y ++ r) c' := fun y hy => by
  obtain ⟨v, c2, h2, h3, e2⟩ := l1Below_draws (N := N) (n := 14) (by omega) (by omega) c1 h1
  have e2 : ∀ kf, S50 N c1 14 kf = kf v c2 := e2
  obtain ⟨k, rfl⟩ : ∃ k : Nat, v = (k : Int) := ⟨v.toNat, by omega⟩
  obtain ⟨r, c3, h4, hr, e3⟩ := l35List_l5_ok (N := N) hc k N c2 y h2 (by omega) (by omega)
  refine ⟨r, c3, h4, by omega, fun kf => ?_⟩
  unfold S123_j1
  rw [e2, e3]
 cases b with
 | false =>
  obtain ⟨r, c2, h2, hr, e2⟩ := J baseL (by simp [baseL])
  refine ⟨baseL ++ r, c2, h2, ⟨by simp [baseL]; omega, r, rfl⟩, fun kf => ?_⟩
  unfold S123
  rw [e1]
  exact e2 kf
 | true =>
  obtain ⟨r, c2, h2, hr, e2⟩ := J (baseL ++ [((1 : Int), ((6 : Int), ((1 : Int), (0 : Int)))), ((1 : Int), ((8 : Int), ((3 : Int), (0 : Int))))]) (by simp [baseL])
  refine ⟨_, c2, h2, ⟨?_, [((1 : Int), ((6 : Int), ((1 : Int), (0 : Int)))), ((1 : Int), ((8 : Int), ((3 : Int), (0 : Int))))] ++ r, (List.append_assoc _ _ _)⟩, fun kf => ?_⟩
  ·simp [baseL]; omega
  unfold S123
  rw [e1]
  exact e2 kf
def newC : Club := ([], ([], ([], ([], ([], ([], 0))))))
theorem drawRun_ok {N : Nat} {a : List Int} (ha : a.length ≤ 1048576) (hN : 4000 < N) : ∃ l : List QIIIIE, l.length ≤ 20 ∧ (∃ r, l = baseL ++ r) ∧ ∀ kf, S99 N a kf = kf newC l := by
 obtain ⟨c, hc, e⟩ := l1New_ok ha hN
 obtain ⟨l, c', _, hl, e2⟩ := l35List_draws (N := N) (by omega) c hc
 refine ⟨l, hl.1, hl.2, fun kf => ?_⟩
 unfold S99
 rw [e]
 exact e2 _
theorem newC_good : Good newC := by
 refine ⟨by decide, ⟨fun x hx => (by cases hx), fun x y hx => (by cases hx), rfl, rfl⟩, rfl⟩
end Go.Pv.R
namespace Go.Pv.R
set_option linter.unusedVariables false
set_option linter.unusedSimpArgs false
end Go.Pv.R
namespace Go.Pv.R
set_option linter.unusedVariables false
set_option linter.unusedSimpArgs false
end Go.Pv.R
namespace Go.Pv.R
set_option linter.unusedVariables false
set_option linter.unusedSimpArgs false
theorem below {N : Nat} {n : Int} {c : Cur} (h0 : 0 < n) (h1 : n ≤ 256) (hc : CurOK c) : ∃ v, ∃ c' : Cur, CurOK c' ∧ (0 ≤ v ∧ v < n) ∧ ∀ kf, S50 N c n kf = kf v c' := l1Below_draws (N := N) h0 h1 c hc
theorem oneOf {N : Nat} {l : List Int} {c : Cur} (h0 : 0 < l.length) (h1 : l.length ≤ 256) (hc : CurOK c) : ∃ v, ∃ c' : Cur, CurOK c' ∧ v ∈ l ∧ ∀ kf, S102 N c l kf = kf v c' := l1Int_draws (N := N) h0 h1 c hc
theorem once {N : Nat} {n : Int} {c : Cur} (h0 : 0 < n) (h1 : n ≤ 256) (hc : CurOK c) : ∃ v, ∃ c' : Cur, CurOK c' ∧ ∀ kf, S87 N c n kf = kf v c' := by
 obtain ⟨v, c', h2, _, h4⟩ := l1Once_draws (N := N) h0 h1 c hc
 exact ⟨v, c', h2, h4⟩
def MetLe (M : Nat) (l : List Team) : Prop := ∀ x : Team, x ∈ l → x.met.length ≤ M
theorem l19Draw_l3_ok {N : Nat} : ∀ (d : Nat) (i n : Nat) (c : Cur) (l : List Team), CurOK c → i + d = 7 → 1 ≤ i → l.length + 1 = i → d < n → MetLe 0 l → ∃ r : List Team, ∃ c' : Cur, CurOK c' ∧ (2 ≤ r.length ∧ r.length ≤ 6 ∧ MetLe 0 r) ∧ ∀ kf, S82_l3 N n kf c l (i : Int) = kf c' r
 | 0, i, n, c, l, hc, hi, h1, hl, hn, hm => by
  obtain ⟨n, rfl⟩ : ∃ j, n = j + 1 := ⟨n - 1, by omega⟩
  obtain ⟨v, c1, hc1, hv, e1⟩ := below (N := N) (n := 5) (by omega) (by omega) hc
  refine ⟨l, c1, hc1, ⟨by omega, by omega, hm⟩, fun kf => ?_⟩
  unfold S82_l3
  rw [e1, wrap64 (by omega) (by omega), decide_eq_false (by omega)]
  rfl
 | d + 1, i, n, c, l, hc, hi, h1, hl, hn, hm => by
  obtain ⟨n, rfl⟩ : ∃ j, n = j + 1 := ⟨n - 1, by omega⟩
  obtain ⟨v, c1, hc1, hv, e1⟩ := below (N := N) (n := 5) (by omega) (by omega) hc
  by_cases hg : (i : Int) ≤ 2 + v
  ·obtain ⟨v2, c2, hc2, hv2, e2⟩ := below (N := N) (n := 3) (by omega) (by omega) hc1
   obtain ⟨r, c3, hc3, hr, e3⟩ := l19Draw_l3_ok d (i + 1) n c2 (l ++ [((IntKind.wrap .i64 ((2 : Int) * (i : Int))), ((IntKind.wrap .i64 ((1 : Int) + v2)), ((0 : Int), ((0 : Int), ((0 : Int), ([] : (List Int)))))))]) hc2 (by omega) (by omega) (by simp; omega) (by omega) (fun x hx => by
    rcases List.mem_append.1 hx with hx | hx
    ·exact hm x hx
    ·rw [List.mem_singleton.1 hx]; exact Nat.le_refl 0)
   refine ⟨r, c3, hc3, hr, fun kf => ?_⟩
   unfold S82_l3
   rw [e1, wrap64 (n := 2 + v) (by omega) (by omega), decide_eq_true hg, cond_true, e2, decide_eq_true (by simp; omega), cond_true, wrap64 (n := (i : Int) + 1) (by omega) (by omega)]
   exact e3 kf
  ·refine ⟨l, c1, hc1, ⟨by omega, by omega, hm⟩, fun kf => ?_⟩
   unfold S82_l3
   rw [e1, wrap64 (by omega) (by omega), decide_eq_false hg]
   rfl
theorem l19Draw_l7_ok {N : Nat} (hN : 200 < N) : ∀ (k n M : Nat) (c : Cur) (l : List Team), CurOK c → k < n → l.length ≤ 6 → MetLe M l → M + k ≤ 20 → ∃ r : List Team, ∃ c' : Cur, CurOK c' ∧ (r.length = l.length ∧ MetLe (M + k) r) ∧ ∀ kf, S82_l7 N n kf c l (k : Int) = kf c' r
 | 0, n, M, c, l, hc, hn, hl, hm, hM => by
  obtain ⟨n, rfl⟩ : ∃ j, n = j + 1 := ⟨n - 1, by omega⟩
  refine ⟨l, c, hc, ⟨rfl, hm⟩, fun kf => ?_⟩
  unfold S82_l7
  rw [decide_eq_false (by omega)]
  rfl
 | k + 1, n, M, c, l, hc, hn, hl, hm, hM => by
  obtain ⟨n, rfl⟩ : ∃ j, n = j + 1 := ⟨n - 1, by omega⟩
  obtain ⟨a, c1, hc1, _, e1⟩ := below (N := N) (n := 6) (by omega) (by omega) hc
  obtain ⟨b, c2, hc2, _, e2⟩ := below (N := N) (n := 6) (by omega) (by omega) hc1
  obtain ⟨d, c3, hc3, _, e3⟩ := below (N := N) (n := 2) (by omega) (by omega) hc2
  obtain ⟨p, c4, hc4, _, e4⟩ := below (N := N) (n := 20) (by omega) (by omega) hc3
  obtain ⟨q, c5, hc5, _, e5⟩ := below (N := N) (n := 20) (by omega) (by omega) hc4
  have ha : ∀ a b d p q kf, S110 N l a b d p q kf = kf (addL l a b d p q) (addB2 l a b d p q) := fun a b d p q kf => S110_ok (by omega) (fun x hx => by have := hm x hx; omega) (by omega)
  obtain ⟨r, c6, hc6, hr, e6⟩ := l19Draw_l7_ok hN k n (M + 1) c5 (addL l (IntKind.wrap .i64 ((2 : Int) * (IntKind.wrap .i64 ((1 : Int) + a)))) (IntKind.wrap .i64 ((2 : Int) * (IntKind.wrap .i64 ((1 : Int) + b)))) (IntKind.wrap .i64 ((1 : Int) + d)) (IntKind.wrap .i64 ((60 : Int) + p)) (IntKind.wrap .i64 ((60 : Int) + q))) hc5 (by omega) (by rw [addL_len]; exact hl) (addL_mem hm) (by omega)
  refine ⟨r, c6, hc6, ⟨by rw [hr.1, addL_len], by rw [show M + (k + 1) = M + 1 + k by omega]; exact hr.2⟩, fun kf => ?_⟩
  unfold S82_l7
  rw [decide_eq_true (by omega), cond_true]
  simp only [e1, e2, e3, e4, e5, ha]
  rw [wrap64 (n := ((k + 1 : Nat) : Int) - 1) (by omega) (by omega), show (((k + 1 : Nat) : Int) - 1) = (k : Int) by omega]
  exact e6 kf
theorem l19Draw_draws {N : Nat} (hN : 200 < N) : Draws (S82 N) fun l => 2 ≤ l.length ∧ l.length ≤ 6 ∧ MetLe 6 l := fun c hc => by
 obtain ⟨l, c1, hc1, ⟨h1, h2, h3⟩, e1⟩ := l19Draw_l3_ok (N := N) 6 1 N c [] hc rfl (by omega) rfl (by omega) (fun x hx => by cases hx)
 obtain ⟨v, c2, hc2, hv, e2⟩ := below (N := N) (n := 7) (by omega) (by omega) hc1
 obtain ⟨k, rfl⟩ : ∃ k : Nat, v = (k : Int) := ⟨v.toNat, by omega⟩
 obtain ⟨r, c3, hc3, hr, e3⟩ := l19Draw_l7_ok (N := N) hN k N 0 c2 l hc2 (by omega) h2 h3 (by omega)
 refine ⟨r, c3, hc3, ⟨by omega, by omega, fun x hx => by have := hr.2 x hx; omega⟩, fun kf => ?_⟩
 unfold S82
 refine (e1 _).trans ?_
 rw [e2]
 exact e3 _
theorem set_met {M : Nat} {l : List Team} {i : Nat} {y : Team} (h : MetLe M l) (hy : y.met.length ≤ M) : MetLe M (l.set i y) := fun x hx => by
 rcases List.mem_or_eq_of_mem_set hx with hx | rfl
 ·exact h x hx
 ·exact hy
theorem l19Any_draws {N : Nat} (hN : 200 < N) : Draws (S70 N) fun l => 2 ≤ l.length ∧ l.length ≤ 6 ∧ MetLe 7 l := fun c hc => by
 obtain ⟨l, c1, hc1, ⟨h1, h2, h3⟩, e1⟩ := l19Draw_draws hN c hc
 obtain ⟨i, c2, hc2, hi, e2⟩ := below (N := N) (n := (l.length : Int)) (by omega) (by omega) hc1
 obtain ⟨k, rfl⟩ : ∃ k : Nat, i = (k : Int) := ⟨i.toNat, by omega⟩
 have hk : k < l.length := by omega
 obtain ⟨w, c3, hc3, hw, e3⟩ := below (N := N) (n := 14) (by omega) (by omega) hc2
 have h4 : MetLe 7 l := fun x hx => by have := h3 x hx; omega
 have hgm : (l.getD k zQIIIIILIE).2.2.2.2.2.length ≤ 6 := h3 _ (by rw [getD_nat _ _ hk]; exact List.getElem_mem hk)
 have hlen : ∀ y : Team, 2 ≤ (l.set k y).length ∧ (l.set k y).length ≤ 6 := fun y => by rw [List.length_set]; omega
 unfold S70
 simp only [e1, e2, e3, inB_nat hk, Int.toNat_natCast, cond_true]
 cases w == 0
 rotate_left
 ·obtain ⟨v, c4, hc4, _, e4⟩ := oneOf (N := N) (l := [(0 : Int), (2 : Int), (99 : Int), (100 : Int)]) (by simp) (by simp) hc3
  refine ⟨_, c4, hc4, ?_, fun kf => by simp only [cond_true, e4]; rfl⟩
  exact ⟨(hlen _).1, (hlen _).2, set_met h4 (by show (l.getD k zQIIIIILIE).2.2.2.2.2.length ≤ 7; omega)⟩
 cases w == 1
 rotate_left
 ·obtain ⟨v, c4, hc4, _, e4⟩ := oneOf (N := N) (l := [(-1 : Int), (9 : Int)]) (by simp) (by simp) hc3
  refine ⟨_, c4, hc4, ?_, fun kf => by simp only [cond_true, cond_false, e4]; rfl⟩
  exact ⟨(hlen _).1, (hlen _).2, set_met h4 (by show (l.getD k zQIIIIILIE).2.2.2.2.2.length ≤ 7; omega)⟩
 cases w == 2
 rotate_left
 ·obtain ⟨v, c4, hc4, _, e4⟩ := oneOf (N := N) (l := [(-1 : Int), (100000 : Int), (100001 : Int)]) (by simp) (by simp) hc3
  refine ⟨_, c4, hc4, ?_, fun kf => by simp only [cond_true, cond_false, e4]; rfl⟩
  exact ⟨(hlen _).1, (hlen _).2, set_met h4 (by show (l.getD k zQIIIIILIE).2.2.2.2.2.length ≤ 7; omega)⟩
 cases w == 3
 rotate_left
 ·have hd : decide ((List.length (l.getD k zQIIIIILIE).2.2.2.2.2 + List.length [(2 : Int)]) * 1 ≤ 4398046511104) = true := decide_eq_true (by have : List.length [(2 : Int)] = 1 := rfl; omega)
  refine ⟨_, c3, hc3, ?_, fun kf => by simp only [cond_true, cond_false, hd, Nat.beq_refl]; rfl⟩
  exact ⟨(hlen _).1, (hlen _).2, set_met h4 (by show ((l.getD k zQIIIIILIE).2.2.2.2.2 ++ [(2 : Int)]).length ≤ 7; rw [List.length_append]; show _ + 1 ≤ 7; omega)⟩
 cases w == 4
 rotate_left
 ·obtain ⟨v, c4, hc4, _, e4⟩ := oneOf (N := N) (l := [(0 : Int), (99 : Int), (100 : Int)]) (by simp) (by simp) hc3
  refine ⟨_, c4, hc4, ?_, fun kf => by simp only [cond_true, cond_false, e4]; rfl⟩
  exact ⟨(hlen _).1, (hlen _).2, set_met h4 (by show (l.getD k zQIIIIILIE).2.2.2.2.2.length ≤ 7; omega)⟩
 ·exact ⟨l, c3, hc3, ⟨h1, h2, h4⟩, fun kf => by simp only [cond_false]⟩
def SeenLe (M : Nat) (l : List Judge) : Prop := ∀ x : Judge, x ∈ l → x.2.2.length ≤ M
theorem l21Draw_l3_ok {N : Nat} : ∀ (d : Nat) (i n : Nat) (c : Cur) (l : List Judge), CurOK c → i + d = 6 → 1 ≤ i → l.length + 1 = i → d < n → SeenLe 1 l → ∃ r : List Judge, ∃ c' : Cur, CurOK c' ∧ (1 ≤ r.length ∧ r.length ≤ 5 ∧ SeenLe 1 r) ∧ ∀ kf, S83_l3 N n kf c l (i : Int) = kf c' r
 | 0, i, n, c, l, hc, hi, h1, hl, hn, hm => by
  obtain ⟨n, rfl⟩ : ∃ j, n = j + 1 := ⟨n - 1, by omega⟩
  obtain ⟨v, c1, hc1, hv, e1⟩ := below (N := N) (n := 5) (by omega) (by omega) hc
  refine ⟨l, c1, hc1, ⟨by omega, by omega, hm⟩, fun kf => ?_⟩
  unfold S83_l3
  rw [e1, wrap64 (by omega) (by omega), decide_eq_false (by omega)]
  rfl
 | d + 1, i, n, c, l, hc, hi, h1, hl, hn, hm => by
  obtain ⟨n, rfl⟩ : ∃ j, n = j + 1 := ⟨n - 1, by omega⟩
  obtain ⟨v, c1, hc1, hv, e1⟩ := below (N := N) (n := 5) (by omega) (by omega) hc
  by_cases hg : (i : Int) ≤ 1 + v
  ·obtain ⟨v2, c2, hc2, hv2, e2⟩ := below (N := N) (n := 5) (by omega) (by omega) hc1
   obtain ⟨b, c3, hc3, e3⟩ := once (N := N) (n := 3) (by omega) (by omega) hc2
   have J : ∀ (c4 : Cur) (y : List Int), CurOK c4 → y.length ≤ 1 → ∃ r : List Judge, ∃ c' : Cur, CurOK c' ∧ (1 ≤ r.length ∧ r.length ≤ 5 ∧ SeenLe 1 r) ∧ ∀ kf, S83_j1 v2 (S83_l3 N n kf) l (i : Int) c4 y = kf c' r := fun c4 y hc4 hy => by
    obtain ⟨r, c5, hc5, hr, e5⟩ := l21Draw_l3_ok d (i + 1) n c4 (l ++ [((IntKind.wrap .i64 ((10 : Int) + (i : Int))), ((IntKind.wrap .i64 ((1 : Int) + v2)), y))]) hc4 (by omega) (by omega) (by simp; omega) (by omega) (fun x hx => by
     rcases List.mem_append.1 hx with hx | hx
     ·exact hm x hx
     ·rw [List.mem_singleton.1 hx]; exact hy)
    refine ⟨r, c5, hc5, hr, fun kf => ?_⟩
    unfold S83_j1
    rw [decide_eq_true (by simp; omega), cond_true, wrap64 (n := (i : Int) + 1) (by omega) (by omega)]
    exact e5 kf
   cases b with
   | false =>
    obtain ⟨r, c5, hc5, hr, e5⟩ := J c3 [] hc3 (by simp)
    refine ⟨r, c5, hc5, hr, fun kf => ?_⟩
    unfold S83_l3
    rw [e1, wrap64 (n := 1 + v) (by omega) (by omega), decide_eq_true hg, cond_true, e2, e3]
    exact e5 kf
   | true =>
    obtain ⟨v4, c4, hc4, hv4, e4⟩ := below (N := N) (n := 6) (by omega) (by omega) hc3
    obtain ⟨r, c5, hc5, hr, e5⟩ := J c4 [(IntKind.wrap .i64 ((2 : Int) * (IntKind.wrap .i64 ((1 : Int) + v4))))] hc4 (by simp)
    refine ⟨r, c5, hc5, hr, fun kf => ?_⟩
    unfold S83_l3
    rw [e1, wrap64 (n := 1 + v) (by omega) (by omega), decide_eq_true hg, cond_true, e2, e3, cond_true, e4]
    exact e5 kf
  ·refine ⟨l, c1, hc1, ⟨by omega, by omega, hm⟩, fun kf => ?_⟩
   unfold S83_l3
   rw [e1, wrap64 (by omega) (by omega), decide_eq_false hg]
   rfl
theorem l21Draw_draws {N : Nat} (hN : 200 < N) : Draws (S83 N) fun l => 1 ≤ l.length ∧ l.length ≤ 5 ∧ SeenLe 1 l := fun c hc => by
 obtain ⟨l, c1, hc1, h1, e1⟩ := l21Draw_l3_ok (N := N) 5 1 N c [] hc rfl (by omega) rfl (by omega) (fun x hx => by cases hx)
 exact ⟨l, c1, hc1, h1, fun kf => e1 _⟩
theorem set_seen {M : Nat} {l : List Judge} {i : Nat} {y : Judge} (h : SeenLe M l) (hy : y.2.2.length ≤ M) : SeenLe M (l.set i y) := fun x hx => by
 rcases List.mem_or_eq_of_mem_set hx with hx | rfl
 ·exact h x hx
 ·exact hy
theorem l21Any_draws {N : Nat} (hN : 200 < N) : Draws (S88 N) fun l => 1 ≤ l.length ∧ l.length ≤ 5 ∧ SeenLe 2 l := fun c hc => by
 obtain ⟨l, c1, hc1, ⟨h1, h2, h3⟩, e1⟩ := l21Draw_draws hN c hc
 obtain ⟨i, c2, hc2, hi, e2⟩ := below (N := N) (n := (l.length : Int)) (by omega) (by omega) hc1
 obtain ⟨k, rfl⟩ : ∃ k : Nat, i = (k : Int) := ⟨i.toNat, by omega⟩
 have hk : k < l.length := by omega
 obtain ⟨w, c3, hc3, hw, e3⟩ := below (N := N) (n := 12) (by omega) (by omega) hc2
 have h4 : SeenLe 2 l := fun x hx => by have := h3 x hx; omega
 have hgm : (l.getD k zQIILIE).2.2.length ≤ 1 := h3 _ (by rw [getD_nat _ _ hk]; exact List.getElem_mem hk)
 have hlen : ∀ y : Judge, 1 ≤ (l.set k y).length ∧ (l.set k y).length ≤ 5 := fun y => by rw [List.length_set]; omega
 unfold S88
 simp only [e1, e2, e3, inB_nat hk, Int.toNat_natCast, cond_true]
 cases w == 0
 rotate_left
 ·obtain ⟨v, c4, hc4, _, e4⟩ := oneOf (N := N) (l := [(0 : Int), (11 : Int), (99 : Int), (100 : Int)]) (by simp) (by simp) hc3
  refine ⟨_, c4, hc4, ?_, fun kf => by simp only [cond_true, e4]; rfl⟩
  exact ⟨(hlen _).1, (hlen _).2, set_seen h4 (by show (l.getD k zQIILIE).2.2.length ≤ 2; omega)⟩
 cases w == 1
 rotate_left
 ·obtain ⟨v, c4, hc4, _, e4⟩ := oneOf (N := N) (l := [(0 : Int), (99 : Int), (100 : Int)]) (by simp) (by simp) hc3
  refine ⟨_, c4, hc4, ?_, fun kf => by simp only [cond_true, cond_false, e4]; rfl⟩
  exact ⟨(hlen _).1, (hlen _).2, set_seen h4 (by show (l.getD k zQIILIE).2.2.length ≤ 2; omega)⟩
 cases w == 2
 rotate_left
 ·refine ⟨_, c3, hc3, ?_, fun kf => by simp only [cond_true, cond_false]; rfl⟩
  exact ⟨(hlen _).1, (hlen _).2, set_seen h4 (Nat.le_refl 2)⟩
 ·exact ⟨l, c3, hc3, ⟨h1, h2, h4⟩, fun kf => by simp only [cond_false]⟩
theorem l27Any_l3_ok {N : Nat} (hN : 200 < N) : ∀ (k n : Nat) (c : Cur) (l : List Line), CurOK c → k < n → l.length + k ≤ 100 → ∃ r : List Line, ∃ c' : Cur, CurOK c' ∧ r.length ≤ l.length + k ∧ ∀ kf, S75_l3 N n kf c l (k : Int) = kf c' r
 | 0, n, c, l, hc, hn, hl => by
  obtain ⟨n, rfl⟩ : ∃ j, n = j + 1 := ⟨n - 1, by omega⟩
  refine ⟨l, c, hc, by omega, fun kf => ?_⟩
  unfold S75_l3
  rw [decide_eq_false (by omega)]
  rfl
 | k + 1, n, c, l, hc, hn, hl => by
  obtain ⟨n, rfl⟩ : ∃ j, n = j + 1 := ⟨n - 1, by omega⟩
  obtain ⟨a, c1, hc1, _, e1⟩ := below (N := N) (n := 9) (by omega) (by omega) hc
  obtain ⟨b, c2, hc2, _, e2⟩ := below (N := N) (n := 5) (by omega) (by omega) hc1
  have hw : ∀ a b kf, S104 N l a b kf = kf (writeM l a b) (wroteM l a b) := fun a b kf => S104_ok (by omega) (by omega) (by omega)
  have hwl := writeM_len l (IntKind.wrap .i64 ((1 : Int) + a)) b
  obtain ⟨r, c3, hc3, hr, e3⟩ := l27Any_l3_ok hN k n c2 (writeM l (IntKind.wrap .i64 ((1 : Int) + a)) b) hc2 (by omega) (by omega)
  refine ⟨r, c3, hc3, by omega, fun kf => ?_⟩
  unfold S75_l3
  rw [decide_eq_true (by omega), cond_true]
  simp only [e1, e2, hw]
  rw [wrap64 (n := ((k + 1 : Nat) : Int) - 1) (by omega) (by omega), show (((k + 1 : Nat) : Int) - 1) = (k : Int) by omega]
  exact e3 kf
theorem l27Any_draws {N : Nat} (hN : 200 < N) : Draws (S75 N) fun l => l.length ≤ 8 := fun c hc => by
 obtain ⟨v, c1, hc1, hv, e1⟩ := below (N := N) (n := 9) (by omega) (by omega) hc
 obtain ⟨k, rfl⟩ : ∃ k : Nat, v = (k : Int) := ⟨v.toNat, by omega⟩
 obtain ⟨l, c2, hc2, hl, e2⟩ := l27Any_l3_ok hN k N c1 [] hc1 (by omega) (by simp; omega)
 have hl8 : l.length ≤ 8 := by simp at hl; omega
 unfold S75
 simp only [e1, e2]
 by_cases h0 : (List.length l : Int) > 0
 rotate_left
 ·exact ⟨l, c2, hc2, hl8, fun kf => by rw [decide_eq_false h0]; rfl⟩
 rw [decide_eq_true h0]
 simp only [cond_true]
 obtain ⟨i, c3, hc3, hi, e3⟩ := below (N := N) (n := (l.length : Int)) (by omega) (by omega) hc2
 obtain ⟨j, rfl⟩ : ∃ j : Nat, i = (j : Int) := ⟨i.toNat, by omega⟩
 have hj : j < l.length := by omega
 obtain ⟨w, c4, hc4, hw, e4⟩ := below (N := N) (n := 10) (by omega) (by omega) hc3
 have hlen : ∀ y : Line, (l.set j y).length ≤ 8 := fun y => by rw [List.length_set]; exact hl8
 simp only [e3, e4, inB_nat hj, Int.toNat_natCast, cond_true]
 cases w == 0
 rotate_left
 ·obtain ⟨v, c5, hc5, _, e5⟩ := oneOf (N := N) (l := [(-1 : Int), (99 : Int), (100 : Int)]) (by simp) (by simp) hc4
  exact ⟨_, c5, hc5, hlen _, fun kf => by simp only [cond_true, e5]; rfl⟩
 cases w == 1
 rotate_left
 ·exact ⟨_, c4, hc4, hlen _, fun kf => by simp only [cond_true, cond_false]; rfl⟩
 cases w == 2
 rotate_left
 ·exact ⟨_, c4, hc4, hlen _, fun kf => by simp only [cond_true, cond_false]; rfl⟩
 ·exact ⟨l, c4, hc4, hl8, fun kf => by simp only [cond_false]⟩
end Go.Pv.R
namespace Go.Pv.R
set_option linter.unusedVariables false
set_option linter.unusedSimpArgs false
theorem toL_ne {a b : ByteArray} (h : (a.data.toList == b.data.toList) = false) : (ByteArray.toList a == ByteArray.toList b) = false := by
 rw [Lib.toList_data, Lib.toList_data]
 exact h
theorem run_good : ∀ (l : List QIIIIE) {c : Club}, Good c → Good (runM c l)
 | [], c, h => h
 | e :: l, c, h => run_good l (applyM_good h e)
theorem impartial_of {c : Club} (h : isClubM c = true) : impartialM c = true := by
 have hI := club_is h
 unfold impartialM
 rcases hI.ro with h0 | ⟨_, hs⟩
 ·rw [List.length_eq_zero_iff.1 h0]; rfl
 ·unfold areSeatedM at hs
  simp only [Bool.and_eq_true, decide_eq_true_eq] at hs
  obtain ⟨_, _, hs⟩ := hs
  rw [allI_iff] at hs ⊢
  intro i hi
  have := hs i hi
  rw [Nat.zero_add] at this ⊢
  unfold seatP at this
  simp only [Bool.and_eq_true, decide_eq_true_eq] at this
  unfold impP
  rw [getD_nat _ _ hi] at this
  simp only [Bool.and_eq_true, decide_eq_true_eq]
  exact ⟨by have := hI.sl; omega, this.1, this.2.2⟩
noncomputable def faultM (c : Club) : ByteArray := bif !noRematchM c then s_rematch else bif !impartialM c then s_judge else bif !minutedM c then s_minutes else bif !zeroSumM c then s_sum else bif !isClubM c then s_club else s_e
theorem I22_ok {N : Nat} {c : Club} {kf : ByteArray → Option Ret} (h : ClubOK c N) : I22 N c kf = kf (faultM c) := by
 unfold I22 faultM
 simp only [I23_ok h, I24_ok h, I25_ok h, I26_ok h, I8_ok h]
 cases noRematchM c <;> cases impartialM c <;> cases minutedM c <;> cases zeroSumM c <;> cases isClubM c <;> rfl
theorem drawFault_ok {N : Nat} {a : List Int} (ha : a.length ≤ 1048576) (hN : 4000 < N) : ∃ c : Club, ClubOK c N ∧ ∀ kf, S21 N a kf = kf c := by
 obtain ⟨l, hl, _, e1⟩ := drawRun_ok (N := N) ha (by omega)
 have hg := run_good l newC_good
 have hS := small_of hg.cl
 have hOK : ClubOK (runM newC l) N := hS.okC (by omega)
 have e2 : ∀ kf, S100 N newC l kf = kf (runM newC l) := fun kf => S100_ok ((small_of newC_good.cl).evC (by omega)) (by omega) (by omega) (by omega)
 obtain ⟨c0, hc0, e3⟩ := l1New_ok (N := N) ha (by omega)
 obtain ⟨w, c1, hc1, hw, e4⟩ := below (N := N) (n := 9) (by omega) (by omega) hc0
 unfold S21 S66
 simp only [e1, e2, e3, e4]
 cases w == 0
 rotate_left
 ·refine ⟨_, ?_, fun kf => by simp only [cond_true]; rfl⟩
  exact ⟨hOK.tl, hOK.tm, hOK.tN, hOK.jl, hOK.jm, hOK.jN, hOK.rl, hOK.rN, hOK.sl, hOK.sN, hOK.bl, hOK.bN, hOK.ml, hOK.mN, hOK.n8, hOK.tb, hOK.tmb, hOK.jb, hOK.jmb⟩
 cases w == 1
 rotate_left
 ·obtain ⟨t, c2, hc2, ⟨h1, h2, h3⟩, e5⟩ := l19Any_draws (N := N) (by omega) c1 hc1
  refine ⟨_, ?_, fun kf => by simp only [cond_true, cond_false, e5]; rfl⟩
  exact withTeams_ok hOK (by omega) (by omega) fun x hx => by have := h3 x hx; omega
 cases w == 2
 rotate_left
 ·obtain ⟨t, c2, hc2, ⟨h1, h2, h3⟩, e5⟩ := l21Any_draws (N := N) (by omega) c1 hc1
  refine ⟨_, ?_, fun kf => by simp only [cond_true, cond_false, e5]; rfl⟩
  exact withJudges_ok hOK (by omega) (by omega) fun x hx => by have := h3 x hx; omega
 cases w == 3
 rotate_left
 ·obtain ⟨t, c2, hc2, h1, e5⟩ := l27Any_draws (N := N) (by omega) c1 hc1
  refine ⟨_, ?_, fun kf => by simp only [cond_true, cond_false, e5]; rfl⟩
  exact withMin_ok hOK (by omega) (by omega)
 ·exact ⟨_, hOK, fun kf => by simp only [cond_false]⟩
theorem lawFnAudited (a : List Int) (h : wfs [.sl (.int .u8)] (a, ())) : ∃ N, ∀ kf, L5 N a kf = kf true := by
 obtain ⟨N, hN⟩ : ∃ N : Nat, N = 5000 := ⟨_, rfl⟩
 refine ⟨N, fun kf => ?_⟩
 unfold L5 L5_g L7
 by_cases hb : (List.length a : Int) > 1048576
 ·rw [decide_eq_true hb]; rfl
 rw [decide_eq_false hb]
 simp only [cond_false]
 obtain ⟨c, h, e⟩ := drawFault_ok (N := N) (a := a) (by omega) (by omega)
 rw [e]
 have n1 : (ByteArray.toList s_rematch == ByteArray.toList s_e) = false := toL_ne (by rfl)
 have n2 : (ByteArray.toList s_judge == ByteArray.toList s_e) = false := toL_ne (by rfl)
 have n3 : (ByteArray.toList s_minutes == ByteArray.toList s_e) = false := toL_ne (by rfl)
 have n4 : (ByteArray.toList s_sum == ByteArray.toList s_e) = false := toL_ne (by rfl)
 have n5 : (ByteArray.toList s_club == ByteArray.toList s_e) = false := toL_ne (by rfl)
 have m2 : (ByteArray.toList s_judge == ByteArray.toList s_rematch) = false := toL_ne (by rfl)
 have m3 : (ByteArray.toList s_minutes == ByteArray.toList s_rematch) = false := toL_ne (by rfl)
 have m4 : (ByteArray.toList s_sum == ByteArray.toList s_rematch) = false := toL_ne (by rfl)
 have m5 : (ByteArray.toList s_club == ByteArray.toList s_rematch) = false := toL_ne (by rfl)
 have m6 : (ByteArray.toList s_e == ByteArray.toList s_rematch) = false := toL_ne (by rfl)
 have hi := impartial_of (c := c)
 simp only [I22_ok h, L5_j1_g, I23_ok h, I24_ok h, I25_ok h, I26_ok h, I8_ok h]
 unfold faultM
 revert hi
 cases noRematchM c <;> cases impartialM c <;> cases minutedM c <;> cases zeroSumM c <;> cases isClubM c <;> intro hi <;> first | (simp only [cond_true, cond_false, Bool.not_true, Bool.not_false, n1, n2, n3, n4, n5, m2, m3, m4, m5, m6, beq_self_eq_true]; done) | (simp only [cond_true, cond_false, Bool.not_true, Bool.not_false, n1, n2, n3, n4, n5, m2, m3, m4, m5, m6, beq_self_eq_true]; rfl) | (exact absurd (hi rfl) (by decide))
end Go.Pv.R
namespace Go.Pv.R
set_option linter.unusedVariables false
set_option linter.unusedSimpArgs false
end Go.Pv.R
