/- The law over the plain functions. -/
import Derived.Test.YtbpmandkogjaoaaPlHz
namespace Go.Pv.R
set_option linter.unusedVariables false
set_option linter.unusedSimpArgs false
end Go.Pv.R
namespace Go.Pv.R
set_option linter.unusedVariables false
set_option linter.unusedSimpArgs false
/-- What is asked first: is it all small? -/
theorem small_or {left : Int} {s : Nat} {A B : Option Ret} (h0 : 0 ≤ left) (h : (s : Int) ≤ left → B = A) : (bif decide (szr left s < 0) then A else B) = A := by
  by_cases hn : szr left s < 0
  · rw [decide_eq_true hn]; rfl
  · rw [decide_eq_false hn, cond_false]
    exact h (by have := (szr_neg (s := s) h0); omega)
end Go.Pv.R
namespace Go.Pv.R
set_option linter.unusedVariables false
set_option linter.unusedSimpArgs false
end Go.Pv.R
namespace Go.Pv
set_option linter.unusedVariables false
set_option linter.unusedSimpArgs false
theorem findI_some {α : Type} {p : α → Bool} : ∀ {l : List α} {i k : Nat}, findI p l i = some k → ∃ j, ∃ h : j < l.length, k = i + j ∧ p l[j] = true ∧ ∀ j' (h' : j' < j), p (l[j']'(by omega)) = false
  | [], i, k, h => by cases h
  | x :: r, i, k, h => by
    simp only [findI] at h
    cases hp : p x with
    | true =>
      rw [hp] at h
      injection h with h
      exact ⟨0, by simp, by omega, hp, fun j' h' => by omega⟩
    | false =>
      rw [hp] at h
      obtain ⟨j, hj, e, h1, h2⟩ := findI_some (l := r) h
      refine ⟨j + 1, by simpa using hj, by omega, h1, fun j' h' => ?_⟩
      cases j' with
      | zero => exact hp
      | succ j' => exact h2 j' (by omega)
theorem findI_none {α : Type} {p : α → Bool} : ∀ {l : List α} {i : Nat}, findI p l i = none → ∀ j (h : j < l.length), p l[j] = false
  | [], i, h, j, hj => by simp at hj
  | x :: r, i, h, j, hj => by
    simp only [findI] at h
    cases hp : p x with
    | true => rw [hp] at h; cases h
    | false =>
      rw [hp] at h
      cases j with
      | zero => exact hp
      | succ j => exact findI_none (l := r) h j (by simpa using hj)
/-- A search: the first place with a property. -/
theorem goL_find {α : Type} {body : Nat → α → Option Ret → Option Ret} {kend : Option Ret} {kf : Nat → Option Ret} {p : α → Bool} (hb : ∀ (i : Nat) (x : α) (next : Option Ret), body i x next = bif p x then kf i else next) : ∀ (l : List α) (i : Nat), goL body kend l i = match findI p l i with
    | some k => kf k
    | none => kend
  | [], _ => rfl
  | x :: r, i => by
    simp only [goL, findI]
    rw [hb]
    cases p x
    · exact goL_find hb r (i + 1)
    · rfl
def findM {α : Type} (p : α → Bool) (l : List α) : Int := match findI p l 0 with
  | some k => (k : Int)
  | none => -1
theorem findM_pos {α : Type} {p : α → Bool} {l : List α} (h : ¬ findM p l < 0) : ∃ k : Nat, ∃ hk : k < l.length, findM p l = (k : Int) ∧ p l[k] = true ∧ ∀ j (hj : j < k), p (l[j]'(by omega)) = false := by
  unfold findM at *
  split at h
  · rename_i k hk
    obtain ⟨j, hj, e, h1, h2⟩ := findI_some hk
    obtain rfl : k = j := by omega
    exact ⟨k, hj, rfl, h1, h2⟩
  · omega
theorem findM_neg {α : Type} {p : α → Bool} {l : List α} (h : findM p l < 0) : findM p l = -1 ∧ ∀ j (hj : j < l.length), p l[j] = false := by
  unfold findM at *
  split at h
  · omega
  · rename_i hn
    exact ⟨rfl, findI_none hn⟩
end Go.Pv
namespace Go.Pv.R
set_option linter.unusedVariables false
set_option linter.unusedSimpArgs false
abbrev Team := QIIIIILIE
def findT (l : List Team) (id : Int) : Int := findM (fun x : Team => x.1 == id) l
theorem spec_FindTeam_ok {N : Nat} {l : List Team} {id : Int} {kf : Int → Option Ret} (hl : l.length ≤ maxLen) (hN : l.length < N) : spec_FindTeam N l id kf = kf (findT l id) := by
  unfold spec_FindTeam
  rw [spec_FindTeam_l2_r hl hN, goL_find (p := fun x : Team => x.1 == id) (kf := fun i => kf (i : Int)) (fun i x next => rfl)]
  unfold findT findM
  cases findI (fun x : Team => x.1 == id) l 0 <;> rfl
theorem impl_FindTeam_ok {N : Nat} {l : List Team} {id : Int} {kf : Int → Option Ret} (hl : l.length ≤ maxLen) (hN : l.length < N) : impl_FindTeam N l id kf = kf (findT l id) := by
  unfold impl_FindTeam slices_IndexFunc_Team_impl_FindTeam_1
  rw [slices_IndexFunc_Team_impl_FindTeam_1_l2_r hl hN]
  simp only [impl_FindTeam_1]
  rw [goL_find (p := fun x : Team => x.1 == id) (kf := fun i => kf (i : Int)) (fun i x next => rfl)]
  unfold findT findM
  cases findI (fun x : Team => x.1 == id) l 0 <;> rfl
abbrev Team.met (x : Team) : List Int := x.2.2.2.2.2
theorem teams_small {l : List Team} {N : Nat} (hw : wf (.sl tQIIIIILIE) l) (hN : sizeV (.sl tQIIIIILIE) l < N) : ∀ x ∈ l, x.met.length ≤ maxLen ∧ x.met.length < N := fun x hx => by
  have h1 := sizeV_mem (t := tQIIIIILIE) hx
  have h2 : sizeV tQIIIIILIE x = sizeV (.sl (.int .i64)) x.2.2.2.2.2 := by simp [sizeV]
  have h3 := sizeV_len (t := .int .i64) x.2.2.2.2.2
  exact ⟨(hw.2 x hx).2.2.2.2.2.1, by show x.2.2.2.2.2.length < N; omega⟩
end Go.Pv.R
namespace Go.Pv
set_option linter.unusedVariables false
set_option linter.unusedSimpArgs false
theorem findM_any {α : Type} (p : α → Bool) (l : List α) : decide (findM p l ≥ 0) = l.any p := by
  by_cases h : findM p l < 0
  · rw [decide_eq_false (by omega)]
    symm
    rw [List.any_eq_false]
    intro x hx
    obtain ⟨j, hj, rfl⟩ := List.mem_iff_getElem.1 hx
    rw [(findM_neg h).2 j hj]
    simp
  · rw [decide_eq_true (by omega)]
    symm
    rw [List.any_eq_true]
    obtain ⟨k, hk, _, h1, _⟩ := findM_pos h
    exact ⟨l[k], List.getElem_mem hk, h1⟩
end Go.Pv
namespace Go.Pv.R
set_option linter.unusedVariables false
set_option linter.unusedSimpArgs false
abbrev Judge := QIILIE
abbrev Pair := QIIE
def hasM (l : List Int) (n : Int) : Bool := l.any fun x => x == n
theorem spec_l4Has_ok {N : Nat} {l : List Int} {n : Int} {kf : Bool → Option Ret} (hl : l.length ≤ maxLen) (hN : l.length < N) : spec_l4Has N l n kf = kf (hasM l n) := by
  unfold spec_l4Has
  rw [spec_l4Has_l2_r hl hN, goL_find (p := fun x : Int => x == n) (kf := fun _ => kf true) (fun i x next => rfl)]
  unfold hasM
  rw [← findM_any]
  unfold findM
  cases findI (fun x : Int => x == n) l 0
  · rfl
  · rw [decide_eq_true (by simp)]
theorem slices_Contains_int_ok {N : Nat} {l : List Int} {n : Int} {kf : Bool → Option Ret} (hl : l.length ≤ maxLen) (hN : l.length < N) : slices_Contains_int N l n kf = kf (hasM l n) := by
  unfold slices_Contains_int slices_Index_int
  rw [slices_Index_int_l2_r hl hN, goL_find (p := fun x : Int => n == x) (kf := fun i => kf (decide ((i : Int) ≥ 0))) (fun i x next => rfl)]
  have e : hasM l n = l.any fun x => n == x := by
    unfold hasM
    congr 1
    funext x
    apply Bool.eq_iff_iff.2
    rw [beq_iff_eq, beq_iff_eq]
    exact ⟨fun h => h.symm, fun h => h.symm⟩
  rw [e, ← findM_any]
  unfold findM
  cases findI (fun x : Int => n == x) l 0 <;> rfl
def findJ (l : List Judge) (id : Int) : Int := findM (fun x : Judge => x.1 == id) l
theorem spec_l21Find_ok {N : Nat} {l : List Judge} {id : Int} {kf : Int → Option Ret} (hl : l.length ≤ maxLen) (hN : l.length < N) : spec_l21Find N l id kf = kf (findJ l id) := by
  unfold spec_l21Find
  rw [spec_l21Find_l2_r hl hN, goL_find (p := fun x : Judge => x.1 == id) (kf := fun i => kf (i : Int)) (fun i x next => rfl)]
  unfold findJ findM
  cases findI (fun x : Judge => x.1 == id) l 0 <;> rfl
theorem impl_judgeAt_ok {N : Nat} {l : List Judge} {id : Int} {kf : Int → Option Ret} (hl : l.length ≤ maxLen) (hN : l.length < N) : impl_judgeAt N l id kf = kf (findJ l id) := by
  unfold impl_judgeAt slices_IndexFunc_Judge_impl_judgeAt_1
  rw [slices_IndexFunc_Judge_impl_judgeAt_1_l2_r hl hN]
  simp only [impl_judgeAt_1]
  rw [goL_find (p := fun x : Judge => x.1 == id) (kf := fun i => kf (i : Int)) (fun i x next => rfl)]
  unfold findJ findM
  cases findI (fun x : Judge => x.1 == id) l 0 <;> rfl
theorem judges_small {l : List Judge} {N : Nat} (hw : wf (.sl tQIILIE) l) (hN : sizeV (.sl tQIILIE) l < N) : ∀ x ∈ l, x.2.2.length ≤ maxLen ∧ x.2.2.length < N := fun x hx => by
  have h1 := sizeV_mem (t := tQIILIE) hx
  have h2 : sizeV tQIILIE x = sizeV (.sl (.int .i64)) x.2.2 := by simp [sizeV]
  have h3 := sizeV_len (t := .int .i64) x.2.2
  exact ⟨(hw.2 x hx).2.2.1, by omega⟩
def clubT (l : List Team) (id : Int) : Int := (l.getD (findT l id).toNat zQIIIIILIE).2.1
theorem findT_in {l : List Team} {id : Int} (h : findT l id ≥ 0) : inB (findT l id) l.length = true ∧ (findT l id).toNat < l.length := by
  obtain ⟨k, hk, e, _⟩ := findM_pos (p := fun x : Team => x.1 == id) (l := l) (by unfold findT at h; omega)
  have e : findT l id = (k : Int) := e
  rw [e]
  exact ⟨inB_nat hk, by simpa using hk⟩
def okFor (t : List Team) (j : Judge) (id : Int) : Bool := decide (findT t id ≥ 0) && ((clubT t id != j.2.1) && !hasM j.2.2 id)
def mayJudgeM (t : List Team) (j : Judge) (p : Pair) : Bool := okFor t j p.1 && okFor t j p.2
theorem spec_MayJudge_ok {N : Nat} {t : List Team} {j : Judge} {p : Pair} {kf : Bool → Option Ret} (hl : t.length ≤ maxLen) (hN : t.length < N) (h1 : j.2.2.length ≤ maxLen) (h2 : j.2.2.length < N) : spec_MayJudge N t j p kf = kf (mayJudgeM t j p) := by
  unfold spec_MayJudge mayJudgeM okFor
  rw [spec_FindTeam_ok hl hN, spec_FindTeam_ok hl hN]
  by_cases ha : findT t p.1 ≥ 0
  rotate_left
  · rw [decide_eq_false ha]; rfl
  by_cases hb : findT t p.2 ≥ 0
  rotate_left
  · rw [decide_eq_true ha, decide_eq_false hb]; simp
  rw [decide_eq_true ha, decide_eq_true hb, (findT_in ha).1, (findT_in hb).1, spec_l4Has_ok h1 h2]
  simp only [spec_l4Has_ok h1 h2, cond_true, Bool.true_and]
  unfold clubT
  cases (t.getD (findT t p.1).toNat zQIIIIILIE).2.1 != j.2.1
  · rfl
  cases (t.getD (findT t p.2).toNat zQIIIIILIE).2.1 != j.2.1
  · simp
  cases hasM j.2.2 p.1 <;> simp
theorem impl_MayJudge_ok {N : Nat} {t : List Team} {j : Judge} {p : Pair} {kf : Bool → Option Ret} (hl : t.length ≤ maxLen) (hN : t.length < N) (h1 : j.2.2.length ≤ maxLen) (h2 : j.2.2.length < N) (h3 : 2 < N) : impl_MayJudge N t j p kf = kf (mayJudgeM t j p) := by
  have key : ∀ (id : Int) (next : Option Ret), (impl_FindTeam N t id (fun (r22_7 : Int) =>
          bif (decide (r22_7 < (0 : Int))) then
            kf false
          else
            bif (inB r22_7 (List.length t)) then
              bif ((List.getD t (Int.toNat r22_7) zQIIIIILIE).2.1 == j.2.1) then
                kf false
              else
                slices_Contains_int N j.2.2 id (fun (r39_8 : Bool) =>
                  bif r39_8 then
                    kf false
                  else
                    next)
            else none)) = bif okFor t j id then next else kf false := fun id next => by
    rw [impl_FindTeam_ok hl hN]
    unfold okFor
    by_cases ha : findT t id ≥ 0
    rotate_left
    · rw [decide_eq_false ha, decide_eq_true (by omega)]; rfl
    rw [decide_eq_true ha, decide_eq_false (by omega), (findT_in ha).1, slices_Contains_int_ok h1 h2]
    simp only [cond_true, cond_false, Bool.true_and]
    unfold clubT
    cases hc : (t.getD (findT t id).toNat zQIIIIILIE).2.1 == j.2.1
    · simp only [bne, hc, Bool.not_false, Bool.true_and, cond_false]
      cases hasM j.2.2 id <;> rfl
    · simp only [bne, hc, Bool.not_true, Bool.false_and, cond_false, cond_true]
  unfold impl_MayJudge
  rw [impl_MayJudge_l2_r (by rw [maxLen_eq]; simp) (by simpa using h3)]
  simp only [goL, key]
  unfold mayJudgeM
  cases okFor t j p.1
  · rfl
  · simp
    cases okFor t j p.2 <;> rfl
end Go.Pv.R
namespace Go.Pv.R
set_option linter.unusedVariables false
set_option linter.unusedSimpArgs false
theorem findJ_in {l : List Judge} {id : Int} (h : findJ l id ≥ 0) : inB (findJ l id) l.length = true ∧ (findJ l id).toNat < l.length := by
  obtain ⟨k, hk, e, _⟩ := findM_pos (p := fun x : Judge => x.1 == id) (l := l) (by unfold findJ at h; omega)
  have e : findJ l id = (k : Int) := e
  rw [e]
  exact ⟨inB_nat hk, by simpa using hk⟩
end Go.Pv.R
namespace Go.Pv.R
set_option linter.unusedVariables false
set_option linter.unusedSimpArgs false
abbrev Club := QLQIIIIILIELQIILIELQIIELILQIIIELQIIIIEIE
/-- A club that is small enough, and rounds enough. -/
structure ClubOK (c : Club) (N : Nat) : Prop where
  tl : c.1.length ≤ maxLen
  tm : ∀ x : Team, x ∈ c.1 → x.met.length ≤ maxLen ∧ x.met.length < N
  tN : c.1.length < N
  jl : c.2.1.length ≤ maxLen
  jm : ∀ x ∈ c.2.1, x.2.2.length ≤ maxLen ∧ x.2.2.length < N
  jN : c.2.1.length < N
  rl : c.2.2.1.length ≤ 1048576
  rN : 2 * c.2.2.1.length < N
  sl : c.2.2.2.1.length ≤ 1048576
  sN : c.2.2.2.1.length < N
  bl : c.2.2.2.2.1.length ≤ 1048576
  bN : c.2.2.2.2.1.length < N
  ml : c.2.2.2.2.2.1.length ≤ 1048576
  mN : c.2.2.2.2.2.1.length < N
  n8 : 8 < N
  tb : c.1.length ≤ 1048576
  tmb : ∀ x : Team, x ∈ c.1 → x.met.length ≤ 1048576
theorem sizeV_club (c : Club) : sizeV tQLQIIIIILIELQIILIELQIIELILQIIIELQIIIIEIE c = sizeV (.sl tQIIIIILIE) c.1 + (sizeV (.sl tQIILIE) c.2.1 + (sizeV (.sl tQIIE) c.2.2.1 + (sizeV (.sl (.int .i64)) c.2.2.2.1 + (sizeV (.sl tQIIIE) c.2.2.2.2.1 + sizeV (.sl tQIIIIE) c.2.2.2.2.2.1)))) := rfl
theorem club_ok {c : Club} {N : Nat} (hw : wf tQLQIIIIILIELQIILIELQIIELILQIIIELQIIIIEIE c) (hb : sizeV tQLQIIIIILIELQIILIELQIIELILQIIIELQIIIIEIE c ≤ 1048576) (hN : 2 * sizeV tQLQIIIIILIELQIILIELQIIELILQIIIELQIIIIEIE c + 8 < N) : ClubOK c N := by
  have hs := sizeV_club c
  have h1 := sizeV_len (t := tQIIIIILIE) c.1
  have h2 := sizeV_len (t := tQIILIE) c.2.1
  have h3 := sizeV_len (t := tQIIE) c.2.2.1
  have h4 := sizeV_len (t := .int .i64) c.2.2.2.1
  have h5 := sizeV_len (t := tQIIIE) c.2.2.2.2.1
  have h6 := sizeV_len (t := tQIIIIE) c.2.2.2.2.2.1
  have hm := maxLen_eq
  exact ⟨by omega, teams_small hw.1 (by omega), by omega, by omega, judges_small hw.2.1 (by omega), by omega, by omega, by omega, by omega, by omega, by omega, by omega, by omega, by omega, by omega, by omega, fun x hx => by
    have q1 := sizeV_mem (t := tQIIIIILIE) hx
    have q2 : sizeV tQIIIIILIE x = sizeV (.sl (.int .i64)) x.2.2.2.2.2 := by simp [sizeV]
    have q3 := sizeV_len (t := .int .i64) x.2.2.2.2.2
    show x.2.2.2.2.2.length ≤ 1048576
    omega⟩
def impP (c : Club) (i : Nat) (p : Pair) : Bool := decide (i < c.2.2.2.1.length) && (decide (findJ c.2.1 (c.2.2.2.1.getD i 0) ≥ 0) && mayJudgeM c.1 (c.2.1.getD (findJ c.2.1 (c.2.2.2.1.getD i 0)).toNat zQIILIE) p)
def impartialM (c : Club) : Bool := allI (impP c) c.2.2.1 0
theorem spec_IsImpartial_ok {N : Nat} {c : Club} {kf : Bool → Option Ret} (h : ClubOK c N) : spec_IsImpartial N c kf = kf (impartialM c) := by
  have hm := maxLen_eq
  have hr := h.rl
  have hrN := h.rN
  unfold spec_IsImpartial impartialM
  rw [spec_IsImpartial_l2_r (by omega) (by omega), goL_all (l := c.2.2.1) (p := impP c) (kf := kf false) (fun i p next hi e => ?_) c.2.2.1 0 rfl]
  · cases allI (impP c) c.2.2.1 0 <;> rfl
  · unfold impP
    by_cases hs : i < c.2.2.2.1.length
    rotate_left
    · rw [decide_eq_false hs, decide_eq_true (by omega)]; rfl
    rw [decide_eq_true hs, decide_eq_false (by omega), cond_false, inB_nat hs, cond_true, Int.toNat_natCast, spec_l21Find_ok h.jl h.jN]
    by_cases hf : findJ c.2.1 (c.2.2.2.1.getD i 0) ≥ 0
    rotate_left
    · rw [decide_eq_false hf, decide_eq_true (by omega)]; rfl
    obtain ⟨f1, f2⟩ := findJ_in hf
    obtain ⟨m1, m2⟩ := h.jm (c.2.1.getD (findJ c.2.1 (c.2.2.2.1.getD i 0)).toNat zQIILIE) (by rw [getD_nat _ _ f2]; exact List.getElem_mem f2)
    rw [decide_eq_true hf, decide_eq_false (by omega), cond_false, f1, cond_true, spec_MayJudge_ok h.tl h.tN m1 m2]
    cases mayJudgeM c.1 (c.2.1.getD (findJ c.2.1 (c.2.2.2.1.getD i 0)).toNat zQIILIE) p <;> rfl
theorem impl_IsImpartial_ok {N : Nat} {c : Club} {kf : Bool → Option Ret} (h : ClubOK c N) : impl_IsImpartial N c kf = kf (impartialM c) := by
  have hm := maxLen_eq
  have hr := h.rl
  have hrN := h.rN
  have h8 := h.n8
  unfold impl_IsImpartial impartialM
  rw [impl_IsImpartial_l2_r (by omega) (by omega), goL_all (l := c.2.2.1) (p := impP c) (kf := kf false) (fun i p next hi e => ?_) c.2.2.1 0 rfl]
  · cases allI (impP c) c.2.2.1 0 <;> rfl
  · unfold impP
    by_cases hs : i < c.2.2.2.1.length
    rotate_left
    · rw [decide_eq_false hs, decide_eq_true (by omega)]; rfl
    rw [decide_eq_true hs, decide_eq_false (by omega), cond_false, inB_nat hs, cond_true, Int.toNat_natCast, impl_judgeAt_ok h.jl h.jN]
    by_cases hf : findJ c.2.1 (c.2.2.2.1.getD i 0) ≥ 0
    rotate_left
    · rw [decide_eq_false hf, decide_eq_true (by omega)]; rfl
    obtain ⟨f1, f2⟩ := findJ_in hf
    obtain ⟨m1, m2⟩ := h.jm (c.2.1.getD (findJ c.2.1 (c.2.2.2.1.getD i 0)).toNat zQIILIE) (by rw [getD_nat _ _ f2]; exact List.getElem_mem f2)
    rw [decide_eq_true hf, decide_eq_false (by omega), cond_false, f1, cond_true, impl_MayJudge_ok h.tl h.tN m1 m2 (by omega)]
    cases mayJudgeM c.1 (c.2.1.getD (findJ c.2.1 (c.2.2.2.1.getD i 0)).toNat zQIILIE) p <;> rfl
theorem lawFnExactIsImpartial (c : Club) (h : wfs [tQLQIIIIILIELQIILIELQIIELILQIIIELQIIIIEIE] (c, ())) : ∃ N, ∀ kf, laws_FnExactIsImpartial N c kf = kf true := by
  refine ⟨2 * sizeV tQLQIIIIILIELQIILIELQIIELILQIIIELQIIIIEIE c + 9, fun kf => ?_⟩
  have hw : wf tQLQIIIIILIELQIILIELQIIELILQIIIELQIIIIEIE c := h.1
  unfold laws_FnExactIsImpartial
  rw [laws_szClub_ok hw (by omega) (by omega) (by omega)]
  refine small_or (by omega) fun hb => ?_
  have hc := club_ok (N := 2 * sizeV tQLQIIIIILIELQIILIELQIIELILQIIIELQIIIIEIE c + 9) hw (by omega) (by omega)
  simp only [laws_toClub_ok (x := c) (N := 2 * sizeV tQLQIIIIILIELQIILIELQIIELILQIIIELQIIIIEIE c + 9) (by omega) (by omega), spec_IsImpartial_ok hc, impl_IsImpartial_ok hc, laws_eqClub_ok (x := c) (N := 2 * sizeV tQLQIIIIILIELQIILIELQIIELILQIIIELQIIIIEIE c + 9) (by omega) (by omega)]
  simp
end Go.Pv.R
namespace Go.Pv
set_option linter.unusedVariables false
set_option linter.unusedSimpArgs false
end Go.Pv
namespace Go.Pv.R
set_option linter.unusedVariables false
set_option linter.unusedSimpArgs false
end Go.Pv.R
