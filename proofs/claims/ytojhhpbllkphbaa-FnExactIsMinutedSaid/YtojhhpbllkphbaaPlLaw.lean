/- The law over the plain functions. -/
import Derived.Test.YtojhhpbllkphbaaPlHz
namespace Go.Pv.R
set_option linter.unusedVariables false
set_option linter.unusedSimpArgs false
end Go.Pv.R
namespace Go.Pv.R
set_option linter.unusedVariables false
set_option linter.unusedSimpArgs false
theorem spec_l1In_ok {N : Nat} {a b c : Int} {kf : Bool → Option Ret} : spec_l1In N a b c kf = kf (inR a b c) := by
  unfold spec_l1In inR
  by_cases h : b ≤ a <;> simp [h]
theorem impl_InRange_ok {N : Nat} {a b c : Int} {kf : Bool → Option Ret} : impl_InRange N a b c kf = kf (inR a b c) := by
  unfold impl_InRange inR
  by_cases h : b ≤ a <;> simp [h]
/-- What is asked first: is it all small? -/
theorem small_or {left : Int} {s : Nat} {A B : Option Ret} (h0 : 0 ≤ left) (h : (s : Int) ≤ left → B = A) : (bif decide (szr left s < 0) then A else B) = A := by
  by_cases hn : szr left s < 0
  · rw [decide_eq_true hn]; rfl
  · rw [decide_eq_false hn, cond_false]
    exact h (by have := (szr_neg (s := s) h0); omega)
end Go.Pv.R
namespace Go.Pv.R
set_option linter.unusedVariables false
set_option linter.unusedSimpArgs false
theorem tmod_both (a : Int) : (a.tmod 2147483647 = a % 2147483647 ∧ 0 ≤ a) ∨ (a.tmod 2147483647 = -((-a) % 2147483647) ∧ a < 0) := by
  rcases Int.lt_or_le a 0 with h | h
  · right
    refine ⟨?_, h⟩
    have h1 : (-a).tmod 2147483647 = (-a) % 2147483647 := Int.tmod_eq_emod_of_nonneg (by omega)
    rw [Int.neg_tmod] at h1
    omega
  · exact .inl ⟨Int.tmod_eq_emod_of_nonneg h, h⟩
theorem spec_Mod_ok {N : Nat} {a : Int} {kf : Int → Option Ret} : spec_Mod N a 2147483647 kf = kf (a % 2147483647) := by
  unfold spec_Mod
  rw [spec_l1In_ok, show inR 2147483647 1 1000000000000 = true from by decide]
  have e : (decide ((2147483647 : Int) = 0)) = false := by decide
  simp only [Bool.not_true, cond_false, e, Bool.not_false, cond_true]
  congr 1
  rcases tmod_both a with ⟨h, h'⟩ | ⟨h, h'⟩ <;> rw [h, wrap64 (by omega) (by omega), Int.tmod_eq_emod_of_nonneg (by omega)] <;> omega
theorem impl_Mod_ok {N : Nat} {a : Int} {kf : Int → Option Ret} : impl_Mod N a 2147483647 kf = kf (a % 2147483647) := by
  unfold impl_Mod
  rw [impl_InRange_ok, show inR 2147483647 1 1000000000000 = true from by decide]
  have e : (decide ((2147483647 : Int) = 0)) = false := by decide
  simp only [Bool.not_true, cond_false, e, Bool.not_false, cond_true]
  rcases tmod_both a with ⟨h, h'⟩ | ⟨h, h'⟩ <;> rw [h]
  · rw [decide_eq_false (by omega), cond_false]
  · by_cases hz : -((-a) % 2147483647) < 0
    · rw [decide_eq_true hz, cond_true, wrap64 (by omega) (by omega)]
      congr 1
      omega
    · rw [decide_eq_false hz, cond_false]
      congr 1
      omega
def foldM (i : Nat) (x s : Int) : Int := Int.tmod (IntKind.wrap .i64 ((IntKind.wrap .i64 ((IntKind.wrap .i64 (s * (1000003 : Int))) + x % 2147483647)) + (13 : Int))) (2147483647 : Int)
def hashM (l : List Int) : Int := foldI foldM l 0 11
theorem spec_Hash_ok {N : Nat} {l : List Int} {kf : Int → Option Ret} (hl : l.length ≤ maxLen) (hN : l.length < N) : spec_Hash N l kf = kf (hashM l) := by
  unfold spec_Hash
  rw [spec_Hash_l3_r hl hN, goL1_f foldM (fun i x s next h e => by rw [spec_Mod_ok]; rfl)]
  rfl
theorem impl_Hash_ok {N : Nat} {l : List Int} {kf : Int → Option Ret} (hl : l.length ≤ maxLen) (hN : l.length < N) : impl_Hash N l kf = kf (hashM l) := by
  unfold impl_Hash
  rw [impl_Hash_l3_r hl hN, goL1_f foldM (fun i x s next h e => by unfold impl_fold; rw [impl_Mod_ok]; rfl)]
  rfl
def sealM (s : Int) (x : QIIIIE) : Int := hashM [s, x.1, x.2.1, x.2.2.1]
theorem spec_l27Seal_ok {N : Nat} {s : Int} {x : QIIIIE} {kf : Int → Option Ret} (hN : 4 < N) : spec_l27Seal N s x kf = kf (sealM s x) := by
  unfold spec_l27Seal
  rw [spec_Hash_ok (by rw [maxLen_eq]; simp) (by simpa using hN)]
  rfl
theorem impl_lineSeal_ok {N : Nat} {s : Int} {x : QIIIIE} {kf : Int → Option Ret} (hN : 4 < N) : impl_lineSeal N s x kf = kf (sealM s x) := by
  unfold impl_lineSeal
  rw [impl_Hash_ok (by rw [maxLen_eq]; simp) (by simpa using hN)]
  rfl
/-- Minutes that are numbered, in range and sealed. -/
def minM : List QIIIIE → Nat → Int → Bool
  | [], _, _ => true
  | x :: r, i, s => (x.1 == ((i + 1 : Nat) : Int)) && inR x.2.1 1 9 && inR x.2.2.1 0 99 && (x.2.2.2 == sealM s x) && minM r (i + 1) x.2.2.2
def areMinM (l : List QIIIIE) : Bool := decide (l.length ≤ 200) && minM l 0 0
theorem spec_AreMinutes_ok {N : Nat} {l : List QIIIIE} {kf : Bool → Option Ret} (hl : l.length ≤ maxLen) (hN : l.length < N) (h4 : 4 < N) : spec_AreMinutes N l kf = kf (areMinM l) := by
  unfold spec_AreMinutes
  rw [spec_AreMinutes_l3_r hl hN]
  by_cases hc : l.length ≤ 200
  · have h1 : (decide ((l.length : Int) ≤ 200)) = true := decide_eq_true (by omega)
    have key : ∀ (r : List QIIIIE) (i : Nat) (s : Int), l.drop i = r → goL1 (fun (i : Nat) (x : QIIIIE) (x3_2 : Int) (next : Int → Option Ret) =>
        bif (decide ((List.length l : Int) ≤ (200 : Int))) then
          spec_l27Seal N x3_2 x (fun (r23_5 : Int) =>
            bif (x.1 != (IntKind.wrap .i64 ((i : Int) + (1 : Int)))) then kf false
            else
              spec_l1In N x.2.1 (1 : Int) (9 : Int) (fun (r32_6 : Bool) =>
                bif (!r32_6) then kf false
                else
                  spec_l1In N x.2.2.1 (0 : Int) (99 : Int) (fun (r38_7 : Bool) =>
                    bif (!r38_7) then kf false
                    else
                      bif (x.2.2.2 != r23_5) then kf false
                      else next r23_5)))
        else kf (decide ((List.length l : Int) ≤ (200 : Int)))) (fun (x3_2 : Int) => kf (decide ((List.length l : Int) ≤ (200 : Int)))) r i s = kf (minM r i s) := by
      intro r
      induction r with
      | nil => intro i s _; simp only [goL1, minM, h1]
      | cons x r ih =>
        intro i s hd
        have hlt : i < l.length := by have := congrArg List.length hd; simp at this; omega
        rw [List.drop_eq_getElem_cons hlt] at hd
        injection hd with e1 e2
        simp only [goL1, minM]
        simp only [ih (i + 1) _ e2]
        simp only [h1, cond_true, spec_l27Seal_ok h4, spec_l1In_ok, wrap_succ hlt hl]
        cases hx : (x.1 == ((i + 1 : Nat) : Int)) with
        | false => simp only [bne, hx, Bool.not_false, cond_true, Bool.false_and]
        | true =>
          simp only [bne, hx, Bool.not_true, cond_false, Bool.true_and]
          cases inR x.2.1 1 9 <;> simp
          cases inR x.2.2.1 0 99 <;> simp
          by_cases hs : x.2.2.2 = sealM s x
          · simp [hs]
          · have : (x.2.2.2 == sealM s x) = false := by simpa using hs
            simp [this]
    refine Eq.trans (key l 0 0 rfl) ?_
    unfold areMinM
    simp [hc]
  · have h1 : (decide ((l.length : Int) ≤ 200)) = false := decide_eq_false (by omega)
    cases l with
    | nil => simp at hc
    | cons x r =>
      simp only [goL1, h1, cond_false]
      unfold areMinM
      rw [decide_eq_false hc]
      rfl
theorem impl_AreMinutes_ok {N : Nat} {l : List QIIIIE} {kf : Bool → Option Ret} (hl : l.length ≤ maxLen) (hN : l.length < N) (h4 : 4 < N) : impl_AreMinutes N l kf = kf (areMinM l) := by
  unfold impl_AreMinutes
  by_cases hc : l.length ≤ 200
  · have h1 : (decide ((l.length : Int) > 200)) = false := decide_eq_false (by omega)
    rw [h1, cond_false, impl_AreMinutes_l5_r hl hN]
    have key : ∀ (r : List QIIIIE) (i : Nat) (s : Int), l.drop i = r → goL1 (fun (i : Nat) (x : QIIIIE) (x3_1 : Int) (next : Int → Option Ret) =>
        bif (x.1 != (IntKind.wrap .i64 ((i : Int) + (1 : Int)))) then kf false
        else
          impl_InRange N x.2.1 (1 : Int) (9 : Int) (fun (r24_6 : Bool) =>
            bif (!r24_6) then kf false
            else
              impl_InRange N x.2.2.1 (0 : Int) (99 : Int) (fun (r30_7 : Bool) =>
                bif (!r30_7) then kf false
                else
                  impl_lineSeal N x3_1 x (fun (r38_8 : Int) =>
                    bif (x.2.2.2 != r38_8) then kf false
                    else next x.2.2.2)))) (fun (x3_1 : Int) => kf true) r i s = kf (minM r i s) := by
      intro r
      induction r with
      | nil => intro i s _; simp only [goL1, minM]
      | cons x r ih =>
        intro i s hd
        have hlt : i < l.length := by have := congrArg List.length hd; simp at this; omega
        rw [List.drop_eq_getElem_cons hlt] at hd
        injection hd with e1 e2
        simp only [goL1, minM]
        simp only [ih (i + 1) _ e2]
        simp only [impl_lineSeal_ok h4, impl_InRange_ok, wrap_succ hlt hl]
        cases hx : (x.1 == ((i + 1 : Nat) : Int)) with
        | false => simp only [bne, hx, Bool.not_false, cond_true, Bool.false_and]
        | true =>
          simp only [bne, hx, Bool.not_true, cond_false, Bool.true_and]
          cases inR x.2.1 1 9 <;> simp
          cases inR x.2.2.1 0 99 <;> simp
          by_cases hs : x.2.2.2 = sealM s x
          · simp [hs]
          · have : (x.2.2.2 == sealM s x) = false := by simpa using hs
            simp [this]
    refine Eq.trans (key l 0 0 rfl) ?_
    unfold areMinM
    simp [hc]
  · have h1 : (decide ((l.length : Int) > 200)) = true := decide_eq_true (by omega)
    rw [h1, cond_true]
    unfold areMinM
    rw [decide_eq_false hc]
    rfl
end Go.Pv.R
namespace Go.Pv
set_option linter.unusedVariables false
set_option linter.unusedSimpArgs false
end Go.Pv
namespace Go.Pv.R
set_option linter.unusedVariables false
set_option linter.unusedSimpArgs false
abbrev Team := QIIIIILIE
abbrev Team.met (x : Team) : List Int := x.2.2.2.2.2
theorem teams_small {l : List Team} {N : Nat} (hw : wf (.sl tQIIIIILIE) l) (hN : sizeV (.sl tQIIIIILIE) l < N) : ∀ x ∈ l, x.met.length ≤ maxLen ∧ x.met.length < N := fun x hx => by
  have h1 := sizeV_mem (t := tQIIIIILIE) hx
  have h2 : sizeV tQIIIIILIE x = sizeV (.sl (.int .i64)) x.2.2.2.2.2 := by simp [sizeV]
  have h3 := sizeV_len (t := .int .i64) x.2.2.2.2.2
  exact ⟨(hw.2 x hx).2.2.2.2.2.1, by show x.2.2.2.2.2.length < N; omega⟩
end Go.Pv.R
namespace Go.Pv
set_option linter.unusedVariables false
set_option linter.unusedSimpArgs false
/-- What a loop gathers. -/
def gatherI {α β : Type} (c : Nat → α → Bool) (f : Nat → α → β) : List α → Nat → List β
  | [], _ => []
  | x :: r, i => bif c i x then f i x :: gatherI c f r (i + 1) else gatherI c f r (i + 1)
theorem gatherI_len {α β : Type} {c : Nat → α → Bool} {f : Nat → α → β} : ∀ (l : List α) (i : Nat), (gatherI c f l i).length ≤ l.length
  | [], _ => Nat.le_refl _
  | x :: r, i => by
    simp only [gatherI]
    have := gatherI_len (c := c) (f := f) r (i + 1)
    cases c i x <;> simp <;> omega
theorem goL1_gather {α β : Type} {body : Nat → α → List β → (List β → Option Ret) → Option Ret} {kend : List β → Option Ret} {c : Nat → α → Bool} {f : Nat → α → β} {l : List α}
    (hb : ∀ (i : Nat) (x : α) (s : List β) (next : List β → Option Ret) (h : i < l.length), l[i] = x → s.length ≤ i → body i x s next = bif c i x then next (s ++ [f i x]) else next s) :
    ∀ (r : List α) (i : Nat) (s : List β), l.drop i = r → s.length ≤ i → goL1 body kend r i s = kend (s ++ gatherI c f r i)
  | [], i, s, _, _ => by simp [goL1, gatherI]
  | x :: r, i, s, hd, hs => by
    have hlt : i < l.length := by have := congrArg List.length hd; simp at this; omega
    rw [List.drop_eq_getElem_cons hlt] at hd
    injection hd with h1 h2
    simp only [goL1, gatherI]
    rw [hb i x s _ hlt h1 hs]
    cases c i x
    · rw [cond_false, cond_false]
      exact goL1_gather hb r (i + 1) s h2 (by omega)
    · rw [cond_true, cond_true, goL1_gather hb r (i + 1) (s ++ [f i x]) h2 (by simp; omega)]
      simp
end Go.Pv
namespace Go.Pv.R
set_option linter.unusedVariables false
set_option linter.unusedSimpArgs false
abbrev Judge := QIILIE
theorem judges_small {l : List Judge} {N : Nat} (hw : wf (.sl tQIILIE) l) (hN : sizeV (.sl tQIILIE) l < N) : ∀ x ∈ l, x.2.2.length ≤ maxLen ∧ x.2.2.length < N := fun x hx => by
  have h1 := sizeV_mem (t := tQIILIE) hx
  have h2 : sizeV tQIILIE x = sizeV (.sl (.int .i64)) x.2.2 := by simp [sizeV]
  have h3 := sizeV_len (t := .int .i64) x.2.2
  exact ⟨(hw.2 x hx).2.2.1, by omega⟩
end Go.Pv.R
namespace Go.Pv.R
set_option linter.unusedVariables false
set_option linter.unusedSimpArgs false
abbrev Ballot := QIIIE
end Go.Pv.R
namespace Go.Pv.R
set_option linter.unusedVariables false
set_option linter.unusedSimpArgs false
abbrev Club := QLQIIIIILIELQIILIELQIIELILQIIIELQIIIIEIE
/-- A club that is small enough, and rounds enough. -/
structure ClubOK (c : Club) (N : Nat) : Prop where
  tl : c.1.length ≤ maxLen
  tm : ∀ x : Team, x ∈ c.1 → x.met.length ≤ maxLen ∧ x.met.length < N
  tN : c.1.length < N
  jl : c.2.1.length ≤ maxLen
  jm : ∀ x ∈ c.2.1, x.2.2.length ≤ maxLen ∧ x.2.2.length < N
  jN : c.2.1.length < N
  rl : c.2.2.1.length ≤ 1048576
  rN : 2 * c.2.2.1.length < N
  sl : c.2.2.2.1.length ≤ 1048576
  sN : c.2.2.2.1.length < N
  bl : c.2.2.2.2.1.length ≤ 1048576
  bN : c.2.2.2.2.1.length < N
  ml : c.2.2.2.2.2.1.length ≤ 1048576
  mN : c.2.2.2.2.2.1.length < N
  n8 : 8 < N
  tb : c.1.length ≤ 1048576
  tmb : ∀ x : Team, x ∈ c.1 → x.met.length ≤ 1048576
theorem sizeV_club (c : Club) : sizeV tQLQIIIIILIELQIILIELQIIELILQIIIELQIIIIEIE c = sizeV (.sl tQIIIIILIE) c.1 + (sizeV (.sl tQIILIE) c.2.1 + (sizeV (.sl tQIIE) c.2.2.1 + (sizeV (.sl (.int .i64)) c.2.2.2.1 + (sizeV (.sl tQIIIE) c.2.2.2.2.1 + sizeV (.sl tQIIIIE) c.2.2.2.2.2.1)))) := rfl
theorem club_ok {c : Club} {N : Nat} (hw : wf tQLQIIIIILIELQIILIELQIIELILQIIIELQIIIIEIE c) (hb : sizeV tQLQIIIIILIELQIILIELQIIELILQIIIELQIIIIEIE c ≤ 1048576) (hN : 2 * sizeV tQLQIIIIILIELQIILIELQIIELILQIIIELQIIIIEIE c + 8 < N) : ClubOK c N := by
  have hs := sizeV_club c
  have h1 := sizeV_len (t := tQIIIIILIE) c.1
  have h2 := sizeV_len (t := tQIILIE) c.2.1
  have h3 := sizeV_len (t := tQIIE) c.2.2.1
  have h4 := sizeV_len (t := .int .i64) c.2.2.2.1
  have h5 := sizeV_len (t := tQIIIE) c.2.2.2.2.1
  have h6 := sizeV_len (t := tQIIIIE) c.2.2.2.2.2.1
  have hm := maxLen_eq
  exact ⟨by omega, teams_small hw.1 (by omega), by omega, by omega, judges_small hw.2.1 (by omega), by omega, by omega, by omega, by omega, by omega, by omega, by omega, by omega, by omega, by omega, by omega, fun x hx => by
    have q1 := sizeV_mem (t := tQIIIIILIE) hx
    have q2 : sizeV tQIIIIILIE x = sizeV (.sl (.int .i64)) x.2.2.2.2.2 := by simp [sizeV]
    have q3 := sizeV_len (t := .int .i64) x.2.2.2.2.2
    show x.2.2.2.2.2.length ≤ 1048576
    omega⟩
def emptyB (b : Ballot) : Bool := (decide ((b.1 : Int) = 0)) && ((decide ((b.2.1 : Int) = 0)) && (decide ((b.2.2 : Int) = 0)))
def waitM (c : Club) : List Int := gatherI (fun _ b => emptyB b) (fun i _ => (i : Int)) c.2.2.2.2.1 0
theorem spec_Waiting_ok {N : Nat} {c : Club} {kf : List Int → Option Ret} (h : ClubOK c N) : spec_Waiting N c kf = kf (waitM c) := by
  have hm := maxLen_eq
  have := h.bl
  unfold spec_Waiting
  rw [spec_Waiting_l4_r (by omega) h.bN, goL1_gather (l := c.2.2.2.2.1) (c := fun _ b => emptyB b) (f := fun i _ => (i : Int)) (fun i b s next hi e hs => ?_) c.2.2.2.2.1 0 [] rfl (by simp), List.nil_append]
  · rfl
  · have hok : decide ((List.length s + List.length [(i : Int)]) * 1 ≤ 4398046511104) = true := decide_eq_true (by simp; omega)
    rw [hok, cond_true]
    rfl
theorem impl_Waiting_ok {N : Nat} {c : Club} {kf : List Int → Option Ret} (h : ClubOK c N) : impl_Waiting N c kf = kf (waitM c) := by
  have hm := maxLen_eq
  have := h.bl
  unfold impl_Waiting
  rw [impl_Waiting_l3_r (by omega) h.bN, goL1_gather (l := c.2.2.2.2.1) (c := fun _ b => emptyB b) (f := fun i _ => (i : Int)) (fun i b s next hi e hs => ?_) c.2.2.2.2.1 0 [] rfl (by simp), List.nil_append]
  · rfl
  · have hok : decide ((List.length s + List.length [(i : Int)]) * 1 ≤ 4398046511104) = true := decide_eq_true (by simp; omega)
    rw [hok, cond_true]
    rfl
def fours (l : List QIIIIE) : Nat := (l.filter fun x => x.2.1 == 4).length
theorem fours_up : ∀ (l : List QIIIIE) (i s : Nat), s + l.length ≤ maxLen → foldI (fun _ (x : QIIIIE) s => bif x.2.1 == 4 then IntKind.wrap .i64 (s + 1) else s) l i (s : Int) = ((s + fours l : Nat) : Int)
  | [], _, _, _ => by simp [foldI, fours]
  | x :: r, i, s, h => by
    have := maxLen_eq
    simp only [List.length_cons] at h
    simp only [foldI, fours, List.filter_cons]
    cases hx : x.2.1 == 4 with
    | false => simp only [cond_false]; exact fours_up r (i + 1) s (by omega)
    | true =>
      simp only [cond_true, if_true, List.length_cons]
      rw [wrap64 (by omega) (by omega), show ((s : Int) + 1) = ((s + 1 : Nat) : Int) by omega, fours_up r (i + 1) (s + 1) (by omega)]
      unfold fours
      congr 1
      omega
theorem fours_le (l : List QIIIIE) : fours l ≤ l.length := List.length_filter_le _ _
theorem fours_down : ∀ (l : List QIIIIE) (i : Nat) (s : Int), -4000000 + l.length ≤ s → s ≤ 4000000 → foldI (fun _ (x : QIIIIE) s => bif x.2.1 == 4 then IntKind.wrap .i64 (s - 1) else s) l i s = s - fours l
  | [], _, _, _, _ => by simp [foldI, fours]
  | x :: r, i, s, h, h' => by
    simp only [List.length_cons] at h
    simp only [foldI, fours, List.filter_cons]
    cases hx : x.2.1 == 4 with
    | false => simp only [cond_false]; exact fours_down r (i + 1) s (by omega) h'
    | true =>
      simp only [cond_true, if_true, List.length_cons]
      rw [wrap64 (by omega) (by omega), fours_down r (i + 1) (s - 1) (by omega) (by omega)]
      unfold fours
      omega
def minutedM (c : Club) : Bool := areMinM c.2.2.2.2.2.1 && (inR c.2.2.2.2.2.2 0 1000 && decide ((fours c.2.2.2.2.2.1 : Int) = c.2.2.2.2.2.2 + c.2.2.2.2.1.length - (waitM c).length))
theorem inR_iff {a b c : Int} : inR a b c = true ↔ b ≤ a ∧ a ≤ c := by unfold inR; simp
theorem spec_IsMinuted_ok {N : Nat} {c : Club} {kf : Bool → Option Ret} (h : ClubOK c N) : spec_IsMinuted N c kf = kf (minutedM c) := by
  have hm := maxLen_eq
  have hml := h.ml
  have hbl := h.bl
  have h8 := h.n8
  have hwl : (waitM c).length ≤ c.2.2.2.2.1.length := gatherI_len _ _
  unfold spec_IsMinuted
  rw [spec_IsMinuted_l3_r (by omega) h.mN, goL1_f (fun _ (x : QIIIIE) s => bif x.2.1 == 4 then IntKind.wrap .i64 (s + 1) else s) (fun i x s next hi e => by cases x.2.1 == 4 <;> rfl)]
  have hf := fours_up c.2.2.2.2.2.1 0 0 (by omega)
  rw [Nat.zero_add] at hf
  have hf : foldI (fun _ (x : QIIIIE) s => bif x.2.1 == 4 then IntKind.wrap .i64 (s + 1) else s) c.2.2.2.2.2.1 0 (0 : Int) = (fours c.2.2.2.2.2.1 : Int) := hf
  rw [hf, spec_AreMinutes_ok (by omega) h.mN (by omega)]
  unfold minutedM
  cases areMinM c.2.2.2.2.2.1
  · rfl
  simp only [cond_true, Bool.true_and, spec_l1In_ok]
  cases hp : inR c.2.2.2.2.2.2 0 1000
  · rfl
  obtain ⟨p1, p2⟩ := inR_iff.1 hp
  simp only [cond_true, Bool.true_and]
  rw [spec_Waiting_ok h, wrap64 (n := c.2.2.2.2.2.2 + _) (by omega) (by omega), wrap64 (by omega) (by omega)]
  rfl
theorem impl_IsMinuted_ok {N : Nat} {c : Club} {kf : Bool → Option Ret} (h : ClubOK c N) : impl_IsMinuted N c kf = kf (minutedM c) := by
  have hm := maxLen_eq
  have hml := h.ml
  have hbl := h.bl
  have h8 := h.n8
  have hwl : (waitM c).length ≤ c.2.2.2.2.1.length := gatherI_len _ _
  unfold impl_IsMinuted
  rw [impl_Waiting_ok h]
  rw [impl_IsMinuted_l3_r (by omega) h.mN, goL1_f (fun _ (x : QIIIIE) s => bif x.2.1 == 4 then IntKind.wrap .i64 (s - 1) else s) (fun i x s next hi e => by cases x.2.1 == 4 <;> rfl), impl_AreMinutes_ok (by omega) h.mN (by omega)]
  unfold minutedM
  cases areMinM c.2.2.2.2.2.1
  · rfl
  simp only [cond_true, Bool.true_and, impl_InRange_ok]
  cases hp : inR c.2.2.2.2.2.2 0 1000
  · rfl
  obtain ⟨p1, p2⟩ := inR_iff.1 hp
  have hfl := fours_le c.2.2.2.2.2.1
  simp only [cond_true, Bool.true_and]
  rw [wrap64 (n := c.2.2.2.2.2.2 + _) (by omega) (by omega), wrap64 (by omega) (by omega), fours_down _ _ _ (by omega) (by omega)]
  congr 1
  apply Bool.eq_iff_iff.2
  rw [beq_iff_eq, decide_eq_true_eq]
  omega
theorem lawFnExactIsMinuted (c : Club) (h : wfs [tQLQIIIIILIELQIILIELQIIELILQIIIELQIIIIEIE] (c, ())) : ∃ N, ∀ kf, laws_FnExactIsMinuted N c kf = kf true := by
  refine ⟨2 * sizeV tQLQIIIIILIELQIILIELQIIELILQIIIELQIIIIEIE c + 9, fun kf => ?_⟩
  have hw : wf tQLQIIIIILIELQIILIELQIIELILQIIIELQIIIIEIE c := h.1
  unfold laws_FnExactIsMinuted
  rw [laws_szClub_ok hw (by omega) (by omega) (by omega)]
  refine small_or (by omega) fun hb => ?_
  have hc := club_ok (N := 2 * sizeV tQLQIIIIILIELQIILIELQIIELILQIIIELQIIIIEIE c + 9) hw (by omega) (by omega)
  simp only [laws_toClub_ok (x := c) (N := 2 * sizeV tQLQIIIIILIELQIILIELQIIELILQIIIELQIIIIEIE c + 9) (by omega) (by omega), spec_IsMinuted_ok hc, impl_IsMinuted_ok hc, laws_eqClub_ok (x := c) (N := 2 * sizeV tQLQIIIIILIELQIILIELQIIELILQIIIELQIIIIEIE c + 9) (by omega) (by omega)]
  simp
end Go.Pv.R
namespace Go.Pv
set_option linter.unusedVariables false
set_option linter.unusedSimpArgs false
end Go.Pv
namespace Go.Pv.R
set_option linter.unusedVariables false
set_option linter.unusedSimpArgs false
end Go.Pv.R
