/- The law over the plain functions. -/
import Derived.Test.YtojhhpbllkphbaaPlHz
namespace Go.Pv.R
set_option linter.unusedVariables false
set_option linter.unusedSimpArgs false
end Go.Pv.R
namespace Go.Pv.R
set_option linter.unusedVariables false
set_option linter.unusedSimpArgs false
/-- What is asked first: is it all small? -/
theorem small_or {left : Int} {s : Nat} {A B : Option Ret} (h0 : 0 ≤ left) (h : (s : Int) ≤ left → B = A) : (bif decide (szr left s < 0) then A else B) = A := by
  by_cases hn : szr left s < 0
  · rw [decide_eq_true hn]; rfl
  · rw [decide_eq_false hn, cond_false]
    exact h (by have := (szr_neg (s := s) h0); omega)
end Go.Pv.R
namespace Go.Pv.R
set_option linter.unusedVariables false
set_option linter.unusedSimpArgs false
end Go.Pv.R
namespace Go.Pv
set_option linter.unusedVariables false
set_option linter.unusedSimpArgs false
end Go.Pv
namespace Go.Pv.R
set_option linter.unusedVariables false
set_option linter.unusedSimpArgs false
abbrev Team := QIIIIILIE
abbrev Team.met (x : Team) : List Int := x.2.2.2.2.2
theorem teams_small {l : List Team} {N : Nat} (hw : wf (.sl tQIIIIILIE) l) (hN : sizeV (.sl tQIIIIILIE) l < N) : ∀ x ∈ l, x.met.length ≤ maxLen ∧ x.met.length < N := fun x hx => by
  have h1 := sizeV_mem (t := tQIIIIILIE) hx
  have h2 : sizeV tQIIIIILIE x = sizeV (.sl (.int .i64)) x.2.2.2.2.2 := by simp [sizeV]
  have h3 := sizeV_len (t := .int .i64) x.2.2.2.2.2
  exact ⟨(hw.2 x hx).2.2.2.2.2.1, by show x.2.2.2.2.2.length < N; omega⟩
end Go.Pv.R
namespace Go.Pv
set_option linter.unusedVariables false
set_option linter.unusedSimpArgs false
/-- What a loop gathers. -/
def gatherI {α β : Type} (c : Nat → α → Bool) (f : Nat → α → β) : List α → Nat → List β
  | [], _ => []
  | x :: r, i => bif c i x then f i x :: gatherI c f r (i + 1) else gatherI c f r (i + 1)
theorem gatherI_len {α β : Type} {c : Nat → α → Bool} {f : Nat → α → β} : ∀ (l : List α) (i : Nat), (gatherI c f l i).length ≤ l.length
  | [], _ => Nat.le_refl _
  | x :: r, i => by
    simp only [gatherI]
    have := gatherI_len (c := c) (f := f) r (i + 1)
    cases c i x <;> simp <;> omega
theorem goL1_gather {α β : Type} {body : Nat → α → List β → (List β → Option Ret) → Option Ret} {kend : List β → Option Ret} {c : Nat → α → Bool} {f : Nat → α → β} {l : List α}
    (hb : ∀ (i : Nat) (x : α) (s : List β) (next : List β → Option Ret) (h : i < l.length), l[i] = x → s.length ≤ i → body i x s next = bif c i x then next (s ++ [f i x]) else next s) :
    ∀ (r : List α) (i : Nat) (s : List β), l.drop i = r → s.length ≤ i → goL1 body kend r i s = kend (s ++ gatherI c f r i)
  | [], i, s, _, _ => by simp [goL1, gatherI]
  | x :: r, i, s, hd, hs => by
    have hlt : i < l.length := by have := congrArg List.length hd; simp at this; omega
    rw [List.drop_eq_getElem_cons hlt] at hd
    injection hd with h1 h2
    simp only [goL1, gatherI]
    rw [hb i x s _ hlt h1 hs]
    cases c i x
    · rw [cond_false, cond_false]
      exact goL1_gather hb r (i + 1) s h2 (by omega)
    · rw [cond_true, cond_true, goL1_gather hb r (i + 1) (s ++ [f i x]) h2 (by simp; omega)]
      simp
end Go.Pv
namespace Go.Pv.R
set_option linter.unusedVariables false
set_option linter.unusedSimpArgs false
abbrev Judge := QIILIE
theorem judges_small {l : List Judge} {N : Nat} (hw : wf (.sl tQIILIE) l) (hN : sizeV (.sl tQIILIE) l < N) : ∀ x ∈ l, x.2.2.length ≤ maxLen ∧ x.2.2.length < N := fun x hx => by
  have h1 := sizeV_mem (t := tQIILIE) hx
  have h2 : sizeV tQIILIE x = sizeV (.sl (.int .i64)) x.2.2 := by simp [sizeV]
  have h3 := sizeV_len (t := .int .i64) x.2.2
  exact ⟨(hw.2 x hx).2.2.1, by omega⟩
end Go.Pv.R
namespace Go.Pv.R
set_option linter.unusedVariables false
set_option linter.unusedSimpArgs false
abbrev Ballot := QIIIE
end Go.Pv.R
namespace Go.Pv.R
set_option linter.unusedVariables false
set_option linter.unusedSimpArgs false
abbrev Club := QLQIIIIILIELQIILIELQIIELILQIIIELQIIIIEIE
/-- A club that is small enough, and rounds enough. -/
structure ClubOK (c : Club) (N : Nat) : Prop where
  tl : c.1.length ≤ maxLen
  tm : ∀ x : Team, x ∈ c.1 → x.met.length ≤ maxLen ∧ x.met.length < N
  tN : c.1.length < N
  jl : c.2.1.length ≤ maxLen
  jm : ∀ x ∈ c.2.1, x.2.2.length ≤ maxLen ∧ x.2.2.length < N
  jN : c.2.1.length < N
  rl : c.2.2.1.length ≤ 1048576
  rN : 2 * c.2.2.1.length < N
  sl : c.2.2.2.1.length ≤ 1048576
  sN : c.2.2.2.1.length < N
  bl : c.2.2.2.2.1.length ≤ 1048576
  bN : c.2.2.2.2.1.length < N
  ml : c.2.2.2.2.2.1.length ≤ 1048576
  mN : c.2.2.2.2.2.1.length < N
  n8 : 8 < N
  tb : c.1.length ≤ 1048576
  tmb : ∀ x : Team, x ∈ c.1 → x.met.length ≤ 1048576
theorem sizeV_club (c : Club) : sizeV tQLQIIIIILIELQIILIELQIIELILQIIIELQIIIIEIE c = sizeV (.sl tQIIIIILIE) c.1 + (sizeV (.sl tQIILIE) c.2.1 + (sizeV (.sl tQIIE) c.2.2.1 + (sizeV (.sl (.int .i64)) c.2.2.2.1 + (sizeV (.sl tQIIIE) c.2.2.2.2.1 + sizeV (.sl tQIIIIE) c.2.2.2.2.2.1)))) := rfl
theorem club_ok {c : Club} {N : Nat} (hw : wf tQLQIIIIILIELQIILIELQIIELILQIIIELQIIIIEIE c) (hb : sizeV tQLQIIIIILIELQIILIELQIIELILQIIIELQIIIIEIE c ≤ 1048576) (hN : 2 * sizeV tQLQIIIIILIELQIILIELQIIELILQIIIELQIIIIEIE c + 8 < N) : ClubOK c N := by
  have hs := sizeV_club c
  have h1 := sizeV_len (t := tQIIIIILIE) c.1
  have h2 := sizeV_len (t := tQIILIE) c.2.1
  have h3 := sizeV_len (t := tQIIE) c.2.2.1
  have h4 := sizeV_len (t := .int .i64) c.2.2.2.1
  have h5 := sizeV_len (t := tQIIIE) c.2.2.2.2.1
  have h6 := sizeV_len (t := tQIIIIE) c.2.2.2.2.2.1
  have hm := maxLen_eq
  exact ⟨by omega, teams_small hw.1 (by omega), by omega, by omega, judges_small hw.2.1 (by omega), by omega, by omega, by omega, by omega, by omega, by omega, by omega, by omega, by omega, by omega, by omega, fun x hx => by
    have q1 := sizeV_mem (t := tQIIIIILIE) hx
    have q2 : sizeV tQIIIIILIE x = sizeV (.sl (.int .i64)) x.2.2.2.2.2 := by simp [sizeV]
    have q3 := sizeV_len (t := .int .i64) x.2.2.2.2.2
    show x.2.2.2.2.2.length ≤ 1048576
    omega⟩
def emptyB (b : Ballot) : Bool := (decide ((b.1 : Int) = 0)) && ((decide ((b.2.1 : Int) = 0)) && (decide ((b.2.2 : Int) = 0)))
def waitM (c : Club) : List Int := gatherI (fun _ b => emptyB b) (fun i _ => (i : Int)) c.2.2.2.2.1 0
theorem spec_Waiting_ok {N : Nat} {c : Club} {kf : List Int → Option Ret} (h : ClubOK c N) : spec_Waiting N c kf = kf (waitM c) := by
  have hm := maxLen_eq
  have := h.bl
  unfold spec_Waiting
  rw [spec_Waiting_l4_r (by omega) h.bN, goL1_gather (l := c.2.2.2.2.1) (c := fun _ b => emptyB b) (f := fun i _ => (i : Int)) (fun i b s next hi e hs => ?_) c.2.2.2.2.1 0 [] rfl (by simp), List.nil_append]
  · rfl
  · have hok : decide ((List.length s + List.length [(i : Int)]) * 1 ≤ 4398046511104) = true := decide_eq_true (by simp; omega)
    rw [hok, cond_true]
    rfl
theorem impl_Waiting_ok {N : Nat} {c : Club} {kf : List Int → Option Ret} (h : ClubOK c N) : impl_Waiting N c kf = kf (waitM c) := by
  have hm := maxLen_eq
  have := h.bl
  unfold impl_Waiting
  rw [impl_Waiting_l3_r (by omega) h.bN, goL1_gather (l := c.2.2.2.2.1) (c := fun _ b => emptyB b) (f := fun i _ => (i : Int)) (fun i b s next hi e hs => ?_) c.2.2.2.2.1 0 [] rfl (by simp), List.nil_append]
  · rfl
  · have hok : decide ((List.length s + List.length [(i : Int)]) * 1 ≤ 4398046511104) = true := decide_eq_true (by simp; omega)
    rw [hok, cond_true]
    rfl
end Go.Pv.R
namespace Go.Pv
set_option linter.unusedVariables false
set_option linter.unusedSimpArgs false
end Go.Pv
namespace Go.Pv.R
set_option linter.unusedVariables false
set_option linter.unusedSimpArgs false
end Go.Pv.R
namespace Go.Pv.R
set_option linter.unusedVariables false
set_option linter.unusedSimpArgs false
theorem waitM_len (c : Club) : (waitM c).length ≤ c.2.2.2.2.1.length := gatherI_len _ _
/-- What is told of a club's marks. -/
theorem club_mark {c : Club} (hb : sizeV tQLQIIIIILIELQIILIELQIIELILQIIIELQIIIIEIE c ≤ 1048576) : 1 ≤ (markT tQLQIIIIILIELQIILIELQIIELILQIIIELQIIIIEIE c 1).2 ∧ (markT tQLQIIIIILIELQIILIELQIIELILQIIIELQIIIIEIE c 1).2 ≤ 8388609 := by
  have := markT_le tQLQIIIIILIELQIILIELQIIELILQIIIELQIIIIEIE c 1 (by decide)
  omega
theorem ints_size (l : List Int) : sizeV (.sl (.int .i64)) l = l.length := sizeV_sl (t := .int .i64) (by decide) l
theorem gatherI_nil {α β : Type} {c : Nat → α → Bool} {f : Nat → α → β} : ∀ (l : List α) (i : Nat), (∀ j x, i ≤ j → c j x = false) → gatherI c f l i = []
  | [], _, _ => rfl
  | x :: r, i, h => by
    simp only [gatherI, h i x (Nat.le_refl _), cond_false]
    exact gatherI_nil r (i + 1) (fun j y hj => h j y (by omega))
theorem goL1_gatherStop {α β : Type} {body : Nat → α → List β → (List β → Option Ret) → Option Ret} {kend : List β → Option Ret} {c : Nat → α → Bool} {f : Nat → α → β} {l : List α}
    (hb : ∀ (i : Nat) (x : α) (s : List β) (next : List β → Option Ret) (h : i < l.length), l[i] = x → s.length ≤ i → body i x s next = bif c i x then next (s ++ [f i x]) else kend s) (hc : ∀ i x, c i x = false → ∀ j y, i ≤ j → c j y = false) :
    ∀ (r : List α) (i : Nat) (s : List β), l.drop i = r → s.length ≤ i → goL1 body kend r i s = kend (s ++ gatherI c f r i)
  | [], i, s, _, _ => by simp [goL1, gatherI]
  | x :: r, i, s, hd, hs => by
    have hlt : i < l.length := by have := congrArg List.length hd; simp at this; omega
    rw [List.drop_eq_getElem_cons hlt] at hd
    injection hd with h1 h2
    simp only [goL1, gatherI]
    rw [hb i x s _ hlt h1 hs]
    cases h : c i x with
    | true =>
      simp only [cond_true]
      rw [goL1_gatherStop hb hc r (i + 1) (s ++ [f i x]) h2 (by simp; omega)]
      simp
    | false =>
      simp only [cond_false]
      rw [gatherI_nil r (i + 1) (fun j y hj => hc i x h j y (by omega)), List.append_nil]
def balM (c : Club) (p : List Int) : List QIIIIE := gatherI (fun i _ => decide (2 * i + 1 < p.length)) (fun i x => ((4 : Int), (p.getD (2 * i) 0, (p.getD (2 * i + 1) 0, x)))) (waitM c) 0
theorem balM_len (c : Club) (p : List Int) : (balM c p).length ≤ c.2.2.2.2.1.length := Nat.le_trans (gatherI_len _ _) (waitM_len c)
theorem spec_BallotsFor_ok {N : Nat} {c : Club} {p : List Int} {kf : List QIIIIE → Option Ret} (h : ClubOK c N) (hp : p.length ≤ 1048576) : spec_BallotsFor N c p kf = kf (balM c p) := by
  have hm := maxLen_eq
  have hb := h.bl
  have hbN := h.bN
  have hl := waitM_len c
  unfold spec_BallotsFor
  rw [spec_Waiting_ok h, spec_BallotsFor_l4_r (by omega) (by omega), goL1_gatherStop (l := waitM c) (c := fun i _ => decide (2 * i + 1 < p.length)) (f := fun i x => ((4 : Int), (p.getD (2 * i) 0, (p.getD (2 * i + 1) 0, x)))) (fun i x s next hi e hs => ?_) (fun i x hc j y hj => ?_) (waitM c) 0 [] rfl (by simp), List.nil_append]
  · rfl
  · rw [wrap64 (n := 2 * (i : Int)) (by omega) (by omega), wrap64 (n := 2 * (i : Int) + 1) (by omega) (by omega)]
    by_cases hc : 2 * i + 1 < p.length
    · rw [decide_eq_true (show (2 * (i : Int) + 1) < (p.length : Int) by omega), decide_eq_true hc]
      have e1 : inB (2 * (i : Int)) p.length = true := inB_nat (i := 2 * i) (by omega)
      have e2 : inB (2 * (i : Int) + 1) p.length = true := inB_nat (i := 2 * i + 1) (by omega)
      have e3 : Int.toNat (2 * (i : Int)) = 2 * i := by omega
      have e4 : Int.toNat (2 * (i : Int) + 1) = 2 * i + 1 := by omega
      rw [e1, e2, e3, e4]
      simp only [cond_true]
      rw [decide_eq_true (by simp; omega), cond_true]
    · rw [decide_eq_false (show ¬ (2 * (i : Int) + 1) < (p.length : Int) by omega), decide_eq_false hc]
      rfl
  · have := of_decide_eq_false hc
    exact decide_eq_false (by omega)
theorem impl_BallotsFor_ok {N : Nat} {c : Club} {p : List Int} {kf : List QIIIIE → Option Ret} (h : ClubOK c N) (hp : p.length ≤ 1048576) : impl_BallotsFor N c p kf = kf (balM c p) := by
  have hm := maxLen_eq
  have hb := h.bl
  have hbN := h.bN
  have hl := waitM_len c
  unfold impl_BallotsFor
  rw [impl_Waiting_ok h, impl_BallotsFor_l3_r (by omega) (by omega), goL1_gather (l := waitM c) (c := fun i _ => decide (2 * i + 1 < p.length)) (f := fun i x => ((4 : Int), (p.getD (2 * i) 0, (p.getD (2 * i + 1) 0, x)))) (fun i x s next hi e hs => ?_) (waitM c) 0 [] rfl (by simp), List.nil_append]
  · rfl
  · rw [wrap64 (n := 2 * (i : Int)) (by omega) (by omega), wrap64 (n := 2 * (i : Int) + 1) (by omega) (by omega)]
    by_cases hc : 2 * i + 1 < p.length
    · rw [decide_eq_true (show (2 * (i : Int) + 1) < (p.length : Int) by omega), decide_eq_true hc]
      have e1 : inB (2 * (i : Int)) p.length = true := inB_nat (i := 2 * i) (by omega)
      have e2 : inB (2 * (i : Int) + 1) p.length = true := inB_nat (i := 2 * i + 1) (by omega)
      have e3 : Int.toNat (2 * (i : Int)) = 2 * i := by omega
      have e4 : Int.toNat (2 * (i : Int) + 1) = 2 * i + 1 := by omega
      rw [e1, e2, e3, e4]
      simp only [cond_true]
      rw [decide_eq_true (by simp; omega), cond_true]
    · rw [decide_eq_false (show ¬ (2 * (i : Int) + 1) < (p.length : Int) by omega), decide_eq_false hc]
      rfl
theorem lawFnExactBallotsFor (c : Club) (p : List Int) (h : wfs [tQLQIIIIILIELQIILIELQIIELILQIIIELQIIIIEIE, .sl (.int .i64)] (c, p, ())) : ∃ N, ∀ kf, laws_FnExactBallotsFor N c p kf = kf true := by
  refine ⟨2 * sizeV tQLQIIIIILIELQIILIELQIIELILQIIIELQIIIIEIE c + p.length + 9, fun kf => ?_⟩
  have hw : wf tQLQIIIIILIELQIILIELQIIELILQIIIELQIIIIEIE c := h.1
  unfold laws_FnExactBallotsFor
  by_cases hp : 1048576 < p.length
  · rw [decide_eq_true (by omega), cond_true]
  rw [decide_eq_false (by omega), cond_false, laws_szClub_ok hw (by omega) (by omega) (by omega)]
  refine small_or (by omega) fun hb => ?_
  have hc := club_ok (N := 2 * sizeV tQLQIIIIILIELQIILIELQIIELILQIIIELQIIIIEIE c + p.length + 9) hw (by omega) (by omega)
  have hl := balM_len c p
  have hbl := hc.bl
  have hbN := hc.bN
  have hz : sizeV (.sl tQIIIIE) (balM c p) = (balM c p).length := sizeV_sl (t := tQIIIIE) (by decide) _
  have hzp := ints_size p
  obtain ⟨m1, m2⟩ := club_mark (c := c) (by omega)
  have hmp := mark_le (t := .int .i64) (by decide) p (markT tQLQIIIIILIELQIILIELQIIELILQIIIELQIIIIEIE c 1).2
  have hme := mark_le (t := tQIIIIE) (by decide) (balM c p) 1
  have e1 : decide ((markL (markV (.int .i64)) p (markT tQLQIIIIILIELQIILIELQIIELILQIIIELQIIIIEIE c 1).2).2 < 0) = false := decide_eq_false (by omega)
  have e2 : decide ((markL (markV tQIIIIE) (balM c p) 1).2 < 0) = false := decide_eq_false (by omega)
  generalize hN : 2 * sizeV tQLQIIIIILIELQIILIELQIIELILQIIIELQIIIIEIE c + p.length + 9 = N at *
  have h1 : ∀ k, laws_toClub N c k = k c := fun k => laws_toClub_ok (by omega) (by omega)
  have h1' : ∀ k, laws_toIntS N p k = k p := fun k => laws_toIntS_ok (by omega) (by omega)
  have h2 : ∀ k, laws_eqClub N c c k = k true := fun k => laws_eqClub_ok (by omega) (by omega)
  have h3 : ∀ k, laws_eqIntS N p p k = k true := fun k => laws_eqIntS_ok (by omega) (by omega)
  have h3' : ∀ k, laws_eqEventS N (balM c p) (balM c p) k = k true := fun k => laws_eqEventS_ok (by omega) (by omega)
  have h4 : ∀ k, laws_markClub N c 1 k = k (markT tQLQIIIIILIELQIILIELQIIELILQIIIELQIIIIEIE c 1).2 (markT tQLQIIIIILIELQIILIELQIIELILQIIIELQIIIIEIE c 1).1 := fun k => laws_markClub_ok (by omega) (by omega) (by omega) (by omega)
  have h5 : ∀ k, laws_markIntS N p (markT tQLQIIIIILIELQIILIELQIIELILQIIIELQIIIIEIE c 1).2 k = k (markL (markV (.int .i64)) p (markT tQLQIIIIILIELQIILIELQIIELILQIIIELQIIIIEIE c 1).2).2 (markL (markV (.int .i64)) p (markT tQLQIIIIILIELQIILIELQIIELILQIIIELQIIIIEIE c 1).2).1 := fun k => laws_markIntS_ok (by omega) (by omega) (by omega) (by omega)
  have h6 : ∀ k, laws_markEventS N (balM c p) 1 k = k (markL (markV tQIIIIE) (balM c p) 1).2 (markL (markV tQIIIIE) (balM c p) 1).1 := fun k => laws_markEventS_ok (by omega) (by omega) (by omega) (by omega)
  have h7 : ∀ k, laws_heldEventS N (markL (markV tQIIIIE) (balM c p) 1).1 1 k = k (markL (markV tQIIIIE) (balM c p) 1).2 := fun k => laws_heldEventS_ok (by omega) (by omega) (by omega) (by omega)
  have hp' : p.length ≤ 1048576 := by omega
  simp only [h1, h1', spec_BallotsFor_ok hc hp', impl_BallotsFor_ok hc hp', h2, h3, h3', h4, h5, h6, h7, e1, e2, Bool.not_true, cond_false, bne_self_eq_false]
end Go.Pv.R
