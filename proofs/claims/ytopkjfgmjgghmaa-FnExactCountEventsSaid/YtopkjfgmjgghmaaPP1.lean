/- The law over the plain functions, part P1. -/
import Derived.Test.YtopkjfgmjgghmaaHz
namespace Go.Pv.R
set_option linter.unusedVariables false
set_option linter.unusedSimpArgs false

theorem toEventS_ok {l : List QIIIIE} {N : Nat} {kf : List QIIIIE → Option Ret} (hl : l.length ≤ 1048576) (hN : l.length < N) : laws_toEventS N l kf = kf l := by
  unfold laws_toEventS
  have hm : (1048576 : Nat) ≤ maxLen := by decide
  have h1 : (decide ((List.length l : Int) = (List.length l : Int)) && decide ((0 : Int) ≤ (List.length l : Int)) && decide ((List.length l : Int) ≤ 1099511627776)) = true := by simp; omega
  rw [h1, cond_true]
  have := range1 (f := fun n s i => laws_toEventS_l3 N l n kf s i) (l := l) (kend := kf) (body := fun i x s next => bif inB (i : Int) s.length then next (s.set i (id x)) else none) (fun n i s h => by
    simp only [laws_toEventS_l3, laws_toEvent]
    rw [decide_eq_true (show (i : Int) < (l.length : Int) by omega)]
    simp only [cond_true, inB_nat h, Int.toNat_natCast, getD_nat _ i h]
    rfl) (fun n s => by
    simp only [laws_toEventS_l3]
    rw [decide_eq_false (by omega)]
    rfl) (by omega) l 0 N (List.replicate l.length zQIIIIE) rfl (by omega) hN
  refine Eq.trans this ?_
  rw [goL_toS id kf l 0 _ (by simp)]
  simp

theorem eqEvent_ok {x : QIIIIE} {N : Nat} {kf : Bool → Option Ret} : laws_eqEvent N x x kf = kf true := by
  simp [laws_eqEvent]

theorem eqEventS_ok {l : List QIIIIE} {N : Nat} {kf : Bool → Option Ret} (hl : l.length ≤ 1048576) (hN : l.length < N) : laws_eqEventS N l l kf = kf true := by
  have hm : (1048576 : Nat) ≤ maxLen := by decide
  unfold laws_eqEventS
  simp only [bne_self_eq_false, cond_false]
  have := range0 (f := fun n i => laws_eqEventS_l4 N l l n (kf true) kf i) (l := l) (kend := kf true) (body := fun i x next => next) (fun n i h => by
    simp only [laws_eqEventS_l4]
    rw [decide_eq_true (show (i : Int) < (l.length : Int) by omega)]
    simp only [cond_true, inB_nat h, Int.toNat_natCast, getD_nat _ i h, eqEvent_ok, Bool.not_true, cond_false]) (fun n => by
    simp only [laws_eqEventS_l4]
    rw [decide_eq_false (by omega)]
    rfl) (by omega) l 0 N rfl (by omega) hN
  refine Eq.trans this ?_
  exact goL_eqS (fun _ _ _ => rfl) l 0

def countB (k : Int) (i : Nat) (x : QIIIIE) (s : Int) : Int := bif x.1 == k then IntKind.wrap .i64 (s + 1) else s
theorem specCount_ok {l : List QIIIIE} {a : Int} {N : Nat} {kf : Int → Option Ret} (hl : l.length ≤ 1048576) (hN : l.length < N) : spec_CountEvents N l a kf = goL1 (fun i x s next => next (countB a i x s)) kf l 0 0 := by
  have hm : (1048576 : Nat) ≤ maxLen := by decide
  exact range1 (f := fun n s i => spec_CountEvents_l3 l a n kf s i) (l := l) (kend := kf) (fun n i s h => by
    simp only [spec_CountEvents_l3]
    rw [decide_eq_true (show (i : Int) < (l.length : Int) by omega)]
    simp only [cond_true, inB_nat h, Int.toNat_natCast, getD_nat _ i h, countB]
    cases l[i].1 == a <;> rfl) (fun n s => by
    simp only [spec_CountEvents_l3]
    rw [decide_eq_false (by omega)]
    rfl) (by omega) l 0 N 0 rfl (by omega) hN
theorem implCount_ok {l : List QIIIIE} {a : Int} {N : Nat} {kf : Int → Option Ret} (hl : l.length ≤ 1048576) (hN : l.length < N) : impl_CountEvents N l a kf = goL1 (fun i x s next => next (countB a i x s)) kf l 0 0 := by
  have hm : (1048576 : Nat) ≤ maxLen := by decide
  exact range1 (f := fun n s i => impl_CountEvents_l3 a l (l.length : Int) n kf s i) (l := l) (kend := kf) (fun n i s h => by
    simp only [impl_CountEvents_l3]
    rw [decide_eq_true (show (i : Int) < (l.length : Int) by omega)]
    simp only [cond_true, inB_nat h, Int.toNat_natCast, getD_nat _ i h, countB]
    cases l[i].1 == a <;> rfl) (fun n s => by
    simp only [impl_CountEvents_l3]
    rw [decide_eq_false (by omega)]
    rfl) (by omega) l 0 N 0 rfl (by omega) hN

theorem lawFnExactCountEvents (l : List QIIIIE) (a : Int) (h : wfs [.sl tQIIIIE, .int .i64] (l, a, ())) : ∃ N, ∀ kf, laws_FnExactCountEvents N l a kf = kf true := by
  refine ⟨l.length + 1, fun kf => ?_⟩
  have hl : l.length ≤ maxLen := h.1.1
  have hm : maxLen = 9223372036854775807 := by decide
  unfold laws_FnExactCountEvents laws_szEventS
  rw [wrap64 (by omega) (by omega)]
  by_cases h : (1048576 : Int) - l.length < 0
  · simp [h]
  · have h' : l.length ≤ 1048576 := by omega
    rw [decide_eq_false h]
    simp only [cond_false]
    rw [decide_eq_false h]
    simp only [cond_false]
    rw [toEventS_ok h' (by omega), specCount_ok h' (by omega), ]
    obtain ⟨s, hs⟩ : ∃ s, ∀ kf : Int → Option Ret, goL1 (fun i x s next => next (countB a i x s)) kf l 0 0 = kf s := by
      have : ∀ (l : List QIIIIE) (i : Nat) (s : Int), ∃ s', ∀ kf : Int → Option Ret, goL1 (fun i x s next => next (countB a i x s)) kf l i s = kf s' := by
        intro l
        induction l with
        | nil => intro i s; exact ⟨s, fun _ => rfl⟩
        | cons x r ih => intro i s; exact ih (i + 1) _
      exact this l 0 0
    rw [hs, toEventS_ok h' (by omega), implCount_ok h' (by omega), hs]
    simp [toEventS_ok h' (show l.length < l.length + 1 by omega), eqEventS_ok h' (show l.length < l.length + 1 by omega)]
end Go.Pv.R
