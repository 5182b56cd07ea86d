/- The law over the plain functions, part P2. -/
import Derived.Test.YtopkjfgmjgghmaaHz
namespace Go.Pv.R
set_option linter.unusedVariables false
set_option linter.unusedSimpArgs false

theorem spec_l1In_ok {N : Nat} {a b c : Int} {kf : Bool → Option Ret} : spec_l1In N a b c kf = kf (inR a b c) := by
  unfold spec_l1In inR
  by_cases h : b ≤ a <;> simp [h]
theorem impl_InRange_ok {N : Nat} {a b c : Int} {kf : Bool → Option Ret} : impl_InRange N a b c kf = kf (inR a b c) := by
  unfold impl_InRange inR
  by_cases h : b ≤ a <;> simp [h]

def whatM (a : Int) (i : Nat) (x : QIIIIE) (s : Int) : Int := bif x.2.1 == a then IntKind.wrap .i64 (s + 1) else s
theorem CountWhat_same {l : List QIIIIE} {a : Int} {N : Nat} (hl : l.length ≤ maxLen) (hN : l.length < N) : Same (spec_CountWhat N l a) (impl_CountWhat N l a) := by
  refine ⟨foldI (whatM a) l 0 0, fun kf => ?_, fun kf => ?_⟩
  · unfold spec_CountWhat
    rw [spec_CountWhat_l3_r hl hN, goL1_f (whatM a) (fun i x s next h e => by unfold whatM; cases x.2.1 == a <;> rfl)]
  · unfold impl_CountWhat
    rw [impl_CountWhat_l3_r hl hN, goL1_f (whatM a) (fun i x s next h e => by unfold whatM; cases x.2.1 == a <;> rfl)]

/-- What is asked first: is it all small? -/
theorem small_or {left : Int} {s : Nat} {A B : Option Ret} (h0 : 0 ≤ left) (h : (s : Int) ≤ left → B = A) : (bif decide (szr left s < 0) then A else B) = A := by
  by_cases hn : szr left s < 0
  · rw [decide_eq_true hn]; rfl
  · rw [decide_eq_false hn, cond_false]
    exact h (by have := (szr_neg (s := s) h0); omega)

theorem lawFnExactCountWhat (l : List QIIIIE) (a : Int) (h : wfs [.sl tQIIIIE, .int .i64] (l, a, ())) : ∃ N, ∀ kf, laws_FnExactCountWhat N l a kf = kf true := by
  refine ⟨sizeV (.sl tQIIIIE) l + 1, fun kf => ?_⟩
  have hs := sizeV_len (t := tQIIIIE) l
  have hw : wf (.sl tQIIIIE) l := h.1
  unfold laws_FnExactCountWhat
  rw [laws_szLineS_ok hw (by omega) (by omega) (by omega)]
  refine small_or (by omega) fun hb => ?_
  obtain ⟨v, h1, h2⟩ := CountWhat_same (l := l) (a := a) (N := sizeV (.sl tQIIIIE) l + 1) h.1.1 (by omega)
  simp only [laws_toLineS_ok (x := l) (N := sizeV (.sl tQIIIIE) l + 1) (by omega) (by omega), h1, h2, laws_eqLineS_ok (x := l) (N := sizeV (.sl tQIIIIE) l + 1) (by omega) (by omega)]
  simp

theorem lenE {α : Type} {xs : List α} (h : ¬ xs = []) : ((xs.length : Int) == 0) = false := by
  have : xs.length ≠ 0 := fun e => h (List.length_eq_zero_iff.1 e)
  rw [beq_eq_false_iff_ne]
  omega
theorem AveragePoints_same {x : QIIIIILIE} {N : Nat} : Same (spec_AveragePoints N x) (impl_AveragePoints N x) := by
  by_cases h : x.2.2.2.2.2 = []
  · exact ⟨0, fun kf => by unfold spec_AveragePoints; simp [h], fun kf => by unfold impl_AveragePoints; simp [h]⟩
  · by_cases h' : x.2.2.2.1 < 0
    · exact ⟨0, fun kf => by unfold spec_AveragePoints; rw [lenE h]; simp [h'], fun kf => by unfold impl_AveragePoints; rw [lenE h]; simp [h, h']⟩
    · exact ⟨_, fun kf => by unfold spec_AveragePoints; rw [lenE h]; simp [h, h']; rfl, fun kf => by unfold impl_AveragePoints; rw [lenE h]; simp [h, h']⟩
theorem lawFnExactAveragePoints (x : QIIIIILIE) (h : wfs [tQIIIIILIE] (x, ())) : ∃ N, ∀ kf, laws_FnExactAveragePoints N x kf = kf true := by
  refine ⟨sizeV tQIIIIILIE x + 1, fun kf => ?_⟩
  have hw : wf tQIIIIILIE x := h.1
  unfold laws_FnExactAveragePoints
  rw [laws_szTeam_ok hw (by omega) (by omega) (by omega)]
  refine small_or (by omega) fun hb => ?_
  obtain ⟨v, h1, h2⟩ := AveragePoints_same (x := x) (N := sizeV tQIIIIILIE x + 1)
  simp only [laws_toTeam_ok (x := x) (N := sizeV tQIIIIILIE x + 1) (by omega) (by omega), h1, h2, laws_eqTeam_ok (x := x) (N := sizeV tQIIIIILIE x + 1) (by omega) (by omega)]
  simp

theorem SideShare_same {x : QIIIIILIE} {N : Nat} : Same (spec_SideShare N x) (impl_SideShare N x) := by
  by_cases h : x.2.2.2.2.2 = []
  · exact ⟨0, fun kf => by unfold spec_SideShare; simp [h], fun kf => by unfold impl_SideShare; simp [h]⟩
  · by_cases h' : inR x.2.2.2.2.1 0 (x.2.2.2.2.2.length : Int) = true
    · exact ⟨_, fun kf => by unfold spec_SideShare; rw [lenE h]; simp [h, spec_l1In_ok, h']; rfl, fun kf => by unfold impl_SideShare; rw [lenE h]; simp [h, impl_InRange_ok, h']⟩
    · exact ⟨0, fun kf => by unfold spec_SideShare; rw [lenE h]; simp [spec_l1In_ok, h'], fun kf => by unfold impl_SideShare; rw [lenE h]; simp [h, impl_InRange_ok, h']⟩
theorem lawFnExactSideShare (x : QIIIIILIE) (h : wfs [tQIIIIILIE] (x, ())) : ∃ N, ∀ kf, laws_FnExactSideShare N x kf = kf true := by
  refine ⟨sizeV tQIIIIILIE x + 1, fun kf => ?_⟩
  have hw : wf tQIIIIILIE x := h.1
  unfold laws_FnExactSideShare
  rw [laws_szTeam_ok hw (by omega) (by omega) (by omega)]
  refine small_or (by omega) fun hb => ?_
  obtain ⟨v, h1, h2⟩ := SideShare_same (x := x) (N := sizeV tQIIIIILIE x + 1)
  simp only [laws_toTeam_ok (x := x) (N := sizeV tQIIIIILIE x + 1) (by omega) (by omega), h1, h2, laws_eqTeam_ok (x := x) (N := sizeV tQIIIIILIE x + 1) (by omega) (by omega)]
  simp

/-! BusiestJudge: the reference keeps a place, the program a judge -/
theorem busy_both {l : List QIILIE} : ∀ (r : List QIILIE) (i b : Nat) (hb : b < l.length), l.drop i = r → ∃ (v : Nat) (hv : v < l.length), ∀ (k1 : Int → Option Ret) (k2 : QIILIE → Option Ret),
    goL1 (fun (i : Nat) (x : QIILIE) (x3_2 : Int) (next : Int → Option Ret) =>
        bif (decide (x3_2 < (0 : Int))) then
          next (i : Int)
        else
          bif (inB x3_2 (List.length l)) then
            bif (decide ((List.length x.2.2 : Int) > (List.length (List.getD l (Int.toNat x3_2) zQIILIE).2.2 : Int))) then
              next (i : Int)
            else
              next x3_2
          else none) k1 r i (b : Int) = k1 (v : Int) ∧
    goL1 (fun (i : Nat) (x : QIILIE) (x3_1 : QIILIE) (next : QIILIE → Option Ret) =>
        bif (decide ((List.length x.2.2 : Int) > (List.length x3_1.2.2 : Int))) then
          next x
        else
          next x3_1) k2 r i l[b] = k2 l[v]
  | [], i, b, hb, hd => ⟨b, hb, fun k1 k2 => ⟨rfl, rfl⟩⟩
  | x :: r, i, b, hb, hd => by
    have hlt : i < l.length := by have := congrArg List.length hd; simp at this; omega
    rw [List.drop_eq_getElem_cons hlt] at hd
    injection hd with h1 h2
    by_cases hc : (List.length x.2.2 : Int) > (List.length l[b].2.2 : Int)
    · obtain ⟨v, hv, ih⟩ := busy_both r (i + 1) i hlt h2
      refine ⟨v, hv, fun k1 k2 => ?_⟩
      obtain ⟨q1, q2⟩ := ih k1 k2
      simp only [goL1]
      rw [decide_eq_false (by omega), cond_false, inB_nat hb, cond_true, Int.toNat_natCast, getD_nat _ _ hb, decide_eq_true hc, cond_true, cond_true, q1, ← q2, h1]
      exact ⟨rfl, rfl⟩
    · obtain ⟨v, hv, ih⟩ := busy_both r (i + 1) b hb h2
      refine ⟨v, hv, fun k1 k2 => ?_⟩
      obtain ⟨q1, q2⟩ := ih k1 k2
      simp only [goL1]
      rw [decide_eq_false (by omega), cond_false, inB_nat hb, cond_true, Int.toNat_natCast, getD_nat _ _ hb, decide_eq_false hc, cond_false, cond_false, q1, ← q2]
      exact ⟨rfl, rfl⟩
theorem BusiestJudge_same {l : List QIILIE} {N : Nat} (hl : l.length ≤ maxLen) (hN : l.length < N) : Same (spec_BusiestJudge N l) (impl_BusiestJudge N l) := by
  cases l with
  | nil => exact ⟨0, fun kf => by unfold spec_BusiestJudge; rw [spec_BusiestJudge_l3_r hl hN]; rfl, fun kf => by unfold impl_BusiestJudge; rfl⟩
  | cons x r =>
    obtain ⟨v, hv, h⟩ := busy_both (l := x :: r) r 1 0 (by simp) rfl
    refine ⟨((x :: r)[v]).1, fun kf => ?_, fun kf => ?_⟩
    · unfold spec_BusiestJudge
      rw [spec_BusiestJudge_l3_r hl hN]
      simp only [goL1]
      rw [show (decide ((-1 : Int) < 0)) = true from rfl, cond_true]
      refine Eq.trans (h _ (fun _ => none)).1 ?_
      rw [decide_eq_false (by omega), cond_false, inB_nat hv, cond_true, Int.toNat_natCast, getD_nat _ _ hv]
    · unfold impl_BusiestJudge
      have hp : inB (0 : Int) (x :: r).length = true := inB_nat (i := 0) (by simp)
      rw [impl_BusiestJudge_l5_r hl hN, hp]
      have e : (((x :: r).length : Int) == 0) = false := by simp; omega
      rw [e, cond_false, cond_true]
      simp only [goL1]
      have e2 : List.getD (x :: r) (Int.toNat 0) zQIILIE = x := rfl
      rw [e2, decide_eq_false (by omega), cond_false]
      exact (h (fun _ => none) _).2
theorem lawFnExactBusiestJudge (l : List QIILIE) (h : wfs [.sl tQIILIE] (l, ())) : ∃ N, ∀ kf, laws_FnExactBusiestJudge N l kf = kf true := by
  refine ⟨sizeV (.sl tQIILIE) l + 1, fun kf => ?_⟩
  have hs := sizeV_len (t := tQIILIE) l
  have hw : wf (.sl tQIILIE) l := h.1
  unfold laws_FnExactBusiestJudge
  rw [laws_szJudgeS_ok hw (by omega) (by omega) (by omega)]
  refine small_or (by omega) fun hb => ?_
  obtain ⟨v, h1, h2⟩ := BusiestJudge_same (l := l) (N := sizeV (.sl tQIILIE) l + 1) h.1.1 (by omega)
  simp only [laws_toJudgeS_ok (x := l) (N := sizeV (.sl tQIILIE) l + 1) (by omega) (by omega), h1, h2, laws_eqJudgeS_ok (x := l) (N := sizeV (.sl tQIILIE) l + 1) (by omega) (by omega)]
  simp
end Go.Pv.R
