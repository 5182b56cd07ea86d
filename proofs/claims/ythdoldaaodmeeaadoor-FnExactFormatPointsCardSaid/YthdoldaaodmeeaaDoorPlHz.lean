/- What the harness' functions answer. -/
import Derived.Test.YthdoldaaodmeeaaDoorPlLst
namespace Go.Pv.R
set_option linter.unusedVariables false
set_option linter.unusedSimpArgs false
theorem laws_szPointS_ok {x : (List QIIIE)} {N : Nat} {left : Int} {kf : Int → Option Ret} (hw : wf (.sl tQIIIE) x) (hN : sizeV (.sl tQIIIE) x < N) (h0 : 0 ≤ left) (h1 : left ≤ 1048576) : laws_szPointS N x left kf = kf (szr left (sizeV (.sl tQIIIE) x)) := by
  have hl := wf_len hw
  have hm := maxLen_eq
  have hs := sizeV_len (t := tQIIIE) x
  unfold laws_szPointS
  rw [wrap64 (by omega) (by omega)]
  rw [sizeV_sl (t := tQIIIE) (by decide) x]
  unfold szr
  by_cases h : left - (x.length : Int) < 0
  · rw [decide_eq_true h, cond_true, if_neg (by omega)]
  · rw [decide_eq_false h, cond_false, if_pos (by omega)]
theorem laws_toPoint_ok {x : QIIIE} {N : Nat} {kf : QIIIE → Option Ret} (hN : sizeV tQIIIE x < N) (hb : sizeV tQIIIE x ≤ 1048576) : laws_toPoint N x kf = kf x := by
  have hs : sizeV tQIIIE x = 0 := by simp [sizeV]
  rw [hs] at hN hb
  unfold laws_toPoint
  rfl
theorem laws_toPointS_ok {x : (List QIIIE)} {N : Nat} {kf : (List QIIIE) → Option Ret} (hN : sizeV (.sl tQIIIE) x < N) (hb : sizeV (.sl tQIIIE) x ≤ 1048576) : laws_toPointS N x kf = kf x := by
  have hs := sizeV_len (t := tQIIIE) x
  have hm := maxLen_eq
  unfold laws_toPointS
  rw [lenDec (by omega), cond_true, laws_toPointS_l3_r (by omega) (by omega)]
  have hg := goL_to (g := fun x k => laws_toPoint N x k) (kend := kf) x 0 (List.replicate (Int.toNat (x.length : Int)) ((0 : Int), ((0 : Int), (0 : Int)))) (fun y hy k => laws_toPoint_ok (by have := sizeV_mem (t := tQIIIE) hy; omega) (by have := sizeV_mem (t := tQIIIE) hy; omega)) (by simp)
  refine Eq.trans hg ?_
  simp
theorem laws_eqPoint_ok {x : QIIIE} {N : Nat} {kf : Bool → Option Ret} (hN : sizeV tQIIIE x < N) (hw : sizeV tQIIIE x ≤ 2097152) : laws_eqPoint N x x kf = kf true := by
  have hs : sizeV tQIIIE x = 0 := by simp [sizeV]
  rw [hs] at hN hw
  unfold laws_eqPoint
  simp only [bne_self_eq_false, cond_false]
theorem laws_eqPointS_ok {x : (List QIIIE)} {N : Nat} {kf : Bool → Option Ret} (hN : sizeV (.sl tQIIIE) x < N) (hw : sizeV (.sl tQIIIE) x ≤ 2097152) : laws_eqPointS N x x kf = kf true := by
  have hs := sizeV_len (t := tQIIIE) x
  have hm := maxLen_eq
  unfold laws_eqPointS
  simp only [bne_self_eq_false, cond_false]
  rw [laws_eqPointS_l4_r (by omega) (by omega)]
  refine goL_eq (l := x) (fun i y next h e => ?_) x 0 rfl
  simp only [inB_nat h, Int.toNat_natCast, getD_nat _ i h, e, cond_true]
  have hy : y ∈ x := by rw [← e]; exact List.getElem_mem h
  rw [laws_eqPoint_ok (by have := sizeV_mem (t := tQIIIE) hy; omega) (by have := sizeV_mem (t := tQIIIE) hy; omega)]
  simp
end Go.Pv.R
