/- What the harness' functions answer. -/
import Derived.Test.YthdoldaaodmeeaaDoorPlLst
namespace Go.Pv.R
set_option linter.unusedVariables false
set_option linter.unusedSimpArgs false
theorem laws_toIntS_ok {x : (List Int)} {N : Nat} {kf : (List Int) → Option Ret} (hN : sizeV (.sl (.int .i64)) x < N) (hb : sizeV (.sl (.int .i64)) x ≤ 1048576) : laws_toIntS N x kf = kf x := by
  have hs := sizeV_len (t := (.int .i64)) x
  have hm := maxLen_eq
  unfold laws_toIntS
  rw [lenDec (by omega), cond_true, laws_toIntS_l3_r (by omega) (by omega)]
  have hg := goL_to (g := fun x k => k x) (kend := kf) x 0 (List.replicate (Int.toNat (x.length : Int)) (0 : Int)) (fun _ _ _ => rfl) (by simp)
  refine Eq.trans hg ?_
  simp
theorem laws_eqIntS_ok {x : (List Int)} {N : Nat} {kf : Bool → Option Ret} (hN : sizeV (.sl (.int .i64)) x < N) (hw : sizeV (.sl (.int .i64)) x ≤ 2097152) : laws_eqIntS N x x kf = kf true := by
  have hs := sizeV_len (t := (.int .i64)) x
  have hm := maxLen_eq
  unfold laws_eqIntS
  simp only [bne_self_eq_false, cond_false]
  rw [laws_eqIntS_l4_r (by omega) (by omega)]
  refine goL_eq (l := x) (fun i y next h e => ?_) x 0 rfl
  simp only [inB_nat h, Int.toNat_natCast, getD_nat _ i h, e, cond_true]
  simp
end Go.Pv.R
