/- The law over the plain functions. -/
import Derived.Test.YtclodbdakphhfaaPlHz
namespace Go.Pv.R
set_option linter.unusedVariables false
set_option linter.unusedSimpArgs false
end Go.Pv.R
namespace Go.Pv.R
set_option linter.unusedVariables false
set_option linter.unusedSimpArgs false
theorem spec_l1In_ok {N : Nat} {a b c : Int} {kf : Bool → Option Ret} : spec_l1In N a b c kf = kf (inR a b c) := by
  unfold spec_l1In inR
  by_cases h : b ≤ a <;> simp [h]
end Go.Pv.R
namespace Go.Pv.R
set_option linter.unusedVariables false
set_option linter.unusedSimpArgs false
end Go.Pv.R
namespace Go.Pv
set_option linter.unusedVariables false
set_option linter.unusedSimpArgs false
end Go.Pv
namespace Go.Pv.R
set_option linter.unusedVariables false
set_option linter.unusedSimpArgs false
end Go.Pv.R
namespace Go.Pv
set_option linter.unusedVariables false
set_option linter.unusedSimpArgs false
end Go.Pv
namespace Go.Pv.R
set_option linter.unusedVariables false
set_option linter.unusedSimpArgs false
end Go.Pv.R
namespace Go.Pv.R
set_option linter.unusedVariables false
set_option linter.unusedSimpArgs false
end Go.Pv.R
namespace Go.Pv.R
set_option linter.unusedVariables false
set_option linter.unusedSimpArgs false
end Go.Pv.R
namespace Go.Pv
set_option linter.unusedVariables false
set_option linter.unusedSimpArgs false
end Go.Pv
namespace Go.Pv.R
set_option linter.unusedVariables false
set_option linter.unusedSimpArgs false
end Go.Pv.R
namespace Go.Pv.R
set_option linter.unusedVariables false
set_option linter.unusedSimpArgs false
end Go.Pv.R
namespace Go.Pv.R
set_option linter.unusedVariables false
set_option linter.unusedSimpArgs false
end Go.Pv.R
namespace Go.Pv
set_option linter.unusedVariables false
set_option linter.unusedSimpArgs false
end Go.Pv
namespace Go.Pv.R
set_option linter.unusedVariables false
set_option linter.unusedSimpArgs false
end Go.Pv.R
namespace Go.Pv.R
set_option linter.unusedVariables false
set_option linter.unusedSimpArgs false
end Go.Pv.R
namespace Go.Pv.R
set_option linter.unusedVariables false
set_option linter.unusedSimpArgs false
theorem spec_EventName_ok {N : Nat} {k : Int} {kf : ByteArray → Option Ret} : spec_EventName N k kf = kf (impl_EventName_g k) := by
  by_cases hk : k = 1 ∨ k = 2 ∨ k = 3 ∨ k = 4 ∨ k = 5 ∨ k = 6
  · rcases hk with rfl | rfl | rfl | rfl | rfl | rfl <;> rfl
  · unfold spec_EventName
    rw [spec_l1In_ok]
    have e : inR k 1 6 = false := by
      cases h : inR k 1 6 with
      | false => rfl
      | true =>
        unfold inR at h
        simp only [Bool.and_eq_true, decide_eq_true_eq] at h
        omega
    have e2 : impl_EventName_g k = ⟨#[]⟩ := by
      unfold impl_EventName_g
      simp only [beq_eq_false_iff_ne.2 (show k ≠ 1 by omega), beq_eq_false_iff_ne.2 (show k ≠ 2 by omega), beq_eq_false_iff_ne.2 (show k ≠ 3 by omega), beq_eq_false_iff_ne.2 (show k ≠ 4 by omega), beq_eq_false_iff_ne.2 (show k ≠ 5 by omega), beq_eq_false_iff_ne.2 (show k ≠ 6 by omega), cond_false]
    rw [e, e2]
    rfl
theorem lawFnExactEventName (k : Int) (h : wfs [.int .i64] (k, ())) : ∃ N, ∀ kf, laws_FnExactEventName N k kf = kf true := by
  refine ⟨0, fun kf => ?_⟩
  unfold laws_FnExactEventName
  rw [spec_EventName_ok]
  unfold impl_EventName
  simp only [beq_self_eq_true, Bool.not_true, cond_false]
end Go.Pv.R
