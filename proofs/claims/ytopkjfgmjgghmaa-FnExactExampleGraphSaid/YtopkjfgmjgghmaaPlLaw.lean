/- The law over the plain functions. -/
import Derived.Test.YtopkjfgmjgghmaaPlHz
namespace Go.Pv.R
set_option linter.unusedVariables false
set_option linter.unusedSimpArgs false
end Go.Pv.R
namespace Go.Pv.R
set_option linter.unusedVariables false
set_option linter.unusedSimpArgs false
end Go.Pv.R
namespace Go.Pv.R
set_option linter.unusedVariables false
set_option linter.unusedSimpArgs false
end Go.Pv.R
namespace Go.Pv
set_option linter.unusedVariables false
set_option linter.unusedSimpArgs false
end Go.Pv
namespace Go.Pv.R
set_option linter.unusedVariables false
set_option linter.unusedSimpArgs false
end Go.Pv.R
namespace Go.Pv
set_option linter.unusedVariables false
set_option linter.unusedSimpArgs false
end Go.Pv
namespace Go.Pv.R
set_option linter.unusedVariables false
set_option linter.unusedSimpArgs false
end Go.Pv.R
namespace Go.Pv.R
set_option linter.unusedVariables false
set_option linter.unusedSimpArgs false
end Go.Pv.R
namespace Go.Pv.R
set_option linter.unusedVariables false
set_option linter.unusedSimpArgs false
end Go.Pv.R
namespace Go.Pv
set_option linter.unusedVariables false
set_option linter.unusedSimpArgs false
end Go.Pv
namespace Go.Pv.R
set_option linter.unusedVariables false
set_option linter.unusedSimpArgs false
end Go.Pv.R
namespace Go.Pv.R
set_option linter.unusedVariables false
set_option linter.unusedSimpArgs false
def exG : QILLIE := ((5 : Int), [[(0 : Int), (1 : Int)], [(1 : Int), (0 : Int)], [(1 : Int), (2 : Int)], [(2 : Int), (3 : Int)], [(3 : Int), (4 : Int)], [(4 : Int), (2 : Int)]])
theorem exG_size : sizeV tQILLIE exG = 18 := by decide
theorem lawFnExactExampleGraph (h : wfs [] ()) : ∃ N, ∀ kf, laws_FnExactExampleGraph N kf = kf true := by
  refine ⟨100, fun kf => ?_⟩
  have hs := exG_size
  have hm := markT_le tQILLIE exG 1 (by decide)
  rw [hs] at hm
  have e2 : decide ((markT tQILLIE exG 1).2 < 0) = false := decide_eq_false (by omega)
  have hE1 : ∀ k, spec_ExampleGraph 100 k = k exG := fun _ => rfl
  have hE2 : ∀ k, impl_ExampleGraph 100 k = k exG := fun _ => rfl
  have hq : ∀ k, laws_eqGraph 100 exG exG k = k true := fun k => laws_eqGraph_ok (by omega) (by omega)
  have hM : ∀ k, laws_markGraph 100 exG 1 k = k (markT tQILLIE exG 1).2 (markT tQILLIE exG 1).1 := fun k => laws_markGraph_ok (by omega) (by omega) (by omega) (by omega)
  have hH : ∀ k, laws_heldGraph 100 (markT tQILLIE exG 1).1 1 k = k (markT tQILLIE exG 1).2 := fun k => laws_heldGraph_ok (by omega) (by omega) (by omega) (by omega)
  have he : (exG.1, (markT tQILLIE exG 1).1.2) = (markT tQILLIE exG 1).1 := rfl
  unfold laws_FnExactExampleGraph
  simp only [hE1, hE2, hq, hM, he, hH, e2, Bool.not_true, cond_false, bne_self_eq_false]
end Go.Pv.R
