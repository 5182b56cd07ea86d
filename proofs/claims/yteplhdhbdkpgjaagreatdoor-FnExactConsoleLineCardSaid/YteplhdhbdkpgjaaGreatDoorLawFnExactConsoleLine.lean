/- The statement FnExactConsoleLineSaid: the law's row, out of its plain law and of what its functions compute. -/
import Derived.Test.YteplhdhbdkpgjaaGreatDoorLawAFnExactConsoleLine
import Derived.Test.YteplhdhbdkpgjaaGreatDoorLawBFnExactConsoleLine
import Derived.Test.YteplhdhbdkpgjaaGreatDoorLawCFnExactConsoleLine
namespace Go.Proofs.YteplhdhbdkpgjaaGreatDoor.nE
open Go.ChangeShapes Go.WideShapes Go.ChangeAt Go.RowKit Go.Pv Go.Pv.R
set_option linter.unusedVariables false
theorem over : Rows.fnExactConsoleLineRow.holds Tryz.pinned (OpenSpec.ofChange Rows.fnExactConsoleLineSpec) :=
  OpenClaim.holds_of_wide 3 Tryz.f3 rfl rfl rfl rfl rfl rfl rfl ⟨rfl, rfl, rfl, rfl, rfl⟩ rfl rfl rfl rfl rfl (by kernel_rfl) Tryz.func3 closed
    (of_decide_eq_true (by kernel_rfl)) (by unfold Func.isWrapper; first | (rw [if_pos (by decide +kernel)]; kernel_rfl) | (rw [if_neg (by decide +kernel)]; exact ⟨rfl, rfl⟩))
    (fun os started H enc _ => lifted os started H enc)
theorem proved : Rows.FnExactConsoleLineCardSaid :=
  Claim7.holds_tied_plain_at .later [] [.data, .data, .data, .data, .pinned] true (true, "2eee948a0552d2b4f484eec8d52fe291b5fb766d01b7ca56104a264599f40481") false
    over (fun _ h => by cases h) (by kernel_rfl) (fun _ h => by cases h) fnExactConsoleLine_row_tie rfl ⟨rfl, rfl⟩ (by kernel_rfl) rfl
    (fun f fn hf hfn => by
      obtain rfl : f = 3 := Option.some.inj ((show Tryz.prog.funcNamed "loop.example/g03009/laws.FnExactConsoleLine" = some 3 by kernel_rfl).symm.trans hf) |>.symm
      obtain rfl : fn = Tryz.f3 := (Option.some.inj (Tryz.func3.symm.trans hfn)).symm
      exact ⟨looks, fun j t ht => by
        rw [Tryz.params3] at ht
        have hm : t ∈ [29, 9] := by simpa using Array.mem_of_getElem? ht
        have tZ : ([29, 9].all fun u => !Tryz.prog.wantsStandIn u) = true := by kernel_rfl
        exact (show Tryz.prog.wantsStandIn t = false by simpa using List.all_eq_true.1 tZ t hm)⟩)
    goesBy
end Go.Proofs.YteplhdhbdkpgjaaGreatDoor.nE
namespace Go.Proofs.YteplhdhbdkpgjaaGreatDoor
/-- The card, under a short name, for the claim. -/
theorem fnExactConsoleLine_holds : Rows.FnExactConsoleLineCardSaid := nE.proved
end Go.Proofs.YteplhdhbdkpgjaaGreatDoor
