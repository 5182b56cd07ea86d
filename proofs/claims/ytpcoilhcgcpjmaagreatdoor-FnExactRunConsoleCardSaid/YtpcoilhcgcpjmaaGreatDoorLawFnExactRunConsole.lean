/- The statement FnExactRunConsoleSaid: the law's row, out of its plain law and of what its functions compute. -/
import Derived.Test.YtpcoilhcgcpjmaaGreatDoorLawAFnExactRunConsole
import Derived.Test.YtpcoilhcgcpjmaaGreatDoorLawBFnExactRunConsole
import Derived.Test.YtpcoilhcgcpjmaaGreatDoorLawCFnExactRunConsole
namespace Go.Proofs.YtpcoilhcgcpjmaaGreatDoor.v7
open Go.ChangeShapes Go.WideShapes Go.ChangeAt Go.RowKit Go.Pv Go.Pv.R
set_option linter.unusedVariables false
theorem over : Rows.fnExactRunConsoleRow.holds Tryz.pinned (OpenSpec.ofChange Rows.fnExactRunConsoleSpec) :=
  OpenClaim.holds_of_wide 3 Tryz.f3 rfl rfl rfl rfl rfl rfl rfl ⟨rfl, rfl, rfl, rfl, rfl⟩ rfl rfl rfl rfl rfl (by kernel_rfl) Tryz.func3 closed
    (of_decide_eq_true (by kernel_rfl)) (by unfold Func.isWrapper; first | (rw [if_pos (by decide +kernel)]; kernel_rfl) | (rw [if_neg (by decide +kernel)]; exact ⟨rfl, rfl⟩))
    (fun os started H enc _ => lifted os started H enc)
theorem proved : Rows.FnExactRunConsoleCardSaid :=
  Claim7.holds_tied_plain_at .later [] [.data, .data, .data, .data, .pinned] true (true, "365fa00c43d7a0957382493c86a8e570216ff92ad63ba253f06f0347d99469e2") false
    over (fun _ h => by cases h) (by kernel_rfl) (fun _ h => by cases h) fnExactRunConsole_row_tie rfl ⟨rfl, rfl⟩ (by kernel_rfl) rfl
    (fun f fn hf hfn => by
      obtain rfl : f = 3 := Option.some.inj ((show Tryz.prog.funcNamed "loop.example/g03009/laws.FnExactRunConsole" = some 3 by kernel_rfl).symm.trans hf) |>.symm
      obtain rfl : fn = Tryz.f3 := (Option.some.inj (Tryz.func3.symm.trans hfn)).symm
      exact ⟨looks, fun j t ht => by
        rw [Tryz.params3] at ht
        have hm : t ∈ [9] := by simpa using Array.mem_of_getElem? ht
        have tR : ([9].all fun u => !Tryz.prog.wantsStandIn u) = true := by kernel_rfl
        exact (show Tryz.prog.wantsStandIn t = false by simpa using List.all_eq_true.1 tR t hm)⟩)
    goesBy
end Go.Proofs.YtpcoilhcgcpjmaaGreatDoor.v7
namespace Go.Proofs.YtpcoilhcgcpjmaaGreatDoor
/-- The card, under a short name, for the claim. -/
theorem fnExactRunConsole_holds : Rows.FnExactRunConsoleCardSaid := v7.proved
end Go.Proofs.YtpcoilhcgcpjmaaGreatDoor
