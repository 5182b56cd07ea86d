/- The statement FnExactRunConsoleSaid: closed facts of the law's row. -/
import Derived.Test.YtpcoilhcgcpjmaaGreatDoorRows
import Derived.Test.YtpcoilhcgcpjmaaGreatDoorChecked
import Derived.JoinedOf
import Derived.KernelRfl
namespace Go.Proofs.YtpcoilhcgcpjmaaGreatDoor.v7
theorem both {a b : Bool} (h : a = true) (k : b = true) : (a && b) = true := by rw [h, k]; rfl
theorem inPlace : (Rows.fnExactRunConsoleRow.inPlace == Tryz.prog.inPlace 3) = true := by kernel_rfl
theorem unfollowed : (Rows.fnExactRunConsoleRow.unfollowed == Tryz.prog.unfollowed 3) = true := by kernel_rfl
theorem recurses : (Rows.fnExactRunConsoleRow.recurses == Tryz.prog.recurses 3) = true := by kernel_rfl
theorem named : (Rows.fnExactRunConsoleRow.named == Tryz.prog.varsNamed 3) = true := by kernel_rfl
theorem stopsHeard : Tryz.prog.stopsHeard = true := by kernel_rfl
theorem mayEnter : Tryz.prog.mayEnter = true := by kernel_rfl
theorem closed : joinedFacts Tryz.prog 3 Tryz.f3 Rows.fnExactRunConsoleSpec Rows.fnExactRunConsoleRow = true := both (both (both (both (both (both (both (both (both (both (both (both (both (both (both (both (both (both (both (both (both (both (both (by kernel_rfl) inPlace) unfollowed) recurses) named) (by kernel_rfl)) (by kernel_rfl)) (by kernel_rfl)) (by kernel_rfl)) (by kernel_rfl)) (by kernel_rfl)) (by kernel_rfl)) (by kernel_rfl)) (by kernel_rfl)) (by kernel_rfl)) (by kernel_rfl)) stopsHeard) mayEnter) (by kernel_rfl)) (by kernel_rfl)) (by kernel_rfl)) (by kernel_rfl)) (by kernel_rfl)) (by kernel_rfl)
end Go.Proofs.YtpcoilhcgcpjmaaGreatDoor.v7
