/- The statement FnExactConsoleLineSaid: the law's row, out of its plain law and of what its functions compute. -/
import Derived.Test.YteplhdhbdkpgjaaGreatDoorRows
import Derived.Test.YteplhdhbdkpgjaaGreatDoorChecked
import Derived.JoinedOf
import Derived.KernelRfl
namespace Go.Proofs.YteplhdhbdkpgjaaGreatDoor.nE
theorem both {a b : Bool} (h : a = true) (k : b = true) : (a && b) = true := by rw [h, k]; rfl
theorem inPlace : (Rows.fnExactConsoleLineRow.inPlace == Tryz.prog.inPlace 3) = true := by kernel_rfl
theorem unfollowed : (Rows.fnExactConsoleLineRow.unfollowed == Tryz.prog.unfollowed 3) = true := by kernel_rfl
theorem recurses : (Rows.fnExactConsoleLineRow.recurses == Tryz.prog.recurses 3) = true := by kernel_rfl
theorem named : (Rows.fnExactConsoleLineRow.named == Tryz.prog.varsNamed 3) = true := by kernel_rfl
theorem stopsHeard : Tryz.prog.stopsHeard = true := by kernel_rfl
theorem mayEnter : Tryz.prog.mayEnter = true := by kernel_rfl
theorem closed : joinedFacts Tryz.prog 3 Tryz.f3 Rows.fnExactConsoleLineSpec Rows.fnExactConsoleLineRow = true := both (both (both (both (both (both (both (both (both (both (both (both (both (both (both (both (both (both (both (both (both (both (both (by kernel_rfl) inPlace) unfollowed) recurses) named) (by kernel_rfl)) (by kernel_rfl)) (by kernel_rfl)) (by kernel_rfl)) (by kernel_rfl)) (by kernel_rfl)) (by kernel_rfl)) (by kernel_rfl)) (by kernel_rfl)) (by kernel_rfl)) (by kernel_rfl)) stopsHeard) mayEnter) (by kernel_rfl)) (by kernel_rfl)) (by kernel_rfl)) (by kernel_rfl)) (by kernel_rfl)) (by kernel_rfl)
end Go.Proofs.YteplhdhbdkpgjaaGreatDoor.nE
