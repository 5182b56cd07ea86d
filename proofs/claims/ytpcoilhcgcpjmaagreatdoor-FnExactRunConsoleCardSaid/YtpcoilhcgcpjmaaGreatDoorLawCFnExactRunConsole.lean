/- The statement FnExactRunConsoleSaid: closed facts of the law's row: what it starts, what it looks at. -/
import Derived.Test.YtpcoilhcgcpjmaaGreatDoorRows
import Derived.Test.YtpcoilhcgcpjmaaGreatDoorChecked
import Derived.SevenTiedAt
import Derived.KernelRfl
namespace Go.Proofs.YtpcoilhcgcpjmaaGreatDoor.v7
theorem either {a b : Bool} (h : a = false) (k : b = false) : false = (a || b) := by rw [h, k]; rfl
theorem goes : ((Tryz.prog.closure 3).any fun g => (Tryz.prog.funcs[g]?).any Func.goes) = false := by kernel_rfl
theorem goesAt : (Tryz.prog.unfollowed 3 && Tryz.prog.funcs.any Func.goes) = false := by kernel_rfl
theorem looks : false = Tryz.prog.looks [] := by kernel_rfl
theorem goesFrom : Tryz.prog.goes 3 = false := Eq.trans (b := ((Tryz.prog.closure 3).any fun g => (Tryz.prog.funcs[g]?).any Func.goes) || (Tryz.prog.unfollowed 3 && Tryz.prog.funcs.any Func.goes)) (by kernel_rfl) (either goes goesAt).symm
theorem goesBy : false = Rows.fnExactRunConsoleRow.goesBy Tryz.prog := by
  unfold OpenClaim.goesBy Program.goesAt Program.goesFrom
  rw [show Tryz.prog.funcNamed Rows.fnExactRunConsoleRow.func = some 3 by kernel_rfl, Option.any_some, goesFrom]
  kernel_rfl
end Go.Proofs.YtpcoilhcgcpjmaaGreatDoor.v7
