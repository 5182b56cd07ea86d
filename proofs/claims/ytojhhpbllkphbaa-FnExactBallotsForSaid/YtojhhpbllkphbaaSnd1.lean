/- Each function of the program that the law reaches computes its plain function, part 1. -/
import Derived.Test.YtojhhpbllkphbaaSnd0
import Derived.Test.YtojhhpbllkphbaaProg
namespace Go.Pv.R
open Go.Proofs
set_option linter.unusedVariables false
set_option maxRecDepth 100000
/-! laws_FnExactBallotsFor -/
noncomputable def h_laws_FnExactBallotsFor : Hint := { tab, hn := [], loops := [], outs := [], ords := [(13, (OT.seq [0, 1, 2, 3, 4] .done))] }
noncomputable def sg_laws_FnExactBallotsFor : List AK := [.v tQLQIIIIILIELQIILIELQIIELILQIIIELQIIIIEIE .k, .v (.sl (.int .i64)) .k]
noncomputable def F_laws_FnExactBallotsFor (N : Nat) (x : AVals sg_laws_FnExactBallotsFor) (kf : Ret → Option Ret) : Option Ret := laws_FnExactBallotsFor N x.1 x.2.1 (fun r0 => kf ⟨[⟨.bool, .k, r0⟩], []⟩)
noncomputable def run_laws_FnExactBallotsFor (N : Nat) := runOf sg_laws_FnExactBallotsFor (F_laws_FnExactBallotsFor N)
noncomputable def es_laws_FnExactBallotsFor (N : Nat) : List Entry := [⟨13, [.val, .val], (run_laws_szClub N)⟩, ⟨15, [.val], (run_laws_toClub N)⟩, ⟨25, [.val], (run_laws_toIntS N)⟩, ⟨24, [.val, .val], (run_spec_BallotsFor N)⟩, ⟨26, [.val, .val], (run_impl_BallotsFor N)⟩, ⟨27, [.val, .val], (run_laws_eqEventS N)⟩, ⟨17, [.val, .val], (run_laws_eqClub N)⟩, ⟨20, [.val, .val], (run_laws_eqIntS N)⟩, ⟨21, [.lend, .val], (run_laws_markClub N)⟩, ⟨22, [.lend, .val], (run_laws_markIntS N)⟩, ⟨28, [.lend, .val], (run_laws_markEventS N)⟩, ⟨29, [.val, .val], (run_laws_heldEventS N)⟩]
noncomputable def body_laws_FnExactBallotsFor : Code := match Try.f5.body with | some c => c | none => .skip
noncomputable def L_laws_FnExactBallotsFor (N n : Nat) (key : Nat) (S : St) (K : Ks) : Option Ret := none
theorem L0_laws_FnExactBallotsFor (N key : Nat) (S : St) (K : Ks) : L_laws_FnExactBallotsFor N 0 key S K = none := rfl
theorem ls_laws_FnExactBallotsFor : loopsIn body_laws_FnExactBallotsFor = [] := by kernel_rfl
theorem fn_laws_FnExactBallotsFor (N : Nat) (x : AVals sg_laws_FnExactBallotsFor) (kf : Ret → Option Ret) : F_laws_FnExactBallotsFor N x kf = peFunc h_laws_FnExactBallotsFor (Orc.of (es_laws_FnExactBallotsFor N)) (L_laws_FnExactBallotsFor N N) Try.f5 (ashape sg_laws_FnExactBallotsFor x) kf := by kernel_rfl
theorem sd_laws_FnExactBallotsFor (N : Nat) : Sound Try.prog 5 (run_laws_FnExactBallotsFor N) := fun_ok2 (hh := h_laws_FnExactBallotsFor) mixed tab_ok (es := es_laws_FnExactBallotsFor N) ⟨sd_laws_szClub N, ⟨sd_laws_toClub N, ⟨sd_laws_toIntS N, ⟨sd_spec_BallotsFor N, ⟨sd_impl_BallotsFor N, ⟨sd_laws_eqEventS N, ⟨sd_laws_eqClub N, ⟨sd_laws_eqIntS N, ⟨sd_laws_markClub N, ⟨sd_laws_markIntS N, ⟨sd_laws_markEventS N, ⟨sd_laws_heldEventS N, trivial⟩⟩⟩⟩⟩⟩⟩⟩⟩⟩⟩⟩ (fn := Try.f5) (body := body_laws_FnExactBallotsFor) (by kernel_rfl) (by kernel_rfl) (by kernel_rfl) (by kernel_rfl) (by kernel_rfl) (Lf := L_laws_FnExactBallotsFor N) (L0_laws_FnExactBallotsFor N) ls_laws_FnExactBallotsFor trivial (N := N) (by kernel_rfl) (fn_laws_FnExactBallotsFor N)
end Go.Pv.R
