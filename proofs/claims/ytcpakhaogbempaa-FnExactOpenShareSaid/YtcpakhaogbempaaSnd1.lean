/- Each function of the program that the law reaches computes its plain function, part 1. -/
import Derived.Test.YtcpakhaogbempaaSnd0
import Derived.Test.YtcpakhaogbempaaProg
namespace Go.Pv.R
open Go.Proofs
set_option linter.unusedVariables false
set_option maxRecDepth 100000
/-! laws_eqGraph -/
noncomputable def h_laws_eqGraph : Hint := { tab, hn := [], loops := [], outs := [], ords := [] }
noncomputable def sg_laws_eqGraph : List AK := [.v tQILLIE .k, .v tQILLIE .k]
noncomputable def F_laws_eqGraph (N : Nat) (x : AVals sg_laws_eqGraph) (kf : Ret → Option Ret) : Option Ret := laws_eqGraph N x.1 x.2.1 (fun r0 => kf ⟨[⟨.bool, .k, r0⟩], []⟩)
noncomputable def run_laws_eqGraph (N : Nat) := runOf sg_laws_eqGraph (F_laws_eqGraph N)
noncomputable def es_laws_eqGraph (N : Nat) : List Entry := [⟨65, [.val, .val], (run_laws_eqIntSS N)⟩]
noncomputable def body_laws_eqGraph : Code := match Try.f20.body with | some c => c | none => .skip
noncomputable def L_laws_eqGraph (N n : Nat) (key : Nat) (S : St) (K : Ks) : Option Ret := none
theorem L0_laws_eqGraph (N key : Nat) (S : St) (K : Ks) : L_laws_eqGraph N 0 key S K = none := rfl
theorem ls_laws_eqGraph : loopsIn body_laws_eqGraph = [] := by kernel_rfl
theorem fn_laws_eqGraph (N : Nat) (x : AVals sg_laws_eqGraph) (kf : Ret → Option Ret) : F_laws_eqGraph N x kf = peFunc h_laws_eqGraph (Orc.of (es_laws_eqGraph N)) (L_laws_eqGraph N N) Try.f20 (ashape sg_laws_eqGraph x) kf := by kernel_rfl
theorem sd_laws_eqGraph {Γ : Gl} (N : Nat) : Sound Γ Try.prog 20 (run_laws_eqGraph N) := fun_ok2 (hh := h_laws_eqGraph) mixed tab_ok (es := es_laws_eqGraph N) ⟨sd_laws_eqIntSS N, trivial⟩ (fn := Try.f20) (body := body_laws_eqGraph) (by kernel_rfl) (by kernel_rfl) (by kernel_rfl) (by kernel_rfl) (by kernel_rfl) (Lf := L_laws_eqGraph N) (L0_laws_eqGraph N) ls_laws_eqGraph trivial (N := N) (by kernel_rfl) (fn_laws_eqGraph N) (.inl (by kernel_rfl))
/-! laws_FnExactOpenShare -/
noncomputable def h_laws_FnExactOpenShare : Hint := { tab, hn := [], loops := [], outs := [], ords := [(10, (OT.seq [0, 1, 2, 3, 4] .done))] }
noncomputable def sg_laws_FnExactOpenShare : List AK := [.v tQILLIE .k]
noncomputable def F_laws_FnExactOpenShare (N : Nat) (x : AVals sg_laws_FnExactOpenShare) (kf : Ret → Option Ret) : Option Ret := laws_FnExactOpenShare N x.1 (fun r0 => kf ⟨[⟨.bool, .k, r0⟩], []⟩)
noncomputable def run_laws_FnExactOpenShare (N : Nat) := runOf sg_laws_FnExactOpenShare (F_laws_FnExactOpenShare N)
noncomputable def es_laws_FnExactOpenShare (N : Nat) : List Entry := [⟨16, [.val, .val], (run_laws_szGraph N)⟩, ⟨18, [.val], (run_laws_toGraph N)⟩, ⟨17, [.val], (run_spec_OpenShare N)⟩, ⟨19, [.val], (run_impl_OpenShare N)⟩, ⟨20, [.val, .val], (run_laws_eqGraph N)⟩]
noncomputable def body_laws_FnExactOpenShare : Code := match Try.f4.body with | some c => c | none => .skip
noncomputable def L_laws_FnExactOpenShare (N n : Nat) (key : Nat) (S : St) (K : Ks) : Option Ret := none
theorem L0_laws_FnExactOpenShare (N key : Nat) (S : St) (K : Ks) : L_laws_FnExactOpenShare N 0 key S K = none := rfl
theorem ls_laws_FnExactOpenShare : loopsIn body_laws_FnExactOpenShare = [] := by kernel_rfl
theorem fn_laws_FnExactOpenShare (N : Nat) (x : AVals sg_laws_FnExactOpenShare) (kf : Ret → Option Ret) : F_laws_FnExactOpenShare N x kf = peFunc h_laws_FnExactOpenShare (Orc.of (es_laws_FnExactOpenShare N)) (L_laws_FnExactOpenShare N N) Try.f4 (ashape sg_laws_FnExactOpenShare x) kf := by kernel_rfl
theorem sd_laws_FnExactOpenShare {Γ : Gl} (N : Nat) : Sound Γ Try.prog 4 (run_laws_FnExactOpenShare N) := fun_ok2 (hh := h_laws_FnExactOpenShare) mixed tab_ok (es := es_laws_FnExactOpenShare N) ⟨sd_laws_szGraph N, ⟨sd_laws_toGraph N, ⟨sd_spec_OpenShare N, ⟨sd_impl_OpenShare N, ⟨sd_laws_eqGraph N, trivial⟩⟩⟩⟩⟩ (fn := Try.f4) (body := body_laws_FnExactOpenShare) (by kernel_rfl) (by kernel_rfl) (by kernel_rfl) (by kernel_rfl) (by kernel_rfl) (Lf := L_laws_FnExactOpenShare N) (L0_laws_FnExactOpenShare N) ls_laws_FnExactOpenShare trivial (N := N) (by kernel_rfl) (fn_laws_FnExactOpenShare N) (.inl (by kernel_rfl))
end Go.Pv.R
