/- Each function of the program that the law reaches computes its plain function, part 0. -/
import Derived.Test.YtclodbdakphhfaaPlRes
import Derived.Test.YtclodbdakphhfaaPrim
import Derived.WalkKit
import Derived.Lib.Walk
import Derived.Test.YtclodbdakphhfaaProg
namespace Go.Pv.R
open Go.Proofs
set_option linter.unusedVariables false
set_option maxRecDepth 100000
noncomputable abbrev dK : Kd := .dead
noncomputable def tab : Tab := [⟨2, (.int .i64), 0, []⟩, ⟨3, (.int .i64), 0, []⟩, ⟨4, .bool, 0, []⟩, ⟨5, (.int .u8), 0, []⟩, ⟨9, .str, 0, []⟩, ⟨12, (.int .u64), 0, []⟩, ⟨21, (.int .i32), 0, []⟩, ⟨24, (.sl (.int .i64)), 3, []⟩, ⟨30, (.sl tQIIIIE), 60, []⟩, ⟨33, (.sl tQIIIIE), 57, []⟩, ⟨38, (.sl (.sl (.int .i64))), 24, []⟩, ⟨39, tQILLIE, 0, [3, 38]⟩, ⟨40, tQILLIE, 0, [3, 38]⟩, ⟨43, tQILLIE, 0, [3, 38]⟩, ⟨48, (.sl .str), 9, []⟩, ⟨56, tQIIIIE, 0, [3, 3, 3, 3]⟩, ⟨57, tQIIIIE, 0, [3, 3, 3, 3]⟩, ⟨60, tQIIIIE, 0, [3, 3, 3, 3]⟩, ⟨76, (.int .u64), 0, []⟩, ⟨80, (.int .u64), 0, []⟩, ⟨85, (.int .i64), 0, []⟩, ⟨94, (.int .u32), 0, []⟩, ⟨98, (.sl (.int .u64)), 80, []⟩, ⟨100, (.int .u64), 0, []⟩]
theorem mixed : Try.prog.follows .mixedOrders = true := by kernel_rfl
theorem tab_ok : tabB Try.prog tab = true := by kernel_rfl
/-! spec_l1In -/
noncomputable def h_spec_l1In : Hint := { tab, hn := [], loops := [], outs := [], ords := [] }
noncomputable def sg_spec_l1In : List AK := [.v (.int .i64) .k, .v (.int .i64) .k, .v (.int .i64) .k]
noncomputable def F_spec_l1In (N : Nat) (x : AVals sg_spec_l1In) (kf : Ret → Option Ret) : Option Ret := spec_l1In N x.1 x.2.1 x.2.2.1 (fun r0 => kf ⟨[⟨.bool, .k, r0⟩], []⟩)
noncomputable def run_spec_l1In (N : Nat) := runOf sg_spec_l1In (F_spec_l1In N)
noncomputable def es_spec_l1In (N : Nat) : List Entry := []
noncomputable def body_spec_l1In : Code := match Try.f28.body with | some c => c | none => .skip
noncomputable def L_spec_l1In (N n : Nat) (key : Nat) (S : St) (K : Ks) : Option Ret := none
theorem L0_spec_l1In (N key : Nat) (S : St) (K : Ks) : L_spec_l1In N 0 key S K = none := rfl
theorem ls_spec_l1In : loopsIn body_spec_l1In = [] := by kernel_rfl
theorem fn_spec_l1In (N : Nat) (x : AVals sg_spec_l1In) (kf : Ret → Option Ret) : F_spec_l1In N x kf = peFunc h_spec_l1In (Orc.of (es_spec_l1In N)) (L_spec_l1In N N) Try.f28 (ashape sg_spec_l1In x) kf := by kernel_rfl
theorem sd_spec_l1In (N : Nat) : Sound Try.prog 28 (run_spec_l1In N) := fun_ok2 (hh := h_spec_l1In) mixed tab_ok (es := es_spec_l1In N) trivial (fn := Try.f28) (body := body_spec_l1In) (by kernel_rfl) (by kernel_rfl) (by kernel_rfl) (by kernel_rfl) (by kernel_rfl) (Lf := L_spec_l1In N) (L0_spec_l1In N) ls_spec_l1In trivial (N := N) (by kernel_rfl) (fn_spec_l1In N) (.inl (by kernel_rfl))
/-! spec_EventName -/
noncomputable def h_spec_EventName : Hint := { tab, hn := [], loops := [], outs := [], ords := [] }
noncomputable def sg_spec_EventName : List AK := [.v (.int .i64) .k]
noncomputable def F_spec_EventName (N : Nat) (x : AVals sg_spec_EventName) (kf : Ret → Option Ret) : Option Ret := spec_EventName N x.1 (fun r0 => kf ⟨[⟨.str, .k, r0⟩], []⟩)
noncomputable def run_spec_EventName (N : Nat) := runOf sg_spec_EventName (F_spec_EventName N)
noncomputable def es_spec_EventName (N : Nat) : List Entry := [⟨28, [.val, .val, .val], (run_spec_l1In N)⟩]
noncomputable def body_spec_EventName : Code := match Try.f8.body with | some c => c | none => .skip
noncomputable def L_spec_EventName (N n : Nat) (key : Nat) (S : St) (K : Ks) : Option Ret := none
theorem L0_spec_EventName (N key : Nat) (S : St) (K : Ks) : L_spec_EventName N 0 key S K = none := rfl
theorem ls_spec_EventName : loopsIn body_spec_EventName = [] := by kernel_rfl
theorem fn_spec_EventName (N : Nat) (x : AVals sg_spec_EventName) (kf : Ret → Option Ret) : F_spec_EventName N x kf = peFunc h_spec_EventName (Orc.of (es_spec_EventName N)) (L_spec_EventName N N) Try.f8 (ashape sg_spec_EventName x) kf := by kernel_rfl
theorem sd_spec_EventName (N : Nat) : Sound Try.prog 8 (run_spec_EventName N) := fun_ok2 (hh := h_spec_EventName) mixed tab_ok (es := es_spec_EventName N) ⟨sd_spec_l1In N, trivial⟩ (fn := Try.f8) (body := body_spec_EventName) (by kernel_rfl) (by kernel_rfl) (by kernel_rfl) (by kernel_rfl) (by kernel_rfl) (Lf := L_spec_EventName N) (L0_spec_EventName N) ls_spec_EventName trivial (N := N) (by kernel_rfl) (fn_spec_EventName N) (.inl (by kernel_rfl))
/-! impl_EventName: told by a walk -/
set_option maxHeartbeats 4000000 in
set_option maxRecDepth 1000000 in
theorem in_impl_EventName (k : Int) (hk : k = 1 ∨ k = 2 ∨ k = 3 ∨ k = 4 ∨ k = 5 ∨ k = 6) (w : World) : Calls Try.prog 9 #[.int .i64 k] w fun e w' => e = .returned (.string (impl_EventName_g k)) ∧ ∃ o, w' = w.alloc o := by
  rcases hk with rfl | rfl | rfl | rfl | rfl | rfl <;>
  · go_enter Try.func9, Try.ntmps9
    go_wp2
    all_goals go_ret
    all_goals exact ⟨rfl, _, rfl⟩
set_option maxHeartbeats 4000000 in
set_option maxRecDepth 1000000 in
theorem lo_impl_EventName (k : Int) (hk : k < 1) (w : World) : Calls Try.prog 9 #[.int .i64 k] w fun e w' => e = .returned (.string (impl_EventName_g k)) ∧ ∃ o, w' = w.alloc o := by
  have e : impl_EventName_g k = ⟨#[]⟩ := by
    unfold impl_EventName_g
    simp only [beq_eq_false_iff_ne.2 (show k ≠ 1 by omega), beq_eq_false_iff_ne.2 (show k ≠ 2 by omega), beq_eq_false_iff_ne.2 (show k ≠ 3 by omega), beq_eq_false_iff_ne.2 (show k ≠ 4 by omega), beq_eq_false_iff_ne.2 (show k ≠ 5 by omega), beq_eq_false_iff_ne.2 (show k ≠ 6 by omega), cond_false]
  rw [e]
  go_enter Try.func9, Try.ntmps9
  go_wp2
  all_goals first | omega | skip
  all_goals go_ret
  all_goals exact ⟨rfl, _, rfl⟩
set_option maxHeartbeats 4000000 in
set_option maxRecDepth 1000000 in
theorem hi_impl_EventName (k : Int) (hk : k > 6) (w : World) : Calls Try.prog 9 #[.int .i64 k] w fun e w' => e = .returned (.string (impl_EventName_g k)) ∧ ∃ o, w' = w.alloc o := by
  have e : impl_EventName_g k = ⟨#[]⟩ := by
    unfold impl_EventName_g
    simp only [beq_eq_false_iff_ne.2 (show k ≠ 1 by omega), beq_eq_false_iff_ne.2 (show k ≠ 2 by omega), beq_eq_false_iff_ne.2 (show k ≠ 3 by omega), beq_eq_false_iff_ne.2 (show k ≠ 4 by omega), beq_eq_false_iff_ne.2 (show k ≠ 5 by omega), beq_eq_false_iff_ne.2 (show k ≠ 6 by omega), cond_false]
  rw [e]
  go_enter Try.func9, Try.ntmps9
  go_wp2
  all_goals first | omega | skip
  all_goals go_ret
  all_goals exact ⟨rfl, _, rfl⟩
theorem call_impl_EventName (k : Int) (w : World) : Calls Try.prog 9 #[.int .i64 k] w fun e w' => e = .returned (.string (impl_EventName_g k)) ∧ ∃ o, w' = w.alloc o := by
  by_cases h1 : k < 1
  · exact lo_impl_EventName k h1 w
  by_cases h2 : k > 6
  · exact hi_impl_EventName k h2 w
  exact in_impl_EventName k (by omega) w
noncomputable def sg_impl_EventName : List AK := [.v (.int .i64) .k]
noncomputable def F_impl_EventName (N : Nat) (x : AVals sg_impl_EventName) (kf : Ret → Option Ret) : Option Ret := impl_EventName N x.1 (fun r0 => kf ⟨[⟨.str, .k, r0⟩], []⟩)
noncomputable def run_impl_EventName (N : Nat) := runOf sg_impl_EventName (F_impl_EventName N)
noncomputable def body_impl_EventName : Code := match Try.f9.body with | some c => c | none => .skip
theorem sd_impl_EventName (N : Nat) : Sound Try.prog 9 (run_impl_EventName N) := sound_text (fn := Try.f9) (c := body_impl_EventName) (by kernel_rfl) (by kernel_rfl) (by kernel_rfl) call_impl_EventName
/-! laws_FnExactEventName -/
noncomputable def h_laws_FnExactEventName : Hint := { tab, hn := [], loops := [], outs := [], ords := [] }
noncomputable def sg_laws_FnExactEventName : List AK := [.v (.int .i64) .k]
noncomputable def F_laws_FnExactEventName (N : Nat) (x : AVals sg_laws_FnExactEventName) (kf : Ret → Option Ret) : Option Ret := laws_FnExactEventName N x.1 (fun r0 => kf ⟨[⟨.bool, .k, r0⟩], []⟩)
noncomputable def run_laws_FnExactEventName (N : Nat) := runOf sg_laws_FnExactEventName (F_laws_FnExactEventName N)
noncomputable def es_laws_FnExactEventName (N : Nat) : List Entry := [⟨8, [.val], (run_spec_EventName N)⟩, ⟨9, [.val], (run_impl_EventName N)⟩]
noncomputable def body_laws_FnExactEventName : Code := match Try.f3.body with | some c => c | none => .skip
noncomputable def L_laws_FnExactEventName (N n : Nat) (key : Nat) (S : St) (K : Ks) : Option Ret := none
theorem L0_laws_FnExactEventName (N key : Nat) (S : St) (K : Ks) : L_laws_FnExactEventName N 0 key S K = none := rfl
theorem ls_laws_FnExactEventName : loopsIn body_laws_FnExactEventName = [] := by kernel_rfl
theorem fn_laws_FnExactEventName (N : Nat) (x : AVals sg_laws_FnExactEventName) (kf : Ret → Option Ret) : F_laws_FnExactEventName N x kf = peFunc h_laws_FnExactEventName (Orc.of (es_laws_FnExactEventName N)) (L_laws_FnExactEventName N N) Try.f3 (ashape sg_laws_FnExactEventName x) kf := by kernel_rfl
theorem sd_laws_FnExactEventName (N : Nat) : Sound Try.prog 3 (run_laws_FnExactEventName N) := fun_ok2 (hh := h_laws_FnExactEventName) mixed tab_ok (es := es_laws_FnExactEventName N) ⟨sd_spec_EventName N, ⟨sd_impl_EventName N, trivial⟩⟩ (fn := Try.f3) (body := body_laws_FnExactEventName) (by kernel_rfl) (by kernel_rfl) (by kernel_rfl) (by kernel_rfl) (by kernel_rfl) (Lf := L_laws_FnExactEventName N) (L0_laws_FnExactEventName N) ls_laws_FnExactEventName trivial (N := N) (by kernel_rfl) (fn_laws_FnExactEventName N) (.inl (by kernel_rfl))
end Go.Pv.R
