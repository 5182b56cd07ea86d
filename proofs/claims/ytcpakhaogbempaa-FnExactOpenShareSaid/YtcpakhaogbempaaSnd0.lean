/- Each function of the program that the law reaches computes its plain function, part 0. -/
import Derived.Test.YtcpakhaogbempaaPlRes
import Derived.Test.YtcpakhaogbempaaPrim
import Derived.Test.YtcpakhaogbempaaProg
namespace Go.Pv.R
open Go.Proofs
set_option linter.unusedVariables false
set_option maxRecDepth 100000
noncomputable abbrev dK : Kd := .dead
noncomputable def tab : Tab := [⟨2, (.int .i64), 0, []⟩, ⟨3, (.int .i64), 0, []⟩, ⟨4, .bool, 0, []⟩, ⟨5, (.int .u8), 0, []⟩, ⟨9, .str, 0, []⟩, ⟨12, (.int .u64), 0, []⟩, ⟨21, (.int .i32), 0, []⟩, ⟨22, (.sl (.int .u8)), 5, []⟩, ⟨25, (.sl tQIIIIILIE), 54, []⟩, ⟨26, (.sl tQIILIE), 85, []⟩, ⟨27, (.sl tQIIE), 89, []⟩, ⟨28, (.sl (.int .i64)), 3, []⟩, ⟨29, (.sl tQIIIE), 70, []⟩, ⟨30, (.sl tQIIIIE), 79, []⟩, ⟨31, tQLQIIIIILIELQIILIELQIIELILQIIIELQIIIIEIE, 0, [25, 26, 27, 28, 29, 30, 3]⟩, ⟨32, tQLQIIIIILIELQIILIELQIIELILQIIIELQIIIIEIE, 0, [25, 26, 27, 28, 29, 30, 3]⟩, ⟨40, (.sl (.sl (.int .i64))), 28, []⟩, ⟨41, tQILLIE, 0, [3, 40]⟩, ⟨42, tQILLIE, 0, [3, 40]⟩, ⟨45, tQILLIE, 0, [3, 40]⟩, ⟨53, tQIIIIILIE, 0, [3, 3, 3, 3, 3, 28]⟩, ⟨54, tQIIIIILIE, 0, [3, 3, 3, 3, 3, 28]⟩, ⟨69, tQIIIE, 0, [3, 3, 3]⟩, ⟨70, tQIIIE, 0, [3, 3, 3]⟩, ⟨78, tQIIIIE, 0, [3, 3, 3, 3]⟩, ⟨79, tQIIIIE, 0, [3, 3, 3, 3]⟩, ⟨84, tQIILIE, 0, [3, 3, 28]⟩, ⟨85, tQIILIE, 0, [3, 3, 28]⟩, ⟨88, tQIIE, 0, [3, 3]⟩, ⟨89, tQIIE, 0, [3, 3]⟩, ⟨107, tQLIIIE, 0, [22, 3, 3]⟩, ⟨108, tQLIIIE, 0, [22, 3, 3]⟩, ⟨118, (.sl .str), 9, []⟩, ⟨123, (.sl tQIIIIE), 146, []⟩, ⟨139, (.int .u64), 0, []⟩, ⟨145, tQIIIIE, 0, [3, 3, 3, 3]⟩, ⟨146, tQIIIIE, 0, [3, 3, 3, 3]⟩, ⟨169, (.int .i64), 0, []⟩, ⟨178, (.int .u32), 0, []⟩, ⟨180, (.int .u64), 0, []⟩, ⟨184, (.int .u64), 0, []⟩]
theorem mixed : Try.prog.follows .mixedOrders = true := by kernel_rfl
theorem tab_ok : tabB Try.prog tab = true := by kernel_rfl
/-! impl_InRange -/
noncomputable def h_impl_InRange : Hint := { tab, hn := [], loops := [], outs := [], ords := [] }
noncomputable def sg_impl_InRange : List AK := [.v (.int .i64) .k, .v (.int .i64) .k, .v (.int .i64) .k]
noncomputable def F_impl_InRange (N : Nat) (x : AVals sg_impl_InRange) (kf : Ret → Option Ret) : Option Ret := impl_InRange N x.1 x.2.1 x.2.2.1 (fun r0 => kf ⟨[⟨.bool, .k, r0⟩], []⟩)
noncomputable def run_impl_InRange (N : Nat) := runOf sg_impl_InRange (F_impl_InRange N)
noncomputable def es_impl_InRange (N : Nat) : List Entry := []
noncomputable def body_impl_InRange : Code := match Try.f45.body with | some c => c | none => .skip
noncomputable def L_impl_InRange (N n : Nat) (key : Nat) (S : St) (K : Ks) : Option Ret := none
theorem L0_impl_InRange (N key : Nat) (S : St) (K : Ks) : L_impl_InRange N 0 key S K = none := rfl
theorem ls_impl_InRange : loopsIn body_impl_InRange = [] := by kernel_rfl
theorem fn_impl_InRange (N : Nat) (x : AVals sg_impl_InRange) (kf : Ret → Option Ret) : F_impl_InRange N x kf = peFunc h_impl_InRange (Orc.of (es_impl_InRange N)) (L_impl_InRange N N) Try.f45 (ashape sg_impl_InRange x) kf := by kernel_rfl
theorem sd_impl_InRange {Γ : Gl} (N : Nat) : Sound Γ Try.prog 45 (run_impl_InRange N) := fun_ok2 (hh := h_impl_InRange) mixed tab_ok (es := es_impl_InRange N) trivial (fn := Try.f45) (body := body_impl_InRange) (by kernel_rfl) (by kernel_rfl) (by kernel_rfl) (by kernel_rfl) (by kernel_rfl) (Lf := L_impl_InRange N) (L0_impl_InRange N) ls_impl_InRange trivial (N := N) (by kernel_rfl) (fn_impl_InRange N) (.inl (by kernel_rfl))
/-! slices_Index_int -/
noncomputable def ks_slices_Index_int_l2 : List Kd := [.v (.sl (.int .i64)) .k, .v (.int .i64) .k, dK, dK, dK, dK, dK, .v (.int .i64) .k, .v (.int .i64) .k, dK, dK, dK, dK, dK, dK, dK, dK, dK, dK]
noncomputable def ko_slices_Index_int_l2_0 : List Kd := [dK, dK, dK, dK, dK, dK, dK, dK, dK, dK, dK, dK, dK, dK, dK, dK, dK, dK, dK]
noncomputable def ko_slices_Index_int_l2_1 : List Kd := [dK, dK, dK, dK, .v (.int .i64) .k, dK, dK, dK, dK, dK, dK, dK, dK, dK, dK, dK, dK, dK, dK]
noncomputable def h_slices_Index_int : Hint := { tab, hn := [], loops := [(2, ks_slices_Index_int_l2)], outs := [(2, 2, ko_slices_Index_int_l2_0), (2, 1, ko_slices_Index_int_l2_1)], ords := [] }
noncomputable def sg_slices_Index_int : List AK := [.v (.sl (.int .i64)) .k, .v (.int .i64) .k]
noncomputable def F_slices_Index_int (N : Nat) (x : AVals sg_slices_Index_int) (kf : Ret → Option Ret) : Option Ret := slices_Index_int N x.1 x.2.1 (fun r0 => kf ⟨[⟨(.int .i64), .k, r0⟩], []⟩)
noncomputable def run_slices_Index_int (N : Nat) := runOf sg_slices_Index_int (F_slices_Index_int N)
noncomputable def es_slices_Index_int (N : Nat) : List Entry := []
noncomputable def body_slices_Index_int : Code := match Try.f109.body with | some c => c | none => .skip
noncomputable def L_slices_Index_int (N n : Nat) (key : Nat) (S : St) (K : Ks) : Option Ret := bif Nat.beq key 2 then withVals ks_slices_Index_int_l2 S (fun x => slices_Index_int_l2 x.1 x.2.1 x.2.2.1 n (K (.x 0) (shape ko_slices_Index_int_l2_0 ())) (fun z0 => K .r (shape ko_slices_Index_int_l2_1 (z0, ()))) x.2.2.2.1) else none
theorem L0_slices_Index_int (N key : Nat) (S : St) (K : Ks) : L_slices_Index_int N 0 key S K = none := (bif0 (withVals0 fun _ => rfl) rfl)
noncomputable def c_slices_Index_int_0 : Code := (loopsIn body_slices_Index_int).getD 0 .skip
theorem ls_slices_Index_int : loopsIn body_slices_Index_int = [c_slices_Index_int_0] := by kernel_rfl
theorem rd_slices_Index_int_2 (N n : Nat) (x : Vals ks_slices_Index_int_l2) (K : Ks) : L_slices_Index_int N (n + 1) 2 (shape ks_slices_Index_int_l2 x) (h_slices_Index_int.onOut 2 K) = peRound h_slices_Index_int (Orc.of (es_slices_Index_int N)) (mixL (L_slices_Index_int N) N n 2) c_slices_Index_int_0 (shape ks_slices_Index_int_l2 x) (h_slices_Index_int.onOut 2 K) := by kernel_rfl
theorem fn_slices_Index_int (N : Nat) (x : AVals sg_slices_Index_int) (kf : Ret → Option Ret) : F_slices_Index_int N x kf = peFunc h_slices_Index_int (Orc.of (es_slices_Index_int N)) (L_slices_Index_int N N) Try.f109 (ashape sg_slices_Index_int x) kf := by kernel_rfl
theorem sd_slices_Index_int {Γ : Gl} (N : Nat) : Sound Γ Try.prog 109 (run_slices_Index_int N) := fun_ok2 (hh := h_slices_Index_int) mixed tab_ok (es := es_slices_Index_int N) trivial (fn := Try.f109) (body := body_slices_Index_int) (by kernel_rfl) (by kernel_rfl) (by kernel_rfl) (by kernel_rfl) (by kernel_rfl) (Lf := L_slices_Index_int N) (L0_slices_Index_int N) ls_slices_Index_int (round_cons (key := 2) (ks := ks_slices_Index_int_l2) (by kernel_rfl) (by kernel_rfl) (rd_slices_Index_int_2 N) trivial) (N := N) (by kernel_rfl) (fn_slices_Index_int N) (.inl (by kernel_rfl))
/-! slices_Contains_int -/
noncomputable def h_slices_Contains_int : Hint := { tab, hn := [], loops := [], outs := [], ords := [] }
noncomputable def sg_slices_Contains_int : List AK := [.v (.sl (.int .i64)) .k, .v (.int .i64) .k]
noncomputable def F_slices_Contains_int (N : Nat) (x : AVals sg_slices_Contains_int) (kf : Ret → Option Ret) : Option Ret := slices_Contains_int N x.1 x.2.1 (fun r0 => kf ⟨[⟨.bool, .k, r0⟩], []⟩)
noncomputable def run_slices_Contains_int (N : Nat) := runOf sg_slices_Contains_int (F_slices_Contains_int N)
noncomputable def es_slices_Contains_int (N : Nat) : List Entry := [⟨109, [.val, .val], (run_slices_Index_int N)⟩]
noncomputable def body_slices_Contains_int : Code := match Try.f81.body with | some c => c | none => .skip
noncomputable def L_slices_Contains_int (N n : Nat) (key : Nat) (S : St) (K : Ks) : Option Ret := none
theorem L0_slices_Contains_int (N key : Nat) (S : St) (K : Ks) : L_slices_Contains_int N 0 key S K = none := rfl
theorem ls_slices_Contains_int : loopsIn body_slices_Contains_int = [] := by kernel_rfl
theorem fn_slices_Contains_int (N : Nat) (x : AVals sg_slices_Contains_int) (kf : Ret → Option Ret) : F_slices_Contains_int N x kf = peFunc h_slices_Contains_int (Orc.of (es_slices_Contains_int N)) (L_slices_Contains_int N N) Try.f81 (ashape sg_slices_Contains_int x) kf := by kernel_rfl
theorem sd_slices_Contains_int {Γ : Gl} (N : Nat) : Sound Γ Try.prog 81 (run_slices_Contains_int N) := fun_ok2 (hh := h_slices_Contains_int) mixed tab_ok (es := es_slices_Contains_int N) ⟨sd_slices_Index_int N, trivial⟩ (fn := Try.f81) (body := body_slices_Contains_int) (by kernel_rfl) (by kernel_rfl) (by kernel_rfl) (by kernel_rfl) (by kernel_rfl) (Lf := L_slices_Contains_int N) (L0_slices_Contains_int N) ls_slices_Contains_int trivial (N := N) (by kernel_rfl) (fn_slices_Contains_int N) (.inl (by kernel_rfl))
/-! spec_l1In -/
noncomputable def h_spec_l1In : Hint := { tab, hn := [], loops := [], outs := [], ords := [] }
noncomputable def sg_spec_l1In : List AK := [.v (.int .i64) .k, .v (.int .i64) .k, .v (.int .i64) .k]
noncomputable def F_spec_l1In (N : Nat) (x : AVals sg_spec_l1In) (kf : Ret → Option Ret) : Option Ret := spec_l1In N x.1 x.2.1 x.2.2.1 (fun r0 => kf ⟨[⟨.bool, .k, r0⟩], []⟩)
noncomputable def run_spec_l1In (N : Nat) := runOf sg_spec_l1In (F_spec_l1In N)
noncomputable def es_spec_l1In (N : Nat) : List Entry := []
noncomputable def body_spec_l1In : Code := match Try.f72.body with | some c => c | none => .skip
noncomputable def L_spec_l1In (N n : Nat) (key : Nat) (S : St) (K : Ks) : Option Ret := none
theorem L0_spec_l1In (N key : Nat) (S : St) (K : Ks) : L_spec_l1In N 0 key S K = none := rfl
theorem ls_spec_l1In : loopsIn body_spec_l1In = [] := by kernel_rfl
theorem fn_spec_l1In (N : Nat) (x : AVals sg_spec_l1In) (kf : Ret → Option Ret) : F_spec_l1In N x kf = peFunc h_spec_l1In (Orc.of (es_spec_l1In N)) (L_spec_l1In N N) Try.f72 (ashape sg_spec_l1In x) kf := by kernel_rfl
theorem sd_spec_l1In {Γ : Gl} (N : Nat) : Sound Γ Try.prog 72 (run_spec_l1In N) := fun_ok2 (hh := h_spec_l1In) mixed tab_ok (es := es_spec_l1In N) trivial (fn := Try.f72) (body := body_spec_l1In) (by kernel_rfl) (by kernel_rfl) (by kernel_rfl) (by kernel_rfl) (by kernel_rfl) (Lf := L_spec_l1In N) (L0_spec_l1In N) ls_spec_l1In trivial (N := N) (by kernel_rfl) (fn_spec_l1In N) (.inl (by kernel_rfl))
/-! spec_l4Has -/
noncomputable def ks_spec_l4Has_l2 : List Kd := [.v (.sl (.int .i64)) .k, .v (.int .i64) .k, dK, dK, dK, .v (.int .i64) .k, dK, dK, dK, dK, dK, dK, dK, dK, dK, dK, dK, dK]
noncomputable def ko_spec_l4Has_l2_0 : List Kd := [dK, dK, dK, dK, dK, dK, dK, dK, dK, dK, dK, dK, dK, dK, dK, dK, dK, dK]
noncomputable def ko_spec_l4Has_l2_1 : List Kd := [dK, dK, dK, dK, .v .bool .k, dK, dK, dK, dK, dK, dK, dK, dK, dK, dK, dK, dK, dK]
noncomputable def h_spec_l4Has : Hint := { tab, hn := [], loops := [(2, ks_spec_l4Has_l2)], outs := [(2, 2, ko_spec_l4Has_l2_0), (2, 1, ko_spec_l4Has_l2_1)], ords := [] }
noncomputable def sg_spec_l4Has : List AK := [.v (.sl (.int .i64)) .k, .v (.int .i64) .k]
noncomputable def F_spec_l4Has (N : Nat) (x : AVals sg_spec_l4Has) (kf : Ret → Option Ret) : Option Ret := spec_l4Has N x.1 x.2.1 (fun r0 => kf ⟨[⟨.bool, .k, r0⟩], []⟩)
noncomputable def run_spec_l4Has (N : Nat) := runOf sg_spec_l4Has (F_spec_l4Has N)
noncomputable def es_spec_l4Has (N : Nat) : List Entry := []
noncomputable def body_spec_l4Has : Code := match Try.f118.body with | some c => c | none => .skip
noncomputable def L_spec_l4Has (N n : Nat) (key : Nat) (S : St) (K : Ks) : Option Ret := bif Nat.beq key 2 then withVals ks_spec_l4Has_l2 S (fun x => spec_l4Has_l2 x.1 x.2.1 n (K (.x 0) (shape ko_spec_l4Has_l2_0 ())) (fun z0 => K .r (shape ko_spec_l4Has_l2_1 (z0, ()))) x.2.2.1) else none
theorem L0_spec_l4Has (N key : Nat) (S : St) (K : Ks) : L_spec_l4Has N 0 key S K = none := (bif0 (withVals0 fun _ => rfl) rfl)
noncomputable def c_spec_l4Has_0 : Code := (loopsIn body_spec_l4Has).getD 0 .skip
theorem ls_spec_l4Has : loopsIn body_spec_l4Has = [c_spec_l4Has_0] := by kernel_rfl
theorem rd_spec_l4Has_2 (N n : Nat) (x : Vals ks_spec_l4Has_l2) (K : Ks) : L_spec_l4Has N (n + 1) 2 (shape ks_spec_l4Has_l2 x) (h_spec_l4Has.onOut 2 K) = peRound h_spec_l4Has (Orc.of (es_spec_l4Has N)) (mixL (L_spec_l4Has N) N n 2) c_spec_l4Has_0 (shape ks_spec_l4Has_l2 x) (h_spec_l4Has.onOut 2 K) := by kernel_rfl
theorem fn_spec_l4Has (N : Nat) (x : AVals sg_spec_l4Has) (kf : Ret → Option Ret) : F_spec_l4Has N x kf = peFunc h_spec_l4Has (Orc.of (es_spec_l4Has N)) (L_spec_l4Has N N) Try.f118 (ashape sg_spec_l4Has x) kf := by kernel_rfl
theorem sd_spec_l4Has {Γ : Gl} (N : Nat) : Sound Γ Try.prog 118 (run_spec_l4Has N) := fun_ok2 (hh := h_spec_l4Has) mixed tab_ok (es := es_spec_l4Has N) trivial (fn := Try.f118) (body := body_spec_l4Has) (by kernel_rfl) (by kernel_rfl) (by kernel_rfl) (by kernel_rfl) (by kernel_rfl) (Lf := L_spec_l4Has N) (L0_spec_l4Has N) ls_spec_l4Has (round_cons (key := 2) (ks := ks_spec_l4Has_l2) (by kernel_rfl) (by kernel_rfl) (rd_spec_l4Has_2 N) trivial) (N := N) (by kernel_rfl) (fn_spec_l4Has N) (.inl (by kernel_rfl))
/-! laws_szIntS -/
noncomputable def h_laws_szIntS : Hint := { tab, hn := [], loops := [], outs := [], ords := [] }
noncomputable def sg_laws_szIntS : List AK := [.v (.sl (.int .i64)) .k, .v (.int .i64) .k]
noncomputable def F_laws_szIntS (N : Nat) (x : AVals sg_laws_szIntS) (kf : Ret → Option Ret) : Option Ret := laws_szIntS N x.1 x.2.1 (fun r0 => kf ⟨[⟨(.int .i64), .k, r0⟩], []⟩)
noncomputable def run_laws_szIntS (N : Nat) := runOf sg_laws_szIntS (F_laws_szIntS N)
noncomputable def es_laws_szIntS (N : Nat) : List Entry := []
noncomputable def body_laws_szIntS : Code := match Try.f92.body with | some c => c | none => .skip
noncomputable def L_laws_szIntS (N n : Nat) (key : Nat) (S : St) (K : Ks) : Option Ret := none
theorem L0_laws_szIntS (N key : Nat) (S : St) (K : Ks) : L_laws_szIntS N 0 key S K = none := rfl
theorem ls_laws_szIntS : loopsIn body_laws_szIntS = [] := by kernel_rfl
theorem fn_laws_szIntS (N : Nat) (x : AVals sg_laws_szIntS) (kf : Ret → Option Ret) : F_laws_szIntS N x kf = peFunc h_laws_szIntS (Orc.of (es_laws_szIntS N)) (L_laws_szIntS N N) Try.f92 (ashape sg_laws_szIntS x) kf := by kernel_rfl
theorem sd_laws_szIntS {Γ : Gl} (N : Nat) : Sound Γ Try.prog 92 (run_laws_szIntS N) := fun_ok2 (hh := h_laws_szIntS) mixed tab_ok (es := es_laws_szIntS N) trivial (fn := Try.f92) (body := body_laws_szIntS) (by kernel_rfl) (by kernel_rfl) (by kernel_rfl) (by kernel_rfl) (by kernel_rfl) (Lf := L_laws_szIntS N) (L0_laws_szIntS N) ls_laws_szIntS trivial (N := N) (by kernel_rfl) (fn_laws_szIntS N) (.inl (by kernel_rfl))
/-! laws_szIntSS -/
noncomputable def ks_laws_szIntSS_l5 : List Kd := [.v (.sl (.sl (.int .i64))) .k, .v (.int .i64) .k, dK, dK, dK, .v (.int .i64) .k, dK, dK, dK, dK, dK, dK, dK, dK, dK, dK, dK, dK, dK, dK, dK, dK, dK, dK, dK, dK, dK]
noncomputable def ko_laws_szIntSS_l5_0 : List Kd := [dK, .v (.int .i64) .k, dK, dK, dK, dK, dK, dK, dK, dK, dK, dK, dK, dK, dK, dK, dK, dK, dK, dK, dK, dK, dK, dK, dK, dK, dK]
noncomputable def ko_laws_szIntSS_l5_1 : List Kd := [dK, dK, dK, dK, .v (.int .i64) .k, dK, dK, dK, dK, dK, dK, dK, dK, dK, dK, dK, dK, dK, dK, dK, dK, dK, dK, dK, dK, dK, dK]
noncomputable def h_laws_szIntSS : Hint := { tab, hn := [], loops := [(5, ks_laws_szIntSS_l5)], outs := [(5, 2, ko_laws_szIntSS_l5_0), (5, 1, ko_laws_szIntSS_l5_1)], ords := [] }
noncomputable def sg_laws_szIntSS : List AK := [.v (.sl (.sl (.int .i64))) .k, .v (.int .i64) .k]
noncomputable def F_laws_szIntSS (N : Nat) (x : AVals sg_laws_szIntSS) (kf : Ret → Option Ret) : Option Ret := laws_szIntSS N x.1 x.2.1 (fun r0 => kf ⟨[⟨(.int .i64), .k, r0⟩], []⟩)
noncomputable def run_laws_szIntSS (N : Nat) := runOf sg_laws_szIntSS (F_laws_szIntSS N)
noncomputable def es_laws_szIntSS (N : Nat) : List Entry := [⟨92, [.val, .val], (run_laws_szIntS N)⟩]
noncomputable def body_laws_szIntSS : Code := match Try.f59.body with | some c => c | none => .skip
noncomputable def L_laws_szIntSS (N n : Nat) (key : Nat) (S : St) (K : Ks) : Option Ret := bif Nat.beq key 5 then withVals ks_laws_szIntSS_l5 S (fun x => laws_szIntSS_l5 N x.1 n (fun z0 => K (.x 0) (shape ko_laws_szIntSS_l5_0 (z0, ()))) (fun z0 => K .r (shape ko_laws_szIntSS_l5_1 (z0, ()))) x.2.1 x.2.2.1) else none
theorem L0_laws_szIntSS (N key : Nat) (S : St) (K : Ks) : L_laws_szIntSS N 0 key S K = none := (bif0 (withVals0 fun _ => rfl) rfl)
noncomputable def c_laws_szIntSS_0 : Code := (loopsIn body_laws_szIntSS).getD 0 .skip
theorem ls_laws_szIntSS : loopsIn body_laws_szIntSS = [c_laws_szIntSS_0] := by kernel_rfl
theorem rd_laws_szIntSS_5 (N n : Nat) (x : Vals ks_laws_szIntSS_l5) (K : Ks) : L_laws_szIntSS N (n + 1) 5 (shape ks_laws_szIntSS_l5 x) (h_laws_szIntSS.onOut 5 K) = peRound h_laws_szIntSS (Orc.of (es_laws_szIntSS N)) (mixL (L_laws_szIntSS N) N n 5) c_laws_szIntSS_0 (shape ks_laws_szIntSS_l5 x) (h_laws_szIntSS.onOut 5 K) := by kernel_rfl
theorem fn_laws_szIntSS (N : Nat) (x : AVals sg_laws_szIntSS) (kf : Ret → Option Ret) : F_laws_szIntSS N x kf = peFunc h_laws_szIntSS (Orc.of (es_laws_szIntSS N)) (L_laws_szIntSS N N) Try.f59 (ashape sg_laws_szIntSS x) kf := by kernel_rfl
theorem sd_laws_szIntSS {Γ : Gl} (N : Nat) : Sound Γ Try.prog 59 (run_laws_szIntSS N) := fun_ok2 (hh := h_laws_szIntSS) mixed tab_ok (es := es_laws_szIntSS N) ⟨sd_laws_szIntS N, trivial⟩ (fn := Try.f59) (body := body_laws_szIntSS) (by kernel_rfl) (by kernel_rfl) (by kernel_rfl) (by kernel_rfl) (by kernel_rfl) (Lf := L_laws_szIntSS N) (L0_laws_szIntSS N) ls_laws_szIntSS (round_cons (key := 5) (ks := ks_laws_szIntSS_l5) (by kernel_rfl) (by kernel_rfl) (rd_laws_szIntSS_5 N) trivial) (N := N) (by kernel_rfl) (fn_laws_szIntSS N) (.inl (by kernel_rfl))
/-! laws_szGraph -/
noncomputable def h_laws_szGraph : Hint := { tab, hn := [], loops := [], outs := [], ords := [] }
noncomputable def sg_laws_szGraph : List AK := [.v tQILLIE .k, .v (.int .i64) .k]
noncomputable def F_laws_szGraph (N : Nat) (x : AVals sg_laws_szGraph) (kf : Ret → Option Ret) : Option Ret := laws_szGraph N x.1 x.2.1 (fun r0 => kf ⟨[⟨(.int .i64), .k, r0⟩], []⟩)
noncomputable def run_laws_szGraph (N : Nat) := runOf sg_laws_szGraph (F_laws_szGraph N)
noncomputable def es_laws_szGraph (N : Nat) : List Entry := [⟨59, [.val, .val], (run_laws_szIntSS N)⟩]
noncomputable def body_laws_szGraph : Code := match Try.f16.body with | some c => c | none => .skip
noncomputable def L_laws_szGraph (N n : Nat) (key : Nat) (S : St) (K : Ks) : Option Ret := none
theorem L0_laws_szGraph (N key : Nat) (S : St) (K : Ks) : L_laws_szGraph N 0 key S K = none := rfl
theorem ls_laws_szGraph : loopsIn body_laws_szGraph = [] := by kernel_rfl
theorem fn_laws_szGraph (N : Nat) (x : AVals sg_laws_szGraph) (kf : Ret → Option Ret) : F_laws_szGraph N x kf = peFunc h_laws_szGraph (Orc.of (es_laws_szGraph N)) (L_laws_szGraph N N) Try.f16 (ashape sg_laws_szGraph x) kf := by kernel_rfl
theorem sd_laws_szGraph {Γ : Gl} (N : Nat) : Sound Γ Try.prog 16 (run_laws_szGraph N) := fun_ok2 (hh := h_laws_szGraph) mixed tab_ok (es := es_laws_szGraph N) ⟨sd_laws_szIntSS N, trivial⟩ (fn := Try.f16) (body := body_laws_szGraph) (by kernel_rfl) (by kernel_rfl) (by kernel_rfl) (by kernel_rfl) (by kernel_rfl) (Lf := L_laws_szGraph N) (L0_laws_szGraph N) ls_laws_szGraph trivial (N := N) (by kernel_rfl) (fn_laws_szGraph N) (.inl (by kernel_rfl))
/-! laws_toIntS -/
noncomputable def ks_laws_toIntS_l3 : List Kd := [.v (.sl (.int .i64)) .k, dK, dK, .v (.sl (.int .i64)) (.o 3 none .k), .v (.int .i64) .k, dK, dK, dK, dK, dK, dK, dK, dK, dK, dK, dK, dK, dK, dK, dK, dK, dK]
noncomputable def ko_laws_toIntS_l3_0 : List Kd := [dK, dK, dK, .v (.sl (.int .i64)) (.o 3 none .k), dK, dK, dK, dK, dK, dK, dK, dK, dK, dK, dK, dK, dK, dK, dK, dK, dK, dK]
noncomputable def h_laws_toIntS : Hint := { tab, hn := [], loops := [(3, ks_laws_toIntS_l3)], outs := [(3, 2, ko_laws_toIntS_l3_0)], ords := [] }
noncomputable def sg_laws_toIntS : List AK := [.v (.sl (.int .i64)) .k]
noncomputable def F_laws_toIntS (N : Nat) (x : AVals sg_laws_toIntS) (kf : Ret → Option Ret) : Option Ret := laws_toIntS N x.1 (fun r0 => kf ⟨[⟨(.sl (.int .i64)), (.o 3 none .k), r0⟩], []⟩)
noncomputable def run_laws_toIntS (N : Nat) := runOf sg_laws_toIntS (F_laws_toIntS N)
noncomputable def es_laws_toIntS (N : Nat) : List Entry := []
noncomputable def body_laws_toIntS : Code := match Try.f94.body with | some c => c | none => .skip
noncomputable def L_laws_toIntS (N n : Nat) (key : Nat) (S : St) (K : Ks) : Option Ret := bif Nat.beq key 3 then withVals ks_laws_toIntS_l3 S (fun x => laws_toIntS_l3 x.1 n (fun z0 => K (.x 0) (shape ko_laws_toIntS_l3_0 (z0, ()))) x.2.1 x.2.2.1) else none
theorem L0_laws_toIntS (N key : Nat) (S : St) (K : Ks) : L_laws_toIntS N 0 key S K = none := (bif0 (withVals0 fun _ => rfl) rfl)
noncomputable def c_laws_toIntS_0 : Code := (loopsIn body_laws_toIntS).getD 0 .skip
theorem ls_laws_toIntS : loopsIn body_laws_toIntS = [c_laws_toIntS_0] := by kernel_rfl
theorem rd_laws_toIntS_3 (N n : Nat) (x : Vals ks_laws_toIntS_l3) (K : Ks) : L_laws_toIntS N (n + 1) 3 (shape ks_laws_toIntS_l3 x) (h_laws_toIntS.onOut 3 K) = peRound h_laws_toIntS (Orc.of (es_laws_toIntS N)) (mixL (L_laws_toIntS N) N n 3) c_laws_toIntS_0 (shape ks_laws_toIntS_l3 x) (h_laws_toIntS.onOut 3 K) := by kernel_rfl
theorem fn_laws_toIntS (N : Nat) (x : AVals sg_laws_toIntS) (kf : Ret → Option Ret) : F_laws_toIntS N x kf = peFunc h_laws_toIntS (Orc.of (es_laws_toIntS N)) (L_laws_toIntS N N) Try.f94 (ashape sg_laws_toIntS x) kf := by kernel_rfl
theorem sd_laws_toIntS {Γ : Gl} (N : Nat) : Sound Γ Try.prog 94 (run_laws_toIntS N) := fun_ok2 (hh := h_laws_toIntS) mixed tab_ok (es := es_laws_toIntS N) trivial (fn := Try.f94) (body := body_laws_toIntS) (by kernel_rfl) (by kernel_rfl) (by kernel_rfl) (by kernel_rfl) (by kernel_rfl) (Lf := L_laws_toIntS N) (L0_laws_toIntS N) ls_laws_toIntS (round_cons (key := 3) (ks := ks_laws_toIntS_l3) (by kernel_rfl) (by kernel_rfl) (rd_laws_toIntS_3 N) trivial) (N := N) (by kernel_rfl) (fn_laws_toIntS N) (.inl (by kernel_rfl))
/-! laws_toIntSS -/
noncomputable def ks_laws_toIntSS_l3 : List Kd := [.v (.sl (.sl (.int .i64))) .k, dK, dK, .v (.sl (.sl (.int .i64))) (.o 28 none (.o 3 none .k)), .v (.int .i64) .k, dK, dK, dK, dK, dK, dK, dK, dK, dK, dK, dK, dK, dK, dK, dK, dK, dK, dK]
noncomputable def ko_laws_toIntSS_l3_0 : List Kd := [dK, dK, dK, .v (.sl (.sl (.int .i64))) (.o 28 none (.o 3 none .k)), dK, dK, dK, dK, dK, dK, dK, dK, dK, dK, dK, dK, dK, dK, dK, dK, dK, dK, dK]
noncomputable def h_laws_toIntSS : Hint := { tab, hn := [], loops := [(3, ks_laws_toIntSS_l3)], outs := [(3, 2, ko_laws_toIntSS_l3_0)], ords := [] }
noncomputable def sg_laws_toIntSS : List AK := [.v (.sl (.sl (.int .i64))) .k]
noncomputable def F_laws_toIntSS (N : Nat) (x : AVals sg_laws_toIntSS) (kf : Ret → Option Ret) : Option Ret := laws_toIntSS N x.1 (fun r0 => kf ⟨[⟨(.sl (.sl (.int .i64))), (.o 28 none (.o 3 none .k)), r0⟩], []⟩)
noncomputable def run_laws_toIntSS (N : Nat) := runOf sg_laws_toIntSS (F_laws_toIntSS N)
noncomputable def es_laws_toIntSS (N : Nat) : List Entry := [⟨94, [.val], (run_laws_toIntS N)⟩]
noncomputable def body_laws_toIntSS : Code := match Try.f62.body with | some c => c | none => .skip
noncomputable def L_laws_toIntSS (N n : Nat) (key : Nat) (S : St) (K : Ks) : Option Ret := bif Nat.beq key 3 then withVals ks_laws_toIntSS_l3 S (fun x => laws_toIntSS_l3 N x.1 n (fun z0 => K (.x 0) (shape ko_laws_toIntSS_l3_0 (z0, ()))) x.2.1 x.2.2.1) else none
theorem L0_laws_toIntSS (N key : Nat) (S : St) (K : Ks) : L_laws_toIntSS N 0 key S K = none := (bif0 (withVals0 fun _ => rfl) rfl)
noncomputable def c_laws_toIntSS_0 : Code := (loopsIn body_laws_toIntSS).getD 0 .skip
theorem ls_laws_toIntSS : loopsIn body_laws_toIntSS = [c_laws_toIntSS_0] := by kernel_rfl
theorem rd_laws_toIntSS_3 (N n : Nat) (x : Vals ks_laws_toIntSS_l3) (K : Ks) : L_laws_toIntSS N (n + 1) 3 (shape ks_laws_toIntSS_l3 x) (h_laws_toIntSS.onOut 3 K) = peRound h_laws_toIntSS (Orc.of (es_laws_toIntSS N)) (mixL (L_laws_toIntSS N) N n 3) c_laws_toIntSS_0 (shape ks_laws_toIntSS_l3 x) (h_laws_toIntSS.onOut 3 K) := by kernel_rfl
theorem fn_laws_toIntSS (N : Nat) (x : AVals sg_laws_toIntSS) (kf : Ret → Option Ret) : F_laws_toIntSS N x kf = peFunc h_laws_toIntSS (Orc.of (es_laws_toIntSS N)) (L_laws_toIntSS N N) Try.f62 (ashape sg_laws_toIntSS x) kf := by kernel_rfl
theorem sd_laws_toIntSS {Γ : Gl} (N : Nat) : Sound Γ Try.prog 62 (run_laws_toIntSS N) := fun_ok2 (hh := h_laws_toIntSS) mixed tab_ok (es := es_laws_toIntSS N) ⟨sd_laws_toIntS N, trivial⟩ (fn := Try.f62) (body := body_laws_toIntSS) (by kernel_rfl) (by kernel_rfl) (by kernel_rfl) (by kernel_rfl) (by kernel_rfl) (Lf := L_laws_toIntSS N) (L0_laws_toIntSS N) ls_laws_toIntSS (round_cons (key := 3) (ks := ks_laws_toIntSS_l3) (by kernel_rfl) (by kernel_rfl) (rd_laws_toIntSS_3 N) trivial) (N := N) (by kernel_rfl) (fn_laws_toIntSS N) (.inl (by kernel_rfl))
/-! laws_toGraph -/
noncomputable def h_laws_toGraph : Hint := { tab, hn := [], loops := [], outs := [], ords := [] }
noncomputable def sg_laws_toGraph : List AK := [.v tQILLIE .k]
noncomputable def F_laws_toGraph (N : Nat) (x : AVals sg_laws_toGraph) (kf : Ret → Option Ret) : Option Ret := laws_toGraph N x.1 (fun r0 => kf ⟨[⟨tQILLIE, (.p .k (.o 28 none (.o 3 none .k))), r0⟩], []⟩)
noncomputable def run_laws_toGraph (N : Nat) := runOf sg_laws_toGraph (F_laws_toGraph N)
noncomputable def es_laws_toGraph (N : Nat) : List Entry := [⟨62, [.val], (run_laws_toIntSS N)⟩]
noncomputable def body_laws_toGraph : Code := match Try.f18.body with | some c => c | none => .skip
noncomputable def L_laws_toGraph (N n : Nat) (key : Nat) (S : St) (K : Ks) : Option Ret := none
theorem L0_laws_toGraph (N key : Nat) (S : St) (K : Ks) : L_laws_toGraph N 0 key S K = none := rfl
theorem ls_laws_toGraph : loopsIn body_laws_toGraph = [] := by kernel_rfl
theorem fn_laws_toGraph (N : Nat) (x : AVals sg_laws_toGraph) (kf : Ret → Option Ret) : F_laws_toGraph N x kf = peFunc h_laws_toGraph (Orc.of (es_laws_toGraph N)) (L_laws_toGraph N N) Try.f18 (ashape sg_laws_toGraph x) kf := by kernel_rfl
theorem sd_laws_toGraph {Γ : Gl} (N : Nat) : Sound Γ Try.prog 18 (run_laws_toGraph N) := fun_ok2 (hh := h_laws_toGraph) mixed tab_ok (es := es_laws_toGraph N) ⟨sd_laws_toIntSS N, trivial⟩ (fn := Try.f18) (body := body_laws_toGraph) (by kernel_rfl) (by kernel_rfl) (by kernel_rfl) (by kernel_rfl) (by kernel_rfl) (Lf := L_laws_toGraph N) (L0_laws_toGraph N) ls_laws_toGraph trivial (N := N) (by kernel_rfl) (fn_laws_toGraph N) (.inl (by kernel_rfl))
/-! spec_IsGraph -/
noncomputable def ks_spec_IsGraph_l2 : List Kd := [dK, .v (.ptr tQILLIE) (.o 45 none .k), dK, .v (.int .i64) .k, dK, dK, dK, dK, dK, dK, dK, dK, dK, dK, dK, dK, dK, dK, dK, dK, dK, dK, dK, dK, dK, dK, dK, dK, dK, dK, dK, dK, dK, dK, dK, dK, dK, dK, dK, dK, dK, dK, dK, dK, dK, dK, dK, dK, dK, dK, dK, dK, dK, dK, dK, dK, dK, dK, dK, dK, dK, dK, dK, dK, dK, dK, dK, dK, dK, dK, dK, dK, dK, dK, dK, dK, dK]
noncomputable def ko_spec_IsGraph_l2_0 : List Kd := [dK, .v (.ptr tQILLIE) (.o 45 none .k), dK, dK, dK, dK, dK, dK, dK, dK, dK, dK, dK, dK, dK, dK, dK, dK, dK, dK, dK, dK, dK, dK, dK, dK, dK, dK, dK, dK, dK, dK, dK, dK, dK, dK, dK, dK, dK, dK, dK, dK, dK, dK, dK, dK, dK, dK, dK, dK, dK, dK, dK, dK, dK, dK, dK, dK, dK, dK, dK, dK, dK, dK, dK, dK, dK, dK, dK, dK, dK, dK, dK, dK, dK, dK, dK]
noncomputable def ko_spec_IsGraph_l2_1 : List Kd := [dK, dK, .v .bool .k, dK, dK, dK, dK, dK, dK, dK, dK, dK, dK, dK, dK, dK, dK, dK, dK, dK, dK, dK, dK, dK, dK, dK, dK, dK, dK, dK, dK, dK, dK, dK, dK, dK, dK, dK, dK, dK, dK, dK, dK, dK, dK, dK, dK, dK, dK, dK, dK, dK, dK, dK, dK, dK, dK, dK, dK, dK, dK, dK, dK, dK, dK, dK, dK, dK, dK, dK, dK, dK, dK, dK, dK, dK, dK]
noncomputable def h_spec_IsGraph : Hint := { tab, hn := [], loops := [(2, ks_spec_IsGraph_l2)], outs := [(2, 2, ko_spec_IsGraph_l2_0), (2, 1, ko_spec_IsGraph_l2_1)], ords := [(5, (OT.seq [0, 1, 2, 3, 4, 5, 6, 7, 8, 9, 10, 11, 12, 13, 14, 15, 16, 17, 18, 19, 20, 21, 22] .done)), (9, (OT.seq [0, 1, 2, 3, 4, 5, 6, 7, 8, 9, 10, 11, 12, 13, 14, 15, 16, 17, 18, 19, 20, 21, 22, 23, 24] .done))] }
noncomputable def sg_spec_IsGraph : List AK := [.v tQILLIE .k]
noncomputable def F_spec_IsGraph (N : Nat) (x : AVals sg_spec_IsGraph) (kf : Ret → Option Ret) : Option Ret := spec_IsGraph N x.1 (fun r0 => kf ⟨[⟨.bool, .k, r0⟩], []⟩)
noncomputable def run_spec_IsGraph (N : Nat) := runOf sg_spec_IsGraph (F_spec_IsGraph N)
noncomputable def es_spec_IsGraph (N : Nat) : List Entry := [⟨72, [.val, .val, .val], (run_spec_l1In N)⟩]
noncomputable def body_spec_IsGraph : Code := match Try.f60.body with | some c => c | none => .skip
noncomputable def L_spec_IsGraph (N n : Nat) (key : Nat) (S : St) (K : Ks) : Option Ret := bif Nat.beq key 2 then withVals ks_spec_IsGraph_l2 S (fun x => spec_IsGraph_l2 N x.1 n (K (.x 0) (shape ko_spec_IsGraph_l2_0 (x.1, ()))) (fun z0 => K .r (shape ko_spec_IsGraph_l2_1 (z0, ()))) x.2.1) else none
theorem L0_spec_IsGraph (N key : Nat) (S : St) (K : Ks) : L_spec_IsGraph N 0 key S K = none := (bif0 (withVals0 fun _ => rfl) rfl)
noncomputable def c_spec_IsGraph_0 : Code := (loopsIn body_spec_IsGraph).getD 0 .skip
theorem ls_spec_IsGraph : loopsIn body_spec_IsGraph = [c_spec_IsGraph_0] := by kernel_rfl
theorem rd_spec_IsGraph_2 (N n : Nat) (x : Vals ks_spec_IsGraph_l2) (K : Ks) : L_spec_IsGraph N (n + 1) 2 (shape ks_spec_IsGraph_l2 x) (h_spec_IsGraph.onOut 2 K) = peRound h_spec_IsGraph (Orc.of (es_spec_IsGraph N)) (mixL (L_spec_IsGraph N) N n 2) c_spec_IsGraph_0 (shape ks_spec_IsGraph_l2 x) (h_spec_IsGraph.onOut 2 K) := by kernel_rfl
theorem fn_spec_IsGraph (N : Nat) (x : AVals sg_spec_IsGraph) (kf : Ret → Option Ret) : F_spec_IsGraph N x kf = peFunc h_spec_IsGraph (Orc.of (es_spec_IsGraph N)) (L_spec_IsGraph N N) Try.f60 (ashape sg_spec_IsGraph x) kf := by kernel_rfl
theorem sd_spec_IsGraph {Γ : Gl} (N : Nat) : Sound Γ Try.prog 60 (run_spec_IsGraph N) := fun_ok2 (hh := h_spec_IsGraph) mixed tab_ok (es := es_spec_IsGraph N) ⟨sd_spec_l1In N, trivial⟩ (fn := Try.f60) (body := body_spec_IsGraph) (by kernel_rfl) (by kernel_rfl) (by kernel_rfl) (by kernel_rfl) (by kernel_rfl) (Lf := L_spec_IsGraph N) (L0_spec_IsGraph N) ls_spec_IsGraph (round_cons (key := 2) (ks := ks_spec_IsGraph_l2) (by kernel_rfl) (by kernel_rfl) (rd_spec_IsGraph_2 N) trivial) (N := N) (by kernel_rfl) (fn_spec_IsGraph N) (.inl (by kernel_rfl))
/-! spec_IsSet -/
noncomputable def ks_spec_IsSet_l4 : List Kd := [dK, .v (.sl (.int .i64)) .k, .v (.ptr tQILLIE) (.o 45 none .k), dK, dK, .v (.int .i64) .k, dK, dK, dK, dK, dK, dK, dK, dK, dK, dK, dK, dK, dK, dK, dK, dK, dK, dK, dK, dK, dK, dK, dK, dK, dK, dK, dK, dK, dK, dK, dK, dK, dK, dK]
noncomputable def ko_spec_IsSet_l4_0 : List Kd := [dK, dK, dK, dK, dK, dK, dK, dK, dK, dK, dK, dK, dK, dK, dK, dK, dK, dK, dK, dK, dK, dK, dK, dK, dK, dK, dK, dK, dK, dK, dK, dK, dK, dK, dK, dK, dK, dK, dK, dK]
noncomputable def ko_spec_IsSet_l4_1 : List Kd := [dK, dK, dK, dK, .v .bool .k, dK, dK, dK, dK, dK, dK, dK, dK, dK, dK, dK, dK, dK, dK, dK, dK, dK, dK, dK, dK, dK, dK, dK, dK, dK, dK, dK, dK, dK, dK, dK, dK, dK, dK, dK]
noncomputable def h_spec_IsSet : Hint := { tab, hn := [], loops := [(4, ks_spec_IsSet_l4)], outs := [(4, 2, ko_spec_IsSet_l4_0), (4, 1, ko_spec_IsSet_l4_1)], ords := [(6, (OT.seq [0, 1, 2, 3, 4, 5, 6, 7, 8, 9, 10, 11, 12, 13, 14, 15, 16, 17, 18, 19, 20, 21, 22, 23, 24] .done))] }
noncomputable def sg_spec_IsSet : List AK := [.v tQILLIE .k, .v (.sl (.int .i64)) .k]
noncomputable def F_spec_IsSet (N : Nat) (x : AVals sg_spec_IsSet) (kf : Ret → Option Ret) : Option Ret := spec_IsSet N x.1 x.2.1 (fun r0 => kf ⟨[⟨.bool, .k, r0⟩], []⟩)
noncomputable def run_spec_IsSet (N : Nat) := runOf sg_spec_IsSet (F_spec_IsSet N)
noncomputable def es_spec_IsSet (N : Nat) : List Entry := [⟨60, [.val], (run_spec_IsGraph N)⟩, ⟨72, [.val, .val, .val], (run_spec_l1In N)⟩]
noncomputable def body_spec_IsSet : Code := match Try.f155.body with | some c => c | none => .skip
noncomputable def L_spec_IsSet (N n : Nat) (key : Nat) (S : St) (K : Ks) : Option Ret := bif Nat.beq key 4 then withVals ks_spec_IsSet_l4 S (fun x => spec_IsSet_l4 N x.1 x.2.1 n (K (.x 0) (shape ko_spec_IsSet_l4_0 ())) (fun z0 => K .r (shape ko_spec_IsSet_l4_1 (z0, ()))) x.2.2.1) else none
theorem L0_spec_IsSet (N key : Nat) (S : St) (K : Ks) : L_spec_IsSet N 0 key S K = none := (bif0 (withVals0 fun _ => rfl) rfl)
noncomputable def c_spec_IsSet_0 : Code := (loopsIn body_spec_IsSet).getD 0 .skip
theorem ls_spec_IsSet : loopsIn body_spec_IsSet = [c_spec_IsSet_0] := by kernel_rfl
theorem rd_spec_IsSet_4 (N n : Nat) (x : Vals ks_spec_IsSet_l4) (K : Ks) : L_spec_IsSet N (n + 1) 4 (shape ks_spec_IsSet_l4 x) (h_spec_IsSet.onOut 4 K) = peRound h_spec_IsSet (Orc.of (es_spec_IsSet N)) (mixL (L_spec_IsSet N) N n 4) c_spec_IsSet_0 (shape ks_spec_IsSet_l4 x) (h_spec_IsSet.onOut 4 K) := by kernel_rfl
theorem fn_spec_IsSet (N : Nat) (x : AVals sg_spec_IsSet) (kf : Ret → Option Ret) : F_spec_IsSet N x kf = peFunc h_spec_IsSet (Orc.of (es_spec_IsSet N)) (L_spec_IsSet N N) Try.f155 (ashape sg_spec_IsSet x) kf := by kernel_rfl
theorem sd_spec_IsSet {Γ : Gl} (N : Nat) : Sound Γ Try.prog 155 (run_spec_IsSet N) := fun_ok2 (hh := h_spec_IsSet) mixed tab_ok (es := es_spec_IsSet N) ⟨sd_spec_IsGraph N, ⟨sd_spec_l1In N, trivial⟩⟩ (fn := Try.f155) (body := body_spec_IsSet) (by kernel_rfl) (by kernel_rfl) (by kernel_rfl) (by kernel_rfl) (by kernel_rfl) (Lf := L_spec_IsSet N) (L0_spec_IsSet N) ls_spec_IsSet (round_cons (key := 4) (ks := ks_spec_IsSet_l4) (by kernel_rfl) (by kernel_rfl) (rd_spec_IsSet_4 N) trivial) (N := N) (by kernel_rfl) (fn_spec_IsSet N) (.inl (by kernel_rfl))
/-! spec_HitBy -/
noncomputable def ks_spec_HitBy_l7 : List Kd := [dK, .v (.sl (.int .i64)) .k, .v (.ptr tQILLIE) (.o 45 none .k), dK, dK, .v (.sl (.int .i64)) (.o 3 none .k), .v (.int .i64) .k, .v .bool .k, .v (.int .i64) .k, dK, dK, dK, dK, dK, dK, dK, dK, dK, dK, dK, dK, dK, dK, dK, dK, dK, dK, dK, dK, dK, dK, dK, dK, dK, dK, dK, dK, dK, dK, dK, dK, dK, dK, dK, dK, dK, dK, dK, dK, dK, dK, dK, dK, dK, dK, dK]
noncomputable def ko_spec_HitBy_l7_0 : List Kd := [dK, .v (.sl (.int .i64)) .k, .v (.ptr tQILLIE) (.o 45 none .k), dK, dK, .v (.sl (.int .i64)) (.o 3 none .k), .v (.int .i64) .k, .v .bool .k, dK, dK, dK, dK, dK, dK, dK, dK, dK, dK, dK, dK, dK, dK, dK, dK, dK, dK, dK, dK, dK, dK, dK, dK, dK, dK, dK, dK, dK, dK, dK, dK, dK, dK, dK, dK, dK, dK, dK, dK, dK, dK, dK, dK, dK, dK, dK, dK]
noncomputable def ks_spec_HitBy_l3 : List Kd := [dK, .v (.sl (.int .i64)) .k, .v (.ptr tQILLIE) (.o 45 none .k), dK, dK, .v (.sl (.int .i64)) (.o 3 none .k), .v (.int .i64) .k, dK, dK, dK, dK, dK, dK, dK, dK, dK, dK, dK, dK, dK, dK, dK, dK, dK, dK, dK, dK, dK, dK, dK, dK, dK, dK, dK, dK, dK, dK, dK, dK, dK, dK, dK, dK, dK, dK, dK, dK, dK, dK, dK, dK, dK, dK, dK, dK, dK]
noncomputable def ko_spec_HitBy_l3_0 : List Kd := [dK, dK, dK, dK, dK, .v (.sl (.int .i64)) (.o 3 none .k), dK, dK, dK, dK, dK, dK, dK, dK, dK, dK, dK, dK, dK, dK, dK, dK, dK, dK, dK, dK, dK, dK, dK, dK, dK, dK, dK, dK, dK, dK, dK, dK, dK, dK, dK, dK, dK, dK, dK, dK, dK, dK, dK, dK, dK, dK, dK, dK, dK, dK]
noncomputable def h_spec_HitBy : Hint := { tab, hn := [], loops := [(7, ks_spec_HitBy_l7), (3, ks_spec_HitBy_l3)], outs := [(7, 4, ko_spec_HitBy_l7_0), (3, 2, ko_spec_HitBy_l3_0)], ords := [] }
noncomputable def sg_spec_HitBy : List AK := [.v tQILLIE .k, .v (.sl (.int .i64)) .k]
noncomputable def F_spec_HitBy (N : Nat) (x : AVals sg_spec_HitBy) (kf : Ret → Option Ret) : Option Ret := spec_HitBy N x.1 x.2.1 (fun r0 => kf ⟨[⟨(.sl (.int .i64)), (.o 3 none .k), r0⟩], []⟩)
noncomputable def run_spec_HitBy (N : Nat) := runOf sg_spec_HitBy (F_spec_HitBy N)
noncomputable def es_spec_HitBy (N : Nat) : List Entry := [⟨60, [.val], (run_spec_IsGraph N)⟩, ⟨118, [.val, .val], (run_spec_l4Has N)⟩]
noncomputable def body_spec_HitBy : Code := match Try.f117.body with | some c => c | none => .skip
noncomputable def L_spec_HitBy (N n : Nat) (key : Nat) (S : St) (K : Ks) : Option Ret := bif Nat.beq key 3 then withVals ks_spec_HitBy_l3 S (fun x => spec_HitBy_l3 N x.1 x.2.1 n (fun z0 => K (.x 0) (shape ko_spec_HitBy_l3_0 (z0, ()))) x.2.2.1 x.2.2.2.1) else bif Nat.beq key 7 then withVals ks_spec_HitBy_l7 S (fun x => spec_HitBy_l7 N x.1 x.2.1 x.2.2.1 x.2.2.2.1 n (fun z0 => K (.x 2) (shape ko_spec_HitBy_l7_0 (x.1, x.2.1, x.2.2.1, x.2.2.2.1, z0, ()))) x.2.2.2.2.1 x.2.2.2.2.2.1) else none
theorem L0_spec_HitBy (N key : Nat) (S : St) (K : Ks) : L_spec_HitBy N 0 key S K = none := (bif0 (withVals0 fun _ => rfl) (bif0 (withVals0 fun _ => rfl) rfl))
noncomputable def c_spec_HitBy_0 : Code := (loopsIn body_spec_HitBy).getD 0 .skip
noncomputable def c_spec_HitBy_1 : Code := (loopsIn body_spec_HitBy).getD 1 .skip
theorem ls_spec_HitBy : loopsIn body_spec_HitBy = [c_spec_HitBy_0, c_spec_HitBy_1] := by kernel_rfl
theorem rd_spec_HitBy_7 (N n : Nat) (x : Vals ks_spec_HitBy_l7) (K : Ks) : L_spec_HitBy N (n + 1) 7 (shape ks_spec_HitBy_l7 x) (h_spec_HitBy.onOut 7 K) = peRound h_spec_HitBy (Orc.of (es_spec_HitBy N)) (mixL (L_spec_HitBy N) N n 7) c_spec_HitBy_1 (shape ks_spec_HitBy_l7 x) (h_spec_HitBy.onOut 7 K) := by kernel_rfl
theorem rd_spec_HitBy_3 (N n : Nat) (x : Vals ks_spec_HitBy_l3) (K : Ks) : L_spec_HitBy N (n + 1) 3 (shape ks_spec_HitBy_l3 x) (h_spec_HitBy.onOut 3 K) = peRound h_spec_HitBy (Orc.of (es_spec_HitBy N)) (mixL (L_spec_HitBy N) N n 3) c_spec_HitBy_0 (shape ks_spec_HitBy_l3 x) (h_spec_HitBy.onOut 3 K) := by kernel_rfl
theorem fn_spec_HitBy (N : Nat) (x : AVals sg_spec_HitBy) (kf : Ret → Option Ret) : F_spec_HitBy N x kf = peFunc h_spec_HitBy (Orc.of (es_spec_HitBy N)) (L_spec_HitBy N N) Try.f117 (ashape sg_spec_HitBy x) kf := by kernel_rfl
theorem sd_spec_HitBy {Γ : Gl} (N : Nat) : Sound Γ Try.prog 117 (run_spec_HitBy N) := fun_ok2 (hh := h_spec_HitBy) mixed tab_ok (es := es_spec_HitBy N) ⟨sd_spec_IsGraph N, ⟨sd_spec_l4Has N, trivial⟩⟩ (fn := Try.f117) (body := body_spec_HitBy) (by kernel_rfl) (by kernel_rfl) (by kernel_rfl) (by kernel_rfl) (by kernel_rfl) (Lf := L_spec_HitBy N) (L0_spec_HitBy N) ls_spec_HitBy (round_cons (key := 3) (ks := ks_spec_HitBy_l3) (by kernel_rfl) (by kernel_rfl) (rd_spec_HitBy_3 N) (round_cons (key := 7) (ks := ks_spec_HitBy_l7) (by kernel_rfl) (by kernel_rfl) (rd_spec_HitBy_7 N) trivial)) (N := N) (by kernel_rfl) (fn_spec_HitBy N) (.inl (by kernel_rfl))
/-! spec_AttackersOf -/
noncomputable def ks_spec_AttackersOf_l3 : List Kd := [dK, .v (.int .i64) .k, .v (.ptr tQILLIE) (.o 45 none .k), dK, dK, .v (.sl (.int .i64)) (.o 3 none .k), .v (.int .i64) .k, dK, dK, dK, dK, dK, dK, dK, dK, dK, dK, dK, dK, dK, dK, dK, dK, dK, dK, dK, dK, dK, dK, dK, dK, dK, dK, dK, dK, dK, dK, dK, dK]
noncomputable def ko_spec_AttackersOf_l3_0 : List Kd := [dK, dK, dK, dK, dK, .v (.sl (.int .i64)) (.o 3 none .k), dK, dK, dK, dK, dK, dK, dK, dK, dK, dK, dK, dK, dK, dK, dK, dK, dK, dK, dK, dK, dK, dK, dK, dK, dK, dK, dK, dK, dK, dK, dK, dK, dK]
noncomputable def h_spec_AttackersOf : Hint := { tab, hn := [], loops := [(3, ks_spec_AttackersOf_l3)], outs := [(3, 2, ko_spec_AttackersOf_l3_0)], ords := [] }
noncomputable def sg_spec_AttackersOf : List AK := [.v tQILLIE .k, .v (.int .i64) .k]
noncomputable def F_spec_AttackersOf (N : Nat) (x : AVals sg_spec_AttackersOf) (kf : Ret → Option Ret) : Option Ret := spec_AttackersOf N x.1 x.2.1 (fun r0 => kf ⟨[⟨(.sl (.int .i64)), (.o 3 none .k), r0⟩], []⟩)
noncomputable def run_spec_AttackersOf (N : Nat) := runOf sg_spec_AttackersOf (F_spec_AttackersOf N)
noncomputable def es_spec_AttackersOf (N : Nat) : List Entry := [⟨60, [.val], (run_spec_IsGraph N)⟩]
noncomputable def body_spec_AttackersOf : Code := match Try.f170.body with | some c => c | none => .skip
noncomputable def L_spec_AttackersOf (N n : Nat) (key : Nat) (S : St) (K : Ks) : Option Ret := bif Nat.beq key 3 then withVals ks_spec_AttackersOf_l3 S (fun x => spec_AttackersOf_l3 N x.1 x.2.1 n (fun z0 => K (.x 0) (shape ko_spec_AttackersOf_l3_0 (z0, ()))) x.2.2.1 x.2.2.2.1) else none
theorem L0_spec_AttackersOf (N key : Nat) (S : St) (K : Ks) : L_spec_AttackersOf N 0 key S K = none := (bif0 (withVals0 fun _ => rfl) rfl)
noncomputable def c_spec_AttackersOf_0 : Code := (loopsIn body_spec_AttackersOf).getD 0 .skip
theorem ls_spec_AttackersOf : loopsIn body_spec_AttackersOf = [c_spec_AttackersOf_0] := by kernel_rfl
theorem rd_spec_AttackersOf_3 (N n : Nat) (x : Vals ks_spec_AttackersOf_l3) (K : Ks) : L_spec_AttackersOf N (n + 1) 3 (shape ks_spec_AttackersOf_l3 x) (h_spec_AttackersOf.onOut 3 K) = peRound h_spec_AttackersOf (Orc.of (es_spec_AttackersOf N)) (mixL (L_spec_AttackersOf N) N n 3) c_spec_AttackersOf_0 (shape ks_spec_AttackersOf_l3 x) (h_spec_AttackersOf.onOut 3 K) := by kernel_rfl
theorem fn_spec_AttackersOf (N : Nat) (x : AVals sg_spec_AttackersOf) (kf : Ret → Option Ret) : F_spec_AttackersOf N x kf = peFunc h_spec_AttackersOf (Orc.of (es_spec_AttackersOf N)) (L_spec_AttackersOf N N) Try.f170 (ashape sg_spec_AttackersOf x) kf := by kernel_rfl
theorem sd_spec_AttackersOf {Γ : Gl} (N : Nat) : Sound Γ Try.prog 170 (run_spec_AttackersOf N) := fun_ok2 (hh := h_spec_AttackersOf) mixed tab_ok (es := es_spec_AttackersOf N) ⟨sd_spec_IsGraph N, trivial⟩ (fn := Try.f170) (body := body_spec_AttackersOf) (by kernel_rfl) (by kernel_rfl) (by kernel_rfl) (by kernel_rfl) (by kernel_rfl) (Lf := L_spec_AttackersOf N) (L0_spec_AttackersOf N) ls_spec_AttackersOf (round_cons (key := 3) (ks := ks_spec_AttackersOf_l3) (by kernel_rfl) (by kernel_rfl) (rd_spec_AttackersOf_3 N) trivial) (N := N) (by kernel_rfl) (fn_spec_AttackersOf N) (.inl (by kernel_rfl))
/-! spec_Defends -/
noncomputable def ks_spec_Defends_l6 : List Kd := [dK, dK, dK, dK, dK, dK, dK, .v (.sl (.int .i64)) (.o 3 none .k), .v (.sl (.int .i64)) (.o 3 none .k), .v (.int .i64) .k, dK, dK, dK, dK, dK, dK, dK, dK, dK, dK, dK, dK, dK, dK, dK, dK, dK, dK, dK, dK, dK, dK, dK, dK, dK, dK, dK, dK, dK, dK, dK]
noncomputable def ko_spec_Defends_l6_0 : List Kd := [dK, dK, dK, dK, dK, dK, dK, dK, dK, dK, dK, dK, dK, dK, dK, dK, dK, dK, dK, dK, dK, dK, dK, dK, dK, dK, dK, dK, dK, dK, dK, dK, dK, dK, dK, dK, dK, dK, dK, dK, dK]
noncomputable def ko_spec_Defends_l6_1 : List Kd := [dK, dK, dK, dK, dK, dK, .v .bool .k, dK, dK, dK, dK, dK, dK, dK, dK, dK, dK, dK, dK, dK, dK, dK, dK, dK, dK, dK, dK, dK, dK, dK, dK, dK, dK, dK, dK, dK, dK, dK, dK, dK, dK]
noncomputable def h_spec_Defends : Hint := { tab, hn := [], loops := [(6, ks_spec_Defends_l6)], outs := [(6, 2, ko_spec_Defends_l6_0), (6, 1, ko_spec_Defends_l6_1)], ords := [] }
noncomputable def sg_spec_Defends : List AK := [.v tQILLIE .k, .v (.sl (.int .i64)) .k, .v (.int .i64) .k]
noncomputable def F_spec_Defends (N : Nat) (x : AVals sg_spec_Defends) (kf : Ret → Option Ret) : Option Ret := spec_Defends N x.1 x.2.1 x.2.2.1 (fun r0 => kf ⟨[⟨.bool, .k, r0⟩], []⟩)
noncomputable def run_spec_Defends (N : Nat) := runOf sg_spec_Defends (F_spec_Defends N)
noncomputable def es_spec_Defends (N : Nat) : List Entry := [⟨155, [.val, .val], (run_spec_IsSet N)⟩, ⟨72, [.val, .val, .val], (run_spec_l1In N)⟩, ⟨117, [.val, .val], (run_spec_HitBy N)⟩, ⟨170, [.val, .val], (run_spec_AttackersOf N)⟩, ⟨118, [.val, .val], (run_spec_l4Has N)⟩]
noncomputable def body_spec_Defends : Code := match Try.f156.body with | some c => c | none => .skip
noncomputable def L_spec_Defends (N n : Nat) (key : Nat) (S : St) (K : Ks) : Option Ret := bif Nat.beq key 6 then withVals ks_spec_Defends_l6 S (fun x => spec_Defends_l6 N x.1 x.2.1 n (K (.x 0) (shape ko_spec_Defends_l6_0 ())) (fun z0 => K .r (shape ko_spec_Defends_l6_1 (z0, ()))) x.2.2.1) else none
theorem L0_spec_Defends (N key : Nat) (S : St) (K : Ks) : L_spec_Defends N 0 key S K = none := (bif0 (withVals0 fun _ => rfl) rfl)
noncomputable def c_spec_Defends_0 : Code := (loopsIn body_spec_Defends).getD 0 .skip
theorem ls_spec_Defends : loopsIn body_spec_Defends = [c_spec_Defends_0] := by kernel_rfl
theorem rd_spec_Defends_6 (N n : Nat) (x : Vals ks_spec_Defends_l6) (K : Ks) : L_spec_Defends N (n + 1) 6 (shape ks_spec_Defends_l6 x) (h_spec_Defends.onOut 6 K) = peRound h_spec_Defends (Orc.of (es_spec_Defends N)) (mixL (L_spec_Defends N) N n 6) c_spec_Defends_0 (shape ks_spec_Defends_l6 x) (h_spec_Defends.onOut 6 K) := by kernel_rfl
theorem fn_spec_Defends (N : Nat) (x : AVals sg_spec_Defends) (kf : Ret → Option Ret) : F_spec_Defends N x kf = peFunc h_spec_Defends (Orc.of (es_spec_Defends N)) (L_spec_Defends N N) Try.f156 (ashape sg_spec_Defends x) kf := by kernel_rfl
theorem sd_spec_Defends {Γ : Gl} (N : Nat) : Sound Γ Try.prog 156 (run_spec_Defends N) := fun_ok2 (hh := h_spec_Defends) mixed tab_ok (es := es_spec_Defends N) ⟨sd_spec_IsSet N, ⟨sd_spec_l1In N, ⟨sd_spec_HitBy N, ⟨sd_spec_AttackersOf N, ⟨sd_spec_l4Has N, trivial⟩⟩⟩⟩⟩ (fn := Try.f156) (body := body_spec_Defends) (by kernel_rfl) (by kernel_rfl) (by kernel_rfl) (by kernel_rfl) (by kernel_rfl) (Lf := L_spec_Defends N) (L0_spec_Defends N) ls_spec_Defends (round_cons (key := 6) (ks := ks_spec_Defends_l6) (by kernel_rfl) (by kernel_rfl) (rd_spec_Defends_6 N) trivial) (N := N) (by kernel_rfl) (fn_spec_Defends N) (.inl (by kernel_rfl))
/-! spec_DefendedBy -/
noncomputable def ks_spec_DefendedBy_l3 : List Kd := [dK, .v (.sl (.int .i64)) .k, .v (.ptr tQILLIE) (.o 45 none .k), dK, dK, .v (.sl (.int .i64)) (.o 3 none .k), .v (.int .i64) .k, dK, dK, dK, dK, dK, dK, dK, dK, dK, dK, dK, dK, dK, dK, dK, dK, dK, dK, dK, dK, dK]
noncomputable def ko_spec_DefendedBy_l3_0 : List Kd := [dK, dK, dK, dK, dK, .v (.sl (.int .i64)) (.o 3 none .k), dK, dK, dK, dK, dK, dK, dK, dK, dK, dK, dK, dK, dK, dK, dK, dK, dK, dK, dK, dK, dK, dK]
noncomputable def h_spec_DefendedBy : Hint := { tab, hn := [], loops := [(3, ks_spec_DefendedBy_l3)], outs := [(3, 2, ko_spec_DefendedBy_l3_0)], ords := [] }
noncomputable def sg_spec_DefendedBy : List AK := [.v tQILLIE .k, .v (.sl (.int .i64)) .k]
noncomputable def F_spec_DefendedBy (N : Nat) (x : AVals sg_spec_DefendedBy) (kf : Ret → Option Ret) : Option Ret := spec_DefendedBy N x.1 x.2.1 (fun r0 => kf ⟨[⟨(.sl (.int .i64)), (.o 3 none .k), r0⟩], []⟩)
noncomputable def run_spec_DefendedBy (N : Nat) := runOf sg_spec_DefendedBy (F_spec_DefendedBy N)
noncomputable def es_spec_DefendedBy (N : Nat) : List Entry := [⟨155, [.val, .val], (run_spec_IsSet N)⟩, ⟨156, [.val, .val, .val], (run_spec_Defends N)⟩]
noncomputable def body_spec_DefendedBy : Code := match Try.f137.body with | some c => c | none => .skip
noncomputable def L_spec_DefendedBy (N n : Nat) (key : Nat) (S : St) (K : Ks) : Option Ret := bif Nat.beq key 3 then withVals ks_spec_DefendedBy_l3 S (fun x => spec_DefendedBy_l3 N x.1 x.2.1 n (fun z0 => K (.x 0) (shape ko_spec_DefendedBy_l3_0 (z0, ()))) x.2.2.1 x.2.2.2.1) else none
theorem L0_spec_DefendedBy (N key : Nat) (S : St) (K : Ks) : L_spec_DefendedBy N 0 key S K = none := (bif0 (withVals0 fun _ => rfl) rfl)
noncomputable def c_spec_DefendedBy_0 : Code := (loopsIn body_spec_DefendedBy).getD 0 .skip
theorem ls_spec_DefendedBy : loopsIn body_spec_DefendedBy = [c_spec_DefendedBy_0] := by kernel_rfl
theorem rd_spec_DefendedBy_3 (N n : Nat) (x : Vals ks_spec_DefendedBy_l3) (K : Ks) : L_spec_DefendedBy N (n + 1) 3 (shape ks_spec_DefendedBy_l3 x) (h_spec_DefendedBy.onOut 3 K) = peRound h_spec_DefendedBy (Orc.of (es_spec_DefendedBy N)) (mixL (L_spec_DefendedBy N) N n 3) c_spec_DefendedBy_0 (shape ks_spec_DefendedBy_l3 x) (h_spec_DefendedBy.onOut 3 K) := by kernel_rfl
theorem fn_spec_DefendedBy (N : Nat) (x : AVals sg_spec_DefendedBy) (kf : Ret → Option Ret) : F_spec_DefendedBy N x kf = peFunc h_spec_DefendedBy (Orc.of (es_spec_DefendedBy N)) (L_spec_DefendedBy N N) Try.f137 (ashape sg_spec_DefendedBy x) kf := by kernel_rfl
theorem sd_spec_DefendedBy {Γ : Gl} (N : Nat) : Sound Γ Try.prog 137 (run_spec_DefendedBy N) := fun_ok2 (hh := h_spec_DefendedBy) mixed tab_ok (es := es_spec_DefendedBy N) ⟨sd_spec_IsSet N, ⟨sd_spec_Defends N, trivial⟩⟩ (fn := Try.f137) (body := body_spec_DefendedBy) (by kernel_rfl) (by kernel_rfl) (by kernel_rfl) (by kernel_rfl) (by kernel_rfl) (Lf := L_spec_DefendedBy N) (L0_spec_DefendedBy N) ls_spec_DefendedBy (round_cons (key := 3) (ks := ks_spec_DefendedBy_l3) (by kernel_rfl) (by kernel_rfl) (rd_spec_DefendedBy_3 N) trivial) (N := N) (by kernel_rfl) (fn_spec_DefendedBy N) (.inl (by kernel_rfl))
/-! spec_EqualInts -/
noncomputable def ks_spec_EqualInts_l4 : List Kd := [.v (.sl (.int .i64)) .k, .v (.sl (.int .i64)) .k, dK, dK, dK, .v (.int .i64) .k, dK, dK, dK, dK, dK, dK, dK, dK, dK, dK, dK, dK, dK, dK, dK, dK, dK, dK, dK, dK]
noncomputable def ko_spec_EqualInts_l4_0 : List Kd := [dK, dK, dK, dK, dK, dK, dK, dK, dK, dK, dK, dK, dK, dK, dK, dK, dK, dK, dK, dK, dK, dK, dK, dK, dK, dK]
noncomputable def ko_spec_EqualInts_l4_1 : List Kd := [dK, dK, dK, dK, .v .bool .k, dK, dK, dK, dK, dK, dK, dK, dK, dK, dK, dK, dK, dK, dK, dK, dK, dK, dK, dK, dK, dK]
noncomputable def h_spec_EqualInts : Hint := { tab, hn := [], loops := [(4, ks_spec_EqualInts_l4)], outs := [(4, 2, ko_spec_EqualInts_l4_0), (4, 1, ko_spec_EqualInts_l4_1)], ords := [(6, (OT.seq [0, 1, 2, 3, 4, 5, 6, 7, 8] .done))] }
noncomputable def sg_spec_EqualInts : List AK := [.v (.sl (.int .i64)) .k, .v (.sl (.int .i64)) .k]
noncomputable def F_spec_EqualInts (N : Nat) (x : AVals sg_spec_EqualInts) (kf : Ret → Option Ret) : Option Ret := spec_EqualInts N x.1 x.2.1 (fun r0 => kf ⟨[⟨.bool, .k, r0⟩], []⟩)
noncomputable def run_spec_EqualInts (N : Nat) := runOf sg_spec_EqualInts (F_spec_EqualInts N)
noncomputable def es_spec_EqualInts (N : Nat) : List Entry := []
noncomputable def body_spec_EqualInts : Code := match Try.f138.body with | some c => c | none => .skip
noncomputable def L_spec_EqualInts (N n : Nat) (key : Nat) (S : St) (K : Ks) : Option Ret := bif Nat.beq key 4 then withVals ks_spec_EqualInts_l4 S (fun x => spec_EqualInts_l4 x.1 x.2.1 n (K (.x 0) (shape ko_spec_EqualInts_l4_0 ())) (fun z0 => K .r (shape ko_spec_EqualInts_l4_1 (z0, ()))) x.2.2.1) else none
theorem L0_spec_EqualInts (N key : Nat) (S : St) (K : Ks) : L_spec_EqualInts N 0 key S K = none := (bif0 (withVals0 fun _ => rfl) rfl)
noncomputable def c_spec_EqualInts_0 : Code := (loopsIn body_spec_EqualInts).getD 0 .skip
theorem ls_spec_EqualInts : loopsIn body_spec_EqualInts = [c_spec_EqualInts_0] := by kernel_rfl
theorem rd_spec_EqualInts_4 (N n : Nat) (x : Vals ks_spec_EqualInts_l4) (K : Ks) : L_spec_EqualInts N (n + 1) 4 (shape ks_spec_EqualInts_l4 x) (h_spec_EqualInts.onOut 4 K) = peRound h_spec_EqualInts (Orc.of (es_spec_EqualInts N)) (mixL (L_spec_EqualInts N) N n 4) c_spec_EqualInts_0 (shape ks_spec_EqualInts_l4 x) (h_spec_EqualInts.onOut 4 K) := by kernel_rfl
theorem fn_spec_EqualInts (N : Nat) (x : AVals sg_spec_EqualInts) (kf : Ret → Option Ret) : F_spec_EqualInts N x kf = peFunc h_spec_EqualInts (Orc.of (es_spec_EqualInts N)) (L_spec_EqualInts N N) Try.f138 (ashape sg_spec_EqualInts x) kf := by kernel_rfl
theorem sd_spec_EqualInts {Γ : Gl} (N : Nat) : Sound Γ Try.prog 138 (run_spec_EqualInts N) := fun_ok2 (hh := h_spec_EqualInts) mixed tab_ok (es := es_spec_EqualInts N) trivial (fn := Try.f138) (body := body_spec_EqualInts) (by kernel_rfl) (by kernel_rfl) (by kernel_rfl) (by kernel_rfl) (by kernel_rfl) (Lf := L_spec_EqualInts N) (L0_spec_EqualInts N) ls_spec_EqualInts (round_cons (key := 4) (ks := ks_spec_EqualInts_l4) (by kernel_rfl) (by kernel_rfl) (rd_spec_EqualInts_4 N) trivial) (N := N) (by kernel_rfl) (fn_spec_EqualInts N) (.inl (by kernel_rfl))
/-! spec_Grounded -/
noncomputable def ks_spec_Grounded_l2 : List Kd := [dK, .v (.ptr tQILLIE) (.o 45 none .k), dK, .v (.sl (.int .i64)) (.o 3 none .k), dK, dK, dK, dK, dK, dK, dK, dK, dK, dK]
noncomputable def ko_spec_Grounded_l2_0 : List Kd := [dK, dK, .v (.sl (.int .i64)) (.o 3 none .k), dK, dK, dK, dK, dK, dK, dK, dK, dK, dK, dK]
noncomputable def h_spec_Grounded : Hint := { tab, hn := [], loops := [(2, ks_spec_Grounded_l2)], outs := [(2, 1, ko_spec_Grounded_l2_0)], ords := [] }
noncomputable def sg_spec_Grounded : List AK := [.v tQILLIE .k]
noncomputable def F_spec_Grounded (N : Nat) (x : AVals sg_spec_Grounded) (kf : Ret → Option Ret) : Option Ret := spec_Grounded N x.1 (fun r0 => kf ⟨[⟨(.sl (.int .i64)), (.o 3 none .k), r0⟩], []⟩)
noncomputable def run_spec_Grounded (N : Nat) := runOf sg_spec_Grounded (F_spec_Grounded N)
noncomputable def es_spec_Grounded (N : Nat) : List Entry := [⟨137, [.val, .val], (run_spec_DefendedBy N)⟩, ⟨138, [.val, .val], (run_spec_EqualInts N)⟩]
noncomputable def body_spec_Grounded : Code := match Try.f116.body with | some c => c | none => .skip
noncomputable def L_spec_Grounded (N n : Nat) (key : Nat) (S : St) (K : Ks) : Option Ret := bif Nat.beq key 2 then withVals ks_spec_Grounded_l2 S (fun x => spec_Grounded_l2 N x.1 n (fun z0 => K .r (shape ko_spec_Grounded_l2_0 (z0, ()))) x.2.1) else none
theorem L0_spec_Grounded (N key : Nat) (S : St) (K : Ks) : L_spec_Grounded N 0 key S K = none := (bif0 (withVals0 fun _ => rfl) rfl)
noncomputable def c_spec_Grounded_0 : Code := (loopsIn body_spec_Grounded).getD 0 .skip
theorem ls_spec_Grounded : loopsIn body_spec_Grounded = [c_spec_Grounded_0] := by kernel_rfl
theorem rd_spec_Grounded_2 (N n : Nat) (x : Vals ks_spec_Grounded_l2) (K : Ks) : L_spec_Grounded N (n + 1) 2 (shape ks_spec_Grounded_l2 x) (h_spec_Grounded.onOut 2 K) = peRound h_spec_Grounded (Orc.of (es_spec_Grounded N)) (mixL (L_spec_Grounded N) N n 2) c_spec_Grounded_0 (shape ks_spec_Grounded_l2 x) (h_spec_Grounded.onOut 2 K) := by kernel_rfl
theorem fn_spec_Grounded (N : Nat) (x : AVals sg_spec_Grounded) (kf : Ret → Option Ret) : F_spec_Grounded N x kf = peFunc h_spec_Grounded (Orc.of (es_spec_Grounded N)) (L_spec_Grounded N N) Try.f116 (ashape sg_spec_Grounded x) kf := by kernel_rfl
theorem sd_spec_Grounded {Γ : Gl} (N : Nat) : Sound Γ Try.prog 116 (run_spec_Grounded N) := fun_ok2 (hh := h_spec_Grounded) mixed tab_ok (es := es_spec_Grounded N) ⟨sd_spec_DefendedBy N, ⟨sd_spec_EqualInts N, trivial⟩⟩ (fn := Try.f116) (body := body_spec_Grounded) (by kernel_rfl) (by kernel_rfl) (by kernel_rfl) (by kernel_rfl) (by kernel_rfl) (Lf := L_spec_Grounded N) (L0_spec_Grounded N) ls_spec_Grounded (round_cons (key := 2) (ks := ks_spec_Grounded_l2) (by kernel_rfl) (by kernel_rfl) (rd_spec_Grounded_2 N) trivial) (N := N) (by kernel_rfl) (fn_spec_Grounded N) (.inl (by kernel_rfl))
/-! spec_Labels -/
noncomputable def ks_spec_Labels_l5 : List Kd := [dK, .v (.ptr tQILLIE) (.o 45 none .k), dK, .v (.sl .str) (.o 9 none .k), .v (.sl (.int .i64)) (.o 3 none .k), .v (.sl (.int .i64)) (.o 3 none .k), .v (.int .i64) .k, dK, dK, dK, dK, dK, dK, dK, dK, dK, dK, dK, dK, dK, dK, dK, dK, dK, dK, dK, dK, dK, dK, dK, dK, dK, dK, dK, dK, dK, dK, dK, dK, dK, dK]
noncomputable def ko_spec_Labels_l5_0 : List Kd := [dK, dK, dK, .v (.sl .str) (.o 9 none .k), dK, dK, dK, dK, dK, dK, dK, dK, dK, dK, dK, dK, dK, dK, dK, dK, dK, dK, dK, dK, dK, dK, dK, dK, dK, dK, dK, dK, dK, dK, dK, dK, dK, dK, dK, dK, dK]
noncomputable def h_spec_Labels : Hint := { tab, hn := [], loops := [(5, ks_spec_Labels_l5)], outs := [(5, 2, ko_spec_Labels_l5_0)], ords := [] }
noncomputable def sg_spec_Labels : List AK := [.v tQILLIE .k]
noncomputable def F_spec_Labels (N : Nat) (x : AVals sg_spec_Labels) (kf : Ret → Option Ret) : Option Ret := spec_Labels N x.1 (fun r0 => kf ⟨[⟨(.sl .str), (.o 9 none .k), r0⟩], []⟩)
noncomputable def run_spec_Labels (N : Nat) := runOf sg_spec_Labels (F_spec_Labels N)
noncomputable def es_spec_Labels (N : Nat) : List Entry := [⟨116, [.val], (run_spec_Grounded N)⟩, ⟨117, [.val, .val], (run_spec_HitBy N)⟩, ⟨60, [.val], (run_spec_IsGraph N)⟩, ⟨118, [.val, .val], (run_spec_l4Has N)⟩]
noncomputable def body_spec_Labels : Code := match Try.f93.body with | some c => c | none => .skip
noncomputable def L_spec_Labels (N n : Nat) (key : Nat) (S : St) (K : Ks) : Option Ret := bif Nat.beq key 5 then withVals ks_spec_Labels_l5 S (fun x => spec_Labels_l5 N x.1 x.2.2.1 x.2.2.2.1 n (fun z0 => K (.x 0) (shape ko_spec_Labels_l5_0 (z0, ()))) x.2.1 x.2.2.2.2.1) else none
theorem L0_spec_Labels (N key : Nat) (S : St) (K : Ks) : L_spec_Labels N 0 key S K = none := (bif0 (withVals0 fun _ => rfl) rfl)
noncomputable def c_spec_Labels_0 : Code := (loopsIn body_spec_Labels).getD 0 .skip
theorem ls_spec_Labels : loopsIn body_spec_Labels = [c_spec_Labels_0] := by kernel_rfl
theorem rd_spec_Labels_5 (N n : Nat) (x : Vals ks_spec_Labels_l5) (K : Ks) : L_spec_Labels N (n + 1) 5 (shape ks_spec_Labels_l5 x) (h_spec_Labels.onOut 5 K) = peRound h_spec_Labels (Orc.of (es_spec_Labels N)) (mixL (L_spec_Labels N) N n 5) c_spec_Labels_0 (shape ks_spec_Labels_l5 x) (h_spec_Labels.onOut 5 K) := by kernel_rfl
theorem fn_spec_Labels (N : Nat) (x : AVals sg_spec_Labels) (kf : Ret → Option Ret) : F_spec_Labels N x kf = peFunc h_spec_Labels (Orc.of (es_spec_Labels N)) (L_spec_Labels N N) Try.f93 (ashape sg_spec_Labels x) kf := by kernel_rfl
theorem sd_spec_Labels {Γ : Gl} (N : Nat) : Sound Γ Try.prog 93 (run_spec_Labels N) := fun_ok2 (hh := h_spec_Labels) mixed tab_ok (es := es_spec_Labels N) ⟨sd_spec_Grounded N, ⟨sd_spec_HitBy N, ⟨sd_spec_IsGraph N, ⟨sd_spec_l4Has N, trivial⟩⟩⟩⟩ (fn := Try.f93) (body := body_spec_Labels) (by kernel_rfl) (by kernel_rfl) (by kernel_rfl) (by kernel_rfl) (by kernel_rfl) (Lf := L_spec_Labels N) (L0_spec_Labels N) ls_spec_Labels (round_cons (key := 5) (ks := ks_spec_Labels_l5) (by kernel_rfl) (by kernel_rfl) (rd_spec_Labels_5 N) trivial) (N := N) (by kernel_rfl) (fn_spec_Labels N) (.inl (by kernel_rfl))
/-! spec_OpenClaims -/
noncomputable def ks_spec_OpenClaims_l4 : List Kd := [dK, dK, dK, .v (.sl (.int .i64)) (.o 3 none .k), .v (.sl .str) (.o 9 none .k), .v (.int .i64) .k, dK, dK, dK, dK, dK, dK, dK, dK, dK, dK, dK, dK, dK, dK, dK, dK, dK, dK, dK]
noncomputable def ko_spec_OpenClaims_l4_0 : List Kd := [dK, dK, dK, .v (.sl (.int .i64)) (.o 3 none .k), dK, dK, dK, dK, dK, dK, dK, dK, dK, dK, dK, dK, dK, dK, dK, dK, dK, dK, dK, dK, dK]
noncomputable def h_spec_OpenClaims : Hint := { tab, hn := [], loops := [(4, ks_spec_OpenClaims_l4)], outs := [(4, 2, ko_spec_OpenClaims_l4_0)], ords := [] }
noncomputable def sg_spec_OpenClaims : List AK := [.v tQILLIE .k]
noncomputable def F_spec_OpenClaims (N : Nat) (x : AVals sg_spec_OpenClaims) (kf : Ret → Option Ret) : Option Ret := spec_OpenClaims N x.1 (fun r0 => kf ⟨[⟨(.sl (.int .i64)), (.o 3 none .k), r0⟩], []⟩)
noncomputable def run_spec_OpenClaims (N : Nat) := runOf sg_spec_OpenClaims (F_spec_OpenClaims N)
noncomputable def es_spec_OpenClaims (N : Nat) : List Entry := [⟨93, [.val], (run_spec_Labels N)⟩]
noncomputable def body_spec_OpenClaims : Code := match Try.f61.body with | some c => c | none => .skip
noncomputable def L_spec_OpenClaims (N n : Nat) (key : Nat) (S : St) (K : Ks) : Option Ret := bif Nat.beq key 4 then withVals ks_spec_OpenClaims_l4 S (fun x => spec_OpenClaims_l4 x.2.1 n (fun z0 => K (.x 0) (shape ko_spec_OpenClaims_l4_0 (z0, ()))) x.1 x.2.2.1) else none
theorem L0_spec_OpenClaims (N key : Nat) (S : St) (K : Ks) : L_spec_OpenClaims N 0 key S K = none := (bif0 (withVals0 fun _ => rfl) rfl)
noncomputable def c_spec_OpenClaims_0 : Code := (loopsIn body_spec_OpenClaims).getD 0 .skip
theorem ls_spec_OpenClaims : loopsIn body_spec_OpenClaims = [c_spec_OpenClaims_0] := by kernel_rfl
theorem rd_spec_OpenClaims_4 (N n : Nat) (x : Vals ks_spec_OpenClaims_l4) (K : Ks) : L_spec_OpenClaims N (n + 1) 4 (shape ks_spec_OpenClaims_l4 x) (h_spec_OpenClaims.onOut 4 K) = peRound h_spec_OpenClaims (Orc.of (es_spec_OpenClaims N)) (mixL (L_spec_OpenClaims N) N n 4) c_spec_OpenClaims_0 (shape ks_spec_OpenClaims_l4 x) (h_spec_OpenClaims.onOut 4 K) := by kernel_rfl
theorem fn_spec_OpenClaims (N : Nat) (x : AVals sg_spec_OpenClaims) (kf : Ret → Option Ret) : F_spec_OpenClaims N x kf = peFunc h_spec_OpenClaims (Orc.of (es_spec_OpenClaims N)) (L_spec_OpenClaims N N) Try.f61 (ashape sg_spec_OpenClaims x) kf := by kernel_rfl
theorem sd_spec_OpenClaims {Γ : Gl} (N : Nat) : Sound Γ Try.prog 61 (run_spec_OpenClaims N) := fun_ok2 (hh := h_spec_OpenClaims) mixed tab_ok (es := es_spec_OpenClaims N) ⟨sd_spec_Labels N, trivial⟩ (fn := Try.f61) (body := body_spec_OpenClaims) (by kernel_rfl) (by kernel_rfl) (by kernel_rfl) (by kernel_rfl) (by kernel_rfl) (Lf := L_spec_OpenClaims N) (L0_spec_OpenClaims N) ls_spec_OpenClaims (round_cons (key := 4) (ks := ks_spec_OpenClaims_l4) (by kernel_rfl) (by kernel_rfl) (rd_spec_OpenClaims_4 N) trivial) (N := N) (by kernel_rfl) (fn_spec_OpenClaims N) (.inl (by kernel_rfl))
/-! spec_OpenShare -/
noncomputable def h_spec_OpenShare : Hint := { tab, hn := [], loops := [], outs := [], ords := [(3, (OT.seq [0, 4, 5, 1, 2, 3, 6, 7] .done))] }
noncomputable def sg_spec_OpenShare : List AK := [.v tQILLIE .k]
noncomputable def F_spec_OpenShare (N : Nat) (x : AVals sg_spec_OpenShare) (kf : Ret → Option Ret) : Option Ret := spec_OpenShare N x.1 (fun r0 => kf ⟨[⟨(.int .i64), .k, r0⟩], []⟩)
noncomputable def run_spec_OpenShare (N : Nat) := runOf sg_spec_OpenShare (F_spec_OpenShare N)
noncomputable def es_spec_OpenShare (N : Nat) : List Entry := [⟨60, [.val], (run_spec_IsGraph N)⟩, ⟨61, [.val], (run_spec_OpenClaims N)⟩]
noncomputable def body_spec_OpenShare : Code := match Try.f17.body with | some c => c | none => .skip
noncomputable def L_spec_OpenShare (N n : Nat) (key : Nat) (S : St) (K : Ks) : Option Ret := none
theorem L0_spec_OpenShare (N key : Nat) (S : St) (K : Ks) : L_spec_OpenShare N 0 key S K = none := rfl
theorem ls_spec_OpenShare : loopsIn body_spec_OpenShare = [] := by kernel_rfl
theorem fn_spec_OpenShare (N : Nat) (x : AVals sg_spec_OpenShare) (kf : Ret → Option Ret) : F_spec_OpenShare N x kf = peFunc h_spec_OpenShare (Orc.of (es_spec_OpenShare N)) (L_spec_OpenShare N N) Try.f17 (ashape sg_spec_OpenShare x) kf := by kernel_rfl
theorem sd_spec_OpenShare {Γ : Gl} (N : Nat) : Sound Γ Try.prog 17 (run_spec_OpenShare N) := fun_ok2 (hh := h_spec_OpenShare) mixed tab_ok (es := es_spec_OpenShare N) ⟨sd_spec_IsGraph N, ⟨sd_spec_OpenClaims N, trivial⟩⟩ (fn := Try.f17) (body := body_spec_OpenShare) (by kernel_rfl) (by kernel_rfl) (by kernel_rfl) (by kernel_rfl) (by kernel_rfl) (Lf := L_spec_OpenShare N) (L0_spec_OpenShare N) ls_spec_OpenShare trivial (N := N) (by kernel_rfl) (fn_spec_OpenShare N) (.inl (by kernel_rfl))
/-! impl_isClaim -/
noncomputable def h_impl_isClaim : Hint := { tab, hn := [], loops := [], outs := [], ords := [] }
noncomputable def sg_impl_isClaim : List AK := [.v tQILLIE .k, .v (.int .i64) .k]
noncomputable def F_impl_isClaim (N : Nat) (x : AVals sg_impl_isClaim) (kf : Ret → Option Ret) : Option Ret := impl_isClaim N x.1 x.2.1 (fun r0 => kf ⟨[⟨.bool, .k, r0⟩], []⟩)
noncomputable def run_impl_isClaim (N : Nat) := runOf sg_impl_isClaim (F_impl_isClaim N)
noncomputable def es_impl_isClaim (N : Nat) : List Entry := [⟨45, [.val, .val, .val], (run_impl_InRange N)⟩]
noncomputable def body_impl_isClaim : Code := match Try.f95.body with | some c => c | none => .skip
noncomputable def L_impl_isClaim (N n : Nat) (key : Nat) (S : St) (K : Ks) : Option Ret := none
theorem L0_impl_isClaim (N key : Nat) (S : St) (K : Ks) : L_impl_isClaim N 0 key S K = none := rfl
theorem ls_impl_isClaim : loopsIn body_impl_isClaim = [] := by kernel_rfl
theorem fn_impl_isClaim (N : Nat) (x : AVals sg_impl_isClaim) (kf : Ret → Option Ret) : F_impl_isClaim N x kf = peFunc h_impl_isClaim (Orc.of (es_impl_isClaim N)) (L_impl_isClaim N N) Try.f95 (ashape sg_impl_isClaim x) kf := by kernel_rfl
theorem sd_impl_isClaim {Γ : Gl} (N : Nat) : Sound Γ Try.prog 95 (run_impl_isClaim N) := fun_ok2 (hh := h_impl_isClaim) mixed tab_ok (es := es_impl_isClaim N) ⟨sd_impl_InRange N, trivial⟩ (fn := Try.f95) (body := body_impl_isClaim) (by kernel_rfl) (by kernel_rfl) (by kernel_rfl) (by kernel_rfl) (by kernel_rfl) (Lf := L_impl_isClaim N) (L0_impl_isClaim N) ls_impl_isClaim trivial (N := N) (by kernel_rfl) (fn_impl_isClaim N) (.inl (by kernel_rfl))
/-! cmp_isNaN_int -/
noncomputable def h_cmp_isNaN_int : Hint := { tab, hn := [], loops := [], outs := [], ords := [] }
noncomputable def sg_cmp_isNaN_int : List AK := [.v (.int .i64) .k]
noncomputable def F_cmp_isNaN_int (N : Nat) (x : AVals sg_cmp_isNaN_int) (kf : Ret → Option Ret) : Option Ret := cmp_isNaN_int N x.1 (fun r0 => kf ⟨[⟨.bool, .k, r0⟩], []⟩)
noncomputable def run_cmp_isNaN_int (N : Nat) := runOf sg_cmp_isNaN_int (F_cmp_isNaN_int N)
noncomputable def es_cmp_isNaN_int (N : Nat) : List Entry := []
noncomputable def body_cmp_isNaN_int : Code := match Try.f139.body with | some c => c | none => .skip
noncomputable def L_cmp_isNaN_int (N n : Nat) (key : Nat) (S : St) (K : Ks) : Option Ret := none
theorem L0_cmp_isNaN_int (N key : Nat) (S : St) (K : Ks) : L_cmp_isNaN_int N 0 key S K = none := rfl
theorem ls_cmp_isNaN_int : loopsIn body_cmp_isNaN_int = [] := by kernel_rfl
theorem fn_cmp_isNaN_int (N : Nat) (x : AVals sg_cmp_isNaN_int) (kf : Ret → Option Ret) : F_cmp_isNaN_int N x kf = peFunc h_cmp_isNaN_int (Orc.of (es_cmp_isNaN_int N)) (L_cmp_isNaN_int N N) Try.f139 (ashape sg_cmp_isNaN_int x) kf := by kernel_rfl
theorem sd_cmp_isNaN_int {Γ : Gl} (N : Nat) : Sound Γ Try.prog 139 (run_cmp_isNaN_int N) := fun_ok2 (hh := h_cmp_isNaN_int) mixed tab_ok (es := es_cmp_isNaN_int N) trivial (fn := Try.f139) (body := body_cmp_isNaN_int) (by kernel_rfl) (by kernel_rfl) (by kernel_rfl) (by kernel_rfl) (by kernel_rfl) (Lf := L_cmp_isNaN_int N) (L0_cmp_isNaN_int N) ls_cmp_isNaN_int trivial (N := N) (by kernel_rfl) (fn_cmp_isNaN_int N) (.inl (by kernel_rfl))
/-! cmp_Compare_int -/
noncomputable def h_cmp_Compare_int : Hint := { tab, hn := [], loops := [], outs := [], ords := [] }
noncomputable def sg_cmp_Compare_int : List AK := [.v (.int .i64) .k, .v (.int .i64) .k]
noncomputable def F_cmp_Compare_int (N : Nat) (x : AVals sg_cmp_Compare_int) (kf : Ret → Option Ret) : Option Ret := cmp_Compare_int N x.1 x.2.1 (fun r0 => kf ⟨[⟨(.int .i64), .k, r0⟩], []⟩)
noncomputable def run_cmp_Compare_int (N : Nat) := runOf sg_cmp_Compare_int (F_cmp_Compare_int N)
noncomputable def es_cmp_Compare_int (N : Nat) : List Entry := [⟨139, [.val], (run_cmp_isNaN_int N)⟩]
noncomputable def body_cmp_Compare_int : Code := match Try.f119.body with | some c => c | none => .skip
noncomputable def L_cmp_Compare_int (N n : Nat) (key : Nat) (S : St) (K : Ks) : Option Ret := none
theorem L0_cmp_Compare_int (N key : Nat) (S : St) (K : Ks) : L_cmp_Compare_int N 0 key S K = none := rfl
theorem ls_cmp_Compare_int : loopsIn body_cmp_Compare_int = [] := by kernel_rfl
theorem fn_cmp_Compare_int (N : Nat) (x : AVals sg_cmp_Compare_int) (kf : Ret → Option Ret) : F_cmp_Compare_int N x kf = peFunc h_cmp_Compare_int (Orc.of (es_cmp_Compare_int N)) (L_cmp_Compare_int N N) Try.f119 (ashape sg_cmp_Compare_int x) kf := by kernel_rfl
theorem sd_cmp_Compare_int {Γ : Gl} (N : Nat) : Sound Γ Try.prog 119 (run_cmp_Compare_int N) := fun_ok2 (hh := h_cmp_Compare_int) mixed tab_ok (es := es_cmp_Compare_int N) ⟨sd_cmp_isNaN_int N, trivial⟩ (fn := Try.f119) (body := body_cmp_Compare_int) (by kernel_rfl) (by kernel_rfl) (by kernel_rfl) (by kernel_rfl) (by kernel_rfl) (Lf := L_cmp_Compare_int N) (L0_cmp_Compare_int N) ls_cmp_Compare_int trivial (N := N) (by kernel_rfl) (fn_cmp_Compare_int N) (.inl (by kernel_rfl))
/-! slices_Compare_int -/
noncomputable def ks_slices_Compare_int_l2 : List Kd := [.v (.sl (.int .i64)) .k, .v (.sl (.int .i64)) .k, dK, dK, dK, dK, dK, dK, dK, .v (.sl (.int .i64)) .k, .v (.int .i64) .k, .v (.int .i64) .k, dK, dK, dK, dK, dK, dK, dK, dK, dK, dK, dK, dK, dK, dK, dK, dK, dK, dK, dK, dK, dK, dK, dK, dK]
noncomputable def ko_slices_Compare_int_l2_0 : List Kd := [.v (.sl (.int .i64)) .k, .v (.sl (.int .i64)) .k, dK, dK, dK, dK, dK, dK, dK, dK, dK, dK, dK, dK, dK, dK, dK, dK, dK, dK, dK, dK, dK, dK, dK, dK, dK, dK, dK, dK, dK, dK, dK, dK, dK, dK]
noncomputable def ko_slices_Compare_int_l2_1 : List Kd := [dK, dK, dK, dK, .v (.int .i64) .k, dK, dK, dK, dK, dK, dK, dK, dK, dK, dK, dK, dK, dK, dK, dK, dK, dK, dK, dK, dK, dK, dK, dK, dK, dK, dK, dK, dK, dK, dK, dK]
noncomputable def h_slices_Compare_int : Hint := { tab, hn := [], loops := [(2, ks_slices_Compare_int_l2)], outs := [(2, 2, ko_slices_Compare_int_l2_0), (2, 1, ko_slices_Compare_int_l2_1)], ords := [] }
noncomputable def sg_slices_Compare_int : List AK := [.v (.sl (.int .i64)) .k, .v (.sl (.int .i64)) .k]
noncomputable def F_slices_Compare_int (N : Nat) (x : AVals sg_slices_Compare_int) (kf : Ret → Option Ret) : Option Ret := slices_Compare_int N x.1 x.2.1 (fun r0 => kf ⟨[⟨(.int .i64), .k, r0⟩], []⟩)
noncomputable def run_slices_Compare_int (N : Nat) := runOf sg_slices_Compare_int (F_slices_Compare_int N)
noncomputable def es_slices_Compare_int (N : Nat) : List Entry := [⟨119, [.val, .val], (run_cmp_Compare_int N)⟩]
noncomputable def body_slices_Compare_int : Code := match Try.f96.body with | some c => c | none => .skip
noncomputable def L_slices_Compare_int (N n : Nat) (key : Nat) (S : St) (K : Ks) : Option Ret := bif Nat.beq key 2 then withVals ks_slices_Compare_int_l2 S (fun x => slices_Compare_int_l2 N x.1 x.2.1 x.2.2.1 x.2.2.2.1 n (K (.x 0) (shape ko_slices_Compare_int_l2_0 (x.1, x.2.1, ()))) (fun z0 => K .r (shape ko_slices_Compare_int_l2_1 (z0, ()))) x.2.2.2.2.1) else none
theorem L0_slices_Compare_int (N key : Nat) (S : St) (K : Ks) : L_slices_Compare_int N 0 key S K = none := (bif0 (withVals0 fun _ => rfl) rfl)
noncomputable def c_slices_Compare_int_0 : Code := (loopsIn body_slices_Compare_int).getD 0 .skip
theorem ls_slices_Compare_int : loopsIn body_slices_Compare_int = [c_slices_Compare_int_0] := by kernel_rfl
theorem rd_slices_Compare_int_2 (N n : Nat) (x : Vals ks_slices_Compare_int_l2) (K : Ks) : L_slices_Compare_int N (n + 1) 2 (shape ks_slices_Compare_int_l2 x) (h_slices_Compare_int.onOut 2 K) = peRound h_slices_Compare_int (Orc.of (es_slices_Compare_int N)) (mixL (L_slices_Compare_int N) N n 2) c_slices_Compare_int_0 (shape ks_slices_Compare_int_l2 x) (h_slices_Compare_int.onOut 2 K) := by kernel_rfl
theorem fn_slices_Compare_int (N : Nat) (x : AVals sg_slices_Compare_int) (kf : Ret → Option Ret) : F_slices_Compare_int N x kf = peFunc h_slices_Compare_int (Orc.of (es_slices_Compare_int N)) (L_slices_Compare_int N N) Try.f96 (ashape sg_slices_Compare_int x) kf := by kernel_rfl
theorem sd_slices_Compare_int {Γ : Gl} (N : Nat) : Sound Γ Try.prog 96 (run_slices_Compare_int N) := fun_ok2 (hh := h_slices_Compare_int) mixed tab_ok (es := es_slices_Compare_int N) ⟨sd_cmp_Compare_int N, trivial⟩ (fn := Try.f96) (body := body_slices_Compare_int) (by kernel_rfl) (by kernel_rfl) (by kernel_rfl) (by kernel_rfl) (by kernel_rfl) (Lf := L_slices_Compare_int N) (L0_slices_Compare_int N) ls_slices_Compare_int (round_cons (key := 2) (ks := ks_slices_Compare_int_l2) (by kernel_rfl) (by kernel_rfl) (rd_slices_Compare_int_2 N) trivial) (N := N) (by kernel_rfl) (fn_slices_Compare_int N) (.inl (by kernel_rfl))
/-! impl_IsGraph -/
noncomputable def ks_impl_IsGraph_l4 : List Kd := [dK, .v (.ptr tQILLIE) (.o 45 none .k), dK, dK, dK, dK, dK, dK, dK, dK, .v (.sl (.sl (.int .i64))) .k, .v (.int .i64) .k, .v (.int .i64) .k, dK, dK, dK, dK, dK, dK, dK, dK, dK, dK, dK, dK, dK, dK, dK, dK, dK, dK, dK, dK, dK, dK, dK, dK, dK, dK, dK, dK, dK, dK, dK, dK, dK, dK, dK, dK, dK, dK, dK]
noncomputable def ko_impl_IsGraph_l4_0 : List Kd := [dK, dK, dK, dK, dK, dK, dK, dK, dK, dK, dK, dK, dK, dK, dK, dK, dK, dK, dK, dK, dK, dK, dK, dK, dK, dK, dK, dK, dK, dK, dK, dK, dK, dK, dK, dK, dK, dK, dK, dK, dK, dK, dK, dK, dK, dK, dK, dK, dK, dK, dK, dK]
noncomputable def ko_impl_IsGraph_l4_1 : List Kd := [dK, dK, .v .bool .k, dK, dK, dK, dK, dK, dK, dK, dK, dK, dK, dK, dK, dK, dK, dK, dK, dK, dK, dK, dK, dK, dK, dK, dK, dK, dK, dK, dK, dK, dK, dK, dK, dK, dK, dK, dK, dK, dK, dK, dK, dK, dK, dK, dK, dK, dK, dK, dK, dK]
noncomputable def h_impl_IsGraph : Hint := { tab, hn := [], loops := [(4, ks_impl_IsGraph_l4)], outs := [(4, 2, ko_impl_IsGraph_l4_0), (4, 1, ko_impl_IsGraph_l4_1)], ords := [(6, (OT.seq [0, 1, 2, 3, 4, 5, 6, 7, 8, 9, 10, 11, 12, 13, 14, 15, 16, 17, 18, 19, 20, 21, 22, 23, 24, 25, 26, 27, 28, 29, 30, 31, 32, 33] .done))] }
noncomputable def sg_impl_IsGraph : List AK := [.v tQILLIE .k]
noncomputable def F_impl_IsGraph (N : Nat) (x : AVals sg_impl_IsGraph) (kf : Ret → Option Ret) : Option Ret := impl_IsGraph N x.1 (fun r0 => kf ⟨[⟨.bool, .k, r0⟩], []⟩)
noncomputable def run_impl_IsGraph (N : Nat) := runOf sg_impl_IsGraph (F_impl_IsGraph N)
noncomputable def es_impl_IsGraph (N : Nat) : List Entry := [⟨45, [.val, .val, .val], (run_impl_InRange N)⟩, ⟨95, [.val, .val], (run_impl_isClaim N)⟩, ⟨96, [.val, .val], (run_slices_Compare_int N)⟩]
noncomputable def body_impl_IsGraph : Code := match Try.f63.body with | some c => c | none => .skip
noncomputable def L_impl_IsGraph (N n : Nat) (key : Nat) (S : St) (K : Ks) : Option Ret := bif Nat.beq key 4 then withVals ks_impl_IsGraph_l4 S (fun x => impl_IsGraph_l4 N x.1 x.2.1 x.2.2.1 n (K (.x 0) (shape ko_impl_IsGraph_l4_0 ())) (fun z0 => K .r (shape ko_impl_IsGraph_l4_1 (z0, ()))) x.2.2.2.1) else none
theorem L0_impl_IsGraph (N key : Nat) (S : St) (K : Ks) : L_impl_IsGraph N 0 key S K = none := (bif0 (withVals0 fun _ => rfl) rfl)
noncomputable def c_impl_IsGraph_0 : Code := (loopsIn body_impl_IsGraph).getD 0 .skip
theorem ls_impl_IsGraph : loopsIn body_impl_IsGraph = [c_impl_IsGraph_0] := by kernel_rfl
theorem rd_impl_IsGraph_4 (N n : Nat) (x : Vals ks_impl_IsGraph_l4) (K : Ks) : L_impl_IsGraph N (n + 1) 4 (shape ks_impl_IsGraph_l4 x) (h_impl_IsGraph.onOut 4 K) = peRound h_impl_IsGraph (Orc.of (es_impl_IsGraph N)) (mixL (L_impl_IsGraph N) N n 4) c_impl_IsGraph_0 (shape ks_impl_IsGraph_l4 x) (h_impl_IsGraph.onOut 4 K) := by kernel_rfl
theorem fn_impl_IsGraph (N : Nat) (x : AVals sg_impl_IsGraph) (kf : Ret → Option Ret) : F_impl_IsGraph N x kf = peFunc h_impl_IsGraph (Orc.of (es_impl_IsGraph N)) (L_impl_IsGraph N N) Try.f63 (ashape sg_impl_IsGraph x) kf := by kernel_rfl
theorem sd_impl_IsGraph {Γ : Gl} (N : Nat) : Sound Γ Try.prog 63 (run_impl_IsGraph N) := fun_ok2 (hh := h_impl_IsGraph) mixed tab_ok (es := es_impl_IsGraph N) ⟨sd_impl_InRange N, ⟨sd_impl_isClaim N, ⟨sd_slices_Compare_int N, trivial⟩⟩⟩ (fn := Try.f63) (body := body_impl_IsGraph) (by kernel_rfl) (by kernel_rfl) (by kernel_rfl) (by kernel_rfl) (by kernel_rfl) (Lf := L_impl_IsGraph N) (L0_impl_IsGraph N) ls_impl_IsGraph (round_cons (key := 4) (ks := ks_impl_IsGraph_l4) (by kernel_rfl) (by kernel_rfl) (rd_impl_IsGraph_4 N) trivial) (N := N) (by kernel_rfl) (fn_impl_IsGraph N) (.inl (by kernel_rfl))
/-! impl_IsSet -/
noncomputable def ks_impl_IsSet_l4 : List Kd := [dK, .v (.sl (.int .i64)) .k, .v (.ptr tQILLIE) (.o 45 none .k), dK, dK, dK, dK, dK, dK, dK, .v (.sl (.int .i64)) .k, .v (.int .i64) .k, .v (.int .i64) .k, dK, dK, dK, dK, dK, dK, dK, dK, dK, dK, dK, dK, dK, dK, dK, dK, dK, dK, dK, dK, dK, dK]
noncomputable def ko_impl_IsSet_l4_0 : List Kd := [dK, dK, dK, dK, dK, dK, dK, dK, dK, dK, dK, dK, dK, dK, dK, dK, dK, dK, dK, dK, dK, dK, dK, dK, dK, dK, dK, dK, dK, dK, dK, dK, dK, dK, dK]
noncomputable def ko_impl_IsSet_l4_1 : List Kd := [dK, dK, dK, dK, .v .bool .k, dK, dK, dK, dK, dK, dK, dK, dK, dK, dK, dK, dK, dK, dK, dK, dK, dK, dK, dK, dK, dK, dK, dK, dK, dK, dK, dK, dK, dK, dK]
noncomputable def h_impl_IsSet : Hint := { tab, hn := [], loops := [(4, ks_impl_IsSet_l4)], outs := [(4, 2, ko_impl_IsSet_l4_0), (4, 1, ko_impl_IsSet_l4_1)], ords := [] }
noncomputable def sg_impl_IsSet : List AK := [.v tQILLIE .k, .v (.sl (.int .i64)) .k]
noncomputable def F_impl_IsSet (N : Nat) (x : AVals sg_impl_IsSet) (kf : Ret → Option Ret) : Option Ret := impl_IsSet N x.1 x.2.1 (fun r0 => kf ⟨[⟨.bool, .k, r0⟩], []⟩)
noncomputable def run_impl_IsSet (N : Nat) := runOf sg_impl_IsSet (F_impl_IsSet N)
noncomputable def es_impl_IsSet (N : Nat) : List Entry := [⟨63, [.val], (run_impl_IsGraph N)⟩, ⟨95, [.val, .val], (run_impl_isClaim N)⟩]
noncomputable def body_impl_IsSet : Code := match Try.f171.body with | some c => c | none => .skip
noncomputable def L_impl_IsSet (N n : Nat) (key : Nat) (S : St) (K : Ks) : Option Ret := bif Nat.beq key 4 then withVals ks_impl_IsSet_l4 S (fun x => impl_IsSet_l4 N x.1 x.2.1 x.2.2.1 x.2.2.2.1 n (K (.x 0) (shape ko_impl_IsSet_l4_0 ())) (fun z0 => K .r (shape ko_impl_IsSet_l4_1 (z0, ()))) x.2.2.2.2.1) else none
theorem L0_impl_IsSet (N key : Nat) (S : St) (K : Ks) : L_impl_IsSet N 0 key S K = none := (bif0 (withVals0 fun _ => rfl) rfl)
noncomputable def c_impl_IsSet_0 : Code := (loopsIn body_impl_IsSet).getD 0 .skip
theorem ls_impl_IsSet : loopsIn body_impl_IsSet = [c_impl_IsSet_0] := by kernel_rfl
theorem rd_impl_IsSet_4 (N n : Nat) (x : Vals ks_impl_IsSet_l4) (K : Ks) : L_impl_IsSet N (n + 1) 4 (shape ks_impl_IsSet_l4 x) (h_impl_IsSet.onOut 4 K) = peRound h_impl_IsSet (Orc.of (es_impl_IsSet N)) (mixL (L_impl_IsSet N) N n 4) c_impl_IsSet_0 (shape ks_impl_IsSet_l4 x) (h_impl_IsSet.onOut 4 K) := by kernel_rfl
theorem fn_impl_IsSet (N : Nat) (x : AVals sg_impl_IsSet) (kf : Ret → Option Ret) : F_impl_IsSet N x kf = peFunc h_impl_IsSet (Orc.of (es_impl_IsSet N)) (L_impl_IsSet N N) Try.f171 (ashape sg_impl_IsSet x) kf := by kernel_rfl
theorem sd_impl_IsSet {Γ : Gl} (N : Nat) : Sound Γ Try.prog 171 (run_impl_IsSet N) := fun_ok2 (hh := h_impl_IsSet) mixed tab_ok (es := es_impl_IsSet N) ⟨sd_impl_IsGraph N, ⟨sd_impl_isClaim N, trivial⟩⟩ (fn := Try.f171) (body := body_impl_IsSet) (by kernel_rfl) (by kernel_rfl) (by kernel_rfl) (by kernel_rfl) (by kernel_rfl) (Lf := L_impl_IsSet N) (L0_impl_IsSet N) ls_impl_IsSet (round_cons (key := 4) (ks := ks_impl_IsSet_l4) (by kernel_rfl) (by kernel_rfl) (rd_impl_IsSet_4 N) trivial) (N := N) (by kernel_rfl) (fn_impl_IsSet N) (.inl (by kernel_rfl))
/-! impl_VictimsOf -/
noncomputable def ks_impl_VictimsOf_l5 : List Kd := [dK, .v (.int .i64) .k, dK, dK, dK, .v (.sl (.int .i64)) (.o 3 none .k), dK, dK, dK, dK, dK, dK, dK, dK, .v (.sl (.sl (.int .i64))) .k, .v (.int .i64) .k, .v (.int .i64) .k, dK, dK, dK, dK, dK, dK, dK, dK, dK, dK, dK, dK, dK, dK, dK, dK]
noncomputable def ko_impl_VictimsOf_l5_0 : List Kd := [dK, dK, dK, dK, dK, .v (.sl (.int .i64)) (.o 3 none .k), dK, dK, dK, dK, dK, dK, dK, dK, dK, dK, dK, dK, dK, dK, dK, dK, dK, dK, dK, dK, dK, dK, dK, dK, dK, dK, dK]
noncomputable def h_impl_VictimsOf : Hint := { tab, hn := [], loops := [(5, ks_impl_VictimsOf_l5)], outs := [(5, 2, ko_impl_VictimsOf_l5_0)], ords := [] }
noncomputable def sg_impl_VictimsOf : List AK := [.v tQILLIE .k, .v (.int .i64) .k]
noncomputable def F_impl_VictimsOf (N : Nat) (x : AVals sg_impl_VictimsOf) (kf : Ret → Option Ret) : Option Ret := impl_VictimsOf N x.1 x.2.1 (fun r0 => kf ⟨[⟨(.sl (.int .i64)), (.o 3 none .k), r0⟩], []⟩)
noncomputable def run_impl_VictimsOf (N : Nat) := runOf sg_impl_VictimsOf (F_impl_VictimsOf N)
noncomputable def es_impl_VictimsOf (N : Nat) : List Entry := [⟨63, [.val], (run_impl_IsGraph N)⟩]
noncomputable def body_impl_VictimsOf : Code := match Try.f141.body with | some c => c | none => .skip
noncomputable def L_impl_VictimsOf (N n : Nat) (key : Nat) (S : St) (K : Ks) : Option Ret := bif Nat.beq key 5 then withVals ks_impl_VictimsOf_l5 S (fun x => impl_VictimsOf_l5 x.1 x.2.2.1 x.2.2.2.1 n (fun z0 => K (.x 0) (shape ko_impl_VictimsOf_l5_0 (z0, ()))) x.2.1 x.2.2.2.2.1) else none
theorem L0_impl_VictimsOf (N key : Nat) (S : St) (K : Ks) : L_impl_VictimsOf N 0 key S K = none := (bif0 (withVals0 fun _ => rfl) rfl)
noncomputable def c_impl_VictimsOf_0 : Code := (loopsIn body_impl_VictimsOf).getD 0 .skip
theorem ls_impl_VictimsOf : loopsIn body_impl_VictimsOf = [c_impl_VictimsOf_0] := by kernel_rfl
theorem rd_impl_VictimsOf_5 (N n : Nat) (x : Vals ks_impl_VictimsOf_l5) (K : Ks) : L_impl_VictimsOf N (n + 1) 5 (shape ks_impl_VictimsOf_l5 x) (h_impl_VictimsOf.onOut 5 K) = peRound h_impl_VictimsOf (Orc.of (es_impl_VictimsOf N)) (mixL (L_impl_VictimsOf N) N n 5) c_impl_VictimsOf_0 (shape ks_impl_VictimsOf_l5 x) (h_impl_VictimsOf.onOut 5 K) := by kernel_rfl
theorem fn_impl_VictimsOf (N : Nat) (x : AVals sg_impl_VictimsOf) (kf : Ret → Option Ret) : F_impl_VictimsOf N x kf = peFunc h_impl_VictimsOf (Orc.of (es_impl_VictimsOf N)) (L_impl_VictimsOf N N) Try.f141 (ashape sg_impl_VictimsOf x) kf := by kernel_rfl
theorem sd_impl_VictimsOf {Γ : Gl} (N : Nat) : Sound Γ Try.prog 141 (run_impl_VictimsOf N) := fun_ok2 (hh := h_impl_VictimsOf) mixed tab_ok (es := es_impl_VictimsOf N) ⟨sd_impl_IsGraph N, trivial⟩ (fn := Try.f141) (body := body_impl_VictimsOf) (by kernel_rfl) (by kernel_rfl) (by kernel_rfl) (by kernel_rfl) (by kernel_rfl) (Lf := L_impl_VictimsOf N) (L0_impl_VictimsOf N) ls_impl_VictimsOf (round_cons (key := 5) (ks := ks_impl_VictimsOf_l5) (by kernel_rfl) (by kernel_rfl) (rd_impl_VictimsOf_5 N) trivial) (N := N) (by kernel_rfl) (fn_impl_VictimsOf N) (.inl (by kernel_rfl))
/-! slices_Sort_int: told by the shelf -/
def ren_slices_Sort_int : Go.Shelf.Ren := ⟨fun n => bif Nat.beq n 125 then 159 else bif Nat.beq n 128 then 182 else bif Nat.beq n 129 then 183 else bif Nat.beq n 189 then 142 else bif Nat.beq n 215 then 139 else bif Nat.beq n 216 then 179 else bif Nat.beq n 257 then 158 else bif Nat.beq n 294 then 173 else bif Nat.beq n 295 then 174 else bif Nat.beq n 296 then 175 else bif Nat.beq n 297 then 176 else bif Nat.beq n 298 then 177 else bif Nat.beq n 299 then 178 else bif Nat.beq n 300 then 180 else bif Nat.beq n 301 then 181 else bif Nat.beq n 328 then 191 else bif Nat.beq n 329 then 192 else bif Nat.beq n 330 then 193 else bif Nat.beq n 331 then 194 else bif Nat.beq n 332 then 195 else bif Nat.beq n 343 then 196 else n, fun n => bif Nat.beq n 0 then 0 else bif Nat.beq n 3 then 3 else bif Nat.beq n 4 then 4 else bif Nat.beq n 5 then 5 else bif Nat.beq n 9 then 9 else bif Nat.beq n 28 then 28 else bif Nat.beq n 46 then 139 else bif Nat.beq n 51 then 178 else bif Nat.beq n 53 then 180 else bif Nat.beq n 131 then 175 else bif Nat.beq n 182 then 169 else bif Nat.beq n 183 then 170 else bif Nat.beq n 218 then 184 else bif Nat.beq n 222 then 188 else bif Nat.beq n 228 then 190 else bif Nat.beq n 229 then 191 else n, fun n => n⟩
theorem lays_slices_Sort_int : Lays.n189 Try.prog ren_slices_Sort_int := { mixed := by kernel_rfl, f125 := by kernel_rfl, f128 := by kernel_rfl, f129 := by kernel_rfl, f189 := by kernel_rfl, f215 := by kernel_rfl, f216 := by kernel_rfl, f257 := by kernel_rfl, f294 := by kernel_rfl, f295 := by kernel_rfl, f296 := by kernel_rfl, f297 := by kernel_rfl, f298 := by kernel_rfl, f299 := by kernel_rfl, f300 := by kernel_rfl, f301 := by kernel_rfl, f328 := by kernel_rfl, f329 := by kernel_rfl, f330 := by kernel_rfl, f331 := by kernel_rfl, f332 := by kernel_rfl, f343 := by kernel_rfl, t0 := by kernel_rfl, a0 := fun w => by kernel_rfl, z0 := fun w => by kernel_rfl, v0 := fun w => by kernel_rfl, t3 := by kernel_rfl, a3 := fun w => by kernel_rfl, z3 := fun w => by kernel_rfl, v3 := fun w => by kernel_rfl, t4 := by kernel_rfl, a4 := fun w => by kernel_rfl, z4 := fun w => by kernel_rfl, v4 := fun w => by kernel_rfl, t5 := by kernel_rfl, a5 := fun w => by kernel_rfl, z5 := fun w => by kernel_rfl, v5 := fun w => by kernel_rfl, t9 := by kernel_rfl, a9 := fun w => by kernel_rfl, z9 := fun w => by kernel_rfl, v9 := fun w => by kernel_rfl, t28 := by kernel_rfl, a28 := fun w => by kernel_rfl, z28 := fun w => by kernel_rfl, v28 := fun w => by kernel_rfl, t46 := by kernel_rfl, a46 := fun w => by kernel_rfl, z46 := fun w => by kernel_rfl, v46 := fun w => by kernel_rfl, t51 := by kernel_rfl, a51 := fun w => by kernel_rfl, z51 := fun w => by kernel_rfl, v51 := fun w => by kernel_rfl, t53 := by kernel_rfl, a53 := fun w => by kernel_rfl, z53 := fun w => by kernel_rfl, v53 := fun w => by kernel_rfl, t131 := by kernel_rfl, a131 := fun w => by kernel_rfl, z131 := fun w => by kernel_rfl, v131 := fun w => by kernel_rfl, t182 := by kernel_rfl, a182 := fun w => by kernel_rfl, z182 := fun w => by kernel_rfl, v182 := fun w => by kernel_rfl, t183 := by kernel_rfl, a183 := fun w => by kernel_rfl, z183 := fun w => by kernel_rfl, v183 := fun w => by kernel_rfl, t218 := by kernel_rfl, a218 := fun w => by kernel_rfl, z218 := fun w => by kernel_rfl, v218 := fun w => by kernel_rfl, t222 := by kernel_rfl, a222 := fun w => by kernel_rfl, z222 := fun w => by kernel_rfl, v222 := fun w => by kernel_rfl, t228 := by kernel_rfl, a228 := fun w => by kernel_rfl, z228 := fun w => by kernel_rfl, v228 := fun w => by kernel_rfl, t229 := by kernel_rfl, a229 := fun w => by kernel_rfl, z229 := fun w => by kernel_rfl, v229 := fun w => by kernel_rfl }
noncomputable def sg_slices_Sort_int : List AK := [.v (.sl (.int .i64)) (.o 3 (some 0) .k)]
noncomputable def F_slices_Sort_int (N : Nat) (x : AVals sg_slices_Sort_int) (kf : Ret → Option Ret) : Option Ret := slices_Sort_int N x.1 (fun z => kf ⟨[], [⟨(.sl (.int .i64)), (.o 3 (some 0) .k), z⟩]⟩)
noncomputable def run_slices_Sort_int (N : Nat) := runOf sg_slices_Sort_int (F_slices_Sort_int N)
theorem sd_slices_Sort_int {Γ : Gl} (N : Nat) : Sound Γ Try.prog 142 (run_slices_Sort_int N) := sound_sort lays_slices_Sort_int 3
/-! slices_Compact_int: told by the shelf -/
def ren_slices_Compact_int : Go.Shelf.Ren := ⟨fun n => bif Nat.beq n 20 then 143 else n, fun n => bif Nat.beq n 0 then 0 else bif Nat.beq n 3 then 3 else bif Nat.beq n 4 then 4 else bif Nat.beq n 22 then 28 else n, fun n => n⟩
theorem lays_slices_Compact_int : Lays2.n20 Try.prog ren_slices_Compact_int := { mixed := by kernel_rfl, f20 := by kernel_rfl, t0 := by kernel_rfl, a0 := fun w => by kernel_rfl, z0 := fun w => by kernel_rfl, v0 := fun w => by kernel_rfl, t3 := by kernel_rfl, a3 := fun w => by kernel_rfl, z3 := fun w => by kernel_rfl, v3 := fun w => by kernel_rfl, t4 := by kernel_rfl, a4 := fun w => by kernel_rfl, z4 := fun w => by kernel_rfl, v4 := fun w => by kernel_rfl, t22 := by kernel_rfl, a22 := fun w => by kernel_rfl, z22 := fun w => by kernel_rfl, v22 := fun w => by kernel_rfl, i3 := by kernel_rfl }
noncomputable def sg_slices_Compact_int : List AK := [.v (.sl (.int .i64)) (.o 3 none .k)]
noncomputable def F_slices_Compact_int (N : Nat) (x : AVals sg_slices_Compact_int) (kf : Ret → Option Ret) : Option Ret := slices_Compact_int N x.1 (fun r0 => kf ⟨[⟨(.sl (.int .i64)), (.o 3 none .k), r0⟩], []⟩)
noncomputable def run_slices_Compact_int (N : Nat) := runOf sg_slices_Compact_int (F_slices_Compact_int N)
theorem sd_slices_Compact_int {Γ : Gl} (N : Nat) : Sound Γ Try.prog 143 (run_slices_Compact_int N) := sound_compact lays_slices_Compact_int 3
/-! impl_HitBy -/
noncomputable def ks_impl_HitBy_l3 : List Kd := [dK, dK, .v (.ptr tQILLIE) (.o 45 none .k), dK, dK, .v (.sl (.int .i64)) (.o 3 none .k), dK, dK, dK, .v (.sl (.int .i64)) .k, .v (.int .i64) .k, .v (.int .i64) .k, dK, dK, dK, dK, dK, dK, dK, dK, dK, dK, dK, dK, dK]
noncomputable def ko_impl_HitBy_l3_0 : List Kd := [dK, dK, dK, dK, dK, .v (.sl (.int .i64)) (.o 3 none .k), dK, dK, dK, dK, dK, dK, dK, dK, dK, dK, dK, dK, dK, dK, dK, dK, dK, dK, dK]
noncomputable def h_impl_HitBy : Hint := { tab, hn := [], loops := [(3, ks_impl_HitBy_l3)], outs := [(3, 2, ko_impl_HitBy_l3_0)], ords := [] }
noncomputable def sg_impl_HitBy : List AK := [.v tQILLIE .k, .v (.sl (.int .i64)) .k]
noncomputable def F_impl_HitBy (N : Nat) (x : AVals sg_impl_HitBy) (kf : Ret → Option Ret) : Option Ret := impl_HitBy N x.1 x.2.1 (fun r0 => kf ⟨[⟨(.sl (.int .i64)), (.o 3 none .k), r0⟩], []⟩)
noncomputable def run_impl_HitBy (N : Nat) := runOf sg_impl_HitBy (F_impl_HitBy N)
noncomputable def es_impl_HitBy (N : Nat) : List Entry := [⟨141, [.val, .val], (run_impl_VictimsOf N)⟩, ⟨142, [.lend], (run_slices_Sort_int N)⟩, ⟨143, [.take], (run_slices_Compact_int N)⟩]
noncomputable def body_impl_HitBy : Code := match Try.f121.body with | some c => c | none => .skip
noncomputable def L_impl_HitBy (N n : Nat) (key : Nat) (S : St) (K : Ks) : Option Ret := bif Nat.beq key 3 then withVals ks_impl_HitBy_l3 S (fun x => impl_HitBy_l3 N x.1 x.2.2.1 x.2.2.2.1 n (fun z0 => K (.x 0) (shape ko_impl_HitBy_l3_0 (z0, ()))) x.2.1 x.2.2.2.2.1) else none
theorem L0_impl_HitBy (N key : Nat) (S : St) (K : Ks) : L_impl_HitBy N 0 key S K = none := (bif0 (withVals0 fun _ => rfl) rfl)
noncomputable def c_impl_HitBy_0 : Code := (loopsIn body_impl_HitBy).getD 0 .skip
theorem ls_impl_HitBy : loopsIn body_impl_HitBy = [c_impl_HitBy_0] := by kernel_rfl
theorem rd_impl_HitBy_3 (N n : Nat) (x : Vals ks_impl_HitBy_l3) (K : Ks) : L_impl_HitBy N (n + 1) 3 (shape ks_impl_HitBy_l3 x) (h_impl_HitBy.onOut 3 K) = peRound h_impl_HitBy (Orc.of (es_impl_HitBy N)) (mixL (L_impl_HitBy N) N n 3) c_impl_HitBy_0 (shape ks_impl_HitBy_l3 x) (h_impl_HitBy.onOut 3 K) := by kernel_rfl
theorem fn_impl_HitBy (N : Nat) (x : AVals sg_impl_HitBy) (kf : Ret → Option Ret) : F_impl_HitBy N x kf = peFunc h_impl_HitBy (Orc.of (es_impl_HitBy N)) (L_impl_HitBy N N) Try.f121 (ashape sg_impl_HitBy x) kf := by kernel_rfl
theorem sd_impl_HitBy {Γ : Gl} (N : Nat) : Sound Γ Try.prog 121 (run_impl_HitBy N) := fun_ok2 (hh := h_impl_HitBy) mixed tab_ok (es := es_impl_HitBy N) ⟨sd_impl_VictimsOf N, ⟨sd_slices_Sort_int N, ⟨sd_slices_Compact_int N, trivial⟩⟩⟩ (fn := Try.f121) (body := body_impl_HitBy) (by kernel_rfl) (by kernel_rfl) (by kernel_rfl) (by kernel_rfl) (by kernel_rfl) (Lf := L_impl_HitBy N) (L0_impl_HitBy N) ls_impl_HitBy (round_cons (key := 3) (ks := ks_impl_HitBy_l3) (by kernel_rfl) (by kernel_rfl) (rd_impl_HitBy_3 N) trivial) (N := N) (by kernel_rfl) (fn_impl_HitBy N) (.inl (by kernel_rfl))
/-! impl_AttackersOf -/
noncomputable def ks_impl_AttackersOf_l5 : List Kd := [dK, .v (.int .i64) .k, dK, dK, dK, .v (.sl (.int .i64)) (.o 3 none .k), dK, dK, dK, dK, dK, dK, dK, dK, .v (.sl (.sl (.int .i64))) .k, .v (.int .i64) .k, .v (.int .i64) .k, dK, dK, dK, dK, dK, dK, dK, dK, dK, dK, dK, dK, dK, dK, dK, dK]
noncomputable def ko_impl_AttackersOf_l5_0 : List Kd := [dK, dK, dK, dK, dK, .v (.sl (.int .i64)) (.o 3 none .k), dK, dK, dK, dK, dK, dK, dK, dK, dK, dK, dK, dK, dK, dK, dK, dK, dK, dK, dK, dK, dK, dK, dK, dK, dK, dK, dK]
noncomputable def h_impl_AttackersOf : Hint := { tab, hn := [], loops := [(5, ks_impl_AttackersOf_l5)], outs := [(5, 2, ko_impl_AttackersOf_l5_0)], ords := [] }
noncomputable def sg_impl_AttackersOf : List AK := [.v tQILLIE .k, .v (.int .i64) .k]
noncomputable def F_impl_AttackersOf (N : Nat) (x : AVals sg_impl_AttackersOf) (kf : Ret → Option Ret) : Option Ret := impl_AttackersOf N x.1 x.2.1 (fun r0 => kf ⟨[⟨(.sl (.int .i64)), (.o 3 none .k), r0⟩], []⟩)
noncomputable def run_impl_AttackersOf (N : Nat) := runOf sg_impl_AttackersOf (F_impl_AttackersOf N)
noncomputable def es_impl_AttackersOf (N : Nat) : List Entry := [⟨63, [.val], (run_impl_IsGraph N)⟩]
noncomputable def body_impl_AttackersOf : Code := match Try.f190.body with | some c => c | none => .skip
noncomputable def L_impl_AttackersOf (N n : Nat) (key : Nat) (S : St) (K : Ks) : Option Ret := bif Nat.beq key 5 then withVals ks_impl_AttackersOf_l5 S (fun x => impl_AttackersOf_l5 x.1 x.2.2.1 x.2.2.2.1 n (fun z0 => K (.x 0) (shape ko_impl_AttackersOf_l5_0 (z0, ()))) x.2.1 x.2.2.2.2.1) else none
theorem L0_impl_AttackersOf (N key : Nat) (S : St) (K : Ks) : L_impl_AttackersOf N 0 key S K = none := (bif0 (withVals0 fun _ => rfl) rfl)
noncomputable def c_impl_AttackersOf_0 : Code := (loopsIn body_impl_AttackersOf).getD 0 .skip
theorem ls_impl_AttackersOf : loopsIn body_impl_AttackersOf = [c_impl_AttackersOf_0] := by kernel_rfl
theorem rd_impl_AttackersOf_5 (N n : Nat) (x : Vals ks_impl_AttackersOf_l5) (K : Ks) : L_impl_AttackersOf N (n + 1) 5 (shape ks_impl_AttackersOf_l5 x) (h_impl_AttackersOf.onOut 5 K) = peRound h_impl_AttackersOf (Orc.of (es_impl_AttackersOf N)) (mixL (L_impl_AttackersOf N) N n 5) c_impl_AttackersOf_0 (shape ks_impl_AttackersOf_l5 x) (h_impl_AttackersOf.onOut 5 K) := by kernel_rfl
theorem fn_impl_AttackersOf (N : Nat) (x : AVals sg_impl_AttackersOf) (kf : Ret → Option Ret) : F_impl_AttackersOf N x kf = peFunc h_impl_AttackersOf (Orc.of (es_impl_AttackersOf N)) (L_impl_AttackersOf N N) Try.f190 (ashape sg_impl_AttackersOf x) kf := by kernel_rfl
theorem sd_impl_AttackersOf {Γ : Gl} (N : Nat) : Sound Γ Try.prog 190 (run_impl_AttackersOf N) := fun_ok2 (hh := h_impl_AttackersOf) mixed tab_ok (es := es_impl_AttackersOf N) ⟨sd_impl_IsGraph N, trivial⟩ (fn := Try.f190) (body := body_impl_AttackersOf) (by kernel_rfl) (by kernel_rfl) (by kernel_rfl) (by kernel_rfl) (by kernel_rfl) (Lf := L_impl_AttackersOf N) (L0_impl_AttackersOf N) ls_impl_AttackersOf (round_cons (key := 5) (ks := ks_impl_AttackersOf_l5) (by kernel_rfl) (by kernel_rfl) (rd_impl_AttackersOf_5 N) trivial) (N := N) (by kernel_rfl) (fn_impl_AttackersOf N) (.inl (by kernel_rfl))
/-! impl_Defends -/
noncomputable def ks_impl_Defends_l5 : List Kd := [dK, dK, dK, dK, dK, dK, dK, .v (.sl (.int .i64)) (.o 3 none .k), dK, dK, dK, dK, dK, dK, dK, dK, dK, dK, dK, dK, dK, dK, dK, dK, dK, .v (.sl (.int .i64)) (.o 3 none .k), .v (.int .i64) .k, .v (.int .i64) .k, dK, dK, dK, dK, dK, dK, dK, dK]
noncomputable def ko_impl_Defends_l5_0 : List Kd := [dK, dK, dK, dK, dK, dK, dK, dK, dK, dK, dK, dK, dK, dK, dK, dK, dK, dK, dK, dK, dK, dK, dK, dK, dK, dK, dK, dK, dK, dK, dK, dK, dK, dK, dK, dK]
noncomputable def ko_impl_Defends_l5_1 : List Kd := [dK, dK, dK, dK, dK, dK, .v .bool .k, dK, dK, dK, dK, dK, dK, dK, dK, dK, dK, dK, dK, dK, dK, dK, dK, dK, dK, dK, dK, dK, dK, dK, dK, dK, dK, dK, dK, dK]
noncomputable def h_impl_Defends : Hint := { tab, hn := [], loops := [(5, ks_impl_Defends_l5)], outs := [(5, 2, ko_impl_Defends_l5_0), (5, 1, ko_impl_Defends_l5_1)], ords := [] }
noncomputable def sg_impl_Defends : List AK := [.v tQILLIE .k, .v (.sl (.int .i64)) .k, .v (.int .i64) .k]
noncomputable def F_impl_Defends (N : Nat) (x : AVals sg_impl_Defends) (kf : Ret → Option Ret) : Option Ret := impl_Defends N x.1 x.2.1 x.2.2.1 (fun r0 => kf ⟨[⟨.bool, .k, r0⟩], []⟩)
noncomputable def run_impl_Defends (N : Nat) := runOf sg_impl_Defends (F_impl_Defends N)
noncomputable def es_impl_Defends (N : Nat) : List Entry := [⟨171, [.val, .val], (run_impl_IsSet N)⟩, ⟨95, [.val, .val], (run_impl_isClaim N)⟩, ⟨121, [.val, .val], (run_impl_HitBy N)⟩, ⟨190, [.val, .val], (run_impl_AttackersOf N)⟩, ⟨81, [.val, .val], (run_slices_Contains_int N)⟩]
noncomputable def body_impl_Defends : Code := match Try.f172.body with | some c => c | none => .skip
noncomputable def L_impl_Defends (N n : Nat) (key : Nat) (S : St) (K : Ks) : Option Ret := bif Nat.beq key 5 then withVals ks_impl_Defends_l5 S (fun x => impl_Defends_l5 N x.1 x.2.1 x.2.2.1 n (K (.x 0) (shape ko_impl_Defends_l5_0 ())) (fun z0 => K .r (shape ko_impl_Defends_l5_1 (z0, ()))) x.2.2.2.1) else none
theorem L0_impl_Defends (N key : Nat) (S : St) (K : Ks) : L_impl_Defends N 0 key S K = none := (bif0 (withVals0 fun _ => rfl) rfl)
noncomputable def c_impl_Defends_0 : Code := (loopsIn body_impl_Defends).getD 0 .skip
theorem ls_impl_Defends : loopsIn body_impl_Defends = [c_impl_Defends_0] := by kernel_rfl
theorem rd_impl_Defends_5 (N n : Nat) (x : Vals ks_impl_Defends_l5) (K : Ks) : L_impl_Defends N (n + 1) 5 (shape ks_impl_Defends_l5 x) (h_impl_Defends.onOut 5 K) = peRound h_impl_Defends (Orc.of (es_impl_Defends N)) (mixL (L_impl_Defends N) N n 5) c_impl_Defends_0 (shape ks_impl_Defends_l5 x) (h_impl_Defends.onOut 5 K) := by kernel_rfl
theorem fn_impl_Defends (N : Nat) (x : AVals sg_impl_Defends) (kf : Ret → Option Ret) : F_impl_Defends N x kf = peFunc h_impl_Defends (Orc.of (es_impl_Defends N)) (L_impl_Defends N N) Try.f172 (ashape sg_impl_Defends x) kf := by kernel_rfl
theorem sd_impl_Defends {Γ : Gl} (N : Nat) : Sound Γ Try.prog 172 (run_impl_Defends N) := fun_ok2 (hh := h_impl_Defends) mixed tab_ok (es := es_impl_Defends N) ⟨sd_impl_IsSet N, ⟨sd_impl_isClaim N, ⟨sd_impl_HitBy N, ⟨sd_impl_AttackersOf N, ⟨sd_slices_Contains_int N, trivial⟩⟩⟩⟩⟩ (fn := Try.f172) (body := body_impl_Defends) (by kernel_rfl) (by kernel_rfl) (by kernel_rfl) (by kernel_rfl) (by kernel_rfl) (Lf := L_impl_Defends N) (L0_impl_Defends N) ls_impl_Defends (round_cons (key := 5) (ks := ks_impl_Defends_l5) (by kernel_rfl) (by kernel_rfl) (rd_impl_Defends_5 N) trivial) (N := N) (by kernel_rfl) (fn_impl_Defends N) (.inl (by kernel_rfl))
/-! impl_DefendedBy -/
noncomputable def ks_impl_DefendedBy_l5 : List Kd := [dK, .v (.sl (.int .i64)) .k, .v (.ptr tQILLIE) (.o 45 none .k), dK, dK, .v (.sl (.int .i64)) (.o 3 none .k), dK, dK, dK, dK, dK, dK, dK, dK, .v (.int .i64) .k, .v (.int .i64) .k, dK, dK, dK, dK, dK, dK, dK, dK, dK, dK, dK, dK]
noncomputable def ko_impl_DefendedBy_l5_0 : List Kd := [dK, dK, dK, dK, dK, .v (.sl (.int .i64)) (.o 3 none .k), dK, dK, dK, dK, dK, dK, dK, dK, dK, dK, dK, dK, dK, dK, dK, dK, dK, dK, dK, dK, dK, dK]
noncomputable def h_impl_DefendedBy : Hint := { tab, hn := [], loops := [(5, ks_impl_DefendedBy_l5)], outs := [(5, 2, ko_impl_DefendedBy_l5_0)], ords := [] }
noncomputable def sg_impl_DefendedBy : List AK := [.v tQILLIE .k, .v (.sl (.int .i64)) .k]
noncomputable def F_impl_DefendedBy (N : Nat) (x : AVals sg_impl_DefendedBy) (kf : Ret → Option Ret) : Option Ret := impl_DefendedBy N x.1 x.2.1 (fun r0 => kf ⟨[⟨(.sl (.int .i64)), (.o 3 none .k), r0⟩], []⟩)
noncomputable def run_impl_DefendedBy (N : Nat) := runOf sg_impl_DefendedBy (F_impl_DefendedBy N)
noncomputable def es_impl_DefendedBy (N : Nat) : List Entry := [⟨171, [.val, .val], (run_impl_IsSet N)⟩, ⟨172, [.val, .val, .val], (run_impl_Defends N)⟩]
noncomputable def body_impl_DefendedBy : Code := match Try.f157.body with | some c => c | none => .skip
noncomputable def L_impl_DefendedBy (N n : Nat) (key : Nat) (S : St) (K : Ks) : Option Ret := bif Nat.beq key 5 then withVals ks_impl_DefendedBy_l5 S (fun x => impl_DefendedBy_l5 N x.1 x.2.1 x.2.2.2.1 n (fun z0 => K (.x 0) (shape ko_impl_DefendedBy_l5_0 (z0, ()))) x.2.2.1 x.2.2.2.2.1) else none
theorem L0_impl_DefendedBy (N key : Nat) (S : St) (K : Ks) : L_impl_DefendedBy N 0 key S K = none := (bif0 (withVals0 fun _ => rfl) rfl)
noncomputable def c_impl_DefendedBy_0 : Code := (loopsIn body_impl_DefendedBy).getD 0 .skip
theorem ls_impl_DefendedBy : loopsIn body_impl_DefendedBy = [c_impl_DefendedBy_0] := by kernel_rfl
theorem rd_impl_DefendedBy_5 (N n : Nat) (x : Vals ks_impl_DefendedBy_l5) (K : Ks) : L_impl_DefendedBy N (n + 1) 5 (shape ks_impl_DefendedBy_l5 x) (h_impl_DefendedBy.onOut 5 K) = peRound h_impl_DefendedBy (Orc.of (es_impl_DefendedBy N)) (mixL (L_impl_DefendedBy N) N n 5) c_impl_DefendedBy_0 (shape ks_impl_DefendedBy_l5 x) (h_impl_DefendedBy.onOut 5 K) := by kernel_rfl
theorem fn_impl_DefendedBy (N : Nat) (x : AVals sg_impl_DefendedBy) (kf : Ret → Option Ret) : F_impl_DefendedBy N x kf = peFunc h_impl_DefendedBy (Orc.of (es_impl_DefendedBy N)) (L_impl_DefendedBy N N) Try.f157 (ashape sg_impl_DefendedBy x) kf := by kernel_rfl
theorem sd_impl_DefendedBy {Γ : Gl} (N : Nat) : Sound Γ Try.prog 157 (run_impl_DefendedBy N) := fun_ok2 (hh := h_impl_DefendedBy) mixed tab_ok (es := es_impl_DefendedBy N) ⟨sd_impl_IsSet N, ⟨sd_impl_Defends N, trivial⟩⟩ (fn := Try.f157) (body := body_impl_DefendedBy) (by kernel_rfl) (by kernel_rfl) (by kernel_rfl) (by kernel_rfl) (by kernel_rfl) (Lf := L_impl_DefendedBy N) (L0_impl_DefendedBy N) ls_impl_DefendedBy (round_cons (key := 5) (ks := ks_impl_DefendedBy_l5) (by kernel_rfl) (by kernel_rfl) (rd_impl_DefendedBy_5 N) trivial) (N := N) (by kernel_rfl) (fn_impl_DefendedBy N) (.inl (by kernel_rfl))
/-! slices_Equal_int -/
noncomputable def ks_slices_Equal_int_l4 : List Kd := [.v (.sl (.int .i64)) .k, .v (.sl (.int .i64)) .k, dK, dK, dK, dK, dK, dK, dK, dK, dK, dK, .v (.int .i64) .k, .v (.int .i64) .k, dK, dK, dK, dK, dK, dK, dK, dK, dK, dK, dK, dK]
noncomputable def ko_slices_Equal_int_l4_0 : List Kd := [dK, dK, dK, dK, dK, dK, dK, dK, dK, dK, dK, dK, dK, dK, dK, dK, dK, dK, dK, dK, dK, dK, dK, dK, dK, dK]
noncomputable def ko_slices_Equal_int_l4_1 : List Kd := [dK, dK, dK, dK, .v .bool .k, dK, dK, dK, dK, dK, dK, dK, dK, dK, dK, dK, dK, dK, dK, dK, dK, dK, dK, dK, dK, dK]
noncomputable def h_slices_Equal_int : Hint := { tab, hn := [], loops := [(4, ks_slices_Equal_int_l4)], outs := [(4, 2, ko_slices_Equal_int_l4_0), (4, 1, ko_slices_Equal_int_l4_1)], ords := [(6, (OT.seq [0, 1, 2, 3, 4, 5, 6, 7, 8] .done))] }
noncomputable def sg_slices_Equal_int : List AK := [.v (.sl (.int .i64)) .k, .v (.sl (.int .i64)) .k]
noncomputable def F_slices_Equal_int (N : Nat) (x : AVals sg_slices_Equal_int) (kf : Ret → Option Ret) : Option Ret := slices_Equal_int N x.1 x.2.1 (fun r0 => kf ⟨[⟨.bool, .k, r0⟩], []⟩)
noncomputable def run_slices_Equal_int (N : Nat) := runOf sg_slices_Equal_int (F_slices_Equal_int N)
noncomputable def es_slices_Equal_int (N : Nat) : List Entry := []
noncomputable def body_slices_Equal_int : Code := match Try.f53.body with | some c => c | none => .skip
noncomputable def L_slices_Equal_int (N n : Nat) (key : Nat) (S : St) (K : Ks) : Option Ret := bif Nat.beq key 4 then withVals ks_slices_Equal_int_l4 S (fun x => slices_Equal_int_l4 x.1 x.2.1 x.2.2.1 n (K (.x 0) (shape ko_slices_Equal_int_l4_0 ())) (fun z0 => K .r (shape ko_slices_Equal_int_l4_1 (z0, ()))) x.2.2.2.1) else none
theorem L0_slices_Equal_int (N key : Nat) (S : St) (K : Ks) : L_slices_Equal_int N 0 key S K = none := (bif0 (withVals0 fun _ => rfl) rfl)
noncomputable def c_slices_Equal_int_0 : Code := (loopsIn body_slices_Equal_int).getD 0 .skip
theorem ls_slices_Equal_int : loopsIn body_slices_Equal_int = [c_slices_Equal_int_0] := by kernel_rfl
theorem rd_slices_Equal_int_4 (N n : Nat) (x : Vals ks_slices_Equal_int_l4) (K : Ks) : L_slices_Equal_int N (n + 1) 4 (shape ks_slices_Equal_int_l4 x) (h_slices_Equal_int.onOut 4 K) = peRound h_slices_Equal_int (Orc.of (es_slices_Equal_int N)) (mixL (L_slices_Equal_int N) N n 4) c_slices_Equal_int_0 (shape ks_slices_Equal_int_l4 x) (h_slices_Equal_int.onOut 4 K) := by kernel_rfl
theorem fn_slices_Equal_int (N : Nat) (x : AVals sg_slices_Equal_int) (kf : Ret → Option Ret) : F_slices_Equal_int N x kf = peFunc h_slices_Equal_int (Orc.of (es_slices_Equal_int N)) (L_slices_Equal_int N N) Try.f53 (ashape sg_slices_Equal_int x) kf := by kernel_rfl
theorem sd_slices_Equal_int {Γ : Gl} (N : Nat) : Sound Γ Try.prog 53 (run_slices_Equal_int N) := fun_ok2 (hh := h_slices_Equal_int) mixed tab_ok (es := es_slices_Equal_int N) trivial (fn := Try.f53) (body := body_slices_Equal_int) (by kernel_rfl) (by kernel_rfl) (by kernel_rfl) (by kernel_rfl) (by kernel_rfl) (Lf := L_slices_Equal_int N) (L0_slices_Equal_int N) ls_slices_Equal_int (round_cons (key := 4) (ks := ks_slices_Equal_int_l4) (by kernel_rfl) (by kernel_rfl) (rd_slices_Equal_int_4 N) trivial) (N := N) (by kernel_rfl) (fn_slices_Equal_int N) (.inl (by kernel_rfl))
/-! impl_rounds -/
noncomputable def ks_impl_rounds_l4 : List Kd := [dK, .v (.ptr tQILLIE) (.o 45 none .k), dK, .v (.sl (.sl (.int .i64))) (.o 28 none .k), dK, dK, dK, dK, dK, dK, dK, dK, dK, dK, dK, dK, dK, dK, dK, dK, dK, dK, dK, dK, dK, dK, dK, dK, dK]
noncomputable def ko_impl_rounds_l4_0 : List Kd := [dK, dK, .v (.sl (.sl (.int .i64))) (.o 28 none .k), dK, dK, dK, dK, dK, dK, dK, dK, dK, dK, dK, dK, dK, dK, dK, dK, dK, dK, dK, dK, dK, dK, dK, dK, dK, dK]
noncomputable def h_impl_rounds : Hint := { tab, hn := [(6, .k)], loops := [(4, ks_impl_rounds_l4)], outs := [(4, 1, ko_impl_rounds_l4_0)], ords := [], frz := [(5, [(5, [])])] }
noncomputable def sg_impl_rounds : List AK := [.v tQILLIE .k]
noncomputable def F_impl_rounds (N : Nat) (x : AVals sg_impl_rounds) (kf : Ret → Option Ret) : Option Ret := impl_rounds N x.1 (fun r0 => kf ⟨[⟨(.sl (.sl (.int .i64))), (.o 28 none .k), r0⟩], []⟩)
noncomputable def run_impl_rounds (N : Nat) := runOf sg_impl_rounds (F_impl_rounds N)
noncomputable def es_impl_rounds (N : Nat) : List Entry := [⟨63, [.val], (run_impl_IsGraph N)⟩, ⟨157, [.val, .val], (run_impl_DefendedBy N)⟩, ⟨53, [.val, .val], (run_slices_Equal_int N)⟩]
noncomputable def body_impl_rounds : Code := match Try.f140.body with | some c => c | none => .skip
noncomputable def L_impl_rounds (N n : Nat) (key : Nat) (S : St) (K : Ks) : Option Ret := bif Nat.beq key 4 then withVals ks_impl_rounds_l4 S (fun x => impl_rounds_l4 N x.1 n (fun z0 => K .r (shape ko_impl_rounds_l4_0 (z0, ()))) x.2.1) else none
theorem L0_impl_rounds (N key : Nat) (S : St) (K : Ks) : L_impl_rounds N 0 key S K = none := (bif0 (withVals0 fun _ => rfl) rfl)
noncomputable def c_impl_rounds_0 : Code := (loopsIn body_impl_rounds).getD 0 .skip
theorem ls_impl_rounds : loopsIn body_impl_rounds = [c_impl_rounds_0] := by kernel_rfl
theorem rd_impl_rounds_4 (N n : Nat) (x : Vals ks_impl_rounds_l4) (K : Ks) : L_impl_rounds N (n + 1) 4 (shape ks_impl_rounds_l4 x) (h_impl_rounds.onOut 4 K) = peRound h_impl_rounds (Orc.of (es_impl_rounds N)) (mixL (L_impl_rounds N) N n 4) c_impl_rounds_0 (shape ks_impl_rounds_l4 x) (h_impl_rounds.onOut 4 K) := by kernel_rfl
theorem fn_impl_rounds (N : Nat) (x : AVals sg_impl_rounds) (kf : Ret → Option Ret) : F_impl_rounds N x kf = peFunc h_impl_rounds (Orc.of (es_impl_rounds N)) (L_impl_rounds N N) Try.f140 (ashape sg_impl_rounds x) kf := by kernel_rfl
theorem sd_impl_rounds {Γ : Gl} (N : Nat) : Sound Γ Try.prog 140 (run_impl_rounds N) := fun_ok2 (hh := h_impl_rounds) mixed tab_ok (es := es_impl_rounds N) ⟨sd_impl_IsGraph N, ⟨sd_impl_DefendedBy N, ⟨sd_slices_Equal_int N, trivial⟩⟩⟩ (fn := Try.f140) (body := body_impl_rounds) (by kernel_rfl) (by kernel_rfl) (by kernel_rfl) (by kernel_rfl) (by kernel_rfl) (Lf := L_impl_rounds N) (L0_impl_rounds N) ls_impl_rounds (round_cons (key := 4) (ks := ks_impl_rounds_l4) (by kernel_rfl) (by kernel_rfl) (rd_impl_rounds_4 N) trivial) (N := N) (by kernel_rfl) (fn_impl_rounds N) (.inl (by kernel_rfl))
/-! impl_Grounded -/
noncomputable def h_impl_Grounded : Hint := { tab, hn := [], loops := [], outs := [], ords := [] }
noncomputable def sg_impl_Grounded : List AK := [.v tQILLIE .k]
noncomputable def F_impl_Grounded (N : Nat) (x : AVals sg_impl_Grounded) (kf : Ret → Option Ret) : Option Ret := impl_Grounded N x.1 (fun r0 => kf ⟨[⟨(.sl (.int .i64)), .k, r0⟩], []⟩)
noncomputable def run_impl_Grounded (N : Nat) := runOf sg_impl_Grounded (F_impl_Grounded N)
noncomputable def es_impl_Grounded (N : Nat) : List Entry := [⟨140, [.val], (run_impl_rounds N)⟩]
noncomputable def body_impl_Grounded : Code := match Try.f120.body with | some c => c | none => .skip
noncomputable def L_impl_Grounded (N n : Nat) (key : Nat) (S : St) (K : Ks) : Option Ret := none
theorem L0_impl_Grounded (N key : Nat) (S : St) (K : Ks) : L_impl_Grounded N 0 key S K = none := rfl
theorem ls_impl_Grounded : loopsIn body_impl_Grounded = [] := by kernel_rfl
theorem fn_impl_Grounded (N : Nat) (x : AVals sg_impl_Grounded) (kf : Ret → Option Ret) : F_impl_Grounded N x kf = peFunc h_impl_Grounded (Orc.of (es_impl_Grounded N)) (L_impl_Grounded N N) Try.f120 (ashape sg_impl_Grounded x) kf := by kernel_rfl
theorem sd_impl_Grounded {Γ : Gl} (N : Nat) : Sound Γ Try.prog 120 (run_impl_Grounded N) := fun_ok2 (hh := h_impl_Grounded) mixed tab_ok (es := es_impl_Grounded N) ⟨sd_impl_rounds N, trivial⟩ (fn := Try.f120) (body := body_impl_Grounded) (by kernel_rfl) (by kernel_rfl) (by kernel_rfl) (by kernel_rfl) (by kernel_rfl) (Lf := L_impl_Grounded N) (L0_impl_Grounded N) ls_impl_Grounded trivial (N := N) (by kernel_rfl) (fn_impl_Grounded N) (.inl (by kernel_rfl))
/-! impl_Labels -/
noncomputable def ks_impl_Labels_l7 : List Kd := [dK, dK, dK, .v (.sl .str) (.o 9 none .k), .v (.sl (.int .i64)) .k, .v (.sl (.int .i64)) (.o 3 none .k), dK, dK, dK, dK, dK, dK, dK, dK, dK, dK, dK, dK, .v (.int .i64) .k, .v (.int .i64) .k, dK, dK, dK, dK, dK, dK, dK, dK, dK, dK, dK, dK, dK, dK, dK, dK, dK, dK, dK, dK, dK]
noncomputable def ko_impl_Labels_l7_0 : List Kd := [dK, dK, dK, .v (.sl .str) (.o 9 none .k), dK, dK, dK, dK, dK, dK, dK, dK, dK, dK, dK, dK, dK, dK, dK, dK, dK, dK, dK, dK, dK, dK, dK, dK, dK, dK, dK, dK, dK, dK, dK, dK, dK, dK, dK, dK, dK]
noncomputable def h_impl_Labels : Hint := { tab, hn := [], loops := [(7, ks_impl_Labels_l7)], outs := [(7, 2, ko_impl_Labels_l7_0)], ords := [] }
noncomputable def sg_impl_Labels : List AK := [.v tQILLIE .k]
noncomputable def F_impl_Labels (N : Nat) (x : AVals sg_impl_Labels) (kf : Ret → Option Ret) : Option Ret := impl_Labels N x.1 (fun r0 => kf ⟨[⟨(.sl .str), (.o 9 none .k), r0⟩], []⟩)
noncomputable def run_impl_Labels (N : Nat) := runOf sg_impl_Labels (F_impl_Labels N)
noncomputable def es_impl_Labels (N : Nat) : List Entry := [⟨63, [.val], (run_impl_IsGraph N)⟩, ⟨120, [.val], (run_impl_Grounded N)⟩, ⟨121, [.val, .val], (run_impl_HitBy N)⟩, ⟨81, [.val, .val], (run_slices_Contains_int N)⟩]
noncomputable def body_impl_Labels : Code := match Try.f97.body with | some c => c | none => .skip
noncomputable def L_impl_Labels (N n : Nat) (key : Nat) (S : St) (K : Ks) : Option Ret := bif Nat.beq key 7 then withVals ks_impl_Labels_l7 S (fun x => impl_Labels_l7 N x.2.1 x.2.2.1 x.2.2.2.1 n (fun z0 => K (.x 0) (shape ko_impl_Labels_l7_0 (z0, ()))) x.1 x.2.2.2.2.1) else none
theorem L0_impl_Labels (N key : Nat) (S : St) (K : Ks) : L_impl_Labels N 0 key S K = none := (bif0 (withVals0 fun _ => rfl) rfl)
noncomputable def c_impl_Labels_0 : Code := (loopsIn body_impl_Labels).getD 0 .skip
theorem ls_impl_Labels : loopsIn body_impl_Labels = [c_impl_Labels_0] := by kernel_rfl
theorem rd_impl_Labels_7 (N n : Nat) (x : Vals ks_impl_Labels_l7) (K : Ks) : L_impl_Labels N (n + 1) 7 (shape ks_impl_Labels_l7 x) (h_impl_Labels.onOut 7 K) = peRound h_impl_Labels (Orc.of (es_impl_Labels N)) (mixL (L_impl_Labels N) N n 7) c_impl_Labels_0 (shape ks_impl_Labels_l7 x) (h_impl_Labels.onOut 7 K) := by kernel_rfl
theorem fn_impl_Labels (N : Nat) (x : AVals sg_impl_Labels) (kf : Ret → Option Ret) : F_impl_Labels N x kf = peFunc h_impl_Labels (Orc.of (es_impl_Labels N)) (L_impl_Labels N N) Try.f97 (ashape sg_impl_Labels x) kf := by kernel_rfl
theorem sd_impl_Labels {Γ : Gl} (N : Nat) : Sound Γ Try.prog 97 (run_impl_Labels N) := fun_ok2 (hh := h_impl_Labels) mixed tab_ok (es := es_impl_Labels N) ⟨sd_impl_IsGraph N, ⟨sd_impl_Grounded N, ⟨sd_impl_HitBy N, ⟨sd_slices_Contains_int N, trivial⟩⟩⟩⟩ (fn := Try.f97) (body := body_impl_Labels) (by kernel_rfl) (by kernel_rfl) (by kernel_rfl) (by kernel_rfl) (by kernel_rfl) (Lf := L_impl_Labels N) (L0_impl_Labels N) ls_impl_Labels (round_cons (key := 7) (ks := ks_impl_Labels_l7) (by kernel_rfl) (by kernel_rfl) (rd_impl_Labels_7 N) trivial) (N := N) (by kernel_rfl) (fn_impl_Labels N) (.inl (by kernel_rfl))
/-! impl_OpenClaims -/
noncomputable def ks_impl_OpenClaims_l3 : List Kd := [dK, dK, dK, .v (.sl (.int .i64)) (.o 3 none .k), dK, dK, dK, dK, .v (.sl .str) (.o 9 none .k), .v (.int .i64) .k, .v (.int .i64) .k, dK, dK, dK, dK, dK, dK, dK, dK, dK, dK, dK, dK]
noncomputable def ko_impl_OpenClaims_l3_0 : List Kd := [dK, dK, dK, .v (.sl (.int .i64)) (.o 3 none .k), dK, dK, dK, dK, dK, dK, dK, dK, dK, dK, dK, dK, dK, dK, dK, dK, dK, dK, dK]
noncomputable def h_impl_OpenClaims : Hint := { tab, hn := [], loops := [(3, ks_impl_OpenClaims_l3)], outs := [(3, 2, ko_impl_OpenClaims_l3_0)], ords := [] }
noncomputable def sg_impl_OpenClaims : List AK := [.v tQILLIE .k]
noncomputable def F_impl_OpenClaims (N : Nat) (x : AVals sg_impl_OpenClaims) (kf : Ret → Option Ret) : Option Ret := impl_OpenClaims N x.1 (fun r0 => kf ⟨[⟨(.sl (.int .i64)), (.o 3 none .k), r0⟩], []⟩)
noncomputable def run_impl_OpenClaims (N : Nat) := runOf sg_impl_OpenClaims (F_impl_OpenClaims N)
noncomputable def es_impl_OpenClaims (N : Nat) : List Entry := [⟨97, [.val], (run_impl_Labels N)⟩]
noncomputable def body_impl_OpenClaims : Code := match Try.f64.body with | some c => c | none => .skip
noncomputable def L_impl_OpenClaims (N n : Nat) (key : Nat) (S : St) (K : Ks) : Option Ret := bif Nat.beq key 3 then withVals ks_impl_OpenClaims_l3 S (fun x => impl_OpenClaims_l3 x.2.1 x.2.2.1 n (fun z0 => K (.x 0) (shape ko_impl_OpenClaims_l3_0 (z0, ()))) x.1 x.2.2.2.1) else none
theorem L0_impl_OpenClaims (N key : Nat) (S : St) (K : Ks) : L_impl_OpenClaims N 0 key S K = none := (bif0 (withVals0 fun _ => rfl) rfl)
noncomputable def c_impl_OpenClaims_0 : Code := (loopsIn body_impl_OpenClaims).getD 0 .skip
theorem ls_impl_OpenClaims : loopsIn body_impl_OpenClaims = [c_impl_OpenClaims_0] := by kernel_rfl
theorem rd_impl_OpenClaims_3 (N n : Nat) (x : Vals ks_impl_OpenClaims_l3) (K : Ks) : L_impl_OpenClaims N (n + 1) 3 (shape ks_impl_OpenClaims_l3 x) (h_impl_OpenClaims.onOut 3 K) = peRound h_impl_OpenClaims (Orc.of (es_impl_OpenClaims N)) (mixL (L_impl_OpenClaims N) N n 3) c_impl_OpenClaims_0 (shape ks_impl_OpenClaims_l3 x) (h_impl_OpenClaims.onOut 3 K) := by kernel_rfl
theorem fn_impl_OpenClaims (N : Nat) (x : AVals sg_impl_OpenClaims) (kf : Ret → Option Ret) : F_impl_OpenClaims N x kf = peFunc h_impl_OpenClaims (Orc.of (es_impl_OpenClaims N)) (L_impl_OpenClaims N N) Try.f64 (ashape sg_impl_OpenClaims x) kf := by kernel_rfl
theorem sd_impl_OpenClaims {Γ : Gl} (N : Nat) : Sound Γ Try.prog 64 (run_impl_OpenClaims N) := fun_ok2 (hh := h_impl_OpenClaims) mixed tab_ok (es := es_impl_OpenClaims N) ⟨sd_impl_Labels N, trivial⟩ (fn := Try.f64) (body := body_impl_OpenClaims) (by kernel_rfl) (by kernel_rfl) (by kernel_rfl) (by kernel_rfl) (by kernel_rfl) (Lf := L_impl_OpenClaims N) (L0_impl_OpenClaims N) ls_impl_OpenClaims (round_cons (key := 3) (ks := ks_impl_OpenClaims_l3) (by kernel_rfl) (by kernel_rfl) (rd_impl_OpenClaims_3 N) trivial) (N := N) (by kernel_rfl) (fn_impl_OpenClaims N) (.inl (by kernel_rfl))
/-! impl_OpenShare -/
noncomputable def h_impl_OpenShare : Hint := { tab, hn := [], loops := [], outs := [], ords := [(3, (OT.seq [0, 4, 5, 1, 2, 3, 6, 7] .done))] }
noncomputable def sg_impl_OpenShare : List AK := [.v tQILLIE .k]
noncomputable def F_impl_OpenShare (N : Nat) (x : AVals sg_impl_OpenShare) (kf : Ret → Option Ret) : Option Ret := impl_OpenShare N x.1 (fun r0 => kf ⟨[⟨(.int .i64), .k, r0⟩], []⟩)
noncomputable def run_impl_OpenShare (N : Nat) := runOf sg_impl_OpenShare (F_impl_OpenShare N)
noncomputable def es_impl_OpenShare (N : Nat) : List Entry := [⟨63, [.val], (run_impl_IsGraph N)⟩, ⟨64, [.val], (run_impl_OpenClaims N)⟩]
noncomputable def body_impl_OpenShare : Code := match Try.f19.body with | some c => c | none => .skip
noncomputable def L_impl_OpenShare (N n : Nat) (key : Nat) (S : St) (K : Ks) : Option Ret := none
theorem L0_impl_OpenShare (N key : Nat) (S : St) (K : Ks) : L_impl_OpenShare N 0 key S K = none := rfl
theorem ls_impl_OpenShare : loopsIn body_impl_OpenShare = [] := by kernel_rfl
theorem fn_impl_OpenShare (N : Nat) (x : AVals sg_impl_OpenShare) (kf : Ret → Option Ret) : F_impl_OpenShare N x kf = peFunc h_impl_OpenShare (Orc.of (es_impl_OpenShare N)) (L_impl_OpenShare N N) Try.f19 (ashape sg_impl_OpenShare x) kf := by kernel_rfl
theorem sd_impl_OpenShare {Γ : Gl} (N : Nat) : Sound Γ Try.prog 19 (run_impl_OpenShare N) := fun_ok2 (hh := h_impl_OpenShare) mixed tab_ok (es := es_impl_OpenShare N) ⟨sd_impl_IsGraph N, ⟨sd_impl_OpenClaims N, trivial⟩⟩ (fn := Try.f19) (body := body_impl_OpenShare) (by kernel_rfl) (by kernel_rfl) (by kernel_rfl) (by kernel_rfl) (by kernel_rfl) (Lf := L_impl_OpenShare N) (L0_impl_OpenShare N) ls_impl_OpenShare trivial (N := N) (by kernel_rfl) (fn_impl_OpenShare N) (.inl (by kernel_rfl))
/-! laws_eqIntS -/
noncomputable def ks_laws_eqIntS_l4 : List Kd := [.v (.sl (.int .i64)) .k, .v (.sl (.int .i64)) .k, dK, dK, dK, .v (.int .i64) .k, dK, dK, dK, dK, dK, dK, dK, dK, dK, dK, dK, dK, dK, dK, dK, dK, dK, dK, dK, dK]
noncomputable def ko_laws_eqIntS_l4_0 : List Kd := [dK, dK, dK, dK, dK, dK, dK, dK, dK, dK, dK, dK, dK, dK, dK, dK, dK, dK, dK, dK, dK, dK, dK, dK, dK, dK]
noncomputable def ko_laws_eqIntS_l4_1 : List Kd := [dK, dK, dK, dK, .v .bool .k, dK, dK, dK, dK, dK, dK, dK, dK, dK, dK, dK, dK, dK, dK, dK, dK, dK, dK, dK, dK, dK]
noncomputable def h_laws_eqIntS : Hint := { tab, hn := [], loops := [(4, ks_laws_eqIntS_l4)], outs := [(4, 2, ko_laws_eqIntS_l4_0), (4, 1, ko_laws_eqIntS_l4_1)], ords := [(6, (OT.seq [0, 1, 2, 3, 4, 5, 6, 7, 8] .done))] }
noncomputable def sg_laws_eqIntS : List AK := [.v (.sl (.int .i64)) .k, .v (.sl (.int .i64)) .k]
noncomputable def F_laws_eqIntS (N : Nat) (x : AVals sg_laws_eqIntS) (kf : Ret → Option Ret) : Option Ret := laws_eqIntS N x.1 x.2.1 (fun r0 => kf ⟨[⟨.bool, .k, r0⟩], []⟩)
noncomputable def run_laws_eqIntS (N : Nat) := runOf sg_laws_eqIntS (F_laws_eqIntS N)
noncomputable def es_laws_eqIntS (N : Nat) : List Entry := []
noncomputable def body_laws_eqIntS : Code := match Try.f98.body with | some c => c | none => .skip
noncomputable def L_laws_eqIntS (N n : Nat) (key : Nat) (S : St) (K : Ks) : Option Ret := bif Nat.beq key 4 then withVals ks_laws_eqIntS_l4 S (fun x => laws_eqIntS_l4 x.1 x.2.1 n (K (.x 0) (shape ko_laws_eqIntS_l4_0 ())) (fun z0 => K .r (shape ko_laws_eqIntS_l4_1 (z0, ()))) x.2.2.1) else none
theorem L0_laws_eqIntS (N key : Nat) (S : St) (K : Ks) : L_laws_eqIntS N 0 key S K = none := (bif0 (withVals0 fun _ => rfl) rfl)
noncomputable def c_laws_eqIntS_0 : Code := (loopsIn body_laws_eqIntS).getD 0 .skip
theorem ls_laws_eqIntS : loopsIn body_laws_eqIntS = [c_laws_eqIntS_0] := by kernel_rfl
theorem rd_laws_eqIntS_4 (N n : Nat) (x : Vals ks_laws_eqIntS_l4) (K : Ks) : L_laws_eqIntS N (n + 1) 4 (shape ks_laws_eqIntS_l4 x) (h_laws_eqIntS.onOut 4 K) = peRound h_laws_eqIntS (Orc.of (es_laws_eqIntS N)) (mixL (L_laws_eqIntS N) N n 4) c_laws_eqIntS_0 (shape ks_laws_eqIntS_l4 x) (h_laws_eqIntS.onOut 4 K) := by kernel_rfl
theorem fn_laws_eqIntS (N : Nat) (x : AVals sg_laws_eqIntS) (kf : Ret → Option Ret) : F_laws_eqIntS N x kf = peFunc h_laws_eqIntS (Orc.of (es_laws_eqIntS N)) (L_laws_eqIntS N N) Try.f98 (ashape sg_laws_eqIntS x) kf := by kernel_rfl
theorem sd_laws_eqIntS {Γ : Gl} (N : Nat) : Sound Γ Try.prog 98 (run_laws_eqIntS N) := fun_ok2 (hh := h_laws_eqIntS) mixed tab_ok (es := es_laws_eqIntS N) trivial (fn := Try.f98) (body := body_laws_eqIntS) (by kernel_rfl) (by kernel_rfl) (by kernel_rfl) (by kernel_rfl) (by kernel_rfl) (Lf := L_laws_eqIntS N) (L0_laws_eqIntS N) ls_laws_eqIntS (round_cons (key := 4) (ks := ks_laws_eqIntS_l4) (by kernel_rfl) (by kernel_rfl) (rd_laws_eqIntS_4 N) trivial) (N := N) (by kernel_rfl) (fn_laws_eqIntS N) (.inl (by kernel_rfl))
/-! laws_eqIntSS -/
noncomputable def ks_laws_eqIntSS_l4 : List Kd := [.v (.sl (.sl (.int .i64))) .k, .v (.sl (.sl (.int .i64))) .k, dK, dK, dK, .v (.int .i64) .k, dK, dK, dK, dK, dK, dK, dK, dK, dK, dK, dK, dK, dK, dK, dK, dK, dK, dK, dK, dK, dK]
noncomputable def ko_laws_eqIntSS_l4_0 : List Kd := [dK, dK, dK, dK, dK, dK, dK, dK, dK, dK, dK, dK, dK, dK, dK, dK, dK, dK, dK, dK, dK, dK, dK, dK, dK, dK, dK]
noncomputable def ko_laws_eqIntSS_l4_1 : List Kd := [dK, dK, dK, dK, .v .bool .k, dK, dK, dK, dK, dK, dK, dK, dK, dK, dK, dK, dK, dK, dK, dK, dK, dK, dK, dK, dK, dK, dK]
noncomputable def h_laws_eqIntSS : Hint := { tab, hn := [], loops := [(4, ks_laws_eqIntSS_l4)], outs := [(4, 2, ko_laws_eqIntSS_l4_0), (4, 1, ko_laws_eqIntSS_l4_1)], ords := [(6, (OT.seq [0, 1, 2, 3, 4, 5, 6, 7, 8, 9] .done))] }
noncomputable def sg_laws_eqIntSS : List AK := [.v (.sl (.sl (.int .i64))) .k, .v (.sl (.sl (.int .i64))) .k]
noncomputable def F_laws_eqIntSS (N : Nat) (x : AVals sg_laws_eqIntSS) (kf : Ret → Option Ret) : Option Ret := laws_eqIntSS N x.1 x.2.1 (fun r0 => kf ⟨[⟨.bool, .k, r0⟩], []⟩)
noncomputable def run_laws_eqIntSS (N : Nat) := runOf sg_laws_eqIntSS (F_laws_eqIntSS N)
noncomputable def es_laws_eqIntSS (N : Nat) : List Entry := [⟨98, [.val, .val], (run_laws_eqIntS N)⟩]
noncomputable def body_laws_eqIntSS : Code := match Try.f65.body with | some c => c | none => .skip
noncomputable def L_laws_eqIntSS (N n : Nat) (key : Nat) (S : St) (K : Ks) : Option Ret := bif Nat.beq key 4 then withVals ks_laws_eqIntSS_l4 S (fun x => laws_eqIntSS_l4 N x.1 x.2.1 n (K (.x 0) (shape ko_laws_eqIntSS_l4_0 ())) (fun z0 => K .r (shape ko_laws_eqIntSS_l4_1 (z0, ()))) x.2.2.1) else none
theorem L0_laws_eqIntSS (N key : Nat) (S : St) (K : Ks) : L_laws_eqIntSS N 0 key S K = none := (bif0 (withVals0 fun _ => rfl) rfl)
noncomputable def c_laws_eqIntSS_0 : Code := (loopsIn body_laws_eqIntSS).getD 0 .skip
theorem ls_laws_eqIntSS : loopsIn body_laws_eqIntSS = [c_laws_eqIntSS_0] := by kernel_rfl
theorem rd_laws_eqIntSS_4 (N n : Nat) (x : Vals ks_laws_eqIntSS_l4) (K : Ks) : L_laws_eqIntSS N (n + 1) 4 (shape ks_laws_eqIntSS_l4 x) (h_laws_eqIntSS.onOut 4 K) = peRound h_laws_eqIntSS (Orc.of (es_laws_eqIntSS N)) (mixL (L_laws_eqIntSS N) N n 4) c_laws_eqIntSS_0 (shape ks_laws_eqIntSS_l4 x) (h_laws_eqIntSS.onOut 4 K) := by kernel_rfl
theorem fn_laws_eqIntSS (N : Nat) (x : AVals sg_laws_eqIntSS) (kf : Ret → Option Ret) : F_laws_eqIntSS N x kf = peFunc h_laws_eqIntSS (Orc.of (es_laws_eqIntSS N)) (L_laws_eqIntSS N N) Try.f65 (ashape sg_laws_eqIntSS x) kf := by kernel_rfl
theorem sd_laws_eqIntSS {Γ : Gl} (N : Nat) : Sound Γ Try.prog 65 (run_laws_eqIntSS N) := fun_ok2 (hh := h_laws_eqIntSS) mixed tab_ok (es := es_laws_eqIntSS N) ⟨sd_laws_eqIntS N, trivial⟩ (fn := Try.f65) (body := body_laws_eqIntSS) (by kernel_rfl) (by kernel_rfl) (by kernel_rfl) (by kernel_rfl) (by kernel_rfl) (Lf := L_laws_eqIntSS N) (L0_laws_eqIntSS N) ls_laws_eqIntSS (round_cons (key := 4) (ks := ks_laws_eqIntSS_l4) (by kernel_rfl) (by kernel_rfl) (rd_laws_eqIntSS_4 N) trivial) (N := N) (by kernel_rfl) (fn_laws_eqIntSS N) (.inl (by kernel_rfl))
end Go.Pv.R
