/- Each function of the program that the law reaches computes its plain function, part 0. -/
import Derived.Test.YtopkjfgmjgghmaaRes
import Derived.Test.YtopkjfgmjgghmaaProg
namespace Go.Pv.R
open Go.Proofs
set_option linter.unusedVariables false
set_option maxRecDepth 100000
noncomputable abbrev dK : Kd := .dead
noncomputable def tab : Tab := [⟨2, (.int .i64), 0, []⟩, ⟨3, (.int .i64), 0, []⟩, ⟨4, .bool, 0, []⟩, ⟨5, (.int .u8), 0, []⟩, ⟨9, .str, 0, []⟩, ⟨12, (.int .u64), 0, []⟩, ⟨21, (.int .i32), 0, []⟩, ⟨24, (.sl tQIIIIE), 77, []⟩, ⟨27, (.sl tQIIIIE), 75, []⟩, ⟨31, (.sl tQIIIIE), 82, []⟩, ⟨34, (.sl tQIIIIE), 80, []⟩, ⟨38, (.sl (.int .i64)), 3, []⟩, ⟨39, tQIIIIILIE, 0, [3, 3, 3, 3, 3, 38]⟩, ⟨40, tQIIIIILIE, 0, [3, 3, 3, 3, 3, 38]⟩, ⟨43, tQIIIIILIE, 0, [3, 3, 3, 3, 3, 38]⟩, ⟨47, (.sl (.sl (.int .i64))), 38, []⟩, ⟨48, tQILLIE, 0, [3, 47]⟩, ⟨49, tQILLIE, 0, [3, 47]⟩, ⟨54, (.sl tQIILIE), 91, []⟩, ⟨57, (.sl tQIILIE), 92, []⟩, ⟨64, (.sl tQIIIIILIE), 40, []⟩, ⟨67, (.sl tQIIIIILIE), 43, []⟩, ⟨72, (.sl .str), 9, []⟩, ⟨74, tQIIIIE, 0, [3, 3, 3, 3]⟩, ⟨75, tQIIIIE, 0, [3, 3, 3, 3]⟩, ⟨77, tQIIIIE, 0, [3, 3, 3, 3]⟩, ⟨79, tQIIIIE, 0, [3, 3, 3, 3]⟩, ⟨80, tQIIIIE, 0, [3, 3, 3, 3]⟩, ⟨82, tQIIIIE, 0, [3, 3, 3, 3]⟩, ⟨90, tQIILIE, 0, [3, 3, 38]⟩, ⟨91, tQIILIE, 0, [3, 3, 38]⟩, ⟨92, tQIILIE, 0, [3, 3, 38]⟩, ⟨108, (.int .u32), 0, []⟩]
theorem mixed : Try.prog.follows .mixedOrders = true := by kernel_rfl
theorem tab_ok : tabB Try.prog tab = true := by kernel_rfl
/-! spec_l1In -/
noncomputable def h_spec_l1In : Hint := { tab, hn := [], loops := [], outs := [], ords := [] }
noncomputable def sg_spec_l1In : List AK := [.v (.int .i64) .k, .v (.int .i64) .k, .v (.int .i64) .k]
noncomputable def F_spec_l1In (N : Nat) (x : AVals sg_spec_l1In) (kf : Ret → Option Ret) : Option Ret := spec_l1In N x.1 x.2.1 x.2.2.1 (fun r0 => kf ⟨[⟨.bool, .k, r0⟩], []⟩)
noncomputable def run_spec_l1In (N : Nat) := runOf sg_spec_l1In (F_spec_l1In N)
noncomputable def es_spec_l1In (N : Nat) : List Entry := []
noncomputable def body_spec_l1In : Code := match Try.f54.body with | some c => c | none => .skip
noncomputable def L_spec_l1In (N n : Nat) (key : Nat) (S : St) (K : Ks) : Option Ret := none
theorem L0_spec_l1In (N key : Nat) (S : St) (K : Ks) : L_spec_l1In N 0 key S K = none := rfl
theorem ls_spec_l1In : loopsIn body_spec_l1In = [] := by kernel_rfl
theorem fn_spec_l1In (N : Nat) (x : AVals sg_spec_l1In) (kf : Ret → Option Ret) : F_spec_l1In N x kf = peFunc h_spec_l1In (Orc.of (es_spec_l1In N)) (L_spec_l1In N N) Try.f54 (ashape sg_spec_l1In x) kf := by kernel_rfl
theorem sd_spec_l1In (N : Nat) : Sound Try.prog 54 (run_spec_l1In N) := fun_ok2 (hh := h_spec_l1In) mixed tab_ok (es := es_spec_l1In N) trivial (fn := Try.f54) (body := body_spec_l1In) (by kernel_rfl) (by kernel_rfl) (by kernel_rfl) (by kernel_rfl) (by kernel_rfl) (Lf := L_spec_l1In N) (L0_spec_l1In N) ls_spec_l1In trivial (N := N) (by kernel_rfl) (fn_spec_l1In N)
/-! laws_szLineS -/
noncomputable def h_laws_szLineS : Hint := { tab, hn := [], loops := [], outs := [], ords := [] }
noncomputable def sg_laws_szLineS : List AK := [.v (.sl tQIIIIE) .k, .v (.int .i64) .k]
noncomputable def F_laws_szLineS (N : Nat) (x : AVals sg_laws_szLineS) (kf : Ret → Option Ret) : Option Ret := laws_szLineS N x.1 x.2.1 (fun r0 => kf ⟨[⟨(.int .i64), .k, r0⟩], []⟩)
noncomputable def run_laws_szLineS (N : Nat) := runOf sg_laws_szLineS (F_laws_szLineS N)
noncomputable def es_laws_szLineS (N : Nat) : List Entry := []
noncomputable def body_laws_szLineS : Code := match Try.f21.body with | some c => c | none => .skip
noncomputable def L_laws_szLineS (N n : Nat) (key : Nat) (S : St) (K : Ks) : Option Ret := none
theorem L0_laws_szLineS (N key : Nat) (S : St) (K : Ks) : L_laws_szLineS N 0 key S K = none := rfl
theorem ls_laws_szLineS : loopsIn body_laws_szLineS = [] := by kernel_rfl
theorem fn_laws_szLineS (N : Nat) (x : AVals sg_laws_szLineS) (kf : Ret → Option Ret) : F_laws_szLineS N x kf = peFunc h_laws_szLineS (Orc.of (es_laws_szLineS N)) (L_laws_szLineS N N) Try.f21 (ashape sg_laws_szLineS x) kf := by kernel_rfl
theorem sd_laws_szLineS (N : Nat) : Sound Try.prog 21 (run_laws_szLineS N) := fun_ok2 (hh := h_laws_szLineS) mixed tab_ok (es := es_laws_szLineS N) trivial (fn := Try.f21) (body := body_laws_szLineS) (by kernel_rfl) (by kernel_rfl) (by kernel_rfl) (by kernel_rfl) (by kernel_rfl) (Lf := L_laws_szLineS N) (L0_laws_szLineS N) ls_laws_szLineS trivial (N := N) (by kernel_rfl) (fn_laws_szLineS N)
/-! laws_toLine -/
noncomputable def h_laws_toLine : Hint := { tab, hn := [], loops := [], outs := [], ords := [] }
noncomputable def sg_laws_toLine : List AK := [.v tQIIIIE .k]
noncomputable def F_laws_toLine (N : Nat) (x : AVals sg_laws_toLine) (kf : Ret → Option Ret) : Option Ret := laws_toLine N x.1 (fun r0 => kf ⟨[⟨tQIIIIE, .k, r0⟩], []⟩)
noncomputable def run_laws_toLine (N : Nat) := runOf sg_laws_toLine (F_laws_toLine N)
noncomputable def es_laws_toLine (N : Nat) : List Entry := []
noncomputable def body_laws_toLine : Code := match Try.f57.body with | some c => c | none => .skip
noncomputable def L_laws_toLine (N n : Nat) (key : Nat) (S : St) (K : Ks) : Option Ret := none
theorem L0_laws_toLine (N key : Nat) (S : St) (K : Ks) : L_laws_toLine N 0 key S K = none := rfl
theorem ls_laws_toLine : loopsIn body_laws_toLine = [] := by kernel_rfl
theorem fn_laws_toLine (N : Nat) (x : AVals sg_laws_toLine) (kf : Ret → Option Ret) : F_laws_toLine N x kf = peFunc h_laws_toLine (Orc.of (es_laws_toLine N)) (L_laws_toLine N N) Try.f57 (ashape sg_laws_toLine x) kf := by kernel_rfl
theorem sd_laws_toLine (N : Nat) : Sound Try.prog 57 (run_laws_toLine N) := fun_ok2 (hh := h_laws_toLine) mixed tab_ok (es := es_laws_toLine N) trivial (fn := Try.f57) (body := body_laws_toLine) (by kernel_rfl) (by kernel_rfl) (by kernel_rfl) (by kernel_rfl) (by kernel_rfl) (Lf := L_laws_toLine N) (L0_laws_toLine N) ls_laws_toLine trivial (N := N) (by kernel_rfl) (fn_laws_toLine N)
/-! laws_toLineS -/
noncomputable def ks_laws_toLineS_l3 : List Kd := [.v (.sl tQIIIIE) .k, dK, dK, .v (.sl tQIIIIE) (.o 80 none .k), .v (.int .i64) .k, dK, dK, dK, dK, dK, dK, dK, dK, dK, dK, dK, dK, dK, dK, dK, dK, dK, dK]
noncomputable def ko_laws_toLineS_l3_0 : List Kd := [dK, dK, dK, .v (.sl tQIIIIE) (.o 80 none .k), dK, dK, dK, dK, dK, dK, dK, dK, dK, dK, dK, dK, dK, dK, dK, dK, dK, dK, dK]
noncomputable def h_laws_toLineS : Hint := { tab, hn := [], loops := [(3, ks_laws_toLineS_l3)], outs := [(3, 2, ko_laws_toLineS_l3_0)], ords := [] }
noncomputable def sg_laws_toLineS : List AK := [.v (.sl tQIIIIE) .k]
noncomputable def F_laws_toLineS (N : Nat) (x : AVals sg_laws_toLineS) (kf : Ret → Option Ret) : Option Ret := laws_toLineS N x.1 (fun r0 => kf ⟨[⟨(.sl tQIIIIE), (.o 80 none .k), r0⟩], []⟩)
noncomputable def run_laws_toLineS (N : Nat) := runOf sg_laws_toLineS (F_laws_toLineS N)
noncomputable def es_laws_toLineS (N : Nat) : List Entry := [⟨57, [.val], (run_laws_toLine N)⟩]
noncomputable def body_laws_toLineS : Code := match Try.f23.body with | some c => c | none => .skip
noncomputable def L_laws_toLineS (N n : Nat) (key : Nat) (S : St) (K : Ks) : Option Ret := bif Nat.beq key 3 then withVals ks_laws_toLineS_l3 S (fun x => laws_toLineS_l3 N x.1 n (fun z0 => K (.x 0) (shape ko_laws_toLineS_l3_0 (z0, ()))) x.2.1 x.2.2.1) else none
theorem L0_laws_toLineS (N key : Nat) (S : St) (K : Ks) : L_laws_toLineS N 0 key S K = none := (bif0 (withVals0 fun _ => rfl) rfl)
noncomputable def c_laws_toLineS_0 : Code := (loopsIn body_laws_toLineS).getD 0 .skip
theorem ls_laws_toLineS : loopsIn body_laws_toLineS = [c_laws_toLineS_0] := by kernel_rfl
theorem rd_laws_toLineS_3 (N n : Nat) (x : Vals ks_laws_toLineS_l3) (K : Ks) : L_laws_toLineS N (n + 1) 3 (shape ks_laws_toLineS_l3 x) (h_laws_toLineS.onOut 3 K) = peRound h_laws_toLineS (Orc.of (es_laws_toLineS N)) (mixL (L_laws_toLineS N) N n 3) c_laws_toLineS_0 (shape ks_laws_toLineS_l3 x) (h_laws_toLineS.onOut 3 K) := by kernel_rfl
theorem fn_laws_toLineS (N : Nat) (x : AVals sg_laws_toLineS) (kf : Ret → Option Ret) : F_laws_toLineS N x kf = peFunc h_laws_toLineS (Orc.of (es_laws_toLineS N)) (L_laws_toLineS N N) Try.f23 (ashape sg_laws_toLineS x) kf := by kernel_rfl
theorem sd_laws_toLineS (N : Nat) : Sound Try.prog 23 (run_laws_toLineS N) := fun_ok2 (hh := h_laws_toLineS) mixed tab_ok (es := es_laws_toLineS N) ⟨sd_laws_toLine N, trivial⟩ (fn := Try.f23) (body := body_laws_toLineS) (by kernel_rfl) (by kernel_rfl) (by kernel_rfl) (by kernel_rfl) (by kernel_rfl) (Lf := L_laws_toLineS N) (L0_laws_toLineS N) ls_laws_toLineS (round_cons (key := 3) (ks := ks_laws_toLineS_l3) (by kernel_rfl) (by kernel_rfl) (rd_laws_toLineS_3 N) trivial) (N := N) (by kernel_rfl) (fn_laws_toLineS N)
/-! spec_CountWhat -/
noncomputable def ks_spec_CountWhat_l3 : List Kd := [.v (.sl tQIIIIE) .k, .v (.int .i64) .k, dK, dK, dK, .v (.int .i64) .k, .v (.int .i64) .k, dK, dK, dK, dK, dK, dK, dK, dK, dK, dK, dK, dK, dK, dK, dK, dK]
noncomputable def ko_spec_CountWhat_l3_0 : List Kd := [dK, dK, dK, dK, dK, .v (.int .i64) .k, dK, dK, dK, dK, dK, dK, dK, dK, dK, dK, dK, dK, dK, dK, dK, dK, dK]
noncomputable def h_spec_CountWhat : Hint := { tab, hn := [], loops := [(3, ks_spec_CountWhat_l3)], outs := [(3, 2, ko_spec_CountWhat_l3_0)], ords := [] }
noncomputable def sg_spec_CountWhat : List AK := [.v (.sl tQIIIIE) .k, .v (.int .i64) .k]
noncomputable def F_spec_CountWhat (N : Nat) (x : AVals sg_spec_CountWhat) (kf : Ret → Option Ret) : Option Ret := spec_CountWhat N x.1 x.2.1 (fun r0 => kf ⟨[⟨(.int .i64), .k, r0⟩], []⟩)
noncomputable def run_spec_CountWhat (N : Nat) := runOf sg_spec_CountWhat (F_spec_CountWhat N)
noncomputable def es_spec_CountWhat (N : Nat) : List Entry := []
noncomputable def body_spec_CountWhat : Code := match Try.f22.body with | some c => c | none => .skip
noncomputable def L_spec_CountWhat (N n : Nat) (key : Nat) (S : St) (K : Ks) : Option Ret := bif Nat.beq key 3 then withVals ks_spec_CountWhat_l3 S (fun x => spec_CountWhat_l3 x.1 x.2.1 n (fun z0 => K (.x 0) (shape ko_spec_CountWhat_l3_0 (z0, ()))) x.2.2.1 x.2.2.2.1) else none
theorem L0_spec_CountWhat (N key : Nat) (S : St) (K : Ks) : L_spec_CountWhat N 0 key S K = none := (bif0 (withVals0 fun _ => rfl) rfl)
noncomputable def c_spec_CountWhat_0 : Code := (loopsIn body_spec_CountWhat).getD 0 .skip
theorem ls_spec_CountWhat : loopsIn body_spec_CountWhat = [c_spec_CountWhat_0] := by kernel_rfl
theorem rd_spec_CountWhat_3 (N n : Nat) (x : Vals ks_spec_CountWhat_l3) (K : Ks) : L_spec_CountWhat N (n + 1) 3 (shape ks_spec_CountWhat_l3 x) (h_spec_CountWhat.onOut 3 K) = peRound h_spec_CountWhat (Orc.of (es_spec_CountWhat N)) (mixL (L_spec_CountWhat N) N n 3) c_spec_CountWhat_0 (shape ks_spec_CountWhat_l3 x) (h_spec_CountWhat.onOut 3 K) := by kernel_rfl
theorem fn_spec_CountWhat (N : Nat) (x : AVals sg_spec_CountWhat) (kf : Ret → Option Ret) : F_spec_CountWhat N x kf = peFunc h_spec_CountWhat (Orc.of (es_spec_CountWhat N)) (L_spec_CountWhat N N) Try.f22 (ashape sg_spec_CountWhat x) kf := by kernel_rfl
theorem sd_spec_CountWhat (N : Nat) : Sound Try.prog 22 (run_spec_CountWhat N) := fun_ok2 (hh := h_spec_CountWhat) mixed tab_ok (es := es_spec_CountWhat N) trivial (fn := Try.f22) (body := body_spec_CountWhat) (by kernel_rfl) (by kernel_rfl) (by kernel_rfl) (by kernel_rfl) (by kernel_rfl) (Lf := L_spec_CountWhat N) (L0_spec_CountWhat N) ls_spec_CountWhat (round_cons (key := 3) (ks := ks_spec_CountWhat_l3) (by kernel_rfl) (by kernel_rfl) (rd_spec_CountWhat_3 N) trivial) (N := N) (by kernel_rfl) (fn_spec_CountWhat N)
/-! impl_CountWhat -/
noncomputable def ks_impl_CountWhat_l3 : List Kd := [dK, .v (.int .i64) .k, dK, dK, dK, .v (.int .i64) .k, dK, dK, .v (.sl tQIIIIE) .k, .v (.int .i64) .k, .v (.int .i64) .k, dK, dK, dK, dK, dK, dK, dK, dK, dK, dK, dK]
noncomputable def ko_impl_CountWhat_l3_0 : List Kd := [dK, dK, dK, dK, dK, .v (.int .i64) .k, dK, dK, dK, dK, dK, dK, dK, dK, dK, dK, dK, dK, dK, dK, dK, dK]
noncomputable def h_impl_CountWhat : Hint := { tab, hn := [], loops := [(3, ks_impl_CountWhat_l3)], outs := [(3, 2, ko_impl_CountWhat_l3_0)], ords := [] }
noncomputable def sg_impl_CountWhat : List AK := [.v (.sl tQIIIIE) .k, .v (.int .i64) .k]
noncomputable def F_impl_CountWhat (N : Nat) (x : AVals sg_impl_CountWhat) (kf : Ret → Option Ret) : Option Ret := impl_CountWhat N x.1 x.2.1 (fun r0 => kf ⟨[⟨(.int .i64), .k, r0⟩], []⟩)
noncomputable def run_impl_CountWhat (N : Nat) := runOf sg_impl_CountWhat (F_impl_CountWhat N)
noncomputable def es_impl_CountWhat (N : Nat) : List Entry := []
noncomputable def body_impl_CountWhat : Code := match Try.f24.body with | some c => c | none => .skip
noncomputable def L_impl_CountWhat (N n : Nat) (key : Nat) (S : St) (K : Ks) : Option Ret := bif Nat.beq key 3 then withVals ks_impl_CountWhat_l3 S (fun x => impl_CountWhat_l3 x.1 x.2.2.1 x.2.2.2.1 n (fun z0 => K (.x 0) (shape ko_impl_CountWhat_l3_0 (z0, ()))) x.2.1 x.2.2.2.2.1) else none
theorem L0_impl_CountWhat (N key : Nat) (S : St) (K : Ks) : L_impl_CountWhat N 0 key S K = none := (bif0 (withVals0 fun _ => rfl) rfl)
noncomputable def c_impl_CountWhat_0 : Code := (loopsIn body_impl_CountWhat).getD 0 .skip
theorem ls_impl_CountWhat : loopsIn body_impl_CountWhat = [c_impl_CountWhat_0] := by kernel_rfl
theorem rd_impl_CountWhat_3 (N n : Nat) (x : Vals ks_impl_CountWhat_l3) (K : Ks) : L_impl_CountWhat N (n + 1) 3 (shape ks_impl_CountWhat_l3 x) (h_impl_CountWhat.onOut 3 K) = peRound h_impl_CountWhat (Orc.of (es_impl_CountWhat N)) (mixL (L_impl_CountWhat N) N n 3) c_impl_CountWhat_0 (shape ks_impl_CountWhat_l3 x) (h_impl_CountWhat.onOut 3 K) := by kernel_rfl
theorem fn_impl_CountWhat (N : Nat) (x : AVals sg_impl_CountWhat) (kf : Ret → Option Ret) : F_impl_CountWhat N x kf = peFunc h_impl_CountWhat (Orc.of (es_impl_CountWhat N)) (L_impl_CountWhat N N) Try.f24 (ashape sg_impl_CountWhat x) kf := by kernel_rfl
theorem sd_impl_CountWhat (N : Nat) : Sound Try.prog 24 (run_impl_CountWhat N) := fun_ok2 (hh := h_impl_CountWhat) mixed tab_ok (es := es_impl_CountWhat N) trivial (fn := Try.f24) (body := body_impl_CountWhat) (by kernel_rfl) (by kernel_rfl) (by kernel_rfl) (by kernel_rfl) (by kernel_rfl) (Lf := L_impl_CountWhat N) (L0_impl_CountWhat N) ls_impl_CountWhat (round_cons (key := 3) (ks := ks_impl_CountWhat_l3) (by kernel_rfl) (by kernel_rfl) (rd_impl_CountWhat_3 N) trivial) (N := N) (by kernel_rfl) (fn_impl_CountWhat N)
/-! laws_eqLine -/
noncomputable def h_laws_eqLine : Hint := { tab, hn := [], loops := [], outs := [], ords := [] }
noncomputable def sg_laws_eqLine : List AK := [.v tQIIIIE .k, .v tQIIIIE .k]
noncomputable def F_laws_eqLine (N : Nat) (x : AVals sg_laws_eqLine) (kf : Ret → Option Ret) : Option Ret := laws_eqLine N x.1 x.2.1 (fun r0 => kf ⟨[⟨.bool, .k, r0⟩], []⟩)
noncomputable def run_laws_eqLine (N : Nat) := runOf sg_laws_eqLine (F_laws_eqLine N)
noncomputable def es_laws_eqLine (N : Nat) : List Entry := []
noncomputable def body_laws_eqLine : Code := match Try.f58.body with | some c => c | none => .skip
noncomputable def L_laws_eqLine (N n : Nat) (key : Nat) (S : St) (K : Ks) : Option Ret := none
theorem L0_laws_eqLine (N key : Nat) (S : St) (K : Ks) : L_laws_eqLine N 0 key S K = none := rfl
theorem ls_laws_eqLine : loopsIn body_laws_eqLine = [] := by kernel_rfl
theorem fn_laws_eqLine (N : Nat) (x : AVals sg_laws_eqLine) (kf : Ret → Option Ret) : F_laws_eqLine N x kf = peFunc h_laws_eqLine (Orc.of (es_laws_eqLine N)) (L_laws_eqLine N N) Try.f58 (ashape sg_laws_eqLine x) kf := by kernel_rfl
theorem sd_laws_eqLine (N : Nat) : Sound Try.prog 58 (run_laws_eqLine N) := fun_ok2 (hh := h_laws_eqLine) mixed tab_ok (es := es_laws_eqLine N) trivial (fn := Try.f58) (body := body_laws_eqLine) (by kernel_rfl) (by kernel_rfl) (by kernel_rfl) (by kernel_rfl) (by kernel_rfl) (Lf := L_laws_eqLine N) (L0_laws_eqLine N) ls_laws_eqLine trivial (N := N) (by kernel_rfl) (fn_laws_eqLine N)
/-! laws_eqLineS -/
noncomputable def ks_laws_eqLineS_l4 : List Kd := [.v (.sl tQIIIIE) .k, .v (.sl tQIIIIE) .k, dK, dK, dK, .v (.int .i64) .k, dK, dK, dK, dK, dK, dK, dK, dK, dK, dK, dK, dK, dK, dK, dK, dK, dK, dK, dK, dK, dK]
noncomputable def ko_laws_eqLineS_l4_0 : List Kd := [dK, dK, dK, dK, dK, dK, dK, dK, dK, dK, dK, dK, dK, dK, dK, dK, dK, dK, dK, dK, dK, dK, dK, dK, dK, dK, dK]
noncomputable def ko_laws_eqLineS_l4_1 : List Kd := [dK, dK, dK, dK, .v .bool .k, dK, dK, dK, dK, dK, dK, dK, dK, dK, dK, dK, dK, dK, dK, dK, dK, dK, dK, dK, dK, dK, dK]
noncomputable def h_laws_eqLineS : Hint := { tab, hn := [], loops := [(4, ks_laws_eqLineS_l4)], outs := [(4, 2, ko_laws_eqLineS_l4_0), (4, 1, ko_laws_eqLineS_l4_1)], ords := [(6, [0, 1, 2, 3, 4, 5, 6, 7, 8, 9])] }
noncomputable def sg_laws_eqLineS : List AK := [.v (.sl tQIIIIE) .k, .v (.sl tQIIIIE) .k]
noncomputable def F_laws_eqLineS (N : Nat) (x : AVals sg_laws_eqLineS) (kf : Ret → Option Ret) : Option Ret := laws_eqLineS N x.1 x.2.1 (fun r0 => kf ⟨[⟨.bool, .k, r0⟩], []⟩)
noncomputable def run_laws_eqLineS (N : Nat) := runOf sg_laws_eqLineS (F_laws_eqLineS N)
noncomputable def es_laws_eqLineS (N : Nat) : List Entry := [⟨58, [.val, .val], (run_laws_eqLine N)⟩]
noncomputable def body_laws_eqLineS : Code := match Try.f25.body with | some c => c | none => .skip
noncomputable def L_laws_eqLineS (N n : Nat) (key : Nat) (S : St) (K : Ks) : Option Ret := bif Nat.beq key 4 then withVals ks_laws_eqLineS_l4 S (fun x => laws_eqLineS_l4 N x.1 x.2.1 n (K (.x 0) (shape ko_laws_eqLineS_l4_0 ())) (fun z0 => K .r (shape ko_laws_eqLineS_l4_1 (z0, ()))) x.2.2.1) else none
theorem L0_laws_eqLineS (N key : Nat) (S : St) (K : Ks) : L_laws_eqLineS N 0 key S K = none := (bif0 (withVals0 fun _ => rfl) rfl)
noncomputable def c_laws_eqLineS_0 : Code := (loopsIn body_laws_eqLineS).getD 0 .skip
theorem ls_laws_eqLineS : loopsIn body_laws_eqLineS = [c_laws_eqLineS_0] := by kernel_rfl
theorem rd_laws_eqLineS_4 (N n : Nat) (x : Vals ks_laws_eqLineS_l4) (K : Ks) : L_laws_eqLineS N (n + 1) 4 (shape ks_laws_eqLineS_l4 x) (h_laws_eqLineS.onOut 4 K) = peRound h_laws_eqLineS (Orc.of (es_laws_eqLineS N)) (mixL (L_laws_eqLineS N) N n 4) c_laws_eqLineS_0 (shape ks_laws_eqLineS_l4 x) (h_laws_eqLineS.onOut 4 K) := by kernel_rfl
theorem fn_laws_eqLineS (N : Nat) (x : AVals sg_laws_eqLineS) (kf : Ret → Option Ret) : F_laws_eqLineS N x kf = peFunc h_laws_eqLineS (Orc.of (es_laws_eqLineS N)) (L_laws_eqLineS N N) Try.f25 (ashape sg_laws_eqLineS x) kf := by kernel_rfl
theorem sd_laws_eqLineS (N : Nat) : Sound Try.prog 25 (run_laws_eqLineS N) := fun_ok2 (hh := h_laws_eqLineS) mixed tab_ok (es := es_laws_eqLineS N) ⟨sd_laws_eqLine N, trivial⟩ (fn := Try.f25) (body := body_laws_eqLineS) (by kernel_rfl) (by kernel_rfl) (by kernel_rfl) (by kernel_rfl) (by kernel_rfl) (Lf := L_laws_eqLineS N) (L0_laws_eqLineS N) ls_laws_eqLineS (round_cons (key := 4) (ks := ks_laws_eqLineS_l4) (by kernel_rfl) (by kernel_rfl) (rd_laws_eqLineS_4 N) trivial) (N := N) (by kernel_rfl) (fn_laws_eqLineS N)
/-! impl_InRange -/
noncomputable def h_impl_InRange : Hint := { tab, hn := [], loops := [], outs := [], ords := [] }
noncomputable def sg_impl_InRange : List AK := [.v (.int .i64) .k, .v (.int .i64) .k, .v (.int .i64) .k]
noncomputable def F_impl_InRange (N : Nat) (x : AVals sg_impl_InRange) (kf : Ret → Option Ret) : Option Ret := impl_InRange N x.1 x.2.1 x.2.2.1 (fun r0 => kf ⟨[⟨.bool, .k, r0⟩], []⟩)
noncomputable def run_impl_InRange (N : Nat) := runOf sg_impl_InRange (F_impl_InRange N)
noncomputable def es_impl_InRange (N : Nat) : List Entry := []
noncomputable def body_impl_InRange : Code := match Try.f62.body with | some c => c | none => .skip
noncomputable def L_impl_InRange (N n : Nat) (key : Nat) (S : St) (K : Ks) : Option Ret := none
theorem L0_impl_InRange (N key : Nat) (S : St) (K : Ks) : L_impl_InRange N 0 key S K = none := rfl
theorem ls_impl_InRange : loopsIn body_impl_InRange = [] := by kernel_rfl
theorem fn_impl_InRange (N : Nat) (x : AVals sg_impl_InRange) (kf : Ret → Option Ret) : F_impl_InRange N x kf = peFunc h_impl_InRange (Orc.of (es_impl_InRange N)) (L_impl_InRange N N) Try.f62 (ashape sg_impl_InRange x) kf := by kernel_rfl
theorem sd_impl_InRange (N : Nat) : Sound Try.prog 62 (run_impl_InRange N) := fun_ok2 (hh := h_impl_InRange) mixed tab_ok (es := es_impl_InRange N) trivial (fn := Try.f62) (body := body_impl_InRange) (by kernel_rfl) (by kernel_rfl) (by kernel_rfl) (by kernel_rfl) (by kernel_rfl) (Lf := L_impl_InRange N) (L0_impl_InRange N) ls_impl_InRange trivial (N := N) (by kernel_rfl) (fn_impl_InRange N)
/-! spec_Mod -/
noncomputable def h_spec_Mod : Hint := { tab, hn := [], loops := [], outs := [], ords := [] }
noncomputable def sg_spec_Mod : List AK := [.v (.int .i64) .k, .v (.int .i64) .k]
noncomputable def F_spec_Mod (N : Nat) (x : AVals sg_spec_Mod) (kf : Ret → Option Ret) : Option Ret := spec_Mod N x.1 x.2.1 (fun r0 => kf ⟨[⟨(.int .i64), .k, r0⟩], []⟩)
noncomputable def run_spec_Mod (N : Nat) := runOf sg_spec_Mod (F_spec_Mod N)
noncomputable def es_spec_Mod (N : Nat) : List Entry := [⟨54, [.val, .val, .val], (run_spec_l1In N)⟩]
noncomputable def body_spec_Mod : Code := match Try.f85.body with | some c => c | none => .skip
noncomputable def L_spec_Mod (N n : Nat) (key : Nat) (S : St) (K : Ks) : Option Ret := none
theorem L0_spec_Mod (N key : Nat) (S : St) (K : Ks) : L_spec_Mod N 0 key S K = none := rfl
theorem ls_spec_Mod : loopsIn body_spec_Mod = [] := by kernel_rfl
theorem fn_spec_Mod (N : Nat) (x : AVals sg_spec_Mod) (kf : Ret → Option Ret) : F_spec_Mod N x kf = peFunc h_spec_Mod (Orc.of (es_spec_Mod N)) (L_spec_Mod N N) Try.f85 (ashape sg_spec_Mod x) kf := by kernel_rfl
theorem sd_spec_Mod (N : Nat) : Sound Try.prog 85 (run_spec_Mod N) := fun_ok2 (hh := h_spec_Mod) mixed tab_ok (es := es_spec_Mod N) ⟨sd_spec_l1In N, trivial⟩ (fn := Try.f85) (body := body_spec_Mod) (by kernel_rfl) (by kernel_rfl) (by kernel_rfl) (by kernel_rfl) (by kernel_rfl) (Lf := L_spec_Mod N) (L0_spec_Mod N) ls_spec_Mod trivial (N := N) (by kernel_rfl) (fn_spec_Mod N)
/-! spec_Hash -/
noncomputable def ks_spec_Hash_l3 : List Kd := [.v (.sl (.int .i64)) .k, dK, dK, .v (.int .i64) .k, .v (.int .i64) .k, dK, dK, dK, dK, dK, dK, dK, dK, dK, dK, dK, dK, dK, dK, dK, dK, dK]
noncomputable def ko_spec_Hash_l3_0 : List Kd := [dK, dK, dK, .v (.int .i64) .k, dK, dK, dK, dK, dK, dK, dK, dK, dK, dK, dK, dK, dK, dK, dK, dK, dK, dK]
noncomputable def h_spec_Hash : Hint := { tab, hn := [], loops := [(3, ks_spec_Hash_l3)], outs := [(3, 2, ko_spec_Hash_l3_0)], ords := [] }
noncomputable def sg_spec_Hash : List AK := [.v (.sl (.int .i64)) .k]
noncomputable def F_spec_Hash (N : Nat) (x : AVals sg_spec_Hash) (kf : Ret → Option Ret) : Option Ret := spec_Hash N x.1 (fun r0 => kf ⟨[⟨(.int .i64), .k, r0⟩], []⟩)
noncomputable def run_spec_Hash (N : Nat) := runOf sg_spec_Hash (F_spec_Hash N)
noncomputable def es_spec_Hash (N : Nat) : List Entry := [⟨85, [.val, .val], (run_spec_Mod N)⟩]
noncomputable def body_spec_Hash : Code := match Try.f81.body with | some c => c | none => .skip
noncomputable def L_spec_Hash (N n : Nat) (key : Nat) (S : St) (K : Ks) : Option Ret := bif Nat.beq key 3 then withVals ks_spec_Hash_l3 S (fun x => spec_Hash_l3 N x.1 n (fun z0 => K (.x 0) (shape ko_spec_Hash_l3_0 (z0, ()))) x.2.1 x.2.2.1) else none
theorem L0_spec_Hash (N key : Nat) (S : St) (K : Ks) : L_spec_Hash N 0 key S K = none := (bif0 (withVals0 fun _ => rfl) rfl)
noncomputable def c_spec_Hash_0 : Code := (loopsIn body_spec_Hash).getD 0 .skip
theorem ls_spec_Hash : loopsIn body_spec_Hash = [c_spec_Hash_0] := by kernel_rfl
theorem rd_spec_Hash_3 (N n : Nat) (x : Vals ks_spec_Hash_l3) (K : Ks) : L_spec_Hash N (n + 1) 3 (shape ks_spec_Hash_l3 x) (h_spec_Hash.onOut 3 K) = peRound h_spec_Hash (Orc.of (es_spec_Hash N)) (mixL (L_spec_Hash N) N n 3) c_spec_Hash_0 (shape ks_spec_Hash_l3 x) (h_spec_Hash.onOut 3 K) := by kernel_rfl
theorem fn_spec_Hash (N : Nat) (x : AVals sg_spec_Hash) (kf : Ret → Option Ret) : F_spec_Hash N x kf = peFunc h_spec_Hash (Orc.of (es_spec_Hash N)) (L_spec_Hash N N) Try.f81 (ashape sg_spec_Hash x) kf := by kernel_rfl
theorem sd_spec_Hash (N : Nat) : Sound Try.prog 81 (run_spec_Hash N) := fun_ok2 (hh := h_spec_Hash) mixed tab_ok (es := es_spec_Hash N) ⟨sd_spec_Mod N, trivial⟩ (fn := Try.f81) (body := body_spec_Hash) (by kernel_rfl) (by kernel_rfl) (by kernel_rfl) (by kernel_rfl) (by kernel_rfl) (Lf := L_spec_Hash N) (L0_spec_Hash N) ls_spec_Hash (round_cons (key := 3) (ks := ks_spec_Hash_l3) (by kernel_rfl) (by kernel_rfl) (rd_spec_Hash_3 N) trivial) (N := N) (by kernel_rfl) (fn_spec_Hash N)
/-! spec_l27Seal -/
noncomputable def h_spec_l27Seal : Hint := { tab, hn := [], loops := [], outs := [], ords := [] }
noncomputable def sg_spec_l27Seal : List AK := [.v (.int .i64) .k, .v tQIIIIE .k]
noncomputable def F_spec_l27Seal (N : Nat) (x : AVals sg_spec_l27Seal) (kf : Ret → Option Ret) : Option Ret := spec_l27Seal N x.1 x.2.1 (fun r0 => kf ⟨[⟨(.int .i64), .k, r0⟩], []⟩)
noncomputable def run_spec_l27Seal (N : Nat) := runOf sg_spec_l27Seal (F_spec_l27Seal N)
noncomputable def es_spec_l27Seal (N : Nat) : List Entry := [⟨81, [.val], (run_spec_Hash N)⟩]
noncomputable def body_spec_l27Seal : Code := match Try.f75.body with | some c => c | none => .skip
noncomputable def L_spec_l27Seal (N n : Nat) (key : Nat) (S : St) (K : Ks) : Option Ret := none
theorem L0_spec_l27Seal (N key : Nat) (S : St) (K : Ks) : L_spec_l27Seal N 0 key S K = none := rfl
theorem ls_spec_l27Seal : loopsIn body_spec_l27Seal = [] := by kernel_rfl
theorem fn_spec_l27Seal (N : Nat) (x : AVals sg_spec_l27Seal) (kf : Ret → Option Ret) : F_spec_l27Seal N x kf = peFunc h_spec_l27Seal (Orc.of (es_spec_l27Seal N)) (L_spec_l27Seal N N) Try.f75 (ashape sg_spec_l27Seal x) kf := by kernel_rfl
theorem sd_spec_l27Seal (N : Nat) : Sound Try.prog 75 (run_spec_l27Seal N) := fun_ok2 (hh := h_spec_l27Seal) mixed tab_ok (es := es_spec_l27Seal N) ⟨sd_spec_Hash N, trivial⟩ (fn := Try.f75) (body := body_spec_l27Seal) (by kernel_rfl) (by kernel_rfl) (by kernel_rfl) (by kernel_rfl) (by kernel_rfl) (Lf := L_spec_l27Seal N) (L0_spec_l27Seal N) ls_spec_l27Seal trivial (N := N) (by kernel_rfl) (fn_spec_l27Seal N)
/-! spec_AreMinutes -/
noncomputable def ks_spec_AreMinutes_l3 : List Kd := [.v (.sl tQIIIIE) .k, dK, dK, .v (.int .i64) .k, .v (.int .i64) .k, dK, dK, dK, dK, dK, dK, dK, dK, dK, dK, dK, dK, dK, dK, dK, dK, dK, dK, dK, dK, dK, dK, dK, dK, dK, dK, dK, dK, dK, dK, dK, dK, dK, dK, dK, dK, dK, dK, dK, dK, dK, dK, dK, dK, dK]
noncomputable def ko_spec_AreMinutes_l3_0 : List Kd := [.v (.sl tQIIIIE) .k, dK, dK, dK, dK, dK, dK, dK, dK, dK, dK, dK, dK, dK, dK, dK, dK, dK, dK, dK, dK, dK, dK, dK, dK, dK, dK, dK, dK, dK, dK, dK, dK, dK, dK, dK, dK, dK, dK, dK, dK, dK, dK, dK, dK, dK, dK, dK, dK, dK]
noncomputable def ko_spec_AreMinutes_l3_1 : List Kd := [dK, dK, .v .bool .k, dK, dK, dK, dK, dK, dK, dK, dK, dK, dK, dK, dK, dK, dK, dK, dK, dK, dK, dK, dK, dK, dK, dK, dK, dK, dK, dK, dK, dK, dK, dK, dK, dK, dK, dK, dK, dK, dK, dK, dK, dK, dK, dK, dK, dK, dK, dK]
noncomputable def h_spec_AreMinutes : Hint := { tab, hn := [], loops := [(3, ks_spec_AreMinutes_l3)], outs := [(3, 2, ko_spec_AreMinutes_l3_0), (3, 1, ko_spec_AreMinutes_l3_1)], ords := [] }
noncomputable def sg_spec_AreMinutes : List AK := [.v (.sl tQIIIIE) .k]
noncomputable def F_spec_AreMinutes (N : Nat) (x : AVals sg_spec_AreMinutes) (kf : Ret → Option Ret) : Option Ret := spec_AreMinutes N x.1 (fun r0 => kf ⟨[⟨.bool, .k, r0⟩], []⟩)
noncomputable def run_spec_AreMinutes (N : Nat) := runOf sg_spec_AreMinutes (F_spec_AreMinutes N)
noncomputable def es_spec_AreMinutes (N : Nat) : List Entry := [⟨75, [.val, .val], (run_spec_l27Seal N)⟩, ⟨54, [.val, .val, .val], (run_spec_l1In N)⟩]
noncomputable def body_spec_AreMinutes : Code := match Try.f69.body with | some c => c | none => .skip
noncomputable def L_spec_AreMinutes (N n : Nat) (key : Nat) (S : St) (K : Ks) : Option Ret := bif Nat.beq key 3 then withVals ks_spec_AreMinutes_l3 S (fun x => spec_AreMinutes_l3 N x.1 n (K (.x 0) (shape ko_spec_AreMinutes_l3_0 (x.1, ()))) (fun z0 => K .r (shape ko_spec_AreMinutes_l3_1 (z0, ()))) x.2.1 x.2.2.1) else none
theorem L0_spec_AreMinutes (N key : Nat) (S : St) (K : Ks) : L_spec_AreMinutes N 0 key S K = none := (bif0 (withVals0 fun _ => rfl) rfl)
noncomputable def c_spec_AreMinutes_0 : Code := (loopsIn body_spec_AreMinutes).getD 0 .skip
theorem ls_spec_AreMinutes : loopsIn body_spec_AreMinutes = [c_spec_AreMinutes_0] := by kernel_rfl
theorem rd_spec_AreMinutes_3 (N n : Nat) (x : Vals ks_spec_AreMinutes_l3) (K : Ks) : L_spec_AreMinutes N (n + 1) 3 (shape ks_spec_AreMinutes_l3 x) (h_spec_AreMinutes.onOut 3 K) = peRound h_spec_AreMinutes (Orc.of (es_spec_AreMinutes N)) (mixL (L_spec_AreMinutes N) N n 3) c_spec_AreMinutes_0 (shape ks_spec_AreMinutes_l3 x) (h_spec_AreMinutes.onOut 3 K) := by kernel_rfl
theorem fn_spec_AreMinutes (N : Nat) (x : AVals sg_spec_AreMinutes) (kf : Ret → Option Ret) : F_spec_AreMinutes N x kf = peFunc h_spec_AreMinutes (Orc.of (es_spec_AreMinutes N)) (L_spec_AreMinutes N N) Try.f69 (ashape sg_spec_AreMinutes x) kf := by kernel_rfl
theorem sd_spec_AreMinutes (N : Nat) : Sound Try.prog 69 (run_spec_AreMinutes N) := fun_ok2 (hh := h_spec_AreMinutes) mixed tab_ok (es := es_spec_AreMinutes N) ⟨sd_spec_l27Seal N, ⟨sd_spec_l1In N, trivial⟩⟩ (fn := Try.f69) (body := body_spec_AreMinutes) (by kernel_rfl) (by kernel_rfl) (by kernel_rfl) (by kernel_rfl) (by kernel_rfl) (Lf := L_spec_AreMinutes N) (L0_spec_AreMinutes N) ls_spec_AreMinutes (round_cons (key := 3) (ks := ks_spec_AreMinutes_l3) (by kernel_rfl) (by kernel_rfl) (rd_spec_AreMinutes_3 N) trivial) (N := N) (by kernel_rfl) (fn_spec_AreMinutes N)
/-! impl_Mod -/
noncomputable def h_impl_Mod : Hint := { tab, hn := [], loops := [], outs := [], ords := [] }
noncomputable def sg_impl_Mod : List AK := [.v (.int .i64) .k, .v (.int .i64) .k]
noncomputable def F_impl_Mod (N : Nat) (x : AVals sg_impl_Mod) (kf : Ret → Option Ret) : Option Ret := impl_Mod N x.1 x.2.1 (fun r0 => kf ⟨[⟨(.int .i64), .k, r0⟩], []⟩)
noncomputable def run_impl_Mod (N : Nat) := runOf sg_impl_Mod (F_impl_Mod N)
noncomputable def es_impl_Mod (N : Nat) : List Entry := [⟨62, [.val, .val, .val], (run_impl_InRange N)⟩]
noncomputable def body_impl_Mod : Code := match Try.f87.body with | some c => c | none => .skip
noncomputable def L_impl_Mod (N n : Nat) (key : Nat) (S : St) (K : Ks) : Option Ret := none
theorem L0_impl_Mod (N key : Nat) (S : St) (K : Ks) : L_impl_Mod N 0 key S K = none := rfl
theorem ls_impl_Mod : loopsIn body_impl_Mod = [] := by kernel_rfl
theorem fn_impl_Mod (N : Nat) (x : AVals sg_impl_Mod) (kf : Ret → Option Ret) : F_impl_Mod N x kf = peFunc h_impl_Mod (Orc.of (es_impl_Mod N)) (L_impl_Mod N N) Try.f87 (ashape sg_impl_Mod x) kf := by kernel_rfl
theorem sd_impl_Mod (N : Nat) : Sound Try.prog 87 (run_impl_Mod N) := fun_ok2 (hh := h_impl_Mod) mixed tab_ok (es := es_impl_Mod N) ⟨sd_impl_InRange N, trivial⟩ (fn := Try.f87) (body := body_impl_Mod) (by kernel_rfl) (by kernel_rfl) (by kernel_rfl) (by kernel_rfl) (by kernel_rfl) (Lf := L_impl_Mod N) (L0_impl_Mod N) ls_impl_Mod trivial (N := N) (by kernel_rfl) (fn_impl_Mod N)
/-! impl_fold -/
noncomputable def h_impl_fold : Hint := { tab, hn := [], loops := [], outs := [], ords := [] }
noncomputable def sg_impl_fold : List AK := [.v (.int .i64) .k, .v (.int .i64) .k]
noncomputable def F_impl_fold (N : Nat) (x : AVals sg_impl_fold) (kf : Ret → Option Ret) : Option Ret := impl_fold N x.1 x.2.1 (fun r0 => kf ⟨[⟨(.int .i64), .k, r0⟩], []⟩)
noncomputable def run_impl_fold (N : Nat) := runOf sg_impl_fold (F_impl_fold N)
noncomputable def es_impl_fold (N : Nat) : List Entry := [⟨87, [.val, .val], (run_impl_Mod N)⟩]
noncomputable def body_impl_fold : Code := match Try.f86.body with | some c => c | none => .skip
noncomputable def L_impl_fold (N n : Nat) (key : Nat) (S : St) (K : Ks) : Option Ret := none
theorem L0_impl_fold (N key : Nat) (S : St) (K : Ks) : L_impl_fold N 0 key S K = none := rfl
theorem ls_impl_fold : loopsIn body_impl_fold = [] := by kernel_rfl
theorem fn_impl_fold (N : Nat) (x : AVals sg_impl_fold) (kf : Ret → Option Ret) : F_impl_fold N x kf = peFunc h_impl_fold (Orc.of (es_impl_fold N)) (L_impl_fold N N) Try.f86 (ashape sg_impl_fold x) kf := by kernel_rfl
theorem sd_impl_fold (N : Nat) : Sound Try.prog 86 (run_impl_fold N) := fun_ok2 (hh := h_impl_fold) mixed tab_ok (es := es_impl_fold N) ⟨sd_impl_Mod N, trivial⟩ (fn := Try.f86) (body := body_impl_fold) (by kernel_rfl) (by kernel_rfl) (by kernel_rfl) (by kernel_rfl) (by kernel_rfl) (Lf := L_impl_fold N) (L0_impl_fold N) ls_impl_fold trivial (N := N) (by kernel_rfl) (fn_impl_fold N)
/-! impl_Hash -/
noncomputable def ks_impl_Hash_l3 : List Kd := [dK, dK, dK, .v (.int .i64) .k, dK, dK, .v (.sl (.int .i64)) .k, .v (.int .i64) .k, .v (.int .i64) .k, dK, dK, dK, dK, dK, dK, dK, dK]
noncomputable def ko_impl_Hash_l3_0 : List Kd := [dK, dK, dK, .v (.int .i64) .k, dK, dK, dK, dK, dK, dK, dK, dK, dK, dK, dK, dK, dK]
noncomputable def h_impl_Hash : Hint := { tab, hn := [], loops := [(3, ks_impl_Hash_l3)], outs := [(3, 2, ko_impl_Hash_l3_0)], ords := [] }
noncomputable def sg_impl_Hash : List AK := [.v (.sl (.int .i64)) .k]
noncomputable def F_impl_Hash (N : Nat) (x : AVals sg_impl_Hash) (kf : Ret → Option Ret) : Option Ret := impl_Hash N x.1 (fun r0 => kf ⟨[⟨(.int .i64), .k, r0⟩], []⟩)
noncomputable def run_impl_Hash (N : Nat) := runOf sg_impl_Hash (F_impl_Hash N)
noncomputable def es_impl_Hash (N : Nat) : List Entry := [⟨86, [.val, .val], (run_impl_fold N)⟩]
noncomputable def body_impl_Hash : Code := match Try.f82.body with | some c => c | none => .skip
noncomputable def L_impl_Hash (N n : Nat) (key : Nat) (S : St) (K : Ks) : Option Ret := bif Nat.beq key 3 then withVals ks_impl_Hash_l3 S (fun x => impl_Hash_l3 N x.2.1 x.2.2.1 n (fun z0 => K (.x 0) (shape ko_impl_Hash_l3_0 (z0, ()))) x.1 x.2.2.2.1) else none
theorem L0_impl_Hash (N key : Nat) (S : St) (K : Ks) : L_impl_Hash N 0 key S K = none := (bif0 (withVals0 fun _ => rfl) rfl)
noncomputable def c_impl_Hash_0 : Code := (loopsIn body_impl_Hash).getD 0 .skip
theorem ls_impl_Hash : loopsIn body_impl_Hash = [c_impl_Hash_0] := by kernel_rfl
theorem rd_impl_Hash_3 (N n : Nat) (x : Vals ks_impl_Hash_l3) (K : Ks) : L_impl_Hash N (n + 1) 3 (shape ks_impl_Hash_l3 x) (h_impl_Hash.onOut 3 K) = peRound h_impl_Hash (Orc.of (es_impl_Hash N)) (mixL (L_impl_Hash N) N n 3) c_impl_Hash_0 (shape ks_impl_Hash_l3 x) (h_impl_Hash.onOut 3 K) := by kernel_rfl
theorem fn_impl_Hash (N : Nat) (x : AVals sg_impl_Hash) (kf : Ret → Option Ret) : F_impl_Hash N x kf = peFunc h_impl_Hash (Orc.of (es_impl_Hash N)) (L_impl_Hash N N) Try.f82 (ashape sg_impl_Hash x) kf := by kernel_rfl
theorem sd_impl_Hash (N : Nat) : Sound Try.prog 82 (run_impl_Hash N) := fun_ok2 (hh := h_impl_Hash) mixed tab_ok (es := es_impl_Hash N) ⟨sd_impl_fold N, trivial⟩ (fn := Try.f82) (body := body_impl_Hash) (by kernel_rfl) (by kernel_rfl) (by kernel_rfl) (by kernel_rfl) (by kernel_rfl) (Lf := L_impl_Hash N) (L0_impl_Hash N) ls_impl_Hash (round_cons (key := 3) (ks := ks_impl_Hash_l3) (by kernel_rfl) (by kernel_rfl) (rd_impl_Hash_3 N) trivial) (N := N) (by kernel_rfl) (fn_impl_Hash N)
/-! impl_lineSeal -/
noncomputable def h_impl_lineSeal : Hint := { tab, hn := [], loops := [], outs := [], ords := [] }
noncomputable def sg_impl_lineSeal : List AK := [.v (.int .i64) .k, .v tQIIIIE .k]
noncomputable def F_impl_lineSeal (N : Nat) (x : AVals sg_impl_lineSeal) (kf : Ret → Option Ret) : Option Ret := impl_lineSeal N x.1 x.2.1 (fun r0 => kf ⟨[⟨(.int .i64), .k, r0⟩], []⟩)
noncomputable def run_impl_lineSeal (N : Nat) := runOf sg_impl_lineSeal (F_impl_lineSeal N)
noncomputable def es_impl_lineSeal (N : Nat) : List Entry := [⟨82, [.val], (run_impl_Hash N)⟩]
noncomputable def body_impl_lineSeal : Code := match Try.f76.body with | some c => c | none => .skip
noncomputable def L_impl_lineSeal (N n : Nat) (key : Nat) (S : St) (K : Ks) : Option Ret := none
theorem L0_impl_lineSeal (N key : Nat) (S : St) (K : Ks) : L_impl_lineSeal N 0 key S K = none := rfl
theorem ls_impl_lineSeal : loopsIn body_impl_lineSeal = [] := by kernel_rfl
theorem fn_impl_lineSeal (N : Nat) (x : AVals sg_impl_lineSeal) (kf : Ret → Option Ret) : F_impl_lineSeal N x kf = peFunc h_impl_lineSeal (Orc.of (es_impl_lineSeal N)) (L_impl_lineSeal N N) Try.f76 (ashape sg_impl_lineSeal x) kf := by kernel_rfl
theorem sd_impl_lineSeal (N : Nat) : Sound Try.prog 76 (run_impl_lineSeal N) := fun_ok2 (hh := h_impl_lineSeal) mixed tab_ok (es := es_impl_lineSeal N) ⟨sd_impl_Hash N, trivial⟩ (fn := Try.f76) (body := body_impl_lineSeal) (by kernel_rfl) (by kernel_rfl) (by kernel_rfl) (by kernel_rfl) (by kernel_rfl) (Lf := L_impl_lineSeal N) (L0_impl_lineSeal N) ls_impl_lineSeal trivial (N := N) (by kernel_rfl) (fn_impl_lineSeal N)
/-! impl_AreMinutes -/
noncomputable def ks_impl_AreMinutes_l5 : List Kd := [dK, dK, dK, .v (.int .i64) .k, dK, dK, dK, dK, dK, .v (.sl tQIIIIE) .k, .v (.int .i64) .k, .v (.int .i64) .k, dK, dK, dK, dK, dK, dK, dK, dK, dK, dK, dK, dK, dK, dK, dK, dK, dK, dK, dK, dK, dK, dK, dK, dK, dK, dK, dK, dK, dK, dK, dK, dK]
noncomputable def ko_impl_AreMinutes_l5_0 : List Kd := [dK, dK, dK, dK, dK, dK, dK, dK, dK, dK, dK, dK, dK, dK, dK, dK, dK, dK, dK, dK, dK, dK, dK, dK, dK, dK, dK, dK, dK, dK, dK, dK, dK, dK, dK, dK, dK, dK, dK, dK, dK, dK, dK, dK]
noncomputable def ko_impl_AreMinutes_l5_1 : List Kd := [dK, dK, .v .bool .k, dK, dK, dK, dK, dK, dK, dK, dK, dK, dK, dK, dK, dK, dK, dK, dK, dK, dK, dK, dK, dK, dK, dK, dK, dK, dK, dK, dK, dK, dK, dK, dK, dK, dK, dK, dK, dK, dK, dK, dK, dK]
noncomputable def h_impl_AreMinutes : Hint := { tab, hn := [], loops := [(5, ks_impl_AreMinutes_l5)], outs := [(5, 2, ko_impl_AreMinutes_l5_0), (5, 1, ko_impl_AreMinutes_l5_1)], ords := [(7, [0, 1, 2, 3, 4, 5, 6, 7, 8, 9, 10, 11, 12, 13, 14, 15, 16, 17, 18, 19, 20, 21, 22, 23, 24])] }
noncomputable def sg_impl_AreMinutes : List AK := [.v (.sl tQIIIIE) .k]
noncomputable def F_impl_AreMinutes (N : Nat) (x : AVals sg_impl_AreMinutes) (kf : Ret → Option Ret) : Option Ret := impl_AreMinutes N x.1 (fun r0 => kf ⟨[⟨.bool, .k, r0⟩], []⟩)
noncomputable def run_impl_AreMinutes (N : Nat) := runOf sg_impl_AreMinutes (F_impl_AreMinutes N)
noncomputable def es_impl_AreMinutes (N : Nat) : List Entry := [⟨62, [.val, .val, .val], (run_impl_InRange N)⟩, ⟨76, [.val, .val], (run_impl_lineSeal N)⟩]
noncomputable def body_impl_AreMinutes : Code := match Try.f70.body with | some c => c | none => .skip
noncomputable def L_impl_AreMinutes (N n : Nat) (key : Nat) (S : St) (K : Ks) : Option Ret := bif Nat.beq key 5 then withVals ks_impl_AreMinutes_l5 S (fun x => impl_AreMinutes_l5 N x.2.1 x.2.2.1 n (K (.x 0) (shape ko_impl_AreMinutes_l5_0 ())) (fun z0 => K .r (shape ko_impl_AreMinutes_l5_1 (z0, ()))) x.1 x.2.2.2.1) else none
theorem L0_impl_AreMinutes (N key : Nat) (S : St) (K : Ks) : L_impl_AreMinutes N 0 key S K = none := (bif0 (withVals0 fun _ => rfl) rfl)
noncomputable def c_impl_AreMinutes_0 : Code := (loopsIn body_impl_AreMinutes).getD 0 .skip
theorem ls_impl_AreMinutes : loopsIn body_impl_AreMinutes = [c_impl_AreMinutes_0] := by kernel_rfl
theorem rd_impl_AreMinutes_5 (N n : Nat) (x : Vals ks_impl_AreMinutes_l5) (K : Ks) : L_impl_AreMinutes N (n + 1) 5 (shape ks_impl_AreMinutes_l5 x) (h_impl_AreMinutes.onOut 5 K) = peRound h_impl_AreMinutes (Orc.of (es_impl_AreMinutes N)) (mixL (L_impl_AreMinutes N) N n 5) c_impl_AreMinutes_0 (shape ks_impl_AreMinutes_l5 x) (h_impl_AreMinutes.onOut 5 K) := by kernel_rfl
theorem fn_impl_AreMinutes (N : Nat) (x : AVals sg_impl_AreMinutes) (kf : Ret → Option Ret) : F_impl_AreMinutes N x kf = peFunc h_impl_AreMinutes (Orc.of (es_impl_AreMinutes N)) (L_impl_AreMinutes N N) Try.f70 (ashape sg_impl_AreMinutes x) kf := by kernel_rfl
theorem sd_impl_AreMinutes (N : Nat) : Sound Try.prog 70 (run_impl_AreMinutes N) := fun_ok2 (hh := h_impl_AreMinutes) mixed tab_ok (es := es_impl_AreMinutes N) ⟨sd_impl_InRange N, ⟨sd_impl_lineSeal N, trivial⟩⟩ (fn := Try.f70) (body := body_impl_AreMinutes) (by kernel_rfl) (by kernel_rfl) (by kernel_rfl) (by kernel_rfl) (by kernel_rfl) (Lf := L_impl_AreMinutes N) (L0_impl_AreMinutes N) ls_impl_AreMinutes (round_cons (key := 5) (ks := ks_impl_AreMinutes_l5) (by kernel_rfl) (by kernel_rfl) (rd_impl_AreMinutes_5 N) trivial) (N := N) (by kernel_rfl) (fn_impl_AreMinutes N)
/-! spec_RoundsIn -/
noncomputable def h_spec_RoundsIn : Hint := { tab, hn := [], loops := [], outs := [], ords := [] }
noncomputable def sg_spec_RoundsIn : List AK := [.v (.sl tQIIIIE) .k]
noncomputable def F_spec_RoundsIn (N : Nat) (x : AVals sg_spec_RoundsIn) (kf : Ret → Option Ret) : Option Ret := spec_RoundsIn N x.1 (fun r0 => kf ⟨[⟨(.int .i64), .k, r0⟩], []⟩)
noncomputable def run_spec_RoundsIn (N : Nat) := runOf sg_spec_RoundsIn (F_spec_RoundsIn N)
noncomputable def es_spec_RoundsIn (N : Nat) : List Entry := [⟨69, [.val], (run_spec_AreMinutes N)⟩, ⟨22, [.val, .val], (run_spec_CountWhat N)⟩]
noncomputable def body_spec_RoundsIn : Code := match Try.f47.body with | some c => c | none => .skip
noncomputable def L_spec_RoundsIn (N n : Nat) (key : Nat) (S : St) (K : Ks) : Option Ret := none
theorem L0_spec_RoundsIn (N key : Nat) (S : St) (K : Ks) : L_spec_RoundsIn N 0 key S K = none := rfl
theorem ls_spec_RoundsIn : loopsIn body_spec_RoundsIn = [] := by kernel_rfl
theorem fn_spec_RoundsIn (N : Nat) (x : AVals sg_spec_RoundsIn) (kf : Ret → Option Ret) : F_spec_RoundsIn N x kf = peFunc h_spec_RoundsIn (Orc.of (es_spec_RoundsIn N)) (L_spec_RoundsIn N N) Try.f47 (ashape sg_spec_RoundsIn x) kf := by kernel_rfl
theorem sd_spec_RoundsIn (N : Nat) : Sound Try.prog 47 (run_spec_RoundsIn N) := fun_ok2 (hh := h_spec_RoundsIn) mixed tab_ok (es := es_spec_RoundsIn N) ⟨sd_spec_AreMinutes N, ⟨sd_spec_CountWhat N, trivial⟩⟩ (fn := Try.f47) (body := body_spec_RoundsIn) (by kernel_rfl) (by kernel_rfl) (by kernel_rfl) (by kernel_rfl) (by kernel_rfl) (Lf := L_spec_RoundsIn N) (L0_spec_RoundsIn N) ls_spec_RoundsIn trivial (N := N) (by kernel_rfl) (fn_spec_RoundsIn N)
/-! impl_RoundsIn -/
noncomputable def h_impl_RoundsIn : Hint := { tab, hn := [], loops := [], outs := [], ords := [] }
noncomputable def sg_impl_RoundsIn : List AK := [.v (.sl tQIIIIE) .k]
noncomputable def F_impl_RoundsIn (N : Nat) (x : AVals sg_impl_RoundsIn) (kf : Ret → Option Ret) : Option Ret := impl_RoundsIn N x.1 (fun r0 => kf ⟨[⟨(.int .i64), .k, r0⟩], []⟩)
noncomputable def run_impl_RoundsIn (N : Nat) := runOf sg_impl_RoundsIn (F_impl_RoundsIn N)
noncomputable def es_impl_RoundsIn (N : Nat) : List Entry := [⟨70, [.val], (run_impl_AreMinutes N)⟩, ⟨24, [.val, .val], (run_impl_CountWhat N)⟩]
noncomputable def body_impl_RoundsIn : Code := match Try.f48.body with | some c => c | none => .skip
noncomputable def L_impl_RoundsIn (N n : Nat) (key : Nat) (S : St) (K : Ks) : Option Ret := none
theorem L0_impl_RoundsIn (N key : Nat) (S : St) (K : Ks) : L_impl_RoundsIn N 0 key S K = none := rfl
theorem ls_impl_RoundsIn : loopsIn body_impl_RoundsIn = [] := by kernel_rfl
theorem fn_impl_RoundsIn (N : Nat) (x : AVals sg_impl_RoundsIn) (kf : Ret → Option Ret) : F_impl_RoundsIn N x kf = peFunc h_impl_RoundsIn (Orc.of (es_impl_RoundsIn N)) (L_impl_RoundsIn N N) Try.f48 (ashape sg_impl_RoundsIn x) kf := by kernel_rfl
theorem sd_impl_RoundsIn (N : Nat) : Sound Try.prog 48 (run_impl_RoundsIn N) := fun_ok2 (hh := h_impl_RoundsIn) mixed tab_ok (es := es_impl_RoundsIn N) ⟨sd_impl_AreMinutes N, ⟨sd_impl_CountWhat N, trivial⟩⟩ (fn := Try.f48) (body := body_impl_RoundsIn) (by kernel_rfl) (by kernel_rfl) (by kernel_rfl) (by kernel_rfl) (by kernel_rfl) (Lf := L_impl_RoundsIn N) (L0_impl_RoundsIn N) ls_impl_RoundsIn trivial (N := N) (by kernel_rfl) (fn_impl_RoundsIn N)
/-! laws_FnExactRoundsIn -/
noncomputable def h_laws_FnExactRoundsIn : Hint := { tab, hn := [], loops := [], outs := [], ords := [] }
noncomputable def sg_laws_FnExactRoundsIn : List AK := [.v (.sl tQIIIIE) .k]
noncomputable def F_laws_FnExactRoundsIn (N : Nat) (x : AVals sg_laws_FnExactRoundsIn) (kf : Ret → Option Ret) : Option Ret := laws_FnExactRoundsIn N x.1 (fun r0 => kf ⟨[⟨.bool, .k, r0⟩], []⟩)
noncomputable def run_laws_FnExactRoundsIn (N : Nat) := runOf sg_laws_FnExactRoundsIn (F_laws_FnExactRoundsIn N)
noncomputable def es_laws_FnExactRoundsIn (N : Nat) : List Entry := [⟨21, [.val, .val], (run_laws_szLineS N)⟩, ⟨23, [.val], (run_laws_toLineS N)⟩, ⟨47, [.val], (run_spec_RoundsIn N)⟩, ⟨48, [.val], (run_impl_RoundsIn N)⟩, ⟨25, [.val, .val], (run_laws_eqLineS N)⟩]
noncomputable def body_laws_FnExactRoundsIn : Code := match Try.f12.body with | some c => c | none => .skip
noncomputable def L_laws_FnExactRoundsIn (N n : Nat) (key : Nat) (S : St) (K : Ks) : Option Ret := none
theorem L0_laws_FnExactRoundsIn (N key : Nat) (S : St) (K : Ks) : L_laws_FnExactRoundsIn N 0 key S K = none := rfl
theorem ls_laws_FnExactRoundsIn : loopsIn body_laws_FnExactRoundsIn = [] := by kernel_rfl
theorem fn_laws_FnExactRoundsIn (N : Nat) (x : AVals sg_laws_FnExactRoundsIn) (kf : Ret → Option Ret) : F_laws_FnExactRoundsIn N x kf = peFunc h_laws_FnExactRoundsIn (Orc.of (es_laws_FnExactRoundsIn N)) (L_laws_FnExactRoundsIn N N) Try.f12 (ashape sg_laws_FnExactRoundsIn x) kf := by kernel_rfl
theorem sd_laws_FnExactRoundsIn (N : Nat) : Sound Try.prog 12 (run_laws_FnExactRoundsIn N) := fun_ok2 (hh := h_laws_FnExactRoundsIn) mixed tab_ok (es := es_laws_FnExactRoundsIn N) ⟨sd_laws_szLineS N, ⟨sd_laws_toLineS N, ⟨sd_spec_RoundsIn N, ⟨sd_impl_RoundsIn N, ⟨sd_laws_eqLineS N, trivial⟩⟩⟩⟩⟩ (fn := Try.f12) (body := body_laws_FnExactRoundsIn) (by kernel_rfl) (by kernel_rfl) (by kernel_rfl) (by kernel_rfl) (by kernel_rfl) (Lf := L_laws_FnExactRoundsIn N) (L0_laws_FnExactRoundsIn N) ls_laws_FnExactRoundsIn trivial (N := N) (by kernel_rfl) (fn_laws_FnExactRoundsIn N)
end Go.Pv.R
