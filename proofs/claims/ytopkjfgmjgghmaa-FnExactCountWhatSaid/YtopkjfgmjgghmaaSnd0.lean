/- Each function of the program that the law reaches computes its plain function, part 0. -/
import Derived.Test.YtopkjfgmjgghmaaRes
import Derived.Test.YtopkjfgmjgghmaaProg
namespace Go.Pv.R
open Go.Proofs
set_option linter.unusedVariables false
set_option maxRecDepth 100000
noncomputable abbrev dK : Kd := .dead
noncomputable def tab : Tab := [⟨2, (.int .i64), 0, []⟩, ⟨3, (.int .i64), 0, []⟩, ⟨4, .bool, 0, []⟩, ⟨5, (.int .u8), 0, []⟩, ⟨9, .str, 0, []⟩, ⟨12, (.int .u64), 0, []⟩, ⟨21, (.int .i32), 0, []⟩, ⟨24, (.sl tQIIIIE), 77, []⟩, ⟨27, (.sl tQIIIIE), 75, []⟩, ⟨31, (.sl tQIIIIE), 82, []⟩, ⟨34, (.sl tQIIIIE), 80, []⟩, ⟨38, (.sl (.int .i64)), 3, []⟩, ⟨39, tQIIIIILIE, 0, [3, 3, 3, 3, 3, 38]⟩, ⟨40, tQIIIIILIE, 0, [3, 3, 3, 3, 3, 38]⟩, ⟨43, tQIIIIILIE, 0, [3, 3, 3, 3, 3, 38]⟩, ⟨47, (.sl (.sl (.int .i64))), 38, []⟩, ⟨48, tQILLIE, 0, [3, 47]⟩, ⟨49, tQILLIE, 0, [3, 47]⟩, ⟨54, (.sl tQIILIE), 91, []⟩, ⟨57, (.sl tQIILIE), 92, []⟩, ⟨64, (.sl tQIIIIILIE), 40, []⟩, ⟨67, (.sl tQIIIIILIE), 43, []⟩, ⟨72, (.sl .str), 9, []⟩, ⟨74, tQIIIIE, 0, [3, 3, 3, 3]⟩, ⟨75, tQIIIIE, 0, [3, 3, 3, 3]⟩, ⟨77, tQIIIIE, 0, [3, 3, 3, 3]⟩, ⟨79, tQIIIIE, 0, [3, 3, 3, 3]⟩, ⟨80, tQIIIIE, 0, [3, 3, 3, 3]⟩, ⟨82, tQIIIIE, 0, [3, 3, 3, 3]⟩, ⟨90, tQIILIE, 0, [3, 3, 38]⟩, ⟨91, tQIILIE, 0, [3, 3, 38]⟩, ⟨92, tQIILIE, 0, [3, 3, 38]⟩, ⟨108, (.int .u32), 0, []⟩]
theorem mixed : Try.prog.follows .mixedOrders = true := by kernel_rfl
theorem tab_ok : tabB Try.prog tab = true := by kernel_rfl
/-! laws_szLineS -/
noncomputable def h_laws_szLineS : Hint := { tab, hn := [], loops := [], outs := [], ords := [] }
noncomputable def sg_laws_szLineS : List AK := [.v (.sl tQIIIIE) .k, .v (.int .i64) .k]
noncomputable def F_laws_szLineS (N : Nat) (x : AVals sg_laws_szLineS) (kf : Ret → Option Ret) : Option Ret := laws_szLineS N x.1 x.2.1 (fun r0 => kf ⟨[⟨(.int .i64), .k, r0⟩], []⟩)
noncomputable def run_laws_szLineS (N : Nat) := runOf sg_laws_szLineS (F_laws_szLineS N)
noncomputable def es_laws_szLineS (N : Nat) : List Entry := []
noncomputable def body_laws_szLineS : Code := match Try.f21.body with | some c => c | none => .skip
noncomputable def L_laws_szLineS (N n : Nat) (key : Nat) (S : St) (K : Ks) : Option Ret := none
theorem L0_laws_szLineS (N key : Nat) (S : St) (K : Ks) : L_laws_szLineS N 0 key S K = none := rfl
theorem ls_laws_szLineS : loopsIn body_laws_szLineS = [] := by kernel_rfl
theorem fn_laws_szLineS (N : Nat) (x : AVals sg_laws_szLineS) (kf : Ret → Option Ret) : F_laws_szLineS N x kf = peFunc h_laws_szLineS (Orc.of (es_laws_szLineS N)) (L_laws_szLineS N N) Try.f21 (ashape sg_laws_szLineS x) kf := by kernel_rfl
theorem sd_laws_szLineS (N : Nat) : Sound Try.prog 21 (run_laws_szLineS N) := fun_ok2 (hh := h_laws_szLineS) mixed tab_ok (es := es_laws_szLineS N) trivial (fn := Try.f21) (body := body_laws_szLineS) (by kernel_rfl) (by kernel_rfl) (by kernel_rfl) (by kernel_rfl) (by kernel_rfl) (Lf := L_laws_szLineS N) (L0_laws_szLineS N) ls_laws_szLineS trivial (N := N) (by kernel_rfl) (fn_laws_szLineS N)
/-! laws_toLine -/
noncomputable def h_laws_toLine : Hint := { tab, hn := [], loops := [], outs := [], ords := [] }
noncomputable def sg_laws_toLine : List AK := [.v tQIIIIE .k]
noncomputable def F_laws_toLine (N : Nat) (x : AVals sg_laws_toLine) (kf : Ret → Option Ret) : Option Ret := laws_toLine N x.1 (fun r0 => kf ⟨[⟨tQIIIIE, .k, r0⟩], []⟩)
noncomputable def run_laws_toLine (N : Nat) := runOf sg_laws_toLine (F_laws_toLine N)
noncomputable def es_laws_toLine (N : Nat) : List Entry := []
noncomputable def body_laws_toLine : Code := match Try.f57.body with | some c => c | none => .skip
noncomputable def L_laws_toLine (N n : Nat) (key : Nat) (S : St) (K : Ks) : Option Ret := none
theorem L0_laws_toLine (N key : Nat) (S : St) (K : Ks) : L_laws_toLine N 0 key S K = none := rfl
theorem ls_laws_toLine : loopsIn body_laws_toLine = [] := by kernel_rfl
theorem fn_laws_toLine (N : Nat) (x : AVals sg_laws_toLine) (kf : Ret → Option Ret) : F_laws_toLine N x kf = peFunc h_laws_toLine (Orc.of (es_laws_toLine N)) (L_laws_toLine N N) Try.f57 (ashape sg_laws_toLine x) kf := by kernel_rfl
theorem sd_laws_toLine (N : Nat) : Sound Try.prog 57 (run_laws_toLine N) := fun_ok2 (hh := h_laws_toLine) mixed tab_ok (es := es_laws_toLine N) trivial (fn := Try.f57) (body := body_laws_toLine) (by kernel_rfl) (by kernel_rfl) (by kernel_rfl) (by kernel_rfl) (by kernel_rfl) (Lf := L_laws_toLine N) (L0_laws_toLine N) ls_laws_toLine trivial (N := N) (by kernel_rfl) (fn_laws_toLine N)
/-! laws_toLineS -/
noncomputable def ks_laws_toLineS_l3 : List Kd := [.v (.sl tQIIIIE) .k, dK, dK, .v (.sl tQIIIIE) (.o 80 none .k), .v (.int .i64) .k, dK, dK, dK, dK, dK, dK, dK, dK, dK, dK, dK, dK, dK, dK, dK, dK, dK, dK]
noncomputable def ko_laws_toLineS_l3_0 : List Kd := [dK, dK, dK, .v (.sl tQIIIIE) (.o 80 none .k), dK, dK, dK, dK, dK, dK, dK, dK, dK, dK, dK, dK, dK, dK, dK, dK, dK, dK, dK]
noncomputable def h_laws_toLineS : Hint := { tab, hn := [], loops := [(3, ks_laws_toLineS_l3)], outs := [(3, 2, ko_laws_toLineS_l3_0)], ords := [] }
noncomputable def sg_laws_toLineS : List AK := [.v (.sl tQIIIIE) .k]
noncomputable def F_laws_toLineS (N : Nat) (x : AVals sg_laws_toLineS) (kf : Ret → Option Ret) : Option Ret := laws_toLineS N x.1 (fun r0 => kf ⟨[⟨(.sl tQIIIIE), (.o 80 none .k), r0⟩], []⟩)
noncomputable def run_laws_toLineS (N : Nat) := runOf sg_laws_toLineS (F_laws_toLineS N)
noncomputable def es_laws_toLineS (N : Nat) : List Entry := [⟨57, [.val], (run_laws_toLine N)⟩]
noncomputable def body_laws_toLineS : Code := match Try.f23.body with | some c => c | none => .skip
noncomputable def L_laws_toLineS (N n : Nat) (key : Nat) (S : St) (K : Ks) : Option Ret := bif Nat.beq key 3 then withVals ks_laws_toLineS_l3 S (fun x => laws_toLineS_l3 N x.1 n (fun z0 => K (.x 0) (shape ko_laws_toLineS_l3_0 (z0, ()))) x.2.1 x.2.2.1) else none
theorem L0_laws_toLineS (N key : Nat) (S : St) (K : Ks) : L_laws_toLineS N 0 key S K = none := (bif0 (withVals0 fun _ => rfl) rfl)
noncomputable def c_laws_toLineS_0 : Code := (loopsIn body_laws_toLineS).getD 0 .skip
theorem ls_laws_toLineS : loopsIn body_laws_toLineS = [c_laws_toLineS_0] := by kernel_rfl
theorem rd_laws_toLineS_3 (N n : Nat) (x : Vals ks_laws_toLineS_l3) (K : Ks) : L_laws_toLineS N (n + 1) 3 (shape ks_laws_toLineS_l3 x) (h_laws_toLineS.onOut 3 K) = peRound h_laws_toLineS (Orc.of (es_laws_toLineS N)) (mixL (L_laws_toLineS N) N n 3) c_laws_toLineS_0 (shape ks_laws_toLineS_l3 x) (h_laws_toLineS.onOut 3 K) := by kernel_rfl
theorem fn_laws_toLineS (N : Nat) (x : AVals sg_laws_toLineS) (kf : Ret → Option Ret) : F_laws_toLineS N x kf = peFunc h_laws_toLineS (Orc.of (es_laws_toLineS N)) (L_laws_toLineS N N) Try.f23 (ashape sg_laws_toLineS x) kf := by kernel_rfl
theorem sd_laws_toLineS (N : Nat) : Sound Try.prog 23 (run_laws_toLineS N) := fun_ok2 (hh := h_laws_toLineS) mixed tab_ok (es := es_laws_toLineS N) ⟨sd_laws_toLine N, trivial⟩ (fn := Try.f23) (body := body_laws_toLineS) (by kernel_rfl) (by kernel_rfl) (by kernel_rfl) (by kernel_rfl) (by kernel_rfl) (Lf := L_laws_toLineS N) (L0_laws_toLineS N) ls_laws_toLineS (round_cons (key := 3) (ks := ks_laws_toLineS_l3) (by kernel_rfl) (by kernel_rfl) (rd_laws_toLineS_3 N) trivial) (N := N) (by kernel_rfl) (fn_laws_toLineS N)
/-! spec_CountWhat -/
noncomputable def ks_spec_CountWhat_l3 : List Kd := [.v (.sl tQIIIIE) .k, .v (.int .i64) .k, dK, dK, dK, .v (.int .i64) .k, .v (.int .i64) .k, dK, dK, dK, dK, dK, dK, dK, dK, dK, dK, dK, dK, dK, dK, dK, dK]
noncomputable def ko_spec_CountWhat_l3_0 : List Kd := [dK, dK, dK, dK, dK, .v (.int .i64) .k, dK, dK, dK, dK, dK, dK, dK, dK, dK, dK, dK, dK, dK, dK, dK, dK, dK]
noncomputable def h_spec_CountWhat : Hint := { tab, hn := [], loops := [(3, ks_spec_CountWhat_l3)], outs := [(3, 2, ko_spec_CountWhat_l3_0)], ords := [] }
noncomputable def sg_spec_CountWhat : List AK := [.v (.sl tQIIIIE) .k, .v (.int .i64) .k]
noncomputable def F_spec_CountWhat (N : Nat) (x : AVals sg_spec_CountWhat) (kf : Ret → Option Ret) : Option Ret := spec_CountWhat N x.1 x.2.1 (fun r0 => kf ⟨[⟨(.int .i64), .k, r0⟩], []⟩)
noncomputable def run_spec_CountWhat (N : Nat) := runOf sg_spec_CountWhat (F_spec_CountWhat N)
noncomputable def es_spec_CountWhat (N : Nat) : List Entry := []
noncomputable def body_spec_CountWhat : Code := match Try.f22.body with | some c => c | none => .skip
noncomputable def L_spec_CountWhat (N n : Nat) (key : Nat) (S : St) (K : Ks) : Option Ret := bif Nat.beq key 3 then withVals ks_spec_CountWhat_l3 S (fun x => spec_CountWhat_l3 x.1 x.2.1 n (fun z0 => K (.x 0) (shape ko_spec_CountWhat_l3_0 (z0, ()))) x.2.2.1 x.2.2.2.1) else none
theorem L0_spec_CountWhat (N key : Nat) (S : St) (K : Ks) : L_spec_CountWhat N 0 key S K = none := (bif0 (withVals0 fun _ => rfl) rfl)
noncomputable def c_spec_CountWhat_0 : Code := (loopsIn body_spec_CountWhat).getD 0 .skip
theorem ls_spec_CountWhat : loopsIn body_spec_CountWhat = [c_spec_CountWhat_0] := by kernel_rfl
theorem rd_spec_CountWhat_3 (N n : Nat) (x : Vals ks_spec_CountWhat_l3) (K : Ks) : L_spec_CountWhat N (n + 1) 3 (shape ks_spec_CountWhat_l3 x) (h_spec_CountWhat.onOut 3 K) = peRound h_spec_CountWhat (Orc.of (es_spec_CountWhat N)) (mixL (L_spec_CountWhat N) N n 3) c_spec_CountWhat_0 (shape ks_spec_CountWhat_l3 x) (h_spec_CountWhat.onOut 3 K) := by kernel_rfl
theorem fn_spec_CountWhat (N : Nat) (x : AVals sg_spec_CountWhat) (kf : Ret → Option Ret) : F_spec_CountWhat N x kf = peFunc h_spec_CountWhat (Orc.of (es_spec_CountWhat N)) (L_spec_CountWhat N N) Try.f22 (ashape sg_spec_CountWhat x) kf := by kernel_rfl
theorem sd_spec_CountWhat (N : Nat) : Sound Try.prog 22 (run_spec_CountWhat N) := fun_ok2 (hh := h_spec_CountWhat) mixed tab_ok (es := es_spec_CountWhat N) trivial (fn := Try.f22) (body := body_spec_CountWhat) (by kernel_rfl) (by kernel_rfl) (by kernel_rfl) (by kernel_rfl) (by kernel_rfl) (Lf := L_spec_CountWhat N) (L0_spec_CountWhat N) ls_spec_CountWhat (round_cons (key := 3) (ks := ks_spec_CountWhat_l3) (by kernel_rfl) (by kernel_rfl) (rd_spec_CountWhat_3 N) trivial) (N := N) (by kernel_rfl) (fn_spec_CountWhat N)
/-! impl_CountWhat -/
noncomputable def ks_impl_CountWhat_l3 : List Kd := [dK, .v (.int .i64) .k, dK, dK, dK, .v (.int .i64) .k, dK, dK, .v (.sl tQIIIIE) .k, .v (.int .i64) .k, .v (.int .i64) .k, dK, dK, dK, dK, dK, dK, dK, dK, dK, dK, dK]
noncomputable def ko_impl_CountWhat_l3_0 : List Kd := [dK, dK, dK, dK, dK, .v (.int .i64) .k, dK, dK, dK, dK, dK, dK, dK, dK, dK, dK, dK, dK, dK, dK, dK, dK]
noncomputable def h_impl_CountWhat : Hint := { tab, hn := [], loops := [(3, ks_impl_CountWhat_l3)], outs := [(3, 2, ko_impl_CountWhat_l3_0)], ords := [] }
noncomputable def sg_impl_CountWhat : List AK := [.v (.sl tQIIIIE) .k, .v (.int .i64) .k]
noncomputable def F_impl_CountWhat (N : Nat) (x : AVals sg_impl_CountWhat) (kf : Ret → Option Ret) : Option Ret := impl_CountWhat N x.1 x.2.1 (fun r0 => kf ⟨[⟨(.int .i64), .k, r0⟩], []⟩)
noncomputable def run_impl_CountWhat (N : Nat) := runOf sg_impl_CountWhat (F_impl_CountWhat N)
noncomputable def es_impl_CountWhat (N : Nat) : List Entry := []
noncomputable def body_impl_CountWhat : Code := match Try.f24.body with | some c => c | none => .skip
noncomputable def L_impl_CountWhat (N n : Nat) (key : Nat) (S : St) (K : Ks) : Option Ret := bif Nat.beq key 3 then withVals ks_impl_CountWhat_l3 S (fun x => impl_CountWhat_l3 x.1 x.2.2.1 x.2.2.2.1 n (fun z0 => K (.x 0) (shape ko_impl_CountWhat_l3_0 (z0, ()))) x.2.1 x.2.2.2.2.1) else none
theorem L0_impl_CountWhat (N key : Nat) (S : St) (K : Ks) : L_impl_CountWhat N 0 key S K = none := (bif0 (withVals0 fun _ => rfl) rfl)
noncomputable def c_impl_CountWhat_0 : Code := (loopsIn body_impl_CountWhat).getD 0 .skip
theorem ls_impl_CountWhat : loopsIn body_impl_CountWhat = [c_impl_CountWhat_0] := by kernel_rfl
theorem rd_impl_CountWhat_3 (N n : Nat) (x : Vals ks_impl_CountWhat_l3) (K : Ks) : L_impl_CountWhat N (n + 1) 3 (shape ks_impl_CountWhat_l3 x) (h_impl_CountWhat.onOut 3 K) = peRound h_impl_CountWhat (Orc.of (es_impl_CountWhat N)) (mixL (L_impl_CountWhat N) N n 3) c_impl_CountWhat_0 (shape ks_impl_CountWhat_l3 x) (h_impl_CountWhat.onOut 3 K) := by kernel_rfl
theorem fn_impl_CountWhat (N : Nat) (x : AVals sg_impl_CountWhat) (kf : Ret → Option Ret) : F_impl_CountWhat N x kf = peFunc h_impl_CountWhat (Orc.of (es_impl_CountWhat N)) (L_impl_CountWhat N N) Try.f24 (ashape sg_impl_CountWhat x) kf := by kernel_rfl
theorem sd_impl_CountWhat (N : Nat) : Sound Try.prog 24 (run_impl_CountWhat N) := fun_ok2 (hh := h_impl_CountWhat) mixed tab_ok (es := es_impl_CountWhat N) trivial (fn := Try.f24) (body := body_impl_CountWhat) (by kernel_rfl) (by kernel_rfl) (by kernel_rfl) (by kernel_rfl) (by kernel_rfl) (Lf := L_impl_CountWhat N) (L0_impl_CountWhat N) ls_impl_CountWhat (round_cons (key := 3) (ks := ks_impl_CountWhat_l3) (by kernel_rfl) (by kernel_rfl) (rd_impl_CountWhat_3 N) trivial) (N := N) (by kernel_rfl) (fn_impl_CountWhat N)
/-! laws_eqLine -/
noncomputable def h_laws_eqLine : Hint := { tab, hn := [], loops := [], outs := [], ords := [] }
noncomputable def sg_laws_eqLine : List AK := [.v tQIIIIE .k, .v tQIIIIE .k]
noncomputable def F_laws_eqLine (N : Nat) (x : AVals sg_laws_eqLine) (kf : Ret → Option Ret) : Option Ret := laws_eqLine N x.1 x.2.1 (fun r0 => kf ⟨[⟨.bool, .k, r0⟩], []⟩)
noncomputable def run_laws_eqLine (N : Nat) := runOf sg_laws_eqLine (F_laws_eqLine N)
noncomputable def es_laws_eqLine (N : Nat) : List Entry := []
noncomputable def body_laws_eqLine : Code := match Try.f58.body with | some c => c | none => .skip
noncomputable def L_laws_eqLine (N n : Nat) (key : Nat) (S : St) (K : Ks) : Option Ret := none
theorem L0_laws_eqLine (N key : Nat) (S : St) (K : Ks) : L_laws_eqLine N 0 key S K = none := rfl
theorem ls_laws_eqLine : loopsIn body_laws_eqLine = [] := by kernel_rfl
theorem fn_laws_eqLine (N : Nat) (x : AVals sg_laws_eqLine) (kf : Ret → Option Ret) : F_laws_eqLine N x kf = peFunc h_laws_eqLine (Orc.of (es_laws_eqLine N)) (L_laws_eqLine N N) Try.f58 (ashape sg_laws_eqLine x) kf := by kernel_rfl
theorem sd_laws_eqLine (N : Nat) : Sound Try.prog 58 (run_laws_eqLine N) := fun_ok2 (hh := h_laws_eqLine) mixed tab_ok (es := es_laws_eqLine N) trivial (fn := Try.f58) (body := body_laws_eqLine) (by kernel_rfl) (by kernel_rfl) (by kernel_rfl) (by kernel_rfl) (by kernel_rfl) (Lf := L_laws_eqLine N) (L0_laws_eqLine N) ls_laws_eqLine trivial (N := N) (by kernel_rfl) (fn_laws_eqLine N)
/-! laws_eqLineS -/
noncomputable def ks_laws_eqLineS_l4 : List Kd := [.v (.sl tQIIIIE) .k, .v (.sl tQIIIIE) .k, dK, dK, dK, .v (.int .i64) .k, dK, dK, dK, dK, dK, dK, dK, dK, dK, dK, dK, dK, dK, dK, dK, dK, dK, dK, dK, dK, dK]
noncomputable def ko_laws_eqLineS_l4_0 : List Kd := [dK, dK, dK, dK, dK, dK, dK, dK, dK, dK, dK, dK, dK, dK, dK, dK, dK, dK, dK, dK, dK, dK, dK, dK, dK, dK, dK]
noncomputable def ko_laws_eqLineS_l4_1 : List Kd := [dK, dK, dK, dK, .v .bool .k, dK, dK, dK, dK, dK, dK, dK, dK, dK, dK, dK, dK, dK, dK, dK, dK, dK, dK, dK, dK, dK, dK]
noncomputable def h_laws_eqLineS : Hint := { tab, hn := [], loops := [(4, ks_laws_eqLineS_l4)], outs := [(4, 2, ko_laws_eqLineS_l4_0), (4, 1, ko_laws_eqLineS_l4_1)], ords := [(6, [0, 1, 2, 3, 4, 5, 6, 7, 8, 9])] }
noncomputable def sg_laws_eqLineS : List AK := [.v (.sl tQIIIIE) .k, .v (.sl tQIIIIE) .k]
noncomputable def F_laws_eqLineS (N : Nat) (x : AVals sg_laws_eqLineS) (kf : Ret → Option Ret) : Option Ret := laws_eqLineS N x.1 x.2.1 (fun r0 => kf ⟨[⟨.bool, .k, r0⟩], []⟩)
noncomputable def run_laws_eqLineS (N : Nat) := runOf sg_laws_eqLineS (F_laws_eqLineS N)
noncomputable def es_laws_eqLineS (N : Nat) : List Entry := [⟨58, [.val, .val], (run_laws_eqLine N)⟩]
noncomputable def body_laws_eqLineS : Code := match Try.f25.body with | some c => c | none => .skip
noncomputable def L_laws_eqLineS (N n : Nat) (key : Nat) (S : St) (K : Ks) : Option Ret := bif Nat.beq key 4 then withVals ks_laws_eqLineS_l4 S (fun x => laws_eqLineS_l4 N x.1 x.2.1 n (K (.x 0) (shape ko_laws_eqLineS_l4_0 ())) (fun z0 => K .r (shape ko_laws_eqLineS_l4_1 (z0, ()))) x.2.2.1) else none
theorem L0_laws_eqLineS (N key : Nat) (S : St) (K : Ks) : L_laws_eqLineS N 0 key S K = none := (bif0 (withVals0 fun _ => rfl) rfl)
noncomputable def c_laws_eqLineS_0 : Code := (loopsIn body_laws_eqLineS).getD 0 .skip
theorem ls_laws_eqLineS : loopsIn body_laws_eqLineS = [c_laws_eqLineS_0] := by kernel_rfl
theorem rd_laws_eqLineS_4 (N n : Nat) (x : Vals ks_laws_eqLineS_l4) (K : Ks) : L_laws_eqLineS N (n + 1) 4 (shape ks_laws_eqLineS_l4 x) (h_laws_eqLineS.onOut 4 K) = peRound h_laws_eqLineS (Orc.of (es_laws_eqLineS N)) (mixL (L_laws_eqLineS N) N n 4) c_laws_eqLineS_0 (shape ks_laws_eqLineS_l4 x) (h_laws_eqLineS.onOut 4 K) := by kernel_rfl
theorem fn_laws_eqLineS (N : Nat) (x : AVals sg_laws_eqLineS) (kf : Ret → Option Ret) : F_laws_eqLineS N x kf = peFunc h_laws_eqLineS (Orc.of (es_laws_eqLineS N)) (L_laws_eqLineS N N) Try.f25 (ashape sg_laws_eqLineS x) kf := by kernel_rfl
theorem sd_laws_eqLineS (N : Nat) : Sound Try.prog 25 (run_laws_eqLineS N) := fun_ok2 (hh := h_laws_eqLineS) mixed tab_ok (es := es_laws_eqLineS N) ⟨sd_laws_eqLine N, trivial⟩ (fn := Try.f25) (body := body_laws_eqLineS) (by kernel_rfl) (by kernel_rfl) (by kernel_rfl) (by kernel_rfl) (by kernel_rfl) (Lf := L_laws_eqLineS N) (L0_laws_eqLineS N) ls_laws_eqLineS (round_cons (key := 4) (ks := ks_laws_eqLineS_l4) (by kernel_rfl) (by kernel_rfl) (rd_laws_eqLineS_4 N) trivial) (N := N) (by kernel_rfl) (fn_laws_eqLineS N)
/-! laws_FnExactCountWhat -/
noncomputable def h_laws_FnExactCountWhat : Hint := { tab, hn := [], loops := [], outs := [], ords := [] }
noncomputable def sg_laws_FnExactCountWhat : List AK := [.v (.sl tQIIIIE) .k, .v (.int .i64) .k]
noncomputable def F_laws_FnExactCountWhat (N : Nat) (x : AVals sg_laws_FnExactCountWhat) (kf : Ret → Option Ret) : Option Ret := laws_FnExactCountWhat N x.1 x.2.1 (fun r0 => kf ⟨[⟨.bool, .k, r0⟩], []⟩)
noncomputable def run_laws_FnExactCountWhat (N : Nat) := runOf sg_laws_FnExactCountWhat (F_laws_FnExactCountWhat N)
noncomputable def es_laws_FnExactCountWhat (N : Nat) : List Entry := [⟨21, [.val, .val], (run_laws_szLineS N)⟩, ⟨23, [.val], (run_laws_toLineS N)⟩, ⟨22, [.val, .val], (run_spec_CountWhat N)⟩, ⟨24, [.val, .val], (run_impl_CountWhat N)⟩, ⟨25, [.val, .val], (run_laws_eqLineS N)⟩]
noncomputable def body_laws_FnExactCountWhat : Code := match Try.f5.body with | some c => c | none => .skip
noncomputable def L_laws_FnExactCountWhat (N n : Nat) (key : Nat) (S : St) (K : Ks) : Option Ret := none
theorem L0_laws_FnExactCountWhat (N key : Nat) (S : St) (K : Ks) : L_laws_FnExactCountWhat N 0 key S K = none := rfl
theorem ls_laws_FnExactCountWhat : loopsIn body_laws_FnExactCountWhat = [] := by kernel_rfl
theorem fn_laws_FnExactCountWhat (N : Nat) (x : AVals sg_laws_FnExactCountWhat) (kf : Ret → Option Ret) : F_laws_FnExactCountWhat N x kf = peFunc h_laws_FnExactCountWhat (Orc.of (es_laws_FnExactCountWhat N)) (L_laws_FnExactCountWhat N N) Try.f5 (ashape sg_laws_FnExactCountWhat x) kf := by kernel_rfl
theorem sd_laws_FnExactCountWhat (N : Nat) : Sound Try.prog 5 (run_laws_FnExactCountWhat N) := fun_ok2 (hh := h_laws_FnExactCountWhat) mixed tab_ok (es := es_laws_FnExactCountWhat N) ⟨sd_laws_szLineS N, ⟨sd_laws_toLineS N, ⟨sd_spec_CountWhat N, ⟨sd_impl_CountWhat N, ⟨sd_laws_eqLineS N, trivial⟩⟩⟩⟩⟩ (fn := Try.f5) (body := body_laws_FnExactCountWhat) (by kernel_rfl) (by kernel_rfl) (by kernel_rfl) (by kernel_rfl) (by kernel_rfl) (Lf := L_laws_FnExactCountWhat N) (L0_laws_FnExactCountWhat N) ls_laws_FnExactCountWhat trivial (N := N) (by kernel_rfl) (fn_laws_FnExactCountWhat N)
end Go.Pv.R
