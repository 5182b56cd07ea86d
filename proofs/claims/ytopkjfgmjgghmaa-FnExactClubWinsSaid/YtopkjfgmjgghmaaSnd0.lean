/- Each function of the program that the law reaches computes its plain function, part 0. -/
import Derived.Test.YtopkjfgmjgghmaaRes
import Derived.Test.YtopkjfgmjgghmaaProg
namespace Go.Pv.R
open Go.Proofs
set_option linter.unusedVariables false
set_option maxRecDepth 100000
noncomputable abbrev dK : Kd := .dead
noncomputable def tab : Tab := [⟨2, (.int .i64), 0, []⟩, ⟨3, (.int .i64), 0, []⟩, ⟨4, .bool, 0, []⟩, ⟨5, (.int .u8), 0, []⟩, ⟨9, .str, 0, []⟩, ⟨12, (.int .u64), 0, []⟩, ⟨21, (.int .i32), 0, []⟩, ⟨24, (.sl tQIIIIE), 77, []⟩, ⟨27, (.sl tQIIIIE), 75, []⟩, ⟨31, (.sl tQIIIIE), 82, []⟩, ⟨34, (.sl tQIIIIE), 80, []⟩, ⟨38, (.sl (.int .i64)), 3, []⟩, ⟨39, tQIIIIILIE, 0, [3, 3, 3, 3, 3, 38]⟩, ⟨40, tQIIIIILIE, 0, [3, 3, 3, 3, 3, 38]⟩, ⟨43, tQIIIIILIE, 0, [3, 3, 3, 3, 3, 38]⟩, ⟨47, (.sl (.sl (.int .i64))), 38, []⟩, ⟨48, tQILLIE, 0, [3, 47]⟩, ⟨49, tQILLIE, 0, [3, 47]⟩, ⟨54, (.sl tQIILIE), 91, []⟩, ⟨57, (.sl tQIILIE), 92, []⟩, ⟨64, (.sl tQIIIIILIE), 40, []⟩, ⟨67, (.sl tQIIIIILIE), 43, []⟩, ⟨72, (.sl .str), 9, []⟩, ⟨74, tQIIIIE, 0, [3, 3, 3, 3]⟩, ⟨75, tQIIIIE, 0, [3, 3, 3, 3]⟩, ⟨77, tQIIIIE, 0, [3, 3, 3, 3]⟩, ⟨79, tQIIIIE, 0, [3, 3, 3, 3]⟩, ⟨80, tQIIIIE, 0, [3, 3, 3, 3]⟩, ⟨82, tQIIIIE, 0, [3, 3, 3, 3]⟩, ⟨90, tQIILIE, 0, [3, 3, 38]⟩, ⟨91, tQIILIE, 0, [3, 3, 38]⟩, ⟨92, tQIILIE, 0, [3, 3, 38]⟩, ⟨108, (.int .u32), 0, []⟩]
theorem mixed : Try.prog.follows .mixedOrders = true := by kernel_rfl
theorem tab_ok : tabB Try.prog tab = true := by kernel_rfl
/-! spec_l1In -/
noncomputable def h_spec_l1In : Hint := { tab, hn := [], loops := [], outs := [], ords := [] }
noncomputable def sg_spec_l1In : List AK := [.v (.int .i64) .k, .v (.int .i64) .k, .v (.int .i64) .k]
noncomputable def F_spec_l1In (N : Nat) (x : AVals sg_spec_l1In) (kf : Ret → Option Ret) : Option Ret := spec_l1In N x.1 x.2.1 x.2.2.1 (fun r0 => kf ⟨[⟨.bool, .k, r0⟩], []⟩)
noncomputable def run_spec_l1In (N : Nat) := runOf sg_spec_l1In (F_spec_l1In N)
noncomputable def es_spec_l1In (N : Nat) : List Entry := []
noncomputable def body_spec_l1In : Code := match Try.f54.body with | some c => c | none => .skip
noncomputable def L_spec_l1In (N n : Nat) (key : Nat) (S : St) (K : Ks) : Option Ret := none
theorem L0_spec_l1In (N key : Nat) (S : St) (K : Ks) : L_spec_l1In N 0 key S K = none := rfl
theorem ls_spec_l1In : loopsIn body_spec_l1In = [] := by kernel_rfl
theorem fn_spec_l1In (N : Nat) (x : AVals sg_spec_l1In) (kf : Ret → Option Ret) : F_spec_l1In N x kf = peFunc h_spec_l1In (Orc.of (es_spec_l1In N)) (L_spec_l1In N N) Try.f54 (ashape sg_spec_l1In x) kf := by kernel_rfl
theorem sd_spec_l1In (N : Nat) : Sound Try.prog 54 (run_spec_l1In N) := fun_ok2 (hh := h_spec_l1In) mixed tab_ok (es := es_spec_l1In N) trivial (fn := Try.f54) (body := body_spec_l1In) (by kernel_rfl) (by kernel_rfl) (by kernel_rfl) (by kernel_rfl) (by kernel_rfl) (Lf := L_spec_l1In N) (L0_spec_l1In N) ls_spec_l1In trivial (N := N) (by kernel_rfl) (fn_spec_l1In N)
/-! laws_szIntS -/
noncomputable def h_laws_szIntS : Hint := { tab, hn := [], loops := [], outs := [], ords := [] }
noncomputable def sg_laws_szIntS : List AK := [.v (.sl (.int .i64)) .k, .v (.int .i64) .k]
noncomputable def F_laws_szIntS (N : Nat) (x : AVals sg_laws_szIntS) (kf : Ret → Option Ret) : Option Ret := laws_szIntS N x.1 x.2.1 (fun r0 => kf ⟨[⟨(.int .i64), .k, r0⟩], []⟩)
noncomputable def run_laws_szIntS (N : Nat) := runOf sg_laws_szIntS (F_laws_szIntS N)
noncomputable def es_laws_szIntS (N : Nat) : List Entry := []
noncomputable def body_laws_szIntS : Code := match Try.f59.body with | some c => c | none => .skip
noncomputable def L_laws_szIntS (N n : Nat) (key : Nat) (S : St) (K : Ks) : Option Ret := none
theorem L0_laws_szIntS (N key : Nat) (S : St) (K : Ks) : L_laws_szIntS N 0 key S K = none := rfl
theorem ls_laws_szIntS : loopsIn body_laws_szIntS = [] := by kernel_rfl
theorem fn_laws_szIntS (N : Nat) (x : AVals sg_laws_szIntS) (kf : Ret → Option Ret) : F_laws_szIntS N x kf = peFunc h_laws_szIntS (Orc.of (es_laws_szIntS N)) (L_laws_szIntS N N) Try.f59 (ashape sg_laws_szIntS x) kf := by kernel_rfl
theorem sd_laws_szIntS (N : Nat) : Sound Try.prog 59 (run_laws_szIntS N) := fun_ok2 (hh := h_laws_szIntS) mixed tab_ok (es := es_laws_szIntS N) trivial (fn := Try.f59) (body := body_laws_szIntS) (by kernel_rfl) (by kernel_rfl) (by kernel_rfl) (by kernel_rfl) (by kernel_rfl) (Lf := L_laws_szIntS N) (L0_laws_szIntS N) ls_laws_szIntS trivial (N := N) (by kernel_rfl) (fn_laws_szIntS N)
/-! laws_szTeam -/
noncomputable def h_laws_szTeam : Hint := { tab, hn := [], loops := [], outs := [], ords := [] }
noncomputable def sg_laws_szTeam : List AK := [.v tQIIIIILIE .k, .v (.int .i64) .k]
noncomputable def F_laws_szTeam (N : Nat) (x : AVals sg_laws_szTeam) (kf : Ret → Option Ret) : Option Ret := laws_szTeam N x.1 x.2.1 (fun r0 => kf ⟨[⟨(.int .i64), .k, r0⟩], []⟩)
noncomputable def run_laws_szTeam (N : Nat) := runOf sg_laws_szTeam (F_laws_szTeam N)
noncomputable def es_laws_szTeam (N : Nat) : List Entry := [⟨59, [.val, .val], (run_laws_szIntS N)⟩]
noncomputable def body_laws_szTeam : Code := match Try.f26.body with | some c => c | none => .skip
noncomputable def L_laws_szTeam (N n : Nat) (key : Nat) (S : St) (K : Ks) : Option Ret := none
theorem L0_laws_szTeam (N key : Nat) (S : St) (K : Ks) : L_laws_szTeam N 0 key S K = none := rfl
theorem ls_laws_szTeam : loopsIn body_laws_szTeam = [] := by kernel_rfl
theorem fn_laws_szTeam (N : Nat) (x : AVals sg_laws_szTeam) (kf : Ret → Option Ret) : F_laws_szTeam N x kf = peFunc h_laws_szTeam (Orc.of (es_laws_szTeam N)) (L_laws_szTeam N N) Try.f26 (ashape sg_laws_szTeam x) kf := by kernel_rfl
theorem sd_laws_szTeam (N : Nat) : Sound Try.prog 26 (run_laws_szTeam N) := fun_ok2 (hh := h_laws_szTeam) mixed tab_ok (es := es_laws_szTeam N) ⟨sd_laws_szIntS N, trivial⟩ (fn := Try.f26) (body := body_laws_szTeam) (by kernel_rfl) (by kernel_rfl) (by kernel_rfl) (by kernel_rfl) (by kernel_rfl) (Lf := L_laws_szTeam N) (L0_laws_szTeam N) ls_laws_szTeam trivial (N := N) (by kernel_rfl) (fn_laws_szTeam N)
/-! laws_toIntS -/
noncomputable def ks_laws_toIntS_l3 : List Kd := [.v (.sl (.int .i64)) .k, dK, dK, .v (.sl (.int .i64)) (.o 3 none .k), .v (.int .i64) .k, dK, dK, dK, dK, dK, dK, dK, dK, dK, dK, dK, dK, dK, dK, dK, dK, dK]
noncomputable def ko_laws_toIntS_l3_0 : List Kd := [dK, dK, dK, .v (.sl (.int .i64)) (.o 3 none .k), dK, dK, dK, dK, dK, dK, dK, dK, dK, dK, dK, dK, dK, dK, dK, dK, dK, dK]
noncomputable def h_laws_toIntS : Hint := { tab, hn := [], loops := [(3, ks_laws_toIntS_l3)], outs := [(3, 2, ko_laws_toIntS_l3_0)], ords := [] }
noncomputable def sg_laws_toIntS : List AK := [.v (.sl (.int .i64)) .k]
noncomputable def F_laws_toIntS (N : Nat) (x : AVals sg_laws_toIntS) (kf : Ret → Option Ret) : Option Ret := laws_toIntS N x.1 (fun r0 => kf ⟨[⟨(.sl (.int .i64)), (.o 3 none .k), r0⟩], []⟩)
noncomputable def run_laws_toIntS (N : Nat) := runOf sg_laws_toIntS (F_laws_toIntS N)
noncomputable def es_laws_toIntS (N : Nat) : List Entry := []
noncomputable def body_laws_toIntS : Code := match Try.f60.body with | some c => c | none => .skip
noncomputable def L_laws_toIntS (N n : Nat) (key : Nat) (S : St) (K : Ks) : Option Ret := bif Nat.beq key 3 then withVals ks_laws_toIntS_l3 S (fun x => laws_toIntS_l3 x.1 n (fun z0 => K (.x 0) (shape ko_laws_toIntS_l3_0 (z0, ()))) x.2.1 x.2.2.1) else none
theorem L0_laws_toIntS (N key : Nat) (S : St) (K : Ks) : L_laws_toIntS N 0 key S K = none := (bif0 (withVals0 fun _ => rfl) rfl)
noncomputable def c_laws_toIntS_0 : Code := (loopsIn body_laws_toIntS).getD 0 .skip
theorem ls_laws_toIntS : loopsIn body_laws_toIntS = [c_laws_toIntS_0] := by kernel_rfl
theorem rd_laws_toIntS_3 (N n : Nat) (x : Vals ks_laws_toIntS_l3) (K : Ks) : L_laws_toIntS N (n + 1) 3 (shape ks_laws_toIntS_l3 x) (h_laws_toIntS.onOut 3 K) = peRound h_laws_toIntS (Orc.of (es_laws_toIntS N)) (mixL (L_laws_toIntS N) N n 3) c_laws_toIntS_0 (shape ks_laws_toIntS_l3 x) (h_laws_toIntS.onOut 3 K) := by kernel_rfl
theorem fn_laws_toIntS (N : Nat) (x : AVals sg_laws_toIntS) (kf : Ret → Option Ret) : F_laws_toIntS N x kf = peFunc h_laws_toIntS (Orc.of (es_laws_toIntS N)) (L_laws_toIntS N N) Try.f60 (ashape sg_laws_toIntS x) kf := by kernel_rfl
theorem sd_laws_toIntS (N : Nat) : Sound Try.prog 60 (run_laws_toIntS N) := fun_ok2 (hh := h_laws_toIntS) mixed tab_ok (es := es_laws_toIntS N) trivial (fn := Try.f60) (body := body_laws_toIntS) (by kernel_rfl) (by kernel_rfl) (by kernel_rfl) (by kernel_rfl) (by kernel_rfl) (Lf := L_laws_toIntS N) (L0_laws_toIntS N) ls_laws_toIntS (round_cons (key := 3) (ks := ks_laws_toIntS_l3) (by kernel_rfl) (by kernel_rfl) (rd_laws_toIntS_3 N) trivial) (N := N) (by kernel_rfl) (fn_laws_toIntS N)
/-! laws_toTeam -/
noncomputable def h_laws_toTeam : Hint := { tab, hn := [], loops := [], outs := [], ords := [] }
noncomputable def sg_laws_toTeam : List AK := [.v tQIIIIILIE .k]
noncomputable def F_laws_toTeam (N : Nat) (x : AVals sg_laws_toTeam) (kf : Ret → Option Ret) : Option Ret := laws_toTeam N x.1 (fun r0 => kf ⟨[⟨tQIIIIILIE, (.p .k (.p .k (.p .k (.p .k (.p .k (.o 3 none .k)))))), r0⟩], []⟩)
noncomputable def run_laws_toTeam (N : Nat) := runOf sg_laws_toTeam (F_laws_toTeam N)
noncomputable def es_laws_toTeam (N : Nat) : List Entry := [⟨60, [.val], (run_laws_toIntS N)⟩]
noncomputable def body_laws_toTeam : Code := match Try.f28.body with | some c => c | none => .skip
noncomputable def L_laws_toTeam (N n : Nat) (key : Nat) (S : St) (K : Ks) : Option Ret := none
theorem L0_laws_toTeam (N key : Nat) (S : St) (K : Ks) : L_laws_toTeam N 0 key S K = none := rfl
theorem ls_laws_toTeam : loopsIn body_laws_toTeam = [] := by kernel_rfl
theorem fn_laws_toTeam (N : Nat) (x : AVals sg_laws_toTeam) (kf : Ret → Option Ret) : F_laws_toTeam N x kf = peFunc h_laws_toTeam (Orc.of (es_laws_toTeam N)) (L_laws_toTeam N N) Try.f28 (ashape sg_laws_toTeam x) kf := by kernel_rfl
theorem sd_laws_toTeam (N : Nat) : Sound Try.prog 28 (run_laws_toTeam N) := fun_ok2 (hh := h_laws_toTeam) mixed tab_ok (es := es_laws_toTeam N) ⟨sd_laws_toIntS N, trivial⟩ (fn := Try.f28) (body := body_laws_toTeam) (by kernel_rfl) (by kernel_rfl) (by kernel_rfl) (by kernel_rfl) (by kernel_rfl) (Lf := L_laws_toTeam N) (L0_laws_toTeam N) ls_laws_toTeam trivial (N := N) (by kernel_rfl) (fn_laws_toTeam N)
/-! laws_eqIntS -/
noncomputable def ks_laws_eqIntS_l4 : List Kd := [.v (.sl (.int .i64)) .k, .v (.sl (.int .i64)) .k, dK, dK, dK, .v (.int .i64) .k, dK, dK, dK, dK, dK, dK, dK, dK, dK, dK, dK, dK, dK, dK, dK, dK, dK, dK, dK, dK]
noncomputable def ko_laws_eqIntS_l4_0 : List Kd := [dK, dK, dK, dK, dK, dK, dK, dK, dK, dK, dK, dK, dK, dK, dK, dK, dK, dK, dK, dK, dK, dK, dK, dK, dK, dK]
noncomputable def ko_laws_eqIntS_l4_1 : List Kd := [dK, dK, dK, dK, .v .bool .k, dK, dK, dK, dK, dK, dK, dK, dK, dK, dK, dK, dK, dK, dK, dK, dK, dK, dK, dK, dK, dK]
noncomputable def h_laws_eqIntS : Hint := { tab, hn := [], loops := [(4, ks_laws_eqIntS_l4)], outs := [(4, 2, ko_laws_eqIntS_l4_0), (4, 1, ko_laws_eqIntS_l4_1)], ords := [(6, [0, 1, 2, 3, 4, 5, 6, 7, 8])] }
noncomputable def sg_laws_eqIntS : List AK := [.v (.sl (.int .i64)) .k, .v (.sl (.int .i64)) .k]
noncomputable def F_laws_eqIntS (N : Nat) (x : AVals sg_laws_eqIntS) (kf : Ret → Option Ret) : Option Ret := laws_eqIntS N x.1 x.2.1 (fun r0 => kf ⟨[⟨.bool, .k, r0⟩], []⟩)
noncomputable def run_laws_eqIntS (N : Nat) := runOf sg_laws_eqIntS (F_laws_eqIntS N)
noncomputable def es_laws_eqIntS (N : Nat) : List Entry := []
noncomputable def body_laws_eqIntS : Code := match Try.f61.body with | some c => c | none => .skip
noncomputable def L_laws_eqIntS (N n : Nat) (key : Nat) (S : St) (K : Ks) : Option Ret := bif Nat.beq key 4 then withVals ks_laws_eqIntS_l4 S (fun x => laws_eqIntS_l4 x.1 x.2.1 n (K (.x 0) (shape ko_laws_eqIntS_l4_0 ())) (fun z0 => K .r (shape ko_laws_eqIntS_l4_1 (z0, ()))) x.2.2.1) else none
theorem L0_laws_eqIntS (N key : Nat) (S : St) (K : Ks) : L_laws_eqIntS N 0 key S K = none := (bif0 (withVals0 fun _ => rfl) rfl)
noncomputable def c_laws_eqIntS_0 : Code := (loopsIn body_laws_eqIntS).getD 0 .skip
theorem ls_laws_eqIntS : loopsIn body_laws_eqIntS = [c_laws_eqIntS_0] := by kernel_rfl
theorem rd_laws_eqIntS_4 (N n : Nat) (x : Vals ks_laws_eqIntS_l4) (K : Ks) : L_laws_eqIntS N (n + 1) 4 (shape ks_laws_eqIntS_l4 x) (h_laws_eqIntS.onOut 4 K) = peRound h_laws_eqIntS (Orc.of (es_laws_eqIntS N)) (mixL (L_laws_eqIntS N) N n 4) c_laws_eqIntS_0 (shape ks_laws_eqIntS_l4 x) (h_laws_eqIntS.onOut 4 K) := by kernel_rfl
theorem fn_laws_eqIntS (N : Nat) (x : AVals sg_laws_eqIntS) (kf : Ret → Option Ret) : F_laws_eqIntS N x kf = peFunc h_laws_eqIntS (Orc.of (es_laws_eqIntS N)) (L_laws_eqIntS N N) Try.f61 (ashape sg_laws_eqIntS x) kf := by kernel_rfl
theorem sd_laws_eqIntS (N : Nat) : Sound Try.prog 61 (run_laws_eqIntS N) := fun_ok2 (hh := h_laws_eqIntS) mixed tab_ok (es := es_laws_eqIntS N) trivial (fn := Try.f61) (body := body_laws_eqIntS) (by kernel_rfl) (by kernel_rfl) (by kernel_rfl) (by kernel_rfl) (by kernel_rfl) (Lf := L_laws_eqIntS N) (L0_laws_eqIntS N) ls_laws_eqIntS (round_cons (key := 4) (ks := ks_laws_eqIntS_l4) (by kernel_rfl) (by kernel_rfl) (rd_laws_eqIntS_4 N) trivial) (N := N) (by kernel_rfl) (fn_laws_eqIntS N)
/-! laws_eqTeam -/
noncomputable def h_laws_eqTeam : Hint := { tab, hn := [], loops := [], outs := [], ords := [] }
noncomputable def sg_laws_eqTeam : List AK := [.v tQIIIIILIE .k, .v tQIIIIILIE .k]
noncomputable def F_laws_eqTeam (N : Nat) (x : AVals sg_laws_eqTeam) (kf : Ret → Option Ret) : Option Ret := laws_eqTeam N x.1 x.2.1 (fun r0 => kf ⟨[⟨.bool, .k, r0⟩], []⟩)
noncomputable def run_laws_eqTeam (N : Nat) := runOf sg_laws_eqTeam (F_laws_eqTeam N)
noncomputable def es_laws_eqTeam (N : Nat) : List Entry := [⟨61, [.val, .val], (run_laws_eqIntS N)⟩]
noncomputable def body_laws_eqTeam : Code := match Try.f30.body with | some c => c | none => .skip
noncomputable def L_laws_eqTeam (N n : Nat) (key : Nat) (S : St) (K : Ks) : Option Ret := none
theorem L0_laws_eqTeam (N key : Nat) (S : St) (K : Ks) : L_laws_eqTeam N 0 key S K = none := rfl
theorem ls_laws_eqTeam : loopsIn body_laws_eqTeam = [] := by kernel_rfl
theorem fn_laws_eqTeam (N : Nat) (x : AVals sg_laws_eqTeam) (kf : Ret → Option Ret) : F_laws_eqTeam N x kf = peFunc h_laws_eqTeam (Orc.of (es_laws_eqTeam N)) (L_laws_eqTeam N N) Try.f30 (ashape sg_laws_eqTeam x) kf := by kernel_rfl
theorem sd_laws_eqTeam (N : Nat) : Sound Try.prog 30 (run_laws_eqTeam N) := fun_ok2 (hh := h_laws_eqTeam) mixed tab_ok (es := es_laws_eqTeam N) ⟨sd_laws_eqIntS N, trivial⟩ (fn := Try.f30) (body := body_laws_eqTeam) (by kernel_rfl) (by kernel_rfl) (by kernel_rfl) (by kernel_rfl) (by kernel_rfl) (Lf := L_laws_eqTeam N) (L0_laws_eqTeam N) ls_laws_eqTeam trivial (N := N) (by kernel_rfl) (fn_laws_eqTeam N)
/-! impl_InRange -/
noncomputable def h_impl_InRange : Hint := { tab, hn := [], loops := [], outs := [], ords := [] }
noncomputable def sg_impl_InRange : List AK := [.v (.int .i64) .k, .v (.int .i64) .k, .v (.int .i64) .k]
noncomputable def F_impl_InRange (N : Nat) (x : AVals sg_impl_InRange) (kf : Ret → Option Ret) : Option Ret := impl_InRange N x.1 x.2.1 x.2.2.1 (fun r0 => kf ⟨[⟨.bool, .k, r0⟩], []⟩)
noncomputable def run_impl_InRange (N : Nat) := runOf sg_impl_InRange (F_impl_InRange N)
noncomputable def es_impl_InRange (N : Nat) : List Entry := []
noncomputable def body_impl_InRange : Code := match Try.f62.body with | some c => c | none => .skip
noncomputable def L_impl_InRange (N n : Nat) (key : Nat) (S : St) (K : Ks) : Option Ret := none
theorem L0_impl_InRange (N key : Nat) (S : St) (K : Ks) : L_impl_InRange N 0 key S K = none := rfl
theorem ls_impl_InRange : loopsIn body_impl_InRange = [] := by kernel_rfl
theorem fn_impl_InRange (N : Nat) (x : AVals sg_impl_InRange) (kf : Ret → Option Ret) : F_impl_InRange N x kf = peFunc h_impl_InRange (Orc.of (es_impl_InRange N)) (L_impl_InRange N N) Try.f62 (ashape sg_impl_InRange x) kf := by kernel_rfl
theorem sd_impl_InRange (N : Nat) : Sound Try.prog 62 (run_impl_InRange N) := fun_ok2 (hh := h_impl_InRange) mixed tab_ok (es := es_impl_InRange N) trivial (fn := Try.f62) (body := body_impl_InRange) (by kernel_rfl) (by kernel_rfl) (by kernel_rfl) (by kernel_rfl) (by kernel_rfl) (Lf := L_impl_InRange N) (L0_impl_InRange N) ls_impl_InRange trivial (N := N) (by kernel_rfl) (fn_impl_InRange N)
/-! laws_szTeamS -/
noncomputable def ks_laws_szTeamS_l5 : List Kd := [.v (.sl tQIIIIILIE) .k, .v (.int .i64) .k, dK, dK, dK, .v (.int .i64) .k, dK, dK, dK, dK, dK, dK, dK, dK, dK, dK, dK, dK, dK, dK, dK, dK, dK, dK, dK, dK, dK]
noncomputable def ko_laws_szTeamS_l5_0 : List Kd := [dK, .v (.int .i64) .k, dK, dK, dK, dK, dK, dK, dK, dK, dK, dK, dK, dK, dK, dK, dK, dK, dK, dK, dK, dK, dK, dK, dK, dK, dK]
noncomputable def ko_laws_szTeamS_l5_1 : List Kd := [dK, dK, dK, dK, .v (.int .i64) .k, dK, dK, dK, dK, dK, dK, dK, dK, dK, dK, dK, dK, dK, dK, dK, dK, dK, dK, dK, dK, dK, dK]
noncomputable def h_laws_szTeamS : Hint := { tab, hn := [], loops := [(5, ks_laws_szTeamS_l5)], outs := [(5, 2, ko_laws_szTeamS_l5_0), (5, 1, ko_laws_szTeamS_l5_1)], ords := [] }
noncomputable def sg_laws_szTeamS : List AK := [.v (.sl tQIIIIILIE) .k, .v (.int .i64) .k]
noncomputable def F_laws_szTeamS (N : Nat) (x : AVals sg_laws_szTeamS) (kf : Ret → Option Ret) : Option Ret := laws_szTeamS N x.1 x.2.1 (fun r0 => kf ⟨[⟨(.int .i64), .k, r0⟩], []⟩)
noncomputable def run_laws_szTeamS (N : Nat) := runOf sg_laws_szTeamS (F_laws_szTeamS N)
noncomputable def es_laws_szTeamS (N : Nat) : List Entry := [⟨26, [.val, .val], (run_laws_szTeam N)⟩]
noncomputable def body_laws_szTeamS : Code := match Try.f49.body with | some c => c | none => .skip
noncomputable def L_laws_szTeamS (N n : Nat) (key : Nat) (S : St) (K : Ks) : Option Ret := bif Nat.beq key 5 then withVals ks_laws_szTeamS_l5 S (fun x => laws_szTeamS_l5 N x.1 n (fun z0 => K (.x 0) (shape ko_laws_szTeamS_l5_0 (z0, ()))) (fun z0 => K .r (shape ko_laws_szTeamS_l5_1 (z0, ()))) x.2.1 x.2.2.1) else none
theorem L0_laws_szTeamS (N key : Nat) (S : St) (K : Ks) : L_laws_szTeamS N 0 key S K = none := (bif0 (withVals0 fun _ => rfl) rfl)
noncomputable def c_laws_szTeamS_0 : Code := (loopsIn body_laws_szTeamS).getD 0 .skip
theorem ls_laws_szTeamS : loopsIn body_laws_szTeamS = [c_laws_szTeamS_0] := by kernel_rfl
theorem rd_laws_szTeamS_5 (N n : Nat) (x : Vals ks_laws_szTeamS_l5) (K : Ks) : L_laws_szTeamS N (n + 1) 5 (shape ks_laws_szTeamS_l5 x) (h_laws_szTeamS.onOut 5 K) = peRound h_laws_szTeamS (Orc.of (es_laws_szTeamS N)) (mixL (L_laws_szTeamS N) N n 5) c_laws_szTeamS_0 (shape ks_laws_szTeamS_l5 x) (h_laws_szTeamS.onOut 5 K) := by kernel_rfl
theorem fn_laws_szTeamS (N : Nat) (x : AVals sg_laws_szTeamS) (kf : Ret → Option Ret) : F_laws_szTeamS N x kf = peFunc h_laws_szTeamS (Orc.of (es_laws_szTeamS N)) (L_laws_szTeamS N N) Try.f49 (ashape sg_laws_szTeamS x) kf := by kernel_rfl
theorem sd_laws_szTeamS (N : Nat) : Sound Try.prog 49 (run_laws_szTeamS N) := fun_ok2 (hh := h_laws_szTeamS) mixed tab_ok (es := es_laws_szTeamS N) ⟨sd_laws_szTeam N, trivial⟩ (fn := Try.f49) (body := body_laws_szTeamS) (by kernel_rfl) (by kernel_rfl) (by kernel_rfl) (by kernel_rfl) (by kernel_rfl) (Lf := L_laws_szTeamS N) (L0_laws_szTeamS N) ls_laws_szTeamS (round_cons (key := 5) (ks := ks_laws_szTeamS_l5) (by kernel_rfl) (by kernel_rfl) (rd_laws_szTeamS_5 N) trivial) (N := N) (by kernel_rfl) (fn_laws_szTeamS N)
/-! laws_toTeamS -/
noncomputable def ks_laws_toTeamS_l3 : List Kd := [.v (.sl tQIIIIILIE) .k, dK, dK, .v (.sl tQIIIIILIE) (.o 43 none (.p .k (.p .k (.p .k (.p .k (.p .k (.o 3 none .k))))))), .v (.int .i64) .k, dK, dK, dK, dK, dK, dK, dK, dK, dK, dK, dK, dK, dK, dK, dK, dK, dK, dK]
noncomputable def ko_laws_toTeamS_l3_0 : List Kd := [dK, dK, dK, .v (.sl tQIIIIILIE) (.o 43 none (.p .k (.p .k (.p .k (.p .k (.p .k (.o 3 none .k))))))), dK, dK, dK, dK, dK, dK, dK, dK, dK, dK, dK, dK, dK, dK, dK, dK, dK, dK, dK]
noncomputable def h_laws_toTeamS : Hint := { tab, hn := [], loops := [(3, ks_laws_toTeamS_l3)], outs := [(3, 2, ko_laws_toTeamS_l3_0)], ords := [] }
noncomputable def sg_laws_toTeamS : List AK := [.v (.sl tQIIIIILIE) .k]
noncomputable def F_laws_toTeamS (N : Nat) (x : AVals sg_laws_toTeamS) (kf : Ret → Option Ret) : Option Ret := laws_toTeamS N x.1 (fun r0 => kf ⟨[⟨(.sl tQIIIIILIE), (.o 43 none (.p .k (.p .k (.p .k (.p .k (.p .k (.o 3 none .k))))))), r0⟩], []⟩)
noncomputable def run_laws_toTeamS (N : Nat) := runOf sg_laws_toTeamS (F_laws_toTeamS N)
noncomputable def es_laws_toTeamS (N : Nat) : List Entry := [⟨28, [.val], (run_laws_toTeam N)⟩]
noncomputable def body_laws_toTeamS : Code := match Try.f51.body with | some c => c | none => .skip
noncomputable def L_laws_toTeamS (N n : Nat) (key : Nat) (S : St) (K : Ks) : Option Ret := bif Nat.beq key 3 then withVals ks_laws_toTeamS_l3 S (fun x => laws_toTeamS_l3 N x.1 n (fun z0 => K (.x 0) (shape ko_laws_toTeamS_l3_0 (z0, ()))) x.2.1 x.2.2.1) else none
theorem L0_laws_toTeamS (N key : Nat) (S : St) (K : Ks) : L_laws_toTeamS N 0 key S K = none := (bif0 (withVals0 fun _ => rfl) rfl)
noncomputable def c_laws_toTeamS_0 : Code := (loopsIn body_laws_toTeamS).getD 0 .skip
theorem ls_laws_toTeamS : loopsIn body_laws_toTeamS = [c_laws_toTeamS_0] := by kernel_rfl
theorem rd_laws_toTeamS_3 (N n : Nat) (x : Vals ks_laws_toTeamS_l3) (K : Ks) : L_laws_toTeamS N (n + 1) 3 (shape ks_laws_toTeamS_l3 x) (h_laws_toTeamS.onOut 3 K) = peRound h_laws_toTeamS (Orc.of (es_laws_toTeamS N)) (mixL (L_laws_toTeamS N) N n 3) c_laws_toTeamS_0 (shape ks_laws_toTeamS_l3 x) (h_laws_toTeamS.onOut 3 K) := by kernel_rfl
theorem fn_laws_toTeamS (N : Nat) (x : AVals sg_laws_toTeamS) (kf : Ret → Option Ret) : F_laws_toTeamS N x kf = peFunc h_laws_toTeamS (Orc.of (es_laws_toTeamS N)) (L_laws_toTeamS N N) Try.f51 (ashape sg_laws_toTeamS x) kf := by kernel_rfl
theorem sd_laws_toTeamS (N : Nat) : Sound Try.prog 51 (run_laws_toTeamS N) := fun_ok2 (hh := h_laws_toTeamS) mixed tab_ok (es := es_laws_toTeamS N) ⟨sd_laws_toTeam N, trivial⟩ (fn := Try.f51) (body := body_laws_toTeamS) (by kernel_rfl) (by kernel_rfl) (by kernel_rfl) (by kernel_rfl) (by kernel_rfl) (Lf := L_laws_toTeamS N) (L0_laws_toTeamS N) ls_laws_toTeamS (round_cons (key := 3) (ks := ks_laws_toTeamS_l3) (by kernel_rfl) (by kernel_rfl) (rd_laws_toTeamS_3 N) trivial) (N := N) (by kernel_rfl) (fn_laws_toTeamS N)
/-! spec_FindTeam -/
noncomputable def ks_spec_FindTeam_l2 : List Kd := [.v (.sl tQIIIIILIE) .k, .v (.int .i64) .k, dK, dK, dK, .v (.int .i64) .k, dK, dK, dK, dK, dK, dK, dK, dK, dK, dK, dK, dK, dK, dK]
noncomputable def ko_spec_FindTeam_l2_0 : List Kd := [dK, dK, dK, dK, dK, dK, dK, dK, dK, dK, dK, dK, dK, dK, dK, dK, dK, dK, dK, dK]
noncomputable def ko_spec_FindTeam_l2_1 : List Kd := [dK, dK, dK, dK, .v (.int .i64) .k, dK, dK, dK, dK, dK, dK, dK, dK, dK, dK, dK, dK, dK, dK, dK]
noncomputable def h_spec_FindTeam : Hint := { tab, hn := [], loops := [(2, ks_spec_FindTeam_l2)], outs := [(2, 2, ko_spec_FindTeam_l2_0), (2, 1, ko_spec_FindTeam_l2_1)], ords := [] }
noncomputable def sg_spec_FindTeam : List AK := [.v (.sl tQIIIIILIE) .k, .v (.int .i64) .k]
noncomputable def F_spec_FindTeam (N : Nat) (x : AVals sg_spec_FindTeam) (kf : Ret → Option Ret) : Option Ret := spec_FindTeam N x.1 x.2.1 (fun r0 => kf ⟨[⟨(.int .i64), .k, r0⟩], []⟩)
noncomputable def run_spec_FindTeam (N : Nat) := runOf sg_spec_FindTeam (F_spec_FindTeam N)
noncomputable def es_spec_FindTeam (N : Nat) : List Entry := []
noncomputable def body_spec_FindTeam : Code := match Try.f77.body with | some c => c | none => .skip
noncomputable def L_spec_FindTeam (N n : Nat) (key : Nat) (S : St) (K : Ks) : Option Ret := bif Nat.beq key 2 then withVals ks_spec_FindTeam_l2 S (fun x => spec_FindTeam_l2 x.1 x.2.1 n (K (.x 0) (shape ko_spec_FindTeam_l2_0 ())) (fun z0 => K .r (shape ko_spec_FindTeam_l2_1 (z0, ()))) x.2.2.1) else none
theorem L0_spec_FindTeam (N key : Nat) (S : St) (K : Ks) : L_spec_FindTeam N 0 key S K = none := (bif0 (withVals0 fun _ => rfl) rfl)
noncomputable def c_spec_FindTeam_0 : Code := (loopsIn body_spec_FindTeam).getD 0 .skip
theorem ls_spec_FindTeam : loopsIn body_spec_FindTeam = [c_spec_FindTeam_0] := by kernel_rfl
theorem rd_spec_FindTeam_2 (N n : Nat) (x : Vals ks_spec_FindTeam_l2) (K : Ks) : L_spec_FindTeam N (n + 1) 2 (shape ks_spec_FindTeam_l2 x) (h_spec_FindTeam.onOut 2 K) = peRound h_spec_FindTeam (Orc.of (es_spec_FindTeam N)) (mixL (L_spec_FindTeam N) N n 2) c_spec_FindTeam_0 (shape ks_spec_FindTeam_l2 x) (h_spec_FindTeam.onOut 2 K) := by kernel_rfl
theorem fn_spec_FindTeam (N : Nat) (x : AVals sg_spec_FindTeam) (kf : Ret → Option Ret) : F_spec_FindTeam N x kf = peFunc h_spec_FindTeam (Orc.of (es_spec_FindTeam N)) (L_spec_FindTeam N N) Try.f77 (ashape sg_spec_FindTeam x) kf := by kernel_rfl
theorem sd_spec_FindTeam (N : Nat) : Sound Try.prog 77 (run_spec_FindTeam N) := fun_ok2 (hh := h_spec_FindTeam) mixed tab_ok (es := es_spec_FindTeam N) trivial (fn := Try.f77) (body := body_spec_FindTeam) (by kernel_rfl) (by kernel_rfl) (by kernel_rfl) (by kernel_rfl) (by kernel_rfl) (Lf := L_spec_FindTeam N) (L0_spec_FindTeam N) ls_spec_FindTeam (round_cons (key := 2) (ks := ks_spec_FindTeam_l2) (by kernel_rfl) (by kernel_rfl) (rd_spec_FindTeam_2 N) trivial) (N := N) (by kernel_rfl) (fn_spec_FindTeam N)
/-! spec_l19Count -/
noncomputable def ks_spec_l19Count_l3 : List Kd := [.v (.sl (.int .i64)) .k, .v (.int .i64) .k, dK, dK, dK, .v (.int .i64) .k, .v (.int .i64) .k, dK, dK, dK, dK, dK, dK, dK, dK, dK, dK, dK, dK, dK, dK, dK]
noncomputable def ko_spec_l19Count_l3_0 : List Kd := [dK, dK, dK, dK, dK, .v (.int .i64) .k, dK, dK, dK, dK, dK, dK, dK, dK, dK, dK, dK, dK, dK, dK, dK, dK]
noncomputable def h_spec_l19Count : Hint := { tab, hn := [], loops := [(3, ks_spec_l19Count_l3)], outs := [(3, 2, ko_spec_l19Count_l3_0)], ords := [] }
noncomputable def sg_spec_l19Count : List AK := [.v (.sl (.int .i64)) .k, .v (.int .i64) .k]
noncomputable def F_spec_l19Count (N : Nat) (x : AVals sg_spec_l19Count) (kf : Ret → Option Ret) : Option Ret := spec_l19Count N x.1 x.2.1 (fun r0 => kf ⟨[⟨(.int .i64), .k, r0⟩], []⟩)
noncomputable def run_spec_l19Count (N : Nat) := runOf sg_spec_l19Count (F_spec_l19Count N)
noncomputable def es_spec_l19Count (N : Nat) : List Entry := []
noncomputable def body_spec_l19Count : Code := match Try.f78.body with | some c => c | none => .skip
noncomputable def L_spec_l19Count (N n : Nat) (key : Nat) (S : St) (K : Ks) : Option Ret := bif Nat.beq key 3 then withVals ks_spec_l19Count_l3 S (fun x => spec_l19Count_l3 x.1 x.2.1 n (fun z0 => K (.x 0) (shape ko_spec_l19Count_l3_0 (z0, ()))) x.2.2.1 x.2.2.2.1) else none
theorem L0_spec_l19Count (N key : Nat) (S : St) (K : Ks) : L_spec_l19Count N 0 key S K = none := (bif0 (withVals0 fun _ => rfl) rfl)
noncomputable def c_spec_l19Count_0 : Code := (loopsIn body_spec_l19Count).getD 0 .skip
theorem ls_spec_l19Count : loopsIn body_spec_l19Count = [c_spec_l19Count_0] := by kernel_rfl
theorem rd_spec_l19Count_3 (N n : Nat) (x : Vals ks_spec_l19Count_l3) (K : Ks) : L_spec_l19Count N (n + 1) 3 (shape ks_spec_l19Count_l3 x) (h_spec_l19Count.onOut 3 K) = peRound h_spec_l19Count (Orc.of (es_spec_l19Count N)) (mixL (L_spec_l19Count N) N n 3) c_spec_l19Count_0 (shape ks_spec_l19Count_l3 x) (h_spec_l19Count.onOut 3 K) := by kernel_rfl
theorem fn_spec_l19Count (N : Nat) (x : AVals sg_spec_l19Count) (kf : Ret → Option Ret) : F_spec_l19Count N x kf = peFunc h_spec_l19Count (Orc.of (es_spec_l19Count N)) (L_spec_l19Count N N) Try.f78 (ashape sg_spec_l19Count x) kf := by kernel_rfl
theorem sd_spec_l19Count (N : Nat) : Sound Try.prog 78 (run_spec_l19Count N) := fun_ok2 (hh := h_spec_l19Count) mixed tab_ok (es := es_spec_l19Count N) trivial (fn := Try.f78) (body := body_spec_l19Count) (by kernel_rfl) (by kernel_rfl) (by kernel_rfl) (by kernel_rfl) (by kernel_rfl) (Lf := L_spec_l19Count N) (L0_spec_l19Count N) ls_spec_l19Count (round_cons (key := 3) (ks := ks_spec_l19Count_l3) (by kernel_rfl) (by kernel_rfl) (rd_spec_l19Count_3 N) trivial) (N := N) (by kernel_rfl) (fn_spec_l19Count N)
/-! spec_AreTeams -/
noncomputable def ks_spec_AreTeams_l8 : List Kd := [.v (.sl tQIIIIILIE) .k, dK, dK, .v (.int .i64) .k, .v (.ptr tQIIIIILIE) (.o 43 none .k), .v (.int .i64) .k, dK, dK, dK, dK, dK, dK, dK, dK, dK, dK, dK, dK, dK, dK, dK, dK, dK, dK, dK, dK, dK, dK, dK, dK, dK, dK, dK, dK, dK, dK, dK, dK, dK, dK, dK, dK, dK, dK, dK, dK, dK, dK, dK, dK, dK, dK, dK, dK, dK, dK, dK, dK, dK, dK, dK, dK, dK, dK, dK, dK, dK, dK, dK, dK, dK, dK, dK, dK, dK, dK, dK, dK, dK, dK, dK, dK, dK, dK, dK, dK, dK, dK, dK, dK, dK, dK, dK, dK, dK, dK, dK, dK, dK, dK, dK, dK, dK, dK, dK, dK, dK, dK, dK, dK, dK, dK, dK, dK, dK]
noncomputable def ko_spec_AreTeams_l8_0 : List Kd := [.v (.sl tQIIIIILIE) .k, dK, dK, .v (.int .i64) .k, dK, dK, dK, dK, dK, dK, dK, dK, dK, dK, dK, dK, dK, dK, dK, dK, dK, dK, dK, dK, dK, dK, dK, dK, dK, dK, dK, dK, dK, dK, dK, dK, dK, dK, dK, dK, dK, dK, dK, dK, dK, dK, dK, dK, dK, dK, dK, dK, dK, dK, dK, dK, dK, dK, dK, dK, dK, dK, dK, dK, dK, dK, dK, dK, dK, dK, dK, dK, dK, dK, dK, dK, dK, dK, dK, dK, dK, dK, dK, dK, dK, dK, dK, dK, dK, dK, dK, dK, dK, dK, dK, dK, dK, dK, dK, dK, dK, dK, dK, dK, dK, dK, dK, dK, dK, dK, dK, dK, dK, dK, dK]
noncomputable def ko_spec_AreTeams_l8_1 : List Kd := [dK, dK, .v .bool .k, dK, dK, dK, dK, dK, dK, dK, dK, dK, dK, dK, dK, dK, dK, dK, dK, dK, dK, dK, dK, dK, dK, dK, dK, dK, dK, dK, dK, dK, dK, dK, dK, dK, dK, dK, dK, dK, dK, dK, dK, dK, dK, dK, dK, dK, dK, dK, dK, dK, dK, dK, dK, dK, dK, dK, dK, dK, dK, dK, dK, dK, dK, dK, dK, dK, dK, dK, dK, dK, dK, dK, dK, dK, dK, dK, dK, dK, dK, dK, dK, dK, dK, dK, dK, dK, dK, dK, dK, dK, dK, dK, dK, dK, dK, dK, dK, dK, dK, dK, dK, dK, dK, dK, dK, dK, dK, dK, dK, dK, dK, dK, dK]
noncomputable def ks_spec_AreTeams_l2 : List Kd := [.v (.sl tQIIIIILIE) .k, dK, dK, .v (.int .i64) .k, dK, dK, dK, dK, dK, dK, dK, dK, dK, dK, dK, dK, dK, dK, dK, dK, dK, dK, dK, dK, dK, dK, dK, dK, dK, dK, dK, dK, dK, dK, dK, dK, dK, dK, dK, dK, dK, dK, dK, dK, dK, dK, dK, dK, dK, dK, dK, dK, dK, dK, dK, dK, dK, dK, dK, dK, dK, dK, dK, dK, dK, dK, dK, dK, dK, dK, dK, dK, dK, dK, dK, dK, dK, dK, dK, dK, dK, dK, dK, dK, dK, dK, dK, dK, dK, dK, dK, dK, dK, dK, dK, dK, dK, dK, dK, dK, dK, dK, dK, dK, dK, dK, dK, dK, dK, dK, dK, dK, dK, dK, dK]
noncomputable def ko_spec_AreTeams_l2_0 : List Kd := [.v (.sl tQIIIIILIE) .k, dK, dK, dK, dK, dK, dK, dK, dK, dK, dK, dK, dK, dK, dK, dK, dK, dK, dK, dK, dK, dK, dK, dK, dK, dK, dK, dK, dK, dK, dK, dK, dK, dK, dK, dK, dK, dK, dK, dK, dK, dK, dK, dK, dK, dK, dK, dK, dK, dK, dK, dK, dK, dK, dK, dK, dK, dK, dK, dK, dK, dK, dK, dK, dK, dK, dK, dK, dK, dK, dK, dK, dK, dK, dK, dK, dK, dK, dK, dK, dK, dK, dK, dK, dK, dK, dK, dK, dK, dK, dK, dK, dK, dK, dK, dK, dK, dK, dK, dK, dK, dK, dK, dK, dK, dK, dK, dK, dK, dK, dK, dK, dK, dK, dK]
noncomputable def ko_spec_AreTeams_l2_1 : List Kd := [dK, dK, .v .bool .k, dK, dK, dK, dK, dK, dK, dK, dK, dK, dK, dK, dK, dK, dK, dK, dK, dK, dK, dK, dK, dK, dK, dK, dK, dK, dK, dK, dK, dK, dK, dK, dK, dK, dK, dK, dK, dK, dK, dK, dK, dK, dK, dK, dK, dK, dK, dK, dK, dK, dK, dK, dK, dK, dK, dK, dK, dK, dK, dK, dK, dK, dK, dK, dK, dK, dK, dK, dK, dK, dK, dK, dK, dK, dK, dK, dK, dK, dK, dK, dK, dK, dK, dK, dK, dK, dK, dK, dK, dK, dK, dK, dK, dK, dK, dK, dK, dK, dK, dK, dK, dK, dK, dK, dK, dK, dK, dK, dK, dK, dK, dK, dK]
noncomputable def h_spec_AreTeams : Hint := { tab, hn := [], loops := [(8, ks_spec_AreTeams_l8), (2, ks_spec_AreTeams_l2)], outs := [(8, 4, ko_spec_AreTeams_l8_0), (8, 1, ko_spec_AreTeams_l8_1), (2, 2, ko_spec_AreTeams_l2_0), (2, 1, ko_spec_AreTeams_l2_1)], ords := [(5, [0, 1, 2, 3, 4, 5, 6, 7, 8, 9, 10, 11, 12, 13, 14, 15, 16, 17, 18, 19, 20, 21, 22, 23, 24, 25, 26, 27, 28, 29, 30, 31, 32, 33, 34, 35, 36, 37, 38, 39, 40, 41, 42, 43, 44, 45, 46, 47, 48, 49, 50, 51, 52, 53, 54]), (11, [0, 1, 2, 3, 4, 5, 6, 7, 8, 9, 10, 11, 12, 13, 14, 16, 17, 18, 19, 20, 21, 22, 15, 23, 24, 25])] }
noncomputable def sg_spec_AreTeams : List AK := [.v (.sl tQIIIIILIE) .k]
noncomputable def F_spec_AreTeams (N : Nat) (x : AVals sg_spec_AreTeams) (kf : Ret → Option Ret) : Option Ret := spec_AreTeams N x.1 (fun r0 => kf ⟨[⟨.bool, .k, r0⟩], []⟩)
noncomputable def run_spec_AreTeams (N : Nat) := runOf sg_spec_AreTeams (F_spec_AreTeams N)
noncomputable def es_spec_AreTeams (N : Nat) : List Entry := [⟨54, [.val, .val, .val], (run_spec_l1In N)⟩, ⟨77, [.val, .val], (run_spec_FindTeam N)⟩, ⟨78, [.val, .val], (run_spec_l19Count N)⟩]
noncomputable def body_spec_AreTeams : Code := match Try.f71.body with | some c => c | none => .skip
noncomputable def L_spec_AreTeams (N n : Nat) (key : Nat) (S : St) (K : Ks) : Option Ret := bif Nat.beq key 2 then withVals ks_spec_AreTeams_l2 S (fun x => spec_AreTeams_l2 N x.1 n (K (.x 0) (shape ko_spec_AreTeams_l2_0 (x.1, ()))) (fun z0 => K .r (shape ko_spec_AreTeams_l2_1 (z0, ()))) x.2.1) else bif Nat.beq key 8 then withVals ks_spec_AreTeams_l8 S (fun x => spec_AreTeams_l8 N x.1 x.2.1 x.2.2.1 n (K (.x 2) (shape ko_spec_AreTeams_l8_0 (x.1, x.2.1, ()))) (fun z0 => K .r (shape ko_spec_AreTeams_l8_1 (z0, ()))) x.2.2.2.1) else none
theorem L0_spec_AreTeams (N key : Nat) (S : St) (K : Ks) : L_spec_AreTeams N 0 key S K = none := (bif0 (withVals0 fun _ => rfl) (bif0 (withVals0 fun _ => rfl) rfl))
noncomputable def c_spec_AreTeams_0 : Code := (loopsIn body_spec_AreTeams).getD 0 .skip
noncomputable def c_spec_AreTeams_1 : Code := (loopsIn body_spec_AreTeams).getD 1 .skip
theorem ls_spec_AreTeams : loopsIn body_spec_AreTeams = [c_spec_AreTeams_0, c_spec_AreTeams_1] := by kernel_rfl
theorem rd_spec_AreTeams_8 (N n : Nat) (x : Vals ks_spec_AreTeams_l8) (K : Ks) : L_spec_AreTeams N (n + 1) 8 (shape ks_spec_AreTeams_l8 x) (h_spec_AreTeams.onOut 8 K) = peRound h_spec_AreTeams (Orc.of (es_spec_AreTeams N)) (mixL (L_spec_AreTeams N) N n 8) c_spec_AreTeams_1 (shape ks_spec_AreTeams_l8 x) (h_spec_AreTeams.onOut 8 K) := by kernel_rfl
theorem rd_spec_AreTeams_2 (N n : Nat) (x : Vals ks_spec_AreTeams_l2) (K : Ks) : L_spec_AreTeams N (n + 1) 2 (shape ks_spec_AreTeams_l2 x) (h_spec_AreTeams.onOut 2 K) = peRound h_spec_AreTeams (Orc.of (es_spec_AreTeams N)) (mixL (L_spec_AreTeams N) N n 2) c_spec_AreTeams_0 (shape ks_spec_AreTeams_l2 x) (h_spec_AreTeams.onOut 2 K) := by kernel_rfl
theorem fn_spec_AreTeams (N : Nat) (x : AVals sg_spec_AreTeams) (kf : Ret → Option Ret) : F_spec_AreTeams N x kf = peFunc h_spec_AreTeams (Orc.of (es_spec_AreTeams N)) (L_spec_AreTeams N N) Try.f71 (ashape sg_spec_AreTeams x) kf := by kernel_rfl
theorem sd_spec_AreTeams (N : Nat) : Sound Try.prog 71 (run_spec_AreTeams N) := fun_ok2 (hh := h_spec_AreTeams) mixed tab_ok (es := es_spec_AreTeams N) ⟨sd_spec_l1In N, ⟨sd_spec_FindTeam N, ⟨sd_spec_l19Count N, trivial⟩⟩⟩ (fn := Try.f71) (body := body_spec_AreTeams) (by kernel_rfl) (by kernel_rfl) (by kernel_rfl) (by kernel_rfl) (by kernel_rfl) (Lf := L_spec_AreTeams N) (L0_spec_AreTeams N) ls_spec_AreTeams (round_cons (key := 2) (ks := ks_spec_AreTeams_l2) (by kernel_rfl) (by kernel_rfl) (rd_spec_AreTeams_2 N) (round_cons (key := 8) (ks := ks_spec_AreTeams_l8) (by kernel_rfl) (by kernel_rfl) (rd_spec_AreTeams_8 N) trivial)) (N := N) (by kernel_rfl) (fn_spec_AreTeams N)
/-! spec_ClubWins -/
noncomputable def ks_spec_ClubWins_l3 : List Kd := [.v (.sl tQIIIIILIE) .k, .v (.int .i64) .k, dK, dK, dK, .v (.int .i64) .k, .v (.int .i64) .k, dK, dK, dK, dK, dK, dK, dK, dK, dK, dK, dK, dK, dK, dK, dK, dK, dK, dK, dK, dK, dK, dK, dK, dK, dK]
noncomputable def ko_spec_ClubWins_l3_0 : List Kd := [dK, dK, dK, dK, dK, .v (.int .i64) .k, dK, dK, dK, dK, dK, dK, dK, dK, dK, dK, dK, dK, dK, dK, dK, dK, dK, dK, dK, dK, dK, dK, dK, dK, dK, dK]
noncomputable def h_spec_ClubWins : Hint := { tab, hn := [], loops := [(3, ks_spec_ClubWins_l3)], outs := [(3, 2, ko_spec_ClubWins_l3_0)], ords := [] }
noncomputable def sg_spec_ClubWins : List AK := [.v (.sl tQIIIIILIE) .k, .v (.int .i64) .k]
noncomputable def F_spec_ClubWins (N : Nat) (x : AVals sg_spec_ClubWins) (kf : Ret → Option Ret) : Option Ret := spec_ClubWins N x.1 x.2.1 (fun r0 => kf ⟨[⟨(.int .i64), .k, r0⟩], []⟩)
noncomputable def run_spec_ClubWins (N : Nat) := runOf sg_spec_ClubWins (F_spec_ClubWins N)
noncomputable def es_spec_ClubWins (N : Nat) : List Entry := [⟨71, [.val], (run_spec_AreTeams N)⟩]
noncomputable def body_spec_ClubWins : Code := match Try.f50.body with | some c => c | none => .skip
noncomputable def L_spec_ClubWins (N n : Nat) (key : Nat) (S : St) (K : Ks) : Option Ret := bif Nat.beq key 3 then withVals ks_spec_ClubWins_l3 S (fun x => spec_ClubWins_l3 N x.1 x.2.1 n (fun z0 => K (.x 0) (shape ko_spec_ClubWins_l3_0 (z0, ()))) x.2.2.1 x.2.2.2.1) else none
theorem L0_spec_ClubWins (N key : Nat) (S : St) (K : Ks) : L_spec_ClubWins N 0 key S K = none := (bif0 (withVals0 fun _ => rfl) rfl)
noncomputable def c_spec_ClubWins_0 : Code := (loopsIn body_spec_ClubWins).getD 0 .skip
theorem ls_spec_ClubWins : loopsIn body_spec_ClubWins = [c_spec_ClubWins_0] := by kernel_rfl
theorem rd_spec_ClubWins_3 (N n : Nat) (x : Vals ks_spec_ClubWins_l3) (K : Ks) : L_spec_ClubWins N (n + 1) 3 (shape ks_spec_ClubWins_l3 x) (h_spec_ClubWins.onOut 3 K) = peRound h_spec_ClubWins (Orc.of (es_spec_ClubWins N)) (mixL (L_spec_ClubWins N) N n 3) c_spec_ClubWins_0 (shape ks_spec_ClubWins_l3 x) (h_spec_ClubWins.onOut 3 K) := by kernel_rfl
theorem fn_spec_ClubWins (N : Nat) (x : AVals sg_spec_ClubWins) (kf : Ret → Option Ret) : F_spec_ClubWins N x kf = peFunc h_spec_ClubWins (Orc.of (es_spec_ClubWins N)) (L_spec_ClubWins N N) Try.f50 (ashape sg_spec_ClubWins x) kf := by kernel_rfl
theorem sd_spec_ClubWins (N : Nat) : Sound Try.prog 50 (run_spec_ClubWins N) := fun_ok2 (hh := h_spec_ClubWins) mixed tab_ok (es := es_spec_ClubWins N) ⟨sd_spec_AreTeams N, trivial⟩ (fn := Try.f50) (body := body_spec_ClubWins) (by kernel_rfl) (by kernel_rfl) (by kernel_rfl) (by kernel_rfl) (by kernel_rfl) (Lf := L_spec_ClubWins N) (L0_spec_ClubWins N) ls_spec_ClubWins (round_cons (key := 3) (ks := ks_spec_ClubWins_l3) (by kernel_rfl) (by kernel_rfl) (rd_spec_ClubWins_3 N) trivial) (N := N) (by kernel_rfl) (fn_spec_ClubWins N)
/-! impl_FindTeam_1 -/
noncomputable def h_impl_FindTeam_1 : Hint := { tab, hn := [], loops := [], outs := [], ords := [] }
noncomputable def sg_impl_FindTeam_1 : List AK := [.v tQIIIIILIE .k, .v (.ptr (.int .i64)) .k]
noncomputable def F_impl_FindTeam_1 (N : Nat) (x : AVals sg_impl_FindTeam_1) (kf : Ret → Option Ret) : Option Ret := impl_FindTeam_1 N x.1 x.2.1 (fun r0 => kf ⟨[⟨.bool, .k, r0⟩], []⟩)
noncomputable def run_impl_FindTeam_1 (N : Nat) := runOf sg_impl_FindTeam_1 (F_impl_FindTeam_1 N)
noncomputable def es_impl_FindTeam_1 (N : Nat) : List Entry := []
noncomputable def body_impl_FindTeam_1 : Code := match Try.f84.body with | some c => c | none => .skip
noncomputable def L_impl_FindTeam_1 (N n : Nat) (key : Nat) (S : St) (K : Ks) : Option Ret := none
theorem L0_impl_FindTeam_1 (N key : Nat) (S : St) (K : Ks) : L_impl_FindTeam_1 N 0 key S K = none := rfl
theorem ls_impl_FindTeam_1 : loopsIn body_impl_FindTeam_1 = [] := by kernel_rfl
theorem fn_impl_FindTeam_1 (N : Nat) (x : AVals sg_impl_FindTeam_1) (kf : Ret → Option Ret) : F_impl_FindTeam_1 N x kf = peFunc h_impl_FindTeam_1 (Orc.of (es_impl_FindTeam_1 N)) (L_impl_FindTeam_1 N N) Try.f84 (ashape sg_impl_FindTeam_1 x) kf := by kernel_rfl
theorem sd_impl_FindTeam_1 (N : Nat) : Sound Try.prog 84 (run_impl_FindTeam_1 N) := fun_ok2 (hh := h_impl_FindTeam_1) mixed tab_ok (es := es_impl_FindTeam_1 N) trivial (fn := Try.f84) (body := body_impl_FindTeam_1) (by kernel_rfl) (by kernel_rfl) (by kernel_rfl) (by kernel_rfl) (by kernel_rfl) (Lf := L_impl_FindTeam_1 N) (L0_impl_FindTeam_1 N) ls_impl_FindTeam_1 trivial (N := N) (by kernel_rfl) (fn_impl_FindTeam_1 N)
/-! slices_IndexFunc -/
noncomputable def ks_slices_IndexFunc_l2 : List Kd := [.v (.sl tQIIIIILIE) .k, .clo 84 [.kv (.ptr (.int .i64))], dK, dK, dK, dK, dK, .v (.int .i64) .k, .v (.int .i64) .k, dK, dK, dK, dK, dK, dK, dK, dK, dK, dK]
noncomputable def ko_slices_IndexFunc_l2_0 : List Kd := [dK, dK, dK, dK, dK, dK, dK, dK, dK, dK, dK, dK, dK, dK, dK, dK, dK, dK, dK]
noncomputable def ko_slices_IndexFunc_l2_1 : List Kd := [dK, dK, dK, dK, .v (.int .i64) .k, dK, dK, dK, dK, dK, dK, dK, dK, dK, dK, dK, dK, dK, dK]
noncomputable def h_slices_IndexFunc : Hint := { tab, hn := [], loops := [(2, ks_slices_IndexFunc_l2)], outs := [(2, 2, ko_slices_IndexFunc_l2_0), (2, 1, ko_slices_IndexFunc_l2_1)], ords := [] }
noncomputable def sg_slices_IndexFunc : List AK := [.v (.sl tQIIIIILIE) .k, .fn 84 [(.ptr (.int .i64))]]
noncomputable def F_slices_IndexFunc (N : Nat) (x : AVals sg_slices_IndexFunc) (kf : Ret → Option Ret) : Option Ret := slices_IndexFunc N x.1 x.2.1.1 (fun r0 => kf ⟨[⟨(.int .i64), .k, r0⟩], []⟩)
noncomputable def run_slices_IndexFunc (N : Nat) := runOf sg_slices_IndexFunc (F_slices_IndexFunc N)
noncomputable def es_slices_IndexFunc (N : Nat) : List Entry := [⟨84, [.val], (run_impl_FindTeam_1 N)⟩]
noncomputable def body_slices_IndexFunc : Code := match Try.f83.body with | some c => c | none => .skip
noncomputable def L_slices_IndexFunc (N n : Nat) (key : Nat) (S : St) (K : Ks) : Option Ret := bif Nat.beq key 2 then withVals ks_slices_IndexFunc_l2 S (fun x => slices_IndexFunc_l2 N x.1 x.2.1.1 x.2.2.1 n (K (.x 0) (shape ko_slices_IndexFunc_l2_0 ())) (fun z0 => K .r (shape ko_slices_IndexFunc_l2_1 (z0, ()))) x.2.2.2.1) else none
theorem L0_slices_IndexFunc (N key : Nat) (S : St) (K : Ks) : L_slices_IndexFunc N 0 key S K = none := (bif0 (withVals0 fun _ => rfl) rfl)
noncomputable def c_slices_IndexFunc_0 : Code := (loopsIn body_slices_IndexFunc).getD 0 .skip
theorem ls_slices_IndexFunc : loopsIn body_slices_IndexFunc = [c_slices_IndexFunc_0] := by kernel_rfl
theorem rd_slices_IndexFunc_2 (N n : Nat) (x : Vals ks_slices_IndexFunc_l2) (K : Ks) : L_slices_IndexFunc N (n + 1) 2 (shape ks_slices_IndexFunc_l2 x) (h_slices_IndexFunc.onOut 2 K) = peRound h_slices_IndexFunc (Orc.of (es_slices_IndexFunc N)) (mixL (L_slices_IndexFunc N) N n 2) c_slices_IndexFunc_0 (shape ks_slices_IndexFunc_l2 x) (h_slices_IndexFunc.onOut 2 K) := by kernel_rfl
theorem fn_slices_IndexFunc (N : Nat) (x : AVals sg_slices_IndexFunc) (kf : Ret → Option Ret) : F_slices_IndexFunc N x kf = peFunc h_slices_IndexFunc (Orc.of (es_slices_IndexFunc N)) (L_slices_IndexFunc N N) Try.f83 (ashape sg_slices_IndexFunc x) kf := by kernel_rfl
theorem sd_slices_IndexFunc (N : Nat) : Sound Try.prog 83 (run_slices_IndexFunc N) := fun_ok2 (hh := h_slices_IndexFunc) mixed tab_ok (es := es_slices_IndexFunc N) ⟨sd_impl_FindTeam_1 N, trivial⟩ (fn := Try.f83) (body := body_slices_IndexFunc) (by kernel_rfl) (by kernel_rfl) (by kernel_rfl) (by kernel_rfl) (by kernel_rfl) (Lf := L_slices_IndexFunc N) (L0_slices_IndexFunc N) ls_slices_IndexFunc (round_cons (key := 2) (ks := ks_slices_IndexFunc_l2) (by kernel_rfl) (by kernel_rfl) (rd_slices_IndexFunc_2 N) trivial) (N := N) (by kernel_rfl) (fn_slices_IndexFunc N)
/-! impl_FindTeam -/
noncomputable def h_impl_FindTeam : Hint := { tab, hn := [], loops := [], outs := [], ords := [] }
noncomputable def sg_impl_FindTeam : List AK := [.v (.sl tQIIIIILIE) .k, .v (.int .i64) .k]
noncomputable def F_impl_FindTeam (N : Nat) (x : AVals sg_impl_FindTeam) (kf : Ret → Option Ret) : Option Ret := impl_FindTeam N x.1 x.2.1 (fun r0 => kf ⟨[⟨(.int .i64), .k, r0⟩], []⟩)
noncomputable def run_impl_FindTeam (N : Nat) := runOf sg_impl_FindTeam (F_impl_FindTeam N)
noncomputable def es_impl_FindTeam (N : Nat) : List Entry := [⟨83, [.val, .val], (run_slices_IndexFunc N)⟩]
noncomputable def body_impl_FindTeam : Code := match Try.f79.body with | some c => c | none => .skip
noncomputable def L_impl_FindTeam (N n : Nat) (key : Nat) (S : St) (K : Ks) : Option Ret := none
theorem L0_impl_FindTeam (N key : Nat) (S : St) (K : Ks) : L_impl_FindTeam N 0 key S K = none := rfl
theorem ls_impl_FindTeam : loopsIn body_impl_FindTeam = [] := by kernel_rfl
theorem fn_impl_FindTeam (N : Nat) (x : AVals sg_impl_FindTeam) (kf : Ret → Option Ret) : F_impl_FindTeam N x kf = peFunc h_impl_FindTeam (Orc.of (es_impl_FindTeam N)) (L_impl_FindTeam N N) Try.f79 (ashape sg_impl_FindTeam x) kf := by kernel_rfl
theorem sd_impl_FindTeam (N : Nat) : Sound Try.prog 79 (run_impl_FindTeam N) := fun_ok2 (hh := h_impl_FindTeam) mixed tab_ok (es := es_impl_FindTeam N) ⟨sd_slices_IndexFunc N, trivial⟩ (fn := Try.f79) (body := body_impl_FindTeam) (by kernel_rfl) (by kernel_rfl) (by kernel_rfl) (by kernel_rfl) (by kernel_rfl) (Lf := L_impl_FindTeam N) (L0_impl_FindTeam N) ls_impl_FindTeam trivial (N := N) (by kernel_rfl) (fn_impl_FindTeam N)
/-! impl_times -/
noncomputable def ks_impl_times_l3 : List Kd := [dK, .v (.int .i64) .k, dK, dK, dK, .v (.int .i64) .k, dK, dK, .v (.sl (.int .i64)) .k, .v (.int .i64) .k, .v (.int .i64) .k, dK, dK, dK, dK, dK, dK, dK, dK, dK, dK]
noncomputable def ko_impl_times_l3_0 : List Kd := [dK, dK, dK, dK, dK, .v (.int .i64) .k, dK, dK, dK, dK, dK, dK, dK, dK, dK, dK, dK, dK, dK, dK, dK]
noncomputable def h_impl_times : Hint := { tab, hn := [], loops := [(3, ks_impl_times_l3)], outs := [(3, 2, ko_impl_times_l3_0)], ords := [] }
noncomputable def sg_impl_times : List AK := [.v (.sl (.int .i64)) .k, .v (.int .i64) .k]
noncomputable def F_impl_times (N : Nat) (x : AVals sg_impl_times) (kf : Ret → Option Ret) : Option Ret := impl_times N x.1 x.2.1 (fun r0 => kf ⟨[⟨(.int .i64), .k, r0⟩], []⟩)
noncomputable def run_impl_times (N : Nat) := runOf sg_impl_times (F_impl_times N)
noncomputable def es_impl_times (N : Nat) : List Entry := []
noncomputable def body_impl_times : Code := match Try.f80.body with | some c => c | none => .skip
noncomputable def L_impl_times (N n : Nat) (key : Nat) (S : St) (K : Ks) : Option Ret := bif Nat.beq key 3 then withVals ks_impl_times_l3 S (fun x => impl_times_l3 x.1 x.2.2.1 x.2.2.2.1 n (fun z0 => K (.x 0) (shape ko_impl_times_l3_0 (z0, ()))) x.2.1 x.2.2.2.2.1) else none
theorem L0_impl_times (N key : Nat) (S : St) (K : Ks) : L_impl_times N 0 key S K = none := (bif0 (withVals0 fun _ => rfl) rfl)
noncomputable def c_impl_times_0 : Code := (loopsIn body_impl_times).getD 0 .skip
theorem ls_impl_times : loopsIn body_impl_times = [c_impl_times_0] := by kernel_rfl
theorem rd_impl_times_3 (N n : Nat) (x : Vals ks_impl_times_l3) (K : Ks) : L_impl_times N (n + 1) 3 (shape ks_impl_times_l3 x) (h_impl_times.onOut 3 K) = peRound h_impl_times (Orc.of (es_impl_times N)) (mixL (L_impl_times N) N n 3) c_impl_times_0 (shape ks_impl_times_l3 x) (h_impl_times.onOut 3 K) := by kernel_rfl
theorem fn_impl_times (N : Nat) (x : AVals sg_impl_times) (kf : Ret → Option Ret) : F_impl_times N x kf = peFunc h_impl_times (Orc.of (es_impl_times N)) (L_impl_times N N) Try.f80 (ashape sg_impl_times x) kf := by kernel_rfl
theorem sd_impl_times (N : Nat) : Sound Try.prog 80 (run_impl_times N) := fun_ok2 (hh := h_impl_times) mixed tab_ok (es := es_impl_times N) trivial (fn := Try.f80) (body := body_impl_times) (by kernel_rfl) (by kernel_rfl) (by kernel_rfl) (by kernel_rfl) (by kernel_rfl) (Lf := L_impl_times N) (L0_impl_times N) ls_impl_times (round_cons (key := 3) (ks := ks_impl_times_l3) (by kernel_rfl) (by kernel_rfl) (rd_impl_times_3 N) trivial) (N := N) (by kernel_rfl) (fn_impl_times N)
/-! impl_AreTeams -/
noncomputable def ks_impl_AreTeams_l10 : List Kd := [.v (.sl tQIIIIILIE) .k, dK, dK, dK, .v (.ptr tQIIIIILIE) (.o 43 none .k), dK, dK, dK, dK, dK, dK, dK, .v (.sl tQIIIIILIE) .k, .v (.int .i64) .k, .v (.int .i64) .k, dK, dK, dK, dK, dK, dK, dK, dK, dK, dK, dK, dK, dK, dK, dK, dK, dK, dK, dK, dK, dK, dK, dK, dK, dK, dK, dK, dK, dK, dK, dK, dK, dK, dK, dK, dK, dK, dK, dK, dK, dK, dK, dK, dK, dK, dK, dK, dK, dK, dK, dK, dK, dK, dK, dK, dK, dK, .v (.sl (.int .i64)) .k, .v (.int .i64) .k, .v (.int .i64) .k, dK, dK, dK, dK, dK, dK, dK, dK, dK, dK, dK, dK, dK, dK, dK, dK, dK, dK, dK, dK, dK, dK, dK, dK, dK, dK, dK, dK, dK, dK, dK]
noncomputable def ko_impl_AreTeams_l10_0 : List Kd := [.v (.sl tQIIIIILIE) .k, dK, dK, dK, dK, dK, dK, dK, dK, dK, dK, dK, .v (.sl tQIIIIILIE) .k, .v (.int .i64) .k, .v (.int .i64) .k, dK, dK, dK, dK, dK, dK, dK, dK, dK, dK, dK, dK, dK, dK, dK, dK, dK, dK, dK, dK, dK, dK, dK, dK, dK, dK, dK, dK, dK, dK, dK, dK, dK, dK, dK, dK, dK, dK, dK, dK, dK, dK, dK, dK, dK, dK, dK, dK, dK, dK, dK, dK, dK, dK, dK, dK, dK, dK, dK, dK, dK, dK, dK, dK, dK, dK, dK, dK, dK, dK, dK, dK, dK, dK, dK, dK, dK, dK, dK, dK, dK, dK, dK, dK, dK, dK, dK, dK, dK, dK, dK]
noncomputable def ko_impl_AreTeams_l10_1 : List Kd := [dK, dK, .v .bool .k, dK, dK, dK, dK, dK, dK, dK, dK, dK, dK, dK, dK, dK, dK, dK, dK, dK, dK, dK, dK, dK, dK, dK, dK, dK, dK, dK, dK, dK, dK, dK, dK, dK, dK, dK, dK, dK, dK, dK, dK, dK, dK, dK, dK, dK, dK, dK, dK, dK, dK, dK, dK, dK, dK, dK, dK, dK, dK, dK, dK, dK, dK, dK, dK, dK, dK, dK, dK, dK, dK, dK, dK, dK, dK, dK, dK, dK, dK, dK, dK, dK, dK, dK, dK, dK, dK, dK, dK, dK, dK, dK, dK, dK, dK, dK, dK, dK, dK, dK, dK, dK, dK, dK]
noncomputable def ks_impl_AreTeams_l4 : List Kd := [.v (.sl tQIIIIILIE) .k, dK, dK, dK, dK, dK, dK, dK, dK, dK, dK, dK, .v (.sl tQIIIIILIE) .k, .v (.int .i64) .k, .v (.int .i64) .k, dK, dK, dK, dK, dK, dK, dK, dK, dK, dK, dK, dK, dK, dK, dK, dK, dK, dK, dK, dK, dK, dK, dK, dK, dK, dK, dK, dK, dK, dK, dK, dK, dK, dK, dK, dK, dK, dK, dK, dK, dK, dK, dK, dK, dK, dK, dK, dK, dK, dK, dK, dK, dK, dK, dK, dK, dK, dK, dK, dK, dK, dK, dK, dK, dK, dK, dK, dK, dK, dK, dK, dK, dK, dK, dK, dK, dK, dK, dK, dK, dK, dK, dK, dK, dK, dK, dK, dK, dK, dK, dK]
noncomputable def ko_impl_AreTeams_l4_0 : List Kd := [dK, dK, dK, dK, dK, dK, dK, dK, dK, dK, dK, dK, dK, dK, dK, dK, dK, dK, dK, dK, dK, dK, dK, dK, dK, dK, dK, dK, dK, dK, dK, dK, dK, dK, dK, dK, dK, dK, dK, dK, dK, dK, dK, dK, dK, dK, dK, dK, dK, dK, dK, dK, dK, dK, dK, dK, dK, dK, dK, dK, dK, dK, dK, dK, dK, dK, dK, dK, dK, dK, dK, dK, dK, dK, dK, dK, dK, dK, dK, dK, dK, dK, dK, dK, dK, dK, dK, dK, dK, dK, dK, dK, dK, dK, dK, dK, dK, dK, dK, dK, dK, dK, dK, dK, dK, dK]
noncomputable def ko_impl_AreTeams_l4_1 : List Kd := [dK, dK, .v .bool .k, dK, dK, dK, dK, dK, dK, dK, dK, dK, dK, dK, dK, dK, dK, dK, dK, dK, dK, dK, dK, dK, dK, dK, dK, dK, dK, dK, dK, dK, dK, dK, dK, dK, dK, dK, dK, dK, dK, dK, dK, dK, dK, dK, dK, dK, dK, dK, dK, dK, dK, dK, dK, dK, dK, dK, dK, dK, dK, dK, dK, dK, dK, dK, dK, dK, dK, dK, dK, dK, dK, dK, dK, dK, dK, dK, dK, dK, dK, dK, dK, dK, dK, dK, dK, dK, dK, dK, dK, dK, dK, dK, dK, dK, dK, dK, dK, dK, dK, dK, dK, dK, dK, dK]
noncomputable def h_impl_AreTeams : Hint := { tab, hn := [], loops := [(10, ks_impl_AreTeams_l10), (4, ks_impl_AreTeams_l4)], outs := [(10, 4, ko_impl_AreTeams_l10_0), (10, 1, ko_impl_AreTeams_l10_1), (4, 2, ko_impl_AreTeams_l4_0), (4, 1, ko_impl_AreTeams_l4_1)], ords := [(7, [0, 1, 2, 3, 4, 5, 6, 7, 8, 9, 10, 11, 12, 13, 14, 15, 16, 17, 18, 19, 20, 21, 22, 23, 24, 25, 26, 27, 28, 29, 30, 31, 32, 33, 34, 35, 36, 37, 38, 39, 40, 41, 42, 43, 44, 45, 46, 47, 48]), (13, [0, 1, 2, 3, 4, 5, 6, 7, 8, 9, 10, 11, 13, 14, 15, 16, 17, 18, 19, 12, 20, 21, 22])] }
noncomputable def sg_impl_AreTeams : List AK := [.v (.sl tQIIIIILIE) .k]
noncomputable def F_impl_AreTeams (N : Nat) (x : AVals sg_impl_AreTeams) (kf : Ret → Option Ret) : Option Ret := impl_AreTeams N x.1 (fun r0 => kf ⟨[⟨.bool, .k, r0⟩], []⟩)
noncomputable def run_impl_AreTeams (N : Nat) := runOf sg_impl_AreTeams (F_impl_AreTeams N)
noncomputable def es_impl_AreTeams (N : Nat) : List Entry := [⟨62, [.val, .val, .val], (run_impl_InRange N)⟩, ⟨79, [.val, .val], (run_impl_FindTeam N)⟩, ⟨80, [.val, .val], (run_impl_times N)⟩]
noncomputable def body_impl_AreTeams : Code := match Try.f72.body with | some c => c | none => .skip
noncomputable def L_impl_AreTeams (N n : Nat) (key : Nat) (S : St) (K : Ks) : Option Ret := bif Nat.beq key 4 then withVals ks_impl_AreTeams_l4 S (fun x => impl_AreTeams_l4 N x.1 x.2.1 x.2.2.1 n (K (.x 0) (shape ko_impl_AreTeams_l4_0 ())) (fun z0 => K .r (shape ko_impl_AreTeams_l4_1 (z0, ()))) x.2.2.2.1) else bif Nat.beq key 10 then withVals ks_impl_AreTeams_l10 S (fun x => impl_AreTeams_l10 N x.1 x.2.1 x.2.2.1 x.2.2.2.1 x.2.2.2.2.1 x.2.2.2.2.2.1 x.2.2.2.2.2.2.1 n (K (.x 2) (shape ko_impl_AreTeams_l10_0 (x.1, x.2.2.1, x.2.2.2.1, x.2.2.2.2.1, ()))) (fun z0 => K .r (shape ko_impl_AreTeams_l10_1 (z0, ()))) x.2.2.2.2.2.2.2.1) else none
theorem L0_impl_AreTeams (N key : Nat) (S : St) (K : Ks) : L_impl_AreTeams N 0 key S K = none := (bif0 (withVals0 fun _ => rfl) (bif0 (withVals0 fun _ => rfl) rfl))
noncomputable def c_impl_AreTeams_0 : Code := (loopsIn body_impl_AreTeams).getD 0 .skip
noncomputable def c_impl_AreTeams_1 : Code := (loopsIn body_impl_AreTeams).getD 1 .skip
theorem ls_impl_AreTeams : loopsIn body_impl_AreTeams = [c_impl_AreTeams_0, c_impl_AreTeams_1] := by kernel_rfl
theorem rd_impl_AreTeams_10 (N n : Nat) (x : Vals ks_impl_AreTeams_l10) (K : Ks) : L_impl_AreTeams N (n + 1) 10 (shape ks_impl_AreTeams_l10 x) (h_impl_AreTeams.onOut 10 K) = peRound h_impl_AreTeams (Orc.of (es_impl_AreTeams N)) (mixL (L_impl_AreTeams N) N n 10) c_impl_AreTeams_1 (shape ks_impl_AreTeams_l10 x) (h_impl_AreTeams.onOut 10 K) := by kernel_rfl
theorem rd_impl_AreTeams_4 (N n : Nat) (x : Vals ks_impl_AreTeams_l4) (K : Ks) : L_impl_AreTeams N (n + 1) 4 (shape ks_impl_AreTeams_l4 x) (h_impl_AreTeams.onOut 4 K) = peRound h_impl_AreTeams (Orc.of (es_impl_AreTeams N)) (mixL (L_impl_AreTeams N) N n 4) c_impl_AreTeams_0 (shape ks_impl_AreTeams_l4 x) (h_impl_AreTeams.onOut 4 K) := by kernel_rfl
theorem fn_impl_AreTeams (N : Nat) (x : AVals sg_impl_AreTeams) (kf : Ret → Option Ret) : F_impl_AreTeams N x kf = peFunc h_impl_AreTeams (Orc.of (es_impl_AreTeams N)) (L_impl_AreTeams N N) Try.f72 (ashape sg_impl_AreTeams x) kf := by kernel_rfl
theorem sd_impl_AreTeams (N : Nat) : Sound Try.prog 72 (run_impl_AreTeams N) := fun_ok2 (hh := h_impl_AreTeams) mixed tab_ok (es := es_impl_AreTeams N) ⟨sd_impl_InRange N, ⟨sd_impl_FindTeam N, ⟨sd_impl_times N, trivial⟩⟩⟩ (fn := Try.f72) (body := body_impl_AreTeams) (by kernel_rfl) (by kernel_rfl) (by kernel_rfl) (by kernel_rfl) (by kernel_rfl) (Lf := L_impl_AreTeams N) (L0_impl_AreTeams N) ls_impl_AreTeams (round_cons (key := 4) (ks := ks_impl_AreTeams_l4) (by kernel_rfl) (by kernel_rfl) (rd_impl_AreTeams_4 N) (round_cons (key := 10) (ks := ks_impl_AreTeams_l10) (by kernel_rfl) (by kernel_rfl) (rd_impl_AreTeams_10 N) trivial)) (N := N) (by kernel_rfl) (fn_impl_AreTeams N)
/-! impl_ClubWins -/
noncomputable def ks_impl_ClubWins_l5 : List Kd := [dK, .v (.int .i64) .k, dK, dK, dK, .v (.int .i64) .k, dK, dK, dK, dK, dK, dK, .v (.sl tQIIIIILIE) .k, .v (.int .i64) .k, .v (.int .i64) .k, dK, dK, dK, dK, dK, dK, dK, dK, dK, dK, dK, dK, dK]
noncomputable def ko_impl_ClubWins_l5_0 : List Kd := [dK, dK, dK, dK, dK, .v (.int .i64) .k, dK, dK, dK, dK, dK, dK, dK, dK, dK, dK, dK, dK, dK, dK, dK, dK, dK, dK, dK, dK, dK, dK]
noncomputable def h_impl_ClubWins : Hint := { tab, hn := [], loops := [(5, ks_impl_ClubWins_l5)], outs := [(5, 2, ko_impl_ClubWins_l5_0)], ords := [] }
noncomputable def sg_impl_ClubWins : List AK := [.v (.sl tQIIIIILIE) .k, .v (.int .i64) .k]
noncomputable def F_impl_ClubWins (N : Nat) (x : AVals sg_impl_ClubWins) (kf : Ret → Option Ret) : Option Ret := impl_ClubWins N x.1 x.2.1 (fun r0 => kf ⟨[⟨(.int .i64), .k, r0⟩], []⟩)
noncomputable def run_impl_ClubWins (N : Nat) := runOf sg_impl_ClubWins (F_impl_ClubWins N)
noncomputable def es_impl_ClubWins (N : Nat) : List Entry := [⟨72, [.val], (run_impl_AreTeams N)⟩]
noncomputable def body_impl_ClubWins : Code := match Try.f52.body with | some c => c | none => .skip
noncomputable def L_impl_ClubWins (N n : Nat) (key : Nat) (S : St) (K : Ks) : Option Ret := bif Nat.beq key 5 then withVals ks_impl_ClubWins_l5 S (fun x => impl_ClubWins_l5 x.1 x.2.2.1 x.2.2.2.1 n (fun z0 => K (.x 0) (shape ko_impl_ClubWins_l5_0 (z0, ()))) x.2.1 x.2.2.2.2.1) else none
theorem L0_impl_ClubWins (N key : Nat) (S : St) (K : Ks) : L_impl_ClubWins N 0 key S K = none := (bif0 (withVals0 fun _ => rfl) rfl)
noncomputable def c_impl_ClubWins_0 : Code := (loopsIn body_impl_ClubWins).getD 0 .skip
theorem ls_impl_ClubWins : loopsIn body_impl_ClubWins = [c_impl_ClubWins_0] := by kernel_rfl
theorem rd_impl_ClubWins_5 (N n : Nat) (x : Vals ks_impl_ClubWins_l5) (K : Ks) : L_impl_ClubWins N (n + 1) 5 (shape ks_impl_ClubWins_l5 x) (h_impl_ClubWins.onOut 5 K) = peRound h_impl_ClubWins (Orc.of (es_impl_ClubWins N)) (mixL (L_impl_ClubWins N) N n 5) c_impl_ClubWins_0 (shape ks_impl_ClubWins_l5 x) (h_impl_ClubWins.onOut 5 K) := by kernel_rfl
theorem fn_impl_ClubWins (N : Nat) (x : AVals sg_impl_ClubWins) (kf : Ret → Option Ret) : F_impl_ClubWins N x kf = peFunc h_impl_ClubWins (Orc.of (es_impl_ClubWins N)) (L_impl_ClubWins N N) Try.f52 (ashape sg_impl_ClubWins x) kf := by kernel_rfl
theorem sd_impl_ClubWins (N : Nat) : Sound Try.prog 52 (run_impl_ClubWins N) := fun_ok2 (hh := h_impl_ClubWins) mixed tab_ok (es := es_impl_ClubWins N) ⟨sd_impl_AreTeams N, trivial⟩ (fn := Try.f52) (body := body_impl_ClubWins) (by kernel_rfl) (by kernel_rfl) (by kernel_rfl) (by kernel_rfl) (by kernel_rfl) (Lf := L_impl_ClubWins N) (L0_impl_ClubWins N) ls_impl_ClubWins (round_cons (key := 5) (ks := ks_impl_ClubWins_l5) (by kernel_rfl) (by kernel_rfl) (rd_impl_ClubWins_5 N) trivial) (N := N) (by kernel_rfl) (fn_impl_ClubWins N)
/-! laws_eqTeamS -/
noncomputable def ks_laws_eqTeamS_l4 : List Kd := [.v (.sl tQIIIIILIE) .k, .v (.sl tQIIIIILIE) .k, dK, dK, dK, .v (.int .i64) .k, dK, dK, dK, dK, dK, dK, dK, dK, dK, dK, dK, dK, dK, dK, dK, dK, dK, dK, dK, dK, dK]
noncomputable def ko_laws_eqTeamS_l4_0 : List Kd := [dK, dK, dK, dK, dK, dK, dK, dK, dK, dK, dK, dK, dK, dK, dK, dK, dK, dK, dK, dK, dK, dK, dK, dK, dK, dK, dK]
noncomputable def ko_laws_eqTeamS_l4_1 : List Kd := [dK, dK, dK, dK, .v .bool .k, dK, dK, dK, dK, dK, dK, dK, dK, dK, dK, dK, dK, dK, dK, dK, dK, dK, dK, dK, dK, dK, dK]
noncomputable def h_laws_eqTeamS : Hint := { tab, hn := [], loops := [(4, ks_laws_eqTeamS_l4)], outs := [(4, 2, ko_laws_eqTeamS_l4_0), (4, 1, ko_laws_eqTeamS_l4_1)], ords := [(6, [0, 1, 2, 3, 4, 5, 6, 7, 8, 9])] }
noncomputable def sg_laws_eqTeamS : List AK := [.v (.sl tQIIIIILIE) .k, .v (.sl tQIIIIILIE) .k]
noncomputable def F_laws_eqTeamS (N : Nat) (x : AVals sg_laws_eqTeamS) (kf : Ret → Option Ret) : Option Ret := laws_eqTeamS N x.1 x.2.1 (fun r0 => kf ⟨[⟨.bool, .k, r0⟩], []⟩)
noncomputable def run_laws_eqTeamS (N : Nat) := runOf sg_laws_eqTeamS (F_laws_eqTeamS N)
noncomputable def es_laws_eqTeamS (N : Nat) : List Entry := [⟨30, [.val, .val], (run_laws_eqTeam N)⟩]
noncomputable def body_laws_eqTeamS : Code := match Try.f53.body with | some c => c | none => .skip
noncomputable def L_laws_eqTeamS (N n : Nat) (key : Nat) (S : St) (K : Ks) : Option Ret := bif Nat.beq key 4 then withVals ks_laws_eqTeamS_l4 S (fun x => laws_eqTeamS_l4 N x.1 x.2.1 n (K (.x 0) (shape ko_laws_eqTeamS_l4_0 ())) (fun z0 => K .r (shape ko_laws_eqTeamS_l4_1 (z0, ()))) x.2.2.1) else none
theorem L0_laws_eqTeamS (N key : Nat) (S : St) (K : Ks) : L_laws_eqTeamS N 0 key S K = none := (bif0 (withVals0 fun _ => rfl) rfl)
noncomputable def c_laws_eqTeamS_0 : Code := (loopsIn body_laws_eqTeamS).getD 0 .skip
theorem ls_laws_eqTeamS : loopsIn body_laws_eqTeamS = [c_laws_eqTeamS_0] := by kernel_rfl
theorem rd_laws_eqTeamS_4 (N n : Nat) (x : Vals ks_laws_eqTeamS_l4) (K : Ks) : L_laws_eqTeamS N (n + 1) 4 (shape ks_laws_eqTeamS_l4 x) (h_laws_eqTeamS.onOut 4 K) = peRound h_laws_eqTeamS (Orc.of (es_laws_eqTeamS N)) (mixL (L_laws_eqTeamS N) N n 4) c_laws_eqTeamS_0 (shape ks_laws_eqTeamS_l4 x) (h_laws_eqTeamS.onOut 4 K) := by kernel_rfl
theorem fn_laws_eqTeamS (N : Nat) (x : AVals sg_laws_eqTeamS) (kf : Ret → Option Ret) : F_laws_eqTeamS N x kf = peFunc h_laws_eqTeamS (Orc.of (es_laws_eqTeamS N)) (L_laws_eqTeamS N N) Try.f53 (ashape sg_laws_eqTeamS x) kf := by kernel_rfl
theorem sd_laws_eqTeamS (N : Nat) : Sound Try.prog 53 (run_laws_eqTeamS N) := fun_ok2 (hh := h_laws_eqTeamS) mixed tab_ok (es := es_laws_eqTeamS N) ⟨sd_laws_eqTeam N, trivial⟩ (fn := Try.f53) (body := body_laws_eqTeamS) (by kernel_rfl) (by kernel_rfl) (by kernel_rfl) (by kernel_rfl) (by kernel_rfl) (Lf := L_laws_eqTeamS N) (L0_laws_eqTeamS N) ls_laws_eqTeamS (round_cons (key := 4) (ks := ks_laws_eqTeamS_l4) (by kernel_rfl) (by kernel_rfl) (rd_laws_eqTeamS_4 N) trivial) (N := N) (by kernel_rfl) (fn_laws_eqTeamS N)
/-! laws_FnExactClubWins -/
noncomputable def h_laws_FnExactClubWins : Hint := { tab, hn := [], loops := [], outs := [], ords := [] }
noncomputable def sg_laws_FnExactClubWins : List AK := [.v (.sl tQIIIIILIE) .k, .v (.int .i64) .k]
noncomputable def F_laws_FnExactClubWins (N : Nat) (x : AVals sg_laws_FnExactClubWins) (kf : Ret → Option Ret) : Option Ret := laws_FnExactClubWins N x.1 x.2.1 (fun r0 => kf ⟨[⟨.bool, .k, r0⟩], []⟩)
noncomputable def run_laws_FnExactClubWins (N : Nat) := runOf sg_laws_FnExactClubWins (F_laws_FnExactClubWins N)
noncomputable def es_laws_FnExactClubWins (N : Nat) : List Entry := [⟨49, [.val, .val], (run_laws_szTeamS N)⟩, ⟨51, [.val], (run_laws_toTeamS N)⟩, ⟨50, [.val, .val], (run_spec_ClubWins N)⟩, ⟨52, [.val, .val], (run_impl_ClubWins N)⟩, ⟨53, [.val, .val], (run_laws_eqTeamS N)⟩]
noncomputable def body_laws_FnExactClubWins : Code := match Try.f13.body with | some c => c | none => .skip
noncomputable def L_laws_FnExactClubWins (N n : Nat) (key : Nat) (S : St) (K : Ks) : Option Ret := none
theorem L0_laws_FnExactClubWins (N key : Nat) (S : St) (K : Ks) : L_laws_FnExactClubWins N 0 key S K = none := rfl
theorem ls_laws_FnExactClubWins : loopsIn body_laws_FnExactClubWins = [] := by kernel_rfl
theorem fn_laws_FnExactClubWins (N : Nat) (x : AVals sg_laws_FnExactClubWins) (kf : Ret → Option Ret) : F_laws_FnExactClubWins N x kf = peFunc h_laws_FnExactClubWins (Orc.of (es_laws_FnExactClubWins N)) (L_laws_FnExactClubWins N N) Try.f13 (ashape sg_laws_FnExactClubWins x) kf := by kernel_rfl
theorem sd_laws_FnExactClubWins (N : Nat) : Sound Try.prog 13 (run_laws_FnExactClubWins N) := fun_ok2 (hh := h_laws_FnExactClubWins) mixed tab_ok (es := es_laws_FnExactClubWins N) ⟨sd_laws_szTeamS N, ⟨sd_laws_toTeamS N, ⟨sd_spec_ClubWins N, ⟨sd_impl_ClubWins N, ⟨sd_laws_eqTeamS N, trivial⟩⟩⟩⟩⟩ (fn := Try.f13) (body := body_laws_FnExactClubWins) (by kernel_rfl) (by kernel_rfl) (by kernel_rfl) (by kernel_rfl) (by kernel_rfl) (Lf := L_laws_FnExactClubWins N) (L0_laws_FnExactClubWins N) ls_laws_FnExactClubWins trivial (N := N) (by kernel_rfl) (fn_laws_FnExactClubWins N)
end Go.Pv.R
