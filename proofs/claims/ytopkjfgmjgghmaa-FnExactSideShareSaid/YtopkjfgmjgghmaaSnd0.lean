/- Each function of the program that the law reaches computes its plain function, part 0. -/
import Derived.Test.YtopkjfgmjgghmaaRes
import Derived.Test.YtopkjfgmjgghmaaProg
namespace Go.Pv.R
open Go.Proofs
set_option linter.unusedVariables false
set_option maxRecDepth 100000
noncomputable abbrev dK : Kd := .dead
noncomputable def tab : Tab := [⟨2, (.int .i64), 0, []⟩, ⟨3, (.int .i64), 0, []⟩, ⟨4, .bool, 0, []⟩, ⟨5, (.int .u8), 0, []⟩, ⟨9, .str, 0, []⟩, ⟨12, (.int .u64), 0, []⟩, ⟨21, (.int .i32), 0, []⟩, ⟨24, (.sl tQIIIIE), 77, []⟩, ⟨27, (.sl tQIIIIE), 75, []⟩, ⟨31, (.sl tQIIIIE), 82, []⟩, ⟨34, (.sl tQIIIIE), 80, []⟩, ⟨38, (.sl (.int .i64)), 3, []⟩, ⟨39, tQIIIIILIE, 0, [3, 3, 3, 3, 3, 38]⟩, ⟨40, tQIIIIILIE, 0, [3, 3, 3, 3, 3, 38]⟩, ⟨43, tQIIIIILIE, 0, [3, 3, 3, 3, 3, 38]⟩, ⟨47, (.sl (.sl (.int .i64))), 38, []⟩, ⟨48, tQILLIE, 0, [3, 47]⟩, ⟨49, tQILLIE, 0, [3, 47]⟩, ⟨54, (.sl tQIILIE), 91, []⟩, ⟨57, (.sl tQIILIE), 92, []⟩, ⟨64, (.sl tQIIIIILIE), 40, []⟩, ⟨67, (.sl tQIIIIILIE), 43, []⟩, ⟨72, (.sl .str), 9, []⟩, ⟨74, tQIIIIE, 0, [3, 3, 3, 3]⟩, ⟨75, tQIIIIE, 0, [3, 3, 3, 3]⟩, ⟨77, tQIIIIE, 0, [3, 3, 3, 3]⟩, ⟨79, tQIIIIE, 0, [3, 3, 3, 3]⟩, ⟨80, tQIIIIE, 0, [3, 3, 3, 3]⟩, ⟨82, tQIIIIE, 0, [3, 3, 3, 3]⟩, ⟨90, tQIILIE, 0, [3, 3, 38]⟩, ⟨91, tQIILIE, 0, [3, 3, 38]⟩, ⟨92, tQIILIE, 0, [3, 3, 38]⟩, ⟨108, (.int .u32), 0, []⟩]
theorem mixed : Try.prog.follows .mixedOrders = true := by kernel_rfl
theorem tab_ok : tabB Try.prog tab = true := by kernel_rfl
/-! spec_l1In -/
noncomputable def h_spec_l1In : Hint := { tab, hn := [], loops := [], outs := [], ords := [] }
noncomputable def sg_spec_l1In : List AK := [.v (.int .i64) .k, .v (.int .i64) .k, .v (.int .i64) .k]
noncomputable def F_spec_l1In (N : Nat) (x : AVals sg_spec_l1In) (kf : Ret → Option Ret) : Option Ret := spec_l1In N x.1 x.2.1 x.2.2.1 (fun r0 => kf ⟨[⟨.bool, .k, r0⟩], []⟩)
noncomputable def run_spec_l1In (N : Nat) := runOf sg_spec_l1In (F_spec_l1In N)
noncomputable def es_spec_l1In (N : Nat) : List Entry := []
noncomputable def body_spec_l1In : Code := match Try.f54.body with | some c => c | none => .skip
noncomputable def L_spec_l1In (N n : Nat) (key : Nat) (S : St) (K : Ks) : Option Ret := none
theorem L0_spec_l1In (N key : Nat) (S : St) (K : Ks) : L_spec_l1In N 0 key S K = none := rfl
theorem ls_spec_l1In : loopsIn body_spec_l1In = [] := by kernel_rfl
theorem fn_spec_l1In (N : Nat) (x : AVals sg_spec_l1In) (kf : Ret → Option Ret) : F_spec_l1In N x kf = peFunc h_spec_l1In (Orc.of (es_spec_l1In N)) (L_spec_l1In N N) Try.f54 (ashape sg_spec_l1In x) kf := by kernel_rfl
theorem sd_spec_l1In (N : Nat) : Sound Try.prog 54 (run_spec_l1In N) := fun_ok2 (hh := h_spec_l1In) mixed tab_ok (es := es_spec_l1In N) trivial (fn := Try.f54) (body := body_spec_l1In) (by kernel_rfl) (by kernel_rfl) (by kernel_rfl) (by kernel_rfl) (by kernel_rfl) (Lf := L_spec_l1In N) (L0_spec_l1In N) ls_spec_l1In trivial (N := N) (by kernel_rfl) (fn_spec_l1In N)
/-! laws_szIntS -/
noncomputable def h_laws_szIntS : Hint := { tab, hn := [], loops := [], outs := [], ords := [] }
noncomputable def sg_laws_szIntS : List AK := [.v (.sl (.int .i64)) .k, .v (.int .i64) .k]
noncomputable def F_laws_szIntS (N : Nat) (x : AVals sg_laws_szIntS) (kf : Ret → Option Ret) : Option Ret := laws_szIntS N x.1 x.2.1 (fun r0 => kf ⟨[⟨(.int .i64), .k, r0⟩], []⟩)
noncomputable def run_laws_szIntS (N : Nat) := runOf sg_laws_szIntS (F_laws_szIntS N)
noncomputable def es_laws_szIntS (N : Nat) : List Entry := []
noncomputable def body_laws_szIntS : Code := match Try.f59.body with | some c => c | none => .skip
noncomputable def L_laws_szIntS (N n : Nat) (key : Nat) (S : St) (K : Ks) : Option Ret := none
theorem L0_laws_szIntS (N key : Nat) (S : St) (K : Ks) : L_laws_szIntS N 0 key S K = none := rfl
theorem ls_laws_szIntS : loopsIn body_laws_szIntS = [] := by kernel_rfl
theorem fn_laws_szIntS (N : Nat) (x : AVals sg_laws_szIntS) (kf : Ret → Option Ret) : F_laws_szIntS N x kf = peFunc h_laws_szIntS (Orc.of (es_laws_szIntS N)) (L_laws_szIntS N N) Try.f59 (ashape sg_laws_szIntS x) kf := by kernel_rfl
theorem sd_laws_szIntS (N : Nat) : Sound Try.prog 59 (run_laws_szIntS N) := fun_ok2 (hh := h_laws_szIntS) mixed tab_ok (es := es_laws_szIntS N) trivial (fn := Try.f59) (body := body_laws_szIntS) (by kernel_rfl) (by kernel_rfl) (by kernel_rfl) (by kernel_rfl) (by kernel_rfl) (Lf := L_laws_szIntS N) (L0_laws_szIntS N) ls_laws_szIntS trivial (N := N) (by kernel_rfl) (fn_laws_szIntS N)
/-! laws_szTeam -/
noncomputable def h_laws_szTeam : Hint := { tab, hn := [], loops := [], outs := [], ords := [] }
noncomputable def sg_laws_szTeam : List AK := [.v tQIIIIILIE .k, .v (.int .i64) .k]
noncomputable def F_laws_szTeam (N : Nat) (x : AVals sg_laws_szTeam) (kf : Ret → Option Ret) : Option Ret := laws_szTeam N x.1 x.2.1 (fun r0 => kf ⟨[⟨(.int .i64), .k, r0⟩], []⟩)
noncomputable def run_laws_szTeam (N : Nat) := runOf sg_laws_szTeam (F_laws_szTeam N)
noncomputable def es_laws_szTeam (N : Nat) : List Entry := [⟨59, [.val, .val], (run_laws_szIntS N)⟩]
noncomputable def body_laws_szTeam : Code := match Try.f26.body with | some c => c | none => .skip
noncomputable def L_laws_szTeam (N n : Nat) (key : Nat) (S : St) (K : Ks) : Option Ret := none
theorem L0_laws_szTeam (N key : Nat) (S : St) (K : Ks) : L_laws_szTeam N 0 key S K = none := rfl
theorem ls_laws_szTeam : loopsIn body_laws_szTeam = [] := by kernel_rfl
theorem fn_laws_szTeam (N : Nat) (x : AVals sg_laws_szTeam) (kf : Ret → Option Ret) : F_laws_szTeam N x kf = peFunc h_laws_szTeam (Orc.of (es_laws_szTeam N)) (L_laws_szTeam N N) Try.f26 (ashape sg_laws_szTeam x) kf := by kernel_rfl
theorem sd_laws_szTeam (N : Nat) : Sound Try.prog 26 (run_laws_szTeam N) := fun_ok2 (hh := h_laws_szTeam) mixed tab_ok (es := es_laws_szTeam N) ⟨sd_laws_szIntS N, trivial⟩ (fn := Try.f26) (body := body_laws_szTeam) (by kernel_rfl) (by kernel_rfl) (by kernel_rfl) (by kernel_rfl) (by kernel_rfl) (Lf := L_laws_szTeam N) (L0_laws_szTeam N) ls_laws_szTeam trivial (N := N) (by kernel_rfl) (fn_laws_szTeam N)
/-! laws_toIntS -/
noncomputable def ks_laws_toIntS_l3 : List Kd := [.v (.sl (.int .i64)) .k, dK, dK, .v (.sl (.int .i64)) (.o 3 none .k), .v (.int .i64) .k, dK, dK, dK, dK, dK, dK, dK, dK, dK, dK, dK, dK, dK, dK, dK, dK, dK]
noncomputable def ko_laws_toIntS_l3_0 : List Kd := [dK, dK, dK, .v (.sl (.int .i64)) (.o 3 none .k), dK, dK, dK, dK, dK, dK, dK, dK, dK, dK, dK, dK, dK, dK, dK, dK, dK, dK]
noncomputable def h_laws_toIntS : Hint := { tab, hn := [], loops := [(3, ks_laws_toIntS_l3)], outs := [(3, 2, ko_laws_toIntS_l3_0)], ords := [] }
noncomputable def sg_laws_toIntS : List AK := [.v (.sl (.int .i64)) .k]
noncomputable def F_laws_toIntS (N : Nat) (x : AVals sg_laws_toIntS) (kf : Ret → Option Ret) : Option Ret := laws_toIntS N x.1 (fun r0 => kf ⟨[⟨(.sl (.int .i64)), (.o 3 none .k), r0⟩], []⟩)
noncomputable def run_laws_toIntS (N : Nat) := runOf sg_laws_toIntS (F_laws_toIntS N)
noncomputable def es_laws_toIntS (N : Nat) : List Entry := []
noncomputable def body_laws_toIntS : Code := match Try.f60.body with | some c => c | none => .skip
noncomputable def L_laws_toIntS (N n : Nat) (key : Nat) (S : St) (K : Ks) : Option Ret := bif Nat.beq key 3 then withVals ks_laws_toIntS_l3 S (fun x => laws_toIntS_l3 x.1 n (fun z0 => K (.x 0) (shape ko_laws_toIntS_l3_0 (z0, ()))) x.2.1 x.2.2.1) else none
theorem L0_laws_toIntS (N key : Nat) (S : St) (K : Ks) : L_laws_toIntS N 0 key S K = none := (bif0 (withVals0 fun _ => rfl) rfl)
noncomputable def c_laws_toIntS_0 : Code := (loopsIn body_laws_toIntS).getD 0 .skip
theorem ls_laws_toIntS : loopsIn body_laws_toIntS = [c_laws_toIntS_0] := by kernel_rfl
theorem rd_laws_toIntS_3 (N n : Nat) (x : Vals ks_laws_toIntS_l3) (K : Ks) : L_laws_toIntS N (n + 1) 3 (shape ks_laws_toIntS_l3 x) (h_laws_toIntS.onOut 3 K) = peRound h_laws_toIntS (Orc.of (es_laws_toIntS N)) (mixL (L_laws_toIntS N) N n 3) c_laws_toIntS_0 (shape ks_laws_toIntS_l3 x) (h_laws_toIntS.onOut 3 K) := by kernel_rfl
theorem fn_laws_toIntS (N : Nat) (x : AVals sg_laws_toIntS) (kf : Ret → Option Ret) : F_laws_toIntS N x kf = peFunc h_laws_toIntS (Orc.of (es_laws_toIntS N)) (L_laws_toIntS N N) Try.f60 (ashape sg_laws_toIntS x) kf := by kernel_rfl
theorem sd_laws_toIntS (N : Nat) : Sound Try.prog 60 (run_laws_toIntS N) := fun_ok2 (hh := h_laws_toIntS) mixed tab_ok (es := es_laws_toIntS N) trivial (fn := Try.f60) (body := body_laws_toIntS) (by kernel_rfl) (by kernel_rfl) (by kernel_rfl) (by kernel_rfl) (by kernel_rfl) (Lf := L_laws_toIntS N) (L0_laws_toIntS N) ls_laws_toIntS (round_cons (key := 3) (ks := ks_laws_toIntS_l3) (by kernel_rfl) (by kernel_rfl) (rd_laws_toIntS_3 N) trivial) (N := N) (by kernel_rfl) (fn_laws_toIntS N)
/-! laws_toTeam -/
noncomputable def h_laws_toTeam : Hint := { tab, hn := [], loops := [], outs := [], ords := [] }
noncomputable def sg_laws_toTeam : List AK := [.v tQIIIIILIE .k]
noncomputable def F_laws_toTeam (N : Nat) (x : AVals sg_laws_toTeam) (kf : Ret → Option Ret) : Option Ret := laws_toTeam N x.1 (fun r0 => kf ⟨[⟨tQIIIIILIE, (.p .k (.p .k (.p .k (.p .k (.p .k (.o 3 none .k)))))), r0⟩], []⟩)
noncomputable def run_laws_toTeam (N : Nat) := runOf sg_laws_toTeam (F_laws_toTeam N)
noncomputable def es_laws_toTeam (N : Nat) : List Entry := [⟨60, [.val], (run_laws_toIntS N)⟩]
noncomputable def body_laws_toTeam : Code := match Try.f28.body with | some c => c | none => .skip
noncomputable def L_laws_toTeam (N n : Nat) (key : Nat) (S : St) (K : Ks) : Option Ret := none
theorem L0_laws_toTeam (N key : Nat) (S : St) (K : Ks) : L_laws_toTeam N 0 key S K = none := rfl
theorem ls_laws_toTeam : loopsIn body_laws_toTeam = [] := by kernel_rfl
theorem fn_laws_toTeam (N : Nat) (x : AVals sg_laws_toTeam) (kf : Ret → Option Ret) : F_laws_toTeam N x kf = peFunc h_laws_toTeam (Orc.of (es_laws_toTeam N)) (L_laws_toTeam N N) Try.f28 (ashape sg_laws_toTeam x) kf := by kernel_rfl
theorem sd_laws_toTeam (N : Nat) : Sound Try.prog 28 (run_laws_toTeam N) := fun_ok2 (hh := h_laws_toTeam) mixed tab_ok (es := es_laws_toTeam N) ⟨sd_laws_toIntS N, trivial⟩ (fn := Try.f28) (body := body_laws_toTeam) (by kernel_rfl) (by kernel_rfl) (by kernel_rfl) (by kernel_rfl) (by kernel_rfl) (Lf := L_laws_toTeam N) (L0_laws_toTeam N) ls_laws_toTeam trivial (N := N) (by kernel_rfl) (fn_laws_toTeam N)
/-! laws_eqIntS -/
noncomputable def ks_laws_eqIntS_l4 : List Kd := [.v (.sl (.int .i64)) .k, .v (.sl (.int .i64)) .k, dK, dK, dK, .v (.int .i64) .k, dK, dK, dK, dK, dK, dK, dK, dK, dK, dK, dK, dK, dK, dK, dK, dK, dK, dK, dK, dK]
noncomputable def ko_laws_eqIntS_l4_0 : List Kd := [dK, dK, dK, dK, dK, dK, dK, dK, dK, dK, dK, dK, dK, dK, dK, dK, dK, dK, dK, dK, dK, dK, dK, dK, dK, dK]
noncomputable def ko_laws_eqIntS_l4_1 : List Kd := [dK, dK, dK, dK, .v .bool .k, dK, dK, dK, dK, dK, dK, dK, dK, dK, dK, dK, dK, dK, dK, dK, dK, dK, dK, dK, dK, dK]
noncomputable def h_laws_eqIntS : Hint := { tab, hn := [], loops := [(4, ks_laws_eqIntS_l4)], outs := [(4, 2, ko_laws_eqIntS_l4_0), (4, 1, ko_laws_eqIntS_l4_1)], ords := [(6, [0, 1, 2, 3, 4, 5, 6, 7, 8])] }
noncomputable def sg_laws_eqIntS : List AK := [.v (.sl (.int .i64)) .k, .v (.sl (.int .i64)) .k]
noncomputable def F_laws_eqIntS (N : Nat) (x : AVals sg_laws_eqIntS) (kf : Ret → Option Ret) : Option Ret := laws_eqIntS N x.1 x.2.1 (fun r0 => kf ⟨[⟨.bool, .k, r0⟩], []⟩)
noncomputable def run_laws_eqIntS (N : Nat) := runOf sg_laws_eqIntS (F_laws_eqIntS N)
noncomputable def es_laws_eqIntS (N : Nat) : List Entry := []
noncomputable def body_laws_eqIntS : Code := match Try.f61.body with | some c => c | none => .skip
noncomputable def L_laws_eqIntS (N n : Nat) (key : Nat) (S : St) (K : Ks) : Option Ret := bif Nat.beq key 4 then withVals ks_laws_eqIntS_l4 S (fun x => laws_eqIntS_l4 x.1 x.2.1 n (K (.x 0) (shape ko_laws_eqIntS_l4_0 ())) (fun z0 => K .r (shape ko_laws_eqIntS_l4_1 (z0, ()))) x.2.2.1) else none
theorem L0_laws_eqIntS (N key : Nat) (S : St) (K : Ks) : L_laws_eqIntS N 0 key S K = none := (bif0 (withVals0 fun _ => rfl) rfl)
noncomputable def c_laws_eqIntS_0 : Code := (loopsIn body_laws_eqIntS).getD 0 .skip
theorem ls_laws_eqIntS : loopsIn body_laws_eqIntS = [c_laws_eqIntS_0] := by kernel_rfl
theorem rd_laws_eqIntS_4 (N n : Nat) (x : Vals ks_laws_eqIntS_l4) (K : Ks) : L_laws_eqIntS N (n + 1) 4 (shape ks_laws_eqIntS_l4 x) (h_laws_eqIntS.onOut 4 K) = peRound h_laws_eqIntS (Orc.of (es_laws_eqIntS N)) (mixL (L_laws_eqIntS N) N n 4) c_laws_eqIntS_0 (shape ks_laws_eqIntS_l4 x) (h_laws_eqIntS.onOut 4 K) := by kernel_rfl
theorem fn_laws_eqIntS (N : Nat) (x : AVals sg_laws_eqIntS) (kf : Ret → Option Ret) : F_laws_eqIntS N x kf = peFunc h_laws_eqIntS (Orc.of (es_laws_eqIntS N)) (L_laws_eqIntS N N) Try.f61 (ashape sg_laws_eqIntS x) kf := by kernel_rfl
theorem sd_laws_eqIntS (N : Nat) : Sound Try.prog 61 (run_laws_eqIntS N) := fun_ok2 (hh := h_laws_eqIntS) mixed tab_ok (es := es_laws_eqIntS N) trivial (fn := Try.f61) (body := body_laws_eqIntS) (by kernel_rfl) (by kernel_rfl) (by kernel_rfl) (by kernel_rfl) (by kernel_rfl) (Lf := L_laws_eqIntS N) (L0_laws_eqIntS N) ls_laws_eqIntS (round_cons (key := 4) (ks := ks_laws_eqIntS_l4) (by kernel_rfl) (by kernel_rfl) (rd_laws_eqIntS_4 N) trivial) (N := N) (by kernel_rfl) (fn_laws_eqIntS N)
/-! laws_eqTeam -/
noncomputable def h_laws_eqTeam : Hint := { tab, hn := [], loops := [], outs := [], ords := [] }
noncomputable def sg_laws_eqTeam : List AK := [.v tQIIIIILIE .k, .v tQIIIIILIE .k]
noncomputable def F_laws_eqTeam (N : Nat) (x : AVals sg_laws_eqTeam) (kf : Ret → Option Ret) : Option Ret := laws_eqTeam N x.1 x.2.1 (fun r0 => kf ⟨[⟨.bool, .k, r0⟩], []⟩)
noncomputable def run_laws_eqTeam (N : Nat) := runOf sg_laws_eqTeam (F_laws_eqTeam N)
noncomputable def es_laws_eqTeam (N : Nat) : List Entry := [⟨61, [.val, .val], (run_laws_eqIntS N)⟩]
noncomputable def body_laws_eqTeam : Code := match Try.f30.body with | some c => c | none => .skip
noncomputable def L_laws_eqTeam (N n : Nat) (key : Nat) (S : St) (K : Ks) : Option Ret := none
theorem L0_laws_eqTeam (N key : Nat) (S : St) (K : Ks) : L_laws_eqTeam N 0 key S K = none := rfl
theorem ls_laws_eqTeam : loopsIn body_laws_eqTeam = [] := by kernel_rfl
theorem fn_laws_eqTeam (N : Nat) (x : AVals sg_laws_eqTeam) (kf : Ret → Option Ret) : F_laws_eqTeam N x kf = peFunc h_laws_eqTeam (Orc.of (es_laws_eqTeam N)) (L_laws_eqTeam N N) Try.f30 (ashape sg_laws_eqTeam x) kf := by kernel_rfl
theorem sd_laws_eqTeam (N : Nat) : Sound Try.prog 30 (run_laws_eqTeam N) := fun_ok2 (hh := h_laws_eqTeam) mixed tab_ok (es := es_laws_eqTeam N) ⟨sd_laws_eqIntS N, trivial⟩ (fn := Try.f30) (body := body_laws_eqTeam) (by kernel_rfl) (by kernel_rfl) (by kernel_rfl) (by kernel_rfl) (by kernel_rfl) (Lf := L_laws_eqTeam N) (L0_laws_eqTeam N) ls_laws_eqTeam trivial (N := N) (by kernel_rfl) (fn_laws_eqTeam N)
/-! spec_SideShare -/
noncomputable def h_spec_SideShare : Hint := { tab, hn := [], loops := [], outs := [], ords := [] }
noncomputable def sg_spec_SideShare : List AK := [.v tQIIIIILIE .k]
noncomputable def F_spec_SideShare (N : Nat) (x : AVals sg_spec_SideShare) (kf : Ret → Option Ret) : Option Ret := spec_SideShare N x.1 (fun r0 => kf ⟨[⟨(.int .i64), .k, r0⟩], []⟩)
noncomputable def run_spec_SideShare (N : Nat) := runOf sg_spec_SideShare (F_spec_SideShare N)
noncomputable def es_spec_SideShare (N : Nat) : List Entry := [⟨54, [.val, .val, .val], (run_spec_l1In N)⟩]
noncomputable def body_spec_SideShare : Code := match Try.f31.body with | some c => c | none => .skip
noncomputable def L_spec_SideShare (N n : Nat) (key : Nat) (S : St) (K : Ks) : Option Ret := none
theorem L0_spec_SideShare (N key : Nat) (S : St) (K : Ks) : L_spec_SideShare N 0 key S K = none := rfl
theorem ls_spec_SideShare : loopsIn body_spec_SideShare = [] := by kernel_rfl
theorem fn_spec_SideShare (N : Nat) (x : AVals sg_spec_SideShare) (kf : Ret → Option Ret) : F_spec_SideShare N x kf = peFunc h_spec_SideShare (Orc.of (es_spec_SideShare N)) (L_spec_SideShare N N) Try.f31 (ashape sg_spec_SideShare x) kf := by kernel_rfl
theorem sd_spec_SideShare (N : Nat) : Sound Try.prog 31 (run_spec_SideShare N) := fun_ok2 (hh := h_spec_SideShare) mixed tab_ok (es := es_spec_SideShare N) ⟨sd_spec_l1In N, trivial⟩ (fn := Try.f31) (body := body_spec_SideShare) (by kernel_rfl) (by kernel_rfl) (by kernel_rfl) (by kernel_rfl) (by kernel_rfl) (Lf := L_spec_SideShare N) (L0_spec_SideShare N) ls_spec_SideShare trivial (N := N) (by kernel_rfl) (fn_spec_SideShare N)
/-! impl_InRange -/
noncomputable def h_impl_InRange : Hint := { tab, hn := [], loops := [], outs := [], ords := [] }
noncomputable def sg_impl_InRange : List AK := [.v (.int .i64) .k, .v (.int .i64) .k, .v (.int .i64) .k]
noncomputable def F_impl_InRange (N : Nat) (x : AVals sg_impl_InRange) (kf : Ret → Option Ret) : Option Ret := impl_InRange N x.1 x.2.1 x.2.2.1 (fun r0 => kf ⟨[⟨.bool, .k, r0⟩], []⟩)
noncomputable def run_impl_InRange (N : Nat) := runOf sg_impl_InRange (F_impl_InRange N)
noncomputable def es_impl_InRange (N : Nat) : List Entry := []
noncomputable def body_impl_InRange : Code := match Try.f62.body with | some c => c | none => .skip
noncomputable def L_impl_InRange (N n : Nat) (key : Nat) (S : St) (K : Ks) : Option Ret := none
theorem L0_impl_InRange (N key : Nat) (S : St) (K : Ks) : L_impl_InRange N 0 key S K = none := rfl
theorem ls_impl_InRange : loopsIn body_impl_InRange = [] := by kernel_rfl
theorem fn_impl_InRange (N : Nat) (x : AVals sg_impl_InRange) (kf : Ret → Option Ret) : F_impl_InRange N x kf = peFunc h_impl_InRange (Orc.of (es_impl_InRange N)) (L_impl_InRange N N) Try.f62 (ashape sg_impl_InRange x) kf := by kernel_rfl
theorem sd_impl_InRange (N : Nat) : Sound Try.prog 62 (run_impl_InRange N) := fun_ok2 (hh := h_impl_InRange) mixed tab_ok (es := es_impl_InRange N) trivial (fn := Try.f62) (body := body_impl_InRange) (by kernel_rfl) (by kernel_rfl) (by kernel_rfl) (by kernel_rfl) (by kernel_rfl) (Lf := L_impl_InRange N) (L0_impl_InRange N) ls_impl_InRange trivial (N := N) (by kernel_rfl) (fn_impl_InRange N)
/-! impl_SideShare -/
noncomputable def h_impl_SideShare : Hint := { tab, hn := [], loops := [], outs := [], ords := [] }
noncomputable def sg_impl_SideShare : List AK := [.v tQIIIIILIE .k]
noncomputable def F_impl_SideShare (N : Nat) (x : AVals sg_impl_SideShare) (kf : Ret → Option Ret) : Option Ret := impl_SideShare N x.1 (fun r0 => kf ⟨[⟨(.int .i64), .k, r0⟩], []⟩)
noncomputable def run_impl_SideShare (N : Nat) := runOf sg_impl_SideShare (F_impl_SideShare N)
noncomputable def es_impl_SideShare (N : Nat) : List Entry := [⟨62, [.val, .val, .val], (run_impl_InRange N)⟩]
noncomputable def body_impl_SideShare : Code := match Try.f32.body with | some c => c | none => .skip
noncomputable def L_impl_SideShare (N n : Nat) (key : Nat) (S : St) (K : Ks) : Option Ret := none
theorem L0_impl_SideShare (N key : Nat) (S : St) (K : Ks) : L_impl_SideShare N 0 key S K = none := rfl
theorem ls_impl_SideShare : loopsIn body_impl_SideShare = [] := by kernel_rfl
theorem fn_impl_SideShare (N : Nat) (x : AVals sg_impl_SideShare) (kf : Ret → Option Ret) : F_impl_SideShare N x kf = peFunc h_impl_SideShare (Orc.of (es_impl_SideShare N)) (L_impl_SideShare N N) Try.f32 (ashape sg_impl_SideShare x) kf := by kernel_rfl
theorem sd_impl_SideShare (N : Nat) : Sound Try.prog 32 (run_impl_SideShare N) := fun_ok2 (hh := h_impl_SideShare) mixed tab_ok (es := es_impl_SideShare N) ⟨sd_impl_InRange N, trivial⟩ (fn := Try.f32) (body := body_impl_SideShare) (by kernel_rfl) (by kernel_rfl) (by kernel_rfl) (by kernel_rfl) (by kernel_rfl) (Lf := L_impl_SideShare N) (L0_impl_SideShare N) ls_impl_SideShare trivial (N := N) (by kernel_rfl) (fn_impl_SideShare N)
/-! laws_FnExactSideShare -/
noncomputable def h_laws_FnExactSideShare : Hint := { tab, hn := [], loops := [], outs := [], ords := [(10, [0, 1, 2, 3, 4])] }
noncomputable def sg_laws_FnExactSideShare : List AK := [.v tQIIIIILIE .k]
noncomputable def F_laws_FnExactSideShare (N : Nat) (x : AVals sg_laws_FnExactSideShare) (kf : Ret → Option Ret) : Option Ret := laws_FnExactSideShare N x.1 (fun r0 => kf ⟨[⟨.bool, .k, r0⟩], []⟩)
noncomputable def run_laws_FnExactSideShare (N : Nat) := runOf sg_laws_FnExactSideShare (F_laws_FnExactSideShare N)
noncomputable def es_laws_FnExactSideShare (N : Nat) : List Entry := [⟨26, [.val, .val], (run_laws_szTeam N)⟩, ⟨28, [.val], (run_laws_toTeam N)⟩, ⟨31, [.val], (run_spec_SideShare N)⟩, ⟨32, [.val], (run_impl_SideShare N)⟩, ⟨30, [.val, .val], (run_laws_eqTeam N)⟩]
noncomputable def body_laws_FnExactSideShare : Code := match Try.f7.body with | some c => c | none => .skip
noncomputable def L_laws_FnExactSideShare (N n : Nat) (key : Nat) (S : St) (K : Ks) : Option Ret := none
theorem L0_laws_FnExactSideShare (N key : Nat) (S : St) (K : Ks) : L_laws_FnExactSideShare N 0 key S K = none := rfl
theorem ls_laws_FnExactSideShare : loopsIn body_laws_FnExactSideShare = [] := by kernel_rfl
theorem fn_laws_FnExactSideShare (N : Nat) (x : AVals sg_laws_FnExactSideShare) (kf : Ret → Option Ret) : F_laws_FnExactSideShare N x kf = peFunc h_laws_FnExactSideShare (Orc.of (es_laws_FnExactSideShare N)) (L_laws_FnExactSideShare N N) Try.f7 (ashape sg_laws_FnExactSideShare x) kf := by kernel_rfl
theorem sd_laws_FnExactSideShare (N : Nat) : Sound Try.prog 7 (run_laws_FnExactSideShare N) := fun_ok2 (hh := h_laws_FnExactSideShare) mixed tab_ok (es := es_laws_FnExactSideShare N) ⟨sd_laws_szTeam N, ⟨sd_laws_toTeam N, ⟨sd_spec_SideShare N, ⟨sd_impl_SideShare N, ⟨sd_laws_eqTeam N, trivial⟩⟩⟩⟩⟩ (fn := Try.f7) (body := body_laws_FnExactSideShare) (by kernel_rfl) (by kernel_rfl) (by kernel_rfl) (by kernel_rfl) (by kernel_rfl) (Lf := L_laws_FnExactSideShare N) (L0_laws_FnExactSideShare N) ls_laws_FnExactSideShare trivial (N := N) (by kernel_rfl) (fn_laws_FnExactSideShare N)
end Go.Pv.R
