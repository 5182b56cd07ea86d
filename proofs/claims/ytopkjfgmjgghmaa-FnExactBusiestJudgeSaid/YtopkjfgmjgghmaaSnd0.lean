/- Each function of the program that the law reaches computes its plain function, part 0. -/
import Derived.Test.YtopkjfgmjgghmaaRes
import Derived.Test.YtopkjfgmjgghmaaProg
namespace Go.Pv.R
open Go.Proofs
set_option linter.unusedVariables false
set_option maxRecDepth 100000
noncomputable abbrev dK : Kd := .dead
noncomputable def tab : Tab := [⟨2, (.int .i64), 0, []⟩, ⟨3, (.int .i64), 0, []⟩, ⟨4, .bool, 0, []⟩, ⟨5, (.int .u8), 0, []⟩, ⟨9, .str, 0, []⟩, ⟨12, (.int .u64), 0, []⟩, ⟨21, (.int .i32), 0, []⟩, ⟨24, (.sl tQIIIIE), 77, []⟩, ⟨27, (.sl tQIIIIE), 75, []⟩, ⟨31, (.sl tQIIIIE), 82, []⟩, ⟨34, (.sl tQIIIIE), 80, []⟩, ⟨38, (.sl (.int .i64)), 3, []⟩, ⟨39, tQIIIIILIE, 0, [3, 3, 3, 3, 3, 38]⟩, ⟨40, tQIIIIILIE, 0, [3, 3, 3, 3, 3, 38]⟩, ⟨43, tQIIIIILIE, 0, [3, 3, 3, 3, 3, 38]⟩, ⟨47, (.sl (.sl (.int .i64))), 38, []⟩, ⟨48, tQILLIE, 0, [3, 47]⟩, ⟨49, tQILLIE, 0, [3, 47]⟩, ⟨54, (.sl tQIILIE), 91, []⟩, ⟨57, (.sl tQIILIE), 92, []⟩, ⟨64, (.sl tQIIIIILIE), 40, []⟩, ⟨67, (.sl tQIIIIILIE), 43, []⟩, ⟨72, (.sl .str), 9, []⟩, ⟨74, tQIIIIE, 0, [3, 3, 3, 3]⟩, ⟨75, tQIIIIE, 0, [3, 3, 3, 3]⟩, ⟨77, tQIIIIE, 0, [3, 3, 3, 3]⟩, ⟨79, tQIIIIE, 0, [3, 3, 3, 3]⟩, ⟨80, tQIIIIE, 0, [3, 3, 3, 3]⟩, ⟨82, tQIIIIE, 0, [3, 3, 3, 3]⟩, ⟨90, tQIILIE, 0, [3, 3, 38]⟩, ⟨91, tQIILIE, 0, [3, 3, 38]⟩, ⟨92, tQIILIE, 0, [3, 3, 38]⟩, ⟨108, (.int .u32), 0, []⟩]
theorem mixed : Try.prog.follows .mixedOrders = true := by kernel_rfl
theorem tab_ok : tabB Try.prog tab = true := by kernel_rfl
/-! laws_szIntS -/
noncomputable def h_laws_szIntS : Hint := { tab, hn := [], loops := [], outs := [], ords := [] }
noncomputable def sg_laws_szIntS : List AK := [.v (.sl (.int .i64)) .k, .v (.int .i64) .k]
noncomputable def F_laws_szIntS (N : Nat) (x : AVals sg_laws_szIntS) (kf : Ret → Option Ret) : Option Ret := laws_szIntS N x.1 x.2.1 (fun r0 => kf ⟨[⟨(.int .i64), .k, r0⟩], []⟩)
noncomputable def run_laws_szIntS (N : Nat) := runOf sg_laws_szIntS (F_laws_szIntS N)
noncomputable def es_laws_szIntS (N : Nat) : List Entry := []
noncomputable def body_laws_szIntS : Code := match Try.f59.body with | some c => c | none => .skip
noncomputable def L_laws_szIntS (N n : Nat) (key : Nat) (S : St) (K : Ks) : Option Ret := none
theorem L0_laws_szIntS (N key : Nat) (S : St) (K : Ks) : L_laws_szIntS N 0 key S K = none := rfl
theorem ls_laws_szIntS : loopsIn body_laws_szIntS = [] := by kernel_rfl
theorem fn_laws_szIntS (N : Nat) (x : AVals sg_laws_szIntS) (kf : Ret → Option Ret) : F_laws_szIntS N x kf = peFunc h_laws_szIntS (Orc.of (es_laws_szIntS N)) (L_laws_szIntS N N) Try.f59 (ashape sg_laws_szIntS x) kf := by kernel_rfl
theorem sd_laws_szIntS (N : Nat) : Sound Try.prog 59 (run_laws_szIntS N) := fun_ok2 (hh := h_laws_szIntS) mixed tab_ok (es := es_laws_szIntS N) trivial (fn := Try.f59) (body := body_laws_szIntS) (by kernel_rfl) (by kernel_rfl) (by kernel_rfl) (by kernel_rfl) (by kernel_rfl) (Lf := L_laws_szIntS N) (L0_laws_szIntS N) ls_laws_szIntS trivial (N := N) (by kernel_rfl) (fn_laws_szIntS N)
/-! laws_toIntS -/
noncomputable def ks_laws_toIntS_l3 : List Kd := [.v (.sl (.int .i64)) .k, dK, dK, .v (.sl (.int .i64)) (.o 3 none .k), .v (.int .i64) .k, dK, dK, dK, dK, dK, dK, dK, dK, dK, dK, dK, dK, dK, dK, dK, dK, dK]
noncomputable def ko_laws_toIntS_l3_0 : List Kd := [dK, dK, dK, .v (.sl (.int .i64)) (.o 3 none .k), dK, dK, dK, dK, dK, dK, dK, dK, dK, dK, dK, dK, dK, dK, dK, dK, dK, dK]
noncomputable def h_laws_toIntS : Hint := { tab, hn := [], loops := [(3, ks_laws_toIntS_l3)], outs := [(3, 2, ko_laws_toIntS_l3_0)], ords := [] }
noncomputable def sg_laws_toIntS : List AK := [.v (.sl (.int .i64)) .k]
noncomputable def F_laws_toIntS (N : Nat) (x : AVals sg_laws_toIntS) (kf : Ret → Option Ret) : Option Ret := laws_toIntS N x.1 (fun r0 => kf ⟨[⟨(.sl (.int .i64)), (.o 3 none .k), r0⟩], []⟩)
noncomputable def run_laws_toIntS (N : Nat) := runOf sg_laws_toIntS (F_laws_toIntS N)
noncomputable def es_laws_toIntS (N : Nat) : List Entry := []
noncomputable def body_laws_toIntS : Code := match Try.f60.body with | some c => c | none => .skip
noncomputable def L_laws_toIntS (N n : Nat) (key : Nat) (S : St) (K : Ks) : Option Ret := bif Nat.beq key 3 then withVals ks_laws_toIntS_l3 S (fun x => laws_toIntS_l3 x.1 n (fun z0 => K (.x 0) (shape ko_laws_toIntS_l3_0 (z0, ()))) x.2.1 x.2.2.1) else none
theorem L0_laws_toIntS (N key : Nat) (S : St) (K : Ks) : L_laws_toIntS N 0 key S K = none := (bif0 (withVals0 fun _ => rfl) rfl)
noncomputable def c_laws_toIntS_0 : Code := (loopsIn body_laws_toIntS).getD 0 .skip
theorem ls_laws_toIntS : loopsIn body_laws_toIntS = [c_laws_toIntS_0] := by kernel_rfl
theorem rd_laws_toIntS_3 (N n : Nat) (x : Vals ks_laws_toIntS_l3) (K : Ks) : L_laws_toIntS N (n + 1) 3 (shape ks_laws_toIntS_l3 x) (h_laws_toIntS.onOut 3 K) = peRound h_laws_toIntS (Orc.of (es_laws_toIntS N)) (mixL (L_laws_toIntS N) N n 3) c_laws_toIntS_0 (shape ks_laws_toIntS_l3 x) (h_laws_toIntS.onOut 3 K) := by kernel_rfl
theorem fn_laws_toIntS (N : Nat) (x : AVals sg_laws_toIntS) (kf : Ret → Option Ret) : F_laws_toIntS N x kf = peFunc h_laws_toIntS (Orc.of (es_laws_toIntS N)) (L_laws_toIntS N N) Try.f60 (ashape sg_laws_toIntS x) kf := by kernel_rfl
theorem sd_laws_toIntS (N : Nat) : Sound Try.prog 60 (run_laws_toIntS N) := fun_ok2 (hh := h_laws_toIntS) mixed tab_ok (es := es_laws_toIntS N) trivial (fn := Try.f60) (body := body_laws_toIntS) (by kernel_rfl) (by kernel_rfl) (by kernel_rfl) (by kernel_rfl) (by kernel_rfl) (Lf := L_laws_toIntS N) (L0_laws_toIntS N) ls_laws_toIntS (round_cons (key := 3) (ks := ks_laws_toIntS_l3) (by kernel_rfl) (by kernel_rfl) (rd_laws_toIntS_3 N) trivial) (N := N) (by kernel_rfl) (fn_laws_toIntS N)
/-! laws_eqIntS -/
noncomputable def ks_laws_eqIntS_l4 : List Kd := [.v (.sl (.int .i64)) .k, .v (.sl (.int .i64)) .k, dK, dK, dK, .v (.int .i64) .k, dK, dK, dK, dK, dK, dK, dK, dK, dK, dK, dK, dK, dK, dK, dK, dK, dK, dK, dK, dK]
noncomputable def ko_laws_eqIntS_l4_0 : List Kd := [dK, dK, dK, dK, dK, dK, dK, dK, dK, dK, dK, dK, dK, dK, dK, dK, dK, dK, dK, dK, dK, dK, dK, dK, dK, dK]
noncomputable def ko_laws_eqIntS_l4_1 : List Kd := [dK, dK, dK, dK, .v .bool .k, dK, dK, dK, dK, dK, dK, dK, dK, dK, dK, dK, dK, dK, dK, dK, dK, dK, dK, dK, dK, dK]
noncomputable def h_laws_eqIntS : Hint := { tab, hn := [], loops := [(4, ks_laws_eqIntS_l4)], outs := [(4, 2, ko_laws_eqIntS_l4_0), (4, 1, ko_laws_eqIntS_l4_1)], ords := [(6, [0, 1, 2, 3, 4, 5, 6, 7, 8])] }
noncomputable def sg_laws_eqIntS : List AK := [.v (.sl (.int .i64)) .k, .v (.sl (.int .i64)) .k]
noncomputable def F_laws_eqIntS (N : Nat) (x : AVals sg_laws_eqIntS) (kf : Ret → Option Ret) : Option Ret := laws_eqIntS N x.1 x.2.1 (fun r0 => kf ⟨[⟨.bool, .k, r0⟩], []⟩)
noncomputable def run_laws_eqIntS (N : Nat) := runOf sg_laws_eqIntS (F_laws_eqIntS N)
noncomputable def es_laws_eqIntS (N : Nat) : List Entry := []
noncomputable def body_laws_eqIntS : Code := match Try.f61.body with | some c => c | none => .skip
noncomputable def L_laws_eqIntS (N n : Nat) (key : Nat) (S : St) (K : Ks) : Option Ret := bif Nat.beq key 4 then withVals ks_laws_eqIntS_l4 S (fun x => laws_eqIntS_l4 x.1 x.2.1 n (K (.x 0) (shape ko_laws_eqIntS_l4_0 ())) (fun z0 => K .r (shape ko_laws_eqIntS_l4_1 (z0, ()))) x.2.2.1) else none
theorem L0_laws_eqIntS (N key : Nat) (S : St) (K : Ks) : L_laws_eqIntS N 0 key S K = none := (bif0 (withVals0 fun _ => rfl) rfl)
noncomputable def c_laws_eqIntS_0 : Code := (loopsIn body_laws_eqIntS).getD 0 .skip
theorem ls_laws_eqIntS : loopsIn body_laws_eqIntS = [c_laws_eqIntS_0] := by kernel_rfl
theorem rd_laws_eqIntS_4 (N n : Nat) (x : Vals ks_laws_eqIntS_l4) (K : Ks) : L_laws_eqIntS N (n + 1) 4 (shape ks_laws_eqIntS_l4 x) (h_laws_eqIntS.onOut 4 K) = peRound h_laws_eqIntS (Orc.of (es_laws_eqIntS N)) (mixL (L_laws_eqIntS N) N n 4) c_laws_eqIntS_0 (shape ks_laws_eqIntS_l4 x) (h_laws_eqIntS.onOut 4 K) := by kernel_rfl
theorem fn_laws_eqIntS (N : Nat) (x : AVals sg_laws_eqIntS) (kf : Ret → Option Ret) : F_laws_eqIntS N x kf = peFunc h_laws_eqIntS (Orc.of (es_laws_eqIntS N)) (L_laws_eqIntS N N) Try.f61 (ashape sg_laws_eqIntS x) kf := by kernel_rfl
theorem sd_laws_eqIntS (N : Nat) : Sound Try.prog 61 (run_laws_eqIntS N) := fun_ok2 (hh := h_laws_eqIntS) mixed tab_ok (es := es_laws_eqIntS N) trivial (fn := Try.f61) (body := body_laws_eqIntS) (by kernel_rfl) (by kernel_rfl) (by kernel_rfl) (by kernel_rfl) (by kernel_rfl) (Lf := L_laws_eqIntS N) (L0_laws_eqIntS N) ls_laws_eqIntS (round_cons (key := 4) (ks := ks_laws_eqIntS_l4) (by kernel_rfl) (by kernel_rfl) (rd_laws_eqIntS_4 N) trivial) (N := N) (by kernel_rfl) (fn_laws_eqIntS N)
/-! laws_szJudge -/
noncomputable def h_laws_szJudge : Hint := { tab, hn := [], loops := [], outs := [], ords := [] }
noncomputable def sg_laws_szJudge : List AK := [.v tQIILIE .k, .v (.int .i64) .k]
noncomputable def F_laws_szJudge (N : Nat) (x : AVals sg_laws_szJudge) (kf : Ret → Option Ret) : Option Ret := laws_szJudge N x.1 x.2.1 (fun r0 => kf ⟨[⟨(.int .i64), .k, r0⟩], []⟩)
noncomputable def run_laws_szJudge (N : Nat) := runOf sg_laws_szJudge (F_laws_szJudge N)
noncomputable def es_laws_szJudge (N : Nat) : List Entry := [⟨59, [.val, .val], (run_laws_szIntS N)⟩]
noncomputable def body_laws_szJudge : Code := match Try.f66.body with | some c => c | none => .skip
noncomputable def L_laws_szJudge (N n : Nat) (key : Nat) (S : St) (K : Ks) : Option Ret := none
theorem L0_laws_szJudge (N key : Nat) (S : St) (K : Ks) : L_laws_szJudge N 0 key S K = none := rfl
theorem ls_laws_szJudge : loopsIn body_laws_szJudge = [] := by kernel_rfl
theorem fn_laws_szJudge (N : Nat) (x : AVals sg_laws_szJudge) (kf : Ret → Option Ret) : F_laws_szJudge N x kf = peFunc h_laws_szJudge (Orc.of (es_laws_szJudge N)) (L_laws_szJudge N N) Try.f66 (ashape sg_laws_szJudge x) kf := by kernel_rfl
theorem sd_laws_szJudge (N : Nat) : Sound Try.prog 66 (run_laws_szJudge N) := fun_ok2 (hh := h_laws_szJudge) mixed tab_ok (es := es_laws_szJudge N) ⟨sd_laws_szIntS N, trivial⟩ (fn := Try.f66) (body := body_laws_szJudge) (by kernel_rfl) (by kernel_rfl) (by kernel_rfl) (by kernel_rfl) (by kernel_rfl) (Lf := L_laws_szJudge N) (L0_laws_szJudge N) ls_laws_szJudge trivial (N := N) (by kernel_rfl) (fn_laws_szJudge N)
/-! laws_szJudgeS -/
noncomputable def ks_laws_szJudgeS_l5 : List Kd := [.v (.sl tQIILIE) .k, .v (.int .i64) .k, dK, dK, dK, .v (.int .i64) .k, dK, dK, dK, dK, dK, dK, dK, dK, dK, dK, dK, dK, dK, dK, dK, dK, dK, dK, dK, dK, dK]
noncomputable def ko_laws_szJudgeS_l5_0 : List Kd := [dK, .v (.int .i64) .k, dK, dK, dK, dK, dK, dK, dK, dK, dK, dK, dK, dK, dK, dK, dK, dK, dK, dK, dK, dK, dK, dK, dK, dK, dK]
noncomputable def ko_laws_szJudgeS_l5_1 : List Kd := [dK, dK, dK, dK, .v (.int .i64) .k, dK, dK, dK, dK, dK, dK, dK, dK, dK, dK, dK, dK, dK, dK, dK, dK, dK, dK, dK, dK, dK, dK]
noncomputable def h_laws_szJudgeS : Hint := { tab, hn := [], loops := [(5, ks_laws_szJudgeS_l5)], outs := [(5, 2, ko_laws_szJudgeS_l5_0), (5, 1, ko_laws_szJudgeS_l5_1)], ords := [] }
noncomputable def sg_laws_szJudgeS : List AK := [.v (.sl tQIILIE) .k, .v (.int .i64) .k]
noncomputable def F_laws_szJudgeS (N : Nat) (x : AVals sg_laws_szJudgeS) (kf : Ret → Option Ret) : Option Ret := laws_szJudgeS N x.1 x.2.1 (fun r0 => kf ⟨[⟨(.int .i64), .k, r0⟩], []⟩)
noncomputable def run_laws_szJudgeS (N : Nat) := runOf sg_laws_szJudgeS (F_laws_szJudgeS N)
noncomputable def es_laws_szJudgeS (N : Nat) : List Entry := [⟨66, [.val, .val], (run_laws_szJudge N)⟩]
noncomputable def body_laws_szJudgeS : Code := match Try.f38.body with | some c => c | none => .skip
noncomputable def L_laws_szJudgeS (N n : Nat) (key : Nat) (S : St) (K : Ks) : Option Ret := bif Nat.beq key 5 then withVals ks_laws_szJudgeS_l5 S (fun x => laws_szJudgeS_l5 N x.1 n (fun z0 => K (.x 0) (shape ko_laws_szJudgeS_l5_0 (z0, ()))) (fun z0 => K .r (shape ko_laws_szJudgeS_l5_1 (z0, ()))) x.2.1 x.2.2.1) else none
theorem L0_laws_szJudgeS (N key : Nat) (S : St) (K : Ks) : L_laws_szJudgeS N 0 key S K = none := (bif0 (withVals0 fun _ => rfl) rfl)
noncomputable def c_laws_szJudgeS_0 : Code := (loopsIn body_laws_szJudgeS).getD 0 .skip
theorem ls_laws_szJudgeS : loopsIn body_laws_szJudgeS = [c_laws_szJudgeS_0] := by kernel_rfl
theorem rd_laws_szJudgeS_5 (N n : Nat) (x : Vals ks_laws_szJudgeS_l5) (K : Ks) : L_laws_szJudgeS N (n + 1) 5 (shape ks_laws_szJudgeS_l5 x) (h_laws_szJudgeS.onOut 5 K) = peRound h_laws_szJudgeS (Orc.of (es_laws_szJudgeS N)) (mixL (L_laws_szJudgeS N) N n 5) c_laws_szJudgeS_0 (shape ks_laws_szJudgeS_l5 x) (h_laws_szJudgeS.onOut 5 K) := by kernel_rfl
theorem fn_laws_szJudgeS (N : Nat) (x : AVals sg_laws_szJudgeS) (kf : Ret → Option Ret) : F_laws_szJudgeS N x kf = peFunc h_laws_szJudgeS (Orc.of (es_laws_szJudgeS N)) (L_laws_szJudgeS N N) Try.f38 (ashape sg_laws_szJudgeS x) kf := by kernel_rfl
theorem sd_laws_szJudgeS (N : Nat) : Sound Try.prog 38 (run_laws_szJudgeS N) := fun_ok2 (hh := h_laws_szJudgeS) mixed tab_ok (es := es_laws_szJudgeS N) ⟨sd_laws_szJudge N, trivial⟩ (fn := Try.f38) (body := body_laws_szJudgeS) (by kernel_rfl) (by kernel_rfl) (by kernel_rfl) (by kernel_rfl) (by kernel_rfl) (Lf := L_laws_szJudgeS N) (L0_laws_szJudgeS N) ls_laws_szJudgeS (round_cons (key := 5) (ks := ks_laws_szJudgeS_l5) (by kernel_rfl) (by kernel_rfl) (rd_laws_szJudgeS_5 N) trivial) (N := N) (by kernel_rfl) (fn_laws_szJudgeS N)
/-! laws_toJudge -/
noncomputable def h_laws_toJudge : Hint := { tab, hn := [], loops := [], outs := [], ords := [] }
noncomputable def sg_laws_toJudge : List AK := [.v tQIILIE .k]
noncomputable def F_laws_toJudge (N : Nat) (x : AVals sg_laws_toJudge) (kf : Ret → Option Ret) : Option Ret := laws_toJudge N x.1 (fun r0 => kf ⟨[⟨tQIILIE, (.p .k (.p .k (.o 3 none .k))), r0⟩], []⟩)
noncomputable def run_laws_toJudge (N : Nat) := runOf sg_laws_toJudge (F_laws_toJudge N)
noncomputable def es_laws_toJudge (N : Nat) : List Entry := [⟨60, [.val], (run_laws_toIntS N)⟩]
noncomputable def body_laws_toJudge : Code := match Try.f67.body with | some c => c | none => .skip
noncomputable def L_laws_toJudge (N n : Nat) (key : Nat) (S : St) (K : Ks) : Option Ret := none
theorem L0_laws_toJudge (N key : Nat) (S : St) (K : Ks) : L_laws_toJudge N 0 key S K = none := rfl
theorem ls_laws_toJudge : loopsIn body_laws_toJudge = [] := by kernel_rfl
theorem fn_laws_toJudge (N : Nat) (x : AVals sg_laws_toJudge) (kf : Ret → Option Ret) : F_laws_toJudge N x kf = peFunc h_laws_toJudge (Orc.of (es_laws_toJudge N)) (L_laws_toJudge N N) Try.f67 (ashape sg_laws_toJudge x) kf := by kernel_rfl
theorem sd_laws_toJudge (N : Nat) : Sound Try.prog 67 (run_laws_toJudge N) := fun_ok2 (hh := h_laws_toJudge) mixed tab_ok (es := es_laws_toJudge N) ⟨sd_laws_toIntS N, trivial⟩ (fn := Try.f67) (body := body_laws_toJudge) (by kernel_rfl) (by kernel_rfl) (by kernel_rfl) (by kernel_rfl) (by kernel_rfl) (Lf := L_laws_toJudge N) (L0_laws_toJudge N) ls_laws_toJudge trivial (N := N) (by kernel_rfl) (fn_laws_toJudge N)
/-! laws_toJudgeS -/
noncomputable def ks_laws_toJudgeS_l3 : List Kd := [.v (.sl tQIILIE) .k, dK, dK, .v (.sl tQIILIE) (.o 92 none (.p .k (.p .k (.o 3 none .k)))), .v (.int .i64) .k, dK, dK, dK, dK, dK, dK, dK, dK, dK, dK, dK, dK, dK, dK, dK, dK, dK, dK]
noncomputable def ko_laws_toJudgeS_l3_0 : List Kd := [dK, dK, dK, .v (.sl tQIILIE) (.o 92 none (.p .k (.p .k (.o 3 none .k)))), dK, dK, dK, dK, dK, dK, dK, dK, dK, dK, dK, dK, dK, dK, dK, dK, dK, dK, dK]
noncomputable def h_laws_toJudgeS : Hint := { tab, hn := [], loops := [(3, ks_laws_toJudgeS_l3)], outs := [(3, 2, ko_laws_toJudgeS_l3_0)], ords := [] }
noncomputable def sg_laws_toJudgeS : List AK := [.v (.sl tQIILIE) .k]
noncomputable def F_laws_toJudgeS (N : Nat) (x : AVals sg_laws_toJudgeS) (kf : Ret → Option Ret) : Option Ret := laws_toJudgeS N x.1 (fun r0 => kf ⟨[⟨(.sl tQIILIE), (.o 92 none (.p .k (.p .k (.o 3 none .k)))), r0⟩], []⟩)
noncomputable def run_laws_toJudgeS (N : Nat) := runOf sg_laws_toJudgeS (F_laws_toJudgeS N)
noncomputable def es_laws_toJudgeS (N : Nat) : List Entry := [⟨67, [.val], (run_laws_toJudge N)⟩]
noncomputable def body_laws_toJudgeS : Code := match Try.f40.body with | some c => c | none => .skip
noncomputable def L_laws_toJudgeS (N n : Nat) (key : Nat) (S : St) (K : Ks) : Option Ret := bif Nat.beq key 3 then withVals ks_laws_toJudgeS_l3 S (fun x => laws_toJudgeS_l3 N x.1 n (fun z0 => K (.x 0) (shape ko_laws_toJudgeS_l3_0 (z0, ()))) x.2.1 x.2.2.1) else none
theorem L0_laws_toJudgeS (N key : Nat) (S : St) (K : Ks) : L_laws_toJudgeS N 0 key S K = none := (bif0 (withVals0 fun _ => rfl) rfl)
noncomputable def c_laws_toJudgeS_0 : Code := (loopsIn body_laws_toJudgeS).getD 0 .skip
theorem ls_laws_toJudgeS : loopsIn body_laws_toJudgeS = [c_laws_toJudgeS_0] := by kernel_rfl
theorem rd_laws_toJudgeS_3 (N n : Nat) (x : Vals ks_laws_toJudgeS_l3) (K : Ks) : L_laws_toJudgeS N (n + 1) 3 (shape ks_laws_toJudgeS_l3 x) (h_laws_toJudgeS.onOut 3 K) = peRound h_laws_toJudgeS (Orc.of (es_laws_toJudgeS N)) (mixL (L_laws_toJudgeS N) N n 3) c_laws_toJudgeS_0 (shape ks_laws_toJudgeS_l3 x) (h_laws_toJudgeS.onOut 3 K) := by kernel_rfl
theorem fn_laws_toJudgeS (N : Nat) (x : AVals sg_laws_toJudgeS) (kf : Ret → Option Ret) : F_laws_toJudgeS N x kf = peFunc h_laws_toJudgeS (Orc.of (es_laws_toJudgeS N)) (L_laws_toJudgeS N N) Try.f40 (ashape sg_laws_toJudgeS x) kf := by kernel_rfl
theorem sd_laws_toJudgeS (N : Nat) : Sound Try.prog 40 (run_laws_toJudgeS N) := fun_ok2 (hh := h_laws_toJudgeS) mixed tab_ok (es := es_laws_toJudgeS N) ⟨sd_laws_toJudge N, trivial⟩ (fn := Try.f40) (body := body_laws_toJudgeS) (by kernel_rfl) (by kernel_rfl) (by kernel_rfl) (by kernel_rfl) (by kernel_rfl) (Lf := L_laws_toJudgeS N) (L0_laws_toJudgeS N) ls_laws_toJudgeS (round_cons (key := 3) (ks := ks_laws_toJudgeS_l3) (by kernel_rfl) (by kernel_rfl) (rd_laws_toJudgeS_3 N) trivial) (N := N) (by kernel_rfl) (fn_laws_toJudgeS N)
/-! spec_BusiestJudge -/
noncomputable def ks_spec_BusiestJudge_l3 : List Kd := [.v (.sl tQIILIE) .k, dK, dK, .v (.int .i64) .k, .v (.int .i64) .k, dK, dK, dK, dK, dK, dK, dK, dK, dK, dK, dK, dK, dK, dK, dK, dK, dK, dK, dK, dK, dK, dK, dK, dK, dK, dK, dK, dK, dK, dK, dK]
noncomputable def ko_spec_BusiestJudge_l3_0 : List Kd := [.v (.sl tQIILIE) .k, dK, dK, .v (.int .i64) .k, dK, dK, dK, dK, dK, dK, dK, dK, dK, dK, dK, dK, dK, dK, dK, dK, dK, dK, dK, dK, dK, dK, dK, dK, dK, dK, dK, dK, dK, dK, dK, dK]
noncomputable def h_spec_BusiestJudge : Hint := { tab, hn := [], loops := [(3, ks_spec_BusiestJudge_l3)], outs := [(3, 2, ko_spec_BusiestJudge_l3_0)], ords := [(5, [0, 1, 2, 3, 4, 5, 6, 7, 8, 9, 10, 11, 12, 13, 14, 15, 16])] }
noncomputable def sg_spec_BusiestJudge : List AK := [.v (.sl tQIILIE) .k]
noncomputable def F_spec_BusiestJudge (N : Nat) (x : AVals sg_spec_BusiestJudge) (kf : Ret → Option Ret) : Option Ret := spec_BusiestJudge N x.1 (fun r0 => kf ⟨[⟨(.int .i64), .k, r0⟩], []⟩)
noncomputable def run_spec_BusiestJudge (N : Nat) := runOf sg_spec_BusiestJudge (F_spec_BusiestJudge N)
noncomputable def es_spec_BusiestJudge (N : Nat) : List Entry := []
noncomputable def body_spec_BusiestJudge : Code := match Try.f39.body with | some c => c | none => .skip
noncomputable def L_spec_BusiestJudge (N n : Nat) (key : Nat) (S : St) (K : Ks) : Option Ret := bif Nat.beq key 3 then withVals ks_spec_BusiestJudge_l3 S (fun x => spec_BusiestJudge_l3 x.1 n (fun z0 => K (.x 0) (shape ko_spec_BusiestJudge_l3_0 (x.1, z0, ()))) x.2.1 x.2.2.1) else none
theorem L0_spec_BusiestJudge (N key : Nat) (S : St) (K : Ks) : L_spec_BusiestJudge N 0 key S K = none := (bif0 (withVals0 fun _ => rfl) rfl)
noncomputable def c_spec_BusiestJudge_0 : Code := (loopsIn body_spec_BusiestJudge).getD 0 .skip
theorem ls_spec_BusiestJudge : loopsIn body_spec_BusiestJudge = [c_spec_BusiestJudge_0] := by kernel_rfl
theorem rd_spec_BusiestJudge_3 (N n : Nat) (x : Vals ks_spec_BusiestJudge_l3) (K : Ks) : L_spec_BusiestJudge N (n + 1) 3 (shape ks_spec_BusiestJudge_l3 x) (h_spec_BusiestJudge.onOut 3 K) = peRound h_spec_BusiestJudge (Orc.of (es_spec_BusiestJudge N)) (mixL (L_spec_BusiestJudge N) N n 3) c_spec_BusiestJudge_0 (shape ks_spec_BusiestJudge_l3 x) (h_spec_BusiestJudge.onOut 3 K) := by kernel_rfl
theorem fn_spec_BusiestJudge (N : Nat) (x : AVals sg_spec_BusiestJudge) (kf : Ret → Option Ret) : F_spec_BusiestJudge N x kf = peFunc h_spec_BusiestJudge (Orc.of (es_spec_BusiestJudge N)) (L_spec_BusiestJudge N N) Try.f39 (ashape sg_spec_BusiestJudge x) kf := by kernel_rfl
theorem sd_spec_BusiestJudge (N : Nat) : Sound Try.prog 39 (run_spec_BusiestJudge N) := fun_ok2 (hh := h_spec_BusiestJudge) mixed tab_ok (es := es_spec_BusiestJudge N) trivial (fn := Try.f39) (body := body_spec_BusiestJudge) (by kernel_rfl) (by kernel_rfl) (by kernel_rfl) (by kernel_rfl) (by kernel_rfl) (Lf := L_spec_BusiestJudge N) (L0_spec_BusiestJudge N) ls_spec_BusiestJudge (round_cons (key := 3) (ks := ks_spec_BusiestJudge_l3) (by kernel_rfl) (by kernel_rfl) (rd_spec_BusiestJudge_3 N) trivial) (N := N) (by kernel_rfl) (fn_spec_BusiestJudge N)
/-! impl_BusiestJudge -/
noncomputable def ks_impl_BusiestJudge_l5 : List Kd := [dK, dK, dK, .v (.ptr tQIILIE) (.o 92 none .k), dK, dK, dK, dK, dK, dK, dK, dK, .v (.sl tQIILIE) .k, .v (.int .i64) .k, .v (.int .i64) .k, dK, dK, dK, dK, dK, dK, dK, dK, dK, dK, dK, dK, dK, dK]
noncomputable def ko_impl_BusiestJudge_l5_0 : List Kd := [dK, dK, dK, .v (.ptr tQIILIE) (.o 92 none .k), dK, dK, dK, dK, dK, dK, dK, dK, dK, dK, dK, dK, dK, dK, dK, dK, dK, dK, dK, dK, dK, dK, dK, dK, dK]
noncomputable def h_impl_BusiestJudge : Hint := { tab, hn := [], loops := [(5, ks_impl_BusiestJudge_l5)], outs := [(5, 2, ko_impl_BusiestJudge_l5_0)], ords := [] }
noncomputable def sg_impl_BusiestJudge : List AK := [.v (.sl tQIILIE) .k]
noncomputable def F_impl_BusiestJudge (N : Nat) (x : AVals sg_impl_BusiestJudge) (kf : Ret → Option Ret) : Option Ret := impl_BusiestJudge N x.1 (fun r0 => kf ⟨[⟨(.int .i64), .k, r0⟩], []⟩)
noncomputable def run_impl_BusiestJudge (N : Nat) := runOf sg_impl_BusiestJudge (F_impl_BusiestJudge N)
noncomputable def es_impl_BusiestJudge (N : Nat) : List Entry := []
noncomputable def body_impl_BusiestJudge : Code := match Try.f41.body with | some c => c | none => .skip
noncomputable def L_impl_BusiestJudge (N n : Nat) (key : Nat) (S : St) (K : Ks) : Option Ret := bif Nat.beq key 5 then withVals ks_impl_BusiestJudge_l5 S (fun x => impl_BusiestJudge_l5 x.2.1 x.2.2.1 n (fun z0 => K (.x 0) (shape ko_impl_BusiestJudge_l5_0 (z0, ()))) x.1 x.2.2.2.1) else none
theorem L0_impl_BusiestJudge (N key : Nat) (S : St) (K : Ks) : L_impl_BusiestJudge N 0 key S K = none := (bif0 (withVals0 fun _ => rfl) rfl)
noncomputable def c_impl_BusiestJudge_0 : Code := (loopsIn body_impl_BusiestJudge).getD 0 .skip
theorem ls_impl_BusiestJudge : loopsIn body_impl_BusiestJudge = [c_impl_BusiestJudge_0] := by kernel_rfl
theorem rd_impl_BusiestJudge_5 (N n : Nat) (x : Vals ks_impl_BusiestJudge_l5) (K : Ks) : L_impl_BusiestJudge N (n + 1) 5 (shape ks_impl_BusiestJudge_l5 x) (h_impl_BusiestJudge.onOut 5 K) = peRound h_impl_BusiestJudge (Orc.of (es_impl_BusiestJudge N)) (mixL (L_impl_BusiestJudge N) N n 5) c_impl_BusiestJudge_0 (shape ks_impl_BusiestJudge_l5 x) (h_impl_BusiestJudge.onOut 5 K) := by kernel_rfl
theorem fn_impl_BusiestJudge (N : Nat) (x : AVals sg_impl_BusiestJudge) (kf : Ret → Option Ret) : F_impl_BusiestJudge N x kf = peFunc h_impl_BusiestJudge (Orc.of (es_impl_BusiestJudge N)) (L_impl_BusiestJudge N N) Try.f41 (ashape sg_impl_BusiestJudge x) kf := by kernel_rfl
theorem sd_impl_BusiestJudge (N : Nat) : Sound Try.prog 41 (run_impl_BusiestJudge N) := fun_ok2 (hh := h_impl_BusiestJudge) mixed tab_ok (es := es_impl_BusiestJudge N) trivial (fn := Try.f41) (body := body_impl_BusiestJudge) (by kernel_rfl) (by kernel_rfl) (by kernel_rfl) (by kernel_rfl) (by kernel_rfl) (Lf := L_impl_BusiestJudge N) (L0_impl_BusiestJudge N) ls_impl_BusiestJudge (round_cons (key := 5) (ks := ks_impl_BusiestJudge_l5) (by kernel_rfl) (by kernel_rfl) (rd_impl_BusiestJudge_5 N) trivial) (N := N) (by kernel_rfl) (fn_impl_BusiestJudge N)
/-! laws_eqJudge -/
noncomputable def h_laws_eqJudge : Hint := { tab, hn := [], loops := [], outs := [], ords := [] }
noncomputable def sg_laws_eqJudge : List AK := [.v tQIILIE .k, .v tQIILIE .k]
noncomputable def F_laws_eqJudge (N : Nat) (x : AVals sg_laws_eqJudge) (kf : Ret → Option Ret) : Option Ret := laws_eqJudge N x.1 x.2.1 (fun r0 => kf ⟨[⟨.bool, .k, r0⟩], []⟩)
noncomputable def run_laws_eqJudge (N : Nat) := runOf sg_laws_eqJudge (F_laws_eqJudge N)
noncomputable def es_laws_eqJudge (N : Nat) : List Entry := [⟨61, [.val, .val], (run_laws_eqIntS N)⟩]
noncomputable def body_laws_eqJudge : Code := match Try.f68.body with | some c => c | none => .skip
noncomputable def L_laws_eqJudge (N n : Nat) (key : Nat) (S : St) (K : Ks) : Option Ret := none
theorem L0_laws_eqJudge (N key : Nat) (S : St) (K : Ks) : L_laws_eqJudge N 0 key S K = none := rfl
theorem ls_laws_eqJudge : loopsIn body_laws_eqJudge = [] := by kernel_rfl
theorem fn_laws_eqJudge (N : Nat) (x : AVals sg_laws_eqJudge) (kf : Ret → Option Ret) : F_laws_eqJudge N x kf = peFunc h_laws_eqJudge (Orc.of (es_laws_eqJudge N)) (L_laws_eqJudge N N) Try.f68 (ashape sg_laws_eqJudge x) kf := by kernel_rfl
theorem sd_laws_eqJudge (N : Nat) : Sound Try.prog 68 (run_laws_eqJudge N) := fun_ok2 (hh := h_laws_eqJudge) mixed tab_ok (es := es_laws_eqJudge N) ⟨sd_laws_eqIntS N, trivial⟩ (fn := Try.f68) (body := body_laws_eqJudge) (by kernel_rfl) (by kernel_rfl) (by kernel_rfl) (by kernel_rfl) (by kernel_rfl) (Lf := L_laws_eqJudge N) (L0_laws_eqJudge N) ls_laws_eqJudge trivial (N := N) (by kernel_rfl) (fn_laws_eqJudge N)
/-! laws_eqJudgeS -/
noncomputable def ks_laws_eqJudgeS_l4 : List Kd := [.v (.sl tQIILIE) .k, .v (.sl tQIILIE) .k, dK, dK, dK, .v (.int .i64) .k, dK, dK, dK, dK, dK, dK, dK, dK, dK, dK, dK, dK, dK, dK, dK, dK, dK, dK, dK, dK, dK]
noncomputable def ko_laws_eqJudgeS_l4_0 : List Kd := [dK, dK, dK, dK, dK, dK, dK, dK, dK, dK, dK, dK, dK, dK, dK, dK, dK, dK, dK, dK, dK, dK, dK, dK, dK, dK, dK]
noncomputable def ko_laws_eqJudgeS_l4_1 : List Kd := [dK, dK, dK, dK, .v .bool .k, dK, dK, dK, dK, dK, dK, dK, dK, dK, dK, dK, dK, dK, dK, dK, dK, dK, dK, dK, dK, dK, dK]
noncomputable def h_laws_eqJudgeS : Hint := { tab, hn := [], loops := [(4, ks_laws_eqJudgeS_l4)], outs := [(4, 2, ko_laws_eqJudgeS_l4_0), (4, 1, ko_laws_eqJudgeS_l4_1)], ords := [(6, [0, 1, 2, 3, 4, 5, 6, 7, 8, 9])] }
noncomputable def sg_laws_eqJudgeS : List AK := [.v (.sl tQIILIE) .k, .v (.sl tQIILIE) .k]
noncomputable def F_laws_eqJudgeS (N : Nat) (x : AVals sg_laws_eqJudgeS) (kf : Ret → Option Ret) : Option Ret := laws_eqJudgeS N x.1 x.2.1 (fun r0 => kf ⟨[⟨.bool, .k, r0⟩], []⟩)
noncomputable def run_laws_eqJudgeS (N : Nat) := runOf sg_laws_eqJudgeS (F_laws_eqJudgeS N)
noncomputable def es_laws_eqJudgeS (N : Nat) : List Entry := [⟨68, [.val, .val], (run_laws_eqJudge N)⟩]
noncomputable def body_laws_eqJudgeS : Code := match Try.f42.body with | some c => c | none => .skip
noncomputable def L_laws_eqJudgeS (N n : Nat) (key : Nat) (S : St) (K : Ks) : Option Ret := bif Nat.beq key 4 then withVals ks_laws_eqJudgeS_l4 S (fun x => laws_eqJudgeS_l4 N x.1 x.2.1 n (K (.x 0) (shape ko_laws_eqJudgeS_l4_0 ())) (fun z0 => K .r (shape ko_laws_eqJudgeS_l4_1 (z0, ()))) x.2.2.1) else none
theorem L0_laws_eqJudgeS (N key : Nat) (S : St) (K : Ks) : L_laws_eqJudgeS N 0 key S K = none := (bif0 (withVals0 fun _ => rfl) rfl)
noncomputable def c_laws_eqJudgeS_0 : Code := (loopsIn body_laws_eqJudgeS).getD 0 .skip
theorem ls_laws_eqJudgeS : loopsIn body_laws_eqJudgeS = [c_laws_eqJudgeS_0] := by kernel_rfl
theorem rd_laws_eqJudgeS_4 (N n : Nat) (x : Vals ks_laws_eqJudgeS_l4) (K : Ks) : L_laws_eqJudgeS N (n + 1) 4 (shape ks_laws_eqJudgeS_l4 x) (h_laws_eqJudgeS.onOut 4 K) = peRound h_laws_eqJudgeS (Orc.of (es_laws_eqJudgeS N)) (mixL (L_laws_eqJudgeS N) N n 4) c_laws_eqJudgeS_0 (shape ks_laws_eqJudgeS_l4 x) (h_laws_eqJudgeS.onOut 4 K) := by kernel_rfl
theorem fn_laws_eqJudgeS (N : Nat) (x : AVals sg_laws_eqJudgeS) (kf : Ret → Option Ret) : F_laws_eqJudgeS N x kf = peFunc h_laws_eqJudgeS (Orc.of (es_laws_eqJudgeS N)) (L_laws_eqJudgeS N N) Try.f42 (ashape sg_laws_eqJudgeS x) kf := by kernel_rfl
theorem sd_laws_eqJudgeS (N : Nat) : Sound Try.prog 42 (run_laws_eqJudgeS N) := fun_ok2 (hh := h_laws_eqJudgeS) mixed tab_ok (es := es_laws_eqJudgeS N) ⟨sd_laws_eqJudge N, trivial⟩ (fn := Try.f42) (body := body_laws_eqJudgeS) (by kernel_rfl) (by kernel_rfl) (by kernel_rfl) (by kernel_rfl) (by kernel_rfl) (Lf := L_laws_eqJudgeS N) (L0_laws_eqJudgeS N) ls_laws_eqJudgeS (round_cons (key := 4) (ks := ks_laws_eqJudgeS_l4) (by kernel_rfl) (by kernel_rfl) (rd_laws_eqJudgeS_4 N) trivial) (N := N) (by kernel_rfl) (fn_laws_eqJudgeS N)
/-! laws_FnExactBusiestJudge -/
noncomputable def h_laws_FnExactBusiestJudge : Hint := { tab, hn := [], loops := [], outs := [], ords := [] }
noncomputable def sg_laws_FnExactBusiestJudge : List AK := [.v (.sl tQIILIE) .k]
noncomputable def F_laws_FnExactBusiestJudge (N : Nat) (x : AVals sg_laws_FnExactBusiestJudge) (kf : Ret → Option Ret) : Option Ret := laws_FnExactBusiestJudge N x.1 (fun r0 => kf ⟨[⟨.bool, .k, r0⟩], []⟩)
noncomputable def run_laws_FnExactBusiestJudge (N : Nat) := runOf sg_laws_FnExactBusiestJudge (F_laws_FnExactBusiestJudge N)
noncomputable def es_laws_FnExactBusiestJudge (N : Nat) : List Entry := [⟨38, [.val, .val], (run_laws_szJudgeS N)⟩, ⟨40, [.val], (run_laws_toJudgeS N)⟩, ⟨39, [.val], (run_spec_BusiestJudge N)⟩, ⟨41, [.val], (run_impl_BusiestJudge N)⟩, ⟨42, [.val, .val], (run_laws_eqJudgeS N)⟩]
noncomputable def body_laws_FnExactBusiestJudge : Code := match Try.f9.body with | some c => c | none => .skip
noncomputable def L_laws_FnExactBusiestJudge (N n : Nat) (key : Nat) (S : St) (K : Ks) : Option Ret := none
theorem L0_laws_FnExactBusiestJudge (N key : Nat) (S : St) (K : Ks) : L_laws_FnExactBusiestJudge N 0 key S K = none := rfl
theorem ls_laws_FnExactBusiestJudge : loopsIn body_laws_FnExactBusiestJudge = [] := by kernel_rfl
theorem fn_laws_FnExactBusiestJudge (N : Nat) (x : AVals sg_laws_FnExactBusiestJudge) (kf : Ret → Option Ret) : F_laws_FnExactBusiestJudge N x kf = peFunc h_laws_FnExactBusiestJudge (Orc.of (es_laws_FnExactBusiestJudge N)) (L_laws_FnExactBusiestJudge N N) Try.f9 (ashape sg_laws_FnExactBusiestJudge x) kf := by kernel_rfl
theorem sd_laws_FnExactBusiestJudge (N : Nat) : Sound Try.prog 9 (run_laws_FnExactBusiestJudge N) := fun_ok2 (hh := h_laws_FnExactBusiestJudge) mixed tab_ok (es := es_laws_FnExactBusiestJudge N) ⟨sd_laws_szJudgeS N, ⟨sd_laws_toJudgeS N, ⟨sd_spec_BusiestJudge N, ⟨sd_impl_BusiestJudge N, ⟨sd_laws_eqJudgeS N, trivial⟩⟩⟩⟩⟩ (fn := Try.f9) (body := body_laws_FnExactBusiestJudge) (by kernel_rfl) (by kernel_rfl) (by kernel_rfl) (by kernel_rfl) (by kernel_rfl) (Lf := L_laws_FnExactBusiestJudge N) (L0_laws_FnExactBusiestJudge N) ls_laws_FnExactBusiestJudge trivial (N := N) (by kernel_rfl) (fn_laws_FnExactBusiestJudge N)
end Go.Pv.R
