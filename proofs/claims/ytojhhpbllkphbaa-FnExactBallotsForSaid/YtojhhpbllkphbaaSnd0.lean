/- Each function of the program that the law reaches computes its plain function, part 0. -/
import Derived.Test.YtojhhpbllkphbaaPlRes
import Derived.Test.YtojhhpbllkphbaaProg
namespace Go.Pv.R
open Go.Proofs
set_option linter.unusedVariables false
set_option maxRecDepth 100000
noncomputable abbrev dK : Kd := .dead
noncomputable def tab : Tab := [⟨2, (.int .i64), 0, []⟩, ⟨3, (.int .i64), 0, []⟩, ⟨4, .bool, 0, []⟩, ⟨5, (.int .u8), 0, []⟩, ⟨9, .str, 0, []⟩, ⟨12, (.int .u64), 0, []⟩, ⟨21, (.int .i32), 0, []⟩, ⟨22, (.sl tQIIIIILIE), 134, []⟩, ⟨23, (.sl tQIILIE), 136, []⟩, ⟨24, (.sl tQIIE), 141, []⟩, ⟨25, (.sl (.int .i64)), 3, []⟩, ⟨26, (.sl tQIIIE), 143, []⟩, ⟨27, (.sl tQIIIIE), 102, []⟩, ⟨28, tQLQIIIIILIELQIILIELQIIELILQIIIELQIIIIEIE, 0, [22, 23, 24, 25, 26, 27, 3]⟩, ⟨29, tQLQIIIIILIELQIILIELQIIELILQIIIELQIIIIEIE, 0, [22, 23, 24, 25, 26, 27, 3]⟩, ⟨32, (.sl tQIIIIILIE), 119, []⟩, ⟨33, (.sl tQIILIE), 123, []⟩, ⟨34, (.sl tQIIE), 126, []⟩, ⟨35, (.sl tQIIIE), 92, []⟩, ⟨36, (.sl tQIIIIE), 80, []⟩, ⟨37, tQLQIIIIILIELQIILIELQIIELILQIIIELQIIIIEIE, 0, [32, 33, 34, 25, 35, 36, 3]⟩, ⟨38, tQLQIIIIILIELQIILIELQIIELILQIIIELQIIIIEIE, 0, [32, 33, 34, 25, 35, 36, 3]⟩, ⟨46, (.sl tQIIIIE), 98, []⟩, ⟨58, (.sl (.int .u8)), 5, []⟩, ⟨65, (.sl (.sl (.int .i64))), 25, []⟩, ⟨66, tQILLIE, 0, [3, 65]⟩, ⟨67, tQILLIE, 0, [3, 65]⟩, ⟨70, tQILLIE, 0, [3, 65]⟩, ⟨79, tQIIIIE, 0, [3, 3, 3, 3]⟩, ⟨80, tQIIIIE, 0, [3, 3, 3, 3]⟩, ⟨91, tQIIIE, 0, [3, 3, 3]⟩, ⟨92, tQIIIE, 0, [3, 3, 3]⟩, ⟨97, tQIIIIE, 0, [3, 3, 3, 3]⟩, ⟨98, tQIIIIE, 0, [3, 3, 3, 3]⟩, ⟨102, tQIIIIE, 0, [3, 3, 3, 3]⟩, ⟨118, tQIIIIILIE, 0, [3, 3, 3, 3, 3, 25]⟩, ⟨119, tQIIIIILIE, 0, [3, 3, 3, 3, 3, 25]⟩, ⟨122, tQIILIE, 0, [3, 3, 25]⟩, ⟨123, tQIILIE, 0, [3, 3, 25]⟩, ⟨125, tQIIE, 0, [3, 3]⟩, ⟨126, tQIIE, 0, [3, 3]⟩, ⟨134, tQIIIIILIE, 0, [3, 3, 3, 3, 3, 25]⟩, ⟨136, tQIILIE, 0, [3, 3, 25]⟩, ⟨141, tQIIE, 0, [3, 3]⟩, ⟨143, tQIIIE, 0, [3, 3, 3]⟩, ⟨148, (.int .u64), 0, []⟩, ⟨152, tQLIIIE, 0, [58, 3, 3]⟩, ⟨153, tQLIIIE, 0, [58, 3, 3]⟩, ⟨165, (.sl .str), 9, []⟩, ⟨174, (.int .i64), 0, []⟩, ⟨183, (.int .u32), 0, []⟩, ⟨185, (.int .u64), 0, []⟩, ⟨201, (.int .u64), 0, []⟩]
theorem mixed : Try.prog.follows .mixedOrders = true := by kernel_rfl
theorem tab_ok : tabB Try.prog tab = true := by kernel_rfl
/-! laws_szIntS -/
noncomputable def h_laws_szIntS : Hint := { tab, hn := [], loops := [], outs := [], ords := [] }
noncomputable def sg_laws_szIntS : List AK := [.v (.sl (.int .i64)) .k, .v (.int .i64) .k]
noncomputable def F_laws_szIntS (N : Nat) (x : AVals sg_laws_szIntS) (kf : Ret → Option Ret) : Option Ret := laws_szIntS N x.1 x.2.1 (fun r0 => kf ⟨[⟨(.int .i64), .k, r0⟩], []⟩)
noncomputable def run_laws_szIntS (N : Nat) := runOf sg_laws_szIntS (F_laws_szIntS N)
noncomputable def es_laws_szIntS (N : Nat) : List Entry := []
noncomputable def body_laws_szIntS : Code := match Try.f61.body with | some c => c | none => .skip
noncomputable def L_laws_szIntS (N n : Nat) (key : Nat) (S : St) (K : Ks) : Option Ret := none
theorem L0_laws_szIntS (N key : Nat) (S : St) (K : Ks) : L_laws_szIntS N 0 key S K = none := rfl
theorem ls_laws_szIntS : loopsIn body_laws_szIntS = [] := by kernel_rfl
theorem fn_laws_szIntS (N : Nat) (x : AVals sg_laws_szIntS) (kf : Ret → Option Ret) : F_laws_szIntS N x kf = peFunc h_laws_szIntS (Orc.of (es_laws_szIntS N)) (L_laws_szIntS N N) Try.f61 (ashape sg_laws_szIntS x) kf := by kernel_rfl
theorem sd_laws_szIntS (N : Nat) : Sound Try.prog 61 (run_laws_szIntS N) := fun_ok2 (hh := h_laws_szIntS) mixed tab_ok (es := es_laws_szIntS N) trivial (fn := Try.f61) (body := body_laws_szIntS) (by kernel_rfl) (by kernel_rfl) (by kernel_rfl) (by kernel_rfl) (by kernel_rfl) (Lf := L_laws_szIntS N) (L0_laws_szIntS N) ls_laws_szIntS trivial (N := N) (by kernel_rfl) (fn_laws_szIntS N)
/-! laws_szTeam -/
noncomputable def h_laws_szTeam : Hint := { tab, hn := [], loops := [], outs := [], ords := [] }
noncomputable def sg_laws_szTeam : List AK := [.v tQIIIIILIE .k, .v (.int .i64) .k]
noncomputable def F_laws_szTeam (N : Nat) (x : AVals sg_laws_szTeam) (kf : Ret → Option Ret) : Option Ret := laws_szTeam N x.1 x.2.1 (fun r0 => kf ⟨[⟨(.int .i64), .k, r0⟩], []⟩)
noncomputable def run_laws_szTeam (N : Nat) := runOf sg_laws_szTeam (F_laws_szTeam N)
noncomputable def es_laws_szTeam (N : Nat) : List Entry := [⟨61, [.val, .val], (run_laws_szIntS N)⟩]
noncomputable def body_laws_szTeam : Code := match Try.f127.body with | some c => c | none => .skip
noncomputable def L_laws_szTeam (N n : Nat) (key : Nat) (S : St) (K : Ks) : Option Ret := none
theorem L0_laws_szTeam (N key : Nat) (S : St) (K : Ks) : L_laws_szTeam N 0 key S K = none := rfl
theorem ls_laws_szTeam : loopsIn body_laws_szTeam = [] := by kernel_rfl
theorem fn_laws_szTeam (N : Nat) (x : AVals sg_laws_szTeam) (kf : Ret → Option Ret) : F_laws_szTeam N x kf = peFunc h_laws_szTeam (Orc.of (es_laws_szTeam N)) (L_laws_szTeam N N) Try.f127 (ashape sg_laws_szTeam x) kf := by kernel_rfl
theorem sd_laws_szTeam (N : Nat) : Sound Try.prog 127 (run_laws_szTeam N) := fun_ok2 (hh := h_laws_szTeam) mixed tab_ok (es := es_laws_szTeam N) ⟨sd_laws_szIntS N, trivial⟩ (fn := Try.f127) (body := body_laws_szTeam) (by kernel_rfl) (by kernel_rfl) (by kernel_rfl) (by kernel_rfl) (by kernel_rfl) (Lf := L_laws_szTeam N) (L0_laws_szTeam N) ls_laws_szTeam trivial (N := N) (by kernel_rfl) (fn_laws_szTeam N)
/-! laws_szTeamS -/
noncomputable def ks_laws_szTeamS_l5 : List Kd := [.v (.sl tQIIIIILIE) .k, .v (.int .i64) .k, dK, dK, dK, .v (.int .i64) .k, dK, dK, dK, dK, dK, dK, dK, dK, dK, dK, dK, dK, dK, dK, dK, dK, dK, dK, dK, dK, dK]
noncomputable def ko_laws_szTeamS_l5_0 : List Kd := [dK, .v (.int .i64) .k, dK, dK, dK, dK, dK, dK, dK, dK, dK, dK, dK, dK, dK, dK, dK, dK, dK, dK, dK, dK, dK, dK, dK, dK, dK]
noncomputable def ko_laws_szTeamS_l5_1 : List Kd := [dK, dK, dK, dK, .v (.int .i64) .k, dK, dK, dK, dK, dK, dK, dK, dK, dK, dK, dK, dK, dK, dK, dK, dK, dK, dK, dK, dK, dK, dK]
noncomputable def h_laws_szTeamS : Hint := { tab, hn := [], loops := [(5, ks_laws_szTeamS_l5)], outs := [(5, 2, ko_laws_szTeamS_l5_0), (5, 1, ko_laws_szTeamS_l5_1)], ords := [] }
noncomputable def sg_laws_szTeamS : List AK := [.v (.sl tQIIIIILIE) .k, .v (.int .i64) .k]
noncomputable def F_laws_szTeamS (N : Nat) (x : AVals sg_laws_szTeamS) (kf : Ret → Option Ret) : Option Ret := laws_szTeamS N x.1 x.2.1 (fun r0 => kf ⟨[⟨(.int .i64), .k, r0⟩], []⟩)
noncomputable def run_laws_szTeamS (N : Nat) := runOf sg_laws_szTeamS (F_laws_szTeamS N)
noncomputable def es_laws_szTeamS (N : Nat) : List Entry := [⟨127, [.val, .val], (run_laws_szTeam N)⟩]
noncomputable def body_laws_szTeamS : Code := match Try.f58.body with | some c => c | none => .skip
noncomputable def L_laws_szTeamS (N n : Nat) (key : Nat) (S : St) (K : Ks) : Option Ret := bif Nat.beq key 5 then withVals ks_laws_szTeamS_l5 S (fun x => laws_szTeamS_l5 N x.1 n (fun z0 => K (.x 0) (shape ko_laws_szTeamS_l5_0 (z0, ()))) (fun z0 => K .r (shape ko_laws_szTeamS_l5_1 (z0, ()))) x.2.1 x.2.2.1) else none
theorem L0_laws_szTeamS (N key : Nat) (S : St) (K : Ks) : L_laws_szTeamS N 0 key S K = none := (bif0 (withVals0 fun _ => rfl) rfl)
noncomputable def c_laws_szTeamS_0 : Code := (loopsIn body_laws_szTeamS).getD 0 .skip
theorem ls_laws_szTeamS : loopsIn body_laws_szTeamS = [c_laws_szTeamS_0] := by kernel_rfl
theorem rd_laws_szTeamS_5 (N n : Nat) (x : Vals ks_laws_szTeamS_l5) (K : Ks) : L_laws_szTeamS N (n + 1) 5 (shape ks_laws_szTeamS_l5 x) (h_laws_szTeamS.onOut 5 K) = peRound h_laws_szTeamS (Orc.of (es_laws_szTeamS N)) (mixL (L_laws_szTeamS N) N n 5) c_laws_szTeamS_0 (shape ks_laws_szTeamS_l5 x) (h_laws_szTeamS.onOut 5 K) := by kernel_rfl
theorem fn_laws_szTeamS (N : Nat) (x : AVals sg_laws_szTeamS) (kf : Ret → Option Ret) : F_laws_szTeamS N x kf = peFunc h_laws_szTeamS (Orc.of (es_laws_szTeamS N)) (L_laws_szTeamS N N) Try.f58 (ashape sg_laws_szTeamS x) kf := by kernel_rfl
theorem sd_laws_szTeamS (N : Nat) : Sound Try.prog 58 (run_laws_szTeamS N) := fun_ok2 (hh := h_laws_szTeamS) mixed tab_ok (es := es_laws_szTeamS N) ⟨sd_laws_szTeam N, trivial⟩ (fn := Try.f58) (body := body_laws_szTeamS) (by kernel_rfl) (by kernel_rfl) (by kernel_rfl) (by kernel_rfl) (by kernel_rfl) (Lf := L_laws_szTeamS N) (L0_laws_szTeamS N) ls_laws_szTeamS (round_cons (key := 5) (ks := ks_laws_szTeamS_l5) (by kernel_rfl) (by kernel_rfl) (rd_laws_szTeamS_5 N) trivial) (N := N) (by kernel_rfl) (fn_laws_szTeamS N)
/-! laws_szJudge -/
noncomputable def h_laws_szJudge : Hint := { tab, hn := [], loops := [], outs := [], ords := [] }
noncomputable def sg_laws_szJudge : List AK := [.v tQIILIE .k, .v (.int .i64) .k]
noncomputable def F_laws_szJudge (N : Nat) (x : AVals sg_laws_szJudge) (kf : Ret → Option Ret) : Option Ret := laws_szJudge N x.1 x.2.1 (fun r0 => kf ⟨[⟨(.int .i64), .k, r0⟩], []⟩)
noncomputable def run_laws_szJudge (N : Nat) := runOf sg_laws_szJudge (F_laws_szJudge N)
noncomputable def es_laws_szJudge (N : Nat) : List Entry := [⟨61, [.val, .val], (run_laws_szIntS N)⟩]
noncomputable def body_laws_szJudge : Code := match Try.f128.body with | some c => c | none => .skip
noncomputable def L_laws_szJudge (N n : Nat) (key : Nat) (S : St) (K : Ks) : Option Ret := none
theorem L0_laws_szJudge (N key : Nat) (S : St) (K : Ks) : L_laws_szJudge N 0 key S K = none := rfl
theorem ls_laws_szJudge : loopsIn body_laws_szJudge = [] := by kernel_rfl
theorem fn_laws_szJudge (N : Nat) (x : AVals sg_laws_szJudge) (kf : Ret → Option Ret) : F_laws_szJudge N x kf = peFunc h_laws_szJudge (Orc.of (es_laws_szJudge N)) (L_laws_szJudge N N) Try.f128 (ashape sg_laws_szJudge x) kf := by kernel_rfl
theorem sd_laws_szJudge (N : Nat) : Sound Try.prog 128 (run_laws_szJudge N) := fun_ok2 (hh := h_laws_szJudge) mixed tab_ok (es := es_laws_szJudge N) ⟨sd_laws_szIntS N, trivial⟩ (fn := Try.f128) (body := body_laws_szJudge) (by kernel_rfl) (by kernel_rfl) (by kernel_rfl) (by kernel_rfl) (by kernel_rfl) (Lf := L_laws_szJudge N) (L0_laws_szJudge N) ls_laws_szJudge trivial (N := N) (by kernel_rfl) (fn_laws_szJudge N)
/-! laws_szJudgeS -/
noncomputable def ks_laws_szJudgeS_l5 : List Kd := [.v (.sl tQIILIE) .k, .v (.int .i64) .k, dK, dK, dK, .v (.int .i64) .k, dK, dK, dK, dK, dK, dK, dK, dK, dK, dK, dK, dK, dK, dK, dK, dK, dK, dK, dK, dK, dK]
noncomputable def ko_laws_szJudgeS_l5_0 : List Kd := [dK, .v (.int .i64) .k, dK, dK, dK, dK, dK, dK, dK, dK, dK, dK, dK, dK, dK, dK, dK, dK, dK, dK, dK, dK, dK, dK, dK, dK, dK]
noncomputable def ko_laws_szJudgeS_l5_1 : List Kd := [dK, dK, dK, dK, .v (.int .i64) .k, dK, dK, dK, dK, dK, dK, dK, dK, dK, dK, dK, dK, dK, dK, dK, dK, dK, dK, dK, dK, dK, dK]
noncomputable def h_laws_szJudgeS : Hint := { tab, hn := [], loops := [(5, ks_laws_szJudgeS_l5)], outs := [(5, 2, ko_laws_szJudgeS_l5_0), (5, 1, ko_laws_szJudgeS_l5_1)], ords := [] }
noncomputable def sg_laws_szJudgeS : List AK := [.v (.sl tQIILIE) .k, .v (.int .i64) .k]
noncomputable def F_laws_szJudgeS (N : Nat) (x : AVals sg_laws_szJudgeS) (kf : Ret → Option Ret) : Option Ret := laws_szJudgeS N x.1 x.2.1 (fun r0 => kf ⟨[⟨(.int .i64), .k, r0⟩], []⟩)
noncomputable def run_laws_szJudgeS (N : Nat) := runOf sg_laws_szJudgeS (F_laws_szJudgeS N)
noncomputable def es_laws_szJudgeS (N : Nat) : List Entry := [⟨128, [.val, .val], (run_laws_szJudge N)⟩]
noncomputable def body_laws_szJudgeS : Code := match Try.f59.body with | some c => c | none => .skip
noncomputable def L_laws_szJudgeS (N n : Nat) (key : Nat) (S : St) (K : Ks) : Option Ret := bif Nat.beq key 5 then withVals ks_laws_szJudgeS_l5 S (fun x => laws_szJudgeS_l5 N x.1 n (fun z0 => K (.x 0) (shape ko_laws_szJudgeS_l5_0 (z0, ()))) (fun z0 => K .r (shape ko_laws_szJudgeS_l5_1 (z0, ()))) x.2.1 x.2.2.1) else none
theorem L0_laws_szJudgeS (N key : Nat) (S : St) (K : Ks) : L_laws_szJudgeS N 0 key S K = none := (bif0 (withVals0 fun _ => rfl) rfl)
noncomputable def c_laws_szJudgeS_0 : Code := (loopsIn body_laws_szJudgeS).getD 0 .skip
theorem ls_laws_szJudgeS : loopsIn body_laws_szJudgeS = [c_laws_szJudgeS_0] := by kernel_rfl
theorem rd_laws_szJudgeS_5 (N n : Nat) (x : Vals ks_laws_szJudgeS_l5) (K : Ks) : L_laws_szJudgeS N (n + 1) 5 (shape ks_laws_szJudgeS_l5 x) (h_laws_szJudgeS.onOut 5 K) = peRound h_laws_szJudgeS (Orc.of (es_laws_szJudgeS N)) (mixL (L_laws_szJudgeS N) N n 5) c_laws_szJudgeS_0 (shape ks_laws_szJudgeS_l5 x) (h_laws_szJudgeS.onOut 5 K) := by kernel_rfl
theorem fn_laws_szJudgeS (N : Nat) (x : AVals sg_laws_szJudgeS) (kf : Ret → Option Ret) : F_laws_szJudgeS N x kf = peFunc h_laws_szJudgeS (Orc.of (es_laws_szJudgeS N)) (L_laws_szJudgeS N N) Try.f59 (ashape sg_laws_szJudgeS x) kf := by kernel_rfl
theorem sd_laws_szJudgeS (N : Nat) : Sound Try.prog 59 (run_laws_szJudgeS N) := fun_ok2 (hh := h_laws_szJudgeS) mixed tab_ok (es := es_laws_szJudgeS N) ⟨sd_laws_szJudge N, trivial⟩ (fn := Try.f59) (body := body_laws_szJudgeS) (by kernel_rfl) (by kernel_rfl) (by kernel_rfl) (by kernel_rfl) (by kernel_rfl) (Lf := L_laws_szJudgeS N) (L0_laws_szJudgeS N) ls_laws_szJudgeS (round_cons (key := 5) (ks := ks_laws_szJudgeS_l5) (by kernel_rfl) (by kernel_rfl) (rd_laws_szJudgeS_5 N) trivial) (N := N) (by kernel_rfl) (fn_laws_szJudgeS N)
/-! laws_szPairS -/
noncomputable def h_laws_szPairS : Hint := { tab, hn := [], loops := [], outs := [], ords := [] }
noncomputable def sg_laws_szPairS : List AK := [.v (.sl tQIIE) .k, .v (.int .i64) .k]
noncomputable def F_laws_szPairS (N : Nat) (x : AVals sg_laws_szPairS) (kf : Ret → Option Ret) : Option Ret := laws_szPairS N x.1 x.2.1 (fun r0 => kf ⟨[⟨(.int .i64), .k, r0⟩], []⟩)
noncomputable def run_laws_szPairS (N : Nat) := runOf sg_laws_szPairS (F_laws_szPairS N)
noncomputable def es_laws_szPairS (N : Nat) : List Entry := []
noncomputable def body_laws_szPairS : Code := match Try.f60.body with | some c => c | none => .skip
noncomputable def L_laws_szPairS (N n : Nat) (key : Nat) (S : St) (K : Ks) : Option Ret := none
theorem L0_laws_szPairS (N key : Nat) (S : St) (K : Ks) : L_laws_szPairS N 0 key S K = none := rfl
theorem ls_laws_szPairS : loopsIn body_laws_szPairS = [] := by kernel_rfl
theorem fn_laws_szPairS (N : Nat) (x : AVals sg_laws_szPairS) (kf : Ret → Option Ret) : F_laws_szPairS N x kf = peFunc h_laws_szPairS (Orc.of (es_laws_szPairS N)) (L_laws_szPairS N N) Try.f60 (ashape sg_laws_szPairS x) kf := by kernel_rfl
theorem sd_laws_szPairS (N : Nat) : Sound Try.prog 60 (run_laws_szPairS N) := fun_ok2 (hh := h_laws_szPairS) mixed tab_ok (es := es_laws_szPairS N) trivial (fn := Try.f60) (body := body_laws_szPairS) (by kernel_rfl) (by kernel_rfl) (by kernel_rfl) (by kernel_rfl) (by kernel_rfl) (Lf := L_laws_szPairS N) (L0_laws_szPairS N) ls_laws_szPairS trivial (N := N) (by kernel_rfl) (fn_laws_szPairS N)
/-! laws_szBallotS -/
noncomputable def h_laws_szBallotS : Hint := { tab, hn := [], loops := [], outs := [], ords := [] }
noncomputable def sg_laws_szBallotS : List AK := [.v (.sl tQIIIE) .k, .v (.int .i64) .k]
noncomputable def F_laws_szBallotS (N : Nat) (x : AVals sg_laws_szBallotS) (kf : Ret → Option Ret) : Option Ret := laws_szBallotS N x.1 x.2.1 (fun r0 => kf ⟨[⟨(.int .i64), .k, r0⟩], []⟩)
noncomputable def run_laws_szBallotS (N : Nat) := runOf sg_laws_szBallotS (F_laws_szBallotS N)
noncomputable def es_laws_szBallotS (N : Nat) : List Entry := []
noncomputable def body_laws_szBallotS : Code := match Try.f62.body with | some c => c | none => .skip
noncomputable def L_laws_szBallotS (N n : Nat) (key : Nat) (S : St) (K : Ks) : Option Ret := none
theorem L0_laws_szBallotS (N key : Nat) (S : St) (K : Ks) : L_laws_szBallotS N 0 key S K = none := rfl
theorem ls_laws_szBallotS : loopsIn body_laws_szBallotS = [] := by kernel_rfl
theorem fn_laws_szBallotS (N : Nat) (x : AVals sg_laws_szBallotS) (kf : Ret → Option Ret) : F_laws_szBallotS N x kf = peFunc h_laws_szBallotS (Orc.of (es_laws_szBallotS N)) (L_laws_szBallotS N N) Try.f62 (ashape sg_laws_szBallotS x) kf := by kernel_rfl
theorem sd_laws_szBallotS (N : Nat) : Sound Try.prog 62 (run_laws_szBallotS N) := fun_ok2 (hh := h_laws_szBallotS) mixed tab_ok (es := es_laws_szBallotS N) trivial (fn := Try.f62) (body := body_laws_szBallotS) (by kernel_rfl) (by kernel_rfl) (by kernel_rfl) (by kernel_rfl) (by kernel_rfl) (Lf := L_laws_szBallotS N) (L0_laws_szBallotS N) ls_laws_szBallotS trivial (N := N) (by kernel_rfl) (fn_laws_szBallotS N)
/-! laws_szLineS -/
noncomputable def h_laws_szLineS : Hint := { tab, hn := [], loops := [], outs := [], ords := [] }
noncomputable def sg_laws_szLineS : List AK := [.v (.sl tQIIIIE) .k, .v (.int .i64) .k]
noncomputable def F_laws_szLineS (N : Nat) (x : AVals sg_laws_szLineS) (kf : Ret → Option Ret) : Option Ret := laws_szLineS N x.1 x.2.1 (fun r0 => kf ⟨[⟨(.int .i64), .k, r0⟩], []⟩)
noncomputable def run_laws_szLineS (N : Nat) := runOf sg_laws_szLineS (F_laws_szLineS N)
noncomputable def es_laws_szLineS (N : Nat) : List Entry := []
noncomputable def body_laws_szLineS : Code := match Try.f30.body with | some c => c | none => .skip
noncomputable def L_laws_szLineS (N n : Nat) (key : Nat) (S : St) (K : Ks) : Option Ret := none
theorem L0_laws_szLineS (N key : Nat) (S : St) (K : Ks) : L_laws_szLineS N 0 key S K = none := rfl
theorem ls_laws_szLineS : loopsIn body_laws_szLineS = [] := by kernel_rfl
theorem fn_laws_szLineS (N : Nat) (x : AVals sg_laws_szLineS) (kf : Ret → Option Ret) : F_laws_szLineS N x kf = peFunc h_laws_szLineS (Orc.of (es_laws_szLineS N)) (L_laws_szLineS N N) Try.f30 (ashape sg_laws_szLineS x) kf := by kernel_rfl
theorem sd_laws_szLineS (N : Nat) : Sound Try.prog 30 (run_laws_szLineS N) := fun_ok2 (hh := h_laws_szLineS) mixed tab_ok (es := es_laws_szLineS N) trivial (fn := Try.f30) (body := body_laws_szLineS) (by kernel_rfl) (by kernel_rfl) (by kernel_rfl) (by kernel_rfl) (by kernel_rfl) (Lf := L_laws_szLineS N) (L0_laws_szLineS N) ls_laws_szLineS trivial (N := N) (by kernel_rfl) (fn_laws_szLineS N)
/-! laws_szClub -/
noncomputable def h_laws_szClub : Hint := { tab, hn := [], loops := [], outs := [], ords := [] }
noncomputable def sg_laws_szClub : List AK := [.v tQLQIIIIILIELQIILIELQIIELILQIIIELQIIIIEIE .k, .v (.int .i64) .k]
noncomputable def F_laws_szClub (N : Nat) (x : AVals sg_laws_szClub) (kf : Ret → Option Ret) : Option Ret := laws_szClub N x.1 x.2.1 (fun r0 => kf ⟨[⟨(.int .i64), .k, r0⟩], []⟩)
noncomputable def run_laws_szClub (N : Nat) := runOf sg_laws_szClub (F_laws_szClub N)
noncomputable def es_laws_szClub (N : Nat) : List Entry := [⟨58, [.val, .val], (run_laws_szTeamS N)⟩, ⟨59, [.val, .val], (run_laws_szJudgeS N)⟩, ⟨60, [.val, .val], (run_laws_szPairS N)⟩, ⟨61, [.val, .val], (run_laws_szIntS N)⟩, ⟨62, [.val, .val], (run_laws_szBallotS N)⟩, ⟨30, [.val, .val], (run_laws_szLineS N)⟩]
noncomputable def body_laws_szClub : Code := match Try.f13.body with | some c => c | none => .skip
noncomputable def L_laws_szClub (N n : Nat) (key : Nat) (S : St) (K : Ks) : Option Ret := none
theorem L0_laws_szClub (N key : Nat) (S : St) (K : Ks) : L_laws_szClub N 0 key S K = none := rfl
theorem ls_laws_szClub : loopsIn body_laws_szClub = [] := by kernel_rfl
theorem fn_laws_szClub (N : Nat) (x : AVals sg_laws_szClub) (kf : Ret → Option Ret) : F_laws_szClub N x kf = peFunc h_laws_szClub (Orc.of (es_laws_szClub N)) (L_laws_szClub N N) Try.f13 (ashape sg_laws_szClub x) kf := by kernel_rfl
theorem sd_laws_szClub (N : Nat) : Sound Try.prog 13 (run_laws_szClub N) := fun_ok2 (hh := h_laws_szClub) mixed tab_ok (es := es_laws_szClub N) ⟨sd_laws_szTeamS N, ⟨sd_laws_szJudgeS N, ⟨sd_laws_szPairS N, ⟨sd_laws_szIntS N, ⟨sd_laws_szBallotS N, ⟨sd_laws_szLineS N, trivial⟩⟩⟩⟩⟩⟩ (fn := Try.f13) (body := body_laws_szClub) (by kernel_rfl) (by kernel_rfl) (by kernel_rfl) (by kernel_rfl) (by kernel_rfl) (Lf := L_laws_szClub N) (L0_laws_szClub N) ls_laws_szClub trivial (N := N) (by kernel_rfl) (fn_laws_szClub N)
/-! laws_toIntS -/
noncomputable def ks_laws_toIntS_l3 : List Kd := [.v (.sl (.int .i64)) .k, dK, dK, .v (.sl (.int .i64)) (.o 3 none .k), .v (.int .i64) .k, dK, dK, dK, dK, dK, dK, dK, dK, dK, dK, dK, dK, dK, dK, dK, dK, dK]
noncomputable def ko_laws_toIntS_l3_0 : List Kd := [dK, dK, dK, .v (.sl (.int .i64)) (.o 3 none .k), dK, dK, dK, dK, dK, dK, dK, dK, dK, dK, dK, dK, dK, dK, dK, dK, dK, dK]
noncomputable def h_laws_toIntS : Hint := { tab, hn := [], loops := [(3, ks_laws_toIntS_l3)], outs := [(3, 2, ko_laws_toIntS_l3_0)], ords := [] }
noncomputable def sg_laws_toIntS : List AK := [.v (.sl (.int .i64)) .k]
noncomputable def F_laws_toIntS (N : Nat) (x : AVals sg_laws_toIntS) (kf : Ret → Option Ret) : Option Ret := laws_toIntS N x.1 (fun r0 => kf ⟨[⟨(.sl (.int .i64)), (.o 3 none .k), r0⟩], []⟩)
noncomputable def run_laws_toIntS (N : Nat) := runOf sg_laws_toIntS (F_laws_toIntS N)
noncomputable def es_laws_toIntS (N : Nat) : List Entry := []
noncomputable def body_laws_toIntS : Code := match Try.f25.body with | some c => c | none => .skip
noncomputable def L_laws_toIntS (N n : Nat) (key : Nat) (S : St) (K : Ks) : Option Ret := bif Nat.beq key 3 then withVals ks_laws_toIntS_l3 S (fun x => laws_toIntS_l3 x.1 n (fun z0 => K (.x 0) (shape ko_laws_toIntS_l3_0 (z0, ()))) x.2.1 x.2.2.1) else none
theorem L0_laws_toIntS (N key : Nat) (S : St) (K : Ks) : L_laws_toIntS N 0 key S K = none := (bif0 (withVals0 fun _ => rfl) rfl)
noncomputable def c_laws_toIntS_0 : Code := (loopsIn body_laws_toIntS).getD 0 .skip
theorem ls_laws_toIntS : loopsIn body_laws_toIntS = [c_laws_toIntS_0] := by kernel_rfl
theorem rd_laws_toIntS_3 (N n : Nat) (x : Vals ks_laws_toIntS_l3) (K : Ks) : L_laws_toIntS N (n + 1) 3 (shape ks_laws_toIntS_l3 x) (h_laws_toIntS.onOut 3 K) = peRound h_laws_toIntS (Orc.of (es_laws_toIntS N)) (mixL (L_laws_toIntS N) N n 3) c_laws_toIntS_0 (shape ks_laws_toIntS_l3 x) (h_laws_toIntS.onOut 3 K) := by kernel_rfl
theorem fn_laws_toIntS (N : Nat) (x : AVals sg_laws_toIntS) (kf : Ret → Option Ret) : F_laws_toIntS N x kf = peFunc h_laws_toIntS (Orc.of (es_laws_toIntS N)) (L_laws_toIntS N N) Try.f25 (ashape sg_laws_toIntS x) kf := by kernel_rfl
theorem sd_laws_toIntS (N : Nat) : Sound Try.prog 25 (run_laws_toIntS N) := fun_ok2 (hh := h_laws_toIntS) mixed tab_ok (es := es_laws_toIntS N) trivial (fn := Try.f25) (body := body_laws_toIntS) (by kernel_rfl) (by kernel_rfl) (by kernel_rfl) (by kernel_rfl) (by kernel_rfl) (Lf := L_laws_toIntS N) (L0_laws_toIntS N) ls_laws_toIntS (round_cons (key := 3) (ks := ks_laws_toIntS_l3) (by kernel_rfl) (by kernel_rfl) (rd_laws_toIntS_3 N) trivial) (N := N) (by kernel_rfl) (fn_laws_toIntS N)
/-! laws_toTeam -/
noncomputable def h_laws_toTeam : Hint := { tab, hn := [], loops := [], outs := [], ords := [] }
noncomputable def sg_laws_toTeam : List AK := [.v tQIIIIILIE .k]
noncomputable def F_laws_toTeam (N : Nat) (x : AVals sg_laws_toTeam) (kf : Ret → Option Ret) : Option Ret := laws_toTeam N x.1 (fun r0 => kf ⟨[⟨tQIIIIILIE, (.p .k (.p .k (.p .k (.p .k (.p .k (.o 3 none .k)))))), r0⟩], []⟩)
noncomputable def run_laws_toTeam (N : Nat) := runOf sg_laws_toTeam (F_laws_toTeam N)
noncomputable def es_laws_toTeam (N : Nat) : List Entry := [⟨25, [.val], (run_laws_toIntS N)⟩]
noncomputable def body_laws_toTeam : Code := match Try.f130.body with | some c => c | none => .skip
noncomputable def L_laws_toTeam (N n : Nat) (key : Nat) (S : St) (K : Ks) : Option Ret := none
theorem L0_laws_toTeam (N key : Nat) (S : St) (K : Ks) : L_laws_toTeam N 0 key S K = none := rfl
theorem ls_laws_toTeam : loopsIn body_laws_toTeam = [] := by kernel_rfl
theorem fn_laws_toTeam (N : Nat) (x : AVals sg_laws_toTeam) (kf : Ret → Option Ret) : F_laws_toTeam N x kf = peFunc h_laws_toTeam (Orc.of (es_laws_toTeam N)) (L_laws_toTeam N N) Try.f130 (ashape sg_laws_toTeam x) kf := by kernel_rfl
theorem sd_laws_toTeam (N : Nat) : Sound Try.prog 130 (run_laws_toTeam N) := fun_ok2 (hh := h_laws_toTeam) mixed tab_ok (es := es_laws_toTeam N) ⟨sd_laws_toIntS N, trivial⟩ (fn := Try.f130) (body := body_laws_toTeam) (by kernel_rfl) (by kernel_rfl) (by kernel_rfl) (by kernel_rfl) (by kernel_rfl) (Lf := L_laws_toTeam N) (L0_laws_toTeam N) ls_laws_toTeam trivial (N := N) (by kernel_rfl) (fn_laws_toTeam N)
/-! laws_toTeamS -/
noncomputable def ks_laws_toTeamS_l3 : List Kd := [.v (.sl tQIIIIILIE) .k, dK, dK, .v (.sl tQIIIIILIE) (.o 119 none (.p .k (.p .k (.p .k (.p .k (.p .k (.o 3 none .k))))))), .v (.int .i64) .k, dK, dK, dK, dK, dK, dK, dK, dK, dK, dK, dK, dK, dK, dK, dK, dK, dK, dK]
noncomputable def ko_laws_toTeamS_l3_0 : List Kd := [dK, dK, dK, .v (.sl tQIIIIILIE) (.o 119 none (.p .k (.p .k (.p .k (.p .k (.p .k (.o 3 none .k))))))), dK, dK, dK, dK, dK, dK, dK, dK, dK, dK, dK, dK, dK, dK, dK, dK, dK, dK, dK]
noncomputable def h_laws_toTeamS : Hint := { tab, hn := [], loops := [(3, ks_laws_toTeamS_l3)], outs := [(3, 2, ko_laws_toTeamS_l3_0)], ords := [] }
noncomputable def sg_laws_toTeamS : List AK := [.v (.sl tQIIIIILIE) .k]
noncomputable def F_laws_toTeamS (N : Nat) (x : AVals sg_laws_toTeamS) (kf : Ret → Option Ret) : Option Ret := laws_toTeamS N x.1 (fun r0 => kf ⟨[⟨(.sl tQIIIIILIE), (.o 119 none (.p .k (.p .k (.p .k (.p .k (.p .k (.o 3 none .k))))))), r0⟩], []⟩)
noncomputable def run_laws_toTeamS (N : Nat) := runOf sg_laws_toTeamS (F_laws_toTeamS N)
noncomputable def es_laws_toTeamS (N : Nat) : List Entry := [⟨130, [.val], (run_laws_toTeam N)⟩]
noncomputable def body_laws_toTeamS : Code := match Try.f65.body with | some c => c | none => .skip
noncomputable def L_laws_toTeamS (N n : Nat) (key : Nat) (S : St) (K : Ks) : Option Ret := bif Nat.beq key 3 then withVals ks_laws_toTeamS_l3 S (fun x => laws_toTeamS_l3 N x.1 n (fun z0 => K (.x 0) (shape ko_laws_toTeamS_l3_0 (z0, ()))) x.2.1 x.2.2.1) else none
theorem L0_laws_toTeamS (N key : Nat) (S : St) (K : Ks) : L_laws_toTeamS N 0 key S K = none := (bif0 (withVals0 fun _ => rfl) rfl)
noncomputable def c_laws_toTeamS_0 : Code := (loopsIn body_laws_toTeamS).getD 0 .skip
theorem ls_laws_toTeamS : loopsIn body_laws_toTeamS = [c_laws_toTeamS_0] := by kernel_rfl
theorem rd_laws_toTeamS_3 (N n : Nat) (x : Vals ks_laws_toTeamS_l3) (K : Ks) : L_laws_toTeamS N (n + 1) 3 (shape ks_laws_toTeamS_l3 x) (h_laws_toTeamS.onOut 3 K) = peRound h_laws_toTeamS (Orc.of (es_laws_toTeamS N)) (mixL (L_laws_toTeamS N) N n 3) c_laws_toTeamS_0 (shape ks_laws_toTeamS_l3 x) (h_laws_toTeamS.onOut 3 K) := by kernel_rfl
theorem fn_laws_toTeamS (N : Nat) (x : AVals sg_laws_toTeamS) (kf : Ret → Option Ret) : F_laws_toTeamS N x kf = peFunc h_laws_toTeamS (Orc.of (es_laws_toTeamS N)) (L_laws_toTeamS N N) Try.f65 (ashape sg_laws_toTeamS x) kf := by kernel_rfl
theorem sd_laws_toTeamS (N : Nat) : Sound Try.prog 65 (run_laws_toTeamS N) := fun_ok2 (hh := h_laws_toTeamS) mixed tab_ok (es := es_laws_toTeamS N) ⟨sd_laws_toTeam N, trivial⟩ (fn := Try.f65) (body := body_laws_toTeamS) (by kernel_rfl) (by kernel_rfl) (by kernel_rfl) (by kernel_rfl) (by kernel_rfl) (Lf := L_laws_toTeamS N) (L0_laws_toTeamS N) ls_laws_toTeamS (round_cons (key := 3) (ks := ks_laws_toTeamS_l3) (by kernel_rfl) (by kernel_rfl) (rd_laws_toTeamS_3 N) trivial) (N := N) (by kernel_rfl) (fn_laws_toTeamS N)
/-! laws_toJudge -/
noncomputable def h_laws_toJudge : Hint := { tab, hn := [], loops := [], outs := [], ords := [] }
noncomputable def sg_laws_toJudge : List AK := [.v tQIILIE .k]
noncomputable def F_laws_toJudge (N : Nat) (x : AVals sg_laws_toJudge) (kf : Ret → Option Ret) : Option Ret := laws_toJudge N x.1 (fun r0 => kf ⟨[⟨tQIILIE, (.p .k (.p .k (.o 3 none .k))), r0⟩], []⟩)
noncomputable def run_laws_toJudge (N : Nat) := runOf sg_laws_toJudge (F_laws_toJudge N)
noncomputable def es_laws_toJudge (N : Nat) : List Entry := [⟨25, [.val], (run_laws_toIntS N)⟩]
noncomputable def body_laws_toJudge : Code := match Try.f131.body with | some c => c | none => .skip
noncomputable def L_laws_toJudge (N n : Nat) (key : Nat) (S : St) (K : Ks) : Option Ret := none
theorem L0_laws_toJudge (N key : Nat) (S : St) (K : Ks) : L_laws_toJudge N 0 key S K = none := rfl
theorem ls_laws_toJudge : loopsIn body_laws_toJudge = [] := by kernel_rfl
theorem fn_laws_toJudge (N : Nat) (x : AVals sg_laws_toJudge) (kf : Ret → Option Ret) : F_laws_toJudge N x kf = peFunc h_laws_toJudge (Orc.of (es_laws_toJudge N)) (L_laws_toJudge N N) Try.f131 (ashape sg_laws_toJudge x) kf := by kernel_rfl
theorem sd_laws_toJudge (N : Nat) : Sound Try.prog 131 (run_laws_toJudge N) := fun_ok2 (hh := h_laws_toJudge) mixed tab_ok (es := es_laws_toJudge N) ⟨sd_laws_toIntS N, trivial⟩ (fn := Try.f131) (body := body_laws_toJudge) (by kernel_rfl) (by kernel_rfl) (by kernel_rfl) (by kernel_rfl) (by kernel_rfl) (Lf := L_laws_toJudge N) (L0_laws_toJudge N) ls_laws_toJudge trivial (N := N) (by kernel_rfl) (fn_laws_toJudge N)
/-! laws_toJudgeS -/
noncomputable def ks_laws_toJudgeS_l3 : List Kd := [.v (.sl tQIILIE) .k, dK, dK, .v (.sl tQIILIE) (.o 123 none (.p .k (.p .k (.o 3 none .k)))), .v (.int .i64) .k, dK, dK, dK, dK, dK, dK, dK, dK, dK, dK, dK, dK, dK, dK, dK, dK, dK, dK]
noncomputable def ko_laws_toJudgeS_l3_0 : List Kd := [dK, dK, dK, .v (.sl tQIILIE) (.o 123 none (.p .k (.p .k (.o 3 none .k)))), dK, dK, dK, dK, dK, dK, dK, dK, dK, dK, dK, dK, dK, dK, dK, dK, dK, dK, dK]
noncomputable def h_laws_toJudgeS : Hint := { tab, hn := [], loops := [(3, ks_laws_toJudgeS_l3)], outs := [(3, 2, ko_laws_toJudgeS_l3_0)], ords := [] }
noncomputable def sg_laws_toJudgeS : List AK := [.v (.sl tQIILIE) .k]
noncomputable def F_laws_toJudgeS (N : Nat) (x : AVals sg_laws_toJudgeS) (kf : Ret → Option Ret) : Option Ret := laws_toJudgeS N x.1 (fun r0 => kf ⟨[⟨(.sl tQIILIE), (.o 123 none (.p .k (.p .k (.o 3 none .k)))), r0⟩], []⟩)
noncomputable def run_laws_toJudgeS (N : Nat) := runOf sg_laws_toJudgeS (F_laws_toJudgeS N)
noncomputable def es_laws_toJudgeS (N : Nat) : List Entry := [⟨131, [.val], (run_laws_toJudge N)⟩]
noncomputable def body_laws_toJudgeS : Code := match Try.f66.body with | some c => c | none => .skip
noncomputable def L_laws_toJudgeS (N n : Nat) (key : Nat) (S : St) (K : Ks) : Option Ret := bif Nat.beq key 3 then withVals ks_laws_toJudgeS_l3 S (fun x => laws_toJudgeS_l3 N x.1 n (fun z0 => K (.x 0) (shape ko_laws_toJudgeS_l3_0 (z0, ()))) x.2.1 x.2.2.1) else none
theorem L0_laws_toJudgeS (N key : Nat) (S : St) (K : Ks) : L_laws_toJudgeS N 0 key S K = none := (bif0 (withVals0 fun _ => rfl) rfl)
noncomputable def c_laws_toJudgeS_0 : Code := (loopsIn body_laws_toJudgeS).getD 0 .skip
theorem ls_laws_toJudgeS : loopsIn body_laws_toJudgeS = [c_laws_toJudgeS_0] := by kernel_rfl
theorem rd_laws_toJudgeS_3 (N n : Nat) (x : Vals ks_laws_toJudgeS_l3) (K : Ks) : L_laws_toJudgeS N (n + 1) 3 (shape ks_laws_toJudgeS_l3 x) (h_laws_toJudgeS.onOut 3 K) = peRound h_laws_toJudgeS (Orc.of (es_laws_toJudgeS N)) (mixL (L_laws_toJudgeS N) N n 3) c_laws_toJudgeS_0 (shape ks_laws_toJudgeS_l3 x) (h_laws_toJudgeS.onOut 3 K) := by kernel_rfl
theorem fn_laws_toJudgeS (N : Nat) (x : AVals sg_laws_toJudgeS) (kf : Ret → Option Ret) : F_laws_toJudgeS N x kf = peFunc h_laws_toJudgeS (Orc.of (es_laws_toJudgeS N)) (L_laws_toJudgeS N N) Try.f66 (ashape sg_laws_toJudgeS x) kf := by kernel_rfl
theorem sd_laws_toJudgeS (N : Nat) : Sound Try.prog 66 (run_laws_toJudgeS N) := fun_ok2 (hh := h_laws_toJudgeS) mixed tab_ok (es := es_laws_toJudgeS N) ⟨sd_laws_toJudge N, trivial⟩ (fn := Try.f66) (body := body_laws_toJudgeS) (by kernel_rfl) (by kernel_rfl) (by kernel_rfl) (by kernel_rfl) (by kernel_rfl) (Lf := L_laws_toJudgeS N) (L0_laws_toJudgeS N) ls_laws_toJudgeS (round_cons (key := 3) (ks := ks_laws_toJudgeS_l3) (by kernel_rfl) (by kernel_rfl) (rd_laws_toJudgeS_3 N) trivial) (N := N) (by kernel_rfl) (fn_laws_toJudgeS N)
/-! laws_toPair -/
noncomputable def h_laws_toPair : Hint := { tab, hn := [], loops := [], outs := [], ords := [] }
noncomputable def sg_laws_toPair : List AK := [.v tQIIE .k]
noncomputable def F_laws_toPair (N : Nat) (x : AVals sg_laws_toPair) (kf : Ret → Option Ret) : Option Ret := laws_toPair N x.1 (fun r0 => kf ⟨[⟨tQIIE, .k, r0⟩], []⟩)
noncomputable def run_laws_toPair (N : Nat) := runOf sg_laws_toPair (F_laws_toPair N)
noncomputable def es_laws_toPair (N : Nat) : List Entry := []
noncomputable def body_laws_toPair : Code := match Try.f132.body with | some c => c | none => .skip
noncomputable def L_laws_toPair (N n : Nat) (key : Nat) (S : St) (K : Ks) : Option Ret := none
theorem L0_laws_toPair (N key : Nat) (S : St) (K : Ks) : L_laws_toPair N 0 key S K = none := rfl
theorem ls_laws_toPair : loopsIn body_laws_toPair = [] := by kernel_rfl
theorem fn_laws_toPair (N : Nat) (x : AVals sg_laws_toPair) (kf : Ret → Option Ret) : F_laws_toPair N x kf = peFunc h_laws_toPair (Orc.of (es_laws_toPair N)) (L_laws_toPair N N) Try.f132 (ashape sg_laws_toPair x) kf := by kernel_rfl
theorem sd_laws_toPair (N : Nat) : Sound Try.prog 132 (run_laws_toPair N) := fun_ok2 (hh := h_laws_toPair) mixed tab_ok (es := es_laws_toPair N) trivial (fn := Try.f132) (body := body_laws_toPair) (by kernel_rfl) (by kernel_rfl) (by kernel_rfl) (by kernel_rfl) (by kernel_rfl) (Lf := L_laws_toPair N) (L0_laws_toPair N) ls_laws_toPair trivial (N := N) (by kernel_rfl) (fn_laws_toPair N)
/-! laws_toPairS -/
noncomputable def ks_laws_toPairS_l3 : List Kd := [.v (.sl tQIIE) .k, dK, dK, .v (.sl tQIIE) (.o 126 none .k), .v (.int .i64) .k, dK, dK, dK, dK, dK, dK, dK, dK, dK, dK, dK, dK, dK, dK, dK, dK, dK, dK]
noncomputable def ko_laws_toPairS_l3_0 : List Kd := [dK, dK, dK, .v (.sl tQIIE) (.o 126 none .k), dK, dK, dK, dK, dK, dK, dK, dK, dK, dK, dK, dK, dK, dK, dK, dK, dK, dK, dK]
noncomputable def h_laws_toPairS : Hint := { tab, hn := [], loops := [(3, ks_laws_toPairS_l3)], outs := [(3, 2, ko_laws_toPairS_l3_0)], ords := [] }
noncomputable def sg_laws_toPairS : List AK := [.v (.sl tQIIE) .k]
noncomputable def F_laws_toPairS (N : Nat) (x : AVals sg_laws_toPairS) (kf : Ret → Option Ret) : Option Ret := laws_toPairS N x.1 (fun r0 => kf ⟨[⟨(.sl tQIIE), (.o 126 none .k), r0⟩], []⟩)
noncomputable def run_laws_toPairS (N : Nat) := runOf sg_laws_toPairS (F_laws_toPairS N)
noncomputable def es_laws_toPairS (N : Nat) : List Entry := [⟨132, [.val], (run_laws_toPair N)⟩]
noncomputable def body_laws_toPairS : Code := match Try.f67.body with | some c => c | none => .skip
noncomputable def L_laws_toPairS (N n : Nat) (key : Nat) (S : St) (K : Ks) : Option Ret := bif Nat.beq key 3 then withVals ks_laws_toPairS_l3 S (fun x => laws_toPairS_l3 N x.1 n (fun z0 => K (.x 0) (shape ko_laws_toPairS_l3_0 (z0, ()))) x.2.1 x.2.2.1) else none
theorem L0_laws_toPairS (N key : Nat) (S : St) (K : Ks) : L_laws_toPairS N 0 key S K = none := (bif0 (withVals0 fun _ => rfl) rfl)
noncomputable def c_laws_toPairS_0 : Code := (loopsIn body_laws_toPairS).getD 0 .skip
theorem ls_laws_toPairS : loopsIn body_laws_toPairS = [c_laws_toPairS_0] := by kernel_rfl
theorem rd_laws_toPairS_3 (N n : Nat) (x : Vals ks_laws_toPairS_l3) (K : Ks) : L_laws_toPairS N (n + 1) 3 (shape ks_laws_toPairS_l3 x) (h_laws_toPairS.onOut 3 K) = peRound h_laws_toPairS (Orc.of (es_laws_toPairS N)) (mixL (L_laws_toPairS N) N n 3) c_laws_toPairS_0 (shape ks_laws_toPairS_l3 x) (h_laws_toPairS.onOut 3 K) := by kernel_rfl
theorem fn_laws_toPairS (N : Nat) (x : AVals sg_laws_toPairS) (kf : Ret → Option Ret) : F_laws_toPairS N x kf = peFunc h_laws_toPairS (Orc.of (es_laws_toPairS N)) (L_laws_toPairS N N) Try.f67 (ashape sg_laws_toPairS x) kf := by kernel_rfl
theorem sd_laws_toPairS (N : Nat) : Sound Try.prog 67 (run_laws_toPairS N) := fun_ok2 (hh := h_laws_toPairS) mixed tab_ok (es := es_laws_toPairS N) ⟨sd_laws_toPair N, trivial⟩ (fn := Try.f67) (body := body_laws_toPairS) (by kernel_rfl) (by kernel_rfl) (by kernel_rfl) (by kernel_rfl) (by kernel_rfl) (Lf := L_laws_toPairS N) (L0_laws_toPairS N) ls_laws_toPairS (round_cons (key := 3) (ks := ks_laws_toPairS_l3) (by kernel_rfl) (by kernel_rfl) (rd_laws_toPairS_3 N) trivial) (N := N) (by kernel_rfl) (fn_laws_toPairS N)
/-! laws_toBallot -/
noncomputable def h_laws_toBallot : Hint := { tab, hn := [], loops := [], outs := [], ords := [] }
noncomputable def sg_laws_toBallot : List AK := [.v tQIIIE .k]
noncomputable def F_laws_toBallot (N : Nat) (x : AVals sg_laws_toBallot) (kf : Ret → Option Ret) : Option Ret := laws_toBallot N x.1 (fun r0 => kf ⟨[⟨tQIIIE, .k, r0⟩], []⟩)
noncomputable def run_laws_toBallot (N : Nat) := runOf sg_laws_toBallot (F_laws_toBallot N)
noncomputable def es_laws_toBallot (N : Nat) : List Entry := []
noncomputable def body_laws_toBallot : Code := match Try.f133.body with | some c => c | none => .skip
noncomputable def L_laws_toBallot (N n : Nat) (key : Nat) (S : St) (K : Ks) : Option Ret := none
theorem L0_laws_toBallot (N key : Nat) (S : St) (K : Ks) : L_laws_toBallot N 0 key S K = none := rfl
theorem ls_laws_toBallot : loopsIn body_laws_toBallot = [] := by kernel_rfl
theorem fn_laws_toBallot (N : Nat) (x : AVals sg_laws_toBallot) (kf : Ret → Option Ret) : F_laws_toBallot N x kf = peFunc h_laws_toBallot (Orc.of (es_laws_toBallot N)) (L_laws_toBallot N N) Try.f133 (ashape sg_laws_toBallot x) kf := by kernel_rfl
theorem sd_laws_toBallot (N : Nat) : Sound Try.prog 133 (run_laws_toBallot N) := fun_ok2 (hh := h_laws_toBallot) mixed tab_ok (es := es_laws_toBallot N) trivial (fn := Try.f133) (body := body_laws_toBallot) (by kernel_rfl) (by kernel_rfl) (by kernel_rfl) (by kernel_rfl) (by kernel_rfl) (Lf := L_laws_toBallot N) (L0_laws_toBallot N) ls_laws_toBallot trivial (N := N) (by kernel_rfl) (fn_laws_toBallot N)
/-! laws_toBallotS -/
noncomputable def ks_laws_toBallotS_l3 : List Kd := [.v (.sl tQIIIE) .k, dK, dK, .v (.sl tQIIIE) (.o 92 none .k), .v (.int .i64) .k, dK, dK, dK, dK, dK, dK, dK, dK, dK, dK, dK, dK, dK, dK, dK, dK, dK, dK]
noncomputable def ko_laws_toBallotS_l3_0 : List Kd := [dK, dK, dK, .v (.sl tQIIIE) (.o 92 none .k), dK, dK, dK, dK, dK, dK, dK, dK, dK, dK, dK, dK, dK, dK, dK, dK, dK, dK, dK]
noncomputable def h_laws_toBallotS : Hint := { tab, hn := [], loops := [(3, ks_laws_toBallotS_l3)], outs := [(3, 2, ko_laws_toBallotS_l3_0)], ords := [] }
noncomputable def sg_laws_toBallotS : List AK := [.v (.sl tQIIIE) .k]
noncomputable def F_laws_toBallotS (N : Nat) (x : AVals sg_laws_toBallotS) (kf : Ret → Option Ret) : Option Ret := laws_toBallotS N x.1 (fun r0 => kf ⟨[⟨(.sl tQIIIE), (.o 92 none .k), r0⟩], []⟩)
noncomputable def run_laws_toBallotS (N : Nat) := runOf sg_laws_toBallotS (F_laws_toBallotS N)
noncomputable def es_laws_toBallotS (N : Nat) : List Entry := [⟨133, [.val], (run_laws_toBallot N)⟩]
noncomputable def body_laws_toBallotS : Code := match Try.f68.body with | some c => c | none => .skip
noncomputable def L_laws_toBallotS (N n : Nat) (key : Nat) (S : St) (K : Ks) : Option Ret := bif Nat.beq key 3 then withVals ks_laws_toBallotS_l3 S (fun x => laws_toBallotS_l3 N x.1 n (fun z0 => K (.x 0) (shape ko_laws_toBallotS_l3_0 (z0, ()))) x.2.1 x.2.2.1) else none
theorem L0_laws_toBallotS (N key : Nat) (S : St) (K : Ks) : L_laws_toBallotS N 0 key S K = none := (bif0 (withVals0 fun _ => rfl) rfl)
noncomputable def c_laws_toBallotS_0 : Code := (loopsIn body_laws_toBallotS).getD 0 .skip
theorem ls_laws_toBallotS : loopsIn body_laws_toBallotS = [c_laws_toBallotS_0] := by kernel_rfl
theorem rd_laws_toBallotS_3 (N n : Nat) (x : Vals ks_laws_toBallotS_l3) (K : Ks) : L_laws_toBallotS N (n + 1) 3 (shape ks_laws_toBallotS_l3 x) (h_laws_toBallotS.onOut 3 K) = peRound h_laws_toBallotS (Orc.of (es_laws_toBallotS N)) (mixL (L_laws_toBallotS N) N n 3) c_laws_toBallotS_0 (shape ks_laws_toBallotS_l3 x) (h_laws_toBallotS.onOut 3 K) := by kernel_rfl
theorem fn_laws_toBallotS (N : Nat) (x : AVals sg_laws_toBallotS) (kf : Ret → Option Ret) : F_laws_toBallotS N x kf = peFunc h_laws_toBallotS (Orc.of (es_laws_toBallotS N)) (L_laws_toBallotS N N) Try.f68 (ashape sg_laws_toBallotS x) kf := by kernel_rfl
theorem sd_laws_toBallotS (N : Nat) : Sound Try.prog 68 (run_laws_toBallotS N) := fun_ok2 (hh := h_laws_toBallotS) mixed tab_ok (es := es_laws_toBallotS N) ⟨sd_laws_toBallot N, trivial⟩ (fn := Try.f68) (body := body_laws_toBallotS) (by kernel_rfl) (by kernel_rfl) (by kernel_rfl) (by kernel_rfl) (by kernel_rfl) (Lf := L_laws_toBallotS N) (L0_laws_toBallotS N) ls_laws_toBallotS (round_cons (key := 3) (ks := ks_laws_toBallotS_l3) (by kernel_rfl) (by kernel_rfl) (rd_laws_toBallotS_3 N) trivial) (N := N) (by kernel_rfl) (fn_laws_toBallotS N)
/-! laws_toLine -/
noncomputable def h_laws_toLine : Hint := { tab, hn := [], loops := [], outs := [], ords := [] }
noncomputable def sg_laws_toLine : List AK := [.v tQIIIIE .k]
noncomputable def F_laws_toLine (N : Nat) (x : AVals sg_laws_toLine) (kf : Ret → Option Ret) : Option Ret := laws_toLine N x.1 (fun r0 => kf ⟨[⟨tQIIIIE, .k, r0⟩], []⟩)
noncomputable def run_laws_toLine (N : Nat) := runOf sg_laws_toLine (F_laws_toLine N)
noncomputable def es_laws_toLine (N : Nat) : List Entry := []
noncomputable def body_laws_toLine : Code := match Try.f81.body with | some c => c | none => .skip
noncomputable def L_laws_toLine (N n : Nat) (key : Nat) (S : St) (K : Ks) : Option Ret := none
theorem L0_laws_toLine (N key : Nat) (S : St) (K : Ks) : L_laws_toLine N 0 key S K = none := rfl
theorem ls_laws_toLine : loopsIn body_laws_toLine = [] := by kernel_rfl
theorem fn_laws_toLine (N : Nat) (x : AVals sg_laws_toLine) (kf : Ret → Option Ret) : F_laws_toLine N x kf = peFunc h_laws_toLine (Orc.of (es_laws_toLine N)) (L_laws_toLine N N) Try.f81 (ashape sg_laws_toLine x) kf := by kernel_rfl
theorem sd_laws_toLine (N : Nat) : Sound Try.prog 81 (run_laws_toLine N) := fun_ok2 (hh := h_laws_toLine) mixed tab_ok (es := es_laws_toLine N) trivial (fn := Try.f81) (body := body_laws_toLine) (by kernel_rfl) (by kernel_rfl) (by kernel_rfl) (by kernel_rfl) (by kernel_rfl) (Lf := L_laws_toLine N) (L0_laws_toLine N) ls_laws_toLine trivial (N := N) (by kernel_rfl) (fn_laws_toLine N)
/-! laws_toLineS -/
noncomputable def ks_laws_toLineS_l3 : List Kd := [.v (.sl tQIIIIE) .k, dK, dK, .v (.sl tQIIIIE) (.o 80 none .k), .v (.int .i64) .k, dK, dK, dK, dK, dK, dK, dK, dK, dK, dK, dK, dK, dK, dK, dK, dK, dK, dK]
noncomputable def ko_laws_toLineS_l3_0 : List Kd := [dK, dK, dK, .v (.sl tQIIIIE) (.o 80 none .k), dK, dK, dK, dK, dK, dK, dK, dK, dK, dK, dK, dK, dK, dK, dK, dK, dK, dK, dK]
noncomputable def h_laws_toLineS : Hint := { tab, hn := [], loops := [(3, ks_laws_toLineS_l3)], outs := [(3, 2, ko_laws_toLineS_l3_0)], ords := [] }
noncomputable def sg_laws_toLineS : List AK := [.v (.sl tQIIIIE) .k]
noncomputable def F_laws_toLineS (N : Nat) (x : AVals sg_laws_toLineS) (kf : Ret → Option Ret) : Option Ret := laws_toLineS N x.1 (fun r0 => kf ⟨[⟨(.sl tQIIIIE), (.o 80 none .k), r0⟩], []⟩)
noncomputable def run_laws_toLineS (N : Nat) := runOf sg_laws_toLineS (F_laws_toLineS N)
noncomputable def es_laws_toLineS (N : Nat) : List Entry := [⟨81, [.val], (run_laws_toLine N)⟩]
noncomputable def body_laws_toLineS : Code := match Try.f32.body with | some c => c | none => .skip
noncomputable def L_laws_toLineS (N n : Nat) (key : Nat) (S : St) (K : Ks) : Option Ret := bif Nat.beq key 3 then withVals ks_laws_toLineS_l3 S (fun x => laws_toLineS_l3 N x.1 n (fun z0 => K (.x 0) (shape ko_laws_toLineS_l3_0 (z0, ()))) x.2.1 x.2.2.1) else none
theorem L0_laws_toLineS (N key : Nat) (S : St) (K : Ks) : L_laws_toLineS N 0 key S K = none := (bif0 (withVals0 fun _ => rfl) rfl)
noncomputable def c_laws_toLineS_0 : Code := (loopsIn body_laws_toLineS).getD 0 .skip
theorem ls_laws_toLineS : loopsIn body_laws_toLineS = [c_laws_toLineS_0] := by kernel_rfl
theorem rd_laws_toLineS_3 (N n : Nat) (x : Vals ks_laws_toLineS_l3) (K : Ks) : L_laws_toLineS N (n + 1) 3 (shape ks_laws_toLineS_l3 x) (h_laws_toLineS.onOut 3 K) = peRound h_laws_toLineS (Orc.of (es_laws_toLineS N)) (mixL (L_laws_toLineS N) N n 3) c_laws_toLineS_0 (shape ks_laws_toLineS_l3 x) (h_laws_toLineS.onOut 3 K) := by kernel_rfl
theorem fn_laws_toLineS (N : Nat) (x : AVals sg_laws_toLineS) (kf : Ret → Option Ret) : F_laws_toLineS N x kf = peFunc h_laws_toLineS (Orc.of (es_laws_toLineS N)) (L_laws_toLineS N N) Try.f32 (ashape sg_laws_toLineS x) kf := by kernel_rfl
theorem sd_laws_toLineS (N : Nat) : Sound Try.prog 32 (run_laws_toLineS N) := fun_ok2 (hh := h_laws_toLineS) mixed tab_ok (es := es_laws_toLineS N) ⟨sd_laws_toLine N, trivial⟩ (fn := Try.f32) (body := body_laws_toLineS) (by kernel_rfl) (by kernel_rfl) (by kernel_rfl) (by kernel_rfl) (by kernel_rfl) (Lf := L_laws_toLineS N) (L0_laws_toLineS N) ls_laws_toLineS (round_cons (key := 3) (ks := ks_laws_toLineS_l3) (by kernel_rfl) (by kernel_rfl) (rd_laws_toLineS_3 N) trivial) (N := N) (by kernel_rfl) (fn_laws_toLineS N)
/-! laws_toClub -/
noncomputable def h_laws_toClub : Hint := { tab, hn := [], loops := [], outs := [], ords := [] }
noncomputable def sg_laws_toClub : List AK := [.v tQLQIIIIILIELQIILIELQIIELILQIIIELQIIIIEIE .k]
noncomputable def F_laws_toClub (N : Nat) (x : AVals sg_laws_toClub) (kf : Ret → Option Ret) : Option Ret := laws_toClub N x.1 (fun r0 => kf ⟨[⟨tQLQIIIIILIELQIILIELQIIELILQIIIELQIIIIEIE, (.p (.o 119 none (.p .k (.p .k (.p .k (.p .k (.p .k (.o 3 none .k))))))) (.p (.o 123 none (.p .k (.p .k (.o 3 none .k)))) (.p (.o 126 none .k) (.p (.o 3 none .k) (.p (.o 92 none .k) (.p (.o 80 none .k) .k)))))), r0⟩], []⟩)
noncomputable def run_laws_toClub (N : Nat) := runOf sg_laws_toClub (F_laws_toClub N)
noncomputable def es_laws_toClub (N : Nat) : List Entry := [⟨65, [.val], (run_laws_toTeamS N)⟩, ⟨66, [.val], (run_laws_toJudgeS N)⟩, ⟨67, [.val], (run_laws_toPairS N)⟩, ⟨25, [.val], (run_laws_toIntS N)⟩, ⟨68, [.val], (run_laws_toBallotS N)⟩, ⟨32, [.val], (run_laws_toLineS N)⟩]
noncomputable def body_laws_toClub : Code := match Try.f15.body with | some c => c | none => .skip
noncomputable def L_laws_toClub (N n : Nat) (key : Nat) (S : St) (K : Ks) : Option Ret := none
theorem L0_laws_toClub (N key : Nat) (S : St) (K : Ks) : L_laws_toClub N 0 key S K = none := rfl
theorem ls_laws_toClub : loopsIn body_laws_toClub = [] := by kernel_rfl
theorem fn_laws_toClub (N : Nat) (x : AVals sg_laws_toClub) (kf : Ret → Option Ret) : F_laws_toClub N x kf = peFunc h_laws_toClub (Orc.of (es_laws_toClub N)) (L_laws_toClub N N) Try.f15 (ashape sg_laws_toClub x) kf := by kernel_rfl
theorem sd_laws_toClub (N : Nat) : Sound Try.prog 15 (run_laws_toClub N) := fun_ok2 (hh := h_laws_toClub) mixed tab_ok (es := es_laws_toClub N) ⟨sd_laws_toTeamS N, ⟨sd_laws_toJudgeS N, ⟨sd_laws_toPairS N, ⟨sd_laws_toIntS N, ⟨sd_laws_toBallotS N, ⟨sd_laws_toLineS N, trivial⟩⟩⟩⟩⟩⟩ (fn := Try.f15) (body := body_laws_toClub) (by kernel_rfl) (by kernel_rfl) (by kernel_rfl) (by kernel_rfl) (by kernel_rfl) (Lf := L_laws_toClub N) (L0_laws_toClub N) ls_laws_toClub trivial (N := N) (by kernel_rfl) (fn_laws_toClub N)
/-! spec_Waiting -/
noncomputable def ks_spec_Waiting_l4 : List Kd := [dK, .v (.ptr tQLQIIIIILIELQIILIELQIIELILQIIIELQIIIIEIE) (.o 38 none .k), dK, .v (.sl (.int .i64)) (.o 3 none .k), .v (.ptr tQIIIE) (.o 92 none .k), .v (.int .i64) .k, dK, dK, dK, dK, dK, dK, dK, dK, dK, dK, dK, dK, dK, dK, dK, dK, dK, dK, dK, dK, dK]
noncomputable def ko_spec_Waiting_l4_0 : List Kd := [dK, dK, dK, .v (.sl (.int .i64)) (.o 3 none .k), dK, dK, dK, dK, dK, dK, dK, dK, dK, dK, dK, dK, dK, dK, dK, dK, dK, dK, dK, dK, dK, dK, dK]
noncomputable def h_spec_Waiting : Hint := { tab, hn := [], loops := [(4, ks_spec_Waiting_l4)], outs := [(4, 2, ko_spec_Waiting_l4_0)], ords := [(6, (OT.seq [0, 1, 2, 3, 4, 5, 6] .done))] }
noncomputable def sg_spec_Waiting : List AK := [.v tQLQIIIIILIELQIILIELQIIELILQIIIELQIIIIEIE .k]
noncomputable def F_spec_Waiting (N : Nat) (x : AVals sg_spec_Waiting) (kf : Ret → Option Ret) : Option Ret := spec_Waiting N x.1 (fun r0 => kf ⟨[⟨(.sl (.int .i64)), (.o 3 none .k), r0⟩], []⟩)
noncomputable def run_spec_Waiting (N : Nat) := runOf sg_spec_Waiting (F_spec_Waiting N)
noncomputable def es_spec_Waiting (N : Nat) : List Entry := []
noncomputable def body_spec_Waiting : Code := match Try.f18.body with | some c => c | none => .skip
noncomputable def L_spec_Waiting (N n : Nat) (key : Nat) (S : St) (K : Ks) : Option Ret := bif Nat.beq key 4 then withVals ks_spec_Waiting_l4 S (fun x => spec_Waiting_l4 x.1 x.2.2.1 n (fun z0 => K (.x 0) (shape ko_spec_Waiting_l4_0 (z0, ()))) x.2.1 x.2.2.2.1) else none
theorem L0_spec_Waiting (N key : Nat) (S : St) (K : Ks) : L_spec_Waiting N 0 key S K = none := (bif0 (withVals0 fun _ => rfl) rfl)
noncomputable def c_spec_Waiting_0 : Code := (loopsIn body_spec_Waiting).getD 0 .skip
theorem ls_spec_Waiting : loopsIn body_spec_Waiting = [c_spec_Waiting_0] := by kernel_rfl
theorem rd_spec_Waiting_4 (N n : Nat) (x : Vals ks_spec_Waiting_l4) (K : Ks) : L_spec_Waiting N (n + 1) 4 (shape ks_spec_Waiting_l4 x) (h_spec_Waiting.onOut 4 K) = peRound h_spec_Waiting (Orc.of (es_spec_Waiting N)) (mixL (L_spec_Waiting N) N n 4) c_spec_Waiting_0 (shape ks_spec_Waiting_l4 x) (h_spec_Waiting.onOut 4 K) := by kernel_rfl
theorem fn_spec_Waiting (N : Nat) (x : AVals sg_spec_Waiting) (kf : Ret → Option Ret) : F_spec_Waiting N x kf = peFunc h_spec_Waiting (Orc.of (es_spec_Waiting N)) (L_spec_Waiting N N) Try.f18 (ashape sg_spec_Waiting x) kf := by kernel_rfl
theorem sd_spec_Waiting (N : Nat) : Sound Try.prog 18 (run_spec_Waiting N) := fun_ok2 (hh := h_spec_Waiting) mixed tab_ok (es := es_spec_Waiting N) trivial (fn := Try.f18) (body := body_spec_Waiting) (by kernel_rfl) (by kernel_rfl) (by kernel_rfl) (by kernel_rfl) (by kernel_rfl) (Lf := L_spec_Waiting N) (L0_spec_Waiting N) ls_spec_Waiting (round_cons (key := 4) (ks := ks_spec_Waiting_l4) (by kernel_rfl) (by kernel_rfl) (rd_spec_Waiting_4 N) trivial) (N := N) (by kernel_rfl) (fn_spec_Waiting N)
/-! impl_Waiting -/
noncomputable def ks_impl_Waiting_l3 : List Kd := [dK, dK, dK, .v (.sl (.int .i64)) (.o 3 none .k), dK, dK, dK, dK, .v (.sl tQIIIE) .k, .v (.int .i64) .k, .v (.int .i64) .k, dK, dK, dK, dK, dK, dK, dK, dK, dK, dK, dK, dK, dK]
noncomputable def ko_impl_Waiting_l3_0 : List Kd := [dK, dK, dK, .v (.sl (.int .i64)) (.o 3 none .k), dK, dK, dK, dK, dK, dK, dK, dK, dK, dK, dK, dK, dK, dK, dK, dK, dK, dK, dK, dK]
noncomputable def h_impl_Waiting : Hint := { tab, hn := [], loops := [(3, ks_impl_Waiting_l3)], outs := [(3, 2, ko_impl_Waiting_l3_0)], ords := [] }
noncomputable def sg_impl_Waiting : List AK := [.v tQLQIIIIILIELQIILIELQIIELILQIIIELQIIIIEIE .k]
noncomputable def F_impl_Waiting (N : Nat) (x : AVals sg_impl_Waiting) (kf : Ret → Option Ret) : Option Ret := impl_Waiting N x.1 (fun r0 => kf ⟨[⟨(.sl (.int .i64)), (.o 3 none .k), r0⟩], []⟩)
noncomputable def run_impl_Waiting (N : Nat) := runOf sg_impl_Waiting (F_impl_Waiting N)
noncomputable def es_impl_Waiting (N : Nat) : List Entry := []
noncomputable def body_impl_Waiting : Code := match Try.f19.body with | some c => c | none => .skip
noncomputable def L_impl_Waiting (N n : Nat) (key : Nat) (S : St) (K : Ks) : Option Ret := bif Nat.beq key 3 then withVals ks_impl_Waiting_l3 S (fun x => impl_Waiting_l3 x.2.1 x.2.2.1 n (fun z0 => K (.x 0) (shape ko_impl_Waiting_l3_0 (z0, ()))) x.1 x.2.2.2.1) else none
theorem L0_impl_Waiting (N key : Nat) (S : St) (K : Ks) : L_impl_Waiting N 0 key S K = none := (bif0 (withVals0 fun _ => rfl) rfl)
noncomputable def c_impl_Waiting_0 : Code := (loopsIn body_impl_Waiting).getD 0 .skip
theorem ls_impl_Waiting : loopsIn body_impl_Waiting = [c_impl_Waiting_0] := by kernel_rfl
theorem rd_impl_Waiting_3 (N n : Nat) (x : Vals ks_impl_Waiting_l3) (K : Ks) : L_impl_Waiting N (n + 1) 3 (shape ks_impl_Waiting_l3 x) (h_impl_Waiting.onOut 3 K) = peRound h_impl_Waiting (Orc.of (es_impl_Waiting N)) (mixL (L_impl_Waiting N) N n 3) c_impl_Waiting_0 (shape ks_impl_Waiting_l3 x) (h_impl_Waiting.onOut 3 K) := by kernel_rfl
theorem fn_impl_Waiting (N : Nat) (x : AVals sg_impl_Waiting) (kf : Ret → Option Ret) : F_impl_Waiting N x kf = peFunc h_impl_Waiting (Orc.of (es_impl_Waiting N)) (L_impl_Waiting N N) Try.f19 (ashape sg_impl_Waiting x) kf := by kernel_rfl
theorem sd_impl_Waiting (N : Nat) : Sound Try.prog 19 (run_impl_Waiting N) := fun_ok2 (hh := h_impl_Waiting) mixed tab_ok (es := es_impl_Waiting N) trivial (fn := Try.f19) (body := body_impl_Waiting) (by kernel_rfl) (by kernel_rfl) (by kernel_rfl) (by kernel_rfl) (by kernel_rfl) (Lf := L_impl_Waiting N) (L0_impl_Waiting N) ls_impl_Waiting (round_cons (key := 3) (ks := ks_impl_Waiting_l3) (by kernel_rfl) (by kernel_rfl) (rd_impl_Waiting_3 N) trivial) (N := N) (by kernel_rfl) (fn_impl_Waiting N)
/-! laws_eqIntS -/
noncomputable def ks_laws_eqIntS_l4 : List Kd := [.v (.sl (.int .i64)) .k, .v (.sl (.int .i64)) .k, dK, dK, dK, .v (.int .i64) .k, dK, dK, dK, dK, dK, dK, dK, dK, dK, dK, dK, dK, dK, dK, dK, dK, dK, dK, dK, dK]
noncomputable def ko_laws_eqIntS_l4_0 : List Kd := [dK, dK, dK, dK, dK, dK, dK, dK, dK, dK, dK, dK, dK, dK, dK, dK, dK, dK, dK, dK, dK, dK, dK, dK, dK, dK]
noncomputable def ko_laws_eqIntS_l4_1 : List Kd := [dK, dK, dK, dK, .v .bool .k, dK, dK, dK, dK, dK, dK, dK, dK, dK, dK, dK, dK, dK, dK, dK, dK, dK, dK, dK, dK, dK]
noncomputable def h_laws_eqIntS : Hint := { tab, hn := [], loops := [(4, ks_laws_eqIntS_l4)], outs := [(4, 2, ko_laws_eqIntS_l4_0), (4, 1, ko_laws_eqIntS_l4_1)], ords := [(6, (OT.seq [0, 1, 2, 3, 4, 5, 6, 7, 8] .done))] }
noncomputable def sg_laws_eqIntS : List AK := [.v (.sl (.int .i64)) .k, .v (.sl (.int .i64)) .k]
noncomputable def F_laws_eqIntS (N : Nat) (x : AVals sg_laws_eqIntS) (kf : Ret → Option Ret) : Option Ret := laws_eqIntS N x.1 x.2.1 (fun r0 => kf ⟨[⟨.bool, .k, r0⟩], []⟩)
noncomputable def run_laws_eqIntS (N : Nat) := runOf sg_laws_eqIntS (F_laws_eqIntS N)
noncomputable def es_laws_eqIntS (N : Nat) : List Entry := []
noncomputable def body_laws_eqIntS : Code := match Try.f20.body with | some c => c | none => .skip
noncomputable def L_laws_eqIntS (N n : Nat) (key : Nat) (S : St) (K : Ks) : Option Ret := bif Nat.beq key 4 then withVals ks_laws_eqIntS_l4 S (fun x => laws_eqIntS_l4 x.1 x.2.1 n (K (.x 0) (shape ko_laws_eqIntS_l4_0 ())) (fun z0 => K .r (shape ko_laws_eqIntS_l4_1 (z0, ()))) x.2.2.1) else none
theorem L0_laws_eqIntS (N key : Nat) (S : St) (K : Ks) : L_laws_eqIntS N 0 key S K = none := (bif0 (withVals0 fun _ => rfl) rfl)
noncomputable def c_laws_eqIntS_0 : Code := (loopsIn body_laws_eqIntS).getD 0 .skip
theorem ls_laws_eqIntS : loopsIn body_laws_eqIntS = [c_laws_eqIntS_0] := by kernel_rfl
theorem rd_laws_eqIntS_4 (N n : Nat) (x : Vals ks_laws_eqIntS_l4) (K : Ks) : L_laws_eqIntS N (n + 1) 4 (shape ks_laws_eqIntS_l4 x) (h_laws_eqIntS.onOut 4 K) = peRound h_laws_eqIntS (Orc.of (es_laws_eqIntS N)) (mixL (L_laws_eqIntS N) N n 4) c_laws_eqIntS_0 (shape ks_laws_eqIntS_l4 x) (h_laws_eqIntS.onOut 4 K) := by kernel_rfl
theorem fn_laws_eqIntS (N : Nat) (x : AVals sg_laws_eqIntS) (kf : Ret → Option Ret) : F_laws_eqIntS N x kf = peFunc h_laws_eqIntS (Orc.of (es_laws_eqIntS N)) (L_laws_eqIntS N N) Try.f20 (ashape sg_laws_eqIntS x) kf := by kernel_rfl
theorem sd_laws_eqIntS (N : Nat) : Sound Try.prog 20 (run_laws_eqIntS N) := fun_ok2 (hh := h_laws_eqIntS) mixed tab_ok (es := es_laws_eqIntS N) trivial (fn := Try.f20) (body := body_laws_eqIntS) (by kernel_rfl) (by kernel_rfl) (by kernel_rfl) (by kernel_rfl) (by kernel_rfl) (Lf := L_laws_eqIntS N) (L0_laws_eqIntS N) ls_laws_eqIntS (round_cons (key := 4) (ks := ks_laws_eqIntS_l4) (by kernel_rfl) (by kernel_rfl) (rd_laws_eqIntS_4 N) trivial) (N := N) (by kernel_rfl) (fn_laws_eqIntS N)
/-! laws_eqTeam -/
noncomputable def h_laws_eqTeam : Hint := { tab, hn := [], loops := [], outs := [], ords := [] }
noncomputable def sg_laws_eqTeam : List AK := [.v tQIIIIILIE .k, .v tQIIIIILIE .k]
noncomputable def F_laws_eqTeam (N : Nat) (x : AVals sg_laws_eqTeam) (kf : Ret → Option Ret) : Option Ret := laws_eqTeam N x.1 x.2.1 (fun r0 => kf ⟨[⟨.bool, .k, r0⟩], []⟩)
noncomputable def run_laws_eqTeam (N : Nat) := runOf sg_laws_eqTeam (F_laws_eqTeam N)
noncomputable def es_laws_eqTeam (N : Nat) : List Entry := [⟨20, [.val, .val], (run_laws_eqIntS N)⟩]
noncomputable def body_laws_eqTeam : Code := match Try.f135.body with | some c => c | none => .skip
noncomputable def L_laws_eqTeam (N n : Nat) (key : Nat) (S : St) (K : Ks) : Option Ret := none
theorem L0_laws_eqTeam (N key : Nat) (S : St) (K : Ks) : L_laws_eqTeam N 0 key S K = none := rfl
theorem ls_laws_eqTeam : loopsIn body_laws_eqTeam = [] := by kernel_rfl
theorem fn_laws_eqTeam (N : Nat) (x : AVals sg_laws_eqTeam) (kf : Ret → Option Ret) : F_laws_eqTeam N x kf = peFunc h_laws_eqTeam (Orc.of (es_laws_eqTeam N)) (L_laws_eqTeam N N) Try.f135 (ashape sg_laws_eqTeam x) kf := by kernel_rfl
theorem sd_laws_eqTeam (N : Nat) : Sound Try.prog 135 (run_laws_eqTeam N) := fun_ok2 (hh := h_laws_eqTeam) mixed tab_ok (es := es_laws_eqTeam N) ⟨sd_laws_eqIntS N, trivial⟩ (fn := Try.f135) (body := body_laws_eqTeam) (by kernel_rfl) (by kernel_rfl) (by kernel_rfl) (by kernel_rfl) (by kernel_rfl) (Lf := L_laws_eqTeam N) (L0_laws_eqTeam N) ls_laws_eqTeam trivial (N := N) (by kernel_rfl) (fn_laws_eqTeam N)
/-! laws_eqTeamS -/
noncomputable def ks_laws_eqTeamS_l4 : List Kd := [.v (.sl tQIIIIILIE) .k, .v (.sl tQIIIIILIE) .k, dK, dK, dK, .v (.int .i64) .k, dK, dK, dK, dK, dK, dK, dK, dK, dK, dK, dK, dK, dK, dK, dK, dK, dK, dK, dK, dK, dK]
noncomputable def ko_laws_eqTeamS_l4_0 : List Kd := [dK, dK, dK, dK, dK, dK, dK, dK, dK, dK, dK, dK, dK, dK, dK, dK, dK, dK, dK, dK, dK, dK, dK, dK, dK, dK, dK]
noncomputable def ko_laws_eqTeamS_l4_1 : List Kd := [dK, dK, dK, dK, .v .bool .k, dK, dK, dK, dK, dK, dK, dK, dK, dK, dK, dK, dK, dK, dK, dK, dK, dK, dK, dK, dK, dK, dK]
noncomputable def h_laws_eqTeamS : Hint := { tab, hn := [], loops := [(4, ks_laws_eqTeamS_l4)], outs := [(4, 2, ko_laws_eqTeamS_l4_0), (4, 1, ko_laws_eqTeamS_l4_1)], ords := [(6, (OT.seq [0, 1, 2, 3, 4, 5, 6, 7, 8, 9] .done))] }
noncomputable def sg_laws_eqTeamS : List AK := [.v (.sl tQIIIIILIE) .k, .v (.sl tQIIIIILIE) .k]
noncomputable def F_laws_eqTeamS (N : Nat) (x : AVals sg_laws_eqTeamS) (kf : Ret → Option Ret) : Option Ret := laws_eqTeamS N x.1 x.2.1 (fun r0 => kf ⟨[⟨.bool, .k, r0⟩], []⟩)
noncomputable def run_laws_eqTeamS (N : Nat) := runOf sg_laws_eqTeamS (F_laws_eqTeamS N)
noncomputable def es_laws_eqTeamS (N : Nat) : List Entry := [⟨135, [.val, .val], (run_laws_eqTeam N)⟩]
noncomputable def body_laws_eqTeamS : Code := match Try.f71.body with | some c => c | none => .skip
noncomputable def L_laws_eqTeamS (N n : Nat) (key : Nat) (S : St) (K : Ks) : Option Ret := bif Nat.beq key 4 then withVals ks_laws_eqTeamS_l4 S (fun x => laws_eqTeamS_l4 N x.1 x.2.1 n (K (.x 0) (shape ko_laws_eqTeamS_l4_0 ())) (fun z0 => K .r (shape ko_laws_eqTeamS_l4_1 (z0, ()))) x.2.2.1) else none
theorem L0_laws_eqTeamS (N key : Nat) (S : St) (K : Ks) : L_laws_eqTeamS N 0 key S K = none := (bif0 (withVals0 fun _ => rfl) rfl)
noncomputable def c_laws_eqTeamS_0 : Code := (loopsIn body_laws_eqTeamS).getD 0 .skip
theorem ls_laws_eqTeamS : loopsIn body_laws_eqTeamS = [c_laws_eqTeamS_0] := by kernel_rfl
theorem rd_laws_eqTeamS_4 (N n : Nat) (x : Vals ks_laws_eqTeamS_l4) (K : Ks) : L_laws_eqTeamS N (n + 1) 4 (shape ks_laws_eqTeamS_l4 x) (h_laws_eqTeamS.onOut 4 K) = peRound h_laws_eqTeamS (Orc.of (es_laws_eqTeamS N)) (mixL (L_laws_eqTeamS N) N n 4) c_laws_eqTeamS_0 (shape ks_laws_eqTeamS_l4 x) (h_laws_eqTeamS.onOut 4 K) := by kernel_rfl
theorem fn_laws_eqTeamS (N : Nat) (x : AVals sg_laws_eqTeamS) (kf : Ret → Option Ret) : F_laws_eqTeamS N x kf = peFunc h_laws_eqTeamS (Orc.of (es_laws_eqTeamS N)) (L_laws_eqTeamS N N) Try.f71 (ashape sg_laws_eqTeamS x) kf := by kernel_rfl
theorem sd_laws_eqTeamS (N : Nat) : Sound Try.prog 71 (run_laws_eqTeamS N) := fun_ok2 (hh := h_laws_eqTeamS) mixed tab_ok (es := es_laws_eqTeamS N) ⟨sd_laws_eqTeam N, trivial⟩ (fn := Try.f71) (body := body_laws_eqTeamS) (by kernel_rfl) (by kernel_rfl) (by kernel_rfl) (by kernel_rfl) (by kernel_rfl) (Lf := L_laws_eqTeamS N) (L0_laws_eqTeamS N) ls_laws_eqTeamS (round_cons (key := 4) (ks := ks_laws_eqTeamS_l4) (by kernel_rfl) (by kernel_rfl) (rd_laws_eqTeamS_4 N) trivial) (N := N) (by kernel_rfl) (fn_laws_eqTeamS N)
/-! laws_eqJudge -/
noncomputable def h_laws_eqJudge : Hint := { tab, hn := [], loops := [], outs := [], ords := [] }
noncomputable def sg_laws_eqJudge : List AK := [.v tQIILIE .k, .v tQIILIE .k]
noncomputable def F_laws_eqJudge (N : Nat) (x : AVals sg_laws_eqJudge) (kf : Ret → Option Ret) : Option Ret := laws_eqJudge N x.1 x.2.1 (fun r0 => kf ⟨[⟨.bool, .k, r0⟩], []⟩)
noncomputable def run_laws_eqJudge (N : Nat) := runOf sg_laws_eqJudge (F_laws_eqJudge N)
noncomputable def es_laws_eqJudge (N : Nat) : List Entry := [⟨20, [.val, .val], (run_laws_eqIntS N)⟩]
noncomputable def body_laws_eqJudge : Code := match Try.f136.body with | some c => c | none => .skip
noncomputable def L_laws_eqJudge (N n : Nat) (key : Nat) (S : St) (K : Ks) : Option Ret := none
theorem L0_laws_eqJudge (N key : Nat) (S : St) (K : Ks) : L_laws_eqJudge N 0 key S K = none := rfl
theorem ls_laws_eqJudge : loopsIn body_laws_eqJudge = [] := by kernel_rfl
theorem fn_laws_eqJudge (N : Nat) (x : AVals sg_laws_eqJudge) (kf : Ret → Option Ret) : F_laws_eqJudge N x kf = peFunc h_laws_eqJudge (Orc.of (es_laws_eqJudge N)) (L_laws_eqJudge N N) Try.f136 (ashape sg_laws_eqJudge x) kf := by kernel_rfl
theorem sd_laws_eqJudge (N : Nat) : Sound Try.prog 136 (run_laws_eqJudge N) := fun_ok2 (hh := h_laws_eqJudge) mixed tab_ok (es := es_laws_eqJudge N) ⟨sd_laws_eqIntS N, trivial⟩ (fn := Try.f136) (body := body_laws_eqJudge) (by kernel_rfl) (by kernel_rfl) (by kernel_rfl) (by kernel_rfl) (by kernel_rfl) (Lf := L_laws_eqJudge N) (L0_laws_eqJudge N) ls_laws_eqJudge trivial (N := N) (by kernel_rfl) (fn_laws_eqJudge N)
/-! laws_eqJudgeS -/
noncomputable def ks_laws_eqJudgeS_l4 : List Kd := [.v (.sl tQIILIE) .k, .v (.sl tQIILIE) .k, dK, dK, dK, .v (.int .i64) .k, dK, dK, dK, dK, dK, dK, dK, dK, dK, dK, dK, dK, dK, dK, dK, dK, dK, dK, dK, dK, dK]
noncomputable def ko_laws_eqJudgeS_l4_0 : List Kd := [dK, dK, dK, dK, dK, dK, dK, dK, dK, dK, dK, dK, dK, dK, dK, dK, dK, dK, dK, dK, dK, dK, dK, dK, dK, dK, dK]
noncomputable def ko_laws_eqJudgeS_l4_1 : List Kd := [dK, dK, dK, dK, .v .bool .k, dK, dK, dK, dK, dK, dK, dK, dK, dK, dK, dK, dK, dK, dK, dK, dK, dK, dK, dK, dK, dK, dK]
noncomputable def h_laws_eqJudgeS : Hint := { tab, hn := [], loops := [(4, ks_laws_eqJudgeS_l4)], outs := [(4, 2, ko_laws_eqJudgeS_l4_0), (4, 1, ko_laws_eqJudgeS_l4_1)], ords := [(6, (OT.seq [0, 1, 2, 3, 4, 5, 6, 7, 8, 9] .done))] }
noncomputable def sg_laws_eqJudgeS : List AK := [.v (.sl tQIILIE) .k, .v (.sl tQIILIE) .k]
noncomputable def F_laws_eqJudgeS (N : Nat) (x : AVals sg_laws_eqJudgeS) (kf : Ret → Option Ret) : Option Ret := laws_eqJudgeS N x.1 x.2.1 (fun r0 => kf ⟨[⟨.bool, .k, r0⟩], []⟩)
noncomputable def run_laws_eqJudgeS (N : Nat) := runOf sg_laws_eqJudgeS (F_laws_eqJudgeS N)
noncomputable def es_laws_eqJudgeS (N : Nat) : List Entry := [⟨136, [.val, .val], (run_laws_eqJudge N)⟩]
noncomputable def body_laws_eqJudgeS : Code := match Try.f72.body with | some c => c | none => .skip
noncomputable def L_laws_eqJudgeS (N n : Nat) (key : Nat) (S : St) (K : Ks) : Option Ret := bif Nat.beq key 4 then withVals ks_laws_eqJudgeS_l4 S (fun x => laws_eqJudgeS_l4 N x.1 x.2.1 n (K (.x 0) (shape ko_laws_eqJudgeS_l4_0 ())) (fun z0 => K .r (shape ko_laws_eqJudgeS_l4_1 (z0, ()))) x.2.2.1) else none
theorem L0_laws_eqJudgeS (N key : Nat) (S : St) (K : Ks) : L_laws_eqJudgeS N 0 key S K = none := (bif0 (withVals0 fun _ => rfl) rfl)
noncomputable def c_laws_eqJudgeS_0 : Code := (loopsIn body_laws_eqJudgeS).getD 0 .skip
theorem ls_laws_eqJudgeS : loopsIn body_laws_eqJudgeS = [c_laws_eqJudgeS_0] := by kernel_rfl
theorem rd_laws_eqJudgeS_4 (N n : Nat) (x : Vals ks_laws_eqJudgeS_l4) (K : Ks) : L_laws_eqJudgeS N (n + 1) 4 (shape ks_laws_eqJudgeS_l4 x) (h_laws_eqJudgeS.onOut 4 K) = peRound h_laws_eqJudgeS (Orc.of (es_laws_eqJudgeS N)) (mixL (L_laws_eqJudgeS N) N n 4) c_laws_eqJudgeS_0 (shape ks_laws_eqJudgeS_l4 x) (h_laws_eqJudgeS.onOut 4 K) := by kernel_rfl
theorem fn_laws_eqJudgeS (N : Nat) (x : AVals sg_laws_eqJudgeS) (kf : Ret → Option Ret) : F_laws_eqJudgeS N x kf = peFunc h_laws_eqJudgeS (Orc.of (es_laws_eqJudgeS N)) (L_laws_eqJudgeS N N) Try.f72 (ashape sg_laws_eqJudgeS x) kf := by kernel_rfl
theorem sd_laws_eqJudgeS (N : Nat) : Sound Try.prog 72 (run_laws_eqJudgeS N) := fun_ok2 (hh := h_laws_eqJudgeS) mixed tab_ok (es := es_laws_eqJudgeS N) ⟨sd_laws_eqJudge N, trivial⟩ (fn := Try.f72) (body := body_laws_eqJudgeS) (by kernel_rfl) (by kernel_rfl) (by kernel_rfl) (by kernel_rfl) (by kernel_rfl) (Lf := L_laws_eqJudgeS N) (L0_laws_eqJudgeS N) ls_laws_eqJudgeS (round_cons (key := 4) (ks := ks_laws_eqJudgeS_l4) (by kernel_rfl) (by kernel_rfl) (rd_laws_eqJudgeS_4 N) trivial) (N := N) (by kernel_rfl) (fn_laws_eqJudgeS N)
/-! laws_eqPair -/
noncomputable def h_laws_eqPair : Hint := { tab, hn := [], loops := [], outs := [], ords := [] }
noncomputable def sg_laws_eqPair : List AK := [.v tQIIE .k, .v tQIIE .k]
noncomputable def F_laws_eqPair (N : Nat) (x : AVals sg_laws_eqPair) (kf : Ret → Option Ret) : Option Ret := laws_eqPair N x.1 x.2.1 (fun r0 => kf ⟨[⟨.bool, .k, r0⟩], []⟩)
noncomputable def run_laws_eqPair (N : Nat) := runOf sg_laws_eqPair (F_laws_eqPair N)
noncomputable def es_laws_eqPair (N : Nat) : List Entry := []
noncomputable def body_laws_eqPair : Code := match Try.f137.body with | some c => c | none => .skip
noncomputable def L_laws_eqPair (N n : Nat) (key : Nat) (S : St) (K : Ks) : Option Ret := none
theorem L0_laws_eqPair (N key : Nat) (S : St) (K : Ks) : L_laws_eqPair N 0 key S K = none := rfl
theorem ls_laws_eqPair : loopsIn body_laws_eqPair = [] := by kernel_rfl
theorem fn_laws_eqPair (N : Nat) (x : AVals sg_laws_eqPair) (kf : Ret → Option Ret) : F_laws_eqPair N x kf = peFunc h_laws_eqPair (Orc.of (es_laws_eqPair N)) (L_laws_eqPair N N) Try.f137 (ashape sg_laws_eqPair x) kf := by kernel_rfl
theorem sd_laws_eqPair (N : Nat) : Sound Try.prog 137 (run_laws_eqPair N) := fun_ok2 (hh := h_laws_eqPair) mixed tab_ok (es := es_laws_eqPair N) trivial (fn := Try.f137) (body := body_laws_eqPair) (by kernel_rfl) (by kernel_rfl) (by kernel_rfl) (by kernel_rfl) (by kernel_rfl) (Lf := L_laws_eqPair N) (L0_laws_eqPair N) ls_laws_eqPair trivial (N := N) (by kernel_rfl) (fn_laws_eqPair N)
/-! laws_eqPairS -/
noncomputable def ks_laws_eqPairS_l4 : List Kd := [.v (.sl tQIIE) .k, .v (.sl tQIIE) .k, dK, dK, dK, .v (.int .i64) .k, dK, dK, dK, dK, dK, dK, dK, dK, dK, dK, dK, dK, dK, dK, dK, dK, dK, dK, dK, dK, dK]
noncomputable def ko_laws_eqPairS_l4_0 : List Kd := [dK, dK, dK, dK, dK, dK, dK, dK, dK, dK, dK, dK, dK, dK, dK, dK, dK, dK, dK, dK, dK, dK, dK, dK, dK, dK, dK]
noncomputable def ko_laws_eqPairS_l4_1 : List Kd := [dK, dK, dK, dK, .v .bool .k, dK, dK, dK, dK, dK, dK, dK, dK, dK, dK, dK, dK, dK, dK, dK, dK, dK, dK, dK, dK, dK, dK]
noncomputable def h_laws_eqPairS : Hint := { tab, hn := [], loops := [(4, ks_laws_eqPairS_l4)], outs := [(4, 2, ko_laws_eqPairS_l4_0), (4, 1, ko_laws_eqPairS_l4_1)], ords := [(6, (OT.seq [0, 1, 2, 3, 4, 5, 6, 7, 8, 9] .done))] }
noncomputable def sg_laws_eqPairS : List AK := [.v (.sl tQIIE) .k, .v (.sl tQIIE) .k]
noncomputable def F_laws_eqPairS (N : Nat) (x : AVals sg_laws_eqPairS) (kf : Ret → Option Ret) : Option Ret := laws_eqPairS N x.1 x.2.1 (fun r0 => kf ⟨[⟨.bool, .k, r0⟩], []⟩)
noncomputable def run_laws_eqPairS (N : Nat) := runOf sg_laws_eqPairS (F_laws_eqPairS N)
noncomputable def es_laws_eqPairS (N : Nat) : List Entry := [⟨137, [.val, .val], (run_laws_eqPair N)⟩]
noncomputable def body_laws_eqPairS : Code := match Try.f73.body with | some c => c | none => .skip
noncomputable def L_laws_eqPairS (N n : Nat) (key : Nat) (S : St) (K : Ks) : Option Ret := bif Nat.beq key 4 then withVals ks_laws_eqPairS_l4 S (fun x => laws_eqPairS_l4 N x.1 x.2.1 n (K (.x 0) (shape ko_laws_eqPairS_l4_0 ())) (fun z0 => K .r (shape ko_laws_eqPairS_l4_1 (z0, ()))) x.2.2.1) else none
theorem L0_laws_eqPairS (N key : Nat) (S : St) (K : Ks) : L_laws_eqPairS N 0 key S K = none := (bif0 (withVals0 fun _ => rfl) rfl)
noncomputable def c_laws_eqPairS_0 : Code := (loopsIn body_laws_eqPairS).getD 0 .skip
theorem ls_laws_eqPairS : loopsIn body_laws_eqPairS = [c_laws_eqPairS_0] := by kernel_rfl
theorem rd_laws_eqPairS_4 (N n : Nat) (x : Vals ks_laws_eqPairS_l4) (K : Ks) : L_laws_eqPairS N (n + 1) 4 (shape ks_laws_eqPairS_l4 x) (h_laws_eqPairS.onOut 4 K) = peRound h_laws_eqPairS (Orc.of (es_laws_eqPairS N)) (mixL (L_laws_eqPairS N) N n 4) c_laws_eqPairS_0 (shape ks_laws_eqPairS_l4 x) (h_laws_eqPairS.onOut 4 K) := by kernel_rfl
theorem fn_laws_eqPairS (N : Nat) (x : AVals sg_laws_eqPairS) (kf : Ret → Option Ret) : F_laws_eqPairS N x kf = peFunc h_laws_eqPairS (Orc.of (es_laws_eqPairS N)) (L_laws_eqPairS N N) Try.f73 (ashape sg_laws_eqPairS x) kf := by kernel_rfl
theorem sd_laws_eqPairS (N : Nat) : Sound Try.prog 73 (run_laws_eqPairS N) := fun_ok2 (hh := h_laws_eqPairS) mixed tab_ok (es := es_laws_eqPairS N) ⟨sd_laws_eqPair N, trivial⟩ (fn := Try.f73) (body := body_laws_eqPairS) (by kernel_rfl) (by kernel_rfl) (by kernel_rfl) (by kernel_rfl) (by kernel_rfl) (Lf := L_laws_eqPairS N) (L0_laws_eqPairS N) ls_laws_eqPairS (round_cons (key := 4) (ks := ks_laws_eqPairS_l4) (by kernel_rfl) (by kernel_rfl) (rd_laws_eqPairS_4 N) trivial) (N := N) (by kernel_rfl) (fn_laws_eqPairS N)
/-! laws_eqBallot -/
noncomputable def h_laws_eqBallot : Hint := { tab, hn := [], loops := [], outs := [], ords := [] }
noncomputable def sg_laws_eqBallot : List AK := [.v tQIIIE .k, .v tQIIIE .k]
noncomputable def F_laws_eqBallot (N : Nat) (x : AVals sg_laws_eqBallot) (kf : Ret → Option Ret) : Option Ret := laws_eqBallot N x.1 x.2.1 (fun r0 => kf ⟨[⟨.bool, .k, r0⟩], []⟩)
noncomputable def run_laws_eqBallot (N : Nat) := runOf sg_laws_eqBallot (F_laws_eqBallot N)
noncomputable def es_laws_eqBallot (N : Nat) : List Entry := []
noncomputable def body_laws_eqBallot : Code := match Try.f138.body with | some c => c | none => .skip
noncomputable def L_laws_eqBallot (N n : Nat) (key : Nat) (S : St) (K : Ks) : Option Ret := none
theorem L0_laws_eqBallot (N key : Nat) (S : St) (K : Ks) : L_laws_eqBallot N 0 key S K = none := rfl
theorem ls_laws_eqBallot : loopsIn body_laws_eqBallot = [] := by kernel_rfl
theorem fn_laws_eqBallot (N : Nat) (x : AVals sg_laws_eqBallot) (kf : Ret → Option Ret) : F_laws_eqBallot N x kf = peFunc h_laws_eqBallot (Orc.of (es_laws_eqBallot N)) (L_laws_eqBallot N N) Try.f138 (ashape sg_laws_eqBallot x) kf := by kernel_rfl
theorem sd_laws_eqBallot (N : Nat) : Sound Try.prog 138 (run_laws_eqBallot N) := fun_ok2 (hh := h_laws_eqBallot) mixed tab_ok (es := es_laws_eqBallot N) trivial (fn := Try.f138) (body := body_laws_eqBallot) (by kernel_rfl) (by kernel_rfl) (by kernel_rfl) (by kernel_rfl) (by kernel_rfl) (Lf := L_laws_eqBallot N) (L0_laws_eqBallot N) ls_laws_eqBallot trivial (N := N) (by kernel_rfl) (fn_laws_eqBallot N)
/-! laws_eqBallotS -/
noncomputable def ks_laws_eqBallotS_l4 : List Kd := [.v (.sl tQIIIE) .k, .v (.sl tQIIIE) .k, dK, dK, dK, .v (.int .i64) .k, dK, dK, dK, dK, dK, dK, dK, dK, dK, dK, dK, dK, dK, dK, dK, dK, dK, dK, dK, dK, dK]
noncomputable def ko_laws_eqBallotS_l4_0 : List Kd := [dK, dK, dK, dK, dK, dK, dK, dK, dK, dK, dK, dK, dK, dK, dK, dK, dK, dK, dK, dK, dK, dK, dK, dK, dK, dK, dK]
noncomputable def ko_laws_eqBallotS_l4_1 : List Kd := [dK, dK, dK, dK, .v .bool .k, dK, dK, dK, dK, dK, dK, dK, dK, dK, dK, dK, dK, dK, dK, dK, dK, dK, dK, dK, dK, dK, dK]
noncomputable def h_laws_eqBallotS : Hint := { tab, hn := [], loops := [(4, ks_laws_eqBallotS_l4)], outs := [(4, 2, ko_laws_eqBallotS_l4_0), (4, 1, ko_laws_eqBallotS_l4_1)], ords := [(6, (OT.seq [0, 1, 2, 3, 4, 5, 6, 7, 8, 9] .done))] }
noncomputable def sg_laws_eqBallotS : List AK := [.v (.sl tQIIIE) .k, .v (.sl tQIIIE) .k]
noncomputable def F_laws_eqBallotS (N : Nat) (x : AVals sg_laws_eqBallotS) (kf : Ret → Option Ret) : Option Ret := laws_eqBallotS N x.1 x.2.1 (fun r0 => kf ⟨[⟨.bool, .k, r0⟩], []⟩)
noncomputable def run_laws_eqBallotS (N : Nat) := runOf sg_laws_eqBallotS (F_laws_eqBallotS N)
noncomputable def es_laws_eqBallotS (N : Nat) : List Entry := [⟨138, [.val, .val], (run_laws_eqBallot N)⟩]
noncomputable def body_laws_eqBallotS : Code := match Try.f74.body with | some c => c | none => .skip
noncomputable def L_laws_eqBallotS (N n : Nat) (key : Nat) (S : St) (K : Ks) : Option Ret := bif Nat.beq key 4 then withVals ks_laws_eqBallotS_l4 S (fun x => laws_eqBallotS_l4 N x.1 x.2.1 n (K (.x 0) (shape ko_laws_eqBallotS_l4_0 ())) (fun z0 => K .r (shape ko_laws_eqBallotS_l4_1 (z0, ()))) x.2.2.1) else none
theorem L0_laws_eqBallotS (N key : Nat) (S : St) (K : Ks) : L_laws_eqBallotS N 0 key S K = none := (bif0 (withVals0 fun _ => rfl) rfl)
noncomputable def c_laws_eqBallotS_0 : Code := (loopsIn body_laws_eqBallotS).getD 0 .skip
theorem ls_laws_eqBallotS : loopsIn body_laws_eqBallotS = [c_laws_eqBallotS_0] := by kernel_rfl
theorem rd_laws_eqBallotS_4 (N n : Nat) (x : Vals ks_laws_eqBallotS_l4) (K : Ks) : L_laws_eqBallotS N (n + 1) 4 (shape ks_laws_eqBallotS_l4 x) (h_laws_eqBallotS.onOut 4 K) = peRound h_laws_eqBallotS (Orc.of (es_laws_eqBallotS N)) (mixL (L_laws_eqBallotS N) N n 4) c_laws_eqBallotS_0 (shape ks_laws_eqBallotS_l4 x) (h_laws_eqBallotS.onOut 4 K) := by kernel_rfl
theorem fn_laws_eqBallotS (N : Nat) (x : AVals sg_laws_eqBallotS) (kf : Ret → Option Ret) : F_laws_eqBallotS N x kf = peFunc h_laws_eqBallotS (Orc.of (es_laws_eqBallotS N)) (L_laws_eqBallotS N N) Try.f74 (ashape sg_laws_eqBallotS x) kf := by kernel_rfl
theorem sd_laws_eqBallotS (N : Nat) : Sound Try.prog 74 (run_laws_eqBallotS N) := fun_ok2 (hh := h_laws_eqBallotS) mixed tab_ok (es := es_laws_eqBallotS N) ⟨sd_laws_eqBallot N, trivial⟩ (fn := Try.f74) (body := body_laws_eqBallotS) (by kernel_rfl) (by kernel_rfl) (by kernel_rfl) (by kernel_rfl) (by kernel_rfl) (Lf := L_laws_eqBallotS N) (L0_laws_eqBallotS N) ls_laws_eqBallotS (round_cons (key := 4) (ks := ks_laws_eqBallotS_l4) (by kernel_rfl) (by kernel_rfl) (rd_laws_eqBallotS_4 N) trivial) (N := N) (by kernel_rfl) (fn_laws_eqBallotS N)
/-! laws_eqLine -/
noncomputable def h_laws_eqLine : Hint := { tab, hn := [], loops := [], outs := [], ords := [] }
noncomputable def sg_laws_eqLine : List AK := [.v tQIIIIE .k, .v tQIIIIE .k]
noncomputable def F_laws_eqLine (N : Nat) (x : AVals sg_laws_eqLine) (kf : Ret → Option Ret) : Option Ret := laws_eqLine N x.1 x.2.1 (fun r0 => kf ⟨[⟨.bool, .k, r0⟩], []⟩)
noncomputable def run_laws_eqLine (N : Nat) := runOf sg_laws_eqLine (F_laws_eqLine N)
noncomputable def es_laws_eqLine (N : Nat) : List Entry := []
noncomputable def body_laws_eqLine : Code := match Try.f84.body with | some c => c | none => .skip
noncomputable def L_laws_eqLine (N n : Nat) (key : Nat) (S : St) (K : Ks) : Option Ret := none
theorem L0_laws_eqLine (N key : Nat) (S : St) (K : Ks) : L_laws_eqLine N 0 key S K = none := rfl
theorem ls_laws_eqLine : loopsIn body_laws_eqLine = [] := by kernel_rfl
theorem fn_laws_eqLine (N : Nat) (x : AVals sg_laws_eqLine) (kf : Ret → Option Ret) : F_laws_eqLine N x kf = peFunc h_laws_eqLine (Orc.of (es_laws_eqLine N)) (L_laws_eqLine N N) Try.f84 (ashape sg_laws_eqLine x) kf := by kernel_rfl
theorem sd_laws_eqLine (N : Nat) : Sound Try.prog 84 (run_laws_eqLine N) := fun_ok2 (hh := h_laws_eqLine) mixed tab_ok (es := es_laws_eqLine N) trivial (fn := Try.f84) (body := body_laws_eqLine) (by kernel_rfl) (by kernel_rfl) (by kernel_rfl) (by kernel_rfl) (by kernel_rfl) (Lf := L_laws_eqLine N) (L0_laws_eqLine N) ls_laws_eqLine trivial (N := N) (by kernel_rfl) (fn_laws_eqLine N)
/-! laws_eqLineS -/
noncomputable def ks_laws_eqLineS_l4 : List Kd := [.v (.sl tQIIIIE) .k, .v (.sl tQIIIIE) .k, dK, dK, dK, .v (.int .i64) .k, dK, dK, dK, dK, dK, dK, dK, dK, dK, dK, dK, dK, dK, dK, dK, dK, dK, dK, dK, dK, dK]
noncomputable def ko_laws_eqLineS_l4_0 : List Kd := [dK, dK, dK, dK, dK, dK, dK, dK, dK, dK, dK, dK, dK, dK, dK, dK, dK, dK, dK, dK, dK, dK, dK, dK, dK, dK, dK]
noncomputable def ko_laws_eqLineS_l4_1 : List Kd := [dK, dK, dK, dK, .v .bool .k, dK, dK, dK, dK, dK, dK, dK, dK, dK, dK, dK, dK, dK, dK, dK, dK, dK, dK, dK, dK, dK, dK]
noncomputable def h_laws_eqLineS : Hint := { tab, hn := [], loops := [(4, ks_laws_eqLineS_l4)], outs := [(4, 2, ko_laws_eqLineS_l4_0), (4, 1, ko_laws_eqLineS_l4_1)], ords := [(6, (OT.seq [0, 1, 2, 3, 4, 5, 6, 7, 8, 9] .done))] }
noncomputable def sg_laws_eqLineS : List AK := [.v (.sl tQIIIIE) .k, .v (.sl tQIIIIE) .k]
noncomputable def F_laws_eqLineS (N : Nat) (x : AVals sg_laws_eqLineS) (kf : Ret → Option Ret) : Option Ret := laws_eqLineS N x.1 x.2.1 (fun r0 => kf ⟨[⟨.bool, .k, r0⟩], []⟩)
noncomputable def run_laws_eqLineS (N : Nat) := runOf sg_laws_eqLineS (F_laws_eqLineS N)
noncomputable def es_laws_eqLineS (N : Nat) : List Entry := [⟨84, [.val, .val], (run_laws_eqLine N)⟩]
noncomputable def body_laws_eqLineS : Code := match Try.f34.body with | some c => c | none => .skip
noncomputable def L_laws_eqLineS (N n : Nat) (key : Nat) (S : St) (K : Ks) : Option Ret := bif Nat.beq key 4 then withVals ks_laws_eqLineS_l4 S (fun x => laws_eqLineS_l4 N x.1 x.2.1 n (K (.x 0) (shape ko_laws_eqLineS_l4_0 ())) (fun z0 => K .r (shape ko_laws_eqLineS_l4_1 (z0, ()))) x.2.2.1) else none
theorem L0_laws_eqLineS (N key : Nat) (S : St) (K : Ks) : L_laws_eqLineS N 0 key S K = none := (bif0 (withVals0 fun _ => rfl) rfl)
noncomputable def c_laws_eqLineS_0 : Code := (loopsIn body_laws_eqLineS).getD 0 .skip
theorem ls_laws_eqLineS : loopsIn body_laws_eqLineS = [c_laws_eqLineS_0] := by kernel_rfl
theorem rd_laws_eqLineS_4 (N n : Nat) (x : Vals ks_laws_eqLineS_l4) (K : Ks) : L_laws_eqLineS N (n + 1) 4 (shape ks_laws_eqLineS_l4 x) (h_laws_eqLineS.onOut 4 K) = peRound h_laws_eqLineS (Orc.of (es_laws_eqLineS N)) (mixL (L_laws_eqLineS N) N n 4) c_laws_eqLineS_0 (shape ks_laws_eqLineS_l4 x) (h_laws_eqLineS.onOut 4 K) := by kernel_rfl
theorem fn_laws_eqLineS (N : Nat) (x : AVals sg_laws_eqLineS) (kf : Ret → Option Ret) : F_laws_eqLineS N x kf = peFunc h_laws_eqLineS (Orc.of (es_laws_eqLineS N)) (L_laws_eqLineS N N) Try.f34 (ashape sg_laws_eqLineS x) kf := by kernel_rfl
theorem sd_laws_eqLineS (N : Nat) : Sound Try.prog 34 (run_laws_eqLineS N) := fun_ok2 (hh := h_laws_eqLineS) mixed tab_ok (es := es_laws_eqLineS N) ⟨sd_laws_eqLine N, trivial⟩ (fn := Try.f34) (body := body_laws_eqLineS) (by kernel_rfl) (by kernel_rfl) (by kernel_rfl) (by kernel_rfl) (by kernel_rfl) (Lf := L_laws_eqLineS N) (L0_laws_eqLineS N) ls_laws_eqLineS (round_cons (key := 4) (ks := ks_laws_eqLineS_l4) (by kernel_rfl) (by kernel_rfl) (rd_laws_eqLineS_4 N) trivial) (N := N) (by kernel_rfl) (fn_laws_eqLineS N)
/-! laws_eqClub -/
noncomputable def h_laws_eqClub : Hint := { tab, hn := [], loops := [], outs := [], ords := [] }
noncomputable def sg_laws_eqClub : List AK := [.v tQLQIIIIILIELQIILIELQIIELILQIIIELQIIIIEIE .k, .v tQLQIIIIILIELQIILIELQIIELILQIIIELQIIIIEIE .k]
noncomputable def F_laws_eqClub (N : Nat) (x : AVals sg_laws_eqClub) (kf : Ret → Option Ret) : Option Ret := laws_eqClub N x.1 x.2.1 (fun r0 => kf ⟨[⟨.bool, .k, r0⟩], []⟩)
noncomputable def run_laws_eqClub (N : Nat) := runOf sg_laws_eqClub (F_laws_eqClub N)
noncomputable def es_laws_eqClub (N : Nat) : List Entry := [⟨71, [.val, .val], (run_laws_eqTeamS N)⟩, ⟨72, [.val, .val], (run_laws_eqJudgeS N)⟩, ⟨73, [.val, .val], (run_laws_eqPairS N)⟩, ⟨20, [.val, .val], (run_laws_eqIntS N)⟩, ⟨74, [.val, .val], (run_laws_eqBallotS N)⟩, ⟨34, [.val, .val], (run_laws_eqLineS N)⟩]
noncomputable def body_laws_eqClub : Code := match Try.f17.body with | some c => c | none => .skip
noncomputable def L_laws_eqClub (N n : Nat) (key : Nat) (S : St) (K : Ks) : Option Ret := none
theorem L0_laws_eqClub (N key : Nat) (S : St) (K : Ks) : L_laws_eqClub N 0 key S K = none := rfl
theorem ls_laws_eqClub : loopsIn body_laws_eqClub = [] := by kernel_rfl
theorem fn_laws_eqClub (N : Nat) (x : AVals sg_laws_eqClub) (kf : Ret → Option Ret) : F_laws_eqClub N x kf = peFunc h_laws_eqClub (Orc.of (es_laws_eqClub N)) (L_laws_eqClub N N) Try.f17 (ashape sg_laws_eqClub x) kf := by kernel_rfl
theorem sd_laws_eqClub (N : Nat) : Sound Try.prog 17 (run_laws_eqClub N) := fun_ok2 (hh := h_laws_eqClub) mixed tab_ok (es := es_laws_eqClub N) ⟨sd_laws_eqTeamS N, ⟨sd_laws_eqJudgeS N, ⟨sd_laws_eqPairS N, ⟨sd_laws_eqIntS N, ⟨sd_laws_eqBallotS N, ⟨sd_laws_eqLineS N, trivial⟩⟩⟩⟩⟩⟩ (fn := Try.f17) (body := body_laws_eqClub) (by kernel_rfl) (by kernel_rfl) (by kernel_rfl) (by kernel_rfl) (by kernel_rfl) (Lf := L_laws_eqClub N) (L0_laws_eqClub N) ls_laws_eqClub trivial (N := N) (by kernel_rfl) (fn_laws_eqClub N)
/-! laws_markIntS -/
noncomputable def ks_laws_markIntS_l2 : List Kd := [.v (.sl (.int .i64)) (.o 3 (some 0) .k), .v (.int .i64) .k, dK, dK, dK, .v (.int .i64) .k, dK, dK, dK, dK, dK, dK, dK, dK, dK, dK, dK, dK, dK]
noncomputable def ko_laws_markIntS_l2_0 : List Kd := [.v (.sl (.int .i64)) (.o 3 (some 0) .k), .v (.int .i64) .k, dK, dK, dK, dK, dK, dK, dK, dK, dK, dK, dK, dK, dK, dK, dK, dK, dK]
noncomputable def h_laws_markIntS : Hint := { tab, hn := [], loops := [(2, ks_laws_markIntS_l2)], outs := [(2, 2, ko_laws_markIntS_l2_0)], ords := [], lent := some (0, false) }
noncomputable def sg_laws_markIntS : List AK := [.v (.sl (.int .i64)) (.o 3 (some 0) .k), .v (.int .i64) .k]
noncomputable def F_laws_markIntS (N : Nat) (x : AVals sg_laws_markIntS) (kf : Ret → Option Ret) : Option Ret := laws_markIntS N x.1 x.2.1 (fun r0 z => kf ⟨[⟨(.int .i64), .k, r0⟩], [⟨(.sl (.int .i64)), (.o 3 (some 0) .k), z⟩]⟩)
noncomputable def run_laws_markIntS (N : Nat) := runOf sg_laws_markIntS (F_laws_markIntS N)
noncomputable def es_laws_markIntS (N : Nat) : List Entry := []
noncomputable def body_laws_markIntS : Code := match Try.f22.body with | some c => c | none => .skip
noncomputable def L_laws_markIntS (N n : Nat) (key : Nat) (S : St) (K : Ks) : Option Ret := bif Nat.beq key 2 then withVals ks_laws_markIntS_l2 S (fun x => laws_markIntS_l2 n (fun z0 z1 => K (.x 0) (shape ko_laws_markIntS_l2_0 (z0, z1, ()))) x.1 x.2.1 x.2.2.1) else none
theorem L0_laws_markIntS (N key : Nat) (S : St) (K : Ks) : L_laws_markIntS N 0 key S K = none := (bif0 (withVals0 fun _ => rfl) rfl)
noncomputable def c_laws_markIntS_0 : Code := (loopsIn body_laws_markIntS).getD 0 .skip
theorem ls_laws_markIntS : loopsIn body_laws_markIntS = [c_laws_markIntS_0] := by kernel_rfl
theorem rd_laws_markIntS_2 (N n : Nat) (x : Vals ks_laws_markIntS_l2) (K : Ks) : L_laws_markIntS N (n + 1) 2 (shape ks_laws_markIntS_l2 x) (h_laws_markIntS.onOut 2 K) = peRound h_laws_markIntS (Orc.of (es_laws_markIntS N)) (mixL (L_laws_markIntS N) N n 2) c_laws_markIntS_0 (shape ks_laws_markIntS_l2 x) (h_laws_markIntS.onOut 2 K) := by kernel_rfl
theorem fn_laws_markIntS (N : Nat) (x : AVals sg_laws_markIntS) (kf : Ret → Option Ret) : F_laws_markIntS N x kf = peFunc h_laws_markIntS (Orc.of (es_laws_markIntS N)) (L_laws_markIntS N N) Try.f22 (ashape sg_laws_markIntS x) kf := by kernel_rfl
theorem sd_laws_markIntS (N : Nat) : Sound Try.prog 22 (run_laws_markIntS N) := fun_ok2 (hh := h_laws_markIntS) mixed tab_ok (es := es_laws_markIntS N) trivial (fn := Try.f22) (body := body_laws_markIntS) (by kernel_rfl) (by kernel_rfl) (by kernel_rfl) (by kernel_rfl) (by kernel_rfl) (Lf := L_laws_markIntS N) (L0_laws_markIntS N) ls_laws_markIntS (round_cons (key := 2) (ks := ks_laws_markIntS_l2) (by kernel_rfl) (by kernel_rfl) (rd_laws_markIntS_2 N) trivial) (N := N) (by kernel_rfl) (fn_laws_markIntS N)
/-! laws_markTeamS -/
noncomputable def ks_laws_markTeamS_l2 : List Kd := [.v (.sl tQIIIIILIE) (.o 119 (some 0) (.p .k (.p .k (.p .k (.p .k (.p .k (.o 3 none .k))))))), .v (.int .i64) .k, dK, dK, dK, .v (.int .i64) .k, dK, dK, dK, dK, dK, dK, dK, dK, dK, dK, dK, dK, dK, dK, dK, dK, dK, dK, dK, dK, dK, dK, dK, dK, dK, dK, dK, dK, dK, dK, dK, dK, dK, dK, dK, dK, dK, dK, dK, dK, dK, dK, dK, dK, dK, dK, dK, dK, dK]
noncomputable def ko_laws_markTeamS_l2_0 : List Kd := [.v (.sl tQIIIIILIE) (.o 119 (some 0) (.p .k (.p .k (.p .k (.p .k (.p .k (.o 3 none .k))))))), .v (.int .i64) .k, dK, dK, dK, dK, dK, dK, dK, dK, dK, dK, dK, dK, dK, dK, dK, dK, dK, dK, dK, dK, dK, dK, dK, dK, dK, dK, dK, dK, dK, dK, dK, dK, dK, dK, dK, dK, dK, dK, dK, dK, dK, dK, dK, dK, dK, dK, dK, dK, dK, dK, dK, dK, dK]
noncomputable def h_laws_markTeamS : Hint := { tab, hn := [], loops := [(2, ks_laws_markTeamS_l2)], outs := [(2, 2, ko_laws_markTeamS_l2_0)], ords := [], lent := some (0, false) }
noncomputable def sg_laws_markTeamS : List AK := [.v (.sl tQIIIIILIE) (.o 119 (some 0) (.p .k (.p .k (.p .k (.p .k (.p .k (.o 3 none .k))))))), .v (.int .i64) .k]
noncomputable def F_laws_markTeamS (N : Nat) (x : AVals sg_laws_markTeamS) (kf : Ret → Option Ret) : Option Ret := laws_markTeamS N x.1 x.2.1 (fun r0 z => kf ⟨[⟨(.int .i64), .k, r0⟩], [⟨(.sl tQIIIIILIE), (.o 119 (some 0) (.p .k (.p .k (.p .k (.p .k (.p .k (.o 3 none .k))))))), z⟩]⟩)
noncomputable def run_laws_markTeamS (N : Nat) := runOf sg_laws_markTeamS (F_laws_markTeamS N)
noncomputable def es_laws_markTeamS (N : Nat) : List Entry := [⟨22, [.lend, .val], (run_laws_markIntS N)⟩]
noncomputable def body_laws_markTeamS : Code := match Try.f75.body with | some c => c | none => .skip
noncomputable def L_laws_markTeamS (N n : Nat) (key : Nat) (S : St) (K : Ks) : Option Ret := bif Nat.beq key 2 then withVals ks_laws_markTeamS_l2 S (fun x => laws_markTeamS_l2 N n (fun z0 z1 => K (.x 0) (shape ko_laws_markTeamS_l2_0 (z0, z1, ()))) x.1 x.2.1 x.2.2.1) else none
theorem L0_laws_markTeamS (N key : Nat) (S : St) (K : Ks) : L_laws_markTeamS N 0 key S K = none := (bif0 (withVals0 fun _ => rfl) rfl)
noncomputable def c_laws_markTeamS_0 : Code := (loopsIn body_laws_markTeamS).getD 0 .skip
theorem ls_laws_markTeamS : loopsIn body_laws_markTeamS = [c_laws_markTeamS_0] := by kernel_rfl
theorem rd_laws_markTeamS_2 (N n : Nat) (x : Vals ks_laws_markTeamS_l2) (K : Ks) : L_laws_markTeamS N (n + 1) 2 (shape ks_laws_markTeamS_l2 x) (h_laws_markTeamS.onOut 2 K) = peRound h_laws_markTeamS (Orc.of (es_laws_markTeamS N)) (mixL (L_laws_markTeamS N) N n 2) c_laws_markTeamS_0 (shape ks_laws_markTeamS_l2 x) (h_laws_markTeamS.onOut 2 K) := by kernel_rfl
theorem fn_laws_markTeamS (N : Nat) (x : AVals sg_laws_markTeamS) (kf : Ret → Option Ret) : F_laws_markTeamS N x kf = peFunc h_laws_markTeamS (Orc.of (es_laws_markTeamS N)) (L_laws_markTeamS N N) Try.f75 (ashape sg_laws_markTeamS x) kf := by kernel_rfl
theorem sd_laws_markTeamS (N : Nat) : Sound Try.prog 75 (run_laws_markTeamS N) := fun_ok2 (hh := h_laws_markTeamS) mixed tab_ok (es := es_laws_markTeamS N) ⟨sd_laws_markIntS N, trivial⟩ (fn := Try.f75) (body := body_laws_markTeamS) (by kernel_rfl) (by kernel_rfl) (by kernel_rfl) (by kernel_rfl) (by kernel_rfl) (Lf := L_laws_markTeamS N) (L0_laws_markTeamS N) ls_laws_markTeamS (round_cons (key := 2) (ks := ks_laws_markTeamS_l2) (by kernel_rfl) (by kernel_rfl) (rd_laws_markTeamS_2 N) trivial) (N := N) (by kernel_rfl) (fn_laws_markTeamS N)
/-! laws_markJudgeS -/
noncomputable def ks_laws_markJudgeS_l2 : List Kd := [.v (.sl tQIILIE) (.o 123 (some 0) (.p .k (.p .k (.o 3 none .k)))), .v (.int .i64) .k, dK, dK, dK, .v (.int .i64) .k, dK, dK, dK, dK, dK, dK, dK, dK, dK, dK, dK, dK, dK, dK, dK, dK, dK, dK, dK, dK, dK, dK, dK, dK, dK, dK, dK, dK]
noncomputable def ko_laws_markJudgeS_l2_0 : List Kd := [.v (.sl tQIILIE) (.o 123 (some 0) (.p .k (.p .k (.o 3 none .k)))), .v (.int .i64) .k, dK, dK, dK, dK, dK, dK, dK, dK, dK, dK, dK, dK, dK, dK, dK, dK, dK, dK, dK, dK, dK, dK, dK, dK, dK, dK, dK, dK, dK, dK, dK, dK]
noncomputable def h_laws_markJudgeS : Hint := { tab, hn := [], loops := [(2, ks_laws_markJudgeS_l2)], outs := [(2, 2, ko_laws_markJudgeS_l2_0)], ords := [], lent := some (0, false) }
noncomputable def sg_laws_markJudgeS : List AK := [.v (.sl tQIILIE) (.o 123 (some 0) (.p .k (.p .k (.o 3 none .k)))), .v (.int .i64) .k]
noncomputable def F_laws_markJudgeS (N : Nat) (x : AVals sg_laws_markJudgeS) (kf : Ret → Option Ret) : Option Ret := laws_markJudgeS N x.1 x.2.1 (fun r0 z => kf ⟨[⟨(.int .i64), .k, r0⟩], [⟨(.sl tQIILIE), (.o 123 (some 0) (.p .k (.p .k (.o 3 none .k)))), z⟩]⟩)
noncomputable def run_laws_markJudgeS (N : Nat) := runOf sg_laws_markJudgeS (F_laws_markJudgeS N)
noncomputable def es_laws_markJudgeS (N : Nat) : List Entry := [⟨22, [.lend, .val], (run_laws_markIntS N)⟩]
noncomputable def body_laws_markJudgeS : Code := match Try.f76.body with | some c => c | none => .skip
noncomputable def L_laws_markJudgeS (N n : Nat) (key : Nat) (S : St) (K : Ks) : Option Ret := bif Nat.beq key 2 then withVals ks_laws_markJudgeS_l2 S (fun x => laws_markJudgeS_l2 N n (fun z0 z1 => K (.x 0) (shape ko_laws_markJudgeS_l2_0 (z0, z1, ()))) x.1 x.2.1 x.2.2.1) else none
theorem L0_laws_markJudgeS (N key : Nat) (S : St) (K : Ks) : L_laws_markJudgeS N 0 key S K = none := (bif0 (withVals0 fun _ => rfl) rfl)
noncomputable def c_laws_markJudgeS_0 : Code := (loopsIn body_laws_markJudgeS).getD 0 .skip
theorem ls_laws_markJudgeS : loopsIn body_laws_markJudgeS = [c_laws_markJudgeS_0] := by kernel_rfl
theorem rd_laws_markJudgeS_2 (N n : Nat) (x : Vals ks_laws_markJudgeS_l2) (K : Ks) : L_laws_markJudgeS N (n + 1) 2 (shape ks_laws_markJudgeS_l2 x) (h_laws_markJudgeS.onOut 2 K) = peRound h_laws_markJudgeS (Orc.of (es_laws_markJudgeS N)) (mixL (L_laws_markJudgeS N) N n 2) c_laws_markJudgeS_0 (shape ks_laws_markJudgeS_l2 x) (h_laws_markJudgeS.onOut 2 K) := by kernel_rfl
theorem fn_laws_markJudgeS (N : Nat) (x : AVals sg_laws_markJudgeS) (kf : Ret → Option Ret) : F_laws_markJudgeS N x kf = peFunc h_laws_markJudgeS (Orc.of (es_laws_markJudgeS N)) (L_laws_markJudgeS N N) Try.f76 (ashape sg_laws_markJudgeS x) kf := by kernel_rfl
theorem sd_laws_markJudgeS (N : Nat) : Sound Try.prog 76 (run_laws_markJudgeS N) := fun_ok2 (hh := h_laws_markJudgeS) mixed tab_ok (es := es_laws_markJudgeS N) ⟨sd_laws_markIntS N, trivial⟩ (fn := Try.f76) (body := body_laws_markJudgeS) (by kernel_rfl) (by kernel_rfl) (by kernel_rfl) (by kernel_rfl) (by kernel_rfl) (Lf := L_laws_markJudgeS N) (L0_laws_markJudgeS N) ls_laws_markJudgeS (round_cons (key := 2) (ks := ks_laws_markJudgeS_l2) (by kernel_rfl) (by kernel_rfl) (rd_laws_markJudgeS_2 N) trivial) (N := N) (by kernel_rfl) (fn_laws_markJudgeS N)
/-! laws_markPairS -/
noncomputable def ks_laws_markPairS_l2 : List Kd := [.v (.sl tQIIE) (.o 126 (some 0) .k), .v (.int .i64) .k, dK, dK, dK, .v (.int .i64) .k, dK, dK, dK, dK, dK, dK, dK, dK, dK, dK, dK, dK, dK, dK, dK, dK, dK, dK, dK, dK, dK]
noncomputable def ko_laws_markPairS_l2_0 : List Kd := [.v (.sl tQIIE) (.o 126 (some 0) .k), .v (.int .i64) .k, dK, dK, dK, dK, dK, dK, dK, dK, dK, dK, dK, dK, dK, dK, dK, dK, dK, dK, dK, dK, dK, dK, dK, dK, dK]
noncomputable def h_laws_markPairS : Hint := { tab, hn := [], loops := [(2, ks_laws_markPairS_l2)], outs := [(2, 2, ko_laws_markPairS_l2_0)], ords := [], lent := some (0, false) }
noncomputable def sg_laws_markPairS : List AK := [.v (.sl tQIIE) (.o 126 (some 0) .k), .v (.int .i64) .k]
noncomputable def F_laws_markPairS (N : Nat) (x : AVals sg_laws_markPairS) (kf : Ret → Option Ret) : Option Ret := laws_markPairS N x.1 x.2.1 (fun r0 z => kf ⟨[⟨(.int .i64), .k, r0⟩], [⟨(.sl tQIIE), (.o 126 (some 0) .k), z⟩]⟩)
noncomputable def run_laws_markPairS (N : Nat) := runOf sg_laws_markPairS (F_laws_markPairS N)
noncomputable def es_laws_markPairS (N : Nat) : List Entry := []
noncomputable def body_laws_markPairS : Code := match Try.f77.body with | some c => c | none => .skip
noncomputable def L_laws_markPairS (N n : Nat) (key : Nat) (S : St) (K : Ks) : Option Ret := bif Nat.beq key 2 then withVals ks_laws_markPairS_l2 S (fun x => laws_markPairS_l2 n (fun z0 z1 => K (.x 0) (shape ko_laws_markPairS_l2_0 (z0, z1, ()))) x.1 x.2.1 x.2.2.1) else none
theorem L0_laws_markPairS (N key : Nat) (S : St) (K : Ks) : L_laws_markPairS N 0 key S K = none := (bif0 (withVals0 fun _ => rfl) rfl)
noncomputable def c_laws_markPairS_0 : Code := (loopsIn body_laws_markPairS).getD 0 .skip
theorem ls_laws_markPairS : loopsIn body_laws_markPairS = [c_laws_markPairS_0] := by kernel_rfl
theorem rd_laws_markPairS_2 (N n : Nat) (x : Vals ks_laws_markPairS_l2) (K : Ks) : L_laws_markPairS N (n + 1) 2 (shape ks_laws_markPairS_l2 x) (h_laws_markPairS.onOut 2 K) = peRound h_laws_markPairS (Orc.of (es_laws_markPairS N)) (mixL (L_laws_markPairS N) N n 2) c_laws_markPairS_0 (shape ks_laws_markPairS_l2 x) (h_laws_markPairS.onOut 2 K) := by kernel_rfl
theorem fn_laws_markPairS (N : Nat) (x : AVals sg_laws_markPairS) (kf : Ret → Option Ret) : F_laws_markPairS N x kf = peFunc h_laws_markPairS (Orc.of (es_laws_markPairS N)) (L_laws_markPairS N N) Try.f77 (ashape sg_laws_markPairS x) kf := by kernel_rfl
theorem sd_laws_markPairS (N : Nat) : Sound Try.prog 77 (run_laws_markPairS N) := fun_ok2 (hh := h_laws_markPairS) mixed tab_ok (es := es_laws_markPairS N) trivial (fn := Try.f77) (body := body_laws_markPairS) (by kernel_rfl) (by kernel_rfl) (by kernel_rfl) (by kernel_rfl) (by kernel_rfl) (Lf := L_laws_markPairS N) (L0_laws_markPairS N) ls_laws_markPairS (round_cons (key := 2) (ks := ks_laws_markPairS_l2) (by kernel_rfl) (by kernel_rfl) (rd_laws_markPairS_2 N) trivial) (N := N) (by kernel_rfl) (fn_laws_markPairS N)
/-! laws_markBallotS -/
noncomputable def ks_laws_markBallotS_l2 : List Kd := [.v (.sl tQIIIE) (.o 92 (some 0) .k), .v (.int .i64) .k, dK, dK, dK, .v (.int .i64) .k, dK, dK, dK, dK, dK, dK, dK, dK, dK, dK, dK, dK, dK, dK, dK, dK, dK, dK, dK, dK, dK, dK, dK, dK, dK, dK, dK, dK]
noncomputable def ko_laws_markBallotS_l2_0 : List Kd := [.v (.sl tQIIIE) (.o 92 (some 0) .k), .v (.int .i64) .k, dK, dK, dK, dK, dK, dK, dK, dK, dK, dK, dK, dK, dK, dK, dK, dK, dK, dK, dK, dK, dK, dK, dK, dK, dK, dK, dK, dK, dK, dK, dK, dK]
noncomputable def h_laws_markBallotS : Hint := { tab, hn := [], loops := [(2, ks_laws_markBallotS_l2)], outs := [(2, 2, ko_laws_markBallotS_l2_0)], ords := [], lent := some (0, false) }
noncomputable def sg_laws_markBallotS : List AK := [.v (.sl tQIIIE) (.o 92 (some 0) .k), .v (.int .i64) .k]
noncomputable def F_laws_markBallotS (N : Nat) (x : AVals sg_laws_markBallotS) (kf : Ret → Option Ret) : Option Ret := laws_markBallotS N x.1 x.2.1 (fun r0 z => kf ⟨[⟨(.int .i64), .k, r0⟩], [⟨(.sl tQIIIE), (.o 92 (some 0) .k), z⟩]⟩)
noncomputable def run_laws_markBallotS (N : Nat) := runOf sg_laws_markBallotS (F_laws_markBallotS N)
noncomputable def es_laws_markBallotS (N : Nat) : List Entry := []
noncomputable def body_laws_markBallotS : Code := match Try.f78.body with | some c => c | none => .skip
noncomputable def L_laws_markBallotS (N n : Nat) (key : Nat) (S : St) (K : Ks) : Option Ret := bif Nat.beq key 2 then withVals ks_laws_markBallotS_l2 S (fun x => laws_markBallotS_l2 n (fun z0 z1 => K (.x 0) (shape ko_laws_markBallotS_l2_0 (z0, z1, ()))) x.1 x.2.1 x.2.2.1) else none
theorem L0_laws_markBallotS (N key : Nat) (S : St) (K : Ks) : L_laws_markBallotS N 0 key S K = none := (bif0 (withVals0 fun _ => rfl) rfl)
noncomputable def c_laws_markBallotS_0 : Code := (loopsIn body_laws_markBallotS).getD 0 .skip
theorem ls_laws_markBallotS : loopsIn body_laws_markBallotS = [c_laws_markBallotS_0] := by kernel_rfl
theorem rd_laws_markBallotS_2 (N n : Nat) (x : Vals ks_laws_markBallotS_l2) (K : Ks) : L_laws_markBallotS N (n + 1) 2 (shape ks_laws_markBallotS_l2 x) (h_laws_markBallotS.onOut 2 K) = peRound h_laws_markBallotS (Orc.of (es_laws_markBallotS N)) (mixL (L_laws_markBallotS N) N n 2) c_laws_markBallotS_0 (shape ks_laws_markBallotS_l2 x) (h_laws_markBallotS.onOut 2 K) := by kernel_rfl
theorem fn_laws_markBallotS (N : Nat) (x : AVals sg_laws_markBallotS) (kf : Ret → Option Ret) : F_laws_markBallotS N x kf = peFunc h_laws_markBallotS (Orc.of (es_laws_markBallotS N)) (L_laws_markBallotS N N) Try.f78 (ashape sg_laws_markBallotS x) kf := by kernel_rfl
theorem sd_laws_markBallotS (N : Nat) : Sound Try.prog 78 (run_laws_markBallotS N) := fun_ok2 (hh := h_laws_markBallotS) mixed tab_ok (es := es_laws_markBallotS N) trivial (fn := Try.f78) (body := body_laws_markBallotS) (by kernel_rfl) (by kernel_rfl) (by kernel_rfl) (by kernel_rfl) (by kernel_rfl) (Lf := L_laws_markBallotS N) (L0_laws_markBallotS N) ls_laws_markBallotS (round_cons (key := 2) (ks := ks_laws_markBallotS_l2) (by kernel_rfl) (by kernel_rfl) (rd_laws_markBallotS_2 N) trivial) (N := N) (by kernel_rfl) (fn_laws_markBallotS N)
/-! laws_markLineS -/
noncomputable def ks_laws_markLineS_l2 : List Kd := [.v (.sl tQIIIIE) (.o 80 (some 0) .k), .v (.int .i64) .k, dK, dK, dK, .v (.int .i64) .k, dK, dK, dK, dK, dK, dK, dK, dK, dK, dK, dK, dK, dK, dK, dK, dK, dK, dK, dK, dK, dK, dK, dK, dK, dK, dK, dK, dK, dK, dK, dK, dK, dK, dK, dK]
noncomputable def ko_laws_markLineS_l2_0 : List Kd := [.v (.sl tQIIIIE) (.o 80 (some 0) .k), .v (.int .i64) .k, dK, dK, dK, dK, dK, dK, dK, dK, dK, dK, dK, dK, dK, dK, dK, dK, dK, dK, dK, dK, dK, dK, dK, dK, dK, dK, dK, dK, dK, dK, dK, dK, dK, dK, dK, dK, dK, dK, dK]
noncomputable def h_laws_markLineS : Hint := { tab, hn := [], loops := [(2, ks_laws_markLineS_l2)], outs := [(2, 2, ko_laws_markLineS_l2_0)], ords := [], lent := some (0, false) }
noncomputable def sg_laws_markLineS : List AK := [.v (.sl tQIIIIE) (.o 80 (some 0) .k), .v (.int .i64) .k]
noncomputable def F_laws_markLineS (N : Nat) (x : AVals sg_laws_markLineS) (kf : Ret → Option Ret) : Option Ret := laws_markLineS N x.1 x.2.1 (fun r0 z => kf ⟨[⟨(.int .i64), .k, r0⟩], [⟨(.sl tQIIIIE), (.o 80 (some 0) .k), z⟩]⟩)
noncomputable def run_laws_markLineS (N : Nat) := runOf sg_laws_markLineS (F_laws_markLineS N)
noncomputable def es_laws_markLineS (N : Nat) : List Entry := []
noncomputable def body_laws_markLineS : Code := match Try.f35.body with | some c => c | none => .skip
noncomputable def L_laws_markLineS (N n : Nat) (key : Nat) (S : St) (K : Ks) : Option Ret := bif Nat.beq key 2 then withVals ks_laws_markLineS_l2 S (fun x => laws_markLineS_l2 n (fun z0 z1 => K (.x 0) (shape ko_laws_markLineS_l2_0 (z0, z1, ()))) x.1 x.2.1 x.2.2.1) else none
theorem L0_laws_markLineS (N key : Nat) (S : St) (K : Ks) : L_laws_markLineS N 0 key S K = none := (bif0 (withVals0 fun _ => rfl) rfl)
noncomputable def c_laws_markLineS_0 : Code := (loopsIn body_laws_markLineS).getD 0 .skip
theorem ls_laws_markLineS : loopsIn body_laws_markLineS = [c_laws_markLineS_0] := by kernel_rfl
theorem rd_laws_markLineS_2 (N n : Nat) (x : Vals ks_laws_markLineS_l2) (K : Ks) : L_laws_markLineS N (n + 1) 2 (shape ks_laws_markLineS_l2 x) (h_laws_markLineS.onOut 2 K) = peRound h_laws_markLineS (Orc.of (es_laws_markLineS N)) (mixL (L_laws_markLineS N) N n 2) c_laws_markLineS_0 (shape ks_laws_markLineS_l2 x) (h_laws_markLineS.onOut 2 K) := by kernel_rfl
theorem fn_laws_markLineS (N : Nat) (x : AVals sg_laws_markLineS) (kf : Ret → Option Ret) : F_laws_markLineS N x kf = peFunc h_laws_markLineS (Orc.of (es_laws_markLineS N)) (L_laws_markLineS N N) Try.f35 (ashape sg_laws_markLineS x) kf := by kernel_rfl
theorem sd_laws_markLineS (N : Nat) : Sound Try.prog 35 (run_laws_markLineS N) := fun_ok2 (hh := h_laws_markLineS) mixed tab_ok (es := es_laws_markLineS N) trivial (fn := Try.f35) (body := body_laws_markLineS) (by kernel_rfl) (by kernel_rfl) (by kernel_rfl) (by kernel_rfl) (by kernel_rfl) (Lf := L_laws_markLineS N) (L0_laws_markLineS N) ls_laws_markLineS (round_cons (key := 2) (ks := ks_laws_markLineS_l2) (by kernel_rfl) (by kernel_rfl) (rd_laws_markLineS_2 N) trivial) (N := N) (by kernel_rfl) (fn_laws_markLineS N)
/-! laws_markClub -/
noncomputable def h_laws_markClub : Hint := { tab, hn := [], loops := [], outs := [], ords := [], lent := some (2, true) }
noncomputable def sg_laws_markClub : List AK := [.v tQLQIIIIILIELQIILIELQIIELILQIIIELQIIIIEIE (.p (.o 119 (some 0) (.p .k (.p .k (.p .k (.p .k (.p .k (.o 3 none .k))))))) (.p (.o 123 (some 1) (.p .k (.p .k (.o 3 none .k)))) (.p (.o 126 (some 2) .k) (.p (.o 3 (some 3) .k) (.p (.o 92 (some 4) .k) (.p (.o 80 (some 5) .k) .k)))))), .v (.int .i64) .k]
noncomputable def F_laws_markClub (N : Nat) (x : AVals sg_laws_markClub) (kf : Ret → Option Ret) : Option Ret := laws_markClub N x.1 x.2.1 (fun r0 z => kf ⟨[⟨(.int .i64), .k, r0⟩], [⟨tQLQIIIIILIELQIILIELQIIELILQIIIELQIIIIEIE, (.p (.o 119 (some 0) (.p .k (.p .k (.p .k (.p .k (.p .k (.o 3 none .k))))))) (.p (.o 123 (some 1) (.p .k (.p .k (.o 3 none .k)))) (.p (.o 126 (some 2) .k) (.p (.o 3 (some 3) .k) (.p (.o 92 (some 4) .k) (.p (.o 80 (some 5) .k) .k)))))), z⟩]⟩)
noncomputable def run_laws_markClub (N : Nat) := runOf sg_laws_markClub (F_laws_markClub N)
noncomputable def es_laws_markClub (N : Nat) : List Entry := [⟨75, [.lend, .val], (run_laws_markTeamS N)⟩, ⟨76, [.lend, .val], (run_laws_markJudgeS N)⟩, ⟨77, [.lend, .val], (run_laws_markPairS N)⟩, ⟨22, [.lend, .val], (run_laws_markIntS N)⟩, ⟨78, [.lend, .val], (run_laws_markBallotS N)⟩, ⟨35, [.lend, .val], (run_laws_markLineS N)⟩]
noncomputable def body_laws_markClub : Code := match Try.f21.body with | some c => c | none => .skip
noncomputable def L_laws_markClub (N n : Nat) (key : Nat) (S : St) (K : Ks) : Option Ret := none
theorem L0_laws_markClub (N key : Nat) (S : St) (K : Ks) : L_laws_markClub N 0 key S K = none := rfl
theorem ls_laws_markClub : loopsIn body_laws_markClub = [] := by kernel_rfl
theorem fn_laws_markClub (N : Nat) (x : AVals sg_laws_markClub) (kf : Ret → Option Ret) : F_laws_markClub N x kf = peFunc h_laws_markClub (Orc.of (es_laws_markClub N)) (L_laws_markClub N N) Try.f21 (ashape sg_laws_markClub x) kf := by kernel_rfl
theorem sd_laws_markClub (N : Nat) : Sound Try.prog 21 (run_laws_markClub N) := fun_ok2 (hh := h_laws_markClub) mixed tab_ok (es := es_laws_markClub N) ⟨sd_laws_markTeamS N, ⟨sd_laws_markJudgeS N, ⟨sd_laws_markPairS N, ⟨sd_laws_markIntS N, ⟨sd_laws_markBallotS N, ⟨sd_laws_markLineS N, trivial⟩⟩⟩⟩⟩⟩ (fn := Try.f21) (body := body_laws_markClub) (by kernel_rfl) (by kernel_rfl) (by kernel_rfl) (by kernel_rfl) (by kernel_rfl) (Lf := L_laws_markClub N) (L0_laws_markClub N) ls_laws_markClub trivial (N := N) (by kernel_rfl) (fn_laws_markClub N)
/-! spec_BallotsFor -/
noncomputable def ks_spec_BallotsFor_l4 : List Kd := [dK, .v (.sl (.int .i64)) .k, dK, dK, dK, .v (.sl tQIIIIE) (.o 98 none .k), .v (.sl (.int .i64)) (.o 3 none .k), .v (.int .i64) .k, dK, dK, dK, dK, dK, dK, dK, dK, dK, dK, dK, dK, dK, dK, dK, dK, dK, dK, dK, dK, dK, dK, dK, dK, dK, dK, dK, dK, dK, dK, dK, dK, dK, dK, dK, dK, dK]
noncomputable def ko_spec_BallotsFor_l4_0 : List Kd := [dK, dK, dK, dK, dK, .v (.sl tQIIIIE) (.o 98 none .k), dK, dK, dK, dK, dK, dK, dK, dK, dK, dK, dK, dK, dK, dK, dK, dK, dK, dK, dK, dK, dK, dK, dK, dK, dK, dK, dK, dK, dK, dK, dK, dK, dK, dK, dK, dK, dK, dK, dK]
noncomputable def h_spec_BallotsFor : Hint := { tab, hn := [], loops := [(4, ks_spec_BallotsFor_l4)], outs := [(4, 2, ko_spec_BallotsFor_l4_0)], ords := [(6, (OT.seq [0, 1, 2, 3, 4, 5, 6, 7, 8, 9, 10, 11, 12, 13, 14, 15, 16, 17, 18, 19] .done))] }
noncomputable def sg_spec_BallotsFor : List AK := [.v tQLQIIIIILIELQIILIELQIIELILQIIIELQIIIIEIE .k, .v (.sl (.int .i64)) .k]
noncomputable def F_spec_BallotsFor (N : Nat) (x : AVals sg_spec_BallotsFor) (kf : Ret → Option Ret) : Option Ret := spec_BallotsFor N x.1 x.2.1 (fun r0 => kf ⟨[⟨(.sl tQIIIIE), (.o 98 none .k), r0⟩], []⟩)
noncomputable def run_spec_BallotsFor (N : Nat) := runOf sg_spec_BallotsFor (F_spec_BallotsFor N)
noncomputable def es_spec_BallotsFor (N : Nat) : List Entry := [⟨18, [.val], (run_spec_Waiting N)⟩]
noncomputable def body_spec_BallotsFor : Code := match Try.f24.body with | some c => c | none => .skip
noncomputable def L_spec_BallotsFor (N n : Nat) (key : Nat) (S : St) (K : Ks) : Option Ret := bif Nat.beq key 4 then withVals ks_spec_BallotsFor_l4 S (fun x => spec_BallotsFor_l4 x.1 x.2.2.1 n (fun z0 => K (.x 0) (shape ko_spec_BallotsFor_l4_0 (z0, ()))) x.2.1 x.2.2.2.1) else none
theorem L0_spec_BallotsFor (N key : Nat) (S : St) (K : Ks) : L_spec_BallotsFor N 0 key S K = none := (bif0 (withVals0 fun _ => rfl) rfl)
noncomputable def c_spec_BallotsFor_0 : Code := (loopsIn body_spec_BallotsFor).getD 0 .skip
theorem ls_spec_BallotsFor : loopsIn body_spec_BallotsFor = [c_spec_BallotsFor_0] := by kernel_rfl
theorem rd_spec_BallotsFor_4 (N n : Nat) (x : Vals ks_spec_BallotsFor_l4) (K : Ks) : L_spec_BallotsFor N (n + 1) 4 (shape ks_spec_BallotsFor_l4 x) (h_spec_BallotsFor.onOut 4 K) = peRound h_spec_BallotsFor (Orc.of (es_spec_BallotsFor N)) (mixL (L_spec_BallotsFor N) N n 4) c_spec_BallotsFor_0 (shape ks_spec_BallotsFor_l4 x) (h_spec_BallotsFor.onOut 4 K) := by kernel_rfl
theorem fn_spec_BallotsFor (N : Nat) (x : AVals sg_spec_BallotsFor) (kf : Ret → Option Ret) : F_spec_BallotsFor N x kf = peFunc h_spec_BallotsFor (Orc.of (es_spec_BallotsFor N)) (L_spec_BallotsFor N N) Try.f24 (ashape sg_spec_BallotsFor x) kf := by kernel_rfl
theorem sd_spec_BallotsFor (N : Nat) : Sound Try.prog 24 (run_spec_BallotsFor N) := fun_ok2 (hh := h_spec_BallotsFor) mixed tab_ok (es := es_spec_BallotsFor N) ⟨sd_spec_Waiting N, trivial⟩ (fn := Try.f24) (body := body_spec_BallotsFor) (by kernel_rfl) (by kernel_rfl) (by kernel_rfl) (by kernel_rfl) (by kernel_rfl) (Lf := L_spec_BallotsFor N) (L0_spec_BallotsFor N) ls_spec_BallotsFor (round_cons (key := 4) (ks := ks_spec_BallotsFor_l4) (by kernel_rfl) (by kernel_rfl) (rd_spec_BallotsFor_4 N) trivial) (N := N) (by kernel_rfl) (fn_spec_BallotsFor N)
/-! impl_BallotsFor -/
noncomputable def ks_impl_BallotsFor_l3 : List Kd := [dK, .v (.sl (.int .i64)) .k, dK, dK, dK, .v (.sl tQIIIIE) (.o 98 none .k), dK, dK, dK, dK, .v (.sl (.int .i64)) (.o 3 none .k), .v (.int .i64) .k, .v (.int .i64) .k, dK, dK, dK, dK, dK, dK, dK, dK, dK, dK, dK, dK, dK, dK, dK, dK, dK, dK, dK, dK, dK, dK, dK, dK, dK, dK, dK, dK]
noncomputable def ko_impl_BallotsFor_l3_0 : List Kd := [dK, dK, dK, dK, dK, .v (.sl tQIIIIE) (.o 98 none .k), dK, dK, dK, dK, dK, dK, dK, dK, dK, dK, dK, dK, dK, dK, dK, dK, dK, dK, dK, dK, dK, dK, dK, dK, dK, dK, dK, dK, dK, dK, dK, dK, dK, dK, dK]
noncomputable def h_impl_BallotsFor : Hint := { tab, hn := [], loops := [(3, ks_impl_BallotsFor_l3)], outs := [(3, 2, ko_impl_BallotsFor_l3_0)], ords := [(6, (OT.seq [0, 1, 2, 3, 4, 5, 6, 7, 8, 9, 10, 11, 12, 13, 14, 15, 16] .done))] }
noncomputable def sg_impl_BallotsFor : List AK := [.v tQLQIIIIILIELQIILIELQIIELILQIIIELQIIIIEIE .k, .v (.sl (.int .i64)) .k]
noncomputable def F_impl_BallotsFor (N : Nat) (x : AVals sg_impl_BallotsFor) (kf : Ret → Option Ret) : Option Ret := impl_BallotsFor N x.1 x.2.1 (fun r0 => kf ⟨[⟨(.sl tQIIIIE), (.o 98 none .k), r0⟩], []⟩)
noncomputable def run_impl_BallotsFor (N : Nat) := runOf sg_impl_BallotsFor (F_impl_BallotsFor N)
noncomputable def es_impl_BallotsFor (N : Nat) : List Entry := [⟨19, [.val], (run_impl_Waiting N)⟩]
noncomputable def body_impl_BallotsFor : Code := match Try.f26.body with | some c => c | none => .skip
noncomputable def L_impl_BallotsFor (N n : Nat) (key : Nat) (S : St) (K : Ks) : Option Ret := bif Nat.beq key 3 then withVals ks_impl_BallotsFor_l3 S (fun x => impl_BallotsFor_l3 x.1 x.2.2.1 x.2.2.2.1 n (fun z0 => K (.x 0) (shape ko_impl_BallotsFor_l3_0 (z0, ()))) x.2.1 x.2.2.2.2.1) else none
theorem L0_impl_BallotsFor (N key : Nat) (S : St) (K : Ks) : L_impl_BallotsFor N 0 key S K = none := (bif0 (withVals0 fun _ => rfl) rfl)
noncomputable def c_impl_BallotsFor_0 : Code := (loopsIn body_impl_BallotsFor).getD 0 .skip
theorem ls_impl_BallotsFor : loopsIn body_impl_BallotsFor = [c_impl_BallotsFor_0] := by kernel_rfl
theorem rd_impl_BallotsFor_3 (N n : Nat) (x : Vals ks_impl_BallotsFor_l3) (K : Ks) : L_impl_BallotsFor N (n + 1) 3 (shape ks_impl_BallotsFor_l3 x) (h_impl_BallotsFor.onOut 3 K) = peRound h_impl_BallotsFor (Orc.of (es_impl_BallotsFor N)) (mixL (L_impl_BallotsFor N) N n 3) c_impl_BallotsFor_0 (shape ks_impl_BallotsFor_l3 x) (h_impl_BallotsFor.onOut 3 K) := by kernel_rfl
theorem fn_impl_BallotsFor (N : Nat) (x : AVals sg_impl_BallotsFor) (kf : Ret → Option Ret) : F_impl_BallotsFor N x kf = peFunc h_impl_BallotsFor (Orc.of (es_impl_BallotsFor N)) (L_impl_BallotsFor N N) Try.f26 (ashape sg_impl_BallotsFor x) kf := by kernel_rfl
theorem sd_impl_BallotsFor (N : Nat) : Sound Try.prog 26 (run_impl_BallotsFor N) := fun_ok2 (hh := h_impl_BallotsFor) mixed tab_ok (es := es_impl_BallotsFor N) ⟨sd_impl_Waiting N, trivial⟩ (fn := Try.f26) (body := body_impl_BallotsFor) (by kernel_rfl) (by kernel_rfl) (by kernel_rfl) (by kernel_rfl) (by kernel_rfl) (Lf := L_impl_BallotsFor N) (L0_impl_BallotsFor N) ls_impl_BallotsFor (round_cons (key := 3) (ks := ks_impl_BallotsFor_l3) (by kernel_rfl) (by kernel_rfl) (rd_impl_BallotsFor_3 N) trivial) (N := N) (by kernel_rfl) (fn_impl_BallotsFor N)
/-! laws_eqEvent -/
noncomputable def h_laws_eqEvent : Hint := { tab, hn := [], loops := [], outs := [], ords := [] }
noncomputable def sg_laws_eqEvent : List AK := [.v tQIIIIE .k, .v tQIIIIE .k]
noncomputable def F_laws_eqEvent (N : Nat) (x : AVals sg_laws_eqEvent) (kf : Ret → Option Ret) : Option Ret := laws_eqEvent N x.1 x.2.1 (fun r0 => kf ⟨[⟨.bool, .k, r0⟩], []⟩)
noncomputable def run_laws_eqEvent (N : Nat) := runOf sg_laws_eqEvent (F_laws_eqEvent N)
noncomputable def es_laws_eqEvent (N : Nat) : List Entry := []
noncomputable def body_laws_eqEvent : Code := match Try.f79.body with | some c => c | none => .skip
noncomputable def L_laws_eqEvent (N n : Nat) (key : Nat) (S : St) (K : Ks) : Option Ret := none
theorem L0_laws_eqEvent (N key : Nat) (S : St) (K : Ks) : L_laws_eqEvent N 0 key S K = none := rfl
theorem ls_laws_eqEvent : loopsIn body_laws_eqEvent = [] := by kernel_rfl
theorem fn_laws_eqEvent (N : Nat) (x : AVals sg_laws_eqEvent) (kf : Ret → Option Ret) : F_laws_eqEvent N x kf = peFunc h_laws_eqEvent (Orc.of (es_laws_eqEvent N)) (L_laws_eqEvent N N) Try.f79 (ashape sg_laws_eqEvent x) kf := by kernel_rfl
theorem sd_laws_eqEvent (N : Nat) : Sound Try.prog 79 (run_laws_eqEvent N) := fun_ok2 (hh := h_laws_eqEvent) mixed tab_ok (es := es_laws_eqEvent N) trivial (fn := Try.f79) (body := body_laws_eqEvent) (by kernel_rfl) (by kernel_rfl) (by kernel_rfl) (by kernel_rfl) (by kernel_rfl) (Lf := L_laws_eqEvent N) (L0_laws_eqEvent N) ls_laws_eqEvent trivial (N := N) (by kernel_rfl) (fn_laws_eqEvent N)
/-! laws_eqEventS -/
noncomputable def ks_laws_eqEventS_l4 : List Kd := [.v (.sl tQIIIIE) .k, .v (.sl tQIIIIE) .k, dK, dK, dK, .v (.int .i64) .k, dK, dK, dK, dK, dK, dK, dK, dK, dK, dK, dK, dK, dK, dK, dK, dK, dK, dK, dK, dK, dK]
noncomputable def ko_laws_eqEventS_l4_0 : List Kd := [dK, dK, dK, dK, dK, dK, dK, dK, dK, dK, dK, dK, dK, dK, dK, dK, dK, dK, dK, dK, dK, dK, dK, dK, dK, dK, dK]
noncomputable def ko_laws_eqEventS_l4_1 : List Kd := [dK, dK, dK, dK, .v .bool .k, dK, dK, dK, dK, dK, dK, dK, dK, dK, dK, dK, dK, dK, dK, dK, dK, dK, dK, dK, dK, dK, dK]
noncomputable def h_laws_eqEventS : Hint := { tab, hn := [], loops := [(4, ks_laws_eqEventS_l4)], outs := [(4, 2, ko_laws_eqEventS_l4_0), (4, 1, ko_laws_eqEventS_l4_1)], ords := [(6, (OT.seq [0, 1, 2, 3, 4, 5, 6, 7, 8, 9] .done))] }
noncomputable def sg_laws_eqEventS : List AK := [.v (.sl tQIIIIE) .k, .v (.sl tQIIIIE) .k]
noncomputable def F_laws_eqEventS (N : Nat) (x : AVals sg_laws_eqEventS) (kf : Ret → Option Ret) : Option Ret := laws_eqEventS N x.1 x.2.1 (fun r0 => kf ⟨[⟨.bool, .k, r0⟩], []⟩)
noncomputable def run_laws_eqEventS (N : Nat) := runOf sg_laws_eqEventS (F_laws_eqEventS N)
noncomputable def es_laws_eqEventS (N : Nat) : List Entry := [⟨79, [.val, .val], (run_laws_eqEvent N)⟩]
noncomputable def body_laws_eqEventS : Code := match Try.f27.body with | some c => c | none => .skip
noncomputable def L_laws_eqEventS (N n : Nat) (key : Nat) (S : St) (K : Ks) : Option Ret := bif Nat.beq key 4 then withVals ks_laws_eqEventS_l4 S (fun x => laws_eqEventS_l4 N x.1 x.2.1 n (K (.x 0) (shape ko_laws_eqEventS_l4_0 ())) (fun z0 => K .r (shape ko_laws_eqEventS_l4_1 (z0, ()))) x.2.2.1) else none
theorem L0_laws_eqEventS (N key : Nat) (S : St) (K : Ks) : L_laws_eqEventS N 0 key S K = none := (bif0 (withVals0 fun _ => rfl) rfl)
noncomputable def c_laws_eqEventS_0 : Code := (loopsIn body_laws_eqEventS).getD 0 .skip
theorem ls_laws_eqEventS : loopsIn body_laws_eqEventS = [c_laws_eqEventS_0] := by kernel_rfl
theorem rd_laws_eqEventS_4 (N n : Nat) (x : Vals ks_laws_eqEventS_l4) (K : Ks) : L_laws_eqEventS N (n + 1) 4 (shape ks_laws_eqEventS_l4 x) (h_laws_eqEventS.onOut 4 K) = peRound h_laws_eqEventS (Orc.of (es_laws_eqEventS N)) (mixL (L_laws_eqEventS N) N n 4) c_laws_eqEventS_0 (shape ks_laws_eqEventS_l4 x) (h_laws_eqEventS.onOut 4 K) := by kernel_rfl
theorem fn_laws_eqEventS (N : Nat) (x : AVals sg_laws_eqEventS) (kf : Ret → Option Ret) : F_laws_eqEventS N x kf = peFunc h_laws_eqEventS (Orc.of (es_laws_eqEventS N)) (L_laws_eqEventS N N) Try.f27 (ashape sg_laws_eqEventS x) kf := by kernel_rfl
theorem sd_laws_eqEventS (N : Nat) : Sound Try.prog 27 (run_laws_eqEventS N) := fun_ok2 (hh := h_laws_eqEventS) mixed tab_ok (es := es_laws_eqEventS N) ⟨sd_laws_eqEvent N, trivial⟩ (fn := Try.f27) (body := body_laws_eqEventS) (by kernel_rfl) (by kernel_rfl) (by kernel_rfl) (by kernel_rfl) (by kernel_rfl) (Lf := L_laws_eqEventS N) (L0_laws_eqEventS N) ls_laws_eqEventS (round_cons (key := 4) (ks := ks_laws_eqEventS_l4) (by kernel_rfl) (by kernel_rfl) (rd_laws_eqEventS_4 N) trivial) (N := N) (by kernel_rfl) (fn_laws_eqEventS N)
/-! laws_markEventS -/
noncomputable def ks_laws_markEventS_l2 : List Kd := [.v (.sl tQIIIIE) (.o 98 (some 0) .k), .v (.int .i64) .k, dK, dK, dK, .v (.int .i64) .k, dK, dK, dK, dK, dK, dK, dK, dK, dK, dK, dK, dK, dK, dK, dK, dK, dK, dK, dK, dK, dK, dK, dK, dK, dK, dK, dK, dK, dK, dK, dK, dK, dK, dK, dK]
noncomputable def ko_laws_markEventS_l2_0 : List Kd := [.v (.sl tQIIIIE) (.o 98 (some 0) .k), .v (.int .i64) .k, dK, dK, dK, dK, dK, dK, dK, dK, dK, dK, dK, dK, dK, dK, dK, dK, dK, dK, dK, dK, dK, dK, dK, dK, dK, dK, dK, dK, dK, dK, dK, dK, dK, dK, dK, dK, dK, dK, dK]
noncomputable def h_laws_markEventS : Hint := { tab, hn := [], loops := [(2, ks_laws_markEventS_l2)], outs := [(2, 2, ko_laws_markEventS_l2_0)], ords := [], lent := some (0, false) }
noncomputable def sg_laws_markEventS : List AK := [.v (.sl tQIIIIE) (.o 98 (some 0) .k), .v (.int .i64) .k]
noncomputable def F_laws_markEventS (N : Nat) (x : AVals sg_laws_markEventS) (kf : Ret → Option Ret) : Option Ret := laws_markEventS N x.1 x.2.1 (fun r0 z => kf ⟨[⟨(.int .i64), .k, r0⟩], [⟨(.sl tQIIIIE), (.o 98 (some 0) .k), z⟩]⟩)
noncomputable def run_laws_markEventS (N : Nat) := runOf sg_laws_markEventS (F_laws_markEventS N)
noncomputable def es_laws_markEventS (N : Nat) : List Entry := []
noncomputable def body_laws_markEventS : Code := match Try.f28.body with | some c => c | none => .skip
noncomputable def L_laws_markEventS (N n : Nat) (key : Nat) (S : St) (K : Ks) : Option Ret := bif Nat.beq key 2 then withVals ks_laws_markEventS_l2 S (fun x => laws_markEventS_l2 n (fun z0 z1 => K (.x 0) (shape ko_laws_markEventS_l2_0 (z0, z1, ()))) x.1 x.2.1 x.2.2.1) else none
theorem L0_laws_markEventS (N key : Nat) (S : St) (K : Ks) : L_laws_markEventS N 0 key S K = none := (bif0 (withVals0 fun _ => rfl) rfl)
noncomputable def c_laws_markEventS_0 : Code := (loopsIn body_laws_markEventS).getD 0 .skip
theorem ls_laws_markEventS : loopsIn body_laws_markEventS = [c_laws_markEventS_0] := by kernel_rfl
theorem rd_laws_markEventS_2 (N n : Nat) (x : Vals ks_laws_markEventS_l2) (K : Ks) : L_laws_markEventS N (n + 1) 2 (shape ks_laws_markEventS_l2 x) (h_laws_markEventS.onOut 2 K) = peRound h_laws_markEventS (Orc.of (es_laws_markEventS N)) (mixL (L_laws_markEventS N) N n 2) c_laws_markEventS_0 (shape ks_laws_markEventS_l2 x) (h_laws_markEventS.onOut 2 K) := by kernel_rfl
theorem fn_laws_markEventS (N : Nat) (x : AVals sg_laws_markEventS) (kf : Ret → Option Ret) : F_laws_markEventS N x kf = peFunc h_laws_markEventS (Orc.of (es_laws_markEventS N)) (L_laws_markEventS N N) Try.f28 (ashape sg_laws_markEventS x) kf := by kernel_rfl
theorem sd_laws_markEventS (N : Nat) : Sound Try.prog 28 (run_laws_markEventS N) := fun_ok2 (hh := h_laws_markEventS) mixed tab_ok (es := es_laws_markEventS N) trivial (fn := Try.f28) (body := body_laws_markEventS) (by kernel_rfl) (by kernel_rfl) (by kernel_rfl) (by kernel_rfl) (by kernel_rfl) (Lf := L_laws_markEventS N) (L0_laws_markEventS N) ls_laws_markEventS (round_cons (key := 2) (ks := ks_laws_markEventS_l2) (by kernel_rfl) (by kernel_rfl) (rd_laws_markEventS_2 N) trivial) (N := N) (by kernel_rfl) (fn_laws_markEventS N)
/-! laws_heldEventS -/
noncomputable def ks_laws_heldEventS_l2 : List Kd := [.v (.sl tQIIIIE) .k, .v (.int .i64) .k, dK, dK, dK, .v (.int .i64) .k, dK, dK, dK, dK, dK, dK, dK, dK, dK, dK, dK, dK, dK, dK, dK, dK, dK, dK, dK, dK, dK, dK, dK, dK, dK, dK, dK, dK, dK, dK, dK, dK, dK, dK, dK, dK, dK, dK, dK, dK, dK, dK, dK]
noncomputable def ko_laws_heldEventS_l2_0 : List Kd := [dK, .v (.int .i64) .k, dK, dK, dK, dK, dK, dK, dK, dK, dK, dK, dK, dK, dK, dK, dK, dK, dK, dK, dK, dK, dK, dK, dK, dK, dK, dK, dK, dK, dK, dK, dK, dK, dK, dK, dK, dK, dK, dK, dK, dK, dK, dK, dK, dK, dK, dK, dK]
noncomputable def ko_laws_heldEventS_l2_1 : List Kd := [dK, dK, dK, dK, .v (.int .i64) .k, dK, dK, dK, dK, dK, dK, dK, dK, dK, dK, dK, dK, dK, dK, dK, dK, dK, dK, dK, dK, dK, dK, dK, dK, dK, dK, dK, dK, dK, dK, dK, dK, dK, dK, dK, dK, dK, dK, dK, dK, dK, dK, dK, dK]
noncomputable def h_laws_heldEventS : Hint := { tab, hn := [], loops := [(2, ks_laws_heldEventS_l2)], outs := [(2, 2, ko_laws_heldEventS_l2_0), (2, 1, ko_laws_heldEventS_l2_1)], ords := [] }
noncomputable def sg_laws_heldEventS : List AK := [.v (.sl tQIIIIE) .k, .v (.int .i64) .k]
noncomputable def F_laws_heldEventS (N : Nat) (x : AVals sg_laws_heldEventS) (kf : Ret → Option Ret) : Option Ret := laws_heldEventS N x.1 x.2.1 (fun r0 => kf ⟨[⟨(.int .i64), .k, r0⟩], []⟩)
noncomputable def run_laws_heldEventS (N : Nat) := runOf sg_laws_heldEventS (F_laws_heldEventS N)
noncomputable def es_laws_heldEventS (N : Nat) : List Entry := []
noncomputable def body_laws_heldEventS : Code := match Try.f29.body with | some c => c | none => .skip
noncomputable def L_laws_heldEventS (N n : Nat) (key : Nat) (S : St) (K : Ks) : Option Ret := bif Nat.beq key 2 then withVals ks_laws_heldEventS_l2 S (fun x => laws_heldEventS_l2 x.1 n (fun z0 => K (.x 0) (shape ko_laws_heldEventS_l2_0 (z0, ()))) (fun z0 => K .r (shape ko_laws_heldEventS_l2_1 (z0, ()))) x.2.1 x.2.2.1) else none
theorem L0_laws_heldEventS (N key : Nat) (S : St) (K : Ks) : L_laws_heldEventS N 0 key S K = none := (bif0 (withVals0 fun _ => rfl) rfl)
noncomputable def c_laws_heldEventS_0 : Code := (loopsIn body_laws_heldEventS).getD 0 .skip
theorem ls_laws_heldEventS : loopsIn body_laws_heldEventS = [c_laws_heldEventS_0] := by kernel_rfl
theorem rd_laws_heldEventS_2 (N n : Nat) (x : Vals ks_laws_heldEventS_l2) (K : Ks) : L_laws_heldEventS N (n + 1) 2 (shape ks_laws_heldEventS_l2 x) (h_laws_heldEventS.onOut 2 K) = peRound h_laws_heldEventS (Orc.of (es_laws_heldEventS N)) (mixL (L_laws_heldEventS N) N n 2) c_laws_heldEventS_0 (shape ks_laws_heldEventS_l2 x) (h_laws_heldEventS.onOut 2 K) := by kernel_rfl
theorem fn_laws_heldEventS (N : Nat) (x : AVals sg_laws_heldEventS) (kf : Ret → Option Ret) : F_laws_heldEventS N x kf = peFunc h_laws_heldEventS (Orc.of (es_laws_heldEventS N)) (L_laws_heldEventS N N) Try.f29 (ashape sg_laws_heldEventS x) kf := by kernel_rfl
theorem sd_laws_heldEventS (N : Nat) : Sound Try.prog 29 (run_laws_heldEventS N) := fun_ok2 (hh := h_laws_heldEventS) mixed tab_ok (es := es_laws_heldEventS N) trivial (fn := Try.f29) (body := body_laws_heldEventS) (by kernel_rfl) (by kernel_rfl) (by kernel_rfl) (by kernel_rfl) (by kernel_rfl) (Lf := L_laws_heldEventS N) (L0_laws_heldEventS N) ls_laws_heldEventS (round_cons (key := 2) (ks := ks_laws_heldEventS_l2) (by kernel_rfl) (by kernel_rfl) (rd_laws_heldEventS_2 N) trivial) (N := N) (by kernel_rfl) (fn_laws_heldEventS N)
end Go.Pv.R
