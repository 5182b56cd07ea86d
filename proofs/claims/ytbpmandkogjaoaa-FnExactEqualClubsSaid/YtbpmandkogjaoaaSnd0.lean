/- Each function of the program that the law reaches computes its plain function, part 0. -/
import Derived.Test.YtbpmandkogjaoaaPlRes
import Derived.Test.YtbpmandkogjaoaaProg
namespace Go.Pv.R
open Go.Proofs
set_option linter.unusedVariables false
set_option maxRecDepth 100000
noncomputable abbrev dK : Kd := .dead
noncomputable def tab : Tab := [⟨2, (.int .i64), 0, []⟩, ⟨3, (.int .i64), 0, []⟩, ⟨4, .bool, 0, []⟩, ⟨5, (.int .u8), 0, []⟩, ⟨9, .str, 0, []⟩, ⟨12, (.int .u64), 0, []⟩, ⟨21, (.int .i32), 0, []⟩, ⟨22, (.sl (.int .i64)), 3, []⟩, ⟨28, (.sl tQIIIIILIE), 92, []⟩, ⟨29, (.sl tQIILIE), 94, []⟩, ⟨30, (.sl tQIIE), 98, []⟩, ⟨31, (.sl tQIIIE), 100, []⟩, ⟨32, (.sl tQIIIIE), 102, []⟩, ⟨33, tQLQIIIIILIELQIILIELQIIELILQIIIELQIIIIEIE, 0, [28, 29, 30, 22, 31, 32, 3]⟩, ⟨34, tQLQIIIIILIELQIILIELQIIELILQIIIELQIIIIEIE, 0, [28, 29, 30, 22, 31, 32, 3]⟩, ⟨37, (.sl tQIIIIILIE), 70, []⟩, ⟨38, (.sl tQIILIE), 75, []⟩, ⟨39, (.sl tQIIE), 77, []⟩, ⟨40, (.sl tQIIIE), 83, []⟩, ⟨41, (.sl tQIIIIE), 85, []⟩, ⟨42, tQLQIIIIILIELQIILIELQIIELILQIIIELQIIIIEIE, 0, [37, 38, 39, 22, 40, 41, 3]⟩, ⟨43, tQLQIIIIILIELQIILIELQIIELILQIIIELQIIIIEIE, 0, [37, 38, 39, 22, 40, 41, 3]⟩, ⟨69, tQIIIIILIE, 0, [3, 3, 3, 3, 3, 22]⟩, ⟨70, tQIIIIILIE, 0, [3, 3, 3, 3, 3, 22]⟩, ⟨74, tQIILIE, 0, [3, 3, 22]⟩, ⟨75, tQIILIE, 0, [3, 3, 22]⟩, ⟨76, tQIIE, 0, [3, 3]⟩, ⟨77, tQIIE, 0, [3, 3]⟩, ⟨82, tQIIIE, 0, [3, 3, 3]⟩, ⟨83, tQIIIE, 0, [3, 3, 3]⟩, ⟨84, tQIIIIE, 0, [3, 3, 3, 3]⟩, ⟨85, tQIIIIE, 0, [3, 3, 3, 3]⟩, ⟨88, (.sl .str), 9, []⟩, ⟨92, tQIIIIILIE, 0, [3, 3, 3, 3, 3, 22]⟩, ⟨94, tQIILIE, 0, [3, 3, 22]⟩, ⟨98, tQIIE, 0, [3, 3]⟩, ⟨100, tQIIIE, 0, [3, 3, 3]⟩, ⟨102, tQIIIIE, 0, [3, 3, 3, 3]⟩, ⟨110, (.sl (.sl (.int .i64))), 22, []⟩, ⟨112, (.int .u64), 0, []⟩, ⟨117, (.sl (.int .u64)), 112, []⟩, ⟨126, (.int .u32), 0, []⟩]
theorem mixed : Try.prog.follows .mixedOrders = true := by kernel_rfl
theorem tab_ok : tabB Try.prog tab = true := by kernel_rfl
/-! laws_szIntS -/
noncomputable def h_laws_szIntS : Hint := { tab, hn := [], loops := [], outs := [], ords := [] }
noncomputable def sg_laws_szIntS : List AK := [.v (.sl (.int .i64)) .k, .v (.int .i64) .k]
noncomputable def F_laws_szIntS (N : Nat) (x : AVals sg_laws_szIntS) (kf : Ret → Option Ret) : Option Ret := laws_szIntS N x.1 x.2.1 (fun r0 => kf ⟨[⟨(.int .i64), .k, r0⟩], []⟩)
noncomputable def run_laws_szIntS (N : Nat) := runOf sg_laws_szIntS (F_laws_szIntS N)
noncomputable def es_laws_szIntS (N : Nat) : List Entry := []
noncomputable def body_laws_szIntS : Code := match Try.f34.body with | some c => c | none => .skip
noncomputable def L_laws_szIntS (N n : Nat) (key : Nat) (S : St) (K : Ks) : Option Ret := none
theorem L0_laws_szIntS (N key : Nat) (S : St) (K : Ks) : L_laws_szIntS N 0 key S K = none := rfl
theorem ls_laws_szIntS : loopsIn body_laws_szIntS = [] := by kernel_rfl
theorem fn_laws_szIntS (N : Nat) (x : AVals sg_laws_szIntS) (kf : Ret → Option Ret) : F_laws_szIntS N x kf = peFunc h_laws_szIntS (Orc.of (es_laws_szIntS N)) (L_laws_szIntS N N) Try.f34 (ashape sg_laws_szIntS x) kf := by kernel_rfl
theorem sd_laws_szIntS (N : Nat) : Sound Try.prog 34 (run_laws_szIntS N) := fun_ok2 (hh := h_laws_szIntS) mixed tab_ok (es := es_laws_szIntS N) trivial (fn := Try.f34) (body := body_laws_szIntS) (by kernel_rfl) (by kernel_rfl) (by kernel_rfl) (by kernel_rfl) (by kernel_rfl) (Lf := L_laws_szIntS N) (L0_laws_szIntS N) ls_laws_szIntS trivial (N := N) (by kernel_rfl) (fn_laws_szIntS N)
/-! laws_szTeam -/
noncomputable def h_laws_szTeam : Hint := { tab, hn := [], loops := [], outs := [], ords := [] }
noncomputable def sg_laws_szTeam : List AK := [.v tQIIIIILIE .k, .v (.int .i64) .k]
noncomputable def F_laws_szTeam (N : Nat) (x : AVals sg_laws_szTeam) (kf : Ret → Option Ret) : Option Ret := laws_szTeam N x.1 x.2.1 (fun r0 => kf ⟨[⟨(.int .i64), .k, r0⟩], []⟩)
noncomputable def run_laws_szTeam (N : Nat) := runOf sg_laws_szTeam (F_laws_szTeam N)
noncomputable def es_laws_szTeam (N : Nat) : List Entry := [⟨34, [.val, .val], (run_laws_szIntS N)⟩]
noncomputable def body_laws_szTeam : Code := match Try.f72.body with | some c => c | none => .skip
noncomputable def L_laws_szTeam (N n : Nat) (key : Nat) (S : St) (K : Ks) : Option Ret := none
theorem L0_laws_szTeam (N key : Nat) (S : St) (K : Ks) : L_laws_szTeam N 0 key S K = none := rfl
theorem ls_laws_szTeam : loopsIn body_laws_szTeam = [] := by kernel_rfl
theorem fn_laws_szTeam (N : Nat) (x : AVals sg_laws_szTeam) (kf : Ret → Option Ret) : F_laws_szTeam N x kf = peFunc h_laws_szTeam (Orc.of (es_laws_szTeam N)) (L_laws_szTeam N N) Try.f72 (ashape sg_laws_szTeam x) kf := by kernel_rfl
theorem sd_laws_szTeam (N : Nat) : Sound Try.prog 72 (run_laws_szTeam N) := fun_ok2 (hh := h_laws_szTeam) mixed tab_ok (es := es_laws_szTeam N) ⟨sd_laws_szIntS N, trivial⟩ (fn := Try.f72) (body := body_laws_szTeam) (by kernel_rfl) (by kernel_rfl) (by kernel_rfl) (by kernel_rfl) (by kernel_rfl) (Lf := L_laws_szTeam N) (L0_laws_szTeam N) ls_laws_szTeam trivial (N := N) (by kernel_rfl) (fn_laws_szTeam N)
/-! laws_szTeamS -/
noncomputable def ks_laws_szTeamS_l5 : List Kd := [.v (.sl tQIIIIILIE) .k, .v (.int .i64) .k, dK, dK, dK, .v (.int .i64) .k, dK, dK, dK, dK, dK, dK, dK, dK, dK, dK, dK, dK, dK, dK, dK, dK, dK, dK, dK, dK, dK]
noncomputable def ko_laws_szTeamS_l5_0 : List Kd := [dK, .v (.int .i64) .k, dK, dK, dK, dK, dK, dK, dK, dK, dK, dK, dK, dK, dK, dK, dK, dK, dK, dK, dK, dK, dK, dK, dK, dK, dK]
noncomputable def ko_laws_szTeamS_l5_1 : List Kd := [dK, dK, dK, dK, .v (.int .i64) .k, dK, dK, dK, dK, dK, dK, dK, dK, dK, dK, dK, dK, dK, dK, dK, dK, dK, dK, dK, dK, dK, dK]
noncomputable def h_laws_szTeamS : Hint := { tab, hn := [], loops := [(5, ks_laws_szTeamS_l5)], outs := [(5, 2, ko_laws_szTeamS_l5_0), (5, 1, ko_laws_szTeamS_l5_1)], ords := [] }
noncomputable def sg_laws_szTeamS : List AK := [.v (.sl tQIIIIILIE) .k, .v (.int .i64) .k]
noncomputable def F_laws_szTeamS (N : Nat) (x : AVals sg_laws_szTeamS) (kf : Ret → Option Ret) : Option Ret := laws_szTeamS N x.1 x.2.1 (fun r0 => kf ⟨[⟨(.int .i64), .k, r0⟩], []⟩)
noncomputable def run_laws_szTeamS (N : Nat) := runOf sg_laws_szTeamS (F_laws_szTeamS N)
noncomputable def es_laws_szTeamS (N : Nat) : List Entry := [⟨72, [.val, .val], (run_laws_szTeam N)⟩]
noncomputable def body_laws_szTeamS : Code := match Try.f31.body with | some c => c | none => .skip
noncomputable def L_laws_szTeamS (N n : Nat) (key : Nat) (S : St) (K : Ks) : Option Ret := bif Nat.beq key 5 then withVals ks_laws_szTeamS_l5 S (fun x => laws_szTeamS_l5 N x.1 n (fun z0 => K (.x 0) (shape ko_laws_szTeamS_l5_0 (z0, ()))) (fun z0 => K .r (shape ko_laws_szTeamS_l5_1 (z0, ()))) x.2.1 x.2.2.1) else none
theorem L0_laws_szTeamS (N key : Nat) (S : St) (K : Ks) : L_laws_szTeamS N 0 key S K = none := (bif0 (withVals0 fun _ => rfl) rfl)
noncomputable def c_laws_szTeamS_0 : Code := (loopsIn body_laws_szTeamS).getD 0 .skip
theorem ls_laws_szTeamS : loopsIn body_laws_szTeamS = [c_laws_szTeamS_0] := by kernel_rfl
theorem rd_laws_szTeamS_5 (N n : Nat) (x : Vals ks_laws_szTeamS_l5) (K : Ks) : L_laws_szTeamS N (n + 1) 5 (shape ks_laws_szTeamS_l5 x) (h_laws_szTeamS.onOut 5 K) = peRound h_laws_szTeamS (Orc.of (es_laws_szTeamS N)) (mixL (L_laws_szTeamS N) N n 5) c_laws_szTeamS_0 (shape ks_laws_szTeamS_l5 x) (h_laws_szTeamS.onOut 5 K) := by kernel_rfl
theorem fn_laws_szTeamS (N : Nat) (x : AVals sg_laws_szTeamS) (kf : Ret → Option Ret) : F_laws_szTeamS N x kf = peFunc h_laws_szTeamS (Orc.of (es_laws_szTeamS N)) (L_laws_szTeamS N N) Try.f31 (ashape sg_laws_szTeamS x) kf := by kernel_rfl
theorem sd_laws_szTeamS (N : Nat) : Sound Try.prog 31 (run_laws_szTeamS N) := fun_ok2 (hh := h_laws_szTeamS) mixed tab_ok (es := es_laws_szTeamS N) ⟨sd_laws_szTeam N, trivial⟩ (fn := Try.f31) (body := body_laws_szTeamS) (by kernel_rfl) (by kernel_rfl) (by kernel_rfl) (by kernel_rfl) (by kernel_rfl) (Lf := L_laws_szTeamS N) (L0_laws_szTeamS N) ls_laws_szTeamS (round_cons (key := 5) (ks := ks_laws_szTeamS_l5) (by kernel_rfl) (by kernel_rfl) (rd_laws_szTeamS_5 N) trivial) (N := N) (by kernel_rfl) (fn_laws_szTeamS N)
/-! laws_szJudge -/
noncomputable def h_laws_szJudge : Hint := { tab, hn := [], loops := [], outs := [], ords := [] }
noncomputable def sg_laws_szJudge : List AK := [.v tQIILIE .k, .v (.int .i64) .k]
noncomputable def F_laws_szJudge (N : Nat) (x : AVals sg_laws_szJudge) (kf : Ret → Option Ret) : Option Ret := laws_szJudge N x.1 x.2.1 (fun r0 => kf ⟨[⟨(.int .i64), .k, r0⟩], []⟩)
noncomputable def run_laws_szJudge (N : Nat) := runOf sg_laws_szJudge (F_laws_szJudge N)
noncomputable def es_laws_szJudge (N : Nat) : List Entry := [⟨34, [.val, .val], (run_laws_szIntS N)⟩]
noncomputable def body_laws_szJudge : Code := match Try.f73.body with | some c => c | none => .skip
noncomputable def L_laws_szJudge (N n : Nat) (key : Nat) (S : St) (K : Ks) : Option Ret := none
theorem L0_laws_szJudge (N key : Nat) (S : St) (K : Ks) : L_laws_szJudge N 0 key S K = none := rfl
theorem ls_laws_szJudge : loopsIn body_laws_szJudge = [] := by kernel_rfl
theorem fn_laws_szJudge (N : Nat) (x : AVals sg_laws_szJudge) (kf : Ret → Option Ret) : F_laws_szJudge N x kf = peFunc h_laws_szJudge (Orc.of (es_laws_szJudge N)) (L_laws_szJudge N N) Try.f73 (ashape sg_laws_szJudge x) kf := by kernel_rfl
theorem sd_laws_szJudge (N : Nat) : Sound Try.prog 73 (run_laws_szJudge N) := fun_ok2 (hh := h_laws_szJudge) mixed tab_ok (es := es_laws_szJudge N) ⟨sd_laws_szIntS N, trivial⟩ (fn := Try.f73) (body := body_laws_szJudge) (by kernel_rfl) (by kernel_rfl) (by kernel_rfl) (by kernel_rfl) (by kernel_rfl) (Lf := L_laws_szJudge N) (L0_laws_szJudge N) ls_laws_szJudge trivial (N := N) (by kernel_rfl) (fn_laws_szJudge N)
/-! laws_szJudgeS -/
noncomputable def ks_laws_szJudgeS_l5 : List Kd := [.v (.sl tQIILIE) .k, .v (.int .i64) .k, dK, dK, dK, .v (.int .i64) .k, dK, dK, dK, dK, dK, dK, dK, dK, dK, dK, dK, dK, dK, dK, dK, dK, dK, dK, dK, dK, dK]
noncomputable def ko_laws_szJudgeS_l5_0 : List Kd := [dK, .v (.int .i64) .k, dK, dK, dK, dK, dK, dK, dK, dK, dK, dK, dK, dK, dK, dK, dK, dK, dK, dK, dK, dK, dK, dK, dK, dK, dK]
noncomputable def ko_laws_szJudgeS_l5_1 : List Kd := [dK, dK, dK, dK, .v (.int .i64) .k, dK, dK, dK, dK, dK, dK, dK, dK, dK, dK, dK, dK, dK, dK, dK, dK, dK, dK, dK, dK, dK, dK]
noncomputable def h_laws_szJudgeS : Hint := { tab, hn := [], loops := [(5, ks_laws_szJudgeS_l5)], outs := [(5, 2, ko_laws_szJudgeS_l5_0), (5, 1, ko_laws_szJudgeS_l5_1)], ords := [] }
noncomputable def sg_laws_szJudgeS : List AK := [.v (.sl tQIILIE) .k, .v (.int .i64) .k]
noncomputable def F_laws_szJudgeS (N : Nat) (x : AVals sg_laws_szJudgeS) (kf : Ret → Option Ret) : Option Ret := laws_szJudgeS N x.1 x.2.1 (fun r0 => kf ⟨[⟨(.int .i64), .k, r0⟩], []⟩)
noncomputable def run_laws_szJudgeS (N : Nat) := runOf sg_laws_szJudgeS (F_laws_szJudgeS N)
noncomputable def es_laws_szJudgeS (N : Nat) : List Entry := [⟨73, [.val, .val], (run_laws_szJudge N)⟩]
noncomputable def body_laws_szJudgeS : Code := match Try.f32.body with | some c => c | none => .skip
noncomputable def L_laws_szJudgeS (N n : Nat) (key : Nat) (S : St) (K : Ks) : Option Ret := bif Nat.beq key 5 then withVals ks_laws_szJudgeS_l5 S (fun x => laws_szJudgeS_l5 N x.1 n (fun z0 => K (.x 0) (shape ko_laws_szJudgeS_l5_0 (z0, ()))) (fun z0 => K .r (shape ko_laws_szJudgeS_l5_1 (z0, ()))) x.2.1 x.2.2.1) else none
theorem L0_laws_szJudgeS (N key : Nat) (S : St) (K : Ks) : L_laws_szJudgeS N 0 key S K = none := (bif0 (withVals0 fun _ => rfl) rfl)
noncomputable def c_laws_szJudgeS_0 : Code := (loopsIn body_laws_szJudgeS).getD 0 .skip
theorem ls_laws_szJudgeS : loopsIn body_laws_szJudgeS = [c_laws_szJudgeS_0] := by kernel_rfl
theorem rd_laws_szJudgeS_5 (N n : Nat) (x : Vals ks_laws_szJudgeS_l5) (K : Ks) : L_laws_szJudgeS N (n + 1) 5 (shape ks_laws_szJudgeS_l5 x) (h_laws_szJudgeS.onOut 5 K) = peRound h_laws_szJudgeS (Orc.of (es_laws_szJudgeS N)) (mixL (L_laws_szJudgeS N) N n 5) c_laws_szJudgeS_0 (shape ks_laws_szJudgeS_l5 x) (h_laws_szJudgeS.onOut 5 K) := by kernel_rfl
theorem fn_laws_szJudgeS (N : Nat) (x : AVals sg_laws_szJudgeS) (kf : Ret → Option Ret) : F_laws_szJudgeS N x kf = peFunc h_laws_szJudgeS (Orc.of (es_laws_szJudgeS N)) (L_laws_szJudgeS N N) Try.f32 (ashape sg_laws_szJudgeS x) kf := by kernel_rfl
theorem sd_laws_szJudgeS (N : Nat) : Sound Try.prog 32 (run_laws_szJudgeS N) := fun_ok2 (hh := h_laws_szJudgeS) mixed tab_ok (es := es_laws_szJudgeS N) ⟨sd_laws_szJudge N, trivial⟩ (fn := Try.f32) (body := body_laws_szJudgeS) (by kernel_rfl) (by kernel_rfl) (by kernel_rfl) (by kernel_rfl) (by kernel_rfl) (Lf := L_laws_szJudgeS N) (L0_laws_szJudgeS N) ls_laws_szJudgeS (round_cons (key := 5) (ks := ks_laws_szJudgeS_l5) (by kernel_rfl) (by kernel_rfl) (rd_laws_szJudgeS_5 N) trivial) (N := N) (by kernel_rfl) (fn_laws_szJudgeS N)
/-! laws_szPairS -/
noncomputable def h_laws_szPairS : Hint := { tab, hn := [], loops := [], outs := [], ords := [] }
noncomputable def sg_laws_szPairS : List AK := [.v (.sl tQIIE) .k, .v (.int .i64) .k]
noncomputable def F_laws_szPairS (N : Nat) (x : AVals sg_laws_szPairS) (kf : Ret → Option Ret) : Option Ret := laws_szPairS N x.1 x.2.1 (fun r0 => kf ⟨[⟨(.int .i64), .k, r0⟩], []⟩)
noncomputable def run_laws_szPairS (N : Nat) := runOf sg_laws_szPairS (F_laws_szPairS N)
noncomputable def es_laws_szPairS (N : Nat) : List Entry := []
noncomputable def body_laws_szPairS : Code := match Try.f33.body with | some c => c | none => .skip
noncomputable def L_laws_szPairS (N n : Nat) (key : Nat) (S : St) (K : Ks) : Option Ret := none
theorem L0_laws_szPairS (N key : Nat) (S : St) (K : Ks) : L_laws_szPairS N 0 key S K = none := rfl
theorem ls_laws_szPairS : loopsIn body_laws_szPairS = [] := by kernel_rfl
theorem fn_laws_szPairS (N : Nat) (x : AVals sg_laws_szPairS) (kf : Ret → Option Ret) : F_laws_szPairS N x kf = peFunc h_laws_szPairS (Orc.of (es_laws_szPairS N)) (L_laws_szPairS N N) Try.f33 (ashape sg_laws_szPairS x) kf := by kernel_rfl
theorem sd_laws_szPairS (N : Nat) : Sound Try.prog 33 (run_laws_szPairS N) := fun_ok2 (hh := h_laws_szPairS) mixed tab_ok (es := es_laws_szPairS N) trivial (fn := Try.f33) (body := body_laws_szPairS) (by kernel_rfl) (by kernel_rfl) (by kernel_rfl) (by kernel_rfl) (by kernel_rfl) (Lf := L_laws_szPairS N) (L0_laws_szPairS N) ls_laws_szPairS trivial (N := N) (by kernel_rfl) (fn_laws_szPairS N)
/-! laws_szBallotS -/
noncomputable def h_laws_szBallotS : Hint := { tab, hn := [], loops := [], outs := [], ords := [] }
noncomputable def sg_laws_szBallotS : List AK := [.v (.sl tQIIIE) .k, .v (.int .i64) .k]
noncomputable def F_laws_szBallotS (N : Nat) (x : AVals sg_laws_szBallotS) (kf : Ret → Option Ret) : Option Ret := laws_szBallotS N x.1 x.2.1 (fun r0 => kf ⟨[⟨(.int .i64), .k, r0⟩], []⟩)
noncomputable def run_laws_szBallotS (N : Nat) := runOf sg_laws_szBallotS (F_laws_szBallotS N)
noncomputable def es_laws_szBallotS (N : Nat) : List Entry := []
noncomputable def body_laws_szBallotS : Code := match Try.f35.body with | some c => c | none => .skip
noncomputable def L_laws_szBallotS (N n : Nat) (key : Nat) (S : St) (K : Ks) : Option Ret := none
theorem L0_laws_szBallotS (N key : Nat) (S : St) (K : Ks) : L_laws_szBallotS N 0 key S K = none := rfl
theorem ls_laws_szBallotS : loopsIn body_laws_szBallotS = [] := by kernel_rfl
theorem fn_laws_szBallotS (N : Nat) (x : AVals sg_laws_szBallotS) (kf : Ret → Option Ret) : F_laws_szBallotS N x kf = peFunc h_laws_szBallotS (Orc.of (es_laws_szBallotS N)) (L_laws_szBallotS N N) Try.f35 (ashape sg_laws_szBallotS x) kf := by kernel_rfl
theorem sd_laws_szBallotS (N : Nat) : Sound Try.prog 35 (run_laws_szBallotS N) := fun_ok2 (hh := h_laws_szBallotS) mixed tab_ok (es := es_laws_szBallotS N) trivial (fn := Try.f35) (body := body_laws_szBallotS) (by kernel_rfl) (by kernel_rfl) (by kernel_rfl) (by kernel_rfl) (by kernel_rfl) (Lf := L_laws_szBallotS N) (L0_laws_szBallotS N) ls_laws_szBallotS trivial (N := N) (by kernel_rfl) (fn_laws_szBallotS N)
/-! laws_szLineS -/
noncomputable def h_laws_szLineS : Hint := { tab, hn := [], loops := [], outs := [], ords := [] }
noncomputable def sg_laws_szLineS : List AK := [.v (.sl tQIIIIE) .k, .v (.int .i64) .k]
noncomputable def F_laws_szLineS (N : Nat) (x : AVals sg_laws_szLineS) (kf : Ret → Option Ret) : Option Ret := laws_szLineS N x.1 x.2.1 (fun r0 => kf ⟨[⟨(.int .i64), .k, r0⟩], []⟩)
noncomputable def run_laws_szLineS (N : Nat) := runOf sg_laws_szLineS (F_laws_szLineS N)
noncomputable def es_laws_szLineS (N : Nat) : List Entry := []
noncomputable def body_laws_szLineS : Code := match Try.f36.body with | some c => c | none => .skip
noncomputable def L_laws_szLineS (N n : Nat) (key : Nat) (S : St) (K : Ks) : Option Ret := none
theorem L0_laws_szLineS (N key : Nat) (S : St) (K : Ks) : L_laws_szLineS N 0 key S K = none := rfl
theorem ls_laws_szLineS : loopsIn body_laws_szLineS = [] := by kernel_rfl
theorem fn_laws_szLineS (N : Nat) (x : AVals sg_laws_szLineS) (kf : Ret → Option Ret) : F_laws_szLineS N x kf = peFunc h_laws_szLineS (Orc.of (es_laws_szLineS N)) (L_laws_szLineS N N) Try.f36 (ashape sg_laws_szLineS x) kf := by kernel_rfl
theorem sd_laws_szLineS (N : Nat) : Sound Try.prog 36 (run_laws_szLineS N) := fun_ok2 (hh := h_laws_szLineS) mixed tab_ok (es := es_laws_szLineS N) trivial (fn := Try.f36) (body := body_laws_szLineS) (by kernel_rfl) (by kernel_rfl) (by kernel_rfl) (by kernel_rfl) (by kernel_rfl) (Lf := L_laws_szLineS N) (L0_laws_szLineS N) ls_laws_szLineS trivial (N := N) (by kernel_rfl) (fn_laws_szLineS N)
/-! laws_szClub -/
noncomputable def h_laws_szClub : Hint := { tab, hn := [], loops := [], outs := [], ords := [] }
noncomputable def sg_laws_szClub : List AK := [.v tQLQIIIIILIELQIILIELQIIELILQIIIELQIIIIEIE .k, .v (.int .i64) .k]
noncomputable def F_laws_szClub (N : Nat) (x : AVals sg_laws_szClub) (kf : Ret → Option Ret) : Option Ret := laws_szClub N x.1 x.2.1 (fun r0 => kf ⟨[⟨(.int .i64), .k, r0⟩], []⟩)
noncomputable def run_laws_szClub (N : Nat) := runOf sg_laws_szClub (F_laws_szClub N)
noncomputable def es_laws_szClub (N : Nat) : List Entry := [⟨31, [.val, .val], (run_laws_szTeamS N)⟩, ⟨32, [.val, .val], (run_laws_szJudgeS N)⟩, ⟨33, [.val, .val], (run_laws_szPairS N)⟩, ⟨34, [.val, .val], (run_laws_szIntS N)⟩, ⟨35, [.val, .val], (run_laws_szBallotS N)⟩, ⟨36, [.val, .val], (run_laws_szLineS N)⟩]
noncomputable def body_laws_szClub : Code := match Try.f14.body with | some c => c | none => .skip
noncomputable def L_laws_szClub (N n : Nat) (key : Nat) (S : St) (K : Ks) : Option Ret := none
theorem L0_laws_szClub (N key : Nat) (S : St) (K : Ks) : L_laws_szClub N 0 key S K = none := rfl
theorem ls_laws_szClub : loopsIn body_laws_szClub = [] := by kernel_rfl
theorem fn_laws_szClub (N : Nat) (x : AVals sg_laws_szClub) (kf : Ret → Option Ret) : F_laws_szClub N x kf = peFunc h_laws_szClub (Orc.of (es_laws_szClub N)) (L_laws_szClub N N) Try.f14 (ashape sg_laws_szClub x) kf := by kernel_rfl
theorem sd_laws_szClub (N : Nat) : Sound Try.prog 14 (run_laws_szClub N) := fun_ok2 (hh := h_laws_szClub) mixed tab_ok (es := es_laws_szClub N) ⟨sd_laws_szTeamS N, ⟨sd_laws_szJudgeS N, ⟨sd_laws_szPairS N, ⟨sd_laws_szIntS N, ⟨sd_laws_szBallotS N, ⟨sd_laws_szLineS N, trivial⟩⟩⟩⟩⟩⟩ (fn := Try.f14) (body := body_laws_szClub) (by kernel_rfl) (by kernel_rfl) (by kernel_rfl) (by kernel_rfl) (by kernel_rfl) (Lf := L_laws_szClub N) (L0_laws_szClub N) ls_laws_szClub trivial (N := N) (by kernel_rfl) (fn_laws_szClub N)
/-! laws_toIntS -/
noncomputable def ks_laws_toIntS_l3 : List Kd := [.v (.sl (.int .i64)) .k, dK, dK, .v (.sl (.int .i64)) (.o 3 none .k), .v (.int .i64) .k, dK, dK, dK, dK, dK, dK, dK, dK, dK, dK, dK, dK, dK, dK, dK, dK, dK]
noncomputable def ko_laws_toIntS_l3_0 : List Kd := [dK, dK, dK, .v (.sl (.int .i64)) (.o 3 none .k), dK, dK, dK, dK, dK, dK, dK, dK, dK, dK, dK, dK, dK, dK, dK, dK, dK, dK]
noncomputable def h_laws_toIntS : Hint := { tab, hn := [], loops := [(3, ks_laws_toIntS_l3)], outs := [(3, 2, ko_laws_toIntS_l3_0)], ords := [] }
noncomputable def sg_laws_toIntS : List AK := [.v (.sl (.int .i64)) .k]
noncomputable def F_laws_toIntS (N : Nat) (x : AVals sg_laws_toIntS) (kf : Ret → Option Ret) : Option Ret := laws_toIntS N x.1 (fun r0 => kf ⟨[⟨(.sl (.int .i64)), (.o 3 none .k), r0⟩], []⟩)
noncomputable def run_laws_toIntS (N : Nat) := runOf sg_laws_toIntS (F_laws_toIntS N)
noncomputable def es_laws_toIntS (N : Nat) : List Entry := []
noncomputable def body_laws_toIntS : Code := match Try.f40.body with | some c => c | none => .skip
noncomputable def L_laws_toIntS (N n : Nat) (key : Nat) (S : St) (K : Ks) : Option Ret := bif Nat.beq key 3 then withVals ks_laws_toIntS_l3 S (fun x => laws_toIntS_l3 x.1 n (fun z0 => K (.x 0) (shape ko_laws_toIntS_l3_0 (z0, ()))) x.2.1 x.2.2.1) else none
theorem L0_laws_toIntS (N key : Nat) (S : St) (K : Ks) : L_laws_toIntS N 0 key S K = none := (bif0 (withVals0 fun _ => rfl) rfl)
noncomputable def c_laws_toIntS_0 : Code := (loopsIn body_laws_toIntS).getD 0 .skip
theorem ls_laws_toIntS : loopsIn body_laws_toIntS = [c_laws_toIntS_0] := by kernel_rfl
theorem rd_laws_toIntS_3 (N n : Nat) (x : Vals ks_laws_toIntS_l3) (K : Ks) : L_laws_toIntS N (n + 1) 3 (shape ks_laws_toIntS_l3 x) (h_laws_toIntS.onOut 3 K) = peRound h_laws_toIntS (Orc.of (es_laws_toIntS N)) (mixL (L_laws_toIntS N) N n 3) c_laws_toIntS_0 (shape ks_laws_toIntS_l3 x) (h_laws_toIntS.onOut 3 K) := by kernel_rfl
theorem fn_laws_toIntS (N : Nat) (x : AVals sg_laws_toIntS) (kf : Ret → Option Ret) : F_laws_toIntS N x kf = peFunc h_laws_toIntS (Orc.of (es_laws_toIntS N)) (L_laws_toIntS N N) Try.f40 (ashape sg_laws_toIntS x) kf := by kernel_rfl
theorem sd_laws_toIntS (N : Nat) : Sound Try.prog 40 (run_laws_toIntS N) := fun_ok2 (hh := h_laws_toIntS) mixed tab_ok (es := es_laws_toIntS N) trivial (fn := Try.f40) (body := body_laws_toIntS) (by kernel_rfl) (by kernel_rfl) (by kernel_rfl) (by kernel_rfl) (by kernel_rfl) (Lf := L_laws_toIntS N) (L0_laws_toIntS N) ls_laws_toIntS (round_cons (key := 3) (ks := ks_laws_toIntS_l3) (by kernel_rfl) (by kernel_rfl) (rd_laws_toIntS_3 N) trivial) (N := N) (by kernel_rfl) (fn_laws_toIntS N)
/-! laws_toTeam -/
noncomputable def h_laws_toTeam : Hint := { tab, hn := [], loops := [], outs := [], ords := [] }
noncomputable def sg_laws_toTeam : List AK := [.v tQIIIIILIE .k]
noncomputable def F_laws_toTeam (N : Nat) (x : AVals sg_laws_toTeam) (kf : Ret → Option Ret) : Option Ret := laws_toTeam N x.1 (fun r0 => kf ⟨[⟨tQIIIIILIE, (.p .k (.p .k (.p .k (.p .k (.p .k (.o 3 none .k)))))), r0⟩], []⟩)
noncomputable def run_laws_toTeam (N : Nat) := runOf sg_laws_toTeam (F_laws_toTeam N)
noncomputable def es_laws_toTeam (N : Nat) : List Entry := [⟨40, [.val], (run_laws_toIntS N)⟩]
noncomputable def body_laws_toTeam : Code := match Try.f74.body with | some c => c | none => .skip
noncomputable def L_laws_toTeam (N n : Nat) (key : Nat) (S : St) (K : Ks) : Option Ret := none
theorem L0_laws_toTeam (N key : Nat) (S : St) (K : Ks) : L_laws_toTeam N 0 key S K = none := rfl
theorem ls_laws_toTeam : loopsIn body_laws_toTeam = [] := by kernel_rfl
theorem fn_laws_toTeam (N : Nat) (x : AVals sg_laws_toTeam) (kf : Ret → Option Ret) : F_laws_toTeam N x kf = peFunc h_laws_toTeam (Orc.of (es_laws_toTeam N)) (L_laws_toTeam N N) Try.f74 (ashape sg_laws_toTeam x) kf := by kernel_rfl
theorem sd_laws_toTeam (N : Nat) : Sound Try.prog 74 (run_laws_toTeam N) := fun_ok2 (hh := h_laws_toTeam) mixed tab_ok (es := es_laws_toTeam N) ⟨sd_laws_toIntS N, trivial⟩ (fn := Try.f74) (body := body_laws_toTeam) (by kernel_rfl) (by kernel_rfl) (by kernel_rfl) (by kernel_rfl) (by kernel_rfl) (Lf := L_laws_toTeam N) (L0_laws_toTeam N) ls_laws_toTeam trivial (N := N) (by kernel_rfl) (fn_laws_toTeam N)
/-! laws_toTeamS -/
noncomputable def ks_laws_toTeamS_l3 : List Kd := [.v (.sl tQIIIIILIE) .k, dK, dK, .v (.sl tQIIIIILIE) (.o 70 none (.p .k (.p .k (.p .k (.p .k (.p .k (.o 3 none .k))))))), .v (.int .i64) .k, dK, dK, dK, dK, dK, dK, dK, dK, dK, dK, dK, dK, dK, dK, dK, dK, dK, dK]
noncomputable def ko_laws_toTeamS_l3_0 : List Kd := [dK, dK, dK, .v (.sl tQIIIIILIE) (.o 70 none (.p .k (.p .k (.p .k (.p .k (.p .k (.o 3 none .k))))))), dK, dK, dK, dK, dK, dK, dK, dK, dK, dK, dK, dK, dK, dK, dK, dK, dK, dK, dK]
noncomputable def h_laws_toTeamS : Hint := { tab, hn := [], loops := [(3, ks_laws_toTeamS_l3)], outs := [(3, 2, ko_laws_toTeamS_l3_0)], ords := [] }
noncomputable def sg_laws_toTeamS : List AK := [.v (.sl tQIIIIILIE) .k]
noncomputable def F_laws_toTeamS (N : Nat) (x : AVals sg_laws_toTeamS) (kf : Ret → Option Ret) : Option Ret := laws_toTeamS N x.1 (fun r0 => kf ⟨[⟨(.sl tQIIIIILIE), (.o 70 none (.p .k (.p .k (.p .k (.p .k (.p .k (.o 3 none .k))))))), r0⟩], []⟩)
noncomputable def run_laws_toTeamS (N : Nat) := runOf sg_laws_toTeamS (F_laws_toTeamS N)
noncomputable def es_laws_toTeamS (N : Nat) : List Entry := [⟨74, [.val], (run_laws_toTeam N)⟩]
noncomputable def body_laws_toTeamS : Code := match Try.f37.body with | some c => c | none => .skip
noncomputable def L_laws_toTeamS (N n : Nat) (key : Nat) (S : St) (K : Ks) : Option Ret := bif Nat.beq key 3 then withVals ks_laws_toTeamS_l3 S (fun x => laws_toTeamS_l3 N x.1 n (fun z0 => K (.x 0) (shape ko_laws_toTeamS_l3_0 (z0, ()))) x.2.1 x.2.2.1) else none
theorem L0_laws_toTeamS (N key : Nat) (S : St) (K : Ks) : L_laws_toTeamS N 0 key S K = none := (bif0 (withVals0 fun _ => rfl) rfl)
noncomputable def c_laws_toTeamS_0 : Code := (loopsIn body_laws_toTeamS).getD 0 .skip
theorem ls_laws_toTeamS : loopsIn body_laws_toTeamS = [c_laws_toTeamS_0] := by kernel_rfl
theorem rd_laws_toTeamS_3 (N n : Nat) (x : Vals ks_laws_toTeamS_l3) (K : Ks) : L_laws_toTeamS N (n + 1) 3 (shape ks_laws_toTeamS_l3 x) (h_laws_toTeamS.onOut 3 K) = peRound h_laws_toTeamS (Orc.of (es_laws_toTeamS N)) (mixL (L_laws_toTeamS N) N n 3) c_laws_toTeamS_0 (shape ks_laws_toTeamS_l3 x) (h_laws_toTeamS.onOut 3 K) := by kernel_rfl
theorem fn_laws_toTeamS (N : Nat) (x : AVals sg_laws_toTeamS) (kf : Ret → Option Ret) : F_laws_toTeamS N x kf = peFunc h_laws_toTeamS (Orc.of (es_laws_toTeamS N)) (L_laws_toTeamS N N) Try.f37 (ashape sg_laws_toTeamS x) kf := by kernel_rfl
theorem sd_laws_toTeamS (N : Nat) : Sound Try.prog 37 (run_laws_toTeamS N) := fun_ok2 (hh := h_laws_toTeamS) mixed tab_ok (es := es_laws_toTeamS N) ⟨sd_laws_toTeam N, trivial⟩ (fn := Try.f37) (body := body_laws_toTeamS) (by kernel_rfl) (by kernel_rfl) (by kernel_rfl) (by kernel_rfl) (by kernel_rfl) (Lf := L_laws_toTeamS N) (L0_laws_toTeamS N) ls_laws_toTeamS (round_cons (key := 3) (ks := ks_laws_toTeamS_l3) (by kernel_rfl) (by kernel_rfl) (rd_laws_toTeamS_3 N) trivial) (N := N) (by kernel_rfl) (fn_laws_toTeamS N)
/-! laws_toJudge -/
noncomputable def h_laws_toJudge : Hint := { tab, hn := [], loops := [], outs := [], ords := [] }
noncomputable def sg_laws_toJudge : List AK := [.v tQIILIE .k]
noncomputable def F_laws_toJudge (N : Nat) (x : AVals sg_laws_toJudge) (kf : Ret → Option Ret) : Option Ret := laws_toJudge N x.1 (fun r0 => kf ⟨[⟨tQIILIE, (.p .k (.p .k (.o 3 none .k))), r0⟩], []⟩)
noncomputable def run_laws_toJudge (N : Nat) := runOf sg_laws_toJudge (F_laws_toJudge N)
noncomputable def es_laws_toJudge (N : Nat) : List Entry := [⟨40, [.val], (run_laws_toIntS N)⟩]
noncomputable def body_laws_toJudge : Code := match Try.f75.body with | some c => c | none => .skip
noncomputable def L_laws_toJudge (N n : Nat) (key : Nat) (S : St) (K : Ks) : Option Ret := none
theorem L0_laws_toJudge (N key : Nat) (S : St) (K : Ks) : L_laws_toJudge N 0 key S K = none := rfl
theorem ls_laws_toJudge : loopsIn body_laws_toJudge = [] := by kernel_rfl
theorem fn_laws_toJudge (N : Nat) (x : AVals sg_laws_toJudge) (kf : Ret → Option Ret) : F_laws_toJudge N x kf = peFunc h_laws_toJudge (Orc.of (es_laws_toJudge N)) (L_laws_toJudge N N) Try.f75 (ashape sg_laws_toJudge x) kf := by kernel_rfl
theorem sd_laws_toJudge (N : Nat) : Sound Try.prog 75 (run_laws_toJudge N) := fun_ok2 (hh := h_laws_toJudge) mixed tab_ok (es := es_laws_toJudge N) ⟨sd_laws_toIntS N, trivial⟩ (fn := Try.f75) (body := body_laws_toJudge) (by kernel_rfl) (by kernel_rfl) (by kernel_rfl) (by kernel_rfl) (by kernel_rfl) (Lf := L_laws_toJudge N) (L0_laws_toJudge N) ls_laws_toJudge trivial (N := N) (by kernel_rfl) (fn_laws_toJudge N)
/-! laws_toJudgeS -/
noncomputable def ks_laws_toJudgeS_l3 : List Kd := [.v (.sl tQIILIE) .k, dK, dK, .v (.sl tQIILIE) (.o 75 none (.p .k (.p .k (.o 3 none .k)))), .v (.int .i64) .k, dK, dK, dK, dK, dK, dK, dK, dK, dK, dK, dK, dK, dK, dK, dK, dK, dK, dK]
noncomputable def ko_laws_toJudgeS_l3_0 : List Kd := [dK, dK, dK, .v (.sl tQIILIE) (.o 75 none (.p .k (.p .k (.o 3 none .k)))), dK, dK, dK, dK, dK, dK, dK, dK, dK, dK, dK, dK, dK, dK, dK, dK, dK, dK, dK]
noncomputable def h_laws_toJudgeS : Hint := { tab, hn := [], loops := [(3, ks_laws_toJudgeS_l3)], outs := [(3, 2, ko_laws_toJudgeS_l3_0)], ords := [] }
noncomputable def sg_laws_toJudgeS : List AK := [.v (.sl tQIILIE) .k]
noncomputable def F_laws_toJudgeS (N : Nat) (x : AVals sg_laws_toJudgeS) (kf : Ret → Option Ret) : Option Ret := laws_toJudgeS N x.1 (fun r0 => kf ⟨[⟨(.sl tQIILIE), (.o 75 none (.p .k (.p .k (.o 3 none .k)))), r0⟩], []⟩)
noncomputable def run_laws_toJudgeS (N : Nat) := runOf sg_laws_toJudgeS (F_laws_toJudgeS N)
noncomputable def es_laws_toJudgeS (N : Nat) : List Entry := [⟨75, [.val], (run_laws_toJudge N)⟩]
noncomputable def body_laws_toJudgeS : Code := match Try.f38.body with | some c => c | none => .skip
noncomputable def L_laws_toJudgeS (N n : Nat) (key : Nat) (S : St) (K : Ks) : Option Ret := bif Nat.beq key 3 then withVals ks_laws_toJudgeS_l3 S (fun x => laws_toJudgeS_l3 N x.1 n (fun z0 => K (.x 0) (shape ko_laws_toJudgeS_l3_0 (z0, ()))) x.2.1 x.2.2.1) else none
theorem L0_laws_toJudgeS (N key : Nat) (S : St) (K : Ks) : L_laws_toJudgeS N 0 key S K = none := (bif0 (withVals0 fun _ => rfl) rfl)
noncomputable def c_laws_toJudgeS_0 : Code := (loopsIn body_laws_toJudgeS).getD 0 .skip
theorem ls_laws_toJudgeS : loopsIn body_laws_toJudgeS = [c_laws_toJudgeS_0] := by kernel_rfl
theorem rd_laws_toJudgeS_3 (N n : Nat) (x : Vals ks_laws_toJudgeS_l3) (K : Ks) : L_laws_toJudgeS N (n + 1) 3 (shape ks_laws_toJudgeS_l3 x) (h_laws_toJudgeS.onOut 3 K) = peRound h_laws_toJudgeS (Orc.of (es_laws_toJudgeS N)) (mixL (L_laws_toJudgeS N) N n 3) c_laws_toJudgeS_0 (shape ks_laws_toJudgeS_l3 x) (h_laws_toJudgeS.onOut 3 K) := by kernel_rfl
theorem fn_laws_toJudgeS (N : Nat) (x : AVals sg_laws_toJudgeS) (kf : Ret → Option Ret) : F_laws_toJudgeS N x kf = peFunc h_laws_toJudgeS (Orc.of (es_laws_toJudgeS N)) (L_laws_toJudgeS N N) Try.f38 (ashape sg_laws_toJudgeS x) kf := by kernel_rfl
theorem sd_laws_toJudgeS (N : Nat) : Sound Try.prog 38 (run_laws_toJudgeS N) := fun_ok2 (hh := h_laws_toJudgeS) mixed tab_ok (es := es_laws_toJudgeS N) ⟨sd_laws_toJudge N, trivial⟩ (fn := Try.f38) (body := body_laws_toJudgeS) (by kernel_rfl) (by kernel_rfl) (by kernel_rfl) (by kernel_rfl) (by kernel_rfl) (Lf := L_laws_toJudgeS N) (L0_laws_toJudgeS N) ls_laws_toJudgeS (round_cons (key := 3) (ks := ks_laws_toJudgeS_l3) (by kernel_rfl) (by kernel_rfl) (rd_laws_toJudgeS_3 N) trivial) (N := N) (by kernel_rfl) (fn_laws_toJudgeS N)
/-! laws_toPair -/
noncomputable def h_laws_toPair : Hint := { tab, hn := [], loops := [], outs := [], ords := [] }
noncomputable def sg_laws_toPair : List AK := [.v tQIIE .k]
noncomputable def F_laws_toPair (N : Nat) (x : AVals sg_laws_toPair) (kf : Ret → Option Ret) : Option Ret := laws_toPair N x.1 (fun r0 => kf ⟨[⟨tQIIE, .k, r0⟩], []⟩)
noncomputable def run_laws_toPair (N : Nat) := runOf sg_laws_toPair (F_laws_toPair N)
noncomputable def es_laws_toPair (N : Nat) : List Entry := []
noncomputable def body_laws_toPair : Code := match Try.f76.body with | some c => c | none => .skip
noncomputable def L_laws_toPair (N n : Nat) (key : Nat) (S : St) (K : Ks) : Option Ret := none
theorem L0_laws_toPair (N key : Nat) (S : St) (K : Ks) : L_laws_toPair N 0 key S K = none := rfl
theorem ls_laws_toPair : loopsIn body_laws_toPair = [] := by kernel_rfl
theorem fn_laws_toPair (N : Nat) (x : AVals sg_laws_toPair) (kf : Ret → Option Ret) : F_laws_toPair N x kf = peFunc h_laws_toPair (Orc.of (es_laws_toPair N)) (L_laws_toPair N N) Try.f76 (ashape sg_laws_toPair x) kf := by kernel_rfl
theorem sd_laws_toPair (N : Nat) : Sound Try.prog 76 (run_laws_toPair N) := fun_ok2 (hh := h_laws_toPair) mixed tab_ok (es := es_laws_toPair N) trivial (fn := Try.f76) (body := body_laws_toPair) (by kernel_rfl) (by kernel_rfl) (by kernel_rfl) (by kernel_rfl) (by kernel_rfl) (Lf := L_laws_toPair N) (L0_laws_toPair N) ls_laws_toPair trivial (N := N) (by kernel_rfl) (fn_laws_toPair N)
/-! laws_toPairS -/
noncomputable def ks_laws_toPairS_l3 : List Kd := [.v (.sl tQIIE) .k, dK, dK, .v (.sl tQIIE) (.o 77 none .k), .v (.int .i64) .k, dK, dK, dK, dK, dK, dK, dK, dK, dK, dK, dK, dK, dK, dK, dK, dK, dK, dK]
noncomputable def ko_laws_toPairS_l3_0 : List Kd := [dK, dK, dK, .v (.sl tQIIE) (.o 77 none .k), dK, dK, dK, dK, dK, dK, dK, dK, dK, dK, dK, dK, dK, dK, dK, dK, dK, dK, dK]
noncomputable def h_laws_toPairS : Hint := { tab, hn := [], loops := [(3, ks_laws_toPairS_l3)], outs := [(3, 2, ko_laws_toPairS_l3_0)], ords := [] }
noncomputable def sg_laws_toPairS : List AK := [.v (.sl tQIIE) .k]
noncomputable def F_laws_toPairS (N : Nat) (x : AVals sg_laws_toPairS) (kf : Ret → Option Ret) : Option Ret := laws_toPairS N x.1 (fun r0 => kf ⟨[⟨(.sl tQIIE), (.o 77 none .k), r0⟩], []⟩)
noncomputable def run_laws_toPairS (N : Nat) := runOf sg_laws_toPairS (F_laws_toPairS N)
noncomputable def es_laws_toPairS (N : Nat) : List Entry := [⟨76, [.val], (run_laws_toPair N)⟩]
noncomputable def body_laws_toPairS : Code := match Try.f39.body with | some c => c | none => .skip
noncomputable def L_laws_toPairS (N n : Nat) (key : Nat) (S : St) (K : Ks) : Option Ret := bif Nat.beq key 3 then withVals ks_laws_toPairS_l3 S (fun x => laws_toPairS_l3 N x.1 n (fun z0 => K (.x 0) (shape ko_laws_toPairS_l3_0 (z0, ()))) x.2.1 x.2.2.1) else none
theorem L0_laws_toPairS (N key : Nat) (S : St) (K : Ks) : L_laws_toPairS N 0 key S K = none := (bif0 (withVals0 fun _ => rfl) rfl)
noncomputable def c_laws_toPairS_0 : Code := (loopsIn body_laws_toPairS).getD 0 .skip
theorem ls_laws_toPairS : loopsIn body_laws_toPairS = [c_laws_toPairS_0] := by kernel_rfl
theorem rd_laws_toPairS_3 (N n : Nat) (x : Vals ks_laws_toPairS_l3) (K : Ks) : L_laws_toPairS N (n + 1) 3 (shape ks_laws_toPairS_l3 x) (h_laws_toPairS.onOut 3 K) = peRound h_laws_toPairS (Orc.of (es_laws_toPairS N)) (mixL (L_laws_toPairS N) N n 3) c_laws_toPairS_0 (shape ks_laws_toPairS_l3 x) (h_laws_toPairS.onOut 3 K) := by kernel_rfl
theorem fn_laws_toPairS (N : Nat) (x : AVals sg_laws_toPairS) (kf : Ret → Option Ret) : F_laws_toPairS N x kf = peFunc h_laws_toPairS (Orc.of (es_laws_toPairS N)) (L_laws_toPairS N N) Try.f39 (ashape sg_laws_toPairS x) kf := by kernel_rfl
theorem sd_laws_toPairS (N : Nat) : Sound Try.prog 39 (run_laws_toPairS N) := fun_ok2 (hh := h_laws_toPairS) mixed tab_ok (es := es_laws_toPairS N) ⟨sd_laws_toPair N, trivial⟩ (fn := Try.f39) (body := body_laws_toPairS) (by kernel_rfl) (by kernel_rfl) (by kernel_rfl) (by kernel_rfl) (by kernel_rfl) (Lf := L_laws_toPairS N) (L0_laws_toPairS N) ls_laws_toPairS (round_cons (key := 3) (ks := ks_laws_toPairS_l3) (by kernel_rfl) (by kernel_rfl) (rd_laws_toPairS_3 N) trivial) (N := N) (by kernel_rfl) (fn_laws_toPairS N)
/-! laws_toBallot -/
noncomputable def h_laws_toBallot : Hint := { tab, hn := [], loops := [], outs := [], ords := [] }
noncomputable def sg_laws_toBallot : List AK := [.v tQIIIE .k]
noncomputable def F_laws_toBallot (N : Nat) (x : AVals sg_laws_toBallot) (kf : Ret → Option Ret) : Option Ret := laws_toBallot N x.1 (fun r0 => kf ⟨[⟨tQIIIE, .k, r0⟩], []⟩)
noncomputable def run_laws_toBallot (N : Nat) := runOf sg_laws_toBallot (F_laws_toBallot N)
noncomputable def es_laws_toBallot (N : Nat) : List Entry := []
noncomputable def body_laws_toBallot : Code := match Try.f77.body with | some c => c | none => .skip
noncomputable def L_laws_toBallot (N n : Nat) (key : Nat) (S : St) (K : Ks) : Option Ret := none
theorem L0_laws_toBallot (N key : Nat) (S : St) (K : Ks) : L_laws_toBallot N 0 key S K = none := rfl
theorem ls_laws_toBallot : loopsIn body_laws_toBallot = [] := by kernel_rfl
theorem fn_laws_toBallot (N : Nat) (x : AVals sg_laws_toBallot) (kf : Ret → Option Ret) : F_laws_toBallot N x kf = peFunc h_laws_toBallot (Orc.of (es_laws_toBallot N)) (L_laws_toBallot N N) Try.f77 (ashape sg_laws_toBallot x) kf := by kernel_rfl
theorem sd_laws_toBallot (N : Nat) : Sound Try.prog 77 (run_laws_toBallot N) := fun_ok2 (hh := h_laws_toBallot) mixed tab_ok (es := es_laws_toBallot N) trivial (fn := Try.f77) (body := body_laws_toBallot) (by kernel_rfl) (by kernel_rfl) (by kernel_rfl) (by kernel_rfl) (by kernel_rfl) (Lf := L_laws_toBallot N) (L0_laws_toBallot N) ls_laws_toBallot trivial (N := N) (by kernel_rfl) (fn_laws_toBallot N)
/-! laws_toBallotS -/
noncomputable def ks_laws_toBallotS_l3 : List Kd := [.v (.sl tQIIIE) .k, dK, dK, .v (.sl tQIIIE) (.o 83 none .k), .v (.int .i64) .k, dK, dK, dK, dK, dK, dK, dK, dK, dK, dK, dK, dK, dK, dK, dK, dK, dK, dK]
noncomputable def ko_laws_toBallotS_l3_0 : List Kd := [dK, dK, dK, .v (.sl tQIIIE) (.o 83 none .k), dK, dK, dK, dK, dK, dK, dK, dK, dK, dK, dK, dK, dK, dK, dK, dK, dK, dK, dK]
noncomputable def h_laws_toBallotS : Hint := { tab, hn := [], loops := [(3, ks_laws_toBallotS_l3)], outs := [(3, 2, ko_laws_toBallotS_l3_0)], ords := [] }
noncomputable def sg_laws_toBallotS : List AK := [.v (.sl tQIIIE) .k]
noncomputable def F_laws_toBallotS (N : Nat) (x : AVals sg_laws_toBallotS) (kf : Ret → Option Ret) : Option Ret := laws_toBallotS N x.1 (fun r0 => kf ⟨[⟨(.sl tQIIIE), (.o 83 none .k), r0⟩], []⟩)
noncomputable def run_laws_toBallotS (N : Nat) := runOf sg_laws_toBallotS (F_laws_toBallotS N)
noncomputable def es_laws_toBallotS (N : Nat) : List Entry := [⟨77, [.val], (run_laws_toBallot N)⟩]
noncomputable def body_laws_toBallotS : Code := match Try.f41.body with | some c => c | none => .skip
noncomputable def L_laws_toBallotS (N n : Nat) (key : Nat) (S : St) (K : Ks) : Option Ret := bif Nat.beq key 3 then withVals ks_laws_toBallotS_l3 S (fun x => laws_toBallotS_l3 N x.1 n (fun z0 => K (.x 0) (shape ko_laws_toBallotS_l3_0 (z0, ()))) x.2.1 x.2.2.1) else none
theorem L0_laws_toBallotS (N key : Nat) (S : St) (K : Ks) : L_laws_toBallotS N 0 key S K = none := (bif0 (withVals0 fun _ => rfl) rfl)
noncomputable def c_laws_toBallotS_0 : Code := (loopsIn body_laws_toBallotS).getD 0 .skip
theorem ls_laws_toBallotS : loopsIn body_laws_toBallotS = [c_laws_toBallotS_0] := by kernel_rfl
theorem rd_laws_toBallotS_3 (N n : Nat) (x : Vals ks_laws_toBallotS_l3) (K : Ks) : L_laws_toBallotS N (n + 1) 3 (shape ks_laws_toBallotS_l3 x) (h_laws_toBallotS.onOut 3 K) = peRound h_laws_toBallotS (Orc.of (es_laws_toBallotS N)) (mixL (L_laws_toBallotS N) N n 3) c_laws_toBallotS_0 (shape ks_laws_toBallotS_l3 x) (h_laws_toBallotS.onOut 3 K) := by kernel_rfl
theorem fn_laws_toBallotS (N : Nat) (x : AVals sg_laws_toBallotS) (kf : Ret → Option Ret) : F_laws_toBallotS N x kf = peFunc h_laws_toBallotS (Orc.of (es_laws_toBallotS N)) (L_laws_toBallotS N N) Try.f41 (ashape sg_laws_toBallotS x) kf := by kernel_rfl
theorem sd_laws_toBallotS (N : Nat) : Sound Try.prog 41 (run_laws_toBallotS N) := fun_ok2 (hh := h_laws_toBallotS) mixed tab_ok (es := es_laws_toBallotS N) ⟨sd_laws_toBallot N, trivial⟩ (fn := Try.f41) (body := body_laws_toBallotS) (by kernel_rfl) (by kernel_rfl) (by kernel_rfl) (by kernel_rfl) (by kernel_rfl) (Lf := L_laws_toBallotS N) (L0_laws_toBallotS N) ls_laws_toBallotS (round_cons (key := 3) (ks := ks_laws_toBallotS_l3) (by kernel_rfl) (by kernel_rfl) (rd_laws_toBallotS_3 N) trivial) (N := N) (by kernel_rfl) (fn_laws_toBallotS N)
/-! laws_toLine -/
noncomputable def h_laws_toLine : Hint := { tab, hn := [], loops := [], outs := [], ords := [] }
noncomputable def sg_laws_toLine : List AK := [.v tQIIIIE .k]
noncomputable def F_laws_toLine (N : Nat) (x : AVals sg_laws_toLine) (kf : Ret → Option Ret) : Option Ret := laws_toLine N x.1 (fun r0 => kf ⟨[⟨tQIIIIE, .k, r0⟩], []⟩)
noncomputable def run_laws_toLine (N : Nat) := runOf sg_laws_toLine (F_laws_toLine N)
noncomputable def es_laws_toLine (N : Nat) : List Entry := []
noncomputable def body_laws_toLine : Code := match Try.f78.body with | some c => c | none => .skip
noncomputable def L_laws_toLine (N n : Nat) (key : Nat) (S : St) (K : Ks) : Option Ret := none
theorem L0_laws_toLine (N key : Nat) (S : St) (K : Ks) : L_laws_toLine N 0 key S K = none := rfl
theorem ls_laws_toLine : loopsIn body_laws_toLine = [] := by kernel_rfl
theorem fn_laws_toLine (N : Nat) (x : AVals sg_laws_toLine) (kf : Ret → Option Ret) : F_laws_toLine N x kf = peFunc h_laws_toLine (Orc.of (es_laws_toLine N)) (L_laws_toLine N N) Try.f78 (ashape sg_laws_toLine x) kf := by kernel_rfl
theorem sd_laws_toLine (N : Nat) : Sound Try.prog 78 (run_laws_toLine N) := fun_ok2 (hh := h_laws_toLine) mixed tab_ok (es := es_laws_toLine N) trivial (fn := Try.f78) (body := body_laws_toLine) (by kernel_rfl) (by kernel_rfl) (by kernel_rfl) (by kernel_rfl) (by kernel_rfl) (Lf := L_laws_toLine N) (L0_laws_toLine N) ls_laws_toLine trivial (N := N) (by kernel_rfl) (fn_laws_toLine N)
/-! laws_toLineS -/
noncomputable def ks_laws_toLineS_l3 : List Kd := [.v (.sl tQIIIIE) .k, dK, dK, .v (.sl tQIIIIE) (.o 85 none .k), .v (.int .i64) .k, dK, dK, dK, dK, dK, dK, dK, dK, dK, dK, dK, dK, dK, dK, dK, dK, dK, dK]
noncomputable def ko_laws_toLineS_l3_0 : List Kd := [dK, dK, dK, .v (.sl tQIIIIE) (.o 85 none .k), dK, dK, dK, dK, dK, dK, dK, dK, dK, dK, dK, dK, dK, dK, dK, dK, dK, dK, dK]
noncomputable def h_laws_toLineS : Hint := { tab, hn := [], loops := [(3, ks_laws_toLineS_l3)], outs := [(3, 2, ko_laws_toLineS_l3_0)], ords := [] }
noncomputable def sg_laws_toLineS : List AK := [.v (.sl tQIIIIE) .k]
noncomputable def F_laws_toLineS (N : Nat) (x : AVals sg_laws_toLineS) (kf : Ret → Option Ret) : Option Ret := laws_toLineS N x.1 (fun r0 => kf ⟨[⟨(.sl tQIIIIE), (.o 85 none .k), r0⟩], []⟩)
noncomputable def run_laws_toLineS (N : Nat) := runOf sg_laws_toLineS (F_laws_toLineS N)
noncomputable def es_laws_toLineS (N : Nat) : List Entry := [⟨78, [.val], (run_laws_toLine N)⟩]
noncomputable def body_laws_toLineS : Code := match Try.f42.body with | some c => c | none => .skip
noncomputable def L_laws_toLineS (N n : Nat) (key : Nat) (S : St) (K : Ks) : Option Ret := bif Nat.beq key 3 then withVals ks_laws_toLineS_l3 S (fun x => laws_toLineS_l3 N x.1 n (fun z0 => K (.x 0) (shape ko_laws_toLineS_l3_0 (z0, ()))) x.2.1 x.2.2.1) else none
theorem L0_laws_toLineS (N key : Nat) (S : St) (K : Ks) : L_laws_toLineS N 0 key S K = none := (bif0 (withVals0 fun _ => rfl) rfl)
noncomputable def c_laws_toLineS_0 : Code := (loopsIn body_laws_toLineS).getD 0 .skip
theorem ls_laws_toLineS : loopsIn body_laws_toLineS = [c_laws_toLineS_0] := by kernel_rfl
theorem rd_laws_toLineS_3 (N n : Nat) (x : Vals ks_laws_toLineS_l3) (K : Ks) : L_laws_toLineS N (n + 1) 3 (shape ks_laws_toLineS_l3 x) (h_laws_toLineS.onOut 3 K) = peRound h_laws_toLineS (Orc.of (es_laws_toLineS N)) (mixL (L_laws_toLineS N) N n 3) c_laws_toLineS_0 (shape ks_laws_toLineS_l3 x) (h_laws_toLineS.onOut 3 K) := by kernel_rfl
theorem fn_laws_toLineS (N : Nat) (x : AVals sg_laws_toLineS) (kf : Ret → Option Ret) : F_laws_toLineS N x kf = peFunc h_laws_toLineS (Orc.of (es_laws_toLineS N)) (L_laws_toLineS N N) Try.f42 (ashape sg_laws_toLineS x) kf := by kernel_rfl
theorem sd_laws_toLineS (N : Nat) : Sound Try.prog 42 (run_laws_toLineS N) := fun_ok2 (hh := h_laws_toLineS) mixed tab_ok (es := es_laws_toLineS N) ⟨sd_laws_toLine N, trivial⟩ (fn := Try.f42) (body := body_laws_toLineS) (by kernel_rfl) (by kernel_rfl) (by kernel_rfl) (by kernel_rfl) (by kernel_rfl) (Lf := L_laws_toLineS N) (L0_laws_toLineS N) ls_laws_toLineS (round_cons (key := 3) (ks := ks_laws_toLineS_l3) (by kernel_rfl) (by kernel_rfl) (rd_laws_toLineS_3 N) trivial) (N := N) (by kernel_rfl) (fn_laws_toLineS N)
/-! laws_toClub -/
noncomputable def h_laws_toClub : Hint := { tab, hn := [], loops := [], outs := [], ords := [] }
noncomputable def sg_laws_toClub : List AK := [.v tQLQIIIIILIELQIILIELQIIELILQIIIELQIIIIEIE .k]
noncomputable def F_laws_toClub (N : Nat) (x : AVals sg_laws_toClub) (kf : Ret → Option Ret) : Option Ret := laws_toClub N x.1 (fun r0 => kf ⟨[⟨tQLQIIIIILIELQIILIELQIIELILQIIIELQIIIIEIE, (.p (.o 70 none (.p .k (.p .k (.p .k (.p .k (.p .k (.o 3 none .k))))))) (.p (.o 75 none (.p .k (.p .k (.o 3 none .k)))) (.p (.o 77 none .k) (.p (.o 3 none .k) (.p (.o 83 none .k) (.p (.o 85 none .k) .k)))))), r0⟩], []⟩)
noncomputable def run_laws_toClub (N : Nat) := runOf sg_laws_toClub (F_laws_toClub N)
noncomputable def es_laws_toClub (N : Nat) : List Entry := [⟨37, [.val], (run_laws_toTeamS N)⟩, ⟨38, [.val], (run_laws_toJudgeS N)⟩, ⟨39, [.val], (run_laws_toPairS N)⟩, ⟨40, [.val], (run_laws_toIntS N)⟩, ⟨41, [.val], (run_laws_toBallotS N)⟩, ⟨42, [.val], (run_laws_toLineS N)⟩]
noncomputable def body_laws_toClub : Code := match Try.f16.body with | some c => c | none => .skip
noncomputable def L_laws_toClub (N n : Nat) (key : Nat) (S : St) (K : Ks) : Option Ret := none
theorem L0_laws_toClub (N key : Nat) (S : St) (K : Ks) : L_laws_toClub N 0 key S K = none := rfl
theorem ls_laws_toClub : loopsIn body_laws_toClub = [] := by kernel_rfl
theorem fn_laws_toClub (N : Nat) (x : AVals sg_laws_toClub) (kf : Ret → Option Ret) : F_laws_toClub N x kf = peFunc h_laws_toClub (Orc.of (es_laws_toClub N)) (L_laws_toClub N N) Try.f16 (ashape sg_laws_toClub x) kf := by kernel_rfl
theorem sd_laws_toClub (N : Nat) : Sound Try.prog 16 (run_laws_toClub N) := fun_ok2 (hh := h_laws_toClub) mixed tab_ok (es := es_laws_toClub N) ⟨sd_laws_toTeamS N, ⟨sd_laws_toJudgeS N, ⟨sd_laws_toPairS N, ⟨sd_laws_toIntS N, ⟨sd_laws_toBallotS N, ⟨sd_laws_toLineS N, trivial⟩⟩⟩⟩⟩⟩ (fn := Try.f16) (body := body_laws_toClub) (by kernel_rfl) (by kernel_rfl) (by kernel_rfl) (by kernel_rfl) (by kernel_rfl) (Lf := L_laws_toClub N) (L0_laws_toClub N) ls_laws_toClub trivial (N := N) (by kernel_rfl) (fn_laws_toClub N)
/-! laws_eqIntS -/
noncomputable def ks_laws_eqIntS_l4 : List Kd := [.v (.sl (.int .i64)) .k, .v (.sl (.int .i64)) .k, dK, dK, dK, .v (.int .i64) .k, dK, dK, dK, dK, dK, dK, dK, dK, dK, dK, dK, dK, dK, dK, dK, dK, dK, dK, dK, dK]
noncomputable def ko_laws_eqIntS_l4_0 : List Kd := [dK, dK, dK, dK, dK, dK, dK, dK, dK, dK, dK, dK, dK, dK, dK, dK, dK, dK, dK, dK, dK, dK, dK, dK, dK, dK]
noncomputable def ko_laws_eqIntS_l4_1 : List Kd := [dK, dK, dK, dK, .v .bool .k, dK, dK, dK, dK, dK, dK, dK, dK, dK, dK, dK, dK, dK, dK, dK, dK, dK, dK, dK, dK, dK]
noncomputable def h_laws_eqIntS : Hint := { tab, hn := [], loops := [(4, ks_laws_eqIntS_l4)], outs := [(4, 2, ko_laws_eqIntS_l4_0), (4, 1, ko_laws_eqIntS_l4_1)], ords := [(6, (OT.seq [0, 1, 2, 3, 4, 5, 6, 7, 8] .done))] }
noncomputable def sg_laws_eqIntS : List AK := [.v (.sl (.int .i64)) .k, .v (.sl (.int .i64)) .k]
noncomputable def F_laws_eqIntS (N : Nat) (x : AVals sg_laws_eqIntS) (kf : Ret → Option Ret) : Option Ret := laws_eqIntS N x.1 x.2.1 (fun r0 => kf ⟨[⟨.bool, .k, r0⟩], []⟩)
noncomputable def run_laws_eqIntS (N : Nat) := runOf sg_laws_eqIntS (F_laws_eqIntS N)
noncomputable def es_laws_eqIntS (N : Nat) : List Entry := []
noncomputable def body_laws_eqIntS : Code := match Try.f11.body with | some c => c | none => .skip
noncomputable def L_laws_eqIntS (N n : Nat) (key : Nat) (S : St) (K : Ks) : Option Ret := bif Nat.beq key 4 then withVals ks_laws_eqIntS_l4 S (fun x => laws_eqIntS_l4 x.1 x.2.1 n (K (.x 0) (shape ko_laws_eqIntS_l4_0 ())) (fun z0 => K .r (shape ko_laws_eqIntS_l4_1 (z0, ()))) x.2.2.1) else none
theorem L0_laws_eqIntS (N key : Nat) (S : St) (K : Ks) : L_laws_eqIntS N 0 key S K = none := (bif0 (withVals0 fun _ => rfl) rfl)
noncomputable def c_laws_eqIntS_0 : Code := (loopsIn body_laws_eqIntS).getD 0 .skip
theorem ls_laws_eqIntS : loopsIn body_laws_eqIntS = [c_laws_eqIntS_0] := by kernel_rfl
theorem rd_laws_eqIntS_4 (N n : Nat) (x : Vals ks_laws_eqIntS_l4) (K : Ks) : L_laws_eqIntS N (n + 1) 4 (shape ks_laws_eqIntS_l4 x) (h_laws_eqIntS.onOut 4 K) = peRound h_laws_eqIntS (Orc.of (es_laws_eqIntS N)) (mixL (L_laws_eqIntS N) N n 4) c_laws_eqIntS_0 (shape ks_laws_eqIntS_l4 x) (h_laws_eqIntS.onOut 4 K) := by kernel_rfl
theorem fn_laws_eqIntS (N : Nat) (x : AVals sg_laws_eqIntS) (kf : Ret → Option Ret) : F_laws_eqIntS N x kf = peFunc h_laws_eqIntS (Orc.of (es_laws_eqIntS N)) (L_laws_eqIntS N N) Try.f11 (ashape sg_laws_eqIntS x) kf := by kernel_rfl
theorem sd_laws_eqIntS (N : Nat) : Sound Try.prog 11 (run_laws_eqIntS N) := fun_ok2 (hh := h_laws_eqIntS) mixed tab_ok (es := es_laws_eqIntS N) trivial (fn := Try.f11) (body := body_laws_eqIntS) (by kernel_rfl) (by kernel_rfl) (by kernel_rfl) (by kernel_rfl) (by kernel_rfl) (Lf := L_laws_eqIntS N) (L0_laws_eqIntS N) ls_laws_eqIntS (round_cons (key := 4) (ks := ks_laws_eqIntS_l4) (by kernel_rfl) (by kernel_rfl) (rd_laws_eqIntS_4 N) trivial) (N := N) (by kernel_rfl) (fn_laws_eqIntS N)
/-! laws_eqTeam -/
noncomputable def h_laws_eqTeam : Hint := { tab, hn := [], loops := [], outs := [], ords := [] }
noncomputable def sg_laws_eqTeam : List AK := [.v tQIIIIILIE .k, .v tQIIIIILIE .k]
noncomputable def F_laws_eqTeam (N : Nat) (x : AVals sg_laws_eqTeam) (kf : Ret → Option Ret) : Option Ret := laws_eqTeam N x.1 x.2.1 (fun r0 => kf ⟨[⟨.bool, .k, r0⟩], []⟩)
noncomputable def run_laws_eqTeam (N : Nat) := runOf sg_laws_eqTeam (F_laws_eqTeam N)
noncomputable def es_laws_eqTeam (N : Nat) : List Entry := [⟨11, [.val, .val], (run_laws_eqIntS N)⟩]
noncomputable def body_laws_eqTeam : Code := match Try.f79.body with | some c => c | none => .skip
noncomputable def L_laws_eqTeam (N n : Nat) (key : Nat) (S : St) (K : Ks) : Option Ret := none
theorem L0_laws_eqTeam (N key : Nat) (S : St) (K : Ks) : L_laws_eqTeam N 0 key S K = none := rfl
theorem ls_laws_eqTeam : loopsIn body_laws_eqTeam = [] := by kernel_rfl
theorem fn_laws_eqTeam (N : Nat) (x : AVals sg_laws_eqTeam) (kf : Ret → Option Ret) : F_laws_eqTeam N x kf = peFunc h_laws_eqTeam (Orc.of (es_laws_eqTeam N)) (L_laws_eqTeam N N) Try.f79 (ashape sg_laws_eqTeam x) kf := by kernel_rfl
theorem sd_laws_eqTeam (N : Nat) : Sound Try.prog 79 (run_laws_eqTeam N) := fun_ok2 (hh := h_laws_eqTeam) mixed tab_ok (es := es_laws_eqTeam N) ⟨sd_laws_eqIntS N, trivial⟩ (fn := Try.f79) (body := body_laws_eqTeam) (by kernel_rfl) (by kernel_rfl) (by kernel_rfl) (by kernel_rfl) (by kernel_rfl) (Lf := L_laws_eqTeam N) (L0_laws_eqTeam N) ls_laws_eqTeam trivial (N := N) (by kernel_rfl) (fn_laws_eqTeam N)
/-! laws_eqTeamS -/
noncomputable def ks_laws_eqTeamS_l4 : List Kd := [.v (.sl tQIIIIILIE) .k, .v (.sl tQIIIIILIE) .k, dK, dK, dK, .v (.int .i64) .k, dK, dK, dK, dK, dK, dK, dK, dK, dK, dK, dK, dK, dK, dK, dK, dK, dK, dK, dK, dK, dK]
noncomputable def ko_laws_eqTeamS_l4_0 : List Kd := [dK, dK, dK, dK, dK, dK, dK, dK, dK, dK, dK, dK, dK, dK, dK, dK, dK, dK, dK, dK, dK, dK, dK, dK, dK, dK, dK]
noncomputable def ko_laws_eqTeamS_l4_1 : List Kd := [dK, dK, dK, dK, .v .bool .k, dK, dK, dK, dK, dK, dK, dK, dK, dK, dK, dK, dK, dK, dK, dK, dK, dK, dK, dK, dK, dK, dK]
noncomputable def h_laws_eqTeamS : Hint := { tab, hn := [], loops := [(4, ks_laws_eqTeamS_l4)], outs := [(4, 2, ko_laws_eqTeamS_l4_0), (4, 1, ko_laws_eqTeamS_l4_1)], ords := [(6, (OT.seq [0, 1, 2, 3, 4, 5, 6, 7, 8, 9] .done))] }
noncomputable def sg_laws_eqTeamS : List AK := [.v (.sl tQIIIIILIE) .k, .v (.sl tQIIIIILIE) .k]
noncomputable def F_laws_eqTeamS (N : Nat) (x : AVals sg_laws_eqTeamS) (kf : Ret → Option Ret) : Option Ret := laws_eqTeamS N x.1 x.2.1 (fun r0 => kf ⟨[⟨.bool, .k, r0⟩], []⟩)
noncomputable def run_laws_eqTeamS (N : Nat) := runOf sg_laws_eqTeamS (F_laws_eqTeamS N)
noncomputable def es_laws_eqTeamS (N : Nat) : List Entry := [⟨79, [.val, .val], (run_laws_eqTeam N)⟩]
noncomputable def body_laws_eqTeamS : Code := match Try.f43.body with | some c => c | none => .skip
noncomputable def L_laws_eqTeamS (N n : Nat) (key : Nat) (S : St) (K : Ks) : Option Ret := bif Nat.beq key 4 then withVals ks_laws_eqTeamS_l4 S (fun x => laws_eqTeamS_l4 N x.1 x.2.1 n (K (.x 0) (shape ko_laws_eqTeamS_l4_0 ())) (fun z0 => K .r (shape ko_laws_eqTeamS_l4_1 (z0, ()))) x.2.2.1) else none
theorem L0_laws_eqTeamS (N key : Nat) (S : St) (K : Ks) : L_laws_eqTeamS N 0 key S K = none := (bif0 (withVals0 fun _ => rfl) rfl)
noncomputable def c_laws_eqTeamS_0 : Code := (loopsIn body_laws_eqTeamS).getD 0 .skip
theorem ls_laws_eqTeamS : loopsIn body_laws_eqTeamS = [c_laws_eqTeamS_0] := by kernel_rfl
theorem rd_laws_eqTeamS_4 (N n : Nat) (x : Vals ks_laws_eqTeamS_l4) (K : Ks) : L_laws_eqTeamS N (n + 1) 4 (shape ks_laws_eqTeamS_l4 x) (h_laws_eqTeamS.onOut 4 K) = peRound h_laws_eqTeamS (Orc.of (es_laws_eqTeamS N)) (mixL (L_laws_eqTeamS N) N n 4) c_laws_eqTeamS_0 (shape ks_laws_eqTeamS_l4 x) (h_laws_eqTeamS.onOut 4 K) := by kernel_rfl
theorem fn_laws_eqTeamS (N : Nat) (x : AVals sg_laws_eqTeamS) (kf : Ret → Option Ret) : F_laws_eqTeamS N x kf = peFunc h_laws_eqTeamS (Orc.of (es_laws_eqTeamS N)) (L_laws_eqTeamS N N) Try.f43 (ashape sg_laws_eqTeamS x) kf := by kernel_rfl
theorem sd_laws_eqTeamS (N : Nat) : Sound Try.prog 43 (run_laws_eqTeamS N) := fun_ok2 (hh := h_laws_eqTeamS) mixed tab_ok (es := es_laws_eqTeamS N) ⟨sd_laws_eqTeam N, trivial⟩ (fn := Try.f43) (body := body_laws_eqTeamS) (by kernel_rfl) (by kernel_rfl) (by kernel_rfl) (by kernel_rfl) (by kernel_rfl) (Lf := L_laws_eqTeamS N) (L0_laws_eqTeamS N) ls_laws_eqTeamS (round_cons (key := 4) (ks := ks_laws_eqTeamS_l4) (by kernel_rfl) (by kernel_rfl) (rd_laws_eqTeamS_4 N) trivial) (N := N) (by kernel_rfl) (fn_laws_eqTeamS N)
/-! laws_eqJudge -/
noncomputable def h_laws_eqJudge : Hint := { tab, hn := [], loops := [], outs := [], ords := [] }
noncomputable def sg_laws_eqJudge : List AK := [.v tQIILIE .k, .v tQIILIE .k]
noncomputable def F_laws_eqJudge (N : Nat) (x : AVals sg_laws_eqJudge) (kf : Ret → Option Ret) : Option Ret := laws_eqJudge N x.1 x.2.1 (fun r0 => kf ⟨[⟨.bool, .k, r0⟩], []⟩)
noncomputable def run_laws_eqJudge (N : Nat) := runOf sg_laws_eqJudge (F_laws_eqJudge N)
noncomputable def es_laws_eqJudge (N : Nat) : List Entry := [⟨11, [.val, .val], (run_laws_eqIntS N)⟩]
noncomputable def body_laws_eqJudge : Code := match Try.f80.body with | some c => c | none => .skip
noncomputable def L_laws_eqJudge (N n : Nat) (key : Nat) (S : St) (K : Ks) : Option Ret := none
theorem L0_laws_eqJudge (N key : Nat) (S : St) (K : Ks) : L_laws_eqJudge N 0 key S K = none := rfl
theorem ls_laws_eqJudge : loopsIn body_laws_eqJudge = [] := by kernel_rfl
theorem fn_laws_eqJudge (N : Nat) (x : AVals sg_laws_eqJudge) (kf : Ret → Option Ret) : F_laws_eqJudge N x kf = peFunc h_laws_eqJudge (Orc.of (es_laws_eqJudge N)) (L_laws_eqJudge N N) Try.f80 (ashape sg_laws_eqJudge x) kf := by kernel_rfl
theorem sd_laws_eqJudge (N : Nat) : Sound Try.prog 80 (run_laws_eqJudge N) := fun_ok2 (hh := h_laws_eqJudge) mixed tab_ok (es := es_laws_eqJudge N) ⟨sd_laws_eqIntS N, trivial⟩ (fn := Try.f80) (body := body_laws_eqJudge) (by kernel_rfl) (by kernel_rfl) (by kernel_rfl) (by kernel_rfl) (by kernel_rfl) (Lf := L_laws_eqJudge N) (L0_laws_eqJudge N) ls_laws_eqJudge trivial (N := N) (by kernel_rfl) (fn_laws_eqJudge N)
/-! laws_eqJudgeS -/
noncomputable def ks_laws_eqJudgeS_l4 : List Kd := [.v (.sl tQIILIE) .k, .v (.sl tQIILIE) .k, dK, dK, dK, .v (.int .i64) .k, dK, dK, dK, dK, dK, dK, dK, dK, dK, dK, dK, dK, dK, dK, dK, dK, dK, dK, dK, dK, dK]
noncomputable def ko_laws_eqJudgeS_l4_0 : List Kd := [dK, dK, dK, dK, dK, dK, dK, dK, dK, dK, dK, dK, dK, dK, dK, dK, dK, dK, dK, dK, dK, dK, dK, dK, dK, dK, dK]
noncomputable def ko_laws_eqJudgeS_l4_1 : List Kd := [dK, dK, dK, dK, .v .bool .k, dK, dK, dK, dK, dK, dK, dK, dK, dK, dK, dK, dK, dK, dK, dK, dK, dK, dK, dK, dK, dK, dK]
noncomputable def h_laws_eqJudgeS : Hint := { tab, hn := [], loops := [(4, ks_laws_eqJudgeS_l4)], outs := [(4, 2, ko_laws_eqJudgeS_l4_0), (4, 1, ko_laws_eqJudgeS_l4_1)], ords := [(6, (OT.seq [0, 1, 2, 3, 4, 5, 6, 7, 8, 9] .done))] }
noncomputable def sg_laws_eqJudgeS : List AK := [.v (.sl tQIILIE) .k, .v (.sl tQIILIE) .k]
noncomputable def F_laws_eqJudgeS (N : Nat) (x : AVals sg_laws_eqJudgeS) (kf : Ret → Option Ret) : Option Ret := laws_eqJudgeS N x.1 x.2.1 (fun r0 => kf ⟨[⟨.bool, .k, r0⟩], []⟩)
noncomputable def run_laws_eqJudgeS (N : Nat) := runOf sg_laws_eqJudgeS (F_laws_eqJudgeS N)
noncomputable def es_laws_eqJudgeS (N : Nat) : List Entry := [⟨80, [.val, .val], (run_laws_eqJudge N)⟩]
noncomputable def body_laws_eqJudgeS : Code := match Try.f44.body with | some c => c | none => .skip
noncomputable def L_laws_eqJudgeS (N n : Nat) (key : Nat) (S : St) (K : Ks) : Option Ret := bif Nat.beq key 4 then withVals ks_laws_eqJudgeS_l4 S (fun x => laws_eqJudgeS_l4 N x.1 x.2.1 n (K (.x 0) (shape ko_laws_eqJudgeS_l4_0 ())) (fun z0 => K .r (shape ko_laws_eqJudgeS_l4_1 (z0, ()))) x.2.2.1) else none
theorem L0_laws_eqJudgeS (N key : Nat) (S : St) (K : Ks) : L_laws_eqJudgeS N 0 key S K = none := (bif0 (withVals0 fun _ => rfl) rfl)
noncomputable def c_laws_eqJudgeS_0 : Code := (loopsIn body_laws_eqJudgeS).getD 0 .skip
theorem ls_laws_eqJudgeS : loopsIn body_laws_eqJudgeS = [c_laws_eqJudgeS_0] := by kernel_rfl
theorem rd_laws_eqJudgeS_4 (N n : Nat) (x : Vals ks_laws_eqJudgeS_l4) (K : Ks) : L_laws_eqJudgeS N (n + 1) 4 (shape ks_laws_eqJudgeS_l4 x) (h_laws_eqJudgeS.onOut 4 K) = peRound h_laws_eqJudgeS (Orc.of (es_laws_eqJudgeS N)) (mixL (L_laws_eqJudgeS N) N n 4) c_laws_eqJudgeS_0 (shape ks_laws_eqJudgeS_l4 x) (h_laws_eqJudgeS.onOut 4 K) := by kernel_rfl
theorem fn_laws_eqJudgeS (N : Nat) (x : AVals sg_laws_eqJudgeS) (kf : Ret → Option Ret) : F_laws_eqJudgeS N x kf = peFunc h_laws_eqJudgeS (Orc.of (es_laws_eqJudgeS N)) (L_laws_eqJudgeS N N) Try.f44 (ashape sg_laws_eqJudgeS x) kf := by kernel_rfl
theorem sd_laws_eqJudgeS (N : Nat) : Sound Try.prog 44 (run_laws_eqJudgeS N) := fun_ok2 (hh := h_laws_eqJudgeS) mixed tab_ok (es := es_laws_eqJudgeS N) ⟨sd_laws_eqJudge N, trivial⟩ (fn := Try.f44) (body := body_laws_eqJudgeS) (by kernel_rfl) (by kernel_rfl) (by kernel_rfl) (by kernel_rfl) (by kernel_rfl) (Lf := L_laws_eqJudgeS N) (L0_laws_eqJudgeS N) ls_laws_eqJudgeS (round_cons (key := 4) (ks := ks_laws_eqJudgeS_l4) (by kernel_rfl) (by kernel_rfl) (rd_laws_eqJudgeS_4 N) trivial) (N := N) (by kernel_rfl) (fn_laws_eqJudgeS N)
/-! laws_eqPair -/
noncomputable def h_laws_eqPair : Hint := { tab, hn := [], loops := [], outs := [], ords := [] }
noncomputable def sg_laws_eqPair : List AK := [.v tQIIE .k, .v tQIIE .k]
noncomputable def F_laws_eqPair (N : Nat) (x : AVals sg_laws_eqPair) (kf : Ret → Option Ret) : Option Ret := laws_eqPair N x.1 x.2.1 (fun r0 => kf ⟨[⟨.bool, .k, r0⟩], []⟩)
noncomputable def run_laws_eqPair (N : Nat) := runOf sg_laws_eqPair (F_laws_eqPair N)
noncomputable def es_laws_eqPair (N : Nat) : List Entry := []
noncomputable def body_laws_eqPair : Code := match Try.f81.body with | some c => c | none => .skip
noncomputable def L_laws_eqPair (N n : Nat) (key : Nat) (S : St) (K : Ks) : Option Ret := none
theorem L0_laws_eqPair (N key : Nat) (S : St) (K : Ks) : L_laws_eqPair N 0 key S K = none := rfl
theorem ls_laws_eqPair : loopsIn body_laws_eqPair = [] := by kernel_rfl
theorem fn_laws_eqPair (N : Nat) (x : AVals sg_laws_eqPair) (kf : Ret → Option Ret) : F_laws_eqPair N x kf = peFunc h_laws_eqPair (Orc.of (es_laws_eqPair N)) (L_laws_eqPair N N) Try.f81 (ashape sg_laws_eqPair x) kf := by kernel_rfl
theorem sd_laws_eqPair (N : Nat) : Sound Try.prog 81 (run_laws_eqPair N) := fun_ok2 (hh := h_laws_eqPair) mixed tab_ok (es := es_laws_eqPair N) trivial (fn := Try.f81) (body := body_laws_eqPair) (by kernel_rfl) (by kernel_rfl) (by kernel_rfl) (by kernel_rfl) (by kernel_rfl) (Lf := L_laws_eqPair N) (L0_laws_eqPair N) ls_laws_eqPair trivial (N := N) (by kernel_rfl) (fn_laws_eqPair N)
/-! laws_eqPairS -/
noncomputable def ks_laws_eqPairS_l4 : List Kd := [.v (.sl tQIIE) .k, .v (.sl tQIIE) .k, dK, dK, dK, .v (.int .i64) .k, dK, dK, dK, dK, dK, dK, dK, dK, dK, dK, dK, dK, dK, dK, dK, dK, dK, dK, dK, dK, dK]
noncomputable def ko_laws_eqPairS_l4_0 : List Kd := [dK, dK, dK, dK, dK, dK, dK, dK, dK, dK, dK, dK, dK, dK, dK, dK, dK, dK, dK, dK, dK, dK, dK, dK, dK, dK, dK]
noncomputable def ko_laws_eqPairS_l4_1 : List Kd := [dK, dK, dK, dK, .v .bool .k, dK, dK, dK, dK, dK, dK, dK, dK, dK, dK, dK, dK, dK, dK, dK, dK, dK, dK, dK, dK, dK, dK]
noncomputable def h_laws_eqPairS : Hint := { tab, hn := [], loops := [(4, ks_laws_eqPairS_l4)], outs := [(4, 2, ko_laws_eqPairS_l4_0), (4, 1, ko_laws_eqPairS_l4_1)], ords := [(6, (OT.seq [0, 1, 2, 3, 4, 5, 6, 7, 8, 9] .done))] }
noncomputable def sg_laws_eqPairS : List AK := [.v (.sl tQIIE) .k, .v (.sl tQIIE) .k]
noncomputable def F_laws_eqPairS (N : Nat) (x : AVals sg_laws_eqPairS) (kf : Ret → Option Ret) : Option Ret := laws_eqPairS N x.1 x.2.1 (fun r0 => kf ⟨[⟨.bool, .k, r0⟩], []⟩)
noncomputable def run_laws_eqPairS (N : Nat) := runOf sg_laws_eqPairS (F_laws_eqPairS N)
noncomputable def es_laws_eqPairS (N : Nat) : List Entry := [⟨81, [.val, .val], (run_laws_eqPair N)⟩]
noncomputable def body_laws_eqPairS : Code := match Try.f45.body with | some c => c | none => .skip
noncomputable def L_laws_eqPairS (N n : Nat) (key : Nat) (S : St) (K : Ks) : Option Ret := bif Nat.beq key 4 then withVals ks_laws_eqPairS_l4 S (fun x => laws_eqPairS_l4 N x.1 x.2.1 n (K (.x 0) (shape ko_laws_eqPairS_l4_0 ())) (fun z0 => K .r (shape ko_laws_eqPairS_l4_1 (z0, ()))) x.2.2.1) else none
theorem L0_laws_eqPairS (N key : Nat) (S : St) (K : Ks) : L_laws_eqPairS N 0 key S K = none := (bif0 (withVals0 fun _ => rfl) rfl)
noncomputable def c_laws_eqPairS_0 : Code := (loopsIn body_laws_eqPairS).getD 0 .skip
theorem ls_laws_eqPairS : loopsIn body_laws_eqPairS = [c_laws_eqPairS_0] := by kernel_rfl
theorem rd_laws_eqPairS_4 (N n : Nat) (x : Vals ks_laws_eqPairS_l4) (K : Ks) : L_laws_eqPairS N (n + 1) 4 (shape ks_laws_eqPairS_l4 x) (h_laws_eqPairS.onOut 4 K) = peRound h_laws_eqPairS (Orc.of (es_laws_eqPairS N)) (mixL (L_laws_eqPairS N) N n 4) c_laws_eqPairS_0 (shape ks_laws_eqPairS_l4 x) (h_laws_eqPairS.onOut 4 K) := by kernel_rfl
theorem fn_laws_eqPairS (N : Nat) (x : AVals sg_laws_eqPairS) (kf : Ret → Option Ret) : F_laws_eqPairS N x kf = peFunc h_laws_eqPairS (Orc.of (es_laws_eqPairS N)) (L_laws_eqPairS N N) Try.f45 (ashape sg_laws_eqPairS x) kf := by kernel_rfl
theorem sd_laws_eqPairS (N : Nat) : Sound Try.prog 45 (run_laws_eqPairS N) := fun_ok2 (hh := h_laws_eqPairS) mixed tab_ok (es := es_laws_eqPairS N) ⟨sd_laws_eqPair N, trivial⟩ (fn := Try.f45) (body := body_laws_eqPairS) (by kernel_rfl) (by kernel_rfl) (by kernel_rfl) (by kernel_rfl) (by kernel_rfl) (Lf := L_laws_eqPairS N) (L0_laws_eqPairS N) ls_laws_eqPairS (round_cons (key := 4) (ks := ks_laws_eqPairS_l4) (by kernel_rfl) (by kernel_rfl) (rd_laws_eqPairS_4 N) trivial) (N := N) (by kernel_rfl) (fn_laws_eqPairS N)
/-! laws_eqBallot -/
noncomputable def h_laws_eqBallot : Hint := { tab, hn := [], loops := [], outs := [], ords := [] }
noncomputable def sg_laws_eqBallot : List AK := [.v tQIIIE .k, .v tQIIIE .k]
noncomputable def F_laws_eqBallot (N : Nat) (x : AVals sg_laws_eqBallot) (kf : Ret → Option Ret) : Option Ret := laws_eqBallot N x.1 x.2.1 (fun r0 => kf ⟨[⟨.bool, .k, r0⟩], []⟩)
noncomputable def run_laws_eqBallot (N : Nat) := runOf sg_laws_eqBallot (F_laws_eqBallot N)
noncomputable def es_laws_eqBallot (N : Nat) : List Entry := []
noncomputable def body_laws_eqBallot : Code := match Try.f82.body with | some c => c | none => .skip
noncomputable def L_laws_eqBallot (N n : Nat) (key : Nat) (S : St) (K : Ks) : Option Ret := none
theorem L0_laws_eqBallot (N key : Nat) (S : St) (K : Ks) : L_laws_eqBallot N 0 key S K = none := rfl
theorem ls_laws_eqBallot : loopsIn body_laws_eqBallot = [] := by kernel_rfl
theorem fn_laws_eqBallot (N : Nat) (x : AVals sg_laws_eqBallot) (kf : Ret → Option Ret) : F_laws_eqBallot N x kf = peFunc h_laws_eqBallot (Orc.of (es_laws_eqBallot N)) (L_laws_eqBallot N N) Try.f82 (ashape sg_laws_eqBallot x) kf := by kernel_rfl
theorem sd_laws_eqBallot (N : Nat) : Sound Try.prog 82 (run_laws_eqBallot N) := fun_ok2 (hh := h_laws_eqBallot) mixed tab_ok (es := es_laws_eqBallot N) trivial (fn := Try.f82) (body := body_laws_eqBallot) (by kernel_rfl) (by kernel_rfl) (by kernel_rfl) (by kernel_rfl) (by kernel_rfl) (Lf := L_laws_eqBallot N) (L0_laws_eqBallot N) ls_laws_eqBallot trivial (N := N) (by kernel_rfl) (fn_laws_eqBallot N)
/-! laws_eqBallotS -/
noncomputable def ks_laws_eqBallotS_l4 : List Kd := [.v (.sl tQIIIE) .k, .v (.sl tQIIIE) .k, dK, dK, dK, .v (.int .i64) .k, dK, dK, dK, dK, dK, dK, dK, dK, dK, dK, dK, dK, dK, dK, dK, dK, dK, dK, dK, dK, dK]
noncomputable def ko_laws_eqBallotS_l4_0 : List Kd := [dK, dK, dK, dK, dK, dK, dK, dK, dK, dK, dK, dK, dK, dK, dK, dK, dK, dK, dK, dK, dK, dK, dK, dK, dK, dK, dK]
noncomputable def ko_laws_eqBallotS_l4_1 : List Kd := [dK, dK, dK, dK, .v .bool .k, dK, dK, dK, dK, dK, dK, dK, dK, dK, dK, dK, dK, dK, dK, dK, dK, dK, dK, dK, dK, dK, dK]
noncomputable def h_laws_eqBallotS : Hint := { tab, hn := [], loops := [(4, ks_laws_eqBallotS_l4)], outs := [(4, 2, ko_laws_eqBallotS_l4_0), (4, 1, ko_laws_eqBallotS_l4_1)], ords := [(6, (OT.seq [0, 1, 2, 3, 4, 5, 6, 7, 8, 9] .done))] }
noncomputable def sg_laws_eqBallotS : List AK := [.v (.sl tQIIIE) .k, .v (.sl tQIIIE) .k]
noncomputable def F_laws_eqBallotS (N : Nat) (x : AVals sg_laws_eqBallotS) (kf : Ret → Option Ret) : Option Ret := laws_eqBallotS N x.1 x.2.1 (fun r0 => kf ⟨[⟨.bool, .k, r0⟩], []⟩)
noncomputable def run_laws_eqBallotS (N : Nat) := runOf sg_laws_eqBallotS (F_laws_eqBallotS N)
noncomputable def es_laws_eqBallotS (N : Nat) : List Entry := [⟨82, [.val, .val], (run_laws_eqBallot N)⟩]
noncomputable def body_laws_eqBallotS : Code := match Try.f46.body with | some c => c | none => .skip
noncomputable def L_laws_eqBallotS (N n : Nat) (key : Nat) (S : St) (K : Ks) : Option Ret := bif Nat.beq key 4 then withVals ks_laws_eqBallotS_l4 S (fun x => laws_eqBallotS_l4 N x.1 x.2.1 n (K (.x 0) (shape ko_laws_eqBallotS_l4_0 ())) (fun z0 => K .r (shape ko_laws_eqBallotS_l4_1 (z0, ()))) x.2.2.1) else none
theorem L0_laws_eqBallotS (N key : Nat) (S : St) (K : Ks) : L_laws_eqBallotS N 0 key S K = none := (bif0 (withVals0 fun _ => rfl) rfl)
noncomputable def c_laws_eqBallotS_0 : Code := (loopsIn body_laws_eqBallotS).getD 0 .skip
theorem ls_laws_eqBallotS : loopsIn body_laws_eqBallotS = [c_laws_eqBallotS_0] := by kernel_rfl
theorem rd_laws_eqBallotS_4 (N n : Nat) (x : Vals ks_laws_eqBallotS_l4) (K : Ks) : L_laws_eqBallotS N (n + 1) 4 (shape ks_laws_eqBallotS_l4 x) (h_laws_eqBallotS.onOut 4 K) = peRound h_laws_eqBallotS (Orc.of (es_laws_eqBallotS N)) (mixL (L_laws_eqBallotS N) N n 4) c_laws_eqBallotS_0 (shape ks_laws_eqBallotS_l4 x) (h_laws_eqBallotS.onOut 4 K) := by kernel_rfl
theorem fn_laws_eqBallotS (N : Nat) (x : AVals sg_laws_eqBallotS) (kf : Ret → Option Ret) : F_laws_eqBallotS N x kf = peFunc h_laws_eqBallotS (Orc.of (es_laws_eqBallotS N)) (L_laws_eqBallotS N N) Try.f46 (ashape sg_laws_eqBallotS x) kf := by kernel_rfl
theorem sd_laws_eqBallotS (N : Nat) : Sound Try.prog 46 (run_laws_eqBallotS N) := fun_ok2 (hh := h_laws_eqBallotS) mixed tab_ok (es := es_laws_eqBallotS N) ⟨sd_laws_eqBallot N, trivial⟩ (fn := Try.f46) (body := body_laws_eqBallotS) (by kernel_rfl) (by kernel_rfl) (by kernel_rfl) (by kernel_rfl) (by kernel_rfl) (Lf := L_laws_eqBallotS N) (L0_laws_eqBallotS N) ls_laws_eqBallotS (round_cons (key := 4) (ks := ks_laws_eqBallotS_l4) (by kernel_rfl) (by kernel_rfl) (rd_laws_eqBallotS_4 N) trivial) (N := N) (by kernel_rfl) (fn_laws_eqBallotS N)
/-! laws_eqLine -/
noncomputable def h_laws_eqLine : Hint := { tab, hn := [], loops := [], outs := [], ords := [] }
noncomputable def sg_laws_eqLine : List AK := [.v tQIIIIE .k, .v tQIIIIE .k]
noncomputable def F_laws_eqLine (N : Nat) (x : AVals sg_laws_eqLine) (kf : Ret → Option Ret) : Option Ret := laws_eqLine N x.1 x.2.1 (fun r0 => kf ⟨[⟨.bool, .k, r0⟩], []⟩)
noncomputable def run_laws_eqLine (N : Nat) := runOf sg_laws_eqLine (F_laws_eqLine N)
noncomputable def es_laws_eqLine (N : Nat) : List Entry := []
noncomputable def body_laws_eqLine : Code := match Try.f83.body with | some c => c | none => .skip
noncomputable def L_laws_eqLine (N n : Nat) (key : Nat) (S : St) (K : Ks) : Option Ret := none
theorem L0_laws_eqLine (N key : Nat) (S : St) (K : Ks) : L_laws_eqLine N 0 key S K = none := rfl
theorem ls_laws_eqLine : loopsIn body_laws_eqLine = [] := by kernel_rfl
theorem fn_laws_eqLine (N : Nat) (x : AVals sg_laws_eqLine) (kf : Ret → Option Ret) : F_laws_eqLine N x kf = peFunc h_laws_eqLine (Orc.of (es_laws_eqLine N)) (L_laws_eqLine N N) Try.f83 (ashape sg_laws_eqLine x) kf := by kernel_rfl
theorem sd_laws_eqLine (N : Nat) : Sound Try.prog 83 (run_laws_eqLine N) := fun_ok2 (hh := h_laws_eqLine) mixed tab_ok (es := es_laws_eqLine N) trivial (fn := Try.f83) (body := body_laws_eqLine) (by kernel_rfl) (by kernel_rfl) (by kernel_rfl) (by kernel_rfl) (by kernel_rfl) (Lf := L_laws_eqLine N) (L0_laws_eqLine N) ls_laws_eqLine trivial (N := N) (by kernel_rfl) (fn_laws_eqLine N)
/-! laws_eqLineS -/
noncomputable def ks_laws_eqLineS_l4 : List Kd := [.v (.sl tQIIIIE) .k, .v (.sl tQIIIIE) .k, dK, dK, dK, .v (.int .i64) .k, dK, dK, dK, dK, dK, dK, dK, dK, dK, dK, dK, dK, dK, dK, dK, dK, dK, dK, dK, dK, dK]
noncomputable def ko_laws_eqLineS_l4_0 : List Kd := [dK, dK, dK, dK, dK, dK, dK, dK, dK, dK, dK, dK, dK, dK, dK, dK, dK, dK, dK, dK, dK, dK, dK, dK, dK, dK, dK]
noncomputable def ko_laws_eqLineS_l4_1 : List Kd := [dK, dK, dK, dK, .v .bool .k, dK, dK, dK, dK, dK, dK, dK, dK, dK, dK, dK, dK, dK, dK, dK, dK, dK, dK, dK, dK, dK, dK]
noncomputable def h_laws_eqLineS : Hint := { tab, hn := [], loops := [(4, ks_laws_eqLineS_l4)], outs := [(4, 2, ko_laws_eqLineS_l4_0), (4, 1, ko_laws_eqLineS_l4_1)], ords := [(6, (OT.seq [0, 1, 2, 3, 4, 5, 6, 7, 8, 9] .done))] }
noncomputable def sg_laws_eqLineS : List AK := [.v (.sl tQIIIIE) .k, .v (.sl tQIIIIE) .k]
noncomputable def F_laws_eqLineS (N : Nat) (x : AVals sg_laws_eqLineS) (kf : Ret → Option Ret) : Option Ret := laws_eqLineS N x.1 x.2.1 (fun r0 => kf ⟨[⟨.bool, .k, r0⟩], []⟩)
noncomputable def run_laws_eqLineS (N : Nat) := runOf sg_laws_eqLineS (F_laws_eqLineS N)
noncomputable def es_laws_eqLineS (N : Nat) : List Entry := [⟨83, [.val, .val], (run_laws_eqLine N)⟩]
noncomputable def body_laws_eqLineS : Code := match Try.f47.body with | some c => c | none => .skip
noncomputable def L_laws_eqLineS (N n : Nat) (key : Nat) (S : St) (K : Ks) : Option Ret := bif Nat.beq key 4 then withVals ks_laws_eqLineS_l4 S (fun x => laws_eqLineS_l4 N x.1 x.2.1 n (K (.x 0) (shape ko_laws_eqLineS_l4_0 ())) (fun z0 => K .r (shape ko_laws_eqLineS_l4_1 (z0, ()))) x.2.2.1) else none
theorem L0_laws_eqLineS (N key : Nat) (S : St) (K : Ks) : L_laws_eqLineS N 0 key S K = none := (bif0 (withVals0 fun _ => rfl) rfl)
noncomputable def c_laws_eqLineS_0 : Code := (loopsIn body_laws_eqLineS).getD 0 .skip
theorem ls_laws_eqLineS : loopsIn body_laws_eqLineS = [c_laws_eqLineS_0] := by kernel_rfl
theorem rd_laws_eqLineS_4 (N n : Nat) (x : Vals ks_laws_eqLineS_l4) (K : Ks) : L_laws_eqLineS N (n + 1) 4 (shape ks_laws_eqLineS_l4 x) (h_laws_eqLineS.onOut 4 K) = peRound h_laws_eqLineS (Orc.of (es_laws_eqLineS N)) (mixL (L_laws_eqLineS N) N n 4) c_laws_eqLineS_0 (shape ks_laws_eqLineS_l4 x) (h_laws_eqLineS.onOut 4 K) := by kernel_rfl
theorem fn_laws_eqLineS (N : Nat) (x : AVals sg_laws_eqLineS) (kf : Ret → Option Ret) : F_laws_eqLineS N x kf = peFunc h_laws_eqLineS (Orc.of (es_laws_eqLineS N)) (L_laws_eqLineS N N) Try.f47 (ashape sg_laws_eqLineS x) kf := by kernel_rfl
theorem sd_laws_eqLineS (N : Nat) : Sound Try.prog 47 (run_laws_eqLineS N) := fun_ok2 (hh := h_laws_eqLineS) mixed tab_ok (es := es_laws_eqLineS N) ⟨sd_laws_eqLine N, trivial⟩ (fn := Try.f47) (body := body_laws_eqLineS) (by kernel_rfl) (by kernel_rfl) (by kernel_rfl) (by kernel_rfl) (by kernel_rfl) (Lf := L_laws_eqLineS N) (L0_laws_eqLineS N) ls_laws_eqLineS (round_cons (key := 4) (ks := ks_laws_eqLineS_l4) (by kernel_rfl) (by kernel_rfl) (rd_laws_eqLineS_4 N) trivial) (N := N) (by kernel_rfl) (fn_laws_eqLineS N)
/-! laws_eqClub -/
noncomputable def h_laws_eqClub : Hint := { tab, hn := [], loops := [], outs := [], ords := [] }
noncomputable def sg_laws_eqClub : List AK := [.v tQLQIIIIILIELQIILIELQIIELILQIIIELQIIIIEIE .k, .v tQLQIIIIILIELQIILIELQIIELILQIIIELQIIIIEIE .k]
noncomputable def F_laws_eqClub (N : Nat) (x : AVals sg_laws_eqClub) (kf : Ret → Option Ret) : Option Ret := laws_eqClub N x.1 x.2.1 (fun r0 => kf ⟨[⟨.bool, .k, r0⟩], []⟩)
noncomputable def run_laws_eqClub (N : Nat) := runOf sg_laws_eqClub (F_laws_eqClub N)
noncomputable def es_laws_eqClub (N : Nat) : List Entry := [⟨43, [.val, .val], (run_laws_eqTeamS N)⟩, ⟨44, [.val, .val], (run_laws_eqJudgeS N)⟩, ⟨45, [.val, .val], (run_laws_eqPairS N)⟩, ⟨11, [.val, .val], (run_laws_eqIntS N)⟩, ⟨46, [.val, .val], (run_laws_eqBallotS N)⟩, ⟨47, [.val, .val], (run_laws_eqLineS N)⟩]
noncomputable def body_laws_eqClub : Code := match Try.f18.body with | some c => c | none => .skip
noncomputable def L_laws_eqClub (N n : Nat) (key : Nat) (S : St) (K : Ks) : Option Ret := none
theorem L0_laws_eqClub (N key : Nat) (S : St) (K : Ks) : L_laws_eqClub N 0 key S K = none := rfl
theorem ls_laws_eqClub : loopsIn body_laws_eqClub = [] := by kernel_rfl
theorem fn_laws_eqClub (N : Nat) (x : AVals sg_laws_eqClub) (kf : Ret → Option Ret) : F_laws_eqClub N x kf = peFunc h_laws_eqClub (Orc.of (es_laws_eqClub N)) (L_laws_eqClub N N) Try.f18 (ashape sg_laws_eqClub x) kf := by kernel_rfl
theorem sd_laws_eqClub (N : Nat) : Sound Try.prog 18 (run_laws_eqClub N) := fun_ok2 (hh := h_laws_eqClub) mixed tab_ok (es := es_laws_eqClub N) ⟨sd_laws_eqTeamS N, ⟨sd_laws_eqJudgeS N, ⟨sd_laws_eqPairS N, ⟨sd_laws_eqIntS N, ⟨sd_laws_eqBallotS N, ⟨sd_laws_eqLineS N, trivial⟩⟩⟩⟩⟩⟩ (fn := Try.f18) (body := body_laws_eqClub) (by kernel_rfl) (by kernel_rfl) (by kernel_rfl) (by kernel_rfl) (by kernel_rfl) (Lf := L_laws_eqClub N) (L0_laws_eqClub N) ls_laws_eqClub trivial (N := N) (by kernel_rfl) (fn_laws_eqClub N)
/-! spec_EqualInts -/
noncomputable def ks_spec_EqualInts_l4 : List Kd := [.v (.sl (.int .i64)) .k, .v (.sl (.int .i64)) .k, dK, dK, dK, .v (.int .i64) .k, dK, dK, dK, dK, dK, dK, dK, dK, dK, dK, dK, dK, dK, dK, dK, dK, dK, dK, dK, dK]
noncomputable def ko_spec_EqualInts_l4_0 : List Kd := [dK, dK, dK, dK, dK, dK, dK, dK, dK, dK, dK, dK, dK, dK, dK, dK, dK, dK, dK, dK, dK, dK, dK, dK, dK, dK]
noncomputable def ko_spec_EqualInts_l4_1 : List Kd := [dK, dK, dK, dK, .v .bool .k, dK, dK, dK, dK, dK, dK, dK, dK, dK, dK, dK, dK, dK, dK, dK, dK, dK, dK, dK, dK, dK]
noncomputable def h_spec_EqualInts : Hint := { tab, hn := [], loops := [(4, ks_spec_EqualInts_l4)], outs := [(4, 2, ko_spec_EqualInts_l4_0), (4, 1, ko_spec_EqualInts_l4_1)], ords := [(6, (OT.seq [0, 1, 2, 3, 4, 5, 6, 7, 8] .done))] }
noncomputable def sg_spec_EqualInts : List AK := [.v (.sl (.int .i64)) .k, .v (.sl (.int .i64)) .k]
noncomputable def F_spec_EqualInts (N : Nat) (x : AVals sg_spec_EqualInts) (kf : Ret → Option Ret) : Option Ret := spec_EqualInts N x.1 x.2.1 (fun r0 => kf ⟨[⟨.bool, .k, r0⟩], []⟩)
noncomputable def run_spec_EqualInts (N : Nat) := runOf sg_spec_EqualInts (F_spec_EqualInts N)
noncomputable def es_spec_EqualInts (N : Nat) : List Entry := []
noncomputable def body_spec_EqualInts : Code := match Try.f56.body with | some c => c | none => .skip
noncomputable def L_spec_EqualInts (N n : Nat) (key : Nat) (S : St) (K : Ks) : Option Ret := bif Nat.beq key 4 then withVals ks_spec_EqualInts_l4 S (fun x => spec_EqualInts_l4 x.1 x.2.1 n (K (.x 0) (shape ko_spec_EqualInts_l4_0 ())) (fun z0 => K .r (shape ko_spec_EqualInts_l4_1 (z0, ()))) x.2.2.1) else none
theorem L0_spec_EqualInts (N key : Nat) (S : St) (K : Ks) : L_spec_EqualInts N 0 key S K = none := (bif0 (withVals0 fun _ => rfl) rfl)
noncomputable def c_spec_EqualInts_0 : Code := (loopsIn body_spec_EqualInts).getD 0 .skip
theorem ls_spec_EqualInts : loopsIn body_spec_EqualInts = [c_spec_EqualInts_0] := by kernel_rfl
theorem rd_spec_EqualInts_4 (N n : Nat) (x : Vals ks_spec_EqualInts_l4) (K : Ks) : L_spec_EqualInts N (n + 1) 4 (shape ks_spec_EqualInts_l4 x) (h_spec_EqualInts.onOut 4 K) = peRound h_spec_EqualInts (Orc.of (es_spec_EqualInts N)) (mixL (L_spec_EqualInts N) N n 4) c_spec_EqualInts_0 (shape ks_spec_EqualInts_l4 x) (h_spec_EqualInts.onOut 4 K) := by kernel_rfl
theorem fn_spec_EqualInts (N : Nat) (x : AVals sg_spec_EqualInts) (kf : Ret → Option Ret) : F_spec_EqualInts N x kf = peFunc h_spec_EqualInts (Orc.of (es_spec_EqualInts N)) (L_spec_EqualInts N N) Try.f56 (ashape sg_spec_EqualInts x) kf := by kernel_rfl
theorem sd_spec_EqualInts (N : Nat) : Sound Try.prog 56 (run_spec_EqualInts N) := fun_ok2 (hh := h_spec_EqualInts) mixed tab_ok (es := es_spec_EqualInts N) trivial (fn := Try.f56) (body := body_spec_EqualInts) (by kernel_rfl) (by kernel_rfl) (by kernel_rfl) (by kernel_rfl) (by kernel_rfl) (Lf := L_spec_EqualInts N) (L0_spec_EqualInts N) ls_spec_EqualInts (round_cons (key := 4) (ks := ks_spec_EqualInts_l4) (by kernel_rfl) (by kernel_rfl) (rd_spec_EqualInts_4 N) trivial) (N := N) (by kernel_rfl) (fn_spec_EqualInts N)
/-! spec_l33Teams -/
noncomputable def ks_spec_l33Teams_l4 : List Kd := [.v (.sl tQIIIIILIE) .k, .v (.sl tQIIIIILIE) .k, dK, dK, dK, .v (.int .i64) .k, dK, dK, dK, dK, dK, dK, dK, dK, dK, dK, dK, dK, dK, dK, dK, dK, dK, dK, dK, dK, dK, dK, dK, dK, dK, dK, dK, dK, dK, dK, dK, dK, dK, dK, dK, dK, dK, dK, dK, dK, dK, dK, dK, dK, dK, dK, dK, dK, dK, dK, dK, dK, dK, dK, dK, dK, dK, dK, dK, dK, dK, dK, dK, dK, dK, dK, dK, dK, dK, dK, dK, dK, dK, dK, dK, dK, dK, dK, dK, dK, dK, dK, dK, dK, dK, dK, dK, dK]
noncomputable def ko_spec_l33Teams_l4_0 : List Kd := [dK, dK, dK, dK, dK, dK, dK, dK, dK, dK, dK, dK, dK, dK, dK, dK, dK, dK, dK, dK, dK, dK, dK, dK, dK, dK, dK, dK, dK, dK, dK, dK, dK, dK, dK, dK, dK, dK, dK, dK, dK, dK, dK, dK, dK, dK, dK, dK, dK, dK, dK, dK, dK, dK, dK, dK, dK, dK, dK, dK, dK, dK, dK, dK, dK, dK, dK, dK, dK, dK, dK, dK, dK, dK, dK, dK, dK, dK, dK, dK, dK, dK, dK, dK, dK, dK, dK, dK, dK, dK, dK, dK, dK, dK]
noncomputable def ko_spec_l33Teams_l4_1 : List Kd := [dK, dK, dK, dK, .v .bool .k, dK, dK, dK, dK, dK, dK, dK, dK, dK, dK, dK, dK, dK, dK, dK, dK, dK, dK, dK, dK, dK, dK, dK, dK, dK, dK, dK, dK, dK, dK, dK, dK, dK, dK, dK, dK, dK, dK, dK, dK, dK, dK, dK, dK, dK, dK, dK, dK, dK, dK, dK, dK, dK, dK, dK, dK, dK, dK, dK, dK, dK, dK, dK, dK, dK, dK, dK, dK, dK, dK, dK, dK, dK, dK, dK, dK, dK, dK, dK, dK, dK, dK, dK, dK, dK, dK, dK, dK, dK]
noncomputable def h_spec_l33Teams : Hint := { tab, hn := [], loops := [(4, ks_spec_l33Teams_l4)], outs := [(4, 2, ko_spec_l33Teams_l4_0), (4, 1, ko_spec_l33Teams_l4_1)], ords := [(6, (OT.seq [0, 1, 2, 3, 4, 5, 6, 7, 8, 9, 10, 11, 12, 13, 14, 15, 16, 17, 18, 19, 20, 21, 22, 23, 24, 25, 26, 27, 28, 29, 30, 31, 32, 33, 34, 35, 36, 37, 38, 39, 40, 41, 42, 43, 44, 45, 46, 47, 48, 49, 50, 51, 52, 53, 54, 55, 56, 57, 58, 59, 60, 61, 62, 63, 64, 65, 66, 67, 68, 69, 70, 71, 72, 73, 74, 75, 76] .done))] }
noncomputable def sg_spec_l33Teams : List AK := [.v (.sl tQIIIIILIE) .k, .v (.sl tQIIIIILIE) .k]
noncomputable def F_spec_l33Teams (N : Nat) (x : AVals sg_spec_l33Teams) (kf : Ret → Option Ret) : Option Ret := spec_l33Teams N x.1 x.2.1 (fun r0 => kf ⟨[⟨.bool, .k, r0⟩], []⟩)
noncomputable def run_spec_l33Teams (N : Nat) := runOf sg_spec_l33Teams (F_spec_l33Teams N)
noncomputable def es_spec_l33Teams (N : Nat) : List Entry := [⟨56, [.val, .val], (run_spec_EqualInts N)⟩]
noncomputable def body_spec_l33Teams : Code := match Try.f54.body with | some c => c | none => .skip
noncomputable def L_spec_l33Teams (N n : Nat) (key : Nat) (S : St) (K : Ks) : Option Ret := bif Nat.beq key 4 then withVals ks_spec_l33Teams_l4 S (fun x => spec_l33Teams_l4 N x.1 x.2.1 n (K (.x 0) (shape ko_spec_l33Teams_l4_0 ())) (fun z0 => K .r (shape ko_spec_l33Teams_l4_1 (z0, ()))) x.2.2.1) else none
theorem L0_spec_l33Teams (N key : Nat) (S : St) (K : Ks) : L_spec_l33Teams N 0 key S K = none := (bif0 (withVals0 fun _ => rfl) rfl)
noncomputable def c_spec_l33Teams_0 : Code := (loopsIn body_spec_l33Teams).getD 0 .skip
theorem ls_spec_l33Teams : loopsIn body_spec_l33Teams = [c_spec_l33Teams_0] := by kernel_rfl
theorem rd_spec_l33Teams_4 (N n : Nat) (x : Vals ks_spec_l33Teams_l4) (K : Ks) : L_spec_l33Teams N (n + 1) 4 (shape ks_spec_l33Teams_l4 x) (h_spec_l33Teams.onOut 4 K) = peRound h_spec_l33Teams (Orc.of (es_spec_l33Teams N)) (mixL (L_spec_l33Teams N) N n 4) c_spec_l33Teams_0 (shape ks_spec_l33Teams_l4 x) (h_spec_l33Teams.onOut 4 K) := by kernel_rfl
theorem fn_spec_l33Teams (N : Nat) (x : AVals sg_spec_l33Teams) (kf : Ret → Option Ret) : F_spec_l33Teams N x kf = peFunc h_spec_l33Teams (Orc.of (es_spec_l33Teams N)) (L_spec_l33Teams N N) Try.f54 (ashape sg_spec_l33Teams x) kf := by kernel_rfl
theorem sd_spec_l33Teams (N : Nat) : Sound Try.prog 54 (run_spec_l33Teams N) := fun_ok2 (hh := h_spec_l33Teams) mixed tab_ok (es := es_spec_l33Teams N) ⟨sd_spec_EqualInts N, trivial⟩ (fn := Try.f54) (body := body_spec_l33Teams) (by kernel_rfl) (by kernel_rfl) (by kernel_rfl) (by kernel_rfl) (by kernel_rfl) (Lf := L_spec_l33Teams N) (L0_spec_l33Teams N) ls_spec_l33Teams (round_cons (key := 4) (ks := ks_spec_l33Teams_l4) (by kernel_rfl) (by kernel_rfl) (rd_spec_l33Teams_4 N) trivial) (N := N) (by kernel_rfl) (fn_spec_l33Teams N)
/-! spec_l33JudgesSame -/
noncomputable def ks_spec_l33JudgesSame_l4 : List Kd := [.v (.sl tQIILIE) .k, .v (.sl tQIILIE) .k, dK, dK, dK, .v (.int .i64) .k, dK, dK, dK, dK, dK, dK, dK, dK, dK, dK, dK, dK, dK, dK, dK, dK, dK, dK, dK, dK, dK, dK, dK, dK, dK, dK, dK, dK, dK, dK, dK, dK, dK, dK, dK, dK, dK, dK, dK, dK, dK, dK, dK, dK, dK, dK, dK, dK, dK]
noncomputable def ko_spec_l33JudgesSame_l4_0 : List Kd := [dK, dK, dK, dK, dK, dK, dK, dK, dK, dK, dK, dK, dK, dK, dK, dK, dK, dK, dK, dK, dK, dK, dK, dK, dK, dK, dK, dK, dK, dK, dK, dK, dK, dK, dK, dK, dK, dK, dK, dK, dK, dK, dK, dK, dK, dK, dK, dK, dK, dK, dK, dK, dK, dK, dK]
noncomputable def ko_spec_l33JudgesSame_l4_1 : List Kd := [dK, dK, dK, dK, .v .bool .k, dK, dK, dK, dK, dK, dK, dK, dK, dK, dK, dK, dK, dK, dK, dK, dK, dK, dK, dK, dK, dK, dK, dK, dK, dK, dK, dK, dK, dK, dK, dK, dK, dK, dK, dK, dK, dK, dK, dK, dK, dK, dK, dK, dK, dK, dK, dK, dK, dK, dK]
noncomputable def h_spec_l33JudgesSame : Hint := { tab, hn := [], loops := [(4, ks_spec_l33JudgesSame_l4)], outs := [(4, 2, ko_spec_l33JudgesSame_l4_0), (4, 1, ko_spec_l33JudgesSame_l4_1)], ords := [(6, (OT.seq [0, 1, 2, 3, 4, 5, 6, 7, 8, 9, 10, 11, 12, 13, 14, 15, 16, 17, 18, 19, 20, 21, 22, 23, 24, 25, 26, 27, 28, 29, 30, 31, 32, 33, 34, 35, 36, 37] .done))] }
noncomputable def sg_spec_l33JudgesSame : List AK := [.v (.sl tQIILIE) .k, .v (.sl tQIILIE) .k]
noncomputable def F_spec_l33JudgesSame (N : Nat) (x : AVals sg_spec_l33JudgesSame) (kf : Ret → Option Ret) : Option Ret := spec_l33JudgesSame N x.1 x.2.1 (fun r0 => kf ⟨[⟨.bool, .k, r0⟩], []⟩)
noncomputable def run_spec_l33JudgesSame (N : Nat) := runOf sg_spec_l33JudgesSame (F_spec_l33JudgesSame N)
noncomputable def es_spec_l33JudgesSame (N : Nat) : List Entry := [⟨56, [.val, .val], (run_spec_EqualInts N)⟩]
noncomputable def body_spec_l33JudgesSame : Code := match Try.f55.body with | some c => c | none => .skip
noncomputable def L_spec_l33JudgesSame (N n : Nat) (key : Nat) (S : St) (K : Ks) : Option Ret := bif Nat.beq key 4 then withVals ks_spec_l33JudgesSame_l4 S (fun x => spec_l33JudgesSame_l4 N x.1 x.2.1 n (K (.x 0) (shape ko_spec_l33JudgesSame_l4_0 ())) (fun z0 => K .r (shape ko_spec_l33JudgesSame_l4_1 (z0, ()))) x.2.2.1) else none
theorem L0_spec_l33JudgesSame (N key : Nat) (S : St) (K : Ks) : L_spec_l33JudgesSame N 0 key S K = none := (bif0 (withVals0 fun _ => rfl) rfl)
noncomputable def c_spec_l33JudgesSame_0 : Code := (loopsIn body_spec_l33JudgesSame).getD 0 .skip
theorem ls_spec_l33JudgesSame : loopsIn body_spec_l33JudgesSame = [c_spec_l33JudgesSame_0] := by kernel_rfl
theorem rd_spec_l33JudgesSame_4 (N n : Nat) (x : Vals ks_spec_l33JudgesSame_l4) (K : Ks) : L_spec_l33JudgesSame N (n + 1) 4 (shape ks_spec_l33JudgesSame_l4 x) (h_spec_l33JudgesSame.onOut 4 K) = peRound h_spec_l33JudgesSame (Orc.of (es_spec_l33JudgesSame N)) (mixL (L_spec_l33JudgesSame N) N n 4) c_spec_l33JudgesSame_0 (shape ks_spec_l33JudgesSame_l4 x) (h_spec_l33JudgesSame.onOut 4 K) := by kernel_rfl
theorem fn_spec_l33JudgesSame (N : Nat) (x : AVals sg_spec_l33JudgesSame) (kf : Ret → Option Ret) : F_spec_l33JudgesSame N x kf = peFunc h_spec_l33JudgesSame (Orc.of (es_spec_l33JudgesSame N)) (L_spec_l33JudgesSame N N) Try.f55 (ashape sg_spec_l33JudgesSame x) kf := by kernel_rfl
theorem sd_spec_l33JudgesSame (N : Nat) : Sound Try.prog 55 (run_spec_l33JudgesSame N) := fun_ok2 (hh := h_spec_l33JudgesSame) mixed tab_ok (es := es_spec_l33JudgesSame N) ⟨sd_spec_EqualInts N, trivial⟩ (fn := Try.f55) (body := body_spec_l33JudgesSame) (by kernel_rfl) (by kernel_rfl) (by kernel_rfl) (by kernel_rfl) (by kernel_rfl) (Lf := L_spec_l33JudgesSame N) (L0_spec_l33JudgesSame N) ls_spec_l33JudgesSame (round_cons (key := 4) (ks := ks_spec_l33JudgesSame_l4) (by kernel_rfl) (by kernel_rfl) (rd_spec_l33JudgesSame_4 N) trivial) (N := N) (by kernel_rfl) (fn_spec_l33JudgesSame N)
/-! spec_l33Lists -/
noncomputable def ks_spec_l33Lists_l4 : List Kd := [dK, dK, .v (.ptr tQLQIIIIILIELQIILIELQIIELILQIIIELQIIIIEIE) (.o 43 none .k), .v (.ptr tQLQIIIIILIELQIILIELQIIELILQIIIELQIIIIEIE) (.o 43 none .k), dK, .v (.int .i64) .k, dK, dK, dK, dK, dK, dK, dK, dK, dK, dK, dK, dK, dK, dK, dK, dK, dK, dK, dK, dK, dK, dK, dK, dK, dK, dK, dK, dK, dK, dK, dK, dK, dK, dK, dK, dK, dK, dK, dK, dK, dK, dK, dK, dK, dK, dK, dK, dK, dK, dK, dK, dK, dK, dK, dK, dK, dK, dK, dK, dK, dK, dK, dK, dK, dK, dK, dK, dK, dK, dK, dK, dK, dK, dK, dK, dK, dK, dK, dK, dK, dK]
noncomputable def ko_spec_l33Lists_l4_0 : List Kd := [dK, dK, .v (.ptr tQLQIIIIILIELQIILIELQIIELILQIIIELQIIIIEIE) (.o 43 none .k), .v (.ptr tQLQIIIIILIELQIILIELQIIELILQIIIELQIIIIEIE) (.o 43 none .k), dK, dK, dK, dK, dK, dK, dK, dK, dK, dK, dK, dK, dK, dK, dK, dK, dK, dK, dK, dK, dK, dK, dK, dK, dK, dK, dK, dK, dK, dK, dK, dK, dK, dK, dK, dK, dK, dK, dK, dK, dK, dK, dK, dK, dK, dK, dK, dK, dK, dK, dK, dK, dK, dK, dK, dK, dK, dK, dK, dK, dK, dK, dK, dK, dK, dK, dK, dK, dK, dK, dK, dK, dK, dK, dK, dK, dK, dK, dK, dK, dK, dK, dK]
noncomputable def ko_spec_l33Lists_l4_1 : List Kd := [dK, dK, dK, dK, .v .bool .k, dK, dK, dK, dK, dK, dK, dK, dK, dK, dK, dK, dK, dK, dK, dK, dK, dK, dK, dK, dK, dK, dK, dK, dK, dK, dK, dK, dK, dK, dK, dK, dK, dK, dK, dK, dK, dK, dK, dK, dK, dK, dK, dK, dK, dK, dK, dK, dK, dK, dK, dK, dK, dK, dK, dK, dK, dK, dK, dK, dK, dK, dK, dK, dK, dK, dK, dK, dK, dK, dK, dK, dK, dK, dK, dK, dK, dK, dK, dK, dK, dK, dK]
noncomputable def ks_spec_l33Lists_l9 : List Kd := [dK, dK, .v (.ptr tQLQIIIIILIELQIILIELQIIELILQIIIELQIIIIEIE) (.o 43 none .k), .v (.ptr tQLQIIIIILIELQIILIELQIIELILQIIIELQIIIIEIE) (.o 43 none .k), dK, dK, .v (.int .i64) .k, dK, dK, dK, dK, dK, dK, dK, dK, dK, dK, dK, dK, dK, dK, dK, dK, dK, dK, dK, dK, dK, dK, dK, dK, dK, dK, dK, dK, dK, dK, dK, dK, dK, dK, dK, dK, dK, dK, dK, dK, dK, dK, dK, dK, dK, dK, dK, dK, dK, dK, dK, dK, dK, dK, dK, dK, dK, dK, dK, dK, dK, dK, dK, dK, dK, dK, dK, dK, dK, dK, dK, dK, dK, dK, dK, dK, dK, dK, dK, dK]
noncomputable def ko_spec_l33Lists_l9_0 : List Kd := [dK, dK, .v (.ptr tQLQIIIIILIELQIILIELQIIELILQIIIELQIIIIEIE) (.o 43 none .k), .v (.ptr tQLQIIIIILIELQIILIELQIIELILQIIIELQIIIIEIE) (.o 43 none .k), dK, dK, dK, dK, dK, dK, dK, dK, dK, dK, dK, dK, dK, dK, dK, dK, dK, dK, dK, dK, dK, dK, dK, dK, dK, dK, dK, dK, dK, dK, dK, dK, dK, dK, dK, dK, dK, dK, dK, dK, dK, dK, dK, dK, dK, dK, dK, dK, dK, dK, dK, dK, dK, dK, dK, dK, dK, dK, dK, dK, dK, dK, dK, dK, dK, dK, dK, dK, dK, dK, dK, dK, dK, dK, dK, dK, dK, dK, dK, dK, dK, dK, dK]
noncomputable def ko_spec_l33Lists_l9_1 : List Kd := [dK, dK, dK, dK, .v .bool .k, dK, dK, dK, dK, dK, dK, dK, dK, dK, dK, dK, dK, dK, dK, dK, dK, dK, dK, dK, dK, dK, dK, dK, dK, dK, dK, dK, dK, dK, dK, dK, dK, dK, dK, dK, dK, dK, dK, dK, dK, dK, dK, dK, dK, dK, dK, dK, dK, dK, dK, dK, dK, dK, dK, dK, dK, dK, dK, dK, dK, dK, dK, dK, dK, dK, dK, dK, dK, dK, dK, dK, dK, dK, dK, dK, dK, dK, dK, dK, dK, dK, dK]
noncomputable def ks_spec_l33Lists_l14 : List Kd := [dK, dK, .v (.ptr tQLQIIIIILIELQIILIELQIIELILQIIIELQIIIIEIE) (.o 43 none .k), .v (.ptr tQLQIIIIILIELQIILIELQIIELILQIIIELQIIIIEIE) (.o 43 none .k), dK, dK, dK, .v (.int .i64) .k, dK, dK, dK, dK, dK, dK, dK, dK, dK, dK, dK, dK, dK, dK, dK, dK, dK, dK, dK, dK, dK, dK, dK, dK, dK, dK, dK, dK, dK, dK, dK, dK, dK, dK, dK, dK, dK, dK, dK, dK, dK, dK, dK, dK, dK, dK, dK, dK, dK, dK, dK, dK, dK, dK, dK, dK, dK, dK, dK, dK, dK, dK, dK, dK, dK, dK, dK, dK, dK, dK, dK, dK, dK, dK, dK, dK, dK, dK, dK]
noncomputable def ko_spec_l33Lists_l14_0 : List Kd := [dK, dK, dK, dK, dK, dK, dK, dK, dK, dK, dK, dK, dK, dK, dK, dK, dK, dK, dK, dK, dK, dK, dK, dK, dK, dK, dK, dK, dK, dK, dK, dK, dK, dK, dK, dK, dK, dK, dK, dK, dK, dK, dK, dK, dK, dK, dK, dK, dK, dK, dK, dK, dK, dK, dK, dK, dK, dK, dK, dK, dK, dK, dK, dK, dK, dK, dK, dK, dK, dK, dK, dK, dK, dK, dK, dK, dK, dK, dK, dK, dK, dK, dK, dK, dK, dK, dK]
noncomputable def ko_spec_l33Lists_l14_1 : List Kd := [dK, dK, dK, dK, .v .bool .k, dK, dK, dK, dK, dK, dK, dK, dK, dK, dK, dK, dK, dK, dK, dK, dK, dK, dK, dK, dK, dK, dK, dK, dK, dK, dK, dK, dK, dK, dK, dK, dK, dK, dK, dK, dK, dK, dK, dK, dK, dK, dK, dK, dK, dK, dK, dK, dK, dK, dK, dK, dK, dK, dK, dK, dK, dK, dK, dK, dK, dK, dK, dK, dK, dK, dK, dK, dK, dK, dK, dK, dK, dK, dK, dK, dK, dK, dK, dK, dK, dK, dK]
noncomputable def h_spec_l33Lists : Hint := { tab, hn := [], loops := [(4, ks_spec_l33Lists_l4), (9, ks_spec_l33Lists_l9), (14, ks_spec_l33Lists_l14)], outs := [(4, 2, ko_spec_l33Lists_l4_0), (4, 1, ko_spec_l33Lists_l4_1), (9, 4, ko_spec_l33Lists_l9_0), (9, 1, ko_spec_l33Lists_l9_1), (14, 6, ko_spec_l33Lists_l14_0), (14, 1, ko_spec_l33Lists_l14_1)], ords := [(6, (OT.seq [0, 1, 2, 3, 4, 5, 6, 7, 8, 9, 10] .done)), (11, (OT.seq [0, 1, 2, 3, 4, 5, 6, 7, 8, 9, 10] .done)), (16, (OT.seq [0, 1, 2, 3, 4, 5, 6, 7, 8, 9, 10] .done))] }
noncomputable def sg_spec_l33Lists : List AK := [.v tQLQIIIIILIELQIILIELQIIELILQIIIELQIIIIEIE .k, .v tQLQIIIIILIELQIILIELQIIELILQIIIELQIIIIEIE .k]
noncomputable def F_spec_l33Lists (N : Nat) (x : AVals sg_spec_l33Lists) (kf : Ret → Option Ret) : Option Ret := spec_l33Lists N x.1 x.2.1 (fun r0 => kf ⟨[⟨.bool, .k, r0⟩], []⟩)
noncomputable def run_spec_l33Lists (N : Nat) := runOf sg_spec_l33Lists (F_spec_l33Lists N)
noncomputable def es_spec_l33Lists (N : Nat) : List Entry := []
noncomputable def body_spec_l33Lists : Code := match Try.f57.body with | some c => c | none => .skip
noncomputable def L_spec_l33Lists (N n : Nat) (key : Nat) (S : St) (K : Ks) : Option Ret := bif Nat.beq key 4 then withVals ks_spec_l33Lists_l4 S (fun x => spec_l33Lists_l4 x.1 x.2.1 n (K (.x 0) (shape ko_spec_l33Lists_l4_0 (x.1, x.2.1, ()))) (fun z0 => K .r (shape ko_spec_l33Lists_l4_1 (z0, ()))) x.2.2.1) else bif Nat.beq key 9 then withVals ks_spec_l33Lists_l9 S (fun x => spec_l33Lists_l9 x.1 x.2.1 n (K (.x 2) (shape ko_spec_l33Lists_l9_0 (x.1, x.2.1, ()))) (fun z0 => K .r (shape ko_spec_l33Lists_l9_1 (z0, ()))) x.2.2.1) else bif Nat.beq key 14 then withVals ks_spec_l33Lists_l14 S (fun x => spec_l33Lists_l14 x.1 x.2.1 n (K (.x 4) (shape ko_spec_l33Lists_l14_0 ())) (fun z0 => K .r (shape ko_spec_l33Lists_l14_1 (z0, ()))) x.2.2.1) else none
theorem L0_spec_l33Lists (N key : Nat) (S : St) (K : Ks) : L_spec_l33Lists N 0 key S K = none := (bif0 (withVals0 fun _ => rfl) (bif0 (withVals0 fun _ => rfl) (bif0 (withVals0 fun _ => rfl) rfl)))
noncomputable def c_spec_l33Lists_0 : Code := (loopsIn body_spec_l33Lists).getD 0 .skip
noncomputable def c_spec_l33Lists_1 : Code := (loopsIn body_spec_l33Lists).getD 1 .skip
noncomputable def c_spec_l33Lists_2 : Code := (loopsIn body_spec_l33Lists).getD 2 .skip
theorem ls_spec_l33Lists : loopsIn body_spec_l33Lists = [c_spec_l33Lists_0, c_spec_l33Lists_1, c_spec_l33Lists_2] := by kernel_rfl
theorem rd_spec_l33Lists_14 (N n : Nat) (x : Vals ks_spec_l33Lists_l14) (K : Ks) : L_spec_l33Lists N (n + 1) 14 (shape ks_spec_l33Lists_l14 x) (h_spec_l33Lists.onOut 14 K) = peRound h_spec_l33Lists (Orc.of (es_spec_l33Lists N)) (mixL (L_spec_l33Lists N) N n 14) c_spec_l33Lists_2 (shape ks_spec_l33Lists_l14 x) (h_spec_l33Lists.onOut 14 K) := by kernel_rfl
theorem rd_spec_l33Lists_9 (N n : Nat) (x : Vals ks_spec_l33Lists_l9) (K : Ks) : L_spec_l33Lists N (n + 1) 9 (shape ks_spec_l33Lists_l9 x) (h_spec_l33Lists.onOut 9 K) = peRound h_spec_l33Lists (Orc.of (es_spec_l33Lists N)) (mixL (L_spec_l33Lists N) N n 9) c_spec_l33Lists_1 (shape ks_spec_l33Lists_l9 x) (h_spec_l33Lists.onOut 9 K) := by kernel_rfl
theorem rd_spec_l33Lists_4 (N n : Nat) (x : Vals ks_spec_l33Lists_l4) (K : Ks) : L_spec_l33Lists N (n + 1) 4 (shape ks_spec_l33Lists_l4 x) (h_spec_l33Lists.onOut 4 K) = peRound h_spec_l33Lists (Orc.of (es_spec_l33Lists N)) (mixL (L_spec_l33Lists N) N n 4) c_spec_l33Lists_0 (shape ks_spec_l33Lists_l4 x) (h_spec_l33Lists.onOut 4 K) := by kernel_rfl
theorem fn_spec_l33Lists (N : Nat) (x : AVals sg_spec_l33Lists) (kf : Ret → Option Ret) : F_spec_l33Lists N x kf = peFunc h_spec_l33Lists (Orc.of (es_spec_l33Lists N)) (L_spec_l33Lists N N) Try.f57 (ashape sg_spec_l33Lists x) kf := by kernel_rfl
theorem sd_spec_l33Lists (N : Nat) : Sound Try.prog 57 (run_spec_l33Lists N) := fun_ok2 (hh := h_spec_l33Lists) mixed tab_ok (es := es_spec_l33Lists N) trivial (fn := Try.f57) (body := body_spec_l33Lists) (by kernel_rfl) (by kernel_rfl) (by kernel_rfl) (by kernel_rfl) (by kernel_rfl) (Lf := L_spec_l33Lists N) (L0_spec_l33Lists N) ls_spec_l33Lists (round_cons (key := 4) (ks := ks_spec_l33Lists_l4) (by kernel_rfl) (by kernel_rfl) (rd_spec_l33Lists_4 N) (round_cons (key := 9) (ks := ks_spec_l33Lists_l9) (by kernel_rfl) (by kernel_rfl) (rd_spec_l33Lists_9 N) (round_cons (key := 14) (ks := ks_spec_l33Lists_l14) (by kernel_rfl) (by kernel_rfl) (rd_spec_l33Lists_14 N) trivial))) (N := N) (by kernel_rfl) (fn_spec_l33Lists N)
/-! spec_EqualClubs -/
noncomputable def h_spec_EqualClubs : Hint := { tab, hn := [], loops := [], outs := [], ords := [] }
noncomputable def sg_spec_EqualClubs : List AK := [.v tQLQIIIIILIELQIILIELQIIELILQIIIELQIIIIEIE .k, .v tQLQIIIIILIELQIILIELQIIELILQIIIELQIIIIEIE .k]
noncomputable def F_spec_EqualClubs (N : Nat) (x : AVals sg_spec_EqualClubs) (kf : Ret → Option Ret) : Option Ret := spec_EqualClubs N x.1 x.2.1 (fun r0 => kf ⟨[⟨.bool, .k, r0⟩], []⟩)
noncomputable def run_spec_EqualClubs (N : Nat) := runOf sg_spec_EqualClubs (F_spec_EqualClubs N)
noncomputable def es_spec_EqualClubs (N : Nat) : List Entry := [⟨54, [.val, .val], (run_spec_l33Teams N)⟩, ⟨55, [.val, .val], (run_spec_l33JudgesSame N)⟩, ⟨56, [.val, .val], (run_spec_EqualInts N)⟩, ⟨57, [.val, .val], (run_spec_l33Lists N)⟩]
noncomputable def body_spec_EqualClubs : Code := match Try.f23.body with | some c => c | none => .skip
noncomputable def L_spec_EqualClubs (N n : Nat) (key : Nat) (S : St) (K : Ks) : Option Ret := none
theorem L0_spec_EqualClubs (N key : Nat) (S : St) (K : Ks) : L_spec_EqualClubs N 0 key S K = none := rfl
theorem ls_spec_EqualClubs : loopsIn body_spec_EqualClubs = [] := by kernel_rfl
theorem fn_spec_EqualClubs (N : Nat) (x : AVals sg_spec_EqualClubs) (kf : Ret → Option Ret) : F_spec_EqualClubs N x kf = peFunc h_spec_EqualClubs (Orc.of (es_spec_EqualClubs N)) (L_spec_EqualClubs N N) Try.f23 (ashape sg_spec_EqualClubs x) kf := by kernel_rfl
theorem sd_spec_EqualClubs (N : Nat) : Sound Try.prog 23 (run_spec_EqualClubs N) := fun_ok2 (hh := h_spec_EqualClubs) mixed tab_ok (es := es_spec_EqualClubs N) ⟨sd_spec_l33Teams N, ⟨sd_spec_l33JudgesSame N, ⟨sd_spec_EqualInts N, ⟨sd_spec_l33Lists N, trivial⟩⟩⟩⟩ (fn := Try.f23) (body := body_spec_EqualClubs) (by kernel_rfl) (by kernel_rfl) (by kernel_rfl) (by kernel_rfl) (by kernel_rfl) (Lf := L_spec_EqualClubs N) (L0_spec_EqualClubs N) ls_spec_EqualClubs trivial (N := N) (by kernel_rfl) (fn_spec_EqualClubs N)
/-! slices_Equal_int -/
noncomputable def ks_slices_Equal_int_l4 : List Kd := [.v (.sl (.int .i64)) .k, .v (.sl (.int .i64)) .k, dK, dK, dK, dK, dK, dK, dK, dK, dK, dK, .v (.int .i64) .k, .v (.int .i64) .k, dK, dK, dK, dK, dK, dK, dK, dK, dK, dK, dK, dK]
noncomputable def ko_slices_Equal_int_l4_0 : List Kd := [dK, dK, dK, dK, dK, dK, dK, dK, dK, dK, dK, dK, dK, dK, dK, dK, dK, dK, dK, dK, dK, dK, dK, dK, dK, dK]
noncomputable def ko_slices_Equal_int_l4_1 : List Kd := [dK, dK, dK, dK, .v .bool .k, dK, dK, dK, dK, dK, dK, dK, dK, dK, dK, dK, dK, dK, dK, dK, dK, dK, dK, dK, dK, dK]
noncomputable def h_slices_Equal_int : Hint := { tab, hn := [], loops := [(4, ks_slices_Equal_int_l4)], outs := [(4, 2, ko_slices_Equal_int_l4_0), (4, 1, ko_slices_Equal_int_l4_1)], ords := [(6, (OT.seq [0, 1, 2, 3, 4, 5, 6, 7, 8] .done))] }
noncomputable def sg_slices_Equal_int : List AK := [.v (.sl (.int .i64)) .k, .v (.sl (.int .i64)) .k]
noncomputable def F_slices_Equal_int (N : Nat) (x : AVals sg_slices_Equal_int) (kf : Ret → Option Ret) : Option Ret := slices_Equal_int N x.1 x.2.1 (fun r0 => kf ⟨[⟨.bool, .k, r0⟩], []⟩)
noncomputable def run_slices_Equal_int (N : Nat) := runOf sg_slices_Equal_int (F_slices_Equal_int N)
noncomputable def es_slices_Equal_int (N : Nat) : List Entry := []
noncomputable def body_slices_Equal_int : Code := match Try.f60.body with | some c => c | none => .skip
noncomputable def L_slices_Equal_int (N n : Nat) (key : Nat) (S : St) (K : Ks) : Option Ret := bif Nat.beq key 4 then withVals ks_slices_Equal_int_l4 S (fun x => slices_Equal_int_l4 x.1 x.2.1 x.2.2.1 n (K (.x 0) (shape ko_slices_Equal_int_l4_0 ())) (fun z0 => K .r (shape ko_slices_Equal_int_l4_1 (z0, ()))) x.2.2.2.1) else none
theorem L0_slices_Equal_int (N key : Nat) (S : St) (K : Ks) : L_slices_Equal_int N 0 key S K = none := (bif0 (withVals0 fun _ => rfl) rfl)
noncomputable def c_slices_Equal_int_0 : Code := (loopsIn body_slices_Equal_int).getD 0 .skip
theorem ls_slices_Equal_int : loopsIn body_slices_Equal_int = [c_slices_Equal_int_0] := by kernel_rfl
theorem rd_slices_Equal_int_4 (N n : Nat) (x : Vals ks_slices_Equal_int_l4) (K : Ks) : L_slices_Equal_int N (n + 1) 4 (shape ks_slices_Equal_int_l4 x) (h_slices_Equal_int.onOut 4 K) = peRound h_slices_Equal_int (Orc.of (es_slices_Equal_int N)) (mixL (L_slices_Equal_int N) N n 4) c_slices_Equal_int_0 (shape ks_slices_Equal_int_l4 x) (h_slices_Equal_int.onOut 4 K) := by kernel_rfl
theorem fn_slices_Equal_int (N : Nat) (x : AVals sg_slices_Equal_int) (kf : Ret → Option Ret) : F_slices_Equal_int N x kf = peFunc h_slices_Equal_int (Orc.of (es_slices_Equal_int N)) (L_slices_Equal_int N N) Try.f60 (ashape sg_slices_Equal_int x) kf := by kernel_rfl
theorem sd_slices_Equal_int (N : Nat) : Sound Try.prog 60 (run_slices_Equal_int N) := fun_ok2 (hh := h_slices_Equal_int) mixed tab_ok (es := es_slices_Equal_int N) trivial (fn := Try.f60) (body := body_slices_Equal_int) (by kernel_rfl) (by kernel_rfl) (by kernel_rfl) (by kernel_rfl) (by kernel_rfl) (Lf := L_slices_Equal_int N) (L0_slices_Equal_int N) ls_slices_Equal_int (round_cons (key := 4) (ks := ks_slices_Equal_int_l4) (by kernel_rfl) (by kernel_rfl) (rd_slices_Equal_int_4 N) trivial) (N := N) (by kernel_rfl) (fn_slices_Equal_int N)
/-! impl_EqualClubs_1 -/
noncomputable def h_impl_EqualClubs_1 : Hint := { tab, hn := [], loops := [], outs := [], ords := [] }
noncomputable def sg_impl_EqualClubs_1 : List AK := [.v tQIIIIILIE .k, .v tQIIIIILIE .k]
noncomputable def F_impl_EqualClubs_1 (N : Nat) (x : AVals sg_impl_EqualClubs_1) (kf : Ret → Option Ret) : Option Ret := impl_EqualClubs_1 N x.1 x.2.1 (fun r0 => kf ⟨[⟨.bool, .k, r0⟩], []⟩)
noncomputable def run_impl_EqualClubs_1 (N : Nat) := runOf sg_impl_EqualClubs_1 (F_impl_EqualClubs_1 N)
noncomputable def es_impl_EqualClubs_1 (N : Nat) : List Entry := [⟨60, [.val, .val], (run_slices_Equal_int N)⟩]
noncomputable def body_impl_EqualClubs_1 : Code := match Try.f59.body with | some c => c | none => .skip
noncomputable def L_impl_EqualClubs_1 (N n : Nat) (key : Nat) (S : St) (K : Ks) : Option Ret := none
theorem L0_impl_EqualClubs_1 (N key : Nat) (S : St) (K : Ks) : L_impl_EqualClubs_1 N 0 key S K = none := rfl
theorem ls_impl_EqualClubs_1 : loopsIn body_impl_EqualClubs_1 = [] := by kernel_rfl
theorem fn_impl_EqualClubs_1 (N : Nat) (x : AVals sg_impl_EqualClubs_1) (kf : Ret → Option Ret) : F_impl_EqualClubs_1 N x kf = peFunc h_impl_EqualClubs_1 (Orc.of (es_impl_EqualClubs_1 N)) (L_impl_EqualClubs_1 N N) Try.f59 (ashape sg_impl_EqualClubs_1 x) kf := by kernel_rfl
theorem sd_impl_EqualClubs_1 (N : Nat) : Sound Try.prog 59 (run_impl_EqualClubs_1 N) := fun_ok2 (hh := h_impl_EqualClubs_1) mixed tab_ok (es := es_impl_EqualClubs_1 N) ⟨sd_slices_Equal_int N, trivial⟩ (fn := Try.f59) (body := body_impl_EqualClubs_1) (by kernel_rfl) (by kernel_rfl) (by kernel_rfl) (by kernel_rfl) (by kernel_rfl) (Lf := L_impl_EqualClubs_1 N) (L0_impl_EqualClubs_1 N) ls_impl_EqualClubs_1 trivial (N := N) (by kernel_rfl) (fn_impl_EqualClubs_1 N)
/-! slices_EqualFunc_Team_impl_EqualClubs_1 -/
noncomputable def ks_slices_EqualFunc_Team_impl_EqualClubs_1_l4 : List Kd := [dK, .v (.sl tQIIIIILIE) .k, .clo 59 [], dK, dK, dK, dK, dK, dK, dK, dK, dK, dK, dK, dK, .v (.sl tQIIIIILIE) .k, .v (.int .i64) .k, .v (.int .i64) .k, dK, dK, dK, dK, dK, dK, dK, dK, dK, dK, dK, dK, dK, dK]
noncomputable def ko_slices_EqualFunc_Team_impl_EqualClubs_1_l4_0 : List Kd := [dK, dK, dK, dK, dK, dK, dK, dK, dK, dK, dK, dK, dK, dK, dK, dK, dK, dK, dK, dK, dK, dK, dK, dK, dK, dK, dK, dK, dK, dK, dK, dK]
noncomputable def ko_slices_EqualFunc_Team_impl_EqualClubs_1_l4_1 : List Kd := [dK, dK, dK, dK, dK, dK, .v .bool .k, dK, dK, dK, dK, dK, dK, dK, dK, dK, dK, dK, dK, dK, dK, dK, dK, dK, dK, dK, dK, dK, dK, dK, dK, dK]
noncomputable def h_slices_EqualFunc_Team_impl_EqualClubs_1 : Hint := { tab, hn := [], loops := [(4, ks_slices_EqualFunc_Team_impl_EqualClubs_1_l4)], outs := [(4, 2, ko_slices_EqualFunc_Team_impl_EqualClubs_1_l4_0), (4, 1, ko_slices_EqualFunc_Team_impl_EqualClubs_1_l4_1)], ords := [] }
noncomputable def sg_slices_EqualFunc_Team_impl_EqualClubs_1 : List AK := [.v (.sl tQIIIIILIE) .k, .v (.sl tQIIIIILIE) .k, .fn 59 []]
noncomputable def F_slices_EqualFunc_Team_impl_EqualClubs_1 (N : Nat) (x : AVals sg_slices_EqualFunc_Team_impl_EqualClubs_1) (kf : Ret → Option Ret) : Option Ret := slices_EqualFunc_Team_impl_EqualClubs_1 N x.1 x.2.1 (fun r0 => kf ⟨[⟨.bool, .k, r0⟩], []⟩)
noncomputable def run_slices_EqualFunc_Team_impl_EqualClubs_1 (N : Nat) := runOf sg_slices_EqualFunc_Team_impl_EqualClubs_1 (F_slices_EqualFunc_Team_impl_EqualClubs_1 N)
noncomputable def es_slices_EqualFunc_Team_impl_EqualClubs_1 (N : Nat) : List Entry := [⟨59, [.val, .val], (run_impl_EqualClubs_1 N)⟩]
noncomputable def body_slices_EqualFunc_Team_impl_EqualClubs_1 : Code := match Try.f58.body with | some c => c | none => .skip
noncomputable def L_slices_EqualFunc_Team_impl_EqualClubs_1 (N n : Nat) (key : Nat) (S : St) (K : Ks) : Option Ret := bif Nat.beq key 4 then withVals ks_slices_EqualFunc_Team_impl_EqualClubs_1_l4 S (fun x => slices_EqualFunc_Team_impl_EqualClubs_1_l4 N x.1 x.2.2.1 x.2.2.2.1 n (K (.x 0) (shape ko_slices_EqualFunc_Team_impl_EqualClubs_1_l4_0 ())) (fun z0 => K .r (shape ko_slices_EqualFunc_Team_impl_EqualClubs_1_l4_1 (z0, ()))) x.2.2.2.2.1) else none
theorem L0_slices_EqualFunc_Team_impl_EqualClubs_1 (N key : Nat) (S : St) (K : Ks) : L_slices_EqualFunc_Team_impl_EqualClubs_1 N 0 key S K = none := (bif0 (withVals0 fun _ => rfl) rfl)
noncomputable def c_slices_EqualFunc_Team_impl_EqualClubs_1_0 : Code := (loopsIn body_slices_EqualFunc_Team_impl_EqualClubs_1).getD 0 .skip
theorem ls_slices_EqualFunc_Team_impl_EqualClubs_1 : loopsIn body_slices_EqualFunc_Team_impl_EqualClubs_1 = [c_slices_EqualFunc_Team_impl_EqualClubs_1_0] := by kernel_rfl
theorem rd_slices_EqualFunc_Team_impl_EqualClubs_1_4 (N n : Nat) (x : Vals ks_slices_EqualFunc_Team_impl_EqualClubs_1_l4) (K : Ks) : L_slices_EqualFunc_Team_impl_EqualClubs_1 N (n + 1) 4 (shape ks_slices_EqualFunc_Team_impl_EqualClubs_1_l4 x) (h_slices_EqualFunc_Team_impl_EqualClubs_1.onOut 4 K) = peRound h_slices_EqualFunc_Team_impl_EqualClubs_1 (Orc.of (es_slices_EqualFunc_Team_impl_EqualClubs_1 N)) (mixL (L_slices_EqualFunc_Team_impl_EqualClubs_1 N) N n 4) c_slices_EqualFunc_Team_impl_EqualClubs_1_0 (shape ks_slices_EqualFunc_Team_impl_EqualClubs_1_l4 x) (h_slices_EqualFunc_Team_impl_EqualClubs_1.onOut 4 K) := by kernel_rfl
theorem fn_slices_EqualFunc_Team_impl_EqualClubs_1 (N : Nat) (x : AVals sg_slices_EqualFunc_Team_impl_EqualClubs_1) (kf : Ret → Option Ret) : F_slices_EqualFunc_Team_impl_EqualClubs_1 N x kf = peFunc h_slices_EqualFunc_Team_impl_EqualClubs_1 (Orc.of (es_slices_EqualFunc_Team_impl_EqualClubs_1 N)) (L_slices_EqualFunc_Team_impl_EqualClubs_1 N N) Try.f58 (ashape sg_slices_EqualFunc_Team_impl_EqualClubs_1 x) kf := by kernel_rfl
theorem sd_slices_EqualFunc_Team_impl_EqualClubs_1 (N : Nat) : Sound Try.prog 58 (run_slices_EqualFunc_Team_impl_EqualClubs_1 N) := fun_ok2 (hh := h_slices_EqualFunc_Team_impl_EqualClubs_1) mixed tab_ok (es := es_slices_EqualFunc_Team_impl_EqualClubs_1 N) ⟨sd_impl_EqualClubs_1 N, trivial⟩ (fn := Try.f58) (body := body_slices_EqualFunc_Team_impl_EqualClubs_1) (by kernel_rfl) (by kernel_rfl) (by kernel_rfl) (by kernel_rfl) (by kernel_rfl) (Lf := L_slices_EqualFunc_Team_impl_EqualClubs_1 N) (L0_slices_EqualFunc_Team_impl_EqualClubs_1 N) ls_slices_EqualFunc_Team_impl_EqualClubs_1 (round_cons (key := 4) (ks := ks_slices_EqualFunc_Team_impl_EqualClubs_1_l4) (by kernel_rfl) (by kernel_rfl) (rd_slices_EqualFunc_Team_impl_EqualClubs_1_4 N) trivial) (N := N) (by kernel_rfl) (fn_slices_EqualFunc_Team_impl_EqualClubs_1 N)
/-! impl_EqualClubs_2 -/
noncomputable def h_impl_EqualClubs_2 : Hint := { tab, hn := [], loops := [], outs := [], ords := [] }
noncomputable def sg_impl_EqualClubs_2 : List AK := [.v tQIILIE .k, .v tQIILIE .k]
noncomputable def F_impl_EqualClubs_2 (N : Nat) (x : AVals sg_impl_EqualClubs_2) (kf : Ret → Option Ret) : Option Ret := impl_EqualClubs_2 N x.1 x.2.1 (fun r0 => kf ⟨[⟨.bool, .k, r0⟩], []⟩)
noncomputable def run_impl_EqualClubs_2 (N : Nat) := runOf sg_impl_EqualClubs_2 (F_impl_EqualClubs_2 N)
noncomputable def es_impl_EqualClubs_2 (N : Nat) : List Entry := [⟨60, [.val, .val], (run_slices_Equal_int N)⟩]
noncomputable def body_impl_EqualClubs_2 : Code := match Try.f62.body with | some c => c | none => .skip
noncomputable def L_impl_EqualClubs_2 (N n : Nat) (key : Nat) (S : St) (K : Ks) : Option Ret := none
theorem L0_impl_EqualClubs_2 (N key : Nat) (S : St) (K : Ks) : L_impl_EqualClubs_2 N 0 key S K = none := rfl
theorem ls_impl_EqualClubs_2 : loopsIn body_impl_EqualClubs_2 = [] := by kernel_rfl
theorem fn_impl_EqualClubs_2 (N : Nat) (x : AVals sg_impl_EqualClubs_2) (kf : Ret → Option Ret) : F_impl_EqualClubs_2 N x kf = peFunc h_impl_EqualClubs_2 (Orc.of (es_impl_EqualClubs_2 N)) (L_impl_EqualClubs_2 N N) Try.f62 (ashape sg_impl_EqualClubs_2 x) kf := by kernel_rfl
theorem sd_impl_EqualClubs_2 (N : Nat) : Sound Try.prog 62 (run_impl_EqualClubs_2 N) := fun_ok2 (hh := h_impl_EqualClubs_2) mixed tab_ok (es := es_impl_EqualClubs_2 N) ⟨sd_slices_Equal_int N, trivial⟩ (fn := Try.f62) (body := body_impl_EqualClubs_2) (by kernel_rfl) (by kernel_rfl) (by kernel_rfl) (by kernel_rfl) (by kernel_rfl) (Lf := L_impl_EqualClubs_2 N) (L0_impl_EqualClubs_2 N) ls_impl_EqualClubs_2 trivial (N := N) (by kernel_rfl) (fn_impl_EqualClubs_2 N)
/-! slices_EqualFunc_Judge_impl_EqualClubs_2 -/
noncomputable def ks_slices_EqualFunc_Judge_impl_EqualClubs_2_l4 : List Kd := [dK, .v (.sl tQIILIE) .k, .clo 62 [], dK, dK, dK, dK, dK, dK, dK, dK, dK, dK, dK, dK, .v (.sl tQIILIE) .k, .v (.int .i64) .k, .v (.int .i64) .k, dK, dK, dK, dK, dK, dK, dK, dK, dK, dK, dK, dK, dK, dK]
noncomputable def ko_slices_EqualFunc_Judge_impl_EqualClubs_2_l4_0 : List Kd := [dK, dK, dK, dK, dK, dK, dK, dK, dK, dK, dK, dK, dK, dK, dK, dK, dK, dK, dK, dK, dK, dK, dK, dK, dK, dK, dK, dK, dK, dK, dK, dK]
noncomputable def ko_slices_EqualFunc_Judge_impl_EqualClubs_2_l4_1 : List Kd := [dK, dK, dK, dK, dK, dK, .v .bool .k, dK, dK, dK, dK, dK, dK, dK, dK, dK, dK, dK, dK, dK, dK, dK, dK, dK, dK, dK, dK, dK, dK, dK, dK, dK]
noncomputable def h_slices_EqualFunc_Judge_impl_EqualClubs_2 : Hint := { tab, hn := [], loops := [(4, ks_slices_EqualFunc_Judge_impl_EqualClubs_2_l4)], outs := [(4, 2, ko_slices_EqualFunc_Judge_impl_EqualClubs_2_l4_0), (4, 1, ko_slices_EqualFunc_Judge_impl_EqualClubs_2_l4_1)], ords := [] }
noncomputable def sg_slices_EqualFunc_Judge_impl_EqualClubs_2 : List AK := [.v (.sl tQIILIE) .k, .v (.sl tQIILIE) .k, .fn 62 []]
noncomputable def F_slices_EqualFunc_Judge_impl_EqualClubs_2 (N : Nat) (x : AVals sg_slices_EqualFunc_Judge_impl_EqualClubs_2) (kf : Ret → Option Ret) : Option Ret := slices_EqualFunc_Judge_impl_EqualClubs_2 N x.1 x.2.1 (fun r0 => kf ⟨[⟨.bool, .k, r0⟩], []⟩)
noncomputable def run_slices_EqualFunc_Judge_impl_EqualClubs_2 (N : Nat) := runOf sg_slices_EqualFunc_Judge_impl_EqualClubs_2 (F_slices_EqualFunc_Judge_impl_EqualClubs_2 N)
noncomputable def es_slices_EqualFunc_Judge_impl_EqualClubs_2 (N : Nat) : List Entry := [⟨62, [.val, .val], (run_impl_EqualClubs_2 N)⟩]
noncomputable def body_slices_EqualFunc_Judge_impl_EqualClubs_2 : Code := match Try.f61.body with | some c => c | none => .skip
noncomputable def L_slices_EqualFunc_Judge_impl_EqualClubs_2 (N n : Nat) (key : Nat) (S : St) (K : Ks) : Option Ret := bif Nat.beq key 4 then withVals ks_slices_EqualFunc_Judge_impl_EqualClubs_2_l4 S (fun x => slices_EqualFunc_Judge_impl_EqualClubs_2_l4 N x.1 x.2.2.1 x.2.2.2.1 n (K (.x 0) (shape ko_slices_EqualFunc_Judge_impl_EqualClubs_2_l4_0 ())) (fun z0 => K .r (shape ko_slices_EqualFunc_Judge_impl_EqualClubs_2_l4_1 (z0, ()))) x.2.2.2.2.1) else none
theorem L0_slices_EqualFunc_Judge_impl_EqualClubs_2 (N key : Nat) (S : St) (K : Ks) : L_slices_EqualFunc_Judge_impl_EqualClubs_2 N 0 key S K = none := (bif0 (withVals0 fun _ => rfl) rfl)
noncomputable def c_slices_EqualFunc_Judge_impl_EqualClubs_2_0 : Code := (loopsIn body_slices_EqualFunc_Judge_impl_EqualClubs_2).getD 0 .skip
theorem ls_slices_EqualFunc_Judge_impl_EqualClubs_2 : loopsIn body_slices_EqualFunc_Judge_impl_EqualClubs_2 = [c_slices_EqualFunc_Judge_impl_EqualClubs_2_0] := by kernel_rfl
theorem rd_slices_EqualFunc_Judge_impl_EqualClubs_2_4 (N n : Nat) (x : Vals ks_slices_EqualFunc_Judge_impl_EqualClubs_2_l4) (K : Ks) : L_slices_EqualFunc_Judge_impl_EqualClubs_2 N (n + 1) 4 (shape ks_slices_EqualFunc_Judge_impl_EqualClubs_2_l4 x) (h_slices_EqualFunc_Judge_impl_EqualClubs_2.onOut 4 K) = peRound h_slices_EqualFunc_Judge_impl_EqualClubs_2 (Orc.of (es_slices_EqualFunc_Judge_impl_EqualClubs_2 N)) (mixL (L_slices_EqualFunc_Judge_impl_EqualClubs_2 N) N n 4) c_slices_EqualFunc_Judge_impl_EqualClubs_2_0 (shape ks_slices_EqualFunc_Judge_impl_EqualClubs_2_l4 x) (h_slices_EqualFunc_Judge_impl_EqualClubs_2.onOut 4 K) := by kernel_rfl
theorem fn_slices_EqualFunc_Judge_impl_EqualClubs_2 (N : Nat) (x : AVals sg_slices_EqualFunc_Judge_impl_EqualClubs_2) (kf : Ret → Option Ret) : F_slices_EqualFunc_Judge_impl_EqualClubs_2 N x kf = peFunc h_slices_EqualFunc_Judge_impl_EqualClubs_2 (Orc.of (es_slices_EqualFunc_Judge_impl_EqualClubs_2 N)) (L_slices_EqualFunc_Judge_impl_EqualClubs_2 N N) Try.f61 (ashape sg_slices_EqualFunc_Judge_impl_EqualClubs_2 x) kf := by kernel_rfl
theorem sd_slices_EqualFunc_Judge_impl_EqualClubs_2 (N : Nat) : Sound Try.prog 61 (run_slices_EqualFunc_Judge_impl_EqualClubs_2 N) := fun_ok2 (hh := h_slices_EqualFunc_Judge_impl_EqualClubs_2) mixed tab_ok (es := es_slices_EqualFunc_Judge_impl_EqualClubs_2 N) ⟨sd_impl_EqualClubs_2 N, trivial⟩ (fn := Try.f61) (body := body_slices_EqualFunc_Judge_impl_EqualClubs_2) (by kernel_rfl) (by kernel_rfl) (by kernel_rfl) (by kernel_rfl) (by kernel_rfl) (Lf := L_slices_EqualFunc_Judge_impl_EqualClubs_2 N) (L0_slices_EqualFunc_Judge_impl_EqualClubs_2 N) ls_slices_EqualFunc_Judge_impl_EqualClubs_2 (round_cons (key := 4) (ks := ks_slices_EqualFunc_Judge_impl_EqualClubs_2_l4) (by kernel_rfl) (by kernel_rfl) (rd_slices_EqualFunc_Judge_impl_EqualClubs_2_4 N) trivial) (N := N) (by kernel_rfl) (fn_slices_EqualFunc_Judge_impl_EqualClubs_2 N)
/-! slices_Equal_Pair -/
noncomputable def ks_slices_Equal_Pair_l4 : List Kd := [.v (.sl tQIIE) .k, .v (.sl tQIIE) .k, dK, dK, dK, dK, dK, dK, dK, dK, dK, dK, .v (.int .i64) .k, .v (.int .i64) .k, dK, dK, dK, dK, dK, dK, dK, dK, dK, dK, dK, dK]
noncomputable def ko_slices_Equal_Pair_l4_0 : List Kd := [dK, dK, dK, dK, dK, dK, dK, dK, dK, dK, dK, dK, dK, dK, dK, dK, dK, dK, dK, dK, dK, dK, dK, dK, dK, dK]
noncomputable def ko_slices_Equal_Pair_l4_1 : List Kd := [dK, dK, dK, dK, .v .bool .k, dK, dK, dK, dK, dK, dK, dK, dK, dK, dK, dK, dK, dK, dK, dK, dK, dK, dK, dK, dK, dK]
noncomputable def h_slices_Equal_Pair : Hint := { tab, hn := [], loops := [(4, ks_slices_Equal_Pair_l4)], outs := [(4, 2, ko_slices_Equal_Pair_l4_0), (4, 1, ko_slices_Equal_Pair_l4_1)], ords := [(6, (OT.seq [0, 1, 2, 3, 4, 5, 6, 7, 8] .done))] }
noncomputable def sg_slices_Equal_Pair : List AK := [.v (.sl tQIIE) .k, .v (.sl tQIIE) .k]
noncomputable def F_slices_Equal_Pair (N : Nat) (x : AVals sg_slices_Equal_Pair) (kf : Ret → Option Ret) : Option Ret := slices_Equal_Pair N x.1 x.2.1 (fun r0 => kf ⟨[⟨.bool, .k, r0⟩], []⟩)
noncomputable def run_slices_Equal_Pair (N : Nat) := runOf sg_slices_Equal_Pair (F_slices_Equal_Pair N)
noncomputable def es_slices_Equal_Pair (N : Nat) : List Entry := []
noncomputable def body_slices_Equal_Pair : Code := match Try.f63.body with | some c => c | none => .skip
noncomputable def L_slices_Equal_Pair (N n : Nat) (key : Nat) (S : St) (K : Ks) : Option Ret := bif Nat.beq key 4 then withVals ks_slices_Equal_Pair_l4 S (fun x => slices_Equal_Pair_l4 x.1 x.2.1 x.2.2.1 n (K (.x 0) (shape ko_slices_Equal_Pair_l4_0 ())) (fun z0 => K .r (shape ko_slices_Equal_Pair_l4_1 (z0, ()))) x.2.2.2.1) else none
theorem L0_slices_Equal_Pair (N key : Nat) (S : St) (K : Ks) : L_slices_Equal_Pair N 0 key S K = none := (bif0 (withVals0 fun _ => rfl) rfl)
noncomputable def c_slices_Equal_Pair_0 : Code := (loopsIn body_slices_Equal_Pair).getD 0 .skip
theorem ls_slices_Equal_Pair : loopsIn body_slices_Equal_Pair = [c_slices_Equal_Pair_0] := by kernel_rfl
theorem rd_slices_Equal_Pair_4 (N n : Nat) (x : Vals ks_slices_Equal_Pair_l4) (K : Ks) : L_slices_Equal_Pair N (n + 1) 4 (shape ks_slices_Equal_Pair_l4 x) (h_slices_Equal_Pair.onOut 4 K) = peRound h_slices_Equal_Pair (Orc.of (es_slices_Equal_Pair N)) (mixL (L_slices_Equal_Pair N) N n 4) c_slices_Equal_Pair_0 (shape ks_slices_Equal_Pair_l4 x) (h_slices_Equal_Pair.onOut 4 K) := by kernel_rfl
theorem fn_slices_Equal_Pair (N : Nat) (x : AVals sg_slices_Equal_Pair) (kf : Ret → Option Ret) : F_slices_Equal_Pair N x kf = peFunc h_slices_Equal_Pair (Orc.of (es_slices_Equal_Pair N)) (L_slices_Equal_Pair N N) Try.f63 (ashape sg_slices_Equal_Pair x) kf := by kernel_rfl
theorem sd_slices_Equal_Pair (N : Nat) : Sound Try.prog 63 (run_slices_Equal_Pair N) := fun_ok2 (hh := h_slices_Equal_Pair) mixed tab_ok (es := es_slices_Equal_Pair N) trivial (fn := Try.f63) (body := body_slices_Equal_Pair) (by kernel_rfl) (by kernel_rfl) (by kernel_rfl) (by kernel_rfl) (by kernel_rfl) (Lf := L_slices_Equal_Pair N) (L0_slices_Equal_Pair N) ls_slices_Equal_Pair (round_cons (key := 4) (ks := ks_slices_Equal_Pair_l4) (by kernel_rfl) (by kernel_rfl) (rd_slices_Equal_Pair_4 N) trivial) (N := N) (by kernel_rfl) (fn_slices_Equal_Pair N)
/-! slices_Equal_Ballot -/
noncomputable def ks_slices_Equal_Ballot_l4 : List Kd := [.v (.sl tQIIIE) .k, .v (.sl tQIIIE) .k, dK, dK, dK, dK, dK, dK, dK, dK, dK, dK, .v (.int .i64) .k, .v (.int .i64) .k, dK, dK, dK, dK, dK, dK, dK, dK, dK, dK, dK, dK]
noncomputable def ko_slices_Equal_Ballot_l4_0 : List Kd := [dK, dK, dK, dK, dK, dK, dK, dK, dK, dK, dK, dK, dK, dK, dK, dK, dK, dK, dK, dK, dK, dK, dK, dK, dK, dK]
noncomputable def ko_slices_Equal_Ballot_l4_1 : List Kd := [dK, dK, dK, dK, .v .bool .k, dK, dK, dK, dK, dK, dK, dK, dK, dK, dK, dK, dK, dK, dK, dK, dK, dK, dK, dK, dK, dK]
noncomputable def h_slices_Equal_Ballot : Hint := { tab, hn := [], loops := [(4, ks_slices_Equal_Ballot_l4)], outs := [(4, 2, ko_slices_Equal_Ballot_l4_0), (4, 1, ko_slices_Equal_Ballot_l4_1)], ords := [(6, (OT.seq [0, 1, 2, 3, 4, 5, 6, 7, 8] .done))] }
noncomputable def sg_slices_Equal_Ballot : List AK := [.v (.sl tQIIIE) .k, .v (.sl tQIIIE) .k]
noncomputable def F_slices_Equal_Ballot (N : Nat) (x : AVals sg_slices_Equal_Ballot) (kf : Ret → Option Ret) : Option Ret := slices_Equal_Ballot N x.1 x.2.1 (fun r0 => kf ⟨[⟨.bool, .k, r0⟩], []⟩)
noncomputable def run_slices_Equal_Ballot (N : Nat) := runOf sg_slices_Equal_Ballot (F_slices_Equal_Ballot N)
noncomputable def es_slices_Equal_Ballot (N : Nat) : List Entry := []
noncomputable def body_slices_Equal_Ballot : Code := match Try.f64.body with | some c => c | none => .skip
noncomputable def L_slices_Equal_Ballot (N n : Nat) (key : Nat) (S : St) (K : Ks) : Option Ret := bif Nat.beq key 4 then withVals ks_slices_Equal_Ballot_l4 S (fun x => slices_Equal_Ballot_l4 x.1 x.2.1 x.2.2.1 n (K (.x 0) (shape ko_slices_Equal_Ballot_l4_0 ())) (fun z0 => K .r (shape ko_slices_Equal_Ballot_l4_1 (z0, ()))) x.2.2.2.1) else none
theorem L0_slices_Equal_Ballot (N key : Nat) (S : St) (K : Ks) : L_slices_Equal_Ballot N 0 key S K = none := (bif0 (withVals0 fun _ => rfl) rfl)
noncomputable def c_slices_Equal_Ballot_0 : Code := (loopsIn body_slices_Equal_Ballot).getD 0 .skip
theorem ls_slices_Equal_Ballot : loopsIn body_slices_Equal_Ballot = [c_slices_Equal_Ballot_0] := by kernel_rfl
theorem rd_slices_Equal_Ballot_4 (N n : Nat) (x : Vals ks_slices_Equal_Ballot_l4) (K : Ks) : L_slices_Equal_Ballot N (n + 1) 4 (shape ks_slices_Equal_Ballot_l4 x) (h_slices_Equal_Ballot.onOut 4 K) = peRound h_slices_Equal_Ballot (Orc.of (es_slices_Equal_Ballot N)) (mixL (L_slices_Equal_Ballot N) N n 4) c_slices_Equal_Ballot_0 (shape ks_slices_Equal_Ballot_l4 x) (h_slices_Equal_Ballot.onOut 4 K) := by kernel_rfl
theorem fn_slices_Equal_Ballot (N : Nat) (x : AVals sg_slices_Equal_Ballot) (kf : Ret → Option Ret) : F_slices_Equal_Ballot N x kf = peFunc h_slices_Equal_Ballot (Orc.of (es_slices_Equal_Ballot N)) (L_slices_Equal_Ballot N N) Try.f64 (ashape sg_slices_Equal_Ballot x) kf := by kernel_rfl
theorem sd_slices_Equal_Ballot (N : Nat) : Sound Try.prog 64 (run_slices_Equal_Ballot N) := fun_ok2 (hh := h_slices_Equal_Ballot) mixed tab_ok (es := es_slices_Equal_Ballot N) trivial (fn := Try.f64) (body := body_slices_Equal_Ballot) (by kernel_rfl) (by kernel_rfl) (by kernel_rfl) (by kernel_rfl) (by kernel_rfl) (Lf := L_slices_Equal_Ballot N) (L0_slices_Equal_Ballot N) ls_slices_Equal_Ballot (round_cons (key := 4) (ks := ks_slices_Equal_Ballot_l4) (by kernel_rfl) (by kernel_rfl) (rd_slices_Equal_Ballot_4 N) trivial) (N := N) (by kernel_rfl) (fn_slices_Equal_Ballot N)
end Go.Pv.R
