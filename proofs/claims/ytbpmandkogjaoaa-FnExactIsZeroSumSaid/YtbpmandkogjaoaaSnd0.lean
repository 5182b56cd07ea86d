/- Each function of the program that the law reaches computes its plain function, part 0. -/
import Derived.Test.YtbpmandkogjaoaaPlRes
import Derived.Test.YtbpmandkogjaoaaProg
namespace Go.Pv.R
open Go.Proofs
set_option linter.unusedVariables false
set_option maxRecDepth 100000
noncomputable abbrev dK : Kd := .dead
noncomputable def tab : Tab := [⟨2, (.int .i64), 0, []⟩, ⟨3, (.int .i64), 0, []⟩, ⟨4, .bool, 0, []⟩, ⟨5, (.int .u8), 0, []⟩, ⟨9, .str, 0, []⟩, ⟨12, (.int .u64), 0, []⟩, ⟨21, (.int .i32), 0, []⟩, ⟨22, (.sl (.int .i64)), 3, []⟩, ⟨28, (.sl tQIIIIILIE), 92, []⟩, ⟨29, (.sl tQIILIE), 94, []⟩, ⟨30, (.sl tQIIE), 98, []⟩, ⟨31, (.sl tQIIIE), 100, []⟩, ⟨32, (.sl tQIIIIE), 102, []⟩, ⟨33, tQLQIIIIILIELQIILIELQIIELILQIIIELQIIIIEIE, 0, [28, 29, 30, 22, 31, 32, 3]⟩, ⟨34, tQLQIIIIILIELQIILIELQIIELILQIIIELQIIIIEIE, 0, [28, 29, 30, 22, 31, 32, 3]⟩, ⟨37, (.sl tQIIIIILIE), 70, []⟩, ⟨38, (.sl tQIILIE), 75, []⟩, ⟨39, (.sl tQIIE), 77, []⟩, ⟨40, (.sl tQIIIE), 83, []⟩, ⟨41, (.sl tQIIIIE), 85, []⟩, ⟨42, tQLQIIIIILIELQIILIELQIIELILQIIIELQIIIIEIE, 0, [37, 38, 39, 22, 40, 41, 3]⟩, ⟨43, tQLQIIIIILIELQIILIELQIIELILQIIIELQIIIIEIE, 0, [37, 38, 39, 22, 40, 41, 3]⟩, ⟨69, tQIIIIILIE, 0, [3, 3, 3, 3, 3, 22]⟩, ⟨70, tQIIIIILIE, 0, [3, 3, 3, 3, 3, 22]⟩, ⟨74, tQIILIE, 0, [3, 3, 22]⟩, ⟨75, tQIILIE, 0, [3, 3, 22]⟩, ⟨76, tQIIE, 0, [3, 3]⟩, ⟨77, tQIIE, 0, [3, 3]⟩, ⟨82, tQIIIE, 0, [3, 3, 3]⟩, ⟨83, tQIIIE, 0, [3, 3, 3]⟩, ⟨84, tQIIIIE, 0, [3, 3, 3, 3]⟩, ⟨85, tQIIIIE, 0, [3, 3, 3, 3]⟩, ⟨88, (.sl .str), 9, []⟩, ⟨92, tQIIIIILIE, 0, [3, 3, 3, 3, 3, 22]⟩, ⟨94, tQIILIE, 0, [3, 3, 22]⟩, ⟨98, tQIIE, 0, [3, 3]⟩, ⟨100, tQIIIE, 0, [3, 3, 3]⟩, ⟨102, tQIIIIE, 0, [3, 3, 3, 3]⟩, ⟨110, (.sl (.sl (.int .i64))), 22, []⟩, ⟨112, (.int .u64), 0, []⟩, ⟨117, (.sl (.int .u64)), 112, []⟩, ⟨126, (.int .u32), 0, []⟩]
theorem mixed : Try.prog.follows .mixedOrders = true := by kernel_rfl
theorem tab_ok : tabB Try.prog tab = true := by kernel_rfl
/-! laws_szIntS -/
noncomputable def h_laws_szIntS : Hint := { tab, hn := [], loops := [], outs := [], ords := [] }
noncomputable def sg_laws_szIntS : List AK := [.v (.sl (.int .i64)) .k, .v (.int .i64) .k]
noncomputable def F_laws_szIntS (N : Nat) (x : AVals sg_laws_szIntS) (kf : Ret → Option Ret) : Option Ret := laws_szIntS N x.1 x.2.1 (fun r0 => kf ⟨[⟨(.int .i64), .k, r0⟩], []⟩)
noncomputable def run_laws_szIntS (N : Nat) := runOf sg_laws_szIntS (F_laws_szIntS N)
noncomputable def es_laws_szIntS (N : Nat) : List Entry := []
noncomputable def body_laws_szIntS : Code := match Try.f34.body with | some c => c | none => .skip
noncomputable def L_laws_szIntS (N n : Nat) (key : Nat) (S : St) (K : Ks) : Option Ret := none
theorem L0_laws_szIntS (N key : Nat) (S : St) (K : Ks) : L_laws_szIntS N 0 key S K = none := rfl
theorem ls_laws_szIntS : loopsIn body_laws_szIntS = [] := by kernel_rfl
theorem fn_laws_szIntS (N : Nat) (x : AVals sg_laws_szIntS) (kf : Ret → Option Ret) : F_laws_szIntS N x kf = peFunc h_laws_szIntS (Orc.of (es_laws_szIntS N)) (L_laws_szIntS N N) Try.f34 (ashape sg_laws_szIntS x) kf := by kernel_rfl
theorem sd_laws_szIntS (N : Nat) : Sound Try.prog 34 (run_laws_szIntS N) := fun_ok2 (hh := h_laws_szIntS) mixed tab_ok (es := es_laws_szIntS N) trivial (fn := Try.f34) (body := body_laws_szIntS) (by kernel_rfl) (by kernel_rfl) (by kernel_rfl) (by kernel_rfl) (by kernel_rfl) (Lf := L_laws_szIntS N) (L0_laws_szIntS N) ls_laws_szIntS trivial (N := N) (by kernel_rfl) (fn_laws_szIntS N)
/-! laws_szTeam -/
noncomputable def h_laws_szTeam : Hint := { tab, hn := [], loops := [], outs := [], ords := [] }
noncomputable def sg_laws_szTeam : List AK := [.v tQIIIIILIE .k, .v (.int .i64) .k]
noncomputable def F_laws_szTeam (N : Nat) (x : AVals sg_laws_szTeam) (kf : Ret → Option Ret) : Option Ret := laws_szTeam N x.1 x.2.1 (fun r0 => kf ⟨[⟨(.int .i64), .k, r0⟩], []⟩)
noncomputable def run_laws_szTeam (N : Nat) := runOf sg_laws_szTeam (F_laws_szTeam N)
noncomputable def es_laws_szTeam (N : Nat) : List Entry := [⟨34, [.val, .val], (run_laws_szIntS N)⟩]
noncomputable def body_laws_szTeam : Code := match Try.f72.body with | some c => c | none => .skip
noncomputable def L_laws_szTeam (N n : Nat) (key : Nat) (S : St) (K : Ks) : Option Ret := none
theorem L0_laws_szTeam (N key : Nat) (S : St) (K : Ks) : L_laws_szTeam N 0 key S K = none := rfl
theorem ls_laws_szTeam : loopsIn body_laws_szTeam = [] := by kernel_rfl
theorem fn_laws_szTeam (N : Nat) (x : AVals sg_laws_szTeam) (kf : Ret → Option Ret) : F_laws_szTeam N x kf = peFunc h_laws_szTeam (Orc.of (es_laws_szTeam N)) (L_laws_szTeam N N) Try.f72 (ashape sg_laws_szTeam x) kf := by kernel_rfl
theorem sd_laws_szTeam (N : Nat) : Sound Try.prog 72 (run_laws_szTeam N) := fun_ok2 (hh := h_laws_szTeam) mixed tab_ok (es := es_laws_szTeam N) ⟨sd_laws_szIntS N, trivial⟩ (fn := Try.f72) (body := body_laws_szTeam) (by kernel_rfl) (by kernel_rfl) (by kernel_rfl) (by kernel_rfl) (by kernel_rfl) (Lf := L_laws_szTeam N) (L0_laws_szTeam N) ls_laws_szTeam trivial (N := N) (by kernel_rfl) (fn_laws_szTeam N)
/-! laws_szTeamS -/
noncomputable def ks_laws_szTeamS_l5 : List Kd := [.v (.sl tQIIIIILIE) .k, .v (.int .i64) .k, dK, dK, dK, .v (.int .i64) .k, dK, dK, dK, dK, dK, dK, dK, dK, dK, dK, dK, dK, dK, dK, dK, dK, dK, dK, dK, dK, dK]
noncomputable def ko_laws_szTeamS_l5_0 : List Kd := [dK, .v (.int .i64) .k, dK, dK, dK, dK, dK, dK, dK, dK, dK, dK, dK, dK, dK, dK, dK, dK, dK, dK, dK, dK, dK, dK, dK, dK, dK]
noncomputable def ko_laws_szTeamS_l5_1 : List Kd := [dK, dK, dK, dK, .v (.int .i64) .k, dK, dK, dK, dK, dK, dK, dK, dK, dK, dK, dK, dK, dK, dK, dK, dK, dK, dK, dK, dK, dK, dK]
noncomputable def h_laws_szTeamS : Hint := { tab, hn := [], loops := [(5, ks_laws_szTeamS_l5)], outs := [(5, 2, ko_laws_szTeamS_l5_0), (5, 1, ko_laws_szTeamS_l5_1)], ords := [] }
noncomputable def sg_laws_szTeamS : List AK := [.v (.sl tQIIIIILIE) .k, .v (.int .i64) .k]
noncomputable def F_laws_szTeamS (N : Nat) (x : AVals sg_laws_szTeamS) (kf : Ret → Option Ret) : Option Ret := laws_szTeamS N x.1 x.2.1 (fun r0 => kf ⟨[⟨(.int .i64), .k, r0⟩], []⟩)
noncomputable def run_laws_szTeamS (N : Nat) := runOf sg_laws_szTeamS (F_laws_szTeamS N)
noncomputable def es_laws_szTeamS (N : Nat) : List Entry := [⟨72, [.val, .val], (run_laws_szTeam N)⟩]
noncomputable def body_laws_szTeamS : Code := match Try.f31.body with | some c => c | none => .skip
noncomputable def L_laws_szTeamS (N n : Nat) (key : Nat) (S : St) (K : Ks) : Option Ret := bif Nat.beq key 5 then withVals ks_laws_szTeamS_l5 S (fun x => laws_szTeamS_l5 N x.1 n (fun z0 => K (.x 0) (shape ko_laws_szTeamS_l5_0 (z0, ()))) (fun z0 => K .r (shape ko_laws_szTeamS_l5_1 (z0, ()))) x.2.1 x.2.2.1) else none
theorem L0_laws_szTeamS (N key : Nat) (S : St) (K : Ks) : L_laws_szTeamS N 0 key S K = none := (bif0 (withVals0 fun _ => rfl) rfl)
noncomputable def c_laws_szTeamS_0 : Code := (loopsIn body_laws_szTeamS).getD 0 .skip
theorem ls_laws_szTeamS : loopsIn body_laws_szTeamS = [c_laws_szTeamS_0] := by kernel_rfl
theorem rd_laws_szTeamS_5 (N n : Nat) (x : Vals ks_laws_szTeamS_l5) (K : Ks) : L_laws_szTeamS N (n + 1) 5 (shape ks_laws_szTeamS_l5 x) (h_laws_szTeamS.onOut 5 K) = peRound h_laws_szTeamS (Orc.of (es_laws_szTeamS N)) (mixL (L_laws_szTeamS N) N n 5) c_laws_szTeamS_0 (shape ks_laws_szTeamS_l5 x) (h_laws_szTeamS.onOut 5 K) := by kernel_rfl
theorem fn_laws_szTeamS (N : Nat) (x : AVals sg_laws_szTeamS) (kf : Ret → Option Ret) : F_laws_szTeamS N x kf = peFunc h_laws_szTeamS (Orc.of (es_laws_szTeamS N)) (L_laws_szTeamS N N) Try.f31 (ashape sg_laws_szTeamS x) kf := by kernel_rfl
theorem sd_laws_szTeamS (N : Nat) : Sound Try.prog 31 (run_laws_szTeamS N) := fun_ok2 (hh := h_laws_szTeamS) mixed tab_ok (es := es_laws_szTeamS N) ⟨sd_laws_szTeam N, trivial⟩ (fn := Try.f31) (body := body_laws_szTeamS) (by kernel_rfl) (by kernel_rfl) (by kernel_rfl) (by kernel_rfl) (by kernel_rfl) (Lf := L_laws_szTeamS N) (L0_laws_szTeamS N) ls_laws_szTeamS (round_cons (key := 5) (ks := ks_laws_szTeamS_l5) (by kernel_rfl) (by kernel_rfl) (rd_laws_szTeamS_5 N) trivial) (N := N) (by kernel_rfl) (fn_laws_szTeamS N)
/-! laws_szJudge -/
noncomputable def h_laws_szJudge : Hint := { tab, hn := [], loops := [], outs := [], ords := [] }
noncomputable def sg_laws_szJudge : List AK := [.v tQIILIE .k, .v (.int .i64) .k]
noncomputable def F_laws_szJudge (N : Nat) (x : AVals sg_laws_szJudge) (kf : Ret → Option Ret) : Option Ret := laws_szJudge N x.1 x.2.1 (fun r0 => kf ⟨[⟨(.int .i64), .k, r0⟩], []⟩)
noncomputable def run_laws_szJudge (N : Nat) := runOf sg_laws_szJudge (F_laws_szJudge N)
noncomputable def es_laws_szJudge (N : Nat) : List Entry := [⟨34, [.val, .val], (run_laws_szIntS N)⟩]
noncomputable def body_laws_szJudge : Code := match Try.f73.body with | some c => c | none => .skip
noncomputable def L_laws_szJudge (N n : Nat) (key : Nat) (S : St) (K : Ks) : Option Ret := none
theorem L0_laws_szJudge (N key : Nat) (S : St) (K : Ks) : L_laws_szJudge N 0 key S K = none := rfl
theorem ls_laws_szJudge : loopsIn body_laws_szJudge = [] := by kernel_rfl
theorem fn_laws_szJudge (N : Nat) (x : AVals sg_laws_szJudge) (kf : Ret → Option Ret) : F_laws_szJudge N x kf = peFunc h_laws_szJudge (Orc.of (es_laws_szJudge N)) (L_laws_szJudge N N) Try.f73 (ashape sg_laws_szJudge x) kf := by kernel_rfl
theorem sd_laws_szJudge (N : Nat) : Sound Try.prog 73 (run_laws_szJudge N) := fun_ok2 (hh := h_laws_szJudge) mixed tab_ok (es := es_laws_szJudge N) ⟨sd_laws_szIntS N, trivial⟩ (fn := Try.f73) (body := body_laws_szJudge) (by kernel_rfl) (by kernel_rfl) (by kernel_rfl) (by kernel_rfl) (by kernel_rfl) (Lf := L_laws_szJudge N) (L0_laws_szJudge N) ls_laws_szJudge trivial (N := N) (by kernel_rfl) (fn_laws_szJudge N)
/-! laws_szJudgeS -/
noncomputable def ks_laws_szJudgeS_l5 : List Kd := [.v (.sl tQIILIE) .k, .v (.int .i64) .k, dK, dK, dK, .v (.int .i64) .k, dK, dK, dK, dK, dK, dK, dK, dK, dK, dK, dK, dK, dK, dK, dK, dK, dK, dK, dK, dK, dK]
noncomputable def ko_laws_szJudgeS_l5_0 : List Kd := [dK, .v (.int .i64) .k, dK, dK, dK, dK, dK, dK, dK, dK, dK, dK, dK, dK, dK, dK, dK, dK, dK, dK, dK, dK, dK, dK, dK, dK, dK]
noncomputable def ko_laws_szJudgeS_l5_1 : List Kd := [dK, dK, dK, dK, .v (.int .i64) .k, dK, dK, dK, dK, dK, dK, dK, dK, dK, dK, dK, dK, dK, dK, dK, dK, dK, dK, dK, dK, dK, dK]
noncomputable def h_laws_szJudgeS : Hint := { tab, hn := [], loops := [(5, ks_laws_szJudgeS_l5)], outs := [(5, 2, ko_laws_szJudgeS_l5_0), (5, 1, ko_laws_szJudgeS_l5_1)], ords := [] }
noncomputable def sg_laws_szJudgeS : List AK := [.v (.sl tQIILIE) .k, .v (.int .i64) .k]
noncomputable def F_laws_szJudgeS (N : Nat) (x : AVals sg_laws_szJudgeS) (kf : Ret → Option Ret) : Option Ret := laws_szJudgeS N x.1 x.2.1 (fun r0 => kf ⟨[⟨(.int .i64), .k, r0⟩], []⟩)
noncomputable def run_laws_szJudgeS (N : Nat) := runOf sg_laws_szJudgeS (F_laws_szJudgeS N)
noncomputable def es_laws_szJudgeS (N : Nat) : List Entry := [⟨73, [.val, .val], (run_laws_szJudge N)⟩]
noncomputable def body_laws_szJudgeS : Code := match Try.f32.body with | some c => c | none => .skip
noncomputable def L_laws_szJudgeS (N n : Nat) (key : Nat) (S : St) (K : Ks) : Option Ret := bif Nat.beq key 5 then withVals ks_laws_szJudgeS_l5 S (fun x => laws_szJudgeS_l5 N x.1 n (fun z0 => K (.x 0) (shape ko_laws_szJudgeS_l5_0 (z0, ()))) (fun z0 => K .r (shape ko_laws_szJudgeS_l5_1 (z0, ()))) x.2.1 x.2.2.1) else none
theorem L0_laws_szJudgeS (N key : Nat) (S : St) (K : Ks) : L_laws_szJudgeS N 0 key S K = none := (bif0 (withVals0 fun _ => rfl) rfl)
noncomputable def c_laws_szJudgeS_0 : Code := (loopsIn body_laws_szJudgeS).getD 0 .skip
theorem ls_laws_szJudgeS : loopsIn body_laws_szJudgeS = [c_laws_szJudgeS_0] := by kernel_rfl
theorem rd_laws_szJudgeS_5 (N n : Nat) (x : Vals ks_laws_szJudgeS_l5) (K : Ks) : L_laws_szJudgeS N (n + 1) 5 (shape ks_laws_szJudgeS_l5 x) (h_laws_szJudgeS.onOut 5 K) = peRound h_laws_szJudgeS (Orc.of (es_laws_szJudgeS N)) (mixL (L_laws_szJudgeS N) N n 5) c_laws_szJudgeS_0 (shape ks_laws_szJudgeS_l5 x) (h_laws_szJudgeS.onOut 5 K) := by kernel_rfl
theorem fn_laws_szJudgeS (N : Nat) (x : AVals sg_laws_szJudgeS) (kf : Ret → Option Ret) : F_laws_szJudgeS N x kf = peFunc h_laws_szJudgeS (Orc.of (es_laws_szJudgeS N)) (L_laws_szJudgeS N N) Try.f32 (ashape sg_laws_szJudgeS x) kf := by kernel_rfl
theorem sd_laws_szJudgeS (N : Nat) : Sound Try.prog 32 (run_laws_szJudgeS N) := fun_ok2 (hh := h_laws_szJudgeS) mixed tab_ok (es := es_laws_szJudgeS N) ⟨sd_laws_szJudge N, trivial⟩ (fn := Try.f32) (body := body_laws_szJudgeS) (by kernel_rfl) (by kernel_rfl) (by kernel_rfl) (by kernel_rfl) (by kernel_rfl) (Lf := L_laws_szJudgeS N) (L0_laws_szJudgeS N) ls_laws_szJudgeS (round_cons (key := 5) (ks := ks_laws_szJudgeS_l5) (by kernel_rfl) (by kernel_rfl) (rd_laws_szJudgeS_5 N) trivial) (N := N) (by kernel_rfl) (fn_laws_szJudgeS N)
/-! laws_szPairS -/
noncomputable def h_laws_szPairS : Hint := { tab, hn := [], loops := [], outs := [], ords := [] }
noncomputable def sg_laws_szPairS : List AK := [.v (.sl tQIIE) .k, .v (.int .i64) .k]
noncomputable def F_laws_szPairS (N : Nat) (x : AVals sg_laws_szPairS) (kf : Ret → Option Ret) : Option Ret := laws_szPairS N x.1 x.2.1 (fun r0 => kf ⟨[⟨(.int .i64), .k, r0⟩], []⟩)
noncomputable def run_laws_szPairS (N : Nat) := runOf sg_laws_szPairS (F_laws_szPairS N)
noncomputable def es_laws_szPairS (N : Nat) : List Entry := []
noncomputable def body_laws_szPairS : Code := match Try.f33.body with | some c => c | none => .skip
noncomputable def L_laws_szPairS (N n : Nat) (key : Nat) (S : St) (K : Ks) : Option Ret := none
theorem L0_laws_szPairS (N key : Nat) (S : St) (K : Ks) : L_laws_szPairS N 0 key S K = none := rfl
theorem ls_laws_szPairS : loopsIn body_laws_szPairS = [] := by kernel_rfl
theorem fn_laws_szPairS (N : Nat) (x : AVals sg_laws_szPairS) (kf : Ret → Option Ret) : F_laws_szPairS N x kf = peFunc h_laws_szPairS (Orc.of (es_laws_szPairS N)) (L_laws_szPairS N N) Try.f33 (ashape sg_laws_szPairS x) kf := by kernel_rfl
theorem sd_laws_szPairS (N : Nat) : Sound Try.prog 33 (run_laws_szPairS N) := fun_ok2 (hh := h_laws_szPairS) mixed tab_ok (es := es_laws_szPairS N) trivial (fn := Try.f33) (body := body_laws_szPairS) (by kernel_rfl) (by kernel_rfl) (by kernel_rfl) (by kernel_rfl) (by kernel_rfl) (Lf := L_laws_szPairS N) (L0_laws_szPairS N) ls_laws_szPairS trivial (N := N) (by kernel_rfl) (fn_laws_szPairS N)
/-! laws_szBallotS -/
noncomputable def h_laws_szBallotS : Hint := { tab, hn := [], loops := [], outs := [], ords := [] }
noncomputable def sg_laws_szBallotS : List AK := [.v (.sl tQIIIE) .k, .v (.int .i64) .k]
noncomputable def F_laws_szBallotS (N : Nat) (x : AVals sg_laws_szBallotS) (kf : Ret → Option Ret) : Option Ret := laws_szBallotS N x.1 x.2.1 (fun r0 => kf ⟨[⟨(.int .i64), .k, r0⟩], []⟩)
noncomputable def run_laws_szBallotS (N : Nat) := runOf sg_laws_szBallotS (F_laws_szBallotS N)
noncomputable def es_laws_szBallotS (N : Nat) : List Entry := []
noncomputable def body_laws_szBallotS : Code := match Try.f35.body with | some c => c | none => .skip
noncomputable def L_laws_szBallotS (N n : Nat) (key : Nat) (S : St) (K : Ks) : Option Ret := none
theorem L0_laws_szBallotS (N key : Nat) (S : St) (K : Ks) : L_laws_szBallotS N 0 key S K = none := rfl
theorem ls_laws_szBallotS : loopsIn body_laws_szBallotS = [] := by kernel_rfl
theorem fn_laws_szBallotS (N : Nat) (x : AVals sg_laws_szBallotS) (kf : Ret → Option Ret) : F_laws_szBallotS N x kf = peFunc h_laws_szBallotS (Orc.of (es_laws_szBallotS N)) (L_laws_szBallotS N N) Try.f35 (ashape sg_laws_szBallotS x) kf := by kernel_rfl
theorem sd_laws_szBallotS (N : Nat) : Sound Try.prog 35 (run_laws_szBallotS N) := fun_ok2 (hh := h_laws_szBallotS) mixed tab_ok (es := es_laws_szBallotS N) trivial (fn := Try.f35) (body := body_laws_szBallotS) (by kernel_rfl) (by kernel_rfl) (by kernel_rfl) (by kernel_rfl) (by kernel_rfl) (Lf := L_laws_szBallotS N) (L0_laws_szBallotS N) ls_laws_szBallotS trivial (N := N) (by kernel_rfl) (fn_laws_szBallotS N)
/-! laws_szLineS -/
noncomputable def h_laws_szLineS : Hint := { tab, hn := [], loops := [], outs := [], ords := [] }
noncomputable def sg_laws_szLineS : List AK := [.v (.sl tQIIIIE) .k, .v (.int .i64) .k]
noncomputable def F_laws_szLineS (N : Nat) (x : AVals sg_laws_szLineS) (kf : Ret → Option Ret) : Option Ret := laws_szLineS N x.1 x.2.1 (fun r0 => kf ⟨[⟨(.int .i64), .k, r0⟩], []⟩)
noncomputable def run_laws_szLineS (N : Nat) := runOf sg_laws_szLineS (F_laws_szLineS N)
noncomputable def es_laws_szLineS (N : Nat) : List Entry := []
noncomputable def body_laws_szLineS : Code := match Try.f36.body with | some c => c | none => .skip
noncomputable def L_laws_szLineS (N n : Nat) (key : Nat) (S : St) (K : Ks) : Option Ret := none
theorem L0_laws_szLineS (N key : Nat) (S : St) (K : Ks) : L_laws_szLineS N 0 key S K = none := rfl
theorem ls_laws_szLineS : loopsIn body_laws_szLineS = [] := by kernel_rfl
theorem fn_laws_szLineS (N : Nat) (x : AVals sg_laws_szLineS) (kf : Ret → Option Ret) : F_laws_szLineS N x kf = peFunc h_laws_szLineS (Orc.of (es_laws_szLineS N)) (L_laws_szLineS N N) Try.f36 (ashape sg_laws_szLineS x) kf := by kernel_rfl
theorem sd_laws_szLineS (N : Nat) : Sound Try.prog 36 (run_laws_szLineS N) := fun_ok2 (hh := h_laws_szLineS) mixed tab_ok (es := es_laws_szLineS N) trivial (fn := Try.f36) (body := body_laws_szLineS) (by kernel_rfl) (by kernel_rfl) (by kernel_rfl) (by kernel_rfl) (by kernel_rfl) (Lf := L_laws_szLineS N) (L0_laws_szLineS N) ls_laws_szLineS trivial (N := N) (by kernel_rfl) (fn_laws_szLineS N)
/-! laws_szClub -/
noncomputable def h_laws_szClub : Hint := { tab, hn := [], loops := [], outs := [], ords := [] }
noncomputable def sg_laws_szClub : List AK := [.v tQLQIIIIILIELQIILIELQIIELILQIIIELQIIIIEIE .k, .v (.int .i64) .k]
noncomputable def F_laws_szClub (N : Nat) (x : AVals sg_laws_szClub) (kf : Ret → Option Ret) : Option Ret := laws_szClub N x.1 x.2.1 (fun r0 => kf ⟨[⟨(.int .i64), .k, r0⟩], []⟩)
noncomputable def run_laws_szClub (N : Nat) := runOf sg_laws_szClub (F_laws_szClub N)
noncomputable def es_laws_szClub (N : Nat) : List Entry := [⟨31, [.val, .val], (run_laws_szTeamS N)⟩, ⟨32, [.val, .val], (run_laws_szJudgeS N)⟩, ⟨33, [.val, .val], (run_laws_szPairS N)⟩, ⟨34, [.val, .val], (run_laws_szIntS N)⟩, ⟨35, [.val, .val], (run_laws_szBallotS N)⟩, ⟨36, [.val, .val], (run_laws_szLineS N)⟩]
noncomputable def body_laws_szClub : Code := match Try.f14.body with | some c => c | none => .skip
noncomputable def L_laws_szClub (N n : Nat) (key : Nat) (S : St) (K : Ks) : Option Ret := none
theorem L0_laws_szClub (N key : Nat) (S : St) (K : Ks) : L_laws_szClub N 0 key S K = none := rfl
theorem ls_laws_szClub : loopsIn body_laws_szClub = [] := by kernel_rfl
theorem fn_laws_szClub (N : Nat) (x : AVals sg_laws_szClub) (kf : Ret → Option Ret) : F_laws_szClub N x kf = peFunc h_laws_szClub (Orc.of (es_laws_szClub N)) (L_laws_szClub N N) Try.f14 (ashape sg_laws_szClub x) kf := by kernel_rfl
theorem sd_laws_szClub (N : Nat) : Sound Try.prog 14 (run_laws_szClub N) := fun_ok2 (hh := h_laws_szClub) mixed tab_ok (es := es_laws_szClub N) ⟨sd_laws_szTeamS N, ⟨sd_laws_szJudgeS N, ⟨sd_laws_szPairS N, ⟨sd_laws_szIntS N, ⟨sd_laws_szBallotS N, ⟨sd_laws_szLineS N, trivial⟩⟩⟩⟩⟩⟩ (fn := Try.f14) (body := body_laws_szClub) (by kernel_rfl) (by kernel_rfl) (by kernel_rfl) (by kernel_rfl) (by kernel_rfl) (Lf := L_laws_szClub N) (L0_laws_szClub N) ls_laws_szClub trivial (N := N) (by kernel_rfl) (fn_laws_szClub N)
/-! laws_toIntS -/
noncomputable def ks_laws_toIntS_l3 : List Kd := [.v (.sl (.int .i64)) .k, dK, dK, .v (.sl (.int .i64)) (.o 3 none .k), .v (.int .i64) .k, dK, dK, dK, dK, dK, dK, dK, dK, dK, dK, dK, dK, dK, dK, dK, dK, dK]
noncomputable def ko_laws_toIntS_l3_0 : List Kd := [dK, dK, dK, .v (.sl (.int .i64)) (.o 3 none .k), dK, dK, dK, dK, dK, dK, dK, dK, dK, dK, dK, dK, dK, dK, dK, dK, dK, dK]
noncomputable def h_laws_toIntS : Hint := { tab, hn := [], loops := [(3, ks_laws_toIntS_l3)], outs := [(3, 2, ko_laws_toIntS_l3_0)], ords := [] }
noncomputable def sg_laws_toIntS : List AK := [.v (.sl (.int .i64)) .k]
noncomputable def F_laws_toIntS (N : Nat) (x : AVals sg_laws_toIntS) (kf : Ret → Option Ret) : Option Ret := laws_toIntS N x.1 (fun r0 => kf ⟨[⟨(.sl (.int .i64)), (.o 3 none .k), r0⟩], []⟩)
noncomputable def run_laws_toIntS (N : Nat) := runOf sg_laws_toIntS (F_laws_toIntS N)
noncomputable def es_laws_toIntS (N : Nat) : List Entry := []
noncomputable def body_laws_toIntS : Code := match Try.f40.body with | some c => c | none => .skip
noncomputable def L_laws_toIntS (N n : Nat) (key : Nat) (S : St) (K : Ks) : Option Ret := bif Nat.beq key 3 then withVals ks_laws_toIntS_l3 S (fun x => laws_toIntS_l3 x.1 n (fun z0 => K (.x 0) (shape ko_laws_toIntS_l3_0 (z0, ()))) x.2.1 x.2.2.1) else none
theorem L0_laws_toIntS (N key : Nat) (S : St) (K : Ks) : L_laws_toIntS N 0 key S K = none := (bif0 (withVals0 fun _ => rfl) rfl)
noncomputable def c_laws_toIntS_0 : Code := (loopsIn body_laws_toIntS).getD 0 .skip
theorem ls_laws_toIntS : loopsIn body_laws_toIntS = [c_laws_toIntS_0] := by kernel_rfl
theorem rd_laws_toIntS_3 (N n : Nat) (x : Vals ks_laws_toIntS_l3) (K : Ks) : L_laws_toIntS N (n + 1) 3 (shape ks_laws_toIntS_l3 x) (h_laws_toIntS.onOut 3 K) = peRound h_laws_toIntS (Orc.of (es_laws_toIntS N)) (mixL (L_laws_toIntS N) N n 3) c_laws_toIntS_0 (shape ks_laws_toIntS_l3 x) (h_laws_toIntS.onOut 3 K) := by kernel_rfl
theorem fn_laws_toIntS (N : Nat) (x : AVals sg_laws_toIntS) (kf : Ret → Option Ret) : F_laws_toIntS N x kf = peFunc h_laws_toIntS (Orc.of (es_laws_toIntS N)) (L_laws_toIntS N N) Try.f40 (ashape sg_laws_toIntS x) kf := by kernel_rfl
theorem sd_laws_toIntS (N : Nat) : Sound Try.prog 40 (run_laws_toIntS N) := fun_ok2 (hh := h_laws_toIntS) mixed tab_ok (es := es_laws_toIntS N) trivial (fn := Try.f40) (body := body_laws_toIntS) (by kernel_rfl) (by kernel_rfl) (by kernel_rfl) (by kernel_rfl) (by kernel_rfl) (Lf := L_laws_toIntS N) (L0_laws_toIntS N) ls_laws_toIntS (round_cons (key := 3) (ks := ks_laws_toIntS_l3) (by kernel_rfl) (by kernel_rfl) (rd_laws_toIntS_3 N) trivial) (N := N) (by kernel_rfl) (fn_laws_toIntS N)
/-! laws_toTeam -/
noncomputable def h_laws_toTeam : Hint := { tab, hn := [], loops := [], outs := [], ords := [] }
noncomputable def sg_laws_toTeam : List AK := [.v tQIIIIILIE .k]
noncomputable def F_laws_toTeam (N : Nat) (x : AVals sg_laws_toTeam) (kf : Ret → Option Ret) : Option Ret := laws_toTeam N x.1 (fun r0 => kf ⟨[⟨tQIIIIILIE, (.p .k (.p .k (.p .k (.p .k (.p .k (.o 3 none .k)))))), r0⟩], []⟩)
noncomputable def run_laws_toTeam (N : Nat) := runOf sg_laws_toTeam (F_laws_toTeam N)
noncomputable def es_laws_toTeam (N : Nat) : List Entry := [⟨40, [.val], (run_laws_toIntS N)⟩]
noncomputable def body_laws_toTeam : Code := match Try.f74.body with | some c => c | none => .skip
noncomputable def L_laws_toTeam (N n : Nat) (key : Nat) (S : St) (K : Ks) : Option Ret := none
theorem L0_laws_toTeam (N key : Nat) (S : St) (K : Ks) : L_laws_toTeam N 0 key S K = none := rfl
theorem ls_laws_toTeam : loopsIn body_laws_toTeam = [] := by kernel_rfl
theorem fn_laws_toTeam (N : Nat) (x : AVals sg_laws_toTeam) (kf : Ret → Option Ret) : F_laws_toTeam N x kf = peFunc h_laws_toTeam (Orc.of (es_laws_toTeam N)) (L_laws_toTeam N N) Try.f74 (ashape sg_laws_toTeam x) kf := by kernel_rfl
theorem sd_laws_toTeam (N : Nat) : Sound Try.prog 74 (run_laws_toTeam N) := fun_ok2 (hh := h_laws_toTeam) mixed tab_ok (es := es_laws_toTeam N) ⟨sd_laws_toIntS N, trivial⟩ (fn := Try.f74) (body := body_laws_toTeam) (by kernel_rfl) (by kernel_rfl) (by kernel_rfl) (by kernel_rfl) (by kernel_rfl) (Lf := L_laws_toTeam N) (L0_laws_toTeam N) ls_laws_toTeam trivial (N := N) (by kernel_rfl) (fn_laws_toTeam N)
/-! laws_toTeamS -/
noncomputable def ks_laws_toTeamS_l3 : List Kd := [.v (.sl tQIIIIILIE) .k, dK, dK, .v (.sl tQIIIIILIE) (.o 70 none (.p .k (.p .k (.p .k (.p .k (.p .k (.o 3 none .k))))))), .v (.int .i64) .k, dK, dK, dK, dK, dK, dK, dK, dK, dK, dK, dK, dK, dK, dK, dK, dK, dK, dK]
noncomputable def ko_laws_toTeamS_l3_0 : List Kd := [dK, dK, dK, .v (.sl tQIIIIILIE) (.o 70 none (.p .k (.p .k (.p .k (.p .k (.p .k (.o 3 none .k))))))), dK, dK, dK, dK, dK, dK, dK, dK, dK, dK, dK, dK, dK, dK, dK, dK, dK, dK, dK]
noncomputable def h_laws_toTeamS : Hint := { tab, hn := [], loops := [(3, ks_laws_toTeamS_l3)], outs := [(3, 2, ko_laws_toTeamS_l3_0)], ords := [] }
noncomputable def sg_laws_toTeamS : List AK := [.v (.sl tQIIIIILIE) .k]
noncomputable def F_laws_toTeamS (N : Nat) (x : AVals sg_laws_toTeamS) (kf : Ret → Option Ret) : Option Ret := laws_toTeamS N x.1 (fun r0 => kf ⟨[⟨(.sl tQIIIIILIE), (.o 70 none (.p .k (.p .k (.p .k (.p .k (.p .k (.o 3 none .k))))))), r0⟩], []⟩)
noncomputable def run_laws_toTeamS (N : Nat) := runOf sg_laws_toTeamS (F_laws_toTeamS N)
noncomputable def es_laws_toTeamS (N : Nat) : List Entry := [⟨74, [.val], (run_laws_toTeam N)⟩]
noncomputable def body_laws_toTeamS : Code := match Try.f37.body with | some c => c | none => .skip
noncomputable def L_laws_toTeamS (N n : Nat) (key : Nat) (S : St) (K : Ks) : Option Ret := bif Nat.beq key 3 then withVals ks_laws_toTeamS_l3 S (fun x => laws_toTeamS_l3 N x.1 n (fun z0 => K (.x 0) (shape ko_laws_toTeamS_l3_0 (z0, ()))) x.2.1 x.2.2.1) else none
theorem L0_laws_toTeamS (N key : Nat) (S : St) (K : Ks) : L_laws_toTeamS N 0 key S K = none := (bif0 (withVals0 fun _ => rfl) rfl)
noncomputable def c_laws_toTeamS_0 : Code := (loopsIn body_laws_toTeamS).getD 0 .skip
theorem ls_laws_toTeamS : loopsIn body_laws_toTeamS = [c_laws_toTeamS_0] := by kernel_rfl
theorem rd_laws_toTeamS_3 (N n : Nat) (x : Vals ks_laws_toTeamS_l3) (K : Ks) : L_laws_toTeamS N (n + 1) 3 (shape ks_laws_toTeamS_l3 x) (h_laws_toTeamS.onOut 3 K) = peRound h_laws_toTeamS (Orc.of (es_laws_toTeamS N)) (mixL (L_laws_toTeamS N) N n 3) c_laws_toTeamS_0 (shape ks_laws_toTeamS_l3 x) (h_laws_toTeamS.onOut 3 K) := by kernel_rfl
theorem fn_laws_toTeamS (N : Nat) (x : AVals sg_laws_toTeamS) (kf : Ret → Option Ret) : F_laws_toTeamS N x kf = peFunc h_laws_toTeamS (Orc.of (es_laws_toTeamS N)) (L_laws_toTeamS N N) Try.f37 (ashape sg_laws_toTeamS x) kf := by kernel_rfl
theorem sd_laws_toTeamS (N : Nat) : Sound Try.prog 37 (run_laws_toTeamS N) := fun_ok2 (hh := h_laws_toTeamS) mixed tab_ok (es := es_laws_toTeamS N) ⟨sd_laws_toTeam N, trivial⟩ (fn := Try.f37) (body := body_laws_toTeamS) (by kernel_rfl) (by kernel_rfl) (by kernel_rfl) (by kernel_rfl) (by kernel_rfl) (Lf := L_laws_toTeamS N) (L0_laws_toTeamS N) ls_laws_toTeamS (round_cons (key := 3) (ks := ks_laws_toTeamS_l3) (by kernel_rfl) (by kernel_rfl) (rd_laws_toTeamS_3 N) trivial) (N := N) (by kernel_rfl) (fn_laws_toTeamS N)
/-! laws_toJudge -/
noncomputable def h_laws_toJudge : Hint := { tab, hn := [], loops := [], outs := [], ords := [] }
noncomputable def sg_laws_toJudge : List AK := [.v tQIILIE .k]
noncomputable def F_laws_toJudge (N : Nat) (x : AVals sg_laws_toJudge) (kf : Ret → Option Ret) : Option Ret := laws_toJudge N x.1 (fun r0 => kf ⟨[⟨tQIILIE, (.p .k (.p .k (.o 3 none .k))), r0⟩], []⟩)
noncomputable def run_laws_toJudge (N : Nat) := runOf sg_laws_toJudge (F_laws_toJudge N)
noncomputable def es_laws_toJudge (N : Nat) : List Entry := [⟨40, [.val], (run_laws_toIntS N)⟩]
noncomputable def body_laws_toJudge : Code := match Try.f75.body with | some c => c | none => .skip
noncomputable def L_laws_toJudge (N n : Nat) (key : Nat) (S : St) (K : Ks) : Option Ret := none
theorem L0_laws_toJudge (N key : Nat) (S : St) (K : Ks) : L_laws_toJudge N 0 key S K = none := rfl
theorem ls_laws_toJudge : loopsIn body_laws_toJudge = [] := by kernel_rfl
theorem fn_laws_toJudge (N : Nat) (x : AVals sg_laws_toJudge) (kf : Ret → Option Ret) : F_laws_toJudge N x kf = peFunc h_laws_toJudge (Orc.of (es_laws_toJudge N)) (L_laws_toJudge N N) Try.f75 (ashape sg_laws_toJudge x) kf := by kernel_rfl
theorem sd_laws_toJudge (N : Nat) : Sound Try.prog 75 (run_laws_toJudge N) := fun_ok2 (hh := h_laws_toJudge) mixed tab_ok (es := es_laws_toJudge N) ⟨sd_laws_toIntS N, trivial⟩ (fn := Try.f75) (body := body_laws_toJudge) (by kernel_rfl) (by kernel_rfl) (by kernel_rfl) (by kernel_rfl) (by kernel_rfl) (Lf := L_laws_toJudge N) (L0_laws_toJudge N) ls_laws_toJudge trivial (N := N) (by kernel_rfl) (fn_laws_toJudge N)
/-! laws_toJudgeS -/
noncomputable def ks_laws_toJudgeS_l3 : List Kd := [.v (.sl tQIILIE) .k, dK, dK, .v (.sl tQIILIE) (.o 75 none (.p .k (.p .k (.o 3 none .k)))), .v (.int .i64) .k, dK, dK, dK, dK, dK, dK, dK, dK, dK, dK, dK, dK, dK, dK, dK, dK, dK, dK]
noncomputable def ko_laws_toJudgeS_l3_0 : List Kd := [dK, dK, dK, .v (.sl tQIILIE) (.o 75 none (.p .k (.p .k (.o 3 none .k)))), dK, dK, dK, dK, dK, dK, dK, dK, dK, dK, dK, dK, dK, dK, dK, dK, dK, dK, dK]
noncomputable def h_laws_toJudgeS : Hint := { tab, hn := [], loops := [(3, ks_laws_toJudgeS_l3)], outs := [(3, 2, ko_laws_toJudgeS_l3_0)], ords := [] }
noncomputable def sg_laws_toJudgeS : List AK := [.v (.sl tQIILIE) .k]
noncomputable def F_laws_toJudgeS (N : Nat) (x : AVals sg_laws_toJudgeS) (kf : Ret → Option Ret) : Option Ret := laws_toJudgeS N x.1 (fun r0 => kf ⟨[⟨(.sl tQIILIE), (.o 75 none (.p .k (.p .k (.o 3 none .k)))), r0⟩], []⟩)
noncomputable def run_laws_toJudgeS (N : Nat) := runOf sg_laws_toJudgeS (F_laws_toJudgeS N)
noncomputable def es_laws_toJudgeS (N : Nat) : List Entry := [⟨75, [.val], (run_laws_toJudge N)⟩]
noncomputable def body_laws_toJudgeS : Code := match Try.f38.body with | some c => c | none => .skip
noncomputable def L_laws_toJudgeS (N n : Nat) (key : Nat) (S : St) (K : Ks) : Option Ret := bif Nat.beq key 3 then withVals ks_laws_toJudgeS_l3 S (fun x => laws_toJudgeS_l3 N x.1 n (fun z0 => K (.x 0) (shape ko_laws_toJudgeS_l3_0 (z0, ()))) x.2.1 x.2.2.1) else none
theorem L0_laws_toJudgeS (N key : Nat) (S : St) (K : Ks) : L_laws_toJudgeS N 0 key S K = none := (bif0 (withVals0 fun _ => rfl) rfl)
noncomputable def c_laws_toJudgeS_0 : Code := (loopsIn body_laws_toJudgeS).getD 0 .skip
theorem ls_laws_toJudgeS : loopsIn body_laws_toJudgeS = [c_laws_toJudgeS_0] := by kernel_rfl
theorem rd_laws_toJudgeS_3 (N n : Nat) (x : Vals ks_laws_toJudgeS_l3) (K : Ks) : L_laws_toJudgeS N (n + 1) 3 (shape ks_laws_toJudgeS_l3 x) (h_laws_toJudgeS.onOut 3 K) = peRound h_laws_toJudgeS (Orc.of (es_laws_toJudgeS N)) (mixL (L_laws_toJudgeS N) N n 3) c_laws_toJudgeS_0 (shape ks_laws_toJudgeS_l3 x) (h_laws_toJudgeS.onOut 3 K) := by kernel_rfl
theorem fn_laws_toJudgeS (N : Nat) (x : AVals sg_laws_toJudgeS) (kf : Ret → Option Ret) : F_laws_toJudgeS N x kf = peFunc h_laws_toJudgeS (Orc.of (es_laws_toJudgeS N)) (L_laws_toJudgeS N N) Try.f38 (ashape sg_laws_toJudgeS x) kf := by kernel_rfl
theorem sd_laws_toJudgeS (N : Nat) : Sound Try.prog 38 (run_laws_toJudgeS N) := fun_ok2 (hh := h_laws_toJudgeS) mixed tab_ok (es := es_laws_toJudgeS N) ⟨sd_laws_toJudge N, trivial⟩ (fn := Try.f38) (body := body_laws_toJudgeS) (by kernel_rfl) (by kernel_rfl) (by kernel_rfl) (by kernel_rfl) (by kernel_rfl) (Lf := L_laws_toJudgeS N) (L0_laws_toJudgeS N) ls_laws_toJudgeS (round_cons (key := 3) (ks := ks_laws_toJudgeS_l3) (by kernel_rfl) (by kernel_rfl) (rd_laws_toJudgeS_3 N) trivial) (N := N) (by kernel_rfl) (fn_laws_toJudgeS N)
/-! laws_toPair -/
noncomputable def h_laws_toPair : Hint := { tab, hn := [], loops := [], outs := [], ords := [] }
noncomputable def sg_laws_toPair : List AK := [.v tQIIE .k]
noncomputable def F_laws_toPair (N : Nat) (x : AVals sg_laws_toPair) (kf : Ret → Option Ret) : Option Ret := laws_toPair N x.1 (fun r0 => kf ⟨[⟨tQIIE, .k, r0⟩], []⟩)
noncomputable def run_laws_toPair (N : Nat) := runOf sg_laws_toPair (F_laws_toPair N)
noncomputable def es_laws_toPair (N : Nat) : List Entry := []
noncomputable def body_laws_toPair : Code := match Try.f76.body with | some c => c | none => .skip
noncomputable def L_laws_toPair (N n : Nat) (key : Nat) (S : St) (K : Ks) : Option Ret := none
theorem L0_laws_toPair (N key : Nat) (S : St) (K : Ks) : L_laws_toPair N 0 key S K = none := rfl
theorem ls_laws_toPair : loopsIn body_laws_toPair = [] := by kernel_rfl
theorem fn_laws_toPair (N : Nat) (x : AVals sg_laws_toPair) (kf : Ret → Option Ret) : F_laws_toPair N x kf = peFunc h_laws_toPair (Orc.of (es_laws_toPair N)) (L_laws_toPair N N) Try.f76 (ashape sg_laws_toPair x) kf := by kernel_rfl
theorem sd_laws_toPair (N : Nat) : Sound Try.prog 76 (run_laws_toPair N) := fun_ok2 (hh := h_laws_toPair) mixed tab_ok (es := es_laws_toPair N) trivial (fn := Try.f76) (body := body_laws_toPair) (by kernel_rfl) (by kernel_rfl) (by kernel_rfl) (by kernel_rfl) (by kernel_rfl) (Lf := L_laws_toPair N) (L0_laws_toPair N) ls_laws_toPair trivial (N := N) (by kernel_rfl) (fn_laws_toPair N)
/-! laws_toPairS -/
noncomputable def ks_laws_toPairS_l3 : List Kd := [.v (.sl tQIIE) .k, dK, dK, .v (.sl tQIIE) (.o 77 none .k), .v (.int .i64) .k, dK, dK, dK, dK, dK, dK, dK, dK, dK, dK, dK, dK, dK, dK, dK, dK, dK, dK]
noncomputable def ko_laws_toPairS_l3_0 : List Kd := [dK, dK, dK, .v (.sl tQIIE) (.o 77 none .k), dK, dK, dK, dK, dK, dK, dK, dK, dK, dK, dK, dK, dK, dK, dK, dK, dK, dK, dK]
noncomputable def h_laws_toPairS : Hint := { tab, hn := [], loops := [(3, ks_laws_toPairS_l3)], outs := [(3, 2, ko_laws_toPairS_l3_0)], ords := [] }
noncomputable def sg_laws_toPairS : List AK := [.v (.sl tQIIE) .k]
noncomputable def F_laws_toPairS (N : Nat) (x : AVals sg_laws_toPairS) (kf : Ret → Option Ret) : Option Ret := laws_toPairS N x.1 (fun r0 => kf ⟨[⟨(.sl tQIIE), (.o 77 none .k), r0⟩], []⟩)
noncomputable def run_laws_toPairS (N : Nat) := runOf sg_laws_toPairS (F_laws_toPairS N)
noncomputable def es_laws_toPairS (N : Nat) : List Entry := [⟨76, [.val], (run_laws_toPair N)⟩]
noncomputable def body_laws_toPairS : Code := match Try.f39.body with | some c => c | none => .skip
noncomputable def L_laws_toPairS (N n : Nat) (key : Nat) (S : St) (K : Ks) : Option Ret := bif Nat.beq key 3 then withVals ks_laws_toPairS_l3 S (fun x => laws_toPairS_l3 N x.1 n (fun z0 => K (.x 0) (shape ko_laws_toPairS_l3_0 (z0, ()))) x.2.1 x.2.2.1) else none
theorem L0_laws_toPairS (N key : Nat) (S : St) (K : Ks) : L_laws_toPairS N 0 key S K = none := (bif0 (withVals0 fun _ => rfl) rfl)
noncomputable def c_laws_toPairS_0 : Code := (loopsIn body_laws_toPairS).getD 0 .skip
theorem ls_laws_toPairS : loopsIn body_laws_toPairS = [c_laws_toPairS_0] := by kernel_rfl
theorem rd_laws_toPairS_3 (N n : Nat) (x : Vals ks_laws_toPairS_l3) (K : Ks) : L_laws_toPairS N (n + 1) 3 (shape ks_laws_toPairS_l3 x) (h_laws_toPairS.onOut 3 K) = peRound h_laws_toPairS (Orc.of (es_laws_toPairS N)) (mixL (L_laws_toPairS N) N n 3) c_laws_toPairS_0 (shape ks_laws_toPairS_l3 x) (h_laws_toPairS.onOut 3 K) := by kernel_rfl
theorem fn_laws_toPairS (N : Nat) (x : AVals sg_laws_toPairS) (kf : Ret → Option Ret) : F_laws_toPairS N x kf = peFunc h_laws_toPairS (Orc.of (es_laws_toPairS N)) (L_laws_toPairS N N) Try.f39 (ashape sg_laws_toPairS x) kf := by kernel_rfl
theorem sd_laws_toPairS (N : Nat) : Sound Try.prog 39 (run_laws_toPairS N) := fun_ok2 (hh := h_laws_toPairS) mixed tab_ok (es := es_laws_toPairS N) ⟨sd_laws_toPair N, trivial⟩ (fn := Try.f39) (body := body_laws_toPairS) (by kernel_rfl) (by kernel_rfl) (by kernel_rfl) (by kernel_rfl) (by kernel_rfl) (Lf := L_laws_toPairS N) (L0_laws_toPairS N) ls_laws_toPairS (round_cons (key := 3) (ks := ks_laws_toPairS_l3) (by kernel_rfl) (by kernel_rfl) (rd_laws_toPairS_3 N) trivial) (N := N) (by kernel_rfl) (fn_laws_toPairS N)
/-! laws_toBallot -/
noncomputable def h_laws_toBallot : Hint := { tab, hn := [], loops := [], outs := [], ords := [] }
noncomputable def sg_laws_toBallot : List AK := [.v tQIIIE .k]
noncomputable def F_laws_toBallot (N : Nat) (x : AVals sg_laws_toBallot) (kf : Ret → Option Ret) : Option Ret := laws_toBallot N x.1 (fun r0 => kf ⟨[⟨tQIIIE, .k, r0⟩], []⟩)
noncomputable def run_laws_toBallot (N : Nat) := runOf sg_laws_toBallot (F_laws_toBallot N)
noncomputable def es_laws_toBallot (N : Nat) : List Entry := []
noncomputable def body_laws_toBallot : Code := match Try.f77.body with | some c => c | none => .skip
noncomputable def L_laws_toBallot (N n : Nat) (key : Nat) (S : St) (K : Ks) : Option Ret := none
theorem L0_laws_toBallot (N key : Nat) (S : St) (K : Ks) : L_laws_toBallot N 0 key S K = none := rfl
theorem ls_laws_toBallot : loopsIn body_laws_toBallot = [] := by kernel_rfl
theorem fn_laws_toBallot (N : Nat) (x : AVals sg_laws_toBallot) (kf : Ret → Option Ret) : F_laws_toBallot N x kf = peFunc h_laws_toBallot (Orc.of (es_laws_toBallot N)) (L_laws_toBallot N N) Try.f77 (ashape sg_laws_toBallot x) kf := by kernel_rfl
theorem sd_laws_toBallot (N : Nat) : Sound Try.prog 77 (run_laws_toBallot N) := fun_ok2 (hh := h_laws_toBallot) mixed tab_ok (es := es_laws_toBallot N) trivial (fn := Try.f77) (body := body_laws_toBallot) (by kernel_rfl) (by kernel_rfl) (by kernel_rfl) (by kernel_rfl) (by kernel_rfl) (Lf := L_laws_toBallot N) (L0_laws_toBallot N) ls_laws_toBallot trivial (N := N) (by kernel_rfl) (fn_laws_toBallot N)
/-! laws_toBallotS -/
noncomputable def ks_laws_toBallotS_l3 : List Kd := [.v (.sl tQIIIE) .k, dK, dK, .v (.sl tQIIIE) (.o 83 none .k), .v (.int .i64) .k, dK, dK, dK, dK, dK, dK, dK, dK, dK, dK, dK, dK, dK, dK, dK, dK, dK, dK]
noncomputable def ko_laws_toBallotS_l3_0 : List Kd := [dK, dK, dK, .v (.sl tQIIIE) (.o 83 none .k), dK, dK, dK, dK, dK, dK, dK, dK, dK, dK, dK, dK, dK, dK, dK, dK, dK, dK, dK]
noncomputable def h_laws_toBallotS : Hint := { tab, hn := [], loops := [(3, ks_laws_toBallotS_l3)], outs := [(3, 2, ko_laws_toBallotS_l3_0)], ords := [] }
noncomputable def sg_laws_toBallotS : List AK := [.v (.sl tQIIIE) .k]
noncomputable def F_laws_toBallotS (N : Nat) (x : AVals sg_laws_toBallotS) (kf : Ret → Option Ret) : Option Ret := laws_toBallotS N x.1 (fun r0 => kf ⟨[⟨(.sl tQIIIE), (.o 83 none .k), r0⟩], []⟩)
noncomputable def run_laws_toBallotS (N : Nat) := runOf sg_laws_toBallotS (F_laws_toBallotS N)
noncomputable def es_laws_toBallotS (N : Nat) : List Entry := [⟨77, [.val], (run_laws_toBallot N)⟩]
noncomputable def body_laws_toBallotS : Code := match Try.f41.body with | some c => c | none => .skip
noncomputable def L_laws_toBallotS (N n : Nat) (key : Nat) (S : St) (K : Ks) : Option Ret := bif Nat.beq key 3 then withVals ks_laws_toBallotS_l3 S (fun x => laws_toBallotS_l3 N x.1 n (fun z0 => K (.x 0) (shape ko_laws_toBallotS_l3_0 (z0, ()))) x.2.1 x.2.2.1) else none
theorem L0_laws_toBallotS (N key : Nat) (S : St) (K : Ks) : L_laws_toBallotS N 0 key S K = none := (bif0 (withVals0 fun _ => rfl) rfl)
noncomputable def c_laws_toBallotS_0 : Code := (loopsIn body_laws_toBallotS).getD 0 .skip
theorem ls_laws_toBallotS : loopsIn body_laws_toBallotS = [c_laws_toBallotS_0] := by kernel_rfl
theorem rd_laws_toBallotS_3 (N n : Nat) (x : Vals ks_laws_toBallotS_l3) (K : Ks) : L_laws_toBallotS N (n + 1) 3 (shape ks_laws_toBallotS_l3 x) (h_laws_toBallotS.onOut 3 K) = peRound h_laws_toBallotS (Orc.of (es_laws_toBallotS N)) (mixL (L_laws_toBallotS N) N n 3) c_laws_toBallotS_0 (shape ks_laws_toBallotS_l3 x) (h_laws_toBallotS.onOut 3 K) := by kernel_rfl
theorem fn_laws_toBallotS (N : Nat) (x : AVals sg_laws_toBallotS) (kf : Ret → Option Ret) : F_laws_toBallotS N x kf = peFunc h_laws_toBallotS (Orc.of (es_laws_toBallotS N)) (L_laws_toBallotS N N) Try.f41 (ashape sg_laws_toBallotS x) kf := by kernel_rfl
theorem sd_laws_toBallotS (N : Nat) : Sound Try.prog 41 (run_laws_toBallotS N) := fun_ok2 (hh := h_laws_toBallotS) mixed tab_ok (es := es_laws_toBallotS N) ⟨sd_laws_toBallot N, trivial⟩ (fn := Try.f41) (body := body_laws_toBallotS) (by kernel_rfl) (by kernel_rfl) (by kernel_rfl) (by kernel_rfl) (by kernel_rfl) (Lf := L_laws_toBallotS N) (L0_laws_toBallotS N) ls_laws_toBallotS (round_cons (key := 3) (ks := ks_laws_toBallotS_l3) (by kernel_rfl) (by kernel_rfl) (rd_laws_toBallotS_3 N) trivial) (N := N) (by kernel_rfl) (fn_laws_toBallotS N)
/-! laws_toLine -/
noncomputable def h_laws_toLine : Hint := { tab, hn := [], loops := [], outs := [], ords := [] }
noncomputable def sg_laws_toLine : List AK := [.v tQIIIIE .k]
noncomputable def F_laws_toLine (N : Nat) (x : AVals sg_laws_toLine) (kf : Ret → Option Ret) : Option Ret := laws_toLine N x.1 (fun r0 => kf ⟨[⟨tQIIIIE, .k, r0⟩], []⟩)
noncomputable def run_laws_toLine (N : Nat) := runOf sg_laws_toLine (F_laws_toLine N)
noncomputable def es_laws_toLine (N : Nat) : List Entry := []
noncomputable def body_laws_toLine : Code := match Try.f78.body with | some c => c | none => .skip
noncomputable def L_laws_toLine (N n : Nat) (key : Nat) (S : St) (K : Ks) : Option Ret := none
theorem L0_laws_toLine (N key : Nat) (S : St) (K : Ks) : L_laws_toLine N 0 key S K = none := rfl
theorem ls_laws_toLine : loopsIn body_laws_toLine = [] := by kernel_rfl
theorem fn_laws_toLine (N : Nat) (x : AVals sg_laws_toLine) (kf : Ret → Option Ret) : F_laws_toLine N x kf = peFunc h_laws_toLine (Orc.of (es_laws_toLine N)) (L_laws_toLine N N) Try.f78 (ashape sg_laws_toLine x) kf := by kernel_rfl
theorem sd_laws_toLine (N : Nat) : Sound Try.prog 78 (run_laws_toLine N) := fun_ok2 (hh := h_laws_toLine) mixed tab_ok (es := es_laws_toLine N) trivial (fn := Try.f78) (body := body_laws_toLine) (by kernel_rfl) (by kernel_rfl) (by kernel_rfl) (by kernel_rfl) (by kernel_rfl) (Lf := L_laws_toLine N) (L0_laws_toLine N) ls_laws_toLine trivial (N := N) (by kernel_rfl) (fn_laws_toLine N)
/-! laws_toLineS -/
noncomputable def ks_laws_toLineS_l3 : List Kd := [.v (.sl tQIIIIE) .k, dK, dK, .v (.sl tQIIIIE) (.o 85 none .k), .v (.int .i64) .k, dK, dK, dK, dK, dK, dK, dK, dK, dK, dK, dK, dK, dK, dK, dK, dK, dK, dK]
noncomputable def ko_laws_toLineS_l3_0 : List Kd := [dK, dK, dK, .v (.sl tQIIIIE) (.o 85 none .k), dK, dK, dK, dK, dK, dK, dK, dK, dK, dK, dK, dK, dK, dK, dK, dK, dK, dK, dK]
noncomputable def h_laws_toLineS : Hint := { tab, hn := [], loops := [(3, ks_laws_toLineS_l3)], outs := [(3, 2, ko_laws_toLineS_l3_0)], ords := [] }
noncomputable def sg_laws_toLineS : List AK := [.v (.sl tQIIIIE) .k]
noncomputable def F_laws_toLineS (N : Nat) (x : AVals sg_laws_toLineS) (kf : Ret → Option Ret) : Option Ret := laws_toLineS N x.1 (fun r0 => kf ⟨[⟨(.sl tQIIIIE), (.o 85 none .k), r0⟩], []⟩)
noncomputable def run_laws_toLineS (N : Nat) := runOf sg_laws_toLineS (F_laws_toLineS N)
noncomputable def es_laws_toLineS (N : Nat) : List Entry := [⟨78, [.val], (run_laws_toLine N)⟩]
noncomputable def body_laws_toLineS : Code := match Try.f42.body with | some c => c | none => .skip
noncomputable def L_laws_toLineS (N n : Nat) (key : Nat) (S : St) (K : Ks) : Option Ret := bif Nat.beq key 3 then withVals ks_laws_toLineS_l3 S (fun x => laws_toLineS_l3 N x.1 n (fun z0 => K (.x 0) (shape ko_laws_toLineS_l3_0 (z0, ()))) x.2.1 x.2.2.1) else none
theorem L0_laws_toLineS (N key : Nat) (S : St) (K : Ks) : L_laws_toLineS N 0 key S K = none := (bif0 (withVals0 fun _ => rfl) rfl)
noncomputable def c_laws_toLineS_0 : Code := (loopsIn body_laws_toLineS).getD 0 .skip
theorem ls_laws_toLineS : loopsIn body_laws_toLineS = [c_laws_toLineS_0] := by kernel_rfl
theorem rd_laws_toLineS_3 (N n : Nat) (x : Vals ks_laws_toLineS_l3) (K : Ks) : L_laws_toLineS N (n + 1) 3 (shape ks_laws_toLineS_l3 x) (h_laws_toLineS.onOut 3 K) = peRound h_laws_toLineS (Orc.of (es_laws_toLineS N)) (mixL (L_laws_toLineS N) N n 3) c_laws_toLineS_0 (shape ks_laws_toLineS_l3 x) (h_laws_toLineS.onOut 3 K) := by kernel_rfl
theorem fn_laws_toLineS (N : Nat) (x : AVals sg_laws_toLineS) (kf : Ret → Option Ret) : F_laws_toLineS N x kf = peFunc h_laws_toLineS (Orc.of (es_laws_toLineS N)) (L_laws_toLineS N N) Try.f42 (ashape sg_laws_toLineS x) kf := by kernel_rfl
theorem sd_laws_toLineS (N : Nat) : Sound Try.prog 42 (run_laws_toLineS N) := fun_ok2 (hh := h_laws_toLineS) mixed tab_ok (es := es_laws_toLineS N) ⟨sd_laws_toLine N, trivial⟩ (fn := Try.f42) (body := body_laws_toLineS) (by kernel_rfl) (by kernel_rfl) (by kernel_rfl) (by kernel_rfl) (by kernel_rfl) (Lf := L_laws_toLineS N) (L0_laws_toLineS N) ls_laws_toLineS (round_cons (key := 3) (ks := ks_laws_toLineS_l3) (by kernel_rfl) (by kernel_rfl) (rd_laws_toLineS_3 N) trivial) (N := N) (by kernel_rfl) (fn_laws_toLineS N)
/-! laws_toClub -/
noncomputable def h_laws_toClub : Hint := { tab, hn := [], loops := [], outs := [], ords := [] }
noncomputable def sg_laws_toClub : List AK := [.v tQLQIIIIILIELQIILIELQIIELILQIIIELQIIIIEIE .k]
noncomputable def F_laws_toClub (N : Nat) (x : AVals sg_laws_toClub) (kf : Ret → Option Ret) : Option Ret := laws_toClub N x.1 (fun r0 => kf ⟨[⟨tQLQIIIIILIELQIILIELQIIELILQIIIELQIIIIEIE, (.p (.o 70 none (.p .k (.p .k (.p .k (.p .k (.p .k (.o 3 none .k))))))) (.p (.o 75 none (.p .k (.p .k (.o 3 none .k)))) (.p (.o 77 none .k) (.p (.o 3 none .k) (.p (.o 83 none .k) (.p (.o 85 none .k) .k)))))), r0⟩], []⟩)
noncomputable def run_laws_toClub (N : Nat) := runOf sg_laws_toClub (F_laws_toClub N)
noncomputable def es_laws_toClub (N : Nat) : List Entry := [⟨37, [.val], (run_laws_toTeamS N)⟩, ⟨38, [.val], (run_laws_toJudgeS N)⟩, ⟨39, [.val], (run_laws_toPairS N)⟩, ⟨40, [.val], (run_laws_toIntS N)⟩, ⟨41, [.val], (run_laws_toBallotS N)⟩, ⟨42, [.val], (run_laws_toLineS N)⟩]
noncomputable def body_laws_toClub : Code := match Try.f16.body with | some c => c | none => .skip
noncomputable def L_laws_toClub (N n : Nat) (key : Nat) (S : St) (K : Ks) : Option Ret := none
theorem L0_laws_toClub (N key : Nat) (S : St) (K : Ks) : L_laws_toClub N 0 key S K = none := rfl
theorem ls_laws_toClub : loopsIn body_laws_toClub = [] := by kernel_rfl
theorem fn_laws_toClub (N : Nat) (x : AVals sg_laws_toClub) (kf : Ret → Option Ret) : F_laws_toClub N x kf = peFunc h_laws_toClub (Orc.of (es_laws_toClub N)) (L_laws_toClub N N) Try.f16 (ashape sg_laws_toClub x) kf := by kernel_rfl
theorem sd_laws_toClub (N : Nat) : Sound Try.prog 16 (run_laws_toClub N) := fun_ok2 (hh := h_laws_toClub) mixed tab_ok (es := es_laws_toClub N) ⟨sd_laws_toTeamS N, ⟨sd_laws_toJudgeS N, ⟨sd_laws_toPairS N, ⟨sd_laws_toIntS N, ⟨sd_laws_toBallotS N, ⟨sd_laws_toLineS N, trivial⟩⟩⟩⟩⟩⟩ (fn := Try.f16) (body := body_laws_toClub) (by kernel_rfl) (by kernel_rfl) (by kernel_rfl) (by kernel_rfl) (by kernel_rfl) (Lf := L_laws_toClub N) (L0_laws_toClub N) ls_laws_toClub trivial (N := N) (by kernel_rfl) (fn_laws_toClub N)
/-! laws_eqIntS -/
noncomputable def ks_laws_eqIntS_l4 : List Kd := [.v (.sl (.int .i64)) .k, .v (.sl (.int .i64)) .k, dK, dK, dK, .v (.int .i64) .k, dK, dK, dK, dK, dK, dK, dK, dK, dK, dK, dK, dK, dK, dK, dK, dK, dK, dK, dK, dK]
noncomputable def ko_laws_eqIntS_l4_0 : List Kd := [dK, dK, dK, dK, dK, dK, dK, dK, dK, dK, dK, dK, dK, dK, dK, dK, dK, dK, dK, dK, dK, dK, dK, dK, dK, dK]
noncomputable def ko_laws_eqIntS_l4_1 : List Kd := [dK, dK, dK, dK, .v .bool .k, dK, dK, dK, dK, dK, dK, dK, dK, dK, dK, dK, dK, dK, dK, dK, dK, dK, dK, dK, dK, dK]
noncomputable def h_laws_eqIntS : Hint := { tab, hn := [], loops := [(4, ks_laws_eqIntS_l4)], outs := [(4, 2, ko_laws_eqIntS_l4_0), (4, 1, ko_laws_eqIntS_l4_1)], ords := [(6, (OT.seq [0, 1, 2, 3, 4, 5, 6, 7, 8] .done))] }
noncomputable def sg_laws_eqIntS : List AK := [.v (.sl (.int .i64)) .k, .v (.sl (.int .i64)) .k]
noncomputable def F_laws_eqIntS (N : Nat) (x : AVals sg_laws_eqIntS) (kf : Ret → Option Ret) : Option Ret := laws_eqIntS N x.1 x.2.1 (fun r0 => kf ⟨[⟨.bool, .k, r0⟩], []⟩)
noncomputable def run_laws_eqIntS (N : Nat) := runOf sg_laws_eqIntS (F_laws_eqIntS N)
noncomputable def es_laws_eqIntS (N : Nat) : List Entry := []
noncomputable def body_laws_eqIntS : Code := match Try.f11.body with | some c => c | none => .skip
noncomputable def L_laws_eqIntS (N n : Nat) (key : Nat) (S : St) (K : Ks) : Option Ret := bif Nat.beq key 4 then withVals ks_laws_eqIntS_l4 S (fun x => laws_eqIntS_l4 x.1 x.2.1 n (K (.x 0) (shape ko_laws_eqIntS_l4_0 ())) (fun z0 => K .r (shape ko_laws_eqIntS_l4_1 (z0, ()))) x.2.2.1) else none
theorem L0_laws_eqIntS (N key : Nat) (S : St) (K : Ks) : L_laws_eqIntS N 0 key S K = none := (bif0 (withVals0 fun _ => rfl) rfl)
noncomputable def c_laws_eqIntS_0 : Code := (loopsIn body_laws_eqIntS).getD 0 .skip
theorem ls_laws_eqIntS : loopsIn body_laws_eqIntS = [c_laws_eqIntS_0] := by kernel_rfl
theorem rd_laws_eqIntS_4 (N n : Nat) (x : Vals ks_laws_eqIntS_l4) (K : Ks) : L_laws_eqIntS N (n + 1) 4 (shape ks_laws_eqIntS_l4 x) (h_laws_eqIntS.onOut 4 K) = peRound h_laws_eqIntS (Orc.of (es_laws_eqIntS N)) (mixL (L_laws_eqIntS N) N n 4) c_laws_eqIntS_0 (shape ks_laws_eqIntS_l4 x) (h_laws_eqIntS.onOut 4 K) := by kernel_rfl
theorem fn_laws_eqIntS (N : Nat) (x : AVals sg_laws_eqIntS) (kf : Ret → Option Ret) : F_laws_eqIntS N x kf = peFunc h_laws_eqIntS (Orc.of (es_laws_eqIntS N)) (L_laws_eqIntS N N) Try.f11 (ashape sg_laws_eqIntS x) kf := by kernel_rfl
theorem sd_laws_eqIntS (N : Nat) : Sound Try.prog 11 (run_laws_eqIntS N) := fun_ok2 (hh := h_laws_eqIntS) mixed tab_ok (es := es_laws_eqIntS N) trivial (fn := Try.f11) (body := body_laws_eqIntS) (by kernel_rfl) (by kernel_rfl) (by kernel_rfl) (by kernel_rfl) (by kernel_rfl) (Lf := L_laws_eqIntS N) (L0_laws_eqIntS N) ls_laws_eqIntS (round_cons (key := 4) (ks := ks_laws_eqIntS_l4) (by kernel_rfl) (by kernel_rfl) (rd_laws_eqIntS_4 N) trivial) (N := N) (by kernel_rfl) (fn_laws_eqIntS N)
/-! laws_eqTeam -/
noncomputable def h_laws_eqTeam : Hint := { tab, hn := [], loops := [], outs := [], ords := [] }
noncomputable def sg_laws_eqTeam : List AK := [.v tQIIIIILIE .k, .v tQIIIIILIE .k]
noncomputable def F_laws_eqTeam (N : Nat) (x : AVals sg_laws_eqTeam) (kf : Ret → Option Ret) : Option Ret := laws_eqTeam N x.1 x.2.1 (fun r0 => kf ⟨[⟨.bool, .k, r0⟩], []⟩)
noncomputable def run_laws_eqTeam (N : Nat) := runOf sg_laws_eqTeam (F_laws_eqTeam N)
noncomputable def es_laws_eqTeam (N : Nat) : List Entry := [⟨11, [.val, .val], (run_laws_eqIntS N)⟩]
noncomputable def body_laws_eqTeam : Code := match Try.f79.body with | some c => c | none => .skip
noncomputable def L_laws_eqTeam (N n : Nat) (key : Nat) (S : St) (K : Ks) : Option Ret := none
theorem L0_laws_eqTeam (N key : Nat) (S : St) (K : Ks) : L_laws_eqTeam N 0 key S K = none := rfl
theorem ls_laws_eqTeam : loopsIn body_laws_eqTeam = [] := by kernel_rfl
theorem fn_laws_eqTeam (N : Nat) (x : AVals sg_laws_eqTeam) (kf : Ret → Option Ret) : F_laws_eqTeam N x kf = peFunc h_laws_eqTeam (Orc.of (es_laws_eqTeam N)) (L_laws_eqTeam N N) Try.f79 (ashape sg_laws_eqTeam x) kf := by kernel_rfl
theorem sd_laws_eqTeam (N : Nat) : Sound Try.prog 79 (run_laws_eqTeam N) := fun_ok2 (hh := h_laws_eqTeam) mixed tab_ok (es := es_laws_eqTeam N) ⟨sd_laws_eqIntS N, trivial⟩ (fn := Try.f79) (body := body_laws_eqTeam) (by kernel_rfl) (by kernel_rfl) (by kernel_rfl) (by kernel_rfl) (by kernel_rfl) (Lf := L_laws_eqTeam N) (L0_laws_eqTeam N) ls_laws_eqTeam trivial (N := N) (by kernel_rfl) (fn_laws_eqTeam N)
/-! laws_eqTeamS -/
noncomputable def ks_laws_eqTeamS_l4 : List Kd := [.v (.sl tQIIIIILIE) .k, .v (.sl tQIIIIILIE) .k, dK, dK, dK, .v (.int .i64) .k, dK, dK, dK, dK, dK, dK, dK, dK, dK, dK, dK, dK, dK, dK, dK, dK, dK, dK, dK, dK, dK]
noncomputable def ko_laws_eqTeamS_l4_0 : List Kd := [dK, dK, dK, dK, dK, dK, dK, dK, dK, dK, dK, dK, dK, dK, dK, dK, dK, dK, dK, dK, dK, dK, dK, dK, dK, dK, dK]
noncomputable def ko_laws_eqTeamS_l4_1 : List Kd := [dK, dK, dK, dK, .v .bool .k, dK, dK, dK, dK, dK, dK, dK, dK, dK, dK, dK, dK, dK, dK, dK, dK, dK, dK, dK, dK, dK, dK]
noncomputable def h_laws_eqTeamS : Hint := { tab, hn := [], loops := [(4, ks_laws_eqTeamS_l4)], outs := [(4, 2, ko_laws_eqTeamS_l4_0), (4, 1, ko_laws_eqTeamS_l4_1)], ords := [(6, (OT.seq [0, 1, 2, 3, 4, 5, 6, 7, 8, 9] .done))] }
noncomputable def sg_laws_eqTeamS : List AK := [.v (.sl tQIIIIILIE) .k, .v (.sl tQIIIIILIE) .k]
noncomputable def F_laws_eqTeamS (N : Nat) (x : AVals sg_laws_eqTeamS) (kf : Ret → Option Ret) : Option Ret := laws_eqTeamS N x.1 x.2.1 (fun r0 => kf ⟨[⟨.bool, .k, r0⟩], []⟩)
noncomputable def run_laws_eqTeamS (N : Nat) := runOf sg_laws_eqTeamS (F_laws_eqTeamS N)
noncomputable def es_laws_eqTeamS (N : Nat) : List Entry := [⟨79, [.val, .val], (run_laws_eqTeam N)⟩]
noncomputable def body_laws_eqTeamS : Code := match Try.f43.body with | some c => c | none => .skip
noncomputable def L_laws_eqTeamS (N n : Nat) (key : Nat) (S : St) (K : Ks) : Option Ret := bif Nat.beq key 4 then withVals ks_laws_eqTeamS_l4 S (fun x => laws_eqTeamS_l4 N x.1 x.2.1 n (K (.x 0) (shape ko_laws_eqTeamS_l4_0 ())) (fun z0 => K .r (shape ko_laws_eqTeamS_l4_1 (z0, ()))) x.2.2.1) else none
theorem L0_laws_eqTeamS (N key : Nat) (S : St) (K : Ks) : L_laws_eqTeamS N 0 key S K = none := (bif0 (withVals0 fun _ => rfl) rfl)
noncomputable def c_laws_eqTeamS_0 : Code := (loopsIn body_laws_eqTeamS).getD 0 .skip
theorem ls_laws_eqTeamS : loopsIn body_laws_eqTeamS = [c_laws_eqTeamS_0] := by kernel_rfl
theorem rd_laws_eqTeamS_4 (N n : Nat) (x : Vals ks_laws_eqTeamS_l4) (K : Ks) : L_laws_eqTeamS N (n + 1) 4 (shape ks_laws_eqTeamS_l4 x) (h_laws_eqTeamS.onOut 4 K) = peRound h_laws_eqTeamS (Orc.of (es_laws_eqTeamS N)) (mixL (L_laws_eqTeamS N) N n 4) c_laws_eqTeamS_0 (shape ks_laws_eqTeamS_l4 x) (h_laws_eqTeamS.onOut 4 K) := by kernel_rfl
theorem fn_laws_eqTeamS (N : Nat) (x : AVals sg_laws_eqTeamS) (kf : Ret → Option Ret) : F_laws_eqTeamS N x kf = peFunc h_laws_eqTeamS (Orc.of (es_laws_eqTeamS N)) (L_laws_eqTeamS N N) Try.f43 (ashape sg_laws_eqTeamS x) kf := by kernel_rfl
theorem sd_laws_eqTeamS (N : Nat) : Sound Try.prog 43 (run_laws_eqTeamS N) := fun_ok2 (hh := h_laws_eqTeamS) mixed tab_ok (es := es_laws_eqTeamS N) ⟨sd_laws_eqTeam N, trivial⟩ (fn := Try.f43) (body := body_laws_eqTeamS) (by kernel_rfl) (by kernel_rfl) (by kernel_rfl) (by kernel_rfl) (by kernel_rfl) (Lf := L_laws_eqTeamS N) (L0_laws_eqTeamS N) ls_laws_eqTeamS (round_cons (key := 4) (ks := ks_laws_eqTeamS_l4) (by kernel_rfl) (by kernel_rfl) (rd_laws_eqTeamS_4 N) trivial) (N := N) (by kernel_rfl) (fn_laws_eqTeamS N)
/-! laws_eqJudge -/
noncomputable def h_laws_eqJudge : Hint := { tab, hn := [], loops := [], outs := [], ords := [] }
noncomputable def sg_laws_eqJudge : List AK := [.v tQIILIE .k, .v tQIILIE .k]
noncomputable def F_laws_eqJudge (N : Nat) (x : AVals sg_laws_eqJudge) (kf : Ret → Option Ret) : Option Ret := laws_eqJudge N x.1 x.2.1 (fun r0 => kf ⟨[⟨.bool, .k, r0⟩], []⟩)
noncomputable def run_laws_eqJudge (N : Nat) := runOf sg_laws_eqJudge (F_laws_eqJudge N)
noncomputable def es_laws_eqJudge (N : Nat) : List Entry := [⟨11, [.val, .val], (run_laws_eqIntS N)⟩]
noncomputable def body_laws_eqJudge : Code := match Try.f80.body with | some c => c | none => .skip
noncomputable def L_laws_eqJudge (N n : Nat) (key : Nat) (S : St) (K : Ks) : Option Ret := none
theorem L0_laws_eqJudge (N key : Nat) (S : St) (K : Ks) : L_laws_eqJudge N 0 key S K = none := rfl
theorem ls_laws_eqJudge : loopsIn body_laws_eqJudge = [] := by kernel_rfl
theorem fn_laws_eqJudge (N : Nat) (x : AVals sg_laws_eqJudge) (kf : Ret → Option Ret) : F_laws_eqJudge N x kf = peFunc h_laws_eqJudge (Orc.of (es_laws_eqJudge N)) (L_laws_eqJudge N N) Try.f80 (ashape sg_laws_eqJudge x) kf := by kernel_rfl
theorem sd_laws_eqJudge (N : Nat) : Sound Try.prog 80 (run_laws_eqJudge N) := fun_ok2 (hh := h_laws_eqJudge) mixed tab_ok (es := es_laws_eqJudge N) ⟨sd_laws_eqIntS N, trivial⟩ (fn := Try.f80) (body := body_laws_eqJudge) (by kernel_rfl) (by kernel_rfl) (by kernel_rfl) (by kernel_rfl) (by kernel_rfl) (Lf := L_laws_eqJudge N) (L0_laws_eqJudge N) ls_laws_eqJudge trivial (N := N) (by kernel_rfl) (fn_laws_eqJudge N)
/-! laws_eqJudgeS -/
noncomputable def ks_laws_eqJudgeS_l4 : List Kd := [.v (.sl tQIILIE) .k, .v (.sl tQIILIE) .k, dK, dK, dK, .v (.int .i64) .k, dK, dK, dK, dK, dK, dK, dK, dK, dK, dK, dK, dK, dK, dK, dK, dK, dK, dK, dK, dK, dK]
noncomputable def ko_laws_eqJudgeS_l4_0 : List Kd := [dK, dK, dK, dK, dK, dK, dK, dK, dK, dK, dK, dK, dK, dK, dK, dK, dK, dK, dK, dK, dK, dK, dK, dK, dK, dK, dK]
noncomputable def ko_laws_eqJudgeS_l4_1 : List Kd := [dK, dK, dK, dK, .v .bool .k, dK, dK, dK, dK, dK, dK, dK, dK, dK, dK, dK, dK, dK, dK, dK, dK, dK, dK, dK, dK, dK, dK]
noncomputable def h_laws_eqJudgeS : Hint := { tab, hn := [], loops := [(4, ks_laws_eqJudgeS_l4)], outs := [(4, 2, ko_laws_eqJudgeS_l4_0), (4, 1, ko_laws_eqJudgeS_l4_1)], ords := [(6, (OT.seq [0, 1, 2, 3, 4, 5, 6, 7, 8, 9] .done))] }
noncomputable def sg_laws_eqJudgeS : List AK := [.v (.sl tQIILIE) .k, .v (.sl tQIILIE) .k]
noncomputable def F_laws_eqJudgeS (N : Nat) (x : AVals sg_laws_eqJudgeS) (kf : Ret → Option Ret) : Option Ret := laws_eqJudgeS N x.1 x.2.1 (fun r0 => kf ⟨[⟨.bool, .k, r0⟩], []⟩)
noncomputable def run_laws_eqJudgeS (N : Nat) := runOf sg_laws_eqJudgeS (F_laws_eqJudgeS N)
noncomputable def es_laws_eqJudgeS (N : Nat) : List Entry := [⟨80, [.val, .val], (run_laws_eqJudge N)⟩]
noncomputable def body_laws_eqJudgeS : Code := match Try.f44.body with | some c => c | none => .skip
noncomputable def L_laws_eqJudgeS (N n : Nat) (key : Nat) (S : St) (K : Ks) : Option Ret := bif Nat.beq key 4 then withVals ks_laws_eqJudgeS_l4 S (fun x => laws_eqJudgeS_l4 N x.1 x.2.1 n (K (.x 0) (shape ko_laws_eqJudgeS_l4_0 ())) (fun z0 => K .r (shape ko_laws_eqJudgeS_l4_1 (z0, ()))) x.2.2.1) else none
theorem L0_laws_eqJudgeS (N key : Nat) (S : St) (K : Ks) : L_laws_eqJudgeS N 0 key S K = none := (bif0 (withVals0 fun _ => rfl) rfl)
noncomputable def c_laws_eqJudgeS_0 : Code := (loopsIn body_laws_eqJudgeS).getD 0 .skip
theorem ls_laws_eqJudgeS : loopsIn body_laws_eqJudgeS = [c_laws_eqJudgeS_0] := by kernel_rfl
theorem rd_laws_eqJudgeS_4 (N n : Nat) (x : Vals ks_laws_eqJudgeS_l4) (K : Ks) : L_laws_eqJudgeS N (n + 1) 4 (shape ks_laws_eqJudgeS_l4 x) (h_laws_eqJudgeS.onOut 4 K) = peRound h_laws_eqJudgeS (Orc.of (es_laws_eqJudgeS N)) (mixL (L_laws_eqJudgeS N) N n 4) c_laws_eqJudgeS_0 (shape ks_laws_eqJudgeS_l4 x) (h_laws_eqJudgeS.onOut 4 K) := by kernel_rfl
theorem fn_laws_eqJudgeS (N : Nat) (x : AVals sg_laws_eqJudgeS) (kf : Ret → Option Ret) : F_laws_eqJudgeS N x kf = peFunc h_laws_eqJudgeS (Orc.of (es_laws_eqJudgeS N)) (L_laws_eqJudgeS N N) Try.f44 (ashape sg_laws_eqJudgeS x) kf := by kernel_rfl
theorem sd_laws_eqJudgeS (N : Nat) : Sound Try.prog 44 (run_laws_eqJudgeS N) := fun_ok2 (hh := h_laws_eqJudgeS) mixed tab_ok (es := es_laws_eqJudgeS N) ⟨sd_laws_eqJudge N, trivial⟩ (fn := Try.f44) (body := body_laws_eqJudgeS) (by kernel_rfl) (by kernel_rfl) (by kernel_rfl) (by kernel_rfl) (by kernel_rfl) (Lf := L_laws_eqJudgeS N) (L0_laws_eqJudgeS N) ls_laws_eqJudgeS (round_cons (key := 4) (ks := ks_laws_eqJudgeS_l4) (by kernel_rfl) (by kernel_rfl) (rd_laws_eqJudgeS_4 N) trivial) (N := N) (by kernel_rfl) (fn_laws_eqJudgeS N)
/-! laws_eqPair -/
noncomputable def h_laws_eqPair : Hint := { tab, hn := [], loops := [], outs := [], ords := [] }
noncomputable def sg_laws_eqPair : List AK := [.v tQIIE .k, .v tQIIE .k]
noncomputable def F_laws_eqPair (N : Nat) (x : AVals sg_laws_eqPair) (kf : Ret → Option Ret) : Option Ret := laws_eqPair N x.1 x.2.1 (fun r0 => kf ⟨[⟨.bool, .k, r0⟩], []⟩)
noncomputable def run_laws_eqPair (N : Nat) := runOf sg_laws_eqPair (F_laws_eqPair N)
noncomputable def es_laws_eqPair (N : Nat) : List Entry := []
noncomputable def body_laws_eqPair : Code := match Try.f81.body with | some c => c | none => .skip
noncomputable def L_laws_eqPair (N n : Nat) (key : Nat) (S : St) (K : Ks) : Option Ret := none
theorem L0_laws_eqPair (N key : Nat) (S : St) (K : Ks) : L_laws_eqPair N 0 key S K = none := rfl
theorem ls_laws_eqPair : loopsIn body_laws_eqPair = [] := by kernel_rfl
theorem fn_laws_eqPair (N : Nat) (x : AVals sg_laws_eqPair) (kf : Ret → Option Ret) : F_laws_eqPair N x kf = peFunc h_laws_eqPair (Orc.of (es_laws_eqPair N)) (L_laws_eqPair N N) Try.f81 (ashape sg_laws_eqPair x) kf := by kernel_rfl
theorem sd_laws_eqPair (N : Nat) : Sound Try.prog 81 (run_laws_eqPair N) := fun_ok2 (hh := h_laws_eqPair) mixed tab_ok (es := es_laws_eqPair N) trivial (fn := Try.f81) (body := body_laws_eqPair) (by kernel_rfl) (by kernel_rfl) (by kernel_rfl) (by kernel_rfl) (by kernel_rfl) (Lf := L_laws_eqPair N) (L0_laws_eqPair N) ls_laws_eqPair trivial (N := N) (by kernel_rfl) (fn_laws_eqPair N)
/-! laws_eqPairS -/
noncomputable def ks_laws_eqPairS_l4 : List Kd := [.v (.sl tQIIE) .k, .v (.sl tQIIE) .k, dK, dK, dK, .v (.int .i64) .k, dK, dK, dK, dK, dK, dK, dK, dK, dK, dK, dK, dK, dK, dK, dK, dK, dK, dK, dK, dK, dK]
noncomputable def ko_laws_eqPairS_l4_0 : List Kd := [dK, dK, dK, dK, dK, dK, dK, dK, dK, dK, dK, dK, dK, dK, dK, dK, dK, dK, dK, dK, dK, dK, dK, dK, dK, dK, dK]
noncomputable def ko_laws_eqPairS_l4_1 : List Kd := [dK, dK, dK, dK, .v .bool .k, dK, dK, dK, dK, dK, dK, dK, dK, dK, dK, dK, dK, dK, dK, dK, dK, dK, dK, dK, dK, dK, dK]
noncomputable def h_laws_eqPairS : Hint := { tab, hn := [], loops := [(4, ks_laws_eqPairS_l4)], outs := [(4, 2, ko_laws_eqPairS_l4_0), (4, 1, ko_laws_eqPairS_l4_1)], ords := [(6, (OT.seq [0, 1, 2, 3, 4, 5, 6, 7, 8, 9] .done))] }
noncomputable def sg_laws_eqPairS : List AK := [.v (.sl tQIIE) .k, .v (.sl tQIIE) .k]
noncomputable def F_laws_eqPairS (N : Nat) (x : AVals sg_laws_eqPairS) (kf : Ret → Option Ret) : Option Ret := laws_eqPairS N x.1 x.2.1 (fun r0 => kf ⟨[⟨.bool, .k, r0⟩], []⟩)
noncomputable def run_laws_eqPairS (N : Nat) := runOf sg_laws_eqPairS (F_laws_eqPairS N)
noncomputable def es_laws_eqPairS (N : Nat) : List Entry := [⟨81, [.val, .val], (run_laws_eqPair N)⟩]
noncomputable def body_laws_eqPairS : Code := match Try.f45.body with | some c => c | none => .skip
noncomputable def L_laws_eqPairS (N n : Nat) (key : Nat) (S : St) (K : Ks) : Option Ret := bif Nat.beq key 4 then withVals ks_laws_eqPairS_l4 S (fun x => laws_eqPairS_l4 N x.1 x.2.1 n (K (.x 0) (shape ko_laws_eqPairS_l4_0 ())) (fun z0 => K .r (shape ko_laws_eqPairS_l4_1 (z0, ()))) x.2.2.1) else none
theorem L0_laws_eqPairS (N key : Nat) (S : St) (K : Ks) : L_laws_eqPairS N 0 key S K = none := (bif0 (withVals0 fun _ => rfl) rfl)
noncomputable def c_laws_eqPairS_0 : Code := (loopsIn body_laws_eqPairS).getD 0 .skip
theorem ls_laws_eqPairS : loopsIn body_laws_eqPairS = [c_laws_eqPairS_0] := by kernel_rfl
theorem rd_laws_eqPairS_4 (N n : Nat) (x : Vals ks_laws_eqPairS_l4) (K : Ks) : L_laws_eqPairS N (n + 1) 4 (shape ks_laws_eqPairS_l4 x) (h_laws_eqPairS.onOut 4 K) = peRound h_laws_eqPairS (Orc.of (es_laws_eqPairS N)) (mixL (L_laws_eqPairS N) N n 4) c_laws_eqPairS_0 (shape ks_laws_eqPairS_l4 x) (h_laws_eqPairS.onOut 4 K) := by kernel_rfl
theorem fn_laws_eqPairS (N : Nat) (x : AVals sg_laws_eqPairS) (kf : Ret → Option Ret) : F_laws_eqPairS N x kf = peFunc h_laws_eqPairS (Orc.of (es_laws_eqPairS N)) (L_laws_eqPairS N N) Try.f45 (ashape sg_laws_eqPairS x) kf := by kernel_rfl
theorem sd_laws_eqPairS (N : Nat) : Sound Try.prog 45 (run_laws_eqPairS N) := fun_ok2 (hh := h_laws_eqPairS) mixed tab_ok (es := es_laws_eqPairS N) ⟨sd_laws_eqPair N, trivial⟩ (fn := Try.f45) (body := body_laws_eqPairS) (by kernel_rfl) (by kernel_rfl) (by kernel_rfl) (by kernel_rfl) (by kernel_rfl) (Lf := L_laws_eqPairS N) (L0_laws_eqPairS N) ls_laws_eqPairS (round_cons (key := 4) (ks := ks_laws_eqPairS_l4) (by kernel_rfl) (by kernel_rfl) (rd_laws_eqPairS_4 N) trivial) (N := N) (by kernel_rfl) (fn_laws_eqPairS N)
/-! laws_eqBallot -/
noncomputable def h_laws_eqBallot : Hint := { tab, hn := [], loops := [], outs := [], ords := [] }
noncomputable def sg_laws_eqBallot : List AK := [.v tQIIIE .k, .v tQIIIE .k]
noncomputable def F_laws_eqBallot (N : Nat) (x : AVals sg_laws_eqBallot) (kf : Ret → Option Ret) : Option Ret := laws_eqBallot N x.1 x.2.1 (fun r0 => kf ⟨[⟨.bool, .k, r0⟩], []⟩)
noncomputable def run_laws_eqBallot (N : Nat) := runOf sg_laws_eqBallot (F_laws_eqBallot N)
noncomputable def es_laws_eqBallot (N : Nat) : List Entry := []
noncomputable def body_laws_eqBallot : Code := match Try.f82.body with | some c => c | none => .skip
noncomputable def L_laws_eqBallot (N n : Nat) (key : Nat) (S : St) (K : Ks) : Option Ret := none
theorem L0_laws_eqBallot (N key : Nat) (S : St) (K : Ks) : L_laws_eqBallot N 0 key S K = none := rfl
theorem ls_laws_eqBallot : loopsIn body_laws_eqBallot = [] := by kernel_rfl
theorem fn_laws_eqBallot (N : Nat) (x : AVals sg_laws_eqBallot) (kf : Ret → Option Ret) : F_laws_eqBallot N x kf = peFunc h_laws_eqBallot (Orc.of (es_laws_eqBallot N)) (L_laws_eqBallot N N) Try.f82 (ashape sg_laws_eqBallot x) kf := by kernel_rfl
theorem sd_laws_eqBallot (N : Nat) : Sound Try.prog 82 (run_laws_eqBallot N) := fun_ok2 (hh := h_laws_eqBallot) mixed tab_ok (es := es_laws_eqBallot N) trivial (fn := Try.f82) (body := body_laws_eqBallot) (by kernel_rfl) (by kernel_rfl) (by kernel_rfl) (by kernel_rfl) (by kernel_rfl) (Lf := L_laws_eqBallot N) (L0_laws_eqBallot N) ls_laws_eqBallot trivial (N := N) (by kernel_rfl) (fn_laws_eqBallot N)
/-! laws_eqBallotS -/
noncomputable def ks_laws_eqBallotS_l4 : List Kd := [.v (.sl tQIIIE) .k, .v (.sl tQIIIE) .k, dK, dK, dK, .v (.int .i64) .k, dK, dK, dK, dK, dK, dK, dK, dK, dK, dK, dK, dK, dK, dK, dK, dK, dK, dK, dK, dK, dK]
noncomputable def ko_laws_eqBallotS_l4_0 : List Kd := [dK, dK, dK, dK, dK, dK, dK, dK, dK, dK, dK, dK, dK, dK, dK, dK, dK, dK, dK, dK, dK, dK, dK, dK, dK, dK, dK]
noncomputable def ko_laws_eqBallotS_l4_1 : List Kd := [dK, dK, dK, dK, .v .bool .k, dK, dK, dK, dK, dK, dK, dK, dK, dK, dK, dK, dK, dK, dK, dK, dK, dK, dK, dK, dK, dK, dK]
noncomputable def h_laws_eqBallotS : Hint := { tab, hn := [], loops := [(4, ks_laws_eqBallotS_l4)], outs := [(4, 2, ko_laws_eqBallotS_l4_0), (4, 1, ko_laws_eqBallotS_l4_1)], ords := [(6, (OT.seq [0, 1, 2, 3, 4, 5, 6, 7, 8, 9] .done))] }
noncomputable def sg_laws_eqBallotS : List AK := [.v (.sl tQIIIE) .k, .v (.sl tQIIIE) .k]
noncomputable def F_laws_eqBallotS (N : Nat) (x : AVals sg_laws_eqBallotS) (kf : Ret → Option Ret) : Option Ret := laws_eqBallotS N x.1 x.2.1 (fun r0 => kf ⟨[⟨.bool, .k, r0⟩], []⟩)
noncomputable def run_laws_eqBallotS (N : Nat) := runOf sg_laws_eqBallotS (F_laws_eqBallotS N)
noncomputable def es_laws_eqBallotS (N : Nat) : List Entry := [⟨82, [.val, .val], (run_laws_eqBallot N)⟩]
noncomputable def body_laws_eqBallotS : Code := match Try.f46.body with | some c => c | none => .skip
noncomputable def L_laws_eqBallotS (N n : Nat) (key : Nat) (S : St) (K : Ks) : Option Ret := bif Nat.beq key 4 then withVals ks_laws_eqBallotS_l4 S (fun x => laws_eqBallotS_l4 N x.1 x.2.1 n (K (.x 0) (shape ko_laws_eqBallotS_l4_0 ())) (fun z0 => K .r (shape ko_laws_eqBallotS_l4_1 (z0, ()))) x.2.2.1) else none
theorem L0_laws_eqBallotS (N key : Nat) (S : St) (K : Ks) : L_laws_eqBallotS N 0 key S K = none := (bif0 (withVals0 fun _ => rfl) rfl)
noncomputable def c_laws_eqBallotS_0 : Code := (loopsIn body_laws_eqBallotS).getD 0 .skip
theorem ls_laws_eqBallotS : loopsIn body_laws_eqBallotS = [c_laws_eqBallotS_0] := by kernel_rfl
theorem rd_laws_eqBallotS_4 (N n : Nat) (x : Vals ks_laws_eqBallotS_l4) (K : Ks) : L_laws_eqBallotS N (n + 1) 4 (shape ks_laws_eqBallotS_l4 x) (h_laws_eqBallotS.onOut 4 K) = peRound h_laws_eqBallotS (Orc.of (es_laws_eqBallotS N)) (mixL (L_laws_eqBallotS N) N n 4) c_laws_eqBallotS_0 (shape ks_laws_eqBallotS_l4 x) (h_laws_eqBallotS.onOut 4 K) := by kernel_rfl
theorem fn_laws_eqBallotS (N : Nat) (x : AVals sg_laws_eqBallotS) (kf : Ret → Option Ret) : F_laws_eqBallotS N x kf = peFunc h_laws_eqBallotS (Orc.of (es_laws_eqBallotS N)) (L_laws_eqBallotS N N) Try.f46 (ashape sg_laws_eqBallotS x) kf := by kernel_rfl
theorem sd_laws_eqBallotS (N : Nat) : Sound Try.prog 46 (run_laws_eqBallotS N) := fun_ok2 (hh := h_laws_eqBallotS) mixed tab_ok (es := es_laws_eqBallotS N) ⟨sd_laws_eqBallot N, trivial⟩ (fn := Try.f46) (body := body_laws_eqBallotS) (by kernel_rfl) (by kernel_rfl) (by kernel_rfl) (by kernel_rfl) (by kernel_rfl) (Lf := L_laws_eqBallotS N) (L0_laws_eqBallotS N) ls_laws_eqBallotS (round_cons (key := 4) (ks := ks_laws_eqBallotS_l4) (by kernel_rfl) (by kernel_rfl) (rd_laws_eqBallotS_4 N) trivial) (N := N) (by kernel_rfl) (fn_laws_eqBallotS N)
/-! laws_eqLine -/
noncomputable def h_laws_eqLine : Hint := { tab, hn := [], loops := [], outs := [], ords := [] }
noncomputable def sg_laws_eqLine : List AK := [.v tQIIIIE .k, .v tQIIIIE .k]
noncomputable def F_laws_eqLine (N : Nat) (x : AVals sg_laws_eqLine) (kf : Ret → Option Ret) : Option Ret := laws_eqLine N x.1 x.2.1 (fun r0 => kf ⟨[⟨.bool, .k, r0⟩], []⟩)
noncomputable def run_laws_eqLine (N : Nat) := runOf sg_laws_eqLine (F_laws_eqLine N)
noncomputable def es_laws_eqLine (N : Nat) : List Entry := []
noncomputable def body_laws_eqLine : Code := match Try.f83.body with | some c => c | none => .skip
noncomputable def L_laws_eqLine (N n : Nat) (key : Nat) (S : St) (K : Ks) : Option Ret := none
theorem L0_laws_eqLine (N key : Nat) (S : St) (K : Ks) : L_laws_eqLine N 0 key S K = none := rfl
theorem ls_laws_eqLine : loopsIn body_laws_eqLine = [] := by kernel_rfl
theorem fn_laws_eqLine (N : Nat) (x : AVals sg_laws_eqLine) (kf : Ret → Option Ret) : F_laws_eqLine N x kf = peFunc h_laws_eqLine (Orc.of (es_laws_eqLine N)) (L_laws_eqLine N N) Try.f83 (ashape sg_laws_eqLine x) kf := by kernel_rfl
theorem sd_laws_eqLine (N : Nat) : Sound Try.prog 83 (run_laws_eqLine N) := fun_ok2 (hh := h_laws_eqLine) mixed tab_ok (es := es_laws_eqLine N) trivial (fn := Try.f83) (body := body_laws_eqLine) (by kernel_rfl) (by kernel_rfl) (by kernel_rfl) (by kernel_rfl) (by kernel_rfl) (Lf := L_laws_eqLine N) (L0_laws_eqLine N) ls_laws_eqLine trivial (N := N) (by kernel_rfl) (fn_laws_eqLine N)
/-! laws_eqLineS -/
noncomputable def ks_laws_eqLineS_l4 : List Kd := [.v (.sl tQIIIIE) .k, .v (.sl tQIIIIE) .k, dK, dK, dK, .v (.int .i64) .k, dK, dK, dK, dK, dK, dK, dK, dK, dK, dK, dK, dK, dK, dK, dK, dK, dK, dK, dK, dK, dK]
noncomputable def ko_laws_eqLineS_l4_0 : List Kd := [dK, dK, dK, dK, dK, dK, dK, dK, dK, dK, dK, dK, dK, dK, dK, dK, dK, dK, dK, dK, dK, dK, dK, dK, dK, dK, dK]
noncomputable def ko_laws_eqLineS_l4_1 : List Kd := [dK, dK, dK, dK, .v .bool .k, dK, dK, dK, dK, dK, dK, dK, dK, dK, dK, dK, dK, dK, dK, dK, dK, dK, dK, dK, dK, dK, dK]
noncomputable def h_laws_eqLineS : Hint := { tab, hn := [], loops := [(4, ks_laws_eqLineS_l4)], outs := [(4, 2, ko_laws_eqLineS_l4_0), (4, 1, ko_laws_eqLineS_l4_1)], ords := [(6, (OT.seq [0, 1, 2, 3, 4, 5, 6, 7, 8, 9] .done))] }
noncomputable def sg_laws_eqLineS : List AK := [.v (.sl tQIIIIE) .k, .v (.sl tQIIIIE) .k]
noncomputable def F_laws_eqLineS (N : Nat) (x : AVals sg_laws_eqLineS) (kf : Ret → Option Ret) : Option Ret := laws_eqLineS N x.1 x.2.1 (fun r0 => kf ⟨[⟨.bool, .k, r0⟩], []⟩)
noncomputable def run_laws_eqLineS (N : Nat) := runOf sg_laws_eqLineS (F_laws_eqLineS N)
noncomputable def es_laws_eqLineS (N : Nat) : List Entry := [⟨83, [.val, .val], (run_laws_eqLine N)⟩]
noncomputable def body_laws_eqLineS : Code := match Try.f47.body with | some c => c | none => .skip
noncomputable def L_laws_eqLineS (N n : Nat) (key : Nat) (S : St) (K : Ks) : Option Ret := bif Nat.beq key 4 then withVals ks_laws_eqLineS_l4 S (fun x => laws_eqLineS_l4 N x.1 x.2.1 n (K (.x 0) (shape ko_laws_eqLineS_l4_0 ())) (fun z0 => K .r (shape ko_laws_eqLineS_l4_1 (z0, ()))) x.2.2.1) else none
theorem L0_laws_eqLineS (N key : Nat) (S : St) (K : Ks) : L_laws_eqLineS N 0 key S K = none := (bif0 (withVals0 fun _ => rfl) rfl)
noncomputable def c_laws_eqLineS_0 : Code := (loopsIn body_laws_eqLineS).getD 0 .skip
theorem ls_laws_eqLineS : loopsIn body_laws_eqLineS = [c_laws_eqLineS_0] := by kernel_rfl
theorem rd_laws_eqLineS_4 (N n : Nat) (x : Vals ks_laws_eqLineS_l4) (K : Ks) : L_laws_eqLineS N (n + 1) 4 (shape ks_laws_eqLineS_l4 x) (h_laws_eqLineS.onOut 4 K) = peRound h_laws_eqLineS (Orc.of (es_laws_eqLineS N)) (mixL (L_laws_eqLineS N) N n 4) c_laws_eqLineS_0 (shape ks_laws_eqLineS_l4 x) (h_laws_eqLineS.onOut 4 K) := by kernel_rfl
theorem fn_laws_eqLineS (N : Nat) (x : AVals sg_laws_eqLineS) (kf : Ret → Option Ret) : F_laws_eqLineS N x kf = peFunc h_laws_eqLineS (Orc.of (es_laws_eqLineS N)) (L_laws_eqLineS N N) Try.f47 (ashape sg_laws_eqLineS x) kf := by kernel_rfl
theorem sd_laws_eqLineS (N : Nat) : Sound Try.prog 47 (run_laws_eqLineS N) := fun_ok2 (hh := h_laws_eqLineS) mixed tab_ok (es := es_laws_eqLineS N) ⟨sd_laws_eqLine N, trivial⟩ (fn := Try.f47) (body := body_laws_eqLineS) (by kernel_rfl) (by kernel_rfl) (by kernel_rfl) (by kernel_rfl) (by kernel_rfl) (Lf := L_laws_eqLineS N) (L0_laws_eqLineS N) ls_laws_eqLineS (round_cons (key := 4) (ks := ks_laws_eqLineS_l4) (by kernel_rfl) (by kernel_rfl) (rd_laws_eqLineS_4 N) trivial) (N := N) (by kernel_rfl) (fn_laws_eqLineS N)
/-! laws_eqClub -/
noncomputable def h_laws_eqClub : Hint := { tab, hn := [], loops := [], outs := [], ords := [] }
noncomputable def sg_laws_eqClub : List AK := [.v tQLQIIIIILIELQIILIELQIIELILQIIIELQIIIIEIE .k, .v tQLQIIIIILIELQIILIELQIIELILQIIIELQIIIIEIE .k]
noncomputable def F_laws_eqClub (N : Nat) (x : AVals sg_laws_eqClub) (kf : Ret → Option Ret) : Option Ret := laws_eqClub N x.1 x.2.1 (fun r0 => kf ⟨[⟨.bool, .k, r0⟩], []⟩)
noncomputable def run_laws_eqClub (N : Nat) := runOf sg_laws_eqClub (F_laws_eqClub N)
noncomputable def es_laws_eqClub (N : Nat) : List Entry := [⟨43, [.val, .val], (run_laws_eqTeamS N)⟩, ⟨44, [.val, .val], (run_laws_eqJudgeS N)⟩, ⟨45, [.val, .val], (run_laws_eqPairS N)⟩, ⟨11, [.val, .val], (run_laws_eqIntS N)⟩, ⟨46, [.val, .val], (run_laws_eqBallotS N)⟩, ⟨47, [.val, .val], (run_laws_eqLineS N)⟩]
noncomputable def body_laws_eqClub : Code := match Try.f18.body with | some c => c | none => .skip
noncomputable def L_laws_eqClub (N n : Nat) (key : Nat) (S : St) (K : Ks) : Option Ret := none
theorem L0_laws_eqClub (N key : Nat) (S : St) (K : Ks) : L_laws_eqClub N 0 key S K = none := rfl
theorem ls_laws_eqClub : loopsIn body_laws_eqClub = [] := by kernel_rfl
theorem fn_laws_eqClub (N : Nat) (x : AVals sg_laws_eqClub) (kf : Ret → Option Ret) : F_laws_eqClub N x kf = peFunc h_laws_eqClub (Orc.of (es_laws_eqClub N)) (L_laws_eqClub N N) Try.f18 (ashape sg_laws_eqClub x) kf := by kernel_rfl
theorem sd_laws_eqClub (N : Nat) : Sound Try.prog 18 (run_laws_eqClub N) := fun_ok2 (hh := h_laws_eqClub) mixed tab_ok (es := es_laws_eqClub N) ⟨sd_laws_eqTeamS N, ⟨sd_laws_eqJudgeS N, ⟨sd_laws_eqPairS N, ⟨sd_laws_eqIntS N, ⟨sd_laws_eqBallotS N, ⟨sd_laws_eqLineS N, trivial⟩⟩⟩⟩⟩⟩ (fn := Try.f18) (body := body_laws_eqClub) (by kernel_rfl) (by kernel_rfl) (by kernel_rfl) (by kernel_rfl) (by kernel_rfl) (Lf := L_laws_eqClub N) (L0_laws_eqClub N) ls_laws_eqClub trivial (N := N) (by kernel_rfl) (fn_laws_eqClub N)
/-! impl_times -/
noncomputable def ks_impl_times_l3 : List Kd := [dK, .v (.int .i64) .k, dK, dK, dK, .v (.int .i64) .k, dK, dK, .v (.sl (.int .i64)) .k, .v (.int .i64) .k, .v (.int .i64) .k, dK, dK, dK, dK, dK, dK, dK, dK, dK, dK]
noncomputable def ko_impl_times_l3_0 : List Kd := [dK, dK, dK, dK, dK, .v (.int .i64) .k, dK, dK, dK, dK, dK, dK, dK, dK, dK, dK, dK, dK, dK, dK, dK]
noncomputable def h_impl_times : Hint := { tab, hn := [], loops := [(3, ks_impl_times_l3)], outs := [(3, 2, ko_impl_times_l3_0)], ords := [] }
noncomputable def sg_impl_times : List AK := [.v (.sl (.int .i64)) .k, .v (.int .i64) .k]
noncomputable def F_impl_times (N : Nat) (x : AVals sg_impl_times) (kf : Ret → Option Ret) : Option Ret := impl_times N x.1 x.2.1 (fun r0 => kf ⟨[⟨(.int .i64), .k, r0⟩], []⟩)
noncomputable def run_impl_times (N : Nat) := runOf sg_impl_times (F_impl_times N)
noncomputable def es_impl_times (N : Nat) : List Entry := []
noncomputable def body_impl_times : Code := match Try.f49.body with | some c => c | none => .skip
noncomputable def L_impl_times (N n : Nat) (key : Nat) (S : St) (K : Ks) : Option Ret := bif Nat.beq key 3 then withVals ks_impl_times_l3 S (fun x => impl_times_l3 x.1 x.2.2.1 x.2.2.2.1 n (fun z0 => K (.x 0) (shape ko_impl_times_l3_0 (z0, ()))) x.2.1 x.2.2.2.2.1) else none
theorem L0_impl_times (N key : Nat) (S : St) (K : Ks) : L_impl_times N 0 key S K = none := (bif0 (withVals0 fun _ => rfl) rfl)
noncomputable def c_impl_times_0 : Code := (loopsIn body_impl_times).getD 0 .skip
theorem ls_impl_times : loopsIn body_impl_times = [c_impl_times_0] := by kernel_rfl
theorem rd_impl_times_3 (N n : Nat) (x : Vals ks_impl_times_l3) (K : Ks) : L_impl_times N (n + 1) 3 (shape ks_impl_times_l3 x) (h_impl_times.onOut 3 K) = peRound h_impl_times (Orc.of (es_impl_times N)) (mixL (L_impl_times N) N n 3) c_impl_times_0 (shape ks_impl_times_l3 x) (h_impl_times.onOut 3 K) := by kernel_rfl
theorem fn_impl_times (N : Nat) (x : AVals sg_impl_times) (kf : Ret → Option Ret) : F_impl_times N x kf = peFunc h_impl_times (Orc.of (es_impl_times N)) (L_impl_times N N) Try.f49 (ashape sg_impl_times x) kf := by kernel_rfl
theorem sd_impl_times (N : Nat) : Sound Try.prog 49 (run_impl_times N) := fun_ok2 (hh := h_impl_times) mixed tab_ok (es := es_impl_times N) trivial (fn := Try.f49) (body := body_impl_times) (by kernel_rfl) (by kernel_rfl) (by kernel_rfl) (by kernel_rfl) (by kernel_rfl) (Lf := L_impl_times N) (L0_impl_times N) ls_impl_times (round_cons (key := 3) (ks := ks_impl_times_l3) (by kernel_rfl) (by kernel_rfl) (rd_impl_times_3 N) trivial) (N := N) (by kernel_rfl) (fn_impl_times N)
/-! spec_FindTeam -/
noncomputable def ks_spec_FindTeam_l2 : List Kd := [.v (.sl tQIIIIILIE) .k, .v (.int .i64) .k, dK, dK, dK, .v (.int .i64) .k, dK, dK, dK, dK, dK, dK, dK, dK, dK, dK, dK, dK, dK, dK]
noncomputable def ko_spec_FindTeam_l2_0 : List Kd := [dK, dK, dK, dK, dK, dK, dK, dK, dK, dK, dK, dK, dK, dK, dK, dK, dK, dK, dK, dK]
noncomputable def ko_spec_FindTeam_l2_1 : List Kd := [dK, dK, dK, dK, .v (.int .i64) .k, dK, dK, dK, dK, dK, dK, dK, dK, dK, dK, dK, dK, dK, dK, dK]
noncomputable def h_spec_FindTeam : Hint := { tab, hn := [], loops := [(2, ks_spec_FindTeam_l2)], outs := [(2, 2, ko_spec_FindTeam_l2_0), (2, 1, ko_spec_FindTeam_l2_1)], ords := [] }
noncomputable def sg_spec_FindTeam : List AK := [.v (.sl tQIIIIILIE) .k, .v (.int .i64) .k]
noncomputable def F_spec_FindTeam (N : Nat) (x : AVals sg_spec_FindTeam) (kf : Ret → Option Ret) : Option Ret := spec_FindTeam N x.1 x.2.1 (fun r0 => kf ⟨[⟨(.int .i64), .k, r0⟩], []⟩)
noncomputable def run_spec_FindTeam (N : Nat) := runOf sg_spec_FindTeam (F_spec_FindTeam N)
noncomputable def es_spec_FindTeam (N : Nat) : List Entry := []
noncomputable def body_spec_FindTeam : Code := match Try.f84.body with | some c => c | none => .skip
noncomputable def L_spec_FindTeam (N n : Nat) (key : Nat) (S : St) (K : Ks) : Option Ret := bif Nat.beq key 2 then withVals ks_spec_FindTeam_l2 S (fun x => spec_FindTeam_l2 x.1 x.2.1 n (K (.x 0) (shape ko_spec_FindTeam_l2_0 ())) (fun z0 => K .r (shape ko_spec_FindTeam_l2_1 (z0, ()))) x.2.2.1) else none
theorem L0_spec_FindTeam (N key : Nat) (S : St) (K : Ks) : L_spec_FindTeam N 0 key S K = none := (bif0 (withVals0 fun _ => rfl) rfl)
noncomputable def c_spec_FindTeam_0 : Code := (loopsIn body_spec_FindTeam).getD 0 .skip
theorem ls_spec_FindTeam : loopsIn body_spec_FindTeam = [c_spec_FindTeam_0] := by kernel_rfl
theorem rd_spec_FindTeam_2 (N n : Nat) (x : Vals ks_spec_FindTeam_l2) (K : Ks) : L_spec_FindTeam N (n + 1) 2 (shape ks_spec_FindTeam_l2 x) (h_spec_FindTeam.onOut 2 K) = peRound h_spec_FindTeam (Orc.of (es_spec_FindTeam N)) (mixL (L_spec_FindTeam N) N n 2) c_spec_FindTeam_0 (shape ks_spec_FindTeam_l2 x) (h_spec_FindTeam.onOut 2 K) := by kernel_rfl
theorem fn_spec_FindTeam (N : Nat) (x : AVals sg_spec_FindTeam) (kf : Ret → Option Ret) : F_spec_FindTeam N x kf = peFunc h_spec_FindTeam (Orc.of (es_spec_FindTeam N)) (L_spec_FindTeam N N) Try.f84 (ashape sg_spec_FindTeam x) kf := by kernel_rfl
theorem sd_spec_FindTeam (N : Nat) : Sound Try.prog 84 (run_spec_FindTeam N) := fun_ok2 (hh := h_spec_FindTeam) mixed tab_ok (es := es_spec_FindTeam N) trivial (fn := Try.f84) (body := body_spec_FindTeam) (by kernel_rfl) (by kernel_rfl) (by kernel_rfl) (by kernel_rfl) (by kernel_rfl) (Lf := L_spec_FindTeam N) (L0_spec_FindTeam N) ls_spec_FindTeam (round_cons (key := 2) (ks := ks_spec_FindTeam_l2) (by kernel_rfl) (by kernel_rfl) (rd_spec_FindTeam_2 N) trivial) (N := N) (by kernel_rfl) (fn_spec_FindTeam N)
/-! impl_FindTeam_1 -/
noncomputable def h_impl_FindTeam_1 : Hint := { tab, hn := [], loops := [], outs := [], ords := [] }
noncomputable def sg_impl_FindTeam_1 : List AK := [.v tQIIIIILIE .k, .v (.ptr (.int .i64)) .k]
noncomputable def F_impl_FindTeam_1 (N : Nat) (x : AVals sg_impl_FindTeam_1) (kf : Ret → Option Ret) : Option Ret := impl_FindTeam_1 N x.1 x.2.1 (fun r0 => kf ⟨[⟨.bool, .k, r0⟩], []⟩)
noncomputable def run_impl_FindTeam_1 (N : Nat) := runOf sg_impl_FindTeam_1 (F_impl_FindTeam_1 N)
noncomputable def es_impl_FindTeam_1 (N : Nat) : List Entry := []
noncomputable def body_impl_FindTeam_1 : Code := match Try.f96.body with | some c => c | none => .skip
noncomputable def L_impl_FindTeam_1 (N n : Nat) (key : Nat) (S : St) (K : Ks) : Option Ret := none
theorem L0_impl_FindTeam_1 (N key : Nat) (S : St) (K : Ks) : L_impl_FindTeam_1 N 0 key S K = none := rfl
theorem ls_impl_FindTeam_1 : loopsIn body_impl_FindTeam_1 = [] := by kernel_rfl
theorem fn_impl_FindTeam_1 (N : Nat) (x : AVals sg_impl_FindTeam_1) (kf : Ret → Option Ret) : F_impl_FindTeam_1 N x kf = peFunc h_impl_FindTeam_1 (Orc.of (es_impl_FindTeam_1 N)) (L_impl_FindTeam_1 N N) Try.f96 (ashape sg_impl_FindTeam_1 x) kf := by kernel_rfl
theorem sd_impl_FindTeam_1 (N : Nat) : Sound Try.prog 96 (run_impl_FindTeam_1 N) := fun_ok2 (hh := h_impl_FindTeam_1) mixed tab_ok (es := es_impl_FindTeam_1 N) trivial (fn := Try.f96) (body := body_impl_FindTeam_1) (by kernel_rfl) (by kernel_rfl) (by kernel_rfl) (by kernel_rfl) (by kernel_rfl) (Lf := L_impl_FindTeam_1 N) (L0_impl_FindTeam_1 N) ls_impl_FindTeam_1 trivial (N := N) (by kernel_rfl) (fn_impl_FindTeam_1 N)
/-! slices_IndexFunc_Team_impl_FindTeam_1 -/
noncomputable def ks_slices_IndexFunc_Team_impl_FindTeam_1_l2 : List Kd := [.v (.sl tQIIIIILIE) .k, .clo 96 [.kv (.ptr (.int .i64))], dK, dK, dK, dK, dK, .v (.int .i64) .k, .v (.int .i64) .k, dK, dK, dK, dK, dK, dK, dK, dK, dK, dK]
noncomputable def ko_slices_IndexFunc_Team_impl_FindTeam_1_l2_0 : List Kd := [dK, dK, dK, dK, dK, dK, dK, dK, dK, dK, dK, dK, dK, dK, dK, dK, dK, dK, dK]
noncomputable def ko_slices_IndexFunc_Team_impl_FindTeam_1_l2_1 : List Kd := [dK, dK, dK, dK, .v (.int .i64) .k, dK, dK, dK, dK, dK, dK, dK, dK, dK, dK, dK, dK, dK, dK]
noncomputable def h_slices_IndexFunc_Team_impl_FindTeam_1 : Hint := { tab, hn := [], loops := [(2, ks_slices_IndexFunc_Team_impl_FindTeam_1_l2)], outs := [(2, 2, ko_slices_IndexFunc_Team_impl_FindTeam_1_l2_0), (2, 1, ko_slices_IndexFunc_Team_impl_FindTeam_1_l2_1)], ords := [] }
noncomputable def sg_slices_IndexFunc_Team_impl_FindTeam_1 : List AK := [.v (.sl tQIIIIILIE) .k, .fn 96 [(.ptr (.int .i64))]]
noncomputable def F_slices_IndexFunc_Team_impl_FindTeam_1 (N : Nat) (x : AVals sg_slices_IndexFunc_Team_impl_FindTeam_1) (kf : Ret → Option Ret) : Option Ret := slices_IndexFunc_Team_impl_FindTeam_1 N x.1 x.2.1.1 (fun r0 => kf ⟨[⟨(.int .i64), .k, r0⟩], []⟩)
noncomputable def run_slices_IndexFunc_Team_impl_FindTeam_1 (N : Nat) := runOf sg_slices_IndexFunc_Team_impl_FindTeam_1 (F_slices_IndexFunc_Team_impl_FindTeam_1 N)
noncomputable def es_slices_IndexFunc_Team_impl_FindTeam_1 (N : Nat) : List Entry := [⟨96, [.val], (run_impl_FindTeam_1 N)⟩]
noncomputable def body_slices_IndexFunc_Team_impl_FindTeam_1 : Code := match Try.f95.body with | some c => c | none => .skip
noncomputable def L_slices_IndexFunc_Team_impl_FindTeam_1 (N n : Nat) (key : Nat) (S : St) (K : Ks) : Option Ret := bif Nat.beq key 2 then withVals ks_slices_IndexFunc_Team_impl_FindTeam_1_l2 S (fun x => slices_IndexFunc_Team_impl_FindTeam_1_l2 N x.1 x.2.1.1 x.2.2.1 n (K (.x 0) (shape ko_slices_IndexFunc_Team_impl_FindTeam_1_l2_0 ())) (fun z0 => K .r (shape ko_slices_IndexFunc_Team_impl_FindTeam_1_l2_1 (z0, ()))) x.2.2.2.1) else none
theorem L0_slices_IndexFunc_Team_impl_FindTeam_1 (N key : Nat) (S : St) (K : Ks) : L_slices_IndexFunc_Team_impl_FindTeam_1 N 0 key S K = none := (bif0 (withVals0 fun _ => rfl) rfl)
noncomputable def c_slices_IndexFunc_Team_impl_FindTeam_1_0 : Code := (loopsIn body_slices_IndexFunc_Team_impl_FindTeam_1).getD 0 .skip
theorem ls_slices_IndexFunc_Team_impl_FindTeam_1 : loopsIn body_slices_IndexFunc_Team_impl_FindTeam_1 = [c_slices_IndexFunc_Team_impl_FindTeam_1_0] := by kernel_rfl
theorem rd_slices_IndexFunc_Team_impl_FindTeam_1_2 (N n : Nat) (x : Vals ks_slices_IndexFunc_Team_impl_FindTeam_1_l2) (K : Ks) : L_slices_IndexFunc_Team_impl_FindTeam_1 N (n + 1) 2 (shape ks_slices_IndexFunc_Team_impl_FindTeam_1_l2 x) (h_slices_IndexFunc_Team_impl_FindTeam_1.onOut 2 K) = peRound h_slices_IndexFunc_Team_impl_FindTeam_1 (Orc.of (es_slices_IndexFunc_Team_impl_FindTeam_1 N)) (mixL (L_slices_IndexFunc_Team_impl_FindTeam_1 N) N n 2) c_slices_IndexFunc_Team_impl_FindTeam_1_0 (shape ks_slices_IndexFunc_Team_impl_FindTeam_1_l2 x) (h_slices_IndexFunc_Team_impl_FindTeam_1.onOut 2 K) := by kernel_rfl
theorem fn_slices_IndexFunc_Team_impl_FindTeam_1 (N : Nat) (x : AVals sg_slices_IndexFunc_Team_impl_FindTeam_1) (kf : Ret → Option Ret) : F_slices_IndexFunc_Team_impl_FindTeam_1 N x kf = peFunc h_slices_IndexFunc_Team_impl_FindTeam_1 (Orc.of (es_slices_IndexFunc_Team_impl_FindTeam_1 N)) (L_slices_IndexFunc_Team_impl_FindTeam_1 N N) Try.f95 (ashape sg_slices_IndexFunc_Team_impl_FindTeam_1 x) kf := by kernel_rfl
theorem sd_slices_IndexFunc_Team_impl_FindTeam_1 (N : Nat) : Sound Try.prog 95 (run_slices_IndexFunc_Team_impl_FindTeam_1 N) := fun_ok2 (hh := h_slices_IndexFunc_Team_impl_FindTeam_1) mixed tab_ok (es := es_slices_IndexFunc_Team_impl_FindTeam_1 N) ⟨sd_impl_FindTeam_1 N, trivial⟩ (fn := Try.f95) (body := body_slices_IndexFunc_Team_impl_FindTeam_1) (by kernel_rfl) (by kernel_rfl) (by kernel_rfl) (by kernel_rfl) (by kernel_rfl) (Lf := L_slices_IndexFunc_Team_impl_FindTeam_1 N) (L0_slices_IndexFunc_Team_impl_FindTeam_1 N) ls_slices_IndexFunc_Team_impl_FindTeam_1 (round_cons (key := 2) (ks := ks_slices_IndexFunc_Team_impl_FindTeam_1_l2) (by kernel_rfl) (by kernel_rfl) (rd_slices_IndexFunc_Team_impl_FindTeam_1_2 N) trivial) (N := N) (by kernel_rfl) (fn_slices_IndexFunc_Team_impl_FindTeam_1 N)
/-! impl_FindTeam -/
noncomputable def h_impl_FindTeam : Hint := { tab, hn := [], loops := [], outs := [], ords := [] }
noncomputable def sg_impl_FindTeam : List AK := [.v (.sl tQIIIIILIE) .k, .v (.int .i64) .k]
noncomputable def F_impl_FindTeam (N : Nat) (x : AVals sg_impl_FindTeam) (kf : Ret → Option Ret) : Option Ret := impl_FindTeam N x.1 x.2.1 (fun r0 => kf ⟨[⟨(.int .i64), .k, r0⟩], []⟩)
noncomputable def run_impl_FindTeam (N : Nat) := runOf sg_impl_FindTeam (F_impl_FindTeam N)
noncomputable def es_impl_FindTeam (N : Nat) : List Entry := [⟨95, [.val, .val], (run_slices_IndexFunc_Team_impl_FindTeam_1 N)⟩]
noncomputable def body_impl_FindTeam : Code := match Try.f87.body with | some c => c | none => .skip
noncomputable def L_impl_FindTeam (N n : Nat) (key : Nat) (S : St) (K : Ks) : Option Ret := none
theorem L0_impl_FindTeam (N key : Nat) (S : St) (K : Ks) : L_impl_FindTeam N 0 key S K = none := rfl
theorem ls_impl_FindTeam : loopsIn body_impl_FindTeam = [] := by kernel_rfl
theorem fn_impl_FindTeam (N : Nat) (x : AVals sg_impl_FindTeam) (kf : Ret → Option Ret) : F_impl_FindTeam N x kf = peFunc h_impl_FindTeam (Orc.of (es_impl_FindTeam N)) (L_impl_FindTeam N N) Try.f87 (ashape sg_impl_FindTeam x) kf := by kernel_rfl
theorem sd_impl_FindTeam (N : Nat) : Sound Try.prog 87 (run_impl_FindTeam N) := fun_ok2 (hh := h_impl_FindTeam) mixed tab_ok (es := es_impl_FindTeam N) ⟨sd_slices_IndexFunc_Team_impl_FindTeam_1 N, trivial⟩ (fn := Try.f87) (body := body_impl_FindTeam) (by kernel_rfl) (by kernel_rfl) (by kernel_rfl) (by kernel_rfl) (by kernel_rfl) (Lf := L_impl_FindTeam N) (L0_impl_FindTeam N) ls_impl_FindTeam trivial (N := N) (by kernel_rfl) (fn_impl_FindTeam N)
/-! spec_l1In -/
noncomputable def h_spec_l1In : Hint := { tab, hn := [], loops := [], outs := [], ords := [] }
noncomputable def sg_spec_l1In : List AK := [.v (.int .i64) .k, .v (.int .i64) .k, .v (.int .i64) .k]
noncomputable def F_spec_l1In (N : Nat) (x : AVals sg_spec_l1In) (kf : Ret → Option Ret) : Option Ret := spec_l1In N x.1 x.2.1 x.2.2.1 (fun r0 => kf ⟨[⟨.bool, .k, r0⟩], []⟩)
noncomputable def run_spec_l1In (N : Nat) := runOf sg_spec_l1In (F_spec_l1In N)
noncomputable def es_spec_l1In (N : Nat) : List Entry := []
noncomputable def body_spec_l1In : Code := match Try.f89.body with | some c => c | none => .skip
noncomputable def L_spec_l1In (N n : Nat) (key : Nat) (S : St) (K : Ks) : Option Ret := none
theorem L0_spec_l1In (N key : Nat) (S : St) (K : Ks) : L_spec_l1In N 0 key S K = none := rfl
theorem ls_spec_l1In : loopsIn body_spec_l1In = [] := by kernel_rfl
theorem fn_spec_l1In (N : Nat) (x : AVals sg_spec_l1In) (kf : Ret → Option Ret) : F_spec_l1In N x kf = peFunc h_spec_l1In (Orc.of (es_spec_l1In N)) (L_spec_l1In N N) Try.f89 (ashape sg_spec_l1In x) kf := by kernel_rfl
theorem sd_spec_l1In (N : Nat) : Sound Try.prog 89 (run_spec_l1In N) := fun_ok2 (hh := h_spec_l1In) mixed tab_ok (es := es_spec_l1In N) trivial (fn := Try.f89) (body := body_spec_l1In) (by kernel_rfl) (by kernel_rfl) (by kernel_rfl) (by kernel_rfl) (by kernel_rfl) (Lf := L_spec_l1In N) (L0_spec_l1In N) ls_spec_l1In trivial (N := N) (by kernel_rfl) (fn_spec_l1In N)
/-! spec_l19Count -/
noncomputable def ks_spec_l19Count_l3 : List Kd := [.v (.sl (.int .i64)) .k, .v (.int .i64) .k, dK, dK, dK, .v (.int .i64) .k, .v (.int .i64) .k, dK, dK, dK, dK, dK, dK, dK, dK, dK, dK, dK, dK, dK, dK, dK]
noncomputable def ko_spec_l19Count_l3_0 : List Kd := [dK, dK, dK, dK, dK, .v (.int .i64) .k, dK, dK, dK, dK, dK, dK, dK, dK, dK, dK, dK, dK, dK, dK, dK, dK]
noncomputable def h_spec_l19Count : Hint := { tab, hn := [], loops := [(3, ks_spec_l19Count_l3)], outs := [(3, 2, ko_spec_l19Count_l3_0)], ords := [] }
noncomputable def sg_spec_l19Count : List AK := [.v (.sl (.int .i64)) .k, .v (.int .i64) .k]
noncomputable def F_spec_l19Count (N : Nat) (x : AVals sg_spec_l19Count) (kf : Ret → Option Ret) : Option Ret := spec_l19Count N x.1 x.2.1 (fun r0 => kf ⟨[⟨(.int .i64), .k, r0⟩], []⟩)
noncomputable def run_spec_l19Count (N : Nat) := runOf sg_spec_l19Count (F_spec_l19Count N)
noncomputable def es_spec_l19Count (N : Nat) : List Entry := []
noncomputable def body_spec_l19Count : Code := match Try.f90.body with | some c => c | none => .skip
noncomputable def L_spec_l19Count (N n : Nat) (key : Nat) (S : St) (K : Ks) : Option Ret := bif Nat.beq key 3 then withVals ks_spec_l19Count_l3 S (fun x => spec_l19Count_l3 x.1 x.2.1 n (fun z0 => K (.x 0) (shape ko_spec_l19Count_l3_0 (z0, ()))) x.2.2.1 x.2.2.2.1) else none
theorem L0_spec_l19Count (N key : Nat) (S : St) (K : Ks) : L_spec_l19Count N 0 key S K = none := (bif0 (withVals0 fun _ => rfl) rfl)
noncomputable def c_spec_l19Count_0 : Code := (loopsIn body_spec_l19Count).getD 0 .skip
theorem ls_spec_l19Count : loopsIn body_spec_l19Count = [c_spec_l19Count_0] := by kernel_rfl
theorem rd_spec_l19Count_3 (N n : Nat) (x : Vals ks_spec_l19Count_l3) (K : Ks) : L_spec_l19Count N (n + 1) 3 (shape ks_spec_l19Count_l3 x) (h_spec_l19Count.onOut 3 K) = peRound h_spec_l19Count (Orc.of (es_spec_l19Count N)) (mixL (L_spec_l19Count N) N n 3) c_spec_l19Count_0 (shape ks_spec_l19Count_l3 x) (h_spec_l19Count.onOut 3 K) := by kernel_rfl
theorem fn_spec_l19Count (N : Nat) (x : AVals sg_spec_l19Count) (kf : Ret → Option Ret) : F_spec_l19Count N x kf = peFunc h_spec_l19Count (Orc.of (es_spec_l19Count N)) (L_spec_l19Count N N) Try.f90 (ashape sg_spec_l19Count x) kf := by kernel_rfl
theorem sd_spec_l19Count (N : Nat) : Sound Try.prog 90 (run_spec_l19Count N) := fun_ok2 (hh := h_spec_l19Count) mixed tab_ok (es := es_spec_l19Count N) trivial (fn := Try.f90) (body := body_spec_l19Count) (by kernel_rfl) (by kernel_rfl) (by kernel_rfl) (by kernel_rfl) (by kernel_rfl) (Lf := L_spec_l19Count N) (L0_spec_l19Count N) ls_spec_l19Count (round_cons (key := 3) (ks := ks_spec_l19Count_l3) (by kernel_rfl) (by kernel_rfl) (rd_spec_l19Count_3 N) trivial) (N := N) (by kernel_rfl) (fn_spec_l19Count N)
/-! spec_AreTeams -/
noncomputable def ks_spec_AreTeams_l8 : List Kd := [.v (.sl tQIIIIILIE) .k, dK, dK, .v (.int .i64) .k, .v (.ptr tQIIIIILIE) (.o 70 none .k), .v (.int .i64) .k, dK, dK, dK, dK, dK, dK, dK, dK, dK, dK, dK, dK, dK, dK, dK, dK, dK, dK, dK, dK, dK, dK, dK, dK, dK, dK, dK, dK, dK, dK, dK, dK, dK, dK, dK, dK, dK, dK, dK, dK, dK, dK, dK, dK, dK, dK, dK, dK, dK, dK, dK, dK, dK, dK, dK, dK, dK, dK, dK, dK, dK, dK, dK, dK, dK, dK, dK, dK, dK, dK, dK, dK, dK, dK, dK, dK, dK, dK, dK, dK, dK, dK, dK, dK, dK, dK, dK, dK, dK, dK, dK, dK, dK, dK, dK, dK, dK, dK, dK, dK, dK, dK, dK, dK, dK, dK, dK, dK, dK]
noncomputable def ko_spec_AreTeams_l8_0 : List Kd := [.v (.sl tQIIIIILIE) .k, dK, dK, .v (.int .i64) .k, dK, dK, dK, dK, dK, dK, dK, dK, dK, dK, dK, dK, dK, dK, dK, dK, dK, dK, dK, dK, dK, dK, dK, dK, dK, dK, dK, dK, dK, dK, dK, dK, dK, dK, dK, dK, dK, dK, dK, dK, dK, dK, dK, dK, dK, dK, dK, dK, dK, dK, dK, dK, dK, dK, dK, dK, dK, dK, dK, dK, dK, dK, dK, dK, dK, dK, dK, dK, dK, dK, dK, dK, dK, dK, dK, dK, dK, dK, dK, dK, dK, dK, dK, dK, dK, dK, dK, dK, dK, dK, dK, dK, dK, dK, dK, dK, dK, dK, dK, dK, dK, dK, dK, dK, dK, dK, dK, dK, dK, dK, dK]
noncomputable def ko_spec_AreTeams_l8_1 : List Kd := [dK, dK, .v .bool .k, dK, dK, dK, dK, dK, dK, dK, dK, dK, dK, dK, dK, dK, dK, dK, dK, dK, dK, dK, dK, dK, dK, dK, dK, dK, dK, dK, dK, dK, dK, dK, dK, dK, dK, dK, dK, dK, dK, dK, dK, dK, dK, dK, dK, dK, dK, dK, dK, dK, dK, dK, dK, dK, dK, dK, dK, dK, dK, dK, dK, dK, dK, dK, dK, dK, dK, dK, dK, dK, dK, dK, dK, dK, dK, dK, dK, dK, dK, dK, dK, dK, dK, dK, dK, dK, dK, dK, dK, dK, dK, dK, dK, dK, dK, dK, dK, dK, dK, dK, dK, dK, dK, dK, dK, dK, dK, dK, dK, dK, dK, dK, dK]
noncomputable def ks_spec_AreTeams_l2 : List Kd := [.v (.sl tQIIIIILIE) .k, dK, dK, .v (.int .i64) .k, dK, dK, dK, dK, dK, dK, dK, dK, dK, dK, dK, dK, dK, dK, dK, dK, dK, dK, dK, dK, dK, dK, dK, dK, dK, dK, dK, dK, dK, dK, dK, dK, dK, dK, dK, dK, dK, dK, dK, dK, dK, dK, dK, dK, dK, dK, dK, dK, dK, dK, dK, dK, dK, dK, dK, dK, dK, dK, dK, dK, dK, dK, dK, dK, dK, dK, dK, dK, dK, dK, dK, dK, dK, dK, dK, dK, dK, dK, dK, dK, dK, dK, dK, dK, dK, dK, dK, dK, dK, dK, dK, dK, dK, dK, dK, dK, dK, dK, dK, dK, dK, dK, dK, dK, dK, dK, dK, dK, dK, dK, dK]
noncomputable def ko_spec_AreTeams_l2_0 : List Kd := [.v (.sl tQIIIIILIE) .k, dK, dK, dK, dK, dK, dK, dK, dK, dK, dK, dK, dK, dK, dK, dK, dK, dK, dK, dK, dK, dK, dK, dK, dK, dK, dK, dK, dK, dK, dK, dK, dK, dK, dK, dK, dK, dK, dK, dK, dK, dK, dK, dK, dK, dK, dK, dK, dK, dK, dK, dK, dK, dK, dK, dK, dK, dK, dK, dK, dK, dK, dK, dK, dK, dK, dK, dK, dK, dK, dK, dK, dK, dK, dK, dK, dK, dK, dK, dK, dK, dK, dK, dK, dK, dK, dK, dK, dK, dK, dK, dK, dK, dK, dK, dK, dK, dK, dK, dK, dK, dK, dK, dK, dK, dK, dK, dK, dK, dK, dK, dK, dK, dK, dK]
noncomputable def ko_spec_AreTeams_l2_1 : List Kd := [dK, dK, .v .bool .k, dK, dK, dK, dK, dK, dK, dK, dK, dK, dK, dK, dK, dK, dK, dK, dK, dK, dK, dK, dK, dK, dK, dK, dK, dK, dK, dK, dK, dK, dK, dK, dK, dK, dK, dK, dK, dK, dK, dK, dK, dK, dK, dK, dK, dK, dK, dK, dK, dK, dK, dK, dK, dK, dK, dK, dK, dK, dK, dK, dK, dK, dK, dK, dK, dK, dK, dK, dK, dK, dK, dK, dK, dK, dK, dK, dK, dK, dK, dK, dK, dK, dK, dK, dK, dK, dK, dK, dK, dK, dK, dK, dK, dK, dK, dK, dK, dK, dK, dK, dK, dK, dK, dK, dK, dK, dK, dK, dK, dK, dK, dK, dK]
noncomputable def h_spec_AreTeams : Hint := { tab, hn := [], loops := [(8, ks_spec_AreTeams_l8), (2, ks_spec_AreTeams_l2)], outs := [(8, 4, ko_spec_AreTeams_l8_0), (8, 1, ko_spec_AreTeams_l8_1), (2, 2, ko_spec_AreTeams_l2_0), (2, 1, ko_spec_AreTeams_l2_1)], ords := [(5, (OT.seq [0, 1, 2, 3, 4, 5, 6, 7, 8, 9, 10, 11, 12, 13, 14, 15, 16, 17, 18, 19, 20, 21, 22, 23, 24, 25, 26, 27, 28, 29, 30, 31, 32, 33, 34, 35, 36, 37, 38, 39, 40, 41, 42, 43, 44, 45, 46, 47, 48, 49, 50, 51, 52, 53, 54] .done)), (11, (OT.seq [0, 1, 2, 3, 4, 5, 6, 7, 8, 9, 10, 11, 12, 13, 14, 16, 17, 18, 19, 20, 21, 22, 15, 23, 24, 25] .done))] }
noncomputable def sg_spec_AreTeams : List AK := [.v (.sl tQIIIIILIE) .k]
noncomputable def F_spec_AreTeams (N : Nat) (x : AVals sg_spec_AreTeams) (kf : Ret → Option Ret) : Option Ret := spec_AreTeams N x.1 (fun r0 => kf ⟨[⟨.bool, .k, r0⟩], []⟩)
noncomputable def run_spec_AreTeams (N : Nat) := runOf sg_spec_AreTeams (F_spec_AreTeams N)
noncomputable def es_spec_AreTeams (N : Nat) : List Entry := [⟨89, [.val, .val, .val], (run_spec_l1In N)⟩, ⟨84, [.val, .val], (run_spec_FindTeam N)⟩, ⟨90, [.val, .val], (run_spec_l19Count N)⟩]
noncomputable def body_spec_AreTeams : Code := match Try.f66.body with | some c => c | none => .skip
noncomputable def L_spec_AreTeams (N n : Nat) (key : Nat) (S : St) (K : Ks) : Option Ret := bif Nat.beq key 2 then withVals ks_spec_AreTeams_l2 S (fun x => spec_AreTeams_l2 N x.1 n (K (.x 0) (shape ko_spec_AreTeams_l2_0 (x.1, ()))) (fun z0 => K .r (shape ko_spec_AreTeams_l2_1 (z0, ()))) x.2.1) else bif Nat.beq key 8 then withVals ks_spec_AreTeams_l8 S (fun x => spec_AreTeams_l8 N x.1 x.2.1 x.2.2.1 n (K (.x 2) (shape ko_spec_AreTeams_l8_0 (x.1, x.2.1, ()))) (fun z0 => K .r (shape ko_spec_AreTeams_l8_1 (z0, ()))) x.2.2.2.1) else none
theorem L0_spec_AreTeams (N key : Nat) (S : St) (K : Ks) : L_spec_AreTeams N 0 key S K = none := (bif0 (withVals0 fun _ => rfl) (bif0 (withVals0 fun _ => rfl) rfl))
noncomputable def c_spec_AreTeams_0 : Code := (loopsIn body_spec_AreTeams).getD 0 .skip
noncomputable def c_spec_AreTeams_1 : Code := (loopsIn body_spec_AreTeams).getD 1 .skip
theorem ls_spec_AreTeams : loopsIn body_spec_AreTeams = [c_spec_AreTeams_0, c_spec_AreTeams_1] := by kernel_rfl
theorem rd_spec_AreTeams_8 (N n : Nat) (x : Vals ks_spec_AreTeams_l8) (K : Ks) : L_spec_AreTeams N (n + 1) 8 (shape ks_spec_AreTeams_l8 x) (h_spec_AreTeams.onOut 8 K) = peRound h_spec_AreTeams (Orc.of (es_spec_AreTeams N)) (mixL (L_spec_AreTeams N) N n 8) c_spec_AreTeams_1 (shape ks_spec_AreTeams_l8 x) (h_spec_AreTeams.onOut 8 K) := by kernel_rfl
theorem rd_spec_AreTeams_2 (N n : Nat) (x : Vals ks_spec_AreTeams_l2) (K : Ks) : L_spec_AreTeams N (n + 1) 2 (shape ks_spec_AreTeams_l2 x) (h_spec_AreTeams.onOut 2 K) = peRound h_spec_AreTeams (Orc.of (es_spec_AreTeams N)) (mixL (L_spec_AreTeams N) N n 2) c_spec_AreTeams_0 (shape ks_spec_AreTeams_l2 x) (h_spec_AreTeams.onOut 2 K) := by kernel_rfl
theorem fn_spec_AreTeams (N : Nat) (x : AVals sg_spec_AreTeams) (kf : Ret → Option Ret) : F_spec_AreTeams N x kf = peFunc h_spec_AreTeams (Orc.of (es_spec_AreTeams N)) (L_spec_AreTeams N N) Try.f66 (ashape sg_spec_AreTeams x) kf := by kernel_rfl
theorem sd_spec_AreTeams (N : Nat) : Sound Try.prog 66 (run_spec_AreTeams N) := fun_ok2 (hh := h_spec_AreTeams) mixed tab_ok (es := es_spec_AreTeams N) ⟨sd_spec_l1In N, ⟨sd_spec_FindTeam N, ⟨sd_spec_l19Count N, trivial⟩⟩⟩ (fn := Try.f66) (body := body_spec_AreTeams) (by kernel_rfl) (by kernel_rfl) (by kernel_rfl) (by kernel_rfl) (by kernel_rfl) (Lf := L_spec_AreTeams N) (L0_spec_AreTeams N) ls_spec_AreTeams (round_cons (key := 2) (ks := ks_spec_AreTeams_l2) (by kernel_rfl) (by kernel_rfl) (rd_spec_AreTeams_2 N) (round_cons (key := 8) (ks := ks_spec_AreTeams_l8) (by kernel_rfl) (by kernel_rfl) (rd_spec_AreTeams_8 N) trivial)) (N := N) (by kernel_rfl) (fn_spec_AreTeams N)
/-! spec_IsZeroSum -/
noncomputable def ks_spec_IsZeroSum_l5 : List Kd := [dK, .v (.ptr tQLQIIIIILIELQIILIELQIIELILQIIIELQIIIIEIE) (.o 43 none .k), dK, .v (.int .i64) .k, .v (.int .i64) .k, .v (.int .i64) .k, .v (.int .i64) .k, dK, dK, dK, dK, dK, dK, dK, dK, dK, dK, dK, dK, dK, dK, dK, dK, dK, dK, dK, dK, dK, dK, dK, dK, dK, dK, dK, dK, dK, dK, dK, dK, dK, dK, dK, dK, dK, dK, dK, dK, dK, dK, dK, dK, dK, dK, dK, dK, dK, dK, dK, dK]
noncomputable def ko_spec_IsZeroSum_l5_0 : List Kd := [dK, .v (.ptr tQLQIIIIILIELQIILIELQIIELILQIIIELQIIIIEIE) (.o 43 none .k), dK, .v (.int .i64) .k, .v (.int .i64) .k, .v (.int .i64) .k, dK, dK, dK, dK, dK, dK, dK, dK, dK, dK, dK, dK, dK, dK, dK, dK, dK, dK, dK, dK, dK, dK, dK, dK, dK, dK, dK, dK, dK, dK, dK, dK, dK, dK, dK, dK, dK, dK, dK, dK, dK, dK, dK, dK, dK, dK, dK, dK, dK, dK, dK, dK, dK]
noncomputable def h_spec_IsZeroSum : Hint := { tab, hn := [], loops := [(5, ks_spec_IsZeroSum_l5)], outs := [(5, 2, ko_spec_IsZeroSum_l5_0)], ords := [] }
noncomputable def sg_spec_IsZeroSum : List AK := [.v tQLQIIIIILIELQIILIELQIIELILQIIIELQIIIIEIE .k]
noncomputable def F_spec_IsZeroSum (N : Nat) (x : AVals sg_spec_IsZeroSum) (kf : Ret → Option Ret) : Option Ret := spec_IsZeroSum N x.1 (fun r0 => kf ⟨[⟨.bool, .k, r0⟩], []⟩)
noncomputable def run_spec_IsZeroSum (N : Nat) := runOf sg_spec_IsZeroSum (F_spec_IsZeroSum N)
noncomputable def es_spec_IsZeroSum (N : Nat) : List Entry := [⟨66, [.val], (run_spec_AreTeams N)⟩]
noncomputable def body_spec_IsZeroSum : Code := match Try.f25.body with | some c => c | none => .skip
noncomputable def L_spec_IsZeroSum (N n : Nat) (key : Nat) (S : St) (K : Ks) : Option Ret := bif Nat.beq key 5 then withVals ks_spec_IsZeroSum_l5 S (fun x => spec_IsZeroSum_l5 N x.1 n (fun z0 z1 z2 => K (.x 0) (shape ko_spec_IsZeroSum_l5_0 (x.1, z0, z1, z2, ()))) x.2.1 x.2.2.1 x.2.2.2.1 x.2.2.2.2.1) else none
theorem L0_spec_IsZeroSum (N key : Nat) (S : St) (K : Ks) : L_spec_IsZeroSum N 0 key S K = none := (bif0 (withVals0 fun _ => rfl) rfl)
noncomputable def c_spec_IsZeroSum_0 : Code := (loopsIn body_spec_IsZeroSum).getD 0 .skip
theorem ls_spec_IsZeroSum : loopsIn body_spec_IsZeroSum = [c_spec_IsZeroSum_0] := by kernel_rfl
theorem rd_spec_IsZeroSum_5 (N n : Nat) (x : Vals ks_spec_IsZeroSum_l5) (K : Ks) : L_spec_IsZeroSum N (n + 1) 5 (shape ks_spec_IsZeroSum_l5 x) (h_spec_IsZeroSum.onOut 5 K) = peRound h_spec_IsZeroSum (Orc.of (es_spec_IsZeroSum N)) (mixL (L_spec_IsZeroSum N) N n 5) c_spec_IsZeroSum_0 (shape ks_spec_IsZeroSum_l5 x) (h_spec_IsZeroSum.onOut 5 K) := by kernel_rfl
theorem fn_spec_IsZeroSum (N : Nat) (x : AVals sg_spec_IsZeroSum) (kf : Ret → Option Ret) : F_spec_IsZeroSum N x kf = peFunc h_spec_IsZeroSum (Orc.of (es_spec_IsZeroSum N)) (L_spec_IsZeroSum N N) Try.f25 (ashape sg_spec_IsZeroSum x) kf := by kernel_rfl
theorem sd_spec_IsZeroSum (N : Nat) : Sound Try.prog 25 (run_spec_IsZeroSum N) := fun_ok2 (hh := h_spec_IsZeroSum) mixed tab_ok (es := es_spec_IsZeroSum N) ⟨sd_spec_AreTeams N, trivial⟩ (fn := Try.f25) (body := body_spec_IsZeroSum) (by kernel_rfl) (by kernel_rfl) (by kernel_rfl) (by kernel_rfl) (by kernel_rfl) (Lf := L_spec_IsZeroSum N) (L0_spec_IsZeroSum N) ls_spec_IsZeroSum (round_cons (key := 5) (ks := ks_spec_IsZeroSum_l5) (by kernel_rfl) (by kernel_rfl) (rd_spec_IsZeroSum_5 N) trivial) (N := N) (by kernel_rfl) (fn_spec_IsZeroSum N)
/-! impl_InRange -/
noncomputable def h_impl_InRange : Hint := { tab, hn := [], loops := [], outs := [], ords := [] }
noncomputable def sg_impl_InRange : List AK := [.v (.int .i64) .k, .v (.int .i64) .k, .v (.int .i64) .k]
noncomputable def F_impl_InRange (N : Nat) (x : AVals sg_impl_InRange) (kf : Ret → Option Ret) : Option Ret := impl_InRange N x.1 x.2.1 x.2.2.1 (fun r0 => kf ⟨[⟨.bool, .k, r0⟩], []⟩)
noncomputable def run_impl_InRange (N : Nat) := runOf sg_impl_InRange (F_impl_InRange N)
noncomputable def es_impl_InRange (N : Nat) : List Entry := []
noncomputable def body_impl_InRange : Code := match Try.f91.body with | some c => c | none => .skip
noncomputable def L_impl_InRange (N n : Nat) (key : Nat) (S : St) (K : Ks) : Option Ret := none
theorem L0_impl_InRange (N key : Nat) (S : St) (K : Ks) : L_impl_InRange N 0 key S K = none := rfl
theorem ls_impl_InRange : loopsIn body_impl_InRange = [] := by kernel_rfl
theorem fn_impl_InRange (N : Nat) (x : AVals sg_impl_InRange) (kf : Ret → Option Ret) : F_impl_InRange N x kf = peFunc h_impl_InRange (Orc.of (es_impl_InRange N)) (L_impl_InRange N N) Try.f91 (ashape sg_impl_InRange x) kf := by kernel_rfl
theorem sd_impl_InRange (N : Nat) : Sound Try.prog 91 (run_impl_InRange N) := fun_ok2 (hh := h_impl_InRange) mixed tab_ok (es := es_impl_InRange N) trivial (fn := Try.f91) (body := body_impl_InRange) (by kernel_rfl) (by kernel_rfl) (by kernel_rfl) (by kernel_rfl) (by kernel_rfl) (Lf := L_impl_InRange N) (L0_impl_InRange N) ls_impl_InRange trivial (N := N) (by kernel_rfl) (fn_impl_InRange N)
/-! impl_AreTeams -/
noncomputable def ks_impl_AreTeams_l10 : List Kd := [.v (.sl tQIIIIILIE) .k, dK, dK, dK, .v (.ptr tQIIIIILIE) (.o 70 none .k), dK, dK, dK, dK, dK, dK, dK, .v (.sl tQIIIIILIE) .k, .v (.int .i64) .k, .v (.int .i64) .k, dK, dK, dK, dK, dK, dK, dK, dK, dK, dK, dK, dK, dK, dK, dK, dK, dK, dK, dK, dK, dK, dK, dK, dK, dK, dK, dK, dK, dK, dK, dK, dK, dK, dK, dK, dK, dK, dK, dK, dK, dK, dK, dK, dK, dK, dK, dK, dK, dK, dK, dK, dK, dK, dK, dK, dK, dK, .v (.sl (.int .i64)) .k, .v (.int .i64) .k, .v (.int .i64) .k, dK, dK, dK, dK, dK, dK, dK, dK, dK, dK, dK, dK, dK, dK, dK, dK, dK, dK, dK, dK, dK, dK, dK, dK, dK, dK, dK, dK, dK, dK, dK]
noncomputable def ko_impl_AreTeams_l10_0 : List Kd := [.v (.sl tQIIIIILIE) .k, dK, dK, dK, dK, dK, dK, dK, dK, dK, dK, dK, .v (.sl tQIIIIILIE) .k, .v (.int .i64) .k, .v (.int .i64) .k, dK, dK, dK, dK, dK, dK, dK, dK, dK, dK, dK, dK, dK, dK, dK, dK, dK, dK, dK, dK, dK, dK, dK, dK, dK, dK, dK, dK, dK, dK, dK, dK, dK, dK, dK, dK, dK, dK, dK, dK, dK, dK, dK, dK, dK, dK, dK, dK, dK, dK, dK, dK, dK, dK, dK, dK, dK, dK, dK, dK, dK, dK, dK, dK, dK, dK, dK, dK, dK, dK, dK, dK, dK, dK, dK, dK, dK, dK, dK, dK, dK, dK, dK, dK, dK, dK, dK, dK, dK, dK, dK]
noncomputable def ko_impl_AreTeams_l10_1 : List Kd := [dK, dK, .v .bool .k, dK, dK, dK, dK, dK, dK, dK, dK, dK, dK, dK, dK, dK, dK, dK, dK, dK, dK, dK, dK, dK, dK, dK, dK, dK, dK, dK, dK, dK, dK, dK, dK, dK, dK, dK, dK, dK, dK, dK, dK, dK, dK, dK, dK, dK, dK, dK, dK, dK, dK, dK, dK, dK, dK, dK, dK, dK, dK, dK, dK, dK, dK, dK, dK, dK, dK, dK, dK, dK, dK, dK, dK, dK, dK, dK, dK, dK, dK, dK, dK, dK, dK, dK, dK, dK, dK, dK, dK, dK, dK, dK, dK, dK, dK, dK, dK, dK, dK, dK, dK, dK, dK, dK]
noncomputable def ks_impl_AreTeams_l4 : List Kd := [.v (.sl tQIIIIILIE) .k, dK, dK, dK, dK, dK, dK, dK, dK, dK, dK, dK, .v (.sl tQIIIIILIE) .k, .v (.int .i64) .k, .v (.int .i64) .k, dK, dK, dK, dK, dK, dK, dK, dK, dK, dK, dK, dK, dK, dK, dK, dK, dK, dK, dK, dK, dK, dK, dK, dK, dK, dK, dK, dK, dK, dK, dK, dK, dK, dK, dK, dK, dK, dK, dK, dK, dK, dK, dK, dK, dK, dK, dK, dK, dK, dK, dK, dK, dK, dK, dK, dK, dK, dK, dK, dK, dK, dK, dK, dK, dK, dK, dK, dK, dK, dK, dK, dK, dK, dK, dK, dK, dK, dK, dK, dK, dK, dK, dK, dK, dK, dK, dK, dK, dK, dK, dK]
noncomputable def ko_impl_AreTeams_l4_0 : List Kd := [dK, dK, dK, dK, dK, dK, dK, dK, dK, dK, dK, dK, dK, dK, dK, dK, dK, dK, dK, dK, dK, dK, dK, dK, dK, dK, dK, dK, dK, dK, dK, dK, dK, dK, dK, dK, dK, dK, dK, dK, dK, dK, dK, dK, dK, dK, dK, dK, dK, dK, dK, dK, dK, dK, dK, dK, dK, dK, dK, dK, dK, dK, dK, dK, dK, dK, dK, dK, dK, dK, dK, dK, dK, dK, dK, dK, dK, dK, dK, dK, dK, dK, dK, dK, dK, dK, dK, dK, dK, dK, dK, dK, dK, dK, dK, dK, dK, dK, dK, dK, dK, dK, dK, dK, dK, dK]
noncomputable def ko_impl_AreTeams_l4_1 : List Kd := [dK, dK, .v .bool .k, dK, dK, dK, dK, dK, dK, dK, dK, dK, dK, dK, dK, dK, dK, dK, dK, dK, dK, dK, dK, dK, dK, dK, dK, dK, dK, dK, dK, dK, dK, dK, dK, dK, dK, dK, dK, dK, dK, dK, dK, dK, dK, dK, dK, dK, dK, dK, dK, dK, dK, dK, dK, dK, dK, dK, dK, dK, dK, dK, dK, dK, dK, dK, dK, dK, dK, dK, dK, dK, dK, dK, dK, dK, dK, dK, dK, dK, dK, dK, dK, dK, dK, dK, dK, dK, dK, dK, dK, dK, dK, dK, dK, dK, dK, dK, dK, dK, dK, dK, dK, dK, dK, dK]
noncomputable def h_impl_AreTeams : Hint := { tab, hn := [], loops := [(10, ks_impl_AreTeams_l10), (4, ks_impl_AreTeams_l4)], outs := [(10, 4, ko_impl_AreTeams_l10_0), (10, 1, ko_impl_AreTeams_l10_1), (4, 2, ko_impl_AreTeams_l4_0), (4, 1, ko_impl_AreTeams_l4_1)], ords := [(7, (OT.seq [0, 1, 2, 3, 4, 5, 6, 7, 8, 9, 10, 11, 12, 13, 14, 15, 16, 17, 18, 19, 20, 21, 22, 23, 24, 25, 26, 27, 28, 29, 30, 31, 32, 33, 34, 35, 36, 37, 38, 39, 40, 41, 42, 43, 44, 45, 46, 47, 48] .done)), (13, (OT.seq [0, 1, 2, 3, 4, 5, 6, 7, 8, 9, 10, 11, 13, 14, 15, 16, 17, 18, 19, 12, 20, 21, 22] .done))] }
noncomputable def sg_impl_AreTeams : List AK := [.v (.sl tQIIIIILIE) .k]
noncomputable def F_impl_AreTeams (N : Nat) (x : AVals sg_impl_AreTeams) (kf : Ret → Option Ret) : Option Ret := impl_AreTeams N x.1 (fun r0 => kf ⟨[⟨.bool, .k, r0⟩], []⟩)
noncomputable def run_impl_AreTeams (N : Nat) := runOf sg_impl_AreTeams (F_impl_AreTeams N)
noncomputable def es_impl_AreTeams (N : Nat) : List Entry := [⟨91, [.val, .val, .val], (run_impl_InRange N)⟩, ⟨87, [.val, .val], (run_impl_FindTeam N)⟩, ⟨49, [.val, .val], (run_impl_times N)⟩]
noncomputable def body_impl_AreTeams : Code := match Try.f67.body with | some c => c | none => .skip
noncomputable def L_impl_AreTeams (N n : Nat) (key : Nat) (S : St) (K : Ks) : Option Ret := bif Nat.beq key 4 then withVals ks_impl_AreTeams_l4 S (fun x => impl_AreTeams_l4 N x.1 x.2.1 x.2.2.1 n (K (.x 0) (shape ko_impl_AreTeams_l4_0 ())) (fun z0 => K .r (shape ko_impl_AreTeams_l4_1 (z0, ()))) x.2.2.2.1) else bif Nat.beq key 10 then withVals ks_impl_AreTeams_l10 S (fun x => impl_AreTeams_l10 N x.1 x.2.1 x.2.2.1 x.2.2.2.1 x.2.2.2.2.1 x.2.2.2.2.2.1 x.2.2.2.2.2.2.1 n (K (.x 2) (shape ko_impl_AreTeams_l10_0 (x.1, x.2.2.1, x.2.2.2.1, x.2.2.2.2.1, ()))) (fun z0 => K .r (shape ko_impl_AreTeams_l10_1 (z0, ()))) x.2.2.2.2.2.2.2.1) else none
theorem L0_impl_AreTeams (N key : Nat) (S : St) (K : Ks) : L_impl_AreTeams N 0 key S K = none := (bif0 (withVals0 fun _ => rfl) (bif0 (withVals0 fun _ => rfl) rfl))
noncomputable def c_impl_AreTeams_0 : Code := (loopsIn body_impl_AreTeams).getD 0 .skip
noncomputable def c_impl_AreTeams_1 : Code := (loopsIn body_impl_AreTeams).getD 1 .skip
theorem ls_impl_AreTeams : loopsIn body_impl_AreTeams = [c_impl_AreTeams_0, c_impl_AreTeams_1] := by kernel_rfl
theorem rd_impl_AreTeams_10 (N n : Nat) (x : Vals ks_impl_AreTeams_l10) (K : Ks) : L_impl_AreTeams N (n + 1) 10 (shape ks_impl_AreTeams_l10 x) (h_impl_AreTeams.onOut 10 K) = peRound h_impl_AreTeams (Orc.of (es_impl_AreTeams N)) (mixL (L_impl_AreTeams N) N n 10) c_impl_AreTeams_1 (shape ks_impl_AreTeams_l10 x) (h_impl_AreTeams.onOut 10 K) := by kernel_rfl
theorem rd_impl_AreTeams_4 (N n : Nat) (x : Vals ks_impl_AreTeams_l4) (K : Ks) : L_impl_AreTeams N (n + 1) 4 (shape ks_impl_AreTeams_l4 x) (h_impl_AreTeams.onOut 4 K) = peRound h_impl_AreTeams (Orc.of (es_impl_AreTeams N)) (mixL (L_impl_AreTeams N) N n 4) c_impl_AreTeams_0 (shape ks_impl_AreTeams_l4 x) (h_impl_AreTeams.onOut 4 K) := by kernel_rfl
theorem fn_impl_AreTeams (N : Nat) (x : AVals sg_impl_AreTeams) (kf : Ret → Option Ret) : F_impl_AreTeams N x kf = peFunc h_impl_AreTeams (Orc.of (es_impl_AreTeams N)) (L_impl_AreTeams N N) Try.f67 (ashape sg_impl_AreTeams x) kf := by kernel_rfl
theorem sd_impl_AreTeams (N : Nat) : Sound Try.prog 67 (run_impl_AreTeams N) := fun_ok2 (hh := h_impl_AreTeams) mixed tab_ok (es := es_impl_AreTeams N) ⟨sd_impl_InRange N, ⟨sd_impl_FindTeam N, ⟨sd_impl_times N, trivial⟩⟩⟩ (fn := Try.f67) (body := body_impl_AreTeams) (by kernel_rfl) (by kernel_rfl) (by kernel_rfl) (by kernel_rfl) (by kernel_rfl) (Lf := L_impl_AreTeams N) (L0_impl_AreTeams N) ls_impl_AreTeams (round_cons (key := 4) (ks := ks_impl_AreTeams_l4) (by kernel_rfl) (by kernel_rfl) (rd_impl_AreTeams_4 N) (round_cons (key := 10) (ks := ks_impl_AreTeams_l10) (by kernel_rfl) (by kernel_rfl) (rd_impl_AreTeams_10 N) trivial)) (N := N) (by kernel_rfl) (fn_impl_AreTeams N)
/-! impl_IsZeroSum -/
noncomputable def ks_impl_IsZeroSum_l3 : List Kd := [dK, .v (.ptr tQLQIIIIILIELQIILIELQIIELILQIIIELQIIIIEIE) (.o 43 none .k), dK, .v (.int .i64) .k, .v (.int .i64) .k, .v (.int .i64) .k, dK, dK, dK, .v (.sl tQIIIIILIE) .k, .v (.int .i64) .k, .v (.int .i64) .k, dK, dK, dK, dK, dK, dK, dK, dK, dK, dK, dK, dK, dK, dK, dK, dK, dK, dK, dK, dK, dK, dK, dK, dK, dK, dK, dK, dK, dK, dK, dK, dK]
noncomputable def ko_impl_IsZeroSum_l3_0 : List Kd := [dK, .v (.ptr tQLQIIIIILIELQIILIELQIIELILQIIIELQIIIIEIE) (.o 43 none .k), dK, .v (.int .i64) .k, .v (.int .i64) .k, .v (.int .i64) .k, dK, dK, dK, dK, dK, dK, dK, dK, dK, dK, dK, dK, dK, dK, dK, dK, dK, dK, dK, dK, dK, dK, dK, dK, dK, dK, dK, dK, dK, dK, dK, dK, dK, dK, dK, dK, dK, dK]
noncomputable def h_impl_IsZeroSum : Hint := { tab, hn := [], loops := [(3, ks_impl_IsZeroSum_l3)], outs := [(3, 2, ko_impl_IsZeroSum_l3_0)], ords := [] }
noncomputable def sg_impl_IsZeroSum : List AK := [.v tQLQIIIIILIELQIILIELQIIELILQIIIELQIIIIEIE .k]
noncomputable def F_impl_IsZeroSum (N : Nat) (x : AVals sg_impl_IsZeroSum) (kf : Ret → Option Ret) : Option Ret := impl_IsZeroSum N x.1 (fun r0 => kf ⟨[⟨.bool, .k, r0⟩], []⟩)
noncomputable def run_impl_IsZeroSum (N : Nat) := runOf sg_impl_IsZeroSum (F_impl_IsZeroSum N)
noncomputable def es_impl_IsZeroSum (N : Nat) : List Entry := [⟨67, [.val], (run_impl_AreTeams N)⟩]
noncomputable def body_impl_IsZeroSum : Code := match Try.f26.body with | some c => c | none => .skip
noncomputable def L_impl_IsZeroSum (N n : Nat) (key : Nat) (S : St) (K : Ks) : Option Ret := bif Nat.beq key 3 then withVals ks_impl_IsZeroSum_l3 S (fun x => impl_IsZeroSum_l3 x.1 x.2.2.2.2.1 x.2.2.2.2.2.1 n (fun z0 z1 z2 => K (.x 0) (shape ko_impl_IsZeroSum_l3_0 (x.1, z0, z1, z2, ()))) x.2.1 x.2.2.1 x.2.2.2.1 x.2.2.2.2.2.2.1) else none
theorem L0_impl_IsZeroSum (N key : Nat) (S : St) (K : Ks) : L_impl_IsZeroSum N 0 key S K = none := (bif0 (withVals0 fun _ => rfl) rfl)
noncomputable def c_impl_IsZeroSum_0 : Code := (loopsIn body_impl_IsZeroSum).getD 0 .skip
theorem ls_impl_IsZeroSum : loopsIn body_impl_IsZeroSum = [c_impl_IsZeroSum_0] := by kernel_rfl
theorem rd_impl_IsZeroSum_3 (N n : Nat) (x : Vals ks_impl_IsZeroSum_l3) (K : Ks) : L_impl_IsZeroSum N (n + 1) 3 (shape ks_impl_IsZeroSum_l3 x) (h_impl_IsZeroSum.onOut 3 K) = peRound h_impl_IsZeroSum (Orc.of (es_impl_IsZeroSum N)) (mixL (L_impl_IsZeroSum N) N n 3) c_impl_IsZeroSum_0 (shape ks_impl_IsZeroSum_l3 x) (h_impl_IsZeroSum.onOut 3 K) := by kernel_rfl
theorem fn_impl_IsZeroSum (N : Nat) (x : AVals sg_impl_IsZeroSum) (kf : Ret → Option Ret) : F_impl_IsZeroSum N x kf = peFunc h_impl_IsZeroSum (Orc.of (es_impl_IsZeroSum N)) (L_impl_IsZeroSum N N) Try.f26 (ashape sg_impl_IsZeroSum x) kf := by kernel_rfl
theorem sd_impl_IsZeroSum (N : Nat) : Sound Try.prog 26 (run_impl_IsZeroSum N) := fun_ok2 (hh := h_impl_IsZeroSum) mixed tab_ok (es := es_impl_IsZeroSum N) ⟨sd_impl_AreTeams N, trivial⟩ (fn := Try.f26) (body := body_impl_IsZeroSum) (by kernel_rfl) (by kernel_rfl) (by kernel_rfl) (by kernel_rfl) (by kernel_rfl) (Lf := L_impl_IsZeroSum N) (L0_impl_IsZeroSum N) ls_impl_IsZeroSum (round_cons (key := 3) (ks := ks_impl_IsZeroSum_l3) (by kernel_rfl) (by kernel_rfl) (rd_impl_IsZeroSum_3 N) trivial) (N := N) (by kernel_rfl) (fn_impl_IsZeroSum N)
/-! laws_FnExactIsZeroSum -/
noncomputable def h_laws_FnExactIsZeroSum : Hint := { tab, hn := [], loops := [], outs := [], ords := [(10, (OT.seq [0, 1, 2, 3, 4] .done))] }
noncomputable def sg_laws_FnExactIsZeroSum : List AK := [.v tQLQIIIIILIELQIILIELQIIELILQIIIELQIIIIEIE .k]
noncomputable def F_laws_FnExactIsZeroSum (N : Nat) (x : AVals sg_laws_FnExactIsZeroSum) (kf : Ret → Option Ret) : Option Ret := laws_FnExactIsZeroSum N x.1 (fun r0 => kf ⟨[⟨.bool, .k, r0⟩], []⟩)
noncomputable def run_laws_FnExactIsZeroSum (N : Nat) := runOf sg_laws_FnExactIsZeroSum (F_laws_FnExactIsZeroSum N)
noncomputable def es_laws_FnExactIsZeroSum (N : Nat) : List Entry := [⟨14, [.val, .val], (run_laws_szClub N)⟩, ⟨16, [.val], (run_laws_toClub N)⟩, ⟨25, [.val], (run_spec_IsZeroSum N)⟩, ⟨26, [.val], (run_impl_IsZeroSum N)⟩, ⟨18, [.val, .val], (run_laws_eqClub N)⟩]
noncomputable def body_laws_FnExactIsZeroSum : Code := match Try.f8.body with | some c => c | none => .skip
noncomputable def L_laws_FnExactIsZeroSum (N n : Nat) (key : Nat) (S : St) (K : Ks) : Option Ret := none
theorem L0_laws_FnExactIsZeroSum (N key : Nat) (S : St) (K : Ks) : L_laws_FnExactIsZeroSum N 0 key S K = none := rfl
theorem ls_laws_FnExactIsZeroSum : loopsIn body_laws_FnExactIsZeroSum = [] := by kernel_rfl
theorem fn_laws_FnExactIsZeroSum (N : Nat) (x : AVals sg_laws_FnExactIsZeroSum) (kf : Ret → Option Ret) : F_laws_FnExactIsZeroSum N x kf = peFunc h_laws_FnExactIsZeroSum (Orc.of (es_laws_FnExactIsZeroSum N)) (L_laws_FnExactIsZeroSum N N) Try.f8 (ashape sg_laws_FnExactIsZeroSum x) kf := by kernel_rfl
theorem sd_laws_FnExactIsZeroSum (N : Nat) : Sound Try.prog 8 (run_laws_FnExactIsZeroSum N) := fun_ok2 (hh := h_laws_FnExactIsZeroSum) mixed tab_ok (es := es_laws_FnExactIsZeroSum N) ⟨sd_laws_szClub N, ⟨sd_laws_toClub N, ⟨sd_spec_IsZeroSum N, ⟨sd_impl_IsZeroSum N, ⟨sd_laws_eqClub N, trivial⟩⟩⟩⟩⟩ (fn := Try.f8) (body := body_laws_FnExactIsZeroSum) (by kernel_rfl) (by kernel_rfl) (by kernel_rfl) (by kernel_rfl) (by kernel_rfl) (Lf := L_laws_FnExactIsZeroSum N) (L0_laws_FnExactIsZeroSum N) ls_laws_FnExactIsZeroSum trivial (N := N) (by kernel_rfl) (fn_laws_FnExactIsZeroSum N)
end Go.Pv.R
