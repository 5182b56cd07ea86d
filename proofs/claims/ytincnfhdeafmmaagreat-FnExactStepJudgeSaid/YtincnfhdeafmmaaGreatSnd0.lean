/- Each function of the program that the law reaches computes its plain function, part 0. -/
import Derived.Test.YtincnfhdeafmmaaGreatPlRes
import Derived.Test.YtincnfhdeafmmaaGreatIns
import Derived.Test.YtincnfhdeafmmaaGreatProg
namespace Go.Pv.R
open Go.Proofs
set_option linter.unusedVariables false
set_option maxRecDepth 100000
noncomputable abbrev dK : Kd := .dead
noncomputable def tab : Tab := [⟨2, (.int .i64), 0, []⟩, ⟨3, (.int .i64), 0, []⟩, ⟨4, .bool, 0, []⟩, ⟨5, (.int .u8), 0, []⟩, ⟨9, .str, 0, []⟩, ⟨12, (.int .u64), 0, []⟩, ⟨21, (.int .i32), 0, []⟩, ⟨22, (.sl tQIIIIILIE), 132, []⟩, ⟨23, (.sl tQIILIE), 134, []⟩, ⟨24, (.sl tQIIE), 140, []⟩, ⟨25, (.sl (.int .i64)), 3, []⟩, ⟨26, (.sl tQIIIE), 142, []⟩, ⟨27, (.sl tQIIIIE), 144, []⟩, ⟨28, tQLQIIIIILIELQIILIELQIIELILQIIIELQIIIIEIE, 0, [22, 23, 24, 25, 26, 27, 3]⟩, ⟨29, tQLQIIIIILIELQIILIELQIIELILQIIIELQIIIIEIE, 0, [22, 23, 24, 25, 26, 27, 3]⟩, ⟨31, (.sl tQIIIIILIE), 92, []⟩, ⟨32, (.sl tQIILIE), 97, []⟩, ⟨33, (.sl tQIIE), 107, []⟩, ⟨34, (.sl tQIIIE), 71, []⟩, ⟨35, (.sl tQIIIIE), 126, []⟩, ⟨36, tQLQIIIIILIELQIILIELQIIELILQIIIELQIIIIEIE, 0, [31, 32, 33, 25, 34, 35, 3]⟩, ⟨37, tQLQIIIIILIELQIILIELQIIELILQIIIELQIIIIEIE, 0, [31, 32, 33, 25, 34, 35, 3]⟩, ⟨50, (.sl (.int .u8)), 5, []⟩, ⟨70, tQIIIE, 0, [3, 3, 3]⟩, ⟨71, tQIIIE, 0, [3, 3, 3]⟩, ⟨91, tQIIIIILIE, 0, [3, 3, 3, 3, 3, 25]⟩, ⟨92, tQIIIIILIE, 0, [3, 3, 3, 3, 3, 25]⟩, ⟨96, tQIILIE, 0, [3, 3, 25]⟩, ⟨97, tQIILIE, 0, [3, 3, 25]⟩, ⟨106, tQIIE, 0, [3, 3]⟩, ⟨107, tQIIE, 0, [3, 3]⟩, ⟨125, tQIIIIE, 0, [3, 3, 3, 3]⟩, ⟨126, tQIIIIE, 0, [3, 3, 3, 3]⟩, ⟨132, tQIIIIILIE, 0, [3, 3, 3, 3, 3, 25]⟩, ⟨134, tQIILIE, 0, [3, 3, 25]⟩, ⟨140, tQIIE, 0, [3, 3]⟩, ⟨142, tQIIIE, 0, [3, 3, 3]⟩, ⟨144, tQIIIIE, 0, [3, 3, 3, 3]⟩, ⟨162, (.int .u64), 0, []⟩, ⟨163, tQLIIIE, 0, [50, 3, 3]⟩, ⟨164, tQLIIIE, 0, [50, 3, 3]⟩, ⟨179, (.int .i64), 0, []⟩, ⟨188, (.int .u32), 0, []⟩, ⟨190, (.int .u64), 0, []⟩, ⟨194, (.sl (.sl (.int .i64))), 25, []⟩, ⟨197, (.int .u64), 0, []⟩]
theorem mixed : Tryz.prog.follows .mixedOrders = true := by kernel_rfl
theorem tab_ok : tabB Tryz.prog tab = true := by kernel_rfl
/-! laws_szIntS -/
noncomputable def h_laws_szIntS : Hint := { tab, hn := [], loops := [], outs := [], ords := [] }
noncomputable def sg_laws_szIntS : List AK := [.v (.sl (.int .i64)) .k, .v (.int .i64) .k]
noncomputable def F_laws_szIntS (N : Nat) (x : AVals sg_laws_szIntS) (kf : Ret → Option Ret) : Option Ret := laws_szIntS N x.1 x.2.1 (fun r0 => kf ⟨[⟨(.int .i64), .k, r0⟩], []⟩)
noncomputable def run_laws_szIntS (N : Nat) := runOf sg_laws_szIntS (F_laws_szIntS N)
noncomputable def es_laws_szIntS (N : Nat) : List Entry := []
noncomputable def body_laws_szIntS : Code := match Tryz.f43.body with | some c => c | none => .skip
noncomputable def L_laws_szIntS (N n : Nat) (key : Nat) (S : St) (K : Ks) : Option Ret := none
theorem L0_laws_szIntS (N key : Nat) (S : St) (K : Ks) : L_laws_szIntS N 0 key S K = none := rfl
theorem ls_laws_szIntS : loopsIn body_laws_szIntS = [] := by kernel_rfl
theorem fn_laws_szIntS (N : Nat) (x : AVals sg_laws_szIntS) (kf : Ret → Option Ret) : F_laws_szIntS N x kf = peFunc h_laws_szIntS (Orc.of (es_laws_szIntS N)) (L_laws_szIntS N N) Tryz.f43 (ashape sg_laws_szIntS x) kf := by kernel_rfl
theorem sd_laws_szIntS (N : Nat) : Sound Tryz.prog 43 (run_laws_szIntS N) := fun_ok2 (hh := h_laws_szIntS) mixed tab_ok (es := es_laws_szIntS N) trivial (fn := Tryz.f43) (body := body_laws_szIntS) (by kernel_rfl) (by kernel_rfl) (by kernel_rfl) (by kernel_rfl) (by kernel_rfl) (Lf := L_laws_szIntS N) (L0_laws_szIntS N) ls_laws_szIntS trivial (N := N) (by kernel_rfl) (fn_laws_szIntS N) (.inl (by kernel_rfl))
/-! laws_szTeam -/
noncomputable def h_laws_szTeam : Hint := { tab, hn := [], loops := [], outs := [], ords := [] }
noncomputable def sg_laws_szTeam : List AK := [.v tQIIIIILIE .k, .v (.int .i64) .k]
noncomputable def F_laws_szTeam (N : Nat) (x : AVals sg_laws_szTeam) (kf : Ret → Option Ret) : Option Ret := laws_szTeam N x.1 x.2.1 (fun r0 => kf ⟨[⟨(.int .i64), .k, r0⟩], []⟩)
noncomputable def run_laws_szTeam (N : Nat) := runOf sg_laws_szTeam (F_laws_szTeam N)
noncomputable def es_laws_szTeam (N : Nat) : List Entry := [⟨43, [.val, .val], (run_laws_szIntS N)⟩]
noncomputable def body_laws_szTeam : Code := match Tryz.f121.body with | some c => c | none => .skip
noncomputable def L_laws_szTeam (N n : Nat) (key : Nat) (S : St) (K : Ks) : Option Ret := none
theorem L0_laws_szTeam (N key : Nat) (S : St) (K : Ks) : L_laws_szTeam N 0 key S K = none := rfl
theorem ls_laws_szTeam : loopsIn body_laws_szTeam = [] := by kernel_rfl
theorem fn_laws_szTeam (N : Nat) (x : AVals sg_laws_szTeam) (kf : Ret → Option Ret) : F_laws_szTeam N x kf = peFunc h_laws_szTeam (Orc.of (es_laws_szTeam N)) (L_laws_szTeam N N) Tryz.f121 (ashape sg_laws_szTeam x) kf := by kernel_rfl
theorem sd_laws_szTeam (N : Nat) : Sound Tryz.prog 121 (run_laws_szTeam N) := fun_ok2 (hh := h_laws_szTeam) mixed tab_ok (es := es_laws_szTeam N) ⟨sd_laws_szIntS N, trivial⟩ (fn := Tryz.f121) (body := body_laws_szTeam) (by kernel_rfl) (by kernel_rfl) (by kernel_rfl) (by kernel_rfl) (by kernel_rfl) (Lf := L_laws_szTeam N) (L0_laws_szTeam N) ls_laws_szTeam trivial (N := N) (by kernel_rfl) (fn_laws_szTeam N) (.inl (by kernel_rfl))
/-! laws_szTeamS -/
noncomputable def ks_laws_szTeamS_l5 : List Kd := [.v (.sl tQIIIIILIE) .k, .v (.int .i64) .k, dK, dK, dK, .v (.int .i64) .k, dK, dK, dK, dK, dK, dK, dK, dK, dK, dK, dK, dK, dK, dK, dK, dK, dK, dK, dK, dK, dK]
noncomputable def ko_laws_szTeamS_l5_0 : List Kd := [dK, .v (.int .i64) .k, dK, dK, dK, dK, dK, dK, dK, dK, dK, dK, dK, dK, dK, dK, dK, dK, dK, dK, dK, dK, dK, dK, dK, dK, dK]
noncomputable def ko_laws_szTeamS_l5_1 : List Kd := [dK, dK, dK, dK, .v (.int .i64) .k, dK, dK, dK, dK, dK, dK, dK, dK, dK, dK, dK, dK, dK, dK, dK, dK, dK, dK, dK, dK, dK, dK]
noncomputable def h_laws_szTeamS : Hint := { tab, hn := [], loops := [(5, ks_laws_szTeamS_l5)], outs := [(5, 2, ko_laws_szTeamS_l5_0), (5, 1, ko_laws_szTeamS_l5_1)], ords := [] }
noncomputable def sg_laws_szTeamS : List AK := [.v (.sl tQIIIIILIE) .k, .v (.int .i64) .k]
noncomputable def F_laws_szTeamS (N : Nat) (x : AVals sg_laws_szTeamS) (kf : Ret → Option Ret) : Option Ret := laws_szTeamS N x.1 x.2.1 (fun r0 => kf ⟨[⟨(.int .i64), .k, r0⟩], []⟩)
noncomputable def run_laws_szTeamS (N : Nat) := runOf sg_laws_szTeamS (F_laws_szTeamS N)
noncomputable def es_laws_szTeamS (N : Nat) : List Entry := [⟨121, [.val, .val], (run_laws_szTeam N)⟩]
noncomputable def body_laws_szTeamS : Code := match Tryz.f40.body with | some c => c | none => .skip
noncomputable def L_laws_szTeamS (N n : Nat) (key : Nat) (S : St) (K : Ks) : Option Ret := bif Nat.beq key 5 then withVals ks_laws_szTeamS_l5 S (fun x => laws_szTeamS_l5 N x.1 n (fun z0 => K (.x 0) (shape ko_laws_szTeamS_l5_0 (z0, ()))) (fun z0 => K .r (shape ko_laws_szTeamS_l5_1 (z0, ()))) x.2.1 x.2.2.1) else none
theorem L0_laws_szTeamS (N key : Nat) (S : St) (K : Ks) : L_laws_szTeamS N 0 key S K = none := (bif0 (withVals0 fun _ => rfl) rfl)
noncomputable def c_laws_szTeamS_0 : Code := (loopsIn body_laws_szTeamS).getD 0 .skip
theorem ls_laws_szTeamS : loopsIn body_laws_szTeamS = [c_laws_szTeamS_0] := by kernel_rfl
theorem rd_laws_szTeamS_5 (N n : Nat) (x : Vals ks_laws_szTeamS_l5) (K : Ks) : L_laws_szTeamS N (n + 1) 5 (shape ks_laws_szTeamS_l5 x) (h_laws_szTeamS.onOut 5 K) = peRound h_laws_szTeamS (Orc.of (es_laws_szTeamS N)) (mixL (L_laws_szTeamS N) N n 5) c_laws_szTeamS_0 (shape ks_laws_szTeamS_l5 x) (h_laws_szTeamS.onOut 5 K) := by kernel_rfl
theorem fn_laws_szTeamS (N : Nat) (x : AVals sg_laws_szTeamS) (kf : Ret → Option Ret) : F_laws_szTeamS N x kf = peFunc h_laws_szTeamS (Orc.of (es_laws_szTeamS N)) (L_laws_szTeamS N N) Tryz.f40 (ashape sg_laws_szTeamS x) kf := by kernel_rfl
theorem sd_laws_szTeamS (N : Nat) : Sound Tryz.prog 40 (run_laws_szTeamS N) := fun_ok2 (hh := h_laws_szTeamS) mixed tab_ok (es := es_laws_szTeamS N) ⟨sd_laws_szTeam N, trivial⟩ (fn := Tryz.f40) (body := body_laws_szTeamS) (by kernel_rfl) (by kernel_rfl) (by kernel_rfl) (by kernel_rfl) (by kernel_rfl) (Lf := L_laws_szTeamS N) (L0_laws_szTeamS N) ls_laws_szTeamS (round_cons (key := 5) (ks := ks_laws_szTeamS_l5) (by kernel_rfl) (by kernel_rfl) (rd_laws_szTeamS_5 N) trivial) (N := N) (by kernel_rfl) (fn_laws_szTeamS N) (.inl (by kernel_rfl))
/-! laws_szJudge -/
noncomputable def h_laws_szJudge : Hint := { tab, hn := [], loops := [], outs := [], ords := [] }
noncomputable def sg_laws_szJudge : List AK := [.v tQIILIE .k, .v (.int .i64) .k]
noncomputable def F_laws_szJudge (N : Nat) (x : AVals sg_laws_szJudge) (kf : Ret → Option Ret) : Option Ret := laws_szJudge N x.1 x.2.1 (fun r0 => kf ⟨[⟨(.int .i64), .k, r0⟩], []⟩)
noncomputable def run_laws_szJudge (N : Nat) := runOf sg_laws_szJudge (F_laws_szJudge N)
noncomputable def es_laws_szJudge (N : Nat) : List Entry := [⟨43, [.val, .val], (run_laws_szIntS N)⟩]
noncomputable def body_laws_szJudge : Code := match Tryz.f122.body with | some c => c | none => .skip
noncomputable def L_laws_szJudge (N n : Nat) (key : Nat) (S : St) (K : Ks) : Option Ret := none
theorem L0_laws_szJudge (N key : Nat) (S : St) (K : Ks) : L_laws_szJudge N 0 key S K = none := rfl
theorem ls_laws_szJudge : loopsIn body_laws_szJudge = [] := by kernel_rfl
theorem fn_laws_szJudge (N : Nat) (x : AVals sg_laws_szJudge) (kf : Ret → Option Ret) : F_laws_szJudge N x kf = peFunc h_laws_szJudge (Orc.of (es_laws_szJudge N)) (L_laws_szJudge N N) Tryz.f122 (ashape sg_laws_szJudge x) kf := by kernel_rfl
theorem sd_laws_szJudge (N : Nat) : Sound Tryz.prog 122 (run_laws_szJudge N) := fun_ok2 (hh := h_laws_szJudge) mixed tab_ok (es := es_laws_szJudge N) ⟨sd_laws_szIntS N, trivial⟩ (fn := Tryz.f122) (body := body_laws_szJudge) (by kernel_rfl) (by kernel_rfl) (by kernel_rfl) (by kernel_rfl) (by kernel_rfl) (Lf := L_laws_szJudge N) (L0_laws_szJudge N) ls_laws_szJudge trivial (N := N) (by kernel_rfl) (fn_laws_szJudge N) (.inl (by kernel_rfl))
/-! laws_szJudgeS -/
noncomputable def ks_laws_szJudgeS_l5 : List Kd := [.v (.sl tQIILIE) .k, .v (.int .i64) .k, dK, dK, dK, .v (.int .i64) .k, dK, dK, dK, dK, dK, dK, dK, dK, dK, dK, dK, dK, dK, dK, dK, dK, dK, dK, dK, dK, dK]
noncomputable def ko_laws_szJudgeS_l5_0 : List Kd := [dK, .v (.int .i64) .k, dK, dK, dK, dK, dK, dK, dK, dK, dK, dK, dK, dK, dK, dK, dK, dK, dK, dK, dK, dK, dK, dK, dK, dK, dK]
noncomputable def ko_laws_szJudgeS_l5_1 : List Kd := [dK, dK, dK, dK, .v (.int .i64) .k, dK, dK, dK, dK, dK, dK, dK, dK, dK, dK, dK, dK, dK, dK, dK, dK, dK, dK, dK, dK, dK, dK]
noncomputable def h_laws_szJudgeS : Hint := { tab, hn := [], loops := [(5, ks_laws_szJudgeS_l5)], outs := [(5, 2, ko_laws_szJudgeS_l5_0), (5, 1, ko_laws_szJudgeS_l5_1)], ords := [] }
noncomputable def sg_laws_szJudgeS : List AK := [.v (.sl tQIILIE) .k, .v (.int .i64) .k]
noncomputable def F_laws_szJudgeS (N : Nat) (x : AVals sg_laws_szJudgeS) (kf : Ret → Option Ret) : Option Ret := laws_szJudgeS N x.1 x.2.1 (fun r0 => kf ⟨[⟨(.int .i64), .k, r0⟩], []⟩)
noncomputable def run_laws_szJudgeS (N : Nat) := runOf sg_laws_szJudgeS (F_laws_szJudgeS N)
noncomputable def es_laws_szJudgeS (N : Nat) : List Entry := [⟨122, [.val, .val], (run_laws_szJudge N)⟩]
noncomputable def body_laws_szJudgeS : Code := match Tryz.f41.body with | some c => c | none => .skip
noncomputable def L_laws_szJudgeS (N n : Nat) (key : Nat) (S : St) (K : Ks) : Option Ret := bif Nat.beq key 5 then withVals ks_laws_szJudgeS_l5 S (fun x => laws_szJudgeS_l5 N x.1 n (fun z0 => K (.x 0) (shape ko_laws_szJudgeS_l5_0 (z0, ()))) (fun z0 => K .r (shape ko_laws_szJudgeS_l5_1 (z0, ()))) x.2.1 x.2.2.1) else none
theorem L0_laws_szJudgeS (N key : Nat) (S : St) (K : Ks) : L_laws_szJudgeS N 0 key S K = none := (bif0 (withVals0 fun _ => rfl) rfl)
noncomputable def c_laws_szJudgeS_0 : Code := (loopsIn body_laws_szJudgeS).getD 0 .skip
theorem ls_laws_szJudgeS : loopsIn body_laws_szJudgeS = [c_laws_szJudgeS_0] := by kernel_rfl
theorem rd_laws_szJudgeS_5 (N n : Nat) (x : Vals ks_laws_szJudgeS_l5) (K : Ks) : L_laws_szJudgeS N (n + 1) 5 (shape ks_laws_szJudgeS_l5 x) (h_laws_szJudgeS.onOut 5 K) = peRound h_laws_szJudgeS (Orc.of (es_laws_szJudgeS N)) (mixL (L_laws_szJudgeS N) N n 5) c_laws_szJudgeS_0 (shape ks_laws_szJudgeS_l5 x) (h_laws_szJudgeS.onOut 5 K) := by kernel_rfl
theorem fn_laws_szJudgeS (N : Nat) (x : AVals sg_laws_szJudgeS) (kf : Ret → Option Ret) : F_laws_szJudgeS N x kf = peFunc h_laws_szJudgeS (Orc.of (es_laws_szJudgeS N)) (L_laws_szJudgeS N N) Tryz.f41 (ashape sg_laws_szJudgeS x) kf := by kernel_rfl
theorem sd_laws_szJudgeS (N : Nat) : Sound Tryz.prog 41 (run_laws_szJudgeS N) := fun_ok2 (hh := h_laws_szJudgeS) mixed tab_ok (es := es_laws_szJudgeS N) ⟨sd_laws_szJudge N, trivial⟩ (fn := Tryz.f41) (body := body_laws_szJudgeS) (by kernel_rfl) (by kernel_rfl) (by kernel_rfl) (by kernel_rfl) (by kernel_rfl) (Lf := L_laws_szJudgeS N) (L0_laws_szJudgeS N) ls_laws_szJudgeS (round_cons (key := 5) (ks := ks_laws_szJudgeS_l5) (by kernel_rfl) (by kernel_rfl) (rd_laws_szJudgeS_5 N) trivial) (N := N) (by kernel_rfl) (fn_laws_szJudgeS N) (.inl (by kernel_rfl))
/-! laws_szPairS -/
noncomputable def h_laws_szPairS : Hint := { tab, hn := [], loops := [], outs := [], ords := [] }
noncomputable def sg_laws_szPairS : List AK := [.v (.sl tQIIE) .k, .v (.int .i64) .k]
noncomputable def F_laws_szPairS (N : Nat) (x : AVals sg_laws_szPairS) (kf : Ret → Option Ret) : Option Ret := laws_szPairS N x.1 x.2.1 (fun r0 => kf ⟨[⟨(.int .i64), .k, r0⟩], []⟩)
noncomputable def run_laws_szPairS (N : Nat) := runOf sg_laws_szPairS (F_laws_szPairS N)
noncomputable def es_laws_szPairS (N : Nat) : List Entry := []
noncomputable def body_laws_szPairS : Code := match Tryz.f42.body with | some c => c | none => .skip
noncomputable def L_laws_szPairS (N n : Nat) (key : Nat) (S : St) (K : Ks) : Option Ret := none
theorem L0_laws_szPairS (N key : Nat) (S : St) (K : Ks) : L_laws_szPairS N 0 key S K = none := rfl
theorem ls_laws_szPairS : loopsIn body_laws_szPairS = [] := by kernel_rfl
theorem fn_laws_szPairS (N : Nat) (x : AVals sg_laws_szPairS) (kf : Ret → Option Ret) : F_laws_szPairS N x kf = peFunc h_laws_szPairS (Orc.of (es_laws_szPairS N)) (L_laws_szPairS N N) Tryz.f42 (ashape sg_laws_szPairS x) kf := by kernel_rfl
theorem sd_laws_szPairS (N : Nat) : Sound Tryz.prog 42 (run_laws_szPairS N) := fun_ok2 (hh := h_laws_szPairS) mixed tab_ok (es := es_laws_szPairS N) trivial (fn := Tryz.f42) (body := body_laws_szPairS) (by kernel_rfl) (by kernel_rfl) (by kernel_rfl) (by kernel_rfl) (by kernel_rfl) (Lf := L_laws_szPairS N) (L0_laws_szPairS N) ls_laws_szPairS trivial (N := N) (by kernel_rfl) (fn_laws_szPairS N) (.inl (by kernel_rfl))
/-! laws_szBallotS -/
noncomputable def h_laws_szBallotS : Hint := { tab, hn := [], loops := [], outs := [], ords := [] }
noncomputable def sg_laws_szBallotS : List AK := [.v (.sl tQIIIE) .k, .v (.int .i64) .k]
noncomputable def F_laws_szBallotS (N : Nat) (x : AVals sg_laws_szBallotS) (kf : Ret → Option Ret) : Option Ret := laws_szBallotS N x.1 x.2.1 (fun r0 => kf ⟨[⟨(.int .i64), .k, r0⟩], []⟩)
noncomputable def run_laws_szBallotS (N : Nat) := runOf sg_laws_szBallotS (F_laws_szBallotS N)
noncomputable def es_laws_szBallotS (N : Nat) : List Entry := []
noncomputable def body_laws_szBallotS : Code := match Tryz.f44.body with | some c => c | none => .skip
noncomputable def L_laws_szBallotS (N n : Nat) (key : Nat) (S : St) (K : Ks) : Option Ret := none
theorem L0_laws_szBallotS (N key : Nat) (S : St) (K : Ks) : L_laws_szBallotS N 0 key S K = none := rfl
theorem ls_laws_szBallotS : loopsIn body_laws_szBallotS = [] := by kernel_rfl
theorem fn_laws_szBallotS (N : Nat) (x : AVals sg_laws_szBallotS) (kf : Ret → Option Ret) : F_laws_szBallotS N x kf = peFunc h_laws_szBallotS (Orc.of (es_laws_szBallotS N)) (L_laws_szBallotS N N) Tryz.f44 (ashape sg_laws_szBallotS x) kf := by kernel_rfl
theorem sd_laws_szBallotS (N : Nat) : Sound Tryz.prog 44 (run_laws_szBallotS N) := fun_ok2 (hh := h_laws_szBallotS) mixed tab_ok (es := es_laws_szBallotS N) trivial (fn := Tryz.f44) (body := body_laws_szBallotS) (by kernel_rfl) (by kernel_rfl) (by kernel_rfl) (by kernel_rfl) (by kernel_rfl) (Lf := L_laws_szBallotS N) (L0_laws_szBallotS N) ls_laws_szBallotS trivial (N := N) (by kernel_rfl) (fn_laws_szBallotS N) (.inl (by kernel_rfl))
/-! laws_szLineS -/
noncomputable def h_laws_szLineS : Hint := { tab, hn := [], loops := [], outs := [], ords := [] }
noncomputable def sg_laws_szLineS : List AK := [.v (.sl tQIIIIE) .k, .v (.int .i64) .k]
noncomputable def F_laws_szLineS (N : Nat) (x : AVals sg_laws_szLineS) (kf : Ret → Option Ret) : Option Ret := laws_szLineS N x.1 x.2.1 (fun r0 => kf ⟨[⟨(.int .i64), .k, r0⟩], []⟩)
noncomputable def run_laws_szLineS (N : Nat) := runOf sg_laws_szLineS (F_laws_szLineS N)
noncomputable def es_laws_szLineS (N : Nat) : List Entry := []
noncomputable def body_laws_szLineS : Code := match Tryz.f45.body with | some c => c | none => .skip
noncomputable def L_laws_szLineS (N n : Nat) (key : Nat) (S : St) (K : Ks) : Option Ret := none
theorem L0_laws_szLineS (N key : Nat) (S : St) (K : Ks) : L_laws_szLineS N 0 key S K = none := rfl
theorem ls_laws_szLineS : loopsIn body_laws_szLineS = [] := by kernel_rfl
theorem fn_laws_szLineS (N : Nat) (x : AVals sg_laws_szLineS) (kf : Ret → Option Ret) : F_laws_szLineS N x kf = peFunc h_laws_szLineS (Orc.of (es_laws_szLineS N)) (L_laws_szLineS N N) Tryz.f45 (ashape sg_laws_szLineS x) kf := by kernel_rfl
theorem sd_laws_szLineS (N : Nat) : Sound Tryz.prog 45 (run_laws_szLineS N) := fun_ok2 (hh := h_laws_szLineS) mixed tab_ok (es := es_laws_szLineS N) trivial (fn := Tryz.f45) (body := body_laws_szLineS) (by kernel_rfl) (by kernel_rfl) (by kernel_rfl) (by kernel_rfl) (by kernel_rfl) (Lf := L_laws_szLineS N) (L0_laws_szLineS N) ls_laws_szLineS trivial (N := N) (by kernel_rfl) (fn_laws_szLineS N) (.inl (by kernel_rfl))
/-! laws_szClub -/
noncomputable def h_laws_szClub : Hint := { tab, hn := [], loops := [], outs := [], ords := [] }
noncomputable def sg_laws_szClub : List AK := [.v tQLQIIIIILIELQIILIELQIIELILQIIIELQIIIIEIE .k, .v (.int .i64) .k]
noncomputable def F_laws_szClub (N : Nat) (x : AVals sg_laws_szClub) (kf : Ret → Option Ret) : Option Ret := laws_szClub N x.1 x.2.1 (fun r0 => kf ⟨[⟨(.int .i64), .k, r0⟩], []⟩)
noncomputable def run_laws_szClub (N : Nat) := runOf sg_laws_szClub (F_laws_szClub N)
noncomputable def es_laws_szClub (N : Nat) : List Entry := [⟨40, [.val, .val], (run_laws_szTeamS N)⟩, ⟨41, [.val, .val], (run_laws_szJudgeS N)⟩, ⟨42, [.val, .val], (run_laws_szPairS N)⟩, ⟨43, [.val, .val], (run_laws_szIntS N)⟩, ⟨44, [.val, .val], (run_laws_szBallotS N)⟩, ⟨45, [.val, .val], (run_laws_szLineS N)⟩]
noncomputable def body_laws_szClub : Code := match Tryz.f10.body with | some c => c | none => .skip
noncomputable def L_laws_szClub (N n : Nat) (key : Nat) (S : St) (K : Ks) : Option Ret := none
theorem L0_laws_szClub (N key : Nat) (S : St) (K : Ks) : L_laws_szClub N 0 key S K = none := rfl
theorem ls_laws_szClub : loopsIn body_laws_szClub = [] := by kernel_rfl
theorem fn_laws_szClub (N : Nat) (x : AVals sg_laws_szClub) (kf : Ret → Option Ret) : F_laws_szClub N x kf = peFunc h_laws_szClub (Orc.of (es_laws_szClub N)) (L_laws_szClub N N) Tryz.f10 (ashape sg_laws_szClub x) kf := by kernel_rfl
theorem sd_laws_szClub (N : Nat) : Sound Tryz.prog 10 (run_laws_szClub N) := fun_ok2 (hh := h_laws_szClub) mixed tab_ok (es := es_laws_szClub N) ⟨sd_laws_szTeamS N, ⟨sd_laws_szJudgeS N, ⟨sd_laws_szPairS N, ⟨sd_laws_szIntS N, ⟨sd_laws_szBallotS N, ⟨sd_laws_szLineS N, trivial⟩⟩⟩⟩⟩⟩ (fn := Tryz.f10) (body := body_laws_szClub) (by kernel_rfl) (by kernel_rfl) (by kernel_rfl) (by kernel_rfl) (by kernel_rfl) (Lf := L_laws_szClub N) (L0_laws_szClub N) ls_laws_szClub trivial (N := N) (by kernel_rfl) (fn_laws_szClub N) (.inl (by kernel_rfl))
/-! laws_toIntS -/
noncomputable def ks_laws_toIntS_l3 : List Kd := [.v (.sl (.int .i64)) .k, dK, dK, .v (.sl (.int .i64)) (.o 3 none .k), .v (.int .i64) .k, dK, dK, dK, dK, dK, dK, dK, dK, dK, dK, dK, dK, dK, dK, dK, dK, dK]
noncomputable def ko_laws_toIntS_l3_0 : List Kd := [dK, dK, dK, .v (.sl (.int .i64)) (.o 3 none .k), dK, dK, dK, dK, dK, dK, dK, dK, dK, dK, dK, dK, dK, dK, dK, dK, dK, dK]
noncomputable def h_laws_toIntS : Hint := { tab, hn := [], loops := [(3, ks_laws_toIntS_l3)], outs := [(3, 2, ko_laws_toIntS_l3_0)], ords := [] }
noncomputable def sg_laws_toIntS : List AK := [.v (.sl (.int .i64)) .k]
noncomputable def F_laws_toIntS (N : Nat) (x : AVals sg_laws_toIntS) (kf : Ret → Option Ret) : Option Ret := laws_toIntS N x.1 (fun r0 => kf ⟨[⟨(.sl (.int .i64)), (.o 3 none .k), r0⟩], []⟩)
noncomputable def run_laws_toIntS (N : Nat) := runOf sg_laws_toIntS (F_laws_toIntS N)
noncomputable def es_laws_toIntS (N : Nat) : List Entry := []
noncomputable def body_laws_toIntS : Code := match Tryz.f54.body with | some c => c | none => .skip
noncomputable def L_laws_toIntS (N n : Nat) (key : Nat) (S : St) (K : Ks) : Option Ret := bif Nat.beq key 3 then withVals ks_laws_toIntS_l3 S (fun x => laws_toIntS_l3 x.1 n (fun z0 => K (.x 0) (shape ko_laws_toIntS_l3_0 (z0, ()))) x.2.1 x.2.2.1) else none
theorem L0_laws_toIntS (N key : Nat) (S : St) (K : Ks) : L_laws_toIntS N 0 key S K = none := (bif0 (withVals0 fun _ => rfl) rfl)
noncomputable def c_laws_toIntS_0 : Code := (loopsIn body_laws_toIntS).getD 0 .skip
theorem ls_laws_toIntS : loopsIn body_laws_toIntS = [c_laws_toIntS_0] := by kernel_rfl
theorem rd_laws_toIntS_3 (N n : Nat) (x : Vals ks_laws_toIntS_l3) (K : Ks) : L_laws_toIntS N (n + 1) 3 (shape ks_laws_toIntS_l3 x) (h_laws_toIntS.onOut 3 K) = peRound h_laws_toIntS (Orc.of (es_laws_toIntS N)) (mixL (L_laws_toIntS N) N n 3) c_laws_toIntS_0 (shape ks_laws_toIntS_l3 x) (h_laws_toIntS.onOut 3 K) := by kernel_rfl
theorem fn_laws_toIntS (N : Nat) (x : AVals sg_laws_toIntS) (kf : Ret → Option Ret) : F_laws_toIntS N x kf = peFunc h_laws_toIntS (Orc.of (es_laws_toIntS N)) (L_laws_toIntS N N) Tryz.f54 (ashape sg_laws_toIntS x) kf := by kernel_rfl
theorem sd_laws_toIntS (N : Nat) : Sound Tryz.prog 54 (run_laws_toIntS N) := fun_ok2 (hh := h_laws_toIntS) mixed tab_ok (es := es_laws_toIntS N) trivial (fn := Tryz.f54) (body := body_laws_toIntS) (by kernel_rfl) (by kernel_rfl) (by kernel_rfl) (by kernel_rfl) (by kernel_rfl) (Lf := L_laws_toIntS N) (L0_laws_toIntS N) ls_laws_toIntS (round_cons (key := 3) (ks := ks_laws_toIntS_l3) (by kernel_rfl) (by kernel_rfl) (rd_laws_toIntS_3 N) trivial) (N := N) (by kernel_rfl) (fn_laws_toIntS N) (.inl (by kernel_rfl))
/-! laws_toTeam -/
noncomputable def h_laws_toTeam : Hint := { tab, hn := [], loops := [], outs := [], ords := [] }
noncomputable def sg_laws_toTeam : List AK := [.v tQIIIIILIE .k]
noncomputable def F_laws_toTeam (N : Nat) (x : AVals sg_laws_toTeam) (kf : Ret → Option Ret) : Option Ret := laws_toTeam N x.1 (fun r0 => kf ⟨[⟨tQIIIIILIE, (.p .k (.p .k (.p .k (.p .k (.p .k (.o 3 none .k)))))), r0⟩], []⟩)
noncomputable def run_laws_toTeam (N : Nat) := runOf sg_laws_toTeam (F_laws_toTeam N)
noncomputable def es_laws_toTeam (N : Nat) : List Entry := [⟨54, [.val], (run_laws_toIntS N)⟩]
noncomputable def body_laws_toTeam : Code := match Tryz.f130.body with | some c => c | none => .skip
noncomputable def L_laws_toTeam (N n : Nat) (key : Nat) (S : St) (K : Ks) : Option Ret := none
theorem L0_laws_toTeam (N key : Nat) (S : St) (K : Ks) : L_laws_toTeam N 0 key S K = none := rfl
theorem ls_laws_toTeam : loopsIn body_laws_toTeam = [] := by kernel_rfl
theorem fn_laws_toTeam (N : Nat) (x : AVals sg_laws_toTeam) (kf : Ret → Option Ret) : F_laws_toTeam N x kf = peFunc h_laws_toTeam (Orc.of (es_laws_toTeam N)) (L_laws_toTeam N N) Tryz.f130 (ashape sg_laws_toTeam x) kf := by kernel_rfl
theorem sd_laws_toTeam (N : Nat) : Sound Tryz.prog 130 (run_laws_toTeam N) := fun_ok2 (hh := h_laws_toTeam) mixed tab_ok (es := es_laws_toTeam N) ⟨sd_laws_toIntS N, trivial⟩ (fn := Tryz.f130) (body := body_laws_toTeam) (by kernel_rfl) (by kernel_rfl) (by kernel_rfl) (by kernel_rfl) (by kernel_rfl) (Lf := L_laws_toTeam N) (L0_laws_toTeam N) ls_laws_toTeam trivial (N := N) (by kernel_rfl) (fn_laws_toTeam N) (.inl (by kernel_rfl))
/-! laws_toTeamS -/
noncomputable def ks_laws_toTeamS_l3 : List Kd := [.v (.sl tQIIIIILIE) .k, dK, dK, .v (.sl tQIIIIILIE) (.o 92 none (.p .k (.p .k (.p .k (.p .k (.p .k (.o 3 none .k))))))), .v (.int .i64) .k, dK, dK, dK, dK, dK, dK, dK, dK, dK, dK, dK, dK, dK, dK, dK, dK, dK, dK]
noncomputable def ko_laws_toTeamS_l3_0 : List Kd := [dK, dK, dK, .v (.sl tQIIIIILIE) (.o 92 none (.p .k (.p .k (.p .k (.p .k (.p .k (.o 3 none .k))))))), dK, dK, dK, dK, dK, dK, dK, dK, dK, dK, dK, dK, dK, dK, dK, dK, dK, dK, dK]
noncomputable def h_laws_toTeamS : Hint := { tab, hn := [], loops := [(3, ks_laws_toTeamS_l3)], outs := [(3, 2, ko_laws_toTeamS_l3_0)], ords := [] }
noncomputable def sg_laws_toTeamS : List AK := [.v (.sl tQIIIIILIE) .k]
noncomputable def F_laws_toTeamS (N : Nat) (x : AVals sg_laws_toTeamS) (kf : Ret → Option Ret) : Option Ret := laws_toTeamS N x.1 (fun r0 => kf ⟨[⟨(.sl tQIIIIILIE), (.o 92 none (.p .k (.p .k (.p .k (.p .k (.p .k (.o 3 none .k))))))), r0⟩], []⟩)
noncomputable def run_laws_toTeamS (N : Nat) := runOf sg_laws_toTeamS (F_laws_toTeamS N)
noncomputable def es_laws_toTeamS (N : Nat) : List Entry := [⟨130, [.val], (run_laws_toTeam N)⟩]
noncomputable def body_laws_toTeamS : Code := match Tryz.f51.body with | some c => c | none => .skip
noncomputable def L_laws_toTeamS (N n : Nat) (key : Nat) (S : St) (K : Ks) : Option Ret := bif Nat.beq key 3 then withVals ks_laws_toTeamS_l3 S (fun x => laws_toTeamS_l3 N x.1 n (fun z0 => K (.x 0) (shape ko_laws_toTeamS_l3_0 (z0, ()))) x.2.1 x.2.2.1) else none
theorem L0_laws_toTeamS (N key : Nat) (S : St) (K : Ks) : L_laws_toTeamS N 0 key S K = none := (bif0 (withVals0 fun _ => rfl) rfl)
noncomputable def c_laws_toTeamS_0 : Code := (loopsIn body_laws_toTeamS).getD 0 .skip
theorem ls_laws_toTeamS : loopsIn body_laws_toTeamS = [c_laws_toTeamS_0] := by kernel_rfl
theorem rd_laws_toTeamS_3 (N n : Nat) (x : Vals ks_laws_toTeamS_l3) (K : Ks) : L_laws_toTeamS N (n + 1) 3 (shape ks_laws_toTeamS_l3 x) (h_laws_toTeamS.onOut 3 K) = peRound h_laws_toTeamS (Orc.of (es_laws_toTeamS N)) (mixL (L_laws_toTeamS N) N n 3) c_laws_toTeamS_0 (shape ks_laws_toTeamS_l3 x) (h_laws_toTeamS.onOut 3 K) := by kernel_rfl
theorem fn_laws_toTeamS (N : Nat) (x : AVals sg_laws_toTeamS) (kf : Ret → Option Ret) : F_laws_toTeamS N x kf = peFunc h_laws_toTeamS (Orc.of (es_laws_toTeamS N)) (L_laws_toTeamS N N) Tryz.f51 (ashape sg_laws_toTeamS x) kf := by kernel_rfl
theorem sd_laws_toTeamS (N : Nat) : Sound Tryz.prog 51 (run_laws_toTeamS N) := fun_ok2 (hh := h_laws_toTeamS) mixed tab_ok (es := es_laws_toTeamS N) ⟨sd_laws_toTeam N, trivial⟩ (fn := Tryz.f51) (body := body_laws_toTeamS) (by kernel_rfl) (by kernel_rfl) (by kernel_rfl) (by kernel_rfl) (by kernel_rfl) (Lf := L_laws_toTeamS N) (L0_laws_toTeamS N) ls_laws_toTeamS (round_cons (key := 3) (ks := ks_laws_toTeamS_l3) (by kernel_rfl) (by kernel_rfl) (rd_laws_toTeamS_3 N) trivial) (N := N) (by kernel_rfl) (fn_laws_toTeamS N) (.inl (by kernel_rfl))
/-! laws_toJudge -/
noncomputable def h_laws_toJudge : Hint := { tab, hn := [], loops := [], outs := [], ords := [] }
noncomputable def sg_laws_toJudge : List AK := [.v tQIILIE .k]
noncomputable def F_laws_toJudge (N : Nat) (x : AVals sg_laws_toJudge) (kf : Ret → Option Ret) : Option Ret := laws_toJudge N x.1 (fun r0 => kf ⟨[⟨tQIILIE, (.p .k (.p .k (.o 3 none .k))), r0⟩], []⟩)
noncomputable def run_laws_toJudge (N : Nat) := runOf sg_laws_toJudge (F_laws_toJudge N)
noncomputable def es_laws_toJudge (N : Nat) : List Entry := [⟨54, [.val], (run_laws_toIntS N)⟩]
noncomputable def body_laws_toJudge : Code := match Tryz.f131.body with | some c => c | none => .skip
noncomputable def L_laws_toJudge (N n : Nat) (key : Nat) (S : St) (K : Ks) : Option Ret := none
theorem L0_laws_toJudge (N key : Nat) (S : St) (K : Ks) : L_laws_toJudge N 0 key S K = none := rfl
theorem ls_laws_toJudge : loopsIn body_laws_toJudge = [] := by kernel_rfl
theorem fn_laws_toJudge (N : Nat) (x : AVals sg_laws_toJudge) (kf : Ret → Option Ret) : F_laws_toJudge N x kf = peFunc h_laws_toJudge (Orc.of (es_laws_toJudge N)) (L_laws_toJudge N N) Tryz.f131 (ashape sg_laws_toJudge x) kf := by kernel_rfl
theorem sd_laws_toJudge (N : Nat) : Sound Tryz.prog 131 (run_laws_toJudge N) := fun_ok2 (hh := h_laws_toJudge) mixed tab_ok (es := es_laws_toJudge N) ⟨sd_laws_toIntS N, trivial⟩ (fn := Tryz.f131) (body := body_laws_toJudge) (by kernel_rfl) (by kernel_rfl) (by kernel_rfl) (by kernel_rfl) (by kernel_rfl) (Lf := L_laws_toJudge N) (L0_laws_toJudge N) ls_laws_toJudge trivial (N := N) (by kernel_rfl) (fn_laws_toJudge N) (.inl (by kernel_rfl))
/-! laws_toJudgeS -/
noncomputable def ks_laws_toJudgeS_l3 : List Kd := [.v (.sl tQIILIE) .k, dK, dK, .v (.sl tQIILIE) (.o 97 none (.p .k (.p .k (.o 3 none .k)))), .v (.int .i64) .k, dK, dK, dK, dK, dK, dK, dK, dK, dK, dK, dK, dK, dK, dK, dK, dK, dK, dK]
noncomputable def ko_laws_toJudgeS_l3_0 : List Kd := [dK, dK, dK, .v (.sl tQIILIE) (.o 97 none (.p .k (.p .k (.o 3 none .k)))), dK, dK, dK, dK, dK, dK, dK, dK, dK, dK, dK, dK, dK, dK, dK, dK, dK, dK, dK]
noncomputable def h_laws_toJudgeS : Hint := { tab, hn := [], loops := [(3, ks_laws_toJudgeS_l3)], outs := [(3, 2, ko_laws_toJudgeS_l3_0)], ords := [] }
noncomputable def sg_laws_toJudgeS : List AK := [.v (.sl tQIILIE) .k]
noncomputable def F_laws_toJudgeS (N : Nat) (x : AVals sg_laws_toJudgeS) (kf : Ret → Option Ret) : Option Ret := laws_toJudgeS N x.1 (fun r0 => kf ⟨[⟨(.sl tQIILIE), (.o 97 none (.p .k (.p .k (.o 3 none .k)))), r0⟩], []⟩)
noncomputable def run_laws_toJudgeS (N : Nat) := runOf sg_laws_toJudgeS (F_laws_toJudgeS N)
noncomputable def es_laws_toJudgeS (N : Nat) : List Entry := [⟨131, [.val], (run_laws_toJudge N)⟩]
noncomputable def body_laws_toJudgeS : Code := match Tryz.f52.body with | some c => c | none => .skip
noncomputable def L_laws_toJudgeS (N n : Nat) (key : Nat) (S : St) (K : Ks) : Option Ret := bif Nat.beq key 3 then withVals ks_laws_toJudgeS_l3 S (fun x => laws_toJudgeS_l3 N x.1 n (fun z0 => K (.x 0) (shape ko_laws_toJudgeS_l3_0 (z0, ()))) x.2.1 x.2.2.1) else none
theorem L0_laws_toJudgeS (N key : Nat) (S : St) (K : Ks) : L_laws_toJudgeS N 0 key S K = none := (bif0 (withVals0 fun _ => rfl) rfl)
noncomputable def c_laws_toJudgeS_0 : Code := (loopsIn body_laws_toJudgeS).getD 0 .skip
theorem ls_laws_toJudgeS : loopsIn body_laws_toJudgeS = [c_laws_toJudgeS_0] := by kernel_rfl
theorem rd_laws_toJudgeS_3 (N n : Nat) (x : Vals ks_laws_toJudgeS_l3) (K : Ks) : L_laws_toJudgeS N (n + 1) 3 (shape ks_laws_toJudgeS_l3 x) (h_laws_toJudgeS.onOut 3 K) = peRound h_laws_toJudgeS (Orc.of (es_laws_toJudgeS N)) (mixL (L_laws_toJudgeS N) N n 3) c_laws_toJudgeS_0 (shape ks_laws_toJudgeS_l3 x) (h_laws_toJudgeS.onOut 3 K) := by kernel_rfl
theorem fn_laws_toJudgeS (N : Nat) (x : AVals sg_laws_toJudgeS) (kf : Ret → Option Ret) : F_laws_toJudgeS N x kf = peFunc h_laws_toJudgeS (Orc.of (es_laws_toJudgeS N)) (L_laws_toJudgeS N N) Tryz.f52 (ashape sg_laws_toJudgeS x) kf := by kernel_rfl
theorem sd_laws_toJudgeS (N : Nat) : Sound Tryz.prog 52 (run_laws_toJudgeS N) := fun_ok2 (hh := h_laws_toJudgeS) mixed tab_ok (es := es_laws_toJudgeS N) ⟨sd_laws_toJudge N, trivial⟩ (fn := Tryz.f52) (body := body_laws_toJudgeS) (by kernel_rfl) (by kernel_rfl) (by kernel_rfl) (by kernel_rfl) (by kernel_rfl) (Lf := L_laws_toJudgeS N) (L0_laws_toJudgeS N) ls_laws_toJudgeS (round_cons (key := 3) (ks := ks_laws_toJudgeS_l3) (by kernel_rfl) (by kernel_rfl) (rd_laws_toJudgeS_3 N) trivial) (N := N) (by kernel_rfl) (fn_laws_toJudgeS N) (.inl (by kernel_rfl))
/-! laws_toPair -/
noncomputable def h_laws_toPair : Hint := { tab, hn := [], loops := [], outs := [], ords := [] }
noncomputable def sg_laws_toPair : List AK := [.v tQIIE .k]
noncomputable def F_laws_toPair (N : Nat) (x : AVals sg_laws_toPair) (kf : Ret → Option Ret) : Option Ret := laws_toPair N x.1 (fun r0 => kf ⟨[⟨tQIIE, .k, r0⟩], []⟩)
noncomputable def run_laws_toPair (N : Nat) := runOf sg_laws_toPair (F_laws_toPair N)
noncomputable def es_laws_toPair (N : Nat) : List Entry := []
noncomputable def body_laws_toPair : Code := match Tryz.f132.body with | some c => c | none => .skip
noncomputable def L_laws_toPair (N n : Nat) (key : Nat) (S : St) (K : Ks) : Option Ret := none
theorem L0_laws_toPair (N key : Nat) (S : St) (K : Ks) : L_laws_toPair N 0 key S K = none := rfl
theorem ls_laws_toPair : loopsIn body_laws_toPair = [] := by kernel_rfl
theorem fn_laws_toPair (N : Nat) (x : AVals sg_laws_toPair) (kf : Ret → Option Ret) : F_laws_toPair N x kf = peFunc h_laws_toPair (Orc.of (es_laws_toPair N)) (L_laws_toPair N N) Tryz.f132 (ashape sg_laws_toPair x) kf := by kernel_rfl
theorem sd_laws_toPair (N : Nat) : Sound Tryz.prog 132 (run_laws_toPair N) := fun_ok2 (hh := h_laws_toPair) mixed tab_ok (es := es_laws_toPair N) trivial (fn := Tryz.f132) (body := body_laws_toPair) (by kernel_rfl) (by kernel_rfl) (by kernel_rfl) (by kernel_rfl) (by kernel_rfl) (Lf := L_laws_toPair N) (L0_laws_toPair N) ls_laws_toPair trivial (N := N) (by kernel_rfl) (fn_laws_toPair N) (.inl (by kernel_rfl))
/-! laws_toPairS -/
noncomputable def ks_laws_toPairS_l3 : List Kd := [.v (.sl tQIIE) .k, dK, dK, .v (.sl tQIIE) (.o 107 none .k), .v (.int .i64) .k, dK, dK, dK, dK, dK, dK, dK, dK, dK, dK, dK, dK, dK, dK, dK, dK, dK, dK]
noncomputable def ko_laws_toPairS_l3_0 : List Kd := [dK, dK, dK, .v (.sl tQIIE) (.o 107 none .k), dK, dK, dK, dK, dK, dK, dK, dK, dK, dK, dK, dK, dK, dK, dK, dK, dK, dK, dK]
noncomputable def h_laws_toPairS : Hint := { tab, hn := [], loops := [(3, ks_laws_toPairS_l3)], outs := [(3, 2, ko_laws_toPairS_l3_0)], ords := [] }
noncomputable def sg_laws_toPairS : List AK := [.v (.sl tQIIE) .k]
noncomputable def F_laws_toPairS (N : Nat) (x : AVals sg_laws_toPairS) (kf : Ret → Option Ret) : Option Ret := laws_toPairS N x.1 (fun r0 => kf ⟨[⟨(.sl tQIIE), (.o 107 none .k), r0⟩], []⟩)
noncomputable def run_laws_toPairS (N : Nat) := runOf sg_laws_toPairS (F_laws_toPairS N)
noncomputable def es_laws_toPairS (N : Nat) : List Entry := [⟨132, [.val], (run_laws_toPair N)⟩]
noncomputable def body_laws_toPairS : Code := match Tryz.f53.body with | some c => c | none => .skip
noncomputable def L_laws_toPairS (N n : Nat) (key : Nat) (S : St) (K : Ks) : Option Ret := bif Nat.beq key 3 then withVals ks_laws_toPairS_l3 S (fun x => laws_toPairS_l3 N x.1 n (fun z0 => K (.x 0) (shape ko_laws_toPairS_l3_0 (z0, ()))) x.2.1 x.2.2.1) else none
theorem L0_laws_toPairS (N key : Nat) (S : St) (K : Ks) : L_laws_toPairS N 0 key S K = none := (bif0 (withVals0 fun _ => rfl) rfl)
noncomputable def c_laws_toPairS_0 : Code := (loopsIn body_laws_toPairS).getD 0 .skip
theorem ls_laws_toPairS : loopsIn body_laws_toPairS = [c_laws_toPairS_0] := by kernel_rfl
theorem rd_laws_toPairS_3 (N n : Nat) (x : Vals ks_laws_toPairS_l3) (K : Ks) : L_laws_toPairS N (n + 1) 3 (shape ks_laws_toPairS_l3 x) (h_laws_toPairS.onOut 3 K) = peRound h_laws_toPairS (Orc.of (es_laws_toPairS N)) (mixL (L_laws_toPairS N) N n 3) c_laws_toPairS_0 (shape ks_laws_toPairS_l3 x) (h_laws_toPairS.onOut 3 K) := by kernel_rfl
theorem fn_laws_toPairS (N : Nat) (x : AVals sg_laws_toPairS) (kf : Ret → Option Ret) : F_laws_toPairS N x kf = peFunc h_laws_toPairS (Orc.of (es_laws_toPairS N)) (L_laws_toPairS N N) Tryz.f53 (ashape sg_laws_toPairS x) kf := by kernel_rfl
theorem sd_laws_toPairS (N : Nat) : Sound Tryz.prog 53 (run_laws_toPairS N) := fun_ok2 (hh := h_laws_toPairS) mixed tab_ok (es := es_laws_toPairS N) ⟨sd_laws_toPair N, trivial⟩ (fn := Tryz.f53) (body := body_laws_toPairS) (by kernel_rfl) (by kernel_rfl) (by kernel_rfl) (by kernel_rfl) (by kernel_rfl) (Lf := L_laws_toPairS N) (L0_laws_toPairS N) ls_laws_toPairS (round_cons (key := 3) (ks := ks_laws_toPairS_l3) (by kernel_rfl) (by kernel_rfl) (rd_laws_toPairS_3 N) trivial) (N := N) (by kernel_rfl) (fn_laws_toPairS N) (.inl (by kernel_rfl))
/-! laws_toBallot -/
noncomputable def h_laws_toBallot : Hint := { tab, hn := [], loops := [], outs := [], ords := [] }
noncomputable def sg_laws_toBallot : List AK := [.v tQIIIE .k]
noncomputable def F_laws_toBallot (N : Nat) (x : AVals sg_laws_toBallot) (kf : Ret → Option Ret) : Option Ret := laws_toBallot N x.1 (fun r0 => kf ⟨[⟨tQIIIE, .k, r0⟩], []⟩)
noncomputable def run_laws_toBallot (N : Nat) := runOf sg_laws_toBallot (F_laws_toBallot N)
noncomputable def es_laws_toBallot (N : Nat) : List Entry := []
noncomputable def body_laws_toBallot : Code := match Tryz.f133.body with | some c => c | none => .skip
noncomputable def L_laws_toBallot (N n : Nat) (key : Nat) (S : St) (K : Ks) : Option Ret := none
theorem L0_laws_toBallot (N key : Nat) (S : St) (K : Ks) : L_laws_toBallot N 0 key S K = none := rfl
theorem ls_laws_toBallot : loopsIn body_laws_toBallot = [] := by kernel_rfl
theorem fn_laws_toBallot (N : Nat) (x : AVals sg_laws_toBallot) (kf : Ret → Option Ret) : F_laws_toBallot N x kf = peFunc h_laws_toBallot (Orc.of (es_laws_toBallot N)) (L_laws_toBallot N N) Tryz.f133 (ashape sg_laws_toBallot x) kf := by kernel_rfl
theorem sd_laws_toBallot (N : Nat) : Sound Tryz.prog 133 (run_laws_toBallot N) := fun_ok2 (hh := h_laws_toBallot) mixed tab_ok (es := es_laws_toBallot N) trivial (fn := Tryz.f133) (body := body_laws_toBallot) (by kernel_rfl) (by kernel_rfl) (by kernel_rfl) (by kernel_rfl) (by kernel_rfl) (Lf := L_laws_toBallot N) (L0_laws_toBallot N) ls_laws_toBallot trivial (N := N) (by kernel_rfl) (fn_laws_toBallot N) (.inl (by kernel_rfl))
/-! laws_toBallotS -/
noncomputable def ks_laws_toBallotS_l3 : List Kd := [.v (.sl tQIIIE) .k, dK, dK, .v (.sl tQIIIE) (.o 71 none .k), .v (.int .i64) .k, dK, dK, dK, dK, dK, dK, dK, dK, dK, dK, dK, dK, dK, dK, dK, dK, dK, dK]
noncomputable def ko_laws_toBallotS_l3_0 : List Kd := [dK, dK, dK, .v (.sl tQIIIE) (.o 71 none .k), dK, dK, dK, dK, dK, dK, dK, dK, dK, dK, dK, dK, dK, dK, dK, dK, dK, dK, dK]
noncomputable def h_laws_toBallotS : Hint := { tab, hn := [], loops := [(3, ks_laws_toBallotS_l3)], outs := [(3, 2, ko_laws_toBallotS_l3_0)], ords := [] }
noncomputable def sg_laws_toBallotS : List AK := [.v (.sl tQIIIE) .k]
noncomputable def F_laws_toBallotS (N : Nat) (x : AVals sg_laws_toBallotS) (kf : Ret → Option Ret) : Option Ret := laws_toBallotS N x.1 (fun r0 => kf ⟨[⟨(.sl tQIIIE), (.o 71 none .k), r0⟩], []⟩)
noncomputable def run_laws_toBallotS (N : Nat) := runOf sg_laws_toBallotS (F_laws_toBallotS N)
noncomputable def es_laws_toBallotS (N : Nat) : List Entry := [⟨133, [.val], (run_laws_toBallot N)⟩]
noncomputable def body_laws_toBallotS : Code := match Tryz.f55.body with | some c => c | none => .skip
noncomputable def L_laws_toBallotS (N n : Nat) (key : Nat) (S : St) (K : Ks) : Option Ret := bif Nat.beq key 3 then withVals ks_laws_toBallotS_l3 S (fun x => laws_toBallotS_l3 N x.1 n (fun z0 => K (.x 0) (shape ko_laws_toBallotS_l3_0 (z0, ()))) x.2.1 x.2.2.1) else none
theorem L0_laws_toBallotS (N key : Nat) (S : St) (K : Ks) : L_laws_toBallotS N 0 key S K = none := (bif0 (withVals0 fun _ => rfl) rfl)
noncomputable def c_laws_toBallotS_0 : Code := (loopsIn body_laws_toBallotS).getD 0 .skip
theorem ls_laws_toBallotS : loopsIn body_laws_toBallotS = [c_laws_toBallotS_0] := by kernel_rfl
theorem rd_laws_toBallotS_3 (N n : Nat) (x : Vals ks_laws_toBallotS_l3) (K : Ks) : L_laws_toBallotS N (n + 1) 3 (shape ks_laws_toBallotS_l3 x) (h_laws_toBallotS.onOut 3 K) = peRound h_laws_toBallotS (Orc.of (es_laws_toBallotS N)) (mixL (L_laws_toBallotS N) N n 3) c_laws_toBallotS_0 (shape ks_laws_toBallotS_l3 x) (h_laws_toBallotS.onOut 3 K) := by kernel_rfl
theorem fn_laws_toBallotS (N : Nat) (x : AVals sg_laws_toBallotS) (kf : Ret → Option Ret) : F_laws_toBallotS N x kf = peFunc h_laws_toBallotS (Orc.of (es_laws_toBallotS N)) (L_laws_toBallotS N N) Tryz.f55 (ashape sg_laws_toBallotS x) kf := by kernel_rfl
theorem sd_laws_toBallotS (N : Nat) : Sound Tryz.prog 55 (run_laws_toBallotS N) := fun_ok2 (hh := h_laws_toBallotS) mixed tab_ok (es := es_laws_toBallotS N) ⟨sd_laws_toBallot N, trivial⟩ (fn := Tryz.f55) (body := body_laws_toBallotS) (by kernel_rfl) (by kernel_rfl) (by kernel_rfl) (by kernel_rfl) (by kernel_rfl) (Lf := L_laws_toBallotS N) (L0_laws_toBallotS N) ls_laws_toBallotS (round_cons (key := 3) (ks := ks_laws_toBallotS_l3) (by kernel_rfl) (by kernel_rfl) (rd_laws_toBallotS_3 N) trivial) (N := N) (by kernel_rfl) (fn_laws_toBallotS N) (.inl (by kernel_rfl))
/-! laws_toLine -/
noncomputable def h_laws_toLine : Hint := { tab, hn := [], loops := [], outs := [], ords := [] }
noncomputable def sg_laws_toLine : List AK := [.v tQIIIIE .k]
noncomputable def F_laws_toLine (N : Nat) (x : AVals sg_laws_toLine) (kf : Ret → Option Ret) : Option Ret := laws_toLine N x.1 (fun r0 => kf ⟨[⟨tQIIIIE, .k, r0⟩], []⟩)
noncomputable def run_laws_toLine (N : Nat) := runOf sg_laws_toLine (F_laws_toLine N)
noncomputable def es_laws_toLine (N : Nat) : List Entry := []
noncomputable def body_laws_toLine : Code := match Tryz.f134.body with | some c => c | none => .skip
noncomputable def L_laws_toLine (N n : Nat) (key : Nat) (S : St) (K : Ks) : Option Ret := none
theorem L0_laws_toLine (N key : Nat) (S : St) (K : Ks) : L_laws_toLine N 0 key S K = none := rfl
theorem ls_laws_toLine : loopsIn body_laws_toLine = [] := by kernel_rfl
theorem fn_laws_toLine (N : Nat) (x : AVals sg_laws_toLine) (kf : Ret → Option Ret) : F_laws_toLine N x kf = peFunc h_laws_toLine (Orc.of (es_laws_toLine N)) (L_laws_toLine N N) Tryz.f134 (ashape sg_laws_toLine x) kf := by kernel_rfl
theorem sd_laws_toLine (N : Nat) : Sound Tryz.prog 134 (run_laws_toLine N) := fun_ok2 (hh := h_laws_toLine) mixed tab_ok (es := es_laws_toLine N) trivial (fn := Tryz.f134) (body := body_laws_toLine) (by kernel_rfl) (by kernel_rfl) (by kernel_rfl) (by kernel_rfl) (by kernel_rfl) (Lf := L_laws_toLine N) (L0_laws_toLine N) ls_laws_toLine trivial (N := N) (by kernel_rfl) (fn_laws_toLine N) (.inl (by kernel_rfl))
/-! laws_toLineS -/
noncomputable def ks_laws_toLineS_l3 : List Kd := [.v (.sl tQIIIIE) .k, dK, dK, .v (.sl tQIIIIE) (.o 126 none .k), .v (.int .i64) .k, dK, dK, dK, dK, dK, dK, dK, dK, dK, dK, dK, dK, dK, dK, dK, dK, dK, dK]
noncomputable def ko_laws_toLineS_l3_0 : List Kd := [dK, dK, dK, .v (.sl tQIIIIE) (.o 126 none .k), dK, dK, dK, dK, dK, dK, dK, dK, dK, dK, dK, dK, dK, dK, dK, dK, dK, dK, dK]
noncomputable def h_laws_toLineS : Hint := { tab, hn := [], loops := [(3, ks_laws_toLineS_l3)], outs := [(3, 2, ko_laws_toLineS_l3_0)], ords := [] }
noncomputable def sg_laws_toLineS : List AK := [.v (.sl tQIIIIE) .k]
noncomputable def F_laws_toLineS (N : Nat) (x : AVals sg_laws_toLineS) (kf : Ret → Option Ret) : Option Ret := laws_toLineS N x.1 (fun r0 => kf ⟨[⟨(.sl tQIIIIE), (.o 126 none .k), r0⟩], []⟩)
noncomputable def run_laws_toLineS (N : Nat) := runOf sg_laws_toLineS (F_laws_toLineS N)
noncomputable def es_laws_toLineS (N : Nat) : List Entry := [⟨134, [.val], (run_laws_toLine N)⟩]
noncomputable def body_laws_toLineS : Code := match Tryz.f56.body with | some c => c | none => .skip
noncomputable def L_laws_toLineS (N n : Nat) (key : Nat) (S : St) (K : Ks) : Option Ret := bif Nat.beq key 3 then withVals ks_laws_toLineS_l3 S (fun x => laws_toLineS_l3 N x.1 n (fun z0 => K (.x 0) (shape ko_laws_toLineS_l3_0 (z0, ()))) x.2.1 x.2.2.1) else none
theorem L0_laws_toLineS (N key : Nat) (S : St) (K : Ks) : L_laws_toLineS N 0 key S K = none := (bif0 (withVals0 fun _ => rfl) rfl)
noncomputable def c_laws_toLineS_0 : Code := (loopsIn body_laws_toLineS).getD 0 .skip
theorem ls_laws_toLineS : loopsIn body_laws_toLineS = [c_laws_toLineS_0] := by kernel_rfl
theorem rd_laws_toLineS_3 (N n : Nat) (x : Vals ks_laws_toLineS_l3) (K : Ks) : L_laws_toLineS N (n + 1) 3 (shape ks_laws_toLineS_l3 x) (h_laws_toLineS.onOut 3 K) = peRound h_laws_toLineS (Orc.of (es_laws_toLineS N)) (mixL (L_laws_toLineS N) N n 3) c_laws_toLineS_0 (shape ks_laws_toLineS_l3 x) (h_laws_toLineS.onOut 3 K) := by kernel_rfl
theorem fn_laws_toLineS (N : Nat) (x : AVals sg_laws_toLineS) (kf : Ret → Option Ret) : F_laws_toLineS N x kf = peFunc h_laws_toLineS (Orc.of (es_laws_toLineS N)) (L_laws_toLineS N N) Tryz.f56 (ashape sg_laws_toLineS x) kf := by kernel_rfl
theorem sd_laws_toLineS (N : Nat) : Sound Tryz.prog 56 (run_laws_toLineS N) := fun_ok2 (hh := h_laws_toLineS) mixed tab_ok (es := es_laws_toLineS N) ⟨sd_laws_toLine N, trivial⟩ (fn := Tryz.f56) (body := body_laws_toLineS) (by kernel_rfl) (by kernel_rfl) (by kernel_rfl) (by kernel_rfl) (by kernel_rfl) (Lf := L_laws_toLineS N) (L0_laws_toLineS N) ls_laws_toLineS (round_cons (key := 3) (ks := ks_laws_toLineS_l3) (by kernel_rfl) (by kernel_rfl) (rd_laws_toLineS_3 N) trivial) (N := N) (by kernel_rfl) (fn_laws_toLineS N) (.inl (by kernel_rfl))
/-! laws_toClub -/
noncomputable def h_laws_toClub : Hint := { tab, hn := [], loops := [], outs := [], ords := [] }
noncomputable def sg_laws_toClub : List AK := [.v tQLQIIIIILIELQIILIELQIIELILQIIIELQIIIIEIE .k]
noncomputable def F_laws_toClub (N : Nat) (x : AVals sg_laws_toClub) (kf : Ret → Option Ret) : Option Ret := laws_toClub N x.1 (fun r0 => kf ⟨[⟨tQLQIIIIILIELQIILIELQIIELILQIIIELQIIIIEIE, (.p (.o 92 none (.p .k (.p .k (.p .k (.p .k (.p .k (.o 3 none .k))))))) (.p (.o 97 none (.p .k (.p .k (.o 3 none .k)))) (.p (.o 107 none .k) (.p (.o 3 none .k) (.p (.o 71 none .k) (.p (.o 126 none .k) .k)))))), r0⟩], []⟩)
noncomputable def run_laws_toClub (N : Nat) := runOf sg_laws_toClub (F_laws_toClub N)
noncomputable def es_laws_toClub (N : Nat) : List Entry := [⟨51, [.val], (run_laws_toTeamS N)⟩, ⟨52, [.val], (run_laws_toJudgeS N)⟩, ⟨53, [.val], (run_laws_toPairS N)⟩, ⟨54, [.val], (run_laws_toIntS N)⟩, ⟨55, [.val], (run_laws_toBallotS N)⟩, ⟨56, [.val], (run_laws_toLineS N)⟩]
noncomputable def body_laws_toClub : Code := match Tryz.f12.body with | some c => c | none => .skip
noncomputable def L_laws_toClub (N n : Nat) (key : Nat) (S : St) (K : Ks) : Option Ret := none
theorem L0_laws_toClub (N key : Nat) (S : St) (K : Ks) : L_laws_toClub N 0 key S K = none := rfl
theorem ls_laws_toClub : loopsIn body_laws_toClub = [] := by kernel_rfl
theorem fn_laws_toClub (N : Nat) (x : AVals sg_laws_toClub) (kf : Ret → Option Ret) : F_laws_toClub N x kf = peFunc h_laws_toClub (Orc.of (es_laws_toClub N)) (L_laws_toClub N N) Tryz.f12 (ashape sg_laws_toClub x) kf := by kernel_rfl
theorem sd_laws_toClub (N : Nat) : Sound Tryz.prog 12 (run_laws_toClub N) := fun_ok2 (hh := h_laws_toClub) mixed tab_ok (es := es_laws_toClub N) ⟨sd_laws_toTeamS N, ⟨sd_laws_toJudgeS N, ⟨sd_laws_toPairS N, ⟨sd_laws_toIntS N, ⟨sd_laws_toBallotS N, ⟨sd_laws_toLineS N, trivial⟩⟩⟩⟩⟩⟩ (fn := Tryz.f12) (body := body_laws_toClub) (by kernel_rfl) (by kernel_rfl) (by kernel_rfl) (by kernel_rfl) (by kernel_rfl) (Lf := L_laws_toClub N) (L0_laws_toClub N) ls_laws_toClub trivial (N := N) (by kernel_rfl) (fn_laws_toClub N) (.inl (by kernel_rfl))
/-! spec_l19Copy -/
noncomputable def ks_spec_l19Copy_l3 : List Kd := [.v (.sl tQIIIIILIE) .k, dK, dK, .v (.sl tQIIIIILIE) (.o 92 none (.p .k (.p .k (.p .k (.p .k (.p .k (.o 3 none .k))))))), .v (.int .i64) .k, dK, dK, dK, dK, dK, dK, dK, dK, dK, dK, dK, dK, dK, dK, dK, dK, dK, dK, dK, dK, dK, dK]
noncomputable def ko_spec_l19Copy_l3_0 : List Kd := [dK, dK, dK, .v (.sl tQIIIIILIE) (.o 92 none (.p .k (.p .k (.p .k (.p .k (.p .k (.o 3 none .k))))))), dK, dK, dK, dK, dK, dK, dK, dK, dK, dK, dK, dK, dK, dK, dK, dK, dK, dK, dK, dK, dK, dK, dK]
noncomputable def h_spec_l19Copy : Hint := { tab, hn := [(6, (.p .k (.p .k (.p .k (.p .k (.p .k (.o 3 none .k)))))))], loops := [(3, ks_spec_l19Copy_l3)], outs := [(3, 2, ko_spec_l19Copy_l3_0)], ords := [] }
noncomputable def sg_spec_l19Copy : List AK := [.v (.sl tQIIIIILIE) .k]
noncomputable def F_spec_l19Copy (N : Nat) (x : AVals sg_spec_l19Copy) (kf : Ret → Option Ret) : Option Ret := spec_l19Copy N x.1 (fun r0 => kf ⟨[⟨(.sl tQIIIIILIE), (.o 92 none (.p .k (.p .k (.p .k (.p .k (.p .k (.o 3 none .k))))))), r0⟩], []⟩)
noncomputable def run_spec_l19Copy (N : Nat) := runOf sg_spec_l19Copy (F_spec_l19Copy N)
noncomputable def es_spec_l19Copy (N : Nat) : List Entry := []
noncomputable def body_spec_l19Copy : Code := match Tryz.f80.body with | some c => c | none => .skip
noncomputable def L_spec_l19Copy (N n : Nat) (key : Nat) (S : St) (K : Ks) : Option Ret := bif Nat.beq key 3 then withVals ks_spec_l19Copy_l3 S (fun x => spec_l19Copy_l3 x.1 n (fun z0 => K (.x 0) (shape ko_spec_l19Copy_l3_0 (z0, ()))) x.2.1 x.2.2.1) else none
theorem L0_spec_l19Copy (N key : Nat) (S : St) (K : Ks) : L_spec_l19Copy N 0 key S K = none := (bif0 (withVals0 fun _ => rfl) rfl)
noncomputable def c_spec_l19Copy_0 : Code := (loopsIn body_spec_l19Copy).getD 0 .skip
theorem ls_spec_l19Copy : loopsIn body_spec_l19Copy = [c_spec_l19Copy_0] := by kernel_rfl
theorem rd_spec_l19Copy_3 (N n : Nat) (x : Vals ks_spec_l19Copy_l3) (K : Ks) : L_spec_l19Copy N (n + 1) 3 (shape ks_spec_l19Copy_l3 x) (h_spec_l19Copy.onOut 3 K) = peRound h_spec_l19Copy (Orc.of (es_spec_l19Copy N)) (mixL (L_spec_l19Copy N) N n 3) c_spec_l19Copy_0 (shape ks_spec_l19Copy_l3 x) (h_spec_l19Copy.onOut 3 K) := by kernel_rfl
theorem fn_spec_l19Copy (N : Nat) (x : AVals sg_spec_l19Copy) (kf : Ret → Option Ret) : F_spec_l19Copy N x kf = peFunc h_spec_l19Copy (Orc.of (es_spec_l19Copy N)) (L_spec_l19Copy N N) Tryz.f80 (ashape sg_spec_l19Copy x) kf := by kernel_rfl
theorem sd_spec_l19Copy (N : Nat) : Sound Tryz.prog 80 (run_spec_l19Copy N) := fun_ok2 (hh := h_spec_l19Copy) mixed tab_ok (es := es_spec_l19Copy N) trivial (fn := Tryz.f80) (body := body_spec_l19Copy) (by kernel_rfl) (by kernel_rfl) (by kernel_rfl) (by kernel_rfl) (by kernel_rfl) (Lf := L_spec_l19Copy N) (L0_spec_l19Copy N) ls_spec_l19Copy (round_cons (key := 3) (ks := ks_spec_l19Copy_l3) (by kernel_rfl) (by kernel_rfl) (rd_spec_l19Copy_3 N) trivial) (N := N) (by kernel_rfl) (fn_spec_l19Copy N) (.inl (by kernel_rfl))
/-! spec_l33Judges -/
noncomputable def ks_spec_l33Judges_l3 : List Kd := [.v (.sl tQIILIE) .k, dK, dK, .v (.sl tQIILIE) (.o 97 none (.p .k (.p .k (.o 3 none .k)))), .v (.int .i64) .k, dK, dK, dK, dK, dK, dK, dK, dK, dK, dK, dK, dK, dK, dK, dK, dK, dK, dK, dK, dK, dK, dK]
noncomputable def ko_spec_l33Judges_l3_0 : List Kd := [dK, dK, dK, .v (.sl tQIILIE) (.o 97 none (.p .k (.p .k (.o 3 none .k)))), dK, dK, dK, dK, dK, dK, dK, dK, dK, dK, dK, dK, dK, dK, dK, dK, dK, dK, dK, dK, dK, dK, dK]
noncomputable def h_spec_l33Judges : Hint := { tab, hn := [(6, (.p .k (.p .k (.o 3 none .k))))], loops := [(3, ks_spec_l33Judges_l3)], outs := [(3, 2, ko_spec_l33Judges_l3_0)], ords := [] }
noncomputable def sg_spec_l33Judges : List AK := [.v (.sl tQIILIE) .k]
noncomputable def F_spec_l33Judges (N : Nat) (x : AVals sg_spec_l33Judges) (kf : Ret → Option Ret) : Option Ret := spec_l33Judges N x.1 (fun r0 => kf ⟨[⟨(.sl tQIILIE), (.o 97 none (.p .k (.p .k (.o 3 none .k)))), r0⟩], []⟩)
noncomputable def run_spec_l33Judges (N : Nat) := runOf sg_spec_l33Judges (F_spec_l33Judges N)
noncomputable def es_spec_l33Judges (N : Nat) : List Entry := []
noncomputable def body_spec_l33Judges : Code := match Tryz.f83.body with | some c => c | none => .skip
noncomputable def L_spec_l33Judges (N n : Nat) (key : Nat) (S : St) (K : Ks) : Option Ret := bif Nat.beq key 3 then withVals ks_spec_l33Judges_l3 S (fun x => spec_l33Judges_l3 x.1 n (fun z0 => K (.x 0) (shape ko_spec_l33Judges_l3_0 (z0, ()))) x.2.1 x.2.2.1) else none
theorem L0_spec_l33Judges (N key : Nat) (S : St) (K : Ks) : L_spec_l33Judges N 0 key S K = none := (bif0 (withVals0 fun _ => rfl) rfl)
noncomputable def c_spec_l33Judges_0 : Code := (loopsIn body_spec_l33Judges).getD 0 .skip
theorem ls_spec_l33Judges : loopsIn body_spec_l33Judges = [c_spec_l33Judges_0] := by kernel_rfl
theorem rd_spec_l33Judges_3 (N n : Nat) (x : Vals ks_spec_l33Judges_l3) (K : Ks) : L_spec_l33Judges N (n + 1) 3 (shape ks_spec_l33Judges_l3 x) (h_spec_l33Judges.onOut 3 K) = peRound h_spec_l33Judges (Orc.of (es_spec_l33Judges N)) (mixL (L_spec_l33Judges N) N n 3) c_spec_l33Judges_0 (shape ks_spec_l33Judges_l3 x) (h_spec_l33Judges.onOut 3 K) := by kernel_rfl
theorem fn_spec_l33Judges (N : Nat) (x : AVals sg_spec_l33Judges) (kf : Ret → Option Ret) : F_spec_l33Judges N x kf = peFunc h_spec_l33Judges (Orc.of (es_spec_l33Judges N)) (L_spec_l33Judges N N) Tryz.f83 (ashape sg_spec_l33Judges x) kf := by kernel_rfl
theorem sd_spec_l33Judges (N : Nat) : Sound Tryz.prog 83 (run_spec_l33Judges N) := fun_ok2 (hh := h_spec_l33Judges) mixed tab_ok (es := es_spec_l33Judges N) trivial (fn := Tryz.f83) (body := body_spec_l33Judges) (by kernel_rfl) (by kernel_rfl) (by kernel_rfl) (by kernel_rfl) (by kernel_rfl) (Lf := L_spec_l33Judges N) (L0_spec_l33Judges N) ls_spec_l33Judges (round_cons (key := 3) (ks := ks_spec_l33Judges_l3) (by kernel_rfl) (by kernel_rfl) (rd_spec_l33Judges_3 N) trivial) (N := N) (by kernel_rfl) (fn_spec_l33Judges N) (.inl (by kernel_rfl))
/-! spec_l33Copy -/
noncomputable def h_spec_l33Copy : Hint := { tab, hn := [], loops := [], outs := [], ords := [(1, (OT.seq [0, 1, 3, 4, 7, 8, 11, 15, 19, 22] (.any [2, 5, 6, 9, 10, 12, 13, 14, 16, 17, 18, 20, 21, 23] (OT.seq [24, 25] .done))))] }
noncomputable def sg_spec_l33Copy : List AK := [.v tQLQIIIIILIELQIILIELQIIELILQIIIELQIIIIEIE .k]
noncomputable def F_spec_l33Copy (N : Nat) (x : AVals sg_spec_l33Copy) (kf : Ret → Option Ret) : Option Ret := spec_l33Copy N x.1 (fun r0 => kf ⟨[⟨tQLQIIIIILIELQIILIELQIIELILQIIIELQIIIIEIE, (.p (.o 92 none (.p .k (.p .k (.p .k (.p .k (.p .k (.o 3 none .k))))))) (.p (.o 97 none (.p .k (.p .k (.o 3 none .k)))) (.p (.o 107 none .k) (.p (.o 3 none .k) (.p (.o 71 none .k) (.p (.o 126 none .k) .k)))))), r0⟩], []⟩)
noncomputable def run_spec_l33Copy (N : Nat) := runOf sg_spec_l33Copy (F_spec_l33Copy N)
noncomputable def es_spec_l33Copy (N : Nat) : List Entry := [⟨80, [.val], (run_spec_l19Copy N)⟩, ⟨83, [.val], (run_spec_l33Judges N)⟩]
noncomputable def body_spec_l33Copy : Code := match Tryz.f46.body with | some c => c | none => .skip
noncomputable def L_spec_l33Copy (N n : Nat) (key : Nat) (S : St) (K : Ks) : Option Ret := none
theorem L0_spec_l33Copy (N key : Nat) (S : St) (K : Ks) : L_spec_l33Copy N 0 key S K = none := rfl
theorem ls_spec_l33Copy : loopsIn body_spec_l33Copy = [] := by kernel_rfl
theorem fn_spec_l33Copy (N : Nat) (x : AVals sg_spec_l33Copy) (kf : Ret → Option Ret) : F_spec_l33Copy N x kf = peFunc h_spec_l33Copy (Orc.of (es_spec_l33Copy N)) (L_spec_l33Copy N N) Tryz.f46 (ashape sg_spec_l33Copy x) kf := by kernel_rfl
theorem sd_spec_l33Copy (N : Nat) : Sound Tryz.prog 46 (run_spec_l33Copy N) := fun_ok2 (hh := h_spec_l33Copy) mixed tab_ok (es := es_spec_l33Copy N) ⟨sd_spec_l19Copy N, ⟨sd_spec_l33Judges N, trivial⟩⟩ (fn := Tryz.f46) (body := body_spec_l33Copy) (by kernel_rfl) (by kernel_rfl) (by kernel_rfl) (by kernel_rfl) (by kernel_rfl) (Lf := L_spec_l33Copy N) (L0_spec_l33Copy N) ls_spec_l33Copy trivial (N := N) (by kernel_rfl) (fn_spec_l33Copy N) (.inl (by kernel_rfl))
/-! spec_l1In -/
noncomputable def h_spec_l1In : Hint := { tab, hn := [], loops := [], outs := [], ords := [] }
noncomputable def sg_spec_l1In : List AK := [.v (.int .i64) .k, .v (.int .i64) .k, .v (.int .i64) .k]
noncomputable def F_spec_l1In (N : Nat) (x : AVals sg_spec_l1In) (kf : Ret → Option Ret) : Option Ret := spec_l1In N x.1 x.2.1 x.2.2.1 (fun r0 => kf ⟨[⟨.bool, .k, r0⟩], []⟩)
noncomputable def run_spec_l1In (N : Nat) := runOf sg_spec_l1In (F_spec_l1In N)
noncomputable def es_spec_l1In (N : Nat) : List Entry := []
noncomputable def body_spec_l1In : Code := match Tryz.f48.body with | some c => c | none => .skip
noncomputable def L_spec_l1In (N n : Nat) (key : Nat) (S : St) (K : Ks) : Option Ret := none
theorem L0_spec_l1In (N key : Nat) (S : St) (K : Ks) : L_spec_l1In N 0 key S K = none := rfl
theorem ls_spec_l1In : loopsIn body_spec_l1In = [] := by kernel_rfl
theorem fn_spec_l1In (N : Nat) (x : AVals sg_spec_l1In) (kf : Ret → Option Ret) : F_spec_l1In N x kf = peFunc h_spec_l1In (Orc.of (es_spec_l1In N)) (L_spec_l1In N N) Tryz.f48 (ashape sg_spec_l1In x) kf := by kernel_rfl
theorem sd_spec_l1In (N : Nat) : Sound Tryz.prog 48 (run_spec_l1In N) := fun_ok2 (hh := h_spec_l1In) mixed tab_ok (es := es_spec_l1In N) trivial (fn := Tryz.f48) (body := body_spec_l1In) (by kernel_rfl) (by kernel_rfl) (by kernel_rfl) (by kernel_rfl) (by kernel_rfl) (Lf := L_spec_l1In N) (L0_spec_l1In N) ls_spec_l1In trivial (N := N) (by kernel_rfl) (fn_spec_l1In N) (.inl (by kernel_rfl))
/-! spec_FindTeam -/
noncomputable def ks_spec_FindTeam_l2 : List Kd := [.v (.sl tQIIIIILIE) .k, .v (.int .i64) .k, dK, dK, dK, .v (.int .i64) .k, dK, dK, dK, dK, dK, dK, dK, dK, dK, dK, dK, dK, dK, dK]
noncomputable def ko_spec_FindTeam_l2_0 : List Kd := [dK, dK, dK, dK, dK, dK, dK, dK, dK, dK, dK, dK, dK, dK, dK, dK, dK, dK, dK, dK]
noncomputable def ko_spec_FindTeam_l2_1 : List Kd := [dK, dK, dK, dK, .v (.int .i64) .k, dK, dK, dK, dK, dK, dK, dK, dK, dK, dK, dK, dK, dK, dK, dK]
noncomputable def h_spec_FindTeam : Hint := { tab, hn := [], loops := [(2, ks_spec_FindTeam_l2)], outs := [(2, 2, ko_spec_FindTeam_l2_0), (2, 1, ko_spec_FindTeam_l2_1)], ords := [] }
noncomputable def sg_spec_FindTeam : List AK := [.v (.sl tQIIIIILIE) .k, .v (.int .i64) .k]
noncomputable def F_spec_FindTeam (N : Nat) (x : AVals sg_spec_FindTeam) (kf : Ret → Option Ret) : Option Ret := spec_FindTeam N x.1 x.2.1 (fun r0 => kf ⟨[⟨(.int .i64), .k, r0⟩], []⟩)
noncomputable def run_spec_FindTeam (N : Nat) := runOf sg_spec_FindTeam (F_spec_FindTeam N)
noncomputable def es_spec_FindTeam (N : Nat) : List Entry := []
noncomputable def body_spec_FindTeam : Code := match Tryz.f78.body with | some c => c | none => .skip
noncomputable def L_spec_FindTeam (N n : Nat) (key : Nat) (S : St) (K : Ks) : Option Ret := bif Nat.beq key 2 then withVals ks_spec_FindTeam_l2 S (fun x => spec_FindTeam_l2 x.1 x.2.1 n (K (.x 0) (shape ko_spec_FindTeam_l2_0 ())) (fun z0 => K .r (shape ko_spec_FindTeam_l2_1 (z0, ()))) x.2.2.1) else none
theorem L0_spec_FindTeam (N key : Nat) (S : St) (K : Ks) : L_spec_FindTeam N 0 key S K = none := (bif0 (withVals0 fun _ => rfl) rfl)
noncomputable def c_spec_FindTeam_0 : Code := (loopsIn body_spec_FindTeam).getD 0 .skip
theorem ls_spec_FindTeam : loopsIn body_spec_FindTeam = [c_spec_FindTeam_0] := by kernel_rfl
theorem rd_spec_FindTeam_2 (N n : Nat) (x : Vals ks_spec_FindTeam_l2) (K : Ks) : L_spec_FindTeam N (n + 1) 2 (shape ks_spec_FindTeam_l2 x) (h_spec_FindTeam.onOut 2 K) = peRound h_spec_FindTeam (Orc.of (es_spec_FindTeam N)) (mixL (L_spec_FindTeam N) N n 2) c_spec_FindTeam_0 (shape ks_spec_FindTeam_l2 x) (h_spec_FindTeam.onOut 2 K) := by kernel_rfl
theorem fn_spec_FindTeam (N : Nat) (x : AVals sg_spec_FindTeam) (kf : Ret → Option Ret) : F_spec_FindTeam N x kf = peFunc h_spec_FindTeam (Orc.of (es_spec_FindTeam N)) (L_spec_FindTeam N N) Tryz.f78 (ashape sg_spec_FindTeam x) kf := by kernel_rfl
theorem sd_spec_FindTeam (N : Nat) : Sound Tryz.prog 78 (run_spec_FindTeam N) := fun_ok2 (hh := h_spec_FindTeam) mixed tab_ok (es := es_spec_FindTeam N) trivial (fn := Tryz.f78) (body := body_spec_FindTeam) (by kernel_rfl) (by kernel_rfl) (by kernel_rfl) (by kernel_rfl) (by kernel_rfl) (Lf := L_spec_FindTeam N) (L0_spec_FindTeam N) ls_spec_FindTeam (round_cons (key := 2) (ks := ks_spec_FindTeam_l2) (by kernel_rfl) (by kernel_rfl) (rd_spec_FindTeam_2 N) trivial) (N := N) (by kernel_rfl) (fn_spec_FindTeam N) (.inl (by kernel_rfl))
/-! spec_l19Count -/
noncomputable def ks_spec_l19Count_l3 : List Kd := [.v (.sl (.int .i64)) .k, .v (.int .i64) .k, dK, dK, dK, .v (.int .i64) .k, .v (.int .i64) .k, dK, dK, dK, dK, dK, dK, dK, dK, dK, dK, dK, dK, dK, dK, dK]
noncomputable def ko_spec_l19Count_l3_0 : List Kd := [dK, dK, dK, dK, dK, .v (.int .i64) .k, dK, dK, dK, dK, dK, dK, dK, dK, dK, dK, dK, dK, dK, dK, dK, dK]
noncomputable def h_spec_l19Count : Hint := { tab, hn := [], loops := [(3, ks_spec_l19Count_l3)], outs := [(3, 2, ko_spec_l19Count_l3_0)], ords := [] }
noncomputable def sg_spec_l19Count : List AK := [.v (.sl (.int .i64)) .k, .v (.int .i64) .k]
noncomputable def F_spec_l19Count (N : Nat) (x : AVals sg_spec_l19Count) (kf : Ret → Option Ret) : Option Ret := spec_l19Count N x.1 x.2.1 (fun r0 => kf ⟨[⟨(.int .i64), .k, r0⟩], []⟩)
noncomputable def run_spec_l19Count (N : Nat) := runOf sg_spec_l19Count (F_spec_l19Count N)
noncomputable def es_spec_l19Count (N : Nat) : List Entry := []
noncomputable def body_spec_l19Count : Code := match Tryz.f177.body with | some c => c | none => .skip
noncomputable def L_spec_l19Count (N n : Nat) (key : Nat) (S : St) (K : Ks) : Option Ret := bif Nat.beq key 3 then withVals ks_spec_l19Count_l3 S (fun x => spec_l19Count_l3 x.1 x.2.1 n (fun z0 => K (.x 0) (shape ko_spec_l19Count_l3_0 (z0, ()))) x.2.2.1 x.2.2.2.1) else none
theorem L0_spec_l19Count (N key : Nat) (S : St) (K : Ks) : L_spec_l19Count N 0 key S K = none := (bif0 (withVals0 fun _ => rfl) rfl)
noncomputable def c_spec_l19Count_0 : Code := (loopsIn body_spec_l19Count).getD 0 .skip
theorem ls_spec_l19Count : loopsIn body_spec_l19Count = [c_spec_l19Count_0] := by kernel_rfl
theorem rd_spec_l19Count_3 (N n : Nat) (x : Vals ks_spec_l19Count_l3) (K : Ks) : L_spec_l19Count N (n + 1) 3 (shape ks_spec_l19Count_l3 x) (h_spec_l19Count.onOut 3 K) = peRound h_spec_l19Count (Orc.of (es_spec_l19Count N)) (mixL (L_spec_l19Count N) N n 3) c_spec_l19Count_0 (shape ks_spec_l19Count_l3 x) (h_spec_l19Count.onOut 3 K) := by kernel_rfl
theorem fn_spec_l19Count (N : Nat) (x : AVals sg_spec_l19Count) (kf : Ret → Option Ret) : F_spec_l19Count N x kf = peFunc h_spec_l19Count (Orc.of (es_spec_l19Count N)) (L_spec_l19Count N N) Tryz.f177 (ashape sg_spec_l19Count x) kf := by kernel_rfl
theorem sd_spec_l19Count (N : Nat) : Sound Tryz.prog 177 (run_spec_l19Count N) := fun_ok2 (hh := h_spec_l19Count) mixed tab_ok (es := es_spec_l19Count N) trivial (fn := Tryz.f177) (body := body_spec_l19Count) (by kernel_rfl) (by kernel_rfl) (by kernel_rfl) (by kernel_rfl) (by kernel_rfl) (Lf := L_spec_l19Count N) (L0_spec_l19Count N) ls_spec_l19Count (round_cons (key := 3) (ks := ks_spec_l19Count_l3) (by kernel_rfl) (by kernel_rfl) (rd_spec_l19Count_3 N) trivial) (N := N) (by kernel_rfl) (fn_spec_l19Count N) (.inl (by kernel_rfl))
/-! spec_AreTeams -/
noncomputable def ks_spec_AreTeams_l8 : List Kd := [.v (.sl tQIIIIILIE) .k, dK, dK, .v (.int .i64) .k, .v (.ptr tQIIIIILIE) (.o 92 none .k), .v (.int .i64) .k, dK, dK, dK, dK, dK, dK, dK, dK, dK, dK, dK, dK, dK, dK, dK, dK, dK, dK, dK, dK, dK, dK, dK, dK, dK, dK, dK, dK, dK, dK, dK, dK, dK, dK, dK, dK, dK, dK, dK, dK, dK, dK, dK, dK, dK, dK, dK, dK, dK, dK, dK, dK, dK, dK, dK, dK, dK, dK, dK, dK, dK, dK, dK, dK, dK, dK, dK, dK, dK, dK, dK, dK, dK, dK, dK, dK, dK, dK, dK, dK, dK, dK, dK, dK, dK, dK, dK, dK, dK, dK, dK, dK, dK, dK, dK, dK, dK, dK, dK, dK, dK, dK, dK, dK, dK, dK, dK, dK, dK]
noncomputable def ko_spec_AreTeams_l8_0 : List Kd := [.v (.sl tQIIIIILIE) .k, dK, dK, .v (.int .i64) .k, dK, dK, dK, dK, dK, dK, dK, dK, dK, dK, dK, dK, dK, dK, dK, dK, dK, dK, dK, dK, dK, dK, dK, dK, dK, dK, dK, dK, dK, dK, dK, dK, dK, dK, dK, dK, dK, dK, dK, dK, dK, dK, dK, dK, dK, dK, dK, dK, dK, dK, dK, dK, dK, dK, dK, dK, dK, dK, dK, dK, dK, dK, dK, dK, dK, dK, dK, dK, dK, dK, dK, dK, dK, dK, dK, dK, dK, dK, dK, dK, dK, dK, dK, dK, dK, dK, dK, dK, dK, dK, dK, dK, dK, dK, dK, dK, dK, dK, dK, dK, dK, dK, dK, dK, dK, dK, dK, dK, dK, dK, dK]
noncomputable def ko_spec_AreTeams_l8_1 : List Kd := [dK, dK, .v .bool .k, dK, dK, dK, dK, dK, dK, dK, dK, dK, dK, dK, dK, dK, dK, dK, dK, dK, dK, dK, dK, dK, dK, dK, dK, dK, dK, dK, dK, dK, dK, dK, dK, dK, dK, dK, dK, dK, dK, dK, dK, dK, dK, dK, dK, dK, dK, dK, dK, dK, dK, dK, dK, dK, dK, dK, dK, dK, dK, dK, dK, dK, dK, dK, dK, dK, dK, dK, dK, dK, dK, dK, dK, dK, dK, dK, dK, dK, dK, dK, dK, dK, dK, dK, dK, dK, dK, dK, dK, dK, dK, dK, dK, dK, dK, dK, dK, dK, dK, dK, dK, dK, dK, dK, dK, dK, dK, dK, dK, dK, dK, dK, dK]
noncomputable def ks_spec_AreTeams_l2 : List Kd := [.v (.sl tQIIIIILIE) .k, dK, dK, .v (.int .i64) .k, dK, dK, dK, dK, dK, dK, dK, dK, dK, dK, dK, dK, dK, dK, dK, dK, dK, dK, dK, dK, dK, dK, dK, dK, dK, dK, dK, dK, dK, dK, dK, dK, dK, dK, dK, dK, dK, dK, dK, dK, dK, dK, dK, dK, dK, dK, dK, dK, dK, dK, dK, dK, dK, dK, dK, dK, dK, dK, dK, dK, dK, dK, dK, dK, dK, dK, dK, dK, dK, dK, dK, dK, dK, dK, dK, dK, dK, dK, dK, dK, dK, dK, dK, dK, dK, dK, dK, dK, dK, dK, dK, dK, dK, dK, dK, dK, dK, dK, dK, dK, dK, dK, dK, dK, dK, dK, dK, dK, dK, dK, dK]
noncomputable def ko_spec_AreTeams_l2_0 : List Kd := [.v (.sl tQIIIIILIE) .k, dK, dK, dK, dK, dK, dK, dK, dK, dK, dK, dK, dK, dK, dK, dK, dK, dK, dK, dK, dK, dK, dK, dK, dK, dK, dK, dK, dK, dK, dK, dK, dK, dK, dK, dK, dK, dK, dK, dK, dK, dK, dK, dK, dK, dK, dK, dK, dK, dK, dK, dK, dK, dK, dK, dK, dK, dK, dK, dK, dK, dK, dK, dK, dK, dK, dK, dK, dK, dK, dK, dK, dK, dK, dK, dK, dK, dK, dK, dK, dK, dK, dK, dK, dK, dK, dK, dK, dK, dK, dK, dK, dK, dK, dK, dK, dK, dK, dK, dK, dK, dK, dK, dK, dK, dK, dK, dK, dK, dK, dK, dK, dK, dK, dK]
noncomputable def ko_spec_AreTeams_l2_1 : List Kd := [dK, dK, .v .bool .k, dK, dK, dK, dK, dK, dK, dK, dK, dK, dK, dK, dK, dK, dK, dK, dK, dK, dK, dK, dK, dK, dK, dK, dK, dK, dK, dK, dK, dK, dK, dK, dK, dK, dK, dK, dK, dK, dK, dK, dK, dK, dK, dK, dK, dK, dK, dK, dK, dK, dK, dK, dK, dK, dK, dK, dK, dK, dK, dK, dK, dK, dK, dK, dK, dK, dK, dK, dK, dK, dK, dK, dK, dK, dK, dK, dK, dK, dK, dK, dK, dK, dK, dK, dK, dK, dK, dK, dK, dK, dK, dK, dK, dK, dK, dK, dK, dK, dK, dK, dK, dK, dK, dK, dK, dK, dK, dK, dK, dK, dK, dK, dK]
noncomputable def h_spec_AreTeams : Hint := { tab, hn := [], loops := [(8, ks_spec_AreTeams_l8), (2, ks_spec_AreTeams_l2)], outs := [(8, 4, ko_spec_AreTeams_l8_0), (8, 1, ko_spec_AreTeams_l8_1), (2, 2, ko_spec_AreTeams_l2_0), (2, 1, ko_spec_AreTeams_l2_1)], ords := [(5, (OT.seq [0, 1, 2, 3, 4, 5, 6, 7, 8, 9, 10, 11, 12, 13, 14, 15, 16, 17, 18, 19, 20, 21, 22, 23, 24, 25, 26, 27, 28, 29, 30, 31, 32, 33, 34, 35, 36, 37, 38, 39, 40, 41, 42, 43, 44, 45, 46, 47, 48, 49, 50, 51, 52, 53, 54] .done)), (11, (OT.seq [0, 1, 2, 3, 4, 5, 6, 7, 8, 9, 10, 11, 12, 13, 14, 16, 17, 18, 19, 20, 21, 22, 15, 23, 24, 25] .done))] }
noncomputable def sg_spec_AreTeams : List AK := [.v (.sl tQIIIIILIE) .k]
noncomputable def F_spec_AreTeams (N : Nat) (x : AVals sg_spec_AreTeams) (kf : Ret → Option Ret) : Option Ret := spec_AreTeams N x.1 (fun r0 => kf ⟨[⟨.bool, .k, r0⟩], []⟩)
noncomputable def run_spec_AreTeams (N : Nat) := runOf sg_spec_AreTeams (F_spec_AreTeams N)
noncomputable def es_spec_AreTeams (N : Nat) : List Entry := [⟨48, [.val, .val, .val], (run_spec_l1In N)⟩, ⟨78, [.val, .val], (run_spec_FindTeam N)⟩, ⟨177, [.val, .val], (run_spec_l19Count N)⟩]
noncomputable def body_spec_AreTeams : Code := match Tryz.f123.body with | some c => c | none => .skip
noncomputable def L_spec_AreTeams (N n : Nat) (key : Nat) (S : St) (K : Ks) : Option Ret := bif Nat.beq key 2 then withVals ks_spec_AreTeams_l2 S (fun x => spec_AreTeams_l2 N x.1 n (K (.x 0) (shape ko_spec_AreTeams_l2_0 (x.1, ()))) (fun z0 => K .r (shape ko_spec_AreTeams_l2_1 (z0, ()))) x.2.1) else bif Nat.beq key 8 then withVals ks_spec_AreTeams_l8 S (fun x => spec_AreTeams_l8 N x.1 x.2.1 x.2.2.1 n (K (.x 2) (shape ko_spec_AreTeams_l8_0 (x.1, x.2.1, ()))) (fun z0 => K .r (shape ko_spec_AreTeams_l8_1 (z0, ()))) x.2.2.2.1) else none
theorem L0_spec_AreTeams (N key : Nat) (S : St) (K : Ks) : L_spec_AreTeams N 0 key S K = none := (bif0 (withVals0 fun _ => rfl) (bif0 (withVals0 fun _ => rfl) rfl))
noncomputable def c_spec_AreTeams_0 : Code := (loopsIn body_spec_AreTeams).getD 0 .skip
noncomputable def c_spec_AreTeams_1 : Code := (loopsIn body_spec_AreTeams).getD 1 .skip
theorem ls_spec_AreTeams : loopsIn body_spec_AreTeams = [c_spec_AreTeams_0, c_spec_AreTeams_1] := by kernel_rfl
theorem rd_spec_AreTeams_8 (N n : Nat) (x : Vals ks_spec_AreTeams_l8) (K : Ks) : L_spec_AreTeams N (n + 1) 8 (shape ks_spec_AreTeams_l8 x) (h_spec_AreTeams.onOut 8 K) = peRound h_spec_AreTeams (Orc.of (es_spec_AreTeams N)) (mixL (L_spec_AreTeams N) N n 8) c_spec_AreTeams_1 (shape ks_spec_AreTeams_l8 x) (h_spec_AreTeams.onOut 8 K) := by kernel_rfl
theorem rd_spec_AreTeams_2 (N n : Nat) (x : Vals ks_spec_AreTeams_l2) (K : Ks) : L_spec_AreTeams N (n + 1) 2 (shape ks_spec_AreTeams_l2 x) (h_spec_AreTeams.onOut 2 K) = peRound h_spec_AreTeams (Orc.of (es_spec_AreTeams N)) (mixL (L_spec_AreTeams N) N n 2) c_spec_AreTeams_0 (shape ks_spec_AreTeams_l2 x) (h_spec_AreTeams.onOut 2 K) := by kernel_rfl
theorem fn_spec_AreTeams (N : Nat) (x : AVals sg_spec_AreTeams) (kf : Ret → Option Ret) : F_spec_AreTeams N x kf = peFunc h_spec_AreTeams (Orc.of (es_spec_AreTeams N)) (L_spec_AreTeams N N) Tryz.f123 (ashape sg_spec_AreTeams x) kf := by kernel_rfl
theorem sd_spec_AreTeams (N : Nat) : Sound Tryz.prog 123 (run_spec_AreTeams N) := fun_ok2 (hh := h_spec_AreTeams) mixed tab_ok (es := es_spec_AreTeams N) ⟨sd_spec_l1In N, ⟨sd_spec_FindTeam N, ⟨sd_spec_l19Count N, trivial⟩⟩⟩ (fn := Tryz.f123) (body := body_spec_AreTeams) (by kernel_rfl) (by kernel_rfl) (by kernel_rfl) (by kernel_rfl) (by kernel_rfl) (Lf := L_spec_AreTeams N) (L0_spec_AreTeams N) ls_spec_AreTeams (round_cons (key := 2) (ks := ks_spec_AreTeams_l2) (by kernel_rfl) (by kernel_rfl) (rd_spec_AreTeams_2 N) (round_cons (key := 8) (ks := ks_spec_AreTeams_l8) (by kernel_rfl) (by kernel_rfl) (rd_spec_AreTeams_8 N) trivial)) (N := N) (by kernel_rfl) (fn_spec_AreTeams N) (.inl (by kernel_rfl))
/-! spec_AreJudges -/
noncomputable def ks_spec_AreJudges_l7 : List Kd := [.v (.sl tQIILIE) .k, dK, dK, .v (.int .i64) .k, .v (.int .i64) .k, dK, dK, dK, dK, dK, dK, dK, dK, dK, dK, dK, dK, dK, dK, dK, dK, dK, dK, dK, dK, dK, dK, dK, dK, dK, dK, dK, dK, dK, dK, dK, dK, dK, dK, dK, dK, dK, dK, dK, dK, dK, dK, dK, dK, dK, dK, dK, dK, dK, dK, dK, dK, dK, dK, dK, dK, dK, dK, dK, dK, dK, dK, dK, dK, dK, dK, dK, dK, dK, dK, dK, dK, dK, dK, dK, dK, dK, dK, dK, dK, dK, dK, dK, dK, dK, dK, dK]
noncomputable def ko_spec_AreJudges_l7_0 : List Kd := [.v (.sl tQIILIE) .k, dK, dK, .v (.int .i64) .k, dK, dK, dK, dK, dK, dK, dK, dK, dK, dK, dK, dK, dK, dK, dK, dK, dK, dK, dK, dK, dK, dK, dK, dK, dK, dK, dK, dK, dK, dK, dK, dK, dK, dK, dK, dK, dK, dK, dK, dK, dK, dK, dK, dK, dK, dK, dK, dK, dK, dK, dK, dK, dK, dK, dK, dK, dK, dK, dK, dK, dK, dK, dK, dK, dK, dK, dK, dK, dK, dK, dK, dK, dK, dK, dK, dK, dK, dK, dK, dK, dK, dK, dK, dK, dK, dK, dK, dK]
noncomputable def ko_spec_AreJudges_l7_1 : List Kd := [dK, dK, .v .bool .k, dK, dK, dK, dK, dK, dK, dK, dK, dK, dK, dK, dK, dK, dK, dK, dK, dK, dK, dK, dK, dK, dK, dK, dK, dK, dK, dK, dK, dK, dK, dK, dK, dK, dK, dK, dK, dK, dK, dK, dK, dK, dK, dK, dK, dK, dK, dK, dK, dK, dK, dK, dK, dK, dK, dK, dK, dK, dK, dK, dK, dK, dK, dK, dK, dK, dK, dK, dK, dK, dK, dK, dK, dK, dK, dK, dK, dK, dK, dK, dK, dK, dK, dK, dK, dK, dK, dK, dK, dK]
noncomputable def ks_spec_AreJudges_l2 : List Kd := [.v (.sl tQIILIE) .k, dK, dK, .v (.int .i64) .k, dK, dK, dK, dK, dK, dK, dK, dK, dK, dK, dK, dK, dK, dK, dK, dK, dK, dK, dK, dK, dK, dK, dK, dK, dK, dK, dK, dK, dK, dK, dK, dK, dK, dK, dK, dK, dK, dK, dK, dK, dK, dK, dK, dK, dK, dK, dK, dK, dK, dK, dK, dK, dK, dK, dK, dK, dK, dK, dK, dK, dK, dK, dK, dK, dK, dK, dK, dK, dK, dK, dK, dK, dK, dK, dK, dK, dK, dK, dK, dK, dK, dK, dK, dK, dK, dK, dK, dK]
noncomputable def ko_spec_AreJudges_l2_0 : List Kd := [.v (.sl tQIILIE) .k, dK, dK, dK, dK, dK, dK, dK, dK, dK, dK, dK, dK, dK, dK, dK, dK, dK, dK, dK, dK, dK, dK, dK, dK, dK, dK, dK, dK, dK, dK, dK, dK, dK, dK, dK, dK, dK, dK, dK, dK, dK, dK, dK, dK, dK, dK, dK, dK, dK, dK, dK, dK, dK, dK, dK, dK, dK, dK, dK, dK, dK, dK, dK, dK, dK, dK, dK, dK, dK, dK, dK, dK, dK, dK, dK, dK, dK, dK, dK, dK, dK, dK, dK, dK, dK, dK, dK, dK, dK, dK, dK]
noncomputable def ko_spec_AreJudges_l2_1 : List Kd := [dK, dK, .v .bool .k, dK, dK, dK, dK, dK, dK, dK, dK, dK, dK, dK, dK, dK, dK, dK, dK, dK, dK, dK, dK, dK, dK, dK, dK, dK, dK, dK, dK, dK, dK, dK, dK, dK, dK, dK, dK, dK, dK, dK, dK, dK, dK, dK, dK, dK, dK, dK, dK, dK, dK, dK, dK, dK, dK, dK, dK, dK, dK, dK, dK, dK, dK, dK, dK, dK, dK, dK, dK, dK, dK, dK, dK, dK, dK, dK, dK, dK, dK, dK, dK, dK, dK, dK, dK, dK, dK, dK, dK, dK]
noncomputable def h_spec_AreJudges : Hint := { tab, hn := [], loops := [(7, ks_spec_AreJudges_l7), (2, ks_spec_AreJudges_l2)], outs := [(7, 4, ko_spec_AreJudges_l7_0), (7, 1, ko_spec_AreJudges_l7_1), (2, 2, ko_spec_AreJudges_l2_0), (2, 1, ko_spec_AreJudges_l2_1)], ords := [(4, (OT.seq [0, 1, 2, 3, 4, 5, 6, 7, 8, 9, 10, 11, 12, 13, 14, 15, 16, 17, 18, 19, 20, 21, 22, 23, 24, 25, 26, 27, 28, 29, 30, 31, 32, 33] .done)), (9, (OT.seq [0, 1, 2, 3, 4, 5, 6, 7, 8, 9, 10, 11, 12, 13, 14, 15, 16, 17, 18, 19, 20, 21, 22, 23, 24, 25, 26, 27, 28, 29, 30, 31, 32, 33] .done))] }
noncomputable def sg_spec_AreJudges : List AK := [.v (.sl tQIILIE) .k]
noncomputable def F_spec_AreJudges (N : Nat) (x : AVals sg_spec_AreJudges) (kf : Ret → Option Ret) : Option Ret := spec_AreJudges N x.1 (fun r0 => kf ⟨[⟨.bool, .k, r0⟩], []⟩)
noncomputable def run_spec_AreJudges (N : Nat) := runOf sg_spec_AreJudges (F_spec_AreJudges N)
noncomputable def es_spec_AreJudges (N : Nat) : List Entry := [⟨48, [.val, .val, .val], (run_spec_l1In N)⟩]
noncomputable def body_spec_AreJudges : Code := match Tryz.f124.body with | some c => c | none => .skip
noncomputable def L_spec_AreJudges (N n : Nat) (key : Nat) (S : St) (K : Ks) : Option Ret := bif Nat.beq key 2 then withVals ks_spec_AreJudges_l2 S (fun x => spec_AreJudges_l2 N x.1 n (K (.x 0) (shape ko_spec_AreJudges_l2_0 (x.1, ()))) (fun z0 => K .r (shape ko_spec_AreJudges_l2_1 (z0, ()))) x.2.1) else bif Nat.beq key 7 then withVals ks_spec_AreJudges_l7 S (fun x => spec_AreJudges_l7 N x.1 x.2.1 n (K (.x 2) (shape ko_spec_AreJudges_l7_0 (x.1, x.2.1, ()))) (fun z0 => K .r (shape ko_spec_AreJudges_l7_1 (z0, ()))) x.2.2.1) else none
theorem L0_spec_AreJudges (N key : Nat) (S : St) (K : Ks) : L_spec_AreJudges N 0 key S K = none := (bif0 (withVals0 fun _ => rfl) (bif0 (withVals0 fun _ => rfl) rfl))
noncomputable def c_spec_AreJudges_0 : Code := (loopsIn body_spec_AreJudges).getD 0 .skip
noncomputable def c_spec_AreJudges_1 : Code := (loopsIn body_spec_AreJudges).getD 1 .skip
theorem ls_spec_AreJudges : loopsIn body_spec_AreJudges = [c_spec_AreJudges_0, c_spec_AreJudges_1] := by kernel_rfl
theorem rd_spec_AreJudges_7 (N n : Nat) (x : Vals ks_spec_AreJudges_l7) (K : Ks) : L_spec_AreJudges N (n + 1) 7 (shape ks_spec_AreJudges_l7 x) (h_spec_AreJudges.onOut 7 K) = peRound h_spec_AreJudges (Orc.of (es_spec_AreJudges N)) (mixL (L_spec_AreJudges N) N n 7) c_spec_AreJudges_1 (shape ks_spec_AreJudges_l7 x) (h_spec_AreJudges.onOut 7 K) := by kernel_rfl
theorem rd_spec_AreJudges_2 (N n : Nat) (x : Vals ks_spec_AreJudges_l2) (K : Ks) : L_spec_AreJudges N (n + 1) 2 (shape ks_spec_AreJudges_l2 x) (h_spec_AreJudges.onOut 2 K) = peRound h_spec_AreJudges (Orc.of (es_spec_AreJudges N)) (mixL (L_spec_AreJudges N) N n 2) c_spec_AreJudges_0 (shape ks_spec_AreJudges_l2 x) (h_spec_AreJudges.onOut 2 K) := by kernel_rfl
theorem fn_spec_AreJudges (N : Nat) (x : AVals sg_spec_AreJudges) (kf : Ret → Option Ret) : F_spec_AreJudges N x kf = peFunc h_spec_AreJudges (Orc.of (es_spec_AreJudges N)) (L_spec_AreJudges N N) Tryz.f124 (ashape sg_spec_AreJudges x) kf := by kernel_rfl
theorem sd_spec_AreJudges (N : Nat) : Sound Tryz.prog 124 (run_spec_AreJudges N) := fun_ok2 (hh := h_spec_AreJudges) mixed tab_ok (es := es_spec_AreJudges N) ⟨sd_spec_l1In N, trivial⟩ (fn := Tryz.f124) (body := body_spec_AreJudges) (by kernel_rfl) (by kernel_rfl) (by kernel_rfl) (by kernel_rfl) (by kernel_rfl) (Lf := L_spec_AreJudges N) (L0_spec_AreJudges N) ls_spec_AreJudges (round_cons (key := 2) (ks := ks_spec_AreJudges_l2) (by kernel_rfl) (by kernel_rfl) (rd_spec_AreJudges_2 N) (round_cons (key := 7) (ks := ks_spec_AreJudges_l7) (by kernel_rfl) (by kernel_rfl) (rd_spec_AreJudges_7 N) trivial)) (N := N) (by kernel_rfl) (fn_spec_AreJudges N) (.inl (by kernel_rfl))
/-! spec_Mod -/
noncomputable def h_spec_Mod : Hint := { tab, hn := [], loops := [], outs := [], ords := [] }
noncomputable def sg_spec_Mod : List AK := [.v (.int .i64) .k, .v (.int .i64) .k]
noncomputable def F_spec_Mod (N : Nat) (x : AVals sg_spec_Mod) (kf : Ret → Option Ret) : Option Ret := spec_Mod N x.1 x.2.1 (fun r0 => kf ⟨[⟨(.int .i64), .k, r0⟩], []⟩)
noncomputable def run_spec_Mod (N : Nat) := runOf sg_spec_Mod (F_spec_Mod N)
noncomputable def es_spec_Mod (N : Nat) : List Entry := [⟨48, [.val, .val, .val], (run_spec_l1In N)⟩]
noncomputable def body_spec_Mod : Code := match Tryz.f222.body with | some c => c | none => .skip
noncomputable def L_spec_Mod (N n : Nat) (key : Nat) (S : St) (K : Ks) : Option Ret := none
theorem L0_spec_Mod (N key : Nat) (S : St) (K : Ks) : L_spec_Mod N 0 key S K = none := rfl
theorem ls_spec_Mod : loopsIn body_spec_Mod = [] := by kernel_rfl
theorem fn_spec_Mod (N : Nat) (x : AVals sg_spec_Mod) (kf : Ret → Option Ret) : F_spec_Mod N x kf = peFunc h_spec_Mod (Orc.of (es_spec_Mod N)) (L_spec_Mod N N) Tryz.f222 (ashape sg_spec_Mod x) kf := by kernel_rfl
theorem sd_spec_Mod (N : Nat) : Sound Tryz.prog 222 (run_spec_Mod N) := fun_ok2 (hh := h_spec_Mod) mixed tab_ok (es := es_spec_Mod N) ⟨sd_spec_l1In N, trivial⟩ (fn := Tryz.f222) (body := body_spec_Mod) (by kernel_rfl) (by kernel_rfl) (by kernel_rfl) (by kernel_rfl) (by kernel_rfl) (Lf := L_spec_Mod N) (L0_spec_Mod N) ls_spec_Mod trivial (N := N) (by kernel_rfl) (fn_spec_Mod N) (.inl (by kernel_rfl))
/-! spec_Hash -/
noncomputable def ks_spec_Hash_l3 : List Kd := [.v (.sl (.int .i64)) .k, dK, dK, .v (.int .i64) .k, .v (.int .i64) .k, dK, dK, dK, dK, dK, dK, dK, dK, dK, dK, dK, dK, dK, dK, dK, dK, dK]
noncomputable def ko_spec_Hash_l3_0 : List Kd := [dK, dK, dK, .v (.int .i64) .k, dK, dK, dK, dK, dK, dK, dK, dK, dK, dK, dK, dK, dK, dK, dK, dK, dK, dK]
noncomputable def h_spec_Hash : Hint := { tab, hn := [], loops := [(3, ks_spec_Hash_l3)], outs := [(3, 2, ko_spec_Hash_l3_0)], ords := [] }
noncomputable def sg_spec_Hash : List AK := [.v (.sl (.int .i64)) .k]
noncomputable def F_spec_Hash (N : Nat) (x : AVals sg_spec_Hash) (kf : Ret → Option Ret) : Option Ret := spec_Hash N x.1 (fun r0 => kf ⟨[⟨(.int .i64), .k, r0⟩], []⟩)
noncomputable def run_spec_Hash (N : Nat) := runOf sg_spec_Hash (F_spec_Hash N)
noncomputable def es_spec_Hash (N : Nat) : List Entry := [⟨222, [.val, .val], (run_spec_Mod N)⟩]
noncomputable def body_spec_Hash : Code := match Tryz.f209.body with | some c => c | none => .skip
noncomputable def L_spec_Hash (N n : Nat) (key : Nat) (S : St) (K : Ks) : Option Ret := bif Nat.beq key 3 then withVals ks_spec_Hash_l3 S (fun x => spec_Hash_l3 N x.1 n (fun z0 => K (.x 0) (shape ko_spec_Hash_l3_0 (z0, ()))) x.2.1 x.2.2.1) else none
theorem L0_spec_Hash (N key : Nat) (S : St) (K : Ks) : L_spec_Hash N 0 key S K = none := (bif0 (withVals0 fun _ => rfl) rfl)
noncomputable def c_spec_Hash_0 : Code := (loopsIn body_spec_Hash).getD 0 .skip
theorem ls_spec_Hash : loopsIn body_spec_Hash = [c_spec_Hash_0] := by kernel_rfl
theorem rd_spec_Hash_3 (N n : Nat) (x : Vals ks_spec_Hash_l3) (K : Ks) : L_spec_Hash N (n + 1) 3 (shape ks_spec_Hash_l3 x) (h_spec_Hash.onOut 3 K) = peRound h_spec_Hash (Orc.of (es_spec_Hash N)) (mixL (L_spec_Hash N) N n 3) c_spec_Hash_0 (shape ks_spec_Hash_l3 x) (h_spec_Hash.onOut 3 K) := by kernel_rfl
theorem fn_spec_Hash (N : Nat) (x : AVals sg_spec_Hash) (kf : Ret → Option Ret) : F_spec_Hash N x kf = peFunc h_spec_Hash (Orc.of (es_spec_Hash N)) (L_spec_Hash N N) Tryz.f209 (ashape sg_spec_Hash x) kf := by kernel_rfl
theorem sd_spec_Hash (N : Nat) : Sound Tryz.prog 209 (run_spec_Hash N) := fun_ok2 (hh := h_spec_Hash) mixed tab_ok (es := es_spec_Hash N) ⟨sd_spec_Mod N, trivial⟩ (fn := Tryz.f209) (body := body_spec_Hash) (by kernel_rfl) (by kernel_rfl) (by kernel_rfl) (by kernel_rfl) (by kernel_rfl) (Lf := L_spec_Hash N) (L0_spec_Hash N) ls_spec_Hash (round_cons (key := 3) (ks := ks_spec_Hash_l3) (by kernel_rfl) (by kernel_rfl) (rd_spec_Hash_3 N) trivial) (N := N) (by kernel_rfl) (fn_spec_Hash N) (.inl (by kernel_rfl))
/-! spec_l27Seal -/
noncomputable def h_spec_l27Seal : Hint := { tab, hn := [], loops := [], outs := [], ords := [] }
noncomputable def sg_spec_l27Seal : List AK := [.v (.int .i64) .k, .v tQIIIIE .k]
noncomputable def F_spec_l27Seal (N : Nat) (x : AVals sg_spec_l27Seal) (kf : Ret → Option Ret) : Option Ret := spec_l27Seal N x.1 x.2.1 (fun r0 => kf ⟨[⟨(.int .i64), .k, r0⟩], []⟩)
noncomputable def run_spec_l27Seal (N : Nat) := runOf sg_spec_l27Seal (F_spec_l27Seal N)
noncomputable def es_spec_l27Seal (N : Nat) : List Entry := [⟨209, [.val], (run_spec_Hash N)⟩]
noncomputable def body_spec_l27Seal : Code := match Tryz.f178.body with | some c => c | none => .skip
noncomputable def L_spec_l27Seal (N n : Nat) (key : Nat) (S : St) (K : Ks) : Option Ret := none
theorem L0_spec_l27Seal (N key : Nat) (S : St) (K : Ks) : L_spec_l27Seal N 0 key S K = none := rfl
theorem ls_spec_l27Seal : loopsIn body_spec_l27Seal = [] := by kernel_rfl
theorem fn_spec_l27Seal (N : Nat) (x : AVals sg_spec_l27Seal) (kf : Ret → Option Ret) : F_spec_l27Seal N x kf = peFunc h_spec_l27Seal (Orc.of (es_spec_l27Seal N)) (L_spec_l27Seal N N) Tryz.f178 (ashape sg_spec_l27Seal x) kf := by kernel_rfl
theorem sd_spec_l27Seal (N : Nat) : Sound Tryz.prog 178 (run_spec_l27Seal N) := fun_ok2 (hh := h_spec_l27Seal) mixed tab_ok (es := es_spec_l27Seal N) ⟨sd_spec_Hash N, trivial⟩ (fn := Tryz.f178) (body := body_spec_l27Seal) (by kernel_rfl) (by kernel_rfl) (by kernel_rfl) (by kernel_rfl) (by kernel_rfl) (Lf := L_spec_l27Seal N) (L0_spec_l27Seal N) ls_spec_l27Seal trivial (N := N) (by kernel_rfl) (fn_spec_l27Seal N) (.inl (by kernel_rfl))
/-! spec_AreMinutes -/
noncomputable def ks_spec_AreMinutes_l3 : List Kd := [.v (.sl tQIIIIE) .k, dK, dK, .v (.int .i64) .k, .v (.int .i64) .k, dK, dK, dK, dK, dK, dK, dK, dK, dK, dK, dK, dK, dK, dK, dK, dK, dK, dK, dK, dK, dK, dK, dK, dK, dK, dK, dK, dK, dK, dK, dK, dK, dK, dK, dK, dK, dK, dK, dK, dK, dK, dK, dK, dK, dK]
noncomputable def ko_spec_AreMinutes_l3_0 : List Kd := [.v (.sl tQIIIIE) .k, dK, dK, dK, dK, dK, dK, dK, dK, dK, dK, dK, dK, dK, dK, dK, dK, dK, dK, dK, dK, dK, dK, dK, dK, dK, dK, dK, dK, dK, dK, dK, dK, dK, dK, dK, dK, dK, dK, dK, dK, dK, dK, dK, dK, dK, dK, dK, dK, dK]
noncomputable def ko_spec_AreMinutes_l3_1 : List Kd := [dK, dK, .v .bool .k, dK, dK, dK, dK, dK, dK, dK, dK, dK, dK, dK, dK, dK, dK, dK, dK, dK, dK, dK, dK, dK, dK, dK, dK, dK, dK, dK, dK, dK, dK, dK, dK, dK, dK, dK, dK, dK, dK, dK, dK, dK, dK, dK, dK, dK, dK, dK]
noncomputable def h_spec_AreMinutes : Hint := { tab, hn := [], loops := [(3, ks_spec_AreMinutes_l3)], outs := [(3, 2, ko_spec_AreMinutes_l3_0), (3, 1, ko_spec_AreMinutes_l3_1)], ords := [] }
noncomputable def sg_spec_AreMinutes : List AK := [.v (.sl tQIIIIE) .k]
noncomputable def F_spec_AreMinutes (N : Nat) (x : AVals sg_spec_AreMinutes) (kf : Ret → Option Ret) : Option Ret := spec_AreMinutes N x.1 (fun r0 => kf ⟨[⟨.bool, .k, r0⟩], []⟩)
noncomputable def run_spec_AreMinutes (N : Nat) := runOf sg_spec_AreMinutes (F_spec_AreMinutes N)
noncomputable def es_spec_AreMinutes (N : Nat) : List Entry := [⟨178, [.val, .val], (run_spec_l27Seal N)⟩, ⟨48, [.val, .val, .val], (run_spec_l1In N)⟩]
noncomputable def body_spec_AreMinutes : Code := match Tryz.f125.body with | some c => c | none => .skip
noncomputable def L_spec_AreMinutes (N n : Nat) (key : Nat) (S : St) (K : Ks) : Option Ret := bif Nat.beq key 3 then withVals ks_spec_AreMinutes_l3 S (fun x => spec_AreMinutes_l3 N x.1 n (K (.x 0) (shape ko_spec_AreMinutes_l3_0 (x.1, ()))) (fun z0 => K .r (shape ko_spec_AreMinutes_l3_1 (z0, ()))) x.2.1 x.2.2.1) else none
theorem L0_spec_AreMinutes (N key : Nat) (S : St) (K : Ks) : L_spec_AreMinutes N 0 key S K = none := (bif0 (withVals0 fun _ => rfl) rfl)
noncomputable def c_spec_AreMinutes_0 : Code := (loopsIn body_spec_AreMinutes).getD 0 .skip
theorem ls_spec_AreMinutes : loopsIn body_spec_AreMinutes = [c_spec_AreMinutes_0] := by kernel_rfl
theorem rd_spec_AreMinutes_3 (N n : Nat) (x : Vals ks_spec_AreMinutes_l3) (K : Ks) : L_spec_AreMinutes N (n + 1) 3 (shape ks_spec_AreMinutes_l3 x) (h_spec_AreMinutes.onOut 3 K) = peRound h_spec_AreMinutes (Orc.of (es_spec_AreMinutes N)) (mixL (L_spec_AreMinutes N) N n 3) c_spec_AreMinutes_0 (shape ks_spec_AreMinutes_l3 x) (h_spec_AreMinutes.onOut 3 K) := by kernel_rfl
theorem fn_spec_AreMinutes (N : Nat) (x : AVals sg_spec_AreMinutes) (kf : Ret → Option Ret) : F_spec_AreMinutes N x kf = peFunc h_spec_AreMinutes (Orc.of (es_spec_AreMinutes N)) (L_spec_AreMinutes N N) Tryz.f125 (ashape sg_spec_AreMinutes x) kf := by kernel_rfl
theorem sd_spec_AreMinutes (N : Nat) : Sound Tryz.prog 125 (run_spec_AreMinutes N) := fun_ok2 (hh := h_spec_AreMinutes) mixed tab_ok (es := es_spec_AreMinutes N) ⟨sd_spec_l27Seal N, ⟨sd_spec_l1In N, trivial⟩⟩ (fn := Tryz.f125) (body := body_spec_AreMinutes) (by kernel_rfl) (by kernel_rfl) (by kernel_rfl) (by kernel_rfl) (by kernel_rfl) (Lf := L_spec_AreMinutes N) (L0_spec_AreMinutes N) ls_spec_AreMinutes (round_cons (key := 3) (ks := ks_spec_AreMinutes_l3) (by kernel_rfl) (by kernel_rfl) (rd_spec_AreMinutes_3 N) trivial) (N := N) (by kernel_rfl) (fn_spec_AreMinutes N) (.inl (by kernel_rfl))
/-! spec_TotalWins -/
noncomputable def ks_spec_TotalWins_l3 : List Kd := [.v (.sl tQIIIIILIE) .k, dK, dK, .v (.int .i64) .k, .v (.int .i64) .k, dK, dK, dK, dK, dK, dK, dK, dK, dK, dK, dK, dK, dK, dK, dK, dK, dK, dK]
noncomputable def ko_spec_TotalWins_l3_0 : List Kd := [dK, dK, dK, .v (.int .i64) .k, dK, dK, dK, dK, dK, dK, dK, dK, dK, dK, dK, dK, dK, dK, dK, dK, dK, dK, dK]
noncomputable def h_spec_TotalWins : Hint := { tab, hn := [], loops := [(3, ks_spec_TotalWins_l3)], outs := [(3, 2, ko_spec_TotalWins_l3_0)], ords := [] }
noncomputable def sg_spec_TotalWins : List AK := [.v (.sl tQIIIIILIE) .k]
noncomputable def F_spec_TotalWins (N : Nat) (x : AVals sg_spec_TotalWins) (kf : Ret → Option Ret) : Option Ret := spec_TotalWins N x.1 (fun r0 => kf ⟨[⟨(.int .i64), .k, r0⟩], []⟩)
noncomputable def run_spec_TotalWins (N : Nat) := runOf sg_spec_TotalWins (F_spec_TotalWins N)
noncomputable def es_spec_TotalWins (N : Nat) : List Entry := [⟨123, [.val], (run_spec_AreTeams N)⟩]
noncomputable def body_spec_TotalWins : Code := match Tryz.f126.body with | some c => c | none => .skip
noncomputable def L_spec_TotalWins (N n : Nat) (key : Nat) (S : St) (K : Ks) : Option Ret := bif Nat.beq key 3 then withVals ks_spec_TotalWins_l3 S (fun x => spec_TotalWins_l3 N x.1 n (fun z0 => K (.x 0) (shape ko_spec_TotalWins_l3_0 (z0, ()))) x.2.1 x.2.2.1) else none
theorem L0_spec_TotalWins (N key : Nat) (S : St) (K : Ks) : L_spec_TotalWins N 0 key S K = none := (bif0 (withVals0 fun _ => rfl) rfl)
noncomputable def c_spec_TotalWins_0 : Code := (loopsIn body_spec_TotalWins).getD 0 .skip
theorem ls_spec_TotalWins : loopsIn body_spec_TotalWins = [c_spec_TotalWins_0] := by kernel_rfl
theorem rd_spec_TotalWins_3 (N n : Nat) (x : Vals ks_spec_TotalWins_l3) (K : Ks) : L_spec_TotalWins N (n + 1) 3 (shape ks_spec_TotalWins_l3 x) (h_spec_TotalWins.onOut 3 K) = peRound h_spec_TotalWins (Orc.of (es_spec_TotalWins N)) (mixL (L_spec_TotalWins N) N n 3) c_spec_TotalWins_0 (shape ks_spec_TotalWins_l3 x) (h_spec_TotalWins.onOut 3 K) := by kernel_rfl
theorem fn_spec_TotalWins (N : Nat) (x : AVals sg_spec_TotalWins) (kf : Ret → Option Ret) : F_spec_TotalWins N x kf = peFunc h_spec_TotalWins (Orc.of (es_spec_TotalWins N)) (L_spec_TotalWins N N) Tryz.f126 (ashape sg_spec_TotalWins x) kf := by kernel_rfl
theorem sd_spec_TotalWins (N : Nat) : Sound Tryz.prog 126 (run_spec_TotalWins N) := fun_ok2 (hh := h_spec_TotalWins) mixed tab_ok (es := es_spec_TotalWins N) ⟨sd_spec_AreTeams N, trivial⟩ (fn := Tryz.f126) (body := body_spec_TotalWins) (by kernel_rfl) (by kernel_rfl) (by kernel_rfl) (by kernel_rfl) (by kernel_rfl) (Lf := L_spec_TotalWins N) (L0_spec_TotalWins N) ls_spec_TotalWins (round_cons (key := 3) (ks := ks_spec_TotalWins_l3) (by kernel_rfl) (by kernel_rfl) (rd_spec_TotalWins_3 N) trivial) (N := N) (by kernel_rfl) (fn_spec_TotalWins N) (.inl (by kernel_rfl))
/-! spec_l4Has -/
noncomputable def ks_spec_l4Has_l2 : List Kd := [.v (.sl (.int .i64)) .k, .v (.int .i64) .k, dK, dK, dK, .v (.int .i64) .k, dK, dK, dK, dK, dK, dK, dK, dK, dK, dK, dK, dK]
noncomputable def ko_spec_l4Has_l2_0 : List Kd := [dK, dK, dK, dK, dK, dK, dK, dK, dK, dK, dK, dK, dK, dK, dK, dK, dK, dK]
noncomputable def ko_spec_l4Has_l2_1 : List Kd := [dK, dK, dK, dK, .v .bool .k, dK, dK, dK, dK, dK, dK, dK, dK, dK, dK, dK, dK, dK]
noncomputable def h_spec_l4Has : Hint := { tab, hn := [], loops := [(2, ks_spec_l4Has_l2)], outs := [(2, 2, ko_spec_l4Has_l2_0), (2, 1, ko_spec_l4Has_l2_1)], ords := [] }
noncomputable def sg_spec_l4Has : List AK := [.v (.sl (.int .i64)) .k, .v (.int .i64) .k]
noncomputable def F_spec_l4Has (N : Nat) (x : AVals sg_spec_l4Has) (kf : Ret → Option Ret) : Option Ret := spec_l4Has N x.1 x.2.1 (fun r0 => kf ⟨[⟨.bool, .k, r0⟩], []⟩)
noncomputable def run_spec_l4Has (N : Nat) := runOf sg_spec_l4Has (F_spec_l4Has N)
noncomputable def es_spec_l4Has (N : Nat) : List Entry := []
noncomputable def body_spec_l4Has : Code := match Tryz.f180.body with | some c => c | none => .skip
noncomputable def L_spec_l4Has (N n : Nat) (key : Nat) (S : St) (K : Ks) : Option Ret := bif Nat.beq key 2 then withVals ks_spec_l4Has_l2 S (fun x => spec_l4Has_l2 x.1 x.2.1 n (K (.x 0) (shape ko_spec_l4Has_l2_0 ())) (fun z0 => K .r (shape ko_spec_l4Has_l2_1 (z0, ()))) x.2.2.1) else none
theorem L0_spec_l4Has (N key : Nat) (S : St) (K : Ks) : L_spec_l4Has N 0 key S K = none := (bif0 (withVals0 fun _ => rfl) rfl)
noncomputable def c_spec_l4Has_0 : Code := (loopsIn body_spec_l4Has).getD 0 .skip
theorem ls_spec_l4Has : loopsIn body_spec_l4Has = [c_spec_l4Has_0] := by kernel_rfl
theorem rd_spec_l4Has_2 (N n : Nat) (x : Vals ks_spec_l4Has_l2) (K : Ks) : L_spec_l4Has N (n + 1) 2 (shape ks_spec_l4Has_l2 x) (h_spec_l4Has.onOut 2 K) = peRound h_spec_l4Has (Orc.of (es_spec_l4Has N)) (mixL (L_spec_l4Has N) N n 2) c_spec_l4Has_0 (shape ks_spec_l4Has_l2 x) (h_spec_l4Has.onOut 2 K) := by kernel_rfl
theorem fn_spec_l4Has (N : Nat) (x : AVals sg_spec_l4Has) (kf : Ret → Option Ret) : F_spec_l4Has N x kf = peFunc h_spec_l4Has (Orc.of (es_spec_l4Has N)) (L_spec_l4Has N N) Tryz.f180 (ashape sg_spec_l4Has x) kf := by kernel_rfl
theorem sd_spec_l4Has (N : Nat) : Sound Tryz.prog 180 (run_spec_l4Has N) := fun_ok2 (hh := h_spec_l4Has) mixed tab_ok (es := es_spec_l4Has N) trivial (fn := Tryz.f180) (body := body_spec_l4Has) (by kernel_rfl) (by kernel_rfl) (by kernel_rfl) (by kernel_rfl) (by kernel_rfl) (Lf := L_spec_l4Has N) (L0_spec_l4Has N) ls_spec_l4Has (round_cons (key := 2) (ks := ks_spec_l4Has_l2) (by kernel_rfl) (by kernel_rfl) (rd_spec_l4Has_2 N) trivial) (N := N) (by kernel_rfl) (fn_spec_l4Has N) (.inl (by kernel_rfl))
/-! spec_HaveMet -/
noncomputable def h_spec_HaveMet : Hint := { tab, hn := [], loops := [], outs := [], ords := [] }
noncomputable def sg_spec_HaveMet : List AK := [.v (.sl tQIIIIILIE) .k, .v (.int .i64) .k, .v (.int .i64) .k]
noncomputable def F_spec_HaveMet (N : Nat) (x : AVals sg_spec_HaveMet) (kf : Ret → Option Ret) : Option Ret := spec_HaveMet N x.1 x.2.1 x.2.2.1 (fun r0 => kf ⟨[⟨.bool, .k, r0⟩], []⟩)
noncomputable def run_spec_HaveMet (N : Nat) := runOf sg_spec_HaveMet (F_spec_HaveMet N)
noncomputable def es_spec_HaveMet (N : Nat) : List Entry := [⟨78, [.val, .val], (run_spec_FindTeam N)⟩, ⟨180, [.val, .val], (run_spec_l4Has N)⟩]
noncomputable def body_spec_HaveMet : Code := match Tryz.f210.body with | some c => c | none => .skip
noncomputable def L_spec_HaveMet (N n : Nat) (key : Nat) (S : St) (K : Ks) : Option Ret := none
theorem L0_spec_HaveMet (N key : Nat) (S : St) (K : Ks) : L_spec_HaveMet N 0 key S K = none := rfl
theorem ls_spec_HaveMet : loopsIn body_spec_HaveMet = [] := by kernel_rfl
theorem fn_spec_HaveMet (N : Nat) (x : AVals sg_spec_HaveMet) (kf : Ret → Option Ret) : F_spec_HaveMet N x kf = peFunc h_spec_HaveMet (Orc.of (es_spec_HaveMet N)) (L_spec_HaveMet N N) Tryz.f210 (ashape sg_spec_HaveMet x) kf := by kernel_rfl
theorem sd_spec_HaveMet (N : Nat) : Sound Tryz.prog 210 (run_spec_HaveMet N) := fun_ok2 (hh := h_spec_HaveMet) mixed tab_ok (es := es_spec_HaveMet N) ⟨sd_spec_FindTeam N, ⟨sd_spec_l4Has N, trivial⟩⟩ (fn := Tryz.f210) (body := body_spec_HaveMet) (by kernel_rfl) (by kernel_rfl) (by kernel_rfl) (by kernel_rfl) (by kernel_rfl) (Lf := L_spec_HaveMet N) (L0_spec_HaveMet N) ls_spec_HaveMet trivial (N := N) (by kernel_rfl) (fn_spec_HaveMet N) (.inl (by kernel_rfl))
/-! spec_MayMeet -/
noncomputable def h_spec_MayMeet : Hint := { tab, hn := [], loops := [], outs := [], ords := [(3, (OT.seq [0, 1, 2, 3, 4, 5, 6, 7, 8, 9, 10, 11, 12, 13, 14, 15, 16, 17, 18, 19, 20, 21, 22, 23, 24, 25, 26, 27, 28, 29, 30, 31, 32, 33, 34, 35] .done))] }
noncomputable def sg_spec_MayMeet : List AK := [.v (.sl tQIIIIILIE) .k, .v (.int .i64) .k, .v (.int .i64) .k]
noncomputable def F_spec_MayMeet (N : Nat) (x : AVals sg_spec_MayMeet) (kf : Ret → Option Ret) : Option Ret := spec_MayMeet N x.1 x.2.1 x.2.2.1 (fun r0 => kf ⟨[⟨.bool, .k, r0⟩], []⟩)
noncomputable def run_spec_MayMeet (N : Nat) := runOf sg_spec_MayMeet (F_spec_MayMeet N)
noncomputable def es_spec_MayMeet (N : Nat) : List Entry := [⟨78, [.val, .val], (run_spec_FindTeam N)⟩, ⟨123, [.val], (run_spec_AreTeams N)⟩, ⟨210, [.val, .val, .val], (run_spec_HaveMet N)⟩]
noncomputable def body_spec_MayMeet : Code := match Tryz.f179.body with | some c => c | none => .skip
noncomputable def L_spec_MayMeet (N n : Nat) (key : Nat) (S : St) (K : Ks) : Option Ret := none
theorem L0_spec_MayMeet (N key : Nat) (S : St) (K : Ks) : L_spec_MayMeet N 0 key S K = none := rfl
theorem ls_spec_MayMeet : loopsIn body_spec_MayMeet = [] := by kernel_rfl
theorem fn_spec_MayMeet (N : Nat) (x : AVals sg_spec_MayMeet) (kf : Ret → Option Ret) : F_spec_MayMeet N x kf = peFunc h_spec_MayMeet (Orc.of (es_spec_MayMeet N)) (L_spec_MayMeet N N) Tryz.f179 (ashape sg_spec_MayMeet x) kf := by kernel_rfl
theorem sd_spec_MayMeet (N : Nat) : Sound Tryz.prog 179 (run_spec_MayMeet N) := fun_ok2 (hh := h_spec_MayMeet) mixed tab_ok (es := es_spec_MayMeet N) ⟨sd_spec_FindTeam N, ⟨sd_spec_AreTeams N, ⟨sd_spec_HaveMet N, trivial⟩⟩⟩ (fn := Tryz.f179) (body := body_spec_MayMeet) (by kernel_rfl) (by kernel_rfl) (by kernel_rfl) (by kernel_rfl) (by kernel_rfl) (Lf := L_spec_MayMeet N) (L0_spec_MayMeet N) ls_spec_MayMeet trivial (N := N) (by kernel_rfl) (fn_spec_MayMeet N) (.inl (by kernel_rfl))
/-! spec_IsRound -/
noncomputable def ks_spec_IsRound_l3 : List Kd := [.v (.sl tQIIIIILIE) .k, .v (.sl tQIIE) .k, dK, dK, dK, .v (.sl (.int .i64)) (.o 3 none .k), .v (.int .i64) .k, dK, dK, dK, dK, dK, dK, dK, dK, dK, dK, dK, dK, dK, dK, dK, dK, dK, dK, dK, dK, dK, dK, dK, dK, dK, dK, dK, dK, dK, dK, dK, dK, dK, dK, dK, dK, dK, dK, dK, dK, dK, dK, dK, dK, dK, dK, dK, dK, dK, dK, dK, dK, dK, dK, dK, dK, dK, dK, dK, dK]
noncomputable def ko_spec_IsRound_l3_0 : List Kd := [.v (.sl tQIIIIILIE) .k, dK, dK, dK, dK, .v (.sl (.int .i64)) (.o 3 none .k), dK, dK, dK, dK, dK, dK, dK, dK, dK, dK, dK, dK, dK, dK, dK, dK, dK, dK, dK, dK, dK, dK, dK, dK, dK, dK, dK, dK, dK, dK, dK, dK, dK, dK, dK, dK, dK, dK, dK, dK, dK, dK, dK, dK, dK, dK, dK, dK, dK, dK, dK, dK, dK, dK, dK, dK, dK, dK, dK, dK, dK]
noncomputable def ko_spec_IsRound_l3_1 : List Kd := [dK, dK, dK, dK, .v .bool .k, dK, dK, dK, dK, dK, dK, dK, dK, dK, dK, dK, dK, dK, dK, dK, dK, dK, dK, dK, dK, dK, dK, dK, dK, dK, dK, dK, dK, dK, dK, dK, dK, dK, dK, dK, dK, dK, dK, dK, dK, dK, dK, dK, dK, dK, dK, dK, dK, dK, dK, dK, dK, dK, dK, dK, dK, dK, dK, dK, dK, dK, dK]
noncomputable def h_spec_IsRound : Hint := { tab, hn := [], loops := [(3, ks_spec_IsRound_l3)], outs := [(3, 2, ko_spec_IsRound_l3_0), (3, 1, ko_spec_IsRound_l3_1)], ords := [(5, (OT.seq [0, 1, 2, 3, 4, 5, 6, 7, 8, 9, 10, 11, 12, 13, 14, 15, 16, 17, 18, 19, 20, 21, 22, 23, 24, 25, 26, 27, 28, 29, 30] .done)), (7, (OT.seq [0, 1, 2, 3, 4, 5, 6, 7, 8, 9, 10, 11, 12, 13] .done))] }
noncomputable def sg_spec_IsRound : List AK := [.v (.sl tQIIIIILIE) .k, .v (.sl tQIIE) .k]
noncomputable def F_spec_IsRound (N : Nat) (x : AVals sg_spec_IsRound) (kf : Ret → Option Ret) : Option Ret := spec_IsRound N x.1 x.2.1 (fun r0 => kf ⟨[⟨.bool, .k, r0⟩], []⟩)
noncomputable def run_spec_IsRound (N : Nat) := runOf sg_spec_IsRound (F_spec_IsRound N)
noncomputable def es_spec_IsRound (N : Nat) : List Entry := [⟨179, [.val, .val, .val], (run_spec_MayMeet N)⟩, ⟨180, [.val, .val], (run_spec_l4Has N)⟩, ⟨123, [.val], (run_spec_AreTeams N)⟩]
noncomputable def body_spec_IsRound : Code := match Tryz.f127.body with | some c => c | none => .skip
noncomputable def L_spec_IsRound (N n : Nat) (key : Nat) (S : St) (K : Ks) : Option Ret := bif Nat.beq key 3 then withVals ks_spec_IsRound_l3 S (fun x => spec_IsRound_l3 N x.1 x.2.1 n (fun z0 => K (.x 0) (shape ko_spec_IsRound_l3_0 (x.1, z0, ()))) (fun z0 => K .r (shape ko_spec_IsRound_l3_1 (z0, ()))) x.2.2.1 x.2.2.2.1) else none
theorem L0_spec_IsRound (N key : Nat) (S : St) (K : Ks) : L_spec_IsRound N 0 key S K = none := (bif0 (withVals0 fun _ => rfl) rfl)
noncomputable def c_spec_IsRound_0 : Code := (loopsIn body_spec_IsRound).getD 0 .skip
theorem ls_spec_IsRound : loopsIn body_spec_IsRound = [c_spec_IsRound_0] := by kernel_rfl
theorem rd_spec_IsRound_3 (N n : Nat) (x : Vals ks_spec_IsRound_l3) (K : Ks) : L_spec_IsRound N (n + 1) 3 (shape ks_spec_IsRound_l3 x) (h_spec_IsRound.onOut 3 K) = peRound h_spec_IsRound (Orc.of (es_spec_IsRound N)) (mixL (L_spec_IsRound N) N n 3) c_spec_IsRound_0 (shape ks_spec_IsRound_l3 x) (h_spec_IsRound.onOut 3 K) := by kernel_rfl
theorem fn_spec_IsRound (N : Nat) (x : AVals sg_spec_IsRound) (kf : Ret → Option Ret) : F_spec_IsRound N x kf = peFunc h_spec_IsRound (Orc.of (es_spec_IsRound N)) (L_spec_IsRound N N) Tryz.f127 (ashape sg_spec_IsRound x) kf := by kernel_rfl
theorem sd_spec_IsRound (N : Nat) : Sound Tryz.prog 127 (run_spec_IsRound N) := fun_ok2 (hh := h_spec_IsRound) mixed tab_ok (es := es_spec_IsRound N) ⟨sd_spec_MayMeet N, ⟨sd_spec_l4Has N, ⟨sd_spec_AreTeams N, trivial⟩⟩⟩ (fn := Tryz.f127) (body := body_spec_IsRound) (by kernel_rfl) (by kernel_rfl) (by kernel_rfl) (by kernel_rfl) (by kernel_rfl) (Lf := L_spec_IsRound N) (L0_spec_IsRound N) ls_spec_IsRound (round_cons (key := 3) (ks := ks_spec_IsRound_l3) (by kernel_rfl) (by kernel_rfl) (rd_spec_IsRound_3 N) trivial) (N := N) (by kernel_rfl) (fn_spec_IsRound N) (.inl (by kernel_rfl))
/-! spec_l21Find -/
noncomputable def ks_spec_l21Find_l2 : List Kd := [.v (.sl tQIILIE) .k, .v (.int .i64) .k, dK, dK, dK, .v (.int .i64) .k, dK, dK, dK, dK, dK, dK, dK, dK, dK, dK, dK, dK, dK, dK]
noncomputable def ko_spec_l21Find_l2_0 : List Kd := [dK, dK, dK, dK, dK, dK, dK, dK, dK, dK, dK, dK, dK, dK, dK, dK, dK, dK, dK, dK]
noncomputable def ko_spec_l21Find_l2_1 : List Kd := [dK, dK, dK, dK, .v (.int .i64) .k, dK, dK, dK, dK, dK, dK, dK, dK, dK, dK, dK, dK, dK, dK, dK]
noncomputable def h_spec_l21Find : Hint := { tab, hn := [], loops := [(2, ks_spec_l21Find_l2)], outs := [(2, 2, ko_spec_l21Find_l2_0), (2, 1, ko_spec_l21Find_l2_1)], ords := [] }
noncomputable def sg_spec_l21Find : List AK := [.v (.sl tQIILIE) .k, .v (.int .i64) .k]
noncomputable def F_spec_l21Find (N : Nat) (x : AVals sg_spec_l21Find) (kf : Ret → Option Ret) : Option Ret := spec_l21Find N x.1 x.2.1 (fun r0 => kf ⟨[⟨(.int .i64), .k, r0⟩], []⟩)
noncomputable def run_spec_l21Find (N : Nat) := runOf sg_spec_l21Find (F_spec_l21Find N)
noncomputable def es_spec_l21Find (N : Nat) : List Entry := []
noncomputable def body_spec_l21Find : Code := match Tryz.f93.body with | some c => c | none => .skip
noncomputable def L_spec_l21Find (N n : Nat) (key : Nat) (S : St) (K : Ks) : Option Ret := bif Nat.beq key 2 then withVals ks_spec_l21Find_l2 S (fun x => spec_l21Find_l2 x.1 x.2.1 n (K (.x 0) (shape ko_spec_l21Find_l2_0 ())) (fun z0 => K .r (shape ko_spec_l21Find_l2_1 (z0, ()))) x.2.2.1) else none
theorem L0_spec_l21Find (N key : Nat) (S : St) (K : Ks) : L_spec_l21Find N 0 key S K = none := (bif0 (withVals0 fun _ => rfl) rfl)
noncomputable def c_spec_l21Find_0 : Code := (loopsIn body_spec_l21Find).getD 0 .skip
theorem ls_spec_l21Find : loopsIn body_spec_l21Find = [c_spec_l21Find_0] := by kernel_rfl
theorem rd_spec_l21Find_2 (N n : Nat) (x : Vals ks_spec_l21Find_l2) (K : Ks) : L_spec_l21Find N (n + 1) 2 (shape ks_spec_l21Find_l2 x) (h_spec_l21Find.onOut 2 K) = peRound h_spec_l21Find (Orc.of (es_spec_l21Find N)) (mixL (L_spec_l21Find N) N n 2) c_spec_l21Find_0 (shape ks_spec_l21Find_l2 x) (h_spec_l21Find.onOut 2 K) := by kernel_rfl
theorem fn_spec_l21Find (N : Nat) (x : AVals sg_spec_l21Find) (kf : Ret → Option Ret) : F_spec_l21Find N x kf = peFunc h_spec_l21Find (Orc.of (es_spec_l21Find N)) (L_spec_l21Find N N) Tryz.f93 (ashape sg_spec_l21Find x) kf := by kernel_rfl
theorem sd_spec_l21Find (N : Nat) : Sound Tryz.prog 93 (run_spec_l21Find N) := fun_ok2 (hh := h_spec_l21Find) mixed tab_ok (es := es_spec_l21Find N) trivial (fn := Tryz.f93) (body := body_spec_l21Find) (by kernel_rfl) (by kernel_rfl) (by kernel_rfl) (by kernel_rfl) (by kernel_rfl) (Lf := L_spec_l21Find N) (L0_spec_l21Find N) ls_spec_l21Find (round_cons (key := 2) (ks := ks_spec_l21Find_l2) (by kernel_rfl) (by kernel_rfl) (rd_spec_l21Find_2 N) trivial) (N := N) (by kernel_rfl) (fn_spec_l21Find N) (.inl (by kernel_rfl))
/-! spec_MayJudge -/
noncomputable def h_spec_MayJudge : Hint := { tab, hn := [], loops := [], outs := [], ords := [(3, (OT.seq [0, 1, 2, 3, 4, 5, 6, 7, 8, 9, 10, 11, 12, 13, 14, 15, 16, 17, 18, 19, 20, 21, 22, 23, 24, 25, 26, 27, 28, 29, 30, 31, 32, 33, 34, 35, 36, 37, 38, 39, 40, 41, 42] .done))] }
noncomputable def sg_spec_MayJudge : List AK := [.v (.sl tQIIIIILIE) .k, .v tQIILIE .k, .v tQIIE .k]
noncomputable def F_spec_MayJudge (N : Nat) (x : AVals sg_spec_MayJudge) (kf : Ret → Option Ret) : Option Ret := spec_MayJudge N x.1 x.2.1 x.2.2.1 (fun r0 => kf ⟨[⟨.bool, .k, r0⟩], []⟩)
noncomputable def run_spec_MayJudge (N : Nat) := runOf sg_spec_MayJudge (F_spec_MayJudge N)
noncomputable def es_spec_MayJudge (N : Nat) : List Entry := [⟨78, [.val, .val], (run_spec_FindTeam N)⟩, ⟨180, [.val, .val], (run_spec_l4Has N)⟩]
noncomputable def body_spec_MayJudge : Code := match Tryz.f181.body with | some c => c | none => .skip
noncomputable def L_spec_MayJudge (N n : Nat) (key : Nat) (S : St) (K : Ks) : Option Ret := none
theorem L0_spec_MayJudge (N key : Nat) (S : St) (K : Ks) : L_spec_MayJudge N 0 key S K = none := rfl
theorem ls_spec_MayJudge : loopsIn body_spec_MayJudge = [] := by kernel_rfl
theorem fn_spec_MayJudge (N : Nat) (x : AVals sg_spec_MayJudge) (kf : Ret → Option Ret) : F_spec_MayJudge N x kf = peFunc h_spec_MayJudge (Orc.of (es_spec_MayJudge N)) (L_spec_MayJudge N N) Tryz.f181 (ashape sg_spec_MayJudge x) kf := by kernel_rfl
theorem sd_spec_MayJudge (N : Nat) : Sound Tryz.prog 181 (run_spec_MayJudge N) := fun_ok2 (hh := h_spec_MayJudge) mixed tab_ok (es := es_spec_MayJudge N) ⟨sd_spec_FindTeam N, ⟨sd_spec_l4Has N, trivial⟩⟩ (fn := Tryz.f181) (body := body_spec_MayJudge) (by kernel_rfl) (by kernel_rfl) (by kernel_rfl) (by kernel_rfl) (by kernel_rfl) (Lf := L_spec_MayJudge N) (L0_spec_MayJudge N) ls_spec_MayJudge trivial (N := N) (by kernel_rfl) (fn_spec_MayJudge N) (.inl (by kernel_rfl))
/-! spec_AreSeated -/
noncomputable def ks_spec_AreSeated_l4 : List Kd := [.v (.sl tQIIIIILIE) .k, .v (.sl tQIILIE) .k, .v (.sl tQIIE) .k, .v (.sl (.int .i64)) .k, dK, dK, dK, dK, dK, .v (.int .i64) .k, dK, dK, dK, dK, dK, dK, dK, dK, dK, dK, dK, dK, dK, dK, dK, dK, dK, dK, dK, dK, dK, dK, dK, dK, dK, dK, dK, dK, dK, dK, dK, dK, dK, dK, dK, dK, dK, dK, dK, dK, dK, dK, dK, dK, dK, dK, dK, dK]
noncomputable def ko_spec_AreSeated_l4_0 : List Kd := [dK, dK, dK, dK, dK, dK, dK, dK, dK, dK, dK, dK, dK, dK, dK, dK, dK, dK, dK, dK, dK, dK, dK, dK, dK, dK, dK, dK, dK, dK, dK, dK, dK, dK, dK, dK, dK, dK, dK, dK, dK, dK, dK, dK, dK, dK, dK, dK, dK, dK, dK, dK, dK, dK, dK, dK, dK, dK]
noncomputable def ko_spec_AreSeated_l4_1 : List Kd := [dK, dK, dK, dK, dK, dK, dK, dK, .v .bool .k, dK, dK, dK, dK, dK, dK, dK, dK, dK, dK, dK, dK, dK, dK, dK, dK, dK, dK, dK, dK, dK, dK, dK, dK, dK, dK, dK, dK, dK, dK, dK, dK, dK, dK, dK, dK, dK, dK, dK, dK, dK, dK, dK, dK, dK, dK, dK, dK, dK]
noncomputable def h_spec_AreSeated : Hint := { tab, hn := [], loops := [(4, ks_spec_AreSeated_l4)], outs := [(4, 2, ko_spec_AreSeated_l4_0), (4, 1, ko_spec_AreSeated_l4_1)], ords := [(7, (OT.seq [0, 1, 2, 3, 4, 5, 6, 7, 8, 9, 10, 11, 12, 13, 14, 15, 16, 17, 18, 19, 20, 21, 22, 23, 24] .done))] }
noncomputable def sg_spec_AreSeated : List AK := [.v (.sl tQIIIIILIE) .k, .v (.sl tQIILIE) .k, .v (.sl tQIIE) .k, .v (.sl (.int .i64)) .k]
noncomputable def F_spec_AreSeated (N : Nat) (x : AVals sg_spec_AreSeated) (kf : Ret → Option Ret) : Option Ret := spec_AreSeated N x.1 x.2.1 x.2.2.1 x.2.2.2.1 (fun r0 => kf ⟨[⟨.bool, .k, r0⟩], []⟩)
noncomputable def run_spec_AreSeated (N : Nat) := runOf sg_spec_AreSeated (F_spec_AreSeated N)
noncomputable def es_spec_AreSeated (N : Nat) : List Entry := [⟨124, [.val], (run_spec_AreJudges N)⟩, ⟨93, [.val, .val], (run_spec_l21Find N)⟩, ⟨180, [.val, .val], (run_spec_l4Has N)⟩, ⟨181, [.val, .val, .val], (run_spec_MayJudge N)⟩]
noncomputable def body_spec_AreSeated : Code := match Tryz.f128.body with | some c => c | none => .skip
noncomputable def L_spec_AreSeated (N n : Nat) (key : Nat) (S : St) (K : Ks) : Option Ret := bif Nat.beq key 4 then withVals ks_spec_AreSeated_l4 S (fun x => spec_AreSeated_l4 N x.1 x.2.1 x.2.2.1 x.2.2.2.1 n (K (.x 0) (shape ko_spec_AreSeated_l4_0 ())) (fun z0 => K .r (shape ko_spec_AreSeated_l4_1 (z0, ()))) x.2.2.2.2.1) else none
theorem L0_spec_AreSeated (N key : Nat) (S : St) (K : Ks) : L_spec_AreSeated N 0 key S K = none := (bif0 (withVals0 fun _ => rfl) rfl)
noncomputable def c_spec_AreSeated_0 : Code := (loopsIn body_spec_AreSeated).getD 0 .skip
theorem ls_spec_AreSeated : loopsIn body_spec_AreSeated = [c_spec_AreSeated_0] := by kernel_rfl
theorem rd_spec_AreSeated_4 (N n : Nat) (x : Vals ks_spec_AreSeated_l4) (K : Ks) : L_spec_AreSeated N (n + 1) 4 (shape ks_spec_AreSeated_l4 x) (h_spec_AreSeated.onOut 4 K) = peRound h_spec_AreSeated (Orc.of (es_spec_AreSeated N)) (mixL (L_spec_AreSeated N) N n 4) c_spec_AreSeated_0 (shape ks_spec_AreSeated_l4 x) (h_spec_AreSeated.onOut 4 K) := by kernel_rfl
theorem fn_spec_AreSeated (N : Nat) (x : AVals sg_spec_AreSeated) (kf : Ret → Option Ret) : F_spec_AreSeated N x kf = peFunc h_spec_AreSeated (Orc.of (es_spec_AreSeated N)) (L_spec_AreSeated N N) Tryz.f128 (ashape sg_spec_AreSeated x) kf := by kernel_rfl
theorem sd_spec_AreSeated (N : Nat) : Sound Tryz.prog 128 (run_spec_AreSeated N) := fun_ok2 (hh := h_spec_AreSeated) mixed tab_ok (es := es_spec_AreSeated N) ⟨sd_spec_AreJudges N, ⟨sd_spec_l21Find N, ⟨sd_spec_l4Has N, ⟨sd_spec_MayJudge N, trivial⟩⟩⟩⟩ (fn := Tryz.f128) (body := body_spec_AreSeated) (by kernel_rfl) (by kernel_rfl) (by kernel_rfl) (by kernel_rfl) (by kernel_rfl) (Lf := L_spec_AreSeated N) (L0_spec_AreSeated N) ls_spec_AreSeated (round_cons (key := 4) (ks := ks_spec_AreSeated_l4) (by kernel_rfl) (by kernel_rfl) (rd_spec_AreSeated_4 N) trivial) (N := N) (by kernel_rfl) (fn_spec_AreSeated N) (.inl (by kernel_rfl))
/-! spec_IsBallot -/
noncomputable def h_spec_IsBallot : Hint := { tab, hn := [], loops := [], outs := [], ords := [] }
noncomputable def sg_spec_IsBallot : List AK := [.v tQIIIE .k]
noncomputable def F_spec_IsBallot (N : Nat) (x : AVals sg_spec_IsBallot) (kf : Ret → Option Ret) : Option Ret := spec_IsBallot N x.1 (fun r0 => kf ⟨[⟨.bool, .k, r0⟩], []⟩)
noncomputable def run_spec_IsBallot (N : Nat) := runOf sg_spec_IsBallot (F_spec_IsBallot N)
noncomputable def es_spec_IsBallot (N : Nat) : List Entry := [⟨48, [.val, .val, .val], (run_spec_l1In N)⟩]
noncomputable def body_spec_IsBallot : Code := match Tryz.f50.body with | some c => c | none => .skip
noncomputable def L_spec_IsBallot (N n : Nat) (key : Nat) (S : St) (K : Ks) : Option Ret := none
theorem L0_spec_IsBallot (N key : Nat) (S : St) (K : Ks) : L_spec_IsBallot N 0 key S K = none := rfl
theorem ls_spec_IsBallot : loopsIn body_spec_IsBallot = [] := by kernel_rfl
theorem fn_spec_IsBallot (N : Nat) (x : AVals sg_spec_IsBallot) (kf : Ret → Option Ret) : F_spec_IsBallot N x kf = peFunc h_spec_IsBallot (Orc.of (es_spec_IsBallot N)) (L_spec_IsBallot N N) Tryz.f50 (ashape sg_spec_IsBallot x) kf := by kernel_rfl
theorem sd_spec_IsBallot (N : Nat) : Sound Tryz.prog 50 (run_spec_IsBallot N) := fun_ok2 (hh := h_spec_IsBallot) mixed tab_ok (es := es_spec_IsBallot N) ⟨sd_spec_l1In N, trivial⟩ (fn := Tryz.f50) (body := body_spec_IsBallot) (by kernel_rfl) (by kernel_rfl) (by kernel_rfl) (by kernel_rfl) (by kernel_rfl) (Lf := L_spec_IsBallot N) (L0_spec_IsBallot N) ls_spec_IsBallot trivial (N := N) (by kernel_rfl) (fn_spec_IsBallot N) (.inl (by kernel_rfl))
/-! spec_IsClub -/
noncomputable def ks_spec_IsClub_l7 : List Kd := [dK, .v (.ptr tQLQIIIIILIELQIILIELQIIELILQIIIELQIIIIEIE) (.o 37 none .k), dK, .v (.ptr tQIIIE) (.o 71 none .k), .v (.int .i64) .k, dK, dK, dK, dK, dK, dK, dK, dK, dK, dK, dK, dK, dK, dK, dK, dK, dK, dK, dK, dK, dK, dK, dK, dK, dK, dK, dK, dK, dK, dK, dK, dK, dK, dK, dK, dK, dK, dK, dK, dK, dK, dK, dK, dK, dK, dK, dK, dK, dK, dK, dK, dK, dK, dK, dK, dK, dK, dK, dK, dK, dK, dK, dK, dK, dK, dK, dK, dK, dK, dK, dK, dK, dK, dK, dK, dK, dK, dK, dK, dK, dK, dK, dK, dK, dK, dK, dK, dK, dK, dK, dK, dK, dK, dK, dK, dK, dK, dK, dK, dK, dK, dK, dK, dK, dK, dK, dK, dK, dK, dK]
noncomputable def ko_spec_IsClub_l7_0 : List Kd := [dK, dK, dK, dK, dK, dK, dK, dK, dK, dK, dK, dK, dK, dK, dK, dK, dK, dK, dK, dK, dK, dK, dK, dK, dK, dK, dK, dK, dK, dK, dK, dK, dK, dK, dK, dK, dK, dK, dK, dK, dK, dK, dK, dK, dK, dK, dK, dK, dK, dK, dK, dK, dK, dK, dK, dK, dK, dK, dK, dK, dK, dK, dK, dK, dK, dK, dK, dK, dK, dK, dK, dK, dK, dK, dK, dK, dK, dK, dK, dK, dK, dK, dK, dK, dK, dK, dK, dK, dK, dK, dK, dK, dK, dK, dK, dK, dK, dK, dK, dK, dK, dK, dK, dK, dK, dK, dK, dK, dK, dK, dK, dK, dK, dK, dK]
noncomputable def ko_spec_IsClub_l7_1 : List Kd := [dK, dK, .v .bool .k, dK, dK, dK, dK, dK, dK, dK, dK, dK, dK, dK, dK, dK, dK, dK, dK, dK, dK, dK, dK, dK, dK, dK, dK, dK, dK, dK, dK, dK, dK, dK, dK, dK, dK, dK, dK, dK, dK, dK, dK, dK, dK, dK, dK, dK, dK, dK, dK, dK, dK, dK, dK, dK, dK, dK, dK, dK, dK, dK, dK, dK, dK, dK, dK, dK, dK, dK, dK, dK, dK, dK, dK, dK, dK, dK, dK, dK, dK, dK, dK, dK, dK, dK, dK, dK, dK, dK, dK, dK, dK, dK, dK, dK, dK, dK, dK, dK, dK, dK, dK, dK, dK, dK, dK, dK, dK, dK, dK, dK, dK, dK, dK]
noncomputable def h_spec_IsClub : Hint := { tab, hn := [], loops := [(7, ks_spec_IsClub_l7)], outs := [(7, 2, ko_spec_IsClub_l7_0), (7, 1, ko_spec_IsClub_l7_1)], ords := [(1, (OT.seq [0, 1, 2, 3, 4, 5, 6, 7, 8, 9, 10, 11, 12, 13, 14, 15, 16, 17, 18, 19, 20, 21, 22, 23, 24, 25, 26, 27, 28, 29, 30, 31, 32, 33, 34, 35, 36, 37, 38, 39, 40, 41, 42, 44, 45, 43, 46, 47] .done)), (9, (OT.seq [0, 1, 2, 3, 4, 5, 6, 7, 8, 9, 10, 11, 12, 13, 14, 15, 16, 17, 18, 19, 20, 21, 22, 23, 24, 25, 26, 27, 28, 29] .done))] }
noncomputable def sg_spec_IsClub : List AK := [.v tQLQIIIIILIELQIILIELQIIELILQIIIELQIIIIEIE .k]
noncomputable def F_spec_IsClub (N : Nat) (x : AVals sg_spec_IsClub) (kf : Ret → Option Ret) : Option Ret := spec_IsClub N x.1 (fun r0 => kf ⟨[⟨.bool, .k, r0⟩], []⟩)
noncomputable def run_spec_IsClub (N : Nat) := runOf sg_spec_IsClub (F_spec_IsClub N)
noncomputable def es_spec_IsClub (N : Nat) : List Entry := [⟨123, [.val], (run_spec_AreTeams N)⟩, ⟨124, [.val], (run_spec_AreJudges N)⟩, ⟨125, [.val], (run_spec_AreMinutes N)⟩, ⟨48, [.val, .val, .val], (run_spec_l1In N)⟩, ⟨126, [.val], (run_spec_TotalWins N)⟩, ⟨127, [.val, .val], (run_spec_IsRound N)⟩, ⟨128, [.val, .val, .val, .val], (run_spec_AreSeated N)⟩, ⟨50, [.val], (run_spec_IsBallot N)⟩]
noncomputable def body_spec_IsClub : Code := match Tryz.f47.body with | some c => c | none => .skip
noncomputable def L_spec_IsClub (N n : Nat) (key : Nat) (S : St) (K : Ks) : Option Ret := bif Nat.beq key 7 then withVals ks_spec_IsClub_l7 S (fun x => spec_IsClub_l7 N x.1 x.2.1 n (K (.x 0) (shape ko_spec_IsClub_l7_0 ())) (fun z0 => K .r (shape ko_spec_IsClub_l7_1 (z0, ()))) x.2.2.1) else none
theorem L0_spec_IsClub (N key : Nat) (S : St) (K : Ks) : L_spec_IsClub N 0 key S K = none := (bif0 (withVals0 fun _ => rfl) rfl)
noncomputable def c_spec_IsClub_0 : Code := (loopsIn body_spec_IsClub).getD 0 .skip
theorem ls_spec_IsClub : loopsIn body_spec_IsClub = [c_spec_IsClub_0] := by kernel_rfl
theorem rd_spec_IsClub_7 (N n : Nat) (x : Vals ks_spec_IsClub_l7) (K : Ks) : L_spec_IsClub N (n + 1) 7 (shape ks_spec_IsClub_l7 x) (h_spec_IsClub.onOut 7 K) = peRound h_spec_IsClub (Orc.of (es_spec_IsClub N)) (mixL (L_spec_IsClub N) N n 7) c_spec_IsClub_0 (shape ks_spec_IsClub_l7 x) (h_spec_IsClub.onOut 7 K) := by kernel_rfl
theorem fn_spec_IsClub (N : Nat) (x : AVals sg_spec_IsClub) (kf : Ret → Option Ret) : F_spec_IsClub N x kf = peFunc h_spec_IsClub (Orc.of (es_spec_IsClub N)) (L_spec_IsClub N N) Tryz.f47 (ashape sg_spec_IsClub x) kf := by kernel_rfl
theorem sd_spec_IsClub (N : Nat) : Sound Tryz.prog 47 (run_spec_IsClub N) := fun_ok2 (hh := h_spec_IsClub) mixed tab_ok (es := es_spec_IsClub N) ⟨sd_spec_AreTeams N, ⟨sd_spec_AreJudges N, ⟨sd_spec_AreMinutes N, ⟨sd_spec_l1In N, ⟨sd_spec_TotalWins N, ⟨sd_spec_IsRound N, ⟨sd_spec_AreSeated N, ⟨sd_spec_IsBallot N, trivial⟩⟩⟩⟩⟩⟩⟩⟩ (fn := Tryz.f47) (body := body_spec_IsClub) (by kernel_rfl) (by kernel_rfl) (by kernel_rfl) (by kernel_rfl) (by kernel_rfl) (Lf := L_spec_IsClub N) (L0_spec_IsClub N) ls_spec_IsClub (round_cons (key := 7) (ks := ks_spec_IsClub_l7) (by kernel_rfl) (by kernel_rfl) (rd_spec_IsClub_7 N) trivial) (N := N) (by kernel_rfl) (fn_spec_IsClub N) (.inl (by kernel_rfl))
/-! spec_LastSeal -/
noncomputable def h_spec_LastSeal : Hint := { tab, hn := [], loops := [], outs := [], ords := [] }
noncomputable def sg_spec_LastSeal : List AK := [.v (.sl tQIIIIE) .k]
noncomputable def F_spec_LastSeal (N : Nat) (x : AVals sg_spec_LastSeal) (kf : Ret → Option Ret) : Option Ret := spec_LastSeal N x.1 (fun r0 => kf ⟨[⟨(.int .i64), .k, r0⟩], []⟩)
noncomputable def run_spec_LastSeal (N : Nat) := runOf sg_spec_LastSeal (F_spec_LastSeal N)
noncomputable def es_spec_LastSeal (N : Nat) : List Entry := []
noncomputable def body_spec_LastSeal : Code := match Tryz.f182.body with | some c => c | none => .skip
noncomputable def L_spec_LastSeal (N n : Nat) (key : Nat) (S : St) (K : Ks) : Option Ret := none
theorem L0_spec_LastSeal (N key : Nat) (S : St) (K : Ks) : L_spec_LastSeal N 0 key S K = none := rfl
theorem ls_spec_LastSeal : loopsIn body_spec_LastSeal = [] := by kernel_rfl
theorem fn_spec_LastSeal (N : Nat) (x : AVals sg_spec_LastSeal) (kf : Ret → Option Ret) : F_spec_LastSeal N x kf = peFunc h_spec_LastSeal (Orc.of (es_spec_LastSeal N)) (L_spec_LastSeal N N) Tryz.f182 (ashape sg_spec_LastSeal x) kf := by kernel_rfl
theorem sd_spec_LastSeal (N : Nat) : Sound Tryz.prog 182 (run_spec_LastSeal N) := fun_ok2 (hh := h_spec_LastSeal) mixed tab_ok (es := es_spec_LastSeal N) trivial (fn := Tryz.f182) (body := body_spec_LastSeal) (by kernel_rfl) (by kernel_rfl) (by kernel_rfl) (by kernel_rfl) (by kernel_rfl) (Lf := L_spec_LastSeal N) (L0_spec_LastSeal N) ls_spec_LastSeal trivial (N := N) (by kernel_rfl) (fn_spec_LastSeal N) (.inl (by kernel_rfl))
/-! spec_WriteLine -/
noncomputable def h_spec_WriteLine : Hint := { tab, hn := [], loops := [], outs := [], ords := [(2, (OT.seq [0, 2, 1, 3, 4, 5] .done)), (3, (OT.seq [1] (.any [0, 2, 3, 4] (OT.seq [5, 6] .done))))] }
noncomputable def sg_spec_WriteLine : List AK := [.v (.sl tQIIIIE) .k, .v (.int .i64) .k, .v (.int .i64) .k]
noncomputable def F_spec_WriteLine (N : Nat) (x : AVals sg_spec_WriteLine) (kf : Ret → Option Ret) : Option Ret := spec_WriteLine N x.1 x.2.1 x.2.2.1 (fun r0 r1 => kf ⟨[⟨(.sl tQIIIIE), (.o 126 none .k), r0⟩, ⟨.bool, .k, r1⟩], []⟩)
noncomputable def run_spec_WriteLine (N : Nat) := runOf sg_spec_WriteLine (F_spec_WriteLine N)
noncomputable def es_spec_WriteLine (N : Nat) : List Entry := [⟨182, [.val], (run_spec_LastSeal N)⟩, ⟨178, [.val, .val], (run_spec_l27Seal N)⟩, ⟨125, [.val], (run_spec_AreMinutes N)⟩]
noncomputable def body_spec_WriteLine : Code := match Tryz.f129.body with | some c => c | none => .skip
noncomputable def L_spec_WriteLine (N n : Nat) (key : Nat) (S : St) (K : Ks) : Option Ret := none
theorem L0_spec_WriteLine (N key : Nat) (S : St) (K : Ks) : L_spec_WriteLine N 0 key S K = none := rfl
theorem ls_spec_WriteLine : loopsIn body_spec_WriteLine = [] := by kernel_rfl
theorem fn_spec_WriteLine (N : Nat) (x : AVals sg_spec_WriteLine) (kf : Ret → Option Ret) : F_spec_WriteLine N x kf = peFunc h_spec_WriteLine (Orc.of (es_spec_WriteLine N)) (L_spec_WriteLine N N) Tryz.f129 (ashape sg_spec_WriteLine x) kf := by kernel_rfl
theorem sd_spec_WriteLine (N : Nat) : Sound Tryz.prog 129 (run_spec_WriteLine N) := fun_ok2 (hh := h_spec_WriteLine) mixed tab_ok (es := es_spec_WriteLine N) ⟨sd_spec_LastSeal N, ⟨sd_spec_l27Seal N, ⟨sd_spec_AreMinutes N, trivial⟩⟩⟩ (fn := Tryz.f129) (body := body_spec_WriteLine) (by kernel_rfl) (by kernel_rfl) (by kernel_rfl) (by kernel_rfl) (by kernel_rfl) (Lf := L_spec_WriteLine N) (L0_spec_WriteLine N) ls_spec_WriteLine trivial (N := N) (by kernel_rfl) (fn_spec_WriteLine N) (.inl (by kernel_rfl))
/-! spec_l34Done -/
noncomputable def h_spec_l34Done : Hint := { tab, hn := [], loops := [], outs := [], ords := [] }
noncomputable def sg_spec_l34Done : List AK := [.v tQLQIIIIILIELQIILIELQIIELILQIIIELQIIIIEIE .k, .v tQLQIIIIILIELQIILIELQIIELILQIIIELQIIIIEIE (.p (.o 92 none (.p .k (.p .k (.p .k (.p .k (.p .k (.o 3 none .k))))))) (.p (.o 97 none (.p .k (.p .k (.o 3 none .k)))) (.p (.o 107 none .k) (.p (.o 3 none .k) (.p (.o 71 none .k) (.p (.o 126 none .k) .k)))))), .v .bool .k, .v (.int .i64) .k, .v (.int .i64) .k]
noncomputable def F_spec_l34Done (N : Nat) (x : AVals sg_spec_l34Done) (kf : Ret → Option Ret) : Option Ret := spec_l34Done N x.1 x.2.1 x.2.2.1 x.2.2.2.1 x.2.2.2.2.1 (fun r0 r1 => kf ⟨[⟨tQLQIIIIILIELQIILIELQIIELILQIIIELQIIIIEIE, (.p (.o 92 none (.p .k (.p .k (.p .k (.p .k (.p .k (.o 3 none .k))))))) (.p (.o 97 none (.p .k (.p .k (.o 3 none .k)))) (.p (.o 107 none .k) (.p (.o 3 none .k) (.p (.o 71 none .k) (.p (.o 126 none .k) .k)))))), r0⟩, ⟨.bool, .k, r1⟩], []⟩)
noncomputable def run_spec_l34Done (N : Nat) := runOf sg_spec_l34Done (F_spec_l34Done N)
noncomputable def es_spec_l34Done (N : Nat) : List Entry := [⟨129, [.val, .val, .val], (run_spec_WriteLine N)⟩, ⟨47, [.val], (run_spec_IsClub N)⟩, ⟨46, [.val], (run_spec_l33Copy N)⟩]
noncomputable def body_spec_l34Done : Code := match Tryz.f49.body with | some c => c | none => .skip
noncomputable def L_spec_l34Done (N n : Nat) (key : Nat) (S : St) (K : Ks) : Option Ret := none
theorem L0_spec_l34Done (N key : Nat) (S : St) (K : Ks) : L_spec_l34Done N 0 key S K = none := rfl
theorem ls_spec_l34Done : loopsIn body_spec_l34Done = [] := by kernel_rfl
theorem fn_spec_l34Done (N : Nat) (x : AVals sg_spec_l34Done) (kf : Ret → Option Ret) : F_spec_l34Done N x kf = peFunc h_spec_l34Done (Orc.of (es_spec_l34Done N)) (L_spec_l34Done N N) Tryz.f49 (ashape sg_spec_l34Done x) kf := by kernel_rfl
theorem sd_spec_l34Done (N : Nat) : Sound Tryz.prog 49 (run_spec_l34Done N) := fun_ok2 (hh := h_spec_l34Done) mixed tab_ok (es := es_spec_l34Done N) ⟨sd_spec_WriteLine N, ⟨sd_spec_IsClub N, ⟨sd_spec_l33Copy N, trivial⟩⟩⟩ (fn := Tryz.f49) (body := body_spec_l34Done) (by kernel_rfl) (by kernel_rfl) (by kernel_rfl) (by kernel_rfl) (by kernel_rfl) (Lf := L_spec_l34Done N) (L0_spec_l34Done N) ls_spec_l34Done trivial (N := N) (by kernel_rfl) (fn_spec_l34Done N) (.inl (by kernel_rfl))
end Go.Pv.R
