/- Each function of the program that the law reaches computes its plain function, part 2. -/
import Derived.Test.YtincnfhdeafmmaaGreatSnd1
import Derived.Test.YtincnfhdeafmmaaGreatProg
namespace Go.Pv.R
open Go.Proofs
set_option linter.unusedVariables false
set_option maxRecDepth 100000
/-! laws_eqBallotS -/
noncomputable def ks_laws_eqBallotS_l4 : List Kd := [.v (.sl tQIIIE) .k, .v (.sl tQIIIE) .k, dK, dK, dK, .v (.int .i64) .k, dK, dK, dK, dK, dK, dK, dK, dK, dK, dK, dK, dK, dK, dK, dK, dK, dK, dK, dK, dK, dK]
noncomputable def ko_laws_eqBallotS_l4_0 : List Kd := [dK, dK, dK, dK, dK, dK, dK, dK, dK, dK, dK, dK, dK, dK, dK, dK, dK, dK, dK, dK, dK, dK, dK, dK, dK, dK, dK]
noncomputable def ko_laws_eqBallotS_l4_1 : List Kd := [dK, dK, dK, dK, .v .bool .k, dK, dK, dK, dK, dK, dK, dK, dK, dK, dK, dK, dK, dK, dK, dK, dK, dK, dK, dK, dK, dK, dK]
noncomputable def h_laws_eqBallotS : Hint := { tab, hn := [], loops := [(4, ks_laws_eqBallotS_l4)], outs := [(4, 2, ko_laws_eqBallotS_l4_0), (4, 1, ko_laws_eqBallotS_l4_1)], ords := [(6, (OT.seq [0, 1, 2, 3, 4, 5, 6, 7, 8, 9] .done))] }
noncomputable def sg_laws_eqBallotS : List AK := [.v (.sl tQIIIE) .k, .v (.sl tQIIIE) .k]
noncomputable def F_laws_eqBallotS (N : Nat) (x : AVals sg_laws_eqBallotS) (kf : Ret → Option Ret) : Option Ret := laws_eqBallotS N x.1 x.2.1 (fun r0 => kf ⟨[⟨.bool, .k, r0⟩], []⟩)
noncomputable def run_laws_eqBallotS (N : Nat) := runOf sg_laws_eqBallotS (F_laws_eqBallotS N)
noncomputable def es_laws_eqBallotS (N : Nat) : List Entry := [⟨145, [.val, .val], (run_laws_eqBallot N)⟩]
noncomputable def body_laws_eqBallotS : Code := match Tryz.f64.body with | some c => c | none => .skip
noncomputable def L_laws_eqBallotS (N n : Nat) (key : Nat) (S : St) (K : Ks) : Option Ret := bif Nat.beq key 4 then withVals ks_laws_eqBallotS_l4 S (fun x => laws_eqBallotS_l4 N x.1 x.2.1 n (K (.x 0) (shape ko_laws_eqBallotS_l4_0 ())) (fun z0 => K .r (shape ko_laws_eqBallotS_l4_1 (z0, ()))) x.2.2.1) else none
theorem L0_laws_eqBallotS (N key : Nat) (S : St) (K : Ks) : L_laws_eqBallotS N 0 key S K = none := (bif0 (withVals0 fun _ => rfl) rfl)
noncomputable def c_laws_eqBallotS_0 : Code := (loopsIn body_laws_eqBallotS).getD 0 .skip
theorem ls_laws_eqBallotS : loopsIn body_laws_eqBallotS = [c_laws_eqBallotS_0] := by kernel_rfl
theorem rd_laws_eqBallotS_4 (N n : Nat) (x : Vals ks_laws_eqBallotS_l4) (K : Ks) : L_laws_eqBallotS N (n + 1) 4 (shape ks_laws_eqBallotS_l4 x) (h_laws_eqBallotS.onOut 4 K) = peRound h_laws_eqBallotS (Orc.of (es_laws_eqBallotS N)) (mixL (L_laws_eqBallotS N) N n 4) c_laws_eqBallotS_0 (shape ks_laws_eqBallotS_l4 x) (h_laws_eqBallotS.onOut 4 K) := by kernel_rfl
theorem fn_laws_eqBallotS (N : Nat) (x : AVals sg_laws_eqBallotS) (kf : Ret → Option Ret) : F_laws_eqBallotS N x kf = peFunc h_laws_eqBallotS (Orc.of (es_laws_eqBallotS N)) (L_laws_eqBallotS N N) Tryz.f64 (ashape sg_laws_eqBallotS x) kf := by kernel_rfl
theorem sd_laws_eqBallotS (N : Nat) : Sound Tryz.prog 64 (run_laws_eqBallotS N) := fun_ok2 (hh := h_laws_eqBallotS) mixed tab_ok (es := es_laws_eqBallotS N) ⟨sd_laws_eqBallot N, trivial⟩ (fn := Tryz.f64) (body := body_laws_eqBallotS) (by kernel_rfl) (by kernel_rfl) (by kernel_rfl) (by kernel_rfl) (by kernel_rfl) (Lf := L_laws_eqBallotS N) (L0_laws_eqBallotS N) ls_laws_eqBallotS (round_cons (key := 4) (ks := ks_laws_eqBallotS_l4) (by kernel_rfl) (by kernel_rfl) (rd_laws_eqBallotS_4 N) trivial) (N := N) (by kernel_rfl) (fn_laws_eqBallotS N) (.inl (by kernel_rfl))
/-! laws_eqLine -/
noncomputable def h_laws_eqLine : Hint := { tab, hn := [], loops := [], outs := [], ords := [] }
noncomputable def sg_laws_eqLine : List AK := [.v tQIIIIE .k, .v tQIIIIE .k]
noncomputable def F_laws_eqLine (N : Nat) (x : AVals sg_laws_eqLine) (kf : Ret → Option Ret) : Option Ret := laws_eqLine N x.1 x.2.1 (fun r0 => kf ⟨[⟨.bool, .k, r0⟩], []⟩)
noncomputable def run_laws_eqLine (N : Nat) := runOf sg_laws_eqLine (F_laws_eqLine N)
noncomputable def es_laws_eqLine (N : Nat) : List Entry := []
noncomputable def body_laws_eqLine : Code := match Tryz.f146.body with | some c => c | none => .skip
noncomputable def L_laws_eqLine (N n : Nat) (key : Nat) (S : St) (K : Ks) : Option Ret := none
theorem L0_laws_eqLine (N key : Nat) (S : St) (K : Ks) : L_laws_eqLine N 0 key S K = none := rfl
theorem ls_laws_eqLine : loopsIn body_laws_eqLine = [] := by kernel_rfl
theorem fn_laws_eqLine (N : Nat) (x : AVals sg_laws_eqLine) (kf : Ret → Option Ret) : F_laws_eqLine N x kf = peFunc h_laws_eqLine (Orc.of (es_laws_eqLine N)) (L_laws_eqLine N N) Tryz.f146 (ashape sg_laws_eqLine x) kf := by kernel_rfl
theorem sd_laws_eqLine (N : Nat) : Sound Tryz.prog 146 (run_laws_eqLine N) := fun_ok2 (hh := h_laws_eqLine) mixed tab_ok (es := es_laws_eqLine N) trivial (fn := Tryz.f146) (body := body_laws_eqLine) (by kernel_rfl) (by kernel_rfl) (by kernel_rfl) (by kernel_rfl) (by kernel_rfl) (Lf := L_laws_eqLine N) (L0_laws_eqLine N) ls_laws_eqLine trivial (N := N) (by kernel_rfl) (fn_laws_eqLine N) (.inl (by kernel_rfl))
/-! laws_eqLineS -/
noncomputable def ks_laws_eqLineS_l4 : List Kd := [.v (.sl tQIIIIE) .k, .v (.sl tQIIIIE) .k, dK, dK, dK, .v (.int .i64) .k, dK, dK, dK, dK, dK, dK, dK, dK, dK, dK, dK, dK, dK, dK, dK, dK, dK, dK, dK, dK, dK]
noncomputable def ko_laws_eqLineS_l4_0 : List Kd := [dK, dK, dK, dK, dK, dK, dK, dK, dK, dK, dK, dK, dK, dK, dK, dK, dK, dK, dK, dK, dK, dK, dK, dK, dK, dK, dK]
noncomputable def ko_laws_eqLineS_l4_1 : List Kd := [dK, dK, dK, dK, .v .bool .k, dK, dK, dK, dK, dK, dK, dK, dK, dK, dK, dK, dK, dK, dK, dK, dK, dK, dK, dK, dK, dK, dK]
noncomputable def h_laws_eqLineS : Hint := { tab, hn := [], loops := [(4, ks_laws_eqLineS_l4)], outs := [(4, 2, ko_laws_eqLineS_l4_0), (4, 1, ko_laws_eqLineS_l4_1)], ords := [(6, (OT.seq [0, 1, 2, 3, 4, 5, 6, 7, 8, 9] .done))] }
noncomputable def sg_laws_eqLineS : List AK := [.v (.sl tQIIIIE) .k, .v (.sl tQIIIIE) .k]
noncomputable def F_laws_eqLineS (N : Nat) (x : AVals sg_laws_eqLineS) (kf : Ret → Option Ret) : Option Ret := laws_eqLineS N x.1 x.2.1 (fun r0 => kf ⟨[⟨.bool, .k, r0⟩], []⟩)
noncomputable def run_laws_eqLineS (N : Nat) := runOf sg_laws_eqLineS (F_laws_eqLineS N)
noncomputable def es_laws_eqLineS (N : Nat) : List Entry := [⟨146, [.val, .val], (run_laws_eqLine N)⟩]
noncomputable def body_laws_eqLineS : Code := match Tryz.f65.body with | some c => c | none => .skip
noncomputable def L_laws_eqLineS (N n : Nat) (key : Nat) (S : St) (K : Ks) : Option Ret := bif Nat.beq key 4 then withVals ks_laws_eqLineS_l4 S (fun x => laws_eqLineS_l4 N x.1 x.2.1 n (K (.x 0) (shape ko_laws_eqLineS_l4_0 ())) (fun z0 => K .r (shape ko_laws_eqLineS_l4_1 (z0, ()))) x.2.2.1) else none
theorem L0_laws_eqLineS (N key : Nat) (S : St) (K : Ks) : L_laws_eqLineS N 0 key S K = none := (bif0 (withVals0 fun _ => rfl) rfl)
noncomputable def c_laws_eqLineS_0 : Code := (loopsIn body_laws_eqLineS).getD 0 .skip
theorem ls_laws_eqLineS : loopsIn body_laws_eqLineS = [c_laws_eqLineS_0] := by kernel_rfl
theorem rd_laws_eqLineS_4 (N n : Nat) (x : Vals ks_laws_eqLineS_l4) (K : Ks) : L_laws_eqLineS N (n + 1) 4 (shape ks_laws_eqLineS_l4 x) (h_laws_eqLineS.onOut 4 K) = peRound h_laws_eqLineS (Orc.of (es_laws_eqLineS N)) (mixL (L_laws_eqLineS N) N n 4) c_laws_eqLineS_0 (shape ks_laws_eqLineS_l4 x) (h_laws_eqLineS.onOut 4 K) := by kernel_rfl
theorem fn_laws_eqLineS (N : Nat) (x : AVals sg_laws_eqLineS) (kf : Ret → Option Ret) : F_laws_eqLineS N x kf = peFunc h_laws_eqLineS (Orc.of (es_laws_eqLineS N)) (L_laws_eqLineS N N) Tryz.f65 (ashape sg_laws_eqLineS x) kf := by kernel_rfl
theorem sd_laws_eqLineS (N : Nat) : Sound Tryz.prog 65 (run_laws_eqLineS N) := fun_ok2 (hh := h_laws_eqLineS) mixed tab_ok (es := es_laws_eqLineS N) ⟨sd_laws_eqLine N, trivial⟩ (fn := Tryz.f65) (body := body_laws_eqLineS) (by kernel_rfl) (by kernel_rfl) (by kernel_rfl) (by kernel_rfl) (by kernel_rfl) (Lf := L_laws_eqLineS N) (L0_laws_eqLineS N) ls_laws_eqLineS (round_cons (key := 4) (ks := ks_laws_eqLineS_l4) (by kernel_rfl) (by kernel_rfl) (rd_laws_eqLineS_4 N) trivial) (N := N) (by kernel_rfl) (fn_laws_eqLineS N) (.inl (by kernel_rfl))
/-! laws_eqClub -/
noncomputable def h_laws_eqClub : Hint := { tab, hn := [], loops := [], outs := [], ords := [] }
noncomputable def sg_laws_eqClub : List AK := [.v tQLQIIIIILIELQIILIELQIIELILQIIIELQIIIIEIE .k, .v tQLQIIIIILIELQIILIELQIIELILQIIIELQIIIIEIE .k]
noncomputable def F_laws_eqClub (N : Nat) (x : AVals sg_laws_eqClub) (kf : Ret → Option Ret) : Option Ret := laws_eqClub N x.1 x.2.1 (fun r0 => kf ⟨[⟨.bool, .k, r0⟩], []⟩)
noncomputable def run_laws_eqClub (N : Nat) := runOf sg_laws_eqClub (F_laws_eqClub N)
noncomputable def es_laws_eqClub (N : Nat) : List Entry := [⟨60, [.val, .val], (run_laws_eqTeamS N)⟩, ⟨61, [.val, .val], (run_laws_eqJudgeS N)⟩, ⟨62, [.val, .val], (run_laws_eqPairS N)⟩, ⟨63, [.val, .val], (run_laws_eqIntS N)⟩, ⟨64, [.val, .val], (run_laws_eqBallotS N)⟩, ⟨65, [.val, .val], (run_laws_eqLineS N)⟩]
noncomputable def body_laws_eqClub : Code := match Tryz.f14.body with | some c => c | none => .skip
noncomputable def L_laws_eqClub (N n : Nat) (key : Nat) (S : St) (K : Ks) : Option Ret := none
theorem L0_laws_eqClub (N key : Nat) (S : St) (K : Ks) : L_laws_eqClub N 0 key S K = none := rfl
theorem ls_laws_eqClub : loopsIn body_laws_eqClub = [] := by kernel_rfl
theorem fn_laws_eqClub (N : Nat) (x : AVals sg_laws_eqClub) (kf : Ret → Option Ret) : F_laws_eqClub N x kf = peFunc h_laws_eqClub (Orc.of (es_laws_eqClub N)) (L_laws_eqClub N N) Tryz.f14 (ashape sg_laws_eqClub x) kf := by kernel_rfl
theorem sd_laws_eqClub (N : Nat) : Sound Tryz.prog 14 (run_laws_eqClub N) := fun_ok2 (hh := h_laws_eqClub) mixed tab_ok (es := es_laws_eqClub N) ⟨sd_laws_eqTeamS N, ⟨sd_laws_eqJudgeS N, ⟨sd_laws_eqPairS N, ⟨sd_laws_eqIntS N, ⟨sd_laws_eqBallotS N, ⟨sd_laws_eqLineS N, trivial⟩⟩⟩⟩⟩⟩ (fn := Tryz.f14) (body := body_laws_eqClub) (by kernel_rfl) (by kernel_rfl) (by kernel_rfl) (by kernel_rfl) (by kernel_rfl) (Lf := L_laws_eqClub N) (L0_laws_eqClub N) ls_laws_eqClub trivial (N := N) (by kernel_rfl) (fn_laws_eqClub N) (.inl (by kernel_rfl))
/-! laws_markIntS -/
noncomputable def ks_laws_markIntS_l2 : List Kd := [.v (.sl (.int .i64)) (.o 3 (some 0) .k), .v (.int .i64) .k, dK, dK, dK, .v (.int .i64) .k, dK, dK, dK, dK, dK, dK, dK, dK, dK, dK, dK, dK, dK]
noncomputable def ko_laws_markIntS_l2_0 : List Kd := [.v (.sl (.int .i64)) (.o 3 (some 0) .k), .v (.int .i64) .k, dK, dK, dK, dK, dK, dK, dK, dK, dK, dK, dK, dK, dK, dK, dK, dK, dK]
noncomputable def h_laws_markIntS : Hint := { tab, hn := [], loops := [(2, ks_laws_markIntS_l2)], outs := [(2, 2, ko_laws_markIntS_l2_0)], ords := [], lent := some (0, false) }
noncomputable def sg_laws_markIntS : List AK := [.v (.sl (.int .i64)) (.o 3 (some 0) .k), .v (.int .i64) .k]
noncomputable def F_laws_markIntS (N : Nat) (x : AVals sg_laws_markIntS) (kf : Ret → Option Ret) : Option Ret := laws_markIntS N x.1 x.2.1 (fun r0 z => kf ⟨[⟨(.int .i64), .k, r0⟩], [⟨(.sl (.int .i64)), (.o 3 (some 0) .k), z⟩]⟩)
noncomputable def run_laws_markIntS (N : Nat) := runOf sg_laws_markIntS (F_laws_markIntS N)
noncomputable def es_laws_markIntS (N : Nat) : List Entry := []
noncomputable def body_laws_markIntS : Code := match Tryz.f69.body with | some c => c | none => .skip
noncomputable def L_laws_markIntS (N n : Nat) (key : Nat) (S : St) (K : Ks) : Option Ret := bif Nat.beq key 2 then withVals ks_laws_markIntS_l2 S (fun x => laws_markIntS_l2 n (fun z0 z1 => K (.x 0) (shape ko_laws_markIntS_l2_0 (z0, z1, ()))) x.1 x.2.1 x.2.2.1) else none
theorem L0_laws_markIntS (N key : Nat) (S : St) (K : Ks) : L_laws_markIntS N 0 key S K = none := (bif0 (withVals0 fun _ => rfl) rfl)
noncomputable def c_laws_markIntS_0 : Code := (loopsIn body_laws_markIntS).getD 0 .skip
theorem ls_laws_markIntS : loopsIn body_laws_markIntS = [c_laws_markIntS_0] := by kernel_rfl
theorem rd_laws_markIntS_2 (N n : Nat) (x : Vals ks_laws_markIntS_l2) (K : Ks) : L_laws_markIntS N (n + 1) 2 (shape ks_laws_markIntS_l2 x) (h_laws_markIntS.onOut 2 K) = peRound h_laws_markIntS (Orc.of (es_laws_markIntS N)) (mixL (L_laws_markIntS N) N n 2) c_laws_markIntS_0 (shape ks_laws_markIntS_l2 x) (h_laws_markIntS.onOut 2 K) := by kernel_rfl
theorem fn_laws_markIntS (N : Nat) (x : AVals sg_laws_markIntS) (kf : Ret → Option Ret) : F_laws_markIntS N x kf = peFunc h_laws_markIntS (Orc.of (es_laws_markIntS N)) (L_laws_markIntS N N) Tryz.f69 (ashape sg_laws_markIntS x) kf := by kernel_rfl
theorem sd_laws_markIntS (N : Nat) : Sound Tryz.prog 69 (run_laws_markIntS N) := fun_ok2 (hh := h_laws_markIntS) mixed tab_ok (es := es_laws_markIntS N) trivial (fn := Tryz.f69) (body := body_laws_markIntS) (by kernel_rfl) (by kernel_rfl) (by kernel_rfl) (by kernel_rfl) (by kernel_rfl) (Lf := L_laws_markIntS N) (L0_laws_markIntS N) ls_laws_markIntS (round_cons (key := 2) (ks := ks_laws_markIntS_l2) (by kernel_rfl) (by kernel_rfl) (rd_laws_markIntS_2 N) trivial) (N := N) (by kernel_rfl) (fn_laws_markIntS N) (.inl (by kernel_rfl))
/-! laws_markTeamS -/
noncomputable def ks_laws_markTeamS_l2 : List Kd := [.v (.sl tQIIIIILIE) (.o 92 (some 0) (.p .k (.p .k (.p .k (.p .k (.p .k (.o 3 none .k))))))), .v (.int .i64) .k, dK, dK, dK, .v (.int .i64) .k, dK, dK, dK, dK, dK, dK, dK, dK, dK, dK, dK, dK, dK, dK, dK, dK, dK, dK, dK, dK, dK, dK, dK, dK, dK, dK, dK, dK, dK, dK, dK, dK, dK, dK, dK, dK, dK, dK, dK, dK, dK, dK, dK, dK, dK, dK, dK, dK, dK]
noncomputable def ko_laws_markTeamS_l2_0 : List Kd := [.v (.sl tQIIIIILIE) (.o 92 (some 0) (.p .k (.p .k (.p .k (.p .k (.p .k (.o 3 none .k))))))), .v (.int .i64) .k, dK, dK, dK, dK, dK, dK, dK, dK, dK, dK, dK, dK, dK, dK, dK, dK, dK, dK, dK, dK, dK, dK, dK, dK, dK, dK, dK, dK, dK, dK, dK, dK, dK, dK, dK, dK, dK, dK, dK, dK, dK, dK, dK, dK, dK, dK, dK, dK, dK, dK, dK, dK, dK]
noncomputable def h_laws_markTeamS : Hint := { tab, hn := [], loops := [(2, ks_laws_markTeamS_l2)], outs := [(2, 2, ko_laws_markTeamS_l2_0)], ords := [], lent := some (0, false) }
noncomputable def sg_laws_markTeamS : List AK := [.v (.sl tQIIIIILIE) (.o 92 (some 0) (.p .k (.p .k (.p .k (.p .k (.p .k (.o 3 none .k))))))), .v (.int .i64) .k]
noncomputable def F_laws_markTeamS (N : Nat) (x : AVals sg_laws_markTeamS) (kf : Ret → Option Ret) : Option Ret := laws_markTeamS N x.1 x.2.1 (fun r0 z => kf ⟨[⟨(.int .i64), .k, r0⟩], [⟨(.sl tQIIIIILIE), (.o 92 (some 0) (.p .k (.p .k (.p .k (.p .k (.p .k (.o 3 none .k))))))), z⟩]⟩)
noncomputable def run_laws_markTeamS (N : Nat) := runOf sg_laws_markTeamS (F_laws_markTeamS N)
noncomputable def es_laws_markTeamS (N : Nat) : List Entry := [⟨69, [.lend, .val], (run_laws_markIntS N)⟩]
noncomputable def body_laws_markTeamS : Code := match Tryz.f66.body with | some c => c | none => .skip
noncomputable def L_laws_markTeamS (N n : Nat) (key : Nat) (S : St) (K : Ks) : Option Ret := bif Nat.beq key 2 then withVals ks_laws_markTeamS_l2 S (fun x => laws_markTeamS_l2 N n (fun z0 z1 => K (.x 0) (shape ko_laws_markTeamS_l2_0 (z0, z1, ()))) x.1 x.2.1 x.2.2.1) else none
theorem L0_laws_markTeamS (N key : Nat) (S : St) (K : Ks) : L_laws_markTeamS N 0 key S K = none := (bif0 (withVals0 fun _ => rfl) rfl)
noncomputable def c_laws_markTeamS_0 : Code := (loopsIn body_laws_markTeamS).getD 0 .skip
theorem ls_laws_markTeamS : loopsIn body_laws_markTeamS = [c_laws_markTeamS_0] := by kernel_rfl
theorem rd_laws_markTeamS_2 (N n : Nat) (x : Vals ks_laws_markTeamS_l2) (K : Ks) : L_laws_markTeamS N (n + 1) 2 (shape ks_laws_markTeamS_l2 x) (h_laws_markTeamS.onOut 2 K) = peRound h_laws_markTeamS (Orc.of (es_laws_markTeamS N)) (mixL (L_laws_markTeamS N) N n 2) c_laws_markTeamS_0 (shape ks_laws_markTeamS_l2 x) (h_laws_markTeamS.onOut 2 K) := by kernel_rfl
theorem fn_laws_markTeamS (N : Nat) (x : AVals sg_laws_markTeamS) (kf : Ret → Option Ret) : F_laws_markTeamS N x kf = peFunc h_laws_markTeamS (Orc.of (es_laws_markTeamS N)) (L_laws_markTeamS N N) Tryz.f66 (ashape sg_laws_markTeamS x) kf := by kernel_rfl
theorem sd_laws_markTeamS (N : Nat) : Sound Tryz.prog 66 (run_laws_markTeamS N) := fun_ok2 (hh := h_laws_markTeamS) mixed tab_ok (es := es_laws_markTeamS N) ⟨sd_laws_markIntS N, trivial⟩ (fn := Tryz.f66) (body := body_laws_markTeamS) (by kernel_rfl) (by kernel_rfl) (by kernel_rfl) (by kernel_rfl) (by kernel_rfl) (Lf := L_laws_markTeamS N) (L0_laws_markTeamS N) ls_laws_markTeamS (round_cons (key := 2) (ks := ks_laws_markTeamS_l2) (by kernel_rfl) (by kernel_rfl) (rd_laws_markTeamS_2 N) trivial) (N := N) (by kernel_rfl) (fn_laws_markTeamS N) (.inl (by kernel_rfl))
/-! laws_markJudgeS -/
noncomputable def ks_laws_markJudgeS_l2 : List Kd := [.v (.sl tQIILIE) (.o 97 (some 0) (.p .k (.p .k (.o 3 none .k)))), .v (.int .i64) .k, dK, dK, dK, .v (.int .i64) .k, dK, dK, dK, dK, dK, dK, dK, dK, dK, dK, dK, dK, dK, dK, dK, dK, dK, dK, dK, dK, dK, dK, dK, dK, dK, dK, dK, dK]
noncomputable def ko_laws_markJudgeS_l2_0 : List Kd := [.v (.sl tQIILIE) (.o 97 (some 0) (.p .k (.p .k (.o 3 none .k)))), .v (.int .i64) .k, dK, dK, dK, dK, dK, dK, dK, dK, dK, dK, dK, dK, dK, dK, dK, dK, dK, dK, dK, dK, dK, dK, dK, dK, dK, dK, dK, dK, dK, dK, dK, dK]
noncomputable def h_laws_markJudgeS : Hint := { tab, hn := [], loops := [(2, ks_laws_markJudgeS_l2)], outs := [(2, 2, ko_laws_markJudgeS_l2_0)], ords := [], lent := some (0, false) }
noncomputable def sg_laws_markJudgeS : List AK := [.v (.sl tQIILIE) (.o 97 (some 0) (.p .k (.p .k (.o 3 none .k)))), .v (.int .i64) .k]
noncomputable def F_laws_markJudgeS (N : Nat) (x : AVals sg_laws_markJudgeS) (kf : Ret → Option Ret) : Option Ret := laws_markJudgeS N x.1 x.2.1 (fun r0 z => kf ⟨[⟨(.int .i64), .k, r0⟩], [⟨(.sl tQIILIE), (.o 97 (some 0) (.p .k (.p .k (.o 3 none .k)))), z⟩]⟩)
noncomputable def run_laws_markJudgeS (N : Nat) := runOf sg_laws_markJudgeS (F_laws_markJudgeS N)
noncomputable def es_laws_markJudgeS (N : Nat) : List Entry := [⟨69, [.lend, .val], (run_laws_markIntS N)⟩]
noncomputable def body_laws_markJudgeS : Code := match Tryz.f67.body with | some c => c | none => .skip
noncomputable def L_laws_markJudgeS (N n : Nat) (key : Nat) (S : St) (K : Ks) : Option Ret := bif Nat.beq key 2 then withVals ks_laws_markJudgeS_l2 S (fun x => laws_markJudgeS_l2 N n (fun z0 z1 => K (.x 0) (shape ko_laws_markJudgeS_l2_0 (z0, z1, ()))) x.1 x.2.1 x.2.2.1) else none
theorem L0_laws_markJudgeS (N key : Nat) (S : St) (K : Ks) : L_laws_markJudgeS N 0 key S K = none := (bif0 (withVals0 fun _ => rfl) rfl)
noncomputable def c_laws_markJudgeS_0 : Code := (loopsIn body_laws_markJudgeS).getD 0 .skip
theorem ls_laws_markJudgeS : loopsIn body_laws_markJudgeS = [c_laws_markJudgeS_0] := by kernel_rfl
theorem rd_laws_markJudgeS_2 (N n : Nat) (x : Vals ks_laws_markJudgeS_l2) (K : Ks) : L_laws_markJudgeS N (n + 1) 2 (shape ks_laws_markJudgeS_l2 x) (h_laws_markJudgeS.onOut 2 K) = peRound h_laws_markJudgeS (Orc.of (es_laws_markJudgeS N)) (mixL (L_laws_markJudgeS N) N n 2) c_laws_markJudgeS_0 (shape ks_laws_markJudgeS_l2 x) (h_laws_markJudgeS.onOut 2 K) := by kernel_rfl
theorem fn_laws_markJudgeS (N : Nat) (x : AVals sg_laws_markJudgeS) (kf : Ret → Option Ret) : F_laws_markJudgeS N x kf = peFunc h_laws_markJudgeS (Orc.of (es_laws_markJudgeS N)) (L_laws_markJudgeS N N) Tryz.f67 (ashape sg_laws_markJudgeS x) kf := by kernel_rfl
theorem sd_laws_markJudgeS (N : Nat) : Sound Tryz.prog 67 (run_laws_markJudgeS N) := fun_ok2 (hh := h_laws_markJudgeS) mixed tab_ok (es := es_laws_markJudgeS N) ⟨sd_laws_markIntS N, trivial⟩ (fn := Tryz.f67) (body := body_laws_markJudgeS) (by kernel_rfl) (by kernel_rfl) (by kernel_rfl) (by kernel_rfl) (by kernel_rfl) (Lf := L_laws_markJudgeS N) (L0_laws_markJudgeS N) ls_laws_markJudgeS (round_cons (key := 2) (ks := ks_laws_markJudgeS_l2) (by kernel_rfl) (by kernel_rfl) (rd_laws_markJudgeS_2 N) trivial) (N := N) (by kernel_rfl) (fn_laws_markJudgeS N) (.inl (by kernel_rfl))
/-! laws_markPairS -/
noncomputable def ks_laws_markPairS_l2 : List Kd := [.v (.sl tQIIE) (.o 107 (some 0) .k), .v (.int .i64) .k, dK, dK, dK, .v (.int .i64) .k, dK, dK, dK, dK, dK, dK, dK, dK, dK, dK, dK, dK, dK, dK, dK, dK, dK, dK, dK, dK, dK]
noncomputable def ko_laws_markPairS_l2_0 : List Kd := [.v (.sl tQIIE) (.o 107 (some 0) .k), .v (.int .i64) .k, dK, dK, dK, dK, dK, dK, dK, dK, dK, dK, dK, dK, dK, dK, dK, dK, dK, dK, dK, dK, dK, dK, dK, dK, dK]
noncomputable def h_laws_markPairS : Hint := { tab, hn := [], loops := [(2, ks_laws_markPairS_l2)], outs := [(2, 2, ko_laws_markPairS_l2_0)], ords := [], lent := some (0, false) }
noncomputable def sg_laws_markPairS : List AK := [.v (.sl tQIIE) (.o 107 (some 0) .k), .v (.int .i64) .k]
noncomputable def F_laws_markPairS (N : Nat) (x : AVals sg_laws_markPairS) (kf : Ret → Option Ret) : Option Ret := laws_markPairS N x.1 x.2.1 (fun r0 z => kf ⟨[⟨(.int .i64), .k, r0⟩], [⟨(.sl tQIIE), (.o 107 (some 0) .k), z⟩]⟩)
noncomputable def run_laws_markPairS (N : Nat) := runOf sg_laws_markPairS (F_laws_markPairS N)
noncomputable def es_laws_markPairS (N : Nat) : List Entry := []
noncomputable def body_laws_markPairS : Code := match Tryz.f68.body with | some c => c | none => .skip
noncomputable def L_laws_markPairS (N n : Nat) (key : Nat) (S : St) (K : Ks) : Option Ret := bif Nat.beq key 2 then withVals ks_laws_markPairS_l2 S (fun x => laws_markPairS_l2 n (fun z0 z1 => K (.x 0) (shape ko_laws_markPairS_l2_0 (z0, z1, ()))) x.1 x.2.1 x.2.2.1) else none
theorem L0_laws_markPairS (N key : Nat) (S : St) (K : Ks) : L_laws_markPairS N 0 key S K = none := (bif0 (withVals0 fun _ => rfl) rfl)
noncomputable def c_laws_markPairS_0 : Code := (loopsIn body_laws_markPairS).getD 0 .skip
theorem ls_laws_markPairS : loopsIn body_laws_markPairS = [c_laws_markPairS_0] := by kernel_rfl
theorem rd_laws_markPairS_2 (N n : Nat) (x : Vals ks_laws_markPairS_l2) (K : Ks) : L_laws_markPairS N (n + 1) 2 (shape ks_laws_markPairS_l2 x) (h_laws_markPairS.onOut 2 K) = peRound h_laws_markPairS (Orc.of (es_laws_markPairS N)) (mixL (L_laws_markPairS N) N n 2) c_laws_markPairS_0 (shape ks_laws_markPairS_l2 x) (h_laws_markPairS.onOut 2 K) := by kernel_rfl
theorem fn_laws_markPairS (N : Nat) (x : AVals sg_laws_markPairS) (kf : Ret → Option Ret) : F_laws_markPairS N x kf = peFunc h_laws_markPairS (Orc.of (es_laws_markPairS N)) (L_laws_markPairS N N) Tryz.f68 (ashape sg_laws_markPairS x) kf := by kernel_rfl
theorem sd_laws_markPairS (N : Nat) : Sound Tryz.prog 68 (run_laws_markPairS N) := fun_ok2 (hh := h_laws_markPairS) mixed tab_ok (es := es_laws_markPairS N) trivial (fn := Tryz.f68) (body := body_laws_markPairS) (by kernel_rfl) (by kernel_rfl) (by kernel_rfl) (by kernel_rfl) (by kernel_rfl) (Lf := L_laws_markPairS N) (L0_laws_markPairS N) ls_laws_markPairS (round_cons (key := 2) (ks := ks_laws_markPairS_l2) (by kernel_rfl) (by kernel_rfl) (rd_laws_markPairS_2 N) trivial) (N := N) (by kernel_rfl) (fn_laws_markPairS N) (.inl (by kernel_rfl))
/-! laws_markBallotS -/
noncomputable def ks_laws_markBallotS_l2 : List Kd := [.v (.sl tQIIIE) (.o 71 (some 0) .k), .v (.int .i64) .k, dK, dK, dK, .v (.int .i64) .k, dK, dK, dK, dK, dK, dK, dK, dK, dK, dK, dK, dK, dK, dK, dK, dK, dK, dK, dK, dK, dK, dK, dK, dK, dK, dK, dK, dK]
noncomputable def ko_laws_markBallotS_l2_0 : List Kd := [.v (.sl tQIIIE) (.o 71 (some 0) .k), .v (.int .i64) .k, dK, dK, dK, dK, dK, dK, dK, dK, dK, dK, dK, dK, dK, dK, dK, dK, dK, dK, dK, dK, dK, dK, dK, dK, dK, dK, dK, dK, dK, dK, dK, dK]
noncomputable def h_laws_markBallotS : Hint := { tab, hn := [], loops := [(2, ks_laws_markBallotS_l2)], outs := [(2, 2, ko_laws_markBallotS_l2_0)], ords := [], lent := some (0, false) }
noncomputable def sg_laws_markBallotS : List AK := [.v (.sl tQIIIE) (.o 71 (some 0) .k), .v (.int .i64) .k]
noncomputable def F_laws_markBallotS (N : Nat) (x : AVals sg_laws_markBallotS) (kf : Ret → Option Ret) : Option Ret := laws_markBallotS N x.1 x.2.1 (fun r0 z => kf ⟨[⟨(.int .i64), .k, r0⟩], [⟨(.sl tQIIIE), (.o 71 (some 0) .k), z⟩]⟩)
noncomputable def run_laws_markBallotS (N : Nat) := runOf sg_laws_markBallotS (F_laws_markBallotS N)
noncomputable def es_laws_markBallotS (N : Nat) : List Entry := []
noncomputable def body_laws_markBallotS : Code := match Tryz.f70.body with | some c => c | none => .skip
noncomputable def L_laws_markBallotS (N n : Nat) (key : Nat) (S : St) (K : Ks) : Option Ret := bif Nat.beq key 2 then withVals ks_laws_markBallotS_l2 S (fun x => laws_markBallotS_l2 n (fun z0 z1 => K (.x 0) (shape ko_laws_markBallotS_l2_0 (z0, z1, ()))) x.1 x.2.1 x.2.2.1) else none
theorem L0_laws_markBallotS (N key : Nat) (S : St) (K : Ks) : L_laws_markBallotS N 0 key S K = none := (bif0 (withVals0 fun _ => rfl) rfl)
noncomputable def c_laws_markBallotS_0 : Code := (loopsIn body_laws_markBallotS).getD 0 .skip
theorem ls_laws_markBallotS : loopsIn body_laws_markBallotS = [c_laws_markBallotS_0] := by kernel_rfl
theorem rd_laws_markBallotS_2 (N n : Nat) (x : Vals ks_laws_markBallotS_l2) (K : Ks) : L_laws_markBallotS N (n + 1) 2 (shape ks_laws_markBallotS_l2 x) (h_laws_markBallotS.onOut 2 K) = peRound h_laws_markBallotS (Orc.of (es_laws_markBallotS N)) (mixL (L_laws_markBallotS N) N n 2) c_laws_markBallotS_0 (shape ks_laws_markBallotS_l2 x) (h_laws_markBallotS.onOut 2 K) := by kernel_rfl
theorem fn_laws_markBallotS (N : Nat) (x : AVals sg_laws_markBallotS) (kf : Ret → Option Ret) : F_laws_markBallotS N x kf = peFunc h_laws_markBallotS (Orc.of (es_laws_markBallotS N)) (L_laws_markBallotS N N) Tryz.f70 (ashape sg_laws_markBallotS x) kf := by kernel_rfl
theorem sd_laws_markBallotS (N : Nat) : Sound Tryz.prog 70 (run_laws_markBallotS N) := fun_ok2 (hh := h_laws_markBallotS) mixed tab_ok (es := es_laws_markBallotS N) trivial (fn := Tryz.f70) (body := body_laws_markBallotS) (by kernel_rfl) (by kernel_rfl) (by kernel_rfl) (by kernel_rfl) (by kernel_rfl) (Lf := L_laws_markBallotS N) (L0_laws_markBallotS N) ls_laws_markBallotS (round_cons (key := 2) (ks := ks_laws_markBallotS_l2) (by kernel_rfl) (by kernel_rfl) (rd_laws_markBallotS_2 N) trivial) (N := N) (by kernel_rfl) (fn_laws_markBallotS N) (.inl (by kernel_rfl))
/-! laws_markLineS -/
noncomputable def ks_laws_markLineS_l2 : List Kd := [.v (.sl tQIIIIE) (.o 126 (some 0) .k), .v (.int .i64) .k, dK, dK, dK, .v (.int .i64) .k, dK, dK, dK, dK, dK, dK, dK, dK, dK, dK, dK, dK, dK, dK, dK, dK, dK, dK, dK, dK, dK, dK, dK, dK, dK, dK, dK, dK, dK, dK, dK, dK, dK, dK, dK]
noncomputable def ko_laws_markLineS_l2_0 : List Kd := [.v (.sl tQIIIIE) (.o 126 (some 0) .k), .v (.int .i64) .k, dK, dK, dK, dK, dK, dK, dK, dK, dK, dK, dK, dK, dK, dK, dK, dK, dK, dK, dK, dK, dK, dK, dK, dK, dK, dK, dK, dK, dK, dK, dK, dK, dK, dK, dK, dK, dK, dK, dK]
noncomputable def h_laws_markLineS : Hint := { tab, hn := [], loops := [(2, ks_laws_markLineS_l2)], outs := [(2, 2, ko_laws_markLineS_l2_0)], ords := [], lent := some (0, false) }
noncomputable def sg_laws_markLineS : List AK := [.v (.sl tQIIIIE) (.o 126 (some 0) .k), .v (.int .i64) .k]
noncomputable def F_laws_markLineS (N : Nat) (x : AVals sg_laws_markLineS) (kf : Ret → Option Ret) : Option Ret := laws_markLineS N x.1 x.2.1 (fun r0 z => kf ⟨[⟨(.int .i64), .k, r0⟩], [⟨(.sl tQIIIIE), (.o 126 (some 0) .k), z⟩]⟩)
noncomputable def run_laws_markLineS (N : Nat) := runOf sg_laws_markLineS (F_laws_markLineS N)
noncomputable def es_laws_markLineS (N : Nat) : List Entry := []
noncomputable def body_laws_markLineS : Code := match Tryz.f71.body with | some c => c | none => .skip
noncomputable def L_laws_markLineS (N n : Nat) (key : Nat) (S : St) (K : Ks) : Option Ret := bif Nat.beq key 2 then withVals ks_laws_markLineS_l2 S (fun x => laws_markLineS_l2 n (fun z0 z1 => K (.x 0) (shape ko_laws_markLineS_l2_0 (z0, z1, ()))) x.1 x.2.1 x.2.2.1) else none
theorem L0_laws_markLineS (N key : Nat) (S : St) (K : Ks) : L_laws_markLineS N 0 key S K = none := (bif0 (withVals0 fun _ => rfl) rfl)
noncomputable def c_laws_markLineS_0 : Code := (loopsIn body_laws_markLineS).getD 0 .skip
theorem ls_laws_markLineS : loopsIn body_laws_markLineS = [c_laws_markLineS_0] := by kernel_rfl
theorem rd_laws_markLineS_2 (N n : Nat) (x : Vals ks_laws_markLineS_l2) (K : Ks) : L_laws_markLineS N (n + 1) 2 (shape ks_laws_markLineS_l2 x) (h_laws_markLineS.onOut 2 K) = peRound h_laws_markLineS (Orc.of (es_laws_markLineS N)) (mixL (L_laws_markLineS N) N n 2) c_laws_markLineS_0 (shape ks_laws_markLineS_l2 x) (h_laws_markLineS.onOut 2 K) := by kernel_rfl
theorem fn_laws_markLineS (N : Nat) (x : AVals sg_laws_markLineS) (kf : Ret → Option Ret) : F_laws_markLineS N x kf = peFunc h_laws_markLineS (Orc.of (es_laws_markLineS N)) (L_laws_markLineS N N) Tryz.f71 (ashape sg_laws_markLineS x) kf := by kernel_rfl
theorem sd_laws_markLineS (N : Nat) : Sound Tryz.prog 71 (run_laws_markLineS N) := fun_ok2 (hh := h_laws_markLineS) mixed tab_ok (es := es_laws_markLineS N) trivial (fn := Tryz.f71) (body := body_laws_markLineS) (by kernel_rfl) (by kernel_rfl) (by kernel_rfl) (by kernel_rfl) (by kernel_rfl) (Lf := L_laws_markLineS N) (L0_laws_markLineS N) ls_laws_markLineS (round_cons (key := 2) (ks := ks_laws_markLineS_l2) (by kernel_rfl) (by kernel_rfl) (rd_laws_markLineS_2 N) trivial) (N := N) (by kernel_rfl) (fn_laws_markLineS N) (.inl (by kernel_rfl))
/-! laws_markClub -/
noncomputable def h_laws_markClub : Hint := { tab, hn := [], loops := [], outs := [], ords := [], lent := some (2, true) }
noncomputable def sg_laws_markClub : List AK := [.v tQLQIIIIILIELQIILIELQIIELILQIIIELQIIIIEIE (.p (.o 92 (some 0) (.p .k (.p .k (.p .k (.p .k (.p .k (.o 3 none .k))))))) (.p (.o 97 (some 1) (.p .k (.p .k (.o 3 none .k)))) (.p (.o 107 (some 2) .k) (.p (.o 3 (some 3) .k) (.p (.o 71 (some 4) .k) (.p (.o 126 (some 5) .k) .k)))))), .v (.int .i64) .k]
noncomputable def F_laws_markClub (N : Nat) (x : AVals sg_laws_markClub) (kf : Ret → Option Ret) : Option Ret := laws_markClub N x.1 x.2.1 (fun r0 z => kf ⟨[⟨(.int .i64), .k, r0⟩], [⟨tQLQIIIIILIELQIILIELQIIELILQIIIELQIIIIEIE, (.p (.o 92 (some 0) (.p .k (.p .k (.p .k (.p .k (.p .k (.o 3 none .k))))))) (.p (.o 97 (some 1) (.p .k (.p .k (.o 3 none .k)))) (.p (.o 107 (some 2) .k) (.p (.o 3 (some 3) .k) (.p (.o 71 (some 4) .k) (.p (.o 126 (some 5) .k) .k)))))), z⟩]⟩)
noncomputable def run_laws_markClub (N : Nat) := runOf sg_laws_markClub (F_laws_markClub N)
noncomputable def es_laws_markClub (N : Nat) : List Entry := [⟨66, [.lend, .val], (run_laws_markTeamS N)⟩, ⟨67, [.lend, .val], (run_laws_markJudgeS N)⟩, ⟨68, [.lend, .val], (run_laws_markPairS N)⟩, ⟨69, [.lend, .val], (run_laws_markIntS N)⟩, ⟨70, [.lend, .val], (run_laws_markBallotS N)⟩, ⟨71, [.lend, .val], (run_laws_markLineS N)⟩]
noncomputable def body_laws_markClub : Code := match Tryz.f15.body with | some c => c | none => .skip
noncomputable def L_laws_markClub (N n : Nat) (key : Nat) (S : St) (K : Ks) : Option Ret := none
theorem L0_laws_markClub (N key : Nat) (S : St) (K : Ks) : L_laws_markClub N 0 key S K = none := rfl
theorem ls_laws_markClub : loopsIn body_laws_markClub = [] := by kernel_rfl
theorem fn_laws_markClub (N : Nat) (x : AVals sg_laws_markClub) (kf : Ret → Option Ret) : F_laws_markClub N x kf = peFunc h_laws_markClub (Orc.of (es_laws_markClub N)) (L_laws_markClub N N) Tryz.f15 (ashape sg_laws_markClub x) kf := by kernel_rfl
theorem sd_laws_markClub (N : Nat) : Sound Tryz.prog 15 (run_laws_markClub N) := fun_ok2 (hh := h_laws_markClub) mixed tab_ok (es := es_laws_markClub N) ⟨sd_laws_markTeamS N, ⟨sd_laws_markJudgeS N, ⟨sd_laws_markPairS N, ⟨sd_laws_markIntS N, ⟨sd_laws_markBallotS N, ⟨sd_laws_markLineS N, trivial⟩⟩⟩⟩⟩⟩ (fn := Tryz.f15) (body := body_laws_markClub) (by kernel_rfl) (by kernel_rfl) (by kernel_rfl) (by kernel_rfl) (by kernel_rfl) (Lf := L_laws_markClub N) (L0_laws_markClub N) ls_laws_markClub trivial (N := N) (by kernel_rfl) (fn_laws_markClub N) (.inl (by kernel_rfl))
/-! laws_heldIntS -/
noncomputable def ks_laws_heldIntS_l2 : List Kd := [.v (.sl (.int .i64)) .k, .v (.int .i64) .k, dK, dK, dK, .v (.int .i64) .k, dK, dK, dK, dK, dK, dK, dK, dK, dK, dK, dK, dK, dK, dK, dK]
noncomputable def ko_laws_heldIntS_l2_0 : List Kd := [dK, .v (.int .i64) .k, dK, dK, dK, dK, dK, dK, dK, dK, dK, dK, dK, dK, dK, dK, dK, dK, dK, dK, dK]
noncomputable def ko_laws_heldIntS_l2_1 : List Kd := [dK, dK, dK, dK, .v (.int .i64) .k, dK, dK, dK, dK, dK, dK, dK, dK, dK, dK, dK, dK, dK, dK, dK, dK]
noncomputable def h_laws_heldIntS : Hint := { tab, hn := [], loops := [(2, ks_laws_heldIntS_l2)], outs := [(2, 2, ko_laws_heldIntS_l2_0), (2, 1, ko_laws_heldIntS_l2_1)], ords := [] }
noncomputable def sg_laws_heldIntS : List AK := [.v (.sl (.int .i64)) .k, .v (.int .i64) .k]
noncomputable def F_laws_heldIntS (N : Nat) (x : AVals sg_laws_heldIntS) (kf : Ret → Option Ret) : Option Ret := laws_heldIntS N x.1 x.2.1 (fun r0 => kf ⟨[⟨(.int .i64), .k, r0⟩], []⟩)
noncomputable def run_laws_heldIntS (N : Nat) := runOf sg_laws_heldIntS (F_laws_heldIntS N)
noncomputable def es_laws_heldIntS (N : Nat) : List Entry := []
noncomputable def body_laws_heldIntS : Code := match Tryz.f75.body with | some c => c | none => .skip
noncomputable def L_laws_heldIntS (N n : Nat) (key : Nat) (S : St) (K : Ks) : Option Ret := bif Nat.beq key 2 then withVals ks_laws_heldIntS_l2 S (fun x => laws_heldIntS_l2 x.1 n (fun z0 => K (.x 0) (shape ko_laws_heldIntS_l2_0 (z0, ()))) (fun z0 => K .r (shape ko_laws_heldIntS_l2_1 (z0, ()))) x.2.1 x.2.2.1) else none
theorem L0_laws_heldIntS (N key : Nat) (S : St) (K : Ks) : L_laws_heldIntS N 0 key S K = none := (bif0 (withVals0 fun _ => rfl) rfl)
noncomputable def c_laws_heldIntS_0 : Code := (loopsIn body_laws_heldIntS).getD 0 .skip
theorem ls_laws_heldIntS : loopsIn body_laws_heldIntS = [c_laws_heldIntS_0] := by kernel_rfl
theorem rd_laws_heldIntS_2 (N n : Nat) (x : Vals ks_laws_heldIntS_l2) (K : Ks) : L_laws_heldIntS N (n + 1) 2 (shape ks_laws_heldIntS_l2 x) (h_laws_heldIntS.onOut 2 K) = peRound h_laws_heldIntS (Orc.of (es_laws_heldIntS N)) (mixL (L_laws_heldIntS N) N n 2) c_laws_heldIntS_0 (shape ks_laws_heldIntS_l2 x) (h_laws_heldIntS.onOut 2 K) := by kernel_rfl
theorem fn_laws_heldIntS (N : Nat) (x : AVals sg_laws_heldIntS) (kf : Ret → Option Ret) : F_laws_heldIntS N x kf = peFunc h_laws_heldIntS (Orc.of (es_laws_heldIntS N)) (L_laws_heldIntS N N) Tryz.f75 (ashape sg_laws_heldIntS x) kf := by kernel_rfl
theorem sd_laws_heldIntS (N : Nat) : Sound Tryz.prog 75 (run_laws_heldIntS N) := fun_ok2 (hh := h_laws_heldIntS) mixed tab_ok (es := es_laws_heldIntS N) trivial (fn := Tryz.f75) (body := body_laws_heldIntS) (by kernel_rfl) (by kernel_rfl) (by kernel_rfl) (by kernel_rfl) (by kernel_rfl) (Lf := L_laws_heldIntS N) (L0_laws_heldIntS N) ls_laws_heldIntS (round_cons (key := 2) (ks := ks_laws_heldIntS_l2) (by kernel_rfl) (by kernel_rfl) (rd_laws_heldIntS_2 N) trivial) (N := N) (by kernel_rfl) (fn_laws_heldIntS N) (.inl (by kernel_rfl))
/-! laws_heldTeamS -/
noncomputable def ks_laws_heldTeamS_l2 : List Kd := [.v (.sl tQIIIIILIE) .k, .v (.int .i64) .k, dK, dK, dK, .v (.int .i64) .k, dK, dK, dK, dK, dK, dK, dK, dK, dK, dK, dK, dK, dK, dK, dK, dK, dK, dK, dK, dK, dK, dK, dK, dK, dK, dK, dK, dK, dK, dK, dK, dK, dK, dK, dK, dK, dK, dK, dK, dK, dK, dK, dK, dK, dK, dK, dK, dK, dK, dK, dK, dK, dK, dK, dK, dK, dK, dK, dK, dK, dK]
noncomputable def ko_laws_heldTeamS_l2_0 : List Kd := [dK, .v (.int .i64) .k, dK, dK, dK, dK, dK, dK, dK, dK, dK, dK, dK, dK, dK, dK, dK, dK, dK, dK, dK, dK, dK, dK, dK, dK, dK, dK, dK, dK, dK, dK, dK, dK, dK, dK, dK, dK, dK, dK, dK, dK, dK, dK, dK, dK, dK, dK, dK, dK, dK, dK, dK, dK, dK, dK, dK, dK, dK, dK, dK, dK, dK, dK, dK, dK, dK]
noncomputable def ko_laws_heldTeamS_l2_1 : List Kd := [dK, dK, dK, dK, .v (.int .i64) .k, dK, dK, dK, dK, dK, dK, dK, dK, dK, dK, dK, dK, dK, dK, dK, dK, dK, dK, dK, dK, dK, dK, dK, dK, dK, dK, dK, dK, dK, dK, dK, dK, dK, dK, dK, dK, dK, dK, dK, dK, dK, dK, dK, dK, dK, dK, dK, dK, dK, dK, dK, dK, dK, dK, dK, dK, dK, dK, dK, dK, dK, dK]
noncomputable def h_laws_heldTeamS : Hint := { tab, hn := [], loops := [(2, ks_laws_heldTeamS_l2)], outs := [(2, 2, ko_laws_heldTeamS_l2_0), (2, 1, ko_laws_heldTeamS_l2_1)], ords := [] }
noncomputable def sg_laws_heldTeamS : List AK := [.v (.sl tQIIIIILIE) .k, .v (.int .i64) .k]
noncomputable def F_laws_heldTeamS (N : Nat) (x : AVals sg_laws_heldTeamS) (kf : Ret → Option Ret) : Option Ret := laws_heldTeamS N x.1 x.2.1 (fun r0 => kf ⟨[⟨(.int .i64), .k, r0⟩], []⟩)
noncomputable def run_laws_heldTeamS (N : Nat) := runOf sg_laws_heldTeamS (F_laws_heldTeamS N)
noncomputable def es_laws_heldTeamS (N : Nat) : List Entry := [⟨75, [.val, .val], (run_laws_heldIntS N)⟩]
noncomputable def body_laws_heldTeamS : Code := match Tryz.f72.body with | some c => c | none => .skip
noncomputable def L_laws_heldTeamS (N n : Nat) (key : Nat) (S : St) (K : Ks) : Option Ret := bif Nat.beq key 2 then withVals ks_laws_heldTeamS_l2 S (fun x => laws_heldTeamS_l2 N x.1 n (fun z0 => K (.x 0) (shape ko_laws_heldTeamS_l2_0 (z0, ()))) (fun z0 => K .r (shape ko_laws_heldTeamS_l2_1 (z0, ()))) x.2.1 x.2.2.1) else none
theorem L0_laws_heldTeamS (N key : Nat) (S : St) (K : Ks) : L_laws_heldTeamS N 0 key S K = none := (bif0 (withVals0 fun _ => rfl) rfl)
noncomputable def c_laws_heldTeamS_0 : Code := (loopsIn body_laws_heldTeamS).getD 0 .skip
theorem ls_laws_heldTeamS : loopsIn body_laws_heldTeamS = [c_laws_heldTeamS_0] := by kernel_rfl
theorem rd_laws_heldTeamS_2 (N n : Nat) (x : Vals ks_laws_heldTeamS_l2) (K : Ks) : L_laws_heldTeamS N (n + 1) 2 (shape ks_laws_heldTeamS_l2 x) (h_laws_heldTeamS.onOut 2 K) = peRound h_laws_heldTeamS (Orc.of (es_laws_heldTeamS N)) (mixL (L_laws_heldTeamS N) N n 2) c_laws_heldTeamS_0 (shape ks_laws_heldTeamS_l2 x) (h_laws_heldTeamS.onOut 2 K) := by kernel_rfl
theorem fn_laws_heldTeamS (N : Nat) (x : AVals sg_laws_heldTeamS) (kf : Ret → Option Ret) : F_laws_heldTeamS N x kf = peFunc h_laws_heldTeamS (Orc.of (es_laws_heldTeamS N)) (L_laws_heldTeamS N N) Tryz.f72 (ashape sg_laws_heldTeamS x) kf := by kernel_rfl
theorem sd_laws_heldTeamS (N : Nat) : Sound Tryz.prog 72 (run_laws_heldTeamS N) := fun_ok2 (hh := h_laws_heldTeamS) mixed tab_ok (es := es_laws_heldTeamS N) ⟨sd_laws_heldIntS N, trivial⟩ (fn := Tryz.f72) (body := body_laws_heldTeamS) (by kernel_rfl) (by kernel_rfl) (by kernel_rfl) (by kernel_rfl) (by kernel_rfl) (Lf := L_laws_heldTeamS N) (L0_laws_heldTeamS N) ls_laws_heldTeamS (round_cons (key := 2) (ks := ks_laws_heldTeamS_l2) (by kernel_rfl) (by kernel_rfl) (rd_laws_heldTeamS_2 N) trivial) (N := N) (by kernel_rfl) (fn_laws_heldTeamS N) (.inl (by kernel_rfl))
/-! laws_heldJudgeS -/
noncomputable def ks_laws_heldJudgeS_l2 : List Kd := [.v (.sl tQIILIE) .k, .v (.int .i64) .k, dK, dK, dK, .v (.int .i64) .k, dK, dK, dK, dK, dK, dK, dK, dK, dK, dK, dK, dK, dK, dK, dK, dK, dK, dK, dK, dK, dK, dK, dK, dK, dK, dK, dK, dK, dK, dK, dK, dK, dK, dK]
noncomputable def ko_laws_heldJudgeS_l2_0 : List Kd := [dK, .v (.int .i64) .k, dK, dK, dK, dK, dK, dK, dK, dK, dK, dK, dK, dK, dK, dK, dK, dK, dK, dK, dK, dK, dK, dK, dK, dK, dK, dK, dK, dK, dK, dK, dK, dK, dK, dK, dK, dK, dK, dK]
noncomputable def ko_laws_heldJudgeS_l2_1 : List Kd := [dK, dK, dK, dK, .v (.int .i64) .k, dK, dK, dK, dK, dK, dK, dK, dK, dK, dK, dK, dK, dK, dK, dK, dK, dK, dK, dK, dK, dK, dK, dK, dK, dK, dK, dK, dK, dK, dK, dK, dK, dK, dK, dK]
noncomputable def h_laws_heldJudgeS : Hint := { tab, hn := [], loops := [(2, ks_laws_heldJudgeS_l2)], outs := [(2, 2, ko_laws_heldJudgeS_l2_0), (2, 1, ko_laws_heldJudgeS_l2_1)], ords := [] }
noncomputable def sg_laws_heldJudgeS : List AK := [.v (.sl tQIILIE) .k, .v (.int .i64) .k]
noncomputable def F_laws_heldJudgeS (N : Nat) (x : AVals sg_laws_heldJudgeS) (kf : Ret → Option Ret) : Option Ret := laws_heldJudgeS N x.1 x.2.1 (fun r0 => kf ⟨[⟨(.int .i64), .k, r0⟩], []⟩)
noncomputable def run_laws_heldJudgeS (N : Nat) := runOf sg_laws_heldJudgeS (F_laws_heldJudgeS N)
noncomputable def es_laws_heldJudgeS (N : Nat) : List Entry := [⟨75, [.val, .val], (run_laws_heldIntS N)⟩]
noncomputable def body_laws_heldJudgeS : Code := match Tryz.f73.body with | some c => c | none => .skip
noncomputable def L_laws_heldJudgeS (N n : Nat) (key : Nat) (S : St) (K : Ks) : Option Ret := bif Nat.beq key 2 then withVals ks_laws_heldJudgeS_l2 S (fun x => laws_heldJudgeS_l2 N x.1 n (fun z0 => K (.x 0) (shape ko_laws_heldJudgeS_l2_0 (z0, ()))) (fun z0 => K .r (shape ko_laws_heldJudgeS_l2_1 (z0, ()))) x.2.1 x.2.2.1) else none
theorem L0_laws_heldJudgeS (N key : Nat) (S : St) (K : Ks) : L_laws_heldJudgeS N 0 key S K = none := (bif0 (withVals0 fun _ => rfl) rfl)
noncomputable def c_laws_heldJudgeS_0 : Code := (loopsIn body_laws_heldJudgeS).getD 0 .skip
theorem ls_laws_heldJudgeS : loopsIn body_laws_heldJudgeS = [c_laws_heldJudgeS_0] := by kernel_rfl
theorem rd_laws_heldJudgeS_2 (N n : Nat) (x : Vals ks_laws_heldJudgeS_l2) (K : Ks) : L_laws_heldJudgeS N (n + 1) 2 (shape ks_laws_heldJudgeS_l2 x) (h_laws_heldJudgeS.onOut 2 K) = peRound h_laws_heldJudgeS (Orc.of (es_laws_heldJudgeS N)) (mixL (L_laws_heldJudgeS N) N n 2) c_laws_heldJudgeS_0 (shape ks_laws_heldJudgeS_l2 x) (h_laws_heldJudgeS.onOut 2 K) := by kernel_rfl
theorem fn_laws_heldJudgeS (N : Nat) (x : AVals sg_laws_heldJudgeS) (kf : Ret → Option Ret) : F_laws_heldJudgeS N x kf = peFunc h_laws_heldJudgeS (Orc.of (es_laws_heldJudgeS N)) (L_laws_heldJudgeS N N) Tryz.f73 (ashape sg_laws_heldJudgeS x) kf := by kernel_rfl
theorem sd_laws_heldJudgeS (N : Nat) : Sound Tryz.prog 73 (run_laws_heldJudgeS N) := fun_ok2 (hh := h_laws_heldJudgeS) mixed tab_ok (es := es_laws_heldJudgeS N) ⟨sd_laws_heldIntS N, trivial⟩ (fn := Tryz.f73) (body := body_laws_heldJudgeS) (by kernel_rfl) (by kernel_rfl) (by kernel_rfl) (by kernel_rfl) (by kernel_rfl) (Lf := L_laws_heldJudgeS N) (L0_laws_heldJudgeS N) ls_laws_heldJudgeS (round_cons (key := 2) (ks := ks_laws_heldJudgeS_l2) (by kernel_rfl) (by kernel_rfl) (rd_laws_heldJudgeS_2 N) trivial) (N := N) (by kernel_rfl) (fn_laws_heldJudgeS N) (.inl (by kernel_rfl))
/-! laws_heldPairS -/
noncomputable def ks_laws_heldPairS_l2 : List Kd := [.v (.sl tQIIE) .k, .v (.int .i64) .k, dK, dK, dK, .v (.int .i64) .k, dK, dK, dK, dK, dK, dK, dK, dK, dK, dK, dK, dK, dK, dK, dK, dK, dK, dK, dK, dK, dK, dK, dK, dK, dK]
noncomputable def ko_laws_heldPairS_l2_0 : List Kd := [dK, .v (.int .i64) .k, dK, dK, dK, dK, dK, dK, dK, dK, dK, dK, dK, dK, dK, dK, dK, dK, dK, dK, dK, dK, dK, dK, dK, dK, dK, dK, dK, dK, dK]
noncomputable def ko_laws_heldPairS_l2_1 : List Kd := [dK, dK, dK, dK, .v (.int .i64) .k, dK, dK, dK, dK, dK, dK, dK, dK, dK, dK, dK, dK, dK, dK, dK, dK, dK, dK, dK, dK, dK, dK, dK, dK, dK, dK]
noncomputable def h_laws_heldPairS : Hint := { tab, hn := [], loops := [(2, ks_laws_heldPairS_l2)], outs := [(2, 2, ko_laws_heldPairS_l2_0), (2, 1, ko_laws_heldPairS_l2_1)], ords := [] }
noncomputable def sg_laws_heldPairS : List AK := [.v (.sl tQIIE) .k, .v (.int .i64) .k]
noncomputable def F_laws_heldPairS (N : Nat) (x : AVals sg_laws_heldPairS) (kf : Ret → Option Ret) : Option Ret := laws_heldPairS N x.1 x.2.1 (fun r0 => kf ⟨[⟨(.int .i64), .k, r0⟩], []⟩)
noncomputable def run_laws_heldPairS (N : Nat) := runOf sg_laws_heldPairS (F_laws_heldPairS N)
noncomputable def es_laws_heldPairS (N : Nat) : List Entry := []
noncomputable def body_laws_heldPairS : Code := match Tryz.f74.body with | some c => c | none => .skip
noncomputable def L_laws_heldPairS (N n : Nat) (key : Nat) (S : St) (K : Ks) : Option Ret := bif Nat.beq key 2 then withVals ks_laws_heldPairS_l2 S (fun x => laws_heldPairS_l2 x.1 n (fun z0 => K (.x 0) (shape ko_laws_heldPairS_l2_0 (z0, ()))) (fun z0 => K .r (shape ko_laws_heldPairS_l2_1 (z0, ()))) x.2.1 x.2.2.1) else none
theorem L0_laws_heldPairS (N key : Nat) (S : St) (K : Ks) : L_laws_heldPairS N 0 key S K = none := (bif0 (withVals0 fun _ => rfl) rfl)
noncomputable def c_laws_heldPairS_0 : Code := (loopsIn body_laws_heldPairS).getD 0 .skip
theorem ls_laws_heldPairS : loopsIn body_laws_heldPairS = [c_laws_heldPairS_0] := by kernel_rfl
theorem rd_laws_heldPairS_2 (N n : Nat) (x : Vals ks_laws_heldPairS_l2) (K : Ks) : L_laws_heldPairS N (n + 1) 2 (shape ks_laws_heldPairS_l2 x) (h_laws_heldPairS.onOut 2 K) = peRound h_laws_heldPairS (Orc.of (es_laws_heldPairS N)) (mixL (L_laws_heldPairS N) N n 2) c_laws_heldPairS_0 (shape ks_laws_heldPairS_l2 x) (h_laws_heldPairS.onOut 2 K) := by kernel_rfl
theorem fn_laws_heldPairS (N : Nat) (x : AVals sg_laws_heldPairS) (kf : Ret → Option Ret) : F_laws_heldPairS N x kf = peFunc h_laws_heldPairS (Orc.of (es_laws_heldPairS N)) (L_laws_heldPairS N N) Tryz.f74 (ashape sg_laws_heldPairS x) kf := by kernel_rfl
theorem sd_laws_heldPairS (N : Nat) : Sound Tryz.prog 74 (run_laws_heldPairS N) := fun_ok2 (hh := h_laws_heldPairS) mixed tab_ok (es := es_laws_heldPairS N) trivial (fn := Tryz.f74) (body := body_laws_heldPairS) (by kernel_rfl) (by kernel_rfl) (by kernel_rfl) (by kernel_rfl) (by kernel_rfl) (Lf := L_laws_heldPairS N) (L0_laws_heldPairS N) ls_laws_heldPairS (round_cons (key := 2) (ks := ks_laws_heldPairS_l2) (by kernel_rfl) (by kernel_rfl) (rd_laws_heldPairS_2 N) trivial) (N := N) (by kernel_rfl) (fn_laws_heldPairS N) (.inl (by kernel_rfl))
/-! laws_heldBallotS -/
noncomputable def ks_laws_heldBallotS_l2 : List Kd := [.v (.sl tQIIIE) .k, .v (.int .i64) .k, dK, dK, dK, .v (.int .i64) .k, dK, dK, dK, dK, dK, dK, dK, dK, dK, dK, dK, dK, dK, dK, dK, dK, dK, dK, dK, dK, dK, dK, dK, dK, dK, dK, dK, dK, dK, dK, dK, dK, dK, dK]
noncomputable def ko_laws_heldBallotS_l2_0 : List Kd := [dK, .v (.int .i64) .k, dK, dK, dK, dK, dK, dK, dK, dK, dK, dK, dK, dK, dK, dK, dK, dK, dK, dK, dK, dK, dK, dK, dK, dK, dK, dK, dK, dK, dK, dK, dK, dK, dK, dK, dK, dK, dK, dK]
noncomputable def ko_laws_heldBallotS_l2_1 : List Kd := [dK, dK, dK, dK, .v (.int .i64) .k, dK, dK, dK, dK, dK, dK, dK, dK, dK, dK, dK, dK, dK, dK, dK, dK, dK, dK, dK, dK, dK, dK, dK, dK, dK, dK, dK, dK, dK, dK, dK, dK, dK, dK, dK]
noncomputable def h_laws_heldBallotS : Hint := { tab, hn := [], loops := [(2, ks_laws_heldBallotS_l2)], outs := [(2, 2, ko_laws_heldBallotS_l2_0), (2, 1, ko_laws_heldBallotS_l2_1)], ords := [] }
noncomputable def sg_laws_heldBallotS : List AK := [.v (.sl tQIIIE) .k, .v (.int .i64) .k]
noncomputable def F_laws_heldBallotS (N : Nat) (x : AVals sg_laws_heldBallotS) (kf : Ret → Option Ret) : Option Ret := laws_heldBallotS N x.1 x.2.1 (fun r0 => kf ⟨[⟨(.int .i64), .k, r0⟩], []⟩)
noncomputable def run_laws_heldBallotS (N : Nat) := runOf sg_laws_heldBallotS (F_laws_heldBallotS N)
noncomputable def es_laws_heldBallotS (N : Nat) : List Entry := []
noncomputable def body_laws_heldBallotS : Code := match Tryz.f76.body with | some c => c | none => .skip
noncomputable def L_laws_heldBallotS (N n : Nat) (key : Nat) (S : St) (K : Ks) : Option Ret := bif Nat.beq key 2 then withVals ks_laws_heldBallotS_l2 S (fun x => laws_heldBallotS_l2 x.1 n (fun z0 => K (.x 0) (shape ko_laws_heldBallotS_l2_0 (z0, ()))) (fun z0 => K .r (shape ko_laws_heldBallotS_l2_1 (z0, ()))) x.2.1 x.2.2.1) else none
theorem L0_laws_heldBallotS (N key : Nat) (S : St) (K : Ks) : L_laws_heldBallotS N 0 key S K = none := (bif0 (withVals0 fun _ => rfl) rfl)
noncomputable def c_laws_heldBallotS_0 : Code := (loopsIn body_laws_heldBallotS).getD 0 .skip
theorem ls_laws_heldBallotS : loopsIn body_laws_heldBallotS = [c_laws_heldBallotS_0] := by kernel_rfl
theorem rd_laws_heldBallotS_2 (N n : Nat) (x : Vals ks_laws_heldBallotS_l2) (K : Ks) : L_laws_heldBallotS N (n + 1) 2 (shape ks_laws_heldBallotS_l2 x) (h_laws_heldBallotS.onOut 2 K) = peRound h_laws_heldBallotS (Orc.of (es_laws_heldBallotS N)) (mixL (L_laws_heldBallotS N) N n 2) c_laws_heldBallotS_0 (shape ks_laws_heldBallotS_l2 x) (h_laws_heldBallotS.onOut 2 K) := by kernel_rfl
theorem fn_laws_heldBallotS (N : Nat) (x : AVals sg_laws_heldBallotS) (kf : Ret → Option Ret) : F_laws_heldBallotS N x kf = peFunc h_laws_heldBallotS (Orc.of (es_laws_heldBallotS N)) (L_laws_heldBallotS N N) Tryz.f76 (ashape sg_laws_heldBallotS x) kf := by kernel_rfl
theorem sd_laws_heldBallotS (N : Nat) : Sound Tryz.prog 76 (run_laws_heldBallotS N) := fun_ok2 (hh := h_laws_heldBallotS) mixed tab_ok (es := es_laws_heldBallotS N) trivial (fn := Tryz.f76) (body := body_laws_heldBallotS) (by kernel_rfl) (by kernel_rfl) (by kernel_rfl) (by kernel_rfl) (by kernel_rfl) (Lf := L_laws_heldBallotS N) (L0_laws_heldBallotS N) ls_laws_heldBallotS (round_cons (key := 2) (ks := ks_laws_heldBallotS_l2) (by kernel_rfl) (by kernel_rfl) (rd_laws_heldBallotS_2 N) trivial) (N := N) (by kernel_rfl) (fn_laws_heldBallotS N) (.inl (by kernel_rfl))
/-! laws_heldLineS -/
noncomputable def ks_laws_heldLineS_l2 : List Kd := [.v (.sl tQIIIIE) .k, .v (.int .i64) .k, dK, dK, dK, .v (.int .i64) .k, dK, dK, dK, dK, dK, dK, dK, dK, dK, dK, dK, dK, dK, dK, dK, dK, dK, dK, dK, dK, dK, dK, dK, dK, dK, dK, dK, dK, dK, dK, dK, dK, dK, dK, dK, dK, dK, dK, dK, dK, dK, dK, dK]
noncomputable def ko_laws_heldLineS_l2_0 : List Kd := [dK, .v (.int .i64) .k, dK, dK, dK, dK, dK, dK, dK, dK, dK, dK, dK, dK, dK, dK, dK, dK, dK, dK, dK, dK, dK, dK, dK, dK, dK, dK, dK, dK, dK, dK, dK, dK, dK, dK, dK, dK, dK, dK, dK, dK, dK, dK, dK, dK, dK, dK, dK]
noncomputable def ko_laws_heldLineS_l2_1 : List Kd := [dK, dK, dK, dK, .v (.int .i64) .k, dK, dK, dK, dK, dK, dK, dK, dK, dK, dK, dK, dK, dK, dK, dK, dK, dK, dK, dK, dK, dK, dK, dK, dK, dK, dK, dK, dK, dK, dK, dK, dK, dK, dK, dK, dK, dK, dK, dK, dK, dK, dK, dK, dK]
noncomputable def h_laws_heldLineS : Hint := { tab, hn := [], loops := [(2, ks_laws_heldLineS_l2)], outs := [(2, 2, ko_laws_heldLineS_l2_0), (2, 1, ko_laws_heldLineS_l2_1)], ords := [] }
noncomputable def sg_laws_heldLineS : List AK := [.v (.sl tQIIIIE) .k, .v (.int .i64) .k]
noncomputable def F_laws_heldLineS (N : Nat) (x : AVals sg_laws_heldLineS) (kf : Ret → Option Ret) : Option Ret := laws_heldLineS N x.1 x.2.1 (fun r0 => kf ⟨[⟨(.int .i64), .k, r0⟩], []⟩)
noncomputable def run_laws_heldLineS (N : Nat) := runOf sg_laws_heldLineS (F_laws_heldLineS N)
noncomputable def es_laws_heldLineS (N : Nat) : List Entry := []
noncomputable def body_laws_heldLineS : Code := match Tryz.f77.body with | some c => c | none => .skip
noncomputable def L_laws_heldLineS (N n : Nat) (key : Nat) (S : St) (K : Ks) : Option Ret := bif Nat.beq key 2 then withVals ks_laws_heldLineS_l2 S (fun x => laws_heldLineS_l2 x.1 n (fun z0 => K (.x 0) (shape ko_laws_heldLineS_l2_0 (z0, ()))) (fun z0 => K .r (shape ko_laws_heldLineS_l2_1 (z0, ()))) x.2.1 x.2.2.1) else none
theorem L0_laws_heldLineS (N key : Nat) (S : St) (K : Ks) : L_laws_heldLineS N 0 key S K = none := (bif0 (withVals0 fun _ => rfl) rfl)
noncomputable def c_laws_heldLineS_0 : Code := (loopsIn body_laws_heldLineS).getD 0 .skip
theorem ls_laws_heldLineS : loopsIn body_laws_heldLineS = [c_laws_heldLineS_0] := by kernel_rfl
theorem rd_laws_heldLineS_2 (N n : Nat) (x : Vals ks_laws_heldLineS_l2) (K : Ks) : L_laws_heldLineS N (n + 1) 2 (shape ks_laws_heldLineS_l2 x) (h_laws_heldLineS.onOut 2 K) = peRound h_laws_heldLineS (Orc.of (es_laws_heldLineS N)) (mixL (L_laws_heldLineS N) N n 2) c_laws_heldLineS_0 (shape ks_laws_heldLineS_l2 x) (h_laws_heldLineS.onOut 2 K) := by kernel_rfl
theorem fn_laws_heldLineS (N : Nat) (x : AVals sg_laws_heldLineS) (kf : Ret → Option Ret) : F_laws_heldLineS N x kf = peFunc h_laws_heldLineS (Orc.of (es_laws_heldLineS N)) (L_laws_heldLineS N N) Tryz.f77 (ashape sg_laws_heldLineS x) kf := by kernel_rfl
theorem sd_laws_heldLineS (N : Nat) : Sound Tryz.prog 77 (run_laws_heldLineS N) := fun_ok2 (hh := h_laws_heldLineS) mixed tab_ok (es := es_laws_heldLineS N) trivial (fn := Tryz.f77) (body := body_laws_heldLineS) (by kernel_rfl) (by kernel_rfl) (by kernel_rfl) (by kernel_rfl) (by kernel_rfl) (Lf := L_laws_heldLineS N) (L0_laws_heldLineS N) ls_laws_heldLineS (round_cons (key := 2) (ks := ks_laws_heldLineS_l2) (by kernel_rfl) (by kernel_rfl) (rd_laws_heldLineS_2 N) trivial) (N := N) (by kernel_rfl) (fn_laws_heldLineS N) (.inl (by kernel_rfl))
/-! laws_heldClub -/
noncomputable def h_laws_heldClub : Hint := { tab, hn := [], loops := [], outs := [], ords := [] }
noncomputable def sg_laws_heldClub : List AK := [.v tQLQIIIIILIELQIILIELQIIELILQIIIELQIIIIEIE .k, .v (.int .i64) .k]
noncomputable def F_laws_heldClub (N : Nat) (x : AVals sg_laws_heldClub) (kf : Ret → Option Ret) : Option Ret := laws_heldClub N x.1 x.2.1 (fun r0 => kf ⟨[⟨(.int .i64), .k, r0⟩], []⟩)
noncomputable def run_laws_heldClub (N : Nat) := runOf sg_laws_heldClub (F_laws_heldClub N)
noncomputable def es_laws_heldClub (N : Nat) : List Entry := [⟨72, [.val, .val], (run_laws_heldTeamS N)⟩, ⟨73, [.val, .val], (run_laws_heldJudgeS N)⟩, ⟨74, [.val, .val], (run_laws_heldPairS N)⟩, ⟨75, [.val, .val], (run_laws_heldIntS N)⟩, ⟨76, [.val, .val], (run_laws_heldBallotS N)⟩, ⟨77, [.val, .val], (run_laws_heldLineS N)⟩]
noncomputable def body_laws_heldClub : Code := match Tryz.f16.body with | some c => c | none => .skip
noncomputable def L_laws_heldClub (N n : Nat) (key : Nat) (S : St) (K : Ks) : Option Ret := none
theorem L0_laws_heldClub (N key : Nat) (S : St) (K : Ks) : L_laws_heldClub N 0 key S K = none := rfl
theorem ls_laws_heldClub : loopsIn body_laws_heldClub = [] := by kernel_rfl
theorem fn_laws_heldClub (N : Nat) (x : AVals sg_laws_heldClub) (kf : Ret → Option Ret) : F_laws_heldClub N x kf = peFunc h_laws_heldClub (Orc.of (es_laws_heldClub N)) (L_laws_heldClub N N) Tryz.f16 (ashape sg_laws_heldClub x) kf := by kernel_rfl
theorem sd_laws_heldClub (N : Nat) : Sound Tryz.prog 16 (run_laws_heldClub N) := fun_ok2 (hh := h_laws_heldClub) mixed tab_ok (es := es_laws_heldClub N) ⟨sd_laws_heldTeamS N, ⟨sd_laws_heldJudgeS N, ⟨sd_laws_heldPairS N, ⟨sd_laws_heldIntS N, ⟨sd_laws_heldBallotS N, ⟨sd_laws_heldLineS N, trivial⟩⟩⟩⟩⟩⟩ (fn := Tryz.f16) (body := body_laws_heldClub) (by kernel_rfl) (by kernel_rfl) (by kernel_rfl) (by kernel_rfl) (by kernel_rfl) (Lf := L_laws_heldClub N) (L0_laws_heldClub N) ls_laws_heldClub trivial (N := N) (by kernel_rfl) (fn_laws_heldClub N) (.inl (by kernel_rfl))
/-! spec_StepJudge -/
noncomputable def ks_spec_StepJudge_l3 : List Kd := [dK, .v (.int .i64) .k, .v (.int .i64) .k, .v (.ptr tQLQIIIIILIELQIILIELQIIELILQIIIELQIIIIEIE) (.o 37 none .k), dK, dK, .v (.ptr tQLQIIIIILIELQIILIELQIIELILQIIIELQIIIIEIE) (.o 37 none (.p (.o 92 none (.p .k (.p .k (.p .k (.p .k (.p .k (.o 3 none .k))))))) (.p (.o 97 none (.p .k (.p .k (.o 3 none .k)))) (.p (.o 107 none .k) (.p (.o 3 none .k) (.p (.o 71 none .k) (.p (.o 126 none .k) .k))))))), dK, .v (.ptr tQLQIIIIILIELQIILIELQIIELILQIIIELQIIIIEIE) (.o 37 none (.p (.o 92 none (.p .k (.p .k (.p .k (.p .k (.p .k (.o 3 none .k))))))) (.p (.o 97 none (.p .k (.p .k (.o 3 none .k)))) (.p (.o 107 none .k) (.p (.o 3 none .k) (.p (.o 71 none .k) (.p (.o 126 none .k) .k))))))), .v (.int .i64) .k, dK, dK, dK, dK, dK, dK, dK, dK, dK, dK, dK, dK, dK, dK, dK, dK, dK, dK, dK, dK, dK, dK, dK, dK, dK, dK, dK, dK, dK, dK, dK, dK, dK, dK, dK, dK, dK, dK, dK, dK, dK, dK]
noncomputable def ko_spec_StepJudge_l3_0 : List Kd := [dK, .v (.int .i64) .k, .v (.int .i64) .k, .v (.ptr tQLQIIIIILIELQIILIELQIIELILQIIIELQIIIIEIE) (.o 37 none .k), dK, dK, .v (.ptr tQLQIIIIILIELQIILIELQIIELILQIIIELQIIIIEIE) (.o 37 none (.p (.o 92 none (.p .k (.p .k (.p .k (.p .k (.p .k (.o 3 none .k))))))) (.p (.o 97 none (.p .k (.p .k (.o 3 none .k)))) (.p (.o 107 none .k) (.p (.o 3 none .k) (.p (.o 71 none .k) (.p (.o 126 none .k) .k))))))), dK, .v (.ptr tQLQIIIIILIELQIILIELQIIELILQIIIELQIIIIEIE) (.o 37 none (.p (.o 92 none (.p .k (.p .k (.p .k (.p .k (.p .k (.o 3 none .k))))))) (.p (.o 97 none (.p .k (.p .k (.o 3 none .k)))) (.p (.o 107 none .k) (.p (.o 3 none .k) (.p (.o 71 none .k) (.p (.o 126 none .k) .k))))))), .v (.int .i64) .k, dK, dK, dK, dK, dK, dK, dK, dK, dK, dK, dK, dK, dK, dK, dK, dK, dK, dK, dK, dK, dK, dK, dK, dK, dK, dK, dK, dK, dK, dK, dK, dK, dK, dK, dK, dK, dK, dK, dK, dK, dK, dK]
noncomputable def h_spec_StepJudge : Hint := { tab, hn := [], loops := [(3, ks_spec_StepJudge_l3)], outs := [(3, 2, ko_spec_StepJudge_l3_0)], ords := [(5, (OT.seq [0, 1, 2, 3, 5, 6, 7, 10, 12] (.any [4, 8, 9, 11, 13] (OT.seq [14, 15, 16, 17] .done))))] }
noncomputable def sg_spec_StepJudge : List AK := [.v tQLQIIIIILIELQIILIELQIIELILQIIIELQIIIIEIE .k, .v (.int .i64) .k, .v (.int .i64) .k]
noncomputable def F_spec_StepJudge (N : Nat) (x : AVals sg_spec_StepJudge) (kf : Ret → Option Ret) : Option Ret := spec_StepJudge N x.1 x.2.1 x.2.2.1 (fun r0 r1 => kf ⟨[⟨tQLQIIIIILIELQIILIELQIIELILQIIIELQIIIIEIE, (.p (.o 92 none (.p .k (.p .k (.p .k (.p .k (.p .k (.o 3 none .k))))))) (.p (.o 97 none (.p .k (.p .k (.o 3 none .k)))) (.p (.o 107 none .k) (.p (.o 3 none .k) (.p (.o 71 none .k) (.p (.o 126 none .k) .k)))))), r0⟩, ⟨.bool, .k, r1⟩], []⟩)
noncomputable def run_spec_StepJudge (N : Nat) := runOf sg_spec_StepJudge (F_spec_StepJudge N)
noncomputable def es_spec_StepJudge (N : Nat) : List Entry := [⟨46, [.val], (run_spec_l33Copy N)⟩, ⟨83, [.val], (run_spec_l33Judges N)⟩, ⟨49, [.val, .take, .val, .val, .val], (run_spec_l34Done N)⟩]
noncomputable def body_spec_StepJudge : Code := match Tryz.f21.body with | some c => c | none => .skip
noncomputable def L_spec_StepJudge (N n : Nat) (key : Nat) (S : St) (K : Ks) : Option Ret := bif Nat.beq key 3 then withVals ks_spec_StepJudge_l3 S (fun x => spec_StepJudge_l3 x.1 x.2.1 x.2.2.1 x.2.2.2.1 x.2.2.2.2.1 n (fun z0 => K (.x 0) (shape ko_spec_StepJudge_l3_0 (x.1, x.2.1, x.2.2.1, x.2.2.2.1, x.2.2.2.2.1, z0, ()))) x.2.2.2.2.2.1) else none
theorem L0_spec_StepJudge (N key : Nat) (S : St) (K : Ks) : L_spec_StepJudge N 0 key S K = none := (bif0 (withVals0 fun _ => rfl) rfl)
noncomputable def c_spec_StepJudge_0 : Code := (loopsIn body_spec_StepJudge).getD 0 .skip
theorem ls_spec_StepJudge : loopsIn body_spec_StepJudge = [c_spec_StepJudge_0] := by kernel_rfl
theorem rd_spec_StepJudge_3 (N n : Nat) (x : Vals ks_spec_StepJudge_l3) (K : Ks) : L_spec_StepJudge N (n + 1) 3 (shape ks_spec_StepJudge_l3 x) (h_spec_StepJudge.onOut 3 K) = peRound h_spec_StepJudge (Orc.of (es_spec_StepJudge N)) (mixL (L_spec_StepJudge N) N n 3) c_spec_StepJudge_0 (shape ks_spec_StepJudge_l3 x) (h_spec_StepJudge.onOut 3 K) := by kernel_rfl
theorem fn_spec_StepJudge (N : Nat) (x : AVals sg_spec_StepJudge) (kf : Ret → Option Ret) : F_spec_StepJudge N x kf = peFunc h_spec_StepJudge (Orc.of (es_spec_StepJudge N)) (L_spec_StepJudge N N) Tryz.f21 (ashape sg_spec_StepJudge x) kf := by kernel_rfl
theorem sd_spec_StepJudge (N : Nat) : Sound Tryz.prog 21 (run_spec_StepJudge N) := fun_ok2 (hh := h_spec_StepJudge) mixed tab_ok (es := es_spec_StepJudge N) ⟨sd_spec_l33Copy N, ⟨sd_spec_l33Judges N, ⟨sd_spec_l34Done N, trivial⟩⟩⟩ (fn := Tryz.f21) (body := body_spec_StepJudge) (by kernel_rfl) (by kernel_rfl) (by kernel_rfl) (by kernel_rfl) (by kernel_rfl) (Lf := L_spec_StepJudge N) (L0_spec_StepJudge N) ls_spec_StepJudge (round_cons (key := 3) (ks := ks_spec_StepJudge_l3) (by kernel_rfl) (by kernel_rfl) (rd_spec_StepJudge_3 N) trivial) (N := N) (by kernel_rfl) (fn_spec_StepJudge N) (.inl (by kernel_rfl))
/-! impl_judgeAt_1 -/
noncomputable def h_impl_judgeAt_1 : Hint := { tab, hn := [], loops := [], outs := [], ords := [] }
noncomputable def sg_impl_judgeAt_1 : List AK := [.v tQIILIE .k, .v (.ptr (.int .i64)) .k]
noncomputable def F_impl_judgeAt_1 (N : Nat) (x : AVals sg_impl_judgeAt_1) (kf : Ret → Option Ret) : Option Ret := impl_judgeAt_1 N x.1 x.2.1 (fun r0 => kf ⟨[⟨.bool, .k, r0⟩], []⟩)
noncomputable def run_impl_judgeAt_1 (N : Nat) := runOf sg_impl_judgeAt_1 (F_impl_judgeAt_1 N)
noncomputable def es_impl_judgeAt_1 (N : Nat) : List Entry := []
noncomputable def body_impl_judgeAt_1 : Code := match Tryz.f150.body with | some c => c | none => .skip
noncomputable def L_impl_judgeAt_1 (N n : Nat) (key : Nat) (S : St) (K : Ks) : Option Ret := none
theorem L0_impl_judgeAt_1 (N key : Nat) (S : St) (K : Ks) : L_impl_judgeAt_1 N 0 key S K = none := rfl
theorem ls_impl_judgeAt_1 : loopsIn body_impl_judgeAt_1 = [] := by kernel_rfl
theorem fn_impl_judgeAt_1 (N : Nat) (x : AVals sg_impl_judgeAt_1) (kf : Ret → Option Ret) : F_impl_judgeAt_1 N x kf = peFunc h_impl_judgeAt_1 (Orc.of (es_impl_judgeAt_1 N)) (L_impl_judgeAt_1 N N) Tryz.f150 (ashape sg_impl_judgeAt_1 x) kf := by kernel_rfl
theorem sd_impl_judgeAt_1 (N : Nat) : Sound Tryz.prog 150 (run_impl_judgeAt_1 N) := fun_ok2 (hh := h_impl_judgeAt_1) mixed tab_ok (es := es_impl_judgeAt_1 N) trivial (fn := Tryz.f150) (body := body_impl_judgeAt_1) (by kernel_rfl) (by kernel_rfl) (by kernel_rfl) (by kernel_rfl) (by kernel_rfl) (Lf := L_impl_judgeAt_1 N) (L0_impl_judgeAt_1 N) ls_impl_judgeAt_1 trivial (N := N) (by kernel_rfl) (fn_impl_judgeAt_1 N) (.inl (by kernel_rfl))
/-! slices_IndexFunc_Judge_impl_judgeAt_1 -/
noncomputable def ks_slices_IndexFunc_Judge_impl_judgeAt_1_l2 : List Kd := [.v (.sl tQIILIE) .k, .clo 150 [.kv (.ptr (.int .i64))], dK, dK, dK, dK, dK, .v (.int .i64) .k, .v (.int .i64) .k, dK, dK, dK, dK, dK, dK, dK, dK, dK, dK]
noncomputable def ko_slices_IndexFunc_Judge_impl_judgeAt_1_l2_0 : List Kd := [dK, dK, dK, dK, dK, dK, dK, dK, dK, dK, dK, dK, dK, dK, dK, dK, dK, dK, dK]
noncomputable def ko_slices_IndexFunc_Judge_impl_judgeAt_1_l2_1 : List Kd := [dK, dK, dK, dK, .v (.int .i64) .k, dK, dK, dK, dK, dK, dK, dK, dK, dK, dK, dK, dK, dK, dK]
noncomputable def h_slices_IndexFunc_Judge_impl_judgeAt_1 : Hint := { tab, hn := [], loops := [(2, ks_slices_IndexFunc_Judge_impl_judgeAt_1_l2)], outs := [(2, 2, ko_slices_IndexFunc_Judge_impl_judgeAt_1_l2_0), (2, 1, ko_slices_IndexFunc_Judge_impl_judgeAt_1_l2_1)], ords := [] }
noncomputable def sg_slices_IndexFunc_Judge_impl_judgeAt_1 : List AK := [.v (.sl tQIILIE) .k, .fn 150 [(.ptr (.int .i64))]]
noncomputable def F_slices_IndexFunc_Judge_impl_judgeAt_1 (N : Nat) (x : AVals sg_slices_IndexFunc_Judge_impl_judgeAt_1) (kf : Ret → Option Ret) : Option Ret := slices_IndexFunc_Judge_impl_judgeAt_1 N x.1 x.2.1.1 (fun r0 => kf ⟨[⟨(.int .i64), .k, r0⟩], []⟩)
noncomputable def run_slices_IndexFunc_Judge_impl_judgeAt_1 (N : Nat) := runOf sg_slices_IndexFunc_Judge_impl_judgeAt_1 (F_slices_IndexFunc_Judge_impl_judgeAt_1 N)
noncomputable def es_slices_IndexFunc_Judge_impl_judgeAt_1 (N : Nat) : List Entry := [⟨150, [.val], (run_impl_judgeAt_1 N)⟩]
noncomputable def body_slices_IndexFunc_Judge_impl_judgeAt_1 : Code := match Tryz.f149.body with | some c => c | none => .skip
noncomputable def L_slices_IndexFunc_Judge_impl_judgeAt_1 (N n : Nat) (key : Nat) (S : St) (K : Ks) : Option Ret := bif Nat.beq key 2 then withVals ks_slices_IndexFunc_Judge_impl_judgeAt_1_l2 S (fun x => slices_IndexFunc_Judge_impl_judgeAt_1_l2 N x.1 x.2.1.1 x.2.2.1 n (K (.x 0) (shape ko_slices_IndexFunc_Judge_impl_judgeAt_1_l2_0 ())) (fun z0 => K .r (shape ko_slices_IndexFunc_Judge_impl_judgeAt_1_l2_1 (z0, ()))) x.2.2.2.1) else none
theorem L0_slices_IndexFunc_Judge_impl_judgeAt_1 (N key : Nat) (S : St) (K : Ks) : L_slices_IndexFunc_Judge_impl_judgeAt_1 N 0 key S K = none := (bif0 (withVals0 fun _ => rfl) rfl)
noncomputable def c_slices_IndexFunc_Judge_impl_judgeAt_1_0 : Code := (loopsIn body_slices_IndexFunc_Judge_impl_judgeAt_1).getD 0 .skip
theorem ls_slices_IndexFunc_Judge_impl_judgeAt_1 : loopsIn body_slices_IndexFunc_Judge_impl_judgeAt_1 = [c_slices_IndexFunc_Judge_impl_judgeAt_1_0] := by kernel_rfl
theorem rd_slices_IndexFunc_Judge_impl_judgeAt_1_2 (N n : Nat) (x : Vals ks_slices_IndexFunc_Judge_impl_judgeAt_1_l2) (K : Ks) : L_slices_IndexFunc_Judge_impl_judgeAt_1 N (n + 1) 2 (shape ks_slices_IndexFunc_Judge_impl_judgeAt_1_l2 x) (h_slices_IndexFunc_Judge_impl_judgeAt_1.onOut 2 K) = peRound h_slices_IndexFunc_Judge_impl_judgeAt_1 (Orc.of (es_slices_IndexFunc_Judge_impl_judgeAt_1 N)) (mixL (L_slices_IndexFunc_Judge_impl_judgeAt_1 N) N n 2) c_slices_IndexFunc_Judge_impl_judgeAt_1_0 (shape ks_slices_IndexFunc_Judge_impl_judgeAt_1_l2 x) (h_slices_IndexFunc_Judge_impl_judgeAt_1.onOut 2 K) := by kernel_rfl
theorem fn_slices_IndexFunc_Judge_impl_judgeAt_1 (N : Nat) (x : AVals sg_slices_IndexFunc_Judge_impl_judgeAt_1) (kf : Ret → Option Ret) : F_slices_IndexFunc_Judge_impl_judgeAt_1 N x kf = peFunc h_slices_IndexFunc_Judge_impl_judgeAt_1 (Orc.of (es_slices_IndexFunc_Judge_impl_judgeAt_1 N)) (L_slices_IndexFunc_Judge_impl_judgeAt_1 N N) Tryz.f149 (ashape sg_slices_IndexFunc_Judge_impl_judgeAt_1 x) kf := by kernel_rfl
theorem sd_slices_IndexFunc_Judge_impl_judgeAt_1 (N : Nat) : Sound Tryz.prog 149 (run_slices_IndexFunc_Judge_impl_judgeAt_1 N) := fun_ok2 (hh := h_slices_IndexFunc_Judge_impl_judgeAt_1) mixed tab_ok (es := es_slices_IndexFunc_Judge_impl_judgeAt_1 N) ⟨sd_impl_judgeAt_1 N, trivial⟩ (fn := Tryz.f149) (body := body_slices_IndexFunc_Judge_impl_judgeAt_1) (by kernel_rfl) (by kernel_rfl) (by kernel_rfl) (by kernel_rfl) (by kernel_rfl) (Lf := L_slices_IndexFunc_Judge_impl_judgeAt_1 N) (L0_slices_IndexFunc_Judge_impl_judgeAt_1 N) ls_slices_IndexFunc_Judge_impl_judgeAt_1 (round_cons (key := 2) (ks := ks_slices_IndexFunc_Judge_impl_judgeAt_1_l2) (by kernel_rfl) (by kernel_rfl) (rd_slices_IndexFunc_Judge_impl_judgeAt_1_2 N) trivial) (N := N) (by kernel_rfl) (fn_slices_IndexFunc_Judge_impl_judgeAt_1 N) (.inl (by kernel_rfl))
/-! impl_judgeAt -/
noncomputable def h_impl_judgeAt : Hint := { tab, hn := [], loops := [], outs := [], ords := [] }
noncomputable def sg_impl_judgeAt : List AK := [.v (.sl tQIILIE) .k, .v (.int .i64) .k]
noncomputable def F_impl_judgeAt (N : Nat) (x : AVals sg_impl_judgeAt) (kf : Ret → Option Ret) : Option Ret := impl_judgeAt N x.1 x.2.1 (fun r0 => kf ⟨[⟨(.int .i64), .k, r0⟩], []⟩)
noncomputable def run_impl_judgeAt (N : Nat) := runOf sg_impl_judgeAt (F_impl_judgeAt N)
noncomputable def es_impl_judgeAt (N : Nat) : List Entry := [⟨149, [.val, .val], (run_slices_IndexFunc_Judge_impl_judgeAt_1 N)⟩]
noncomputable def body_impl_judgeAt : Code := match Tryz.f84.body with | some c => c | none => .skip
noncomputable def L_impl_judgeAt (N n : Nat) (key : Nat) (S : St) (K : Ks) : Option Ret := none
theorem L0_impl_judgeAt (N key : Nat) (S : St) (K : Ks) : L_impl_judgeAt N 0 key S K = none := rfl
theorem ls_impl_judgeAt : loopsIn body_impl_judgeAt = [] := by kernel_rfl
theorem fn_impl_judgeAt (N : Nat) (x : AVals sg_impl_judgeAt) (kf : Ret → Option Ret) : F_impl_judgeAt N x kf = peFunc h_impl_judgeAt (Orc.of (es_impl_judgeAt N)) (L_impl_judgeAt N N) Tryz.f84 (ashape sg_impl_judgeAt x) kf := by kernel_rfl
theorem sd_impl_judgeAt (N : Nat) : Sound Tryz.prog 84 (run_impl_judgeAt N) := fun_ok2 (hh := h_impl_judgeAt) mixed tab_ok (es := es_impl_judgeAt N) ⟨sd_slices_IndexFunc_Judge_impl_judgeAt_1 N, trivial⟩ (fn := Tryz.f84) (body := body_impl_judgeAt) (by kernel_rfl) (by kernel_rfl) (by kernel_rfl) (by kernel_rfl) (by kernel_rfl) (Lf := L_impl_judgeAt N) (L0_impl_judgeAt N) ls_impl_judgeAt trivial (N := N) (by kernel_rfl) (fn_impl_judgeAt N) (.inl (by kernel_rfl))
/-! slices_Insert_Judge: told once for all lists of structs -/
def ren_slices_Insert_Judge : Go.Shelf.Ren := ⟨fun n => bif Nat.beq n 22 then 85 else bif Nat.beq n 29 then 151 else bif Nat.beq n 30 then 152 else n, fun n => bif Nat.beq n 0 then 0 else bif Nat.beq n 3 then 3 else bif Nat.beq n 4 then 4 else bif Nat.beq n 9 then 97 else bif Nat.beq n 24 then 32 else n, fun n => n⟩
def zs_slices_Insert_Judge : Array Value := #[.int .i64 0, .int .i64 0, .slice none 0 0]
noncomputable def ti_slices_Insert_Judge : TypeInfo := (Tryz.prog.info? 97).get (by kernel_rfl)
theorem ins_slices_Insert_Judge : InsOK Tryz.prog ren_slices_Insert_Judge (Ty.size tQIILIE) zs_slices_Insert_Judge ti_slices_Insert_Judge := { FB := ⟨Tryz.f85.name, by kernel_rfl, by kernel_rfl⟩, FO := ⟨Tryz.f151, by kernel_rfl, by kernel_rfl, by kernel_rfl, by kernel_rfl, by kernel_rfl⟩, mixed := by kernel_rfl, t0 := by kernel_rfl, a0 := fun w => by kernel_rfl, z0 := fun w => by kernel_rfl, v0 := fun w => by kernel_rfl, t3 := by kernel_rfl, a3 := fun w => by kernel_rfl, z3 := fun w => by kernel_rfl, v3 := fun w => by kernel_rfl, t4 := by kernel_rfl, a4 := fun w => by kernel_rfl, z4 := fun w => by kernel_rfl, v4 := fun w => by kernel_rfl, t24 := by kernel_rfl, a24 := fun w => by kernel_rfl, z24 := fun w => by kernel_rfl, v24 := fun w => by kernel_rfl, z9 := fun w => by kernel_rfl, hz := by kernel_rfl, hzo := by kernel_rfl, hi0 := by kernel_rfl, hz0 := by kernel_rfl, hz1 := by kernel_rfl, hby := Nat.le_of_ble_eq_true (by kernel_rfl), hpos := Nat.le_of_ble_eq_true (by kernel_rfl) }
noncomputable def sg_slices_Insert_Judge : List AK := [.v (.sl tQIILIE) (.o 97 none (.p .k (.p .k (.o 3 none .k)))), .v (.int .i64) .k, .v (.sl tQIILIE) (.o 97 none (.p .k (.p .k (.o 3 none .k))))]
noncomputable def F_slices_Insert_Judge (N : Nat) (x : AVals sg_slices_Insert_Judge) (kf : Ret → Option Ret) : Option Ret := slices_Insert_Judge N x.1 x.2.1 x.2.2.1 (fun r0 => kf ⟨[⟨(.sl tQIILIE), (.o 97 none (.p .k (.p .k (.o 3 none .k)))), r0⟩], []⟩)
noncomputable def run_slices_Insert_Judge (N : Nat) := runOf sg_slices_Insert_Judge (F_slices_Insert_Judge N)
theorem sd_slices_Insert_Judge (N : Nat) : Sound Tryz.prog 85 (run_slices_Insert_Judge N) := sound_insert ins_slices_Insert_Judge (.p .k (.p .k (.o 3 none .k))) (by kernel_rfl)
/-! impl_StepJudge -/
noncomputable def ks_impl_StepJudge_l5 : List Kd := [dK, .v (.int .i64) .k, .v (.int .i64) .k, .v (.ptr tQLQIIIIILIELQIILIELQIIELILQIIIELQIIIIEIE) (.o 37 none .k), dK, dK, .v (.ptr tQLQIIIIILIELQIILIELQIIELILQIIIELQIIIIEIE) (.o 37 none (.p (.o 92 none (.p .k (.p .k (.p .k (.p .k (.p .k (.o 3 none .k))))))) (.p (.o 97 none (.p .k (.p .k (.o 3 none .k)))) (.p (.o 107 none .k) (.p (.o 3 none .k) (.p (.o 71 none .k) (.p (.o 126 none .k) .k))))))), dK, .v (.ptr tQLQIIIIILIELQIILIELQIIELILQIIIELQIIIIEIE) (.o 37 none (.p (.o 92 none (.p .k (.p .k (.p .k (.p .k (.p .k (.o 3 none .k))))))) (.p (.o 97 none (.p .k (.p .k (.o 3 none .k)))) (.p (.o 107 none .k) (.p (.o 3 none .k) (.p (.o 71 none .k) (.p (.o 126 none .k) .k))))))), .v (.int .i64) .k, dK, dK, dK, dK, dK, dK, dK, dK, dK, dK, dK, dK, dK, dK, dK, dK, dK, dK, dK, dK, dK, dK, dK, dK, dK, dK, dK, dK, dK, dK, dK, dK, dK, dK, dK, dK, dK, dK, dK, dK]
noncomputable def ko_impl_StepJudge_l5_0 : List Kd := [dK, .v (.int .i64) .k, .v (.int .i64) .k, .v (.ptr tQLQIIIIILIELQIILIELQIIELILQIIIELQIIIIEIE) (.o 37 none .k), dK, dK, .v (.ptr tQLQIIIIILIELQIILIELQIIELILQIIIELQIIIIEIE) (.o 37 none (.p (.o 92 none (.p .k (.p .k (.p .k (.p .k (.p .k (.o 3 none .k))))))) (.p (.o 97 none (.p .k (.p .k (.o 3 none .k)))) (.p (.o 107 none .k) (.p (.o 3 none .k) (.p (.o 71 none .k) (.p (.o 126 none .k) .k))))))), dK, .v (.ptr tQLQIIIIILIELQIILIELQIIELILQIIIELQIIIIEIE) (.o 37 none (.p (.o 92 none (.p .k (.p .k (.p .k (.p .k (.p .k (.o 3 none .k))))))) (.p (.o 97 none (.p .k (.p .k (.o 3 none .k)))) (.p (.o 107 none .k) (.p (.o 3 none .k) (.p (.o 71 none .k) (.p (.o 126 none .k) .k))))))), .v (.int .i64) .k, dK, dK, dK, dK, dK, dK, dK, dK, dK, dK, dK, dK, dK, dK, dK, dK, dK, dK, dK, dK, dK, dK, dK, dK, dK, dK, dK, dK, dK, dK, dK, dK, dK, dK, dK, dK, dK, dK, dK, dK]
noncomputable def h_impl_StepJudge : Hint := { tab, hn := [], loops := [(5, ks_impl_StepJudge_l5)], outs := [(5, 2, ko_impl_StepJudge_l5_0)], ords := [] }
noncomputable def sg_impl_StepJudge : List AK := [.v tQLQIIIIILIELQIILIELQIIELILQIIIELQIIIIEIE .k, .v (.int .i64) .k, .v (.int .i64) .k]
noncomputable def F_impl_StepJudge (N : Nat) (x : AVals sg_impl_StepJudge) (kf : Ret → Option Ret) : Option Ret := impl_StepJudge N x.1 x.2.1 x.2.2.1 (fun r0 r1 => kf ⟨[⟨tQLQIIIIILIELQIILIELQIIELILQIIIELQIIIIEIE, (.p (.o 92 none (.p .k (.p .k (.p .k (.p .k (.p .k (.o 3 none .k))))))) (.p (.o 97 none (.p .k (.p .k (.o 3 none .k)))) (.p (.o 107 none .k) (.p (.o 3 none .k) (.p (.o 71 none .k) (.p (.o 126 none .k) .k)))))), r0⟩, ⟨.bool, .k, r1⟩], []⟩)
noncomputable def run_impl_StepJudge (N : Nat) := runOf sg_impl_StepJudge (F_impl_StepJudge N)
noncomputable def es_impl_StepJudge (N : Nat) : List Entry := [⟨57, [.val], (run_impl_cloneClub N)⟩, ⟨84, [.val, .val], (run_impl_judgeAt N)⟩, ⟨85, [.take, .val, .take], (run_slices_Insert_Judge N)⟩, ⟨59, [.val, .take, .val, .val], (run_impl_stepped N)⟩]
noncomputable def body_impl_StepJudge : Code := match Tryz.f22.body with | some c => c | none => .skip
noncomputable def L_impl_StepJudge (N n : Nat) (key : Nat) (S : St) (K : Ks) : Option Ret := bif Nat.beq key 5 then withVals ks_impl_StepJudge_l5 S (fun x => impl_StepJudge_l5 x.1 x.2.1 x.2.2.1 x.2.2.2.1 x.2.2.2.2.1 n (fun z0 => K (.x 0) (shape ko_impl_StepJudge_l5_0 (x.1, x.2.1, x.2.2.1, x.2.2.2.1, x.2.2.2.2.1, z0, ()))) x.2.2.2.2.2.1) else none
theorem L0_impl_StepJudge (N key : Nat) (S : St) (K : Ks) : L_impl_StepJudge N 0 key S K = none := (bif0 (withVals0 fun _ => rfl) rfl)
noncomputable def c_impl_StepJudge_0 : Code := (loopsIn body_impl_StepJudge).getD 0 .skip
theorem ls_impl_StepJudge : loopsIn body_impl_StepJudge = [c_impl_StepJudge_0] := by kernel_rfl
theorem rd_impl_StepJudge_5 (N n : Nat) (x : Vals ks_impl_StepJudge_l5) (K : Ks) : L_impl_StepJudge N (n + 1) 5 (shape ks_impl_StepJudge_l5 x) (h_impl_StepJudge.onOut 5 K) = peRound h_impl_StepJudge (Orc.of (es_impl_StepJudge N)) (mixL (L_impl_StepJudge N) N n 5) c_impl_StepJudge_0 (shape ks_impl_StepJudge_l5 x) (h_impl_StepJudge.onOut 5 K) := by kernel_rfl
theorem fn_impl_StepJudge (N : Nat) (x : AVals sg_impl_StepJudge) (kf : Ret → Option Ret) : F_impl_StepJudge N x kf = peFunc h_impl_StepJudge (Orc.of (es_impl_StepJudge N)) (L_impl_StepJudge N N) Tryz.f22 (ashape sg_impl_StepJudge x) kf := by kernel_rfl
theorem sd_impl_StepJudge (N : Nat) : Sound Tryz.prog 22 (run_impl_StepJudge N) := fun_ok2 (hh := h_impl_StepJudge) mixed tab_ok (es := es_impl_StepJudge N) ⟨sd_impl_cloneClub N, ⟨sd_impl_judgeAt N, ⟨sd_slices_Insert_Judge N, ⟨sd_impl_stepped N, trivial⟩⟩⟩⟩ (fn := Tryz.f22) (body := body_impl_StepJudge) (by kernel_rfl) (by kernel_rfl) (by kernel_rfl) (by kernel_rfl) (by kernel_rfl) (Lf := L_impl_StepJudge N) (L0_impl_StepJudge N) ls_impl_StepJudge (round_cons (key := 5) (ks := ks_impl_StepJudge_l5) (by kernel_rfl) (by kernel_rfl) (rd_impl_StepJudge_5 N) trivial) (N := N) (by kernel_rfl) (fn_impl_StepJudge N) (.inl (by kernel_rfl))
/-! laws_FnExactStepJudge -/
noncomputable def h_laws_FnExactStepJudge : Hint := { tab, hn := [], loops := [], outs := [], ords := [(10, (OT.seq [0, 1, 2, 3, 4] .done))] }
noncomputable def sg_laws_FnExactStepJudge : List AK := [.v tQLQIIIIILIELQIILIELQIIELILQIIIELQIIIIEIE .k, .v (.int .i64) .k, .v (.int .i64) .k]
noncomputable def F_laws_FnExactStepJudge (N : Nat) (x : AVals sg_laws_FnExactStepJudge) (kf : Ret → Option Ret) : Option Ret := laws_FnExactStepJudge N x.1 x.2.1 x.2.2.1 (fun r0 => kf ⟨[⟨.bool, .k, r0⟩], []⟩)
noncomputable def run_laws_FnExactStepJudge (N : Nat) := runOf sg_laws_FnExactStepJudge (F_laws_FnExactStepJudge N)
noncomputable def es_laws_FnExactStepJudge (N : Nat) : List Entry := [⟨10, [.val, .val], (run_laws_szClub N)⟩, ⟨12, [.val], (run_laws_toClub N)⟩, ⟨21, [.val, .val, .val], (run_spec_StepJudge N)⟩, ⟨22, [.val, .val, .val], (run_impl_StepJudge N)⟩, ⟨14, [.val, .val], (run_laws_eqClub N)⟩, ⟨15, [.lend, .val], (run_laws_markClub N)⟩, ⟨16, [.val, .val], (run_laws_heldClub N)⟩]
noncomputable def body_laws_FnExactStepJudge : Code := match Tryz.f6.body with | some c => c | none => .skip
noncomputable def L_laws_FnExactStepJudge (N n : Nat) (key : Nat) (S : St) (K : Ks) : Option Ret := none
theorem L0_laws_FnExactStepJudge (N key : Nat) (S : St) (K : Ks) : L_laws_FnExactStepJudge N 0 key S K = none := rfl
theorem ls_laws_FnExactStepJudge : loopsIn body_laws_FnExactStepJudge = [] := by kernel_rfl
theorem fn_laws_FnExactStepJudge (N : Nat) (x : AVals sg_laws_FnExactStepJudge) (kf : Ret → Option Ret) : F_laws_FnExactStepJudge N x kf = peFunc h_laws_FnExactStepJudge (Orc.of (es_laws_FnExactStepJudge N)) (L_laws_FnExactStepJudge N N) Tryz.f6 (ashape sg_laws_FnExactStepJudge x) kf := by kernel_rfl
theorem sd_laws_FnExactStepJudge (N : Nat) : Sound Tryz.prog 6 (run_laws_FnExactStepJudge N) := fun_ok2 (hh := h_laws_FnExactStepJudge) mixed tab_ok (es := es_laws_FnExactStepJudge N) ⟨sd_laws_szClub N, ⟨sd_laws_toClub N, ⟨sd_spec_StepJudge N, ⟨sd_impl_StepJudge N, ⟨sd_laws_eqClub N, ⟨sd_laws_markClub N, ⟨sd_laws_heldClub N, trivial⟩⟩⟩⟩⟩⟩⟩ (fn := Tryz.f6) (body := body_laws_FnExactStepJudge) (by kernel_rfl) (by kernel_rfl) (by kernel_rfl) (by kernel_rfl) (by kernel_rfl) (Lf := L_laws_FnExactStepJudge N) (L0_laws_FnExactStepJudge N) ls_laws_FnExactStepJudge trivial (N := N) (by kernel_rfl) (fn_laws_FnExactStepJudge N) (.inl (by kernel_rfl))
end Go.Pv.R
