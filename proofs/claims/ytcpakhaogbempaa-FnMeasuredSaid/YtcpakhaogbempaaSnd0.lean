/- Each function of the program that the law reaches computes its plain function, part 0. -/
import Derived.Test.YtcpakhaogbempaaPlRes
import Derived.Test.YtcpakhaogbempaaPrim
import Derived.Test.YtcpakhaogbempaaProg
namespace Go.Pv.R
open Go.Proofs
set_option linter.unusedVariables false
set_option maxRecDepth 100000
noncomputable abbrev dK : Kd := .dead
noncomputable abbrev dR (n : Nat) : List Kd := List.replicate n .dead
noncomputable def tab : Tab := [⟨2, (.int .i64), 0, []⟩, ⟨3, (.int .i64), 0, []⟩, ⟨4, .bool, 0, []⟩, ⟨5, (.int .u8), 0, []⟩, ⟨9, .str, 0, []⟩, ⟨12, (.int .u64), 0, []⟩, ⟨21, (.int .i32), 0, []⟩, ⟨22, (.sl (.int .u8)), 5, []⟩, ⟨25, (.sl tQIIIIILIE), 54, []⟩, ⟨26, (.sl tQIILIE), 85, []⟩, ⟨27, (.sl tQIIE), 89, []⟩, ⟨28, (.sl (.int .i64)), 3, []⟩, ⟨29, (.sl tQIIIE), 70, []⟩, ⟨30, (.sl tQIIIIE), 79, []⟩, ⟨31, tQLQIIIIILIELQIILIELQIIELILQIIIELQIIIIEIE, 0, [25, 26, 27, 28, 29, 30, 3]⟩, ⟨32, tQLQIIIIILIELQIILIELQIIELILQIIIELQIIIIEIE, 0, [25, 26, 27, 28, 29, 30, 3]⟩, ⟨40, (.sl (.sl (.int .i64))), 28, []⟩, ⟨41, tQILLIE, 0, [3, 40]⟩, ⟨42, tQILLIE, 0, [3, 40]⟩, ⟨45, tQILLIE, 0, [3, 40]⟩, ⟨53, tQIIIIILIE, 0, [3, 3, 3, 3, 3, 28]⟩, ⟨54, tQIIIIILIE, 0, [3, 3, 3, 3, 3, 28]⟩, ⟨69, tQIIIE, 0, [3, 3, 3]⟩, ⟨70, tQIIIE, 0, [3, 3, 3]⟩, ⟨78, tQIIIIE, 0, [3, 3, 3, 3]⟩, ⟨79, tQIIIIE, 0, [3, 3, 3, 3]⟩, ⟨84, tQIILIE, 0, [3, 3, 28]⟩, ⟨85, tQIILIE, 0, [3, 3, 28]⟩, ⟨88, tQIIE, 0, [3, 3]⟩, ⟨89, tQIIE, 0, [3, 3]⟩, ⟨107, tQLIIIE, 0, [22, 3, 3]⟩, ⟨108, tQLIIIE, 0, [22, 3, 3]⟩, ⟨118, (.sl .str), 9, []⟩, ⟨123, (.sl tQIIIIE), 146, []⟩, ⟨139, (.int .u64), 0, []⟩, ⟨145, tQIIIIE, 0, [3, 3, 3, 3]⟩, ⟨146, tQIIIIE, 0, [3, 3, 3, 3]⟩, ⟨169, (.int .i64), 0, []⟩, ⟨178, (.int .u32), 0, []⟩, ⟨180, (.int .u64), 0, []⟩, ⟨184, (.int .u64), 0, []⟩]
theorem mixed : Try.prog.follows .mixedOrders = true := by kernel_rfl
theorem tab_ok : tabB Try.prog tab = true := by kernel_rfl
/-! laws_big -/
noncomputable def h_laws_big : Hint := { tab, hn := [], loops := [], outs := [], ords := [] }
noncomputable def sg_laws_big : List AK := [.v (.sl (.int .u8)) .k]
noncomputable def F_laws_big (N : Nat) (x : AVals sg_laws_big) (kf : Ret → Option Ret) : Option Ret := laws_big N x.1 (fun r0 => kf ⟨[⟨.bool, .k, r0⟩], []⟩)
noncomputable def run_laws_big (N : Nat) := runOf sg_laws_big (F_laws_big N)
noncomputable def es_laws_big (N : Nat) : List Entry := []
noncomputable def body_laws_big : Code := match Try.f7.body with | some c => c | none => .skip
noncomputable def L_laws_big (N n : Nat) (key : Nat) (S : St) (K : Ks) : Option Ret := none
theorem L0_laws_big (N key : Nat) (S : St) (K : Ks) : L_laws_big N 0 key S K = none := rfl
theorem ls_laws_big : loopsIn body_laws_big = [] := by kernel_rfl
theorem fn_laws_big (N : Nat) (x : AVals sg_laws_big) (kf : Ret → Option Ret) : F_laws_big N x kf = peFunc h_laws_big (Orc.of (es_laws_big N)) (L_laws_big N N) Try.f7 (ashape sg_laws_big x) kf := by kernel_rfl
theorem sd_laws_big {Γ : Gl} (N : Nat) : Sound Γ Try.prog 7 (run_laws_big N) := fun_ok2 (hh := h_laws_big) mixed tab_ok (es := es_laws_big N) trivial (fn := Try.f7) (body := body_laws_big) (by kernel_rfl) (by kernel_rfl) (by kernel_rfl) (by kernel_rfl) (by kernel_rfl) (Lf := L_laws_big N) (L0_laws_big N) ls_laws_big trivial (N := N) (by kernel_rfl) (fn_laws_big N) (.inl (by kernel_rfl))
/-! impl_InRange -/
noncomputable def h_impl_InRange : Hint := { tab, hn := [], loops := [], outs := [], ords := [] }
noncomputable def sg_impl_InRange : List AK := [.v (.int .i64) .k, .v (.int .i64) .k, .v (.int .i64) .k]
noncomputable def F_impl_InRange (N : Nat) (x : AVals sg_impl_InRange) (kf : Ret → Option Ret) : Option Ret := impl_InRange N x.1 x.2.1 x.2.2.1 (fun r0 => kf ⟨[⟨.bool, .k, r0⟩], []⟩)
noncomputable def run_impl_InRange (N : Nat) := runOf sg_impl_InRange (F_impl_InRange N)
noncomputable def es_impl_InRange (N : Nat) : List Entry := []
noncomputable def body_impl_InRange : Code := match Try.f45.body with | some c => c | none => .skip
noncomputable def L_impl_InRange (N n : Nat) (key : Nat) (S : St) (K : Ks) : Option Ret := none
theorem L0_impl_InRange (N key : Nat) (S : St) (K : Ks) : L_impl_InRange N 0 key S K = none := rfl
theorem ls_impl_InRange : loopsIn body_impl_InRange = [] := by kernel_rfl
theorem fn_impl_InRange (N : Nat) (x : AVals sg_impl_InRange) (kf : Ret → Option Ret) : F_impl_InRange N x kf = peFunc h_impl_InRange (Orc.of (es_impl_InRange N)) (L_impl_InRange N N) Try.f45 (ashape sg_impl_InRange x) kf := by kernel_rfl
theorem sd_impl_InRange {Γ : Gl} (N : Nat) : Sound Γ Try.prog 45 (run_impl_InRange N) := fun_ok2 (hh := h_impl_InRange) mixed tab_ok (es := es_impl_InRange N) trivial (fn := Try.f45) (body := body_impl_InRange) (by kernel_rfl) (by kernel_rfl) (by kernel_rfl) (by kernel_rfl) (by kernel_rfl) (Lf := L_impl_InRange N) (L0_impl_InRange N) ls_impl_InRange trivial (N := N) (by kernel_rfl) (fn_impl_InRange N) (.inl (by kernel_rfl))
/-! impl_FindTeam_1 -/
noncomputable def h_impl_FindTeam_1 : Hint := { tab, hn := [], loops := [], outs := [], ords := [] }
noncomputable def sg_impl_FindTeam_1 : List AK := [.v tQIIIIILIE .k, .v (.ptr (.int .i64)) .k]
noncomputable def F_impl_FindTeam_1 (N : Nat) (x : AVals sg_impl_FindTeam_1) (kf : Ret → Option Ret) : Option Ret := impl_FindTeam_1 N x.1 x.2.1 (fun r0 => kf ⟨[⟨.bool, .k, r0⟩], []⟩)
noncomputable def run_impl_FindTeam_1 (N : Nat) := runOf sg_impl_FindTeam_1 (F_impl_FindTeam_1 N)
noncomputable def es_impl_FindTeam_1 (N : Nat) : List Entry := []
noncomputable def body_impl_FindTeam_1 : Code := match Try.f106.body with | some c => c | none => .skip
noncomputable def L_impl_FindTeam_1 (N n : Nat) (key : Nat) (S : St) (K : Ks) : Option Ret := none
theorem L0_impl_FindTeam_1 (N key : Nat) (S : St) (K : Ks) : L_impl_FindTeam_1 N 0 key S K = none := rfl
theorem ls_impl_FindTeam_1 : loopsIn body_impl_FindTeam_1 = [] := by kernel_rfl
theorem fn_impl_FindTeam_1 (N : Nat) (x : AVals sg_impl_FindTeam_1) (kf : Ret → Option Ret) : F_impl_FindTeam_1 N x kf = peFunc h_impl_FindTeam_1 (Orc.of (es_impl_FindTeam_1 N)) (L_impl_FindTeam_1 N N) Try.f106 (ashape sg_impl_FindTeam_1 x) kf := by kernel_rfl
theorem sd_impl_FindTeam_1 {Γ : Gl} (N : Nat) : Sound Γ Try.prog 106 (run_impl_FindTeam_1 N) := fun_ok2 (hh := h_impl_FindTeam_1) mixed tab_ok (es := es_impl_FindTeam_1 N) trivial (fn := Try.f106) (body := body_impl_FindTeam_1) (by kernel_rfl) (by kernel_rfl) (by kernel_rfl) (by kernel_rfl) (by kernel_rfl) (Lf := L_impl_FindTeam_1 N) (L0_impl_FindTeam_1 N) ls_impl_FindTeam_1 trivial (N := N) (by kernel_rfl) (fn_impl_FindTeam_1 N) (.inl (by kernel_rfl))
/-! slices_IndexFunc_Team_impl_FindTeam_1 -/
noncomputable def ks_slices_IndexFunc_Team_impl_FindTeam_1_l2 : List Kd := [.v (.sl tQIIIIILIE) .k, .clo 106 [.kv (.ptr (.int .i64))], dK, dK, dK, dK, dK, .v (.int .i64) .k, .v (.int .i64) .k, dK, dK, dK, dK, dK, dK, dK, dK, dK, dK]
noncomputable def ko_slices_IndexFunc_Team_impl_FindTeam_1_l2_0 : List Kd := [dK, dK, dK, dK, dK, dK, dK, dK, dK, dK, dK, dK, dK, dK, dK, dK, dK, dK, dK]
noncomputable def ko_slices_IndexFunc_Team_impl_FindTeam_1_l2_1 : List Kd := [dK, dK, dK, dK, .v (.int .i64) .k, dK, dK, dK, dK, dK, dK, dK, dK, dK, dK, dK, dK, dK, dK]
noncomputable def h_slices_IndexFunc_Team_impl_FindTeam_1 : Hint := { tab, hn := [], loops := [(2, ks_slices_IndexFunc_Team_impl_FindTeam_1_l2)], outs := [(2, 2, ko_slices_IndexFunc_Team_impl_FindTeam_1_l2_0), (2, 1, ko_slices_IndexFunc_Team_impl_FindTeam_1_l2_1)], ords := [] }
noncomputable def sg_slices_IndexFunc_Team_impl_FindTeam_1 : List AK := [.v (.sl tQIIIIILIE) .k, .fn 106 [(.ptr (.int .i64))]]
noncomputable def F_slices_IndexFunc_Team_impl_FindTeam_1 (N : Nat) (x : AVals sg_slices_IndexFunc_Team_impl_FindTeam_1) (kf : Ret → Option Ret) : Option Ret := slices_IndexFunc_Team_impl_FindTeam_1 N x.1 x.2.1.1 (fun r0 => kf ⟨[⟨(.int .i64), .k, r0⟩], []⟩)
noncomputable def run_slices_IndexFunc_Team_impl_FindTeam_1 (N : Nat) := runOf sg_slices_IndexFunc_Team_impl_FindTeam_1 (F_slices_IndexFunc_Team_impl_FindTeam_1 N)
noncomputable def es_slices_IndexFunc_Team_impl_FindTeam_1 (N : Nat) : List Entry := [⟨106, [.val], (run_impl_FindTeam_1 N)⟩]
noncomputable def body_slices_IndexFunc_Team_impl_FindTeam_1 : Code := match Try.f105.body with | some c => c | none => .skip
noncomputable def L_slices_IndexFunc_Team_impl_FindTeam_1 (N n : Nat) (key : Nat) (S : St) (K : Ks) : Option Ret := bif Nat.beq key 2 then withVals ks_slices_IndexFunc_Team_impl_FindTeam_1_l2 S (fun x => slices_IndexFunc_Team_impl_FindTeam_1_l2 N x.1 x.2.1.1 x.2.2.1 n (K (.x 0) (shape ko_slices_IndexFunc_Team_impl_FindTeam_1_l2_0 ())) (fun z0 => K .r (shape ko_slices_IndexFunc_Team_impl_FindTeam_1_l2_1 (z0, ()))) x.2.2.2.1) else none
theorem L0_slices_IndexFunc_Team_impl_FindTeam_1 (N key : Nat) (S : St) (K : Ks) : L_slices_IndexFunc_Team_impl_FindTeam_1 N 0 key S K = none := (bif0 (withVals0 fun _ => rfl) rfl)
noncomputable def c_slices_IndexFunc_Team_impl_FindTeam_1_0 : Code := (loopsIn body_slices_IndexFunc_Team_impl_FindTeam_1).getD 0 .skip
theorem ls_slices_IndexFunc_Team_impl_FindTeam_1 : loopsIn body_slices_IndexFunc_Team_impl_FindTeam_1 = [c_slices_IndexFunc_Team_impl_FindTeam_1_0] := by kernel_rfl
theorem rd_slices_IndexFunc_Team_impl_FindTeam_1_2 (N n : Nat) (x : Vals ks_slices_IndexFunc_Team_impl_FindTeam_1_l2) (K : Ks) : L_slices_IndexFunc_Team_impl_FindTeam_1 N (n + 1) 2 (shape ks_slices_IndexFunc_Team_impl_FindTeam_1_l2 x) (h_slices_IndexFunc_Team_impl_FindTeam_1.onOut 2 K) = peRound h_slices_IndexFunc_Team_impl_FindTeam_1 (Orc.of (es_slices_IndexFunc_Team_impl_FindTeam_1 N)) (mixL (L_slices_IndexFunc_Team_impl_FindTeam_1 N) N n 2) c_slices_IndexFunc_Team_impl_FindTeam_1_0 (shape ks_slices_IndexFunc_Team_impl_FindTeam_1_l2 x) (h_slices_IndexFunc_Team_impl_FindTeam_1.onOut 2 K) := by kernel_rfl
theorem fn_slices_IndexFunc_Team_impl_FindTeam_1 (N : Nat) (x : AVals sg_slices_IndexFunc_Team_impl_FindTeam_1) (kf : Ret → Option Ret) : F_slices_IndexFunc_Team_impl_FindTeam_1 N x kf = peFunc h_slices_IndexFunc_Team_impl_FindTeam_1 (Orc.of (es_slices_IndexFunc_Team_impl_FindTeam_1 N)) (L_slices_IndexFunc_Team_impl_FindTeam_1 N N) Try.f105 (ashape sg_slices_IndexFunc_Team_impl_FindTeam_1 x) kf := by kernel_rfl
theorem sd_slices_IndexFunc_Team_impl_FindTeam_1 {Γ : Gl} (N : Nat) : Sound Γ Try.prog 105 (run_slices_IndexFunc_Team_impl_FindTeam_1 N) := fun_ok2 (hh := h_slices_IndexFunc_Team_impl_FindTeam_1) mixed tab_ok (es := es_slices_IndexFunc_Team_impl_FindTeam_1 N) ⟨sd_impl_FindTeam_1 N, trivial⟩ (fn := Try.f105) (body := body_slices_IndexFunc_Team_impl_FindTeam_1) (by kernel_rfl) (by kernel_rfl) (by kernel_rfl) (by kernel_rfl) (by kernel_rfl) (Lf := L_slices_IndexFunc_Team_impl_FindTeam_1 N) (L0_slices_IndexFunc_Team_impl_FindTeam_1 N) ls_slices_IndexFunc_Team_impl_FindTeam_1 (round_cons (key := 2) (ks := ks_slices_IndexFunc_Team_impl_FindTeam_1_l2) (by kernel_rfl) (by kernel_rfl) (rd_slices_IndexFunc_Team_impl_FindTeam_1_2 N) trivial) (N := N) (by kernel_rfl) (fn_slices_IndexFunc_Team_impl_FindTeam_1 N) (.inl (by kernel_rfl))
/-! impl_FindTeam -/
noncomputable def h_impl_FindTeam : Hint := { tab, hn := [], loops := [], outs := [], ords := [] }
noncomputable def sg_impl_FindTeam : List AK := [.v (.sl tQIIIIILIE) .k, .v (.int .i64) .k]
noncomputable def F_impl_FindTeam (N : Nat) (x : AVals sg_impl_FindTeam) (kf : Ret → Option Ret) : Option Ret := impl_FindTeam N x.1 x.2.1 (fun r0 => kf ⟨[⟨(.int .i64), .k, r0⟩], []⟩)
noncomputable def run_impl_FindTeam (N : Nat) := runOf sg_impl_FindTeam (F_impl_FindTeam N)
noncomputable def es_impl_FindTeam (N : Nat) : List Entry := [⟨105, [.val, .val], (run_slices_IndexFunc_Team_impl_FindTeam_1 N)⟩]
noncomputable def body_impl_FindTeam : Code := match Try.f76.body with | some c => c | none => .skip
noncomputable def L_impl_FindTeam (N n : Nat) (key : Nat) (S : St) (K : Ks) : Option Ret := none
theorem L0_impl_FindTeam (N key : Nat) (S : St) (K : Ks) : L_impl_FindTeam N 0 key S K = none := rfl
theorem ls_impl_FindTeam : loopsIn body_impl_FindTeam = [] := by kernel_rfl
theorem fn_impl_FindTeam (N : Nat) (x : AVals sg_impl_FindTeam) (kf : Ret → Option Ret) : F_impl_FindTeam N x kf = peFunc h_impl_FindTeam (Orc.of (es_impl_FindTeam N)) (L_impl_FindTeam N N) Try.f76 (ashape sg_impl_FindTeam x) kf := by kernel_rfl
theorem sd_impl_FindTeam {Γ : Gl} (N : Nat) : Sound Γ Try.prog 76 (run_impl_FindTeam N) := fun_ok2 (hh := h_impl_FindTeam) mixed tab_ok (es := es_impl_FindTeam N) ⟨sd_slices_IndexFunc_Team_impl_FindTeam_1 N, trivial⟩ (fn := Try.f76) (body := body_impl_FindTeam) (by kernel_rfl) (by kernel_rfl) (by kernel_rfl) (by kernel_rfl) (by kernel_rfl) (Lf := L_impl_FindTeam N) (L0_impl_FindTeam N) ls_impl_FindTeam trivial (N := N) (by kernel_rfl) (fn_impl_FindTeam N) (.inl (by kernel_rfl))
/-! impl_times -/
noncomputable def ks_impl_times_l3 : List Kd := [dK, .v (.int .i64) .k, dK, dK, dK, .v (.int .i64) .k, dK, dK, .v (.sl (.int .i64)) .k, .v (.int .i64) .k, .v (.int .i64) .k, dK, dK, dK, dK, dK, dK, dK, dK, dK, dK]
noncomputable def ko_impl_times_l3_0 : List Kd := [dK, dK, dK, dK, dK, .v (.int .i64) .k, dK, dK, dK, dK, dK, dK, dK, dK, dK, dK, dK, dK, dK, dK, dK]
noncomputable def h_impl_times : Hint := { tab, hn := [], loops := [(3, ks_impl_times_l3)], outs := [(3, 2, ko_impl_times_l3_0)], ords := [] }
noncomputable def sg_impl_times : List AK := [.v (.sl (.int .i64)) .k, .v (.int .i64) .k]
noncomputable def F_impl_times (N : Nat) (x : AVals sg_impl_times) (kf : Ret → Option Ret) : Option Ret := impl_times N x.1 x.2.1 (fun r0 => kf ⟨[⟨(.int .i64), .k, r0⟩], []⟩)
noncomputable def run_impl_times (N : Nat) := runOf sg_impl_times (F_impl_times N)
noncomputable def es_impl_times (N : Nat) : List Entry := []
noncomputable def body_impl_times : Code := match Try.f67.body with | some c => c | none => .skip
noncomputable def L_impl_times (N n : Nat) (key : Nat) (S : St) (K : Ks) : Option Ret := bif Nat.beq key 3 then withVals ks_impl_times_l3 S (fun x => impl_times_l3 x.1 x.2.2.1 x.2.2.2.1 n (fun z0 => K (.x 0) (shape ko_impl_times_l3_0 (z0, ()))) x.2.1 x.2.2.2.2.1) else none
theorem L0_impl_times (N key : Nat) (S : St) (K : Ks) : L_impl_times N 0 key S K = none := (bif0 (withVals0 fun _ => rfl) rfl)
noncomputable def c_impl_times_0 : Code := (loopsIn body_impl_times).getD 0 .skip
theorem ls_impl_times : loopsIn body_impl_times = [c_impl_times_0] := by kernel_rfl
theorem rd_impl_times_3 (N n : Nat) (x : Vals ks_impl_times_l3) (K : Ks) : L_impl_times N (n + 1) 3 (shape ks_impl_times_l3 x) (h_impl_times.onOut 3 K) = peRound h_impl_times (Orc.of (es_impl_times N)) (mixL (L_impl_times N) N n 3) c_impl_times_0 (shape ks_impl_times_l3 x) (h_impl_times.onOut 3 K) := by kernel_rfl
theorem fn_impl_times (N : Nat) (x : AVals sg_impl_times) (kf : Ret → Option Ret) : F_impl_times N x kf = peFunc h_impl_times (Orc.of (es_impl_times N)) (L_impl_times N N) Try.f67 (ashape sg_impl_times x) kf := by kernel_rfl
theorem sd_impl_times {Γ : Gl} (N : Nat) : Sound Γ Try.prog 67 (run_impl_times N) := fun_ok2 (hh := h_impl_times) mixed tab_ok (es := es_impl_times N) trivial (fn := Try.f67) (body := body_impl_times) (by kernel_rfl) (by kernel_rfl) (by kernel_rfl) (by kernel_rfl) (by kernel_rfl) (Lf := L_impl_times N) (L0_impl_times N) ls_impl_times (round_cons (key := 3) (ks := ks_impl_times_l3) (by kernel_rfl) (by kernel_rfl) (rd_impl_times_3 N) trivial) (N := N) (by kernel_rfl) (fn_impl_times N) (.inl (by kernel_rfl))
/-! impl_AreTeams -/
noncomputable def ks_impl_AreTeams_l10 : List Kd := [.v (.sl tQIIIIILIE) .k, dK, dK, dK, .v (.ptr tQIIIIILIE) (.o 54 none .k), dK, dK, dK, dK, dK, dK, dK, .v (.sl tQIIIIILIE) .k, .v (.int .i64) .k, .v (.int .i64) .k, dK, dK, dK, dK, dK, dK, dK, dK, dK, dK, dK, dK, dK, dK, dK, dK, dK, dK, dK, dK, dK, dK, dK, dK, dK, dK, dK, dK, dK, dK, dK, dK, dK, dK, dK, dK, dK, dK, dK, dK, dK, dK, dK, dK, dK, dK, dK, dK, dK, dK, dK, dK, dK, dK, dK, dK, dK, .v (.sl (.int .i64)) .k, .v (.int .i64) .k, .v (.int .i64) .k, dK, dK, dK, dK, dK, dK, dK, dK, dK, dK, dK, dK, dK, dK, dK, dK, dK, dK, dK, dK, dK, dK, dK, dK, dK, dK, dK, dK, dK, dK, dK]
noncomputable def ko_impl_AreTeams_l10_0 : List Kd := [.v (.sl tQIIIIILIE) .k, dK, dK, dK, dK, dK, dK, dK, dK, dK, dK, dK, .v (.sl tQIIIIILIE) .k, .v (.int .i64) .k, .v (.int .i64) .k, dK, dK, dK, dK, dK, dK, dK, dK, dK, dK, dK, dK, dK, dK, dK, dK, dK, dK, dK, dK, dK, dK, dK, dK, dK, dK, dK, dK, dK, dK, dK, dK, dK, dK, dK, dK, dK, dK, dK, dK, dK, dK, dK, dK, dK, dK, dK, dK, dK, dK, dK, dK, dK, dK, dK, dK, dK, dK, dK, dK, dK, dK, dK, dK, dK, dK, dK, dK, dK, dK, dK, dK, dK, dK, dK, dK, dK, dK, dK, dK, dK, dK, dK, dK, dK, dK, dK, dK, dK, dK, dK]
noncomputable def ko_impl_AreTeams_l10_1 : List Kd := [dK, dK, .v .bool .k, dK, dK, dK, dK, dK, dK, dK, dK, dK, dK, dK, dK, dK, dK, dK, dK, dK, dK, dK, dK, dK, dK, dK, dK, dK, dK, dK, dK, dK, dK, dK, dK, dK, dK, dK, dK, dK, dK, dK, dK, dK, dK, dK, dK, dK, dK, dK, dK, dK, dK, dK, dK, dK, dK, dK, dK, dK, dK, dK, dK, dK, dK, dK, dK, dK, dK, dK, dK, dK, dK, dK, dK, dK, dK, dK, dK, dK, dK, dK, dK, dK, dK, dK, dK, dK, dK, dK, dK, dK, dK, dK, dK, dK, dK, dK, dK, dK, dK, dK, dK, dK, dK, dK]
noncomputable def ks_impl_AreTeams_l4 : List Kd := [.v (.sl tQIIIIILIE) .k, dK, dK, dK, dK, dK, dK, dK, dK, dK, dK, dK, .v (.sl tQIIIIILIE) .k, .v (.int .i64) .k, .v (.int .i64) .k, dK, dK, dK, dK, dK, dK, dK, dK, dK, dK, dK, dK, dK, dK, dK, dK, dK, dK, dK, dK, dK, dK, dK, dK, dK, dK, dK, dK, dK, dK, dK, dK, dK, dK, dK, dK, dK, dK, dK, dK, dK, dK, dK, dK, dK, dK, dK, dK, dK, dK, dK, dK, dK, dK, dK, dK, dK, dK, dK, dK, dK, dK, dK, dK, dK, dK, dK, dK, dK, dK, dK, dK, dK, dK, dK, dK, dK, dK, dK, dK, dK, dK, dK, dK, dK, dK, dK, dK, dK, dK, dK]
noncomputable def ko_impl_AreTeams_l4_0 : List Kd := [dK, dK, dK, dK, dK, dK, dK, dK, dK, dK, dK, dK, dK, dK, dK, dK, dK, dK, dK, dK, dK, dK, dK, dK, dK, dK, dK, dK, dK, dK, dK, dK, dK, dK, dK, dK, dK, dK, dK, dK, dK, dK, dK, dK, dK, dK, dK, dK, dK, dK, dK, dK, dK, dK, dK, dK, dK, dK, dK, dK, dK, dK, dK, dK, dK, dK, dK, dK, dK, dK, dK, dK, dK, dK, dK, dK, dK, dK, dK, dK, dK, dK, dK, dK, dK, dK, dK, dK, dK, dK, dK, dK, dK, dK, dK, dK, dK, dK, dK, dK, dK, dK, dK, dK, dK, dK]
noncomputable def ko_impl_AreTeams_l4_1 : List Kd := [dK, dK, .v .bool .k, dK, dK, dK, dK, dK, dK, dK, dK, dK, dK, dK, dK, dK, dK, dK, dK, dK, dK, dK, dK, dK, dK, dK, dK, dK, dK, dK, dK, dK, dK, dK, dK, dK, dK, dK, dK, dK, dK, dK, dK, dK, dK, dK, dK, dK, dK, dK, dK, dK, dK, dK, dK, dK, dK, dK, dK, dK, dK, dK, dK, dK, dK, dK, dK, dK, dK, dK, dK, dK, dK, dK, dK, dK, dK, dK, dK, dK, dK, dK, dK, dK, dK, dK, dK, dK, dK, dK, dK, dK, dK, dK, dK, dK, dK, dK, dK, dK, dK, dK, dK, dK, dK, dK]
noncomputable def h_impl_AreTeams : Hint := { tab, hn := [], loops := [(10, ks_impl_AreTeams_l10), (4, ks_impl_AreTeams_l4)], outs := [(10, 4, ko_impl_AreTeams_l10_0), (10, 1, ko_impl_AreTeams_l10_1), (4, 2, ko_impl_AreTeams_l4_0), (4, 1, ko_impl_AreTeams_l4_1)], ords := [(7, (OT.seq [0, 1, 2, 3, 4, 5, 6, 7, 8, 9, 10, 11, 12, 13, 14, 15, 16, 17, 18, 19, 20, 21, 22, 23, 24, 25, 26, 27, 28, 29, 30, 31, 32, 33, 34, 35, 36, 37, 38, 39, 40, 41, 42, 43, 44, 45, 46, 47, 48] .done)), (13, (OT.seq [0, 1, 2, 3, 4, 5, 6, 7, 8, 9, 10, 11, 13, 14, 15, 16, 17, 18, 19, 12, 20, 21, 22] .done))] }
noncomputable def sg_impl_AreTeams : List AK := [.v (.sl tQIIIIILIE) .k]
noncomputable def F_impl_AreTeams (N : Nat) (x : AVals sg_impl_AreTeams) (kf : Ret → Option Ret) : Option Ret := impl_AreTeams N x.1 (fun r0 => kf ⟨[⟨.bool, .k, r0⟩], []⟩)
noncomputable def run_impl_AreTeams (N : Nat) := runOf sg_impl_AreTeams (F_impl_AreTeams N)
noncomputable def es_impl_AreTeams (N : Nat) : List Entry := [⟨45, [.val, .val, .val], (run_impl_InRange N)⟩, ⟨76, [.val, .val], (run_impl_FindTeam N)⟩, ⟨67, [.val, .val], (run_impl_times N)⟩]
noncomputable def body_impl_AreTeams : Code := match Try.f39.body with | some c => c | none => .skip
noncomputable def L_impl_AreTeams (N n : Nat) (key : Nat) (S : St) (K : Ks) : Option Ret := bif Nat.beq key 4 then withVals ks_impl_AreTeams_l4 S (fun x => impl_AreTeams_l4 N x.1 x.2.1 x.2.2.1 n (K (.x 0) (shape ko_impl_AreTeams_l4_0 ())) (fun z0 => K .r (shape ko_impl_AreTeams_l4_1 (z0, ()))) x.2.2.2.1) else bif Nat.beq key 10 then withVals ks_impl_AreTeams_l10 S (fun x => impl_AreTeams_l10 N x.1 x.2.1 x.2.2.1 x.2.2.2.1 x.2.2.2.2.1 x.2.2.2.2.2.1 x.2.2.2.2.2.2.1 n (K (.x 2) (shape ko_impl_AreTeams_l10_0 (x.1, x.2.2.1, x.2.2.2.1, x.2.2.2.2.1, ()))) (fun z0 => K .r (shape ko_impl_AreTeams_l10_1 (z0, ()))) x.2.2.2.2.2.2.2.1) else none
theorem L0_impl_AreTeams (N key : Nat) (S : St) (K : Ks) : L_impl_AreTeams N 0 key S K = none := (bif0 (withVals0 fun _ => rfl) (bif0 (withVals0 fun _ => rfl) rfl))
noncomputable def c_impl_AreTeams_0 : Code := (loopsIn body_impl_AreTeams).getD 0 .skip
noncomputable def c_impl_AreTeams_1 : Code := (loopsIn body_impl_AreTeams).getD 1 .skip
theorem ls_impl_AreTeams : loopsIn body_impl_AreTeams = [c_impl_AreTeams_0, c_impl_AreTeams_1] := by kernel_rfl
theorem rd_impl_AreTeams_10 (N n : Nat) (x : Vals ks_impl_AreTeams_l10) (K : Ks) : L_impl_AreTeams N (n + 1) 10 (shape ks_impl_AreTeams_l10 x) (h_impl_AreTeams.onOut 10 K) = peRound h_impl_AreTeams (Orc.of (es_impl_AreTeams N)) (mixL (L_impl_AreTeams N) N n 10) c_impl_AreTeams_1 (shape ks_impl_AreTeams_l10 x) (h_impl_AreTeams.onOut 10 K) := by kernel_rfl
theorem rd_impl_AreTeams_4 (N n : Nat) (x : Vals ks_impl_AreTeams_l4) (K : Ks) : L_impl_AreTeams N (n + 1) 4 (shape ks_impl_AreTeams_l4 x) (h_impl_AreTeams.onOut 4 K) = peRound h_impl_AreTeams (Orc.of (es_impl_AreTeams N)) (mixL (L_impl_AreTeams N) N n 4) c_impl_AreTeams_0 (shape ks_impl_AreTeams_l4 x) (h_impl_AreTeams.onOut 4 K) := by kernel_rfl
theorem fn_impl_AreTeams (N : Nat) (x : AVals sg_impl_AreTeams) (kf : Ret → Option Ret) : F_impl_AreTeams N x kf = peFunc h_impl_AreTeams (Orc.of (es_impl_AreTeams N)) (L_impl_AreTeams N N) Try.f39 (ashape sg_impl_AreTeams x) kf := by kernel_rfl
theorem sd_impl_AreTeams {Γ : Gl} (N : Nat) : Sound Γ Try.prog 39 (run_impl_AreTeams N) := fun_ok2 (hh := h_impl_AreTeams) mixed tab_ok (es := es_impl_AreTeams N) ⟨sd_impl_InRange N, ⟨sd_impl_FindTeam N, ⟨sd_impl_times N, trivial⟩⟩⟩ (fn := Try.f39) (body := body_impl_AreTeams) (by kernel_rfl) (by kernel_rfl) (by kernel_rfl) (by kernel_rfl) (by kernel_rfl) (Lf := L_impl_AreTeams N) (L0_impl_AreTeams N) ls_impl_AreTeams (round_cons (key := 4) (ks := ks_impl_AreTeams_l4) (by kernel_rfl) (by kernel_rfl) (rd_impl_AreTeams_4 N) (round_cons (key := 10) (ks := ks_impl_AreTeams_l10) (by kernel_rfl) (by kernel_rfl) (rd_impl_AreTeams_10 N) trivial)) (N := N) (by kernel_rfl) (fn_impl_AreTeams N) (.inl (by kernel_rfl))
/-! slices_Index_int -/
noncomputable def ks_slices_Index_int_l2 : List Kd := [.v (.sl (.int .i64)) .k, .v (.int .i64) .k, dK, dK, dK, dK, dK, .v (.int .i64) .k, .v (.int .i64) .k, dK, dK, dK, dK, dK, dK, dK, dK, dK, dK]
noncomputable def ko_slices_Index_int_l2_0 : List Kd := [dK, dK, dK, dK, dK, dK, dK, dK, dK, dK, dK, dK, dK, dK, dK, dK, dK, dK, dK]
noncomputable def ko_slices_Index_int_l2_1 : List Kd := [dK, dK, dK, dK, .v (.int .i64) .k, dK, dK, dK, dK, dK, dK, dK, dK, dK, dK, dK, dK, dK, dK]
noncomputable def h_slices_Index_int : Hint := { tab, hn := [], loops := [(2, ks_slices_Index_int_l2)], outs := [(2, 2, ko_slices_Index_int_l2_0), (2, 1, ko_slices_Index_int_l2_1)], ords := [] }
noncomputable def sg_slices_Index_int : List AK := [.v (.sl (.int .i64)) .k, .v (.int .i64) .k]
noncomputable def F_slices_Index_int (N : Nat) (x : AVals sg_slices_Index_int) (kf : Ret → Option Ret) : Option Ret := slices_Index_int N x.1 x.2.1 (fun r0 => kf ⟨[⟨(.int .i64), .k, r0⟩], []⟩)
noncomputable def run_slices_Index_int (N : Nat) := runOf sg_slices_Index_int (F_slices_Index_int N)
noncomputable def es_slices_Index_int (N : Nat) : List Entry := []
noncomputable def body_slices_Index_int : Code := match Try.f109.body with | some c => c | none => .skip
noncomputable def L_slices_Index_int (N n : Nat) (key : Nat) (S : St) (K : Ks) : Option Ret := bif Nat.beq key 2 then withVals ks_slices_Index_int_l2 S (fun x => slices_Index_int_l2 x.1 x.2.1 x.2.2.1 n (K (.x 0) (shape ko_slices_Index_int_l2_0 ())) (fun z0 => K .r (shape ko_slices_Index_int_l2_1 (z0, ()))) x.2.2.2.1) else none
theorem L0_slices_Index_int (N key : Nat) (S : St) (K : Ks) : L_slices_Index_int N 0 key S K = none := (bif0 (withVals0 fun _ => rfl) rfl)
noncomputable def c_slices_Index_int_0 : Code := (loopsIn body_slices_Index_int).getD 0 .skip
theorem ls_slices_Index_int : loopsIn body_slices_Index_int = [c_slices_Index_int_0] := by kernel_rfl
theorem rd_slices_Index_int_2 (N n : Nat) (x : Vals ks_slices_Index_int_l2) (K : Ks) : L_slices_Index_int N (n + 1) 2 (shape ks_slices_Index_int_l2 x) (h_slices_Index_int.onOut 2 K) = peRound h_slices_Index_int (Orc.of (es_slices_Index_int N)) (mixL (L_slices_Index_int N) N n 2) c_slices_Index_int_0 (shape ks_slices_Index_int_l2 x) (h_slices_Index_int.onOut 2 K) := by kernel_rfl
theorem fn_slices_Index_int (N : Nat) (x : AVals sg_slices_Index_int) (kf : Ret → Option Ret) : F_slices_Index_int N x kf = peFunc h_slices_Index_int (Orc.of (es_slices_Index_int N)) (L_slices_Index_int N N) Try.f109 (ashape sg_slices_Index_int x) kf := by kernel_rfl
theorem sd_slices_Index_int {Γ : Gl} (N : Nat) : Sound Γ Try.prog 109 (run_slices_Index_int N) := fun_ok2 (hh := h_slices_Index_int) mixed tab_ok (es := es_slices_Index_int N) trivial (fn := Try.f109) (body := body_slices_Index_int) (by kernel_rfl) (by kernel_rfl) (by kernel_rfl) (by kernel_rfl) (by kernel_rfl) (Lf := L_slices_Index_int N) (L0_slices_Index_int N) ls_slices_Index_int (round_cons (key := 2) (ks := ks_slices_Index_int_l2) (by kernel_rfl) (by kernel_rfl) (rd_slices_Index_int_2 N) trivial) (N := N) (by kernel_rfl) (fn_slices_Index_int N) (.inl (by kernel_rfl))
/-! slices_Contains_int -/
noncomputable def h_slices_Contains_int : Hint := { tab, hn := [], loops := [], outs := [], ords := [] }
noncomputable def sg_slices_Contains_int : List AK := [.v (.sl (.int .i64)) .k, .v (.int .i64) .k]
noncomputable def F_slices_Contains_int (N : Nat) (x : AVals sg_slices_Contains_int) (kf : Ret → Option Ret) : Option Ret := slices_Contains_int N x.1 x.2.1 (fun r0 => kf ⟨[⟨.bool, .k, r0⟩], []⟩)
noncomputable def run_slices_Contains_int (N : Nat) := runOf sg_slices_Contains_int (F_slices_Contains_int N)
noncomputable def es_slices_Contains_int (N : Nat) : List Entry := [⟨109, [.val, .val], (run_slices_Index_int N)⟩]
noncomputable def body_slices_Contains_int : Code := match Try.f81.body with | some c => c | none => .skip
noncomputable def L_slices_Contains_int (N n : Nat) (key : Nat) (S : St) (K : Ks) : Option Ret := none
theorem L0_slices_Contains_int (N key : Nat) (S : St) (K : Ks) : L_slices_Contains_int N 0 key S K = none := rfl
theorem ls_slices_Contains_int : loopsIn body_slices_Contains_int = [] := by kernel_rfl
theorem fn_slices_Contains_int (N : Nat) (x : AVals sg_slices_Contains_int) (kf : Ret → Option Ret) : F_slices_Contains_int N x kf = peFunc h_slices_Contains_int (Orc.of (es_slices_Contains_int N)) (L_slices_Contains_int N N) Try.f81 (ashape sg_slices_Contains_int x) kf := by kernel_rfl
theorem sd_slices_Contains_int {Γ : Gl} (N : Nat) : Sound Γ Try.prog 81 (run_slices_Contains_int N) := fun_ok2 (hh := h_slices_Contains_int) mixed tab_ok (es := es_slices_Contains_int N) ⟨sd_slices_Index_int N, trivial⟩ (fn := Try.f81) (body := body_slices_Contains_int) (by kernel_rfl) (by kernel_rfl) (by kernel_rfl) (by kernel_rfl) (by kernel_rfl) (Lf := L_slices_Contains_int N) (L0_slices_Contains_int N) ls_slices_Contains_int trivial (N := N) (by kernel_rfl) (fn_slices_Contains_int N) (.inl (by kernel_rfl))
/-! impl_TotalWins -/
noncomputable def ks_impl_TotalWins_l5 : List Kd := [dK, dK, dK, .v (.int .i64) .k, dK, dK, dK, dK, dK, dK, .v (.sl tQIIIIILIE) .k, .v (.int .i64) .k, .v (.int .i64) .k, dK, dK, dK, dK, dK, dK, dK, dK, dK]
noncomputable def ko_impl_TotalWins_l5_0 : List Kd := [dK, dK, dK, .v (.int .i64) .k, dK, dK, dK, dK, dK, dK, dK, dK, dK, dK, dK, dK, dK, dK, dK, dK, dK, dK]
noncomputable def h_impl_TotalWins : Hint := { tab, hn := [], loops := [(5, ks_impl_TotalWins_l5)], outs := [(5, 2, ko_impl_TotalWins_l5_0)], ords := [] }
noncomputable def sg_impl_TotalWins : List AK := [.v (.sl tQIIIIILIE) .k]
noncomputable def F_impl_TotalWins (N : Nat) (x : AVals sg_impl_TotalWins) (kf : Ret → Option Ret) : Option Ret := impl_TotalWins N x.1 (fun r0 => kf ⟨[⟨(.int .i64), .k, r0⟩], []⟩)
noncomputable def run_impl_TotalWins (N : Nat) := runOf sg_impl_TotalWins (F_impl_TotalWins N)
noncomputable def es_impl_TotalWins (N : Nat) : List Entry := [⟨39, [.val], (run_impl_AreTeams N)⟩]
noncomputable def body_impl_TotalWins : Code := match Try.f36.body with | some c => c | none => .skip
noncomputable def L_impl_TotalWins (N n : Nat) (key : Nat) (S : St) (K : Ks) : Option Ret := bif Nat.beq key 5 then withVals ks_impl_TotalWins_l5 S (fun x => impl_TotalWins_l5 x.2.1 x.2.2.1 n (fun z0 => K (.x 0) (shape ko_impl_TotalWins_l5_0 (z0, ()))) x.1 x.2.2.2.1) else none
theorem L0_impl_TotalWins (N key : Nat) (S : St) (K : Ks) : L_impl_TotalWins N 0 key S K = none := (bif0 (withVals0 fun _ => rfl) rfl)
noncomputable def c_impl_TotalWins_0 : Code := (loopsIn body_impl_TotalWins).getD 0 .skip
theorem ls_impl_TotalWins : loopsIn body_impl_TotalWins = [c_impl_TotalWins_0] := by kernel_rfl
theorem rd_impl_TotalWins_5 (N n : Nat) (x : Vals ks_impl_TotalWins_l5) (K : Ks) : L_impl_TotalWins N (n + 1) 5 (shape ks_impl_TotalWins_l5 x) (h_impl_TotalWins.onOut 5 K) = peRound h_impl_TotalWins (Orc.of (es_impl_TotalWins N)) (mixL (L_impl_TotalWins N) N n 5) c_impl_TotalWins_0 (shape ks_impl_TotalWins_l5 x) (h_impl_TotalWins.onOut 5 K) := by kernel_rfl
theorem fn_impl_TotalWins (N : Nat) (x : AVals sg_impl_TotalWins) (kf : Ret → Option Ret) : F_impl_TotalWins N x kf = peFunc h_impl_TotalWins (Orc.of (es_impl_TotalWins N)) (L_impl_TotalWins N N) Try.f36 (ashape sg_impl_TotalWins x) kf := by kernel_rfl
theorem sd_impl_TotalWins {Γ : Gl} (N : Nat) : Sound Γ Try.prog 36 (run_impl_TotalWins N) := fun_ok2 (hh := h_impl_TotalWins) mixed tab_ok (es := es_impl_TotalWins N) ⟨sd_impl_AreTeams N, trivial⟩ (fn := Try.f36) (body := body_impl_TotalWins) (by kernel_rfl) (by kernel_rfl) (by kernel_rfl) (by kernel_rfl) (by kernel_rfl) (Lf := L_impl_TotalWins N) (L0_impl_TotalWins N) ls_impl_TotalWins (round_cons (key := 5) (ks := ks_impl_TotalWins_l5) (by kernel_rfl) (by kernel_rfl) (rd_impl_TotalWins_5 N) trivial) (N := N) (by kernel_rfl) (fn_impl_TotalWins N) (.inl (by kernel_rfl))
/-! spec_l1New -/
noncomputable def ks_spec_l1New_l3 : List Kd := [.v (.sl (.int .u8)) .k, dK, dK, .v (.int .i64) .k, .v (.int .i64) .k, dK, dK, dK, dK, dK, dK, dK, dK, dK, dK, dK, dK, dK, dK, dK, dK, dK, dK, dK, dK, dK, dK, dK, dK, dK, dK, dK]
noncomputable def ko_spec_l1New_l3_0 : List Kd := [.v (.sl (.int .u8)) .k, dK, dK, .v (.int .i64) .k, dK, dK, dK, dK, dK, dK, dK, dK, dK, dK, dK, dK, dK, dK, dK, dK, dK, dK, dK, dK, dK, dK, dK, dK, dK, dK, dK, dK]
noncomputable def h_spec_l1New : Hint := { tab, hn := [], loops := [(3, ks_spec_l1New_l3)], outs := [(3, 2, ko_spec_l1New_l3_0)], ords := [] }
noncomputable def sg_spec_l1New : List AK := [.v (.sl (.int .u8)) .k]
noncomputable def F_spec_l1New (N : Nat) (x : AVals sg_spec_l1New) (kf : Ret → Option Ret) : Option Ret := spec_l1New N x.1 (fun r0 => kf ⟨[⟨(.ptr tQLIIIE), (.o 108 none .k), r0⟩], []⟩)
noncomputable def run_spec_l1New (N : Nat) := runOf sg_spec_l1New (F_spec_l1New N)
noncomputable def es_spec_l1New (N : Nat) : List Entry := []
noncomputable def body_spec_l1New : Code := match Try.f47.body with | some c => c | none => .skip
noncomputable def L_spec_l1New (N n : Nat) (key : Nat) (S : St) (K : Ks) : Option Ret := bif Nat.beq key 3 then withVals ks_spec_l1New_l3 S (fun x => spec_l1New_l3 x.1 n (fun z0 => K (.x 0) (shape ko_spec_l1New_l3_0 (x.1, z0, ()))) x.2.1 x.2.2.1) else none
theorem L0_spec_l1New (N key : Nat) (S : St) (K : Ks) : L_spec_l1New N 0 key S K = none := (bif0 (withVals0 fun _ => rfl) rfl)
noncomputable def c_spec_l1New_0 : Code := (loopsIn body_spec_l1New).getD 0 .skip
theorem ls_spec_l1New : loopsIn body_spec_l1New = [c_spec_l1New_0] := by kernel_rfl
theorem rd_spec_l1New_3 (N n : Nat) (x : Vals ks_spec_l1New_l3) (K : Ks) : L_spec_l1New N (n + 1) 3 (shape ks_spec_l1New_l3 x) (h_spec_l1New.onOut 3 K) = peRound h_spec_l1New (Orc.of (es_spec_l1New N)) (mixL (L_spec_l1New N) N n 3) c_spec_l1New_0 (shape ks_spec_l1New_l3 x) (h_spec_l1New.onOut 3 K) := by kernel_rfl
theorem fn_spec_l1New (N : Nat) (x : AVals sg_spec_l1New) (kf : Ret → Option Ret) : F_spec_l1New N x kf = peFunc h_spec_l1New (Orc.of (es_spec_l1New N)) (L_spec_l1New N N) Try.f47 (ashape sg_spec_l1New x) kf := by kernel_rfl
theorem sd_spec_l1New {Γ : Gl} (N : Nat) : Sound Γ Try.prog 47 (run_spec_l1New N) := fun_ok2 (hh := h_spec_l1New) mixed tab_ok (es := es_spec_l1New N) trivial (fn := Try.f47) (body := body_spec_l1New) (by kernel_rfl) (by kernel_rfl) (by kernel_rfl) (by kernel_rfl) (by kernel_rfl) (Lf := L_spec_l1New N) (L0_spec_l1New N) ls_spec_l1New (round_cons (key := 3) (ks := ks_spec_l1New_l3) (by kernel_rfl) (by kernel_rfl) (rd_spec_l1New_3 N) trivial) (N := N) (by kernel_rfl) (fn_spec_l1New N) (.inl (by kernel_rfl))
/-! spec_l1Byte -/
noncomputable def h_spec_l1Byte : Hint := { tab, hn := [], loops := [], outs := [], ords := [(2, (OT.seq [0, 1, 2, 3, 4, 5, 6, 7, 8, 9, 10, 11, 12] .done)), (3, (OT.seq [0, 1, 2, 3, 4, 5, 6, 7, 8, 9] .done)), (4, (OT.seq [0, 1, 2, 3, 4, 5, 6, 7, 8, 9, 10, 11, 12, 13, 14] .done))], lent := some (0, false) }
noncomputable def sg_spec_l1Byte : List AK := [.v (.ptr tQLIIIE) (.o 108 (some 0) .k)]
noncomputable def F_spec_l1Byte (N : Nat) (x : AVals sg_spec_l1Byte) (kf : Ret → Option Ret) : Option Ret := spec_l1Byte N x.1 (fun r0 z => kf ⟨[⟨(.int .i64), .k, r0⟩], [⟨(.ptr tQLIIIE), (.o 108 (some 0) .k), z⟩]⟩)
noncomputable def run_spec_l1Byte (N : Nat) := runOf sg_spec_l1Byte (F_spec_l1Byte N)
noncomputable def es_spec_l1Byte (N : Nat) : List Entry := []
noncomputable def body_spec_l1Byte : Code := match Try.f91.body with | some c => c | none => .skip
noncomputable def L_spec_l1Byte (N n : Nat) (key : Nat) (S : St) (K : Ks) : Option Ret := none
theorem L0_spec_l1Byte (N key : Nat) (S : St) (K : Ks) : L_spec_l1Byte N 0 key S K = none := rfl
theorem ls_spec_l1Byte : loopsIn body_spec_l1Byte = [] := by kernel_rfl
theorem fn_spec_l1Byte (N : Nat) (x : AVals sg_spec_l1Byte) (kf : Ret → Option Ret) : F_spec_l1Byte N x kf = peFunc h_spec_l1Byte (Orc.of (es_spec_l1Byte N)) (L_spec_l1Byte N N) Try.f91 (ashape sg_spec_l1Byte x) kf := by kernel_rfl
theorem sd_spec_l1Byte {Γ : Gl} (N : Nat) : Sound Γ Try.prog 91 (run_spec_l1Byte N) := fun_ok2 (hh := h_spec_l1Byte) mixed tab_ok (es := es_spec_l1Byte N) trivial (fn := Try.f91) (body := body_spec_l1Byte) (by kernel_rfl) (by kernel_rfl) (by kernel_rfl) (by kernel_rfl) (by kernel_rfl) (Lf := L_spec_l1Byte N) (L0_spec_l1Byte N) ls_spec_l1Byte trivial (N := N) (by kernel_rfl) (fn_spec_l1Byte N) (.inl (by kernel_rfl))
/-! spec_l1Below -/
noncomputable def h_spec_l1Below : Hint := { tab, hn := [], loops := [], outs := [], ords := [], lent := some (0, false) }
noncomputable def sg_spec_l1Below : List AK := [.v (.ptr tQLIIIE) (.o 108 (some 0) .k), .v (.int .i64) .k]
noncomputable def F_spec_l1Below (N : Nat) (x : AVals sg_spec_l1Below) (kf : Ret → Option Ret) : Option Ret := spec_l1Below N x.1 x.2.1 (fun r0 z => kf ⟨[⟨(.int .i64), .k, r0⟩], [⟨(.ptr tQLIIIE), (.o 108 (some 0) .k), z⟩]⟩)
noncomputable def run_spec_l1Below (N : Nat) := runOf sg_spec_l1Below (F_spec_l1Below N)
noncomputable def es_spec_l1Below (N : Nat) : List Entry := [⟨91, [.lend], (run_spec_l1Byte N)⟩]
noncomputable def body_spec_l1Below : Code := match Try.f50.body with | some c => c | none => .skip
noncomputable def L_spec_l1Below (N n : Nat) (key : Nat) (S : St) (K : Ks) : Option Ret := none
theorem L0_spec_l1Below (N key : Nat) (S : St) (K : Ks) : L_spec_l1Below N 0 key S K = none := rfl
theorem ls_spec_l1Below : loopsIn body_spec_l1Below = [] := by kernel_rfl
theorem fn_spec_l1Below (N : Nat) (x : AVals sg_spec_l1Below) (kf : Ret → Option Ret) : F_spec_l1Below N x kf = peFunc h_spec_l1Below (Orc.of (es_spec_l1Below N)) (L_spec_l1Below N N) Try.f50 (ashape sg_spec_l1Below x) kf := by kernel_rfl
theorem sd_spec_l1Below {Γ : Gl} (N : Nat) : Sound Γ Try.prog 50 (run_spec_l1Below N) := fun_ok2 (hh := h_spec_l1Below) mixed tab_ok (es := es_spec_l1Below N) ⟨sd_spec_l1Byte N, trivial⟩ (fn := Try.f50) (body := body_spec_l1Below) (by kernel_rfl) (by kernel_rfl) (by kernel_rfl) (by kernel_rfl) (by kernel_rfl) (Lf := L_spec_l1Below N) (L0_spec_l1Below N) ls_spec_l1Below trivial (N := N) (by kernel_rfl) (fn_spec_l1Below N) (.inl (by kernel_rfl))
/-! spec_l19Copy -/
noncomputable def ks_spec_l19Copy_l3 : List Kd := [.v (.sl tQIIIIILIE) .k, dK, dK, .v (.sl tQIIIIILIE) (.o 54 none (.p .k (.p .k (.p .k (.p .k (.p .k (.o 3 none .k))))))), .v (.int .i64) .k, dK, dK, dK, dK, dK, dK, dK, dK, dK, dK, dK, dK, dK, dK, dK, dK, dK, dK, dK, dK, dK, dK]
noncomputable def ko_spec_l19Copy_l3_0 : List Kd := [dK, dK, dK, .v (.sl tQIIIIILIE) (.o 54 none (.p .k (.p .k (.p .k (.p .k (.p .k (.o 3 none .k))))))), dK, dK, dK, dK, dK, dK, dK, dK, dK, dK, dK, dK, dK, dK, dK, dK, dK, dK, dK, dK, dK, dK, dK]
noncomputable def h_spec_l19Copy : Hint := { tab, hn := [(6, (.p .k (.p .k (.p .k (.p .k (.p .k (.o 3 none .k)))))))], loops := [(3, ks_spec_l19Copy_l3)], outs := [(3, 2, ko_spec_l19Copy_l3_0)], ords := [] }
noncomputable def sg_spec_l19Copy : List AK := [.v (.sl tQIIIIILIE) .k]
noncomputable def F_spec_l19Copy (N : Nat) (x : AVals sg_spec_l19Copy) (kf : Ret → Option Ret) : Option Ret := spec_l19Copy N x.1 (fun r0 => kf ⟨[⟨(.sl tQIIIIILIE), (.o 54 none (.p .k (.p .k (.p .k (.p .k (.p .k (.o 3 none .k))))))), r0⟩], []⟩)
noncomputable def run_spec_l19Copy (N : Nat) := runOf sg_spec_l19Copy (F_spec_l19Copy N)
noncomputable def es_spec_l19Copy (N : Nat) : List Entry := []
noncomputable def body_spec_l19Copy : Code := match Try.f89.body with | some c => c | none => .skip
noncomputable def L_spec_l19Copy (N n : Nat) (key : Nat) (S : St) (K : Ks) : Option Ret := bif Nat.beq key 3 then withVals ks_spec_l19Copy_l3 S (fun x => spec_l19Copy_l3 x.1 n (fun z0 => K (.x 0) (shape ko_spec_l19Copy_l3_0 (z0, ()))) x.2.1 x.2.2.1) else none
theorem L0_spec_l19Copy (N key : Nat) (S : St) (K : Ks) : L_spec_l19Copy N 0 key S K = none := (bif0 (withVals0 fun _ => rfl) rfl)
noncomputable def c_spec_l19Copy_0 : Code := (loopsIn body_spec_l19Copy).getD 0 .skip
theorem ls_spec_l19Copy : loopsIn body_spec_l19Copy = [c_spec_l19Copy_0] := by kernel_rfl
theorem rd_spec_l19Copy_3 (N n : Nat) (x : Vals ks_spec_l19Copy_l3) (K : Ks) : L_spec_l19Copy N (n + 1) 3 (shape ks_spec_l19Copy_l3 x) (h_spec_l19Copy.onOut 3 K) = peRound h_spec_l19Copy (Orc.of (es_spec_l19Copy N)) (mixL (L_spec_l19Copy N) N n 3) c_spec_l19Copy_0 (shape ks_spec_l19Copy_l3 x) (h_spec_l19Copy.onOut 3 K) := by kernel_rfl
theorem fn_spec_l19Copy (N : Nat) (x : AVals sg_spec_l19Copy) (kf : Ret → Option Ret) : F_spec_l19Copy N x kf = peFunc h_spec_l19Copy (Orc.of (es_spec_l19Copy N)) (L_spec_l19Copy N N) Try.f89 (ashape sg_spec_l19Copy x) kf := by kernel_rfl
theorem sd_spec_l19Copy {Γ : Gl} (N : Nat) : Sound Γ Try.prog 89 (run_spec_l19Copy N) := fun_ok2 (hh := h_spec_l19Copy) mixed tab_ok (es := es_spec_l19Copy N) trivial (fn := Try.f89) (body := body_spec_l19Copy) (by kernel_rfl) (by kernel_rfl) (by kernel_rfl) (by kernel_rfl) (by kernel_rfl) (Lf := L_spec_l19Copy N) (L0_spec_l19Copy N) ls_spec_l19Copy (round_cons (key := 3) (ks := ks_spec_l19Copy_l3) (by kernel_rfl) (by kernel_rfl) (rd_spec_l19Copy_3 N) trivial) (N := N) (by kernel_rfl) (fn_spec_l19Copy N) (.inl (by kernel_rfl))
/-! spec_FindTeam -/
noncomputable def ks_spec_FindTeam_l2 : List Kd := [.v (.sl tQIIIIILIE) .k, .v (.int .i64) .k, dK, dK, dK, .v (.int .i64) .k, dK, dK, dK, dK, dK, dK, dK, dK, dK, dK, dK, dK, dK, dK]
noncomputable def ko_spec_FindTeam_l2_0 : List Kd := [dK, dK, dK, dK, dK, dK, dK, dK, dK, dK, dK, dK, dK, dK, dK, dK, dK, dK, dK, dK]
noncomputable def ko_spec_FindTeam_l2_1 : List Kd := [dK, dK, dK, dK, .v (.int .i64) .k, dK, dK, dK, dK, dK, dK, dK, dK, dK, dK, dK, dK, dK, dK, dK]
noncomputable def h_spec_FindTeam : Hint := { tab, hn := [], loops := [(2, ks_spec_FindTeam_l2)], outs := [(2, 2, ko_spec_FindTeam_l2_0), (2, 1, ko_spec_FindTeam_l2_1)], ords := [] }
noncomputable def sg_spec_FindTeam : List AK := [.v (.sl tQIIIIILIE) .k, .v (.int .i64) .k]
noncomputable def F_spec_FindTeam (N : Nat) (x : AVals sg_spec_FindTeam) (kf : Ret → Option Ret) : Option Ret := spec_FindTeam N x.1 x.2.1 (fun r0 => kf ⟨[⟨(.int .i64), .k, r0⟩], []⟩)
noncomputable def run_spec_FindTeam (N : Nat) := runOf sg_spec_FindTeam (F_spec_FindTeam N)
noncomputable def es_spec_FindTeam (N : Nat) : List Entry := []
noncomputable def body_spec_FindTeam : Code := match Try.f131.body with | some c => c | none => .skip
noncomputable def L_spec_FindTeam (N n : Nat) (key : Nat) (S : St) (K : Ks) : Option Ret := bif Nat.beq key 2 then withVals ks_spec_FindTeam_l2 S (fun x => spec_FindTeam_l2 x.1 x.2.1 n (K (.x 0) (shape ko_spec_FindTeam_l2_0 ())) (fun z0 => K .r (shape ko_spec_FindTeam_l2_1 (z0, ()))) x.2.2.1) else none
theorem L0_spec_FindTeam (N key : Nat) (S : St) (K : Ks) : L_spec_FindTeam N 0 key S K = none := (bif0 (withVals0 fun _ => rfl) rfl)
noncomputable def c_spec_FindTeam_0 : Code := (loopsIn body_spec_FindTeam).getD 0 .skip
theorem ls_spec_FindTeam : loopsIn body_spec_FindTeam = [c_spec_FindTeam_0] := by kernel_rfl
theorem rd_spec_FindTeam_2 (N n : Nat) (x : Vals ks_spec_FindTeam_l2) (K : Ks) : L_spec_FindTeam N (n + 1) 2 (shape ks_spec_FindTeam_l2 x) (h_spec_FindTeam.onOut 2 K) = peRound h_spec_FindTeam (Orc.of (es_spec_FindTeam N)) (mixL (L_spec_FindTeam N) N n 2) c_spec_FindTeam_0 (shape ks_spec_FindTeam_l2 x) (h_spec_FindTeam.onOut 2 K) := by kernel_rfl
theorem fn_spec_FindTeam (N : Nat) (x : AVals sg_spec_FindTeam) (kf : Ret → Option Ret) : F_spec_FindTeam N x kf = peFunc h_spec_FindTeam (Orc.of (es_spec_FindTeam N)) (L_spec_FindTeam N N) Try.f131 (ashape sg_spec_FindTeam x) kf := by kernel_rfl
theorem sd_spec_FindTeam {Γ : Gl} (N : Nat) : Sound Γ Try.prog 131 (run_spec_FindTeam N) := fun_ok2 (hh := h_spec_FindTeam) mixed tab_ok (es := es_spec_FindTeam N) trivial (fn := Try.f131) (body := body_spec_FindTeam) (by kernel_rfl) (by kernel_rfl) (by kernel_rfl) (by kernel_rfl) (by kernel_rfl) (Lf := L_spec_FindTeam N) (L0_spec_FindTeam N) ls_spec_FindTeam (round_cons (key := 2) (ks := ks_spec_FindTeam_l2) (by kernel_rfl) (by kernel_rfl) (rd_spec_FindTeam_2 N) trivial) (N := N) (by kernel_rfl) (fn_spec_FindTeam N) (.inl (by kernel_rfl))
/-! spec_l1In -/
noncomputable def h_spec_l1In : Hint := { tab, hn := [], loops := [], outs := [], ords := [] }
noncomputable def sg_spec_l1In : List AK := [.v (.int .i64) .k, .v (.int .i64) .k, .v (.int .i64) .k]
noncomputable def F_spec_l1In (N : Nat) (x : AVals sg_spec_l1In) (kf : Ret → Option Ret) : Option Ret := spec_l1In N x.1 x.2.1 x.2.2.1 (fun r0 => kf ⟨[⟨.bool, .k, r0⟩], []⟩)
noncomputable def run_spec_l1In (N : Nat) := runOf sg_spec_l1In (F_spec_l1In N)
noncomputable def es_spec_l1In (N : Nat) : List Entry := []
noncomputable def body_spec_l1In : Code := match Try.f72.body with | some c => c | none => .skip
noncomputable def L_spec_l1In (N n : Nat) (key : Nat) (S : St) (K : Ks) : Option Ret := none
theorem L0_spec_l1In (N key : Nat) (S : St) (K : Ks) : L_spec_l1In N 0 key S K = none := rfl
theorem ls_spec_l1In : loopsIn body_spec_l1In = [] := by kernel_rfl
theorem fn_spec_l1In (N : Nat) (x : AVals sg_spec_l1In) (kf : Ret → Option Ret) : F_spec_l1In N x kf = peFunc h_spec_l1In (Orc.of (es_spec_l1In N)) (L_spec_l1In N N) Try.f72 (ashape sg_spec_l1In x) kf := by kernel_rfl
theorem sd_spec_l1In {Γ : Gl} (N : Nat) : Sound Γ Try.prog 72 (run_spec_l1In N) := fun_ok2 (hh := h_spec_l1In) mixed tab_ok (es := es_spec_l1In N) trivial (fn := Try.f72) (body := body_spec_l1In) (by kernel_rfl) (by kernel_rfl) (by kernel_rfl) (by kernel_rfl) (by kernel_rfl) (Lf := L_spec_l1In N) (L0_spec_l1In N) ls_spec_l1In trivial (N := N) (by kernel_rfl) (fn_spec_l1In N) (.inl (by kernel_rfl))
/-! spec_l19Count -/
noncomputable def ks_spec_l19Count_l3 : List Kd := [.v (.sl (.int .i64)) .k, .v (.int .i64) .k, dK, dK, dK, .v (.int .i64) .k, .v (.int .i64) .k, dK, dK, dK, dK, dK, dK, dK, dK, dK, dK, dK, dK, dK, dK, dK]
noncomputable def ko_spec_l19Count_l3_0 : List Kd := [dK, dK, dK, dK, dK, .v (.int .i64) .k, dK, dK, dK, dK, dK, dK, dK, dK, dK, dK, dK, dK, dK, dK, dK, dK]
noncomputable def h_spec_l19Count : Hint := { tab, hn := [], loops := [(3, ks_spec_l19Count_l3)], outs := [(3, 2, ko_spec_l19Count_l3_0)], ords := [] }
noncomputable def sg_spec_l19Count : List AK := [.v (.sl (.int .i64)) .k, .v (.int .i64) .k]
noncomputable def F_spec_l19Count (N : Nat) (x : AVals sg_spec_l19Count) (kf : Ret → Option Ret) : Option Ret := spec_l19Count N x.1 x.2.1 (fun r0 => kf ⟨[⟨(.int .i64), .k, r0⟩], []⟩)
noncomputable def run_spec_l19Count (N : Nat) := runOf sg_spec_l19Count (F_spec_l19Count N)
noncomputable def es_spec_l19Count (N : Nat) : List Entry := []
noncomputable def body_spec_l19Count : Code := match Try.f132.body with | some c => c | none => .skip
noncomputable def L_spec_l19Count (N n : Nat) (key : Nat) (S : St) (K : Ks) : Option Ret := bif Nat.beq key 3 then withVals ks_spec_l19Count_l3 S (fun x => spec_l19Count_l3 x.1 x.2.1 n (fun z0 => K (.x 0) (shape ko_spec_l19Count_l3_0 (z0, ()))) x.2.2.1 x.2.2.2.1) else none
theorem L0_spec_l19Count (N key : Nat) (S : St) (K : Ks) : L_spec_l19Count N 0 key S K = none := (bif0 (withVals0 fun _ => rfl) rfl)
noncomputable def c_spec_l19Count_0 : Code := (loopsIn body_spec_l19Count).getD 0 .skip
theorem ls_spec_l19Count : loopsIn body_spec_l19Count = [c_spec_l19Count_0] := by kernel_rfl
theorem rd_spec_l19Count_3 (N n : Nat) (x : Vals ks_spec_l19Count_l3) (K : Ks) : L_spec_l19Count N (n + 1) 3 (shape ks_spec_l19Count_l3 x) (h_spec_l19Count.onOut 3 K) = peRound h_spec_l19Count (Orc.of (es_spec_l19Count N)) (mixL (L_spec_l19Count N) N n 3) c_spec_l19Count_0 (shape ks_spec_l19Count_l3 x) (h_spec_l19Count.onOut 3 K) := by kernel_rfl
theorem fn_spec_l19Count (N : Nat) (x : AVals sg_spec_l19Count) (kf : Ret → Option Ret) : F_spec_l19Count N x kf = peFunc h_spec_l19Count (Orc.of (es_spec_l19Count N)) (L_spec_l19Count N N) Try.f132 (ashape sg_spec_l19Count x) kf := by kernel_rfl
theorem sd_spec_l19Count {Γ : Gl} (N : Nat) : Sound Γ Try.prog 132 (run_spec_l19Count N) := fun_ok2 (hh := h_spec_l19Count) mixed tab_ok (es := es_spec_l19Count N) trivial (fn := Try.f132) (body := body_spec_l19Count) (by kernel_rfl) (by kernel_rfl) (by kernel_rfl) (by kernel_rfl) (by kernel_rfl) (Lf := L_spec_l19Count N) (L0_spec_l19Count N) ls_spec_l19Count (round_cons (key := 3) (ks := ks_spec_l19Count_l3) (by kernel_rfl) (by kernel_rfl) (rd_spec_l19Count_3 N) trivial) (N := N) (by kernel_rfl) (fn_spec_l19Count N) (.inl (by kernel_rfl))
/-! spec_AreTeams -/
noncomputable def ks_spec_AreTeams_l8 : List Kd := [.v (.sl tQIIIIILIE) .k, dK, dK, .v (.int .i64) .k, .v (.ptr tQIIIIILIE) (.o 54 none .k), .v (.int .i64) .k, dK, dK, dK, dK, dK, dK, dK, dK, dK, dK, dK, dK, dK, dK, dK, dK, dK, dK, dK, dK, dK, dK, dK, dK, dK, dK, dK, dK, dK, dK, dK, dK, dK, dK, dK, dK, dK, dK, dK, dK, dK, dK, dK, dK, dK, dK, dK, dK, dK, dK, dK, dK, dK, dK, dK, dK, dK, dK, dK, dK, dK, dK, dK, dK, dK, dK, dK, dK, dK, dK, dK, dK, dK, dK, dK, dK, dK, dK, dK, dK, dK, dK, dK, dK, dK, dK, dK, dK, dK, dK, dK, dK, dK, dK, dK, dK, dK, dK, dK, dK, dK, dK, dK, dK, dK, dK, dK, dK, dK]
noncomputable def ko_spec_AreTeams_l8_0 : List Kd := [.v (.sl tQIIIIILIE) .k, dK, dK, .v (.int .i64) .k, dK, dK, dK, dK, dK, dK, dK, dK, dK, dK, dK, dK, dK, dK, dK, dK, dK, dK, dK, dK, dK, dK, dK, dK, dK, dK, dK, dK, dK, dK, dK, dK, dK, dK, dK, dK, dK, dK, dK, dK, dK, dK, dK, dK, dK, dK, dK, dK, dK, dK, dK, dK, dK, dK, dK, dK, dK, dK, dK, dK, dK, dK, dK, dK, dK, dK, dK, dK, dK, dK, dK, dK, dK, dK, dK, dK, dK, dK, dK, dK, dK, dK, dK, dK, dK, dK, dK, dK, dK, dK, dK, dK, dK, dK, dK, dK, dK, dK, dK, dK, dK, dK, dK, dK, dK, dK, dK, dK, dK, dK, dK]
noncomputable def ko_spec_AreTeams_l8_1 : List Kd := [dK, dK, .v .bool .k, dK, dK, dK, dK, dK, dK, dK, dK, dK, dK, dK, dK, dK, dK, dK, dK, dK, dK, dK, dK, dK, dK, dK, dK, dK, dK, dK, dK, dK, dK, dK, dK, dK, dK, dK, dK, dK, dK, dK, dK, dK, dK, dK, dK, dK, dK, dK, dK, dK, dK, dK, dK, dK, dK, dK, dK, dK, dK, dK, dK, dK, dK, dK, dK, dK, dK, dK, dK, dK, dK, dK, dK, dK, dK, dK, dK, dK, dK, dK, dK, dK, dK, dK, dK, dK, dK, dK, dK, dK, dK, dK, dK, dK, dK, dK, dK, dK, dK, dK, dK, dK, dK, dK, dK, dK, dK, dK, dK, dK, dK, dK, dK]
noncomputable def ks_spec_AreTeams_l2 : List Kd := [.v (.sl tQIIIIILIE) .k, dK, dK, .v (.int .i64) .k, dK, dK, dK, dK, dK, dK, dK, dK, dK, dK, dK, dK, dK, dK, dK, dK, dK, dK, dK, dK, dK, dK, dK, dK, dK, dK, dK, dK, dK, dK, dK, dK, dK, dK, dK, dK, dK, dK, dK, dK, dK, dK, dK, dK, dK, dK, dK, dK, dK, dK, dK, dK, dK, dK, dK, dK, dK, dK, dK, dK, dK, dK, dK, dK, dK, dK, dK, dK, dK, dK, dK, dK, dK, dK, dK, dK, dK, dK, dK, dK, dK, dK, dK, dK, dK, dK, dK, dK, dK, dK, dK, dK, dK, dK, dK, dK, dK, dK, dK, dK, dK, dK, dK, dK, dK, dK, dK, dK, dK, dK, dK]
noncomputable def ko_spec_AreTeams_l2_0 : List Kd := [.v (.sl tQIIIIILIE) .k, dK, dK, dK, dK, dK, dK, dK, dK, dK, dK, dK, dK, dK, dK, dK, dK, dK, dK, dK, dK, dK, dK, dK, dK, dK, dK, dK, dK, dK, dK, dK, dK, dK, dK, dK, dK, dK, dK, dK, dK, dK, dK, dK, dK, dK, dK, dK, dK, dK, dK, dK, dK, dK, dK, dK, dK, dK, dK, dK, dK, dK, dK, dK, dK, dK, dK, dK, dK, dK, dK, dK, dK, dK, dK, dK, dK, dK, dK, dK, dK, dK, dK, dK, dK, dK, dK, dK, dK, dK, dK, dK, dK, dK, dK, dK, dK, dK, dK, dK, dK, dK, dK, dK, dK, dK, dK, dK, dK, dK, dK, dK, dK, dK, dK]
noncomputable def ko_spec_AreTeams_l2_1 : List Kd := [dK, dK, .v .bool .k, dK, dK, dK, dK, dK, dK, dK, dK, dK, dK, dK, dK, dK, dK, dK, dK, dK, dK, dK, dK, dK, dK, dK, dK, dK, dK, dK, dK, dK, dK, dK, dK, dK, dK, dK, dK, dK, dK, dK, dK, dK, dK, dK, dK, dK, dK, dK, dK, dK, dK, dK, dK, dK, dK, dK, dK, dK, dK, dK, dK, dK, dK, dK, dK, dK, dK, dK, dK, dK, dK, dK, dK, dK, dK, dK, dK, dK, dK, dK, dK, dK, dK, dK, dK, dK, dK, dK, dK, dK, dK, dK, dK, dK, dK, dK, dK, dK, dK, dK, dK, dK, dK, dK, dK, dK, dK, dK, dK, dK, dK, dK, dK]
noncomputable def h_spec_AreTeams : Hint := { tab, hn := [], loops := [(8, ks_spec_AreTeams_l8), (2, ks_spec_AreTeams_l2)], outs := [(8, 4, ko_spec_AreTeams_l8_0), (8, 1, ko_spec_AreTeams_l8_1), (2, 2, ko_spec_AreTeams_l2_0), (2, 1, ko_spec_AreTeams_l2_1)], ords := [(5, (OT.seq [0, 1, 2, 3, 4, 5, 6, 7, 8, 9, 10, 11, 12, 13, 14, 15, 16, 17, 18, 19, 20, 21, 22, 23, 24, 25, 26, 27, 28, 29, 30, 31, 32, 33, 34, 35, 36, 37, 38, 39, 40, 41, 42, 43, 44, 45, 46, 47, 48, 49, 50, 51, 52, 53, 54] .done)), (11, (OT.seq [0, 1, 2, 3, 4, 5, 6, 7, 8, 9, 10, 11, 12, 13, 14, 16, 17, 18, 19, 20, 21, 22, 15, 23, 24, 25] .done))] }
noncomputable def sg_spec_AreTeams : List AK := [.v (.sl tQIIIIILIE) .k]
noncomputable def F_spec_AreTeams (N : Nat) (x : AVals sg_spec_AreTeams) (kf : Ret → Option Ret) : Option Ret := spec_AreTeams N x.1 (fun r0 => kf ⟨[⟨.bool, .k, r0⟩], []⟩)
noncomputable def run_spec_AreTeams (N : Nat) := runOf sg_spec_AreTeams (F_spec_AreTeams N)
noncomputable def es_spec_AreTeams (N : Nat) : List Entry := [⟨72, [.val, .val, .val], (run_spec_l1In N)⟩, ⟨131, [.val, .val], (run_spec_FindTeam N)⟩, ⟨132, [.val, .val], (run_spec_l19Count N)⟩]
noncomputable def body_spec_AreTeams : Code := match Try.f111.body with | some c => c | none => .skip
noncomputable def L_spec_AreTeams (N n : Nat) (key : Nat) (S : St) (K : Ks) : Option Ret := bif Nat.beq key 2 then withVals ks_spec_AreTeams_l2 S (fun x => spec_AreTeams_l2 N x.1 n (K (.x 0) (shape ko_spec_AreTeams_l2_0 (x.1, ()))) (fun z0 => K .r (shape ko_spec_AreTeams_l2_1 (z0, ()))) x.2.1) else bif Nat.beq key 8 then withVals ks_spec_AreTeams_l8 S (fun x => spec_AreTeams_l8 N x.1 x.2.1 x.2.2.1 n (K (.x 2) (shape ko_spec_AreTeams_l8_0 (x.1, x.2.1, ()))) (fun z0 => K .r (shape ko_spec_AreTeams_l8_1 (z0, ()))) x.2.2.2.1) else none
theorem L0_spec_AreTeams (N key : Nat) (S : St) (K : Ks) : L_spec_AreTeams N 0 key S K = none := (bif0 (withVals0 fun _ => rfl) (bif0 (withVals0 fun _ => rfl) rfl))
noncomputable def c_spec_AreTeams_0 : Code := (loopsIn body_spec_AreTeams).getD 0 .skip
noncomputable def c_spec_AreTeams_1 : Code := (loopsIn body_spec_AreTeams).getD 1 .skip
theorem ls_spec_AreTeams : loopsIn body_spec_AreTeams = [c_spec_AreTeams_0, c_spec_AreTeams_1] := by kernel_rfl
theorem rd_spec_AreTeams_8 (N n : Nat) (x : Vals ks_spec_AreTeams_l8) (K : Ks) : L_spec_AreTeams N (n + 1) 8 (shape ks_spec_AreTeams_l8 x) (h_spec_AreTeams.onOut 8 K) = peRound h_spec_AreTeams (Orc.of (es_spec_AreTeams N)) (mixL (L_spec_AreTeams N) N n 8) c_spec_AreTeams_1 (shape ks_spec_AreTeams_l8 x) (h_spec_AreTeams.onOut 8 K) := by kernel_rfl
theorem rd_spec_AreTeams_2 (N n : Nat) (x : Vals ks_spec_AreTeams_l2) (K : Ks) : L_spec_AreTeams N (n + 1) 2 (shape ks_spec_AreTeams_l2 x) (h_spec_AreTeams.onOut 2 K) = peRound h_spec_AreTeams (Orc.of (es_spec_AreTeams N)) (mixL (L_spec_AreTeams N) N n 2) c_spec_AreTeams_0 (shape ks_spec_AreTeams_l2 x) (h_spec_AreTeams.onOut 2 K) := by kernel_rfl
theorem fn_spec_AreTeams (N : Nat) (x : AVals sg_spec_AreTeams) (kf : Ret → Option Ret) : F_spec_AreTeams N x kf = peFunc h_spec_AreTeams (Orc.of (es_spec_AreTeams N)) (L_spec_AreTeams N N) Try.f111 (ashape sg_spec_AreTeams x) kf := by kernel_rfl
theorem sd_spec_AreTeams {Γ : Gl} (N : Nat) : Sound Γ Try.prog 111 (run_spec_AreTeams N) := fun_ok2 (hh := h_spec_AreTeams) mixed tab_ok (es := es_spec_AreTeams N) ⟨sd_spec_l1In N, ⟨sd_spec_FindTeam N, ⟨sd_spec_l19Count N, trivial⟩⟩⟩ (fn := Try.f111) (body := body_spec_AreTeams) (by kernel_rfl) (by kernel_rfl) (by kernel_rfl) (by kernel_rfl) (by kernel_rfl) (Lf := L_spec_AreTeams N) (L0_spec_AreTeams N) ls_spec_AreTeams (round_cons (key := 2) (ks := ks_spec_AreTeams_l2) (by kernel_rfl) (by kernel_rfl) (rd_spec_AreTeams_2 N) (round_cons (key := 8) (ks := ks_spec_AreTeams_l8) (by kernel_rfl) (by kernel_rfl) (rd_spec_AreTeams_8 N) trivial)) (N := N) (by kernel_rfl) (fn_spec_AreTeams N) (.inl (by kernel_rfl))
/-! spec_AddResult -/
noncomputable def h_spec_AddResult : Hint := { tab, hn := [], loops := [], outs := [], ords := [] }
noncomputable def sg_spec_AddResult : List AK := [.v (.sl tQIIIIILIE) .k, .v (.int .i64) .k, .v (.int .i64) .k, .v (.int .i64) .k, .v (.int .i64) .k, .v (.int .i64) .k]
noncomputable def F_spec_AddResult (N : Nat) (x : AVals sg_spec_AddResult) (kf : Ret → Option Ret) : Option Ret := spec_AddResult N x.1 x.2.1 x.2.2.1 x.2.2.2.1 x.2.2.2.2.1 x.2.2.2.2.2.1 (fun r0 r1 => kf ⟨[⟨(.sl tQIIIIILIE), (.o 54 none (.p .k (.p .k (.p .k (.p .k (.p .k (.o 3 none .k))))))), r0⟩, ⟨.bool, .k, r1⟩], []⟩)
noncomputable def run_spec_AddResult (N : Nat) := runOf sg_spec_AddResult (F_spec_AddResult N)
noncomputable def es_spec_AddResult (N : Nat) : List Entry := [⟨89, [.val], (run_spec_l19Copy N)⟩, ⟨131, [.val, .val], (run_spec_FindTeam N)⟩, ⟨111, [.val], (run_spec_AreTeams N)⟩, ⟨72, [.val, .val, .val], (run_spec_l1In N)⟩]
noncomputable def body_spec_AddResult : Code := match Try.f110.body with | some c => c | none => .skip
noncomputable def L_spec_AddResult (N n : Nat) (key : Nat) (S : St) (K : Ks) : Option Ret := none
theorem L0_spec_AddResult (N key : Nat) (S : St) (K : Ks) : L_spec_AddResult N 0 key S K = none := rfl
theorem ls_spec_AddResult : loopsIn body_spec_AddResult = [] := by kernel_rfl
theorem fn_spec_AddResult (N : Nat) (x : AVals sg_spec_AddResult) (kf : Ret → Option Ret) : F_spec_AddResult N x kf = peFunc h_spec_AddResult (Orc.of (es_spec_AddResult N)) (L_spec_AddResult N N) Try.f110 (ashape sg_spec_AddResult x) kf := by kernel_rfl
theorem sd_spec_AddResult {Γ : Gl} (N : Nat) : Sound Γ Try.prog 110 (run_spec_AddResult N) := fun_ok2 (hh := h_spec_AddResult) mixed tab_ok (es := es_spec_AddResult N) ⟨sd_spec_l19Copy N, ⟨sd_spec_FindTeam N, ⟨sd_spec_AreTeams N, ⟨sd_spec_l1In N, trivial⟩⟩⟩⟩ (fn := Try.f110) (body := body_spec_AddResult) (by kernel_rfl) (by kernel_rfl) (by kernel_rfl) (by kernel_rfl) (by kernel_rfl) (Lf := L_spec_AddResult N) (L0_spec_AddResult N) ls_spec_AddResult trivial (N := N) (by kernel_rfl) (fn_spec_AddResult N) (.inl (by kernel_rfl))
/-! spec_l19Draw -/
noncomputable def ks_spec_l19Draw_l3 : List Kd := [.v (.ptr tQLIIIE) (.o 108 (some 0) .k), dK, dK, .v (.sl tQIIIIILIE) (.o 54 none (.p .k (.p .k (.p .k (.p .k (.p .k (.o 3 none .k))))))), .v (.int .i64) .k, dK, dK, dK, dK, dK, dK, dK, dK, dK, dK, dK, dK, dK, dK, dK, dK, dK, dK, dK, dK, dK, dK, dK, dK, dK, dK, dK, dK, dK, dK, dK, dK, dK, dK, dK, dK, dK, dK, dK, dK, dK, dK, dK, dK, dK, dK, dK]
noncomputable def ko_spec_l19Draw_l3_0 : List Kd := [.v (.ptr tQLIIIE) (.o 108 (some 0) .k), dK, dK, .v (.sl tQIIIIILIE) (.o 54 none (.p .k (.p .k (.p .k (.p .k (.p .k (.o 3 none .k))))))), dK, dK, dK, dK, dK, dK, dK, dK, dK, dK, dK, dK, dK, dK, dK, dK, dK, dK, dK, dK, dK, dK, dK, dK, dK, dK, dK, dK, dK, dK, dK, dK, dK, dK, dK, dK, dK, dK, dK, dK, dK, dK, dK, dK, dK, dK, dK, dK]
noncomputable def ks_spec_l19Draw_l7 : List Kd := [.v (.ptr tQLIIIE) (.o 108 (some 0) .k), dK, dK, .v (.sl tQIIIIILIE) (.o 54 none (.p .k (.p .k (.p .k (.p .k (.p .k (.o 3 none .k))))))), dK, .v (.int .i64) .k, dK, dK, dK, dK, dK, dK, dK, dK, dK, dK, dK, dK, dK, dK, dK, dK, dK, dK, dK, dK, dK, dK, dK, dK, dK, dK, dK, dK, dK, dK, dK, dK, dK, dK, dK, dK, dK, dK, dK, dK, dK, dK, dK, dK, dK, dK]
noncomputable def ko_spec_l19Draw_l7_0 : List Kd := [.v (.ptr tQLIIIE) (.o 108 (some 0) .k), dK, dK, .v (.sl tQIIIIILIE) (.o 54 none (.p .k (.p .k (.p .k (.p .k (.p .k (.o 3 none .k))))))), dK, dK, dK, dK, dK, dK, dK, dK, dK, dK, dK, dK, dK, dK, dK, dK, dK, dK, dK, dK, dK, dK, dK, dK, dK, dK, dK, dK, dK, dK, dK, dK, dK, dK, dK, dK, dK, dK, dK, dK, dK, dK, dK, dK, dK, dK, dK, dK]
noncomputable def h_spec_l19Draw : Hint := { tab, hn := [(6, (.p .k (.p .k (.p .k (.p .k (.p .k (.o 3 none .k)))))))], loops := [(3, ks_spec_l19Draw_l3), (7, ks_spec_l19Draw_l7)], outs := [(3, 2, ko_spec_l19Draw_l3_0), (7, 4, ko_spec_l19Draw_l7_0)], ords := [], lent := some (0, false) }
noncomputable def sg_spec_l19Draw : List AK := [.v (.ptr tQLIIIE) (.o 108 (some 0) .k)]
noncomputable def F_spec_l19Draw (N : Nat) (x : AVals sg_spec_l19Draw) (kf : Ret → Option Ret) : Option Ret := spec_l19Draw N x.1 (fun r0 z => kf ⟨[⟨(.sl tQIIIIILIE), (.o 54 none (.p .k (.p .k (.p .k (.p .k (.p .k (.o 3 none .k))))))), r0⟩], [⟨(.ptr tQLIIIE), (.o 108 (some 0) .k), z⟩]⟩)
noncomputable def run_spec_l19Draw (N : Nat) := runOf sg_spec_l19Draw (F_spec_l19Draw N)
noncomputable def es_spec_l19Draw (N : Nat) : List Entry := [⟨50, [.lend, .val], (run_spec_l1Below N)⟩, ⟨110, [.val, .val, .val, .val, .val, .val], (run_spec_AddResult N)⟩]
noncomputable def body_spec_l19Draw : Code := match Try.f82.body with | some c => c | none => .skip
noncomputable def L_spec_l19Draw (N n : Nat) (key : Nat) (S : St) (K : Ks) : Option Ret := bif Nat.beq key 3 then withVals ks_spec_l19Draw_l3 S (fun x => spec_l19Draw_l3 N n (fun z0 z1 => K (.x 0) (shape ko_spec_l19Draw_l3_0 (z0, z1, ()))) x.1 x.2.1 x.2.2.1) else bif Nat.beq key 7 then withVals ks_spec_l19Draw_l7 S (fun x => spec_l19Draw_l7 N n (fun z0 z1 => K (.x 2) (shape ko_spec_l19Draw_l7_0 (z0, z1, ()))) x.1 x.2.1 x.2.2.1) else none
theorem L0_spec_l19Draw (N key : Nat) (S : St) (K : Ks) : L_spec_l19Draw N 0 key S K = none := (bif0 (withVals0 fun _ => rfl) (bif0 (withVals0 fun _ => rfl) rfl))
noncomputable def c_spec_l19Draw_0 : Code := (loopsIn body_spec_l19Draw).getD 0 .skip
noncomputable def c_spec_l19Draw_1 : Code := (loopsIn body_spec_l19Draw).getD 1 .skip
theorem ls_spec_l19Draw : loopsIn body_spec_l19Draw = [c_spec_l19Draw_0, c_spec_l19Draw_1] := by kernel_rfl
theorem rd_spec_l19Draw_7 (N n : Nat) (x : Vals ks_spec_l19Draw_l7) (K : Ks) : L_spec_l19Draw N (n + 1) 7 (shape ks_spec_l19Draw_l7 x) (h_spec_l19Draw.onOut 7 K) = peRound h_spec_l19Draw (Orc.of (es_spec_l19Draw N)) (mixL (L_spec_l19Draw N) N n 7) c_spec_l19Draw_1 (shape ks_spec_l19Draw_l7 x) (h_spec_l19Draw.onOut 7 K) := by kernel_rfl
theorem rd_spec_l19Draw_3 (N n : Nat) (x : Vals ks_spec_l19Draw_l3) (K : Ks) : L_spec_l19Draw N (n + 1) 3 (shape ks_spec_l19Draw_l3 x) (h_spec_l19Draw.onOut 3 K) = peRound h_spec_l19Draw (Orc.of (es_spec_l19Draw N)) (mixL (L_spec_l19Draw N) N n 3) c_spec_l19Draw_0 (shape ks_spec_l19Draw_l3 x) (h_spec_l19Draw.onOut 3 K) := by kernel_rfl
theorem fn_spec_l19Draw (N : Nat) (x : AVals sg_spec_l19Draw) (kf : Ret → Option Ret) : F_spec_l19Draw N x kf = peFunc h_spec_l19Draw (Orc.of (es_spec_l19Draw N)) (L_spec_l19Draw N N) Try.f82 (ashape sg_spec_l19Draw x) kf := by kernel_rfl
theorem sd_spec_l19Draw {Γ : Gl} (N : Nat) : Sound Γ Try.prog 82 (run_spec_l19Draw N) := fun_ok2 (hh := h_spec_l19Draw) mixed tab_ok (es := es_spec_l19Draw N) ⟨sd_spec_l1Below N, ⟨sd_spec_AddResult N, trivial⟩⟩ (fn := Try.f82) (body := body_spec_l19Draw) (by kernel_rfl) (by kernel_rfl) (by kernel_rfl) (by kernel_rfl) (by kernel_rfl) (Lf := L_spec_l19Draw N) (L0_spec_l19Draw N) ls_spec_l19Draw (round_cons (key := 3) (ks := ks_spec_l19Draw_l3) (by kernel_rfl) (by kernel_rfl) (rd_spec_l19Draw_3 N) (round_cons (key := 7) (ks := ks_spec_l19Draw_l7) (by kernel_rfl) (by kernel_rfl) (rd_spec_l19Draw_7 N) trivial)) (N := N) (by kernel_rfl) (fn_spec_l19Draw N) (.inl (by kernel_rfl))
/-! spec_l1Once -/
noncomputable def h_spec_l1Once : Hint := { tab, hn := [], loops := [], outs := [], ords := [], lent := some (0, false) }
noncomputable def sg_spec_l1Once : List AK := [.v (.ptr tQLIIIE) (.o 108 (some 0) .k), .v (.int .i64) .k]
noncomputable def F_spec_l1Once (N : Nat) (x : AVals sg_spec_l1Once) (kf : Ret → Option Ret) : Option Ret := spec_l1Once N x.1 x.2.1 (fun r0 z => kf ⟨[⟨.bool, .k, r0⟩], [⟨(.ptr tQLIIIE), (.o 108 (some 0) .k), z⟩]⟩)
noncomputable def run_spec_l1Once (N : Nat) := runOf sg_spec_l1Once (F_spec_l1Once N)
noncomputable def es_spec_l1Once (N : Nat) : List Entry := [⟨50, [.lend, .val], (run_spec_l1Below N)⟩]
noncomputable def body_spec_l1Once : Code := match Try.f87.body with | some c => c | none => .skip
noncomputable def L_spec_l1Once (N n : Nat) (key : Nat) (S : St) (K : Ks) : Option Ret := none
theorem L0_spec_l1Once (N key : Nat) (S : St) (K : Ks) : L_spec_l1Once N 0 key S K = none := rfl
theorem ls_spec_l1Once : loopsIn body_spec_l1Once = [] := by kernel_rfl
theorem fn_spec_l1Once (N : Nat) (x : AVals sg_spec_l1Once) (kf : Ret → Option Ret) : F_spec_l1Once N x kf = peFunc h_spec_l1Once (Orc.of (es_spec_l1Once N)) (L_spec_l1Once N N) Try.f87 (ashape sg_spec_l1Once x) kf := by kernel_rfl
theorem sd_spec_l1Once {Γ : Gl} (N : Nat) : Sound Γ Try.prog 87 (run_spec_l1Once N) := fun_ok2 (hh := h_spec_l1Once) mixed tab_ok (es := es_spec_l1Once N) ⟨sd_spec_l1Below N, trivial⟩ (fn := Try.f87) (body := body_spec_l1Once) (by kernel_rfl) (by kernel_rfl) (by kernel_rfl) (by kernel_rfl) (by kernel_rfl) (Lf := L_spec_l1Once N) (L0_spec_l1Once N) ls_spec_l1Once trivial (N := N) (by kernel_rfl) (fn_spec_l1Once N) (.inl (by kernel_rfl))
/-! spec_l21Draw -/
noncomputable def ks_spec_l21Draw_l3 : List Kd := [.v (.ptr tQLIIIE) (.o 108 (some 0) .k), dK, dK, .v (.sl tQIILIE) (.o 85 none (.p .k (.p .k (.o 3 none .k)))), .v (.int .i64) .k, dK, dK, dK, dK, dK, dK, dK, dK, dK, dK, dK, dK, dK, dK, dK, dK, dK, dK, dK, dK, dK, dK, dK, dK, dK, dK, dK, dK]
noncomputable def ko_spec_l21Draw_l3_0 : List Kd := [.v (.ptr tQLIIIE) (.o 108 (some 0) .k), dK, dK, .v (.sl tQIILIE) (.o 85 none (.p .k (.p .k (.o 3 none .k)))), dK, dK, dK, dK, dK, dK, dK, dK, dK, dK, dK, dK, dK, dK, dK, dK, dK, dK, dK, dK, dK, dK, dK, dK, dK, dK, dK, dK, dK]
noncomputable def h_spec_l21Draw : Hint := { tab, hn := [(6, (.p .k (.p .k (.o 3 none .k))))], loops := [(3, ks_spec_l21Draw_l3)], outs := [(3, 2, ko_spec_l21Draw_l3_0)], ords := [], lent := some (0, false) }
noncomputable def sg_spec_l21Draw : List AK := [.v (.ptr tQLIIIE) (.o 108 (some 0) .k)]
noncomputable def F_spec_l21Draw (N : Nat) (x : AVals sg_spec_l21Draw) (kf : Ret → Option Ret) : Option Ret := spec_l21Draw N x.1 (fun r0 z => kf ⟨[⟨(.sl tQIILIE), (.o 85 none (.p .k (.p .k (.o 3 none .k)))), r0⟩], [⟨(.ptr tQLIIIE), (.o 108 (some 0) .k), z⟩]⟩)
noncomputable def run_spec_l21Draw (N : Nat) := runOf sg_spec_l21Draw (F_spec_l21Draw N)
noncomputable def es_spec_l21Draw (N : Nat) : List Entry := [⟨50, [.lend, .val], (run_spec_l1Below N)⟩, ⟨87, [.lend, .val], (run_spec_l1Once N)⟩]
noncomputable def body_spec_l21Draw : Code := match Try.f83.body with | some c => c | none => .skip
noncomputable def L_spec_l21Draw (N n : Nat) (key : Nat) (S : St) (K : Ks) : Option Ret := bif Nat.beq key 3 then withVals ks_spec_l21Draw_l3 S (fun x => spec_l21Draw_l3 N n (fun z0 z1 => K (.x 0) (shape ko_spec_l21Draw_l3_0 (z0, z1, ()))) x.1 x.2.1 x.2.2.1) else none
theorem L0_spec_l21Draw (N key : Nat) (S : St) (K : Ks) : L_spec_l21Draw N 0 key S K = none := (bif0 (withVals0 fun _ => rfl) rfl)
noncomputable def c_spec_l21Draw_0 : Code := (loopsIn body_spec_l21Draw).getD 0 .skip
theorem ls_spec_l21Draw : loopsIn body_spec_l21Draw = [c_spec_l21Draw_0] := by kernel_rfl
theorem rd_spec_l21Draw_3 (N n : Nat) (x : Vals ks_spec_l21Draw_l3) (K : Ks) : L_spec_l21Draw N (n + 1) 3 (shape ks_spec_l21Draw_l3 x) (h_spec_l21Draw.onOut 3 K) = peRound h_spec_l21Draw (Orc.of (es_spec_l21Draw N)) (mixL (L_spec_l21Draw N) N n 3) c_spec_l21Draw_0 (shape ks_spec_l21Draw_l3 x) (h_spec_l21Draw.onOut 3 K) := by kernel_rfl
theorem fn_spec_l21Draw (N : Nat) (x : AVals sg_spec_l21Draw) (kf : Ret → Option Ret) : F_spec_l21Draw N x kf = peFunc h_spec_l21Draw (Orc.of (es_spec_l21Draw N)) (L_spec_l21Draw N N) Try.f83 (ashape sg_spec_l21Draw x) kf := by kernel_rfl
theorem sd_spec_l21Draw {Γ : Gl} (N : Nat) : Sound Γ Try.prog 83 (run_spec_l21Draw N) := fun_ok2 (hh := h_spec_l21Draw) mixed tab_ok (es := es_spec_l21Draw N) ⟨sd_spec_l1Below N, ⟨sd_spec_l1Once N, trivial⟩⟩ (fn := Try.f83) (body := body_spec_l21Draw) (by kernel_rfl) (by kernel_rfl) (by kernel_rfl) (by kernel_rfl) (by kernel_rfl) (Lf := L_spec_l21Draw N) (L0_spec_l21Draw N) ls_spec_l21Draw (round_cons (key := 3) (ks := ks_spec_l21Draw_l3) (by kernel_rfl) (by kernel_rfl) (rd_spec_l21Draw_3 N) trivial) (N := N) (by kernel_rfl) (fn_spec_l21Draw N) (.inl (by kernel_rfl))
/-! spec_IsGraph -/
noncomputable def ks_spec_IsGraph_l2 : List Kd := [dK, .v (.ptr tQILLIE) (.o 45 none .k), dK, .v (.int .i64) .k, dK, dK, dK, dK, dK, dK, dK, dK, dK, dK, dK, dK, dK, dK, dK, dK, dK, dK, dK, dK, dK, dK, dK, dK, dK, dK, dK, dK, dK, dK, dK, dK, dK, dK, dK, dK, dK, dK, dK, dK, dK, dK, dK, dK, dK, dK, dK, dK, dK, dK, dK, dK, dK, dK, dK, dK, dK, dK, dK, dK, dK, dK, dK, dK, dK, dK, dK, dK, dK, dK, dK, dK, dK]
noncomputable def ko_spec_IsGraph_l2_0 : List Kd := [dK, .v (.ptr tQILLIE) (.o 45 none .k), dK, dK, dK, dK, dK, dK, dK, dK, dK, dK, dK, dK, dK, dK, dK, dK, dK, dK, dK, dK, dK, dK, dK, dK, dK, dK, dK, dK, dK, dK, dK, dK, dK, dK, dK, dK, dK, dK, dK, dK, dK, dK, dK, dK, dK, dK, dK, dK, dK, dK, dK, dK, dK, dK, dK, dK, dK, dK, dK, dK, dK, dK, dK, dK, dK, dK, dK, dK, dK, dK, dK, dK, dK, dK, dK]
noncomputable def ko_spec_IsGraph_l2_1 : List Kd := [dK, dK, .v .bool .k, dK, dK, dK, dK, dK, dK, dK, dK, dK, dK, dK, dK, dK, dK, dK, dK, dK, dK, dK, dK, dK, dK, dK, dK, dK, dK, dK, dK, dK, dK, dK, dK, dK, dK, dK, dK, dK, dK, dK, dK, dK, dK, dK, dK, dK, dK, dK, dK, dK, dK, dK, dK, dK, dK, dK, dK, dK, dK, dK, dK, dK, dK, dK, dK, dK, dK, dK, dK, dK, dK, dK, dK, dK, dK]
noncomputable def h_spec_IsGraph : Hint := { tab, hn := [], loops := [(2, ks_spec_IsGraph_l2)], outs := [(2, 2, ko_spec_IsGraph_l2_0), (2, 1, ko_spec_IsGraph_l2_1)], ords := [(5, (OT.seq [0, 1, 2, 3, 4, 5, 6, 7, 8, 9, 10, 11, 12, 13, 14, 15, 16, 17, 18, 19, 20, 21, 22] .done)), (9, (OT.seq [0, 1, 2, 3, 4, 5, 6, 7, 8, 9, 10, 11, 12, 13, 14, 15, 16, 17, 18, 19, 20, 21, 22, 23, 24] .done))] }
noncomputable def sg_spec_IsGraph : List AK := [.v tQILLIE .k]
noncomputable def F_spec_IsGraph (N : Nat) (x : AVals sg_spec_IsGraph) (kf : Ret → Option Ret) : Option Ret := spec_IsGraph N x.1 (fun r0 => kf ⟨[⟨.bool, .k, r0⟩], []⟩)
noncomputable def run_spec_IsGraph (N : Nat) := runOf sg_spec_IsGraph (F_spec_IsGraph N)
noncomputable def es_spec_IsGraph (N : Nat) : List Entry := [⟨72, [.val, .val, .val], (run_spec_l1In N)⟩]
noncomputable def body_spec_IsGraph : Code := match Try.f60.body with | some c => c | none => .skip
noncomputable def L_spec_IsGraph (N n : Nat) (key : Nat) (S : St) (K : Ks) : Option Ret := bif Nat.beq key 2 then withVals ks_spec_IsGraph_l2 S (fun x => spec_IsGraph_l2 N x.1 n (K (.x 0) (shape ko_spec_IsGraph_l2_0 (x.1, ()))) (fun z0 => K .r (shape ko_spec_IsGraph_l2_1 (z0, ()))) x.2.1) else none
theorem L0_spec_IsGraph (N key : Nat) (S : St) (K : Ks) : L_spec_IsGraph N 0 key S K = none := (bif0 (withVals0 fun _ => rfl) rfl)
noncomputable def c_spec_IsGraph_0 : Code := (loopsIn body_spec_IsGraph).getD 0 .skip
theorem ls_spec_IsGraph : loopsIn body_spec_IsGraph = [c_spec_IsGraph_0] := by kernel_rfl
theorem rd_spec_IsGraph_2 (N n : Nat) (x : Vals ks_spec_IsGraph_l2) (K : Ks) : L_spec_IsGraph N (n + 1) 2 (shape ks_spec_IsGraph_l2 x) (h_spec_IsGraph.onOut 2 K) = peRound h_spec_IsGraph (Orc.of (es_spec_IsGraph N)) (mixL (L_spec_IsGraph N) N n 2) c_spec_IsGraph_0 (shape ks_spec_IsGraph_l2 x) (h_spec_IsGraph.onOut 2 K) := by kernel_rfl
theorem fn_spec_IsGraph (N : Nat) (x : AVals sg_spec_IsGraph) (kf : Ret → Option Ret) : F_spec_IsGraph N x kf = peFunc h_spec_IsGraph (Orc.of (es_spec_IsGraph N)) (L_spec_IsGraph N N) Try.f60 (ashape sg_spec_IsGraph x) kf := by kernel_rfl
theorem sd_spec_IsGraph {Γ : Gl} (N : Nat) : Sound Γ Try.prog 60 (run_spec_IsGraph N) := fun_ok2 (hh := h_spec_IsGraph) mixed tab_ok (es := es_spec_IsGraph N) ⟨sd_spec_l1In N, trivial⟩ (fn := Try.f60) (body := body_spec_IsGraph) (by kernel_rfl) (by kernel_rfl) (by kernel_rfl) (by kernel_rfl) (by kernel_rfl) (Lf := L_spec_IsGraph N) (L0_spec_IsGraph N) ls_spec_IsGraph (round_cons (key := 2) (ks := ks_spec_IsGraph_l2) (by kernel_rfl) (by kernel_rfl) (rd_spec_IsGraph_2 N) trivial) (N := N) (by kernel_rfl) (fn_spec_IsGraph N) (.inl (by kernel_rfl))
/-! impl_isClaim -/
noncomputable def h_impl_isClaim : Hint := { tab, hn := [], loops := [], outs := [], ords := [] }
noncomputable def sg_impl_isClaim : List AK := [.v tQILLIE .k, .v (.int .i64) .k]
noncomputable def F_impl_isClaim (N : Nat) (x : AVals sg_impl_isClaim) (kf : Ret → Option Ret) : Option Ret := impl_isClaim N x.1 x.2.1 (fun r0 => kf ⟨[⟨.bool, .k, r0⟩], []⟩)
noncomputable def run_impl_isClaim (N : Nat) := runOf sg_impl_isClaim (F_impl_isClaim N)
noncomputable def es_impl_isClaim (N : Nat) : List Entry := [⟨45, [.val, .val, .val], (run_impl_InRange N)⟩]
noncomputable def body_impl_isClaim : Code := match Try.f95.body with | some c => c | none => .skip
noncomputable def L_impl_isClaim (N n : Nat) (key : Nat) (S : St) (K : Ks) : Option Ret := none
theorem L0_impl_isClaim (N key : Nat) (S : St) (K : Ks) : L_impl_isClaim N 0 key S K = none := rfl
theorem ls_impl_isClaim : loopsIn body_impl_isClaim = [] := by kernel_rfl
theorem fn_impl_isClaim (N : Nat) (x : AVals sg_impl_isClaim) (kf : Ret → Option Ret) : F_impl_isClaim N x kf = peFunc h_impl_isClaim (Orc.of (es_impl_isClaim N)) (L_impl_isClaim N N) Try.f95 (ashape sg_impl_isClaim x) kf := by kernel_rfl
theorem sd_impl_isClaim {Γ : Gl} (N : Nat) : Sound Γ Try.prog 95 (run_impl_isClaim N) := fun_ok2 (hh := h_impl_isClaim) mixed tab_ok (es := es_impl_isClaim N) ⟨sd_impl_InRange N, trivial⟩ (fn := Try.f95) (body := body_impl_isClaim) (by kernel_rfl) (by kernel_rfl) (by kernel_rfl) (by kernel_rfl) (by kernel_rfl) (Lf := L_impl_isClaim N) (L0_impl_isClaim N) ls_impl_isClaim trivial (N := N) (by kernel_rfl) (fn_impl_isClaim N) (.inl (by kernel_rfl))
/-! cmp_isNaN_int -/
noncomputable def h_cmp_isNaN_int : Hint := { tab, hn := [], loops := [], outs := [], ords := [] }
noncomputable def sg_cmp_isNaN_int : List AK := [.v (.int .i64) .k]
noncomputable def F_cmp_isNaN_int (N : Nat) (x : AVals sg_cmp_isNaN_int) (kf : Ret → Option Ret) : Option Ret := cmp_isNaN_int N x.1 (fun r0 => kf ⟨[⟨.bool, .k, r0⟩], []⟩)
noncomputable def run_cmp_isNaN_int (N : Nat) := runOf sg_cmp_isNaN_int (F_cmp_isNaN_int N)
noncomputable def es_cmp_isNaN_int (N : Nat) : List Entry := []
noncomputable def body_cmp_isNaN_int : Code := match Try.f139.body with | some c => c | none => .skip
noncomputable def L_cmp_isNaN_int (N n : Nat) (key : Nat) (S : St) (K : Ks) : Option Ret := none
theorem L0_cmp_isNaN_int (N key : Nat) (S : St) (K : Ks) : L_cmp_isNaN_int N 0 key S K = none := rfl
theorem ls_cmp_isNaN_int : loopsIn body_cmp_isNaN_int = [] := by kernel_rfl
theorem fn_cmp_isNaN_int (N : Nat) (x : AVals sg_cmp_isNaN_int) (kf : Ret → Option Ret) : F_cmp_isNaN_int N x kf = peFunc h_cmp_isNaN_int (Orc.of (es_cmp_isNaN_int N)) (L_cmp_isNaN_int N N) Try.f139 (ashape sg_cmp_isNaN_int x) kf := by kernel_rfl
theorem sd_cmp_isNaN_int {Γ : Gl} (N : Nat) : Sound Γ Try.prog 139 (run_cmp_isNaN_int N) := fun_ok2 (hh := h_cmp_isNaN_int) mixed tab_ok (es := es_cmp_isNaN_int N) trivial (fn := Try.f139) (body := body_cmp_isNaN_int) (by kernel_rfl) (by kernel_rfl) (by kernel_rfl) (by kernel_rfl) (by kernel_rfl) (Lf := L_cmp_isNaN_int N) (L0_cmp_isNaN_int N) ls_cmp_isNaN_int trivial (N := N) (by kernel_rfl) (fn_cmp_isNaN_int N) (.inl (by kernel_rfl))
/-! cmp_Compare_int -/
noncomputable def h_cmp_Compare_int : Hint := { tab, hn := [], loops := [], outs := [], ords := [] }
noncomputable def sg_cmp_Compare_int : List AK := [.v (.int .i64) .k, .v (.int .i64) .k]
noncomputable def F_cmp_Compare_int (N : Nat) (x : AVals sg_cmp_Compare_int) (kf : Ret → Option Ret) : Option Ret := cmp_Compare_int N x.1 x.2.1 (fun r0 => kf ⟨[⟨(.int .i64), .k, r0⟩], []⟩)
noncomputable def run_cmp_Compare_int (N : Nat) := runOf sg_cmp_Compare_int (F_cmp_Compare_int N)
noncomputable def es_cmp_Compare_int (N : Nat) : List Entry := [⟨139, [.val], (run_cmp_isNaN_int N)⟩]
noncomputable def body_cmp_Compare_int : Code := match Try.f119.body with | some c => c | none => .skip
noncomputable def L_cmp_Compare_int (N n : Nat) (key : Nat) (S : St) (K : Ks) : Option Ret := none
theorem L0_cmp_Compare_int (N key : Nat) (S : St) (K : Ks) : L_cmp_Compare_int N 0 key S K = none := rfl
theorem ls_cmp_Compare_int : loopsIn body_cmp_Compare_int = [] := by kernel_rfl
theorem fn_cmp_Compare_int (N : Nat) (x : AVals sg_cmp_Compare_int) (kf : Ret → Option Ret) : F_cmp_Compare_int N x kf = peFunc h_cmp_Compare_int (Orc.of (es_cmp_Compare_int N)) (L_cmp_Compare_int N N) Try.f119 (ashape sg_cmp_Compare_int x) kf := by kernel_rfl
theorem sd_cmp_Compare_int {Γ : Gl} (N : Nat) : Sound Γ Try.prog 119 (run_cmp_Compare_int N) := fun_ok2 (hh := h_cmp_Compare_int) mixed tab_ok (es := es_cmp_Compare_int N) ⟨sd_cmp_isNaN_int N, trivial⟩ (fn := Try.f119) (body := body_cmp_Compare_int) (by kernel_rfl) (by kernel_rfl) (by kernel_rfl) (by kernel_rfl) (by kernel_rfl) (Lf := L_cmp_Compare_int N) (L0_cmp_Compare_int N) ls_cmp_Compare_int trivial (N := N) (by kernel_rfl) (fn_cmp_Compare_int N) (.inl (by kernel_rfl))
/-! slices_Compare_int -/
noncomputable def ks_slices_Compare_int_l2 : List Kd := [.v (.sl (.int .i64)) .k, .v (.sl (.int .i64)) .k, dK, dK, dK, dK, dK, dK, dK, .v (.sl (.int .i64)) .k, .v (.int .i64) .k, .v (.int .i64) .k, dK, dK, dK, dK, dK, dK, dK, dK, dK, dK, dK, dK, dK, dK, dK, dK, dK, dK, dK, dK, dK, dK, dK, dK]
noncomputable def ko_slices_Compare_int_l2_0 : List Kd := [.v (.sl (.int .i64)) .k, .v (.sl (.int .i64)) .k, dK, dK, dK, dK, dK, dK, dK, dK, dK, dK, dK, dK, dK, dK, dK, dK, dK, dK, dK, dK, dK, dK, dK, dK, dK, dK, dK, dK, dK, dK, dK, dK, dK, dK]
noncomputable def ko_slices_Compare_int_l2_1 : List Kd := [dK, dK, dK, dK, .v (.int .i64) .k, dK, dK, dK, dK, dK, dK, dK, dK, dK, dK, dK, dK, dK, dK, dK, dK, dK, dK, dK, dK, dK, dK, dK, dK, dK, dK, dK, dK, dK, dK, dK]
noncomputable def h_slices_Compare_int : Hint := { tab, hn := [], loops := [(2, ks_slices_Compare_int_l2)], outs := [(2, 2, ko_slices_Compare_int_l2_0), (2, 1, ko_slices_Compare_int_l2_1)], ords := [] }
noncomputable def sg_slices_Compare_int : List AK := [.v (.sl (.int .i64)) .k, .v (.sl (.int .i64)) .k]
noncomputable def F_slices_Compare_int (N : Nat) (x : AVals sg_slices_Compare_int) (kf : Ret → Option Ret) : Option Ret := slices_Compare_int N x.1 x.2.1 (fun r0 => kf ⟨[⟨(.int .i64), .k, r0⟩], []⟩)
noncomputable def run_slices_Compare_int (N : Nat) := runOf sg_slices_Compare_int (F_slices_Compare_int N)
noncomputable def es_slices_Compare_int (N : Nat) : List Entry := [⟨119, [.val, .val], (run_cmp_Compare_int N)⟩]
noncomputable def body_slices_Compare_int : Code := match Try.f96.body with | some c => c | none => .skip
noncomputable def L_slices_Compare_int (N n : Nat) (key : Nat) (S : St) (K : Ks) : Option Ret := bif Nat.beq key 2 then withVals ks_slices_Compare_int_l2 S (fun x => slices_Compare_int_l2 N x.1 x.2.1 x.2.2.1 x.2.2.2.1 n (K (.x 0) (shape ko_slices_Compare_int_l2_0 (x.1, x.2.1, ()))) (fun z0 => K .r (shape ko_slices_Compare_int_l2_1 (z0, ()))) x.2.2.2.2.1) else none
theorem L0_slices_Compare_int (N key : Nat) (S : St) (K : Ks) : L_slices_Compare_int N 0 key S K = none := (bif0 (withVals0 fun _ => rfl) rfl)
noncomputable def c_slices_Compare_int_0 : Code := (loopsIn body_slices_Compare_int).getD 0 .skip
theorem ls_slices_Compare_int : loopsIn body_slices_Compare_int = [c_slices_Compare_int_0] := by kernel_rfl
theorem rd_slices_Compare_int_2 (N n : Nat) (x : Vals ks_slices_Compare_int_l2) (K : Ks) : L_slices_Compare_int N (n + 1) 2 (shape ks_slices_Compare_int_l2 x) (h_slices_Compare_int.onOut 2 K) = peRound h_slices_Compare_int (Orc.of (es_slices_Compare_int N)) (mixL (L_slices_Compare_int N) N n 2) c_slices_Compare_int_0 (shape ks_slices_Compare_int_l2 x) (h_slices_Compare_int.onOut 2 K) := by kernel_rfl
theorem fn_slices_Compare_int (N : Nat) (x : AVals sg_slices_Compare_int) (kf : Ret → Option Ret) : F_slices_Compare_int N x kf = peFunc h_slices_Compare_int (Orc.of (es_slices_Compare_int N)) (L_slices_Compare_int N N) Try.f96 (ashape sg_slices_Compare_int x) kf := by kernel_rfl
theorem sd_slices_Compare_int {Γ : Gl} (N : Nat) : Sound Γ Try.prog 96 (run_slices_Compare_int N) := fun_ok2 (hh := h_slices_Compare_int) mixed tab_ok (es := es_slices_Compare_int N) ⟨sd_cmp_Compare_int N, trivial⟩ (fn := Try.f96) (body := body_slices_Compare_int) (by kernel_rfl) (by kernel_rfl) (by kernel_rfl) (by kernel_rfl) (by kernel_rfl) (Lf := L_slices_Compare_int N) (L0_slices_Compare_int N) ls_slices_Compare_int (round_cons (key := 2) (ks := ks_slices_Compare_int_l2) (by kernel_rfl) (by kernel_rfl) (rd_slices_Compare_int_2 N) trivial) (N := N) (by kernel_rfl) (fn_slices_Compare_int N) (.inl (by kernel_rfl))
/-! impl_IsGraph -/
noncomputable def ks_impl_IsGraph_l4 : List Kd := [dK, .v (.ptr tQILLIE) (.o 45 none .k), dK, dK, dK, dK, dK, dK, dK, dK, .v (.sl (.sl (.int .i64))) .k, .v (.int .i64) .k, .v (.int .i64) .k, dK, dK, dK, dK, dK, dK, dK, dK, dK, dK, dK, dK, dK, dK, dK, dK, dK, dK, dK, dK, dK, dK, dK, dK, dK, dK, dK, dK, dK, dK, dK, dK, dK, dK, dK, dK, dK, dK, dK]
noncomputable def ko_impl_IsGraph_l4_0 : List Kd := [dK, dK, dK, dK, dK, dK, dK, dK, dK, dK, dK, dK, dK, dK, dK, dK, dK, dK, dK, dK, dK, dK, dK, dK, dK, dK, dK, dK, dK, dK, dK, dK, dK, dK, dK, dK, dK, dK, dK, dK, dK, dK, dK, dK, dK, dK, dK, dK, dK, dK, dK, dK]
noncomputable def ko_impl_IsGraph_l4_1 : List Kd := [dK, dK, .v .bool .k, dK, dK, dK, dK, dK, dK, dK, dK, dK, dK, dK, dK, dK, dK, dK, dK, dK, dK, dK, dK, dK, dK, dK, dK, dK, dK, dK, dK, dK, dK, dK, dK, dK, dK, dK, dK, dK, dK, dK, dK, dK, dK, dK, dK, dK, dK, dK, dK, dK]
noncomputable def h_impl_IsGraph : Hint := { tab, hn := [], loops := [(4, ks_impl_IsGraph_l4)], outs := [(4, 2, ko_impl_IsGraph_l4_0), (4, 1, ko_impl_IsGraph_l4_1)], ords := [(6, (OT.seq [0, 1, 2, 3, 4, 5, 6, 7, 8, 9, 10, 11, 12, 13, 14, 15, 16, 17, 18, 19, 20, 21, 22, 23, 24, 25, 26, 27, 28, 29, 30, 31, 32, 33] .done))] }
noncomputable def sg_impl_IsGraph : List AK := [.v tQILLIE .k]
noncomputable def F_impl_IsGraph (N : Nat) (x : AVals sg_impl_IsGraph) (kf : Ret → Option Ret) : Option Ret := impl_IsGraph N x.1 (fun r0 => kf ⟨[⟨.bool, .k, r0⟩], []⟩)
noncomputable def run_impl_IsGraph (N : Nat) := runOf sg_impl_IsGraph (F_impl_IsGraph N)
noncomputable def es_impl_IsGraph (N : Nat) : List Entry := [⟨45, [.val, .val, .val], (run_impl_InRange N)⟩, ⟨95, [.val, .val], (run_impl_isClaim N)⟩, ⟨96, [.val, .val], (run_slices_Compare_int N)⟩]
noncomputable def body_impl_IsGraph : Code := match Try.f63.body with | some c => c | none => .skip
noncomputable def L_impl_IsGraph (N n : Nat) (key : Nat) (S : St) (K : Ks) : Option Ret := bif Nat.beq key 4 then withVals ks_impl_IsGraph_l4 S (fun x => impl_IsGraph_l4 N x.1 x.2.1 x.2.2.1 n (K (.x 0) (shape ko_impl_IsGraph_l4_0 ())) (fun z0 => K .r (shape ko_impl_IsGraph_l4_1 (z0, ()))) x.2.2.2.1) else none
theorem L0_impl_IsGraph (N key : Nat) (S : St) (K : Ks) : L_impl_IsGraph N 0 key S K = none := (bif0 (withVals0 fun _ => rfl) rfl)
noncomputable def c_impl_IsGraph_0 : Code := (loopsIn body_impl_IsGraph).getD 0 .skip
theorem ls_impl_IsGraph : loopsIn body_impl_IsGraph = [c_impl_IsGraph_0] := by kernel_rfl
theorem rd_impl_IsGraph_4 (N n : Nat) (x : Vals ks_impl_IsGraph_l4) (K : Ks) : L_impl_IsGraph N (n + 1) 4 (shape ks_impl_IsGraph_l4 x) (h_impl_IsGraph.onOut 4 K) = peRound h_impl_IsGraph (Orc.of (es_impl_IsGraph N)) (mixL (L_impl_IsGraph N) N n 4) c_impl_IsGraph_0 (shape ks_impl_IsGraph_l4 x) (h_impl_IsGraph.onOut 4 K) := by kernel_rfl
theorem fn_impl_IsGraph (N : Nat) (x : AVals sg_impl_IsGraph) (kf : Ret → Option Ret) : F_impl_IsGraph N x kf = peFunc h_impl_IsGraph (Orc.of (es_impl_IsGraph N)) (L_impl_IsGraph N N) Try.f63 (ashape sg_impl_IsGraph x) kf := by kernel_rfl
theorem sd_impl_IsGraph {Γ : Gl} (N : Nat) : Sound Γ Try.prog 63 (run_impl_IsGraph N) := fun_ok2 (hh := h_impl_IsGraph) mixed tab_ok (es := es_impl_IsGraph N) ⟨sd_impl_InRange N, ⟨sd_impl_isClaim N, ⟨sd_slices_Compare_int N, trivial⟩⟩⟩ (fn := Try.f63) (body := body_impl_IsGraph) (by kernel_rfl) (by kernel_rfl) (by kernel_rfl) (by kernel_rfl) (by kernel_rfl) (Lf := L_impl_IsGraph N) (L0_impl_IsGraph N) ls_impl_IsGraph (round_cons (key := 4) (ks := ks_impl_IsGraph_l4) (by kernel_rfl) (by kernel_rfl) (rd_impl_IsGraph_4 N) trivial) (N := N) (by kernel_rfl) (fn_impl_IsGraph N) (.inl (by kernel_rfl))
/-! impl_IsSet -/
noncomputable def ks_impl_IsSet_l4 : List Kd := [dK, .v (.sl (.int .i64)) .k, .v (.ptr tQILLIE) (.o 45 none .k), dK, dK, dK, dK, dK, dK, dK, .v (.sl (.int .i64)) .k, .v (.int .i64) .k, .v (.int .i64) .k, dK, dK, dK, dK, dK, dK, dK, dK, dK, dK, dK, dK, dK, dK, dK, dK, dK, dK, dK, dK, dK, dK]
noncomputable def ko_impl_IsSet_l4_0 : List Kd := [dK, dK, dK, dK, dK, dK, dK, dK, dK, dK, dK, dK, dK, dK, dK, dK, dK, dK, dK, dK, dK, dK, dK, dK, dK, dK, dK, dK, dK, dK, dK, dK, dK, dK, dK]
noncomputable def ko_impl_IsSet_l4_1 : List Kd := [dK, dK, dK, dK, .v .bool .k, dK, dK, dK, dK, dK, dK, dK, dK, dK, dK, dK, dK, dK, dK, dK, dK, dK, dK, dK, dK, dK, dK, dK, dK, dK, dK, dK, dK, dK, dK]
noncomputable def h_impl_IsSet : Hint := { tab, hn := [], loops := [(4, ks_impl_IsSet_l4)], outs := [(4, 2, ko_impl_IsSet_l4_0), (4, 1, ko_impl_IsSet_l4_1)], ords := [] }
noncomputable def sg_impl_IsSet : List AK := [.v tQILLIE .k, .v (.sl (.int .i64)) .k]
noncomputable def F_impl_IsSet (N : Nat) (x : AVals sg_impl_IsSet) (kf : Ret → Option Ret) : Option Ret := impl_IsSet N x.1 x.2.1 (fun r0 => kf ⟨[⟨.bool, .k, r0⟩], []⟩)
noncomputable def run_impl_IsSet (N : Nat) := runOf sg_impl_IsSet (F_impl_IsSet N)
noncomputable def es_impl_IsSet (N : Nat) : List Entry := [⟨63, [.val], (run_impl_IsGraph N)⟩, ⟨95, [.val, .val], (run_impl_isClaim N)⟩]
noncomputable def body_impl_IsSet : Code := match Try.f171.body with | some c => c | none => .skip
noncomputable def L_impl_IsSet (N n : Nat) (key : Nat) (S : St) (K : Ks) : Option Ret := bif Nat.beq key 4 then withVals ks_impl_IsSet_l4 S (fun x => impl_IsSet_l4 N x.1 x.2.1 x.2.2.1 x.2.2.2.1 n (K (.x 0) (shape ko_impl_IsSet_l4_0 ())) (fun z0 => K .r (shape ko_impl_IsSet_l4_1 (z0, ()))) x.2.2.2.2.1) else none
theorem L0_impl_IsSet (N key : Nat) (S : St) (K : Ks) : L_impl_IsSet N 0 key S K = none := (bif0 (withVals0 fun _ => rfl) rfl)
noncomputable def c_impl_IsSet_0 : Code := (loopsIn body_impl_IsSet).getD 0 .skip
theorem ls_impl_IsSet : loopsIn body_impl_IsSet = [c_impl_IsSet_0] := by kernel_rfl
theorem rd_impl_IsSet_4 (N n : Nat) (x : Vals ks_impl_IsSet_l4) (K : Ks) : L_impl_IsSet N (n + 1) 4 (shape ks_impl_IsSet_l4 x) (h_impl_IsSet.onOut 4 K) = peRound h_impl_IsSet (Orc.of (es_impl_IsSet N)) (mixL (L_impl_IsSet N) N n 4) c_impl_IsSet_0 (shape ks_impl_IsSet_l4 x) (h_impl_IsSet.onOut 4 K) := by kernel_rfl
theorem fn_impl_IsSet (N : Nat) (x : AVals sg_impl_IsSet) (kf : Ret → Option Ret) : F_impl_IsSet N x kf = peFunc h_impl_IsSet (Orc.of (es_impl_IsSet N)) (L_impl_IsSet N N) Try.f171 (ashape sg_impl_IsSet x) kf := by kernel_rfl
theorem sd_impl_IsSet {Γ : Gl} (N : Nat) : Sound Γ Try.prog 171 (run_impl_IsSet N) := fun_ok2 (hh := h_impl_IsSet) mixed tab_ok (es := es_impl_IsSet N) ⟨sd_impl_IsGraph N, ⟨sd_impl_isClaim N, trivial⟩⟩ (fn := Try.f171) (body := body_impl_IsSet) (by kernel_rfl) (by kernel_rfl) (by kernel_rfl) (by kernel_rfl) (by kernel_rfl) (Lf := L_impl_IsSet N) (L0_impl_IsSet N) ls_impl_IsSet (round_cons (key := 4) (ks := ks_impl_IsSet_l4) (by kernel_rfl) (by kernel_rfl) (rd_impl_IsSet_4 N) trivial) (N := N) (by kernel_rfl) (fn_impl_IsSet N) (.inl (by kernel_rfl))
/-! impl_VictimsOf -/
noncomputable def ks_impl_VictimsOf_l5 : List Kd := [dK, .v (.int .i64) .k, dK, dK, dK, .v (.sl (.int .i64)) (.o 3 none .k), dK, dK, dK, dK, dK, dK, dK, dK, .v (.sl (.sl (.int .i64))) .k, .v (.int .i64) .k, .v (.int .i64) .k, dK, dK, dK, dK, dK, dK, dK, dK, dK, dK, dK, dK, dK, dK, dK, dK]
noncomputable def ko_impl_VictimsOf_l5_0 : List Kd := [dK, dK, dK, dK, dK, .v (.sl (.int .i64)) (.o 3 none .k), dK, dK, dK, dK, dK, dK, dK, dK, dK, dK, dK, dK, dK, dK, dK, dK, dK, dK, dK, dK, dK, dK, dK, dK, dK, dK, dK]
noncomputable def h_impl_VictimsOf : Hint := { tab, hn := [], loops := [(5, ks_impl_VictimsOf_l5)], outs := [(5, 2, ko_impl_VictimsOf_l5_0)], ords := [] }
noncomputable def sg_impl_VictimsOf : List AK := [.v tQILLIE .k, .v (.int .i64) .k]
noncomputable def F_impl_VictimsOf (N : Nat) (x : AVals sg_impl_VictimsOf) (kf : Ret → Option Ret) : Option Ret := impl_VictimsOf N x.1 x.2.1 (fun r0 => kf ⟨[⟨(.sl (.int .i64)), (.o 3 none .k), r0⟩], []⟩)
noncomputable def run_impl_VictimsOf (N : Nat) := runOf sg_impl_VictimsOf (F_impl_VictimsOf N)
noncomputable def es_impl_VictimsOf (N : Nat) : List Entry := [⟨63, [.val], (run_impl_IsGraph N)⟩]
noncomputable def body_impl_VictimsOf : Code := match Try.f141.body with | some c => c | none => .skip
noncomputable def L_impl_VictimsOf (N n : Nat) (key : Nat) (S : St) (K : Ks) : Option Ret := bif Nat.beq key 5 then withVals ks_impl_VictimsOf_l5 S (fun x => impl_VictimsOf_l5 x.1 x.2.2.1 x.2.2.2.1 n (fun z0 => K (.x 0) (shape ko_impl_VictimsOf_l5_0 (z0, ()))) x.2.1 x.2.2.2.2.1) else none
theorem L0_impl_VictimsOf (N key : Nat) (S : St) (K : Ks) : L_impl_VictimsOf N 0 key S K = none := (bif0 (withVals0 fun _ => rfl) rfl)
noncomputable def c_impl_VictimsOf_0 : Code := (loopsIn body_impl_VictimsOf).getD 0 .skip
theorem ls_impl_VictimsOf : loopsIn body_impl_VictimsOf = [c_impl_VictimsOf_0] := by kernel_rfl
theorem rd_impl_VictimsOf_5 (N n : Nat) (x : Vals ks_impl_VictimsOf_l5) (K : Ks) : L_impl_VictimsOf N (n + 1) 5 (shape ks_impl_VictimsOf_l5 x) (h_impl_VictimsOf.onOut 5 K) = peRound h_impl_VictimsOf (Orc.of (es_impl_VictimsOf N)) (mixL (L_impl_VictimsOf N) N n 5) c_impl_VictimsOf_0 (shape ks_impl_VictimsOf_l5 x) (h_impl_VictimsOf.onOut 5 K) := by kernel_rfl
theorem fn_impl_VictimsOf (N : Nat) (x : AVals sg_impl_VictimsOf) (kf : Ret → Option Ret) : F_impl_VictimsOf N x kf = peFunc h_impl_VictimsOf (Orc.of (es_impl_VictimsOf N)) (L_impl_VictimsOf N N) Try.f141 (ashape sg_impl_VictimsOf x) kf := by kernel_rfl
theorem sd_impl_VictimsOf {Γ : Gl} (N : Nat) : Sound Γ Try.prog 141 (run_impl_VictimsOf N) := fun_ok2 (hh := h_impl_VictimsOf) mixed tab_ok (es := es_impl_VictimsOf N) ⟨sd_impl_IsGraph N, trivial⟩ (fn := Try.f141) (body := body_impl_VictimsOf) (by kernel_rfl) (by kernel_rfl) (by kernel_rfl) (by kernel_rfl) (by kernel_rfl) (Lf := L_impl_VictimsOf N) (L0_impl_VictimsOf N) ls_impl_VictimsOf (round_cons (key := 5) (ks := ks_impl_VictimsOf_l5) (by kernel_rfl) (by kernel_rfl) (rd_impl_VictimsOf_5 N) trivial) (N := N) (by kernel_rfl) (fn_impl_VictimsOf N) (.inl (by kernel_rfl))
/-! slices_Sort_int: told by the shelf -/
def ren_slices_Sort_int : Go.Shelf.Ren := ⟨fun n => bif Nat.beq n 125 then 159 else bif Nat.beq n 128 then 182 else bif Nat.beq n 129 then 183 else bif Nat.beq n 189 then 142 else bif Nat.beq n 215 then 139 else bif Nat.beq n 216 then 179 else bif Nat.beq n 257 then 158 else bif Nat.beq n 294 then 173 else bif Nat.beq n 295 then 174 else bif Nat.beq n 296 then 175 else bif Nat.beq n 297 then 176 else bif Nat.beq n 298 then 177 else bif Nat.beq n 299 then 178 else bif Nat.beq n 300 then 180 else bif Nat.beq n 301 then 181 else bif Nat.beq n 328 then 191 else bif Nat.beq n 329 then 192 else bif Nat.beq n 330 then 193 else bif Nat.beq n 331 then 194 else bif Nat.beq n 332 then 195 else bif Nat.beq n 343 then 196 else n, fun n => bif Nat.beq n 0 then 0 else bif Nat.beq n 3 then 3 else bif Nat.beq n 4 then 4 else bif Nat.beq n 5 then 5 else bif Nat.beq n 9 then 9 else bif Nat.beq n 28 then 28 else bif Nat.beq n 46 then 139 else bif Nat.beq n 51 then 178 else bif Nat.beq n 53 then 180 else bif Nat.beq n 131 then 175 else bif Nat.beq n 182 then 169 else bif Nat.beq n 183 then 170 else bif Nat.beq n 218 then 184 else bif Nat.beq n 222 then 188 else bif Nat.beq n 228 then 190 else bif Nat.beq n 229 then 191 else n, fun n => n⟩
theorem lays_slices_Sort_int : Lays.n189 Try.prog ren_slices_Sort_int := { mixed := by kernel_rfl, f125 := by kernel_rfl, f128 := by kernel_rfl, f129 := by kernel_rfl, f189 := by kernel_rfl, f215 := by kernel_rfl, f216 := by kernel_rfl, f257 := by kernel_rfl, f294 := by kernel_rfl, f295 := by kernel_rfl, f296 := by kernel_rfl, f297 := by kernel_rfl, f298 := by kernel_rfl, f299 := by kernel_rfl, f300 := by kernel_rfl, f301 := by kernel_rfl, f328 := by kernel_rfl, f329 := by kernel_rfl, f330 := by kernel_rfl, f331 := by kernel_rfl, f332 := by kernel_rfl, f343 := by kernel_rfl, t0 := by kernel_rfl, a0 := fun w => by kernel_rfl, z0 := fun w => by kernel_rfl, v0 := fun w => by kernel_rfl, t3 := by kernel_rfl, a3 := fun w => by kernel_rfl, z3 := fun w => by kernel_rfl, v3 := fun w => by kernel_rfl, t4 := by kernel_rfl, a4 := fun w => by kernel_rfl, z4 := fun w => by kernel_rfl, v4 := fun w => by kernel_rfl, t5 := by kernel_rfl, a5 := fun w => by kernel_rfl, z5 := fun w => by kernel_rfl, v5 := fun w => by kernel_rfl, t9 := by kernel_rfl, a9 := fun w => by kernel_rfl, z9 := fun w => by kernel_rfl, v9 := fun w => by kernel_rfl, t28 := by kernel_rfl, a28 := fun w => by kernel_rfl, z28 := fun w => by kernel_rfl, v28 := fun w => by kernel_rfl, t46 := by kernel_rfl, a46 := fun w => by kernel_rfl, z46 := fun w => by kernel_rfl, v46 := fun w => by kernel_rfl, t51 := by kernel_rfl, a51 := fun w => by kernel_rfl, z51 := fun w => by kernel_rfl, v51 := fun w => by kernel_rfl, t53 := by kernel_rfl, a53 := fun w => by kernel_rfl, z53 := fun w => by kernel_rfl, v53 := fun w => by kernel_rfl, t131 := by kernel_rfl, a131 := fun w => by kernel_rfl, z131 := fun w => by kernel_rfl, v131 := fun w => by kernel_rfl, t182 := by kernel_rfl, a182 := fun w => by kernel_rfl, z182 := fun w => by kernel_rfl, v182 := fun w => by kernel_rfl, t183 := by kernel_rfl, a183 := fun w => by kernel_rfl, z183 := fun w => by kernel_rfl, v183 := fun w => by kernel_rfl, t218 := by kernel_rfl, a218 := fun w => by kernel_rfl, z218 := fun w => by kernel_rfl, v218 := fun w => by kernel_rfl, t222 := by kernel_rfl, a222 := fun w => by kernel_rfl, z222 := fun w => by kernel_rfl, v222 := fun w => by kernel_rfl, t228 := by kernel_rfl, a228 := fun w => by kernel_rfl, z228 := fun w => by kernel_rfl, v228 := fun w => by kernel_rfl, t229 := by kernel_rfl, a229 := fun w => by kernel_rfl, z229 := fun w => by kernel_rfl, v229 := fun w => by kernel_rfl }
noncomputable def sg_slices_Sort_int : List AK := [.v (.sl (.int .i64)) (.o 3 (some 0) .k)]
noncomputable def F_slices_Sort_int (N : Nat) (x : AVals sg_slices_Sort_int) (kf : Ret → Option Ret) : Option Ret := slices_Sort_int N x.1 (fun z => kf ⟨[], [⟨(.sl (.int .i64)), (.o 3 (some 0) .k), z⟩]⟩)
noncomputable def run_slices_Sort_int (N : Nat) := runOf sg_slices_Sort_int (F_slices_Sort_int N)
theorem sd_slices_Sort_int {Γ : Gl} (N : Nat) : Sound Γ Try.prog 142 (run_slices_Sort_int N) := sound_sort lays_slices_Sort_int 3
/-! slices_Compact_int: told by the shelf -/
def ren_slices_Compact_int : Go.Shelf.Ren := ⟨fun n => bif Nat.beq n 20 then 143 else n, fun n => bif Nat.beq n 0 then 0 else bif Nat.beq n 3 then 3 else bif Nat.beq n 4 then 4 else bif Nat.beq n 22 then 28 else n, fun n => n⟩
theorem lays_slices_Compact_int : Lays2.n20 Try.prog ren_slices_Compact_int := { mixed := by kernel_rfl, f20 := by kernel_rfl, t0 := by kernel_rfl, a0 := fun w => by kernel_rfl, z0 := fun w => by kernel_rfl, v0 := fun w => by kernel_rfl, t3 := by kernel_rfl, a3 := fun w => by kernel_rfl, z3 := fun w => by kernel_rfl, v3 := fun w => by kernel_rfl, t4 := by kernel_rfl, a4 := fun w => by kernel_rfl, z4 := fun w => by kernel_rfl, v4 := fun w => by kernel_rfl, t22 := by kernel_rfl, a22 := fun w => by kernel_rfl, z22 := fun w => by kernel_rfl, v22 := fun w => by kernel_rfl, i3 := by kernel_rfl }
noncomputable def sg_slices_Compact_int : List AK := [.v (.sl (.int .i64)) (.o 3 none .k)]
noncomputable def F_slices_Compact_int (N : Nat) (x : AVals sg_slices_Compact_int) (kf : Ret → Option Ret) : Option Ret := slices_Compact_int N x.1 (fun r0 => kf ⟨[⟨(.sl (.int .i64)), (.o 3 none .k), r0⟩], []⟩)
noncomputable def run_slices_Compact_int (N : Nat) := runOf sg_slices_Compact_int (F_slices_Compact_int N)
theorem sd_slices_Compact_int {Γ : Gl} (N : Nat) : Sound Γ Try.prog 143 (run_slices_Compact_int N) := sound_compact lays_slices_Compact_int 3
/-! impl_HitBy -/
noncomputable def ks_impl_HitBy_l3 : List Kd := [dK, dK, .v (.ptr tQILLIE) (.o 45 none .k), dK, dK, .v (.sl (.int .i64)) (.o 3 none .k), dK, dK, dK, .v (.sl (.int .i64)) .k, .v (.int .i64) .k, .v (.int .i64) .k, dK, dK, dK, dK, dK, dK, dK, dK, dK, dK, dK, dK, dK]
noncomputable def ko_impl_HitBy_l3_0 : List Kd := [dK, dK, dK, dK, dK, .v (.sl (.int .i64)) (.o 3 none .k), dK, dK, dK, dK, dK, dK, dK, dK, dK, dK, dK, dK, dK, dK, dK, dK, dK, dK, dK]
noncomputable def h_impl_HitBy : Hint := { tab, hn := [], loops := [(3, ks_impl_HitBy_l3)], outs := [(3, 2, ko_impl_HitBy_l3_0)], ords := [] }
noncomputable def sg_impl_HitBy : List AK := [.v tQILLIE .k, .v (.sl (.int .i64)) .k]
noncomputable def F_impl_HitBy (N : Nat) (x : AVals sg_impl_HitBy) (kf : Ret → Option Ret) : Option Ret := impl_HitBy N x.1 x.2.1 (fun r0 => kf ⟨[⟨(.sl (.int .i64)), (.o 3 none .k), r0⟩], []⟩)
noncomputable def run_impl_HitBy (N : Nat) := runOf sg_impl_HitBy (F_impl_HitBy N)
noncomputable def es_impl_HitBy (N : Nat) : List Entry := [⟨141, [.val, .val], (run_impl_VictimsOf N)⟩, ⟨142, [.lend], (run_slices_Sort_int N)⟩, ⟨143, [.take], (run_slices_Compact_int N)⟩]
noncomputable def body_impl_HitBy : Code := match Try.f121.body with | some c => c | none => .skip
noncomputable def L_impl_HitBy (N n : Nat) (key : Nat) (S : St) (K : Ks) : Option Ret := bif Nat.beq key 3 then withVals ks_impl_HitBy_l3 S (fun x => impl_HitBy_l3 N x.1 x.2.2.1 x.2.2.2.1 n (fun z0 => K (.x 0) (shape ko_impl_HitBy_l3_0 (z0, ()))) x.2.1 x.2.2.2.2.1) else none
theorem L0_impl_HitBy (N key : Nat) (S : St) (K : Ks) : L_impl_HitBy N 0 key S K = none := (bif0 (withVals0 fun _ => rfl) rfl)
noncomputable def c_impl_HitBy_0 : Code := (loopsIn body_impl_HitBy).getD 0 .skip
theorem ls_impl_HitBy : loopsIn body_impl_HitBy = [c_impl_HitBy_0] := by kernel_rfl
theorem rd_impl_HitBy_3 (N n : Nat) (x : Vals ks_impl_HitBy_l3) (K : Ks) : L_impl_HitBy N (n + 1) 3 (shape ks_impl_HitBy_l3 x) (h_impl_HitBy.onOut 3 K) = peRound h_impl_HitBy (Orc.of (es_impl_HitBy N)) (mixL (L_impl_HitBy N) N n 3) c_impl_HitBy_0 (shape ks_impl_HitBy_l3 x) (h_impl_HitBy.onOut 3 K) := by kernel_rfl
theorem fn_impl_HitBy (N : Nat) (x : AVals sg_impl_HitBy) (kf : Ret → Option Ret) : F_impl_HitBy N x kf = peFunc h_impl_HitBy (Orc.of (es_impl_HitBy N)) (L_impl_HitBy N N) Try.f121 (ashape sg_impl_HitBy x) kf := by kernel_rfl
theorem sd_impl_HitBy {Γ : Gl} (N : Nat) : Sound Γ Try.prog 121 (run_impl_HitBy N) := fun_ok2 (hh := h_impl_HitBy) mixed tab_ok (es := es_impl_HitBy N) ⟨sd_impl_VictimsOf N, ⟨sd_slices_Sort_int N, ⟨sd_slices_Compact_int N, trivial⟩⟩⟩ (fn := Try.f121) (body := body_impl_HitBy) (by kernel_rfl) (by kernel_rfl) (by kernel_rfl) (by kernel_rfl) (by kernel_rfl) (Lf := L_impl_HitBy N) (L0_impl_HitBy N) ls_impl_HitBy (round_cons (key := 3) (ks := ks_impl_HitBy_l3) (by kernel_rfl) (by kernel_rfl) (rd_impl_HitBy_3 N) trivial) (N := N) (by kernel_rfl) (fn_impl_HitBy N) (.inl (by kernel_rfl))
/-! impl_AttackersOf -/
noncomputable def ks_impl_AttackersOf_l5 : List Kd := [dK, .v (.int .i64) .k, dK, dK, dK, .v (.sl (.int .i64)) (.o 3 none .k), dK, dK, dK, dK, dK, dK, dK, dK, .v (.sl (.sl (.int .i64))) .k, .v (.int .i64) .k, .v (.int .i64) .k, dK, dK, dK, dK, dK, dK, dK, dK, dK, dK, dK, dK, dK, dK, dK, dK]
noncomputable def ko_impl_AttackersOf_l5_0 : List Kd := [dK, dK, dK, dK, dK, .v (.sl (.int .i64)) (.o 3 none .k), dK, dK, dK, dK, dK, dK, dK, dK, dK, dK, dK, dK, dK, dK, dK, dK, dK, dK, dK, dK, dK, dK, dK, dK, dK, dK, dK]
noncomputable def h_impl_AttackersOf : Hint := { tab, hn := [], loops := [(5, ks_impl_AttackersOf_l5)], outs := [(5, 2, ko_impl_AttackersOf_l5_0)], ords := [] }
noncomputable def sg_impl_AttackersOf : List AK := [.v tQILLIE .k, .v (.int .i64) .k]
noncomputable def F_impl_AttackersOf (N : Nat) (x : AVals sg_impl_AttackersOf) (kf : Ret → Option Ret) : Option Ret := impl_AttackersOf N x.1 x.2.1 (fun r0 => kf ⟨[⟨(.sl (.int .i64)), (.o 3 none .k), r0⟩], []⟩)
noncomputable def run_impl_AttackersOf (N : Nat) := runOf sg_impl_AttackersOf (F_impl_AttackersOf N)
noncomputable def es_impl_AttackersOf (N : Nat) : List Entry := [⟨63, [.val], (run_impl_IsGraph N)⟩]
noncomputable def body_impl_AttackersOf : Code := match Try.f190.body with | some c => c | none => .skip
noncomputable def L_impl_AttackersOf (N n : Nat) (key : Nat) (S : St) (K : Ks) : Option Ret := bif Nat.beq key 5 then withVals ks_impl_AttackersOf_l5 S (fun x => impl_AttackersOf_l5 x.1 x.2.2.1 x.2.2.2.1 n (fun z0 => K (.x 0) (shape ko_impl_AttackersOf_l5_0 (z0, ()))) x.2.1 x.2.2.2.2.1) else none
theorem L0_impl_AttackersOf (N key : Nat) (S : St) (K : Ks) : L_impl_AttackersOf N 0 key S K = none := (bif0 (withVals0 fun _ => rfl) rfl)
noncomputable def c_impl_AttackersOf_0 : Code := (loopsIn body_impl_AttackersOf).getD 0 .skip
theorem ls_impl_AttackersOf : loopsIn body_impl_AttackersOf = [c_impl_AttackersOf_0] := by kernel_rfl
theorem rd_impl_AttackersOf_5 (N n : Nat) (x : Vals ks_impl_AttackersOf_l5) (K : Ks) : L_impl_AttackersOf N (n + 1) 5 (shape ks_impl_AttackersOf_l5 x) (h_impl_AttackersOf.onOut 5 K) = peRound h_impl_AttackersOf (Orc.of (es_impl_AttackersOf N)) (mixL (L_impl_AttackersOf N) N n 5) c_impl_AttackersOf_0 (shape ks_impl_AttackersOf_l5 x) (h_impl_AttackersOf.onOut 5 K) := by kernel_rfl
theorem fn_impl_AttackersOf (N : Nat) (x : AVals sg_impl_AttackersOf) (kf : Ret → Option Ret) : F_impl_AttackersOf N x kf = peFunc h_impl_AttackersOf (Orc.of (es_impl_AttackersOf N)) (L_impl_AttackersOf N N) Try.f190 (ashape sg_impl_AttackersOf x) kf := by kernel_rfl
theorem sd_impl_AttackersOf {Γ : Gl} (N : Nat) : Sound Γ Try.prog 190 (run_impl_AttackersOf N) := fun_ok2 (hh := h_impl_AttackersOf) mixed tab_ok (es := es_impl_AttackersOf N) ⟨sd_impl_IsGraph N, trivial⟩ (fn := Try.f190) (body := body_impl_AttackersOf) (by kernel_rfl) (by kernel_rfl) (by kernel_rfl) (by kernel_rfl) (by kernel_rfl) (Lf := L_impl_AttackersOf N) (L0_impl_AttackersOf N) ls_impl_AttackersOf (round_cons (key := 5) (ks := ks_impl_AttackersOf_l5) (by kernel_rfl) (by kernel_rfl) (rd_impl_AttackersOf_5 N) trivial) (N := N) (by kernel_rfl) (fn_impl_AttackersOf N) (.inl (by kernel_rfl))
/-! impl_Defends -/
noncomputable def ks_impl_Defends_l5 : List Kd := [dK, dK, dK, dK, dK, dK, dK, .v (.sl (.int .i64)) (.o 3 none .k), dK, dK, dK, dK, dK, dK, dK, dK, dK, dK, dK, dK, dK, dK, dK, dK, dK, .v (.sl (.int .i64)) (.o 3 none .k), .v (.int .i64) .k, .v (.int .i64) .k, dK, dK, dK, dK, dK, dK, dK, dK]
noncomputable def ko_impl_Defends_l5_0 : List Kd := [dK, dK, dK, dK, dK, dK, dK, dK, dK, dK, dK, dK, dK, dK, dK, dK, dK, dK, dK, dK, dK, dK, dK, dK, dK, dK, dK, dK, dK, dK, dK, dK, dK, dK, dK, dK]
noncomputable def ko_impl_Defends_l5_1 : List Kd := [dK, dK, dK, dK, dK, dK, .v .bool .k, dK, dK, dK, dK, dK, dK, dK, dK, dK, dK, dK, dK, dK, dK, dK, dK, dK, dK, dK, dK, dK, dK, dK, dK, dK, dK, dK, dK, dK]
noncomputable def h_impl_Defends : Hint := { tab, hn := [], loops := [(5, ks_impl_Defends_l5)], outs := [(5, 2, ko_impl_Defends_l5_0), (5, 1, ko_impl_Defends_l5_1)], ords := [] }
noncomputable def sg_impl_Defends : List AK := [.v tQILLIE .k, .v (.sl (.int .i64)) .k, .v (.int .i64) .k]
noncomputable def F_impl_Defends (N : Nat) (x : AVals sg_impl_Defends) (kf : Ret → Option Ret) : Option Ret := impl_Defends N x.1 x.2.1 x.2.2.1 (fun r0 => kf ⟨[⟨.bool, .k, r0⟩], []⟩)
noncomputable def run_impl_Defends (N : Nat) := runOf sg_impl_Defends (F_impl_Defends N)
noncomputable def es_impl_Defends (N : Nat) : List Entry := [⟨171, [.val, .val], (run_impl_IsSet N)⟩, ⟨95, [.val, .val], (run_impl_isClaim N)⟩, ⟨121, [.val, .val], (run_impl_HitBy N)⟩, ⟨190, [.val, .val], (run_impl_AttackersOf N)⟩, ⟨81, [.val, .val], (run_slices_Contains_int N)⟩]
noncomputable def body_impl_Defends : Code := match Try.f172.body with | some c => c | none => .skip
noncomputable def L_impl_Defends (N n : Nat) (key : Nat) (S : St) (K : Ks) : Option Ret := bif Nat.beq key 5 then withVals ks_impl_Defends_l5 S (fun x => impl_Defends_l5 N x.1 x.2.1 x.2.2.1 n (K (.x 0) (shape ko_impl_Defends_l5_0 ())) (fun z0 => K .r (shape ko_impl_Defends_l5_1 (z0, ()))) x.2.2.2.1) else none
theorem L0_impl_Defends (N key : Nat) (S : St) (K : Ks) : L_impl_Defends N 0 key S K = none := (bif0 (withVals0 fun _ => rfl) rfl)
noncomputable def c_impl_Defends_0 : Code := (loopsIn body_impl_Defends).getD 0 .skip
theorem ls_impl_Defends : loopsIn body_impl_Defends = [c_impl_Defends_0] := by kernel_rfl
theorem rd_impl_Defends_5 (N n : Nat) (x : Vals ks_impl_Defends_l5) (K : Ks) : L_impl_Defends N (n + 1) 5 (shape ks_impl_Defends_l5 x) (h_impl_Defends.onOut 5 K) = peRound h_impl_Defends (Orc.of (es_impl_Defends N)) (mixL (L_impl_Defends N) N n 5) c_impl_Defends_0 (shape ks_impl_Defends_l5 x) (h_impl_Defends.onOut 5 K) := by kernel_rfl
theorem fn_impl_Defends (N : Nat) (x : AVals sg_impl_Defends) (kf : Ret → Option Ret) : F_impl_Defends N x kf = peFunc h_impl_Defends (Orc.of (es_impl_Defends N)) (L_impl_Defends N N) Try.f172 (ashape sg_impl_Defends x) kf := by kernel_rfl
theorem sd_impl_Defends {Γ : Gl} (N : Nat) : Sound Γ Try.prog 172 (run_impl_Defends N) := fun_ok2 (hh := h_impl_Defends) mixed tab_ok (es := es_impl_Defends N) ⟨sd_impl_IsSet N, ⟨sd_impl_isClaim N, ⟨sd_impl_HitBy N, ⟨sd_impl_AttackersOf N, ⟨sd_slices_Contains_int N, trivial⟩⟩⟩⟩⟩ (fn := Try.f172) (body := body_impl_Defends) (by kernel_rfl) (by kernel_rfl) (by kernel_rfl) (by kernel_rfl) (by kernel_rfl) (Lf := L_impl_Defends N) (L0_impl_Defends N) ls_impl_Defends (round_cons (key := 5) (ks := ks_impl_Defends_l5) (by kernel_rfl) (by kernel_rfl) (rd_impl_Defends_5 N) trivial) (N := N) (by kernel_rfl) (fn_impl_Defends N) (.inl (by kernel_rfl))
/-! impl_DefendedBy -/
noncomputable def ks_impl_DefendedBy_l5 : List Kd := [dK, .v (.sl (.int .i64)) .k, .v (.ptr tQILLIE) (.o 45 none .k), dK, dK, .v (.sl (.int .i64)) (.o 3 none .k), dK, dK, dK, dK, dK, dK, dK, dK, .v (.int .i64) .k, .v (.int .i64) .k, dK, dK, dK, dK, dK, dK, dK, dK, dK, dK, dK, dK]
noncomputable def ko_impl_DefendedBy_l5_0 : List Kd := [dK, dK, dK, dK, dK, .v (.sl (.int .i64)) (.o 3 none .k), dK, dK, dK, dK, dK, dK, dK, dK, dK, dK, dK, dK, dK, dK, dK, dK, dK, dK, dK, dK, dK, dK]
noncomputable def h_impl_DefendedBy : Hint := { tab, hn := [], loops := [(5, ks_impl_DefendedBy_l5)], outs := [(5, 2, ko_impl_DefendedBy_l5_0)], ords := [] }
noncomputable def sg_impl_DefendedBy : List AK := [.v tQILLIE .k, .v (.sl (.int .i64)) .k]
noncomputable def F_impl_DefendedBy (N : Nat) (x : AVals sg_impl_DefendedBy) (kf : Ret → Option Ret) : Option Ret := impl_DefendedBy N x.1 x.2.1 (fun r0 => kf ⟨[⟨(.sl (.int .i64)), (.o 3 none .k), r0⟩], []⟩)
noncomputable def run_impl_DefendedBy (N : Nat) := runOf sg_impl_DefendedBy (F_impl_DefendedBy N)
noncomputable def es_impl_DefendedBy (N : Nat) : List Entry := [⟨171, [.val, .val], (run_impl_IsSet N)⟩, ⟨172, [.val, .val, .val], (run_impl_Defends N)⟩]
noncomputable def body_impl_DefendedBy : Code := match Try.f157.body with | some c => c | none => .skip
noncomputable def L_impl_DefendedBy (N n : Nat) (key : Nat) (S : St) (K : Ks) : Option Ret := bif Nat.beq key 5 then withVals ks_impl_DefendedBy_l5 S (fun x => impl_DefendedBy_l5 N x.1 x.2.1 x.2.2.2.1 n (fun z0 => K (.x 0) (shape ko_impl_DefendedBy_l5_0 (z0, ()))) x.2.2.1 x.2.2.2.2.1) else none
theorem L0_impl_DefendedBy (N key : Nat) (S : St) (K : Ks) : L_impl_DefendedBy N 0 key S K = none := (bif0 (withVals0 fun _ => rfl) rfl)
noncomputable def c_impl_DefendedBy_0 : Code := (loopsIn body_impl_DefendedBy).getD 0 .skip
theorem ls_impl_DefendedBy : loopsIn body_impl_DefendedBy = [c_impl_DefendedBy_0] := by kernel_rfl
theorem rd_impl_DefendedBy_5 (N n : Nat) (x : Vals ks_impl_DefendedBy_l5) (K : Ks) : L_impl_DefendedBy N (n + 1) 5 (shape ks_impl_DefendedBy_l5 x) (h_impl_DefendedBy.onOut 5 K) = peRound h_impl_DefendedBy (Orc.of (es_impl_DefendedBy N)) (mixL (L_impl_DefendedBy N) N n 5) c_impl_DefendedBy_0 (shape ks_impl_DefendedBy_l5 x) (h_impl_DefendedBy.onOut 5 K) := by kernel_rfl
theorem fn_impl_DefendedBy (N : Nat) (x : AVals sg_impl_DefendedBy) (kf : Ret → Option Ret) : F_impl_DefendedBy N x kf = peFunc h_impl_DefendedBy (Orc.of (es_impl_DefendedBy N)) (L_impl_DefendedBy N N) Try.f157 (ashape sg_impl_DefendedBy x) kf := by kernel_rfl
theorem sd_impl_DefendedBy {Γ : Gl} (N : Nat) : Sound Γ Try.prog 157 (run_impl_DefendedBy N) := fun_ok2 (hh := h_impl_DefendedBy) mixed tab_ok (es := es_impl_DefendedBy N) ⟨sd_impl_IsSet N, ⟨sd_impl_Defends N, trivial⟩⟩ (fn := Try.f157) (body := body_impl_DefendedBy) (by kernel_rfl) (by kernel_rfl) (by kernel_rfl) (by kernel_rfl) (by kernel_rfl) (Lf := L_impl_DefendedBy N) (L0_impl_DefendedBy N) ls_impl_DefendedBy (round_cons (key := 5) (ks := ks_impl_DefendedBy_l5) (by kernel_rfl) (by kernel_rfl) (rd_impl_DefendedBy_5 N) trivial) (N := N) (by kernel_rfl) (fn_impl_DefendedBy N) (.inl (by kernel_rfl))
/-! slices_Equal_int -/
noncomputable def ks_slices_Equal_int_l4 : List Kd := [.v (.sl (.int .i64)) .k, .v (.sl (.int .i64)) .k, dK, dK, dK, dK, dK, dK, dK, dK, dK, dK, .v (.int .i64) .k, .v (.int .i64) .k, dK, dK, dK, dK, dK, dK, dK, dK, dK, dK, dK, dK]
noncomputable def ko_slices_Equal_int_l4_0 : List Kd := [dK, dK, dK, dK, dK, dK, dK, dK, dK, dK, dK, dK, dK, dK, dK, dK, dK, dK, dK, dK, dK, dK, dK, dK, dK, dK]
noncomputable def ko_slices_Equal_int_l4_1 : List Kd := [dK, dK, dK, dK, .v .bool .k, dK, dK, dK, dK, dK, dK, dK, dK, dK, dK, dK, dK, dK, dK, dK, dK, dK, dK, dK, dK, dK]
noncomputable def h_slices_Equal_int : Hint := { tab, hn := [], loops := [(4, ks_slices_Equal_int_l4)], outs := [(4, 2, ko_slices_Equal_int_l4_0), (4, 1, ko_slices_Equal_int_l4_1)], ords := [(6, (OT.seq [0, 1, 2, 3, 4, 5, 6, 7, 8] .done))] }
noncomputable def sg_slices_Equal_int : List AK := [.v (.sl (.int .i64)) .k, .v (.sl (.int .i64)) .k]
noncomputable def F_slices_Equal_int (N : Nat) (x : AVals sg_slices_Equal_int) (kf : Ret → Option Ret) : Option Ret := slices_Equal_int N x.1 x.2.1 (fun r0 => kf ⟨[⟨.bool, .k, r0⟩], []⟩)
noncomputable def run_slices_Equal_int (N : Nat) := runOf sg_slices_Equal_int (F_slices_Equal_int N)
noncomputable def es_slices_Equal_int (N : Nat) : List Entry := []
noncomputable def body_slices_Equal_int : Code := match Try.f53.body with | some c => c | none => .skip
noncomputable def L_slices_Equal_int (N n : Nat) (key : Nat) (S : St) (K : Ks) : Option Ret := bif Nat.beq key 4 then withVals ks_slices_Equal_int_l4 S (fun x => slices_Equal_int_l4 x.1 x.2.1 x.2.2.1 n (K (.x 0) (shape ko_slices_Equal_int_l4_0 ())) (fun z0 => K .r (shape ko_slices_Equal_int_l4_1 (z0, ()))) x.2.2.2.1) else none
theorem L0_slices_Equal_int (N key : Nat) (S : St) (K : Ks) : L_slices_Equal_int N 0 key S K = none := (bif0 (withVals0 fun _ => rfl) rfl)
noncomputable def c_slices_Equal_int_0 : Code := (loopsIn body_slices_Equal_int).getD 0 .skip
theorem ls_slices_Equal_int : loopsIn body_slices_Equal_int = [c_slices_Equal_int_0] := by kernel_rfl
theorem rd_slices_Equal_int_4 (N n : Nat) (x : Vals ks_slices_Equal_int_l4) (K : Ks) : L_slices_Equal_int N (n + 1) 4 (shape ks_slices_Equal_int_l4 x) (h_slices_Equal_int.onOut 4 K) = peRound h_slices_Equal_int (Orc.of (es_slices_Equal_int N)) (mixL (L_slices_Equal_int N) N n 4) c_slices_Equal_int_0 (shape ks_slices_Equal_int_l4 x) (h_slices_Equal_int.onOut 4 K) := by kernel_rfl
theorem fn_slices_Equal_int (N : Nat) (x : AVals sg_slices_Equal_int) (kf : Ret → Option Ret) : F_slices_Equal_int N x kf = peFunc h_slices_Equal_int (Orc.of (es_slices_Equal_int N)) (L_slices_Equal_int N N) Try.f53 (ashape sg_slices_Equal_int x) kf := by kernel_rfl
theorem sd_slices_Equal_int {Γ : Gl} (N : Nat) : Sound Γ Try.prog 53 (run_slices_Equal_int N) := fun_ok2 (hh := h_slices_Equal_int) mixed tab_ok (es := es_slices_Equal_int N) trivial (fn := Try.f53) (body := body_slices_Equal_int) (by kernel_rfl) (by kernel_rfl) (by kernel_rfl) (by kernel_rfl) (by kernel_rfl) (Lf := L_slices_Equal_int N) (L0_slices_Equal_int N) ls_slices_Equal_int (round_cons (key := 4) (ks := ks_slices_Equal_int_l4) (by kernel_rfl) (by kernel_rfl) (rd_slices_Equal_int_4 N) trivial) (N := N) (by kernel_rfl) (fn_slices_Equal_int N) (.inl (by kernel_rfl))
/-! impl_rounds -/
noncomputable def ks_impl_rounds_l4 : List Kd := [dK, .v (.ptr tQILLIE) (.o 45 none .k), dK, .v (.sl (.sl (.int .i64))) (.o 28 none .k), dK, dK, dK, dK, dK, dK, dK, dK, dK, dK, dK, dK, dK, dK, dK, dK, dK, dK, dK, dK, dK, dK, dK, dK, dK]
noncomputable def ko_impl_rounds_l4_0 : List Kd := [dK, dK, .v (.sl (.sl (.int .i64))) (.o 28 none .k), dK, dK, dK, dK, dK, dK, dK, dK, dK, dK, dK, dK, dK, dK, dK, dK, dK, dK, dK, dK, dK, dK, dK, dK, dK, dK]
noncomputable def h_impl_rounds : Hint := { tab, hn := [(6, .k)], loops := [(4, ks_impl_rounds_l4)], outs := [(4, 1, ko_impl_rounds_l4_0)], ords := [], frz := [(5, [(5, [])])] }
noncomputable def sg_impl_rounds : List AK := [.v tQILLIE .k]
noncomputable def F_impl_rounds (N : Nat) (x : AVals sg_impl_rounds) (kf : Ret → Option Ret) : Option Ret := impl_rounds N x.1 (fun r0 => kf ⟨[⟨(.sl (.sl (.int .i64))), (.o 28 none .k), r0⟩], []⟩)
noncomputable def run_impl_rounds (N : Nat) := runOf sg_impl_rounds (F_impl_rounds N)
noncomputable def es_impl_rounds (N : Nat) : List Entry := [⟨63, [.val], (run_impl_IsGraph N)⟩, ⟨157, [.val, .val], (run_impl_DefendedBy N)⟩, ⟨53, [.val, .val], (run_slices_Equal_int N)⟩]
noncomputable def body_impl_rounds : Code := match Try.f140.body with | some c => c | none => .skip
noncomputable def L_impl_rounds (N n : Nat) (key : Nat) (S : St) (K : Ks) : Option Ret := bif Nat.beq key 4 then withVals ks_impl_rounds_l4 S (fun x => impl_rounds_l4 N x.1 n (fun z0 => K .r (shape ko_impl_rounds_l4_0 (z0, ()))) x.2.1) else none
theorem L0_impl_rounds (N key : Nat) (S : St) (K : Ks) : L_impl_rounds N 0 key S K = none := (bif0 (withVals0 fun _ => rfl) rfl)
noncomputable def c_impl_rounds_0 : Code := (loopsIn body_impl_rounds).getD 0 .skip
theorem ls_impl_rounds : loopsIn body_impl_rounds = [c_impl_rounds_0] := by kernel_rfl
theorem rd_impl_rounds_4 (N n : Nat) (x : Vals ks_impl_rounds_l4) (K : Ks) : L_impl_rounds N (n + 1) 4 (shape ks_impl_rounds_l4 x) (h_impl_rounds.onOut 4 K) = peRound h_impl_rounds (Orc.of (es_impl_rounds N)) (mixL (L_impl_rounds N) N n 4) c_impl_rounds_0 (shape ks_impl_rounds_l4 x) (h_impl_rounds.onOut 4 K) := by kernel_rfl
theorem fn_impl_rounds (N : Nat) (x : AVals sg_impl_rounds) (kf : Ret → Option Ret) : F_impl_rounds N x kf = peFunc h_impl_rounds (Orc.of (es_impl_rounds N)) (L_impl_rounds N N) Try.f140 (ashape sg_impl_rounds x) kf := by kernel_rfl
theorem sd_impl_rounds {Γ : Gl} (N : Nat) : Sound Γ Try.prog 140 (run_impl_rounds N) := fun_ok2 (hh := h_impl_rounds) mixed tab_ok (es := es_impl_rounds N) ⟨sd_impl_IsGraph N, ⟨sd_impl_DefendedBy N, ⟨sd_slices_Equal_int N, trivial⟩⟩⟩ (fn := Try.f140) (body := body_impl_rounds) (by kernel_rfl) (by kernel_rfl) (by kernel_rfl) (by kernel_rfl) (by kernel_rfl) (Lf := L_impl_rounds N) (L0_impl_rounds N) ls_impl_rounds (round_cons (key := 4) (ks := ks_impl_rounds_l4) (by kernel_rfl) (by kernel_rfl) (rd_impl_rounds_4 N) trivial) (N := N) (by kernel_rfl) (fn_impl_rounds N) (.inl (by kernel_rfl))
/-! impl_Grounded -/
noncomputable def h_impl_Grounded : Hint := { tab, hn := [], loops := [], outs := [], ords := [] }
noncomputable def sg_impl_Grounded : List AK := [.v tQILLIE .k]
noncomputable def F_impl_Grounded (N : Nat) (x : AVals sg_impl_Grounded) (kf : Ret → Option Ret) : Option Ret := impl_Grounded N x.1 (fun r0 => kf ⟨[⟨(.sl (.int .i64)), .k, r0⟩], []⟩)
noncomputable def run_impl_Grounded (N : Nat) := runOf sg_impl_Grounded (F_impl_Grounded N)
noncomputable def es_impl_Grounded (N : Nat) : List Entry := [⟨140, [.val], (run_impl_rounds N)⟩]
noncomputable def body_impl_Grounded : Code := match Try.f120.body with | some c => c | none => .skip
noncomputable def L_impl_Grounded (N n : Nat) (key : Nat) (S : St) (K : Ks) : Option Ret := none
theorem L0_impl_Grounded (N key : Nat) (S : St) (K : Ks) : L_impl_Grounded N 0 key S K = none := rfl
theorem ls_impl_Grounded : loopsIn body_impl_Grounded = [] := by kernel_rfl
theorem fn_impl_Grounded (N : Nat) (x : AVals sg_impl_Grounded) (kf : Ret → Option Ret) : F_impl_Grounded N x kf = peFunc h_impl_Grounded (Orc.of (es_impl_Grounded N)) (L_impl_Grounded N N) Try.f120 (ashape sg_impl_Grounded x) kf := by kernel_rfl
theorem sd_impl_Grounded {Γ : Gl} (N : Nat) : Sound Γ Try.prog 120 (run_impl_Grounded N) := fun_ok2 (hh := h_impl_Grounded) mixed tab_ok (es := es_impl_Grounded N) ⟨sd_impl_rounds N, trivial⟩ (fn := Try.f120) (body := body_impl_Grounded) (by kernel_rfl) (by kernel_rfl) (by kernel_rfl) (by kernel_rfl) (by kernel_rfl) (Lf := L_impl_Grounded N) (L0_impl_Grounded N) ls_impl_Grounded trivial (N := N) (by kernel_rfl) (fn_impl_Grounded N) (.inl (by kernel_rfl))
/-! impl_Labels -/
noncomputable def ks_impl_Labels_l7 : List Kd := [dK, dK, dK, .v (.sl .str) (.o 9 none .k), .v (.sl (.int .i64)) .k, .v (.sl (.int .i64)) (.o 3 none .k), dK, dK, dK, dK, dK, dK, dK, dK, dK, dK, dK, dK, .v (.int .i64) .k, .v (.int .i64) .k, dK, dK, dK, dK, dK, dK, dK, dK, dK, dK, dK, dK, dK, dK, dK, dK, dK, dK, dK, dK, dK]
noncomputable def ko_impl_Labels_l7_0 : List Kd := [dK, dK, dK, .v (.sl .str) (.o 9 none .k), dK, dK, dK, dK, dK, dK, dK, dK, dK, dK, dK, dK, dK, dK, dK, dK, dK, dK, dK, dK, dK, dK, dK, dK, dK, dK, dK, dK, dK, dK, dK, dK, dK, dK, dK, dK, dK]
noncomputable def h_impl_Labels : Hint := { tab, hn := [], loops := [(7, ks_impl_Labels_l7)], outs := [(7, 2, ko_impl_Labels_l7_0)], ords := [] }
noncomputable def sg_impl_Labels : List AK := [.v tQILLIE .k]
noncomputable def F_impl_Labels (N : Nat) (x : AVals sg_impl_Labels) (kf : Ret → Option Ret) : Option Ret := impl_Labels N x.1 (fun r0 => kf ⟨[⟨(.sl .str), (.o 9 none .k), r0⟩], []⟩)
noncomputable def run_impl_Labels (N : Nat) := runOf sg_impl_Labels (F_impl_Labels N)
noncomputable def es_impl_Labels (N : Nat) : List Entry := [⟨63, [.val], (run_impl_IsGraph N)⟩, ⟨120, [.val], (run_impl_Grounded N)⟩, ⟨121, [.val, .val], (run_impl_HitBy N)⟩, ⟨81, [.val, .val], (run_slices_Contains_int N)⟩]
noncomputable def body_impl_Labels : Code := match Try.f97.body with | some c => c | none => .skip
noncomputable def L_impl_Labels (N n : Nat) (key : Nat) (S : St) (K : Ks) : Option Ret := bif Nat.beq key 7 then withVals ks_impl_Labels_l7 S (fun x => impl_Labels_l7 N x.2.1 x.2.2.1 x.2.2.2.1 n (fun z0 => K (.x 0) (shape ko_impl_Labels_l7_0 (z0, ()))) x.1 x.2.2.2.2.1) else none
theorem L0_impl_Labels (N key : Nat) (S : St) (K : Ks) : L_impl_Labels N 0 key S K = none := (bif0 (withVals0 fun _ => rfl) rfl)
noncomputable def c_impl_Labels_0 : Code := (loopsIn body_impl_Labels).getD 0 .skip
theorem ls_impl_Labels : loopsIn body_impl_Labels = [c_impl_Labels_0] := by kernel_rfl
theorem rd_impl_Labels_7 (N n : Nat) (x : Vals ks_impl_Labels_l7) (K : Ks) : L_impl_Labels N (n + 1) 7 (shape ks_impl_Labels_l7 x) (h_impl_Labels.onOut 7 K) = peRound h_impl_Labels (Orc.of (es_impl_Labels N)) (mixL (L_impl_Labels N) N n 7) c_impl_Labels_0 (shape ks_impl_Labels_l7 x) (h_impl_Labels.onOut 7 K) := by kernel_rfl
theorem fn_impl_Labels (N : Nat) (x : AVals sg_impl_Labels) (kf : Ret → Option Ret) : F_impl_Labels N x kf = peFunc h_impl_Labels (Orc.of (es_impl_Labels N)) (L_impl_Labels N N) Try.f97 (ashape sg_impl_Labels x) kf := by kernel_rfl
theorem sd_impl_Labels {Γ : Gl} (N : Nat) : Sound Γ Try.prog 97 (run_impl_Labels N) := fun_ok2 (hh := h_impl_Labels) mixed tab_ok (es := es_impl_Labels N) ⟨sd_impl_IsGraph N, ⟨sd_impl_Grounded N, ⟨sd_impl_HitBy N, ⟨sd_slices_Contains_int N, trivial⟩⟩⟩⟩ (fn := Try.f97) (body := body_impl_Labels) (by kernel_rfl) (by kernel_rfl) (by kernel_rfl) (by kernel_rfl) (by kernel_rfl) (Lf := L_impl_Labels N) (L0_impl_Labels N) ls_impl_Labels (round_cons (key := 7) (ks := ks_impl_Labels_l7) (by kernel_rfl) (by kernel_rfl) (rd_impl_Labels_7 N) trivial) (N := N) (by kernel_rfl) (fn_impl_Labels N) (.inl (by kernel_rfl))
end Go.Pv.R
