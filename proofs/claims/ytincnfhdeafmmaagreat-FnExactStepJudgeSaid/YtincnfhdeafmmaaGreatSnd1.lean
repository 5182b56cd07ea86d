/- Each function of the program that the law reaches computes its plain function, part 1. -/
import Derived.Test.YtincnfhdeafmmaaGreatSnd0
import Derived.Test.YtincnfhdeafmmaaGreatProg
namespace Go.Pv.R
open Go.Proofs
set_option linter.unusedVariables false
set_option maxRecDepth 100000
/-! slices_Clone_int -/
noncomputable def h_slices_Clone_int : Hint := { tab, hn := [], loops := [], outs := [], ords := [] }
noncomputable def sg_slices_Clone_int : List AK := [.v (.sl (.int .i64)) .k]
noncomputable def F_slices_Clone_int (N : Nat) (x : AVals sg_slices_Clone_int) (kf : Ret → Option Ret) : Option Ret := slices_Clone_int N x.1 (fun r0 => kf ⟨[⟨(.sl (.int .i64)), (.o 3 none .k), r0⟩], []⟩)
noncomputable def run_slices_Clone_int (N : Nat) := runOf sg_slices_Clone_int (F_slices_Clone_int N)
noncomputable def es_slices_Clone_int (N : Nat) : List Entry := []
noncomputable def body_slices_Clone_int : Code := match Tryz.f138.body with | some c => c | none => .skip
noncomputable def L_slices_Clone_int (N n : Nat) (key : Nat) (S : St) (K : Ks) : Option Ret := none
theorem L0_slices_Clone_int (N key : Nat) (S : St) (K : Ks) : L_slices_Clone_int N 0 key S K = none := rfl
theorem ls_slices_Clone_int : loopsIn body_slices_Clone_int = [] := by kernel_rfl
theorem fn_slices_Clone_int (N : Nat) (x : AVals sg_slices_Clone_int) (kf : Ret → Option Ret) : F_slices_Clone_int N x kf = peFunc h_slices_Clone_int (Orc.of (es_slices_Clone_int N)) (L_slices_Clone_int N N) Tryz.f138 (ashape sg_slices_Clone_int x) kf := by kernel_rfl
theorem det_slices_Clone_int (N : Nat) (x : AVals sg_slices_Clone_int) : Det (F_slices_Clone_int N x) := by
  obtain ⟨l, u⟩ := x
  unfold F_slices_Clone_int slices_Clone_int
  cases l with
  | nil => exact ⟨some _, fun K => both_self _⟩
  | cons a l =>
    simp only [List.isEmpty_cons, cond_false]
    exact Det.bif _ (Det.pure _) Det.none
theorem sd_slices_Clone_int (N : Nat) : Sound Tryz.prog 138 (run_slices_Clone_int N) := fun_ok2 (hh := h_slices_Clone_int) mixed tab_ok (es := es_slices_Clone_int N) trivial (fn := Tryz.f138) (body := body_slices_Clone_int) (by kernel_rfl) (by kernel_rfl) (by kernel_rfl) (by kernel_rfl) (by kernel_rfl) (Lf := L_slices_Clone_int N) (L0_slices_Clone_int N) ls_slices_Clone_int trivial (N := N) (by kernel_rfl) (fn_slices_Clone_int N) (.inr (det_slices_Clone_int N))
/-! impl_cloneTeams -/
noncomputable def ks_impl_cloneTeams_l3 : List Kd := [dK, dK, dK, .v (.sl tQIIIIILIE) (.o 92 none (.p .k (.p .k (.p .k (.p .k (.p .k (.o 3 none .k))))))), dK, dK, dK, .v (.sl tQIIIIILIE) .k, .v (.int .i64) .k, .v (.int .i64) .k, dK, dK, dK, dK, dK, dK, dK, dK, dK, dK, dK, dK, dK]
noncomputable def ko_impl_cloneTeams_l3_0 : List Kd := [dK, dK, dK, .v (.sl tQIIIIILIE) (.o 92 none (.p .k (.p .k (.p .k (.p .k (.p .k (.o 3 none .k))))))), dK, dK, dK, dK, dK, dK, dK, dK, dK, dK, dK, dK, dK, dK, dK, dK, dK, dK, dK]
noncomputable def h_impl_cloneTeams : Hint := { tab, hn := [(6, (.p .k (.p .k (.p .k (.p .k (.p .k (.o 3 none .k)))))))], loops := [(3, ks_impl_cloneTeams_l3)], outs := [(3, 2, ko_impl_cloneTeams_l3_0)], ords := [] }
noncomputable def sg_impl_cloneTeams : List AK := [.v (.sl tQIIIIILIE) .k]
noncomputable def F_impl_cloneTeams (N : Nat) (x : AVals sg_impl_cloneTeams) (kf : Ret → Option Ret) : Option Ret := impl_cloneTeams N x.1 (fun r0 => kf ⟨[⟨(.sl tQIIIIILIE), (.o 92 none (.p .k (.p .k (.p .k (.p .k (.p .k (.o 3 none .k))))))), r0⟩], []⟩)
noncomputable def run_impl_cloneTeams (N : Nat) := runOf sg_impl_cloneTeams (F_impl_cloneTeams N)
noncomputable def es_impl_cloneTeams (N : Nat) : List Entry := [⟨138, [.val], (run_slices_Clone_int N)⟩]
noncomputable def body_impl_cloneTeams : Code := match Tryz.f135.body with | some c => c | none => .skip
noncomputable def L_impl_cloneTeams (N n : Nat) (key : Nat) (S : St) (K : Ks) : Option Ret := bif Nat.beq key 3 then withVals ks_impl_cloneTeams_l3 S (fun x => impl_cloneTeams_l3 N x.2.1 x.2.2.1 n (fun z0 => K (.x 0) (shape ko_impl_cloneTeams_l3_0 (z0, ()))) x.1 x.2.2.2.1) else none
theorem L0_impl_cloneTeams (N key : Nat) (S : St) (K : Ks) : L_impl_cloneTeams N 0 key S K = none := (bif0 (withVals0 fun _ => rfl) rfl)
noncomputable def c_impl_cloneTeams_0 : Code := (loopsIn body_impl_cloneTeams).getD 0 .skip
theorem ls_impl_cloneTeams : loopsIn body_impl_cloneTeams = [c_impl_cloneTeams_0] := by kernel_rfl
theorem rd_impl_cloneTeams_3 (N n : Nat) (x : Vals ks_impl_cloneTeams_l3) (K : Ks) : L_impl_cloneTeams N (n + 1) 3 (shape ks_impl_cloneTeams_l3 x) (h_impl_cloneTeams.onOut 3 K) = peRound h_impl_cloneTeams (Orc.of (es_impl_cloneTeams N)) (mixL (L_impl_cloneTeams N) N n 3) c_impl_cloneTeams_0 (shape ks_impl_cloneTeams_l3 x) (h_impl_cloneTeams.onOut 3 K) := by kernel_rfl
theorem fn_impl_cloneTeams (N : Nat) (x : AVals sg_impl_cloneTeams) (kf : Ret → Option Ret) : F_impl_cloneTeams N x kf = peFunc h_impl_cloneTeams (Orc.of (es_impl_cloneTeams N)) (L_impl_cloneTeams N N) Tryz.f135 (ashape sg_impl_cloneTeams x) kf := by kernel_rfl
theorem sd_impl_cloneTeams (N : Nat) : Sound Tryz.prog 135 (run_impl_cloneTeams N) := fun_ok2 (hh := h_impl_cloneTeams) mixed tab_ok (es := es_impl_cloneTeams N) ⟨sd_slices_Clone_int N, trivial⟩ (fn := Tryz.f135) (body := body_impl_cloneTeams) (by kernel_rfl) (by kernel_rfl) (by kernel_rfl) (by kernel_rfl) (by kernel_rfl) (Lf := L_impl_cloneTeams N) (L0_impl_cloneTeams N) ls_impl_cloneTeams (round_cons (key := 3) (ks := ks_impl_cloneTeams_l3) (by kernel_rfl) (by kernel_rfl) (rd_impl_cloneTeams_3 N) trivial) (N := N) (by kernel_rfl) (fn_impl_cloneTeams N) (.inl (by kernel_rfl))
/-! impl_cloneJudges -/
noncomputable def ks_impl_cloneJudges_l3 : List Kd := [dK, dK, dK, .v (.sl tQIILIE) (.o 97 none (.p .k (.p .k (.o 3 none .k)))), dK, dK, dK, .v (.sl tQIILIE) .k, .v (.int .i64) .k, .v (.int .i64) .k, dK, dK, dK, dK, dK, dK, dK, dK, dK, dK, dK, dK, dK]
noncomputable def ko_impl_cloneJudges_l3_0 : List Kd := [dK, dK, dK, .v (.sl tQIILIE) (.o 97 none (.p .k (.p .k (.o 3 none .k)))), dK, dK, dK, dK, dK, dK, dK, dK, dK, dK, dK, dK, dK, dK, dK, dK, dK, dK, dK]
noncomputable def h_impl_cloneJudges : Hint := { tab, hn := [(6, (.p .k (.p .k (.o 3 none .k))))], loops := [(3, ks_impl_cloneJudges_l3)], outs := [(3, 2, ko_impl_cloneJudges_l3_0)], ords := [] }
noncomputable def sg_impl_cloneJudges : List AK := [.v (.sl tQIILIE) .k]
noncomputable def F_impl_cloneJudges (N : Nat) (x : AVals sg_impl_cloneJudges) (kf : Ret → Option Ret) : Option Ret := impl_cloneJudges N x.1 (fun r0 => kf ⟨[⟨(.sl tQIILIE), (.o 97 none (.p .k (.p .k (.o 3 none .k)))), r0⟩], []⟩)
noncomputable def run_impl_cloneJudges (N : Nat) := runOf sg_impl_cloneJudges (F_impl_cloneJudges N)
noncomputable def es_impl_cloneJudges (N : Nat) : List Entry := [⟨138, [.val], (run_slices_Clone_int N)⟩]
noncomputable def body_impl_cloneJudges : Code := match Tryz.f136.body with | some c => c | none => .skip
noncomputable def L_impl_cloneJudges (N n : Nat) (key : Nat) (S : St) (K : Ks) : Option Ret := bif Nat.beq key 3 then withVals ks_impl_cloneJudges_l3 S (fun x => impl_cloneJudges_l3 N x.2.1 x.2.2.1 n (fun z0 => K (.x 0) (shape ko_impl_cloneJudges_l3_0 (z0, ()))) x.1 x.2.2.2.1) else none
theorem L0_impl_cloneJudges (N key : Nat) (S : St) (K : Ks) : L_impl_cloneJudges N 0 key S K = none := (bif0 (withVals0 fun _ => rfl) rfl)
noncomputable def c_impl_cloneJudges_0 : Code := (loopsIn body_impl_cloneJudges).getD 0 .skip
theorem ls_impl_cloneJudges : loopsIn body_impl_cloneJudges = [c_impl_cloneJudges_0] := by kernel_rfl
theorem rd_impl_cloneJudges_3 (N n : Nat) (x : Vals ks_impl_cloneJudges_l3) (K : Ks) : L_impl_cloneJudges N (n + 1) 3 (shape ks_impl_cloneJudges_l3 x) (h_impl_cloneJudges.onOut 3 K) = peRound h_impl_cloneJudges (Orc.of (es_impl_cloneJudges N)) (mixL (L_impl_cloneJudges N) N n 3) c_impl_cloneJudges_0 (shape ks_impl_cloneJudges_l3 x) (h_impl_cloneJudges.onOut 3 K) := by kernel_rfl
theorem fn_impl_cloneJudges (N : Nat) (x : AVals sg_impl_cloneJudges) (kf : Ret → Option Ret) : F_impl_cloneJudges N x kf = peFunc h_impl_cloneJudges (Orc.of (es_impl_cloneJudges N)) (L_impl_cloneJudges N N) Tryz.f136 (ashape sg_impl_cloneJudges x) kf := by kernel_rfl
theorem sd_impl_cloneJudges (N : Nat) : Sound Tryz.prog 136 (run_impl_cloneJudges N) := fun_ok2 (hh := h_impl_cloneJudges) mixed tab_ok (es := es_impl_cloneJudges N) ⟨sd_slices_Clone_int N, trivial⟩ (fn := Tryz.f136) (body := body_impl_cloneJudges) (by kernel_rfl) (by kernel_rfl) (by kernel_rfl) (by kernel_rfl) (by kernel_rfl) (Lf := L_impl_cloneJudges N) (L0_impl_cloneJudges N) ls_impl_cloneJudges (round_cons (key := 3) (ks := ks_impl_cloneJudges_l3) (by kernel_rfl) (by kernel_rfl) (rd_impl_cloneJudges_3 N) trivial) (N := N) (by kernel_rfl) (fn_impl_cloneJudges N) (.inl (by kernel_rfl))
/-! slices_Clone_Pair -/
noncomputable def h_slices_Clone_Pair : Hint := { tab, hn := [], loops := [], outs := [], ords := [] }
noncomputable def sg_slices_Clone_Pair : List AK := [.v (.sl tQIIE) .k]
noncomputable def F_slices_Clone_Pair (N : Nat) (x : AVals sg_slices_Clone_Pair) (kf : Ret → Option Ret) : Option Ret := slices_Clone_Pair N x.1 (fun r0 => kf ⟨[⟨(.sl tQIIE), (.o 107 none .k), r0⟩], []⟩)
noncomputable def run_slices_Clone_Pair (N : Nat) := runOf sg_slices_Clone_Pair (F_slices_Clone_Pair N)
noncomputable def es_slices_Clone_Pair (N : Nat) : List Entry := []
noncomputable def body_slices_Clone_Pair : Code := match Tryz.f137.body with | some c => c | none => .skip
noncomputable def L_slices_Clone_Pair (N n : Nat) (key : Nat) (S : St) (K : Ks) : Option Ret := none
theorem L0_slices_Clone_Pair (N key : Nat) (S : St) (K : Ks) : L_slices_Clone_Pair N 0 key S K = none := rfl
theorem ls_slices_Clone_Pair : loopsIn body_slices_Clone_Pair = [] := by kernel_rfl
theorem fn_slices_Clone_Pair (N : Nat) (x : AVals sg_slices_Clone_Pair) (kf : Ret → Option Ret) : F_slices_Clone_Pair N x kf = peFunc h_slices_Clone_Pair (Orc.of (es_slices_Clone_Pair N)) (L_slices_Clone_Pair N N) Tryz.f137 (ashape sg_slices_Clone_Pair x) kf := by kernel_rfl
theorem det_slices_Clone_Pair (N : Nat) (x : AVals sg_slices_Clone_Pair) : Det (F_slices_Clone_Pair N x) := by
  obtain ⟨l, u⟩ := x
  unfold F_slices_Clone_Pair slices_Clone_Pair
  cases l with
  | nil => exact ⟨some _, fun K => both_self _⟩
  | cons a l =>
    simp only [List.isEmpty_cons, cond_false]
    exact Det.bif _ (Det.pure _) Det.none
theorem sd_slices_Clone_Pair (N : Nat) : Sound Tryz.prog 137 (run_slices_Clone_Pair N) := fun_ok2 (hh := h_slices_Clone_Pair) mixed tab_ok (es := es_slices_Clone_Pair N) trivial (fn := Tryz.f137) (body := body_slices_Clone_Pair) (by kernel_rfl) (by kernel_rfl) (by kernel_rfl) (by kernel_rfl) (by kernel_rfl) (Lf := L_slices_Clone_Pair N) (L0_slices_Clone_Pair N) ls_slices_Clone_Pair trivial (N := N) (by kernel_rfl) (fn_slices_Clone_Pair N) (.inr (det_slices_Clone_Pair N))
/-! slices_Clone_Ballot -/
noncomputable def h_slices_Clone_Ballot : Hint := { tab, hn := [], loops := [], outs := [], ords := [] }
noncomputable def sg_slices_Clone_Ballot : List AK := [.v (.sl tQIIIE) .k]
noncomputable def F_slices_Clone_Ballot (N : Nat) (x : AVals sg_slices_Clone_Ballot) (kf : Ret → Option Ret) : Option Ret := slices_Clone_Ballot N x.1 (fun r0 => kf ⟨[⟨(.sl tQIIIE), (.o 71 none .k), r0⟩], []⟩)
noncomputable def run_slices_Clone_Ballot (N : Nat) := runOf sg_slices_Clone_Ballot (F_slices_Clone_Ballot N)
noncomputable def es_slices_Clone_Ballot (N : Nat) : List Entry := []
noncomputable def body_slices_Clone_Ballot : Code := match Tryz.f139.body with | some c => c | none => .skip
noncomputable def L_slices_Clone_Ballot (N n : Nat) (key : Nat) (S : St) (K : Ks) : Option Ret := none
theorem L0_slices_Clone_Ballot (N key : Nat) (S : St) (K : Ks) : L_slices_Clone_Ballot N 0 key S K = none := rfl
theorem ls_slices_Clone_Ballot : loopsIn body_slices_Clone_Ballot = [] := by kernel_rfl
theorem fn_slices_Clone_Ballot (N : Nat) (x : AVals sg_slices_Clone_Ballot) (kf : Ret → Option Ret) : F_slices_Clone_Ballot N x kf = peFunc h_slices_Clone_Ballot (Orc.of (es_slices_Clone_Ballot N)) (L_slices_Clone_Ballot N N) Tryz.f139 (ashape sg_slices_Clone_Ballot x) kf := by kernel_rfl
theorem det_slices_Clone_Ballot (N : Nat) (x : AVals sg_slices_Clone_Ballot) : Det (F_slices_Clone_Ballot N x) := by
  obtain ⟨l, u⟩ := x
  unfold F_slices_Clone_Ballot slices_Clone_Ballot
  cases l with
  | nil => exact ⟨some _, fun K => both_self _⟩
  | cons a l =>
    simp only [List.isEmpty_cons, cond_false]
    exact Det.bif _ (Det.pure _) Det.none
theorem sd_slices_Clone_Ballot (N : Nat) : Sound Tryz.prog 139 (run_slices_Clone_Ballot N) := fun_ok2 (hh := h_slices_Clone_Ballot) mixed tab_ok (es := es_slices_Clone_Ballot N) trivial (fn := Tryz.f139) (body := body_slices_Clone_Ballot) (by kernel_rfl) (by kernel_rfl) (by kernel_rfl) (by kernel_rfl) (by kernel_rfl) (Lf := L_slices_Clone_Ballot N) (L0_slices_Clone_Ballot N) ls_slices_Clone_Ballot trivial (N := N) (by kernel_rfl) (fn_slices_Clone_Ballot N) (.inr (det_slices_Clone_Ballot N))
/-! slices_Clone_Line -/
noncomputable def h_slices_Clone_Line : Hint := { tab, hn := [], loops := [], outs := [], ords := [] }
noncomputable def sg_slices_Clone_Line : List AK := [.v (.sl tQIIIIE) .k]
noncomputable def F_slices_Clone_Line (N : Nat) (x : AVals sg_slices_Clone_Line) (kf : Ret → Option Ret) : Option Ret := slices_Clone_Line N x.1 (fun r0 => kf ⟨[⟨(.sl tQIIIIE), (.o 126 none .k), r0⟩], []⟩)
noncomputable def run_slices_Clone_Line (N : Nat) := runOf sg_slices_Clone_Line (F_slices_Clone_Line N)
noncomputable def es_slices_Clone_Line (N : Nat) : List Entry := []
noncomputable def body_slices_Clone_Line : Code := match Tryz.f140.body with | some c => c | none => .skip
noncomputable def L_slices_Clone_Line (N n : Nat) (key : Nat) (S : St) (K : Ks) : Option Ret := none
theorem L0_slices_Clone_Line (N key : Nat) (S : St) (K : Ks) : L_slices_Clone_Line N 0 key S K = none := rfl
theorem ls_slices_Clone_Line : loopsIn body_slices_Clone_Line = [] := by kernel_rfl
theorem fn_slices_Clone_Line (N : Nat) (x : AVals sg_slices_Clone_Line) (kf : Ret → Option Ret) : F_slices_Clone_Line N x kf = peFunc h_slices_Clone_Line (Orc.of (es_slices_Clone_Line N)) (L_slices_Clone_Line N N) Tryz.f140 (ashape sg_slices_Clone_Line x) kf := by kernel_rfl
theorem det_slices_Clone_Line (N : Nat) (x : AVals sg_slices_Clone_Line) : Det (F_slices_Clone_Line N x) := by
  obtain ⟨l, u⟩ := x
  unfold F_slices_Clone_Line slices_Clone_Line
  cases l with
  | nil => exact ⟨some _, fun K => both_self _⟩
  | cons a l =>
    simp only [List.isEmpty_cons, cond_false]
    exact Det.bif _ (Det.pure _) Det.none
theorem sd_slices_Clone_Line (N : Nat) : Sound Tryz.prog 140 (run_slices_Clone_Line N) := fun_ok2 (hh := h_slices_Clone_Line) mixed tab_ok (es := es_slices_Clone_Line N) trivial (fn := Tryz.f140) (body := body_slices_Clone_Line) (by kernel_rfl) (by kernel_rfl) (by kernel_rfl) (by kernel_rfl) (by kernel_rfl) (Lf := L_slices_Clone_Line N) (L0_slices_Clone_Line N) ls_slices_Clone_Line trivial (N := N) (by kernel_rfl) (fn_slices_Clone_Line N) (.inr (det_slices_Clone_Line N))
/-! impl_cloneClub -/
noncomputable def h_impl_cloneClub : Hint := { tab, hn := [], loops := [], outs := [], ords := [(1, (OT.seq [0, 1, 3, 4, 2, 6, 5, 7, 8, 9] .done)), (2, (OT.seq [0, 1, 3, 4, 6, 7, 9, 10, 2, 12, 5, 8, 11, 13, 14, 15, 16, 17, 18, 19] .done))] }
noncomputable def sg_impl_cloneClub : List AK := [.v tQLQIIIIILIELQIILIELQIIELILQIIIELQIIIIEIE .k]
noncomputable def F_impl_cloneClub (N : Nat) (x : AVals sg_impl_cloneClub) (kf : Ret → Option Ret) : Option Ret := impl_cloneClub N x.1 (fun r0 => kf ⟨[⟨tQLQIIIIILIELQIILIELQIIELILQIIIELQIIIIEIE, (.p (.o 92 none (.p .k (.p .k (.p .k (.p .k (.p .k (.o 3 none .k))))))) (.p (.o 97 none (.p .k (.p .k (.o 3 none .k)))) (.p (.o 107 none .k) (.p (.o 3 none .k) (.p (.o 71 none .k) (.p (.o 126 none .k) .k)))))), r0⟩], []⟩)
noncomputable def run_impl_cloneClub (N : Nat) := runOf sg_impl_cloneClub (F_impl_cloneClub N)
noncomputable def es_impl_cloneClub (N : Nat) : List Entry := [⟨135, [.val], (run_impl_cloneTeams N)⟩, ⟨136, [.val], (run_impl_cloneJudges N)⟩, ⟨137, [.val], (run_slices_Clone_Pair N)⟩, ⟨138, [.val], (run_slices_Clone_int N)⟩, ⟨139, [.val], (run_slices_Clone_Ballot N)⟩, ⟨140, [.val], (run_slices_Clone_Line N)⟩]
noncomputable def body_impl_cloneClub : Code := match Tryz.f57.body with | some c => c | none => .skip
noncomputable def L_impl_cloneClub (N n : Nat) (key : Nat) (S : St) (K : Ks) : Option Ret := none
theorem L0_impl_cloneClub (N key : Nat) (S : St) (K : Ks) : L_impl_cloneClub N 0 key S K = none := rfl
theorem ls_impl_cloneClub : loopsIn body_impl_cloneClub = [] := by kernel_rfl
theorem fn_impl_cloneClub (N : Nat) (x : AVals sg_impl_cloneClub) (kf : Ret → Option Ret) : F_impl_cloneClub N x kf = peFunc h_impl_cloneClub (Orc.of (es_impl_cloneClub N)) (L_impl_cloneClub N N) Tryz.f57 (ashape sg_impl_cloneClub x) kf := by kernel_rfl
theorem sd_impl_cloneClub (N : Nat) : Sound Tryz.prog 57 (run_impl_cloneClub N) := fun_ok2 (hh := h_impl_cloneClub) mixed tab_ok (es := es_impl_cloneClub N) ⟨sd_impl_cloneTeams N, ⟨sd_impl_cloneJudges N, ⟨sd_slices_Clone_Pair N, ⟨sd_slices_Clone_int N, ⟨sd_slices_Clone_Ballot N, ⟨sd_slices_Clone_Line N, trivial⟩⟩⟩⟩⟩⟩ (fn := Tryz.f57) (body := body_impl_cloneClub) (by kernel_rfl) (by kernel_rfl) (by kernel_rfl) (by kernel_rfl) (by kernel_rfl) (Lf := L_impl_cloneClub N) (L0_impl_cloneClub N) ls_impl_cloneClub trivial (N := N) (by kernel_rfl) (fn_impl_cloneClub N) (.inl (by kernel_rfl))
/-! impl_InRange -/
noncomputable def h_impl_InRange : Hint := { tab, hn := [], loops := [], outs := [], ords := [] }
noncomputable def sg_impl_InRange : List AK := [.v (.int .i64) .k, .v (.int .i64) .k, .v (.int .i64) .k]
noncomputable def F_impl_InRange (N : Nat) (x : AVals sg_impl_InRange) (kf : Ret → Option Ret) : Option Ret := impl_InRange N x.1 x.2.1 x.2.2.1 (fun r0 => kf ⟨[⟨.bool, .k, r0⟩], []⟩)
noncomputable def run_impl_InRange (N : Nat) := runOf sg_impl_InRange (F_impl_InRange N)
noncomputable def es_impl_InRange (N : Nat) : List Entry := []
noncomputable def body_impl_InRange : Code := match Tryz.f109.body with | some c => c | none => .skip
noncomputable def L_impl_InRange (N n : Nat) (key : Nat) (S : St) (K : Ks) : Option Ret := none
theorem L0_impl_InRange (N key : Nat) (S : St) (K : Ks) : L_impl_InRange N 0 key S K = none := rfl
theorem ls_impl_InRange : loopsIn body_impl_InRange = [] := by kernel_rfl
theorem fn_impl_InRange (N : Nat) (x : AVals sg_impl_InRange) (kf : Ret → Option Ret) : F_impl_InRange N x kf = peFunc h_impl_InRange (Orc.of (es_impl_InRange N)) (L_impl_InRange N N) Tryz.f109 (ashape sg_impl_InRange x) kf := by kernel_rfl
theorem sd_impl_InRange (N : Nat) : Sound Tryz.prog 109 (run_impl_InRange N) := fun_ok2 (hh := h_impl_InRange) mixed tab_ok (es := es_impl_InRange N) trivial (fn := Tryz.f109) (body := body_impl_InRange) (by kernel_rfl) (by kernel_rfl) (by kernel_rfl) (by kernel_rfl) (by kernel_rfl) (Lf := L_impl_InRange N) (L0_impl_InRange N) ls_impl_InRange trivial (N := N) (by kernel_rfl) (fn_impl_InRange N) (.inl (by kernel_rfl))
/-! impl_FindTeam_1 -/
noncomputable def h_impl_FindTeam_1 : Hint := { tab, hn := [], loops := [], outs := [], ords := [] }
noncomputable def sg_impl_FindTeam_1 : List AK := [.v tQIIIIILIE .k, .v (.ptr (.int .i64)) .k]
noncomputable def F_impl_FindTeam_1 (N : Nat) (x : AVals sg_impl_FindTeam_1) (kf : Ret → Option Ret) : Option Ret := impl_FindTeam_1 N x.1 x.2.1 (fun r0 => kf ⟨[⟨.bool, .k, r0⟩], []⟩)
noncomputable def run_impl_FindTeam_1 (N : Nat) := runOf sg_impl_FindTeam_1 (F_impl_FindTeam_1 N)
noncomputable def es_impl_FindTeam_1 (N : Nat) : List Entry := []
noncomputable def body_impl_FindTeam_1 : Code := match Tryz.f112.body with | some c => c | none => .skip
noncomputable def L_impl_FindTeam_1 (N n : Nat) (key : Nat) (S : St) (K : Ks) : Option Ret := none
theorem L0_impl_FindTeam_1 (N key : Nat) (S : St) (K : Ks) : L_impl_FindTeam_1 N 0 key S K = none := rfl
theorem ls_impl_FindTeam_1 : loopsIn body_impl_FindTeam_1 = [] := by kernel_rfl
theorem fn_impl_FindTeam_1 (N : Nat) (x : AVals sg_impl_FindTeam_1) (kf : Ret → Option Ret) : F_impl_FindTeam_1 N x kf = peFunc h_impl_FindTeam_1 (Orc.of (es_impl_FindTeam_1 N)) (L_impl_FindTeam_1 N N) Tryz.f112 (ashape sg_impl_FindTeam_1 x) kf := by kernel_rfl
theorem sd_impl_FindTeam_1 (N : Nat) : Sound Tryz.prog 112 (run_impl_FindTeam_1 N) := fun_ok2 (hh := h_impl_FindTeam_1) mixed tab_ok (es := es_impl_FindTeam_1 N) trivial (fn := Tryz.f112) (body := body_impl_FindTeam_1) (by kernel_rfl) (by kernel_rfl) (by kernel_rfl) (by kernel_rfl) (by kernel_rfl) (Lf := L_impl_FindTeam_1 N) (L0_impl_FindTeam_1 N) ls_impl_FindTeam_1 trivial (N := N) (by kernel_rfl) (fn_impl_FindTeam_1 N) (.inl (by kernel_rfl))
/-! slices_IndexFunc_Team_impl_FindTeam_1 -/
noncomputable def ks_slices_IndexFunc_Team_impl_FindTeam_1_l2 : List Kd := [.v (.sl tQIIIIILIE) .k, .clo 112 [.kv (.ptr (.int .i64))], dK, dK, dK, dK, dK, .v (.int .i64) .k, .v (.int .i64) .k, dK, dK, dK, dK, dK, dK, dK, dK, dK, dK]
noncomputable def ko_slices_IndexFunc_Team_impl_FindTeam_1_l2_0 : List Kd := [dK, dK, dK, dK, dK, dK, dK, dK, dK, dK, dK, dK, dK, dK, dK, dK, dK, dK, dK]
noncomputable def ko_slices_IndexFunc_Team_impl_FindTeam_1_l2_1 : List Kd := [dK, dK, dK, dK, .v (.int .i64) .k, dK, dK, dK, dK, dK, dK, dK, dK, dK, dK, dK, dK, dK, dK]
noncomputable def h_slices_IndexFunc_Team_impl_FindTeam_1 : Hint := { tab, hn := [], loops := [(2, ks_slices_IndexFunc_Team_impl_FindTeam_1_l2)], outs := [(2, 2, ko_slices_IndexFunc_Team_impl_FindTeam_1_l2_0), (2, 1, ko_slices_IndexFunc_Team_impl_FindTeam_1_l2_1)], ords := [] }
noncomputable def sg_slices_IndexFunc_Team_impl_FindTeam_1 : List AK := [.v (.sl tQIIIIILIE) .k, .fn 112 [(.ptr (.int .i64))]]
noncomputable def F_slices_IndexFunc_Team_impl_FindTeam_1 (N : Nat) (x : AVals sg_slices_IndexFunc_Team_impl_FindTeam_1) (kf : Ret → Option Ret) : Option Ret := slices_IndexFunc_Team_impl_FindTeam_1 N x.1 x.2.1.1 (fun r0 => kf ⟨[⟨(.int .i64), .k, r0⟩], []⟩)
noncomputable def run_slices_IndexFunc_Team_impl_FindTeam_1 (N : Nat) := runOf sg_slices_IndexFunc_Team_impl_FindTeam_1 (F_slices_IndexFunc_Team_impl_FindTeam_1 N)
noncomputable def es_slices_IndexFunc_Team_impl_FindTeam_1 (N : Nat) : List Entry := [⟨112, [.val], (run_impl_FindTeam_1 N)⟩]
noncomputable def body_slices_IndexFunc_Team_impl_FindTeam_1 : Code := match Tryz.f111.body with | some c => c | none => .skip
noncomputable def L_slices_IndexFunc_Team_impl_FindTeam_1 (N n : Nat) (key : Nat) (S : St) (K : Ks) : Option Ret := bif Nat.beq key 2 then withVals ks_slices_IndexFunc_Team_impl_FindTeam_1_l2 S (fun x => slices_IndexFunc_Team_impl_FindTeam_1_l2 N x.1 x.2.1.1 x.2.2.1 n (K (.x 0) (shape ko_slices_IndexFunc_Team_impl_FindTeam_1_l2_0 ())) (fun z0 => K .r (shape ko_slices_IndexFunc_Team_impl_FindTeam_1_l2_1 (z0, ()))) x.2.2.2.1) else none
theorem L0_slices_IndexFunc_Team_impl_FindTeam_1 (N key : Nat) (S : St) (K : Ks) : L_slices_IndexFunc_Team_impl_FindTeam_1 N 0 key S K = none := (bif0 (withVals0 fun _ => rfl) rfl)
noncomputable def c_slices_IndexFunc_Team_impl_FindTeam_1_0 : Code := (loopsIn body_slices_IndexFunc_Team_impl_FindTeam_1).getD 0 .skip
theorem ls_slices_IndexFunc_Team_impl_FindTeam_1 : loopsIn body_slices_IndexFunc_Team_impl_FindTeam_1 = [c_slices_IndexFunc_Team_impl_FindTeam_1_0] := by kernel_rfl
theorem rd_slices_IndexFunc_Team_impl_FindTeam_1_2 (N n : Nat) (x : Vals ks_slices_IndexFunc_Team_impl_FindTeam_1_l2) (K : Ks) : L_slices_IndexFunc_Team_impl_FindTeam_1 N (n + 1) 2 (shape ks_slices_IndexFunc_Team_impl_FindTeam_1_l2 x) (h_slices_IndexFunc_Team_impl_FindTeam_1.onOut 2 K) = peRound h_slices_IndexFunc_Team_impl_FindTeam_1 (Orc.of (es_slices_IndexFunc_Team_impl_FindTeam_1 N)) (mixL (L_slices_IndexFunc_Team_impl_FindTeam_1 N) N n 2) c_slices_IndexFunc_Team_impl_FindTeam_1_0 (shape ks_slices_IndexFunc_Team_impl_FindTeam_1_l2 x) (h_slices_IndexFunc_Team_impl_FindTeam_1.onOut 2 K) := by kernel_rfl
theorem fn_slices_IndexFunc_Team_impl_FindTeam_1 (N : Nat) (x : AVals sg_slices_IndexFunc_Team_impl_FindTeam_1) (kf : Ret → Option Ret) : F_slices_IndexFunc_Team_impl_FindTeam_1 N x kf = peFunc h_slices_IndexFunc_Team_impl_FindTeam_1 (Orc.of (es_slices_IndexFunc_Team_impl_FindTeam_1 N)) (L_slices_IndexFunc_Team_impl_FindTeam_1 N N) Tryz.f111 (ashape sg_slices_IndexFunc_Team_impl_FindTeam_1 x) kf := by kernel_rfl
theorem sd_slices_IndexFunc_Team_impl_FindTeam_1 (N : Nat) : Sound Tryz.prog 111 (run_slices_IndexFunc_Team_impl_FindTeam_1 N) := fun_ok2 (hh := h_slices_IndexFunc_Team_impl_FindTeam_1) mixed tab_ok (es := es_slices_IndexFunc_Team_impl_FindTeam_1 N) ⟨sd_impl_FindTeam_1 N, trivial⟩ (fn := Tryz.f111) (body := body_slices_IndexFunc_Team_impl_FindTeam_1) (by kernel_rfl) (by kernel_rfl) (by kernel_rfl) (by kernel_rfl) (by kernel_rfl) (Lf := L_slices_IndexFunc_Team_impl_FindTeam_1 N) (L0_slices_IndexFunc_Team_impl_FindTeam_1 N) ls_slices_IndexFunc_Team_impl_FindTeam_1 (round_cons (key := 2) (ks := ks_slices_IndexFunc_Team_impl_FindTeam_1_l2) (by kernel_rfl) (by kernel_rfl) (rd_slices_IndexFunc_Team_impl_FindTeam_1_2 N) trivial) (N := N) (by kernel_rfl) (fn_slices_IndexFunc_Team_impl_FindTeam_1 N) (.inl (by kernel_rfl))
/-! impl_FindTeam -/
noncomputable def h_impl_FindTeam : Hint := { tab, hn := [], loops := [], outs := [], ords := [] }
noncomputable def sg_impl_FindTeam : List AK := [.v (.sl tQIIIIILIE) .k, .v (.int .i64) .k]
noncomputable def F_impl_FindTeam (N : Nat) (x : AVals sg_impl_FindTeam) (kf : Ret → Option Ret) : Option Ret := impl_FindTeam N x.1 x.2.1 (fun r0 => kf ⟨[⟨(.int .i64), .k, r0⟩], []⟩)
noncomputable def run_impl_FindTeam (N : Nat) := runOf sg_impl_FindTeam (F_impl_FindTeam N)
noncomputable def es_impl_FindTeam (N : Nat) : List Entry := [⟨111, [.val, .val], (run_slices_IndexFunc_Team_impl_FindTeam_1 N)⟩]
noncomputable def body_impl_FindTeam : Code := match Tryz.f35.body with | some c => c | none => .skip
noncomputable def L_impl_FindTeam (N n : Nat) (key : Nat) (S : St) (K : Ks) : Option Ret := none
theorem L0_impl_FindTeam (N key : Nat) (S : St) (K : Ks) : L_impl_FindTeam N 0 key S K = none := rfl
theorem ls_impl_FindTeam : loopsIn body_impl_FindTeam = [] := by kernel_rfl
theorem fn_impl_FindTeam (N : Nat) (x : AVals sg_impl_FindTeam) (kf : Ret → Option Ret) : F_impl_FindTeam N x kf = peFunc h_impl_FindTeam (Orc.of (es_impl_FindTeam N)) (L_impl_FindTeam N N) Tryz.f35 (ashape sg_impl_FindTeam x) kf := by kernel_rfl
theorem sd_impl_FindTeam (N : Nat) : Sound Tryz.prog 35 (run_impl_FindTeam N) := fun_ok2 (hh := h_impl_FindTeam) mixed tab_ok (es := es_impl_FindTeam N) ⟨sd_slices_IndexFunc_Team_impl_FindTeam_1 N, trivial⟩ (fn := Tryz.f35) (body := body_impl_FindTeam) (by kernel_rfl) (by kernel_rfl) (by kernel_rfl) (by kernel_rfl) (by kernel_rfl) (Lf := L_impl_FindTeam N) (L0_impl_FindTeam N) ls_impl_FindTeam trivial (N := N) (by kernel_rfl) (fn_impl_FindTeam N) (.inl (by kernel_rfl))
/-! impl_times -/
noncomputable def ks_impl_times_l3 : List Kd := [dK, .v (.int .i64) .k, dK, dK, dK, .v (.int .i64) .k, dK, dK, .v (.sl (.int .i64)) .k, .v (.int .i64) .k, .v (.int .i64) .k, dK, dK, dK, dK, dK, dK, dK, dK, dK, dK]
noncomputable def ko_impl_times_l3_0 : List Kd := [dK, dK, dK, dK, dK, .v (.int .i64) .k, dK, dK, dK, dK, dK, dK, dK, dK, dK, dK, dK, dK, dK, dK, dK]
noncomputable def h_impl_times : Hint := { tab, hn := [], loops := [(3, ks_impl_times_l3)], outs := [(3, 2, ko_impl_times_l3_0)], ords := [] }
noncomputable def sg_impl_times : List AK := [.v (.sl (.int .i64)) .k, .v (.int .i64) .k]
noncomputable def F_impl_times (N : Nat) (x : AVals sg_impl_times) (kf : Ret → Option Ret) : Option Ret := impl_times N x.1 x.2.1 (fun r0 => kf ⟨[⟨(.int .i64), .k, r0⟩], []⟩)
noncomputable def run_impl_times (N : Nat) := runOf sg_impl_times (F_impl_times N)
noncomputable def es_impl_times (N : Nat) : List Entry := []
noncomputable def body_impl_times : Code := match Tryz.f171.body with | some c => c | none => .skip
noncomputable def L_impl_times (N n : Nat) (key : Nat) (S : St) (K : Ks) : Option Ret := bif Nat.beq key 3 then withVals ks_impl_times_l3 S (fun x => impl_times_l3 x.1 x.2.2.1 x.2.2.2.1 n (fun z0 => K (.x 0) (shape ko_impl_times_l3_0 (z0, ()))) x.2.1 x.2.2.2.2.1) else none
theorem L0_impl_times (N key : Nat) (S : St) (K : Ks) : L_impl_times N 0 key S K = none := (bif0 (withVals0 fun _ => rfl) rfl)
noncomputable def c_impl_times_0 : Code := (loopsIn body_impl_times).getD 0 .skip
theorem ls_impl_times : loopsIn body_impl_times = [c_impl_times_0] := by kernel_rfl
theorem rd_impl_times_3 (N n : Nat) (x : Vals ks_impl_times_l3) (K : Ks) : L_impl_times N (n + 1) 3 (shape ks_impl_times_l3 x) (h_impl_times.onOut 3 K) = peRound h_impl_times (Orc.of (es_impl_times N)) (mixL (L_impl_times N) N n 3) c_impl_times_0 (shape ks_impl_times_l3 x) (h_impl_times.onOut 3 K) := by kernel_rfl
theorem fn_impl_times (N : Nat) (x : AVals sg_impl_times) (kf : Ret → Option Ret) : F_impl_times N x kf = peFunc h_impl_times (Orc.of (es_impl_times N)) (L_impl_times N N) Tryz.f171 (ashape sg_impl_times x) kf := by kernel_rfl
theorem sd_impl_times (N : Nat) : Sound Tryz.prog 171 (run_impl_times N) := fun_ok2 (hh := h_impl_times) mixed tab_ok (es := es_impl_times N) trivial (fn := Tryz.f171) (body := body_impl_times) (by kernel_rfl) (by kernel_rfl) (by kernel_rfl) (by kernel_rfl) (by kernel_rfl) (Lf := L_impl_times N) (L0_impl_times N) ls_impl_times (round_cons (key := 3) (ks := ks_impl_times_l3) (by kernel_rfl) (by kernel_rfl) (rd_impl_times_3 N) trivial) (N := N) (by kernel_rfl) (fn_impl_times N) (.inl (by kernel_rfl))
/-! impl_AreTeams -/
noncomputable def ks_impl_AreTeams_l10 : List Kd := [.v (.sl tQIIIIILIE) .k, dK, dK, dK, .v (.ptr tQIIIIILIE) (.o 92 none .k), dK, dK, dK, dK, dK, dK, dK, .v (.sl tQIIIIILIE) .k, .v (.int .i64) .k, .v (.int .i64) .k, dK, dK, dK, dK, dK, dK, dK, dK, dK, dK, dK, dK, dK, dK, dK, dK, dK, dK, dK, dK, dK, dK, dK, dK, dK, dK, dK, dK, dK, dK, dK, dK, dK, dK, dK, dK, dK, dK, dK, dK, dK, dK, dK, dK, dK, dK, dK, dK, dK, dK, dK, dK, dK, dK, dK, dK, dK, .v (.sl (.int .i64)) .k, .v (.int .i64) .k, .v (.int .i64) .k, dK, dK, dK, dK, dK, dK, dK, dK, dK, dK, dK, dK, dK, dK, dK, dK, dK, dK, dK, dK, dK, dK, dK, dK, dK, dK, dK, dK, dK, dK, dK]
noncomputable def ko_impl_AreTeams_l10_0 : List Kd := [.v (.sl tQIIIIILIE) .k, dK, dK, dK, dK, dK, dK, dK, dK, dK, dK, dK, .v (.sl tQIIIIILIE) .k, .v (.int .i64) .k, .v (.int .i64) .k, dK, dK, dK, dK, dK, dK, dK, dK, dK, dK, dK, dK, dK, dK, dK, dK, dK, dK, dK, dK, dK, dK, dK, dK, dK, dK, dK, dK, dK, dK, dK, dK, dK, dK, dK, dK, dK, dK, dK, dK, dK, dK, dK, dK, dK, dK, dK, dK, dK, dK, dK, dK, dK, dK, dK, dK, dK, dK, dK, dK, dK, dK, dK, dK, dK, dK, dK, dK, dK, dK, dK, dK, dK, dK, dK, dK, dK, dK, dK, dK, dK, dK, dK, dK, dK, dK, dK, dK, dK, dK, dK]
noncomputable def ko_impl_AreTeams_l10_1 : List Kd := [dK, dK, .v .bool .k, dK, dK, dK, dK, dK, dK, dK, dK, dK, dK, dK, dK, dK, dK, dK, dK, dK, dK, dK, dK, dK, dK, dK, dK, dK, dK, dK, dK, dK, dK, dK, dK, dK, dK, dK, dK, dK, dK, dK, dK, dK, dK, dK, dK, dK, dK, dK, dK, dK, dK, dK, dK, dK, dK, dK, dK, dK, dK, dK, dK, dK, dK, dK, dK, dK, dK, dK, dK, dK, dK, dK, dK, dK, dK, dK, dK, dK, dK, dK, dK, dK, dK, dK, dK, dK, dK, dK, dK, dK, dK, dK, dK, dK, dK, dK, dK, dK, dK, dK, dK, dK, dK, dK]
noncomputable def ks_impl_AreTeams_l4 : List Kd := [.v (.sl tQIIIIILIE) .k, dK, dK, dK, dK, dK, dK, dK, dK, dK, dK, dK, .v (.sl tQIIIIILIE) .k, .v (.int .i64) .k, .v (.int .i64) .k, dK, dK, dK, dK, dK, dK, dK, dK, dK, dK, dK, dK, dK, dK, dK, dK, dK, dK, dK, dK, dK, dK, dK, dK, dK, dK, dK, dK, dK, dK, dK, dK, dK, dK, dK, dK, dK, dK, dK, dK, dK, dK, dK, dK, dK, dK, dK, dK, dK, dK, dK, dK, dK, dK, dK, dK, dK, dK, dK, dK, dK, dK, dK, dK, dK, dK, dK, dK, dK, dK, dK, dK, dK, dK, dK, dK, dK, dK, dK, dK, dK, dK, dK, dK, dK, dK, dK, dK, dK, dK, dK]
noncomputable def ko_impl_AreTeams_l4_0 : List Kd := [dK, dK, dK, dK, dK, dK, dK, dK, dK, dK, dK, dK, dK, dK, dK, dK, dK, dK, dK, dK, dK, dK, dK, dK, dK, dK, dK, dK, dK, dK, dK, dK, dK, dK, dK, dK, dK, dK, dK, dK, dK, dK, dK, dK, dK, dK, dK, dK, dK, dK, dK, dK, dK, dK, dK, dK, dK, dK, dK, dK, dK, dK, dK, dK, dK, dK, dK, dK, dK, dK, dK, dK, dK, dK, dK, dK, dK, dK, dK, dK, dK, dK, dK, dK, dK, dK, dK, dK, dK, dK, dK, dK, dK, dK, dK, dK, dK, dK, dK, dK, dK, dK, dK, dK, dK, dK]
noncomputable def ko_impl_AreTeams_l4_1 : List Kd := [dK, dK, .v .bool .k, dK, dK, dK, dK, dK, dK, dK, dK, dK, dK, dK, dK, dK, dK, dK, dK, dK, dK, dK, dK, dK, dK, dK, dK, dK, dK, dK, dK, dK, dK, dK, dK, dK, dK, dK, dK, dK, dK, dK, dK, dK, dK, dK, dK, dK, dK, dK, dK, dK, dK, dK, dK, dK, dK, dK, dK, dK, dK, dK, dK, dK, dK, dK, dK, dK, dK, dK, dK, dK, dK, dK, dK, dK, dK, dK, dK, dK, dK, dK, dK, dK, dK, dK, dK, dK, dK, dK, dK, dK, dK, dK, dK, dK, dK, dK, dK, dK, dK, dK, dK, dK, dK, dK]
noncomputable def h_impl_AreTeams : Hint := { tab, hn := [], loops := [(10, ks_impl_AreTeams_l10), (4, ks_impl_AreTeams_l4)], outs := [(10, 4, ko_impl_AreTeams_l10_0), (10, 1, ko_impl_AreTeams_l10_1), (4, 2, ko_impl_AreTeams_l4_0), (4, 1, ko_impl_AreTeams_l4_1)], ords := [(7, (OT.seq [0, 1, 2, 3, 4, 5, 6, 7, 8, 9, 10, 11, 12, 13, 14, 15, 16, 17, 18, 19, 20, 21, 22, 23, 24, 25, 26, 27, 28, 29, 30, 31, 32, 33, 34, 35, 36, 37, 38, 39, 40, 41, 42, 43, 44, 45, 46, 47, 48] .done)), (13, (OT.seq [0, 1, 2, 3, 4, 5, 6, 7, 8, 9, 10, 11, 13, 14, 15, 16, 17, 18, 19, 12, 20, 21, 22] .done))] }
noncomputable def sg_impl_AreTeams : List AK := [.v (.sl tQIIIIILIE) .k]
noncomputable def F_impl_AreTeams (N : Nat) (x : AVals sg_impl_AreTeams) (kf : Ret → Option Ret) : Option Ret := impl_AreTeams N x.1 (fun r0 => kf ⟨[⟨.bool, .k, r0⟩], []⟩)
noncomputable def run_impl_AreTeams (N : Nat) := runOf sg_impl_AreTeams (F_impl_AreTeams N)
noncomputable def es_impl_AreTeams (N : Nat) : List Entry := [⟨109, [.val, .val, .val], (run_impl_InRange N)⟩, ⟨35, [.val, .val], (run_impl_FindTeam N)⟩, ⟨171, [.val, .val], (run_impl_times N)⟩]
noncomputable def body_impl_AreTeams : Code := match Tryz.f104.body with | some c => c | none => .skip
noncomputable def L_impl_AreTeams (N n : Nat) (key : Nat) (S : St) (K : Ks) : Option Ret := bif Nat.beq key 4 then withVals ks_impl_AreTeams_l4 S (fun x => impl_AreTeams_l4 N x.1 x.2.1 x.2.2.1 n (K (.x 0) (shape ko_impl_AreTeams_l4_0 ())) (fun z0 => K .r (shape ko_impl_AreTeams_l4_1 (z0, ()))) x.2.2.2.1) else bif Nat.beq key 10 then withVals ks_impl_AreTeams_l10 S (fun x => impl_AreTeams_l10 N x.1 x.2.1 x.2.2.1 x.2.2.2.1 x.2.2.2.2.1 x.2.2.2.2.2.1 x.2.2.2.2.2.2.1 n (K (.x 2) (shape ko_impl_AreTeams_l10_0 (x.1, x.2.2.1, x.2.2.2.1, x.2.2.2.2.1, ()))) (fun z0 => K .r (shape ko_impl_AreTeams_l10_1 (z0, ()))) x.2.2.2.2.2.2.2.1) else none
theorem L0_impl_AreTeams (N key : Nat) (S : St) (K : Ks) : L_impl_AreTeams N 0 key S K = none := (bif0 (withVals0 fun _ => rfl) (bif0 (withVals0 fun _ => rfl) rfl))
noncomputable def c_impl_AreTeams_0 : Code := (loopsIn body_impl_AreTeams).getD 0 .skip
noncomputable def c_impl_AreTeams_1 : Code := (loopsIn body_impl_AreTeams).getD 1 .skip
theorem ls_impl_AreTeams : loopsIn body_impl_AreTeams = [c_impl_AreTeams_0, c_impl_AreTeams_1] := by kernel_rfl
theorem rd_impl_AreTeams_10 (N n : Nat) (x : Vals ks_impl_AreTeams_l10) (K : Ks) : L_impl_AreTeams N (n + 1) 10 (shape ks_impl_AreTeams_l10 x) (h_impl_AreTeams.onOut 10 K) = peRound h_impl_AreTeams (Orc.of (es_impl_AreTeams N)) (mixL (L_impl_AreTeams N) N n 10) c_impl_AreTeams_1 (shape ks_impl_AreTeams_l10 x) (h_impl_AreTeams.onOut 10 K) := by kernel_rfl
theorem rd_impl_AreTeams_4 (N n : Nat) (x : Vals ks_impl_AreTeams_l4) (K : Ks) : L_impl_AreTeams N (n + 1) 4 (shape ks_impl_AreTeams_l4 x) (h_impl_AreTeams.onOut 4 K) = peRound h_impl_AreTeams (Orc.of (es_impl_AreTeams N)) (mixL (L_impl_AreTeams N) N n 4) c_impl_AreTeams_0 (shape ks_impl_AreTeams_l4 x) (h_impl_AreTeams.onOut 4 K) := by kernel_rfl
theorem fn_impl_AreTeams (N : Nat) (x : AVals sg_impl_AreTeams) (kf : Ret → Option Ret) : F_impl_AreTeams N x kf = peFunc h_impl_AreTeams (Orc.of (es_impl_AreTeams N)) (L_impl_AreTeams N N) Tryz.f104 (ashape sg_impl_AreTeams x) kf := by kernel_rfl
theorem sd_impl_AreTeams (N : Nat) : Sound Tryz.prog 104 (run_impl_AreTeams N) := fun_ok2 (hh := h_impl_AreTeams) mixed tab_ok (es := es_impl_AreTeams N) ⟨sd_impl_InRange N, ⟨sd_impl_FindTeam N, ⟨sd_impl_times N, trivial⟩⟩⟩ (fn := Tryz.f104) (body := body_impl_AreTeams) (by kernel_rfl) (by kernel_rfl) (by kernel_rfl) (by kernel_rfl) (by kernel_rfl) (Lf := L_impl_AreTeams N) (L0_impl_AreTeams N) ls_impl_AreTeams (round_cons (key := 4) (ks := ks_impl_AreTeams_l4) (by kernel_rfl) (by kernel_rfl) (rd_impl_AreTeams_4 N) (round_cons (key := 10) (ks := ks_impl_AreTeams_l10) (by kernel_rfl) (by kernel_rfl) (rd_impl_AreTeams_10 N) trivial)) (N := N) (by kernel_rfl) (fn_impl_AreTeams N) (.inl (by kernel_rfl))
/-! impl_AreJudges -/
noncomputable def ks_impl_AreJudges_l9 : List Kd := [.v (.sl tQIILIE) .k, dK, dK, dK, .v (.ptr tQIILIE) (.o 97 none .k), dK, dK, dK, dK, dK, .v (.sl tQIILIE) .k, .v (.int .i64) .k, .v (.int .i64) .k, dK, dK, dK, dK, dK, dK, dK, dK, dK, dK, dK, dK, dK, dK, dK, dK, dK, dK, dK, dK, dK, dK, dK, dK, dK, dK, dK, dK, dK, dK, .v (.sl (.int .i64)) .k, .v (.int .i64) .k, .v (.int .i64) .k, dK, dK, dK, dK, dK, dK, dK, dK, dK, dK, dK, dK, dK, dK, dK, dK, dK, dK, dK, dK, dK, dK, dK]
noncomputable def ko_impl_AreJudges_l9_0 : List Kd := [.v (.sl tQIILIE) .k, dK, dK, dK, dK, dK, dK, dK, dK, dK, .v (.sl tQIILIE) .k, .v (.int .i64) .k, .v (.int .i64) .k, dK, dK, dK, dK, dK, dK, dK, dK, dK, dK, dK, dK, dK, dK, dK, dK, dK, dK, dK, dK, dK, dK, dK, dK, dK, dK, dK, dK, dK, dK, dK, dK, dK, dK, dK, dK, dK, dK, dK, dK, dK, dK, dK, dK, dK, dK, dK, dK, dK, dK, dK, dK, dK, dK, dK, dK]
noncomputable def ko_impl_AreJudges_l9_1 : List Kd := [dK, dK, .v .bool .k, dK, dK, dK, dK, dK, dK, dK, dK, dK, dK, dK, dK, dK, dK, dK, dK, dK, dK, dK, dK, dK, dK, dK, dK, dK, dK, dK, dK, dK, dK, dK, dK, dK, dK, dK, dK, dK, dK, dK, dK, dK, dK, dK, dK, dK, dK, dK, dK, dK, dK, dK, dK, dK, dK, dK, dK, dK, dK, dK, dK, dK, dK, dK, dK, dK, dK]
noncomputable def ks_impl_AreJudges_l4 : List Kd := [.v (.sl tQIILIE) .k, dK, dK, dK, dK, dK, dK, dK, dK, dK, .v (.sl tQIILIE) .k, .v (.int .i64) .k, .v (.int .i64) .k, dK, dK, dK, dK, dK, dK, dK, dK, dK, dK, dK, dK, dK, dK, dK, dK, dK, dK, dK, dK, dK, dK, dK, dK, dK, dK, dK, dK, dK, dK, dK, dK, dK, dK, dK, dK, dK, dK, dK, dK, dK, dK, dK, dK, dK, dK, dK, dK, dK, dK, dK, dK, dK, dK, dK, dK]
noncomputable def ko_impl_AreJudges_l4_0 : List Kd := [dK, dK, dK, dK, dK, dK, dK, dK, dK, dK, dK, dK, dK, dK, dK, dK, dK, dK, dK, dK, dK, dK, dK, dK, dK, dK, dK, dK, dK, dK, dK, dK, dK, dK, dK, dK, dK, dK, dK, dK, dK, dK, dK, dK, dK, dK, dK, dK, dK, dK, dK, dK, dK, dK, dK, dK, dK, dK, dK, dK, dK, dK, dK, dK, dK, dK, dK, dK, dK]
noncomputable def ko_impl_AreJudges_l4_1 : List Kd := [dK, dK, .v .bool .k, dK, dK, dK, dK, dK, dK, dK, dK, dK, dK, dK, dK, dK, dK, dK, dK, dK, dK, dK, dK, dK, dK, dK, dK, dK, dK, dK, dK, dK, dK, dK, dK, dK, dK, dK, dK, dK, dK, dK, dK, dK, dK, dK, dK, dK, dK, dK, dK, dK, dK, dK, dK, dK, dK, dK, dK, dK, dK, dK, dK, dK, dK, dK, dK, dK, dK]
noncomputable def h_impl_AreJudges : Hint := { tab, hn := [], loops := [(9, ks_impl_AreJudges_l9), (4, ks_impl_AreJudges_l4)], outs := [(9, 4, ko_impl_AreJudges_l9_0), (9, 1, ko_impl_AreJudges_l9_1), (4, 2, ko_impl_AreJudges_l4_0), (4, 1, ko_impl_AreJudges_l4_1)], ords := [(6, (OT.seq [0, 1, 2, 3, 4, 5, 6, 7, 8, 9, 10, 11, 12, 13, 14, 15, 16, 17, 18, 19, 20, 21, 22, 23, 24] .done))] }
noncomputable def sg_impl_AreJudges : List AK := [.v (.sl tQIILIE) .k]
noncomputable def F_impl_AreJudges (N : Nat) (x : AVals sg_impl_AreJudges) (kf : Ret → Option Ret) : Option Ret := impl_AreJudges N x.1 (fun r0 => kf ⟨[⟨.bool, .k, r0⟩], []⟩)
noncomputable def run_impl_AreJudges (N : Nat) := runOf sg_impl_AreJudges (F_impl_AreJudges N)
noncomputable def es_impl_AreJudges (N : Nat) : List Entry := [⟨109, [.val, .val, .val], (run_impl_InRange N)⟩]
noncomputable def body_impl_AreJudges : Code := match Tryz.f105.body with | some c => c | none => .skip
noncomputable def L_impl_AreJudges (N n : Nat) (key : Nat) (S : St) (K : Ks) : Option Ret := bif Nat.beq key 4 then withVals ks_impl_AreJudges_l4 S (fun x => impl_AreJudges_l4 N x.1 x.2.1 x.2.2.1 n (K (.x 0) (shape ko_impl_AreJudges_l4_0 ())) (fun z0 => K .r (shape ko_impl_AreJudges_l4_1 (z0, ()))) x.2.2.2.1) else bif Nat.beq key 9 then withVals ks_impl_AreJudges_l9 S (fun x => impl_AreJudges_l9 N x.1 x.2.1 x.2.2.1 x.2.2.2.1 x.2.2.2.2.1 x.2.2.2.2.2.1 x.2.2.2.2.2.2.1 n (K (.x 2) (shape ko_impl_AreJudges_l9_0 (x.1, x.2.2.1, x.2.2.2.1, x.2.2.2.2.1, ()))) (fun z0 => K .r (shape ko_impl_AreJudges_l9_1 (z0, ()))) x.2.2.2.2.2.2.2.1) else none
theorem L0_impl_AreJudges (N key : Nat) (S : St) (K : Ks) : L_impl_AreJudges N 0 key S K = none := (bif0 (withVals0 fun _ => rfl) (bif0 (withVals0 fun _ => rfl) rfl))
noncomputable def c_impl_AreJudges_0 : Code := (loopsIn body_impl_AreJudges).getD 0 .skip
noncomputable def c_impl_AreJudges_1 : Code := (loopsIn body_impl_AreJudges).getD 1 .skip
theorem ls_impl_AreJudges : loopsIn body_impl_AreJudges = [c_impl_AreJudges_0, c_impl_AreJudges_1] := by kernel_rfl
theorem rd_impl_AreJudges_9 (N n : Nat) (x : Vals ks_impl_AreJudges_l9) (K : Ks) : L_impl_AreJudges N (n + 1) 9 (shape ks_impl_AreJudges_l9 x) (h_impl_AreJudges.onOut 9 K) = peRound h_impl_AreJudges (Orc.of (es_impl_AreJudges N)) (mixL (L_impl_AreJudges N) N n 9) c_impl_AreJudges_1 (shape ks_impl_AreJudges_l9 x) (h_impl_AreJudges.onOut 9 K) := by kernel_rfl
theorem rd_impl_AreJudges_4 (N n : Nat) (x : Vals ks_impl_AreJudges_l4) (K : Ks) : L_impl_AreJudges N (n + 1) 4 (shape ks_impl_AreJudges_l4 x) (h_impl_AreJudges.onOut 4 K) = peRound h_impl_AreJudges (Orc.of (es_impl_AreJudges N)) (mixL (L_impl_AreJudges N) N n 4) c_impl_AreJudges_0 (shape ks_impl_AreJudges_l4 x) (h_impl_AreJudges.onOut 4 K) := by kernel_rfl
theorem fn_impl_AreJudges (N : Nat) (x : AVals sg_impl_AreJudges) (kf : Ret → Option Ret) : F_impl_AreJudges N x kf = peFunc h_impl_AreJudges (Orc.of (es_impl_AreJudges N)) (L_impl_AreJudges N N) Tryz.f105 (ashape sg_impl_AreJudges x) kf := by kernel_rfl
theorem sd_impl_AreJudges (N : Nat) : Sound Tryz.prog 105 (run_impl_AreJudges N) := fun_ok2 (hh := h_impl_AreJudges) mixed tab_ok (es := es_impl_AreJudges N) ⟨sd_impl_InRange N, trivial⟩ (fn := Tryz.f105) (body := body_impl_AreJudges) (by kernel_rfl) (by kernel_rfl) (by kernel_rfl) (by kernel_rfl) (by kernel_rfl) (Lf := L_impl_AreJudges N) (L0_impl_AreJudges N) ls_impl_AreJudges (round_cons (key := 4) (ks := ks_impl_AreJudges_l4) (by kernel_rfl) (by kernel_rfl) (rd_impl_AreJudges_4 N) (round_cons (key := 9) (ks := ks_impl_AreJudges_l9) (by kernel_rfl) (by kernel_rfl) (rd_impl_AreJudges_9 N) trivial)) (N := N) (by kernel_rfl) (fn_impl_AreJudges N) (.inl (by kernel_rfl))
/-! impl_Mod -/
noncomputable def h_impl_Mod : Hint := { tab, hn := [], loops := [], outs := [], ords := [] }
noncomputable def sg_impl_Mod : List AK := [.v (.int .i64) .k, .v (.int .i64) .k]
noncomputable def F_impl_Mod (N : Nat) (x : AVals sg_impl_Mod) (kf : Ret → Option Ret) : Option Ret := impl_Mod N x.1 x.2.1 (fun r0 => kf ⟨[⟨(.int .i64), .k, r0⟩], []⟩)
noncomputable def run_impl_Mod (N : Nat) := runOf sg_impl_Mod (F_impl_Mod N)
noncomputable def es_impl_Mod (N : Nat) : List Entry := [⟨109, [.val, .val, .val], (run_impl_InRange N)⟩]
noncomputable def body_impl_Mod : Code := match Tryz.f232.body with | some c => c | none => .skip
noncomputable def L_impl_Mod (N n : Nat) (key : Nat) (S : St) (K : Ks) : Option Ret := none
theorem L0_impl_Mod (N key : Nat) (S : St) (K : Ks) : L_impl_Mod N 0 key S K = none := rfl
theorem ls_impl_Mod : loopsIn body_impl_Mod = [] := by kernel_rfl
theorem fn_impl_Mod (N : Nat) (x : AVals sg_impl_Mod) (kf : Ret → Option Ret) : F_impl_Mod N x kf = peFunc h_impl_Mod (Orc.of (es_impl_Mod N)) (L_impl_Mod N N) Tryz.f232 (ashape sg_impl_Mod x) kf := by kernel_rfl
theorem sd_impl_Mod (N : Nat) : Sound Tryz.prog 232 (run_impl_Mod N) := fun_ok2 (hh := h_impl_Mod) mixed tab_ok (es := es_impl_Mod N) ⟨sd_impl_InRange N, trivial⟩ (fn := Tryz.f232) (body := body_impl_Mod) (by kernel_rfl) (by kernel_rfl) (by kernel_rfl) (by kernel_rfl) (by kernel_rfl) (Lf := L_impl_Mod N) (L0_impl_Mod N) ls_impl_Mod trivial (N := N) (by kernel_rfl) (fn_impl_Mod N) (.inl (by kernel_rfl))
/-! impl_fold -/
noncomputable def h_impl_fold : Hint := { tab, hn := [], loops := [], outs := [], ords := [] }
noncomputable def sg_impl_fold : List AK := [.v (.int .i64) .k, .v (.int .i64) .k]
noncomputable def F_impl_fold (N : Nat) (x : AVals sg_impl_fold) (kf : Ret → Option Ret) : Option Ret := impl_fold N x.1 x.2.1 (fun r0 => kf ⟨[⟨(.int .i64), .k, r0⟩], []⟩)
noncomputable def run_impl_fold (N : Nat) := runOf sg_impl_fold (F_impl_fold N)
noncomputable def es_impl_fold (N : Nat) : List Entry := [⟨232, [.val, .val], (run_impl_Mod N)⟩]
noncomputable def body_impl_fold : Code := match Tryz.f221.body with | some c => c | none => .skip
noncomputable def L_impl_fold (N n : Nat) (key : Nat) (S : St) (K : Ks) : Option Ret := none
theorem L0_impl_fold (N key : Nat) (S : St) (K : Ks) : L_impl_fold N 0 key S K = none := rfl
theorem ls_impl_fold : loopsIn body_impl_fold = [] := by kernel_rfl
theorem fn_impl_fold (N : Nat) (x : AVals sg_impl_fold) (kf : Ret → Option Ret) : F_impl_fold N x kf = peFunc h_impl_fold (Orc.of (es_impl_fold N)) (L_impl_fold N N) Tryz.f221 (ashape sg_impl_fold x) kf := by kernel_rfl
theorem sd_impl_fold (N : Nat) : Sound Tryz.prog 221 (run_impl_fold N) := fun_ok2 (hh := h_impl_fold) mixed tab_ok (es := es_impl_fold N) ⟨sd_impl_Mod N, trivial⟩ (fn := Tryz.f221) (body := body_impl_fold) (by kernel_rfl) (by kernel_rfl) (by kernel_rfl) (by kernel_rfl) (by kernel_rfl) (Lf := L_impl_fold N) (L0_impl_fold N) ls_impl_fold trivial (N := N) (by kernel_rfl) (fn_impl_fold N) (.inl (by kernel_rfl))
/-! impl_Hash -/
noncomputable def ks_impl_Hash_l3 : List Kd := [dK, dK, dK, .v (.int .i64) .k, dK, dK, .v (.sl (.int .i64)) .k, .v (.int .i64) .k, .v (.int .i64) .k, dK, dK, dK, dK, dK, dK, dK, dK]
noncomputable def ko_impl_Hash_l3_0 : List Kd := [dK, dK, dK, .v (.int .i64) .k, dK, dK, dK, dK, dK, dK, dK, dK, dK, dK, dK, dK, dK]
noncomputable def h_impl_Hash : Hint := { tab, hn := [], loops := [(3, ks_impl_Hash_l3)], outs := [(3, 2, ko_impl_Hash_l3_0)], ords := [] }
noncomputable def sg_impl_Hash : List AK := [.v (.sl (.int .i64)) .k]
noncomputable def F_impl_Hash (N : Nat) (x : AVals sg_impl_Hash) (kf : Ret → Option Ret) : Option Ret := impl_Hash N x.1 (fun r0 => kf ⟨[⟨(.int .i64), .k, r0⟩], []⟩)
noncomputable def run_impl_Hash (N : Nat) := runOf sg_impl_Hash (F_impl_Hash N)
noncomputable def es_impl_Hash (N : Nat) : List Entry := [⟨221, [.val, .val], (run_impl_fold N)⟩]
noncomputable def body_impl_Hash : Code := match Tryz.f206.body with | some c => c | none => .skip
noncomputable def L_impl_Hash (N n : Nat) (key : Nat) (S : St) (K : Ks) : Option Ret := bif Nat.beq key 3 then withVals ks_impl_Hash_l3 S (fun x => impl_Hash_l3 N x.2.1 x.2.2.1 n (fun z0 => K (.x 0) (shape ko_impl_Hash_l3_0 (z0, ()))) x.1 x.2.2.2.1) else none
theorem L0_impl_Hash (N key : Nat) (S : St) (K : Ks) : L_impl_Hash N 0 key S K = none := (bif0 (withVals0 fun _ => rfl) rfl)
noncomputable def c_impl_Hash_0 : Code := (loopsIn body_impl_Hash).getD 0 .skip
theorem ls_impl_Hash : loopsIn body_impl_Hash = [c_impl_Hash_0] := by kernel_rfl
theorem rd_impl_Hash_3 (N n : Nat) (x : Vals ks_impl_Hash_l3) (K : Ks) : L_impl_Hash N (n + 1) 3 (shape ks_impl_Hash_l3 x) (h_impl_Hash.onOut 3 K) = peRound h_impl_Hash (Orc.of (es_impl_Hash N)) (mixL (L_impl_Hash N) N n 3) c_impl_Hash_0 (shape ks_impl_Hash_l3 x) (h_impl_Hash.onOut 3 K) := by kernel_rfl
theorem fn_impl_Hash (N : Nat) (x : AVals sg_impl_Hash) (kf : Ret → Option Ret) : F_impl_Hash N x kf = peFunc h_impl_Hash (Orc.of (es_impl_Hash N)) (L_impl_Hash N N) Tryz.f206 (ashape sg_impl_Hash x) kf := by kernel_rfl
theorem sd_impl_Hash (N : Nat) : Sound Tryz.prog 206 (run_impl_Hash N) := fun_ok2 (hh := h_impl_Hash) mixed tab_ok (es := es_impl_Hash N) ⟨sd_impl_fold N, trivial⟩ (fn := Tryz.f206) (body := body_impl_Hash) (by kernel_rfl) (by kernel_rfl) (by kernel_rfl) (by kernel_rfl) (by kernel_rfl) (Lf := L_impl_Hash N) (L0_impl_Hash N) ls_impl_Hash (round_cons (key := 3) (ks := ks_impl_Hash_l3) (by kernel_rfl) (by kernel_rfl) (rd_impl_Hash_3 N) trivial) (N := N) (by kernel_rfl) (fn_impl_Hash N) (.inl (by kernel_rfl))
/-! impl_lineSeal -/
noncomputable def h_impl_lineSeal : Hint := { tab, hn := [], loops := [], outs := [], ords := [] }
noncomputable def sg_impl_lineSeal : List AK := [.v (.int .i64) .k, .v tQIIIIE .k]
noncomputable def F_impl_lineSeal (N : Nat) (x : AVals sg_impl_lineSeal) (kf : Ret → Option Ret) : Option Ret := impl_lineSeal N x.1 x.2.1 (fun r0 => kf ⟨[⟨(.int .i64), .k, r0⟩], []⟩)
noncomputable def run_impl_lineSeal (N : Nat) := runOf sg_impl_lineSeal (F_impl_lineSeal N)
noncomputable def es_impl_lineSeal (N : Nat) : List Entry := [⟨206, [.val], (run_impl_Hash N)⟩]
noncomputable def body_impl_lineSeal : Code := match Tryz.f172.body with | some c => c | none => .skip
noncomputable def L_impl_lineSeal (N n : Nat) (key : Nat) (S : St) (K : Ks) : Option Ret := none
theorem L0_impl_lineSeal (N key : Nat) (S : St) (K : Ks) : L_impl_lineSeal N 0 key S K = none := rfl
theorem ls_impl_lineSeal : loopsIn body_impl_lineSeal = [] := by kernel_rfl
theorem fn_impl_lineSeal (N : Nat) (x : AVals sg_impl_lineSeal) (kf : Ret → Option Ret) : F_impl_lineSeal N x kf = peFunc h_impl_lineSeal (Orc.of (es_impl_lineSeal N)) (L_impl_lineSeal N N) Tryz.f172 (ashape sg_impl_lineSeal x) kf := by kernel_rfl
theorem sd_impl_lineSeal (N : Nat) : Sound Tryz.prog 172 (run_impl_lineSeal N) := fun_ok2 (hh := h_impl_lineSeal) mixed tab_ok (es := es_impl_lineSeal N) ⟨sd_impl_Hash N, trivial⟩ (fn := Tryz.f172) (body := body_impl_lineSeal) (by kernel_rfl) (by kernel_rfl) (by kernel_rfl) (by kernel_rfl) (by kernel_rfl) (Lf := L_impl_lineSeal N) (L0_impl_lineSeal N) ls_impl_lineSeal trivial (N := N) (by kernel_rfl) (fn_impl_lineSeal N) (.inl (by kernel_rfl))
/-! impl_AreMinutes -/
noncomputable def ks_impl_AreMinutes_l5 : List Kd := [dK, dK, dK, .v (.int .i64) .k, dK, dK, dK, dK, dK, .v (.sl tQIIIIE) .k, .v (.int .i64) .k, .v (.int .i64) .k, dK, dK, dK, dK, dK, dK, dK, dK, dK, dK, dK, dK, dK, dK, dK, dK, dK, dK, dK, dK, dK, dK, dK, dK, dK, dK, dK, dK, dK, dK, dK, dK]
noncomputable def ko_impl_AreMinutes_l5_0 : List Kd := [dK, dK, dK, dK, dK, dK, dK, dK, dK, dK, dK, dK, dK, dK, dK, dK, dK, dK, dK, dK, dK, dK, dK, dK, dK, dK, dK, dK, dK, dK, dK, dK, dK, dK, dK, dK, dK, dK, dK, dK, dK, dK, dK, dK]
noncomputable def ko_impl_AreMinutes_l5_1 : List Kd := [dK, dK, .v .bool .k, dK, dK, dK, dK, dK, dK, dK, dK, dK, dK, dK, dK, dK, dK, dK, dK, dK, dK, dK, dK, dK, dK, dK, dK, dK, dK, dK, dK, dK, dK, dK, dK, dK, dK, dK, dK, dK, dK, dK, dK, dK]
noncomputable def h_impl_AreMinutes : Hint := { tab, hn := [], loops := [(5, ks_impl_AreMinutes_l5)], outs := [(5, 2, ko_impl_AreMinutes_l5_0), (5, 1, ko_impl_AreMinutes_l5_1)], ords := [(7, (OT.seq [0, 1, 2, 3, 4, 5, 6, 7, 8, 9, 10, 11, 12, 13, 14, 15, 16, 17, 18, 19, 20, 21, 22, 23, 24] .done))] }
noncomputable def sg_impl_AreMinutes : List AK := [.v (.sl tQIIIIE) .k]
noncomputable def F_impl_AreMinutes (N : Nat) (x : AVals sg_impl_AreMinutes) (kf : Ret → Option Ret) : Option Ret := impl_AreMinutes N x.1 (fun r0 => kf ⟨[⟨.bool, .k, r0⟩], []⟩)
noncomputable def run_impl_AreMinutes (N : Nat) := runOf sg_impl_AreMinutes (F_impl_AreMinutes N)
noncomputable def es_impl_AreMinutes (N : Nat) : List Entry := [⟨109, [.val, .val, .val], (run_impl_InRange N)⟩, ⟨172, [.val, .val], (run_impl_lineSeal N)⟩]
noncomputable def body_impl_AreMinutes : Code := match Tryz.f106.body with | some c => c | none => .skip
noncomputable def L_impl_AreMinutes (N n : Nat) (key : Nat) (S : St) (K : Ks) : Option Ret := bif Nat.beq key 5 then withVals ks_impl_AreMinutes_l5 S (fun x => impl_AreMinutes_l5 N x.2.1 x.2.2.1 n (K (.x 0) (shape ko_impl_AreMinutes_l5_0 ())) (fun z0 => K .r (shape ko_impl_AreMinutes_l5_1 (z0, ()))) x.1 x.2.2.2.1) else none
theorem L0_impl_AreMinutes (N key : Nat) (S : St) (K : Ks) : L_impl_AreMinutes N 0 key S K = none := (bif0 (withVals0 fun _ => rfl) rfl)
noncomputable def c_impl_AreMinutes_0 : Code := (loopsIn body_impl_AreMinutes).getD 0 .skip
theorem ls_impl_AreMinutes : loopsIn body_impl_AreMinutes = [c_impl_AreMinutes_0] := by kernel_rfl
theorem rd_impl_AreMinutes_5 (N n : Nat) (x : Vals ks_impl_AreMinutes_l5) (K : Ks) : L_impl_AreMinutes N (n + 1) 5 (shape ks_impl_AreMinutes_l5 x) (h_impl_AreMinutes.onOut 5 K) = peRound h_impl_AreMinutes (Orc.of (es_impl_AreMinutes N)) (mixL (L_impl_AreMinutes N) N n 5) c_impl_AreMinutes_0 (shape ks_impl_AreMinutes_l5 x) (h_impl_AreMinutes.onOut 5 K) := by kernel_rfl
theorem fn_impl_AreMinutes (N : Nat) (x : AVals sg_impl_AreMinutes) (kf : Ret → Option Ret) : F_impl_AreMinutes N x kf = peFunc h_impl_AreMinutes (Orc.of (es_impl_AreMinutes N)) (L_impl_AreMinutes N N) Tryz.f106 (ashape sg_impl_AreMinutes x) kf := by kernel_rfl
theorem sd_impl_AreMinutes (N : Nat) : Sound Tryz.prog 106 (run_impl_AreMinutes N) := fun_ok2 (hh := h_impl_AreMinutes) mixed tab_ok (es := es_impl_AreMinutes N) ⟨sd_impl_InRange N, ⟨sd_impl_lineSeal N, trivial⟩⟩ (fn := Tryz.f106) (body := body_impl_AreMinutes) (by kernel_rfl) (by kernel_rfl) (by kernel_rfl) (by kernel_rfl) (by kernel_rfl) (Lf := L_impl_AreMinutes N) (L0_impl_AreMinutes N) ls_impl_AreMinutes (round_cons (key := 5) (ks := ks_impl_AreMinutes_l5) (by kernel_rfl) (by kernel_rfl) (rd_impl_AreMinutes_5 N) trivial) (N := N) (by kernel_rfl) (fn_impl_AreMinutes N) (.inl (by kernel_rfl))
/-! impl_IsRunning -/
noncomputable def h_impl_IsRunning : Hint := { tab, hn := [], loops := [], outs := [], ords := [] }
noncomputable def sg_impl_IsRunning : List AK := [.v tQLQIIIIILIELQIILIELQIIELILQIIIELQIIIIEIE .k]
noncomputable def F_impl_IsRunning (N : Nat) (x : AVals sg_impl_IsRunning) (kf : Ret → Option Ret) : Option Ret := impl_IsRunning N x.1 (fun r0 => kf ⟨[⟨.bool, .k, r0⟩], []⟩)
noncomputable def run_impl_IsRunning (N : Nat) := runOf sg_impl_IsRunning (F_impl_IsRunning N)
noncomputable def es_impl_IsRunning (N : Nat) : List Entry := []
noncomputable def body_impl_IsRunning : Code := match Tryz.f37.body with | some c => c | none => .skip
noncomputable def L_impl_IsRunning (N n : Nat) (key : Nat) (S : St) (K : Ks) : Option Ret := none
theorem L0_impl_IsRunning (N key : Nat) (S : St) (K : Ks) : L_impl_IsRunning N 0 key S K = none := rfl
theorem ls_impl_IsRunning : loopsIn body_impl_IsRunning = [] := by kernel_rfl
theorem fn_impl_IsRunning (N : Nat) (x : AVals sg_impl_IsRunning) (kf : Ret → Option Ret) : F_impl_IsRunning N x kf = peFunc h_impl_IsRunning (Orc.of (es_impl_IsRunning N)) (L_impl_IsRunning N N) Tryz.f37 (ashape sg_impl_IsRunning x) kf := by kernel_rfl
theorem sd_impl_IsRunning (N : Nat) : Sound Tryz.prog 37 (run_impl_IsRunning N) := fun_ok2 (hh := h_impl_IsRunning) mixed tab_ok (es := es_impl_IsRunning N) trivial (fn := Tryz.f37) (body := body_impl_IsRunning) (by kernel_rfl) (by kernel_rfl) (by kernel_rfl) (by kernel_rfl) (by kernel_rfl) (Lf := L_impl_IsRunning N) (L0_impl_IsRunning N) ls_impl_IsRunning trivial (N := N) (by kernel_rfl) (fn_impl_IsRunning N) (.inl (by kernel_rfl))
/-! slices_Index_int -/
noncomputable def ks_slices_Index_int_l2 : List Kd := [.v (.sl (.int .i64)) .k, .v (.int .i64) .k, dK, dK, dK, dK, dK, .v (.int .i64) .k, .v (.int .i64) .k, dK, dK, dK, dK, dK, dK, dK, dK, dK, dK]
noncomputable def ko_slices_Index_int_l2_0 : List Kd := [dK, dK, dK, dK, dK, dK, dK, dK, dK, dK, dK, dK, dK, dK, dK, dK, dK, dK, dK]
noncomputable def ko_slices_Index_int_l2_1 : List Kd := [dK, dK, dK, dK, .v (.int .i64) .k, dK, dK, dK, dK, dK, dK, dK, dK, dK, dK, dK, dK, dK, dK]
noncomputable def h_slices_Index_int : Hint := { tab, hn := [], loops := [(2, ks_slices_Index_int_l2)], outs := [(2, 2, ko_slices_Index_int_l2_0), (2, 1, ko_slices_Index_int_l2_1)], ords := [] }
noncomputable def sg_slices_Index_int : List AK := [.v (.sl (.int .i64)) .k, .v (.int .i64) .k]
noncomputable def F_slices_Index_int (N : Nat) (x : AVals sg_slices_Index_int) (kf : Ret → Option Ret) : Option Ret := slices_Index_int N x.1 x.2.1 (fun r0 => kf ⟨[⟨(.int .i64), .k, r0⟩], []⟩)
noncomputable def run_slices_Index_int (N : Nat) := runOf sg_slices_Index_int (F_slices_Index_int N)
noncomputable def es_slices_Index_int (N : Nat) : List Entry := []
noncomputable def body_slices_Index_int : Code := match Tryz.f208.body with | some c => c | none => .skip
noncomputable def L_slices_Index_int (N n : Nat) (key : Nat) (S : St) (K : Ks) : Option Ret := bif Nat.beq key 2 then withVals ks_slices_Index_int_l2 S (fun x => slices_Index_int_l2 x.1 x.2.1 x.2.2.1 n (K (.x 0) (shape ko_slices_Index_int_l2_0 ())) (fun z0 => K .r (shape ko_slices_Index_int_l2_1 (z0, ()))) x.2.2.2.1) else none
theorem L0_slices_Index_int (N key : Nat) (S : St) (K : Ks) : L_slices_Index_int N 0 key S K = none := (bif0 (withVals0 fun _ => rfl) rfl)
noncomputable def c_slices_Index_int_0 : Code := (loopsIn body_slices_Index_int).getD 0 .skip
theorem ls_slices_Index_int : loopsIn body_slices_Index_int = [c_slices_Index_int_0] := by kernel_rfl
theorem rd_slices_Index_int_2 (N n : Nat) (x : Vals ks_slices_Index_int_l2) (K : Ks) : L_slices_Index_int N (n + 1) 2 (shape ks_slices_Index_int_l2 x) (h_slices_Index_int.onOut 2 K) = peRound h_slices_Index_int (Orc.of (es_slices_Index_int N)) (mixL (L_slices_Index_int N) N n 2) c_slices_Index_int_0 (shape ks_slices_Index_int_l2 x) (h_slices_Index_int.onOut 2 K) := by kernel_rfl
theorem fn_slices_Index_int (N : Nat) (x : AVals sg_slices_Index_int) (kf : Ret → Option Ret) : F_slices_Index_int N x kf = peFunc h_slices_Index_int (Orc.of (es_slices_Index_int N)) (L_slices_Index_int N N) Tryz.f208 (ashape sg_slices_Index_int x) kf := by kernel_rfl
theorem sd_slices_Index_int (N : Nat) : Sound Tryz.prog 208 (run_slices_Index_int N) := fun_ok2 (hh := h_slices_Index_int) mixed tab_ok (es := es_slices_Index_int N) trivial (fn := Tryz.f208) (body := body_slices_Index_int) (by kernel_rfl) (by kernel_rfl) (by kernel_rfl) (by kernel_rfl) (by kernel_rfl) (Lf := L_slices_Index_int N) (L0_slices_Index_int N) ls_slices_Index_int (round_cons (key := 2) (ks := ks_slices_Index_int_l2) (by kernel_rfl) (by kernel_rfl) (rd_slices_Index_int_2 N) trivial) (N := N) (by kernel_rfl) (fn_slices_Index_int N) (.inl (by kernel_rfl))
/-! slices_Contains_int -/
noncomputable def h_slices_Contains_int : Hint := { tab, hn := [], loops := [], outs := [], ords := [] }
noncomputable def sg_slices_Contains_int : List AK := [.v (.sl (.int .i64)) .k, .v (.int .i64) .k]
noncomputable def F_slices_Contains_int (N : Nat) (x : AVals sg_slices_Contains_int) (kf : Ret → Option Ret) : Option Ret := slices_Contains_int N x.1 x.2.1 (fun r0 => kf ⟨[⟨.bool, .k, r0⟩], []⟩)
noncomputable def run_slices_Contains_int (N : Nat) := runOf sg_slices_Contains_int (F_slices_Contains_int N)
noncomputable def es_slices_Contains_int (N : Nat) : List Entry := [⟨208, [.val, .val], (run_slices_Index_int N)⟩]
noncomputable def body_slices_Contains_int : Code := match Tryz.f175.body with | some c => c | none => .skip
noncomputable def L_slices_Contains_int (N n : Nat) (key : Nat) (S : St) (K : Ks) : Option Ret := none
theorem L0_slices_Contains_int (N key : Nat) (S : St) (K : Ks) : L_slices_Contains_int N 0 key S K = none := rfl
theorem ls_slices_Contains_int : loopsIn body_slices_Contains_int = [] := by kernel_rfl
theorem fn_slices_Contains_int (N : Nat) (x : AVals sg_slices_Contains_int) (kf : Ret → Option Ret) : F_slices_Contains_int N x kf = peFunc h_slices_Contains_int (Orc.of (es_slices_Contains_int N)) (L_slices_Contains_int N N) Tryz.f175 (ashape sg_slices_Contains_int x) kf := by kernel_rfl
theorem sd_slices_Contains_int (N : Nat) : Sound Tryz.prog 175 (run_slices_Contains_int N) := fun_ok2 (hh := h_slices_Contains_int) mixed tab_ok (es := es_slices_Contains_int N) ⟨sd_slices_Index_int N, trivial⟩ (fn := Tryz.f175) (body := body_slices_Contains_int) (by kernel_rfl) (by kernel_rfl) (by kernel_rfl) (by kernel_rfl) (by kernel_rfl) (Lf := L_slices_Contains_int N) (L0_slices_Contains_int N) ls_slices_Contains_int trivial (N := N) (by kernel_rfl) (fn_slices_Contains_int N) (.inl (by kernel_rfl))
/-! impl_HaveMet -/
noncomputable def h_impl_HaveMet : Hint := { tab, hn := [], loops := [], outs := [], ords := [] }
noncomputable def sg_impl_HaveMet : List AK := [.v (.sl tQIIIIILIE) .k, .v (.int .i64) .k, .v (.int .i64) .k]
noncomputable def F_impl_HaveMet (N : Nat) (x : AVals sg_impl_HaveMet) (kf : Ret → Option Ret) : Option Ret := impl_HaveMet N x.1 x.2.1 x.2.2.1 (fun r0 => kf ⟨[⟨.bool, .k, r0⟩], []⟩)
noncomputable def run_impl_HaveMet (N : Nat) := runOf sg_impl_HaveMet (F_impl_HaveMet N)
noncomputable def es_impl_HaveMet (N : Nat) : List Entry := [⟨35, [.val, .val], (run_impl_FindTeam N)⟩, ⟨175, [.val, .val], (run_slices_Contains_int N)⟩]
noncomputable def body_impl_HaveMet : Code := match Tryz.f207.body with | some c => c | none => .skip
noncomputable def L_impl_HaveMet (N n : Nat) (key : Nat) (S : St) (K : Ks) : Option Ret := none
theorem L0_impl_HaveMet (N key : Nat) (S : St) (K : Ks) : L_impl_HaveMet N 0 key S K = none := rfl
theorem ls_impl_HaveMet : loopsIn body_impl_HaveMet = [] := by kernel_rfl
theorem fn_impl_HaveMet (N : Nat) (x : AVals sg_impl_HaveMet) (kf : Ret → Option Ret) : F_impl_HaveMet N x kf = peFunc h_impl_HaveMet (Orc.of (es_impl_HaveMet N)) (L_impl_HaveMet N N) Tryz.f207 (ashape sg_impl_HaveMet x) kf := by kernel_rfl
theorem sd_impl_HaveMet (N : Nat) : Sound Tryz.prog 207 (run_impl_HaveMet N) := fun_ok2 (hh := h_impl_HaveMet) mixed tab_ok (es := es_impl_HaveMet N) ⟨sd_impl_FindTeam N, ⟨sd_slices_Contains_int N, trivial⟩⟩ (fn := Tryz.f207) (body := body_impl_HaveMet) (by kernel_rfl) (by kernel_rfl) (by kernel_rfl) (by kernel_rfl) (by kernel_rfl) (Lf := L_impl_HaveMet N) (L0_impl_HaveMet N) ls_impl_HaveMet trivial (N := N) (by kernel_rfl) (fn_impl_HaveMet N) (.inl (by kernel_rfl))
/-! impl_MayMeet -/
noncomputable def h_impl_MayMeet : Hint := { tab, hn := [], loops := [], outs := [], ords := [(2, (OT.seq [0, 1, 2, 3, 4, 5, 6, 7, 8, 9, 10, 11, 12, 13, 14, 15, 16, 17, 18, 19, 20, 21, 22, 23, 24, 25, 26, 27, 28, 29, 30, 31, 32, 33, 34, 35] .done))] }
noncomputable def sg_impl_MayMeet : List AK := [.v (.sl tQIIIIILIE) .k, .v (.int .i64) .k, .v (.int .i64) .k]
noncomputable def F_impl_MayMeet (N : Nat) (x : AVals sg_impl_MayMeet) (kf : Ret → Option Ret) : Option Ret := impl_MayMeet N x.1 x.2.1 x.2.2.1 (fun r0 => kf ⟨[⟨.bool, .k, r0⟩], []⟩)
noncomputable def run_impl_MayMeet (N : Nat) := runOf sg_impl_MayMeet (F_impl_MayMeet N)
noncomputable def es_impl_MayMeet (N : Nat) : List Entry := [⟨35, [.val, .val], (run_impl_FindTeam N)⟩, ⟨104, [.val], (run_impl_AreTeams N)⟩, ⟨207, [.val, .val, .val], (run_impl_HaveMet N)⟩]
noncomputable def body_impl_MayMeet : Code := match Tryz.f173.body with | some c => c | none => .skip
noncomputable def L_impl_MayMeet (N n : Nat) (key : Nat) (S : St) (K : Ks) : Option Ret := none
theorem L0_impl_MayMeet (N key : Nat) (S : St) (K : Ks) : L_impl_MayMeet N 0 key S K = none := rfl
theorem ls_impl_MayMeet : loopsIn body_impl_MayMeet = [] := by kernel_rfl
theorem fn_impl_MayMeet (N : Nat) (x : AVals sg_impl_MayMeet) (kf : Ret → Option Ret) : F_impl_MayMeet N x kf = peFunc h_impl_MayMeet (Orc.of (es_impl_MayMeet N)) (L_impl_MayMeet N N) Tryz.f173 (ashape sg_impl_MayMeet x) kf := by kernel_rfl
theorem sd_impl_MayMeet (N : Nat) : Sound Tryz.prog 173 (run_impl_MayMeet N) := fun_ok2 (hh := h_impl_MayMeet) mixed tab_ok (es := es_impl_MayMeet N) ⟨sd_impl_FindTeam N, ⟨sd_impl_AreTeams N, ⟨sd_impl_HaveMet N, trivial⟩⟩⟩ (fn := Tryz.f173) (body := body_impl_MayMeet) (by kernel_rfl) (by kernel_rfl) (by kernel_rfl) (by kernel_rfl) (by kernel_rfl) (Lf := L_impl_MayMeet N) (L0_impl_MayMeet N) ls_impl_MayMeet trivial (N := N) (by kernel_rfl) (fn_impl_MayMeet N) (.inl (by kernel_rfl))
/-! impl_IsRound -/
noncomputable def ks_impl_IsRound_l3 : List Kd := [.v (.sl tQIIIIILIE) .k, dK, dK, dK, dK, .v (.sl (.int .i64)) (.o 3 none .k), dK, dK, dK, dK, dK, .v (.sl tQIIE) .k, .v (.int .i64) .k, .v (.int .i64) .k, dK, dK, dK, dK, dK, dK, dK, dK, dK, dK, dK, dK, dK, dK, dK, dK, dK, dK, dK, dK, dK, dK, dK, dK, dK, dK, dK, dK, dK, dK]
noncomputable def ko_impl_IsRound_l3_0 : List Kd := [.v (.sl tQIIIIILIE) .k, dK, dK, dK, dK, .v (.sl (.int .i64)) (.o 3 none .k), dK, dK, dK, dK, dK, dK, dK, dK, dK, dK, dK, dK, dK, dK, dK, dK, dK, dK, dK, dK, dK, dK, dK, dK, dK, dK, dK, dK, dK, dK, dK, dK, dK, dK, dK, dK, dK, dK]
noncomputable def ko_impl_IsRound_l3_1 : List Kd := [dK, dK, dK, dK, .v .bool .k, dK, dK, dK, dK, dK, dK, dK, dK, dK, dK, dK, dK, dK, dK, dK, dK, dK, dK, dK, dK, dK, dK, dK, dK, dK, dK, dK, dK, dK, dK, dK, dK, dK, dK, dK, dK, dK, dK, dK]
noncomputable def ks_impl_IsRound_l10 : List Kd := [dK, dK, dK, dK, dK, .v (.sl (.int .i64)) (.o 3 none .k), dK, dK, dK, dK, dK, dK, dK, dK, dK, dK, dK, dK, dK, dK, dK, dK, dK, dK, dK, dK, dK, dK, dK, dK, dK, dK, .v (.sl tQIIIIILIE) .k, .v (.int .i64) .k, .v (.int .i64) .k, dK, dK, dK, dK, dK, dK, dK, dK, dK]
noncomputable def ko_impl_IsRound_l10_0 : List Kd := [dK, dK, dK, dK, dK, dK, dK, dK, dK, dK, dK, dK, dK, dK, dK, dK, dK, dK, dK, dK, dK, dK, dK, dK, dK, dK, dK, dK, dK, dK, dK, dK, dK, dK, dK, dK, dK, dK, dK, dK, dK, dK, dK, dK]
noncomputable def ko_impl_IsRound_l10_1 : List Kd := [dK, dK, dK, dK, .v .bool .k, dK, dK, dK, dK, dK, dK, dK, dK, dK, dK, dK, dK, dK, dK, dK, dK, dK, dK, dK, dK, dK, dK, dK, dK, dK, dK, dK, dK, dK, dK, dK, dK, dK, dK, dK, dK, dK, dK, dK]
noncomputable def h_impl_IsRound : Hint := { tab, hn := [], loops := [(3, ks_impl_IsRound_l3), (10, ks_impl_IsRound_l10)], outs := [(3, 2, ko_impl_IsRound_l3_0), (3, 1, ko_impl_IsRound_l3_1), (10, 4, ko_impl_IsRound_l10_0), (10, 1, ko_impl_IsRound_l10_1)], ords := [] }
noncomputable def sg_impl_IsRound : List AK := [.v (.sl tQIIIIILIE) .k, .v (.sl tQIIE) .k]
noncomputable def F_impl_IsRound (N : Nat) (x : AVals sg_impl_IsRound) (kf : Ret → Option Ret) : Option Ret := impl_IsRound N x.1 x.2.1 (fun r0 => kf ⟨[⟨.bool, .k, r0⟩], []⟩)
noncomputable def run_impl_IsRound (N : Nat) := runOf sg_impl_IsRound (F_impl_IsRound N)
noncomputable def es_impl_IsRound (N : Nat) : List Entry := [⟨173, [.val, .val, .val], (run_impl_MayMeet N)⟩, ⟨171, [.val, .val], (run_impl_times N)⟩]
noncomputable def body_impl_IsRound : Code := match Tryz.f107.body with | some c => c | none => .skip
noncomputable def L_impl_IsRound (N n : Nat) (key : Nat) (S : St) (K : Ks) : Option Ret := bif Nat.beq key 3 then withVals ks_impl_IsRound_l3 S (fun x => impl_IsRound_l3 N x.1 x.2.2.1 x.2.2.2.1 n (fun z0 => K (.x 0) (shape ko_impl_IsRound_l3_0 (x.1, z0, ()))) (fun z0 => K .r (shape ko_impl_IsRound_l3_1 (z0, ()))) x.2.1 x.2.2.2.2.1) else bif Nat.beq key 10 then withVals ks_impl_IsRound_l10 S (fun x => impl_IsRound_l10 N x.1 x.2.1 x.2.2.1 n (K (.x 2) (shape ko_impl_IsRound_l10_0 ())) (fun z0 => K .r (shape ko_impl_IsRound_l10_1 (z0, ()))) x.2.2.2.1) else none
theorem L0_impl_IsRound (N key : Nat) (S : St) (K : Ks) : L_impl_IsRound N 0 key S K = none := (bif0 (withVals0 fun _ => rfl) (bif0 (withVals0 fun _ => rfl) rfl))
noncomputable def c_impl_IsRound_0 : Code := (loopsIn body_impl_IsRound).getD 0 .skip
noncomputable def c_impl_IsRound_1 : Code := (loopsIn body_impl_IsRound).getD 1 .skip
theorem ls_impl_IsRound : loopsIn body_impl_IsRound = [c_impl_IsRound_0, c_impl_IsRound_1] := by kernel_rfl
theorem rd_impl_IsRound_10 (N n : Nat) (x : Vals ks_impl_IsRound_l10) (K : Ks) : L_impl_IsRound N (n + 1) 10 (shape ks_impl_IsRound_l10 x) (h_impl_IsRound.onOut 10 K) = peRound h_impl_IsRound (Orc.of (es_impl_IsRound N)) (mixL (L_impl_IsRound N) N n 10) c_impl_IsRound_1 (shape ks_impl_IsRound_l10 x) (h_impl_IsRound.onOut 10 K) := by kernel_rfl
theorem rd_impl_IsRound_3 (N n : Nat) (x : Vals ks_impl_IsRound_l3) (K : Ks) : L_impl_IsRound N (n + 1) 3 (shape ks_impl_IsRound_l3 x) (h_impl_IsRound.onOut 3 K) = peRound h_impl_IsRound (Orc.of (es_impl_IsRound N)) (mixL (L_impl_IsRound N) N n 3) c_impl_IsRound_0 (shape ks_impl_IsRound_l3 x) (h_impl_IsRound.onOut 3 K) := by kernel_rfl
theorem fn_impl_IsRound (N : Nat) (x : AVals sg_impl_IsRound) (kf : Ret → Option Ret) : F_impl_IsRound N x kf = peFunc h_impl_IsRound (Orc.of (es_impl_IsRound N)) (L_impl_IsRound N N) Tryz.f107 (ashape sg_impl_IsRound x) kf := by kernel_rfl
theorem sd_impl_IsRound (N : Nat) : Sound Tryz.prog 107 (run_impl_IsRound N) := fun_ok2 (hh := h_impl_IsRound) mixed tab_ok (es := es_impl_IsRound N) ⟨sd_impl_MayMeet N, ⟨sd_impl_times N, trivial⟩⟩ (fn := Tryz.f107) (body := body_impl_IsRound) (by kernel_rfl) (by kernel_rfl) (by kernel_rfl) (by kernel_rfl) (by kernel_rfl) (Lf := L_impl_IsRound N) (L0_impl_IsRound N) ls_impl_IsRound (round_cons (key := 3) (ks := ks_impl_IsRound_l3) (by kernel_rfl) (by kernel_rfl) (rd_impl_IsRound_3 N) (round_cons (key := 10) (ks := ks_impl_IsRound_l10) (by kernel_rfl) (by kernel_rfl) (rd_impl_IsRound_10 N) trivial)) (N := N) (by kernel_rfl) (fn_impl_IsRound N) (.inl (by kernel_rfl))
/-! impl_AreSeated_1 -/
noncomputable def h_impl_AreSeated_1 : Hint := { tab, hn := [], loops := [], outs := [], ords := [] }
noncomputable def sg_impl_AreSeated_1 : List AK := [.v tQIILIE .k, .v (.ptr (.int .i64)) .k]
noncomputable def F_impl_AreSeated_1 (N : Nat) (x : AVals sg_impl_AreSeated_1) (kf : Ret → Option Ret) : Option Ret := impl_AreSeated_1 N x.1 x.2.1 (fun r0 => kf ⟨[⟨.bool, .k, r0⟩], []⟩)
noncomputable def run_impl_AreSeated_1 (N : Nat) := runOf sg_impl_AreSeated_1 (F_impl_AreSeated_1 N)
noncomputable def es_impl_AreSeated_1 (N : Nat) : List Entry := []
noncomputable def body_impl_AreSeated_1 : Code := match Tryz.f174.body with | some c => c | none => .skip
noncomputable def L_impl_AreSeated_1 (N n : Nat) (key : Nat) (S : St) (K : Ks) : Option Ret := none
theorem L0_impl_AreSeated_1 (N key : Nat) (S : St) (K : Ks) : L_impl_AreSeated_1 N 0 key S K = none := rfl
theorem ls_impl_AreSeated_1 : loopsIn body_impl_AreSeated_1 = [] := by kernel_rfl
theorem fn_impl_AreSeated_1 (N : Nat) (x : AVals sg_impl_AreSeated_1) (kf : Ret → Option Ret) : F_impl_AreSeated_1 N x kf = peFunc h_impl_AreSeated_1 (Orc.of (es_impl_AreSeated_1 N)) (L_impl_AreSeated_1 N N) Tryz.f174 (ashape sg_impl_AreSeated_1 x) kf := by kernel_rfl
theorem sd_impl_AreSeated_1 (N : Nat) : Sound Tryz.prog 174 (run_impl_AreSeated_1 N) := fun_ok2 (hh := h_impl_AreSeated_1) mixed tab_ok (es := es_impl_AreSeated_1 N) trivial (fn := Tryz.f174) (body := body_impl_AreSeated_1) (by kernel_rfl) (by kernel_rfl) (by kernel_rfl) (by kernel_rfl) (by kernel_rfl) (Lf := L_impl_AreSeated_1 N) (L0_impl_AreSeated_1 N) ls_impl_AreSeated_1 trivial (N := N) (by kernel_rfl) (fn_impl_AreSeated_1 N) (.inl (by kernel_rfl))
/-! slices_IndexFunc_Judge_impl_AreSeated_1 -/
noncomputable def ks_slices_IndexFunc_Judge_impl_AreSeated_1_l2 : List Kd := [.v (.sl tQIILIE) .k, .clo 174 [.kv (.ptr (.int .i64))], dK, dK, dK, dK, dK, .v (.int .i64) .k, .v (.int .i64) .k, dK, dK, dK, dK, dK, dK, dK, dK, dK, dK]
noncomputable def ko_slices_IndexFunc_Judge_impl_AreSeated_1_l2_0 : List Kd := [dK, dK, dK, dK, dK, dK, dK, dK, dK, dK, dK, dK, dK, dK, dK, dK, dK, dK, dK]
noncomputable def ko_slices_IndexFunc_Judge_impl_AreSeated_1_l2_1 : List Kd := [dK, dK, dK, dK, .v (.int .i64) .k, dK, dK, dK, dK, dK, dK, dK, dK, dK, dK, dK, dK, dK, dK]
noncomputable def h_slices_IndexFunc_Judge_impl_AreSeated_1 : Hint := { tab, hn := [], loops := [(2, ks_slices_IndexFunc_Judge_impl_AreSeated_1_l2)], outs := [(2, 2, ko_slices_IndexFunc_Judge_impl_AreSeated_1_l2_0), (2, 1, ko_slices_IndexFunc_Judge_impl_AreSeated_1_l2_1)], ords := [] }
noncomputable def sg_slices_IndexFunc_Judge_impl_AreSeated_1 : List AK := [.v (.sl tQIILIE) .k, .fn 174 [(.ptr (.int .i64))]]
noncomputable def F_slices_IndexFunc_Judge_impl_AreSeated_1 (N : Nat) (x : AVals sg_slices_IndexFunc_Judge_impl_AreSeated_1) (kf : Ret → Option Ret) : Option Ret := slices_IndexFunc_Judge_impl_AreSeated_1 N x.1 x.2.1.1 (fun r0 => kf ⟨[⟨(.int .i64), .k, r0⟩], []⟩)
noncomputable def run_slices_IndexFunc_Judge_impl_AreSeated_1 (N : Nat) := runOf sg_slices_IndexFunc_Judge_impl_AreSeated_1 (F_slices_IndexFunc_Judge_impl_AreSeated_1 N)
noncomputable def es_slices_IndexFunc_Judge_impl_AreSeated_1 (N : Nat) : List Entry := [⟨174, [.val], (run_impl_AreSeated_1 N)⟩]
noncomputable def body_slices_IndexFunc_Judge_impl_AreSeated_1 : Code := match Tryz.f149.body with | some c => c | none => .skip
noncomputable def L_slices_IndexFunc_Judge_impl_AreSeated_1 (N n : Nat) (key : Nat) (S : St) (K : Ks) : Option Ret := bif Nat.beq key 2 then withVals ks_slices_IndexFunc_Judge_impl_AreSeated_1_l2 S (fun x => slices_IndexFunc_Judge_impl_AreSeated_1_l2 N x.1 x.2.1.1 x.2.2.1 n (K (.x 0) (shape ko_slices_IndexFunc_Judge_impl_AreSeated_1_l2_0 ())) (fun z0 => K .r (shape ko_slices_IndexFunc_Judge_impl_AreSeated_1_l2_1 (z0, ()))) x.2.2.2.1) else none
theorem L0_slices_IndexFunc_Judge_impl_AreSeated_1 (N key : Nat) (S : St) (K : Ks) : L_slices_IndexFunc_Judge_impl_AreSeated_1 N 0 key S K = none := (bif0 (withVals0 fun _ => rfl) rfl)
noncomputable def c_slices_IndexFunc_Judge_impl_AreSeated_1_0 : Code := (loopsIn body_slices_IndexFunc_Judge_impl_AreSeated_1).getD 0 .skip
theorem ls_slices_IndexFunc_Judge_impl_AreSeated_1 : loopsIn body_slices_IndexFunc_Judge_impl_AreSeated_1 = [c_slices_IndexFunc_Judge_impl_AreSeated_1_0] := by kernel_rfl
theorem rd_slices_IndexFunc_Judge_impl_AreSeated_1_2 (N n : Nat) (x : Vals ks_slices_IndexFunc_Judge_impl_AreSeated_1_l2) (K : Ks) : L_slices_IndexFunc_Judge_impl_AreSeated_1 N (n + 1) 2 (shape ks_slices_IndexFunc_Judge_impl_AreSeated_1_l2 x) (h_slices_IndexFunc_Judge_impl_AreSeated_1.onOut 2 K) = peRound h_slices_IndexFunc_Judge_impl_AreSeated_1 (Orc.of (es_slices_IndexFunc_Judge_impl_AreSeated_1 N)) (mixL (L_slices_IndexFunc_Judge_impl_AreSeated_1 N) N n 2) c_slices_IndexFunc_Judge_impl_AreSeated_1_0 (shape ks_slices_IndexFunc_Judge_impl_AreSeated_1_l2 x) (h_slices_IndexFunc_Judge_impl_AreSeated_1.onOut 2 K) := by kernel_rfl
theorem fn_slices_IndexFunc_Judge_impl_AreSeated_1 (N : Nat) (x : AVals sg_slices_IndexFunc_Judge_impl_AreSeated_1) (kf : Ret → Option Ret) : F_slices_IndexFunc_Judge_impl_AreSeated_1 N x kf = peFunc h_slices_IndexFunc_Judge_impl_AreSeated_1 (Orc.of (es_slices_IndexFunc_Judge_impl_AreSeated_1 N)) (L_slices_IndexFunc_Judge_impl_AreSeated_1 N N) Tryz.f149 (ashape sg_slices_IndexFunc_Judge_impl_AreSeated_1 x) kf := by kernel_rfl
theorem sd_slices_IndexFunc_Judge_impl_AreSeated_1 (N : Nat) : Sound Tryz.prog 149 (run_slices_IndexFunc_Judge_impl_AreSeated_1 N) := fun_ok2 (hh := h_slices_IndexFunc_Judge_impl_AreSeated_1) mixed tab_ok (es := es_slices_IndexFunc_Judge_impl_AreSeated_1 N) ⟨sd_impl_AreSeated_1 N, trivial⟩ (fn := Tryz.f149) (body := body_slices_IndexFunc_Judge_impl_AreSeated_1) (by kernel_rfl) (by kernel_rfl) (by kernel_rfl) (by kernel_rfl) (by kernel_rfl) (Lf := L_slices_IndexFunc_Judge_impl_AreSeated_1 N) (L0_slices_IndexFunc_Judge_impl_AreSeated_1 N) ls_slices_IndexFunc_Judge_impl_AreSeated_1 (round_cons (key := 2) (ks := ks_slices_IndexFunc_Judge_impl_AreSeated_1_l2) (by kernel_rfl) (by kernel_rfl) (rd_slices_IndexFunc_Judge_impl_AreSeated_1_2 N) trivial) (N := N) (by kernel_rfl) (fn_slices_IndexFunc_Judge_impl_AreSeated_1 N) (.inl (by kernel_rfl))
/-! impl_MayJudge -/
noncomputable def ks_impl_MayJudge_l2 : List Kd := [.v (.sl tQIIIIILIE) .k, dK, dK, dK, .v (.ptr tQIILIE) (.o 97 none .k), dK, dK, dK, dK, dK, dK, dK, dK, dK, .v (.sl (.int .i64)) (.o 3 none .k), .v (.int .i64) .k, .v (.int .i64) .k, dK, dK, dK, dK, dK, dK, dK, dK, dK, dK, dK, dK, dK, dK, dK, dK, dK, dK, dK, dK, dK, dK, dK, dK, dK]
noncomputable def ko_impl_MayJudge_l2_0 : List Kd := [dK, dK, dK, dK, dK, dK, dK, dK, dK, dK, dK, dK, dK, dK, dK, dK, dK, dK, dK, dK, dK, dK, dK, dK, dK, dK, dK, dK, dK, dK, dK, dK, dK, dK, dK, dK, dK, dK, dK, dK, dK, dK]
noncomputable def ko_impl_MayJudge_l2_1 : List Kd := [dK, dK, dK, dK, dK, dK, .v .bool .k, dK, dK, dK, dK, dK, dK, dK, dK, dK, dK, dK, dK, dK, dK, dK, dK, dK, dK, dK, dK, dK, dK, dK, dK, dK, dK, dK, dK, dK, dK, dK, dK, dK, dK, dK]
noncomputable def h_impl_MayJudge : Hint := { tab, hn := [], loops := [(2, ks_impl_MayJudge_l2)], outs := [(2, 2, ko_impl_MayJudge_l2_0), (2, 1, ko_impl_MayJudge_l2_1)], ords := [(5, (OT.seq [0, 1, 2, 3, 4, 5, 6, 7, 8, 9, 10, 11, 12, 13, 14, 15, 16, 17] .done))] }
noncomputable def sg_impl_MayJudge : List AK := [.v (.sl tQIIIIILIE) .k, .v tQIILIE .k, .v tQIIE .k]
noncomputable def F_impl_MayJudge (N : Nat) (x : AVals sg_impl_MayJudge) (kf : Ret → Option Ret) : Option Ret := impl_MayJudge N x.1 x.2.1 x.2.2.1 (fun r0 => kf ⟨[⟨.bool, .k, r0⟩], []⟩)
noncomputable def run_impl_MayJudge (N : Nat) := runOf sg_impl_MayJudge (F_impl_MayJudge N)
noncomputable def es_impl_MayJudge (N : Nat) : List Entry := [⟨35, [.val, .val], (run_impl_FindTeam N)⟩, ⟨175, [.val, .val], (run_slices_Contains_int N)⟩]
noncomputable def body_impl_MayJudge : Code := match Tryz.f176.body with | some c => c | none => .skip
noncomputable def L_impl_MayJudge (N n : Nat) (key : Nat) (S : St) (K : Ks) : Option Ret := bif Nat.beq key 2 then withVals ks_impl_MayJudge_l2 S (fun x => impl_MayJudge_l2 N x.1 x.2.1 x.2.2.1 x.2.2.2.1 n (K (.x 0) (shape ko_impl_MayJudge_l2_0 ())) (fun z0 => K .r (shape ko_impl_MayJudge_l2_1 (z0, ()))) x.2.2.2.2.1) else none
theorem L0_impl_MayJudge (N key : Nat) (S : St) (K : Ks) : L_impl_MayJudge N 0 key S K = none := (bif0 (withVals0 fun _ => rfl) rfl)
noncomputable def c_impl_MayJudge_0 : Code := (loopsIn body_impl_MayJudge).getD 0 .skip
theorem ls_impl_MayJudge : loopsIn body_impl_MayJudge = [c_impl_MayJudge_0] := by kernel_rfl
theorem rd_impl_MayJudge_2 (N n : Nat) (x : Vals ks_impl_MayJudge_l2) (K : Ks) : L_impl_MayJudge N (n + 1) 2 (shape ks_impl_MayJudge_l2 x) (h_impl_MayJudge.onOut 2 K) = peRound h_impl_MayJudge (Orc.of (es_impl_MayJudge N)) (mixL (L_impl_MayJudge N) N n 2) c_impl_MayJudge_0 (shape ks_impl_MayJudge_l2 x) (h_impl_MayJudge.onOut 2 K) := by kernel_rfl
theorem fn_impl_MayJudge (N : Nat) (x : AVals sg_impl_MayJudge) (kf : Ret → Option Ret) : F_impl_MayJudge N x kf = peFunc h_impl_MayJudge (Orc.of (es_impl_MayJudge N)) (L_impl_MayJudge N N) Tryz.f176 (ashape sg_impl_MayJudge x) kf := by kernel_rfl
theorem sd_impl_MayJudge (N : Nat) : Sound Tryz.prog 176 (run_impl_MayJudge N) := fun_ok2 (hh := h_impl_MayJudge) mixed tab_ok (es := es_impl_MayJudge N) ⟨sd_impl_FindTeam N, ⟨sd_slices_Contains_int N, trivial⟩⟩ (fn := Tryz.f176) (body := body_impl_MayJudge) (by kernel_rfl) (by kernel_rfl) (by kernel_rfl) (by kernel_rfl) (by kernel_rfl) (Lf := L_impl_MayJudge N) (L0_impl_MayJudge N) ls_impl_MayJudge (round_cons (key := 2) (ks := ks_impl_MayJudge_l2) (by kernel_rfl) (by kernel_rfl) (rd_impl_MayJudge_2 N) trivial) (N := N) (by kernel_rfl) (fn_impl_MayJudge N) (.inl (by kernel_rfl))
/-! impl_AreSeated -/
noncomputable def ks_impl_AreSeated_l4 : List Kd := [.v (.sl tQIIIIILIE) .k, .v (.sl tQIILIE) .k, .v (.sl tQIIE) .k, .v (.sl (.int .i64)) .k, dK, dK, dK, dK, dK, dK, dK, dK, dK, dK, dK, dK, dK, dK, dK, dK, dK, dK, .v (.sl (.int .i64)) .k, .v (.int .i64) .k, .v (.int .i64) .k, dK, dK, dK, dK, dK, dK, dK, dK, dK, dK, dK, dK, dK, dK, dK, dK, dK, dK, dK, dK, dK, dK, dK, dK, dK, dK, dK, dK, dK, dK]
noncomputable def ko_impl_AreSeated_l4_0 : List Kd := [dK, dK, dK, dK, dK, dK, dK, dK, dK, dK, dK, dK, dK, dK, dK, dK, dK, dK, dK, dK, dK, dK, dK, dK, dK, dK, dK, dK, dK, dK, dK, dK, dK, dK, dK, dK, dK, dK, dK, dK, dK, dK, dK, dK, dK, dK, dK, dK, dK, dK, dK, dK, dK, dK, dK]
noncomputable def ko_impl_AreSeated_l4_1 : List Kd := [dK, dK, dK, dK, dK, dK, dK, dK, .v .bool .k, dK, dK, dK, dK, dK, dK, dK, dK, dK, dK, dK, dK, dK, dK, dK, dK, dK, dK, dK, dK, dK, dK, dK, dK, dK, dK, dK, dK, dK, dK, dK, dK, dK, dK, dK, dK, dK, dK, dK, dK, dK, dK, dK, dK, dK, dK]
noncomputable def h_impl_AreSeated : Hint := { tab, hn := [], loops := [(4, ks_impl_AreSeated_l4)], outs := [(4, 2, ko_impl_AreSeated_l4_0), (4, 1, ko_impl_AreSeated_l4_1)], ords := [(7, (OT.seq [0, 1, 2, 3, 4, 5, 6, 7, 8, 9, 10, 11, 12, 13, 14, 15, 16, 17, 18, 19, 20, 21] .done))] }
noncomputable def sg_impl_AreSeated : List AK := [.v (.sl tQIIIIILIE) .k, .v (.sl tQIILIE) .k, .v (.sl tQIIE) .k, .v (.sl (.int .i64)) .k]
noncomputable def F_impl_AreSeated (N : Nat) (x : AVals sg_impl_AreSeated) (kf : Ret → Option Ret) : Option Ret := impl_AreSeated N x.1 x.2.1 x.2.2.1 x.2.2.2.1 (fun r0 => kf ⟨[⟨.bool, .k, r0⟩], []⟩)
noncomputable def run_impl_AreSeated (N : Nat) := runOf sg_impl_AreSeated (F_impl_AreSeated N)
noncomputable def es_impl_AreSeated (N : Nat) : List Entry := [⟨105, [.val], (run_impl_AreJudges N)⟩, ⟨149, [.val, .val], (run_slices_IndexFunc_Judge_impl_AreSeated_1 N)⟩, ⟨175, [.val, .val], (run_slices_Contains_int N)⟩, ⟨176, [.val, .val, .val], (run_impl_MayJudge N)⟩]
noncomputable def body_impl_AreSeated : Code := match Tryz.f108.body with | some c => c | none => .skip
noncomputable def L_impl_AreSeated (N n : Nat) (key : Nat) (S : St) (K : Ks) : Option Ret := bif Nat.beq key 4 then withVals ks_impl_AreSeated_l4 S (fun x => impl_AreSeated_l4 N x.1 x.2.1 x.2.2.1 x.2.2.2.1 x.2.2.2.2.1 x.2.2.2.2.2.1 n (K (.x 0) (shape ko_impl_AreSeated_l4_0 ())) (fun z0 => K .r (shape ko_impl_AreSeated_l4_1 (z0, ()))) x.2.2.2.2.2.2.1) else none
theorem L0_impl_AreSeated (N key : Nat) (S : St) (K : Ks) : L_impl_AreSeated N 0 key S K = none := (bif0 (withVals0 fun _ => rfl) rfl)
noncomputable def c_impl_AreSeated_0 : Code := (loopsIn body_impl_AreSeated).getD 0 .skip
theorem ls_impl_AreSeated : loopsIn body_impl_AreSeated = [c_impl_AreSeated_0] := by kernel_rfl
theorem rd_impl_AreSeated_4 (N n : Nat) (x : Vals ks_impl_AreSeated_l4) (K : Ks) : L_impl_AreSeated N (n + 1) 4 (shape ks_impl_AreSeated_l4 x) (h_impl_AreSeated.onOut 4 K) = peRound h_impl_AreSeated (Orc.of (es_impl_AreSeated N)) (mixL (L_impl_AreSeated N) N n 4) c_impl_AreSeated_0 (shape ks_impl_AreSeated_l4 x) (h_impl_AreSeated.onOut 4 K) := by kernel_rfl
theorem fn_impl_AreSeated (N : Nat) (x : AVals sg_impl_AreSeated) (kf : Ret → Option Ret) : F_impl_AreSeated N x kf = peFunc h_impl_AreSeated (Orc.of (es_impl_AreSeated N)) (L_impl_AreSeated N N) Tryz.f108 (ashape sg_impl_AreSeated x) kf := by kernel_rfl
theorem sd_impl_AreSeated (N : Nat) : Sound Tryz.prog 108 (run_impl_AreSeated N) := fun_ok2 (hh := h_impl_AreSeated) mixed tab_ok (es := es_impl_AreSeated N) ⟨sd_impl_AreJudges N, ⟨sd_slices_IndexFunc_Judge_impl_AreSeated_1 N, ⟨sd_slices_Contains_int N, ⟨sd_impl_MayJudge N, trivial⟩⟩⟩⟩ (fn := Tryz.f108) (body := body_impl_AreSeated) (by kernel_rfl) (by kernel_rfl) (by kernel_rfl) (by kernel_rfl) (by kernel_rfl) (Lf := L_impl_AreSeated N) (L0_impl_AreSeated N) ls_impl_AreSeated (round_cons (key := 4) (ks := ks_impl_AreSeated_l4) (by kernel_rfl) (by kernel_rfl) (rd_impl_AreSeated_4 N) trivial) (N := N) (by kernel_rfl) (fn_impl_AreSeated N) (.inl (by kernel_rfl))
/-! impl_IsBallot -/
noncomputable def h_impl_IsBallot : Hint := { tab, hn := [], loops := [], outs := [], ords := [] }
noncomputable def sg_impl_IsBallot : List AK := [.v tQIIIE .k]
noncomputable def F_impl_IsBallot (N : Nat) (x : AVals sg_impl_IsBallot) (kf : Ret → Option Ret) : Option Ret := impl_IsBallot N x.1 (fun r0 => kf ⟨[⟨.bool, .k, r0⟩], []⟩)
noncomputable def run_impl_IsBallot (N : Nat) := runOf sg_impl_IsBallot (F_impl_IsBallot N)
noncomputable def es_impl_IsBallot (N : Nat) : List Entry := [⟨109, [.val, .val, .val], (run_impl_InRange N)⟩]
noncomputable def body_impl_IsBallot : Code := match Tryz.f58.body with | some c => c | none => .skip
noncomputable def L_impl_IsBallot (N n : Nat) (key : Nat) (S : St) (K : Ks) : Option Ret := none
theorem L0_impl_IsBallot (N key : Nat) (S : St) (K : Ks) : L_impl_IsBallot N 0 key S K = none := rfl
theorem ls_impl_IsBallot : loopsIn body_impl_IsBallot = [] := by kernel_rfl
theorem fn_impl_IsBallot (N : Nat) (x : AVals sg_impl_IsBallot) (kf : Ret → Option Ret) : F_impl_IsBallot N x kf = peFunc h_impl_IsBallot (Orc.of (es_impl_IsBallot N)) (L_impl_IsBallot N N) Tryz.f58 (ashape sg_impl_IsBallot x) kf := by kernel_rfl
theorem sd_impl_IsBallot (N : Nat) : Sound Tryz.prog 58 (run_impl_IsBallot N) := fun_ok2 (hh := h_impl_IsBallot) mixed tab_ok (es := es_impl_IsBallot N) ⟨sd_impl_InRange N, trivial⟩ (fn := Tryz.f58) (body := body_impl_IsBallot) (by kernel_rfl) (by kernel_rfl) (by kernel_rfl) (by kernel_rfl) (by kernel_rfl) (Lf := L_impl_IsBallot N) (L0_impl_IsBallot N) ls_impl_IsBallot trivial (N := N) (by kernel_rfl) (fn_impl_IsBallot N) (.inl (by kernel_rfl))
/-! impl_TotalWins -/
noncomputable def ks_impl_TotalWins_l5 : List Kd := [dK, dK, dK, .v (.int .i64) .k, dK, dK, dK, dK, dK, dK, .v (.sl tQIIIIILIE) .k, .v (.int .i64) .k, .v (.int .i64) .k, dK, dK, dK, dK, dK, dK, dK, dK, dK]
noncomputable def ko_impl_TotalWins_l5_0 : List Kd := [dK, dK, dK, .v (.int .i64) .k, dK, dK, dK, dK, dK, dK, dK, dK, dK, dK, dK, dK, dK, dK, dK, dK, dK, dK]
noncomputable def h_impl_TotalWins : Hint := { tab, hn := [], loops := [(5, ks_impl_TotalWins_l5)], outs := [(5, 2, ko_impl_TotalWins_l5_0)], ords := [] }
noncomputable def sg_impl_TotalWins : List AK := [.v (.sl tQIIIIILIE) .k]
noncomputable def F_impl_TotalWins (N : Nat) (x : AVals sg_impl_TotalWins) (kf : Ret → Option Ret) : Option Ret := impl_TotalWins N x.1 (fun r0 => kf ⟨[⟨(.int .i64), .k, r0⟩], []⟩)
noncomputable def run_impl_TotalWins (N : Nat) := runOf sg_impl_TotalWins (F_impl_TotalWins N)
noncomputable def es_impl_TotalWins (N : Nat) : List Entry := [⟨104, [.val], (run_impl_AreTeams N)⟩]
noncomputable def body_impl_TotalWins : Code := match Tryz.f110.body with | some c => c | none => .skip
noncomputable def L_impl_TotalWins (N n : Nat) (key : Nat) (S : St) (K : Ks) : Option Ret := bif Nat.beq key 5 then withVals ks_impl_TotalWins_l5 S (fun x => impl_TotalWins_l5 x.2.1 x.2.2.1 n (fun z0 => K (.x 0) (shape ko_impl_TotalWins_l5_0 (z0, ()))) x.1 x.2.2.2.1) else none
theorem L0_impl_TotalWins (N key : Nat) (S : St) (K : Ks) : L_impl_TotalWins N 0 key S K = none := (bif0 (withVals0 fun _ => rfl) rfl)
noncomputable def c_impl_TotalWins_0 : Code := (loopsIn body_impl_TotalWins).getD 0 .skip
theorem ls_impl_TotalWins : loopsIn body_impl_TotalWins = [c_impl_TotalWins_0] := by kernel_rfl
theorem rd_impl_TotalWins_5 (N n : Nat) (x : Vals ks_impl_TotalWins_l5) (K : Ks) : L_impl_TotalWins N (n + 1) 5 (shape ks_impl_TotalWins_l5 x) (h_impl_TotalWins.onOut 5 K) = peRound h_impl_TotalWins (Orc.of (es_impl_TotalWins N)) (mixL (L_impl_TotalWins N) N n 5) c_impl_TotalWins_0 (shape ks_impl_TotalWins_l5 x) (h_impl_TotalWins.onOut 5 K) := by kernel_rfl
theorem fn_impl_TotalWins (N : Nat) (x : AVals sg_impl_TotalWins) (kf : Ret → Option Ret) : F_impl_TotalWins N x kf = peFunc h_impl_TotalWins (Orc.of (es_impl_TotalWins N)) (L_impl_TotalWins N N) Tryz.f110 (ashape sg_impl_TotalWins x) kf := by kernel_rfl
theorem sd_impl_TotalWins (N : Nat) : Sound Tryz.prog 110 (run_impl_TotalWins N) := fun_ok2 (hh := h_impl_TotalWins) mixed tab_ok (es := es_impl_TotalWins N) ⟨sd_impl_AreTeams N, trivial⟩ (fn := Tryz.f110) (body := body_impl_TotalWins) (by kernel_rfl) (by kernel_rfl) (by kernel_rfl) (by kernel_rfl) (by kernel_rfl) (Lf := L_impl_TotalWins N) (L0_impl_TotalWins N) ls_impl_TotalWins (round_cons (key := 5) (ks := ks_impl_TotalWins_l5) (by kernel_rfl) (by kernel_rfl) (rd_impl_TotalWins_5 N) trivial) (N := N) (by kernel_rfl) (fn_impl_TotalWins N) (.inl (by kernel_rfl))
/-! impl_IsClub -/
noncomputable def ks_impl_IsClub_l6 : List Kd := [dK, .v (.ptr tQLQIIIIILIELQIILIELQIIELILQIIIELQIIIIEIE) (.o 37 none .k), dK, dK, dK, dK, dK, dK, dK, dK, dK, dK, dK, dK, dK, dK, dK, dK, dK, dK, dK, dK, dK, dK, dK, dK, dK, dK, dK, dK, dK, dK, dK, dK, dK, dK, dK, dK, dK, dK, dK, dK, dK, dK, dK, dK, dK, dK, dK, dK, dK, dK, dK, dK, dK, dK, dK, dK, dK, dK, dK, dK, .v (.sl tQIIIE) .k, .v (.int .i64) .k, .v (.int .i64) .k, dK, dK, dK, dK, dK, dK, dK, dK, dK, dK, dK, dK, dK, dK, dK, dK, dK, dK, dK, dK, dK, dK, dK, dK, dK, dK, dK, dK, dK, dK, dK, dK, dK, dK]
noncomputable def ko_impl_IsClub_l6_0 : List Kd := [dK, .v (.ptr tQLQIIIIILIELQIILIELQIIELILQIIIELQIIIIEIE) (.o 37 none .k), dK, dK, dK, dK, dK, dK, dK, dK, dK, dK, dK, dK, dK, dK, dK, dK, dK, dK, dK, dK, dK, dK, dK, dK, dK, dK, dK, dK, dK, dK, dK, dK, dK, dK, dK, dK, dK, dK, dK, dK, dK, dK, dK, dK, dK, dK, dK, dK, dK, dK, dK, dK, dK, dK, dK, dK, dK, dK, dK, dK, dK, dK, dK, dK, dK, dK, dK, dK, dK, dK, dK, dK, dK, dK, dK, dK, dK, dK, dK, dK, dK, dK, dK, dK, dK, dK, dK, dK, dK, dK, dK, dK, dK, dK, dK, dK, dK]
noncomputable def ko_impl_IsClub_l6_1 : List Kd := [dK, dK, .v .bool .k, dK, dK, dK, dK, dK, dK, dK, dK, dK, dK, dK, dK, dK, dK, dK, dK, dK, dK, dK, dK, dK, dK, dK, dK, dK, dK, dK, dK, dK, dK, dK, dK, dK, dK, dK, dK, dK, dK, dK, dK, dK, dK, dK, dK, dK, dK, dK, dK, dK, dK, dK, dK, dK, dK, dK, dK, dK, dK, dK, dK, dK, dK, dK, dK, dK, dK, dK, dK, dK, dK, dK, dK, dK, dK, dK, dK, dK, dK, dK, dK, dK, dK, dK, dK, dK, dK, dK, dK, dK, dK, dK, dK, dK, dK, dK, dK]
noncomputable def h_impl_IsClub : Hint := { tab, hn := [], loops := [(6, ks_impl_IsClub_l6)], outs := [(6, 2, ko_impl_IsClub_l6_0), (6, 1, ko_impl_IsClub_l6_1)], ords := [(8, (OT.seq [0, 1, 2, 3, 4, 5, 6, 7, 8, 9, 10, 11, 12, 13, 14, 15, 16, 17] .done)), (11, (OT.seq [0, 1, 2, 3, 4, 5, 7, 8, 6, 9, 10, 11] .done))] }
noncomputable def sg_impl_IsClub : List AK := [.v tQLQIIIIILIELQIILIELQIIELILQIIIELQIIIIEIE .k]
noncomputable def F_impl_IsClub (N : Nat) (x : AVals sg_impl_IsClub) (kf : Ret → Option Ret) : Option Ret := impl_IsClub N x.1 (fun r0 => kf ⟨[⟨.bool, .k, r0⟩], []⟩)
noncomputable def run_impl_IsClub (N : Nat) := runOf sg_impl_IsClub (F_impl_IsClub N)
noncomputable def es_impl_IsClub (N : Nat) : List Entry := [⟨104, [.val], (run_impl_AreTeams N)⟩, ⟨105, [.val], (run_impl_AreJudges N)⟩, ⟨106, [.val], (run_impl_AreMinutes N)⟩, ⟨37, [.val], (run_impl_IsRunning N)⟩, ⟨107, [.val, .val], (run_impl_IsRound N)⟩, ⟨108, [.val, .val, .val, .val], (run_impl_AreSeated N)⟩, ⟨58, [.val], (run_impl_IsBallot N)⟩, ⟨109, [.val, .val, .val], (run_impl_InRange N)⟩, ⟨110, [.val], (run_impl_TotalWins N)⟩]
noncomputable def body_impl_IsClub : Code := match Tryz.f34.body with | some c => c | none => .skip
noncomputable def L_impl_IsClub (N n : Nat) (key : Nat) (S : St) (K : Ks) : Option Ret := bif Nat.beq key 6 then withVals ks_impl_IsClub_l6 S (fun x => impl_IsClub_l6 N x.1 x.2.1 x.2.2.1 n (K (.x 0) (shape ko_impl_IsClub_l6_0 (x.1, ()))) (fun z0 => K .r (shape ko_impl_IsClub_l6_1 (z0, ()))) x.2.2.2.1) else none
theorem L0_impl_IsClub (N key : Nat) (S : St) (K : Ks) : L_impl_IsClub N 0 key S K = none := (bif0 (withVals0 fun _ => rfl) rfl)
noncomputable def c_impl_IsClub_0 : Code := (loopsIn body_impl_IsClub).getD 0 .skip
theorem ls_impl_IsClub : loopsIn body_impl_IsClub = [c_impl_IsClub_0] := by kernel_rfl
theorem rd_impl_IsClub_6 (N n : Nat) (x : Vals ks_impl_IsClub_l6) (K : Ks) : L_impl_IsClub N (n + 1) 6 (shape ks_impl_IsClub_l6 x) (h_impl_IsClub.onOut 6 K) = peRound h_impl_IsClub (Orc.of (es_impl_IsClub N)) (mixL (L_impl_IsClub N) N n 6) c_impl_IsClub_0 (shape ks_impl_IsClub_l6 x) (h_impl_IsClub.onOut 6 K) := by kernel_rfl
theorem fn_impl_IsClub (N : Nat) (x : AVals sg_impl_IsClub) (kf : Ret → Option Ret) : F_impl_IsClub N x kf = peFunc h_impl_IsClub (Orc.of (es_impl_IsClub N)) (L_impl_IsClub N N) Tryz.f34 (ashape sg_impl_IsClub x) kf := by kernel_rfl
theorem sd_impl_IsClub (N : Nat) : Sound Tryz.prog 34 (run_impl_IsClub N) := fun_ok2 (hh := h_impl_IsClub) mixed tab_ok (es := es_impl_IsClub N) ⟨sd_impl_AreTeams N, ⟨sd_impl_AreJudges N, ⟨sd_impl_AreMinutes N, ⟨sd_impl_IsRunning N, ⟨sd_impl_IsRound N, ⟨sd_impl_AreSeated N, ⟨sd_impl_IsBallot N, ⟨sd_impl_InRange N, ⟨sd_impl_TotalWins N, trivial⟩⟩⟩⟩⟩⟩⟩⟩⟩ (fn := Tryz.f34) (body := body_impl_IsClub) (by kernel_rfl) (by kernel_rfl) (by kernel_rfl) (by kernel_rfl) (by kernel_rfl) (Lf := L_impl_IsClub N) (L0_impl_IsClub N) ls_impl_IsClub (round_cons (key := 6) (ks := ks_impl_IsClub_l6) (by kernel_rfl) (by kernel_rfl) (rd_impl_IsClub_6 N) trivial) (N := N) (by kernel_rfl) (fn_impl_IsClub N) (.inl (by kernel_rfl))
/-! impl_LastSeal -/
noncomputable def h_impl_LastSeal : Hint := { tab, hn := [], loops := [], outs := [], ords := [] }
noncomputable def sg_impl_LastSeal : List AK := [.v (.sl tQIIIIE) .k]
noncomputable def F_impl_LastSeal (N : Nat) (x : AVals sg_impl_LastSeal) (kf : Ret → Option Ret) : Option Ret := impl_LastSeal N x.1 (fun r0 => kf ⟨[⟨(.int .i64), .k, r0⟩], []⟩)
noncomputable def run_impl_LastSeal (N : Nat) := runOf sg_impl_LastSeal (F_impl_LastSeal N)
noncomputable def es_impl_LastSeal (N : Nat) : List Entry := []
noncomputable def body_impl_LastSeal : Code := match Tryz.f183.body with | some c => c | none => .skip
noncomputable def L_impl_LastSeal (N n : Nat) (key : Nat) (S : St) (K : Ks) : Option Ret := none
theorem L0_impl_LastSeal (N key : Nat) (S : St) (K : Ks) : L_impl_LastSeal N 0 key S K = none := rfl
theorem ls_impl_LastSeal : loopsIn body_impl_LastSeal = [] := by kernel_rfl
theorem fn_impl_LastSeal (N : Nat) (x : AVals sg_impl_LastSeal) (kf : Ret → Option Ret) : F_impl_LastSeal N x kf = peFunc h_impl_LastSeal (Orc.of (es_impl_LastSeal N)) (L_impl_LastSeal N N) Tryz.f183 (ashape sg_impl_LastSeal x) kf := by kernel_rfl
theorem sd_impl_LastSeal (N : Nat) : Sound Tryz.prog 183 (run_impl_LastSeal N) := fun_ok2 (hh := h_impl_LastSeal) mixed tab_ok (es := es_impl_LastSeal N) trivial (fn := Tryz.f183) (body := body_impl_LastSeal) (by kernel_rfl) (by kernel_rfl) (by kernel_rfl) (by kernel_rfl) (by kernel_rfl) (Lf := L_impl_LastSeal N) (L0_impl_LastSeal N) ls_impl_LastSeal trivial (N := N) (by kernel_rfl) (fn_impl_LastSeal N) (.inl (by kernel_rfl))
/-! impl_WriteLine -/
noncomputable def h_impl_WriteLine : Hint := { tab, hn := [], loops := [], outs := [], ords := [(2, (OT.seq [0, 2, 1, 3, 4, 5] .done)), (3, (OT.seq [0, 2] (.any [1, 3] (OT.seq [4, 5] .done))))] }
noncomputable def sg_impl_WriteLine : List AK := [.v (.sl tQIIIIE) .k, .v (.int .i64) .k, .v (.int .i64) .k]
noncomputable def F_impl_WriteLine (N : Nat) (x : AVals sg_impl_WriteLine) (kf : Ret → Option Ret) : Option Ret := impl_WriteLine N x.1 x.2.1 x.2.2.1 (fun r0 r1 => kf ⟨[⟨(.sl tQIIIIE), (.o 126 none .k), r0⟩, ⟨.bool, .k, r1⟩], []⟩)
noncomputable def run_impl_WriteLine (N : Nat) := runOf sg_impl_WriteLine (F_impl_WriteLine N)
noncomputable def es_impl_WriteLine (N : Nat) : List Entry := [⟨183, [.val], (run_impl_LastSeal N)⟩, ⟨172, [.val, .val], (run_impl_lineSeal N)⟩, ⟨140, [.val], (run_slices_Clone_Line N)⟩, ⟨106, [.val], (run_impl_AreMinutes N)⟩]
noncomputable def body_impl_WriteLine : Code := match Tryz.f141.body with | some c => c | none => .skip
noncomputable def L_impl_WriteLine (N n : Nat) (key : Nat) (S : St) (K : Ks) : Option Ret := none
theorem L0_impl_WriteLine (N key : Nat) (S : St) (K : Ks) : L_impl_WriteLine N 0 key S K = none := rfl
theorem ls_impl_WriteLine : loopsIn body_impl_WriteLine = [] := by kernel_rfl
theorem fn_impl_WriteLine (N : Nat) (x : AVals sg_impl_WriteLine) (kf : Ret → Option Ret) : F_impl_WriteLine N x kf = peFunc h_impl_WriteLine (Orc.of (es_impl_WriteLine N)) (L_impl_WriteLine N N) Tryz.f141 (ashape sg_impl_WriteLine x) kf := by kernel_rfl
theorem sd_impl_WriteLine (N : Nat) : Sound Tryz.prog 141 (run_impl_WriteLine N) := fun_ok2 (hh := h_impl_WriteLine) mixed tab_ok (es := es_impl_WriteLine N) ⟨sd_impl_LastSeal N, ⟨sd_impl_lineSeal N, ⟨sd_slices_Clone_Line N, ⟨sd_impl_AreMinutes N, trivial⟩⟩⟩⟩ (fn := Tryz.f141) (body := body_impl_WriteLine) (by kernel_rfl) (by kernel_rfl) (by kernel_rfl) (by kernel_rfl) (by kernel_rfl) (Lf := L_impl_WriteLine N) (L0_impl_WriteLine N) ls_impl_WriteLine trivial (N := N) (by kernel_rfl) (fn_impl_WriteLine N) (.inl (by kernel_rfl))
/-! impl_stepped -/
noncomputable def h_impl_stepped : Hint := { tab, hn := [], loops := [], outs := [], ords := [] }
noncomputable def sg_impl_stepped : List AK := [.v tQLQIIIIILIELQIILIELQIIELILQIIIELQIIIIEIE .k, .v tQLQIIIIILIELQIILIELQIIELILQIIIELQIIIIEIE (.p (.o 92 none (.p .k (.p .k (.p .k (.p .k (.p .k (.o 3 none .k))))))) (.p (.o 97 none (.p .k (.p .k (.o 3 none .k)))) (.p (.o 107 none .k) (.p (.o 3 none .k) (.p (.o 71 none .k) (.p (.o 126 none .k) .k)))))), .v (.int .i64) .k, .v (.int .i64) .k]
noncomputable def F_impl_stepped (N : Nat) (x : AVals sg_impl_stepped) (kf : Ret → Option Ret) : Option Ret := impl_stepped N x.1 x.2.1 x.2.2.1 x.2.2.2.1 (fun r0 r1 => kf ⟨[⟨tQLQIIIIILIELQIILIELQIIELILQIIIELQIIIIEIE, (.p (.o 92 none (.p .k (.p .k (.p .k (.p .k (.p .k (.o 3 none .k))))))) (.p (.o 97 none (.p .k (.p .k (.o 3 none .k)))) (.p (.o 107 none .k) (.p (.o 3 none .k) (.p (.o 71 none .k) (.p (.o 126 none .k) .k)))))), r0⟩, ⟨.bool, .k, r1⟩], []⟩)
noncomputable def run_impl_stepped (N : Nat) := runOf sg_impl_stepped (F_impl_stepped N)
noncomputable def es_impl_stepped (N : Nat) : List Entry := [⟨141, [.val, .val, .val], (run_impl_WriteLine N)⟩, ⟨34, [.val], (run_impl_IsClub N)⟩, ⟨57, [.val], (run_impl_cloneClub N)⟩]
noncomputable def body_impl_stepped : Code := match Tryz.f59.body with | some c => c | none => .skip
noncomputable def L_impl_stepped (N n : Nat) (key : Nat) (S : St) (K : Ks) : Option Ret := none
theorem L0_impl_stepped (N key : Nat) (S : St) (K : Ks) : L_impl_stepped N 0 key S K = none := rfl
theorem ls_impl_stepped : loopsIn body_impl_stepped = [] := by kernel_rfl
theorem fn_impl_stepped (N : Nat) (x : AVals sg_impl_stepped) (kf : Ret → Option Ret) : F_impl_stepped N x kf = peFunc h_impl_stepped (Orc.of (es_impl_stepped N)) (L_impl_stepped N N) Tryz.f59 (ashape sg_impl_stepped x) kf := by kernel_rfl
theorem sd_impl_stepped (N : Nat) : Sound Tryz.prog 59 (run_impl_stepped N) := fun_ok2 (hh := h_impl_stepped) mixed tab_ok (es := es_impl_stepped N) ⟨sd_impl_WriteLine N, ⟨sd_impl_IsClub N, ⟨sd_impl_cloneClub N, trivial⟩⟩⟩ (fn := Tryz.f59) (body := body_impl_stepped) (by kernel_rfl) (by kernel_rfl) (by kernel_rfl) (by kernel_rfl) (by kernel_rfl) (Lf := L_impl_stepped N) (L0_impl_stepped N) ls_impl_stepped trivial (N := N) (by kernel_rfl) (fn_impl_stepped N) (.inl (by kernel_rfl))
/-! laws_eqIntS -/
noncomputable def ks_laws_eqIntS_l4 : List Kd := [.v (.sl (.int .i64)) .k, .v (.sl (.int .i64)) .k, dK, dK, dK, .v (.int .i64) .k, dK, dK, dK, dK, dK, dK, dK, dK, dK, dK, dK, dK, dK, dK, dK, dK, dK, dK, dK, dK]
noncomputable def ko_laws_eqIntS_l4_0 : List Kd := [dK, dK, dK, dK, dK, dK, dK, dK, dK, dK, dK, dK, dK, dK, dK, dK, dK, dK, dK, dK, dK, dK, dK, dK, dK, dK]
noncomputable def ko_laws_eqIntS_l4_1 : List Kd := [dK, dK, dK, dK, .v .bool .k, dK, dK, dK, dK, dK, dK, dK, dK, dK, dK, dK, dK, dK, dK, dK, dK, dK, dK, dK, dK, dK]
noncomputable def h_laws_eqIntS : Hint := { tab, hn := [], loops := [(4, ks_laws_eqIntS_l4)], outs := [(4, 2, ko_laws_eqIntS_l4_0), (4, 1, ko_laws_eqIntS_l4_1)], ords := [(6, (OT.seq [0, 1, 2, 3, 4, 5, 6, 7, 8] .done))] }
noncomputable def sg_laws_eqIntS : List AK := [.v (.sl (.int .i64)) .k, .v (.sl (.int .i64)) .k]
noncomputable def F_laws_eqIntS (N : Nat) (x : AVals sg_laws_eqIntS) (kf : Ret → Option Ret) : Option Ret := laws_eqIntS N x.1 x.2.1 (fun r0 => kf ⟨[⟨.bool, .k, r0⟩], []⟩)
noncomputable def run_laws_eqIntS (N : Nat) := runOf sg_laws_eqIntS (F_laws_eqIntS N)
noncomputable def es_laws_eqIntS (N : Nat) : List Entry := []
noncomputable def body_laws_eqIntS : Code := match Tryz.f63.body with | some c => c | none => .skip
noncomputable def L_laws_eqIntS (N n : Nat) (key : Nat) (S : St) (K : Ks) : Option Ret := bif Nat.beq key 4 then withVals ks_laws_eqIntS_l4 S (fun x => laws_eqIntS_l4 x.1 x.2.1 n (K (.x 0) (shape ko_laws_eqIntS_l4_0 ())) (fun z0 => K .r (shape ko_laws_eqIntS_l4_1 (z0, ()))) x.2.2.1) else none
theorem L0_laws_eqIntS (N key : Nat) (S : St) (K : Ks) : L_laws_eqIntS N 0 key S K = none := (bif0 (withVals0 fun _ => rfl) rfl)
noncomputable def c_laws_eqIntS_0 : Code := (loopsIn body_laws_eqIntS).getD 0 .skip
theorem ls_laws_eqIntS : loopsIn body_laws_eqIntS = [c_laws_eqIntS_0] := by kernel_rfl
theorem rd_laws_eqIntS_4 (N n : Nat) (x : Vals ks_laws_eqIntS_l4) (K : Ks) : L_laws_eqIntS N (n + 1) 4 (shape ks_laws_eqIntS_l4 x) (h_laws_eqIntS.onOut 4 K) = peRound h_laws_eqIntS (Orc.of (es_laws_eqIntS N)) (mixL (L_laws_eqIntS N) N n 4) c_laws_eqIntS_0 (shape ks_laws_eqIntS_l4 x) (h_laws_eqIntS.onOut 4 K) := by kernel_rfl
theorem fn_laws_eqIntS (N : Nat) (x : AVals sg_laws_eqIntS) (kf : Ret → Option Ret) : F_laws_eqIntS N x kf = peFunc h_laws_eqIntS (Orc.of (es_laws_eqIntS N)) (L_laws_eqIntS N N) Tryz.f63 (ashape sg_laws_eqIntS x) kf := by kernel_rfl
theorem sd_laws_eqIntS (N : Nat) : Sound Tryz.prog 63 (run_laws_eqIntS N) := fun_ok2 (hh := h_laws_eqIntS) mixed tab_ok (es := es_laws_eqIntS N) trivial (fn := Tryz.f63) (body := body_laws_eqIntS) (by kernel_rfl) (by kernel_rfl) (by kernel_rfl) (by kernel_rfl) (by kernel_rfl) (Lf := L_laws_eqIntS N) (L0_laws_eqIntS N) ls_laws_eqIntS (round_cons (key := 4) (ks := ks_laws_eqIntS_l4) (by kernel_rfl) (by kernel_rfl) (rd_laws_eqIntS_4 N) trivial) (N := N) (by kernel_rfl) (fn_laws_eqIntS N) (.inl (by kernel_rfl))
/-! laws_eqTeam -/
noncomputable def h_laws_eqTeam : Hint := { tab, hn := [], loops := [], outs := [], ords := [] }
noncomputable def sg_laws_eqTeam : List AK := [.v tQIIIIILIE .k, .v tQIIIIILIE .k]
noncomputable def F_laws_eqTeam (N : Nat) (x : AVals sg_laws_eqTeam) (kf : Ret → Option Ret) : Option Ret := laws_eqTeam N x.1 x.2.1 (fun r0 => kf ⟨[⟨.bool, .k, r0⟩], []⟩)
noncomputable def run_laws_eqTeam (N : Nat) := runOf sg_laws_eqTeam (F_laws_eqTeam N)
noncomputable def es_laws_eqTeam (N : Nat) : List Entry := [⟨63, [.val, .val], (run_laws_eqIntS N)⟩]
noncomputable def body_laws_eqTeam : Code := match Tryz.f142.body with | some c => c | none => .skip
noncomputable def L_laws_eqTeam (N n : Nat) (key : Nat) (S : St) (K : Ks) : Option Ret := none
theorem L0_laws_eqTeam (N key : Nat) (S : St) (K : Ks) : L_laws_eqTeam N 0 key S K = none := rfl
theorem ls_laws_eqTeam : loopsIn body_laws_eqTeam = [] := by kernel_rfl
theorem fn_laws_eqTeam (N : Nat) (x : AVals sg_laws_eqTeam) (kf : Ret → Option Ret) : F_laws_eqTeam N x kf = peFunc h_laws_eqTeam (Orc.of (es_laws_eqTeam N)) (L_laws_eqTeam N N) Tryz.f142 (ashape sg_laws_eqTeam x) kf := by kernel_rfl
theorem sd_laws_eqTeam (N : Nat) : Sound Tryz.prog 142 (run_laws_eqTeam N) := fun_ok2 (hh := h_laws_eqTeam) mixed tab_ok (es := es_laws_eqTeam N) ⟨sd_laws_eqIntS N, trivial⟩ (fn := Tryz.f142) (body := body_laws_eqTeam) (by kernel_rfl) (by kernel_rfl) (by kernel_rfl) (by kernel_rfl) (by kernel_rfl) (Lf := L_laws_eqTeam N) (L0_laws_eqTeam N) ls_laws_eqTeam trivial (N := N) (by kernel_rfl) (fn_laws_eqTeam N) (.inl (by kernel_rfl))
/-! laws_eqTeamS -/
noncomputable def ks_laws_eqTeamS_l4 : List Kd := [.v (.sl tQIIIIILIE) .k, .v (.sl tQIIIIILIE) .k, dK, dK, dK, .v (.int .i64) .k, dK, dK, dK, dK, dK, dK, dK, dK, dK, dK, dK, dK, dK, dK, dK, dK, dK, dK, dK, dK, dK]
noncomputable def ko_laws_eqTeamS_l4_0 : List Kd := [dK, dK, dK, dK, dK, dK, dK, dK, dK, dK, dK, dK, dK, dK, dK, dK, dK, dK, dK, dK, dK, dK, dK, dK, dK, dK, dK]
noncomputable def ko_laws_eqTeamS_l4_1 : List Kd := [dK, dK, dK, dK, .v .bool .k, dK, dK, dK, dK, dK, dK, dK, dK, dK, dK, dK, dK, dK, dK, dK, dK, dK, dK, dK, dK, dK, dK]
noncomputable def h_laws_eqTeamS : Hint := { tab, hn := [], loops := [(4, ks_laws_eqTeamS_l4)], outs := [(4, 2, ko_laws_eqTeamS_l4_0), (4, 1, ko_laws_eqTeamS_l4_1)], ords := [(6, (OT.seq [0, 1, 2, 3, 4, 5, 6, 7, 8, 9] .done))] }
noncomputable def sg_laws_eqTeamS : List AK := [.v (.sl tQIIIIILIE) .k, .v (.sl tQIIIIILIE) .k]
noncomputable def F_laws_eqTeamS (N : Nat) (x : AVals sg_laws_eqTeamS) (kf : Ret → Option Ret) : Option Ret := laws_eqTeamS N x.1 x.2.1 (fun r0 => kf ⟨[⟨.bool, .k, r0⟩], []⟩)
noncomputable def run_laws_eqTeamS (N : Nat) := runOf sg_laws_eqTeamS (F_laws_eqTeamS N)
noncomputable def es_laws_eqTeamS (N : Nat) : List Entry := [⟨142, [.val, .val], (run_laws_eqTeam N)⟩]
noncomputable def body_laws_eqTeamS : Code := match Tryz.f60.body with | some c => c | none => .skip
noncomputable def L_laws_eqTeamS (N n : Nat) (key : Nat) (S : St) (K : Ks) : Option Ret := bif Nat.beq key 4 then withVals ks_laws_eqTeamS_l4 S (fun x => laws_eqTeamS_l4 N x.1 x.2.1 n (K (.x 0) (shape ko_laws_eqTeamS_l4_0 ())) (fun z0 => K .r (shape ko_laws_eqTeamS_l4_1 (z0, ()))) x.2.2.1) else none
theorem L0_laws_eqTeamS (N key : Nat) (S : St) (K : Ks) : L_laws_eqTeamS N 0 key S K = none := (bif0 (withVals0 fun _ => rfl) rfl)
noncomputable def c_laws_eqTeamS_0 : Code := (loopsIn body_laws_eqTeamS).getD 0 .skip
theorem ls_laws_eqTeamS : loopsIn body_laws_eqTeamS = [c_laws_eqTeamS_0] := by kernel_rfl
theorem rd_laws_eqTeamS_4 (N n : Nat) (x : Vals ks_laws_eqTeamS_l4) (K : Ks) : L_laws_eqTeamS N (n + 1) 4 (shape ks_laws_eqTeamS_l4 x) (h_laws_eqTeamS.onOut 4 K) = peRound h_laws_eqTeamS (Orc.of (es_laws_eqTeamS N)) (mixL (L_laws_eqTeamS N) N n 4) c_laws_eqTeamS_0 (shape ks_laws_eqTeamS_l4 x) (h_laws_eqTeamS.onOut 4 K) := by kernel_rfl
theorem fn_laws_eqTeamS (N : Nat) (x : AVals sg_laws_eqTeamS) (kf : Ret → Option Ret) : F_laws_eqTeamS N x kf = peFunc h_laws_eqTeamS (Orc.of (es_laws_eqTeamS N)) (L_laws_eqTeamS N N) Tryz.f60 (ashape sg_laws_eqTeamS x) kf := by kernel_rfl
theorem sd_laws_eqTeamS (N : Nat) : Sound Tryz.prog 60 (run_laws_eqTeamS N) := fun_ok2 (hh := h_laws_eqTeamS) mixed tab_ok (es := es_laws_eqTeamS N) ⟨sd_laws_eqTeam N, trivial⟩ (fn := Tryz.f60) (body := body_laws_eqTeamS) (by kernel_rfl) (by kernel_rfl) (by kernel_rfl) (by kernel_rfl) (by kernel_rfl) (Lf := L_laws_eqTeamS N) (L0_laws_eqTeamS N) ls_laws_eqTeamS (round_cons (key := 4) (ks := ks_laws_eqTeamS_l4) (by kernel_rfl) (by kernel_rfl) (rd_laws_eqTeamS_4 N) trivial) (N := N) (by kernel_rfl) (fn_laws_eqTeamS N) (.inl (by kernel_rfl))
/-! laws_eqJudge -/
noncomputable def h_laws_eqJudge : Hint := { tab, hn := [], loops := [], outs := [], ords := [] }
noncomputable def sg_laws_eqJudge : List AK := [.v tQIILIE .k, .v tQIILIE .k]
noncomputable def F_laws_eqJudge (N : Nat) (x : AVals sg_laws_eqJudge) (kf : Ret → Option Ret) : Option Ret := laws_eqJudge N x.1 x.2.1 (fun r0 => kf ⟨[⟨.bool, .k, r0⟩], []⟩)
noncomputable def run_laws_eqJudge (N : Nat) := runOf sg_laws_eqJudge (F_laws_eqJudge N)
noncomputable def es_laws_eqJudge (N : Nat) : List Entry := [⟨63, [.val, .val], (run_laws_eqIntS N)⟩]
noncomputable def body_laws_eqJudge : Code := match Tryz.f143.body with | some c => c | none => .skip
noncomputable def L_laws_eqJudge (N n : Nat) (key : Nat) (S : St) (K : Ks) : Option Ret := none
theorem L0_laws_eqJudge (N key : Nat) (S : St) (K : Ks) : L_laws_eqJudge N 0 key S K = none := rfl
theorem ls_laws_eqJudge : loopsIn body_laws_eqJudge = [] := by kernel_rfl
theorem fn_laws_eqJudge (N : Nat) (x : AVals sg_laws_eqJudge) (kf : Ret → Option Ret) : F_laws_eqJudge N x kf = peFunc h_laws_eqJudge (Orc.of (es_laws_eqJudge N)) (L_laws_eqJudge N N) Tryz.f143 (ashape sg_laws_eqJudge x) kf := by kernel_rfl
theorem sd_laws_eqJudge (N : Nat) : Sound Tryz.prog 143 (run_laws_eqJudge N) := fun_ok2 (hh := h_laws_eqJudge) mixed tab_ok (es := es_laws_eqJudge N) ⟨sd_laws_eqIntS N, trivial⟩ (fn := Tryz.f143) (body := body_laws_eqJudge) (by kernel_rfl) (by kernel_rfl) (by kernel_rfl) (by kernel_rfl) (by kernel_rfl) (Lf := L_laws_eqJudge N) (L0_laws_eqJudge N) ls_laws_eqJudge trivial (N := N) (by kernel_rfl) (fn_laws_eqJudge N) (.inl (by kernel_rfl))
/-! laws_eqJudgeS -/
noncomputable def ks_laws_eqJudgeS_l4 : List Kd := [.v (.sl tQIILIE) .k, .v (.sl tQIILIE) .k, dK, dK, dK, .v (.int .i64) .k, dK, dK, dK, dK, dK, dK, dK, dK, dK, dK, dK, dK, dK, dK, dK, dK, dK, dK, dK, dK, dK]
noncomputable def ko_laws_eqJudgeS_l4_0 : List Kd := [dK, dK, dK, dK, dK, dK, dK, dK, dK, dK, dK, dK, dK, dK, dK, dK, dK, dK, dK, dK, dK, dK, dK, dK, dK, dK, dK]
noncomputable def ko_laws_eqJudgeS_l4_1 : List Kd := [dK, dK, dK, dK, .v .bool .k, dK, dK, dK, dK, dK, dK, dK, dK, dK, dK, dK, dK, dK, dK, dK, dK, dK, dK, dK, dK, dK, dK]
noncomputable def h_laws_eqJudgeS : Hint := { tab, hn := [], loops := [(4, ks_laws_eqJudgeS_l4)], outs := [(4, 2, ko_laws_eqJudgeS_l4_0), (4, 1, ko_laws_eqJudgeS_l4_1)], ords := [(6, (OT.seq [0, 1, 2, 3, 4, 5, 6, 7, 8, 9] .done))] }
noncomputable def sg_laws_eqJudgeS : List AK := [.v (.sl tQIILIE) .k, .v (.sl tQIILIE) .k]
noncomputable def F_laws_eqJudgeS (N : Nat) (x : AVals sg_laws_eqJudgeS) (kf : Ret → Option Ret) : Option Ret := laws_eqJudgeS N x.1 x.2.1 (fun r0 => kf ⟨[⟨.bool, .k, r0⟩], []⟩)
noncomputable def run_laws_eqJudgeS (N : Nat) := runOf sg_laws_eqJudgeS (F_laws_eqJudgeS N)
noncomputable def es_laws_eqJudgeS (N : Nat) : List Entry := [⟨143, [.val, .val], (run_laws_eqJudge N)⟩]
noncomputable def body_laws_eqJudgeS : Code := match Tryz.f61.body with | some c => c | none => .skip
noncomputable def L_laws_eqJudgeS (N n : Nat) (key : Nat) (S : St) (K : Ks) : Option Ret := bif Nat.beq key 4 then withVals ks_laws_eqJudgeS_l4 S (fun x => laws_eqJudgeS_l4 N x.1 x.2.1 n (K (.x 0) (shape ko_laws_eqJudgeS_l4_0 ())) (fun z0 => K .r (shape ko_laws_eqJudgeS_l4_1 (z0, ()))) x.2.2.1) else none
theorem L0_laws_eqJudgeS (N key : Nat) (S : St) (K : Ks) : L_laws_eqJudgeS N 0 key S K = none := (bif0 (withVals0 fun _ => rfl) rfl)
noncomputable def c_laws_eqJudgeS_0 : Code := (loopsIn body_laws_eqJudgeS).getD 0 .skip
theorem ls_laws_eqJudgeS : loopsIn body_laws_eqJudgeS = [c_laws_eqJudgeS_0] := by kernel_rfl
theorem rd_laws_eqJudgeS_4 (N n : Nat) (x : Vals ks_laws_eqJudgeS_l4) (K : Ks) : L_laws_eqJudgeS N (n + 1) 4 (shape ks_laws_eqJudgeS_l4 x) (h_laws_eqJudgeS.onOut 4 K) = peRound h_laws_eqJudgeS (Orc.of (es_laws_eqJudgeS N)) (mixL (L_laws_eqJudgeS N) N n 4) c_laws_eqJudgeS_0 (shape ks_laws_eqJudgeS_l4 x) (h_laws_eqJudgeS.onOut 4 K) := by kernel_rfl
theorem fn_laws_eqJudgeS (N : Nat) (x : AVals sg_laws_eqJudgeS) (kf : Ret → Option Ret) : F_laws_eqJudgeS N x kf = peFunc h_laws_eqJudgeS (Orc.of (es_laws_eqJudgeS N)) (L_laws_eqJudgeS N N) Tryz.f61 (ashape sg_laws_eqJudgeS x) kf := by kernel_rfl
theorem sd_laws_eqJudgeS (N : Nat) : Sound Tryz.prog 61 (run_laws_eqJudgeS N) := fun_ok2 (hh := h_laws_eqJudgeS) mixed tab_ok (es := es_laws_eqJudgeS N) ⟨sd_laws_eqJudge N, trivial⟩ (fn := Tryz.f61) (body := body_laws_eqJudgeS) (by kernel_rfl) (by kernel_rfl) (by kernel_rfl) (by kernel_rfl) (by kernel_rfl) (Lf := L_laws_eqJudgeS N) (L0_laws_eqJudgeS N) ls_laws_eqJudgeS (round_cons (key := 4) (ks := ks_laws_eqJudgeS_l4) (by kernel_rfl) (by kernel_rfl) (rd_laws_eqJudgeS_4 N) trivial) (N := N) (by kernel_rfl) (fn_laws_eqJudgeS N) (.inl (by kernel_rfl))
/-! laws_eqPair -/
noncomputable def h_laws_eqPair : Hint := { tab, hn := [], loops := [], outs := [], ords := [] }
noncomputable def sg_laws_eqPair : List AK := [.v tQIIE .k, .v tQIIE .k]
noncomputable def F_laws_eqPair (N : Nat) (x : AVals sg_laws_eqPair) (kf : Ret → Option Ret) : Option Ret := laws_eqPair N x.1 x.2.1 (fun r0 => kf ⟨[⟨.bool, .k, r0⟩], []⟩)
noncomputable def run_laws_eqPair (N : Nat) := runOf sg_laws_eqPair (F_laws_eqPair N)
noncomputable def es_laws_eqPair (N : Nat) : List Entry := []
noncomputable def body_laws_eqPair : Code := match Tryz.f144.body with | some c => c | none => .skip
noncomputable def L_laws_eqPair (N n : Nat) (key : Nat) (S : St) (K : Ks) : Option Ret := none
theorem L0_laws_eqPair (N key : Nat) (S : St) (K : Ks) : L_laws_eqPair N 0 key S K = none := rfl
theorem ls_laws_eqPair : loopsIn body_laws_eqPair = [] := by kernel_rfl
theorem fn_laws_eqPair (N : Nat) (x : AVals sg_laws_eqPair) (kf : Ret → Option Ret) : F_laws_eqPair N x kf = peFunc h_laws_eqPair (Orc.of (es_laws_eqPair N)) (L_laws_eqPair N N) Tryz.f144 (ashape sg_laws_eqPair x) kf := by kernel_rfl
theorem sd_laws_eqPair (N : Nat) : Sound Tryz.prog 144 (run_laws_eqPair N) := fun_ok2 (hh := h_laws_eqPair) mixed tab_ok (es := es_laws_eqPair N) trivial (fn := Tryz.f144) (body := body_laws_eqPair) (by kernel_rfl) (by kernel_rfl) (by kernel_rfl) (by kernel_rfl) (by kernel_rfl) (Lf := L_laws_eqPair N) (L0_laws_eqPair N) ls_laws_eqPair trivial (N := N) (by kernel_rfl) (fn_laws_eqPair N) (.inl (by kernel_rfl))
/-! laws_eqPairS -/
noncomputable def ks_laws_eqPairS_l4 : List Kd := [.v (.sl tQIIE) .k, .v (.sl tQIIE) .k, dK, dK, dK, .v (.int .i64) .k, dK, dK, dK, dK, dK, dK, dK, dK, dK, dK, dK, dK, dK, dK, dK, dK, dK, dK, dK, dK, dK]
noncomputable def ko_laws_eqPairS_l4_0 : List Kd := [dK, dK, dK, dK, dK, dK, dK, dK, dK, dK, dK, dK, dK, dK, dK, dK, dK, dK, dK, dK, dK, dK, dK, dK, dK, dK, dK]
noncomputable def ko_laws_eqPairS_l4_1 : List Kd := [dK, dK, dK, dK, .v .bool .k, dK, dK, dK, dK, dK, dK, dK, dK, dK, dK, dK, dK, dK, dK, dK, dK, dK, dK, dK, dK, dK, dK]
noncomputable def h_laws_eqPairS : Hint := { tab, hn := [], loops := [(4, ks_laws_eqPairS_l4)], outs := [(4, 2, ko_laws_eqPairS_l4_0), (4, 1, ko_laws_eqPairS_l4_1)], ords := [(6, (OT.seq [0, 1, 2, 3, 4, 5, 6, 7, 8, 9] .done))] }
noncomputable def sg_laws_eqPairS : List AK := [.v (.sl tQIIE) .k, .v (.sl tQIIE) .k]
noncomputable def F_laws_eqPairS (N : Nat) (x : AVals sg_laws_eqPairS) (kf : Ret → Option Ret) : Option Ret := laws_eqPairS N x.1 x.2.1 (fun r0 => kf ⟨[⟨.bool, .k, r0⟩], []⟩)
noncomputable def run_laws_eqPairS (N : Nat) := runOf sg_laws_eqPairS (F_laws_eqPairS N)
noncomputable def es_laws_eqPairS (N : Nat) : List Entry := [⟨144, [.val, .val], (run_laws_eqPair N)⟩]
noncomputable def body_laws_eqPairS : Code := match Tryz.f62.body with | some c => c | none => .skip
noncomputable def L_laws_eqPairS (N n : Nat) (key : Nat) (S : St) (K : Ks) : Option Ret := bif Nat.beq key 4 then withVals ks_laws_eqPairS_l4 S (fun x => laws_eqPairS_l4 N x.1 x.2.1 n (K (.x 0) (shape ko_laws_eqPairS_l4_0 ())) (fun z0 => K .r (shape ko_laws_eqPairS_l4_1 (z0, ()))) x.2.2.1) else none
theorem L0_laws_eqPairS (N key : Nat) (S : St) (K : Ks) : L_laws_eqPairS N 0 key S K = none := (bif0 (withVals0 fun _ => rfl) rfl)
noncomputable def c_laws_eqPairS_0 : Code := (loopsIn body_laws_eqPairS).getD 0 .skip
theorem ls_laws_eqPairS : loopsIn body_laws_eqPairS = [c_laws_eqPairS_0] := by kernel_rfl
theorem rd_laws_eqPairS_4 (N n : Nat) (x : Vals ks_laws_eqPairS_l4) (K : Ks) : L_laws_eqPairS N (n + 1) 4 (shape ks_laws_eqPairS_l4 x) (h_laws_eqPairS.onOut 4 K) = peRound h_laws_eqPairS (Orc.of (es_laws_eqPairS N)) (mixL (L_laws_eqPairS N) N n 4) c_laws_eqPairS_0 (shape ks_laws_eqPairS_l4 x) (h_laws_eqPairS.onOut 4 K) := by kernel_rfl
theorem fn_laws_eqPairS (N : Nat) (x : AVals sg_laws_eqPairS) (kf : Ret → Option Ret) : F_laws_eqPairS N x kf = peFunc h_laws_eqPairS (Orc.of (es_laws_eqPairS N)) (L_laws_eqPairS N N) Tryz.f62 (ashape sg_laws_eqPairS x) kf := by kernel_rfl
theorem sd_laws_eqPairS (N : Nat) : Sound Tryz.prog 62 (run_laws_eqPairS N) := fun_ok2 (hh := h_laws_eqPairS) mixed tab_ok (es := es_laws_eqPairS N) ⟨sd_laws_eqPair N, trivial⟩ (fn := Tryz.f62) (body := body_laws_eqPairS) (by kernel_rfl) (by kernel_rfl) (by kernel_rfl) (by kernel_rfl) (by kernel_rfl) (Lf := L_laws_eqPairS N) (L0_laws_eqPairS N) ls_laws_eqPairS (round_cons (key := 4) (ks := ks_laws_eqPairS_l4) (by kernel_rfl) (by kernel_rfl) (rd_laws_eqPairS_4 N) trivial) (N := N) (by kernel_rfl) (fn_laws_eqPairS N) (.inl (by kernel_rfl))
/-! laws_eqBallot -/
noncomputable def h_laws_eqBallot : Hint := { tab, hn := [], loops := [], outs := [], ords := [] }
noncomputable def sg_laws_eqBallot : List AK := [.v tQIIIE .k, .v tQIIIE .k]
noncomputable def F_laws_eqBallot (N : Nat) (x : AVals sg_laws_eqBallot) (kf : Ret → Option Ret) : Option Ret := laws_eqBallot N x.1 x.2.1 (fun r0 => kf ⟨[⟨.bool, .k, r0⟩], []⟩)
noncomputable def run_laws_eqBallot (N : Nat) := runOf sg_laws_eqBallot (F_laws_eqBallot N)
noncomputable def es_laws_eqBallot (N : Nat) : List Entry := []
noncomputable def body_laws_eqBallot : Code := match Tryz.f145.body with | some c => c | none => .skip
noncomputable def L_laws_eqBallot (N n : Nat) (key : Nat) (S : St) (K : Ks) : Option Ret := none
theorem L0_laws_eqBallot (N key : Nat) (S : St) (K : Ks) : L_laws_eqBallot N 0 key S K = none := rfl
theorem ls_laws_eqBallot : loopsIn body_laws_eqBallot = [] := by kernel_rfl
theorem fn_laws_eqBallot (N : Nat) (x : AVals sg_laws_eqBallot) (kf : Ret → Option Ret) : F_laws_eqBallot N x kf = peFunc h_laws_eqBallot (Orc.of (es_laws_eqBallot N)) (L_laws_eqBallot N N) Tryz.f145 (ashape sg_laws_eqBallot x) kf := by kernel_rfl
theorem sd_laws_eqBallot (N : Nat) : Sound Tryz.prog 145 (run_laws_eqBallot N) := fun_ok2 (hh := h_laws_eqBallot) mixed tab_ok (es := es_laws_eqBallot N) trivial (fn := Tryz.f145) (body := body_laws_eqBallot) (by kernel_rfl) (by kernel_rfl) (by kernel_rfl) (by kernel_rfl) (by kernel_rfl) (Lf := L_laws_eqBallot N) (L0_laws_eqBallot N) ls_laws_eqBallot trivial (N := N) (by kernel_rfl) (fn_laws_eqBallot N) (.inl (by kernel_rfl))
end Go.Pv.R
