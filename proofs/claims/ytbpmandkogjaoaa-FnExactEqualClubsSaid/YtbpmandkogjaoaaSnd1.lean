/- Each function of the program that the law reaches computes its plain function, part 1. -/
import Derived.Test.YtbpmandkogjaoaaSnd0
import Derived.Test.YtbpmandkogjaoaaProg
namespace Go.Pv.R
open Go.Proofs
set_option linter.unusedVariables false
set_option maxRecDepth 100000
/-! slices_Equal_Line -/
noncomputable def ks_slices_Equal_Line_l4 : List Kd := [.v (.sl tQIIIIE) .k, .v (.sl tQIIIIE) .k, dK, dK, dK, dK, dK, dK, dK, dK, dK, dK, .v (.int .i64) .k, .v (.int .i64) .k, dK, dK, dK, dK, dK, dK, dK, dK, dK, dK, dK, dK]
noncomputable def ko_slices_Equal_Line_l4_0 : List Kd := [dK, dK, dK, dK, dK, dK, dK, dK, dK, dK, dK, dK, dK, dK, dK, dK, dK, dK, dK, dK, dK, dK, dK, dK, dK, dK]
noncomputable def ko_slices_Equal_Line_l4_1 : List Kd := [dK, dK, dK, dK, .v .bool .k, dK, dK, dK, dK, dK, dK, dK, dK, dK, dK, dK, dK, dK, dK, dK, dK, dK, dK, dK, dK, dK]
noncomputable def h_slices_Equal_Line : Hint := { tab, hn := [], loops := [(4, ks_slices_Equal_Line_l4)], outs := [(4, 2, ko_slices_Equal_Line_l4_0), (4, 1, ko_slices_Equal_Line_l4_1)], ords := [(6, (OT.seq [0, 1, 2, 3, 4, 5, 6, 7, 8] .done))] }
noncomputable def sg_slices_Equal_Line : List AK := [.v (.sl tQIIIIE) .k, .v (.sl tQIIIIE) .k]
noncomputable def F_slices_Equal_Line (N : Nat) (x : AVals sg_slices_Equal_Line) (kf : Ret → Option Ret) : Option Ret := slices_Equal_Line N x.1 x.2.1 (fun r0 => kf ⟨[⟨.bool, .k, r0⟩], []⟩)
noncomputable def run_slices_Equal_Line (N : Nat) := runOf sg_slices_Equal_Line (F_slices_Equal_Line N)
noncomputable def es_slices_Equal_Line (N : Nat) : List Entry := []
noncomputable def body_slices_Equal_Line : Code := match Try.f65.body with | some c => c | none => .skip
noncomputable def L_slices_Equal_Line (N n : Nat) (key : Nat) (S : St) (K : Ks) : Option Ret := bif Nat.beq key 4 then withVals ks_slices_Equal_Line_l4 S (fun x => slices_Equal_Line_l4 x.1 x.2.1 x.2.2.1 n (K (.x 0) (shape ko_slices_Equal_Line_l4_0 ())) (fun z0 => K .r (shape ko_slices_Equal_Line_l4_1 (z0, ()))) x.2.2.2.1) else none
theorem L0_slices_Equal_Line (N key : Nat) (S : St) (K : Ks) : L_slices_Equal_Line N 0 key S K = none := (bif0 (withVals0 fun _ => rfl) rfl)
noncomputable def c_slices_Equal_Line_0 : Code := (loopsIn body_slices_Equal_Line).getD 0 .skip
theorem ls_slices_Equal_Line : loopsIn body_slices_Equal_Line = [c_slices_Equal_Line_0] := by kernel_rfl
theorem rd_slices_Equal_Line_4 (N n : Nat) (x : Vals ks_slices_Equal_Line_l4) (K : Ks) : L_slices_Equal_Line N (n + 1) 4 (shape ks_slices_Equal_Line_l4 x) (h_slices_Equal_Line.onOut 4 K) = peRound h_slices_Equal_Line (Orc.of (es_slices_Equal_Line N)) (mixL (L_slices_Equal_Line N) N n 4) c_slices_Equal_Line_0 (shape ks_slices_Equal_Line_l4 x) (h_slices_Equal_Line.onOut 4 K) := by kernel_rfl
theorem fn_slices_Equal_Line (N : Nat) (x : AVals sg_slices_Equal_Line) (kf : Ret → Option Ret) : F_slices_Equal_Line N x kf = peFunc h_slices_Equal_Line (Orc.of (es_slices_Equal_Line N)) (L_slices_Equal_Line N N) Try.f65 (ashape sg_slices_Equal_Line x) kf := by kernel_rfl
theorem sd_slices_Equal_Line (N : Nat) : Sound Try.prog 65 (run_slices_Equal_Line N) := fun_ok2 (hh := h_slices_Equal_Line) mixed tab_ok (es := es_slices_Equal_Line N) trivial (fn := Try.f65) (body := body_slices_Equal_Line) (by kernel_rfl) (by kernel_rfl) (by kernel_rfl) (by kernel_rfl) (by kernel_rfl) (Lf := L_slices_Equal_Line N) (L0_slices_Equal_Line N) ls_slices_Equal_Line (round_cons (key := 4) (ks := ks_slices_Equal_Line_l4) (by kernel_rfl) (by kernel_rfl) (rd_slices_Equal_Line_4 N) trivial) (N := N) (by kernel_rfl) (fn_slices_Equal_Line N)
/-! impl_EqualClubs -/
noncomputable def h_impl_EqualClubs : Hint := { tab, hn := [], loops := [], outs := [], ords := [] }
noncomputable def sg_impl_EqualClubs : List AK := [.v tQLQIIIIILIELQIILIELQIIELILQIIIELQIIIIEIE .k, .v tQLQIIIIILIELQIILIELQIIELILQIIIELQIIIIEIE .k]
noncomputable def F_impl_EqualClubs (N : Nat) (x : AVals sg_impl_EqualClubs) (kf : Ret → Option Ret) : Option Ret := impl_EqualClubs N x.1 x.2.1 (fun r0 => kf ⟨[⟨.bool, .k, r0⟩], []⟩)
noncomputable def run_impl_EqualClubs (N : Nat) := runOf sg_impl_EqualClubs (F_impl_EqualClubs N)
noncomputable def es_impl_EqualClubs (N : Nat) : List Entry := [⟨58, [.val, .val, .val], (run_slices_EqualFunc_Team_impl_EqualClubs_1 N)⟩, ⟨61, [.val, .val, .val], (run_slices_EqualFunc_Judge_impl_EqualClubs_2 N)⟩, ⟨63, [.val, .val], (run_slices_Equal_Pair N)⟩, ⟨60, [.val, .val], (run_slices_Equal_int N)⟩, ⟨64, [.val, .val], (run_slices_Equal_Ballot N)⟩, ⟨65, [.val, .val], (run_slices_Equal_Line N)⟩]
noncomputable def body_impl_EqualClubs : Code := match Try.f24.body with | some c => c | none => .skip
noncomputable def L_impl_EqualClubs (N n : Nat) (key : Nat) (S : St) (K : Ks) : Option Ret := none
theorem L0_impl_EqualClubs (N key : Nat) (S : St) (K : Ks) : L_impl_EqualClubs N 0 key S K = none := rfl
theorem ls_impl_EqualClubs : loopsIn body_impl_EqualClubs = [] := by kernel_rfl
theorem fn_impl_EqualClubs (N : Nat) (x : AVals sg_impl_EqualClubs) (kf : Ret → Option Ret) : F_impl_EqualClubs N x kf = peFunc h_impl_EqualClubs (Orc.of (es_impl_EqualClubs N)) (L_impl_EqualClubs N N) Try.f24 (ashape sg_impl_EqualClubs x) kf := by kernel_rfl
theorem sd_impl_EqualClubs (N : Nat) : Sound Try.prog 24 (run_impl_EqualClubs N) := fun_ok2 (hh := h_impl_EqualClubs) mixed tab_ok (es := es_impl_EqualClubs N) ⟨sd_slices_EqualFunc_Team_impl_EqualClubs_1 N, ⟨sd_slices_EqualFunc_Judge_impl_EqualClubs_2 N, ⟨sd_slices_Equal_Pair N, ⟨sd_slices_Equal_int N, ⟨sd_slices_Equal_Ballot N, ⟨sd_slices_Equal_Line N, trivial⟩⟩⟩⟩⟩⟩ (fn := Try.f24) (body := body_impl_EqualClubs) (by kernel_rfl) (by kernel_rfl) (by kernel_rfl) (by kernel_rfl) (by kernel_rfl) (Lf := L_impl_EqualClubs N) (L0_impl_EqualClubs N) ls_impl_EqualClubs trivial (N := N) (by kernel_rfl) (fn_impl_EqualClubs N)
/-! laws_FnExactEqualClubs -/
noncomputable def h_laws_FnExactEqualClubs : Hint := { tab, hn := [], loops := [], outs := [], ords := [(8, (OT.seq [0, 2, 1, 3, 4, 5] .done)), (14, (OT.seq [0, 1, 2, 3, 4] .done)), (16, (OT.seq [0, 1, 2, 3, 4] .done))] }
noncomputable def sg_laws_FnExactEqualClubs : List AK := [.v tQLQIIIIILIELQIILIELQIIELILQIIIELQIIIIEIE .k, .v tQLQIIIIILIELQIILIELQIIELILQIIIELQIIIIEIE .k]
noncomputable def F_laws_FnExactEqualClubs (N : Nat) (x : AVals sg_laws_FnExactEqualClubs) (kf : Ret → Option Ret) : Option Ret := laws_FnExactEqualClubs N x.1 x.2.1 (fun r0 => kf ⟨[⟨.bool, .k, r0⟩], []⟩)
noncomputable def run_laws_FnExactEqualClubs (N : Nat) := runOf sg_laws_FnExactEqualClubs (F_laws_FnExactEqualClubs N)
noncomputable def es_laws_FnExactEqualClubs (N : Nat) : List Entry := [⟨14, [.val, .val], (run_laws_szClub N)⟩, ⟨16, [.val], (run_laws_toClub N)⟩, ⟨23, [.val, .val], (run_spec_EqualClubs N)⟩, ⟨24, [.val, .val], (run_impl_EqualClubs N)⟩, ⟨18, [.val, .val], (run_laws_eqClub N)⟩]
noncomputable def body_laws_FnExactEqualClubs : Code := match Try.f7.body with | some c => c | none => .skip
noncomputable def L_laws_FnExactEqualClubs (N n : Nat) (key : Nat) (S : St) (K : Ks) : Option Ret := none
theorem L0_laws_FnExactEqualClubs (N key : Nat) (S : St) (K : Ks) : L_laws_FnExactEqualClubs N 0 key S K = none := rfl
theorem ls_laws_FnExactEqualClubs : loopsIn body_laws_FnExactEqualClubs = [] := by kernel_rfl
theorem fn_laws_FnExactEqualClubs (N : Nat) (x : AVals sg_laws_FnExactEqualClubs) (kf : Ret → Option Ret) : F_laws_FnExactEqualClubs N x kf = peFunc h_laws_FnExactEqualClubs (Orc.of (es_laws_FnExactEqualClubs N)) (L_laws_FnExactEqualClubs N N) Try.f7 (ashape sg_laws_FnExactEqualClubs x) kf := by kernel_rfl
theorem sd_laws_FnExactEqualClubs (N : Nat) : Sound Try.prog 7 (run_laws_FnExactEqualClubs N) := fun_ok2 (hh := h_laws_FnExactEqualClubs) mixed tab_ok (es := es_laws_FnExactEqualClubs N) ⟨sd_laws_szClub N, ⟨sd_laws_toClub N, ⟨sd_spec_EqualClubs N, ⟨sd_impl_EqualClubs N, ⟨sd_laws_eqClub N, trivial⟩⟩⟩⟩⟩ (fn := Try.f7) (body := body_laws_FnExactEqualClubs) (by kernel_rfl) (by kernel_rfl) (by kernel_rfl) (by kernel_rfl) (by kernel_rfl) (Lf := L_laws_FnExactEqualClubs N) (L0_laws_FnExactEqualClubs N) ls_laws_FnExactEqualClubs trivial (N := N) (by kernel_rfl) (fn_laws_FnExactEqualClubs N)
end Go.Pv.R
