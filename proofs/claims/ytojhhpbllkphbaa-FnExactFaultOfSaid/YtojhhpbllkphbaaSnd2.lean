/- Each function of the program that the law reaches computes its plain function, part 2. -/
import Derived.Test.YtojhhpbllkphbaaSnd1
import Derived.Test.YtojhhpbllkphbaaProg
namespace Go.Pv.R
open Go.Proofs
set_option linter.unusedVariables false
set_option maxRecDepth 100000
/-! slices_IndexFunc_Judge_impl_judgeAt_1 -/
noncomputable def ks_slices_IndexFunc_Judge_impl_judgeAt_1_l2 : List Kd := [.v (.sl tQIILIE) .k, .clo 169 [.kv (.ptr (.int .i64))], dK, dK, dK, dK, dK, .v (.int .i64) .k, .v (.int .i64) .k, dK, dK, dK, dK, dK, dK, dK, dK, dK, dK]
noncomputable def ko_slices_IndexFunc_Judge_impl_judgeAt_1_l2_0 : List Kd := [dK, dK, dK, dK, dK, dK, dK, dK, dK, dK, dK, dK, dK, dK, dK, dK, dK, dK, dK]
noncomputable def ko_slices_IndexFunc_Judge_impl_judgeAt_1_l2_1 : List Kd := [dK, dK, dK, dK, .v (.int .i64) .k, dK, dK, dK, dK, dK, dK, dK, dK, dK, dK, dK, dK, dK, dK]
noncomputable def h_slices_IndexFunc_Judge_impl_judgeAt_1 : Hint := { tab, hn := [], loops := [(2, ks_slices_IndexFunc_Judge_impl_judgeAt_1_l2)], outs := [(2, 2, ko_slices_IndexFunc_Judge_impl_judgeAt_1_l2_0), (2, 1, ko_slices_IndexFunc_Judge_impl_judgeAt_1_l2_1)], ords := [] }
noncomputable def sg_slices_IndexFunc_Judge_impl_judgeAt_1 : List AK := [.v (.sl tQIILIE) .k, .fn 169 [(.ptr (.int .i64))]]
noncomputable def F_slices_IndexFunc_Judge_impl_judgeAt_1 (N : Nat) (x : AVals sg_slices_IndexFunc_Judge_impl_judgeAt_1) (kf : Ret → Option Ret) : Option Ret := slices_IndexFunc_Judge_impl_judgeAt_1 N x.1 x.2.1.1 (fun r0 => kf ⟨[⟨(.int .i64), .k, r0⟩], []⟩)
noncomputable def run_slices_IndexFunc_Judge_impl_judgeAt_1 (N : Nat) := runOf sg_slices_IndexFunc_Judge_impl_judgeAt_1 (F_slices_IndexFunc_Judge_impl_judgeAt_1 N)
noncomputable def es_slices_IndexFunc_Judge_impl_judgeAt_1 (N : Nat) : List Entry := [⟨169, [.val], (run_impl_judgeAt_1 N)⟩]
noncomputable def body_slices_IndexFunc_Judge_impl_judgeAt_1 : Code := match Try.f144.body with | some c => c | none => .skip
noncomputable def L_slices_IndexFunc_Judge_impl_judgeAt_1 (N n : Nat) (key : Nat) (S : St) (K : Ks) : Option Ret := bif Nat.beq key 2 then withVals ks_slices_IndexFunc_Judge_impl_judgeAt_1_l2 S (fun x => slices_IndexFunc_Judge_impl_judgeAt_1_l2 N x.1 x.2.1.1 x.2.2.1 n (K (.x 0) (shape ko_slices_IndexFunc_Judge_impl_judgeAt_1_l2_0 ())) (fun z0 => K .r (shape ko_slices_IndexFunc_Judge_impl_judgeAt_1_l2_1 (z0, ()))) x.2.2.2.1) else none
theorem L0_slices_IndexFunc_Judge_impl_judgeAt_1 (N key : Nat) (S : St) (K : Ks) : L_slices_IndexFunc_Judge_impl_judgeAt_1 N 0 key S K = none := (bif0 (withVals0 fun _ => rfl) rfl)
noncomputable def c_slices_IndexFunc_Judge_impl_judgeAt_1_0 : Code := (loopsIn body_slices_IndexFunc_Judge_impl_judgeAt_1).getD 0 .skip
theorem ls_slices_IndexFunc_Judge_impl_judgeAt_1 : loopsIn body_slices_IndexFunc_Judge_impl_judgeAt_1 = [c_slices_IndexFunc_Judge_impl_judgeAt_1_0] := by kernel_rfl
theorem rd_slices_IndexFunc_Judge_impl_judgeAt_1_2 (N n : Nat) (x : Vals ks_slices_IndexFunc_Judge_impl_judgeAt_1_l2) (K : Ks) : L_slices_IndexFunc_Judge_impl_judgeAt_1 N (n + 1) 2 (shape ks_slices_IndexFunc_Judge_impl_judgeAt_1_l2 x) (h_slices_IndexFunc_Judge_impl_judgeAt_1.onOut 2 K) = peRound h_slices_IndexFunc_Judge_impl_judgeAt_1 (Orc.of (es_slices_IndexFunc_Judge_impl_judgeAt_1 N)) (mixL (L_slices_IndexFunc_Judge_impl_judgeAt_1 N) N n 2) c_slices_IndexFunc_Judge_impl_judgeAt_1_0 (shape ks_slices_IndexFunc_Judge_impl_judgeAt_1_l2 x) (h_slices_IndexFunc_Judge_impl_judgeAt_1.onOut 2 K) := by kernel_rfl
theorem fn_slices_IndexFunc_Judge_impl_judgeAt_1 (N : Nat) (x : AVals sg_slices_IndexFunc_Judge_impl_judgeAt_1) (kf : Ret → Option Ret) : F_slices_IndexFunc_Judge_impl_judgeAt_1 N x kf = peFunc h_slices_IndexFunc_Judge_impl_judgeAt_1 (Orc.of (es_slices_IndexFunc_Judge_impl_judgeAt_1 N)) (L_slices_IndexFunc_Judge_impl_judgeAt_1 N N) Try.f144 (ashape sg_slices_IndexFunc_Judge_impl_judgeAt_1 x) kf := by kernel_rfl
theorem sd_slices_IndexFunc_Judge_impl_judgeAt_1 (N : Nat) : Sound Try.prog 144 (run_slices_IndexFunc_Judge_impl_judgeAt_1 N) := fun_ok2 (hh := h_slices_IndexFunc_Judge_impl_judgeAt_1) mixed tab_ok (es := es_slices_IndexFunc_Judge_impl_judgeAt_1 N) ⟨sd_impl_judgeAt_1 N, trivial⟩ (fn := Try.f144) (body := body_slices_IndexFunc_Judge_impl_judgeAt_1) (by kernel_rfl) (by kernel_rfl) (by kernel_rfl) (by kernel_rfl) (by kernel_rfl) (Lf := L_slices_IndexFunc_Judge_impl_judgeAt_1 N) (L0_slices_IndexFunc_Judge_impl_judgeAt_1 N) ls_slices_IndexFunc_Judge_impl_judgeAt_1 (round_cons (key := 2) (ks := ks_slices_IndexFunc_Judge_impl_judgeAt_1_l2) (by kernel_rfl) (by kernel_rfl) (rd_slices_IndexFunc_Judge_impl_judgeAt_1_2 N) trivial) (N := N) (by kernel_rfl) (fn_slices_IndexFunc_Judge_impl_judgeAt_1 N)
/-! impl_judgeAt -/
noncomputable def h_impl_judgeAt : Hint := { tab, hn := [], loops := [], outs := [], ords := [] }
noncomputable def sg_impl_judgeAt : List AK := [.v (.sl tQIILIE) .k, .v (.int .i64) .k]
noncomputable def F_impl_judgeAt (N : Nat) (x : AVals sg_impl_judgeAt) (kf : Ret → Option Ret) : Option Ret := impl_judgeAt N x.1 x.2.1 (fun r0 => kf ⟨[⟨(.int .i64), .k, r0⟩], []⟩)
noncomputable def run_impl_judgeAt (N : Nat) := runOf sg_impl_judgeAt (F_impl_judgeAt N)
noncomputable def es_impl_judgeAt (N : Nat) : List Entry := [⟨144, [.val, .val], (run_slices_IndexFunc_Judge_impl_judgeAt_1 N)⟩]
noncomputable def body_impl_judgeAt : Code := match Try.f125.body with | some c => c | none => .skip
noncomputable def L_impl_judgeAt (N n : Nat) (key : Nat) (S : St) (K : Ks) : Option Ret := none
theorem L0_impl_judgeAt (N key : Nat) (S : St) (K : Ks) : L_impl_judgeAt N 0 key S K = none := rfl
theorem ls_impl_judgeAt : loopsIn body_impl_judgeAt = [] := by kernel_rfl
theorem fn_impl_judgeAt (N : Nat) (x : AVals sg_impl_judgeAt) (kf : Ret → Option Ret) : F_impl_judgeAt N x kf = peFunc h_impl_judgeAt (Orc.of (es_impl_judgeAt N)) (L_impl_judgeAt N N) Try.f125 (ashape sg_impl_judgeAt x) kf := by kernel_rfl
theorem sd_impl_judgeAt (N : Nat) : Sound Try.prog 125 (run_impl_judgeAt N) := fun_ok2 (hh := h_impl_judgeAt) mixed tab_ok (es := es_impl_judgeAt N) ⟨sd_slices_IndexFunc_Judge_impl_judgeAt_1 N, trivial⟩ (fn := Try.f125) (body := body_impl_judgeAt) (by kernel_rfl) (by kernel_rfl) (by kernel_rfl) (by kernel_rfl) (by kernel_rfl) (Lf := L_impl_judgeAt N) (L0_impl_judgeAt N) ls_impl_judgeAt trivial (N := N) (by kernel_rfl) (fn_impl_judgeAt N)
/-! impl_IsImpartial -/
noncomputable def ks_impl_IsImpartial_l2 : List Kd := [dK, .v (.ptr tQLQIIIIILIELQIILIELQIIELILQIIIELQIIIIEIE) (.o 38 none .k), dK, dK, dK, dK, dK, .v (.sl tQIIE) .k, .v (.int .i64) .k, .v (.int .i64) .k, dK, dK, dK, dK, dK, dK, dK, dK, dK, dK, dK, dK, dK, dK, dK, dK, dK, dK, dK, dK, dK, dK, dK, dK, dK, dK, dK, dK, dK, dK, dK, dK]
noncomputable def ko_impl_IsImpartial_l2_0 : List Kd := [dK, dK, dK, dK, dK, dK, dK, dK, dK, dK, dK, dK, dK, dK, dK, dK, dK, dK, dK, dK, dK, dK, dK, dK, dK, dK, dK, dK, dK, dK, dK, dK, dK, dK, dK, dK, dK, dK, dK, dK, dK, dK]
noncomputable def ko_impl_IsImpartial_l2_1 : List Kd := [dK, dK, .v .bool .k, dK, dK, dK, dK, dK, dK, dK, dK, dK, dK, dK, dK, dK, dK, dK, dK, dK, dK, dK, dK, dK, dK, dK, dK, dK, dK, dK, dK, dK, dK, dK, dK, dK, dK, dK, dK, dK, dK, dK]
noncomputable def h_impl_IsImpartial : Hint := { tab, hn := [], loops := [(2, ks_impl_IsImpartial_l2)], outs := [(2, 2, ko_impl_IsImpartial_l2_0), (2, 1, ko_impl_IsImpartial_l2_1)], ords := [(6, (OT.seq [0, 1, 2, 3, 4, 5, 6, 7, 8] .done)), (7, (OT.seq [0, 1, 2, 3, 4, 5, 6, 7, 8, 9, 10, 11, 12, 13] .done))] }
noncomputable def sg_impl_IsImpartial : List AK := [.v tQLQIIIIILIELQIILIELQIIELILQIIIELQIIIIEIE .k]
noncomputable def F_impl_IsImpartial (N : Nat) (x : AVals sg_impl_IsImpartial) (kf : Ret → Option Ret) : Option Ret := impl_IsImpartial N x.1 (fun r0 => kf ⟨[⟨.bool, .k, r0⟩], []⟩)
noncomputable def run_impl_IsImpartial (N : Nat) := runOf sg_impl_IsImpartial (F_impl_IsImpartial N)
noncomputable def es_impl_IsImpartial (N : Nat) : List Entry := [⟨125, [.val, .val], (run_impl_judgeAt N)⟩, ⟨126, [.val, .val, .val], (run_impl_MayJudge N)⟩]
noncomputable def body_impl_IsImpartial : Code := match Try.f56.body with | some c => c | none => .skip
noncomputable def L_impl_IsImpartial (N n : Nat) (key : Nat) (S : St) (K : Ks) : Option Ret := bif Nat.beq key 2 then withVals ks_impl_IsImpartial_l2 S (fun x => impl_IsImpartial_l2 N x.1 x.2.1 x.2.2.1 n (K (.x 0) (shape ko_impl_IsImpartial_l2_0 ())) (fun z0 => K .r (shape ko_impl_IsImpartial_l2_1 (z0, ()))) x.2.2.2.1) else none
theorem L0_impl_IsImpartial (N key : Nat) (S : St) (K : Ks) : L_impl_IsImpartial N 0 key S K = none := (bif0 (withVals0 fun _ => rfl) rfl)
noncomputable def c_impl_IsImpartial_0 : Code := (loopsIn body_impl_IsImpartial).getD 0 .skip
theorem ls_impl_IsImpartial : loopsIn body_impl_IsImpartial = [c_impl_IsImpartial_0] := by kernel_rfl
theorem rd_impl_IsImpartial_2 (N n : Nat) (x : Vals ks_impl_IsImpartial_l2) (K : Ks) : L_impl_IsImpartial N (n + 1) 2 (shape ks_impl_IsImpartial_l2 x) (h_impl_IsImpartial.onOut 2 K) = peRound h_impl_IsImpartial (Orc.of (es_impl_IsImpartial N)) (mixL (L_impl_IsImpartial N) N n 2) c_impl_IsImpartial_0 (shape ks_impl_IsImpartial_l2 x) (h_impl_IsImpartial.onOut 2 K) := by kernel_rfl
theorem fn_impl_IsImpartial (N : Nat) (x : AVals sg_impl_IsImpartial) (kf : Ret → Option Ret) : F_impl_IsImpartial N x kf = peFunc h_impl_IsImpartial (Orc.of (es_impl_IsImpartial N)) (L_impl_IsImpartial N N) Try.f56 (ashape sg_impl_IsImpartial x) kf := by kernel_rfl
theorem sd_impl_IsImpartial (N : Nat) : Sound Try.prog 56 (run_impl_IsImpartial N) := fun_ok2 (hh := h_impl_IsImpartial) mixed tab_ok (es := es_impl_IsImpartial N) ⟨sd_impl_judgeAt N, ⟨sd_impl_MayJudge N, trivial⟩⟩ (fn := Try.f56) (body := body_impl_IsImpartial) (by kernel_rfl) (by kernel_rfl) (by kernel_rfl) (by kernel_rfl) (by kernel_rfl) (Lf := L_impl_IsImpartial N) (L0_impl_IsImpartial N) ls_impl_IsImpartial (round_cons (key := 2) (ks := ks_impl_IsImpartial_l2) (by kernel_rfl) (by kernel_rfl) (rd_impl_IsImpartial_2 N) trivial) (N := N) (by kernel_rfl) (fn_impl_IsImpartial N)
/-! impl_IsZeroSum -/
noncomputable def ks_impl_IsZeroSum_l3 : List Kd := [dK, .v (.ptr tQLQIIIIILIELQIILIELQIIELILQIIIELQIIIIEIE) (.o 38 none .k), dK, .v (.int .i64) .k, .v (.int .i64) .k, .v (.int .i64) .k, dK, dK, dK, .v (.sl tQIIIIILIE) .k, .v (.int .i64) .k, .v (.int .i64) .k, dK, dK, dK, dK, dK, dK, dK, dK, dK, dK, dK, dK, dK, dK, dK, dK, dK, dK, dK, dK, dK, dK, dK, dK, dK, dK, dK, dK, dK, dK, dK, dK]
noncomputable def ko_impl_IsZeroSum_l3_0 : List Kd := [dK, .v (.ptr tQLQIIIIILIELQIILIELQIIELILQIIIELQIIIIEIE) (.o 38 none .k), dK, .v (.int .i64) .k, .v (.int .i64) .k, .v (.int .i64) .k, dK, dK, dK, dK, dK, dK, dK, dK, dK, dK, dK, dK, dK, dK, dK, dK, dK, dK, dK, dK, dK, dK, dK, dK, dK, dK, dK, dK, dK, dK, dK, dK, dK, dK, dK, dK, dK, dK]
noncomputable def h_impl_IsZeroSum : Hint := { tab, hn := [], loops := [(3, ks_impl_IsZeroSum_l3)], outs := [(3, 2, ko_impl_IsZeroSum_l3_0)], ords := [] }
noncomputable def sg_impl_IsZeroSum : List AK := [.v tQLQIIIIILIELQIILIELQIIELILQIIIELQIIIIEIE .k]
noncomputable def F_impl_IsZeroSum (N : Nat) (x : AVals sg_impl_IsZeroSum) (kf : Ret → Option Ret) : Option Ret := impl_IsZeroSum N x.1 (fun r0 => kf ⟨[⟨.bool, .k, r0⟩], []⟩)
noncomputable def run_impl_IsZeroSum (N : Nat) := runOf sg_impl_IsZeroSum (F_impl_IsZeroSum N)
noncomputable def es_impl_IsZeroSum (N : Nat) : List Entry := [⟨88, [.val], (run_impl_AreTeams N)⟩]
noncomputable def body_impl_IsZeroSum : Code := match Try.f57.body with | some c => c | none => .skip
noncomputable def L_impl_IsZeroSum (N n : Nat) (key : Nat) (S : St) (K : Ks) : Option Ret := bif Nat.beq key 3 then withVals ks_impl_IsZeroSum_l3 S (fun x => impl_IsZeroSum_l3 x.1 x.2.2.2.2.1 x.2.2.2.2.2.1 n (fun z0 z1 z2 => K (.x 0) (shape ko_impl_IsZeroSum_l3_0 (x.1, z0, z1, z2, ()))) x.2.1 x.2.2.1 x.2.2.2.1 x.2.2.2.2.2.2.1) else none
theorem L0_impl_IsZeroSum (N key : Nat) (S : St) (K : Ks) : L_impl_IsZeroSum N 0 key S K = none := (bif0 (withVals0 fun _ => rfl) rfl)
noncomputable def c_impl_IsZeroSum_0 : Code := (loopsIn body_impl_IsZeroSum).getD 0 .skip
theorem ls_impl_IsZeroSum : loopsIn body_impl_IsZeroSum = [c_impl_IsZeroSum_0] := by kernel_rfl
theorem rd_impl_IsZeroSum_3 (N n : Nat) (x : Vals ks_impl_IsZeroSum_l3) (K : Ks) : L_impl_IsZeroSum N (n + 1) 3 (shape ks_impl_IsZeroSum_l3 x) (h_impl_IsZeroSum.onOut 3 K) = peRound h_impl_IsZeroSum (Orc.of (es_impl_IsZeroSum N)) (mixL (L_impl_IsZeroSum N) N n 3) c_impl_IsZeroSum_0 (shape ks_impl_IsZeroSum_l3 x) (h_impl_IsZeroSum.onOut 3 K) := by kernel_rfl
theorem fn_impl_IsZeroSum (N : Nat) (x : AVals sg_impl_IsZeroSum) (kf : Ret → Option Ret) : F_impl_IsZeroSum N x kf = peFunc h_impl_IsZeroSum (Orc.of (es_impl_IsZeroSum N)) (L_impl_IsZeroSum N N) Try.f57 (ashape sg_impl_IsZeroSum x) kf := by kernel_rfl
theorem sd_impl_IsZeroSum (N : Nat) : Sound Try.prog 57 (run_impl_IsZeroSum N) := fun_ok2 (hh := h_impl_IsZeroSum) mixed tab_ok (es := es_impl_IsZeroSum N) ⟨sd_impl_AreTeams N, trivial⟩ (fn := Try.f57) (body := body_impl_IsZeroSum) (by kernel_rfl) (by kernel_rfl) (by kernel_rfl) (by kernel_rfl) (by kernel_rfl) (Lf := L_impl_IsZeroSum N) (L0_impl_IsZeroSum N) ls_impl_IsZeroSum (round_cons (key := 3) (ks := ks_impl_IsZeroSum_l3) (by kernel_rfl) (by kernel_rfl) (rd_impl_IsZeroSum_3 N) trivial) (N := N) (by kernel_rfl) (fn_impl_IsZeroSum N)
/-! impl_FaultOf -/
noncomputable def h_impl_FaultOf : Hint := { tab, hn := [], loops := [], outs := [], ords := [] }
noncomputable def sg_impl_FaultOf : List AK := [.v tQLQIIIIILIELQIILIELQIIELILQIIIELQIIIIEIE .k]
noncomputable def F_impl_FaultOf (N : Nat) (x : AVals sg_impl_FaultOf) (kf : Ret → Option Ret) : Option Ret := impl_FaultOf N x.1 (fun r0 => kf ⟨[⟨.str, .k, r0⟩], []⟩)
noncomputable def run_impl_FaultOf (N : Nat) := runOf sg_impl_FaultOf (F_impl_FaultOf N)
noncomputable def es_impl_FaultOf (N : Nat) : List Entry := [⟨55, [.val], (run_impl_NoRematch N)⟩, ⟨56, [.val], (run_impl_IsImpartial N)⟩, ⟨16, [.val], (run_impl_IsMinuted N)⟩, ⟨57, [.val], (run_impl_IsZeroSum N)⟩, ⟨39, [.val], (run_impl_IsClub N)⟩]
noncomputable def body_impl_FaultOf : Code := match Try.f53.body with | some c => c | none => .skip
noncomputable def L_impl_FaultOf (N n : Nat) (key : Nat) (S : St) (K : Ks) : Option Ret := none
theorem L0_impl_FaultOf (N key : Nat) (S : St) (K : Ks) : L_impl_FaultOf N 0 key S K = none := rfl
theorem ls_impl_FaultOf : loopsIn body_impl_FaultOf = [] := by kernel_rfl
theorem fn_impl_FaultOf (N : Nat) (x : AVals sg_impl_FaultOf) (kf : Ret → Option Ret) : F_impl_FaultOf N x kf = peFunc h_impl_FaultOf (Orc.of (es_impl_FaultOf N)) (L_impl_FaultOf N N) Try.f53 (ashape sg_impl_FaultOf x) kf := by kernel_rfl
theorem sd_impl_FaultOf (N : Nat) : Sound Try.prog 53 (run_impl_FaultOf N) := fun_ok2 (hh := h_impl_FaultOf) mixed tab_ok (es := es_impl_FaultOf N) ⟨sd_impl_NoRematch N, ⟨sd_impl_IsImpartial N, ⟨sd_impl_IsMinuted N, ⟨sd_impl_IsZeroSum N, ⟨sd_impl_IsClub N, trivial⟩⟩⟩⟩⟩ (fn := Try.f53) (body := body_impl_FaultOf) (by kernel_rfl) (by kernel_rfl) (by kernel_rfl) (by kernel_rfl) (by kernel_rfl) (Lf := L_impl_FaultOf N) (L0_impl_FaultOf N) ls_impl_FaultOf trivial (N := N) (by kernel_rfl) (fn_impl_FaultOf N)
/-! laws_FnExactFaultOf -/
noncomputable def h_laws_FnExactFaultOf : Hint := { tab, hn := [], loops := [], outs := [], ords := [(10, (OT.seq [0, 1, 2, 3, 4] .done))] }
noncomputable def sg_laws_FnExactFaultOf : List AK := [.v tQLQIIIIILIELQIILIELQIIELILQIIIELQIIIIEIE .k]
noncomputable def F_laws_FnExactFaultOf (N : Nat) (x : AVals sg_laws_FnExactFaultOf) (kf : Ret → Option Ret) : Option Ret := laws_FnExactFaultOf N x.1 (fun r0 => kf ⟨[⟨.bool, .k, r0⟩], []⟩)
noncomputable def run_laws_FnExactFaultOf (N : Nat) := runOf sg_laws_FnExactFaultOf (F_laws_FnExactFaultOf N)
noncomputable def es_laws_FnExactFaultOf (N : Nat) : List Entry := [⟨13, [.val, .val], (run_laws_szClub N)⟩, ⟨15, [.val], (run_laws_toClub N)⟩, ⟨52, [.val], (run_spec_FaultOf N)⟩, ⟨53, [.val], (run_impl_FaultOf N)⟩, ⟨17, [.val, .val], (run_laws_eqClub N)⟩]
noncomputable def body_laws_FnExactFaultOf : Code := match Try.f11.body with | some c => c | none => .skip
noncomputable def L_laws_FnExactFaultOf (N n : Nat) (key : Nat) (S : St) (K : Ks) : Option Ret := none
theorem L0_laws_FnExactFaultOf (N key : Nat) (S : St) (K : Ks) : L_laws_FnExactFaultOf N 0 key S K = none := rfl
theorem ls_laws_FnExactFaultOf : loopsIn body_laws_FnExactFaultOf = [] := by kernel_rfl
theorem fn_laws_FnExactFaultOf (N : Nat) (x : AVals sg_laws_FnExactFaultOf) (kf : Ret → Option Ret) : F_laws_FnExactFaultOf N x kf = peFunc h_laws_FnExactFaultOf (Orc.of (es_laws_FnExactFaultOf N)) (L_laws_FnExactFaultOf N N) Try.f11 (ashape sg_laws_FnExactFaultOf x) kf := by kernel_rfl
theorem sd_laws_FnExactFaultOf (N : Nat) : Sound Try.prog 11 (run_laws_FnExactFaultOf N) := fun_ok2 (hh := h_laws_FnExactFaultOf) mixed tab_ok (es := es_laws_FnExactFaultOf N) ⟨sd_laws_szClub N, ⟨sd_laws_toClub N, ⟨sd_spec_FaultOf N, ⟨sd_impl_FaultOf N, ⟨sd_laws_eqClub N, trivial⟩⟩⟩⟩⟩ (fn := Try.f11) (body := body_laws_FnExactFaultOf) (by kernel_rfl) (by kernel_rfl) (by kernel_rfl) (by kernel_rfl) (by kernel_rfl) (Lf := L_laws_FnExactFaultOf N) (L0_laws_FnExactFaultOf N) ls_laws_FnExactFaultOf trivial (N := N) (by kernel_rfl) (fn_laws_FnExactFaultOf N)
end Go.Pv.R
