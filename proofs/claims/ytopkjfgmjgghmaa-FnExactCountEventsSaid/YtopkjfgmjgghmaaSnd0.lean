/- Each function of the program that the law reaches computes its plain function, part 0. -/
import Derived.Test.YtopkjfgmjgghmaaRes
import Derived.Test.YtopkjfgmjgghmaaProg
namespace Go.Pv.R
open Go.Proofs
set_option linter.unusedVariables false
set_option maxRecDepth 100000
noncomputable abbrev dK : Kd := .dead
noncomputable def tab : Tab := [⟨2, (.int .i64), 0, []⟩, ⟨3, (.int .i64), 0, []⟩, ⟨4, .bool, 0, []⟩, ⟨5, (.int .u8), 0, []⟩, ⟨9, .str, 0, []⟩, ⟨12, (.int .u64), 0, []⟩, ⟨21, (.int .i32), 0, []⟩, ⟨24, (.sl tQIIIIE), 77, []⟩, ⟨27, (.sl tQIIIIE), 75, []⟩, ⟨31, (.sl tQIIIIE), 82, []⟩, ⟨34, (.sl tQIIIIE), 80, []⟩, ⟨38, (.sl (.int .i64)), 3, []⟩, ⟨39, tQIIIIILIE, 0, [3, 3, 3, 3, 3, 38]⟩, ⟨40, tQIIIIILIE, 0, [3, 3, 3, 3, 3, 38]⟩, ⟨43, tQIIIIILIE, 0, [3, 3, 3, 3, 3, 38]⟩, ⟨47, (.sl (.sl (.int .i64))), 38, []⟩, ⟨48, tQILLIE, 0, [3, 47]⟩, ⟨49, tQILLIE, 0, [3, 47]⟩, ⟨54, (.sl tQIILIE), 91, []⟩, ⟨57, (.sl tQIILIE), 92, []⟩, ⟨64, (.sl tQIIIIILIE), 40, []⟩, ⟨67, (.sl tQIIIIILIE), 43, []⟩, ⟨72, (.sl .str), 9, []⟩, ⟨74, tQIIIIE, 0, [3, 3, 3, 3]⟩, ⟨75, tQIIIIE, 0, [3, 3, 3, 3]⟩, ⟨77, tQIIIIE, 0, [3, 3, 3, 3]⟩, ⟨79, tQIIIIE, 0, [3, 3, 3, 3]⟩, ⟨80, tQIIIIE, 0, [3, 3, 3, 3]⟩, ⟨82, tQIIIIE, 0, [3, 3, 3, 3]⟩, ⟨90, tQIILIE, 0, [3, 3, 38]⟩, ⟨91, tQIILIE, 0, [3, 3, 38]⟩, ⟨92, tQIILIE, 0, [3, 3, 38]⟩, ⟨108, (.int .u32), 0, []⟩]
theorem mixed : Try.prog.follows .mixedOrders = true := by kernel_rfl
theorem tab_ok : tabB Try.prog tab = true := by kernel_rfl
/-! laws_szEventS -/
noncomputable def h_laws_szEventS : Hint := { tab, hn := [], loops := [], outs := [], ords := [] }
noncomputable def sg_laws_szEventS : List AK := [.v (.sl tQIIIIE) .k, .v (.int .i64) .k]
noncomputable def F_laws_szEventS (N : Nat) (x : AVals sg_laws_szEventS) (kf : Ret → Option Ret) : Option Ret := laws_szEventS N x.1 x.2.1 (fun r0 => kf ⟨[⟨(.int .i64), .k, r0⟩], []⟩)
noncomputable def run_laws_szEventS (N : Nat) := runOf sg_laws_szEventS (F_laws_szEventS N)
noncomputable def es_laws_szEventS (N : Nat) : List Entry := []
noncomputable def body_laws_szEventS : Code := match Try.f16.body with | some c => c | none => .skip
noncomputable def L_laws_szEventS (N n : Nat) (key : Nat) (S : St) (K : Ks) : Option Ret := none
theorem L0_laws_szEventS (N key : Nat) (S : St) (K : Ks) : L_laws_szEventS N 0 key S K = none := rfl
theorem ls_laws_szEventS : loopsIn body_laws_szEventS = [] := by kernel_rfl
theorem fn_laws_szEventS (N : Nat) (x : AVals sg_laws_szEventS) (kf : Ret → Option Ret) : F_laws_szEventS N x kf = peFunc h_laws_szEventS (Orc.of (es_laws_szEventS N)) (L_laws_szEventS N N) Try.f16 (ashape sg_laws_szEventS x) kf := by kernel_rfl
theorem sd_laws_szEventS (N : Nat) : Sound Try.prog 16 (run_laws_szEventS N) := fun_ok2 (hh := h_laws_szEventS) mixed tab_ok (es := es_laws_szEventS N) trivial (fn := Try.f16) (body := body_laws_szEventS) (by kernel_rfl) (by kernel_rfl) (by kernel_rfl) (by kernel_rfl) (by kernel_rfl) (Lf := L_laws_szEventS N) (L0_laws_szEventS N) ls_laws_szEventS trivial (N := N) (by kernel_rfl) (fn_laws_szEventS N)
/-! laws_toEvent -/
noncomputable def h_laws_toEvent : Hint := { tab, hn := [], loops := [], outs := [], ords := [] }
noncomputable def sg_laws_toEvent : List AK := [.v tQIIIIE .k]
noncomputable def F_laws_toEvent (N : Nat) (x : AVals sg_laws_toEvent) (kf : Ret → Option Ret) : Option Ret := laws_toEvent N x.1 (fun r0 => kf ⟨[⟨tQIIIIE, .k, r0⟩], []⟩)
noncomputable def run_laws_toEvent (N : Nat) := runOf sg_laws_toEvent (F_laws_toEvent N)
noncomputable def es_laws_toEvent (N : Nat) : List Entry := []
noncomputable def body_laws_toEvent : Code := match Try.f55.body with | some c => c | none => .skip
noncomputable def L_laws_toEvent (N n : Nat) (key : Nat) (S : St) (K : Ks) : Option Ret := none
theorem L0_laws_toEvent (N key : Nat) (S : St) (K : Ks) : L_laws_toEvent N 0 key S K = none := rfl
theorem ls_laws_toEvent : loopsIn body_laws_toEvent = [] := by kernel_rfl
theorem fn_laws_toEvent (N : Nat) (x : AVals sg_laws_toEvent) (kf : Ret → Option Ret) : F_laws_toEvent N x kf = peFunc h_laws_toEvent (Orc.of (es_laws_toEvent N)) (L_laws_toEvent N N) Try.f55 (ashape sg_laws_toEvent x) kf := by kernel_rfl
theorem sd_laws_toEvent (N : Nat) : Sound Try.prog 55 (run_laws_toEvent N) := fun_ok2 (hh := h_laws_toEvent) mixed tab_ok (es := es_laws_toEvent N) trivial (fn := Try.f55) (body := body_laws_toEvent) (by kernel_rfl) (by kernel_rfl) (by kernel_rfl) (by kernel_rfl) (by kernel_rfl) (Lf := L_laws_toEvent N) (L0_laws_toEvent N) ls_laws_toEvent trivial (N := N) (by kernel_rfl) (fn_laws_toEvent N)
/-! laws_toEventS -/
noncomputable def ks_laws_toEventS_l3 : List Kd := [.v (.sl tQIIIIE) .k, dK, dK, .v (.sl tQIIIIE) (.o 75 none .k), .v (.int .i64) .k, dK, dK, dK, dK, dK, dK, dK, dK, dK, dK, dK, dK, dK, dK, dK, dK, dK, dK]
noncomputable def ko_laws_toEventS_l3_0 : List Kd := [dK, dK, dK, .v (.sl tQIIIIE) (.o 75 none .k), dK, dK, dK, dK, dK, dK, dK, dK, dK, dK, dK, dK, dK, dK, dK, dK, dK, dK, dK]
noncomputable def h_laws_toEventS : Hint := { tab, hn := [], loops := [(3, ks_laws_toEventS_l3)], outs := [(3, 2, ko_laws_toEventS_l3_0)], ords := [] }
noncomputable def sg_laws_toEventS : List AK := [.v (.sl tQIIIIE) .k]
noncomputable def F_laws_toEventS (N : Nat) (x : AVals sg_laws_toEventS) (kf : Ret → Option Ret) : Option Ret := laws_toEventS N x.1 (fun r0 => kf ⟨[⟨(.sl tQIIIIE), (.o 75 none .k), r0⟩], []⟩)
noncomputable def run_laws_toEventS (N : Nat) := runOf sg_laws_toEventS (F_laws_toEventS N)
noncomputable def es_laws_toEventS (N : Nat) : List Entry := [⟨55, [.val], (run_laws_toEvent N)⟩]
noncomputable def body_laws_toEventS : Code := match Try.f18.body with | some c => c | none => .skip
noncomputable def L_laws_toEventS (N n : Nat) (key : Nat) (S : St) (K : Ks) : Option Ret := bif Nat.beq key 3 then withVals ks_laws_toEventS_l3 S (fun x => laws_toEventS_l3 N x.1 n (fun z0 => K (.x 0) (shape ko_laws_toEventS_l3_0 (z0, ()))) x.2.1 x.2.2.1) else none
theorem L0_laws_toEventS (N key : Nat) (S : St) (K : Ks) : L_laws_toEventS N 0 key S K = none := (bif0 (withVals0 fun _ => rfl) rfl)
noncomputable def c_laws_toEventS_0 : Code := (loopsIn body_laws_toEventS).getD 0 .skip
theorem ls_laws_toEventS : loopsIn body_laws_toEventS = [c_laws_toEventS_0] := by kernel_rfl
theorem rd_laws_toEventS_3 (N n : Nat) (x : Vals ks_laws_toEventS_l3) (K : Ks) : L_laws_toEventS N (n + 1) 3 (shape ks_laws_toEventS_l3 x) (h_laws_toEventS.onOut 3 K) = peRound h_laws_toEventS (Orc.of (es_laws_toEventS N)) (mixL (L_laws_toEventS N) N n 3) c_laws_toEventS_0 (shape ks_laws_toEventS_l3 x) (h_laws_toEventS.onOut 3 K) := by kernel_rfl
theorem fn_laws_toEventS (N : Nat) (x : AVals sg_laws_toEventS) (kf : Ret → Option Ret) : F_laws_toEventS N x kf = peFunc h_laws_toEventS (Orc.of (es_laws_toEventS N)) (L_laws_toEventS N N) Try.f18 (ashape sg_laws_toEventS x) kf := by kernel_rfl
theorem sd_laws_toEventS (N : Nat) : Sound Try.prog 18 (run_laws_toEventS N) := fun_ok2 (hh := h_laws_toEventS) mixed tab_ok (es := es_laws_toEventS N) ⟨sd_laws_toEvent N, trivial⟩ (fn := Try.f18) (body := body_laws_toEventS) (by kernel_rfl) (by kernel_rfl) (by kernel_rfl) (by kernel_rfl) (by kernel_rfl) (Lf := L_laws_toEventS N) (L0_laws_toEventS N) ls_laws_toEventS (round_cons (key := 3) (ks := ks_laws_toEventS_l3) (by kernel_rfl) (by kernel_rfl) (rd_laws_toEventS_3 N) trivial) (N := N) (by kernel_rfl) (fn_laws_toEventS N)
/-! spec_CountEvents -/
noncomputable def ks_spec_CountEvents_l3 : List Kd := [.v (.sl tQIIIIE) .k, .v (.int .i64) .k, dK, dK, dK, .v (.int .i64) .k, .v (.int .i64) .k, dK, dK, dK, dK, dK, dK, dK, dK, dK, dK, dK, dK, dK, dK, dK, dK]
noncomputable def ko_spec_CountEvents_l3_0 : List Kd := [dK, dK, dK, dK, dK, .v (.int .i64) .k, dK, dK, dK, dK, dK, dK, dK, dK, dK, dK, dK, dK, dK, dK, dK, dK, dK]
noncomputable def h_spec_CountEvents : Hint := { tab, hn := [], loops := [(3, ks_spec_CountEvents_l3)], outs := [(3, 2, ko_spec_CountEvents_l3_0)], ords := [] }
noncomputable def sg_spec_CountEvents : List AK := [.v (.sl tQIIIIE) .k, .v (.int .i64) .k]
noncomputable def F_spec_CountEvents (N : Nat) (x : AVals sg_spec_CountEvents) (kf : Ret → Option Ret) : Option Ret := spec_CountEvents N x.1 x.2.1 (fun r0 => kf ⟨[⟨(.int .i64), .k, r0⟩], []⟩)
noncomputable def run_spec_CountEvents (N : Nat) := runOf sg_spec_CountEvents (F_spec_CountEvents N)
noncomputable def es_spec_CountEvents (N : Nat) : List Entry := []
noncomputable def body_spec_CountEvents : Code := match Try.f17.body with | some c => c | none => .skip
noncomputable def L_spec_CountEvents (N n : Nat) (key : Nat) (S : St) (K : Ks) : Option Ret := bif Nat.beq key 3 then withVals ks_spec_CountEvents_l3 S (fun x => spec_CountEvents_l3 x.1 x.2.1 n (fun z0 => K (.x 0) (shape ko_spec_CountEvents_l3_0 (z0, ()))) x.2.2.1 x.2.2.2.1) else none
theorem L0_spec_CountEvents (N key : Nat) (S : St) (K : Ks) : L_spec_CountEvents N 0 key S K = none := (bif0 (withVals0 fun _ => rfl) rfl)
noncomputable def c_spec_CountEvents_0 : Code := (loopsIn body_spec_CountEvents).getD 0 .skip
theorem ls_spec_CountEvents : loopsIn body_spec_CountEvents = [c_spec_CountEvents_0] := by kernel_rfl
theorem rd_spec_CountEvents_3 (N n : Nat) (x : Vals ks_spec_CountEvents_l3) (K : Ks) : L_spec_CountEvents N (n + 1) 3 (shape ks_spec_CountEvents_l3 x) (h_spec_CountEvents.onOut 3 K) = peRound h_spec_CountEvents (Orc.of (es_spec_CountEvents N)) (mixL (L_spec_CountEvents N) N n 3) c_spec_CountEvents_0 (shape ks_spec_CountEvents_l3 x) (h_spec_CountEvents.onOut 3 K) := by kernel_rfl
theorem fn_spec_CountEvents (N : Nat) (x : AVals sg_spec_CountEvents) (kf : Ret → Option Ret) : F_spec_CountEvents N x kf = peFunc h_spec_CountEvents (Orc.of (es_spec_CountEvents N)) (L_spec_CountEvents N N) Try.f17 (ashape sg_spec_CountEvents x) kf := by kernel_rfl
theorem sd_spec_CountEvents (N : Nat) : Sound Try.prog 17 (run_spec_CountEvents N) := fun_ok2 (hh := h_spec_CountEvents) mixed tab_ok (es := es_spec_CountEvents N) trivial (fn := Try.f17) (body := body_spec_CountEvents) (by kernel_rfl) (by kernel_rfl) (by kernel_rfl) (by kernel_rfl) (by kernel_rfl) (Lf := L_spec_CountEvents N) (L0_spec_CountEvents N) ls_spec_CountEvents (round_cons (key := 3) (ks := ks_spec_CountEvents_l3) (by kernel_rfl) (by kernel_rfl) (rd_spec_CountEvents_3 N) trivial) (N := N) (by kernel_rfl) (fn_spec_CountEvents N)
/-! impl_CountEvents -/
noncomputable def ks_impl_CountEvents_l3 : List Kd := [dK, .v (.int .i64) .k, dK, dK, dK, .v (.int .i64) .k, dK, dK, .v (.sl tQIIIIE) .k, .v (.int .i64) .k, .v (.int .i64) .k, dK, dK, dK, dK, dK, dK, dK, dK, dK, dK, dK]
noncomputable def ko_impl_CountEvents_l3_0 : List Kd := [dK, dK, dK, dK, dK, .v (.int .i64) .k, dK, dK, dK, dK, dK, dK, dK, dK, dK, dK, dK, dK, dK, dK, dK, dK]
noncomputable def h_impl_CountEvents : Hint := { tab, hn := [], loops := [(3, ks_impl_CountEvents_l3)], outs := [(3, 2, ko_impl_CountEvents_l3_0)], ords := [] }
noncomputable def sg_impl_CountEvents : List AK := [.v (.sl tQIIIIE) .k, .v (.int .i64) .k]
noncomputable def F_impl_CountEvents (N : Nat) (x : AVals sg_impl_CountEvents) (kf : Ret → Option Ret) : Option Ret := impl_CountEvents N x.1 x.2.1 (fun r0 => kf ⟨[⟨(.int .i64), .k, r0⟩], []⟩)
noncomputable def run_impl_CountEvents (N : Nat) := runOf sg_impl_CountEvents (F_impl_CountEvents N)
noncomputable def es_impl_CountEvents (N : Nat) : List Entry := []
noncomputable def body_impl_CountEvents : Code := match Try.f19.body with | some c => c | none => .skip
noncomputable def L_impl_CountEvents (N n : Nat) (key : Nat) (S : St) (K : Ks) : Option Ret := bif Nat.beq key 3 then withVals ks_impl_CountEvents_l3 S (fun x => impl_CountEvents_l3 x.1 x.2.2.1 x.2.2.2.1 n (fun z0 => K (.x 0) (shape ko_impl_CountEvents_l3_0 (z0, ()))) x.2.1 x.2.2.2.2.1) else none
theorem L0_impl_CountEvents (N key : Nat) (S : St) (K : Ks) : L_impl_CountEvents N 0 key S K = none := (bif0 (withVals0 fun _ => rfl) rfl)
noncomputable def c_impl_CountEvents_0 : Code := (loopsIn body_impl_CountEvents).getD 0 .skip
theorem ls_impl_CountEvents : loopsIn body_impl_CountEvents = [c_impl_CountEvents_0] := by kernel_rfl
theorem rd_impl_CountEvents_3 (N n : Nat) (x : Vals ks_impl_CountEvents_l3) (K : Ks) : L_impl_CountEvents N (n + 1) 3 (shape ks_impl_CountEvents_l3 x) (h_impl_CountEvents.onOut 3 K) = peRound h_impl_CountEvents (Orc.of (es_impl_CountEvents N)) (mixL (L_impl_CountEvents N) N n 3) c_impl_CountEvents_0 (shape ks_impl_CountEvents_l3 x) (h_impl_CountEvents.onOut 3 K) := by kernel_rfl
theorem fn_impl_CountEvents (N : Nat) (x : AVals sg_impl_CountEvents) (kf : Ret → Option Ret) : F_impl_CountEvents N x kf = peFunc h_impl_CountEvents (Orc.of (es_impl_CountEvents N)) (L_impl_CountEvents N N) Try.f19 (ashape sg_impl_CountEvents x) kf := by kernel_rfl
theorem sd_impl_CountEvents (N : Nat) : Sound Try.prog 19 (run_impl_CountEvents N) := fun_ok2 (hh := h_impl_CountEvents) mixed tab_ok (es := es_impl_CountEvents N) trivial (fn := Try.f19) (body := body_impl_CountEvents) (by kernel_rfl) (by kernel_rfl) (by kernel_rfl) (by kernel_rfl) (by kernel_rfl) (Lf := L_impl_CountEvents N) (L0_impl_CountEvents N) ls_impl_CountEvents (round_cons (key := 3) (ks := ks_impl_CountEvents_l3) (by kernel_rfl) (by kernel_rfl) (rd_impl_CountEvents_3 N) trivial) (N := N) (by kernel_rfl) (fn_impl_CountEvents N)
/-! laws_eqEvent -/
noncomputable def h_laws_eqEvent : Hint := { tab, hn := [], loops := [], outs := [], ords := [] }
noncomputable def sg_laws_eqEvent : List AK := [.v tQIIIIE .k, .v tQIIIIE .k]
noncomputable def F_laws_eqEvent (N : Nat) (x : AVals sg_laws_eqEvent) (kf : Ret → Option Ret) : Option Ret := laws_eqEvent N x.1 x.2.1 (fun r0 => kf ⟨[⟨.bool, .k, r0⟩], []⟩)
noncomputable def run_laws_eqEvent (N : Nat) := runOf sg_laws_eqEvent (F_laws_eqEvent N)
noncomputable def es_laws_eqEvent (N : Nat) : List Entry := []
noncomputable def body_laws_eqEvent : Code := match Try.f56.body with | some c => c | none => .skip
noncomputable def L_laws_eqEvent (N n : Nat) (key : Nat) (S : St) (K : Ks) : Option Ret := none
theorem L0_laws_eqEvent (N key : Nat) (S : St) (K : Ks) : L_laws_eqEvent N 0 key S K = none := rfl
theorem ls_laws_eqEvent : loopsIn body_laws_eqEvent = [] := by kernel_rfl
theorem fn_laws_eqEvent (N : Nat) (x : AVals sg_laws_eqEvent) (kf : Ret → Option Ret) : F_laws_eqEvent N x kf = peFunc h_laws_eqEvent (Orc.of (es_laws_eqEvent N)) (L_laws_eqEvent N N) Try.f56 (ashape sg_laws_eqEvent x) kf := by kernel_rfl
theorem sd_laws_eqEvent (N : Nat) : Sound Try.prog 56 (run_laws_eqEvent N) := fun_ok2 (hh := h_laws_eqEvent) mixed tab_ok (es := es_laws_eqEvent N) trivial (fn := Try.f56) (body := body_laws_eqEvent) (by kernel_rfl) (by kernel_rfl) (by kernel_rfl) (by kernel_rfl) (by kernel_rfl) (Lf := L_laws_eqEvent N) (L0_laws_eqEvent N) ls_laws_eqEvent trivial (N := N) (by kernel_rfl) (fn_laws_eqEvent N)
/-! laws_eqEventS -/
noncomputable def ks_laws_eqEventS_l4 : List Kd := [.v (.sl tQIIIIE) .k, .v (.sl tQIIIIE) .k, dK, dK, dK, .v (.int .i64) .k, dK, dK, dK, dK, dK, dK, dK, dK, dK, dK, dK, dK, dK, dK, dK, dK, dK, dK, dK, dK, dK]
noncomputable def ko_laws_eqEventS_l4_0 : List Kd := [dK, dK, dK, dK, dK, dK, dK, dK, dK, dK, dK, dK, dK, dK, dK, dK, dK, dK, dK, dK, dK, dK, dK, dK, dK, dK, dK]
noncomputable def ko_laws_eqEventS_l4_1 : List Kd := [dK, dK, dK, dK, .v .bool .k, dK, dK, dK, dK, dK, dK, dK, dK, dK, dK, dK, dK, dK, dK, dK, dK, dK, dK, dK, dK, dK, dK]
noncomputable def h_laws_eqEventS : Hint := { tab, hn := [], loops := [(4, ks_laws_eqEventS_l4)], outs := [(4, 2, ko_laws_eqEventS_l4_0), (4, 1, ko_laws_eqEventS_l4_1)], ords := [(6, [0, 1, 2, 3, 4, 5, 6, 7, 8, 9])] }
noncomputable def sg_laws_eqEventS : List AK := [.v (.sl tQIIIIE) .k, .v (.sl tQIIIIE) .k]
noncomputable def F_laws_eqEventS (N : Nat) (x : AVals sg_laws_eqEventS) (kf : Ret → Option Ret) : Option Ret := laws_eqEventS N x.1 x.2.1 (fun r0 => kf ⟨[⟨.bool, .k, r0⟩], []⟩)
noncomputable def run_laws_eqEventS (N : Nat) := runOf sg_laws_eqEventS (F_laws_eqEventS N)
noncomputable def es_laws_eqEventS (N : Nat) : List Entry := [⟨56, [.val, .val], (run_laws_eqEvent N)⟩]
noncomputable def body_laws_eqEventS : Code := match Try.f20.body with | some c => c | none => .skip
noncomputable def L_laws_eqEventS (N n : Nat) (key : Nat) (S : St) (K : Ks) : Option Ret := bif Nat.beq key 4 then withVals ks_laws_eqEventS_l4 S (fun x => laws_eqEventS_l4 N x.1 x.2.1 n (K (.x 0) (shape ko_laws_eqEventS_l4_0 ())) (fun z0 => K .r (shape ko_laws_eqEventS_l4_1 (z0, ()))) x.2.2.1) else none
theorem L0_laws_eqEventS (N key : Nat) (S : St) (K : Ks) : L_laws_eqEventS N 0 key S K = none := (bif0 (withVals0 fun _ => rfl) rfl)
noncomputable def c_laws_eqEventS_0 : Code := (loopsIn body_laws_eqEventS).getD 0 .skip
theorem ls_laws_eqEventS : loopsIn body_laws_eqEventS = [c_laws_eqEventS_0] := by kernel_rfl
theorem rd_laws_eqEventS_4 (N n : Nat) (x : Vals ks_laws_eqEventS_l4) (K : Ks) : L_laws_eqEventS N (n + 1) 4 (shape ks_laws_eqEventS_l4 x) (h_laws_eqEventS.onOut 4 K) = peRound h_laws_eqEventS (Orc.of (es_laws_eqEventS N)) (mixL (L_laws_eqEventS N) N n 4) c_laws_eqEventS_0 (shape ks_laws_eqEventS_l4 x) (h_laws_eqEventS.onOut 4 K) := by kernel_rfl
theorem fn_laws_eqEventS (N : Nat) (x : AVals sg_laws_eqEventS) (kf : Ret → Option Ret) : F_laws_eqEventS N x kf = peFunc h_laws_eqEventS (Orc.of (es_laws_eqEventS N)) (L_laws_eqEventS N N) Try.f20 (ashape sg_laws_eqEventS x) kf := by kernel_rfl
theorem sd_laws_eqEventS (N : Nat) : Sound Try.prog 20 (run_laws_eqEventS N) := fun_ok2 (hh := h_laws_eqEventS) mixed tab_ok (es := es_laws_eqEventS N) ⟨sd_laws_eqEvent N, trivial⟩ (fn := Try.f20) (body := body_laws_eqEventS) (by kernel_rfl) (by kernel_rfl) (by kernel_rfl) (by kernel_rfl) (by kernel_rfl) (Lf := L_laws_eqEventS N) (L0_laws_eqEventS N) ls_laws_eqEventS (round_cons (key := 4) (ks := ks_laws_eqEventS_l4) (by kernel_rfl) (by kernel_rfl) (rd_laws_eqEventS_4 N) trivial) (N := N) (by kernel_rfl) (fn_laws_eqEventS N)
/-! laws_FnExactCountEvents -/
noncomputable def h_laws_FnExactCountEvents : Hint := { tab, hn := [], loops := [], outs := [], ords := [] }
noncomputable def sg_laws_FnExactCountEvents : List AK := [.v (.sl tQIIIIE) .k, .v (.int .i64) .k]
noncomputable def F_laws_FnExactCountEvents (N : Nat) (x : AVals sg_laws_FnExactCountEvents) (kf : Ret → Option Ret) : Option Ret := laws_FnExactCountEvents N x.1 x.2.1 (fun r0 => kf ⟨[⟨.bool, .k, r0⟩], []⟩)
noncomputable def run_laws_FnExactCountEvents (N : Nat) := runOf sg_laws_FnExactCountEvents (F_laws_FnExactCountEvents N)
noncomputable def es_laws_FnExactCountEvents (N : Nat) : List Entry := [⟨16, [.val, .val], (run_laws_szEventS N)⟩, ⟨18, [.val], (run_laws_toEventS N)⟩, ⟨17, [.val, .val], (run_spec_CountEvents N)⟩, ⟨19, [.val, .val], (run_impl_CountEvents N)⟩, ⟨20, [.val, .val], (run_laws_eqEventS N)⟩]
noncomputable def body_laws_FnExactCountEvents : Code := match Try.f4.body with | some c => c | none => .skip
noncomputable def L_laws_FnExactCountEvents (N n : Nat) (key : Nat) (S : St) (K : Ks) : Option Ret := none
theorem L0_laws_FnExactCountEvents (N key : Nat) (S : St) (K : Ks) : L_laws_FnExactCountEvents N 0 key S K = none := rfl
theorem ls_laws_FnExactCountEvents : loopsIn body_laws_FnExactCountEvents = [] := by kernel_rfl
theorem fn_laws_FnExactCountEvents (N : Nat) (x : AVals sg_laws_FnExactCountEvents) (kf : Ret → Option Ret) : F_laws_FnExactCountEvents N x kf = peFunc h_laws_FnExactCountEvents (Orc.of (es_laws_FnExactCountEvents N)) (L_laws_FnExactCountEvents N N) Try.f4 (ashape sg_laws_FnExactCountEvents x) kf := by kernel_rfl
theorem sd_laws_FnExactCountEvents (N : Nat) : Sound Try.prog 4 (run_laws_FnExactCountEvents N) := fun_ok2 (hh := h_laws_FnExactCountEvents) mixed tab_ok (es := es_laws_FnExactCountEvents N) ⟨sd_laws_szEventS N, ⟨sd_laws_toEventS N, ⟨sd_spec_CountEvents N, ⟨sd_impl_CountEvents N, ⟨sd_laws_eqEventS N, trivial⟩⟩⟩⟩⟩ (fn := Try.f4) (body := body_laws_FnExactCountEvents) (by kernel_rfl) (by kernel_rfl) (by kernel_rfl) (by kernel_rfl) (by kernel_rfl) (Lf := L_laws_FnExactCountEvents N) (L0_laws_FnExactCountEvents N) ls_laws_FnExactCountEvents trivial (N := N) (by kernel_rfl) (fn_laws_FnExactCountEvents N)
end Go.Pv.R
