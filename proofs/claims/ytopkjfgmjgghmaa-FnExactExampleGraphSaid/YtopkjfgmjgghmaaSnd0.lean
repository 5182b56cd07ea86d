/- Each function of the program that the law reaches computes its plain function, part 0. -/
import Derived.Test.YtopkjfgmjgghmaaPlRes
import Derived.Test.YtopkjfgmjgghmaaProg
namespace Go.Pv.R
open Go.Proofs
set_option linter.unusedVariables false
set_option maxRecDepth 100000
noncomputable abbrev dK : Kd := .dead
noncomputable def tab : Tab := [⟨2, (.int .i64), 0, []⟩, ⟨3, (.int .i64), 0, []⟩, ⟨4, .bool, 0, []⟩, ⟨5, (.int .u8), 0, []⟩, ⟨9, .str, 0, []⟩, ⟨12, (.int .u64), 0, []⟩, ⟨21, (.int .i32), 0, []⟩, ⟨24, (.sl tQIIIIE), 77, []⟩, ⟨27, (.sl tQIIIIE), 75, []⟩, ⟨31, (.sl tQIIIIE), 82, []⟩, ⟨34, (.sl tQIIIIE), 80, []⟩, ⟨38, (.sl (.int .i64)), 3, []⟩, ⟨39, tQIIIIILIE, 0, [3, 3, 3, 3, 3, 38]⟩, ⟨40, tQIIIIILIE, 0, [3, 3, 3, 3, 3, 38]⟩, ⟨43, tQIIIIILIE, 0, [3, 3, 3, 3, 3, 38]⟩, ⟨47, (.sl (.sl (.int .i64))), 38, []⟩, ⟨48, tQILLIE, 0, [3, 47]⟩, ⟨49, tQILLIE, 0, [3, 47]⟩, ⟨54, (.sl tQIILIE), 91, []⟩, ⟨57, (.sl tQIILIE), 92, []⟩, ⟨64, (.sl tQIIIIILIE), 40, []⟩, ⟨67, (.sl tQIIIIILIE), 43, []⟩, ⟨72, (.sl .str), 9, []⟩, ⟨74, tQIIIIE, 0, [3, 3, 3, 3]⟩, ⟨75, tQIIIIE, 0, [3, 3, 3, 3]⟩, ⟨77, tQIIIIE, 0, [3, 3, 3, 3]⟩, ⟨79, tQIIIIE, 0, [3, 3, 3, 3]⟩, ⟨80, tQIIIIE, 0, [3, 3, 3, 3]⟩, ⟨82, tQIIIIE, 0, [3, 3, 3, 3]⟩, ⟨90, tQIILIE, 0, [3, 3, 38]⟩, ⟨91, tQIILIE, 0, [3, 3, 38]⟩, ⟨92, tQIILIE, 0, [3, 3, 38]⟩, ⟨108, (.int .u32), 0, []⟩]
theorem mixed : Try.prog.follows .mixedOrders = true := by kernel_rfl
theorem tab_ok : tabB Try.prog tab = true := by kernel_rfl
/-! laws_eqIntS -/
noncomputable def ks_laws_eqIntS_l4 : List Kd := [.v (.sl (.int .i64)) .k, .v (.sl (.int .i64)) .k, dK, dK, dK, .v (.int .i64) .k, dK, dK, dK, dK, dK, dK, dK, dK, dK, dK, dK, dK, dK, dK, dK, dK, dK, dK, dK, dK]
noncomputable def ko_laws_eqIntS_l4_0 : List Kd := [dK, dK, dK, dK, dK, dK, dK, dK, dK, dK, dK, dK, dK, dK, dK, dK, dK, dK, dK, dK, dK, dK, dK, dK, dK, dK]
noncomputable def ko_laws_eqIntS_l4_1 : List Kd := [dK, dK, dK, dK, .v .bool .k, dK, dK, dK, dK, dK, dK, dK, dK, dK, dK, dK, dK, dK, dK, dK, dK, dK, dK, dK, dK, dK]
noncomputable def h_laws_eqIntS : Hint := { tab, hn := [], loops := [(4, ks_laws_eqIntS_l4)], outs := [(4, 2, ko_laws_eqIntS_l4_0), (4, 1, ko_laws_eqIntS_l4_1)], ords := [(6, (OT.seq [0, 1, 2, 3, 4, 5, 6, 7, 8] .done))] }
noncomputable def sg_laws_eqIntS : List AK := [.v (.sl (.int .i64)) .k, .v (.sl (.int .i64)) .k]
noncomputable def F_laws_eqIntS (N : Nat) (x : AVals sg_laws_eqIntS) (kf : Ret → Option Ret) : Option Ret := laws_eqIntS N x.1 x.2.1 (fun r0 => kf ⟨[⟨.bool, .k, r0⟩], []⟩)
noncomputable def run_laws_eqIntS (N : Nat) := runOf sg_laws_eqIntS (F_laws_eqIntS N)
noncomputable def es_laws_eqIntS (N : Nat) : List Entry := []
noncomputable def body_laws_eqIntS : Code := match Try.f61.body with | some c => c | none => .skip
noncomputable def L_laws_eqIntS (N n : Nat) (key : Nat) (S : St) (K : Ks) : Option Ret := bif Nat.beq key 4 then withVals ks_laws_eqIntS_l4 S (fun x => laws_eqIntS_l4 x.1 x.2.1 n (K (.x 0) (shape ko_laws_eqIntS_l4_0 ())) (fun z0 => K .r (shape ko_laws_eqIntS_l4_1 (z0, ()))) x.2.2.1) else none
theorem L0_laws_eqIntS (N key : Nat) (S : St) (K : Ks) : L_laws_eqIntS N 0 key S K = none := (bif0 (withVals0 fun _ => rfl) rfl)
noncomputable def c_laws_eqIntS_0 : Code := (loopsIn body_laws_eqIntS).getD 0 .skip
theorem ls_laws_eqIntS : loopsIn body_laws_eqIntS = [c_laws_eqIntS_0] := by kernel_rfl
theorem rd_laws_eqIntS_4 (N n : Nat) (x : Vals ks_laws_eqIntS_l4) (K : Ks) : L_laws_eqIntS N (n + 1) 4 (shape ks_laws_eqIntS_l4 x) (h_laws_eqIntS.onOut 4 K) = peRound h_laws_eqIntS (Orc.of (es_laws_eqIntS N)) (mixL (L_laws_eqIntS N) N n 4) c_laws_eqIntS_0 (shape ks_laws_eqIntS_l4 x) (h_laws_eqIntS.onOut 4 K) := by kernel_rfl
theorem fn_laws_eqIntS (N : Nat) (x : AVals sg_laws_eqIntS) (kf : Ret → Option Ret) : F_laws_eqIntS N x kf = peFunc h_laws_eqIntS (Orc.of (es_laws_eqIntS N)) (L_laws_eqIntS N N) Try.f61 (ashape sg_laws_eqIntS x) kf := by kernel_rfl
theorem sd_laws_eqIntS (N : Nat) : Sound Try.prog 61 (run_laws_eqIntS N) := fun_ok2 (hh := h_laws_eqIntS) mixed tab_ok (es := es_laws_eqIntS N) trivial (fn := Try.f61) (body := body_laws_eqIntS) (by kernel_rfl) (by kernel_rfl) (by kernel_rfl) (by kernel_rfl) (by kernel_rfl) (Lf := L_laws_eqIntS N) (L0_laws_eqIntS N) ls_laws_eqIntS (round_cons (key := 4) (ks := ks_laws_eqIntS_l4) (by kernel_rfl) (by kernel_rfl) (rd_laws_eqIntS_4 N) trivial) (N := N) (by kernel_rfl) (fn_laws_eqIntS N)
/-! spec_ExampleGraph -/
noncomputable def h_spec_ExampleGraph : Hint := { tab, hn := [], loops := [], outs := [], ords := [] }
noncomputable def sg_spec_ExampleGraph : List AK := []
noncomputable def F_spec_ExampleGraph (N : Nat) (x : AVals sg_spec_ExampleGraph) (kf : Ret → Option Ret) : Option Ret := spec_ExampleGraph N (fun r0 => kf ⟨[⟨tQILLIE, (.p .k (.o 38 none (.o 3 none .k))), r0⟩], []⟩)
noncomputable def run_spec_ExampleGraph (N : Nat) := runOf sg_spec_ExampleGraph (F_spec_ExampleGraph N)
noncomputable def es_spec_ExampleGraph (N : Nat) : List Entry := []
noncomputable def body_spec_ExampleGraph : Code := match Try.f33.body with | some c => c | none => .skip
noncomputable def L_spec_ExampleGraph (N n : Nat) (key : Nat) (S : St) (K : Ks) : Option Ret := none
theorem L0_spec_ExampleGraph (N key : Nat) (S : St) (K : Ks) : L_spec_ExampleGraph N 0 key S K = none := rfl
theorem ls_spec_ExampleGraph : loopsIn body_spec_ExampleGraph = [] := by kernel_rfl
theorem fn_spec_ExampleGraph (N : Nat) (x : AVals sg_spec_ExampleGraph) (kf : Ret → Option Ret) : F_spec_ExampleGraph N x kf = peFunc h_spec_ExampleGraph (Orc.of (es_spec_ExampleGraph N)) (L_spec_ExampleGraph N N) Try.f33 (ashape sg_spec_ExampleGraph x) kf := by kernel_rfl
theorem sd_spec_ExampleGraph (N : Nat) : Sound Try.prog 33 (run_spec_ExampleGraph N) := fun_ok2 (hh := h_spec_ExampleGraph) mixed tab_ok (es := es_spec_ExampleGraph N) trivial (fn := Try.f33) (body := body_spec_ExampleGraph) (by kernel_rfl) (by kernel_rfl) (by kernel_rfl) (by kernel_rfl) (by kernel_rfl) (Lf := L_spec_ExampleGraph N) (L0_spec_ExampleGraph N) ls_spec_ExampleGraph trivial (N := N) (by kernel_rfl) (fn_spec_ExampleGraph N)
/-! impl_ExampleGraph -/
noncomputable def h_impl_ExampleGraph : Hint := { tab, hn := [], loops := [], outs := [], ords := [] }
noncomputable def sg_impl_ExampleGraph : List AK := []
noncomputable def F_impl_ExampleGraph (N : Nat) (x : AVals sg_impl_ExampleGraph) (kf : Ret → Option Ret) : Option Ret := impl_ExampleGraph N (fun r0 => kf ⟨[⟨tQILLIE, (.p .k (.o 38 none (.o 3 none .k))), r0⟩], []⟩)
noncomputable def run_impl_ExampleGraph (N : Nat) := runOf sg_impl_ExampleGraph (F_impl_ExampleGraph N)
noncomputable def es_impl_ExampleGraph (N : Nat) : List Entry := []
noncomputable def body_impl_ExampleGraph : Code := match Try.f34.body with | some c => c | none => .skip
noncomputable def L_impl_ExampleGraph (N n : Nat) (key : Nat) (S : St) (K : Ks) : Option Ret := none
theorem L0_impl_ExampleGraph (N key : Nat) (S : St) (K : Ks) : L_impl_ExampleGraph N 0 key S K = none := rfl
theorem ls_impl_ExampleGraph : loopsIn body_impl_ExampleGraph = [] := by kernel_rfl
theorem fn_impl_ExampleGraph (N : Nat) (x : AVals sg_impl_ExampleGraph) (kf : Ret → Option Ret) : F_impl_ExampleGraph N x kf = peFunc h_impl_ExampleGraph (Orc.of (es_impl_ExampleGraph N)) (L_impl_ExampleGraph N N) Try.f34 (ashape sg_impl_ExampleGraph x) kf := by kernel_rfl
theorem sd_impl_ExampleGraph (N : Nat) : Sound Try.prog 34 (run_impl_ExampleGraph N) := fun_ok2 (hh := h_impl_ExampleGraph) mixed tab_ok (es := es_impl_ExampleGraph N) trivial (fn := Try.f34) (body := body_impl_ExampleGraph) (by kernel_rfl) (by kernel_rfl) (by kernel_rfl) (by kernel_rfl) (by kernel_rfl) (Lf := L_impl_ExampleGraph N) (L0_impl_ExampleGraph N) ls_impl_ExampleGraph trivial (N := N) (by kernel_rfl) (fn_impl_ExampleGraph N)
/-! laws_eqIntSS -/
noncomputable def ks_laws_eqIntSS_l4 : List Kd := [.v (.sl (.sl (.int .i64))) .k, .v (.sl (.sl (.int .i64))) .k, dK, dK, dK, .v (.int .i64) .k, dK, dK, dK, dK, dK, dK, dK, dK, dK, dK, dK, dK, dK, dK, dK, dK, dK, dK, dK, dK, dK]
noncomputable def ko_laws_eqIntSS_l4_0 : List Kd := [dK, dK, dK, dK, dK, dK, dK, dK, dK, dK, dK, dK, dK, dK, dK, dK, dK, dK, dK, dK, dK, dK, dK, dK, dK, dK, dK]
noncomputable def ko_laws_eqIntSS_l4_1 : List Kd := [dK, dK, dK, dK, .v .bool .k, dK, dK, dK, dK, dK, dK, dK, dK, dK, dK, dK, dK, dK, dK, dK, dK, dK, dK, dK, dK, dK, dK]
noncomputable def h_laws_eqIntSS : Hint := { tab, hn := [], loops := [(4, ks_laws_eqIntSS_l4)], outs := [(4, 2, ko_laws_eqIntSS_l4_0), (4, 1, ko_laws_eqIntSS_l4_1)], ords := [(6, (OT.seq [0, 1, 2, 3, 4, 5, 6, 7, 8, 9] .done))] }
noncomputable def sg_laws_eqIntSS : List AK := [.v (.sl (.sl (.int .i64))) .k, .v (.sl (.sl (.int .i64))) .k]
noncomputable def F_laws_eqIntSS (N : Nat) (x : AVals sg_laws_eqIntSS) (kf : Ret → Option Ret) : Option Ret := laws_eqIntSS N x.1 x.2.1 (fun r0 => kf ⟨[⟨.bool, .k, r0⟩], []⟩)
noncomputable def run_laws_eqIntSS (N : Nat) := runOf sg_laws_eqIntSS (F_laws_eqIntSS N)
noncomputable def es_laws_eqIntSS (N : Nat) : List Entry := [⟨61, [.val, .val], (run_laws_eqIntS N)⟩]
noncomputable def body_laws_eqIntSS : Code := match Try.f63.body with | some c => c | none => .skip
noncomputable def L_laws_eqIntSS (N n : Nat) (key : Nat) (S : St) (K : Ks) : Option Ret := bif Nat.beq key 4 then withVals ks_laws_eqIntSS_l4 S (fun x => laws_eqIntSS_l4 N x.1 x.2.1 n (K (.x 0) (shape ko_laws_eqIntSS_l4_0 ())) (fun z0 => K .r (shape ko_laws_eqIntSS_l4_1 (z0, ()))) x.2.2.1) else none
theorem L0_laws_eqIntSS (N key : Nat) (S : St) (K : Ks) : L_laws_eqIntSS N 0 key S K = none := (bif0 (withVals0 fun _ => rfl) rfl)
noncomputable def c_laws_eqIntSS_0 : Code := (loopsIn body_laws_eqIntSS).getD 0 .skip
theorem ls_laws_eqIntSS : loopsIn body_laws_eqIntSS = [c_laws_eqIntSS_0] := by kernel_rfl
theorem rd_laws_eqIntSS_4 (N n : Nat) (x : Vals ks_laws_eqIntSS_l4) (K : Ks) : L_laws_eqIntSS N (n + 1) 4 (shape ks_laws_eqIntSS_l4 x) (h_laws_eqIntSS.onOut 4 K) = peRound h_laws_eqIntSS (Orc.of (es_laws_eqIntSS N)) (mixL (L_laws_eqIntSS N) N n 4) c_laws_eqIntSS_0 (shape ks_laws_eqIntSS_l4 x) (h_laws_eqIntSS.onOut 4 K) := by kernel_rfl
theorem fn_laws_eqIntSS (N : Nat) (x : AVals sg_laws_eqIntSS) (kf : Ret → Option Ret) : F_laws_eqIntSS N x kf = peFunc h_laws_eqIntSS (Orc.of (es_laws_eqIntSS N)) (L_laws_eqIntSS N N) Try.f63 (ashape sg_laws_eqIntSS x) kf := by kernel_rfl
theorem sd_laws_eqIntSS (N : Nat) : Sound Try.prog 63 (run_laws_eqIntSS N) := fun_ok2 (hh := h_laws_eqIntSS) mixed tab_ok (es := es_laws_eqIntSS N) ⟨sd_laws_eqIntS N, trivial⟩ (fn := Try.f63) (body := body_laws_eqIntSS) (by kernel_rfl) (by kernel_rfl) (by kernel_rfl) (by kernel_rfl) (by kernel_rfl) (Lf := L_laws_eqIntSS N) (L0_laws_eqIntSS N) ls_laws_eqIntSS (round_cons (key := 4) (ks := ks_laws_eqIntSS_l4) (by kernel_rfl) (by kernel_rfl) (rd_laws_eqIntSS_4 N) trivial) (N := N) (by kernel_rfl) (fn_laws_eqIntSS N)
/-! laws_eqGraph -/
noncomputable def h_laws_eqGraph : Hint := { tab, hn := [], loops := [], outs := [], ords := [] }
noncomputable def sg_laws_eqGraph : List AK := [.v tQILLIE .k, .v tQILLIE .k]
noncomputable def F_laws_eqGraph (N : Nat) (x : AVals sg_laws_eqGraph) (kf : Ret → Option Ret) : Option Ret := laws_eqGraph N x.1 x.2.1 (fun r0 => kf ⟨[⟨.bool, .k, r0⟩], []⟩)
noncomputable def run_laws_eqGraph (N : Nat) := runOf sg_laws_eqGraph (F_laws_eqGraph N)
noncomputable def es_laws_eqGraph (N : Nat) : List Entry := [⟨63, [.val, .val], (run_laws_eqIntSS N)⟩]
noncomputable def body_laws_eqGraph : Code := match Try.f35.body with | some c => c | none => .skip
noncomputable def L_laws_eqGraph (N n : Nat) (key : Nat) (S : St) (K : Ks) : Option Ret := none
theorem L0_laws_eqGraph (N key : Nat) (S : St) (K : Ks) : L_laws_eqGraph N 0 key S K = none := rfl
theorem ls_laws_eqGraph : loopsIn body_laws_eqGraph = [] := by kernel_rfl
theorem fn_laws_eqGraph (N : Nat) (x : AVals sg_laws_eqGraph) (kf : Ret → Option Ret) : F_laws_eqGraph N x kf = peFunc h_laws_eqGraph (Orc.of (es_laws_eqGraph N)) (L_laws_eqGraph N N) Try.f35 (ashape sg_laws_eqGraph x) kf := by kernel_rfl
theorem sd_laws_eqGraph (N : Nat) : Sound Try.prog 35 (run_laws_eqGraph N) := fun_ok2 (hh := h_laws_eqGraph) mixed tab_ok (es := es_laws_eqGraph N) ⟨sd_laws_eqIntSS N, trivial⟩ (fn := Try.f35) (body := body_laws_eqGraph) (by kernel_rfl) (by kernel_rfl) (by kernel_rfl) (by kernel_rfl) (by kernel_rfl) (Lf := L_laws_eqGraph N) (L0_laws_eqGraph N) ls_laws_eqGraph trivial (N := N) (by kernel_rfl) (fn_laws_eqGraph N)
/-! laws_markIntS -/
noncomputable def ks_laws_markIntS_l2 : List Kd := [.v (.sl (.int .i64)) (.o 3 (some 0) .k), .v (.int .i64) .k, dK, dK, dK, .v (.int .i64) .k, dK, dK, dK, dK, dK, dK, dK, dK, dK, dK, dK, dK, dK]
noncomputable def ko_laws_markIntS_l2_0 : List Kd := [.v (.sl (.int .i64)) (.o 3 (some 0) .k), .v (.int .i64) .k, dK, dK, dK, dK, dK, dK, dK, dK, dK, dK, dK, dK, dK, dK, dK, dK, dK]
noncomputable def h_laws_markIntS : Hint := { tab, hn := [], loops := [(2, ks_laws_markIntS_l2)], outs := [(2, 2, ko_laws_markIntS_l2_0)], ords := [], lent := some (0, false) }
noncomputable def sg_laws_markIntS : List AK := [.v (.sl (.int .i64)) (.o 3 (some 0) .k), .v (.int .i64) .k]
noncomputable def F_laws_markIntS (N : Nat) (x : AVals sg_laws_markIntS) (kf : Ret → Option Ret) : Option Ret := laws_markIntS N x.1 x.2.1 (fun r0 z => kf ⟨[⟨(.int .i64), .k, r0⟩], [⟨(.sl (.int .i64)), (.o 3 (some 0) .k), z⟩]⟩)
noncomputable def run_laws_markIntS (N : Nat) := runOf sg_laws_markIntS (F_laws_markIntS N)
noncomputable def es_laws_markIntS (N : Nat) : List Entry := []
noncomputable def body_laws_markIntS : Code := match Try.f73.body with | some c => c | none => .skip
noncomputable def L_laws_markIntS (N n : Nat) (key : Nat) (S : St) (K : Ks) : Option Ret := bif Nat.beq key 2 then withVals ks_laws_markIntS_l2 S (fun x => laws_markIntS_l2 n (fun z0 z1 => K (.x 0) (shape ko_laws_markIntS_l2_0 (z0, z1, ()))) x.1 x.2.1 x.2.2.1) else none
theorem L0_laws_markIntS (N key : Nat) (S : St) (K : Ks) : L_laws_markIntS N 0 key S K = none := (bif0 (withVals0 fun _ => rfl) rfl)
noncomputable def c_laws_markIntS_0 : Code := (loopsIn body_laws_markIntS).getD 0 .skip
theorem ls_laws_markIntS : loopsIn body_laws_markIntS = [c_laws_markIntS_0] := by kernel_rfl
theorem rd_laws_markIntS_2 (N n : Nat) (x : Vals ks_laws_markIntS_l2) (K : Ks) : L_laws_markIntS N (n + 1) 2 (shape ks_laws_markIntS_l2 x) (h_laws_markIntS.onOut 2 K) = peRound h_laws_markIntS (Orc.of (es_laws_markIntS N)) (mixL (L_laws_markIntS N) N n 2) c_laws_markIntS_0 (shape ks_laws_markIntS_l2 x) (h_laws_markIntS.onOut 2 K) := by kernel_rfl
theorem fn_laws_markIntS (N : Nat) (x : AVals sg_laws_markIntS) (kf : Ret → Option Ret) : F_laws_markIntS N x kf = peFunc h_laws_markIntS (Orc.of (es_laws_markIntS N)) (L_laws_markIntS N N) Try.f73 (ashape sg_laws_markIntS x) kf := by kernel_rfl
theorem sd_laws_markIntS (N : Nat) : Sound Try.prog 73 (run_laws_markIntS N) := fun_ok2 (hh := h_laws_markIntS) mixed tab_ok (es := es_laws_markIntS N) trivial (fn := Try.f73) (body := body_laws_markIntS) (by kernel_rfl) (by kernel_rfl) (by kernel_rfl) (by kernel_rfl) (by kernel_rfl) (Lf := L_laws_markIntS N) (L0_laws_markIntS N) ls_laws_markIntS (round_cons (key := 2) (ks := ks_laws_markIntS_l2) (by kernel_rfl) (by kernel_rfl) (rd_laws_markIntS_2 N) trivial) (N := N) (by kernel_rfl) (fn_laws_markIntS N)
/-! laws_markIntSS -/
noncomputable def ks_laws_markIntSS_l2 : List Kd := [.v (.sl (.sl (.int .i64))) (.o 38 (some 0) (.o 3 none .k)), .v (.int .i64) .k, dK, dK, dK, .v (.int .i64) .k, dK, dK, dK, dK, dK, dK, dK, dK, dK, dK, dK, dK, dK]
noncomputable def ko_laws_markIntSS_l2_0 : List Kd := [.v (.sl (.sl (.int .i64))) (.o 38 (some 0) (.o 3 none .k)), .v (.int .i64) .k, dK, dK, dK, dK, dK, dK, dK, dK, dK, dK, dK, dK, dK, dK, dK, dK, dK]
noncomputable def h_laws_markIntSS : Hint := { tab, hn := [], loops := [(2, ks_laws_markIntSS_l2)], outs := [(2, 2, ko_laws_markIntSS_l2_0)], ords := [], lent := some (0, false) }
noncomputable def sg_laws_markIntSS : List AK := [.v (.sl (.sl (.int .i64))) (.o 38 (some 0) (.o 3 none .k)), .v (.int .i64) .k]
noncomputable def F_laws_markIntSS (N : Nat) (x : AVals sg_laws_markIntSS) (kf : Ret → Option Ret) : Option Ret := laws_markIntSS N x.1 x.2.1 (fun r0 z => kf ⟨[⟨(.int .i64), .k, r0⟩], [⟨(.sl (.sl (.int .i64))), (.o 38 (some 0) (.o 3 none .k)), z⟩]⟩)
noncomputable def run_laws_markIntSS (N : Nat) := runOf sg_laws_markIntSS (F_laws_markIntSS N)
noncomputable def es_laws_markIntSS (N : Nat) : List Entry := [⟨73, [.lend, .val], (run_laws_markIntS N)⟩]
noncomputable def body_laws_markIntSS : Code := match Try.f64.body with | some c => c | none => .skip
noncomputable def L_laws_markIntSS (N n : Nat) (key : Nat) (S : St) (K : Ks) : Option Ret := bif Nat.beq key 2 then withVals ks_laws_markIntSS_l2 S (fun x => laws_markIntSS_l2 N n (fun z0 z1 => K (.x 0) (shape ko_laws_markIntSS_l2_0 (z0, z1, ()))) x.1 x.2.1 x.2.2.1) else none
theorem L0_laws_markIntSS (N key : Nat) (S : St) (K : Ks) : L_laws_markIntSS N 0 key S K = none := (bif0 (withVals0 fun _ => rfl) rfl)
noncomputable def c_laws_markIntSS_0 : Code := (loopsIn body_laws_markIntSS).getD 0 .skip
theorem ls_laws_markIntSS : loopsIn body_laws_markIntSS = [c_laws_markIntSS_0] := by kernel_rfl
theorem rd_laws_markIntSS_2 (N n : Nat) (x : Vals ks_laws_markIntSS_l2) (K : Ks) : L_laws_markIntSS N (n + 1) 2 (shape ks_laws_markIntSS_l2 x) (h_laws_markIntSS.onOut 2 K) = peRound h_laws_markIntSS (Orc.of (es_laws_markIntSS N)) (mixL (L_laws_markIntSS N) N n 2) c_laws_markIntSS_0 (shape ks_laws_markIntSS_l2 x) (h_laws_markIntSS.onOut 2 K) := by kernel_rfl
theorem fn_laws_markIntSS (N : Nat) (x : AVals sg_laws_markIntSS) (kf : Ret → Option Ret) : F_laws_markIntSS N x kf = peFunc h_laws_markIntSS (Orc.of (es_laws_markIntSS N)) (L_laws_markIntSS N N) Try.f64 (ashape sg_laws_markIntSS x) kf := by kernel_rfl
theorem sd_laws_markIntSS (N : Nat) : Sound Try.prog 64 (run_laws_markIntSS N) := fun_ok2 (hh := h_laws_markIntSS) mixed tab_ok (es := es_laws_markIntSS N) ⟨sd_laws_markIntS N, trivial⟩ (fn := Try.f64) (body := body_laws_markIntSS) (by kernel_rfl) (by kernel_rfl) (by kernel_rfl) (by kernel_rfl) (by kernel_rfl) (Lf := L_laws_markIntSS N) (L0_laws_markIntSS N) ls_laws_markIntSS (round_cons (key := 2) (ks := ks_laws_markIntSS_l2) (by kernel_rfl) (by kernel_rfl) (rd_laws_markIntSS_2 N) trivial) (N := N) (by kernel_rfl) (fn_laws_markIntSS N)
/-! laws_markGraph -/
noncomputable def h_laws_markGraph : Hint := { tab, hn := [], loops := [], outs := [], ords := [], lent := some (2, true) }
noncomputable def sg_laws_markGraph : List AK := [.v tQILLIE (.p .k (.o 38 (some 1) (.o 3 none .k))), .v (.int .i64) .k]
noncomputable def F_laws_markGraph (N : Nat) (x : AVals sg_laws_markGraph) (kf : Ret → Option Ret) : Option Ret := laws_markGraph N x.1 x.2.1 (fun r0 z => kf ⟨[⟨(.int .i64), .k, r0⟩], [⟨tQILLIE, (.p .k (.o 38 (some 1) (.o 3 none .k))), z⟩]⟩)
noncomputable def run_laws_markGraph (N : Nat) := runOf sg_laws_markGraph (F_laws_markGraph N)
noncomputable def es_laws_markGraph (N : Nat) : List Entry := [⟨64, [.lend, .val], (run_laws_markIntSS N)⟩]
noncomputable def body_laws_markGraph : Code := match Try.f36.body with | some c => c | none => .skip
noncomputable def L_laws_markGraph (N n : Nat) (key : Nat) (S : St) (K : Ks) : Option Ret := none
theorem L0_laws_markGraph (N key : Nat) (S : St) (K : Ks) : L_laws_markGraph N 0 key S K = none := rfl
theorem ls_laws_markGraph : loopsIn body_laws_markGraph = [] := by kernel_rfl
theorem fn_laws_markGraph (N : Nat) (x : AVals sg_laws_markGraph) (kf : Ret → Option Ret) : F_laws_markGraph N x kf = peFunc h_laws_markGraph (Orc.of (es_laws_markGraph N)) (L_laws_markGraph N N) Try.f36 (ashape sg_laws_markGraph x) kf := by kernel_rfl
theorem sd_laws_markGraph (N : Nat) : Sound Try.prog 36 (run_laws_markGraph N) := fun_ok2 (hh := h_laws_markGraph) mixed tab_ok (es := es_laws_markGraph N) ⟨sd_laws_markIntSS N, trivial⟩ (fn := Try.f36) (body := body_laws_markGraph) (by kernel_rfl) (by kernel_rfl) (by kernel_rfl) (by kernel_rfl) (by kernel_rfl) (Lf := L_laws_markGraph N) (L0_laws_markGraph N) ls_laws_markGraph trivial (N := N) (by kernel_rfl) (fn_laws_markGraph N)
/-! laws_heldIntS -/
noncomputable def ks_laws_heldIntS_l2 : List Kd := [.v (.sl (.int .i64)) .k, .v (.int .i64) .k, dK, dK, dK, .v (.int .i64) .k, dK, dK, dK, dK, dK, dK, dK, dK, dK, dK, dK, dK, dK, dK, dK]
noncomputable def ko_laws_heldIntS_l2_0 : List Kd := [dK, .v (.int .i64) .k, dK, dK, dK, dK, dK, dK, dK, dK, dK, dK, dK, dK, dK, dK, dK, dK, dK, dK, dK]
noncomputable def ko_laws_heldIntS_l2_1 : List Kd := [dK, dK, dK, dK, .v (.int .i64) .k, dK, dK, dK, dK, dK, dK, dK, dK, dK, dK, dK, dK, dK, dK, dK, dK]
noncomputable def h_laws_heldIntS : Hint := { tab, hn := [], loops := [(2, ks_laws_heldIntS_l2)], outs := [(2, 2, ko_laws_heldIntS_l2_0), (2, 1, ko_laws_heldIntS_l2_1)], ords := [] }
noncomputable def sg_laws_heldIntS : List AK := [.v (.sl (.int .i64)) .k, .v (.int .i64) .k]
noncomputable def F_laws_heldIntS (N : Nat) (x : AVals sg_laws_heldIntS) (kf : Ret → Option Ret) : Option Ret := laws_heldIntS N x.1 x.2.1 (fun r0 => kf ⟨[⟨(.int .i64), .k, r0⟩], []⟩)
noncomputable def run_laws_heldIntS (N : Nat) := runOf sg_laws_heldIntS (F_laws_heldIntS N)
noncomputable def es_laws_heldIntS (N : Nat) : List Entry := []
noncomputable def body_laws_heldIntS : Code := match Try.f74.body with | some c => c | none => .skip
noncomputable def L_laws_heldIntS (N n : Nat) (key : Nat) (S : St) (K : Ks) : Option Ret := bif Nat.beq key 2 then withVals ks_laws_heldIntS_l2 S (fun x => laws_heldIntS_l2 x.1 n (fun z0 => K (.x 0) (shape ko_laws_heldIntS_l2_0 (z0, ()))) (fun z0 => K .r (shape ko_laws_heldIntS_l2_1 (z0, ()))) x.2.1 x.2.2.1) else none
theorem L0_laws_heldIntS (N key : Nat) (S : St) (K : Ks) : L_laws_heldIntS N 0 key S K = none := (bif0 (withVals0 fun _ => rfl) rfl)
noncomputable def c_laws_heldIntS_0 : Code := (loopsIn body_laws_heldIntS).getD 0 .skip
theorem ls_laws_heldIntS : loopsIn body_laws_heldIntS = [c_laws_heldIntS_0] := by kernel_rfl
theorem rd_laws_heldIntS_2 (N n : Nat) (x : Vals ks_laws_heldIntS_l2) (K : Ks) : L_laws_heldIntS N (n + 1) 2 (shape ks_laws_heldIntS_l2 x) (h_laws_heldIntS.onOut 2 K) = peRound h_laws_heldIntS (Orc.of (es_laws_heldIntS N)) (mixL (L_laws_heldIntS N) N n 2) c_laws_heldIntS_0 (shape ks_laws_heldIntS_l2 x) (h_laws_heldIntS.onOut 2 K) := by kernel_rfl
theorem fn_laws_heldIntS (N : Nat) (x : AVals sg_laws_heldIntS) (kf : Ret → Option Ret) : F_laws_heldIntS N x kf = peFunc h_laws_heldIntS (Orc.of (es_laws_heldIntS N)) (L_laws_heldIntS N N) Try.f74 (ashape sg_laws_heldIntS x) kf := by kernel_rfl
theorem sd_laws_heldIntS (N : Nat) : Sound Try.prog 74 (run_laws_heldIntS N) := fun_ok2 (hh := h_laws_heldIntS) mixed tab_ok (es := es_laws_heldIntS N) trivial (fn := Try.f74) (body := body_laws_heldIntS) (by kernel_rfl) (by kernel_rfl) (by kernel_rfl) (by kernel_rfl) (by kernel_rfl) (Lf := L_laws_heldIntS N) (L0_laws_heldIntS N) ls_laws_heldIntS (round_cons (key := 2) (ks := ks_laws_heldIntS_l2) (by kernel_rfl) (by kernel_rfl) (rd_laws_heldIntS_2 N) trivial) (N := N) (by kernel_rfl) (fn_laws_heldIntS N)
/-! laws_heldIntSS -/
noncomputable def ks_laws_heldIntSS_l2 : List Kd := [.v (.sl (.sl (.int .i64))) .k, .v (.int .i64) .k, dK, dK, dK, .v (.int .i64) .k, dK, dK, dK, dK, dK, dK, dK, dK, dK, dK, dK, dK, dK, dK, dK]
noncomputable def ko_laws_heldIntSS_l2_0 : List Kd := [dK, .v (.int .i64) .k, dK, dK, dK, dK, dK, dK, dK, dK, dK, dK, dK, dK, dK, dK, dK, dK, dK, dK, dK]
noncomputable def ko_laws_heldIntSS_l2_1 : List Kd := [dK, dK, dK, dK, .v (.int .i64) .k, dK, dK, dK, dK, dK, dK, dK, dK, dK, dK, dK, dK, dK, dK, dK, dK]
noncomputable def h_laws_heldIntSS : Hint := { tab, hn := [], loops := [(2, ks_laws_heldIntSS_l2)], outs := [(2, 2, ko_laws_heldIntSS_l2_0), (2, 1, ko_laws_heldIntSS_l2_1)], ords := [] }
noncomputable def sg_laws_heldIntSS : List AK := [.v (.sl (.sl (.int .i64))) .k, .v (.int .i64) .k]
noncomputable def F_laws_heldIntSS (N : Nat) (x : AVals sg_laws_heldIntSS) (kf : Ret → Option Ret) : Option Ret := laws_heldIntSS N x.1 x.2.1 (fun r0 => kf ⟨[⟨(.int .i64), .k, r0⟩], []⟩)
noncomputable def run_laws_heldIntSS (N : Nat) := runOf sg_laws_heldIntSS (F_laws_heldIntSS N)
noncomputable def es_laws_heldIntSS (N : Nat) : List Entry := [⟨74, [.val, .val], (run_laws_heldIntS N)⟩]
noncomputable def body_laws_heldIntSS : Code := match Try.f65.body with | some c => c | none => .skip
noncomputable def L_laws_heldIntSS (N n : Nat) (key : Nat) (S : St) (K : Ks) : Option Ret := bif Nat.beq key 2 then withVals ks_laws_heldIntSS_l2 S (fun x => laws_heldIntSS_l2 N x.1 n (fun z0 => K (.x 0) (shape ko_laws_heldIntSS_l2_0 (z0, ()))) (fun z0 => K .r (shape ko_laws_heldIntSS_l2_1 (z0, ()))) x.2.1 x.2.2.1) else none
theorem L0_laws_heldIntSS (N key : Nat) (S : St) (K : Ks) : L_laws_heldIntSS N 0 key S K = none := (bif0 (withVals0 fun _ => rfl) rfl)
noncomputable def c_laws_heldIntSS_0 : Code := (loopsIn body_laws_heldIntSS).getD 0 .skip
theorem ls_laws_heldIntSS : loopsIn body_laws_heldIntSS = [c_laws_heldIntSS_0] := by kernel_rfl
theorem rd_laws_heldIntSS_2 (N n : Nat) (x : Vals ks_laws_heldIntSS_l2) (K : Ks) : L_laws_heldIntSS N (n + 1) 2 (shape ks_laws_heldIntSS_l2 x) (h_laws_heldIntSS.onOut 2 K) = peRound h_laws_heldIntSS (Orc.of (es_laws_heldIntSS N)) (mixL (L_laws_heldIntSS N) N n 2) c_laws_heldIntSS_0 (shape ks_laws_heldIntSS_l2 x) (h_laws_heldIntSS.onOut 2 K) := by kernel_rfl
theorem fn_laws_heldIntSS (N : Nat) (x : AVals sg_laws_heldIntSS) (kf : Ret → Option Ret) : F_laws_heldIntSS N x kf = peFunc h_laws_heldIntSS (Orc.of (es_laws_heldIntSS N)) (L_laws_heldIntSS N N) Try.f65 (ashape sg_laws_heldIntSS x) kf := by kernel_rfl
theorem sd_laws_heldIntSS (N : Nat) : Sound Try.prog 65 (run_laws_heldIntSS N) := fun_ok2 (hh := h_laws_heldIntSS) mixed tab_ok (es := es_laws_heldIntSS N) ⟨sd_laws_heldIntS N, trivial⟩ (fn := Try.f65) (body := body_laws_heldIntSS) (by kernel_rfl) (by kernel_rfl) (by kernel_rfl) (by kernel_rfl) (by kernel_rfl) (Lf := L_laws_heldIntSS N) (L0_laws_heldIntSS N) ls_laws_heldIntSS (round_cons (key := 2) (ks := ks_laws_heldIntSS_l2) (by kernel_rfl) (by kernel_rfl) (rd_laws_heldIntSS_2 N) trivial) (N := N) (by kernel_rfl) (fn_laws_heldIntSS N)
/-! laws_heldGraph -/
noncomputable def h_laws_heldGraph : Hint := { tab, hn := [], loops := [], outs := [], ords := [] }
noncomputable def sg_laws_heldGraph : List AK := [.v tQILLIE .k, .v (.int .i64) .k]
noncomputable def F_laws_heldGraph (N : Nat) (x : AVals sg_laws_heldGraph) (kf : Ret → Option Ret) : Option Ret := laws_heldGraph N x.1 x.2.1 (fun r0 => kf ⟨[⟨(.int .i64), .k, r0⟩], []⟩)
noncomputable def run_laws_heldGraph (N : Nat) := runOf sg_laws_heldGraph (F_laws_heldGraph N)
noncomputable def es_laws_heldGraph (N : Nat) : List Entry := [⟨65, [.val, .val], (run_laws_heldIntSS N)⟩]
noncomputable def body_laws_heldGraph : Code := match Try.f37.body with | some c => c | none => .skip
noncomputable def L_laws_heldGraph (N n : Nat) (key : Nat) (S : St) (K : Ks) : Option Ret := none
theorem L0_laws_heldGraph (N key : Nat) (S : St) (K : Ks) : L_laws_heldGraph N 0 key S K = none := rfl
theorem ls_laws_heldGraph : loopsIn body_laws_heldGraph = [] := by kernel_rfl
theorem fn_laws_heldGraph (N : Nat) (x : AVals sg_laws_heldGraph) (kf : Ret → Option Ret) : F_laws_heldGraph N x kf = peFunc h_laws_heldGraph (Orc.of (es_laws_heldGraph N)) (L_laws_heldGraph N N) Try.f37 (ashape sg_laws_heldGraph x) kf := by kernel_rfl
theorem sd_laws_heldGraph (N : Nat) : Sound Try.prog 37 (run_laws_heldGraph N) := fun_ok2 (hh := h_laws_heldGraph) mixed tab_ok (es := es_laws_heldGraph N) ⟨sd_laws_heldIntSS N, trivial⟩ (fn := Try.f37) (body := body_laws_heldGraph) (by kernel_rfl) (by kernel_rfl) (by kernel_rfl) (by kernel_rfl) (by kernel_rfl) (Lf := L_laws_heldGraph N) (L0_laws_heldGraph N) ls_laws_heldGraph trivial (N := N) (by kernel_rfl) (fn_laws_heldGraph N)
/-! laws_FnExactExampleGraph -/
noncomputable def h_laws_FnExactExampleGraph : Hint := { tab, hn := [], loops := [], outs := [], ords := [] }
noncomputable def sg_laws_FnExactExampleGraph : List AK := []
noncomputable def F_laws_FnExactExampleGraph (N : Nat) (x : AVals sg_laws_FnExactExampleGraph) (kf : Ret → Option Ret) : Option Ret := laws_FnExactExampleGraph N (fun r0 => kf ⟨[⟨.bool, .k, r0⟩], []⟩)
noncomputable def run_laws_FnExactExampleGraph (N : Nat) := runOf sg_laws_FnExactExampleGraph (F_laws_FnExactExampleGraph N)
noncomputable def es_laws_FnExactExampleGraph (N : Nat) : List Entry := [⟨33, [], (run_spec_ExampleGraph N)⟩, ⟨34, [], (run_impl_ExampleGraph N)⟩, ⟨35, [.val, .val], (run_laws_eqGraph N)⟩, ⟨36, [.lend, .val], (run_laws_markGraph N)⟩, ⟨37, [.val, .val], (run_laws_heldGraph N)⟩]
noncomputable def body_laws_FnExactExampleGraph : Code := match Try.f8.body with | some c => c | none => .skip
noncomputable def L_laws_FnExactExampleGraph (N n : Nat) (key : Nat) (S : St) (K : Ks) : Option Ret := none
theorem L0_laws_FnExactExampleGraph (N key : Nat) (S : St) (K : Ks) : L_laws_FnExactExampleGraph N 0 key S K = none := rfl
theorem ls_laws_FnExactExampleGraph : loopsIn body_laws_FnExactExampleGraph = [] := by kernel_rfl
theorem fn_laws_FnExactExampleGraph (N : Nat) (x : AVals sg_laws_FnExactExampleGraph) (kf : Ret → Option Ret) : F_laws_FnExactExampleGraph N x kf = peFunc h_laws_FnExactExampleGraph (Orc.of (es_laws_FnExactExampleGraph N)) (L_laws_FnExactExampleGraph N N) Try.f8 (ashape sg_laws_FnExactExampleGraph x) kf := by kernel_rfl
theorem sd_laws_FnExactExampleGraph (N : Nat) : Sound Try.prog 8 (run_laws_FnExactExampleGraph N) := fun_ok2 (hh := h_laws_FnExactExampleGraph) mixed tab_ok (es := es_laws_FnExactExampleGraph N) ⟨sd_spec_ExampleGraph N, ⟨sd_impl_ExampleGraph N, ⟨sd_laws_eqGraph N, ⟨sd_laws_markGraph N, ⟨sd_laws_heldGraph N, trivial⟩⟩⟩⟩⟩ (fn := Try.f8) (body := body_laws_FnExactExampleGraph) (by kernel_rfl) (by kernel_rfl) (by kernel_rfl) (by kernel_rfl) (by kernel_rfl) (Lf := L_laws_FnExactExampleGraph N) (L0_laws_FnExactExampleGraph N) ls_laws_FnExactExampleGraph trivial (N := N) (by kernel_rfl) (fn_laws_FnExactExampleGraph N)
end Go.Pv.R
