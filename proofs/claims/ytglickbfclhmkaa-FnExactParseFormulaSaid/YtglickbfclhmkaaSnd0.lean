/- Each function of the program that the law reaches computes its plain function, part 0. -/
import Derived.Test.YtglickbfclhmkaaPlRes
import Derived.Test.YtglickbfclhmkaaGro
import Derived.Test.YtglickbfclhmkaaProg
namespace Go.Pv.R
open Go.Proofs
set_option linter.unusedVariables false
set_option maxRecDepth 100000
noncomputable abbrev dK : Kd := .dead
noncomputable def tab : Tab := [⟨2, (.int .i64), 0, []⟩, ⟨3, (.int .i64), 0, []⟩, ⟨4, .bool, 0, []⟩, ⟨5, (.int .u8), 0, []⟩, ⟨9, .str, 0, []⟩, ⟨12, (.int .u64), 0, []⟩, ⟨21, (.int .i32), 0, []⟩, ⟨22, (.sl (.int .i64)), 3, []⟩, ⟨34, (.sl .str), 9, []⟩, ⟨38, (.sl (.sl (.int .i64))), 22, []⟩, ⟨40, (.int .u64), 0, []⟩, ⟨43, (.sl (.int .u64)), 40, []⟩, ⟨52, (.int .u32), 0, []⟩]
theorem mixed : Try.prog.follows .mixedOrders = true := by kernel_rfl
theorem tab_ok : tabB Try.prog tab = true := by kernel_rfl
/-! spec_l32Read -/
noncomputable def h_spec_l32Read : Hint := { tab, hn := [], loops := [], outs := [], ords := [] }
noncomputable def sg_spec_l32Read : List AK := [.v .str .k, .v (.int .i64) .k]
noncomputable def F_spec_l32Read (N : Nat) (x : AVals sg_spec_l32Read) (kf : Ret → Option Ret) : Option Ret := spec_l32Read N x.1 x.2.1 (fun r0 r1 => kf ⟨[⟨(.sl (.int .i64)), (.o 3 none .k), r0⟩, ⟨(.int .i64), .k, r1⟩], []⟩)
noncomputable def run_spec_l32Read (N : Nat) := runOf sg_spec_l32Read (F_spec_l32Read N)
noncomputable def es_spec_l32Read (N : Nat) : List Entry := [⟨9, [.val, .val], (run_spec_l32Read N)⟩]
noncomputable def body_spec_l32Read : Code := match Try.f9.body with | some c => c | none => .skip
noncomputable def L_spec_l32Read (N n : Nat) (key : Nat) (S : St) (K : Ks) : Option Ret := none
theorem L0_spec_l32Read (N key : Nat) (S : St) (K : Ks) : L_spec_l32Read N 0 key S K = none := rfl
theorem ls_spec_l32Read : loopsIn body_spec_l32Read = [] := by kernel_rfl
theorem fn_spec_l32Read (N : Nat) (x : AVals sg_spec_l32Read) (kf : Ret → Option Ret) : F_spec_l32Read (N + 1) x kf = peFunc h_spec_l32Read (Orc.of (es_spec_l32Read N)) (L_spec_l32Read N N) Try.f9 (ashape sg_spec_l32Read x) kf := by kernel_rfl
theorem sd_spec_l32Read {Γ : Gl} : ∀ N : Nat, Sound Γ Try.prog 9 (run_spec_l32Read N)
  | 0 => sound_zero fun al kf => by
    unfold run_spec_l32Read runOf
    split <;> rfl
  | N + 1 => fun_ok2 (hh := h_spec_l32Read) mixed tab_ok (es := es_spec_l32Read N) ⟨sd_spec_l32Read N, trivial⟩ (fn := Try.f9) (body := body_spec_l32Read) (by kernel_rfl) (by kernel_rfl) (by kernel_rfl) (by kernel_rfl) (by kernel_rfl) (Lf := L_spec_l32Read N) (L0_spec_l32Read N) ls_spec_l32Read trivial (N := N) (by kernel_rfl) (fn_spec_l32Read N) (.inl (by kernel_rfl))
/-! spec_l1In -/
noncomputable def h_spec_l1In : Hint := { tab, hn := [], loops := [], outs := [], ords := [] }
noncomputable def sg_spec_l1In : List AK := [.v (.int .i64) .k, .v (.int .i64) .k, .v (.int .i64) .k]
noncomputable def F_spec_l1In (N : Nat) (x : AVals sg_spec_l1In) (kf : Ret → Option Ret) : Option Ret := spec_l1In N x.1 x.2.1 x.2.2.1 (fun r0 => kf ⟨[⟨.bool, .k, r0⟩], []⟩)
noncomputable def run_spec_l1In (N : Nat) := runOf sg_spec_l1In (F_spec_l1In N)
noncomputable def es_spec_l1In (N : Nat) : List Entry := []
noncomputable def body_spec_l1In : Code := match Try.f17.body with | some c => c | none => .skip
noncomputable def L_spec_l1In (N n : Nat) (key : Nat) (S : St) (K : Ks) : Option Ret := none
theorem L0_spec_l1In (N key : Nat) (S : St) (K : Ks) : L_spec_l1In N 0 key S K = none := rfl
theorem ls_spec_l1In : loopsIn body_spec_l1In = [] := by kernel_rfl
theorem fn_spec_l1In (N : Nat) (x : AVals sg_spec_l1In) (kf : Ret → Option Ret) : F_spec_l1In N x kf = peFunc h_spec_l1In (Orc.of (es_spec_l1In N)) (L_spec_l1In N N) Try.f17 (ashape sg_spec_l1In x) kf := by kernel_rfl
theorem sd_spec_l1In {Γ : Gl} (N : Nat) : Sound Γ Try.prog 17 (run_spec_l1In N) := fun_ok2 (hh := h_spec_l1In) mixed tab_ok (es := es_spec_l1In N) trivial (fn := Try.f17) (body := body_spec_l1In) (by kernel_rfl) (by kernel_rfl) (by kernel_rfl) (by kernel_rfl) (by kernel_rfl) (Lf := L_spec_l1In N) (L0_spec_l1In N) ls_spec_l1In trivial (N := N) (by kernel_rfl) (fn_spec_l1In N) (.inl (by kernel_rfl))
/-! spec_IsFormula -/
noncomputable def ks_spec_IsFormula_l3 : List Kd := [.v (.sl (.int .i64)) .k, dK, dK, .v (.int .i64) .k, .v (.int .i64) .k, dK, dK, dK, dK, dK, dK, dK, dK, dK, dK, dK, dK, dK, dK, dK, dK, dK, dK, dK, dK, dK, dK, dK, dK, dK, dK, dK, dK, dK, dK, dK, dK, dK, dK, dK, dK, dK, dK, dK, dK, dK, dK, dK]
noncomputable def ko_spec_IsFormula_l3_0 : List Kd := [.v (.sl (.int .i64)) .k, dK, dK, .v (.int .i64) .k, dK, dK, dK, dK, dK, dK, dK, dK, dK, dK, dK, dK, dK, dK, dK, dK, dK, dK, dK, dK, dK, dK, dK, dK, dK, dK, dK, dK, dK, dK, dK, dK, dK, dK, dK, dK, dK, dK, dK, dK, dK, dK, dK, dK]
noncomputable def ko_spec_IsFormula_l3_1 : List Kd := [dK, dK, .v .bool .k, dK, dK, dK, dK, dK, dK, dK, dK, dK, dK, dK, dK, dK, dK, dK, dK, dK, dK, dK, dK, dK, dK, dK, dK, dK, dK, dK, dK, dK, dK, dK, dK, dK, dK, dK, dK, dK, dK, dK, dK, dK, dK, dK, dK, dK]
noncomputable def h_spec_IsFormula : Hint := { tab, hn := [], loops := [(3, ks_spec_IsFormula_l3)], outs := [(3, 2, ko_spec_IsFormula_l3_0), (3, 1, ko_spec_IsFormula_l3_1)], ords := [] }
noncomputable def sg_spec_IsFormula : List AK := [.v (.sl (.int .i64)) .k]
noncomputable def F_spec_IsFormula (N : Nat) (x : AVals sg_spec_IsFormula) (kf : Ret → Option Ret) : Option Ret := spec_IsFormula N x.1 (fun r0 => kf ⟨[⟨.bool, .k, r0⟩], []⟩)
noncomputable def run_spec_IsFormula (N : Nat) := runOf sg_spec_IsFormula (F_spec_IsFormula N)
noncomputable def es_spec_IsFormula (N : Nat) : List Entry := [⟨17, [.val, .val, .val], (run_spec_l1In N)⟩]
noncomputable def body_spec_IsFormula : Code := match Try.f13.body with | some c => c | none => .skip
noncomputable def L_spec_IsFormula (N n : Nat) (key : Nat) (S : St) (K : Ks) : Option Ret := bif Nat.beq key 3 then withVals ks_spec_IsFormula_l3 S (fun x => spec_IsFormula_l3 N x.1 n (fun z0 => K (.x 0) (shape ko_spec_IsFormula_l3_0 (x.1, z0, ()))) (fun z0 => K .r (shape ko_spec_IsFormula_l3_1 (z0, ()))) x.2.1 x.2.2.1) else none
theorem L0_spec_IsFormula (N key : Nat) (S : St) (K : Ks) : L_spec_IsFormula N 0 key S K = none := (bif0 (withVals0 fun _ => rfl) rfl)
noncomputable def c_spec_IsFormula_0 : Code := (loopsIn body_spec_IsFormula).getD 0 .skip
theorem ls_spec_IsFormula : loopsIn body_spec_IsFormula = [c_spec_IsFormula_0] := by kernel_rfl
theorem rd_spec_IsFormula_3 (N n : Nat) (x : Vals ks_spec_IsFormula_l3) (K : Ks) : L_spec_IsFormula N (n + 1) 3 (shape ks_spec_IsFormula_l3 x) (h_spec_IsFormula.onOut 3 K) = peRound h_spec_IsFormula (Orc.of (es_spec_IsFormula N)) (mixL (L_spec_IsFormula N) N n 3) c_spec_IsFormula_0 (shape ks_spec_IsFormula_l3 x) (h_spec_IsFormula.onOut 3 K) := by kernel_rfl
theorem fn_spec_IsFormula (N : Nat) (x : AVals sg_spec_IsFormula) (kf : Ret → Option Ret) : F_spec_IsFormula N x kf = peFunc h_spec_IsFormula (Orc.of (es_spec_IsFormula N)) (L_spec_IsFormula N N) Try.f13 (ashape sg_spec_IsFormula x) kf := by kernel_rfl
theorem sd_spec_IsFormula {Γ : Gl} (N : Nat) : Sound Γ Try.prog 13 (run_spec_IsFormula N) := fun_ok2 (hh := h_spec_IsFormula) mixed tab_ok (es := es_spec_IsFormula N) ⟨sd_spec_l1In N, trivial⟩ (fn := Try.f13) (body := body_spec_IsFormula) (by kernel_rfl) (by kernel_rfl) (by kernel_rfl) (by kernel_rfl) (by kernel_rfl) (Lf := L_spec_IsFormula N) (L0_spec_IsFormula N) ls_spec_IsFormula (round_cons (key := 3) (ks := ks_spec_IsFormula_l3) (by kernel_rfl) (by kernel_rfl) (rd_spec_IsFormula_3 N) trivial) (N := N) (by kernel_rfl) (fn_spec_IsFormula N) (.inl (by kernel_rfl))
/-! spec_FormulaText -/
noncomputable def ks_spec_FormulaText_l5 : List Kd := [.v (.sl (.int .i64)) .k, dK, dK, .v (.sl .str) (.o 9 none .k), .v (.int .i64) .k, dK, dK, dK, dK, dK, dK, dK, dK, dK, dK, dK, dK, dK, dK, dK, dK, dK, dK, dK, dK, dK, dK, dK, dK, dK, dK, dK, dK, dK, dK, dK, dK, dK, dK, dK, dK, dK, dK, dK, dK, dK, dK, dK, dK, dK, dK, dK, dK, dK, dK, dK, dK, dK, dK, dK, dK, dK, dK, dK, dK, dK, dK, dK, dK, dK, dK, dK, dK, dK, dK, dK, dK, dK, dK, dK, dK, dK, dK, dK, dK, dK, dK]
noncomputable def ko_spec_FormulaText_l5_0 : List Kd := [dK, dK, dK, .v (.sl .str) (.o 9 none .k), dK, dK, dK, dK, dK, dK, dK, dK, dK, dK, dK, dK, dK, dK, dK, dK, dK, dK, dK, dK, dK, dK, dK, dK, dK, dK, dK, dK, dK, dK, dK, dK, dK, dK, dK, dK, dK, dK, dK, dK, dK, dK, dK, dK, dK, dK, dK, dK, dK, dK, dK, dK, dK, dK, dK, dK, dK, dK, dK, dK, dK, dK, dK, dK, dK, dK, dK, dK, dK, dK, dK, dK, dK, dK, dK, dK, dK, dK, dK, dK, dK, dK, dK]
noncomputable def h_spec_FormulaText : Hint := { tab, hn := [], loops := [(5, ks_spec_FormulaText_l5)], outs := [(5, 2, ko_spec_FormulaText_l5_0)], ords := [(8, (OT.seq [0, 1, 2, 3, 4, 5, 7, 8, 9, 10, 11, 12, 16, 17, 18, 19, 20, 6, 13, 14, 15, 21, 22, 23] .done)), (11, (OT.seq [0, 1, 2, 3, 4, 5, 6, 7, 8, 9, 10, 11, 12, 13] .done))] }
noncomputable def sg_spec_FormulaText : List AK := [.v (.sl (.int .i64)) .k]
noncomputable def F_spec_FormulaText (N : Nat) (x : AVals sg_spec_FormulaText) (kf : Ret → Option Ret) : Option Ret := spec_FormulaText N x.1 (fun r0 => kf ⟨[⟨.str, .k, r0⟩], []⟩)
noncomputable def run_spec_FormulaText (N : Nat) := runOf sg_spec_FormulaText (F_spec_FormulaText N)
noncomputable def es_spec_FormulaText (N : Nat) : List Entry := [⟨13, [.val], (run_spec_IsFormula N)⟩]
noncomputable def body_spec_FormulaText : Code := match Try.f10.body with | some c => c | none => .skip
noncomputable def L_spec_FormulaText (N n : Nat) (key : Nat) (S : St) (K : Ks) : Option Ret := bif Nat.beq key 5 then withVals ks_spec_FormulaText_l5 S (fun x => spec_FormulaText_l5 x.1 n (fun z0 => K (.x 0) (shape ko_spec_FormulaText_l5_0 (z0, ()))) x.2.1 x.2.2.1) else none
theorem L0_spec_FormulaText (N key : Nat) (S : St) (K : Ks) : L_spec_FormulaText N 0 key S K = none := (bif0 (withVals0 fun _ => rfl) rfl)
noncomputable def c_spec_FormulaText_0 : Code := (loopsIn body_spec_FormulaText).getD 0 .skip
theorem ls_spec_FormulaText : loopsIn body_spec_FormulaText = [c_spec_FormulaText_0] := by kernel_rfl
theorem rd_spec_FormulaText_5 (N n : Nat) (x : Vals ks_spec_FormulaText_l5) (K : Ks) : L_spec_FormulaText N (n + 1) 5 (shape ks_spec_FormulaText_l5 x) (h_spec_FormulaText.onOut 5 K) = peRound h_spec_FormulaText (Orc.of (es_spec_FormulaText N)) (mixL (L_spec_FormulaText N) N n 5) c_spec_FormulaText_0 (shape ks_spec_FormulaText_l5 x) (h_spec_FormulaText.onOut 5 K) := by kernel_rfl
theorem fn_spec_FormulaText (N : Nat) (x : AVals sg_spec_FormulaText) (kf : Ret → Option Ret) : F_spec_FormulaText N x kf = peFunc h_spec_FormulaText (Orc.of (es_spec_FormulaText N)) (L_spec_FormulaText N N) Try.f10 (ashape sg_spec_FormulaText x) kf := by kernel_rfl
theorem sd_spec_FormulaText {Γ : Gl} (N : Nat) : Sound Γ Try.prog 10 (run_spec_FormulaText N) := fun_ok2 (hh := h_spec_FormulaText) mixed tab_ok (es := es_spec_FormulaText N) ⟨sd_spec_IsFormula N, trivial⟩ (fn := Try.f10) (body := body_spec_FormulaText) (by kernel_rfl) (by kernel_rfl) (by kernel_rfl) (by kernel_rfl) (by kernel_rfl) (Lf := L_spec_FormulaText N) (L0_spec_FormulaText N) ls_spec_FormulaText (round_cons (key := 5) (ks := ks_spec_FormulaText_l5) (by kernel_rfl) (by kernel_rfl) (rd_spec_FormulaText_5 N) trivial) (N := N) (by kernel_rfl) (fn_spec_FormulaText N) (.inl (by kernel_rfl))
/-! spec_ParseFormula -/
noncomputable def h_spec_ParseFormula : Hint := { tab, hn := [], loops := [], outs := [], ords := [] }
noncomputable def sg_spec_ParseFormula : List AK := [.v .str .k]
noncomputable def F_spec_ParseFormula (N : Nat) (x : AVals sg_spec_ParseFormula) (kf : Ret → Option Ret) : Option Ret := spec_ParseFormula N x.1 (fun r0 r1 => kf ⟨[⟨(.sl (.int .i64)), (.o 3 none .k), r0⟩, ⟨.bool, .k, r1⟩], []⟩)
noncomputable def run_spec_ParseFormula (N : Nat) := runOf sg_spec_ParseFormula (F_spec_ParseFormula N)
noncomputable def es_spec_ParseFormula (N : Nat) : List Entry := [⟨9, [.val, .val], (run_spec_l32Read N)⟩, ⟨10, [.val], (run_spec_FormulaText N)⟩]
noncomputable def body_spec_ParseFormula : Code := match Try.f4.body with | some c => c | none => .skip
noncomputable def L_spec_ParseFormula (N n : Nat) (key : Nat) (S : St) (K : Ks) : Option Ret := none
theorem L0_spec_ParseFormula (N key : Nat) (S : St) (K : Ks) : L_spec_ParseFormula N 0 key S K = none := rfl
theorem ls_spec_ParseFormula : loopsIn body_spec_ParseFormula = [] := by kernel_rfl
theorem fn_spec_ParseFormula (N : Nat) (x : AVals sg_spec_ParseFormula) (kf : Ret → Option Ret) : F_spec_ParseFormula N x kf = peFunc h_spec_ParseFormula (Orc.of (es_spec_ParseFormula N)) (L_spec_ParseFormula N N) Try.f4 (ashape sg_spec_ParseFormula x) kf := by kernel_rfl
theorem sd_spec_ParseFormula {Γ : Gl} (N : Nat) : Sound Γ Try.prog 4 (run_spec_ParseFormula N) := fun_ok2 (hh := h_spec_ParseFormula) mixed tab_ok (es := es_spec_ParseFormula N) ⟨sd_spec_l32Read N, ⟨sd_spec_FormulaText N, trivial⟩⟩ (fn := Try.f4) (body := body_spec_ParseFormula) (by kernel_rfl) (by kernel_rfl) (by kernel_rfl) (by kernel_rfl) (by kernel_rfl) (Lf := L_spec_ParseFormula N) (L0_spec_ParseFormula N) ls_spec_ParseFormula trivial (N := N) (by kernel_rfl) (fn_spec_ParseFormula N) (.inl (by kernel_rfl))
/-! strings_IndexByte: told by the shelf -/
def ren_strings_IndexByte : Go.Shelf.Ren := ⟨fun n => bif Nat.beq n 137 then 14 else bif Nat.beq n 217 then 18 else bif Nat.beq n 266 then 21 else n, fun n => bif Nat.beq n 3 then 3 else bif Nat.beq n 5 then 5 else bif Nat.beq n 9 then 9 else n, fun n => n⟩
theorem lays_strings_IndexByte : Lays.n137 Try.prog ren_strings_IndexByte := { mixed := by kernel_rfl, f137 := by kernel_rfl, f217 := by kernel_rfl, f266 := by kernel_rfl, t3 := by kernel_rfl, a3 := fun w => by kernel_rfl, z3 := fun w => by kernel_rfl, v3 := fun w => by kernel_rfl, t5 := by kernel_rfl, a5 := fun w => by kernel_rfl, z5 := fun w => by kernel_rfl, v5 := fun w => by kernel_rfl, t9 := by kernel_rfl, a9 := fun w => by kernel_rfl, z9 := fun w => by kernel_rfl, v9 := fun w => by kernel_rfl }
noncomputable def sg_strings_IndexByte : List AK := [.v .str .k, .v (.int .u8) .k]
noncomputable def F_strings_IndexByte (N : Nat) (x : AVals sg_strings_IndexByte) (kf : Ret → Option Ret) : Option Ret := strings_IndexByte N x.1 x.2.1 (fun r0 => kf ⟨[⟨(.int .i64), .k, r0⟩], []⟩)
noncomputable def run_strings_IndexByte (N : Nat) := runOf sg_strings_IndexByte (F_strings_IndexByte N)
theorem sd_strings_IndexByte {Γ : Gl} (N : Nat) : Sound Γ Try.prog 14 (run_strings_IndexByte N) := sound_index lays_strings_IndexByte
/-! slices_Grow_int: told by the shelf -/
def ren_slices_Grow_int : Go.Shelf.Ren := ⟨fun n => bif Nat.beq n 4 then 19 else n, fun n => bif Nat.beq n 0 then 0 else bif Nat.beq n 3 then 3 else bif Nat.beq n 4 then 4 else bif Nat.beq n 9 then 9 else bif Nat.beq n 20 then 20 else bif Nat.beq n 22 then 22 else bif Nat.beq n 25 then 3 else n, fun n => n⟩
theorem lays_slices_Grow_int : Go.Proofs.Lays8.n4 Try.prog ren_slices_Grow_int := { f4 := ⟨Try.f19.name, by kernel_rfl, by kernel_rfl⟩, mixed := by kernel_rfl, t0 := by kernel_rfl, a0 := fun w => by kernel_rfl, z0 := fun w => by kernel_rfl, v0 := fun w => by kernel_rfl, t3 := by kernel_rfl, a3 := fun w => by kernel_rfl, z3 := fun w => by kernel_rfl, v3 := fun w => by kernel_rfl, t4 := by kernel_rfl, a4 := fun w => by kernel_rfl, z4 := fun w => by kernel_rfl, v4 := fun w => by kernel_rfl, t9 := by kernel_rfl, a9 := fun w => by kernel_rfl, z9 := fun w => by kernel_rfl, v9 := fun w => by kernel_rfl, t20 := by kernel_rfl, a20 := fun w => by kernel_rfl, z20 := fun w => by kernel_rfl, v20 := fun w => by kernel_rfl, t22 := by kernel_rfl, a22 := fun w => by kernel_rfl, z22 := fun w => by kernel_rfl, v22 := fun w => by kernel_rfl }
noncomputable def ti_slices_Grow_int : TypeInfo := (Try.prog.info? 3).get (by kernel_rfl)
noncomputable def sg_slices_Grow_int : List AK := [.v (.sl (.int .i64)) (.o 3 none .k), .v (.int .i64) .k]
noncomputable def F_slices_Grow_int (N : Nat) (x : AVals sg_slices_Grow_int) (kf : Ret → Option Ret) : Option Ret := slices_Grow_int N x.1 x.2.1 (fun r0 => kf ⟨[⟨(.sl (.int .i64)), (.o 3 none .k), r0⟩], []⟩)
noncomputable def run_slices_Grow_int (N : Nat) := runOf sg_slices_Grow_int (F_slices_Grow_int N)
theorem sd_slices_Grow_int {Γ : Gl} (N : Nat) : Sound Γ Try.prog 19 (run_slices_Grow_int N) := sound_grow (ρ := ren_slices_Grow_int) (i0 := ti_slices_Grow_int) (z := .int .i64 0) lays_slices_Grow_int (by kernel_rfl) (by kernel_rfl) (by kernel_rfl) (by kernel_rfl) (by kernel_rfl)
/-! slices_Concat_int -/
noncomputable def ks_slices_Concat_int_l3 : List Kd := [.v (.sl (.sl (.int .i64))) .k, dK, dK, .v (.int .i64) .k, dK, dK, dK, dK, dK, .v (.sl (.sl (.int .i64))) .k, .v (.int .i64) .k, .v (.int .i64) .k, dK, dK, dK, dK, dK, dK, dK, dK, dK, dK, dK, dK, dK, dK, dK, dK, dK, dK, dK, dK, dK, dK, dK, dK]
noncomputable def ko_slices_Concat_int_l3_0 : List Kd := [.v (.sl (.sl (.int .i64))) .k, dK, dK, .v (.int .i64) .k, dK, dK, dK, dK, dK, dK, dK, dK, dK, dK, dK, dK, dK, dK, dK, dK, dK, dK, dK, dK, dK, dK, dK, dK, dK, dK, dK, dK, dK, dK, dK, dK]
noncomputable def ks_slices_Concat_int_l11 : List Kd := [dK, dK, dK, dK, dK, dK, .v (.sl (.int .i64)) (.o 3 none .k), dK, dK, dK, dK, dK, dK, dK, dK, dK, dK, dK, dK, dK, dK, dK, dK, dK, dK, .v (.sl (.sl (.int .i64))) .k, .v (.int .i64) .k, .v (.int .i64) .k, dK, dK, dK, dK, dK, dK, dK, dK]
noncomputable def ko_slices_Concat_int_l11_0 : List Kd := [dK, dK, dK, dK, dK, dK, .v (.sl (.int .i64)) (.o 3 none .k), dK, dK, dK, dK, dK, dK, dK, dK, dK, dK, dK, dK, dK, dK, dK, dK, dK, dK, dK, dK, dK, dK, dK, dK, dK, dK, dK, dK, dK]
noncomputable def h_slices_Concat_int : Hint := { tab, hn := [], loops := [(3, ks_slices_Concat_int_l3), (11, ks_slices_Concat_int_l11)], outs := [(3, 2, ko_slices_Concat_int_l3_0), (11, 4, ko_slices_Concat_int_l11_0)], ords := [] }
noncomputable def sg_slices_Concat_int : List AK := [.v (.sl (.sl (.int .i64))) .k]
noncomputable def F_slices_Concat_int (N : Nat) (x : AVals sg_slices_Concat_int) (kf : Ret → Option Ret) : Option Ret := slices_Concat_int N x.1 (fun r0 => kf ⟨[⟨(.sl (.int .i64)), (.o 3 none .k), r0⟩], []⟩)
noncomputable def run_slices_Concat_int (N : Nat) := runOf sg_slices_Concat_int (F_slices_Concat_int N)
noncomputable def es_slices_Concat_int (N : Nat) : List Entry := [⟨19, [.take, .val], (run_slices_Grow_int N)⟩]
noncomputable def body_slices_Concat_int : Code := match Try.f15.body with | some c => c | none => .skip
noncomputable def L_slices_Concat_int (N n : Nat) (key : Nat) (S : St) (K : Ks) : Option Ret := bif Nat.beq key 3 then withVals ks_slices_Concat_int_l3 S (fun x => slices_Concat_int_l3 x.1 x.2.2.1 x.2.2.2.1 n (fun z0 => K (.x 0) (shape ko_slices_Concat_int_l3_0 (x.1, z0, ()))) x.2.1 x.2.2.2.2.1) else bif Nat.beq key 11 then withVals ks_slices_Concat_int_l11 S (fun x => slices_Concat_int_l11 x.2.1 x.2.2.1 n (fun z0 => K (.x 2) (shape ko_slices_Concat_int_l11_0 (z0, ()))) x.1 x.2.2.2.1) else none
theorem L0_slices_Concat_int (N key : Nat) (S : St) (K : Ks) : L_slices_Concat_int N 0 key S K = none := (bif0 (withVals0 fun _ => rfl) (bif0 (withVals0 fun _ => rfl) rfl))
noncomputable def c_slices_Concat_int_0 : Code := (loopsIn body_slices_Concat_int).getD 0 .skip
noncomputable def c_slices_Concat_int_1 : Code := (loopsIn body_slices_Concat_int).getD 1 .skip
theorem ls_slices_Concat_int : loopsIn body_slices_Concat_int = [c_slices_Concat_int_0, c_slices_Concat_int_1] := by kernel_rfl
theorem rd_slices_Concat_int_11 (N n : Nat) (x : Vals ks_slices_Concat_int_l11) (K : Ks) : L_slices_Concat_int N (n + 1) 11 (shape ks_slices_Concat_int_l11 x) (h_slices_Concat_int.onOut 11 K) = peRound h_slices_Concat_int (Orc.of (es_slices_Concat_int N)) (mixL (L_slices_Concat_int N) N n 11) c_slices_Concat_int_1 (shape ks_slices_Concat_int_l11 x) (h_slices_Concat_int.onOut 11 K) := by kernel_rfl
theorem rd_slices_Concat_int_3 (N n : Nat) (x : Vals ks_slices_Concat_int_l3) (K : Ks) : L_slices_Concat_int N (n + 1) 3 (shape ks_slices_Concat_int_l3 x) (h_slices_Concat_int.onOut 3 K) = peRound h_slices_Concat_int (Orc.of (es_slices_Concat_int N)) (mixL (L_slices_Concat_int N) N n 3) c_slices_Concat_int_0 (shape ks_slices_Concat_int_l3 x) (h_slices_Concat_int.onOut 3 K) := by kernel_rfl
theorem fn_slices_Concat_int (N : Nat) (x : AVals sg_slices_Concat_int) (kf : Ret → Option Ret) : F_slices_Concat_int N x kf = peFunc h_slices_Concat_int (Orc.of (es_slices_Concat_int N)) (L_slices_Concat_int N N) Try.f15 (ashape sg_slices_Concat_int x) kf := by kernel_rfl
theorem sd_slices_Concat_int {Γ : Gl} (N : Nat) : Sound Γ Try.prog 15 (run_slices_Concat_int N) := fun_ok2 (hh := h_slices_Concat_int) mixed tab_ok (es := es_slices_Concat_int N) ⟨sd_slices_Grow_int N, trivial⟩ (fn := Try.f15) (body := body_slices_Concat_int) (by kernel_rfl) (by kernel_rfl) (by kernel_rfl) (by kernel_rfl) (by kernel_rfl) (Lf := L_slices_Concat_int N) (L0_slices_Concat_int N) ls_slices_Concat_int (round_cons (key := 3) (ks := ks_slices_Concat_int_l3) (by kernel_rfl) (by kernel_rfl) (rd_slices_Concat_int_3 N) (round_cons (key := 11) (ks := ks_slices_Concat_int_l11) (by kernel_rfl) (by kernel_rfl) (rd_slices_Concat_int_11 N) trivial)) (N := N) (by kernel_rfl) (fn_slices_Concat_int N) (.inl (by kernel_rfl))
/-! impl_readFormula -/
noncomputable def h_impl_readFormula : Hint := { tab, hn := [], loops := [], outs := [], ords := [(14, (OT.seq [0, 1, 2, 3, 7, 8, 4, 5, 6, 9, 10, 11] .done)), (15, (OT.seq [0, 1, 2, 3, 5, 6, 4, 7, 8, 9] .done))] }
noncomputable def sg_impl_readFormula : List AK := [.v .str .k]
noncomputable def F_impl_readFormula (N : Nat) (x : AVals sg_impl_readFormula) (kf : Ret → Option Ret) : Option Ret := impl_readFormula N x.1 (fun r0 r1 r2 => kf ⟨[⟨(.sl (.int .i64)), (.o 3 none .k), r0⟩, ⟨.str, .k, r1⟩, ⟨.bool, .k, r2⟩], []⟩)
noncomputable def run_impl_readFormula (N : Nat) := runOf sg_impl_readFormula (F_impl_readFormula N)
noncomputable def es_impl_readFormula (N : Nat) : List Entry := [⟨14, [.val, .val], (run_strings_IndexByte N)⟩, ⟨15, [.val], (run_slices_Concat_int N)⟩, ⟨11, [.val], (run_impl_readFormula N)⟩]
noncomputable def body_impl_readFormula : Code := match Try.f11.body with | some c => c | none => .skip
noncomputable def L_impl_readFormula (N n : Nat) (key : Nat) (S : St) (K : Ks) : Option Ret := none
theorem L0_impl_readFormula (N key : Nat) (S : St) (K : Ks) : L_impl_readFormula N 0 key S K = none := rfl
theorem ls_impl_readFormula : loopsIn body_impl_readFormula = [] := by kernel_rfl
theorem fn_impl_readFormula (N : Nat) (x : AVals sg_impl_readFormula) (kf : Ret → Option Ret) : F_impl_readFormula (N + 1) x kf = peFunc h_impl_readFormula (Orc.of (es_impl_readFormula N)) (L_impl_readFormula N N) Try.f11 (ashape sg_impl_readFormula x) kf := by kernel_rfl
theorem sd_impl_readFormula {Γ : Gl} : ∀ N : Nat, Sound Γ Try.prog 11 (run_impl_readFormula N)
  | 0 => sound_zero fun al kf => by
    unfold run_impl_readFormula runOf
    split <;> rfl
  | N + 1 => fun_ok2 (hh := h_impl_readFormula) mixed tab_ok (es := es_impl_readFormula N) ⟨sd_strings_IndexByte N, ⟨sd_slices_Concat_int N, ⟨sd_impl_readFormula N, trivial⟩⟩⟩ (fn := Try.f11) (body := body_impl_readFormula) (by kernel_rfl) (by kernel_rfl) (by kernel_rfl) (by kernel_rfl) (by kernel_rfl) (Lf := L_impl_readFormula N) (L0_impl_readFormula N) ls_impl_readFormula trivial (N := N) (by kernel_rfl) (fn_impl_readFormula N) (.inl (by kernel_rfl))
/-! impl_InRange -/
noncomputable def h_impl_InRange : Hint := { tab, hn := [], loops := [], outs := [], ords := [] }
noncomputable def sg_impl_InRange : List AK := [.v (.int .i64) .k, .v (.int .i64) .k, .v (.int .i64) .k]
noncomputable def F_impl_InRange (N : Nat) (x : AVals sg_impl_InRange) (kf : Ret → Option Ret) : Option Ret := impl_InRange N x.1 x.2.1 x.2.2.1 (fun r0 => kf ⟨[⟨.bool, .k, r0⟩], []⟩)
noncomputable def run_impl_InRange (N : Nat) := runOf sg_impl_InRange (F_impl_InRange N)
noncomputable def es_impl_InRange (N : Nat) : List Entry := []
noncomputable def body_impl_InRange : Code := match Try.f22.body with | some c => c | none => .skip
noncomputable def L_impl_InRange (N n : Nat) (key : Nat) (S : St) (K : Ks) : Option Ret := none
theorem L0_impl_InRange (N key : Nat) (S : St) (K : Ks) : L_impl_InRange N 0 key S K = none := rfl
theorem ls_impl_InRange : loopsIn body_impl_InRange = [] := by kernel_rfl
theorem fn_impl_InRange (N : Nat) (x : AVals sg_impl_InRange) (kf : Ret → Option Ret) : F_impl_InRange N x kf = peFunc h_impl_InRange (Orc.of (es_impl_InRange N)) (L_impl_InRange N N) Try.f22 (ashape sg_impl_InRange x) kf := by kernel_rfl
theorem sd_impl_InRange {Γ : Gl} (N : Nat) : Sound Γ Try.prog 22 (run_impl_InRange N) := fun_ok2 (hh := h_impl_InRange) mixed tab_ok (es := es_impl_InRange N) trivial (fn := Try.f22) (body := body_impl_InRange) (by kernel_rfl) (by kernel_rfl) (by kernel_rfl) (by kernel_rfl) (by kernel_rfl) (Lf := L_impl_InRange N) (L0_impl_InRange N) ls_impl_InRange trivial (N := N) (by kernel_rfl) (fn_impl_InRange N) (.inl (by kernel_rfl))
/-! impl_letterRows -/
noncomputable def ks_impl_letterRows_l3 : List Kd := [.v (.int .i64) .k, dK, dK, .v (.int .u64) .k, dK, .v (.int .i64) .k, dK, dK, dK, dK, dK, dK, dK, dK, dK, dK, dK, dK, dK]
noncomputable def ko_impl_letterRows_l3_0 : List Kd := [dK, dK, dK, .v (.int .u64) .k, dK, dK, dK, dK, dK, dK, dK, dK, dK, dK, dK, dK, dK, dK, dK]
noncomputable def h_impl_letterRows : Hint := { tab, hn := [], loops := [(3, ks_impl_letterRows_l3)], outs := [(3, 2, ko_impl_letterRows_l3_0)], ords := [] }
noncomputable def sg_impl_letterRows : List AK := [.v (.int .i64) .k]
noncomputable def F_impl_letterRows (N : Nat) (x : AVals sg_impl_letterRows) (kf : Ret → Option Ret) : Option Ret := impl_letterRows N x.1 (fun r0 => kf ⟨[⟨(.int .u64), .k, r0⟩], []⟩)
noncomputable def run_impl_letterRows (N : Nat) := runOf sg_impl_letterRows (F_impl_letterRows N)
noncomputable def es_impl_letterRows (N : Nat) : List Entry := []
noncomputable def body_impl_letterRows : Code := match Try.f23.body with | some c => c | none => .skip
noncomputable def L_impl_letterRows (N n : Nat) (key : Nat) (S : St) (K : Ks) : Option Ret := bif Nat.beq key 3 then withVals ks_impl_letterRows_l3 S (fun x => impl_letterRows_l3 x.1 n (fun z0 => K (.x 0) (shape ko_impl_letterRows_l3_0 (z0, ()))) x.2.1 x.2.2.1) else none
theorem L0_impl_letterRows (N key : Nat) (S : St) (K : Ks) : L_impl_letterRows N 0 key S K = none := (bif0 (withVals0 fun _ => rfl) rfl)
noncomputable def c_impl_letterRows_0 : Code := (loopsIn body_impl_letterRows).getD 0 .skip
theorem ls_impl_letterRows : loopsIn body_impl_letterRows = [c_impl_letterRows_0] := by kernel_rfl
theorem rd_impl_letterRows_3 (N n : Nat) (x : Vals ks_impl_letterRows_l3) (K : Ks) : L_impl_letterRows N (n + 1) 3 (shape ks_impl_letterRows_l3 x) (h_impl_letterRows.onOut 3 K) = peRound h_impl_letterRows (Orc.of (es_impl_letterRows N)) (mixL (L_impl_letterRows N) N n 3) c_impl_letterRows_0 (shape ks_impl_letterRows_l3 x) (h_impl_letterRows.onOut 3 K) := by kernel_rfl
theorem fn_impl_letterRows (N : Nat) (x : AVals sg_impl_letterRows) (kf : Ret → Option Ret) : F_impl_letterRows N x kf = peFunc h_impl_letterRows (Orc.of (es_impl_letterRows N)) (L_impl_letterRows N N) Try.f23 (ashape sg_impl_letterRows x) kf := by kernel_rfl
theorem sd_impl_letterRows {Γ : Gl} (N : Nat) : Sound Γ Try.prog 23 (run_impl_letterRows N) := fun_ok2 (hh := h_impl_letterRows) mixed tab_ok (es := es_impl_letterRows N) trivial (fn := Try.f23) (body := body_impl_letterRows) (by kernel_rfl) (by kernel_rfl) (by kernel_rfl) (by kernel_rfl) (by kernel_rfl) (Lf := L_impl_letterRows N) (L0_impl_letterRows N) ls_impl_letterRows (round_cons (key := 3) (ks := ks_impl_letterRows_l3) (by kernel_rfl) (by kernel_rfl) (rd_impl_letterRows_3 N) trivial) (N := N) (by kernel_rfl) (fn_impl_letterRows N) (.inl (by kernel_rfl))
/-! impl_rowsOf -/
noncomputable def ks_impl_rowsOf_l5 : List Kd := [dK, dK, dK, dK, .v (.sl (.int .u64)) (.o 40 none .k), dK, dK, dK, dK, dK, dK, dK, dK, dK, dK, .v (.sl (.int .i64)) .k, .v (.int .i64) .k, .v (.int .i64) .k, dK, dK, dK, dK, dK, dK, dK, dK, dK, dK, dK, dK, dK, dK, dK, dK, dK, dK, dK, dK, dK, dK, dK, dK, dK, dK, dK, dK, dK, dK, dK, dK, dK, dK, dK, dK, dK, dK, dK, dK, dK, dK, dK, dK, dK, dK, dK, dK, dK, dK, dK, dK, dK, dK, dK, dK, dK, dK, dK, dK, dK, dK, dK, dK, dK, dK, dK, dK, dK, dK, dK, dK, dK, dK, dK, dK, dK, dK, dK, dK, dK, dK, dK, dK, dK]
noncomputable def ko_impl_rowsOf_l5_0 : List Kd := [dK, dK, dK, dK, .v (.sl (.int .u64)) (.o 40 none .k), dK, dK, dK, dK, dK, dK, dK, dK, dK, dK, dK, dK, dK, dK, dK, dK, dK, dK, dK, dK, dK, dK, dK, dK, dK, dK, dK, dK, dK, dK, dK, dK, dK, dK, dK, dK, dK, dK, dK, dK, dK, dK, dK, dK, dK, dK, dK, dK, dK, dK, dK, dK, dK, dK, dK, dK, dK, dK, dK, dK, dK, dK, dK, dK, dK, dK, dK, dK, dK, dK, dK, dK, dK, dK, dK, dK, dK, dK, dK, dK, dK, dK, dK, dK, dK, dK, dK, dK, dK, dK, dK, dK, dK, dK, dK, dK, dK, dK]
noncomputable def ko_impl_rowsOf_l5_1 : List Kd := [dK, dK, .v (.int .u64) .k, .v .bool .k, dK, dK, dK, dK, dK, dK, dK, dK, dK, dK, dK, dK, dK, dK, dK, dK, dK, dK, dK, dK, dK, dK, dK, dK, dK, dK, dK, dK, dK, dK, dK, dK, dK, dK, dK, dK, dK, dK, dK, dK, dK, dK, dK, dK, dK, dK, dK, dK, dK, dK, dK, dK, dK, dK, dK, dK, dK, dK, dK, dK, dK, dK, dK, dK, dK, dK, dK, dK, dK, dK, dK, dK, dK, dK, dK, dK, dK, dK, dK, dK, dK, dK, dK, dK, dK, dK, dK, dK, dK, dK, dK, dK, dK, dK, dK, dK, dK, dK, dK]
noncomputable def h_impl_rowsOf : Hint := { tab, hn := [], loops := [(5, ks_impl_rowsOf_l5)], outs := [(5, 2, ko_impl_rowsOf_l5_0), (5, 1, ko_impl_rowsOf_l5_1)], ords := [(14, (OT.seq [0, 1, 2, 3, 4, 5, 6, 7, 8, 9, 10, 11] .done))] }
noncomputable def sg_impl_rowsOf : List AK := [.v (.sl (.int .i64)) .k]
noncomputable def F_impl_rowsOf (N : Nat) (x : AVals sg_impl_rowsOf) (kf : Ret → Option Ret) : Option Ret := impl_rowsOf N x.1 (fun r0 r1 => kf ⟨[⟨(.int .u64), .k, r0⟩, ⟨.bool, .k, r1⟩], []⟩)
noncomputable def run_impl_rowsOf (N : Nat) := runOf sg_impl_rowsOf (F_impl_rowsOf N)
noncomputable def es_impl_rowsOf (N : Nat) : List Entry := [⟨22, [.val, .val, .val], (run_impl_InRange N)⟩, ⟨23, [.val], (run_impl_letterRows N)⟩]
noncomputable def body_impl_rowsOf : Code := match Try.f20.body with | some c => c | none => .skip
noncomputable def L_impl_rowsOf (N n : Nat) (key : Nat) (S : St) (K : Ks) : Option Ret := bif Nat.beq key 5 then withVals ks_impl_rowsOf_l5 S (fun x => impl_rowsOf_l5 N x.2.1 x.2.2.1 n (fun z0 => K (.x 0) (shape ko_impl_rowsOf_l5_0 (z0, ()))) (fun z0 z1 => K .r (shape ko_impl_rowsOf_l5_1 (z0, z1, ()))) x.1 x.2.2.2.1) else none
theorem L0_impl_rowsOf (N key : Nat) (S : St) (K : Ks) : L_impl_rowsOf N 0 key S K = none := (bif0 (withVals0 fun _ => rfl) rfl)
noncomputable def c_impl_rowsOf_0 : Code := (loopsIn body_impl_rowsOf).getD 0 .skip
theorem ls_impl_rowsOf : loopsIn body_impl_rowsOf = [c_impl_rowsOf_0] := by kernel_rfl
theorem rd_impl_rowsOf_5 (N n : Nat) (x : Vals ks_impl_rowsOf_l5) (K : Ks) : L_impl_rowsOf N (n + 1) 5 (shape ks_impl_rowsOf_l5 x) (h_impl_rowsOf.onOut 5 K) = peRound h_impl_rowsOf (Orc.of (es_impl_rowsOf N)) (mixL (L_impl_rowsOf N) N n 5) c_impl_rowsOf_0 (shape ks_impl_rowsOf_l5 x) (h_impl_rowsOf.onOut 5 K) := by kernel_rfl
theorem fn_impl_rowsOf (N : Nat) (x : AVals sg_impl_rowsOf) (kf : Ret → Option Ret) : F_impl_rowsOf N x kf = peFunc h_impl_rowsOf (Orc.of (es_impl_rowsOf N)) (L_impl_rowsOf N N) Try.f20 (ashape sg_impl_rowsOf x) kf := by kernel_rfl
theorem sd_impl_rowsOf {Γ : Gl} (N : Nat) : Sound Γ Try.prog 20 (run_impl_rowsOf N) := fun_ok2 (hh := h_impl_rowsOf) mixed tab_ok (es := es_impl_rowsOf N) ⟨sd_impl_InRange N, ⟨sd_impl_letterRows N, trivial⟩⟩ (fn := Try.f20) (body := body_impl_rowsOf) (by kernel_rfl) (by kernel_rfl) (by kernel_rfl) (by kernel_rfl) (by kernel_rfl) (Lf := L_impl_rowsOf N) (L0_impl_rowsOf N) ls_impl_rowsOf (round_cons (key := 5) (ks := ks_impl_rowsOf_l5) (by kernel_rfl) (by kernel_rfl) (rd_impl_rowsOf_5 N) trivial) (N := N) (by kernel_rfl) (fn_impl_rowsOf N) (.inl (by kernel_rfl))
/-! impl_IsFormula -/
noncomputable def h_impl_IsFormula : Hint := { tab, hn := [], loops := [], outs := [], ords := [] }
noncomputable def sg_impl_IsFormula : List AK := [.v (.sl (.int .i64)) .k]
noncomputable def F_impl_IsFormula (N : Nat) (x : AVals sg_impl_IsFormula) (kf : Ret → Option Ret) : Option Ret := impl_IsFormula N x.1 (fun r0 => kf ⟨[⟨.bool, .k, r0⟩], []⟩)
noncomputable def run_impl_IsFormula (N : Nat) := runOf sg_impl_IsFormula (F_impl_IsFormula N)
noncomputable def es_impl_IsFormula (N : Nat) : List Entry := [⟨20, [.val], (run_impl_rowsOf N)⟩]
noncomputable def body_impl_IsFormula : Code := match Try.f16.body with | some c => c | none => .skip
noncomputable def L_impl_IsFormula (N n : Nat) (key : Nat) (S : St) (K : Ks) : Option Ret := none
theorem L0_impl_IsFormula (N key : Nat) (S : St) (K : Ks) : L_impl_IsFormula N 0 key S K = none := rfl
theorem ls_impl_IsFormula : loopsIn body_impl_IsFormula = [] := by kernel_rfl
theorem fn_impl_IsFormula (N : Nat) (x : AVals sg_impl_IsFormula) (kf : Ret → Option Ret) : F_impl_IsFormula N x kf = peFunc h_impl_IsFormula (Orc.of (es_impl_IsFormula N)) (L_impl_IsFormula N N) Try.f16 (ashape sg_impl_IsFormula x) kf := by kernel_rfl
theorem sd_impl_IsFormula {Γ : Gl} (N : Nat) : Sound Γ Try.prog 16 (run_impl_IsFormula N) := fun_ok2 (hh := h_impl_IsFormula) mixed tab_ok (es := es_impl_IsFormula N) ⟨sd_impl_rowsOf N, trivial⟩ (fn := Try.f16) (body := body_impl_IsFormula) (by kernel_rfl) (by kernel_rfl) (by kernel_rfl) (by kernel_rfl) (by kernel_rfl) (Lf := L_impl_IsFormula N) (L0_impl_IsFormula N) ls_impl_IsFormula trivial (N := N) (by kernel_rfl) (fn_impl_IsFormula N) (.inl (by kernel_rfl))
/-! impl_FormulaText -/
noncomputable def ks_impl_FormulaText_l5 : List Kd := [dK, dK, dK, .v (.sl .str) (.o 9 none .k), dK, dK, dK, dK, dK, dK, dK, dK, .v (.sl (.int .i64)) .k, .v (.int .i64) .k, .v (.int .i64) .k, dK, dK, dK, dK, dK, dK, dK, dK, dK, dK, dK, dK, dK, dK, dK, dK, dK, dK, dK, dK, dK, dK, dK, dK, dK, dK, dK, dK, dK, dK, dK, dK, dK, dK, dK, dK, dK, dK, dK, dK, dK, dK, dK, dK, dK, dK, dK, dK, dK, dK, dK, dK, dK, dK, dK, dK, dK, dK, dK, dK]
noncomputable def ko_impl_FormulaText_l5_0 : List Kd := [dK, dK, dK, .v (.sl .str) (.o 9 none .k), dK, dK, dK, dK, dK, dK, dK, dK, dK, dK, dK, dK, dK, dK, dK, dK, dK, dK, dK, dK, dK, dK, dK, dK, dK, dK, dK, dK, dK, dK, dK, dK, dK, dK, dK, dK, dK, dK, dK, dK, dK, dK, dK, dK, dK, dK, dK, dK, dK, dK, dK, dK, dK, dK, dK, dK, dK, dK, dK, dK, dK, dK, dK, dK, dK, dK, dK, dK, dK, dK, dK]
noncomputable def h_impl_FormulaText : Hint := { tab, hn := [], loops := [(5, ks_impl_FormulaText_l5)], outs := [(5, 2, ko_impl_FormulaText_l5_0)], ords := [(9, (OT.seq [0, 1, 2, 3, 4, 5, 6, 7, 8, 9, 10, 11, 12, 13, 14, 15, 16, 17, 18, 19, 20, 21, 22] .done))] }
noncomputable def sg_impl_FormulaText : List AK := [.v (.sl (.int .i64)) .k]
noncomputable def F_impl_FormulaText (N : Nat) (x : AVals sg_impl_FormulaText) (kf : Ret → Option Ret) : Option Ret := impl_FormulaText N x.1 (fun r0 => kf ⟨[⟨.str, .k, r0⟩], []⟩)
noncomputable def run_impl_FormulaText (N : Nat) := runOf sg_impl_FormulaText (F_impl_FormulaText N)
noncomputable def es_impl_FormulaText (N : Nat) : List Entry := [⟨16, [.val], (run_impl_IsFormula N)⟩]
noncomputable def body_impl_FormulaText : Code := match Try.f12.body with | some c => c | none => .skip
noncomputable def L_impl_FormulaText (N n : Nat) (key : Nat) (S : St) (K : Ks) : Option Ret := bif Nat.beq key 5 then withVals ks_impl_FormulaText_l5 S (fun x => impl_FormulaText_l5 x.2.1 x.2.2.1 n (fun z0 => K (.x 0) (shape ko_impl_FormulaText_l5_0 (z0, ()))) x.1 x.2.2.2.1) else none
theorem L0_impl_FormulaText (N key : Nat) (S : St) (K : Ks) : L_impl_FormulaText N 0 key S K = none := (bif0 (withVals0 fun _ => rfl) rfl)
noncomputable def c_impl_FormulaText_0 : Code := (loopsIn body_impl_FormulaText).getD 0 .skip
theorem ls_impl_FormulaText : loopsIn body_impl_FormulaText = [c_impl_FormulaText_0] := by kernel_rfl
theorem rd_impl_FormulaText_5 (N n : Nat) (x : Vals ks_impl_FormulaText_l5) (K : Ks) : L_impl_FormulaText N (n + 1) 5 (shape ks_impl_FormulaText_l5 x) (h_impl_FormulaText.onOut 5 K) = peRound h_impl_FormulaText (Orc.of (es_impl_FormulaText N)) (mixL (L_impl_FormulaText N) N n 5) c_impl_FormulaText_0 (shape ks_impl_FormulaText_l5 x) (h_impl_FormulaText.onOut 5 K) := by kernel_rfl
theorem fn_impl_FormulaText (N : Nat) (x : AVals sg_impl_FormulaText) (kf : Ret → Option Ret) : F_impl_FormulaText N x kf = peFunc h_impl_FormulaText (Orc.of (es_impl_FormulaText N)) (L_impl_FormulaText N N) Try.f12 (ashape sg_impl_FormulaText x) kf := by kernel_rfl
theorem sd_impl_FormulaText {Γ : Gl} (N : Nat) : Sound Γ Try.prog 12 (run_impl_FormulaText N) := fun_ok2 (hh := h_impl_FormulaText) mixed tab_ok (es := es_impl_FormulaText N) ⟨sd_impl_IsFormula N, trivial⟩ (fn := Try.f12) (body := body_impl_FormulaText) (by kernel_rfl) (by kernel_rfl) (by kernel_rfl) (by kernel_rfl) (by kernel_rfl) (Lf := L_impl_FormulaText N) (L0_impl_FormulaText N) ls_impl_FormulaText (round_cons (key := 5) (ks := ks_impl_FormulaText_l5) (by kernel_rfl) (by kernel_rfl) (rd_impl_FormulaText_5 N) trivial) (N := N) (by kernel_rfl) (fn_impl_FormulaText N) (.inl (by kernel_rfl))
/-! impl_ParseFormula -/
noncomputable def h_impl_ParseFormula : Hint := { tab, hn := [], loops := [], outs := [], ords := [] }
noncomputable def sg_impl_ParseFormula : List AK := [.v .str .k]
noncomputable def F_impl_ParseFormula (N : Nat) (x : AVals sg_impl_ParseFormula) (kf : Ret → Option Ret) : Option Ret := impl_ParseFormula N x.1 (fun r0 r1 => kf ⟨[⟨(.sl (.int .i64)), (.o 3 none .k), r0⟩, ⟨.bool, .k, r1⟩], []⟩)
noncomputable def run_impl_ParseFormula (N : Nat) := runOf sg_impl_ParseFormula (F_impl_ParseFormula N)
noncomputable def es_impl_ParseFormula (N : Nat) : List Entry := [⟨11, [.val], (run_impl_readFormula N)⟩, ⟨12, [.val], (run_impl_FormulaText N)⟩]
noncomputable def body_impl_ParseFormula : Code := match Try.f5.body with | some c => c | none => .skip
noncomputable def L_impl_ParseFormula (N n : Nat) (key : Nat) (S : St) (K : Ks) : Option Ret := none
theorem L0_impl_ParseFormula (N key : Nat) (S : St) (K : Ks) : L_impl_ParseFormula N 0 key S K = none := rfl
theorem ls_impl_ParseFormula : loopsIn body_impl_ParseFormula = [] := by kernel_rfl
theorem fn_impl_ParseFormula (N : Nat) (x : AVals sg_impl_ParseFormula) (kf : Ret → Option Ret) : F_impl_ParseFormula N x kf = peFunc h_impl_ParseFormula (Orc.of (es_impl_ParseFormula N)) (L_impl_ParseFormula N N) Try.f5 (ashape sg_impl_ParseFormula x) kf := by kernel_rfl
theorem sd_impl_ParseFormula {Γ : Gl} (N : Nat) : Sound Γ Try.prog 5 (run_impl_ParseFormula N) := fun_ok2 (hh := h_impl_ParseFormula) mixed tab_ok (es := es_impl_ParseFormula N) ⟨sd_impl_readFormula N, ⟨sd_impl_FormulaText N, trivial⟩⟩ (fn := Try.f5) (body := body_impl_ParseFormula) (by kernel_rfl) (by kernel_rfl) (by kernel_rfl) (by kernel_rfl) (by kernel_rfl) (Lf := L_impl_ParseFormula N) (L0_impl_ParseFormula N) ls_impl_ParseFormula trivial (N := N) (by kernel_rfl) (fn_impl_ParseFormula N) (.inl (by kernel_rfl))
/-! laws_eqIntS -/
noncomputable def ks_laws_eqIntS_l4 : List Kd := [.v (.sl (.int .i64)) .k, .v (.sl (.int .i64)) .k, dK, dK, dK, .v (.int .i64) .k, dK, dK, dK, dK, dK, dK, dK, dK, dK, dK, dK, dK, dK, dK, dK, dK, dK, dK, dK, dK]
noncomputable def ko_laws_eqIntS_l4_0 : List Kd := [dK, dK, dK, dK, dK, dK, dK, dK, dK, dK, dK, dK, dK, dK, dK, dK, dK, dK, dK, dK, dK, dK, dK, dK, dK, dK]
noncomputable def ko_laws_eqIntS_l4_1 : List Kd := [dK, dK, dK, dK, .v .bool .k, dK, dK, dK, dK, dK, dK, dK, dK, dK, dK, dK, dK, dK, dK, dK, dK, dK, dK, dK, dK, dK]
noncomputable def h_laws_eqIntS : Hint := { tab, hn := [], loops := [(4, ks_laws_eqIntS_l4)], outs := [(4, 2, ko_laws_eqIntS_l4_0), (4, 1, ko_laws_eqIntS_l4_1)], ords := [(6, (OT.seq [0, 1, 2, 3, 4, 5, 6, 7, 8] .done))] }
noncomputable def sg_laws_eqIntS : List AK := [.v (.sl (.int .i64)) .k, .v (.sl (.int .i64)) .k]
noncomputable def F_laws_eqIntS (N : Nat) (x : AVals sg_laws_eqIntS) (kf : Ret → Option Ret) : Option Ret := laws_eqIntS N x.1 x.2.1 (fun r0 => kf ⟨[⟨.bool, .k, r0⟩], []⟩)
noncomputable def run_laws_eqIntS (N : Nat) := runOf sg_laws_eqIntS (F_laws_eqIntS N)
noncomputable def es_laws_eqIntS (N : Nat) : List Entry := []
noncomputable def body_laws_eqIntS : Code := match Try.f6.body with | some c => c | none => .skip
noncomputable def L_laws_eqIntS (N n : Nat) (key : Nat) (S : St) (K : Ks) : Option Ret := bif Nat.beq key 4 then withVals ks_laws_eqIntS_l4 S (fun x => laws_eqIntS_l4 x.1 x.2.1 n (K (.x 0) (shape ko_laws_eqIntS_l4_0 ())) (fun z0 => K .r (shape ko_laws_eqIntS_l4_1 (z0, ()))) x.2.2.1) else none
theorem L0_laws_eqIntS (N key : Nat) (S : St) (K : Ks) : L_laws_eqIntS N 0 key S K = none := (bif0 (withVals0 fun _ => rfl) rfl)
noncomputable def c_laws_eqIntS_0 : Code := (loopsIn body_laws_eqIntS).getD 0 .skip
theorem ls_laws_eqIntS : loopsIn body_laws_eqIntS = [c_laws_eqIntS_0] := by kernel_rfl
theorem rd_laws_eqIntS_4 (N n : Nat) (x : Vals ks_laws_eqIntS_l4) (K : Ks) : L_laws_eqIntS N (n + 1) 4 (shape ks_laws_eqIntS_l4 x) (h_laws_eqIntS.onOut 4 K) = peRound h_laws_eqIntS (Orc.of (es_laws_eqIntS N)) (mixL (L_laws_eqIntS N) N n 4) c_laws_eqIntS_0 (shape ks_laws_eqIntS_l4 x) (h_laws_eqIntS.onOut 4 K) := by kernel_rfl
theorem fn_laws_eqIntS (N : Nat) (x : AVals sg_laws_eqIntS) (kf : Ret → Option Ret) : F_laws_eqIntS N x kf = peFunc h_laws_eqIntS (Orc.of (es_laws_eqIntS N)) (L_laws_eqIntS N N) Try.f6 (ashape sg_laws_eqIntS x) kf := by kernel_rfl
theorem sd_laws_eqIntS {Γ : Gl} (N : Nat) : Sound Γ Try.prog 6 (run_laws_eqIntS N) := fun_ok2 (hh := h_laws_eqIntS) mixed tab_ok (es := es_laws_eqIntS N) trivial (fn := Try.f6) (body := body_laws_eqIntS) (by kernel_rfl) (by kernel_rfl) (by kernel_rfl) (by kernel_rfl) (by kernel_rfl) (Lf := L_laws_eqIntS N) (L0_laws_eqIntS N) ls_laws_eqIntS (round_cons (key := 4) (ks := ks_laws_eqIntS_l4) (by kernel_rfl) (by kernel_rfl) (rd_laws_eqIntS_4 N) trivial) (N := N) (by kernel_rfl) (fn_laws_eqIntS N) (.inl (by kernel_rfl))
/-! laws_markIntS -/
noncomputable def ks_laws_markIntS_l2 : List Kd := [.v (.sl (.int .i64)) (.o 3 (some 0) .k), .v (.int .i64) .k, dK, dK, dK, .v (.int .i64) .k, dK, dK, dK, dK, dK, dK, dK, dK, dK, dK, dK, dK, dK]
noncomputable def ko_laws_markIntS_l2_0 : List Kd := [.v (.sl (.int .i64)) (.o 3 (some 0) .k), .v (.int .i64) .k, dK, dK, dK, dK, dK, dK, dK, dK, dK, dK, dK, dK, dK, dK, dK, dK, dK]
noncomputable def h_laws_markIntS : Hint := { tab, hn := [], loops := [(2, ks_laws_markIntS_l2)], outs := [(2, 2, ko_laws_markIntS_l2_0)], ords := [], lent := some (0, false) }
noncomputable def sg_laws_markIntS : List AK := [.v (.sl (.int .i64)) (.o 3 (some 0) .k), .v (.int .i64) .k]
noncomputable def F_laws_markIntS (N : Nat) (x : AVals sg_laws_markIntS) (kf : Ret → Option Ret) : Option Ret := laws_markIntS N x.1 x.2.1 (fun r0 z => kf ⟨[⟨(.int .i64), .k, r0⟩], [⟨(.sl (.int .i64)), (.o 3 (some 0) .k), z⟩]⟩)
noncomputable def run_laws_markIntS (N : Nat) := runOf sg_laws_markIntS (F_laws_markIntS N)
noncomputable def es_laws_markIntS (N : Nat) : List Entry := []
noncomputable def body_laws_markIntS : Code := match Try.f7.body with | some c => c | none => .skip
noncomputable def L_laws_markIntS (N n : Nat) (key : Nat) (S : St) (K : Ks) : Option Ret := bif Nat.beq key 2 then withVals ks_laws_markIntS_l2 S (fun x => laws_markIntS_l2 n (fun z0 z1 => K (.x 0) (shape ko_laws_markIntS_l2_0 (z0, z1, ()))) x.1 x.2.1 x.2.2.1) else none
theorem L0_laws_markIntS (N key : Nat) (S : St) (K : Ks) : L_laws_markIntS N 0 key S K = none := (bif0 (withVals0 fun _ => rfl) rfl)
noncomputable def c_laws_markIntS_0 : Code := (loopsIn body_laws_markIntS).getD 0 .skip
theorem ls_laws_markIntS : loopsIn body_laws_markIntS = [c_laws_markIntS_0] := by kernel_rfl
theorem rd_laws_markIntS_2 (N n : Nat) (x : Vals ks_laws_markIntS_l2) (K : Ks) : L_laws_markIntS N (n + 1) 2 (shape ks_laws_markIntS_l2 x) (h_laws_markIntS.onOut 2 K) = peRound h_laws_markIntS (Orc.of (es_laws_markIntS N)) (mixL (L_laws_markIntS N) N n 2) c_laws_markIntS_0 (shape ks_laws_markIntS_l2 x) (h_laws_markIntS.onOut 2 K) := by kernel_rfl
theorem fn_laws_markIntS (N : Nat) (x : AVals sg_laws_markIntS) (kf : Ret → Option Ret) : F_laws_markIntS N x kf = peFunc h_laws_markIntS (Orc.of (es_laws_markIntS N)) (L_laws_markIntS N N) Try.f7 (ashape sg_laws_markIntS x) kf := by kernel_rfl
theorem sd_laws_markIntS {Γ : Gl} (N : Nat) : Sound Γ Try.prog 7 (run_laws_markIntS N) := fun_ok2 (hh := h_laws_markIntS) mixed tab_ok (es := es_laws_markIntS N) trivial (fn := Try.f7) (body := body_laws_markIntS) (by kernel_rfl) (by kernel_rfl) (by kernel_rfl) (by kernel_rfl) (by kernel_rfl) (Lf := L_laws_markIntS N) (L0_laws_markIntS N) ls_laws_markIntS (round_cons (key := 2) (ks := ks_laws_markIntS_l2) (by kernel_rfl) (by kernel_rfl) (rd_laws_markIntS_2 N) trivial) (N := N) (by kernel_rfl) (fn_laws_markIntS N) (.inl (by kernel_rfl))
/-! laws_heldIntS -/
noncomputable def ks_laws_heldIntS_l2 : List Kd := [.v (.sl (.int .i64)) .k, .v (.int .i64) .k, dK, dK, dK, .v (.int .i64) .k, dK, dK, dK, dK, dK, dK, dK, dK, dK, dK, dK, dK, dK, dK, dK]
noncomputable def ko_laws_heldIntS_l2_0 : List Kd := [dK, .v (.int .i64) .k, dK, dK, dK, dK, dK, dK, dK, dK, dK, dK, dK, dK, dK, dK, dK, dK, dK, dK, dK]
noncomputable def ko_laws_heldIntS_l2_1 : List Kd := [dK, dK, dK, dK, .v (.int .i64) .k, dK, dK, dK, dK, dK, dK, dK, dK, dK, dK, dK, dK, dK, dK, dK, dK]
noncomputable def h_laws_heldIntS : Hint := { tab, hn := [], loops := [(2, ks_laws_heldIntS_l2)], outs := [(2, 2, ko_laws_heldIntS_l2_0), (2, 1, ko_laws_heldIntS_l2_1)], ords := [] }
noncomputable def sg_laws_heldIntS : List AK := [.v (.sl (.int .i64)) .k, .v (.int .i64) .k]
noncomputable def F_laws_heldIntS (N : Nat) (x : AVals sg_laws_heldIntS) (kf : Ret → Option Ret) : Option Ret := laws_heldIntS N x.1 x.2.1 (fun r0 => kf ⟨[⟨(.int .i64), .k, r0⟩], []⟩)
noncomputable def run_laws_heldIntS (N : Nat) := runOf sg_laws_heldIntS (F_laws_heldIntS N)
noncomputable def es_laws_heldIntS (N : Nat) : List Entry := []
noncomputable def body_laws_heldIntS : Code := match Try.f8.body with | some c => c | none => .skip
noncomputable def L_laws_heldIntS (N n : Nat) (key : Nat) (S : St) (K : Ks) : Option Ret := bif Nat.beq key 2 then withVals ks_laws_heldIntS_l2 S (fun x => laws_heldIntS_l2 x.1 n (fun z0 => K (.x 0) (shape ko_laws_heldIntS_l2_0 (z0, ()))) (fun z0 => K .r (shape ko_laws_heldIntS_l2_1 (z0, ()))) x.2.1 x.2.2.1) else none
theorem L0_laws_heldIntS (N key : Nat) (S : St) (K : Ks) : L_laws_heldIntS N 0 key S K = none := (bif0 (withVals0 fun _ => rfl) rfl)
noncomputable def c_laws_heldIntS_0 : Code := (loopsIn body_laws_heldIntS).getD 0 .skip
theorem ls_laws_heldIntS : loopsIn body_laws_heldIntS = [c_laws_heldIntS_0] := by kernel_rfl
theorem rd_laws_heldIntS_2 (N n : Nat) (x : Vals ks_laws_heldIntS_l2) (K : Ks) : L_laws_heldIntS N (n + 1) 2 (shape ks_laws_heldIntS_l2 x) (h_laws_heldIntS.onOut 2 K) = peRound h_laws_heldIntS (Orc.of (es_laws_heldIntS N)) (mixL (L_laws_heldIntS N) N n 2) c_laws_heldIntS_0 (shape ks_laws_heldIntS_l2 x) (h_laws_heldIntS.onOut 2 K) := by kernel_rfl
theorem fn_laws_heldIntS (N : Nat) (x : AVals sg_laws_heldIntS) (kf : Ret → Option Ret) : F_laws_heldIntS N x kf = peFunc h_laws_heldIntS (Orc.of (es_laws_heldIntS N)) (L_laws_heldIntS N N) Try.f8 (ashape sg_laws_heldIntS x) kf := by kernel_rfl
theorem sd_laws_heldIntS {Γ : Gl} (N : Nat) : Sound Γ Try.prog 8 (run_laws_heldIntS N) := fun_ok2 (hh := h_laws_heldIntS) mixed tab_ok (es := es_laws_heldIntS N) trivial (fn := Try.f8) (body := body_laws_heldIntS) (by kernel_rfl) (by kernel_rfl) (by kernel_rfl) (by kernel_rfl) (by kernel_rfl) (Lf := L_laws_heldIntS N) (L0_laws_heldIntS N) ls_laws_heldIntS (round_cons (key := 2) (ks := ks_laws_heldIntS_l2) (by kernel_rfl) (by kernel_rfl) (rd_laws_heldIntS_2 N) trivial) (N := N) (by kernel_rfl) (fn_laws_heldIntS N) (.inl (by kernel_rfl))
/-! laws_FnExactParseFormula -/
noncomputable def h_laws_FnExactParseFormula : Hint := { tab, hn := [], loops := [], outs := [], ords := [] }
noncomputable def sg_laws_FnExactParseFormula : List AK := [.v .str .k]
noncomputable def F_laws_FnExactParseFormula (N : Nat) (x : AVals sg_laws_FnExactParseFormula) (kf : Ret → Option Ret) : Option Ret := laws_FnExactParseFormula N x.1 (fun r0 => kf ⟨[⟨.bool, .k, r0⟩], []⟩)
noncomputable def run_laws_FnExactParseFormula (N : Nat) := runOf sg_laws_FnExactParseFormula (F_laws_FnExactParseFormula N)
noncomputable def es_laws_FnExactParseFormula (N : Nat) : List Entry := [⟨4, [.val], (run_spec_ParseFormula N)⟩, ⟨5, [.val], (run_impl_ParseFormula N)⟩, ⟨6, [.val, .val], (run_laws_eqIntS N)⟩, ⟨7, [.lend, .val], (run_laws_markIntS N)⟩, ⟨8, [.val, .val], (run_laws_heldIntS N)⟩]
noncomputable def body_laws_FnExactParseFormula : Code := match Try.f3.body with | some c => c | none => .skip
noncomputable def L_laws_FnExactParseFormula (N n : Nat) (key : Nat) (S : St) (K : Ks) : Option Ret := none
theorem L0_laws_FnExactParseFormula (N key : Nat) (S : St) (K : Ks) : L_laws_FnExactParseFormula N 0 key S K = none := rfl
theorem ls_laws_FnExactParseFormula : loopsIn body_laws_FnExactParseFormula = [] := by kernel_rfl
theorem fn_laws_FnExactParseFormula (N : Nat) (x : AVals sg_laws_FnExactParseFormula) (kf : Ret → Option Ret) : F_laws_FnExactParseFormula N x kf = peFunc h_laws_FnExactParseFormula (Orc.of (es_laws_FnExactParseFormula N)) (L_laws_FnExactParseFormula N N) Try.f3 (ashape sg_laws_FnExactParseFormula x) kf := by kernel_rfl
theorem sd_laws_FnExactParseFormula {Γ : Gl} (N : Nat) : Sound Γ Try.prog 3 (run_laws_FnExactParseFormula N) := fun_ok2 (hh := h_laws_FnExactParseFormula) mixed tab_ok (es := es_laws_FnExactParseFormula N) ⟨sd_spec_ParseFormula N, ⟨sd_impl_ParseFormula N, ⟨sd_laws_eqIntS N, ⟨sd_laws_markIntS N, ⟨sd_laws_heldIntS N, trivial⟩⟩⟩⟩⟩ (fn := Try.f3) (body := body_laws_FnExactParseFormula) (by kernel_rfl) (by kernel_rfl) (by kernel_rfl) (by kernel_rfl) (by kernel_rfl) (Lf := L_laws_FnExactParseFormula N) (L0_laws_FnExactParseFormula N) ls_laws_FnExactParseFormula trivial (N := N) (by kernel_rfl) (fn_laws_FnExactParseFormula N) (.inl (by kernel_rfl))
end Go.Pv.R
