/- Each function of the program that the law reaches computes its plain function, part 0. -/
import Derived.Test.YthdoldaaodmeeaaDoorPlRes
import Derived.Test.YthdoldaaodmeeaaDoorItoa
import Derived.Test.YthdoldaaodmeeaaDoorProg
namespace Go.Pv.R
open Go.Proofs
set_option linter.unusedVariables false
set_option maxRecDepth 100000
noncomputable abbrev dK : Kd := .dead
noncomputable def tab : Tab := [⟨2, (.int .i64), 0, []⟩, ⟨3, (.int .i64), 0, []⟩, ⟨4, .bool, 0, []⟩, ⟨5, (.int .u8), 0, []⟩, ⟨9, .str, 0, []⟩, ⟨12, (.int .u64), 0, []⟩, ⟨21, (.int .i32), 0, []⟩, ⟨22, (.sl (.int .i64)), 3, []⟩, ⟨27, (.sl (.sl (.int .i64))), 22, []⟩, ⟨33, tQILLIE, 0, [3, 27]⟩, ⟨34, tQILLIE, 0, [3, 27]⟩, ⟨37, tQILLIE, 0, [3, 27]⟩, ⟨41, (.sl tQIIE), 90, []⟩, ⟨44, (.sl tQIIE), 88, []⟩, ⟨48, (.sl tQIIIE), 96, []⟩, ⟨51, (.sl tQIIIE), 94, []⟩, ⟨55, (.sl tQIIIIILIE), 100, []⟩, ⟨58, (.sl tQIIIIILIE), 101, []⟩, ⟨66, (.sl tQIILIE), 136, []⟩, ⟨67, (.sl tQIIIE), 142, []⟩, ⟨68, (.sl tQIIIIE), 146, []⟩, ⟨69, tQLQIIIIILIELQIILIELQIIELILQIIIELQIIIIEIE, 0, [55, 66, 41, 22, 67, 68, 3]⟩, ⟨70, tQLQIIIIILIELQIILIELQIIELILQIIIELQIIIIEIE, 0, [55, 66, 41, 22, 67, 68, 3]⟩, ⟨73, (.sl tQIILIE), 139, []⟩, ⟨74, (.sl tQIIIE), 138, []⟩, ⟨75, (.sl tQIIIIE), 144, []⟩, ⟨76, tQLQIIIIILIELQIILIELQIIELILQIIIELQIIIIEIE, 0, [58, 73, 44, 22, 74, 75, 3]⟩, ⟨77, tQLQIIIIILIELQIILIELQIIELILQIIIELQIIIIEIE, 0, [58, 73, 44, 22, 74, 75, 3]⟩, ⟨81, (.sl .str), 9, []⟩, ⟨87, tQIIE, 0, [3, 3]⟩, ⟨88, tQIIE, 0, [3, 3]⟩, ⟨90, tQIIE, 0, [3, 3]⟩, ⟨93, tQIIIE, 0, [3, 3, 3]⟩, ⟨94, tQIIIE, 0, [3, 3, 3]⟩, ⟨96, tQIIIE, 0, [3, 3, 3]⟩, ⟨99, tQIIIIILIE, 0, [3, 3, 3, 3, 3, 22]⟩, ⟨100, tQIIIIILIE, 0, [3, 3, 3, 3, 3, 22]⟩, ⟨101, tQIIIIILIE, 0, [3, 3, 3, 3, 3, 22]⟩, ⟨120, (.sl (.int .u8)), 5, []⟩, ⟨135, tQIILIE, 0, [3, 3, 22]⟩, ⟨136, tQIILIE, 0, [3, 3, 22]⟩, ⟨137, tQIIIE, 0, [3, 3, 3]⟩, ⟨138, tQIIIE, 0, [3, 3, 3]⟩, ⟨139, tQIILIE, 0, [3, 3, 22]⟩, ⟨142, tQIIIE, 0, [3, 3, 3]⟩, ⟨143, tQIIIIE, 0, [3, 3, 3, 3]⟩, ⟨144, tQIIIIE, 0, [3, 3, 3, 3]⟩, ⟨146, tQIIIIE, 0, [3, 3, 3, 3]⟩, ⟨164, (.int .u64), 0, []⟩, ⟨166, (.int .u64), 0, []⟩, ⟨171, (.int .u32), 0, []⟩]
theorem mixed : Tryd.prog.follows .mixedOrders = true := by kernel_rfl
theorem tab_ok : tabB Tryd.prog tab = true := by kernel_rfl
/-- What stands in the first blocks: Go's table of the powers of ten. -/
abbrev TabΓ (Γ : Gl) : Prop := PowTab Tryd.prog Γ
/-! laws_toIntS -/
noncomputable def ks_laws_toIntS_l3 : List Kd := [.v (.sl (.int .i64)) .k, dK, dK, .v (.sl (.int .i64)) (.o 3 none .k), .v (.int .i64) .k, dK, dK, dK, dK, dK, dK, dK, dK, dK, dK, dK, dK, dK, dK, dK, dK, dK]
noncomputable def ko_laws_toIntS_l3_0 : List Kd := [dK, dK, dK, .v (.sl (.int .i64)) (.o 3 none .k), dK, dK, dK, dK, dK, dK, dK, dK, dK, dK, dK, dK, dK, dK, dK, dK, dK, dK]
noncomputable def h_laws_toIntS : Hint := { tab, hn := [], loops := [(3, ks_laws_toIntS_l3)], outs := [(3, 2, ko_laws_toIntS_l3_0)], ords := [] }
noncomputable def sg_laws_toIntS : List AK := [.v (.sl (.int .i64)) .k]
noncomputable def F_laws_toIntS (N : Nat) (x : AVals sg_laws_toIntS) (kf : Ret → Option Ret) : Option Ret := laws_toIntS N x.1 (fun r0 => kf ⟨[⟨(.sl (.int .i64)), (.o 3 none .k), r0⟩], []⟩)
noncomputable def run_laws_toIntS (N : Nat) := runOf sg_laws_toIntS (F_laws_toIntS N)
noncomputable def es_laws_toIntS (N : Nat) : List Entry := []
noncomputable def body_laws_toIntS : Code := match Tryd.f12.body with | some c => c | none => .skip
noncomputable def L_laws_toIntS (N n : Nat) (key : Nat) (S : St) (K : Ks) : Option Ret := bif Nat.beq key 3 then withVals ks_laws_toIntS_l3 S (fun x => laws_toIntS_l3 x.1 n (fun z0 => K (.x 0) (shape ko_laws_toIntS_l3_0 (z0, ()))) x.2.1 x.2.2.1) else none
theorem L0_laws_toIntS (N key : Nat) (S : St) (K : Ks) : L_laws_toIntS N 0 key S K = none := (bif0 (withVals0 fun _ => rfl) rfl)
noncomputable def c_laws_toIntS_0 : Code := (loopsIn body_laws_toIntS).getD 0 .skip
theorem ls_laws_toIntS : loopsIn body_laws_toIntS = [c_laws_toIntS_0] := by kernel_rfl
theorem rd_laws_toIntS_3 (N n : Nat) (x : Vals ks_laws_toIntS_l3) (K : Ks) : L_laws_toIntS N (n + 1) 3 (shape ks_laws_toIntS_l3 x) (h_laws_toIntS.onOut 3 K) = peRound h_laws_toIntS (Orc.of (es_laws_toIntS N)) (mixL (L_laws_toIntS N) N n 3) c_laws_toIntS_0 (shape ks_laws_toIntS_l3 x) (h_laws_toIntS.onOut 3 K) := by kernel_rfl
theorem fn_laws_toIntS (N : Nat) (x : AVals sg_laws_toIntS) (kf : Ret → Option Ret) : F_laws_toIntS N x kf = peFunc h_laws_toIntS (Orc.of (es_laws_toIntS N)) (L_laws_toIntS N N) Tryd.f12 (ashape sg_laws_toIntS x) kf := by kernel_rfl
theorem sd_laws_toIntS {Γ : Gl} (hΓ : TabΓ Γ) (N : Nat) : Sound Γ Tryd.prog 12 (run_laws_toIntS N) := fun_ok2 (hh := h_laws_toIntS) mixed tab_ok (es := es_laws_toIntS N) trivial (fn := Tryd.f12) (body := body_laws_toIntS) (by kernel_rfl) (by kernel_rfl) (by kernel_rfl) (by kernel_rfl) (by kernel_rfl) (Lf := L_laws_toIntS N) (L0_laws_toIntS N) ls_laws_toIntS (round_cons (key := 3) (ks := ks_laws_toIntS_l3) (by kernel_rfl) (by kernel_rfl) (rd_laws_toIntS_3 N) trivial) (N := N) (by kernel_rfl) (fn_laws_toIntS N) (.inl (by kernel_rfl))
/-! spec_FormatInt -/
noncomputable def ks_spec_FormatInt_l5 : List Kd := [.v (.int .i64) .k, dK, dK, .v .str .k, .v (.int .i64) .k, dK, dK, dK, dK, dK, dK, dK, dK, dK, dK, dK, dK, dK, dK, dK, dK, dK, dK, dK, dK, dK, dK, dK, dK, dK, dK]
noncomputable def ko_spec_FormatInt_l5_0 : List Kd := [.v (.int .i64) .k, dK, dK, .v .str .k, dK, dK, dK, dK, dK, dK, dK, dK, dK, dK, dK, dK, dK, dK, dK, dK, dK, dK, dK, dK, dK, dK, dK, dK, dK, dK, dK]
noncomputable def h_spec_FormatInt : Hint := { tab, hn := [], loops := [(5, ks_spec_FormatInt_l5)], outs := [(5, 2, ko_spec_FormatInt_l5_0)], ords := [] }
noncomputable def sg_spec_FormatInt : List AK := [.v (.int .i64) .k]
noncomputable def F_spec_FormatInt (N : Nat) (x : AVals sg_spec_FormatInt) (kf : Ret → Option Ret) : Option Ret := spec_FormatInt N x.1 (fun r0 => kf ⟨[⟨.str, .k, r0⟩], []⟩)
noncomputable def run_spec_FormatInt (N : Nat) := runOf sg_spec_FormatInt (F_spec_FormatInt N)
noncomputable def es_spec_FormatInt (N : Nat) : List Entry := []
noncomputable def body_spec_FormatInt : Code := match Tryd.f49.body with | some c => c | none => .skip
noncomputable def L_spec_FormatInt (N n : Nat) (key : Nat) (S : St) (K : Ks) : Option Ret := bif Nat.beq key 5 then withVals ks_spec_FormatInt_l5 S (fun x => spec_FormatInt_l5 x.1 n (fun z0 => K (.x 0) (shape ko_spec_FormatInt_l5_0 (x.1, z0, ()))) x.2.1 x.2.2.1) else none
theorem L0_spec_FormatInt (N key : Nat) (S : St) (K : Ks) : L_spec_FormatInt N 0 key S K = none := (bif0 (withVals0 fun _ => rfl) rfl)
noncomputable def c_spec_FormatInt_0 : Code := (loopsIn body_spec_FormatInt).getD 0 .skip
theorem ls_spec_FormatInt : loopsIn body_spec_FormatInt = [c_spec_FormatInt_0] := by kernel_rfl
theorem rd_spec_FormatInt_5 (N n : Nat) (x : Vals ks_spec_FormatInt_l5) (K : Ks) : L_spec_FormatInt N (n + 1) 5 (shape ks_spec_FormatInt_l5 x) (h_spec_FormatInt.onOut 5 K) = peRound h_spec_FormatInt (Orc.of (es_spec_FormatInt N)) (mixL (L_spec_FormatInt N) N n 5) c_spec_FormatInt_0 (shape ks_spec_FormatInt_l5 x) (h_spec_FormatInt.onOut 5 K) := by kernel_rfl
theorem fn_spec_FormatInt (N : Nat) (x : AVals sg_spec_FormatInt) (kf : Ret → Option Ret) : F_spec_FormatInt N x kf = peFunc h_spec_FormatInt (Orc.of (es_spec_FormatInt N)) (L_spec_FormatInt N N) Tryd.f49 (ashape sg_spec_FormatInt x) kf := by kernel_rfl
theorem sd_spec_FormatInt {Γ : Gl} (hΓ : TabΓ Γ) (N : Nat) : Sound Γ Tryd.prog 49 (run_spec_FormatInt N) := fun_ok2 (hh := h_spec_FormatInt) mixed tab_ok (es := es_spec_FormatInt N) trivial (fn := Tryd.f49) (body := body_spec_FormatInt) (by kernel_rfl) (by kernel_rfl) (by kernel_rfl) (by kernel_rfl) (by kernel_rfl) (Lf := L_spec_FormatInt N) (L0_spec_FormatInt N) ls_spec_FormatInt (round_cons (key := 5) (ks := ks_spec_FormatInt_l5) (by kernel_rfl) (by kernel_rfl) (rd_spec_FormatInt_5 N) trivial) (N := N) (by kernel_rfl) (fn_spec_FormatInt N) (.inl (by kernel_rfl))
/-! strconv_Itoa: told by the shelf -/
def ren_strconv_Itoa : Go.Shelf.Ren := ⟨fun n => bif Nat.beq n 129 then 130 else bif Nat.beq n 171 then 84 else bif Nat.beq n 243 then 103 else bif Nat.beq n 246 then 111 else bif Nat.beq n 283 then 122 else bif Nat.beq n 284 then 123 else bif Nat.beq n 285 then 124 else bif Nat.beq n 286 then 125 else bif Nat.beq n 317 then 129 else bif Nat.beq n 318 then 131 else bif Nat.beq n 319 then 132 else bif Nat.beq n 320 then 133 else bif Nat.beq n 337 then 134 else bif Nat.beq n 338 then 135 else n, fun n => bif Nat.beq n 0 then 0 else bif Nat.beq n 2 then 2 else bif Nat.beq n 3 then 3 else bif Nat.beq n 4 then 4 else bif Nat.beq n 5 then 5 else bif Nat.beq n 9 then 9 else bif Nat.beq n 20 then 20 else bif Nat.beq n 37 then 120 else bif Nat.beq n 46 then 164 else bif Nat.beq n 51 then 171 else bif Nat.beq n 53 then 166 else bif Nat.beq n 171 then 165 else bif Nat.beq n 173 then 169 else bif Nat.beq n 212 then 175 else bif Nat.beq n 213 then 176 else bif Nat.beq n 232 then 183 else bif Nat.beq n 233 then 184 else n, fun n => bif Nat.beq n 17 then 1 else bif Nat.beq n 18 then 4 else bif Nat.beq n 19 then 5 else n⟩
theorem lays_strconv_Itoa : LaysM.n171 Tryd.prog ren_strconv_Itoa := { mixed := by kernel_rfl, f129 := by kernel_rfl, f171 := by kernel_rfl, f243 := by kernel_rfl, f246 := by kernel_rfl, f283 := by kernel_rfl, f284 := by kernel_rfl, f285 := by kernel_rfl, f286 := by kernel_rfl, f317 := by kernel_rfl, f318 := by kernel_rfl, f319 := by kernel_rfl, f320 := by kernel_rfl, f337 := by kernel_rfl, f338 := by kernel_rfl, t0 := by kernel_rfl, a0 := fun w => by kernel_rfl, z0 := fun w => by kernel_rfl, v0 := fun w => by kernel_rfl, t2 := by kernel_rfl, a2 := fun w => by kernel_rfl, z2 := fun w => by kernel_rfl, v2 := fun w => by kernel_rfl, t3 := by kernel_rfl, a3 := fun w => by kernel_rfl, z3 := fun w => by kernel_rfl, v3 := fun w => by kernel_rfl, t4 := by kernel_rfl, a4 := fun w => by kernel_rfl, z4 := fun w => by kernel_rfl, v4 := fun w => by kernel_rfl, t5 := by kernel_rfl, a5 := fun w => by kernel_rfl, z5 := fun w => by kernel_rfl, v5 := fun w => by kernel_rfl, t9 := by kernel_rfl, a9 := fun w => by kernel_rfl, z9 := fun w => by kernel_rfl, v9 := fun w => by kernel_rfl, t20 := by kernel_rfl, a20 := fun w => by kernel_rfl, z20 := fun w => by kernel_rfl, v20 := fun w => by kernel_rfl, t37 := by kernel_rfl, a37 := fun w => by kernel_rfl, z37 := fun w => by kernel_rfl, v37 := fun w => by kernel_rfl, t46 := by kernel_rfl, a46 := fun w => by kernel_rfl, z46 := fun w => by kernel_rfl, v46 := fun w => by kernel_rfl, t51 := by kernel_rfl, a51 := fun w => by kernel_rfl, z51 := fun w => by kernel_rfl, v51 := fun w => by kernel_rfl, t53 := by kernel_rfl, a53 := fun w => by kernel_rfl, z53 := fun w => by kernel_rfl, v53 := fun w => by kernel_rfl, t171 := by kernel_rfl, a171 := fun w => by kernel_rfl, z171 := fun w => by kernel_rfl, v171 := fun w => by kernel_rfl, t173 := by kernel_rfl, a173 := fun w => by kernel_rfl, z173 := fun w => by kernel_rfl, v173 := fun w => by kernel_rfl, t212 := by kernel_rfl, a212 := fun w => by kernel_rfl, z212 := fun w => by kernel_rfl, v212 := fun w => by kernel_rfl, t213 := by kernel_rfl, a213 := fun w => by kernel_rfl, z213 := fun w => by kernel_rfl, t232 := by kernel_rfl, a232 := fun w => by kernel_rfl, z232 := fun w => by kernel_rfl, v232 := fun w => by kernel_rfl, t233 := by kernel_rfl, a233 := fun w => by kernel_rfl, z233 := fun w => by kernel_rfl, v233 := fun w => by kernel_rfl, g17 := by kernel_rfl, g18 := by kernel_rfl, g19 := by kernel_rfl, i0 := by kernel_rfl, i2 := by kernel_rfl, i3 := by kernel_rfl, i4 := by kernel_rfl, i5 := by kernel_rfl, i9 := by kernel_rfl, i20 := by kernel_rfl, i37 := by kernel_rfl, i46 := by kernel_rfl, i51 := by kernel_rfl, i53 := by kernel_rfl, i171 := by kernel_rfl, i173 := by kernel_rfl, i212 := by kernel_rfl, i232 := by kernel_rfl, i233 := by kernel_rfl, m17 := by kernel_rfl, m18 := by kernel_rfl, m19 := by kernel_rfl }
noncomputable def sg_strconv_Itoa : List AK := [.v (.int .i64) .k]
noncomputable def F_strconv_Itoa (N : Nat) (x : AVals sg_strconv_Itoa) (kf : Ret → Option Ret) : Option Ret := strconv_Itoa N x.1 (fun r0 => kf ⟨[⟨.str, .k, r0⟩], []⟩)
noncomputable def run_strconv_Itoa (N : Nat) := runOf sg_strconv_Itoa (F_strconv_Itoa N)
theorem sd_strconv_Itoa {Γ : Gl} (hΓ : TabΓ Γ) (N : Nat) : Sound Γ Tryd.prog 84 (run_strconv_Itoa N) := sound_itoa lays_strconv_Itoa hΓ
/-! impl_FormatInt -/
noncomputable def h_impl_FormatInt : Hint := { tab, hn := [], loops := [], outs := [], ords := [] }
noncomputable def sg_impl_FormatInt : List AK := [.v (.int .i64) .k]
noncomputable def F_impl_FormatInt (N : Nat) (x : AVals sg_impl_FormatInt) (kf : Ret → Option Ret) : Option Ret := impl_FormatInt N x.1 (fun r0 => kf ⟨[⟨.str, .k, r0⟩], []⟩)
noncomputable def run_impl_FormatInt (N : Nat) := runOf sg_impl_FormatInt (F_impl_FormatInt N)
noncomputable def es_impl_FormatInt (N : Nat) : List Entry := [⟨84, [.val], (run_strconv_Itoa N)⟩]
noncomputable def body_impl_FormatInt : Code := match Tryd.f51.body with | some c => c | none => .skip
noncomputable def L_impl_FormatInt (N n : Nat) (key : Nat) (S : St) (K : Ks) : Option Ret := none
theorem L0_impl_FormatInt (N key : Nat) (S : St) (K : Ks) : L_impl_FormatInt N 0 key S K = none := rfl
theorem ls_impl_FormatInt : loopsIn body_impl_FormatInt = [] := by kernel_rfl
theorem fn_impl_FormatInt (N : Nat) (x : AVals sg_impl_FormatInt) (kf : Ret → Option Ret) : F_impl_FormatInt N x kf = peFunc h_impl_FormatInt (Orc.of (es_impl_FormatInt N)) (L_impl_FormatInt N N) Tryd.f51 (ashape sg_impl_FormatInt x) kf := by kernel_rfl
theorem sd_impl_FormatInt {Γ : Gl} (hΓ : TabΓ Γ) (N : Nat) : Sound Γ Tryd.prog 51 (run_impl_FormatInt N) := fun_ok2 (hh := h_impl_FormatInt) mixed tab_ok (es := es_impl_FormatInt N) ⟨sd_strconv_Itoa hΓ N, trivial⟩ (fn := Tryd.f51) (body := body_impl_FormatInt) (by kernel_rfl) (by kernel_rfl) (by kernel_rfl) (by kernel_rfl) (by kernel_rfl) (Lf := L_impl_FormatInt N) (L0_impl_FormatInt N) ls_impl_FormatInt trivial (N := N) (by kernel_rfl) (fn_impl_FormatInt N) (.inl (by kernel_rfl))
/-! laws_eqIntS -/
noncomputable def ks_laws_eqIntS_l4 : List Kd := [.v (.sl (.int .i64)) .k, .v (.sl (.int .i64)) .k, dK, dK, dK, .v (.int .i64) .k, dK, dK, dK, dK, dK, dK, dK, dK, dK, dK, dK, dK, dK, dK, dK, dK, dK, dK, dK, dK]
noncomputable def ko_laws_eqIntS_l4_0 : List Kd := [dK, dK, dK, dK, dK, dK, dK, dK, dK, dK, dK, dK, dK, dK, dK, dK, dK, dK, dK, dK, dK, dK, dK, dK, dK, dK]
noncomputable def ko_laws_eqIntS_l4_1 : List Kd := [dK, dK, dK, dK, .v .bool .k, dK, dK, dK, dK, dK, dK, dK, dK, dK, dK, dK, dK, dK, dK, dK, dK, dK, dK, dK, dK, dK]
noncomputable def h_laws_eqIntS : Hint := { tab, hn := [], loops := [(4, ks_laws_eqIntS_l4)], outs := [(4, 2, ko_laws_eqIntS_l4_0), (4, 1, ko_laws_eqIntS_l4_1)], ords := [(6, (OT.seq [0, 1, 2, 3, 4, 5, 6, 7, 8] .done))] }
noncomputable def sg_laws_eqIntS : List AK := [.v (.sl (.int .i64)) .k, .v (.sl (.int .i64)) .k]
noncomputable def F_laws_eqIntS (N : Nat) (x : AVals sg_laws_eqIntS) (kf : Ret → Option Ret) : Option Ret := laws_eqIntS N x.1 x.2.1 (fun r0 => kf ⟨[⟨.bool, .k, r0⟩], []⟩)
noncomputable def run_laws_eqIntS (N : Nat) := runOf sg_laws_eqIntS (F_laws_eqIntS N)
noncomputable def es_laws_eqIntS (N : Nat) : List Entry := []
noncomputable def body_laws_eqIntS : Code := match Tryd.f14.body with | some c => c | none => .skip
noncomputable def L_laws_eqIntS (N n : Nat) (key : Nat) (S : St) (K : Ks) : Option Ret := bif Nat.beq key 4 then withVals ks_laws_eqIntS_l4 S (fun x => laws_eqIntS_l4 x.1 x.2.1 n (K (.x 0) (shape ko_laws_eqIntS_l4_0 ())) (fun z0 => K .r (shape ko_laws_eqIntS_l4_1 (z0, ()))) x.2.2.1) else none
theorem L0_laws_eqIntS (N key : Nat) (S : St) (K : Ks) : L_laws_eqIntS N 0 key S K = none := (bif0 (withVals0 fun _ => rfl) rfl)
noncomputable def c_laws_eqIntS_0 : Code := (loopsIn body_laws_eqIntS).getD 0 .skip
theorem ls_laws_eqIntS : loopsIn body_laws_eqIntS = [c_laws_eqIntS_0] := by kernel_rfl
theorem rd_laws_eqIntS_4 (N n : Nat) (x : Vals ks_laws_eqIntS_l4) (K : Ks) : L_laws_eqIntS N (n + 1) 4 (shape ks_laws_eqIntS_l4 x) (h_laws_eqIntS.onOut 4 K) = peRound h_laws_eqIntS (Orc.of (es_laws_eqIntS N)) (mixL (L_laws_eqIntS N) N n 4) c_laws_eqIntS_0 (shape ks_laws_eqIntS_l4 x) (h_laws_eqIntS.onOut 4 K) := by kernel_rfl
theorem fn_laws_eqIntS (N : Nat) (x : AVals sg_laws_eqIntS) (kf : Ret → Option Ret) : F_laws_eqIntS N x kf = peFunc h_laws_eqIntS (Orc.of (es_laws_eqIntS N)) (L_laws_eqIntS N N) Tryd.f14 (ashape sg_laws_eqIntS x) kf := by kernel_rfl
theorem sd_laws_eqIntS {Γ : Gl} (hΓ : TabΓ Γ) (N : Nat) : Sound Γ Tryd.prog 14 (run_laws_eqIntS N) := fun_ok2 (hh := h_laws_eqIntS) mixed tab_ok (es := es_laws_eqIntS N) trivial (fn := Tryd.f14) (body := body_laws_eqIntS) (by kernel_rfl) (by kernel_rfl) (by kernel_rfl) (by kernel_rfl) (by kernel_rfl) (Lf := L_laws_eqIntS N) (L0_laws_eqIntS N) ls_laws_eqIntS (round_cons (key := 4) (ks := ks_laws_eqIntS_l4) (by kernel_rfl) (by kernel_rfl) (rd_laws_eqIntS_4 N) trivial) (N := N) (by kernel_rfl) (fn_laws_eqIntS N) (.inl (by kernel_rfl))
/-! laws_szIntS -/
noncomputable def h_laws_szIntS : Hint := { tab, hn := [], loops := [], outs := [], ords := [] }
noncomputable def sg_laws_szIntS : List AK := [.v (.sl (.int .i64)) .k, .v (.int .i64) .k]
noncomputable def F_laws_szIntS (N : Nat) (x : AVals sg_laws_szIntS) (kf : Ret → Option Ret) : Option Ret := laws_szIntS N x.1 x.2.1 (fun r0 => kf ⟨[⟨(.int .i64), .k, r0⟩], []⟩)
noncomputable def run_laws_szIntS (N : Nat) := runOf sg_laws_szIntS (F_laws_szIntS N)
noncomputable def es_laws_szIntS (N : Nat) : List Entry := []
noncomputable def body_laws_szIntS : Code := match Tryd.f53.body with | some c => c | none => .skip
noncomputable def L_laws_szIntS (N n : Nat) (key : Nat) (S : St) (K : Ks) : Option Ret := none
theorem L0_laws_szIntS (N key : Nat) (S : St) (K : Ks) : L_laws_szIntS N 0 key S K = none := rfl
theorem ls_laws_szIntS : loopsIn body_laws_szIntS = [] := by kernel_rfl
theorem fn_laws_szIntS (N : Nat) (x : AVals sg_laws_szIntS) (kf : Ret → Option Ret) : F_laws_szIntS N x kf = peFunc h_laws_szIntS (Orc.of (es_laws_szIntS N)) (L_laws_szIntS N N) Tryd.f53 (ashape sg_laws_szIntS x) kf := by kernel_rfl
theorem sd_laws_szIntS {Γ : Gl} (hΓ : TabΓ Γ) (N : Nat) : Sound Γ Tryd.prog 53 (run_laws_szIntS N) := fun_ok2 (hh := h_laws_szIntS) mixed tab_ok (es := es_laws_szIntS N) trivial (fn := Tryd.f53) (body := body_laws_szIntS) (by kernel_rfl) (by kernel_rfl) (by kernel_rfl) (by kernel_rfl) (by kernel_rfl) (Lf := L_laws_szIntS N) (L0_laws_szIntS N) ls_laws_szIntS trivial (N := N) (by kernel_rfl) (fn_laws_szIntS N) (.inl (by kernel_rfl))
/-! laws_szIntSS -/
noncomputable def ks_laws_szIntSS_l5 : List Kd := [.v (.sl (.sl (.int .i64))) .k, .v (.int .i64) .k, dK, dK, dK, .v (.int .i64) .k, dK, dK, dK, dK, dK, dK, dK, dK, dK, dK, dK, dK, dK, dK, dK, dK, dK, dK, dK, dK, dK]
noncomputable def ko_laws_szIntSS_l5_0 : List Kd := [dK, .v (.int .i64) .k, dK, dK, dK, dK, dK, dK, dK, dK, dK, dK, dK, dK, dK, dK, dK, dK, dK, dK, dK, dK, dK, dK, dK, dK, dK]
noncomputable def ko_laws_szIntSS_l5_1 : List Kd := [dK, dK, dK, dK, .v (.int .i64) .k, dK, dK, dK, dK, dK, dK, dK, dK, dK, dK, dK, dK, dK, dK, dK, dK, dK, dK, dK, dK, dK, dK]
noncomputable def h_laws_szIntSS : Hint := { tab, hn := [], loops := [(5, ks_laws_szIntSS_l5)], outs := [(5, 2, ko_laws_szIntSS_l5_0), (5, 1, ko_laws_szIntSS_l5_1)], ords := [] }
noncomputable def sg_laws_szIntSS : List AK := [.v (.sl (.sl (.int .i64))) .k, .v (.int .i64) .k]
noncomputable def F_laws_szIntSS (N : Nat) (x : AVals sg_laws_szIntSS) (kf : Ret → Option Ret) : Option Ret := laws_szIntSS N x.1 x.2.1 (fun r0 => kf ⟨[⟨(.int .i64), .k, r0⟩], []⟩)
noncomputable def run_laws_szIntSS (N : Nat) := runOf sg_laws_szIntSS (F_laws_szIntSS N)
noncomputable def es_laws_szIntSS (N : Nat) : List Entry := [⟨53, [.val, .val], (run_laws_szIntS N)⟩]
noncomputable def body_laws_szIntSS : Code := match Tryd.f15.body with | some c => c | none => .skip
noncomputable def L_laws_szIntSS (N n : Nat) (key : Nat) (S : St) (K : Ks) : Option Ret := bif Nat.beq key 5 then withVals ks_laws_szIntSS_l5 S (fun x => laws_szIntSS_l5 N x.1 n (fun z0 => K (.x 0) (shape ko_laws_szIntSS_l5_0 (z0, ()))) (fun z0 => K .r (shape ko_laws_szIntSS_l5_1 (z0, ()))) x.2.1 x.2.2.1) else none
theorem L0_laws_szIntSS (N key : Nat) (S : St) (K : Ks) : L_laws_szIntSS N 0 key S K = none := (bif0 (withVals0 fun _ => rfl) rfl)
noncomputable def c_laws_szIntSS_0 : Code := (loopsIn body_laws_szIntSS).getD 0 .skip
theorem ls_laws_szIntSS : loopsIn body_laws_szIntSS = [c_laws_szIntSS_0] := by kernel_rfl
theorem rd_laws_szIntSS_5 (N n : Nat) (x : Vals ks_laws_szIntSS_l5) (K : Ks) : L_laws_szIntSS N (n + 1) 5 (shape ks_laws_szIntSS_l5 x) (h_laws_szIntSS.onOut 5 K) = peRound h_laws_szIntSS (Orc.of (es_laws_szIntSS N)) (mixL (L_laws_szIntSS N) N n 5) c_laws_szIntSS_0 (shape ks_laws_szIntSS_l5 x) (h_laws_szIntSS.onOut 5 K) := by kernel_rfl
theorem fn_laws_szIntSS (N : Nat) (x : AVals sg_laws_szIntSS) (kf : Ret → Option Ret) : F_laws_szIntSS N x kf = peFunc h_laws_szIntSS (Orc.of (es_laws_szIntSS N)) (L_laws_szIntSS N N) Tryd.f15 (ashape sg_laws_szIntSS x) kf := by kernel_rfl
theorem sd_laws_szIntSS {Γ : Gl} (hΓ : TabΓ Γ) (N : Nat) : Sound Γ Tryd.prog 15 (run_laws_szIntSS N) := fun_ok2 (hh := h_laws_szIntSS) mixed tab_ok (es := es_laws_szIntSS N) ⟨sd_laws_szIntS hΓ N, trivial⟩ (fn := Tryd.f15) (body := body_laws_szIntSS) (by kernel_rfl) (by kernel_rfl) (by kernel_rfl) (by kernel_rfl) (by kernel_rfl) (Lf := L_laws_szIntSS N) (L0_laws_szIntSS N) ls_laws_szIntSS (round_cons (key := 5) (ks := ks_laws_szIntSS_l5) (by kernel_rfl) (by kernel_rfl) (rd_laws_szIntSS_5 N) trivial) (N := N) (by kernel_rfl) (fn_laws_szIntSS N) (.inl (by kernel_rfl))
/-! laws_toIntSS -/
noncomputable def ks_laws_toIntSS_l3 : List Kd := [.v (.sl (.sl (.int .i64))) .k, dK, dK, .v (.sl (.sl (.int .i64))) (.o 22 none (.o 3 none .k)), .v (.int .i64) .k, dK, dK, dK, dK, dK, dK, dK, dK, dK, dK, dK, dK, dK, dK, dK, dK, dK, dK]
noncomputable def ko_laws_toIntSS_l3_0 : List Kd := [dK, dK, dK, .v (.sl (.sl (.int .i64))) (.o 22 none (.o 3 none .k)), dK, dK, dK, dK, dK, dK, dK, dK, dK, dK, dK, dK, dK, dK, dK, dK, dK, dK, dK]
noncomputable def h_laws_toIntSS : Hint := { tab, hn := [], loops := [(3, ks_laws_toIntSS_l3)], outs := [(3, 2, ko_laws_toIntSS_l3_0)], ords := [] }
noncomputable def sg_laws_toIntSS : List AK := [.v (.sl (.sl (.int .i64))) .k]
noncomputable def F_laws_toIntSS (N : Nat) (x : AVals sg_laws_toIntSS) (kf : Ret → Option Ret) : Option Ret := laws_toIntSS N x.1 (fun r0 => kf ⟨[⟨(.sl (.sl (.int .i64))), (.o 22 none (.o 3 none .k)), r0⟩], []⟩)
noncomputable def run_laws_toIntSS (N : Nat) := runOf sg_laws_toIntSS (F_laws_toIntSS N)
noncomputable def es_laws_toIntSS (N : Nat) : List Entry := [⟨12, [.val], (run_laws_toIntS N)⟩]
noncomputable def body_laws_toIntSS : Code := match Tryd.f17.body with | some c => c | none => .skip
noncomputable def L_laws_toIntSS (N n : Nat) (key : Nat) (S : St) (K : Ks) : Option Ret := bif Nat.beq key 3 then withVals ks_laws_toIntSS_l3 S (fun x => laws_toIntSS_l3 N x.1 n (fun z0 => K (.x 0) (shape ko_laws_toIntSS_l3_0 (z0, ()))) x.2.1 x.2.2.1) else none
theorem L0_laws_toIntSS (N key : Nat) (S : St) (K : Ks) : L_laws_toIntSS N 0 key S K = none := (bif0 (withVals0 fun _ => rfl) rfl)
noncomputable def c_laws_toIntSS_0 : Code := (loopsIn body_laws_toIntSS).getD 0 .skip
theorem ls_laws_toIntSS : loopsIn body_laws_toIntSS = [c_laws_toIntSS_0] := by kernel_rfl
theorem rd_laws_toIntSS_3 (N n : Nat) (x : Vals ks_laws_toIntSS_l3) (K : Ks) : L_laws_toIntSS N (n + 1) 3 (shape ks_laws_toIntSS_l3 x) (h_laws_toIntSS.onOut 3 K) = peRound h_laws_toIntSS (Orc.of (es_laws_toIntSS N)) (mixL (L_laws_toIntSS N) N n 3) c_laws_toIntSS_0 (shape ks_laws_toIntSS_l3 x) (h_laws_toIntSS.onOut 3 K) := by kernel_rfl
theorem fn_laws_toIntSS (N : Nat) (x : AVals sg_laws_toIntSS) (kf : Ret → Option Ret) : F_laws_toIntSS N x kf = peFunc h_laws_toIntSS (Orc.of (es_laws_toIntSS N)) (L_laws_toIntSS N N) Tryd.f17 (ashape sg_laws_toIntSS x) kf := by kernel_rfl
theorem sd_laws_toIntSS {Γ : Gl} (hΓ : TabΓ Γ) (N : Nat) : Sound Γ Tryd.prog 17 (run_laws_toIntSS N) := fun_ok2 (hh := h_laws_toIntSS) mixed tab_ok (es := es_laws_toIntSS N) ⟨sd_laws_toIntS hΓ N, trivial⟩ (fn := Tryd.f17) (body := body_laws_toIntSS) (by kernel_rfl) (by kernel_rfl) (by kernel_rfl) (by kernel_rfl) (by kernel_rfl) (Lf := L_laws_toIntSS N) (L0_laws_toIntSS N) ls_laws_toIntSS (round_cons (key := 3) (ks := ks_laws_toIntSS_l3) (by kernel_rfl) (by kernel_rfl) (rd_laws_toIntSS_3 N) trivial) (N := N) (by kernel_rfl) (fn_laws_toIntSS N) (.inl (by kernel_rfl))
/-! laws_eqIntSS -/
noncomputable def ks_laws_eqIntSS_l4 : List Kd := [.v (.sl (.sl (.int .i64))) .k, .v (.sl (.sl (.int .i64))) .k, dK, dK, dK, .v (.int .i64) .k, dK, dK, dK, dK, dK, dK, dK, dK, dK, dK, dK, dK, dK, dK, dK, dK, dK, dK, dK, dK, dK]
noncomputable def ko_laws_eqIntSS_l4_0 : List Kd := [dK, dK, dK, dK, dK, dK, dK, dK, dK, dK, dK, dK, dK, dK, dK, dK, dK, dK, dK, dK, dK, dK, dK, dK, dK, dK, dK]
noncomputable def ko_laws_eqIntSS_l4_1 : List Kd := [dK, dK, dK, dK, .v .bool .k, dK, dK, dK, dK, dK, dK, dK, dK, dK, dK, dK, dK, dK, dK, dK, dK, dK, dK, dK, dK, dK, dK]
noncomputable def h_laws_eqIntSS : Hint := { tab, hn := [], loops := [(4, ks_laws_eqIntSS_l4)], outs := [(4, 2, ko_laws_eqIntSS_l4_0), (4, 1, ko_laws_eqIntSS_l4_1)], ords := [(6, (OT.seq [0, 1, 2, 3, 4, 5, 6, 7, 8, 9] .done))] }
noncomputable def sg_laws_eqIntSS : List AK := [.v (.sl (.sl (.int .i64))) .k, .v (.sl (.sl (.int .i64))) .k]
noncomputable def F_laws_eqIntSS (N : Nat) (x : AVals sg_laws_eqIntSS) (kf : Ret → Option Ret) : Option Ret := laws_eqIntSS N x.1 x.2.1 (fun r0 => kf ⟨[⟨.bool, .k, r0⟩], []⟩)
noncomputable def run_laws_eqIntSS (N : Nat) := runOf sg_laws_eqIntSS (F_laws_eqIntSS N)
noncomputable def es_laws_eqIntSS (N : Nat) : List Entry := [⟨14, [.val, .val], (run_laws_eqIntS N)⟩]
noncomputable def body_laws_eqIntSS : Code := match Tryd.f19.body with | some c => c | none => .skip
noncomputable def L_laws_eqIntSS (N n : Nat) (key : Nat) (S : St) (K : Ks) : Option Ret := bif Nat.beq key 4 then withVals ks_laws_eqIntSS_l4 S (fun x => laws_eqIntSS_l4 N x.1 x.2.1 n (K (.x 0) (shape ko_laws_eqIntSS_l4_0 ())) (fun z0 => K .r (shape ko_laws_eqIntSS_l4_1 (z0, ()))) x.2.2.1) else none
theorem L0_laws_eqIntSS (N key : Nat) (S : St) (K : Ks) : L_laws_eqIntSS N 0 key S K = none := (bif0 (withVals0 fun _ => rfl) rfl)
noncomputable def c_laws_eqIntSS_0 : Code := (loopsIn body_laws_eqIntSS).getD 0 .skip
theorem ls_laws_eqIntSS : loopsIn body_laws_eqIntSS = [c_laws_eqIntSS_0] := by kernel_rfl
theorem rd_laws_eqIntSS_4 (N n : Nat) (x : Vals ks_laws_eqIntSS_l4) (K : Ks) : L_laws_eqIntSS N (n + 1) 4 (shape ks_laws_eqIntSS_l4 x) (h_laws_eqIntSS.onOut 4 K) = peRound h_laws_eqIntSS (Orc.of (es_laws_eqIntSS N)) (mixL (L_laws_eqIntSS N) N n 4) c_laws_eqIntSS_0 (shape ks_laws_eqIntSS_l4 x) (h_laws_eqIntSS.onOut 4 K) := by kernel_rfl
theorem fn_laws_eqIntSS (N : Nat) (x : AVals sg_laws_eqIntSS) (kf : Ret → Option Ret) : F_laws_eqIntSS N x kf = peFunc h_laws_eqIntSS (Orc.of (es_laws_eqIntSS N)) (L_laws_eqIntSS N N) Tryd.f19 (ashape sg_laws_eqIntSS x) kf := by kernel_rfl
theorem sd_laws_eqIntSS {Γ : Gl} (hΓ : TabΓ Γ) (N : Nat) : Sound Γ Tryd.prog 19 (run_laws_eqIntSS N) := fun_ok2 (hh := h_laws_eqIntSS) mixed tab_ok (es := es_laws_eqIntSS N) ⟨sd_laws_eqIntS hΓ N, trivial⟩ (fn := Tryd.f19) (body := body_laws_eqIntSS) (by kernel_rfl) (by kernel_rfl) (by kernel_rfl) (by kernel_rfl) (by kernel_rfl) (Lf := L_laws_eqIntSS N) (L0_laws_eqIntSS N) ls_laws_eqIntSS (round_cons (key := 4) (ks := ks_laws_eqIntSS_l4) (by kernel_rfl) (by kernel_rfl) (rd_laws_eqIntSS_4 N) trivial) (N := N) (by kernel_rfl) (fn_laws_eqIntSS N) (.inl (by kernel_rfl))
/-! laws_szGraph -/
noncomputable def h_laws_szGraph : Hint := { tab, hn := [], loops := [], outs := [], ords := [] }
noncomputable def sg_laws_szGraph : List AK := [.v tQILLIE .k, .v (.int .i64) .k]
noncomputable def F_laws_szGraph (N : Nat) (x : AVals sg_laws_szGraph) (kf : Ret → Option Ret) : Option Ret := laws_szGraph N x.1 x.2.1 (fun r0 => kf ⟨[⟨(.int .i64), .k, r0⟩], []⟩)
noncomputable def run_laws_szGraph (N : Nat) := runOf sg_laws_szGraph (F_laws_szGraph N)
noncomputable def es_laws_szGraph (N : Nat) : List Entry := [⟨15, [.val, .val], (run_laws_szIntSS N)⟩]
noncomputable def body_laws_szGraph : Code := match Tryd.f20.body with | some c => c | none => .skip
noncomputable def L_laws_szGraph (N n : Nat) (key : Nat) (S : St) (K : Ks) : Option Ret := none
theorem L0_laws_szGraph (N key : Nat) (S : St) (K : Ks) : L_laws_szGraph N 0 key S K = none := rfl
theorem ls_laws_szGraph : loopsIn body_laws_szGraph = [] := by kernel_rfl
theorem fn_laws_szGraph (N : Nat) (x : AVals sg_laws_szGraph) (kf : Ret → Option Ret) : F_laws_szGraph N x kf = peFunc h_laws_szGraph (Orc.of (es_laws_szGraph N)) (L_laws_szGraph N N) Tryd.f20 (ashape sg_laws_szGraph x) kf := by kernel_rfl
theorem sd_laws_szGraph {Γ : Gl} (hΓ : TabΓ Γ) (N : Nat) : Sound Γ Tryd.prog 20 (run_laws_szGraph N) := fun_ok2 (hh := h_laws_szGraph) mixed tab_ok (es := es_laws_szGraph N) ⟨sd_laws_szIntSS hΓ N, trivial⟩ (fn := Tryd.f20) (body := body_laws_szGraph) (by kernel_rfl) (by kernel_rfl) (by kernel_rfl) (by kernel_rfl) (by kernel_rfl) (Lf := L_laws_szGraph N) (L0_laws_szGraph N) ls_laws_szGraph trivial (N := N) (by kernel_rfl) (fn_laws_szGraph N) (.inl (by kernel_rfl))
/-! laws_toGraph -/
noncomputable def h_laws_toGraph : Hint := { tab, hn := [], loops := [], outs := [], ords := [] }
noncomputable def sg_laws_toGraph : List AK := [.v tQILLIE .k]
noncomputable def F_laws_toGraph (N : Nat) (x : AVals sg_laws_toGraph) (kf : Ret → Option Ret) : Option Ret := laws_toGraph N x.1 (fun r0 => kf ⟨[⟨tQILLIE, (.p .k (.o 22 none (.o 3 none .k))), r0⟩], []⟩)
noncomputable def run_laws_toGraph (N : Nat) := runOf sg_laws_toGraph (F_laws_toGraph N)
noncomputable def es_laws_toGraph (N : Nat) : List Entry := [⟨17, [.val], (run_laws_toIntSS N)⟩]
noncomputable def body_laws_toGraph : Code := match Tryd.f22.body with | some c => c | none => .skip
noncomputable def L_laws_toGraph (N n : Nat) (key : Nat) (S : St) (K : Ks) : Option Ret := none
theorem L0_laws_toGraph (N key : Nat) (S : St) (K : Ks) : L_laws_toGraph N 0 key S K = none := rfl
theorem ls_laws_toGraph : loopsIn body_laws_toGraph = [] := by kernel_rfl
theorem fn_laws_toGraph (N : Nat) (x : AVals sg_laws_toGraph) (kf : Ret → Option Ret) : F_laws_toGraph N x kf = peFunc h_laws_toGraph (Orc.of (es_laws_toGraph N)) (L_laws_toGraph N N) Tryd.f22 (ashape sg_laws_toGraph x) kf := by kernel_rfl
theorem sd_laws_toGraph {Γ : Gl} (hΓ : TabΓ Γ) (N : Nat) : Sound Γ Tryd.prog 22 (run_laws_toGraph N) := fun_ok2 (hh := h_laws_toGraph) mixed tab_ok (es := es_laws_toGraph N) ⟨sd_laws_toIntSS hΓ N, trivial⟩ (fn := Tryd.f22) (body := body_laws_toGraph) (by kernel_rfl) (by kernel_rfl) (by kernel_rfl) (by kernel_rfl) (by kernel_rfl) (Lf := L_laws_toGraph N) (L0_laws_toGraph N) ls_laws_toGraph trivial (N := N) (by kernel_rfl) (fn_laws_toGraph N) (.inl (by kernel_rfl))
/-! spec_l1In -/
noncomputable def h_spec_l1In : Hint := { tab, hn := [], loops := [], outs := [], ords := [] }
noncomputable def sg_spec_l1In : List AK := [.v (.int .i64) .k, .v (.int .i64) .k, .v (.int .i64) .k]
noncomputable def F_spec_l1In (N : Nat) (x : AVals sg_spec_l1In) (kf : Ret → Option Ret) : Option Ret := spec_l1In N x.1 x.2.1 x.2.2.1 (fun r0 => kf ⟨[⟨.bool, .k, r0⟩], []⟩)
noncomputable def run_spec_l1In (N : Nat) := runOf sg_spec_l1In (F_spec_l1In N)
noncomputable def es_spec_l1In (N : Nat) : List Entry := []
noncomputable def body_spec_l1In : Code := match Tryd.f88.body with | some c => c | none => .skip
noncomputable def L_spec_l1In (N n : Nat) (key : Nat) (S : St) (K : Ks) : Option Ret := none
theorem L0_spec_l1In (N key : Nat) (S : St) (K : Ks) : L_spec_l1In N 0 key S K = none := rfl
theorem ls_spec_l1In : loopsIn body_spec_l1In = [] := by kernel_rfl
theorem fn_spec_l1In (N : Nat) (x : AVals sg_spec_l1In) (kf : Ret → Option Ret) : F_spec_l1In N x kf = peFunc h_spec_l1In (Orc.of (es_spec_l1In N)) (L_spec_l1In N N) Tryd.f88 (ashape sg_spec_l1In x) kf := by kernel_rfl
theorem sd_spec_l1In {Γ : Gl} (hΓ : TabΓ Γ) (N : Nat) : Sound Γ Tryd.prog 88 (run_spec_l1In N) := fun_ok2 (hh := h_spec_l1In) mixed tab_ok (es := es_spec_l1In N) trivial (fn := Tryd.f88) (body := body_spec_l1In) (by kernel_rfl) (by kernel_rfl) (by kernel_rfl) (by kernel_rfl) (by kernel_rfl) (Lf := L_spec_l1In N) (L0_spec_l1In N) ls_spec_l1In trivial (N := N) (by kernel_rfl) (fn_spec_l1In N) (.inl (by kernel_rfl))
/-! spec_IsGraph -/
noncomputable def ks_spec_IsGraph_l2 : List Kd := [dK, .v (.ptr tQILLIE) (.o 37 none .k), dK, .v (.int .i64) .k, dK, dK, dK, dK, dK, dK, dK, dK, dK, dK, dK, dK, dK, dK, dK, dK, dK, dK, dK, dK, dK, dK, dK, dK, dK, dK, dK, dK, dK, dK, dK, dK, dK, dK, dK, dK, dK, dK, dK, dK, dK, dK, dK, dK, dK, dK, dK, dK, dK, dK, dK, dK, dK, dK, dK, dK, dK, dK, dK, dK, dK, dK, dK, dK, dK, dK, dK, dK, dK, dK, dK, dK, dK]
noncomputable def ko_spec_IsGraph_l2_0 : List Kd := [dK, .v (.ptr tQILLIE) (.o 37 none .k), dK, dK, dK, dK, dK, dK, dK, dK, dK, dK, dK, dK, dK, dK, dK, dK, dK, dK, dK, dK, dK, dK, dK, dK, dK, dK, dK, dK, dK, dK, dK, dK, dK, dK, dK, dK, dK, dK, dK, dK, dK, dK, dK, dK, dK, dK, dK, dK, dK, dK, dK, dK, dK, dK, dK, dK, dK, dK, dK, dK, dK, dK, dK, dK, dK, dK, dK, dK, dK, dK, dK, dK, dK, dK, dK]
noncomputable def ko_spec_IsGraph_l2_1 : List Kd := [dK, dK, .v .bool .k, dK, dK, dK, dK, dK, dK, dK, dK, dK, dK, dK, dK, dK, dK, dK, dK, dK, dK, dK, dK, dK, dK, dK, dK, dK, dK, dK, dK, dK, dK, dK, dK, dK, dK, dK, dK, dK, dK, dK, dK, dK, dK, dK, dK, dK, dK, dK, dK, dK, dK, dK, dK, dK, dK, dK, dK, dK, dK, dK, dK, dK, dK, dK, dK, dK, dK, dK, dK, dK, dK, dK, dK, dK, dK]
noncomputable def h_spec_IsGraph : Hint := { tab, hn := [], loops := [(2, ks_spec_IsGraph_l2)], outs := [(2, 2, ko_spec_IsGraph_l2_0), (2, 1, ko_spec_IsGraph_l2_1)], ords := [(5, (OT.seq [0, 1, 2, 3, 4, 5, 6, 7, 8, 9, 10, 11, 12, 13, 14, 15, 16, 17, 18, 19, 20, 21, 22] .done)), (9, (OT.seq [0, 1, 2, 3, 4, 5, 6, 7, 8, 9, 10, 11, 12, 13, 14, 15, 16, 17, 18, 19, 20, 21, 22, 23, 24] .done))] }
noncomputable def sg_spec_IsGraph : List AK := [.v tQILLIE .k]
noncomputable def F_spec_IsGraph (N : Nat) (x : AVals sg_spec_IsGraph) (kf : Ret → Option Ret) : Option Ret := spec_IsGraph N x.1 (fun r0 => kf ⟨[⟨.bool, .k, r0⟩], []⟩)
noncomputable def run_spec_IsGraph (N : Nat) := runOf sg_spec_IsGraph (F_spec_IsGraph N)
noncomputable def es_spec_IsGraph (N : Nat) : List Entry := [⟨88, [.val, .val, .val], (run_spec_l1In N)⟩]
noncomputable def body_spec_IsGraph : Code := match Tryd.f55.body with | some c => c | none => .skip
noncomputable def L_spec_IsGraph (N n : Nat) (key : Nat) (S : St) (K : Ks) : Option Ret := bif Nat.beq key 2 then withVals ks_spec_IsGraph_l2 S (fun x => spec_IsGraph_l2 N x.1 n (K (.x 0) (shape ko_spec_IsGraph_l2_0 (x.1, ()))) (fun z0 => K .r (shape ko_spec_IsGraph_l2_1 (z0, ()))) x.2.1) else none
theorem L0_spec_IsGraph (N key : Nat) (S : St) (K : Ks) : L_spec_IsGraph N 0 key S K = none := (bif0 (withVals0 fun _ => rfl) rfl)
noncomputable def c_spec_IsGraph_0 : Code := (loopsIn body_spec_IsGraph).getD 0 .skip
theorem ls_spec_IsGraph : loopsIn body_spec_IsGraph = [c_spec_IsGraph_0] := by kernel_rfl
theorem rd_spec_IsGraph_2 (N n : Nat) (x : Vals ks_spec_IsGraph_l2) (K : Ks) : L_spec_IsGraph N (n + 1) 2 (shape ks_spec_IsGraph_l2 x) (h_spec_IsGraph.onOut 2 K) = peRound h_spec_IsGraph (Orc.of (es_spec_IsGraph N)) (mixL (L_spec_IsGraph N) N n 2) c_spec_IsGraph_0 (shape ks_spec_IsGraph_l2 x) (h_spec_IsGraph.onOut 2 K) := by kernel_rfl
theorem fn_spec_IsGraph (N : Nat) (x : AVals sg_spec_IsGraph) (kf : Ret → Option Ret) : F_spec_IsGraph N x kf = peFunc h_spec_IsGraph (Orc.of (es_spec_IsGraph N)) (L_spec_IsGraph N N) Tryd.f55 (ashape sg_spec_IsGraph x) kf := by kernel_rfl
theorem sd_spec_IsGraph {Γ : Gl} (hΓ : TabΓ Γ) (N : Nat) : Sound Γ Tryd.prog 55 (run_spec_IsGraph N) := fun_ok2 (hh := h_spec_IsGraph) mixed tab_ok (es := es_spec_IsGraph N) ⟨sd_spec_l1In hΓ N, trivial⟩ (fn := Tryd.f55) (body := body_spec_IsGraph) (by kernel_rfl) (by kernel_rfl) (by kernel_rfl) (by kernel_rfl) (by kernel_rfl) (Lf := L_spec_IsGraph N) (L0_spec_IsGraph N) ls_spec_IsGraph (round_cons (key := 2) (ks := ks_spec_IsGraph_l2) (by kernel_rfl) (by kernel_rfl) (rd_spec_IsGraph_2 N) trivial) (N := N) (by kernel_rfl) (fn_spec_IsGraph N) (.inl (by kernel_rfl))
/-! spec_GraphText -/
noncomputable def ks_spec_GraphText_l5 : List Kd := [dK, .v (.ptr tQILLIE) (.o 37 none .k), dK, .v .str .k, .v (.int .i64) .k, dK, dK, dK, dK, dK, dK, dK, dK, dK, dK, dK, dK, dK, dK, dK, dK, dK, dK, dK, dK, dK, dK, dK, dK, dK, dK, dK, dK, dK, dK, dK, dK, dK, dK, dK]
noncomputable def ko_spec_GraphText_l5_0 : List Kd := [dK, dK, dK, .v .str .k, dK, dK, dK, dK, dK, dK, dK, dK, dK, dK, dK, dK, dK, dK, dK, dK, dK, dK, dK, dK, dK, dK, dK, dK, dK, dK, dK, dK, dK, dK, dK, dK, dK, dK, dK, dK]
noncomputable def h_spec_GraphText : Hint := { tab, hn := [], loops := [(5, ks_spec_GraphText_l5)], outs := [(5, 2, ko_spec_GraphText_l5_0)], ords := [(7, (OT.seq [0, 1, 2, 3, 4, 5, 6, 7, 8, 12, 13, 14, 15, 16, 17, 18, 9, 10, 11, 19, 20, 21] .done))] }
noncomputable def sg_spec_GraphText : List AK := [.v tQILLIE .k]
noncomputable def F_spec_GraphText (N : Nat) (x : AVals sg_spec_GraphText) (kf : Ret → Option Ret) : Option Ret := spec_GraphText N x.1 (fun r0 => kf ⟨[⟨.str, .k, r0⟩], []⟩)
noncomputable def run_spec_GraphText (N : Nat) := runOf sg_spec_GraphText (F_spec_GraphText N)
noncomputable def es_spec_GraphText (N : Nat) : List Entry := [⟨55, [.val], (run_spec_IsGraph N)⟩, ⟨49, [.val], (run_spec_FormatInt N)⟩]
noncomputable def body_spec_GraphText : Code := match Tryd.f21.body with | some c => c | none => .skip
noncomputable def L_spec_GraphText (N n : Nat) (key : Nat) (S : St) (K : Ks) : Option Ret := bif Nat.beq key 5 then withVals ks_spec_GraphText_l5 S (fun x => spec_GraphText_l5 N x.1 n (fun z0 => K (.x 0) (shape ko_spec_GraphText_l5_0 (z0, ()))) x.2.1 x.2.2.1) else none
theorem L0_spec_GraphText (N key : Nat) (S : St) (K : Ks) : L_spec_GraphText N 0 key S K = none := (bif0 (withVals0 fun _ => rfl) rfl)
noncomputable def c_spec_GraphText_0 : Code := (loopsIn body_spec_GraphText).getD 0 .skip
theorem ls_spec_GraphText : loopsIn body_spec_GraphText = [c_spec_GraphText_0] := by kernel_rfl
theorem rd_spec_GraphText_5 (N n : Nat) (x : Vals ks_spec_GraphText_l5) (K : Ks) : L_spec_GraphText N (n + 1) 5 (shape ks_spec_GraphText_l5 x) (h_spec_GraphText.onOut 5 K) = peRound h_spec_GraphText (Orc.of (es_spec_GraphText N)) (mixL (L_spec_GraphText N) N n 5) c_spec_GraphText_0 (shape ks_spec_GraphText_l5 x) (h_spec_GraphText.onOut 5 K) := by kernel_rfl
theorem fn_spec_GraphText (N : Nat) (x : AVals sg_spec_GraphText) (kf : Ret → Option Ret) : F_spec_GraphText N x kf = peFunc h_spec_GraphText (Orc.of (es_spec_GraphText N)) (L_spec_GraphText N N) Tryd.f21 (ashape sg_spec_GraphText x) kf := by kernel_rfl
theorem sd_spec_GraphText {Γ : Gl} (hΓ : TabΓ Γ) (N : Nat) : Sound Γ Tryd.prog 21 (run_spec_GraphText N) := fun_ok2 (hh := h_spec_GraphText) mixed tab_ok (es := es_spec_GraphText N) ⟨sd_spec_IsGraph hΓ N, ⟨sd_spec_FormatInt hΓ N, trivial⟩⟩ (fn := Tryd.f21) (body := body_spec_GraphText) (by kernel_rfl) (by kernel_rfl) (by kernel_rfl) (by kernel_rfl) (by kernel_rfl) (Lf := L_spec_GraphText N) (L0_spec_GraphText N) ls_spec_GraphText (round_cons (key := 5) (ks := ks_spec_GraphText_l5) (by kernel_rfl) (by kernel_rfl) (rd_spec_GraphText_5 N) trivial) (N := N) (by kernel_rfl) (fn_spec_GraphText N) (.inl (by kernel_rfl))
/-! impl_InRange -/
noncomputable def h_impl_InRange : Hint := { tab, hn := [], loops := [], outs := [], ords := [] }
noncomputable def sg_impl_InRange : List AK := [.v (.int .i64) .k, .v (.int .i64) .k, .v (.int .i64) .k]
noncomputable def F_impl_InRange (N : Nat) (x : AVals sg_impl_InRange) (kf : Ret → Option Ret) : Option Ret := impl_InRange N x.1 x.2.1 x.2.2.1 (fun r0 => kf ⟨[⟨.bool, .k, r0⟩], []⟩)
noncomputable def run_impl_InRange (N : Nat) := runOf sg_impl_InRange (F_impl_InRange N)
noncomputable def es_impl_InRange (N : Nat) : List Entry := []
noncomputable def body_impl_InRange : Code := match Tryd.f89.body with | some c => c | none => .skip
noncomputable def L_impl_InRange (N n : Nat) (key : Nat) (S : St) (K : Ks) : Option Ret := none
theorem L0_impl_InRange (N key : Nat) (S : St) (K : Ks) : L_impl_InRange N 0 key S K = none := rfl
theorem ls_impl_InRange : loopsIn body_impl_InRange = [] := by kernel_rfl
theorem fn_impl_InRange (N : Nat) (x : AVals sg_impl_InRange) (kf : Ret → Option Ret) : F_impl_InRange N x kf = peFunc h_impl_InRange (Orc.of (es_impl_InRange N)) (L_impl_InRange N N) Tryd.f89 (ashape sg_impl_InRange x) kf := by kernel_rfl
theorem sd_impl_InRange {Γ : Gl} (hΓ : TabΓ Γ) (N : Nat) : Sound Γ Tryd.prog 89 (run_impl_InRange N) := fun_ok2 (hh := h_impl_InRange) mixed tab_ok (es := es_impl_InRange N) trivial (fn := Tryd.f89) (body := body_impl_InRange) (by kernel_rfl) (by kernel_rfl) (by kernel_rfl) (by kernel_rfl) (by kernel_rfl) (Lf := L_impl_InRange N) (L0_impl_InRange N) ls_impl_InRange trivial (N := N) (by kernel_rfl) (fn_impl_InRange N) (.inl (by kernel_rfl))
/-! impl_isClaim -/
noncomputable def h_impl_isClaim : Hint := { tab, hn := [], loops := [], outs := [], ords := [] }
noncomputable def sg_impl_isClaim : List AK := [.v tQILLIE .k, .v (.int .i64) .k]
noncomputable def F_impl_isClaim (N : Nat) (x : AVals sg_impl_isClaim) (kf : Ret → Option Ret) : Option Ret := impl_isClaim N x.1 x.2.1 (fun r0 => kf ⟨[⟨.bool, .k, r0⟩], []⟩)
noncomputable def run_impl_isClaim (N : Nat) := runOf sg_impl_isClaim (F_impl_isClaim N)
noncomputable def es_impl_isClaim (N : Nat) : List Entry := [⟨89, [.val, .val, .val], (run_impl_InRange N)⟩]
noncomputable def body_impl_isClaim : Code := match Tryd.f90.body with | some c => c | none => .skip
noncomputable def L_impl_isClaim (N n : Nat) (key : Nat) (S : St) (K : Ks) : Option Ret := none
theorem L0_impl_isClaim (N key : Nat) (S : St) (K : Ks) : L_impl_isClaim N 0 key S K = none := rfl
theorem ls_impl_isClaim : loopsIn body_impl_isClaim = [] := by kernel_rfl
theorem fn_impl_isClaim (N : Nat) (x : AVals sg_impl_isClaim) (kf : Ret → Option Ret) : F_impl_isClaim N x kf = peFunc h_impl_isClaim (Orc.of (es_impl_isClaim N)) (L_impl_isClaim N N) Tryd.f90 (ashape sg_impl_isClaim x) kf := by kernel_rfl
theorem sd_impl_isClaim {Γ : Gl} (hΓ : TabΓ Γ) (N : Nat) : Sound Γ Tryd.prog 90 (run_impl_isClaim N) := fun_ok2 (hh := h_impl_isClaim) mixed tab_ok (es := es_impl_isClaim N) ⟨sd_impl_InRange hΓ N, trivial⟩ (fn := Tryd.f90) (body := body_impl_isClaim) (by kernel_rfl) (by kernel_rfl) (by kernel_rfl) (by kernel_rfl) (by kernel_rfl) (Lf := L_impl_isClaim N) (L0_impl_isClaim N) ls_impl_isClaim trivial (N := N) (by kernel_rfl) (fn_impl_isClaim N) (.inl (by kernel_rfl))
/-! cmp_isNaN_int -/
noncomputable def h_cmp_isNaN_int : Hint := { tab, hn := [], loops := [], outs := [], ords := [] }
noncomputable def sg_cmp_isNaN_int : List AK := [.v (.int .i64) .k]
noncomputable def F_cmp_isNaN_int (N : Nat) (x : AVals sg_cmp_isNaN_int) (kf : Ret → Option Ret) : Option Ret := cmp_isNaN_int N x.1 (fun r0 => kf ⟨[⟨.bool, .k, r0⟩], []⟩)
noncomputable def run_cmp_isNaN_int (N : Nat) := runOf sg_cmp_isNaN_int (F_cmp_isNaN_int N)
noncomputable def es_cmp_isNaN_int (N : Nat) : List Entry := []
noncomputable def body_cmp_isNaN_int : Code := match Tryd.f114.body with | some c => c | none => .skip
noncomputable def L_cmp_isNaN_int (N n : Nat) (key : Nat) (S : St) (K : Ks) : Option Ret := none
theorem L0_cmp_isNaN_int (N key : Nat) (S : St) (K : Ks) : L_cmp_isNaN_int N 0 key S K = none := rfl
theorem ls_cmp_isNaN_int : loopsIn body_cmp_isNaN_int = [] := by kernel_rfl
theorem fn_cmp_isNaN_int (N : Nat) (x : AVals sg_cmp_isNaN_int) (kf : Ret → Option Ret) : F_cmp_isNaN_int N x kf = peFunc h_cmp_isNaN_int (Orc.of (es_cmp_isNaN_int N)) (L_cmp_isNaN_int N N) Tryd.f114 (ashape sg_cmp_isNaN_int x) kf := by kernel_rfl
theorem sd_cmp_isNaN_int {Γ : Gl} (hΓ : TabΓ Γ) (N : Nat) : Sound Γ Tryd.prog 114 (run_cmp_isNaN_int N) := fun_ok2 (hh := h_cmp_isNaN_int) mixed tab_ok (es := es_cmp_isNaN_int N) trivial (fn := Tryd.f114) (body := body_cmp_isNaN_int) (by kernel_rfl) (by kernel_rfl) (by kernel_rfl) (by kernel_rfl) (by kernel_rfl) (Lf := L_cmp_isNaN_int N) (L0_cmp_isNaN_int N) ls_cmp_isNaN_int trivial (N := N) (by kernel_rfl) (fn_cmp_isNaN_int N) (.inl (by kernel_rfl))
/-! cmp_Compare_int -/
noncomputable def h_cmp_Compare_int : Hint := { tab, hn := [], loops := [], outs := [], ords := [] }
noncomputable def sg_cmp_Compare_int : List AK := [.v (.int .i64) .k, .v (.int .i64) .k]
noncomputable def F_cmp_Compare_int (N : Nat) (x : AVals sg_cmp_Compare_int) (kf : Ret → Option Ret) : Option Ret := cmp_Compare_int N x.1 x.2.1 (fun r0 => kf ⟨[⟨(.int .i64), .k, r0⟩], []⟩)
noncomputable def run_cmp_Compare_int (N : Nat) := runOf sg_cmp_Compare_int (F_cmp_Compare_int N)
noncomputable def es_cmp_Compare_int (N : Nat) : List Entry := [⟨114, [.val], (run_cmp_isNaN_int N)⟩]
noncomputable def body_cmp_Compare_int : Code := match Tryd.f106.body with | some c => c | none => .skip
noncomputable def L_cmp_Compare_int (N n : Nat) (key : Nat) (S : St) (K : Ks) : Option Ret := none
theorem L0_cmp_Compare_int (N key : Nat) (S : St) (K : Ks) : L_cmp_Compare_int N 0 key S K = none := rfl
theorem ls_cmp_Compare_int : loopsIn body_cmp_Compare_int = [] := by kernel_rfl
theorem fn_cmp_Compare_int (N : Nat) (x : AVals sg_cmp_Compare_int) (kf : Ret → Option Ret) : F_cmp_Compare_int N x kf = peFunc h_cmp_Compare_int (Orc.of (es_cmp_Compare_int N)) (L_cmp_Compare_int N N) Tryd.f106 (ashape sg_cmp_Compare_int x) kf := by kernel_rfl
theorem sd_cmp_Compare_int {Γ : Gl} (hΓ : TabΓ Γ) (N : Nat) : Sound Γ Tryd.prog 106 (run_cmp_Compare_int N) := fun_ok2 (hh := h_cmp_Compare_int) mixed tab_ok (es := es_cmp_Compare_int N) ⟨sd_cmp_isNaN_int hΓ N, trivial⟩ (fn := Tryd.f106) (body := body_cmp_Compare_int) (by kernel_rfl) (by kernel_rfl) (by kernel_rfl) (by kernel_rfl) (by kernel_rfl) (Lf := L_cmp_Compare_int N) (L0_cmp_Compare_int N) ls_cmp_Compare_int trivial (N := N) (by kernel_rfl) (fn_cmp_Compare_int N) (.inl (by kernel_rfl))
/-! slices_Compare_int -/
noncomputable def ks_slices_Compare_int_l2 : List Kd := [.v (.sl (.int .i64)) .k, .v (.sl (.int .i64)) .k, dK, dK, dK, dK, dK, dK, dK, .v (.sl (.int .i64)) .k, .v (.int .i64) .k, .v (.int .i64) .k, dK, dK, dK, dK, dK, dK, dK, dK, dK, dK, dK, dK, dK, dK, dK, dK, dK, dK, dK, dK, dK, dK, dK, dK]
noncomputable def ko_slices_Compare_int_l2_0 : List Kd := [.v (.sl (.int .i64)) .k, .v (.sl (.int .i64)) .k, dK, dK, dK, dK, dK, dK, dK, dK, dK, dK, dK, dK, dK, dK, dK, dK, dK, dK, dK, dK, dK, dK, dK, dK, dK, dK, dK, dK, dK, dK, dK, dK, dK, dK]
noncomputable def ko_slices_Compare_int_l2_1 : List Kd := [dK, dK, dK, dK, .v (.int .i64) .k, dK, dK, dK, dK, dK, dK, dK, dK, dK, dK, dK, dK, dK, dK, dK, dK, dK, dK, dK, dK, dK, dK, dK, dK, dK, dK, dK, dK, dK, dK, dK]
noncomputable def h_slices_Compare_int : Hint := { tab, hn := [], loops := [(2, ks_slices_Compare_int_l2)], outs := [(2, 2, ko_slices_Compare_int_l2_0), (2, 1, ko_slices_Compare_int_l2_1)], ords := [] }
noncomputable def sg_slices_Compare_int : List AK := [.v (.sl (.int .i64)) .k, .v (.sl (.int .i64)) .k]
noncomputable def F_slices_Compare_int (N : Nat) (x : AVals sg_slices_Compare_int) (kf : Ret → Option Ret) : Option Ret := slices_Compare_int N x.1 x.2.1 (fun r0 => kf ⟨[⟨(.int .i64), .k, r0⟩], []⟩)
noncomputable def run_slices_Compare_int (N : Nat) := runOf sg_slices_Compare_int (F_slices_Compare_int N)
noncomputable def es_slices_Compare_int (N : Nat) : List Entry := [⟨106, [.val, .val], (run_cmp_Compare_int N)⟩]
noncomputable def body_slices_Compare_int : Code := match Tryd.f91.body with | some c => c | none => .skip
noncomputable def L_slices_Compare_int (N n : Nat) (key : Nat) (S : St) (K : Ks) : Option Ret := bif Nat.beq key 2 then withVals ks_slices_Compare_int_l2 S (fun x => slices_Compare_int_l2 N x.1 x.2.1 x.2.2.1 x.2.2.2.1 n (K (.x 0) (shape ko_slices_Compare_int_l2_0 (x.1, x.2.1, ()))) (fun z0 => K .r (shape ko_slices_Compare_int_l2_1 (z0, ()))) x.2.2.2.2.1) else none
theorem L0_slices_Compare_int (N key : Nat) (S : St) (K : Ks) : L_slices_Compare_int N 0 key S K = none := (bif0 (withVals0 fun _ => rfl) rfl)
noncomputable def c_slices_Compare_int_0 : Code := (loopsIn body_slices_Compare_int).getD 0 .skip
theorem ls_slices_Compare_int : loopsIn body_slices_Compare_int = [c_slices_Compare_int_0] := by kernel_rfl
theorem rd_slices_Compare_int_2 (N n : Nat) (x : Vals ks_slices_Compare_int_l2) (K : Ks) : L_slices_Compare_int N (n + 1) 2 (shape ks_slices_Compare_int_l2 x) (h_slices_Compare_int.onOut 2 K) = peRound h_slices_Compare_int (Orc.of (es_slices_Compare_int N)) (mixL (L_slices_Compare_int N) N n 2) c_slices_Compare_int_0 (shape ks_slices_Compare_int_l2 x) (h_slices_Compare_int.onOut 2 K) := by kernel_rfl
theorem fn_slices_Compare_int (N : Nat) (x : AVals sg_slices_Compare_int) (kf : Ret → Option Ret) : F_slices_Compare_int N x kf = peFunc h_slices_Compare_int (Orc.of (es_slices_Compare_int N)) (L_slices_Compare_int N N) Tryd.f91 (ashape sg_slices_Compare_int x) kf := by kernel_rfl
theorem sd_slices_Compare_int {Γ : Gl} (hΓ : TabΓ Γ) (N : Nat) : Sound Γ Tryd.prog 91 (run_slices_Compare_int N) := fun_ok2 (hh := h_slices_Compare_int) mixed tab_ok (es := es_slices_Compare_int N) ⟨sd_cmp_Compare_int hΓ N, trivial⟩ (fn := Tryd.f91) (body := body_slices_Compare_int) (by kernel_rfl) (by kernel_rfl) (by kernel_rfl) (by kernel_rfl) (by kernel_rfl) (Lf := L_slices_Compare_int N) (L0_slices_Compare_int N) ls_slices_Compare_int (round_cons (key := 2) (ks := ks_slices_Compare_int_l2) (by kernel_rfl) (by kernel_rfl) (rd_slices_Compare_int_2 N) trivial) (N := N) (by kernel_rfl) (fn_slices_Compare_int N) (.inl (by kernel_rfl))
/-! impl_IsGraph -/
noncomputable def ks_impl_IsGraph_l4 : List Kd := [dK, .v (.ptr tQILLIE) (.o 37 none .k), dK, dK, dK, dK, dK, dK, dK, dK, .v (.sl (.sl (.int .i64))) .k, .v (.int .i64) .k, .v (.int .i64) .k, dK, dK, dK, dK, dK, dK, dK, dK, dK, dK, dK, dK, dK, dK, dK, dK, dK, dK, dK, dK, dK, dK, dK, dK, dK, dK, dK, dK, dK, dK, dK, dK, dK, dK, dK, dK, dK, dK, dK]
noncomputable def ko_impl_IsGraph_l4_0 : List Kd := [dK, dK, dK, dK, dK, dK, dK, dK, dK, dK, dK, dK, dK, dK, dK, dK, dK, dK, dK, dK, dK, dK, dK, dK, dK, dK, dK, dK, dK, dK, dK, dK, dK, dK, dK, dK, dK, dK, dK, dK, dK, dK, dK, dK, dK, dK, dK, dK, dK, dK, dK, dK]
noncomputable def ko_impl_IsGraph_l4_1 : List Kd := [dK, dK, .v .bool .k, dK, dK, dK, dK, dK, dK, dK, dK, dK, dK, dK, dK, dK, dK, dK, dK, dK, dK, dK, dK, dK, dK, dK, dK, dK, dK, dK, dK, dK, dK, dK, dK, dK, dK, dK, dK, dK, dK, dK, dK, dK, dK, dK, dK, dK, dK, dK, dK, dK]
noncomputable def h_impl_IsGraph : Hint := { tab, hn := [], loops := [(4, ks_impl_IsGraph_l4)], outs := [(4, 2, ko_impl_IsGraph_l4_0), (4, 1, ko_impl_IsGraph_l4_1)], ords := [(6, (OT.seq [0, 1, 2, 3, 4, 5, 6, 7, 8, 9, 10, 11, 12, 13, 14, 15, 16, 17, 18, 19, 20, 21, 22, 23, 24, 25, 26, 27, 28, 29, 30, 31, 32, 33] .done))] }
noncomputable def sg_impl_IsGraph : List AK := [.v tQILLIE .k]
noncomputable def F_impl_IsGraph (N : Nat) (x : AVals sg_impl_IsGraph) (kf : Ret → Option Ret) : Option Ret := impl_IsGraph N x.1 (fun r0 => kf ⟨[⟨.bool, .k, r0⟩], []⟩)
noncomputable def run_impl_IsGraph (N : Nat) := runOf sg_impl_IsGraph (F_impl_IsGraph N)
noncomputable def es_impl_IsGraph (N : Nat) : List Entry := [⟨89, [.val, .val, .val], (run_impl_InRange N)⟩, ⟨90, [.val, .val], (run_impl_isClaim N)⟩, ⟨91, [.val, .val], (run_slices_Compare_int N)⟩]
noncomputable def body_impl_IsGraph : Code := match Tryd.f56.body with | some c => c | none => .skip
noncomputable def L_impl_IsGraph (N n : Nat) (key : Nat) (S : St) (K : Ks) : Option Ret := bif Nat.beq key 4 then withVals ks_impl_IsGraph_l4 S (fun x => impl_IsGraph_l4 N x.1 x.2.1 x.2.2.1 n (K (.x 0) (shape ko_impl_IsGraph_l4_0 ())) (fun z0 => K .r (shape ko_impl_IsGraph_l4_1 (z0, ()))) x.2.2.2.1) else none
theorem L0_impl_IsGraph (N key : Nat) (S : St) (K : Ks) : L_impl_IsGraph N 0 key S K = none := (bif0 (withVals0 fun _ => rfl) rfl)
noncomputable def c_impl_IsGraph_0 : Code := (loopsIn body_impl_IsGraph).getD 0 .skip
theorem ls_impl_IsGraph : loopsIn body_impl_IsGraph = [c_impl_IsGraph_0] := by kernel_rfl
theorem rd_impl_IsGraph_4 (N n : Nat) (x : Vals ks_impl_IsGraph_l4) (K : Ks) : L_impl_IsGraph N (n + 1) 4 (shape ks_impl_IsGraph_l4 x) (h_impl_IsGraph.onOut 4 K) = peRound h_impl_IsGraph (Orc.of (es_impl_IsGraph N)) (mixL (L_impl_IsGraph N) N n 4) c_impl_IsGraph_0 (shape ks_impl_IsGraph_l4 x) (h_impl_IsGraph.onOut 4 K) := by kernel_rfl
theorem fn_impl_IsGraph (N : Nat) (x : AVals sg_impl_IsGraph) (kf : Ret → Option Ret) : F_impl_IsGraph N x kf = peFunc h_impl_IsGraph (Orc.of (es_impl_IsGraph N)) (L_impl_IsGraph N N) Tryd.f56 (ashape sg_impl_IsGraph x) kf := by kernel_rfl
theorem sd_impl_IsGraph {Γ : Gl} (hΓ : TabΓ Γ) (N : Nat) : Sound Γ Tryd.prog 56 (run_impl_IsGraph N) := fun_ok2 (hh := h_impl_IsGraph) mixed tab_ok (es := es_impl_IsGraph N) ⟨sd_impl_InRange hΓ N, ⟨sd_impl_isClaim hΓ N, ⟨sd_slices_Compare_int hΓ N, trivial⟩⟩⟩ (fn := Tryd.f56) (body := body_impl_IsGraph) (by kernel_rfl) (by kernel_rfl) (by kernel_rfl) (by kernel_rfl) (by kernel_rfl) (Lf := L_impl_IsGraph N) (L0_impl_IsGraph N) ls_impl_IsGraph (round_cons (key := 4) (ks := ks_impl_IsGraph_l4) (by kernel_rfl) (by kernel_rfl) (rd_impl_IsGraph_4 N) trivial) (N := N) (by kernel_rfl) (fn_impl_IsGraph N) (.inl (by kernel_rfl))
/-! impl_GraphText -/
noncomputable def ks_impl_GraphText_l5 : List Kd := [dK, dK, dK, .v .str .k, dK, dK, dK, dK, dK, dK, dK, dK, dK, .v (.sl (.sl (.int .i64))) .k, .v (.int .i64) .k, .v (.int .i64) .k, dK, dK, dK, dK, dK, dK, dK, dK, dK, dK, dK, dK, dK, dK, dK, dK, dK, dK]
noncomputable def ko_impl_GraphText_l5_0 : List Kd := [dK, dK, dK, .v .str .k, dK, dK, dK, dK, dK, dK, dK, dK, dK, dK, dK, dK, dK, dK, dK, dK, dK, dK, dK, dK, dK, dK, dK, dK, dK, dK, dK, dK, dK, dK]
noncomputable def h_impl_GraphText : Hint := { tab, hn := [], loops := [(5, ks_impl_GraphText_l5)], outs := [(5, 2, ko_impl_GraphText_l5_0)], ords := [(7, (OT.seq [0, 1, 2, 3, 7, 8, 9, 4, 5, 6, 10, 11, 12, 13] .done))] }
noncomputable def sg_impl_GraphText : List AK := [.v tQILLIE .k]
noncomputable def F_impl_GraphText (N : Nat) (x : AVals sg_impl_GraphText) (kf : Ret → Option Ret) : Option Ret := impl_GraphText N x.1 (fun r0 => kf ⟨[⟨.str, .k, r0⟩], []⟩)
noncomputable def run_impl_GraphText (N : Nat) := runOf sg_impl_GraphText (F_impl_GraphText N)
noncomputable def es_impl_GraphText (N : Nat) : List Entry := [⟨56, [.val], (run_impl_IsGraph N)⟩, ⟨51, [.val], (run_impl_FormatInt N)⟩]
noncomputable def body_impl_GraphText : Code := match Tryd.f23.body with | some c => c | none => .skip
noncomputable def L_impl_GraphText (N n : Nat) (key : Nat) (S : St) (K : Ks) : Option Ret := bif Nat.beq key 5 then withVals ks_impl_GraphText_l5 S (fun x => impl_GraphText_l5 N x.2.1 x.2.2.1 n (fun z0 => K (.x 0) (shape ko_impl_GraphText_l5_0 (z0, ()))) x.1 x.2.2.2.1) else none
theorem L0_impl_GraphText (N key : Nat) (S : St) (K : Ks) : L_impl_GraphText N 0 key S K = none := (bif0 (withVals0 fun _ => rfl) rfl)
noncomputable def c_impl_GraphText_0 : Code := (loopsIn body_impl_GraphText).getD 0 .skip
theorem ls_impl_GraphText : loopsIn body_impl_GraphText = [c_impl_GraphText_0] := by kernel_rfl
theorem rd_impl_GraphText_5 (N n : Nat) (x : Vals ks_impl_GraphText_l5) (K : Ks) : L_impl_GraphText N (n + 1) 5 (shape ks_impl_GraphText_l5 x) (h_impl_GraphText.onOut 5 K) = peRound h_impl_GraphText (Orc.of (es_impl_GraphText N)) (mixL (L_impl_GraphText N) N n 5) c_impl_GraphText_0 (shape ks_impl_GraphText_l5 x) (h_impl_GraphText.onOut 5 K) := by kernel_rfl
theorem fn_impl_GraphText (N : Nat) (x : AVals sg_impl_GraphText) (kf : Ret → Option Ret) : F_impl_GraphText N x kf = peFunc h_impl_GraphText (Orc.of (es_impl_GraphText N)) (L_impl_GraphText N N) Tryd.f23 (ashape sg_impl_GraphText x) kf := by kernel_rfl
theorem sd_impl_GraphText {Γ : Gl} (hΓ : TabΓ Γ) (N : Nat) : Sound Γ Tryd.prog 23 (run_impl_GraphText N) := fun_ok2 (hh := h_impl_GraphText) mixed tab_ok (es := es_impl_GraphText N) ⟨sd_impl_IsGraph hΓ N, ⟨sd_impl_FormatInt hΓ N, trivial⟩⟩ (fn := Tryd.f23) (body := body_impl_GraphText) (by kernel_rfl) (by kernel_rfl) (by kernel_rfl) (by kernel_rfl) (by kernel_rfl) (Lf := L_impl_GraphText N) (L0_impl_GraphText N) ls_impl_GraphText (round_cons (key := 5) (ks := ks_impl_GraphText_l5) (by kernel_rfl) (by kernel_rfl) (rd_impl_GraphText_5 N) trivial) (N := N) (by kernel_rfl) (fn_impl_GraphText N) (.inl (by kernel_rfl))
/-! laws_eqGraph -/
noncomputable def h_laws_eqGraph : Hint := { tab, hn := [], loops := [], outs := [], ords := [] }
noncomputable def sg_laws_eqGraph : List AK := [.v tQILLIE .k, .v tQILLIE .k]
noncomputable def F_laws_eqGraph (N : Nat) (x : AVals sg_laws_eqGraph) (kf : Ret → Option Ret) : Option Ret := laws_eqGraph N x.1 x.2.1 (fun r0 => kf ⟨[⟨.bool, .k, r0⟩], []⟩)
noncomputable def run_laws_eqGraph (N : Nat) := runOf sg_laws_eqGraph (F_laws_eqGraph N)
noncomputable def es_laws_eqGraph (N : Nat) : List Entry := [⟨19, [.val, .val], (run_laws_eqIntSS N)⟩]
noncomputable def body_laws_eqGraph : Code := match Tryd.f24.body with | some c => c | none => .skip
noncomputable def L_laws_eqGraph (N n : Nat) (key : Nat) (S : St) (K : Ks) : Option Ret := none
theorem L0_laws_eqGraph (N key : Nat) (S : St) (K : Ks) : L_laws_eqGraph N 0 key S K = none := rfl
theorem ls_laws_eqGraph : loopsIn body_laws_eqGraph = [] := by kernel_rfl
theorem fn_laws_eqGraph (N : Nat) (x : AVals sg_laws_eqGraph) (kf : Ret → Option Ret) : F_laws_eqGraph N x kf = peFunc h_laws_eqGraph (Orc.of (es_laws_eqGraph N)) (L_laws_eqGraph N N) Tryd.f24 (ashape sg_laws_eqGraph x) kf := by kernel_rfl
theorem sd_laws_eqGraph {Γ : Gl} (hΓ : TabΓ Γ) (N : Nat) : Sound Γ Tryd.prog 24 (run_laws_eqGraph N) := fun_ok2 (hh := h_laws_eqGraph) mixed tab_ok (es := es_laws_eqGraph N) ⟨sd_laws_eqIntSS hΓ N, trivial⟩ (fn := Tryd.f24) (body := body_laws_eqGraph) (by kernel_rfl) (by kernel_rfl) (by kernel_rfl) (by kernel_rfl) (by kernel_rfl) (Lf := L_laws_eqGraph N) (L0_laws_eqGraph N) ls_laws_eqGraph trivial (N := N) (by kernel_rfl) (fn_laws_eqGraph N) (.inl (by kernel_rfl))
/-! laws_FnExactGraphText -/
noncomputable def h_laws_FnExactGraphText : Hint := { tab, hn := [], loops := [], outs := [], ords := [(10, (OT.seq [0, 1, 2, 3, 4] .done))] }
noncomputable def sg_laws_FnExactGraphText : List AK := [.v tQILLIE .k]
noncomputable def F_laws_FnExactGraphText (N : Nat) (x : AVals sg_laws_FnExactGraphText) (kf : Ret → Option Ret) : Option Ret := laws_FnExactGraphText N x.1 (fun r0 => kf ⟨[⟨.bool, .k, r0⟩], []⟩)
noncomputable def run_laws_FnExactGraphText (N : Nat) := runOf sg_laws_FnExactGraphText (F_laws_FnExactGraphText N)
noncomputable def es_laws_FnExactGraphText (N : Nat) : List Entry := [⟨20, [.val, .val], (run_laws_szGraph N)⟩, ⟨22, [.val], (run_laws_toGraph N)⟩, ⟨21, [.val], (run_spec_GraphText N)⟩, ⟨23, [.val], (run_impl_GraphText N)⟩, ⟨24, [.val, .val], (run_laws_eqGraph N)⟩]
noncomputable def body_laws_FnExactGraphText : Code := match Tryd.f5.body with | some c => c | none => .skip
noncomputable def L_laws_FnExactGraphText (N n : Nat) (key : Nat) (S : St) (K : Ks) : Option Ret := none
theorem L0_laws_FnExactGraphText (N key : Nat) (S : St) (K : Ks) : L_laws_FnExactGraphText N 0 key S K = none := rfl
theorem ls_laws_FnExactGraphText : loopsIn body_laws_FnExactGraphText = [] := by kernel_rfl
theorem fn_laws_FnExactGraphText (N : Nat) (x : AVals sg_laws_FnExactGraphText) (kf : Ret → Option Ret) : F_laws_FnExactGraphText N x kf = peFunc h_laws_FnExactGraphText (Orc.of (es_laws_FnExactGraphText N)) (L_laws_FnExactGraphText N N) Tryd.f5 (ashape sg_laws_FnExactGraphText x) kf := by kernel_rfl
theorem sd_laws_FnExactGraphText {Γ : Gl} (hΓ : TabΓ Γ) (N : Nat) : Sound Γ Tryd.prog 5 (run_laws_FnExactGraphText N) := fun_ok2 (hh := h_laws_FnExactGraphText) mixed tab_ok (es := es_laws_FnExactGraphText N) ⟨sd_laws_szGraph hΓ N, ⟨sd_laws_toGraph hΓ N, ⟨sd_spec_GraphText hΓ N, ⟨sd_impl_GraphText hΓ N, ⟨sd_laws_eqGraph hΓ N, trivial⟩⟩⟩⟩⟩ (fn := Tryd.f5) (body := body_laws_FnExactGraphText) (by kernel_rfl) (by kernel_rfl) (by kernel_rfl) (by kernel_rfl) (by kernel_rfl) (Lf := L_laws_FnExactGraphText N) (L0_laws_FnExactGraphText N) ls_laws_FnExactGraphText trivial (N := N) (by kernel_rfl) (fn_laws_FnExactGraphText N) (.inl (by kernel_rfl))
end Go.Pv.R
