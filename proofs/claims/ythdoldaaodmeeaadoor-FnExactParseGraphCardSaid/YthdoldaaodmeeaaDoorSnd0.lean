/- Each function of the program that the law reaches computes its plain function, part 0. -/
import Derived.Test.YthdoldaaodmeeaaDoorPlRes
import Derived.Test.YthdoldaaodmeeaaDoorSpl
import Derived.Test.YthdoldaaodmeeaaDoorProg
namespace Go.Pv.R
open Go.Proofs
set_option linter.unusedVariables false
set_option maxRecDepth 100000
noncomputable abbrev dK : Kd := .dead
noncomputable def tab : Tab := [⟨2, (.int .i64), 0, []⟩, ⟨3, (.int .i64), 0, []⟩, ⟨4, .bool, 0, []⟩, ⟨5, (.int .u8), 0, []⟩, ⟨9, .str, 0, []⟩, ⟨12, (.int .u64), 0, []⟩, ⟨21, (.int .i32), 0, []⟩, ⟨22, (.sl (.int .i64)), 3, []⟩, ⟨27, (.sl (.sl (.int .i64))), 22, []⟩, ⟨33, tQILLIE, 0, [3, 27]⟩, ⟨34, tQILLIE, 0, [3, 27]⟩, ⟨37, tQILLIE, 0, [3, 27]⟩, ⟨41, (.sl tQIIE), 90, []⟩, ⟨44, (.sl tQIIE), 88, []⟩, ⟨48, (.sl tQIIIE), 96, []⟩, ⟨51, (.sl tQIIIE), 94, []⟩, ⟨55, (.sl tQIIIIILIE), 100, []⟩, ⟨58, (.sl tQIIIIILIE), 101, []⟩, ⟨66, (.sl tQIILIE), 136, []⟩, ⟨67, (.sl tQIIIE), 142, []⟩, ⟨68, (.sl tQIIIIE), 146, []⟩, ⟨69, tQLQIIIIILIELQIILIELQIIELILQIIIELQIIIIEIE, 0, [55, 66, 41, 22, 67, 68, 3]⟩, ⟨70, tQLQIIIIILIELQIILIELQIIELILQIIIELQIIIIEIE, 0, [55, 66, 41, 22, 67, 68, 3]⟩, ⟨73, (.sl tQIILIE), 139, []⟩, ⟨74, (.sl tQIIIE), 138, []⟩, ⟨75, (.sl tQIIIIE), 144, []⟩, ⟨76, tQLQIIIIILIELQIILIELQIIELILQIIIELQIIIIEIE, 0, [58, 73, 44, 22, 74, 75, 3]⟩, ⟨77, tQLQIIIIILIELQIILIELQIIELILQIIIELQIIIIEIE, 0, [58, 73, 44, 22, 74, 75, 3]⟩, ⟨81, (.sl .str), 9, []⟩, ⟨87, tQIIE, 0, [3, 3]⟩, ⟨88, tQIIE, 0, [3, 3]⟩, ⟨90, tQIIE, 0, [3, 3]⟩, ⟨93, tQIIIE, 0, [3, 3, 3]⟩, ⟨94, tQIIIE, 0, [3, 3, 3]⟩, ⟨96, tQIIIE, 0, [3, 3, 3]⟩, ⟨99, tQIIIIILIE, 0, [3, 3, 3, 3, 3, 22]⟩, ⟨100, tQIIIIILIE, 0, [3, 3, 3, 3, 3, 22]⟩, ⟨101, tQIIIIILIE, 0, [3, 3, 3, 3, 3, 22]⟩, ⟨120, (.sl (.int .u8)), 5, []⟩, ⟨135, tQIILIE, 0, [3, 3, 22]⟩, ⟨136, tQIILIE, 0, [3, 3, 22]⟩, ⟨137, tQIIIE, 0, [3, 3, 3]⟩, ⟨138, tQIIIE, 0, [3, 3, 3]⟩, ⟨139, tQIILIE, 0, [3, 3, 22]⟩, ⟨142, tQIIIE, 0, [3, 3, 3]⟩, ⟨143, tQIIIIE, 0, [3, 3, 3, 3]⟩, ⟨144, tQIIIIE, 0, [3, 3, 3, 3]⟩, ⟨146, tQIIIIE, 0, [3, 3, 3, 3]⟩, ⟨164, (.int .u64), 0, []⟩, ⟨166, (.int .u64), 0, []⟩, ⟨171, (.int .u32), 0, []⟩]
theorem mixed : Tryd.prog.follows .mixedOrders = true := by kernel_rfl
theorem tab_ok : tabB Tryd.prog tab = true := by kernel_rfl
/-- What stands in the first blocks: Go's table of the powers of ten. -/
abbrev TabΓ (Γ : Gl) : Prop := PowTab Tryd.prog Γ
/-! spec_FormatInt -/
noncomputable def ks_spec_FormatInt_l5 : List Kd := [.v (.int .i64) .k, dK, dK, .v .str .k, .v (.int .i64) .k, dK, dK, dK, dK, dK, dK, dK, dK, dK, dK, dK, dK, dK, dK, dK, dK, dK, dK, dK, dK, dK, dK, dK, dK, dK, dK]
noncomputable def ko_spec_FormatInt_l5_0 : List Kd := [.v (.int .i64) .k, dK, dK, .v .str .k, dK, dK, dK, dK, dK, dK, dK, dK, dK, dK, dK, dK, dK, dK, dK, dK, dK, dK, dK, dK, dK, dK, dK, dK, dK, dK, dK]
noncomputable def h_spec_FormatInt : Hint := { tab, hn := [], loops := [(5, ks_spec_FormatInt_l5)], outs := [(5, 2, ko_spec_FormatInt_l5_0)], ords := [] }
noncomputable def sg_spec_FormatInt : List AK := [.v (.int .i64) .k]
noncomputable def F_spec_FormatInt (N : Nat) (x : AVals sg_spec_FormatInt) (kf : Ret → Option Ret) : Option Ret := spec_FormatInt N x.1 (fun r0 => kf ⟨[⟨.str, .k, r0⟩], []⟩)
noncomputable def run_spec_FormatInt (N : Nat) := runOf sg_spec_FormatInt (F_spec_FormatInt N)
noncomputable def es_spec_FormatInt (N : Nat) : List Entry := []
noncomputable def body_spec_FormatInt : Code := match Tryd.f49.body with | some c => c | none => .skip
noncomputable def L_spec_FormatInt (N n : Nat) (key : Nat) (S : St) (K : Ks) : Option Ret := bif Nat.beq key 5 then withVals ks_spec_FormatInt_l5 S (fun x => spec_FormatInt_l5 x.1 n (fun z0 => K (.x 0) (shape ko_spec_FormatInt_l5_0 (x.1, z0, ()))) x.2.1 x.2.2.1) else none
theorem L0_spec_FormatInt (N key : Nat) (S : St) (K : Ks) : L_spec_FormatInt N 0 key S K = none := (bif0 (withVals0 fun _ => rfl) rfl)
noncomputable def c_spec_FormatInt_0 : Code := (loopsIn body_spec_FormatInt).getD 0 .skip
theorem ls_spec_FormatInt : loopsIn body_spec_FormatInt = [c_spec_FormatInt_0] := by kernel_rfl
theorem rd_spec_FormatInt_5 (N n : Nat) (x : Vals ks_spec_FormatInt_l5) (K : Ks) : L_spec_FormatInt N (n + 1) 5 (shape ks_spec_FormatInt_l5 x) (h_spec_FormatInt.onOut 5 K) = peRound h_spec_FormatInt (Orc.of (es_spec_FormatInt N)) (mixL (L_spec_FormatInt N) N n 5) c_spec_FormatInt_0 (shape ks_spec_FormatInt_l5 x) (h_spec_FormatInt.onOut 5 K) := by kernel_rfl
theorem fn_spec_FormatInt (N : Nat) (x : AVals sg_spec_FormatInt) (kf : Ret → Option Ret) : F_spec_FormatInt N x kf = peFunc h_spec_FormatInt (Orc.of (es_spec_FormatInt N)) (L_spec_FormatInt N N) Tryd.f49 (ashape sg_spec_FormatInt x) kf := by kernel_rfl
theorem sd_spec_FormatInt {Γ : Gl} (hΓ : TabΓ Γ) (N : Nat) : Sound Γ Tryd.prog 49 (run_spec_FormatInt N) := fun_ok2 (hh := h_spec_FormatInt) mixed tab_ok (es := es_spec_FormatInt N) trivial (fn := Tryd.f49) (body := body_spec_FormatInt) (by kernel_rfl) (by kernel_rfl) (by kernel_rfl) (by kernel_rfl) (by kernel_rfl) (Lf := L_spec_FormatInt N) (L0_spec_FormatInt N) ls_spec_FormatInt (round_cons (key := 5) (ks := ks_spec_FormatInt_l5) (by kernel_rfl) (by kernel_rfl) (rd_spec_FormatInt_5 N) trivial) (N := N) (by kernel_rfl) (fn_spec_FormatInt N) (.inl (by kernel_rfl))
/-! strconv_Itoa: told by the shelf -/
def ren_strconv_Itoa : Go.Shelf.Ren := ⟨fun n => bif Nat.beq n 129 then 130 else bif Nat.beq n 171 then 84 else bif Nat.beq n 243 then 103 else bif Nat.beq n 246 then 111 else bif Nat.beq n 283 then 122 else bif Nat.beq n 284 then 123 else bif Nat.beq n 285 then 124 else bif Nat.beq n 286 then 125 else bif Nat.beq n 317 then 129 else bif Nat.beq n 318 then 131 else bif Nat.beq n 319 then 132 else bif Nat.beq n 320 then 133 else bif Nat.beq n 337 then 134 else bif Nat.beq n 338 then 135 else n, fun n => bif Nat.beq n 0 then 0 else bif Nat.beq n 2 then 2 else bif Nat.beq n 3 then 3 else bif Nat.beq n 4 then 4 else bif Nat.beq n 5 then 5 else bif Nat.beq n 9 then 9 else bif Nat.beq n 20 then 20 else bif Nat.beq n 37 then 120 else bif Nat.beq n 46 then 164 else bif Nat.beq n 51 then 171 else bif Nat.beq n 53 then 166 else bif Nat.beq n 171 then 165 else bif Nat.beq n 173 then 169 else bif Nat.beq n 212 then 175 else bif Nat.beq n 213 then 176 else bif Nat.beq n 232 then 183 else bif Nat.beq n 233 then 184 else n, fun n => bif Nat.beq n 17 then 1 else bif Nat.beq n 18 then 4 else bif Nat.beq n 19 then 5 else n⟩
theorem lays_strconv_Itoa : LaysM.n171 Tryd.prog ren_strconv_Itoa := { mixed := by kernel_rfl, f129 := by kernel_rfl, f171 := by kernel_rfl, f243 := by kernel_rfl, f246 := by kernel_rfl, f283 := by kernel_rfl, f284 := by kernel_rfl, f285 := by kernel_rfl, f286 := by kernel_rfl, f317 := by kernel_rfl, f318 := by kernel_rfl, f319 := by kernel_rfl, f320 := by kernel_rfl, f337 := by kernel_rfl, f338 := by kernel_rfl, t0 := by kernel_rfl, a0 := fun w => by kernel_rfl, z0 := fun w => by kernel_rfl, v0 := fun w => by kernel_rfl, t2 := by kernel_rfl, a2 := fun w => by kernel_rfl, z2 := fun w => by kernel_rfl, v2 := fun w => by kernel_rfl, t3 := by kernel_rfl, a3 := fun w => by kernel_rfl, z3 := fun w => by kernel_rfl, v3 := fun w => by kernel_rfl, t4 := by kernel_rfl, a4 := fun w => by kernel_rfl, z4 := fun w => by kernel_rfl, v4 := fun w => by kernel_rfl, t5 := by kernel_rfl, a5 := fun w => by kernel_rfl, z5 := fun w => by kernel_rfl, v5 := fun w => by kernel_rfl, t9 := by kernel_rfl, a9 := fun w => by kernel_rfl, z9 := fun w => by kernel_rfl, v9 := fun w => by kernel_rfl, t20 := by kernel_rfl, a20 := fun w => by kernel_rfl, z20 := fun w => by kernel_rfl, v20 := fun w => by kernel_rfl, t37 := by kernel_rfl, a37 := fun w => by kernel_rfl, z37 := fun w => by kernel_rfl, v37 := fun w => by kernel_rfl, t46 := by kernel_rfl, a46 := fun w => by kernel_rfl, z46 := fun w => by kernel_rfl, v46 := fun w => by kernel_rfl, t51 := by kernel_rfl, a51 := fun w => by kernel_rfl, z51 := fun w => by kernel_rfl, v51 := fun w => by kernel_rfl, t53 := by kernel_rfl, a53 := fun w => by kernel_rfl, z53 := fun w => by kernel_rfl, v53 := fun w => by kernel_rfl, t171 := by kernel_rfl, a171 := fun w => by kernel_rfl, z171 := fun w => by kernel_rfl, v171 := fun w => by kernel_rfl, t173 := by kernel_rfl, a173 := fun w => by kernel_rfl, z173 := fun w => by kernel_rfl, v173 := fun w => by kernel_rfl, t212 := by kernel_rfl, a212 := fun w => by kernel_rfl, z212 := fun w => by kernel_rfl, v212 := fun w => by kernel_rfl, t213 := by kernel_rfl, a213 := fun w => by kernel_rfl, z213 := fun w => by kernel_rfl, t232 := by kernel_rfl, a232 := fun w => by kernel_rfl, z232 := fun w => by kernel_rfl, v232 := fun w => by kernel_rfl, t233 := by kernel_rfl, a233 := fun w => by kernel_rfl, z233 := fun w => by kernel_rfl, v233 := fun w => by kernel_rfl, g17 := by kernel_rfl, g18 := by kernel_rfl, g19 := by kernel_rfl, i0 := by kernel_rfl, i2 := by kernel_rfl, i3 := by kernel_rfl, i4 := by kernel_rfl, i5 := by kernel_rfl, i9 := by kernel_rfl, i20 := by kernel_rfl, i37 := by kernel_rfl, i46 := by kernel_rfl, i51 := by kernel_rfl, i53 := by kernel_rfl, i171 := by kernel_rfl, i173 := by kernel_rfl, i212 := by kernel_rfl, i232 := by kernel_rfl, i233 := by kernel_rfl, m17 := by kernel_rfl, m18 := by kernel_rfl, m19 := by kernel_rfl }
noncomputable def sg_strconv_Itoa : List AK := [.v (.int .i64) .k]
noncomputable def F_strconv_Itoa (N : Nat) (x : AVals sg_strconv_Itoa) (kf : Ret → Option Ret) : Option Ret := strconv_Itoa N x.1 (fun r0 => kf ⟨[⟨.str, .k, r0⟩], []⟩)
noncomputable def run_strconv_Itoa (N : Nat) := runOf sg_strconv_Itoa (F_strconv_Itoa N)
theorem sd_strconv_Itoa {Γ : Gl} (hΓ : TabΓ Γ) (N : Nat) : Sound Γ Tryd.prog 84 (run_strconv_Itoa N) := sound_itoa lays_strconv_Itoa hΓ
/-! impl_FormatInt -/
noncomputable def h_impl_FormatInt : Hint := { tab, hn := [], loops := [], outs := [], ords := [] }
noncomputable def sg_impl_FormatInt : List AK := [.v (.int .i64) .k]
noncomputable def F_impl_FormatInt (N : Nat) (x : AVals sg_impl_FormatInt) (kf : Ret → Option Ret) : Option Ret := impl_FormatInt N x.1 (fun r0 => kf ⟨[⟨.str, .k, r0⟩], []⟩)
noncomputable def run_impl_FormatInt (N : Nat) := runOf sg_impl_FormatInt (F_impl_FormatInt N)
noncomputable def es_impl_FormatInt (N : Nat) : List Entry := [⟨84, [.val], (run_strconv_Itoa N)⟩]
noncomputable def body_impl_FormatInt : Code := match Tryd.f51.body with | some c => c | none => .skip
noncomputable def L_impl_FormatInt (N n : Nat) (key : Nat) (S : St) (K : Ks) : Option Ret := none
theorem L0_impl_FormatInt (N key : Nat) (S : St) (K : Ks) : L_impl_FormatInt N 0 key S K = none := rfl
theorem ls_impl_FormatInt : loopsIn body_impl_FormatInt = [] := by kernel_rfl
theorem fn_impl_FormatInt (N : Nat) (x : AVals sg_impl_FormatInt) (kf : Ret → Option Ret) : F_impl_FormatInt N x kf = peFunc h_impl_FormatInt (Orc.of (es_impl_FormatInt N)) (L_impl_FormatInt N N) Tryd.f51 (ashape sg_impl_FormatInt x) kf := by kernel_rfl
theorem sd_impl_FormatInt {Γ : Gl} (hΓ : TabΓ Γ) (N : Nat) : Sound Γ Tryd.prog 51 (run_impl_FormatInt N) := fun_ok2 (hh := h_impl_FormatInt) mixed tab_ok (es := es_impl_FormatInt N) ⟨sd_strconv_Itoa hΓ N, trivial⟩ (fn := Tryd.f51) (body := body_impl_FormatInt) (by kernel_rfl) (by kernel_rfl) (by kernel_rfl) (by kernel_rfl) (by kernel_rfl) (Lf := L_impl_FormatInt N) (L0_impl_FormatInt N) ls_impl_FormatInt trivial (N := N) (by kernel_rfl) (fn_impl_FormatInt N) (.inl (by kernel_rfl))
/-! laws_eqIntS -/
noncomputable def ks_laws_eqIntS_l4 : List Kd := [.v (.sl (.int .i64)) .k, .v (.sl (.int .i64)) .k, dK, dK, dK, .v (.int .i64) .k, dK, dK, dK, dK, dK, dK, dK, dK, dK, dK, dK, dK, dK, dK, dK, dK, dK, dK, dK, dK]
noncomputable def ko_laws_eqIntS_l4_0 : List Kd := [dK, dK, dK, dK, dK, dK, dK, dK, dK, dK, dK, dK, dK, dK, dK, dK, dK, dK, dK, dK, dK, dK, dK, dK, dK, dK]
noncomputable def ko_laws_eqIntS_l4_1 : List Kd := [dK, dK, dK, dK, .v .bool .k, dK, dK, dK, dK, dK, dK, dK, dK, dK, dK, dK, dK, dK, dK, dK, dK, dK, dK, dK, dK, dK]
noncomputable def h_laws_eqIntS : Hint := { tab, hn := [], loops := [(4, ks_laws_eqIntS_l4)], outs := [(4, 2, ko_laws_eqIntS_l4_0), (4, 1, ko_laws_eqIntS_l4_1)], ords := [(6, (OT.seq [0, 1, 2, 3, 4, 5, 6, 7, 8] .done))] }
noncomputable def sg_laws_eqIntS : List AK := [.v (.sl (.int .i64)) .k, .v (.sl (.int .i64)) .k]
noncomputable def F_laws_eqIntS (N : Nat) (x : AVals sg_laws_eqIntS) (kf : Ret → Option Ret) : Option Ret := laws_eqIntS N x.1 x.2.1 (fun r0 => kf ⟨[⟨.bool, .k, r0⟩], []⟩)
noncomputable def run_laws_eqIntS (N : Nat) := runOf sg_laws_eqIntS (F_laws_eqIntS N)
noncomputable def es_laws_eqIntS (N : Nat) : List Entry := []
noncomputable def body_laws_eqIntS : Code := match Tryd.f14.body with | some c => c | none => .skip
noncomputable def L_laws_eqIntS (N n : Nat) (key : Nat) (S : St) (K : Ks) : Option Ret := bif Nat.beq key 4 then withVals ks_laws_eqIntS_l4 S (fun x => laws_eqIntS_l4 x.1 x.2.1 n (K (.x 0) (shape ko_laws_eqIntS_l4_0 ())) (fun z0 => K .r (shape ko_laws_eqIntS_l4_1 (z0, ()))) x.2.2.1) else none
theorem L0_laws_eqIntS (N key : Nat) (S : St) (K : Ks) : L_laws_eqIntS N 0 key S K = none := (bif0 (withVals0 fun _ => rfl) rfl)
noncomputable def c_laws_eqIntS_0 : Code := (loopsIn body_laws_eqIntS).getD 0 .skip
theorem ls_laws_eqIntS : loopsIn body_laws_eqIntS = [c_laws_eqIntS_0] := by kernel_rfl
theorem rd_laws_eqIntS_4 (N n : Nat) (x : Vals ks_laws_eqIntS_l4) (K : Ks) : L_laws_eqIntS N (n + 1) 4 (shape ks_laws_eqIntS_l4 x) (h_laws_eqIntS.onOut 4 K) = peRound h_laws_eqIntS (Orc.of (es_laws_eqIntS N)) (mixL (L_laws_eqIntS N) N n 4) c_laws_eqIntS_0 (shape ks_laws_eqIntS_l4 x) (h_laws_eqIntS.onOut 4 K) := by kernel_rfl
theorem fn_laws_eqIntS (N : Nat) (x : AVals sg_laws_eqIntS) (kf : Ret → Option Ret) : F_laws_eqIntS N x kf = peFunc h_laws_eqIntS (Orc.of (es_laws_eqIntS N)) (L_laws_eqIntS N N) Tryd.f14 (ashape sg_laws_eqIntS x) kf := by kernel_rfl
theorem sd_laws_eqIntS {Γ : Gl} (hΓ : TabΓ Γ) (N : Nat) : Sound Γ Tryd.prog 14 (run_laws_eqIntS N) := fun_ok2 (hh := h_laws_eqIntS) mixed tab_ok (es := es_laws_eqIntS N) trivial (fn := Tryd.f14) (body := body_laws_eqIntS) (by kernel_rfl) (by kernel_rfl) (by kernel_rfl) (by kernel_rfl) (by kernel_rfl) (Lf := L_laws_eqIntS N) (L0_laws_eqIntS N) ls_laws_eqIntS (round_cons (key := 4) (ks := ks_laws_eqIntS_l4) (by kernel_rfl) (by kernel_rfl) (rd_laws_eqIntS_4 N) trivial) (N := N) (by kernel_rfl) (fn_laws_eqIntS N) (.inl (by kernel_rfl))
/-! laws_eqIntSS -/
noncomputable def ks_laws_eqIntSS_l4 : List Kd := [.v (.sl (.sl (.int .i64))) .k, .v (.sl (.sl (.int .i64))) .k, dK, dK, dK, .v (.int .i64) .k, dK, dK, dK, dK, dK, dK, dK, dK, dK, dK, dK, dK, dK, dK, dK, dK, dK, dK, dK, dK, dK]
noncomputable def ko_laws_eqIntSS_l4_0 : List Kd := [dK, dK, dK, dK, dK, dK, dK, dK, dK, dK, dK, dK, dK, dK, dK, dK, dK, dK, dK, dK, dK, dK, dK, dK, dK, dK, dK]
noncomputable def ko_laws_eqIntSS_l4_1 : List Kd := [dK, dK, dK, dK, .v .bool .k, dK, dK, dK, dK, dK, dK, dK, dK, dK, dK, dK, dK, dK, dK, dK, dK, dK, dK, dK, dK, dK, dK]
noncomputable def h_laws_eqIntSS : Hint := { tab, hn := [], loops := [(4, ks_laws_eqIntSS_l4)], outs := [(4, 2, ko_laws_eqIntSS_l4_0), (4, 1, ko_laws_eqIntSS_l4_1)], ords := [(6, (OT.seq [0, 1, 2, 3, 4, 5, 6, 7, 8, 9] .done))] }
noncomputable def sg_laws_eqIntSS : List AK := [.v (.sl (.sl (.int .i64))) .k, .v (.sl (.sl (.int .i64))) .k]
noncomputable def F_laws_eqIntSS (N : Nat) (x : AVals sg_laws_eqIntSS) (kf : Ret → Option Ret) : Option Ret := laws_eqIntSS N x.1 x.2.1 (fun r0 => kf ⟨[⟨.bool, .k, r0⟩], []⟩)
noncomputable def run_laws_eqIntSS (N : Nat) := runOf sg_laws_eqIntSS (F_laws_eqIntSS N)
noncomputable def es_laws_eqIntSS (N : Nat) : List Entry := [⟨14, [.val, .val], (run_laws_eqIntS N)⟩]
noncomputable def body_laws_eqIntSS : Code := match Tryd.f19.body with | some c => c | none => .skip
noncomputable def L_laws_eqIntSS (N n : Nat) (key : Nat) (S : St) (K : Ks) : Option Ret := bif Nat.beq key 4 then withVals ks_laws_eqIntSS_l4 S (fun x => laws_eqIntSS_l4 N x.1 x.2.1 n (K (.x 0) (shape ko_laws_eqIntSS_l4_0 ())) (fun z0 => K .r (shape ko_laws_eqIntSS_l4_1 (z0, ()))) x.2.2.1) else none
theorem L0_laws_eqIntSS (N key : Nat) (S : St) (K : Ks) : L_laws_eqIntSS N 0 key S K = none := (bif0 (withVals0 fun _ => rfl) rfl)
noncomputable def c_laws_eqIntSS_0 : Code := (loopsIn body_laws_eqIntSS).getD 0 .skip
theorem ls_laws_eqIntSS : loopsIn body_laws_eqIntSS = [c_laws_eqIntSS_0] := by kernel_rfl
theorem rd_laws_eqIntSS_4 (N n : Nat) (x : Vals ks_laws_eqIntSS_l4) (K : Ks) : L_laws_eqIntSS N (n + 1) 4 (shape ks_laws_eqIntSS_l4 x) (h_laws_eqIntSS.onOut 4 K) = peRound h_laws_eqIntSS (Orc.of (es_laws_eqIntSS N)) (mixL (L_laws_eqIntSS N) N n 4) c_laws_eqIntSS_0 (shape ks_laws_eqIntSS_l4 x) (h_laws_eqIntSS.onOut 4 K) := by kernel_rfl
theorem fn_laws_eqIntSS (N : Nat) (x : AVals sg_laws_eqIntSS) (kf : Ret → Option Ret) : F_laws_eqIntSS N x kf = peFunc h_laws_eqIntSS (Orc.of (es_laws_eqIntSS N)) (L_laws_eqIntSS N N) Tryd.f19 (ashape sg_laws_eqIntSS x) kf := by kernel_rfl
theorem sd_laws_eqIntSS {Γ : Gl} (hΓ : TabΓ Γ) (N : Nat) : Sound Γ Tryd.prog 19 (run_laws_eqIntSS N) := fun_ok2 (hh := h_laws_eqIntSS) mixed tab_ok (es := es_laws_eqIntSS N) ⟨sd_laws_eqIntS hΓ N, trivial⟩ (fn := Tryd.f19) (body := body_laws_eqIntSS) (by kernel_rfl) (by kernel_rfl) (by kernel_rfl) (by kernel_rfl) (by kernel_rfl) (Lf := L_laws_eqIntSS N) (L0_laws_eqIntSS N) ls_laws_eqIntSS (round_cons (key := 4) (ks := ks_laws_eqIntSS_l4) (by kernel_rfl) (by kernel_rfl) (rd_laws_eqIntSS_4 N) trivial) (N := N) (by kernel_rfl) (fn_laws_eqIntSS N) (.inl (by kernel_rfl))
/-! spec_l1In -/
noncomputable def h_spec_l1In : Hint := { tab, hn := [], loops := [], outs := [], ords := [] }
noncomputable def sg_spec_l1In : List AK := [.v (.int .i64) .k, .v (.int .i64) .k, .v (.int .i64) .k]
noncomputable def F_spec_l1In (N : Nat) (x : AVals sg_spec_l1In) (kf : Ret → Option Ret) : Option Ret := spec_l1In N x.1 x.2.1 x.2.2.1 (fun r0 => kf ⟨[⟨.bool, .k, r0⟩], []⟩)
noncomputable def run_spec_l1In (N : Nat) := runOf sg_spec_l1In (F_spec_l1In N)
noncomputable def es_spec_l1In (N : Nat) : List Entry := []
noncomputable def body_spec_l1In : Code := match Tryd.f88.body with | some c => c | none => .skip
noncomputable def L_spec_l1In (N n : Nat) (key : Nat) (S : St) (K : Ks) : Option Ret := none
theorem L0_spec_l1In (N key : Nat) (S : St) (K : Ks) : L_spec_l1In N 0 key S K = none := rfl
theorem ls_spec_l1In : loopsIn body_spec_l1In = [] := by kernel_rfl
theorem fn_spec_l1In (N : Nat) (x : AVals sg_spec_l1In) (kf : Ret → Option Ret) : F_spec_l1In N x kf = peFunc h_spec_l1In (Orc.of (es_spec_l1In N)) (L_spec_l1In N N) Tryd.f88 (ashape sg_spec_l1In x) kf := by kernel_rfl
theorem sd_spec_l1In {Γ : Gl} (hΓ : TabΓ Γ) (N : Nat) : Sound Γ Tryd.prog 88 (run_spec_l1In N) := fun_ok2 (hh := h_spec_l1In) mixed tab_ok (es := es_spec_l1In N) trivial (fn := Tryd.f88) (body := body_spec_l1In) (by kernel_rfl) (by kernel_rfl) (by kernel_rfl) (by kernel_rfl) (by kernel_rfl) (Lf := L_spec_l1In N) (L0_spec_l1In N) ls_spec_l1In trivial (N := N) (by kernel_rfl) (fn_spec_l1In N) (.inl (by kernel_rfl))
/-! spec_IsGraph -/
noncomputable def ks_spec_IsGraph_l2 : List Kd := [dK, .v (.ptr tQILLIE) (.o 37 none .k), dK, .v (.int .i64) .k, dK, dK, dK, dK, dK, dK, dK, dK, dK, dK, dK, dK, dK, dK, dK, dK, dK, dK, dK, dK, dK, dK, dK, dK, dK, dK, dK, dK, dK, dK, dK, dK, dK, dK, dK, dK, dK, dK, dK, dK, dK, dK, dK, dK, dK, dK, dK, dK, dK, dK, dK, dK, dK, dK, dK, dK, dK, dK, dK, dK, dK, dK, dK, dK, dK, dK, dK, dK, dK, dK, dK, dK, dK]
noncomputable def ko_spec_IsGraph_l2_0 : List Kd := [dK, .v (.ptr tQILLIE) (.o 37 none .k), dK, dK, dK, dK, dK, dK, dK, dK, dK, dK, dK, dK, dK, dK, dK, dK, dK, dK, dK, dK, dK, dK, dK, dK, dK, dK, dK, dK, dK, dK, dK, dK, dK, dK, dK, dK, dK, dK, dK, dK, dK, dK, dK, dK, dK, dK, dK, dK, dK, dK, dK, dK, dK, dK, dK, dK, dK, dK, dK, dK, dK, dK, dK, dK, dK, dK, dK, dK, dK, dK, dK, dK, dK, dK, dK]
noncomputable def ko_spec_IsGraph_l2_1 : List Kd := [dK, dK, .v .bool .k, dK, dK, dK, dK, dK, dK, dK, dK, dK, dK, dK, dK, dK, dK, dK, dK, dK, dK, dK, dK, dK, dK, dK, dK, dK, dK, dK, dK, dK, dK, dK, dK, dK, dK, dK, dK, dK, dK, dK, dK, dK, dK, dK, dK, dK, dK, dK, dK, dK, dK, dK, dK, dK, dK, dK, dK, dK, dK, dK, dK, dK, dK, dK, dK, dK, dK, dK, dK, dK, dK, dK, dK, dK, dK]
noncomputable def h_spec_IsGraph : Hint := { tab, hn := [], loops := [(2, ks_spec_IsGraph_l2)], outs := [(2, 2, ko_spec_IsGraph_l2_0), (2, 1, ko_spec_IsGraph_l2_1)], ords := [(5, (OT.seq [0, 1, 2, 3, 4, 5, 6, 7, 8, 9, 10, 11, 12, 13, 14, 15, 16, 17, 18, 19, 20, 21, 22] .done)), (9, (OT.seq [0, 1, 2, 3, 4, 5, 6, 7, 8, 9, 10, 11, 12, 13, 14, 15, 16, 17, 18, 19, 20, 21, 22, 23, 24] .done))] }
noncomputable def sg_spec_IsGraph : List AK := [.v tQILLIE .k]
noncomputable def F_spec_IsGraph (N : Nat) (x : AVals sg_spec_IsGraph) (kf : Ret → Option Ret) : Option Ret := spec_IsGraph N x.1 (fun r0 => kf ⟨[⟨.bool, .k, r0⟩], []⟩)
noncomputable def run_spec_IsGraph (N : Nat) := runOf sg_spec_IsGraph (F_spec_IsGraph N)
noncomputable def es_spec_IsGraph (N : Nat) : List Entry := [⟨88, [.val, .val, .val], (run_spec_l1In N)⟩]
noncomputable def body_spec_IsGraph : Code := match Tryd.f55.body with | some c => c | none => .skip
noncomputable def L_spec_IsGraph (N n : Nat) (key : Nat) (S : St) (K : Ks) : Option Ret := bif Nat.beq key 2 then withVals ks_spec_IsGraph_l2 S (fun x => spec_IsGraph_l2 N x.1 n (K (.x 0) (shape ko_spec_IsGraph_l2_0 (x.1, ()))) (fun z0 => K .r (shape ko_spec_IsGraph_l2_1 (z0, ()))) x.2.1) else none
theorem L0_spec_IsGraph (N key : Nat) (S : St) (K : Ks) : L_spec_IsGraph N 0 key S K = none := (bif0 (withVals0 fun _ => rfl) rfl)
noncomputable def c_spec_IsGraph_0 : Code := (loopsIn body_spec_IsGraph).getD 0 .skip
theorem ls_spec_IsGraph : loopsIn body_spec_IsGraph = [c_spec_IsGraph_0] := by kernel_rfl
theorem rd_spec_IsGraph_2 (N n : Nat) (x : Vals ks_spec_IsGraph_l2) (K : Ks) : L_spec_IsGraph N (n + 1) 2 (shape ks_spec_IsGraph_l2 x) (h_spec_IsGraph.onOut 2 K) = peRound h_spec_IsGraph (Orc.of (es_spec_IsGraph N)) (mixL (L_spec_IsGraph N) N n 2) c_spec_IsGraph_0 (shape ks_spec_IsGraph_l2 x) (h_spec_IsGraph.onOut 2 K) := by kernel_rfl
theorem fn_spec_IsGraph (N : Nat) (x : AVals sg_spec_IsGraph) (kf : Ret → Option Ret) : F_spec_IsGraph N x kf = peFunc h_spec_IsGraph (Orc.of (es_spec_IsGraph N)) (L_spec_IsGraph N N) Tryd.f55 (ashape sg_spec_IsGraph x) kf := by kernel_rfl
theorem sd_spec_IsGraph {Γ : Gl} (hΓ : TabΓ Γ) (N : Nat) : Sound Γ Tryd.prog 55 (run_spec_IsGraph N) := fun_ok2 (hh := h_spec_IsGraph) mixed tab_ok (es := es_spec_IsGraph N) ⟨sd_spec_l1In hΓ N, trivial⟩ (fn := Tryd.f55) (body := body_spec_IsGraph) (by kernel_rfl) (by kernel_rfl) (by kernel_rfl) (by kernel_rfl) (by kernel_rfl) (Lf := L_spec_IsGraph N) (L0_spec_IsGraph N) ls_spec_IsGraph (round_cons (key := 2) (ks := ks_spec_IsGraph_l2) (by kernel_rfl) (by kernel_rfl) (rd_spec_IsGraph_2 N) trivial) (N := N) (by kernel_rfl) (fn_spec_IsGraph N) (.inl (by kernel_rfl))
/-! spec_GraphText -/
noncomputable def ks_spec_GraphText_l5 : List Kd := [dK, .v (.ptr tQILLIE) (.o 37 none .k), dK, .v .str .k, .v (.int .i64) .k, dK, dK, dK, dK, dK, dK, dK, dK, dK, dK, dK, dK, dK, dK, dK, dK, dK, dK, dK, dK, dK, dK, dK, dK, dK, dK, dK, dK, dK, dK, dK, dK, dK, dK, dK]
noncomputable def ko_spec_GraphText_l5_0 : List Kd := [dK, dK, dK, .v .str .k, dK, dK, dK, dK, dK, dK, dK, dK, dK, dK, dK, dK, dK, dK, dK, dK, dK, dK, dK, dK, dK, dK, dK, dK, dK, dK, dK, dK, dK, dK, dK, dK, dK, dK, dK, dK]
noncomputable def h_spec_GraphText : Hint := { tab, hn := [], loops := [(5, ks_spec_GraphText_l5)], outs := [(5, 2, ko_spec_GraphText_l5_0)], ords := [(7, (OT.seq [0, 1, 2, 3, 4, 5, 6, 7, 8, 12, 13, 14, 15, 16, 17, 18, 9, 10, 11, 19, 20, 21] .done))] }
noncomputable def sg_spec_GraphText : List AK := [.v tQILLIE .k]
noncomputable def F_spec_GraphText (N : Nat) (x : AVals sg_spec_GraphText) (kf : Ret → Option Ret) : Option Ret := spec_GraphText N x.1 (fun r0 => kf ⟨[⟨.str, .k, r0⟩], []⟩)
noncomputable def run_spec_GraphText (N : Nat) := runOf sg_spec_GraphText (F_spec_GraphText N)
noncomputable def es_spec_GraphText (N : Nat) : List Entry := [⟨55, [.val], (run_spec_IsGraph N)⟩, ⟨49, [.val], (run_spec_FormatInt N)⟩]
noncomputable def body_spec_GraphText : Code := match Tryd.f21.body with | some c => c | none => .skip
noncomputable def L_spec_GraphText (N n : Nat) (key : Nat) (S : St) (K : Ks) : Option Ret := bif Nat.beq key 5 then withVals ks_spec_GraphText_l5 S (fun x => spec_GraphText_l5 N x.1 n (fun z0 => K (.x 0) (shape ko_spec_GraphText_l5_0 (z0, ()))) x.2.1 x.2.2.1) else none
theorem L0_spec_GraphText (N key : Nat) (S : St) (K : Ks) : L_spec_GraphText N 0 key S K = none := (bif0 (withVals0 fun _ => rfl) rfl)
noncomputable def c_spec_GraphText_0 : Code := (loopsIn body_spec_GraphText).getD 0 .skip
theorem ls_spec_GraphText : loopsIn body_spec_GraphText = [c_spec_GraphText_0] := by kernel_rfl
theorem rd_spec_GraphText_5 (N n : Nat) (x : Vals ks_spec_GraphText_l5) (K : Ks) : L_spec_GraphText N (n + 1) 5 (shape ks_spec_GraphText_l5 x) (h_spec_GraphText.onOut 5 K) = peRound h_spec_GraphText (Orc.of (es_spec_GraphText N)) (mixL (L_spec_GraphText N) N n 5) c_spec_GraphText_0 (shape ks_spec_GraphText_l5 x) (h_spec_GraphText.onOut 5 K) := by kernel_rfl
theorem fn_spec_GraphText (N : Nat) (x : AVals sg_spec_GraphText) (kf : Ret → Option Ret) : F_spec_GraphText N x kf = peFunc h_spec_GraphText (Orc.of (es_spec_GraphText N)) (L_spec_GraphText N N) Tryd.f21 (ashape sg_spec_GraphText x) kf := by kernel_rfl
theorem sd_spec_GraphText {Γ : Gl} (hΓ : TabΓ Γ) (N : Nat) : Sound Γ Tryd.prog 21 (run_spec_GraphText N) := fun_ok2 (hh := h_spec_GraphText) mixed tab_ok (es := es_spec_GraphText N) ⟨sd_spec_IsGraph hΓ N, ⟨sd_spec_FormatInt hΓ N, trivial⟩⟩ (fn := Tryd.f21) (body := body_spec_GraphText) (by kernel_rfl) (by kernel_rfl) (by kernel_rfl) (by kernel_rfl) (by kernel_rfl) (Lf := L_spec_GraphText N) (L0_spec_GraphText N) ls_spec_GraphText (round_cons (key := 5) (ks := ks_spec_GraphText_l5) (by kernel_rfl) (by kernel_rfl) (rd_spec_GraphText_5 N) trivial) (N := N) (by kernel_rfl) (fn_spec_GraphText N) (.inl (by kernel_rfl))
/-! impl_InRange -/
noncomputable def h_impl_InRange : Hint := { tab, hn := [], loops := [], outs := [], ords := [] }
noncomputable def sg_impl_InRange : List AK := [.v (.int .i64) .k, .v (.int .i64) .k, .v (.int .i64) .k]
noncomputable def F_impl_InRange (N : Nat) (x : AVals sg_impl_InRange) (kf : Ret → Option Ret) : Option Ret := impl_InRange N x.1 x.2.1 x.2.2.1 (fun r0 => kf ⟨[⟨.bool, .k, r0⟩], []⟩)
noncomputable def run_impl_InRange (N : Nat) := runOf sg_impl_InRange (F_impl_InRange N)
noncomputable def es_impl_InRange (N : Nat) : List Entry := []
noncomputable def body_impl_InRange : Code := match Tryd.f89.body with | some c => c | none => .skip
noncomputable def L_impl_InRange (N n : Nat) (key : Nat) (S : St) (K : Ks) : Option Ret := none
theorem L0_impl_InRange (N key : Nat) (S : St) (K : Ks) : L_impl_InRange N 0 key S K = none := rfl
theorem ls_impl_InRange : loopsIn body_impl_InRange = [] := by kernel_rfl
theorem fn_impl_InRange (N : Nat) (x : AVals sg_impl_InRange) (kf : Ret → Option Ret) : F_impl_InRange N x kf = peFunc h_impl_InRange (Orc.of (es_impl_InRange N)) (L_impl_InRange N N) Tryd.f89 (ashape sg_impl_InRange x) kf := by kernel_rfl
theorem sd_impl_InRange {Γ : Gl} (hΓ : TabΓ Γ) (N : Nat) : Sound Γ Tryd.prog 89 (run_impl_InRange N) := fun_ok2 (hh := h_impl_InRange) mixed tab_ok (es := es_impl_InRange N) trivial (fn := Tryd.f89) (body := body_impl_InRange) (by kernel_rfl) (by kernel_rfl) (by kernel_rfl) (by kernel_rfl) (by kernel_rfl) (Lf := L_impl_InRange N) (L0_impl_InRange N) ls_impl_InRange trivial (N := N) (by kernel_rfl) (fn_impl_InRange N) (.inl (by kernel_rfl))
/-! impl_isClaim -/
noncomputable def h_impl_isClaim : Hint := { tab, hn := [], loops := [], outs := [], ords := [] }
noncomputable def sg_impl_isClaim : List AK := [.v tQILLIE .k, .v (.int .i64) .k]
noncomputable def F_impl_isClaim (N : Nat) (x : AVals sg_impl_isClaim) (kf : Ret → Option Ret) : Option Ret := impl_isClaim N x.1 x.2.1 (fun r0 => kf ⟨[⟨.bool, .k, r0⟩], []⟩)
noncomputable def run_impl_isClaim (N : Nat) := runOf sg_impl_isClaim (F_impl_isClaim N)
noncomputable def es_impl_isClaim (N : Nat) : List Entry := [⟨89, [.val, .val, .val], (run_impl_InRange N)⟩]
noncomputable def body_impl_isClaim : Code := match Tryd.f90.body with | some c => c | none => .skip
noncomputable def L_impl_isClaim (N n : Nat) (key : Nat) (S : St) (K : Ks) : Option Ret := none
theorem L0_impl_isClaim (N key : Nat) (S : St) (K : Ks) : L_impl_isClaim N 0 key S K = none := rfl
theorem ls_impl_isClaim : loopsIn body_impl_isClaim = [] := by kernel_rfl
theorem fn_impl_isClaim (N : Nat) (x : AVals sg_impl_isClaim) (kf : Ret → Option Ret) : F_impl_isClaim N x kf = peFunc h_impl_isClaim (Orc.of (es_impl_isClaim N)) (L_impl_isClaim N N) Tryd.f90 (ashape sg_impl_isClaim x) kf := by kernel_rfl
theorem sd_impl_isClaim {Γ : Gl} (hΓ : TabΓ Γ) (N : Nat) : Sound Γ Tryd.prog 90 (run_impl_isClaim N) := fun_ok2 (hh := h_impl_isClaim) mixed tab_ok (es := es_impl_isClaim N) ⟨sd_impl_InRange hΓ N, trivial⟩ (fn := Tryd.f90) (body := body_impl_isClaim) (by kernel_rfl) (by kernel_rfl) (by kernel_rfl) (by kernel_rfl) (by kernel_rfl) (Lf := L_impl_isClaim N) (L0_impl_isClaim N) ls_impl_isClaim trivial (N := N) (by kernel_rfl) (fn_impl_isClaim N) (.inl (by kernel_rfl))
/-! cmp_isNaN_int -/
noncomputable def h_cmp_isNaN_int : Hint := { tab, hn := [], loops := [], outs := [], ords := [] }
noncomputable def sg_cmp_isNaN_int : List AK := [.v (.int .i64) .k]
noncomputable def F_cmp_isNaN_int (N : Nat) (x : AVals sg_cmp_isNaN_int) (kf : Ret → Option Ret) : Option Ret := cmp_isNaN_int N x.1 (fun r0 => kf ⟨[⟨.bool, .k, r0⟩], []⟩)
noncomputable def run_cmp_isNaN_int (N : Nat) := runOf sg_cmp_isNaN_int (F_cmp_isNaN_int N)
noncomputable def es_cmp_isNaN_int (N : Nat) : List Entry := []
noncomputable def body_cmp_isNaN_int : Code := match Tryd.f114.body with | some c => c | none => .skip
noncomputable def L_cmp_isNaN_int (N n : Nat) (key : Nat) (S : St) (K : Ks) : Option Ret := none
theorem L0_cmp_isNaN_int (N key : Nat) (S : St) (K : Ks) : L_cmp_isNaN_int N 0 key S K = none := rfl
theorem ls_cmp_isNaN_int : loopsIn body_cmp_isNaN_int = [] := by kernel_rfl
theorem fn_cmp_isNaN_int (N : Nat) (x : AVals sg_cmp_isNaN_int) (kf : Ret → Option Ret) : F_cmp_isNaN_int N x kf = peFunc h_cmp_isNaN_int (Orc.of (es_cmp_isNaN_int N)) (L_cmp_isNaN_int N N) Tryd.f114 (ashape sg_cmp_isNaN_int x) kf := by kernel_rfl
theorem sd_cmp_isNaN_int {Γ : Gl} (hΓ : TabΓ Γ) (N : Nat) : Sound Γ Tryd.prog 114 (run_cmp_isNaN_int N) := fun_ok2 (hh := h_cmp_isNaN_int) mixed tab_ok (es := es_cmp_isNaN_int N) trivial (fn := Tryd.f114) (body := body_cmp_isNaN_int) (by kernel_rfl) (by kernel_rfl) (by kernel_rfl) (by kernel_rfl) (by kernel_rfl) (Lf := L_cmp_isNaN_int N) (L0_cmp_isNaN_int N) ls_cmp_isNaN_int trivial (N := N) (by kernel_rfl) (fn_cmp_isNaN_int N) (.inl (by kernel_rfl))
/-! cmp_Compare_int -/
noncomputable def h_cmp_Compare_int : Hint := { tab, hn := [], loops := [], outs := [], ords := [] }
noncomputable def sg_cmp_Compare_int : List AK := [.v (.int .i64) .k, .v (.int .i64) .k]
noncomputable def F_cmp_Compare_int (N : Nat) (x : AVals sg_cmp_Compare_int) (kf : Ret → Option Ret) : Option Ret := cmp_Compare_int N x.1 x.2.1 (fun r0 => kf ⟨[⟨(.int .i64), .k, r0⟩], []⟩)
noncomputable def run_cmp_Compare_int (N : Nat) := runOf sg_cmp_Compare_int (F_cmp_Compare_int N)
noncomputable def es_cmp_Compare_int (N : Nat) : List Entry := [⟨114, [.val], (run_cmp_isNaN_int N)⟩]
noncomputable def body_cmp_Compare_int : Code := match Tryd.f106.body with | some c => c | none => .skip
noncomputable def L_cmp_Compare_int (N n : Nat) (key : Nat) (S : St) (K : Ks) : Option Ret := none
theorem L0_cmp_Compare_int (N key : Nat) (S : St) (K : Ks) : L_cmp_Compare_int N 0 key S K = none := rfl
theorem ls_cmp_Compare_int : loopsIn body_cmp_Compare_int = [] := by kernel_rfl
theorem fn_cmp_Compare_int (N : Nat) (x : AVals sg_cmp_Compare_int) (kf : Ret → Option Ret) : F_cmp_Compare_int N x kf = peFunc h_cmp_Compare_int (Orc.of (es_cmp_Compare_int N)) (L_cmp_Compare_int N N) Tryd.f106 (ashape sg_cmp_Compare_int x) kf := by kernel_rfl
theorem sd_cmp_Compare_int {Γ : Gl} (hΓ : TabΓ Γ) (N : Nat) : Sound Γ Tryd.prog 106 (run_cmp_Compare_int N) := fun_ok2 (hh := h_cmp_Compare_int) mixed tab_ok (es := es_cmp_Compare_int N) ⟨sd_cmp_isNaN_int hΓ N, trivial⟩ (fn := Tryd.f106) (body := body_cmp_Compare_int) (by kernel_rfl) (by kernel_rfl) (by kernel_rfl) (by kernel_rfl) (by kernel_rfl) (Lf := L_cmp_Compare_int N) (L0_cmp_Compare_int N) ls_cmp_Compare_int trivial (N := N) (by kernel_rfl) (fn_cmp_Compare_int N) (.inl (by kernel_rfl))
/-! slices_Compare_int -/
noncomputable def ks_slices_Compare_int_l2 : List Kd := [.v (.sl (.int .i64)) .k, .v (.sl (.int .i64)) .k, dK, dK, dK, dK, dK, dK, dK, .v (.sl (.int .i64)) .k, .v (.int .i64) .k, .v (.int .i64) .k, dK, dK, dK, dK, dK, dK, dK, dK, dK, dK, dK, dK, dK, dK, dK, dK, dK, dK, dK, dK, dK, dK, dK, dK]
noncomputable def ko_slices_Compare_int_l2_0 : List Kd := [.v (.sl (.int .i64)) .k, .v (.sl (.int .i64)) .k, dK, dK, dK, dK, dK, dK, dK, dK, dK, dK, dK, dK, dK, dK, dK, dK, dK, dK, dK, dK, dK, dK, dK, dK, dK, dK, dK, dK, dK, dK, dK, dK, dK, dK]
noncomputable def ko_slices_Compare_int_l2_1 : List Kd := [dK, dK, dK, dK, .v (.int .i64) .k, dK, dK, dK, dK, dK, dK, dK, dK, dK, dK, dK, dK, dK, dK, dK, dK, dK, dK, dK, dK, dK, dK, dK, dK, dK, dK, dK, dK, dK, dK, dK]
noncomputable def h_slices_Compare_int : Hint := { tab, hn := [], loops := [(2, ks_slices_Compare_int_l2)], outs := [(2, 2, ko_slices_Compare_int_l2_0), (2, 1, ko_slices_Compare_int_l2_1)], ords := [] }
noncomputable def sg_slices_Compare_int : List AK := [.v (.sl (.int .i64)) .k, .v (.sl (.int .i64)) .k]
noncomputable def F_slices_Compare_int (N : Nat) (x : AVals sg_slices_Compare_int) (kf : Ret → Option Ret) : Option Ret := slices_Compare_int N x.1 x.2.1 (fun r0 => kf ⟨[⟨(.int .i64), .k, r0⟩], []⟩)
noncomputable def run_slices_Compare_int (N : Nat) := runOf sg_slices_Compare_int (F_slices_Compare_int N)
noncomputable def es_slices_Compare_int (N : Nat) : List Entry := [⟨106, [.val, .val], (run_cmp_Compare_int N)⟩]
noncomputable def body_slices_Compare_int : Code := match Tryd.f91.body with | some c => c | none => .skip
noncomputable def L_slices_Compare_int (N n : Nat) (key : Nat) (S : St) (K : Ks) : Option Ret := bif Nat.beq key 2 then withVals ks_slices_Compare_int_l2 S (fun x => slices_Compare_int_l2 N x.1 x.2.1 x.2.2.1 x.2.2.2.1 n (K (.x 0) (shape ko_slices_Compare_int_l2_0 (x.1, x.2.1, ()))) (fun z0 => K .r (shape ko_slices_Compare_int_l2_1 (z0, ()))) x.2.2.2.2.1) else none
theorem L0_slices_Compare_int (N key : Nat) (S : St) (K : Ks) : L_slices_Compare_int N 0 key S K = none := (bif0 (withVals0 fun _ => rfl) rfl)
noncomputable def c_slices_Compare_int_0 : Code := (loopsIn body_slices_Compare_int).getD 0 .skip
theorem ls_slices_Compare_int : loopsIn body_slices_Compare_int = [c_slices_Compare_int_0] := by kernel_rfl
theorem rd_slices_Compare_int_2 (N n : Nat) (x : Vals ks_slices_Compare_int_l2) (K : Ks) : L_slices_Compare_int N (n + 1) 2 (shape ks_slices_Compare_int_l2 x) (h_slices_Compare_int.onOut 2 K) = peRound h_slices_Compare_int (Orc.of (es_slices_Compare_int N)) (mixL (L_slices_Compare_int N) N n 2) c_slices_Compare_int_0 (shape ks_slices_Compare_int_l2 x) (h_slices_Compare_int.onOut 2 K) := by kernel_rfl
theorem fn_slices_Compare_int (N : Nat) (x : AVals sg_slices_Compare_int) (kf : Ret → Option Ret) : F_slices_Compare_int N x kf = peFunc h_slices_Compare_int (Orc.of (es_slices_Compare_int N)) (L_slices_Compare_int N N) Tryd.f91 (ashape sg_slices_Compare_int x) kf := by kernel_rfl
theorem sd_slices_Compare_int {Γ : Gl} (hΓ : TabΓ Γ) (N : Nat) : Sound Γ Tryd.prog 91 (run_slices_Compare_int N) := fun_ok2 (hh := h_slices_Compare_int) mixed tab_ok (es := es_slices_Compare_int N) ⟨sd_cmp_Compare_int hΓ N, trivial⟩ (fn := Tryd.f91) (body := body_slices_Compare_int) (by kernel_rfl) (by kernel_rfl) (by kernel_rfl) (by kernel_rfl) (by kernel_rfl) (Lf := L_slices_Compare_int N) (L0_slices_Compare_int N) ls_slices_Compare_int (round_cons (key := 2) (ks := ks_slices_Compare_int_l2) (by kernel_rfl) (by kernel_rfl) (rd_slices_Compare_int_2 N) trivial) (N := N) (by kernel_rfl) (fn_slices_Compare_int N) (.inl (by kernel_rfl))
/-! impl_IsGraph -/
noncomputable def ks_impl_IsGraph_l4 : List Kd := [dK, .v (.ptr tQILLIE) (.o 37 none .k), dK, dK, dK, dK, dK, dK, dK, dK, .v (.sl (.sl (.int .i64))) .k, .v (.int .i64) .k, .v (.int .i64) .k, dK, dK, dK, dK, dK, dK, dK, dK, dK, dK, dK, dK, dK, dK, dK, dK, dK, dK, dK, dK, dK, dK, dK, dK, dK, dK, dK, dK, dK, dK, dK, dK, dK, dK, dK, dK, dK, dK, dK]
noncomputable def ko_impl_IsGraph_l4_0 : List Kd := [dK, dK, dK, dK, dK, dK, dK, dK, dK, dK, dK, dK, dK, dK, dK, dK, dK, dK, dK, dK, dK, dK, dK, dK, dK, dK, dK, dK, dK, dK, dK, dK, dK, dK, dK, dK, dK, dK, dK, dK, dK, dK, dK, dK, dK, dK, dK, dK, dK, dK, dK, dK]
noncomputable def ko_impl_IsGraph_l4_1 : List Kd := [dK, dK, .v .bool .k, dK, dK, dK, dK, dK, dK, dK, dK, dK, dK, dK, dK, dK, dK, dK, dK, dK, dK, dK, dK, dK, dK, dK, dK, dK, dK, dK, dK, dK, dK, dK, dK, dK, dK, dK, dK, dK, dK, dK, dK, dK, dK, dK, dK, dK, dK, dK, dK, dK]
noncomputable def h_impl_IsGraph : Hint := { tab, hn := [], loops := [(4, ks_impl_IsGraph_l4)], outs := [(4, 2, ko_impl_IsGraph_l4_0), (4, 1, ko_impl_IsGraph_l4_1)], ords := [(6, (OT.seq [0, 1, 2, 3, 4, 5, 6, 7, 8, 9, 10, 11, 12, 13, 14, 15, 16, 17, 18, 19, 20, 21, 22, 23, 24, 25, 26, 27, 28, 29, 30, 31, 32, 33] .done))] }
noncomputable def sg_impl_IsGraph : List AK := [.v tQILLIE .k]
noncomputable def F_impl_IsGraph (N : Nat) (x : AVals sg_impl_IsGraph) (kf : Ret → Option Ret) : Option Ret := impl_IsGraph N x.1 (fun r0 => kf ⟨[⟨.bool, .k, r0⟩], []⟩)
noncomputable def run_impl_IsGraph (N : Nat) := runOf sg_impl_IsGraph (F_impl_IsGraph N)
noncomputable def es_impl_IsGraph (N : Nat) : List Entry := [⟨89, [.val, .val, .val], (run_impl_InRange N)⟩, ⟨90, [.val, .val], (run_impl_isClaim N)⟩, ⟨91, [.val, .val], (run_slices_Compare_int N)⟩]
noncomputable def body_impl_IsGraph : Code := match Tryd.f56.body with | some c => c | none => .skip
noncomputable def L_impl_IsGraph (N n : Nat) (key : Nat) (S : St) (K : Ks) : Option Ret := bif Nat.beq key 4 then withVals ks_impl_IsGraph_l4 S (fun x => impl_IsGraph_l4 N x.1 x.2.1 x.2.2.1 n (K (.x 0) (shape ko_impl_IsGraph_l4_0 ())) (fun z0 => K .r (shape ko_impl_IsGraph_l4_1 (z0, ()))) x.2.2.2.1) else none
theorem L0_impl_IsGraph (N key : Nat) (S : St) (K : Ks) : L_impl_IsGraph N 0 key S K = none := (bif0 (withVals0 fun _ => rfl) rfl)
noncomputable def c_impl_IsGraph_0 : Code := (loopsIn body_impl_IsGraph).getD 0 .skip
theorem ls_impl_IsGraph : loopsIn body_impl_IsGraph = [c_impl_IsGraph_0] := by kernel_rfl
theorem rd_impl_IsGraph_4 (N n : Nat) (x : Vals ks_impl_IsGraph_l4) (K : Ks) : L_impl_IsGraph N (n + 1) 4 (shape ks_impl_IsGraph_l4 x) (h_impl_IsGraph.onOut 4 K) = peRound h_impl_IsGraph (Orc.of (es_impl_IsGraph N)) (mixL (L_impl_IsGraph N) N n 4) c_impl_IsGraph_0 (shape ks_impl_IsGraph_l4 x) (h_impl_IsGraph.onOut 4 K) := by kernel_rfl
theorem fn_impl_IsGraph (N : Nat) (x : AVals sg_impl_IsGraph) (kf : Ret → Option Ret) : F_impl_IsGraph N x kf = peFunc h_impl_IsGraph (Orc.of (es_impl_IsGraph N)) (L_impl_IsGraph N N) Tryd.f56 (ashape sg_impl_IsGraph x) kf := by kernel_rfl
theorem sd_impl_IsGraph {Γ : Gl} (hΓ : TabΓ Γ) (N : Nat) : Sound Γ Tryd.prog 56 (run_impl_IsGraph N) := fun_ok2 (hh := h_impl_IsGraph) mixed tab_ok (es := es_impl_IsGraph N) ⟨sd_impl_InRange hΓ N, ⟨sd_impl_isClaim hΓ N, ⟨sd_slices_Compare_int hΓ N, trivial⟩⟩⟩ (fn := Tryd.f56) (body := body_impl_IsGraph) (by kernel_rfl) (by kernel_rfl) (by kernel_rfl) (by kernel_rfl) (by kernel_rfl) (Lf := L_impl_IsGraph N) (L0_impl_IsGraph N) ls_impl_IsGraph (round_cons (key := 4) (ks := ks_impl_IsGraph_l4) (by kernel_rfl) (by kernel_rfl) (rd_impl_IsGraph_4 N) trivial) (N := N) (by kernel_rfl) (fn_impl_IsGraph N) (.inl (by kernel_rfl))
/-! impl_GraphText -/
noncomputable def ks_impl_GraphText_l5 : List Kd := [dK, dK, dK, .v .str .k, dK, dK, dK, dK, dK, dK, dK, dK, dK, .v (.sl (.sl (.int .i64))) .k, .v (.int .i64) .k, .v (.int .i64) .k, dK, dK, dK, dK, dK, dK, dK, dK, dK, dK, dK, dK, dK, dK, dK, dK, dK, dK]
noncomputable def ko_impl_GraphText_l5_0 : List Kd := [dK, dK, dK, .v .str .k, dK, dK, dK, dK, dK, dK, dK, dK, dK, dK, dK, dK, dK, dK, dK, dK, dK, dK, dK, dK, dK, dK, dK, dK, dK, dK, dK, dK, dK, dK]
noncomputable def h_impl_GraphText : Hint := { tab, hn := [], loops := [(5, ks_impl_GraphText_l5)], outs := [(5, 2, ko_impl_GraphText_l5_0)], ords := [(7, (OT.seq [0, 1, 2, 3, 7, 8, 9, 4, 5, 6, 10, 11, 12, 13] .done))] }
noncomputable def sg_impl_GraphText : List AK := [.v tQILLIE .k]
noncomputable def F_impl_GraphText (N : Nat) (x : AVals sg_impl_GraphText) (kf : Ret → Option Ret) : Option Ret := impl_GraphText N x.1 (fun r0 => kf ⟨[⟨.str, .k, r0⟩], []⟩)
noncomputable def run_impl_GraphText (N : Nat) := runOf sg_impl_GraphText (F_impl_GraphText N)
noncomputable def es_impl_GraphText (N : Nat) : List Entry := [⟨56, [.val], (run_impl_IsGraph N)⟩, ⟨51, [.val], (run_impl_FormatInt N)⟩]
noncomputable def body_impl_GraphText : Code := match Tryd.f23.body with | some c => c | none => .skip
noncomputable def L_impl_GraphText (N n : Nat) (key : Nat) (S : St) (K : Ks) : Option Ret := bif Nat.beq key 5 then withVals ks_impl_GraphText_l5 S (fun x => impl_GraphText_l5 N x.2.1 x.2.2.1 n (fun z0 => K (.x 0) (shape ko_impl_GraphText_l5_0 (z0, ()))) x.1 x.2.2.2.1) else none
theorem L0_impl_GraphText (N key : Nat) (S : St) (K : Ks) : L_impl_GraphText N 0 key S K = none := (bif0 (withVals0 fun _ => rfl) rfl)
noncomputable def c_impl_GraphText_0 : Code := (loopsIn body_impl_GraphText).getD 0 .skip
theorem ls_impl_GraphText : loopsIn body_impl_GraphText = [c_impl_GraphText_0] := by kernel_rfl
theorem rd_impl_GraphText_5 (N n : Nat) (x : Vals ks_impl_GraphText_l5) (K : Ks) : L_impl_GraphText N (n + 1) 5 (shape ks_impl_GraphText_l5 x) (h_impl_GraphText.onOut 5 K) = peRound h_impl_GraphText (Orc.of (es_impl_GraphText N)) (mixL (L_impl_GraphText N) N n 5) c_impl_GraphText_0 (shape ks_impl_GraphText_l5 x) (h_impl_GraphText.onOut 5 K) := by kernel_rfl
theorem fn_impl_GraphText (N : Nat) (x : AVals sg_impl_GraphText) (kf : Ret → Option Ret) : F_impl_GraphText N x kf = peFunc h_impl_GraphText (Orc.of (es_impl_GraphText N)) (L_impl_GraphText N N) Tryd.f23 (ashape sg_impl_GraphText x) kf := by kernel_rfl
theorem sd_impl_GraphText {Γ : Gl} (hΓ : TabΓ Γ) (N : Nat) : Sound Γ Tryd.prog 23 (run_impl_GraphText N) := fun_ok2 (hh := h_impl_GraphText) mixed tab_ok (es := es_impl_GraphText N) ⟨sd_impl_IsGraph hΓ N, ⟨sd_impl_FormatInt hΓ N, trivial⟩⟩ (fn := Tryd.f23) (body := body_impl_GraphText) (by kernel_rfl) (by kernel_rfl) (by kernel_rfl) (by kernel_rfl) (by kernel_rfl) (Lf := L_impl_GraphText N) (L0_impl_GraphText N) ls_impl_GraphText (round_cons (key := 5) (ks := ks_impl_GraphText_l5) (by kernel_rfl) (by kernel_rfl) (rd_impl_GraphText_5 N) trivial) (N := N) (by kernel_rfl) (fn_impl_GraphText N) (.inl (by kernel_rfl))
/-! laws_eqGraph -/
noncomputable def h_laws_eqGraph : Hint := { tab, hn := [], loops := [], outs := [], ords := [] }
noncomputable def sg_laws_eqGraph : List AK := [.v tQILLIE .k, .v tQILLIE .k]
noncomputable def F_laws_eqGraph (N : Nat) (x : AVals sg_laws_eqGraph) (kf : Ret → Option Ret) : Option Ret := laws_eqGraph N x.1 x.2.1 (fun r0 => kf ⟨[⟨.bool, .k, r0⟩], []⟩)
noncomputable def run_laws_eqGraph (N : Nat) := runOf sg_laws_eqGraph (F_laws_eqGraph N)
noncomputable def es_laws_eqGraph (N : Nat) : List Entry := [⟨19, [.val, .val], (run_laws_eqIntSS N)⟩]
noncomputable def body_laws_eqGraph : Code := match Tryd.f24.body with | some c => c | none => .skip
noncomputable def L_laws_eqGraph (N n : Nat) (key : Nat) (S : St) (K : Ks) : Option Ret := none
theorem L0_laws_eqGraph (N key : Nat) (S : St) (K : Ks) : L_laws_eqGraph N 0 key S K = none := rfl
theorem ls_laws_eqGraph : loopsIn body_laws_eqGraph = [] := by kernel_rfl
theorem fn_laws_eqGraph (N : Nat) (x : AVals sg_laws_eqGraph) (kf : Ret → Option Ret) : F_laws_eqGraph N x kf = peFunc h_laws_eqGraph (Orc.of (es_laws_eqGraph N)) (L_laws_eqGraph N N) Tryd.f24 (ashape sg_laws_eqGraph x) kf := by kernel_rfl
theorem sd_laws_eqGraph {Γ : Gl} (hΓ : TabΓ Γ) (N : Nat) : Sound Γ Tryd.prog 24 (run_laws_eqGraph N) := fun_ok2 (hh := h_laws_eqGraph) mixed tab_ok (es := es_laws_eqGraph N) ⟨sd_laws_eqIntSS hΓ N, trivial⟩ (fn := Tryd.f24) (body := body_laws_eqGraph) (by kernel_rfl) (by kernel_rfl) (by kernel_rfl) (by kernel_rfl) (by kernel_rfl) (Lf := L_laws_eqGraph N) (L0_laws_eqGraph N) ls_laws_eqGraph trivial (N := N) (by kernel_rfl) (fn_laws_eqGraph N) (.inl (by kernel_rfl))
/-! spec_l32Split -/
noncomputable def ks_spec_l32Split_l4 : List Kd := [.v .str .k, .v (.int .u8) .k, dK, dK, dK, .v (.sl .str) (.o 9 none .k), .v (.int .i64) .k, .v (.int .i64) .k, dK, dK, dK, dK, dK, dK, dK, dK, dK, dK, dK, dK, dK, dK, dK, dK, dK, dK, dK, dK, dK, dK, dK, dK, dK, dK, dK, dK]
noncomputable def ko_spec_l32Split_l4_0 : List Kd := [dK, dK, dK, dK, dK, .v (.sl .str) (.o 9 none .k), dK, dK, dK, dK, dK, dK, dK, dK, dK, dK, dK, dK, dK, dK, dK, dK, dK, dK, dK, dK, dK, dK, dK, dK, dK, dK, dK, dK, dK, dK]
noncomputable def h_spec_l32Split : Hint := { tab, hn := [], loops := [(4, ks_spec_l32Split_l4)], outs := [(4, 2, ko_spec_l32Split_l4_0)], ords := [] }
noncomputable def sg_spec_l32Split : List AK := [.v .str .k, .v (.int .u8) .k]
noncomputable def F_spec_l32Split (N : Nat) (x : AVals sg_spec_l32Split) (kf : Ret → Option Ret) : Option Ret := spec_l32Split N x.1 x.2.1 (fun r0 => kf ⟨[⟨(.sl .str), (.o 9 none .k), r0⟩], []⟩)
noncomputable def run_spec_l32Split (N : Nat) := runOf sg_spec_l32Split (F_spec_l32Split N)
noncomputable def es_spec_l32Split (N : Nat) : List Entry := []
noncomputable def body_spec_l32Split : Code := match Tryd.f66.body with | some c => c | none => .skip
noncomputable def L_spec_l32Split (N n : Nat) (key : Nat) (S : St) (K : Ks) : Option Ret := bif Nat.beq key 4 then withVals ks_spec_l32Split_l4 S (fun x => spec_l32Split_l4 x.1 x.2.1 n (fun z0 => K (.x 0) (shape ko_spec_l32Split_l4_0 (z0, ()))) x.2.2.1 x.2.2.2.1 x.2.2.2.2.1) else none
theorem L0_spec_l32Split (N key : Nat) (S : St) (K : Ks) : L_spec_l32Split N 0 key S K = none := (bif0 (withVals0 fun _ => rfl) rfl)
noncomputable def c_spec_l32Split_0 : Code := (loopsIn body_spec_l32Split).getD 0 .skip
theorem ls_spec_l32Split : loopsIn body_spec_l32Split = [c_spec_l32Split_0] := by kernel_rfl
theorem rd_spec_l32Split_4 (N n : Nat) (x : Vals ks_spec_l32Split_l4) (K : Ks) : L_spec_l32Split N (n + 1) 4 (shape ks_spec_l32Split_l4 x) (h_spec_l32Split.onOut 4 K) = peRound h_spec_l32Split (Orc.of (es_spec_l32Split N)) (mixL (L_spec_l32Split N) N n 4) c_spec_l32Split_0 (shape ks_spec_l32Split_l4 x) (h_spec_l32Split.onOut 4 K) := by kernel_rfl
theorem fn_spec_l32Split (N : Nat) (x : AVals sg_spec_l32Split) (kf : Ret → Option Ret) : F_spec_l32Split N x kf = peFunc h_spec_l32Split (Orc.of (es_spec_l32Split N)) (L_spec_l32Split N N) Tryd.f66 (ashape sg_spec_l32Split x) kf := by kernel_rfl
theorem sd_spec_l32Split {Γ : Gl} (hΓ : TabΓ Γ) (N : Nat) : Sound Γ Tryd.prog 66 (run_spec_l32Split N) := fun_ok2 (hh := h_spec_l32Split) mixed tab_ok (es := es_spec_l32Split N) trivial (fn := Tryd.f66) (body := body_spec_l32Split) (by kernel_rfl) (by kernel_rfl) (by kernel_rfl) (by kernel_rfl) (by kernel_rfl) (Lf := L_spec_l32Split N) (L0_spec_l32Split N) ls_spec_l32Split (round_cons (key := 4) (ks := ks_spec_l32Split_l4) (by kernel_rfl) (by kernel_rfl) (rd_spec_l32Split_4 N) trivial) (N := N) (by kernel_rfl) (fn_spec_l32Split N) (.inl (by kernel_rfl))
/-! spec_ParseInt -/
noncomputable def ks_spec_ParseInt_l5 : List Kd := [.v .str .k, dK, dK, dK, .v (.int .i64) .k, .v (.int .i64) .k, dK, dK, dK, dK, dK, dK, dK, dK, dK, dK, dK, dK, dK, dK, dK, dK, dK, dK, dK, dK, dK, dK, dK, dK, dK, dK, dK, dK, dK, dK, dK, dK, dK]
noncomputable def ko_spec_ParseInt_l5_0 : List Kd := [.v .str .k, dK, dK, dK, .v (.int .i64) .k, dK, dK, dK, dK, dK, dK, dK, dK, dK, dK, dK, dK, dK, dK, dK, dK, dK, dK, dK, dK, dK, dK, dK, dK, dK, dK, dK, dK, dK, dK, dK, dK, dK, dK]
noncomputable def ko_spec_ParseInt_l5_1 : List Kd := [dK, dK, .v (.int .i64) .k, .v .bool .k, dK, dK, dK, dK, dK, dK, dK, dK, dK, dK, dK, dK, dK, dK, dK, dK, dK, dK, dK, dK, dK, dK, dK, dK, dK, dK, dK, dK, dK, dK, dK, dK, dK, dK, dK]
noncomputable def h_spec_ParseInt : Hint := { tab, hn := [], loops := [(5, ks_spec_ParseInt_l5)], outs := [(5, 2, ko_spec_ParseInt_l5_0), (5, 1, ko_spec_ParseInt_l5_1)], ords := [] }
noncomputable def sg_spec_ParseInt : List AK := [.v .str .k]
noncomputable def F_spec_ParseInt (N : Nat) (x : AVals sg_spec_ParseInt) (kf : Ret → Option Ret) : Option Ret := spec_ParseInt N x.1 (fun r0 r1 => kf ⟨[⟨(.int .i64), .k, r0⟩, ⟨.bool, .k, r1⟩], []⟩)
noncomputable def run_spec_ParseInt (N : Nat) := runOf sg_spec_ParseInt (F_spec_ParseInt N)
noncomputable def es_spec_ParseInt (N : Nat) : List Entry := [⟨88, [.val, .val, .val], (run_spec_l1In N)⟩, ⟨49, [.val], (run_spec_FormatInt N)⟩]
noncomputable def body_spec_ParseInt : Code := match Tryd.f67.body with | some c => c | none => .skip
noncomputable def L_spec_ParseInt (N n : Nat) (key : Nat) (S : St) (K : Ks) : Option Ret := bif Nat.beq key 5 then withVals ks_spec_ParseInt_l5 S (fun x => spec_ParseInt_l5 N x.1 n (fun z0 => K (.x 0) (shape ko_spec_ParseInt_l5_0 (x.1, z0, ()))) (fun z0 z1 => K .r (shape ko_spec_ParseInt_l5_1 (z0, z1, ()))) x.2.1 x.2.2.1) else none
theorem L0_spec_ParseInt (N key : Nat) (S : St) (K : Ks) : L_spec_ParseInt N 0 key S K = none := (bif0 (withVals0 fun _ => rfl) rfl)
noncomputable def c_spec_ParseInt_0 : Code := (loopsIn body_spec_ParseInt).getD 0 .skip
theorem ls_spec_ParseInt : loopsIn body_spec_ParseInt = [c_spec_ParseInt_0] := by kernel_rfl
theorem rd_spec_ParseInt_5 (N n : Nat) (x : Vals ks_spec_ParseInt_l5) (K : Ks) : L_spec_ParseInt N (n + 1) 5 (shape ks_spec_ParseInt_l5 x) (h_spec_ParseInt.onOut 5 K) = peRound h_spec_ParseInt (Orc.of (es_spec_ParseInt N)) (mixL (L_spec_ParseInt N) N n 5) c_spec_ParseInt_0 (shape ks_spec_ParseInt_l5 x) (h_spec_ParseInt.onOut 5 K) := by kernel_rfl
theorem fn_spec_ParseInt (N : Nat) (x : AVals sg_spec_ParseInt) (kf : Ret → Option Ret) : F_spec_ParseInt N x kf = peFunc h_spec_ParseInt (Orc.of (es_spec_ParseInt N)) (L_spec_ParseInt N N) Tryd.f67 (ashape sg_spec_ParseInt x) kf := by kernel_rfl
theorem sd_spec_ParseInt {Γ : Gl} (hΓ : TabΓ Γ) (N : Nat) : Sound Γ Tryd.prog 67 (run_spec_ParseInt N) := fun_ok2 (hh := h_spec_ParseInt) mixed tab_ok (es := es_spec_ParseInt N) ⟨sd_spec_l1In hΓ N, ⟨sd_spec_FormatInt hΓ N, trivial⟩⟩ (fn := Tryd.f67) (body := body_spec_ParseInt) (by kernel_rfl) (by kernel_rfl) (by kernel_rfl) (by kernel_rfl) (by kernel_rfl) (Lf := L_spec_ParseInt N) (L0_spec_ParseInt N) ls_spec_ParseInt (round_cons (key := 5) (ks := ks_spec_ParseInt_l5) (by kernel_rfl) (by kernel_rfl) (rd_spec_ParseInt_5 N) trivial) (N := N) (by kernel_rfl) (fn_spec_ParseInt N) (.inl (by kernel_rfl))
/-! spec_ParseGraph -/
noncomputable def ks_spec_ParseGraph_l5 : List Kd := [.v .str .k, dK, .v (.ptr tQILLIE) (.o 37 none (.p .k (.o 22 none (.o 3 none .k)))), dK, .v (.sl .str) (.o 9 none .k), dK, .v .bool .k, .v (.ptr tQILLIE) (.o 37 none (.p .k (.o 22 none (.o 3 none .k)))), .v (.int .i64) .k, dK, dK, dK, dK, dK, dK, dK, dK, dK, dK, dK, dK, dK, dK, dK, dK, dK, dK, dK, dK, dK, dK, dK, dK, dK, dK, dK, dK, dK, dK, dK, dK, dK, dK, dK, dK, dK, dK, dK, dK, dK, dK, dK, dK, dK, dK, dK, dK, dK, dK, dK, dK, dK, dK, dK, dK, dK, dK, dK, dK, dK, dK, dK, dK, dK, dK, dK, dK, dK, dK, dK, dK, dK, dK]
noncomputable def ko_spec_ParseGraph_l5_0 : List Kd := [.v .str .k, dK, .v (.ptr tQILLIE) (.o 37 none (.p .k (.o 22 none (.o 3 none .k)))), dK, dK, dK, .v .bool .k, .v (.ptr tQILLIE) (.o 37 none (.p .k (.o 22 none (.o 3 none .k)))), dK, dK, dK, dK, dK, dK, dK, dK, dK, dK, dK, dK, dK, dK, dK, dK, dK, dK, dK, dK, dK, dK, dK, dK, dK, dK, dK, dK, dK, dK, dK, dK, dK, dK, dK, dK, dK, dK, dK, dK, dK, dK, dK, dK, dK, dK, dK, dK, dK, dK, dK, dK, dK, dK, dK, dK, dK, dK, dK, dK, dK, dK, dK, dK, dK, dK, dK, dK, dK, dK, dK, dK, dK, dK, dK]
noncomputable def ko_spec_ParseGraph_l5_1 : List Kd := [dK, dK, .v (.ptr tQILLIE) (.o 37 none (.p .k (.o 22 none (.o 3 none .k)))), .v .bool .k, dK, dK, dK, dK, dK, dK, dK, dK, dK, dK, dK, dK, dK, dK, dK, dK, dK, dK, dK, dK, dK, dK, dK, dK, dK, dK, dK, dK, dK, dK, dK, dK, dK, dK, dK, dK, dK, dK, dK, dK, dK, dK, dK, dK, dK, dK, dK, dK, dK, dK, dK, dK, dK, dK, dK, dK, dK, dK, dK, dK, dK, dK, dK, dK, dK, dK, dK, dK, dK, dK, dK, dK, dK, dK, dK, dK, dK, dK, dK]
noncomputable def h_spec_ParseGraph : Hint := { tab, hn := [], loops := [(5, ks_spec_ParseGraph_l5)], outs := [(5, 2, ko_spec_ParseGraph_l5_0), (5, 1, ko_spec_ParseGraph_l5_1)], ords := [] }
noncomputable def sg_spec_ParseGraph : List AK := [.v .str .k]
noncomputable def F_spec_ParseGraph (N : Nat) (x : AVals sg_spec_ParseGraph) (kf : Ret → Option Ret) : Option Ret := spec_ParseGraph N x.1 (fun r0 r1 => kf ⟨[⟨tQILLIE, (.p .k (.o 22 none (.o 3 none .k))), r0⟩, ⟨.bool, .k, r1⟩], []⟩)
noncomputable def run_spec_ParseGraph (N : Nat) := runOf sg_spec_ParseGraph (F_spec_ParseGraph N)
noncomputable def es_spec_ParseGraph (N : Nat) : List Entry := [⟨66, [.val, .val], (run_spec_l32Split N)⟩, ⟨67, [.val], (run_spec_ParseInt N)⟩, ⟨21, [.val], (run_spec_GraphText N)⟩]
noncomputable def body_spec_ParseGraph : Code := match Tryd.f40.body with | some c => c | none => .skip
noncomputable def L_spec_ParseGraph (N n : Nat) (key : Nat) (S : St) (K : Ks) : Option Ret := bif Nat.beq key 5 then withVals ks_spec_ParseGraph_l5 S (fun x => spec_ParseGraph_l5 N x.1 x.2.1 x.2.2.1 x.2.2.2.1 n (fun z0 => K (.x 0) (shape ko_spec_ParseGraph_l5_0 (x.1, x.2.1, x.2.2.2.1, z0, ()))) (fun z0 z1 => K .r (shape ko_spec_ParseGraph_l5_1 (z0, z1, ()))) x.2.2.2.2.1 x.2.2.2.2.2.1) else none
theorem L0_spec_ParseGraph (N key : Nat) (S : St) (K : Ks) : L_spec_ParseGraph N 0 key S K = none := (bif0 (withVals0 fun _ => rfl) rfl)
noncomputable def c_spec_ParseGraph_0 : Code := (loopsIn body_spec_ParseGraph).getD 0 .skip
theorem ls_spec_ParseGraph : loopsIn body_spec_ParseGraph = [c_spec_ParseGraph_0] := by kernel_rfl
theorem rd_spec_ParseGraph_5 (N n : Nat) (x : Vals ks_spec_ParseGraph_l5) (K : Ks) : L_spec_ParseGraph N (n + 1) 5 (shape ks_spec_ParseGraph_l5 x) (h_spec_ParseGraph.onOut 5 K) = peRound h_spec_ParseGraph (Orc.of (es_spec_ParseGraph N)) (mixL (L_spec_ParseGraph N) N n 5) c_spec_ParseGraph_0 (shape ks_spec_ParseGraph_l5 x) (h_spec_ParseGraph.onOut 5 K) := by kernel_rfl
theorem fn_spec_ParseGraph (N : Nat) (x : AVals sg_spec_ParseGraph) (kf : Ret → Option Ret) : F_spec_ParseGraph N x kf = peFunc h_spec_ParseGraph (Orc.of (es_spec_ParseGraph N)) (L_spec_ParseGraph N N) Tryd.f40 (ashape sg_spec_ParseGraph x) kf := by kernel_rfl
theorem sd_spec_ParseGraph {Γ : Gl} (hΓ : TabΓ Γ) (N : Nat) : Sound Γ Tryd.prog 40 (run_spec_ParseGraph N) := fun_ok2 (hh := h_spec_ParseGraph) mixed tab_ok (es := es_spec_ParseGraph N) ⟨sd_spec_l32Split hΓ N, ⟨sd_spec_ParseInt hΓ N, ⟨sd_spec_GraphText hΓ N, trivial⟩⟩⟩ (fn := Tryd.f40) (body := body_spec_ParseGraph) (by kernel_rfl) (by kernel_rfl) (by kernel_rfl) (by kernel_rfl) (by kernel_rfl) (Lf := L_spec_ParseGraph N) (L0_spec_ParseGraph N) ls_spec_ParseGraph (round_cons (key := 5) (ks := ks_spec_ParseGraph_l5) (by kernel_rfl) (by kernel_rfl) (rd_spec_ParseGraph_5 N) trivial) (N := N) (by kernel_rfl) (fn_spec_ParseGraph N) (.inl (by kernel_rfl))
/-! strings_Split: told by the shelf -/
def ren_strings_Split : Go.Shelf.Ren := ⟨fun n => bif Nat.beq n 138 then 108 else bif Nat.beq n 143 then 109 else bif Nat.beq n 146 then 68 else bif Nat.beq n 195 then 115 else bif Nat.beq n 197 then 116 else bif Nat.beq n 217 then 118 else bif Nat.beq n 218 then 117 else bif Nat.beq n 219 then 110 else bif Nat.beq n 221 then 92 else bif Nat.beq n 224 then 120 else bif Nat.beq n 225 then 119 else bif Nat.beq n 260 then 126 else bif Nat.beq n 266 then 127 else bif Nat.beq n 267 then 121 else bif Nat.beq n 268 then 107 else bif Nat.beq n 314 then 128 else n, fun n => bif Nat.beq n 0 then 0 else bif Nat.beq n 3 then 3 else bif Nat.beq n 4 then 4 else bif Nat.beq n 5 then 5 else bif Nat.beq n 9 then 9 else bif Nat.beq n 21 then 21 else bif Nat.beq n 31 then 81 else bif Nat.beq n 46 then 164 else bif Nat.beq n 51 then 171 else bif Nat.beq n 105 then 160 else bif Nat.beq n 119 then 178 else bif Nat.beq n 138 then 180 else bif Nat.beq n 139 then 181 else bif Nat.beq n 146 then 172 else n, fun n => bif Nat.beq n 1 then 0 else bif Nat.beq n 3 then 2 else bif Nat.beq n 4 then 3 else n⟩
theorem lays_strings_Split : Lays.n146 Tryd.prog ren_strings_Split := { mixed := by kernel_rfl, f138 := by kernel_rfl, f143 := by kernel_rfl, f146 := by kernel_rfl, f195 := by kernel_rfl, f197 := by kernel_rfl, f217 := by kernel_rfl, f218 := by kernel_rfl, f219 := by kernel_rfl, f221 := by kernel_rfl, f224 := by kernel_rfl, f225 := by kernel_rfl, f260 := by kernel_rfl, f266 := by kernel_rfl, f267 := by kernel_rfl, f268 := by kernel_rfl, f314 := by kernel_rfl, t0 := by kernel_rfl, a0 := fun w => by kernel_rfl, z0 := fun w => by kernel_rfl, v0 := fun w => by kernel_rfl, t3 := by kernel_rfl, a3 := fun w => by kernel_rfl, z3 := fun w => by kernel_rfl, v3 := fun w => by kernel_rfl, t4 := by kernel_rfl, a4 := fun w => by kernel_rfl, z4 := fun w => by kernel_rfl, v4 := fun w => by kernel_rfl, t5 := by kernel_rfl, a5 := fun w => by kernel_rfl, z5 := fun w => by kernel_rfl, v5 := fun w => by kernel_rfl, t9 := by kernel_rfl, a9 := fun w => by kernel_rfl, z9 := fun w => by kernel_rfl, v9 := fun w => by kernel_rfl, t21 := by kernel_rfl, a21 := fun w => by kernel_rfl, z21 := fun w => by kernel_rfl, v21 := fun w => by kernel_rfl, t31 := by kernel_rfl, a31 := fun w => by kernel_rfl, z31 := fun w => by kernel_rfl, v31 := fun w => by kernel_rfl, t46 := by kernel_rfl, a46 := fun w => by kernel_rfl, z46 := fun w => by kernel_rfl, v46 := fun w => by kernel_rfl, t51 := by kernel_rfl, a51 := fun w => by kernel_rfl, z51 := fun w => by kernel_rfl, v51 := fun w => by kernel_rfl, t105 := by kernel_rfl, a105 := fun w => by kernel_rfl, z105 := fun w => by kernel_rfl, v105 := fun w => by kernel_rfl, t119 := by kernel_rfl, a119 := fun w => by kernel_rfl, z119 := fun w => by kernel_rfl, t138 := by kernel_rfl, a138 := fun w => by kernel_rfl, z138 := fun w => by kernel_rfl, v138 := fun w => by kernel_rfl, t139 := by kernel_rfl, a139 := fun w => by kernel_rfl, z139 := fun w => by kernel_rfl, v139 := fun w => by kernel_rfl, t146 := by kernel_rfl, a146 := fun w => by kernel_rfl, z146 := fun w => by kernel_rfl, v146 := fun w => by kernel_rfl, g1 := by kernel_rfl, g3 := by kernel_rfl, g4 := by kernel_rfl }
noncomputable def sg_strings_Split : List AK := [.v .str .k, .v .str .k]
noncomputable def F_strings_Split (N : Nat) (x : AVals sg_strings_Split) (kf : Ret → Option Ret) : Option Ret := strings_Split N x.1 x.2.1 (fun r0 => kf ⟨[⟨(.sl .str), .k, r0⟩], []⟩)
noncomputable def run_strings_Split (N : Nat) := runOf sg_strings_Split (F_strings_Split N)
theorem sd_strings_Split {Γ : Gl} (hΓ : TabΓ Γ) (N : Nat) : Sound Γ Tryd.prog 68 (run_strings_Split N) := sound_split lays_strings_Split (by kernel_rfl)
/-! impl_ParseInt -/
noncomputable def ks_impl_ParseInt_l5 : List Kd := [.v .str .k, dK, dK, dK, .v (.int .i64) .k, dK, dK, dK, dK, dK, dK, dK, dK, dK, dK, dK, dK, dK, dK, dK, dK, dK, dK, dK, dK, .v (.int .i64) .k, .v (.int .i64) .k, dK, dK, dK, dK, dK, dK, dK, dK, dK, dK, dK, dK, dK, dK, dK, dK, dK, dK, dK, dK, dK, dK, dK, dK]
noncomputable def ko_impl_ParseInt_l5_0 : List Kd := [dK, dK, dK, dK, .v (.int .i64) .k, dK, dK, dK, dK, dK, dK, dK, dK, dK, dK, dK, dK, dK, dK, dK, dK, dK, dK, dK, dK, dK, dK, dK, dK, dK, dK, dK, dK, dK, dK, dK, dK, dK, dK, dK, dK, dK, dK, dK, dK, dK, dK, dK, dK, dK, dK]
noncomputable def ko_impl_ParseInt_l5_1 : List Kd := [dK, dK, .v (.int .i64) .k, .v .bool .k, dK, dK, dK, dK, dK, dK, dK, dK, dK, dK, dK, dK, dK, dK, dK, dK, dK, dK, dK, dK, dK, dK, dK, dK, dK, dK, dK, dK, dK, dK, dK, dK, dK, dK, dK, dK, dK, dK, dK, dK, dK, dK, dK, dK, dK, dK, dK]
noncomputable def h_impl_ParseInt : Hint := { tab, hn := [], loops := [(5, ks_impl_ParseInt_l5)], outs := [(5, 2, ko_impl_ParseInt_l5_0), (5, 1, ko_impl_ParseInt_l5_1)], ords := [] }
noncomputable def sg_impl_ParseInt : List AK := [.v .str .k]
noncomputable def F_impl_ParseInt (N : Nat) (x : AVals sg_impl_ParseInt) (kf : Ret → Option Ret) : Option Ret := impl_ParseInt N x.1 (fun r0 r1 => kf ⟨[⟨(.int .i64), .k, r0⟩, ⟨.bool, .k, r1⟩], []⟩)
noncomputable def run_impl_ParseInt (N : Nat) := runOf sg_impl_ParseInt (F_impl_ParseInt N)
noncomputable def es_impl_ParseInt (N : Nat) : List Entry := []
noncomputable def body_impl_ParseInt : Code := match Tryd.f69.body with | some c => c | none => .skip
noncomputable def L_impl_ParseInt (N n : Nat) (key : Nat) (S : St) (K : Ks) : Option Ret := bif Nat.beq key 5 then withVals ks_impl_ParseInt_l5 S (fun x => impl_ParseInt_l5 x.1 x.2.2.1 n (fun z0 => K (.x 0) (shape ko_impl_ParseInt_l5_0 (z0, ()))) (fun z0 z1 => K .r (shape ko_impl_ParseInt_l5_1 (z0, z1, ()))) x.2.1 x.2.2.2.1) else none
theorem L0_impl_ParseInt (N key : Nat) (S : St) (K : Ks) : L_impl_ParseInt N 0 key S K = none := (bif0 (withVals0 fun _ => rfl) rfl)
noncomputable def c_impl_ParseInt_0 : Code := (loopsIn body_impl_ParseInt).getD 0 .skip
theorem ls_impl_ParseInt : loopsIn body_impl_ParseInt = [c_impl_ParseInt_0] := by kernel_rfl
theorem rd_impl_ParseInt_5 (N n : Nat) (x : Vals ks_impl_ParseInt_l5) (K : Ks) : L_impl_ParseInt N (n + 1) 5 (shape ks_impl_ParseInt_l5 x) (h_impl_ParseInt.onOut 5 K) = peRound h_impl_ParseInt (Orc.of (es_impl_ParseInt N)) (mixL (L_impl_ParseInt N) N n 5) c_impl_ParseInt_0 (shape ks_impl_ParseInt_l5 x) (h_impl_ParseInt.onOut 5 K) := by kernel_rfl
theorem fn_impl_ParseInt (N : Nat) (x : AVals sg_impl_ParseInt) (kf : Ret → Option Ret) : F_impl_ParseInt N x kf = peFunc h_impl_ParseInt (Orc.of (es_impl_ParseInt N)) (L_impl_ParseInt N N) Tryd.f69 (ashape sg_impl_ParseInt x) kf := by kernel_rfl
theorem sd_impl_ParseInt {Γ : Gl} (hΓ : TabΓ Γ) (N : Nat) : Sound Γ Tryd.prog 69 (run_impl_ParseInt N) := fun_ok2 (hh := h_impl_ParseInt) mixed tab_ok (es := es_impl_ParseInt N) trivial (fn := Tryd.f69) (body := body_impl_ParseInt) (by kernel_rfl) (by kernel_rfl) (by kernel_rfl) (by kernel_rfl) (by kernel_rfl) (Lf := L_impl_ParseInt N) (L0_impl_ParseInt N) ls_impl_ParseInt (round_cons (key := 5) (ks := ks_impl_ParseInt_l5) (by kernel_rfl) (by kernel_rfl) (rd_impl_ParseInt_5 N) trivial) (N := N) (by kernel_rfl) (fn_impl_ParseInt N) (.inl (by kernel_rfl))
/-! strings_Cut: told by the shelf -/
def ren_strings_Cut : Go.Shelf.Ren := ⟨fun n => bif Nat.beq n 145 then 70 else bif Nat.beq n 217 then 118 else bif Nat.beq n 219 then 110 else bif Nat.beq n 220 then 93 else bif Nat.beq n 224 then 120 else bif Nat.beq n 225 then 119 else bif Nat.beq n 266 then 127 else bif Nat.beq n 267 then 121 else bif Nat.beq n 314 then 128 else n, fun n => bif Nat.beq n 3 then 3 else bif Nat.beq n 4 then 4 else bif Nat.beq n 5 then 5 else bif Nat.beq n 9 then 9 else bif Nat.beq n 46 then 164 else bif Nat.beq n 51 then 171 else bif Nat.beq n 59 then 108 else bif Nat.beq n 146 then 172 else n, fun n => bif Nat.beq n 1 then 0 else n⟩
theorem lays_strings_Cut : Lays.n145 Tryd.prog ren_strings_Cut := { mixed := by kernel_rfl, f145 := by kernel_rfl, f217 := by kernel_rfl, f219 := by kernel_rfl, f220 := by kernel_rfl, f224 := by kernel_rfl, f225 := by kernel_rfl, f266 := by kernel_rfl, f267 := by kernel_rfl, f314 := by kernel_rfl, t3 := by kernel_rfl, a3 := fun w => by kernel_rfl, z3 := fun w => by kernel_rfl, v3 := fun w => by kernel_rfl, t4 := by kernel_rfl, a4 := fun w => by kernel_rfl, z4 := fun w => by kernel_rfl, v4 := fun w => by kernel_rfl, t5 := by kernel_rfl, a5 := fun w => by kernel_rfl, z5 := fun w => by kernel_rfl, v5 := fun w => by kernel_rfl, t9 := by kernel_rfl, a9 := fun w => by kernel_rfl, z9 := fun w => by kernel_rfl, v9 := fun w => by kernel_rfl, t46 := by kernel_rfl, a46 := fun w => by kernel_rfl, z46 := fun w => by kernel_rfl, v46 := fun w => by kernel_rfl, t51 := by kernel_rfl, a51 := fun w => by kernel_rfl, z51 := fun w => by kernel_rfl, v51 := fun w => by kernel_rfl, t59 := by kernel_rfl, a59 := fun w => by kernel_rfl, z59 := fun w => by kernel_rfl, v59 := fun w => by kernel_rfl, t146 := by kernel_rfl, a146 := fun w => by kernel_rfl, z146 := fun w => by kernel_rfl, v146 := fun w => by kernel_rfl, g1 := by kernel_rfl }
noncomputable def sg_strings_Cut : List AK := [.v .str .k, .v .str .k]
noncomputable def F_strings_Cut (N : Nat) (x : AVals sg_strings_Cut) (kf : Ret → Option Ret) : Option Ret := strings_Cut N x.1 x.2.1 (fun r0 r1 r2 => kf ⟨[⟨.str, .k, r0⟩, ⟨.str, .k, r1⟩, ⟨.bool, .k, r2⟩], []⟩)
noncomputable def run_strings_Cut (N : Nat) := runOf sg_strings_Cut (F_strings_Cut N)
theorem sd_strings_Cut {Γ : Gl} (hΓ : TabΓ Γ) (N : Nat) : Sound Γ Tryd.prog 70 (run_strings_Cut N) := sound_cut lays_strings_Cut
/-! impl_ParseGraph -/
noncomputable def ks_impl_ParseGraph_l5 : List Kd := [.v .str .k, dK, .v (.ptr tQILLIE) (.o 37 none (.p .k (.o 22 none (.o 3 none .k)))), dK, dK, dK, .v .bool .k, .v (.ptr tQILLIE) (.o 37 none (.p .k (.o 22 none (.o 3 none .k)))), dK, dK, dK, dK, dK, dK, dK, dK, dK, dK, dK, dK, dK, dK, dK, dK, dK, dK, dK, dK, dK, dK, .v (.sl .str) .k, .v (.int .i64) .k, .v (.int .i64) .k, dK, dK, dK, dK, dK, dK, dK, dK, dK, dK, dK, dK, dK, dK, dK, dK, dK, dK, dK, dK, dK, dK, dK, dK, dK, dK, dK, dK, dK, dK, dK, dK, dK, dK, dK, dK, dK, dK, dK, dK, dK, dK, dK, dK, dK]
noncomputable def ko_impl_ParseGraph_l5_0 : List Kd := [.v .str .k, dK, .v (.ptr tQILLIE) (.o 37 none (.p .k (.o 22 none (.o 3 none .k)))), dK, dK, dK, .v .bool .k, .v (.ptr tQILLIE) (.o 37 none (.p .k (.o 22 none (.o 3 none .k)))), dK, dK, dK, dK, dK, dK, dK, dK, dK, dK, dK, dK, dK, dK, dK, dK, dK, dK, dK, dK, dK, dK, dK, dK, dK, dK, dK, dK, dK, dK, dK, dK, dK, dK, dK, dK, dK, dK, dK, dK, dK, dK, dK, dK, dK, dK, dK, dK, dK, dK, dK, dK, dK, dK, dK, dK, dK, dK, dK, dK, dK, dK, dK, dK, dK, dK, dK, dK, dK, dK]
noncomputable def h_impl_ParseGraph : Hint := { tab, hn := [(27, (.o 3 none .k))], loops := [(5, ks_impl_ParseGraph_l5)], outs := [(5, 2, ko_impl_ParseGraph_l5_0)], ords := [] }
noncomputable def sg_impl_ParseGraph : List AK := [.v .str .k]
noncomputable def F_impl_ParseGraph (N : Nat) (x : AVals sg_impl_ParseGraph) (kf : Ret → Option Ret) : Option Ret := impl_ParseGraph N x.1 (fun r0 r1 => kf ⟨[⟨tQILLIE, (.p .k (.o 22 none (.o 3 none .k))), r0⟩, ⟨.bool, .k, r1⟩], []⟩)
noncomputable def run_impl_ParseGraph (N : Nat) := runOf sg_impl_ParseGraph (F_impl_ParseGraph N)
noncomputable def es_impl_ParseGraph (N : Nat) : List Entry := [⟨68, [.val, .val], (run_strings_Split N)⟩, ⟨69, [.val], (run_impl_ParseInt N)⟩, ⟨70, [.val, .val], (run_strings_Cut N)⟩, ⟨23, [.val], (run_impl_GraphText N)⟩]
noncomputable def body_impl_ParseGraph : Code := match Tryd.f41.body with | some c => c | none => .skip
noncomputable def L_impl_ParseGraph (N n : Nat) (key : Nat) (S : St) (K : Ks) : Option Ret := bif Nat.beq key 5 then withVals ks_impl_ParseGraph_l5 S (fun x => impl_ParseGraph_l5 N x.1 x.2.1 x.2.2.2.2.1 x.2.2.2.2.2.1 n (fun z0 z1 => K (.x 0) (shape ko_impl_ParseGraph_l5_0 (x.1, x.2.1, z0, z1, ()))) x.2.2.1 x.2.2.2.1 x.2.2.2.2.2.2.1) else none
theorem L0_impl_ParseGraph (N key : Nat) (S : St) (K : Ks) : L_impl_ParseGraph N 0 key S K = none := (bif0 (withVals0 fun _ => rfl) rfl)
noncomputable def c_impl_ParseGraph_0 : Code := (loopsIn body_impl_ParseGraph).getD 0 .skip
theorem ls_impl_ParseGraph : loopsIn body_impl_ParseGraph = [c_impl_ParseGraph_0] := by kernel_rfl
theorem rd_impl_ParseGraph_5 (N n : Nat) (x : Vals ks_impl_ParseGraph_l5) (K : Ks) : L_impl_ParseGraph N (n + 1) 5 (shape ks_impl_ParseGraph_l5 x) (h_impl_ParseGraph.onOut 5 K) = peRound h_impl_ParseGraph (Orc.of (es_impl_ParseGraph N)) (mixL (L_impl_ParseGraph N) N n 5) c_impl_ParseGraph_0 (shape ks_impl_ParseGraph_l5 x) (h_impl_ParseGraph.onOut 5 K) := by kernel_rfl
theorem fn_impl_ParseGraph (N : Nat) (x : AVals sg_impl_ParseGraph) (kf : Ret → Option Ret) : F_impl_ParseGraph N x kf = peFunc h_impl_ParseGraph (Orc.of (es_impl_ParseGraph N)) (L_impl_ParseGraph N N) Tryd.f41 (ashape sg_impl_ParseGraph x) kf := by kernel_rfl
theorem sd_impl_ParseGraph {Γ : Gl} (hΓ : TabΓ Γ) (N : Nat) : Sound Γ Tryd.prog 41 (run_impl_ParseGraph N) := fun_ok2 (hh := h_impl_ParseGraph) mixed tab_ok (es := es_impl_ParseGraph N) ⟨sd_strings_Split hΓ N, ⟨sd_impl_ParseInt hΓ N, ⟨sd_strings_Cut hΓ N, ⟨sd_impl_GraphText hΓ N, trivial⟩⟩⟩⟩ (fn := Tryd.f41) (body := body_impl_ParseGraph) (by kernel_rfl) (by kernel_rfl) (by kernel_rfl) (by kernel_rfl) (by kernel_rfl) (Lf := L_impl_ParseGraph N) (L0_impl_ParseGraph N) ls_impl_ParseGraph (round_cons (key := 5) (ks := ks_impl_ParseGraph_l5) (by kernel_rfl) (by kernel_rfl) (rd_impl_ParseGraph_5 N) trivial) (N := N) (by kernel_rfl) (fn_impl_ParseGraph N) (.inl (by kernel_rfl))
/-! laws_markIntS -/
noncomputable def ks_laws_markIntS_l2 : List Kd := [.v (.sl (.int .i64)) (.o 3 (some 0) .k), .v (.int .i64) .k, dK, dK, dK, .v (.int .i64) .k, dK, dK, dK, dK, dK, dK, dK, dK, dK, dK, dK, dK, dK]
noncomputable def ko_laws_markIntS_l2_0 : List Kd := [.v (.sl (.int .i64)) (.o 3 (some 0) .k), .v (.int .i64) .k, dK, dK, dK, dK, dK, dK, dK, dK, dK, dK, dK, dK, dK, dK, dK, dK, dK]
noncomputable def h_laws_markIntS : Hint := { tab, hn := [], loops := [(2, ks_laws_markIntS_l2)], outs := [(2, 2, ko_laws_markIntS_l2_0)], ords := [], lent := some (0, false) }
noncomputable def sg_laws_markIntS : List AK := [.v (.sl (.int .i64)) (.o 3 (some 0) .k), .v (.int .i64) .k]
noncomputable def F_laws_markIntS (N : Nat) (x : AVals sg_laws_markIntS) (kf : Ret → Option Ret) : Option Ret := laws_markIntS N x.1 x.2.1 (fun r0 z => kf ⟨[⟨(.int .i64), .k, r0⟩], [⟨(.sl (.int .i64)), (.o 3 (some 0) .k), z⟩]⟩)
noncomputable def run_laws_markIntS (N : Nat) := runOf sg_laws_markIntS (F_laws_markIntS N)
noncomputable def es_laws_markIntS (N : Nat) : List Entry := []
noncomputable def body_laws_markIntS : Code := match Tryd.f94.body with | some c => c | none => .skip
noncomputable def L_laws_markIntS (N n : Nat) (key : Nat) (S : St) (K : Ks) : Option Ret := bif Nat.beq key 2 then withVals ks_laws_markIntS_l2 S (fun x => laws_markIntS_l2 n (fun z0 z1 => K (.x 0) (shape ko_laws_markIntS_l2_0 (z0, z1, ()))) x.1 x.2.1 x.2.2.1) else none
theorem L0_laws_markIntS (N key : Nat) (S : St) (K : Ks) : L_laws_markIntS N 0 key S K = none := (bif0 (withVals0 fun _ => rfl) rfl)
noncomputable def c_laws_markIntS_0 : Code := (loopsIn body_laws_markIntS).getD 0 .skip
theorem ls_laws_markIntS : loopsIn body_laws_markIntS = [c_laws_markIntS_0] := by kernel_rfl
theorem rd_laws_markIntS_2 (N n : Nat) (x : Vals ks_laws_markIntS_l2) (K : Ks) : L_laws_markIntS N (n + 1) 2 (shape ks_laws_markIntS_l2 x) (h_laws_markIntS.onOut 2 K) = peRound h_laws_markIntS (Orc.of (es_laws_markIntS N)) (mixL (L_laws_markIntS N) N n 2) c_laws_markIntS_0 (shape ks_laws_markIntS_l2 x) (h_laws_markIntS.onOut 2 K) := by kernel_rfl
theorem fn_laws_markIntS (N : Nat) (x : AVals sg_laws_markIntS) (kf : Ret → Option Ret) : F_laws_markIntS N x kf = peFunc h_laws_markIntS (Orc.of (es_laws_markIntS N)) (L_laws_markIntS N N) Tryd.f94 (ashape sg_laws_markIntS x) kf := by kernel_rfl
theorem sd_laws_markIntS {Γ : Gl} (hΓ : TabΓ Γ) (N : Nat) : Sound Γ Tryd.prog 94 (run_laws_markIntS N) := fun_ok2 (hh := h_laws_markIntS) mixed tab_ok (es := es_laws_markIntS N) trivial (fn := Tryd.f94) (body := body_laws_markIntS) (by kernel_rfl) (by kernel_rfl) (by kernel_rfl) (by kernel_rfl) (by kernel_rfl) (Lf := L_laws_markIntS N) (L0_laws_markIntS N) ls_laws_markIntS (round_cons (key := 2) (ks := ks_laws_markIntS_l2) (by kernel_rfl) (by kernel_rfl) (rd_laws_markIntS_2 N) trivial) (N := N) (by kernel_rfl) (fn_laws_markIntS N) (.inl (by kernel_rfl))
/-! laws_markIntSS -/
noncomputable def ks_laws_markIntSS_l2 : List Kd := [.v (.sl (.sl (.int .i64))) (.o 22 (some 0) (.o 3 none .k)), .v (.int .i64) .k, dK, dK, dK, .v (.int .i64) .k, dK, dK, dK, dK, dK, dK, dK, dK, dK, dK, dK, dK, dK]
noncomputable def ko_laws_markIntSS_l2_0 : List Kd := [.v (.sl (.sl (.int .i64))) (.o 22 (some 0) (.o 3 none .k)), .v (.int .i64) .k, dK, dK, dK, dK, dK, dK, dK, dK, dK, dK, dK, dK, dK, dK, dK, dK, dK]
noncomputable def h_laws_markIntSS : Hint := { tab, hn := [], loops := [(2, ks_laws_markIntSS_l2)], outs := [(2, 2, ko_laws_markIntSS_l2_0)], ords := [], lent := some (0, false) }
noncomputable def sg_laws_markIntSS : List AK := [.v (.sl (.sl (.int .i64))) (.o 22 (some 0) (.o 3 none .k)), .v (.int .i64) .k]
noncomputable def F_laws_markIntSS (N : Nat) (x : AVals sg_laws_markIntSS) (kf : Ret → Option Ret) : Option Ret := laws_markIntSS N x.1 x.2.1 (fun r0 z => kf ⟨[⟨(.int .i64), .k, r0⟩], [⟨(.sl (.sl (.int .i64))), (.o 22 (some 0) (.o 3 none .k)), z⟩]⟩)
noncomputable def run_laws_markIntSS (N : Nat) := runOf sg_laws_markIntSS (F_laws_markIntSS N)
noncomputable def es_laws_markIntSS (N : Nat) : List Entry := [⟨94, [.lend, .val], (run_laws_markIntS N)⟩]
noncomputable def body_laws_markIntSS : Code := match Tryd.f71.body with | some c => c | none => .skip
noncomputable def L_laws_markIntSS (N n : Nat) (key : Nat) (S : St) (K : Ks) : Option Ret := bif Nat.beq key 2 then withVals ks_laws_markIntSS_l2 S (fun x => laws_markIntSS_l2 N n (fun z0 z1 => K (.x 0) (shape ko_laws_markIntSS_l2_0 (z0, z1, ()))) x.1 x.2.1 x.2.2.1) else none
theorem L0_laws_markIntSS (N key : Nat) (S : St) (K : Ks) : L_laws_markIntSS N 0 key S K = none := (bif0 (withVals0 fun _ => rfl) rfl)
noncomputable def c_laws_markIntSS_0 : Code := (loopsIn body_laws_markIntSS).getD 0 .skip
theorem ls_laws_markIntSS : loopsIn body_laws_markIntSS = [c_laws_markIntSS_0] := by kernel_rfl
theorem rd_laws_markIntSS_2 (N n : Nat) (x : Vals ks_laws_markIntSS_l2) (K : Ks) : L_laws_markIntSS N (n + 1) 2 (shape ks_laws_markIntSS_l2 x) (h_laws_markIntSS.onOut 2 K) = peRound h_laws_markIntSS (Orc.of (es_laws_markIntSS N)) (mixL (L_laws_markIntSS N) N n 2) c_laws_markIntSS_0 (shape ks_laws_markIntSS_l2 x) (h_laws_markIntSS.onOut 2 K) := by kernel_rfl
theorem fn_laws_markIntSS (N : Nat) (x : AVals sg_laws_markIntSS) (kf : Ret → Option Ret) : F_laws_markIntSS N x kf = peFunc h_laws_markIntSS (Orc.of (es_laws_markIntSS N)) (L_laws_markIntSS N N) Tryd.f71 (ashape sg_laws_markIntSS x) kf := by kernel_rfl
theorem sd_laws_markIntSS {Γ : Gl} (hΓ : TabΓ Γ) (N : Nat) : Sound Γ Tryd.prog 71 (run_laws_markIntSS N) := fun_ok2 (hh := h_laws_markIntSS) mixed tab_ok (es := es_laws_markIntSS N) ⟨sd_laws_markIntS hΓ N, trivial⟩ (fn := Tryd.f71) (body := body_laws_markIntSS) (by kernel_rfl) (by kernel_rfl) (by kernel_rfl) (by kernel_rfl) (by kernel_rfl) (Lf := L_laws_markIntSS N) (L0_laws_markIntSS N) ls_laws_markIntSS (round_cons (key := 2) (ks := ks_laws_markIntSS_l2) (by kernel_rfl) (by kernel_rfl) (rd_laws_markIntSS_2 N) trivial) (N := N) (by kernel_rfl) (fn_laws_markIntSS N) (.inl (by kernel_rfl))
/-! laws_markGraph -/
noncomputable def h_laws_markGraph : Hint := { tab, hn := [], loops := [], outs := [], ords := [], lent := some (2, true) }
noncomputable def sg_laws_markGraph : List AK := [.v tQILLIE (.p .k (.o 22 (some 1) (.o 3 none .k))), .v (.int .i64) .k]
noncomputable def F_laws_markGraph (N : Nat) (x : AVals sg_laws_markGraph) (kf : Ret → Option Ret) : Option Ret := laws_markGraph N x.1 x.2.1 (fun r0 z => kf ⟨[⟨(.int .i64), .k, r0⟩], [⟨tQILLIE, (.p .k (.o 22 (some 1) (.o 3 none .k))), z⟩]⟩)
noncomputable def run_laws_markGraph (N : Nat) := runOf sg_laws_markGraph (F_laws_markGraph N)
noncomputable def es_laws_markGraph (N : Nat) : List Entry := [⟨71, [.lend, .val], (run_laws_markIntSS N)⟩]
noncomputable def body_laws_markGraph : Code := match Tryd.f42.body with | some c => c | none => .skip
noncomputable def L_laws_markGraph (N n : Nat) (key : Nat) (S : St) (K : Ks) : Option Ret := none
theorem L0_laws_markGraph (N key : Nat) (S : St) (K : Ks) : L_laws_markGraph N 0 key S K = none := rfl
theorem ls_laws_markGraph : loopsIn body_laws_markGraph = [] := by kernel_rfl
theorem fn_laws_markGraph (N : Nat) (x : AVals sg_laws_markGraph) (kf : Ret → Option Ret) : F_laws_markGraph N x kf = peFunc h_laws_markGraph (Orc.of (es_laws_markGraph N)) (L_laws_markGraph N N) Tryd.f42 (ashape sg_laws_markGraph x) kf := by kernel_rfl
theorem sd_laws_markGraph {Γ : Gl} (hΓ : TabΓ Γ) (N : Nat) : Sound Γ Tryd.prog 42 (run_laws_markGraph N) := fun_ok2 (hh := h_laws_markGraph) mixed tab_ok (es := es_laws_markGraph N) ⟨sd_laws_markIntSS hΓ N, trivial⟩ (fn := Tryd.f42) (body := body_laws_markGraph) (by kernel_rfl) (by kernel_rfl) (by kernel_rfl) (by kernel_rfl) (by kernel_rfl) (Lf := L_laws_markGraph N) (L0_laws_markGraph N) ls_laws_markGraph trivial (N := N) (by kernel_rfl) (fn_laws_markGraph N) (.inl (by kernel_rfl))
/-! laws_heldIntS -/
noncomputable def ks_laws_heldIntS_l2 : List Kd := [.v (.sl (.int .i64)) .k, .v (.int .i64) .k, dK, dK, dK, .v (.int .i64) .k, dK, dK, dK, dK, dK, dK, dK, dK, dK, dK, dK, dK, dK, dK, dK]
noncomputable def ko_laws_heldIntS_l2_0 : List Kd := [dK, .v (.int .i64) .k, dK, dK, dK, dK, dK, dK, dK, dK, dK, dK, dK, dK, dK, dK, dK, dK, dK, dK, dK]
noncomputable def ko_laws_heldIntS_l2_1 : List Kd := [dK, dK, dK, dK, .v (.int .i64) .k, dK, dK, dK, dK, dK, dK, dK, dK, dK, dK, dK, dK, dK, dK, dK, dK]
noncomputable def h_laws_heldIntS : Hint := { tab, hn := [], loops := [(2, ks_laws_heldIntS_l2)], outs := [(2, 2, ko_laws_heldIntS_l2_0), (2, 1, ko_laws_heldIntS_l2_1)], ords := [] }
noncomputable def sg_laws_heldIntS : List AK := [.v (.sl (.int .i64)) .k, .v (.int .i64) .k]
noncomputable def F_laws_heldIntS (N : Nat) (x : AVals sg_laws_heldIntS) (kf : Ret → Option Ret) : Option Ret := laws_heldIntS N x.1 x.2.1 (fun r0 => kf ⟨[⟨(.int .i64), .k, r0⟩], []⟩)
noncomputable def run_laws_heldIntS (N : Nat) := runOf sg_laws_heldIntS (F_laws_heldIntS N)
noncomputable def es_laws_heldIntS (N : Nat) : List Entry := []
noncomputable def body_laws_heldIntS : Code := match Tryd.f95.body with | some c => c | none => .skip
noncomputable def L_laws_heldIntS (N n : Nat) (key : Nat) (S : St) (K : Ks) : Option Ret := bif Nat.beq key 2 then withVals ks_laws_heldIntS_l2 S (fun x => laws_heldIntS_l2 x.1 n (fun z0 => K (.x 0) (shape ko_laws_heldIntS_l2_0 (z0, ()))) (fun z0 => K .r (shape ko_laws_heldIntS_l2_1 (z0, ()))) x.2.1 x.2.2.1) else none
theorem L0_laws_heldIntS (N key : Nat) (S : St) (K : Ks) : L_laws_heldIntS N 0 key S K = none := (bif0 (withVals0 fun _ => rfl) rfl)
noncomputable def c_laws_heldIntS_0 : Code := (loopsIn body_laws_heldIntS).getD 0 .skip
theorem ls_laws_heldIntS : loopsIn body_laws_heldIntS = [c_laws_heldIntS_0] := by kernel_rfl
theorem rd_laws_heldIntS_2 (N n : Nat) (x : Vals ks_laws_heldIntS_l2) (K : Ks) : L_laws_heldIntS N (n + 1) 2 (shape ks_laws_heldIntS_l2 x) (h_laws_heldIntS.onOut 2 K) = peRound h_laws_heldIntS (Orc.of (es_laws_heldIntS N)) (mixL (L_laws_heldIntS N) N n 2) c_laws_heldIntS_0 (shape ks_laws_heldIntS_l2 x) (h_laws_heldIntS.onOut 2 K) := by kernel_rfl
theorem fn_laws_heldIntS (N : Nat) (x : AVals sg_laws_heldIntS) (kf : Ret → Option Ret) : F_laws_heldIntS N x kf = peFunc h_laws_heldIntS (Orc.of (es_laws_heldIntS N)) (L_laws_heldIntS N N) Tryd.f95 (ashape sg_laws_heldIntS x) kf := by kernel_rfl
theorem sd_laws_heldIntS {Γ : Gl} (hΓ : TabΓ Γ) (N : Nat) : Sound Γ Tryd.prog 95 (run_laws_heldIntS N) := fun_ok2 (hh := h_laws_heldIntS) mixed tab_ok (es := es_laws_heldIntS N) trivial (fn := Tryd.f95) (body := body_laws_heldIntS) (by kernel_rfl) (by kernel_rfl) (by kernel_rfl) (by kernel_rfl) (by kernel_rfl) (Lf := L_laws_heldIntS N) (L0_laws_heldIntS N) ls_laws_heldIntS (round_cons (key := 2) (ks := ks_laws_heldIntS_l2) (by kernel_rfl) (by kernel_rfl) (rd_laws_heldIntS_2 N) trivial) (N := N) (by kernel_rfl) (fn_laws_heldIntS N) (.inl (by kernel_rfl))
/-! laws_heldIntSS -/
noncomputable def ks_laws_heldIntSS_l2 : List Kd := [.v (.sl (.sl (.int .i64))) .k, .v (.int .i64) .k, dK, dK, dK, .v (.int .i64) .k, dK, dK, dK, dK, dK, dK, dK, dK, dK, dK, dK, dK, dK, dK, dK]
noncomputable def ko_laws_heldIntSS_l2_0 : List Kd := [dK, .v (.int .i64) .k, dK, dK, dK, dK, dK, dK, dK, dK, dK, dK, dK, dK, dK, dK, dK, dK, dK, dK, dK]
noncomputable def ko_laws_heldIntSS_l2_1 : List Kd := [dK, dK, dK, dK, .v (.int .i64) .k, dK, dK, dK, dK, dK, dK, dK, dK, dK, dK, dK, dK, dK, dK, dK, dK]
noncomputable def h_laws_heldIntSS : Hint := { tab, hn := [], loops := [(2, ks_laws_heldIntSS_l2)], outs := [(2, 2, ko_laws_heldIntSS_l2_0), (2, 1, ko_laws_heldIntSS_l2_1)], ords := [] }
noncomputable def sg_laws_heldIntSS : List AK := [.v (.sl (.sl (.int .i64))) .k, .v (.int .i64) .k]
noncomputable def F_laws_heldIntSS (N : Nat) (x : AVals sg_laws_heldIntSS) (kf : Ret → Option Ret) : Option Ret := laws_heldIntSS N x.1 x.2.1 (fun r0 => kf ⟨[⟨(.int .i64), .k, r0⟩], []⟩)
noncomputable def run_laws_heldIntSS (N : Nat) := runOf sg_laws_heldIntSS (F_laws_heldIntSS N)
noncomputable def es_laws_heldIntSS (N : Nat) : List Entry := [⟨95, [.val, .val], (run_laws_heldIntS N)⟩]
noncomputable def body_laws_heldIntSS : Code := match Tryd.f72.body with | some c => c | none => .skip
noncomputable def L_laws_heldIntSS (N n : Nat) (key : Nat) (S : St) (K : Ks) : Option Ret := bif Nat.beq key 2 then withVals ks_laws_heldIntSS_l2 S (fun x => laws_heldIntSS_l2 N x.1 n (fun z0 => K (.x 0) (shape ko_laws_heldIntSS_l2_0 (z0, ()))) (fun z0 => K .r (shape ko_laws_heldIntSS_l2_1 (z0, ()))) x.2.1 x.2.2.1) else none
theorem L0_laws_heldIntSS (N key : Nat) (S : St) (K : Ks) : L_laws_heldIntSS N 0 key S K = none := (bif0 (withVals0 fun _ => rfl) rfl)
noncomputable def c_laws_heldIntSS_0 : Code := (loopsIn body_laws_heldIntSS).getD 0 .skip
theorem ls_laws_heldIntSS : loopsIn body_laws_heldIntSS = [c_laws_heldIntSS_0] := by kernel_rfl
theorem rd_laws_heldIntSS_2 (N n : Nat) (x : Vals ks_laws_heldIntSS_l2) (K : Ks) : L_laws_heldIntSS N (n + 1) 2 (shape ks_laws_heldIntSS_l2 x) (h_laws_heldIntSS.onOut 2 K) = peRound h_laws_heldIntSS (Orc.of (es_laws_heldIntSS N)) (mixL (L_laws_heldIntSS N) N n 2) c_laws_heldIntSS_0 (shape ks_laws_heldIntSS_l2 x) (h_laws_heldIntSS.onOut 2 K) := by kernel_rfl
theorem fn_laws_heldIntSS (N : Nat) (x : AVals sg_laws_heldIntSS) (kf : Ret → Option Ret) : F_laws_heldIntSS N x kf = peFunc h_laws_heldIntSS (Orc.of (es_laws_heldIntSS N)) (L_laws_heldIntSS N N) Tryd.f72 (ashape sg_laws_heldIntSS x) kf := by kernel_rfl
theorem sd_laws_heldIntSS {Γ : Gl} (hΓ : TabΓ Γ) (N : Nat) : Sound Γ Tryd.prog 72 (run_laws_heldIntSS N) := fun_ok2 (hh := h_laws_heldIntSS) mixed tab_ok (es := es_laws_heldIntSS N) ⟨sd_laws_heldIntS hΓ N, trivial⟩ (fn := Tryd.f72) (body := body_laws_heldIntSS) (by kernel_rfl) (by kernel_rfl) (by kernel_rfl) (by kernel_rfl) (by kernel_rfl) (Lf := L_laws_heldIntSS N) (L0_laws_heldIntSS N) ls_laws_heldIntSS (round_cons (key := 2) (ks := ks_laws_heldIntSS_l2) (by kernel_rfl) (by kernel_rfl) (rd_laws_heldIntSS_2 N) trivial) (N := N) (by kernel_rfl) (fn_laws_heldIntSS N) (.inl (by kernel_rfl))
/-! laws_heldGraph -/
noncomputable def h_laws_heldGraph : Hint := { tab, hn := [], loops := [], outs := [], ords := [] }
noncomputable def sg_laws_heldGraph : List AK := [.v tQILLIE .k, .v (.int .i64) .k]
noncomputable def F_laws_heldGraph (N : Nat) (x : AVals sg_laws_heldGraph) (kf : Ret → Option Ret) : Option Ret := laws_heldGraph N x.1 x.2.1 (fun r0 => kf ⟨[⟨(.int .i64), .k, r0⟩], []⟩)
noncomputable def run_laws_heldGraph (N : Nat) := runOf sg_laws_heldGraph (F_laws_heldGraph N)
noncomputable def es_laws_heldGraph (N : Nat) : List Entry := [⟨72, [.val, .val], (run_laws_heldIntSS N)⟩]
noncomputable def body_laws_heldGraph : Code := match Tryd.f43.body with | some c => c | none => .skip
noncomputable def L_laws_heldGraph (N n : Nat) (key : Nat) (S : St) (K : Ks) : Option Ret := none
theorem L0_laws_heldGraph (N key : Nat) (S : St) (K : Ks) : L_laws_heldGraph N 0 key S K = none := rfl
theorem ls_laws_heldGraph : loopsIn body_laws_heldGraph = [] := by kernel_rfl
theorem fn_laws_heldGraph (N : Nat) (x : AVals sg_laws_heldGraph) (kf : Ret → Option Ret) : F_laws_heldGraph N x kf = peFunc h_laws_heldGraph (Orc.of (es_laws_heldGraph N)) (L_laws_heldGraph N N) Tryd.f43 (ashape sg_laws_heldGraph x) kf := by kernel_rfl
theorem sd_laws_heldGraph {Γ : Gl} (hΓ : TabΓ Γ) (N : Nat) : Sound Γ Tryd.prog 43 (run_laws_heldGraph N) := fun_ok2 (hh := h_laws_heldGraph) mixed tab_ok (es := es_laws_heldGraph N) ⟨sd_laws_heldIntSS hΓ N, trivial⟩ (fn := Tryd.f43) (body := body_laws_heldGraph) (by kernel_rfl) (by kernel_rfl) (by kernel_rfl) (by kernel_rfl) (by kernel_rfl) (Lf := L_laws_heldGraph N) (L0_laws_heldGraph N) ls_laws_heldGraph trivial (N := N) (by kernel_rfl) (fn_laws_heldGraph N) (.inl (by kernel_rfl))
/-! laws_FnExactParseGraph -/
noncomputable def h_laws_FnExactParseGraph : Hint := { tab, hn := [], loops := [], outs := [], ords := [] }
noncomputable def sg_laws_FnExactParseGraph : List AK := [.v .str .k]
noncomputable def F_laws_FnExactParseGraph (N : Nat) (x : AVals sg_laws_FnExactParseGraph) (kf : Ret → Option Ret) : Option Ret := laws_FnExactParseGraph N x.1 (fun r0 => kf ⟨[⟨.bool, .k, r0⟩], []⟩)
noncomputable def run_laws_FnExactParseGraph (N : Nat) := runOf sg_laws_FnExactParseGraph (F_laws_FnExactParseGraph N)
noncomputable def es_laws_FnExactParseGraph (N : Nat) : List Entry := [⟨40, [.val], (run_spec_ParseGraph N)⟩, ⟨41, [.val], (run_impl_ParseGraph N)⟩, ⟨24, [.val, .val], (run_laws_eqGraph N)⟩, ⟨42, [.lend, .val], (run_laws_markGraph N)⟩, ⟨43, [.val, .val], (run_laws_heldGraph N)⟩]
noncomputable def body_laws_FnExactParseGraph : Code := match Tryd.f9.body with | some c => c | none => .skip
noncomputable def L_laws_FnExactParseGraph (N n : Nat) (key : Nat) (S : St) (K : Ks) : Option Ret := none
theorem L0_laws_FnExactParseGraph (N key : Nat) (S : St) (K : Ks) : L_laws_FnExactParseGraph N 0 key S K = none := rfl
theorem ls_laws_FnExactParseGraph : loopsIn body_laws_FnExactParseGraph = [] := by kernel_rfl
theorem fn_laws_FnExactParseGraph (N : Nat) (x : AVals sg_laws_FnExactParseGraph) (kf : Ret → Option Ret) : F_laws_FnExactParseGraph N x kf = peFunc h_laws_FnExactParseGraph (Orc.of (es_laws_FnExactParseGraph N)) (L_laws_FnExactParseGraph N N) Tryd.f9 (ashape sg_laws_FnExactParseGraph x) kf := by kernel_rfl
theorem sd_laws_FnExactParseGraph {Γ : Gl} (hΓ : TabΓ Γ) (N : Nat) : Sound Γ Tryd.prog 9 (run_laws_FnExactParseGraph N) := fun_ok2 (hh := h_laws_FnExactParseGraph) mixed tab_ok (es := es_laws_FnExactParseGraph N) ⟨sd_spec_ParseGraph hΓ N, ⟨sd_impl_ParseGraph hΓ N, ⟨sd_laws_eqGraph hΓ N, ⟨sd_laws_markGraph hΓ N, ⟨sd_laws_heldGraph hΓ N, trivial⟩⟩⟩⟩⟩ (fn := Tryd.f9) (body := body_laws_FnExactParseGraph) (by kernel_rfl) (by kernel_rfl) (by kernel_rfl) (by kernel_rfl) (by kernel_rfl) (Lf := L_laws_FnExactParseGraph N) (L0_laws_FnExactParseGraph N) ls_laws_FnExactParseGraph trivial (N := N) (by kernel_rfl) (fn_laws_FnExactParseGraph N) (.inl (by kernel_rfl))
end Go.Pv.R
