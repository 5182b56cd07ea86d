/- Each function of the program that the law reaches computes its plain function, part 0. -/
import Derived.Test.YthdoldaaodmeeaaDoorPlRes
import Derived.Test.YthdoldaaodmeeaaDoorJoi
import Derived.Test.YthdoldaaodmeeaaDoorProg
namespace Go.Pv.R
open Go.Proofs
set_option linter.unusedVariables false
set_option maxRecDepth 100000
noncomputable abbrev dK : Kd := .dead
noncomputable def tab : Tab := [⟨2, (.int .i64), 0, []⟩, ⟨3, (.int .i64), 0, []⟩, ⟨4, .bool, 0, []⟩, ⟨5, (.int .u8), 0, []⟩, ⟨9, .str, 0, []⟩, ⟨12, (.int .u64), 0, []⟩, ⟨21, (.int .i32), 0, []⟩, ⟨22, (.sl (.int .i64)), 3, []⟩, ⟨27, (.sl (.sl (.int .i64))), 22, []⟩, ⟨33, tQILLIE, 0, [3, 27]⟩, ⟨34, tQILLIE, 0, [3, 27]⟩, ⟨37, tQILLIE, 0, [3, 27]⟩, ⟨41, (.sl tQIIE), 90, []⟩, ⟨44, (.sl tQIIE), 88, []⟩, ⟨48, (.sl tQIIIE), 96, []⟩, ⟨51, (.sl tQIIIE), 94, []⟩, ⟨55, (.sl tQIIIIILIE), 100, []⟩, ⟨58, (.sl tQIIIIILIE), 101, []⟩, ⟨66, (.sl tQIILIE), 136, []⟩, ⟨67, (.sl tQIIIE), 142, []⟩, ⟨68, (.sl tQIIIIE), 146, []⟩, ⟨69, tQLQIIIIILIELQIILIELQIIELILQIIIELQIIIIEIE, 0, [55, 66, 41, 22, 67, 68, 3]⟩, ⟨70, tQLQIIIIILIELQIILIELQIIELILQIIIELQIIIIEIE, 0, [55, 66, 41, 22, 67, 68, 3]⟩, ⟨73, (.sl tQIILIE), 139, []⟩, ⟨74, (.sl tQIIIE), 138, []⟩, ⟨75, (.sl tQIIIIE), 144, []⟩, ⟨76, tQLQIIIIILIELQIILIELQIIELILQIIIELQIIIIEIE, 0, [58, 73, 44, 22, 74, 75, 3]⟩, ⟨77, tQLQIIIIILIELQIILIELQIIELILQIIIELQIIIIEIE, 0, [58, 73, 44, 22, 74, 75, 3]⟩, ⟨81, (.sl .str), 9, []⟩, ⟨87, tQIIE, 0, [3, 3]⟩, ⟨88, tQIIE, 0, [3, 3]⟩, ⟨90, tQIIE, 0, [3, 3]⟩, ⟨93, tQIIIE, 0, [3, 3, 3]⟩, ⟨94, tQIIIE, 0, [3, 3, 3]⟩, ⟨96, tQIIIE, 0, [3, 3, 3]⟩, ⟨99, tQIIIIILIE, 0, [3, 3, 3, 3, 3, 22]⟩, ⟨100, tQIIIIILIE, 0, [3, 3, 3, 3, 3, 22]⟩, ⟨101, tQIIIIILIE, 0, [3, 3, 3, 3, 3, 22]⟩, ⟨120, (.sl (.int .u8)), 5, []⟩, ⟨135, tQIILIE, 0, [3, 3, 22]⟩, ⟨136, tQIILIE, 0, [3, 3, 22]⟩, ⟨137, tQIIIE, 0, [3, 3, 3]⟩, ⟨138, tQIIIE, 0, [3, 3, 3]⟩, ⟨139, tQIILIE, 0, [3, 3, 22]⟩, ⟨142, tQIIIE, 0, [3, 3, 3]⟩, ⟨143, tQIIIIE, 0, [3, 3, 3, 3]⟩, ⟨144, tQIIIIE, 0, [3, 3, 3, 3]⟩, ⟨146, tQIIIIE, 0, [3, 3, 3, 3]⟩, ⟨164, (.int .u64), 0, []⟩, ⟨166, (.int .u64), 0, []⟩, ⟨171, (.int .u32), 0, []⟩]
theorem mixed : Tryd.prog.follows .mixedOrders = true := by kernel_rfl
theorem tab_ok : tabB Tryd.prog tab = true := by kernel_rfl
/-- What stands in the first blocks: Go's table of the powers of ten. -/
abbrev TabΓ (Γ : Gl) : Prop := PowTab Tryd.prog Γ
/-! laws_toIntS -/
noncomputable def ks_laws_toIntS_l3 : List Kd := [.v (.sl (.int .i64)) .k, dK, dK, .v (.sl (.int .i64)) (.o 3 none .k), .v (.int .i64) .k, dK, dK, dK, dK, dK, dK, dK, dK, dK, dK, dK, dK, dK, dK, dK, dK, dK]
noncomputable def ko_laws_toIntS_l3_0 : List Kd := [dK, dK, dK, .v (.sl (.int .i64)) (.o 3 none .k), dK, dK, dK, dK, dK, dK, dK, dK, dK, dK, dK, dK, dK, dK, dK, dK, dK, dK]
noncomputable def h_laws_toIntS : Hint := { tab, hn := [], loops := [(3, ks_laws_toIntS_l3)], outs := [(3, 2, ko_laws_toIntS_l3_0)], ords := [] }
noncomputable def sg_laws_toIntS : List AK := [.v (.sl (.int .i64)) .k]
noncomputable def F_laws_toIntS (N : Nat) (x : AVals sg_laws_toIntS) (kf : Ret → Option Ret) : Option Ret := laws_toIntS N x.1 (fun r0 => kf ⟨[⟨(.sl (.int .i64)), (.o 3 none .k), r0⟩], []⟩)
noncomputable def run_laws_toIntS (N : Nat) := runOf sg_laws_toIntS (F_laws_toIntS N)
noncomputable def es_laws_toIntS (N : Nat) : List Entry := []
noncomputable def body_laws_toIntS : Code := match Tryd.f12.body with | some c => c | none => .skip
noncomputable def L_laws_toIntS (N n : Nat) (key : Nat) (S : St) (K : Ks) : Option Ret := bif Nat.beq key 3 then withVals ks_laws_toIntS_l3 S (fun x => laws_toIntS_l3 x.1 n (fun z0 => K (.x 0) (shape ko_laws_toIntS_l3_0 (z0, ()))) x.2.1 x.2.2.1) else none
theorem L0_laws_toIntS (N key : Nat) (S : St) (K : Ks) : L_laws_toIntS N 0 key S K = none := (bif0 (withVals0 fun _ => rfl) rfl)
noncomputable def c_laws_toIntS_0 : Code := (loopsIn body_laws_toIntS).getD 0 .skip
theorem ls_laws_toIntS : loopsIn body_laws_toIntS = [c_laws_toIntS_0] := by kernel_rfl
theorem rd_laws_toIntS_3 (N n : Nat) (x : Vals ks_laws_toIntS_l3) (K : Ks) : L_laws_toIntS N (n + 1) 3 (shape ks_laws_toIntS_l3 x) (h_laws_toIntS.onOut 3 K) = peRound h_laws_toIntS (Orc.of (es_laws_toIntS N)) (mixL (L_laws_toIntS N) N n 3) c_laws_toIntS_0 (shape ks_laws_toIntS_l3 x) (h_laws_toIntS.onOut 3 K) := by kernel_rfl
theorem fn_laws_toIntS (N : Nat) (x : AVals sg_laws_toIntS) (kf : Ret → Option Ret) : F_laws_toIntS N x kf = peFunc h_laws_toIntS (Orc.of (es_laws_toIntS N)) (L_laws_toIntS N N) Tryd.f12 (ashape sg_laws_toIntS x) kf := by kernel_rfl
theorem sd_laws_toIntS {Γ : Gl} (hΓ : TabΓ Γ) (N : Nat) : Sound Γ Tryd.prog 12 (run_laws_toIntS N) := fun_ok2 (hh := h_laws_toIntS) mixed tab_ok (es := es_laws_toIntS N) trivial (fn := Tryd.f12) (body := body_laws_toIntS) (by kernel_rfl) (by kernel_rfl) (by kernel_rfl) (by kernel_rfl) (by kernel_rfl) (Lf := L_laws_toIntS N) (L0_laws_toIntS N) ls_laws_toIntS (round_cons (key := 3) (ks := ks_laws_toIntS_l3) (by kernel_rfl) (by kernel_rfl) (rd_laws_toIntS_3 N) trivial) (N := N) (by kernel_rfl) (fn_laws_toIntS N) (.inl (by kernel_rfl))
/-! spec_FormatInt -/
noncomputable def ks_spec_FormatInt_l5 : List Kd := [.v (.int .i64) .k, dK, dK, .v .str .k, .v (.int .i64) .k, dK, dK, dK, dK, dK, dK, dK, dK, dK, dK, dK, dK, dK, dK, dK, dK, dK, dK, dK, dK, dK, dK, dK, dK, dK, dK]
noncomputable def ko_spec_FormatInt_l5_0 : List Kd := [.v (.int .i64) .k, dK, dK, .v .str .k, dK, dK, dK, dK, dK, dK, dK, dK, dK, dK, dK, dK, dK, dK, dK, dK, dK, dK, dK, dK, dK, dK, dK, dK, dK, dK, dK]
noncomputable def h_spec_FormatInt : Hint := { tab, hn := [], loops := [(5, ks_spec_FormatInt_l5)], outs := [(5, 2, ko_spec_FormatInt_l5_0)], ords := [] }
noncomputable def sg_spec_FormatInt : List AK := [.v (.int .i64) .k]
noncomputable def F_spec_FormatInt (N : Nat) (x : AVals sg_spec_FormatInt) (kf : Ret → Option Ret) : Option Ret := spec_FormatInt N x.1 (fun r0 => kf ⟨[⟨.str, .k, r0⟩], []⟩)
noncomputable def run_spec_FormatInt (N : Nat) := runOf sg_spec_FormatInt (F_spec_FormatInt N)
noncomputable def es_spec_FormatInt (N : Nat) : List Entry := []
noncomputable def body_spec_FormatInt : Code := match Tryd.f49.body with | some c => c | none => .skip
noncomputable def L_spec_FormatInt (N n : Nat) (key : Nat) (S : St) (K : Ks) : Option Ret := bif Nat.beq key 5 then withVals ks_spec_FormatInt_l5 S (fun x => spec_FormatInt_l5 x.1 n (fun z0 => K (.x 0) (shape ko_spec_FormatInt_l5_0 (x.1, z0, ()))) x.2.1 x.2.2.1) else none
theorem L0_spec_FormatInt (N key : Nat) (S : St) (K : Ks) : L_spec_FormatInt N 0 key S K = none := (bif0 (withVals0 fun _ => rfl) rfl)
noncomputable def c_spec_FormatInt_0 : Code := (loopsIn body_spec_FormatInt).getD 0 .skip
theorem ls_spec_FormatInt : loopsIn body_spec_FormatInt = [c_spec_FormatInt_0] := by kernel_rfl
theorem rd_spec_FormatInt_5 (N n : Nat) (x : Vals ks_spec_FormatInt_l5) (K : Ks) : L_spec_FormatInt N (n + 1) 5 (shape ks_spec_FormatInt_l5 x) (h_spec_FormatInt.onOut 5 K) = peRound h_spec_FormatInt (Orc.of (es_spec_FormatInt N)) (mixL (L_spec_FormatInt N) N n 5) c_spec_FormatInt_0 (shape ks_spec_FormatInt_l5 x) (h_spec_FormatInt.onOut 5 K) := by kernel_rfl
theorem fn_spec_FormatInt (N : Nat) (x : AVals sg_spec_FormatInt) (kf : Ret → Option Ret) : F_spec_FormatInt N x kf = peFunc h_spec_FormatInt (Orc.of (es_spec_FormatInt N)) (L_spec_FormatInt N N) Tryd.f49 (ashape sg_spec_FormatInt x) kf := by kernel_rfl
theorem sd_spec_FormatInt {Γ : Gl} (hΓ : TabΓ Γ) (N : Nat) : Sound Γ Tryd.prog 49 (run_spec_FormatInt N) := fun_ok2 (hh := h_spec_FormatInt) mixed tab_ok (es := es_spec_FormatInt N) trivial (fn := Tryd.f49) (body := body_spec_FormatInt) (by kernel_rfl) (by kernel_rfl) (by kernel_rfl) (by kernel_rfl) (by kernel_rfl) (Lf := L_spec_FormatInt N) (L0_spec_FormatInt N) ls_spec_FormatInt (round_cons (key := 5) (ks := ks_spec_FormatInt_l5) (by kernel_rfl) (by kernel_rfl) (rd_spec_FormatInt_5 N) trivial) (N := N) (by kernel_rfl) (fn_spec_FormatInt N) (.inl (by kernel_rfl))
/-! spec_l39Join -/
noncomputable def ks_spec_l39Join_l3 : List Kd := [.v (.sl .str) .k, dK, dK, .v .str .k, .v (.int .i64) .k, dK, dK, dK, dK, dK, dK, dK, dK, dK, dK, dK, dK, dK, dK, dK, dK, dK, dK, dK, dK]
noncomputable def ko_spec_l39Join_l3_0 : List Kd := [.v (.sl .str) .k, dK, dK, .v .str .k, dK, dK, dK, dK, dK, dK, dK, dK, dK, dK, dK, dK, dK, dK, dK, dK, dK, dK, dK, dK, dK]
noncomputable def h_spec_l39Join : Hint := { tab, hn := [], loops := [(3, ks_spec_l39Join_l3)], outs := [(3, 2, ko_spec_l39Join_l3_0)], ords := [] }
noncomputable def sg_spec_l39Join : List AK := [.v (.sl .str) .k]
noncomputable def F_spec_l39Join (N : Nat) (x : AVals sg_spec_l39Join) (kf : Ret → Option Ret) : Option Ret := spec_l39Join N x.1 (fun r0 => kf ⟨[⟨.str, .k, r0⟩], []⟩)
noncomputable def run_spec_l39Join (N : Nat) := runOf sg_spec_l39Join (F_spec_l39Join N)
noncomputable def es_spec_l39Join (N : Nat) : List Entry := []
noncomputable def body_spec_l39Join : Code := match Tryd.f50.body with | some c => c | none => .skip
noncomputable def L_spec_l39Join (N n : Nat) (key : Nat) (S : St) (K : Ks) : Option Ret := bif Nat.beq key 3 then withVals ks_spec_l39Join_l3 S (fun x => spec_l39Join_l3 x.1 n (fun z0 => K (.x 0) (shape ko_spec_l39Join_l3_0 (x.1, z0, ()))) x.2.1 x.2.2.1) else none
theorem L0_spec_l39Join (N key : Nat) (S : St) (K : Ks) : L_spec_l39Join N 0 key S K = none := (bif0 (withVals0 fun _ => rfl) rfl)
noncomputable def c_spec_l39Join_0 : Code := (loopsIn body_spec_l39Join).getD 0 .skip
theorem ls_spec_l39Join : loopsIn body_spec_l39Join = [c_spec_l39Join_0] := by kernel_rfl
theorem rd_spec_l39Join_3 (N n : Nat) (x : Vals ks_spec_l39Join_l3) (K : Ks) : L_spec_l39Join N (n + 1) 3 (shape ks_spec_l39Join_l3 x) (h_spec_l39Join.onOut 3 K) = peRound h_spec_l39Join (Orc.of (es_spec_l39Join N)) (mixL (L_spec_l39Join N) N n 3) c_spec_l39Join_0 (shape ks_spec_l39Join_l3 x) (h_spec_l39Join.onOut 3 K) := by kernel_rfl
theorem fn_spec_l39Join (N : Nat) (x : AVals sg_spec_l39Join) (kf : Ret → Option Ret) : F_spec_l39Join N x kf = peFunc h_spec_l39Join (Orc.of (es_spec_l39Join N)) (L_spec_l39Join N N) Tryd.f50 (ashape sg_spec_l39Join x) kf := by kernel_rfl
theorem sd_spec_l39Join {Γ : Gl} (hΓ : TabΓ Γ) (N : Nat) : Sound Γ Tryd.prog 50 (run_spec_l39Join N) := fun_ok2 (hh := h_spec_l39Join) mixed tab_ok (es := es_spec_l39Join N) trivial (fn := Tryd.f50) (body := body_spec_l39Join) (by kernel_rfl) (by kernel_rfl) (by kernel_rfl) (by kernel_rfl) (by kernel_rfl) (Lf := L_spec_l39Join N) (L0_spec_l39Join N) ls_spec_l39Join (round_cons (key := 3) (ks := ks_spec_l39Join_l3) (by kernel_rfl) (by kernel_rfl) (rd_spec_l39Join_3 N) trivial) (N := N) (by kernel_rfl) (fn_spec_l39Join N) (.inl (by kernel_rfl))
/-! strconv_Itoa: told by the shelf -/
def ren_strconv_Itoa : Go.Shelf.Ren := ⟨fun n => bif Nat.beq n 129 then 130 else bif Nat.beq n 171 then 84 else bif Nat.beq n 243 then 103 else bif Nat.beq n 246 then 111 else bif Nat.beq n 283 then 122 else bif Nat.beq n 284 then 123 else bif Nat.beq n 285 then 124 else bif Nat.beq n 286 then 125 else bif Nat.beq n 317 then 129 else bif Nat.beq n 318 then 131 else bif Nat.beq n 319 then 132 else bif Nat.beq n 320 then 133 else bif Nat.beq n 337 then 134 else bif Nat.beq n 338 then 135 else n, fun n => bif Nat.beq n 0 then 0 else bif Nat.beq n 2 then 2 else bif Nat.beq n 3 then 3 else bif Nat.beq n 4 then 4 else bif Nat.beq n 5 then 5 else bif Nat.beq n 9 then 9 else bif Nat.beq n 20 then 20 else bif Nat.beq n 37 then 120 else bif Nat.beq n 46 then 164 else bif Nat.beq n 51 then 171 else bif Nat.beq n 53 then 166 else bif Nat.beq n 171 then 165 else bif Nat.beq n 173 then 169 else bif Nat.beq n 212 then 175 else bif Nat.beq n 213 then 176 else bif Nat.beq n 232 then 183 else bif Nat.beq n 233 then 184 else n, fun n => bif Nat.beq n 17 then 1 else bif Nat.beq n 18 then 4 else bif Nat.beq n 19 then 5 else n⟩
theorem lays_strconv_Itoa : LaysM.n171 Tryd.prog ren_strconv_Itoa := { mixed := by kernel_rfl, f129 := by kernel_rfl, f171 := by kernel_rfl, f243 := by kernel_rfl, f246 := by kernel_rfl, f283 := by kernel_rfl, f284 := by kernel_rfl, f285 := by kernel_rfl, f286 := by kernel_rfl, f317 := by kernel_rfl, f318 := by kernel_rfl, f319 := by kernel_rfl, f320 := by kernel_rfl, f337 := by kernel_rfl, f338 := by kernel_rfl, t0 := by kernel_rfl, a0 := fun w => by kernel_rfl, z0 := fun w => by kernel_rfl, v0 := fun w => by kernel_rfl, t2 := by kernel_rfl, a2 := fun w => by kernel_rfl, z2 := fun w => by kernel_rfl, v2 := fun w => by kernel_rfl, t3 := by kernel_rfl, a3 := fun w => by kernel_rfl, z3 := fun w => by kernel_rfl, v3 := fun w => by kernel_rfl, t4 := by kernel_rfl, a4 := fun w => by kernel_rfl, z4 := fun w => by kernel_rfl, v4 := fun w => by kernel_rfl, t5 := by kernel_rfl, a5 := fun w => by kernel_rfl, z5 := fun w => by kernel_rfl, v5 := fun w => by kernel_rfl, t9 := by kernel_rfl, a9 := fun w => by kernel_rfl, z9 := fun w => by kernel_rfl, v9 := fun w => by kernel_rfl, t20 := by kernel_rfl, a20 := fun w => by kernel_rfl, z20 := fun w => by kernel_rfl, v20 := fun w => by kernel_rfl, t37 := by kernel_rfl, a37 := fun w => by kernel_rfl, z37 := fun w => by kernel_rfl, v37 := fun w => by kernel_rfl, t46 := by kernel_rfl, a46 := fun w => by kernel_rfl, z46 := fun w => by kernel_rfl, v46 := fun w => by kernel_rfl, t51 := by kernel_rfl, a51 := fun w => by kernel_rfl, z51 := fun w => by kernel_rfl, v51 := fun w => by kernel_rfl, t53 := by kernel_rfl, a53 := fun w => by kernel_rfl, z53 := fun w => by kernel_rfl, v53 := fun w => by kernel_rfl, t171 := by kernel_rfl, a171 := fun w => by kernel_rfl, z171 := fun w => by kernel_rfl, v171 := fun w => by kernel_rfl, t173 := by kernel_rfl, a173 := fun w => by kernel_rfl, z173 := fun w => by kernel_rfl, v173 := fun w => by kernel_rfl, t212 := by kernel_rfl, a212 := fun w => by kernel_rfl, z212 := fun w => by kernel_rfl, v212 := fun w => by kernel_rfl, t213 := by kernel_rfl, a213 := fun w => by kernel_rfl, z213 := fun w => by kernel_rfl, t232 := by kernel_rfl, a232 := fun w => by kernel_rfl, z232 := fun w => by kernel_rfl, v232 := fun w => by kernel_rfl, t233 := by kernel_rfl, a233 := fun w => by kernel_rfl, z233 := fun w => by kernel_rfl, v233 := fun w => by kernel_rfl, g17 := by kernel_rfl, g18 := by kernel_rfl, g19 := by kernel_rfl, i0 := by kernel_rfl, i2 := by kernel_rfl, i3 := by kernel_rfl, i4 := by kernel_rfl, i5 := by kernel_rfl, i9 := by kernel_rfl, i20 := by kernel_rfl, i37 := by kernel_rfl, i46 := by kernel_rfl, i51 := by kernel_rfl, i53 := by kernel_rfl, i171 := by kernel_rfl, i173 := by kernel_rfl, i212 := by kernel_rfl, i232 := by kernel_rfl, i233 := by kernel_rfl, m17 := by kernel_rfl, m18 := by kernel_rfl, m19 := by kernel_rfl }
noncomputable def sg_strconv_Itoa : List AK := [.v (.int .i64) .k]
noncomputable def F_strconv_Itoa (N : Nat) (x : AVals sg_strconv_Itoa) (kf : Ret → Option Ret) : Option Ret := strconv_Itoa N x.1 (fun r0 => kf ⟨[⟨.str, .k, r0⟩], []⟩)
noncomputable def run_strconv_Itoa (N : Nat) := runOf sg_strconv_Itoa (F_strconv_Itoa N)
theorem sd_strconv_Itoa {Γ : Gl} (hΓ : TabΓ Γ) (N : Nat) : Sound Γ Tryd.prog 84 (run_strconv_Itoa N) := sound_itoa lays_strconv_Itoa hΓ
/-! impl_FormatInt -/
noncomputable def h_impl_FormatInt : Hint := { tab, hn := [], loops := [], outs := [], ords := [] }
noncomputable def sg_impl_FormatInt : List AK := [.v (.int .i64) .k]
noncomputable def F_impl_FormatInt (N : Nat) (x : AVals sg_impl_FormatInt) (kf : Ret → Option Ret) : Option Ret := impl_FormatInt N x.1 (fun r0 => kf ⟨[⟨.str, .k, r0⟩], []⟩)
noncomputable def run_impl_FormatInt (N : Nat) := runOf sg_impl_FormatInt (F_impl_FormatInt N)
noncomputable def es_impl_FormatInt (N : Nat) : List Entry := [⟨84, [.val], (run_strconv_Itoa N)⟩]
noncomputable def body_impl_FormatInt : Code := match Tryd.f51.body with | some c => c | none => .skip
noncomputable def L_impl_FormatInt (N n : Nat) (key : Nat) (S : St) (K : Ks) : Option Ret := none
theorem L0_impl_FormatInt (N key : Nat) (S : St) (K : Ks) : L_impl_FormatInt N 0 key S K = none := rfl
theorem ls_impl_FormatInt : loopsIn body_impl_FormatInt = [] := by kernel_rfl
theorem fn_impl_FormatInt (N : Nat) (x : AVals sg_impl_FormatInt) (kf : Ret → Option Ret) : F_impl_FormatInt N x kf = peFunc h_impl_FormatInt (Orc.of (es_impl_FormatInt N)) (L_impl_FormatInt N N) Tryd.f51 (ashape sg_impl_FormatInt x) kf := by kernel_rfl
theorem sd_impl_FormatInt {Γ : Gl} (hΓ : TabΓ Γ) (N : Nat) : Sound Γ Tryd.prog 51 (run_impl_FormatInt N) := fun_ok2 (hh := h_impl_FormatInt) mixed tab_ok (es := es_impl_FormatInt N) ⟨sd_strconv_Itoa hΓ N, trivial⟩ (fn := Tryd.f51) (body := body_impl_FormatInt) (by kernel_rfl) (by kernel_rfl) (by kernel_rfl) (by kernel_rfl) (by kernel_rfl) (Lf := L_impl_FormatInt N) (L0_impl_FormatInt N) ls_impl_FormatInt trivial (N := N) (by kernel_rfl) (fn_impl_FormatInt N) (.inl (by kernel_rfl))
/-! strings_Join: told by the shelf -/
def ren_strings_Join : Go.Shelf.Ren := ⟨fun n => bif Nat.beq n 156 then 54 else bif Nat.beq n 165 then 85 else bif Nat.beq n 166 then 86 else bif Nat.beq n 169 then 87 else bif Nat.beq n 240 then 104 else bif Nat.beq n 241 then 105 else bif Nat.beq n 276 then 112 else bif Nat.beq n 277 then 113 else n, fun n => bif Nat.beq n 0 then 0 else bif Nat.beq n 3 then 3 else bif Nat.beq n 4 then 4 else bif Nat.beq n 5 then 5 else bif Nat.beq n 9 then 9 else bif Nat.beq n 20 then 20 else bif Nat.beq n 31 then 81 else bif Nat.beq n 37 then 120 else bif Nat.beq n 70 then 121 else bif Nat.beq n 72 then 123 else bif Nat.beq n 75 then 126 else bif Nat.beq n 76 then 127 else bif Nat.beq n 80 then 129 else bif Nat.beq n 127 then 150 else bif Nat.beq n 164 then 155 else n, fun n => n⟩
theorem lays_strings_Join : Lays.n156 Tryd.prog ren_strings_Join := { mixed := by kernel_rfl, f156 := by kernel_rfl, f165 := by kernel_rfl, f166 := by kernel_rfl, f169 := by kernel_rfl, f240 := by kernel_rfl, f241 := by kernel_rfl, f276 := by kernel_rfl, f277 := by kernel_rfl, t0 := by kernel_rfl, a0 := fun w => by kernel_rfl, z0 := fun w => by kernel_rfl, v0 := fun w => by kernel_rfl, t3 := by kernel_rfl, a3 := fun w => by kernel_rfl, z3 := fun w => by kernel_rfl, v3 := fun w => by kernel_rfl, t4 := by kernel_rfl, a4 := fun w => by kernel_rfl, z4 := fun w => by kernel_rfl, v4 := fun w => by kernel_rfl, t9 := by kernel_rfl, a9 := fun w => by kernel_rfl, z9 := fun w => by kernel_rfl, v9 := fun w => by kernel_rfl, t20 := by kernel_rfl, a20 := fun w => by kernel_rfl, z20 := fun w => by kernel_rfl, v20 := fun w => by kernel_rfl, t31 := by kernel_rfl, a31 := fun w => by kernel_rfl, z31 := fun w => by kernel_rfl, v31 := fun w => by kernel_rfl, t37 := by kernel_rfl, a37 := fun w => by kernel_rfl, z37 := fun w => by kernel_rfl, v37 := fun w => by kernel_rfl, t70 := by kernel_rfl, a70 := fun w => by kernel_rfl, z70 := fun w => by kernel_rfl, v70 := fun w => by kernel_rfl, t72 := by kernel_rfl, a72 := fun w => by kernel_rfl, z72 := fun w => by kernel_rfl, v72 := fun w => by kernel_rfl, t75 := by kernel_rfl, a75 := fun w => by kernel_rfl, z75 := fun w => by kernel_rfl, v75 := fun w => by kernel_rfl, t76 := by kernel_rfl, a76 := fun w => by kernel_rfl, z76 := fun w => by kernel_rfl, v76 := fun w => by kernel_rfl, t127 := by kernel_rfl, a127 := fun w => by kernel_rfl, z127 := fun w => by kernel_rfl, v127 := fun w => by kernel_rfl, t164 := by kernel_rfl, a164 := fun w => by kernel_rfl, z164 := fun w => by kernel_rfl, v164 := fun w => by kernel_rfl }
theorem more_strings_Join : Builder.Extra Tryd.prog ren_strings_Join := { sizeBuilder := by kernel_rfl, liesBuilder := by kernel_rfl, t5 := by kernel_rfl, a5 := fun w => by kernel_rfl, z5 := fun w => by kernel_rfl, v5 := fun w => by kernel_rfl, infoByte := by kernel_rfl, cellsByte := by kernel_rfl, sizeByte := by kernel_rfl, neB5 := by decide }
noncomputable def sg_strings_Join : List AK := [.v (.sl .str) .k, .v .str .k]
noncomputable def F_strings_Join (N : Nat) (x : AVals sg_strings_Join) (kf : Ret → Option Ret) : Option Ret := strings_Join N x.1 x.2.1 (fun r0 => kf ⟨[⟨.str, .k, r0⟩], []⟩)
noncomputable def run_strings_Join (N : Nat) := runOf sg_strings_Join (F_strings_Join N)
theorem sd_strings_Join {Γ : Gl} (hΓ : TabΓ Γ) (N : Nat) : Sound Γ Tryd.prog 54 (run_strings_Join N) := sound_join lays_strings_Join more_strings_Join
/-! impl_joined -/
noncomputable def h_impl_joined : Hint := { tab, hn := [], loops := [], outs := [], ords := [] }
noncomputable def sg_impl_joined : List AK := [.v (.sl .str) .k]
noncomputable def F_impl_joined (N : Nat) (x : AVals sg_impl_joined) (kf : Ret → Option Ret) : Option Ret := impl_joined N x.1 (fun r0 => kf ⟨[⟨.str, .k, r0⟩], []⟩)
noncomputable def run_impl_joined (N : Nat) := runOf sg_impl_joined (F_impl_joined N)
noncomputable def es_impl_joined (N : Nat) : List Entry := [⟨54, [.val, .val], (run_strings_Join N)⟩]
noncomputable def body_impl_joined : Code := match Tryd.f52.body with | some c => c | none => .skip
noncomputable def L_impl_joined (N n : Nat) (key : Nat) (S : St) (K : Ks) : Option Ret := none
theorem L0_impl_joined (N key : Nat) (S : St) (K : Ks) : L_impl_joined N 0 key S K = none := rfl
theorem ls_impl_joined : loopsIn body_impl_joined = [] := by kernel_rfl
theorem fn_impl_joined (N : Nat) (x : AVals sg_impl_joined) (kf : Ret → Option Ret) : F_impl_joined N x kf = peFunc h_impl_joined (Orc.of (es_impl_joined N)) (L_impl_joined N N) Tryd.f52 (ashape sg_impl_joined x) kf := by kernel_rfl
theorem sd_impl_joined {Γ : Gl} (hΓ : TabΓ Γ) (N : Nat) : Sound Γ Tryd.prog 52 (run_impl_joined N) := fun_ok2 (hh := h_impl_joined) mixed tab_ok (es := es_impl_joined N) ⟨sd_strings_Join hΓ N, trivial⟩ (fn := Tryd.f52) (body := body_impl_joined) (by kernel_rfl) (by kernel_rfl) (by kernel_rfl) (by kernel_rfl) (by kernel_rfl) (Lf := L_impl_joined N) (L0_impl_joined N) ls_impl_joined trivial (N := N) (by kernel_rfl) (fn_impl_joined N) (.inl (by kernel_rfl))
/-! laws_eqIntS -/
noncomputable def ks_laws_eqIntS_l4 : List Kd := [.v (.sl (.int .i64)) .k, .v (.sl (.int .i64)) .k, dK, dK, dK, .v (.int .i64) .k, dK, dK, dK, dK, dK, dK, dK, dK, dK, dK, dK, dK, dK, dK, dK, dK, dK, dK, dK, dK]
noncomputable def ko_laws_eqIntS_l4_0 : List Kd := [dK, dK, dK, dK, dK, dK, dK, dK, dK, dK, dK, dK, dK, dK, dK, dK, dK, dK, dK, dK, dK, dK, dK, dK, dK, dK]
noncomputable def ko_laws_eqIntS_l4_1 : List Kd := [dK, dK, dK, dK, .v .bool .k, dK, dK, dK, dK, dK, dK, dK, dK, dK, dK, dK, dK, dK, dK, dK, dK, dK, dK, dK, dK, dK]
noncomputable def h_laws_eqIntS : Hint := { tab, hn := [], loops := [(4, ks_laws_eqIntS_l4)], outs := [(4, 2, ko_laws_eqIntS_l4_0), (4, 1, ko_laws_eqIntS_l4_1)], ords := [(6, (OT.seq [0, 1, 2, 3, 4, 5, 6, 7, 8] .done))] }
noncomputable def sg_laws_eqIntS : List AK := [.v (.sl (.int .i64)) .k, .v (.sl (.int .i64)) .k]
noncomputable def F_laws_eqIntS (N : Nat) (x : AVals sg_laws_eqIntS) (kf : Ret → Option Ret) : Option Ret := laws_eqIntS N x.1 x.2.1 (fun r0 => kf ⟨[⟨.bool, .k, r0⟩], []⟩)
noncomputable def run_laws_eqIntS (N : Nat) := runOf sg_laws_eqIntS (F_laws_eqIntS N)
noncomputable def es_laws_eqIntS (N : Nat) : List Entry := []
noncomputable def body_laws_eqIntS : Code := match Tryd.f14.body with | some c => c | none => .skip
noncomputable def L_laws_eqIntS (N n : Nat) (key : Nat) (S : St) (K : Ks) : Option Ret := bif Nat.beq key 4 then withVals ks_laws_eqIntS_l4 S (fun x => laws_eqIntS_l4 x.1 x.2.1 n (K (.x 0) (shape ko_laws_eqIntS_l4_0 ())) (fun z0 => K .r (shape ko_laws_eqIntS_l4_1 (z0, ()))) x.2.2.1) else none
theorem L0_laws_eqIntS (N key : Nat) (S : St) (K : Ks) : L_laws_eqIntS N 0 key S K = none := (bif0 (withVals0 fun _ => rfl) rfl)
noncomputable def c_laws_eqIntS_0 : Code := (loopsIn body_laws_eqIntS).getD 0 .skip
theorem ls_laws_eqIntS : loopsIn body_laws_eqIntS = [c_laws_eqIntS_0] := by kernel_rfl
theorem rd_laws_eqIntS_4 (N n : Nat) (x : Vals ks_laws_eqIntS_l4) (K : Ks) : L_laws_eqIntS N (n + 1) 4 (shape ks_laws_eqIntS_l4 x) (h_laws_eqIntS.onOut 4 K) = peRound h_laws_eqIntS (Orc.of (es_laws_eqIntS N)) (mixL (L_laws_eqIntS N) N n 4) c_laws_eqIntS_0 (shape ks_laws_eqIntS_l4 x) (h_laws_eqIntS.onOut 4 K) := by kernel_rfl
theorem fn_laws_eqIntS (N : Nat) (x : AVals sg_laws_eqIntS) (kf : Ret → Option Ret) : F_laws_eqIntS N x kf = peFunc h_laws_eqIntS (Orc.of (es_laws_eqIntS N)) (L_laws_eqIntS N N) Tryd.f14 (ashape sg_laws_eqIntS x) kf := by kernel_rfl
theorem sd_laws_eqIntS {Γ : Gl} (hΓ : TabΓ Γ) (N : Nat) : Sound Γ Tryd.prog 14 (run_laws_eqIntS N) := fun_ok2 (hh := h_laws_eqIntS) mixed tab_ok (es := es_laws_eqIntS N) trivial (fn := Tryd.f14) (body := body_laws_eqIntS) (by kernel_rfl) (by kernel_rfl) (by kernel_rfl) (by kernel_rfl) (by kernel_rfl) (Lf := L_laws_eqIntS N) (L0_laws_eqIntS N) ls_laws_eqIntS (round_cons (key := 4) (ks := ks_laws_eqIntS_l4) (by kernel_rfl) (by kernel_rfl) (rd_laws_eqIntS_4 N) trivial) (N := N) (by kernel_rfl) (fn_laws_eqIntS N) (.inl (by kernel_rfl))
/-! laws_szPairS -/
noncomputable def h_laws_szPairS : Hint := { tab, hn := [], loops := [], outs := [], ords := [] }
noncomputable def sg_laws_szPairS : List AK := [.v (.sl tQIIE) .k, .v (.int .i64) .k]
noncomputable def F_laws_szPairS (N : Nat) (x : AVals sg_laws_szPairS) (kf : Ret → Option Ret) : Option Ret := laws_szPairS N x.1 x.2.1 (fun r0 => kf ⟨[⟨(.int .i64), .k, r0⟩], []⟩)
noncomputable def run_laws_szPairS (N : Nat) := runOf sg_laws_szPairS (F_laws_szPairS N)
noncomputable def es_laws_szPairS (N : Nat) : List Entry := []
noncomputable def body_laws_szPairS : Code := match Tryd.f25.body with | some c => c | none => .skip
noncomputable def L_laws_szPairS (N n : Nat) (key : Nat) (S : St) (K : Ks) : Option Ret := none
theorem L0_laws_szPairS (N key : Nat) (S : St) (K : Ks) : L_laws_szPairS N 0 key S K = none := rfl
theorem ls_laws_szPairS : loopsIn body_laws_szPairS = [] := by kernel_rfl
theorem fn_laws_szPairS (N : Nat) (x : AVals sg_laws_szPairS) (kf : Ret → Option Ret) : F_laws_szPairS N x kf = peFunc h_laws_szPairS (Orc.of (es_laws_szPairS N)) (L_laws_szPairS N N) Tryd.f25 (ashape sg_laws_szPairS x) kf := by kernel_rfl
theorem sd_laws_szPairS {Γ : Gl} (hΓ : TabΓ Γ) (N : Nat) : Sound Γ Tryd.prog 25 (run_laws_szPairS N) := fun_ok2 (hh := h_laws_szPairS) mixed tab_ok (es := es_laws_szPairS N) trivial (fn := Tryd.f25) (body := body_laws_szPairS) (by kernel_rfl) (by kernel_rfl) (by kernel_rfl) (by kernel_rfl) (by kernel_rfl) (Lf := L_laws_szPairS N) (L0_laws_szPairS N) ls_laws_szPairS trivial (N := N) (by kernel_rfl) (fn_laws_szPairS N) (.inl (by kernel_rfl))
/-! laws_toPair -/
noncomputable def h_laws_toPair : Hint := { tab, hn := [], loops := [], outs := [], ords := [] }
noncomputable def sg_laws_toPair : List AK := [.v tQIIE .k]
noncomputable def F_laws_toPair (N : Nat) (x : AVals sg_laws_toPair) (kf : Ret → Option Ret) : Option Ret := laws_toPair N x.1 (fun r0 => kf ⟨[⟨tQIIE, .k, r0⟩], []⟩)
noncomputable def run_laws_toPair (N : Nat) := runOf sg_laws_toPair (F_laws_toPair N)
noncomputable def es_laws_toPair (N : Nat) : List Entry := []
noncomputable def body_laws_toPair : Code := match Tryd.f57.body with | some c => c | none => .skip
noncomputable def L_laws_toPair (N n : Nat) (key : Nat) (S : St) (K : Ks) : Option Ret := none
theorem L0_laws_toPair (N key : Nat) (S : St) (K : Ks) : L_laws_toPair N 0 key S K = none := rfl
theorem ls_laws_toPair : loopsIn body_laws_toPair = [] := by kernel_rfl
theorem fn_laws_toPair (N : Nat) (x : AVals sg_laws_toPair) (kf : Ret → Option Ret) : F_laws_toPair N x kf = peFunc h_laws_toPair (Orc.of (es_laws_toPair N)) (L_laws_toPair N N) Tryd.f57 (ashape sg_laws_toPair x) kf := by kernel_rfl
theorem sd_laws_toPair {Γ : Gl} (hΓ : TabΓ Γ) (N : Nat) : Sound Γ Tryd.prog 57 (run_laws_toPair N) := fun_ok2 (hh := h_laws_toPair) mixed tab_ok (es := es_laws_toPair N) trivial (fn := Tryd.f57) (body := body_laws_toPair) (by kernel_rfl) (by kernel_rfl) (by kernel_rfl) (by kernel_rfl) (by kernel_rfl) (Lf := L_laws_toPair N) (L0_laws_toPair N) ls_laws_toPair trivial (N := N) (by kernel_rfl) (fn_laws_toPair N) (.inl (by kernel_rfl))
/-! laws_toPairS -/
noncomputable def ks_laws_toPairS_l3 : List Kd := [.v (.sl tQIIE) .k, dK, dK, .v (.sl tQIIE) (.o 88 none .k), .v (.int .i64) .k, dK, dK, dK, dK, dK, dK, dK, dK, dK, dK, dK, dK, dK, dK, dK, dK, dK, dK]
noncomputable def ko_laws_toPairS_l3_0 : List Kd := [dK, dK, dK, .v (.sl tQIIE) (.o 88 none .k), dK, dK, dK, dK, dK, dK, dK, dK, dK, dK, dK, dK, dK, dK, dK, dK, dK, dK, dK]
noncomputable def h_laws_toPairS : Hint := { tab, hn := [], loops := [(3, ks_laws_toPairS_l3)], outs := [(3, 2, ko_laws_toPairS_l3_0)], ords := [] }
noncomputable def sg_laws_toPairS : List AK := [.v (.sl tQIIE) .k]
noncomputable def F_laws_toPairS (N : Nat) (x : AVals sg_laws_toPairS) (kf : Ret → Option Ret) : Option Ret := laws_toPairS N x.1 (fun r0 => kf ⟨[⟨(.sl tQIIE), (.o 88 none .k), r0⟩], []⟩)
noncomputable def run_laws_toPairS (N : Nat) := runOf sg_laws_toPairS (F_laws_toPairS N)
noncomputable def es_laws_toPairS (N : Nat) : List Entry := [⟨57, [.val], (run_laws_toPair N)⟩]
noncomputable def body_laws_toPairS : Code := match Tryd.f27.body with | some c => c | none => .skip
noncomputable def L_laws_toPairS (N n : Nat) (key : Nat) (S : St) (K : Ks) : Option Ret := bif Nat.beq key 3 then withVals ks_laws_toPairS_l3 S (fun x => laws_toPairS_l3 N x.1 n (fun z0 => K (.x 0) (shape ko_laws_toPairS_l3_0 (z0, ()))) x.2.1 x.2.2.1) else none
theorem L0_laws_toPairS (N key : Nat) (S : St) (K : Ks) : L_laws_toPairS N 0 key S K = none := (bif0 (withVals0 fun _ => rfl) rfl)
noncomputable def c_laws_toPairS_0 : Code := (loopsIn body_laws_toPairS).getD 0 .skip
theorem ls_laws_toPairS : loopsIn body_laws_toPairS = [c_laws_toPairS_0] := by kernel_rfl
theorem rd_laws_toPairS_3 (N n : Nat) (x : Vals ks_laws_toPairS_l3) (K : Ks) : L_laws_toPairS N (n + 1) 3 (shape ks_laws_toPairS_l3 x) (h_laws_toPairS.onOut 3 K) = peRound h_laws_toPairS (Orc.of (es_laws_toPairS N)) (mixL (L_laws_toPairS N) N n 3) c_laws_toPairS_0 (shape ks_laws_toPairS_l3 x) (h_laws_toPairS.onOut 3 K) := by kernel_rfl
theorem fn_laws_toPairS (N : Nat) (x : AVals sg_laws_toPairS) (kf : Ret → Option Ret) : F_laws_toPairS N x kf = peFunc h_laws_toPairS (Orc.of (es_laws_toPairS N)) (L_laws_toPairS N N) Tryd.f27 (ashape sg_laws_toPairS x) kf := by kernel_rfl
theorem sd_laws_toPairS {Γ : Gl} (hΓ : TabΓ Γ) (N : Nat) : Sound Γ Tryd.prog 27 (run_laws_toPairS N) := fun_ok2 (hh := h_laws_toPairS) mixed tab_ok (es := es_laws_toPairS N) ⟨sd_laws_toPair hΓ N, trivial⟩ (fn := Tryd.f27) (body := body_laws_toPairS) (by kernel_rfl) (by kernel_rfl) (by kernel_rfl) (by kernel_rfl) (by kernel_rfl) (Lf := L_laws_toPairS N) (L0_laws_toPairS N) ls_laws_toPairS (round_cons (key := 3) (ks := ks_laws_toPairS_l3) (by kernel_rfl) (by kernel_rfl) (rd_laws_toPairS_3 N) trivial) (N := N) (by kernel_rfl) (fn_laws_toPairS N) (.inl (by kernel_rfl))
/-! spec_FormatRound -/
noncomputable def ks_spec_FormatRound_l3 : List Kd := [.v (.sl tQIIE) .k, .v (.sl (.int .i64)) .k, dK, dK, dK, .v (.sl .str) (.o 9 none .k), .v (.int .i64) .k, dK, dK, dK, dK, dK, dK, dK, dK, dK, dK, dK, dK, dK, dK, dK, dK, dK, dK, dK, dK, dK, dK, dK, dK, dK, dK, dK, dK, dK, dK, dK, dK, dK, dK, dK, dK, dK, dK, dK]
noncomputable def ko_spec_FormatRound_l3_0 : List Kd := [dK, dK, dK, dK, dK, .v (.sl .str) (.o 9 none .k), dK, dK, dK, dK, dK, dK, dK, dK, dK, dK, dK, dK, dK, dK, dK, dK, dK, dK, dK, dK, dK, dK, dK, dK, dK, dK, dK, dK, dK, dK, dK, dK, dK, dK, dK, dK, dK, dK, dK, dK]
noncomputable def h_spec_FormatRound : Hint := { tab, hn := [], loops := [(3, ks_spec_FormatRound_l3)], outs := [(3, 2, ko_spec_FormatRound_l3_0)], ords := [(8, (OT.seq [0, 1, 2, 3, 4, 5, 8, 9, 10, 11, 12, 16, 6, 7, 13, 14, 15, 17, 18, 19, 20] .done))] }
noncomputable def sg_spec_FormatRound : List AK := [.v (.sl tQIIE) .k, .v (.sl (.int .i64)) .k]
noncomputable def F_spec_FormatRound (N : Nat) (x : AVals sg_spec_FormatRound) (kf : Ret → Option Ret) : Option Ret := spec_FormatRound N x.1 x.2.1 (fun r0 => kf ⟨[⟨.str, .k, r0⟩], []⟩)
noncomputable def run_spec_FormatRound (N : Nat) := runOf sg_spec_FormatRound (F_spec_FormatRound N)
noncomputable def es_spec_FormatRound (N : Nat) : List Entry := [⟨49, [.val], (run_spec_FormatInt N)⟩, ⟨50, [.val], (run_spec_l39Join N)⟩]
noncomputable def body_spec_FormatRound : Code := match Tryd.f26.body with | some c => c | none => .skip
noncomputable def L_spec_FormatRound (N n : Nat) (key : Nat) (S : St) (K : Ks) : Option Ret := bif Nat.beq key 3 then withVals ks_spec_FormatRound_l3 S (fun x => spec_FormatRound_l3 N x.1 x.2.1 n (fun z0 => K (.x 0) (shape ko_spec_FormatRound_l3_0 (z0, ()))) x.2.2.1 x.2.2.2.1) else none
theorem L0_spec_FormatRound (N key : Nat) (S : St) (K : Ks) : L_spec_FormatRound N 0 key S K = none := (bif0 (withVals0 fun _ => rfl) rfl)
noncomputable def c_spec_FormatRound_0 : Code := (loopsIn body_spec_FormatRound).getD 0 .skip
theorem ls_spec_FormatRound : loopsIn body_spec_FormatRound = [c_spec_FormatRound_0] := by kernel_rfl
theorem rd_spec_FormatRound_3 (N n : Nat) (x : Vals ks_spec_FormatRound_l3) (K : Ks) : L_spec_FormatRound N (n + 1) 3 (shape ks_spec_FormatRound_l3 x) (h_spec_FormatRound.onOut 3 K) = peRound h_spec_FormatRound (Orc.of (es_spec_FormatRound N)) (mixL (L_spec_FormatRound N) N n 3) c_spec_FormatRound_0 (shape ks_spec_FormatRound_l3 x) (h_spec_FormatRound.onOut 3 K) := by kernel_rfl
theorem fn_spec_FormatRound (N : Nat) (x : AVals sg_spec_FormatRound) (kf : Ret → Option Ret) : F_spec_FormatRound N x kf = peFunc h_spec_FormatRound (Orc.of (es_spec_FormatRound N)) (L_spec_FormatRound N N) Tryd.f26 (ashape sg_spec_FormatRound x) kf := by kernel_rfl
theorem sd_spec_FormatRound {Γ : Gl} (hΓ : TabΓ Γ) (N : Nat) : Sound Γ Tryd.prog 26 (run_spec_FormatRound N) := fun_ok2 (hh := h_spec_FormatRound) mixed tab_ok (es := es_spec_FormatRound N) ⟨sd_spec_FormatInt hΓ N, ⟨sd_spec_l39Join hΓ N, trivial⟩⟩ (fn := Tryd.f26) (body := body_spec_FormatRound) (by kernel_rfl) (by kernel_rfl) (by kernel_rfl) (by kernel_rfl) (by kernel_rfl) (Lf := L_spec_FormatRound N) (L0_spec_FormatRound N) ls_spec_FormatRound (round_cons (key := 3) (ks := ks_spec_FormatRound_l3) (by kernel_rfl) (by kernel_rfl) (rd_spec_FormatRound_3 N) trivial) (N := N) (by kernel_rfl) (fn_spec_FormatRound N) (.inl (by kernel_rfl))
/-! impl_FormatRound -/
noncomputable def ks_impl_FormatRound_l3 : List Kd := [dK, .v (.sl (.int .i64)) .k, dK, dK, dK, .v (.sl .str) (.o 9 none .k), dK, dK, dK, dK, .v (.sl tQIIE) .k, .v (.int .i64) .k, .v (.int .i64) .k, dK, dK, dK, dK, dK, dK, dK, dK, dK, dK, dK, dK, dK, dK, dK, dK, dK, dK, dK, dK, dK, dK, dK, dK, dK, dK, dK, dK, dK, dK]
noncomputable def ko_impl_FormatRound_l3_0 : List Kd := [dK, dK, dK, dK, dK, .v (.sl .str) (.o 9 none .k), dK, dK, dK, dK, dK, dK, dK, dK, dK, dK, dK, dK, dK, dK, dK, dK, dK, dK, dK, dK, dK, dK, dK, dK, dK, dK, dK, dK, dK, dK, dK, dK, dK, dK, dK, dK, dK]
noncomputable def h_impl_FormatRound : Hint := { tab, hn := [], loops := [(3, ks_impl_FormatRound_l3)], outs := [(3, 2, ko_impl_FormatRound_l3_0)], ords := [(8, (OT.seq [0, 1, 2, 5, 6, 10, 3, 4, 7, 8, 9, 11, 12, 13, 14] .done))] }
noncomputable def sg_impl_FormatRound : List AK := [.v (.sl tQIIE) .k, .v (.sl (.int .i64)) .k]
noncomputable def F_impl_FormatRound (N : Nat) (x : AVals sg_impl_FormatRound) (kf : Ret → Option Ret) : Option Ret := impl_FormatRound N x.1 x.2.1 (fun r0 => kf ⟨[⟨.str, .k, r0⟩], []⟩)
noncomputable def run_impl_FormatRound (N : Nat) := runOf sg_impl_FormatRound (F_impl_FormatRound N)
noncomputable def es_impl_FormatRound (N : Nat) : List Entry := [⟨51, [.val], (run_impl_FormatInt N)⟩, ⟨52, [.val], (run_impl_joined N)⟩]
noncomputable def body_impl_FormatRound : Code := match Tryd.f28.body with | some c => c | none => .skip
noncomputable def L_impl_FormatRound (N n : Nat) (key : Nat) (S : St) (K : Ks) : Option Ret := bif Nat.beq key 3 then withVals ks_impl_FormatRound_l3 S (fun x => impl_FormatRound_l3 N x.1 x.2.2.1 x.2.2.2.1 n (fun z0 => K (.x 0) (shape ko_impl_FormatRound_l3_0 (z0, ()))) x.2.1 x.2.2.2.2.1) else none
theorem L0_impl_FormatRound (N key : Nat) (S : St) (K : Ks) : L_impl_FormatRound N 0 key S K = none := (bif0 (withVals0 fun _ => rfl) rfl)
noncomputable def c_impl_FormatRound_0 : Code := (loopsIn body_impl_FormatRound).getD 0 .skip
theorem ls_impl_FormatRound : loopsIn body_impl_FormatRound = [c_impl_FormatRound_0] := by kernel_rfl
theorem rd_impl_FormatRound_3 (N n : Nat) (x : Vals ks_impl_FormatRound_l3) (K : Ks) : L_impl_FormatRound N (n + 1) 3 (shape ks_impl_FormatRound_l3 x) (h_impl_FormatRound.onOut 3 K) = peRound h_impl_FormatRound (Orc.of (es_impl_FormatRound N)) (mixL (L_impl_FormatRound N) N n 3) c_impl_FormatRound_0 (shape ks_impl_FormatRound_l3 x) (h_impl_FormatRound.onOut 3 K) := by kernel_rfl
theorem fn_impl_FormatRound (N : Nat) (x : AVals sg_impl_FormatRound) (kf : Ret → Option Ret) : F_impl_FormatRound N x kf = peFunc h_impl_FormatRound (Orc.of (es_impl_FormatRound N)) (L_impl_FormatRound N N) Tryd.f28 (ashape sg_impl_FormatRound x) kf := by kernel_rfl
theorem sd_impl_FormatRound {Γ : Gl} (hΓ : TabΓ Γ) (N : Nat) : Sound Γ Tryd.prog 28 (run_impl_FormatRound N) := fun_ok2 (hh := h_impl_FormatRound) mixed tab_ok (es := es_impl_FormatRound N) ⟨sd_impl_FormatInt hΓ N, ⟨sd_impl_joined hΓ N, trivial⟩⟩ (fn := Tryd.f28) (body := body_impl_FormatRound) (by kernel_rfl) (by kernel_rfl) (by kernel_rfl) (by kernel_rfl) (by kernel_rfl) (Lf := L_impl_FormatRound N) (L0_impl_FormatRound N) ls_impl_FormatRound (round_cons (key := 3) (ks := ks_impl_FormatRound_l3) (by kernel_rfl) (by kernel_rfl) (rd_impl_FormatRound_3 N) trivial) (N := N) (by kernel_rfl) (fn_impl_FormatRound N) (.inl (by kernel_rfl))
/-! laws_eqPair -/
noncomputable def h_laws_eqPair : Hint := { tab, hn := [], loops := [], outs := [], ords := [] }
noncomputable def sg_laws_eqPair : List AK := [.v tQIIE .k, .v tQIIE .k]
noncomputable def F_laws_eqPair (N : Nat) (x : AVals sg_laws_eqPair) (kf : Ret → Option Ret) : Option Ret := laws_eqPair N x.1 x.2.1 (fun r0 => kf ⟨[⟨.bool, .k, r0⟩], []⟩)
noncomputable def run_laws_eqPair (N : Nat) := runOf sg_laws_eqPair (F_laws_eqPair N)
noncomputable def es_laws_eqPair (N : Nat) : List Entry := []
noncomputable def body_laws_eqPair : Code := match Tryd.f58.body with | some c => c | none => .skip
noncomputable def L_laws_eqPair (N n : Nat) (key : Nat) (S : St) (K : Ks) : Option Ret := none
theorem L0_laws_eqPair (N key : Nat) (S : St) (K : Ks) : L_laws_eqPair N 0 key S K = none := rfl
theorem ls_laws_eqPair : loopsIn body_laws_eqPair = [] := by kernel_rfl
theorem fn_laws_eqPair (N : Nat) (x : AVals sg_laws_eqPair) (kf : Ret → Option Ret) : F_laws_eqPair N x kf = peFunc h_laws_eqPair (Orc.of (es_laws_eqPair N)) (L_laws_eqPair N N) Tryd.f58 (ashape sg_laws_eqPair x) kf := by kernel_rfl
theorem sd_laws_eqPair {Γ : Gl} (hΓ : TabΓ Γ) (N : Nat) : Sound Γ Tryd.prog 58 (run_laws_eqPair N) := fun_ok2 (hh := h_laws_eqPair) mixed tab_ok (es := es_laws_eqPair N) trivial (fn := Tryd.f58) (body := body_laws_eqPair) (by kernel_rfl) (by kernel_rfl) (by kernel_rfl) (by kernel_rfl) (by kernel_rfl) (Lf := L_laws_eqPair N) (L0_laws_eqPair N) ls_laws_eqPair trivial (N := N) (by kernel_rfl) (fn_laws_eqPair N) (.inl (by kernel_rfl))
/-! laws_eqPairS -/
noncomputable def ks_laws_eqPairS_l4 : List Kd := [.v (.sl tQIIE) .k, .v (.sl tQIIE) .k, dK, dK, dK, .v (.int .i64) .k, dK, dK, dK, dK, dK, dK, dK, dK, dK, dK, dK, dK, dK, dK, dK, dK, dK, dK, dK, dK, dK]
noncomputable def ko_laws_eqPairS_l4_0 : List Kd := [dK, dK, dK, dK, dK, dK, dK, dK, dK, dK, dK, dK, dK, dK, dK, dK, dK, dK, dK, dK, dK, dK, dK, dK, dK, dK, dK]
noncomputable def ko_laws_eqPairS_l4_1 : List Kd := [dK, dK, dK, dK, .v .bool .k, dK, dK, dK, dK, dK, dK, dK, dK, dK, dK, dK, dK, dK, dK, dK, dK, dK, dK, dK, dK, dK, dK]
noncomputable def h_laws_eqPairS : Hint := { tab, hn := [], loops := [(4, ks_laws_eqPairS_l4)], outs := [(4, 2, ko_laws_eqPairS_l4_0), (4, 1, ko_laws_eqPairS_l4_1)], ords := [(6, (OT.seq [0, 1, 2, 3, 4, 5, 6, 7, 8, 9] .done))] }
noncomputable def sg_laws_eqPairS : List AK := [.v (.sl tQIIE) .k, .v (.sl tQIIE) .k]
noncomputable def F_laws_eqPairS (N : Nat) (x : AVals sg_laws_eqPairS) (kf : Ret → Option Ret) : Option Ret := laws_eqPairS N x.1 x.2.1 (fun r0 => kf ⟨[⟨.bool, .k, r0⟩], []⟩)
noncomputable def run_laws_eqPairS (N : Nat) := runOf sg_laws_eqPairS (F_laws_eqPairS N)
noncomputable def es_laws_eqPairS (N : Nat) : List Entry := [⟨58, [.val, .val], (run_laws_eqPair N)⟩]
noncomputable def body_laws_eqPairS : Code := match Tryd.f29.body with | some c => c | none => .skip
noncomputable def L_laws_eqPairS (N n : Nat) (key : Nat) (S : St) (K : Ks) : Option Ret := bif Nat.beq key 4 then withVals ks_laws_eqPairS_l4 S (fun x => laws_eqPairS_l4 N x.1 x.2.1 n (K (.x 0) (shape ko_laws_eqPairS_l4_0 ())) (fun z0 => K .r (shape ko_laws_eqPairS_l4_1 (z0, ()))) x.2.2.1) else none
theorem L0_laws_eqPairS (N key : Nat) (S : St) (K : Ks) : L_laws_eqPairS N 0 key S K = none := (bif0 (withVals0 fun _ => rfl) rfl)
noncomputable def c_laws_eqPairS_0 : Code := (loopsIn body_laws_eqPairS).getD 0 .skip
theorem ls_laws_eqPairS : loopsIn body_laws_eqPairS = [c_laws_eqPairS_0] := by kernel_rfl
theorem rd_laws_eqPairS_4 (N n : Nat) (x : Vals ks_laws_eqPairS_l4) (K : Ks) : L_laws_eqPairS N (n + 1) 4 (shape ks_laws_eqPairS_l4 x) (h_laws_eqPairS.onOut 4 K) = peRound h_laws_eqPairS (Orc.of (es_laws_eqPairS N)) (mixL (L_laws_eqPairS N) N n 4) c_laws_eqPairS_0 (shape ks_laws_eqPairS_l4 x) (h_laws_eqPairS.onOut 4 K) := by kernel_rfl
theorem fn_laws_eqPairS (N : Nat) (x : AVals sg_laws_eqPairS) (kf : Ret → Option Ret) : F_laws_eqPairS N x kf = peFunc h_laws_eqPairS (Orc.of (es_laws_eqPairS N)) (L_laws_eqPairS N N) Tryd.f29 (ashape sg_laws_eqPairS x) kf := by kernel_rfl
theorem sd_laws_eqPairS {Γ : Gl} (hΓ : TabΓ Γ) (N : Nat) : Sound Γ Tryd.prog 29 (run_laws_eqPairS N) := fun_ok2 (hh := h_laws_eqPairS) mixed tab_ok (es := es_laws_eqPairS N) ⟨sd_laws_eqPair hΓ N, trivial⟩ (fn := Tryd.f29) (body := body_laws_eqPairS) (by kernel_rfl) (by kernel_rfl) (by kernel_rfl) (by kernel_rfl) (by kernel_rfl) (Lf := L_laws_eqPairS N) (L0_laws_eqPairS N) ls_laws_eqPairS (round_cons (key := 4) (ks := ks_laws_eqPairS_l4) (by kernel_rfl) (by kernel_rfl) (rd_laws_eqPairS_4 N) trivial) (N := N) (by kernel_rfl) (fn_laws_eqPairS N) (.inl (by kernel_rfl))
/-! laws_FnExactFormatRound -/
noncomputable def h_laws_FnExactFormatRound : Hint := { tab, hn := [], loops := [], outs := [], ords := [] }
noncomputable def sg_laws_FnExactFormatRound : List AK := [.v (.sl tQIIE) .k, .v (.sl (.int .i64)) .k]
noncomputable def F_laws_FnExactFormatRound (N : Nat) (x : AVals sg_laws_FnExactFormatRound) (kf : Ret → Option Ret) : Option Ret := laws_FnExactFormatRound N x.1 x.2.1 (fun r0 => kf ⟨[⟨.bool, .k, r0⟩], []⟩)
noncomputable def run_laws_FnExactFormatRound (N : Nat) := runOf sg_laws_FnExactFormatRound (F_laws_FnExactFormatRound N)
noncomputable def es_laws_FnExactFormatRound (N : Nat) : List Entry := [⟨25, [.val, .val], (run_laws_szPairS N)⟩, ⟨27, [.val], (run_laws_toPairS N)⟩, ⟨12, [.val], (run_laws_toIntS N)⟩, ⟨26, [.val, .val], (run_spec_FormatRound N)⟩, ⟨28, [.val, .val], (run_impl_FormatRound N)⟩, ⟨29, [.val, .val], (run_laws_eqPairS N)⟩, ⟨14, [.val, .val], (run_laws_eqIntS N)⟩]
noncomputable def body_laws_FnExactFormatRound : Code := match Tryd.f6.body with | some c => c | none => .skip
noncomputable def L_laws_FnExactFormatRound (N n : Nat) (key : Nat) (S : St) (K : Ks) : Option Ret := none
theorem L0_laws_FnExactFormatRound (N key : Nat) (S : St) (K : Ks) : L_laws_FnExactFormatRound N 0 key S K = none := rfl
theorem ls_laws_FnExactFormatRound : loopsIn body_laws_FnExactFormatRound = [] := by kernel_rfl
theorem fn_laws_FnExactFormatRound (N : Nat) (x : AVals sg_laws_FnExactFormatRound) (kf : Ret → Option Ret) : F_laws_FnExactFormatRound N x kf = peFunc h_laws_FnExactFormatRound (Orc.of (es_laws_FnExactFormatRound N)) (L_laws_FnExactFormatRound N N) Tryd.f6 (ashape sg_laws_FnExactFormatRound x) kf := by kernel_rfl
theorem sd_laws_FnExactFormatRound {Γ : Gl} (hΓ : TabΓ Γ) (N : Nat) : Sound Γ Tryd.prog 6 (run_laws_FnExactFormatRound N) := fun_ok2 (hh := h_laws_FnExactFormatRound) mixed tab_ok (es := es_laws_FnExactFormatRound N) ⟨sd_laws_szPairS hΓ N, ⟨sd_laws_toPairS hΓ N, ⟨sd_laws_toIntS hΓ N, ⟨sd_spec_FormatRound hΓ N, ⟨sd_impl_FormatRound hΓ N, ⟨sd_laws_eqPairS hΓ N, ⟨sd_laws_eqIntS hΓ N, trivial⟩⟩⟩⟩⟩⟩⟩ (fn := Tryd.f6) (body := body_laws_FnExactFormatRound) (by kernel_rfl) (by kernel_rfl) (by kernel_rfl) (by kernel_rfl) (by kernel_rfl) (Lf := L_laws_FnExactFormatRound N) (L0_laws_FnExactFormatRound N) ls_laws_FnExactFormatRound trivial (N := N) (by kernel_rfl) (fn_laws_FnExactFormatRound N) (.inl (by kernel_rfl))
end Go.Pv.R
