/- Each function of the program that the law reaches computes its plain function, part 0. -/
import Derived.Test.YthdoldaaodmeeaaDoorPlRes
import Derived.Test.YthdoldaaodmeeaaDoorJoi
import Derived.Test.YthdoldaaodmeeaaDoorProg
namespace Go.Pv.R
open Go.Proofs
set_option linter.unusedVariables false
set_option maxRecDepth 100000
noncomputable abbrev dK : Kd := .dead
noncomputable def tab : Tab := [⟨2, (.int .i64), 0, []⟩, ⟨3, (.int .i64), 0, []⟩, ⟨4, .bool, 0, []⟩, ⟨5, (.int .u8), 0, []⟩, ⟨9, .str, 0, []⟩, ⟨12, (.int .u64), 0, []⟩, ⟨21, (.int .i32), 0, []⟩, ⟨22, (.sl (.int .i64)), 3, []⟩, ⟨27, (.sl (.sl (.int .i64))), 22, []⟩, ⟨33, tQILLIE, 0, [3, 27]⟩, ⟨34, tQILLIE, 0, [3, 27]⟩, ⟨37, tQILLIE, 0, [3, 27]⟩, ⟨41, (.sl tQIIE), 90, []⟩, ⟨44, (.sl tQIIE), 88, []⟩, ⟨48, (.sl tQIIIE), 96, []⟩, ⟨51, (.sl tQIIIE), 94, []⟩, ⟨55, (.sl tQIIIIILIE), 100, []⟩, ⟨58, (.sl tQIIIIILIE), 101, []⟩, ⟨66, (.sl tQIILIE), 136, []⟩, ⟨67, (.sl tQIIIE), 142, []⟩, ⟨68, (.sl tQIIIIE), 146, []⟩, ⟨69, tQLQIIIIILIELQIILIELQIIELILQIIIELQIIIIEIE, 0, [55, 66, 41, 22, 67, 68, 3]⟩, ⟨70, tQLQIIIIILIELQIILIELQIIELILQIIIELQIIIIEIE, 0, [55, 66, 41, 22, 67, 68, 3]⟩, ⟨73, (.sl tQIILIE), 139, []⟩, ⟨74, (.sl tQIIIE), 138, []⟩, ⟨75, (.sl tQIIIIE), 144, []⟩, ⟨76, tQLQIIIIILIELQIILIELQIIELILQIIIELQIIIIEIE, 0, [58, 73, 44, 22, 74, 75, 3]⟩, ⟨77, tQLQIIIIILIELQIILIELQIIELILQIIIELQIIIIEIE, 0, [58, 73, 44, 22, 74, 75, 3]⟩, ⟨81, (.sl .str), 9, []⟩, ⟨87, tQIIE, 0, [3, 3]⟩, ⟨88, tQIIE, 0, [3, 3]⟩, ⟨90, tQIIE, 0, [3, 3]⟩, ⟨93, tQIIIE, 0, [3, 3, 3]⟩, ⟨94, tQIIIE, 0, [3, 3, 3]⟩, ⟨96, tQIIIE, 0, [3, 3, 3]⟩, ⟨99, tQIIIIILIE, 0, [3, 3, 3, 3, 3, 22]⟩, ⟨100, tQIIIIILIE, 0, [3, 3, 3, 3, 3, 22]⟩, ⟨101, tQIIIIILIE, 0, [3, 3, 3, 3, 3, 22]⟩, ⟨120, (.sl (.int .u8)), 5, []⟩, ⟨135, tQIILIE, 0, [3, 3, 22]⟩, ⟨136, tQIILIE, 0, [3, 3, 22]⟩, ⟨137, tQIIIE, 0, [3, 3, 3]⟩, ⟨138, tQIIIE, 0, [3, 3, 3]⟩, ⟨139, tQIILIE, 0, [3, 3, 22]⟩, ⟨142, tQIIIE, 0, [3, 3, 3]⟩, ⟨143, tQIIIIE, 0, [3, 3, 3, 3]⟩, ⟨144, tQIIIIE, 0, [3, 3, 3, 3]⟩, ⟨146, tQIIIIE, 0, [3, 3, 3, 3]⟩, ⟨164, (.int .u64), 0, []⟩, ⟨166, (.int .u64), 0, []⟩, ⟨171, (.int .u32), 0, []⟩]
theorem mixed : Tryd.prog.follows .mixedOrders = true := by kernel_rfl
theorem tab_ok : tabB Tryd.prog tab = true := by kernel_rfl
/-- What stands in the first blocks: Go's table of the powers of ten. -/
abbrev TabΓ (Γ : Gl) : Prop := PowTab Tryd.prog Γ
/-! spec_FormatInt -/
noncomputable def ks_spec_FormatInt_l5 : List Kd := [.v (.int .i64) .k, dK, dK, .v .str .k, .v (.int .i64) .k, dK, dK, dK, dK, dK, dK, dK, dK, dK, dK, dK, dK, dK, dK, dK, dK, dK, dK, dK, dK, dK, dK, dK, dK, dK, dK]
noncomputable def ko_spec_FormatInt_l5_0 : List Kd := [.v (.int .i64) .k, dK, dK, .v .str .k, dK, dK, dK, dK, dK, dK, dK, dK, dK, dK, dK, dK, dK, dK, dK, dK, dK, dK, dK, dK, dK, dK, dK, dK, dK, dK, dK]
noncomputable def h_spec_FormatInt : Hint := { tab, hn := [], loops := [(5, ks_spec_FormatInt_l5)], outs := [(5, 2, ko_spec_FormatInt_l5_0)], ords := [] }
noncomputable def sg_spec_FormatInt : List AK := [.v (.int .i64) .k]
noncomputable def F_spec_FormatInt (N : Nat) (x : AVals sg_spec_FormatInt) (kf : Ret → Option Ret) : Option Ret := spec_FormatInt N x.1 (fun r0 => kf ⟨[⟨.str, .k, r0⟩], []⟩)
noncomputable def run_spec_FormatInt (N : Nat) := runOf sg_spec_FormatInt (F_spec_FormatInt N)
noncomputable def es_spec_FormatInt (N : Nat) : List Entry := []
noncomputable def body_spec_FormatInt : Code := match Tryd.f49.body with | some c => c | none => .skip
noncomputable def L_spec_FormatInt (N n : Nat) (key : Nat) (S : St) (K : Ks) : Option Ret := bif Nat.beq key 5 then withVals ks_spec_FormatInt_l5 S (fun x => spec_FormatInt_l5 x.1 n (fun z0 => K (.x 0) (shape ko_spec_FormatInt_l5_0 (x.1, z0, ()))) x.2.1 x.2.2.1) else none
theorem L0_spec_FormatInt (N key : Nat) (S : St) (K : Ks) : L_spec_FormatInt N 0 key S K = none := (bif0 (withVals0 fun _ => rfl) rfl)
noncomputable def c_spec_FormatInt_0 : Code := (loopsIn body_spec_FormatInt).getD 0 .skip
theorem ls_spec_FormatInt : loopsIn body_spec_FormatInt = [c_spec_FormatInt_0] := by kernel_rfl
theorem rd_spec_FormatInt_5 (N n : Nat) (x : Vals ks_spec_FormatInt_l5) (K : Ks) : L_spec_FormatInt N (n + 1) 5 (shape ks_spec_FormatInt_l5 x) (h_spec_FormatInt.onOut 5 K) = peRound h_spec_FormatInt (Orc.of (es_spec_FormatInt N)) (mixL (L_spec_FormatInt N) N n 5) c_spec_FormatInt_0 (shape ks_spec_FormatInt_l5 x) (h_spec_FormatInt.onOut 5 K) := by kernel_rfl
theorem fn_spec_FormatInt (N : Nat) (x : AVals sg_spec_FormatInt) (kf : Ret → Option Ret) : F_spec_FormatInt N x kf = peFunc h_spec_FormatInt (Orc.of (es_spec_FormatInt N)) (L_spec_FormatInt N N) Tryd.f49 (ashape sg_spec_FormatInt x) kf := by kernel_rfl
theorem sd_spec_FormatInt {Γ : Gl} (hΓ : TabΓ Γ) (N : Nat) : Sound Γ Tryd.prog 49 (run_spec_FormatInt N) := fun_ok2 (hh := h_spec_FormatInt) mixed tab_ok (es := es_spec_FormatInt N) trivial (fn := Tryd.f49) (body := body_spec_FormatInt) (by kernel_rfl) (by kernel_rfl) (by kernel_rfl) (by kernel_rfl) (by kernel_rfl) (Lf := L_spec_FormatInt N) (L0_spec_FormatInt N) ls_spec_FormatInt (round_cons (key := 5) (ks := ks_spec_FormatInt_l5) (by kernel_rfl) (by kernel_rfl) (rd_spec_FormatInt_5 N) trivial) (N := N) (by kernel_rfl) (fn_spec_FormatInt N) (.inl (by kernel_rfl))
/-! spec_l39Join -/
noncomputable def ks_spec_l39Join_l3 : List Kd := [.v (.sl .str) .k, dK, dK, .v .str .k, .v (.int .i64) .k, dK, dK, dK, dK, dK, dK, dK, dK, dK, dK, dK, dK, dK, dK, dK, dK, dK, dK, dK, dK]
noncomputable def ko_spec_l39Join_l3_0 : List Kd := [.v (.sl .str) .k, dK, dK, .v .str .k, dK, dK, dK, dK, dK, dK, dK, dK, dK, dK, dK, dK, dK, dK, dK, dK, dK, dK, dK, dK, dK]
noncomputable def h_spec_l39Join : Hint := { tab, hn := [], loops := [(3, ks_spec_l39Join_l3)], outs := [(3, 2, ko_spec_l39Join_l3_0)], ords := [] }
noncomputable def sg_spec_l39Join : List AK := [.v (.sl .str) .k]
noncomputable def F_spec_l39Join (N : Nat) (x : AVals sg_spec_l39Join) (kf : Ret → Option Ret) : Option Ret := spec_l39Join N x.1 (fun r0 => kf ⟨[⟨.str, .k, r0⟩], []⟩)
noncomputable def run_spec_l39Join (N : Nat) := runOf sg_spec_l39Join (F_spec_l39Join N)
noncomputable def es_spec_l39Join (N : Nat) : List Entry := []
noncomputable def body_spec_l39Join : Code := match Tryd.f50.body with | some c => c | none => .skip
noncomputable def L_spec_l39Join (N n : Nat) (key : Nat) (S : St) (K : Ks) : Option Ret := bif Nat.beq key 3 then withVals ks_spec_l39Join_l3 S (fun x => spec_l39Join_l3 x.1 n (fun z0 => K (.x 0) (shape ko_spec_l39Join_l3_0 (x.1, z0, ()))) x.2.1 x.2.2.1) else none
theorem L0_spec_l39Join (N key : Nat) (S : St) (K : Ks) : L_spec_l39Join N 0 key S K = none := (bif0 (withVals0 fun _ => rfl) rfl)
noncomputable def c_spec_l39Join_0 : Code := (loopsIn body_spec_l39Join).getD 0 .skip
theorem ls_spec_l39Join : loopsIn body_spec_l39Join = [c_spec_l39Join_0] := by kernel_rfl
theorem rd_spec_l39Join_3 (N n : Nat) (x : Vals ks_spec_l39Join_l3) (K : Ks) : L_spec_l39Join N (n + 1) 3 (shape ks_spec_l39Join_l3 x) (h_spec_l39Join.onOut 3 K) = peRound h_spec_l39Join (Orc.of (es_spec_l39Join N)) (mixL (L_spec_l39Join N) N n 3) c_spec_l39Join_0 (shape ks_spec_l39Join_l3 x) (h_spec_l39Join.onOut 3 K) := by kernel_rfl
theorem fn_spec_l39Join (N : Nat) (x : AVals sg_spec_l39Join) (kf : Ret → Option Ret) : F_spec_l39Join N x kf = peFunc h_spec_l39Join (Orc.of (es_spec_l39Join N)) (L_spec_l39Join N N) Tryd.f50 (ashape sg_spec_l39Join x) kf := by kernel_rfl
theorem sd_spec_l39Join {Γ : Gl} (hΓ : TabΓ Γ) (N : Nat) : Sound Γ Tryd.prog 50 (run_spec_l39Join N) := fun_ok2 (hh := h_spec_l39Join) mixed tab_ok (es := es_spec_l39Join N) trivial (fn := Tryd.f50) (body := body_spec_l39Join) (by kernel_rfl) (by kernel_rfl) (by kernel_rfl) (by kernel_rfl) (by kernel_rfl) (Lf := L_spec_l39Join N) (L0_spec_l39Join N) ls_spec_l39Join (round_cons (key := 3) (ks := ks_spec_l39Join_l3) (by kernel_rfl) (by kernel_rfl) (rd_spec_l39Join_3 N) trivial) (N := N) (by kernel_rfl) (fn_spec_l39Join N) (.inl (by kernel_rfl))
/-! strconv_Itoa: told by the shelf -/
def ren_strconv_Itoa : Go.Shelf.Ren := ⟨fun n => bif Nat.beq n 129 then 130 else bif Nat.beq n 171 then 84 else bif Nat.beq n 243 then 103 else bif Nat.beq n 246 then 111 else bif Nat.beq n 283 then 122 else bif Nat.beq n 284 then 123 else bif Nat.beq n 285 then 124 else bif Nat.beq n 286 then 125 else bif Nat.beq n 317 then 129 else bif Nat.beq n 318 then 131 else bif Nat.beq n 319 then 132 else bif Nat.beq n 320 then 133 else bif Nat.beq n 337 then 134 else bif Nat.beq n 338 then 135 else n, fun n => bif Nat.beq n 0 then 0 else bif Nat.beq n 2 then 2 else bif Nat.beq n 3 then 3 else bif Nat.beq n 4 then 4 else bif Nat.beq n 5 then 5 else bif Nat.beq n 9 then 9 else bif Nat.beq n 20 then 20 else bif Nat.beq n 37 then 120 else bif Nat.beq n 46 then 164 else bif Nat.beq n 51 then 171 else bif Nat.beq n 53 then 166 else bif Nat.beq n 171 then 165 else bif Nat.beq n 173 then 169 else bif Nat.beq n 212 then 175 else bif Nat.beq n 213 then 176 else bif Nat.beq n 232 then 183 else bif Nat.beq n 233 then 184 else n, fun n => bif Nat.beq n 17 then 1 else bif Nat.beq n 18 then 4 else bif Nat.beq n 19 then 5 else n⟩
theorem lays_strconv_Itoa : LaysM.n171 Tryd.prog ren_strconv_Itoa := { mixed := by kernel_rfl, f129 := by kernel_rfl, f171 := by kernel_rfl, f243 := by kernel_rfl, f246 := by kernel_rfl, f283 := by kernel_rfl, f284 := by kernel_rfl, f285 := by kernel_rfl, f286 := by kernel_rfl, f317 := by kernel_rfl, f318 := by kernel_rfl, f319 := by kernel_rfl, f320 := by kernel_rfl, f337 := by kernel_rfl, f338 := by kernel_rfl, t0 := by kernel_rfl, a0 := fun w => by kernel_rfl, z0 := fun w => by kernel_rfl, v0 := fun w => by kernel_rfl, t2 := by kernel_rfl, a2 := fun w => by kernel_rfl, z2 := fun w => by kernel_rfl, v2 := fun w => by kernel_rfl, t3 := by kernel_rfl, a3 := fun w => by kernel_rfl, z3 := fun w => by kernel_rfl, v3 := fun w => by kernel_rfl, t4 := by kernel_rfl, a4 := fun w => by kernel_rfl, z4 := fun w => by kernel_rfl, v4 := fun w => by kernel_rfl, t5 := by kernel_rfl, a5 := fun w => by kernel_rfl, z5 := fun w => by kernel_rfl, v5 := fun w => by kernel_rfl, t9 := by kernel_rfl, a9 := fun w => by kernel_rfl, z9 := fun w => by kernel_rfl, v9 := fun w => by kernel_rfl, t20 := by kernel_rfl, a20 := fun w => by kernel_rfl, z20 := fun w => by kernel_rfl, v20 := fun w => by kernel_rfl, t37 := by kernel_rfl, a37 := fun w => by kernel_rfl, z37 := fun w => by kernel_rfl, v37 := fun w => by kernel_rfl, t46 := by kernel_rfl, a46 := fun w => by kernel_rfl, z46 := fun w => by kernel_rfl, v46 := fun w => by kernel_rfl, t51 := by kernel_rfl, a51 := fun w => by kernel_rfl, z51 := fun w => by kernel_rfl, v51 := fun w => by kernel_rfl, t53 := by kernel_rfl, a53 := fun w => by kernel_rfl, z53 := fun w => by kernel_rfl, v53 := fun w => by kernel_rfl, t171 := by kernel_rfl, a171 := fun w => by kernel_rfl, z171 := fun w => by kernel_rfl, v171 := fun w => by kernel_rfl, t173 := by kernel_rfl, a173 := fun w => by kernel_rfl, z173 := fun w => by kernel_rfl, v173 := fun w => by kernel_rfl, t212 := by kernel_rfl, a212 := fun w => by kernel_rfl, z212 := fun w => by kernel_rfl, v212 := fun w => by kernel_rfl, t213 := by kernel_rfl, a213 := fun w => by kernel_rfl, z213 := fun w => by kernel_rfl, t232 := by kernel_rfl, a232 := fun w => by kernel_rfl, z232 := fun w => by kernel_rfl, v232 := fun w => by kernel_rfl, t233 := by kernel_rfl, a233 := fun w => by kernel_rfl, z233 := fun w => by kernel_rfl, v233 := fun w => by kernel_rfl, g17 := by kernel_rfl, g18 := by kernel_rfl, g19 := by kernel_rfl, i0 := by kernel_rfl, i2 := by kernel_rfl, i3 := by kernel_rfl, i4 := by kernel_rfl, i5 := by kernel_rfl, i9 := by kernel_rfl, i20 := by kernel_rfl, i37 := by kernel_rfl, i46 := by kernel_rfl, i51 := by kernel_rfl, i53 := by kernel_rfl, i171 := by kernel_rfl, i173 := by kernel_rfl, i212 := by kernel_rfl, i232 := by kernel_rfl, i233 := by kernel_rfl, m17 := by kernel_rfl, m18 := by kernel_rfl, m19 := by kernel_rfl }
noncomputable def sg_strconv_Itoa : List AK := [.v (.int .i64) .k]
noncomputable def F_strconv_Itoa (N : Nat) (x : AVals sg_strconv_Itoa) (kf : Ret → Option Ret) : Option Ret := strconv_Itoa N x.1 (fun r0 => kf ⟨[⟨.str, .k, r0⟩], []⟩)
noncomputable def run_strconv_Itoa (N : Nat) := runOf sg_strconv_Itoa (F_strconv_Itoa N)
theorem sd_strconv_Itoa {Γ : Gl} (hΓ : TabΓ Γ) (N : Nat) : Sound Γ Tryd.prog 84 (run_strconv_Itoa N) := sound_itoa lays_strconv_Itoa hΓ
/-! impl_FormatInt -/
noncomputable def h_impl_FormatInt : Hint := { tab, hn := [], loops := [], outs := [], ords := [] }
noncomputable def sg_impl_FormatInt : List AK := [.v (.int .i64) .k]
noncomputable def F_impl_FormatInt (N : Nat) (x : AVals sg_impl_FormatInt) (kf : Ret → Option Ret) : Option Ret := impl_FormatInt N x.1 (fun r0 => kf ⟨[⟨.str, .k, r0⟩], []⟩)
noncomputable def run_impl_FormatInt (N : Nat) := runOf sg_impl_FormatInt (F_impl_FormatInt N)
noncomputable def es_impl_FormatInt (N : Nat) : List Entry := [⟨84, [.val], (run_strconv_Itoa N)⟩]
noncomputable def body_impl_FormatInt : Code := match Tryd.f51.body with | some c => c | none => .skip
noncomputable def L_impl_FormatInt (N n : Nat) (key : Nat) (S : St) (K : Ks) : Option Ret := none
theorem L0_impl_FormatInt (N key : Nat) (S : St) (K : Ks) : L_impl_FormatInt N 0 key S K = none := rfl
theorem ls_impl_FormatInt : loopsIn body_impl_FormatInt = [] := by kernel_rfl
theorem fn_impl_FormatInt (N : Nat) (x : AVals sg_impl_FormatInt) (kf : Ret → Option Ret) : F_impl_FormatInt N x kf = peFunc h_impl_FormatInt (Orc.of (es_impl_FormatInt N)) (L_impl_FormatInt N N) Tryd.f51 (ashape sg_impl_FormatInt x) kf := by kernel_rfl
theorem sd_impl_FormatInt {Γ : Gl} (hΓ : TabΓ Γ) (N : Nat) : Sound Γ Tryd.prog 51 (run_impl_FormatInt N) := fun_ok2 (hh := h_impl_FormatInt) mixed tab_ok (es := es_impl_FormatInt N) ⟨sd_strconv_Itoa hΓ N, trivial⟩ (fn := Tryd.f51) (body := body_impl_FormatInt) (by kernel_rfl) (by kernel_rfl) (by kernel_rfl) (by kernel_rfl) (by kernel_rfl) (Lf := L_impl_FormatInt N) (L0_impl_FormatInt N) ls_impl_FormatInt trivial (N := N) (by kernel_rfl) (fn_impl_FormatInt N) (.inl (by kernel_rfl))
/-! strings_Join: told by the shelf -/
def ren_strings_Join : Go.Shelf.Ren := ⟨fun n => bif Nat.beq n 156 then 54 else bif Nat.beq n 165 then 85 else bif Nat.beq n 166 then 86 else bif Nat.beq n 169 then 87 else bif Nat.beq n 240 then 104 else bif Nat.beq n 241 then 105 else bif Nat.beq n 276 then 112 else bif Nat.beq n 277 then 113 else n, fun n => bif Nat.beq n 0 then 0 else bif Nat.beq n 3 then 3 else bif Nat.beq n 4 then 4 else bif Nat.beq n 5 then 5 else bif Nat.beq n 9 then 9 else bif Nat.beq n 20 then 20 else bif Nat.beq n 31 then 81 else bif Nat.beq n 37 then 120 else bif Nat.beq n 70 then 121 else bif Nat.beq n 72 then 123 else bif Nat.beq n 75 then 126 else bif Nat.beq n 76 then 127 else bif Nat.beq n 80 then 129 else bif Nat.beq n 127 then 150 else bif Nat.beq n 164 then 155 else n, fun n => n⟩
theorem lays_strings_Join : Lays.n156 Tryd.prog ren_strings_Join := { mixed := by kernel_rfl, f156 := by kernel_rfl, f165 := by kernel_rfl, f166 := by kernel_rfl, f169 := by kernel_rfl, f240 := by kernel_rfl, f241 := by kernel_rfl, f276 := by kernel_rfl, f277 := by kernel_rfl, t0 := by kernel_rfl, a0 := fun w => by kernel_rfl, z0 := fun w => by kernel_rfl, v0 := fun w => by kernel_rfl, t3 := by kernel_rfl, a3 := fun w => by kernel_rfl, z3 := fun w => by kernel_rfl, v3 := fun w => by kernel_rfl, t4 := by kernel_rfl, a4 := fun w => by kernel_rfl, z4 := fun w => by kernel_rfl, v4 := fun w => by kernel_rfl, t9 := by kernel_rfl, a9 := fun w => by kernel_rfl, z9 := fun w => by kernel_rfl, v9 := fun w => by kernel_rfl, t20 := by kernel_rfl, a20 := fun w => by kernel_rfl, z20 := fun w => by kernel_rfl, v20 := fun w => by kernel_rfl, t31 := by kernel_rfl, a31 := fun w => by kernel_rfl, z31 := fun w => by kernel_rfl, v31 := fun w => by kernel_rfl, t37 := by kernel_rfl, a37 := fun w => by kernel_rfl, z37 := fun w => by kernel_rfl, v37 := fun w => by kernel_rfl, t70 := by kernel_rfl, a70 := fun w => by kernel_rfl, z70 := fun w => by kernel_rfl, v70 := fun w => by kernel_rfl, t72 := by kernel_rfl, a72 := fun w => by kernel_rfl, z72 := fun w => by kernel_rfl, v72 := fun w => by kernel_rfl, t75 := by kernel_rfl, a75 := fun w => by kernel_rfl, z75 := fun w => by kernel_rfl, v75 := fun w => by kernel_rfl, t76 := by kernel_rfl, a76 := fun w => by kernel_rfl, z76 := fun w => by kernel_rfl, v76 := fun w => by kernel_rfl, t127 := by kernel_rfl, a127 := fun w => by kernel_rfl, z127 := fun w => by kernel_rfl, v127 := fun w => by kernel_rfl, t164 := by kernel_rfl, a164 := fun w => by kernel_rfl, z164 := fun w => by kernel_rfl, v164 := fun w => by kernel_rfl }
theorem more_strings_Join : Builder.Extra Tryd.prog ren_strings_Join := { sizeBuilder := by kernel_rfl, liesBuilder := by kernel_rfl, t5 := by kernel_rfl, a5 := fun w => by kernel_rfl, z5 := fun w => by kernel_rfl, v5 := fun w => by kernel_rfl, infoByte := by kernel_rfl, cellsByte := by kernel_rfl, sizeByte := by kernel_rfl, neB5 := by decide }
noncomputable def sg_strings_Join : List AK := [.v (.sl .str) .k, .v .str .k]
noncomputable def F_strings_Join (N : Nat) (x : AVals sg_strings_Join) (kf : Ret → Option Ret) : Option Ret := strings_Join N x.1 x.2.1 (fun r0 => kf ⟨[⟨.str, .k, r0⟩], []⟩)
noncomputable def run_strings_Join (N : Nat) := runOf sg_strings_Join (F_strings_Join N)
theorem sd_strings_Join {Γ : Gl} (hΓ : TabΓ Γ) (N : Nat) : Sound Γ Tryd.prog 54 (run_strings_Join N) := sound_join lays_strings_Join more_strings_Join
/-! impl_joined -/
noncomputable def h_impl_joined : Hint := { tab, hn := [], loops := [], outs := [], ords := [] }
noncomputable def sg_impl_joined : List AK := [.v (.sl .str) .k]
noncomputable def F_impl_joined (N : Nat) (x : AVals sg_impl_joined) (kf : Ret → Option Ret) : Option Ret := impl_joined N x.1 (fun r0 => kf ⟨[⟨.str, .k, r0⟩], []⟩)
noncomputable def run_impl_joined (N : Nat) := runOf sg_impl_joined (F_impl_joined N)
noncomputable def es_impl_joined (N : Nat) : List Entry := [⟨54, [.val, .val], (run_strings_Join N)⟩]
noncomputable def body_impl_joined : Code := match Tryd.f52.body with | some c => c | none => .skip
noncomputable def L_impl_joined (N n : Nat) (key : Nat) (S : St) (K : Ks) : Option Ret := none
theorem L0_impl_joined (N key : Nat) (S : St) (K : Ks) : L_impl_joined N 0 key S K = none := rfl
theorem ls_impl_joined : loopsIn body_impl_joined = [] := by kernel_rfl
theorem fn_impl_joined (N : Nat) (x : AVals sg_impl_joined) (kf : Ret → Option Ret) : F_impl_joined N x kf = peFunc h_impl_joined (Orc.of (es_impl_joined N)) (L_impl_joined N N) Tryd.f52 (ashape sg_impl_joined x) kf := by kernel_rfl
theorem sd_impl_joined {Γ : Gl} (hΓ : TabΓ Γ) (N : Nat) : Sound Γ Tryd.prog 52 (run_impl_joined N) := fun_ok2 (hh := h_impl_joined) mixed tab_ok (es := es_impl_joined N) ⟨sd_strings_Join hΓ N, trivial⟩ (fn := Tryd.f52) (body := body_impl_joined) (by kernel_rfl) (by kernel_rfl) (by kernel_rfl) (by kernel_rfl) (by kernel_rfl) (Lf := L_impl_joined N) (L0_impl_joined N) ls_impl_joined trivial (N := N) (by kernel_rfl) (fn_impl_joined N) (.inl (by kernel_rfl))
/-! spec_l1In -/
noncomputable def h_spec_l1In : Hint := { tab, hn := [], loops := [], outs := [], ords := [] }
noncomputable def sg_spec_l1In : List AK := [.v (.int .i64) .k, .v (.int .i64) .k, .v (.int .i64) .k]
noncomputable def F_spec_l1In (N : Nat) (x : AVals sg_spec_l1In) (kf : Ret → Option Ret) : Option Ret := spec_l1In N x.1 x.2.1 x.2.2.1 (fun r0 => kf ⟨[⟨.bool, .k, r0⟩], []⟩)
noncomputable def run_spec_l1In (N : Nat) := runOf sg_spec_l1In (F_spec_l1In N)
noncomputable def es_spec_l1In (N : Nat) : List Entry := []
noncomputable def body_spec_l1In : Code := match Tryd.f88.body with | some c => c | none => .skip
noncomputable def L_spec_l1In (N n : Nat) (key : Nat) (S : St) (K : Ks) : Option Ret := none
theorem L0_spec_l1In (N key : Nat) (S : St) (K : Ks) : L_spec_l1In N 0 key S K = none := rfl
theorem ls_spec_l1In : loopsIn body_spec_l1In = [] := by kernel_rfl
theorem fn_spec_l1In (N : Nat) (x : AVals sg_spec_l1In) (kf : Ret → Option Ret) : F_spec_l1In N x kf = peFunc h_spec_l1In (Orc.of (es_spec_l1In N)) (L_spec_l1In N N) Tryd.f88 (ashape sg_spec_l1In x) kf := by kernel_rfl
theorem sd_spec_l1In {Γ : Gl} (hΓ : TabΓ Γ) (N : Nat) : Sound Γ Tryd.prog 88 (run_spec_l1In N) := fun_ok2 (hh := h_spec_l1In) mixed tab_ok (es := es_spec_l1In N) trivial (fn := Tryd.f88) (body := body_spec_l1In) (by kernel_rfl) (by kernel_rfl) (by kernel_rfl) (by kernel_rfl) (by kernel_rfl) (Lf := L_spec_l1In N) (L0_spec_l1In N) ls_spec_l1In trivial (N := N) (by kernel_rfl) (fn_spec_l1In N) (.inl (by kernel_rfl))
/-! impl_InRange -/
noncomputable def h_impl_InRange : Hint := { tab, hn := [], loops := [], outs := [], ords := [] }
noncomputable def sg_impl_InRange : List AK := [.v (.int .i64) .k, .v (.int .i64) .k, .v (.int .i64) .k]
noncomputable def F_impl_InRange (N : Nat) (x : AVals sg_impl_InRange) (kf : Ret → Option Ret) : Option Ret := impl_InRange N x.1 x.2.1 x.2.2.1 (fun r0 => kf ⟨[⟨.bool, .k, r0⟩], []⟩)
noncomputable def run_impl_InRange (N : Nat) := runOf sg_impl_InRange (F_impl_InRange N)
noncomputable def es_impl_InRange (N : Nat) : List Entry := []
noncomputable def body_impl_InRange : Code := match Tryd.f89.body with | some c => c | none => .skip
noncomputable def L_impl_InRange (N n : Nat) (key : Nat) (S : St) (K : Ks) : Option Ret := none
theorem L0_impl_InRange (N key : Nat) (S : St) (K : Ks) : L_impl_InRange N 0 key S K = none := rfl
theorem ls_impl_InRange : loopsIn body_impl_InRange = [] := by kernel_rfl
theorem fn_impl_InRange (N : Nat) (x : AVals sg_impl_InRange) (kf : Ret → Option Ret) : F_impl_InRange N x kf = peFunc h_impl_InRange (Orc.of (es_impl_InRange N)) (L_impl_InRange N N) Tryd.f89 (ashape sg_impl_InRange x) kf := by kernel_rfl
theorem sd_impl_InRange {Γ : Gl} (hΓ : TabΓ Γ) (N : Nat) : Sound Γ Tryd.prog 89 (run_impl_InRange N) := fun_ok2 (hh := h_impl_InRange) mixed tab_ok (es := es_impl_InRange N) trivial (fn := Tryd.f89) (body := body_impl_InRange) (by kernel_rfl) (by kernel_rfl) (by kernel_rfl) (by kernel_rfl) (by kernel_rfl) (Lf := L_impl_InRange N) (L0_impl_InRange N) ls_impl_InRange trivial (N := N) (by kernel_rfl) (fn_impl_InRange N) (.inl (by kernel_rfl))
/-! laws_szPointS -/
noncomputable def h_laws_szPointS : Hint := { tab, hn := [], loops := [], outs := [], ords := [] }
noncomputable def sg_laws_szPointS : List AK := [.v (.sl tQIIIE) .k, .v (.int .i64) .k]
noncomputable def F_laws_szPointS (N : Nat) (x : AVals sg_laws_szPointS) (kf : Ret → Option Ret) : Option Ret := laws_szPointS N x.1 x.2.1 (fun r0 => kf ⟨[⟨(.int .i64), .k, r0⟩], []⟩)
noncomputable def run_laws_szPointS (N : Nat) := runOf sg_laws_szPointS (F_laws_szPointS N)
noncomputable def es_laws_szPointS (N : Nat) : List Entry := []
noncomputable def body_laws_szPointS : Code := match Tryd.f30.body with | some c => c | none => .skip
noncomputable def L_laws_szPointS (N n : Nat) (key : Nat) (S : St) (K : Ks) : Option Ret := none
theorem L0_laws_szPointS (N key : Nat) (S : St) (K : Ks) : L_laws_szPointS N 0 key S K = none := rfl
theorem ls_laws_szPointS : loopsIn body_laws_szPointS = [] := by kernel_rfl
theorem fn_laws_szPointS (N : Nat) (x : AVals sg_laws_szPointS) (kf : Ret → Option Ret) : F_laws_szPointS N x kf = peFunc h_laws_szPointS (Orc.of (es_laws_szPointS N)) (L_laws_szPointS N N) Tryd.f30 (ashape sg_laws_szPointS x) kf := by kernel_rfl
theorem sd_laws_szPointS {Γ : Gl} (hΓ : TabΓ Γ) (N : Nat) : Sound Γ Tryd.prog 30 (run_laws_szPointS N) := fun_ok2 (hh := h_laws_szPointS) mixed tab_ok (es := es_laws_szPointS N) trivial (fn := Tryd.f30) (body := body_laws_szPointS) (by kernel_rfl) (by kernel_rfl) (by kernel_rfl) (by kernel_rfl) (by kernel_rfl) (Lf := L_laws_szPointS N) (L0_laws_szPointS N) ls_laws_szPointS trivial (N := N) (by kernel_rfl) (fn_laws_szPointS N) (.inl (by kernel_rfl))
/-! laws_toPoint -/
noncomputable def h_laws_toPoint : Hint := { tab, hn := [], loops := [], outs := [], ords := [] }
noncomputable def sg_laws_toPoint : List AK := [.v tQIIIE .k]
noncomputable def F_laws_toPoint (N : Nat) (x : AVals sg_laws_toPoint) (kf : Ret → Option Ret) : Option Ret := laws_toPoint N x.1 (fun r0 => kf ⟨[⟨tQIIIE, .k, r0⟩], []⟩)
noncomputable def run_laws_toPoint (N : Nat) := runOf sg_laws_toPoint (F_laws_toPoint N)
noncomputable def es_laws_toPoint (N : Nat) : List Entry := []
noncomputable def body_laws_toPoint : Code := match Tryd.f60.body with | some c => c | none => .skip
noncomputable def L_laws_toPoint (N n : Nat) (key : Nat) (S : St) (K : Ks) : Option Ret := none
theorem L0_laws_toPoint (N key : Nat) (S : St) (K : Ks) : L_laws_toPoint N 0 key S K = none := rfl
theorem ls_laws_toPoint : loopsIn body_laws_toPoint = [] := by kernel_rfl
theorem fn_laws_toPoint (N : Nat) (x : AVals sg_laws_toPoint) (kf : Ret → Option Ret) : F_laws_toPoint N x kf = peFunc h_laws_toPoint (Orc.of (es_laws_toPoint N)) (L_laws_toPoint N N) Tryd.f60 (ashape sg_laws_toPoint x) kf := by kernel_rfl
theorem sd_laws_toPoint {Γ : Gl} (hΓ : TabΓ Γ) (N : Nat) : Sound Γ Tryd.prog 60 (run_laws_toPoint N) := fun_ok2 (hh := h_laws_toPoint) mixed tab_ok (es := es_laws_toPoint N) trivial (fn := Tryd.f60) (body := body_laws_toPoint) (by kernel_rfl) (by kernel_rfl) (by kernel_rfl) (by kernel_rfl) (by kernel_rfl) (Lf := L_laws_toPoint N) (L0_laws_toPoint N) ls_laws_toPoint trivial (N := N) (by kernel_rfl) (fn_laws_toPoint N) (.inl (by kernel_rfl))
/-! laws_toPointS -/
noncomputable def ks_laws_toPointS_l3 : List Kd := [.v (.sl tQIIIE) .k, dK, dK, .v (.sl tQIIIE) (.o 94 none .k), .v (.int .i64) .k, dK, dK, dK, dK, dK, dK, dK, dK, dK, dK, dK, dK, dK, dK, dK, dK, dK, dK]
noncomputable def ko_laws_toPointS_l3_0 : List Kd := [dK, dK, dK, .v (.sl tQIIIE) (.o 94 none .k), dK, dK, dK, dK, dK, dK, dK, dK, dK, dK, dK, dK, dK, dK, dK, dK, dK, dK, dK]
noncomputable def h_laws_toPointS : Hint := { tab, hn := [], loops := [(3, ks_laws_toPointS_l3)], outs := [(3, 2, ko_laws_toPointS_l3_0)], ords := [] }
noncomputable def sg_laws_toPointS : List AK := [.v (.sl tQIIIE) .k]
noncomputable def F_laws_toPointS (N : Nat) (x : AVals sg_laws_toPointS) (kf : Ret → Option Ret) : Option Ret := laws_toPointS N x.1 (fun r0 => kf ⟨[⟨(.sl tQIIIE), (.o 94 none .k), r0⟩], []⟩)
noncomputable def run_laws_toPointS (N : Nat) := runOf sg_laws_toPointS (F_laws_toPointS N)
noncomputable def es_laws_toPointS (N : Nat) : List Entry := [⟨60, [.val], (run_laws_toPoint N)⟩]
noncomputable def body_laws_toPointS : Code := match Tryd.f32.body with | some c => c | none => .skip
noncomputable def L_laws_toPointS (N n : Nat) (key : Nat) (S : St) (K : Ks) : Option Ret := bif Nat.beq key 3 then withVals ks_laws_toPointS_l3 S (fun x => laws_toPointS_l3 N x.1 n (fun z0 => K (.x 0) (shape ko_laws_toPointS_l3_0 (z0, ()))) x.2.1 x.2.2.1) else none
theorem L0_laws_toPointS (N key : Nat) (S : St) (K : Ks) : L_laws_toPointS N 0 key S K = none := (bif0 (withVals0 fun _ => rfl) rfl)
noncomputable def c_laws_toPointS_0 : Code := (loopsIn body_laws_toPointS).getD 0 .skip
theorem ls_laws_toPointS : loopsIn body_laws_toPointS = [c_laws_toPointS_0] := by kernel_rfl
theorem rd_laws_toPointS_3 (N n : Nat) (x : Vals ks_laws_toPointS_l3) (K : Ks) : L_laws_toPointS N (n + 1) 3 (shape ks_laws_toPointS_l3 x) (h_laws_toPointS.onOut 3 K) = peRound h_laws_toPointS (Orc.of (es_laws_toPointS N)) (mixL (L_laws_toPointS N) N n 3) c_laws_toPointS_0 (shape ks_laws_toPointS_l3 x) (h_laws_toPointS.onOut 3 K) := by kernel_rfl
theorem fn_laws_toPointS (N : Nat) (x : AVals sg_laws_toPointS) (kf : Ret → Option Ret) : F_laws_toPointS N x kf = peFunc h_laws_toPointS (Orc.of (es_laws_toPointS N)) (L_laws_toPointS N N) Tryd.f32 (ashape sg_laws_toPointS x) kf := by kernel_rfl
theorem sd_laws_toPointS {Γ : Gl} (hΓ : TabΓ Γ) (N : Nat) : Sound Γ Tryd.prog 32 (run_laws_toPointS N) := fun_ok2 (hh := h_laws_toPointS) mixed tab_ok (es := es_laws_toPointS N) ⟨sd_laws_toPoint hΓ N, trivial⟩ (fn := Tryd.f32) (body := body_laws_toPointS) (by kernel_rfl) (by kernel_rfl) (by kernel_rfl) (by kernel_rfl) (by kernel_rfl) (Lf := L_laws_toPointS N) (L0_laws_toPointS N) ls_laws_toPointS (round_cons (key := 3) (ks := ks_laws_toPointS_l3) (by kernel_rfl) (by kernel_rfl) (rd_laws_toPointS_3 N) trivial) (N := N) (by kernel_rfl) (fn_laws_toPointS N) (.inl (by kernel_rfl))
/-! spec_PointText -/
noncomputable def h_spec_PointText : Hint := { tab, hn := [], loops := [], outs := [], ords := [(3, (OT.seq [0, 1, 4, 5, 8, 9, 10, 11, 12, 13, 2, 3, 6, 7, 14, 15] .done))] }
noncomputable def sg_spec_PointText : List AK := [.v tQIIIE .k]
noncomputable def F_spec_PointText (N : Nat) (x : AVals sg_spec_PointText) (kf : Ret → Option Ret) : Option Ret := spec_PointText N x.1 (fun r0 => kf ⟨[⟨.str, .k, r0⟩], []⟩)
noncomputable def run_spec_PointText (N : Nat) := runOf sg_spec_PointText (F_spec_PointText N)
noncomputable def es_spec_PointText (N : Nat) : List Entry := [⟨88, [.val, .val, .val], (run_spec_l1In N)⟩, ⟨49, [.val], (run_spec_FormatInt N)⟩]
noncomputable def body_spec_PointText : Code := match Tryd.f59.body with | some c => c | none => .skip
noncomputable def L_spec_PointText (N n : Nat) (key : Nat) (S : St) (K : Ks) : Option Ret := none
theorem L0_spec_PointText (N key : Nat) (S : St) (K : Ks) : L_spec_PointText N 0 key S K = none := rfl
theorem ls_spec_PointText : loopsIn body_spec_PointText = [] := by kernel_rfl
theorem fn_spec_PointText (N : Nat) (x : AVals sg_spec_PointText) (kf : Ret → Option Ret) : F_spec_PointText N x kf = peFunc h_spec_PointText (Orc.of (es_spec_PointText N)) (L_spec_PointText N N) Tryd.f59 (ashape sg_spec_PointText x) kf := by kernel_rfl
theorem sd_spec_PointText {Γ : Gl} (hΓ : TabΓ Γ) (N : Nat) : Sound Γ Tryd.prog 59 (run_spec_PointText N) := fun_ok2 (hh := h_spec_PointText) mixed tab_ok (es := es_spec_PointText N) ⟨sd_spec_l1In hΓ N, ⟨sd_spec_FormatInt hΓ N, trivial⟩⟩ (fn := Tryd.f59) (body := body_spec_PointText) (by kernel_rfl) (by kernel_rfl) (by kernel_rfl) (by kernel_rfl) (by kernel_rfl) (Lf := L_spec_PointText N) (L0_spec_PointText N) ls_spec_PointText trivial (N := N) (by kernel_rfl) (fn_spec_PointText N) (.inl (by kernel_rfl))
/-! spec_FormatPoints -/
noncomputable def ks_spec_FormatPoints_l3 : List Kd := [.v (.sl tQIIIE) .k, dK, dK, .v (.sl .str) (.o 9 none .k), .v (.int .i64) .k, dK, dK, dK, dK, dK, dK, dK, dK, dK, dK, dK, dK, dK, dK, dK, dK, dK, dK, dK, dK, dK]
noncomputable def ko_spec_FormatPoints_l3_0 : List Kd := [dK, dK, dK, .v (.sl .str) (.o 9 none .k), dK, dK, dK, dK, dK, dK, dK, dK, dK, dK, dK, dK, dK, dK, dK, dK, dK, dK, dK, dK, dK, dK]
noncomputable def h_spec_FormatPoints : Hint := { tab, hn := [], loops := [(3, ks_spec_FormatPoints_l3)], outs := [(3, 2, ko_spec_FormatPoints_l3_0)], ords := [] }
noncomputable def sg_spec_FormatPoints : List AK := [.v (.sl tQIIIE) .k]
noncomputable def F_spec_FormatPoints (N : Nat) (x : AVals sg_spec_FormatPoints) (kf : Ret → Option Ret) : Option Ret := spec_FormatPoints N x.1 (fun r0 => kf ⟨[⟨.str, .k, r0⟩], []⟩)
noncomputable def run_spec_FormatPoints (N : Nat) := runOf sg_spec_FormatPoints (F_spec_FormatPoints N)
noncomputable def es_spec_FormatPoints (N : Nat) : List Entry := [⟨59, [.val], (run_spec_PointText N)⟩, ⟨50, [.val], (run_spec_l39Join N)⟩]
noncomputable def body_spec_FormatPoints : Code := match Tryd.f31.body with | some c => c | none => .skip
noncomputable def L_spec_FormatPoints (N n : Nat) (key : Nat) (S : St) (K : Ks) : Option Ret := bif Nat.beq key 3 then withVals ks_spec_FormatPoints_l3 S (fun x => spec_FormatPoints_l3 N x.1 n (fun z0 => K (.x 0) (shape ko_spec_FormatPoints_l3_0 (z0, ()))) x.2.1 x.2.2.1) else none
theorem L0_spec_FormatPoints (N key : Nat) (S : St) (K : Ks) : L_spec_FormatPoints N 0 key S K = none := (bif0 (withVals0 fun _ => rfl) rfl)
noncomputable def c_spec_FormatPoints_0 : Code := (loopsIn body_spec_FormatPoints).getD 0 .skip
theorem ls_spec_FormatPoints : loopsIn body_spec_FormatPoints = [c_spec_FormatPoints_0] := by kernel_rfl
theorem rd_spec_FormatPoints_3 (N n : Nat) (x : Vals ks_spec_FormatPoints_l3) (K : Ks) : L_spec_FormatPoints N (n + 1) 3 (shape ks_spec_FormatPoints_l3 x) (h_spec_FormatPoints.onOut 3 K) = peRound h_spec_FormatPoints (Orc.of (es_spec_FormatPoints N)) (mixL (L_spec_FormatPoints N) N n 3) c_spec_FormatPoints_0 (shape ks_spec_FormatPoints_l3 x) (h_spec_FormatPoints.onOut 3 K) := by kernel_rfl
theorem fn_spec_FormatPoints (N : Nat) (x : AVals sg_spec_FormatPoints) (kf : Ret → Option Ret) : F_spec_FormatPoints N x kf = peFunc h_spec_FormatPoints (Orc.of (es_spec_FormatPoints N)) (L_spec_FormatPoints N N) Tryd.f31 (ashape sg_spec_FormatPoints x) kf := by kernel_rfl
theorem sd_spec_FormatPoints {Γ : Gl} (hΓ : TabΓ Γ) (N : Nat) : Sound Γ Tryd.prog 31 (run_spec_FormatPoints N) := fun_ok2 (hh := h_spec_FormatPoints) mixed tab_ok (es := es_spec_FormatPoints N) ⟨sd_spec_PointText hΓ N, ⟨sd_spec_l39Join hΓ N, trivial⟩⟩ (fn := Tryd.f31) (body := body_spec_FormatPoints) (by kernel_rfl) (by kernel_rfl) (by kernel_rfl) (by kernel_rfl) (by kernel_rfl) (Lf := L_spec_FormatPoints N) (L0_spec_FormatPoints N) ls_spec_FormatPoints (round_cons (key := 3) (ks := ks_spec_FormatPoints_l3) (by kernel_rfl) (by kernel_rfl) (rd_spec_FormatPoints_3 N) trivial) (N := N) (by kernel_rfl) (fn_spec_FormatPoints N) (.inl (by kernel_rfl))
/-! impl_PointText -/
noncomputable def h_impl_PointText : Hint := { tab, hn := [], loops := [], outs := [], ords := [(3, (OT.seq [0, 1, 4, 5, 8, 9, 10, 11, 12, 13, 2, 3, 6, 7, 14, 15] .done))] }
noncomputable def sg_impl_PointText : List AK := [.v tQIIIE .k]
noncomputable def F_impl_PointText (N : Nat) (x : AVals sg_impl_PointText) (kf : Ret → Option Ret) : Option Ret := impl_PointText N x.1 (fun r0 => kf ⟨[⟨.str, .k, r0⟩], []⟩)
noncomputable def run_impl_PointText (N : Nat) := runOf sg_impl_PointText (F_impl_PointText N)
noncomputable def es_impl_PointText (N : Nat) : List Entry := [⟨89, [.val, .val, .val], (run_impl_InRange N)⟩, ⟨51, [.val], (run_impl_FormatInt N)⟩]
noncomputable def body_impl_PointText : Code := match Tryd.f61.body with | some c => c | none => .skip
noncomputable def L_impl_PointText (N n : Nat) (key : Nat) (S : St) (K : Ks) : Option Ret := none
theorem L0_impl_PointText (N key : Nat) (S : St) (K : Ks) : L_impl_PointText N 0 key S K = none := rfl
theorem ls_impl_PointText : loopsIn body_impl_PointText = [] := by kernel_rfl
theorem fn_impl_PointText (N : Nat) (x : AVals sg_impl_PointText) (kf : Ret → Option Ret) : F_impl_PointText N x kf = peFunc h_impl_PointText (Orc.of (es_impl_PointText N)) (L_impl_PointText N N) Tryd.f61 (ashape sg_impl_PointText x) kf := by kernel_rfl
theorem sd_impl_PointText {Γ : Gl} (hΓ : TabΓ Γ) (N : Nat) : Sound Γ Tryd.prog 61 (run_impl_PointText N) := fun_ok2 (hh := h_impl_PointText) mixed tab_ok (es := es_impl_PointText N) ⟨sd_impl_InRange hΓ N, ⟨sd_impl_FormatInt hΓ N, trivial⟩⟩ (fn := Tryd.f61) (body := body_impl_PointText) (by kernel_rfl) (by kernel_rfl) (by kernel_rfl) (by kernel_rfl) (by kernel_rfl) (Lf := L_impl_PointText N) (L0_impl_PointText N) ls_impl_PointText trivial (N := N) (by kernel_rfl) (fn_impl_PointText N) (.inl (by kernel_rfl))
/-! impl_FormatPoints -/
noncomputable def ks_impl_FormatPoints_l3 : List Kd := [dK, dK, dK, .v (.sl .str) (.o 9 none .k), dK, dK, dK, dK, .v (.sl tQIIIE) .k, .v (.int .i64) .k, .v (.int .i64) .k, dK, dK, dK, dK, dK, dK, dK, dK, dK, dK, dK, dK, dK, dK]
noncomputable def ko_impl_FormatPoints_l3_0 : List Kd := [dK, dK, dK, .v (.sl .str) (.o 9 none .k), dK, dK, dK, dK, dK, dK, dK, dK, dK, dK, dK, dK, dK, dK, dK, dK, dK, dK, dK, dK, dK]
noncomputable def h_impl_FormatPoints : Hint := { tab, hn := [], loops := [(3, ks_impl_FormatPoints_l3)], outs := [(3, 2, ko_impl_FormatPoints_l3_0)], ords := [] }
noncomputable def sg_impl_FormatPoints : List AK := [.v (.sl tQIIIE) .k]
noncomputable def F_impl_FormatPoints (N : Nat) (x : AVals sg_impl_FormatPoints) (kf : Ret → Option Ret) : Option Ret := impl_FormatPoints N x.1 (fun r0 => kf ⟨[⟨.str, .k, r0⟩], []⟩)
noncomputable def run_impl_FormatPoints (N : Nat) := runOf sg_impl_FormatPoints (F_impl_FormatPoints N)
noncomputable def es_impl_FormatPoints (N : Nat) : List Entry := [⟨61, [.val], (run_impl_PointText N)⟩, ⟨52, [.val], (run_impl_joined N)⟩]
noncomputable def body_impl_FormatPoints : Code := match Tryd.f33.body with | some c => c | none => .skip
noncomputable def L_impl_FormatPoints (N n : Nat) (key : Nat) (S : St) (K : Ks) : Option Ret := bif Nat.beq key 3 then withVals ks_impl_FormatPoints_l3 S (fun x => impl_FormatPoints_l3 N x.2.1 x.2.2.1 n (fun z0 => K (.x 0) (shape ko_impl_FormatPoints_l3_0 (z0, ()))) x.1 x.2.2.2.1) else none
theorem L0_impl_FormatPoints (N key : Nat) (S : St) (K : Ks) : L_impl_FormatPoints N 0 key S K = none := (bif0 (withVals0 fun _ => rfl) rfl)
noncomputable def c_impl_FormatPoints_0 : Code := (loopsIn body_impl_FormatPoints).getD 0 .skip
theorem ls_impl_FormatPoints : loopsIn body_impl_FormatPoints = [c_impl_FormatPoints_0] := by kernel_rfl
theorem rd_impl_FormatPoints_3 (N n : Nat) (x : Vals ks_impl_FormatPoints_l3) (K : Ks) : L_impl_FormatPoints N (n + 1) 3 (shape ks_impl_FormatPoints_l3 x) (h_impl_FormatPoints.onOut 3 K) = peRound h_impl_FormatPoints (Orc.of (es_impl_FormatPoints N)) (mixL (L_impl_FormatPoints N) N n 3) c_impl_FormatPoints_0 (shape ks_impl_FormatPoints_l3 x) (h_impl_FormatPoints.onOut 3 K) := by kernel_rfl
theorem fn_impl_FormatPoints (N : Nat) (x : AVals sg_impl_FormatPoints) (kf : Ret → Option Ret) : F_impl_FormatPoints N x kf = peFunc h_impl_FormatPoints (Orc.of (es_impl_FormatPoints N)) (L_impl_FormatPoints N N) Tryd.f33 (ashape sg_impl_FormatPoints x) kf := by kernel_rfl
theorem sd_impl_FormatPoints {Γ : Gl} (hΓ : TabΓ Γ) (N : Nat) : Sound Γ Tryd.prog 33 (run_impl_FormatPoints N) := fun_ok2 (hh := h_impl_FormatPoints) mixed tab_ok (es := es_impl_FormatPoints N) ⟨sd_impl_PointText hΓ N, ⟨sd_impl_joined hΓ N, trivial⟩⟩ (fn := Tryd.f33) (body := body_impl_FormatPoints) (by kernel_rfl) (by kernel_rfl) (by kernel_rfl) (by kernel_rfl) (by kernel_rfl) (Lf := L_impl_FormatPoints N) (L0_impl_FormatPoints N) ls_impl_FormatPoints (round_cons (key := 3) (ks := ks_impl_FormatPoints_l3) (by kernel_rfl) (by kernel_rfl) (rd_impl_FormatPoints_3 N) trivial) (N := N) (by kernel_rfl) (fn_impl_FormatPoints N) (.inl (by kernel_rfl))
/-! laws_eqPoint -/
noncomputable def h_laws_eqPoint : Hint := { tab, hn := [], loops := [], outs := [], ords := [] }
noncomputable def sg_laws_eqPoint : List AK := [.v tQIIIE .k, .v tQIIIE .k]
noncomputable def F_laws_eqPoint (N : Nat) (x : AVals sg_laws_eqPoint) (kf : Ret → Option Ret) : Option Ret := laws_eqPoint N x.1 x.2.1 (fun r0 => kf ⟨[⟨.bool, .k, r0⟩], []⟩)
noncomputable def run_laws_eqPoint (N : Nat) := runOf sg_laws_eqPoint (F_laws_eqPoint N)
noncomputable def es_laws_eqPoint (N : Nat) : List Entry := []
noncomputable def body_laws_eqPoint : Code := match Tryd.f62.body with | some c => c | none => .skip
noncomputable def L_laws_eqPoint (N n : Nat) (key : Nat) (S : St) (K : Ks) : Option Ret := none
theorem L0_laws_eqPoint (N key : Nat) (S : St) (K : Ks) : L_laws_eqPoint N 0 key S K = none := rfl
theorem ls_laws_eqPoint : loopsIn body_laws_eqPoint = [] := by kernel_rfl
theorem fn_laws_eqPoint (N : Nat) (x : AVals sg_laws_eqPoint) (kf : Ret → Option Ret) : F_laws_eqPoint N x kf = peFunc h_laws_eqPoint (Orc.of (es_laws_eqPoint N)) (L_laws_eqPoint N N) Tryd.f62 (ashape sg_laws_eqPoint x) kf := by kernel_rfl
theorem sd_laws_eqPoint {Γ : Gl} (hΓ : TabΓ Γ) (N : Nat) : Sound Γ Tryd.prog 62 (run_laws_eqPoint N) := fun_ok2 (hh := h_laws_eqPoint) mixed tab_ok (es := es_laws_eqPoint N) trivial (fn := Tryd.f62) (body := body_laws_eqPoint) (by kernel_rfl) (by kernel_rfl) (by kernel_rfl) (by kernel_rfl) (by kernel_rfl) (Lf := L_laws_eqPoint N) (L0_laws_eqPoint N) ls_laws_eqPoint trivial (N := N) (by kernel_rfl) (fn_laws_eqPoint N) (.inl (by kernel_rfl))
/-! laws_eqPointS -/
noncomputable def ks_laws_eqPointS_l4 : List Kd := [.v (.sl tQIIIE) .k, .v (.sl tQIIIE) .k, dK, dK, dK, .v (.int .i64) .k, dK, dK, dK, dK, dK, dK, dK, dK, dK, dK, dK, dK, dK, dK, dK, dK, dK, dK, dK, dK, dK]
noncomputable def ko_laws_eqPointS_l4_0 : List Kd := [dK, dK, dK, dK, dK, dK, dK, dK, dK, dK, dK, dK, dK, dK, dK, dK, dK, dK, dK, dK, dK, dK, dK, dK, dK, dK, dK]
noncomputable def ko_laws_eqPointS_l4_1 : List Kd := [dK, dK, dK, dK, .v .bool .k, dK, dK, dK, dK, dK, dK, dK, dK, dK, dK, dK, dK, dK, dK, dK, dK, dK, dK, dK, dK, dK, dK]
noncomputable def h_laws_eqPointS : Hint := { tab, hn := [], loops := [(4, ks_laws_eqPointS_l4)], outs := [(4, 2, ko_laws_eqPointS_l4_0), (4, 1, ko_laws_eqPointS_l4_1)], ords := [(6, (OT.seq [0, 1, 2, 3, 4, 5, 6, 7, 8, 9] .done))] }
noncomputable def sg_laws_eqPointS : List AK := [.v (.sl tQIIIE) .k, .v (.sl tQIIIE) .k]
noncomputable def F_laws_eqPointS (N : Nat) (x : AVals sg_laws_eqPointS) (kf : Ret → Option Ret) : Option Ret := laws_eqPointS N x.1 x.2.1 (fun r0 => kf ⟨[⟨.bool, .k, r0⟩], []⟩)
noncomputable def run_laws_eqPointS (N : Nat) := runOf sg_laws_eqPointS (F_laws_eqPointS N)
noncomputable def es_laws_eqPointS (N : Nat) : List Entry := [⟨62, [.val, .val], (run_laws_eqPoint N)⟩]
noncomputable def body_laws_eqPointS : Code := match Tryd.f34.body with | some c => c | none => .skip
noncomputable def L_laws_eqPointS (N n : Nat) (key : Nat) (S : St) (K : Ks) : Option Ret := bif Nat.beq key 4 then withVals ks_laws_eqPointS_l4 S (fun x => laws_eqPointS_l4 N x.1 x.2.1 n (K (.x 0) (shape ko_laws_eqPointS_l4_0 ())) (fun z0 => K .r (shape ko_laws_eqPointS_l4_1 (z0, ()))) x.2.2.1) else none
theorem L0_laws_eqPointS (N key : Nat) (S : St) (K : Ks) : L_laws_eqPointS N 0 key S K = none := (bif0 (withVals0 fun _ => rfl) rfl)
noncomputable def c_laws_eqPointS_0 : Code := (loopsIn body_laws_eqPointS).getD 0 .skip
theorem ls_laws_eqPointS : loopsIn body_laws_eqPointS = [c_laws_eqPointS_0] := by kernel_rfl
theorem rd_laws_eqPointS_4 (N n : Nat) (x : Vals ks_laws_eqPointS_l4) (K : Ks) : L_laws_eqPointS N (n + 1) 4 (shape ks_laws_eqPointS_l4 x) (h_laws_eqPointS.onOut 4 K) = peRound h_laws_eqPointS (Orc.of (es_laws_eqPointS N)) (mixL (L_laws_eqPointS N) N n 4) c_laws_eqPointS_0 (shape ks_laws_eqPointS_l4 x) (h_laws_eqPointS.onOut 4 K) := by kernel_rfl
theorem fn_laws_eqPointS (N : Nat) (x : AVals sg_laws_eqPointS) (kf : Ret → Option Ret) : F_laws_eqPointS N x kf = peFunc h_laws_eqPointS (Orc.of (es_laws_eqPointS N)) (L_laws_eqPointS N N) Tryd.f34 (ashape sg_laws_eqPointS x) kf := by kernel_rfl
theorem sd_laws_eqPointS {Γ : Gl} (hΓ : TabΓ Γ) (N : Nat) : Sound Γ Tryd.prog 34 (run_laws_eqPointS N) := fun_ok2 (hh := h_laws_eqPointS) mixed tab_ok (es := es_laws_eqPointS N) ⟨sd_laws_eqPoint hΓ N, trivial⟩ (fn := Tryd.f34) (body := body_laws_eqPointS) (by kernel_rfl) (by kernel_rfl) (by kernel_rfl) (by kernel_rfl) (by kernel_rfl) (Lf := L_laws_eqPointS N) (L0_laws_eqPointS N) ls_laws_eqPointS (round_cons (key := 4) (ks := ks_laws_eqPointS_l4) (by kernel_rfl) (by kernel_rfl) (rd_laws_eqPointS_4 N) trivial) (N := N) (by kernel_rfl) (fn_laws_eqPointS N) (.inl (by kernel_rfl))
/-! laws_FnExactFormatPoints -/
noncomputable def h_laws_FnExactFormatPoints : Hint := { tab, hn := [], loops := [], outs := [], ords := [] }
noncomputable def sg_laws_FnExactFormatPoints : List AK := [.v (.sl tQIIIE) .k]
noncomputable def F_laws_FnExactFormatPoints (N : Nat) (x : AVals sg_laws_FnExactFormatPoints) (kf : Ret → Option Ret) : Option Ret := laws_FnExactFormatPoints N x.1 (fun r0 => kf ⟨[⟨.bool, .k, r0⟩], []⟩)
noncomputable def run_laws_FnExactFormatPoints (N : Nat) := runOf sg_laws_FnExactFormatPoints (F_laws_FnExactFormatPoints N)
noncomputable def es_laws_FnExactFormatPoints (N : Nat) : List Entry := [⟨30, [.val, .val], (run_laws_szPointS N)⟩, ⟨32, [.val], (run_laws_toPointS N)⟩, ⟨31, [.val], (run_spec_FormatPoints N)⟩, ⟨33, [.val], (run_impl_FormatPoints N)⟩, ⟨34, [.val, .val], (run_laws_eqPointS N)⟩]
noncomputable def body_laws_FnExactFormatPoints : Code := match Tryd.f7.body with | some c => c | none => .skip
noncomputable def L_laws_FnExactFormatPoints (N n : Nat) (key : Nat) (S : St) (K : Ks) : Option Ret := none
theorem L0_laws_FnExactFormatPoints (N key : Nat) (S : St) (K : Ks) : L_laws_FnExactFormatPoints N 0 key S K = none := rfl
theorem ls_laws_FnExactFormatPoints : loopsIn body_laws_FnExactFormatPoints = [] := by kernel_rfl
theorem fn_laws_FnExactFormatPoints (N : Nat) (x : AVals sg_laws_FnExactFormatPoints) (kf : Ret → Option Ret) : F_laws_FnExactFormatPoints N x kf = peFunc h_laws_FnExactFormatPoints (Orc.of (es_laws_FnExactFormatPoints N)) (L_laws_FnExactFormatPoints N N) Tryd.f7 (ashape sg_laws_FnExactFormatPoints x) kf := by kernel_rfl
theorem sd_laws_FnExactFormatPoints {Γ : Gl} (hΓ : TabΓ Γ) (N : Nat) : Sound Γ Tryd.prog 7 (run_laws_FnExactFormatPoints N) := fun_ok2 (hh := h_laws_FnExactFormatPoints) mixed tab_ok (es := es_laws_FnExactFormatPoints N) ⟨sd_laws_szPointS hΓ N, ⟨sd_laws_toPointS hΓ N, ⟨sd_spec_FormatPoints hΓ N, ⟨sd_impl_FormatPoints hΓ N, ⟨sd_laws_eqPointS hΓ N, trivial⟩⟩⟩⟩⟩ (fn := Tryd.f7) (body := body_laws_FnExactFormatPoints) (by kernel_rfl) (by kernel_rfl) (by kernel_rfl) (by kernel_rfl) (by kernel_rfl) (Lf := L_laws_FnExactFormatPoints N) (L0_laws_FnExactFormatPoints N) ls_laws_FnExactFormatPoints trivial (N := N) (by kernel_rfl) (fn_laws_FnExactFormatPoints N) (.inl (by kernel_rfl))
end Go.Pv.R
