/- Each function of the program that the law reaches computes its plain function, part 0. -/
import Derived.Test.YthdoldaaodmeeaaDoorPlRes
import Derived.Test.YthdoldaaodmeeaaDoorJoi
import Derived.Test.YthdoldaaodmeeaaDoorProg
namespace Go.Pv.R
open Go.Proofs
set_option linter.unusedVariables false
set_option maxRecDepth 100000
noncomputable abbrev dK : Kd := .dead
noncomputable def tab : Tab := [⟨2, (.int .i64), 0, []⟩, ⟨3, (.int .i64), 0, []⟩, ⟨4, .bool, 0, []⟩, ⟨5, (.int .u8), 0, []⟩, ⟨9, .str, 0, []⟩, ⟨12, (.int .u64), 0, []⟩, ⟨21, (.int .i32), 0, []⟩, ⟨22, (.sl (.int .i64)), 3, []⟩, ⟨27, (.sl (.sl (.int .i64))), 22, []⟩, ⟨33, tQILLIE, 0, [3, 27]⟩, ⟨34, tQILLIE, 0, [3, 27]⟩, ⟨37, tQILLIE, 0, [3, 27]⟩, ⟨41, (.sl tQIIE), 90, []⟩, ⟨44, (.sl tQIIE), 88, []⟩, ⟨48, (.sl tQIIIE), 96, []⟩, ⟨51, (.sl tQIIIE), 94, []⟩, ⟨55, (.sl tQIIIIILIE), 100, []⟩, ⟨58, (.sl tQIIIIILIE), 101, []⟩, ⟨66, (.sl tQIILIE), 136, []⟩, ⟨67, (.sl tQIIIE), 142, []⟩, ⟨68, (.sl tQIIIIE), 146, []⟩, ⟨69, tQLQIIIIILIELQIILIELQIIELILQIIIELQIIIIEIE, 0, [55, 66, 41, 22, 67, 68, 3]⟩, ⟨70, tQLQIIIIILIELQIILIELQIIELILQIIIELQIIIIEIE, 0, [55, 66, 41, 22, 67, 68, 3]⟩, ⟨73, (.sl tQIILIE), 139, []⟩, ⟨74, (.sl tQIIIE), 138, []⟩, ⟨75, (.sl tQIIIIE), 144, []⟩, ⟨76, tQLQIIIIILIELQIILIELQIIELILQIIIELQIIIIEIE, 0, [58, 73, 44, 22, 74, 75, 3]⟩, ⟨77, tQLQIIIIILIELQIILIELQIIELILQIIIELQIIIIEIE, 0, [58, 73, 44, 22, 74, 75, 3]⟩, ⟨81, (.sl .str), 9, []⟩, ⟨87, tQIIE, 0, [3, 3]⟩, ⟨88, tQIIE, 0, [3, 3]⟩, ⟨90, tQIIE, 0, [3, 3]⟩, ⟨93, tQIIIE, 0, [3, 3, 3]⟩, ⟨94, tQIIIE, 0, [3, 3, 3]⟩, ⟨96, tQIIIE, 0, [3, 3, 3]⟩, ⟨99, tQIIIIILIE, 0, [3, 3, 3, 3, 3, 22]⟩, ⟨100, tQIIIIILIE, 0, [3, 3, 3, 3, 3, 22]⟩, ⟨101, tQIIIIILIE, 0, [3, 3, 3, 3, 3, 22]⟩, ⟨120, (.sl (.int .u8)), 5, []⟩, ⟨135, tQIILIE, 0, [3, 3, 22]⟩, ⟨136, tQIILIE, 0, [3, 3, 22]⟩, ⟨137, tQIIIE, 0, [3, 3, 3]⟩, ⟨138, tQIIIE, 0, [3, 3, 3]⟩, ⟨139, tQIILIE, 0, [3, 3, 22]⟩, ⟨142, tQIIIE, 0, [3, 3, 3]⟩, ⟨143, tQIIIIE, 0, [3, 3, 3, 3]⟩, ⟨144, tQIIIIE, 0, [3, 3, 3, 3]⟩, ⟨146, tQIIIIE, 0, [3, 3, 3, 3]⟩, ⟨164, (.int .u64), 0, []⟩, ⟨166, (.int .u64), 0, []⟩, ⟨171, (.int .u32), 0, []⟩]
theorem mixed : Tryd.prog.follows .mixedOrders = true := by kernel_rfl
theorem tab_ok : tabB Tryd.prog tab = true := by kernel_rfl
/-- What stands in the first blocks: Go's table of the powers of ten. -/
abbrev TabΓ (Γ : Gl) : Prop := PowTab Tryd.prog Γ
/-! laws_toIntS -/
noncomputable def ks_laws_toIntS_l3 : List Kd := [.v (.sl (.int .i64)) .k, dK, dK, .v (.sl (.int .i64)) (.o 3 none .k), .v (.int .i64) .k, dK, dK, dK, dK, dK, dK, dK, dK, dK, dK, dK, dK, dK, dK, dK, dK, dK]
noncomputable def ko_laws_toIntS_l3_0 : List Kd := [dK, dK, dK, .v (.sl (.int .i64)) (.o 3 none .k), dK, dK, dK, dK, dK, dK, dK, dK, dK, dK, dK, dK, dK, dK, dK, dK, dK, dK]
noncomputable def h_laws_toIntS : Hint := { tab, hn := [], loops := [(3, ks_laws_toIntS_l3)], outs := [(3, 2, ko_laws_toIntS_l3_0)], ords := [] }
noncomputable def sg_laws_toIntS : List AK := [.v (.sl (.int .i64)) .k]
noncomputable def F_laws_toIntS (N : Nat) (x : AVals sg_laws_toIntS) (kf : Ret → Option Ret) : Option Ret := laws_toIntS N x.1 (fun r0 => kf ⟨[⟨(.sl (.int .i64)), (.o 3 none .k), r0⟩], []⟩)
noncomputable def run_laws_toIntS (N : Nat) := runOf sg_laws_toIntS (F_laws_toIntS N)
noncomputable def es_laws_toIntS (N : Nat) : List Entry := []
noncomputable def body_laws_toIntS : Code := match Tryd.f12.body with | some c => c | none => .skip
noncomputable def L_laws_toIntS (N n : Nat) (key : Nat) (S : St) (K : Ks) : Option Ret := bif Nat.beq key 3 then withVals ks_laws_toIntS_l3 S (fun x => laws_toIntS_l3 x.1 n (fun z0 => K (.x 0) (shape ko_laws_toIntS_l3_0 (z0, ()))) x.2.1 x.2.2.1) else none
theorem L0_laws_toIntS (N key : Nat) (S : St) (K : Ks) : L_laws_toIntS N 0 key S K = none := (bif0 (withVals0 fun _ => rfl) rfl)
noncomputable def c_laws_toIntS_0 : Code := (loopsIn body_laws_toIntS).getD 0 .skip
theorem ls_laws_toIntS : loopsIn body_laws_toIntS = [c_laws_toIntS_0] := by kernel_rfl
theorem rd_laws_toIntS_3 (N n : Nat) (x : Vals ks_laws_toIntS_l3) (K : Ks) : L_laws_toIntS N (n + 1) 3 (shape ks_laws_toIntS_l3 x) (h_laws_toIntS.onOut 3 K) = peRound h_laws_toIntS (Orc.of (es_laws_toIntS N)) (mixL (L_laws_toIntS N) N n 3) c_laws_toIntS_0 (shape ks_laws_toIntS_l3 x) (h_laws_toIntS.onOut 3 K) := by kernel_rfl
theorem fn_laws_toIntS (N : Nat) (x : AVals sg_laws_toIntS) (kf : Ret → Option Ret) : F_laws_toIntS N x kf = peFunc h_laws_toIntS (Orc.of (es_laws_toIntS N)) (L_laws_toIntS N N) Tryd.f12 (ashape sg_laws_toIntS x) kf := by kernel_rfl
theorem sd_laws_toIntS {Γ : Gl} (hΓ : TabΓ Γ) (N : Nat) : Sound Γ Tryd.prog 12 (run_laws_toIntS N) := fun_ok2 (hh := h_laws_toIntS) mixed tab_ok (es := es_laws_toIntS N) trivial (fn := Tryd.f12) (body := body_laws_toIntS) (by kernel_rfl) (by kernel_rfl) (by kernel_rfl) (by kernel_rfl) (by kernel_rfl) (Lf := L_laws_toIntS N) (L0_laws_toIntS N) ls_laws_toIntS (round_cons (key := 3) (ks := ks_laws_toIntS_l3) (by kernel_rfl) (by kernel_rfl) (rd_laws_toIntS_3 N) trivial) (N := N) (by kernel_rfl) (fn_laws_toIntS N) (.inl (by kernel_rfl))
/-! spec_FormatInt -/
noncomputable def ks_spec_FormatInt_l5 : List Kd := [.v (.int .i64) .k, dK, dK, .v .str .k, .v (.int .i64) .k, dK, dK, dK, dK, dK, dK, dK, dK, dK, dK, dK, dK, dK, dK, dK, dK, dK, dK, dK, dK, dK, dK, dK, dK, dK, dK]
noncomputable def ko_spec_FormatInt_l5_0 : List Kd := [.v (.int .i64) .k, dK, dK, .v .str .k, dK, dK, dK, dK, dK, dK, dK, dK, dK, dK, dK, dK, dK, dK, dK, dK, dK, dK, dK, dK, dK, dK, dK, dK, dK, dK, dK]
noncomputable def h_spec_FormatInt : Hint := { tab, hn := [], loops := [(5, ks_spec_FormatInt_l5)], outs := [(5, 2, ko_spec_FormatInt_l5_0)], ords := [] }
noncomputable def sg_spec_FormatInt : List AK := [.v (.int .i64) .k]
noncomputable def F_spec_FormatInt (N : Nat) (x : AVals sg_spec_FormatInt) (kf : Ret → Option Ret) : Option Ret := spec_FormatInt N x.1 (fun r0 => kf ⟨[⟨.str, .k, r0⟩], []⟩)
noncomputable def run_spec_FormatInt (N : Nat) := runOf sg_spec_FormatInt (F_spec_FormatInt N)
noncomputable def es_spec_FormatInt (N : Nat) : List Entry := []
noncomputable def body_spec_FormatInt : Code := match Tryd.f49.body with | some c => c | none => .skip
noncomputable def L_spec_FormatInt (N n : Nat) (key : Nat) (S : St) (K : Ks) : Option Ret := bif Nat.beq key 5 then withVals ks_spec_FormatInt_l5 S (fun x => spec_FormatInt_l5 x.1 n (fun z0 => K (.x 0) (shape ko_spec_FormatInt_l5_0 (x.1, z0, ()))) x.2.1 x.2.2.1) else none
theorem L0_spec_FormatInt (N key : Nat) (S : St) (K : Ks) : L_spec_FormatInt N 0 key S K = none := (bif0 (withVals0 fun _ => rfl) rfl)
noncomputable def c_spec_FormatInt_0 : Code := (loopsIn body_spec_FormatInt).getD 0 .skip
theorem ls_spec_FormatInt : loopsIn body_spec_FormatInt = [c_spec_FormatInt_0] := by kernel_rfl
theorem rd_spec_FormatInt_5 (N n : Nat) (x : Vals ks_spec_FormatInt_l5) (K : Ks) : L_spec_FormatInt N (n + 1) 5 (shape ks_spec_FormatInt_l5 x) (h_spec_FormatInt.onOut 5 K) = peRound h_spec_FormatInt (Orc.of (es_spec_FormatInt N)) (mixL (L_spec_FormatInt N) N n 5) c_spec_FormatInt_0 (shape ks_spec_FormatInt_l5 x) (h_spec_FormatInt.onOut 5 K) := by kernel_rfl
theorem fn_spec_FormatInt (N : Nat) (x : AVals sg_spec_FormatInt) (kf : Ret → Option Ret) : F_spec_FormatInt N x kf = peFunc h_spec_FormatInt (Orc.of (es_spec_FormatInt N)) (L_spec_FormatInt N N) Tryd.f49 (ashape sg_spec_FormatInt x) kf := by kernel_rfl
theorem sd_spec_FormatInt {Γ : Gl} (hΓ : TabΓ Γ) (N : Nat) : Sound Γ Tryd.prog 49 (run_spec_FormatInt N) := fun_ok2 (hh := h_spec_FormatInt) mixed tab_ok (es := es_spec_FormatInt N) trivial (fn := Tryd.f49) (body := body_spec_FormatInt) (by kernel_rfl) (by kernel_rfl) (by kernel_rfl) (by kernel_rfl) (by kernel_rfl) (Lf := L_spec_FormatInt N) (L0_spec_FormatInt N) ls_spec_FormatInt (round_cons (key := 5) (ks := ks_spec_FormatInt_l5) (by kernel_rfl) (by kernel_rfl) (rd_spec_FormatInt_5 N) trivial) (N := N) (by kernel_rfl) (fn_spec_FormatInt N) (.inl (by kernel_rfl))
/-! spec_l39Join -/
noncomputable def ks_spec_l39Join_l3 : List Kd := [.v (.sl .str) .k, dK, dK, .v .str .k, .v (.int .i64) .k, dK, dK, dK, dK, dK, dK, dK, dK, dK, dK, dK, dK, dK, dK, dK, dK, dK, dK, dK, dK]
noncomputable def ko_spec_l39Join_l3_0 : List Kd := [.v (.sl .str) .k, dK, dK, .v .str .k, dK, dK, dK, dK, dK, dK, dK, dK, dK, dK, dK, dK, dK, dK, dK, dK, dK, dK, dK, dK, dK]
noncomputable def h_spec_l39Join : Hint := { tab, hn := [], loops := [(3, ks_spec_l39Join_l3)], outs := [(3, 2, ko_spec_l39Join_l3_0)], ords := [] }
noncomputable def sg_spec_l39Join : List AK := [.v (.sl .str) .k]
noncomputable def F_spec_l39Join (N : Nat) (x : AVals sg_spec_l39Join) (kf : Ret → Option Ret) : Option Ret := spec_l39Join N x.1 (fun r0 => kf ⟨[⟨.str, .k, r0⟩], []⟩)
noncomputable def run_spec_l39Join (N : Nat) := runOf sg_spec_l39Join (F_spec_l39Join N)
noncomputable def es_spec_l39Join (N : Nat) : List Entry := []
noncomputable def body_spec_l39Join : Code := match Tryd.f50.body with | some c => c | none => .skip
noncomputable def L_spec_l39Join (N n : Nat) (key : Nat) (S : St) (K : Ks) : Option Ret := bif Nat.beq key 3 then withVals ks_spec_l39Join_l3 S (fun x => spec_l39Join_l3 x.1 n (fun z0 => K (.x 0) (shape ko_spec_l39Join_l3_0 (x.1, z0, ()))) x.2.1 x.2.2.1) else none
theorem L0_spec_l39Join (N key : Nat) (S : St) (K : Ks) : L_spec_l39Join N 0 key S K = none := (bif0 (withVals0 fun _ => rfl) rfl)
noncomputable def c_spec_l39Join_0 : Code := (loopsIn body_spec_l39Join).getD 0 .skip
theorem ls_spec_l39Join : loopsIn body_spec_l39Join = [c_spec_l39Join_0] := by kernel_rfl
theorem rd_spec_l39Join_3 (N n : Nat) (x : Vals ks_spec_l39Join_l3) (K : Ks) : L_spec_l39Join N (n + 1) 3 (shape ks_spec_l39Join_l3 x) (h_spec_l39Join.onOut 3 K) = peRound h_spec_l39Join (Orc.of (es_spec_l39Join N)) (mixL (L_spec_l39Join N) N n 3) c_spec_l39Join_0 (shape ks_spec_l39Join_l3 x) (h_spec_l39Join.onOut 3 K) := by kernel_rfl
theorem fn_spec_l39Join (N : Nat) (x : AVals sg_spec_l39Join) (kf : Ret → Option Ret) : F_spec_l39Join N x kf = peFunc h_spec_l39Join (Orc.of (es_spec_l39Join N)) (L_spec_l39Join N N) Tryd.f50 (ashape sg_spec_l39Join x) kf := by kernel_rfl
theorem sd_spec_l39Join {Γ : Gl} (hΓ : TabΓ Γ) (N : Nat) : Sound Γ Tryd.prog 50 (run_spec_l39Join N) := fun_ok2 (hh := h_spec_l39Join) mixed tab_ok (es := es_spec_l39Join N) trivial (fn := Tryd.f50) (body := body_spec_l39Join) (by kernel_rfl) (by kernel_rfl) (by kernel_rfl) (by kernel_rfl) (by kernel_rfl) (Lf := L_spec_l39Join N) (L0_spec_l39Join N) ls_spec_l39Join (round_cons (key := 3) (ks := ks_spec_l39Join_l3) (by kernel_rfl) (by kernel_rfl) (rd_spec_l39Join_3 N) trivial) (N := N) (by kernel_rfl) (fn_spec_l39Join N) (.inl (by kernel_rfl))
/-! spec_FormatNumbers -/
noncomputable def ks_spec_FormatNumbers_l3 : List Kd := [.v (.sl (.int .i64)) .k, dK, dK, .v (.sl .str) (.o 9 none .k), .v (.int .i64) .k, dK, dK, dK, dK, dK, dK, dK, dK, dK, dK, dK, dK, dK, dK, dK, dK, dK]
noncomputable def ko_spec_FormatNumbers_l3_0 : List Kd := [dK, dK, dK, .v (.sl .str) (.o 9 none .k), dK, dK, dK, dK, dK, dK, dK, dK, dK, dK, dK, dK, dK, dK, dK, dK, dK, dK]
noncomputable def h_spec_FormatNumbers : Hint := { tab, hn := [], loops := [(3, ks_spec_FormatNumbers_l3)], outs := [(3, 2, ko_spec_FormatNumbers_l3_0)], ords := [] }
noncomputable def sg_spec_FormatNumbers : List AK := [.v (.sl (.int .i64)) .k]
noncomputable def F_spec_FormatNumbers (N : Nat) (x : AVals sg_spec_FormatNumbers) (kf : Ret → Option Ret) : Option Ret := spec_FormatNumbers N x.1 (fun r0 => kf ⟨[⟨.str, .k, r0⟩], []⟩)
noncomputable def run_spec_FormatNumbers (N : Nat) := runOf sg_spec_FormatNumbers (F_spec_FormatNumbers N)
noncomputable def es_spec_FormatNumbers (N : Nat) : List Entry := [⟨49, [.val], (run_spec_FormatInt N)⟩, ⟨50, [.val], (run_spec_l39Join N)⟩]
noncomputable def body_spec_FormatNumbers : Code := match Tryd.f11.body with | some c => c | none => .skip
noncomputable def L_spec_FormatNumbers (N n : Nat) (key : Nat) (S : St) (K : Ks) : Option Ret := bif Nat.beq key 3 then withVals ks_spec_FormatNumbers_l3 S (fun x => spec_FormatNumbers_l3 N x.1 n (fun z0 => K (.x 0) (shape ko_spec_FormatNumbers_l3_0 (z0, ()))) x.2.1 x.2.2.1) else none
theorem L0_spec_FormatNumbers (N key : Nat) (S : St) (K : Ks) : L_spec_FormatNumbers N 0 key S K = none := (bif0 (withVals0 fun _ => rfl) rfl)
noncomputable def c_spec_FormatNumbers_0 : Code := (loopsIn body_spec_FormatNumbers).getD 0 .skip
theorem ls_spec_FormatNumbers : loopsIn body_spec_FormatNumbers = [c_spec_FormatNumbers_0] := by kernel_rfl
theorem rd_spec_FormatNumbers_3 (N n : Nat) (x : Vals ks_spec_FormatNumbers_l3) (K : Ks) : L_spec_FormatNumbers N (n + 1) 3 (shape ks_spec_FormatNumbers_l3 x) (h_spec_FormatNumbers.onOut 3 K) = peRound h_spec_FormatNumbers (Orc.of (es_spec_FormatNumbers N)) (mixL (L_spec_FormatNumbers N) N n 3) c_spec_FormatNumbers_0 (shape ks_spec_FormatNumbers_l3 x) (h_spec_FormatNumbers.onOut 3 K) := by kernel_rfl
theorem fn_spec_FormatNumbers (N : Nat) (x : AVals sg_spec_FormatNumbers) (kf : Ret → Option Ret) : F_spec_FormatNumbers N x kf = peFunc h_spec_FormatNumbers (Orc.of (es_spec_FormatNumbers N)) (L_spec_FormatNumbers N N) Tryd.f11 (ashape sg_spec_FormatNumbers x) kf := by kernel_rfl
theorem sd_spec_FormatNumbers {Γ : Gl} (hΓ : TabΓ Γ) (N : Nat) : Sound Γ Tryd.prog 11 (run_spec_FormatNumbers N) := fun_ok2 (hh := h_spec_FormatNumbers) mixed tab_ok (es := es_spec_FormatNumbers N) ⟨sd_spec_FormatInt hΓ N, ⟨sd_spec_l39Join hΓ N, trivial⟩⟩ (fn := Tryd.f11) (body := body_spec_FormatNumbers) (by kernel_rfl) (by kernel_rfl) (by kernel_rfl) (by kernel_rfl) (by kernel_rfl) (Lf := L_spec_FormatNumbers N) (L0_spec_FormatNumbers N) ls_spec_FormatNumbers (round_cons (key := 3) (ks := ks_spec_FormatNumbers_l3) (by kernel_rfl) (by kernel_rfl) (rd_spec_FormatNumbers_3 N) trivial) (N := N) (by kernel_rfl) (fn_spec_FormatNumbers N) (.inl (by kernel_rfl))
/-! strconv_Itoa: told by the shelf -/
def ren_strconv_Itoa : Go.Shelf.Ren := ⟨fun n => bif Nat.beq n 129 then 130 else bif Nat.beq n 171 then 84 else bif Nat.beq n 243 then 103 else bif Nat.beq n 246 then 111 else bif Nat.beq n 283 then 122 else bif Nat.beq n 284 then 123 else bif Nat.beq n 285 then 124 else bif Nat.beq n 286 then 125 else bif Nat.beq n 317 then 129 else bif Nat.beq n 318 then 131 else bif Nat.beq n 319 then 132 else bif Nat.beq n 320 then 133 else bif Nat.beq n 337 then 134 else bif Nat.beq n 338 then 135 else n, fun n => bif Nat.beq n 0 then 0 else bif Nat.beq n 2 then 2 else bif Nat.beq n 3 then 3 else bif Nat.beq n 4 then 4 else bif Nat.beq n 5 then 5 else bif Nat.beq n 9 then 9 else bif Nat.beq n 20 then 20 else bif Nat.beq n 37 then 120 else bif Nat.beq n 46 then 164 else bif Nat.beq n 51 then 171 else bif Nat.beq n 53 then 166 else bif Nat.beq n 171 then 165 else bif Nat.beq n 173 then 169 else bif Nat.beq n 212 then 175 else bif Nat.beq n 213 then 176 else bif Nat.beq n 232 then 183 else bif Nat.beq n 233 then 184 else n, fun n => bif Nat.beq n 17 then 1 else bif Nat.beq n 18 then 4 else bif Nat.beq n 19 then 5 else n⟩
theorem lays_strconv_Itoa : LaysM.n171 Tryd.prog ren_strconv_Itoa := { mixed := by kernel_rfl, f129 := by kernel_rfl, f171 := by kernel_rfl, f243 := by kernel_rfl, f246 := by kernel_rfl, f283 := by kernel_rfl, f284 := by kernel_rfl, f285 := by kernel_rfl, f286 := by kernel_rfl, f317 := by kernel_rfl, f318 := by kernel_rfl, f319 := by kernel_rfl, f320 := by kernel_rfl, f337 := by kernel_rfl, f338 := by kernel_rfl, t0 := by kernel_rfl, a0 := fun w => by kernel_rfl, z0 := fun w => by kernel_rfl, v0 := fun w => by kernel_rfl, t2 := by kernel_rfl, a2 := fun w => by kernel_rfl, z2 := fun w => by kernel_rfl, v2 := fun w => by kernel_rfl, t3 := by kernel_rfl, a3 := fun w => by kernel_rfl, z3 := fun w => by kernel_rfl, v3 := fun w => by kernel_rfl, t4 := by kernel_rfl, a4 := fun w => by kernel_rfl, z4 := fun w => by kernel_rfl, v4 := fun w => by kernel_rfl, t5 := by kernel_rfl, a5 := fun w => by kernel_rfl, z5 := fun w => by kernel_rfl, v5 := fun w => by kernel_rfl, t9 := by kernel_rfl, a9 := fun w => by kernel_rfl, z9 := fun w => by kernel_rfl, v9 := fun w => by kernel_rfl, t20 := by kernel_rfl, a20 := fun w => by kernel_rfl, z20 := fun w => by kernel_rfl, v20 := fun w => by kernel_rfl, t37 := by kernel_rfl, a37 := fun w => by kernel_rfl, z37 := fun w => by kernel_rfl, v37 := fun w => by kernel_rfl, t46 := by kernel_rfl, a46 := fun w => by kernel_rfl, z46 := fun w => by kernel_rfl, v46 := fun w => by kernel_rfl, t51 := by kernel_rfl, a51 := fun w => by kernel_rfl, z51 := fun w => by kernel_rfl, v51 := fun w => by kernel_rfl, t53 := by kernel_rfl, a53 := fun w => by kernel_rfl, z53 := fun w => by kernel_rfl, v53 := fun w => by kernel_rfl, t171 := by kernel_rfl, a171 := fun w => by kernel_rfl, z171 := fun w => by kernel_rfl, v171 := fun w => by kernel_rfl, t173 := by kernel_rfl, a173 := fun w => by kernel_rfl, z173 := fun w => by kernel_rfl, v173 := fun w => by kernel_rfl, t212 := by kernel_rfl, a212 := fun w => by kernel_rfl, z212 := fun w => by kernel_rfl, v212 := fun w => by kernel_rfl, t213 := by kernel_rfl, a213 := fun w => by kernel_rfl, z213 := fun w => by kernel_rfl, t232 := by kernel_rfl, a232 := fun w => by kernel_rfl, z232 := fun w => by kernel_rfl, v232 := fun w => by kernel_rfl, t233 := by kernel_rfl, a233 := fun w => by kernel_rfl, z233 := fun w => by kernel_rfl, v233 := fun w => by kernel_rfl, g17 := by kernel_rfl, g18 := by kernel_rfl, g19 := by kernel_rfl, i0 := by kernel_rfl, i2 := by kernel_rfl, i3 := by kernel_rfl, i4 := by kernel_rfl, i5 := by kernel_rfl, i9 := by kernel_rfl, i20 := by kernel_rfl, i37 := by kernel_rfl, i46 := by kernel_rfl, i51 := by kernel_rfl, i53 := by kernel_rfl, i171 := by kernel_rfl, i173 := by kernel_rfl, i212 := by kernel_rfl, i232 := by kernel_rfl, i233 := by kernel_rfl, m17 := by kernel_rfl, m18 := by kernel_rfl, m19 := by kernel_rfl }
noncomputable def sg_strconv_Itoa : List AK := [.v (.int .i64) .k]
noncomputable def F_strconv_Itoa (N : Nat) (x : AVals sg_strconv_Itoa) (kf : Ret → Option Ret) : Option Ret := strconv_Itoa N x.1 (fun r0 => kf ⟨[⟨.str, .k, r0⟩], []⟩)
noncomputable def run_strconv_Itoa (N : Nat) := runOf sg_strconv_Itoa (F_strconv_Itoa N)
theorem sd_strconv_Itoa {Γ : Gl} (hΓ : TabΓ Γ) (N : Nat) : Sound Γ Tryd.prog 84 (run_strconv_Itoa N) := sound_itoa lays_strconv_Itoa hΓ
/-! impl_FormatInt -/
noncomputable def h_impl_FormatInt : Hint := { tab, hn := [], loops := [], outs := [], ords := [] }
noncomputable def sg_impl_FormatInt : List AK := [.v (.int .i64) .k]
noncomputable def F_impl_FormatInt (N : Nat) (x : AVals sg_impl_FormatInt) (kf : Ret → Option Ret) : Option Ret := impl_FormatInt N x.1 (fun r0 => kf ⟨[⟨.str, .k, r0⟩], []⟩)
noncomputable def run_impl_FormatInt (N : Nat) := runOf sg_impl_FormatInt (F_impl_FormatInt N)
noncomputable def es_impl_FormatInt (N : Nat) : List Entry := [⟨84, [.val], (run_strconv_Itoa N)⟩]
noncomputable def body_impl_FormatInt : Code := match Tryd.f51.body with | some c => c | none => .skip
noncomputable def L_impl_FormatInt (N n : Nat) (key : Nat) (S : St) (K : Ks) : Option Ret := none
theorem L0_impl_FormatInt (N key : Nat) (S : St) (K : Ks) : L_impl_FormatInt N 0 key S K = none := rfl
theorem ls_impl_FormatInt : loopsIn body_impl_FormatInt = [] := by kernel_rfl
theorem fn_impl_FormatInt (N : Nat) (x : AVals sg_impl_FormatInt) (kf : Ret → Option Ret) : F_impl_FormatInt N x kf = peFunc h_impl_FormatInt (Orc.of (es_impl_FormatInt N)) (L_impl_FormatInt N N) Tryd.f51 (ashape sg_impl_FormatInt x) kf := by kernel_rfl
theorem sd_impl_FormatInt {Γ : Gl} (hΓ : TabΓ Γ) (N : Nat) : Sound Γ Tryd.prog 51 (run_impl_FormatInt N) := fun_ok2 (hh := h_impl_FormatInt) mixed tab_ok (es := es_impl_FormatInt N) ⟨sd_strconv_Itoa hΓ N, trivial⟩ (fn := Tryd.f51) (body := body_impl_FormatInt) (by kernel_rfl) (by kernel_rfl) (by kernel_rfl) (by kernel_rfl) (by kernel_rfl) (Lf := L_impl_FormatInt N) (L0_impl_FormatInt N) ls_impl_FormatInt trivial (N := N) (by kernel_rfl) (fn_impl_FormatInt N) (.inl (by kernel_rfl))
/-! strings_Join: told by the shelf -/
def ren_strings_Join : Go.Shelf.Ren := ⟨fun n => bif Nat.beq n 156 then 54 else bif Nat.beq n 165 then 85 else bif Nat.beq n 166 then 86 else bif Nat.beq n 169 then 87 else bif Nat.beq n 240 then 104 else bif Nat.beq n 241 then 105 else bif Nat.beq n 276 then 112 else bif Nat.beq n 277 then 113 else n, fun n => bif Nat.beq n 0 then 0 else bif Nat.beq n 3 then 3 else bif Nat.beq n 4 then 4 else bif Nat.beq n 5 then 5 else bif Nat.beq n 9 then 9 else bif Nat.beq n 20 then 20 else bif Nat.beq n 31 then 81 else bif Nat.beq n 37 then 120 else bif Nat.beq n 70 then 121 else bif Nat.beq n 72 then 123 else bif Nat.beq n 75 then 126 else bif Nat.beq n 76 then 127 else bif Nat.beq n 80 then 129 else bif Nat.beq n 127 then 150 else bif Nat.beq n 164 then 155 else n, fun n => n⟩
theorem lays_strings_Join : Lays.n156 Tryd.prog ren_strings_Join := { mixed := by kernel_rfl, f156 := by kernel_rfl, f165 := by kernel_rfl, f166 := by kernel_rfl, f169 := by kernel_rfl, f240 := by kernel_rfl, f241 := by kernel_rfl, f276 := by kernel_rfl, f277 := by kernel_rfl, t0 := by kernel_rfl, a0 := fun w => by kernel_rfl, z0 := fun w => by kernel_rfl, v0 := fun w => by kernel_rfl, t3 := by kernel_rfl, a3 := fun w => by kernel_rfl, z3 := fun w => by kernel_rfl, v3 := fun w => by kernel_rfl, t4 := by kernel_rfl, a4 := fun w => by kernel_rfl, z4 := fun w => by kernel_rfl, v4 := fun w => by kernel_rfl, t9 := by kernel_rfl, a9 := fun w => by kernel_rfl, z9 := fun w => by kernel_rfl, v9 := fun w => by kernel_rfl, t20 := by kernel_rfl, a20 := fun w => by kernel_rfl, z20 := fun w => by kernel_rfl, v20 := fun w => by kernel_rfl, t31 := by kernel_rfl, a31 := fun w => by kernel_rfl, z31 := fun w => by kernel_rfl, v31 := fun w => by kernel_rfl, t37 := by kernel_rfl, a37 := fun w => by kernel_rfl, z37 := fun w => by kernel_rfl, v37 := fun w => by kernel_rfl, t70 := by kernel_rfl, a70 := fun w => by kernel_rfl, z70 := fun w => by kernel_rfl, v70 := fun w => by kernel_rfl, t72 := by kernel_rfl, a72 := fun w => by kernel_rfl, z72 := fun w => by kernel_rfl, v72 := fun w => by kernel_rfl, t75 := by kernel_rfl, a75 := fun w => by kernel_rfl, z75 := fun w => by kernel_rfl, v75 := fun w => by kernel_rfl, t76 := by kernel_rfl, a76 := fun w => by kernel_rfl, z76 := fun w => by kernel_rfl, v76 := fun w => by kernel_rfl, t127 := by kernel_rfl, a127 := fun w => by kernel_rfl, z127 := fun w => by kernel_rfl, v127 := fun w => by kernel_rfl, t164 := by kernel_rfl, a164 := fun w => by kernel_rfl, z164 := fun w => by kernel_rfl, v164 := fun w => by kernel_rfl }
theorem more_strings_Join : Builder.Extra Tryd.prog ren_strings_Join := { sizeBuilder := by kernel_rfl, liesBuilder := by kernel_rfl, t5 := by kernel_rfl, a5 := fun w => by kernel_rfl, z5 := fun w => by kernel_rfl, v5 := fun w => by kernel_rfl, infoByte := by kernel_rfl, cellsByte := by kernel_rfl, sizeByte := by kernel_rfl, neB5 := by decide }
noncomputable def sg_strings_Join : List AK := [.v (.sl .str) .k, .v .str .k]
noncomputable def F_strings_Join (N : Nat) (x : AVals sg_strings_Join) (kf : Ret → Option Ret) : Option Ret := strings_Join N x.1 x.2.1 (fun r0 => kf ⟨[⟨.str, .k, r0⟩], []⟩)
noncomputable def run_strings_Join (N : Nat) := runOf sg_strings_Join (F_strings_Join N)
theorem sd_strings_Join {Γ : Gl} (hΓ : TabΓ Γ) (N : Nat) : Sound Γ Tryd.prog 54 (run_strings_Join N) := sound_join lays_strings_Join more_strings_Join
/-! impl_joined -/
noncomputable def h_impl_joined : Hint := { tab, hn := [], loops := [], outs := [], ords := [] }
noncomputable def sg_impl_joined : List AK := [.v (.sl .str) .k]
noncomputable def F_impl_joined (N : Nat) (x : AVals sg_impl_joined) (kf : Ret → Option Ret) : Option Ret := impl_joined N x.1 (fun r0 => kf ⟨[⟨.str, .k, r0⟩], []⟩)
noncomputable def run_impl_joined (N : Nat) := runOf sg_impl_joined (F_impl_joined N)
noncomputable def es_impl_joined (N : Nat) : List Entry := [⟨54, [.val, .val], (run_strings_Join N)⟩]
noncomputable def body_impl_joined : Code := match Tryd.f52.body with | some c => c | none => .skip
noncomputable def L_impl_joined (N n : Nat) (key : Nat) (S : St) (K : Ks) : Option Ret := none
theorem L0_impl_joined (N key : Nat) (S : St) (K : Ks) : L_impl_joined N 0 key S K = none := rfl
theorem ls_impl_joined : loopsIn body_impl_joined = [] := by kernel_rfl
theorem fn_impl_joined (N : Nat) (x : AVals sg_impl_joined) (kf : Ret → Option Ret) : F_impl_joined N x kf = peFunc h_impl_joined (Orc.of (es_impl_joined N)) (L_impl_joined N N) Tryd.f52 (ashape sg_impl_joined x) kf := by kernel_rfl
theorem sd_impl_joined {Γ : Gl} (hΓ : TabΓ Γ) (N : Nat) : Sound Γ Tryd.prog 52 (run_impl_joined N) := fun_ok2 (hh := h_impl_joined) mixed tab_ok (es := es_impl_joined N) ⟨sd_strings_Join hΓ N, trivial⟩ (fn := Tryd.f52) (body := body_impl_joined) (by kernel_rfl) (by kernel_rfl) (by kernel_rfl) (by kernel_rfl) (by kernel_rfl) (Lf := L_impl_joined N) (L0_impl_joined N) ls_impl_joined trivial (N := N) (by kernel_rfl) (fn_impl_joined N) (.inl (by kernel_rfl))
/-! impl_FormatNumbers -/
noncomputable def ks_impl_FormatNumbers_l3 : List Kd := [dK, dK, dK, .v (.sl .str) (.o 9 none .k), dK, dK, dK, .v (.sl (.int .i64)) .k, .v (.int .i64) .k, .v (.int .i64) .k, dK, dK, dK, dK, dK, dK, dK, dK, dK, dK, dK]
noncomputable def ko_impl_FormatNumbers_l3_0 : List Kd := [dK, dK, dK, .v (.sl .str) (.o 9 none .k), dK, dK, dK, dK, dK, dK, dK, dK, dK, dK, dK, dK, dK, dK, dK, dK, dK]
noncomputable def h_impl_FormatNumbers : Hint := { tab, hn := [], loops := [(3, ks_impl_FormatNumbers_l3)], outs := [(3, 2, ko_impl_FormatNumbers_l3_0)], ords := [] }
noncomputable def sg_impl_FormatNumbers : List AK := [.v (.sl (.int .i64)) .k]
noncomputable def F_impl_FormatNumbers (N : Nat) (x : AVals sg_impl_FormatNumbers) (kf : Ret → Option Ret) : Option Ret := impl_FormatNumbers N x.1 (fun r0 => kf ⟨[⟨.str, .k, r0⟩], []⟩)
noncomputable def run_impl_FormatNumbers (N : Nat) := runOf sg_impl_FormatNumbers (F_impl_FormatNumbers N)
noncomputable def es_impl_FormatNumbers (N : Nat) : List Entry := [⟨51, [.val], (run_impl_FormatInt N)⟩, ⟨52, [.val], (run_impl_joined N)⟩]
noncomputable def body_impl_FormatNumbers : Code := match Tryd.f13.body with | some c => c | none => .skip
noncomputable def L_impl_FormatNumbers (N n : Nat) (key : Nat) (S : St) (K : Ks) : Option Ret := bif Nat.beq key 3 then withVals ks_impl_FormatNumbers_l3 S (fun x => impl_FormatNumbers_l3 N x.2.1 x.2.2.1 n (fun z0 => K (.x 0) (shape ko_impl_FormatNumbers_l3_0 (z0, ()))) x.1 x.2.2.2.1) else none
theorem L0_impl_FormatNumbers (N key : Nat) (S : St) (K : Ks) : L_impl_FormatNumbers N 0 key S K = none := (bif0 (withVals0 fun _ => rfl) rfl)
noncomputable def c_impl_FormatNumbers_0 : Code := (loopsIn body_impl_FormatNumbers).getD 0 .skip
theorem ls_impl_FormatNumbers : loopsIn body_impl_FormatNumbers = [c_impl_FormatNumbers_0] := by kernel_rfl
theorem rd_impl_FormatNumbers_3 (N n : Nat) (x : Vals ks_impl_FormatNumbers_l3) (K : Ks) : L_impl_FormatNumbers N (n + 1) 3 (shape ks_impl_FormatNumbers_l3 x) (h_impl_FormatNumbers.onOut 3 K) = peRound h_impl_FormatNumbers (Orc.of (es_impl_FormatNumbers N)) (mixL (L_impl_FormatNumbers N) N n 3) c_impl_FormatNumbers_0 (shape ks_impl_FormatNumbers_l3 x) (h_impl_FormatNumbers.onOut 3 K) := by kernel_rfl
theorem fn_impl_FormatNumbers (N : Nat) (x : AVals sg_impl_FormatNumbers) (kf : Ret → Option Ret) : F_impl_FormatNumbers N x kf = peFunc h_impl_FormatNumbers (Orc.of (es_impl_FormatNumbers N)) (L_impl_FormatNumbers N N) Tryd.f13 (ashape sg_impl_FormatNumbers x) kf := by kernel_rfl
theorem sd_impl_FormatNumbers {Γ : Gl} (hΓ : TabΓ Γ) (N : Nat) : Sound Γ Tryd.prog 13 (run_impl_FormatNumbers N) := fun_ok2 (hh := h_impl_FormatNumbers) mixed tab_ok (es := es_impl_FormatNumbers N) ⟨sd_impl_FormatInt hΓ N, ⟨sd_impl_joined hΓ N, trivial⟩⟩ (fn := Tryd.f13) (body := body_impl_FormatNumbers) (by kernel_rfl) (by kernel_rfl) (by kernel_rfl) (by kernel_rfl) (by kernel_rfl) (Lf := L_impl_FormatNumbers N) (L0_impl_FormatNumbers N) ls_impl_FormatNumbers (round_cons (key := 3) (ks := ks_impl_FormatNumbers_l3) (by kernel_rfl) (by kernel_rfl) (rd_impl_FormatNumbers_3 N) trivial) (N := N) (by kernel_rfl) (fn_impl_FormatNumbers N) (.inl (by kernel_rfl))
/-! laws_eqIntS -/
noncomputable def ks_laws_eqIntS_l4 : List Kd := [.v (.sl (.int .i64)) .k, .v (.sl (.int .i64)) .k, dK, dK, dK, .v (.int .i64) .k, dK, dK, dK, dK, dK, dK, dK, dK, dK, dK, dK, dK, dK, dK, dK, dK, dK, dK, dK, dK]
noncomputable def ko_laws_eqIntS_l4_0 : List Kd := [dK, dK, dK, dK, dK, dK, dK, dK, dK, dK, dK, dK, dK, dK, dK, dK, dK, dK, dK, dK, dK, dK, dK, dK, dK, dK]
noncomputable def ko_laws_eqIntS_l4_1 : List Kd := [dK, dK, dK, dK, .v .bool .k, dK, dK, dK, dK, dK, dK, dK, dK, dK, dK, dK, dK, dK, dK, dK, dK, dK, dK, dK, dK, dK]
noncomputable def h_laws_eqIntS : Hint := { tab, hn := [], loops := [(4, ks_laws_eqIntS_l4)], outs := [(4, 2, ko_laws_eqIntS_l4_0), (4, 1, ko_laws_eqIntS_l4_1)], ords := [(6, (OT.seq [0, 1, 2, 3, 4, 5, 6, 7, 8] .done))] }
noncomputable def sg_laws_eqIntS : List AK := [.v (.sl (.int .i64)) .k, .v (.sl (.int .i64)) .k]
noncomputable def F_laws_eqIntS (N : Nat) (x : AVals sg_laws_eqIntS) (kf : Ret → Option Ret) : Option Ret := laws_eqIntS N x.1 x.2.1 (fun r0 => kf ⟨[⟨.bool, .k, r0⟩], []⟩)
noncomputable def run_laws_eqIntS (N : Nat) := runOf sg_laws_eqIntS (F_laws_eqIntS N)
noncomputable def es_laws_eqIntS (N : Nat) : List Entry := []
noncomputable def body_laws_eqIntS : Code := match Tryd.f14.body with | some c => c | none => .skip
noncomputable def L_laws_eqIntS (N n : Nat) (key : Nat) (S : St) (K : Ks) : Option Ret := bif Nat.beq key 4 then withVals ks_laws_eqIntS_l4 S (fun x => laws_eqIntS_l4 x.1 x.2.1 n (K (.x 0) (shape ko_laws_eqIntS_l4_0 ())) (fun z0 => K .r (shape ko_laws_eqIntS_l4_1 (z0, ()))) x.2.2.1) else none
theorem L0_laws_eqIntS (N key : Nat) (S : St) (K : Ks) : L_laws_eqIntS N 0 key S K = none := (bif0 (withVals0 fun _ => rfl) rfl)
noncomputable def c_laws_eqIntS_0 : Code := (loopsIn body_laws_eqIntS).getD 0 .skip
theorem ls_laws_eqIntS : loopsIn body_laws_eqIntS = [c_laws_eqIntS_0] := by kernel_rfl
theorem rd_laws_eqIntS_4 (N n : Nat) (x : Vals ks_laws_eqIntS_l4) (K : Ks) : L_laws_eqIntS N (n + 1) 4 (shape ks_laws_eqIntS_l4 x) (h_laws_eqIntS.onOut 4 K) = peRound h_laws_eqIntS (Orc.of (es_laws_eqIntS N)) (mixL (L_laws_eqIntS N) N n 4) c_laws_eqIntS_0 (shape ks_laws_eqIntS_l4 x) (h_laws_eqIntS.onOut 4 K) := by kernel_rfl
theorem fn_laws_eqIntS (N : Nat) (x : AVals sg_laws_eqIntS) (kf : Ret → Option Ret) : F_laws_eqIntS N x kf = peFunc h_laws_eqIntS (Orc.of (es_laws_eqIntS N)) (L_laws_eqIntS N N) Tryd.f14 (ashape sg_laws_eqIntS x) kf := by kernel_rfl
theorem sd_laws_eqIntS {Γ : Gl} (hΓ : TabΓ Γ) (N : Nat) : Sound Γ Tryd.prog 14 (run_laws_eqIntS N) := fun_ok2 (hh := h_laws_eqIntS) mixed tab_ok (es := es_laws_eqIntS N) trivial (fn := Tryd.f14) (body := body_laws_eqIntS) (by kernel_rfl) (by kernel_rfl) (by kernel_rfl) (by kernel_rfl) (by kernel_rfl) (Lf := L_laws_eqIntS N) (L0_laws_eqIntS N) ls_laws_eqIntS (round_cons (key := 4) (ks := ks_laws_eqIntS_l4) (by kernel_rfl) (by kernel_rfl) (rd_laws_eqIntS_4 N) trivial) (N := N) (by kernel_rfl) (fn_laws_eqIntS N) (.inl (by kernel_rfl))
/-! laws_szIntS -/
noncomputable def h_laws_szIntS : Hint := { tab, hn := [], loops := [], outs := [], ords := [] }
noncomputable def sg_laws_szIntS : List AK := [.v (.sl (.int .i64)) .k, .v (.int .i64) .k]
noncomputable def F_laws_szIntS (N : Nat) (x : AVals sg_laws_szIntS) (kf : Ret → Option Ret) : Option Ret := laws_szIntS N x.1 x.2.1 (fun r0 => kf ⟨[⟨(.int .i64), .k, r0⟩], []⟩)
noncomputable def run_laws_szIntS (N : Nat) := runOf sg_laws_szIntS (F_laws_szIntS N)
noncomputable def es_laws_szIntS (N : Nat) : List Entry := []
noncomputable def body_laws_szIntS : Code := match Tryd.f53.body with | some c => c | none => .skip
noncomputable def L_laws_szIntS (N n : Nat) (key : Nat) (S : St) (K : Ks) : Option Ret := none
theorem L0_laws_szIntS (N key : Nat) (S : St) (K : Ks) : L_laws_szIntS N 0 key S K = none := rfl
theorem ls_laws_szIntS : loopsIn body_laws_szIntS = [] := by kernel_rfl
theorem fn_laws_szIntS (N : Nat) (x : AVals sg_laws_szIntS) (kf : Ret → Option Ret) : F_laws_szIntS N x kf = peFunc h_laws_szIntS (Orc.of (es_laws_szIntS N)) (L_laws_szIntS N N) Tryd.f53 (ashape sg_laws_szIntS x) kf := by kernel_rfl
theorem sd_laws_szIntS {Γ : Gl} (hΓ : TabΓ Γ) (N : Nat) : Sound Γ Tryd.prog 53 (run_laws_szIntS N) := fun_ok2 (hh := h_laws_szIntS) mixed tab_ok (es := es_laws_szIntS N) trivial (fn := Tryd.f53) (body := body_laws_szIntS) (by kernel_rfl) (by kernel_rfl) (by kernel_rfl) (by kernel_rfl) (by kernel_rfl) (Lf := L_laws_szIntS N) (L0_laws_szIntS N) ls_laws_szIntS trivial (N := N) (by kernel_rfl) (fn_laws_szIntS N) (.inl (by kernel_rfl))
/-! laws_szPairS -/
noncomputable def h_laws_szPairS : Hint := { tab, hn := [], loops := [], outs := [], ords := [] }
noncomputable def sg_laws_szPairS : List AK := [.v (.sl tQIIE) .k, .v (.int .i64) .k]
noncomputable def F_laws_szPairS (N : Nat) (x : AVals sg_laws_szPairS) (kf : Ret → Option Ret) : Option Ret := laws_szPairS N x.1 x.2.1 (fun r0 => kf ⟨[⟨(.int .i64), .k, r0⟩], []⟩)
noncomputable def run_laws_szPairS (N : Nat) := runOf sg_laws_szPairS (F_laws_szPairS N)
noncomputable def es_laws_szPairS (N : Nat) : List Entry := []
noncomputable def body_laws_szPairS : Code := match Tryd.f25.body with | some c => c | none => .skip
noncomputable def L_laws_szPairS (N n : Nat) (key : Nat) (S : St) (K : Ks) : Option Ret := none
theorem L0_laws_szPairS (N key : Nat) (S : St) (K : Ks) : L_laws_szPairS N 0 key S K = none := rfl
theorem ls_laws_szPairS : loopsIn body_laws_szPairS = [] := by kernel_rfl
theorem fn_laws_szPairS (N : Nat) (x : AVals sg_laws_szPairS) (kf : Ret → Option Ret) : F_laws_szPairS N x kf = peFunc h_laws_szPairS (Orc.of (es_laws_szPairS N)) (L_laws_szPairS N N) Tryd.f25 (ashape sg_laws_szPairS x) kf := by kernel_rfl
theorem sd_laws_szPairS {Γ : Gl} (hΓ : TabΓ Γ) (N : Nat) : Sound Γ Tryd.prog 25 (run_laws_szPairS N) := fun_ok2 (hh := h_laws_szPairS) mixed tab_ok (es := es_laws_szPairS N) trivial (fn := Tryd.f25) (body := body_laws_szPairS) (by kernel_rfl) (by kernel_rfl) (by kernel_rfl) (by kernel_rfl) (by kernel_rfl) (Lf := L_laws_szPairS N) (L0_laws_szPairS N) ls_laws_szPairS trivial (N := N) (by kernel_rfl) (fn_laws_szPairS N) (.inl (by kernel_rfl))
/-! laws_toPair -/
noncomputable def h_laws_toPair : Hint := { tab, hn := [], loops := [], outs := [], ords := [] }
noncomputable def sg_laws_toPair : List AK := [.v tQIIE .k]
noncomputable def F_laws_toPair (N : Nat) (x : AVals sg_laws_toPair) (kf : Ret → Option Ret) : Option Ret := laws_toPair N x.1 (fun r0 => kf ⟨[⟨tQIIE, .k, r0⟩], []⟩)
noncomputable def run_laws_toPair (N : Nat) := runOf sg_laws_toPair (F_laws_toPair N)
noncomputable def es_laws_toPair (N : Nat) : List Entry := []
noncomputable def body_laws_toPair : Code := match Tryd.f57.body with | some c => c | none => .skip
noncomputable def L_laws_toPair (N n : Nat) (key : Nat) (S : St) (K : Ks) : Option Ret := none
theorem L0_laws_toPair (N key : Nat) (S : St) (K : Ks) : L_laws_toPair N 0 key S K = none := rfl
theorem ls_laws_toPair : loopsIn body_laws_toPair = [] := by kernel_rfl
theorem fn_laws_toPair (N : Nat) (x : AVals sg_laws_toPair) (kf : Ret → Option Ret) : F_laws_toPair N x kf = peFunc h_laws_toPair (Orc.of (es_laws_toPair N)) (L_laws_toPair N N) Tryd.f57 (ashape sg_laws_toPair x) kf := by kernel_rfl
theorem sd_laws_toPair {Γ : Gl} (hΓ : TabΓ Γ) (N : Nat) : Sound Γ Tryd.prog 57 (run_laws_toPair N) := fun_ok2 (hh := h_laws_toPair) mixed tab_ok (es := es_laws_toPair N) trivial (fn := Tryd.f57) (body := body_laws_toPair) (by kernel_rfl) (by kernel_rfl) (by kernel_rfl) (by kernel_rfl) (by kernel_rfl) (Lf := L_laws_toPair N) (L0_laws_toPair N) ls_laws_toPair trivial (N := N) (by kernel_rfl) (fn_laws_toPair N) (.inl (by kernel_rfl))
/-! laws_toPairS -/
noncomputable def ks_laws_toPairS_l3 : List Kd := [.v (.sl tQIIE) .k, dK, dK, .v (.sl tQIIE) (.o 88 none .k), .v (.int .i64) .k, dK, dK, dK, dK, dK, dK, dK, dK, dK, dK, dK, dK, dK, dK, dK, dK, dK, dK]
noncomputable def ko_laws_toPairS_l3_0 : List Kd := [dK, dK, dK, .v (.sl tQIIE) (.o 88 none .k), dK, dK, dK, dK, dK, dK, dK, dK, dK, dK, dK, dK, dK, dK, dK, dK, dK, dK, dK]
noncomputable def h_laws_toPairS : Hint := { tab, hn := [], loops := [(3, ks_laws_toPairS_l3)], outs := [(3, 2, ko_laws_toPairS_l3_0)], ords := [] }
noncomputable def sg_laws_toPairS : List AK := [.v (.sl tQIIE) .k]
noncomputable def F_laws_toPairS (N : Nat) (x : AVals sg_laws_toPairS) (kf : Ret → Option Ret) : Option Ret := laws_toPairS N x.1 (fun r0 => kf ⟨[⟨(.sl tQIIE), (.o 88 none .k), r0⟩], []⟩)
noncomputable def run_laws_toPairS (N : Nat) := runOf sg_laws_toPairS (F_laws_toPairS N)
noncomputable def es_laws_toPairS (N : Nat) : List Entry := [⟨57, [.val], (run_laws_toPair N)⟩]
noncomputable def body_laws_toPairS : Code := match Tryd.f27.body with | some c => c | none => .skip
noncomputable def L_laws_toPairS (N n : Nat) (key : Nat) (S : St) (K : Ks) : Option Ret := bif Nat.beq key 3 then withVals ks_laws_toPairS_l3 S (fun x => laws_toPairS_l3 N x.1 n (fun z0 => K (.x 0) (shape ko_laws_toPairS_l3_0 (z0, ()))) x.2.1 x.2.2.1) else none
theorem L0_laws_toPairS (N key : Nat) (S : St) (K : Ks) : L_laws_toPairS N 0 key S K = none := (bif0 (withVals0 fun _ => rfl) rfl)
noncomputable def c_laws_toPairS_0 : Code := (loopsIn body_laws_toPairS).getD 0 .skip
theorem ls_laws_toPairS : loopsIn body_laws_toPairS = [c_laws_toPairS_0] := by kernel_rfl
theorem rd_laws_toPairS_3 (N n : Nat) (x : Vals ks_laws_toPairS_l3) (K : Ks) : L_laws_toPairS N (n + 1) 3 (shape ks_laws_toPairS_l3 x) (h_laws_toPairS.onOut 3 K) = peRound h_laws_toPairS (Orc.of (es_laws_toPairS N)) (mixL (L_laws_toPairS N) N n 3) c_laws_toPairS_0 (shape ks_laws_toPairS_l3 x) (h_laws_toPairS.onOut 3 K) := by kernel_rfl
theorem fn_laws_toPairS (N : Nat) (x : AVals sg_laws_toPairS) (kf : Ret → Option Ret) : F_laws_toPairS N x kf = peFunc h_laws_toPairS (Orc.of (es_laws_toPairS N)) (L_laws_toPairS N N) Tryd.f27 (ashape sg_laws_toPairS x) kf := by kernel_rfl
theorem sd_laws_toPairS {Γ : Gl} (hΓ : TabΓ Γ) (N : Nat) : Sound Γ Tryd.prog 27 (run_laws_toPairS N) := fun_ok2 (hh := h_laws_toPairS) mixed tab_ok (es := es_laws_toPairS N) ⟨sd_laws_toPair hΓ N, trivial⟩ (fn := Tryd.f27) (body := body_laws_toPairS) (by kernel_rfl) (by kernel_rfl) (by kernel_rfl) (by kernel_rfl) (by kernel_rfl) (Lf := L_laws_toPairS N) (L0_laws_toPairS N) ls_laws_toPairS (round_cons (key := 3) (ks := ks_laws_toPairS_l3) (by kernel_rfl) (by kernel_rfl) (rd_laws_toPairS_3 N) trivial) (N := N) (by kernel_rfl) (fn_laws_toPairS N) (.inl (by kernel_rfl))
/-! laws_eqPair -/
noncomputable def h_laws_eqPair : Hint := { tab, hn := [], loops := [], outs := [], ords := [] }
noncomputable def sg_laws_eqPair : List AK := [.v tQIIE .k, .v tQIIE .k]
noncomputable def F_laws_eqPair (N : Nat) (x : AVals sg_laws_eqPair) (kf : Ret → Option Ret) : Option Ret := laws_eqPair N x.1 x.2.1 (fun r0 => kf ⟨[⟨.bool, .k, r0⟩], []⟩)
noncomputable def run_laws_eqPair (N : Nat) := runOf sg_laws_eqPair (F_laws_eqPair N)
noncomputable def es_laws_eqPair (N : Nat) : List Entry := []
noncomputable def body_laws_eqPair : Code := match Tryd.f58.body with | some c => c | none => .skip
noncomputable def L_laws_eqPair (N n : Nat) (key : Nat) (S : St) (K : Ks) : Option Ret := none
theorem L0_laws_eqPair (N key : Nat) (S : St) (K : Ks) : L_laws_eqPair N 0 key S K = none := rfl
theorem ls_laws_eqPair : loopsIn body_laws_eqPair = [] := by kernel_rfl
theorem fn_laws_eqPair (N : Nat) (x : AVals sg_laws_eqPair) (kf : Ret → Option Ret) : F_laws_eqPair N x kf = peFunc h_laws_eqPair (Orc.of (es_laws_eqPair N)) (L_laws_eqPair N N) Tryd.f58 (ashape sg_laws_eqPair x) kf := by kernel_rfl
theorem sd_laws_eqPair {Γ : Gl} (hΓ : TabΓ Γ) (N : Nat) : Sound Γ Tryd.prog 58 (run_laws_eqPair N) := fun_ok2 (hh := h_laws_eqPair) mixed tab_ok (es := es_laws_eqPair N) trivial (fn := Tryd.f58) (body := body_laws_eqPair) (by kernel_rfl) (by kernel_rfl) (by kernel_rfl) (by kernel_rfl) (by kernel_rfl) (Lf := L_laws_eqPair N) (L0_laws_eqPair N) ls_laws_eqPair trivial (N := N) (by kernel_rfl) (fn_laws_eqPair N) (.inl (by kernel_rfl))
/-! laws_eqPairS -/
noncomputable def ks_laws_eqPairS_l4 : List Kd := [.v (.sl tQIIE) .k, .v (.sl tQIIE) .k, dK, dK, dK, .v (.int .i64) .k, dK, dK, dK, dK, dK, dK, dK, dK, dK, dK, dK, dK, dK, dK, dK, dK, dK, dK, dK, dK, dK]
noncomputable def ko_laws_eqPairS_l4_0 : List Kd := [dK, dK, dK, dK, dK, dK, dK, dK, dK, dK, dK, dK, dK, dK, dK, dK, dK, dK, dK, dK, dK, dK, dK, dK, dK, dK, dK]
noncomputable def ko_laws_eqPairS_l4_1 : List Kd := [dK, dK, dK, dK, .v .bool .k, dK, dK, dK, dK, dK, dK, dK, dK, dK, dK, dK, dK, dK, dK, dK, dK, dK, dK, dK, dK, dK, dK]
noncomputable def h_laws_eqPairS : Hint := { tab, hn := [], loops := [(4, ks_laws_eqPairS_l4)], outs := [(4, 2, ko_laws_eqPairS_l4_0), (4, 1, ko_laws_eqPairS_l4_1)], ords := [(6, (OT.seq [0, 1, 2, 3, 4, 5, 6, 7, 8, 9] .done))] }
noncomputable def sg_laws_eqPairS : List AK := [.v (.sl tQIIE) .k, .v (.sl tQIIE) .k]
noncomputable def F_laws_eqPairS (N : Nat) (x : AVals sg_laws_eqPairS) (kf : Ret → Option Ret) : Option Ret := laws_eqPairS N x.1 x.2.1 (fun r0 => kf ⟨[⟨.bool, .k, r0⟩], []⟩)
noncomputable def run_laws_eqPairS (N : Nat) := runOf sg_laws_eqPairS (F_laws_eqPairS N)
noncomputable def es_laws_eqPairS (N : Nat) : List Entry := [⟨58, [.val, .val], (run_laws_eqPair N)⟩]
noncomputable def body_laws_eqPairS : Code := match Tryd.f29.body with | some c => c | none => .skip
noncomputable def L_laws_eqPairS (N n : Nat) (key : Nat) (S : St) (K : Ks) : Option Ret := bif Nat.beq key 4 then withVals ks_laws_eqPairS_l4 S (fun x => laws_eqPairS_l4 N x.1 x.2.1 n (K (.x 0) (shape ko_laws_eqPairS_l4_0 ())) (fun z0 => K .r (shape ko_laws_eqPairS_l4_1 (z0, ()))) x.2.2.1) else none
theorem L0_laws_eqPairS (N key : Nat) (S : St) (K : Ks) : L_laws_eqPairS N 0 key S K = none := (bif0 (withVals0 fun _ => rfl) rfl)
noncomputable def c_laws_eqPairS_0 : Code := (loopsIn body_laws_eqPairS).getD 0 .skip
theorem ls_laws_eqPairS : loopsIn body_laws_eqPairS = [c_laws_eqPairS_0] := by kernel_rfl
theorem rd_laws_eqPairS_4 (N n : Nat) (x : Vals ks_laws_eqPairS_l4) (K : Ks) : L_laws_eqPairS N (n + 1) 4 (shape ks_laws_eqPairS_l4 x) (h_laws_eqPairS.onOut 4 K) = peRound h_laws_eqPairS (Orc.of (es_laws_eqPairS N)) (mixL (L_laws_eqPairS N) N n 4) c_laws_eqPairS_0 (shape ks_laws_eqPairS_l4 x) (h_laws_eqPairS.onOut 4 K) := by kernel_rfl
theorem fn_laws_eqPairS (N : Nat) (x : AVals sg_laws_eqPairS) (kf : Ret → Option Ret) : F_laws_eqPairS N x kf = peFunc h_laws_eqPairS (Orc.of (es_laws_eqPairS N)) (L_laws_eqPairS N N) Tryd.f29 (ashape sg_laws_eqPairS x) kf := by kernel_rfl
theorem sd_laws_eqPairS {Γ : Gl} (hΓ : TabΓ Γ) (N : Nat) : Sound Γ Tryd.prog 29 (run_laws_eqPairS N) := fun_ok2 (hh := h_laws_eqPairS) mixed tab_ok (es := es_laws_eqPairS N) ⟨sd_laws_eqPair hΓ N, trivial⟩ (fn := Tryd.f29) (body := body_laws_eqPairS) (by kernel_rfl) (by kernel_rfl) (by kernel_rfl) (by kernel_rfl) (by kernel_rfl) (Lf := L_laws_eqPairS N) (L0_laws_eqPairS N) ls_laws_eqPairS (round_cons (key := 4) (ks := ks_laws_eqPairS_l4) (by kernel_rfl) (by kernel_rfl) (rd_laws_eqPairS_4 N) trivial) (N := N) (by kernel_rfl) (fn_laws_eqPairS N) (.inl (by kernel_rfl))
/-! laws_szTeam -/
noncomputable def h_laws_szTeam : Hint := { tab, hn := [], loops := [], outs := [], ords := [] }
noncomputable def sg_laws_szTeam : List AK := [.v tQIIIIILIE .k, .v (.int .i64) .k]
noncomputable def F_laws_szTeam (N : Nat) (x : AVals sg_laws_szTeam) (kf : Ret → Option Ret) : Option Ret := laws_szTeam N x.1 x.2.1 (fun r0 => kf ⟨[⟨(.int .i64), .k, r0⟩], []⟩)
noncomputable def run_laws_szTeam (N : Nat) := runOf sg_laws_szTeam (F_laws_szTeam N)
noncomputable def es_laws_szTeam (N : Nat) : List Entry := [⟨53, [.val, .val], (run_laws_szIntS N)⟩]
noncomputable def body_laws_szTeam : Code := match Tryd.f63.body with | some c => c | none => .skip
noncomputable def L_laws_szTeam (N n : Nat) (key : Nat) (S : St) (K : Ks) : Option Ret := none
theorem L0_laws_szTeam (N key : Nat) (S : St) (K : Ks) : L_laws_szTeam N 0 key S K = none := rfl
theorem ls_laws_szTeam : loopsIn body_laws_szTeam = [] := by kernel_rfl
theorem fn_laws_szTeam (N : Nat) (x : AVals sg_laws_szTeam) (kf : Ret → Option Ret) : F_laws_szTeam N x kf = peFunc h_laws_szTeam (Orc.of (es_laws_szTeam N)) (L_laws_szTeam N N) Tryd.f63 (ashape sg_laws_szTeam x) kf := by kernel_rfl
theorem sd_laws_szTeam {Γ : Gl} (hΓ : TabΓ Γ) (N : Nat) : Sound Γ Tryd.prog 63 (run_laws_szTeam N) := fun_ok2 (hh := h_laws_szTeam) mixed tab_ok (es := es_laws_szTeam N) ⟨sd_laws_szIntS hΓ N, trivial⟩ (fn := Tryd.f63) (body := body_laws_szTeam) (by kernel_rfl) (by kernel_rfl) (by kernel_rfl) (by kernel_rfl) (by kernel_rfl) (Lf := L_laws_szTeam N) (L0_laws_szTeam N) ls_laws_szTeam trivial (N := N) (by kernel_rfl) (fn_laws_szTeam N) (.inl (by kernel_rfl))
/-! laws_szTeamS -/
noncomputable def ks_laws_szTeamS_l5 : List Kd := [.v (.sl tQIIIIILIE) .k, .v (.int .i64) .k, dK, dK, dK, .v (.int .i64) .k, dK, dK, dK, dK, dK, dK, dK, dK, dK, dK, dK, dK, dK, dK, dK, dK, dK, dK, dK, dK, dK]
noncomputable def ko_laws_szTeamS_l5_0 : List Kd := [dK, .v (.int .i64) .k, dK, dK, dK, dK, dK, dK, dK, dK, dK, dK, dK, dK, dK, dK, dK, dK, dK, dK, dK, dK, dK, dK, dK, dK, dK]
noncomputable def ko_laws_szTeamS_l5_1 : List Kd := [dK, dK, dK, dK, .v (.int .i64) .k, dK, dK, dK, dK, dK, dK, dK, dK, dK, dK, dK, dK, dK, dK, dK, dK, dK, dK, dK, dK, dK, dK]
noncomputable def h_laws_szTeamS : Hint := { tab, hn := [], loops := [(5, ks_laws_szTeamS_l5)], outs := [(5, 2, ko_laws_szTeamS_l5_0), (5, 1, ko_laws_szTeamS_l5_1)], ords := [] }
noncomputable def sg_laws_szTeamS : List AK := [.v (.sl tQIIIIILIE) .k, .v (.int .i64) .k]
noncomputable def F_laws_szTeamS (N : Nat) (x : AVals sg_laws_szTeamS) (kf : Ret → Option Ret) : Option Ret := laws_szTeamS N x.1 x.2.1 (fun r0 => kf ⟨[⟨(.int .i64), .k, r0⟩], []⟩)
noncomputable def run_laws_szTeamS (N : Nat) := runOf sg_laws_szTeamS (F_laws_szTeamS N)
noncomputable def es_laws_szTeamS (N : Nat) : List Entry := [⟨63, [.val, .val], (run_laws_szTeam N)⟩]
noncomputable def body_laws_szTeamS : Code := match Tryd.f35.body with | some c => c | none => .skip
noncomputable def L_laws_szTeamS (N n : Nat) (key : Nat) (S : St) (K : Ks) : Option Ret := bif Nat.beq key 5 then withVals ks_laws_szTeamS_l5 S (fun x => laws_szTeamS_l5 N x.1 n (fun z0 => K (.x 0) (shape ko_laws_szTeamS_l5_0 (z0, ()))) (fun z0 => K .r (shape ko_laws_szTeamS_l5_1 (z0, ()))) x.2.1 x.2.2.1) else none
theorem L0_laws_szTeamS (N key : Nat) (S : St) (K : Ks) : L_laws_szTeamS N 0 key S K = none := (bif0 (withVals0 fun _ => rfl) rfl)
noncomputable def c_laws_szTeamS_0 : Code := (loopsIn body_laws_szTeamS).getD 0 .skip
theorem ls_laws_szTeamS : loopsIn body_laws_szTeamS = [c_laws_szTeamS_0] := by kernel_rfl
theorem rd_laws_szTeamS_5 (N n : Nat) (x : Vals ks_laws_szTeamS_l5) (K : Ks) : L_laws_szTeamS N (n + 1) 5 (shape ks_laws_szTeamS_l5 x) (h_laws_szTeamS.onOut 5 K) = peRound h_laws_szTeamS (Orc.of (es_laws_szTeamS N)) (mixL (L_laws_szTeamS N) N n 5) c_laws_szTeamS_0 (shape ks_laws_szTeamS_l5 x) (h_laws_szTeamS.onOut 5 K) := by kernel_rfl
theorem fn_laws_szTeamS (N : Nat) (x : AVals sg_laws_szTeamS) (kf : Ret → Option Ret) : F_laws_szTeamS N x kf = peFunc h_laws_szTeamS (Orc.of (es_laws_szTeamS N)) (L_laws_szTeamS N N) Tryd.f35 (ashape sg_laws_szTeamS x) kf := by kernel_rfl
theorem sd_laws_szTeamS {Γ : Gl} (hΓ : TabΓ Γ) (N : Nat) : Sound Γ Tryd.prog 35 (run_laws_szTeamS N) := fun_ok2 (hh := h_laws_szTeamS) mixed tab_ok (es := es_laws_szTeamS N) ⟨sd_laws_szTeam hΓ N, trivial⟩ (fn := Tryd.f35) (body := body_laws_szTeamS) (by kernel_rfl) (by kernel_rfl) (by kernel_rfl) (by kernel_rfl) (by kernel_rfl) (Lf := L_laws_szTeamS N) (L0_laws_szTeamS N) ls_laws_szTeamS (round_cons (key := 5) (ks := ks_laws_szTeamS_l5) (by kernel_rfl) (by kernel_rfl) (rd_laws_szTeamS_5 N) trivial) (N := N) (by kernel_rfl) (fn_laws_szTeamS N) (.inl (by kernel_rfl))
/-! laws_toTeam -/
noncomputable def h_laws_toTeam : Hint := { tab, hn := [], loops := [], outs := [], ords := [] }
noncomputable def sg_laws_toTeam : List AK := [.v tQIIIIILIE .k]
noncomputable def F_laws_toTeam (N : Nat) (x : AVals sg_laws_toTeam) (kf : Ret → Option Ret) : Option Ret := laws_toTeam N x.1 (fun r0 => kf ⟨[⟨tQIIIIILIE, (.p .k (.p .k (.p .k (.p .k (.p .k (.o 3 none .k)))))), r0⟩], []⟩)
noncomputable def run_laws_toTeam (N : Nat) := runOf sg_laws_toTeam (F_laws_toTeam N)
noncomputable def es_laws_toTeam (N : Nat) : List Entry := [⟨12, [.val], (run_laws_toIntS N)⟩]
noncomputable def body_laws_toTeam : Code := match Tryd.f64.body with | some c => c | none => .skip
noncomputable def L_laws_toTeam (N n : Nat) (key : Nat) (S : St) (K : Ks) : Option Ret := none
theorem L0_laws_toTeam (N key : Nat) (S : St) (K : Ks) : L_laws_toTeam N 0 key S K = none := rfl
theorem ls_laws_toTeam : loopsIn body_laws_toTeam = [] := by kernel_rfl
theorem fn_laws_toTeam (N : Nat) (x : AVals sg_laws_toTeam) (kf : Ret → Option Ret) : F_laws_toTeam N x kf = peFunc h_laws_toTeam (Orc.of (es_laws_toTeam N)) (L_laws_toTeam N N) Tryd.f64 (ashape sg_laws_toTeam x) kf := by kernel_rfl
theorem sd_laws_toTeam {Γ : Gl} (hΓ : TabΓ Γ) (N : Nat) : Sound Γ Tryd.prog 64 (run_laws_toTeam N) := fun_ok2 (hh := h_laws_toTeam) mixed tab_ok (es := es_laws_toTeam N) ⟨sd_laws_toIntS hΓ N, trivial⟩ (fn := Tryd.f64) (body := body_laws_toTeam) (by kernel_rfl) (by kernel_rfl) (by kernel_rfl) (by kernel_rfl) (by kernel_rfl) (Lf := L_laws_toTeam N) (L0_laws_toTeam N) ls_laws_toTeam trivial (N := N) (by kernel_rfl) (fn_laws_toTeam N) (.inl (by kernel_rfl))
/-! laws_toTeamS -/
noncomputable def ks_laws_toTeamS_l3 : List Kd := [.v (.sl tQIIIIILIE) .k, dK, dK, .v (.sl tQIIIIILIE) (.o 101 none (.p .k (.p .k (.p .k (.p .k (.p .k (.o 3 none .k))))))), .v (.int .i64) .k, dK, dK, dK, dK, dK, dK, dK, dK, dK, dK, dK, dK, dK, dK, dK, dK, dK, dK]
noncomputable def ko_laws_toTeamS_l3_0 : List Kd := [dK, dK, dK, .v (.sl tQIIIIILIE) (.o 101 none (.p .k (.p .k (.p .k (.p .k (.p .k (.o 3 none .k))))))), dK, dK, dK, dK, dK, dK, dK, dK, dK, dK, dK, dK, dK, dK, dK, dK, dK, dK, dK]
noncomputable def h_laws_toTeamS : Hint := { tab, hn := [], loops := [(3, ks_laws_toTeamS_l3)], outs := [(3, 2, ko_laws_toTeamS_l3_0)], ords := [] }
noncomputable def sg_laws_toTeamS : List AK := [.v (.sl tQIIIIILIE) .k]
noncomputable def F_laws_toTeamS (N : Nat) (x : AVals sg_laws_toTeamS) (kf : Ret → Option Ret) : Option Ret := laws_toTeamS N x.1 (fun r0 => kf ⟨[⟨(.sl tQIIIIILIE), (.o 101 none (.p .k (.p .k (.p .k (.p .k (.p .k (.o 3 none .k))))))), r0⟩], []⟩)
noncomputable def run_laws_toTeamS (N : Nat) := runOf sg_laws_toTeamS (F_laws_toTeamS N)
noncomputable def es_laws_toTeamS (N : Nat) : List Entry := [⟨64, [.val], (run_laws_toTeam N)⟩]
noncomputable def body_laws_toTeamS : Code := match Tryd.f37.body with | some c => c | none => .skip
noncomputable def L_laws_toTeamS (N n : Nat) (key : Nat) (S : St) (K : Ks) : Option Ret := bif Nat.beq key 3 then withVals ks_laws_toTeamS_l3 S (fun x => laws_toTeamS_l3 N x.1 n (fun z0 => K (.x 0) (shape ko_laws_toTeamS_l3_0 (z0, ()))) x.2.1 x.2.2.1) else none
theorem L0_laws_toTeamS (N key : Nat) (S : St) (K : Ks) : L_laws_toTeamS N 0 key S K = none := (bif0 (withVals0 fun _ => rfl) rfl)
noncomputable def c_laws_toTeamS_0 : Code := (loopsIn body_laws_toTeamS).getD 0 .skip
theorem ls_laws_toTeamS : loopsIn body_laws_toTeamS = [c_laws_toTeamS_0] := by kernel_rfl
theorem rd_laws_toTeamS_3 (N n : Nat) (x : Vals ks_laws_toTeamS_l3) (K : Ks) : L_laws_toTeamS N (n + 1) 3 (shape ks_laws_toTeamS_l3 x) (h_laws_toTeamS.onOut 3 K) = peRound h_laws_toTeamS (Orc.of (es_laws_toTeamS N)) (mixL (L_laws_toTeamS N) N n 3) c_laws_toTeamS_0 (shape ks_laws_toTeamS_l3 x) (h_laws_toTeamS.onOut 3 K) := by kernel_rfl
theorem fn_laws_toTeamS (N : Nat) (x : AVals sg_laws_toTeamS) (kf : Ret → Option Ret) : F_laws_toTeamS N x kf = peFunc h_laws_toTeamS (Orc.of (es_laws_toTeamS N)) (L_laws_toTeamS N N) Tryd.f37 (ashape sg_laws_toTeamS x) kf := by kernel_rfl
theorem sd_laws_toTeamS {Γ : Gl} (hΓ : TabΓ Γ) (N : Nat) : Sound Γ Tryd.prog 37 (run_laws_toTeamS N) := fun_ok2 (hh := h_laws_toTeamS) mixed tab_ok (es := es_laws_toTeamS N) ⟨sd_laws_toTeam hΓ N, trivial⟩ (fn := Tryd.f37) (body := body_laws_toTeamS) (by kernel_rfl) (by kernel_rfl) (by kernel_rfl) (by kernel_rfl) (by kernel_rfl) (Lf := L_laws_toTeamS N) (L0_laws_toTeamS N) ls_laws_toTeamS (round_cons (key := 3) (ks := ks_laws_toTeamS_l3) (by kernel_rfl) (by kernel_rfl) (rd_laws_toTeamS_3 N) trivial) (N := N) (by kernel_rfl) (fn_laws_toTeamS N) (.inl (by kernel_rfl))
/-! laws_eqTeam -/
noncomputable def h_laws_eqTeam : Hint := { tab, hn := [], loops := [], outs := [], ords := [] }
noncomputable def sg_laws_eqTeam : List AK := [.v tQIIIIILIE .k, .v tQIIIIILIE .k]
noncomputable def F_laws_eqTeam (N : Nat) (x : AVals sg_laws_eqTeam) (kf : Ret → Option Ret) : Option Ret := laws_eqTeam N x.1 x.2.1 (fun r0 => kf ⟨[⟨.bool, .k, r0⟩], []⟩)
noncomputable def run_laws_eqTeam (N : Nat) := runOf sg_laws_eqTeam (F_laws_eqTeam N)
noncomputable def es_laws_eqTeam (N : Nat) : List Entry := [⟨14, [.val, .val], (run_laws_eqIntS N)⟩]
noncomputable def body_laws_eqTeam : Code := match Tryd.f65.body with | some c => c | none => .skip
noncomputable def L_laws_eqTeam (N n : Nat) (key : Nat) (S : St) (K : Ks) : Option Ret := none
theorem L0_laws_eqTeam (N key : Nat) (S : St) (K : Ks) : L_laws_eqTeam N 0 key S K = none := rfl
theorem ls_laws_eqTeam : loopsIn body_laws_eqTeam = [] := by kernel_rfl
theorem fn_laws_eqTeam (N : Nat) (x : AVals sg_laws_eqTeam) (kf : Ret → Option Ret) : F_laws_eqTeam N x kf = peFunc h_laws_eqTeam (Orc.of (es_laws_eqTeam N)) (L_laws_eqTeam N N) Tryd.f65 (ashape sg_laws_eqTeam x) kf := by kernel_rfl
theorem sd_laws_eqTeam {Γ : Gl} (hΓ : TabΓ Γ) (N : Nat) : Sound Γ Tryd.prog 65 (run_laws_eqTeam N) := fun_ok2 (hh := h_laws_eqTeam) mixed tab_ok (es := es_laws_eqTeam N) ⟨sd_laws_eqIntS hΓ N, trivial⟩ (fn := Tryd.f65) (body := body_laws_eqTeam) (by kernel_rfl) (by kernel_rfl) (by kernel_rfl) (by kernel_rfl) (by kernel_rfl) (Lf := L_laws_eqTeam N) (L0_laws_eqTeam N) ls_laws_eqTeam trivial (N := N) (by kernel_rfl) (fn_laws_eqTeam N) (.inl (by kernel_rfl))
/-! laws_eqTeamS -/
noncomputable def ks_laws_eqTeamS_l4 : List Kd := [.v (.sl tQIIIIILIE) .k, .v (.sl tQIIIIILIE) .k, dK, dK, dK, .v (.int .i64) .k, dK, dK, dK, dK, dK, dK, dK, dK, dK, dK, dK, dK, dK, dK, dK, dK, dK, dK, dK, dK, dK]
noncomputable def ko_laws_eqTeamS_l4_0 : List Kd := [dK, dK, dK, dK, dK, dK, dK, dK, dK, dK, dK, dK, dK, dK, dK, dK, dK, dK, dK, dK, dK, dK, dK, dK, dK, dK, dK]
noncomputable def ko_laws_eqTeamS_l4_1 : List Kd := [dK, dK, dK, dK, .v .bool .k, dK, dK, dK, dK, dK, dK, dK, dK, dK, dK, dK, dK, dK, dK, dK, dK, dK, dK, dK, dK, dK, dK]
noncomputable def h_laws_eqTeamS : Hint := { tab, hn := [], loops := [(4, ks_laws_eqTeamS_l4)], outs := [(4, 2, ko_laws_eqTeamS_l4_0), (4, 1, ko_laws_eqTeamS_l4_1)], ords := [(6, (OT.seq [0, 1, 2, 3, 4, 5, 6, 7, 8, 9] .done))] }
noncomputable def sg_laws_eqTeamS : List AK := [.v (.sl tQIIIIILIE) .k, .v (.sl tQIIIIILIE) .k]
noncomputable def F_laws_eqTeamS (N : Nat) (x : AVals sg_laws_eqTeamS) (kf : Ret → Option Ret) : Option Ret := laws_eqTeamS N x.1 x.2.1 (fun r0 => kf ⟨[⟨.bool, .k, r0⟩], []⟩)
noncomputable def run_laws_eqTeamS (N : Nat) := runOf sg_laws_eqTeamS (F_laws_eqTeamS N)
noncomputable def es_laws_eqTeamS (N : Nat) : List Entry := [⟨65, [.val, .val], (run_laws_eqTeam N)⟩]
noncomputable def body_laws_eqTeamS : Code := match Tryd.f39.body with | some c => c | none => .skip
noncomputable def L_laws_eqTeamS (N n : Nat) (key : Nat) (S : St) (K : Ks) : Option Ret := bif Nat.beq key 4 then withVals ks_laws_eqTeamS_l4 S (fun x => laws_eqTeamS_l4 N x.1 x.2.1 n (K (.x 0) (shape ko_laws_eqTeamS_l4_0 ())) (fun z0 => K .r (shape ko_laws_eqTeamS_l4_1 (z0, ()))) x.2.2.1) else none
theorem L0_laws_eqTeamS (N key : Nat) (S : St) (K : Ks) : L_laws_eqTeamS N 0 key S K = none := (bif0 (withVals0 fun _ => rfl) rfl)
noncomputable def c_laws_eqTeamS_0 : Code := (loopsIn body_laws_eqTeamS).getD 0 .skip
theorem ls_laws_eqTeamS : loopsIn body_laws_eqTeamS = [c_laws_eqTeamS_0] := by kernel_rfl
theorem rd_laws_eqTeamS_4 (N n : Nat) (x : Vals ks_laws_eqTeamS_l4) (K : Ks) : L_laws_eqTeamS N (n + 1) 4 (shape ks_laws_eqTeamS_l4 x) (h_laws_eqTeamS.onOut 4 K) = peRound h_laws_eqTeamS (Orc.of (es_laws_eqTeamS N)) (mixL (L_laws_eqTeamS N) N n 4) c_laws_eqTeamS_0 (shape ks_laws_eqTeamS_l4 x) (h_laws_eqTeamS.onOut 4 K) := by kernel_rfl
theorem fn_laws_eqTeamS (N : Nat) (x : AVals sg_laws_eqTeamS) (kf : Ret → Option Ret) : F_laws_eqTeamS N x kf = peFunc h_laws_eqTeamS (Orc.of (es_laws_eqTeamS N)) (L_laws_eqTeamS N N) Tryd.f39 (ashape sg_laws_eqTeamS x) kf := by kernel_rfl
theorem sd_laws_eqTeamS {Γ : Gl} (hΓ : TabΓ Γ) (N : Nat) : Sound Γ Tryd.prog 39 (run_laws_eqTeamS N) := fun_ok2 (hh := h_laws_eqTeamS) mixed tab_ok (es := es_laws_eqTeamS N) ⟨sd_laws_eqTeam hΓ N, trivial⟩ (fn := Tryd.f39) (body := body_laws_eqTeamS) (by kernel_rfl) (by kernel_rfl) (by kernel_rfl) (by kernel_rfl) (by kernel_rfl) (Lf := L_laws_eqTeamS N) (L0_laws_eqTeamS N) ls_laws_eqTeamS (round_cons (key := 4) (ks := ks_laws_eqTeamS_l4) (by kernel_rfl) (by kernel_rfl) (rd_laws_eqTeamS_4 N) trivial) (N := N) (by kernel_rfl) (fn_laws_eqTeamS N) (.inl (by kernel_rfl))
/-! laws_szJudge -/
noncomputable def h_laws_szJudge : Hint := { tab, hn := [], loops := [], outs := [], ords := [] }
noncomputable def sg_laws_szJudge : List AK := [.v tQIILIE .k, .v (.int .i64) .k]
noncomputable def F_laws_szJudge (N : Nat) (x : AVals sg_laws_szJudge) (kf : Ret → Option Ret) : Option Ret := laws_szJudge N x.1 x.2.1 (fun r0 => kf ⟨[⟨(.int .i64), .k, r0⟩], []⟩)
noncomputable def run_laws_szJudge (N : Nat) := runOf sg_laws_szJudge (F_laws_szJudge N)
noncomputable def es_laws_szJudge (N : Nat) : List Entry := [⟨53, [.val, .val], (run_laws_szIntS N)⟩]
noncomputable def body_laws_szJudge : Code := match Tryd.f96.body with | some c => c | none => .skip
noncomputable def L_laws_szJudge (N n : Nat) (key : Nat) (S : St) (K : Ks) : Option Ret := none
theorem L0_laws_szJudge (N key : Nat) (S : St) (K : Ks) : L_laws_szJudge N 0 key S K = none := rfl
theorem ls_laws_szJudge : loopsIn body_laws_szJudge = [] := by kernel_rfl
theorem fn_laws_szJudge (N : Nat) (x : AVals sg_laws_szJudge) (kf : Ret → Option Ret) : F_laws_szJudge N x kf = peFunc h_laws_szJudge (Orc.of (es_laws_szJudge N)) (L_laws_szJudge N N) Tryd.f96 (ashape sg_laws_szJudge x) kf := by kernel_rfl
theorem sd_laws_szJudge {Γ : Gl} (hΓ : TabΓ Γ) (N : Nat) : Sound Γ Tryd.prog 96 (run_laws_szJudge N) := fun_ok2 (hh := h_laws_szJudge) mixed tab_ok (es := es_laws_szJudge N) ⟨sd_laws_szIntS hΓ N, trivial⟩ (fn := Tryd.f96) (body := body_laws_szJudge) (by kernel_rfl) (by kernel_rfl) (by kernel_rfl) (by kernel_rfl) (by kernel_rfl) (Lf := L_laws_szJudge N) (L0_laws_szJudge N) ls_laws_szJudge trivial (N := N) (by kernel_rfl) (fn_laws_szJudge N) (.inl (by kernel_rfl))
/-! laws_szJudgeS -/
noncomputable def ks_laws_szJudgeS_l5 : List Kd := [.v (.sl tQIILIE) .k, .v (.int .i64) .k, dK, dK, dK, .v (.int .i64) .k, dK, dK, dK, dK, dK, dK, dK, dK, dK, dK, dK, dK, dK, dK, dK, dK, dK, dK, dK, dK, dK]
noncomputable def ko_laws_szJudgeS_l5_0 : List Kd := [dK, .v (.int .i64) .k, dK, dK, dK, dK, dK, dK, dK, dK, dK, dK, dK, dK, dK, dK, dK, dK, dK, dK, dK, dK, dK, dK, dK, dK, dK]
noncomputable def ko_laws_szJudgeS_l5_1 : List Kd := [dK, dK, dK, dK, .v (.int .i64) .k, dK, dK, dK, dK, dK, dK, dK, dK, dK, dK, dK, dK, dK, dK, dK, dK, dK, dK, dK, dK, dK, dK]
noncomputable def h_laws_szJudgeS : Hint := { tab, hn := [], loops := [(5, ks_laws_szJudgeS_l5)], outs := [(5, 2, ko_laws_szJudgeS_l5_0), (5, 1, ko_laws_szJudgeS_l5_1)], ords := [] }
noncomputable def sg_laws_szJudgeS : List AK := [.v (.sl tQIILIE) .k, .v (.int .i64) .k]
noncomputable def F_laws_szJudgeS (N : Nat) (x : AVals sg_laws_szJudgeS) (kf : Ret → Option Ret) : Option Ret := laws_szJudgeS N x.1 x.2.1 (fun r0 => kf ⟨[⟨(.int .i64), .k, r0⟩], []⟩)
noncomputable def run_laws_szJudgeS (N : Nat) := runOf sg_laws_szJudgeS (F_laws_szJudgeS N)
noncomputable def es_laws_szJudgeS (N : Nat) : List Entry := [⟨96, [.val, .val], (run_laws_szJudge N)⟩]
noncomputable def body_laws_szJudgeS : Code := match Tryd.f73.body with | some c => c | none => .skip
noncomputable def L_laws_szJudgeS (N n : Nat) (key : Nat) (S : St) (K : Ks) : Option Ret := bif Nat.beq key 5 then withVals ks_laws_szJudgeS_l5 S (fun x => laws_szJudgeS_l5 N x.1 n (fun z0 => K (.x 0) (shape ko_laws_szJudgeS_l5_0 (z0, ()))) (fun z0 => K .r (shape ko_laws_szJudgeS_l5_1 (z0, ()))) x.2.1 x.2.2.1) else none
theorem L0_laws_szJudgeS (N key : Nat) (S : St) (K : Ks) : L_laws_szJudgeS N 0 key S K = none := (bif0 (withVals0 fun _ => rfl) rfl)
noncomputable def c_laws_szJudgeS_0 : Code := (loopsIn body_laws_szJudgeS).getD 0 .skip
theorem ls_laws_szJudgeS : loopsIn body_laws_szJudgeS = [c_laws_szJudgeS_0] := by kernel_rfl
theorem rd_laws_szJudgeS_5 (N n : Nat) (x : Vals ks_laws_szJudgeS_l5) (K : Ks) : L_laws_szJudgeS N (n + 1) 5 (shape ks_laws_szJudgeS_l5 x) (h_laws_szJudgeS.onOut 5 K) = peRound h_laws_szJudgeS (Orc.of (es_laws_szJudgeS N)) (mixL (L_laws_szJudgeS N) N n 5) c_laws_szJudgeS_0 (shape ks_laws_szJudgeS_l5 x) (h_laws_szJudgeS.onOut 5 K) := by kernel_rfl
theorem fn_laws_szJudgeS (N : Nat) (x : AVals sg_laws_szJudgeS) (kf : Ret → Option Ret) : F_laws_szJudgeS N x kf = peFunc h_laws_szJudgeS (Orc.of (es_laws_szJudgeS N)) (L_laws_szJudgeS N N) Tryd.f73 (ashape sg_laws_szJudgeS x) kf := by kernel_rfl
theorem sd_laws_szJudgeS {Γ : Gl} (hΓ : TabΓ Γ) (N : Nat) : Sound Γ Tryd.prog 73 (run_laws_szJudgeS N) := fun_ok2 (hh := h_laws_szJudgeS) mixed tab_ok (es := es_laws_szJudgeS N) ⟨sd_laws_szJudge hΓ N, trivial⟩ (fn := Tryd.f73) (body := body_laws_szJudgeS) (by kernel_rfl) (by kernel_rfl) (by kernel_rfl) (by kernel_rfl) (by kernel_rfl) (Lf := L_laws_szJudgeS N) (L0_laws_szJudgeS N) ls_laws_szJudgeS (round_cons (key := 5) (ks := ks_laws_szJudgeS_l5) (by kernel_rfl) (by kernel_rfl) (rd_laws_szJudgeS_5 N) trivial) (N := N) (by kernel_rfl) (fn_laws_szJudgeS N) (.inl (by kernel_rfl))
/-! laws_szBallotS -/
noncomputable def h_laws_szBallotS : Hint := { tab, hn := [], loops := [], outs := [], ords := [] }
noncomputable def sg_laws_szBallotS : List AK := [.v (.sl tQIIIE) .k, .v (.int .i64) .k]
noncomputable def F_laws_szBallotS (N : Nat) (x : AVals sg_laws_szBallotS) (kf : Ret → Option Ret) : Option Ret := laws_szBallotS N x.1 x.2.1 (fun r0 => kf ⟨[⟨(.int .i64), .k, r0⟩], []⟩)
noncomputable def run_laws_szBallotS (N : Nat) := runOf sg_laws_szBallotS (F_laws_szBallotS N)
noncomputable def es_laws_szBallotS (N : Nat) : List Entry := []
noncomputable def body_laws_szBallotS : Code := match Tryd.f74.body with | some c => c | none => .skip
noncomputable def L_laws_szBallotS (N n : Nat) (key : Nat) (S : St) (K : Ks) : Option Ret := none
theorem L0_laws_szBallotS (N key : Nat) (S : St) (K : Ks) : L_laws_szBallotS N 0 key S K = none := rfl
theorem ls_laws_szBallotS : loopsIn body_laws_szBallotS = [] := by kernel_rfl
theorem fn_laws_szBallotS (N : Nat) (x : AVals sg_laws_szBallotS) (kf : Ret → Option Ret) : F_laws_szBallotS N x kf = peFunc h_laws_szBallotS (Orc.of (es_laws_szBallotS N)) (L_laws_szBallotS N N) Tryd.f74 (ashape sg_laws_szBallotS x) kf := by kernel_rfl
theorem sd_laws_szBallotS {Γ : Gl} (hΓ : TabΓ Γ) (N : Nat) : Sound Γ Tryd.prog 74 (run_laws_szBallotS N) := fun_ok2 (hh := h_laws_szBallotS) mixed tab_ok (es := es_laws_szBallotS N) trivial (fn := Tryd.f74) (body := body_laws_szBallotS) (by kernel_rfl) (by kernel_rfl) (by kernel_rfl) (by kernel_rfl) (by kernel_rfl) (Lf := L_laws_szBallotS N) (L0_laws_szBallotS N) ls_laws_szBallotS trivial (N := N) (by kernel_rfl) (fn_laws_szBallotS N) (.inl (by kernel_rfl))
/-! laws_szLineS -/
noncomputable def h_laws_szLineS : Hint := { tab, hn := [], loops := [], outs := [], ords := [] }
noncomputable def sg_laws_szLineS : List AK := [.v (.sl tQIIIIE) .k, .v (.int .i64) .k]
noncomputable def F_laws_szLineS (N : Nat) (x : AVals sg_laws_szLineS) (kf : Ret → Option Ret) : Option Ret := laws_szLineS N x.1 x.2.1 (fun r0 => kf ⟨[⟨(.int .i64), .k, r0⟩], []⟩)
noncomputable def run_laws_szLineS (N : Nat) := runOf sg_laws_szLineS (F_laws_szLineS N)
noncomputable def es_laws_szLineS (N : Nat) : List Entry := []
noncomputable def body_laws_szLineS : Code := match Tryd.f75.body with | some c => c | none => .skip
noncomputable def L_laws_szLineS (N n : Nat) (key : Nat) (S : St) (K : Ks) : Option Ret := none
theorem L0_laws_szLineS (N key : Nat) (S : St) (K : Ks) : L_laws_szLineS N 0 key S K = none := rfl
theorem ls_laws_szLineS : loopsIn body_laws_szLineS = [] := by kernel_rfl
theorem fn_laws_szLineS (N : Nat) (x : AVals sg_laws_szLineS) (kf : Ret → Option Ret) : F_laws_szLineS N x kf = peFunc h_laws_szLineS (Orc.of (es_laws_szLineS N)) (L_laws_szLineS N N) Tryd.f75 (ashape sg_laws_szLineS x) kf := by kernel_rfl
theorem sd_laws_szLineS {Γ : Gl} (hΓ : TabΓ Γ) (N : Nat) : Sound Γ Tryd.prog 75 (run_laws_szLineS N) := fun_ok2 (hh := h_laws_szLineS) mixed tab_ok (es := es_laws_szLineS N) trivial (fn := Tryd.f75) (body := body_laws_szLineS) (by kernel_rfl) (by kernel_rfl) (by kernel_rfl) (by kernel_rfl) (by kernel_rfl) (Lf := L_laws_szLineS N) (L0_laws_szLineS N) ls_laws_szLineS trivial (N := N) (by kernel_rfl) (fn_laws_szLineS N) (.inl (by kernel_rfl))
/-! laws_szClub -/
noncomputable def h_laws_szClub : Hint := { tab, hn := [], loops := [], outs := [], ords := [] }
noncomputable def sg_laws_szClub : List AK := [.v tQLQIIIIILIELQIILIELQIIELILQIIIELQIIIIEIE .k, .v (.int .i64) .k]
noncomputable def F_laws_szClub (N : Nat) (x : AVals sg_laws_szClub) (kf : Ret → Option Ret) : Option Ret := laws_szClub N x.1 x.2.1 (fun r0 => kf ⟨[⟨(.int .i64), .k, r0⟩], []⟩)
noncomputable def run_laws_szClub (N : Nat) := runOf sg_laws_szClub (F_laws_szClub N)
noncomputable def es_laws_szClub (N : Nat) : List Entry := [⟨35, [.val, .val], (run_laws_szTeamS N)⟩, ⟨73, [.val, .val], (run_laws_szJudgeS N)⟩, ⟨25, [.val, .val], (run_laws_szPairS N)⟩, ⟨53, [.val, .val], (run_laws_szIntS N)⟩, ⟨74, [.val, .val], (run_laws_szBallotS N)⟩, ⟨75, [.val, .val], (run_laws_szLineS N)⟩]
noncomputable def body_laws_szClub : Code := match Tryd.f44.body with | some c => c | none => .skip
noncomputable def L_laws_szClub (N n : Nat) (key : Nat) (S : St) (K : Ks) : Option Ret := none
theorem L0_laws_szClub (N key : Nat) (S : St) (K : Ks) : L_laws_szClub N 0 key S K = none := rfl
theorem ls_laws_szClub : loopsIn body_laws_szClub = [] := by kernel_rfl
theorem fn_laws_szClub (N : Nat) (x : AVals sg_laws_szClub) (kf : Ret → Option Ret) : F_laws_szClub N x kf = peFunc h_laws_szClub (Orc.of (es_laws_szClub N)) (L_laws_szClub N N) Tryd.f44 (ashape sg_laws_szClub x) kf := by kernel_rfl
theorem sd_laws_szClub {Γ : Gl} (hΓ : TabΓ Γ) (N : Nat) : Sound Γ Tryd.prog 44 (run_laws_szClub N) := fun_ok2 (hh := h_laws_szClub) mixed tab_ok (es := es_laws_szClub N) ⟨sd_laws_szTeamS hΓ N, ⟨sd_laws_szJudgeS hΓ N, ⟨sd_laws_szPairS hΓ N, ⟨sd_laws_szIntS hΓ N, ⟨sd_laws_szBallotS hΓ N, ⟨sd_laws_szLineS hΓ N, trivial⟩⟩⟩⟩⟩⟩ (fn := Tryd.f44) (body := body_laws_szClub) (by kernel_rfl) (by kernel_rfl) (by kernel_rfl) (by kernel_rfl) (by kernel_rfl) (Lf := L_laws_szClub N) (L0_laws_szClub N) ls_laws_szClub trivial (N := N) (by kernel_rfl) (fn_laws_szClub N) (.inl (by kernel_rfl))
/-! laws_toJudge -/
noncomputable def h_laws_toJudge : Hint := { tab, hn := [], loops := [], outs := [], ords := [] }
noncomputable def sg_laws_toJudge : List AK := [.v tQIILIE .k]
noncomputable def F_laws_toJudge (N : Nat) (x : AVals sg_laws_toJudge) (kf : Ret → Option Ret) : Option Ret := laws_toJudge N x.1 (fun r0 => kf ⟨[⟨tQIILIE, (.p .k (.p .k (.o 3 none .k))), r0⟩], []⟩)
noncomputable def run_laws_toJudge (N : Nat) := runOf sg_laws_toJudge (F_laws_toJudge N)
noncomputable def es_laws_toJudge (N : Nat) : List Entry := [⟨12, [.val], (run_laws_toIntS N)⟩]
noncomputable def body_laws_toJudge : Code := match Tryd.f97.body with | some c => c | none => .skip
noncomputable def L_laws_toJudge (N n : Nat) (key : Nat) (S : St) (K : Ks) : Option Ret := none
theorem L0_laws_toJudge (N key : Nat) (S : St) (K : Ks) : L_laws_toJudge N 0 key S K = none := rfl
theorem ls_laws_toJudge : loopsIn body_laws_toJudge = [] := by kernel_rfl
theorem fn_laws_toJudge (N : Nat) (x : AVals sg_laws_toJudge) (kf : Ret → Option Ret) : F_laws_toJudge N x kf = peFunc h_laws_toJudge (Orc.of (es_laws_toJudge N)) (L_laws_toJudge N N) Tryd.f97 (ashape sg_laws_toJudge x) kf := by kernel_rfl
theorem sd_laws_toJudge {Γ : Gl} (hΓ : TabΓ Γ) (N : Nat) : Sound Γ Tryd.prog 97 (run_laws_toJudge N) := fun_ok2 (hh := h_laws_toJudge) mixed tab_ok (es := es_laws_toJudge N) ⟨sd_laws_toIntS hΓ N, trivial⟩ (fn := Tryd.f97) (body := body_laws_toJudge) (by kernel_rfl) (by kernel_rfl) (by kernel_rfl) (by kernel_rfl) (by kernel_rfl) (Lf := L_laws_toJudge N) (L0_laws_toJudge N) ls_laws_toJudge trivial (N := N) (by kernel_rfl) (fn_laws_toJudge N) (.inl (by kernel_rfl))
/-! laws_toJudgeS -/
noncomputable def ks_laws_toJudgeS_l3 : List Kd := [.v (.sl tQIILIE) .k, dK, dK, .v (.sl tQIILIE) (.o 139 none (.p .k (.p .k (.o 3 none .k)))), .v (.int .i64) .k, dK, dK, dK, dK, dK, dK, dK, dK, dK, dK, dK, dK, dK, dK, dK, dK, dK, dK]
noncomputable def ko_laws_toJudgeS_l3_0 : List Kd := [dK, dK, dK, .v (.sl tQIILIE) (.o 139 none (.p .k (.p .k (.o 3 none .k)))), dK, dK, dK, dK, dK, dK, dK, dK, dK, dK, dK, dK, dK, dK, dK, dK, dK, dK, dK]
noncomputable def h_laws_toJudgeS : Hint := { tab, hn := [], loops := [(3, ks_laws_toJudgeS_l3)], outs := [(3, 2, ko_laws_toJudgeS_l3_0)], ords := [] }
noncomputable def sg_laws_toJudgeS : List AK := [.v (.sl tQIILIE) .k]
noncomputable def F_laws_toJudgeS (N : Nat) (x : AVals sg_laws_toJudgeS) (kf : Ret → Option Ret) : Option Ret := laws_toJudgeS N x.1 (fun r0 => kf ⟨[⟨(.sl tQIILIE), (.o 139 none (.p .k (.p .k (.o 3 none .k)))), r0⟩], []⟩)
noncomputable def run_laws_toJudgeS (N : Nat) := runOf sg_laws_toJudgeS (F_laws_toJudgeS N)
noncomputable def es_laws_toJudgeS (N : Nat) : List Entry := [⟨97, [.val], (run_laws_toJudge N)⟩]
noncomputable def body_laws_toJudgeS : Code := match Tryd.f77.body with | some c => c | none => .skip
noncomputable def L_laws_toJudgeS (N n : Nat) (key : Nat) (S : St) (K : Ks) : Option Ret := bif Nat.beq key 3 then withVals ks_laws_toJudgeS_l3 S (fun x => laws_toJudgeS_l3 N x.1 n (fun z0 => K (.x 0) (shape ko_laws_toJudgeS_l3_0 (z0, ()))) x.2.1 x.2.2.1) else none
theorem L0_laws_toJudgeS (N key : Nat) (S : St) (K : Ks) : L_laws_toJudgeS N 0 key S K = none := (bif0 (withVals0 fun _ => rfl) rfl)
noncomputable def c_laws_toJudgeS_0 : Code := (loopsIn body_laws_toJudgeS).getD 0 .skip
theorem ls_laws_toJudgeS : loopsIn body_laws_toJudgeS = [c_laws_toJudgeS_0] := by kernel_rfl
theorem rd_laws_toJudgeS_3 (N n : Nat) (x : Vals ks_laws_toJudgeS_l3) (K : Ks) : L_laws_toJudgeS N (n + 1) 3 (shape ks_laws_toJudgeS_l3 x) (h_laws_toJudgeS.onOut 3 K) = peRound h_laws_toJudgeS (Orc.of (es_laws_toJudgeS N)) (mixL (L_laws_toJudgeS N) N n 3) c_laws_toJudgeS_0 (shape ks_laws_toJudgeS_l3 x) (h_laws_toJudgeS.onOut 3 K) := by kernel_rfl
theorem fn_laws_toJudgeS (N : Nat) (x : AVals sg_laws_toJudgeS) (kf : Ret → Option Ret) : F_laws_toJudgeS N x kf = peFunc h_laws_toJudgeS (Orc.of (es_laws_toJudgeS N)) (L_laws_toJudgeS N N) Tryd.f77 (ashape sg_laws_toJudgeS x) kf := by kernel_rfl
theorem sd_laws_toJudgeS {Γ : Gl} (hΓ : TabΓ Γ) (N : Nat) : Sound Γ Tryd.prog 77 (run_laws_toJudgeS N) := fun_ok2 (hh := h_laws_toJudgeS) mixed tab_ok (es := es_laws_toJudgeS N) ⟨sd_laws_toJudge hΓ N, trivial⟩ (fn := Tryd.f77) (body := body_laws_toJudgeS) (by kernel_rfl) (by kernel_rfl) (by kernel_rfl) (by kernel_rfl) (by kernel_rfl) (Lf := L_laws_toJudgeS N) (L0_laws_toJudgeS N) ls_laws_toJudgeS (round_cons (key := 3) (ks := ks_laws_toJudgeS_l3) (by kernel_rfl) (by kernel_rfl) (rd_laws_toJudgeS_3 N) trivial) (N := N) (by kernel_rfl) (fn_laws_toJudgeS N) (.inl (by kernel_rfl))
/-! laws_toBallot -/
noncomputable def h_laws_toBallot : Hint := { tab, hn := [], loops := [], outs := [], ords := [] }
noncomputable def sg_laws_toBallot : List AK := [.v tQIIIE .k]
noncomputable def F_laws_toBallot (N : Nat) (x : AVals sg_laws_toBallot) (kf : Ret → Option Ret) : Option Ret := laws_toBallot N x.1 (fun r0 => kf ⟨[⟨tQIIIE, .k, r0⟩], []⟩)
noncomputable def run_laws_toBallot (N : Nat) := runOf sg_laws_toBallot (F_laws_toBallot N)
noncomputable def es_laws_toBallot (N : Nat) : List Entry := []
noncomputable def body_laws_toBallot : Code := match Tryd.f98.body with | some c => c | none => .skip
noncomputable def L_laws_toBallot (N n : Nat) (key : Nat) (S : St) (K : Ks) : Option Ret := none
theorem L0_laws_toBallot (N key : Nat) (S : St) (K : Ks) : L_laws_toBallot N 0 key S K = none := rfl
theorem ls_laws_toBallot : loopsIn body_laws_toBallot = [] := by kernel_rfl
theorem fn_laws_toBallot (N : Nat) (x : AVals sg_laws_toBallot) (kf : Ret → Option Ret) : F_laws_toBallot N x kf = peFunc h_laws_toBallot (Orc.of (es_laws_toBallot N)) (L_laws_toBallot N N) Tryd.f98 (ashape sg_laws_toBallot x) kf := by kernel_rfl
theorem sd_laws_toBallot {Γ : Gl} (hΓ : TabΓ Γ) (N : Nat) : Sound Γ Tryd.prog 98 (run_laws_toBallot N) := fun_ok2 (hh := h_laws_toBallot) mixed tab_ok (es := es_laws_toBallot N) trivial (fn := Tryd.f98) (body := body_laws_toBallot) (by kernel_rfl) (by kernel_rfl) (by kernel_rfl) (by kernel_rfl) (by kernel_rfl) (Lf := L_laws_toBallot N) (L0_laws_toBallot N) ls_laws_toBallot trivial (N := N) (by kernel_rfl) (fn_laws_toBallot N) (.inl (by kernel_rfl))
/-! laws_toBallotS -/
noncomputable def ks_laws_toBallotS_l3 : List Kd := [.v (.sl tQIIIE) .k, dK, dK, .v (.sl tQIIIE) (.o 138 none .k), .v (.int .i64) .k, dK, dK, dK, dK, dK, dK, dK, dK, dK, dK, dK, dK, dK, dK, dK, dK, dK, dK]
noncomputable def ko_laws_toBallotS_l3_0 : List Kd := [dK, dK, dK, .v (.sl tQIIIE) (.o 138 none .k), dK, dK, dK, dK, dK, dK, dK, dK, dK, dK, dK, dK, dK, dK, dK, dK, dK, dK, dK]
noncomputable def h_laws_toBallotS : Hint := { tab, hn := [], loops := [(3, ks_laws_toBallotS_l3)], outs := [(3, 2, ko_laws_toBallotS_l3_0)], ords := [] }
noncomputable def sg_laws_toBallotS : List AK := [.v (.sl tQIIIE) .k]
noncomputable def F_laws_toBallotS (N : Nat) (x : AVals sg_laws_toBallotS) (kf : Ret → Option Ret) : Option Ret := laws_toBallotS N x.1 (fun r0 => kf ⟨[⟨(.sl tQIIIE), (.o 138 none .k), r0⟩], []⟩)
noncomputable def run_laws_toBallotS (N : Nat) := runOf sg_laws_toBallotS (F_laws_toBallotS N)
noncomputable def es_laws_toBallotS (N : Nat) : List Entry := [⟨98, [.val], (run_laws_toBallot N)⟩]
noncomputable def body_laws_toBallotS : Code := match Tryd.f78.body with | some c => c | none => .skip
noncomputable def L_laws_toBallotS (N n : Nat) (key : Nat) (S : St) (K : Ks) : Option Ret := bif Nat.beq key 3 then withVals ks_laws_toBallotS_l3 S (fun x => laws_toBallotS_l3 N x.1 n (fun z0 => K (.x 0) (shape ko_laws_toBallotS_l3_0 (z0, ()))) x.2.1 x.2.2.1) else none
theorem L0_laws_toBallotS (N key : Nat) (S : St) (K : Ks) : L_laws_toBallotS N 0 key S K = none := (bif0 (withVals0 fun _ => rfl) rfl)
noncomputable def c_laws_toBallotS_0 : Code := (loopsIn body_laws_toBallotS).getD 0 .skip
theorem ls_laws_toBallotS : loopsIn body_laws_toBallotS = [c_laws_toBallotS_0] := by kernel_rfl
theorem rd_laws_toBallotS_3 (N n : Nat) (x : Vals ks_laws_toBallotS_l3) (K : Ks) : L_laws_toBallotS N (n + 1) 3 (shape ks_laws_toBallotS_l3 x) (h_laws_toBallotS.onOut 3 K) = peRound h_laws_toBallotS (Orc.of (es_laws_toBallotS N)) (mixL (L_laws_toBallotS N) N n 3) c_laws_toBallotS_0 (shape ks_laws_toBallotS_l3 x) (h_laws_toBallotS.onOut 3 K) := by kernel_rfl
theorem fn_laws_toBallotS (N : Nat) (x : AVals sg_laws_toBallotS) (kf : Ret → Option Ret) : F_laws_toBallotS N x kf = peFunc h_laws_toBallotS (Orc.of (es_laws_toBallotS N)) (L_laws_toBallotS N N) Tryd.f78 (ashape sg_laws_toBallotS x) kf := by kernel_rfl
theorem sd_laws_toBallotS {Γ : Gl} (hΓ : TabΓ Γ) (N : Nat) : Sound Γ Tryd.prog 78 (run_laws_toBallotS N) := fun_ok2 (hh := h_laws_toBallotS) mixed tab_ok (es := es_laws_toBallotS N) ⟨sd_laws_toBallot hΓ N, trivial⟩ (fn := Tryd.f78) (body := body_laws_toBallotS) (by kernel_rfl) (by kernel_rfl) (by kernel_rfl) (by kernel_rfl) (by kernel_rfl) (Lf := L_laws_toBallotS N) (L0_laws_toBallotS N) ls_laws_toBallotS (round_cons (key := 3) (ks := ks_laws_toBallotS_l3) (by kernel_rfl) (by kernel_rfl) (rd_laws_toBallotS_3 N) trivial) (N := N) (by kernel_rfl) (fn_laws_toBallotS N) (.inl (by kernel_rfl))
/-! laws_toLine -/
noncomputable def h_laws_toLine : Hint := { tab, hn := [], loops := [], outs := [], ords := [] }
noncomputable def sg_laws_toLine : List AK := [.v tQIIIIE .k]
noncomputable def F_laws_toLine (N : Nat) (x : AVals sg_laws_toLine) (kf : Ret → Option Ret) : Option Ret := laws_toLine N x.1 (fun r0 => kf ⟨[⟨tQIIIIE, .k, r0⟩], []⟩)
noncomputable def run_laws_toLine (N : Nat) := runOf sg_laws_toLine (F_laws_toLine N)
noncomputable def es_laws_toLine (N : Nat) : List Entry := []
noncomputable def body_laws_toLine : Code := match Tryd.f99.body with | some c => c | none => .skip
noncomputable def L_laws_toLine (N n : Nat) (key : Nat) (S : St) (K : Ks) : Option Ret := none
theorem L0_laws_toLine (N key : Nat) (S : St) (K : Ks) : L_laws_toLine N 0 key S K = none := rfl
theorem ls_laws_toLine : loopsIn body_laws_toLine = [] := by kernel_rfl
theorem fn_laws_toLine (N : Nat) (x : AVals sg_laws_toLine) (kf : Ret → Option Ret) : F_laws_toLine N x kf = peFunc h_laws_toLine (Orc.of (es_laws_toLine N)) (L_laws_toLine N N) Tryd.f99 (ashape sg_laws_toLine x) kf := by kernel_rfl
theorem sd_laws_toLine {Γ : Gl} (hΓ : TabΓ Γ) (N : Nat) : Sound Γ Tryd.prog 99 (run_laws_toLine N) := fun_ok2 (hh := h_laws_toLine) mixed tab_ok (es := es_laws_toLine N) trivial (fn := Tryd.f99) (body := body_laws_toLine) (by kernel_rfl) (by kernel_rfl) (by kernel_rfl) (by kernel_rfl) (by kernel_rfl) (Lf := L_laws_toLine N) (L0_laws_toLine N) ls_laws_toLine trivial (N := N) (by kernel_rfl) (fn_laws_toLine N) (.inl (by kernel_rfl))
/-! laws_toLineS -/
noncomputable def ks_laws_toLineS_l3 : List Kd := [.v (.sl tQIIIIE) .k, dK, dK, .v (.sl tQIIIIE) (.o 144 none .k), .v (.int .i64) .k, dK, dK, dK, dK, dK, dK, dK, dK, dK, dK, dK, dK, dK, dK, dK, dK, dK, dK]
noncomputable def ko_laws_toLineS_l3_0 : List Kd := [dK, dK, dK, .v (.sl tQIIIIE) (.o 144 none .k), dK, dK, dK, dK, dK, dK, dK, dK, dK, dK, dK, dK, dK, dK, dK, dK, dK, dK, dK]
noncomputable def h_laws_toLineS : Hint := { tab, hn := [], loops := [(3, ks_laws_toLineS_l3)], outs := [(3, 2, ko_laws_toLineS_l3_0)], ords := [] }
noncomputable def sg_laws_toLineS : List AK := [.v (.sl tQIIIIE) .k]
noncomputable def F_laws_toLineS (N : Nat) (x : AVals sg_laws_toLineS) (kf : Ret → Option Ret) : Option Ret := laws_toLineS N x.1 (fun r0 => kf ⟨[⟨(.sl tQIIIIE), (.o 144 none .k), r0⟩], []⟩)
noncomputable def run_laws_toLineS (N : Nat) := runOf sg_laws_toLineS (F_laws_toLineS N)
noncomputable def es_laws_toLineS (N : Nat) : List Entry := [⟨99, [.val], (run_laws_toLine N)⟩]
noncomputable def body_laws_toLineS : Code := match Tryd.f79.body with | some c => c | none => .skip
noncomputable def L_laws_toLineS (N n : Nat) (key : Nat) (S : St) (K : Ks) : Option Ret := bif Nat.beq key 3 then withVals ks_laws_toLineS_l3 S (fun x => laws_toLineS_l3 N x.1 n (fun z0 => K (.x 0) (shape ko_laws_toLineS_l3_0 (z0, ()))) x.2.1 x.2.2.1) else none
theorem L0_laws_toLineS (N key : Nat) (S : St) (K : Ks) : L_laws_toLineS N 0 key S K = none := (bif0 (withVals0 fun _ => rfl) rfl)
noncomputable def c_laws_toLineS_0 : Code := (loopsIn body_laws_toLineS).getD 0 .skip
theorem ls_laws_toLineS : loopsIn body_laws_toLineS = [c_laws_toLineS_0] := by kernel_rfl
theorem rd_laws_toLineS_3 (N n : Nat) (x : Vals ks_laws_toLineS_l3) (K : Ks) : L_laws_toLineS N (n + 1) 3 (shape ks_laws_toLineS_l3 x) (h_laws_toLineS.onOut 3 K) = peRound h_laws_toLineS (Orc.of (es_laws_toLineS N)) (mixL (L_laws_toLineS N) N n 3) c_laws_toLineS_0 (shape ks_laws_toLineS_l3 x) (h_laws_toLineS.onOut 3 K) := by kernel_rfl
theorem fn_laws_toLineS (N : Nat) (x : AVals sg_laws_toLineS) (kf : Ret → Option Ret) : F_laws_toLineS N x kf = peFunc h_laws_toLineS (Orc.of (es_laws_toLineS N)) (L_laws_toLineS N N) Tryd.f79 (ashape sg_laws_toLineS x) kf := by kernel_rfl
theorem sd_laws_toLineS {Γ : Gl} (hΓ : TabΓ Γ) (N : Nat) : Sound Γ Tryd.prog 79 (run_laws_toLineS N) := fun_ok2 (hh := h_laws_toLineS) mixed tab_ok (es := es_laws_toLineS N) ⟨sd_laws_toLine hΓ N, trivial⟩ (fn := Tryd.f79) (body := body_laws_toLineS) (by kernel_rfl) (by kernel_rfl) (by kernel_rfl) (by kernel_rfl) (by kernel_rfl) (Lf := L_laws_toLineS N) (L0_laws_toLineS N) ls_laws_toLineS (round_cons (key := 3) (ks := ks_laws_toLineS_l3) (by kernel_rfl) (by kernel_rfl) (rd_laws_toLineS_3 N) trivial) (N := N) (by kernel_rfl) (fn_laws_toLineS N) (.inl (by kernel_rfl))
/-! laws_toClub -/
noncomputable def h_laws_toClub : Hint := { tab, hn := [], loops := [], outs := [], ords := [] }
noncomputable def sg_laws_toClub : List AK := [.v tQLQIIIIILIELQIILIELQIIELILQIIIELQIIIIEIE .k]
noncomputable def F_laws_toClub (N : Nat) (x : AVals sg_laws_toClub) (kf : Ret → Option Ret) : Option Ret := laws_toClub N x.1 (fun r0 => kf ⟨[⟨tQLQIIIIILIELQIILIELQIIELILQIIIELQIIIIEIE, (.p (.o 101 none (.p .k (.p .k (.p .k (.p .k (.p .k (.o 3 none .k))))))) (.p (.o 139 none (.p .k (.p .k (.o 3 none .k)))) (.p (.o 88 none .k) (.p (.o 3 none .k) (.p (.o 138 none .k) (.p (.o 144 none .k) .k)))))), r0⟩], []⟩)
noncomputable def run_laws_toClub (N : Nat) := runOf sg_laws_toClub (F_laws_toClub N)
noncomputable def es_laws_toClub (N : Nat) : List Entry := [⟨37, [.val], (run_laws_toTeamS N)⟩, ⟨77, [.val], (run_laws_toJudgeS N)⟩, ⟨27, [.val], (run_laws_toPairS N)⟩, ⟨12, [.val], (run_laws_toIntS N)⟩, ⟨78, [.val], (run_laws_toBallotS N)⟩, ⟨79, [.val], (run_laws_toLineS N)⟩]
noncomputable def body_laws_toClub : Code := match Tryd.f46.body with | some c => c | none => .skip
noncomputable def L_laws_toClub (N n : Nat) (key : Nat) (S : St) (K : Ks) : Option Ret := none
theorem L0_laws_toClub (N key : Nat) (S : St) (K : Ks) : L_laws_toClub N 0 key S K = none := rfl
theorem ls_laws_toClub : loopsIn body_laws_toClub = [] := by kernel_rfl
theorem fn_laws_toClub (N : Nat) (x : AVals sg_laws_toClub) (kf : Ret → Option Ret) : F_laws_toClub N x kf = peFunc h_laws_toClub (Orc.of (es_laws_toClub N)) (L_laws_toClub N N) Tryd.f46 (ashape sg_laws_toClub x) kf := by kernel_rfl
theorem sd_laws_toClub {Γ : Gl} (hΓ : TabΓ Γ) (N : Nat) : Sound Γ Tryd.prog 46 (run_laws_toClub N) := fun_ok2 (hh := h_laws_toClub) mixed tab_ok (es := es_laws_toClub N) ⟨sd_laws_toTeamS hΓ N, ⟨sd_laws_toJudgeS hΓ N, ⟨sd_laws_toPairS hΓ N, ⟨sd_laws_toIntS hΓ N, ⟨sd_laws_toBallotS hΓ N, ⟨sd_laws_toLineS hΓ N, trivial⟩⟩⟩⟩⟩⟩ (fn := Tryd.f46) (body := body_laws_toClub) (by kernel_rfl) (by kernel_rfl) (by kernel_rfl) (by kernel_rfl) (by kernel_rfl) (Lf := L_laws_toClub N) (L0_laws_toClub N) ls_laws_toClub trivial (N := N) (by kernel_rfl) (fn_laws_toClub N) (.inl (by kernel_rfl))
/-! spec_Waiting -/
noncomputable def ks_spec_Waiting_l4 : List Kd := [dK, .v (.ptr tQLQIIIIILIELQIILIELQIIELILQIIIELQIIIIEIE) (.o 77 none .k), dK, .v (.sl (.int .i64)) (.o 3 none .k), .v (.ptr tQIIIE) (.o 138 none .k), .v (.int .i64) .k, dK, dK, dK, dK, dK, dK, dK, dK, dK, dK, dK, dK, dK, dK, dK, dK, dK, dK, dK, dK, dK]
noncomputable def ko_spec_Waiting_l4_0 : List Kd := [dK, dK, dK, .v (.sl (.int .i64)) (.o 3 none .k), dK, dK, dK, dK, dK, dK, dK, dK, dK, dK, dK, dK, dK, dK, dK, dK, dK, dK, dK, dK, dK, dK, dK]
noncomputable def h_spec_Waiting : Hint := { tab, hn := [], loops := [(4, ks_spec_Waiting_l4)], outs := [(4, 2, ko_spec_Waiting_l4_0)], ords := [(6, (OT.seq [0, 1, 2, 3, 4, 5, 6] .done))] }
noncomputable def sg_spec_Waiting : List AK := [.v tQLQIIIIILIELQIILIELQIIELILQIIIELQIIIIEIE .k]
noncomputable def F_spec_Waiting (N : Nat) (x : AVals sg_spec_Waiting) (kf : Ret → Option Ret) : Option Ret := spec_Waiting N x.1 (fun r0 => kf ⟨[⟨(.sl (.int .i64)), (.o 3 none .k), r0⟩], []⟩)
noncomputable def run_spec_Waiting (N : Nat) := runOf sg_spec_Waiting (F_spec_Waiting N)
noncomputable def es_spec_Waiting (N : Nat) : List Entry := []
noncomputable def body_spec_Waiting : Code := match Tryd.f76.body with | some c => c | none => .skip
noncomputable def L_spec_Waiting (N n : Nat) (key : Nat) (S : St) (K : Ks) : Option Ret := bif Nat.beq key 4 then withVals ks_spec_Waiting_l4 S (fun x => spec_Waiting_l4 x.1 x.2.2.1 n (fun z0 => K (.x 0) (shape ko_spec_Waiting_l4_0 (z0, ()))) x.2.1 x.2.2.2.1) else none
theorem L0_spec_Waiting (N key : Nat) (S : St) (K : Ks) : L_spec_Waiting N 0 key S K = none := (bif0 (withVals0 fun _ => rfl) rfl)
noncomputable def c_spec_Waiting_0 : Code := (loopsIn body_spec_Waiting).getD 0 .skip
theorem ls_spec_Waiting : loopsIn body_spec_Waiting = [c_spec_Waiting_0] := by kernel_rfl
theorem rd_spec_Waiting_4 (N n : Nat) (x : Vals ks_spec_Waiting_l4) (K : Ks) : L_spec_Waiting N (n + 1) 4 (shape ks_spec_Waiting_l4 x) (h_spec_Waiting.onOut 4 K) = peRound h_spec_Waiting (Orc.of (es_spec_Waiting N)) (mixL (L_spec_Waiting N) N n 4) c_spec_Waiting_0 (shape ks_spec_Waiting_l4 x) (h_spec_Waiting.onOut 4 K) := by kernel_rfl
theorem fn_spec_Waiting (N : Nat) (x : AVals sg_spec_Waiting) (kf : Ret → Option Ret) : F_spec_Waiting N x kf = peFunc h_spec_Waiting (Orc.of (es_spec_Waiting N)) (L_spec_Waiting N N) Tryd.f76 (ashape sg_spec_Waiting x) kf := by kernel_rfl
theorem sd_spec_Waiting {Γ : Gl} (hΓ : TabΓ Γ) (N : Nat) : Sound Γ Tryd.prog 76 (run_spec_Waiting N) := fun_ok2 (hh := h_spec_Waiting) mixed tab_ok (es := es_spec_Waiting N) trivial (fn := Tryd.f76) (body := body_spec_Waiting) (by kernel_rfl) (by kernel_rfl) (by kernel_rfl) (by kernel_rfl) (by kernel_rfl) (Lf := L_spec_Waiting N) (L0_spec_Waiting N) ls_spec_Waiting (round_cons (key := 4) (ks := ks_spec_Waiting_l4) (by kernel_rfl) (by kernel_rfl) (rd_spec_Waiting_4 N) trivial) (N := N) (by kernel_rfl) (fn_spec_Waiting N) (.inl (by kernel_rfl))
/-! spec_FormatClub -/
noncomputable def h_spec_FormatClub : Hint := { tab, hn := [], loops := [], outs := [], ords := [(1, (OT.seq [0, 1, 2, 3, 4, 5, 6, 7, 8, 9, 12, 13, 14, 15, 16, 10, 11, 17, 18, 19] .done))] }
noncomputable def sg_spec_FormatClub : List AK := [.v tQLQIIIIILIELQIILIELQIIELILQIIIELQIIIIEIE .k]
noncomputable def F_spec_FormatClub (N : Nat) (x : AVals sg_spec_FormatClub) (kf : Ret → Option Ret) : Option Ret := spec_FormatClub N x.1 (fun r0 => kf ⟨[⟨.str, .k, r0⟩], []⟩)
noncomputable def run_spec_FormatClub (N : Nat) := runOf sg_spec_FormatClub (F_spec_FormatClub N)
noncomputable def es_spec_FormatClub (N : Nat) : List Entry := [⟨76, [.val], (run_spec_Waiting N)⟩, ⟨11, [.val], (run_spec_FormatNumbers N)⟩]
noncomputable def body_spec_FormatClub : Code := match Tryd.f45.body with | some c => c | none => .skip
noncomputable def L_spec_FormatClub (N n : Nat) (key : Nat) (S : St) (K : Ks) : Option Ret := none
theorem L0_spec_FormatClub (N key : Nat) (S : St) (K : Ks) : L_spec_FormatClub N 0 key S K = none := rfl
theorem ls_spec_FormatClub : loopsIn body_spec_FormatClub = [] := by kernel_rfl
theorem fn_spec_FormatClub (N : Nat) (x : AVals sg_spec_FormatClub) (kf : Ret → Option Ret) : F_spec_FormatClub N x kf = peFunc h_spec_FormatClub (Orc.of (es_spec_FormatClub N)) (L_spec_FormatClub N N) Tryd.f45 (ashape sg_spec_FormatClub x) kf := by kernel_rfl
theorem sd_spec_FormatClub {Γ : Gl} (hΓ : TabΓ Γ) (N : Nat) : Sound Γ Tryd.prog 45 (run_spec_FormatClub N) := fun_ok2 (hh := h_spec_FormatClub) mixed tab_ok (es := es_spec_FormatClub N) ⟨sd_spec_Waiting hΓ N, ⟨sd_spec_FormatNumbers hΓ N, trivial⟩⟩ (fn := Tryd.f45) (body := body_spec_FormatClub) (by kernel_rfl) (by kernel_rfl) (by kernel_rfl) (by kernel_rfl) (by kernel_rfl) (Lf := L_spec_FormatClub N) (L0_spec_FormatClub N) ls_spec_FormatClub trivial (N := N) (by kernel_rfl) (fn_spec_FormatClub N) (.inl (by kernel_rfl))
/-! impl_Waiting -/
noncomputable def ks_impl_Waiting_l3 : List Kd := [dK, dK, dK, .v (.sl (.int .i64)) (.o 3 none .k), dK, dK, dK, dK, .v (.sl tQIIIE) .k, .v (.int .i64) .k, .v (.int .i64) .k, dK, dK, dK, dK, dK, dK, dK, dK, dK, dK, dK, dK, dK]
noncomputable def ko_impl_Waiting_l3_0 : List Kd := [dK, dK, dK, .v (.sl (.int .i64)) (.o 3 none .k), dK, dK, dK, dK, dK, dK, dK, dK, dK, dK, dK, dK, dK, dK, dK, dK, dK, dK, dK, dK]
noncomputable def h_impl_Waiting : Hint := { tab, hn := [], loops := [(3, ks_impl_Waiting_l3)], outs := [(3, 2, ko_impl_Waiting_l3_0)], ords := [] }
noncomputable def sg_impl_Waiting : List AK := [.v tQLQIIIIILIELQIILIELQIIELILQIIIELQIIIIEIE .k]
noncomputable def F_impl_Waiting (N : Nat) (x : AVals sg_impl_Waiting) (kf : Ret → Option Ret) : Option Ret := impl_Waiting N x.1 (fun r0 => kf ⟨[⟨(.sl (.int .i64)), (.o 3 none .k), r0⟩], []⟩)
noncomputable def run_impl_Waiting (N : Nat) := runOf sg_impl_Waiting (F_impl_Waiting N)
noncomputable def es_impl_Waiting (N : Nat) : List Entry := []
noncomputable def body_impl_Waiting : Code := match Tryd.f80.body with | some c => c | none => .skip
noncomputable def L_impl_Waiting (N n : Nat) (key : Nat) (S : St) (K : Ks) : Option Ret := bif Nat.beq key 3 then withVals ks_impl_Waiting_l3 S (fun x => impl_Waiting_l3 x.2.1 x.2.2.1 n (fun z0 => K (.x 0) (shape ko_impl_Waiting_l3_0 (z0, ()))) x.1 x.2.2.2.1) else none
theorem L0_impl_Waiting (N key : Nat) (S : St) (K : Ks) : L_impl_Waiting N 0 key S K = none := (bif0 (withVals0 fun _ => rfl) rfl)
noncomputable def c_impl_Waiting_0 : Code := (loopsIn body_impl_Waiting).getD 0 .skip
theorem ls_impl_Waiting : loopsIn body_impl_Waiting = [c_impl_Waiting_0] := by kernel_rfl
theorem rd_impl_Waiting_3 (N n : Nat) (x : Vals ks_impl_Waiting_l3) (K : Ks) : L_impl_Waiting N (n + 1) 3 (shape ks_impl_Waiting_l3 x) (h_impl_Waiting.onOut 3 K) = peRound h_impl_Waiting (Orc.of (es_impl_Waiting N)) (mixL (L_impl_Waiting N) N n 3) c_impl_Waiting_0 (shape ks_impl_Waiting_l3 x) (h_impl_Waiting.onOut 3 K) := by kernel_rfl
theorem fn_impl_Waiting (N : Nat) (x : AVals sg_impl_Waiting) (kf : Ret → Option Ret) : F_impl_Waiting N x kf = peFunc h_impl_Waiting (Orc.of (es_impl_Waiting N)) (L_impl_Waiting N N) Tryd.f80 (ashape sg_impl_Waiting x) kf := by kernel_rfl
theorem sd_impl_Waiting {Γ : Gl} (hΓ : TabΓ Γ) (N : Nat) : Sound Γ Tryd.prog 80 (run_impl_Waiting N) := fun_ok2 (hh := h_impl_Waiting) mixed tab_ok (es := es_impl_Waiting N) trivial (fn := Tryd.f80) (body := body_impl_Waiting) (by kernel_rfl) (by kernel_rfl) (by kernel_rfl) (by kernel_rfl) (by kernel_rfl) (Lf := L_impl_Waiting N) (L0_impl_Waiting N) ls_impl_Waiting (round_cons (key := 3) (ks := ks_impl_Waiting_l3) (by kernel_rfl) (by kernel_rfl) (rd_impl_Waiting_3 N) trivial) (N := N) (by kernel_rfl) (fn_impl_Waiting N) (.inl (by kernel_rfl))
/-! impl_FormatClub -/
noncomputable def h_impl_FormatClub : Hint := { tab, hn := [], loops := [], outs := [], ords := [(1, (OT.seq [0, 1, 2, 3, 4, 5, 6, 7, 8, 9, 12, 13, 14, 15, 16, 10, 11, 17, 18, 19] .done))] }
noncomputable def sg_impl_FormatClub : List AK := [.v tQLQIIIIILIELQIILIELQIIELILQIIIELQIIIIEIE .k]
noncomputable def F_impl_FormatClub (N : Nat) (x : AVals sg_impl_FormatClub) (kf : Ret → Option Ret) : Option Ret := impl_FormatClub N x.1 (fun r0 => kf ⟨[⟨.str, .k, r0⟩], []⟩)
noncomputable def run_impl_FormatClub (N : Nat) := runOf sg_impl_FormatClub (F_impl_FormatClub N)
noncomputable def es_impl_FormatClub (N : Nat) : List Entry := [⟨80, [.val], (run_impl_Waiting N)⟩, ⟨13, [.val], (run_impl_FormatNumbers N)⟩]
noncomputable def body_impl_FormatClub : Code := match Tryd.f47.body with | some c => c | none => .skip
noncomputable def L_impl_FormatClub (N n : Nat) (key : Nat) (S : St) (K : Ks) : Option Ret := none
theorem L0_impl_FormatClub (N key : Nat) (S : St) (K : Ks) : L_impl_FormatClub N 0 key S K = none := rfl
theorem ls_impl_FormatClub : loopsIn body_impl_FormatClub = [] := by kernel_rfl
theorem fn_impl_FormatClub (N : Nat) (x : AVals sg_impl_FormatClub) (kf : Ret → Option Ret) : F_impl_FormatClub N x kf = peFunc h_impl_FormatClub (Orc.of (es_impl_FormatClub N)) (L_impl_FormatClub N N) Tryd.f47 (ashape sg_impl_FormatClub x) kf := by kernel_rfl
theorem sd_impl_FormatClub {Γ : Gl} (hΓ : TabΓ Γ) (N : Nat) : Sound Γ Tryd.prog 47 (run_impl_FormatClub N) := fun_ok2 (hh := h_impl_FormatClub) mixed tab_ok (es := es_impl_FormatClub N) ⟨sd_impl_Waiting hΓ N, ⟨sd_impl_FormatNumbers hΓ N, trivial⟩⟩ (fn := Tryd.f47) (body := body_impl_FormatClub) (by kernel_rfl) (by kernel_rfl) (by kernel_rfl) (by kernel_rfl) (by kernel_rfl) (Lf := L_impl_FormatClub N) (L0_impl_FormatClub N) ls_impl_FormatClub trivial (N := N) (by kernel_rfl) (fn_impl_FormatClub N) (.inl (by kernel_rfl))
/-! laws_eqJudge -/
noncomputable def h_laws_eqJudge : Hint := { tab, hn := [], loops := [], outs := [], ords := [] }
noncomputable def sg_laws_eqJudge : List AK := [.v tQIILIE .k, .v tQIILIE .k]
noncomputable def F_laws_eqJudge (N : Nat) (x : AVals sg_laws_eqJudge) (kf : Ret → Option Ret) : Option Ret := laws_eqJudge N x.1 x.2.1 (fun r0 => kf ⟨[⟨.bool, .k, r0⟩], []⟩)
noncomputable def run_laws_eqJudge (N : Nat) := runOf sg_laws_eqJudge (F_laws_eqJudge N)
noncomputable def es_laws_eqJudge (N : Nat) : List Entry := [⟨14, [.val, .val], (run_laws_eqIntS N)⟩]
noncomputable def body_laws_eqJudge : Code := match Tryd.f100.body with | some c => c | none => .skip
noncomputable def L_laws_eqJudge (N n : Nat) (key : Nat) (S : St) (K : Ks) : Option Ret := none
theorem L0_laws_eqJudge (N key : Nat) (S : St) (K : Ks) : L_laws_eqJudge N 0 key S K = none := rfl
theorem ls_laws_eqJudge : loopsIn body_laws_eqJudge = [] := by kernel_rfl
theorem fn_laws_eqJudge (N : Nat) (x : AVals sg_laws_eqJudge) (kf : Ret → Option Ret) : F_laws_eqJudge N x kf = peFunc h_laws_eqJudge (Orc.of (es_laws_eqJudge N)) (L_laws_eqJudge N N) Tryd.f100 (ashape sg_laws_eqJudge x) kf := by kernel_rfl
theorem sd_laws_eqJudge {Γ : Gl} (hΓ : TabΓ Γ) (N : Nat) : Sound Γ Tryd.prog 100 (run_laws_eqJudge N) := fun_ok2 (hh := h_laws_eqJudge) mixed tab_ok (es := es_laws_eqJudge N) ⟨sd_laws_eqIntS hΓ N, trivial⟩ (fn := Tryd.f100) (body := body_laws_eqJudge) (by kernel_rfl) (by kernel_rfl) (by kernel_rfl) (by kernel_rfl) (by kernel_rfl) (Lf := L_laws_eqJudge N) (L0_laws_eqJudge N) ls_laws_eqJudge trivial (N := N) (by kernel_rfl) (fn_laws_eqJudge N) (.inl (by kernel_rfl))
/-! laws_eqJudgeS -/
noncomputable def ks_laws_eqJudgeS_l4 : List Kd := [.v (.sl tQIILIE) .k, .v (.sl tQIILIE) .k, dK, dK, dK, .v (.int .i64) .k, dK, dK, dK, dK, dK, dK, dK, dK, dK, dK, dK, dK, dK, dK, dK, dK, dK, dK, dK, dK, dK]
noncomputable def ko_laws_eqJudgeS_l4_0 : List Kd := [dK, dK, dK, dK, dK, dK, dK, dK, dK, dK, dK, dK, dK, dK, dK, dK, dK, dK, dK, dK, dK, dK, dK, dK, dK, dK, dK]
noncomputable def ko_laws_eqJudgeS_l4_1 : List Kd := [dK, dK, dK, dK, .v .bool .k, dK, dK, dK, dK, dK, dK, dK, dK, dK, dK, dK, dK, dK, dK, dK, dK, dK, dK, dK, dK, dK, dK]
noncomputable def h_laws_eqJudgeS : Hint := { tab, hn := [], loops := [(4, ks_laws_eqJudgeS_l4)], outs := [(4, 2, ko_laws_eqJudgeS_l4_0), (4, 1, ko_laws_eqJudgeS_l4_1)], ords := [(6, (OT.seq [0, 1, 2, 3, 4, 5, 6, 7, 8, 9] .done))] }
noncomputable def sg_laws_eqJudgeS : List AK := [.v (.sl tQIILIE) .k, .v (.sl tQIILIE) .k]
noncomputable def F_laws_eqJudgeS (N : Nat) (x : AVals sg_laws_eqJudgeS) (kf : Ret → Option Ret) : Option Ret := laws_eqJudgeS N x.1 x.2.1 (fun r0 => kf ⟨[⟨.bool, .k, r0⟩], []⟩)
noncomputable def run_laws_eqJudgeS (N : Nat) := runOf sg_laws_eqJudgeS (F_laws_eqJudgeS N)
noncomputable def es_laws_eqJudgeS (N : Nat) : List Entry := [⟨100, [.val, .val], (run_laws_eqJudge N)⟩]
noncomputable def body_laws_eqJudgeS : Code := match Tryd.f81.body with | some c => c | none => .skip
noncomputable def L_laws_eqJudgeS (N n : Nat) (key : Nat) (S : St) (K : Ks) : Option Ret := bif Nat.beq key 4 then withVals ks_laws_eqJudgeS_l4 S (fun x => laws_eqJudgeS_l4 N x.1 x.2.1 n (K (.x 0) (shape ko_laws_eqJudgeS_l4_0 ())) (fun z0 => K .r (shape ko_laws_eqJudgeS_l4_1 (z0, ()))) x.2.2.1) else none
theorem L0_laws_eqJudgeS (N key : Nat) (S : St) (K : Ks) : L_laws_eqJudgeS N 0 key S K = none := (bif0 (withVals0 fun _ => rfl) rfl)
noncomputable def c_laws_eqJudgeS_0 : Code := (loopsIn body_laws_eqJudgeS).getD 0 .skip
theorem ls_laws_eqJudgeS : loopsIn body_laws_eqJudgeS = [c_laws_eqJudgeS_0] := by kernel_rfl
theorem rd_laws_eqJudgeS_4 (N n : Nat) (x : Vals ks_laws_eqJudgeS_l4) (K : Ks) : L_laws_eqJudgeS N (n + 1) 4 (shape ks_laws_eqJudgeS_l4 x) (h_laws_eqJudgeS.onOut 4 K) = peRound h_laws_eqJudgeS (Orc.of (es_laws_eqJudgeS N)) (mixL (L_laws_eqJudgeS N) N n 4) c_laws_eqJudgeS_0 (shape ks_laws_eqJudgeS_l4 x) (h_laws_eqJudgeS.onOut 4 K) := by kernel_rfl
theorem fn_laws_eqJudgeS (N : Nat) (x : AVals sg_laws_eqJudgeS) (kf : Ret → Option Ret) : F_laws_eqJudgeS N x kf = peFunc h_laws_eqJudgeS (Orc.of (es_laws_eqJudgeS N)) (L_laws_eqJudgeS N N) Tryd.f81 (ashape sg_laws_eqJudgeS x) kf := by kernel_rfl
theorem sd_laws_eqJudgeS {Γ : Gl} (hΓ : TabΓ Γ) (N : Nat) : Sound Γ Tryd.prog 81 (run_laws_eqJudgeS N) := fun_ok2 (hh := h_laws_eqJudgeS) mixed tab_ok (es := es_laws_eqJudgeS N) ⟨sd_laws_eqJudge hΓ N, trivial⟩ (fn := Tryd.f81) (body := body_laws_eqJudgeS) (by kernel_rfl) (by kernel_rfl) (by kernel_rfl) (by kernel_rfl) (by kernel_rfl) (Lf := L_laws_eqJudgeS N) (L0_laws_eqJudgeS N) ls_laws_eqJudgeS (round_cons (key := 4) (ks := ks_laws_eqJudgeS_l4) (by kernel_rfl) (by kernel_rfl) (rd_laws_eqJudgeS_4 N) trivial) (N := N) (by kernel_rfl) (fn_laws_eqJudgeS N) (.inl (by kernel_rfl))
/-! laws_eqBallot -/
noncomputable def h_laws_eqBallot : Hint := { tab, hn := [], loops := [], outs := [], ords := [] }
noncomputable def sg_laws_eqBallot : List AK := [.v tQIIIE .k, .v tQIIIE .k]
noncomputable def F_laws_eqBallot (N : Nat) (x : AVals sg_laws_eqBallot) (kf : Ret → Option Ret) : Option Ret := laws_eqBallot N x.1 x.2.1 (fun r0 => kf ⟨[⟨.bool, .k, r0⟩], []⟩)
noncomputable def run_laws_eqBallot (N : Nat) := runOf sg_laws_eqBallot (F_laws_eqBallot N)
noncomputable def es_laws_eqBallot (N : Nat) : List Entry := []
noncomputable def body_laws_eqBallot : Code := match Tryd.f101.body with | some c => c | none => .skip
noncomputable def L_laws_eqBallot (N n : Nat) (key : Nat) (S : St) (K : Ks) : Option Ret := none
theorem L0_laws_eqBallot (N key : Nat) (S : St) (K : Ks) : L_laws_eqBallot N 0 key S K = none := rfl
theorem ls_laws_eqBallot : loopsIn body_laws_eqBallot = [] := by kernel_rfl
theorem fn_laws_eqBallot (N : Nat) (x : AVals sg_laws_eqBallot) (kf : Ret → Option Ret) : F_laws_eqBallot N x kf = peFunc h_laws_eqBallot (Orc.of (es_laws_eqBallot N)) (L_laws_eqBallot N N) Tryd.f101 (ashape sg_laws_eqBallot x) kf := by kernel_rfl
theorem sd_laws_eqBallot {Γ : Gl} (hΓ : TabΓ Γ) (N : Nat) : Sound Γ Tryd.prog 101 (run_laws_eqBallot N) := fun_ok2 (hh := h_laws_eqBallot) mixed tab_ok (es := es_laws_eqBallot N) trivial (fn := Tryd.f101) (body := body_laws_eqBallot) (by kernel_rfl) (by kernel_rfl) (by kernel_rfl) (by kernel_rfl) (by kernel_rfl) (Lf := L_laws_eqBallot N) (L0_laws_eqBallot N) ls_laws_eqBallot trivial (N := N) (by kernel_rfl) (fn_laws_eqBallot N) (.inl (by kernel_rfl))
/-! laws_eqBallotS -/
noncomputable def ks_laws_eqBallotS_l4 : List Kd := [.v (.sl tQIIIE) .k, .v (.sl tQIIIE) .k, dK, dK, dK, .v (.int .i64) .k, dK, dK, dK, dK, dK, dK, dK, dK, dK, dK, dK, dK, dK, dK, dK, dK, dK, dK, dK, dK, dK]
noncomputable def ko_laws_eqBallotS_l4_0 : List Kd := [dK, dK, dK, dK, dK, dK, dK, dK, dK, dK, dK, dK, dK, dK, dK, dK, dK, dK, dK, dK, dK, dK, dK, dK, dK, dK, dK]
noncomputable def ko_laws_eqBallotS_l4_1 : List Kd := [dK, dK, dK, dK, .v .bool .k, dK, dK, dK, dK, dK, dK, dK, dK, dK, dK, dK, dK, dK, dK, dK, dK, dK, dK, dK, dK, dK, dK]
noncomputable def h_laws_eqBallotS : Hint := { tab, hn := [], loops := [(4, ks_laws_eqBallotS_l4)], outs := [(4, 2, ko_laws_eqBallotS_l4_0), (4, 1, ko_laws_eqBallotS_l4_1)], ords := [(6, (OT.seq [0, 1, 2, 3, 4, 5, 6, 7, 8, 9] .done))] }
noncomputable def sg_laws_eqBallotS : List AK := [.v (.sl tQIIIE) .k, .v (.sl tQIIIE) .k]
noncomputable def F_laws_eqBallotS (N : Nat) (x : AVals sg_laws_eqBallotS) (kf : Ret → Option Ret) : Option Ret := laws_eqBallotS N x.1 x.2.1 (fun r0 => kf ⟨[⟨.bool, .k, r0⟩], []⟩)
noncomputable def run_laws_eqBallotS (N : Nat) := runOf sg_laws_eqBallotS (F_laws_eqBallotS N)
noncomputable def es_laws_eqBallotS (N : Nat) : List Entry := [⟨101, [.val, .val], (run_laws_eqBallot N)⟩]
noncomputable def body_laws_eqBallotS : Code := match Tryd.f82.body with | some c => c | none => .skip
noncomputable def L_laws_eqBallotS (N n : Nat) (key : Nat) (S : St) (K : Ks) : Option Ret := bif Nat.beq key 4 then withVals ks_laws_eqBallotS_l4 S (fun x => laws_eqBallotS_l4 N x.1 x.2.1 n (K (.x 0) (shape ko_laws_eqBallotS_l4_0 ())) (fun z0 => K .r (shape ko_laws_eqBallotS_l4_1 (z0, ()))) x.2.2.1) else none
theorem L0_laws_eqBallotS (N key : Nat) (S : St) (K : Ks) : L_laws_eqBallotS N 0 key S K = none := (bif0 (withVals0 fun _ => rfl) rfl)
noncomputable def c_laws_eqBallotS_0 : Code := (loopsIn body_laws_eqBallotS).getD 0 .skip
theorem ls_laws_eqBallotS : loopsIn body_laws_eqBallotS = [c_laws_eqBallotS_0] := by kernel_rfl
theorem rd_laws_eqBallotS_4 (N n : Nat) (x : Vals ks_laws_eqBallotS_l4) (K : Ks) : L_laws_eqBallotS N (n + 1) 4 (shape ks_laws_eqBallotS_l4 x) (h_laws_eqBallotS.onOut 4 K) = peRound h_laws_eqBallotS (Orc.of (es_laws_eqBallotS N)) (mixL (L_laws_eqBallotS N) N n 4) c_laws_eqBallotS_0 (shape ks_laws_eqBallotS_l4 x) (h_laws_eqBallotS.onOut 4 K) := by kernel_rfl
theorem fn_laws_eqBallotS (N : Nat) (x : AVals sg_laws_eqBallotS) (kf : Ret → Option Ret) : F_laws_eqBallotS N x kf = peFunc h_laws_eqBallotS (Orc.of (es_laws_eqBallotS N)) (L_laws_eqBallotS N N) Tryd.f82 (ashape sg_laws_eqBallotS x) kf := by kernel_rfl
theorem sd_laws_eqBallotS {Γ : Gl} (hΓ : TabΓ Γ) (N : Nat) : Sound Γ Tryd.prog 82 (run_laws_eqBallotS N) := fun_ok2 (hh := h_laws_eqBallotS) mixed tab_ok (es := es_laws_eqBallotS N) ⟨sd_laws_eqBallot hΓ N, trivial⟩ (fn := Tryd.f82) (body := body_laws_eqBallotS) (by kernel_rfl) (by kernel_rfl) (by kernel_rfl) (by kernel_rfl) (by kernel_rfl) (Lf := L_laws_eqBallotS N) (L0_laws_eqBallotS N) ls_laws_eqBallotS (round_cons (key := 4) (ks := ks_laws_eqBallotS_l4) (by kernel_rfl) (by kernel_rfl) (rd_laws_eqBallotS_4 N) trivial) (N := N) (by kernel_rfl) (fn_laws_eqBallotS N) (.inl (by kernel_rfl))
/-! laws_eqLine -/
noncomputable def h_laws_eqLine : Hint := { tab, hn := [], loops := [], outs := [], ords := [] }
noncomputable def sg_laws_eqLine : List AK := [.v tQIIIIE .k, .v tQIIIIE .k]
noncomputable def F_laws_eqLine (N : Nat) (x : AVals sg_laws_eqLine) (kf : Ret → Option Ret) : Option Ret := laws_eqLine N x.1 x.2.1 (fun r0 => kf ⟨[⟨.bool, .k, r0⟩], []⟩)
noncomputable def run_laws_eqLine (N : Nat) := runOf sg_laws_eqLine (F_laws_eqLine N)
noncomputable def es_laws_eqLine (N : Nat) : List Entry := []
noncomputable def body_laws_eqLine : Code := match Tryd.f102.body with | some c => c | none => .skip
noncomputable def L_laws_eqLine (N n : Nat) (key : Nat) (S : St) (K : Ks) : Option Ret := none
theorem L0_laws_eqLine (N key : Nat) (S : St) (K : Ks) : L_laws_eqLine N 0 key S K = none := rfl
theorem ls_laws_eqLine : loopsIn body_laws_eqLine = [] := by kernel_rfl
theorem fn_laws_eqLine (N : Nat) (x : AVals sg_laws_eqLine) (kf : Ret → Option Ret) : F_laws_eqLine N x kf = peFunc h_laws_eqLine (Orc.of (es_laws_eqLine N)) (L_laws_eqLine N N) Tryd.f102 (ashape sg_laws_eqLine x) kf := by kernel_rfl
theorem sd_laws_eqLine {Γ : Gl} (hΓ : TabΓ Γ) (N : Nat) : Sound Γ Tryd.prog 102 (run_laws_eqLine N) := fun_ok2 (hh := h_laws_eqLine) mixed tab_ok (es := es_laws_eqLine N) trivial (fn := Tryd.f102) (body := body_laws_eqLine) (by kernel_rfl) (by kernel_rfl) (by kernel_rfl) (by kernel_rfl) (by kernel_rfl) (Lf := L_laws_eqLine N) (L0_laws_eqLine N) ls_laws_eqLine trivial (N := N) (by kernel_rfl) (fn_laws_eqLine N) (.inl (by kernel_rfl))
/-! laws_eqLineS -/
noncomputable def ks_laws_eqLineS_l4 : List Kd := [.v (.sl tQIIIIE) .k, .v (.sl tQIIIIE) .k, dK, dK, dK, .v (.int .i64) .k, dK, dK, dK, dK, dK, dK, dK, dK, dK, dK, dK, dK, dK, dK, dK, dK, dK, dK, dK, dK, dK]
noncomputable def ko_laws_eqLineS_l4_0 : List Kd := [dK, dK, dK, dK, dK, dK, dK, dK, dK, dK, dK, dK, dK, dK, dK, dK, dK, dK, dK, dK, dK, dK, dK, dK, dK, dK, dK]
noncomputable def ko_laws_eqLineS_l4_1 : List Kd := [dK, dK, dK, dK, .v .bool .k, dK, dK, dK, dK, dK, dK, dK, dK, dK, dK, dK, dK, dK, dK, dK, dK, dK, dK, dK, dK, dK, dK]
noncomputable def h_laws_eqLineS : Hint := { tab, hn := [], loops := [(4, ks_laws_eqLineS_l4)], outs := [(4, 2, ko_laws_eqLineS_l4_0), (4, 1, ko_laws_eqLineS_l4_1)], ords := [(6, (OT.seq [0, 1, 2, 3, 4, 5, 6, 7, 8, 9] .done))] }
noncomputable def sg_laws_eqLineS : List AK := [.v (.sl tQIIIIE) .k, .v (.sl tQIIIIE) .k]
noncomputable def F_laws_eqLineS (N : Nat) (x : AVals sg_laws_eqLineS) (kf : Ret → Option Ret) : Option Ret := laws_eqLineS N x.1 x.2.1 (fun r0 => kf ⟨[⟨.bool, .k, r0⟩], []⟩)
noncomputable def run_laws_eqLineS (N : Nat) := runOf sg_laws_eqLineS (F_laws_eqLineS N)
noncomputable def es_laws_eqLineS (N : Nat) : List Entry := [⟨102, [.val, .val], (run_laws_eqLine N)⟩]
noncomputable def body_laws_eqLineS : Code := match Tryd.f83.body with | some c => c | none => .skip
noncomputable def L_laws_eqLineS (N n : Nat) (key : Nat) (S : St) (K : Ks) : Option Ret := bif Nat.beq key 4 then withVals ks_laws_eqLineS_l4 S (fun x => laws_eqLineS_l4 N x.1 x.2.1 n (K (.x 0) (shape ko_laws_eqLineS_l4_0 ())) (fun z0 => K .r (shape ko_laws_eqLineS_l4_1 (z0, ()))) x.2.2.1) else none
theorem L0_laws_eqLineS (N key : Nat) (S : St) (K : Ks) : L_laws_eqLineS N 0 key S K = none := (bif0 (withVals0 fun _ => rfl) rfl)
noncomputable def c_laws_eqLineS_0 : Code := (loopsIn body_laws_eqLineS).getD 0 .skip
theorem ls_laws_eqLineS : loopsIn body_laws_eqLineS = [c_laws_eqLineS_0] := by kernel_rfl
theorem rd_laws_eqLineS_4 (N n : Nat) (x : Vals ks_laws_eqLineS_l4) (K : Ks) : L_laws_eqLineS N (n + 1) 4 (shape ks_laws_eqLineS_l4 x) (h_laws_eqLineS.onOut 4 K) = peRound h_laws_eqLineS (Orc.of (es_laws_eqLineS N)) (mixL (L_laws_eqLineS N) N n 4) c_laws_eqLineS_0 (shape ks_laws_eqLineS_l4 x) (h_laws_eqLineS.onOut 4 K) := by kernel_rfl
theorem fn_laws_eqLineS (N : Nat) (x : AVals sg_laws_eqLineS) (kf : Ret → Option Ret) : F_laws_eqLineS N x kf = peFunc h_laws_eqLineS (Orc.of (es_laws_eqLineS N)) (L_laws_eqLineS N N) Tryd.f83 (ashape sg_laws_eqLineS x) kf := by kernel_rfl
theorem sd_laws_eqLineS {Γ : Gl} (hΓ : TabΓ Γ) (N : Nat) : Sound Γ Tryd.prog 83 (run_laws_eqLineS N) := fun_ok2 (hh := h_laws_eqLineS) mixed tab_ok (es := es_laws_eqLineS N) ⟨sd_laws_eqLine hΓ N, trivial⟩ (fn := Tryd.f83) (body := body_laws_eqLineS) (by kernel_rfl) (by kernel_rfl) (by kernel_rfl) (by kernel_rfl) (by kernel_rfl) (Lf := L_laws_eqLineS N) (L0_laws_eqLineS N) ls_laws_eqLineS (round_cons (key := 4) (ks := ks_laws_eqLineS_l4) (by kernel_rfl) (by kernel_rfl) (rd_laws_eqLineS_4 N) trivial) (N := N) (by kernel_rfl) (fn_laws_eqLineS N) (.inl (by kernel_rfl))
/-! laws_eqClub -/
noncomputable def h_laws_eqClub : Hint := { tab, hn := [], loops := [], outs := [], ords := [] }
noncomputable def sg_laws_eqClub : List AK := [.v tQLQIIIIILIELQIILIELQIIELILQIIIELQIIIIEIE .k, .v tQLQIIIIILIELQIILIELQIIELILQIIIELQIIIIEIE .k]
noncomputable def F_laws_eqClub (N : Nat) (x : AVals sg_laws_eqClub) (kf : Ret → Option Ret) : Option Ret := laws_eqClub N x.1 x.2.1 (fun r0 => kf ⟨[⟨.bool, .k, r0⟩], []⟩)
noncomputable def run_laws_eqClub (N : Nat) := runOf sg_laws_eqClub (F_laws_eqClub N)
noncomputable def es_laws_eqClub (N : Nat) : List Entry := [⟨39, [.val, .val], (run_laws_eqTeamS N)⟩, ⟨81, [.val, .val], (run_laws_eqJudgeS N)⟩, ⟨29, [.val, .val], (run_laws_eqPairS N)⟩, ⟨14, [.val, .val], (run_laws_eqIntS N)⟩, ⟨82, [.val, .val], (run_laws_eqBallotS N)⟩, ⟨83, [.val, .val], (run_laws_eqLineS N)⟩]
noncomputable def body_laws_eqClub : Code := match Tryd.f48.body with | some c => c | none => .skip
noncomputable def L_laws_eqClub (N n : Nat) (key : Nat) (S : St) (K : Ks) : Option Ret := none
theorem L0_laws_eqClub (N key : Nat) (S : St) (K : Ks) : L_laws_eqClub N 0 key S K = none := rfl
theorem ls_laws_eqClub : loopsIn body_laws_eqClub = [] := by kernel_rfl
theorem fn_laws_eqClub (N : Nat) (x : AVals sg_laws_eqClub) (kf : Ret → Option Ret) : F_laws_eqClub N x kf = peFunc h_laws_eqClub (Orc.of (es_laws_eqClub N)) (L_laws_eqClub N N) Tryd.f48 (ashape sg_laws_eqClub x) kf := by kernel_rfl
theorem sd_laws_eqClub {Γ : Gl} (hΓ : TabΓ Γ) (N : Nat) : Sound Γ Tryd.prog 48 (run_laws_eqClub N) := fun_ok2 (hh := h_laws_eqClub) mixed tab_ok (es := es_laws_eqClub N) ⟨sd_laws_eqTeamS hΓ N, ⟨sd_laws_eqJudgeS hΓ N, ⟨sd_laws_eqPairS hΓ N, ⟨sd_laws_eqIntS hΓ N, ⟨sd_laws_eqBallotS hΓ N, ⟨sd_laws_eqLineS hΓ N, trivial⟩⟩⟩⟩⟩⟩ (fn := Tryd.f48) (body := body_laws_eqClub) (by kernel_rfl) (by kernel_rfl) (by kernel_rfl) (by kernel_rfl) (by kernel_rfl) (Lf := L_laws_eqClub N) (L0_laws_eqClub N) ls_laws_eqClub trivial (N := N) (by kernel_rfl) (fn_laws_eqClub N) (.inl (by kernel_rfl))
/-! laws_FnExactFormatClub -/
noncomputable def h_laws_FnExactFormatClub : Hint := { tab, hn := [], loops := [], outs := [], ords := [(10, (OT.seq [0, 1, 2, 3, 4] .done))] }
noncomputable def sg_laws_FnExactFormatClub : List AK := [.v tQLQIIIIILIELQIILIELQIIELILQIIIELQIIIIEIE .k]
noncomputable def F_laws_FnExactFormatClub (N : Nat) (x : AVals sg_laws_FnExactFormatClub) (kf : Ret → Option Ret) : Option Ret := laws_FnExactFormatClub N x.1 (fun r0 => kf ⟨[⟨.bool, .k, r0⟩], []⟩)
noncomputable def run_laws_FnExactFormatClub (N : Nat) := runOf sg_laws_FnExactFormatClub (F_laws_FnExactFormatClub N)
noncomputable def es_laws_FnExactFormatClub (N : Nat) : List Entry := [⟨44, [.val, .val], (run_laws_szClub N)⟩, ⟨46, [.val], (run_laws_toClub N)⟩, ⟨45, [.val], (run_spec_FormatClub N)⟩, ⟨47, [.val], (run_impl_FormatClub N)⟩, ⟨48, [.val, .val], (run_laws_eqClub N)⟩]
noncomputable def body_laws_FnExactFormatClub : Code := match Tryd.f10.body with | some c => c | none => .skip
noncomputable def L_laws_FnExactFormatClub (N n : Nat) (key : Nat) (S : St) (K : Ks) : Option Ret := none
theorem L0_laws_FnExactFormatClub (N key : Nat) (S : St) (K : Ks) : L_laws_FnExactFormatClub N 0 key S K = none := rfl
theorem ls_laws_FnExactFormatClub : loopsIn body_laws_FnExactFormatClub = [] := by kernel_rfl
theorem fn_laws_FnExactFormatClub (N : Nat) (x : AVals sg_laws_FnExactFormatClub) (kf : Ret → Option Ret) : F_laws_FnExactFormatClub N x kf = peFunc h_laws_FnExactFormatClub (Orc.of (es_laws_FnExactFormatClub N)) (L_laws_FnExactFormatClub N N) Tryd.f10 (ashape sg_laws_FnExactFormatClub x) kf := by kernel_rfl
theorem sd_laws_FnExactFormatClub {Γ : Gl} (hΓ : TabΓ Γ) (N : Nat) : Sound Γ Tryd.prog 10 (run_laws_FnExactFormatClub N) := fun_ok2 (hh := h_laws_FnExactFormatClub) mixed tab_ok (es := es_laws_FnExactFormatClub N) ⟨sd_laws_szClub hΓ N, ⟨sd_laws_toClub hΓ N, ⟨sd_spec_FormatClub hΓ N, ⟨sd_impl_FormatClub hΓ N, ⟨sd_laws_eqClub hΓ N, trivial⟩⟩⟩⟩⟩ (fn := Tryd.f10) (body := body_laws_FnExactFormatClub) (by kernel_rfl) (by kernel_rfl) (by kernel_rfl) (by kernel_rfl) (by kernel_rfl) (Lf := L_laws_FnExactFormatClub N) (L0_laws_FnExactFormatClub N) ls_laws_FnExactFormatClub trivial (N := N) (by kernel_rfl) (fn_laws_FnExactFormatClub N) (.inl (by kernel_rfl))
end Go.Pv.R
