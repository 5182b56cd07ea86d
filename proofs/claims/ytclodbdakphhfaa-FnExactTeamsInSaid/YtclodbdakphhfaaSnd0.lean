/- Each function of the program that the law reaches computes its plain function, part 0. -/
import Derived.Test.YtclodbdakphhfaaPlRes
import Derived.Test.YtclodbdakphhfaaPrim
import Derived.Test.YtclodbdakphhfaaProg
namespace Go.Pv.R
open Go.Proofs
set_option linter.unusedVariables false
set_option maxRecDepth 100000
noncomputable abbrev dK : Kd := .dead
noncomputable def tab : Tab := [⟨2, (.int .i64), 0, []⟩, ⟨3, (.int .i64), 0, []⟩, ⟨4, .bool, 0, []⟩, ⟨5, (.int .u8), 0, []⟩, ⟨9, .str, 0, []⟩, ⟨12, (.int .u64), 0, []⟩, ⟨21, (.int .i32), 0, []⟩, ⟨24, (.sl (.int .i64)), 3, []⟩, ⟨30, (.sl tQIIIIE), 60, []⟩, ⟨33, (.sl tQIIIIE), 57, []⟩, ⟨38, (.sl (.sl (.int .i64))), 24, []⟩, ⟨39, tQILLIE, 0, [3, 38]⟩, ⟨40, tQILLIE, 0, [3, 38]⟩, ⟨43, tQILLIE, 0, [3, 38]⟩, ⟨48, (.sl .str), 9, []⟩, ⟨56, tQIIIIE, 0, [3, 3, 3, 3]⟩, ⟨57, tQIIIIE, 0, [3, 3, 3, 3]⟩, ⟨60, tQIIIIE, 0, [3, 3, 3, 3]⟩, ⟨76, (.int .u64), 0, []⟩, ⟨80, (.int .u64), 0, []⟩, ⟨85, (.int .i64), 0, []⟩, ⟨94, (.int .u32), 0, []⟩, ⟨98, (.sl (.int .u64)), 80, []⟩, ⟨100, (.int .u64), 0, []⟩]
theorem mixed : Try.prog.follows .mixedOrders = true := by kernel_rfl
theorem tab_ok : tabB Try.prog tab = true := by kernel_rfl
/-! spec_l1In -/
noncomputable def h_spec_l1In : Hint := { tab, hn := [], loops := [], outs := [], ords := [] }
noncomputable def sg_spec_l1In : List AK := [.v (.int .i64) .k, .v (.int .i64) .k, .v (.int .i64) .k]
noncomputable def F_spec_l1In (N : Nat) (x : AVals sg_spec_l1In) (kf : Ret → Option Ret) : Option Ret := spec_l1In N x.1 x.2.1 x.2.2.1 (fun r0 => kf ⟨[⟨.bool, .k, r0⟩], []⟩)
noncomputable def run_spec_l1In (N : Nat) := runOf sg_spec_l1In (F_spec_l1In N)
noncomputable def es_spec_l1In (N : Nat) : List Entry := []
noncomputable def body_spec_l1In : Code := match Try.f28.body with | some c => c | none => .skip
noncomputable def L_spec_l1In (N n : Nat) (key : Nat) (S : St) (K : Ks) : Option Ret := none
theorem L0_spec_l1In (N key : Nat) (S : St) (K : Ks) : L_spec_l1In N 0 key S K = none := rfl
theorem ls_spec_l1In : loopsIn body_spec_l1In = [] := by kernel_rfl
theorem fn_spec_l1In (N : Nat) (x : AVals sg_spec_l1In) (kf : Ret → Option Ret) : F_spec_l1In N x kf = peFunc h_spec_l1In (Orc.of (es_spec_l1In N)) (L_spec_l1In N N) Try.f28 (ashape sg_spec_l1In x) kf := by kernel_rfl
theorem sd_spec_l1In (N : Nat) : Sound Try.prog 28 (run_spec_l1In N) := fun_ok2 (hh := h_spec_l1In) mixed tab_ok (es := es_spec_l1In N) trivial (fn := Try.f28) (body := body_spec_l1In) (by kernel_rfl) (by kernel_rfl) (by kernel_rfl) (by kernel_rfl) (by kernel_rfl) (Lf := L_spec_l1In N) (L0_spec_l1In N) ls_spec_l1In trivial (N := N) (by kernel_rfl) (fn_spec_l1In N) (.inl (by kernel_rfl))
/-! laws_szLineS -/
noncomputable def h_laws_szLineS : Hint := { tab, hn := [], loops := [], outs := [], ords := [] }
noncomputable def sg_laws_szLineS : List AK := [.v (.sl tQIIIIE) .k, .v (.int .i64) .k]
noncomputable def F_laws_szLineS (N : Nat) (x : AVals sg_laws_szLineS) (kf : Ret → Option Ret) : Option Ret := laws_szLineS N x.1 x.2.1 (fun r0 => kf ⟨[⟨(.int .i64), .k, r0⟩], []⟩)
noncomputable def run_laws_szLineS (N : Nat) := runOf sg_laws_szLineS (F_laws_szLineS N)
noncomputable def es_laws_szLineS (N : Nat) : List Entry := []
noncomputable def body_laws_szLineS : Code := match Try.f15.body with | some c => c | none => .skip
noncomputable def L_laws_szLineS (N n : Nat) (key : Nat) (S : St) (K : Ks) : Option Ret := none
theorem L0_laws_szLineS (N key : Nat) (S : St) (K : Ks) : L_laws_szLineS N 0 key S K = none := rfl
theorem ls_laws_szLineS : loopsIn body_laws_szLineS = [] := by kernel_rfl
theorem fn_laws_szLineS (N : Nat) (x : AVals sg_laws_szLineS) (kf : Ret → Option Ret) : F_laws_szLineS N x kf = peFunc h_laws_szLineS (Orc.of (es_laws_szLineS N)) (L_laws_szLineS N N) Try.f15 (ashape sg_laws_szLineS x) kf := by kernel_rfl
theorem sd_laws_szLineS (N : Nat) : Sound Try.prog 15 (run_laws_szLineS N) := fun_ok2 (hh := h_laws_szLineS) mixed tab_ok (es := es_laws_szLineS N) trivial (fn := Try.f15) (body := body_laws_szLineS) (by kernel_rfl) (by kernel_rfl) (by kernel_rfl) (by kernel_rfl) (by kernel_rfl) (Lf := L_laws_szLineS N) (L0_laws_szLineS N) ls_laws_szLineS trivial (N := N) (by kernel_rfl) (fn_laws_szLineS N) (.inl (by kernel_rfl))
/-! laws_toLine -/
noncomputable def h_laws_toLine : Hint := { tab, hn := [], loops := [], outs := [], ords := [] }
noncomputable def sg_laws_toLine : List AK := [.v tQIIIIE .k]
noncomputable def F_laws_toLine (N : Nat) (x : AVals sg_laws_toLine) (kf : Ret → Option Ret) : Option Ret := laws_toLine N x.1 (fun r0 => kf ⟨[⟨tQIIIIE, .k, r0⟩], []⟩)
noncomputable def run_laws_toLine (N : Nat) := runOf sg_laws_toLine (F_laws_toLine N)
noncomputable def es_laws_toLine (N : Nat) : List Entry := []
noncomputable def body_laws_toLine : Code := match Try.f35.body with | some c => c | none => .skip
noncomputable def L_laws_toLine (N n : Nat) (key : Nat) (S : St) (K : Ks) : Option Ret := none
theorem L0_laws_toLine (N key : Nat) (S : St) (K : Ks) : L_laws_toLine N 0 key S K = none := rfl
theorem ls_laws_toLine : loopsIn body_laws_toLine = [] := by kernel_rfl
theorem fn_laws_toLine (N : Nat) (x : AVals sg_laws_toLine) (kf : Ret → Option Ret) : F_laws_toLine N x kf = peFunc h_laws_toLine (Orc.of (es_laws_toLine N)) (L_laws_toLine N N) Try.f35 (ashape sg_laws_toLine x) kf := by kernel_rfl
theorem sd_laws_toLine (N : Nat) : Sound Try.prog 35 (run_laws_toLine N) := fun_ok2 (hh := h_laws_toLine) mixed tab_ok (es := es_laws_toLine N) trivial (fn := Try.f35) (body := body_laws_toLine) (by kernel_rfl) (by kernel_rfl) (by kernel_rfl) (by kernel_rfl) (by kernel_rfl) (Lf := L_laws_toLine N) (L0_laws_toLine N) ls_laws_toLine trivial (N := N) (by kernel_rfl) (fn_laws_toLine N) (.inl (by kernel_rfl))
/-! laws_toLineS -/
noncomputable def ks_laws_toLineS_l3 : List Kd := [.v (.sl tQIIIIE) .k, dK, dK, .v (.sl tQIIIIE) (.o 57 none .k), .v (.int .i64) .k, dK, dK, dK, dK, dK, dK, dK, dK, dK, dK, dK, dK, dK, dK, dK, dK, dK, dK]
noncomputable def ko_laws_toLineS_l3_0 : List Kd := [dK, dK, dK, .v (.sl tQIIIIE) (.o 57 none .k), dK, dK, dK, dK, dK, dK, dK, dK, dK, dK, dK, dK, dK, dK, dK, dK, dK, dK, dK]
noncomputable def h_laws_toLineS : Hint := { tab, hn := [], loops := [(3, ks_laws_toLineS_l3)], outs := [(3, 2, ko_laws_toLineS_l3_0)], ords := [] }
noncomputable def sg_laws_toLineS : List AK := [.v (.sl tQIIIIE) .k]
noncomputable def F_laws_toLineS (N : Nat) (x : AVals sg_laws_toLineS) (kf : Ret → Option Ret) : Option Ret := laws_toLineS N x.1 (fun r0 => kf ⟨[⟨(.sl tQIIIIE), (.o 57 none .k), r0⟩], []⟩)
noncomputable def run_laws_toLineS (N : Nat) := runOf sg_laws_toLineS (F_laws_toLineS N)
noncomputable def es_laws_toLineS (N : Nat) : List Entry := [⟨35, [.val], (run_laws_toLine N)⟩]
noncomputable def body_laws_toLineS : Code := match Try.f17.body with | some c => c | none => .skip
noncomputable def L_laws_toLineS (N n : Nat) (key : Nat) (S : St) (K : Ks) : Option Ret := bif Nat.beq key 3 then withVals ks_laws_toLineS_l3 S (fun x => laws_toLineS_l3 N x.1 n (fun z0 => K (.x 0) (shape ko_laws_toLineS_l3_0 (z0, ()))) x.2.1 x.2.2.1) else none
theorem L0_laws_toLineS (N key : Nat) (S : St) (K : Ks) : L_laws_toLineS N 0 key S K = none := (bif0 (withVals0 fun _ => rfl) rfl)
noncomputable def c_laws_toLineS_0 : Code := (loopsIn body_laws_toLineS).getD 0 .skip
theorem ls_laws_toLineS : loopsIn body_laws_toLineS = [c_laws_toLineS_0] := by kernel_rfl
theorem rd_laws_toLineS_3 (N n : Nat) (x : Vals ks_laws_toLineS_l3) (K : Ks) : L_laws_toLineS N (n + 1) 3 (shape ks_laws_toLineS_l3 x) (h_laws_toLineS.onOut 3 K) = peRound h_laws_toLineS (Orc.of (es_laws_toLineS N)) (mixL (L_laws_toLineS N) N n 3) c_laws_toLineS_0 (shape ks_laws_toLineS_l3 x) (h_laws_toLineS.onOut 3 K) := by kernel_rfl
theorem fn_laws_toLineS (N : Nat) (x : AVals sg_laws_toLineS) (kf : Ret → Option Ret) : F_laws_toLineS N x kf = peFunc h_laws_toLineS (Orc.of (es_laws_toLineS N)) (L_laws_toLineS N N) Try.f17 (ashape sg_laws_toLineS x) kf := by kernel_rfl
theorem sd_laws_toLineS (N : Nat) : Sound Try.prog 17 (run_laws_toLineS N) := fun_ok2 (hh := h_laws_toLineS) mixed tab_ok (es := es_laws_toLineS N) ⟨sd_laws_toLine N, trivial⟩ (fn := Try.f17) (body := body_laws_toLineS) (by kernel_rfl) (by kernel_rfl) (by kernel_rfl) (by kernel_rfl) (by kernel_rfl) (Lf := L_laws_toLineS N) (L0_laws_toLineS N) ls_laws_toLineS (round_cons (key := 3) (ks := ks_laws_toLineS_l3) (by kernel_rfl) (by kernel_rfl) (rd_laws_toLineS_3 N) trivial) (N := N) (by kernel_rfl) (fn_laws_toLineS N) (.inl (by kernel_rfl))
/-! spec_Mod -/
noncomputable def h_spec_Mod : Hint := { tab, hn := [], loops := [], outs := [], ords := [] }
noncomputable def sg_spec_Mod : List AK := [.v (.int .i64) .k, .v (.int .i64) .k]
noncomputable def F_spec_Mod (N : Nat) (x : AVals sg_spec_Mod) (kf : Ret → Option Ret) : Option Ret := spec_Mod N x.1 x.2.1 (fun r0 => kf ⟨[⟨(.int .i64), .k, r0⟩], []⟩)
noncomputable def run_spec_Mod (N : Nat) := runOf sg_spec_Mod (F_spec_Mod N)
noncomputable def es_spec_Mod (N : Nat) : List Entry := [⟨28, [.val, .val, .val], (run_spec_l1In N)⟩]
noncomputable def body_spec_Mod : Code := match Try.f90.body with | some c => c | none => .skip
noncomputable def L_spec_Mod (N n : Nat) (key : Nat) (S : St) (K : Ks) : Option Ret := none
theorem L0_spec_Mod (N key : Nat) (S : St) (K : Ks) : L_spec_Mod N 0 key S K = none := rfl
theorem ls_spec_Mod : loopsIn body_spec_Mod = [] := by kernel_rfl
theorem fn_spec_Mod (N : Nat) (x : AVals sg_spec_Mod) (kf : Ret → Option Ret) : F_spec_Mod N x kf = peFunc h_spec_Mod (Orc.of (es_spec_Mod N)) (L_spec_Mod N N) Try.f90 (ashape sg_spec_Mod x) kf := by kernel_rfl
theorem sd_spec_Mod (N : Nat) : Sound Try.prog 90 (run_spec_Mod N) := fun_ok2 (hh := h_spec_Mod) mixed tab_ok (es := es_spec_Mod N) ⟨sd_spec_l1In N, trivial⟩ (fn := Try.f90) (body := body_spec_Mod) (by kernel_rfl) (by kernel_rfl) (by kernel_rfl) (by kernel_rfl) (by kernel_rfl) (Lf := L_spec_Mod N) (L0_spec_Mod N) ls_spec_Mod trivial (N := N) (by kernel_rfl) (fn_spec_Mod N) (.inl (by kernel_rfl))
/-! spec_Hash -/
noncomputable def ks_spec_Hash_l3 : List Kd := [.v (.sl (.int .i64)) .k, dK, dK, .v (.int .i64) .k, .v (.int .i64) .k, dK, dK, dK, dK, dK, dK, dK, dK, dK, dK, dK, dK, dK, dK, dK, dK, dK]
noncomputable def ko_spec_Hash_l3_0 : List Kd := [dK, dK, dK, .v (.int .i64) .k, dK, dK, dK, dK, dK, dK, dK, dK, dK, dK, dK, dK, dK, dK, dK, dK, dK, dK]
noncomputable def h_spec_Hash : Hint := { tab, hn := [], loops := [(3, ks_spec_Hash_l3)], outs := [(3, 2, ko_spec_Hash_l3_0)], ords := [] }
noncomputable def sg_spec_Hash : List AK := [.v (.sl (.int .i64)) .k]
noncomputable def F_spec_Hash (N : Nat) (x : AVals sg_spec_Hash) (kf : Ret → Option Ret) : Option Ret := spec_Hash N x.1 (fun r0 => kf ⟨[⟨(.int .i64), .k, r0⟩], []⟩)
noncomputable def run_spec_Hash (N : Nat) := runOf sg_spec_Hash (F_spec_Hash N)
noncomputable def es_spec_Hash (N : Nat) : List Entry := [⟨90, [.val, .val], (run_spec_Mod N)⟩]
noncomputable def body_spec_Hash : Code := match Try.f69.body with | some c => c | none => .skip
noncomputable def L_spec_Hash (N n : Nat) (key : Nat) (S : St) (K : Ks) : Option Ret := bif Nat.beq key 3 then withVals ks_spec_Hash_l3 S (fun x => spec_Hash_l3 N x.1 n (fun z0 => K (.x 0) (shape ko_spec_Hash_l3_0 (z0, ()))) x.2.1 x.2.2.1) else none
theorem L0_spec_Hash (N key : Nat) (S : St) (K : Ks) : L_spec_Hash N 0 key S K = none := (bif0 (withVals0 fun _ => rfl) rfl)
noncomputable def c_spec_Hash_0 : Code := (loopsIn body_spec_Hash).getD 0 .skip
theorem ls_spec_Hash : loopsIn body_spec_Hash = [c_spec_Hash_0] := by kernel_rfl
theorem rd_spec_Hash_3 (N n : Nat) (x : Vals ks_spec_Hash_l3) (K : Ks) : L_spec_Hash N (n + 1) 3 (shape ks_spec_Hash_l3 x) (h_spec_Hash.onOut 3 K) = peRound h_spec_Hash (Orc.of (es_spec_Hash N)) (mixL (L_spec_Hash N) N n 3) c_spec_Hash_0 (shape ks_spec_Hash_l3 x) (h_spec_Hash.onOut 3 K) := by kernel_rfl
theorem fn_spec_Hash (N : Nat) (x : AVals sg_spec_Hash) (kf : Ret → Option Ret) : F_spec_Hash N x kf = peFunc h_spec_Hash (Orc.of (es_spec_Hash N)) (L_spec_Hash N N) Try.f69 (ashape sg_spec_Hash x) kf := by kernel_rfl
theorem sd_spec_Hash (N : Nat) : Sound Try.prog 69 (run_spec_Hash N) := fun_ok2 (hh := h_spec_Hash) mixed tab_ok (es := es_spec_Hash N) ⟨sd_spec_Mod N, trivial⟩ (fn := Try.f69) (body := body_spec_Hash) (by kernel_rfl) (by kernel_rfl) (by kernel_rfl) (by kernel_rfl) (by kernel_rfl) (Lf := L_spec_Hash N) (L0_spec_Hash N) ls_spec_Hash (round_cons (key := 3) (ks := ks_spec_Hash_l3) (by kernel_rfl) (by kernel_rfl) (rd_spec_Hash_3 N) trivial) (N := N) (by kernel_rfl) (fn_spec_Hash N) (.inl (by kernel_rfl))
/-! spec_l27Seal -/
noncomputable def h_spec_l27Seal : Hint := { tab, hn := [], loops := [], outs := [], ords := [] }
noncomputable def sg_spec_l27Seal : List AK := [.v (.int .i64) .k, .v tQIIIIE .k]
noncomputable def F_spec_l27Seal (N : Nat) (x : AVals sg_spec_l27Seal) (kf : Ret → Option Ret) : Option Ret := spec_l27Seal N x.1 x.2.1 (fun r0 => kf ⟨[⟨(.int .i64), .k, r0⟩], []⟩)
noncomputable def run_spec_l27Seal (N : Nat) := runOf sg_spec_l27Seal (F_spec_l27Seal N)
noncomputable def es_spec_l27Seal (N : Nat) : List Entry := [⟨69, [.val], (run_spec_Hash N)⟩]
noncomputable def body_spec_l27Seal : Code := match Try.f54.body with | some c => c | none => .skip
noncomputable def L_spec_l27Seal (N n : Nat) (key : Nat) (S : St) (K : Ks) : Option Ret := none
theorem L0_spec_l27Seal (N key : Nat) (S : St) (K : Ks) : L_spec_l27Seal N 0 key S K = none := rfl
theorem ls_spec_l27Seal : loopsIn body_spec_l27Seal = [] := by kernel_rfl
theorem fn_spec_l27Seal (N : Nat) (x : AVals sg_spec_l27Seal) (kf : Ret → Option Ret) : F_spec_l27Seal N x kf = peFunc h_spec_l27Seal (Orc.of (es_spec_l27Seal N)) (L_spec_l27Seal N N) Try.f54 (ashape sg_spec_l27Seal x) kf := by kernel_rfl
theorem sd_spec_l27Seal (N : Nat) : Sound Try.prog 54 (run_spec_l27Seal N) := fun_ok2 (hh := h_spec_l27Seal) mixed tab_ok (es := es_spec_l27Seal N) ⟨sd_spec_Hash N, trivial⟩ (fn := Try.f54) (body := body_spec_l27Seal) (by kernel_rfl) (by kernel_rfl) (by kernel_rfl) (by kernel_rfl) (by kernel_rfl) (Lf := L_spec_l27Seal N) (L0_spec_l27Seal N) ls_spec_l27Seal trivial (N := N) (by kernel_rfl) (fn_spec_l27Seal N) (.inl (by kernel_rfl))
/-! spec_AreMinutes -/
noncomputable def ks_spec_AreMinutes_l3 : List Kd := [.v (.sl tQIIIIE) .k, dK, dK, .v (.int .i64) .k, .v (.int .i64) .k, dK, dK, dK, dK, dK, dK, dK, dK, dK, dK, dK, dK, dK, dK, dK, dK, dK, dK, dK, dK, dK, dK, dK, dK, dK, dK, dK, dK, dK, dK, dK, dK, dK, dK, dK, dK, dK, dK, dK, dK, dK, dK, dK, dK, dK]
noncomputable def ko_spec_AreMinutes_l3_0 : List Kd := [.v (.sl tQIIIIE) .k, dK, dK, dK, dK, dK, dK, dK, dK, dK, dK, dK, dK, dK, dK, dK, dK, dK, dK, dK, dK, dK, dK, dK, dK, dK, dK, dK, dK, dK, dK, dK, dK, dK, dK, dK, dK, dK, dK, dK, dK, dK, dK, dK, dK, dK, dK, dK, dK, dK]
noncomputable def ko_spec_AreMinutes_l3_1 : List Kd := [dK, dK, .v .bool .k, dK, dK, dK, dK, dK, dK, dK, dK, dK, dK, dK, dK, dK, dK, dK, dK, dK, dK, dK, dK, dK, dK, dK, dK, dK, dK, dK, dK, dK, dK, dK, dK, dK, dK, dK, dK, dK, dK, dK, dK, dK, dK, dK, dK, dK, dK, dK]
noncomputable def h_spec_AreMinutes : Hint := { tab, hn := [], loops := [(3, ks_spec_AreMinutes_l3)], outs := [(3, 2, ko_spec_AreMinutes_l3_0), (3, 1, ko_spec_AreMinutes_l3_1)], ords := [] }
noncomputable def sg_spec_AreMinutes : List AK := [.v (.sl tQIIIIE) .k]
noncomputable def F_spec_AreMinutes (N : Nat) (x : AVals sg_spec_AreMinutes) (kf : Ret → Option Ret) : Option Ret := spec_AreMinutes N x.1 (fun r0 => kf ⟨[⟨.bool, .k, r0⟩], []⟩)
noncomputable def run_spec_AreMinutes (N : Nat) := runOf sg_spec_AreMinutes (F_spec_AreMinutes N)
noncomputable def es_spec_AreMinutes (N : Nat) : List Entry := [⟨54, [.val, .val], (run_spec_l27Seal N)⟩, ⟨28, [.val, .val, .val], (run_spec_l1In N)⟩]
noncomputable def body_spec_AreMinutes : Code := match Try.f33.body with | some c => c | none => .skip
noncomputable def L_spec_AreMinutes (N n : Nat) (key : Nat) (S : St) (K : Ks) : Option Ret := bif Nat.beq key 3 then withVals ks_spec_AreMinutes_l3 S (fun x => spec_AreMinutes_l3 N x.1 n (K (.x 0) (shape ko_spec_AreMinutes_l3_0 (x.1, ()))) (fun z0 => K .r (shape ko_spec_AreMinutes_l3_1 (z0, ()))) x.2.1 x.2.2.1) else none
theorem L0_spec_AreMinutes (N key : Nat) (S : St) (K : Ks) : L_spec_AreMinutes N 0 key S K = none := (bif0 (withVals0 fun _ => rfl) rfl)
noncomputable def c_spec_AreMinutes_0 : Code := (loopsIn body_spec_AreMinutes).getD 0 .skip
theorem ls_spec_AreMinutes : loopsIn body_spec_AreMinutes = [c_spec_AreMinutes_0] := by kernel_rfl
theorem rd_spec_AreMinutes_3 (N n : Nat) (x : Vals ks_spec_AreMinutes_l3) (K : Ks) : L_spec_AreMinutes N (n + 1) 3 (shape ks_spec_AreMinutes_l3 x) (h_spec_AreMinutes.onOut 3 K) = peRound h_spec_AreMinutes (Orc.of (es_spec_AreMinutes N)) (mixL (L_spec_AreMinutes N) N n 3) c_spec_AreMinutes_0 (shape ks_spec_AreMinutes_l3 x) (h_spec_AreMinutes.onOut 3 K) := by kernel_rfl
theorem fn_spec_AreMinutes (N : Nat) (x : AVals sg_spec_AreMinutes) (kf : Ret → Option Ret) : F_spec_AreMinutes N x kf = peFunc h_spec_AreMinutes (Orc.of (es_spec_AreMinutes N)) (L_spec_AreMinutes N N) Try.f33 (ashape sg_spec_AreMinutes x) kf := by kernel_rfl
theorem sd_spec_AreMinutes (N : Nat) : Sound Try.prog 33 (run_spec_AreMinutes N) := fun_ok2 (hh := h_spec_AreMinutes) mixed tab_ok (es := es_spec_AreMinutes N) ⟨sd_spec_l27Seal N, ⟨sd_spec_l1In N, trivial⟩⟩ (fn := Try.f33) (body := body_spec_AreMinutes) (by kernel_rfl) (by kernel_rfl) (by kernel_rfl) (by kernel_rfl) (by kernel_rfl) (Lf := L_spec_AreMinutes N) (L0_spec_AreMinutes N) ls_spec_AreMinutes (round_cons (key := 3) (ks := ks_spec_AreMinutes_l3) (by kernel_rfl) (by kernel_rfl) (rd_spec_AreMinutes_3 N) trivial) (N := N) (by kernel_rfl) (fn_spec_AreMinutes N) (.inl (by kernel_rfl))
/-! spec_l10Put -/
noncomputable def ks_spec_l10Put_l2 : List Kd := [.v (.sl (.int .i64)) .k, .v (.int .i64) .k, dK, dK, dK, .v (.int .i64) .k, dK, dK, dK, dK, dK, dK, dK, dK, dK, dK, dK, dK, dK, dK, dK, dK, dK, dK, dK, dK, dK, dK, dK, dK, dK, dK, dK, dK, dK, dK, dK, dK, dK, dK, dK, dK, dK, dK, dK, dK, dK]
noncomputable def ko_spec_l10Put_l2_0 : List Kd := [.v (.sl (.int .i64)) .k, .v (.int .i64) .k, dK, dK, dK, .v (.int .i64) .k, dK, dK, dK, dK, dK, dK, dK, dK, dK, dK, dK, dK, dK, dK, dK, dK, dK, dK, dK, dK, dK, dK, dK, dK, dK, dK, dK, dK, dK, dK, dK, dK, dK, dK, dK, dK, dK, dK, dK, dK, dK]
noncomputable def h_spec_l10Put : Hint := { tab, hn := [], loops := [(2, ks_spec_l10Put_l2)], outs := [(2, 2, ko_spec_l10Put_l2_0)], ords := [(6, (OT.seq [1, 2, 3, 5, 8, 9, 10] (.any [0, 4, 6] (OT.seq [7, 11, 12] .done))))] }
noncomputable def sg_spec_l10Put : List AK := [.v (.sl (.int .i64)) .k, .v (.int .i64) .k]
noncomputable def F_spec_l10Put (N : Nat) (x : AVals sg_spec_l10Put) (kf : Ret → Option Ret) : Option Ret := spec_l10Put N x.1 x.2.1 (fun r0 => kf ⟨[⟨(.sl (.int .i64)), (.o 3 none .k), r0⟩], []⟩)
noncomputable def run_spec_l10Put (N : Nat) := runOf sg_spec_l10Put (F_spec_l10Put N)
noncomputable def es_spec_l10Put (N : Nat) : List Entry := []
noncomputable def body_spec_l10Put : Code := match Try.f34.body with | some c => c | none => .skip
noncomputable def L_spec_l10Put (N n : Nat) (key : Nat) (S : St) (K : Ks) : Option Ret := bif Nat.beq key 2 then withVals ks_spec_l10Put_l2 S (fun x => spec_l10Put_l2 x.1 x.2.1 n (fun z0 => K (.x 0) (shape ko_spec_l10Put_l2_0 (x.1, x.2.1, z0, ()))) x.2.2.1) else none
theorem L0_spec_l10Put (N key : Nat) (S : St) (K : Ks) : L_spec_l10Put N 0 key S K = none := (bif0 (withVals0 fun _ => rfl) rfl)
noncomputable def c_spec_l10Put_0 : Code := (loopsIn body_spec_l10Put).getD 0 .skip
theorem ls_spec_l10Put : loopsIn body_spec_l10Put = [c_spec_l10Put_0] := by kernel_rfl
theorem rd_spec_l10Put_2 (N n : Nat) (x : Vals ks_spec_l10Put_l2) (K : Ks) : L_spec_l10Put N (n + 1) 2 (shape ks_spec_l10Put_l2 x) (h_spec_l10Put.onOut 2 K) = peRound h_spec_l10Put (Orc.of (es_spec_l10Put N)) (mixL (L_spec_l10Put N) N n 2) c_spec_l10Put_0 (shape ks_spec_l10Put_l2 x) (h_spec_l10Put.onOut 2 K) := by kernel_rfl
theorem fn_spec_l10Put (N : Nat) (x : AVals sg_spec_l10Put) (kf : Ret → Option Ret) : F_spec_l10Put N x kf = peFunc h_spec_l10Put (Orc.of (es_spec_l10Put N)) (L_spec_l10Put N N) Try.f34 (ashape sg_spec_l10Put x) kf := by kernel_rfl
theorem sd_spec_l10Put (N : Nat) : Sound Try.prog 34 (run_spec_l10Put N) := fun_ok2 (hh := h_spec_l10Put) mixed tab_ok (es := es_spec_l10Put N) trivial (fn := Try.f34) (body := body_spec_l10Put) (by kernel_rfl) (by kernel_rfl) (by kernel_rfl) (by kernel_rfl) (by kernel_rfl) (Lf := L_spec_l10Put N) (L0_spec_l10Put N) ls_spec_l10Put (round_cons (key := 2) (ks := ks_spec_l10Put_l2) (by kernel_rfl) (by kernel_rfl) (rd_spec_l10Put_2 N) trivial) (N := N) (by kernel_rfl) (fn_spec_l10Put N) (.inl (by kernel_rfl))
/-! impl_InRange -/
noncomputable def h_impl_InRange : Hint := { tab, hn := [], loops := [], outs := [], ords := [] }
noncomputable def sg_impl_InRange : List AK := [.v (.int .i64) .k, .v (.int .i64) .k, .v (.int .i64) .k]
noncomputable def F_impl_InRange (N : Nat) (x : AVals sg_impl_InRange) (kf : Ret → Option Ret) : Option Ret := impl_InRange N x.1 x.2.1 x.2.2.1 (fun r0 => kf ⟨[⟨.bool, .k, r0⟩], []⟩)
noncomputable def run_impl_InRange (N : Nat) := runOf sg_impl_InRange (F_impl_InRange N)
noncomputable def es_impl_InRange (N : Nat) : List Entry := []
noncomputable def body_impl_InRange : Code := match Try.f55.body with | some c => c | none => .skip
noncomputable def L_impl_InRange (N n : Nat) (key : Nat) (S : St) (K : Ks) : Option Ret := none
theorem L0_impl_InRange (N key : Nat) (S : St) (K : Ks) : L_impl_InRange N 0 key S K = none := rfl
theorem ls_impl_InRange : loopsIn body_impl_InRange = [] := by kernel_rfl
theorem fn_impl_InRange (N : Nat) (x : AVals sg_impl_InRange) (kf : Ret → Option Ret) : F_impl_InRange N x kf = peFunc h_impl_InRange (Orc.of (es_impl_InRange N)) (L_impl_InRange N N) Try.f55 (ashape sg_impl_InRange x) kf := by kernel_rfl
theorem sd_impl_InRange (N : Nat) : Sound Try.prog 55 (run_impl_InRange N) := fun_ok2 (hh := h_impl_InRange) mixed tab_ok (es := es_impl_InRange N) trivial (fn := Try.f55) (body := body_impl_InRange) (by kernel_rfl) (by kernel_rfl) (by kernel_rfl) (by kernel_rfl) (by kernel_rfl) (Lf := L_impl_InRange N) (L0_impl_InRange N) ls_impl_InRange trivial (N := N) (by kernel_rfl) (fn_impl_InRange N) (.inl (by kernel_rfl))
/-! impl_Mod -/
noncomputable def h_impl_Mod : Hint := { tab, hn := [], loops := [], outs := [], ords := [] }
noncomputable def sg_impl_Mod : List AK := [.v (.int .i64) .k, .v (.int .i64) .k]
noncomputable def F_impl_Mod (N : Nat) (x : AVals sg_impl_Mod) (kf : Ret → Option Ret) : Option Ret := impl_Mod N x.1 x.2.1 (fun r0 => kf ⟨[⟨(.int .i64), .k, r0⟩], []⟩)
noncomputable def run_impl_Mod (N : Nat) := runOf sg_impl_Mod (F_impl_Mod N)
noncomputable def es_impl_Mod (N : Nat) : List Entry := [⟨55, [.val, .val, .val], (run_impl_InRange N)⟩]
noncomputable def body_impl_Mod : Code := match Try.f102.body with | some c => c | none => .skip
noncomputable def L_impl_Mod (N n : Nat) (key : Nat) (S : St) (K : Ks) : Option Ret := none
theorem L0_impl_Mod (N key : Nat) (S : St) (K : Ks) : L_impl_Mod N 0 key S K = none := rfl
theorem ls_impl_Mod : loopsIn body_impl_Mod = [] := by kernel_rfl
theorem fn_impl_Mod (N : Nat) (x : AVals sg_impl_Mod) (kf : Ret → Option Ret) : F_impl_Mod N x kf = peFunc h_impl_Mod (Orc.of (es_impl_Mod N)) (L_impl_Mod N N) Try.f102 (ashape sg_impl_Mod x) kf := by kernel_rfl
theorem sd_impl_Mod (N : Nat) : Sound Try.prog 102 (run_impl_Mod N) := fun_ok2 (hh := h_impl_Mod) mixed tab_ok (es := es_impl_Mod N) ⟨sd_impl_InRange N, trivial⟩ (fn := Try.f102) (body := body_impl_Mod) (by kernel_rfl) (by kernel_rfl) (by kernel_rfl) (by kernel_rfl) (by kernel_rfl) (Lf := L_impl_Mod N) (L0_impl_Mod N) ls_impl_Mod trivial (N := N) (by kernel_rfl) (fn_impl_Mod N) (.inl (by kernel_rfl))
/-! impl_fold -/
noncomputable def h_impl_fold : Hint := { tab, hn := [], loops := [], outs := [], ords := [] }
noncomputable def sg_impl_fold : List AK := [.v (.int .i64) .k, .v (.int .i64) .k]
noncomputable def F_impl_fold (N : Nat) (x : AVals sg_impl_fold) (kf : Ret → Option Ret) : Option Ret := impl_fold N x.1 x.2.1 (fun r0 => kf ⟨[⟨(.int .i64), .k, r0⟩], []⟩)
noncomputable def run_impl_fold (N : Nat) := runOf sg_impl_fold (F_impl_fold N)
noncomputable def es_impl_fold (N : Nat) : List Entry := [⟨102, [.val, .val], (run_impl_Mod N)⟩]
noncomputable def body_impl_fold : Code := match Try.f91.body with | some c => c | none => .skip
noncomputable def L_impl_fold (N n : Nat) (key : Nat) (S : St) (K : Ks) : Option Ret := none
theorem L0_impl_fold (N key : Nat) (S : St) (K : Ks) : L_impl_fold N 0 key S K = none := rfl
theorem ls_impl_fold : loopsIn body_impl_fold = [] := by kernel_rfl
theorem fn_impl_fold (N : Nat) (x : AVals sg_impl_fold) (kf : Ret → Option Ret) : F_impl_fold N x kf = peFunc h_impl_fold (Orc.of (es_impl_fold N)) (L_impl_fold N N) Try.f91 (ashape sg_impl_fold x) kf := by kernel_rfl
theorem sd_impl_fold (N : Nat) : Sound Try.prog 91 (run_impl_fold N) := fun_ok2 (hh := h_impl_fold) mixed tab_ok (es := es_impl_fold N) ⟨sd_impl_Mod N, trivial⟩ (fn := Try.f91) (body := body_impl_fold) (by kernel_rfl) (by kernel_rfl) (by kernel_rfl) (by kernel_rfl) (by kernel_rfl) (Lf := L_impl_fold N) (L0_impl_fold N) ls_impl_fold trivial (N := N) (by kernel_rfl) (fn_impl_fold N) (.inl (by kernel_rfl))
/-! impl_Hash -/
noncomputable def ks_impl_Hash_l3 : List Kd := [dK, dK, dK, .v (.int .i64) .k, dK, dK, .v (.sl (.int .i64)) .k, .v (.int .i64) .k, .v (.int .i64) .k, dK, dK, dK, dK, dK, dK, dK, dK]
noncomputable def ko_impl_Hash_l3_0 : List Kd := [dK, dK, dK, .v (.int .i64) .k, dK, dK, dK, dK, dK, dK, dK, dK, dK, dK, dK, dK, dK]
noncomputable def h_impl_Hash : Hint := { tab, hn := [], loops := [(3, ks_impl_Hash_l3)], outs := [(3, 2, ko_impl_Hash_l3_0)], ords := [] }
noncomputable def sg_impl_Hash : List AK := [.v (.sl (.int .i64)) .k]
noncomputable def F_impl_Hash (N : Nat) (x : AVals sg_impl_Hash) (kf : Ret → Option Ret) : Option Ret := impl_Hash N x.1 (fun r0 => kf ⟨[⟨(.int .i64), .k, r0⟩], []⟩)
noncomputable def run_impl_Hash (N : Nat) := runOf sg_impl_Hash (F_impl_Hash N)
noncomputable def es_impl_Hash (N : Nat) : List Entry := [⟨91, [.val, .val], (run_impl_fold N)⟩]
noncomputable def body_impl_Hash : Code := match Try.f70.body with | some c => c | none => .skip
noncomputable def L_impl_Hash (N n : Nat) (key : Nat) (S : St) (K : Ks) : Option Ret := bif Nat.beq key 3 then withVals ks_impl_Hash_l3 S (fun x => impl_Hash_l3 N x.2.1 x.2.2.1 n (fun z0 => K (.x 0) (shape ko_impl_Hash_l3_0 (z0, ()))) x.1 x.2.2.2.1) else none
theorem L0_impl_Hash (N key : Nat) (S : St) (K : Ks) : L_impl_Hash N 0 key S K = none := (bif0 (withVals0 fun _ => rfl) rfl)
noncomputable def c_impl_Hash_0 : Code := (loopsIn body_impl_Hash).getD 0 .skip
theorem ls_impl_Hash : loopsIn body_impl_Hash = [c_impl_Hash_0] := by kernel_rfl
theorem rd_impl_Hash_3 (N n : Nat) (x : Vals ks_impl_Hash_l3) (K : Ks) : L_impl_Hash N (n + 1) 3 (shape ks_impl_Hash_l3 x) (h_impl_Hash.onOut 3 K) = peRound h_impl_Hash (Orc.of (es_impl_Hash N)) (mixL (L_impl_Hash N) N n 3) c_impl_Hash_0 (shape ks_impl_Hash_l3 x) (h_impl_Hash.onOut 3 K) := by kernel_rfl
theorem fn_impl_Hash (N : Nat) (x : AVals sg_impl_Hash) (kf : Ret → Option Ret) : F_impl_Hash N x kf = peFunc h_impl_Hash (Orc.of (es_impl_Hash N)) (L_impl_Hash N N) Try.f70 (ashape sg_impl_Hash x) kf := by kernel_rfl
theorem sd_impl_Hash (N : Nat) : Sound Try.prog 70 (run_impl_Hash N) := fun_ok2 (hh := h_impl_Hash) mixed tab_ok (es := es_impl_Hash N) ⟨sd_impl_fold N, trivial⟩ (fn := Try.f70) (body := body_impl_Hash) (by kernel_rfl) (by kernel_rfl) (by kernel_rfl) (by kernel_rfl) (by kernel_rfl) (Lf := L_impl_Hash N) (L0_impl_Hash N) ls_impl_Hash (round_cons (key := 3) (ks := ks_impl_Hash_l3) (by kernel_rfl) (by kernel_rfl) (rd_impl_Hash_3 N) trivial) (N := N) (by kernel_rfl) (fn_impl_Hash N) (.inl (by kernel_rfl))
/-! impl_lineSeal -/
noncomputable def h_impl_lineSeal : Hint := { tab, hn := [], loops := [], outs := [], ords := [] }
noncomputable def sg_impl_lineSeal : List AK := [.v (.int .i64) .k, .v tQIIIIE .k]
noncomputable def F_impl_lineSeal (N : Nat) (x : AVals sg_impl_lineSeal) (kf : Ret → Option Ret) : Option Ret := impl_lineSeal N x.1 x.2.1 (fun r0 => kf ⟨[⟨(.int .i64), .k, r0⟩], []⟩)
noncomputable def run_impl_lineSeal (N : Nat) := runOf sg_impl_lineSeal (F_impl_lineSeal N)
noncomputable def es_impl_lineSeal (N : Nat) : List Entry := [⟨70, [.val], (run_impl_Hash N)⟩]
noncomputable def body_impl_lineSeal : Code := match Try.f56.body with | some c => c | none => .skip
noncomputable def L_impl_lineSeal (N n : Nat) (key : Nat) (S : St) (K : Ks) : Option Ret := none
theorem L0_impl_lineSeal (N key : Nat) (S : St) (K : Ks) : L_impl_lineSeal N 0 key S K = none := rfl
theorem ls_impl_lineSeal : loopsIn body_impl_lineSeal = [] := by kernel_rfl
theorem fn_impl_lineSeal (N : Nat) (x : AVals sg_impl_lineSeal) (kf : Ret → Option Ret) : F_impl_lineSeal N x kf = peFunc h_impl_lineSeal (Orc.of (es_impl_lineSeal N)) (L_impl_lineSeal N N) Try.f56 (ashape sg_impl_lineSeal x) kf := by kernel_rfl
theorem sd_impl_lineSeal (N : Nat) : Sound Try.prog 56 (run_impl_lineSeal N) := fun_ok2 (hh := h_impl_lineSeal) mixed tab_ok (es := es_impl_lineSeal N) ⟨sd_impl_Hash N, trivial⟩ (fn := Try.f56) (body := body_impl_lineSeal) (by kernel_rfl) (by kernel_rfl) (by kernel_rfl) (by kernel_rfl) (by kernel_rfl) (Lf := L_impl_lineSeal N) (L0_impl_lineSeal N) ls_impl_lineSeal trivial (N := N) (by kernel_rfl) (fn_impl_lineSeal N) (.inl (by kernel_rfl))
/-! impl_AreMinutes -/
noncomputable def ks_impl_AreMinutes_l5 : List Kd := [dK, dK, dK, .v (.int .i64) .k, dK, dK, dK, dK, dK, .v (.sl tQIIIIE) .k, .v (.int .i64) .k, .v (.int .i64) .k, dK, dK, dK, dK, dK, dK, dK, dK, dK, dK, dK, dK, dK, dK, dK, dK, dK, dK, dK, dK, dK, dK, dK, dK, dK, dK, dK, dK, dK, dK, dK, dK]
noncomputable def ko_impl_AreMinutes_l5_0 : List Kd := [dK, dK, dK, dK, dK, dK, dK, dK, dK, dK, dK, dK, dK, dK, dK, dK, dK, dK, dK, dK, dK, dK, dK, dK, dK, dK, dK, dK, dK, dK, dK, dK, dK, dK, dK, dK, dK, dK, dK, dK, dK, dK, dK, dK]
noncomputable def ko_impl_AreMinutes_l5_1 : List Kd := [dK, dK, .v .bool .k, dK, dK, dK, dK, dK, dK, dK, dK, dK, dK, dK, dK, dK, dK, dK, dK, dK, dK, dK, dK, dK, dK, dK, dK, dK, dK, dK, dK, dK, dK, dK, dK, dK, dK, dK, dK, dK, dK, dK, dK, dK]
noncomputable def h_impl_AreMinutes : Hint := { tab, hn := [], loops := [(5, ks_impl_AreMinutes_l5)], outs := [(5, 2, ko_impl_AreMinutes_l5_0), (5, 1, ko_impl_AreMinutes_l5_1)], ords := [(7, (OT.seq [0, 1, 2, 3, 4, 5, 6, 7, 8, 9, 10, 11, 12, 13, 14, 15, 16, 17, 18, 19, 20, 21, 22, 23, 24] .done))] }
noncomputable def sg_impl_AreMinutes : List AK := [.v (.sl tQIIIIE) .k]
noncomputable def F_impl_AreMinutes (N : Nat) (x : AVals sg_impl_AreMinutes) (kf : Ret → Option Ret) : Option Ret := impl_AreMinutes N x.1 (fun r0 => kf ⟨[⟨.bool, .k, r0⟩], []⟩)
noncomputable def run_impl_AreMinutes (N : Nat) := runOf sg_impl_AreMinutes (F_impl_AreMinutes N)
noncomputable def es_impl_AreMinutes (N : Nat) : List Entry := [⟨55, [.val, .val, .val], (run_impl_InRange N)⟩, ⟨56, [.val, .val], (run_impl_lineSeal N)⟩]
noncomputable def body_impl_AreMinutes : Code := match Try.f36.body with | some c => c | none => .skip
noncomputable def L_impl_AreMinutes (N n : Nat) (key : Nat) (S : St) (K : Ks) : Option Ret := bif Nat.beq key 5 then withVals ks_impl_AreMinutes_l5 S (fun x => impl_AreMinutes_l5 N x.2.1 x.2.2.1 n (K (.x 0) (shape ko_impl_AreMinutes_l5_0 ())) (fun z0 => K .r (shape ko_impl_AreMinutes_l5_1 (z0, ()))) x.1 x.2.2.2.1) else none
theorem L0_impl_AreMinutes (N key : Nat) (S : St) (K : Ks) : L_impl_AreMinutes N 0 key S K = none := (bif0 (withVals0 fun _ => rfl) rfl)
noncomputable def c_impl_AreMinutes_0 : Code := (loopsIn body_impl_AreMinutes).getD 0 .skip
theorem ls_impl_AreMinutes : loopsIn body_impl_AreMinutes = [c_impl_AreMinutes_0] := by kernel_rfl
theorem rd_impl_AreMinutes_5 (N n : Nat) (x : Vals ks_impl_AreMinutes_l5) (K : Ks) : L_impl_AreMinutes N (n + 1) 5 (shape ks_impl_AreMinutes_l5 x) (h_impl_AreMinutes.onOut 5 K) = peRound h_impl_AreMinutes (Orc.of (es_impl_AreMinutes N)) (mixL (L_impl_AreMinutes N) N n 5) c_impl_AreMinutes_0 (shape ks_impl_AreMinutes_l5 x) (h_impl_AreMinutes.onOut 5 K) := by kernel_rfl
theorem fn_impl_AreMinutes (N : Nat) (x : AVals sg_impl_AreMinutes) (kf : Ret → Option Ret) : F_impl_AreMinutes N x kf = peFunc h_impl_AreMinutes (Orc.of (es_impl_AreMinutes N)) (L_impl_AreMinutes N N) Try.f36 (ashape sg_impl_AreMinutes x) kf := by kernel_rfl
theorem sd_impl_AreMinutes (N : Nat) : Sound Try.prog 36 (run_impl_AreMinutes N) := fun_ok2 (hh := h_impl_AreMinutes) mixed tab_ok (es := es_impl_AreMinutes N) ⟨sd_impl_InRange N, ⟨sd_impl_lineSeal N, trivial⟩⟩ (fn := Try.f36) (body := body_impl_AreMinutes) (by kernel_rfl) (by kernel_rfl) (by kernel_rfl) (by kernel_rfl) (by kernel_rfl) (Lf := L_impl_AreMinutes N) (L0_impl_AreMinutes N) ls_impl_AreMinutes (round_cons (key := 5) (ks := ks_impl_AreMinutes_l5) (by kernel_rfl) (by kernel_rfl) (rd_impl_AreMinutes_5 N) trivial) (N := N) (by kernel_rfl) (fn_impl_AreMinutes N) (.inl (by kernel_rfl))
/-! slices_Sort_int: told by the shelf -/
def ren_slices_Sort_int : Go.Shelf.Ren := ⟨fun n => bif Nat.beq n 125 then 58 else bif Nat.beq n 128 then 80 else bif Nat.beq n 129 then 81 else bif Nat.beq n 189 then 37 else bif Nat.beq n 215 then 97 else bif Nat.beq n 216 then 77 else bif Nat.beq n 257 then 57 else bif Nat.beq n 294 then 71 else bif Nat.beq n 295 then 72 else bif Nat.beq n 296 then 73 else bif Nat.beq n 297 then 74 else bif Nat.beq n 298 then 75 else bif Nat.beq n 299 then 76 else bif Nat.beq n 300 then 78 else bif Nat.beq n 301 then 79 else bif Nat.beq n 328 then 92 else bif Nat.beq n 329 then 93 else bif Nat.beq n 330 then 94 else bif Nat.beq n 331 then 95 else bif Nat.beq n 332 then 96 else bif Nat.beq n 343 then 103 else n, fun n => bif Nat.beq n 0 then 0 else bif Nat.beq n 3 then 3 else bif Nat.beq n 4 then 4 else bif Nat.beq n 5 then 5 else bif Nat.beq n 9 then 9 else bif Nat.beq n 28 then 24 else bif Nat.beq n 46 then 76 else bif Nat.beq n 51 then 94 else bif Nat.beq n 53 then 80 else bif Nat.beq n 131 then 91 else bif Nat.beq n 182 then 85 else bif Nat.beq n 183 then 86 else bif Nat.beq n 218 then 100 else bif Nat.beq n 222 then 104 else bif Nat.beq n 228 then 108 else bif Nat.beq n 229 then 109 else n, fun n => n⟩
theorem lays_slices_Sort_int : Lays.n189 Try.prog ren_slices_Sort_int := { mixed := by kernel_rfl, f125 := by kernel_rfl, f128 := by kernel_rfl, f129 := by kernel_rfl, f189 := by kernel_rfl, f215 := by kernel_rfl, f216 := by kernel_rfl, f257 := by kernel_rfl, f294 := by kernel_rfl, f295 := by kernel_rfl, f296 := by kernel_rfl, f297 := by kernel_rfl, f298 := by kernel_rfl, f299 := by kernel_rfl, f300 := by kernel_rfl, f301 := by kernel_rfl, f328 := by kernel_rfl, f329 := by kernel_rfl, f330 := by kernel_rfl, f331 := by kernel_rfl, f332 := by kernel_rfl, f343 := by kernel_rfl, t0 := by kernel_rfl, a0 := fun w => by kernel_rfl, z0 := fun w => by kernel_rfl, v0 := fun w => by kernel_rfl, t3 := by kernel_rfl, a3 := fun w => by kernel_rfl, z3 := fun w => by kernel_rfl, v3 := fun w => by kernel_rfl, t4 := by kernel_rfl, a4 := fun w => by kernel_rfl, z4 := fun w => by kernel_rfl, v4 := fun w => by kernel_rfl, t5 := by kernel_rfl, a5 := fun w => by kernel_rfl, z5 := fun w => by kernel_rfl, v5 := fun w => by kernel_rfl, t9 := by kernel_rfl, a9 := fun w => by kernel_rfl, z9 := fun w => by kernel_rfl, v9 := fun w => by kernel_rfl, t28 := by kernel_rfl, a28 := fun w => by kernel_rfl, z28 := fun w => by kernel_rfl, v28 := fun w => by kernel_rfl, t46 := by kernel_rfl, a46 := fun w => by kernel_rfl, z46 := fun w => by kernel_rfl, v46 := fun w => by kernel_rfl, t51 := by kernel_rfl, a51 := fun w => by kernel_rfl, z51 := fun w => by kernel_rfl, v51 := fun w => by kernel_rfl, t53 := by kernel_rfl, a53 := fun w => by kernel_rfl, z53 := fun w => by kernel_rfl, v53 := fun w => by kernel_rfl, t131 := by kernel_rfl, a131 := fun w => by kernel_rfl, z131 := fun w => by kernel_rfl, v131 := fun w => by kernel_rfl, t182 := by kernel_rfl, a182 := fun w => by kernel_rfl, z182 := fun w => by kernel_rfl, v182 := fun w => by kernel_rfl, t183 := by kernel_rfl, a183 := fun w => by kernel_rfl, z183 := fun w => by kernel_rfl, v183 := fun w => by kernel_rfl, t218 := by kernel_rfl, a218 := fun w => by kernel_rfl, z218 := fun w => by kernel_rfl, v218 := fun w => by kernel_rfl, t222 := by kernel_rfl, a222 := fun w => by kernel_rfl, z222 := fun w => by kernel_rfl, v222 := fun w => by kernel_rfl, t228 := by kernel_rfl, a228 := fun w => by kernel_rfl, z228 := fun w => by kernel_rfl, v228 := fun w => by kernel_rfl, t229 := by kernel_rfl, a229 := fun w => by kernel_rfl, z229 := fun w => by kernel_rfl, v229 := fun w => by kernel_rfl }
noncomputable def sg_slices_Sort_int : List AK := [.v (.sl (.int .i64)) (.o 3 (some 0) .k)]
noncomputable def F_slices_Sort_int (N : Nat) (x : AVals sg_slices_Sort_int) (kf : Ret → Option Ret) : Option Ret := slices_Sort_int N x.1 (fun z => kf ⟨[], [⟨(.sl (.int .i64)), (.o 3 (some 0) .k), z⟩]⟩)
noncomputable def run_slices_Sort_int (N : Nat) := runOf sg_slices_Sort_int (F_slices_Sort_int N)
theorem sd_slices_Sort_int (N : Nat) : Sound Try.prog 37 (run_slices_Sort_int N) := sound_sort lays_slices_Sort_int 3
/-! laws_eqIntS -/
noncomputable def ks_laws_eqIntS_l4 : List Kd := [.v (.sl (.int .i64)) .k, .v (.sl (.int .i64)) .k, dK, dK, dK, .v (.int .i64) .k, dK, dK, dK, dK, dK, dK, dK, dK, dK, dK, dK, dK, dK, dK, dK, dK, dK, dK, dK, dK]
noncomputable def ko_laws_eqIntS_l4_0 : List Kd := [dK, dK, dK, dK, dK, dK, dK, dK, dK, dK, dK, dK, dK, dK, dK, dK, dK, dK, dK, dK, dK, dK, dK, dK, dK, dK]
noncomputable def ko_laws_eqIntS_l4_1 : List Kd := [dK, dK, dK, dK, .v .bool .k, dK, dK, dK, dK, dK, dK, dK, dK, dK, dK, dK, dK, dK, dK, dK, dK, dK, dK, dK, dK, dK]
noncomputable def h_laws_eqIntS : Hint := { tab, hn := [], loops := [(4, ks_laws_eqIntS_l4)], outs := [(4, 2, ko_laws_eqIntS_l4_0), (4, 1, ko_laws_eqIntS_l4_1)], ords := [(6, (OT.seq [0, 1, 2, 3, 4, 5, 6, 7, 8] .done))] }
noncomputable def sg_laws_eqIntS : List AK := [.v (.sl (.int .i64)) .k, .v (.sl (.int .i64)) .k]
noncomputable def F_laws_eqIntS (N : Nat) (x : AVals sg_laws_eqIntS) (kf : Ret → Option Ret) : Option Ret := laws_eqIntS N x.1 x.2.1 (fun r0 => kf ⟨[⟨.bool, .k, r0⟩], []⟩)
noncomputable def run_laws_eqIntS (N : Nat) := runOf sg_laws_eqIntS (F_laws_eqIntS N)
noncomputable def es_laws_eqIntS (N : Nat) : List Entry := []
noncomputable def body_laws_eqIntS : Code := match Try.f12.body with | some c => c | none => .skip
noncomputable def L_laws_eqIntS (N n : Nat) (key : Nat) (S : St) (K : Ks) : Option Ret := bif Nat.beq key 4 then withVals ks_laws_eqIntS_l4 S (fun x => laws_eqIntS_l4 x.1 x.2.1 n (K (.x 0) (shape ko_laws_eqIntS_l4_0 ())) (fun z0 => K .r (shape ko_laws_eqIntS_l4_1 (z0, ()))) x.2.2.1) else none
theorem L0_laws_eqIntS (N key : Nat) (S : St) (K : Ks) : L_laws_eqIntS N 0 key S K = none := (bif0 (withVals0 fun _ => rfl) rfl)
noncomputable def c_laws_eqIntS_0 : Code := (loopsIn body_laws_eqIntS).getD 0 .skip
theorem ls_laws_eqIntS : loopsIn body_laws_eqIntS = [c_laws_eqIntS_0] := by kernel_rfl
theorem rd_laws_eqIntS_4 (N n : Nat) (x : Vals ks_laws_eqIntS_l4) (K : Ks) : L_laws_eqIntS N (n + 1) 4 (shape ks_laws_eqIntS_l4 x) (h_laws_eqIntS.onOut 4 K) = peRound h_laws_eqIntS (Orc.of (es_laws_eqIntS N)) (mixL (L_laws_eqIntS N) N n 4) c_laws_eqIntS_0 (shape ks_laws_eqIntS_l4 x) (h_laws_eqIntS.onOut 4 K) := by kernel_rfl
theorem fn_laws_eqIntS (N : Nat) (x : AVals sg_laws_eqIntS) (kf : Ret → Option Ret) : F_laws_eqIntS N x kf = peFunc h_laws_eqIntS (Orc.of (es_laws_eqIntS N)) (L_laws_eqIntS N N) Try.f12 (ashape sg_laws_eqIntS x) kf := by kernel_rfl
theorem sd_laws_eqIntS (N : Nat) : Sound Try.prog 12 (run_laws_eqIntS N) := fun_ok2 (hh := h_laws_eqIntS) mixed tab_ok (es := es_laws_eqIntS N) trivial (fn := Try.f12) (body := body_laws_eqIntS) (by kernel_rfl) (by kernel_rfl) (by kernel_rfl) (by kernel_rfl) (by kernel_rfl) (Lf := L_laws_eqIntS N) (L0_laws_eqIntS N) ls_laws_eqIntS (round_cons (key := 4) (ks := ks_laws_eqIntS_l4) (by kernel_rfl) (by kernel_rfl) (rd_laws_eqIntS_4 N) trivial) (N := N) (by kernel_rfl) (fn_laws_eqIntS N) (.inl (by kernel_rfl))
/-! laws_eqLine -/
noncomputable def h_laws_eqLine : Hint := { tab, hn := [], loops := [], outs := [], ords := [] }
noncomputable def sg_laws_eqLine : List AK := [.v tQIIIIE .k, .v tQIIIIE .k]
noncomputable def F_laws_eqLine (N : Nat) (x : AVals sg_laws_eqLine) (kf : Ret → Option Ret) : Option Ret := laws_eqLine N x.1 x.2.1 (fun r0 => kf ⟨[⟨.bool, .k, r0⟩], []⟩)
noncomputable def run_laws_eqLine (N : Nat) := runOf sg_laws_eqLine (F_laws_eqLine N)
noncomputable def es_laws_eqLine (N : Nat) : List Entry := []
noncomputable def body_laws_eqLine : Code := match Try.f39.body with | some c => c | none => .skip
noncomputable def L_laws_eqLine (N n : Nat) (key : Nat) (S : St) (K : Ks) : Option Ret := none
theorem L0_laws_eqLine (N key : Nat) (S : St) (K : Ks) : L_laws_eqLine N 0 key S K = none := rfl
theorem ls_laws_eqLine : loopsIn body_laws_eqLine = [] := by kernel_rfl
theorem fn_laws_eqLine (N : Nat) (x : AVals sg_laws_eqLine) (kf : Ret → Option Ret) : F_laws_eqLine N x kf = peFunc h_laws_eqLine (Orc.of (es_laws_eqLine N)) (L_laws_eqLine N N) Try.f39 (ashape sg_laws_eqLine x) kf := by kernel_rfl
theorem sd_laws_eqLine (N : Nat) : Sound Try.prog 39 (run_laws_eqLine N) := fun_ok2 (hh := h_laws_eqLine) mixed tab_ok (es := es_laws_eqLine N) trivial (fn := Try.f39) (body := body_laws_eqLine) (by kernel_rfl) (by kernel_rfl) (by kernel_rfl) (by kernel_rfl) (by kernel_rfl) (Lf := L_laws_eqLine N) (L0_laws_eqLine N) ls_laws_eqLine trivial (N := N) (by kernel_rfl) (fn_laws_eqLine N) (.inl (by kernel_rfl))
/-! laws_eqLineS -/
noncomputable def ks_laws_eqLineS_l4 : List Kd := [.v (.sl tQIIIIE) .k, .v (.sl tQIIIIE) .k, dK, dK, dK, .v (.int .i64) .k, dK, dK, dK, dK, dK, dK, dK, dK, dK, dK, dK, dK, dK, dK, dK, dK, dK, dK, dK, dK, dK]
noncomputable def ko_laws_eqLineS_l4_0 : List Kd := [dK, dK, dK, dK, dK, dK, dK, dK, dK, dK, dK, dK, dK, dK, dK, dK, dK, dK, dK, dK, dK, dK, dK, dK, dK, dK, dK]
noncomputable def ko_laws_eqLineS_l4_1 : List Kd := [dK, dK, dK, dK, .v .bool .k, dK, dK, dK, dK, dK, dK, dK, dK, dK, dK, dK, dK, dK, dK, dK, dK, dK, dK, dK, dK, dK, dK]
noncomputable def h_laws_eqLineS : Hint := { tab, hn := [], loops := [(4, ks_laws_eqLineS_l4)], outs := [(4, 2, ko_laws_eqLineS_l4_0), (4, 1, ko_laws_eqLineS_l4_1)], ords := [(6, (OT.seq [0, 1, 2, 3, 4, 5, 6, 7, 8, 9] .done))] }
noncomputable def sg_laws_eqLineS : List AK := [.v (.sl tQIIIIE) .k, .v (.sl tQIIIIE) .k]
noncomputable def F_laws_eqLineS (N : Nat) (x : AVals sg_laws_eqLineS) (kf : Ret → Option Ret) : Option Ret := laws_eqLineS N x.1 x.2.1 (fun r0 => kf ⟨[⟨.bool, .k, r0⟩], []⟩)
noncomputable def run_laws_eqLineS (N : Nat) := runOf sg_laws_eqLineS (F_laws_eqLineS N)
noncomputable def es_laws_eqLineS (N : Nat) : List Entry := [⟨39, [.val, .val], (run_laws_eqLine N)⟩]
noncomputable def body_laws_eqLineS : Code := match Try.f19.body with | some c => c | none => .skip
noncomputable def L_laws_eqLineS (N n : Nat) (key : Nat) (S : St) (K : Ks) : Option Ret := bif Nat.beq key 4 then withVals ks_laws_eqLineS_l4 S (fun x => laws_eqLineS_l4 N x.1 x.2.1 n (K (.x 0) (shape ko_laws_eqLineS_l4_0 ())) (fun z0 => K .r (shape ko_laws_eqLineS_l4_1 (z0, ()))) x.2.2.1) else none
theorem L0_laws_eqLineS (N key : Nat) (S : St) (K : Ks) : L_laws_eqLineS N 0 key S K = none := (bif0 (withVals0 fun _ => rfl) rfl)
noncomputable def c_laws_eqLineS_0 : Code := (loopsIn body_laws_eqLineS).getD 0 .skip
theorem ls_laws_eqLineS : loopsIn body_laws_eqLineS = [c_laws_eqLineS_0] := by kernel_rfl
theorem rd_laws_eqLineS_4 (N n : Nat) (x : Vals ks_laws_eqLineS_l4) (K : Ks) : L_laws_eqLineS N (n + 1) 4 (shape ks_laws_eqLineS_l4 x) (h_laws_eqLineS.onOut 4 K) = peRound h_laws_eqLineS (Orc.of (es_laws_eqLineS N)) (mixL (L_laws_eqLineS N) N n 4) c_laws_eqLineS_0 (shape ks_laws_eqLineS_l4 x) (h_laws_eqLineS.onOut 4 K) := by kernel_rfl
theorem fn_laws_eqLineS (N : Nat) (x : AVals sg_laws_eqLineS) (kf : Ret → Option Ret) : F_laws_eqLineS N x kf = peFunc h_laws_eqLineS (Orc.of (es_laws_eqLineS N)) (L_laws_eqLineS N N) Try.f19 (ashape sg_laws_eqLineS x) kf := by kernel_rfl
theorem sd_laws_eqLineS (N : Nat) : Sound Try.prog 19 (run_laws_eqLineS N) := fun_ok2 (hh := h_laws_eqLineS) mixed tab_ok (es := es_laws_eqLineS N) ⟨sd_laws_eqLine N, trivial⟩ (fn := Try.f19) (body := body_laws_eqLineS) (by kernel_rfl) (by kernel_rfl) (by kernel_rfl) (by kernel_rfl) (by kernel_rfl) (Lf := L_laws_eqLineS N) (L0_laws_eqLineS N) ls_laws_eqLineS (round_cons (key := 4) (ks := ks_laws_eqLineS_l4) (by kernel_rfl) (by kernel_rfl) (rd_laws_eqLineS_4 N) trivial) (N := N) (by kernel_rfl) (fn_laws_eqLineS N) (.inl (by kernel_rfl))
/-! laws_markLineS -/
noncomputable def ks_laws_markLineS_l2 : List Kd := [.v (.sl tQIIIIE) (.o 57 (some 0) .k), .v (.int .i64) .k, dK, dK, dK, .v (.int .i64) .k, dK, dK, dK, dK, dK, dK, dK, dK, dK, dK, dK, dK, dK, dK, dK, dK, dK, dK, dK, dK, dK, dK, dK, dK, dK, dK, dK, dK, dK, dK, dK, dK, dK, dK, dK]
noncomputable def ko_laws_markLineS_l2_0 : List Kd := [.v (.sl tQIIIIE) (.o 57 (some 0) .k), .v (.int .i64) .k, dK, dK, dK, dK, dK, dK, dK, dK, dK, dK, dK, dK, dK, dK, dK, dK, dK, dK, dK, dK, dK, dK, dK, dK, dK, dK, dK, dK, dK, dK, dK, dK, dK, dK, dK, dK, dK, dK, dK]
noncomputable def h_laws_markLineS : Hint := { tab, hn := [], loops := [(2, ks_laws_markLineS_l2)], outs := [(2, 2, ko_laws_markLineS_l2_0)], ords := [], lent := some (0, false) }
noncomputable def sg_laws_markLineS : List AK := [.v (.sl tQIIIIE) (.o 57 (some 0) .k), .v (.int .i64) .k]
noncomputable def F_laws_markLineS (N : Nat) (x : AVals sg_laws_markLineS) (kf : Ret → Option Ret) : Option Ret := laws_markLineS N x.1 x.2.1 (fun r0 z => kf ⟨[⟨(.int .i64), .k, r0⟩], [⟨(.sl tQIIIIE), (.o 57 (some 0) .k), z⟩]⟩)
noncomputable def run_laws_markLineS (N : Nat) := runOf sg_laws_markLineS (F_laws_markLineS N)
noncomputable def es_laws_markLineS (N : Nat) : List Entry := []
noncomputable def body_laws_markLineS : Code := match Try.f20.body with | some c => c | none => .skip
noncomputable def L_laws_markLineS (N n : Nat) (key : Nat) (S : St) (K : Ks) : Option Ret := bif Nat.beq key 2 then withVals ks_laws_markLineS_l2 S (fun x => laws_markLineS_l2 n (fun z0 z1 => K (.x 0) (shape ko_laws_markLineS_l2_0 (z0, z1, ()))) x.1 x.2.1 x.2.2.1) else none
theorem L0_laws_markLineS (N key : Nat) (S : St) (K : Ks) : L_laws_markLineS N 0 key S K = none := (bif0 (withVals0 fun _ => rfl) rfl)
noncomputable def c_laws_markLineS_0 : Code := (loopsIn body_laws_markLineS).getD 0 .skip
theorem ls_laws_markLineS : loopsIn body_laws_markLineS = [c_laws_markLineS_0] := by kernel_rfl
theorem rd_laws_markLineS_2 (N n : Nat) (x : Vals ks_laws_markLineS_l2) (K : Ks) : L_laws_markLineS N (n + 1) 2 (shape ks_laws_markLineS_l2 x) (h_laws_markLineS.onOut 2 K) = peRound h_laws_markLineS (Orc.of (es_laws_markLineS N)) (mixL (L_laws_markLineS N) N n 2) c_laws_markLineS_0 (shape ks_laws_markLineS_l2 x) (h_laws_markLineS.onOut 2 K) := by kernel_rfl
theorem fn_laws_markLineS (N : Nat) (x : AVals sg_laws_markLineS) (kf : Ret → Option Ret) : F_laws_markLineS N x kf = peFunc h_laws_markLineS (Orc.of (es_laws_markLineS N)) (L_laws_markLineS N N) Try.f20 (ashape sg_laws_markLineS x) kf := by kernel_rfl
theorem sd_laws_markLineS (N : Nat) : Sound Try.prog 20 (run_laws_markLineS N) := fun_ok2 (hh := h_laws_markLineS) mixed tab_ok (es := es_laws_markLineS N) trivial (fn := Try.f20) (body := body_laws_markLineS) (by kernel_rfl) (by kernel_rfl) (by kernel_rfl) (by kernel_rfl) (by kernel_rfl) (Lf := L_laws_markLineS N) (L0_laws_markLineS N) ls_laws_markLineS (round_cons (key := 2) (ks := ks_laws_markLineS_l2) (by kernel_rfl) (by kernel_rfl) (rd_laws_markLineS_2 N) trivial) (N := N) (by kernel_rfl) (fn_laws_markLineS N) (.inl (by kernel_rfl))
/-! laws_markIntS -/
noncomputable def ks_laws_markIntS_l2 : List Kd := [.v (.sl (.int .i64)) (.o 3 (some 0) .k), .v (.int .i64) .k, dK, dK, dK, .v (.int .i64) .k, dK, dK, dK, dK, dK, dK, dK, dK, dK, dK, dK, dK, dK]
noncomputable def ko_laws_markIntS_l2_0 : List Kd := [.v (.sl (.int .i64)) (.o 3 (some 0) .k), .v (.int .i64) .k, dK, dK, dK, dK, dK, dK, dK, dK, dK, dK, dK, dK, dK, dK, dK, dK, dK]
noncomputable def h_laws_markIntS : Hint := { tab, hn := [], loops := [(2, ks_laws_markIntS_l2)], outs := [(2, 2, ko_laws_markIntS_l2_0)], ords := [], lent := some (0, false) }
noncomputable def sg_laws_markIntS : List AK := [.v (.sl (.int .i64)) (.o 3 (some 0) .k), .v (.int .i64) .k]
noncomputable def F_laws_markIntS (N : Nat) (x : AVals sg_laws_markIntS) (kf : Ret → Option Ret) : Option Ret := laws_markIntS N x.1 x.2.1 (fun r0 z => kf ⟨[⟨(.int .i64), .k, r0⟩], [⟨(.sl (.int .i64)), (.o 3 (some 0) .k), z⟩]⟩)
noncomputable def run_laws_markIntS (N : Nat) := runOf sg_laws_markIntS (F_laws_markIntS N)
noncomputable def es_laws_markIntS (N : Nat) : List Entry := []
noncomputable def body_laws_markIntS : Code := match Try.f13.body with | some c => c | none => .skip
noncomputable def L_laws_markIntS (N n : Nat) (key : Nat) (S : St) (K : Ks) : Option Ret := bif Nat.beq key 2 then withVals ks_laws_markIntS_l2 S (fun x => laws_markIntS_l2 n (fun z0 z1 => K (.x 0) (shape ko_laws_markIntS_l2_0 (z0, z1, ()))) x.1 x.2.1 x.2.2.1) else none
theorem L0_laws_markIntS (N key : Nat) (S : St) (K : Ks) : L_laws_markIntS N 0 key S K = none := (bif0 (withVals0 fun _ => rfl) rfl)
noncomputable def c_laws_markIntS_0 : Code := (loopsIn body_laws_markIntS).getD 0 .skip
theorem ls_laws_markIntS : loopsIn body_laws_markIntS = [c_laws_markIntS_0] := by kernel_rfl
theorem rd_laws_markIntS_2 (N n : Nat) (x : Vals ks_laws_markIntS_l2) (K : Ks) : L_laws_markIntS N (n + 1) 2 (shape ks_laws_markIntS_l2 x) (h_laws_markIntS.onOut 2 K) = peRound h_laws_markIntS (Orc.of (es_laws_markIntS N)) (mixL (L_laws_markIntS N) N n 2) c_laws_markIntS_0 (shape ks_laws_markIntS_l2 x) (h_laws_markIntS.onOut 2 K) := by kernel_rfl
theorem fn_laws_markIntS (N : Nat) (x : AVals sg_laws_markIntS) (kf : Ret → Option Ret) : F_laws_markIntS N x kf = peFunc h_laws_markIntS (Orc.of (es_laws_markIntS N)) (L_laws_markIntS N N) Try.f13 (ashape sg_laws_markIntS x) kf := by kernel_rfl
theorem sd_laws_markIntS (N : Nat) : Sound Try.prog 13 (run_laws_markIntS N) := fun_ok2 (hh := h_laws_markIntS) mixed tab_ok (es := es_laws_markIntS N) trivial (fn := Try.f13) (body := body_laws_markIntS) (by kernel_rfl) (by kernel_rfl) (by kernel_rfl) (by kernel_rfl) (by kernel_rfl) (Lf := L_laws_markIntS N) (L0_laws_markIntS N) ls_laws_markIntS (round_cons (key := 2) (ks := ks_laws_markIntS_l2) (by kernel_rfl) (by kernel_rfl) (rd_laws_markIntS_2 N) trivial) (N := N) (by kernel_rfl) (fn_laws_markIntS N) (.inl (by kernel_rfl))
/-! laws_heldIntS -/
noncomputable def ks_laws_heldIntS_l2 : List Kd := [.v (.sl (.int .i64)) .k, .v (.int .i64) .k, dK, dK, dK, .v (.int .i64) .k, dK, dK, dK, dK, dK, dK, dK, dK, dK, dK, dK, dK, dK, dK, dK]
noncomputable def ko_laws_heldIntS_l2_0 : List Kd := [dK, .v (.int .i64) .k, dK, dK, dK, dK, dK, dK, dK, dK, dK, dK, dK, dK, dK, dK, dK, dK, dK, dK, dK]
noncomputable def ko_laws_heldIntS_l2_1 : List Kd := [dK, dK, dK, dK, .v (.int .i64) .k, dK, dK, dK, dK, dK, dK, dK, dK, dK, dK, dK, dK, dK, dK, dK, dK]
noncomputable def h_laws_heldIntS : Hint := { tab, hn := [], loops := [(2, ks_laws_heldIntS_l2)], outs := [(2, 2, ko_laws_heldIntS_l2_0), (2, 1, ko_laws_heldIntS_l2_1)], ords := [] }
noncomputable def sg_laws_heldIntS : List AK := [.v (.sl (.int .i64)) .k, .v (.int .i64) .k]
noncomputable def F_laws_heldIntS (N : Nat) (x : AVals sg_laws_heldIntS) (kf : Ret → Option Ret) : Option Ret := laws_heldIntS N x.1 x.2.1 (fun r0 => kf ⟨[⟨(.int .i64), .k, r0⟩], []⟩)
noncomputable def run_laws_heldIntS (N : Nat) := runOf sg_laws_heldIntS (F_laws_heldIntS N)
noncomputable def es_laws_heldIntS (N : Nat) : List Entry := []
noncomputable def body_laws_heldIntS : Code := match Try.f14.body with | some c => c | none => .skip
noncomputable def L_laws_heldIntS (N n : Nat) (key : Nat) (S : St) (K : Ks) : Option Ret := bif Nat.beq key 2 then withVals ks_laws_heldIntS_l2 S (fun x => laws_heldIntS_l2 x.1 n (fun z0 => K (.x 0) (shape ko_laws_heldIntS_l2_0 (z0, ()))) (fun z0 => K .r (shape ko_laws_heldIntS_l2_1 (z0, ()))) x.2.1 x.2.2.1) else none
theorem L0_laws_heldIntS (N key : Nat) (S : St) (K : Ks) : L_laws_heldIntS N 0 key S K = none := (bif0 (withVals0 fun _ => rfl) rfl)
noncomputable def c_laws_heldIntS_0 : Code := (loopsIn body_laws_heldIntS).getD 0 .skip
theorem ls_laws_heldIntS : loopsIn body_laws_heldIntS = [c_laws_heldIntS_0] := by kernel_rfl
theorem rd_laws_heldIntS_2 (N n : Nat) (x : Vals ks_laws_heldIntS_l2) (K : Ks) : L_laws_heldIntS N (n + 1) 2 (shape ks_laws_heldIntS_l2 x) (h_laws_heldIntS.onOut 2 K) = peRound h_laws_heldIntS (Orc.of (es_laws_heldIntS N)) (mixL (L_laws_heldIntS N) N n 2) c_laws_heldIntS_0 (shape ks_laws_heldIntS_l2 x) (h_laws_heldIntS.onOut 2 K) := by kernel_rfl
theorem fn_laws_heldIntS (N : Nat) (x : AVals sg_laws_heldIntS) (kf : Ret → Option Ret) : F_laws_heldIntS N x kf = peFunc h_laws_heldIntS (Orc.of (es_laws_heldIntS N)) (L_laws_heldIntS N N) Try.f14 (ashape sg_laws_heldIntS x) kf := by kernel_rfl
theorem sd_laws_heldIntS (N : Nat) : Sound Try.prog 14 (run_laws_heldIntS N) := fun_ok2 (hh := h_laws_heldIntS) mixed tab_ok (es := es_laws_heldIntS N) trivial (fn := Try.f14) (body := body_laws_heldIntS) (by kernel_rfl) (by kernel_rfl) (by kernel_rfl) (by kernel_rfl) (by kernel_rfl) (Lf := L_laws_heldIntS N) (L0_laws_heldIntS N) ls_laws_heldIntS (round_cons (key := 2) (ks := ks_laws_heldIntS_l2) (by kernel_rfl) (by kernel_rfl) (rd_laws_heldIntS_2 N) trivial) (N := N) (by kernel_rfl) (fn_laws_heldIntS N) (.inl (by kernel_rfl))
/-! spec_l24Without -/
noncomputable def ks_spec_l24Without_l3 : List Kd := [.v (.sl (.int .i64)) .k, .v (.int .i64) .k, dK, dK, dK, .v (.sl (.int .i64)) (.o 3 none .k), .v (.int .i64) .k, dK, dK, dK, dK, dK, dK, dK, dK, dK, dK, dK, dK, dK, dK, dK, dK, dK, dK, dK, dK, dK]
noncomputable def ko_spec_l24Without_l3_0 : List Kd := [dK, dK, dK, dK, dK, .v (.sl (.int .i64)) (.o 3 none .k), dK, dK, dK, dK, dK, dK, dK, dK, dK, dK, dK, dK, dK, dK, dK, dK, dK, dK, dK, dK, dK, dK]
noncomputable def h_spec_l24Without : Hint := { tab, hn := [], loops := [(3, ks_spec_l24Without_l3)], outs := [(3, 2, ko_spec_l24Without_l3_0)], ords := [] }
noncomputable def sg_spec_l24Without : List AK := [.v (.sl (.int .i64)) .k, .v (.int .i64) .k]
noncomputable def F_spec_l24Without (N : Nat) (x : AVals sg_spec_l24Without) (kf : Ret → Option Ret) : Option Ret := spec_l24Without N x.1 x.2.1 (fun r0 => kf ⟨[⟨(.sl (.int .i64)), (.o 3 none .k), r0⟩], []⟩)
noncomputable def run_spec_l24Without (N : Nat) := runOf sg_spec_l24Without (F_spec_l24Without N)
noncomputable def es_spec_l24Without (N : Nat) : List Entry := []
noncomputable def body_spec_l24Without : Code := match Try.f40.body with | some c => c | none => .skip
noncomputable def L_spec_l24Without (N n : Nat) (key : Nat) (S : St) (K : Ks) : Option Ret := bif Nat.beq key 3 then withVals ks_spec_l24Without_l3 S (fun x => spec_l24Without_l3 x.1 x.2.1 n (fun z0 => K (.x 0) (shape ko_spec_l24Without_l3_0 (z0, ()))) x.2.2.1 x.2.2.2.1) else none
theorem L0_spec_l24Without (N key : Nat) (S : St) (K : Ks) : L_spec_l24Without N 0 key S K = none := (bif0 (withVals0 fun _ => rfl) rfl)
noncomputable def c_spec_l24Without_0 : Code := (loopsIn body_spec_l24Without).getD 0 .skip
theorem ls_spec_l24Without : loopsIn body_spec_l24Without = [c_spec_l24Without_0] := by kernel_rfl
theorem rd_spec_l24Without_3 (N n : Nat) (x : Vals ks_spec_l24Without_l3) (K : Ks) : L_spec_l24Without N (n + 1) 3 (shape ks_spec_l24Without_l3 x) (h_spec_l24Without.onOut 3 K) = peRound h_spec_l24Without (Orc.of (es_spec_l24Without N)) (mixL (L_spec_l24Without N) N n 3) c_spec_l24Without_0 (shape ks_spec_l24Without_l3 x) (h_spec_l24Without.onOut 3 K) := by kernel_rfl
theorem fn_spec_l24Without (N : Nat) (x : AVals sg_spec_l24Without) (kf : Ret → Option Ret) : F_spec_l24Without N x kf = peFunc h_spec_l24Without (Orc.of (es_spec_l24Without N)) (L_spec_l24Without N N) Try.f40 (ashape sg_spec_l24Without x) kf := by kernel_rfl
theorem sd_spec_l24Without (N : Nat) : Sound Try.prog 40 (run_spec_l24Without N) := fun_ok2 (hh := h_spec_l24Without) mixed tab_ok (es := es_spec_l24Without N) trivial (fn := Try.f40) (body := body_spec_l24Without) (by kernel_rfl) (by kernel_rfl) (by kernel_rfl) (by kernel_rfl) (by kernel_rfl) (Lf := L_spec_l24Without N) (L0_spec_l24Without N) ls_spec_l24Without (round_cons (key := 3) (ks := ks_spec_l24Without_l3) (by kernel_rfl) (by kernel_rfl) (rd_spec_l24Without_3 N) trivial) (N := N) (by kernel_rfl) (fn_spec_l24Without N) (.inl (by kernel_rfl))
/-! spec_TeamsIn -/
noncomputable def ks_spec_TeamsIn_l3 : List Kd := [.v (.sl tQIIIIE) .k, dK, dK, .v (.sl (.int .i64)) (.o 3 none .k), .v (.int .i64) .k, dK, dK, dK, dK, dK, dK, dK, dK, dK, dK, dK, dK, dK, dK, dK, dK, dK, dK, dK, dK, dK, dK, dK, dK, dK, dK, dK, dK, dK, dK, dK, dK, dK, dK, dK]
noncomputable def ko_spec_TeamsIn_l3_0 : List Kd := [dK, dK, dK, .v (.sl (.int .i64)) (.o 3 none .k), dK, dK, dK, dK, dK, dK, dK, dK, dK, dK, dK, dK, dK, dK, dK, dK, dK, dK, dK, dK, dK, dK, dK, dK, dK, dK, dK, dK, dK, dK, dK, dK, dK, dK, dK, dK]
noncomputable def h_spec_TeamsIn : Hint := { tab, hn := [], loops := [(3, ks_spec_TeamsIn_l3)], outs := [(3, 2, ko_spec_TeamsIn_l3_0)], ords := [] }
noncomputable def sg_spec_TeamsIn : List AK := [.v (.sl tQIIIIE) .k]
noncomputable def F_spec_TeamsIn (N : Nat) (x : AVals sg_spec_TeamsIn) (kf : Ret → Option Ret) : Option Ret := spec_TeamsIn N x.1 (fun r0 => kf ⟨[⟨(.sl (.int .i64)), (.o 3 none .k), r0⟩], []⟩)
noncomputable def run_spec_TeamsIn (N : Nat) := runOf sg_spec_TeamsIn (F_spec_TeamsIn N)
noncomputable def es_spec_TeamsIn (N : Nat) : List Entry := [⟨33, [.val], (run_spec_AreMinutes N)⟩, ⟨34, [.val, .val], (run_spec_l10Put N)⟩, ⟨40, [.val, .val], (run_spec_l24Without N)⟩]
noncomputable def body_spec_TeamsIn : Code := match Try.f21.body with | some c => c | none => .skip
noncomputable def L_spec_TeamsIn (N n : Nat) (key : Nat) (S : St) (K : Ks) : Option Ret := bif Nat.beq key 3 then withVals ks_spec_TeamsIn_l3 S (fun x => spec_TeamsIn_l3 N x.1 n (fun z0 => K (.x 0) (shape ko_spec_TeamsIn_l3_0 (z0, ()))) x.2.1 x.2.2.1) else none
theorem L0_spec_TeamsIn (N key : Nat) (S : St) (K : Ks) : L_spec_TeamsIn N 0 key S K = none := (bif0 (withVals0 fun _ => rfl) rfl)
noncomputable def c_spec_TeamsIn_0 : Code := (loopsIn body_spec_TeamsIn).getD 0 .skip
theorem ls_spec_TeamsIn : loopsIn body_spec_TeamsIn = [c_spec_TeamsIn_0] := by kernel_rfl
theorem rd_spec_TeamsIn_3 (N n : Nat) (x : Vals ks_spec_TeamsIn_l3) (K : Ks) : L_spec_TeamsIn N (n + 1) 3 (shape ks_spec_TeamsIn_l3 x) (h_spec_TeamsIn.onOut 3 K) = peRound h_spec_TeamsIn (Orc.of (es_spec_TeamsIn N)) (mixL (L_spec_TeamsIn N) N n 3) c_spec_TeamsIn_0 (shape ks_spec_TeamsIn_l3 x) (h_spec_TeamsIn.onOut 3 K) := by kernel_rfl
theorem fn_spec_TeamsIn (N : Nat) (x : AVals sg_spec_TeamsIn) (kf : Ret → Option Ret) : F_spec_TeamsIn N x kf = peFunc h_spec_TeamsIn (Orc.of (es_spec_TeamsIn N)) (L_spec_TeamsIn N N) Try.f21 (ashape sg_spec_TeamsIn x) kf := by kernel_rfl
theorem sd_spec_TeamsIn (N : Nat) : Sound Try.prog 21 (run_spec_TeamsIn N) := fun_ok2 (hh := h_spec_TeamsIn) mixed tab_ok (es := es_spec_TeamsIn N) ⟨sd_spec_AreMinutes N, ⟨sd_spec_l10Put N, ⟨sd_spec_l24Without N, trivial⟩⟩⟩ (fn := Try.f21) (body := body_spec_TeamsIn) (by kernel_rfl) (by kernel_rfl) (by kernel_rfl) (by kernel_rfl) (by kernel_rfl) (Lf := L_spec_TeamsIn N) (L0_spec_TeamsIn N) ls_spec_TeamsIn (round_cons (key := 3) (ks := ks_spec_TeamsIn_l3) (by kernel_rfl) (by kernel_rfl) (rd_spec_TeamsIn_3 N) trivial) (N := N) (by kernel_rfl) (fn_spec_TeamsIn N) (.inl (by kernel_rfl))
/-! impl_without -/
noncomputable def ks_impl_without_l3 : List Kd := [dK, .v (.int .i64) .k, dK, dK, dK, .v (.sl (.int .i64)) (.o 3 none .k), dK, dK, dK, .v (.sl (.int .i64)) .k, .v (.int .i64) .k, .v (.int .i64) .k, dK, dK, dK, dK, dK, dK, dK, dK, dK, dK, dK, dK]
noncomputable def ko_impl_without_l3_0 : List Kd := [dK, dK, dK, dK, dK, .v (.sl (.int .i64)) (.o 3 none .k), dK, dK, dK, dK, dK, dK, dK, dK, dK, dK, dK, dK, dK, dK, dK, dK, dK, dK]
noncomputable def h_impl_without : Hint := { tab, hn := [], loops := [(3, ks_impl_without_l3)], outs := [(3, 2, ko_impl_without_l3_0)], ords := [] }
noncomputable def sg_impl_without : List AK := [.v (.sl (.int .i64)) .k, .v (.int .i64) .k]
noncomputable def F_impl_without (N : Nat) (x : AVals sg_impl_without) (kf : Ret → Option Ret) : Option Ret := impl_without N x.1 x.2.1 (fun r0 => kf ⟨[⟨(.sl (.int .i64)), (.o 3 none .k), r0⟩], []⟩)
noncomputable def run_impl_without (N : Nat) := runOf sg_impl_without (F_impl_without N)
noncomputable def es_impl_without (N : Nat) : List Entry := []
noncomputable def body_impl_without : Code := match Try.f41.body with | some c => c | none => .skip
noncomputable def L_impl_without (N n : Nat) (key : Nat) (S : St) (K : Ks) : Option Ret := bif Nat.beq key 3 then withVals ks_impl_without_l3 S (fun x => impl_without_l3 x.1 x.2.2.1 x.2.2.2.1 n (fun z0 => K (.x 0) (shape ko_impl_without_l3_0 (z0, ()))) x.2.1 x.2.2.2.2.1) else none
theorem L0_impl_without (N key : Nat) (S : St) (K : Ks) : L_impl_without N 0 key S K = none := (bif0 (withVals0 fun _ => rfl) rfl)
noncomputable def c_impl_without_0 : Code := (loopsIn body_impl_without).getD 0 .skip
theorem ls_impl_without : loopsIn body_impl_without = [c_impl_without_0] := by kernel_rfl
theorem rd_impl_without_3 (N n : Nat) (x : Vals ks_impl_without_l3) (K : Ks) : L_impl_without N (n + 1) 3 (shape ks_impl_without_l3 x) (h_impl_without.onOut 3 K) = peRound h_impl_without (Orc.of (es_impl_without N)) (mixL (L_impl_without N) N n 3) c_impl_without_0 (shape ks_impl_without_l3 x) (h_impl_without.onOut 3 K) := by kernel_rfl
theorem fn_impl_without (N : Nat) (x : AVals sg_impl_without) (kf : Ret → Option Ret) : F_impl_without N x kf = peFunc h_impl_without (Orc.of (es_impl_without N)) (L_impl_without N N) Try.f41 (ashape sg_impl_without x) kf := by kernel_rfl
theorem sd_impl_without (N : Nat) : Sound Try.prog 41 (run_impl_without N) := fun_ok2 (hh := h_impl_without) mixed tab_ok (es := es_impl_without N) trivial (fn := Try.f41) (body := body_impl_without) (by kernel_rfl) (by kernel_rfl) (by kernel_rfl) (by kernel_rfl) (by kernel_rfl) (Lf := L_impl_without N) (L0_impl_without N) ls_impl_without (round_cons (key := 3) (ks := ks_impl_without_l3) (by kernel_rfl) (by kernel_rfl) (rd_impl_without_3 N) trivial) (N := N) (by kernel_rfl) (fn_impl_without N) (.inl (by kernel_rfl))
/-! slices_Index_int -/
noncomputable def ks_slices_Index_int_l2 : List Kd := [.v (.sl (.int .i64)) .k, .v (.int .i64) .k, dK, dK, dK, dK, dK, .v (.int .i64) .k, .v (.int .i64) .k, dK, dK, dK, dK, dK, dK, dK, dK, dK, dK]
noncomputable def ko_slices_Index_int_l2_0 : List Kd := [dK, dK, dK, dK, dK, dK, dK, dK, dK, dK, dK, dK, dK, dK, dK, dK, dK, dK, dK]
noncomputable def ko_slices_Index_int_l2_1 : List Kd := [dK, dK, dK, dK, .v (.int .i64) .k, dK, dK, dK, dK, dK, dK, dK, dK, dK, dK, dK, dK, dK, dK]
noncomputable def h_slices_Index_int : Hint := { tab, hn := [], loops := [(2, ks_slices_Index_int_l2)], outs := [(2, 2, ko_slices_Index_int_l2_0), (2, 1, ko_slices_Index_int_l2_1)], ords := [] }
noncomputable def sg_slices_Index_int : List AK := [.v (.sl (.int .i64)) .k, .v (.int .i64) .k]
noncomputable def F_slices_Index_int (N : Nat) (x : AVals sg_slices_Index_int) (kf : Ret → Option Ret) : Option Ret := slices_Index_int N x.1 x.2.1 (fun r0 => kf ⟨[⟨(.int .i64), .k, r0⟩], []⟩)
noncomputable def run_slices_Index_int (N : Nat) := runOf sg_slices_Index_int (F_slices_Index_int N)
noncomputable def es_slices_Index_int (N : Nat) : List Entry := []
noncomputable def body_slices_Index_int : Code := match Try.f59.body with | some c => c | none => .skip
noncomputable def L_slices_Index_int (N n : Nat) (key : Nat) (S : St) (K : Ks) : Option Ret := bif Nat.beq key 2 then withVals ks_slices_Index_int_l2 S (fun x => slices_Index_int_l2 x.1 x.2.1 x.2.2.1 n (K (.x 0) (shape ko_slices_Index_int_l2_0 ())) (fun z0 => K .r (shape ko_slices_Index_int_l2_1 (z0, ()))) x.2.2.2.1) else none
theorem L0_slices_Index_int (N key : Nat) (S : St) (K : Ks) : L_slices_Index_int N 0 key S K = none := (bif0 (withVals0 fun _ => rfl) rfl)
noncomputable def c_slices_Index_int_0 : Code := (loopsIn body_slices_Index_int).getD 0 .skip
theorem ls_slices_Index_int : loopsIn body_slices_Index_int = [c_slices_Index_int_0] := by kernel_rfl
theorem rd_slices_Index_int_2 (N n : Nat) (x : Vals ks_slices_Index_int_l2) (K : Ks) : L_slices_Index_int N (n + 1) 2 (shape ks_slices_Index_int_l2 x) (h_slices_Index_int.onOut 2 K) = peRound h_slices_Index_int (Orc.of (es_slices_Index_int N)) (mixL (L_slices_Index_int N) N n 2) c_slices_Index_int_0 (shape ks_slices_Index_int_l2 x) (h_slices_Index_int.onOut 2 K) := by kernel_rfl
theorem fn_slices_Index_int (N : Nat) (x : AVals sg_slices_Index_int) (kf : Ret → Option Ret) : F_slices_Index_int N x kf = peFunc h_slices_Index_int (Orc.of (es_slices_Index_int N)) (L_slices_Index_int N N) Try.f59 (ashape sg_slices_Index_int x) kf := by kernel_rfl
theorem sd_slices_Index_int (N : Nat) : Sound Try.prog 59 (run_slices_Index_int N) := fun_ok2 (hh := h_slices_Index_int) mixed tab_ok (es := es_slices_Index_int N) trivial (fn := Try.f59) (body := body_slices_Index_int) (by kernel_rfl) (by kernel_rfl) (by kernel_rfl) (by kernel_rfl) (by kernel_rfl) (Lf := L_slices_Index_int N) (L0_slices_Index_int N) ls_slices_Index_int (round_cons (key := 2) (ks := ks_slices_Index_int_l2) (by kernel_rfl) (by kernel_rfl) (rd_slices_Index_int_2 N) trivial) (N := N) (by kernel_rfl) (fn_slices_Index_int N) (.inl (by kernel_rfl))
/-! slices_Contains_int -/
noncomputable def h_slices_Contains_int : Hint := { tab, hn := [], loops := [], outs := [], ords := [] }
noncomputable def sg_slices_Contains_int : List AK := [.v (.sl (.int .i64)) .k, .v (.int .i64) .k]
noncomputable def F_slices_Contains_int (N : Nat) (x : AVals sg_slices_Contains_int) (kf : Ret → Option Ret) : Option Ret := slices_Contains_int N x.1 x.2.1 (fun r0 => kf ⟨[⟨.bool, .k, r0⟩], []⟩)
noncomputable def run_slices_Contains_int (N : Nat) := runOf sg_slices_Contains_int (F_slices_Contains_int N)
noncomputable def es_slices_Contains_int (N : Nat) : List Entry := [⟨59, [.val, .val], (run_slices_Index_int N)⟩]
noncomputable def body_slices_Contains_int : Code := match Try.f42.body with | some c => c | none => .skip
noncomputable def L_slices_Contains_int (N n : Nat) (key : Nat) (S : St) (K : Ks) : Option Ret := none
theorem L0_slices_Contains_int (N key : Nat) (S : St) (K : Ks) : L_slices_Contains_int N 0 key S K = none := rfl
theorem ls_slices_Contains_int : loopsIn body_slices_Contains_int = [] := by kernel_rfl
theorem fn_slices_Contains_int (N : Nat) (x : AVals sg_slices_Contains_int) (kf : Ret → Option Ret) : F_slices_Contains_int N x kf = peFunc h_slices_Contains_int (Orc.of (es_slices_Contains_int N)) (L_slices_Contains_int N N) Try.f42 (ashape sg_slices_Contains_int x) kf := by kernel_rfl
theorem sd_slices_Contains_int (N : Nat) : Sound Try.prog 42 (run_slices_Contains_int N) := fun_ok2 (hh := h_slices_Contains_int) mixed tab_ok (es := es_slices_Contains_int N) ⟨sd_slices_Index_int N, trivial⟩ (fn := Try.f42) (body := body_slices_Contains_int) (by kernel_rfl) (by kernel_rfl) (by kernel_rfl) (by kernel_rfl) (by kernel_rfl) (Lf := L_slices_Contains_int N) (L0_slices_Contains_int N) ls_slices_Contains_int trivial (N := N) (by kernel_rfl) (fn_slices_Contains_int N) (.inl (by kernel_rfl))
/-! impl_TeamsIn -/
noncomputable def ks_impl_TeamsIn_l5 : List Kd := [dK, dK, dK, .v (.sl (.int .i64)) (.o 3 none .k), dK, dK, dK, dK, dK, dK, dK, .v (.sl tQIIIIE) .k, .v (.int .i64) .k, .v (.int .i64) .k, dK, dK, dK, dK, dK, dK, dK, dK, dK, dK, dK, dK, dK, dK, dK, dK, dK, dK, dK, dK, dK, dK, dK, dK, dK, dK, dK, dK, dK, dK, dK]
noncomputable def ko_impl_TeamsIn_l5_0 : List Kd := [dK, dK, dK, .v (.sl (.int .i64)) (.o 3 none .k), dK, dK, dK, dK, dK, dK, dK, dK, dK, dK, dK, dK, dK, dK, dK, dK, dK, dK, dK, dK, dK, dK, dK, dK, dK, dK, dK, dK, dK, dK, dK, dK, dK, dK, dK, dK, dK, dK, dK, dK, dK]
noncomputable def h_impl_TeamsIn : Hint := { tab, hn := [], loops := [(5, ks_impl_TeamsIn_l5)], outs := [(5, 2, ko_impl_TeamsIn_l5_0)], ords := [] }
noncomputable def sg_impl_TeamsIn : List AK := [.v (.sl tQIIIIE) .k]
noncomputable def F_impl_TeamsIn (N : Nat) (x : AVals sg_impl_TeamsIn) (kf : Ret → Option Ret) : Option Ret := impl_TeamsIn N x.1 (fun r0 => kf ⟨[⟨(.sl (.int .i64)), (.o 3 none .k), r0⟩], []⟩)
noncomputable def run_impl_TeamsIn (N : Nat) := runOf sg_impl_TeamsIn (F_impl_TeamsIn N)
noncomputable def es_impl_TeamsIn (N : Nat) : List Entry := [⟨36, [.val], (run_impl_AreMinutes N)⟩, ⟨41, [.val, .val], (run_impl_without N)⟩, ⟨42, [.val, .val], (run_slices_Contains_int N)⟩, ⟨37, [.lend], (run_slices_Sort_int N)⟩]
noncomputable def body_impl_TeamsIn : Code := match Try.f22.body with | some c => c | none => .skip
noncomputable def L_impl_TeamsIn (N n : Nat) (key : Nat) (S : St) (K : Ks) : Option Ret := bif Nat.beq key 5 then withVals ks_impl_TeamsIn_l5 S (fun x => impl_TeamsIn_l5 N x.2.1 x.2.2.1 n (fun z0 => K (.x 0) (shape ko_impl_TeamsIn_l5_0 (z0, ()))) x.1 x.2.2.2.1) else none
theorem L0_impl_TeamsIn (N key : Nat) (S : St) (K : Ks) : L_impl_TeamsIn N 0 key S K = none := (bif0 (withVals0 fun _ => rfl) rfl)
noncomputable def c_impl_TeamsIn_0 : Code := (loopsIn body_impl_TeamsIn).getD 0 .skip
theorem ls_impl_TeamsIn : loopsIn body_impl_TeamsIn = [c_impl_TeamsIn_0] := by kernel_rfl
theorem rd_impl_TeamsIn_5 (N n : Nat) (x : Vals ks_impl_TeamsIn_l5) (K : Ks) : L_impl_TeamsIn N (n + 1) 5 (shape ks_impl_TeamsIn_l5 x) (h_impl_TeamsIn.onOut 5 K) = peRound h_impl_TeamsIn (Orc.of (es_impl_TeamsIn N)) (mixL (L_impl_TeamsIn N) N n 5) c_impl_TeamsIn_0 (shape ks_impl_TeamsIn_l5 x) (h_impl_TeamsIn.onOut 5 K) := by kernel_rfl
theorem fn_impl_TeamsIn (N : Nat) (x : AVals sg_impl_TeamsIn) (kf : Ret → Option Ret) : F_impl_TeamsIn N x kf = peFunc h_impl_TeamsIn (Orc.of (es_impl_TeamsIn N)) (L_impl_TeamsIn N N) Try.f22 (ashape sg_impl_TeamsIn x) kf := by kernel_rfl
theorem sd_impl_TeamsIn (N : Nat) : Sound Try.prog 22 (run_impl_TeamsIn N) := fun_ok2 (hh := h_impl_TeamsIn) mixed tab_ok (es := es_impl_TeamsIn N) ⟨sd_impl_AreMinutes N, ⟨sd_impl_without N, ⟨sd_slices_Contains_int N, ⟨sd_slices_Sort_int N, trivial⟩⟩⟩⟩ (fn := Try.f22) (body := body_impl_TeamsIn) (by kernel_rfl) (by kernel_rfl) (by kernel_rfl) (by kernel_rfl) (by kernel_rfl) (Lf := L_impl_TeamsIn N) (L0_impl_TeamsIn N) ls_impl_TeamsIn (round_cons (key := 5) (ks := ks_impl_TeamsIn_l5) (by kernel_rfl) (by kernel_rfl) (rd_impl_TeamsIn_5 N) trivial) (N := N) (by kernel_rfl) (fn_impl_TeamsIn N) (.inl (by kernel_rfl))
/-! laws_FnExactTeamsIn -/
noncomputable def h_laws_FnExactTeamsIn : Hint := { tab, hn := [], loops := [], outs := [], ords := [] }
noncomputable def sg_laws_FnExactTeamsIn : List AK := [.v (.sl tQIIIIE) .k]
noncomputable def F_laws_FnExactTeamsIn (N : Nat) (x : AVals sg_laws_FnExactTeamsIn) (kf : Ret → Option Ret) : Option Ret := laws_FnExactTeamsIn N x.1 (fun r0 => kf ⟨[⟨.bool, .k, r0⟩], []⟩)
noncomputable def run_laws_FnExactTeamsIn (N : Nat) := runOf sg_laws_FnExactTeamsIn (F_laws_FnExactTeamsIn N)
noncomputable def es_laws_FnExactTeamsIn (N : Nat) : List Entry := [⟨15, [.val, .val], (run_laws_szLineS N)⟩, ⟨17, [.val], (run_laws_toLineS N)⟩, ⟨21, [.val], (run_spec_TeamsIn N)⟩, ⟨22, [.val], (run_impl_TeamsIn N)⟩, ⟨12, [.val, .val], (run_laws_eqIntS N)⟩, ⟨19, [.val, .val], (run_laws_eqLineS N)⟩, ⟨20, [.lend, .val], (run_laws_markLineS N)⟩, ⟨13, [.lend, .val], (run_laws_markIntS N)⟩, ⟨14, [.val, .val], (run_laws_heldIntS N)⟩]
noncomputable def body_laws_FnExactTeamsIn : Code := match Try.f6.body with | some c => c | none => .skip
noncomputable def L_laws_FnExactTeamsIn (N n : Nat) (key : Nat) (S : St) (K : Ks) : Option Ret := none
theorem L0_laws_FnExactTeamsIn (N key : Nat) (S : St) (K : Ks) : L_laws_FnExactTeamsIn N 0 key S K = none := rfl
theorem ls_laws_FnExactTeamsIn : loopsIn body_laws_FnExactTeamsIn = [] := by kernel_rfl
theorem fn_laws_FnExactTeamsIn (N : Nat) (x : AVals sg_laws_FnExactTeamsIn) (kf : Ret → Option Ret) : F_laws_FnExactTeamsIn N x kf = peFunc h_laws_FnExactTeamsIn (Orc.of (es_laws_FnExactTeamsIn N)) (L_laws_FnExactTeamsIn N N) Try.f6 (ashape sg_laws_FnExactTeamsIn x) kf := by kernel_rfl
theorem sd_laws_FnExactTeamsIn (N : Nat) : Sound Try.prog 6 (run_laws_FnExactTeamsIn N) := fun_ok2 (hh := h_laws_FnExactTeamsIn) mixed tab_ok (es := es_laws_FnExactTeamsIn N) ⟨sd_laws_szLineS N, ⟨sd_laws_toLineS N, ⟨sd_spec_TeamsIn N, ⟨sd_impl_TeamsIn N, ⟨sd_laws_eqIntS N, ⟨sd_laws_eqLineS N, ⟨sd_laws_markLineS N, ⟨sd_laws_markIntS N, ⟨sd_laws_heldIntS N, trivial⟩⟩⟩⟩⟩⟩⟩⟩⟩ (fn := Try.f6) (body := body_laws_FnExactTeamsIn) (by kernel_rfl) (by kernel_rfl) (by kernel_rfl) (by kernel_rfl) (by kernel_rfl) (Lf := L_laws_FnExactTeamsIn N) (L0_laws_FnExactTeamsIn N) ls_laws_FnExactTeamsIn trivial (N := N) (by kernel_rfl) (fn_laws_FnExactTeamsIn N) (.inl (by kernel_rfl))
end Go.Pv.R
