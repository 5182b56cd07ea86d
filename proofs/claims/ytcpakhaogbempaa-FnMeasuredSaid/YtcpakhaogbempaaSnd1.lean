/- Each function of the program that the law reaches computes its plain function, part 1. -/
import Derived.Test.YtcpakhaogbempaaSnd0
import Derived.Test.YtcpakhaogbempaaProg
namespace Go.Pv.R
open Go.Proofs
set_option linter.unusedVariables false
set_option maxRecDepth 100000
/-! impl_OpenClaims -/
noncomputable def ks_impl_OpenClaims_l3 : List Kd := [dK, dK, dK, .v (.sl (.int .i64)) (.o 3 none .k), dK, dK, dK, dK, .v (.sl .str) (.o 9 none .k), .v (.int .i64) .k, .v (.int .i64) .k, dK, dK, dK, dK, dK, dK, dK, dK, dK, dK, dK, dK]
noncomputable def ko_impl_OpenClaims_l3_0 : List Kd := [dK, dK, dK, .v (.sl (.int .i64)) (.o 3 none .k), dK, dK, dK, dK, dK, dK, dK, dK, dK, dK, dK, dK, dK, dK, dK, dK, dK, dK, dK]
noncomputable def h_impl_OpenClaims : Hint := { tab, hn := [], loops := [(3, ks_impl_OpenClaims_l3)], outs := [(3, 2, ko_impl_OpenClaims_l3_0)], ords := [] }
noncomputable def sg_impl_OpenClaims : List AK := [.v tQILLIE .k]
noncomputable def F_impl_OpenClaims (N : Nat) (x : AVals sg_impl_OpenClaims) (kf : Ret → Option Ret) : Option Ret := impl_OpenClaims N x.1 (fun r0 => kf ⟨[⟨(.sl (.int .i64)), (.o 3 none .k), r0⟩], []⟩)
noncomputable def run_impl_OpenClaims (N : Nat) := runOf sg_impl_OpenClaims (F_impl_OpenClaims N)
noncomputable def es_impl_OpenClaims (N : Nat) : List Entry := [⟨97, [.val], (run_impl_Labels N)⟩]
noncomputable def body_impl_OpenClaims : Code := match Try.f64.body with | some c => c | none => .skip
noncomputable def L_impl_OpenClaims (N n : Nat) (key : Nat) (S : St) (K : Ks) : Option Ret := bif Nat.beq key 3 then withVals ks_impl_OpenClaims_l3 S (fun x => impl_OpenClaims_l3 x.2.1 x.2.2.1 n (fun z0 => K (.x 0) (shape ko_impl_OpenClaims_l3_0 (z0, ()))) x.1 x.2.2.2.1) else none
theorem L0_impl_OpenClaims (N key : Nat) (S : St) (K : Ks) : L_impl_OpenClaims N 0 key S K = none := (bif0 (withVals0 fun _ => rfl) rfl)
noncomputable def c_impl_OpenClaims_0 : Code := (loopsIn body_impl_OpenClaims).getD 0 .skip
theorem ls_impl_OpenClaims : loopsIn body_impl_OpenClaims = [c_impl_OpenClaims_0] := by kernel_rfl
theorem rd_impl_OpenClaims_3 (N n : Nat) (x : Vals ks_impl_OpenClaims_l3) (K : Ks) : L_impl_OpenClaims N (n + 1) 3 (shape ks_impl_OpenClaims_l3 x) (h_impl_OpenClaims.onOut 3 K) = peRound h_impl_OpenClaims (Orc.of (es_impl_OpenClaims N)) (mixL (L_impl_OpenClaims N) N n 3) c_impl_OpenClaims_0 (shape ks_impl_OpenClaims_l3 x) (h_impl_OpenClaims.onOut 3 K) := by kernel_rfl
theorem fn_impl_OpenClaims (N : Nat) (x : AVals sg_impl_OpenClaims) (kf : Ret → Option Ret) : F_impl_OpenClaims N x kf = peFunc h_impl_OpenClaims (Orc.of (es_impl_OpenClaims N)) (L_impl_OpenClaims N N) Try.f64 (ashape sg_impl_OpenClaims x) kf := by kernel_rfl
theorem sd_impl_OpenClaims {Γ : Gl} (N : Nat) : Sound Γ Try.prog 64 (run_impl_OpenClaims N) := fun_ok2 (hh := h_impl_OpenClaims) mixed tab_ok (es := es_impl_OpenClaims N) ⟨sd_impl_Labels N, trivial⟩ (fn := Try.f64) (body := body_impl_OpenClaims) (by kernel_rfl) (by kernel_rfl) (by kernel_rfl) (by kernel_rfl) (by kernel_rfl) (Lf := L_impl_OpenClaims N) (L0_impl_OpenClaims N) ls_impl_OpenClaims (round_cons (key := 3) (ks := ks_impl_OpenClaims_l3) (by kernel_rfl) (by kernel_rfl) (rd_impl_OpenClaims_3 N) trivial) (N := N) (by kernel_rfl) (fn_impl_OpenClaims N) (.inl (by kernel_rfl))
/-! impl_OpenShare -/
noncomputable def h_impl_OpenShare : Hint := { tab, hn := [], loops := [], outs := [], ords := [(3, (OT.seq [0, 4, 5, 1, 2, 3, 6, 7] .done))] }
noncomputable def sg_impl_OpenShare : List AK := [.v tQILLIE .k]
noncomputable def F_impl_OpenShare (N : Nat) (x : AVals sg_impl_OpenShare) (kf : Ret → Option Ret) : Option Ret := impl_OpenShare N x.1 (fun r0 => kf ⟨[⟨(.int .i64), .k, r0⟩], []⟩)
noncomputable def run_impl_OpenShare (N : Nat) := runOf sg_impl_OpenShare (F_impl_OpenShare N)
noncomputable def es_impl_OpenShare (N : Nat) : List Entry := [⟨63, [.val], (run_impl_IsGraph N)⟩, ⟨64, [.val], (run_impl_OpenClaims N)⟩]
noncomputable def body_impl_OpenShare : Code := match Try.f19.body with | some c => c | none => .skip
noncomputable def L_impl_OpenShare (N n : Nat) (key : Nat) (S : St) (K : Ks) : Option Ret := none
theorem L0_impl_OpenShare (N key : Nat) (S : St) (K : Ks) : L_impl_OpenShare N 0 key S K = none := rfl
theorem ls_impl_OpenShare : loopsIn body_impl_OpenShare = [] := by kernel_rfl
theorem fn_impl_OpenShare (N : Nat) (x : AVals sg_impl_OpenShare) (kf : Ret → Option Ret) : F_impl_OpenShare N x kf = peFunc h_impl_OpenShare (Orc.of (es_impl_OpenShare N)) (L_impl_OpenShare N N) Try.f19 (ashape sg_impl_OpenShare x) kf := by kernel_rfl
theorem sd_impl_OpenShare {Γ : Gl} (N : Nat) : Sound Γ Try.prog 19 (run_impl_OpenShare N) := fun_ok2 (hh := h_impl_OpenShare) mixed tab_ok (es := es_impl_OpenShare N) ⟨sd_impl_IsGraph N, ⟨sd_impl_OpenClaims N, trivial⟩⟩ (fn := Try.f19) (body := body_impl_OpenShare) (by kernel_rfl) (by kernel_rfl) (by kernel_rfl) (by kernel_rfl) (by kernel_rfl) (Lf := L_impl_OpenShare N) (L0_impl_OpenShare N) ls_impl_OpenShare trivial (N := N) (by kernel_rfl) (fn_impl_OpenShare N) (.inl (by kernel_rfl))
/-! spec_l1Int -/
noncomputable def h_spec_l1Int : Hint := { tab, hn := [], loops := [], outs := [], ords := [], lent := some (0, false) }
noncomputable def sg_spec_l1Int : List AK := [.v (.ptr tQLIIIE) (.o 108 (some 0) .k), .v (.sl (.int .i64)) .k]
noncomputable def F_spec_l1Int (N : Nat) (x : AVals sg_spec_l1Int) (kf : Ret → Option Ret) : Option Ret := spec_l1Int N x.1 x.2.1 (fun r0 z => kf ⟨[⟨(.int .i64), .k, r0⟩], [⟨(.ptr tQLIIIE), (.o 108 (some 0) .k), z⟩]⟩)
noncomputable def run_spec_l1Int (N : Nat) := runOf sg_spec_l1Int (F_spec_l1Int N)
noncomputable def es_spec_l1Int (N : Nat) : List Entry := [⟨50, [.lend, .val], (run_spec_l1Below N)⟩]
noncomputable def body_spec_l1Int : Code := match Try.f102.body with | some c => c | none => .skip
noncomputable def L_spec_l1Int (N n : Nat) (key : Nat) (S : St) (K : Ks) : Option Ret := none
theorem L0_spec_l1Int (N key : Nat) (S : St) (K : Ks) : L_spec_l1Int N 0 key S K = none := rfl
theorem ls_spec_l1Int : loopsIn body_spec_l1Int = [] := by kernel_rfl
theorem fn_spec_l1Int (N : Nat) (x : AVals sg_spec_l1Int) (kf : Ret → Option Ret) : F_spec_l1Int N x kf = peFunc h_spec_l1Int (Orc.of (es_spec_l1Int N)) (L_spec_l1Int N N) Try.f102 (ashape sg_spec_l1Int x) kf := by kernel_rfl
theorem sd_spec_l1Int {Γ : Gl} (N : Nat) : Sound Γ Try.prog 102 (run_spec_l1Int N) := fun_ok2 (hh := h_spec_l1Int) mixed tab_ok (es := es_spec_l1Int N) ⟨sd_spec_l1Below N, trivial⟩ (fn := Try.f102) (body := body_spec_l1Int) (by kernel_rfl) (by kernel_rfl) (by kernel_rfl) (by kernel_rfl) (by kernel_rfl) (Lf := L_spec_l1Int N) (L0_spec_l1Int N) ls_spec_l1Int trivial (N := N) (by kernel_rfl) (fn_spec_l1Int N) (.inl (by kernel_rfl))
/-! spec_LastSeal -/
noncomputable def h_spec_LastSeal : Hint := { tab, hn := [], loops := [], outs := [], ords := [] }
noncomputable def sg_spec_LastSeal : List AK := [.v (.sl tQIIIIE) .k]
noncomputable def F_spec_LastSeal (N : Nat) (x : AVals sg_spec_LastSeal) (kf : Ret → Option Ret) : Option Ret := spec_LastSeal N x.1 (fun r0 => kf ⟨[⟨(.int .i64), .k, r0⟩], []⟩)
noncomputable def run_spec_LastSeal (N : Nat) := runOf sg_spec_LastSeal (F_spec_LastSeal N)
noncomputable def es_spec_LastSeal (N : Nat) : List Entry := []
noncomputable def body_spec_LastSeal : Code := match Try.f128.body with | some c => c | none => .skip
noncomputable def L_spec_LastSeal (N n : Nat) (key : Nat) (S : St) (K : Ks) : Option Ret := none
theorem L0_spec_LastSeal (N key : Nat) (S : St) (K : Ks) : L_spec_LastSeal N 0 key S K = none := rfl
theorem ls_spec_LastSeal : loopsIn body_spec_LastSeal = [] := by kernel_rfl
theorem fn_spec_LastSeal (N : Nat) (x : AVals sg_spec_LastSeal) (kf : Ret → Option Ret) : F_spec_LastSeal N x kf = peFunc h_spec_LastSeal (Orc.of (es_spec_LastSeal N)) (L_spec_LastSeal N N) Try.f128 (ashape sg_spec_LastSeal x) kf := by kernel_rfl
theorem sd_spec_LastSeal {Γ : Gl} (N : Nat) : Sound Γ Try.prog 128 (run_spec_LastSeal N) := fun_ok2 (hh := h_spec_LastSeal) mixed tab_ok (es := es_spec_LastSeal N) trivial (fn := Try.f128) (body := body_spec_LastSeal) (by kernel_rfl) (by kernel_rfl) (by kernel_rfl) (by kernel_rfl) (by kernel_rfl) (Lf := L_spec_LastSeal N) (L0_spec_LastSeal N) ls_spec_LastSeal trivial (N := N) (by kernel_rfl) (fn_spec_LastSeal N) (.inl (by kernel_rfl))
/-! spec_Mod -/
noncomputable def h_spec_Mod : Hint := { tab, hn := [], loops := [], outs := [], ords := [] }
noncomputable def sg_spec_Mod : List AK := [.v (.int .i64) .k, .v (.int .i64) .k]
noncomputable def F_spec_Mod (N : Nat) (x : AVals sg_spec_Mod) (kf : Ret → Option Ret) : Option Ret := spec_Mod N x.1 x.2.1 (fun r0 => kf ⟨[⟨(.int .i64), .k, r0⟩], []⟩)
noncomputable def run_spec_Mod (N : Nat) := runOf sg_spec_Mod (F_spec_Mod N)
noncomputable def es_spec_Mod (N : Nat) : List Entry := [⟨72, [.val, .val, .val], (run_spec_l1In N)⟩]
noncomputable def body_spec_Mod : Code := match Try.f169.body with | some c => c | none => .skip
noncomputable def L_spec_Mod (N n : Nat) (key : Nat) (S : St) (K : Ks) : Option Ret := none
theorem L0_spec_Mod (N key : Nat) (S : St) (K : Ks) : L_spec_Mod N 0 key S K = none := rfl
theorem ls_spec_Mod : loopsIn body_spec_Mod = [] := by kernel_rfl
theorem fn_spec_Mod (N : Nat) (x : AVals sg_spec_Mod) (kf : Ret → Option Ret) : F_spec_Mod N x kf = peFunc h_spec_Mod (Orc.of (es_spec_Mod N)) (L_spec_Mod N N) Try.f169 (ashape sg_spec_Mod x) kf := by kernel_rfl
theorem sd_spec_Mod {Γ : Gl} (N : Nat) : Sound Γ Try.prog 169 (run_spec_Mod N) := fun_ok2 (hh := h_spec_Mod) mixed tab_ok (es := es_spec_Mod N) ⟨sd_spec_l1In N, trivial⟩ (fn := Try.f169) (body := body_spec_Mod) (by kernel_rfl) (by kernel_rfl) (by kernel_rfl) (by kernel_rfl) (by kernel_rfl) (Lf := L_spec_Mod N) (L0_spec_Mod N) ls_spec_Mod trivial (N := N) (by kernel_rfl) (fn_spec_Mod N) (.inl (by kernel_rfl))
/-! spec_Hash -/
noncomputable def ks_spec_Hash_l3 : List Kd := [.v (.sl (.int .i64)) .k, dK, dK, .v (.int .i64) .k, .v (.int .i64) .k, dK, dK, dK, dK, dK, dK, dK, dK, dK, dK, dK, dK, dK, dK, dK, dK, dK]
noncomputable def ko_spec_Hash_l3_0 : List Kd := [dK, dK, dK, .v (.int .i64) .k, dK, dK, dK, dK, dK, dK, dK, dK, dK, dK, dK, dK, dK, dK, dK, dK, dK, dK]
noncomputable def h_spec_Hash : Hint := { tab, hn := [], loops := [(3, ks_spec_Hash_l3)], outs := [(3, 2, ko_spec_Hash_l3_0)], ords := [] }
noncomputable def sg_spec_Hash : List AK := [.v (.sl (.int .i64)) .k]
noncomputable def F_spec_Hash (N : Nat) (x : AVals sg_spec_Hash) (kf : Ret → Option Ret) : Option Ret := spec_Hash N x.1 (fun r0 => kf ⟨[⟨(.int .i64), .k, r0⟩], []⟩)
noncomputable def run_spec_Hash (N : Nat) := runOf sg_spec_Hash (F_spec_Hash N)
noncomputable def es_spec_Hash (N : Nat) : List Entry := [⟨169, [.val, .val], (run_spec_Mod N)⟩]
noncomputable def body_spec_Hash : Code := match Try.f152.body with | some c => c | none => .skip
noncomputable def L_spec_Hash (N n : Nat) (key : Nat) (S : St) (K : Ks) : Option Ret := bif Nat.beq key 3 then withVals ks_spec_Hash_l3 S (fun x => spec_Hash_l3 N x.1 n (fun z0 => K (.x 0) (shape ko_spec_Hash_l3_0 (z0, ()))) x.2.1 x.2.2.1) else none
theorem L0_spec_Hash (N key : Nat) (S : St) (K : Ks) : L_spec_Hash N 0 key S K = none := (bif0 (withVals0 fun _ => rfl) rfl)
noncomputable def c_spec_Hash_0 : Code := (loopsIn body_spec_Hash).getD 0 .skip
theorem ls_spec_Hash : loopsIn body_spec_Hash = [c_spec_Hash_0] := by kernel_rfl
theorem rd_spec_Hash_3 (N n : Nat) (x : Vals ks_spec_Hash_l3) (K : Ks) : L_spec_Hash N (n + 1) 3 (shape ks_spec_Hash_l3 x) (h_spec_Hash.onOut 3 K) = peRound h_spec_Hash (Orc.of (es_spec_Hash N)) (mixL (L_spec_Hash N) N n 3) c_spec_Hash_0 (shape ks_spec_Hash_l3 x) (h_spec_Hash.onOut 3 K) := by kernel_rfl
theorem fn_spec_Hash (N : Nat) (x : AVals sg_spec_Hash) (kf : Ret → Option Ret) : F_spec_Hash N x kf = peFunc h_spec_Hash (Orc.of (es_spec_Hash N)) (L_spec_Hash N N) Try.f152 (ashape sg_spec_Hash x) kf := by kernel_rfl
theorem sd_spec_Hash {Γ : Gl} (N : Nat) : Sound Γ Try.prog 152 (run_spec_Hash N) := fun_ok2 (hh := h_spec_Hash) mixed tab_ok (es := es_spec_Hash N) ⟨sd_spec_Mod N, trivial⟩ (fn := Try.f152) (body := body_spec_Hash) (by kernel_rfl) (by kernel_rfl) (by kernel_rfl) (by kernel_rfl) (by kernel_rfl) (Lf := L_spec_Hash N) (L0_spec_Hash N) ls_spec_Hash (round_cons (key := 3) (ks := ks_spec_Hash_l3) (by kernel_rfl) (by kernel_rfl) (rd_spec_Hash_3 N) trivial) (N := N) (by kernel_rfl) (fn_spec_Hash N) (.inl (by kernel_rfl))
/-! spec_l27Seal -/
noncomputable def h_spec_l27Seal : Hint := { tab, hn := [], loops := [], outs := [], ords := [] }
noncomputable def sg_spec_l27Seal : List AK := [.v (.int .i64) .k, .v tQIIIIE .k]
noncomputable def F_spec_l27Seal (N : Nat) (x : AVals sg_spec_l27Seal) (kf : Ret → Option Ret) : Option Ret := spec_l27Seal N x.1 x.2.1 (fun r0 => kf ⟨[⟨(.int .i64), .k, r0⟩], []⟩)
noncomputable def run_spec_l27Seal (N : Nat) := runOf sg_spec_l27Seal (F_spec_l27Seal N)
noncomputable def es_spec_l27Seal (N : Nat) : List Entry := [⟨152, [.val], (run_spec_Hash N)⟩]
noncomputable def body_spec_l27Seal : Code := match Try.f127.body with | some c => c | none => .skip
noncomputable def L_spec_l27Seal (N n : Nat) (key : Nat) (S : St) (K : Ks) : Option Ret := none
theorem L0_spec_l27Seal (N key : Nat) (S : St) (K : Ks) : L_spec_l27Seal N 0 key S K = none := rfl
theorem ls_spec_l27Seal : loopsIn body_spec_l27Seal = [] := by kernel_rfl
theorem fn_spec_l27Seal (N : Nat) (x : AVals sg_spec_l27Seal) (kf : Ret → Option Ret) : F_spec_l27Seal N x kf = peFunc h_spec_l27Seal (Orc.of (es_spec_l27Seal N)) (L_spec_l27Seal N N) Try.f127 (ashape sg_spec_l27Seal x) kf := by kernel_rfl
theorem sd_spec_l27Seal {Γ : Gl} (N : Nat) : Sound Γ Try.prog 127 (run_spec_l27Seal N) := fun_ok2 (hh := h_spec_l27Seal) mixed tab_ok (es := es_spec_l27Seal N) ⟨sd_spec_Hash N, trivial⟩ (fn := Try.f127) (body := body_spec_l27Seal) (by kernel_rfl) (by kernel_rfl) (by kernel_rfl) (by kernel_rfl) (by kernel_rfl) (Lf := L_spec_l27Seal N) (L0_spec_l27Seal N) ls_spec_l27Seal trivial (N := N) (by kernel_rfl) (fn_spec_l27Seal N) (.inl (by kernel_rfl))
/-! spec_AreMinutes -/
noncomputable def ks_spec_AreMinutes_l3 : List Kd := [.v (.sl tQIIIIE) .k, dK, dK, .v (.int .i64) .k, .v (.int .i64) .k, dK, dK, dK, dK, dK, dK, dK, dK, dK, dK, dK, dK, dK, dK, dK, dK, dK, dK, dK, dK, dK, dK, dK, dK, dK, dK, dK, dK, dK, dK, dK, dK, dK, dK, dK, dK, dK, dK, dK, dK, dK, dK, dK, dK, dK]
noncomputable def ko_spec_AreMinutes_l3_0 : List Kd := [.v (.sl tQIIIIE) .k, dK, dK, dK, dK, dK, dK, dK, dK, dK, dK, dK, dK, dK, dK, dK, dK, dK, dK, dK, dK, dK, dK, dK, dK, dK, dK, dK, dK, dK, dK, dK, dK, dK, dK, dK, dK, dK, dK, dK, dK, dK, dK, dK, dK, dK, dK, dK, dK, dK]
noncomputable def ko_spec_AreMinutes_l3_1 : List Kd := [dK, dK, .v .bool .k, dK, dK, dK, dK, dK, dK, dK, dK, dK, dK, dK, dK, dK, dK, dK, dK, dK, dK, dK, dK, dK, dK, dK, dK, dK, dK, dK, dK, dK, dK, dK, dK, dK, dK, dK, dK, dK, dK, dK, dK, dK, dK, dK, dK, dK, dK, dK]
noncomputable def h_spec_AreMinutes : Hint := { tab, hn := [], loops := [(3, ks_spec_AreMinutes_l3)], outs := [(3, 2, ko_spec_AreMinutes_l3_0), (3, 1, ko_spec_AreMinutes_l3_1)], ords := [] }
noncomputable def sg_spec_AreMinutes : List AK := [.v (.sl tQIIIIE) .k]
noncomputable def F_spec_AreMinutes (N : Nat) (x : AVals sg_spec_AreMinutes) (kf : Ret → Option Ret) : Option Ret := spec_AreMinutes N x.1 (fun r0 => kf ⟨[⟨.bool, .k, r0⟩], []⟩)
noncomputable def run_spec_AreMinutes (N : Nat) := runOf sg_spec_AreMinutes (F_spec_AreMinutes N)
noncomputable def es_spec_AreMinutes (N : Nat) : List Entry := [⟨127, [.val, .val], (run_spec_l27Seal N)⟩, ⟨72, [.val, .val, .val], (run_spec_l1In N)⟩]
noncomputable def body_spec_AreMinutes : Code := match Try.f129.body with | some c => c | none => .skip
noncomputable def L_spec_AreMinutes (N n : Nat) (key : Nat) (S : St) (K : Ks) : Option Ret := bif Nat.beq key 3 then withVals ks_spec_AreMinutes_l3 S (fun x => spec_AreMinutes_l3 N x.1 n (K (.x 0) (shape ko_spec_AreMinutes_l3_0 (x.1, ()))) (fun z0 => K .r (shape ko_spec_AreMinutes_l3_1 (z0, ()))) x.2.1 x.2.2.1) else none
theorem L0_spec_AreMinutes (N key : Nat) (S : St) (K : Ks) : L_spec_AreMinutes N 0 key S K = none := (bif0 (withVals0 fun _ => rfl) rfl)
noncomputable def c_spec_AreMinutes_0 : Code := (loopsIn body_spec_AreMinutes).getD 0 .skip
theorem ls_spec_AreMinutes : loopsIn body_spec_AreMinutes = [c_spec_AreMinutes_0] := by kernel_rfl
theorem rd_spec_AreMinutes_3 (N n : Nat) (x : Vals ks_spec_AreMinutes_l3) (K : Ks) : L_spec_AreMinutes N (n + 1) 3 (shape ks_spec_AreMinutes_l3 x) (h_spec_AreMinutes.onOut 3 K) = peRound h_spec_AreMinutes (Orc.of (es_spec_AreMinutes N)) (mixL (L_spec_AreMinutes N) N n 3) c_spec_AreMinutes_0 (shape ks_spec_AreMinutes_l3 x) (h_spec_AreMinutes.onOut 3 K) := by kernel_rfl
theorem fn_spec_AreMinutes (N : Nat) (x : AVals sg_spec_AreMinutes) (kf : Ret → Option Ret) : F_spec_AreMinutes N x kf = peFunc h_spec_AreMinutes (Orc.of (es_spec_AreMinutes N)) (L_spec_AreMinutes N N) Try.f129 (ashape sg_spec_AreMinutes x) kf := by kernel_rfl
theorem sd_spec_AreMinutes {Γ : Gl} (N : Nat) : Sound Γ Try.prog 129 (run_spec_AreMinutes N) := fun_ok2 (hh := h_spec_AreMinutes) mixed tab_ok (es := es_spec_AreMinutes N) ⟨sd_spec_l27Seal N, ⟨sd_spec_l1In N, trivial⟩⟩ (fn := Try.f129) (body := body_spec_AreMinutes) (by kernel_rfl) (by kernel_rfl) (by kernel_rfl) (by kernel_rfl) (by kernel_rfl) (Lf := L_spec_AreMinutes N) (L0_spec_AreMinutes N) ls_spec_AreMinutes (round_cons (key := 3) (ks := ks_spec_AreMinutes_l3) (by kernel_rfl) (by kernel_rfl) (rd_spec_AreMinutes_3 N) trivial) (N := N) (by kernel_rfl) (fn_spec_AreMinutes N) (.inl (by kernel_rfl))
/-! spec_WriteLine -/
noncomputable def h_spec_WriteLine : Hint := { tab, hn := [], loops := [], outs := [], ords := [(2, (OT.seq [0, 2, 1, 3, 4, 5] .done)), (3, (OT.seq [1] (.any [0, 2, 3, 4] (OT.seq [5, 6] .done))))] }
noncomputable def sg_spec_WriteLine : List AK := [.v (.sl tQIIIIE) .k, .v (.int .i64) .k, .v (.int .i64) .k]
noncomputable def F_spec_WriteLine (N : Nat) (x : AVals sg_spec_WriteLine) (kf : Ret → Option Ret) : Option Ret := spec_WriteLine N x.1 x.2.1 x.2.2.1 (fun r0 r1 => kf ⟨[⟨(.sl tQIIIIE), (.o 79 none .k), r0⟩, ⟨.bool, .k, r1⟩], []⟩)
noncomputable def run_spec_WriteLine (N : Nat) := runOf sg_spec_WriteLine (F_spec_WriteLine N)
noncomputable def es_spec_WriteLine (N : Nat) : List Entry := [⟨128, [.val], (run_spec_LastSeal N)⟩, ⟨127, [.val, .val], (run_spec_l27Seal N)⟩, ⟨129, [.val], (run_spec_AreMinutes N)⟩]
noncomputable def body_spec_WriteLine : Code := match Try.f104.body with | some c => c | none => .skip
noncomputable def L_spec_WriteLine (N n : Nat) (key : Nat) (S : St) (K : Ks) : Option Ret := none
theorem L0_spec_WriteLine (N key : Nat) (S : St) (K : Ks) : L_spec_WriteLine N 0 key S K = none := rfl
theorem ls_spec_WriteLine : loopsIn body_spec_WriteLine = [] := by kernel_rfl
theorem fn_spec_WriteLine (N : Nat) (x : AVals sg_spec_WriteLine) (kf : Ret → Option Ret) : F_spec_WriteLine N x kf = peFunc h_spec_WriteLine (Orc.of (es_spec_WriteLine N)) (L_spec_WriteLine N N) Try.f104 (ashape sg_spec_WriteLine x) kf := by kernel_rfl
theorem sd_spec_WriteLine {Γ : Gl} (N : Nat) : Sound Γ Try.prog 104 (run_spec_WriteLine N) := fun_ok2 (hh := h_spec_WriteLine) mixed tab_ok (es := es_spec_WriteLine N) ⟨sd_spec_LastSeal N, ⟨sd_spec_l27Seal N, ⟨sd_spec_AreMinutes N, trivial⟩⟩⟩ (fn := Try.f104) (body := body_spec_WriteLine) (by kernel_rfl) (by kernel_rfl) (by kernel_rfl) (by kernel_rfl) (by kernel_rfl) (Lf := L_spec_WriteLine N) (L0_spec_WriteLine N) ls_spec_WriteLine trivial (N := N) (by kernel_rfl) (fn_spec_WriteLine N) (.inl (by kernel_rfl))
/-! spec_l19Any -/
noncomputable def h_spec_l19Any : Hint := { tab, hn := [(18, .k), (27, .k), (36, .k), (58, .k)], loops := [], outs := [], ords := [], lent := some (0, false) }
noncomputable def sg_spec_l19Any : List AK := [.v (.ptr tQLIIIE) (.o 108 (some 0) .k)]
noncomputable def F_spec_l19Any (N : Nat) (x : AVals sg_spec_l19Any) (kf : Ret → Option Ret) : Option Ret := spec_l19Any N x.1 (fun r0 z => kf ⟨[⟨(.sl tQIIIIILIE), (.o 54 none (.p .k (.p .k (.p .k (.p .k (.p .k (.o 3 none .k))))))), r0⟩], [⟨(.ptr tQLIIIE), (.o 108 (some 0) .k), z⟩]⟩)
noncomputable def run_spec_l19Any (N : Nat) := runOf sg_spec_l19Any (F_spec_l19Any N)
noncomputable def es_spec_l19Any (N : Nat) : List Entry := [⟨82, [.lend], (run_spec_l19Draw N)⟩, ⟨50, [.lend, .val], (run_spec_l1Below N)⟩, ⟨102, [.lend, .val], (run_spec_l1Int N)⟩]
noncomputable def body_spec_l19Any : Code := match Try.f70.body with | some c => c | none => .skip
noncomputable def L_spec_l19Any (N n : Nat) (key : Nat) (S : St) (K : Ks) : Option Ret := none
theorem L0_spec_l19Any (N key : Nat) (S : St) (K : Ks) : L_spec_l19Any N 0 key S K = none := rfl
theorem ls_spec_l19Any : loopsIn body_spec_l19Any = [] := by kernel_rfl
theorem fn_spec_l19Any (N : Nat) (x : AVals sg_spec_l19Any) (kf : Ret → Option Ret) : F_spec_l19Any N x kf = peFunc h_spec_l19Any (Orc.of (es_spec_l19Any N)) (L_spec_l19Any N N) Try.f70 (ashape sg_spec_l19Any x) kf := by kernel_rfl
theorem sd_spec_l19Any {Γ : Gl} (N : Nat) : Sound Γ Try.prog 70 (run_spec_l19Any N) := fun_ok2 (hh := h_spec_l19Any) mixed tab_ok (es := es_spec_l19Any N) ⟨sd_spec_l19Draw N, ⟨sd_spec_l1Below N, ⟨sd_spec_l1Int N, trivial⟩⟩⟩ (fn := Try.f70) (body := body_spec_l19Any) (by kernel_rfl) (by kernel_rfl) (by kernel_rfl) (by kernel_rfl) (by kernel_rfl) (Lf := L_spec_l19Any N) (L0_spec_l19Any N) ls_spec_l19Any trivial (N := N) (by kernel_rfl) (fn_spec_l19Any N) (.inl (by kernel_rfl))
/-! spec_l21Any -/
noncomputable def h_spec_l21Any : Hint := { tab, hn := [(18, .k), (27, .k)], loops := [], outs := [], ords := [], lent := some (0, false) }
noncomputable def sg_spec_l21Any : List AK := [.v (.ptr tQLIIIE) (.o 108 (some 0) .k)]
noncomputable def F_spec_l21Any (N : Nat) (x : AVals sg_spec_l21Any) (kf : Ret → Option Ret) : Option Ret := spec_l21Any N x.1 (fun r0 z => kf ⟨[⟨(.sl tQIILIE), (.o 85 none (.p .k (.p .k (.o 3 none .k)))), r0⟩], [⟨(.ptr tQLIIIE), (.o 108 (some 0) .k), z⟩]⟩)
noncomputable def run_spec_l21Any (N : Nat) := runOf sg_spec_l21Any (F_spec_l21Any N)
noncomputable def es_spec_l21Any (N : Nat) : List Entry := [⟨83, [.lend], (run_spec_l21Draw N)⟩, ⟨50, [.lend, .val], (run_spec_l1Below N)⟩, ⟨102, [.lend, .val], (run_spec_l1Int N)⟩]
noncomputable def body_spec_l21Any : Code := match Try.f88.body with | some c => c | none => .skip
noncomputable def L_spec_l21Any (N n : Nat) (key : Nat) (S : St) (K : Ks) : Option Ret := none
theorem L0_spec_l21Any (N key : Nat) (S : St) (K : Ks) : L_spec_l21Any N 0 key S K = none := rfl
theorem ls_spec_l21Any : loopsIn body_spec_l21Any = [] := by kernel_rfl
theorem fn_spec_l21Any (N : Nat) (x : AVals sg_spec_l21Any) (kf : Ret → Option Ret) : F_spec_l21Any N x kf = peFunc h_spec_l21Any (Orc.of (es_spec_l21Any N)) (L_spec_l21Any N N) Try.f88 (ashape sg_spec_l21Any x) kf := by kernel_rfl
theorem sd_spec_l21Any {Γ : Gl} (N : Nat) : Sound Γ Try.prog 88 (run_spec_l21Any N) := fun_ok2 (hh := h_spec_l21Any) mixed tab_ok (es := es_spec_l21Any N) ⟨sd_spec_l21Draw N, ⟨sd_spec_l1Below N, ⟨sd_spec_l1Int N, trivial⟩⟩⟩ (fn := Try.f88) (body := body_spec_l21Any) (by kernel_rfl) (by kernel_rfl) (by kernel_rfl) (by kernel_rfl) (by kernel_rfl) (Lf := L_spec_l21Any N) (L0_spec_l21Any N) ls_spec_l21Any trivial (N := N) (by kernel_rfl) (fn_spec_l21Any N) (.inl (by kernel_rfl))
/-! spec_l27Any -/
noncomputable def ks_spec_l27Any_l3 : List Kd := [.v (.ptr tQLIIIE) (.o 108 (some 0) .k), dK, dK, .v (.sl tQIIIIE) (.o 79 none .k), .v (.int .i64) .k, dK, dK, dK, dK, dK, dK, dK, dK, dK, dK, dK, dK, dK, dK, dK, dK, dK, dK, dK, dK, dK, dK, dK, dK, dK, dK, dK, dK, dK, dK, dK, dK, dK, dK, dK, dK, dK, dK, dK, dK, dK, dK, dK, dK, dK, dK, dK, dK, dK, dK, dK, dK, dK, dK, dK, dK, dK, dK, dK, dK, dK]
noncomputable def ko_spec_l27Any_l3_0 : List Kd := [.v (.ptr tQLIIIE) (.o 108 (some 0) .k), dK, dK, .v (.sl tQIIIIE) (.o 79 none .k), dK, dK, dK, dK, dK, dK, dK, dK, dK, dK, dK, dK, dK, dK, dK, dK, dK, dK, dK, dK, dK, dK, dK, dK, dK, dK, dK, dK, dK, dK, dK, dK, dK, dK, dK, dK, dK, dK, dK, dK, dK, dK, dK, dK, dK, dK, dK, dK, dK, dK, dK, dK, dK, dK, dK, dK, dK, dK, dK, dK, dK, dK]
noncomputable def h_spec_l27Any : Hint := { tab, hn := [(37, .k)], loops := [(3, ks_spec_l27Any_l3)], outs := [(3, 2, ko_spec_l27Any_l3_0)], ords := [], lent := some (0, false) }
noncomputable def sg_spec_l27Any : List AK := [.v (.ptr tQLIIIE) (.o 108 (some 0) .k)]
noncomputable def F_spec_l27Any (N : Nat) (x : AVals sg_spec_l27Any) (kf : Ret → Option Ret) : Option Ret := spec_l27Any N x.1 (fun r0 z => kf ⟨[⟨(.sl tQIIIIE), (.o 79 none .k), r0⟩], [⟨(.ptr tQLIIIE), (.o 108 (some 0) .k), z⟩]⟩)
noncomputable def run_spec_l27Any (N : Nat) := runOf sg_spec_l27Any (F_spec_l27Any N)
noncomputable def es_spec_l27Any (N : Nat) : List Entry := [⟨50, [.lend, .val], (run_spec_l1Below N)⟩, ⟨104, [.val, .val, .val], (run_spec_WriteLine N)⟩, ⟨102, [.lend, .val], (run_spec_l1Int N)⟩]
noncomputable def body_spec_l27Any : Code := match Try.f75.body with | some c => c | none => .skip
noncomputable def L_spec_l27Any (N n : Nat) (key : Nat) (S : St) (K : Ks) : Option Ret := bif Nat.beq key 3 then withVals ks_spec_l27Any_l3 S (fun x => spec_l27Any_l3 N n (fun z0 z1 => K (.x 0) (shape ko_spec_l27Any_l3_0 (z0, z1, ()))) x.1 x.2.1 x.2.2.1) else none
theorem L0_spec_l27Any (N key : Nat) (S : St) (K : Ks) : L_spec_l27Any N 0 key S K = none := (bif0 (withVals0 fun _ => rfl) rfl)
noncomputable def c_spec_l27Any_0 : Code := (loopsIn body_spec_l27Any).getD 0 .skip
theorem ls_spec_l27Any : loopsIn body_spec_l27Any = [c_spec_l27Any_0] := by kernel_rfl
theorem rd_spec_l27Any_3 (N n : Nat) (x : Vals ks_spec_l27Any_l3) (K : Ks) : L_spec_l27Any N (n + 1) 3 (shape ks_spec_l27Any_l3 x) (h_spec_l27Any.onOut 3 K) = peRound h_spec_l27Any (Orc.of (es_spec_l27Any N)) (mixL (L_spec_l27Any N) N n 3) c_spec_l27Any_0 (shape ks_spec_l27Any_l3 x) (h_spec_l27Any.onOut 3 K) := by kernel_rfl
theorem fn_spec_l27Any (N : Nat) (x : AVals sg_spec_l27Any) (kf : Ret → Option Ret) : F_spec_l27Any N x kf = peFunc h_spec_l27Any (Orc.of (es_spec_l27Any N)) (L_spec_l27Any N N) Try.f75 (ashape sg_spec_l27Any x) kf := by kernel_rfl
theorem sd_spec_l27Any {Γ : Gl} (N : Nat) : Sound Γ Try.prog 75 (run_spec_l27Any N) := fun_ok2 (hh := h_spec_l27Any) mixed tab_ok (es := es_spec_l27Any N) ⟨sd_spec_l1Below N, ⟨sd_spec_WriteLine N, ⟨sd_spec_l1Int N, trivial⟩⟩⟩ (fn := Try.f75) (body := body_spec_l27Any) (by kernel_rfl) (by kernel_rfl) (by kernel_rfl) (by kernel_rfl) (by kernel_rfl) (Lf := L_spec_l27Any N) (L0_spec_l27Any N) ls_spec_l27Any (round_cons (key := 3) (ks := ks_spec_l27Any_l3) (by kernel_rfl) (by kernel_rfl) (rd_spec_l27Any_3 N) trivial) (N := N) (by kernel_rfl) (fn_spec_l27Any N) (.inl (by kernel_rfl))
/-! spec_DrawClubWins -/
noncomputable def h_spec_DrawClubWins : Hint := { tab, hn := [], loops := [], outs := [], ords := [] }
noncomputable def sg_spec_DrawClubWins : List AK := [.v (.sl (.int .u8)) .k]
noncomputable def F_spec_DrawClubWins (N : Nat) (x : AVals sg_spec_DrawClubWins) (kf : Ret → Option Ret) : Option Ret := spec_DrawClubWins N x.1 (fun r0 r1 => kf ⟨[⟨(.sl tQIIIIILIE), (.o 54 none (.p .k (.p .k (.p .k (.p .k (.p .k (.o 3 none .k))))))), r0⟩, ⟨(.int .i64), .k, r1⟩], []⟩)
noncomputable def run_spec_DrawClubWins (N : Nat) := runOf sg_spec_DrawClubWins (F_spec_DrawClubWins N)
noncomputable def es_spec_DrawClubWins (N : Nat) : List Entry := [⟨47, [.val], (run_spec_l1New N)⟩, ⟨70, [.lend], (run_spec_l19Any N)⟩, ⟨50, [.lend, .val], (run_spec_l1Below N)⟩]
noncomputable def body_spec_DrawClubWins : Code := match Try.f27.body with | some c => c | none => .skip
noncomputable def L_spec_DrawClubWins (N n : Nat) (key : Nat) (S : St) (K : Ks) : Option Ret := none
theorem L0_spec_DrawClubWins (N key : Nat) (S : St) (K : Ks) : L_spec_DrawClubWins N 0 key S K = none := rfl
theorem ls_spec_DrawClubWins : loopsIn body_spec_DrawClubWins = [] := by kernel_rfl
theorem fn_spec_DrawClubWins (N : Nat) (x : AVals sg_spec_DrawClubWins) (kf : Ret → Option Ret) : F_spec_DrawClubWins N x kf = peFunc h_spec_DrawClubWins (Orc.of (es_spec_DrawClubWins N)) (L_spec_DrawClubWins N N) Try.f27 (ashape sg_spec_DrawClubWins x) kf := by kernel_rfl
theorem sd_spec_DrawClubWins {Γ : Gl} (N : Nat) : Sound Γ Try.prog 27 (run_spec_DrawClubWins N) := fun_ok2 (hh := h_spec_DrawClubWins) mixed tab_ok (es := es_spec_DrawClubWins N) ⟨sd_spec_l1New N, ⟨sd_spec_l19Any N, ⟨sd_spec_l1Below N, trivial⟩⟩⟩ (fn := Try.f27) (body := body_spec_DrawClubWins) (by kernel_rfl) (by kernel_rfl) (by kernel_rfl) (by kernel_rfl) (by kernel_rfl) (Lf := L_spec_DrawClubWins N) (L0_spec_DrawClubWins N) ls_spec_DrawClubWins trivial (N := N) (by kernel_rfl) (fn_spec_DrawClubWins N) (.inl (by kernel_rfl))
/-! impl_ClubWins -/
noncomputable def ks_impl_ClubWins_l5 : List Kd := [dK, .v (.int .i64) .k, dK, dK, dK, .v (.int .i64) .k, dK, dK, dK, dK, dK, dK, .v (.sl tQIIIIILIE) .k, .v (.int .i64) .k, .v (.int .i64) .k, dK, dK, dK, dK, dK, dK, dK, dK, dK, dK, dK, dK, dK]
noncomputable def ko_impl_ClubWins_l5_0 : List Kd := [dK, dK, dK, dK, dK, .v (.int .i64) .k, dK, dK, dK, dK, dK, dK, dK, dK, dK, dK, dK, dK, dK, dK, dK, dK, dK, dK, dK, dK, dK, dK]
noncomputable def h_impl_ClubWins : Hint := { tab, hn := [], loops := [(5, ks_impl_ClubWins_l5)], outs := [(5, 2, ko_impl_ClubWins_l5_0)], ords := [] }
noncomputable def sg_impl_ClubWins : List AK := [.v (.sl tQIIIIILIE) .k, .v (.int .i64) .k]
noncomputable def F_impl_ClubWins (N : Nat) (x : AVals sg_impl_ClubWins) (kf : Ret → Option Ret) : Option Ret := impl_ClubWins N x.1 x.2.1 (fun r0 => kf ⟨[⟨(.int .i64), .k, r0⟩], []⟩)
noncomputable def run_impl_ClubWins (N : Nat) := runOf sg_impl_ClubWins (F_impl_ClubWins N)
noncomputable def es_impl_ClubWins (N : Nat) : List Entry := [⟨39, [.val], (run_impl_AreTeams N)⟩]
noncomputable def body_impl_ClubWins : Code := match Try.f28.body with | some c => c | none => .skip
noncomputable def L_impl_ClubWins (N n : Nat) (key : Nat) (S : St) (K : Ks) : Option Ret := bif Nat.beq key 5 then withVals ks_impl_ClubWins_l5 S (fun x => impl_ClubWins_l5 x.1 x.2.2.1 x.2.2.2.1 n (fun z0 => K (.x 0) (shape ko_impl_ClubWins_l5_0 (z0, ()))) x.2.1 x.2.2.2.2.1) else none
theorem L0_impl_ClubWins (N key : Nat) (S : St) (K : Ks) : L_impl_ClubWins N 0 key S K = none := (bif0 (withVals0 fun _ => rfl) rfl)
noncomputable def c_impl_ClubWins_0 : Code := (loopsIn body_impl_ClubWins).getD 0 .skip
theorem ls_impl_ClubWins : loopsIn body_impl_ClubWins = [c_impl_ClubWins_0] := by kernel_rfl
theorem rd_impl_ClubWins_5 (N n : Nat) (x : Vals ks_impl_ClubWins_l5) (K : Ks) : L_impl_ClubWins N (n + 1) 5 (shape ks_impl_ClubWins_l5 x) (h_impl_ClubWins.onOut 5 K) = peRound h_impl_ClubWins (Orc.of (es_impl_ClubWins N)) (mixL (L_impl_ClubWins N) N n 5) c_impl_ClubWins_0 (shape ks_impl_ClubWins_l5 x) (h_impl_ClubWins.onOut 5 K) := by kernel_rfl
theorem fn_impl_ClubWins (N : Nat) (x : AVals sg_impl_ClubWins) (kf : Ret → Option Ret) : F_impl_ClubWins N x kf = peFunc h_impl_ClubWins (Orc.of (es_impl_ClubWins N)) (L_impl_ClubWins N N) Try.f28 (ashape sg_impl_ClubWins x) kf := by kernel_rfl
theorem sd_impl_ClubWins {Γ : Gl} (N : Nat) : Sound Γ Try.prog 28 (run_impl_ClubWins N) := fun_ok2 (hh := h_impl_ClubWins) mixed tab_ok (es := es_impl_ClubWins N) ⟨sd_impl_AreTeams N, trivial⟩ (fn := Try.f28) (body := body_impl_ClubWins) (by kernel_rfl) (by kernel_rfl) (by kernel_rfl) (by kernel_rfl) (by kernel_rfl) (Lf := L_impl_ClubWins N) (L0_impl_ClubWins N) ls_impl_ClubWins (round_cons (key := 5) (ks := ks_impl_ClubWins_l5) (by kernel_rfl) (by kernel_rfl) (rd_impl_ClubWins_5 N) trivial) (N := N) (by kernel_rfl) (fn_impl_ClubWins N) (.inl (by kernel_rfl))
/-! spec_DrawAveragePoints -/
noncomputable def h_spec_DrawAveragePoints : Hint := { tab, hn := [], loops := [], outs := [], ords := [] }
noncomputable def sg_spec_DrawAveragePoints : List AK := [.v (.sl (.int .u8)) .k]
noncomputable def F_spec_DrawAveragePoints (N : Nat) (x : AVals sg_spec_DrawAveragePoints) (kf : Ret → Option Ret) : Option Ret := spec_DrawAveragePoints N x.1 (fun r0 => kf ⟨[⟨tQIIIIILIE, (.p .k (.p .k (.p .k (.p .k (.p .k (.o 3 none .k)))))), r0⟩], []⟩)
noncomputable def run_spec_DrawAveragePoints (N : Nat) := runOf sg_spec_DrawAveragePoints (F_spec_DrawAveragePoints N)
noncomputable def es_spec_DrawAveragePoints (N : Nat) : List Entry := [⟨47, [.val], (run_spec_l1New N)⟩, ⟨70, [.lend], (run_spec_l19Any N)⟩]
noncomputable def body_spec_DrawAveragePoints : Code := match Try.f71.body with | some c => c | none => .skip
noncomputable def L_spec_DrawAveragePoints (N n : Nat) (key : Nat) (S : St) (K : Ks) : Option Ret := none
theorem L0_spec_DrawAveragePoints (N key : Nat) (S : St) (K : Ks) : L_spec_DrawAveragePoints N 0 key S K = none := rfl
theorem ls_spec_DrawAveragePoints : loopsIn body_spec_DrawAveragePoints = [] := by kernel_rfl
theorem fn_spec_DrawAveragePoints (N : Nat) (x : AVals sg_spec_DrawAveragePoints) (kf : Ret → Option Ret) : F_spec_DrawAveragePoints N x kf = peFunc h_spec_DrawAveragePoints (Orc.of (es_spec_DrawAveragePoints N)) (L_spec_DrawAveragePoints N N) Try.f71 (ashape sg_spec_DrawAveragePoints x) kf := by kernel_rfl
theorem sd_spec_DrawAveragePoints {Γ : Gl} (N : Nat) : Sound Γ Try.prog 71 (run_spec_DrawAveragePoints N) := fun_ok2 (hh := h_spec_DrawAveragePoints) mixed tab_ok (es := es_spec_DrawAveragePoints N) ⟨sd_spec_l1New N, ⟨sd_spec_l19Any N, trivial⟩⟩ (fn := Try.f71) (body := body_spec_DrawAveragePoints) (by kernel_rfl) (by kernel_rfl) (by kernel_rfl) (by kernel_rfl) (by kernel_rfl) (Lf := L_spec_DrawAveragePoints N) (L0_spec_DrawAveragePoints N) ls_spec_DrawAveragePoints trivial (N := N) (by kernel_rfl) (fn_spec_DrawAveragePoints N) (.inl (by kernel_rfl))
/-! spec_DrawSideShare -/
noncomputable def h_spec_DrawSideShare : Hint := { tab, hn := [], loops := [], outs := [], ords := [] }
noncomputable def sg_spec_DrawSideShare : List AK := [.v (.sl (.int .u8)) .k]
noncomputable def F_spec_DrawSideShare (N : Nat) (x : AVals sg_spec_DrawSideShare) (kf : Ret → Option Ret) : Option Ret := spec_DrawSideShare N x.1 (fun r0 => kf ⟨[⟨tQIIIIILIE, (.p .k (.p .k (.p .k (.p .k (.p .k (.o 3 none .k)))))), r0⟩], []⟩)
noncomputable def run_spec_DrawSideShare (N : Nat) := runOf sg_spec_DrawSideShare (F_spec_DrawSideShare N)
noncomputable def es_spec_DrawSideShare (N : Nat) : List Entry := [⟨71, [.val], (run_spec_DrawAveragePoints N)⟩]
noncomputable def body_spec_DrawSideShare : Code := match Try.f29.body with | some c => c | none => .skip
noncomputable def L_spec_DrawSideShare (N n : Nat) (key : Nat) (S : St) (K : Ks) : Option Ret := none
theorem L0_spec_DrawSideShare (N key : Nat) (S : St) (K : Ks) : L_spec_DrawSideShare N 0 key S K = none := rfl
theorem ls_spec_DrawSideShare : loopsIn body_spec_DrawSideShare = [] := by kernel_rfl
theorem fn_spec_DrawSideShare (N : Nat) (x : AVals sg_spec_DrawSideShare) (kf : Ret → Option Ret) : F_spec_DrawSideShare N x kf = peFunc h_spec_DrawSideShare (Orc.of (es_spec_DrawSideShare N)) (L_spec_DrawSideShare N N) Try.f29 (ashape sg_spec_DrawSideShare x) kf := by kernel_rfl
theorem sd_spec_DrawSideShare {Γ : Gl} (N : Nat) : Sound Γ Try.prog 29 (run_spec_DrawSideShare N) := fun_ok2 (hh := h_spec_DrawSideShare) mixed tab_ok (es := es_spec_DrawSideShare N) ⟨sd_spec_DrawAveragePoints N, trivial⟩ (fn := Try.f29) (body := body_spec_DrawSideShare) (by kernel_rfl) (by kernel_rfl) (by kernel_rfl) (by kernel_rfl) (by kernel_rfl) (Lf := L_spec_DrawSideShare N) (L0_spec_DrawSideShare N) ls_spec_DrawSideShare trivial (N := N) (by kernel_rfl) (fn_spec_DrawSideShare N) (.inl (by kernel_rfl))
/-! impl_SideShare -/
noncomputable def h_impl_SideShare : Hint := { tab, hn := [], loops := [], outs := [], ords := [] }
noncomputable def sg_impl_SideShare : List AK := [.v tQIIIIILIE .k]
noncomputable def F_impl_SideShare (N : Nat) (x : AVals sg_impl_SideShare) (kf : Ret → Option Ret) : Option Ret := impl_SideShare N x.1 (fun r0 => kf ⟨[⟨(.int .i64), .k, r0⟩], []⟩)
noncomputable def run_impl_SideShare (N : Nat) := runOf sg_impl_SideShare (F_impl_SideShare N)
noncomputable def es_impl_SideShare (N : Nat) : List Entry := [⟨45, [.val, .val, .val], (run_impl_InRange N)⟩]
noncomputable def body_impl_SideShare : Code := match Try.f30.body with | some c => c | none => .skip
noncomputable def L_impl_SideShare (N n : Nat) (key : Nat) (S : St) (K : Ks) : Option Ret := none
theorem L0_impl_SideShare (N key : Nat) (S : St) (K : Ks) : L_impl_SideShare N 0 key S K = none := rfl
theorem ls_impl_SideShare : loopsIn body_impl_SideShare = [] := by kernel_rfl
theorem fn_impl_SideShare (N : Nat) (x : AVals sg_impl_SideShare) (kf : Ret → Option Ret) : F_impl_SideShare N x kf = peFunc h_impl_SideShare (Orc.of (es_impl_SideShare N)) (L_impl_SideShare N N) Try.f30 (ashape sg_impl_SideShare x) kf := by kernel_rfl
theorem sd_impl_SideShare {Γ : Gl} (N : Nat) : Sound Γ Try.prog 30 (run_impl_SideShare N) := fun_ok2 (hh := h_impl_SideShare) mixed tab_ok (es := es_impl_SideShare N) ⟨sd_impl_InRange N, trivial⟩ (fn := Try.f30) (body := body_impl_SideShare) (by kernel_rfl) (by kernel_rfl) (by kernel_rfl) (by kernel_rfl) (by kernel_rfl) (Lf := L_impl_SideShare N) (L0_impl_SideShare N) ls_impl_SideShare trivial (N := N) (by kernel_rfl) (fn_impl_SideShare N) (.inl (by kernel_rfl))
/-! spec_SideShare -/
noncomputable def h_spec_SideShare : Hint := { tab, hn := [], loops := [], outs := [], ords := [] }
noncomputable def sg_spec_SideShare : List AK := [.v tQIIIIILIE .k]
noncomputable def F_spec_SideShare (N : Nat) (x : AVals sg_spec_SideShare) (kf : Ret → Option Ret) : Option Ret := spec_SideShare N x.1 (fun r0 => kf ⟨[⟨(.int .i64), .k, r0⟩], []⟩)
noncomputable def run_spec_SideShare (N : Nat) := runOf sg_spec_SideShare (F_spec_SideShare N)
noncomputable def es_spec_SideShare (N : Nat) : List Entry := [⟨72, [.val, .val, .val], (run_spec_l1In N)⟩]
noncomputable def body_spec_SideShare : Code := match Try.f31.body with | some c => c | none => .skip
noncomputable def L_spec_SideShare (N n : Nat) (key : Nat) (S : St) (K : Ks) : Option Ret := none
theorem L0_spec_SideShare (N key : Nat) (S : St) (K : Ks) : L_spec_SideShare N 0 key S K = none := rfl
theorem ls_spec_SideShare : loopsIn body_spec_SideShare = [] := by kernel_rfl
theorem fn_spec_SideShare (N : Nat) (x : AVals sg_spec_SideShare) (kf : Ret → Option Ret) : F_spec_SideShare N x kf = peFunc h_spec_SideShare (Orc.of (es_spec_SideShare N)) (L_spec_SideShare N N) Try.f31 (ashape sg_spec_SideShare x) kf := by kernel_rfl
theorem sd_spec_SideShare {Γ : Gl} (N : Nat) : Sound Γ Try.prog 31 (run_spec_SideShare N) := fun_ok2 (hh := h_spec_SideShare) mixed tab_ok (es := es_spec_SideShare N) ⟨sd_spec_l1In N, trivial⟩ (fn := Try.f31) (body := body_spec_SideShare) (by kernel_rfl) (by kernel_rfl) (by kernel_rfl) (by kernel_rfl) (by kernel_rfl) (Lf := L_spec_SideShare N) (L0_spec_SideShare N) ls_spec_SideShare trivial (N := N) (by kernel_rfl) (fn_spec_SideShare N) (.inl (by kernel_rfl))
/-! spec_DrawAreJudges -/
noncomputable def h_spec_DrawAreJudges : Hint := { tab, hn := [], loops := [], outs := [], ords := [] }
noncomputable def sg_spec_DrawAreJudges : List AK := [.v (.sl (.int .u8)) .k]
noncomputable def F_spec_DrawAreJudges (N : Nat) (x : AVals sg_spec_DrawAreJudges) (kf : Ret → Option Ret) : Option Ret := spec_DrawAreJudges N x.1 (fun r0 => kf ⟨[⟨(.sl tQIILIE), (.o 85 none (.p .k (.p .k (.o 3 none .k)))), r0⟩], []⟩)
noncomputable def run_spec_DrawAreJudges (N : Nat) := runOf sg_spec_DrawAreJudges (F_spec_DrawAreJudges N)
noncomputable def es_spec_DrawAreJudges (N : Nat) : List Entry := [⟨47, [.val], (run_spec_l1New N)⟩, ⟨88, [.lend], (run_spec_l21Any N)⟩]
noncomputable def body_spec_DrawAreJudges : Code := match Try.f73.body with | some c => c | none => .skip
noncomputable def L_spec_DrawAreJudges (N n : Nat) (key : Nat) (S : St) (K : Ks) : Option Ret := none
theorem L0_spec_DrawAreJudges (N key : Nat) (S : St) (K : Ks) : L_spec_DrawAreJudges N 0 key S K = none := rfl
theorem ls_spec_DrawAreJudges : loopsIn body_spec_DrawAreJudges = [] := by kernel_rfl
theorem fn_spec_DrawAreJudges (N : Nat) (x : AVals sg_spec_DrawAreJudges) (kf : Ret → Option Ret) : F_spec_DrawAreJudges N x kf = peFunc h_spec_DrawAreJudges (Orc.of (es_spec_DrawAreJudges N)) (L_spec_DrawAreJudges N N) Try.f73 (ashape sg_spec_DrawAreJudges x) kf := by kernel_rfl
theorem sd_spec_DrawAreJudges {Γ : Gl} (N : Nat) : Sound Γ Try.prog 73 (run_spec_DrawAreJudges N) := fun_ok2 (hh := h_spec_DrawAreJudges) mixed tab_ok (es := es_spec_DrawAreJudges N) ⟨sd_spec_l1New N, ⟨sd_spec_l21Any N, trivial⟩⟩ (fn := Try.f73) (body := body_spec_DrawAreJudges) (by kernel_rfl) (by kernel_rfl) (by kernel_rfl) (by kernel_rfl) (by kernel_rfl) (Lf := L_spec_DrawAreJudges N) (L0_spec_DrawAreJudges N) ls_spec_DrawAreJudges trivial (N := N) (by kernel_rfl) (fn_spec_DrawAreJudges N) (.inl (by kernel_rfl))
/-! spec_DrawBusiestJudge -/
noncomputable def h_spec_DrawBusiestJudge : Hint := { tab, hn := [], loops := [], outs := [], ords := [] }
noncomputable def sg_spec_DrawBusiestJudge : List AK := [.v (.sl (.int .u8)) .k]
noncomputable def F_spec_DrawBusiestJudge (N : Nat) (x : AVals sg_spec_DrawBusiestJudge) (kf : Ret → Option Ret) : Option Ret := spec_DrawBusiestJudge N x.1 (fun r0 => kf ⟨[⟨(.sl tQIILIE), (.o 85 none (.p .k (.p .k (.o 3 none .k)))), r0⟩], []⟩)
noncomputable def run_spec_DrawBusiestJudge (N : Nat) := runOf sg_spec_DrawBusiestJudge (F_spec_DrawBusiestJudge N)
noncomputable def es_spec_DrawBusiestJudge (N : Nat) : List Entry := [⟨73, [.val], (run_spec_DrawAreJudges N)⟩]
noncomputable def body_spec_DrawBusiestJudge : Code := match Try.f32.body with | some c => c | none => .skip
noncomputable def L_spec_DrawBusiestJudge (N n : Nat) (key : Nat) (S : St) (K : Ks) : Option Ret := none
theorem L0_spec_DrawBusiestJudge (N key : Nat) (S : St) (K : Ks) : L_spec_DrawBusiestJudge N 0 key S K = none := rfl
theorem ls_spec_DrawBusiestJudge : loopsIn body_spec_DrawBusiestJudge = [] := by kernel_rfl
theorem fn_spec_DrawBusiestJudge (N : Nat) (x : AVals sg_spec_DrawBusiestJudge) (kf : Ret → Option Ret) : F_spec_DrawBusiestJudge N x kf = peFunc h_spec_DrawBusiestJudge (Orc.of (es_spec_DrawBusiestJudge N)) (L_spec_DrawBusiestJudge N N) Try.f32 (ashape sg_spec_DrawBusiestJudge x) kf := by kernel_rfl
theorem sd_spec_DrawBusiestJudge {Γ : Gl} (N : Nat) : Sound Γ Try.prog 32 (run_spec_DrawBusiestJudge N) := fun_ok2 (hh := h_spec_DrawBusiestJudge) mixed tab_ok (es := es_spec_DrawBusiestJudge N) ⟨sd_spec_DrawAreJudges N, trivial⟩ (fn := Try.f32) (body := body_spec_DrawBusiestJudge) (by kernel_rfl) (by kernel_rfl) (by kernel_rfl) (by kernel_rfl) (by kernel_rfl) (Lf := L_spec_DrawBusiestJudge N) (L0_spec_DrawBusiestJudge N) ls_spec_DrawBusiestJudge trivial (N := N) (by kernel_rfl) (fn_spec_DrawBusiestJudge N) (.inl (by kernel_rfl))
/-! impl_BusiestJudge -/
noncomputable def ks_impl_BusiestJudge_l5 : List Kd := [dK, dK, dK, .v (.ptr tQIILIE) (.o 85 none .k), dK, dK, dK, dK, dK, dK, dK, dK, .v (.sl tQIILIE) .k, .v (.int .i64) .k, .v (.int .i64) .k, dK, dK, dK, dK, dK, dK, dK, dK, dK, dK, dK, dK, dK, dK]
noncomputable def ko_impl_BusiestJudge_l5_0 : List Kd := [dK, dK, dK, .v (.ptr tQIILIE) (.o 85 none .k), dK, dK, dK, dK, dK, dK, dK, dK, dK, dK, dK, dK, dK, dK, dK, dK, dK, dK, dK, dK, dK, dK, dK, dK, dK]
noncomputable def h_impl_BusiestJudge : Hint := { tab, hn := [], loops := [(5, ks_impl_BusiestJudge_l5)], outs := [(5, 2, ko_impl_BusiestJudge_l5_0)], ords := [] }
noncomputable def sg_impl_BusiestJudge : List AK := [.v (.sl tQIILIE) .k]
noncomputable def F_impl_BusiestJudge (N : Nat) (x : AVals sg_impl_BusiestJudge) (kf : Ret → Option Ret) : Option Ret := impl_BusiestJudge N x.1 (fun r0 => kf ⟨[⟨(.int .i64), .k, r0⟩], []⟩)
noncomputable def run_impl_BusiestJudge (N : Nat) := runOf sg_impl_BusiestJudge (F_impl_BusiestJudge N)
noncomputable def es_impl_BusiestJudge (N : Nat) : List Entry := []
noncomputable def body_impl_BusiestJudge : Code := match Try.f33.body with | some c => c | none => .skip
noncomputable def L_impl_BusiestJudge (N n : Nat) (key : Nat) (S : St) (K : Ks) : Option Ret := bif Nat.beq key 5 then withVals ks_impl_BusiestJudge_l5 S (fun x => impl_BusiestJudge_l5 x.2.1 x.2.2.1 n (fun z0 => K (.x 0) (shape ko_impl_BusiestJudge_l5_0 (z0, ()))) x.1 x.2.2.2.1) else none
theorem L0_impl_BusiestJudge (N key : Nat) (S : St) (K : Ks) : L_impl_BusiestJudge N 0 key S K = none := (bif0 (withVals0 fun _ => rfl) rfl)
noncomputable def c_impl_BusiestJudge_0 : Code := (loopsIn body_impl_BusiestJudge).getD 0 .skip
theorem ls_impl_BusiestJudge : loopsIn body_impl_BusiestJudge = [c_impl_BusiestJudge_0] := by kernel_rfl
theorem rd_impl_BusiestJudge_5 (N n : Nat) (x : Vals ks_impl_BusiestJudge_l5) (K : Ks) : L_impl_BusiestJudge N (n + 1) 5 (shape ks_impl_BusiestJudge_l5 x) (h_impl_BusiestJudge.onOut 5 K) = peRound h_impl_BusiestJudge (Orc.of (es_impl_BusiestJudge N)) (mixL (L_impl_BusiestJudge N) N n 5) c_impl_BusiestJudge_0 (shape ks_impl_BusiestJudge_l5 x) (h_impl_BusiestJudge.onOut 5 K) := by kernel_rfl
theorem fn_impl_BusiestJudge (N : Nat) (x : AVals sg_impl_BusiestJudge) (kf : Ret → Option Ret) : F_impl_BusiestJudge N x kf = peFunc h_impl_BusiestJudge (Orc.of (es_impl_BusiestJudge N)) (L_impl_BusiestJudge N N) Try.f33 (ashape sg_impl_BusiestJudge x) kf := by kernel_rfl
theorem sd_impl_BusiestJudge {Γ : Gl} (N : Nat) : Sound Γ Try.prog 33 (run_impl_BusiestJudge N) := fun_ok2 (hh := h_impl_BusiestJudge) mixed tab_ok (es := es_impl_BusiestJudge N) trivial (fn := Try.f33) (body := body_impl_BusiestJudge) (by kernel_rfl) (by kernel_rfl) (by kernel_rfl) (by kernel_rfl) (by kernel_rfl) (Lf := L_impl_BusiestJudge N) (L0_impl_BusiestJudge N) ls_impl_BusiestJudge (round_cons (key := 5) (ks := ks_impl_BusiestJudge_l5) (by kernel_rfl) (by kernel_rfl) (rd_impl_BusiestJudge_5 N) trivial) (N := N) (by kernel_rfl) (fn_impl_BusiestJudge N) (.inl (by kernel_rfl))
/-! spec_l4Copy -/
noncomputable def ks_spec_l4Copy_l3 : List Kd := [dK, .v (.ptr tQILLIE) (.o 45 none .k), .v (.ptr tQILLIE) (.o 45 none (.p .k (.o 28 none (.o 3 none .k)))), .v (.ptr tQILLIE) (.o 45 none (.p .k (.o 28 none (.o 3 none .k)))), .v (.int .i64) .k, dK, dK, dK, dK, dK, dK, dK, dK, dK, dK, dK, dK, dK, dK, dK, dK, dK, dK, dK, dK, dK, dK, dK]
noncomputable def ko_spec_l4Copy_l3_0 : List Kd := [dK, dK, .v (.ptr tQILLIE) (.o 45 none (.p .k (.o 28 none (.o 3 none .k)))), .v (.ptr tQILLIE) (.o 45 none (.p .k (.o 28 none (.o 3 none .k)))), dK, dK, dK, dK, dK, dK, dK, dK, dK, dK, dK, dK, dK, dK, dK, dK, dK, dK, dK, dK, dK, dK, dK, dK]
noncomputable def h_spec_l4Copy : Hint := { tab, hn := [], loops := [(3, ks_spec_l4Copy_l3)], outs := [(3, 2, ko_spec_l4Copy_l3_0)], ords := [(5, (OT.seq [3, 4, 5, 6, 7, 0] (.par [1, 2, 8, 9] [[17], [3, 15, 16]] (OT.seq [10, 11, 12] .done))))] }
noncomputable def sg_spec_l4Copy : List AK := [.v tQILLIE .k]
noncomputable def F_spec_l4Copy (N : Nat) (x : AVals sg_spec_l4Copy) (kf : Ret → Option Ret) : Option Ret := spec_l4Copy N x.1 (fun r0 => kf ⟨[⟨tQILLIE, (.p .k (.o 28 none (.o 3 none .k))), r0⟩], []⟩)
noncomputable def run_spec_l4Copy (N : Nat) := runOf sg_spec_l4Copy (F_spec_l4Copy N)
noncomputable def es_spec_l4Copy (N : Nat) : List Entry := []
noncomputable def body_spec_l4Copy : Code := match Try.f168.body with | some c => c | none => .skip
noncomputable def L_spec_l4Copy (N n : Nat) (key : Nat) (S : St) (K : Ks) : Option Ret := bif Nat.beq key 3 then withVals ks_spec_l4Copy_l3 S (fun x => spec_l4Copy_l3 x.1 x.2.1 n (fun z0 => K (.x 0) (shape ko_spec_l4Copy_l3_0 (x.2.1, z0, ()))) x.2.2.1 x.2.2.2.1) else none
theorem L0_spec_l4Copy (N key : Nat) (S : St) (K : Ks) : L_spec_l4Copy N 0 key S K = none := (bif0 (withVals0 fun _ => rfl) rfl)
noncomputable def c_spec_l4Copy_0 : Code := (loopsIn body_spec_l4Copy).getD 0 .skip
theorem ls_spec_l4Copy : loopsIn body_spec_l4Copy = [c_spec_l4Copy_0] := by kernel_rfl
theorem rd_spec_l4Copy_3 (N n : Nat) (x : Vals ks_spec_l4Copy_l3) (K : Ks) : L_spec_l4Copy N (n + 1) 3 (shape ks_spec_l4Copy_l3 x) (h_spec_l4Copy.onOut 3 K) = peRound h_spec_l4Copy (Orc.of (es_spec_l4Copy N)) (mixL (L_spec_l4Copy N) N n 3) c_spec_l4Copy_0 (shape ks_spec_l4Copy_l3 x) (h_spec_l4Copy.onOut 3 K) := by kernel_rfl
theorem fn_spec_l4Copy (N : Nat) (x : AVals sg_spec_l4Copy) (kf : Ret → Option Ret) : F_spec_l4Copy N x kf = peFunc h_spec_l4Copy (Orc.of (es_spec_l4Copy N)) (L_spec_l4Copy N N) Try.f168 (ashape sg_spec_l4Copy x) kf := by kernel_rfl
theorem sd_spec_l4Copy {Γ : Gl} (N : Nat) : Sound Γ Try.prog 168 (run_spec_l4Copy N) := fun_ok2 (hh := h_spec_l4Copy) mixed tab_ok (es := es_spec_l4Copy N) trivial (fn := Try.f168) (body := body_spec_l4Copy) (by kernel_rfl) (by kernel_rfl) (by kernel_rfl) (by kernel_rfl) (by kernel_rfl) (Lf := L_spec_l4Copy N) (L0_spec_l4Copy N) ls_spec_l4Copy (round_cons (key := 3) (ks := ks_spec_l4Copy_l3) (by kernel_rfl) (by kernel_rfl) (rd_spec_l4Copy_3 N) trivial) (N := N) (by kernel_rfl) (fn_spec_l4Copy N) (.inl (by kernel_rfl))
/-! spec_AddAttack -/
noncomputable def ks_spec_AddAttack_l4 : List Kd := [dK, .v (.int .i64) .k, .v (.int .i64) .k, .v (.ptr tQILLIE) (.o 45 none .k), dK, dK, .v (.ptr tQILLIE) (.o 45 none (.p .k (.o 28 none (.o 3 none .k)))), dK, .v (.ptr tQILLIE) (.o 45 none (.p .k (.o 28 none (.o 3 none .k)))), .v .bool .k, .v (.int .i64) .k, dK, dK, dK, dK, dK, dK, dK, dK, dK, dK, dK, dK, dK, dK, dK, dK, dK, dK, dK, dK, dK, dK, dK, dK, dK, dK, dK, dK, dK, dK, dK, dK, dK, dK, dK, dK, dK, dK, dK, dK, dK, dK, dK, dK, dK, dK, dK, dK, dK, dK, dK, dK, dK, dK, dK, dK, dK, dK, dK, dK, dK, dK, dK, dK, dK, dK, dK, dK, dK, dK, dK, dK, dK, dK, dK, dK, dK, dK, dK, dK]
noncomputable def ko_spec_AddAttack_l4_0 : List Kd := [dK, .v (.int .i64) .k, .v (.int .i64) .k, .v (.ptr tQILLIE) (.o 45 none .k), dK, dK, .v (.ptr tQILLIE) (.o 45 none (.p .k (.o 28 none (.o 3 none .k)))), dK, .v (.ptr tQILLIE) (.o 45 none (.p .k (.o 28 none (.o 3 none .k)))), .v .bool .k, dK, dK, dK, dK, dK, dK, dK, dK, dK, dK, dK, dK, dK, dK, dK, dK, dK, dK, dK, dK, dK, dK, dK, dK, dK, dK, dK, dK, dK, dK, dK, dK, dK, dK, dK, dK, dK, dK, dK, dK, dK, dK, dK, dK, dK, dK, dK, dK, dK, dK, dK, dK, dK, dK, dK, dK, dK, dK, dK, dK, dK, dK, dK, dK, dK, dK, dK, dK, dK, dK, dK, dK, dK, dK, dK, dK, dK, dK, dK, dK, dK]
noncomputable def h_spec_AddAttack : Hint := { tab, hn := [], loops := [(4, ks_spec_AddAttack_l4)], outs := [(4, 2, ko_spec_AddAttack_l4_0)], ords := [(10, (OT.seq [3, 0] (.par [1, 2, 4, 5] [[64], [8, 62, 63]] (OT.seq [6, 7, 8] .done))))] }
noncomputable def sg_spec_AddAttack : List AK := [.v tQILLIE .k, .v (.int .i64) .k, .v (.int .i64) .k]
noncomputable def F_spec_AddAttack (N : Nat) (x : AVals sg_spec_AddAttack) (kf : Ret → Option Ret) : Option Ret := spec_AddAttack N x.1 x.2.1 x.2.2.1 (fun r0 r1 => kf ⟨[⟨tQILLIE, (.p .k (.o 28 none (.o 3 none .k))), r0⟩, ⟨.bool, .k, r1⟩], []⟩)
noncomputable def run_spec_AddAttack (N : Nat) := runOf sg_spec_AddAttack (F_spec_AddAttack N)
noncomputable def es_spec_AddAttack (N : Nat) : List Entry := [⟨60, [.val], (run_spec_IsGraph N)⟩, ⟨168, [.val], (run_spec_l4Copy N)⟩]
noncomputable def body_spec_AddAttack : Code := match Try.f151.body with | some c => c | none => .skip
noncomputable def L_spec_AddAttack (N n : Nat) (key : Nat) (S : St) (K : Ks) : Option Ret := bif Nat.beq key 4 then withVals ks_spec_AddAttack_l4 S (fun x => spec_AddAttack_l4 N x.1 x.2.1 x.2.2.1 x.2.2.2.1 n (fun z0 z1 => K (.x 0) (shape ko_spec_AddAttack_l4_0 (x.1, x.2.1, x.2.2.1, x.2.2.2.1, z0, z1, ()))) x.2.2.2.2.1 x.2.2.2.2.2.1 x.2.2.2.2.2.2.1) else none
theorem L0_spec_AddAttack (N key : Nat) (S : St) (K : Ks) : L_spec_AddAttack N 0 key S K = none := (bif0 (withVals0 fun _ => rfl) rfl)
noncomputable def c_spec_AddAttack_0 : Code := (loopsIn body_spec_AddAttack).getD 0 .skip
theorem ls_spec_AddAttack : loopsIn body_spec_AddAttack = [c_spec_AddAttack_0] := by kernel_rfl
theorem rd_spec_AddAttack_4 (N n : Nat) (x : Vals ks_spec_AddAttack_l4) (K : Ks) : L_spec_AddAttack N (n + 1) 4 (shape ks_spec_AddAttack_l4 x) (h_spec_AddAttack.onOut 4 K) = peRound h_spec_AddAttack (Orc.of (es_spec_AddAttack N)) (mixL (L_spec_AddAttack N) N n 4) c_spec_AddAttack_0 (shape ks_spec_AddAttack_l4 x) (h_spec_AddAttack.onOut 4 K) := by kernel_rfl
theorem fn_spec_AddAttack (N : Nat) (x : AVals sg_spec_AddAttack) (kf : Ret → Option Ret) : F_spec_AddAttack N x kf = peFunc h_spec_AddAttack (Orc.of (es_spec_AddAttack N)) (L_spec_AddAttack N N) Try.f151 (ashape sg_spec_AddAttack x) kf := by kernel_rfl
theorem sd_spec_AddAttack {Γ : Gl} (N : Nat) : Sound Γ Try.prog 151 (run_spec_AddAttack N) := fun_ok2 (hh := h_spec_AddAttack) mixed tab_ok (es := es_spec_AddAttack N) ⟨sd_spec_IsGraph N, ⟨sd_spec_l4Copy N, trivial⟩⟩ (fn := Try.f151) (body := body_spec_AddAttack) (by kernel_rfl) (by kernel_rfl) (by kernel_rfl) (by kernel_rfl) (by kernel_rfl) (Lf := L_spec_AddAttack N) (L0_spec_AddAttack N) ls_spec_AddAttack (round_cons (key := 4) (ks := ks_spec_AddAttack_l4) (by kernel_rfl) (by kernel_rfl) (rd_spec_AddAttack_4 N) trivial) (N := N) (by kernel_rfl) (fn_spec_AddAttack N) (.inl (by kernel_rfl))
/-! spec_l4Draw -/
noncomputable def ks_spec_l4Draw_l3 : List Kd := [.v (.ptr tQLIIIE) (.o 108 (some 0) .k), dK, .v (.ptr tQILLIE) (.o 45 none (.p .k (.o 28 none (.o 3 none .k)))), .v (.ptr tQILLIE) (.o 45 none (.p .k (.o 28 none (.o 3 none .k)))), .v (.int .i64) .k, dK, dK, dK, dK, dK, dK, dK, dK, dK, dK, dK, dK, dK, dK, dK, dK, dK, dK, dK, dK, dK, dK, dK, dK]
noncomputable def ko_spec_l4Draw_l3_0 : List Kd := [.v (.ptr tQLIIIE) (.o 108 (some 0) .k), dK, .v (.ptr tQILLIE) (.o 45 none (.p .k (.o 28 none (.o 3 none .k)))), .v (.ptr tQILLIE) (.o 45 none (.p .k (.o 28 none (.o 3 none .k)))), dK, dK, dK, dK, dK, dK, dK, dK, dK, dK, dK, dK, dK, dK, dK, dK, dK, dK, dK, dK, dK, dK, dK, dK, dK]
noncomputable def h_spec_l4Draw : Hint := { tab, hn := [], loops := [(3, ks_spec_l4Draw_l3)], outs := [(3, 2, ko_spec_l4Draw_l3_0)], ords := [(5, (OT.seq [1, 2, 3, 5, 6] (.par [0, 4, 7, 8] [[3, 16, 18, 22], [16], [23], [0, 17, 19, 20, 21]] (OT.seq [9, 10, 11, 12, 13] .done))))], lent := some (0, false) }
noncomputable def sg_spec_l4Draw : List AK := [.v (.ptr tQLIIIE) (.o 108 (some 0) .k)]
noncomputable def F_spec_l4Draw (N : Nat) (x : AVals sg_spec_l4Draw) (kf : Ret → Option Ret) : Option Ret := spec_l4Draw N x.1 (fun r0 z => kf ⟨[⟨tQILLIE, (.p .k (.o 28 none (.o 3 none .k))), r0⟩], [⟨(.ptr tQLIIIE), (.o 108 (some 0) .k), z⟩]⟩)
noncomputable def run_spec_l4Draw (N : Nat) := runOf sg_spec_l4Draw (F_spec_l4Draw N)
noncomputable def es_spec_l4Draw (N : Nat) : List Entry := [⟨50, [.lend, .val], (run_spec_l1Below N)⟩, ⟨151, [.val, .val, .val], (run_spec_AddAttack N)⟩]
noncomputable def body_spec_l4Draw : Code := match Try.f125.body with | some c => c | none => .skip
noncomputable def L_spec_l4Draw (N n : Nat) (key : Nat) (S : St) (K : Ks) : Option Ret := bif Nat.beq key 3 then withVals ks_spec_l4Draw_l3 S (fun x => spec_l4Draw_l3 N x.2.1 n (fun z0 z1 => K (.x 0) (shape ko_spec_l4Draw_l3_0 (z0, x.2.1, z1, ()))) x.1 x.2.2.1 x.2.2.2.1) else none
theorem L0_spec_l4Draw (N key : Nat) (S : St) (K : Ks) : L_spec_l4Draw N 0 key S K = none := (bif0 (withVals0 fun _ => rfl) rfl)
noncomputable def c_spec_l4Draw_0 : Code := (loopsIn body_spec_l4Draw).getD 0 .skip
theorem ls_spec_l4Draw : loopsIn body_spec_l4Draw = [c_spec_l4Draw_0] := by kernel_rfl
theorem rd_spec_l4Draw_3 (N n : Nat) (x : Vals ks_spec_l4Draw_l3) (K : Ks) : L_spec_l4Draw N (n + 1) 3 (shape ks_spec_l4Draw_l3 x) (h_spec_l4Draw.onOut 3 K) = peRound h_spec_l4Draw (Orc.of (es_spec_l4Draw N)) (mixL (L_spec_l4Draw N) N n 3) c_spec_l4Draw_0 (shape ks_spec_l4Draw_l3 x) (h_spec_l4Draw.onOut 3 K) := by kernel_rfl
theorem fn_spec_l4Draw (N : Nat) (x : AVals sg_spec_l4Draw) (kf : Ret → Option Ret) : F_spec_l4Draw N x kf = peFunc h_spec_l4Draw (Orc.of (es_spec_l4Draw N)) (L_spec_l4Draw N N) Try.f125 (ashape sg_spec_l4Draw x) kf := by kernel_rfl
theorem sd_spec_l4Draw {Γ : Gl} (N : Nat) : Sound Γ Try.prog 125 (run_spec_l4Draw N) := fun_ok2 (hh := h_spec_l4Draw) mixed tab_ok (es := es_spec_l4Draw N) ⟨sd_spec_l1Below N, ⟨sd_spec_AddAttack N, trivial⟩⟩ (fn := Try.f125) (body := body_spec_l4Draw) (by kernel_rfl) (by kernel_rfl) (by kernel_rfl) (by kernel_rfl) (by kernel_rfl) (Lf := L_spec_l4Draw N) (L0_spec_l4Draw N) ls_spec_l4Draw (round_cons (key := 3) (ks := ks_spec_l4Draw_l3) (by kernel_rfl) (by kernel_rfl) (rd_spec_l4Draw_3 N) trivial) (N := N) (by kernel_rfl) (fn_spec_l4Draw N) (.inl (by kernel_rfl))
/-! spec_l4Raw -/
noncomputable def h_spec_l4Raw : Hint := { tab, hn := [(4, .k)], loops := [], outs := [], ords := [], lent := some (0, false) }
noncomputable def sg_spec_l4Raw : List AK := [.v (.ptr tQLIIIE) (.o 108 (some 0) .k)]
noncomputable def F_spec_l4Raw (N : Nat) (x : AVals sg_spec_l4Raw) (kf : Ret → Option Ret) : Option Ret := spec_l4Raw N x.1 (fun r0 z => kf ⟨[⟨(.int .i64), .k, r0⟩], [⟨(.ptr tQLIIIE), (.o 108 (some 0) .k), z⟩]⟩)
noncomputable def run_spec_l4Raw (N : Nat) := runOf sg_spec_l4Raw (F_spec_l4Raw N)
noncomputable def es_spec_l4Raw (N : Nat) : List Entry := [⟨102, [.lend, .val], (run_spec_l1Int N)⟩]
noncomputable def body_spec_l4Raw : Code := match Try.f126.body with | some c => c | none => .skip
noncomputable def L_spec_l4Raw (N n : Nat) (key : Nat) (S : St) (K : Ks) : Option Ret := none
theorem L0_spec_l4Raw (N key : Nat) (S : St) (K : Ks) : L_spec_l4Raw N 0 key S K = none := rfl
theorem ls_spec_l4Raw : loopsIn body_spec_l4Raw = [] := by kernel_rfl
theorem fn_spec_l4Raw (N : Nat) (x : AVals sg_spec_l4Raw) (kf : Ret → Option Ret) : F_spec_l4Raw N x kf = peFunc h_spec_l4Raw (Orc.of (es_spec_l4Raw N)) (L_spec_l4Raw N N) Try.f126 (ashape sg_spec_l4Raw x) kf := by kernel_rfl
theorem sd_spec_l4Raw {Γ : Gl} (N : Nat) : Sound Γ Try.prog 126 (run_spec_l4Raw N) := fun_ok2 (hh := h_spec_l4Raw) mixed tab_ok (es := es_spec_l4Raw N) ⟨sd_spec_l1Int N, trivial⟩ (fn := Try.f126) (body := body_spec_l4Raw) (by kernel_rfl) (by kernel_rfl) (by kernel_rfl) (by kernel_rfl) (by kernel_rfl) (Lf := L_spec_l4Raw N) (L0_spec_l4Raw N) ls_spec_l4Raw trivial (N := N) (by kernel_rfl) (fn_spec_l4Raw N) (.inl (by kernel_rfl))
/-! spec_l4Any -/
noncomputable def h_spec_l4Any : Hint := { tab, hn := [], loops := [], outs := [], ords := [(8, (OT.seq [2, 0, 4] (.par [1, 3, 5, 6, 7] [[3, 23, 24]] (OT.seq [8, 9, 10] .done))))], lent := some (0, false) }
noncomputable def sg_spec_l4Any : List AK := [.v (.ptr tQLIIIE) (.o 108 (some 0) .k)]
noncomputable def F_spec_l4Any (N : Nat) (x : AVals sg_spec_l4Any) (kf : Ret → Option Ret) : Option Ret := spec_l4Any N x.1 (fun r0 z => kf ⟨[⟨tQILLIE, (.p .k (.o 28 none (.o 3 none .k))), r0⟩], [⟨(.ptr tQLIIIE), (.o 108 (some 0) .k), z⟩]⟩)
noncomputable def run_spec_l4Any (N : Nat) := runOf sg_spec_l4Any (F_spec_l4Any N)
noncomputable def es_spec_l4Any (N : Nat) : List Entry := [⟨125, [.lend], (run_spec_l4Draw N)⟩, ⟨50, [.lend, .val], (run_spec_l1Below N)⟩, ⟨126, [.lend], (run_spec_l4Raw N)⟩]
noncomputable def body_spec_l4Any : Code := match Try.f103.body with | some c => c | none => .skip
noncomputable def L_spec_l4Any (N n : Nat) (key : Nat) (S : St) (K : Ks) : Option Ret := none
theorem L0_spec_l4Any (N key : Nat) (S : St) (K : Ks) : L_spec_l4Any N 0 key S K = none := rfl
theorem ls_spec_l4Any : loopsIn body_spec_l4Any = [] := by kernel_rfl
theorem fn_spec_l4Any (N : Nat) (x : AVals sg_spec_l4Any) (kf : Ret → Option Ret) : F_spec_l4Any N x kf = peFunc h_spec_l4Any (Orc.of (es_spec_l4Any N)) (L_spec_l4Any N N) Try.f103 (ashape sg_spec_l4Any x) kf := by kernel_rfl
theorem sd_spec_l4Any {Γ : Gl} (N : Nat) : Sound Γ Try.prog 103 (run_spec_l4Any N) := fun_ok2 (hh := h_spec_l4Any) mixed tab_ok (es := es_spec_l4Any N) ⟨sd_spec_l4Draw N, ⟨sd_spec_l1Below N, ⟨sd_spec_l4Raw N, trivial⟩⟩⟩ (fn := Try.f103) (body := body_spec_l4Any) (by kernel_rfl) (by kernel_rfl) (by kernel_rfl) (by kernel_rfl) (by kernel_rfl) (Lf := L_spec_l4Any N) (L0_spec_l4Any N) ls_spec_l4Any trivial (N := N) (by kernel_rfl) (fn_spec_l4Any N) (.inl (by kernel_rfl))
/-! spec_DrawIsGraph -/
noncomputable def h_spec_DrawIsGraph : Hint := { tab, hn := [], loops := [], outs := [], ords := [] }
noncomputable def sg_spec_DrawIsGraph : List AK := [.v (.sl (.int .u8)) .k]
noncomputable def F_spec_DrawIsGraph (N : Nat) (x : AVals sg_spec_DrawIsGraph) (kf : Ret → Option Ret) : Option Ret := spec_DrawIsGraph N x.1 (fun r0 => kf ⟨[⟨tQILLIE, (.p .k (.o 28 none (.o 3 none .k))), r0⟩], []⟩)
noncomputable def run_spec_DrawIsGraph (N : Nat) := runOf sg_spec_DrawIsGraph (F_spec_DrawIsGraph N)
noncomputable def es_spec_DrawIsGraph (N : Nat) : List Entry := [⟨47, [.val], (run_spec_l1New N)⟩, ⟨103, [.lend], (run_spec_l4Any N)⟩]
noncomputable def body_spec_DrawIsGraph : Code := match Try.f74.body with | some c => c | none => .skip
noncomputable def L_spec_DrawIsGraph (N n : Nat) (key : Nat) (S : St) (K : Ks) : Option Ret := none
theorem L0_spec_DrawIsGraph (N key : Nat) (S : St) (K : Ks) : L_spec_DrawIsGraph N 0 key S K = none := rfl
theorem ls_spec_DrawIsGraph : loopsIn body_spec_DrawIsGraph = [] := by kernel_rfl
theorem fn_spec_DrawIsGraph (N : Nat) (x : AVals sg_spec_DrawIsGraph) (kf : Ret → Option Ret) : F_spec_DrawIsGraph N x kf = peFunc h_spec_DrawIsGraph (Orc.of (es_spec_DrawIsGraph N)) (L_spec_DrawIsGraph N N) Try.f74 (ashape sg_spec_DrawIsGraph x) kf := by kernel_rfl
theorem sd_spec_DrawIsGraph {Γ : Gl} (N : Nat) : Sound Γ Try.prog 74 (run_spec_DrawIsGraph N) := fun_ok2 (hh := h_spec_DrawIsGraph) mixed tab_ok (es := es_spec_DrawIsGraph N) ⟨sd_spec_l1New N, ⟨sd_spec_l4Any N, trivial⟩⟩ (fn := Try.f74) (body := body_spec_DrawIsGraph) (by kernel_rfl) (by kernel_rfl) (by kernel_rfl) (by kernel_rfl) (by kernel_rfl) (Lf := L_spec_DrawIsGraph N) (L0_spec_DrawIsGraph N) ls_spec_DrawIsGraph trivial (N := N) (by kernel_rfl) (fn_spec_DrawIsGraph N) (.inl (by kernel_rfl))
/-! spec_DrawOpenShare -/
noncomputable def h_spec_DrawOpenShare : Hint := { tab, hn := [], loops := [], outs := [], ords := [] }
noncomputable def sg_spec_DrawOpenShare : List AK := [.v (.sl (.int .u8)) .k]
noncomputable def F_spec_DrawOpenShare (N : Nat) (x : AVals sg_spec_DrawOpenShare) (kf : Ret → Option Ret) : Option Ret := spec_DrawOpenShare N x.1 (fun r0 => kf ⟨[⟨tQILLIE, (.p .k (.o 28 none (.o 3 none .k))), r0⟩], []⟩)
noncomputable def run_spec_DrawOpenShare (N : Nat) := runOf sg_spec_DrawOpenShare (F_spec_DrawOpenShare N)
noncomputable def es_spec_DrawOpenShare (N : Nat) : List Entry := [⟨74, [.val], (run_spec_DrawIsGraph N)⟩]
noncomputable def body_spec_DrawOpenShare : Code := match Try.f34.body with | some c => c | none => .skip
noncomputable def L_spec_DrawOpenShare (N n : Nat) (key : Nat) (S : St) (K : Ks) : Option Ret := none
theorem L0_spec_DrawOpenShare (N key : Nat) (S : St) (K : Ks) : L_spec_DrawOpenShare N 0 key S K = none := rfl
theorem ls_spec_DrawOpenShare : loopsIn body_spec_DrawOpenShare = [] := by kernel_rfl
theorem fn_spec_DrawOpenShare (N : Nat) (x : AVals sg_spec_DrawOpenShare) (kf : Ret → Option Ret) : F_spec_DrawOpenShare N x kf = peFunc h_spec_DrawOpenShare (Orc.of (es_spec_DrawOpenShare N)) (L_spec_DrawOpenShare N N) Try.f34 (ashape sg_spec_DrawOpenShare x) kf := by kernel_rfl
theorem sd_spec_DrawOpenShare {Γ : Gl} (N : Nat) : Sound Γ Try.prog 34 (run_spec_DrawOpenShare N) := fun_ok2 (hh := h_spec_DrawOpenShare) mixed tab_ok (es := es_spec_DrawOpenShare N) ⟨sd_spec_DrawIsGraph N, trivial⟩ (fn := Try.f34) (body := body_spec_DrawOpenShare) (by kernel_rfl) (by kernel_rfl) (by kernel_rfl) (by kernel_rfl) (by kernel_rfl) (Lf := L_spec_DrawOpenShare N) (L0_spec_DrawOpenShare N) ls_spec_DrawOpenShare trivial (N := N) (by kernel_rfl) (fn_spec_DrawOpenShare N) (.inl (by kernel_rfl))
/-! spec_DrawCountWhat -/
noncomputable def h_spec_DrawCountWhat : Hint := { tab, hn := [], loops := [], outs := [], ords := [] }
noncomputable def sg_spec_DrawCountWhat : List AK := [.v (.sl (.int .u8)) .k]
noncomputable def F_spec_DrawCountWhat (N : Nat) (x : AVals sg_spec_DrawCountWhat) (kf : Ret → Option Ret) : Option Ret := spec_DrawCountWhat N x.1 (fun r0 r1 => kf ⟨[⟨(.sl tQIIIIE), (.o 79 none .k), r0⟩, ⟨(.int .i64), .k, r1⟩], []⟩)
noncomputable def run_spec_DrawCountWhat (N : Nat) := runOf sg_spec_DrawCountWhat (F_spec_DrawCountWhat N)
noncomputable def es_spec_DrawCountWhat (N : Nat) : List Entry := [⟨47, [.val], (run_spec_l1New N)⟩, ⟨75, [.lend], (run_spec_l27Any N)⟩, ⟨50, [.lend, .val], (run_spec_l1Below N)⟩]
noncomputable def body_spec_DrawCountWhat : Code := match Try.f35.body with | some c => c | none => .skip
noncomputable def L_spec_DrawCountWhat (N n : Nat) (key : Nat) (S : St) (K : Ks) : Option Ret := none
theorem L0_spec_DrawCountWhat (N key : Nat) (S : St) (K : Ks) : L_spec_DrawCountWhat N 0 key S K = none := rfl
theorem ls_spec_DrawCountWhat : loopsIn body_spec_DrawCountWhat = [] := by kernel_rfl
theorem fn_spec_DrawCountWhat (N : Nat) (x : AVals sg_spec_DrawCountWhat) (kf : Ret → Option Ret) : F_spec_DrawCountWhat N x kf = peFunc h_spec_DrawCountWhat (Orc.of (es_spec_DrawCountWhat N)) (L_spec_DrawCountWhat N N) Try.f35 (ashape sg_spec_DrawCountWhat x) kf := by kernel_rfl
theorem sd_spec_DrawCountWhat {Γ : Gl} (N : Nat) : Sound Γ Try.prog 35 (run_spec_DrawCountWhat N) := fun_ok2 (hh := h_spec_DrawCountWhat) mixed tab_ok (es := es_spec_DrawCountWhat N) ⟨sd_spec_l1New N, ⟨sd_spec_l27Any N, ⟨sd_spec_l1Below N, trivial⟩⟩⟩ (fn := Try.f35) (body := body_spec_DrawCountWhat) (by kernel_rfl) (by kernel_rfl) (by kernel_rfl) (by kernel_rfl) (by kernel_rfl) (Lf := L_spec_DrawCountWhat N) (L0_spec_DrawCountWhat N) ls_spec_DrawCountWhat trivial (N := N) (by kernel_rfl) (fn_spec_DrawCountWhat N) (.inl (by kernel_rfl))
/-! impl_AveragePoints -/
noncomputable def h_impl_AveragePoints : Hint := { tab, hn := [], loops := [], outs := [], ords := [] }
noncomputable def sg_impl_AveragePoints : List AK := [.v tQIIIIILIE .k]
noncomputable def F_impl_AveragePoints (N : Nat) (x : AVals sg_impl_AveragePoints) (kf : Ret → Option Ret) : Option Ret := impl_AveragePoints N x.1 (fun r0 => kf ⟨[⟨(.int .i64), .k, r0⟩], []⟩)
noncomputable def run_impl_AveragePoints (N : Nat) := runOf sg_impl_AveragePoints (F_impl_AveragePoints N)
noncomputable def es_impl_AveragePoints (N : Nat) : List Entry := []
noncomputable def body_impl_AveragePoints : Code := match Try.f37.body with | some c => c | none => .skip
noncomputable def L_impl_AveragePoints (N n : Nat) (key : Nat) (S : St) (K : Ks) : Option Ret := none
theorem L0_impl_AveragePoints (N key : Nat) (S : St) (K : Ks) : L_impl_AveragePoints N 0 key S K = none := rfl
theorem ls_impl_AveragePoints : loopsIn body_impl_AveragePoints = [] := by kernel_rfl
theorem fn_impl_AveragePoints (N : Nat) (x : AVals sg_impl_AveragePoints) (kf : Ret → Option Ret) : F_impl_AveragePoints N x kf = peFunc h_impl_AveragePoints (Orc.of (es_impl_AveragePoints N)) (L_impl_AveragePoints N N) Try.f37 (ashape sg_impl_AveragePoints x) kf := by kernel_rfl
theorem sd_impl_AveragePoints {Γ : Gl} (N : Nat) : Sound Γ Try.prog 37 (run_impl_AveragePoints N) := fun_ok2 (hh := h_impl_AveragePoints) mixed tab_ok (es := es_impl_AveragePoints N) trivial (fn := Try.f37) (body := body_impl_AveragePoints) (by kernel_rfl) (by kernel_rfl) (by kernel_rfl) (by kernel_rfl) (by kernel_rfl) (Lf := L_impl_AveragePoints N) (L0_impl_AveragePoints N) ls_impl_AveragePoints trivial (N := N) (by kernel_rfl) (fn_impl_AveragePoints N) (.inl (by kernel_rfl))
/-! impl_CountWhat -/
noncomputable def ks_impl_CountWhat_l3 : List Kd := [dK, .v (.int .i64) .k, dK, dK, dK, .v (.int .i64) .k, dK, dK, .v (.sl tQIIIIE) .k, .v (.int .i64) .k, .v (.int .i64) .k, dK, dK, dK, dK, dK, dK, dK, dK, dK, dK, dK]
noncomputable def ko_impl_CountWhat_l3_0 : List Kd := [dK, dK, dK, dK, dK, .v (.int .i64) .k, dK, dK, dK, dK, dK, dK, dK, dK, dK, dK, dK, dK, dK, dK, dK, dK]
noncomputable def h_impl_CountWhat : Hint := { tab, hn := [], loops := [(3, ks_impl_CountWhat_l3)], outs := [(3, 2, ko_impl_CountWhat_l3_0)], ords := [] }
noncomputable def sg_impl_CountWhat : List AK := [.v (.sl tQIIIIE) .k, .v (.int .i64) .k]
noncomputable def F_impl_CountWhat (N : Nat) (x : AVals sg_impl_CountWhat) (kf : Ret → Option Ret) : Option Ret := impl_CountWhat N x.1 x.2.1 (fun r0 => kf ⟨[⟨(.int .i64), .k, r0⟩], []⟩)
noncomputable def run_impl_CountWhat (N : Nat) := runOf sg_impl_CountWhat (F_impl_CountWhat N)
noncomputable def es_impl_CountWhat (N : Nat) : List Entry := []
noncomputable def body_impl_CountWhat : Code := match Try.f38.body with | some c => c | none => .skip
noncomputable def L_impl_CountWhat (N n : Nat) (key : Nat) (S : St) (K : Ks) : Option Ret := bif Nat.beq key 3 then withVals ks_impl_CountWhat_l3 S (fun x => impl_CountWhat_l3 x.1 x.2.2.1 x.2.2.2.1 n (fun z0 => K (.x 0) (shape ko_impl_CountWhat_l3_0 (z0, ()))) x.2.1 x.2.2.2.2.1) else none
theorem L0_impl_CountWhat (N key : Nat) (S : St) (K : Ks) : L_impl_CountWhat N 0 key S K = none := (bif0 (withVals0 fun _ => rfl) rfl)
noncomputable def c_impl_CountWhat_0 : Code := (loopsIn body_impl_CountWhat).getD 0 .skip
theorem ls_impl_CountWhat : loopsIn body_impl_CountWhat = [c_impl_CountWhat_0] := by kernel_rfl
theorem rd_impl_CountWhat_3 (N n : Nat) (x : Vals ks_impl_CountWhat_l3) (K : Ks) : L_impl_CountWhat N (n + 1) 3 (shape ks_impl_CountWhat_l3 x) (h_impl_CountWhat.onOut 3 K) = peRound h_impl_CountWhat (Orc.of (es_impl_CountWhat N)) (mixL (L_impl_CountWhat N) N n 3) c_impl_CountWhat_0 (shape ks_impl_CountWhat_l3 x) (h_impl_CountWhat.onOut 3 K) := by kernel_rfl
theorem fn_impl_CountWhat (N : Nat) (x : AVals sg_impl_CountWhat) (kf : Ret → Option Ret) : F_impl_CountWhat N x kf = peFunc h_impl_CountWhat (Orc.of (es_impl_CountWhat N)) (L_impl_CountWhat N N) Try.f38 (ashape sg_impl_CountWhat x) kf := by kernel_rfl
theorem sd_impl_CountWhat {Γ : Gl} (N : Nat) : Sound Γ Try.prog 38 (run_impl_CountWhat N) := fun_ok2 (hh := h_impl_CountWhat) mixed tab_ok (es := es_impl_CountWhat N) trivial (fn := Try.f38) (body := body_impl_CountWhat) (by kernel_rfl) (by kernel_rfl) (by kernel_rfl) (by kernel_rfl) (by kernel_rfl) (Lf := L_impl_CountWhat N) (L0_impl_CountWhat N) ls_impl_CountWhat (round_cons (key := 3) (ks := ks_impl_CountWhat_l3) (by kernel_rfl) (by kernel_rfl) (rd_impl_CountWhat_3 N) trivial) (N := N) (by kernel_rfl) (fn_impl_CountWhat N) (.inl (by kernel_rfl))
/-! laws_FnMeasured -/
noncomputable def ks_laws_FnMeasured_l6 : List Kd := [.v (.sl (.int .u8)) .k, dK, dK, .v (.sl tQIIIIILIE) (.o 54 none (.p .k (.p .k (.p .k (.p .k (.p .k (.o 3 none .k))))))), .v (.int .i64) .k, .v (.int .i64) .k, .v (.int .i64) .k, dK, dK, dK, dK, dK, dK, dK, dK, dK, dK, dK, dK, dK, dK, dK, dK, dK, dK, dK, dK, dK, dK, dK, dK, dK, dK, dK, dK, dK, dK, dK, dK, dK, dK, dK, dK, dK, dK, dK, dK, dK, dK, dK, dK, dK, dK, dK, dK, dK, dK, dK, dK, dK, dK, dK, dK, dK, dK, dK, dK, dK, dK, dK, dK, dK, dK, dK, dK, dK, dK, dK, dK, dK, dK, dK, dK, dK, dK, dK, dK, dK, dK, dK, dK, dK, dK, dK, dK, dK, dK, dK, dK, dK]
noncomputable def ko_laws_FnMeasured_l6_0 : List Kd := [.v (.sl (.int .u8)) .k, dK, dK, .v (.sl tQIIIIILIE) (.o 54 none (.p .k (.p .k (.p .k (.p .k (.p .k (.o 3 none .k))))))), .v (.int .i64) .k, .v (.int .i64) .k, dK, dK, dK, dK, dK, dK, dK, dK, dK, dK, dK, dK, dK, dK, dK, dK, dK, dK, dK, dK, dK, dK, dK, dK, dK, dK, dK, dK, dK, dK, dK, dK, dK, dK, dK, dK, dK, dK, dK, dK, dK, dK, dK, dK, dK, dK, dK, dK, dK, dK, dK, dK, dK, dK, dK, dK, dK, dK, dK, dK, dK, dK, dK, dK, dK, dK, dK, dK, dK, dK, dK, dK, dK, dK, dK, dK, dK, dK, dK, dK, dK, dK, dK, dK, dK, dK, dK, dK, dK, dK, dK, dK, dK, dK]
noncomputable def h_laws_FnMeasured : Hint := { tab, hn := [], loops := [(6, ks_laws_FnMeasured_l6)], outs := [(6, 2, ko_laws_FnMeasured_l6_0)], ords := [] }
noncomputable def sg_laws_FnMeasured : List AK := [.v (.sl (.int .u8)) .k]
noncomputable def F_laws_FnMeasured (N : Nat) (x : AVals sg_laws_FnMeasured) (kf : Ret → Option Ret) : Option Ret := laws_FnMeasured N x.1 (fun r0 => kf ⟨[⟨.bool, .k, r0⟩], []⟩)
noncomputable def run_laws_FnMeasured (N : Nat) := runOf sg_laws_FnMeasured (F_laws_FnMeasured N)
noncomputable def es_laws_FnMeasured (N : Nat) : List Entry := [⟨7, [.val], (run_laws_big N)⟩, ⟨27, [.val], (run_spec_DrawClubWins N)⟩, ⟨28, [.val, .val], (run_impl_ClubWins N)⟩, ⟨29, [.val], (run_spec_DrawSideShare N)⟩, ⟨30, [.val], (run_impl_SideShare N)⟩, ⟨31, [.val], (run_spec_SideShare N)⟩, ⟨32, [.val], (run_spec_DrawBusiestJudge N)⟩, ⟨33, [.val], (run_impl_BusiestJudge N)⟩, ⟨34, [.val], (run_spec_DrawOpenShare N)⟩, ⟨19, [.val], (run_impl_OpenShare N)⟩, ⟨35, [.val], (run_spec_DrawCountWhat N)⟩, ⟨36, [.val], (run_impl_TotalWins N)⟩, ⟨37, [.val], (run_impl_AveragePoints N)⟩, ⟨38, [.val, .val], (run_impl_CountWhat N)⟩]
noncomputable def body_laws_FnMeasured : Code := match Try.f6.body with | some c => c | none => .skip
noncomputable def L_laws_FnMeasured (N n : Nat) (key : Nat) (S : St) (K : Ks) : Option Ret := bif Nat.beq key 6 then withVals ks_laws_FnMeasured_l6 S (fun x => laws_FnMeasured_l6 N x.1 x.2.1 x.2.2.1 n (fun z0 => K (.x 0) (shape ko_laws_FnMeasured_l6_0 (x.1, x.2.1, x.2.2.1, z0, ()))) x.2.2.2.1 x.2.2.2.2.1) else none
theorem L0_laws_FnMeasured (N key : Nat) (S : St) (K : Ks) : L_laws_FnMeasured N 0 key S K = none := (bif0 (withVals0 fun _ => rfl) rfl)
noncomputable def c_laws_FnMeasured_0 : Code := (loopsIn body_laws_FnMeasured).getD 0 .skip
theorem ls_laws_FnMeasured : loopsIn body_laws_FnMeasured = [c_laws_FnMeasured_0] := by kernel_rfl
theorem rd_laws_FnMeasured_6 (N n : Nat) (x : Vals ks_laws_FnMeasured_l6) (K : Ks) : L_laws_FnMeasured N (n + 1) 6 (shape ks_laws_FnMeasured_l6 x) (h_laws_FnMeasured.onOut 6 K) = peRound h_laws_FnMeasured (Orc.of (es_laws_FnMeasured N)) (mixL (L_laws_FnMeasured N) N n 6) c_laws_FnMeasured_0 (shape ks_laws_FnMeasured_l6 x) (h_laws_FnMeasured.onOut 6 K) := by kernel_rfl
theorem fng_laws_FnMeasured (g0 : TG0_laws_FnMeasured) (g1 : TG1_laws_FnMeasured) (g2 : TG2_laws_FnMeasured) (g3 : TG3_laws_FnMeasured) (g4 : TG4_laws_FnMeasured) (g5 : TG4_laws_FnMeasured) (g6 : TG5_laws_FnMeasured) (g7 : TG6_laws_FnMeasured) (g8 : TG7_laws_FnMeasured) (g9 : TG8_laws_FnMeasured) (g10 : TG9_laws_FnMeasured) (g11 : TG10_laws_FnMeasured) (g12 : TG4_laws_FnMeasured) (g13 : TG11_laws_FnMeasured) (g14 : TG12_laws_FnMeasured) (N : Nat) (x : AVals sg_laws_FnMeasured) (kf : Ret → Option Ret) : laws_FnMeasured_g g0 g1 g2 g3 g4 g5 g6 g7 g8 g9 g10 g11 g12 g13 g14 N x.1 (fun r0 => kf ⟨[⟨.bool, .k, r0⟩], []⟩) = peFunc h_laws_FnMeasured (Orc.of [⟨7, [.val], (runOf sg_laws_big (fun x kf => g0 N x.1 (fun r0 => kf ⟨[⟨.bool, .k, r0⟩], []⟩)))⟩, ⟨27, [.val], (runOf sg_spec_DrawClubWins (fun x kf => g1 N x.1 (fun r0 r1 => kf ⟨[⟨(.sl tQIIIIILIE), (.o 54 none (.p .k (.p .k (.p .k (.p .k (.p .k (.o 3 none .k))))))), r0⟩, ⟨(.int .i64), .k, r1⟩], []⟩)))⟩, ⟨28, [.val, .val], (runOf sg_impl_ClubWins (fun x kf => g2 N x.1 x.2.1 (fun r0 => kf ⟨[⟨(.int .i64), .k, r0⟩], []⟩)))⟩, ⟨29, [.val], (runOf sg_spec_DrawSideShare (fun x kf => g3 N x.1 (fun r0 => kf ⟨[⟨tQIIIIILIE, (.p .k (.p .k (.p .k (.p .k (.p .k (.o 3 none .k)))))), r0⟩], []⟩)))⟩, ⟨30, [.val], (runOf sg_impl_SideShare (fun x kf => g4 N x.1 (fun r0 => kf ⟨[⟨(.int .i64), .k, r0⟩], []⟩)))⟩, ⟨31, [.val], (runOf sg_spec_SideShare (fun x kf => g5 N x.1 (fun r0 => kf ⟨[⟨(.int .i64), .k, r0⟩], []⟩)))⟩, ⟨32, [.val], (runOf sg_spec_DrawBusiestJudge (fun x kf => g6 N x.1 (fun r0 => kf ⟨[⟨(.sl tQIILIE), (.o 85 none (.p .k (.p .k (.o 3 none .k)))), r0⟩], []⟩)))⟩, ⟨33, [.val], (runOf sg_impl_BusiestJudge (fun x kf => g7 N x.1 (fun r0 => kf ⟨[⟨(.int .i64), .k, r0⟩], []⟩)))⟩, ⟨34, [.val], (runOf sg_spec_DrawOpenShare (fun x kf => g8 N x.1 (fun r0 => kf ⟨[⟨tQILLIE, (.p .k (.o 28 none (.o 3 none .k))), r0⟩], []⟩)))⟩, ⟨19, [.val], (runOf sg_impl_OpenShare (fun x kf => g9 N x.1 (fun r0 => kf ⟨[⟨(.int .i64), .k, r0⟩], []⟩)))⟩, ⟨35, [.val], (runOf sg_spec_DrawCountWhat (fun x kf => g10 N x.1 (fun r0 r1 => kf ⟨[⟨(.sl tQIIIIE), (.o 79 none .k), r0⟩, ⟨(.int .i64), .k, r1⟩], []⟩)))⟩, ⟨36, [.val], (runOf sg_impl_TotalWins (fun x kf => g11 N x.1 (fun r0 => kf ⟨[⟨(.int .i64), .k, r0⟩], []⟩)))⟩, ⟨37, [.val], (runOf sg_impl_AveragePoints (fun x kf => g12 N x.1 (fun r0 => kf ⟨[⟨(.int .i64), .k, r0⟩], []⟩)))⟩, ⟨38, [.val, .val], (runOf sg_impl_CountWhat (fun x kf => g13 N x.1 x.2.1 (fun r0 => kf ⟨[⟨(.int .i64), .k, r0⟩], []⟩)))⟩]) (fun key S K => bif Nat.beq key 6 then withVals ks_laws_FnMeasured_l6 S (fun x => g14 N x.1 x.2.1 x.2.2.1 N (fun z0 => K (.x 0) (shape ko_laws_FnMeasured_l6_0 (x.1, x.2.1, x.2.2.1, z0, ()))) x.2.2.2.1 x.2.2.2.2.1) else none) Try.f6 (ashape sg_laws_FnMeasured x) kf := by kernel_rfl
theorem fn_laws_FnMeasured (N : Nat) (x : AVals sg_laws_FnMeasured) (kf : Ret → Option Ret) : F_laws_FnMeasured N x kf = peFunc h_laws_FnMeasured (Orc.of (es_laws_FnMeasured N)) (L_laws_FnMeasured N N) Try.f6 (ashape sg_laws_FnMeasured x) kf := fng_laws_FnMeasured laws_big spec_DrawClubWins impl_ClubWins spec_DrawSideShare impl_SideShare spec_SideShare spec_DrawBusiestJudge impl_BusiestJudge spec_DrawOpenShare impl_OpenShare spec_DrawCountWhat impl_TotalWins impl_AveragePoints impl_CountWhat laws_FnMeasured_l6 N x kf
theorem sd_laws_FnMeasured {Γ : Gl} (N : Nat) : Sound Γ Try.prog 6 (run_laws_FnMeasured N) := fun_ok2 (hh := h_laws_FnMeasured) mixed tab_ok (es := es_laws_FnMeasured N) ⟨sd_laws_big N, ⟨sd_spec_DrawClubWins N, ⟨sd_impl_ClubWins N, ⟨sd_spec_DrawSideShare N, ⟨sd_impl_SideShare N, ⟨sd_spec_SideShare N, ⟨sd_spec_DrawBusiestJudge N, ⟨sd_impl_BusiestJudge N, ⟨sd_spec_DrawOpenShare N, ⟨sd_impl_OpenShare N, ⟨sd_spec_DrawCountWhat N, ⟨sd_impl_TotalWins N, ⟨sd_impl_AveragePoints N, ⟨sd_impl_CountWhat N, trivial⟩⟩⟩⟩⟩⟩⟩⟩⟩⟩⟩⟩⟩⟩ (fn := Try.f6) (body := body_laws_FnMeasured) (by kernel_rfl) (by kernel_rfl) (by kernel_rfl) (by kernel_rfl) (by kernel_rfl) (Lf := L_laws_FnMeasured N) (L0_laws_FnMeasured N) ls_laws_FnMeasured (round_cons (key := 6) (ks := ks_laws_FnMeasured_l6) (by kernel_rfl) (by kernel_rfl) (rd_laws_FnMeasured_6 N) trivial) (N := N) (by kernel_rfl) (fn_laws_FnMeasured N) (.inl (by kernel_rfl))
end Go.Pv.R
