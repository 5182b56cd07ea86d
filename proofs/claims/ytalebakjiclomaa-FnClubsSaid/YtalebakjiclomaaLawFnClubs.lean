/- The statement FnClubsSaid: the law's row, out of its plain law and of what its functions compute. -/
import Derived.Test.YtalebakjiclomaaRows
import Derived.Test.YtalebakjiclomaaPlLaw
import Derived.Test.YtalebakjiclomaaSnd1
import Derived.WalkKit
import Derived.ProofKit
import Derived.OpenShut
import Derived.ShutString
import Derived.ChangeOld
import Derived.Below
import Derived.SizedLaws
namespace Go.Proofs.Ytalebakjiclomaa.fnClubs
open Go.ChangeShapes Go.WideShapes Go.ChangeAt Go.RowKit Go.Pv Go.Pv.R
set_option linter.unusedVariables false
theorem own : ownKnob Try.prog.godebug = none := by kernel_rfl
theorem laidOut : laidOutB Try.prog = true := by kernel_rfl
theorem tabu : tabU tab = true := by kernel_rfl
noncomputable def Ts : List TypeId := [22]
noncomputable def ts : List Ty := [(.sl (.int .u8))]
theorem pure (x : PVals ts) (h : wfs ts x) : ∃ N, run_L3 N ((pshape ts x).map .tv) some = some ⟨[⟨.bool, .k, true⟩], []⟩ := by
  obtain ⟨N, hN⟩ := Go.Pv.R.lawFnClubs x.1 h
  refine ⟨N, ?_⟩
  have e : run_L3 N ((pshape ts x).map .tv) some = L3 N x.1 (fun r => some ⟨[⟨.bool, .k, r⟩], []⟩) := by kernel_rfl
  rw [e, hN]
set_option maxRecDepth 100000 in
theorem lifted (os : Os) (started : os.Started) (H : Type) (enc : TypeId × Value → H) :
    ReturnsInHanded {} Try.checked os 3 .any (Rows.fnClubsSpec.pre6 enc Try.prog Try.f3 Rows.fnClubsRow.domain false) (Rows.fnClubsSpec.post enc Try.prog Try.f3 false true false false) := by
  refine returnsInHanded_of_change_sized (C := Try.checked) own started (by kernel_rfl) Try.func3
    (ChangeSpec.witness6 (enc := enc) (C := Try.checked) false ⟨#[], #[.slice none 0 0], []⟩ 8 (by kernel_rfl) (by kernel_rfl) (by kernel_rfl) (by kernel_rfl)) ?_
  intro W base args ds gs before hval0 hW hcnd hsz0 _
  have hval : ∀ (j : Nat) t v, Try.f3.params[j]? = some t → args[j]? = some v → Value.okWide Try.prog W .any base t v := hval0
  have hW' := hW
  obtain ⟨p, q, hA0, hV, rfl, hfz, hnd⟩ := hW
  have hA : DataW.TrodAll enc Try.prog W 0 (fun _ => true) true Try.f3.params.toList args.toList ds p := hA0
  rw [Try.params3] at hA hval
  obtain ⟨v0, vs0, d0, ds0, p0, q0, hargs, rfl, rfl, h0, r0⟩ := trodAll_cons hA
  obtain ⟨rfl, rfl, rfl⟩ := trodAll_nil r0
  obtain rfl : args = #[v0] := by cases args; simp_all
  obtain ⟨rfl, rfl⟩ := trodVars_none hV
  refine (row_mid (run := run_L3) (Θ := tab) (Ts := Ts) (ts := ts) sd_L3 tab_ok tabu laidOut (by kernel_rfl) (by kernel_rfl) pure (fun j t v hj hv => hval j t v (by simpa [Ts] using hj) hv) hA (enters Try.func3 (body := body_L3) (by kernel_rfl) (by kernel_rfl) _)).mono fun e W' ⟨he, bel, back⟩ => ?_
  subst he
  exact ⟨_, rfl, _, _, _, [], _, [], hW', trodAll_mk1 (shut_bool Try.underlying4 _), back, rfl, bel.frame _, fun h => by cases h⟩
theorem over : Rows.fnClubsRow.holds Try.pinned (OpenSpec.ofChange Rows.fnClubsSpec) :=
  OpenClaim.holds_of_wide 3 Try.f3 rfl rfl rfl rfl rfl rfl rfl ⟨rfl, rfl, rfl, rfl, rfl⟩ rfl rfl rfl rfl rfl (by kernel_rfl) Try.func3 (by kernel_rfl)
    (of_decide_eq_true (by kernel_rfl)) (by unfold Func.isWrapper; first | (rw [if_pos (by decide +kernel)]; kernel_rfl) | (rw [if_neg (by decide +kernel)]; exact ⟨rfl, rfl⟩))
    (fun os started H enc _ => lifted os started H enc)
theorem proved : Rows.FnClubsSaid := over
end Go.Proofs.Ytalebakjiclomaa.fnClubs
namespace Go.Proofs.Ytalebakjiclomaa
/-- The row, under a short name, for the claim. -/
theorem fnClubs_holds : Rows.FnClubsSaid := fnClubs.proved
end Go.Proofs.Ytalebakjiclomaa
