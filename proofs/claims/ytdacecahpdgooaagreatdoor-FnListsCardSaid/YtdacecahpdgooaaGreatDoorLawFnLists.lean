/- The statement FnListsSaid: the law's row, out of its plain law and of what its functions compute. -/
import Derived.Test.YtdacecahpdgooaaGreatDoorTie
import Derived.Test.YtdacecahpdgooaaGreatDoorCards
import Derived.Test.YtdacecahpdgooaaGreatDoorRows
import Derived.Test.YtdacecahpdgooaaGreatDoorPlLaw
import Derived.Test.YtdacecahpdgooaaGreatDoorSnd2
import Derived.WalkKit
import Derived.ProofKit
import Derived.OpenShut
import Derived.ShutString
import Derived.ChangeOld
import Derived.Below
import Derived.SizedLaws
import Derived.LaidMore
import Derived.Lib.LaidTab
import Derived.SevenTiedAt
import Derived.Stop.Joined
namespace Go.Proofs.YtdacecahpdgooaaGreatDoor.OK
open Go.ChangeShapes Go.WideShapes Go.ChangeAt Go.RowKit Go.Pv Go.Pv.R
set_option linter.unusedVariables false
theorem own : ownKnob Tryz.prog.godebug = none := by kernel_rfl
theorem laidOut : laidOutB Tryz.prog = true := by kernel_rfl
theorem ajQ : Rz bA = true := by kernel_rfl
noncomputable def Ts : List TypeId := [22]
noncomputable def ts : List Ty := [(.sl (.int .u8))]
theorem pure (x : rA ts) (h : wfs ts x) : ∃ N, F7 N ((iP ts x).map .tv) some = some ⟨[⟨.bool, .k, true⟩], []⟩ := by
  obtain ⟨N, hN⟩ := Go.Pv.R.Lq x.1 h
  refine ⟨N, ?_⟩
  have e : F7 N ((iP ts x).map .tv) some = L3 N x.1 (fun r => some ⟨[⟨.bool, .k, r⟩], []⟩) := by kernel_rfl
  rw [e, hN]
theorem V' (os : Os) (args : Array Value) : laidMetH Tryz.prog Rows.fnListsRow.laid ((World.doorLaid Tryz.prog 400 os).forCall (fun _ _ => 0) ⟨#[], args, []⟩).memory :=
  laidMetH_of_parts3 (fuel := 8) (laidMet_of_run' 8 (by kernel_rfl) (by kernel_rfl)) (by kernel_rfl) (by kernel_rfl)
set_option maxRecDepth 100000 in
theorem agj {W : World} (h : laidMetH Tryz.prog Rows.fnListsRow.laid W) : Lib.TabIs Tryz.prog W "internal/strconv.uint64pow10" .u64 Lib.pow10Tab := by
  rw [MakeChecks.laidMetH_plain _ _ _ (by kernel_rfl)] at h
  obtain ⟨ps, ⟨_, _, _, _, _, _, _, _, _, _, ⟨_, _, _, _, _, _, _, _, _, _, ⟨g, t, cs, f, p, q, hg, ht, hv, hd, _⟩, _⟩, _⟩, _⟩ := h
  obtain rfl := Option.some.inj ((show Tryz.prog.globalNamed "internal/strconv.uint64pow10" = some 0 by kernel_rfl).symm.trans hg)
  obtain rfl := Option.some.inj ((show (Tryz.prog.globals[0]?).map (·.type) = some 145 by kernel_rfl).symm.trans ht)
  have e : (Rows.laid_internal_strconv_uint64pow10 : DataW Unit) = Lib.tabData .u64 Lib.pow10Tab := by kernel_rfl
  rw [e] at hd
  unfold Lib.TabIs
  rw [hv, ← Lib.cells_of_tab (zs := Lib.pow10Tab) (k := .u64) Tryz.underlying145 Tryz.underlying126 (by kernel_rfl) (by kernel_rfl) hd]
set_option maxRecDepth 100000 in
theorem lifted (os : Os) (started : os.Started) (H : Type) (enc : TypeId × Value → H) :
    ReturnsInHanded {} Tryz.checked os 3 .any (fun w args => (Rows.fnListsSpec.pre enc Tryz.prog Tryz.f3 [] false w args ∧ laidMetH Tryz.prog Rows.fnListsRow.laid w) ∧ sizedMet enc Tryz.prog Tryz.f3 (OpenSpec.ofChange Rows.fnListsSpec) false w args) (Rows.fnListsSpec.post enc Tryz.prog Tryz.f3 false true false false) := by
  refine returnsInHanded_of_change_and (C := Tryz.checked) (X := fun w _ => laidMetH Tryz.prog Rows.fnListsRow.laid w) (fun _ _ _ hh h => h.of_heap hh) own started (by kernel_rfl) Tryz.func3
    (ChangeSpec.witness_shaped (enc := enc) (C := Tryz.checked) (os := os) (X := fun w _ => laidMetH Tryz.prog Rows.fnListsRow.laid w) false (World.doorLaid Tryz.prog 400 os) #[.slice none 0 0] 8 rfl (World.shaped_of_RefB (by kernel_rfl) (by kernel_rfl)) (by kernel_rfl) (by kernel_rfl) (by kernel_rfl) (V' os _)) ?_
  intro W base args ds gs before ai6 hW Rb aj2 hL _
  have gY : ∀ (j : Nat) t v, Tryz.f3.params[j]? = some t → args[j]? = some v → Value.okWide Tryz.prog W .any base t v := ai6
  have hW' := hW
  obtain ⟨p, q, hA0, hV, rfl, hfz, Ch⟩ := hW
  have hA : DataW.TrodAll enc Tryz.prog W 0 (fun _ => true) true Tryz.f3.params.toList args.toList ds p := hA0
  rw [Tryz.params3] at hA gY
  obtain ⟨v0, vs0, d0, ds0, p0, q0, CF, rfl, rfl, h0, r0⟩ := trodAll_cons hA
  obtain ⟨rfl, rfl, rfl⟩ := trodAll_nil r0
  obtain rfl : args = #[v0] := by cases args; simp_all
  obtain ⟨rfl, rfl⟩ := trodVars_none hV
  have hP := PR (P := Tryz.prog) (show Tryz.prog.globalNamed "internal/strconv.uint64pow10" = some 0 by kernel_rfl) (agj hL)
  refine (RC (Γ := fun g => if g = 0 then W.heap[g]? else none) (run := F7) (Θ := bA) (Ts := Ts) (ts := ts) (fun N => ai5 hP N) (fun g o hg => by
    split at hg
    · exact hg
    · cases hg) aO ajQ laidOut (by kernel_rfl) (by kernel_rfl) pure (fun j t v hj hv => gY j t v (by simpa [Ts] using hj) hv) hA (enters Tryz.func3 (body := qY) (by kernel_rfl) (by kernel_rfl) _)).mono fun e W' ⟨he, bel, back⟩ => ?_
  subst he
  exact ⟨_, rfl, _, _, _, [], _, [], hW', trodAll_mk1 (shut_bool Tryz.underlying4 _), back, rfl, bel.frame _, fun h => by cases h⟩
theorem over : Rows.fnListsRow.holds Tryz.pinned (OpenSpec.ofChange Rows.fnListsSpec) :=
  OpenClaim.holds_of_wide 3 Tryz.f3 rfl rfl rfl rfl rfl rfl rfl ⟨rfl, rfl, rfl, rfl, rfl⟩ rfl rfl rfl rfl rfl (by kernel_rfl) Tryz.func3 (by kernel_rfl)
    (of_decide_eq_true (by kernel_rfl)) (by unfold Func.isWrapper; first | (rw [if_pos (by decide +kernel)]; kernel_rfl) | (rw [if_neg (by decide +kernel)]; exact ⟨rfl, rfl⟩))
    (fun os started H enc _ => lifted os started H enc)
theorem proved : Rows.FnListsCardSaid :=
  Claim7.holds_tied_plain_at .later [] [.data, .data, .data] true (true, "1cacb6d63173eb8e06bb1dc9ff282e88a5903e914dc30c95b353c6ed35dd6210") false
    over (fun _ h => by cases h) (by kernel_rfl) (fun _ h => by cases h) fnLists_row_tie rfl ⟨rfl, rfl⟩ (by kernel_rfl) rfl
    (fun f fn hf xM => by
      obtain rfl : f = 3 := Option.some.inj ((show Tryz.prog.funcNamed "loop.example/g03009/laws.FnLists" = some 3 by kernel_rfl).symm.trans hf) |>.symm
      obtain rfl : fn = Tryz.f3 := (Option.some.inj (Tryz.func3.symm.trans xM)).symm
      exact ⟨by kernel_rfl, fun j t ht => by
        rw [Tryz.params3] at ht
        have hm : t ∈ [22] := by simpa using Array.mem_of_getElem? ht
        have fq : ([22].all fun u => !Tryz.prog.wantsStandIn u) = true := by kernel_rfl
        exact (show Tryz.prog.wantsStandIn t = false by simpa using List.all_eq_true.1 fq t hm)⟩)
    (by kernel_rfl)
end Go.Proofs.YtdacecahpdgooaaGreatDoor.OK
namespace Go.Proofs.YtdacecahpdgooaaGreatDoor
/-- The card, under a short name, for the claim. -/
theorem fnLists_holds : Rows.FnListsCardSaid := OK.proved
end Go.Proofs.YtdacecahpdgooaaGreatDoor
