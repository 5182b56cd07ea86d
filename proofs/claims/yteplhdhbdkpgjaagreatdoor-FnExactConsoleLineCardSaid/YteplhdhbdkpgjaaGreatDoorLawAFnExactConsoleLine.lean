/- The statement FnExactConsoleLineSaid: the law's row, out of its plain law and of what its functions compute. -/
import Derived.Test.YteplhdhbdkpgjaaGreatDoorTie
import Derived.Test.YteplhdhbdkpgjaaGreatDoorCards
import Derived.Test.YteplhdhbdkpgjaaGreatDoorRows
import Derived.Test.YteplhdhbdkpgjaaGreatDoorPlLaw
import Derived.Test.YteplhdhbdkpgjaaGreatDoorSnd5
import Derived.WalkKit
import Derived.ProofKit
import Derived.OpenShut
import Derived.ShutString
import Derived.ChangeOld
import Derived.Below
import Derived.SizedLaws
import Derived.LaidMore
import Derived.Lib.LaidTab
import Derived.SevenTiedAt
import Derived.Stop.Joined
import Derived.Lay
import Derived.Lib.LaidU8
namespace Go.Proofs.YteplhdhbdkpgjaaGreatDoor.nE
open Go.ChangeShapes Go.WideShapes Go.ChangeAt Go.RowKit Go.Pv Go.Pv.R
set_option linter.unusedVariables false
theorem own : ownKnob Tryz.prog.godebug = none := by kernel_rfl
theorem laidOut : laidOutB Tryz.prog = true := by kernel_rfl
noncomputable def aAV : nh := tab.filter fun i => match i.ty with
  | .arr _ _ => false
  | .mp => false
  | _ => true
theorem axm : ke Tryz.prog aAV = true := by kernel_rfl
theorem aEC : arn aAV = true := by kernel_rfl
noncomputable def Ts : List TypeId := [29, 9]
noncomputable def ts : List Ty := [pG, .str]
theorem pure (x : Rz ts) (h : wfs ts x) : ∃ N, ahK N ((D9 ts x).map .tv) some = some ⟨[⟨.bool, .k, true⟩], []⟩ := by
  obtain ⟨N, hN⟩ := Go.Pv.R.N7 x.1 x.2.1 h
  refine ⟨N, ?_⟩
  have e : ahK N ((D9 ts x).map .tv) some = L3 N x.1 x.2.1 (fun r => some ⟨[⟨.bool, .k, r⟩], []⟩) := by kernel_rfl
  rw [e, hN]
set_option maxRecDepth 100000 in
theorem aAW {W : World} (h : laidMetH Tryz.prog Rows.fnExactConsoleLineRow.laid W) : Lib.TabIs Tryz.prog W "internal/strconv.uint64pow10" .u64 Lib.pow10Tab := by
  rw [MakeChecks.laidMetH_plain _ _ _ (by kernel_rfl)] at h
  obtain ⟨g, t, cs, f, p, hg, ht, hv, hd⟩ := Lib.laidMet.reads h (n := "internal/strconv.uint64pow10") (d := Rows.laid_internal_strconv_uint64pow10) (.tail _ (.tail _ (.head _)))
  obtain rfl := Option.some.inj ((show Tryz.prog.globalNamed "internal/strconv.uint64pow10" = some 3 by kernel_rfl).symm.trans hg)
  obtain rfl := Option.some.inj ((show (Tryz.prog.globals[3]?).map (·.type) = some 287 by kernel_rfl).symm.trans ht)
  have e : (Rows.laid_internal_strconv_uint64pow10 : DataW Unit) = Lib.tabData .u64 Lib.pow10Tab := by kernel_rfl
  rw [e] at hd
  unfold Lib.TabIs
  rw [hv, ← Lib.cells_of_tab (zs := Lib.pow10Tab) (k := .u64) Tryz.underlying287 Tryz.underlying172 (by kernel_rfl) (by kernel_rfl) hd]
set_option maxRecDepth 100000 in
theorem lifted (os : Os) (started : os.Started) (H : Type) (enc : TypeId × Value → H) :
    ReturnsInHanded {} Tryz.checked os 3 .any (fun w args => (Rows.fnExactConsoleLineSpec.pre enc Tryz.prog Tryz.f3 [] false w args ∧ laidMetH Tryz.prog Rows.fnExactConsoleLineRow.laid w) ∧ sizedMet enc Tryz.prog Tryz.f3 (OpenSpec.ofChange Rows.fnExactConsoleLineSpec) false w args) (Rows.fnExactConsoleLineSpec.post enc Tryz.prog Tryz.f3 false true false false) := by
  refine returnsInHanded_of_change_and (C := Tryz.checked) (X := fun w _ => laidMetH Tryz.prog Rows.fnExactConsoleLineRow.laid w) (fun _ _ _ hh h => h.of_heap hh) own started (by kernel_rfl) Tryz.func3
    (ChangeSpec.witness_shaped (enc := enc) (C := Tryz.checked) (os := os) (X := fun w _ => laidMetH Tryz.prog Rows.fnExactConsoleLineRow.laid w) false (World.laidAll Tryz.prog os Rows.fnExactConsoleLineRow.laid) #[.agg #[.slice none 0 0, .slice none 0 0, .slice none 0 0, .slice none 0 0, .slice none 0 0, .slice none 0 0, .int .i64 0], .string ByteArray.empty] 8 (World.laidAll_os _ _ _) (World.shaped_of_ZipB (by kernel_rfl) (by kernel_rfl)) (by kernel_rfl) (by kernel_rfl) (by kernel_rfl) (by rw [MakeChecks.laidMetH_plain _ _ _ (by kernel_rfl)]; exact laidMet_laidAll _ (by kernel_rfl) (by kernel_rfl))) ?_
  intro W base args ds gs before aDz hW aq5 aEX hL _
  have AQ : ∀ (j : Nat) t v, Tryz.f3.params[j]? = some t → args[j]? = some v → Value.okWide Tryz.prog W .any base t v := aDz
  have hW' := hW
  obtain ⟨p, q, hA0, hV, rfl, hfz, hnd⟩ := hW
  have hA : DataW.TrodAll enc Tryz.prog W 0 (fun _ => true) true Tryz.f3.params.toList args.toList ds p := hA0
  rw [Tryz.params3] at hA AQ
  obtain ⟨v0, vs0, d0, ds0, p0, q0, aeS, rfl, rfl, h0, r0⟩ := trodAll_cons hA
  obtain ⟨v1, vs1, d1, ds1, p1, q1, rfl, rfl, rfl, h1, r1⟩ := trodAll_cons r0
  obtain ⟨rfl, rfl, rfl⟩ := trodAll_nil r1
  obtain rfl : args = #[v0, v1] := by cases args; simp_all
  obtain ⟨rfl, rfl⟩ := trodVars_none hV
  have hP := apK (P := Tryz.prog) (show Tryz.prog.globalNamed "internal/strconv.uint64pow10" = some 3 by kernel_rfl) (aAW hL)
  refine (arq (Γ := fun g => if g = 3 then W.heap[g]? else none) (run := ahK) (Θ := aAV) (Ts := Ts) (ts := ts) (fun N => aDy hP N) (fun g o hg => by
    split at hg
    · exact hg
    · cases hg) axm aEC laidOut (by kernel_rfl) (by kernel_rfl) pure (fun j t v hj hv => AQ j t v (by simpa [Ts] using hj) hv) hA (enters Tryz.func3 (body := ahL) (by kernel_rfl) (by kernel_rfl) _)).mono fun e W' ⟨he, bel, back⟩ => ?_
  subst he
  exact ⟨_, rfl, _, _, _, [], _, [], hW', trodAll_mk1 (shut_bool Tryz.underlying4 _), back, rfl, bel.frame _, fun h => by cases h⟩
end Go.Proofs.YteplhdhbdkpgjaaGreatDoor.nE
