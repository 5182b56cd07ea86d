/- The statement FnExactRunConsoleSaid: the law's row, out of its plain law and of what its functions compute. -/
import Derived.Test.YtpcoilhcgcpjmaaGreatDoorTie
import Derived.Test.YtpcoilhcgcpjmaaGreatDoorCards
import Derived.Test.YtpcoilhcgcpjmaaGreatDoorRows
import Derived.Test.YtpcoilhcgcpjmaaGreatDoorPlLaw
import Derived.Test.YtpcoilhcgcpjmaaGreatDoorSnd5
import Derived.WalkKit
import Derived.ProofKit
import Derived.OpenShut
import Derived.ShutString
import Derived.ChangeOld
import Derived.Below
import Derived.SizedLaws
import Derived.LaidMore
import Derived.Lib.LaidTab
import Derived.SevenTiedAt
import Derived.Stop.Joined
import Derived.Lay
import Derived.Lib.LaidU8
namespace Go.Proofs.YtpcoilhcgcpjmaaGreatDoor.v7
open Go.ChangeShapes Go.WideShapes Go.ChangeAt Go.RowKit Go.Pv Go.Pv.R
set_option linter.unusedVariables false
theorem own : ownKnob Tryz.prog.godebug = none := by kernel_rfl
theorem laidOut : laidOutB Tryz.prog = true := by kernel_rfl
noncomputable def aAs : kR := tab.filter fun i => match i.ty with
  | .arr _ _ => false
  | .mp => false
  | _ => true
theorem awT : kh Tryz.prog aAs = true := by kernel_rfl
theorem aDZ : aqS aAs = true := by kernel_rfl
noncomputable def Ts : List TypeId := [9]
noncomputable def ts : List Ty := [.str]
theorem pure (x : SH ts) (h : wfs ts x) : ∃ N, ag7 N ((D8 ts x).map .tv) some = some ⟨[⟨.bool, .k, true⟩], []⟩ := by
  obtain ⟨N, hN⟩ := Go.Pv.R.Qv x.1 h
  refine ⟨N, ?_⟩
  have e : ag7 N ((D8 ts x).map .tv) some = L3 N x.1 (fun r => some ⟨[⟨.bool, .k, r⟩], []⟩) := by kernel_rfl
  rw [e, hN]
set_option maxRecDepth 100000 in
theorem aAt {W : World} (h : laidMetH Tryz.prog Rows.fnExactRunConsoleRow.laid W) : Lib.TabIs Tryz.prog W "internal/strconv.uint64pow10" .u64 Lib.pow10Tab := by
  rw [MakeChecks.laidMetH_plain _ _ _ (by kernel_rfl)] at h
  obtain ⟨g, t, cs, f, p, hg, ht, hv, hd⟩ := Lib.laidMet.reads h (n := "internal/strconv.uint64pow10") (d := Rows.laid_internal_strconv_uint64pow10) (.tail _ (.tail _ (.head _)))
  obtain rfl := Option.some.inj ((show Tryz.prog.globalNamed "internal/strconv.uint64pow10" = some 3 by kernel_rfl).symm.trans hg)
  obtain rfl := Option.some.inj ((show (Tryz.prog.globals[3]?).map (·.type) = some 249 by kernel_rfl).symm.trans ht)
  have e : (Rows.laid_internal_strconv_uint64pow10 : DataW Unit) = Lib.tabData .u64 Lib.pow10Tab := by kernel_rfl
  rw [e] at hd
  unfold Lib.TabIs
  rw [hv, ← Lib.cells_of_tab (zs := Lib.pow10Tab) (k := .u64) Tryz.underlying249 Tryz.underlying133 (by kernel_rfl) (by kernel_rfl) hd]
set_option maxRecDepth 100000 in
theorem lifted (os : Os) (started : os.Started) (H : Type) (enc : TypeId × Value → H) :
    ReturnsInHanded {} Tryz.checked os 3 .any (fun w args => (Rows.fnExactRunConsoleSpec.pre enc Tryz.prog Tryz.f3 [] false w args ∧ laidMetH Tryz.prog Rows.fnExactRunConsoleRow.laid w) ∧ sizedMet enc Tryz.prog Tryz.f3 (OpenSpec.ofChange Rows.fnExactRunConsoleSpec) false w args) (Rows.fnExactRunConsoleSpec.post enc Tryz.prog Tryz.f3 false true false false) := by
  refine returnsInHanded_of_change_and (C := Tryz.checked) (X := fun w _ => laidMetH Tryz.prog Rows.fnExactRunConsoleRow.laid w) (fun _ _ _ hh h => h.of_heap hh) own started (by kernel_rfl) Tryz.func3
    (ChangeSpec.witness_shaped (enc := enc) (C := Tryz.checked) (os := os) (X := fun w _ => laidMetH Tryz.prog Rows.fnExactRunConsoleRow.laid w) false (World.laidAll Tryz.prog os Rows.fnExactRunConsoleRow.laid) #[.string ByteArray.empty] 8 (World.laidAll_os _ _ _) (World.shaped_of_ZipB (by kernel_rfl) (by kernel_rfl)) (by kernel_rfl) (by kernel_rfl) (by kernel_rfl) (by rw [MakeChecks.laidMetH_plain _ _ _ (by kernel_rfl)]; exact laidMet_laidAll _ (by kernel_rfl) (by kernel_rfl))) ?_
  intro W base args ds gs before aC4 hW aqB aEi hL _
  have A3 : ∀ (j : Nat) t v, Tryz.f3.params[j]? = some t → args[j]? = some v → Value.okWide Tryz.prog W .any base t v := aC4
  have hW' := hW
  obtain ⟨p, q, hA0, hV, rfl, hfz, hnd⟩ := hW
  have hA : DataW.TrodAll enc Tryz.prog W 0 (fun _ => true) true Tryz.f3.params.toList args.toList ds p := hA0
  rw [Tryz.params3] at hA A3
  obtain ⟨v0, vs0, d0, ds0, p0, q0, aem, rfl, rfl, h0, r0⟩ := trodAll_cons hA
  obtain ⟨rfl, rfl, rfl⟩ := trodAll_nil r0
  obtain rfl : args = #[v0] := by cases args; simp_all
  obtain ⟨rfl, rfl⟩ := trodVars_none hV
  have hP := ape (P := Tryz.prog) (show Tryz.prog.globalNamed "internal/strconv.uint64pow10" = some 3 by kernel_rfl) (aAt hL)
  refine (aqV (Γ := fun g => if g = 3 then W.heap[g]? else none) (run := ag7) (Θ := aAs) (Ts := Ts) (ts := ts) (fun N => aC3 hP N) (fun g o hg => by
    split at hg
    · exact hg
    · cases hg) awT aDZ laidOut (by kernel_rfl) (by kernel_rfl) pure (fun j t v hj hv => A3 j t v (by simpa [Ts] using hj) hv) hA (enters Tryz.func3 (body := ag8) (by kernel_rfl) (by kernel_rfl) _)).mono fun e W' ⟨he, bel, back⟩ => ?_
  subst he
  exact ⟨_, rfl, _, _, _, [], _, [], hW', trodAll_mk1 (shut_bool Tryz.underlying4 _), back, rfl, bel.frame _, fun h => by cases h⟩
end Go.Proofs.YtpcoilhcgcpjmaaGreatDoor.v7
