/-
  No cell of these rows narrows 'for every input' (looked for: loops, veiled, ifaces, maps, wideKeys, modest, calm, conditions, laid).
  DERIVED. THE GIVEN ROWS OF THIS SEAT. 6 by the template 'for every input the law returns true; each argument reads behind the call as it read before'; 0 by the template 'total and deterministic' (their statements: YtbpmandkogjaoaaTotals.lean).
  GIVEN WITH THE SEED: the statements are not yours to turn. If you find one false, say at which input.
  Laid BY PROGRAM, IN A SANDBOX (cutbox-rows.mjs): the forced cells as the released guide's own fill.sh prints them over the translation 2b2ab6d10bfb36b7… (all of the seat's roots in one cut). By AI agents, Wed Nov 11 2026. No macro, syntax, notation, axiom, sorry.
-/
import Derived.Test.YtbpmandkogjaoaaChecked
import GoSem.Claim
import GoSem.ClaimJoined
import GoSem.ClaimMapViews
import Derived.JoinedTies
import Derived.KernelRfl
namespace Go.Proofs.Ytbpmandkogjaoaa
/- THE CELL 'sum', in the pinned program and in every row, IS THE sha256 OF THE DUMP (.gsa) THAT YtbpmandkogjaoaaProg.lean LOADS. Nothing in Lean hashes anything: it is a label: what it is worth is what the hold of that sum in a sandbox is worth. -/
noncomputable def Try.pinned : Pinned := { name := "ytbpmandkogjaoaa", sum := "2b2ab6d10bfb36b73fbf10730ae72fb8f764db293ddbc5070179d8b1710e932e", checked := Try.checked }
namespace Rows
def none {H : Type} : Left H := { results := [], args := [] }

/-- 'laws.FnExactParseFormula': WHATEVER THE INPUT: true; the input reads as it did. -/
def fnExactParseFormulaSpec : ChangeSpec := { name := "fnExactParseFormula", fn := fun _ => fun
  | [d] => { results := [.lit (.bool true)], args := [d] }
  | _ => none }
def fnExactParseFormulaRow : OpenClaim := { program := "ytbpmandkogjaoaa", sum := "2b2ab6d10bfb36b73fbf10730ae72fb8f764db293ddbc5070179d8b1710e932e", func := "loop.example/g03009/laws.FnExactParseFormula", spec := "fnExactParseFormula", inPlace := ["internal/bytealg.IndexByteString"], recurses := true, apart := false }
def FnExactParseFormulaSaid : Prop := fnExactParseFormulaRow.holds Try.pinned (OpenSpec.ofChange fnExactParseFormulaSpec)

/-- ITS FALSE NEIGHBOUR: 'it returns false'. Refute it at one input. -/
def fnExactParseFormulaWrong : ChangeSpec := { name := "fnExactParseFormula", fn := fun _ => fun
  | [d] => { results := [.lit (.bool false)], args := [d] }
  | _ => none }
def FnExactParseFormulaWrongFalsely : Prop := fnExactParseFormulaRow.holds Try.pinned (OpenSpec.ofChange fnExactParseFormulaWrong)

/-- 'laws.FnExactIsRunning': WHATEVER THE INPUT: true; the input reads as it did. -/
def fnExactIsRunningSpec : ChangeSpec := { name := "fnExactIsRunning", fn := fun _ => fun
  | [d] => { results := [.lit (.bool true)], args := [d] }
  | _ => none }
def fnExactIsRunningRow : OpenClaim := { program := "ytbpmandkogjaoaa", sum := "2b2ab6d10bfb36b73fbf10730ae72fb8f764db293ddbc5070179d8b1710e932e", func := "loop.example/g03009/laws.FnExactIsRunning", spec := "fnExactIsRunning", apart := false }
def FnExactIsRunningSaid : Prop := fnExactIsRunningRow.holds Try.pinned (OpenSpec.ofChange fnExactIsRunningSpec)

/-- ITS FALSE NEIGHBOUR: 'it returns false'. Refute it at one input. -/
def fnExactIsRunningWrong : ChangeSpec := { name := "fnExactIsRunning", fn := fun _ => fun
  | [d] => { results := [.lit (.bool false)], args := [d] }
  | _ => none }
def FnExactIsRunningWrongFalsely : Prop := fnExactIsRunningRow.holds Try.pinned (OpenSpec.ofChange fnExactIsRunningWrong)

/-- 'laws.FnExactNoRematch': WHATEVER THE INPUT: true; the input reads as it did. -/
def fnExactNoRematchSpec : ChangeSpec := { name := "fnExactNoRematch", fn := fun _ => fun
  | [d] => { results := [.lit (.bool true)], args := [d] }
  | _ => none }
def fnExactNoRematchRow : OpenClaim := { program := "ytbpmandkogjaoaa", sum := "2b2ab6d10bfb36b73fbf10730ae72fb8f764db293ddbc5070179d8b1710e932e", func := "loop.example/g03009/laws.FnExactNoRematch", spec := "fnExactNoRematch", apart := false }
def FnExactNoRematchSaid : Prop := fnExactNoRematchRow.holds Try.pinned (OpenSpec.ofChange fnExactNoRematchSpec)

/-- ITS FALSE NEIGHBOUR: 'it returns false'. Refute it at one input. -/
def fnExactNoRematchWrong : ChangeSpec := { name := "fnExactNoRematch", fn := fun _ => fun
  | [d] => { results := [.lit (.bool false)], args := [d] }
  | _ => none }
def FnExactNoRematchWrongFalsely : Prop := fnExactNoRematchRow.holds Try.pinned (OpenSpec.ofChange fnExactNoRematchWrong)

/-- 'laws.FnExactIsImpartial': WHATEVER THE INPUT: true; the input reads as it did. -/
def fnExactIsImpartialSpec : ChangeSpec := { name := "fnExactIsImpartial", fn := fun _ => fun
  | [d] => { results := [.lit (.bool true)], args := [d] }
  | _ => none }
def fnExactIsImpartialRow : OpenClaim := { program := "ytbpmandkogjaoaa", sum := "2b2ab6d10bfb36b73fbf10730ae72fb8f764db293ddbc5070179d8b1710e932e", func := "loop.example/g03009/laws.FnExactIsImpartial", spec := "fnExactIsImpartial", unfollowed := true, recurses := true, apart := false }
def FnExactIsImpartialSaid : Prop := fnExactIsImpartialRow.holds Try.pinned (OpenSpec.ofChange fnExactIsImpartialSpec)

/-- ITS FALSE NEIGHBOUR: 'it returns false'. Refute it at one input. -/
def fnExactIsImpartialWrong : ChangeSpec := { name := "fnExactIsImpartial", fn := fun _ => fun
  | [d] => { results := [.lit (.bool false)], args := [d] }
  | _ => none }
def FnExactIsImpartialWrongFalsely : Prop := fnExactIsImpartialRow.holds Try.pinned (OpenSpec.ofChange fnExactIsImpartialWrong)

/-- 'laws.FnExactEqualClubs': WHATEVER THE INPUT: true; the input reads as it did. -/
def fnExactEqualClubsSpec : ChangeSpec := { name := "fnExactEqualClubs", fn := fun _ => fun
  | [d1, d2] => { results := [.lit (.bool true)], args := [d1, d2] }
  | _ => none }
def fnExactEqualClubsRow : OpenClaim := { program := "ytbpmandkogjaoaa", sum := "2b2ab6d10bfb36b73fbf10730ae72fb8f764db293ddbc5070179d8b1710e932e", func := "loop.example/g03009/laws.FnExactEqualClubs", spec := "fnExactEqualClubs", unfollowed := true, recurses := true, apart := false }
def FnExactEqualClubsSaid : Prop := fnExactEqualClubsRow.holds Try.pinned (OpenSpec.ofChange fnExactEqualClubsSpec)

/-- ITS FALSE NEIGHBOUR: 'it returns false'. Refute it at one input. -/
def fnExactEqualClubsWrong : ChangeSpec := { name := "fnExactEqualClubs", fn := fun _ => fun
  | [d1, d2] => { results := [.lit (.bool false)], args := [d1, d2] }
  | _ => none }
def FnExactEqualClubsWrongFalsely : Prop := fnExactEqualClubsRow.holds Try.pinned (OpenSpec.ofChange fnExactEqualClubsWrong)

/-- 'laws.FnExactIsZeroSum': WHATEVER THE INPUT: true; the input reads as it did. -/
def fnExactIsZeroSumSpec : ChangeSpec := { name := "fnExactIsZeroSum", fn := fun _ => fun
  | [d] => { results := [.lit (.bool true)], args := [d] }
  | _ => none }
def fnExactIsZeroSumRow : OpenClaim := { program := "ytbpmandkogjaoaa", sum := "2b2ab6d10bfb36b73fbf10730ae72fb8f764db293ddbc5070179d8b1710e932e", func := "loop.example/g03009/laws.FnExactIsZeroSum", spec := "fnExactIsZeroSum", unfollowed := true, recurses := true, apart := false }
def FnExactIsZeroSumSaid : Prop := fnExactIsZeroSumRow.holds Try.pinned (OpenSpec.ofChange fnExactIsZeroSumSpec)

/-- ITS FALSE NEIGHBOUR: 'it returns false'. Refute it at one input. -/
def fnExactIsZeroSumWrong : ChangeSpec := { name := "fnExactIsZeroSum", fn := fun _ => fun
  | [d] => { results := [.lit (.bool false)], args := [d] }
  | _ => none }
def FnExactIsZeroSumWrongFalsely : Prop := fnExactIsZeroSumRow.holds Try.pinned (OpenSpec.ofChange fnExactIsZeroSumWrong)

/- THE SECOND FORM. 'bulk': how many values and letters a reading holds, each counted each time it is reached (what is shared counts as often as it is met; a slice's spare places count too). A statement '..UptoSaid' is the law's where the arguments, and the package variables that the reading takes, are together of bulk at most 1048576: NARROWER than '..Said'. Prove '..Said' where nothing that the law and all that it calls make is longer than what came in: it says more and counts as full. Else prove '..UptoSaid'. A law counts once. -/
mutual
def uptoBulk {H : Type} : DataW H → Nat
  | .lit (.string bytes) => bytes.length + 1
  | .lit _ => 1
  | .nil => 1
  | .ptr d => uptoBulk d + 1
  | .slice elems spare => uptoBulkAll elems + uptoBulkAll spare + 1
  | .agg parts => uptoBulkAll parts + 1
  | .iface _ d => uptoBulk d + 1
  | .map entries => uptoBulkEntries entries + 1
  | .held _ => 1
def uptoBulkAll {H : Type} : List (DataW H) → Nat
  | [] => 0
  | d :: r => uptoBulk d + uptoBulkAll r
def uptoBulkEntries {H : Type} : List (Lit × DataW H) → Nat
  | [] => 0
  | x :: r => uptoBulkEntry x + uptoBulkEntries r
def uptoBulkEntry {H : Type} : Lit × DataW H → Nat
  | (.string bytes, d) => bytes.length + uptoBulk d + 1
  | (_, d) => uptoBulk d + 1
 end
def uptoSmall : (H : Type) → List (DataW H) → Bool := fun _ ds => decide (uptoBulkAll ds ≤ 1048576)
def OpenSpec.upto (s : _root_.Go.ChangeSpec) : _root_.Go.OpenSpec := { _root_.Go.OpenSpec.ofChange s with cond := some uptoSmall }

/-- 'laws.FnExactParseFormula', WHERE WHAT IT READS IS OF BULK AT MOST 1048576: true; the input reads as it did. -/
def fnExactParseFormulaUptoRow : OpenClaim := { program := "ytbpmandkogjaoaa", sum := "2b2ab6d10bfb36b73fbf10730ae72fb8f764db293ddbc5070179d8b1710e932e", func := "loop.example/g03009/laws.FnExactParseFormula", spec := "fnExactParseFormula", inPlace := ["internal/bytealg.IndexByteString"], recurses := true, apart := false, narrowed := true }
def FnExactParseFormulaUptoSaid : Prop := fnExactParseFormulaUptoRow.holds Try.pinned (OpenSpec.upto fnExactParseFormulaSpec)

/-- 'laws.FnExactIsRunning', WHERE WHAT IT READS IS OF BULK AT MOST 1048576: true; the input reads as it did. -/
def fnExactIsRunningUptoRow : OpenClaim := { program := "ytbpmandkogjaoaa", sum := "2b2ab6d10bfb36b73fbf10730ae72fb8f764db293ddbc5070179d8b1710e932e", func := "loop.example/g03009/laws.FnExactIsRunning", spec := "fnExactIsRunning", apart := false, narrowed := true }
def FnExactIsRunningUptoSaid : Prop := fnExactIsRunningUptoRow.holds Try.pinned (OpenSpec.upto fnExactIsRunningSpec)

/-- 'laws.FnExactNoRematch', WHERE WHAT IT READS IS OF BULK AT MOST 1048576: true; the input reads as it did. -/
def fnExactNoRematchUptoRow : OpenClaim := { program := "ytbpmandkogjaoaa", sum := "2b2ab6d10bfb36b73fbf10730ae72fb8f764db293ddbc5070179d8b1710e932e", func := "loop.example/g03009/laws.FnExactNoRematch", spec := "fnExactNoRematch", apart := false, narrowed := true }
def FnExactNoRematchUptoSaid : Prop := fnExactNoRematchUptoRow.holds Try.pinned (OpenSpec.upto fnExactNoRematchSpec)

/-- 'laws.FnExactIsImpartial', WHERE WHAT IT READS IS OF BULK AT MOST 1048576: true; the input reads as it did. -/
def fnExactIsImpartialUptoRow : OpenClaim := { program := "ytbpmandkogjaoaa", sum := "2b2ab6d10bfb36b73fbf10730ae72fb8f764db293ddbc5070179d8b1710e932e", func := "loop.example/g03009/laws.FnExactIsImpartial", spec := "fnExactIsImpartial", unfollowed := true, recurses := true, apart := false, narrowed := true }
def FnExactIsImpartialUptoSaid : Prop := fnExactIsImpartialUptoRow.holds Try.pinned (OpenSpec.upto fnExactIsImpartialSpec)

/-- 'laws.FnExactEqualClubs', WHERE WHAT IT READS IS OF BULK AT MOST 1048576: true; the input reads as it did. -/
def fnExactEqualClubsUptoRow : OpenClaim := { program := "ytbpmandkogjaoaa", sum := "2b2ab6d10bfb36b73fbf10730ae72fb8f764db293ddbc5070179d8b1710e932e", func := "loop.example/g03009/laws.FnExactEqualClubs", spec := "fnExactEqualClubs", unfollowed := true, recurses := true, apart := false, narrowed := true }
def FnExactEqualClubsUptoSaid : Prop := fnExactEqualClubsUptoRow.holds Try.pinned (OpenSpec.upto fnExactEqualClubsSpec)

/-- 'laws.FnExactIsZeroSum', WHERE WHAT IT READS IS OF BULK AT MOST 1048576: true; the input reads as it did. -/
def fnExactIsZeroSumUptoRow : OpenClaim := { program := "ytbpmandkogjaoaa", sum := "2b2ab6d10bfb36b73fbf10730ae72fb8f764db293ddbc5070179d8b1710e932e", func := "loop.example/g03009/laws.FnExactIsZeroSum", spec := "fnExactIsZeroSum", unfollowed := true, recurses := true, apart := false, narrowed := true }
def FnExactIsZeroSumUptoSaid : Prop := fnExactIsZeroSumUptoRow.holds Try.pinned (OpenSpec.upto fnExactIsZeroSumSpec)

end Rows
end Go.Proofs.Ytbpmandkogjaoaa
