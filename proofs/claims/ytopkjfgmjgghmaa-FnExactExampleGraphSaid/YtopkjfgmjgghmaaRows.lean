/-
  No cell of these rows narrows 'for every input' (looked for: loops, veiled, ifaces, maps, wideKeys, modest, calm, conditions, laid).
  DERIVED. THE GIVEN ROWS OF THIS SEAT. 11 by the template 'for every input the law returns true; each argument reads behind the call as it read before'; 0 by the template 'total and deterministic' (their statements: YtopkjfgmjgghmaaTotals.lean).
  GIVEN WITH THE SEED: the statements are not yours to turn. If you find one false, say at which input.
  Laid BY PROGRAM, IN A SANDBOX (cutbox-rows.mjs): the forced cells as the released guide's own fill.sh prints them over the translation 76377a0b435e9e6d… (all of the seat's roots in one cut). By AI agents, Wed Nov 11 2026. No macro, syntax, notation, axiom, sorry.
-/
import Derived.Test.YtopkjfgmjgghmaaChecked
import GoSem.Claim
import GoSem.ClaimJoined
import GoSem.ClaimMapViews
import Derived.JoinedTies
import Derived.KernelRfl
namespace Go.Proofs.Ytopkjfgmjgghmaa
/- THE CELL 'sum', in the pinned program and in every row, IS THE sha256 OF THE DUMP (.gsa) THAT YtopkjfgmjgghmaaProg.lean LOADS. Nothing in Lean hashes anything: it is a label: what it is worth is what the hold of that sum in a sandbox is worth. -/
noncomputable def Try.pinned : Pinned := { name := "ytopkjfgmjgghmaa", sum := "76377a0b435e9e6dec8584d351b8ebff9192859e245af5c5ab333682c86d0c7c", checked := Try.checked }
namespace Rows
def none {H : Type} : Left H := { results := [], args := [] }

/-- 'laws.FnExactEventName': WHATEVER THE INPUT: true; the input reads as it did. -/
def fnExactEventNameSpec : ChangeSpec := { name := "fnExactEventName", fn := fun _ => fun
  | [d] => { results := [.lit (.bool true)], args := [d] }
  | _ => none }
def fnExactEventNameRow : OpenClaim := { program := "ytopkjfgmjgghmaa", sum := "76377a0b435e9e6dec8584d351b8ebff9192859e245af5c5ab333682c86d0c7c", func := "loop.example/g03009/laws.FnExactEventName", spec := "fnExactEventName", apart := false }
def FnExactEventNameSaid : Prop := fnExactEventNameRow.holds Try.pinned (OpenSpec.ofChange fnExactEventNameSpec)

/-- ITS FALSE NEIGHBOUR: 'it returns false'. Refute it at one input. -/
def fnExactEventNameWrong : ChangeSpec := { name := "fnExactEventName", fn := fun _ => fun
  | [d] => { results := [.lit (.bool false)], args := [d] }
  | _ => none }
def FnExactEventNameWrongFalsely : Prop := fnExactEventNameRow.holds Try.pinned (OpenSpec.ofChange fnExactEventNameWrong)

/-- 'laws.FnExactCountEvents': WHATEVER THE INPUT: true; the input reads as it did. -/
def fnExactCountEventsSpec : ChangeSpec := { name := "fnExactCountEvents", fn := fun _ => fun
  | [d1, d2] => { results := [.lit (.bool true)], args := [d1, d2] }
  | _ => none }
def fnExactCountEventsRow : OpenClaim := { program := "ytopkjfgmjgghmaa", sum := "76377a0b435e9e6dec8584d351b8ebff9192859e245af5c5ab333682c86d0c7c", func := "loop.example/g03009/laws.FnExactCountEvents", spec := "fnExactCountEvents", apart := false }
def FnExactCountEventsSaid : Prop := fnExactCountEventsRow.holds Try.pinned (OpenSpec.ofChange fnExactCountEventsSpec)

/-- ITS FALSE NEIGHBOUR: 'it returns false'. Refute it at one input. -/
def fnExactCountEventsWrong : ChangeSpec := { name := "fnExactCountEvents", fn := fun _ => fun
  | [d1, d2] => { results := [.lit (.bool false)], args := [d1, d2] }
  | _ => none }
def FnExactCountEventsWrongFalsely : Prop := fnExactCountEventsRow.holds Try.pinned (OpenSpec.ofChange fnExactCountEventsWrong)

/-- 'laws.FnExactCountWhat': WHATEVER THE INPUT: true; the input reads as it did. -/
def fnExactCountWhatSpec : ChangeSpec := { name := "fnExactCountWhat", fn := fun _ => fun
  | [d1, d2] => { results := [.lit (.bool true)], args := [d1, d2] }
  | _ => none }
def fnExactCountWhatRow : OpenClaim := { program := "ytopkjfgmjgghmaa", sum := "76377a0b435e9e6dec8584d351b8ebff9192859e245af5c5ab333682c86d0c7c", func := "loop.example/g03009/laws.FnExactCountWhat", spec := "fnExactCountWhat", apart := false }
def FnExactCountWhatSaid : Prop := fnExactCountWhatRow.holds Try.pinned (OpenSpec.ofChange fnExactCountWhatSpec)

/-- ITS FALSE NEIGHBOUR: 'it returns false'. Refute it at one input. -/
def fnExactCountWhatWrong : ChangeSpec := { name := "fnExactCountWhat", fn := fun _ => fun
  | [d1, d2] => { results := [.lit (.bool false)], args := [d1, d2] }
  | _ => none }
def FnExactCountWhatWrongFalsely : Prop := fnExactCountWhatRow.holds Try.pinned (OpenSpec.ofChange fnExactCountWhatWrong)

/-- 'laws.FnExactAveragePoints': WHATEVER THE INPUT: true; the input reads as it did. -/
def fnExactAveragePointsSpec : ChangeSpec := { name := "fnExactAveragePoints", fn := fun _ => fun
  | [d] => { results := [.lit (.bool true)], args := [d] }
  | _ => none }
def fnExactAveragePointsRow : OpenClaim := { program := "ytopkjfgmjgghmaa", sum := "76377a0b435e9e6dec8584d351b8ebff9192859e245af5c5ab333682c86d0c7c", func := "loop.example/g03009/laws.FnExactAveragePoints", spec := "fnExactAveragePoints", apart := false }
def FnExactAveragePointsSaid : Prop := fnExactAveragePointsRow.holds Try.pinned (OpenSpec.ofChange fnExactAveragePointsSpec)

/-- ITS FALSE NEIGHBOUR: 'it returns false'. Refute it at one input. -/
def fnExactAveragePointsWrong : ChangeSpec := { name := "fnExactAveragePoints", fn := fun _ => fun
  | [d] => { results := [.lit (.bool false)], args := [d] }
  | _ => none }
def FnExactAveragePointsWrongFalsely : Prop := fnExactAveragePointsRow.holds Try.pinned (OpenSpec.ofChange fnExactAveragePointsWrong)

/-- 'laws.FnExactSideShare': WHATEVER THE INPUT: true; the input reads as it did. -/
def fnExactSideShareSpec : ChangeSpec := { name := "fnExactSideShare", fn := fun _ => fun
  | [d] => { results := [.lit (.bool true)], args := [d] }
  | _ => none }
def fnExactSideShareRow : OpenClaim := { program := "ytopkjfgmjgghmaa", sum := "76377a0b435e9e6dec8584d351b8ebff9192859e245af5c5ab333682c86d0c7c", func := "loop.example/g03009/laws.FnExactSideShare", spec := "fnExactSideShare", apart := false }
def FnExactSideShareSaid : Prop := fnExactSideShareRow.holds Try.pinned (OpenSpec.ofChange fnExactSideShareSpec)

/-- ITS FALSE NEIGHBOUR: 'it returns false'. Refute it at one input. -/
def fnExactSideShareWrong : ChangeSpec := { name := "fnExactSideShare", fn := fun _ => fun
  | [d] => { results := [.lit (.bool false)], args := [d] }
  | _ => none }
def FnExactSideShareWrongFalsely : Prop := fnExactSideShareRow.holds Try.pinned (OpenSpec.ofChange fnExactSideShareWrong)

/-- 'laws.FnExactExampleGraph': WHATEVER THE INPUT: true; the input reads as it did. -/
def fnExactExampleGraphSpec : ChangeSpec := { name := "fnExactExampleGraph", fn := fun _ => fun
  | [] => { results := [.lit (.bool true)], args := [] }
  | _ => none }
def fnExactExampleGraphRow : OpenClaim := { program := "ytopkjfgmjgghmaa", sum := "76377a0b435e9e6dec8584d351b8ebff9192859e245af5c5ab333682c86d0c7c", func := "loop.example/g03009/laws.FnExactExampleGraph", spec := "fnExactExampleGraph", apart := false }
def FnExactExampleGraphSaid : Prop := fnExactExampleGraphRow.holds Try.pinned (OpenSpec.ofChange fnExactExampleGraphSpec)

/-- ITS FALSE NEIGHBOUR: 'it returns false'. Refute it at one input. -/
def fnExactExampleGraphWrong : ChangeSpec := { name := "fnExactExampleGraph", fn := fun _ => fun
  | [] => { results := [.lit (.bool false)], args := [] }
  | _ => none }
def FnExactExampleGraphWrongFalsely : Prop := fnExactExampleGraphRow.holds Try.pinned (OpenSpec.ofChange fnExactExampleGraphWrong)

/-- 'laws.FnExactBusiestJudge': WHATEVER THE INPUT: true; the input reads as it did. -/
def fnExactBusiestJudgeSpec : ChangeSpec := { name := "fnExactBusiestJudge", fn := fun _ => fun
  | [d] => { results := [.lit (.bool true)], args := [d] }
  | _ => none }
def fnExactBusiestJudgeRow : OpenClaim := { program := "ytopkjfgmjgghmaa", sum := "76377a0b435e9e6dec8584d351b8ebff9192859e245af5c5ab333682c86d0c7c", func := "loop.example/g03009/laws.FnExactBusiestJudge", spec := "fnExactBusiestJudge", apart := false }
def FnExactBusiestJudgeSaid : Prop := fnExactBusiestJudgeRow.holds Try.pinned (OpenSpec.ofChange fnExactBusiestJudgeSpec)

/-- ITS FALSE NEIGHBOUR: 'it returns false'. Refute it at one input. -/
def fnExactBusiestJudgeWrong : ChangeSpec := { name := "fnExactBusiestJudge", fn := fun _ => fun
  | [d] => { results := [.lit (.bool false)], args := [d] }
  | _ => none }
def FnExactBusiestJudgeWrongFalsely : Prop := fnExactBusiestJudgeRow.holds Try.pinned (OpenSpec.ofChange fnExactBusiestJudgeWrong)

/-- 'laws.FnExactIsOpenIn': WHATEVER THE INPUT: true; the input reads as it did. -/
def fnExactIsOpenInSpec : ChangeSpec := { name := "fnExactIsOpenIn", fn := fun _ => fun
  | [d] => { results := [.lit (.bool true)], args := [d] }
  | _ => none }
def fnExactIsOpenInRow : OpenClaim := { program := "ytopkjfgmjgghmaa", sum := "76377a0b435e9e6dec8584d351b8ebff9192859e245af5c5ab333682c86d0c7c", func := "loop.example/g03009/laws.FnExactIsOpenIn", spec := "fnExactIsOpenIn", apart := false }
def FnExactIsOpenInSaid : Prop := fnExactIsOpenInRow.holds Try.pinned (OpenSpec.ofChange fnExactIsOpenInSpec)

/-- ITS FALSE NEIGHBOUR: 'it returns false'. Refute it at one input. -/
def fnExactIsOpenInWrong : ChangeSpec := { name := "fnExactIsOpenIn", fn := fun _ => fun
  | [d] => { results := [.lit (.bool false)], args := [d] }
  | _ => none }
def FnExactIsOpenInWrongFalsely : Prop := fnExactIsOpenInRow.holds Try.pinned (OpenSpec.ofChange fnExactIsOpenInWrong)

/-- 'laws.FnExactLedBy': WHATEVER THE INPUT: true; the input reads as it did. -/
def fnExactLedBySpec : ChangeSpec := { name := "fnExactLedBy", fn := fun _ => fun
  | [d1, d2] => { results := [.lit (.bool true)], args := [d1, d2] }
  | _ => none }
def fnExactLedByRow : OpenClaim := { program := "ytopkjfgmjgghmaa", sum := "76377a0b435e9e6dec8584d351b8ebff9192859e245af5c5ab333682c86d0c7c", func := "loop.example/g03009/laws.FnExactLedBy", spec := "fnExactLedBy", apart := false }
def FnExactLedBySaid : Prop := fnExactLedByRow.holds Try.pinned (OpenSpec.ofChange fnExactLedBySpec)

/-- ITS FALSE NEIGHBOUR: 'it returns false'. Refute it at one input. -/
def fnExactLedByWrong : ChangeSpec := { name := "fnExactLedBy", fn := fun _ => fun
  | [d1, d2] => { results := [.lit (.bool false)], args := [d1, d2] }
  | _ => none }
def FnExactLedByWrongFalsely : Prop := fnExactLedByRow.holds Try.pinned (OpenSpec.ofChange fnExactLedByWrong)

/-- 'laws.FnExactRoundsIn': WHATEVER THE INPUT: true; the input reads as it did. -/
def fnExactRoundsInSpec : ChangeSpec := { name := "fnExactRoundsIn", fn := fun _ => fun
  | [d] => { results := [.lit (.bool true)], args := [d] }
  | _ => none }
def fnExactRoundsInRow : OpenClaim := { program := "ytopkjfgmjgghmaa", sum := "76377a0b435e9e6dec8584d351b8ebff9192859e245af5c5ab333682c86d0c7c", func := "loop.example/g03009/laws.FnExactRoundsIn", spec := "fnExactRoundsIn", apart := false }
def FnExactRoundsInSaid : Prop := fnExactRoundsInRow.holds Try.pinned (OpenSpec.ofChange fnExactRoundsInSpec)

/-- ITS FALSE NEIGHBOUR: 'it returns false'. Refute it at one input. -/
def fnExactRoundsInWrong : ChangeSpec := { name := "fnExactRoundsIn", fn := fun _ => fun
  | [d] => { results := [.lit (.bool false)], args := [d] }
  | _ => none }
def FnExactRoundsInWrongFalsely : Prop := fnExactRoundsInRow.holds Try.pinned (OpenSpec.ofChange fnExactRoundsInWrong)

/-- 'laws.FnExactClubWins': WHATEVER THE INPUT: true; the input reads as it did. -/
def fnExactClubWinsSpec : ChangeSpec := { name := "fnExactClubWins", fn := fun _ => fun
  | [d1, d2] => { results := [.lit (.bool true)], args := [d1, d2] }
  | _ => none }
def fnExactClubWinsRow : OpenClaim := { program := "ytopkjfgmjgghmaa", sum := "76377a0b435e9e6dec8584d351b8ebff9192859e245af5c5ab333682c86d0c7c", func := "loop.example/g03009/laws.FnExactClubWins", spec := "fnExactClubWins", unfollowed := true, recurses := true, apart := false }
def FnExactClubWinsSaid : Prop := fnExactClubWinsRow.holds Try.pinned (OpenSpec.ofChange fnExactClubWinsSpec)

/-- ITS FALSE NEIGHBOUR: 'it returns false'. Refute it at one input. -/
def fnExactClubWinsWrong : ChangeSpec := { name := "fnExactClubWins", fn := fun _ => fun
  | [d1, d2] => { results := [.lit (.bool false)], args := [d1, d2] }
  | _ => none }
def FnExactClubWinsWrongFalsely : Prop := fnExactClubWinsRow.holds Try.pinned (OpenSpec.ofChange fnExactClubWinsWrong)

/- THE SECOND FORM. 'bulk': how many values and letters a reading holds, each counted each time it is reached (what is shared counts as often as it is met; a slice's spare places count too). A statement '..UptoSaid' is the law's where the arguments, and the package variables that the reading takes, are together of bulk at most 1048576: NARROWER than '..Said'. Prove '..Said' where nothing that the law and all that it calls make is longer than what came in: it says more and counts as full. Else prove '..UptoSaid'. A law counts once. -/
mutual
def uptoBulk {H : Type} : DataW H → Nat
  | .lit (.string bytes) => bytes.length + 1
  | .lit _ => 1
  | .nil => 1
  | .ptr d => uptoBulk d + 1
  | .slice elems spare => uptoBulkAll elems + uptoBulkAll spare + 1
  | .agg parts => uptoBulkAll parts + 1
  | .iface _ d => uptoBulk d + 1
  | .map entries => uptoBulkEntries entries + 1
  | .held _ => 1
def uptoBulkAll {H : Type} : List (DataW H) → Nat
  | [] => 0
  | d :: r => uptoBulk d + uptoBulkAll r
def uptoBulkEntries {H : Type} : List (Lit × DataW H) → Nat
  | [] => 0
  | x :: r => uptoBulkEntry x + uptoBulkEntries r
def uptoBulkEntry {H : Type} : Lit × DataW H → Nat
  | (.string bytes, d) => bytes.length + uptoBulk d + 1
  | (_, d) => uptoBulk d + 1
 end
def uptoSmall : (H : Type) → List (DataW H) → Bool := fun _ ds => decide (uptoBulkAll ds ≤ 1048576)
def OpenSpec.upto (s : _root_.Go.ChangeSpec) : _root_.Go.OpenSpec := { _root_.Go.OpenSpec.ofChange s with cond := some uptoSmall }

/-- 'laws.FnExactEventName', WHERE WHAT IT READS IS OF BULK AT MOST 1048576: true; the input reads as it did. -/
def fnExactEventNameUptoRow : OpenClaim := { program := "ytopkjfgmjgghmaa", sum := "76377a0b435e9e6dec8584d351b8ebff9192859e245af5c5ab333682c86d0c7c", func := "loop.example/g03009/laws.FnExactEventName", spec := "fnExactEventName", apart := false, narrowed := true }
def FnExactEventNameUptoSaid : Prop := fnExactEventNameUptoRow.holds Try.pinned (OpenSpec.upto fnExactEventNameSpec)

/-- 'laws.FnExactCountEvents', WHERE WHAT IT READS IS OF BULK AT MOST 1048576: true; the input reads as it did. -/
def fnExactCountEventsUptoRow : OpenClaim := { program := "ytopkjfgmjgghmaa", sum := "76377a0b435e9e6dec8584d351b8ebff9192859e245af5c5ab333682c86d0c7c", func := "loop.example/g03009/laws.FnExactCountEvents", spec := "fnExactCountEvents", apart := false, narrowed := true }
def FnExactCountEventsUptoSaid : Prop := fnExactCountEventsUptoRow.holds Try.pinned (OpenSpec.upto fnExactCountEventsSpec)

/-- 'laws.FnExactCountWhat', WHERE WHAT IT READS IS OF BULK AT MOST 1048576: true; the input reads as it did. -/
def fnExactCountWhatUptoRow : OpenClaim := { program := "ytopkjfgmjgghmaa", sum := "76377a0b435e9e6dec8584d351b8ebff9192859e245af5c5ab333682c86d0c7c", func := "loop.example/g03009/laws.FnExactCountWhat", spec := "fnExactCountWhat", apart := false, narrowed := true }
def FnExactCountWhatUptoSaid : Prop := fnExactCountWhatUptoRow.holds Try.pinned (OpenSpec.upto fnExactCountWhatSpec)

/-- 'laws.FnExactAveragePoints', WHERE WHAT IT READS IS OF BULK AT MOST 1048576: true; the input reads as it did. -/
def fnExactAveragePointsUptoRow : OpenClaim := { program := "ytopkjfgmjgghmaa", sum := "76377a0b435e9e6dec8584d351b8ebff9192859e245af5c5ab333682c86d0c7c", func := "loop.example/g03009/laws.FnExactAveragePoints", spec := "fnExactAveragePoints", apart := false, narrowed := true }
def FnExactAveragePointsUptoSaid : Prop := fnExactAveragePointsUptoRow.holds Try.pinned (OpenSpec.upto fnExactAveragePointsSpec)

/-- 'laws.FnExactSideShare', WHERE WHAT IT READS IS OF BULK AT MOST 1048576: true; the input reads as it did. -/
def fnExactSideShareUptoRow : OpenClaim := { program := "ytopkjfgmjgghmaa", sum := "76377a0b435e9e6dec8584d351b8ebff9192859e245af5c5ab333682c86d0c7c", func := "loop.example/g03009/laws.FnExactSideShare", spec := "fnExactSideShare", apart := false, narrowed := true }
def FnExactSideShareUptoSaid : Prop := fnExactSideShareUptoRow.holds Try.pinned (OpenSpec.upto fnExactSideShareSpec)

/-- 'laws.FnExactExampleGraph', WHERE WHAT IT READS IS OF BULK AT MOST 1048576: true; the input reads as it did. -/
def fnExactExampleGraphUptoRow : OpenClaim := { program := "ytopkjfgmjgghmaa", sum := "76377a0b435e9e6dec8584d351b8ebff9192859e245af5c5ab333682c86d0c7c", func := "loop.example/g03009/laws.FnExactExampleGraph", spec := "fnExactExampleGraph", apart := false, narrowed := true }
def FnExactExampleGraphUptoSaid : Prop := fnExactExampleGraphUptoRow.holds Try.pinned (OpenSpec.upto fnExactExampleGraphSpec)

/-- 'laws.FnExactBusiestJudge', WHERE WHAT IT READS IS OF BULK AT MOST 1048576: true; the input reads as it did. -/
def fnExactBusiestJudgeUptoRow : OpenClaim := { program := "ytopkjfgmjgghmaa", sum := "76377a0b435e9e6dec8584d351b8ebff9192859e245af5c5ab333682c86d0c7c", func := "loop.example/g03009/laws.FnExactBusiestJudge", spec := "fnExactBusiestJudge", apart := false, narrowed := true }
def FnExactBusiestJudgeUptoSaid : Prop := fnExactBusiestJudgeUptoRow.holds Try.pinned (OpenSpec.upto fnExactBusiestJudgeSpec)

/-- 'laws.FnExactIsOpenIn', WHERE WHAT IT READS IS OF BULK AT MOST 1048576: true; the input reads as it did. -/
def fnExactIsOpenInUptoRow : OpenClaim := { program := "ytopkjfgmjgghmaa", sum := "76377a0b435e9e6dec8584d351b8ebff9192859e245af5c5ab333682c86d0c7c", func := "loop.example/g03009/laws.FnExactIsOpenIn", spec := "fnExactIsOpenIn", apart := false, narrowed := true }
def FnExactIsOpenInUptoSaid : Prop := fnExactIsOpenInUptoRow.holds Try.pinned (OpenSpec.upto fnExactIsOpenInSpec)

/-- 'laws.FnExactLedBy', WHERE WHAT IT READS IS OF BULK AT MOST 1048576: true; the input reads as it did. -/
def fnExactLedByUptoRow : OpenClaim := { program := "ytopkjfgmjgghmaa", sum := "76377a0b435e9e6dec8584d351b8ebff9192859e245af5c5ab333682c86d0c7c", func := "loop.example/g03009/laws.FnExactLedBy", spec := "fnExactLedBy", apart := false, narrowed := true }
def FnExactLedByUptoSaid : Prop := fnExactLedByUptoRow.holds Try.pinned (OpenSpec.upto fnExactLedBySpec)

/-- 'laws.FnExactRoundsIn', WHERE WHAT IT READS IS OF BULK AT MOST 1048576: true; the input reads as it did. -/
def fnExactRoundsInUptoRow : OpenClaim := { program := "ytopkjfgmjgghmaa", sum := "76377a0b435e9e6dec8584d351b8ebff9192859e245af5c5ab333682c86d0c7c", func := "loop.example/g03009/laws.FnExactRoundsIn", spec := "fnExactRoundsIn", apart := false, narrowed := true }
def FnExactRoundsInUptoSaid : Prop := fnExactRoundsInUptoRow.holds Try.pinned (OpenSpec.upto fnExactRoundsInSpec)

/-- 'laws.FnExactClubWins', WHERE WHAT IT READS IS OF BULK AT MOST 1048576: true; the input reads as it did. -/
def fnExactClubWinsUptoRow : OpenClaim := { program := "ytopkjfgmjgghmaa", sum := "76377a0b435e9e6dec8584d351b8ebff9192859e245af5c5ab333682c86d0c7c", func := "loop.example/g03009/laws.FnExactClubWins", spec := "fnExactClubWins", unfollowed := true, recurses := true, apart := false, narrowed := true }
def FnExactClubWinsUptoSaid : Prop := fnExactClubWinsUptoRow.holds Try.pinned (OpenSpec.upto fnExactClubWinsSpec)

end Rows
end Go.Proofs.Ytopkjfgmjgghmaa
