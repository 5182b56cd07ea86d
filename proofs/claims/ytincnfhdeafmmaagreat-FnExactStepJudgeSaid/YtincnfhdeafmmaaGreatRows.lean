/-
  No cell of these rows narrows 'for every input' (looked for: loops, veiled, ifaces, maps, wideKeys, modest, calm, conditions, laid).
  DERIVED. THE GIVEN ROWS OF THIS SEAT. 7 by the template 'for every input the law returns true; each argument reads behind the call as it read before'; 0 by the template 'total and deterministic' (their statements: YtincnfhdeafmmaaGreatTotals.lean).
  GIVEN WITH THE SEED: the statements are not yours to turn. If you find one false, say at which input.
  Laid BY PROGRAM, IN A SANDBOX (cutbox-rows.mjs): the forced cells as the released guide's own fill.sh prints them over the translation 2b164723e981ce42… (all of the seat's roots in one cut). By AI agents, Wed Nov 11 2026. No macro, syntax, notation, axiom, sorry.
-/
import Derived.Test.YtincnfhdeafmmaaGreatChecked
import GoSem.Claim
import GoSem.ClaimJoined
import GoSem.ClaimMapViews
import Derived.JoinedTies
import Derived.KernelRfl
namespace Go.Proofs.YtincnfhdeafmmaaGreat
/- THE CELL 'sum', in the pinned program and in every row, IS THE sha256 OF THE DUMP (.gsa) THAT YtincnfhdeafmmaaGreatProg.lean LOADS. Nothing in Lean hashes anything: it is a label: what it is worth is what the hold of that sum in a sandbox is worth. -/
noncomputable def Tryz.pinned : Pinned := { name := "ytincnfhdeafmmaagreat", sum := "2b164723e981ce42522371ed8d207f0dc8667dbedc59c7f8d87e0b3c5400b338", checked := Tryz.checked }
namespace Rows
def none {H : Type} : Left H := { results := [], args := [] }

/-- 'laws.FnExactStepBallot': WHATEVER THE INPUT: true; the input reads as it did. -/
def fnExactStepBallotSpec : ChangeSpec := { name := "fnExactStepBallot", fn := fun _ => fun
  | [d1, d2, d3, d4] => { results := [.lit (.bool true)], args := [d1, d2, d3, d4] }
  | _ => none }
def fnExactStepBallotRow : OpenClaim := { program := "ytincnfhdeafmmaagreat", sum := "2b164723e981ce42522371ed8d207f0dc8667dbedc59c7f8d87e0b3c5400b338", func := "loop.example/g03009/laws.FnExactStepBallot", spec := "fnExactStepBallot", unfollowed := true, recurses := true, apart := false }
def FnExactStepBallotSaid : Prop := fnExactStepBallotRow.holds Tryz.pinned (OpenSpec.ofChange fnExactStepBallotSpec)

/-- ITS FALSE NEIGHBOUR: 'it returns false'. Refute it at one input. -/
def fnExactStepBallotWrong : ChangeSpec := { name := "fnExactStepBallot", fn := fun _ => fun
  | [d1, d2, d3, d4] => { results := [.lit (.bool false)], args := [d1, d2, d3, d4] }
  | _ => none }
def FnExactStepBallotWrongFalsely : Prop := fnExactStepBallotRow.holds Tryz.pinned (OpenSpec.ofChange fnExactStepBallotWrong)

/-- 'laws.FnExactStepLeave': WHATEVER THE INPUT: true; the input reads as it did. -/
def fnExactStepLeaveSpec : ChangeSpec := { name := "fnExactStepLeave", fn := fun _ => fun
  | [d1, d2] => { results := [.lit (.bool true)], args := [d1, d2] }
  | _ => none }
def fnExactStepLeaveRow : OpenClaim := { program := "ytincnfhdeafmmaagreat", sum := "2b164723e981ce42522371ed8d207f0dc8667dbedc59c7f8d87e0b3c5400b338", func := "loop.example/g03009/laws.FnExactStepLeave", spec := "fnExactStepLeave", unfollowed := true, recurses := true, apart := false }
def FnExactStepLeaveSaid : Prop := fnExactStepLeaveRow.holds Tryz.pinned (OpenSpec.ofChange fnExactStepLeaveSpec)

/-- ITS FALSE NEIGHBOUR: 'it returns false'. Refute it at one input. -/
def fnExactStepLeaveWrong : ChangeSpec := { name := "fnExactStepLeave", fn := fun _ => fun
  | [d1, d2] => { results := [.lit (.bool false)], args := [d1, d2] }
  | _ => none }
def FnExactStepLeaveWrongFalsely : Prop := fnExactStepLeaveRow.holds Tryz.pinned (OpenSpec.ofChange fnExactStepLeaveWrong)

/-- 'laws.FnExactStepJoin': WHATEVER THE INPUT: true; the input reads as it did. -/
def fnExactStepJoinSpec : ChangeSpec := { name := "fnExactStepJoin", fn := fun _ => fun
  | [d1, d2, d3] => { results := [.lit (.bool true)], args := [d1, d2, d3] }
  | _ => none }
def fnExactStepJoinRow : OpenClaim := { program := "ytincnfhdeafmmaagreat", sum := "2b164723e981ce42522371ed8d207f0dc8667dbedc59c7f8d87e0b3c5400b338", func := "loop.example/g03009/laws.FnExactStepJoin", spec := "fnExactStepJoin", inPlace := ["slices.overlaps[loop.example/g03009/impl.Team]"], unfollowed := true, recurses := true, apart := false }
def FnExactStepJoinSaid : Prop := fnExactStepJoinRow.holds Tryz.pinned (OpenSpec.ofChange fnExactStepJoinSpec)

/-- ITS FALSE NEIGHBOUR: 'it returns false'. Refute it at one input. -/
def fnExactStepJoinWrong : ChangeSpec := { name := "fnExactStepJoin", fn := fun _ => fun
  | [d1, d2, d3] => { results := [.lit (.bool false)], args := [d1, d2, d3] }
  | _ => none }
def FnExactStepJoinWrongFalsely : Prop := fnExactStepJoinRow.holds Tryz.pinned (OpenSpec.ofChange fnExactStepJoinWrong)

/-- 'laws.FnExactStepJudge': WHATEVER THE INPUT: true; the input reads as it did. -/
def fnExactStepJudgeSpec : ChangeSpec := { name := "fnExactStepJudge", fn := fun _ => fun
  | [d1, d2, d3] => { results := [.lit (.bool true)], args := [d1, d2, d3] }
  | _ => none }
def fnExactStepJudgeRow : OpenClaim := { program := "ytincnfhdeafmmaagreat", sum := "2b164723e981ce42522371ed8d207f0dc8667dbedc59c7f8d87e0b3c5400b338", func := "loop.example/g03009/laws.FnExactStepJudge", spec := "fnExactStepJudge", inPlace := ["slices.overlaps[loop.example/g03009/impl.Judge]"], unfollowed := true, recurses := true, apart := false }
def FnExactStepJudgeSaid : Prop := fnExactStepJudgeRow.holds Tryz.pinned (OpenSpec.ofChange fnExactStepJudgeSpec)

/-- ITS FALSE NEIGHBOUR: 'it returns false'. Refute it at one input. -/
def fnExactStepJudgeWrong : ChangeSpec := { name := "fnExactStepJudge", fn := fun _ => fun
  | [d1, d2, d3] => { results := [.lit (.bool false)], args := [d1, d2, d3] }
  | _ => none }
def FnExactStepJudgeWrongFalsely : Prop := fnExactStepJudgeRow.holds Tryz.pinned (OpenSpec.ofChange fnExactStepJudgeWrong)

/-- 'laws.FnExactStepPair': WHATEVER THE INPUT: true; the input reads as it did. -/
def fnExactStepPairSpec : ChangeSpec := { name := "fnExactStepPair", fn := fun _ => fun
  | [d] => { results := [.lit (.bool true)], args := [d] }
  | _ => none }
def fnExactStepPairRow : OpenClaim := { program := "ytincnfhdeafmmaagreat", sum := "2b164723e981ce42522371ed8d207f0dc8667dbedc59c7f8d87e0b3c5400b338", func := "loop.example/g03009/laws.FnExactStepPair", spec := "fnExactStepPair", unfollowed := true, recurses := true, apart := false }
def FnExactStepPairSaid : Prop := fnExactStepPairRow.holds Tryz.pinned (OpenSpec.ofChange fnExactStepPairSpec)

/-- ITS FALSE NEIGHBOUR: 'it returns false'. Refute it at one input. -/
def fnExactStepPairWrong : ChangeSpec := { name := "fnExactStepPair", fn := fun _ => fun
  | [d] => { results := [.lit (.bool false)], args := [d] }
  | _ => none }
def FnExactStepPairWrongFalsely : Prop := fnExactStepPairRow.holds Tryz.pinned (OpenSpec.ofChange fnExactStepPairWrong)

/-- 'laws.FnExactStepClose': WHATEVER THE INPUT: true; the input reads as it did. -/
def fnExactStepCloseSpec : ChangeSpec := { name := "fnExactStepClose", fn := fun _ => fun
  | [d] => { results := [.lit (.bool true)], args := [d] }
  | _ => none }
def fnExactStepCloseRow : OpenClaim := { program := "ytincnfhdeafmmaagreat", sum := "2b164723e981ce42522371ed8d207f0dc8667dbedc59c7f8d87e0b3c5400b338", func := "loop.example/g03009/laws.FnExactStepClose", spec := "fnExactStepClose", unfollowed := true, recurses := true, apart := false }
def FnExactStepCloseSaid : Prop := fnExactStepCloseRow.holds Tryz.pinned (OpenSpec.ofChange fnExactStepCloseSpec)

/-- ITS FALSE NEIGHBOUR: 'it returns false'. Refute it at one input. -/
def fnExactStepCloseWrong : ChangeSpec := { name := "fnExactStepClose", fn := fun _ => fun
  | [d] => { results := [.lit (.bool false)], args := [d] }
  | _ => none }
def FnExactStepCloseWrongFalsely : Prop := fnExactStepCloseRow.holds Tryz.pinned (OpenSpec.ofChange fnExactStepCloseWrong)

/-- 'laws.FnSteps': WHATEVER THE INPUT: true; the input reads as it did. -/
def fnStepsSpec : ChangeSpec := { name := "fnSteps", fn := fun _ => fun
  | [d] => { results := [.lit (.bool true)], args := [d] }
  | _ => none }
def fnStepsRow : OpenClaim := { program := "ytincnfhdeafmmaagreat", sum := "2b164723e981ce42522371ed8d207f0dc8667dbedc59c7f8d87e0b3c5400b338", func := "loop.example/g03009/laws.FnSteps", spec := "fnSteps", inPlace := ["slices.overlaps[loop.example/g03009/impl.Team]", "slices.overlaps[loop.example/g03009/impl.Judge]"], unfollowed := true, recurses := true, apart := false }
def FnStepsSaid : Prop := fnStepsRow.holds Tryz.pinned (OpenSpec.ofChange fnStepsSpec)

/-- ITS FALSE NEIGHBOUR: 'it returns false'. Refute it at one input. -/
def fnStepsWrong : ChangeSpec := { name := "fnSteps", fn := fun _ => fun
  | [d] => { results := [.lit (.bool false)], args := [d] }
  | _ => none }
def FnStepsWrongFalsely : Prop := fnStepsRow.holds Tryz.pinned (OpenSpec.ofChange fnStepsWrong)

/- THE SECOND FORM. 'bulk': how many values and letters a reading holds, each counted each time it is reached (what is shared counts as often as it is met; a slice's spare places count too). A statement '..UptoSaid' is the law's where the arguments, and the package variables that the reading takes, are together of bulk at most 1048576: NARROWER than '..Said'. Prove '..Said' where nothing that the law and all that it calls make is longer than what came in: it says more and counts as full. Else prove '..UptoSaid'. A law counts once. -/
mutual
def uptoBulk {H : Type} : DataW H → Nat
  | .lit (.string bytes) => bytes.length + 1
  | .lit _ => 1
  | .nil => 1
  | .ptr d => uptoBulk d + 1
  | .slice elems spare => uptoBulkAll elems + uptoBulkAll spare + 1
  | .agg parts => uptoBulkAll parts + 1
  | .iface _ d => uptoBulk d + 1
  | .map entries => uptoBulkEntries entries + 1
  | .held _ => 1
def uptoBulkAll {H : Type} : List (DataW H) → Nat
  | [] => 0
  | d :: r => uptoBulk d + uptoBulkAll r
def uptoBulkEntries {H : Type} : List (Lit × DataW H) → Nat
  | [] => 0
  | x :: r => uptoBulkEntry x + uptoBulkEntries r
def uptoBulkEntry {H : Type} : Lit × DataW H → Nat
  | (.string bytes, d) => bytes.length + uptoBulk d + 1
  | (_, d) => uptoBulk d + 1
 end
def uptoSmall : (H : Type) → List (DataW H) → Bool := fun _ ds => decide (uptoBulkAll ds ≤ 1048576)
def OpenSpec.upto (s : _root_.Go.ChangeSpec) : _root_.Go.OpenSpec := { _root_.Go.OpenSpec.ofChange s with cond := some uptoSmall }

/-- 'laws.FnExactStepBallot', WHERE WHAT IT READS IS OF BULK AT MOST 1048576: true; the input reads as it did. -/
def fnExactStepBallotUptoRow : OpenClaim := { program := "ytincnfhdeafmmaagreat", sum := "2b164723e981ce42522371ed8d207f0dc8667dbedc59c7f8d87e0b3c5400b338", func := "loop.example/g03009/laws.FnExactStepBallot", spec := "fnExactStepBallot", unfollowed := true, recurses := true, apart := false, narrowed := true }
def FnExactStepBallotUptoSaid : Prop := fnExactStepBallotUptoRow.holds Tryz.pinned (OpenSpec.upto fnExactStepBallotSpec)

/-- 'laws.FnExactStepLeave', WHERE WHAT IT READS IS OF BULK AT MOST 1048576: true; the input reads as it did. -/
def fnExactStepLeaveUptoRow : OpenClaim := { program := "ytincnfhdeafmmaagreat", sum := "2b164723e981ce42522371ed8d207f0dc8667dbedc59c7f8d87e0b3c5400b338", func := "loop.example/g03009/laws.FnExactStepLeave", spec := "fnExactStepLeave", unfollowed := true, recurses := true, apart := false, narrowed := true }
def FnExactStepLeaveUptoSaid : Prop := fnExactStepLeaveUptoRow.holds Tryz.pinned (OpenSpec.upto fnExactStepLeaveSpec)

/-- 'laws.FnExactStepJoin', WHERE WHAT IT READS IS OF BULK AT MOST 1048576: true; the input reads as it did. -/
def fnExactStepJoinUptoRow : OpenClaim := { program := "ytincnfhdeafmmaagreat", sum := "2b164723e981ce42522371ed8d207f0dc8667dbedc59c7f8d87e0b3c5400b338", func := "loop.example/g03009/laws.FnExactStepJoin", spec := "fnExactStepJoin", inPlace := ["slices.overlaps[loop.example/g03009/impl.Team]"], unfollowed := true, recurses := true, apart := false, narrowed := true }
def FnExactStepJoinUptoSaid : Prop := fnExactStepJoinUptoRow.holds Tryz.pinned (OpenSpec.upto fnExactStepJoinSpec)

/-- 'laws.FnExactStepJudge', WHERE WHAT IT READS IS OF BULK AT MOST 1048576: true; the input reads as it did. -/
def fnExactStepJudgeUptoRow : OpenClaim := { program := "ytincnfhdeafmmaagreat", sum := "2b164723e981ce42522371ed8d207f0dc8667dbedc59c7f8d87e0b3c5400b338", func := "loop.example/g03009/laws.FnExactStepJudge", spec := "fnExactStepJudge", inPlace := ["slices.overlaps[loop.example/g03009/impl.Judge]"], unfollowed := true, recurses := true, apart := false, narrowed := true }
def FnExactStepJudgeUptoSaid : Prop := fnExactStepJudgeUptoRow.holds Tryz.pinned (OpenSpec.upto fnExactStepJudgeSpec)

/-- 'laws.FnExactStepPair', WHERE WHAT IT READS IS OF BULK AT MOST 1048576: true; the input reads as it did. -/
def fnExactStepPairUptoRow : OpenClaim := { program := "ytincnfhdeafmmaagreat", sum := "2b164723e981ce42522371ed8d207f0dc8667dbedc59c7f8d87e0b3c5400b338", func := "loop.example/g03009/laws.FnExactStepPair", spec := "fnExactStepPair", unfollowed := true, recurses := true, apart := false, narrowed := true }
def FnExactStepPairUptoSaid : Prop := fnExactStepPairUptoRow.holds Tryz.pinned (OpenSpec.upto fnExactStepPairSpec)

/-- 'laws.FnExactStepClose', WHERE WHAT IT READS IS OF BULK AT MOST 1048576: true; the input reads as it did. -/
def fnExactStepCloseUptoRow : OpenClaim := { program := "ytincnfhdeafmmaagreat", sum := "2b164723e981ce42522371ed8d207f0dc8667dbedc59c7f8d87e0b3c5400b338", func := "loop.example/g03009/laws.FnExactStepClose", spec := "fnExactStepClose", unfollowed := true, recurses := true, apart := false, narrowed := true }
def FnExactStepCloseUptoSaid : Prop := fnExactStepCloseUptoRow.holds Tryz.pinned (OpenSpec.upto fnExactStepCloseSpec)

/-- 'laws.FnSteps', WHERE WHAT IT READS IS OF BULK AT MOST 1048576: true; the input reads as it did. -/
def fnStepsUptoRow : OpenClaim := { program := "ytincnfhdeafmmaagreat", sum := "2b164723e981ce42522371ed8d207f0dc8667dbedc59c7f8d87e0b3c5400b338", func := "loop.example/g03009/laws.FnSteps", spec := "fnSteps", inPlace := ["slices.overlaps[loop.example/g03009/impl.Team]", "slices.overlaps[loop.example/g03009/impl.Judge]"], unfollowed := true, recurses := true, apart := false, narrowed := true }
def FnStepsUptoSaid : Prop := fnStepsUptoRow.holds Tryz.pinned (OpenSpec.upto fnStepsSpec)

end Rows
end Go.Proofs.YtincnfhdeafmmaaGreat
