/-
  No cell of these rows narrows 'for every input' (looked for: loops, veiled, ifaces, maps, wideKeys, modest, calm, conditions, laid).
  DERIVED. THE GIVEN ROWS OF THIS SEAT. 10 by the template 'for every input the law returns true; each argument reads behind the call as it read before'; 0 by the template 'total and deterministic' (their statements: YtojhhpbllkphbaaTotals.lean).
  GIVEN WITH THE SEED: the statements are not yours to turn. If you find one false, say at which input.
  Laid BY PROGRAM, IN A SANDBOX (cutbox-rows.mjs): the forced cells as the released guide's own fill.sh prints them over the translation eecc0dcd996bc1cb… (all of the seat's roots in one cut). By AI agents, Wed Nov 11 2026. No macro, syntax, notation, axiom, sorry.
-/
import Derived.Test.YtojhhpbllkphbaaChecked
import GoSem.Claim
import GoSem.ClaimJoined
import GoSem.ClaimMapViews
import Derived.JoinedTies
import Derived.KernelRfl
namespace Go.Proofs.Ytojhhpbllkphbaa
/- THE CELL 'sum', in the pinned program and in every row, IS THE sha256 OF THE DUMP (.gsa) THAT YtojhhpbllkphbaaProg.lean LOADS. Nothing in Lean hashes anything: it is a label: what it is worth is what the hold of that sum in a sandbox is worth. -/
noncomputable def Try.pinned : Pinned := { name := "ytojhhpbllkphbaa", sum := "eecc0dcd996bc1cbdbfe7ed9b892961aeb7eac0343fe1cafd9a0d16426895911", checked := Try.checked }
namespace Rows
def none {H : Type} : Left H := { results := [], args := [] }

/-- 'laws.FnExactIsMinuted': WHATEVER THE INPUT: true; the input reads as it did. -/
def fnExactIsMinutedSpec : ChangeSpec := { name := "fnExactIsMinuted", fn := fun _ => fun
  | [d] => { results := [.lit (.bool true)], args := [d] }
  | _ => none }
def fnExactIsMinutedRow : OpenClaim := { program := "ytojhhpbllkphbaa", sum := "eecc0dcd996bc1cbdbfe7ed9b892961aeb7eac0343fe1cafd9a0d16426895911", func := "loop.example/g03009/laws.FnExactIsMinuted", spec := "fnExactIsMinuted", apart := false }
def FnExactIsMinutedSaid : Prop := fnExactIsMinutedRow.holds Try.pinned (OpenSpec.ofChange fnExactIsMinutedSpec)

/-- ITS FALSE NEIGHBOUR: 'it returns false'. Refute it at one input. -/
def fnExactIsMinutedWrong : ChangeSpec := { name := "fnExactIsMinuted", fn := fun _ => fun
  | [d] => { results := [.lit (.bool false)], args := [d] }
  | _ => none }
def FnExactIsMinutedWrongFalsely : Prop := fnExactIsMinutedRow.holds Try.pinned (OpenSpec.ofChange fnExactIsMinutedWrong)

/-- 'laws.FnExactWaiting': WHATEVER THE INPUT: true; the input reads as it did. -/
def fnExactWaitingSpec : ChangeSpec := { name := "fnExactWaiting", fn := fun _ => fun
  | [d] => { results := [.lit (.bool true)], args := [d] }
  | _ => none }
def fnExactWaitingRow : OpenClaim := { program := "ytojhhpbllkphbaa", sum := "eecc0dcd996bc1cbdbfe7ed9b892961aeb7eac0343fe1cafd9a0d16426895911", func := "loop.example/g03009/laws.FnExactWaiting", spec := "fnExactWaiting", apart := false }
def FnExactWaitingSaid : Prop := fnExactWaitingRow.holds Try.pinned (OpenSpec.ofChange fnExactWaitingSpec)

/-- ITS FALSE NEIGHBOUR: 'it returns false'. Refute it at one input. -/
def fnExactWaitingWrong : ChangeSpec := { name := "fnExactWaiting", fn := fun _ => fun
  | [d] => { results := [.lit (.bool false)], args := [d] }
  | _ => none }
def FnExactWaitingWrongFalsely : Prop := fnExactWaitingRow.holds Try.pinned (OpenSpec.ofChange fnExactWaitingWrong)

/-- 'laws.FnExactBallotsFor': WHATEVER THE INPUT: true; the input reads as it did. -/
def fnExactBallotsForSpec : ChangeSpec := { name := "fnExactBallotsFor", fn := fun _ => fun
  | [d1, d2] => { results := [.lit (.bool true)], args := [d1, d2] }
  | _ => none }
def fnExactBallotsForRow : OpenClaim := { program := "ytojhhpbllkphbaa", sum := "eecc0dcd996bc1cbdbfe7ed9b892961aeb7eac0343fe1cafd9a0d16426895911", func := "loop.example/g03009/laws.FnExactBallotsFor", spec := "fnExactBallotsFor", apart := false }
def FnExactBallotsForSaid : Prop := fnExactBallotsForRow.holds Try.pinned (OpenSpec.ofChange fnExactBallotsForSpec)

/-- ITS FALSE NEIGHBOUR: 'it returns false'. Refute it at one input. -/
def fnExactBallotsForWrong : ChangeSpec := { name := "fnExactBallotsFor", fn := fun _ => fun
  | [d1, d2] => { results := [.lit (.bool false)], args := [d1, d2] }
  | _ => none }
def FnExactBallotsForWrongFalsely : Prop := fnExactBallotsForRow.holds Try.pinned (OpenSpec.ofChange fnExactBallotsForWrong)

/-- 'laws.FnExactJudgesIn': WHATEVER THE INPUT: true; the input reads as it did. -/
def fnExactJudgesInSpec : ChangeSpec := { name := "fnExactJudgesIn", fn := fun _ => fun
  | [d] => { results := [.lit (.bool true)], args := [d] }
  | _ => none }
def fnExactJudgesInRow : OpenClaim := { program := "ytojhhpbllkphbaa", sum := "eecc0dcd996bc1cbdbfe7ed9b892961aeb7eac0343fe1cafd9a0d16426895911", func := "loop.example/g03009/laws.FnExactJudgesIn", spec := "fnExactJudgesIn", recurses := true, apart := false }
def FnExactJudgesInSaid : Prop := fnExactJudgesInRow.holds Try.pinned (OpenSpec.ofChange fnExactJudgesInSpec)

/-- ITS FALSE NEIGHBOUR: 'it returns false'. Refute it at one input. -/
def fnExactJudgesInWrong : ChangeSpec := { name := "fnExactJudgesIn", fn := fun _ => fun
  | [d] => { results := [.lit (.bool false)], args := [d] }
  | _ => none }
def FnExactJudgesInWrongFalsely : Prop := fnExactJudgesInRow.holds Try.pinned (OpenSpec.ofChange fnExactJudgesInWrong)

/-- 'laws.FnExactTeamsIn': WHATEVER THE INPUT: true; the input reads as it did. -/
def fnExactTeamsInSpec : ChangeSpec := { name := "fnExactTeamsIn", fn := fun _ => fun
  | [d] => { results := [.lit (.bool true)], args := [d] }
  | _ => none }
def fnExactTeamsInRow : OpenClaim := { program := "ytojhhpbllkphbaa", sum := "eecc0dcd996bc1cbdbfe7ed9b892961aeb7eac0343fe1cafd9a0d16426895911", func := "loop.example/g03009/laws.FnExactTeamsIn", spec := "fnExactTeamsIn", recurses := true, apart := false }
def FnExactTeamsInSaid : Prop := fnExactTeamsInRow.holds Try.pinned (OpenSpec.ofChange fnExactTeamsInSpec)

/-- ITS FALSE NEIGHBOUR: 'it returns false'. Refute it at one input. -/
def fnExactTeamsInWrong : ChangeSpec := { name := "fnExactTeamsIn", fn := fun _ => fun
  | [d] => { results := [.lit (.bool false)], args := [d] }
  | _ => none }
def FnExactTeamsInWrongFalsely : Prop := fnExactTeamsInRow.holds Try.pinned (OpenSpec.ofChange fnExactTeamsInWrong)

/-- 'laws.FnClubs': WHATEVER THE INPUT: true; the input reads as it did. -/
def fnClubsSpec : ChangeSpec := { name := "fnClubs", fn := fun _ => fun
  | [d] => { results := [.lit (.bool true)], args := [d] }
  | _ => none }
def fnClubsRow : OpenClaim := { program := "ytojhhpbllkphbaa", sum := "eecc0dcd996bc1cbdbfe7ed9b892961aeb7eac0343fe1cafd9a0d16426895911", func := "loop.example/g03009/laws.FnClubs", spec := "fnClubs", unfollowed := true, recurses := true, apart := false }
def FnClubsSaid : Prop := fnClubsRow.holds Try.pinned (OpenSpec.ofChange fnClubsSpec)

/-- ITS FALSE NEIGHBOUR: 'it returns false'. Refute it at one input. -/
def fnClubsWrong : ChangeSpec := { name := "fnClubs", fn := fun _ => fun
  | [d] => { results := [.lit (.bool false)], args := [d] }
  | _ => none }
def FnClubsWrongFalsely : Prop := fnClubsRow.holds Try.pinned (OpenSpec.ofChange fnClubsWrong)

/-- 'laws.FnExactIsClub': WHATEVER THE INPUT: true; the input reads as it did. -/
def fnExactIsClubSpec : ChangeSpec := { name := "fnExactIsClub", fn := fun _ => fun
  | [d] => { results := [.lit (.bool true)], args := [d] }
  | _ => none }
def fnExactIsClubRow : OpenClaim := { program := "ytojhhpbllkphbaa", sum := "eecc0dcd996bc1cbdbfe7ed9b892961aeb7eac0343fe1cafd9a0d16426895911", func := "loop.example/g03009/laws.FnExactIsClub", spec := "fnExactIsClub", unfollowed := true, recurses := true, apart := false }
def FnExactIsClubSaid : Prop := fnExactIsClubRow.holds Try.pinned (OpenSpec.ofChange fnExactIsClubSpec)

/-- ITS FALSE NEIGHBOUR: 'it returns false'. Refute it at one input. -/
def fnExactIsClubWrong : ChangeSpec := { name := "fnExactIsClub", fn := fun _ => fun
  | [d] => { results := [.lit (.bool false)], args := [d] }
  | _ => none }
def FnExactIsClubWrongFalsely : Prop := fnExactIsClubRow.holds Try.pinned (OpenSpec.ofChange fnExactIsClubWrong)

/-- 'laws.FnExactOpenShare': WHATEVER THE INPUT: true; the input reads as it did. -/
def fnExactOpenShareSpec : ChangeSpec := { name := "fnExactOpenShare", fn := fun _ => fun
  | [d] => { results := [.lit (.bool true)], args := [d] }
  | _ => none }
def fnExactOpenShareRow : OpenClaim := { program := "ytojhhpbllkphbaa", sum := "eecc0dcd996bc1cbdbfe7ed9b892961aeb7eac0343fe1cafd9a0d16426895911", func := "loop.example/g03009/laws.FnExactOpenShare", spec := "fnExactOpenShare", recurses := true, apart := false }
def FnExactOpenShareSaid : Prop := fnExactOpenShareRow.holds Try.pinned (OpenSpec.ofChange fnExactOpenShareSpec)

/-- ITS FALSE NEIGHBOUR: 'it returns false'. Refute it at one input. -/
def fnExactOpenShareWrong : ChangeSpec := { name := "fnExactOpenShare", fn := fun _ => fun
  | [d] => { results := [.lit (.bool false)], args := [d] }
  | _ => none }
def FnExactOpenShareWrongFalsely : Prop := fnExactOpenShareRow.holds Try.pinned (OpenSpec.ofChange fnExactOpenShareWrong)

/-- 'laws.FnExactFaultOf': WHATEVER THE INPUT: true; the input reads as it did. -/
def fnExactFaultOfSpec : ChangeSpec := { name := "fnExactFaultOf", fn := fun _ => fun
  | [d] => { results := [.lit (.bool true)], args := [d] }
  | _ => none }
def fnExactFaultOfRow : OpenClaim := { program := "ytojhhpbllkphbaa", sum := "eecc0dcd996bc1cbdbfe7ed9b892961aeb7eac0343fe1cafd9a0d16426895911", func := "loop.example/g03009/laws.FnExactFaultOf", spec := "fnExactFaultOf", unfollowed := true, recurses := true, apart := false }
def FnExactFaultOfSaid : Prop := fnExactFaultOfRow.holds Try.pinned (OpenSpec.ofChange fnExactFaultOfSpec)

/-- ITS FALSE NEIGHBOUR: 'it returns false'. Refute it at one input. -/
def fnExactFaultOfWrong : ChangeSpec := { name := "fnExactFaultOf", fn := fun _ => fun
  | [d] => { results := [.lit (.bool false)], args := [d] }
  | _ => none }
def FnExactFaultOfWrongFalsely : Prop := fnExactFaultOfRow.holds Try.pinned (OpenSpec.ofChange fnExactFaultOfWrong)

/-- 'laws.FnAudited': WHATEVER THE INPUT: true; the input reads as it did. -/
def fnAuditedSpec : ChangeSpec := { name := "fnAudited", fn := fun _ => fun
  | [d] => { results := [.lit (.bool true)], args := [d] }
  | _ => none }
def fnAuditedRow : OpenClaim := { program := "ytojhhpbllkphbaa", sum := "eecc0dcd996bc1cbdbfe7ed9b892961aeb7eac0343fe1cafd9a0d16426895911", func := "loop.example/g03009/laws.FnAudited", spec := "fnAudited", unfollowed := true, recurses := true, apart := false }
def FnAuditedSaid : Prop := fnAuditedRow.holds Try.pinned (OpenSpec.ofChange fnAuditedSpec)

/-- ITS FALSE NEIGHBOUR: 'it returns false'. Refute it at one input. -/
def fnAuditedWrong : ChangeSpec := { name := "fnAudited", fn := fun _ => fun
  | [d] => { results := [.lit (.bool false)], args := [d] }
  | _ => none }
def FnAuditedWrongFalsely : Prop := fnAuditedRow.holds Try.pinned (OpenSpec.ofChange fnAuditedWrong)

/- THE SECOND FORM. 'bulk': how many values and letters a reading holds, each counted each time it is reached (what is shared counts as often as it is met; a slice's spare places count too). A statement '..UptoSaid' is the law's where the arguments, and the package variables that the reading takes, are together of bulk at most 1048576: NARROWER than '..Said'. Prove '..Said' where nothing that the law and all that it calls make is longer than what came in: it says more and counts as full. Else prove '..UptoSaid'. A law counts once. -/
mutual
def uptoBulk {H : Type} : DataW H → Nat
  | .lit (.string bytes) => bytes.length + 1
  | .lit _ => 1
  | .nil => 1
  | .ptr d => uptoBulk d + 1
  | .slice elems spare => uptoBulkAll elems + uptoBulkAll spare + 1
  | .agg parts => uptoBulkAll parts + 1
  | .iface _ d => uptoBulk d + 1
  | .map entries => uptoBulkEntries entries + 1
  | .held _ => 1
def uptoBulkAll {H : Type} : List (DataW H) → Nat
  | [] => 0
  | d :: r => uptoBulk d + uptoBulkAll r
def uptoBulkEntries {H : Type} : List (Lit × DataW H) → Nat
  | [] => 0
  | x :: r => uptoBulkEntry x + uptoBulkEntries r
def uptoBulkEntry {H : Type} : Lit × DataW H → Nat
  | (.string bytes, d) => bytes.length + uptoBulk d + 1
  | (_, d) => uptoBulk d + 1
 end
def uptoSmall : (H : Type) → List (DataW H) → Bool := fun _ ds => decide (uptoBulkAll ds ≤ 1048576)
def OpenSpec.upto (s : _root_.Go.ChangeSpec) : _root_.Go.OpenSpec := { _root_.Go.OpenSpec.ofChange s with cond := some uptoSmall }

/-- 'laws.FnExactIsMinuted', WHERE WHAT IT READS IS OF BULK AT MOST 1048576: true; the input reads as it did. -/
def fnExactIsMinutedUptoRow : OpenClaim := { program := "ytojhhpbllkphbaa", sum := "eecc0dcd996bc1cbdbfe7ed9b892961aeb7eac0343fe1cafd9a0d16426895911", func := "loop.example/g03009/laws.FnExactIsMinuted", spec := "fnExactIsMinuted", apart := false, narrowed := true }
def FnExactIsMinutedUptoSaid : Prop := fnExactIsMinutedUptoRow.holds Try.pinned (OpenSpec.upto fnExactIsMinutedSpec)

/-- 'laws.FnExactWaiting', WHERE WHAT IT READS IS OF BULK AT MOST 1048576: true; the input reads as it did. -/
def fnExactWaitingUptoRow : OpenClaim := { program := "ytojhhpbllkphbaa", sum := "eecc0dcd996bc1cbdbfe7ed9b892961aeb7eac0343fe1cafd9a0d16426895911", func := "loop.example/g03009/laws.FnExactWaiting", spec := "fnExactWaiting", apart := false, narrowed := true }
def FnExactWaitingUptoSaid : Prop := fnExactWaitingUptoRow.holds Try.pinned (OpenSpec.upto fnExactWaitingSpec)

/-- 'laws.FnExactBallotsFor', WHERE WHAT IT READS IS OF BULK AT MOST 1048576: true; the input reads as it did. -/
def fnExactBallotsForUptoRow : OpenClaim := { program := "ytojhhpbllkphbaa", sum := "eecc0dcd996bc1cbdbfe7ed9b892961aeb7eac0343fe1cafd9a0d16426895911", func := "loop.example/g03009/laws.FnExactBallotsFor", spec := "fnExactBallotsFor", apart := false, narrowed := true }
def FnExactBallotsForUptoSaid : Prop := fnExactBallotsForUptoRow.holds Try.pinned (OpenSpec.upto fnExactBallotsForSpec)

/-- 'laws.FnExactJudgesIn', WHERE WHAT IT READS IS OF BULK AT MOST 1048576: true; the input reads as it did. -/
def fnExactJudgesInUptoRow : OpenClaim := { program := "ytojhhpbllkphbaa", sum := "eecc0dcd996bc1cbdbfe7ed9b892961aeb7eac0343fe1cafd9a0d16426895911", func := "loop.example/g03009/laws.FnExactJudgesIn", spec := "fnExactJudgesIn", recurses := true, apart := false, narrowed := true }
def FnExactJudgesInUptoSaid : Prop := fnExactJudgesInUptoRow.holds Try.pinned (OpenSpec.upto fnExactJudgesInSpec)

/-- 'laws.FnExactTeamsIn', WHERE WHAT IT READS IS OF BULK AT MOST 1048576: true; the input reads as it did. -/
def fnExactTeamsInUptoRow : OpenClaim := { program := "ytojhhpbllkphbaa", sum := "eecc0dcd996bc1cbdbfe7ed9b892961aeb7eac0343fe1cafd9a0d16426895911", func := "loop.example/g03009/laws.FnExactTeamsIn", spec := "fnExactTeamsIn", recurses := true, apart := false, narrowed := true }
def FnExactTeamsInUptoSaid : Prop := fnExactTeamsInUptoRow.holds Try.pinned (OpenSpec.upto fnExactTeamsInSpec)

/-- 'laws.FnClubs', WHERE WHAT IT READS IS OF BULK AT MOST 1048576: true; the input reads as it did. -/
def fnClubsUptoRow : OpenClaim := { program := "ytojhhpbllkphbaa", sum := "eecc0dcd996bc1cbdbfe7ed9b892961aeb7eac0343fe1cafd9a0d16426895911", func := "loop.example/g03009/laws.FnClubs", spec := "fnClubs", unfollowed := true, recurses := true, apart := false, narrowed := true }
def FnClubsUptoSaid : Prop := fnClubsUptoRow.holds Try.pinned (OpenSpec.upto fnClubsSpec)

/-- 'laws.FnExactIsClub', WHERE WHAT IT READS IS OF BULK AT MOST 1048576: true; the input reads as it did. -/
def fnExactIsClubUptoRow : OpenClaim := { program := "ytojhhpbllkphbaa", sum := "eecc0dcd996bc1cbdbfe7ed9b892961aeb7eac0343fe1cafd9a0d16426895911", func := "loop.example/g03009/laws.FnExactIsClub", spec := "fnExactIsClub", unfollowed := true, recurses := true, apart := false, narrowed := true }
def FnExactIsClubUptoSaid : Prop := fnExactIsClubUptoRow.holds Try.pinned (OpenSpec.upto fnExactIsClubSpec)

/-- 'laws.FnExactOpenShare', WHERE WHAT IT READS IS OF BULK AT MOST 1048576: true; the input reads as it did. -/
def fnExactOpenShareUptoRow : OpenClaim := { program := "ytojhhpbllkphbaa", sum := "eecc0dcd996bc1cbdbfe7ed9b892961aeb7eac0343fe1cafd9a0d16426895911", func := "loop.example/g03009/laws.FnExactOpenShare", spec := "fnExactOpenShare", recurses := true, apart := false, narrowed := true }
def FnExactOpenShareUptoSaid : Prop := fnExactOpenShareUptoRow.holds Try.pinned (OpenSpec.upto fnExactOpenShareSpec)

/-- 'laws.FnExactFaultOf', WHERE WHAT IT READS IS OF BULK AT MOST 1048576: true; the input reads as it did. -/
def fnExactFaultOfUptoRow : OpenClaim := { program := "ytojhhpbllkphbaa", sum := "eecc0dcd996bc1cbdbfe7ed9b892961aeb7eac0343fe1cafd9a0d16426895911", func := "loop.example/g03009/laws.FnExactFaultOf", spec := "fnExactFaultOf", unfollowed := true, recurses := true, apart := false, narrowed := true }
def FnExactFaultOfUptoSaid : Prop := fnExactFaultOfUptoRow.holds Try.pinned (OpenSpec.upto fnExactFaultOfSpec)

/-- 'laws.FnAudited', WHERE WHAT IT READS IS OF BULK AT MOST 1048576: true; the input reads as it did. -/
def fnAuditedUptoRow : OpenClaim := { program := "ytojhhpbllkphbaa", sum := "eecc0dcd996bc1cbdbfe7ed9b892961aeb7eac0343fe1cafd9a0d16426895911", func := "loop.example/g03009/laws.FnAudited", spec := "fnAudited", unfollowed := true, recurses := true, apart := false, narrowed := true }
def FnAuditedUptoSaid : Prop := fnAuditedUptoRow.holds Try.pinned (OpenSpec.upto fnAuditedSpec)

end Rows
end Go.Proofs.Ytojhhpbllkphbaa
