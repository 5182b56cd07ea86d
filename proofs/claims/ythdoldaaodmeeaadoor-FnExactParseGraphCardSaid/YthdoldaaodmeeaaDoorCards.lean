/-
  DERIVED. GIVEN WITH THE SEED: THE CARDS: each row of YthdoldaaodmeeaaDoorRows.lean that lists a variable, with what it lists TIED to the program's text (the seventh form; the later family's looks); each row that meets fmt, with fmt's text TOLD by the authors' own Lean function (tested against real Go, not proved from fmt's source: count such statements apart). THE CARD IS WHAT COUNTS. Prove the row's statement (the work); the ties are given (YthdoldaaodmeeaaDoorTie.lean); close each card by the builder's one call (the guide's Derived/Test/ToyasCard.lean, 'card_holds'). Laid BY PROGRAM, IN A SANDBOX (cutbox-door.mjs). By AI agents, Wed Nov 11 2026. No macro, syntax, notation, axiom, sorry.
-/
import Derived.Test.YthdoldaaodmeeaaDoorRows
import GoSem.ClaimSeven
namespace Go.Proofs.YthdoldaaodmeeaaDoor
namespace Rows

/-- THE TIED CARD OF 'laws.FnExactFormatNumbers'. -/
def fnExactFormatNumbersCard : Claim7 := { stood := { row := fnExactFormatNumbersRow, standIns := [], harness := (true, "d690ea4f0abf767c5d43770fdbd09a4739aea3fbcf915abf1c8726ded263bdbc"), looks := false }, kinds := [], alts := [], laidByText := true, laidKinds := [.data, .data, .data], laidTests := true, laidLooks := .later }
def FnExactFormatNumbersCardSaid : Prop := Claim7.holds Tryd.pinned (.plain (OpenSpec.ofChange fnExactFormatNumbersSpec)) fnExactFormatNumbersCard

/-- THE TIED CARD OF 'laws.FnExactSetsText'. -/
def fnExactSetsTextCard : Claim7 := { stood := { row := fnExactSetsTextRow, standIns := [], harness := (true, "d690ea4f0abf767c5d43770fdbd09a4739aea3fbcf915abf1c8726ded263bdbc"), looks := false }, kinds := [], alts := [], laidByText := true, laidKinds := [.data, .data, .data], laidTests := true, laidLooks := .later }
def FnExactSetsTextCardSaid : Prop := Claim7.holds Tryd.pinned (.plain (OpenSpec.ofChange fnExactSetsTextSpec)) fnExactSetsTextCard

/-- THE TIED CARD OF 'laws.FnExactGraphText'. -/
def fnExactGraphTextCard : Claim7 := { stood := { row := fnExactGraphTextRow, standIns := [], harness := (true, "d690ea4f0abf767c5d43770fdbd09a4739aea3fbcf915abf1c8726ded263bdbc"), looks := false }, kinds := [], alts := [], laidByText := true, laidKinds := [.data, .data, .data], laidTests := true, laidLooks := .later }
def FnExactGraphTextCardSaid : Prop := Claim7.holds Tryd.pinned (.plain (OpenSpec.ofChange fnExactGraphTextSpec)) fnExactGraphTextCard

/-- THE TIED CARD OF 'laws.FnExactFormatRound'. -/
def fnExactFormatRoundCard : Claim7 := { stood := { row := fnExactFormatRoundRow, standIns := [], harness := (true, "d690ea4f0abf767c5d43770fdbd09a4739aea3fbcf915abf1c8726ded263bdbc"), looks := false }, kinds := [], alts := [], laidByText := true, laidKinds := [.data, .data, .data], laidTests := true, laidLooks := .later }
def FnExactFormatRoundCardSaid : Prop := Claim7.holds Tryd.pinned (.plain (OpenSpec.ofChange fnExactFormatRoundSpec)) fnExactFormatRoundCard

/-- THE TIED CARD OF 'laws.FnExactFormatPoints'. -/
def fnExactFormatPointsCard : Claim7 := { stood := { row := fnExactFormatPointsRow, standIns := [], harness := (true, "d690ea4f0abf767c5d43770fdbd09a4739aea3fbcf915abf1c8726ded263bdbc"), looks := false }, kinds := [], alts := [], laidByText := true, laidKinds := [.data, .data, .data], laidTests := true, laidLooks := .later }
def FnExactFormatPointsCardSaid : Prop := Claim7.holds Tryd.pinned (.plain (OpenSpec.ofChange fnExactFormatPointsSpec)) fnExactFormatPointsCard

/-- THE TIED CARD OF 'laws.FnExactFormatTeams'. -/
def fnExactFormatTeamsCard : Claim7 := { stood := { row := fnExactFormatTeamsRow, standIns := [], harness := (true, "d690ea4f0abf767c5d43770fdbd09a4739aea3fbcf915abf1c8726ded263bdbc"), looks := false }, kinds := [], alts := [], laidByText := true, laidKinds := [.data, .data, .data], laidTests := true, laidLooks := .later }
def FnExactFormatTeamsCardSaid : Prop := Claim7.holds Tryd.pinned (.plain (OpenSpec.ofChange fnExactFormatTeamsSpec)) fnExactFormatTeamsCard

/-- THE TIED CARD OF 'laws.FnExactParseGraph'. -/
def fnExactParseGraphCard : Claim7 := { stood := { row := fnExactParseGraphRow, standIns := [], harness := (true, "d690ea4f0abf767c5d43770fdbd09a4739aea3fbcf915abf1c8726ded263bdbc"), looks := false }, kinds := [], alts := [], laidByText := true, laidKinds := [.data, .data, .data, .data, .pinned], laidTests := true, laidLooks := .later }
def FnExactParseGraphCardSaid : Prop := Claim7.holds Tryd.pinned (.plain (OpenSpec.ofChange fnExactParseGraphSpec)) fnExactParseGraphCard

/-- THE TIED CARD OF 'laws.FnExactFormatClub'. -/
def fnExactFormatClubCard : Claim7 := { stood := { row := fnExactFormatClubRow, standIns := [], harness := (true, "d690ea4f0abf767c5d43770fdbd09a4739aea3fbcf915abf1c8726ded263bdbc"), looks := false }, kinds := [], alts := [], laidByText := true, laidKinds := [.data, .data, .data], laidTests := true, laidLooks := .later }
def FnExactFormatClubCardSaid : Prop := Claim7.holds Tryd.pinned (.plain (OpenSpec.ofChange fnExactFormatClubSpec)) fnExactFormatClubCard

/-- THE SECOND FORM's CARD OF 'laws.FnExactFormatNumbers'. -/
def fnExactFormatNumbersUptoCard : Claim7 := { stood := { row := fnExactFormatNumbersUptoRow, standIns := [], harness := (true, "d690ea4f0abf767c5d43770fdbd09a4739aea3fbcf915abf1c8726ded263bdbc"), looks := false }, kinds := [], alts := [], laidByText := true, laidKinds := [.data, .data, .data], laidTests := true, laidLooks := .later }
def FnExactFormatNumbersUptoCardSaid : Prop := Claim7.holds Tryd.pinned (.plain (OpenSpec.upto fnExactFormatNumbersSpec)) fnExactFormatNumbersUptoCard

/-- THE SECOND FORM's CARD OF 'laws.FnExactSetsText'. -/
def fnExactSetsTextUptoCard : Claim7 := { stood := { row := fnExactSetsTextUptoRow, standIns := [], harness := (true, "d690ea4f0abf767c5d43770fdbd09a4739aea3fbcf915abf1c8726ded263bdbc"), looks := false }, kinds := [], alts := [], laidByText := true, laidKinds := [.data, .data, .data], laidTests := true, laidLooks := .later }
def FnExactSetsTextUptoCardSaid : Prop := Claim7.holds Tryd.pinned (.plain (OpenSpec.upto fnExactSetsTextSpec)) fnExactSetsTextUptoCard

/-- THE SECOND FORM's CARD OF 'laws.FnExactGraphText'. -/
def fnExactGraphTextUptoCard : Claim7 := { stood := { row := fnExactGraphTextUptoRow, standIns := [], harness := (true, "d690ea4f0abf767c5d43770fdbd09a4739aea3fbcf915abf1c8726ded263bdbc"), looks := false }, kinds := [], alts := [], laidByText := true, laidKinds := [.data, .data, .data], laidTests := true, laidLooks := .later }
def FnExactGraphTextUptoCardSaid : Prop := Claim7.holds Tryd.pinned (.plain (OpenSpec.upto fnExactGraphTextSpec)) fnExactGraphTextUptoCard

/-- THE SECOND FORM's CARD OF 'laws.FnExactFormatRound'. -/
def fnExactFormatRoundUptoCard : Claim7 := { stood := { row := fnExactFormatRoundUptoRow, standIns := [], harness := (true, "d690ea4f0abf767c5d43770fdbd09a4739aea3fbcf915abf1c8726ded263bdbc"), looks := false }, kinds := [], alts := [], laidByText := true, laidKinds := [.data, .data, .data], laidTests := true, laidLooks := .later }
def FnExactFormatRoundUptoCardSaid : Prop := Claim7.holds Tryd.pinned (.plain (OpenSpec.upto fnExactFormatRoundSpec)) fnExactFormatRoundUptoCard

/-- THE SECOND FORM's CARD OF 'laws.FnExactFormatPoints'. -/
def fnExactFormatPointsUptoCard : Claim7 := { stood := { row := fnExactFormatPointsUptoRow, standIns := [], harness := (true, "d690ea4f0abf767c5d43770fdbd09a4739aea3fbcf915abf1c8726ded263bdbc"), looks := false }, kinds := [], alts := [], laidByText := true, laidKinds := [.data, .data, .data], laidTests := true, laidLooks := .later }
def FnExactFormatPointsUptoCardSaid : Prop := Claim7.holds Tryd.pinned (.plain (OpenSpec.upto fnExactFormatPointsSpec)) fnExactFormatPointsUptoCard

/-- THE SECOND FORM's CARD OF 'laws.FnExactFormatTeams'. -/
def fnExactFormatTeamsUptoCard : Claim7 := { stood := { row := fnExactFormatTeamsUptoRow, standIns := [], harness := (true, "d690ea4f0abf767c5d43770fdbd09a4739aea3fbcf915abf1c8726ded263bdbc"), looks := false }, kinds := [], alts := [], laidByText := true, laidKinds := [.data, .data, .data], laidTests := true, laidLooks := .later }
def FnExactFormatTeamsUptoCardSaid : Prop := Claim7.holds Tryd.pinned (.plain (OpenSpec.upto fnExactFormatTeamsSpec)) fnExactFormatTeamsUptoCard

/-- THE SECOND FORM's CARD OF 'laws.FnExactParseGraph'. -/
def fnExactParseGraphUptoCard : Claim7 := { stood := { row := fnExactParseGraphUptoRow, standIns := [], harness := (true, "d690ea4f0abf767c5d43770fdbd09a4739aea3fbcf915abf1c8726ded263bdbc"), looks := false }, kinds := [], alts := [], laidByText := true, laidKinds := [.data, .data, .data, .data, .pinned], laidTests := true, laidLooks := .later }
def FnExactParseGraphUptoCardSaid : Prop := Claim7.holds Tryd.pinned (.plain (OpenSpec.upto fnExactParseGraphSpec)) fnExactParseGraphUptoCard

/-- THE SECOND FORM's CARD OF 'laws.FnExactFormatClub'. -/
def fnExactFormatClubUptoCard : Claim7 := { stood := { row := fnExactFormatClubUptoRow, standIns := [], harness := (true, "d690ea4f0abf767c5d43770fdbd09a4739aea3fbcf915abf1c8726ded263bdbc"), looks := false }, kinds := [], alts := [], laidByText := true, laidKinds := [.data, .data, .data], laidTests := true, laidLooks := .later }
def FnExactFormatClubUptoCardSaid : Prop := Claim7.holds Tryd.pinned (.plain (OpenSpec.upto fnExactFormatClubSpec)) fnExactFormatClubUptoCard
end Rows
end Go.Proofs.YthdoldaaodmeeaaDoor
