/-
  DERIVED. GIVEN WITH THE SEED: THE CARDS: each row of YtllbpnmhoblkgaaDoorRows.lean that lists a variable, with what it lists TIED to the program's text (the seventh form; the later family's looks); each row that meets fmt, with fmt's text TOLD by the authors' own Lean function (tested against real Go, not proved from fmt's source: count such statements apart). THE CARD IS WHAT COUNTS. Prove the row's statement (the work); the ties are given (YtllbpnmhoblkgaaDoorTie.lean); close each card by the builder's one call (the guide's Derived/Test/ToyasCard.lean, 'card_holds'). Laid BY PROGRAM, IN A SANDBOX (cutbox-door.mjs). By AI agents, Wed Nov 11 2026. No macro, syntax, notation, axiom, sorry.
-/
import Derived.Test.YtllbpnmhoblkgaaDoorRows
import GoSem.ClaimSeven
namespace Go.Proofs.YtllbpnmhoblkgaaDoor
namespace Rows

/-- THE TIED CARD OF 'thermionlaw08.MatchSortings'. -/
def matchSortingsCard : Claim7 := { stood := { row := matchSortingsRow, standIns := [], harness := (true, "48037d9b9bbf9ba3ada03521a9dad91faf8a2fef52cf76f97173bb36ffbf0ad4"), looks := false }, kinds := [], alts := [], laidByText := true, laidKinds := [.data, .data, .data], laidTests := true, laidLooks := .later }
def MatchSortingsCardSaid : Prop := Claim7.holds Tryd.pinned (.plain (OpenSpec.ofChange matchSortingsSpec)) matchSortingsCard

/-- THE TIED CARD OF 'thermionlaw08.MatchMost'. -/
def matchMostCard : Claim7 := { stood := { row := matchMostRow, standIns := [], harness := (true, "48037d9b9bbf9ba3ada03521a9dad91faf8a2fef52cf76f97173bb36ffbf0ad4"), looks := false }, kinds := [], alts := [], laidByText := true, laidKinds := [.data, .data, .data], laidTests := true, laidLooks := .later }
def MatchMostCardSaid : Prop := Claim7.holds Tryd.pinned (.plain (OpenSpec.ofChange matchMostSpec)) matchMostCard

/-- THE TIED CARD OF 'thermionlaw08.MatchPairs'. -/
def matchPairsCard : Claim7 := { stood := { row := matchPairsRow, standIns := [], harness := (true, "48037d9b9bbf9ba3ada03521a9dad91faf8a2fef52cf76f97173bb36ffbf0ad4"), looks := false }, kinds := [], alts := [], laidByText := true, laidKinds := [.data, .data, .data], laidTests := true, laidLooks := .later }
def MatchPairsCardSaid : Prop := Claim7.holds Tryd.pinned (.plain (OpenSpec.ofChange matchPairsSpec)) matchPairsCard

/-- THE TIED CARD OF 'thermionlaw08.MatchBounds'. -/
def matchBoundsCard : Claim7 := { stood := { row := matchBoundsRow, standIns := [], harness := (true, "48037d9b9bbf9ba3ada03521a9dad91faf8a2fef52cf76f97173bb36ffbf0ad4"), looks := false }, kinds := [], alts := [], laidByText := true, laidKinds := [.data, .data, .data], laidTests := true, laidLooks := .later }
def MatchBoundsCardSaid : Prop := Claim7.holds Tryd.pinned (.plain (OpenSpec.ofChange matchBoundsSpec)) matchBoundsCard

/-- THE TIED CARD OF 'thermionlaw08.MatchNoMore'. -/
def matchNoMoreCard : Claim7 := { stood := { row := matchNoMoreRow, standIns := [], harness := (true, "48037d9b9bbf9ba3ada03521a9dad91faf8a2fef52cf76f97173bb36ffbf0ad4"), looks := false }, kinds := [], alts := [], laidByText := true, laidKinds := [.data, .data, .data], laidTests := true, laidLooks := .later }
def MatchNoMoreCardSaid : Prop := Claim7.holds Tryd.pinned (.plain (OpenSpec.ofChange matchNoMoreSpec)) matchNoMoreCard

/-- THE TIED CARD OF 'thermionlaw08.MatchNeeds'. -/
def matchNeedsCard : Claim7 := { stood := { row := matchNeedsRow, standIns := [], harness := (true, "48037d9b9bbf9ba3ada03521a9dad91faf8a2fef52cf76f97173bb36ffbf0ad4"), looks := false }, kinds := [], alts := [], laidByText := true, laidKinds := [.data, .data, .data], laidTests := true, laidLooks := .later }
def MatchNeedsCardSaid : Prop := Claim7.holds Tryd.pinned (.plain (OpenSpec.ofChange matchNeedsSpec)) matchNeedsCard

/-- THE TIED CARD OF 'thermionlaw08.MatchQuads'. -/
def matchQuadsCard : Claim7 := { stood := { row := matchQuadsRow, standIns := [], harness := (true, "48037d9b9bbf9ba3ada03521a9dad91faf8a2fef52cf76f97173bb36ffbf0ad4"), looks := false }, kinds := [], alts := [], laidByText := true, laidKinds := [.data, .data, .data], laidTests := true, laidLooks := .later }
def MatchQuadsCardSaid : Prop := Claim7.holds Tryd.pinned (.plain (OpenSpec.ofChange matchQuadsSpec)) matchQuadsCard

/-- THE TIED CARD OF 'thermionlaw08.MatchFours'. -/
def matchFoursCard : Claim7 := { stood := { row := matchFoursRow, standIns := [], harness := (true, "48037d9b9bbf9ba3ada03521a9dad91faf8a2fef52cf76f97173bb36ffbf0ad4"), looks := false }, kinds := [], alts := [], laidByText := true, laidKinds := [.data, .data, .data], laidTests := true, laidLooks := .later }
def MatchFoursCardSaid : Prop := Claim7.holds Tryd.pinned (.plain (OpenSpec.ofChange matchFoursSpec)) matchFoursCard

/-- THE TIED CARD OF 'thermionlaw08.MatchBins'. -/
def matchBinsCard : Claim7 := { stood := { row := matchBinsRow, standIns := [], harness := (true, "48037d9b9bbf9ba3ada03521a9dad91faf8a2fef52cf76f97173bb36ffbf0ad4"), looks := false }, kinds := [], alts := [], laidByText := true, laidKinds := [.data, .data, .data], laidTests := true, laidLooks := .later }
def MatchBinsCardSaid : Prop := Claim7.holds Tryd.pinned (.plain (OpenSpec.ofChange matchBinsSpec)) matchBinsCard

/-- THE TIED CARD OF 'thermionlaw08.MatchFilled'. -/
def matchFilledCard : Claim7 := { stood := { row := matchFilledRow, standIns := [], harness := (true, "48037d9b9bbf9ba3ada03521a9dad91faf8a2fef52cf76f97173bb36ffbf0ad4"), looks := false }, kinds := [], alts := [], laidByText := true, laidKinds := [.data, .data, .data], laidTests := true, laidLooks := .later }
def MatchFilledCardSaid : Prop := Claim7.holds Tryd.pinned (.plain (OpenSpec.ofChange matchFilledSpec)) matchFilledCard

/-- THE TIED CARD OF 'thermionlaw08.MatchGrows'. -/
def matchGrowsCard : Claim7 := { stood := { row := matchGrowsRow, standIns := [], harness := (true, "48037d9b9bbf9ba3ada03521a9dad91faf8a2fef52cf76f97173bb36ffbf0ad4"), looks := false }, kinds := [], alts := [], laidByText := true, laidKinds := [.data, .data, .data], laidTests := true, laidLooks := .later }
def MatchGrowsCardSaid : Prop := Claim7.holds Tryd.pinned (.plain (OpenSpec.ofChange matchGrowsSpec)) matchGrowsCard

/-- THE TIED CARD OF 'thermionlaw08.MatchMarks'. -/
def matchMarksCard : Claim7 := { stood := { row := matchMarksRow, standIns := [], harness := (true, "48037d9b9bbf9ba3ada03521a9dad91faf8a2fef52cf76f97173bb36ffbf0ad4"), looks := false }, kinds := [], alts := [], laidByText := true, laidKinds := [.data, .data, .data, .data, .pinned], laidTests := true, laidLooks := .later }
def MatchMarksCardSaid : Prop := Claim7.holds Tryd.pinned (.plain (OpenSpec.ofChange matchMarksSpec)) matchMarksCard

/-- THE TIED CARD OF 'thermionlaw08.MatchRead'. -/
def matchReadCard : Claim7 := { stood := { row := matchReadRow, standIns := [], harness := (true, "48037d9b9bbf9ba3ada03521a9dad91faf8a2fef52cf76f97173bb36ffbf0ad4"), looks := false }, kinds := [], alts := [], laidByText := true, laidKinds := [.data, .data, .data, .data, .pinned], laidTests := true, laidLooks := .later }
def MatchReadCardSaid : Prop := Claim7.holds Tryd.pinned (.plain (OpenSpec.ofChange matchReadSpec)) matchReadCard

/-- THE SECOND FORM's CARD OF 'thermionlaw08.MatchSortings'. -/
def matchSortingsUptoCard : Claim7 := { stood := { row := matchSortingsUptoRow, standIns := [], harness := (true, "48037d9b9bbf9ba3ada03521a9dad91faf8a2fef52cf76f97173bb36ffbf0ad4"), looks := false }, kinds := [], alts := [], laidByText := true, laidKinds := [.data, .data, .data], laidTests := true, laidLooks := .later }
def MatchSortingsUptoCardSaid : Prop := Claim7.holds Tryd.pinned (.plain (OpenSpec.upto matchSortingsSpec)) matchSortingsUptoCard

/-- THE SECOND FORM's CARD OF 'thermionlaw08.MatchMost'. -/
def matchMostUptoCard : Claim7 := { stood := { row := matchMostUptoRow, standIns := [], harness := (true, "48037d9b9bbf9ba3ada03521a9dad91faf8a2fef52cf76f97173bb36ffbf0ad4"), looks := false }, kinds := [], alts := [], laidByText := true, laidKinds := [.data, .data, .data], laidTests := true, laidLooks := .later }
def MatchMostUptoCardSaid : Prop := Claim7.holds Tryd.pinned (.plain (OpenSpec.upto matchMostSpec)) matchMostUptoCard

/-- THE SECOND FORM's CARD OF 'thermionlaw08.MatchPairs'. -/
def matchPairsUptoCard : Claim7 := { stood := { row := matchPairsUptoRow, standIns := [], harness := (true, "48037d9b9bbf9ba3ada03521a9dad91faf8a2fef52cf76f97173bb36ffbf0ad4"), looks := false }, kinds := [], alts := [], laidByText := true, laidKinds := [.data, .data, .data], laidTests := true, laidLooks := .later }
def MatchPairsUptoCardSaid : Prop := Claim7.holds Tryd.pinned (.plain (OpenSpec.upto matchPairsSpec)) matchPairsUptoCard

/-- THE SECOND FORM's CARD OF 'thermionlaw08.MatchBounds'. -/
def matchBoundsUptoCard : Claim7 := { stood := { row := matchBoundsUptoRow, standIns := [], harness := (true, "48037d9b9bbf9ba3ada03521a9dad91faf8a2fef52cf76f97173bb36ffbf0ad4"), looks := false }, kinds := [], alts := [], laidByText := true, laidKinds := [.data, .data, .data], laidTests := true, laidLooks := .later }
def MatchBoundsUptoCardSaid : Prop := Claim7.holds Tryd.pinned (.plain (OpenSpec.upto matchBoundsSpec)) matchBoundsUptoCard

/-- THE SECOND FORM's CARD OF 'thermionlaw08.MatchNoMore'. -/
def matchNoMoreUptoCard : Claim7 := { stood := { row := matchNoMoreUptoRow, standIns := [], harness := (true, "48037d9b9bbf9ba3ada03521a9dad91faf8a2fef52cf76f97173bb36ffbf0ad4"), looks := false }, kinds := [], alts := [], laidByText := true, laidKinds := [.data, .data, .data], laidTests := true, laidLooks := .later }
def MatchNoMoreUptoCardSaid : Prop := Claim7.holds Tryd.pinned (.plain (OpenSpec.upto matchNoMoreSpec)) matchNoMoreUptoCard

/-- THE SECOND FORM's CARD OF 'thermionlaw08.MatchNeeds'. -/
def matchNeedsUptoCard : Claim7 := { stood := { row := matchNeedsUptoRow, standIns := [], harness := (true, "48037d9b9bbf9ba3ada03521a9dad91faf8a2fef52cf76f97173bb36ffbf0ad4"), looks := false }, kinds := [], alts := [], laidByText := true, laidKinds := [.data, .data, .data], laidTests := true, laidLooks := .later }
def MatchNeedsUptoCardSaid : Prop := Claim7.holds Tryd.pinned (.plain (OpenSpec.upto matchNeedsSpec)) matchNeedsUptoCard

/-- THE SECOND FORM's CARD OF 'thermionlaw08.MatchQuads'. -/
def matchQuadsUptoCard : Claim7 := { stood := { row := matchQuadsUptoRow, standIns := [], harness := (true, "48037d9b9bbf9ba3ada03521a9dad91faf8a2fef52cf76f97173bb36ffbf0ad4"), looks := false }, kinds := [], alts := [], laidByText := true, laidKinds := [.data, .data, .data], laidTests := true, laidLooks := .later }
def MatchQuadsUptoCardSaid : Prop := Claim7.holds Tryd.pinned (.plain (OpenSpec.upto matchQuadsSpec)) matchQuadsUptoCard

/-- THE SECOND FORM's CARD OF 'thermionlaw08.MatchFours'. -/
def matchFoursUptoCard : Claim7 := { stood := { row := matchFoursUptoRow, standIns := [], harness := (true, "48037d9b9bbf9ba3ada03521a9dad91faf8a2fef52cf76f97173bb36ffbf0ad4"), looks := false }, kinds := [], alts := [], laidByText := true, laidKinds := [.data, .data, .data], laidTests := true, laidLooks := .later }
def MatchFoursUptoCardSaid : Prop := Claim7.holds Tryd.pinned (.plain (OpenSpec.upto matchFoursSpec)) matchFoursUptoCard

/-- THE SECOND FORM's CARD OF 'thermionlaw08.MatchBins'. -/
def matchBinsUptoCard : Claim7 := { stood := { row := matchBinsUptoRow, standIns := [], harness := (true, "48037d9b9bbf9ba3ada03521a9dad91faf8a2fef52cf76f97173bb36ffbf0ad4"), looks := false }, kinds := [], alts := [], laidByText := true, laidKinds := [.data, .data, .data], laidTests := true, laidLooks := .later }
def MatchBinsUptoCardSaid : Prop := Claim7.holds Tryd.pinned (.plain (OpenSpec.upto matchBinsSpec)) matchBinsUptoCard

/-- THE SECOND FORM's CARD OF 'thermionlaw08.MatchFilled'. -/
def matchFilledUptoCard : Claim7 := { stood := { row := matchFilledUptoRow, standIns := [], harness := (true, "48037d9b9bbf9ba3ada03521a9dad91faf8a2fef52cf76f97173bb36ffbf0ad4"), looks := false }, kinds := [], alts := [], laidByText := true, laidKinds := [.data, .data, .data], laidTests := true, laidLooks := .later }
def MatchFilledUptoCardSaid : Prop := Claim7.holds Tryd.pinned (.plain (OpenSpec.upto matchFilledSpec)) matchFilledUptoCard

/-- THE SECOND FORM's CARD OF 'thermionlaw08.MatchGrows'. -/
def matchGrowsUptoCard : Claim7 := { stood := { row := matchGrowsUptoRow, standIns := [], harness := (true, "48037d9b9bbf9ba3ada03521a9dad91faf8a2fef52cf76f97173bb36ffbf0ad4"), looks := false }, kinds := [], alts := [], laidByText := true, laidKinds := [.data, .data, .data], laidTests := true, laidLooks := .later }
def MatchGrowsUptoCardSaid : Prop := Claim7.holds Tryd.pinned (.plain (OpenSpec.upto matchGrowsSpec)) matchGrowsUptoCard

/-- THE SECOND FORM's CARD OF 'thermionlaw08.MatchMarks'. -/
def matchMarksUptoCard : Claim7 := { stood := { row := matchMarksUptoRow, standIns := [], harness := (true, "48037d9b9bbf9ba3ada03521a9dad91faf8a2fef52cf76f97173bb36ffbf0ad4"), looks := false }, kinds := [], alts := [], laidByText := true, laidKinds := [.data, .data, .data, .data, .pinned], laidTests := true, laidLooks := .later }
def MatchMarksUptoCardSaid : Prop := Claim7.holds Tryd.pinned (.plain (OpenSpec.upto matchMarksSpec)) matchMarksUptoCard

/-- THE SECOND FORM's CARD OF 'thermionlaw08.MatchRead'. -/
def matchReadUptoCard : Claim7 := { stood := { row := matchReadUptoRow, standIns := [], harness := (true, "48037d9b9bbf9ba3ada03521a9dad91faf8a2fef52cf76f97173bb36ffbf0ad4"), looks := false }, kinds := [], alts := [], laidByText := true, laidKinds := [.data, .data, .data, .data, .pinned], laidTests := true, laidLooks := .later }
def MatchReadUptoCardSaid : Prop := Claim7.holds Tryd.pinned (.plain (OpenSpec.upto matchReadSpec)) matchReadUptoCard
end Rows
end Go.Proofs.YtllbpnmhoblkgaaDoor
