/-
  DERIVED. GIVEN WITH THE SEED: THE CARDS: each row of YtmimnelcopgcpaaGreatDoorRows.lean that lists a variable, with what it lists TIED to the program's text (the seventh form; the later family's looks); each row that meets fmt, with fmt's text TOLD by the authors' own Lean function (tested against real Go, not proved from fmt's source: count such statements apart). THE CARD IS WHAT COUNTS. Prove the row's statement (the work); the ties are given (YtmimnelcopgcpaaGreatDoorTie.lean); close each card by the builder's one call (the guide's Derived/Test/ToyasCard.lean, 'card_holds'). Laid BY PROGRAM, IN A SANDBOX (cutbox-door.mjs). By AI agents, Wed Nov 11 2026. No macro, syntax, notation, axiom, sorry.
-/
import Derived.Test.YtmimnelcopgcpaaGreatDoorRows
import GoSem.ClaimSeven
namespace Go.Proofs.YtmimnelcopgcpaaGreatDoor
namespace Rows

/-- THE TIED CARD OF 'staithelaw26.AxiomAhead'. -/
def axiomAheadCard : Claim7 := { stood := { row := axiomAheadRow, standIns := [], harness := (true, "9f3ba90a39830b65a17b71e828f5cd9e1a91d76ad1d4097e6bbfcde4b1545215"), looks := false }, kinds := [], alts := [], laidByText := true, laidKinds := [.data, .data, .data], laidTests := true, laidLooks := .later }
def AxiomAheadCardSaid : Prop := Claim7.holds Tryz.pinned (.plain (OpenSpec.ofChange axiomAheadSpec)) axiomAheadCard

/-- THE TIED CARD OF 'staithelaw26.AxiomFirst'. -/
def axiomFirstCard : Claim7 := { stood := { row := axiomFirstRow, standIns := [], harness := (true, "9f3ba90a39830b65a17b71e828f5cd9e1a91d76ad1d4097e6bbfcde4b1545215"), looks := false }, kinds := [], alts := [], laidByText := true, laidKinds := [.data, .data, .data], laidTests := true, laidLooks := .later }
def AxiomFirstCardSaid : Prop := Claim7.holds Tryz.pinned (.plain (OpenSpec.ofChange axiomFirstSpec)) axiomFirstCard

/-- THE TIED CARD OF 'staithelaw26.AxiomOrder'. -/
def axiomOrderCard : Claim7 := { stood := { row := axiomOrderRow, standIns := [], harness := (true, "9f3ba90a39830b65a17b71e828f5cd9e1a91d76ad1d4097e6bbfcde4b1545215"), looks := false }, kinds := [], alts := [], laidByText := true, laidKinds := [.data, .data, .data], laidTests := true, laidLooks := .later }
def AxiomOrderCardSaid : Prop := Claim7.holds Tryz.pinned (.plain (OpenSpec.ofChange axiomOrderSpec)) axiomOrderCard

/-- THE TIED CARD OF 'staithelaw26.AxiomGrows'. -/
def axiomGrowsCard : Claim7 := { stood := { row := axiomGrowsRow, standIns := [], harness := (true, "9f3ba90a39830b65a17b71e828f5cd9e1a91d76ad1d4097e6bbfcde4b1545215"), looks := false }, kinds := [], alts := [], laidByText := true, laidKinds := [.data, .data, .data], laidTests := true, laidLooks := .later }
def AxiomGrowsCardSaid : Prop := Claim7.holds Tryz.pinned (.plain (OpenSpec.ofChange axiomGrowsSpec)) axiomGrowsCard

/-- THE TIED CARD OF 'staithelaw13.LoomEnds'. -/
def loomEndsCard : Claim7 := { stood := { row := loomEndsRow, standIns := [], harness := (true, "9f3ba90a39830b65a17b71e828f5cd9e1a91d76ad1d4097e6bbfcde4b1545215"), looks := false }, kinds := [], alts := [], laidByText := true, laidKinds := [.data, .data, .data], laidTests := true, laidLooks := .later }
def LoomEndsCardSaid : Prop := Claim7.holds Tryz.pinned (.plain (OpenSpec.ofChange loomEndsSpec)) loomEndsCard

/-- THE TIED CARD OF 'staithelaw26.AxiomKnows'. -/
def axiomKnowsCard : Claim7 := { stood := { row := axiomKnowsRow, standIns := [], harness := (true, "9f3ba90a39830b65a17b71e828f5cd9e1a91d76ad1d4097e6bbfcde4b1545215"), looks := false }, kinds := [], alts := [], laidByText := true, laidKinds := [.data, .data, .data], laidTests := true, laidLooks := .later }
def AxiomKnowsCardSaid : Prop := Claim7.holds Tryz.pinned (.plain (OpenSpec.ofChange axiomKnowsSpec)) axiomKnowsCard

/-- THE TIED CARD OF 'staithelaw26.AxiomTold'. -/
def axiomToldCard : Claim7 := { stood := { row := axiomToldRow, standIns := [], harness := (true, "9f3ba90a39830b65a17b71e828f5cd9e1a91d76ad1d4097e6bbfcde4b1545215"), looks := false }, kinds := [], alts := [], laidByText := true, laidKinds := [.data, .data, .data], laidTests := true, laidLooks := .later }
def AxiomToldCardSaid : Prop := Claim7.holds Tryz.pinned (.plain (OpenSpec.ofChange axiomToldSpec)) axiomToldCard

/-- THE TIED CARD OF 'staithelaw14.GaugeCounts'. -/
def gaugeCountsCard : Claim7 := { stood := { row := gaugeCountsRow, standIns := [], harness := (true, "9f3ba90a39830b65a17b71e828f5cd9e1a91d76ad1d4097e6bbfcde4b1545215"), looks := false }, kinds := [], alts := [], laidByText := true, laidKinds := [.data, .data, .data], laidTests := true, laidLooks := .later }
def GaugeCountsCardSaid : Prop := Claim7.holds Tryz.pinned (.plain (OpenSpec.ofChange gaugeCountsSpec)) gaugeCountsCard

/-- THE TIED CARD OF 'staithelaw14.GaugeRuns'. -/
def gaugeRunsCard : Claim7 := { stood := { row := gaugeRunsRow, standIns := [], harness := (true, "9f3ba90a39830b65a17b71e828f5cd9e1a91d76ad1d4097e6bbfcde4b1545215"), looks := false }, kinds := [], alts := [], laidByText := true, laidKinds := [.data, .data, .data], laidTests := true, laidLooks := .later }
def GaugeRunsCardSaid : Prop := Claim7.holds Tryz.pinned (.plain (OpenSpec.ofChange gaugeRunsSpec)) gaugeRunsCard

/-- THE TIED CARD OF 'staithelaw14.GaugeSpoils'. -/
def gaugeSpoilsCard : Claim7 := { stood := { row := gaugeSpoilsRow, standIns := [], harness := (true, "9f3ba90a39830b65a17b71e828f5cd9e1a91d76ad1d4097e6bbfcde4b1545215"), looks := false }, kinds := [], alts := [], laidByText := true, laidKinds := [.data, .data, .data], laidTests := true, laidLooks := .later }
def GaugeSpoilsCardSaid : Prop := Claim7.holds Tryz.pinned (.plain (OpenSpec.ofChange gaugeSpoilsSpec)) gaugeSpoilsCard

/-- THE TIED CARD OF 'staithelaw26.AxiomSettled'. -/
def axiomSettledCard : Claim7 := { stood := { row := axiomSettledRow, standIns := [], harness := (true, "9f3ba90a39830b65a17b71e828f5cd9e1a91d76ad1d4097e6bbfcde4b1545215"), looks := false }, kinds := [], alts := [], laidByText := true, laidKinds := [.data, .data, .data], laidTests := true, laidLooks := .later }
def AxiomSettledCardSaid : Prop := Claim7.holds Tryz.pinned (.plain (OpenSpec.ofChange axiomSettledSpec)) axiomSettledCard

/-- THE SECOND FORM's CARD OF 'staithelaw26.AxiomAhead'. -/
def axiomAheadUptoCard : Claim7 := { stood := { row := axiomAheadUptoRow, standIns := [], harness := (true, "9f3ba90a39830b65a17b71e828f5cd9e1a91d76ad1d4097e6bbfcde4b1545215"), looks := false }, kinds := [], alts := [], laidByText := true, laidKinds := [.data, .data, .data], laidTests := true, laidLooks := .later }
def AxiomAheadUptoCardSaid : Prop := Claim7.holds Tryz.pinned (.plain (OpenSpec.upto axiomAheadSpec)) axiomAheadUptoCard

/-- THE SECOND FORM's CARD OF 'staithelaw26.AxiomFirst'. -/
def axiomFirstUptoCard : Claim7 := { stood := { row := axiomFirstUptoRow, standIns := [], harness := (true, "9f3ba90a39830b65a17b71e828f5cd9e1a91d76ad1d4097e6bbfcde4b1545215"), looks := false }, kinds := [], alts := [], laidByText := true, laidKinds := [.data, .data, .data], laidTests := true, laidLooks := .later }
def AxiomFirstUptoCardSaid : Prop := Claim7.holds Tryz.pinned (.plain (OpenSpec.upto axiomFirstSpec)) axiomFirstUptoCard

/-- THE SECOND FORM's CARD OF 'staithelaw26.AxiomOrder'. -/
def axiomOrderUptoCard : Claim7 := { stood := { row := axiomOrderUptoRow, standIns := [], harness := (true, "9f3ba90a39830b65a17b71e828f5cd9e1a91d76ad1d4097e6bbfcde4b1545215"), looks := false }, kinds := [], alts := [], laidByText := true, laidKinds := [.data, .data, .data], laidTests := true, laidLooks := .later }
def AxiomOrderUptoCardSaid : Prop := Claim7.holds Tryz.pinned (.plain (OpenSpec.upto axiomOrderSpec)) axiomOrderUptoCard

/-- THE SECOND FORM's CARD OF 'staithelaw26.AxiomGrows'. -/
def axiomGrowsUptoCard : Claim7 := { stood := { row := axiomGrowsUptoRow, standIns := [], harness := (true, "9f3ba90a39830b65a17b71e828f5cd9e1a91d76ad1d4097e6bbfcde4b1545215"), looks := false }, kinds := [], alts := [], laidByText := true, laidKinds := [.data, .data, .data], laidTests := true, laidLooks := .later }
def AxiomGrowsUptoCardSaid : Prop := Claim7.holds Tryz.pinned (.plain (OpenSpec.upto axiomGrowsSpec)) axiomGrowsUptoCard

/-- THE SECOND FORM's CARD OF 'staithelaw13.LoomEnds'. -/
def loomEndsUptoCard : Claim7 := { stood := { row := loomEndsUptoRow, standIns := [], harness := (true, "9f3ba90a39830b65a17b71e828f5cd9e1a91d76ad1d4097e6bbfcde4b1545215"), looks := false }, kinds := [], alts := [], laidByText := true, laidKinds := [.data, .data, .data], laidTests := true, laidLooks := .later }
def LoomEndsUptoCardSaid : Prop := Claim7.holds Tryz.pinned (.plain (OpenSpec.upto loomEndsSpec)) loomEndsUptoCard

/-- THE SECOND FORM's CARD OF 'staithelaw26.AxiomKnows'. -/
def axiomKnowsUptoCard : Claim7 := { stood := { row := axiomKnowsUptoRow, standIns := [], harness := (true, "9f3ba90a39830b65a17b71e828f5cd9e1a91d76ad1d4097e6bbfcde4b1545215"), looks := false }, kinds := [], alts := [], laidByText := true, laidKinds := [.data, .data, .data], laidTests := true, laidLooks := .later }
def AxiomKnowsUptoCardSaid : Prop := Claim7.holds Tryz.pinned (.plain (OpenSpec.upto axiomKnowsSpec)) axiomKnowsUptoCard

/-- THE SECOND FORM's CARD OF 'staithelaw26.AxiomTold'. -/
def axiomToldUptoCard : Claim7 := { stood := { row := axiomToldUptoRow, standIns := [], harness := (true, "9f3ba90a39830b65a17b71e828f5cd9e1a91d76ad1d4097e6bbfcde4b1545215"), looks := false }, kinds := [], alts := [], laidByText := true, laidKinds := [.data, .data, .data], laidTests := true, laidLooks := .later }
def AxiomToldUptoCardSaid : Prop := Claim7.holds Tryz.pinned (.plain (OpenSpec.upto axiomToldSpec)) axiomToldUptoCard

/-- THE SECOND FORM's CARD OF 'staithelaw14.GaugeCounts'. -/
def gaugeCountsUptoCard : Claim7 := { stood := { row := gaugeCountsUptoRow, standIns := [], harness := (true, "9f3ba90a39830b65a17b71e828f5cd9e1a91d76ad1d4097e6bbfcde4b1545215"), looks := false }, kinds := [], alts := [], laidByText := true, laidKinds := [.data, .data, .data], laidTests := true, laidLooks := .later }
def GaugeCountsUptoCardSaid : Prop := Claim7.holds Tryz.pinned (.plain (OpenSpec.upto gaugeCountsSpec)) gaugeCountsUptoCard

/-- THE SECOND FORM's CARD OF 'staithelaw14.GaugeRuns'. -/
def gaugeRunsUptoCard : Claim7 := { stood := { row := gaugeRunsUptoRow, standIns := [], harness := (true, "9f3ba90a39830b65a17b71e828f5cd9e1a91d76ad1d4097e6bbfcde4b1545215"), looks := false }, kinds := [], alts := [], laidByText := true, laidKinds := [.data, .data, .data], laidTests := true, laidLooks := .later }
def GaugeRunsUptoCardSaid : Prop := Claim7.holds Tryz.pinned (.plain (OpenSpec.upto gaugeRunsSpec)) gaugeRunsUptoCard

/-- THE SECOND FORM's CARD OF 'staithelaw14.GaugeSpoils'. -/
def gaugeSpoilsUptoCard : Claim7 := { stood := { row := gaugeSpoilsUptoRow, standIns := [], harness := (true, "9f3ba90a39830b65a17b71e828f5cd9e1a91d76ad1d4097e6bbfcde4b1545215"), looks := false }, kinds := [], alts := [], laidByText := true, laidKinds := [.data, .data, .data], laidTests := true, laidLooks := .later }
def GaugeSpoilsUptoCardSaid : Prop := Claim7.holds Tryz.pinned (.plain (OpenSpec.upto gaugeSpoilsSpec)) gaugeSpoilsUptoCard

/-- THE SECOND FORM's CARD OF 'staithelaw26.AxiomSettled'. -/
def axiomSettledUptoCard : Claim7 := { stood := { row := axiomSettledUptoRow, standIns := [], harness := (true, "9f3ba90a39830b65a17b71e828f5cd9e1a91d76ad1d4097e6bbfcde4b1545215"), looks := false }, kinds := [], alts := [], laidByText := true, laidKinds := [.data, .data, .data], laidTests := true, laidLooks := .later }
def AxiomSettledUptoCardSaid : Prop := Claim7.holds Tryz.pinned (.plain (OpenSpec.upto axiomSettledSpec)) axiomSettledUptoCard
end Rows
end Go.Proofs.YtmimnelcopgcpaaGreatDoor
