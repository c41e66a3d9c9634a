/-
  DERIVED. GIVEN WITH THE SEED: THE CARDS: each row of YtijaoedlhmdpnaaDoorRows.lean that lists a variable, with what it lists TIED to the program's text (the seventh form; the later family's looks); each row that meets fmt, with fmt's text TOLD by the authors' own Lean function (tested against real Go, not proved from fmt's source: count such statements apart). THE CARD IS WHAT COUNTS. Prove the row's statement (the work); the ties are given (YtijaoedlhmdpnaaDoorTie.lean); close each card by the builder's one call (the guide's Derived/Test/ToyasCard.lean, 'card_holds'). Laid BY PROGRAM, IN A SANDBOX (cutbox-door.mjs). By AI agents, Wed Nov 11 2026. No macro, syntax, notation, axiom, sorry.
-/
import Derived.Test.YtijaoedlhmdpnaaDoorRows
import GoSem.ClaimSeven
namespace Go.Proofs.YtijaoedlhmdpnaaDoor
namespace Rows

/-- THE TIED CARD OF 'changeforgetop.TopQueriesKept'. -/
def topQueriesKeptCard : Claim7 := { stood := { row := topQueriesKeptRow, standIns := [], harness := (true, "a0d9a2353728ea79b086a747090c81b9a0a74b7d21e1d1052255b4b7a5fadd21"), looks := true }, kinds := [], alts := [], laidByText := true, laidKinds := [.data, .data, .data, .sentinel, .sentinel, .widerDeep], laidTests := true, laidLooks := .later }
def TopQueriesKeptCardSaid : Prop := Claim7.holds Tryd.pinned (.plain (OpenSpec.ofChange topQueriesKeptSpec)) topQueriesKeptCard

/-- THE TIED CARD OF 'changeforgetop.TopQueriesDenied'. -/
def topQueriesDeniedCard : Claim7 := { stood := { row := topQueriesDeniedRow, standIns := [], harness := (true, "a0d9a2353728ea79b086a747090c81b9a0a74b7d21e1d1052255b4b7a5fadd21"), looks := true }, kinds := [], alts := [], laidByText := true, laidKinds := [.data, .data, .data, .sentinel, .sentinel, .widerDeep], laidTests := true, laidLooks := .later }
def TopQueriesDeniedCardSaid : Prop := Claim7.holds Tryd.pinned (.plain (OpenSpec.ofChange topQueriesDeniedSpec)) topQueriesDeniedCard

/-- THE TIED CARD OF 'changeforgetop.TopQueriesTurned'. -/
def topQueriesTurnedCard : Claim7 := { stood := { row := topQueriesTurnedRow, standIns := [], harness := (true, "a0d9a2353728ea79b086a747090c81b9a0a74b7d21e1d1052255b4b7a5fadd21"), looks := true }, kinds := [], alts := [], laidByText := true, laidKinds := [.data, .data, .data, .sentinel, .sentinel, .widerDeep], laidTests := true, laidLooks := .later }
def TopQueriesTurnedCardSaid : Prop := Claim7.holds Tryd.pinned (.plain (OpenSpec.ofChange topQueriesTurnedSpec)) topQueriesTurnedCard

/-- THE TIED CARD OF 'changeforgetop.TopQueriesAbsorbed'. -/
def topQueriesAbsorbedCard : Claim7 := { stood := { row := topQueriesAbsorbedRow, standIns := [], harness := (true, "a0d9a2353728ea79b086a747090c81b9a0a74b7d21e1d1052255b4b7a5fadd21"), looks := true }, kinds := [], alts := [], laidByText := true, laidKinds := [.data, .data, .data, .sentinel, .sentinel, .widerDeep], laidTests := true, laidLooks := .later }
def TopQueriesAbsorbedCardSaid : Prop := Claim7.holds Tryd.pinned (.plain (OpenSpec.ofChange topQueriesAbsorbedSpec)) topQueriesAbsorbedCard

/-- THE TIED CARD OF 'changeforgetop.TopQueriesDistributed'. -/
def topQueriesDistributedCard : Claim7 := { stood := { row := topQueriesDistributedRow, standIns := [], harness := (true, "a0d9a2353728ea79b086a747090c81b9a0a74b7d21e1d1052255b4b7a5fadd21"), looks := true }, kinds := [], alts := [], laidByText := true, laidKinds := [.data, .data, .data, .sentinel, .sentinel, .widerDeep], laidTests := true, laidLooks := .later }
def TopQueriesDistributedCardSaid : Prop := Claim7.holds Tryd.pinned (.plain (OpenSpec.ofChange topQueriesDistributedSpec)) topQueriesDistributedCard

/-- THE TIED CARD OF 'changeforgetop.TopRelativesOfBoth'. -/
def topRelativesOfBothCard : Claim7 := { stood := { row := topRelativesOfBothRow, standIns := [], harness := (true, "a0d9a2353728ea79b086a747090c81b9a0a74b7d21e1d1052255b4b7a5fadd21"), looks := true }, kinds := [], alts := [], laidByText := true, laidKinds := [.data, .data, .data, .sentinel, .sentinel, .widerDeep], laidTests := true, laidLooks := .later }
def TopRelativesOfBothCardSaid : Prop := Claim7.holds Tryd.pinned (.plain (OpenSpec.ofChange topRelativesOfBothSpec)) topRelativesOfBothCard

/-- THE TIED CARD OF 'changeforgetop.TopAncestorsUnrolled'. -/
def topAncestorsUnrolledCard : Claim7 := { stood := { row := topAncestorsUnrolledRow, standIns := [], harness := (true, "a0d9a2353728ea79b086a747090c81b9a0a74b7d21e1d1052255b4b7a5fadd21"), looks := true }, kinds := [], alts := [], laidByText := true, laidKinds := [.data, .data, .data, .sentinel, .sentinel, .widerDeep], laidTests := true, laidLooks := .later }
def TopAncestorsUnrolledCardSaid : Prop := Claim7.holds Tryd.pinned (.plain (OpenSpec.ofChange topAncestorsUnrolledSpec)) topAncestorsUnrolledCard

/-- THE TIED CARD OF 'changeforgetop.TopAncestorsTwice'. -/
def topAncestorsTwiceCard : Claim7 := { stood := { row := topAncestorsTwiceRow, standIns := [], harness := (true, "a0d9a2353728ea79b086a747090c81b9a0a74b7d21e1d1052255b4b7a5fadd21"), looks := true }, kinds := [], alts := [], laidByText := true, laidKinds := [.data, .data, .data, .sentinel, .sentinel, .widerDeep], laidTests := true, laidLooks := .later }
def TopAncestorsTwiceCardSaid : Prop := Claim7.holds Tryd.pinned (.plain (OpenSpec.ofChange topAncestorsTwiceSpec)) topAncestorsTwiceCard

/-- THE TIED CARD OF 'changeforgetop.TopHeadsWritten'. -/
def topHeadsWrittenCard : Claim7 := { stood := { row := topHeadsWrittenRow, standIns := [], harness := (true, "a0d9a2353728ea79b086a747090c81b9a0a74b7d21e1d1052255b4b7a5fadd21"), looks := true }, kinds := [], alts := [], laidByText := true, laidKinds := [.data, .data, .data, .sentinel, .sentinel, .widerDeep], laidTests := true, laidLooks := .later }
def TopHeadsWrittenCardSaid : Prop := Claim7.holds Tryd.pinned (.plain (OpenSpec.ofChange topHeadsWrittenSpec)) topHeadsWrittenCard

/-- THE TIED CARD OF 'changeforgetop.TopHeadsTwice'. -/
def topHeadsTwiceCard : Claim7 := { stood := { row := topHeadsTwiceRow, standIns := [], harness := (true, "a0d9a2353728ea79b086a747090c81b9a0a74b7d21e1d1052255b4b7a5fadd21"), looks := true }, kinds := [], alts := [], laidByText := true, laidKinds := [.data, .data, .data, .sentinel, .sentinel, .widerDeep], laidTests := true, laidLooks := .later }
def TopHeadsTwiceCardSaid : Prop := Claim7.holds Tryd.pinned (.plain (OpenSpec.ofChange topHeadsTwiceSpec)) topHeadsTwiceCard

/-- THE TIED CARD OF 'changeforgetop.TopTimesParted'. -/
def topTimesPartedCard : Claim7 := { stood := { row := topTimesPartedRow, standIns := [], harness := (true, "a0d9a2353728ea79b086a747090c81b9a0a74b7d21e1d1052255b4b7a5fadd21"), looks := true }, kinds := [], alts := [], laidByText := true, laidKinds := [.data, .data, .data, .sentinel, .sentinel, .widerDeep], laidTests := true, laidLooks := .later }
def TopTimesPartedCardSaid : Prop := Claim7.holds Tryd.pinned (.plain (OpenSpec.ofChange topTimesPartedSpec)) topTimesPartedCard

/-- THE TIED CARD OF 'changeforgetop.TopOthersApart'. -/
def topOthersApartCard : Claim7 := { stood := { row := topOthersApartRow, standIns := [], harness := (true, "a0d9a2353728ea79b086a747090c81b9a0a74b7d21e1d1052255b4b7a5fadd21"), looks := true }, kinds := [], alts := [], laidByText := true, laidKinds := [.data, .data, .data, .sentinel, .sentinel, .widerDeep], laidTests := true, laidLooks := .later }
def TopOthersApartCardSaid : Prop := Claim7.holds Tryd.pinned (.plain (OpenSpec.ofChange topOthersApartSpec)) topOthersApartCard

/-- THE SECOND FORM's CARD OF 'changeforgetop.TopQueriesKept'. -/
def topQueriesKeptUptoCard : Claim7 := { stood := { row := topQueriesKeptUptoRow, standIns := [], harness := (true, "a0d9a2353728ea79b086a747090c81b9a0a74b7d21e1d1052255b4b7a5fadd21"), looks := true }, kinds := [], alts := [], laidByText := true, laidKinds := [.data, .data, .data, .sentinel, .sentinel, .widerDeep], laidTests := true, laidLooks := .later }
def TopQueriesKeptUptoCardSaid : Prop := Claim7.holds Tryd.pinned (.plain (OpenSpec.upto topQueriesKeptSpec)) topQueriesKeptUptoCard

/-- THE SECOND FORM's CARD OF 'changeforgetop.TopQueriesDenied'. -/
def topQueriesDeniedUptoCard : Claim7 := { stood := { row := topQueriesDeniedUptoRow, standIns := [], harness := (true, "a0d9a2353728ea79b086a747090c81b9a0a74b7d21e1d1052255b4b7a5fadd21"), looks := true }, kinds := [], alts := [], laidByText := true, laidKinds := [.data, .data, .data, .sentinel, .sentinel, .widerDeep], laidTests := true, laidLooks := .later }
def TopQueriesDeniedUptoCardSaid : Prop := Claim7.holds Tryd.pinned (.plain (OpenSpec.upto topQueriesDeniedSpec)) topQueriesDeniedUptoCard

/-- THE SECOND FORM's CARD OF 'changeforgetop.TopQueriesTurned'. -/
def topQueriesTurnedUptoCard : Claim7 := { stood := { row := topQueriesTurnedUptoRow, standIns := [], harness := (true, "a0d9a2353728ea79b086a747090c81b9a0a74b7d21e1d1052255b4b7a5fadd21"), looks := true }, kinds := [], alts := [], laidByText := true, laidKinds := [.data, .data, .data, .sentinel, .sentinel, .widerDeep], laidTests := true, laidLooks := .later }
def TopQueriesTurnedUptoCardSaid : Prop := Claim7.holds Tryd.pinned (.plain (OpenSpec.upto topQueriesTurnedSpec)) topQueriesTurnedUptoCard

/-- THE SECOND FORM's CARD OF 'changeforgetop.TopQueriesAbsorbed'. -/
def topQueriesAbsorbedUptoCard : Claim7 := { stood := { row := topQueriesAbsorbedUptoRow, standIns := [], harness := (true, "a0d9a2353728ea79b086a747090c81b9a0a74b7d21e1d1052255b4b7a5fadd21"), looks := true }, kinds := [], alts := [], laidByText := true, laidKinds := [.data, .data, .data, .sentinel, .sentinel, .widerDeep], laidTests := true, laidLooks := .later }
def TopQueriesAbsorbedUptoCardSaid : Prop := Claim7.holds Tryd.pinned (.plain (OpenSpec.upto topQueriesAbsorbedSpec)) topQueriesAbsorbedUptoCard

/-- THE SECOND FORM's CARD OF 'changeforgetop.TopQueriesDistributed'. -/
def topQueriesDistributedUptoCard : Claim7 := { stood := { row := topQueriesDistributedUptoRow, standIns := [], harness := (true, "a0d9a2353728ea79b086a747090c81b9a0a74b7d21e1d1052255b4b7a5fadd21"), looks := true }, kinds := [], alts := [], laidByText := true, laidKinds := [.data, .data, .data, .sentinel, .sentinel, .widerDeep], laidTests := true, laidLooks := .later }
def TopQueriesDistributedUptoCardSaid : Prop := Claim7.holds Tryd.pinned (.plain (OpenSpec.upto topQueriesDistributedSpec)) topQueriesDistributedUptoCard

/-- THE SECOND FORM's CARD OF 'changeforgetop.TopRelativesOfBoth'. -/
def topRelativesOfBothUptoCard : Claim7 := { stood := { row := topRelativesOfBothUptoRow, standIns := [], harness := (true, "a0d9a2353728ea79b086a747090c81b9a0a74b7d21e1d1052255b4b7a5fadd21"), looks := true }, kinds := [], alts := [], laidByText := true, laidKinds := [.data, .data, .data, .sentinel, .sentinel, .widerDeep], laidTests := true, laidLooks := .later }
def TopRelativesOfBothUptoCardSaid : Prop := Claim7.holds Tryd.pinned (.plain (OpenSpec.upto topRelativesOfBothSpec)) topRelativesOfBothUptoCard

/-- THE SECOND FORM's CARD OF 'changeforgetop.TopAncestorsUnrolled'. -/
def topAncestorsUnrolledUptoCard : Claim7 := { stood := { row := topAncestorsUnrolledUptoRow, standIns := [], harness := (true, "a0d9a2353728ea79b086a747090c81b9a0a74b7d21e1d1052255b4b7a5fadd21"), looks := true }, kinds := [], alts := [], laidByText := true, laidKinds := [.data, .data, .data, .sentinel, .sentinel, .widerDeep], laidTests := true, laidLooks := .later }
def TopAncestorsUnrolledUptoCardSaid : Prop := Claim7.holds Tryd.pinned (.plain (OpenSpec.upto topAncestorsUnrolledSpec)) topAncestorsUnrolledUptoCard

/-- THE SECOND FORM's CARD OF 'changeforgetop.TopAncestorsTwice'. -/
def topAncestorsTwiceUptoCard : Claim7 := { stood := { row := topAncestorsTwiceUptoRow, standIns := [], harness := (true, "a0d9a2353728ea79b086a747090c81b9a0a74b7d21e1d1052255b4b7a5fadd21"), looks := true }, kinds := [], alts := [], laidByText := true, laidKinds := [.data, .data, .data, .sentinel, .sentinel, .widerDeep], laidTests := true, laidLooks := .later }
def TopAncestorsTwiceUptoCardSaid : Prop := Claim7.holds Tryd.pinned (.plain (OpenSpec.upto topAncestorsTwiceSpec)) topAncestorsTwiceUptoCard

/-- THE SECOND FORM's CARD OF 'changeforgetop.TopHeadsWritten'. -/
def topHeadsWrittenUptoCard : Claim7 := { stood := { row := topHeadsWrittenUptoRow, standIns := [], harness := (true, "a0d9a2353728ea79b086a747090c81b9a0a74b7d21e1d1052255b4b7a5fadd21"), looks := true }, kinds := [], alts := [], laidByText := true, laidKinds := [.data, .data, .data, .sentinel, .sentinel, .widerDeep], laidTests := true, laidLooks := .later }
def TopHeadsWrittenUptoCardSaid : Prop := Claim7.holds Tryd.pinned (.plain (OpenSpec.upto topHeadsWrittenSpec)) topHeadsWrittenUptoCard

/-- THE SECOND FORM's CARD OF 'changeforgetop.TopHeadsTwice'. -/
def topHeadsTwiceUptoCard : Claim7 := { stood := { row := topHeadsTwiceUptoRow, standIns := [], harness := (true, "a0d9a2353728ea79b086a747090c81b9a0a74b7d21e1d1052255b4b7a5fadd21"), looks := true }, kinds := [], alts := [], laidByText := true, laidKinds := [.data, .data, .data, .sentinel, .sentinel, .widerDeep], laidTests := true, laidLooks := .later }
def TopHeadsTwiceUptoCardSaid : Prop := Claim7.holds Tryd.pinned (.plain (OpenSpec.upto topHeadsTwiceSpec)) topHeadsTwiceUptoCard

/-- THE SECOND FORM's CARD OF 'changeforgetop.TopTimesParted'. -/
def topTimesPartedUptoCard : Claim7 := { stood := { row := topTimesPartedUptoRow, standIns := [], harness := (true, "a0d9a2353728ea79b086a747090c81b9a0a74b7d21e1d1052255b4b7a5fadd21"), looks := true }, kinds := [], alts := [], laidByText := true, laidKinds := [.data, .data, .data, .sentinel, .sentinel, .widerDeep], laidTests := true, laidLooks := .later }
def TopTimesPartedUptoCardSaid : Prop := Claim7.holds Tryd.pinned (.plain (OpenSpec.upto topTimesPartedSpec)) topTimesPartedUptoCard

/-- THE SECOND FORM's CARD OF 'changeforgetop.TopOthersApart'. -/
def topOthersApartUptoCard : Claim7 := { stood := { row := topOthersApartUptoRow, standIns := [], harness := (true, "a0d9a2353728ea79b086a747090c81b9a0a74b7d21e1d1052255b4b7a5fadd21"), looks := true }, kinds := [], alts := [], laidByText := true, laidKinds := [.data, .data, .data, .sentinel, .sentinel, .widerDeep], laidTests := true, laidLooks := .later }
def TopOthersApartUptoCardSaid : Prop := Claim7.holds Tryd.pinned (.plain (OpenSpec.upto topOthersApartSpec)) topOthersApartUptoCard
end Rows
end Go.Proofs.YtijaoedlhmdpnaaDoor
