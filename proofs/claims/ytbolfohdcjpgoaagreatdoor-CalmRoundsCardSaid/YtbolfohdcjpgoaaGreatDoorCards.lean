/-
  DERIVED. GIVEN WITH THE SEED: THE CARDS: each row of YtbolfohdcjpgoaaGreatDoorRows.lean that lists a variable, with what it lists TIED to the program's text (the seventh form; the later family's looks); each row that meets fmt, with fmt's text TOLD by the authors' own Lean function (tested against real Go, not proved from fmt's source: count such statements apart). THE CARD IS WHAT COUNTS. Prove the row's statement (the work); the ties are given (YtbolfohdcjpgoaaGreatDoorTie.lean); close each card by the builder's one call (the guide's Derived/Test/ToyasCard.lean, 'card_holds'). Laid BY PROGRAM, IN A SANDBOX (cutbox-door.mjs). By AI agents, Wed Nov 11 2026. No macro, syntax, notation, axiom, sorry.
-/
import Derived.Test.YtbolfohdcjpgoaaGreatDoorRows
import GoSem.ClaimSeven
namespace Go.Proofs.YtbolfohdcjpgoaaGreatDoor
namespace Rows

/-- THE TIED CARD OF 'ploverlaw20.CalmRounds'. -/
def calmRoundsCard : Claim7 := { stood := { row := calmRoundsRow, standIns := [], harness := (true, "caec329e8f3c2d9672994988247c0ae0ac2a1801b32b703561c3b62fcadc3b62"), looks := true }, kinds := [], alts := [], laidByText := true, laidKinds := [.data, .data, .data, .sentinel, .sentinel], laidTests := true, laidLooks := .later }
def CalmRoundsCardSaid : Prop := Claim7.holds Tryz.pinned (.plain (OpenSpec.ofChange calmRoundsSpec)) calmRoundsCard

/-- THE TIED CARD OF 'ploverlaw17.NodeAsks'. -/
def nodeAsksCard : Claim7 := { stood := { row := nodeAsksRow, standIns := [], harness := (true, "caec329e8f3c2d9672994988247c0ae0ac2a1801b32b703561c3b62fcadc3b62"), looks := true }, kinds := [], alts := [], laidByText := true, laidKinds := [.data, .data, .data, .sentinel, .sentinel], laidTests := true, laidLooks := .later }
def NodeAsksCardSaid : Prop := Claim7.holds Tryz.pinned (.plain (OpenSpec.ofChange nodeAsksSpec)) nodeAsksCard

/-- THE TIED CARD OF 'ploverlaw17.NodeNobody'. -/
def nodeNobodyCard : Claim7 := { stood := { row := nodeNobodyRow, standIns := [], harness := (true, "caec329e8f3c2d9672994988247c0ae0ac2a1801b32b703561c3b62fcadc3b62"), looks := true }, kinds := [], alts := [], laidByText := true, laidKinds := [.data, .data, .data, .sentinel, .sentinel], laidTests := true, laidLooks := .later }
def NodeNobodyCardSaid : Prop := Claim7.holds Tryz.pinned (.plain (OpenSpec.ofChange nodeNobodySpec)) nodeNobodyCard

/-- THE TIED CARD OF 'ploverlaw17.NodeAnew'. -/
def nodeAnewCard : Claim7 := { stood := { row := nodeAnewRow, standIns := [], harness := (true, "caec329e8f3c2d9672994988247c0ae0ac2a1801b32b703561c3b62fcadc3b62"), looks := true }, kinds := [], alts := [], laidByText := true, laidKinds := [.data, .data, .data, .sentinel, .sentinel], laidTests := true, laidLooks := .later }
def NodeAnewCardSaid : Prop := Claim7.holds Tryz.pinned (.plain (OpenSpec.ofChange nodeAnewSpec)) nodeAnewCard

/-- THE TIED CARD OF 'ploverlaw17.NodeOnce'. -/
def nodeOnceCard : Claim7 := { stood := { row := nodeOnceRow, standIns := [], harness := (true, "caec329e8f3c2d9672994988247c0ae0ac2a1801b32b703561c3b62fcadc3b62"), looks := true }, kinds := [], alts := [], laidByText := true, laidKinds := [.data, .data, .data, .sentinel, .sentinel], laidTests := true, laidLooks := .later }
def NodeOnceCardSaid : Prop := Claim7.holds Tryz.pinned (.plain (OpenSpec.ofChange nodeOnceSpec)) nodeOnceCard

/-- THE TIED CARD OF 'ploverlaw17.NodeMoves'. -/
def nodeMovesCard : Claim7 := { stood := { row := nodeMovesRow, standIns := [], harness := (true, "caec329e8f3c2d9672994988247c0ae0ac2a1801b32b703561c3b62fcadc3b62"), looks := true }, kinds := [], alts := [], laidByText := true, laidKinds := [.data, .data, .data, .sentinel, .sentinel], laidTests := true, laidLooks := .later }
def NodeMovesCardSaid : Prop := Claim7.holds Tryz.pinned (.plain (OpenSpec.ofChange nodeMovesSpec)) nodeMovesCard

/-- THE SECOND FORM's CARD OF 'ploverlaw20.CalmRounds'. -/
def calmRoundsUptoCard : Claim7 := { stood := { row := calmRoundsUptoRow, standIns := [], harness := (true, "caec329e8f3c2d9672994988247c0ae0ac2a1801b32b703561c3b62fcadc3b62"), looks := true }, kinds := [], alts := [], laidByText := true, laidKinds := [.data, .data, .data, .sentinel, .sentinel], laidTests := true, laidLooks := .later }
def CalmRoundsUptoCardSaid : Prop := Claim7.holds Tryz.pinned (.plain (OpenSpec.upto calmRoundsSpec)) calmRoundsUptoCard

/-- THE SECOND FORM's CARD OF 'ploverlaw17.NodeAsks'. -/
def nodeAsksUptoCard : Claim7 := { stood := { row := nodeAsksUptoRow, standIns := [], harness := (true, "caec329e8f3c2d9672994988247c0ae0ac2a1801b32b703561c3b62fcadc3b62"), looks := true }, kinds := [], alts := [], laidByText := true, laidKinds := [.data, .data, .data, .sentinel, .sentinel], laidTests := true, laidLooks := .later }
def NodeAsksUptoCardSaid : Prop := Claim7.holds Tryz.pinned (.plain (OpenSpec.upto nodeAsksSpec)) nodeAsksUptoCard

/-- THE SECOND FORM's CARD OF 'ploverlaw17.NodeNobody'. -/
def nodeNobodyUptoCard : Claim7 := { stood := { row := nodeNobodyUptoRow, standIns := [], harness := (true, "caec329e8f3c2d9672994988247c0ae0ac2a1801b32b703561c3b62fcadc3b62"), looks := true }, kinds := [], alts := [], laidByText := true, laidKinds := [.data, .data, .data, .sentinel, .sentinel], laidTests := true, laidLooks := .later }
def NodeNobodyUptoCardSaid : Prop := Claim7.holds Tryz.pinned (.plain (OpenSpec.upto nodeNobodySpec)) nodeNobodyUptoCard

/-- THE SECOND FORM's CARD OF 'ploverlaw17.NodeAnew'. -/
def nodeAnewUptoCard : Claim7 := { stood := { row := nodeAnewUptoRow, standIns := [], harness := (true, "caec329e8f3c2d9672994988247c0ae0ac2a1801b32b703561c3b62fcadc3b62"), looks := true }, kinds := [], alts := [], laidByText := true, laidKinds := [.data, .data, .data, .sentinel, .sentinel], laidTests := true, laidLooks := .later }
def NodeAnewUptoCardSaid : Prop := Claim7.holds Tryz.pinned (.plain (OpenSpec.upto nodeAnewSpec)) nodeAnewUptoCard

/-- THE SECOND FORM's CARD OF 'ploverlaw17.NodeOnce'. -/
def nodeOnceUptoCard : Claim7 := { stood := { row := nodeOnceUptoRow, standIns := [], harness := (true, "caec329e8f3c2d9672994988247c0ae0ac2a1801b32b703561c3b62fcadc3b62"), looks := true }, kinds := [], alts := [], laidByText := true, laidKinds := [.data, .data, .data, .sentinel, .sentinel], laidTests := true, laidLooks := .later }
def NodeOnceUptoCardSaid : Prop := Claim7.holds Tryz.pinned (.plain (OpenSpec.upto nodeOnceSpec)) nodeOnceUptoCard

/-- THE SECOND FORM's CARD OF 'ploverlaw17.NodeMoves'. -/
def nodeMovesUptoCard : Claim7 := { stood := { row := nodeMovesUptoRow, standIns := [], harness := (true, "caec329e8f3c2d9672994988247c0ae0ac2a1801b32b703561c3b62fcadc3b62"), looks := true }, kinds := [], alts := [], laidByText := true, laidKinds := [.data, .data, .data, .sentinel, .sentinel], laidTests := true, laidLooks := .later }
def NodeMovesUptoCardSaid : Prop := Claim7.holds Tryz.pinned (.plain (OpenSpec.upto nodeMovesSpec)) nodeMovesUptoCard
end Rows
end Go.Proofs.YtbolfohdcjpgoaaGreatDoor
