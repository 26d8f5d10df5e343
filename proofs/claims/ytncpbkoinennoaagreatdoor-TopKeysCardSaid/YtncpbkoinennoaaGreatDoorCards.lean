/-
  DERIVED. GIVEN WITH THE SEED: THE CARDS: each row of YtncpbkoinennoaaGreatDoorRows.lean that lists a variable, with what it lists TIED to the program's text (the seventh form; the later family's looks); each row that meets fmt, with fmt's text TOLD by the authors' own Lean function (tested against real Go, not proved from fmt's source: count such statements apart). THE CARD IS WHAT COUNTS. Prove the row's statement (the work); the ties are given (YtncpbkoinennoaaGreatDoorTie.lean); close each card by the builder's one call (the guide's Derived/Test/ToyasCard.lean, 'card_holds'). Laid BY PROGRAM, IN A SANDBOX (cutbox-door.mjs). By AI agents, Wed Nov 11 2026. No macro, syntax, notation, axiom, sorry.
-/
import Derived.Test.YtncpbkoinennoaaGreatDoorRows
import GoSem.ClaimSeven
namespace Go.Proofs.YtncpbkoinennoaaGreatDoor
namespace Rows

/-- THE TIED CARD OF 'syngraphtop.TopKeys'. -/
def topKeysCard : Claim7 := { stood := { row := topKeysRow, standIns := [], harness := (true, "3cf13e2fb24c6fa86143c39c815b0bd21f8e907b325393358d1bfccb52d06a81"), looks := false }, kinds := [], alts := [], laidByText := true, laidKinds := [.wider, .data, .data, .data, .data, .data], laidTests := true, laidLooks := .later }
def TopKeysCardSaid : Prop := Claim7.holds Tryz.pinned (.plain (OpenSpec.ofChange topKeysSpec)) topKeysCard

/-- THE TIED CARD OF 'syngraphtop.TopTells'. -/
def topTellsCard : Claim7 := { stood := { row := topTellsRow, standIns := [], harness := (true, "3cf13e2fb24c6fa86143c39c815b0bd21f8e907b325393358d1bfccb52d06a81"), looks := false }, kinds := [], alts := [], laidByText := true, laidKinds := [.wider, .data, .data, .data, .data, .data], laidTests := true, laidLooks := .later }
def TopTellsCardSaid : Prop := Claim7.holds Tryz.pinned (.plain (OpenSpec.ofChange topTellsSpec)) topTellsCard

/-- THE SECOND FORM's CARD OF 'syngraphtop.TopKeys'. -/
def topKeysUptoCard : Claim7 := { stood := { row := topKeysUptoRow, standIns := [], harness := (true, "3cf13e2fb24c6fa86143c39c815b0bd21f8e907b325393358d1bfccb52d06a81"), looks := false }, kinds := [], alts := [], laidByText := true, laidKinds := [.wider, .data, .data, .data, .data, .data], laidTests := true, laidLooks := .later }
def TopKeysUptoCardSaid : Prop := Claim7.holds Tryz.pinned (.plain (OpenSpec.upto topKeysSpec)) topKeysUptoCard

/-- THE SECOND FORM's CARD OF 'syngraphtop.TopTells'. -/
def topTellsUptoCard : Claim7 := { stood := { row := topTellsUptoRow, standIns := [], harness := (true, "3cf13e2fb24c6fa86143c39c815b0bd21f8e907b325393358d1bfccb52d06a81"), looks := false }, kinds := [], alts := [], laidByText := true, laidKinds := [.wider, .data, .data, .data, .data, .data], laidTests := true, laidLooks := .later }
def TopTellsUptoCardSaid : Prop := Claim7.holds Tryz.pinned (.plain (OpenSpec.upto topTellsSpec)) topTellsUptoCard
end Rows
end Go.Proofs.YtncpbkoinennoaaGreatDoor
