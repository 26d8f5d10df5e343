/-
  DERIVED. GIVEN WITH THE SEED: THE CARDS: each row of YtkdajlhmodmkoaaDoorRows.lean that lists a variable, with what it lists TIED to the program's text (the seventh form; the later family's looks); each row that meets fmt, with fmt's text TOLD by the authors' own Lean function (tested against real Go, not proved from fmt's source: count such statements apart). THE CARD IS WHAT COUNTS. Prove the row's statement (the work); the ties are given (YtkdajlhmodmkoaaDoorTie.lean); close each card by the builder's one call (the guide's Derived/Test/ToyasCard.lean, 'card_holds'). Laid BY PROGRAM, IN A SANDBOX (cutbox-door.mjs). By AI agents, Wed Nov 11 2026. No macro, syntax, notation, axiom, sorry.
-/
import Derived.Test.YtkdajlhmodmkoaaDoorRows
import GoSem.ClaimSeven
namespace Go.Proofs.YtkdajlhmodmkoaaDoor
namespace Rows

/-- THE TIED CARD OF 'syngraphlaw02.ShaSums'. -/
def shaSumsCard : Claim7 := { stood := { row := shaSumsRow, standIns := [], harness := (true, "fb73b3ce1bbbafe02b11caae122fc40446d7dd5c3c4238f86c15d5e1f0bccc28"), looks := false }, kinds := [], alts := [], laidByText := true, laidKinds := [.data, .data], laidTests := true, laidLooks := .later }
def ShaSumsCardSaid : Prop := Claim7.holds Tryd.pinned (.plain (OpenSpec.ofChange shaSumsSpec)) shaSumsCard

/-- THE TIED CARD OF 'syngraphlaw02.ShaNodes'. -/
def shaNodesCard : Claim7 := { stood := { row := shaNodesRow, standIns := [], harness := (true, "fb73b3ce1bbbafe02b11caae122fc40446d7dd5c3c4238f86c15d5e1f0bccc28"), looks := false }, kinds := [], alts := [], laidByText := true, laidKinds := [.data, .data], laidTests := true, laidLooks := .later }
def ShaNodesCardSaid : Prop := Claim7.holds Tryd.pinned (.plain (OpenSpec.ofChange shaNodesSpec)) shaNodesCard

/-- THE TIED CARD OF 'syngraphlaw02.ShaParts'. -/
def shaPartsCard : Claim7 := { stood := { row := shaPartsRow, standIns := [], harness := (true, "fb73b3ce1bbbafe02b11caae122fc40446d7dd5c3c4238f86c15d5e1f0bccc28"), looks := false }, kinds := [], alts := [], laidByText := true, laidKinds := [.data, .data], laidTests := true, laidLooks := .later }
def ShaPartsCardSaid : Prop := Claim7.holds Tryd.pinned (.plain (OpenSpec.ofChange shaPartsSpec)) shaPartsCard

/-- THE TIED CARD OF 'syngraphlaw02.ShaHex'. -/
def shaHexCard : Claim7 := { stood := { row := shaHexRow, standIns := [], harness := (true, "fb73b3ce1bbbafe02b11caae122fc40446d7dd5c3c4238f86c15d5e1f0bccc28"), looks := false }, kinds := [], alts := [], laidByText := true, laidKinds := [.data, .data], laidTests := true, laidLooks := .later }
def ShaHexCardSaid : Prop := Claim7.holds Tryd.pinned (.plain (OpenSpec.ofChange shaHexSpec)) shaHexCard

/-- THE TIED CARD OF 'syngraphlaw02.ShaLong'. -/
def shaLongCard : Claim7 := { stood := { row := shaLongRow, standIns := [], harness := (true, "fb73b3ce1bbbafe02b11caae122fc40446d7dd5c3c4238f86c15d5e1f0bccc28"), looks := false }, kinds := [], alts := [], laidByText := true, laidKinds := [.data, .data], laidTests := true, laidLooks := .later }
def ShaLongCardSaid : Prop := Claim7.holds Tryd.pinned (.plain (OpenSpec.ofChange shaLongSpec)) shaLongCard

/-- THE TIED CARD OF 'syngraphlaw02.ShaRuns'. -/
def shaRunsCard : Claim7 := { stood := { row := shaRunsRow, standIns := [], harness := (true, "fb73b3ce1bbbafe02b11caae122fc40446d7dd5c3c4238f86c15d5e1f0bccc28"), looks := false }, kinds := [], alts := [], laidByText := true, laidKinds := [.data, .data], laidTests := true, laidLooks := .later }
def ShaRunsCardSaid : Prop := Claim7.holds Tryd.pinned (.plain (OpenSpec.ofChange shaRunsSpec)) shaRunsCard

/-- THE TIED CARD OF 'syngraphlaw08.TreeRoots'. -/
def treeRootsCard : Claim7 := { stood := { row := treeRootsRow, standIns := [], harness := (true, "fb73b3ce1bbbafe02b11caae122fc40446d7dd5c3c4238f86c15d5e1f0bccc28"), looks := false }, kinds := [], alts := [], laidByText := true, laidKinds := [.data, .data, .data], laidTests := true, laidLooks := .later }
def TreeRootsCardSaid : Prop := Claim7.holds Tryd.pinned (.plain (OpenSpec.ofChange treeRootsSpec)) treeRootsCard

/-- THE TIED CARD OF 'syngraphlaw08.TreeRanges'. -/
def treeRangesCard : Claim7 := { stood := { row := treeRangesRow, standIns := [], harness := (true, "fb73b3ce1bbbafe02b11caae122fc40446d7dd5c3c4238f86c15d5e1f0bccc28"), looks := false }, kinds := [], alts := [], laidByText := true, laidKinds := [.data, .data, .data], laidTests := true, laidLooks := .later }
def TreeRangesCardSaid : Prop := Claim7.holds Tryd.pinned (.plain (OpenSpec.ofChange treeRangesSpec)) treeRangesCard

/-- THE TIED CARD OF 'syngraphlaw08.TreeTops'. -/
def treeTopsCard : Claim7 := { stood := { row := treeTopsRow, standIns := [], harness := (true, "fb73b3ce1bbbafe02b11caae122fc40446d7dd5c3c4238f86c15d5e1f0bccc28"), looks := false }, kinds := [], alts := [], laidByText := true, laidKinds := [.data, .data, .data], laidTests := true, laidLooks := .later }
def TreeTopsCardSaid : Prop := Claim7.holds Tryd.pinned (.plain (OpenSpec.ofChange treeTopsSpec)) treeTopsCard

/-- THE TIED CARD OF 'syngraphlaw08.TreeParts'. -/
def treePartsCard : Claim7 := { stood := { row := treePartsRow, standIns := [], harness := (true, "fb73b3ce1bbbafe02b11caae122fc40446d7dd5c3c4238f86c15d5e1f0bccc28"), looks := false }, kinds := [], alts := [], laidByText := true, laidKinds := [.data, .data, .data], laidTests := true, laidLooks := .later }
def TreePartsCardSaid : Prop := Claim7.holds Tryd.pinned (.plain (OpenSpec.ofChange treePartsSpec)) treePartsCard

/-- THE TIED CARD OF 'syngraphlaw08.TreeKeeps'. -/
def treeKeepsCard : Claim7 := { stood := { row := treeKeepsRow, standIns := [], harness := (true, "fb73b3ce1bbbafe02b11caae122fc40446d7dd5c3c4238f86c15d5e1f0bccc28"), looks := false }, kinds := [], alts := [], laidByText := true, laidKinds := [.data, .data, .data], laidTests := true, laidLooks := .later }
def TreeKeepsCardSaid : Prop := Claim7.holds Tryd.pinned (.plain (OpenSpec.ofChange treeKeepsSpec)) treeKeepsCard

/-- THE TIED CARD OF 'syngraphlaw08.TreePeaks'. -/
def treePeaksCard : Claim7 := { stood := { row := treePeaksRow, standIns := [], harness := (true, "fb73b3ce1bbbafe02b11caae122fc40446d7dd5c3c4238f86c15d5e1f0bccc28"), looks := false }, kinds := [], alts := [], laidByText := true, laidKinds := [.data, .data, .data], laidTests := true, laidLooks := .later }
def TreePeaksCardSaid : Prop := Claim7.holds Tryd.pinned (.plain (OpenSpec.ofChange treePeaksSpec)) treePeaksCard

/-- THE TIED CARD OF 'syngraphlaw09.ProofTells'. -/
def proofTellsCard : Claim7 := { stood := { row := proofTellsRow, standIns := [], harness := (true, "fb73b3ce1bbbafe02b11caae122fc40446d7dd5c3c4238f86c15d5e1f0bccc28"), looks := false }, kinds := [], alts := [], laidByText := true, laidKinds := [.data, .data], laidTests := true, laidLooks := .later }
def ProofTellsCardSaid : Prop := Claim7.holds Tryd.pinned (.plain (OpenSpec.ofChange proofTellsSpec)) proofTellsCard

/-- THE TIED CARD OF 'syngraphlaw09.ProofAudits'. -/
def proofAuditsCard : Claim7 := { stood := { row := proofAuditsRow, standIns := [], harness := (true, "fb73b3ce1bbbafe02b11caae122fc40446d7dd5c3c4238f86c15d5e1f0bccc28"), looks := false }, kinds := [], alts := [], laidByText := true, laidKinds := [.data, .data], laidTests := true, laidLooks := .later }
def ProofAuditsCardSaid : Prop := Claim7.holds Tryd.pinned (.plain (OpenSpec.ofChange proofAuditsSpec)) proofAuditsCard

/-- THE TIED CARD OF 'syngraphlaw09.ProofBridges'. -/
def proofBridgesCard : Claim7 := { stood := { row := proofBridgesRow, standIns := [], harness := (true, "fb73b3ce1bbbafe02b11caae122fc40446d7dd5c3c4238f86c15d5e1f0bccc28"), looks := false }, kinds := [], alts := [], laidByText := true, laidKinds := [.data, .data], laidTests := true, laidLooks := .later }
def ProofBridgesCardSaid : Prop := Claim7.holds Tryd.pinned (.plain (OpenSpec.ofChange proofBridgesSpec)) proofBridgesCard

/-- THE TIED CARD OF 'syngraphlaw09.ProofPaths'. -/
def proofPathsCard : Claim7 := { stood := { row := proofPathsRow, standIns := [], harness := (true, "fb73b3ce1bbbafe02b11caae122fc40446d7dd5c3c4238f86c15d5e1f0bccc28"), looks := false }, kinds := [], alts := [], laidByText := true, laidKinds := [.data, .data], laidTests := true, laidLooks := .later }
def ProofPathsCardSaid : Prop := Claim7.holds Tryd.pinned (.plain (OpenSpec.ofChange proofPathsSpec)) proofPathsCard

/-- THE TIED CARD OF 'syngraphlaw09.ProofClash'. -/
def proofClashCard : Claim7 := { stood := { row := proofClashRow, standIns := [], harness := (true, "fb73b3ce1bbbafe02b11caae122fc40446d7dd5c3c4238f86c15d5e1f0bccc28"), looks := false }, kinds := [], alts := [], laidByText := true, laidKinds := [.data, .data], laidTests := true, laidLooks := .later }
def ProofClashCardSaid : Prop := Claim7.holds Tryd.pinned (.plain (OpenSpec.ofChange proofClashSpec)) proofClashCard

/-- THE TIED CARD OF 'syngraphlaw09.ProofSound'. -/
def proofSoundCard : Claim7 := { stood := { row := proofSoundRow, standIns := [], harness := (true, "fb73b3ce1bbbafe02b11caae122fc40446d7dd5c3c4238f86c15d5e1f0bccc28"), looks := false }, kinds := [], alts := [], laidByText := true, laidKinds := [.data, .data], laidTests := true, laidLooks := .later }
def ProofSoundCardSaid : Prop := Claim7.holds Tryd.pinned (.plain (OpenSpec.ofChange proofSoundSpec)) proofSoundCard

/-- THE TIED CARD OF 'syngraphlaw09.ProofLong'. -/
def proofLongCard : Claim7 := { stood := { row := proofLongRow, standIns := [], harness := (true, "fb73b3ce1bbbafe02b11caae122fc40446d7dd5c3c4238f86c15d5e1f0bccc28"), looks := false }, kinds := [], alts := [], laidByText := true, laidKinds := [.data, .data], laidTests := true, laidLooks := .later }
def ProofLongCardSaid : Prop := Claim7.holds Tryd.pinned (.plain (OpenSpec.ofChange proofLongSpec)) proofLongCard

/-- THE SECOND FORM's CARD OF 'syngraphlaw02.ShaSums'. -/
def shaSumsUptoCard : Claim7 := { stood := { row := shaSumsUptoRow, standIns := [], harness := (true, "fb73b3ce1bbbafe02b11caae122fc40446d7dd5c3c4238f86c15d5e1f0bccc28"), looks := false }, kinds := [], alts := [], laidByText := true, laidKinds := [.data, .data], laidTests := true, laidLooks := .later }
def ShaSumsUptoCardSaid : Prop := Claim7.holds Tryd.pinned (.plain (OpenSpec.upto shaSumsSpec)) shaSumsUptoCard

/-- THE SECOND FORM's CARD OF 'syngraphlaw02.ShaNodes'. -/
def shaNodesUptoCard : Claim7 := { stood := { row := shaNodesUptoRow, standIns := [], harness := (true, "fb73b3ce1bbbafe02b11caae122fc40446d7dd5c3c4238f86c15d5e1f0bccc28"), looks := false }, kinds := [], alts := [], laidByText := true, laidKinds := [.data, .data], laidTests := true, laidLooks := .later }
def ShaNodesUptoCardSaid : Prop := Claim7.holds Tryd.pinned (.plain (OpenSpec.upto shaNodesSpec)) shaNodesUptoCard

/-- THE SECOND FORM's CARD OF 'syngraphlaw02.ShaParts'. -/
def shaPartsUptoCard : Claim7 := { stood := { row := shaPartsUptoRow, standIns := [], harness := (true, "fb73b3ce1bbbafe02b11caae122fc40446d7dd5c3c4238f86c15d5e1f0bccc28"), looks := false }, kinds := [], alts := [], laidByText := true, laidKinds := [.data, .data], laidTests := true, laidLooks := .later }
def ShaPartsUptoCardSaid : Prop := Claim7.holds Tryd.pinned (.plain (OpenSpec.upto shaPartsSpec)) shaPartsUptoCard

/-- THE SECOND FORM's CARD OF 'syngraphlaw02.ShaHex'. -/
def shaHexUptoCard : Claim7 := { stood := { row := shaHexUptoRow, standIns := [], harness := (true, "fb73b3ce1bbbafe02b11caae122fc40446d7dd5c3c4238f86c15d5e1f0bccc28"), looks := false }, kinds := [], alts := [], laidByText := true, laidKinds := [.data, .data], laidTests := true, laidLooks := .later }
def ShaHexUptoCardSaid : Prop := Claim7.holds Tryd.pinned (.plain (OpenSpec.upto shaHexSpec)) shaHexUptoCard

/-- THE SECOND FORM's CARD OF 'syngraphlaw02.ShaLong'. -/
def shaLongUptoCard : Claim7 := { stood := { row := shaLongUptoRow, standIns := [], harness := (true, "fb73b3ce1bbbafe02b11caae122fc40446d7dd5c3c4238f86c15d5e1f0bccc28"), looks := false }, kinds := [], alts := [], laidByText := true, laidKinds := [.data, .data], laidTests := true, laidLooks := .later }
def ShaLongUptoCardSaid : Prop := Claim7.holds Tryd.pinned (.plain (OpenSpec.upto shaLongSpec)) shaLongUptoCard

/-- THE SECOND FORM's CARD OF 'syngraphlaw02.ShaRuns'. -/
def shaRunsUptoCard : Claim7 := { stood := { row := shaRunsUptoRow, standIns := [], harness := (true, "fb73b3ce1bbbafe02b11caae122fc40446d7dd5c3c4238f86c15d5e1f0bccc28"), looks := false }, kinds := [], alts := [], laidByText := true, laidKinds := [.data, .data], laidTests := true, laidLooks := .later }
def ShaRunsUptoCardSaid : Prop := Claim7.holds Tryd.pinned (.plain (OpenSpec.upto shaRunsSpec)) shaRunsUptoCard

/-- THE SECOND FORM's CARD OF 'syngraphlaw08.TreeRoots'. -/
def treeRootsUptoCard : Claim7 := { stood := { row := treeRootsUptoRow, standIns := [], harness := (true, "fb73b3ce1bbbafe02b11caae122fc40446d7dd5c3c4238f86c15d5e1f0bccc28"), looks := false }, kinds := [], alts := [], laidByText := true, laidKinds := [.data, .data, .data], laidTests := true, laidLooks := .later }
def TreeRootsUptoCardSaid : Prop := Claim7.holds Tryd.pinned (.plain (OpenSpec.upto treeRootsSpec)) treeRootsUptoCard

/-- THE SECOND FORM's CARD OF 'syngraphlaw08.TreeRanges'. -/
def treeRangesUptoCard : Claim7 := { stood := { row := treeRangesUptoRow, standIns := [], harness := (true, "fb73b3ce1bbbafe02b11caae122fc40446d7dd5c3c4238f86c15d5e1f0bccc28"), looks := false }, kinds := [], alts := [], laidByText := true, laidKinds := [.data, .data, .data], laidTests := true, laidLooks := .later }
def TreeRangesUptoCardSaid : Prop := Claim7.holds Tryd.pinned (.plain (OpenSpec.upto treeRangesSpec)) treeRangesUptoCard

/-- THE SECOND FORM's CARD OF 'syngraphlaw08.TreeTops'. -/
def treeTopsUptoCard : Claim7 := { stood := { row := treeTopsUptoRow, standIns := [], harness := (true, "fb73b3ce1bbbafe02b11caae122fc40446d7dd5c3c4238f86c15d5e1f0bccc28"), looks := false }, kinds := [], alts := [], laidByText := true, laidKinds := [.data, .data, .data], laidTests := true, laidLooks := .later }
def TreeTopsUptoCardSaid : Prop := Claim7.holds Tryd.pinned (.plain (OpenSpec.upto treeTopsSpec)) treeTopsUptoCard

/-- THE SECOND FORM's CARD OF 'syngraphlaw08.TreeParts'. -/
def treePartsUptoCard : Claim7 := { stood := { row := treePartsUptoRow, standIns := [], harness := (true, "fb73b3ce1bbbafe02b11caae122fc40446d7dd5c3c4238f86c15d5e1f0bccc28"), looks := false }, kinds := [], alts := [], laidByText := true, laidKinds := [.data, .data, .data], laidTests := true, laidLooks := .later }
def TreePartsUptoCardSaid : Prop := Claim7.holds Tryd.pinned (.plain (OpenSpec.upto treePartsSpec)) treePartsUptoCard

/-- THE SECOND FORM's CARD OF 'syngraphlaw08.TreeKeeps'. -/
def treeKeepsUptoCard : Claim7 := { stood := { row := treeKeepsUptoRow, standIns := [], harness := (true, "fb73b3ce1bbbafe02b11caae122fc40446d7dd5c3c4238f86c15d5e1f0bccc28"), looks := false }, kinds := [], alts := [], laidByText := true, laidKinds := [.data, .data, .data], laidTests := true, laidLooks := .later }
def TreeKeepsUptoCardSaid : Prop := Claim7.holds Tryd.pinned (.plain (OpenSpec.upto treeKeepsSpec)) treeKeepsUptoCard

/-- THE SECOND FORM's CARD OF 'syngraphlaw08.TreePeaks'. -/
def treePeaksUptoCard : Claim7 := { stood := { row := treePeaksUptoRow, standIns := [], harness := (true, "fb73b3ce1bbbafe02b11caae122fc40446d7dd5c3c4238f86c15d5e1f0bccc28"), looks := false }, kinds := [], alts := [], laidByText := true, laidKinds := [.data, .data, .data], laidTests := true, laidLooks := .later }
def TreePeaksUptoCardSaid : Prop := Claim7.holds Tryd.pinned (.plain (OpenSpec.upto treePeaksSpec)) treePeaksUptoCard

/-- THE SECOND FORM's CARD OF 'syngraphlaw09.ProofTells'. -/
def proofTellsUptoCard : Claim7 := { stood := { row := proofTellsUptoRow, standIns := [], harness := (true, "fb73b3ce1bbbafe02b11caae122fc40446d7dd5c3c4238f86c15d5e1f0bccc28"), looks := false }, kinds := [], alts := [], laidByText := true, laidKinds := [.data, .data], laidTests := true, laidLooks := .later }
def ProofTellsUptoCardSaid : Prop := Claim7.holds Tryd.pinned (.plain (OpenSpec.upto proofTellsSpec)) proofTellsUptoCard

/-- THE SECOND FORM's CARD OF 'syngraphlaw09.ProofAudits'. -/
def proofAuditsUptoCard : Claim7 := { stood := { row := proofAuditsUptoRow, standIns := [], harness := (true, "fb73b3ce1bbbafe02b11caae122fc40446d7dd5c3c4238f86c15d5e1f0bccc28"), looks := false }, kinds := [], alts := [], laidByText := true, laidKinds := [.data, .data], laidTests := true, laidLooks := .later }
def ProofAuditsUptoCardSaid : Prop := Claim7.holds Tryd.pinned (.plain (OpenSpec.upto proofAuditsSpec)) proofAuditsUptoCard

/-- THE SECOND FORM's CARD OF 'syngraphlaw09.ProofBridges'. -/
def proofBridgesUptoCard : Claim7 := { stood := { row := proofBridgesUptoRow, standIns := [], harness := (true, "fb73b3ce1bbbafe02b11caae122fc40446d7dd5c3c4238f86c15d5e1f0bccc28"), looks := false }, kinds := [], alts := [], laidByText := true, laidKinds := [.data, .data], laidTests := true, laidLooks := .later }
def ProofBridgesUptoCardSaid : Prop := Claim7.holds Tryd.pinned (.plain (OpenSpec.upto proofBridgesSpec)) proofBridgesUptoCard

/-- THE SECOND FORM's CARD OF 'syngraphlaw09.ProofPaths'. -/
def proofPathsUptoCard : Claim7 := { stood := { row := proofPathsUptoRow, standIns := [], harness := (true, "fb73b3ce1bbbafe02b11caae122fc40446d7dd5c3c4238f86c15d5e1f0bccc28"), looks := false }, kinds := [], alts := [], laidByText := true, laidKinds := [.data, .data], laidTests := true, laidLooks := .later }
def ProofPathsUptoCardSaid : Prop := Claim7.holds Tryd.pinned (.plain (OpenSpec.upto proofPathsSpec)) proofPathsUptoCard

/-- THE SECOND FORM's CARD OF 'syngraphlaw09.ProofClash'. -/
def proofClashUptoCard : Claim7 := { stood := { row := proofClashUptoRow, standIns := [], harness := (true, "fb73b3ce1bbbafe02b11caae122fc40446d7dd5c3c4238f86c15d5e1f0bccc28"), looks := false }, kinds := [], alts := [], laidByText := true, laidKinds := [.data, .data], laidTests := true, laidLooks := .later }
def ProofClashUptoCardSaid : Prop := Claim7.holds Tryd.pinned (.plain (OpenSpec.upto proofClashSpec)) proofClashUptoCard

/-- THE SECOND FORM's CARD OF 'syngraphlaw09.ProofSound'. -/
def proofSoundUptoCard : Claim7 := { stood := { row := proofSoundUptoRow, standIns := [], harness := (true, "fb73b3ce1bbbafe02b11caae122fc40446d7dd5c3c4238f86c15d5e1f0bccc28"), looks := false }, kinds := [], alts := [], laidByText := true, laidKinds := [.data, .data], laidTests := true, laidLooks := .later }
def ProofSoundUptoCardSaid : Prop := Claim7.holds Tryd.pinned (.plain (OpenSpec.upto proofSoundSpec)) proofSoundUptoCard

/-- THE SECOND FORM's CARD OF 'syngraphlaw09.ProofLong'. -/
def proofLongUptoCard : Claim7 := { stood := { row := proofLongUptoRow, standIns := [], harness := (true, "fb73b3ce1bbbafe02b11caae122fc40446d7dd5c3c4238f86c15d5e1f0bccc28"), looks := false }, kinds := [], alts := [], laidByText := true, laidKinds := [.data, .data], laidTests := true, laidLooks := .later }
def ProofLongUptoCardSaid : Prop := Claim7.holds Tryd.pinned (.plain (OpenSpec.upto proofLongSpec)) proofLongUptoCard
end Rows
end Go.Proofs.YtkdajlhmodmkoaaDoor
