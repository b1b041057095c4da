/-
  DERIVED. GIVEN WITH THE SEED: THE CARDS: each row of YtkdnelaoagmeaaaGreatDoorRows.lean that lists a variable, with what it lists TIED to the program's text (the seventh form; the later family's looks); each row that meets fmt, with fmt's text TOLD by the authors' own Lean function (tested against real Go, not proved from fmt's source: count such statements apart). THE CARD IS WHAT COUNTS. Prove the row's statement (the work); the ties are given (YtkdnelaoagmeaaaGreatDoorTie.lean); close each card by the builder's one call (the guide's Derived/Test/ToyasCard.lean, 'card_holds'). Laid BY PROGRAM, IN A SANDBOX (cutbox-door.mjs). By AI agents, Wed Nov 11 2026. No macro, syntax, notation, axiom, sorry.
-/
import Derived.Test.YtkdnelaoagmeaaaGreatDoorRows
import GoSem.ClaimSeven
namespace Go.Proofs.YtkdnelaoagmeaaaGreatDoor
namespace Rows

/-- THE TIED CARD OF 'laws.FnExactRecover'. -/
def fnExactRecoverCard : Claim7 := { stood := { row := fnExactRecoverRow, standIns := [], harness := (true, "f05837c6ca09b7d56a6bfcf9f01bf52fec710e64481b7f27d3d1e831b88ae5ac"), looks := true }, kinds := [], alts := [], laidByText := true, laidKinds := [.data, .data, .data, .data, .pinned], laidTests := true, laidLooks := .later }
def FnExactRecoverCardSaid : Prop := Claim7.holds Tryz.pinned (.plain (OpenSpec.ofChange fnExactRecoverSpec)) fnExactRecoverCard

/-- THE TIED CARD OF 'laws.FnExactReadLayer'. -/
def fnExactReadLayerCard : Claim7 := { stood := { row := fnExactReadLayerRow, standIns := [], harness := (true, "f05837c6ca09b7d56a6bfcf9f01bf52fec710e64481b7f27d3d1e831b88ae5ac"), looks := true }, kinds := [], alts := [], laidByText := true, laidKinds := [.data, .data, .data, .data, .sentinel, .sentinel, .pinned], laidTests := true, laidLooks := .later }
def FnExactReadLayerCardSaid : Prop := Claim7.holds Tryz.pinned (.plain (OpenSpec.ofChange fnExactReadLayerSpec)) fnExactReadLayerCard

/-- THE TIED CARD OF 'laws.FnExactNewStack'. -/
def fnExactNewStackCard : Claim7 := { stood := { row := fnExactNewStackRow, standIns := [], harness := (true, "f05837c6ca09b7d56a6bfcf9f01bf52fec710e64481b7f27d3d1e831b88ae5ac"), looks := true }, kinds := [], alts := [], laidByText := true, laidKinds := [.data, .data, .data, .data, .pinned], laidTests := true, laidLooks := .later }
def FnExactNewStackCardSaid : Prop := Claim7.holds Tryz.pinned (.plain (OpenSpec.ofChange fnExactNewStackSpec)) fnExactNewStackCard

/-- THE TIED CARD OF 'laws.FnExactLoadStack'. -/
def fnExactLoadStackCard : Claim7 := { stood := { row := fnExactLoadStackRow, standIns := [], harness := (true, "f05837c6ca09b7d56a6bfcf9f01bf52fec710e64481b7f27d3d1e831b88ae5ac"), looks := true }, kinds := [], alts := [], laidByText := true, laidKinds := [.data, .data, .data, .data, .pinned], laidTests := true, laidLooks := .later }
def FnExactLoadStackCardSaid : Prop := Claim7.holds Tryz.pinned (.plain (OpenSpec.ofChange fnExactLoadStackSpec)) fnExactLoadStackCard

/-- THE TIED CARD OF 'laws.FnExactReadDir'. -/
def fnExactReadDirCard : Claim7 := { stood := { row := fnExactReadDirRow, standIns := [], harness := (true, "f05837c6ca09b7d56a6bfcf9f01bf52fec710e64481b7f27d3d1e831b88ae5ac"), looks := true }, kinds := [], alts := [], laidByText := true, laidKinds := [.data, .pinned], laidTests := true, laidLooks := .later }
def FnExactReadDirCardSaid : Prop := Claim7.holds Tryz.pinned (.plain (OpenSpec.ofChange fnExactReadDirSpec)) fnExactReadDirCard

/-- THE TIED CARD OF 'laws.FnExactWalk'. -/
def fnExactWalkCard : Claim7 := { stood := { row := fnExactWalkRow, standIns := [], harness := (true, "f05837c6ca09b7d56a6bfcf9f01bf52fec710e64481b7f27d3d1e831b88ae5ac"), looks := true }, kinds := [], alts := [], laidByText := true, laidKinds := [.data, .pinned], laidTests := true, laidLooks := .later }
def FnExactWalkCardSaid : Prop := Claim7.holds Tryz.pinned (.plain (OpenSpec.ofChange fnExactWalkSpec)) fnExactWalkCard

/-- THE SECOND FORM's CARD OF 'laws.FnExactRecover'. -/
def fnExactRecoverUptoCard : Claim7 := { stood := { row := fnExactRecoverUptoRow, standIns := [], harness := (true, "f05837c6ca09b7d56a6bfcf9f01bf52fec710e64481b7f27d3d1e831b88ae5ac"), looks := true }, kinds := [], alts := [], laidByText := true, laidKinds := [.data, .data, .data, .data, .pinned], laidTests := true, laidLooks := .later }
def FnExactRecoverUptoCardSaid : Prop := Claim7.holds Tryz.pinned (.plain (OpenSpec.upto fnExactRecoverSpec)) fnExactRecoverUptoCard

/-- THE SECOND FORM's CARD OF 'laws.FnExactReadLayer'. -/
def fnExactReadLayerUptoCard : Claim7 := { stood := { row := fnExactReadLayerUptoRow, standIns := [], harness := (true, "f05837c6ca09b7d56a6bfcf9f01bf52fec710e64481b7f27d3d1e831b88ae5ac"), looks := true }, kinds := [], alts := [], laidByText := true, laidKinds := [.data, .data, .data, .data, .sentinel, .sentinel, .pinned], laidTests := true, laidLooks := .later }
def FnExactReadLayerUptoCardSaid : Prop := Claim7.holds Tryz.pinned (.plain (OpenSpec.upto fnExactReadLayerSpec)) fnExactReadLayerUptoCard

/-- THE SECOND FORM's CARD OF 'laws.FnExactNewStack'. -/
def fnExactNewStackUptoCard : Claim7 := { stood := { row := fnExactNewStackUptoRow, standIns := [], harness := (true, "f05837c6ca09b7d56a6bfcf9f01bf52fec710e64481b7f27d3d1e831b88ae5ac"), looks := true }, kinds := [], alts := [], laidByText := true, laidKinds := [.data, .data, .data, .data, .pinned], laidTests := true, laidLooks := .later }
def FnExactNewStackUptoCardSaid : Prop := Claim7.holds Tryz.pinned (.plain (OpenSpec.upto fnExactNewStackSpec)) fnExactNewStackUptoCard

/-- THE SECOND FORM's CARD OF 'laws.FnExactLoadStack'. -/
def fnExactLoadStackUptoCard : Claim7 := { stood := { row := fnExactLoadStackUptoRow, standIns := [], harness := (true, "f05837c6ca09b7d56a6bfcf9f01bf52fec710e64481b7f27d3d1e831b88ae5ac"), looks := true }, kinds := [], alts := [], laidByText := true, laidKinds := [.data, .data, .data, .data, .pinned], laidTests := true, laidLooks := .later }
def FnExactLoadStackUptoCardSaid : Prop := Claim7.holds Tryz.pinned (.plain (OpenSpec.upto fnExactLoadStackSpec)) fnExactLoadStackUptoCard

/-- THE SECOND FORM's CARD OF 'laws.FnExactReadDir'. -/
def fnExactReadDirUptoCard : Claim7 := { stood := { row := fnExactReadDirUptoRow, standIns := [], harness := (true, "f05837c6ca09b7d56a6bfcf9f01bf52fec710e64481b7f27d3d1e831b88ae5ac"), looks := true }, kinds := [], alts := [], laidByText := true, laidKinds := [.data, .pinned], laidTests := true, laidLooks := .later }
def FnExactReadDirUptoCardSaid : Prop := Claim7.holds Tryz.pinned (.plain (OpenSpec.upto fnExactReadDirSpec)) fnExactReadDirUptoCard

/-- THE SECOND FORM's CARD OF 'laws.FnExactWalk'. -/
def fnExactWalkUptoCard : Claim7 := { stood := { row := fnExactWalkUptoRow, standIns := [], harness := (true, "f05837c6ca09b7d56a6bfcf9f01bf52fec710e64481b7f27d3d1e831b88ae5ac"), looks := true }, kinds := [], alts := [], laidByText := true, laidKinds := [.data, .pinned], laidTests := true, laidLooks := .later }
def FnExactWalkUptoCardSaid : Prop := Claim7.holds Tryz.pinned (.plain (OpenSpec.upto fnExactWalkSpec)) fnExactWalkUptoCard
end Rows
end Go.Proofs.YtkdnelaoagmeaaaGreatDoor
