/-
  DERIVED. GIVEN WITH THE SEED: THE CARDS: each row of YtjkipndhdemnoaaGreatDoorRows.lean that lists a variable, with what it lists TIED to the program's text (the seventh form; the later family's looks); each row that meets fmt, with fmt's text TOLD by the authors' own Lean function (tested against real Go, not proved from fmt's source: count such statements apart). THE CARD IS WHAT COUNTS. Prove the row's statement (the work); the ties are given (YtjkipndhdemnoaaGreatDoorTie.lean); close each card by the builder's one call (the guide's Derived/Test/ToyasCard.lean, 'card_holds'). Laid BY PROGRAM, IN A SANDBOX (cutbox-door.mjs). By AI agents, Wed Nov 11 2026. No macro, syntax, notation, axiom, sorry.
-/
import Derived.Test.YtjkipndhdemnoaaGreatDoorRows
import GoSem.ClaimSeven
namespace Go.Proofs.YtjkipndhdemnoaaGreatDoor
namespace Rows

/-- THE TIED CARD OF 'laws.FnExactRecoverPlan'. -/
def fnExactRecoverPlanCard : Claim7 := { stood := { row := fnExactRecoverPlanRow, standIns := [], harness := (true, "6fd06a86a97c8f3340bacf4a0bfbfea93627353f16ee07634d3031219a53fea5"), looks := true }, kinds := [], alts := [], laidByText := true, laidKinds := [.data, .data, .data, .data, .pinned], laidTests := true, laidLooks := .later }
def FnExactRecoverPlanCardSaid : Prop := Claim7.holds Tryz.pinned (.plain (OpenSpec.ofChange fnExactRecoverPlanSpec)) fnExactRecoverPlanCard

/-- THE TIED CARD OF 'laws.FnExactLoadStack'. -/
def fnExactLoadStackCard : Claim7 := { stood := { row := fnExactLoadStackRow, standIns := [], harness := (true, "6fd06a86a97c8f3340bacf4a0bfbfea93627353f16ee07634d3031219a53fea5"), looks := true }, kinds := [], alts := [], laidByText := true, laidKinds := [.data, .data, .data, .data, .pinned], laidTests := true, laidLooks := .later }
def FnExactLoadStackCardSaid : Prop := Claim7.holds Tryz.pinned (.plain (OpenSpec.ofChange fnExactLoadStackSpec)) fnExactLoadStackCard

/-- THE TIED CARD OF 'laws.FnExactLookUp'. -/
def fnExactLookUpCard : Claim7 := { stood := { row := fnExactLookUpRow, standIns := [], harness := (true, "6fd06a86a97c8f3340bacf4a0bfbfea93627353f16ee07634d3031219a53fea5"), looks := true }, kinds := [], alts := [], laidByText := true, laidKinds := [.data, .pinned], laidTests := true, laidLooks := .later }
def FnExactLookUpCardSaid : Prop := Claim7.holds Tryz.pinned (.plain (OpenSpec.ofChange fnExactLookUpSpec)) fnExactLookUpCard

/-- THE TIED CARD OF 'laws.FnExactLayerOf'. -/
def fnExactLayerOfCard : Claim7 := { stood := { row := fnExactLayerOfRow, standIns := [], harness := (true, "6fd06a86a97c8f3340bacf4a0bfbfea93627353f16ee07634d3031219a53fea5"), looks := true }, kinds := [], alts := [], laidByText := true, laidKinds := [.data, .pinned], laidTests := true, laidLooks := .later }
def FnExactLayerOfCardSaid : Prop := Claim7.holds Tryz.pinned (.plain (OpenSpec.ofChange fnExactLayerOfSpec)) fnExactLayerOfCard

/-- THE TIED CARD OF 'laws.FnExactReadFile'. -/
def fnExactReadFileCard : Claim7 := { stood := { row := fnExactReadFileRow, standIns := [], harness := (true, "6fd06a86a97c8f3340bacf4a0bfbfea93627353f16ee07634d3031219a53fea5"), looks := true }, kinds := [], alts := [], laidByText := true, laidKinds := [.data, .pinned], laidTests := true, laidLooks := .later }
def FnExactReadFileCardSaid : Prop := Claim7.holds Tryz.pinned (.plain (OpenSpec.ofChange fnExactReadFileSpec)) fnExactReadFileCard

/-- THE TIED CARD OF 'laws.FnExactReadLink'. -/
def fnExactReadLinkCard : Claim7 := { stood := { row := fnExactReadLinkRow, standIns := [], harness := (true, "6fd06a86a97c8f3340bacf4a0bfbfea93627353f16ee07634d3031219a53fea5"), looks := true }, kinds := [], alts := [], laidByText := true, laidKinds := [.data, .pinned], laidTests := true, laidLooks := .later }
def FnExactReadLinkCardSaid : Prop := Claim7.holds Tryz.pinned (.plain (OpenSpec.ofChange fnExactReadLinkSpec)) fnExactReadLinkCard

/-- THE SECOND FORM's CARD OF 'laws.FnExactRecoverPlan'. -/
def fnExactRecoverPlanUptoCard : Claim7 := { stood := { row := fnExactRecoverPlanUptoRow, standIns := [], harness := (true, "6fd06a86a97c8f3340bacf4a0bfbfea93627353f16ee07634d3031219a53fea5"), looks := true }, kinds := [], alts := [], laidByText := true, laidKinds := [.data, .data, .data, .data, .pinned], laidTests := true, laidLooks := .later }
def FnExactRecoverPlanUptoCardSaid : Prop := Claim7.holds Tryz.pinned (.plain (OpenSpec.upto fnExactRecoverPlanSpec)) fnExactRecoverPlanUptoCard

/-- THE SECOND FORM's CARD OF 'laws.FnExactLoadStack'. -/
def fnExactLoadStackUptoCard : Claim7 := { stood := { row := fnExactLoadStackUptoRow, standIns := [], harness := (true, "6fd06a86a97c8f3340bacf4a0bfbfea93627353f16ee07634d3031219a53fea5"), looks := true }, kinds := [], alts := [], laidByText := true, laidKinds := [.data, .data, .data, .data, .pinned], laidTests := true, laidLooks := .later }
def FnExactLoadStackUptoCardSaid : Prop := Claim7.holds Tryz.pinned (.plain (OpenSpec.upto fnExactLoadStackSpec)) fnExactLoadStackUptoCard

/-- THE SECOND FORM's CARD OF 'laws.FnExactLookUp'. -/
def fnExactLookUpUptoCard : Claim7 := { stood := { row := fnExactLookUpUptoRow, standIns := [], harness := (true, "6fd06a86a97c8f3340bacf4a0bfbfea93627353f16ee07634d3031219a53fea5"), looks := true }, kinds := [], alts := [], laidByText := true, laidKinds := [.data, .pinned], laidTests := true, laidLooks := .later }
def FnExactLookUpUptoCardSaid : Prop := Claim7.holds Tryz.pinned (.plain (OpenSpec.upto fnExactLookUpSpec)) fnExactLookUpUptoCard

/-- THE SECOND FORM's CARD OF 'laws.FnExactLayerOf'. -/
def fnExactLayerOfUptoCard : Claim7 := { stood := { row := fnExactLayerOfUptoRow, standIns := [], harness := (true, "6fd06a86a97c8f3340bacf4a0bfbfea93627353f16ee07634d3031219a53fea5"), looks := true }, kinds := [], alts := [], laidByText := true, laidKinds := [.data, .pinned], laidTests := true, laidLooks := .later }
def FnExactLayerOfUptoCardSaid : Prop := Claim7.holds Tryz.pinned (.plain (OpenSpec.upto fnExactLayerOfSpec)) fnExactLayerOfUptoCard

/-- THE SECOND FORM's CARD OF 'laws.FnExactReadFile'. -/
def fnExactReadFileUptoCard : Claim7 := { stood := { row := fnExactReadFileUptoRow, standIns := [], harness := (true, "6fd06a86a97c8f3340bacf4a0bfbfea93627353f16ee07634d3031219a53fea5"), looks := true }, kinds := [], alts := [], laidByText := true, laidKinds := [.data, .pinned], laidTests := true, laidLooks := .later }
def FnExactReadFileUptoCardSaid : Prop := Claim7.holds Tryz.pinned (.plain (OpenSpec.upto fnExactReadFileSpec)) fnExactReadFileUptoCard

/-- THE SECOND FORM's CARD OF 'laws.FnExactReadLink'. -/
def fnExactReadLinkUptoCard : Claim7 := { stood := { row := fnExactReadLinkUptoRow, standIns := [], harness := (true, "6fd06a86a97c8f3340bacf4a0bfbfea93627353f16ee07634d3031219a53fea5"), looks := true }, kinds := [], alts := [], laidByText := true, laidKinds := [.data, .pinned], laidTests := true, laidLooks := .later }
def FnExactReadLinkUptoCardSaid : Prop := Claim7.holds Tryz.pinned (.plain (OpenSpec.upto fnExactReadLinkSpec)) fnExactReadLinkUptoCard
end Rows
end Go.Proofs.YtjkipndhdemnoaaGreatDoor
