/-
  DERIVED. GIVEN WITH THE SEED: THE CARDS: each row of YtolminmmnckpkaaGreatDoorRows.lean that lists a variable, with what it lists TIED to the program's text (the seventh form; the later family's looks); each row that meets fmt, with fmt's text TOLD by the authors' own Lean function (tested against real Go, not proved from fmt's source: count such statements apart). THE CARD IS WHAT COUNTS. Prove the row's statement (the work); the ties are given (YtolminmmnckpkaaGreatDoorTie.lean); close each card by the builder's one call (the guide's Derived/Test/ToyasCard.lean, 'card_holds'). Laid BY PROGRAM, IN A SANDBOX (cutbox-door.mjs). By AI agents, Wed Nov 11 2026. No macro, syntax, notation, axiom, sorry.
-/
import Derived.Test.YtolminmmnckpkaaGreatDoorRows
import GoSem.ClaimSeven
namespace Go.Proofs.YtolminmmnckpkaaGreatDoor
namespace Rows

/-- THE TIED CARD OF 'laws.FnExactTreeLines'. -/
def fnExactTreeLinesCard : Claim7 := { stood := { row := fnExactTreeLinesRow, standIns := [], harness := (true, "5e584aeced926b509f6680c96f946c49e27dc46331c09a332b73706e34d33572"), looks := true }, kinds := [], alts := [], laidByText := true, laidKinds := [.data, .data, .data, .data, .pinned], laidTests := true, laidLooks := .later }
def FnExactTreeLinesCardSaid : Prop := Claim7.holds Tryz.pinned (.plain (OpenSpec.ofChange fnExactTreeLinesSpec)) fnExactTreeLinesCard

/-- THE TIED CARD OF 'laws.FnExactLayerLines'. -/
def fnExactLayerLinesCard : Claim7 := { stood := { row := fnExactLayerLinesRow, standIns := [], harness := (true, "5e584aeced926b509f6680c96f946c49e27dc46331c09a332b73706e34d33572"), looks := true }, kinds := [], alts := [], laidByText := true, laidKinds := [.data, .data, .data, .data, .pinned], laidTests := true, laidLooks := .later }
def FnExactLayerLinesCardSaid : Prop := Claim7.holds Tryz.pinned (.plain (OpenSpec.ofChange fnExactLayerLinesSpec)) fnExactLayerLinesCard

/-- THE TIED CARD OF 'laws.FnExactDiskLines'. -/
def fnExactDiskLinesCard : Claim7 := { stood := { row := fnExactDiskLinesRow, standIns := [], harness := (true, "5e584aeced926b509f6680c96f946c49e27dc46331c09a332b73706e34d33572"), looks := true }, kinds := [], alts := [], laidByText := true, laidKinds := [.data, .data, .data], laidTests := true, laidLooks := .later }
def FnExactDiskLinesCardSaid : Prop := Claim7.holds Tryz.pinned (.plain (OpenSpec.ofChange fnExactDiskLinesSpec)) fnExactDiskLinesCard

/-- THE TIED CARD OF 'laws.FnExactReadLayer'. -/
def fnExactReadLayerCard : Claim7 := { stood := { row := fnExactReadLayerRow, standIns := [], harness := (true, "5e584aeced926b509f6680c96f946c49e27dc46331c09a332b73706e34d33572"), looks := true }, kinds := [], alts := [], laidByText := true, laidKinds := [.data, .data, .data, .data, .sentinel, .sentinel, .pinned], laidTests := true, laidLooks := .later }
def FnExactReadLayerCardSaid : Prop := Claim7.holds Tryz.pinned (.plain (OpenSpec.ofChange fnExactReadLayerSpec)) fnExactReadLayerCard

/-- THE SECOND FORM's CARD OF 'laws.FnExactTreeLines'. -/
def fnExactTreeLinesUptoCard : Claim7 := { stood := { row := fnExactTreeLinesUptoRow, standIns := [], harness := (true, "5e584aeced926b509f6680c96f946c49e27dc46331c09a332b73706e34d33572"), looks := true }, kinds := [], alts := [], laidByText := true, laidKinds := [.data, .data, .data, .data, .pinned], laidTests := true, laidLooks := .later }
def FnExactTreeLinesUptoCardSaid : Prop := Claim7.holds Tryz.pinned (.plain (OpenSpec.upto fnExactTreeLinesSpec)) fnExactTreeLinesUptoCard

/-- THE SECOND FORM's CARD OF 'laws.FnExactLayerLines'. -/
def fnExactLayerLinesUptoCard : Claim7 := { stood := { row := fnExactLayerLinesUptoRow, standIns := [], harness := (true, "5e584aeced926b509f6680c96f946c49e27dc46331c09a332b73706e34d33572"), looks := true }, kinds := [], alts := [], laidByText := true, laidKinds := [.data, .data, .data, .data, .pinned], laidTests := true, laidLooks := .later }
def FnExactLayerLinesUptoCardSaid : Prop := Claim7.holds Tryz.pinned (.plain (OpenSpec.upto fnExactLayerLinesSpec)) fnExactLayerLinesUptoCard

/-- THE SECOND FORM's CARD OF 'laws.FnExactDiskLines'. -/
def fnExactDiskLinesUptoCard : Claim7 := { stood := { row := fnExactDiskLinesUptoRow, standIns := [], harness := (true, "5e584aeced926b509f6680c96f946c49e27dc46331c09a332b73706e34d33572"), looks := true }, kinds := [], alts := [], laidByText := true, laidKinds := [.data, .data, .data], laidTests := true, laidLooks := .later }
def FnExactDiskLinesUptoCardSaid : Prop := Claim7.holds Tryz.pinned (.plain (OpenSpec.upto fnExactDiskLinesSpec)) fnExactDiskLinesUptoCard

/-- THE SECOND FORM's CARD OF 'laws.FnExactReadLayer'. -/
def fnExactReadLayerUptoCard : Claim7 := { stood := { row := fnExactReadLayerUptoRow, standIns := [], harness := (true, "5e584aeced926b509f6680c96f946c49e27dc46331c09a332b73706e34d33572"), looks := true }, kinds := [], alts := [], laidByText := true, laidKinds := [.data, .data, .data, .data, .sentinel, .sentinel, .pinned], laidTests := true, laidLooks := .later }
def FnExactReadLayerUptoCardSaid : Prop := Claim7.holds Tryz.pinned (.plain (OpenSpec.upto fnExactReadLayerSpec)) fnExactReadLayerUptoCard
end Rows
end Go.Proofs.YtolminmmnckpkaaGreatDoor
