/-
  DERIVED. GIVEN WITH THE SEED: THE CARDS: each row of YtnoeclpdijlheaaDoorRows.lean that lists a variable, with what it lists TIED to the program's text (the seventh form; the later family's looks); each row that meets fmt, with fmt's text TOLD by the authors' own Lean function (tested against real Go, not proved from fmt's source: count such statements apart). THE CARD IS WHAT COUNTS. Prove the row's statement (the work); the ties are given (YtnoeclpdijlheaaDoorTie.lean); close each card by the builder's one call (the guide's Derived/Test/ToyasCard.lean, 'card_holds'). Laid BY PROGRAM, IN A SANDBOX (cutbox-door.mjs). By AI agents, Wed Nov 11 2026. No macro, syntax, notation, axiom, sorry.
-/
import Derived.Test.YtnoeclpdijlheaaDoorRows
import GoSem.ClaimSeven
namespace Go.Proofs.YtnoeclpdijlheaaDoor
namespace Rows

/-- THE TIED CARD OF 'laws.FnExactStepText'. -/
def fnExactStepTextCard : Claim7 := { stood := { row := fnExactStepTextRow, standIns := [], harness := (true, "fa997650651c3cc78ae79586cac4970e3b20ca609b53d82ade2d30b07dad313c"), looks := true }, kinds := [], alts := [], laidByText := true, laidKinds := [.data, .data, .data], laidTests := true, laidLooks := .later }
def FnExactStepTextCardSaid : Prop := Claim7.holds Tryd.pinned (.plain (OpenSpec.ofChange fnExactStepTextSpec)) fnExactStepTextCard

/-- THE TIED CARD OF 'laws.FnExactEncodeRecord'. -/
def fnExactEncodeRecordCard : Claim7 := { stood := { row := fnExactEncodeRecordRow, standIns := [], harness := (true, "fa997650651c3cc78ae79586cac4970e3b20ca609b53d82ade2d30b07dad313c"), looks := true }, kinds := [], alts := [], laidByText := true, laidKinds := [.data, .pinned], laidTests := true, laidLooks := .later }
def FnExactEncodeRecordCardSaid : Prop := Claim7.holds Tryd.pinned (.plain (OpenSpec.ofChange fnExactEncodeRecordSpec)) fnExactEncodeRecordCard

/-- THE TIED CARD OF 'laws.FnExactDecodeRecord'. -/
def fnExactDecodeRecordCard : Claim7 := { stood := { row := fnExactDecodeRecordRow, standIns := [], harness := (true, "fa997650651c3cc78ae79586cac4970e3b20ca609b53d82ade2d30b07dad313c"), looks := true }, kinds := [], alts := [], laidByText := true, laidKinds := [.data, .pinned], laidTests := true, laidLooks := .later }
def FnExactDecodeRecordCardSaid : Prop := Claim7.holds Tryd.pinned (.plain (OpenSpec.ofChange fnExactDecodeRecordSpec)) fnExactDecodeRecordCard

/-- THE TIED CARD OF 'laws.FnExactFirstFault'. -/
def fnExactFirstFaultCard : Claim7 := { stood := { row := fnExactFirstFaultRow, standIns := [], harness := (true, "fa997650651c3cc78ae79586cac4970e3b20ca609b53d82ade2d30b07dad313c"), looks := true }, kinds := [], alts := [], laidByText := true, laidKinds := [.data, .pinned], laidTests := true, laidLooks := .later }
def FnExactFirstFaultCardSaid : Prop := Claim7.holds Tryd.pinned (.plain (OpenSpec.ofChange fnExactFirstFaultSpec)) fnExactFirstFaultCard

/-- THE TIED CARD OF 'laws.FnExactEncodeLayer'. -/
def fnExactEncodeLayerCard : Claim7 := { stood := { row := fnExactEncodeLayerRow, standIns := [], harness := (true, "fa997650651c3cc78ae79586cac4970e3b20ca609b53d82ade2d30b07dad313c"), looks := true }, kinds := [], alts := [], laidByText := true, laidKinds := [.data, .pinned], laidTests := true, laidLooks := .later }
def FnExactEncodeLayerCardSaid : Prop := Claim7.holds Tryd.pinned (.plain (OpenSpec.ofChange fnExactEncodeLayerSpec)) fnExactEncodeLayerCard

/-- THE TIED CARD OF 'laws.FnExactRecordText'. -/
def fnExactRecordTextCard : Claim7 := { stood := { row := fnExactRecordTextRow, standIns := [], harness := (true, "fa997650651c3cc78ae79586cac4970e3b20ca609b53d82ade2d30b07dad313c"), looks := true }, kinds := [], alts := [], laidByText := true, laidKinds := [.data, .data, .data, .data, .pinned], laidTests := true, laidLooks := .later }
def FnExactRecordTextCardSaid : Prop := Claim7.holds Tryd.pinned (.plain (OpenSpec.ofChange fnExactRecordTextSpec)) fnExactRecordTextCard

/-- THE TIED CARD OF 'laws.FnExactDecodeLayer'. -/
def fnExactDecodeLayerCard : Claim7 := { stood := { row := fnExactDecodeLayerRow, standIns := [], harness := (true, "fa997650651c3cc78ae79586cac4970e3b20ca609b53d82ade2d30b07dad313c"), looks := true }, kinds := [], alts := [], laidByText := true, laidKinds := [.data, .pinned], laidTests := true, laidLooks := .later }
def FnExactDecodeLayerCardSaid : Prop := Claim7.holds Tryd.pinned (.plain (OpenSpec.ofChange fnExactDecodeLayerSpec)) fnExactDecodeLayerCard

/-- THE SECOND FORM's CARD OF 'laws.FnExactStepText'. -/
def fnExactStepTextUptoCard : Claim7 := { stood := { row := fnExactStepTextUptoRow, standIns := [], harness := (true, "fa997650651c3cc78ae79586cac4970e3b20ca609b53d82ade2d30b07dad313c"), looks := true }, kinds := [], alts := [], laidByText := true, laidKinds := [.data, .data, .data], laidTests := true, laidLooks := .later }
def FnExactStepTextUptoCardSaid : Prop := Claim7.holds Tryd.pinned (.plain (OpenSpec.upto fnExactStepTextSpec)) fnExactStepTextUptoCard

/-- THE SECOND FORM's CARD OF 'laws.FnExactEncodeRecord'. -/
def fnExactEncodeRecordUptoCard : Claim7 := { stood := { row := fnExactEncodeRecordUptoRow, standIns := [], harness := (true, "fa997650651c3cc78ae79586cac4970e3b20ca609b53d82ade2d30b07dad313c"), looks := true }, kinds := [], alts := [], laidByText := true, laidKinds := [.data, .pinned], laidTests := true, laidLooks := .later }
def FnExactEncodeRecordUptoCardSaid : Prop := Claim7.holds Tryd.pinned (.plain (OpenSpec.upto fnExactEncodeRecordSpec)) fnExactEncodeRecordUptoCard

/-- THE SECOND FORM's CARD OF 'laws.FnExactDecodeRecord'. -/
def fnExactDecodeRecordUptoCard : Claim7 := { stood := { row := fnExactDecodeRecordUptoRow, standIns := [], harness := (true, "fa997650651c3cc78ae79586cac4970e3b20ca609b53d82ade2d30b07dad313c"), looks := true }, kinds := [], alts := [], laidByText := true, laidKinds := [.data, .pinned], laidTests := true, laidLooks := .later }
def FnExactDecodeRecordUptoCardSaid : Prop := Claim7.holds Tryd.pinned (.plain (OpenSpec.upto fnExactDecodeRecordSpec)) fnExactDecodeRecordUptoCard

/-- THE SECOND FORM's CARD OF 'laws.FnExactFirstFault'. -/
def fnExactFirstFaultUptoCard : Claim7 := { stood := { row := fnExactFirstFaultUptoRow, standIns := [], harness := (true, "fa997650651c3cc78ae79586cac4970e3b20ca609b53d82ade2d30b07dad313c"), looks := true }, kinds := [], alts := [], laidByText := true, laidKinds := [.data, .pinned], laidTests := true, laidLooks := .later }
def FnExactFirstFaultUptoCardSaid : Prop := Claim7.holds Tryd.pinned (.plain (OpenSpec.upto fnExactFirstFaultSpec)) fnExactFirstFaultUptoCard

/-- THE SECOND FORM's CARD OF 'laws.FnExactEncodeLayer'. -/
def fnExactEncodeLayerUptoCard : Claim7 := { stood := { row := fnExactEncodeLayerUptoRow, standIns := [], harness := (true, "fa997650651c3cc78ae79586cac4970e3b20ca609b53d82ade2d30b07dad313c"), looks := true }, kinds := [], alts := [], laidByText := true, laidKinds := [.data, .pinned], laidTests := true, laidLooks := .later }
def FnExactEncodeLayerUptoCardSaid : Prop := Claim7.holds Tryd.pinned (.plain (OpenSpec.upto fnExactEncodeLayerSpec)) fnExactEncodeLayerUptoCard

/-- THE SECOND FORM's CARD OF 'laws.FnExactRecordText'. -/
def fnExactRecordTextUptoCard : Claim7 := { stood := { row := fnExactRecordTextUptoRow, standIns := [], harness := (true, "fa997650651c3cc78ae79586cac4970e3b20ca609b53d82ade2d30b07dad313c"), looks := true }, kinds := [], alts := [], laidByText := true, laidKinds := [.data, .data, .data, .data, .pinned], laidTests := true, laidLooks := .later }
def FnExactRecordTextUptoCardSaid : Prop := Claim7.holds Tryd.pinned (.plain (OpenSpec.upto fnExactRecordTextSpec)) fnExactRecordTextUptoCard

/-- THE SECOND FORM's CARD OF 'laws.FnExactDecodeLayer'. -/
def fnExactDecodeLayerUptoCard : Claim7 := { stood := { row := fnExactDecodeLayerUptoRow, standIns := [], harness := (true, "fa997650651c3cc78ae79586cac4970e3b20ca609b53d82ade2d30b07dad313c"), looks := true }, kinds := [], alts := [], laidByText := true, laidKinds := [.data, .pinned], laidTests := true, laidLooks := .later }
def FnExactDecodeLayerUptoCardSaid : Prop := Claim7.holds Tryd.pinned (.plain (OpenSpec.upto fnExactDecodeLayerSpec)) fnExactDecodeLayerUptoCard
end Rows
end Go.Proofs.YtnoeclpdijlheaaDoor
