/-
  DERIVED. GIVEN WITH THE SEED: THE CARDS: each row of YtbahacapnaohcaaGreatDoorRows.lean that lists a variable, with what it lists TIED to the program's text (the seventh form; the later family's looks); each row that meets fmt, with fmt's text TOLD by the authors' own Lean function (tested against real Go, not proved from fmt's source: count such statements apart). THE CARD IS WHAT COUNTS. Prove the row's statement (the work); the ties are given (YtbahacapnaohcaaGreatDoorTie.lean); close each card by the builder's one call (the guide's Derived/Test/ToyasCard.lean, 'card_holds'). Laid BY PROGRAM, IN A SANDBOX (cutbox-door.mjs). By AI agents, Wed Nov 11 2026. No macro, syntax, notation, axiom, sorry.
-/
import Derived.Test.YtbahacapnaohcaaGreatDoorRows
import GoSem.ClaimSeven
namespace Go.Proofs.YtbahacapnaohcaaGreatDoor
namespace Rows

/-- THE TIED CARD OF 'laws.FnTermBack'. -/
def fnTermBackCard : Claim7 := { stood := { row := fnTermBackRow, standIns := [], harness := (true, "9f00a5cda9887f8369025c7e09152d5ddc2dd34c255775684e31fa917454bfdc"), looks := true }, kinds := [], alts := [], laidByText := true, laidKinds := [.data, .data, .data, .sentinel, .sentinel, .widerDeep], laidTests := true, laidLooks := .later }
def FnTermBackCardSaid : Prop := Claim7.holds Tryz.pinned (.plain (OpenSpec.ofChange fnTermBackSpec)) fnTermBackCard

/-- THE TIED CARD OF 'laws.FnRename'. -/
def fnRenameCard : Claim7 := { stood := { row := fnRenameRow, standIns := [], harness := (true, "9f00a5cda9887f8369025c7e09152d5ddc2dd34c255775684e31fa917454bfdc"), looks := true }, kinds := [], alts := [], laidByText := true, laidKinds := [.data, .data, .data, .sentinel, .sentinel, .widerDeep], laidTests := true, laidLooks := .later }
def FnRenameCardSaid : Prop := Claim7.holds Tryz.pinned (.plain (OpenSpec.ofChange fnRenameSpec)) fnRenameCard

/-- THE TIED CARD OF 'laws.FnExactProgShift'. -/
def fnExactProgShiftCard : Claim7 := { stood := { row := fnExactProgShiftRow, standIns := [], harness := (true, "9f00a5cda9887f8369025c7e09152d5ddc2dd34c255775684e31fa917454bfdc"), looks := true }, kinds := [], alts := [], laidByText := true, laidKinds := [.data, .data, .data, .sentinel, .sentinel, .widerDeep], laidTests := true, laidLooks := .later }
def FnExactProgShiftCardSaid : Prop := Claim7.holds Tryz.pinned (.plain (OpenSpec.ofChange fnExactProgShiftSpec)) fnExactProgShiftCard

/-- THE TIED CARD OF 'laws.FnInline'. -/
def fnInlineCard : Claim7 := { stood := { row := fnInlineRow, standIns := [], harness := (true, "9f00a5cda9887f8369025c7e09152d5ddc2dd34c255775684e31fa917454bfdc"), looks := true }, kinds := [], alts := [], laidByText := true, laidKinds := [.data, .data, .data, .sentinel, .sentinel, .widerDeep], laidTests := true, laidLooks := .later }
def FnInlineCardSaid : Prop := Claim7.holds Tryz.pinned (.plain (OpenSpec.ofChange fnInlineSpec)) fnInlineCard

/-- THE TIED CARD OF 'laws.FnExactProgRename'. -/
def fnExactProgRenameCard : Claim7 := { stood := { row := fnExactProgRenameRow, standIns := [], harness := (true, "9f00a5cda9887f8369025c7e09152d5ddc2dd34c255775684e31fa917454bfdc"), looks := true }, kinds := [], alts := [], laidByText := true, laidKinds := [.data, .data, .data, .sentinel, .sentinel, .widerDeep], laidTests := true, laidLooks := .later }
def FnExactProgRenameCardSaid : Prop := Claim7.holds Tryz.pinned (.plain (OpenSpec.ofChange fnExactProgRenameSpec)) fnExactProgRenameCard

/-- THE TIED CARD OF 'laws.FnInlineTwo'. -/
def fnInlineTwoCard : Claim7 := { stood := { row := fnInlineTwoRow, standIns := [], harness := (true, "9f00a5cda9887f8369025c7e09152d5ddc2dd34c255775684e31fa917454bfdc"), looks := true }, kinds := [], alts := [], laidByText := true, laidKinds := [.data, .data, .data, .sentinel, .sentinel, .widerDeep], laidTests := true, laidLooks := .later }
def FnInlineTwoCardSaid : Prop := Claim7.holds Tryz.pinned (.plain (OpenSpec.ofChange fnInlineTwoSpec)) fnInlineTwoCard

/-- THE TIED CARD OF 'laws.FnExactProgInline'. -/
def fnExactProgInlineCard : Claim7 := { stood := { row := fnExactProgInlineRow, standIns := [], harness := (true, "9f00a5cda9887f8369025c7e09152d5ddc2dd34c255775684e31fa917454bfdc"), looks := true }, kinds := [], alts := [], laidByText := true, laidKinds := [.data, .data, .data, .sentinel, .sentinel, .widerDeep], laidTests := true, laidLooks := .later }
def FnExactProgInlineCardSaid : Prop := Claim7.holds Tryz.pinned (.plain (OpenSpec.ofChange fnExactProgInlineSpec)) fnExactProgInlineCard

/-- THE TIED CARD OF 'laws.FnExactProgFlat'. -/
def fnExactProgFlatCard : Claim7 := { stood := { row := fnExactProgFlatRow, standIns := [], harness := (true, "9f00a5cda9887f8369025c7e09152d5ddc2dd34c255775684e31fa917454bfdc"), looks := true }, kinds := [], alts := [], laidByText := true, laidKinds := [.data, .data, .data, .sentinel, .sentinel, .widerDeep], laidTests := true, laidLooks := .later }
def FnExactProgFlatCardSaid : Prop := Claim7.holds Tryz.pinned (.plain (OpenSpec.ofChange fnExactProgFlatSpec)) fnExactProgFlatCard

/-- THE TIED CARD OF 'laws.FnExactGraphOf'. -/
def fnExactGraphOfCard : Claim7 := { stood := { row := fnExactGraphOfRow, standIns := [], harness := (true, "9f00a5cda9887f8369025c7e09152d5ddc2dd34c255775684e31fa917454bfdc"), looks := true }, kinds := [], alts := [], laidByText := true, laidKinds := [.data, .data, .data, .sentinel, .sentinel, .widerDeep], laidTests := true, laidLooks := .later }
def FnExactGraphOfCardSaid : Prop := Claim7.holds Tryz.pinned (.plain (OpenSpec.ofChange fnExactGraphOfSpec)) fnExactGraphOfCard

/-- THE TIED CARD OF 'laws.FnGraphTop'. -/
def fnGraphTopCard : Claim7 := { stood := { row := fnGraphTopRow, standIns := [], harness := (true, "9f00a5cda9887f8369025c7e09152d5ddc2dd34c255775684e31fa917454bfdc"), looks := true }, kinds := [], alts := [], laidByText := true, laidKinds := [.data, .data, .data, .sentinel, .sentinel, .widerDeep], laidTests := true, laidLooks := .later }
def FnGraphTopCardSaid : Prop := Claim7.holds Tryz.pinned (.plain (OpenSpec.ofChange fnGraphTopSpec)) fnGraphTopCard

/-- THE TIED CARD OF 'laws.FnExactProgRead'. -/
def fnExactProgReadCard : Claim7 := { stood := { row := fnExactProgReadRow, standIns := [], harness := (true, "9f00a5cda9887f8369025c7e09152d5ddc2dd34c255775684e31fa917454bfdc"), looks := true }, kinds := [], alts := [], laidByText := true, laidKinds := [.data, .data, .data, .data, .sentinel, .sentinel, .widerDeep, .widerDeep, .pinned], laidTests := true, laidLooks := .later }
def FnExactProgReadCardSaid : Prop := Claim7.holds Tryz.pinned (.plain (OpenSpec.ofChange fnExactProgReadSpec)) fnExactProgReadCard

/-- THE TIED CARD OF 'laws.FnProgLines'. -/
def fnProgLinesCard : Claim7 := { stood := { row := fnProgLinesRow, standIns := [], harness := (true, "9f00a5cda9887f8369025c7e09152d5ddc2dd34c255775684e31fa917454bfdc"), looks := true }, kinds := [], alts := [], laidByText := true, laidKinds := [.data, .data, .data, .data, .sentinel, .sentinel, .widerDeep, .widerDeep, .pinned], laidTests := true, laidLooks := .later }
def FnProgLinesCardSaid : Prop := Claim7.holds Tryz.pinned (.plain (OpenSpec.ofChange fnProgLinesSpec)) fnProgLinesCard

/-- THE TIED CARD OF 'laws.FnLangTop'. -/
def fnLangTopCard : Claim7 := { stood := { row := fnLangTopRow, standIns := [], harness := (true, "9f00a5cda9887f8369025c7e09152d5ddc2dd34c255775684e31fa917454bfdc"), looks := true }, kinds := [], alts := [], laidByText := true, laidKinds := [.data, .data, .data, .data, .sentinel, .sentinel, .widerDeep, .widerDeep, .pinned], laidTests := true, laidLooks := .later }
def FnLangTopCardSaid : Prop := Claim7.holds Tryz.pinned (.plain (OpenSpec.ofChange fnLangTopSpec)) fnLangTopCard

/-- THE SECOND FORM's CARD OF 'laws.FnTermBack'. -/
def fnTermBackUptoCard : Claim7 := { stood := { row := fnTermBackUptoRow, standIns := [], harness := (true, "9f00a5cda9887f8369025c7e09152d5ddc2dd34c255775684e31fa917454bfdc"), looks := true }, kinds := [], alts := [], laidByText := true, laidKinds := [.data, .data, .data, .sentinel, .sentinel, .widerDeep], laidTests := true, laidLooks := .later }
def FnTermBackUptoCardSaid : Prop := Claim7.holds Tryz.pinned (.plain (OpenSpec.upto fnTermBackSpec)) fnTermBackUptoCard

/-- THE SECOND FORM's CARD OF 'laws.FnRename'. -/
def fnRenameUptoCard : Claim7 := { stood := { row := fnRenameUptoRow, standIns := [], harness := (true, "9f00a5cda9887f8369025c7e09152d5ddc2dd34c255775684e31fa917454bfdc"), looks := true }, kinds := [], alts := [], laidByText := true, laidKinds := [.data, .data, .data, .sentinel, .sentinel, .widerDeep], laidTests := true, laidLooks := .later }
def FnRenameUptoCardSaid : Prop := Claim7.holds Tryz.pinned (.plain (OpenSpec.upto fnRenameSpec)) fnRenameUptoCard

/-- THE SECOND FORM's CARD OF 'laws.FnExactProgShift'. -/
def fnExactProgShiftUptoCard : Claim7 := { stood := { row := fnExactProgShiftUptoRow, standIns := [], harness := (true, "9f00a5cda9887f8369025c7e09152d5ddc2dd34c255775684e31fa917454bfdc"), looks := true }, kinds := [], alts := [], laidByText := true, laidKinds := [.data, .data, .data, .sentinel, .sentinel, .widerDeep], laidTests := true, laidLooks := .later }
def FnExactProgShiftUptoCardSaid : Prop := Claim7.holds Tryz.pinned (.plain (OpenSpec.upto fnExactProgShiftSpec)) fnExactProgShiftUptoCard

/-- THE SECOND FORM's CARD OF 'laws.FnInline'. -/
def fnInlineUptoCard : Claim7 := { stood := { row := fnInlineUptoRow, standIns := [], harness := (true, "9f00a5cda9887f8369025c7e09152d5ddc2dd34c255775684e31fa917454bfdc"), looks := true }, kinds := [], alts := [], laidByText := true, laidKinds := [.data, .data, .data, .sentinel, .sentinel, .widerDeep], laidTests := true, laidLooks := .later }
def FnInlineUptoCardSaid : Prop := Claim7.holds Tryz.pinned (.plain (OpenSpec.upto fnInlineSpec)) fnInlineUptoCard

/-- THE SECOND FORM's CARD OF 'laws.FnExactProgRename'. -/
def fnExactProgRenameUptoCard : Claim7 := { stood := { row := fnExactProgRenameUptoRow, standIns := [], harness := (true, "9f00a5cda9887f8369025c7e09152d5ddc2dd34c255775684e31fa917454bfdc"), looks := true }, kinds := [], alts := [], laidByText := true, laidKinds := [.data, .data, .data, .sentinel, .sentinel, .widerDeep], laidTests := true, laidLooks := .later }
def FnExactProgRenameUptoCardSaid : Prop := Claim7.holds Tryz.pinned (.plain (OpenSpec.upto fnExactProgRenameSpec)) fnExactProgRenameUptoCard

/-- THE SECOND FORM's CARD OF 'laws.FnInlineTwo'. -/
def fnInlineTwoUptoCard : Claim7 := { stood := { row := fnInlineTwoUptoRow, standIns := [], harness := (true, "9f00a5cda9887f8369025c7e09152d5ddc2dd34c255775684e31fa917454bfdc"), looks := true }, kinds := [], alts := [], laidByText := true, laidKinds := [.data, .data, .data, .sentinel, .sentinel, .widerDeep], laidTests := true, laidLooks := .later }
def FnInlineTwoUptoCardSaid : Prop := Claim7.holds Tryz.pinned (.plain (OpenSpec.upto fnInlineTwoSpec)) fnInlineTwoUptoCard

/-- THE SECOND FORM's CARD OF 'laws.FnExactProgInline'. -/
def fnExactProgInlineUptoCard : Claim7 := { stood := { row := fnExactProgInlineUptoRow, standIns := [], harness := (true, "9f00a5cda9887f8369025c7e09152d5ddc2dd34c255775684e31fa917454bfdc"), looks := true }, kinds := [], alts := [], laidByText := true, laidKinds := [.data, .data, .data, .sentinel, .sentinel, .widerDeep], laidTests := true, laidLooks := .later }
def FnExactProgInlineUptoCardSaid : Prop := Claim7.holds Tryz.pinned (.plain (OpenSpec.upto fnExactProgInlineSpec)) fnExactProgInlineUptoCard

/-- THE SECOND FORM's CARD OF 'laws.FnExactProgFlat'. -/
def fnExactProgFlatUptoCard : Claim7 := { stood := { row := fnExactProgFlatUptoRow, standIns := [], harness := (true, "9f00a5cda9887f8369025c7e09152d5ddc2dd34c255775684e31fa917454bfdc"), looks := true }, kinds := [], alts := [], laidByText := true, laidKinds := [.data, .data, .data, .sentinel, .sentinel, .widerDeep], laidTests := true, laidLooks := .later }
def FnExactProgFlatUptoCardSaid : Prop := Claim7.holds Tryz.pinned (.plain (OpenSpec.upto fnExactProgFlatSpec)) fnExactProgFlatUptoCard

/-- THE SECOND FORM's CARD OF 'laws.FnExactGraphOf'. -/
def fnExactGraphOfUptoCard : Claim7 := { stood := { row := fnExactGraphOfUptoRow, standIns := [], harness := (true, "9f00a5cda9887f8369025c7e09152d5ddc2dd34c255775684e31fa917454bfdc"), looks := true }, kinds := [], alts := [], laidByText := true, laidKinds := [.data, .data, .data, .sentinel, .sentinel, .widerDeep], laidTests := true, laidLooks := .later }
def FnExactGraphOfUptoCardSaid : Prop := Claim7.holds Tryz.pinned (.plain (OpenSpec.upto fnExactGraphOfSpec)) fnExactGraphOfUptoCard

/-- THE SECOND FORM's CARD OF 'laws.FnGraphTop'. -/
def fnGraphTopUptoCard : Claim7 := { stood := { row := fnGraphTopUptoRow, standIns := [], harness := (true, "9f00a5cda9887f8369025c7e09152d5ddc2dd34c255775684e31fa917454bfdc"), looks := true }, kinds := [], alts := [], laidByText := true, laidKinds := [.data, .data, .data, .sentinel, .sentinel, .widerDeep], laidTests := true, laidLooks := .later }
def FnGraphTopUptoCardSaid : Prop := Claim7.holds Tryz.pinned (.plain (OpenSpec.upto fnGraphTopSpec)) fnGraphTopUptoCard

/-- THE SECOND FORM's CARD OF 'laws.FnExactProgRead'. -/
def fnExactProgReadUptoCard : Claim7 := { stood := { row := fnExactProgReadUptoRow, standIns := [], harness := (true, "9f00a5cda9887f8369025c7e09152d5ddc2dd34c255775684e31fa917454bfdc"), looks := true }, kinds := [], alts := [], laidByText := true, laidKinds := [.data, .data, .data, .data, .sentinel, .sentinel, .widerDeep, .widerDeep, .pinned], laidTests := true, laidLooks := .later }
def FnExactProgReadUptoCardSaid : Prop := Claim7.holds Tryz.pinned (.plain (OpenSpec.upto fnExactProgReadSpec)) fnExactProgReadUptoCard

/-- THE SECOND FORM's CARD OF 'laws.FnProgLines'. -/
def fnProgLinesUptoCard : Claim7 := { stood := { row := fnProgLinesUptoRow, standIns := [], harness := (true, "9f00a5cda9887f8369025c7e09152d5ddc2dd34c255775684e31fa917454bfdc"), looks := true }, kinds := [], alts := [], laidByText := true, laidKinds := [.data, .data, .data, .data, .sentinel, .sentinel, .widerDeep, .widerDeep, .pinned], laidTests := true, laidLooks := .later }
def FnProgLinesUptoCardSaid : Prop := Claim7.holds Tryz.pinned (.plain (OpenSpec.upto fnProgLinesSpec)) fnProgLinesUptoCard

/-- THE SECOND FORM's CARD OF 'laws.FnLangTop'. -/
def fnLangTopUptoCard : Claim7 := { stood := { row := fnLangTopUptoRow, standIns := [], harness := (true, "9f00a5cda9887f8369025c7e09152d5ddc2dd34c255775684e31fa917454bfdc"), looks := true }, kinds := [], alts := [], laidByText := true, laidKinds := [.data, .data, .data, .data, .sentinel, .sentinel, .widerDeep, .widerDeep, .pinned], laidTests := true, laidLooks := .later }
def FnLangTopUptoCardSaid : Prop := Claim7.holds Tryz.pinned (.plain (OpenSpec.upto fnLangTopSpec)) fnLangTopUptoCard
end Rows
end Go.Proofs.YtbahacapnaohcaaGreatDoor
