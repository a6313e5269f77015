/-
  DERIVED. GIVEN WITH THE SEED: THE CARDS: each row of YtfgpkeppjomkmaaGreatDoorRows.lean that lists a variable, with what it lists TIED to the program's text (the seventh form; the later family's looks); each row that meets fmt, with fmt's text TOLD by the authors' own Lean function (tested against real Go, not proved from fmt's source: count such statements apart). THE CARD IS WHAT COUNTS. Prove the row's statement (the work); the ties are given (YtfgpkeppjomkmaaGreatDoorTie.lean); close each card by the builder's one call (the guide's Derived/Test/ToyasCard.lean, 'card_holds'). Laid BY PROGRAM, IN A SANDBOX (cutbox-door.mjs). By AI agents, Wed Nov 11 2026. No macro, syntax, notation, axiom, sorry.
-/
import Derived.Test.YtfgpkeppjomkmaaGreatDoorRows
import GoSem.ClaimSeven
namespace Go.Proofs.YtfgpkeppjomkmaaGreatDoor
namespace Rows

/-- THE TIED CARD OF 'watchtreekeep.Rising'. -/
def risingCard : Claim7 := { stood := { row := risingRow, standIns := [], harness := (true, "4ca961c1605857c738903d8913d06c658404b6c38c60f97ea9f6d2ec8fdb8f47"), looks := true }, kinds := [], alts := [], goes := true, laidByText := true, laidKinds := [.data, .data, .data, .data, .pinned], laidTests := true, laidLooks := .later }
def RisingCardSaid : Prop := Claim7.holds Tryz.pinned (.plain (OpenSpec.ofChange risingSpec)) risingCard

/-- THE TIED CARD OF 'watchtreekeep.Once'. -/
def onceCard : Claim7 := { stood := { row := onceRow, standIns := [], harness := (true, "4ca961c1605857c738903d8913d06c658404b6c38c60f97ea9f6d2ec8fdb8f47"), looks := true }, kinds := [], alts := [], goes := true, laidByText := true, laidKinds := [.data, .data, .data, .data, .pinned], laidTests := true, laidLooks := .later }
def OnceCardSaid : Prop := Claim7.holds Tryz.pinned (.plain (OpenSpec.ofChange onceSpec)) onceCard

/-- THE TIED CARD OF 'watchtreekeep.Together'. -/
def togetherCard : Claim7 := { stood := { row := togetherRow, standIns := [], harness := (true, "4ca961c1605857c738903d8913d06c658404b6c38c60f97ea9f6d2ec8fdb8f47"), looks := true }, kinds := [], alts := [], goes := true, laidByText := true, laidKinds := [.data, .data, .data, .data, .pinned], laidTests := true, laidLooks := .later }
def TogetherCardSaid : Prop := Claim7.holds Tryz.pinned (.plain (OpenSpec.ofChange togetherSpec)) togetherCard

/-- THE TIED CARD OF 'watchtreekeep.Ordered'. -/
def orderedCard : Claim7 := { stood := { row := orderedRow, standIns := [], harness := (true, "4ca961c1605857c738903d8913d06c658404b6c38c60f97ea9f6d2ec8fdb8f47"), looks := true }, kinds := [], alts := [], goes := true, laidByText := true, laidKinds := [.data, .data, .data, .data, .pinned], laidTests := true, laidLooks := .later }
def OrderedCardSaid : Prop := Claim7.holds Tryz.pinned (.plain (OpenSpec.ofChange orderedSpec)) orderedCard

/-- THE TIED CARD OF 'watchtreekeep.Gone'. -/
def goneCard : Claim7 := { stood := { row := goneRow, standIns := [], harness := (true, "4ca961c1605857c738903d8913d06c658404b6c38c60f97ea9f6d2ec8fdb8f47"), looks := true }, kinds := [], alts := [], goes := true, laidByText := true, laidKinds := [.data, .data, .data, .data, .pinned], laidTests := true, laidLooks := .later }
def GoneCardSaid : Prop := Claim7.holds Tryz.pinned (.plain (OpenSpec.ofChange goneSpec)) goneCard

/-- THE TIED CARD OF 'watchtreekeep.Whole'. -/
def wholeCard : Claim7 := { stood := { row := wholeRow, standIns := [], harness := (true, "4ca961c1605857c738903d8913d06c658404b6c38c60f97ea9f6d2ec8fdb8f47"), looks := true }, kinds := [], alts := [], goes := true, laidByText := true, laidKinds := [.data, .data, .data, .data, .pinned], laidTests := true, laidLooks := .later }
def WholeCardSaid : Prop := Claim7.holds Tryz.pinned (.plain (OpenSpec.ofChange wholeSpec)) wholeCard

/-- THE TIED CARD OF 'watchtreelaw.Trees'. -/
def treesCard : Claim7 := { stood := { row := treesRow, standIns := [], harness := (true, "4ca961c1605857c738903d8913d06c658404b6c38c60f97ea9f6d2ec8fdb8f47"), looks := true }, kinds := [], alts := [], goes := true, laidByText := true, laidKinds := [.data, .data, .data, .data, .handle, .pinned], laidTests := true, laidLooks := .later }
def TreesCardSaid : Prop := Claim7.holds Tryz.pinned (.plain (OpenSpec.ofChange treesSpec)) treesCard

/-- THE TIED CARD OF 'watchtreelaw.Lives'. -/
def livesCard : Claim7 := { stood := { row := livesRow, standIns := [], harness := (true, "4ca961c1605857c738903d8913d06c658404b6c38c60f97ea9f6d2ec8fdb8f47"), looks := true }, kinds := [], alts := [], goes := true, laidByText := true, laidKinds := [.data, .data, .data, .data, .handle, .pinned], laidTests := true, laidLooks := .later }
def LivesCardSaid : Prop := Claim7.holds Tryz.pinned (.plain (OpenSpec.ofChange livesSpec)) livesCard

/-- THE TIED CARD OF 'watchtreelaw.Multis'. -/
def multisCard : Claim7 := { stood := { row := multisRow, standIns := [], harness := (true, "4ca961c1605857c738903d8913d06c658404b6c38c60f97ea9f6d2ec8fdb8f47"), looks := true }, kinds := [], alts := [], goes := true, laidByText := true, laidKinds := [.data, .data, .data, .data, .handle, .pinned], laidTests := true, laidLooks := .later }
def MultisCardSaid : Prop := Claim7.holds Tryz.pinned (.plain (OpenSpec.ofChange multisSpec)) multisCard

/-- THE TIED CARD OF 'watchtreelaw.Watched'. -/
def watchedCard : Claim7 := { stood := { row := watchedRow, standIns := [], harness := (true, "4ca961c1605857c738903d8913d06c658404b6c38c60f97ea9f6d2ec8fdb8f47"), looks := true }, kinds := [], alts := [], goes := true, laidByText := true, laidKinds := [.data, .data, .data, .data, .handle, .pinned], laidTests := true, laidLooks := .later }
def WatchedCardSaid : Prop := Claim7.holds Tryz.pinned (.plain (OpenSpec.ofChange watchedSpec)) watchedCard

/-- THE TIED CARD OF 'watchtreelaw.All'. -/
def allCard : Claim7 := { stood := { row := allRow, standIns := [], harness := (true, "4ca961c1605857c738903d8913d06c658404b6c38c60f97ea9f6d2ec8fdb8f47"), looks := true }, kinds := [], alts := [], goes := true, laidByText := true, laidKinds := [.data, .data, .data, .data, .handle, .pinned], laidTests := true, laidLooks := .later }
def AllCardSaid : Prop := Claim7.holds Tryz.pinned (.plain (OpenSpec.ofChange allSpec)) allCard

/-- THE SECOND FORM's CARD OF 'watchtreekeep.Rising'. -/
def risingUptoCard : Claim7 := { stood := { row := risingUptoRow, standIns := [], harness := (true, "4ca961c1605857c738903d8913d06c658404b6c38c60f97ea9f6d2ec8fdb8f47"), looks := true }, kinds := [], alts := [], goes := true, laidByText := true, laidKinds := [.data, .data, .data, .data, .pinned], laidTests := true, laidLooks := .later }
def RisingUptoCardSaid : Prop := Claim7.holds Tryz.pinned (.plain (OpenSpec.upto risingSpec)) risingUptoCard

/-- THE SECOND FORM's CARD OF 'watchtreekeep.Once'. -/
def onceUptoCard : Claim7 := { stood := { row := onceUptoRow, standIns := [], harness := (true, "4ca961c1605857c738903d8913d06c658404b6c38c60f97ea9f6d2ec8fdb8f47"), looks := true }, kinds := [], alts := [], goes := true, laidByText := true, laidKinds := [.data, .data, .data, .data, .pinned], laidTests := true, laidLooks := .later }
def OnceUptoCardSaid : Prop := Claim7.holds Tryz.pinned (.plain (OpenSpec.upto onceSpec)) onceUptoCard

/-- THE SECOND FORM's CARD OF 'watchtreekeep.Together'. -/
def togetherUptoCard : Claim7 := { stood := { row := togetherUptoRow, standIns := [], harness := (true, "4ca961c1605857c738903d8913d06c658404b6c38c60f97ea9f6d2ec8fdb8f47"), looks := true }, kinds := [], alts := [], goes := true, laidByText := true, laidKinds := [.data, .data, .data, .data, .pinned], laidTests := true, laidLooks := .later }
def TogetherUptoCardSaid : Prop := Claim7.holds Tryz.pinned (.plain (OpenSpec.upto togetherSpec)) togetherUptoCard

/-- THE SECOND FORM's CARD OF 'watchtreekeep.Ordered'. -/
def orderedUptoCard : Claim7 := { stood := { row := orderedUptoRow, standIns := [], harness := (true, "4ca961c1605857c738903d8913d06c658404b6c38c60f97ea9f6d2ec8fdb8f47"), looks := true }, kinds := [], alts := [], goes := true, laidByText := true, laidKinds := [.data, .data, .data, .data, .pinned], laidTests := true, laidLooks := .later }
def OrderedUptoCardSaid : Prop := Claim7.holds Tryz.pinned (.plain (OpenSpec.upto orderedSpec)) orderedUptoCard

/-- THE SECOND FORM's CARD OF 'watchtreekeep.Gone'. -/
def goneUptoCard : Claim7 := { stood := { row := goneUptoRow, standIns := [], harness := (true, "4ca961c1605857c738903d8913d06c658404b6c38c60f97ea9f6d2ec8fdb8f47"), looks := true }, kinds := [], alts := [], goes := true, laidByText := true, laidKinds := [.data, .data, .data, .data, .pinned], laidTests := true, laidLooks := .later }
def GoneUptoCardSaid : Prop := Claim7.holds Tryz.pinned (.plain (OpenSpec.upto goneSpec)) goneUptoCard

/-- THE SECOND FORM's CARD OF 'watchtreekeep.Whole'. -/
def wholeUptoCard : Claim7 := { stood := { row := wholeUptoRow, standIns := [], harness := (true, "4ca961c1605857c738903d8913d06c658404b6c38c60f97ea9f6d2ec8fdb8f47"), looks := true }, kinds := [], alts := [], goes := true, laidByText := true, laidKinds := [.data, .data, .data, .data, .pinned], laidTests := true, laidLooks := .later }
def WholeUptoCardSaid : Prop := Claim7.holds Tryz.pinned (.plain (OpenSpec.upto wholeSpec)) wholeUptoCard

/-- THE SECOND FORM's CARD OF 'watchtreelaw.Trees'. -/
def treesUptoCard : Claim7 := { stood := { row := treesUptoRow, standIns := [], harness := (true, "4ca961c1605857c738903d8913d06c658404b6c38c60f97ea9f6d2ec8fdb8f47"), looks := true }, kinds := [], alts := [], goes := true, laidByText := true, laidKinds := [.data, .data, .data, .data, .handle, .pinned], laidTests := true, laidLooks := .later }
def TreesUptoCardSaid : Prop := Claim7.holds Tryz.pinned (.plain (OpenSpec.upto treesSpec)) treesUptoCard

/-- THE SECOND FORM's CARD OF 'watchtreelaw.Lives'. -/
def livesUptoCard : Claim7 := { stood := { row := livesUptoRow, standIns := [], harness := (true, "4ca961c1605857c738903d8913d06c658404b6c38c60f97ea9f6d2ec8fdb8f47"), looks := true }, kinds := [], alts := [], goes := true, laidByText := true, laidKinds := [.data, .data, .data, .data, .handle, .pinned], laidTests := true, laidLooks := .later }
def LivesUptoCardSaid : Prop := Claim7.holds Tryz.pinned (.plain (OpenSpec.upto livesSpec)) livesUptoCard

/-- THE SECOND FORM's CARD OF 'watchtreelaw.Multis'. -/
def multisUptoCard : Claim7 := { stood := { row := multisUptoRow, standIns := [], harness := (true, "4ca961c1605857c738903d8913d06c658404b6c38c60f97ea9f6d2ec8fdb8f47"), looks := true }, kinds := [], alts := [], goes := true, laidByText := true, laidKinds := [.data, .data, .data, .data, .handle, .pinned], laidTests := true, laidLooks := .later }
def MultisUptoCardSaid : Prop := Claim7.holds Tryz.pinned (.plain (OpenSpec.upto multisSpec)) multisUptoCard

/-- THE SECOND FORM's CARD OF 'watchtreelaw.Watched'. -/
def watchedUptoCard : Claim7 := { stood := { row := watchedUptoRow, standIns := [], harness := (true, "4ca961c1605857c738903d8913d06c658404b6c38c60f97ea9f6d2ec8fdb8f47"), looks := true }, kinds := [], alts := [], goes := true, laidByText := true, laidKinds := [.data, .data, .data, .data, .handle, .pinned], laidTests := true, laidLooks := .later }
def WatchedUptoCardSaid : Prop := Claim7.holds Tryz.pinned (.plain (OpenSpec.upto watchedSpec)) watchedUptoCard

/-- THE SECOND FORM's CARD OF 'watchtreelaw.All'. -/
def allUptoCard : Claim7 := { stood := { row := allUptoRow, standIns := [], harness := (true, "4ca961c1605857c738903d8913d06c658404b6c38c60f97ea9f6d2ec8fdb8f47"), looks := true }, kinds := [], alts := [], goes := true, laidByText := true, laidKinds := [.data, .data, .data, .data, .handle, .pinned], laidTests := true, laidLooks := .later }
def AllUptoCardSaid : Prop := Claim7.holds Tryz.pinned (.plain (OpenSpec.upto allSpec)) allUptoCard
end Rows
end Go.Proofs.YtfgpkeppjomkmaaGreatDoor
