/-
  DERIVED. GIVEN WITH THE SEED: THE CARDS: each row of YtefjaihaocdpcaaGreatDoorRows.lean that lists a variable, with what it lists TIED to the program's text (the seventh form; the later family's looks); each row that meets fmt, with fmt's text TOLD by the authors' own Lean function (tested against real Go, not proved from fmt's source: count such statements apart). THE CARD IS WHAT COUNTS. Prove the row's statement (the work); the ties are given (YtefjaihaocdpcaaGreatDoorTie.lean); close each card by the builder's one call (the guide's Derived/Test/ToyasCard.lean, 'card_holds'). Laid BY PROGRAM, IN A SANDBOX (cutbox-door.mjs). By AI agents, Wed Nov 11 2026. No macro, syntax, notation, axiom, sorry.
-/
import Derived.Test.YtefjaihaocdpcaaGreatDoorRows
import GoSem.ClaimSeven
namespace Go.Proofs.YtefjaihaocdpcaaGreatDoor
namespace Rows

/-- THE TIED CARD OF 'laws.FnPlanPath'. -/
def fnPlanPathCard : Claim7 := { stood := { row := fnPlanPathRow, standIns := [], harness := (true, "41bd0f50d487431789ddaad2af5a40940f8e4c50e6845c8b58ff594bc5ec8495"), looks := true }, kinds := [], alts := [], laidByText := true, laidKinds := [.data, .data, .data, .data, .sentinel, .sentinel, .pinned], laidTests := true, laidLooks := .later }
def FnPlanPathCardSaid : Prop := Claim7.holds Tryz.pinned (.plain (OpenSpec.ofChange fnPlanPathSpec)) fnPlanPathCard

/-- THE TIED CARD OF 'laws.FnPlanFits'. -/
def fnPlanFitsCard : Claim7 := { stood := { row := fnPlanFitsRow, standIns := [], harness := (true, "41bd0f50d487431789ddaad2af5a40940f8e4c50e6845c8b58ff594bc5ec8495"), looks := true }, kinds := [], alts := [], laidByText := true, laidKinds := [.data, .data, .data, .data, .sentinel, .sentinel, .widerDeep, .pinned], laidTests := true, laidLooks := .later }
def FnPlanFitsCardSaid : Prop := Claim7.holds Tryz.pinned (.plain (OpenSpec.ofChange fnPlanFitsSpec)) fnPlanFitsCard

/-- THE TIED CARD OF 'laws.FnPlanOver'. -/
def fnPlanOverCard : Claim7 := { stood := { row := fnPlanOverRow, standIns := [], harness := (true, "41bd0f50d487431789ddaad2af5a40940f8e4c50e6845c8b58ff594bc5ec8495"), looks := true }, kinds := [], alts := [], laidByText := true, laidKinds := [.data, .data, .data, .data, .sentinel, .sentinel, .pinned], laidTests := true, laidLooks := .later }
def FnPlanOverCardSaid : Prop := Claim7.holds Tryz.pinned (.plain (OpenSpec.ofChange fnPlanOverSpec)) fnPlanOverCard

/-- THE TIED CARD OF 'laws.FnExactPlanOver'. -/
def fnExactPlanOverCard : Claim7 := { stood := { row := fnExactPlanOverRow, standIns := [], harness := (true, "41bd0f50d487431789ddaad2af5a40940f8e4c50e6845c8b58ff594bc5ec8495"), looks := true }, kinds := [], alts := [], laidByText := true, laidKinds := [.data, .data, .data, .data, .sentinel, .sentinel, .pinned], laidTests := true, laidLooks := .later }
def FnExactPlanOverCardSaid : Prop := Claim7.holds Tryz.pinned (.plain (OpenSpec.ofChange fnExactPlanOverSpec)) fnExactPlanOverCard

/-- THE TIED CARD OF 'laws.FnExactPlanPathOf'. -/
def fnExactPlanPathOfCard : Claim7 := { stood := { row := fnExactPlanPathOfRow, standIns := [], harness := (true, "41bd0f50d487431789ddaad2af5a40940f8e4c50e6845c8b58ff594bc5ec8495"), looks := true }, kinds := [], alts := [], laidByText := true, laidKinds := [.data, .data, .data, .data, .sentinel, .sentinel, .pinned], laidTests := true, laidLooks := .later }
def FnExactPlanPathOfCardSaid : Prop := Claim7.holds Tryz.pinned (.plain (OpenSpec.ofChange fnExactPlanPathOfSpec)) fnExactPlanPathOfCard

/-- THE TIED CARD OF 'laws.FnPlanTake'. -/
def fnPlanTakeCard : Claim7 := { stood := { row := fnPlanTakeRow, standIns := [], harness := (true, "41bd0f50d487431789ddaad2af5a40940f8e4c50e6845c8b58ff594bc5ec8495"), looks := true }, kinds := [], alts := [], laidByText := true, laidKinds := [.data, .data, .data, .data, .sentinel, .sentinel, .pinned], laidTests := true, laidLooks := .later }
def FnPlanTakeCardSaid : Prop := Claim7.holds Tryz.pinned (.plain (OpenSpec.ofChange fnPlanTakeSpec)) fnPlanTakeCard

/-- THE TIED CARD OF 'laws.FnPlanMerge'. -/
def fnPlanMergeCard : Claim7 := { stood := { row := fnPlanMergeRow, standIns := [], harness := (true, "41bd0f50d487431789ddaad2af5a40940f8e4c50e6845c8b58ff594bc5ec8495"), looks := true }, kinds := [], alts := [], laidByText := true, laidKinds := [.data, .data, .data, .data, .sentinel, .sentinel, .pinned], laidTests := true, laidLooks := .later }
def FnPlanMergeCardSaid : Prop := Claim7.holds Tryz.pinned (.plain (OpenSpec.ofChange fnPlanMergeSpec)) fnPlanMergeCard

/-- THE TIED CARD OF 'laws.FnPlanPrint'. -/
def fnPlanPrintCard : Claim7 := { stood := { row := fnPlanPrintRow, standIns := [], harness := (true, "41bd0f50d487431789ddaad2af5a40940f8e4c50e6845c8b58ff594bc5ec8495"), looks := true }, kinds := [], alts := [], laidByText := true, laidKinds := [.data, .data, .data, .data, .sentinel, .sentinel, .widerDeep, .pinned], laidTests := true, laidLooks := .later }
def FnPlanPrintCardSaid : Prop := Claim7.holds Tryz.pinned (.plain (OpenSpec.ofChange fnPlanPrintSpec)) fnPlanPrintCard

/-- THE TIED CARD OF 'laws.FnPlanTop'. -/
def fnPlanTopCard : Claim7 := { stood := { row := fnPlanTopRow, standIns := [], harness := (true, "41bd0f50d487431789ddaad2af5a40940f8e4c50e6845c8b58ff594bc5ec8495"), looks := true }, kinds := [], alts := [], laidByText := true, laidKinds := [.data, .data, .data, .data, .sentinel, .sentinel, .pinned], laidTests := true, laidLooks := .later }
def FnPlanTopCardSaid : Prop := Claim7.holds Tryz.pinned (.plain (OpenSpec.ofChange fnPlanTopSpec)) fnPlanTopCard

/-- THE TIED CARD OF 'laws.FnExactPlanTake'. -/
def fnExactPlanTakeCard : Claim7 := { stood := { row := fnExactPlanTakeRow, standIns := [], harness := (true, "41bd0f50d487431789ddaad2af5a40940f8e4c50e6845c8b58ff594bc5ec8495"), looks := true }, kinds := [], alts := [], laidByText := true, laidKinds := [.data, .data, .data, .data, .sentinel, .sentinel, .pinned], laidTests := true, laidLooks := .later }
def FnExactPlanTakeCardSaid : Prop := Claim7.holds Tryz.pinned (.plain (OpenSpec.ofChange fnExactPlanTakeSpec)) fnExactPlanTakeCard

/-- THE TIED CARD OF 'laws.FnExactPlanMerge'. -/
def fnExactPlanMergeCard : Claim7 := { stood := { row := fnExactPlanMergeRow, standIns := [], harness := (true, "41bd0f50d487431789ddaad2af5a40940f8e4c50e6845c8b58ff594bc5ec8495"), looks := true }, kinds := [], alts := [], laidByText := true, laidKinds := [.data, .data, .data, .data, .sentinel, .sentinel, .pinned], laidTests := true, laidLooks := .later }
def FnExactPlanMergeCardSaid : Prop := Claim7.holds Tryz.pinned (.plain (OpenSpec.ofChange fnExactPlanMergeSpec)) fnExactPlanMergeCard

/-- THE TIED CARD OF 'laws.FnPlanText'. -/
def fnPlanTextCard : Claim7 := { stood := { row := fnPlanTextRow, standIns := [], harness := (true, "41bd0f50d487431789ddaad2af5a40940f8e4c50e6845c8b58ff594bc5ec8495"), looks := true }, kinds := [], alts := [], laidByText := true, laidKinds := [.data, .data, .data, .data, .sentinel, .sentinel, .widerDeep, .pinned], laidTests := true, laidLooks := .later }
def FnPlanTextCardSaid : Prop := Claim7.holds Tryz.pinned (.plain (OpenSpec.ofChange fnPlanTextSpec)) fnPlanTextCard

/-- THE TIED CARD OF 'laws.FnExactPlanTakeAll'. -/
def fnExactPlanTakeAllCard : Claim7 := { stood := { row := fnExactPlanTakeAllRow, standIns := [], harness := (true, "41bd0f50d487431789ddaad2af5a40940f8e4c50e6845c8b58ff594bc5ec8495"), looks := true }, kinds := [], alts := [], laidByText := true, laidKinds := [.data, .data, .data, .data, .sentinel, .sentinel, .pinned], laidTests := true, laidLooks := .later }
def FnExactPlanTakeAllCardSaid : Prop := Claim7.holds Tryz.pinned (.plain (OpenSpec.ofChange fnExactPlanTakeAllSpec)) fnExactPlanTakeAllCard

/-- THE SECOND FORM's CARD OF 'laws.FnPlanPath'. -/
def fnPlanPathUptoCard : Claim7 := { stood := { row := fnPlanPathUptoRow, standIns := [], harness := (true, "41bd0f50d487431789ddaad2af5a40940f8e4c50e6845c8b58ff594bc5ec8495"), looks := true }, kinds := [], alts := [], laidByText := true, laidKinds := [.data, .data, .data, .data, .sentinel, .sentinel, .pinned], laidTests := true, laidLooks := .later }
def FnPlanPathUptoCardSaid : Prop := Claim7.holds Tryz.pinned (.plain (OpenSpec.upto fnPlanPathSpec)) fnPlanPathUptoCard

/-- THE SECOND FORM's CARD OF 'laws.FnPlanFits'. -/
def fnPlanFitsUptoCard : Claim7 := { stood := { row := fnPlanFitsUptoRow, standIns := [], harness := (true, "41bd0f50d487431789ddaad2af5a40940f8e4c50e6845c8b58ff594bc5ec8495"), looks := true }, kinds := [], alts := [], laidByText := true, laidKinds := [.data, .data, .data, .data, .sentinel, .sentinel, .widerDeep, .pinned], laidTests := true, laidLooks := .later }
def FnPlanFitsUptoCardSaid : Prop := Claim7.holds Tryz.pinned (.plain (OpenSpec.upto fnPlanFitsSpec)) fnPlanFitsUptoCard

/-- THE SECOND FORM's CARD OF 'laws.FnPlanOver'. -/
def fnPlanOverUptoCard : Claim7 := { stood := { row := fnPlanOverUptoRow, standIns := [], harness := (true, "41bd0f50d487431789ddaad2af5a40940f8e4c50e6845c8b58ff594bc5ec8495"), looks := true }, kinds := [], alts := [], laidByText := true, laidKinds := [.data, .data, .data, .data, .sentinel, .sentinel, .pinned], laidTests := true, laidLooks := .later }
def FnPlanOverUptoCardSaid : Prop := Claim7.holds Tryz.pinned (.plain (OpenSpec.upto fnPlanOverSpec)) fnPlanOverUptoCard

/-- THE SECOND FORM's CARD OF 'laws.FnExactPlanOver'. -/
def fnExactPlanOverUptoCard : Claim7 := { stood := { row := fnExactPlanOverUptoRow, standIns := [], harness := (true, "41bd0f50d487431789ddaad2af5a40940f8e4c50e6845c8b58ff594bc5ec8495"), looks := true }, kinds := [], alts := [], laidByText := true, laidKinds := [.data, .data, .data, .data, .sentinel, .sentinel, .pinned], laidTests := true, laidLooks := .later }
def FnExactPlanOverUptoCardSaid : Prop := Claim7.holds Tryz.pinned (.plain (OpenSpec.upto fnExactPlanOverSpec)) fnExactPlanOverUptoCard

/-- THE SECOND FORM's CARD OF 'laws.FnExactPlanPathOf'. -/
def fnExactPlanPathOfUptoCard : Claim7 := { stood := { row := fnExactPlanPathOfUptoRow, standIns := [], harness := (true, "41bd0f50d487431789ddaad2af5a40940f8e4c50e6845c8b58ff594bc5ec8495"), looks := true }, kinds := [], alts := [], laidByText := true, laidKinds := [.data, .data, .data, .data, .sentinel, .sentinel, .pinned], laidTests := true, laidLooks := .later }
def FnExactPlanPathOfUptoCardSaid : Prop := Claim7.holds Tryz.pinned (.plain (OpenSpec.upto fnExactPlanPathOfSpec)) fnExactPlanPathOfUptoCard

/-- THE SECOND FORM's CARD OF 'laws.FnPlanTake'. -/
def fnPlanTakeUptoCard : Claim7 := { stood := { row := fnPlanTakeUptoRow, standIns := [], harness := (true, "41bd0f50d487431789ddaad2af5a40940f8e4c50e6845c8b58ff594bc5ec8495"), looks := true }, kinds := [], alts := [], laidByText := true, laidKinds := [.data, .data, .data, .data, .sentinel, .sentinel, .pinned], laidTests := true, laidLooks := .later }
def FnPlanTakeUptoCardSaid : Prop := Claim7.holds Tryz.pinned (.plain (OpenSpec.upto fnPlanTakeSpec)) fnPlanTakeUptoCard

/-- THE SECOND FORM's CARD OF 'laws.FnPlanMerge'. -/
def fnPlanMergeUptoCard : Claim7 := { stood := { row := fnPlanMergeUptoRow, standIns := [], harness := (true, "41bd0f50d487431789ddaad2af5a40940f8e4c50e6845c8b58ff594bc5ec8495"), looks := true }, kinds := [], alts := [], laidByText := true, laidKinds := [.data, .data, .data, .data, .sentinel, .sentinel, .pinned], laidTests := true, laidLooks := .later }
def FnPlanMergeUptoCardSaid : Prop := Claim7.holds Tryz.pinned (.plain (OpenSpec.upto fnPlanMergeSpec)) fnPlanMergeUptoCard

/-- THE SECOND FORM's CARD OF 'laws.FnPlanPrint'. -/
def fnPlanPrintUptoCard : Claim7 := { stood := { row := fnPlanPrintUptoRow, standIns := [], harness := (true, "41bd0f50d487431789ddaad2af5a40940f8e4c50e6845c8b58ff594bc5ec8495"), looks := true }, kinds := [], alts := [], laidByText := true, laidKinds := [.data, .data, .data, .data, .sentinel, .sentinel, .widerDeep, .pinned], laidTests := true, laidLooks := .later }
def FnPlanPrintUptoCardSaid : Prop := Claim7.holds Tryz.pinned (.plain (OpenSpec.upto fnPlanPrintSpec)) fnPlanPrintUptoCard

/-- THE SECOND FORM's CARD OF 'laws.FnPlanTop'. -/
def fnPlanTopUptoCard : Claim7 := { stood := { row := fnPlanTopUptoRow, standIns := [], harness := (true, "41bd0f50d487431789ddaad2af5a40940f8e4c50e6845c8b58ff594bc5ec8495"), looks := true }, kinds := [], alts := [], laidByText := true, laidKinds := [.data, .data, .data, .data, .sentinel, .sentinel, .pinned], laidTests := true, laidLooks := .later }
def FnPlanTopUptoCardSaid : Prop := Claim7.holds Tryz.pinned (.plain (OpenSpec.upto fnPlanTopSpec)) fnPlanTopUptoCard

/-- THE SECOND FORM's CARD OF 'laws.FnExactPlanTake'. -/
def fnExactPlanTakeUptoCard : Claim7 := { stood := { row := fnExactPlanTakeUptoRow, standIns := [], harness := (true, "41bd0f50d487431789ddaad2af5a40940f8e4c50e6845c8b58ff594bc5ec8495"), looks := true }, kinds := [], alts := [], laidByText := true, laidKinds := [.data, .data, .data, .data, .sentinel, .sentinel, .pinned], laidTests := true, laidLooks := .later }
def FnExactPlanTakeUptoCardSaid : Prop := Claim7.holds Tryz.pinned (.plain (OpenSpec.upto fnExactPlanTakeSpec)) fnExactPlanTakeUptoCard

/-- THE SECOND FORM's CARD OF 'laws.FnExactPlanMerge'. -/
def fnExactPlanMergeUptoCard : Claim7 := { stood := { row := fnExactPlanMergeUptoRow, standIns := [], harness := (true, "41bd0f50d487431789ddaad2af5a40940f8e4c50e6845c8b58ff594bc5ec8495"), looks := true }, kinds := [], alts := [], laidByText := true, laidKinds := [.data, .data, .data, .data, .sentinel, .sentinel, .pinned], laidTests := true, laidLooks := .later }
def FnExactPlanMergeUptoCardSaid : Prop := Claim7.holds Tryz.pinned (.plain (OpenSpec.upto fnExactPlanMergeSpec)) fnExactPlanMergeUptoCard

/-- THE SECOND FORM's CARD OF 'laws.FnPlanText'. -/
def fnPlanTextUptoCard : Claim7 := { stood := { row := fnPlanTextUptoRow, standIns := [], harness := (true, "41bd0f50d487431789ddaad2af5a40940f8e4c50e6845c8b58ff594bc5ec8495"), looks := true }, kinds := [], alts := [], laidByText := true, laidKinds := [.data, .data, .data, .data, .sentinel, .sentinel, .widerDeep, .pinned], laidTests := true, laidLooks := .later }
def FnPlanTextUptoCardSaid : Prop := Claim7.holds Tryz.pinned (.plain (OpenSpec.upto fnPlanTextSpec)) fnPlanTextUptoCard

/-- THE SECOND FORM's CARD OF 'laws.FnExactPlanTakeAll'. -/
def fnExactPlanTakeAllUptoCard : Claim7 := { stood := { row := fnExactPlanTakeAllUptoRow, standIns := [], harness := (true, "41bd0f50d487431789ddaad2af5a40940f8e4c50e6845c8b58ff594bc5ec8495"), looks := true }, kinds := [], alts := [], laidByText := true, laidKinds := [.data, .data, .data, .data, .sentinel, .sentinel, .pinned], laidTests := true, laidLooks := .later }
def FnExactPlanTakeAllUptoCardSaid : Prop := Claim7.holds Tryz.pinned (.plain (OpenSpec.upto fnExactPlanTakeAllSpec)) fnExactPlanTakeAllUptoCard
end Rows
end Go.Proofs.YtefjaihaocdpcaaGreatDoor
