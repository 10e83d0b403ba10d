/-
  DERIVED. GIVEN WITH THE SEED: THE CARDS: each row of YtgfoeiieopnlaaaGreatDoorRows.lean that lists a variable, with what it lists TIED to the program's text (the seventh form; the later family's looks); each row that meets fmt, with fmt's text TOLD by the authors' own Lean function (tested against real Go, not proved from fmt's source: count such statements apart). THE CARD IS WHAT COUNTS. Prove the row's statement (the work); the ties are given (YtgfoeiieopnlaaaGreatDoorTie.lean); close each card by the builder's one call (the guide's Derived/Test/ToyasCard.lean, 'card_holds'). Laid BY PROGRAM, IN A SANDBOX (cutbox-door.mjs). By AI agents, Wed Nov 11 2026. No macro, syntax, notation, axiom, sorry.
-/
import Derived.Test.YtgfoeiieopnlaaaGreatDoorRows
import GoSem.ClaimSeven
namespace Go.Proofs.YtgfoeiieopnlaaaGreatDoor
namespace Rows

/-- THE TIED CARD OF 'laws.FnLinesSteps'. -/
def fnLinesStepsCard : Claim7 := { stood := { row := fnLinesStepsRow, standIns := [], harness := (true, "3caafbc682674527d5246ae05796ab03dc03f22812cf3ed62f1f6f8091b60743"), looks := false }, kinds := [], alts := [], laidByText := true, laidKinds := [.data, .data, .data, .data, .pinned], laidTests := true, laidLooks := .later }
def FnLinesStepsCardSaid : Prop := Claim7.holds Tryz.pinned (.plain (OpenSpec.ofChange fnLinesStepsSpec)) fnLinesStepsCard

/-- THE TIED CARD OF 'laws.FnLinesThree'. -/
def fnLinesThreeCard : Claim7 := { stood := { row := fnLinesThreeRow, standIns := [], harness := (true, "3caafbc682674527d5246ae05796ab03dc03f22812cf3ed62f1f6f8091b60743"), looks := false }, kinds := [], alts := [], laidByText := true, laidKinds := [.data, .data, .data, .data, .pinned], laidTests := true, laidLooks := .later }
def FnLinesThreeCardSaid : Prop := Claim7.holds Tryz.pinned (.plain (OpenSpec.ofChange fnLinesThreeSpec)) fnLinesThreeCard

/-- THE TIED CARD OF 'laws.FnLinesTicks'. -/
def fnLinesTicksCard : Claim7 := { stood := { row := fnLinesTicksRow, standIns := [], harness := (true, "3caafbc682674527d5246ae05796ab03dc03f22812cf3ed62f1f6f8091b60743"), looks := false }, kinds := [], alts := [], laidByText := true, laidKinds := [.data, .data, .data, .data, .pinned], laidTests := true, laidLooks := .later }
def FnLinesTicksCardSaid : Prop := Claim7.holds Tryz.pinned (.plain (OpenSpec.ofChange fnLinesTicksSpec)) fnLinesTicksCard

/-- THE TIED CARD OF 'laws.FnExactLinesRun'. -/
def fnExactLinesRunCard : Claim7 := { stood := { row := fnExactLinesRunRow, standIns := [], harness := (true, "3caafbc682674527d5246ae05796ab03dc03f22812cf3ed62f1f6f8091b60743"), looks := false }, kinds := [], alts := [], laidByText := true, laidKinds := [.data, .data, .data, .data, .pinned], laidTests := true, laidLooks := .later }
def FnExactLinesRunCardSaid : Prop := Claim7.holds Tryz.pinned (.plain (OpenSpec.ofChange fnExactLinesRunSpec)) fnExactLinesRunCard

/-- THE TIED CARD OF 'laws.FnLinesCalm'. -/
def fnLinesCalmCard : Claim7 := { stood := { row := fnLinesCalmRow, standIns := [], harness := (true, "3caafbc682674527d5246ae05796ab03dc03f22812cf3ed62f1f6f8091b60743"), looks := false }, kinds := [], alts := [], laidByText := true, laidKinds := [.data, .data, .data, .data, .pinned], laidTests := true, laidLooks := .later }
def FnLinesCalmCardSaid : Prop := Claim7.holds Tryz.pinned (.plain (OpenSpec.ofChange fnLinesCalmSpec)) fnLinesCalmCard

/-- THE TIED CARD OF 'laws.FnLinesForge'. -/
def fnLinesForgeCard : Claim7 := { stood := { row := fnLinesForgeRow, standIns := [], harness := (true, "3caafbc682674527d5246ae05796ab03dc03f22812cf3ed62f1f6f8091b60743"), looks := false }, kinds := [], alts := [], laidByText := true, laidKinds := [.data, .data, .data, .data, .pinned], laidTests := true, laidLooks := .later }
def FnLinesForgeCardSaid : Prop := Claim7.holds Tryz.pinned (.plain (OpenSpec.ofChange fnLinesForgeSpec)) fnLinesForgeCard

/-- THE TIED CARD OF 'laws.FnLinesNone'. -/
def fnLinesNoneCard : Claim7 := { stood := { row := fnLinesNoneRow, standIns := [], harness := (true, "3caafbc682674527d5246ae05796ab03dc03f22812cf3ed62f1f6f8091b60743"), looks := false }, kinds := [], alts := [], laidByText := true, laidKinds := [.data, .data, .data, .data, .pinned], laidTests := true, laidLooks := .later }
def FnLinesNoneCardSaid : Prop := Claim7.holds Tryz.pinned (.plain (OpenSpec.ofChange fnLinesNoneSpec)) fnLinesNoneCard

/-- THE TIED CARD OF 'laws.FnLinesOther'. -/
def fnLinesOtherCard : Claim7 := { stood := { row := fnLinesOtherRow, standIns := [], harness := (true, "3caafbc682674527d5246ae05796ab03dc03f22812cf3ed62f1f6f8091b60743"), looks := false }, kinds := [], alts := [], laidByText := true, laidKinds := [.data, .data, .data, .data, .pinned], laidTests := true, laidLooks := .later }
def FnLinesOtherCardSaid : Prop := Claim7.holds Tryz.pinned (.plain (OpenSpec.ofChange fnLinesOtherSpec)) fnLinesOtherCard

/-- THE TIED CARD OF 'laws.FnLinesPoor'. -/
def fnLinesPoorCard : Claim7 := { stood := { row := fnLinesPoorRow, standIns := [], harness := (true, "3caafbc682674527d5246ae05796ab03dc03f22812cf3ed62f1f6f8091b60743"), looks := false }, kinds := [], alts := [], laidByText := true, laidKinds := [.data, .data, .data, .data, .pinned], laidTests := true, laidLooks := .later }
def FnLinesPoorCardSaid : Prop := Claim7.holds Tryz.pinned (.plain (OpenSpec.ofChange fnLinesPoorSpec)) fnLinesPoorCard

/-- THE TIED CARD OF 'laws.FnLinesQuiet'. -/
def fnLinesQuietCard : Claim7 := { stood := { row := fnLinesQuietRow, standIns := [], harness := (true, "3caafbc682674527d5246ae05796ab03dc03f22812cf3ed62f1f6f8091b60743"), looks := false }, kinds := [], alts := [], laidByText := true, laidKinds := [.data, .data, .data, .data, .pinned], laidTests := true, laidLooks := .later }
def FnLinesQuietCardSaid : Prop := Claim7.holds Tryz.pinned (.plain (OpenSpec.ofChange fnLinesQuietSpec)) fnLinesQuietCard

/-- THE TIED CARD OF 'laws.FnLinesRun'. -/
def fnLinesRunCard : Claim7 := { stood := { row := fnLinesRunRow, standIns := [], harness := (true, "3caafbc682674527d5246ae05796ab03dc03f22812cf3ed62f1f6f8091b60743"), looks := false }, kinds := [], alts := [], laidByText := true, laidKinds := [.data, .data, .data, .data, .pinned], laidTests := true, laidLooks := .later }
def FnLinesRunCardSaid : Prop := Claim7.holds Tryz.pinned (.plain (OpenSpec.ofChange fnLinesRunSpec)) fnLinesRunCard

/-- THE SECOND FORM's CARD OF 'laws.FnLinesSteps'. -/
def fnLinesStepsUptoCard : Claim7 := { stood := { row := fnLinesStepsUptoRow, standIns := [], harness := (true, "3caafbc682674527d5246ae05796ab03dc03f22812cf3ed62f1f6f8091b60743"), looks := false }, kinds := [], alts := [], laidByText := true, laidKinds := [.data, .data, .data, .data, .pinned], laidTests := true, laidLooks := .later }
def FnLinesStepsUptoCardSaid : Prop := Claim7.holds Tryz.pinned (.plain (OpenSpec.upto fnLinesStepsSpec)) fnLinesStepsUptoCard

/-- THE SECOND FORM's CARD OF 'laws.FnLinesThree'. -/
def fnLinesThreeUptoCard : Claim7 := { stood := { row := fnLinesThreeUptoRow, standIns := [], harness := (true, "3caafbc682674527d5246ae05796ab03dc03f22812cf3ed62f1f6f8091b60743"), looks := false }, kinds := [], alts := [], laidByText := true, laidKinds := [.data, .data, .data, .data, .pinned], laidTests := true, laidLooks := .later }
def FnLinesThreeUptoCardSaid : Prop := Claim7.holds Tryz.pinned (.plain (OpenSpec.upto fnLinesThreeSpec)) fnLinesThreeUptoCard

/-- THE SECOND FORM's CARD OF 'laws.FnLinesTicks'. -/
def fnLinesTicksUptoCard : Claim7 := { stood := { row := fnLinesTicksUptoRow, standIns := [], harness := (true, "3caafbc682674527d5246ae05796ab03dc03f22812cf3ed62f1f6f8091b60743"), looks := false }, kinds := [], alts := [], laidByText := true, laidKinds := [.data, .data, .data, .data, .pinned], laidTests := true, laidLooks := .later }
def FnLinesTicksUptoCardSaid : Prop := Claim7.holds Tryz.pinned (.plain (OpenSpec.upto fnLinesTicksSpec)) fnLinesTicksUptoCard

/-- THE SECOND FORM's CARD OF 'laws.FnExactLinesRun'. -/
def fnExactLinesRunUptoCard : Claim7 := { stood := { row := fnExactLinesRunUptoRow, standIns := [], harness := (true, "3caafbc682674527d5246ae05796ab03dc03f22812cf3ed62f1f6f8091b60743"), looks := false }, kinds := [], alts := [], laidByText := true, laidKinds := [.data, .data, .data, .data, .pinned], laidTests := true, laidLooks := .later }
def FnExactLinesRunUptoCardSaid : Prop := Claim7.holds Tryz.pinned (.plain (OpenSpec.upto fnExactLinesRunSpec)) fnExactLinesRunUptoCard

/-- THE SECOND FORM's CARD OF 'laws.FnLinesCalm'. -/
def fnLinesCalmUptoCard : Claim7 := { stood := { row := fnLinesCalmUptoRow, standIns := [], harness := (true, "3caafbc682674527d5246ae05796ab03dc03f22812cf3ed62f1f6f8091b60743"), looks := false }, kinds := [], alts := [], laidByText := true, laidKinds := [.data, .data, .data, .data, .pinned], laidTests := true, laidLooks := .later }
def FnLinesCalmUptoCardSaid : Prop := Claim7.holds Tryz.pinned (.plain (OpenSpec.upto fnLinesCalmSpec)) fnLinesCalmUptoCard

/-- THE SECOND FORM's CARD OF 'laws.FnLinesForge'. -/
def fnLinesForgeUptoCard : Claim7 := { stood := { row := fnLinesForgeUptoRow, standIns := [], harness := (true, "3caafbc682674527d5246ae05796ab03dc03f22812cf3ed62f1f6f8091b60743"), looks := false }, kinds := [], alts := [], laidByText := true, laidKinds := [.data, .data, .data, .data, .pinned], laidTests := true, laidLooks := .later }
def FnLinesForgeUptoCardSaid : Prop := Claim7.holds Tryz.pinned (.plain (OpenSpec.upto fnLinesForgeSpec)) fnLinesForgeUptoCard

/-- THE SECOND FORM's CARD OF 'laws.FnLinesNone'. -/
def fnLinesNoneUptoCard : Claim7 := { stood := { row := fnLinesNoneUptoRow, standIns := [], harness := (true, "3caafbc682674527d5246ae05796ab03dc03f22812cf3ed62f1f6f8091b60743"), looks := false }, kinds := [], alts := [], laidByText := true, laidKinds := [.data, .data, .data, .data, .pinned], laidTests := true, laidLooks := .later }
def FnLinesNoneUptoCardSaid : Prop := Claim7.holds Tryz.pinned (.plain (OpenSpec.upto fnLinesNoneSpec)) fnLinesNoneUptoCard

/-- THE SECOND FORM's CARD OF 'laws.FnLinesOther'. -/
def fnLinesOtherUptoCard : Claim7 := { stood := { row := fnLinesOtherUptoRow, standIns := [], harness := (true, "3caafbc682674527d5246ae05796ab03dc03f22812cf3ed62f1f6f8091b60743"), looks := false }, kinds := [], alts := [], laidByText := true, laidKinds := [.data, .data, .data, .data, .pinned], laidTests := true, laidLooks := .later }
def FnLinesOtherUptoCardSaid : Prop := Claim7.holds Tryz.pinned (.plain (OpenSpec.upto fnLinesOtherSpec)) fnLinesOtherUptoCard

/-- THE SECOND FORM's CARD OF 'laws.FnLinesPoor'. -/
def fnLinesPoorUptoCard : Claim7 := { stood := { row := fnLinesPoorUptoRow, standIns := [], harness := (true, "3caafbc682674527d5246ae05796ab03dc03f22812cf3ed62f1f6f8091b60743"), looks := false }, kinds := [], alts := [], laidByText := true, laidKinds := [.data, .data, .data, .data, .pinned], laidTests := true, laidLooks := .later }
def FnLinesPoorUptoCardSaid : Prop := Claim7.holds Tryz.pinned (.plain (OpenSpec.upto fnLinesPoorSpec)) fnLinesPoorUptoCard

/-- THE SECOND FORM's CARD OF 'laws.FnLinesQuiet'. -/
def fnLinesQuietUptoCard : Claim7 := { stood := { row := fnLinesQuietUptoRow, standIns := [], harness := (true, "3caafbc682674527d5246ae05796ab03dc03f22812cf3ed62f1f6f8091b60743"), looks := false }, kinds := [], alts := [], laidByText := true, laidKinds := [.data, .data, .data, .data, .pinned], laidTests := true, laidLooks := .later }
def FnLinesQuietUptoCardSaid : Prop := Claim7.holds Tryz.pinned (.plain (OpenSpec.upto fnLinesQuietSpec)) fnLinesQuietUptoCard

/-- THE SECOND FORM's CARD OF 'laws.FnLinesRun'. -/
def fnLinesRunUptoCard : Claim7 := { stood := { row := fnLinesRunUptoRow, standIns := [], harness := (true, "3caafbc682674527d5246ae05796ab03dc03f22812cf3ed62f1f6f8091b60743"), looks := false }, kinds := [], alts := [], laidByText := true, laidKinds := [.data, .data, .data, .data, .pinned], laidTests := true, laidLooks := .later }
def FnLinesRunUptoCardSaid : Prop := Claim7.holds Tryz.pinned (.plain (OpenSpec.upto fnLinesRunSpec)) fnLinesRunUptoCard
end Rows
end Go.Proofs.YtgfoeiieopnlaaaGreatDoor
