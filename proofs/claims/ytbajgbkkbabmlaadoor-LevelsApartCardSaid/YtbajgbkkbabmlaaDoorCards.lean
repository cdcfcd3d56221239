/-
  DERIVED. GIVEN WITH THE SEED: THE CARDS: each row of YtbajgbkkbabmlaaDoorRows.lean that lists a variable, with what it lists TIED to the program's text (the seventh form; the later family's looks); each row that meets fmt, with fmt's text TOLD by the authors' own Lean function (tested against real Go, not proved from fmt's source: count such statements apart). THE CARD IS WHAT COUNTS. Prove the row's statement (the work); the ties are given (YtbajgbkkbabmlaaDoorTie.lean); close each card by the builder's one call (the guide's Derived/Test/ToyasCard.lean, 'card_holds'). Laid BY PROGRAM, IN A SANDBOX (cutbox-door.mjs). By AI agents, Wed Nov 11 2026. No macro, syntax, notation, axiom, sorry.
-/
import Derived.Test.YtbajgbkkbabmlaaDoorRows
import GoSem.ClaimSeven
namespace Go.Proofs.YtbajgbkkbabmlaaDoor
namespace Rows

/-- THE TIED CARD OF 'semblancelaw32.SignOf'. -/
def signOfCard : Claim7 := { stood := { row := signOfRow, standIns := [], harness := (true, "7a489c009b37f62bcf9c09e14d883c15ca5660a5fd013ec801e6419b8a42f085"), looks := false }, kinds := [], alts := [], laidByText := true, laidKinds := [.data, .data, .data], laidTests := true, laidLooks := .later }
def SignOfCardSaid : Prop := Claim7.holds Tryd.pinned (.plain (OpenSpec.ofChange signOfSpec)) signOfCard

/-- THE TIED CARD OF 'semblancelaw32.SignSteps'. -/
def signStepsCard : Claim7 := { stood := { row := signStepsRow, standIns := [], harness := (true, "7a489c009b37f62bcf9c09e14d883c15ca5660a5fd013ec801e6419b8a42f085"), looks := false }, kinds := [], alts := [], laidByText := true, laidKinds := [.data, .data, .data], laidTests := true, laidLooks := .later }
def SignStepsCardSaid : Prop := Claim7.holds Tryd.pinned (.plain (OpenSpec.ofChange signStepsSpec)) signStepsCard

/-- THE TIED CARD OF 'semblancelaw33.LevelsOf'. -/
def levelsOfCard : Claim7 := { stood := { row := levelsOfRow, standIns := [], harness := (true, "7a489c009b37f62bcf9c09e14d883c15ca5660a5fd013ec801e6419b8a42f085"), looks := false }, kinds := [], alts := [], laidByText := true, laidKinds := [.data, .data, .data], laidTests := true, laidLooks := .later }
def LevelsOfCardSaid : Prop := Claim7.holds Tryd.pinned (.plain (OpenSpec.ofChange levelsOfSpec)) levelsOfCard

/-- THE TIED CARD OF 'semblancelaw33.LevelsShow'. -/
def levelsShowCard : Claim7 := { stood := { row := levelsShowRow, standIns := [], harness := (true, "7a489c009b37f62bcf9c09e14d883c15ca5660a5fd013ec801e6419b8a42f085"), looks := false }, kinds := [], alts := [], laidByText := true, laidKinds := [.data, .data, .data], laidTests := true, laidLooks := .later }
def LevelsShowCardSaid : Prop := Claim7.holds Tryd.pinned (.plain (OpenSpec.ofChange levelsShowSpec)) levelsShowCard

/-- THE TIED CARD OF 'semblancelaw33.LevelsLast'. -/
def levelsLastCard : Claim7 := { stood := { row := levelsLastRow, standIns := [], harness := (true, "7a489c009b37f62bcf9c09e14d883c15ca5660a5fd013ec801e6419b8a42f085"), looks := false }, kinds := [], alts := [], laidByText := true, laidKinds := [.data, .data, .data], laidTests := true, laidLooks := .later }
def LevelsLastCardSaid : Prop := Claim7.holds Tryd.pinned (.plain (OpenSpec.ofChange levelsLastSpec)) levelsLastCard

/-- THE TIED CARD OF 'semblancelaw33.LevelsApart'. -/
def levelsApartCard : Claim7 := { stood := { row := levelsApartRow, standIns := [], harness := (true, "7a489c009b37f62bcf9c09e14d883c15ca5660a5fd013ec801e6419b8a42f085"), looks := false }, kinds := [], alts := [], laidByText := true, laidKinds := [.data, .data, .data], laidTests := true, laidLooks := .later }
def LevelsApartCardSaid : Prop := Claim7.holds Tryd.pinned (.plain (OpenSpec.ofChange levelsApartSpec)) levelsApartCard

/-- THE TIED CARD OF 'semblancelaw34.RefineLevels'. -/
def refineLevelsCard : Claim7 := { stood := { row := refineLevelsRow, standIns := [], harness := (true, "7a489c009b37f62bcf9c09e14d883c15ca5660a5fd013ec801e6419b8a42f085"), looks := false }, kinds := [], alts := [], laidByText := true, laidKinds := [.data, .data, .data], laidTests := true, laidLooks := .later }
def RefineLevelsCardSaid : Prop := Claim7.holds Tryd.pinned (.plain (OpenSpec.ofChange refineLevelsSpec)) refineLevelsCard

/-- THE SECOND FORM's CARD OF 'semblancelaw32.SignOf'. -/
def signOfUptoCard : Claim7 := { stood := { row := signOfUptoRow, standIns := [], harness := (true, "7a489c009b37f62bcf9c09e14d883c15ca5660a5fd013ec801e6419b8a42f085"), looks := false }, kinds := [], alts := [], laidByText := true, laidKinds := [.data, .data, .data], laidTests := true, laidLooks := .later }
def SignOfUptoCardSaid : Prop := Claim7.holds Tryd.pinned (.plain (OpenSpec.upto signOfSpec)) signOfUptoCard

/-- THE SECOND FORM's CARD OF 'semblancelaw32.SignSteps'. -/
def signStepsUptoCard : Claim7 := { stood := { row := signStepsUptoRow, standIns := [], harness := (true, "7a489c009b37f62bcf9c09e14d883c15ca5660a5fd013ec801e6419b8a42f085"), looks := false }, kinds := [], alts := [], laidByText := true, laidKinds := [.data, .data, .data], laidTests := true, laidLooks := .later }
def SignStepsUptoCardSaid : Prop := Claim7.holds Tryd.pinned (.plain (OpenSpec.upto signStepsSpec)) signStepsUptoCard

/-- THE SECOND FORM's CARD OF 'semblancelaw33.LevelsOf'. -/
def levelsOfUptoCard : Claim7 := { stood := { row := levelsOfUptoRow, standIns := [], harness := (true, "7a489c009b37f62bcf9c09e14d883c15ca5660a5fd013ec801e6419b8a42f085"), looks := false }, kinds := [], alts := [], laidByText := true, laidKinds := [.data, .data, .data], laidTests := true, laidLooks := .later }
def LevelsOfUptoCardSaid : Prop := Claim7.holds Tryd.pinned (.plain (OpenSpec.upto levelsOfSpec)) levelsOfUptoCard

/-- THE SECOND FORM's CARD OF 'semblancelaw33.LevelsShow'. -/
def levelsShowUptoCard : Claim7 := { stood := { row := levelsShowUptoRow, standIns := [], harness := (true, "7a489c009b37f62bcf9c09e14d883c15ca5660a5fd013ec801e6419b8a42f085"), looks := false }, kinds := [], alts := [], laidByText := true, laidKinds := [.data, .data, .data], laidTests := true, laidLooks := .later }
def LevelsShowUptoCardSaid : Prop := Claim7.holds Tryd.pinned (.plain (OpenSpec.upto levelsShowSpec)) levelsShowUptoCard

/-- THE SECOND FORM's CARD OF 'semblancelaw33.LevelsLast'. -/
def levelsLastUptoCard : Claim7 := { stood := { row := levelsLastUptoRow, standIns := [], harness := (true, "7a489c009b37f62bcf9c09e14d883c15ca5660a5fd013ec801e6419b8a42f085"), looks := false }, kinds := [], alts := [], laidByText := true, laidKinds := [.data, .data, .data], laidTests := true, laidLooks := .later }
def LevelsLastUptoCardSaid : Prop := Claim7.holds Tryd.pinned (.plain (OpenSpec.upto levelsLastSpec)) levelsLastUptoCard

/-- THE SECOND FORM's CARD OF 'semblancelaw33.LevelsApart'. -/
def levelsApartUptoCard : Claim7 := { stood := { row := levelsApartUptoRow, standIns := [], harness := (true, "7a489c009b37f62bcf9c09e14d883c15ca5660a5fd013ec801e6419b8a42f085"), looks := false }, kinds := [], alts := [], laidByText := true, laidKinds := [.data, .data, .data], laidTests := true, laidLooks := .later }
def LevelsApartUptoCardSaid : Prop := Claim7.holds Tryd.pinned (.plain (OpenSpec.upto levelsApartSpec)) levelsApartUptoCard

/-- THE SECOND FORM's CARD OF 'semblancelaw34.RefineLevels'. -/
def refineLevelsUptoCard : Claim7 := { stood := { row := refineLevelsUptoRow, standIns := [], harness := (true, "7a489c009b37f62bcf9c09e14d883c15ca5660a5fd013ec801e6419b8a42f085"), looks := false }, kinds := [], alts := [], laidByText := true, laidKinds := [.data, .data, .data], laidTests := true, laidLooks := .later }
def RefineLevelsUptoCardSaid : Prop := Claim7.holds Tryd.pinned (.plain (OpenSpec.upto refineLevelsSpec)) refineLevelsUptoCard
end Rows
end Go.Proofs.YtbajgbkkbabmlaaDoor
