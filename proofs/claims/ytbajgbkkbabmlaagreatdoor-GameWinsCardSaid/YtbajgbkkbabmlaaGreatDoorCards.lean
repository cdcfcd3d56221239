/-
  DERIVED. GIVEN WITH THE SEED: THE CARDS: each row of YtbajgbkkbabmlaaGreatDoorRows.lean that lists a variable, with what it lists TIED to the program's text (the seventh form; the later family's looks); each row that meets fmt, with fmt's text TOLD by the authors' own Lean function (tested against real Go, not proved from fmt's source: count such statements apart). THE CARD IS WHAT COUNTS. Prove the row's statement (the work); the ties are given (YtbajgbkkbabmlaaGreatDoorTie.lean); close each card by the builder's one call (the guide's Derived/Test/ToyasCard.lean, 'card_holds'). Laid BY PROGRAM, IN A SANDBOX (cutbox-door.mjs). By AI agents, Wed Nov 11 2026. No macro, syntax, notation, axiom, sorry.
-/
import Derived.Test.YtbajgbkkbabmlaaGreatDoorRows
import GoSem.ClaimSeven
namespace Go.Proofs.YtbajgbkkbabmlaaGreatDoor
namespace Rows

/-- THE TIED CARD OF 'semblancelaw39.TellOf'. -/
def tellOfCard : Claim7 := { stood := { row := tellOfRow, standIns := [], harness := (true, "a357b03458c5af274fd1b7e8155e93e98ceb6a1d79f1ba7ab48915133d678352"), looks := false }, kinds := [], alts := [], laidByText := true, laidKinds := [.data, .data, .data], laidTests := true, laidLooks := .later }
def TellOfCardSaid : Prop := Claim7.holds Tryz.pinned (.plain (OpenSpec.ofChange tellOfSpec)) tellOfCard

/-- THE TIED CARD OF 'semblancelaw39.TellLeast'. -/
def tellLeastCard : Claim7 := { stood := { row := tellLeastRow, standIns := [], harness := (true, "a357b03458c5af274fd1b7e8155e93e98ceb6a1d79f1ba7ab48915133d678352"), looks := false }, kinds := [], alts := [], laidByText := true, laidKinds := [.data, .data, .data], laidTests := true, laidLooks := .later }
def TellLeastCardSaid : Prop := Claim7.holds Tryz.pinned (.plain (OpenSpec.ofChange tellLeastSpec)) tellLeastCard

/-- THE TIED CARD OF 'semblancelaw58.GamePlays'. -/
def gamePlaysCard : Claim7 := { stood := { row := gamePlaysRow, standIns := [], harness := (true, "a357b03458c5af274fd1b7e8155e93e98ceb6a1d79f1ba7ab48915133d678352"), looks := false }, kinds := [], alts := [], laidByText := true, laidKinds := [.data, .data, .data], laidTests := true, laidLooks := .later }
def GamePlaysCardSaid : Prop := Claim7.holds Tryz.pinned (.plain (OpenSpec.ofChange gamePlaysSpec)) gamePlaysCard

/-- THE TIED CARD OF 'semblancelaw58.GameReplies'. -/
def gameRepliesCard : Claim7 := { stood := { row := gameRepliesRow, standIns := [], harness := (true, "a357b03458c5af274fd1b7e8155e93e98ceb6a1d79f1ba7ab48915133d678352"), looks := false }, kinds := [], alts := [], laidByText := true, laidKinds := [.data, .data, .data], laidTests := true, laidLooks := .later }
def GameRepliesCardSaid : Prop := Claim7.holds Tryz.pinned (.plain (OpenSpec.ofChange gameRepliesSpec)) gameRepliesCard

/-- THE TIED CARD OF 'semblancelaw38.HoldLevels'. -/
def holdLevelsCard : Claim7 := { stood := { row := holdLevelsRow, standIns := [], harness := (true, "a357b03458c5af274fd1b7e8155e93e98ceb6a1d79f1ba7ab48915133d678352"), looks := false }, kinds := [], alts := [], laidByText := true, laidKinds := [.data, .data, .data], laidTests := true, laidLooks := .later }
def HoldLevelsCardSaid : Prop := Claim7.holds Tryz.pinned (.plain (OpenSpec.ofChange holdLevelsSpec)) holdLevelsCard

/-- THE TIED CARD OF 'semblancelaw39.TellApart'. -/
def tellApartCard : Claim7 := { stood := { row := tellApartRow, standIns := [], harness := (true, "a357b03458c5af274fd1b7e8155e93e98ceb6a1d79f1ba7ab48915133d678352"), looks := false }, kinds := [], alts := [], laidByText := true, laidKinds := [.data, .data, .data], laidTests := true, laidLooks := .later }
def TellApartCardSaid : Prop := Claim7.holds Tryz.pinned (.plain (OpenSpec.ofChange tellApartSpec)) tellApartCard

/-- THE TIED CARD OF 'semblancelaw58.GameWins'. -/
def gameWinsCard : Claim7 := { stood := { row := gameWinsRow, standIns := [], harness := (true, "a357b03458c5af274fd1b7e8155e93e98ceb6a1d79f1ba7ab48915133d678352"), looks := false }, kinds := [], alts := [], laidByText := true, laidKinds := [.data, .data, .data], laidTests := true, laidLooks := .later }
def GameWinsCardSaid : Prop := Claim7.holds Tryz.pinned (.plain (OpenSpec.ofChange gameWinsSpec)) gameWinsCard

/-- THE SECOND FORM's CARD OF 'semblancelaw39.TellOf'. -/
def tellOfUptoCard : Claim7 := { stood := { row := tellOfUptoRow, standIns := [], harness := (true, "a357b03458c5af274fd1b7e8155e93e98ceb6a1d79f1ba7ab48915133d678352"), looks := false }, kinds := [], alts := [], laidByText := true, laidKinds := [.data, .data, .data], laidTests := true, laidLooks := .later }
def TellOfUptoCardSaid : Prop := Claim7.holds Tryz.pinned (.plain (OpenSpec.upto tellOfSpec)) tellOfUptoCard

/-- THE SECOND FORM's CARD OF 'semblancelaw39.TellLeast'. -/
def tellLeastUptoCard : Claim7 := { stood := { row := tellLeastUptoRow, standIns := [], harness := (true, "a357b03458c5af274fd1b7e8155e93e98ceb6a1d79f1ba7ab48915133d678352"), looks := false }, kinds := [], alts := [], laidByText := true, laidKinds := [.data, .data, .data], laidTests := true, laidLooks := .later }
def TellLeastUptoCardSaid : Prop := Claim7.holds Tryz.pinned (.plain (OpenSpec.upto tellLeastSpec)) tellLeastUptoCard

/-- THE SECOND FORM's CARD OF 'semblancelaw58.GamePlays'. -/
def gamePlaysUptoCard : Claim7 := { stood := { row := gamePlaysUptoRow, standIns := [], harness := (true, "a357b03458c5af274fd1b7e8155e93e98ceb6a1d79f1ba7ab48915133d678352"), looks := false }, kinds := [], alts := [], laidByText := true, laidKinds := [.data, .data, .data], laidTests := true, laidLooks := .later }
def GamePlaysUptoCardSaid : Prop := Claim7.holds Tryz.pinned (.plain (OpenSpec.upto gamePlaysSpec)) gamePlaysUptoCard

/-- THE SECOND FORM's CARD OF 'semblancelaw58.GameReplies'. -/
def gameRepliesUptoCard : Claim7 := { stood := { row := gameRepliesUptoRow, standIns := [], harness := (true, "a357b03458c5af274fd1b7e8155e93e98ceb6a1d79f1ba7ab48915133d678352"), looks := false }, kinds := [], alts := [], laidByText := true, laidKinds := [.data, .data, .data], laidTests := true, laidLooks := .later }
def GameRepliesUptoCardSaid : Prop := Claim7.holds Tryz.pinned (.plain (OpenSpec.upto gameRepliesSpec)) gameRepliesUptoCard

/-- THE SECOND FORM's CARD OF 'semblancelaw38.HoldLevels'. -/
def holdLevelsUptoCard : Claim7 := { stood := { row := holdLevelsUptoRow, standIns := [], harness := (true, "a357b03458c5af274fd1b7e8155e93e98ceb6a1d79f1ba7ab48915133d678352"), looks := false }, kinds := [], alts := [], laidByText := true, laidKinds := [.data, .data, .data], laidTests := true, laidLooks := .later }
def HoldLevelsUptoCardSaid : Prop := Claim7.holds Tryz.pinned (.plain (OpenSpec.upto holdLevelsSpec)) holdLevelsUptoCard

/-- THE SECOND FORM's CARD OF 'semblancelaw39.TellApart'. -/
def tellApartUptoCard : Claim7 := { stood := { row := tellApartUptoRow, standIns := [], harness := (true, "a357b03458c5af274fd1b7e8155e93e98ceb6a1d79f1ba7ab48915133d678352"), looks := false }, kinds := [], alts := [], laidByText := true, laidKinds := [.data, .data, .data], laidTests := true, laidLooks := .later }
def TellApartUptoCardSaid : Prop := Claim7.holds Tryz.pinned (.plain (OpenSpec.upto tellApartSpec)) tellApartUptoCard

/-- THE SECOND FORM's CARD OF 'semblancelaw58.GameWins'. -/
def gameWinsUptoCard : Claim7 := { stood := { row := gameWinsUptoRow, standIns := [], harness := (true, "a357b03458c5af274fd1b7e8155e93e98ceb6a1d79f1ba7ab48915133d678352"), looks := false }, kinds := [], alts := [], laidByText := true, laidKinds := [.data, .data, .data], laidTests := true, laidLooks := .later }
def GameWinsUptoCardSaid : Prop := Claim7.holds Tryz.pinned (.plain (OpenSpec.upto gameWinsSpec)) gameWinsUptoCard
end Rows
end Go.Proofs.YtbajgbkkbabmlaaGreatDoor
