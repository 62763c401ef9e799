/-
  DERIVED. GIVEN WITH THE SEED: THE CARDS: each row of YtgmeaibdeflimaaGreatDoorRows.lean that lists a variable, with what it lists TIED to the program's text (the seventh form; the later family's looks); each row that meets fmt, with fmt's text TOLD by the authors' own Lean function (tested against real Go, not proved from fmt's source: count such statements apart). THE CARD IS WHAT COUNTS. Prove the row's statement (the work); the ties are given (YtgmeaibdeflimaaGreatDoorTie.lean); close each card by the builder's one call (the guide's Derived/Test/ToyasCard.lean, 'card_holds'). Laid BY PROGRAM, IN A SANDBOX (cutbox-door.mjs). By AI agents, Wed Nov 11 2026. No macro, syntax, notation, axiom, sorry.
-/
import Derived.Test.YtgmeaibdeflimaaGreatDoorRows
import GoSem.ClaimSeven
namespace Go.Proofs.YtgmeaibdeflimaaGreatDoor
namespace Rows

/-- THE TIED CARD OF 'garnerlaw21.RecoverCorrupt'. -/
def recoverCorruptCard : Claim7 := { stood := { row := recoverCorruptRow, standIns := [], harness := (true, "9f12dee3ef537264d99da1e042df96c302a3eb5ccc25bb859444baab87fc417f"), looks := true }, kinds := [], alts := [], laidByText := true, laidKinds := [.data, .data, .data], laidTests := true, laidLooks := .later }
def RecoverCorruptCardSaid : Prop := Claim7.holds Tryz.pinned (.plain (OpenSpec.ofChange recoverCorruptSpec)) recoverCorruptCard

/-- THE SECOND FORM's CARD OF 'garnerlaw21.RecoverCorrupt'. -/
def recoverCorruptUptoCard : Claim7 := { stood := { row := recoverCorruptUptoRow, standIns := [], harness := (true, "9f12dee3ef537264d99da1e042df96c302a3eb5ccc25bb859444baab87fc417f"), looks := true }, kinds := [], alts := [], laidByText := true, laidKinds := [.data, .data, .data], laidTests := true, laidLooks := .later }
def RecoverCorruptUptoCardSaid : Prop := Claim7.holds Tryz.pinned (.plain (OpenSpec.upto recoverCorruptSpec)) recoverCorruptUptoCard
end Rows
end Go.Proofs.YtgmeaibdeflimaaGreatDoor
