/-
  DERIVED. GIVEN WITH THE SEED: THE CARDS: each row of YtpjacndlbjeehaaGreatDoorRows.lean that lists a variable, with what it lists TIED to the program's text (the seventh form; the later family's looks); each row that meets fmt, with fmt's text TOLD by the authors' own Lean function (tested against real Go, not proved from fmt's source: count such statements apart). THE CARD IS WHAT COUNTS. Prove the row's statement (the work); the ties are given (YtpjacndlbjeehaaGreatDoorTie.lean); close each card by the builder's one call (the guide's Derived/Test/ToyasCard.lean, 'card_holds'). Laid BY PROGRAM, IN A SANDBOX (cutbox-door.mjs). By AI agents, Wed Nov 11 2026. No macro, syntax, notation, axiom, sorry.
-/
import Derived.Test.YtpjacndlbjeehaaGreatDoorRows
import GoSem.ClaimSeven
namespace Go.Proofs.YtpjacndlbjeehaaGreatDoor
namespace Rows

/-- THE TIED CARD OF 'spytop.TopMailbox'. -/
def topMailboxCard : Claim7 := { stood := { row := topMailboxRow, standIns := [], harness := (true, "f74fdb1a3036c04b5ccd6c284461b653806a307af1255704e21ae5cd8979d11a"), looks := true }, kinds := [], alts := [], laidByText := true, laidKinds := [.data, .data, .data, .data, .sentinel, .sentinel, .pinned], laidTests := true, laidLooks := .later }
def TopMailboxCardSaid : Prop := Claim7.holds Tryz.pinned (.plain (OpenSpec.ofChange topMailboxSpec)) topMailboxCard

/-- THE SECOND FORM's CARD OF 'spytop.TopMailbox'. -/
def topMailboxUptoCard : Claim7 := { stood := { row := topMailboxUptoRow, standIns := [], harness := (true, "f74fdb1a3036c04b5ccd6c284461b653806a307af1255704e21ae5cd8979d11a"), looks := true }, kinds := [], alts := [], laidByText := true, laidKinds := [.data, .data, .data, .data, .sentinel, .sentinel, .pinned], laidTests := true, laidLooks := .later }
def TopMailboxUptoCardSaid : Prop := Claim7.holds Tryz.pinned (.plain (OpenSpec.upto topMailboxSpec)) topMailboxUptoCard
end Rows
end Go.Proofs.YtpjacndlbjeehaaGreatDoor
