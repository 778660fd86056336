/-
  DERIVED. GIVEN WITH THE SEED: THE CARDS: each row of YtlkgcnpimnambaaGreatDoorRows.lean that lists a variable, with what it lists TIED to the program's text (the seventh form; the later family's looks); each row that meets fmt, with fmt's text TOLD by the authors' own Lean function (tested against real Go, not proved from fmt's source: count such statements apart). THE CARD IS WHAT COUNTS. Prove the row's statement (the work); the ties are given (YtlkgcnpimnambaaGreatDoorTie.lean); close each card by the builder's one call (the guide's Derived/Test/ToyasCard.lean, 'card_holds'). Laid BY PROGRAM, IN A SANDBOX (cutbox-door.mjs). By AI agents, Wed Nov 11 2026. No macro, syntax, notation, axiom, sorry.
-/
import Derived.Test.YtlkgcnpimnambaaGreatDoorRows
import GoSem.ClaimSeven
namespace Go.Proofs.YtlkgcnpimnambaaGreatDoor
namespace Rows

/-- THE TIED CARD OF 'loupelaw22.RelationNil'. -/
def relationNilCard : Claim7 := { stood := { row := relationNilRow, standIns := [], harness := (true, "ff95e9440c809b83fd16a8ffe0ac95c99880793de48c6278811fad5014098f32"), looks := true }, kinds := [], alts := [], laidByText := true, laidKinds := [.data, .data, .data, .data, .sentinel, .sentinel, .pinned], laidTests := true, laidLooks := .later }
def RelationNilCardSaid : Prop := Claim7.holds Tryz.pinned (.plain (OpenSpec.ofChange relationNilSpec)) relationNilCard

/-- THE SECOND FORM's CARD OF 'loupelaw22.RelationNil'. -/
def relationNilUptoCard : Claim7 := { stood := { row := relationNilUptoRow, standIns := [], harness := (true, "ff95e9440c809b83fd16a8ffe0ac95c99880793de48c6278811fad5014098f32"), looks := true }, kinds := [], alts := [], laidByText := true, laidKinds := [.data, .data, .data, .data, .sentinel, .sentinel, .pinned], laidTests := true, laidLooks := .later }
def RelationNilUptoCardSaid : Prop := Claim7.holds Tryz.pinned (.plain (OpenSpec.upto relationNilSpec)) relationNilUptoCard
end Rows
end Go.Proofs.YtlkgcnpimnambaaGreatDoor
