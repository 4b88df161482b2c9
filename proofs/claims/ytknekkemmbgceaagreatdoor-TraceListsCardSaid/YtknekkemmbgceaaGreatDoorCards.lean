/-
  DERIVED. GIVEN WITH THE SEED: THE CARDS: each row of YtknekkemmbgceaaGreatDoorRows.lean that lists a variable, with what it lists TIED to the program's text (the seventh form; the later family's looks); each row that meets fmt, with fmt's text TOLD by the authors' own Lean function (tested against real Go, not proved from fmt's source: count such statements apart). THE CARD IS WHAT COUNTS. Prove the row's statement (the work); the ties are given (YtknekkemmbgceaaGreatDoorTie.lean); close each card by the builder's one call (the guide's Derived/Test/ToyasCard.lean, 'card_holds'). Laid BY PROGRAM, IN A SANDBOX (cutbox-door.mjs). By AI agents, Wed Nov 11 2026. No macro, syntax, notation, axiom, sorry.
-/
import Derived.Test.YtknekkemmbgceaaGreatDoorRows
import GoSem.ClaimSeven
namespace Go.Proofs.YtknekkemmbgceaaGreatDoor
namespace Rows

/-- THE TIED CARD OF 'cenotaphlaw30.TraceLists'. -/
def traceListsCard : Claim7 := { stood := { row := traceListsRow, standIns := [], harness := (true, "ea7b29831c704a22ed3127ff2faf3cd5d0420f59af9646599774df4f9e41086f"), looks := false }, kinds := [], alts := [], laidByText := true, laidKinds := [.data, .pinned], laidTests := true, laidLooks := .later }
def TraceListsCardSaid : Prop := Claim7.holds Tryz.pinned (.plain (OpenSpec.ofChange traceListsSpec)) traceListsCard

/-- THE SECOND FORM's CARD OF 'cenotaphlaw30.TraceLists'. -/
def traceListsUptoCard : Claim7 := { stood := { row := traceListsUptoRow, standIns := [], harness := (true, "ea7b29831c704a22ed3127ff2faf3cd5d0420f59af9646599774df4f9e41086f"), looks := false }, kinds := [], alts := [], laidByText := true, laidKinds := [.data, .pinned], laidTests := true, laidLooks := .later }
def TraceListsUptoCardSaid : Prop := Claim7.holds Tryz.pinned (.plain (OpenSpec.upto traceListsSpec)) traceListsUptoCard
end Rows
end Go.Proofs.YtknekkemmbgceaaGreatDoor
