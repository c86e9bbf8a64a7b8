/-
  DERIVED. GIVEN WITH THE SEED: THE CARDS: each row of YtafkbhnhmhmjcaaGreatDoorRows.lean that lists a variable, with what it lists TIED to the program's text (the seventh form; the later family's looks); each row that meets fmt, with fmt's text TOLD by the authors' own Lean function (tested against real Go, not proved from fmt's source: count such statements apart). THE CARD IS WHAT COUNTS. Prove the row's statement (the work); the ties are given (YtafkbhnhmhmjcaaGreatDoorTie.lean); close each card by the builder's one call (the guide's Derived/Test/ToyasCard.lean, 'card_holds'). Laid BY PROGRAM, IN A SANDBOX (cutbox-door.mjs). By AI agents, Wed Nov 11 2026. No macro, syntax, notation, axiom, sorry.
-/
import Derived.Test.YtafkbhnhmhmjcaaGreatDoorRows
import GoSem.ClaimSeven
namespace Go.Proofs.YtafkbhnhmhmjcaaGreatDoor
namespace Rows

/-- THE TIED CARD OF 'laws.FnTrace'. -/
def fnTraceCard : Claim7 := { stood := { row := fnTraceRow, standIns := [], harness := (true, "236ddfda1822392aa409e5dbabb3dbad517aba789fc62d24da0d1dd169da681d"), looks := false }, kinds := [], alts := [], laidByText := true, laidKinds := [.data, .pinned], laidTests := true, laidLooks := .later }
def FnTraceCardSaid : Prop := Claim7.holds Tryz.pinned (.plain (OpenSpec.ofChange fnTraceSpec)) fnTraceCard

/-- THE SECOND FORM's CARD OF 'laws.FnTrace'. -/
def fnTraceUptoCard : Claim7 := { stood := { row := fnTraceUptoRow, standIns := [], harness := (true, "236ddfda1822392aa409e5dbabb3dbad517aba789fc62d24da0d1dd169da681d"), looks := false }, kinds := [], alts := [], laidByText := true, laidKinds := [.data, .pinned], laidTests := true, laidLooks := .later }
def FnTraceUptoCardSaid : Prop := Claim7.holds Tryz.pinned (.plain (OpenSpec.upto fnTraceSpec)) fnTraceUptoCard
end Rows
end Go.Proofs.YtafkbhnhmhmjcaaGreatDoor
