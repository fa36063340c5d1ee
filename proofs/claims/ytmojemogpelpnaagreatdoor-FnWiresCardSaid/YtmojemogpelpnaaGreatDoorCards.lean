/-
  DERIVED. GIVEN WITH THE SEED: THE CARDS: each row of YtmojemogpelpnaaGreatDoorRows.lean that lists a variable, with what it lists TIED to the program's text (the seventh form; the later family's looks); each row that meets fmt, with fmt's text TOLD by the authors' own Lean function (tested against real Go, not proved from fmt's source: count such statements apart). THE CARD IS WHAT COUNTS. Prove the row's statement (the work); the ties are given (YtmojemogpelpnaaGreatDoorTie.lean); close each card by the builder's one call (the guide's Derived/Test/ToyasCard.lean, 'card_holds'). Laid BY PROGRAM, IN A SANDBOX (cutbox-door.mjs). By AI agents, Wed Nov 11 2026. No macro, syntax, notation, axiom, sorry.
-/
import Derived.Test.YtmojemogpelpnaaGreatDoorRows
import GoSem.ClaimSeven
namespace Go.Proofs.YtmojemogpelpnaaGreatDoor
namespace Rows

/-- THE TIED CARD OF 'laws.FnWires'. -/
def fnWiresCard : Claim7 := { stood := { row := fnWiresRow, standIns := [], harness := (true, "eac10a893f740fe69c6964d3861947707b5904aae825eebd7fae663d19a172be"), looks := true }, kinds := [], alts := [], laidByText := true, laidKinds := [.data, .data, .data, .data, .sentinel, .sentinel, .pinned], laidTests := true, laidLooks := .later }
def FnWiresCardSaid : Prop := Claim7.holds Tryz.pinned (.plain (OpenSpec.ofChange fnWiresSpec)) fnWiresCard

/-- THE SECOND FORM's CARD OF 'laws.FnWires'. -/
def fnWiresUptoCard : Claim7 := { stood := { row := fnWiresUptoRow, standIns := [], harness := (true, "eac10a893f740fe69c6964d3861947707b5904aae825eebd7fae663d19a172be"), looks := true }, kinds := [], alts := [], laidByText := true, laidKinds := [.data, .data, .data, .data, .sentinel, .sentinel, .pinned], laidTests := true, laidLooks := .later }
def FnWiresUptoCardSaid : Prop := Claim7.holds Tryz.pinned (.plain (OpenSpec.upto fnWiresSpec)) fnWiresUptoCard
end Rows
end Go.Proofs.YtmojemogpelpnaaGreatDoor
