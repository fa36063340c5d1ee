/-
  DERIVED. GIVEN WITH THE SEED: THE CARDS: each row of YtkjlbkfnhmeoeabDoorRows.lean that lists a variable, with what it lists TIED to the program's text (the seventh form; the later family's looks); each row that meets fmt, with fmt's text TOLD by the authors' own Lean function (tested against real Go, not proved from fmt's source: count such statements apart). THE CARD IS WHAT COUNTS. Prove the row's statement (the work); the ties are given (YtkjlbkfnhmeoeabDoorTie.lean); close each card by the builder's one call (the guide's Derived/Test/ToyasCard.lean, 'card_holds'). Laid BY PROGRAM, IN A SANDBOX (cutbox-door.mjs). By AI agents, Wed Nov 11 2026. No macro, syntax, notation, axiom, sorry.
-/
import Derived.Test.YtkjlbkfnhmeoeabDoorRows
import GoSem.ClaimSeven
namespace Go.Proofs.YtkjlbkfnhmeoeabDoor
namespace Rows

/-- THE TIED CARD OF 'laws.FnExactNumText'. -/
def fnExactNumTextCard : Claim7 := { stood := { row := fnExactNumTextRow, standIns := [], harness := (true, "94477e06d0ef343c781bf1faa438f3ec98e37cd37f019dea23ab94cfb26f185b"), looks := false }, kinds := [], alts := [], laidByText := true, laidKinds := [.data, .data, .data], laidTests := true, laidLooks := .later }
def FnExactNumTextCardSaid : Prop := Claim7.holds Tryd.pinned (.plain (OpenSpec.ofChange fnExactNumTextSpec)) fnExactNumTextCard

/-- THE TIED CARD OF 'laws.FnExactHex'. -/
def fnExactHexCard : Claim7 := { stood := { row := fnExactHexRow, standIns := [], harness := (true, "94477e06d0ef343c781bf1faa438f3ec98e37cd37f019dea23ab94cfb26f185b"), looks := false }, kinds := [], alts := [], laidByText := true, laidKinds := [.data, .data, .data], laidTests := true, laidLooks := .later }
def FnExactHexCardSaid : Prop := Claim7.holds Tryd.pinned (.plain (OpenSpec.ofChange fnExactHexSpec)) fnExactHexCard

/-- THE TIED CARD OF 'laws.FnExactTrim'. -/
def fnExactTrimCard : Claim7 := { stood := { row := fnExactTrimRow, standIns := [], harness := (true, "94477e06d0ef343c781bf1faa438f3ec98e37cd37f019dea23ab94cfb26f185b"), looks := false }, kinds := [], alts := [], laidByText := true, laidKinds := [.data, .pinned], laidTests := true, laidLooks := .later }
def FnExactTrimCardSaid : Prop := Claim7.holds Tryd.pinned (.plain (OpenSpec.ofChange fnExactTrimSpec)) fnExactTrimCard

/-- THE TIED CARD OF 'laws.FnExactPutChunks'. -/
def fnExactPutChunksCard : Claim7 := { stood := { row := fnExactPutChunksRow, standIns := [], harness := (true, "94477e06d0ef343c781bf1faa438f3ec98e37cd37f019dea23ab94cfb26f185b"), looks := false }, kinds := [], alts := [], laidByText := true, laidKinds := [.data, .data, .data], laidTests := true, laidLooks := .later }
def FnExactPutChunksCardSaid : Prop := Claim7.holds Tryd.pinned (.plain (OpenSpec.ofChange fnExactPutChunksSpec)) fnExactPutChunksCard

/-- THE SECOND FORM's CARD OF 'laws.FnExactNumText'. -/
def fnExactNumTextUptoCard : Claim7 := { stood := { row := fnExactNumTextUptoRow, standIns := [], harness := (true, "94477e06d0ef343c781bf1faa438f3ec98e37cd37f019dea23ab94cfb26f185b"), looks := false }, kinds := [], alts := [], laidByText := true, laidKinds := [.data, .data, .data], laidTests := true, laidLooks := .later }
def FnExactNumTextUptoCardSaid : Prop := Claim7.holds Tryd.pinned (.plain (OpenSpec.upto fnExactNumTextSpec)) fnExactNumTextUptoCard

/-- THE SECOND FORM's CARD OF 'laws.FnExactHex'. -/
def fnExactHexUptoCard : Claim7 := { stood := { row := fnExactHexUptoRow, standIns := [], harness := (true, "94477e06d0ef343c781bf1faa438f3ec98e37cd37f019dea23ab94cfb26f185b"), looks := false }, kinds := [], alts := [], laidByText := true, laidKinds := [.data, .data, .data], laidTests := true, laidLooks := .later }
def FnExactHexUptoCardSaid : Prop := Claim7.holds Tryd.pinned (.plain (OpenSpec.upto fnExactHexSpec)) fnExactHexUptoCard

/-- THE SECOND FORM's CARD OF 'laws.FnExactTrim'. -/
def fnExactTrimUptoCard : Claim7 := { stood := { row := fnExactTrimUptoRow, standIns := [], harness := (true, "94477e06d0ef343c781bf1faa438f3ec98e37cd37f019dea23ab94cfb26f185b"), looks := false }, kinds := [], alts := [], laidByText := true, laidKinds := [.data, .pinned], laidTests := true, laidLooks := .later }
def FnExactTrimUptoCardSaid : Prop := Claim7.holds Tryd.pinned (.plain (OpenSpec.upto fnExactTrimSpec)) fnExactTrimUptoCard

/-- THE SECOND FORM's CARD OF 'laws.FnExactPutChunks'. -/
def fnExactPutChunksUptoCard : Claim7 := { stood := { row := fnExactPutChunksUptoRow, standIns := [], harness := (true, "94477e06d0ef343c781bf1faa438f3ec98e37cd37f019dea23ab94cfb26f185b"), looks := false }, kinds := [], alts := [], laidByText := true, laidKinds := [.data, .data, .data], laidTests := true, laidLooks := .later }
def FnExactPutChunksUptoCardSaid : Prop := Claim7.holds Tryd.pinned (.plain (OpenSpec.upto fnExactPutChunksSpec)) fnExactPutChunksUptoCard
end Rows
end Go.Proofs.YtkjlbkfnhmeoeabDoor
