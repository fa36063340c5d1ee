/-
  DERIVED. GIVEN WITH THE SEED: THE CARDS: each row of YtgfpiijpgpkoiaaDoorRows.lean that lists a variable, with what it lists TIED to the program's text (the seventh form; the later family's looks); each row that meets fmt, with fmt's text TOLD by the authors' own Lean function (tested against real Go, not proved from fmt's source: count such statements apart). THE CARD IS WHAT COUNTS. Prove the row's statement (the work); the ties are given (YtgfpiijpgpkoiaaDoorTie.lean); close each card by the builder's one call (the guide's Derived/Test/ToyasCard.lean, 'card_holds'). Laid BY PROGRAM, IN A SANDBOX (cutbox-door.mjs). By AI agents, Wed Nov 11 2026. No macro, syntax, notation, axiom, sorry.
-/
import Derived.Test.YtgfpiijpgpkoiaaDoorRows
import GoSem.ClaimSeven
namespace Go.Proofs.YtgfpiijpgpkoiaaDoor
namespace Rows

/-- THE TIED CARD OF 'laws.FnExactHex'. -/
def fnExactHexCard : Claim7 := { stood := { row := fnExactHexRow, standIns := [], harness := (true, "bd738da24c6708921ab6aacf81649035fa3a8eb12522331b66135ebd9bd5c9e5"), looks := false }, kinds := [], alts := [], laidByText := true, laidKinds := [.data, .data, .data], laidTests := true, laidLooks := .later }
def FnExactHexCardSaid : Prop := Claim7.holds Tryd.pinned (.plain (OpenSpec.ofChange fnExactHexSpec)) fnExactHexCard

/-- THE TIED CARD OF 'laws.FnExactTrim'. -/
def fnExactTrimCard : Claim7 := { stood := { row := fnExactTrimRow, standIns := [], harness := (true, "bd738da24c6708921ab6aacf81649035fa3a8eb12522331b66135ebd9bd5c9e5"), looks := false }, kinds := [], alts := [], laidByText := true, laidKinds := [.data, .pinned], laidTests := true, laidLooks := .later }
def FnExactTrimCardSaid : Prop := Claim7.holds Tryd.pinned (.plain (OpenSpec.ofChange fnExactTrimSpec)) fnExactTrimCard

/-- THE TIED CARD OF 'laws.FnExactPutChunks'. -/
def fnExactPutChunksCard : Claim7 := { stood := { row := fnExactPutChunksRow, standIns := [], harness := (true, "bd738da24c6708921ab6aacf81649035fa3a8eb12522331b66135ebd9bd5c9e5"), looks := false }, kinds := [], alts := [], laidByText := true, laidKinds := [.data, .data, .data], laidTests := true, laidLooks := .later }
def FnExactPutChunksCardSaid : Prop := Claim7.holds Tryd.pinned (.plain (OpenSpec.ofChange fnExactPutChunksSpec)) fnExactPutChunksCard

/-- THE TIED CARD OF 'laws.FnKinds'. -/
def fnKindsCard : Claim7 := { stood := { row := fnKindsRow, standIns := [], harness := (true, "bd738da24c6708921ab6aacf81649035fa3a8eb12522331b66135ebd9bd5c9e5"), looks := false }, kinds := [], alts := [], laidByText := true, laidKinds := [.data, .data, .data], laidTests := true, laidLooks := .later }
def FnKindsCardSaid : Prop := Claim7.holds Tryd.pinned (.plain (OpenSpec.ofChange fnKindsSpec)) fnKindsCard

/-- THE SECOND FORM's CARD OF 'laws.FnExactHex'. -/
def fnExactHexUptoCard : Claim7 := { stood := { row := fnExactHexUptoRow, standIns := [], harness := (true, "bd738da24c6708921ab6aacf81649035fa3a8eb12522331b66135ebd9bd5c9e5"), looks := false }, kinds := [], alts := [], laidByText := true, laidKinds := [.data, .data, .data], laidTests := true, laidLooks := .later }
def FnExactHexUptoCardSaid : Prop := Claim7.holds Tryd.pinned (.plain (OpenSpec.upto fnExactHexSpec)) fnExactHexUptoCard

/-- THE SECOND FORM's CARD OF 'laws.FnExactTrim'. -/
def fnExactTrimUptoCard : Claim7 := { stood := { row := fnExactTrimUptoRow, standIns := [], harness := (true, "bd738da24c6708921ab6aacf81649035fa3a8eb12522331b66135ebd9bd5c9e5"), looks := false }, kinds := [], alts := [], laidByText := true, laidKinds := [.data, .pinned], laidTests := true, laidLooks := .later }
def FnExactTrimUptoCardSaid : Prop := Claim7.holds Tryd.pinned (.plain (OpenSpec.upto fnExactTrimSpec)) fnExactTrimUptoCard

/-- THE SECOND FORM's CARD OF 'laws.FnExactPutChunks'. -/
def fnExactPutChunksUptoCard : Claim7 := { stood := { row := fnExactPutChunksUptoRow, standIns := [], harness := (true, "bd738da24c6708921ab6aacf81649035fa3a8eb12522331b66135ebd9bd5c9e5"), looks := false }, kinds := [], alts := [], laidByText := true, laidKinds := [.data, .data, .data], laidTests := true, laidLooks := .later }
def FnExactPutChunksUptoCardSaid : Prop := Claim7.holds Tryd.pinned (.plain (OpenSpec.upto fnExactPutChunksSpec)) fnExactPutChunksUptoCard

/-- THE SECOND FORM's CARD OF 'laws.FnKinds'. -/
def fnKindsUptoCard : Claim7 := { stood := { row := fnKindsUptoRow, standIns := [], harness := (true, "bd738da24c6708921ab6aacf81649035fa3a8eb12522331b66135ebd9bd5c9e5"), looks := false }, kinds := [], alts := [], laidByText := true, laidKinds := [.data, .data, .data], laidTests := true, laidLooks := .later }
def FnKindsUptoCardSaid : Prop := Claim7.holds Tryd.pinned (.plain (OpenSpec.upto fnKindsSpec)) fnKindsUptoCard
end Rows
end Go.Proofs.YtgfpiijpgpkoiaaDoor
