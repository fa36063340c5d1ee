/-
  No cell of these rows narrows 'for every input' (looked for: loops, veiled, ifaces, maps, wideKeys, modest, calm, conditions, laid).
  DERIVED. THE GIVEN ROWS OF THIS SEAT. 6 by the template 'for every input the law returns true; each argument reads behind the call as it read before'; 0 by the template 'total and deterministic' (their statements: YtiabdcachfpgpaaTotals.lean).
  GIVEN WITH THE SEED: the statements are not yours to turn. If you find one false, say at which input.
  Laid BY PROGRAM, IN A SANDBOX (cutbox-rows.mjs): the forced cells as the released guide's own fill.sh prints them over the translation e360c6d43ea51119… (all of the seat's roots in one cut). By AI agents, Wed Nov 11 2026. No macro, syntax, notation, axiom, sorry.
-/
import Derived.Test.YtiabdcachfpgpaaChecked
import GoSem.Claim
import GoSem.ClaimJoined
import GoSem.ClaimMapViews
import Derived.JoinedTies
import Derived.KernelRfl
namespace Go.Proofs.Ytiabdcachfpgpaa
/- THE CELL 'sum', in the pinned program and in every row, IS THE sha256 OF THE DUMP (.gsa) THAT YtiabdcachfpgpaaProg.lean LOADS. Nothing in Lean hashes anything: it is a label: what it is worth is what the hold of that sum in a sandbox is worth. -/
noncomputable def Try.pinned : Pinned := { name := "ytiabdcachfpgpaa", sum := "e360c6d43ea51119b51a26d56d7e32b50c75e78bd3f8c407440c6620374b556b", checked := Try.checked }
namespace Rows
def none {H : Type} : Left H := { results := [], args := [] }

/-- 'laws.FnExactConstants': WHATEVER THE INPUT: true; the input reads as it did. -/
def fnExactConstantsSpec : ChangeSpec := { name := "fnExactConstants", fn := fun _ => fun
  | [] => { results := [.lit (.bool true)], args := [] }
  | _ => none }
def fnExactConstantsRow : OpenClaim := { program := "ytiabdcachfpgpaa", sum := "e360c6d43ea51119b51a26d56d7e32b50c75e78bd3f8c407440c6620374b556b", func := "loop.example/g00452/laws.FnExactConstants", spec := "fnExactConstants", apart := false }
def FnExactConstantsSaid : Prop := fnExactConstantsRow.holds Try.pinned (OpenSpec.ofChange fnExactConstantsSpec)

/-- ITS FALSE NEIGHBOUR: 'it returns false'. Refute it at one input. -/
def fnExactConstantsWrong : ChangeSpec := { name := "fnExactConstants", fn := fun _ => fun
  | [] => { results := [.lit (.bool false)], args := [] }
  | _ => none }
def FnExactConstantsWrongFalsely : Prop := fnExactConstantsRow.holds Try.pinned (OpenSpec.ofChange fnExactConstantsWrong)

/-- 'laws.FnExactPlain': WHATEVER THE INPUT: true; the input reads as it did. -/
def fnExactPlainSpec : ChangeSpec := { name := "fnExactPlain", fn := fun _ => fun
  | [d] => { results := [.lit (.bool true)], args := [d] }
  | _ => none }
def fnExactPlainRow : OpenClaim := { program := "ytiabdcachfpgpaa", sum := "e360c6d43ea51119b51a26d56d7e32b50c75e78bd3f8c407440c6620374b556b", func := "loop.example/g00452/laws.FnExactPlain", spec := "fnExactPlain", apart := false }
def FnExactPlainSaid : Prop := fnExactPlainRow.holds Try.pinned (OpenSpec.ofChange fnExactPlainSpec)

/-- ITS FALSE NEIGHBOUR: 'it returns false'. Refute it at one input. -/
def fnExactPlainWrong : ChangeSpec := { name := "fnExactPlain", fn := fun _ => fun
  | [d] => { results := [.lit (.bool false)], args := [d] }
  | _ => none }
def FnExactPlainWrongFalsely : Prop := fnExactPlainRow.holds Try.pinned (OpenSpec.ofChange fnExactPlainWrong)

/-- 'laws.FnExactSmallName': WHATEVER THE INPUT: true; the input reads as it did. -/
def fnExactSmallNameSpec : ChangeSpec := { name := "fnExactSmallName", fn := fun _ => fun
  | [d] => { results := [.lit (.bool true)], args := [d] }
  | _ => none }
def fnExactSmallNameRow : OpenClaim := { program := "ytiabdcachfpgpaa", sum := "e360c6d43ea51119b51a26d56d7e32b50c75e78bd3f8c407440c6620374b556b", func := "loop.example/g00452/laws.FnExactSmallName", spec := "fnExactSmallName", apart := false }
def FnExactSmallNameSaid : Prop := fnExactSmallNameRow.holds Try.pinned (OpenSpec.ofChange fnExactSmallNameSpec)

/-- ITS FALSE NEIGHBOUR: 'it returns false'. Refute it at one input. -/
def fnExactSmallNameWrong : ChangeSpec := { name := "fnExactSmallName", fn := fun _ => fun
  | [d] => { results := [.lit (.bool false)], args := [d] }
  | _ => none }
def FnExactSmallNameWrongFalsely : Prop := fnExactSmallNameRow.holds Try.pinned (OpenSpec.ofChange fnExactSmallNameWrong)

/-- 'laws.FnExactLower': WHATEVER THE INPUT: true; the input reads as it did. -/
def fnExactLowerSpec : ChangeSpec := { name := "fnExactLower", fn := fun _ => fun
  | [d] => { results := [.lit (.bool true)], args := [d] }
  | _ => none }
def fnExactLowerRow : OpenClaim := { program := "ytiabdcachfpgpaa", sum := "e360c6d43ea51119b51a26d56d7e32b50c75e78bd3f8c407440c6620374b556b", func := "loop.example/g00452/laws.FnExactLower", spec := "fnExactLower", apart := false }
def FnExactLowerSaid : Prop := fnExactLowerRow.holds Try.pinned (OpenSpec.ofChange fnExactLowerSpec)

/-- ITS FALSE NEIGHBOUR: 'it returns false'. Refute it at one input. -/
def fnExactLowerWrong : ChangeSpec := { name := "fnExactLower", fn := fun _ => fun
  | [d] => { results := [.lit (.bool false)], args := [d] }
  | _ => none }
def FnExactLowerWrongFalsely : Prop := fnExactLowerRow.holds Try.pinned (OpenSpec.ofChange fnExactLowerWrong)

/-- 'laws.FnExactEscape': WHATEVER THE INPUT: true; the input reads as it did. -/
def fnExactEscapeSpec : ChangeSpec := { name := "fnExactEscape", fn := fun _ => fun
  | [d] => { results := [.lit (.bool true)], args := [d] }
  | _ => none }
def fnExactEscapeRow : OpenClaim := { program := "ytiabdcachfpgpaa", sum := "e360c6d43ea51119b51a26d56d7e32b50c75e78bd3f8c407440c6620374b556b", func := "loop.example/g00452/laws.FnExactEscape", spec := "fnExactEscape", apart := false }
def FnExactEscapeSaid : Prop := fnExactEscapeRow.holds Try.pinned (OpenSpec.ofChange fnExactEscapeSpec)

/-- ITS FALSE NEIGHBOUR: 'it returns false'. Refute it at one input. -/
def fnExactEscapeWrong : ChangeSpec := { name := "fnExactEscape", fn := fun _ => fun
  | [d] => { results := [.lit (.bool false)], args := [d] }
  | _ => none }
def FnExactEscapeWrongFalsely : Prop := fnExactEscapeRow.holds Try.pinned (OpenSpec.ofChange fnExactEscapeWrong)

/-- 'laws.FnExactQuote': WHATEVER THE INPUT: true; the input reads as it did. -/
def fnExactQuoteSpec : ChangeSpec := { name := "fnExactQuote", fn := fun _ => fun
  | [d] => { results := [.lit (.bool true)], args := [d] }
  | _ => none }
def fnExactQuoteRow : OpenClaim := { program := "ytiabdcachfpgpaa", sum := "e360c6d43ea51119b51a26d56d7e32b50c75e78bd3f8c407440c6620374b556b", func := "loop.example/g00452/laws.FnExactQuote", spec := "fnExactQuote", inPlace := ["internal/bytealg.IndexByteString"], apart := false }
def FnExactQuoteSaid : Prop := fnExactQuoteRow.holds Try.pinned (OpenSpec.ofChange fnExactQuoteSpec)

/-- ITS FALSE NEIGHBOUR: 'it returns false'. Refute it at one input. -/
def fnExactQuoteWrong : ChangeSpec := { name := "fnExactQuote", fn := fun _ => fun
  | [d] => { results := [.lit (.bool false)], args := [d] }
  | _ => none }
def FnExactQuoteWrongFalsely : Prop := fnExactQuoteRow.holds Try.pinned (OpenSpec.ofChange fnExactQuoteWrong)

/- THE SECOND FORM. 'bulk': how many values and letters a reading holds, each counted each time it is reached (what is shared counts as often as it is met; a slice's spare places count too). A statement '..UptoSaid' is the law's where the arguments, and the package variables that the reading takes, are together of bulk at most 1048576: NARROWER than '..Said'. Prove '..Said' where nothing that the law and all that it calls make is longer than what came in: it says more and counts as full. Else prove '..UptoSaid'. A law counts once. -/
mutual
def uptoBulk {H : Type} : DataW H → Nat
  | .lit (.string bytes) => bytes.length + 1
  | .lit _ => 1
  | .nil => 1
  | .ptr d => uptoBulk d + 1
  | .slice elems spare => uptoBulkAll elems + uptoBulkAll spare + 1
  | .agg parts => uptoBulkAll parts + 1
  | .iface _ d => uptoBulk d + 1
  | .map entries => uptoBulkEntries entries + 1
  | .held _ => 1
def uptoBulkAll {H : Type} : List (DataW H) → Nat
  | [] => 0
  | d :: r => uptoBulk d + uptoBulkAll r
def uptoBulkEntries {H : Type} : List (Lit × DataW H) → Nat
  | [] => 0
  | x :: r => uptoBulkEntry x + uptoBulkEntries r
def uptoBulkEntry {H : Type} : Lit × DataW H → Nat
  | (.string bytes, d) => bytes.length + uptoBulk d + 1
  | (_, d) => uptoBulk d + 1
 end
def uptoSmall : (H : Type) → List (DataW H) → Bool := fun _ ds => decide (uptoBulkAll ds ≤ 1048576)
def OpenSpec.upto (s : _root_.Go.ChangeSpec) : _root_.Go.OpenSpec := { _root_.Go.OpenSpec.ofChange s with cond := some uptoSmall }

/-- 'laws.FnExactConstants', WHERE WHAT IT READS IS OF BULK AT MOST 1048576: true; the input reads as it did. -/
def fnExactConstantsUptoRow : OpenClaim := { program := "ytiabdcachfpgpaa", sum := "e360c6d43ea51119b51a26d56d7e32b50c75e78bd3f8c407440c6620374b556b", func := "loop.example/g00452/laws.FnExactConstants", spec := "fnExactConstants", apart := false, narrowed := true }
def FnExactConstantsUptoSaid : Prop := fnExactConstantsUptoRow.holds Try.pinned (OpenSpec.upto fnExactConstantsSpec)

/-- 'laws.FnExactPlain', WHERE WHAT IT READS IS OF BULK AT MOST 1048576: true; the input reads as it did. -/
def fnExactPlainUptoRow : OpenClaim := { program := "ytiabdcachfpgpaa", sum := "e360c6d43ea51119b51a26d56d7e32b50c75e78bd3f8c407440c6620374b556b", func := "loop.example/g00452/laws.FnExactPlain", spec := "fnExactPlain", apart := false, narrowed := true }
def FnExactPlainUptoSaid : Prop := fnExactPlainUptoRow.holds Try.pinned (OpenSpec.upto fnExactPlainSpec)

/-- 'laws.FnExactSmallName', WHERE WHAT IT READS IS OF BULK AT MOST 1048576: true; the input reads as it did. -/
def fnExactSmallNameUptoRow : OpenClaim := { program := "ytiabdcachfpgpaa", sum := "e360c6d43ea51119b51a26d56d7e32b50c75e78bd3f8c407440c6620374b556b", func := "loop.example/g00452/laws.FnExactSmallName", spec := "fnExactSmallName", apart := false, narrowed := true }
def FnExactSmallNameUptoSaid : Prop := fnExactSmallNameUptoRow.holds Try.pinned (OpenSpec.upto fnExactSmallNameSpec)

/-- 'laws.FnExactLower', WHERE WHAT IT READS IS OF BULK AT MOST 1048576: true; the input reads as it did. -/
def fnExactLowerUptoRow : OpenClaim := { program := "ytiabdcachfpgpaa", sum := "e360c6d43ea51119b51a26d56d7e32b50c75e78bd3f8c407440c6620374b556b", func := "loop.example/g00452/laws.FnExactLower", spec := "fnExactLower", apart := false, narrowed := true }
def FnExactLowerUptoSaid : Prop := fnExactLowerUptoRow.holds Try.pinned (OpenSpec.upto fnExactLowerSpec)

/-- 'laws.FnExactEscape', WHERE WHAT IT READS IS OF BULK AT MOST 1048576: true; the input reads as it did. -/
def fnExactEscapeUptoRow : OpenClaim := { program := "ytiabdcachfpgpaa", sum := "e360c6d43ea51119b51a26d56d7e32b50c75e78bd3f8c407440c6620374b556b", func := "loop.example/g00452/laws.FnExactEscape", spec := "fnExactEscape", apart := false, narrowed := true }
def FnExactEscapeUptoSaid : Prop := fnExactEscapeUptoRow.holds Try.pinned (OpenSpec.upto fnExactEscapeSpec)

/-- 'laws.FnExactQuote', WHERE WHAT IT READS IS OF BULK AT MOST 1048576: true; the input reads as it did. -/
def fnExactQuoteUptoRow : OpenClaim := { program := "ytiabdcachfpgpaa", sum := "e360c6d43ea51119b51a26d56d7e32b50c75e78bd3f8c407440c6620374b556b", func := "loop.example/g00452/laws.FnExactQuote", spec := "fnExactQuote", inPlace := ["internal/bytealg.IndexByteString"], apart := false, narrowed := true }
def FnExactQuoteUptoSaid : Prop := fnExactQuoteUptoRow.holds Try.pinned (OpenSpec.upto fnExactQuoteSpec)

end Rows
end Go.Proofs.Ytiabdcachfpgpaa
