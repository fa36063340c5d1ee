/-
  NARROWER THAN 'FOR EVERY INPUT', by the rows' own cells (each row's printed sentence says how): FnExactNodeOk: loops · FnExactKidOf: loops · FnExactNodeText: loops.
  DERIVED. THE GIVEN ROWS OF THIS SEAT. 7 by the template 'for every input the law returns true; each argument reads behind the call as it read before'; 0 by the template 'total and deterministic' (their statements: YtkjlbkfnhmeoeabTotals.lean).
  GIVEN WITH THE SEED: the statements are not yours to turn. If you find one false, say at which input.
  Laid BY PROGRAM, IN A SANDBOX (cutbox-rows.mjs): the forced cells as the released guide's own fill.sh prints them over the translation c0b848d6f2cc01c6… (all of the seat's roots in one cut). By AI agents, Wed Nov 11 2026. No macro, syntax, notation, axiom, sorry.
-/
import Derived.Test.YtkjlbkfnhmeoeabChecked
import GoSem.Claim
import GoSem.ClaimJoined
import GoSem.ClaimMapViews
import Derived.JoinedTies
import Derived.KernelRfl
namespace Go.Proofs.Ytkjlbkfnhmeoeab
/- THE CELL 'sum', in the pinned program and in every row, IS THE sha256 OF THE DUMP (.gsa) THAT YtkjlbkfnhmeoeabProg.lean LOADS. Nothing in Lean hashes anything: it is a label: what it is worth is what the hold of that sum in a sandbox is worth. -/
noncomputable def Try.pinned : Pinned := { name := "ytkjlbkfnhmeoeab", sum := "c0b848d6f2cc01c6bd235ca8686a383e4b5ba4305ca319d19e86c79e8d9a564a", checked := Try.checked }
namespace Rows
def none {H : Type} : Left H := { results := [], args := [] }

/-- 'laws.FnExactNameOk': WHATEVER THE INPUT: true; the input reads as it did. -/
def fnExactNameOkSpec : ChangeSpec := { name := "fnExactNameOk", fn := fun _ => fun
  | [d] => { results := [.lit (.bool true)], args := [d] }
  | _ => none }
def fnExactNameOkRow : OpenClaim := { program := "ytkjlbkfnhmeoeab", sum := "c0b848d6f2cc01c6bd235ca8686a383e4b5ba4305ca319d19e86c79e8d9a564a", func := "loop.example/g00452/laws.FnExactNameOk", spec := "fnExactNameOk", inPlace := ["internal/bytealg.IndexByteString", "internal/bytealg.IndexString"], named := ["internal/bytealg.MaxLen"], apart := false }
def FnExactNameOkSaid : Prop := fnExactNameOkRow.holds Try.pinned (OpenSpec.ofChange fnExactNameOkSpec)

/-- ITS FALSE NEIGHBOUR: 'it returns false'. Refute it at one input. -/
def fnExactNameOkWrong : ChangeSpec := { name := "fnExactNameOk", fn := fun _ => fun
  | [d] => { results := [.lit (.bool false)], args := [d] }
  | _ => none }
def FnExactNameOkWrongFalsely : Prop := fnExactNameOkRow.holds Try.pinned (OpenSpec.ofChange fnExactNameOkWrong)

/-- 'laws.FnExactNodeOk': WHATEVER THE INPUT: true; the input reads as it did. -/
def fnExactNodeOkSpec : ChangeSpec := { name := "fnExactNodeOk", fn := fun _ => fun
  | [d] => { results := [.lit (.bool true)], args := [d] }
  | _ => none }
def fnExactNodeOkRow : OpenClaim := { program := "ytkjlbkfnhmeoeab", sum := "c0b848d6f2cc01c6bd235ca8686a383e4b5ba4305ca319d19e86c79e8d9a564a", func := "loop.example/g00452/laws.FnExactNodeOk", spec := "fnExactNodeOk", recurses := true, loops := true, apart := false }
def FnExactNodeOkSaid : Prop := fnExactNodeOkRow.holds Try.pinned (OpenSpec.ofChange fnExactNodeOkSpec)

/-- ITS FALSE NEIGHBOUR: 'it returns false'. Refute it at one input. -/
def fnExactNodeOkWrong : ChangeSpec := { name := "fnExactNodeOk", fn := fun _ => fun
  | [d] => { results := [.lit (.bool false)], args := [d] }
  | _ => none }
def FnExactNodeOkWrongFalsely : Prop := fnExactNodeOkRow.holds Try.pinned (OpenSpec.ofChange fnExactNodeOkWrong)

/-- 'laws.FnExactKidOf': WHATEVER THE INPUT: true; the input reads as it did. -/
def fnExactKidOfSpec : ChangeSpec := { name := "fnExactKidOf", fn := fun _ => fun
  | [d1, d2, d3] => { results := [.lit (.bool true)], args := [d1, d2, d3] }
  | _ => none }
def fnExactKidOfRow : OpenClaim := { program := "ytkjlbkfnhmeoeab", sum := "c0b848d6f2cc01c6bd235ca8686a383e4b5ba4305ca319d19e86c79e8d9a564a", func := "loop.example/g00452/laws.FnExactKidOf", spec := "fnExactKidOf", recurses := true, loops := true, apart := false }
def FnExactKidOfSaid : Prop := fnExactKidOfRow.holds Try.pinned (OpenSpec.ofChange fnExactKidOfSpec)

/-- ITS FALSE NEIGHBOUR: 'it returns false'. Refute it at one input. -/
def fnExactKidOfWrong : ChangeSpec := { name := "fnExactKidOf", fn := fun _ => fun
  | [d1, d2, d3] => { results := [.lit (.bool false)], args := [d1, d2, d3] }
  | _ => none }
def FnExactKidOfWrongFalsely : Prop := fnExactKidOfRow.holds Try.pinned (OpenSpec.ofChange fnExactKidOfWrong)

/-- 'laws.FnExactPathOk': WHATEVER THE INPUT: true; the input reads as it did. -/
def fnExactPathOkSpec : ChangeSpec := { name := "fnExactPathOk", fn := fun _ => fun
  | [d] => { results := [.lit (.bool true)], args := [d] }
  | _ => none }
def fnExactPathOkRow : OpenClaim := { program := "ytkjlbkfnhmeoeab", sum := "c0b848d6f2cc01c6bd235ca8686a383e4b5ba4305ca319d19e86c79e8d9a564a", func := "loop.example/g00452/laws.FnExactPathOk", spec := "fnExactPathOk", inPlace := ["internal/bytealg.IndexByteString", "internal/bytealg.IndexString"], named := ["internal/bytealg.MaxLen"], apart := false }
def FnExactPathOkSaid : Prop := fnExactPathOkRow.holds Try.pinned (OpenSpec.ofChange fnExactPathOkSpec)

/-- ITS FALSE NEIGHBOUR: 'it returns false'. Refute it at one input. -/
def fnExactPathOkWrong : ChangeSpec := { name := "fnExactPathOk", fn := fun _ => fun
  | [d] => { results := [.lit (.bool false)], args := [d] }
  | _ => none }
def FnExactPathOkWrongFalsely : Prop := fnExactPathOkRow.holds Try.pinned (OpenSpec.ofChange fnExactPathOkWrong)

/-- 'laws.FnExactNodeText': WHATEVER THE INPUT: true; the input reads as it did. -/
def fnExactNodeTextSpec : ChangeSpec := { name := "fnExactNodeText", fn := fun _ => fun
  | [d] => { results := [.lit (.bool true)], args := [d] }
  | _ => none }
def fnExactNodeTextRow : OpenClaim := { program := "ytkjlbkfnhmeoeab", sum := "c0b848d6f2cc01c6bd235ca8686a383e4b5ba4305ca319d19e86c79e8d9a564a", func := "loop.example/g00452/laws.FnExactNodeText", spec := "fnExactNodeText", recurses := true, loops := true, apart := false }
def FnExactNodeTextSaid : Prop := fnExactNodeTextRow.holds Try.pinned (OpenSpec.ofChange fnExactNodeTextSpec)

/-- ITS FALSE NEIGHBOUR: 'it returns false'. Refute it at one input. -/
def fnExactNodeTextWrong : ChangeSpec := { name := "fnExactNodeText", fn := fun _ => fun
  | [d] => { results := [.lit (.bool false)], args := [d] }
  | _ => none }
def FnExactNodeTextWrongFalsely : Prop := fnExactNodeTextRow.holds Try.pinned (OpenSpec.ofChange fnExactNodeTextWrong)

/-- 'laws.FnExactGetChunks': WHATEVER THE INPUT: true; the input reads as it did. -/
def fnExactGetChunksSpec : ChangeSpec := { name := "fnExactGetChunks", fn := fun _ => fun
  | [d1, d2] => { results := [.lit (.bool true)], args := [d1, d2] }
  | _ => none }
def fnExactGetChunksRow : OpenClaim := { program := "ytkjlbkfnhmeoeab", sum := "c0b848d6f2cc01c6bd235ca8686a383e4b5ba4305ca319d19e86c79e8d9a564a", func := "loop.example/g00452/laws.FnExactGetChunks", spec := "fnExactGetChunks", inPlace := ["internal/bytealg.IndexByteString", "internal/bytealg.IndexString"], named := ["internal/bytealg.MaxLen"], apart := false }
def FnExactGetChunksSaid : Prop := fnExactGetChunksRow.holds Try.pinned (OpenSpec.ofChange fnExactGetChunksSpec)

/-- ITS FALSE NEIGHBOUR: 'it returns false'. Refute it at one input. -/
def fnExactGetChunksWrong : ChangeSpec := { name := "fnExactGetChunks", fn := fun _ => fun
  | [d1, d2] => { results := [.lit (.bool false)], args := [d1, d2] }
  | _ => none }
def FnExactGetChunksWrongFalsely : Prop := fnExactGetChunksRow.holds Try.pinned (OpenSpec.ofChange fnExactGetChunksWrong)

/-- 'laws.FnExactPathText': WHATEVER THE INPUT: true; the input reads as it did. -/
def fnExactPathTextSpec : ChangeSpec := { name := "fnExactPathText", fn := fun _ => fun
  | [d] => { results := [.lit (.bool true)], args := [d] }
  | _ => none }
def fnExactPathTextRow : OpenClaim := { program := "ytkjlbkfnhmeoeab", sum := "c0b848d6f2cc01c6bd235ca8686a383e4b5ba4305ca319d19e86c79e8d9a564a", func := "loop.example/g00452/laws.FnExactPathText", spec := "fnExactPathText", inPlace := ["internal/bytealg.IndexByteString", "internal/bytealg.IndexString", "internal/abi.NoEscape", "internal/bytealg.MakeNoZero"], named := ["internal/bytealg.MaxLen"], apart := false }
def FnExactPathTextSaid : Prop := fnExactPathTextRow.holds Try.pinned (OpenSpec.ofChange fnExactPathTextSpec)

/-- ITS FALSE NEIGHBOUR: 'it returns false'. Refute it at one input. -/
def fnExactPathTextWrong : ChangeSpec := { name := "fnExactPathText", fn := fun _ => fun
  | [d] => { results := [.lit (.bool false)], args := [d] }
  | _ => none }
def FnExactPathTextWrongFalsely : Prop := fnExactPathTextRow.holds Try.pinned (OpenSpec.ofChange fnExactPathTextWrong)

/- THE SECOND FORM. 'bulk': how many values and letters a reading holds, each counted each time it is reached (what is shared counts as often as it is met; a slice's spare places count too). A statement '..UptoSaid' is the law's where the arguments, and the package variables that the reading takes, are together of bulk at most 1048576: NARROWER than '..Said'. Prove '..Said' where nothing that the law and all that it calls make is longer than what came in: it says more and counts as full. Else prove '..UptoSaid'. A law counts once. -/
mutual
def uptoBulk {H : Type} : DataW H → Nat
  | .lit (.string bytes) => bytes.length + 1
  | .lit _ => 1
  | .nil => 1
  | .ptr d => uptoBulk d + 1
  | .slice elems spare => uptoBulkAll elems + uptoBulkAll spare + 1
  | .agg parts => uptoBulkAll parts + 1
  | .iface _ d => uptoBulk d + 1
  | .map entries => uptoBulkEntries entries + 1
  | .held _ => 1
def uptoBulkAll {H : Type} : List (DataW H) → Nat
  | [] => 0
  | d :: r => uptoBulk d + uptoBulkAll r
def uptoBulkEntries {H : Type} : List (Lit × DataW H) → Nat
  | [] => 0
  | x :: r => uptoBulkEntry x + uptoBulkEntries r
def uptoBulkEntry {H : Type} : Lit × DataW H → Nat
  | (.string bytes, d) => bytes.length + uptoBulk d + 1
  | (_, d) => uptoBulk d + 1
 end
def uptoSmall : (H : Type) → List (DataW H) → Bool := fun _ ds => decide (uptoBulkAll ds ≤ 1048576)
def OpenSpec.upto (s : _root_.Go.ChangeSpec) : _root_.Go.OpenSpec := { _root_.Go.OpenSpec.ofChange s with cond := some uptoSmall }

/-- 'laws.FnExactNameOk', WHERE WHAT IT READS IS OF BULK AT MOST 1048576: true; the input reads as it did. -/
def fnExactNameOkUptoRow : OpenClaim := { program := "ytkjlbkfnhmeoeab", sum := "c0b848d6f2cc01c6bd235ca8686a383e4b5ba4305ca319d19e86c79e8d9a564a", func := "loop.example/g00452/laws.FnExactNameOk", spec := "fnExactNameOk", inPlace := ["internal/bytealg.IndexByteString", "internal/bytealg.IndexString"], named := ["internal/bytealg.MaxLen"], apart := false, narrowed := true }
def FnExactNameOkUptoSaid : Prop := fnExactNameOkUptoRow.holds Try.pinned (OpenSpec.upto fnExactNameOkSpec)

/-- 'laws.FnExactNodeOk', WHERE WHAT IT READS IS OF BULK AT MOST 1048576: true; the input reads as it did. -/
def fnExactNodeOkUptoRow : OpenClaim := { program := "ytkjlbkfnhmeoeab", sum := "c0b848d6f2cc01c6bd235ca8686a383e4b5ba4305ca319d19e86c79e8d9a564a", func := "loop.example/g00452/laws.FnExactNodeOk", spec := "fnExactNodeOk", recurses := true, loops := true, apart := false, narrowed := true }
def FnExactNodeOkUptoSaid : Prop := fnExactNodeOkUptoRow.holds Try.pinned (OpenSpec.upto fnExactNodeOkSpec)

/-- 'laws.FnExactKidOf', WHERE WHAT IT READS IS OF BULK AT MOST 1048576: true; the input reads as it did. -/
def fnExactKidOfUptoRow : OpenClaim := { program := "ytkjlbkfnhmeoeab", sum := "c0b848d6f2cc01c6bd235ca8686a383e4b5ba4305ca319d19e86c79e8d9a564a", func := "loop.example/g00452/laws.FnExactKidOf", spec := "fnExactKidOf", recurses := true, loops := true, apart := false, narrowed := true }
def FnExactKidOfUptoSaid : Prop := fnExactKidOfUptoRow.holds Try.pinned (OpenSpec.upto fnExactKidOfSpec)

/-- 'laws.FnExactPathOk', WHERE WHAT IT READS IS OF BULK AT MOST 1048576: true; the input reads as it did. -/
def fnExactPathOkUptoRow : OpenClaim := { program := "ytkjlbkfnhmeoeab", sum := "c0b848d6f2cc01c6bd235ca8686a383e4b5ba4305ca319d19e86c79e8d9a564a", func := "loop.example/g00452/laws.FnExactPathOk", spec := "fnExactPathOk", inPlace := ["internal/bytealg.IndexByteString", "internal/bytealg.IndexString"], named := ["internal/bytealg.MaxLen"], apart := false, narrowed := true }
def FnExactPathOkUptoSaid : Prop := fnExactPathOkUptoRow.holds Try.pinned (OpenSpec.upto fnExactPathOkSpec)

/-- 'laws.FnExactNodeText', WHERE WHAT IT READS IS OF BULK AT MOST 1048576: true; the input reads as it did. -/
def fnExactNodeTextUptoRow : OpenClaim := { program := "ytkjlbkfnhmeoeab", sum := "c0b848d6f2cc01c6bd235ca8686a383e4b5ba4305ca319d19e86c79e8d9a564a", func := "loop.example/g00452/laws.FnExactNodeText", spec := "fnExactNodeText", recurses := true, loops := true, apart := false, narrowed := true }
def FnExactNodeTextUptoSaid : Prop := fnExactNodeTextUptoRow.holds Try.pinned (OpenSpec.upto fnExactNodeTextSpec)

/-- 'laws.FnExactGetChunks', WHERE WHAT IT READS IS OF BULK AT MOST 1048576: true; the input reads as it did. -/
def fnExactGetChunksUptoRow : OpenClaim := { program := "ytkjlbkfnhmeoeab", sum := "c0b848d6f2cc01c6bd235ca8686a383e4b5ba4305ca319d19e86c79e8d9a564a", func := "loop.example/g00452/laws.FnExactGetChunks", spec := "fnExactGetChunks", inPlace := ["internal/bytealg.IndexByteString", "internal/bytealg.IndexString"], named := ["internal/bytealg.MaxLen"], apart := false, narrowed := true }
def FnExactGetChunksUptoSaid : Prop := fnExactGetChunksUptoRow.holds Try.pinned (OpenSpec.upto fnExactGetChunksSpec)

/-- 'laws.FnExactPathText', WHERE WHAT IT READS IS OF BULK AT MOST 1048576: true; the input reads as it did. -/
def fnExactPathTextUptoRow : OpenClaim := { program := "ytkjlbkfnhmeoeab", sum := "c0b848d6f2cc01c6bd235ca8686a383e4b5ba4305ca319d19e86c79e8d9a564a", func := "loop.example/g00452/laws.FnExactPathText", spec := "fnExactPathText", inPlace := ["internal/bytealg.IndexByteString", "internal/bytealg.IndexString", "internal/abi.NoEscape", "internal/bytealg.MakeNoZero"], named := ["internal/bytealg.MaxLen"], apart := false, narrowed := true }
def FnExactPathTextUptoSaid : Prop := fnExactPathTextUptoRow.holds Try.pinned (OpenSpec.upto fnExactPathTextSpec)

end Rows
end Go.Proofs.Ytkjlbkfnhmeoeab
