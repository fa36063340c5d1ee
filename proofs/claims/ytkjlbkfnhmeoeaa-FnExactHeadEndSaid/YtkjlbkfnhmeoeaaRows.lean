/-
  NARROWER THAN 'FOR EVERY INPUT', by the rows' own cells (each row's printed sentence says how): FnExactSameNode: loops.
  DERIVED. THE GIVEN ROWS OF THIS SEAT. 10 by the template 'for every input the law returns true; each argument reads behind the call as it read before'; 0 by the template 'total and deterministic' (their statements: YtkjlbkfnhmeoeaaTotals.lean).
  GIVEN WITH THE SEED: the statements are not yours to turn. If you find one false, say at which input.
  Laid BY PROGRAM, IN A SANDBOX (cutbox-rows.mjs): the forced cells as the released guide's own fill.sh prints them over the translation b470ad74ca854649… (all of the seat's roots in one cut). By AI agents, Wed Nov 11 2026. No macro, syntax, notation, axiom, sorry.
-/
import Derived.Test.YtkjlbkfnhmeoeaaChecked
import GoSem.Claim
import GoSem.ClaimJoined
import GoSem.ClaimMapViews
import Derived.JoinedTies
import Derived.KernelRfl
namespace Go.Proofs.Ytkjlbkfnhmeoeaa
/- THE CELL 'sum', in the pinned program and in every row, IS THE sha256 OF THE DUMP (.gsa) THAT YtkjlbkfnhmeoeaaProg.lean LOADS. Nothing in Lean hashes anything: it is a label: what it is worth is what the hold of that sum in a sandbox is worth. -/
noncomputable def Try.pinned : Pinned := { name := "ytkjlbkfnhmeoeaa", sum := "b470ad74ca854649977ed0e14fc03a192cf08ad77a2585862c7f21ab7f2e9cd0", checked := Try.checked }
namespace Rows
def none {H : Type} : Left H := { results := [], args := [] }

/-- 'laws.FnExactParseHex': WHATEVER THE INPUT: true; the input reads as it did. -/
def fnExactParseHexSpec : ChangeSpec := { name := "fnExactParseHex", fn := fun _ => fun
  | [d] => { results := [.lit (.bool true)], args := [d] }
  | _ => none }
def fnExactParseHexRow : OpenClaim := { program := "ytkjlbkfnhmeoeaa", sum := "b470ad74ca854649977ed0e14fc03a192cf08ad77a2585862c7f21ab7f2e9cd0", func := "loop.example/g00452/laws.FnExactParseHex", spec := "fnExactParseHex", apart := false }
def FnExactParseHexSaid : Prop := fnExactParseHexRow.holds Try.pinned (OpenSpec.ofChange fnExactParseHexSpec)

/-- ITS FALSE NEIGHBOUR: 'it returns false'. Refute it at one input. -/
def fnExactParseHexWrong : ChangeSpec := { name := "fnExactParseHex", fn := fun _ => fun
  | [d] => { results := [.lit (.bool false)], args := [d] }
  | _ => none }
def FnExactParseHexWrongFalsely : Prop := fnExactParseHexRow.holds Try.pinned (OpenSpec.ofChange fnExactParseHexWrong)

/-- 'laws.FnExactSamePath': WHATEVER THE INPUT: true; the input reads as it did. -/
def fnExactSamePathSpec : ChangeSpec := { name := "fnExactSamePath", fn := fun _ => fun
  | [d1, d2] => { results := [.lit (.bool true)], args := [d1, d2] }
  | _ => none }
def fnExactSamePathRow : OpenClaim := { program := "ytkjlbkfnhmeoeaa", sum := "b470ad74ca854649977ed0e14fc03a192cf08ad77a2585862c7f21ab7f2e9cd0", func := "loop.example/g00452/laws.FnExactSamePath", spec := "fnExactSamePath", apart := false }
def FnExactSamePathSaid : Prop := fnExactSamePathRow.holds Try.pinned (OpenSpec.ofChange fnExactSamePathSpec)

/-- ITS FALSE NEIGHBOUR: 'it returns false'. Refute it at one input. -/
def fnExactSamePathWrong : ChangeSpec := { name := "fnExactSamePath", fn := fun _ => fun
  | [d1, d2] => { results := [.lit (.bool false)], args := [d1, d2] }
  | _ => none }
def FnExactSamePathWrongFalsely : Prop := fnExactSamePathRow.holds Try.pinned (OpenSpec.ofChange fnExactSamePathWrong)

/-- 'laws.FnExactUnder': WHATEVER THE INPUT: true; the input reads as it did. -/
def fnExactUnderSpec : ChangeSpec := { name := "fnExactUnder", fn := fun _ => fun
  | [d1, d2] => { results := [.lit (.bool true)], args := [d1, d2] }
  | _ => none }
def fnExactUnderRow : OpenClaim := { program := "ytkjlbkfnhmeoeaa", sum := "b470ad74ca854649977ed0e14fc03a192cf08ad77a2585862c7f21ab7f2e9cd0", func := "loop.example/g00452/laws.FnExactUnder", spec := "fnExactUnder", apart := false }
def FnExactUnderSaid : Prop := fnExactUnderRow.holds Try.pinned (OpenSpec.ofChange fnExactUnderSpec)

/-- ITS FALSE NEIGHBOUR: 'it returns false'. Refute it at one input. -/
def fnExactUnderWrong : ChangeSpec := { name := "fnExactUnder", fn := fun _ => fun
  | [d1, d2] => { results := [.lit (.bool false)], args := [d1, d2] }
  | _ => none }
def FnExactUnderWrongFalsely : Prop := fnExactUnderRow.holds Try.pinned (OpenSpec.ofChange fnExactUnderWrong)

/-- 'laws.FnExactUnquote': WHATEVER THE INPUT: true; the input reads as it did. -/
def fnExactUnquoteSpec : ChangeSpec := { name := "fnExactUnquote", fn := fun _ => fun
  | [d] => { results := [.lit (.bool true)], args := [d] }
  | _ => none }
def fnExactUnquoteRow : OpenClaim := { program := "ytkjlbkfnhmeoeaa", sum := "b470ad74ca854649977ed0e14fc03a192cf08ad77a2585862c7f21ab7f2e9cd0", func := "loop.example/g00452/laws.FnExactUnquote", spec := "fnExactUnquote", apart := false }
def FnExactUnquoteSaid : Prop := fnExactUnquoteRow.holds Try.pinned (OpenSpec.ofChange fnExactUnquoteSpec)

/-- ITS FALSE NEIGHBOUR: 'it returns false'. Refute it at one input. -/
def fnExactUnquoteWrong : ChangeSpec := { name := "fnExactUnquote", fn := fun _ => fun
  | [d] => { results := [.lit (.bool false)], args := [d] }
  | _ => none }
def FnExactUnquoteWrongFalsely : Prop := fnExactUnquoteRow.holds Try.pinned (OpenSpec.ofChange fnExactUnquoteWrong)

/-- 'laws.FnExactHeadOf': WHATEVER THE INPUT: true; the input reads as it did. -/
def fnExactHeadOfSpec : ChangeSpec := { name := "fnExactHeadOf", fn := fun _ => fun
  | [d1, d2] => { results := [.lit (.bool true)], args := [d1, d2] }
  | _ => none }
def fnExactHeadOfRow : OpenClaim := { program := "ytkjlbkfnhmeoeaa", sum := "b470ad74ca854649977ed0e14fc03a192cf08ad77a2585862c7f21ab7f2e9cd0", func := "loop.example/g00452/laws.FnExactHeadOf", spec := "fnExactHeadOf", apart := false }
def FnExactHeadOfSaid : Prop := fnExactHeadOfRow.holds Try.pinned (OpenSpec.ofChange fnExactHeadOfSpec)

/-- ITS FALSE NEIGHBOUR: 'it returns false'. Refute it at one input. -/
def fnExactHeadOfWrong : ChangeSpec := { name := "fnExactHeadOf", fn := fun _ => fun
  | [d1, d2] => { results := [.lit (.bool false)], args := [d1, d2] }
  | _ => none }
def FnExactHeadOfWrongFalsely : Prop := fnExactHeadOfRow.holds Try.pinned (OpenSpec.ofChange fnExactHeadOfWrong)

/-- 'laws.FnExactJoined': WHATEVER THE INPUT: true; the input reads as it did. -/
def fnExactJoinedSpec : ChangeSpec := { name := "fnExactJoined", fn := fun _ => fun
  | [d] => { results := [.lit (.bool true)], args := [d] }
  | _ => none }
def fnExactJoinedRow : OpenClaim := { program := "ytkjlbkfnhmeoeaa", sum := "b470ad74ca854649977ed0e14fc03a192cf08ad77a2585862c7f21ab7f2e9cd0", func := "loop.example/g00452/laws.FnExactJoined", spec := "fnExactJoined", apart := false }
def FnExactJoinedSaid : Prop := fnExactJoinedRow.holds Try.pinned (OpenSpec.ofChange fnExactJoinedSpec)

/-- ITS FALSE NEIGHBOUR: 'it returns false'. Refute it at one input. -/
def fnExactJoinedWrong : ChangeSpec := { name := "fnExactJoined", fn := fun _ => fun
  | [d] => { results := [.lit (.bool false)], args := [d] }
  | _ => none }
def FnExactJoinedWrongFalsely : Prop := fnExactJoinedRow.holds Try.pinned (OpenSpec.ofChange fnExactJoinedWrong)

/-- 'laws.FnExactSameNode': WHATEVER THE INPUT: true; the input reads as it did. -/
def fnExactSameNodeSpec : ChangeSpec := { name := "fnExactSameNode", fn := fun _ => fun
  | [d1, d2] => { results := [.lit (.bool true)], args := [d1, d2] }
  | _ => none }
def fnExactSameNodeRow : OpenClaim := { program := "ytkjlbkfnhmeoeaa", sum := "b470ad74ca854649977ed0e14fc03a192cf08ad77a2585862c7f21ab7f2e9cd0", func := "loop.example/g00452/laws.FnExactSameNode", spec := "fnExactSameNode", recurses := true, loops := true, apart := false }
def FnExactSameNodeSaid : Prop := fnExactSameNodeRow.holds Try.pinned (OpenSpec.ofChange fnExactSameNodeSpec)

/-- ITS FALSE NEIGHBOUR: 'it returns false'. Refute it at one input. -/
def fnExactSameNodeWrong : ChangeSpec := { name := "fnExactSameNode", fn := fun _ => fun
  | [d1, d2] => { results := [.lit (.bool false)], args := [d1, d2] }
  | _ => none }
def FnExactSameNodeWrongFalsely : Prop := fnExactSameNodeRow.holds Try.pinned (OpenSpec.ofChange fnExactSameNodeWrong)

/-- 'laws.FnExactSameResp': WHATEVER THE INPUT: true; the input reads as it did. -/
def fnExactSameRespSpec : ChangeSpec := { name := "fnExactSameResp", fn := fun _ => fun
  | [d1, d2] => { results := [.lit (.bool true)], args := [d1, d2] }
  | _ => none }
def fnExactSameRespRow : OpenClaim := { program := "ytkjlbkfnhmeoeaa", sum := "b470ad74ca854649977ed0e14fc03a192cf08ad77a2585862c7f21ab7f2e9cd0", func := "loop.example/g00452/laws.FnExactSameResp", spec := "fnExactSameResp", apart := false }
def FnExactSameRespSaid : Prop := fnExactSameRespRow.holds Try.pinned (OpenSpec.ofChange fnExactSameRespSpec)

/-- ITS FALSE NEIGHBOUR: 'it returns false'. Refute it at one input. -/
def fnExactSameRespWrong : ChangeSpec := { name := "fnExactSameResp", fn := fun _ => fun
  | [d1, d2] => { results := [.lit (.bool false)], args := [d1, d2] }
  | _ => none }
def FnExactSameRespWrongFalsely : Prop := fnExactSameRespRow.holds Try.pinned (OpenSpec.ofChange fnExactSameRespWrong)

/-- 'laws.FnExactSameReq': WHATEVER THE INPUT: true; the input reads as it did. -/
def fnExactSameReqSpec : ChangeSpec := { name := "fnExactSameReq", fn := fun _ => fun
  | [d1, d2] => { results := [.lit (.bool true)], args := [d1, d2] }
  | _ => none }
def fnExactSameReqRow : OpenClaim := { program := "ytkjlbkfnhmeoeaa", sum := "b470ad74ca854649977ed0e14fc03a192cf08ad77a2585862c7f21ab7f2e9cd0", func := "loop.example/g00452/laws.FnExactSameReq", spec := "fnExactSameReq", apart := false }
def FnExactSameReqSaid : Prop := fnExactSameReqRow.holds Try.pinned (OpenSpec.ofChange fnExactSameReqSpec)

/-- ITS FALSE NEIGHBOUR: 'it returns false'. Refute it at one input. -/
def fnExactSameReqWrong : ChangeSpec := { name := "fnExactSameReq", fn := fun _ => fun
  | [d1, d2] => { results := [.lit (.bool false)], args := [d1, d2] }
  | _ => none }
def FnExactSameReqWrongFalsely : Prop := fnExactSameReqRow.holds Try.pinned (OpenSpec.ofChange fnExactSameReqWrong)

/-- 'laws.FnExactHeadEnd': WHATEVER THE INPUT: true; the input reads as it did. -/
def fnExactHeadEndSpec : ChangeSpec := { name := "fnExactHeadEnd", fn := fun _ => fun
  | [d] => { results := [.lit (.bool true)], args := [d] }
  | _ => none }
def fnExactHeadEndRow : OpenClaim := { program := "ytkjlbkfnhmeoeaa", sum := "b470ad74ca854649977ed0e14fc03a192cf08ad77a2585862c7f21ab7f2e9cd0", func := "loop.example/g00452/laws.FnExactHeadEnd", spec := "fnExactHeadEnd", inPlace := ["internal/bytealg.IndexByteString", "internal/bytealg.IndexString"], named := ["internal/bytealg.MaxLen"], apart := false }
def FnExactHeadEndSaid : Prop := fnExactHeadEndRow.holds Try.pinned (OpenSpec.ofChange fnExactHeadEndSpec)

/-- ITS FALSE NEIGHBOUR: 'it returns false'. Refute it at one input. -/
def fnExactHeadEndWrong : ChangeSpec := { name := "fnExactHeadEnd", fn := fun _ => fun
  | [d] => { results := [.lit (.bool false)], args := [d] }
  | _ => none }
def FnExactHeadEndWrongFalsely : Prop := fnExactHeadEndRow.holds Try.pinned (OpenSpec.ofChange fnExactHeadEndWrong)

/- THE SECOND FORM. 'bulk': how many values and letters a reading holds, each counted each time it is reached (what is shared counts as often as it is met; a slice's spare places count too). A statement '..UptoSaid' is the law's where the arguments, and the package variables that the reading takes, are together of bulk at most 1048576: NARROWER than '..Said'. Prove '..Said' where nothing that the law and all that it calls make is longer than what came in: it says more and counts as full. Else prove '..UptoSaid'. A law counts once. -/
mutual
def uptoBulk {H : Type} : DataW H → Nat
  | .lit (.string bytes) => bytes.length + 1
  | .lit _ => 1
  | .nil => 1
  | .ptr d => uptoBulk d + 1
  | .slice elems spare => uptoBulkAll elems + uptoBulkAll spare + 1
  | .agg parts => uptoBulkAll parts + 1
  | .iface _ d => uptoBulk d + 1
  | .map entries => uptoBulkEntries entries + 1
  | .held _ => 1
def uptoBulkAll {H : Type} : List (DataW H) → Nat
  | [] => 0
  | d :: r => uptoBulk d + uptoBulkAll r
def uptoBulkEntries {H : Type} : List (Lit × DataW H) → Nat
  | [] => 0
  | x :: r => uptoBulkEntry x + uptoBulkEntries r
def uptoBulkEntry {H : Type} : Lit × DataW H → Nat
  | (.string bytes, d) => bytes.length + uptoBulk d + 1
  | (_, d) => uptoBulk d + 1
 end
def uptoSmall : (H : Type) → List (DataW H) → Bool := fun _ ds => decide (uptoBulkAll ds ≤ 1048576)
def OpenSpec.upto (s : _root_.Go.ChangeSpec) : _root_.Go.OpenSpec := { _root_.Go.OpenSpec.ofChange s with cond := some uptoSmall }

/-- 'laws.FnExactParseHex', WHERE WHAT IT READS IS OF BULK AT MOST 1048576: true; the input reads as it did. -/
def fnExactParseHexUptoRow : OpenClaim := { program := "ytkjlbkfnhmeoeaa", sum := "b470ad74ca854649977ed0e14fc03a192cf08ad77a2585862c7f21ab7f2e9cd0", func := "loop.example/g00452/laws.FnExactParseHex", spec := "fnExactParseHex", apart := false, narrowed := true }
def FnExactParseHexUptoSaid : Prop := fnExactParseHexUptoRow.holds Try.pinned (OpenSpec.upto fnExactParseHexSpec)

/-- 'laws.FnExactSamePath', WHERE WHAT IT READS IS OF BULK AT MOST 1048576: true; the input reads as it did. -/
def fnExactSamePathUptoRow : OpenClaim := { program := "ytkjlbkfnhmeoeaa", sum := "b470ad74ca854649977ed0e14fc03a192cf08ad77a2585862c7f21ab7f2e9cd0", func := "loop.example/g00452/laws.FnExactSamePath", spec := "fnExactSamePath", apart := false, narrowed := true }
def FnExactSamePathUptoSaid : Prop := fnExactSamePathUptoRow.holds Try.pinned (OpenSpec.upto fnExactSamePathSpec)

/-- 'laws.FnExactUnder', WHERE WHAT IT READS IS OF BULK AT MOST 1048576: true; the input reads as it did. -/
def fnExactUnderUptoRow : OpenClaim := { program := "ytkjlbkfnhmeoeaa", sum := "b470ad74ca854649977ed0e14fc03a192cf08ad77a2585862c7f21ab7f2e9cd0", func := "loop.example/g00452/laws.FnExactUnder", spec := "fnExactUnder", apart := false, narrowed := true }
def FnExactUnderUptoSaid : Prop := fnExactUnderUptoRow.holds Try.pinned (OpenSpec.upto fnExactUnderSpec)

/-- 'laws.FnExactUnquote', WHERE WHAT IT READS IS OF BULK AT MOST 1048576: true; the input reads as it did. -/
def fnExactUnquoteUptoRow : OpenClaim := { program := "ytkjlbkfnhmeoeaa", sum := "b470ad74ca854649977ed0e14fc03a192cf08ad77a2585862c7f21ab7f2e9cd0", func := "loop.example/g00452/laws.FnExactUnquote", spec := "fnExactUnquote", apart := false, narrowed := true }
def FnExactUnquoteUptoSaid : Prop := fnExactUnquoteUptoRow.holds Try.pinned (OpenSpec.upto fnExactUnquoteSpec)

/-- 'laws.FnExactHeadOf', WHERE WHAT IT READS IS OF BULK AT MOST 1048576: true; the input reads as it did. -/
def fnExactHeadOfUptoRow : OpenClaim := { program := "ytkjlbkfnhmeoeaa", sum := "b470ad74ca854649977ed0e14fc03a192cf08ad77a2585862c7f21ab7f2e9cd0", func := "loop.example/g00452/laws.FnExactHeadOf", spec := "fnExactHeadOf", apart := false, narrowed := true }
def FnExactHeadOfUptoSaid : Prop := fnExactHeadOfUptoRow.holds Try.pinned (OpenSpec.upto fnExactHeadOfSpec)

/-- 'laws.FnExactJoined', WHERE WHAT IT READS IS OF BULK AT MOST 1048576: true; the input reads as it did. -/
def fnExactJoinedUptoRow : OpenClaim := { program := "ytkjlbkfnhmeoeaa", sum := "b470ad74ca854649977ed0e14fc03a192cf08ad77a2585862c7f21ab7f2e9cd0", func := "loop.example/g00452/laws.FnExactJoined", spec := "fnExactJoined", apart := false, narrowed := true }
def FnExactJoinedUptoSaid : Prop := fnExactJoinedUptoRow.holds Try.pinned (OpenSpec.upto fnExactJoinedSpec)

/-- 'laws.FnExactSameNode', WHERE WHAT IT READS IS OF BULK AT MOST 1048576: true; the input reads as it did. -/
def fnExactSameNodeUptoRow : OpenClaim := { program := "ytkjlbkfnhmeoeaa", sum := "b470ad74ca854649977ed0e14fc03a192cf08ad77a2585862c7f21ab7f2e9cd0", func := "loop.example/g00452/laws.FnExactSameNode", spec := "fnExactSameNode", recurses := true, loops := true, apart := false, narrowed := true }
def FnExactSameNodeUptoSaid : Prop := fnExactSameNodeUptoRow.holds Try.pinned (OpenSpec.upto fnExactSameNodeSpec)

/-- 'laws.FnExactSameResp', WHERE WHAT IT READS IS OF BULK AT MOST 1048576: true; the input reads as it did. -/
def fnExactSameRespUptoRow : OpenClaim := { program := "ytkjlbkfnhmeoeaa", sum := "b470ad74ca854649977ed0e14fc03a192cf08ad77a2585862c7f21ab7f2e9cd0", func := "loop.example/g00452/laws.FnExactSameResp", spec := "fnExactSameResp", apart := false, narrowed := true }
def FnExactSameRespUptoSaid : Prop := fnExactSameRespUptoRow.holds Try.pinned (OpenSpec.upto fnExactSameRespSpec)

/-- 'laws.FnExactSameReq', WHERE WHAT IT READS IS OF BULK AT MOST 1048576: true; the input reads as it did. -/
def fnExactSameReqUptoRow : OpenClaim := { program := "ytkjlbkfnhmeoeaa", sum := "b470ad74ca854649977ed0e14fc03a192cf08ad77a2585862c7f21ab7f2e9cd0", func := "loop.example/g00452/laws.FnExactSameReq", spec := "fnExactSameReq", apart := false, narrowed := true }
def FnExactSameReqUptoSaid : Prop := fnExactSameReqUptoRow.holds Try.pinned (OpenSpec.upto fnExactSameReqSpec)

/-- 'laws.FnExactHeadEnd', WHERE WHAT IT READS IS OF BULK AT MOST 1048576: true; the input reads as it did. -/
def fnExactHeadEndUptoRow : OpenClaim := { program := "ytkjlbkfnhmeoeaa", sum := "b470ad74ca854649977ed0e14fc03a192cf08ad77a2585862c7f21ab7f2e9cd0", func := "loop.example/g00452/laws.FnExactHeadEnd", spec := "fnExactHeadEnd", inPlace := ["internal/bytealg.IndexByteString", "internal/bytealg.IndexString"], named := ["internal/bytealg.MaxLen"], apart := false, narrowed := true }
def FnExactHeadEndUptoSaid : Prop := fnExactHeadEndUptoRow.holds Try.pinned (OpenSpec.upto fnExactHeadEndSpec)

end Rows
end Go.Proofs.Ytkjlbkfnhmeoeaa
