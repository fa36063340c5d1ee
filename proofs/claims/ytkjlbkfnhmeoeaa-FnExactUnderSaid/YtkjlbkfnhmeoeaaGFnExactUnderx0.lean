-- by gprint.py (this session's program over the kit's print.py) (a twelfth state) out of the translation. Not trusted: Lean checks it.
import Derived.Test.YtkjlbkfnhmeoeaaProg
import Derived.Below
import Derived.Deep.Draws
import Derived.Deep.AppendLies
import Derived.Maps.AppendAt
import Derived.OwnWalk
import Derived.Laws.BytesArg
import Derived.Laws.MakeOwn
import Derived.Laws.OwnMore
import Derived.Deep.OwnRows
import Derived.Tactics
import Derived.Lib.ConvBytes
import Derived.Laws.Slices
import Derived.WalkKit
import Derived.KernelRfl
import Derived.RowKit3
import Derived.Deep.LoopGhost
import Derived.Deep.QuietTactic
import Derived.BigQuiet
import Derived.WideLaws
import Derived.Deep.DeepCutAuto
import Derived.Deep.CutBlock
import Derived.Deep.RegionHeld3
import Derived.Laws.Rows
import Derived.Lib.AppendStr
import Derived.ArgAppend
import Derived.Laws.IdiomCopy
import Derived.OrdersHeld
import Derived.Laws.BitsLemmas
import Derived.RowKit
import Derived.Test.YtkjlbkfnhmeoeaaWWords
import Derived.Test.YtkjlbkfnhmeoeaaWLast
import Derived.Test.YtkjlbkfnhmeoeaaWTab
import Derived.Test.YtkjlbkfnhmeoeaaWFour
import Derived.Test.YtkjlbkfnhmeoeaaWQPut
import Derived.Test.YtkjlbkfnhmeoeaaWApart
import Derived.Test.YtkjlbkfnhmeoeaaWArr
import Derived.Test.YtkjlbkfnhmeoeaaWZeros
import Derived.Test.YtkjlbkfnhmeoeaaWFoot
import Derived.Test.YtkjlbkfnhmeoeaaWKept
import Derived.Test.YtkjlbkfnhmeoeaaWShare
import Derived.Test.YtkjlbkfnhmeoeaaWN
import Derived.Test.YtkjlbkfnhmeoeaaWFootNe
import Derived.Test.YtkjlbkfnhmeoeaaWAt
import Derived.Test.YtkjlbkfnhmeoeaaWEqStruct
import Derived.Test.YtkjlbkfnhmeoeaaWRepsOne
import Derived.Test.YtkjlbkfnhmeoeaaWInv
import Derived.Test.YtkjlbkfnhmeoeaaWInvWords
import Derived.Test.YtkjlbkfnhmeoeaaWGuard
import Derived.Test.YtkjlbkfnhmeoeaaWNEv
import Derived.Test.YtkjlbkfnhmeoeaaWMore
namespace Go.Proofs.Ytkjlbkfnhmeoeaa.GFnExactUnder
open Go.RowKit Go.Proofs.YtkjlbkfnhmeoeaaW.PrintWords Go.Proofs.YtkjlbkfnhmeoeaaW.PrintLast Go.Proofs.YtkjlbkfnhmeoeaaW.PrintMore
attribute [local go_sem] max2_int min2_int max_two min_two max_three min_three max_four min_four   -- for this text's walks alone
set_option linter.unusedVariables false
set_option linter.unusedSimpArgs false



def errW : Option Int → Value
  | none => .nilIface
  | some c => .iface 0 (.int .i64 c)
theorem errW_none : errW none = .nilIface := rfl
theorem errW_some (c : Int) : errW (some c) = .iface 0 (.int .i64 c) := rfl

theorem empty_ne (l : List UInt8) : (!(l != [])) = l.isEmpty := by cases l <;> rfl

theorem info9 : (Try.prog.info? 9).map (fun i => (i.zero, i.size, i.bytes)) = some (some (.string ⟨#[]⟩), 1, 16) := by kernel_rfl
-- the values' own types

end Go.Proofs.Ytkjlbkfnhmeoeaa.GFnExactUnder
