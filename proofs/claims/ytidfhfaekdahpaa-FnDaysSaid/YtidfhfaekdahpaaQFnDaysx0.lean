-- Written by a program of this session's own (wip/turnprint.py over the kit's print); Lean checks it.
import Derived.Test.YtidfhfaekdahpaaProg
import Derived.Test.YtidfhfaekdahpaaQOwn
import Derived.Below
import Derived.Deep.Draws
import Derived.Deep.AppendLies
import Derived.Maps.AppendAt
import Derived.OwnWalk
import Derived.Laws.BytesArg
import Derived.Laws.MakeOwn
import Derived.Laws.OwnMore
import Derived.Deep.OwnRows
import Derived.Tactics
import Derived.Lib.ConvBytes
import Derived.Laws.Slices
import Derived.WalkKit
import Derived.KernelRfl
import Derived.RowKit3
import Derived.Deep.LoopGhost
import Derived.Deep.QuietTactic
import Derived.BigQuiet
import Derived.WideLaws
import Derived.Deep.DeepCutAuto
import Derived.Deep.CutBlock
import Derived.Deep.RegionHeld3
import Derived.Laws.Rows
import Derived.Lib.AppendStr
import Derived.ArgAppend
import Derived.Laws.IdiomCopy
import Derived.OrdersHeld
import Derived.Laws.BitsLemmas
import Derived.RowKit
import Derived.Test.YtidfhfaekdahpaaWWords
import Derived.Test.YtidfhfaekdahpaaWLast
import Derived.Test.YtidfhfaekdahpaaWTab
import Derived.Test.YtidfhfaekdahpaaWFour
import Derived.Test.YtidfhfaekdahpaaWQPut
import Derived.Test.YtidfhfaekdahpaaWApart
import Derived.Test.YtidfhfaekdahpaaWArr
import Derived.Test.YtidfhfaekdahpaaWZeros
import Derived.Test.YtidfhfaekdahpaaWFoot
import Derived.Test.YtidfhfaekdahpaaWKept
import Derived.Test.YtidfhfaekdahpaaWShare
import Derived.Test.YtidfhfaekdahpaaWN
import Derived.Test.YtidfhfaekdahpaaWFootNe
import Derived.Test.YtidfhfaekdahpaaWAt
import Derived.Test.YtidfhfaekdahpaaWEqStruct
import Derived.Test.YtidfhfaekdahpaaWRepsOne
import Derived.Test.YtidfhfaekdahpaaWInv
import Derived.Test.YtidfhfaekdahpaaWInvWords
import Derived.Test.YtidfhfaekdahpaaWGuard
import Derived.Test.YtidfhfaekdahpaaWNEv
import Derived.Test.YtidfhfaekdahpaaWMore
namespace Go.Proofs.Ytidfhfaekdahpaa.QFnDays
open Go.RowKit Go.Proofs.YtidfhfaekdahpaaW.PrintWords Go.Proofs.YtidfhfaekdahpaaW.PrintLast Go.Proofs.YtidfhfaekdahpaaW.PrintMore
attribute [local go_sem] max2_int min2_int max_two min_two max_three min_three max_four min_four   -- for this text's walks alone
attribute [local go_sem] Go.Proofs.YtidfhfaekdahpaaQWords.run_lss_str
attribute [local go_sem] Go.Proofs.YtidfhfaekdahpaaQWords.run_geq_str
attribute [local go_sem] Go.Proofs.YtidfhfaekdahpaaQWords.run_leq_str
attribute [local go_sem] Go.Proofs.YtidfhfaekdahpaaQWords.run_gtr_str
set_option linter.unusedVariables false
set_option linter.unusedSimpArgs false



def errW : Option Int → Value
  | none => .nilIface
  | some c => .iface 0 (.int .i64 c)
theorem errW_none : errW none = .nilIface := rfl
theorem errW_some (c : Int) : errW (some c) = .iface 0 (.int .i64 c) := rfl

theorem info3 : (Try.prog.info? 3).map (fun i => (i.zero, i.size, i.bytes)) = some (some (.int .i64 0), 1, 8) := by kernel_rfl
-- the values' own types

end Go.Proofs.Ytidfhfaekdahpaa.QFnDays
