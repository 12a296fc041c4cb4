-- Written by a program of this session's own (wip/turnprint.py over the kit's print); Lean checks it.
import Derived.Test.YtgdcfkhpeakbfaaProg
import Derived.Test.YtgdcfkhpeakbfaaQOwn
import Derived.Below
import Derived.Deep.Draws
import Derived.Deep.AppendLies
import Derived.Maps.AppendAt
import Derived.OwnWalk
import Derived.Laws.BytesArg
import Derived.Laws.MakeOwn
import Derived.Laws.OwnMore
import Derived.Deep.OwnRows
import Derived.Tactics
import Derived.Lib.ConvBytes
import Derived.Laws.Slices
import Derived.WalkKit
import Derived.KernelRfl
import Derived.RowKit3
import Derived.Deep.LoopGhost
import Derived.Deep.QuietTactic
import Derived.BigQuiet
import Derived.WideLaws
import Derived.Deep.DeepCutAuto
import Derived.Deep.CutBlock
import Derived.Deep.RegionHeld3
import Derived.Laws.Rows
import Derived.Lib.AppendStr
import Derived.ArgAppend
import Derived.Laws.IdiomCopy
import Derived.OrdersHeld
import Derived.Laws.BitsLemmas
import Derived.RowKit
import Derived.Test.YtgdcfkhpeakbfaaWWords
import Derived.Test.YtgdcfkhpeakbfaaWLast
import Derived.Test.YtgdcfkhpeakbfaaWTab
import Derived.Test.YtgdcfkhpeakbfaaWQPut
import Derived.Test.YtgdcfkhpeakbfaaWApart
import Derived.Test.YtgdcfkhpeakbfaaWArr
import Derived.Test.YtgdcfkhpeakbfaaWZeros
import Derived.Test.YtgdcfkhpeakbfaaWFoot
import Derived.Test.YtgdcfkhpeakbfaaWKept
import Derived.Test.YtgdcfkhpeakbfaaWShare
import Derived.Test.YtgdcfkhpeakbfaaWN
import Derived.Test.YtgdcfkhpeakbfaaWRepsOne
import Derived.Test.YtgdcfkhpeakbfaaWInv
import Derived.Test.YtgdcfkhpeakbfaaWNEv
import Derived.Test.YtgdcfkhpeakbfaaWMore
namespace Go.Proofs.Ytgdcfkhpeakbfaa.QFnTurned
open Go.RowKit Go.Proofs.YtgdcfkhpeakbfaaW.PrintWords Go.Proofs.YtgdcfkhpeakbfaaW.PrintLast Go.Proofs.YtgdcfkhpeakbfaaW.PrintMore
attribute [local go_sem] max2_int min2_int max_two min_two max_three min_three max_four min_four   -- for this text's walks alone
attribute [local go_sem] Go.Proofs.YtgdcfkhpeakbfaaQWords.run_lss_str
attribute [local go_sem] Go.Proofs.YtgdcfkhpeakbfaaQWords.run_geq_str
attribute [local go_sem] Go.Proofs.YtgdcfkhpeakbfaaQWords.run_leq_str
attribute [local go_sem] Go.Proofs.YtgdcfkhpeakbfaaQWords.run_gtr_str
set_option linter.unusedVariables false
set_option linter.unusedSimpArgs false



def errW : Option Int → Value
  | none => .nilIface
  | some c => .iface 0 (.int .i64 c)
theorem errW_none : errW none = .nilIface := rfl
theorem errW_some (c : Int) : errW (some c) = .iface 0 (.int .i64 c) := rfl

theorem info3 : (Try.prog.info? 3).map (fun i => (i.zero, i.size, i.bytes)) = some (some (.int .i64 0), 1, 8) := by kernel_rfl
theorem info5 : (Try.prog.info? 5).map (fun i => (i.zero, i.size, i.bytes)) = some (some (.int .u8 0), 1, 1) := by kernel_rfl
-- the values' own types

end Go.Proofs.Ytgdcfkhpeakbfaa.QFnTurned
