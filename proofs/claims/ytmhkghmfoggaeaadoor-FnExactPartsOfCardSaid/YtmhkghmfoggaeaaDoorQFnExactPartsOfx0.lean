-- Written by a program of this session's own (wip/turnprint.py over the kit's print); Lean checks it.
import Derived.Test.YtmhkghmfoggaeaaDoorProg
import Derived.Test.YtmhkghmfoggaeaaDoorQOwn
import Derived.Below
import Derived.Deep.Draws
import Derived.Deep.AppendLies
import Derived.Maps.AppendAt
import Derived.OwnWalk
import Derived.Laws.BytesArg
import Derived.Laws.MakeOwn
import Derived.Laws.OwnMore
import Derived.Deep.OwnRows
import Derived.Tactics
import Derived.Lib.ConvBytes
import Derived.Laws.Slices
import Derived.WalkKit
import Derived.KernelRfl
import Derived.RowKit3
import Derived.Deep.LoopGhost
import Derived.Deep.QuietTactic
import Derived.BigQuiet
import Derived.WideLaws
import Derived.Deep.DeepCutAuto
import Derived.Deep.CutBlock
import Derived.Deep.RegionHeld3
import Derived.Laws.Rows
import Derived.Lib.AppendStr
import Derived.ArgAppend
import Derived.Laws.IdiomCopy
import Derived.OrdersHeld
import Derived.Laws.BitsLemmas
import Derived.RowKit
import Derived.Test.YtmhkghmfoggaeaaDoorSplT
import Derived.Test.YtmhkghmfoggaeaaDoorWWords
import Derived.Test.YtmhkghmfoggaeaaDoorWLast
import Derived.Test.YtmhkghmfoggaeaaDoorWTab
import Derived.Test.YtmhkghmfoggaeaaDoorWFour
import Derived.Test.YtmhkghmfoggaeaaDoorWQPut
import Derived.Test.YtmhkghmfoggaeaaDoorWApart
import Derived.Test.YtmhkghmfoggaeaaDoorWArr
import Derived.Test.YtmhkghmfoggaeaaDoorWZeros
import Derived.Test.YtmhkghmfoggaeaaDoorWFoot
import Derived.Test.YtmhkghmfoggaeaaDoorWKept
import Derived.Test.YtmhkghmfoggaeaaDoorWShare
import Derived.Test.YtmhkghmfoggaeaaDoorWN
import Derived.Test.YtmhkghmfoggaeaaDoorWFootNe
import Derived.Test.YtmhkghmfoggaeaaDoorWAt
import Derived.Test.YtmhkghmfoggaeaaDoorWEqStruct
import Derived.Test.YtmhkghmfoggaeaaDoorWRepsOne
import Derived.Test.YtmhkghmfoggaeaaDoorWInv
import Derived.Test.YtmhkghmfoggaeaaDoorWInvWords
import Derived.Test.YtmhkghmfoggaeaaDoorWGuard
import Derived.Test.YtmhkghmfoggaeaaDoorWNEv
import Derived.Test.YtmhkghmfoggaeaaDoorWMore
namespace Go.Proofs.YtmhkghmfoggaeaaDoor.QFnExactPartsOf
open Go.RowKit Go.Proofs.YtmhkghmfoggaeaaDoorW.PrintWords Go.Proofs.YtmhkghmfoggaeaaDoorW.PrintLast Go.Proofs.YtmhkghmfoggaeaaDoorW.PrintMore
attribute [local go_sem] max2_int min2_int max_two min_two max_three min_three max_four min_four   -- for this text's walks alone
attribute [local go_sem] Go.Proofs.YtmhkghmfoggaeaaDoorQWords.run_lss_str
attribute [local go_sem] Go.Proofs.YtmhkghmfoggaeaaDoorQWords.run_geq_str
attribute [local go_sem] Go.Proofs.YtmhkghmfoggaeaaDoorQWords.run_leq_str
attribute [local go_sem] Go.Proofs.YtmhkghmfoggaeaaDoorQWords.run_gtr_str
set_option linter.unusedVariables false
set_option linter.unusedSimpArgs false



def errW : Option Int → Value
  | none => .nilIface
  | some c => .iface 0 (.int .i64 c)
theorem errW_none : errW none = .nilIface := rfl
theorem errW_some (c : Int) : errW (some c) = .iface 0 (.int .i64 c) := rfl

theorem info5 : (Tryd.prog.info? 5).map (fun i => (i.zero, i.size, i.bytes)) = some (some (.int .u8 0), 1, 1) := by kernel_rfl
theorem info9 : (Tryd.prog.info? 9).map (fun i => (i.zero, i.size, i.bytes)) = some (some (.string ⟨#[]⟩), 1, 16) := by kernel_rfl
-- the values' own types

end Go.Proofs.YtmhkghmfoggaeaaDoor.QFnExactPartsOf
