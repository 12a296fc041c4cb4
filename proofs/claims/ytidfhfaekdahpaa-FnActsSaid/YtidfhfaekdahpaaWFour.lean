-- Cut from a printed text by wip/shakeall.py (what this law does not come to is struck): not a printed text as it stood.
import Derived.Test.YtidfhfaekdahpaaWTab
/-! ### 56. Four, five, six operations that may come up next, in any order -/
namespace Go.Proofs.YtidfhfaekdahpaaW.PrintLast
section
variable {P : Program} {ops : Array Oper} {Q : Exit → Act → World → Prop} {md : Region.Mode} {S : World → Prop} {ds : List Nat} {T : Bool × List (List Nat × List Nat)}
end
end Go.Proofs.YtidfhfaekdahpaaW.PrintLast
