-- Cut from a printed text by wip/shakeall.py (what this law does not come to is struck): not a printed text as it stood.
import Derived.Test.YtidfhfaekdahpaaWN
/-! ### 52. A row that stays read whatever happens to a block (a set of blocks) doesn't lie there -/
namespace Go.Proofs.YtidfhfaekdahpaaW.PrintWords
open Go.RowKit
namespace Kd
section
variable {α : Type} {d : Kd α} {W : World} {g n : Nat} {S ok : Nat → Prop} {A : Option Addr} {ad : Addr} {xs : List α}
end
end Kd
end Go.Proofs.YtidfhfaekdahpaaW.PrintWords
