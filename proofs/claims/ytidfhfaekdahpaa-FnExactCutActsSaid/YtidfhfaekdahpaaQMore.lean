import Derived.Test.YtidfhfaekdahpaaQOwn
/-! A word behind what a call drew. -/
namespace Go.Proofs.Ytidfhfaekdahpaa
open Go.RowKit
theorem drewN_self (w : World) (n : Nat) : w.drewN n = w.drewN n := rfl
end Go.Proofs.Ytidfhfaekdahpaa
