/-
  No cell of these rows narrows 'for every input' (looked for: loops, veiled, ifaces, maps, wideKeys, modest, calm, conditions, laid).
  DERIVED. THE GIVEN ROWS OF THIS SEAT. 5 by the template 'for every input the law returns true; each argument reads behind the call as it read before'; 0 by the template 'total and deterministic' (their statements: YtlglildjehcogaaTotals.lean).
  GIVEN WITH THE SEED: the statements are not yours to turn. If you find one false, say at which input.
  Laid BY PROGRAM, IN A SANDBOX (cutbox-rows.mjs): the forced cells as the released guide's own fill.sh prints them over the translation 2e3d06e260e82f50… (all of the seat's roots in one cut). By AI agents, Wed Nov 11 2026. No macro, syntax, notation, axiom, sorry.
-/
import Derived.Test.YtlglildjehcogaaChecked
import GoSem.Claim
import GoSem.ClaimJoined
import GoSem.ClaimMapViews
import Derived.JoinedTies
import Derived.KernelRfl
namespace Go.Proofs.Ytlglildjehcogaa
/- THE CELL 'sum', in the pinned program and in every row, IS THE sha256 OF THE DUMP (.gsa) THAT YtlglildjehcogaaProg.lean LOADS. Nothing in Lean hashes anything: it is a label: what it is worth is what the hold of that sum in a sandbox is worth. -/
noncomputable def Try.pinned : Pinned := { name := "ytlglildjehcogaa", sum := "2e3d06e260e82f5088375e9b12941e10afe6d0aa5cf6797a97376c0d469903f0", checked := Try.checked }
namespace Rows
def none {H : Type} : Left H := { results := [], args := [] }

/-- 'laws.FnExactCronOk': WHATEVER THE INPUT: true; the input reads as it did. -/
def fnExactCronOkSpec : ChangeSpec := { name := "fnExactCronOk", fn := fun _ => fun
  | [d] => { results := [.lit (.bool true)], args := [d] }
  | _ => none }
def fnExactCronOkRow : OpenClaim := { program := "ytlglildjehcogaa", sum := "2e3d06e260e82f5088375e9b12941e10afe6d0aa5cf6797a97376c0d469903f0", func := "loop.example/g00188/laws.FnExactCronOk", spec := "fnExactCronOk", apart := false }
def FnExactCronOkSaid : Prop := fnExactCronOkRow.holds Try.pinned (OpenSpec.ofChange fnExactCronOkSpec)

/-- ITS FALSE NEIGHBOUR: 'it returns false'. Refute it at one input. -/
def fnExactCronOkWrong : ChangeSpec := { name := "fnExactCronOk", fn := fun _ => fun
  | [d] => { results := [.lit (.bool false)], args := [d] }
  | _ => none }
def FnExactCronOkWrongFalsely : Prop := fnExactCronOkRow.holds Try.pinned (OpenSpec.ofChange fnExactCronOkWrong)

/-- 'laws.FnExactFires': WHATEVER THE INPUT: true; the input reads as it did. -/
def fnExactFiresSpec : ChangeSpec := { name := "fnExactFires", fn := fun _ => fun
  | [d1, d2] => { results := [.lit (.bool true)], args := [d1, d2] }
  | _ => none }
def fnExactFiresRow : OpenClaim := { program := "ytlglildjehcogaa", sum := "2e3d06e260e82f5088375e9b12941e10afe6d0aa5cf6797a97376c0d469903f0", func := "loop.example/g00188/laws.FnExactFires", spec := "fnExactFires", apart := false }
def FnExactFiresSaid : Prop := fnExactFiresRow.holds Try.pinned (OpenSpec.ofChange fnExactFiresSpec)

/-- ITS FALSE NEIGHBOUR: 'it returns false'. Refute it at one input. -/
def fnExactFiresWrong : ChangeSpec := { name := "fnExactFires", fn := fun _ => fun
  | [d1, d2] => { results := [.lit (.bool false)], args := [d1, d2] }
  | _ => none }
def FnExactFiresWrongFalsely : Prop := fnExactFiresRow.holds Try.pinned (OpenSpec.ofChange fnExactFiresWrong)

/-- 'laws.FnExactNextFire': WHATEVER THE INPUT: true; the input reads as it did. -/
def fnExactNextFireSpec : ChangeSpec := { name := "fnExactNextFire", fn := fun _ => fun
  | [d1, d2, d3] => { results := [.lit (.bool true)], args := [d1, d2, d3] }
  | _ => none }
def fnExactNextFireRow : OpenClaim := { program := "ytlglildjehcogaa", sum := "2e3d06e260e82f5088375e9b12941e10afe6d0aa5cf6797a97376c0d469903f0", func := "loop.example/g00188/laws.FnExactNextFire", spec := "fnExactNextFire", apart := false }
def FnExactNextFireSaid : Prop := fnExactNextFireRow.holds Try.pinned (OpenSpec.ofChange fnExactNextFireSpec)

/-- ITS FALSE NEIGHBOUR: 'it returns false'. Refute it at one input. -/
def fnExactNextFireWrong : ChangeSpec := { name := "fnExactNextFire", fn := fun _ => fun
  | [d1, d2, d3] => { results := [.lit (.bool false)], args := [d1, d2, d3] }
  | _ => none }
def FnExactNextFireWrongFalsely : Prop := fnExactNextFireRow.holds Try.pinned (OpenSpec.ofChange fnExactNextFireWrong)

/-- 'laws.FnExactCountFires': WHATEVER THE INPUT: true; the input reads as it did. -/
def fnExactCountFiresSpec : ChangeSpec := { name := "fnExactCountFires", fn := fun _ => fun
  | [d1, d2, d3] => { results := [.lit (.bool true)], args := [d1, d2, d3] }
  | _ => none }
def fnExactCountFiresRow : OpenClaim := { program := "ytlglildjehcogaa", sum := "2e3d06e260e82f5088375e9b12941e10afe6d0aa5cf6797a97376c0d469903f0", func := "loop.example/g00188/laws.FnExactCountFires", spec := "fnExactCountFires", apart := false }
def FnExactCountFiresSaid : Prop := fnExactCountFiresRow.holds Try.pinned (OpenSpec.ofChange fnExactCountFiresSpec)

/-- ITS FALSE NEIGHBOUR: 'it returns false'. Refute it at one input. -/
def fnExactCountFiresWrong : ChangeSpec := { name := "fnExactCountFires", fn := fun _ => fun
  | [d1, d2, d3] => { results := [.lit (.bool false)], args := [d1, d2, d3] }
  | _ => none }
def FnExactCountFiresWrongFalsely : Prop := fnExactCountFiresRow.holds Try.pinned (OpenSpec.ofChange fnExactCountFiresWrong)

/-- 'laws.FnFires': WHATEVER THE INPUT: true; the input reads as it did. -/
def fnFiresSpec : ChangeSpec := { name := "fnFires", fn := fun _ => fun
  | [d] => { results := [.lit (.bool true)], args := [d] }
  | _ => none }
def fnFiresRow : OpenClaim := { program := "ytlglildjehcogaa", sum := "2e3d06e260e82f5088375e9b12941e10afe6d0aa5cf6797a97376c0d469903f0", func := "loop.example/g00188/laws.FnFires", spec := "fnFires", apart := false }
def FnFiresSaid : Prop := fnFiresRow.holds Try.pinned (OpenSpec.ofChange fnFiresSpec)

/-- ITS FALSE NEIGHBOUR: 'it returns false'. Refute it at one input. -/
def fnFiresWrong : ChangeSpec := { name := "fnFires", fn := fun _ => fun
  | [d] => { results := [.lit (.bool false)], args := [d] }
  | _ => none }
def FnFiresWrongFalsely : Prop := fnFiresRow.holds Try.pinned (OpenSpec.ofChange fnFiresWrong)

/- THE SECOND FORM. 'bulk': how many values and letters a reading holds, each counted each time it is reached (what is shared counts as often as it is met; a slice's spare places count too). A statement '..UptoSaid' is the law's where the arguments, and the package variables that the reading takes, are together of bulk at most 1048576: NARROWER than '..Said'. Prove '..Said' where nothing that the law and all that it calls make is longer than what came in: it says more and counts as full. Else prove '..UptoSaid'. A law counts once. -/
mutual
def uptoBulk {H : Type} : DataW H → Nat
  | .lit (.string bytes) => bytes.length + 1
  | .lit _ => 1
  | .nil => 1
  | .ptr d => uptoBulk d + 1
  | .slice elems spare => uptoBulkAll elems + uptoBulkAll spare + 1
  | .agg parts => uptoBulkAll parts + 1
  | .iface _ d => uptoBulk d + 1
  | .map entries => uptoBulkEntries entries + 1
  | .held _ => 1
def uptoBulkAll {H : Type} : List (DataW H) → Nat
  | [] => 0
  | d :: r => uptoBulk d + uptoBulkAll r
def uptoBulkEntries {H : Type} : List (Lit × DataW H) → Nat
  | [] => 0
  | x :: r => uptoBulkEntry x + uptoBulkEntries r
def uptoBulkEntry {H : Type} : Lit × DataW H → Nat
  | (.string bytes, d) => bytes.length + uptoBulk d + 1
  | (_, d) => uptoBulk d + 1
 end
def uptoSmall : (H : Type) → List (DataW H) → Bool := fun _ ds => decide (uptoBulkAll ds ≤ 1048576)
def OpenSpec.upto (s : _root_.Go.ChangeSpec) : _root_.Go.OpenSpec := { _root_.Go.OpenSpec.ofChange s with cond := some uptoSmall }

/-- 'laws.FnExactCronOk', WHERE WHAT IT READS IS OF BULK AT MOST 1048576: true; the input reads as it did. -/
def fnExactCronOkUptoRow : OpenClaim := { program := "ytlglildjehcogaa", sum := "2e3d06e260e82f5088375e9b12941e10afe6d0aa5cf6797a97376c0d469903f0", func := "loop.example/g00188/laws.FnExactCronOk", spec := "fnExactCronOk", apart := false, narrowed := true }
def FnExactCronOkUptoSaid : Prop := fnExactCronOkUptoRow.holds Try.pinned (OpenSpec.upto fnExactCronOkSpec)

/-- 'laws.FnExactFires', WHERE WHAT IT READS IS OF BULK AT MOST 1048576: true; the input reads as it did. -/
def fnExactFiresUptoRow : OpenClaim := { program := "ytlglildjehcogaa", sum := "2e3d06e260e82f5088375e9b12941e10afe6d0aa5cf6797a97376c0d469903f0", func := "loop.example/g00188/laws.FnExactFires", spec := "fnExactFires", apart := false, narrowed := true }
def FnExactFiresUptoSaid : Prop := fnExactFiresUptoRow.holds Try.pinned (OpenSpec.upto fnExactFiresSpec)

/-- 'laws.FnExactNextFire', WHERE WHAT IT READS IS OF BULK AT MOST 1048576: true; the input reads as it did. -/
def fnExactNextFireUptoRow : OpenClaim := { program := "ytlglildjehcogaa", sum := "2e3d06e260e82f5088375e9b12941e10afe6d0aa5cf6797a97376c0d469903f0", func := "loop.example/g00188/laws.FnExactNextFire", spec := "fnExactNextFire", apart := false, narrowed := true }
def FnExactNextFireUptoSaid : Prop := fnExactNextFireUptoRow.holds Try.pinned (OpenSpec.upto fnExactNextFireSpec)

/-- 'laws.FnExactCountFires', WHERE WHAT IT READS IS OF BULK AT MOST 1048576: true; the input reads as it did. -/
def fnExactCountFiresUptoRow : OpenClaim := { program := "ytlglildjehcogaa", sum := "2e3d06e260e82f5088375e9b12941e10afe6d0aa5cf6797a97376c0d469903f0", func := "loop.example/g00188/laws.FnExactCountFires", spec := "fnExactCountFires", apart := false, narrowed := true }
def FnExactCountFiresUptoSaid : Prop := fnExactCountFiresUptoRow.holds Try.pinned (OpenSpec.upto fnExactCountFiresSpec)

/-- 'laws.FnFires', WHERE WHAT IT READS IS OF BULK AT MOST 1048576: true; the input reads as it did. -/
def fnFiresUptoRow : OpenClaim := { program := "ytlglildjehcogaa", sum := "2e3d06e260e82f5088375e9b12941e10afe6d0aa5cf6797a97376c0d469903f0", func := "loop.example/g00188/laws.FnFires", spec := "fnFires", apart := false, narrowed := true }
def FnFiresUptoSaid : Prop := fnFiresUptoRow.holds Try.pinned (OpenSpec.upto fnFiresSpec)

end Rows
end Go.Proofs.Ytlglildjehcogaa
