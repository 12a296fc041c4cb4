/-
  No cell of these rows narrows 'for every input' (looked for: loops, veiled, ifaces, maps, wideKeys, modest, calm, conditions, laid).
  DERIVED. THE GIVEN ROWS OF THIS SEAT. 12 by the template 'for every input the law returns true; each argument reads behind the call as it read before'; 0 by the template 'total and deterministic' (their statements: YtgdcfkhpeakbfaaTotals.lean).
  GIVEN WITH THE SEED: the statements are not yours to turn. If you find one false, say at which input.
  Laid BY PROGRAM, IN A SANDBOX (cutbox-rows.mjs): the forced cells as the released guide's own fill.sh prints them over the translation 16de789756f1805f… (all of the seat's roots in one cut). By AI agents, Wed Nov 11 2026. No macro, syntax, notation, axiom, sorry.
-/
import Derived.Test.YtgdcfkhpeakbfaaChecked
import GoSem.Claim
import GoSem.ClaimJoined
import GoSem.ClaimMapViews
import Derived.JoinedTies
import Derived.KernelRfl
namespace Go.Proofs.Ytgdcfkhpeakbfaa
/- THE CELL 'sum', in the pinned program and in every row, IS THE sha256 OF THE DUMP (.gsa) THAT YtgdcfkhpeakbfaaProg.lean LOADS. Nothing in Lean hashes anything: it is a label: what it is worth is what the hold of that sum in a sandbox is worth. -/
noncomputable def Try.pinned : Pinned := { name := "ytgdcfkhpeakbfaa", sum := "16de789756f1805fe81f3dd77149e6a26f9c87c2104890d8ef0baace0fded174", checked := Try.checked }
namespace Rows
def none {H : Type} : Left H := { results := [], args := [] }

/-- 'laws.FnExactSealed': WHATEVER THE INPUT: true; the input reads as it did. -/
def fnExactSealedSpec : ChangeSpec := { name := "fnExactSealed", fn := fun _ => fun
  | [d] => { results := [.lit (.bool true)], args := [d] }
  | _ => none }
def fnExactSealedRow : OpenClaim := { program := "ytgdcfkhpeakbfaa", sum := "16de789756f1805fe81f3dd77149e6a26f9c87c2104890d8ef0baace0fded174", func := "loop.example/g00188/laws.FnExactSealed", spec := "fnExactSealed", apart := false }
def FnExactSealedSaid : Prop := fnExactSealedRow.holds Try.pinned (OpenSpec.ofChange fnExactSealedSpec)

/-- ITS FALSE NEIGHBOUR: 'it returns false'. Refute it at one input. -/
def fnExactSealedWrong : ChangeSpec := { name := "fnExactSealed", fn := fun _ => fun
  | [d] => { results := [.lit (.bool false)], args := [d] }
  | _ => none }
def FnExactSealedWrongFalsely : Prop := fnExactSealedRow.holds Try.pinned (OpenSpec.ofChange fnExactSealedWrong)

/-- 'laws.FnExactUnsealed': WHATEVER THE INPUT: true; the input reads as it did. -/
def fnExactUnsealedSpec : ChangeSpec := { name := "fnExactUnsealed", fn := fun _ => fun
  | [d] => { results := [.lit (.bool true)], args := [d] }
  | _ => none }
def fnExactUnsealedRow : OpenClaim := { program := "ytgdcfkhpeakbfaa", sum := "16de789756f1805fe81f3dd77149e6a26f9c87c2104890d8ef0baace0fded174", func := "loop.example/g00188/laws.FnExactUnsealed", spec := "fnExactUnsealed", apart := false }
def FnExactUnsealedSaid : Prop := fnExactUnsealedRow.holds Try.pinned (OpenSpec.ofChange fnExactUnsealedSpec)

/-- ITS FALSE NEIGHBOUR: 'it returns false'. Refute it at one input. -/
def fnExactUnsealedWrong : ChangeSpec := { name := "fnExactUnsealed", fn := fun _ => fun
  | [d] => { results := [.lit (.bool false)], args := [d] }
  | _ => none }
def FnExactUnsealedWrongFalsely : Prop := fnExactUnsealedRow.holds Try.pinned (OpenSpec.ofChange fnExactUnsealedWrong)

/-- 'laws.FnExactReadShort': WHATEVER THE INPUT: true; the input reads as it did. -/
def fnExactReadShortSpec : ChangeSpec := { name := "fnExactReadShort", fn := fun _ => fun
  | [d1, d2] => { results := [.lit (.bool true)], args := [d1, d2] }
  | _ => none }
def fnExactReadShortRow : OpenClaim := { program := "ytgdcfkhpeakbfaa", sum := "16de789756f1805fe81f3dd77149e6a26f9c87c2104890d8ef0baace0fded174", func := "loop.example/g00188/laws.FnExactReadShort", spec := "fnExactReadShort", apart := false }
def FnExactReadShortSaid : Prop := fnExactReadShortRow.holds Try.pinned (OpenSpec.ofChange fnExactReadShortSpec)

/-- ITS FALSE NEIGHBOUR: 'it returns false'. Refute it at one input. -/
def fnExactReadShortWrong : ChangeSpec := { name := "fnExactReadShort", fn := fun _ => fun
  | [d1, d2] => { results := [.lit (.bool false)], args := [d1, d2] }
  | _ => none }
def FnExactReadShortWrongFalsely : Prop := fnExactReadShortRow.holds Try.pinned (OpenSpec.ofChange fnExactReadShortWrong)

/-- 'laws.FnExactCivilOk': WHATEVER THE INPUT: true; the input reads as it did. -/
def fnExactCivilOkSpec : ChangeSpec := { name := "fnExactCivilOk", fn := fun _ => fun
  | [d] => { results := [.lit (.bool true)], args := [d] }
  | _ => none }
def fnExactCivilOkRow : OpenClaim := { program := "ytgdcfkhpeakbfaa", sum := "16de789756f1805fe81f3dd77149e6a26f9c87c2104890d8ef0baace0fded174", func := "loop.example/g00188/laws.FnExactCivilOk", spec := "fnExactCivilOk", apart := false }
def FnExactCivilOkSaid : Prop := fnExactCivilOkRow.holds Try.pinned (OpenSpec.ofChange fnExactCivilOkSpec)

/-- ITS FALSE NEIGHBOUR: 'it returns false'. Refute it at one input. -/
def fnExactCivilOkWrong : ChangeSpec := { name := "fnExactCivilOk", fn := fun _ => fun
  | [d] => { results := [.lit (.bool false)], args := [d] }
  | _ => none }
def FnExactCivilOkWrongFalsely : Prop := fnExactCivilOkRow.holds Try.pinned (OpenSpec.ofChange fnExactCivilOkWrong)

/-- 'laws.FnExactConfText': WHATEVER THE INPUT: true; the input reads as it did. -/
def fnExactConfTextSpec : ChangeSpec := { name := "fnExactConfText", fn := fun _ => fun
  | [d] => { results := [.lit (.bool true)], args := [d] }
  | _ => none }
def fnExactConfTextRow : OpenClaim := { program := "ytgdcfkhpeakbfaa", sum := "16de789756f1805fe81f3dd77149e6a26f9c87c2104890d8ef0baace0fded174", func := "loop.example/g00188/laws.FnExactConfText", spec := "fnExactConfText", apart := false }
def FnExactConfTextSaid : Prop := fnExactConfTextRow.holds Try.pinned (OpenSpec.ofChange fnExactConfTextSpec)

/-- ITS FALSE NEIGHBOUR: 'it returns false'. Refute it at one input. -/
def fnExactConfTextWrong : ChangeSpec := { name := "fnExactConfText", fn := fun _ => fun
  | [d] => { results := [.lit (.bool false)], args := [d] }
  | _ => none }
def FnExactConfTextWrongFalsely : Prop := fnExactConfTextRow.holds Try.pinned (OpenSpec.ofChange fnExactConfTextWrong)

/-- 'laws.FnExactFrame': WHATEVER THE INPUT: true; the input reads as it did. -/
def fnExactFrameSpec : ChangeSpec := { name := "fnExactFrame", fn := fun _ => fun
  | [d] => { results := [.lit (.bool true)], args := [d] }
  | _ => none }
def fnExactFrameRow : OpenClaim := { program := "ytgdcfkhpeakbfaa", sum := "16de789756f1805fe81f3dd77149e6a26f9c87c2104890d8ef0baace0fded174", func := "loop.example/g00188/laws.FnExactFrame", spec := "fnExactFrame", apart := false }
def FnExactFrameSaid : Prop := fnExactFrameRow.holds Try.pinned (OpenSpec.ofChange fnExactFrameSpec)

/-- ITS FALSE NEIGHBOUR: 'it returns false'. Refute it at one input. -/
def fnExactFrameWrong : ChangeSpec := { name := "fnExactFrame", fn := fun _ => fun
  | [d] => { results := [.lit (.bool false)], args := [d] }
  | _ => none }
def FnExactFrameWrongFalsely : Prop := fnExactFrameRow.holds Try.pinned (OpenSpec.ofChange fnExactFrameWrong)

/-- 'laws.FnExactReadConf': WHATEVER THE INPUT: true; the input reads as it did. -/
def fnExactReadConfSpec : ChangeSpec := { name := "fnExactReadConf", fn := fun _ => fun
  | [d] => { results := [.lit (.bool true)], args := [d] }
  | _ => none }
def fnExactReadConfRow : OpenClaim := { program := "ytgdcfkhpeakbfaa", sum := "16de789756f1805fe81f3dd77149e6a26f9c87c2104890d8ef0baace0fded174", func := "loop.example/g00188/laws.FnExactReadConf", spec := "fnExactReadConf", apart := false }
def FnExactReadConfSaid : Prop := fnExactReadConfRow.holds Try.pinned (OpenSpec.ofChange fnExactReadConfSpec)

/-- ITS FALSE NEIGHBOUR: 'it returns false'. Refute it at one input. -/
def fnExactReadConfWrong : ChangeSpec := { name := "fnExactReadConf", fn := fun _ => fun
  | [d] => { results := [.lit (.bool false)], args := [d] }
  | _ => none }
def FnExactReadConfWrongFalsely : Prop := fnExactReadConfRow.holds Try.pinned (OpenSpec.ofChange fnExactReadConfWrong)

/-- 'laws.FnExactMinuteOf': WHATEVER THE INPUT: true; the input reads as it did. -/
def fnExactMinuteOfSpec : ChangeSpec := { name := "fnExactMinuteOf", fn := fun _ => fun
  | [d] => { results := [.lit (.bool true)], args := [d] }
  | _ => none }
def fnExactMinuteOfRow : OpenClaim := { program := "ytgdcfkhpeakbfaa", sum := "16de789756f1805fe81f3dd77149e6a26f9c87c2104890d8ef0baace0fded174", func := "loop.example/g00188/laws.FnExactMinuteOf", spec := "fnExactMinuteOf", apart := false }
def FnExactMinuteOfSaid : Prop := fnExactMinuteOfRow.holds Try.pinned (OpenSpec.ofChange fnExactMinuteOfSpec)

/-- ITS FALSE NEIGHBOUR: 'it returns false'. Refute it at one input. -/
def fnExactMinuteOfWrong : ChangeSpec := { name := "fnExactMinuteOf", fn := fun _ => fun
  | [d] => { results := [.lit (.bool false)], args := [d] }
  | _ => none }
def FnExactMinuteOfWrongFalsely : Prop := fnExactMinuteOfRow.holds Try.pinned (OpenSpec.ofChange fnExactMinuteOfWrong)

/-- 'laws.FnExactCivilOf': WHATEVER THE INPUT: true; the input reads as it did. -/
def fnExactCivilOfSpec : ChangeSpec := { name := "fnExactCivilOf", fn := fun _ => fun
  | [d] => { results := [.lit (.bool true)], args := [d] }
  | _ => none }
def fnExactCivilOfRow : OpenClaim := { program := "ytgdcfkhpeakbfaa", sum := "16de789756f1805fe81f3dd77149e6a26f9c87c2104890d8ef0baace0fded174", func := "loop.example/g00188/laws.FnExactCivilOf", spec := "fnExactCivilOf", apart := false }
def FnExactCivilOfSaid : Prop := fnExactCivilOfRow.holds Try.pinned (OpenSpec.ofChange fnExactCivilOfSpec)

/-- ITS FALSE NEIGHBOUR: 'it returns false'. Refute it at one input. -/
def fnExactCivilOfWrong : ChangeSpec := { name := "fnExactCivilOf", fn := fun _ => fun
  | [d] => { results := [.lit (.bool false)], args := [d] }
  | _ => none }
def FnExactCivilOfWrongFalsely : Prop := fnExactCivilOfRow.holds Try.pinned (OpenSpec.ofChange fnExactCivilOfWrong)

/-- 'laws.FnExactMost': WHATEVER THE INPUT: true; the input reads as it did. -/
def fnExactMostSpec : ChangeSpec := { name := "fnExactMost", fn := fun _ => fun
  | [d1, d2] => { results := [.lit (.bool true)], args := [d1, d2] }
  | _ => none }
def fnExactMostRow : OpenClaim := { program := "ytgdcfkhpeakbfaa", sum := "16de789756f1805fe81f3dd77149e6a26f9c87c2104890d8ef0baace0fded174", func := "loop.example/g00188/laws.FnExactMost", spec := "fnExactMost", apart := false }
def FnExactMostSaid : Prop := fnExactMostRow.holds Try.pinned (OpenSpec.ofChange fnExactMostSpec)

/-- ITS FALSE NEIGHBOUR: 'it returns false'. Refute it at one input. -/
def fnExactMostWrong : ChangeSpec := { name := "fnExactMost", fn := fun _ => fun
  | [d1, d2] => { results := [.lit (.bool false)], args := [d1, d2] }
  | _ => none }
def FnExactMostWrongFalsely : Prop := fnExactMostRow.holds Try.pinned (OpenSpec.ofChange fnExactMostWrong)

/-- 'laws.FnTurned': WHATEVER THE INPUT: true; the input reads as it did. -/
def fnTurnedSpec : ChangeSpec := { name := "fnTurned", fn := fun _ => fun
  | [d] => { results := [.lit (.bool true)], args := [d] }
  | _ => none }
def fnTurnedRow : OpenClaim := { program := "ytgdcfkhpeakbfaa", sum := "16de789756f1805fe81f3dd77149e6a26f9c87c2104890d8ef0baace0fded174", func := "loop.example/g00188/laws.FnTurned", spec := "fnTurned", apart := false }
def FnTurnedSaid : Prop := fnTurnedRow.holds Try.pinned (OpenSpec.ofChange fnTurnedSpec)

/-- ITS FALSE NEIGHBOUR: 'it returns false'. Refute it at one input. -/
def fnTurnedWrong : ChangeSpec := { name := "fnTurned", fn := fun _ => fun
  | [d] => { results := [.lit (.bool false)], args := [d] }
  | _ => none }
def FnTurnedWrongFalsely : Prop := fnTurnedRow.holds Try.pinned (OpenSpec.ofChange fnTurnedWrong)

/-- 'laws.FnMinutes': WHATEVER THE INPUT: true; the input reads as it did. -/
def fnMinutesSpec : ChangeSpec := { name := "fnMinutes", fn := fun _ => fun
  | [d] => { results := [.lit (.bool true)], args := [d] }
  | _ => none }
def fnMinutesRow : OpenClaim := { program := "ytgdcfkhpeakbfaa", sum := "16de789756f1805fe81f3dd77149e6a26f9c87c2104890d8ef0baace0fded174", func := "loop.example/g00188/laws.FnMinutes", spec := "fnMinutes", apart := false }
def FnMinutesSaid : Prop := fnMinutesRow.holds Try.pinned (OpenSpec.ofChange fnMinutesSpec)

/-- ITS FALSE NEIGHBOUR: 'it returns false'. Refute it at one input. -/
def fnMinutesWrong : ChangeSpec := { name := "fnMinutes", fn := fun _ => fun
  | [d] => { results := [.lit (.bool false)], args := [d] }
  | _ => none }
def FnMinutesWrongFalsely : Prop := fnMinutesRow.holds Try.pinned (OpenSpec.ofChange fnMinutesWrong)

/- THE SECOND FORM. 'bulk': how many values and letters a reading holds, each counted each time it is reached (what is shared counts as often as it is met; a slice's spare places count too). A statement '..UptoSaid' is the law's where the arguments, and the package variables that the reading takes, are together of bulk at most 1048576: NARROWER than '..Said'. Prove '..Said' where nothing that the law and all that it calls make is longer than what came in: it says more and counts as full. Else prove '..UptoSaid'. A law counts once. -/
mutual
def uptoBulk {H : Type} : DataW H → Nat
  | .lit (.string bytes) => bytes.length + 1
  | .lit _ => 1
  | .nil => 1
  | .ptr d => uptoBulk d + 1
  | .slice elems spare => uptoBulkAll elems + uptoBulkAll spare + 1
  | .agg parts => uptoBulkAll parts + 1
  | .iface _ d => uptoBulk d + 1
  | .map entries => uptoBulkEntries entries + 1
  | .held _ => 1
def uptoBulkAll {H : Type} : List (DataW H) → Nat
  | [] => 0
  | d :: r => uptoBulk d + uptoBulkAll r
def uptoBulkEntries {H : Type} : List (Lit × DataW H) → Nat
  | [] => 0
  | x :: r => uptoBulkEntry x + uptoBulkEntries r
def uptoBulkEntry {H : Type} : Lit × DataW H → Nat
  | (.string bytes, d) => bytes.length + uptoBulk d + 1
  | (_, d) => uptoBulk d + 1
 end
def uptoSmall : (H : Type) → List (DataW H) → Bool := fun _ ds => decide (uptoBulkAll ds ≤ 1048576)
def OpenSpec.upto (s : _root_.Go.ChangeSpec) : _root_.Go.OpenSpec := { _root_.Go.OpenSpec.ofChange s with cond := some uptoSmall }

/-- 'laws.FnExactSealed', WHERE WHAT IT READS IS OF BULK AT MOST 1048576: true; the input reads as it did. -/
def fnExactSealedUptoRow : OpenClaim := { program := "ytgdcfkhpeakbfaa", sum := "16de789756f1805fe81f3dd77149e6a26f9c87c2104890d8ef0baace0fded174", func := "loop.example/g00188/laws.FnExactSealed", spec := "fnExactSealed", apart := false, narrowed := true }
def FnExactSealedUptoSaid : Prop := fnExactSealedUptoRow.holds Try.pinned (OpenSpec.upto fnExactSealedSpec)

/-- 'laws.FnExactUnsealed', WHERE WHAT IT READS IS OF BULK AT MOST 1048576: true; the input reads as it did. -/
def fnExactUnsealedUptoRow : OpenClaim := { program := "ytgdcfkhpeakbfaa", sum := "16de789756f1805fe81f3dd77149e6a26f9c87c2104890d8ef0baace0fded174", func := "loop.example/g00188/laws.FnExactUnsealed", spec := "fnExactUnsealed", apart := false, narrowed := true }
def FnExactUnsealedUptoSaid : Prop := fnExactUnsealedUptoRow.holds Try.pinned (OpenSpec.upto fnExactUnsealedSpec)

/-- 'laws.FnExactReadShort', WHERE WHAT IT READS IS OF BULK AT MOST 1048576: true; the input reads as it did. -/
def fnExactReadShortUptoRow : OpenClaim := { program := "ytgdcfkhpeakbfaa", sum := "16de789756f1805fe81f3dd77149e6a26f9c87c2104890d8ef0baace0fded174", func := "loop.example/g00188/laws.FnExactReadShort", spec := "fnExactReadShort", apart := false, narrowed := true }
def FnExactReadShortUptoSaid : Prop := fnExactReadShortUptoRow.holds Try.pinned (OpenSpec.upto fnExactReadShortSpec)

/-- 'laws.FnExactCivilOk', WHERE WHAT IT READS IS OF BULK AT MOST 1048576: true; the input reads as it did. -/
def fnExactCivilOkUptoRow : OpenClaim := { program := "ytgdcfkhpeakbfaa", sum := "16de789756f1805fe81f3dd77149e6a26f9c87c2104890d8ef0baace0fded174", func := "loop.example/g00188/laws.FnExactCivilOk", spec := "fnExactCivilOk", apart := false, narrowed := true }
def FnExactCivilOkUptoSaid : Prop := fnExactCivilOkUptoRow.holds Try.pinned (OpenSpec.upto fnExactCivilOkSpec)

/-- 'laws.FnExactConfText', WHERE WHAT IT READS IS OF BULK AT MOST 1048576: true; the input reads as it did. -/
def fnExactConfTextUptoRow : OpenClaim := { program := "ytgdcfkhpeakbfaa", sum := "16de789756f1805fe81f3dd77149e6a26f9c87c2104890d8ef0baace0fded174", func := "loop.example/g00188/laws.FnExactConfText", spec := "fnExactConfText", apart := false, narrowed := true }
def FnExactConfTextUptoSaid : Prop := fnExactConfTextUptoRow.holds Try.pinned (OpenSpec.upto fnExactConfTextSpec)

/-- 'laws.FnExactFrame', WHERE WHAT IT READS IS OF BULK AT MOST 1048576: true; the input reads as it did. -/
def fnExactFrameUptoRow : OpenClaim := { program := "ytgdcfkhpeakbfaa", sum := "16de789756f1805fe81f3dd77149e6a26f9c87c2104890d8ef0baace0fded174", func := "loop.example/g00188/laws.FnExactFrame", spec := "fnExactFrame", apart := false, narrowed := true }
def FnExactFrameUptoSaid : Prop := fnExactFrameUptoRow.holds Try.pinned (OpenSpec.upto fnExactFrameSpec)

/-- 'laws.FnExactReadConf', WHERE WHAT IT READS IS OF BULK AT MOST 1048576: true; the input reads as it did. -/
def fnExactReadConfUptoRow : OpenClaim := { program := "ytgdcfkhpeakbfaa", sum := "16de789756f1805fe81f3dd77149e6a26f9c87c2104890d8ef0baace0fded174", func := "loop.example/g00188/laws.FnExactReadConf", spec := "fnExactReadConf", apart := false, narrowed := true }
def FnExactReadConfUptoSaid : Prop := fnExactReadConfUptoRow.holds Try.pinned (OpenSpec.upto fnExactReadConfSpec)

/-- 'laws.FnExactMinuteOf', WHERE WHAT IT READS IS OF BULK AT MOST 1048576: true; the input reads as it did. -/
def fnExactMinuteOfUptoRow : OpenClaim := { program := "ytgdcfkhpeakbfaa", sum := "16de789756f1805fe81f3dd77149e6a26f9c87c2104890d8ef0baace0fded174", func := "loop.example/g00188/laws.FnExactMinuteOf", spec := "fnExactMinuteOf", apart := false, narrowed := true }
def FnExactMinuteOfUptoSaid : Prop := fnExactMinuteOfUptoRow.holds Try.pinned (OpenSpec.upto fnExactMinuteOfSpec)

/-- 'laws.FnExactCivilOf', WHERE WHAT IT READS IS OF BULK AT MOST 1048576: true; the input reads as it did. -/
def fnExactCivilOfUptoRow : OpenClaim := { program := "ytgdcfkhpeakbfaa", sum := "16de789756f1805fe81f3dd77149e6a26f9c87c2104890d8ef0baace0fded174", func := "loop.example/g00188/laws.FnExactCivilOf", spec := "fnExactCivilOf", apart := false, narrowed := true }
def FnExactCivilOfUptoSaid : Prop := fnExactCivilOfUptoRow.holds Try.pinned (OpenSpec.upto fnExactCivilOfSpec)

/-- 'laws.FnExactMost', WHERE WHAT IT READS IS OF BULK AT MOST 1048576: true; the input reads as it did. -/
def fnExactMostUptoRow : OpenClaim := { program := "ytgdcfkhpeakbfaa", sum := "16de789756f1805fe81f3dd77149e6a26f9c87c2104890d8ef0baace0fded174", func := "loop.example/g00188/laws.FnExactMost", spec := "fnExactMost", apart := false, narrowed := true }
def FnExactMostUptoSaid : Prop := fnExactMostUptoRow.holds Try.pinned (OpenSpec.upto fnExactMostSpec)

/-- 'laws.FnTurned', WHERE WHAT IT READS IS OF BULK AT MOST 1048576: true; the input reads as it did. -/
def fnTurnedUptoRow : OpenClaim := { program := "ytgdcfkhpeakbfaa", sum := "16de789756f1805fe81f3dd77149e6a26f9c87c2104890d8ef0baace0fded174", func := "loop.example/g00188/laws.FnTurned", spec := "fnTurned", apart := false, narrowed := true }
def FnTurnedUptoSaid : Prop := fnTurnedUptoRow.holds Try.pinned (OpenSpec.upto fnTurnedSpec)

/-- 'laws.FnMinutes', WHERE WHAT IT READS IS OF BULK AT MOST 1048576: true; the input reads as it did. -/
def fnMinutesUptoRow : OpenClaim := { program := "ytgdcfkhpeakbfaa", sum := "16de789756f1805fe81f3dd77149e6a26f9c87c2104890d8ef0baace0fded174", func := "loop.example/g00188/laws.FnMinutes", spec := "fnMinutes", apart := false, narrowed := true }
def FnMinutesUptoSaid : Prop := fnMinutesUptoRow.holds Try.pinned (OpenSpec.upto fnMinutesSpec)

end Rows
end Go.Proofs.Ytgdcfkhpeakbfaa
