/-
  No cell of these rows narrows 'for every input' (looked for: loops, veiled, ifaces, maps, wideKeys, modest, calm, conditions, laid).
  DERIVED. THE GIVEN ROWS OF THIS SEAT. 10 by the template 'for every input the law returns true; each argument reads behind the call as it read before'; 0 by the template 'total and deterministic' (their statements: YtacdceahdbaonaaTotals.lean).
  GIVEN WITH THE SEED: the statements are not yours to turn. If you find one false, say at which input.
  Laid BY PROGRAM, IN A SANDBOX (cutbox-rows.mjs): the forced cells as the released guide's own fill.sh prints them over the translation 0d4238beb81218d6… (all of the seat's roots in one cut). By AI agents, Wed Nov 11 2026. No macro, syntax, notation, axiom, sorry.
-/
import Derived.Test.YtacdceahdbaonaaChecked
import GoSem.Claim
import GoSem.ClaimJoined
import GoSem.ClaimMapViews
import Derived.JoinedTies
import Derived.KernelRfl
namespace Go.Proofs.Ytacdceahdbaonaa
/- THE CELL 'sum', in the pinned program and in every row, IS THE sha256 OF THE DUMP (.gsa) THAT YtacdceahdbaonaaProg.lean LOADS. Nothing in Lean hashes anything: it is a label: what it is worth is what the hold of that sum in a sandbox is worth. -/
noncomputable def Try.pinned : Pinned := { name := "ytacdceahdbaonaa", sum := "0d4238beb81218d6172d2f345e58ba88d3458797538f713182c68c528606f80c", checked := Try.checked }
namespace Rows
def none {H : Type} : Left H := { results := [], args := [] }

/-- 'laws.FnExactLogLast': WHATEVER THE INPUT: true; the input reads as it did. -/
def fnExactLogLastSpec : ChangeSpec := { name := "fnExactLogLast", fn := fun _ => fun
  | [d] => { results := [.lit (.bool true)], args := [d] }
  | _ => none }
def fnExactLogLastRow : OpenClaim := { program := "ytacdceahdbaonaa", sum := "0d4238beb81218d6172d2f345e58ba88d3458797538f713182c68c528606f80c", func := "loop.example/g00188/laws.FnExactLogLast", spec := "fnExactLogLast", apart := false }
def FnExactLogLastSaid : Prop := fnExactLogLastRow.holds Try.pinned (OpenSpec.ofChange fnExactLogLastSpec)

/-- ITS FALSE NEIGHBOUR: 'it returns false'. Refute it at one input. -/
def fnExactLogLastWrong : ChangeSpec := { name := "fnExactLogLast", fn := fun _ => fun
  | [d] => { results := [.lit (.bool false)], args := [d] }
  | _ => none }
def FnExactLogLastWrongFalsely : Prop := fnExactLogLastRow.holds Try.pinned (OpenSpec.ofChange fnExactLogLastWrong)

/-- 'laws.FnExactLogTerm': WHATEVER THE INPUT: true; the input reads as it did. -/
def fnExactLogTermSpec : ChangeSpec := { name := "fnExactLogTerm", fn := fun _ => fun
  | [d1, d2] => { results := [.lit (.bool true)], args := [d1, d2] }
  | _ => none }
def fnExactLogTermRow : OpenClaim := { program := "ytacdceahdbaonaa", sum := "0d4238beb81218d6172d2f345e58ba88d3458797538f713182c68c528606f80c", func := "loop.example/g00188/laws.FnExactLogTerm", spec := "fnExactLogTerm", apart := false }
def FnExactLogTermSaid : Prop := fnExactLogTermRow.holds Try.pinned (OpenSpec.ofChange fnExactLogTermSpec)

/-- ITS FALSE NEIGHBOUR: 'it returns false'. Refute it at one input. -/
def fnExactLogTermWrong : ChangeSpec := { name := "fnExactLogTerm", fn := fun _ => fun
  | [d1, d2] => { results := [.lit (.bool false)], args := [d1, d2] }
  | _ => none }
def FnExactLogTermWrongFalsely : Prop := fnExactLogTermRow.holds Try.pinned (OpenSpec.ofChange fnExactLogTermWrong)

/-- 'laws.FnExactEntryOk': WHATEVER THE INPUT: true; the input reads as it did. -/
def fnExactEntryOkSpec : ChangeSpec := { name := "fnExactEntryOk", fn := fun _ => fun
  | [d] => { results := [.lit (.bool true)], args := [d] }
  | _ => none }
def fnExactEntryOkRow : OpenClaim := { program := "ytacdceahdbaonaa", sum := "0d4238beb81218d6172d2f345e58ba88d3458797538f713182c68c528606f80c", func := "loop.example/g00188/laws.FnExactEntryOk", spec := "fnExactEntryOk", apart := false }
def FnExactEntryOkSaid : Prop := fnExactEntryOkRow.holds Try.pinned (OpenSpec.ofChange fnExactEntryOkSpec)

/-- ITS FALSE NEIGHBOUR: 'it returns false'. Refute it at one input. -/
def fnExactEntryOkWrong : ChangeSpec := { name := "fnExactEntryOk", fn := fun _ => fun
  | [d] => { results := [.lit (.bool false)], args := [d] }
  | _ => none }
def FnExactEntryOkWrongFalsely : Prop := fnExactEntryOkRow.holds Try.pinned (OpenSpec.ofChange fnExactEntryOkWrong)

/-- 'laws.FnExactEntryText': WHATEVER THE INPUT: true; the input reads as it did. -/
def fnExactEntryTextSpec : ChangeSpec := { name := "fnExactEntryText", fn := fun _ => fun
  | [d1, d2] => { results := [.lit (.bool true)], args := [d1, d2] }
  | _ => none }
def fnExactEntryTextRow : OpenClaim := { program := "ytacdceahdbaonaa", sum := "0d4238beb81218d6172d2f345e58ba88d3458797538f713182c68c528606f80c", func := "loop.example/g00188/laws.FnExactEntryText", spec := "fnExactEntryText", apart := false }
def FnExactEntryTextSaid : Prop := fnExactEntryTextRow.holds Try.pinned (OpenSpec.ofChange fnExactEntryTextSpec)

/-- ITS FALSE NEIGHBOUR: 'it returns false'. Refute it at one input. -/
def fnExactEntryTextWrong : ChangeSpec := { name := "fnExactEntryText", fn := fun _ => fun
  | [d1, d2] => { results := [.lit (.bool false)], args := [d1, d2] }
  | _ => none }
def FnExactEntryTextWrongFalsely : Prop := fnExactEntryTextRow.holds Try.pinned (OpenSpec.ofChange fnExactEntryTextWrong)

/-- 'laws.FnExactLogOk': WHATEVER THE INPUT: true; the input reads as it did. -/
def fnExactLogOkSpec : ChangeSpec := { name := "fnExactLogOk", fn := fun _ => fun
  | [d] => { results := [.lit (.bool true)], args := [d] }
  | _ => none }
def fnExactLogOkRow : OpenClaim := { program := "ytacdceahdbaonaa", sum := "0d4238beb81218d6172d2f345e58ba88d3458797538f713182c68c528606f80c", func := "loop.example/g00188/laws.FnExactLogOk", spec := "fnExactLogOk", apart := false }
def FnExactLogOkSaid : Prop := fnExactLogOkRow.holds Try.pinned (OpenSpec.ofChange fnExactLogOkSpec)

/-- ITS FALSE NEIGHBOUR: 'it returns false'. Refute it at one input. -/
def fnExactLogOkWrong : ChangeSpec := { name := "fnExactLogOk", fn := fun _ => fun
  | [d] => { results := [.lit (.bool false)], args := [d] }
  | _ => none }
def FnExactLogOkWrongFalsely : Prop := fnExactLogOkRow.holds Try.pinned (OpenSpec.ofChange fnExactLogOkWrong)

/-- 'laws.FnExactLogPut': WHATEVER THE INPUT: true; the input reads as it did. -/
def fnExactLogPutSpec : ChangeSpec := { name := "fnExactLogPut", fn := fun _ => fun
  | [d1, d2, d3] => { results := [.lit (.bool true)], args := [d1, d2, d3] }
  | _ => none }
def fnExactLogPutRow : OpenClaim := { program := "ytacdceahdbaonaa", sum := "0d4238beb81218d6172d2f345e58ba88d3458797538f713182c68c528606f80c", func := "loop.example/g00188/laws.FnExactLogPut", spec := "fnExactLogPut", apart := false }
def FnExactLogPutSaid : Prop := fnExactLogPutRow.holds Try.pinned (OpenSpec.ofChange fnExactLogPutSpec)

/-- ITS FALSE NEIGHBOUR: 'it returns false'. Refute it at one input. -/
def fnExactLogPutWrong : ChangeSpec := { name := "fnExactLogPut", fn := fun _ => fun
  | [d1, d2, d3] => { results := [.lit (.bool false)], args := [d1, d2, d3] }
  | _ => none }
def FnExactLogPutWrongFalsely : Prop := fnExactLogPutRow.holds Try.pinned (OpenSpec.ofChange fnExactLogPutWrong)

/-- 'laws.FnExactLogBehind': WHATEVER THE INPUT: true; the input reads as it did. -/
def fnExactLogBehindSpec : ChangeSpec := { name := "fnExactLogBehind", fn := fun _ => fun
  | [d1, d2, d3] => { results := [.lit (.bool true)], args := [d1, d2, d3] }
  | _ => none }
def fnExactLogBehindRow : OpenClaim := { program := "ytacdceahdbaonaa", sum := "0d4238beb81218d6172d2f345e58ba88d3458797538f713182c68c528606f80c", func := "loop.example/g00188/laws.FnExactLogBehind", spec := "fnExactLogBehind", apart := false }
def FnExactLogBehindSaid : Prop := fnExactLogBehindRow.holds Try.pinned (OpenSpec.ofChange fnExactLogBehindSpec)

/-- ITS FALSE NEIGHBOUR: 'it returns false'. Refute it at one input. -/
def fnExactLogBehindWrong : ChangeSpec := { name := "fnExactLogBehind", fn := fun _ => fun
  | [d1, d2, d3] => { results := [.lit (.bool false)], args := [d1, d2, d3] }
  | _ => none }
def FnExactLogBehindWrongFalsely : Prop := fnExactLogBehindRow.holds Try.pinned (OpenSpec.ofChange fnExactLogBehindWrong)

/-- 'laws.FnExactShared': WHATEVER THE INPUT: true; the input reads as it did. -/
def fnExactSharedSpec : ChangeSpec := { name := "fnExactShared", fn := fun _ => fun
  | [d1, d2] => { results := [.lit (.bool true)], args := [d1, d2] }
  | _ => none }
def fnExactSharedRow : OpenClaim := { program := "ytacdceahdbaonaa", sum := "0d4238beb81218d6172d2f345e58ba88d3458797538f713182c68c528606f80c", func := "loop.example/g00188/laws.FnExactShared", spec := "fnExactShared", apart := false }
def FnExactSharedSaid : Prop := fnExactSharedRow.holds Try.pinned (OpenSpec.ofChange fnExactSharedSpec)

/-- ITS FALSE NEIGHBOUR: 'it returns false'. Refute it at one input. -/
def fnExactSharedWrong : ChangeSpec := { name := "fnExactShared", fn := fun _ => fun
  | [d1, d2] => { results := [.lit (.bool false)], args := [d1, d2] }
  | _ => none }
def FnExactSharedWrongFalsely : Prop := fnExactSharedRow.holds Try.pinned (OpenSpec.ofChange fnExactSharedWrong)

/-- 'laws.FnExactJournalOk': WHATEVER THE INPUT: true; the input reads as it did. -/
def fnExactJournalOkSpec : ChangeSpec := { name := "fnExactJournalOk", fn := fun _ => fun
  | [d] => { results := [.lit (.bool true)], args := [d] }
  | _ => none }
def fnExactJournalOkRow : OpenClaim := { program := "ytacdceahdbaonaa", sum := "0d4238beb81218d6172d2f345e58ba88d3458797538f713182c68c528606f80c", func := "loop.example/g00188/laws.FnExactJournalOk", spec := "fnExactJournalOk", apart := false }
def FnExactJournalOkSaid : Prop := fnExactJournalOkRow.holds Try.pinned (OpenSpec.ofChange fnExactJournalOkSpec)

/-- ITS FALSE NEIGHBOUR: 'it returns false'. Refute it at one input. -/
def fnExactJournalOkWrong : ChangeSpec := { name := "fnExactJournalOk", fn := fun _ => fun
  | [d] => { results := [.lit (.bool false)], args := [d] }
  | _ => none }
def FnExactJournalOkWrongFalsely : Prop := fnExactJournalOkRow.holds Try.pinned (OpenSpec.ofChange fnExactJournalOkWrong)

/-- 'laws.FnExactJournalText': WHATEVER THE INPUT: true; the input reads as it did. -/
def fnExactJournalTextSpec : ChangeSpec := { name := "fnExactJournalText", fn := fun _ => fun
  | [d] => { results := [.lit (.bool true)], args := [d] }
  | _ => none }
def fnExactJournalTextRow : OpenClaim := { program := "ytacdceahdbaonaa", sum := "0d4238beb81218d6172d2f345e58ba88d3458797538f713182c68c528606f80c", func := "loop.example/g00188/laws.FnExactJournalText", spec := "fnExactJournalText", inPlace := ["internal/abi.NoEscape"], apart := false }
def FnExactJournalTextSaid : Prop := fnExactJournalTextRow.holds Try.pinned (OpenSpec.ofChange fnExactJournalTextSpec)

/-- ITS FALSE NEIGHBOUR: 'it returns false'. Refute it at one input. -/
def fnExactJournalTextWrong : ChangeSpec := { name := "fnExactJournalText", fn := fun _ => fun
  | [d] => { results := [.lit (.bool false)], args := [d] }
  | _ => none }
def FnExactJournalTextWrongFalsely : Prop := fnExactJournalTextRow.holds Try.pinned (OpenSpec.ofChange fnExactJournalTextWrong)

/- THE SECOND FORM. 'bulk': how many values and letters a reading holds, each counted each time it is reached (what is shared counts as often as it is met; a slice's spare places count too). A statement '..UptoSaid' is the law's where the arguments, and the package variables that the reading takes, are together of bulk at most 1048576: NARROWER than '..Said'. Prove '..Said' where nothing that the law and all that it calls make is longer than what came in: it says more and counts as full. Else prove '..UptoSaid'. A law counts once. -/
mutual
def uptoBulk {H : Type} : DataW H → Nat
  | .lit (.string bytes) => bytes.length + 1
  | .lit _ => 1
  | .nil => 1
  | .ptr d => uptoBulk d + 1
  | .slice elems spare => uptoBulkAll elems + uptoBulkAll spare + 1
  | .agg parts => uptoBulkAll parts + 1
  | .iface _ d => uptoBulk d + 1
  | .map entries => uptoBulkEntries entries + 1
  | .held _ => 1
def uptoBulkAll {H : Type} : List (DataW H) → Nat
  | [] => 0
  | d :: r => uptoBulk d + uptoBulkAll r
def uptoBulkEntries {H : Type} : List (Lit × DataW H) → Nat
  | [] => 0
  | x :: r => uptoBulkEntry x + uptoBulkEntries r
def uptoBulkEntry {H : Type} : Lit × DataW H → Nat
  | (.string bytes, d) => bytes.length + uptoBulk d + 1
  | (_, d) => uptoBulk d + 1
 end
def uptoSmall : (H : Type) → List (DataW H) → Bool := fun _ ds => decide (uptoBulkAll ds ≤ 1048576)
def OpenSpec.upto (s : _root_.Go.ChangeSpec) : _root_.Go.OpenSpec := { _root_.Go.OpenSpec.ofChange s with cond := some uptoSmall }

/-- 'laws.FnExactLogLast', WHERE WHAT IT READS IS OF BULK AT MOST 1048576: true; the input reads as it did. -/
def fnExactLogLastUptoRow : OpenClaim := { program := "ytacdceahdbaonaa", sum := "0d4238beb81218d6172d2f345e58ba88d3458797538f713182c68c528606f80c", func := "loop.example/g00188/laws.FnExactLogLast", spec := "fnExactLogLast", apart := false, narrowed := true }
def FnExactLogLastUptoSaid : Prop := fnExactLogLastUptoRow.holds Try.pinned (OpenSpec.upto fnExactLogLastSpec)

/-- 'laws.FnExactLogTerm', WHERE WHAT IT READS IS OF BULK AT MOST 1048576: true; the input reads as it did. -/
def fnExactLogTermUptoRow : OpenClaim := { program := "ytacdceahdbaonaa", sum := "0d4238beb81218d6172d2f345e58ba88d3458797538f713182c68c528606f80c", func := "loop.example/g00188/laws.FnExactLogTerm", spec := "fnExactLogTerm", apart := false, narrowed := true }
def FnExactLogTermUptoSaid : Prop := fnExactLogTermUptoRow.holds Try.pinned (OpenSpec.upto fnExactLogTermSpec)

/-- 'laws.FnExactEntryOk', WHERE WHAT IT READS IS OF BULK AT MOST 1048576: true; the input reads as it did. -/
def fnExactEntryOkUptoRow : OpenClaim := { program := "ytacdceahdbaonaa", sum := "0d4238beb81218d6172d2f345e58ba88d3458797538f713182c68c528606f80c", func := "loop.example/g00188/laws.FnExactEntryOk", spec := "fnExactEntryOk", apart := false, narrowed := true }
def FnExactEntryOkUptoSaid : Prop := fnExactEntryOkUptoRow.holds Try.pinned (OpenSpec.upto fnExactEntryOkSpec)

/-- 'laws.FnExactEntryText', WHERE WHAT IT READS IS OF BULK AT MOST 1048576: true; the input reads as it did. -/
def fnExactEntryTextUptoRow : OpenClaim := { program := "ytacdceahdbaonaa", sum := "0d4238beb81218d6172d2f345e58ba88d3458797538f713182c68c528606f80c", func := "loop.example/g00188/laws.FnExactEntryText", spec := "fnExactEntryText", apart := false, narrowed := true }
def FnExactEntryTextUptoSaid : Prop := fnExactEntryTextUptoRow.holds Try.pinned (OpenSpec.upto fnExactEntryTextSpec)

/-- 'laws.FnExactLogOk', WHERE WHAT IT READS IS OF BULK AT MOST 1048576: true; the input reads as it did. -/
def fnExactLogOkUptoRow : OpenClaim := { program := "ytacdceahdbaonaa", sum := "0d4238beb81218d6172d2f345e58ba88d3458797538f713182c68c528606f80c", func := "loop.example/g00188/laws.FnExactLogOk", spec := "fnExactLogOk", apart := false, narrowed := true }
def FnExactLogOkUptoSaid : Prop := fnExactLogOkUptoRow.holds Try.pinned (OpenSpec.upto fnExactLogOkSpec)

/-- 'laws.FnExactLogPut', WHERE WHAT IT READS IS OF BULK AT MOST 1048576: true; the input reads as it did. -/
def fnExactLogPutUptoRow : OpenClaim := { program := "ytacdceahdbaonaa", sum := "0d4238beb81218d6172d2f345e58ba88d3458797538f713182c68c528606f80c", func := "loop.example/g00188/laws.FnExactLogPut", spec := "fnExactLogPut", apart := false, narrowed := true }
def FnExactLogPutUptoSaid : Prop := fnExactLogPutUptoRow.holds Try.pinned (OpenSpec.upto fnExactLogPutSpec)

/-- 'laws.FnExactLogBehind', WHERE WHAT IT READS IS OF BULK AT MOST 1048576: true; the input reads as it did. -/
def fnExactLogBehindUptoRow : OpenClaim := { program := "ytacdceahdbaonaa", sum := "0d4238beb81218d6172d2f345e58ba88d3458797538f713182c68c528606f80c", func := "loop.example/g00188/laws.FnExactLogBehind", spec := "fnExactLogBehind", apart := false, narrowed := true }
def FnExactLogBehindUptoSaid : Prop := fnExactLogBehindUptoRow.holds Try.pinned (OpenSpec.upto fnExactLogBehindSpec)

/-- 'laws.FnExactShared', WHERE WHAT IT READS IS OF BULK AT MOST 1048576: true; the input reads as it did. -/
def fnExactSharedUptoRow : OpenClaim := { program := "ytacdceahdbaonaa", sum := "0d4238beb81218d6172d2f345e58ba88d3458797538f713182c68c528606f80c", func := "loop.example/g00188/laws.FnExactShared", spec := "fnExactShared", apart := false, narrowed := true }
def FnExactSharedUptoSaid : Prop := fnExactSharedUptoRow.holds Try.pinned (OpenSpec.upto fnExactSharedSpec)

/-- 'laws.FnExactJournalOk', WHERE WHAT IT READS IS OF BULK AT MOST 1048576: true; the input reads as it did. -/
def fnExactJournalOkUptoRow : OpenClaim := { program := "ytacdceahdbaonaa", sum := "0d4238beb81218d6172d2f345e58ba88d3458797538f713182c68c528606f80c", func := "loop.example/g00188/laws.FnExactJournalOk", spec := "fnExactJournalOk", apart := false, narrowed := true }
def FnExactJournalOkUptoSaid : Prop := fnExactJournalOkUptoRow.holds Try.pinned (OpenSpec.upto fnExactJournalOkSpec)

/-- 'laws.FnExactJournalText', WHERE WHAT IT READS IS OF BULK AT MOST 1048576: true; the input reads as it did. -/
def fnExactJournalTextUptoRow : OpenClaim := { program := "ytacdceahdbaonaa", sum := "0d4238beb81218d6172d2f345e58ba88d3458797538f713182c68c528606f80c", func := "loop.example/g00188/laws.FnExactJournalText", spec := "fnExactJournalText", inPlace := ["internal/abi.NoEscape"], apart := false, narrowed := true }
def FnExactJournalTextUptoSaid : Prop := fnExactJournalTextUptoRow.holds Try.pinned (OpenSpec.upto fnExactJournalTextSpec)

end Rows
end Go.Proofs.Ytacdceahdbaonaa
