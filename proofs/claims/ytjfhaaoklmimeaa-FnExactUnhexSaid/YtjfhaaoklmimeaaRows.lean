/-
  No cell of these rows narrows 'for every input' (looked for: loops, veiled, ifaces, maps, wideKeys, modest, calm, conditions, laid).
  DERIVED. THE GIVEN ROWS OF THIS SEAT. 12 by the template 'for every input the law returns true; each argument reads behind the call as it read before'; 0 by the template 'total and deterministic' (their statements: YtjfhaaoklmimeaaTotals.lean).
  GIVEN WITH THE SEED: the statements are not yours to turn. If you find one false, say at which input.
  Laid BY PROGRAM, IN A SANDBOX (cutbox-rows.mjs): the forced cells as the released guide's own fill.sh prints them over the translation 5d879e99eb2852a9… (all of the seat's roots in one cut). By AI agents, Wed Nov 11 2026. No macro, syntax, notation, axiom, sorry.
-/
import Derived.Test.YtjfhaaoklmimeaaChecked
import GoSem.Claim
import GoSem.ClaimJoined
import GoSem.ClaimMapViews
import Derived.JoinedTies
import Derived.KernelRfl
namespace Go.Proofs.Ytjfhaaoklmimeaa
/- THE CELL 'sum', in the pinned program and in every row, IS THE sha256 OF THE DUMP (.gsa) THAT YtjfhaaoklmimeaaProg.lean LOADS. Nothing in Lean hashes anything: it is a label: what it is worth is what the hold of that sum in a sandbox is worth. -/
noncomputable def Try.pinned : Pinned := { name := "ytjfhaaoklmimeaa", sum := "5d879e99eb2852a940cc927f075231bef77c844a3ab17d7c851129a3aca80775", checked := Try.checked }
namespace Rows
def none {H : Type} : Left H := { results := [], args := [] }

/-- 'laws.FnExactConstants': WHATEVER THE INPUT: true; the input reads as it did. -/
def fnExactConstantsSpec : ChangeSpec := { name := "fnExactConstants", fn := fun _ => fun
  | [] => { results := [.lit (.bool true)], args := [] }
  | _ => none }
def fnExactConstantsRow : OpenClaim := { program := "ytjfhaaoklmimeaa", sum := "5d879e99eb2852a940cc927f075231bef77c844a3ab17d7c851129a3aca80775", func := "loop.example/g00188/laws.FnExactConstants", spec := "fnExactConstants", apart := false }
def FnExactConstantsSaid : Prop := fnExactConstantsRow.holds Try.pinned (OpenSpec.ofChange fnExactConstantsSpec)

/-- ITS FALSE NEIGHBOUR: 'it returns false'. Refute it at one input. -/
def fnExactConstantsWrong : ChangeSpec := { name := "fnExactConstants", fn := fun _ => fun
  | [] => { results := [.lit (.bool false)], args := [] }
  | _ => none }
def FnExactConstantsWrongFalsely : Prop := fnExactConstantsRow.holds Try.pinned (OpenSpec.ofChange fnExactConstantsWrong)

/-- 'laws.FnExactLeapYear': WHATEVER THE INPUT: true; the input reads as it did. -/
def fnExactLeapYearSpec : ChangeSpec := { name := "fnExactLeapYear", fn := fun _ => fun
  | [d] => { results := [.lit (.bool true)], args := [d] }
  | _ => none }
def fnExactLeapYearRow : OpenClaim := { program := "ytjfhaaoklmimeaa", sum := "5d879e99eb2852a940cc927f075231bef77c844a3ab17d7c851129a3aca80775", func := "loop.example/g00188/laws.FnExactLeapYear", spec := "fnExactLeapYear", apart := false }
def FnExactLeapYearSaid : Prop := fnExactLeapYearRow.holds Try.pinned (OpenSpec.ofChange fnExactLeapYearSpec)

/-- ITS FALSE NEIGHBOUR: 'it returns false'. Refute it at one input. -/
def fnExactLeapYearWrong : ChangeSpec := { name := "fnExactLeapYear", fn := fun _ => fun
  | [d] => { results := [.lit (.bool false)], args := [d] }
  | _ => none }
def FnExactLeapYearWrongFalsely : Prop := fnExactLeapYearRow.holds Try.pinned (OpenSpec.ofChange fnExactLeapYearWrong)

/-- 'laws.FnExactWeekdayOf': WHATEVER THE INPUT: true; the input reads as it did. -/
def fnExactWeekdayOfSpec : ChangeSpec := { name := "fnExactWeekdayOf", fn := fun _ => fun
  | [d] => { results := [.lit (.bool true)], args := [d] }
  | _ => none }
def fnExactWeekdayOfRow : OpenClaim := { program := "ytjfhaaoklmimeaa", sum := "5d879e99eb2852a940cc927f075231bef77c844a3ab17d7c851129a3aca80775", func := "loop.example/g00188/laws.FnExactWeekdayOf", spec := "fnExactWeekdayOf", apart := false }
def FnExactWeekdayOfSaid : Prop := fnExactWeekdayOfRow.holds Try.pinned (OpenSpec.ofChange fnExactWeekdayOfSpec)

/-- ITS FALSE NEIGHBOUR: 'it returns false'. Refute it at one input. -/
def fnExactWeekdayOfWrong : ChangeSpec := { name := "fnExactWeekdayOf", fn := fun _ => fun
  | [d] => { results := [.lit (.bool false)], args := [d] }
  | _ => none }
def FnExactWeekdayOfWrongFalsely : Prop := fnExactWeekdayOfRow.holds Try.pinned (OpenSpec.ofChange fnExactWeekdayOfWrong)

/-- 'laws.FnExactSumMore': WHATEVER THE INPUT: true; the input reads as it did. -/
def fnExactSumMoreSpec : ChangeSpec := { name := "fnExactSumMore", fn := fun _ => fun
  | [d1, d2] => { results := [.lit (.bool true)], args := [d1, d2] }
  | _ => none }
def fnExactSumMoreRow : OpenClaim := { program := "ytjfhaaoklmimeaa", sum := "5d879e99eb2852a940cc927f075231bef77c844a3ab17d7c851129a3aca80775", func := "loop.example/g00188/laws.FnExactSumMore", spec := "fnExactSumMore", apart := false }
def FnExactSumMoreSaid : Prop := fnExactSumMoreRow.holds Try.pinned (OpenSpec.ofChange fnExactSumMoreSpec)

/-- ITS FALSE NEIGHBOUR: 'it returns false'. Refute it at one input. -/
def fnExactSumMoreWrong : ChangeSpec := { name := "fnExactSumMore", fn := fun _ => fun
  | [d1, d2] => { results := [.lit (.bool false)], args := [d1, d2] }
  | _ => none }
def FnExactSumMoreWrongFalsely : Prop := fnExactSumMoreRow.holds Try.pinned (OpenSpec.ofChange fnExactSumMoreWrong)

/-- 'laws.FnExactHex': WHATEVER THE INPUT: true; the input reads as it did. -/
def fnExactHexSpec : ChangeSpec := { name := "fnExactHex", fn := fun _ => fun
  | [d] => { results := [.lit (.bool true)], args := [d] }
  | _ => none }
def fnExactHexRow : OpenClaim := { program := "ytjfhaaoklmimeaa", sum := "5d879e99eb2852a940cc927f075231bef77c844a3ab17d7c851129a3aca80775", func := "loop.example/g00188/laws.FnExactHex", spec := "fnExactHex", apart := false }
def FnExactHexSaid : Prop := fnExactHexRow.holds Try.pinned (OpenSpec.ofChange fnExactHexSpec)

/-- ITS FALSE NEIGHBOUR: 'it returns false'. Refute it at one input. -/
def fnExactHexWrong : ChangeSpec := { name := "fnExactHex", fn := fun _ => fun
  | [d] => { results := [.lit (.bool false)], args := [d] }
  | _ => none }
def FnExactHexWrongFalsely : Prop := fnExactHexRow.holds Try.pinned (OpenSpec.ofChange fnExactHexWrong)

/-- 'laws.FnExactShortText': WHATEVER THE INPUT: true; the input reads as it did. -/
def fnExactShortTextSpec : ChangeSpec := { name := "fnExactShortText", fn := fun _ => fun
  | [d] => { results := [.lit (.bool true)], args := [d] }
  | _ => none }
def fnExactShortTextRow : OpenClaim := { program := "ytjfhaaoklmimeaa", sum := "5d879e99eb2852a940cc927f075231bef77c844a3ab17d7c851129a3aca80775", func := "loop.example/g00188/laws.FnExactShortText", spec := "fnExactShortText", apart := false }
def FnExactShortTextSaid : Prop := fnExactShortTextRow.holds Try.pinned (OpenSpec.ofChange fnExactShortTextSpec)

/-- ITS FALSE NEIGHBOUR: 'it returns false'. Refute it at one input. -/
def fnExactShortTextWrong : ChangeSpec := { name := "fnExactShortText", fn := fun _ => fun
  | [d] => { results := [.lit (.bool false)], args := [d] }
  | _ => none }
def FnExactShortTextWrongFalsely : Prop := fnExactShortTextRow.holds Try.pinned (OpenSpec.ofChange fnExactShortTextWrong)

/-- 'laws.FnExactDaysIn': WHATEVER THE INPUT: true; the input reads as it did. -/
def fnExactDaysInSpec : ChangeSpec := { name := "fnExactDaysIn", fn := fun _ => fun
  | [d1, d2] => { results := [.lit (.bool true)], args := [d1, d2] }
  | _ => none }
def fnExactDaysInRow : OpenClaim := { program := "ytjfhaaoklmimeaa", sum := "5d879e99eb2852a940cc927f075231bef77c844a3ab17d7c851129a3aca80775", func := "loop.example/g00188/laws.FnExactDaysIn", spec := "fnExactDaysIn", apart := false }
def FnExactDaysInSaid : Prop := fnExactDaysInRow.holds Try.pinned (OpenSpec.ofChange fnExactDaysInSpec)

/-- ITS FALSE NEIGHBOUR: 'it returns false'. Refute it at one input. -/
def fnExactDaysInWrong : ChangeSpec := { name := "fnExactDaysIn", fn := fun _ => fun
  | [d1, d2] => { results := [.lit (.bool false)], args := [d1, d2] }
  | _ => none }
def FnExactDaysInWrongFalsely : Prop := fnExactDaysInRow.holds Try.pinned (OpenSpec.ofChange fnExactDaysInWrong)

/-- 'laws.FnExactVarText': WHATEVER THE INPUT: true; the input reads as it did. -/
def fnExactVarTextSpec : ChangeSpec := { name := "fnExactVarText", fn := fun _ => fun
  | [d] => { results := [.lit (.bool true)], args := [d] }
  | _ => none }
def fnExactVarTextRow : OpenClaim := { program := "ytjfhaaoklmimeaa", sum := "5d879e99eb2852a940cc927f075231bef77c844a3ab17d7c851129a3aca80775", func := "loop.example/g00188/laws.FnExactVarText", spec := "fnExactVarText", apart := false }
def FnExactVarTextSaid : Prop := fnExactVarTextRow.holds Try.pinned (OpenSpec.ofChange fnExactVarTextSpec)

/-- ITS FALSE NEIGHBOUR: 'it returns false'. Refute it at one input. -/
def fnExactVarTextWrong : ChangeSpec := { name := "fnExactVarText", fn := fun _ => fun
  | [d] => { results := [.lit (.bool false)], args := [d] }
  | _ => none }
def FnExactVarTextWrongFalsely : Prop := fnExactVarTextRow.holds Try.pinned (OpenSpec.ofChange fnExactVarTextWrong)

/-- 'laws.FnExactSumOf': WHATEVER THE INPUT: true; the input reads as it did. -/
def fnExactSumOfSpec : ChangeSpec := { name := "fnExactSumOf", fn := fun _ => fun
  | [d] => { results := [.lit (.bool true)], args := [d] }
  | _ => none }
def fnExactSumOfRow : OpenClaim := { program := "ytjfhaaoklmimeaa", sum := "5d879e99eb2852a940cc927f075231bef77c844a3ab17d7c851129a3aca80775", func := "loop.example/g00188/laws.FnExactSumOf", spec := "fnExactSumOf", apart := false }
def FnExactSumOfSaid : Prop := fnExactSumOfRow.holds Try.pinned (OpenSpec.ofChange fnExactSumOfSpec)

/-- ITS FALSE NEIGHBOUR: 'it returns false'. Refute it at one input. -/
def fnExactSumOfWrong : ChangeSpec := { name := "fnExactSumOf", fn := fun _ => fun
  | [d] => { results := [.lit (.bool false)], args := [d] }
  | _ => none }
def FnExactSumOfWrongFalsely : Prop := fnExactSumOfRow.holds Try.pinned (OpenSpec.ofChange fnExactSumOfWrong)

/-- 'laws.FnExactUnhex': WHATEVER THE INPUT: true; the input reads as it did. -/
def fnExactUnhexSpec : ChangeSpec := { name := "fnExactUnhex", fn := fun _ => fun
  | [d] => { results := [.lit (.bool true)], args := [d] }
  | _ => none }
def fnExactUnhexRow : OpenClaim := { program := "ytjfhaaoklmimeaa", sum := "5d879e99eb2852a940cc927f075231bef77c844a3ab17d7c851129a3aca80775", func := "loop.example/g00188/laws.FnExactUnhex", spec := "fnExactUnhex", inPlace := ["internal/bytealg.IndexByteString"], apart := false }
def FnExactUnhexSaid : Prop := fnExactUnhexRow.holds Try.pinned (OpenSpec.ofChange fnExactUnhexSpec)

/-- ITS FALSE NEIGHBOUR: 'it returns false'. Refute it at one input. -/
def fnExactUnhexWrong : ChangeSpec := { name := "fnExactUnhex", fn := fun _ => fun
  | [d] => { results := [.lit (.bool false)], args := [d] }
  | _ => none }
def FnExactUnhexWrongFalsely : Prop := fnExactUnhexRow.holds Try.pinned (OpenSpec.ofChange fnExactUnhexWrong)

/-- 'laws.FnExactReadVar': WHATEVER THE INPUT: true; the input reads as it did. -/
def fnExactReadVarSpec : ChangeSpec := { name := "fnExactReadVar", fn := fun _ => fun
  | [d1, d2] => { results := [.lit (.bool true)], args := [d1, d2] }
  | _ => none }
def fnExactReadVarRow : OpenClaim := { program := "ytjfhaaoklmimeaa", sum := "5d879e99eb2852a940cc927f075231bef77c844a3ab17d7c851129a3aca80775", func := "loop.example/g00188/laws.FnExactReadVar", spec := "fnExactReadVar", apart := false }
def FnExactReadVarSaid : Prop := fnExactReadVarRow.holds Try.pinned (OpenSpec.ofChange fnExactReadVarSpec)

/-- ITS FALSE NEIGHBOUR: 'it returns false'. Refute it at one input. -/
def fnExactReadVarWrong : ChangeSpec := { name := "fnExactReadVar", fn := fun _ => fun
  | [d1, d2] => { results := [.lit (.bool false)], args := [d1, d2] }
  | _ => none }
def FnExactReadVarWrongFalsely : Prop := fnExactReadVarRow.holds Try.pinned (OpenSpec.ofChange fnExactReadVarWrong)

/-- 'laws.FnExactConfOk': WHATEVER THE INPUT: true; the input reads as it did. -/
def fnExactConfOkSpec : ChangeSpec := { name := "fnExactConfOk", fn := fun _ => fun
  | [d] => { results := [.lit (.bool true)], args := [d] }
  | _ => none }
def fnExactConfOkRow : OpenClaim := { program := "ytjfhaaoklmimeaa", sum := "5d879e99eb2852a940cc927f075231bef77c844a3ab17d7c851129a3aca80775", func := "loop.example/g00188/laws.FnExactConfOk", spec := "fnExactConfOk", apart := false }
def FnExactConfOkSaid : Prop := fnExactConfOkRow.holds Try.pinned (OpenSpec.ofChange fnExactConfOkSpec)

/-- ITS FALSE NEIGHBOUR: 'it returns false'. Refute it at one input. -/
def fnExactConfOkWrong : ChangeSpec := { name := "fnExactConfOk", fn := fun _ => fun
  | [d] => { results := [.lit (.bool false)], args := [d] }
  | _ => none }
def FnExactConfOkWrongFalsely : Prop := fnExactConfOkRow.holds Try.pinned (OpenSpec.ofChange fnExactConfOkWrong)

/- THE SECOND FORM. 'bulk': how many values and letters a reading holds, each counted each time it is reached (what is shared counts as often as it is met; a slice's spare places count too). A statement '..UptoSaid' is the law's where the arguments, and the package variables that the reading takes, are together of bulk at most 1048576: NARROWER than '..Said'. Prove '..Said' where nothing that the law and all that it calls make is longer than what came in: it says more and counts as full. Else prove '..UptoSaid'. A law counts once. -/
mutual
def uptoBulk {H : Type} : DataW H → Nat
  | .lit (.string bytes) => bytes.length + 1
  | .lit _ => 1
  | .nil => 1
  | .ptr d => uptoBulk d + 1
  | .slice elems spare => uptoBulkAll elems + uptoBulkAll spare + 1
  | .agg parts => uptoBulkAll parts + 1
  | .iface _ d => uptoBulk d + 1
  | .map entries => uptoBulkEntries entries + 1
  | .held _ => 1
def uptoBulkAll {H : Type} : List (DataW H) → Nat
  | [] => 0
  | d :: r => uptoBulk d + uptoBulkAll r
def uptoBulkEntries {H : Type} : List (Lit × DataW H) → Nat
  | [] => 0
  | x :: r => uptoBulkEntry x + uptoBulkEntries r
def uptoBulkEntry {H : Type} : Lit × DataW H → Nat
  | (.string bytes, d) => bytes.length + uptoBulk d + 1
  | (_, d) => uptoBulk d + 1
 end
def uptoSmall : (H : Type) → List (DataW H) → Bool := fun _ ds => decide (uptoBulkAll ds ≤ 1048576)
def OpenSpec.upto (s : _root_.Go.ChangeSpec) : _root_.Go.OpenSpec := { _root_.Go.OpenSpec.ofChange s with cond := some uptoSmall }

/-- 'laws.FnExactConstants', WHERE WHAT IT READS IS OF BULK AT MOST 1048576: true; the input reads as it did. -/
def fnExactConstantsUptoRow : OpenClaim := { program := "ytjfhaaoklmimeaa", sum := "5d879e99eb2852a940cc927f075231bef77c844a3ab17d7c851129a3aca80775", func := "loop.example/g00188/laws.FnExactConstants", spec := "fnExactConstants", apart := false, narrowed := true }
def FnExactConstantsUptoSaid : Prop := fnExactConstantsUptoRow.holds Try.pinned (OpenSpec.upto fnExactConstantsSpec)

/-- 'laws.FnExactLeapYear', WHERE WHAT IT READS IS OF BULK AT MOST 1048576: true; the input reads as it did. -/
def fnExactLeapYearUptoRow : OpenClaim := { program := "ytjfhaaoklmimeaa", sum := "5d879e99eb2852a940cc927f075231bef77c844a3ab17d7c851129a3aca80775", func := "loop.example/g00188/laws.FnExactLeapYear", spec := "fnExactLeapYear", apart := false, narrowed := true }
def FnExactLeapYearUptoSaid : Prop := fnExactLeapYearUptoRow.holds Try.pinned (OpenSpec.upto fnExactLeapYearSpec)

/-- 'laws.FnExactWeekdayOf', WHERE WHAT IT READS IS OF BULK AT MOST 1048576: true; the input reads as it did. -/
def fnExactWeekdayOfUptoRow : OpenClaim := { program := "ytjfhaaoklmimeaa", sum := "5d879e99eb2852a940cc927f075231bef77c844a3ab17d7c851129a3aca80775", func := "loop.example/g00188/laws.FnExactWeekdayOf", spec := "fnExactWeekdayOf", apart := false, narrowed := true }
def FnExactWeekdayOfUptoSaid : Prop := fnExactWeekdayOfUptoRow.holds Try.pinned (OpenSpec.upto fnExactWeekdayOfSpec)

/-- 'laws.FnExactSumMore', WHERE WHAT IT READS IS OF BULK AT MOST 1048576: true; the input reads as it did. -/
def fnExactSumMoreUptoRow : OpenClaim := { program := "ytjfhaaoklmimeaa", sum := "5d879e99eb2852a940cc927f075231bef77c844a3ab17d7c851129a3aca80775", func := "loop.example/g00188/laws.FnExactSumMore", spec := "fnExactSumMore", apart := false, narrowed := true }
def FnExactSumMoreUptoSaid : Prop := fnExactSumMoreUptoRow.holds Try.pinned (OpenSpec.upto fnExactSumMoreSpec)

/-- 'laws.FnExactHex', WHERE WHAT IT READS IS OF BULK AT MOST 1048576: true; the input reads as it did. -/
def fnExactHexUptoRow : OpenClaim := { program := "ytjfhaaoklmimeaa", sum := "5d879e99eb2852a940cc927f075231bef77c844a3ab17d7c851129a3aca80775", func := "loop.example/g00188/laws.FnExactHex", spec := "fnExactHex", apart := false, narrowed := true }
def FnExactHexUptoSaid : Prop := fnExactHexUptoRow.holds Try.pinned (OpenSpec.upto fnExactHexSpec)

/-- 'laws.FnExactShortText', WHERE WHAT IT READS IS OF BULK AT MOST 1048576: true; the input reads as it did. -/
def fnExactShortTextUptoRow : OpenClaim := { program := "ytjfhaaoklmimeaa", sum := "5d879e99eb2852a940cc927f075231bef77c844a3ab17d7c851129a3aca80775", func := "loop.example/g00188/laws.FnExactShortText", spec := "fnExactShortText", apart := false, narrowed := true }
def FnExactShortTextUptoSaid : Prop := fnExactShortTextUptoRow.holds Try.pinned (OpenSpec.upto fnExactShortTextSpec)

/-- 'laws.FnExactDaysIn', WHERE WHAT IT READS IS OF BULK AT MOST 1048576: true; the input reads as it did. -/
def fnExactDaysInUptoRow : OpenClaim := { program := "ytjfhaaoklmimeaa", sum := "5d879e99eb2852a940cc927f075231bef77c844a3ab17d7c851129a3aca80775", func := "loop.example/g00188/laws.FnExactDaysIn", spec := "fnExactDaysIn", apart := false, narrowed := true }
def FnExactDaysInUptoSaid : Prop := fnExactDaysInUptoRow.holds Try.pinned (OpenSpec.upto fnExactDaysInSpec)

/-- 'laws.FnExactVarText', WHERE WHAT IT READS IS OF BULK AT MOST 1048576: true; the input reads as it did. -/
def fnExactVarTextUptoRow : OpenClaim := { program := "ytjfhaaoklmimeaa", sum := "5d879e99eb2852a940cc927f075231bef77c844a3ab17d7c851129a3aca80775", func := "loop.example/g00188/laws.FnExactVarText", spec := "fnExactVarText", apart := false, narrowed := true }
def FnExactVarTextUptoSaid : Prop := fnExactVarTextUptoRow.holds Try.pinned (OpenSpec.upto fnExactVarTextSpec)

/-- 'laws.FnExactSumOf', WHERE WHAT IT READS IS OF BULK AT MOST 1048576: true; the input reads as it did. -/
def fnExactSumOfUptoRow : OpenClaim := { program := "ytjfhaaoklmimeaa", sum := "5d879e99eb2852a940cc927f075231bef77c844a3ab17d7c851129a3aca80775", func := "loop.example/g00188/laws.FnExactSumOf", spec := "fnExactSumOf", apart := false, narrowed := true }
def FnExactSumOfUptoSaid : Prop := fnExactSumOfUptoRow.holds Try.pinned (OpenSpec.upto fnExactSumOfSpec)

/-- 'laws.FnExactUnhex', WHERE WHAT IT READS IS OF BULK AT MOST 1048576: true; the input reads as it did. -/
def fnExactUnhexUptoRow : OpenClaim := { program := "ytjfhaaoklmimeaa", sum := "5d879e99eb2852a940cc927f075231bef77c844a3ab17d7c851129a3aca80775", func := "loop.example/g00188/laws.FnExactUnhex", spec := "fnExactUnhex", inPlace := ["internal/bytealg.IndexByteString"], apart := false, narrowed := true }
def FnExactUnhexUptoSaid : Prop := fnExactUnhexUptoRow.holds Try.pinned (OpenSpec.upto fnExactUnhexSpec)

/-- 'laws.FnExactReadVar', WHERE WHAT IT READS IS OF BULK AT MOST 1048576: true; the input reads as it did. -/
def fnExactReadVarUptoRow : OpenClaim := { program := "ytjfhaaoklmimeaa", sum := "5d879e99eb2852a940cc927f075231bef77c844a3ab17d7c851129a3aca80775", func := "loop.example/g00188/laws.FnExactReadVar", spec := "fnExactReadVar", apart := false, narrowed := true }
def FnExactReadVarUptoSaid : Prop := fnExactReadVarUptoRow.holds Try.pinned (OpenSpec.upto fnExactReadVarSpec)

/-- 'laws.FnExactConfOk', WHERE WHAT IT READS IS OF BULK AT MOST 1048576: true; the input reads as it did. -/
def fnExactConfOkUptoRow : OpenClaim := { program := "ytjfhaaoklmimeaa", sum := "5d879e99eb2852a940cc927f075231bef77c844a3ab17d7c851129a3aca80775", func := "loop.example/g00188/laws.FnExactConfOk", spec := "fnExactConfOk", apart := false, narrowed := true }
def FnExactConfOkUptoSaid : Prop := fnExactConfOkUptoRow.holds Try.pinned (OpenSpec.upto fnExactConfOkSpec)

end Rows
end Go.Proofs.Ytjfhaaoklmimeaa
