/- The row of FnExactJournalText, joined from its walk and its plain law: it is met at every argument that can be read, without a condition of its own. -/
import Derived.Test.YtacdceahdbaonaaRows
import Derived.Test.YtacdceahdbaonaaQFnExactJournalTextx10
import Derived.Test.YtacdceahdbaonaaPureFnExactJournalText
import Derived.Test.YtacdceahdbaonaaRd
import Derived.WalkKit
import Derived.ProofKit
import Derived.OpenShut
import Derived.ShutString
import Derived.ChangeOld
import Derived.Below
import Derived.SizedLaws
namespace Go.Proofs.Ytacdceahdbaonaa.fnExactJournalText
open Go.ChangeShapes Go.WideShapes Go.ChangeAt Go.RowKit Go.Proofs.Ytacdceahdbaonaa.QFnExactJournalText Go.Proofs.YtacdceahdbaonaaW.PrintWords
set_option linter.unusedVariables false
set_option linter.unusedSimpArgs false
theorem own : ownKnob Try.prog.godebug = none := by kernel_rfl
theorem laidOut : laidOutB Try.prog = true := by kernel_rfl
set_option maxRecDepth 100000 in
theorem lifted (os : Os) (started : os.Started) (H : Type) (enc : TypeId × Value → H) :
    ReturnsInHanded {} Try.checked os 12 .any (Rows.fnExactJournalTextSpec.pre6 enc Try.prog Try.f12 Rows.fnExactJournalTextRow.domain false) (Rows.fnExactJournalTextSpec.post enc Try.prog Try.f12 false true false false) := by
  refine returnsInHanded_of_change_sized (C := Try.checked) own started (by kernel_rfl) Try.func12
    (ChangeSpec.witness6 (enc := enc) (C := Try.checked) false ⟨#[], #[.agg #[.int .i64 0, .int .i64 0, .int .i64 0, .int .i64 0, .int .i64 0, .slice none 0 0]], []⟩ 8 (by kernel_rfl) (by kernel_rfl) (by kernel_rfl) (by kernel_rfl)) ?_
  intro W base args ds gs before hval0 hW hcnd hsz0 _
  have hval : ∀ (j : Nat) t v, Try.f12.params[j]? = some t → args[j]? = some v → Value.okWide Try.prog W .any base t v := hval0
  have hW' := hW
  obtain ⟨p, q, hA0, hV, rfl, hfz, hnd⟩ := hW
  have hA : DataW.TrodAll enc Try.prog W 0 (fun _ => true) true Try.f12.params.toList args.toList ds p := hA0
  rw [Try.params12] at hA hval
  obtain ⟨v0, vs0, d0, ds0, p0, q0, hargs, rfl, rfl, h0, r0⟩ := trodAll_cons hA
  obtain ⟨rfl, rfl, rfl⟩ := trodAll_nil r0
  obtain rfl : args = #[v0] := by cases args; simp_all
  obtain ⟨rfl, rfl⟩ := trodVars_none hV
  have k0 := h0
  have lt0 : ∀ x ∈ p0, x.block < W.heap.size := by obtain ⟨m, hm⟩ := k0; exact DataW.trod_lt m _ _ _ hm
  obtain ⟨fuel0, hf0⟩ := id h0
  obtain ⟨y0, K0, hq0⟩ := (RdW.rd_struct Try.underlying55 (by kernel_rfl) (RdW.rdf_cons (RdW.rd_int Try.underlying3) rfl (by kernel_rfl) (RdW.rdf_cons (RdW.rd_int Try.underlying3) rfl (by kernel_rfl) (RdW.rdf_cons (RdW.rd_int Try.underlying3) rfl (by kernel_rfl) (RdW.rdf_one (RdW.rd_struct Try.underlying24 (by kernel_rfl) (RdW.rdf_cons (RdW.rd_int Try.underlying3) rfl (by kernel_rfl) (RdW.rdf_cons (RdW.rd_int Try.underlying3) rfl (by kernel_rfl) (RdW.rdf_one (RdW.rd_slice Try.underlying22 (by kernel_rfl) (RdW.rd_iso (fun x : S37 => (x.f0, x.f1, x.f2)) (fun p => ⟨p.1, p.2.1, p.2.2⟩) (fun _ => rfl) (RdW.rd_struct Try.underlying37 (by kernel_rfl) (RdW.rdf_cons (RdW.rd_int Try.underlying3) rfl (by kernel_rfl) (RdW.rdf_cons (RdW.rd_int Try.underlying3) rfl (by kernel_rfl) (RdW.rdf_one (RdW.rd_str Try.underlying9) rfl (by kernel_rfl))))))) rfl (by kernel_rfl))))) rfl (by kernel_rfl)))))) H enc W _ _ _ fuel0 _ _ hf0
  obtain ⟨x0_0, x0_1, x0_2, ⟨x0_3, x0_4, x0_5⟩⟩ := y0
  obtain ⟨g0_0, g0_1, g0_2, ⟨g0_3, g0_4, g0_5⟩⟩ := hq0
  obtain ⟨cs0, rfl, _⟩ := okWide_struct Try.underlying55 (hval 0 55 v0 rfl rfl)
  cases cs0 with | mk cl0
  have K0b : Kd.K _ W _ cl0 := K0
  clear K0
  obtain ⟨_, _, rfl, rfl, ⟨_, _, rfl, rfl, ⟨_, _, rfl, rfl, ⟨_, _, rfl, rfl, ⟨_, _, rfl, rfl, ⟨A0_5, c0_5, rfl, hc0_5, hr0_5⟩⟩⟩⟩⟩⟩ := K0b
  clear hA0 hval0 hsz0
  obtain ⟨k, h⟩ := Pure.FnExactJournalText x0_0 x0_1 x0_2 x0_3 x0_4 x0_5 g0_0 g0_1 g0_2 g0_3 g0_4 g0_5
  refine (laws_FnExactJournalText.calls k _ _ _ _ _ _ _ _ true W hr0_5 hc0_5 h).mono fun e W' ⟨he, bel0⟩ => ?_
  have bel : Below W.heap.size W W' := bel0
  subst he
  exact ⟨_, rfl, _, _, _, [], _, [], hW', trodAll_mk1 (shut_bool Try.underlying4 _), (trodAll_cons_mk (Below.trod laidOut (by kernel_rfl) (of_decide_eq_true (by kernel_rfl)) k0 bel lt0) trodAll_mk0), rfl, bel.frame _, fun h => by cases h⟩
theorem over : Rows.fnExactJournalTextRow.holds Try.pinned (OpenSpec.ofChange Rows.fnExactJournalTextSpec) :=
  OpenClaim.holds_of_wide 12 Try.f12 rfl rfl rfl rfl rfl rfl rfl ⟨rfl, rfl, rfl, rfl, rfl⟩ rfl rfl rfl rfl rfl (by kernel_rfl) Try.func12 (by kernel_rfl)
    (of_decide_eq_true (by kernel_rfl)) (by unfold Func.isWrapper; first | (rw [if_pos (by decide +kernel)]; kernel_rfl) | (rw [if_neg (by decide +kernel)]; exact ⟨rfl, rfl⟩))
    (fun os started H enc _ => lifted os started H enc)
theorem proved : Rows.FnExactJournalTextSaid := over
#print axioms proved
end Go.Proofs.Ytacdceahdbaonaa.fnExactJournalText
