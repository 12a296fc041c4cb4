/- The row of FnExactLogPut, joined from its walk and its plain law: it is met at every argument that can be read, without a condition of its own. -/
import Derived.Test.YtacdceahdbaonaaRows
import Derived.Test.YtacdceahdbaonaaQFnExactLogPutx9
import Derived.Test.YtacdceahdbaonaaPureFnExactLogPut
import Derived.Test.YtacdceahdbaonaaRd
import Derived.WalkKit
import Derived.ProofKit
import Derived.OpenShut
import Derived.ShutString
import Derived.ChangeOld
import Derived.Below
import Derived.SizedLaws
namespace Go.Proofs.Ytacdceahdbaonaa.fnExactLogPut
open Go.ChangeShapes Go.WideShapes Go.ChangeAt Go.RowKit Go.Proofs.Ytacdceahdbaonaa.QFnExactLogPut Go.Proofs.YtacdceahdbaonaaW.PrintWords
set_option linter.unusedVariables false
set_option linter.unusedSimpArgs false
theorem own : ownKnob Try.prog.godebug = none := by kernel_rfl
theorem laidOut : laidOutB Try.prog = true := by kernel_rfl
set_option maxRecDepth 100000 in
theorem lifted (os : Os) (started : os.Started) (H : Type) (enc : TypeId × Value → H) :
    ReturnsInHanded {} Try.checked os 8 .any (Rows.fnExactLogPutSpec.pre6 enc Try.prog Try.f8 Rows.fnExactLogPutRow.domain false) (Rows.fnExactLogPutSpec.post enc Try.prog Try.f8 false true false false) := by
  refine returnsInHanded_of_change_sized (C := Try.checked) own started (by kernel_rfl) Try.func8
    (ChangeSpec.witness6 (enc := enc) (C := Try.checked) false ⟨#[], #[.agg #[.int .i64 0, .int .i64 0, .slice none 0 0], .int .i64 0, .agg #[.int .i64 0, .int .i64 0, .string ByteArray.empty]], []⟩ 8 (by kernel_rfl) (by kernel_rfl) (by kernel_rfl) (by kernel_rfl)) ?_
  intro W base args ds gs before hval0 hW hcnd hsz0 _
  have hval : ∀ (j : Nat) t v, Try.f8.params[j]? = some t → args[j]? = some v → Value.okWide Try.prog W .any base t v := hval0
  have hW' := hW
  obtain ⟨p, q, hA0, hV, rfl, hfz, hnd⟩ := hW
  have hA : DataW.TrodAll enc Try.prog W 0 (fun _ => true) true Try.f8.params.toList args.toList ds p := hA0
  rw [Try.params8] at hA hval
  obtain ⟨v0, vs0, d0, ds0, p0, q0, hargs, rfl, rfl, h0, r0⟩ := trodAll_cons hA
  obtain ⟨v1, vs1, d1, ds1, p1, q1, rfl, rfl, rfl, h1, r1⟩ := trodAll_cons r0
  obtain ⟨v2, vs2, d2, ds2, p2, q2, rfl, rfl, rfl, h2, r2⟩ := trodAll_cons r1
  obtain ⟨rfl, rfl, rfl⟩ := trodAll_nil r2
  obtain rfl : args = #[v0, v1, v2] := by cases args; simp_all
  obtain ⟨rfl, rfl⟩ := trodVars_none hV
  have k0 := h0
  have lt0 : ∀ x ∈ p0, x.block < W.heap.size := by obtain ⟨m, hm⟩ := k0; exact DataW.trod_lt m _ _ _ hm
  obtain ⟨fuel0, hf0⟩ := id h0
  obtain ⟨y0, K0, hq0⟩ := (RdW.rd_struct Try.underlying24 (by kernel_rfl) (RdW.rdf_cons (RdW.rd_int Try.underlying3) rfl (by kernel_rfl) (RdW.rdf_cons (RdW.rd_int Try.underlying3) rfl (by kernel_rfl) (RdW.rdf_one (RdW.rd_slice Try.underlying22 (by kernel_rfl) (RdW.rd_iso (fun x : S37 => (x.f0, x.f1, x.f2)) (fun p => ⟨p.1, p.2.1, p.2.2⟩) (fun _ => rfl) (RdW.rd_struct Try.underlying37 (by kernel_rfl) (RdW.rdf_cons (RdW.rd_int Try.underlying3) rfl (by kernel_rfl) (RdW.rdf_cons (RdW.rd_int Try.underlying3) rfl (by kernel_rfl) (RdW.rdf_one (RdW.rd_str Try.underlying9) rfl (by kernel_rfl))))))) rfl (by kernel_rfl))))) H enc W _ _ _ fuel0 _ _ hf0
  obtain ⟨x0_0, x0_1, x0_2⟩ := y0
  obtain ⟨g0_0, g0_1, g0_2⟩ := hq0
  obtain ⟨cs0, rfl, _⟩ := okWide_struct Try.underlying24 (hval 0 24 v0 rfl rfl)
  cases cs0 with | mk cl0
  have K0b : Kd.K _ W _ cl0 := K0
  clear K0
  obtain ⟨_, _, rfl, rfl, ⟨_, _, rfl, rfl, ⟨A0_2, c0_2, rfl, hc0_2, hr0_2⟩⟩⟩ := K0b
  have k1 := h1
  have lt1 : ∀ x ∈ p1, x.block < W.heap.size := by obtain ⟨m, hm⟩ := k1; exact DataW.trod_lt m _ _ _ hm
  obtain ⟨fuel1, hf1⟩ := id h1
  obtain ⟨y1, K1, hq1⟩ := (RdW.rd_int Try.underlying3) H enc W _ _ _ fuel1 _ _ hf1
  obtain ⟨x1_0, rfl⟩ : ∃ z, z = y1 := ⟨_, rfl⟩
  have g1_0 := hq1
  obtain ⟨o1_0, rfl⟩ := okWide_int Try.underlying3 (hval 1 3 v1 rfl rfl)
  cases (List.cons.inj (show [_] = [_] from K1)).1
  have k2 := h2
  have lt2 : ∀ x ∈ p2, x.block < W.heap.size := by obtain ⟨m, hm⟩ := k2; exact DataW.trod_lt m _ _ _ hm
  obtain ⟨fuel2, hf2⟩ := id h2
  obtain ⟨y2, K2, hq2⟩ := (RdW.rd_struct Try.underlying37 (by kernel_rfl) (RdW.rdf_cons (RdW.rd_int Try.underlying3) rfl (by kernel_rfl) (RdW.rdf_cons (RdW.rd_int Try.underlying3) rfl (by kernel_rfl) (RdW.rdf_one (RdW.rd_str Try.underlying9) rfl (by kernel_rfl))))) H enc W _ _ _ fuel2 _ _ hf2
  obtain ⟨x2_0, x2_1, x2_2⟩ := y2
  obtain ⟨g2_0, g2_1, g2_2⟩ := hq2
  obtain ⟨cs2, rfl, _⟩ := okWide_struct Try.underlying37 (hval 2 37 v2 rfl rfl)
  cases cs2 with | mk cl2
  have K2b : Kd.K _ W _ cl2 := K2
  clear K2
  obtain ⟨_, _, rfl, rfl, ⟨_, _, rfl, rfl, rfl⟩⟩ := K2b
  clear hA0 hval0 hsz0
  obtain ⟨k, h⟩ := Pure.FnExactLogPut x0_0 x0_1 x0_2 x1_0 x2_0 x2_1 x2_2 g0_0 g0_1 g0_2 g1_0 g2_0 g2_1 g2_2
  refine (laws_FnExactLogPut.calls k _ _ _ _ _ _ _ _ _ true W hr0_2 hc0_2 h).mono fun e W' ⟨he, bel0⟩ => ?_
  have bel : Below W.heap.size W W' := bel0
  subst he
  exact ⟨_, rfl, _, _, _, [], _, [], hW', trodAll_mk1 (shut_bool Try.underlying4 _), (trodAll_cons_mk (Below.trod laidOut (by kernel_rfl) (of_decide_eq_true (by kernel_rfl)) k0 bel lt0) (trodAll_cons_mk (Below.trod laidOut (by kernel_rfl) (of_decide_eq_true (by kernel_rfl)) k1 bel lt1) (trodAll_cons_mk (Below.trod laidOut (by kernel_rfl) (of_decide_eq_true (by kernel_rfl)) k2 bel lt2) trodAll_mk0))), rfl, bel.frame _, fun h => by cases h⟩
theorem over : Rows.fnExactLogPutRow.holds Try.pinned (OpenSpec.ofChange Rows.fnExactLogPutSpec) :=
  OpenClaim.holds_of_wide 8 Try.f8 rfl rfl rfl rfl rfl rfl rfl ⟨rfl, rfl, rfl, rfl, rfl⟩ rfl rfl rfl rfl rfl (by kernel_rfl) Try.func8 (by kernel_rfl)
    (of_decide_eq_true (by kernel_rfl)) (by unfold Func.isWrapper; first | (rw [if_pos (by decide +kernel)]; kernel_rfl) | (rw [if_neg (by decide +kernel)]; exact ⟨rfl, rfl⟩))
    (fun os started H enc _ => lifted os started H enc)
theorem proved : Rows.FnExactLogPutSaid := over
#print axioms proved
end Go.Proofs.Ytacdceahdbaonaa.fnExactLogPut
