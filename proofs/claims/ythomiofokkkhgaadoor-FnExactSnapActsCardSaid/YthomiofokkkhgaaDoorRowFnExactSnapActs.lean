/- For every argument the law of FnExactSnapActs returns true, given what the card ties: the library's tables as the program's own text lays them. -/
import Derived.Test.YthomiofokkkhgaaDoorRows
import Derived.Test.YthomiofokkkhgaaDoorQFnExactSnapActsx15
import Derived.Test.YthomiofokkkhgaaDoorPureFnExactSnapActs
import Derived.Test.YthomiofokkkhgaaDoorRd
import Derived.WalkKit
import Derived.ProofKit
import Derived.OpenShut
import Derived.ShutString
import Derived.ChangeOld
import Derived.Below
import Derived.SizedLaws
import Derived.Test.YthomiofokkkhgaaDoorHand2
import Derived.Lay
import Derived.MakeChecks
import Derived.ChangeMaps5
import Derived.Test.YthomiofokkkhgaaDoorCards
import Derived.Test.YthomiofokkkhgaaDoorTie
import Derived.LaidMore
import Derived.SevenTiedAt
import Derived.Stop.Joined
namespace Go.Proofs.YthomiofokkkhgaaDoor.fnExactSnapActs
open Go.ChangeShapes Go.WideShapes Go.ChangeAt Go.RowKit Go.Proofs.YthomiofokkkhgaaDoor.QFnExactSnapActs Go.Proofs.YthomiofokkkhgaaDoorW.PrintWords
set_option linter.unusedVariables false
set_option linter.unusedSimpArgs false
theorem own : ownKnob Tryd.prog.godebug = none := by kernel_rfl
theorem laidOut : laidOutB Tryd.prog = true := by kernel_rfl
/-- The door's own heap meets the condition. -/
theorem door_met (os : Os) (args : Array Value) : laidMetH Tryd.prog Rows.fnExactSnapActsRow.laid ((World.laidAll Tryd.prog os Rows.fnExactSnapActsRow.laid).forCall (fun _ _ => 0) ⟨#[], args, []⟩).memory :=
  (MakeChecks.laidMetH_plain _ _ _ (by kernel_rfl)).mpr (laidMet_laidAll _ (by kernel_rfl) (by kernel_rfl))
set_option maxRecDepth 100000 in
theorem lifted (os : Os) (started : os.Started) (H : Type) (enc : TypeId × Value → H) :
    ReturnsInHanded {} Tryd.checked os 3 .any (fun w args => (Rows.fnExactSnapActsSpec.pre enc Tryd.prog Tryd.f3 [] false w args ∧ laidMetH Tryd.prog Rows.fnExactSnapActsRow.laid w) ∧ sizedMet enc Tryd.prog Tryd.f3 (OpenSpec.ofChange Rows.fnExactSnapActsSpec) false w args)
      (Rows.fnExactSnapActsSpec.post enc Tryd.prog Tryd.f3 false true false false) := by
  refine Cx.and_shaped (C := Tryd.checked) (X := fun w _ => laidMetH Tryd.prog Rows.fnExactSnapActsRow.laid w) (fun _ _ _ hh h => h.of_heap hh) own started (by kernel_rfl) Tryd.func3
    (ChangeSpec.witness_shaped (enc := enc) (C := Tryd.checked) (os := os) (X := fun w _ => laidMetH Tryd.prog Rows.fnExactSnapActsRow.laid w) false (World.laidAll Tryd.prog os Rows.fnExactSnapActsRow.laid) #[.agg #[.slice none 0 0], .agg #[.int .i64 0, .int .i64 0, .slice none 0 0, .string ByteArray.empty]] 8 rfl (World.shaped_of_ZipB (by kernel_rfl) (by kernel_rfl)) (by kernel_rfl) (by kernel_rfl) (by kernel_rfl) (door_met os _)) ?_
  intro W base args ds gs before hval0 hW hL hsh
  have hval : ∀ (j : Nat) t v, Tryd.f3.params[j]? = some t → args[j]? = some v → Value.okWide Tryd.prog W .any base t v := hval0
  have hW' := hW
  obtain ⟨p, q, hA0, hV, rfl, hfz, hnd⟩ := hW
  have hA : DataW.TrodAll enc Tryd.prog W 0 (fun _ => true) true Tryd.f3.params.toList args.toList ds p := hA0
  rw [Tryd.params3] at hA hval
  obtain ⟨v0, vs0, d0, ds0, p0, q0, hargs, rfl, rfl, h0, r0⟩ := trodAll_cons hA
  obtain ⟨v1, vs1, d1, ds1, p1, q1, rfl, rfl, rfl, h1, r1⟩ := trodAll_cons r0
  obtain ⟨rfl, rfl, rfl⟩ := trodAll_nil r1
  obtain rfl : args = #[v0, v1] := by cases args; simp_all
  obtain ⟨rfl, rfl⟩ := trodVars_none hV
  have k0 := h0
  have lt0 : ∀ x ∈ p0, x.block < W.heap.size := by obtain ⟨m, hm⟩ := k0; exact DataW.trod_lt m _ _ _ hm
  obtain ⟨fuel0, hf0⟩ := id h0
  obtain ⟨y0, K0, hq0⟩ := (RdW.rd_struct Tryd.underlying24 (by kernel_rfl) (RdW.rdf_one (RdW.rd_slice Tryd.underlying22 (by kernel_rfl) (RdW.rd_iso (fun x : S89 => (x.f0, x.f1, x.f2)) (fun p => ⟨p.1, p.2.1, p.2.2⟩) (fun _ => rfl) (RdW.rd_struct Tryd.underlying89 (by kernel_rfl) (RdW.rdf_cons (RdW.rd_str Tryd.underlying9) rfl (by kernel_rfl) (RdW.rdf_cons (RdW.rd_str Tryd.underlying9) rfl (by kernel_rfl) (RdW.rdf_one (RdW.rd_int Tryd.underlying3) rfl (by kernel_rfl))))))) rfl (by kernel_rfl))) H enc W _ _ _ fuel0 _ _ hf0
  obtain ⟨x0_0, rfl⟩ : ∃ z, z = y0 := ⟨_, rfl⟩
  have g0_0 := hq0
  obtain ⟨cs0, rfl, _⟩ := okWide_struct Tryd.underlying24 (hval 0 24 v0 rfl rfl)
  cases cs0 with | mk cl0
  have K0b : Kd.K _ W _ cl0 := K0
  clear K0
  obtain ⟨A0_0, c0_0, rfl, hc0_0, hr0_0⟩ := K0b
  have k1 := h1
  have lt1 : ∀ x ∈ p1, x.block < W.heap.size := by obtain ⟨m, hm⟩ := k1; exact DataW.trod_lt m _ _ _ hm
  obtain ⟨fuel1, hf1⟩ := id h1
  obtain ⟨y1, K1, hq1⟩ := (RdW.rd_struct Tryd.underlying27 (by kernel_rfl) (RdW.rdf_cons (RdW.rd_int Tryd.underlying3) rfl (by kernel_rfl) (RdW.rdf_cons (RdW.rd_int Tryd.underlying3) rfl (by kernel_rfl) (RdW.rdf_cons (RdW.rd_slice Tryd.underlying25 (by kernel_rfl) (RdW.rd_int Tryd.underlying3)) rfl (by kernel_rfl) (RdW.rdf_one (RdW.rd_str Tryd.underlying9) rfl (by kernel_rfl)))))) H enc W _ _ _ fuel1 _ _ hf1
  obtain ⟨x1_0, x1_1, x1_2, x1_3⟩ := y1
  obtain ⟨g1_0, g1_1, g1_2, g1_3⟩ := hq1
  obtain ⟨cs1, rfl, _⟩ := okWide_struct Tryd.underlying27 (hval 1 27 v1 rfl rfl)
  cases cs1 with | mk cl1
  have K1b : Kd.K _ W _ cl1 := K1
  clear K1
  obtain ⟨_, _, rfl, rfl, ⟨_, _, rfl, rfl, ⟨_, _, rfl, ⟨A1_2, c1_2, rfl, hc1_2, hr1_2⟩, rfl⟩⟩⟩ := K1b
  clear hA0 hval0
  have hok := Cx.ok_of2 hL hsh
  obtain ⟨k, h⟩ := Pure.FnExactSnapActs x0_0 x1_0 x1_1 x1_2 x1_3 g0_0 g1_0 g1_1 g1_2 g1_3
  refine (laws_FnExactSnapActs.calls k _ _ _ _ _ _ _ _ _ true W hr0_0 hc0_0 hr1_2 hc1_2 h hok).mono fun e W' ⟨he, bel0⟩ => ?_
  have bel : Below W.heap.size W W' := bel0
  subst he
  exact ⟨_, rfl, _, _, _, [], _, [], hW', trodAll_mk1 (shut_bool Tryd.underlying4 _), (trodAll_cons_mk (Below.trod laidOut (by kernel_rfl) (of_decide_eq_true (by kernel_rfl)) k0 bel lt0) (trodAll_cons_mk (Below.trod laidOut (by kernel_rfl) (of_decide_eq_true (by kernel_rfl)) k1 bel lt1) trodAll_mk0)), rfl, bel.frame _, fun h => by cases h⟩
theorem row_holds : Rows.FnExactSnapActsSaid :=
  OpenClaim.holds_of_wide 3 Tryd.f3 rfl rfl rfl rfl rfl rfl rfl ⟨rfl, rfl, rfl, rfl, rfl⟩ rfl rfl rfl rfl rfl (by kernel_rfl) Tryd.func3 (by kernel_rfl)
    (of_decide_eq_true (by kernel_rfl)) (by unfold Func.isWrapper; first | (rw [if_pos (by decide +kernel)]; kernel_rfl) | (rw [if_neg (by decide +kernel)]; exact ⟨rfl, rfl⟩))
    (fun os started H enc _ => lifted os started H enc)
theorem proved : Rows.FnExactSnapActsCardSaid :=
  Claim7.holds_tied_plain_at .later [] [.data, .data, .data] true (true, "d5c79561a3efd67621079c98f09612e1dce33bcedf9ad07fa44c11f972801bf7") false
    row_holds (fun _ h => by cases h) (by kernel_rfl) (fun _ h => by cases h) fnExactSnapActs_row_tie rfl ⟨rfl, rfl⟩ (by kernel_rfl) rfl
    (fun f fn hf hfn => by
      obtain rfl : f = 3 := Option.some.inj ((show Tryd.prog.funcNamed "loop.example/g00188/laws.FnExactSnapActs" = some 3 by kernel_rfl).symm.trans hf) |>.symm
      obtain rfl : fn = Tryd.f3 := (Option.some.inj (Tryd.func3.symm.trans hfn)).symm
      exact ⟨by kernel_rfl, fun j t ht => by
        rw [Tryd.params3] at ht
        have hm : t ∈ [24, 27] := by simpa using Array.mem_of_getElem? ht
        have hall : ([24, 27].all fun u => !Tryd.prog.wantsStandIn u) = true := by kernel_rfl
        exact (show Tryd.prog.wantsStandIn t = false by simpa using List.all_eq_true.1 hall t hm)⟩)
    (by kernel_rfl)
#print axioms proved
end Go.Proofs.YthomiofokkkhgaaDoor.fnExactSnapActs
