-- Own work (wip/turnprint.py over the kit's print).
import Derived.Test.YthomiofokkkhgaaGreatDoorQFnRulesx0
import Derived.Test.YthomiofokkkhgaaGreatDoorQFnRulesx2
import Derived.Test.YthomiofokkkhgaaGreatDoorQFnRulesx3
namespace Go.Proofs.YthomiofokkkhgaaGreatDoor.QFnRules
open Go.RowKit Go.Proofs.YthomiofokkkhgaaGreatDoorW.PrintWords Go.Proofs.YthomiofokkkhgaaGreatDoorW.PrintLast Go.Proofs.YthomiofokkkhgaaGreatDoorW.PrintMore
attribute [local go_sem] max2_int min2_int max_two min_two max_three min_three max_four min_four   -- for this text's walks alone
set_option linter.unusedVariables false
set_option linter.unusedSimpArgs false

/-! ### impl_ParseCron: function 7 (given by the session) -/
theorem Kq.form {w : World} {base : Nat} {ok : Nat → Prop} {v : Value} {xs : List Int} (h : Kq.R w base ok v xs) : ∃ A c, v = .slice A xs.length c := by
 rcases h with ⟨rfl, rfl⟩ | ⟨g, cap, c, rfl, _⟩
 ·exact ⟨none, 0, rfl⟩
 ·exact ⟨_, _, rfl⟩
theorem Kq.below {w w1 : World} {base : Nat} {ok : Nat → Prop} {v : Value} {xs : List Int} (h : Kq.R w base ok v xs) (hb : Below w.heap.size w w1) : Kq.R w1 base ok v xs := by
 rcases h with h | ⟨g, cap, c, e, h1, h2, h3⟩
 ·exact .inl h
 ·exact .inr ⟨g, cap, c, e, h1, h2, Kd.R_below h3 hb⟩
theorem Kq.lower {w : World} {base base' : Nat} {ok : Nat → Prop} {v : Value} {xs : List Int} (h : Kq.R w base ok v xs) (hb : base' ≤ base) : Kq.R w base' ok v xs := by
 rcases h with h | ⟨g, cap, c, e, h1, h2, h3⟩
 ·exact .inl h
 ·exact .inr ⟨g, cap, c, e, h1, h2, Kd.R_lower h3 hb⟩
theorem Kq.far {w : World} {base : Nat} {ok : Nat → Prop} {v : Value} {xs : List Int} (h : Kq.R w base ok v xs) {g : Nat} {cs : Array Value} (hbk : w.heap[g]? = some (.cells cs 26 (0, 0))) (j : Nat) (u : Value) : Kq.R (w.setCell ⟨g, j, none⟩ u) base ok v xs := by
 rcases h with h | ⟨g', cap, c, e, h1, h2, h3⟩
 ·exact .inl h
 ·exact .inr ⟨g', cap, c, e, h1, h2, Kd.R_mono (Kd.R_far (p := ⟨g, j, none⟩) (Kd.R_types h3 hbk (by decide)) (fun _ hk => hk.2) u) (fun _ hk => hk.1)⟩
theorem Kq.tell {w : World} {base : Nat} {ok ok' : Nat → Prop} {v : Value} {xs : List Int} (h : Kq.R w base ok v xs) (hok : ∀ k, v.ownBlock = some k → ok' k) : Kq.R w base ok' v xs := by
 rcases h with h | ⟨g', cap, c, rfl, h1, h2, h3⟩
 ·exact .inl h
 ·exact .inr ⟨g', cap, c, rfl, h1, h2, Kd.R_of_own (Kd.own_of_R h3) (fun k hk => hok k (by simpa [Value.ownBlock] using hk))⟩
theorem Kq.bound {w : World} {base : Nat} {ok : Nat → Prop} {v : Value} {xs : List Int} (h : Kq.R w base ok v xs) (k : Nat) (hk : v.ownBlock = some k) : base ≤ k ∧ k < w.heap.size := by
 rcases h with ⟨rfl, rfl⟩ | ⟨g', cap, c, rfl, h1, h2, h3⟩
 ·simp [Value.ownBlock] at hk
 ·have ho := Kd.own_of_R h3
  have hk2 : (Value.slice (some ⟨g', 0, none⟩) xs.length cap).ownBlock = some k := by simpa [Value.ownBlock] using hk
  exact ⟨own_base ho k hk2, own_lt ho k hk2⟩
theorem Kq.reads {w : World} {base : Nat} {ok : Nat → Prop} {A : Option Addr} {n c : Nat} {xs : List Int} (h : Kq.R w base ok (.slice A n c) xs) : n = xs.length ∧ n ≤ c ∧ Kd.C (Kd.int .i64) w A xs.length xs := by
 rcases h with ⟨e, rfl⟩ | ⟨g', cap, c', e, h1, h2, h3⟩
 ·cases e
  exact ⟨rfl, Nat.le_refl _, (Kd.R_reads' (Kd.R_nil (Kd.int .i64) 3 w base ok)).2.2⟩
 ·cases e
  exact ⟨rfl, h1, (Kd.R_reads' h3).2.2⟩
set_option maxRecDepth 100000 in
set_option maxHeartbeats 8000000 in
theorem impl_ParseCron.fields (g : Nat) (w : World) :
 Calls Tryz.prog 17 #[.pointer (some ⟨g, 0, none⟩)] w fun e w' => e = .returned (.agg #[.pointer (some ⟨g, 0, none⟩), .pointer (some ⟨g, 1, none⟩), .pointer (some ⟨g, 2, none⟩), .pointer (some ⟨g, 3, none⟩), .pointer (some ⟨g, 4, none⟩)]) ∧ Below w.heap.size w w' := by
 have HB := Aside0.mk (Below.refl w.heap.size w)
 go_enter Tryz.func17, Tryz.ntmps17
 go_wp2_with ((with_reducible refine gate_dst (N := 2) rfl ?_); refine bxE 2 #[.pointer none, .pointer none, .pointer none, .pointer none, .pointer none] 42 ?_; intro gb hg w2 hbox hb; have HB2 := Aside0.mk hb; have BK := Aside0.mk hbox; have GE := Aside0.mk (show w.heap.size ≤ gb by rw [hg]; exact Nat.le_refl _); clear hb hbox hg)
 go_still_tail 16, (by kernel_rfl)
 have HB3 := Aside0.mk (below_drew1 HB2.out)
 have BK3 := Aside0.mk (blk_drew BK.out)
 clear HB2 BK
 refine store_blk rfl rfl 42 (.tmp 2) (.tmp 18) rfl (.agg #[.pointer (some ⟨g, 0, none⟩), .pointer (some ⟨g, 1, none⟩), .pointer (some ⟨g, 2, none⟩), .pointer (some ⟨g, 3, none⟩), .pointer (some ⟨g, 4, none⟩)]) [.pointer (some ⟨g, 0, none⟩), .pointer (some ⟨g, 1, none⟩), .pointer (some ⟨g, 2, none⟩), .pointer (some ⟨g, 3, none⟩), .pointer (some ⟨g, 4, none⟩)] rfl rfl rfl (by kernel_rfl) BK3.out (by simp) (by intro q hq; simp at hq; rcases hq with rfl | rfl | rfl | rfl | rfl <;> rfl) ?_
 intro w4 cur hc hcl hg
 have HG := Aside0.mk hg
 obtain rfl : cur = #[.pointer (some ⟨g, 0, none⟩), .pointer (some ⟨g, 1, none⟩), .pointer (some ⟨g, 2, none⟩), .pointer (some ⟨g, 3, none⟩), .pointer (some ⟨g, 4, none⟩)] := Array.toList_inj.mp (hcl.trans rfl)
 have BK4 := Aside0.mk hc
 clear hcl hc hg BK3
 go_wp2
 refine bodyPost_ret (results_cell_row rfl _ _ gb 42 _ (0, 0) _ rfl BK4.out Tryz.underlying42 rfl (by kernel_rfl)) rfl ⟨rfl, ?_⟩
 exact (HB3.out).grown HG.out (below_size HB3.out) (fun k hk => by injection hk with hk; subst hk; exact GE.out)
theorem impl_ParseCron.index5 (g i : Nat) (h : i < 5) (W : World) : (Instr.index 42 (.agg #[.pointer (some ⟨g, 0, none⟩), .pointer (some ⟨g, 1, none⟩), .pointer (some ⟨g, 2, none⟩), .pointer (some ⟨g, 3, none⟩), .pointer (some ⟨g, 4, none⟩)]) (.int .i64 (i : Int))).run Tryz.prog W = .ok (.pointer (some ⟨g, i, none⟩)) W := by
 obtain rfl | rfl | rfl | rfl | rfl : i = 0 ∨ i = 1 ∨ i = 2 ∨ i = 3 ∨ i = 4 := by omega
 all_goals kernel_rfl
def impl_ParseCron.go (k : Nat) : Nat → List ByteArray → List (List Int) → Option (Option (List (List Int)))
 | _, [], acc => some (some acc)
 | i, p :: ps, acc => (impl_parseField.f k p (i : Int)).bind fun t => if t.2 = true then impl_ParseCron.go k (i + 1) ps (acc ++ [t.1]) else some none
def impl_ParseCron.fin : Option (List (List Int)) → Option (List Int × List Int × List Int × List Int × List Int × Bool)
 | none => some ([], [], [], [], [], false)
 | some l => some (l.getD 0 [], l.getD 1 [], l.getD 2 [], l.getD 3 [], l.getD 4 [], true)
def impl_ParseCron.f (k : Nat) (a0 : ByteArray) : Option (List Int × List Int × List Int × List Int × List Int × Bool) :=
 (impl_PartsOf.f k a0).bind fun t => if t.2 = true ∧ t.1.length = 5 then (impl_ParseCron.go k 0 t.1 []).bind impl_ParseCron.fin else some ([], [], [], [], [], false)
theorem impl_ParseCron.go_at (k : Nat) (ps : List ByteArray) (i : Nat) (hi2 : i < ps.length) (acc : List (List Int)) (o : Option (List (List Int))) (h : impl_ParseCron.go k i (ps.drop i) acc = some o) :
 ∃ t, impl_parseField.f k (rdOf ByteArray.empty ps (i : Int)) (i : Int) = some t ∧ ((t.2 = false ∧ o = none) ∨ (t.2 = true ∧ impl_ParseCron.go k (i + 1) (ps.drop (i + 1)) (acc ++ [t.1]) = some o)) := by
 rw [List.drop_eq_getElem_cons hi2] at h
 unfold impl_ParseCron.go at h
 obtain ⟨t, ht, h⟩ := Option.bind_eq_some_iff.mp h
 have e : rdOf ByteArray.empty ps (i : Int) = ps[i] := by
  show ps.getD i ByteArray.empty = _
  rw [List.getD_eq_getElem?_getD, List.getElem?_eq_getElem hi2]
  rfl
 refine ⟨t, by rw [e]; exact ht, ?_⟩
 by_cases ho : t.2 = true
 ·rw [if_pos ho] at h
  exact .inr ⟨ho, h⟩
 ·rw [if_neg ho] at h
  exact .inl ⟨by simpa using ho, (Option.some.inj h).symm⟩
theorem impl_ParseCron.puts (w : World) (gr : Nat) (h0 : w.heap[gr]? = some (.cells #[.slice none 0 0, .slice none 0 0, .slice none 0 0, .slice none 0 0, .slice none 0 0] 26 (0, 0))) (u0 u1 u2 u3 u4 : Value) :
 (∀ {base : Nat} {ok : Nat → Prop} {v : Value} {xs : List Int}, Kq.R w base ok v xs → Kq.R (((((w.setCell ⟨gr, 0, none⟩ u0).setCell ⟨gr, 1, none⟩ u1).setCell ⟨gr, 2, none⟩ u2).setCell ⟨gr, 3, none⟩ u3).setCell ⟨gr, 4, none⟩ u4) base ok v xs) ∧
 (∀ {w0 : World}, Below w0.heap.size w0 w → w0.heap.size ≤ gr → Below w0.heap.size w0 (((((w.setCell ⟨gr, 0, none⟩ u0).setCell ⟨gr, 1, none⟩ u1).setCell ⟨gr, 2, none⟩ u2).setCell ⟨gr, 3, none⟩ u3).setCell ⟨gr, 4, none⟩ u4)) := by
 have h1 := blk_set h0 0 u0
 have h2 := blk_set h1 1 u1
 have h3 := blk_set h2 2 u2
 have h4 := blk_set h3 3 u3
 exact ⟨fun h => Kq.far (Kq.far (Kq.far (Kq.far (Kq.far h h0 0 u0) h1 1 u1) h2 2 u2) h3 3 u3) h4 4 u4, fun h hg => below_set (below_set (below_set (below_set (below_set h hg) hg) hg) hg) hg⟩
set_option maxHeartbeats 16000000 in
set_option maxRecDepth 100000 in
theorem impl_ParseCron.calls (k : Nat) (a0 : ByteArray) (r1 r2 r3 r4 r5 : List Int) (r6 : Bool) (w : World) (h : impl_ParseCron.f k a0 = some (r1, r2, r3, r4, r5, r6)) (htab : Cx.Ok w) :
 Calls Tryz.prog 7 #[.string a0] w fun e w' => ∃ v0_ v1_ v2_ v3_ v4_ : Value, e = .returned (.tuple #[.agg #[v0_, v1_, v2_, v3_, v4_], .bool r6]) ∧ Kq.R w' w.heap.size (fun k_ => some k_ ≠ (v1_ : Value).ownBlock ∧ some k_ ≠ (v2_ : Value).ownBlock ∧ some k_ ≠ (v3_ : Value).ownBlock ∧ some k_ ≠ (v4_ : Value).ownBlock) v0_ r1 ∧ Kq.R w' w.heap.size (fun k_ => some k_ ≠ (v0_ : Value).ownBlock ∧ some k_ ≠ (v2_ : Value).ownBlock ∧ some k_ ≠ (v3_ : Value).ownBlock ∧ some k_ ≠ (v4_ : Value).ownBlock) v1_ r2 ∧ Kq.R w' w.heap.size (fun k_ => some k_ ≠ (v0_ : Value).ownBlock ∧ some k_ ≠ (v1_ : Value).ownBlock ∧ some k_ ≠ (v3_ : Value).ownBlock ∧ some k_ ≠ (v4_ : Value).ownBlock) v2_ r3 ∧ Kq.R w' w.heap.size (fun k_ => some k_ ≠ (v0_ : Value).ownBlock ∧ some k_ ≠ (v1_ : Value).ownBlock ∧ some k_ ≠ (v2_ : Value).ownBlock ∧ some k_ ≠ (v4_ : Value).ownBlock) v3_ r4 ∧ Kq.R w' w.heap.size (fun k_ => some k_ ≠ (v0_ : Value).ownBlock ∧ some k_ ≠ (v1_ : Value).ownBlock ∧ some k_ ≠ (v2_ : Value).ownBlock ∧ some k_ ≠ (v3_ : Value).ownBlock) v4_ r5 ∧ Below w.heap.size w w' := by
 have hu47 := Tryz.underlying26
 have HT := aM htab
 obtain ⟨⟨ps, ok⟩, hp, H⟩ := Option.bind_eq_some_iff.mp h
 have HP := aM hp
 have HH := aM H
 clear h htab hp H
 cases ok with
 | false =>
  have HF := aM (show ([] : List Int) = r1 ∧ ([] : List Int) = r2 ∧ ([] : List Int) = r3 ∧ ([] : List Int) = r4 ∧ ([] : List Int) = r5 ∧ false = r6 by have := HH.out; rw [if_neg (by simp)] at this; simpa using this)
  go_enter Tryz.func7, Tryz.ntmps7
  go_upto_region 2 with (first | ((with_reducible refine gate_dst (N := 2) rfl ?_); (try (refine gate_guard (by rfl) ?_; dsimp only)); refine bxE 2 #[.slice none 0 0, .slice none 0 0, .slice none 0 0, .slice none 0 0, .slice none 0 0] 26 ?_; intro gr hg w2 hbox hb; have BK := aM hbox; have GR := aM (show w.heap.size ≤ gr by rw [hg]; exact Nat.le_refl _); have HB2 := aM hb; clear hb hbox hg) | ((with_reducible refine gate_callee (f := 21) rfl ?_); refine gL (some 13) Tryz.func21 #[.string a0] ?_; (with_reducible refine (impl_PartsOf.calls k a0 ps false _ HP.out (Cx.on HT.out HB2.out)).mono ?_); rintro e w5 ⟨vP, rfl, hR, hb⟩; refine ⟨_, rfl, ?_⟩; have HPS := aM (Kd.R_lower hR HB2.out.size); have BKr := aM (blk_below BK.out hb); have HB5 := aM (below_step HB2.out hb); clear hb hR BK; obtain ⟨A, c, eA⟩ := Kd.R_slice HPS.out; subst eA))
  (try simp only [Act.put, List.setIfInBounds_toArray, List.set_cons_zero, List.set_cons_succ])
  have hczr_0 := czA BKr.out 0 (.slice none 0 0); have hczr_1 := czA BKr.out 1 (.slice none 0 0); have hczr_2 := czA BKr.out 2 (.slice none 0 0); have hczr_3 := czA BKr.out 3 (.slice none 0 0); have hczr_4 := czA BKr.out 4 (.slice none 0 0); have hfzr_0 := blk_frozen BKr.out 0; have hfzr_1 := blk_frozen BKr.out 1; have hfzr_2 := blk_frozen BKr.out 2; have hfzr_3 := blk_frozen BKr.out 3; have hfzr_4 := blk_frozen BKr.out 4
  go_wp2
  refine bodyPost_ret (results_ct rfl _ _ gr 26 #[.slice none 0 0, .slice none 0 0, .slice none 0 0, .slice none 0 0, .slice none 0 0] (0, 0) _ rfl (by refine nB ?_; refine blk_put (cs := #[.slice none 0 0, .slice none 0 0, .slice none 0 0, .slice none 0 0, .slice none 0 0]) ?_ 4 _ rfl; refine nB ?_; refine blk_put (cs := #[.slice none 0 0, .slice none 0 0, .slice none 0 0, .slice none 0 0, .slice none 0 0]) ?_ 3 _ rfl; refine nB ?_; refine blk_put (cs := #[.slice none 0 0, .slice none 0 0, .slice none 0 0, .slice none 0 0, .slice none 0 0]) ?_ 2 _ rfl; refine nB ?_; refine blk_put (cs := #[.slice none 0 0, .slice none 0 0, .slice none 0 0, .slice none 0 0, .slice none 0 0]) ?_ 1 _ rfl; refine nB ?_; refine blk_put (cs := #[.slice none 0 0, .slice none 0 0, .slice none 0 0, .slice none 0 0, .slice none 0 0]) ?_ 0 _ rfl; refine nB ?_; exact nB BKr.out) Tryz.underlying26 rfl (by kernel_rfl)) rfl ?_
  obtain ⟨rfl, rfl, rfl, rfl, rfl, rfl⟩ := HF.out
  exact ⟨_, _, _, _, _, rfl, .inl ⟨rfl, rfl⟩, .inl ⟨rfl, rfl⟩, .inl ⟨rfl, rfl⟩, .inl ⟨rfl, rfl⟩, .inl ⟨rfl, rfl⟩, by (with_reducible repeat first | apply lA | apply lN | apply lD | (refine below_set ?_ GR.out)); exact HB5.out⟩
 | true =>
  by_cases h5 : ps.length = 5
  case neg =>
   have HF := aM (show ([] : List Int) = r1 ∧ ([] : List Int) = r2 ∧ ([] : List Int) = r3 ∧ ([] : List Int) = r4 ∧ ([] : List Int) = r5 ∧ false = r6 by have := HH.out; rw [if_neg (fun hc => h5 hc.2)] at this; simpa using this)
   have hn5 : ((ps.length : Int) != 5) = true := bne_iff_ne.2 (by omega)
   go_enter Tryz.func7, Tryz.ntmps7
   go_upto_region 2 with (first | ((with_reducible refine gate_dst (N := 2) rfl ?_); (try (refine gate_guard (by rfl) ?_; dsimp only)); refine bxE 2 #[.slice none 0 0, .slice none 0 0, .slice none 0 0, .slice none 0 0, .slice none 0 0] 26 ?_; intro gr hg w2 hbox hb; have BK := aM hbox; have GR := aM (show w.heap.size ≤ gr by rw [hg]; exact Nat.le_refl _); have HB2 := aM hb; clear hb hbox hg) | ((with_reducible refine gate_callee (f := 21) rfl ?_); refine gL (some 13) Tryz.func21 #[.string a0] ?_; (with_reducible refine (impl_PartsOf.calls k a0 ps true _ HP.out (Cx.on HT.out HB2.out)).mono ?_); rintro e w5 ⟨vP, rfl, hR, hb⟩; refine ⟨_, rfl, ?_⟩; have HPS := aM (Kd.R_lower hR HB2.out.size); have BKr := aM (blk_below BK.out hb); have HB5 := aM (below_step HB2.out hb); clear hb hR BK; obtain ⟨A, c, eA⟩ := Kd.R_slice HPS.out; subst eA))
   (try simp only [Act.put, List.setIfInBounds_toArray, List.set_cons_zero, List.set_cons_succ])
   have hczr_0 := czA BKr.out 0 (.slice none 0 0); have hczr_1 := czA BKr.out 1 (.slice none 0 0); have hczr_2 := czA BKr.out 2 (.slice none 0 0); have hczr_3 := czA BKr.out 3 (.slice none 0 0); have hczr_4 := czA BKr.out 4 (.slice none 0 0); have hfzr_0 := blk_frozen BKr.out 0; have hfzr_1 := blk_frozen BKr.out 1; have hfzr_2 := blk_frozen BKr.out 2; have hfzr_3 := blk_frozen BKr.out 3; have hfzr_4 := blk_frozen BKr.out 4
   go_wp2
   refine bodyPost_ret (results_ct rfl _ _ gr 26 #[.slice none 0 0, .slice none 0 0, .slice none 0 0, .slice none 0 0, .slice none 0 0] (0, 0) _ rfl (by refine nB ?_; refine blk_put (cs := #[.slice none 0 0, .slice none 0 0, .slice none 0 0, .slice none 0 0, .slice none 0 0]) ?_ 4 _ rfl; refine nB ?_; refine blk_put (cs := #[.slice none 0 0, .slice none 0 0, .slice none 0 0, .slice none 0 0, .slice none 0 0]) ?_ 3 _ rfl; refine nB ?_; refine blk_put (cs := #[.slice none 0 0, .slice none 0 0, .slice none 0 0, .slice none 0 0, .slice none 0 0]) ?_ 2 _ rfl; refine nB ?_; refine blk_put (cs := #[.slice none 0 0, .slice none 0 0, .slice none 0 0, .slice none 0 0, .slice none 0 0]) ?_ 1 _ rfl; refine nB ?_; refine blk_put (cs := #[.slice none 0 0, .slice none 0 0, .slice none 0 0, .slice none 0 0, .slice none 0 0]) ?_ 0 _ rfl; refine nB ?_; exact nB BKr.out) Tryz.underlying26 rfl (by kernel_rfl)) rfl ?_
   obtain ⟨rfl, rfl, rfl, rfl, rfl, rfl⟩ := HF.out
   exact ⟨_, _, _, _, _, rfl, .inl ⟨rfl, rfl⟩, .inl ⟨rfl, rfl⟩, .inl ⟨rfl, rfl⟩, .inl ⟨rfl, rfl⟩, .inl ⟨rfl, rfl⟩, by (with_reducible repeat first | apply lA | apply lN | apply lD | (refine below_set ?_ GR.out)); exact HB5.out⟩
  obtain ⟨o, hgo, hfin⟩ := Option.bind_eq_some_iff.mp (show (impl_ParseCron.go k 0 ps []).bind impl_ParseCron.fin = some (r1, r2, r3, r4, r5, r6) by have := HH.out; rwa [if_pos ⟨rfl, h5⟩] at this)
  have HGO := aM hgo
  have HF := aM hfin
  clear hgo hfin HH
  have H5 := aM h5
  have hn5 : ((ps.length : Int) != 5) = false := by rw [h5]; rfl
  clear h5
  go_enter Tryz.func7, Tryz.ntmps7
  go_upto_region 2 with (first | ((with_reducible refine gate_dst (N := 2) rfl ?_); (try (refine gate_guard (by rfl) ?_; dsimp only)); refine bxE 2 #[.slice none 0 0, .slice none 0 0, .slice none 0 0, .slice none 0 0, .slice none 0 0] 26 ?_; intro gr hg w2 hbox hb; have BK := aM hbox; have GR := aM (show w.heap.size ≤ gr by rw [hg]; exact Nat.le_refl _); have HB2 := aM hb; clear hb hbox hg) | ((with_reducible refine gate_callee (f := 21) rfl ?_); refine gL (some 13) Tryz.func21 #[.string a0] ?_; (with_reducible refine (impl_PartsOf.calls k a0 ps true _ HP.out (Cx.on HT.out HB2.out)).mono ?_); rintro e w5 ⟨vP, rfl, hR, hb⟩; refine ⟨_, rfl, ?_⟩; have HPS := aM (Kd.R_lower hR HB2.out.size); have BKr := aM (blk_below BK.out hb); have HB5 := aM (below_step HB2.out hb); clear hb hR BK; obtain ⟨A, c, eA⟩ := Kd.R_slice HPS.out; subst eA))
  (try simp only [Act.put, List.setIfInBounds_toArray, List.set_cons_zero, List.set_cons_succ])
  go_wp2_with (first | ((with_reducible refine gate_dst (N := 6) rfl ?_); (try (refine gate_guard (by rfl) ?_; dsimp only)); refine bxE 6 #[.slice none 0 0, .slice none 0 0, .slice none 0 0, .slice none 0 0, .slice none 0 0] 26 ?_; intro gc hg w6 hbox hb; have BKc := aM hbox; have GC := aM (show w.heap.size ≤ gc by rw [hg]; exact HB5.out.size); have NE := aM (show gc ≠ gr by rw [hg]; exact Nat.ne_of_gt (blk_lt BKr.out)); have BKr6 := aM (blk_below BKr.out hb); have HPS6 := aM (Kd.R_below HPS.out hb); have HB6 := aM (below_step HB5.out hb); clear hb hbox hg BKr HPS HB5) | (go_at_call 17; refine (impl_ParseCron.fields _ _).mono ?_; rintro e w7 ⟨rfl, hb⟩; have BKc7 := aM (blk_below BKc.out hb); have BKr7 := aM (blk_below BKr6.out hb); have HPS7 := aM (Kd.R_below HPS6.out hb); have HB7 := aM (below_step HB6.out hb); clear hb BKc BKr6 HPS6 HB6))
  go_loopw [25] (fun v25 wr => ∃ (i : Nat) (U : Nat → Value) (acc : List (List Int)), i ≤ 5 ∧ v25 = .int .i64 (i : Int) ∧ Aside0 (wr.heap[gc]? = some (.cells #[U 0, U 1, U 2, U 3, U 4] 26 (0, 0))) ∧ Aside0 (wr.heap[gr]? = some (.cells #[.slice none 0 0, .slice none 0 0, .slice none 0 0, .slice none 0 0, .slice none 0 0] 26 (0, 0))) ∧ Aside0 (Kd.R Kd.string 9 wr w.heap.size (fun _ => True) (.slice A ps.length c) ps) ∧ Aside0 (Below w.heap.size w wr) ∧ Aside0 (acc.length = i) ∧ Aside0 (impl_ParseCron.go k i (ps.drop i) acc = some o) ∧ Aside0 (∀ j, j < i → Kq.R wr w.heap.size (fun _ => True) (U j) (acc.getD j [])) ∧ Aside0 (∀ j, i ≤ j → U j = .slice none 0 0) ∧ Aside0 (∀ j j', j < j' → j' < i → ∀ b, (U j).ownBlock = some b → (U j').ownBlock ≠ some b)) (fun v25 wr => 5 - (intOf v25).toNat)
  case atStart => exact ⟨0, fun _ => .slice none 0 0, [], by omega, rfl, BKc7, BKr7, HPS7, HB7, ⟨rfl⟩, HGO, ⟨fun j hj => absurd hj (by omega)⟩, ⟨fun _ _ => rfl⟩, ⟨fun j j' _ hj => absurd hj (by omega)⟩⟩
  case round =>
   clear HGO BKc7 BKr7 HPS7 HB7
   obtain ⟨i, U, acc, hi5, rfl, BKc, BKr, HPS, HB, HAL, HG, HU, HN, HD⟩ := hrel
   obtain ⟨wo, rfl⟩ : ∃ z, z = wr := ⟨_, rfl⟩
   by_cases hlt : i < 5
   ·have hix := impl_ParseCron.index5 gc i hlt
    obtain ⟨ad, eA, hxx⟩ := Kd.at_string (Kd.R_reads' HPS.out).2.2 (i : Int) (by omega) (by rw [H5.out]; omega)
    subst eA
    obtain ⟨⟨r, b⟩, hp, hcase⟩ := impl_ParseCron.go_at k ps i (by rw [H5.out]; exact hlt) acc o HG.out
    obtain ⟨x, hxv⟩ : ∃ x, x = rdOf ByteArray.empty ps (i : Int) := ⟨_, rfl⟩
    have hx : wo.cell? (ad.add i) = some (.string x) := by rw [hxv]; exact hxx
    rw [← hxv] at hp
    have HPF := aM hp
    clear hxx hxv hp
    have c1 : decide ((i : Int) < 5) = true := decide_eq_true (by omega)
    have p1 : (0 ≤ (i : Int)) = True := eq_true (by omega)
    have q1 : ((i : Int) < (ps.length : Int)) = True := eq_true (by rw [H5.out]; omega)
    rcases hcase with ⟨ho, hno⟩ | ⟨ho, hg⟩
    ·obtain rfl : b = false := ho
     have HF2 := aM (show ([] : List Int) = r1 ∧ ([] : List Int) = r2 ∧ ([] : List Int) = r3 ∧ ([] : List Int) = r4 ∧ ([] : List Int) = r5 ∧ false = r6 by have := HF.out; rw [hno] at this; simpa [impl_ParseCron.fin] using this)
     clear hno HG HF HU HN HD HAL
     go_wp2_with (first | (go_at_call 22; refine (impl_parseField.calls k x (i : Int) r false _ HPF.out (Cx.on HT.out HB.out)).mono ?_; rintro e w8 ⟨v8, rfl, hq8, hb⟩; have BKr8 := aM (blk_below BKr.out hb); have HB8 := aM (below_step HB.out hb); clear hb; obtain ⟨A8, c8, e8⟩ := Kq.form hq8; subst e8; clear hq8; have hczr8_0 := czA BKr8.out 0 (.slice none 0 0); have hczr8_1 := czA BKr8.out 1 (.slice none 0 0); have hczr8_2 := czA BKr8.out 2 (.slice none 0 0); have hczr8_3 := czA BKr8.out 3 (.slice none 0 0); have hczr8_4 := czA BKr8.out 4 (.slice none 0 0); have hfzr8_0 := blk_frozen BKr8.out 0; have hfzr8_1 := blk_frozen BKr8.out 1; have hfzr8_2 := blk_frozen BKr8.out 2; have hfzr8_3 := blk_frozen BKr8.out 3; have hfzr8_4 := blk_frozen BKr8.out 4))
     refine bodyPost_ret (results_ct rfl _ _ gr 26 #[.slice none 0 0, .slice none 0 0, .slice none 0 0, .slice none 0 0, .slice none 0 0] (0, 0) _ rfl (by refine nB ?_; refine blk_put (cs := #[.slice none 0 0, .slice none 0 0, .slice none 0 0, .slice none 0 0, .slice none 0 0]) ?_ 4 _ rfl; refine nB ?_; refine blk_put (cs := #[.slice none 0 0, .slice none 0 0, .slice none 0 0, .slice none 0 0, .slice none 0 0]) ?_ 3 _ rfl; refine nB ?_; refine blk_put (cs := #[.slice none 0 0, .slice none 0 0, .slice none 0 0, .slice none 0 0, .slice none 0 0]) ?_ 2 _ rfl; refine nB ?_; refine blk_put (cs := #[.slice none 0 0, .slice none 0 0, .slice none 0 0, .slice none 0 0, .slice none 0 0]) ?_ 1 _ rfl; refine nB ?_; refine blk_put (cs := #[.slice none 0 0, .slice none 0 0, .slice none 0 0, .slice none 0 0, .slice none 0 0]) ?_ 0 _ rfl; refine nB ?_; exact nB BKr8.out) Tryz.underlying26 rfl (by kernel_rfl)) rfl ?_
     obtain ⟨rfl, rfl, rfl, rfl, rfl, rfl⟩ := HF2.out
     exact ⟨_, _, _, _, _, rfl, .inl ⟨rfl, rfl⟩, .inl ⟨rfl, rfl⟩, .inl ⟨rfl, rfl⟩, .inl ⟨rfl, rfl⟩, .inl ⟨rfl, rfl⟩, by (with_reducible repeat first | apply lA | apply lN | apply lD | (refine below_set ?_ GR.out)); exact HB8.out⟩
    ·obtain rfl : b = true := ho
     have HG2 := aM hg
     have hcell := (blk_cell BKc.out i).trans (show (#[U 0, U 1, U 2, U 3, U 4] : Array Value)[i]? = some (.slice none 0 0) by
      have hn := HN.out
      obtain rfl | rfl | rfl | rfl | rfl : i = 0 ∨ i = 1 ∨ i = 2 ∨ i = 3 ∨ i = 4 := by omega
      ·exact congrArg some (hn 0 (by omega))
      ·exact congrArg some (hn 1 (by omega))
      ·exact congrArg some (hn 2 (by omega))
      ·exact congrArg some (hn 3 (by omega))
      ·exact congrArg some (hn 4 (by omega)))
     have HCE := aM hcell
     clear hg hcell
     go_wp2_with (first | (go_at_call 22; refine (impl_parseField.calls k x (i : Int) r true _ HPF.out (Cx.on HT.out HB.out)).mono ?_; rintro e w8 ⟨v8, rfl, hq8, hb⟩; have HQ8 := aM hq8; have BKc8 := aM (blk_below BKc.out hb); have BKr8 := aM (blk_below BKr.out hb); have HPS8 := aM (Kd.R_below HPS.out hb); have HB8 := aM (below_step HB.out hb); have HU8 := aM (fun j hj => Kq.below (HU.out j hj) hb); have hcell8 := (hb.cell (World.block_lt_of_cell? _ _ HCE.out)).trans HCE.out; have hfr8 := blk_frozen BKc8.out i; clear hb hq8; obtain ⟨A8, c8, e8⟩ := Kq.form HQ8.out; subst e8))
     have hset : (#[U 0, U 1, U 2, U 3, U 4] : Array Value).setIfInBounds i (.slice A8 r.length c8) = #[(fun j => if j = i then .slice A8 r.length c8 else U j) 0, (fun j => if j = i then .slice A8 r.length c8 else U j) 1, (fun j => if j = i then .slice A8 r.length c8 else U j) 2, (fun j => if j = i then .slice A8 r.length c8 else U j) 3, (fun j => if j = i then .slice A8 r.length c8 else U j) 4] := by
      obtain rfl | rfl | rfl | rfl | rfl : i = 0 ∨ i = 1 ∨ i = 2 ∨ i = 3 ∨ i = 4 := by omega
      all_goals rfl
     refine ⟨⟨i + 1, fun j => if j = i then .slice A8 r.length c8 else U j, acc ++ [r], by omega, by rw [show (i : Int) + 1 = ((i + 1 : Nat) : Int) by omega], ⟨nB (blk_put BKc8.out i _ hset)⟩, ⟨nB (blk_far BKr8.out (fun e => NE.out e.symm) _)⟩, ⟨?ps⟩, ⟨nB (below_set HB8.out GC.out)⟩, ⟨by rw [List.length_append, HAL.out]; rfl⟩, HG2, ⟨?rows⟩, ⟨?nils⟩, ⟨?diff⟩⟩, ?_⟩
     case ps => exact nB (Kd.R_mono (Kd.R_far (p := ⟨gc, i, none⟩) (Kd.R_types HPS8.out BKc8.out (by decide)) (fun _ hk => hk.2) _) (fun _ _ => trivial))
     case rows =>
      intro j hj
      dsimp only
      by_cases hji : j = i
      ·subst hji
       rw [if_pos rfl]
       have e : (acc ++ [r]).getD j [] = r := by rw [List.getD_eq_getElem?_getD, ← HAL.out, List.getElem?_append_right (Nat.le_refl _), Nat.sub_self]; rfl
       rw [e]
       exact nB (Kq.far (Kq.lower HQ8.out HB.out.size) BKc8.out j _)
      ·rw [if_neg hji]
       have e : (acc ++ [r]).getD j [] = acc.getD j [] := by rw [List.getD_eq_getElem?_getD, List.getD_eq_getElem?_getD, List.getElem?_append_left (by rw [HAL.out]; omega)]
       rw [e]
       exact nB (Kq.far (HU8.out j (by omega)) BKc8.out i _)
     case nils =>
      intro j hj
      dsimp only
      rw [if_neg (by omega)]
      exact HN.out j (by omega)
     case diff =>
      intro j j' hjj hj' b hb
      dsimp only at hb ⊢
      rw [if_neg (show j ≠ i by omega)] at hb
      by_cases hji : j' = i
      ·subst hji
       rw [if_pos rfl]
       intro hb'
       have h1 := (Kq.bound (HU.out j hjj) b hb).2
       have h2 := (Kq.bound HQ8.out b hb').1
       omega
      ·rw [if_neg hji]
       exact HD.out j j' hjj (by omega) b hb
     simp only [intOf]
     omega
   ·obtain rfl : i = 5 := by omega
    have hno : some acc = o := Option.some.inj (by have := HG.out; rwa [List.drop_eq_nil_of_le (by rw [H5.out]; exact Nat.le_refl _)] at this)
    subst hno
    obtain ⟨q0, q1, q2, q3, q4, rfl⟩ : acc.getD 0 [] = r1 ∧ acc.getD 1 [] = r2 ∧ acc.getD 2 [] = r3 ∧ acc.getD 3 [] = r4 ∧ acc.getD 4 [] = r5 ∧ true = r6 := by have := HF.out; simpa [impl_ParseCron.fin] using this
    obtain ⟨A0, c0, e0⟩ := Kq.form (HU.out 0 (by omega))
    obtain ⟨A1, c1, e1⟩ := Kq.form (HU.out 1 (by omega))
    obtain ⟨A2, c2, e2⟩ := Kq.form (HU.out 2 (by omega))
    obtain ⟨A3, c3, e3⟩ := Kq.form (HU.out 3 (by omega))
    obtain ⟨A4, c4, e4⟩ := Kq.form (HU.out 4 (by omega))
    have K0 := HU.out 0 (by omega)
    have K1 := HU.out 1 (by omega)
    have K2 := HU.out 2 (by omega)
    have K3 := HU.out 3 (by omega)
    have K4 := HU.out 4 (by omega)
    have D := fun j j' h h' b hb => HD.out j j' h h' b hb
    rw [q0] at e0 K0
    rw [q1] at e1 K1
    rw [q2] at e2 K2
    rw [q3] at e3 K3
    rw [q4] at e4 K4
    have hs01 := D 0 1 (by omega) (by omega)
    have hs02 := D 0 2 (by omega) (by omega)
    have hs03 := D 0 3 (by omega) (by omega)
    have hs04 := D 0 4 (by omega) (by omega)
    have hs12 := D 1 2 (by omega) (by omega)
    have hs13 := D 1 3 (by omega) (by omega)
    have hs14 := D 1 4 (by omega) (by omega)
    have hs23 := D 2 3 (by omega) (by omega)
    have hs24 := D 2 4 (by omega) (by omega)
    have hs34 := D 3 4 (by omega) (by omega)
    have hbc := BKc.out
    rw [e0, e1, e2, e3, e4] at hbc
    rw [e0] at K0 hs01 hs02 hs03 hs04
    rw [e1] at K1 hs01 hs12 hs13 hs14
    rw [e2] at K2 hs02 hs12 hs23 hs24
    rw [e3] at K3 hs03 hs13 hs23 hs34
    rw [e4] at K4 hs04 hs14 hs24 hs34
    have BC := aM hbc
    have KK := aM (And.intro K0 (And.intro K1 (And.intro K2 (And.intro K3 K4))))
    have DD := aM (And.intro hs01 (And.intro hs02 (And.intro hs03 (And.intro hs04 (And.intro hs12 (And.intro hs13 (And.intro hs14 (And.intro hs23 (And.intro hs24 hs34)))))))))
    clear hbc K0 K1 K2 K3 K4 hs01 hs02 hs03 hs04 hs12 hs13 hs14 hs23 hs24 hs34 e0 e1 e2 e3 e4 q0 q1 q2 q3 q4 D HU HN HD BKc HAL HG HF
    have hc0 := czA BC.out 0 (.slice A0 r1.length c0)
    have hc1 := czA BC.out 1 (.slice A1 r2.length c1)
    have hc2 := czA BC.out 2 (.slice A2 r3.length c2)
    have hc3 := czA BC.out 3 (.slice A3 r4.length c3)
    have hc4 := czA BC.out 4 (.slice A4 r5.length c4)
    have hr0 := czA BKr.out 0 (.slice none 0 0)
    have hr1 := czA BKr.out 1 (.slice none 0 0)
    have hr2 := czA BKr.out 2 (.slice none 0 0)
    have hr3 := czA BKr.out 3 (.slice none 0 0)
    have hr4 := czA BKr.out 4 (.slice none 0 0)
    have hf0 := blk_frozen BKr.out 0; have hf1 := blk_frozen BKr.out 1; have hf2 := blk_frozen BKr.out 2; have hf3 := blk_frozen BKr.out 3; have hf4 := blk_frozen BKr.out 4
    go_wp2
    refine bodyPost_ret (results_ct rfl _ _ gr 26 #[.slice A0 r1.length c0, .slice A1 r2.length c1, .slice A2 r3.length c2, .slice A3 r4.length c3, .slice A4 r5.length c4] (0, 0) _ rfl (by refine nB ?_; refine blk_put (cs := #[.slice A0 r1.length c0, .slice A1 r2.length c1, .slice A2 r3.length c2, .slice A3 r4.length c3, .slice none 0 0]) ?_ 4 _ rfl; refine nB ?_; refine blk_put (cs := #[.slice A0 r1.length c0, .slice A1 r2.length c1, .slice A2 r3.length c2, .slice none 0 0, .slice none 0 0]) ?_ 3 _ rfl; refine nB ?_; refine blk_put (cs := #[.slice A0 r1.length c0, .slice A1 r2.length c1, .slice none 0 0, .slice none 0 0, .slice none 0 0]) ?_ 2 _ rfl; refine nB ?_; refine blk_put (cs := #[.slice A0 r1.length c0, .slice none 0 0, .slice none 0 0, .slice none 0 0, .slice none 0 0]) ?_ 1 _ rfl; refine nB ?_; refine blk_put (cs := #[.slice none 0 0, .slice none 0 0, .slice none 0 0, .slice none 0 0, .slice none 0 0]) ?_ 0 _ rfl; refine nB ?_; exact nB BKr.out) Tryz.underlying26 rfl (by kernel_rfl)) rfl ?_
    have PW := impl_ParseCron.puts wo gr BKr.out (.slice A0 r1.length c0) (.slice A1 r2.length c1) (.slice A2 r3.length c2) (.slice A3 r4.length c3) (.slice A4 r5.length c4)
    refine ⟨_, _, _, _, _, rfl, Kq.tell (nB (PW.1 KK.out.1)) ?_, Kq.tell (nB (PW.1 KK.out.2.1)) ?_, Kq.tell (nB (PW.1 KK.out.2.2.1)) ?_, Kq.tell (nB (PW.1 KK.out.2.2.2.1)) ?_, Kq.tell (nB (PW.1 KK.out.2.2.2.2)) ?_, nB (PW.2 HB.out GR.out)⟩
    ·exact fun k hk => ⟨fun e => DD.out.1 k hk e.symm, fun e => DD.out.2.1 k hk e.symm, fun e => DD.out.2.2.1 k hk e.symm, fun e => DD.out.2.2.2.1 k hk e.symm⟩
    ·exact fun k hk => ⟨fun e => DD.out.1 k e.symm hk, fun e => DD.out.2.2.2.2.1 k hk e.symm, fun e => DD.out.2.2.2.2.2.1 k hk e.symm, fun e => DD.out.2.2.2.2.2.2.1 k hk e.symm⟩
    ·exact fun k hk => ⟨fun e => DD.out.2.1 k e.symm hk, fun e => DD.out.2.2.2.2.1 k e.symm hk, fun e => DD.out.2.2.2.2.2.2.2.1 k hk e.symm, fun e => DD.out.2.2.2.2.2.2.2.2.1 k hk e.symm⟩
    ·exact fun k hk => ⟨fun e => DD.out.2.2.1 k e.symm hk, fun e => DD.out.2.2.2.2.2.1 k e.symm hk, fun e => DD.out.2.2.2.2.2.2.2.1 k e.symm hk, fun e => DD.out.2.2.2.2.2.2.2.2.2 k hk e.symm⟩
    ·exact fun k hk => ⟨fun e => DD.out.2.2.2.1 k e.symm hk, fun e => DD.out.2.2.2.2.2.2.1 k e.symm hk, fun e => DD.out.2.2.2.2.2.2.2.2.1 k e.symm hk, fun e => DD.out.2.2.2.2.2.2.2.2.2 k e.symm hk⟩
theorem impl_ParseCron.go_mono (k : Nat) : ∀ (ps : List ByteArray) (i : Nat) (acc : List (List Int)), LeO (impl_ParseCron.go k i ps acc) (impl_ParseCron.go (k + 1) i ps acc)
 | [], _, _ => LeO.refl _
 | p :: ps, i, acc => by
  unfold impl_ParseCron.go
  exact LeO.bind (impl_parseField.mono _ _ _) (fun t => LeO.ite (impl_ParseCron.go_mono k ps (i + 1) _) (LeO.refl _))
theorem impl_ParseCron.mono : ∀ a0 k, LeO (impl_ParseCron.f k a0) (impl_ParseCron.f (k + 1) a0) := by
 intro a0 k
 unfold impl_ParseCron.f
 exact LeO.bind (impl_PartsOf.mono _ _) (fun t => LeO.ite (LeO.bind (impl_ParseCron.go_mono k _ 0 []) (fun _ => LeO.refl _)) (LeO.refl _))

/-! ### laws_sameInts: function 9 -/
def laws_sameInts.l0 : Nat → List Int → List Int → Int → Option (Bool)
 | 0, _, _, _ => none
 | k + 1, x0, x1, x5 => if x5 < (x0.length : Int) then (if 0 ≤ x5 then (if x5 < (x1.length : Int) then (if (rd x0 x5) = (rd x1 x5) then (laws_sameInts.l0 k x0 x1 (wrap64 (x5 + 1))) else (some false)) else (none)) else (none)) else (some true)
def laws_sameInts.f (k : Nat) (l0 : List Int) (l1 : List Int) : Option (Bool) := if (l0.length : Int) = (l1.length : Int) then (laws_sameInts.l0 k l0 l1 0) else (some false)
theorem laws_sameInts.mono_l : ∀ k, (∀ y0 y1 y2, LeO (laws_sameInts.l0 k y0 y1 y2) (laws_sameInts.l0 (k + 1) y0 y1 y2))
 | 0 => fun _ _ _ r h => by simp [laws_sameInts.l0] at h
 | k + 1 => by
  have ih0 := laws_sameInts.mono_l k
  ·intro y0 y1 y2
   unfold laws_sameInts.l0
   repeat' first
   | (with_reducible exact ih0 _ _ _)
   | (with_reducible exact LeO.refl _)
   | (with_reducible exact LeO.none _)
   | (with_reducible refine LeO.ite ?_ ?_)
   | (with_reducible refine LeO.bind ?_ (fun _ => ?_))
   | exact ih0 _ _ _
   | exact LeO.none _
   | refine LeO.ite ?_ ?_
   | refine LeO.bind ?_ (fun _ => ?_)
theorem laws_sameInts.mono : ∀ a0 a1 k, LeO (laws_sameInts.f k a0 a1) (laws_sameInts.f (k + 1) a0 a1) := by
 intro a0 a1 k
 have ih0 := laws_sameInts.mono_l k
 unfold laws_sameInts.f
 repeat' first
  | (with_reducible exact ih0 _ _ _)
  | (with_reducible exact LeO.refl _)
  | (with_reducible exact LeO.none _)
  | (with_reducible refine LeO.ite ?_ ?_)
  | (with_reducible refine LeO.bind ?_ (fun _ => ?_))
  | exact ih0 _ _ _
  | exact LeO.none _
  | refine LeO.ite ?_ ?_
  | refine LeO.bind ?_ (fun _ => ?_)
set_option maxHeartbeats 8000000 in
set_option maxRecDepth 100000 in
theorem laws_sameInts.calls (k : Nat) (A0 : Option Addr) (c0 : Nat) (l0 : List Int) (A1 : Option Addr) (c1 : Nat) (l1 : List Int) (r : Bool) (w : World) (hr0 : Kd.C (Kd.int .i64) w A0 l0.length l0) (hc0 : l0.length ≤ c0) (hr1 : Kd.C (Kd.int .i64) w A1 l1.length l1) (hc1 : l1.length ≤ c1) (h : laws_sameInts.f k l0 l1 = some r) :
 Calls Tryz.prog 9 #[.slice A0 l0.length c0, .slice A1 l1.length c1] w fun e w' => e = .returned (.bool r) ∧ Drawn0 w w' := by
 have HR0 := aM hr0
 have HC0 := aM hc0
 clear hr0 hc0
 have HR1 := aM hr1
 have HC1 := aM hc1
 clear hr1 hc1
 have H : (if (l0.length : Int) = (l1.length : Int) then (laws_sameInts.l0 k l0 l1 0) else (some false)) = some r := h
 clear h
 by_cases c3 : (l0.length : Int) = (l1.length : Int)
 ·rw [if_pos c3] at H
  have c3b0 : ((l0.length : Int) == (l1.length : Int)) = true := beq_iff_eq.mpr c3
  have c3b1 : ((l0.length : Int) != (l1.length : Int)) = false := bne_eq_false_iff_eq.mpr c3
  have c3b2 : (l0.length == l1.length) = true := by first | simpa using c3 | (simp at c3 ⊢; omega)
  clear c3
  have H' := aM H
  clear H
  go_enter Tryz.func9, Tryz.ntmps9
  go_wp2
  repeat (go_quiet (fail); try go_wp2)
  go_loopg [5] k (fun kq v5 w' => ∃ (x5_1 : Int), v5 = .int .i64 x5_1 ∧ Aside0 (laws_sameInts.l0 kq l0 l1 x5_1 = some r) ∧ Aside0 (kq ≤ k) ∧ Drawn0 w w')
  case atStart => exact ⟨(0), (by first | rfl | (simp; done) | (simp [*]; done)), H', ⟨Nat.le_refl _⟩, by repeat (first | exact Drawn0.refl _ | apply Drawn0.step)⟩
  case round =>
   clear H'
   try clear c1; try clear p2; try clear c3; try clear c3b0; try clear c3b1; try clear c3b2
   obtain ⟨x5_1, rfl, HA, HK1, ⟨m1, rfl⟩⟩ := hrel
   cases gk with
   | zero => exact absurd HA.out (by simp [laws_sameInts.l0])
   | succ k1 =>
    have H := HA.out
    clear HA
    simp only [laws_sameInts.l0] at H
    by_cases c4 : x5_1 < (l0.length : Int)
    ·rw [if_pos c4] at H
     have c4b0 : decide (x5_1 < (l0.length : Int)) = true := decide_eq_true c4
     clear c4
     by_cases c5 : 0 ≤ x5_1
     ·rw [if_pos c5] at H
      have c5b0 : decide (0 ≤ x5_1) = true := decide_eq_true c5
      clear c5
      by_cases c6 : x5_1 < (l1.length : Int)
      ·rw [if_pos c6] at H
       have c6b0 : decide (x5_1 < (l1.length : Int)) = true := decide_eq_true c6
       clear c6
       by_cases c7 : (rd l0 x5_1) = (rd l1 x5_1)
       ·rw [if_pos c7] at H
        have c7b0 : ((rd l0 x5_1) == (rd l1 x5_1)) = true := beq_iff_eq.mpr c7
        have c7b1 : ((rd l0 x5_1) != (rd l1 x5_1)) = false := bne_eq_false_iff_eq.mpr c7
        clear c7
        have H' := aM H
        clear H
        have p222 : 0 ≤ (x5_1 : Int) := of_decide_eq_true (by first | (with_reducible assumption) | assumption)
        have q222 : x5_1 < (l0.length : Int) := of_decide_eq_true (by first | (with_reducible assumption) | assumption)
        obtain ⟨ad222, e222, hx222_0⟩ := Kd.at_int HR0.out x5_1 p222 q222
        cases e222
        replace p222 := eq_true p222; replace q222 := eq_true q222
        have p223 : 0 ≤ (x5_1 : Int) := of_decide_eq_true (by first | (with_reducible assumption) | assumption)
        have q223 : x5_1 < (l1.length : Int) := of_decide_eq_true (by first | (with_reducible assumption) | assumption)
        obtain ⟨ad223, e223, hx223_0⟩ := Kd.at_int HR1.out x5_1 p223 q223
        cases e223
        replace p223 := eq_true p223; replace q223 := eq_true q223
        go_wp2
        repeat (go_quiet (fail); try go_wp2)
        go_roundg k1
        case measure => have := HK1.out; omega
        case rel => exact ⟨(wrap64 (x5_1 + 1)), (by first | rfl | (simp; done) | (simp [*]; done)), H', ⟨by have := HK1.out; omega⟩, by repeat (first | exact Drawn0.refl _ | apply Drawn0.step)⟩
       ·rw [if_neg c7] at H
        have c7b0 : ((rd l0 x5_1) == (rd l1 x5_1)) = false := beq_eq_false_iff_ne.mpr c7
        have c7b1 : ((rd l0 x5_1) != (rd l1 x5_1)) = true := bne_iff_ne.mpr c7
        obtain rfl := Option.some.inj H
        have p222 : 0 ≤ (x5_1 : Int) := of_decide_eq_true (by first | (with_reducible assumption) | assumption)
        have q222 : x5_1 < (l0.length : Int) := of_decide_eq_true (by first | (with_reducible assumption) | assumption)
        obtain ⟨ad222, e222, hx222_0⟩ := Kd.at_int HR0.out x5_1 p222 q222
        cases e222
        replace p222 := eq_true p222; replace q222 := eq_true q222
        have p223 : 0 ≤ (x5_1 : Int) := of_decide_eq_true (by first | (with_reducible assumption) | assumption)
        have q223 : x5_1 < (l1.length : Int) := of_decide_eq_true (by first | (with_reducible assumption) | assumption)
        obtain ⟨ad223, e223, hx223_0⟩ := Kd.at_int HR1.out x5_1 p223 q223
        cases e223
        replace p223 := eq_true p223; replace q223 := eq_true q223
        go_wp2
        repeat (go_quiet (fail); try go_wp2)
        go_ret
        exact ⟨by first | rfl | (simp; done) | (simp [*]; done), by repeat (first | exact Drawn0.refl _ | apply Drawn0.step)⟩
      ·rw [if_neg c6] at H
       exact absurd H (by simp)
     ·rw [if_neg c5] at H
      exact absurd H (by simp)
    ·rw [if_neg c4] at H
     have c4b0 : decide (x5_1 < (l0.length : Int)) = false := decide_eq_false c4
     clear c4
     obtain rfl := Option.some.inj H
     go_wp2
     repeat (go_quiet (fail); try go_wp2)
     go_ret
     exact ⟨by first | rfl | (simp; done) | (simp [*]; done), by repeat (first | exact Drawn0.refl _ | apply Drawn0.step)⟩
 ·rw [if_neg c3] at H
  have c3b0 : ((l0.length : Int) == (l1.length : Int)) = false := beq_eq_false_iff_ne.mpr c3
  have c3b1 : ((l0.length : Int) != (l1.length : Int)) = true := bne_iff_ne.mpr c3
  have c3b2 : (l0.length == l1.length) = false := by first | simpa using c3 | (simp at c3 ⊢; omega)
  obtain rfl := Option.some.inj H
  go_enter Tryz.func9, Tryz.ntmps9
  go_wp2
  repeat (go_quiet (fail); try go_wp2)
  go_ret
  exact ⟨by first | rfl | (simp; done) | (simp [*]; done), by repeat (first | exact Drawn0.refl _ | apply Drawn0.step)⟩

/-! ### spec_l01In: function 48 -/
def spec_l01In.f (a0 : Int) (a1 : Int) (a2 : Int) : Option (Bool) := if a0 ≥ a1 then (some (decide (a0 ≤ a2))) else (some false)
set_option maxHeartbeats 8000000 in
set_option maxRecDepth 100000 in
theorem spec_l01In.calls (a0 : Int) (a1 : Int) (a2 : Int) (r : Bool) (w : World) (h : spec_l01In.f a0 a1 a2 = some r) :
 Calls Tryz.prog 48 #[.int .i64 a0, .int .i64 a1, .int .i64 a2] w fun e w' => e = .returned (.bool r) ∧ Drawn0 w w' := by
 have H : (if a0 ≥ a1 then (some (decide (a0 ≤ a2))) else (some false)) = some r := h
 clear h
 by_cases c4 : a0 ≥ a1
 ·rw [if_pos c4] at H
  have c4b0 : decide (a1 ≤ a0) = true := decide_eq_true c4
  clear c4
  obtain rfl := Option.some.inj H
  go_enter Tryz.func48, Tryz.ntmps48
  go_wp2
  go_ret
  exact ⟨by first | rfl | (simp; done) | (simp [*]; done), by repeat (first | exact Drawn0.refl _ | apply Drawn0.step)⟩
 ·rw [if_neg c4] at H
  have c4b0 : decide (a1 ≤ a0) = false := decide_eq_false c4
  clear c4
  obtain rfl := Option.some.inj H
  go_enter Tryz.func48, Tryz.ntmps48
  go_wp2
  go_ret
  exact ⟨by first | rfl | (simp; done) | (simp [*]; done), by repeat (first | exact Drawn0.refl _ | apply Drawn0.step)⟩

/-! ### spec_l10List: function 31 -/
def spec_l10List.l0 : Nat → List Int → Int → Int → Int → Option (Bool)
 | 0, _, _, _, _ => none
 | k + 1, x0, x1, x2, x7 => if x7 < (x0.length : Int) then (if 0 ≤ x7 then ((spec_l01In.f (rd x0 x7) x1 x2).bind fun t225 => (if t225 = true then (if x7 > 0 then (if 0 ≤ (wrap64 (x7 - 1)) then (if (wrap64 (x7 - 1)) < (x0.length : Int) then (if (rd x0 (wrap64 (x7 - 1))) ≥ (rd x0 x7) then (some false) else (spec_l10List.l0 k x0 x1 x2 (wrap64 (x7 + 1)))) else (none)) else (none)) else (spec_l10List.l0 k x0 x1 x2 (wrap64 (x7 + 1)))) else (some false))) else (none)) else (some (decide ((x0.length : Int) > 0)))
def spec_l10List.f (k : Nat) (l0 : List Int) (a1 : Int) (a2 : Int) : Option (Bool) := spec_l10List.l0 k l0 a1 a2 0
theorem spec_l10List.mono_l : ∀ k, (∀ y0 y1 y2 y3, LeO (spec_l10List.l0 k y0 y1 y2 y3) (spec_l10List.l0 (k + 1) y0 y1 y2 y3))
 | 0 => fun _ _ _ _ r h => by simp [spec_l10List.l0] at h
 | k + 1 => by
  have ih0 := spec_l10List.mono_l k
  ·intro y0 y1 y2 y3
   unfold spec_l10List.l0
   repeat' first
   | (with_reducible exact ih0 _ _ _ _)
   | (with_reducible exact LeO.refl _)
   | (with_reducible exact LeO.none _)
   | (with_reducible refine LeO.ite ?_ ?_)
   | (with_reducible refine LeO.bind ?_ (fun _ => ?_))
   | exact ih0 _ _ _ _
   | exact LeO.none _
   | refine LeO.ite ?_ ?_
   | refine LeO.bind ?_ (fun _ => ?_)
theorem spec_l10List.mono : ∀ a0 a1 a2 k, LeO (spec_l10List.f k a0 a1 a2) (spec_l10List.f (k + 1) a0 a1 a2) := by
 intro a0 a1 a2 k
 have ih0 := spec_l10List.mono_l k
 unfold spec_l10List.f
 repeat' first
  | (with_reducible exact ih0 _ _ _ _)
  | (with_reducible exact LeO.refl _)
  | (with_reducible exact LeO.none _)
  | (with_reducible refine LeO.ite ?_ ?_)
  | (with_reducible refine LeO.bind ?_ (fun _ => ?_))
  | exact ih0 _ _ _ _
  | exact LeO.none _
  | refine LeO.ite ?_ ?_
  | refine LeO.bind ?_ (fun _ => ?_)
set_option maxHeartbeats 8000000 in
set_option maxRecDepth 100000 in
theorem spec_l10List.calls (k : Nat) (A0 : Option Addr) (c0 : Nat) (l0 : List Int) (a1 : Int) (a2 : Int) (r : Bool) (w : World) (hr0 : Kd.C (Kd.int .i64) w A0 l0.length l0) (hc0 : l0.length ≤ c0) (h : spec_l10List.f k l0 a1 a2 = some r) :
 Calls Tryz.prog 31 #[.slice A0 l0.length c0, .int .i64 a1, .int .i64 a2] w fun e w' => e = .returned (.bool r) ∧ Drawn0 w w' := by
 have HR0 := aM hr0
 have HC0 := aM hc0
 clear hr0 hc0
 have H : (spec_l10List.l0 k l0 a1 a2 0) = some r := h
 clear h
 have H' := aM H
 clear H
 go_enter Tryz.func31, Tryz.ntmps31
 go_wp2
 repeat (go_quiet (fail); try go_wp2)
 go_loopg [7] k (fun kq v7 w' => ∃ (x7_1 : Int), v7 = .int .i64 x7_1 ∧ Aside0 (spec_l10List.l0 kq l0 a1 a2 x7_1 = some r) ∧ Aside0 (kq ≤ k) ∧ Drawn0 w w')
 case atStart => exact ⟨(0), (by first | rfl | (simp; done) | (simp [*]; done)), H', ⟨Nat.le_refl _⟩, by repeat (first | exact Drawn0.refl _ | apply Drawn0.step)⟩
 case round =>
  clear H'
  try clear p2; try clear c3
  obtain ⟨x7_1, rfl, HA, HK1, ⟨m1, rfl⟩⟩ := hrel
  cases gk with
  | zero => exact absurd HA.out (by simp [spec_l10List.l0])
  | succ k1 =>
   have H := HA.out
   clear HA
   simp only [spec_l10List.l0] at H
   by_cases c4 : x7_1 < (l0.length : Int)
   ·rw [if_pos c4] at H
    have c4b0 : decide (x7_1 < (l0.length : Int)) = true := decide_eq_true c4
    clear c4
    by_cases c5 : 0 ≤ x7_1
    ·rw [if_pos c5] at H
     have c5b0 : decide (0 ≤ x7_1) = true := decide_eq_true c5
     clear c5
     replace H := Option.bind_eq_some_iff.mp H
     obtain ⟨t225, A60, H⟩ := H
     try dsimp only at H
     have A6 := aM A60
     clear A60
     by_cases c7 : t225 = true
     ·subst c7
      rw [if_pos rfl] at H
      by_cases c8 : x7_1 > 0
      ·rw [if_pos c8] at H
       have c8b0 : decide (0 < x7_1) = true := decide_eq_true c8
       clear c8
       obtain ⟨ji9, hji9⟩ : ∃ j_ : Int, (wrap64 (x7_1 - 1)) = j_ := ⟨_, rfl⟩
       replace H : (if 0 ≤ (ji9) then (if (ji9) < (l0.length : Int) then (if (rd l0 (ji9)) ≥ (rd l0 x7_1) then (some false) else (spec_l10List.l0 k1 l0 a1 a2 (wrap64 (x7_1 + 1)))) else (none)) else (none)) = some r := by first | (rw [hji9] at H; exact H) | (simp only [hji9] at H ⊢; exact H)
       (try rw [hji9] at A6)
       have hji9w : (IntKind.i64.wrap (x7_1 - 1)) = ji9 := (i64_w _).trans hji9
       by_cases c10 : 0 ≤ (ji9)
       ·rw [if_pos c10] at H
        have c10b0 : decide (0 ≤ (ji9)) = true := decide_eq_true c10
        clear c10
        by_cases c11 : (ji9) < (l0.length : Int)
        ·rw [if_pos c11] at H
         have c11b0 : decide ((ji9) < (l0.length : Int)) = true := decide_eq_true c11
         clear c11
         by_cases c12 : (rd l0 (ji9)) ≥ (rd l0 x7_1)
         ·rw [if_pos c12] at H
          have c12b0 : decide ((rd l0 x7_1) ≤ (rd l0 (ji9))) = true := decide_eq_true c12
          clear c12
          obtain rfl := Option.some.inj H
          have p224 : 0 ≤ (x7_1 : Int) := of_decide_eq_true (by first | (with_reducible assumption) | assumption)
          have q224 : x7_1 < (l0.length : Int) := of_decide_eq_true (by first | (with_reducible assumption) | assumption)
          obtain ⟨ad224, e224, hx224_0⟩ := Kd.at_int HR0.out x7_1 p224 q224
          cases e224
          replace p224 := eq_true p224; replace q224 := eq_true q224
          go_wp2_with (first | (go_at_call 48; (with_reducible refine (spec_l01In.calls (rd l0 x7_1) a1 a2 true _ A6.out).mono ?_); rintro e w' ⟨rfl, ⟨nd, rfl⟩⟩; (try first | exact ⟨rfl, _, World.drewN_drewN _ _ _⟩ | exact ⟨rfl, _, Eq.trans (World.drewN_drewN _ _ _) (congrArg (World.drewN _) (Nat.add_assoc _ _ _))⟩); have p226 : 0 ≤ ((ji9) : Int) := of_decide_eq_true (by first | (with_reducible assumption) | assumption); have q226 : (ji9) < (l0.length : Int) := of_decide_eq_true (by first | (with_reducible assumption) | assumption); obtain ⟨ad226, e226, hx226_0⟩ := Kd.at_int HR0.out (ji9) p226 q226; obtain rfl : ad224 = ad226 := (by injection e226); replace p226 := eq_true p226; replace q226 := eq_true q226; have p227 : 0 ≤ (x7_1 : Int) := of_decide_eq_true (by first | (with_reducible assumption) | assumption); have q227 : x7_1 < (l0.length : Int) := of_decide_eq_true (by first | (with_reducible assumption) | assumption); obtain ⟨ad227, e227, hx227_0⟩ := Kd.at_int HR0.out x7_1 p227 q227; obtain rfl : ad224 = ad227 := (by injection e227); replace p227 := eq_true p227; replace q227 := eq_true q227))
          repeat (go_quiet (first | (go_at_call 48; (with_reducible refine (spec_l01In.calls (rd l0 x7_1) a1 a2 true _ A6.out).mono ?_); rintro e w' ⟨rfl, ⟨nd, rfl⟩⟩; (try first | exact ⟨rfl, _, World.drewN_drewN _ _ _⟩ | exact ⟨rfl, _, Eq.trans (World.drewN_drewN _ _ _) (congrArg (World.drewN _) (Nat.add_assoc _ _ _))⟩); have p226 : 0 ≤ ((ji9) : Int) := of_decide_eq_true (by first | (with_reducible assumption) | assumption); have q226 : (ji9) < (l0.length : Int) := of_decide_eq_true (by first | (with_reducible assumption) | assumption); obtain ⟨ad226, e226, hx226_0⟩ := Kd.at_int HR0.out (ji9) p226 q226; obtain rfl : ad224 = ad226 := (by injection e226); replace p226 := eq_true p226; replace q226 := eq_true q226; have p227 : 0 ≤ (x7_1 : Int) := of_decide_eq_true (by first | (with_reducible assumption) | assumption); have q227 : x7_1 < (l0.length : Int) := of_decide_eq_true (by first | (with_reducible assumption) | assumption); obtain ⟨ad227, e227, hx227_0⟩ := Kd.at_int HR0.out x7_1 p227 q227; obtain rfl : ad224 = ad227 := (by injection e227); replace p227 := eq_true p227; replace q227 := eq_true q227)); try go_wp2_with (first | (go_at_call 48; (with_reducible refine (spec_l01In.calls (rd l0 x7_1) a1 a2 true _ A6.out).mono ?_); rintro e w' ⟨rfl, ⟨nd, rfl⟩⟩; (try first | exact ⟨rfl, _, World.drewN_drewN _ _ _⟩ | exact ⟨rfl, _, Eq.trans (World.drewN_drewN _ _ _) (congrArg (World.drewN _) (Nat.add_assoc _ _ _))⟩); have p226 : 0 ≤ ((ji9) : Int) := of_decide_eq_true (by first | (with_reducible assumption) | assumption); have q226 : (ji9) < (l0.length : Int) := of_decide_eq_true (by first | (with_reducible assumption) | assumption); obtain ⟨ad226, e226, hx226_0⟩ := Kd.at_int HR0.out (ji9) p226 q226; obtain rfl : ad224 = ad226 := (by injection e226); replace p226 := eq_true p226; replace q226 := eq_true q226; have p227 : 0 ≤ (x7_1 : Int) := of_decide_eq_true (by first | (with_reducible assumption) | assumption); have q227 : x7_1 < (l0.length : Int) := of_decide_eq_true (by first | (with_reducible assumption) | assumption); obtain ⟨ad227, e227, hx227_0⟩ := Kd.at_int HR0.out x7_1 p227 q227; obtain rfl : ad224 = ad227 := (by injection e227); replace p227 := eq_true p227; replace q227 := eq_true q227)))
          go_ret
          exact ⟨by first | rfl | (simp; done) | (simp only [← hji9] <;> (first | rfl | simp)) | (simp [*]; done), by repeat (first | exact Drawn0.refl _ | apply Drawn0.step)⟩
         ·rw [if_neg c12] at H
          have c12b0 : decide ((rd l0 x7_1) ≤ (rd l0 (ji9))) = false := decide_eq_false c12
          clear c12
          have H' := aM H
          clear H
          have p224 : 0 ≤ (x7_1 : Int) := of_decide_eq_true (by first | (with_reducible assumption) | assumption)
          have q224 : x7_1 < (l0.length : Int) := of_decide_eq_true (by first | (with_reducible assumption) | assumption)
          obtain ⟨ad224, e224, hx224_0⟩ := Kd.at_int HR0.out x7_1 p224 q224
          cases e224
          replace p224 := eq_true p224; replace q224 := eq_true q224
          go_wp2_with (first | (go_at_call 48; (with_reducible refine (spec_l01In.calls (rd l0 x7_1) a1 a2 true _ A6.out).mono ?_); rintro e w' ⟨rfl, ⟨nd, rfl⟩⟩; (try first | exact ⟨rfl, _, World.drewN_drewN _ _ _⟩ | exact ⟨rfl, _, Eq.trans (World.drewN_drewN _ _ _) (congrArg (World.drewN _) (Nat.add_assoc _ _ _))⟩); have p226 : 0 ≤ ((ji9) : Int) := of_decide_eq_true (by first | (with_reducible assumption) | assumption); have q226 : (ji9) < (l0.length : Int) := of_decide_eq_true (by first | (with_reducible assumption) | assumption); obtain ⟨ad226, e226, hx226_0⟩ := Kd.at_int HR0.out (ji9) p226 q226; obtain rfl : ad224 = ad226 := (by injection e226); replace p226 := eq_true p226; replace q226 := eq_true q226; have p227 : 0 ≤ (x7_1 : Int) := of_decide_eq_true (by first | (with_reducible assumption) | assumption); have q227 : x7_1 < (l0.length : Int) := of_decide_eq_true (by first | (with_reducible assumption) | assumption); obtain ⟨ad227, e227, hx227_0⟩ := Kd.at_int HR0.out x7_1 p227 q227; obtain rfl : ad224 = ad227 := (by injection e227); replace p227 := eq_true p227; replace q227 := eq_true q227))
          repeat (go_quiet (first | (go_at_call 48; (with_reducible refine (spec_l01In.calls (rd l0 x7_1) a1 a2 true _ A6.out).mono ?_); rintro e w' ⟨rfl, ⟨nd, rfl⟩⟩; (try first | exact ⟨rfl, _, World.drewN_drewN _ _ _⟩ | exact ⟨rfl, _, Eq.trans (World.drewN_drewN _ _ _) (congrArg (World.drewN _) (Nat.add_assoc _ _ _))⟩); have p226 : 0 ≤ ((ji9) : Int) := of_decide_eq_true (by first | (with_reducible assumption) | assumption); have q226 : (ji9) < (l0.length : Int) := of_decide_eq_true (by first | (with_reducible assumption) | assumption); obtain ⟨ad226, e226, hx226_0⟩ := Kd.at_int HR0.out (ji9) p226 q226; obtain rfl : ad224 = ad226 := (by injection e226); replace p226 := eq_true p226; replace q226 := eq_true q226; have p227 : 0 ≤ (x7_1 : Int) := of_decide_eq_true (by first | (with_reducible assumption) | assumption); have q227 : x7_1 < (l0.length : Int) := of_decide_eq_true (by first | (with_reducible assumption) | assumption); obtain ⟨ad227, e227, hx227_0⟩ := Kd.at_int HR0.out x7_1 p227 q227; obtain rfl : ad224 = ad227 := (by injection e227); replace p227 := eq_true p227; replace q227 := eq_true q227)); try go_wp2_with (first | (go_at_call 48; (with_reducible refine (spec_l01In.calls (rd l0 x7_1) a1 a2 true _ A6.out).mono ?_); rintro e w' ⟨rfl, ⟨nd, rfl⟩⟩; (try first | exact ⟨rfl, _, World.drewN_drewN _ _ _⟩ | exact ⟨rfl, _, Eq.trans (World.drewN_drewN _ _ _) (congrArg (World.drewN _) (Nat.add_assoc _ _ _))⟩); have p226 : 0 ≤ ((ji9) : Int) := of_decide_eq_true (by first | (with_reducible assumption) | assumption); have q226 : (ji9) < (l0.length : Int) := of_decide_eq_true (by first | (with_reducible assumption) | assumption); obtain ⟨ad226, e226, hx226_0⟩ := Kd.at_int HR0.out (ji9) p226 q226; obtain rfl : ad224 = ad226 := (by injection e226); replace p226 := eq_true p226; replace q226 := eq_true q226; have p227 : 0 ≤ (x7_1 : Int) := of_decide_eq_true (by first | (with_reducible assumption) | assumption); have q227 : x7_1 < (l0.length : Int) := of_decide_eq_true (by first | (with_reducible assumption) | assumption); obtain ⟨ad227, e227, hx227_0⟩ := Kd.at_int HR0.out x7_1 p227 q227; obtain rfl : ad224 = ad227 := (by injection e227); replace p227 := eq_true p227; replace q227 := eq_true q227)))
          go_roundg k1
          case measure => have := HK1.out; omega
          case rel => exact ⟨(wrap64 (x7_1 + 1)), (by first | rfl | (simp; done) | (simp [*]; done)), H', ⟨by have := HK1.out; omega⟩, by repeat (first | exact Drawn0.refl _ | apply Drawn0.step)⟩
        ·rw [if_neg c11] at H
         exact absurd H (by simp)
       ·rw [if_neg c10] at H
        exact absurd H (by simp)
      ·rw [if_neg c8] at H
       have c8b0 : decide (0 < x7_1) = false := decide_eq_false c8
       clear c8
       have H' := aM H
       clear H
       have p224 : 0 ≤ (x7_1 : Int) := of_decide_eq_true (by first | (with_reducible assumption) | assumption)
       have q224 : x7_1 < (l0.length : Int) := of_decide_eq_true (by first | (with_reducible assumption) | assumption)
       obtain ⟨ad224, e224, hx224_0⟩ := Kd.at_int HR0.out x7_1 p224 q224
       cases e224
       replace p224 := eq_true p224; replace q224 := eq_true q224
       go_wp2_with (first | (go_at_call 48; (with_reducible refine (spec_l01In.calls (rd l0 x7_1) a1 a2 true _ A6.out).mono ?_); rintro e w' ⟨rfl, ⟨nd, rfl⟩⟩; (try first | exact ⟨rfl, _, World.drewN_drewN _ _ _⟩ | exact ⟨rfl, _, Eq.trans (World.drewN_drewN _ _ _) (congrArg (World.drewN _) (Nat.add_assoc _ _ _))⟩)))
       repeat (go_quiet (first | (go_at_call 48; (with_reducible refine (spec_l01In.calls (rd l0 x7_1) a1 a2 true _ A6.out).mono ?_); rintro e w' ⟨rfl, ⟨nd, rfl⟩⟩; (try first | exact ⟨rfl, _, World.drewN_drewN _ _ _⟩ | exact ⟨rfl, _, Eq.trans (World.drewN_drewN _ _ _) (congrArg (World.drewN _) (Nat.add_assoc _ _ _))⟩))); try go_wp2_with (first | (go_at_call 48; (with_reducible refine (spec_l01In.calls (rd l0 x7_1) a1 a2 true _ A6.out).mono ?_); rintro e w' ⟨rfl, ⟨nd, rfl⟩⟩; (try first | exact ⟨rfl, _, World.drewN_drewN _ _ _⟩ | exact ⟨rfl, _, Eq.trans (World.drewN_drewN _ _ _) (congrArg (World.drewN _) (Nat.add_assoc _ _ _))⟩))))
       go_roundg k1
       case measure => have := HK1.out; omega
       case rel => exact ⟨(wrap64 (x7_1 + 1)), (by first | rfl | (simp; done) | (simp [*]; done)), H', ⟨by have := HK1.out; omega⟩, by repeat (first | exact Drawn0.refl _ | apply Drawn0.step)⟩
     ·replace c7 := Bool.eq_false_iff.mpr c7
      subst c7
      have H1 : (some false) = some r := by rw [if_neg (show ¬ (false = true) by decide)] at H; exact H
      clear H; have H := H1; clear H1
      obtain rfl := Option.some.inj H
      have p224 : 0 ≤ (x7_1 : Int) := of_decide_eq_true (by first | (with_reducible assumption) | assumption)
      have q224 : x7_1 < (l0.length : Int) := of_decide_eq_true (by first | (with_reducible assumption) | assumption)
      obtain ⟨ad224, e224, hx224_0⟩ := Kd.at_int HR0.out x7_1 p224 q224
      cases e224
      replace p224 := eq_true p224; replace q224 := eq_true q224
      go_wp2_with (first | (go_at_call 48; (with_reducible refine (spec_l01In.calls (rd l0 x7_1) a1 a2 false _ A6.out).mono ?_); rintro e w' ⟨rfl, ⟨nd, rfl⟩⟩; (try first | exact ⟨rfl, _, World.drewN_drewN _ _ _⟩ | exact ⟨rfl, _, Eq.trans (World.drewN_drewN _ _ _) (congrArg (World.drewN _) (Nat.add_assoc _ _ _))⟩)))
      repeat (go_quiet (first | (go_at_call 48; (with_reducible refine (spec_l01In.calls (rd l0 x7_1) a1 a2 false _ A6.out).mono ?_); rintro e w' ⟨rfl, ⟨nd, rfl⟩⟩; (try first | exact ⟨rfl, _, World.drewN_drewN _ _ _⟩ | exact ⟨rfl, _, Eq.trans (World.drewN_drewN _ _ _) (congrArg (World.drewN _) (Nat.add_assoc _ _ _))⟩))); try go_wp2_with (first | (go_at_call 48; (with_reducible refine (spec_l01In.calls (rd l0 x7_1) a1 a2 false _ A6.out).mono ?_); rintro e w' ⟨rfl, ⟨nd, rfl⟩⟩; (try first | exact ⟨rfl, _, World.drewN_drewN _ _ _⟩ | exact ⟨rfl, _, Eq.trans (World.drewN_drewN _ _ _) (congrArg (World.drewN _) (Nat.add_assoc _ _ _))⟩))))
      go_ret
      exact ⟨by first | rfl | (simp; done) | (simp [*]; done), by repeat (first | exact Drawn0.refl _ | apply Drawn0.step)⟩
    ·rw [if_neg c5] at H
     exact absurd H (by simp)
   ·rw [if_neg c4] at H
    have c4b0 : decide (x7_1 < (l0.length : Int)) = false := decide_eq_false c4
    clear c4
    obtain rfl := Option.some.inj H
    go_wp2
    repeat (go_quiet (fail); try go_wp2)
    go_ret
    exact ⟨by first | rfl | (simp; done) | (simp [*]; done), by repeat (first | exact Drawn0.refl _ | apply Drawn0.step)⟩

/-! ### spec_CronOk: function 13 -/
def spec_CronOk.f (k : Nat) (l0_0 : List Int) (l0_1 : List Int) (l0_2 : List Int) (l0_3 : List Int) (l0_4 : List Int) : Option (Bool) := (spec_l10List.f k l0_0 0 59).bind fun t229 => (if t229 = true then ((spec_l10List.f k l0_1 0 23).bind fun t230 => (if t230 = true then ((spec_l10List.f k l0_2 1 31).bind fun t231 => (if t231 = true then ((spec_l10List.f k l0_3 1 12).bind fun t232 => (if t232 = true then ((spec_l10List.f k l0_4 0 6).bind fun t233 => (some t233)) else (some false))) else (some false))) else (some false))) else (some false))
theorem spec_CronOk.mono : ∀ a0 a1 a2 a3 a4 k, LeO (spec_CronOk.f k a0 a1 a2 a3 a4) (spec_CronOk.f (k + 1) a0 a1 a2 a3 a4) := by
 intro a0 a1 a2 a3 a4 k
 unfold spec_CronOk.f
 repeat' first
  | (with_reducible exact spec_l10List.mono _ _ _ _)
  | (with_reducible exact LeO.refl _)
  | (with_reducible exact LeO.none _)
  | (with_reducible refine LeO.ite ?_ ?_)
  | (with_reducible refine LeO.bind ?_ (fun _ => ?_))
  | exact spec_l10List.mono _ _ _ _
  | exact LeO.none _
  | refine LeO.ite ?_ ?_
  | refine LeO.bind ?_ (fun _ => ?_)
set_option maxHeartbeats 8000000 in
set_option maxRecDepth 100000 in
theorem spec_CronOk.calls (k : Nat) (A0_0 : Option Addr) (c0_0 : Nat) (l0_0 : List Int) (A0_1 : Option Addr) (c0_1 : Nat) (l0_1 : List Int) (A0_2 : Option Addr) (c0_2 : Nat) (l0_2 : List Int) (A0_3 : Option Addr) (c0_3 : Nat) (l0_3 : List Int) (A0_4 : Option Addr) (c0_4 : Nat) (l0_4 : List Int) (r : Bool) (w : World) (hr0_0 : Kd.C (Kd.int .i64) w A0_0 l0_0.length l0_0) (hc0_0 : l0_0.length ≤ c0_0) (hr0_1 : Kd.C (Kd.int .i64) w A0_1 l0_1.length l0_1) (hc0_1 : l0_1.length ≤ c0_1) (hr0_2 : Kd.C (Kd.int .i64) w A0_2 l0_2.length l0_2) (hc0_2 : l0_2.length ≤ c0_2) (hr0_3 : Kd.C (Kd.int .i64) w A0_3 l0_3.length l0_3) (hc0_3 : l0_3.length ≤ c0_3) (hr0_4 : Kd.C (Kd.int .i64) w A0_4 l0_4.length l0_4) (hc0_4 : l0_4.length ≤ c0_4) (h : spec_CronOk.f k l0_0 l0_1 l0_2 l0_3 l0_4 = some r) :
 Calls Tryz.prog 13 #[.agg #[.slice A0_0 l0_0.length c0_0, .slice A0_1 l0_1.length c0_1, .slice A0_2 l0_2.length c0_2, .slice A0_3 l0_3.length c0_3, .slice A0_4 l0_4.length c0_4]] w fun e w' => e = .returned (.bool r) ∧ Below w.heap.size w w' := by
 have hu26 := Tryz.underlying26
 have HR0_0 := aM hr0_0
 have HC0_0 := aM hc0_0
 clear hr0_0 hc0_0
 have HR0_1 := aM hr0_1
 have HC0_1 := aM hc0_1
 clear hr0_1 hc0_1
 have HR0_2 := aM hr0_2
 have HC0_2 := aM hc0_2
 clear hr0_2 hc0_2
 have HR0_3 := aM hr0_3
 have HC0_3 := aM hc0_3
 clear hr0_3 hc0_3
 have HR0_4 := aM hr0_4
 have HC0_4 := aM hc0_4
 clear hr0_4 hc0_4
 have HB := aM (Below.refl w.heap.size w)
 have H : ((spec_l10List.f k l0_0 0 59).bind fun t229 => (if t229 = true then ((spec_l10List.f k l0_1 0 23).bind fun t230 => (if t230 = true then ((spec_l10List.f k l0_2 1 31).bind fun t231 => (if t231 = true then ((spec_l10List.f k l0_3 1 12).bind fun t232 => (if t232 = true then ((spec_l10List.f k l0_4 0 6).bind fun t233 => (some t233)) else (some false))) else (some false))) else (some false))) else (some false))) = some r := h
 clear h
 replace H := Option.bind_eq_some_iff.mp H
 obtain ⟨t229, A20, H⟩ := H
 try dsimp only at H
 have A2 := aM A20
 clear A20
 by_cases c3 : t229 = true
 ·subst c3
  rw [if_pos rfl] at H
  replace H := Option.bind_eq_some_iff.mp H
  obtain ⟨t230, A40, H⟩ := H
  try dsimp only at H
  have A4 := aM A40
  clear A40
  by_cases c5 : t230 = true
  ·subst c5
   rw [if_pos rfl] at H
   replace H := Option.bind_eq_some_iff.mp H
   obtain ⟨t231, A60, H⟩ := H
   try dsimp only at H
   have A6 := aM A60
   clear A60
   by_cases c7 : t231 = true
   ·subst c7
    rw [if_pos rfl] at H
    replace H := Option.bind_eq_some_iff.mp H
    obtain ⟨t232, A80, H⟩ := H
    replace H : (if t232 = true then ((spec_l10List.f k l0_4 0 6).bind fun t233 => (some t233)) else (some false)) = some r := H
    have A8 := aM A80
    clear A80
    by_cases c9 : t232 = true
    ·subst c9
     have H1 : ((spec_l10List.f k l0_4 0 6).bind fun t233 => (some t233)) = some r := by rw [if_pos rfl] at H; exact H
     clear H; have H := H1; clear H1
     replace H := Option.bind_eq_some_iff.mp H
     obtain ⟨t233, A100, H⟩ := H
     replace H : (some t233) = some r := H
     have A10 := aM A100
     clear A100
     obtain rfl := Option.some.inj H
     go_enter Tryz.func13, Tryz.ntmps13
     go_wp2_with (first | ((with_reducible refine gate_dst (N := 1) rfl ?_); refine bxE 1 #[.slice A0_0 l0_0.length c0_0, .slice A0_1 l0_1.length c0_1, .slice A0_2 l0_2.length c0_2, .slice A0_3 l0_3.length c0_3, .slice A0_4 l0_4.length c0_4] 26 ?_; intro gb228 hg w11 hbox hb; have BK228 := aM (hbox); have GW228 := szG hg (uL HB); have GE228 := szG hg (uL HB); replace HB := aM (below_step (uL HB) hb); clear hb hbox hg; have hcz12_0 := czA BK228.out 0 (.slice A0_0 l0_0.length c0_0); have hcz12_1 := czA BK228.out 1 (.slice A0_1 l0_1.length c0_1); have hcz12_2 := czA BK228.out 2 (.slice A0_2 l0_2.length c0_2); have hcz12_3 := czA BK228.out 3 (.slice A0_3 l0_3.length c0_3); have hcz12_4 := czA BK228.out 4 (.slice A0_4 l0_4.length c0_4); have hfz12_0 := blk_frozen BK228.out 0; have hfz12_1 := blk_frozen BK228.out 1; have hfz12_2 := blk_frozen BK228.out 2; have hfz12_3 := blk_frozen BK228.out 3; have hfz12_4 := blk_frozen BK228.out 4) | ((with_reducible refine gate_callee (f := 31) rfl ?_); refine gL (some 5) Tryz.func31 #[.slice A0_0 l0_0.length c0_0, .int .i64 0, .int .i64 59] ?_; (with_reducible refine (spec_l10List.calls k _ _ l0_0 0 59 true _ ?side1 ?side2 A2.out).mono ?_); (case side1 => exact uC HR0_0 HB); (case side2 => exact HC0_0.out); rintro e w' ⟨rfl, ⟨nd, rfl⟩⟩; refine ⟨_, rfl, ?_⟩) | (go_at_call 31; (with_reducible refine (spec_l10List.calls k _ _ l0_1 0 23 true _ ?side1 ?side2 A4.out).mono ?_); (case side1 => repeat (first | exact (Kd.C_below HR0_1.out (uL HB)) | (with_reducible refine cA ?_ _) | (with_reducible refine cN ?_ _) | (with_reducible refine cD ?_))); (case side2 => exact HC0_1.out); rintro e w' ⟨rfl, ⟨nd, rfl⟩⟩) | (go_at_call 31; (with_reducible refine (spec_l10List.calls k _ _ l0_2 1 31 true _ ?side1 ?side2 A6.out).mono ?_); (case side1 => repeat (first | exact (Kd.C_below HR0_2.out (uL HB)) | (with_reducible refine cA ?_ _) | (with_reducible refine cN ?_ _) | (with_reducible refine cD ?_))); (case side2 => exact HC0_2.out); rintro e w' ⟨rfl, ⟨nd, rfl⟩⟩) | (go_at_call 31; (with_reducible refine (spec_l10List.calls k _ _ l0_3 1 12 true _ ?side1 ?side2 A8.out).mono ?_); (case side1 => repeat (first | exact (Kd.C_below HR0_3.out (uL HB)) | (with_reducible refine cA ?_ _) | (with_reducible refine cN ?_ _) | (with_reducible refine cD ?_))); (case side2 => exact HC0_3.out); rintro e w' ⟨rfl, ⟨nd, rfl⟩⟩) | (go_at_call 31; (with_reducible refine (spec_l10List.calls k _ _ l0_4 0 6 t233 _ ?side1 ?side2 A10.out).mono ?_); (case side1 => repeat (first | exact (Kd.C_below HR0_4.out (uL HB)) | (with_reducible refine cA ?_ _) | (with_reducible refine cN ?_ _) | (with_reducible refine cD ?_))); (case side2 => exact HC0_4.out); rintro e w' ⟨rfl, ⟨nd, rfl⟩⟩))
     go_ret
     exact rX HB
    ·replace c9 := Bool.eq_false_iff.mpr c9
     subst c9
     have H1 : (some false) = some r := by rw [if_neg (show ¬ (false = true) by decide)] at H; exact H
     clear H; have H := H1; clear H1
     obtain rfl := Option.some.inj H
     go_enter Tryz.func13, Tryz.ntmps13
     go_wp2_with (first | ((with_reducible refine gate_dst (N := 1) rfl ?_); refine bxE 1 #[.slice A0_0 l0_0.length c0_0, .slice A0_1 l0_1.length c0_1, .slice A0_2 l0_2.length c0_2, .slice A0_3 l0_3.length c0_3, .slice A0_4 l0_4.length c0_4] 26 ?_; intro gb228 hg w13 hbox hb; have BK228 := aM (hbox); have GW228 := szG hg (uL HB); have GE228 := szG hg (uL HB); replace HB := aM (below_step (uL HB) hb); clear hb hbox hg; have hcz14_0 := czA BK228.out 0 (.slice A0_0 l0_0.length c0_0); have hcz14_1 := czA BK228.out 1 (.slice A0_1 l0_1.length c0_1); have hcz14_2 := czA BK228.out 2 (.slice A0_2 l0_2.length c0_2); have hcz14_3 := czA BK228.out 3 (.slice A0_3 l0_3.length c0_3); have hcz14_4 := czA BK228.out 4 (.slice A0_4 l0_4.length c0_4); have hfz14_0 := blk_frozen BK228.out 0; have hfz14_1 := blk_frozen BK228.out 1; have hfz14_2 := blk_frozen BK228.out 2; have hfz14_3 := blk_frozen BK228.out 3; have hfz14_4 := blk_frozen BK228.out 4) | ((with_reducible refine gate_callee (f := 31) rfl ?_); refine gL (some 5) Tryz.func31 #[.slice A0_0 l0_0.length c0_0, .int .i64 0, .int .i64 59] ?_; (with_reducible refine (spec_l10List.calls k _ _ l0_0 0 59 true _ ?side1 ?side2 A2.out).mono ?_); (case side1 => exact uC HR0_0 HB); (case side2 => exact HC0_0.out); rintro e w' ⟨rfl, ⟨nd, rfl⟩⟩; refine ⟨_, rfl, ?_⟩) | (go_at_call 31; (with_reducible refine (spec_l10List.calls k _ _ l0_1 0 23 true _ ?side1 ?side2 A4.out).mono ?_); (case side1 => repeat (first | exact (Kd.C_below HR0_1.out (uL HB)) | (with_reducible refine cA ?_ _) | (with_reducible refine cN ?_ _) | (with_reducible refine cD ?_))); (case side2 => exact HC0_1.out); rintro e w' ⟨rfl, ⟨nd, rfl⟩⟩) | (go_at_call 31; (with_reducible refine (spec_l10List.calls k _ _ l0_2 1 31 true _ ?side1 ?side2 A6.out).mono ?_); (case side1 => repeat (first | exact (Kd.C_below HR0_2.out (uL HB)) | (with_reducible refine cA ?_ _) | (with_reducible refine cN ?_ _) | (with_reducible refine cD ?_))); (case side2 => exact HC0_2.out); rintro e w' ⟨rfl, ⟨nd, rfl⟩⟩) | (go_at_call 31; (with_reducible refine (spec_l10List.calls k _ _ l0_3 1 12 false _ ?side1 ?side2 A8.out).mono ?_); (case side1 => repeat (first | exact (Kd.C_below HR0_3.out (uL HB)) | (with_reducible refine cA ?_ _) | (with_reducible refine cN ?_ _) | (with_reducible refine cD ?_))); (case side2 => exact HC0_3.out); rintro e w' ⟨rfl, ⟨nd, rfl⟩⟩))
     go_ret
     exact rX HB
   ·replace c7 := Bool.eq_false_iff.mpr c7
    subst c7
    have H1 : (some false) = some r := by rw [if_neg (show ¬ (false = true) by decide)] at H; exact H
    clear H; have H := H1; clear H1
    obtain rfl := Option.some.inj H
    go_enter Tryz.func13, Tryz.ntmps13
    go_wp2_with (first | ((with_reducible refine gate_dst (N := 1) rfl ?_); refine bxE 1 #[.slice A0_0 l0_0.length c0_0, .slice A0_1 l0_1.length c0_1, .slice A0_2 l0_2.length c0_2, .slice A0_3 l0_3.length c0_3, .slice A0_4 l0_4.length c0_4] 26 ?_; intro gb228 hg w15 hbox hb; have BK228 := aM (hbox); have GW228 := szG hg (uL HB); have GE228 := szG hg (uL HB); replace HB := aM (below_step (uL HB) hb); clear hb hbox hg; have hcz16_0 := czA BK228.out 0 (.slice A0_0 l0_0.length c0_0); have hcz16_1 := czA BK228.out 1 (.slice A0_1 l0_1.length c0_1); have hcz16_2 := czA BK228.out 2 (.slice A0_2 l0_2.length c0_2); have hcz16_3 := czA BK228.out 3 (.slice A0_3 l0_3.length c0_3); have hcz16_4 := czA BK228.out 4 (.slice A0_4 l0_4.length c0_4); have hfz16_0 := blk_frozen BK228.out 0; have hfz16_1 := blk_frozen BK228.out 1; have hfz16_2 := blk_frozen BK228.out 2; have hfz16_3 := blk_frozen BK228.out 3; have hfz16_4 := blk_frozen BK228.out 4) | ((with_reducible refine gate_callee (f := 31) rfl ?_); refine gL (some 5) Tryz.func31 #[.slice A0_0 l0_0.length c0_0, .int .i64 0, .int .i64 59] ?_; (with_reducible refine (spec_l10List.calls k _ _ l0_0 0 59 true _ ?side1 ?side2 A2.out).mono ?_); (case side1 => exact uC HR0_0 HB); (case side2 => exact HC0_0.out); rintro e w' ⟨rfl, ⟨nd, rfl⟩⟩; refine ⟨_, rfl, ?_⟩) | (go_at_call 31; (with_reducible refine (spec_l10List.calls k _ _ l0_1 0 23 true _ ?side1 ?side2 A4.out).mono ?_); (case side1 => repeat (first | exact (Kd.C_below HR0_1.out (uL HB)) | (with_reducible refine cA ?_ _) | (with_reducible refine cN ?_ _) | (with_reducible refine cD ?_))); (case side2 => exact HC0_1.out); rintro e w' ⟨rfl, ⟨nd, rfl⟩⟩) | (go_at_call 31; (with_reducible refine (spec_l10List.calls k _ _ l0_2 1 31 false _ ?side1 ?side2 A6.out).mono ?_); (case side1 => repeat (first | exact (Kd.C_below HR0_2.out (uL HB)) | (with_reducible refine cA ?_ _) | (with_reducible refine cN ?_ _) | (with_reducible refine cD ?_))); (case side2 => exact HC0_2.out); rintro e w' ⟨rfl, ⟨nd, rfl⟩⟩))
    go_ret
    exact rX HB
  ·replace c5 := Bool.eq_false_iff.mpr c5
   subst c5
   have H1 : (some false) = some r := by rw [if_neg (show ¬ (false = true) by decide)] at H; exact H
   clear H; have H := H1; clear H1
   obtain rfl := Option.some.inj H
   go_enter Tryz.func13, Tryz.ntmps13
   go_wp2_with (first | ((with_reducible refine gate_dst (N := 1) rfl ?_); refine bxE 1 #[.slice A0_0 l0_0.length c0_0, .slice A0_1 l0_1.length c0_1, .slice A0_2 l0_2.length c0_2, .slice A0_3 l0_3.length c0_3, .slice A0_4 l0_4.length c0_4] 26 ?_; intro gb228 hg w17 hbox hb; have BK228 := aM (hbox); have GW228 := szG hg (uL HB); have GE228 := szG hg (uL HB); replace HB := aM (below_step (uL HB) hb); clear hb hbox hg; have hcz18_0 := czA BK228.out 0 (.slice A0_0 l0_0.length c0_0); have hcz18_1 := czA BK228.out 1 (.slice A0_1 l0_1.length c0_1); have hcz18_2 := czA BK228.out 2 (.slice A0_2 l0_2.length c0_2); have hcz18_3 := czA BK228.out 3 (.slice A0_3 l0_3.length c0_3); have hcz18_4 := czA BK228.out 4 (.slice A0_4 l0_4.length c0_4); have hfz18_0 := blk_frozen BK228.out 0; have hfz18_1 := blk_frozen BK228.out 1; have hfz18_2 := blk_frozen BK228.out 2; have hfz18_3 := blk_frozen BK228.out 3; have hfz18_4 := blk_frozen BK228.out 4) | ((with_reducible refine gate_callee (f := 31) rfl ?_); refine gL (some 5) Tryz.func31 #[.slice A0_0 l0_0.length c0_0, .int .i64 0, .int .i64 59] ?_; (with_reducible refine (spec_l10List.calls k _ _ l0_0 0 59 true _ ?side1 ?side2 A2.out).mono ?_); (case side1 => exact uC HR0_0 HB); (case side2 => exact HC0_0.out); rintro e w' ⟨rfl, ⟨nd, rfl⟩⟩; refine ⟨_, rfl, ?_⟩) | (go_at_call 31; (with_reducible refine (spec_l10List.calls k _ _ l0_1 0 23 false _ ?side1 ?side2 A4.out).mono ?_); (case side1 => repeat (first | exact (Kd.C_below HR0_1.out (uL HB)) | (with_reducible refine cA ?_ _) | (with_reducible refine cN ?_ _) | (with_reducible refine cD ?_))); (case side2 => exact HC0_1.out); rintro e w' ⟨rfl, ⟨nd, rfl⟩⟩))
   go_ret
   exact rX HB
 ·replace c3 := Bool.eq_false_iff.mpr c3
  subst c3
  have H1 : (some false) = some r := by rw [if_neg (show ¬ (false = true) by decide)] at H; exact H
  clear H; have H := H1; clear H1
  obtain rfl := Option.some.inj H
  go_enter Tryz.func13, Tryz.ntmps13
  go_wp2_with (first | ((with_reducible refine gate_dst (N := 1) rfl ?_); refine bxE 1 #[.slice A0_0 l0_0.length c0_0, .slice A0_1 l0_1.length c0_1, .slice A0_2 l0_2.length c0_2, .slice A0_3 l0_3.length c0_3, .slice A0_4 l0_4.length c0_4] 26 ?_; intro gb228 hg w19 hbox hb; have BK228 := aM (hbox); have GW228 := szG hg (uL HB); have GE228 := szG hg (uL HB); replace HB := aM (below_step (uL HB) hb); clear hb hbox hg; have hcz20_0 := czA BK228.out 0 (.slice A0_0 l0_0.length c0_0); have hcz20_1 := czA BK228.out 1 (.slice A0_1 l0_1.length c0_1); have hcz20_2 := czA BK228.out 2 (.slice A0_2 l0_2.length c0_2); have hcz20_3 := czA BK228.out 3 (.slice A0_3 l0_3.length c0_3); have hcz20_4 := czA BK228.out 4 (.slice A0_4 l0_4.length c0_4); have hfz20_0 := blk_frozen BK228.out 0; have hfz20_1 := blk_frozen BK228.out 1; have hfz20_2 := blk_frozen BK228.out 2; have hfz20_3 := blk_frozen BK228.out 3; have hfz20_4 := blk_frozen BK228.out 4) | ((with_reducible refine gate_callee (f := 31) rfl ?_); refine gL (some 5) Tryz.func31 #[.slice A0_0 l0_0.length c0_0, .int .i64 0, .int .i64 59] ?_; (with_reducible refine (spec_l10List.calls k _ _ l0_0 0 59 false _ ?side1 ?side2 A2.out).mono ?_); (case side1 => exact uC HR0_0 HB); (case side2 => exact HC0_0.out); rintro e w' ⟨rfl, ⟨nd, rfl⟩⟩; refine ⟨_, rfl, ?_⟩))
  go_ret
  exact rX HB

/-! ### spec_l01Figure: function 59 -/
def spec_l01Figure.f (a0 : Int) : Option (Int) := if a0 < 10 then (some ((wrap64 (48 + a0)) % 256)) else (some ((wrap64 ((wrap64 (97 + a0)) - 10)) % 256))
set_option maxHeartbeats 8000000 in
set_option maxRecDepth 100000 in
theorem spec_l01Figure.calls (a0 : Int) (r : Int) (w : World) (h : spec_l01Figure.f a0 = some r) :
 Calls Tryz.prog 59 #[.int .i64 a0] w fun e w' => e = .returned (.int .u8 r) ∧ Drawn0 w w' := by
 have H : (if a0 < 10 then (some ((wrap64 (48 + a0)) % 256)) else (some ((wrap64 ((wrap64 (97 + a0)) - 10)) % 256))) = some r := h
 clear h
 by_cases c2 : a0 < 10
 ·rw [if_pos c2] at H
  have c2b0 : decide (a0 < 10) = true := decide_eq_true c2
  clear c2
  obtain rfl := Option.some.inj H
  go_enter Tryz.func59, Tryz.ntmps59
  go_wp2
  go_ret
  exact ⟨by first | rfl | (simp; done) | (simp [*]; done), by repeat (first | exact Drawn0.refl _ | apply Drawn0.step)⟩
 ·rw [if_neg c2] at H
  have c2b0 : decide (a0 < 10) = false := decide_eq_false c2
  clear c2
  obtain rfl := Option.some.inj H
  go_enter Tryz.func59, Tryz.ntmps59
  go_wp2
  go_ret
  exact ⟨by first | rfl | (simp; done) | (simp [*]; done), by repeat (first | exact Drawn0.refl _ | apply Drawn0.step)⟩

end Go.Proofs.YthomiofokkkhgaaGreatDoor.QFnRules
